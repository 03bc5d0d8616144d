/-
  Part 6 of what the claim leans on: an evaluator of the model, proved sound; the contracts of the functions.
-/
import Derived.Test.YtiacfeojfabghaaA5
/-
  PLAIN: what reflections come to.
-/
namespace Go.Plb.Seat
open Go Go.Plb
set_option linter.unusedSimpArgs false
set_option linter.unusedVariables false

def oneF (n j : Nat) : List Nat := setF (fun i => i * n + i) (fun _ => 4607182418800017408) (List.replicate (n * n) 0) j
theorem oneF_len {n j : Nat} : (oneF n j).length = n * n := by simp only [oneF, setF_len, List.length_replicate]

/-- The reflections put on, from the last one. -/
def qF (vs : List (List Nat)) (ts : List Nat) (n m : Nat) (j : Nat) : List Nat := iterF (fun j q => leftF q (vs.getD (m - 1 - j) []) n (m - j) (m - j) (ts.getD (m - 1 - j) 0)) (oneF n n) j
theorem qF_len {vs : List (List Nat)} {ts : List Nat} {n m : Nat} : ∀ {j : Nat}, (qF vs ts n m j).length = n * n
  | 0 => oneF_len
  | j + 1 => by simp only [qF, iterF, leftF, rflF_len]; exact qF_len (j := j)

/-- Do they fit? -/
def fitsN (n m : Nat) (vs : List (List Nat)) : Prop := n ≤ 512 ∧ m = n - 2 ∧ ∀ k, k < m → (vs.getD k []).length = n - 1 - k

theorem One_spec {n : Nat} (h : n ≤ 512) : ref10_One_F (n : Int) = some (.r0 n (n * n) (oneF n n)) := by
  have hs := sq_bd h
  have hc : (n : Int) * (n : Int) = ((n * n : Nat) : Int) := (Int.natCast_mul n n).symm
  refine toX_of (seqM_in (a := (n * n, List.replicate (n * n) 0)) ?_ (seqM_in (a := oneF n n) ?_ rfl))
  · unfold ref10_One_t7
    rw [hc]
    (repeat (refine T.nd (by simp only [inK_i64, inB_i, leB_i, ltB_iff, leN_iff, slOk_iff, ble_iff, blt_iff, decide_eq_true_eq, decide_eq_false_iff_not, beq_iff_eq, beq_eq_false_iff_ne, bne_iff_ne, bne_eq_false_iff_eq, Bool.not_eq_true', Bool.not_eq_false', List.length_set, ne_eq, ge_iff_le, gt_iff_lt, setF_len, toNat_cast, lenOk]; omega) ?_))
    rfl
  · refine loopM_at (fun j => (j, oneF n j)) n rfl (fun j hj => ?_) (T.af (by simp only [inK_i64, inB_i, leB_i, ltB_iff, leN_iff, slOk_iff, ble_iff, blt_iff, decide_eq_true_eq, decide_eq_false_iff_not, beq_iff_eq, beq_eq_false_iff_ne, bne_iff_ne, bne_eq_false_iff_eq, Bool.not_eq_true', Bool.not_eq_false', List.length_set, ne_eq, ge_iff_le, gt_iff_lt, setF_len, toNat_cast, lenOk]; omega) rfl)
    have h := idxOb (x := j) (idx_lt hj hj) (by omega) (by omega)
    have hl := oneF_len (n := n) (j := j)
    show (ref10_One_t9 _ _ _ _).run = _
    unfold ref10_One_t9
    rw [hl, h.f]
    exact T.at (by simp only [inK_i64, inB_i, leB_i, ltB_iff, leN_iff, slOk_iff, ble_iff, blt_iff, decide_eq_true_eq, decide_eq_false_iff_not, beq_iff_eq, beq_eq_false_iff_ne, bne_iff_ne, bne_eq_false_iff_eq, Bool.not_eq_true', Bool.not_eq_false', List.length_set, ne_eq, ge_iff_le, gt_iff_lt, setF_len, toNat_cast, lenOk]; omega) (T.nd h.b (T.nd h.c (T.nd h.d (T.nd (by rw [ltB_iff]; exact idx_lt hj hj) (T.nd (by simp only [inK_i64, inB_i, leB_i, ltB_iff, leN_iff, slOk_iff, ble_iff, blt_iff, decide_eq_true_eq, decide_eq_false_iff_not, beq_iff_eq, beq_eq_false_iff_ne, bne_iff_ne, bne_eq_false_iff_eq, Bool.not_eq_true', Bool.not_eq_false', List.length_set, ne_eq, ge_iff_le, gt_iff_lt, setF_len, toNat_cast, lenOk]; omega) rfl)))))

theorem Q_step {n m k : Nat} {q : List Nat} {vs : List (List Nat)} (hn : n ≤ 512) (hm : m = n - 2) (hk : k < m) (hq : q.length = n * n) (hv : (vs.getD k []).length = n - 1 - k) (t : Nat) :
    reflect_Left_F (n : Int) (n : Int) q ((k : Int) + 1) ((k : Int) + 1) (vs.getD k []) t = some (.r1 n n (n * n) (leftF q (vs.getD k []) n (k + 1) (k + 1) t))
    ∧ ref09_Left_F (n : Int) (n : Int) q ((k : Int) + 1) ((k : Int) + 1) (vs.getD k []) t = some (.r0 n n (n * n) (leftF q (vs.getD k []) n (k + 1) (k + 1) t)) := by
  rw [← hq]
  exact ⟨Left_spec (at_ := k + 1) (frm := k + 1) hq hn hn (by omega) (by omega) (by omega), Left9_spec (at_ := k + 1) (frm := k + 1) hq hn hn (by omega) (by omega)⟩

/-- The loop's state: k runs down from m - 1. -/
def qSt (vs : List (List Nat)) (ts : List Nat) (n m j : Nat) : Int × Int × Int × Nat × Nat × List Nat := (((m : Int) - 1 - j), (n : Int), (n : Int), n * n, n * n, qF vs ts n m j)

theorem rQ_spec {n m : Nat} {vs : List (List Nat)} {ts : List Nat} (h : fitsN n m vs) (hvs : vs.length = m) (hts : ts.length = m) : ref10_Q_F (n : Int) m vs ts = some (.r0 n n (n * n) (n * n) (qF vs ts n m m)) := by
  obtain ⟨hn, hm, hf⟩ := h
  have hs := sq_bd hn
  refine toX_of (seqM_in (a := ((n : Int), n * n, oneF n n)) ?_ (seqM_in (a := (m : Int) - 1) (T.nd (by simp only [inK_i64, inB_i, leB_i, ltB_iff, leN_iff, slOk_iff, ble_iff, blt_iff, decide_eq_true_eq, decide_eq_false_iff_not, beq_iff_eq, beq_eq_false_iff_ne, bne_iff_ne, bne_eq_false_iff_eq, Bool.not_eq_true', Bool.not_eq_false', List.length_set, ne_eq, ge_iff_le, gt_iff_lt, setF_len, toNat_cast, lenOk]; omega) rfl) (seqM_in (a := ((n : Int), (n : Int), n * n, n * n, qF vs ts n m m)) ?_ rfl)))
  · unfold ref10_Q_t10
    rw [One_spec hn]; exact T.nd rfl rfl
  · refine loopM_at (qSt vs ts n m) m ?_ (fun j hj => ?_) ?_
    · simp only [qSt, qF, iterF]; congr 1; omega
    · show seqM (ref10_Q_t13 _ _ _ _ _ _ _ _ _).run _ = _
      have hql := qF_len (vs := vs) (ts := ts) (n := n) (m := m) (j := j)
      have hk : ((m : Int) - 1 - j) = ((m - 1 - j : Nat) : Int) := by omega
      have e := (Q_step (k := m - 1 - j) (vs := vs) hn hm (by omega) hql (hf _ (by omega)) (ts.getD (m - 1 - j) 0)).2
      refine seqM_in (a := ((n : Int), (n : Int), n * n, qF vs ts n m (j + 1))) ?_ (T.nd (by simp only [inK_i64, inB_i, leB_i, ltB_iff, leN_iff, slOk_iff, ble_iff, blt_iff, decide_eq_true_eq, decide_eq_false_iff_not, beq_iff_eq, beq_eq_false_iff_ne, bne_iff_ne, bne_eq_false_iff_eq, Bool.not_eq_true', Bool.not_eq_false', List.length_set, ne_eq, ge_iff_le, gt_iff_lt, setF_len, toNat_cast, lenOk]; omega) ?_)
      · unfold ref10_Q_t13
        rw [hk]
        simp only [toNat_cast]
        rw [cutL_to hql, cutL_all, e]
        refine T.at (by simp only [inK_i64, inB_i, leB_i, ltB_iff, leN_iff, slOk_iff, ble_iff, blt_iff, decide_eq_true_eq, decide_eq_false_iff_not, beq_iff_eq, beq_eq_false_iff_ne, bne_iff_ne, bne_eq_false_iff_eq, Bool.not_eq_true', Bool.not_eq_false', List.length_set, ne_eq, ge_iff_le, gt_iff_lt, setF_len, toNat_cast, lenOk]; omega) (T.nd (by simp only [inK_i64, inB_i, leB_i, ltB_iff, leN_iff, slOk_iff, ble_iff, blt_iff, decide_eq_true_eq, decide_eq_false_iff_not, beq_iff_eq, beq_eq_false_iff_ne, bne_iff_ne, bne_eq_false_iff_eq, Bool.not_eq_true', Bool.not_eq_false', List.length_set, ne_eq, ge_iff_le, gt_iff_lt, setF_len, toNat_cast, lenOk]; omega) (T.nd (by simp only [inK_i64, inB_i, leB_i, ltB_iff, leN_iff, slOk_iff, ble_iff, blt_iff, decide_eq_true_eq, decide_eq_false_iff_not, beq_iff_eq, beq_eq_false_iff_ne, bne_iff_ne, bne_eq_false_iff_eq, Bool.not_eq_true', Bool.not_eq_false', List.length_set, ne_eq, ge_iff_le, gt_iff_lt, setF_len, toNat_cast, lenOk]; omega) (T.nd (by simp only [inK_i64, inB_i, leB_i, ltB_iff, leN_iff, slOk_iff, ble_iff, blt_iff, decide_eq_true_eq, decide_eq_false_iff_not, beq_iff_eq, beq_eq_false_iff_ne, bne_iff_ne, bne_eq_false_iff_eq, Bool.not_eq_true', Bool.not_eq_false', List.length_set, ne_eq, ge_iff_le, gt_iff_lt, setF_len, toNat_cast, lenOk]; omega) (T.nd (by simp only [inK_i64, inB_i, leB_i, ltB_iff, leN_iff, slOk_iff, ble_iff, blt_iff, decide_eq_true_eq, decide_eq_false_iff_not, beq_iff_eq, beq_eq_false_iff_ne, bne_iff_ne, bne_eq_false_iff_eq, Bool.not_eq_true', Bool.not_eq_false', List.length_set, ne_eq, ge_iff_le, gt_iff_lt, setF_len, toNat_cast, lenOk]; omega) (T.nd (by simp only [inK_i64, inB_i, leB_i, ltB_iff, leN_iff, slOk_iff, ble_iff, blt_iff, decide_eq_true_eq, decide_eq_false_iff_not, beq_iff_eq, beq_eq_false_iff_ne, bne_iff_ne, bne_eq_false_iff_eq, Bool.not_eq_true', Bool.not_eq_false', List.length_set, ne_eq, ge_iff_le, gt_iff_lt, setF_len, toNat_cast, lenOk]; omega) (T.nd ?_ (T.nd (slOk_all _) (T.nd rfl ?_))))))))
        · rw [← hql]; exact slOk_all _
        · have e2 : m - j = m - 1 - j + 1 := by omega
          simp only [ref10_Q_t13, qF, iterF, e2]; rfl
      · show some (Sum.inl _) = _
        simp only [qSt]; congr 3; omega
    · exact seqM_out (T.af (by simp only [inK_i64, inB_i, leB_i, ltB_iff, leN_iff, slOk_iff, ble_iff, blt_iff, decide_eq_true_eq, decide_eq_false_iff_not, beq_iff_eq, beq_eq_false_iff_ne, bne_iff_ne, bne_eq_false_iff_eq, Bool.not_eq_true', Bool.not_eq_false', List.length_set, ne_eq, ge_iff_le, gt_iff_lt, setF_len, toNat_cast, lenOk]; omega) rfl)

theorem tQ_spec {n m : Nat} {vs : List (List Nat)} {ts : List Nat} (h : fitsN n m vs) (hvs : vs.length = m) (hts : ts.length = m) : tridiag_Q_F (n : Int) m vs ts = some (.r1 n n (n * n) (n * n) (qF vs ts n m m)) := by
  obtain ⟨hn, hm, hf⟩ := h
  have hs := sq_bd hn
  have hc : (n : Int) * (n : Int) = ((n * n : Nat) : Int) := (Int.natCast_mul n n).symm
  refine toX_of (seqM_in (a := false) ?_ (seqM_in (a := ()) (T.af rfl rfl) (seqM_in (a := ()) ?_ (seqM_in (a := (n * n, List.replicate (n * n) 0)) ?_ (seqM_in (a := oneF n n) ?_ (seqM_in (a := (m : Int) - 1) (T.nd (by simp only [inK_i64, inB_i, leB_i, ltB_iff, leN_iff, slOk_iff, ble_iff, blt_iff, decide_eq_true_eq, decide_eq_false_iff_not, beq_iff_eq, beq_eq_false_iff_ne, bne_iff_ne, bne_eq_false_iff_eq, Bool.not_eq_true', Bool.not_eq_false', List.length_set, ne_eq, ge_iff_le, gt_iff_lt, setF_len, toNat_cast, lenOk]; omega) rfl) (seqM_in (a := ((n : Int), (n : Int), n * n, n * n, qF vs ts n m m)) ?_ rfl)))))))
  · unfold tridiag_Q_t20
    refine T.af (by simp only [inK_i64, inB_i, leB_i, ltB_iff, leN_iff, slOk_iff, ble_iff, blt_iff, decide_eq_true_eq, decide_eq_false_iff_not, beq_iff_eq, beq_eq_false_iff_ne, bne_iff_ne, bne_eq_false_iff_eq, Bool.not_eq_true', Bool.not_eq_false', List.length_set, ne_eq, ge_iff_le, gt_iff_lt, setF_len, toNat_cast, lenOk]; omega) (T.af (by simp only [inK_i64, inB_i, leB_i, ltB_iff, leN_iff, slOk_iff, ble_iff, blt_iff, decide_eq_true_eq, decide_eq_false_iff_not, beq_iff_eq, beq_eq_false_iff_ne, bne_iff_ne, bne_eq_false_iff_eq, Bool.not_eq_true', Bool.not_eq_false', List.length_set, ne_eq, ge_iff_le, gt_iff_lt, setF_len, toNat_cast, lenOk]; omega) (T.nd (by simp only [inK_i64, inB_i, leB_i, ltB_iff, leN_iff, slOk_iff, ble_iff, blt_iff, decide_eq_true_eq, decide_eq_false_iff_not, beq_iff_eq, beq_eq_false_iff_ne, bne_iff_ne, bne_eq_false_iff_eq, Bool.not_eq_true', Bool.not_eq_false', List.length_set, ne_eq, ge_iff_le, gt_iff_lt, setF_len, toNat_cast, lenOk]; omega) ?_))
    show some (Sum.inl _) = _
    congr 2; simp only [bne_eq_false_iff_eq, imax]; split <;> omega
  · refine loopM_at (fun j => j) m rfl (fun j hj => ?_) (T.af (by simp only [inK_i64, inB_i, leB_i, ltB_iff, leN_iff, slOk_iff, ble_iff, blt_iff, decide_eq_true_eq, decide_eq_false_iff_not, beq_iff_eq, beq_eq_false_iff_ne, bne_iff_ne, bne_eq_false_iff_eq, Bool.not_eq_true', Bool.not_eq_false', List.length_set, ne_eq, ge_iff_le, gt_iff_lt, setF_len, toNat_cast, lenOk]; omega) rfl)
    show (tridiag_Q_t23 _ _ _ _ _).run = _
    have := hf j hj
    unfold tridiag_Q_t23
    refine T.at (by simp only [inK_i64, inB_i, leB_i, ltB_iff, leN_iff, slOk_iff, ble_iff, blt_iff, decide_eq_true_eq, decide_eq_false_iff_not, beq_iff_eq, beq_eq_false_iff_ne, bne_iff_ne, bne_eq_false_iff_eq, Bool.not_eq_true', Bool.not_eq_false', List.length_set, ne_eq, ge_iff_le, gt_iff_lt, setF_len, toNat_cast, lenOk]; omega) ?_
    (refine T.nd (by simp only [inK_i64, inB_i, leB_i, ltB_iff, leN_iff, slOk_iff, ble_iff, blt_iff, decide_eq_true_eq, decide_eq_false_iff_not, beq_iff_eq, beq_eq_false_iff_ne, bne_iff_ne, bne_eq_false_iff_eq, Bool.not_eq_true', Bool.not_eq_false', List.length_set, ne_eq, ge_iff_le, gt_iff_lt, setF_len, toNat_cast, lenOk]; omega) ?_; refine T.nd (by simp only [inK_i64, inB_i, leB_i, ltB_iff, leN_iff, slOk_iff, ble_iff, blt_iff, decide_eq_true_eq, decide_eq_false_iff_not, beq_iff_eq, beq_eq_false_iff_ne, bne_iff_ne, bne_eq_false_iff_eq, Bool.not_eq_true', Bool.not_eq_false', List.length_set, ne_eq, ge_iff_le, gt_iff_lt, setF_len, toNat_cast, lenOk]; omega) ?_; refine T.nd (by simp only [inK_i64, inB_i, leB_i, ltB_iff, leN_iff, slOk_iff, ble_iff, blt_iff, decide_eq_true_eq, decide_eq_false_iff_not, beq_iff_eq, beq_eq_false_iff_ne, bne_iff_ne, bne_eq_false_iff_eq, Bool.not_eq_true', Bool.not_eq_false', List.length_set, ne_eq, ge_iff_le, gt_iff_lt, setF_len, toNat_cast, lenOk]; omega) ?_; refine T.nd (by simp only [inK_i64, inB_i, leB_i, ltB_iff, leN_iff, slOk_iff, ble_iff, blt_iff, decide_eq_true_eq, decide_eq_false_iff_not, beq_iff_eq, beq_eq_false_iff_ne, bne_iff_ne, bne_eq_false_iff_eq, Bool.not_eq_true', Bool.not_eq_false', List.length_set, ne_eq, ge_iff_le, gt_iff_lt, setF_len, toNat_cast, lenOk]; omega) ?_; refine T.nd (by simp only [inK_i64, inB_i, leB_i, ltB_iff, leN_iff, slOk_iff, ble_iff, blt_iff, decide_eq_true_eq, decide_eq_false_iff_not, beq_iff_eq, beq_eq_false_iff_ne, bne_iff_ne, bne_eq_false_iff_eq, Bool.not_eq_true', Bool.not_eq_false', List.length_set, ne_eq, ge_iff_le, gt_iff_lt, setF_len, toNat_cast, lenOk]; omega) ?_)
    exact T.af (by simp only [inK_i64, inB_i, leB_i, ltB_iff, leN_iff, slOk_iff, ble_iff, blt_iff, decide_eq_true_eq, decide_eq_false_iff_not, beq_iff_eq, beq_eq_false_iff_ne, bne_iff_ne, bne_eq_false_iff_eq, Bool.not_eq_true', Bool.not_eq_false', List.length_set, ne_eq, ge_iff_le, gt_iff_lt, setF_len, toNat_cast, lenOk]; omega) (T.nd (by simp only [inK_i64, inB_i, leB_i, ltB_iff, leN_iff, slOk_iff, ble_iff, blt_iff, decide_eq_true_eq, decide_eq_false_iff_not, beq_iff_eq, beq_eq_false_iff_ne, bne_iff_ne, bne_eq_false_iff_eq, Bool.not_eq_true', Bool.not_eq_false', List.length_set, ne_eq, ge_iff_le, gt_iff_lt, setF_len, toNat_cast, lenOk]; omega) rfl)
  · unfold tridiag_Q_t25
    rw [hc]
    (repeat (refine T.nd (by simp only [inK_i64, inB_i, leB_i, ltB_iff, leN_iff, slOk_iff, ble_iff, blt_iff, decide_eq_true_eq, decide_eq_false_iff_not, beq_iff_eq, beq_eq_false_iff_ne, bne_iff_ne, bne_eq_false_iff_eq, Bool.not_eq_true', Bool.not_eq_false', List.length_set, ne_eq, ge_iff_le, gt_iff_lt, setF_len, toNat_cast, lenOk]; omega) ?_))
    rfl
  · refine loopM_at (fun j => (j, oneF n j)) n rfl (fun j hj => ?_) (T.af (by simp only [inK_i64, inB_i, leB_i, ltB_iff, leN_iff, slOk_iff, ble_iff, blt_iff, decide_eq_true_eq, decide_eq_false_iff_not, beq_iff_eq, beq_eq_false_iff_ne, bne_iff_ne, bne_eq_false_iff_eq, Bool.not_eq_true', Bool.not_eq_false', List.length_set, ne_eq, ge_iff_le, gt_iff_lt, setF_len, toNat_cast, lenOk]; omega) rfl)
    have h := idxOb (x := j) (idx_lt hj hj) (by omega) (by omega)
    have hl := oneF_len (n := n) (j := j)
    show (tridiag_Q_t27 _ _ _ _).run = _
    unfold tridiag_Q_t27
    rw [hl, h.f]
    exact T.at (by simp only [inK_i64, inB_i, leB_i, ltB_iff, leN_iff, slOk_iff, ble_iff, blt_iff, decide_eq_true_eq, decide_eq_false_iff_not, beq_iff_eq, beq_eq_false_iff_ne, bne_iff_ne, bne_eq_false_iff_eq, Bool.not_eq_true', Bool.not_eq_false', List.length_set, ne_eq, ge_iff_le, gt_iff_lt, setF_len, toNat_cast, lenOk]; omega) (T.nd h.b (T.nd h.c (T.nd h.d (T.nd (by rw [ltB_iff]; exact idx_lt hj hj) (T.nd (by simp only [inK_i64, inB_i, leB_i, ltB_iff, leN_iff, slOk_iff, ble_iff, blt_iff, decide_eq_true_eq, decide_eq_false_iff_not, beq_iff_eq, beq_eq_false_iff_ne, bne_iff_ne, bne_eq_false_iff_eq, Bool.not_eq_true', Bool.not_eq_false', List.length_set, ne_eq, ge_iff_le, gt_iff_lt, setF_len, toNat_cast, lenOk]; omega) rfl)))))
  · refine loopM_at (qSt vs ts n m) m ?_ (fun j hj => ?_) ?_
    · simp only [qSt, qF, iterF]; congr 1; omega
    · show seqM (tridiag_Q_t31 _ _ _ _ _ _ _ _ _).run _ = _
      have hql := qF_len (vs := vs) (ts := ts) (n := n) (m := m) (j := j)
      have hk : ((m : Int) - 1 - j) = ((m - 1 - j : Nat) : Int) := by omega
      have e := (Q_step (k := m - 1 - j) (vs := vs) hn hm (by omega) hql (hf _ (by omega)) (ts.getD (m - 1 - j) 0)).1
      refine seqM_in (a := ((n : Int), (n : Int), n * n, qF vs ts n m (j + 1))) ?_ (T.nd (by simp only [inK_i64, inB_i, leB_i, ltB_iff, leN_iff, slOk_iff, ble_iff, blt_iff, decide_eq_true_eq, decide_eq_false_iff_not, beq_iff_eq, beq_eq_false_iff_ne, bne_iff_ne, bne_eq_false_iff_eq, Bool.not_eq_true', Bool.not_eq_false', List.length_set, ne_eq, ge_iff_le, gt_iff_lt, setF_len, toNat_cast, lenOk]; omega) ?_)
      · unfold tridiag_Q_t31
        rw [hk]
        simp only [toNat_cast]
        rw [cutL_to hql, cutL_all, e]
        have e2 : m - j = m - 1 - j + 1 := by omega
        have sl : slOk 0 (n * n) (qF vs ts n m j) = true := by rw [← hql]; exact slOk_all _
        refine T.at (by simp only [inK_i64, inB_i, leB_i, ltB_iff, leN_iff, slOk_iff, ble_iff, blt_iff, decide_eq_true_eq, decide_eq_false_iff_not, beq_iff_eq, beq_eq_false_iff_ne, bne_iff_ne, bne_eq_false_iff_eq, Bool.not_eq_true', Bool.not_eq_false', List.length_set, ne_eq, ge_iff_le, gt_iff_lt, setF_len, toNat_cast, lenOk]; omega) (T.nd (by simp only [inK_i64, inB_i, leB_i, ltB_iff, leN_iff, slOk_iff, ble_iff, blt_iff, decide_eq_true_eq, decide_eq_false_iff_not, beq_iff_eq, beq_eq_false_iff_ne, bne_iff_ne, bne_eq_false_iff_eq, Bool.not_eq_true', Bool.not_eq_false', List.length_set, ne_eq, ge_iff_le, gt_iff_lt, setF_len, toNat_cast, lenOk]; omega) (T.nd (by simp only [inK_i64, inB_i, leB_i, ltB_iff, leN_iff, slOk_iff, ble_iff, blt_iff, decide_eq_true_eq, decide_eq_false_iff_not, beq_iff_eq, beq_eq_false_iff_ne, bne_iff_ne, bne_eq_false_iff_eq, Bool.not_eq_true', Bool.not_eq_false', List.length_set, ne_eq, ge_iff_le, gt_iff_lt, setF_len, toNat_cast, lenOk]; omega) (T.nd (by simp only [inK_i64, inB_i, leB_i, ltB_iff, leN_iff, slOk_iff, ble_iff, blt_iff, decide_eq_true_eq, decide_eq_false_iff_not, beq_iff_eq, beq_eq_false_iff_ne, bne_iff_ne, bne_eq_false_iff_eq, Bool.not_eq_true', Bool.not_eq_false', List.length_set, ne_eq, ge_iff_le, gt_iff_lt, setF_len, toNat_cast, lenOk]; omega) (T.nd (by simp only [inK_i64, inB_i, leB_i, ltB_iff, leN_iff, slOk_iff, ble_iff, blt_iff, decide_eq_true_eq, decide_eq_false_iff_not, beq_iff_eq, beq_eq_false_iff_ne, bne_iff_ne, bne_eq_false_iff_eq, Bool.not_eq_true', Bool.not_eq_false', List.length_set, ne_eq, ge_iff_le, gt_iff_lt, setF_len, toNat_cast, lenOk]; omega) (T.nd (by simp only [inK_i64, inB_i, leB_i, ltB_iff, leN_iff, slOk_iff, ble_iff, blt_iff, decide_eq_true_eq, decide_eq_false_iff_not, beq_iff_eq, beq_eq_false_iff_ne, bne_iff_ne, bne_eq_false_iff_eq, Bool.not_eq_true', Bool.not_eq_false', List.length_set, ne_eq, ge_iff_le, gt_iff_lt, setF_len, toNat_cast, lenOk]; omega) (T.a1 (T.nd sl (T.nd (slOk_all _) (T.nf rfl))) (T.a0 (T.nd sl (T.nd (slOk_all _) (T.nd rfl ?_))))))))))
        simp only [qF, iterF, e2]; rfl
      · show some (Sum.inl _) = _
        simp only [qSt]; congr 3; omega
    · exact seqM_out (T.af (by simp only [inK_i64, inB_i, leB_i, ltB_iff, leN_iff, slOk_iff, ble_iff, blt_iff, decide_eq_true_eq, decide_eq_false_iff_not, beq_iff_eq, beq_eq_false_iff_ne, bne_iff_ne, bne_eq_false_iff_eq, Bool.not_eq_true', Bool.not_eq_false', List.length_set, ne_eq, ge_iff_le, gt_iff_lt, setF_len, toNat_cast, lenOk]; omega) rfl)

/-- Do they fit: as the law asks. -/
def fitB (n : Int) (m : Nat) (vs : List (List Nat)) : Nat → Bool
  | 0 => decide (0 ≤ n) && (decide (n ≤ 512) && (decide ((m : Int) = n - 2) || (decide (n < 2) && decide (m = 0))))
  | j + 1 => fitB n m vs j && (((vs.getD j []).length : Int) == n - 1 - j)
theorem fitB_mono {n : Int} {m : Nat} {vs : List (List Nat)} : ∀ {j : Nat}, fitB n m vs j = true → fitB n m vs 0 = true
  | 0, h => h
  | j + 1, h => by simp only [fitB, Bool.and_eq_true] at h; exact fitB_mono h.1
theorem fitB_base {n : Int} {m : Nat} {vs : List (List Nat)} (h : fitB n m vs 0 = true) : 0 ≤ n ∧ n ≤ 512 ∧ ((m : Int) = n - 2 ∨ (n < 2 ∧ m = 0)) := by
  simp only [fitB, Bool.and_eq_true, Bool.or_eq_true, decide_eq_true_eq] at h; exact h
theorem fitB_fits {n : Int} {m : Nat} {vs : List (List Nat)} (h : fitB n m vs m = true) : ∃ k : Nat, n = k ∧ fitsN k m vs := by
  obtain ⟨h1, h2, h3⟩ := fitB_base (fitB_mono h)
  have all : ∀ j, fitB n m vs j = true → ∀ k, k < j → ((vs.getD k []).length : Int) = n - 1 - k := by
    intro j
    induction j with
    | zero => intro _ k hk; omega
    | succ j ih =>
      intro h k hk
      simp only [fitB, Bool.and_eq_true, beq_iff_eq] at h
      by_cases q : k = j
      · subst q; exact h.2
      · exact ih h.1 k (by omega)
  refine ⟨n.toNat, by omega, by omega, by omega, fun k hk => ?_⟩
  have := all m h k hk
  omega
theorem fitB_bad {n : Int} {m : Nat} {vs : List (List Nat)} : ∀ {j : Nat}, fitB n m vs j = false → fitB n m vs 0 = true → ¬ ∀ i, i < j → ((vs.getD i []).length : Int) = n - 1 - i
  | 0, h, q => by rw [h] at q; cases q
  | j + 1, h, q => by
    intro a
    simp only [fitB, Bool.and_eq_false_iff, beq_eq_false_iff_ne] at h
    rcases h with h | h
    · exact fitB_bad h q fun i hi => a i (by omega)
    · exact h (a j (by omega))

theorem tQ_bad {n : Int} {m : Nat} {vs : List (List Nat)} {ts : List Nat} (h : fitB n m vs m = false) (hm : m ≤ 20) (hvs : vs.length = m) (hts : ts.length = m) : tridiag_Q_F n m vs ts = some .r0 := by
  refine toX_of ?_
  by_cases h1 : n < 0
  · exact seqM_in (a := true) (T.at (by simp only [inK_i64, inB_i, leB_i, ltB_iff, leN_iff, slOk_iff, ble_iff, blt_iff, decide_eq_true_eq, decide_eq_false_iff_not, beq_iff_eq, beq_eq_false_iff_ne, bne_iff_ne, bne_eq_false_iff_eq, Bool.not_eq_true', Bool.not_eq_false', List.length_set, ne_eq, ge_iff_le, gt_iff_lt, setF_len, toNat_cast, lenOk]; omega) rfl) (seqM_out (T.at rfl rfl))
  by_cases h2 : 512 < n
  · exact seqM_in (a := true) (T.af (by simp only [inK_i64, inB_i, leB_i, ltB_iff, leN_iff, slOk_iff, ble_iff, blt_iff, decide_eq_true_eq, decide_eq_false_iff_not, beq_iff_eq, beq_eq_false_iff_ne, bne_iff_ne, bne_eq_false_iff_eq, Bool.not_eq_true', Bool.not_eq_false', List.length_set, ne_eq, ge_iff_le, gt_iff_lt, setF_len, toNat_cast, lenOk]; omega) (T.at (by simp only [inK_i64, inB_i, leB_i, ltB_iff, leN_iff, slOk_iff, ble_iff, blt_iff, decide_eq_true_eq, decide_eq_false_iff_not, beq_iff_eq, beq_eq_false_iff_ne, bne_iff_ne, bne_eq_false_iff_eq, Bool.not_eq_true', Bool.not_eq_false', List.length_set, ne_eq, ge_iff_le, gt_iff_lt, setF_len, toNat_cast, lenOk]; omega) rfl)) (seqM_out (T.at rfl rfl))
  by_cases h3 : (m : Int) = imax (n - 2) 0
  · have h0 : fitB n m vs 0 = true := by
      simp only [fitB, Bool.and_eq_true, Bool.or_eq_true, decide_eq_true_eq]
      unfold imax at h3; split at h3 <;> omega
    obtain ⟨k, hk, hb, hf⟩ := first_bad (fitB_bad h h0)
    refine seqM_in (a := false) (T.af (by simp only [inK_i64, inB_i, leB_i, ltB_iff, leN_iff, slOk_iff, ble_iff, blt_iff, decide_eq_true_eq, decide_eq_false_iff_not, beq_iff_eq, beq_eq_false_iff_ne, bne_iff_ne, bne_eq_false_iff_eq, Bool.not_eq_true', Bool.not_eq_false', List.length_set, ne_eq, ge_iff_le, gt_iff_lt, setF_len, toNat_cast, lenOk]; omega) (T.af (by simp only [inK_i64, inB_i, leB_i, ltB_iff, leN_iff, slOk_iff, ble_iff, blt_iff, decide_eq_true_eq, decide_eq_false_iff_not, beq_iff_eq, beq_eq_false_iff_ne, bne_iff_ne, bne_eq_false_iff_eq, Bool.not_eq_true', Bool.not_eq_false', List.length_set, ne_eq, ge_iff_le, gt_iff_lt, setF_len, toNat_cast, lenOk]; omega) (T.nd (by simp only [inK_i64, inB_i, leB_i, ltB_iff, leN_iff, slOk_iff, ble_iff, blt_iff, decide_eq_true_eq, decide_eq_false_iff_not, beq_iff_eq, beq_eq_false_iff_ne, bne_iff_ne, bne_eq_false_iff_eq, Bool.not_eq_true', Bool.not_eq_false', List.length_set, ne_eq, ge_iff_le, gt_iff_lt, setF_len, toNat_cast, lenOk]; omega) ?_))) (seqM_in (a := ()) (T.af rfl rfl) (seqM_out (loopM_at (fun j => j) k rfl (fun j hj => ?_) ?_)))
    · show some (Sum.inl _) = _
      congr 2; simp only [bne_eq_false_iff_eq]; exact h3
    · show (tridiag_Q_t23 _ _ _ _ _).run = _
      have := hf j hj
      unfold tridiag_Q_t23
      refine T.at (by simp only [inK_i64, inB_i, leB_i, ltB_iff, leN_iff, slOk_iff, ble_iff, blt_iff, decide_eq_true_eq, decide_eq_false_iff_not, beq_iff_eq, beq_eq_false_iff_ne, bne_iff_ne, bne_eq_false_iff_eq, Bool.not_eq_true', Bool.not_eq_false', List.length_set, ne_eq, ge_iff_le, gt_iff_lt, setF_len, toNat_cast, lenOk]; omega) ?_
      (refine T.nd (by simp only [inK_i64, inB_i, leB_i, ltB_iff, leN_iff, slOk_iff, ble_iff, blt_iff, decide_eq_true_eq, decide_eq_false_iff_not, beq_iff_eq, beq_eq_false_iff_ne, bne_iff_ne, bne_eq_false_iff_eq, Bool.not_eq_true', Bool.not_eq_false', List.length_set, ne_eq, ge_iff_le, gt_iff_lt, setF_len, toNat_cast, lenOk]; omega) ?_; refine T.nd (by simp only [inK_i64, inB_i, leB_i, ltB_iff, leN_iff, slOk_iff, ble_iff, blt_iff, decide_eq_true_eq, decide_eq_false_iff_not, beq_iff_eq, beq_eq_false_iff_ne, bne_iff_ne, bne_eq_false_iff_eq, Bool.not_eq_true', Bool.not_eq_false', List.length_set, ne_eq, ge_iff_le, gt_iff_lt, setF_len, toNat_cast, lenOk]; omega) ?_; refine T.nd (by simp only [inK_i64, inB_i, leB_i, ltB_iff, leN_iff, slOk_iff, ble_iff, blt_iff, decide_eq_true_eq, decide_eq_false_iff_not, beq_iff_eq, beq_eq_false_iff_ne, bne_iff_ne, bne_eq_false_iff_eq, Bool.not_eq_true', Bool.not_eq_false', List.length_set, ne_eq, ge_iff_le, gt_iff_lt, setF_len, toNat_cast, lenOk]; omega) ?_; refine T.nd (by simp only [inK_i64, inB_i, leB_i, ltB_iff, leN_iff, slOk_iff, ble_iff, blt_iff, decide_eq_true_eq, decide_eq_false_iff_not, beq_iff_eq, beq_eq_false_iff_ne, bne_iff_ne, bne_eq_false_iff_eq, Bool.not_eq_true', Bool.not_eq_false', List.length_set, ne_eq, ge_iff_le, gt_iff_lt, setF_len, toNat_cast, lenOk]; omega) ?_; refine T.nd (by simp only [inK_i64, inB_i, leB_i, ltB_iff, leN_iff, slOk_iff, ble_iff, blt_iff, decide_eq_true_eq, decide_eq_false_iff_not, beq_iff_eq, beq_eq_false_iff_ne, bne_iff_ne, bne_eq_false_iff_eq, Bool.not_eq_true', Bool.not_eq_false', List.length_set, ne_eq, ge_iff_le, gt_iff_lt, setF_len, toNat_cast, lenOk]; omega) ?_)
      exact T.af (by simp only [inK_i64, inB_i, leB_i, ltB_iff, leN_iff, slOk_iff, ble_iff, blt_iff, decide_eq_true_eq, decide_eq_false_iff_not, beq_iff_eq, beq_eq_false_iff_ne, bne_iff_ne, bne_eq_false_iff_eq, Bool.not_eq_true', Bool.not_eq_false', List.length_set, ne_eq, ge_iff_le, gt_iff_lt, setF_len, toNat_cast, lenOk]; omega) (T.nd (by simp only [inK_i64, inB_i, leB_i, ltB_iff, leN_iff, slOk_iff, ble_iff, blt_iff, decide_eq_true_eq, decide_eq_false_iff_not, beq_iff_eq, beq_eq_false_iff_ne, bne_iff_ne, bne_eq_false_iff_eq, Bool.not_eq_true', Bool.not_eq_false', List.length_set, ne_eq, ge_iff_le, gt_iff_lt, setF_len, toNat_cast, lenOk]; omega) rfl)
    · show (tridiag_Q_t23 _ _ _ _ _).run = _
      unfold tridiag_Q_t23
      refine T.at (by simp only [inK_i64, inB_i, leB_i, ltB_iff, leN_iff, slOk_iff, ble_iff, blt_iff, decide_eq_true_eq, decide_eq_false_iff_not, beq_iff_eq, beq_eq_false_iff_ne, bne_iff_ne, bne_eq_false_iff_eq, Bool.not_eq_true', Bool.not_eq_false', List.length_set, ne_eq, ge_iff_le, gt_iff_lt, setF_len, toNat_cast, lenOk]; omega) ?_
      (refine T.nd (by simp only [inK_i64, inB_i, leB_i, ltB_iff, leN_iff, slOk_iff, ble_iff, blt_iff, decide_eq_true_eq, decide_eq_false_iff_not, beq_iff_eq, beq_eq_false_iff_ne, bne_iff_ne, bne_eq_false_iff_eq, Bool.not_eq_true', Bool.not_eq_false', List.length_set, ne_eq, ge_iff_le, gt_iff_lt, setF_len, toNat_cast, lenOk]; omega) ?_; refine T.nd (by simp only [inK_i64, inB_i, leB_i, ltB_iff, leN_iff, slOk_iff, ble_iff, blt_iff, decide_eq_true_eq, decide_eq_false_iff_not, beq_iff_eq, beq_eq_false_iff_ne, bne_iff_ne, bne_eq_false_iff_eq, Bool.not_eq_true', Bool.not_eq_false', List.length_set, ne_eq, ge_iff_le, gt_iff_lt, setF_len, toNat_cast, lenOk]; omega) ?_; refine T.nd (by simp only [inK_i64, inB_i, leB_i, ltB_iff, leN_iff, slOk_iff, ble_iff, blt_iff, decide_eq_true_eq, decide_eq_false_iff_not, beq_iff_eq, beq_eq_false_iff_ne, bne_iff_ne, bne_eq_false_iff_eq, Bool.not_eq_true', Bool.not_eq_false', List.length_set, ne_eq, ge_iff_le, gt_iff_lt, setF_len, toNat_cast, lenOk]; omega) ?_; refine T.nd (by simp only [inK_i64, inB_i, leB_i, ltB_iff, leN_iff, slOk_iff, ble_iff, blt_iff, decide_eq_true_eq, decide_eq_false_iff_not, beq_iff_eq, beq_eq_false_iff_ne, bne_iff_ne, bne_eq_false_iff_eq, Bool.not_eq_true', Bool.not_eq_false', List.length_set, ne_eq, ge_iff_le, gt_iff_lt, setF_len, toNat_cast, lenOk]; omega) ?_; refine T.nd (by simp only [inK_i64, inB_i, leB_i, ltB_iff, leN_iff, slOk_iff, ble_iff, blt_iff, decide_eq_true_eq, decide_eq_false_iff_not, beq_iff_eq, beq_eq_false_iff_ne, bne_iff_ne, bne_eq_false_iff_eq, Bool.not_eq_true', Bool.not_eq_false', List.length_set, ne_eq, ge_iff_le, gt_iff_lt, setF_len, toNat_cast, lenOk]; omega) ?_)
      exact T.at (by simp only [inK_i64, inB_i, leB_i, ltB_iff, leN_iff, slOk_iff, ble_iff, blt_iff, decide_eq_true_eq, decide_eq_false_iff_not, beq_iff_eq, beq_eq_false_iff_ne, bne_iff_ne, bne_eq_false_iff_eq, Bool.not_eq_true', Bool.not_eq_false', List.length_set, ne_eq, ge_iff_le, gt_iff_lt, setF_len, toNat_cast, lenOk]; omega) rfl
  · refine seqM_in (a := true) (T.af (by simp only [inK_i64, inB_i, leB_i, ltB_iff, leN_iff, slOk_iff, ble_iff, blt_iff, decide_eq_true_eq, decide_eq_false_iff_not, beq_iff_eq, beq_eq_false_iff_ne, bne_iff_ne, bne_eq_false_iff_eq, Bool.not_eq_true', Bool.not_eq_false', List.length_set, ne_eq, ge_iff_le, gt_iff_lt, setF_len, toNat_cast, lenOk]; omega) (T.af (by simp only [inK_i64, inB_i, leB_i, ltB_iff, leN_iff, slOk_iff, ble_iff, blt_iff, decide_eq_true_eq, decide_eq_false_iff_not, beq_iff_eq, beq_eq_false_iff_ne, bne_iff_ne, bne_eq_false_iff_eq, Bool.not_eq_true', Bool.not_eq_false', List.length_set, ne_eq, ge_iff_le, gt_iff_lt, setF_len, toNat_cast, lenOk]; omega) (T.nd (by simp only [inK_i64, inB_i, leB_i, ltB_iff, leN_iff, slOk_iff, ble_iff, blt_iff, decide_eq_true_eq, decide_eq_false_iff_not, beq_iff_eq, beq_eq_false_iff_ne, bne_iff_ne, bne_eq_false_iff_eq, Bool.not_eq_true', Bool.not_eq_false', List.length_set, ne_eq, ge_iff_le, gt_iff_lt, setF_len, toNat_cast, lenOk]; omega) ?_))) (seqM_out (T.at rfl rfl))
    show some (Sum.inl _) = _
    congr 2; simp only [bne_iff_ne]; exact h3

theorem Turns_loop {n : Int} {m : Nat} {vs : List (List Nat)} (hm : m ≤ 20) (hvs : vs.length = m) {k : Nat} (hk : k ≤ m) (h : ∀ j, j < k → (vs.getD j []).length ≤ 20) : ∀ j, j < k → law10_TridiagTurns_m20 n m vs (fitB n m vs j, j) = some (.inl (fitB n m vs (j + 1), j + 1)) := by
  intro j hj
  show seqM (law10_TridiagTurns_t18 _ _ _ _ _).run _ = _
  have := h j hj
  refine seqM_in (a := fitB n m vs (j + 1)) ?_ (T.nd (by simp only [inK_i64, inB_i, leB_i, ltB_iff, leN_iff, slOk_iff, ble_iff, blt_iff, decide_eq_true_eq, decide_eq_false_iff_not, beq_iff_eq, beq_eq_false_iff_ne, bne_iff_ne, bne_eq_false_iff_eq, Bool.not_eq_true', Bool.not_eq_false', List.length_set, ne_eq, ge_iff_le, gt_iff_lt, setF_len, toNat_cast, lenOk]; omega) rfl)
  unfold law10_TridiagTurns_t18
  refine T.at (by simp only [inK_i64, inB_i, leB_i, ltB_iff, leN_iff, slOk_iff, ble_iff, blt_iff, decide_eq_true_eq, decide_eq_false_iff_not, beq_iff_eq, beq_eq_false_iff_ne, bne_iff_ne, bne_eq_false_iff_eq, Bool.not_eq_true', Bool.not_eq_false', List.length_set, ne_eq, ge_iff_le, gt_iff_lt, setF_len, toNat_cast, lenOk]; omega) (T.nd (by simp only [inK_i64, inB_i, leB_i, ltB_iff, leN_iff, slOk_iff, ble_iff, blt_iff, decide_eq_true_eq, decide_eq_false_iff_not, beq_iff_eq, beq_eq_false_iff_ne, bne_iff_ne, bne_eq_false_iff_eq, Bool.not_eq_true', Bool.not_eq_false', List.length_set, ne_eq, ge_iff_le, gt_iff_lt, setF_len, toNat_cast, lenOk]; omega) (T.nd (by simp only [inK_i64, inB_i, leB_i, ltB_iff, leN_iff, slOk_iff, ble_iff, blt_iff, decide_eq_true_eq, decide_eq_false_iff_not, beq_iff_eq, beq_eq_false_iff_ne, bne_iff_ne, bne_eq_false_iff_eq, Bool.not_eq_true', Bool.not_eq_false', List.length_set, ne_eq, ge_iff_le, gt_iff_lt, setF_len, toNat_cast, lenOk]; omega) (T.af (by simp only [inK_i64, inB_i, leB_i, ltB_iff, leN_iff, slOk_iff, ble_iff, blt_iff, decide_eq_true_eq, decide_eq_false_iff_not, beq_iff_eq, beq_eq_false_iff_ne, bne_iff_ne, bne_eq_false_iff_eq, Bool.not_eq_true', Bool.not_eq_false', List.length_set, ne_eq, ge_iff_le, gt_iff_lt, setF_len, toNat_cast, lenOk]; omega) ?_)))
  cases q : fitB n m vs j with
  | false => refine T.af rfl ?_; simp only [fitB, q]; rfl
  | true =>
    have := fitB_base (fitB_mono q)
    refine T.at rfl ?_
    (repeat (refine T.nd (by simp only [inK_i64, inB_i, leB_i, ltB_iff, leN_iff, slOk_iff, ble_iff, blt_iff, decide_eq_true_eq, decide_eq_false_iff_not, beq_iff_eq, beq_eq_false_iff_ne, bne_iff_ne, bne_eq_false_iff_eq, Bool.not_eq_true', Bool.not_eq_false', List.length_set, ne_eq, ge_iff_le, gt_iff_lt, setF_len, toNat_cast, lenOk]; omega) ?_))
    show some (Sum.inl _) = _
    simp only [fitB, q, Bool.true_and]

theorem TridiagTurns_law (n : Int) (vs : List (List Nat)) (ts : List Nat) (hts : ts.length = vs.length) : law10_TridiagTurns_F n vs.length vs ts = some (.r0 true) := by
  generalize hm : vs.length = m at *
  refine toX_of ?_
  have t14 : (law10_TridiagTurns_t14 n m).run = some (.inl ((decide (14 < n) && decide (n ≤ 512)) || decide (20 < m))) := by
    unfold law10_TridiagTurns_t14
    by_cases h1 : 14 < n
    · refine T.at (by simp only [inK_i64, inB_i, leB_i, ltB_iff, leN_iff, slOk_iff, ble_iff, blt_iff, decide_eq_true_eq, decide_eq_false_iff_not, beq_iff_eq, beq_eq_false_iff_ne, bne_iff_ne, bne_eq_false_iff_eq, Bool.not_eq_true', Bool.not_eq_false', List.length_set, ne_eq, ge_iff_le, gt_iff_lt, setF_len, toNat_cast, lenOk]; omega) ?_
      by_cases h2 : n ≤ 512
      · refine T.at (by simp only [inK_i64, inB_i, leB_i, ltB_iff, leN_iff, slOk_iff, ble_iff, blt_iff, decide_eq_true_eq, decide_eq_false_iff_not, beq_iff_eq, beq_eq_false_iff_ne, bne_iff_ne, bne_eq_false_iff_eq, Bool.not_eq_true', Bool.not_eq_false', List.length_set, ne_eq, ge_iff_le, gt_iff_lt, setF_len, toNat_cast, lenOk]; omega) ?_
        simp only [h1, h2, decide_true, Bool.true_and, Bool.true_or]; rfl
      · refine T.af (by simp only [inK_i64, inB_i, leB_i, ltB_iff, leN_iff, slOk_iff, ble_iff, blt_iff, decide_eq_true_eq, decide_eq_false_iff_not, beq_iff_eq, beq_eq_false_iff_ne, bne_iff_ne, bne_eq_false_iff_eq, Bool.not_eq_true', Bool.not_eq_false', List.length_set, ne_eq, ge_iff_le, gt_iff_lt, setF_len, toNat_cast, lenOk]; omega) ?_
        show some (Sum.inl _) = _
        simp only [h1, h2, decide_true, decide_false, Bool.true_and, Bool.false_or]
        congr 2; rw [Bool.eq_iff_iff]; simp only [decide_eq_true_eq]; omega
    · refine T.af (by simp only [inK_i64, inB_i, leB_i, ltB_iff, leN_iff, slOk_iff, ble_iff, blt_iff, decide_eq_true_eq, decide_eq_false_iff_not, beq_iff_eq, beq_eq_false_iff_ne, bne_iff_ne, bne_eq_false_iff_eq, Bool.not_eq_true', Bool.not_eq_false', List.length_set, ne_eq, ge_iff_le, gt_iff_lt, setF_len, toNat_cast, lenOk]; omega) ?_
      show some (Sum.inl _) = _
      simp only [h1, decide_false, Bool.false_and, Bool.false_or]
      congr 2; rw [Bool.eq_iff_iff]; simp only [decide_eq_true_eq]; omega
  cases hk : ((decide (14 < n) && decide (n ≤ 512)) || decide (20 < m)) with
  | true => exact seqM_in (a := true) (by rw [t14, hk]) (seqM_out (T.at rfl rfl))
  | false =>
  have hm20 : m ≤ 20 := by
    simp only [Bool.or_eq_false_iff, decide_eq_false_iff_not] at hk; omega
  refine seqM_in (a := false) (by rw [t14, hk]) (seqM_in (a := fitB n m vs 0) ?_ (seqM_in (a := ()) rfl ?_))
  · unfold law10_TridiagTurns_t15 fitB
    refine T.af rfl ?_
    by_cases h1 : 0 ≤ n
    · refine T.at (by simp only [inK_i64, inB_i, leB_i, ltB_iff, leN_iff, slOk_iff, ble_iff, blt_iff, decide_eq_true_eq, decide_eq_false_iff_not, beq_iff_eq, beq_eq_false_iff_ne, bne_iff_ne, bne_eq_false_iff_eq, Bool.not_eq_true', Bool.not_eq_false', List.length_set, ne_eq, ge_iff_le, gt_iff_lt, setF_len, toNat_cast, lenOk]; omega) ?_
      by_cases h2 : n ≤ 512
      · refine T.at (by simp only [inK_i64, inB_i, leB_i, ltB_iff, leN_iff, slOk_iff, ble_iff, blt_iff, decide_eq_true_eq, decide_eq_false_iff_not, beq_iff_eq, beq_eq_false_iff_ne, bne_iff_ne, bne_eq_false_iff_eq, Bool.not_eq_true', Bool.not_eq_false', List.length_set, ne_eq, ge_iff_le, gt_iff_lt, setF_len, toNat_cast, lenOk]; omega) (T.nd (by simp only [inK_i64, inB_i, leB_i, ltB_iff, leN_iff, slOk_iff, ble_iff, blt_iff, decide_eq_true_eq, decide_eq_false_iff_not, beq_iff_eq, beq_eq_false_iff_ne, bne_iff_ne, bne_eq_false_iff_eq, Bool.not_eq_true', Bool.not_eq_false', List.length_set, ne_eq, ge_iff_le, gt_iff_lt, setF_len, toNat_cast, lenOk]; omega) ?_)
        by_cases h3 : (m : Int) = n - 2
        · refine T.at (by simp only [inK_i64, inB_i, leB_i, ltB_iff, leN_iff, slOk_iff, ble_iff, blt_iff, decide_eq_true_eq, decide_eq_false_iff_not, beq_iff_eq, beq_eq_false_iff_ne, bne_iff_ne, bne_eq_false_iff_eq, Bool.not_eq_true', Bool.not_eq_false', List.length_set, ne_eq, ge_iff_le, gt_iff_lt, setF_len, toNat_cast, lenOk]; omega) ?_
          simp only [h1, h2, h3, decide_true, Bool.true_and, Bool.true_or]; rfl
        · refine T.af (by simp only [inK_i64, inB_i, leB_i, ltB_iff, leN_iff, slOk_iff, ble_iff, blt_iff, decide_eq_true_eq, decide_eq_false_iff_not, beq_iff_eq, beq_eq_false_iff_ne, bne_iff_ne, bne_eq_false_iff_eq, Bool.not_eq_true', Bool.not_eq_false', List.length_set, ne_eq, ge_iff_le, gt_iff_lt, setF_len, toNat_cast, lenOk]; omega) ?_
          by_cases h4 : n < 2
          · refine T.at (by simp only [inK_i64, inB_i, leB_i, ltB_iff, leN_iff, slOk_iff, ble_iff, blt_iff, decide_eq_true_eq, decide_eq_false_iff_not, beq_iff_eq, beq_eq_false_iff_ne, bne_iff_ne, bne_eq_false_iff_eq, Bool.not_eq_true', Bool.not_eq_false', List.length_set, ne_eq, ge_iff_le, gt_iff_lt, setF_len, toNat_cast, lenOk]; omega) ?_
            show some (Sum.inl _) = _
            simp only [h1, h2, h3, h4, decide_true, decide_false, Bool.true_and, Bool.false_or]
            congr 2; rw [Bool.eq_iff_iff]; simp only [decide_eq_true_eq, beq_iff_eq]; omega
          · refine T.af (by simp only [inK_i64, inB_i, leB_i, ltB_iff, leN_iff, slOk_iff, ble_iff, blt_iff, decide_eq_true_eq, decide_eq_false_iff_not, beq_iff_eq, beq_eq_false_iff_ne, bne_iff_ne, bne_eq_false_iff_eq, Bool.not_eq_true', Bool.not_eq_false', List.length_set, ne_eq, ge_iff_le, gt_iff_lt, setF_len, toNat_cast, lenOk]; omega) ?_
            simp only [h1, h2, h3, h4, decide_true, decide_false, Bool.true_and, Bool.false_or, Bool.false_and]; rfl
      · refine T.af (by simp only [inK_i64, inB_i, leB_i, ltB_iff, leN_iff, slOk_iff, ble_iff, blt_iff, decide_eq_true_eq, decide_eq_false_iff_not, beq_iff_eq, beq_eq_false_iff_ne, bne_iff_ne, bne_eq_false_iff_eq, Bool.not_eq_true', Bool.not_eq_false', List.length_set, ne_eq, ge_iff_le, gt_iff_lt, setF_len, toNat_cast, lenOk]; omega) ?_
        simp only [h1, h2, decide_true, decide_false, Bool.true_and, Bool.false_and]; rfl
    · refine T.af (by simp only [inK_i64, inB_i, leB_i, ltB_iff, leN_iff, slOk_iff, ble_iff, blt_iff, decide_eq_true_eq, decide_eq_false_iff_not, beq_iff_eq, beq_eq_false_iff_ne, bne_iff_ne, bne_eq_false_iff_eq, Bool.not_eq_true', Bool.not_eq_false', List.length_set, ne_eq, ge_iff_le, gt_iff_lt, setF_len, toNat_cast, lenOk]; omega) ?_
      simp only [h1, decide_false, Bool.false_and]; rfl
  · by_cases hv : ∀ k, k < m → (vs.getD k []).length ≤ 20
    · refine seqM_in (loopM_at (fun j => (fitB n m vs j, j)) m rfl (Turns_loop hm20 hm (Nat.le_refl _) hv) (seqM_out (T.af (by simp only [inK_i64, inB_i, leB_i, ltB_iff, leN_iff, slOk_iff, ble_iff, blt_iff, decide_eq_true_eq, decide_eq_false_iff_not, beq_iff_eq, beq_eq_false_iff_ne, bne_iff_ne, bne_eq_false_iff_eq, Bool.not_eq_true', Bool.not_eq_false', List.length_set, ne_eq, ge_iff_le, gt_iff_lt, setF_len, toNat_cast, lenOk]; omega) rfl))) ?_
      cases hf : fitB n m vs m with
      | false =>
        refine seqM_in (a := (2, 0, 0, 0, 0, [])) ?_ (seqM_out ?_)
        · unfold law10_TridiagTurns_t21
          rw [cutL_to hm, cutL_to hts, tQ_bad hf hm20 hm hts]
          exact T.a0 (T.nd (cut_ok m) (T.nd rfl rfl))
        · unfold law10_TridiagTurns_t22
          refine T.at rfl (T.at rfl (T.nd rfl ?_))
          rw [cutL_to (l := ([] : List Nat)) (n := 0) rfl, Same_spec (xs := []) (by decide)]
          exact T.nd rfl (T.at rfl rfl)
      | true =>
        obtain ⟨k, rfl, hN⟩ := fitB_fits hf
        have hql := qF_len (vs := vs) (ts := ts) (n := k) (m := m) (j := m)
        have hs := sq_bd hN.1
        refine seqM_in (a := (0, (k : Int), (k : Int), k * k, k * k, qF vs ts k m m)) ?_ (seqM_in (a := ()) (T.af rfl rfl) (seqM_in (a := true) ?_ rfl))
        · unfold law10_TridiagTurns_t21
          rw [cutL_to hm, cutL_to hts, tQ_spec hN hm hts]
          exact T.a1 (T.nd (cut_ok m) (T.nf rfl)) (T.a0 (T.nd (cut_ok m) (T.nd rfl rfl)))
        · unfold law10_TridiagTurns_t23
          rw [cutL_to hm, cutL_to hts, rQ_spec hN hm hts]
          simp only [ref10_Q_p0_0, ref10_Q_p0_1, ref10_Q_p0_2, ref10_Q_p0_4]
          rw [cutL_to hql, Same_spec (by omega)]
          have sl : slOk 0 (k * k) (qF vs ts k m m) = true := by rw [← hql]; exact slOk_all _
          exact T.at rfl (T.nd (cut_ok m) (T.nd rfl (T.nd sl (T.nd sl (T.nd rfl (T.at rfl rfl))))))
    · obtain ⟨k, hk, hb, hf⟩ := first_bad hv
      refine seqM_out (loopM_at (fun j => (fitB n m vs j, j)) k rfl (Turns_loop hm20 hm (by omega) hf) (seqM_out ?_))
      unfold law10_TridiagTurns_t18
      exact T.at (by simp only [inK_i64, inB_i, leB_i, ltB_iff, leN_iff, slOk_iff, ble_iff, blt_iff, decide_eq_true_eq, decide_eq_false_iff_not, beq_iff_eq, beq_eq_false_iff_ne, bne_iff_ne, bne_eq_false_iff_eq, Bool.not_eq_true', Bool.not_eq_false', List.length_set, ne_eq, ge_iff_le, gt_iff_lt, setF_len, toNat_cast, lenOk]; omega) (T.nd (by simp only [inK_i64, inB_i, leB_i, ltB_iff, leN_iff, slOk_iff, ble_iff, blt_iff, decide_eq_true_eq, decide_eq_false_iff_not, beq_iff_eq, beq_eq_false_iff_ne, bne_iff_ne, bne_eq_false_iff_eq, Bool.not_eq_true', Bool.not_eq_false', List.length_set, ne_eq, ge_iff_le, gt_iff_lt, setF_len, toNat_cast, lenOk]; omega) (T.nd (by simp only [inK_i64, inB_i, leB_i, ltB_iff, leN_iff, slOk_iff, ble_iff, blt_iff, decide_eq_true_eq, decide_eq_false_iff_not, beq_iff_eq, beq_eq_false_iff_ne, bne_iff_ne, bne_eq_false_iff_eq, Bool.not_eq_true', Bool.not_eq_false', List.length_set, ne_eq, ge_iff_le, gt_iff_lt, setF_len, toNat_cast, lenOk]; omega) (T.at (by simp only [inK_i64, inB_i, leB_i, ltB_iff, leN_iff, slOk_iff, ble_iff, blt_iff, decide_eq_true_eq, decide_eq_false_iff_not, beq_iff_eq, beq_eq_false_iff_ne, bne_iff_ne, bne_eq_false_iff_eq, Bool.not_eq_true', Bool.not_eq_false', List.length_set, ne_eq, ge_iff_le, gt_iff_lt, setF_len, toNat_cast, lenOk]; omega) rfl)))
end Go.Plb.Seat

/-
  FLOATS: their order, plainly.
-/
namespace Go.Plb
set_option linter.unusedSimpArgs false
set_option linter.unusedVariables false

/-- A float's size that is none below 0: what it counts, and of what. -/
def fmag (x : Nat) : Nat := if x < 4503599627370496 then x else 4503599627370496 + x % 4503599627370496
def fexp (x : Nat) : Nat := x / 4503599627370496 - 1

theorem read_num {x : Nat} (h : x < 9218868437227405312) : FloatKind.f64.format.read x = .number false (fmag x) (-1074 + (fexp x : Int)) := by
  have e1 : Ieee.double.signWeight = 9223372036854775808 := by decide
  have e2 : Ieee.double.binade = 4503599627370496 := by decide
  have e3 : Ieee.double.infRung = 9218868437227405312 := by decide
  have e4 : Ieee.double.leastPlace = -1074 := by decide
  show Ieee.double.read x = _
  unfold Ieee.Format.read
  simp only [e1, e2, e3, e4]
  have h1 : x / 9223372036854775808 % 2 = 0 := by omega
  have h2 : x % 9223372036854775808 = x := by omega
  rw [h1, h2]
  by_cases h3 : x < 4503599627370496
  · rw [if_pos h3]
    have : fexp x = 0 := by unfold fexp; omega
    simp only [fmag, if_pos h3, this]; rfl
  · rw [if_neg h3, if_pos h]
    simp only [fmag, if_neg h3, fexp]; rfl

theorem fmag_lt (x : Nat) : fmag x < 9007199254740992 := by unfold fmag; split <;> omega
theorem fmag_ge {x : Nat} (h : 0 < fexp x) : 4503599627370496 ≤ fmag x := by unfold fexp at h; unfold fmag; rw [if_neg (by omega)]; omega
theorem fmag_inj {x y : Nat} (h1 : fmag x = fmag y) (h2 : fexp x = fexp y) : x = y := by
  unfold fmag at h1; unfold fexp at h2
  split at h1 <;> split at h1 <;> omega

theorem ford_num {x y : Nat} (hx : x < 9218868437227405312) (hy : y < 9218868437227405312) :
    ford x y = some (compare ((fmag x * 2 ^ (fexp x - min (fexp x) (fexp y)) : Nat) : Int) ((fmag y * 2 ^ (fexp y - min (fexp x) (fexp y)) : Nat) : Int)) := by
  unfold ford Ieee.Format.order
  rw [read_num hx, read_num hy]
  simp only [Ieee.Datum.order, Ieee.signed, Bool.false_eq_true, if_false, Nat.shiftLeft_eq]
  have e1 : ((-1074 + (fexp x : Int)) - min (-1074 + (fexp x : Int)) (-1074 + (fexp y : Int))).toNat = fexp x - min (fexp x) (fexp y) := by omega
  have e2 : ((-1074 + (fexp y : Int)) - min (-1074 + (fexp x : Int)) (-1074 + (fexp y : Int))).toNat = fexp y - min (fexp x) (fexp y) := by omega
  rw [e1, e2]

theorem scale_eq {x y : Nat} (h : fexp x ≤ fexp y) (e : fmag x = fmag y * 2 ^ (fexp y - fexp x)) : x = y := by
  rcases Nat.eq_or_lt_of_le h with h1 | h1
  · rw [h1, Nat.sub_self, Nat.pow_zero, Nat.mul_one] at e
    exact fmag_inj e h1
  · have a := fmag_ge (x := y) (by omega)
    have b := fmag_lt x
    have c : 2 ^ 1 ≤ 2 ^ (fexp y - fexp x) := Nat.pow_le_pow_right (by decide) (by omega)
    have d : 4503599627370496 * 2 ≤ fmag y * 2 ^ (fexp y - fexp x) := Nat.mul_le_mul a c
    omega

theorem ford_eq {x y : Nat} (hx : x < 9218868437227405312) (hy : y < 9218868437227405312) (h : ford x y = some .eq) : x = y := by
  rw [ford_num hx hy] at h
  simp only [Option.some.injEq] at h
  have h' := Int.compare_eq_eq.1 h
  have e : fmag x * 2 ^ (fexp x - min (fexp x) (fexp y)) = fmag y * 2 ^ (fexp y - min (fexp x) (fexp y)) := by exact_mod_cast h'
  rcases Nat.le_total (fexp x) (fexp y) with q | q
  · rw [Nat.min_eq_left q, Nat.sub_self, Nat.pow_zero, Nat.mul_one] at e
    exact scale_eq q e
  · rw [Nat.min_eq_right q, Nat.sub_self, Nat.pow_zero, Nat.mul_one] at e
    exact (scale_eq q e.symm).symm

theorem ford_gt {x y : Nat} (hx : x < 9218868437227405312) (hy : y < 9218868437227405312) : ford x y = some .gt ↔ ford y x = some .lt := by
  rw [ford_num hx hy, ford_num hy hx, Nat.min_comm]
  simp only [Option.some.injEq]
  rw [Int.compare_eq_gt, Int.compare_eq_lt]

theorem ford_lt {x y : Nat} (hx : x < 9218868437227405312) (hy : y < 9218868437227405312) (h : x < y) : ford x y = some .lt := by
  rw [ford_num hx hy]
  have hle : fexp x ≤ fexp y := by unfold fexp; omega
  rw [Nat.min_eq_left hle, Nat.sub_self, Nat.pow_zero, Nat.mul_one]
  have key : fmag x < fmag y * 2 ^ (fexp y - fexp x) := by
    rcases Nat.eq_or_lt_of_le hle with h1 | h1
    · rw [h1, Nat.sub_self, Nat.pow_zero, Nat.mul_one]
      unfold fexp at h1; unfold fmag
      split <;> split <;> omega
    · have a := fmag_ge (x := y) (by omega)
      have b := fmag_lt x
      have c : 2 ^ 1 ≤ 2 ^ (fexp y - fexp x) := Nat.pow_le_pow_right (by decide) (by omega)
      have d : 4503599627370496 * 2 ≤ fmag y * 2 ^ (fexp y - fexp x) := Nat.mul_le_mul a c
      omega
  rw [Int.compare_eq_lt.2 (by exact_mod_cast key)]
/-- Floats that are none below 0: their order is that of their bits. -/
theorem ford_nat {x y : Nat} (hx : x < 9218868437227405312) (hy : y < 9218868437227405312) : ford x y = some (compare x y) := by
  rcases Nat.lt_trichotomy x y with h | rfl | h
  · rw [ford_lt hx hy h, Nat.compare_eq_lt.2 h]
  · rw [ford_num hx hx]; simp
  · rw [(ford_gt hx hy).2 (ford_lt hy hx h), Nat.compare_eq_gt.2 h]

theorem read_inf : FloatKind.f64.format.read 9218868437227405312 = .infinity false := by decide
theorem ford_inf_l {y : Nat} (hy : y < 9218868437227405312) : ford 9218868437227405312 y = some .gt := by
  unfold ford Ieee.Format.order; rw [read_inf, read_num hy]; rfl
theorem ford_inf_r {x : Nat} (hx : x < 9218868437227405312) : ford x 9218868437227405312 = some .lt := by
  unfold ford Ieee.Format.order; rw [read_inf, read_num hx]; rfl

/-- Of two sizes that are none below 0, neither greater: they are one. -/
theorem sizes_eq {p q : Nat} (hp : p ≤ 9218868437227405312) (hq : q ≤ 9218868437227405312) (h1 : fgt q p = false) (h2 : fgt p q = false) : p = q := by
  unfold fgt at h1 h2
  rcases Nat.lt_or_eq_of_le hp with a | rfl
  · rcases Nat.lt_or_eq_of_le hq with b | rfl
    · rcases hc : ford p q with _ | c
      · rw [ford_num a b] at hc; cases hc
      · cases c with
        | eq => exact ford_eq a b hc
        | gt => rw [hc] at h2; cases h2
        | lt => rw [(ford_gt b a).2 hc] at h1; cases h1
    · rw [ford_inf_l a] at h1; cases h1
  · rcases Nat.lt_or_eq_of_le hq with b | rfl
    · rw [ford_inf_l b] at h2; cases h2
    · rfl
/-- No two are greater, one than the other. -/
theorem sizes_gt {p q : Nat} (hp : p ≤ 9218868437227405312) (hq : q ≤ 9218868437227405312) (h1 : fgt q p = true) : fgt p q = false := by
  unfold fgt at h1 ⊢
  have h1' : ford q p = some .gt := by simpa using h1
  rcases Nat.lt_or_eq_of_le hp with a | rfl
  · rcases Nat.lt_or_eq_of_le hq with b | rfl
    · rw [(ford_gt b a).1 h1']; rfl
    · rw [ford_inf_r a]; rfl
  · rcases Nat.lt_or_eq_of_le hq with b | rfl
    · rw [ford_inf_r b] at h1'; cases h1'
    · have : ford 9218868437227405312 9218868437227405312 = some .eq := by decide
      rw [this]; rfl
end Go.Plb

/-
  PLAIN: layer 10's parts: the reflection made of a column; lists that grow.
-/
namespace Go.Plb.Seat
open Go Go.Plb
set_option linter.unusedSimpArgs false
set_option linter.unusedVariables false

theorem fgt_nn {a b : Nat} (h : fgt a b = true) : isNaN a = false ∧ isNaN b = false := by
  constructor
  · cases q : isNaN a with
    | false => rfl
    | true => unfold fgt at h; rw [ord_nan (.inl q)] at h; cases h
  · cases q : isNaN b with
    | false => rfl
    | true => unfold fgt at h; rw [ord_nan (.inr q)] at h; cases h
theorem feq_nn {a b : Nat} (h : feq a b = true) : isNaN a = false := by
  cases q : isNaN a with
  | false => rfl
  | true => unfold feq at h; rw [ord_nan (.inl q)] at h; cases h
theorem fmul_nan {a b : Nat} (h : isNaN a = true) : isNaN (fmul a b) = true := by
  have e : fmul a b = qnan := congrArg (·.getD qnan) (bin_nan .mul (x := a) (y := b) (.inl h))
  rw [e]; exact isNaN_qnan

def nmStep (v : Nat) (s : Nat × Nat) : Nat × Nat :=
  bif feq v 0 then s else bif flt s.1 (fabs v) then (fabs v, fadd 4607182418800017408 (fmul (fmul s.2 (fdiv s.1 (fabs v))) (fdiv s.1 (fabs v)))) else (s.1, fadd s.2 (fmul (fdiv (fabs v) s.1) (fdiv (fabs v) s.1)))
def nmGo (l : List Nat) : Nat → Nat × Nat := iterF (fun j s => nmStep (l.getD j 0) s) (0, 4607182418800017408)
def nmF (l : List Nat) : Nat := fmul (nmGo l l.length).1 (fsqrt (nmGo l l.length).2)

theorem Norm_spec {l : List Nat} (h : l.length ≤ 1000000000) : small_Norm_F l = some (.r0 (nmF l)) := by
  refine toX_of (seqM_in rfl (seqM_in (a := nmGo l l.length) (loopM_at (fun j => ((nmGo l j).1, (nmGo l j).2, j)) l.length rfl (fun j hj => ?_) ?_) rfl))
  · show seqM (small_Norm_t11 _ _ _ _).run _ = _
    refine seqM_in (a := nmGo l (j + 1)) ?_ (T.nd (by simp only [inK_i64, inB_i, leB_i, ltB_iff, leN_iff, slOk_iff, ble_iff, blt_iff, decide_eq_true_eq, decide_eq_false_iff_not, beq_iff_eq, beq_eq_false_iff_ne, bne_iff_ne, bne_eq_false_iff_eq, Bool.not_eq_true', Bool.not_eq_false', List.length_set, ne_eq, ge_iff_le, gt_iff_lt, setF_len, toNat_cast, lenOk]; omega) rfl)
    refine T.at (by simp only [inK_i64, inB_i, leB_i, ltB_iff, leN_iff, slOk_iff, ble_iff, blt_iff, decide_eq_true_eq, decide_eq_false_iff_not, beq_iff_eq, beq_eq_false_iff_ne, bne_iff_ne, bne_eq_false_iff_eq, Bool.not_eq_true', Bool.not_eq_false', List.length_set, ne_eq, ge_iff_le, gt_iff_lt, setF_len, toNat_cast, lenOk]; omega) (T.nd (by simp only [inK_i64, inB_i, leB_i, ltB_iff, leN_iff, slOk_iff, ble_iff, blt_iff, decide_eq_true_eq, decide_eq_false_iff_not, beq_iff_eq, beq_eq_false_iff_ne, bne_iff_ne, bne_eq_false_iff_eq, Bool.not_eq_true', Bool.not_eq_false', List.length_set, ne_eq, ge_iff_le, gt_iff_lt, setF_len, toNat_cast, lenOk]; omega) (T.nd (by simp only [inK_i64, inB_i, leB_i, ltB_iff, leN_iff, slOk_iff, ble_iff, blt_iff, decide_eq_true_eq, decide_eq_false_iff_not, beq_iff_eq, beq_eq_false_iff_ne, bne_iff_ne, bne_eq_false_iff_eq, Bool.not_eq_true', Bool.not_eq_false', List.length_set, ne_eq, ge_iff_le, gt_iff_lt, setF_len, toNat_cast, lenOk]; omega) ?_))
    rw [show nmGo l (j + 1) = nmStep (l.getD j 0) (nmGo l j) from rfl]
    generalize l.getD j 0 = v
    generalize nmGo l j = s
    obtain ⟨sc, su⟩ := s
    unfold nmStep
    cases h1 : feq v 0 with
    | true => rfl
    | false =>
      cases h2 : flt sc (fabs v) with
      | true => simp only [h2]; exact T.af rfl (T.at rfl rfl)
      | false => simp only [h2]; exact T.af rfl (T.af rfl rfl)
  · exact seqM_out (T.af (by simp only [inK_i64, inB_i, leB_i, ltB_iff, leN_iff, slOk_iff, ble_iff, blt_iff, decide_eq_true_eq, decide_eq_false_iff_not, beq_iff_eq, beq_eq_false_iff_ne, bne_iff_ne, bne_eq_false_iff_eq, Bool.not_eq_true', Bool.not_eq_false', List.length_set, ne_eq, ge_iff_le, gt_iff_lt, setF_len, toNat_cast, lenOk]; omega) rfl)
theorem Norm6_spec {l : List Nat} (h : l.length ≤ 1000000000) : ref06_Norm_F l = some (.r0 (nmF l)) := by
  refine toX_of (seqM_in rfl (seqM_in (a := nmGo l l.length) (loopM_at (fun j => ((nmGo l j).1, (nmGo l j).2, j)) l.length rfl (fun j hj => ?_) ?_) rfl))
  · show seqM (ref06_Norm_t11 _ _ _ _).run _ = _
    refine seqM_in (a := nmGo l (j + 1)) ?_ (T.nd (by simp only [inK_i64, inB_i, leB_i, ltB_iff, leN_iff, slOk_iff, ble_iff, blt_iff, decide_eq_true_eq, decide_eq_false_iff_not, beq_iff_eq, beq_eq_false_iff_ne, bne_iff_ne, bne_eq_false_iff_eq, Bool.not_eq_true', Bool.not_eq_false', List.length_set, ne_eq, ge_iff_le, gt_iff_lt, setF_len, toNat_cast, lenOk]; omega) rfl)
    refine T.at (by simp only [inK_i64, inB_i, leB_i, ltB_iff, leN_iff, slOk_iff, ble_iff, blt_iff, decide_eq_true_eq, decide_eq_false_iff_not, beq_iff_eq, beq_eq_false_iff_ne, bne_iff_ne, bne_eq_false_iff_eq, Bool.not_eq_true', Bool.not_eq_false', List.length_set, ne_eq, ge_iff_le, gt_iff_lt, setF_len, toNat_cast, lenOk]; omega) (T.nd (by simp only [inK_i64, inB_i, leB_i, ltB_iff, leN_iff, slOk_iff, ble_iff, blt_iff, decide_eq_true_eq, decide_eq_false_iff_not, beq_iff_eq, beq_eq_false_iff_ne, bne_iff_ne, bne_eq_false_iff_eq, Bool.not_eq_true', Bool.not_eq_false', List.length_set, ne_eq, ge_iff_le, gt_iff_lt, setF_len, toNat_cast, lenOk]; omega) (T.nd (by simp only [inK_i64, inB_i, leB_i, ltB_iff, leN_iff, slOk_iff, ble_iff, blt_iff, decide_eq_true_eq, decide_eq_false_iff_not, beq_iff_eq, beq_eq_false_iff_ne, bne_iff_ne, bne_eq_false_iff_eq, Bool.not_eq_true', Bool.not_eq_false', List.length_set, ne_eq, ge_iff_le, gt_iff_lt, setF_len, toNat_cast, lenOk]; omega) ?_))
    rw [show nmGo l (j + 1) = nmStep (l.getD j 0) (nmGo l j) from rfl]
    generalize l.getD j 0 = v
    generalize nmGo l j = s
    obtain ⟨sc, su⟩ := s
    unfold nmStep
    cases h1 : feq v 0 with
    | true => rfl
    | false =>
      cases h2 : flt sc (fabs v) with
      | true => simp only [h2]; exact T.af rfl (T.nd (by simp only [inK_i64, inB_i, leB_i, ltB_iff, leN_iff, slOk_iff, ble_iff, blt_iff, decide_eq_true_eq, decide_eq_false_iff_not, beq_iff_eq, beq_eq_false_iff_ne, bne_iff_ne, bne_eq_false_iff_eq, Bool.not_eq_true', Bool.not_eq_false', List.length_set, ne_eq, ge_iff_le, gt_iff_lt, setF_len, toNat_cast, lenOk]; omega) (T.nd (by simp only [inK_i64, inB_i, leB_i, ltB_iff, leN_iff, slOk_iff, ble_iff, blt_iff, decide_eq_true_eq, decide_eq_false_iff_not, beq_iff_eq, beq_eq_false_iff_ne, bne_iff_ne, bne_eq_false_iff_eq, Bool.not_eq_true', Bool.not_eq_false', List.length_set, ne_eq, ge_iff_le, gt_iff_lt, setF_len, toNat_cast, lenOk]; omega) (T.at rfl rfl)))
      | false => simp only [h2]; exact T.af rfl (T.nd (by simp only [inK_i64, inB_i, leB_i, ltB_iff, leN_iff, slOk_iff, ble_iff, blt_iff, decide_eq_true_eq, decide_eq_false_iff_not, beq_iff_eq, beq_eq_false_iff_ne, bne_iff_ne, bne_eq_false_iff_eq, Bool.not_eq_true', Bool.not_eq_false', List.length_set, ne_eq, ge_iff_le, gt_iff_lt, setF_len, toNat_cast, lenOk]; omega) (T.nd (by simp only [inK_i64, inB_i, leB_i, ltB_iff, leN_iff, slOk_iff, ble_iff, blt_iff, decide_eq_true_eq, decide_eq_false_iff_not, beq_iff_eq, beq_eq_false_iff_ne, bne_iff_ne, bne_eq_false_iff_eq, Bool.not_eq_true', Bool.not_eq_false', List.length_set, ne_eq, ge_iff_le, gt_iff_lt, setF_len, toNat_cast, lenOk]; omega) (T.af rfl rfl)))
  · exact seqM_out (T.af (by simp only [inK_i64, inB_i, leB_i, ltB_iff, leN_iff, slOk_iff, ble_iff, blt_iff, decide_eq_true_eq, decide_eq_false_iff_not, beq_iff_eq, beq_eq_false_iff_ne, bne_iff_ne, bne_eq_false_iff_eq, Bool.not_eq_true', Bool.not_eq_false', List.length_set, ne_eq, ge_iff_le, gt_iff_lt, setF_len, toNat_cast, lenOk]; omega) rfl)

/-- The length of two, with the first one's other sign: a: the greater one by its size. -/
def hypS (a b x : Nat) : Nat := bif feq a 0 then fneg (fcopy a x) else fneg (fcopy (fmul a (fsqrt (fadd 4607182418800017408 (fmul (fdiv b a) (fdiv b a))))) x)
def betaF (x long : Nat) : Nat := bif fgt (fabs long) (fabs x) then hypS (fabs long) (fabs x) x else hypS (fabs x) (fabs long) x
def longF (xs : List Nat) : Nat := nmF (cutL 1 (xs.length - 1) xs)
def makeB (xs : List Nat) : Nat := bif feq (longF xs) 0 then xs.getD 0 0 else betaF (xs.getD 0 0) (longF xs)
def makeT (xs : List Nat) : Nat := bif feq (longF xs) 0 then 0 else fdiv (fsub (betaF (xs.getD 0 0) (longF xs)) (xs.getD 0 0)) (betaF (xs.getD 0 0) (longF xs))
def e1F (n : Nat) : List Nat := (List.replicate n 0).set 0 4607182418800017408
def vGo (xs : List Nat) (q j : Nat) : List Nat := setF (fun i => i + 1) (fun i => fmul (xs.getD (i + 1) 0) q) (e1F xs.length) j
def makeV (xs : List Nat) : List Nat := bif feq (longF xs) 0 then e1F xs.length else vGo xs (fdiv 4607182418800017408 (fsub (xs.getD 0 0) (betaF (xs.getD 0 0) (longF xs)))) (xs.length - 1)
theorem vGo_len {xs : List Nat} {q j : Nat} : (vGo xs q j).length = xs.length := by simp only [vGo, setF_len, e1F, List.length_set, List.length_replicate]
theorem makeV_len {xs : List Nat} : (makeV xs).length = xs.length := by
  unfold makeV; cases feq (longF xs) 0 <;> simp only [cond_true, cond_false, vGo_len, e1F, List.length_set, List.length_replicate]

theorem cut1_len {xs : List Nat} (h : 0 < xs.length) : (cutL 1 (xs.length - 1) xs).length = xs.length - 1 := by
  rw [cutL_len (by omega)]

theorem make_t {xs : List Nat} (h : feq (longF xs) 0 = true) : makeB xs = xs.getD 0 0 ∧ makeT xs = 0 ∧ makeV xs = e1F xs.length := by
  unfold makeB makeT makeV; rw [h, cond_true, cond_true, cond_true]; exact ⟨rfl, rfl, rfl⟩
theorem make_f {xs : List Nat} (h : feq (longF xs) 0 = false) : makeB xs = betaF (xs.getD 0 0) (longF xs) ∧ makeT xs = fdiv (fsub (betaF (xs.getD 0 0) (longF xs)) (xs.getD 0 0)) (betaF (xs.getD 0 0) (longF xs))
    ∧ makeV xs = vGo xs (fdiv 4607182418800017408 (fsub (xs.getD 0 0) (betaF (xs.getD 0 0) (longF xs)))) (xs.length - 1) := by
  unfold makeB makeT makeV; rw [h, cond_false, cond_false, cond_false]; exact ⟨rfl, rfl, rfl⟩
theorem hypS_t {a b x : Nat} (h : feq a 0 = true) : hypS a b x = fneg (fcopy a x) := by unfold hypS; rw [h, cond_true]
theorem hypS_f {a b x : Nat} (h : feq a 0 = false) : hypS a b x = fneg (fcopy (fmul a (fsqrt (fadd 4607182418800017408 (fmul (fdiv b a) (fdiv b a))))) x) := by unfold hypS; rw [h, cond_false]
theorem betaF_t {x l : Nat} (h : fgt (fabs l) (fabs x) = true) : betaF x l = hypS (fabs l) (fabs x) x := by unfold betaF; rw [h, cond_true]
theorem betaF_f {x l : Nat} (h : fgt (fabs l) (fabs x) = false) : betaF x l = hypS (fabs x) (fabs l) x := by unfold betaF; rw [h, cond_false]

theorem Make_spec {xs : List Nat} (h0 : 0 < xs.length) (h : xs.length ≤ 1000000) : reflect_Make_F xs = some (.r1 (makeB xs) xs.length (makeT xs) (makeV xs)) := by
  refine toX_of (seqM_in (a := (longF xs, e1F xs.length)) ?_ ?_)
  · unfold reflect_Make_t9
    rw [Norm_spec (by rw [cut1_len h0]; omega), List.length_replicate]
    simp only [small_Norm_i0, small_Norm_p0_0]
    refine T.af (by simp only [inK_i64, inB_i, leB_i, ltB_iff, leN_iff, slOk_iff, ble_iff, blt_iff, decide_eq_true_eq, decide_eq_false_iff_not, beq_iff_eq, beq_eq_false_iff_ne, bne_iff_ne, bne_eq_false_iff_eq, Bool.not_eq_true', Bool.not_eq_false', List.length_set, ne_eq, ge_iff_le, gt_iff_lt, setF_len, toNat_cast, lenOk]; omega) ?_
    (refine T.nd (by simp only [inK_i64, inB_i, leB_i, ltB_iff, leN_iff, slOk_iff, ble_iff, blt_iff, decide_eq_true_eq, decide_eq_false_iff_not, beq_iff_eq, beq_eq_false_iff_ne, bne_iff_ne, bne_eq_false_iff_eq, Bool.not_eq_true', Bool.not_eq_false', List.length_set, ne_eq, ge_iff_le, gt_iff_lt, setF_len, toNat_cast, lenOk]; omega) ?_; refine T.nd (by simp only [inK_i64, inB_i, leB_i, ltB_iff, leN_iff, slOk_iff, ble_iff, blt_iff, decide_eq_true_eq, decide_eq_false_iff_not, beq_iff_eq, beq_eq_false_iff_ne, bne_iff_ne, bne_eq_false_iff_eq, Bool.not_eq_true', Bool.not_eq_false', List.length_set, ne_eq, ge_iff_le, gt_iff_lt, setF_len, toNat_cast, lenOk]; omega) ?_; refine T.nd (by simp only [inK_i64, inB_i, leB_i, ltB_iff, leN_iff, slOk_iff, ble_iff, blt_iff, decide_eq_true_eq, decide_eq_false_iff_not, beq_iff_eq, beq_eq_false_iff_ne, bne_iff_ne, bne_eq_false_iff_eq, Bool.not_eq_true', Bool.not_eq_false', List.length_set, ne_eq, ge_iff_le, gt_iff_lt, setF_len, toNat_cast, lenOk]; omega) ?_; refine T.nd (by simp only [inK_i64, inB_i, leB_i, ltB_iff, leN_iff, slOk_iff, ble_iff, blt_iff, decide_eq_true_eq, decide_eq_false_iff_not, beq_iff_eq, beq_eq_false_iff_ne, bne_iff_ne, bne_eq_false_iff_eq, Bool.not_eq_true', Bool.not_eq_false', List.length_set, ne_eq, ge_iff_le, gt_iff_lt, setF_len, toNat_cast, lenOk]; omega) ?_; refine T.nd (by simp only [inK_i64, inB_i, leB_i, ltB_iff, leN_iff, slOk_iff, ble_iff, blt_iff, decide_eq_true_eq, decide_eq_false_iff_not, beq_iff_eq, beq_eq_false_iff_ne, bne_iff_ne, bne_eq_false_iff_eq, Bool.not_eq_true', Bool.not_eq_false', List.length_set, ne_eq, ge_iff_le, gt_iff_lt, setF_len, toNat_cast, lenOk]; omega) ?_; refine T.nd (by simp only [inK_i64, inB_i, leB_i, ltB_iff, leN_iff, slOk_iff, ble_iff, blt_iff, decide_eq_true_eq, decide_eq_false_iff_not, beq_iff_eq, beq_eq_false_iff_ne, bne_iff_ne, bne_eq_false_iff_eq, Bool.not_eq_true', Bool.not_eq_false', List.length_set, ne_eq, ge_iff_le, gt_iff_lt, setF_len, toNat_cast, lenOk]; omega) ?_; refine T.nd (by simp only [inK_i64, inB_i, leB_i, ltB_iff, leN_iff, slOk_iff, ble_iff, blt_iff, decide_eq_true_eq, decide_eq_false_iff_not, beq_iff_eq, beq_eq_false_iff_ne, bne_iff_ne, bne_eq_false_iff_eq, Bool.not_eq_true', Bool.not_eq_false', List.length_set, ne_eq, ge_iff_le, gt_iff_lt, setF_len, toNat_cast, lenOk]; omega) ?_; refine T.nd (by simp only [inK_i64, inB_i, leB_i, ltB_iff, leN_iff, slOk_iff, ble_iff, blt_iff, decide_eq_true_eq, decide_eq_false_iff_not, beq_iff_eq, beq_eq_false_iff_ne, bne_iff_ne, bne_eq_false_iff_eq, Bool.not_eq_true', Bool.not_eq_false', List.length_set, ne_eq, ge_iff_le, gt_iff_lt, setF_len, toNat_cast, lenOk]; omega) ?_)
    refine T.nd (by simp only [inK_i64, inB_i, leB_i, ltB_iff, leN_iff, slOk_iff, ble_iff, blt_iff, decide_eq_true_eq, decide_eq_false_iff_not, beq_iff_eq, beq_eq_false_iff_ne, bne_iff_ne, bne_eq_false_iff_eq, Bool.not_eq_true', Bool.not_eq_false', List.length_set, ne_eq, ge_iff_le, gt_iff_lt, setF_len, toNat_cast, lenOk]; omega) (T.nd rfl rfl)
  · cases hl : feq (longF xs) 0 with
    | true => obtain ⟨e1, e2, e3⟩ := make_t hl; rw [e1, e2, e3]; exact seqM_out (T.at hl (T.nd (by simp only [inK_i64, inB_i, leB_i, ltB_iff, leN_iff, slOk_iff, ble_iff, blt_iff, decide_eq_true_eq, decide_eq_false_iff_not, beq_iff_eq, beq_eq_false_iff_ne, bne_iff_ne, bne_eq_false_iff_eq, Bool.not_eq_true', Bool.not_eq_false', List.length_set, ne_eq, ge_iff_le, gt_iff_lt, setF_len, toNat_cast, lenOk]; omega) (T.nd (by simp only [inK_i64, inB_i, leB_i, ltB_iff, leN_iff, slOk_iff, ble_iff, blt_iff, decide_eq_true_eq, decide_eq_false_iff_not, beq_iff_eq, beq_eq_false_iff_ne, bne_iff_ne, bne_eq_false_iff_eq, Bool.not_eq_true', Bool.not_eq_false', List.length_set, ne_eq, ge_iff_le, gt_iff_lt, setF_len, toNat_cast, lenOk]; omega) rfl)))
    | false =>
      obtain ⟨e1, e2, e3⟩ := make_f hl
      rw [e1, e2, e3]
      refine seqM_in (a := betaF (xs.getD 0 0) (longF xs)) ?_ (seqM_in (a := (fdiv 4607182418800017408 (fsub (xs.getD 0 0) (betaF (xs.getD 0 0) (longF xs))), fdiv (fsub (betaF (xs.getD 0 0) (longF xs)) (xs.getD 0 0)) (betaF (xs.getD 0 0) (longF xs)))) ?_ (seqM_in (a := vGo xs (fdiv 4607182418800017408 (fsub (xs.getD 0 0) (betaF (xs.getD 0 0) (longF xs)))) (xs.length - 1)) ?_ rfl))
      · unfold reflect_Make_t10
        refine T.af hl (T.nd (by simp only [inK_i64, inB_i, leB_i, ltB_iff, leN_iff, slOk_iff, ble_iff, blt_iff, decide_eq_true_eq, decide_eq_false_iff_not, beq_iff_eq, beq_eq_false_iff_ne, bne_iff_ne, bne_eq_false_iff_eq, Bool.not_eq_true', Bool.not_eq_false', List.length_set, ne_eq, ge_iff_le, gt_iff_lt, setF_len, toNat_cast, lenOk]; omega) (T.nd (by simp only [inK_i64, inB_i, leB_i, ltB_iff, leN_iff, slOk_iff, ble_iff, blt_iff, decide_eq_true_eq, decide_eq_false_iff_not, beq_iff_eq, beq_eq_false_iff_ne, bne_iff_ne, bne_eq_false_iff_eq, Bool.not_eq_true', Bool.not_eq_false', List.length_set, ne_eq, ge_iff_le, gt_iff_lt, setF_len, toNat_cast, lenOk]; omega) ?_))
        cases hg : fgt (fabs (longF xs)) (fabs (xs.getD 0 0)) with
        | true =>
          rw [betaF_t hg]
          have hn : isNaN (xs.getD 0 0) = false := by have := (fgt_nn hg).2; rwa [isNaN_fabs] at this
          cases he : feq (fabs (longF xs)) 0 with
          | true => rw [hypS_t he]; exact T.at rfl (T.at rfl (T.nd (by simp only [inK_i64, inB_i, leB_i, ltB_iff, leN_iff, slOk_iff, ble_iff, blt_iff, decide_eq_true_eq, decide_eq_false_iff_not, beq_iff_eq, beq_eq_false_iff_ne, bne_iff_ne, bne_eq_false_iff_eq, Bool.not_eq_true', Bool.not_eq_false', List.length_set, ne_eq, ge_iff_le, gt_iff_lt, setF_len, toNat_cast, lenOk]; omega) (T.nd (by simp only [inK_i64, inB_i, leB_i, ltB_iff, leN_iff, slOk_iff, ble_iff, blt_iff, decide_eq_true_eq, decide_eq_false_iff_not, beq_iff_eq, beq_eq_false_iff_ne, bne_iff_ne, bne_eq_false_iff_eq, Bool.not_eq_true', Bool.not_eq_false', List.length_set, ne_eq, ge_iff_le, gt_iff_lt, setF_len, toNat_cast, lenOk]; omega) (T.nd (by rw [hn]; rfl) rfl))))
          | false => rw [hypS_f he]; exact T.at rfl (T.af rfl (T.nd (by simp only [inK_i64, inB_i, leB_i, ltB_iff, leN_iff, slOk_iff, ble_iff, blt_iff, decide_eq_true_eq, decide_eq_false_iff_not, beq_iff_eq, beq_eq_false_iff_ne, bne_iff_ne, bne_eq_false_iff_eq, Bool.not_eq_true', Bool.not_eq_false', List.length_set, ne_eq, ge_iff_le, gt_iff_lt, setF_len, toNat_cast, lenOk]; omega) (T.nd (by simp only [inK_i64, inB_i, leB_i, ltB_iff, leN_iff, slOk_iff, ble_iff, blt_iff, decide_eq_true_eq, decide_eq_false_iff_not, beq_iff_eq, beq_eq_false_iff_ne, bne_iff_ne, bne_eq_false_iff_eq, Bool.not_eq_true', Bool.not_eq_false', List.length_set, ne_eq, ge_iff_le, gt_iff_lt, setF_len, toNat_cast, lenOk]; omega) (T.nd (by rw [hn]; rfl) rfl))))
        | false =>
          rw [betaF_f hg]
          cases he : feq (fabs (xs.getD 0 0)) 0 with
          | true =>
            rw [hypS_t he]
            have hn : isNaN (xs.getD 0 0) = false := by have := feq_nn he; rwa [isNaN_fabs] at this
            exact T.af rfl (T.at rfl (T.nd (by simp only [inK_i64, inB_i, leB_i, ltB_iff, leN_iff, slOk_iff, ble_iff, blt_iff, decide_eq_true_eq, decide_eq_false_iff_not, beq_iff_eq, beq_eq_false_iff_ne, bne_iff_ne, bne_eq_false_iff_eq, Bool.not_eq_true', Bool.not_eq_false', List.length_set, ne_eq, ge_iff_le, gt_iff_lt, setF_len, toNat_cast, lenOk]; omega) (T.nd (by simp only [inK_i64, inB_i, leB_i, ltB_iff, leN_iff, slOk_iff, ble_iff, blt_iff, decide_eq_true_eq, decide_eq_false_iff_not, beq_iff_eq, beq_eq_false_iff_ne, bne_iff_ne, bne_eq_false_iff_eq, Bool.not_eq_true', Bool.not_eq_false', List.length_set, ne_eq, ge_iff_le, gt_iff_lt, setF_len, toNat_cast, lenOk]; omega) (T.nd (by rw [hn]; rfl) rfl))))
          | false =>
            rw [hypS_f he]
            refine T.af rfl (T.af rfl (T.nd (by simp only [inK_i64, inB_i, leB_i, ltB_iff, leN_iff, slOk_iff, ble_iff, blt_iff, decide_eq_true_eq, decide_eq_false_iff_not, beq_iff_eq, beq_eq_false_iff_ne, bne_iff_ne, bne_eq_false_iff_eq, Bool.not_eq_true', Bool.not_eq_false', List.length_set, ne_eq, ge_iff_le, gt_iff_lt, setF_len, toNat_cast, lenOk]; omega) (T.nd (by simp only [inK_i64, inB_i, leB_i, ltB_iff, leN_iff, slOk_iff, ble_iff, blt_iff, decide_eq_true_eq, decide_eq_false_iff_not, beq_iff_eq, beq_eq_false_iff_ne, bne_iff_ne, bne_eq_false_iff_eq, Bool.not_eq_true', Bool.not_eq_false', List.length_set, ne_eq, ge_iff_le, gt_iff_lt, setF_len, toNat_cast, lenOk]; omega) (T.nd ?_ rfl))))
            cases hn : isNaN (xs.getD 0 0) with
            | false => rfl
            | true => exact fmul_nan (by rw [isNaN_fabs]; exact hn)
      · exact T.nd (by simp only [inK_i64, inB_i, leB_i, ltB_iff, leN_iff, slOk_iff, ble_iff, blt_iff, decide_eq_true_eq, decide_eq_false_iff_not, beq_iff_eq, beq_eq_false_iff_ne, bne_iff_ne, bne_eq_false_iff_eq, Bool.not_eq_true', Bool.not_eq_false', List.length_set, ne_eq, ge_iff_le, gt_iff_lt, setF_len, toNat_cast, lenOk]; omega) (T.nd (by simp only [inK_i64, inB_i, leB_i, ltB_iff, leN_iff, slOk_iff, ble_iff, blt_iff, decide_eq_true_eq, decide_eq_false_iff_not, beq_iff_eq, beq_eq_false_iff_ne, bne_iff_ne, bne_eq_false_iff_eq, Bool.not_eq_true', Bool.not_eq_false', List.length_set, ne_eq, ge_iff_le, gt_iff_lt, setF_len, toNat_cast, lenOk]; omega) (T.nd (by simp only [inK_i64, inB_i, leB_i, ltB_iff, leN_iff, slOk_iff, ble_iff, blt_iff, decide_eq_true_eq, decide_eq_false_iff_not, beq_iff_eq, beq_eq_false_iff_ne, bne_iff_ne, bne_eq_false_iff_eq, Bool.not_eq_true', Bool.not_eq_false', List.length_set, ne_eq, ge_iff_le, gt_iff_lt, setF_len, toNat_cast, lenOk]; omega) (T.nd (by simp only [inK_i64, inB_i, leB_i, ltB_iff, leN_iff, slOk_iff, ble_iff, blt_iff, decide_eq_true_eq, decide_eq_false_iff_not, beq_iff_eq, beq_eq_false_iff_ne, bne_iff_ne, bne_eq_false_iff_eq, Bool.not_eq_true', Bool.not_eq_false', List.length_set, ne_eq, ge_iff_le, gt_iff_lt, setF_len, toNat_cast, lenOk]; omega) rfl)))
      · refine loopM_at (fun j => (j + 1, vGo xs (fdiv 4607182418800017408 (fsub (xs.getD 0 0) (betaF (xs.getD 0 0) (longF xs)))) j)) (xs.length - 1) rfl (fun j hj => ?_) (T.af (by simp only [inK_i64, inB_i, leB_i, ltB_iff, leN_iff, slOk_iff, ble_iff, blt_iff, decide_eq_true_eq, decide_eq_false_iff_not, beq_iff_eq, beq_eq_false_iff_ne, bne_iff_ne, bne_eq_false_iff_eq, Bool.not_eq_true', Bool.not_eq_false', List.length_set, ne_eq, ge_iff_le, gt_iff_lt, setF_len, toNat_cast, lenOk]; omega) rfl)
        show (reflect_Make_t13 _ _ _ _).run = _
        unfold reflect_Make_t13
        rw [vGo_len]
        exact T.at (by simp only [inK_i64, inB_i, leB_i, ltB_iff, leN_iff, slOk_iff, ble_iff, blt_iff, decide_eq_true_eq, decide_eq_false_iff_not, beq_iff_eq, beq_eq_false_iff_ne, bne_iff_ne, bne_eq_false_iff_eq, Bool.not_eq_true', Bool.not_eq_false', List.length_set, ne_eq, ge_iff_le, gt_iff_lt, setF_len, toNat_cast, lenOk]; omega) (T.nd (by simp only [inK_i64, inB_i, leB_i, ltB_iff, leN_iff, slOk_iff, ble_iff, blt_iff, decide_eq_true_eq, decide_eq_false_iff_not, beq_iff_eq, beq_eq_false_iff_ne, bne_iff_ne, bne_eq_false_iff_eq, Bool.not_eq_true', Bool.not_eq_false', List.length_set, ne_eq, ge_iff_le, gt_iff_lt, setF_len, toNat_cast, lenOk]; omega) (T.nd (by simp only [inK_i64, inB_i, leB_i, ltB_iff, leN_iff, slOk_iff, ble_iff, blt_iff, decide_eq_true_eq, decide_eq_false_iff_not, beq_iff_eq, beq_eq_false_iff_ne, bne_iff_ne, bne_eq_false_iff_eq, Bool.not_eq_true', Bool.not_eq_false', List.length_set, ne_eq, ge_iff_le, gt_iff_lt, setF_len, toNat_cast, lenOk]; omega) (T.nd (by simp only [inK_i64, inB_i, leB_i, ltB_iff, leN_iff, slOk_iff, ble_iff, blt_iff, decide_eq_true_eq, decide_eq_false_iff_not, beq_iff_eq, beq_eq_false_iff_ne, bne_iff_ne, bne_eq_false_iff_eq, Bool.not_eq_true', Bool.not_eq_false', List.length_set, ne_eq, ge_iff_le, gt_iff_lt, setF_len, toNat_cast, lenOk]; omega) (T.nd (by simp only [inK_i64, inB_i, leB_i, ltB_iff, leN_iff, slOk_iff, ble_iff, blt_iff, decide_eq_true_eq, decide_eq_false_iff_not, beq_iff_eq, beq_eq_false_iff_ne, bne_iff_ne, bne_eq_false_iff_eq, Bool.not_eq_true', Bool.not_eq_false', List.length_set, ne_eq, ge_iff_le, gt_iff_lt, setF_len, toNat_cast, lenOk]; omega) (T.nd (by simp only [inK_i64, inB_i, leB_i, ltB_iff, leN_iff, slOk_iff, ble_iff, blt_iff, decide_eq_true_eq, decide_eq_false_iff_not, beq_iff_eq, beq_eq_false_iff_ne, bne_iff_ne, bne_eq_false_iff_eq, Bool.not_eq_true', Bool.not_eq_false', List.length_set, ne_eq, ge_iff_le, gt_iff_lt, setF_len, toNat_cast, lenOk]; omega) rfl)))))

theorem Make9_spec {xs : List Nat} (h0 : 0 < xs.length) (h : xs.length ≤ 1000000) : ref09_Make_F xs = some (.r0 (makeB xs) xs.length (makeT xs) (makeV xs)) := by
  refine toX_of (seqM_in (a := (longF xs, e1F xs.length)) ?_ ?_)
  · unfold ref09_Make_t9
    rw [Norm6_spec (by rw [cut1_len h0]; omega), List.length_replicate]
    simp only [ref06_Norm_i0, ref06_Norm_p0_0]
    (refine T.nd (by simp only [inK_i64, inB_i, leB_i, ltB_iff, leN_iff, slOk_iff, ble_iff, blt_iff, decide_eq_true_eq, decide_eq_false_iff_not, beq_iff_eq, beq_eq_false_iff_ne, bne_iff_ne, bne_eq_false_iff_eq, Bool.not_eq_true', Bool.not_eq_false', List.length_set, ne_eq, ge_iff_le, gt_iff_lt, setF_len, toNat_cast, lenOk]; omega) ?_; refine T.nd (by simp only [inK_i64, inB_i, leB_i, ltB_iff, leN_iff, slOk_iff, ble_iff, blt_iff, decide_eq_true_eq, decide_eq_false_iff_not, beq_iff_eq, beq_eq_false_iff_ne, bne_iff_ne, bne_eq_false_iff_eq, Bool.not_eq_true', Bool.not_eq_false', List.length_set, ne_eq, ge_iff_le, gt_iff_lt, setF_len, toNat_cast, lenOk]; omega) ?_; refine T.nd (by simp only [inK_i64, inB_i, leB_i, ltB_iff, leN_iff, slOk_iff, ble_iff, blt_iff, decide_eq_true_eq, decide_eq_false_iff_not, beq_iff_eq, beq_eq_false_iff_ne, bne_iff_ne, bne_eq_false_iff_eq, Bool.not_eq_true', Bool.not_eq_false', List.length_set, ne_eq, ge_iff_le, gt_iff_lt, setF_len, toNat_cast, lenOk]; omega) ?_; refine T.nd (by simp only [inK_i64, inB_i, leB_i, ltB_iff, leN_iff, slOk_iff, ble_iff, blt_iff, decide_eq_true_eq, decide_eq_false_iff_not, beq_iff_eq, beq_eq_false_iff_ne, bne_iff_ne, bne_eq_false_iff_eq, Bool.not_eq_true', Bool.not_eq_false', List.length_set, ne_eq, ge_iff_le, gt_iff_lt, setF_len, toNat_cast, lenOk]; omega) ?_; refine T.nd (by simp only [inK_i64, inB_i, leB_i, ltB_iff, leN_iff, slOk_iff, ble_iff, blt_iff, decide_eq_true_eq, decide_eq_false_iff_not, beq_iff_eq, beq_eq_false_iff_ne, bne_iff_ne, bne_eq_false_iff_eq, Bool.not_eq_true', Bool.not_eq_false', List.length_set, ne_eq, ge_iff_le, gt_iff_lt, setF_len, toNat_cast, lenOk]; omega) ?_; refine T.nd (by simp only [inK_i64, inB_i, leB_i, ltB_iff, leN_iff, slOk_iff, ble_iff, blt_iff, decide_eq_true_eq, decide_eq_false_iff_not, beq_iff_eq, beq_eq_false_iff_ne, bne_iff_ne, bne_eq_false_iff_eq, Bool.not_eq_true', Bool.not_eq_false', List.length_set, ne_eq, ge_iff_le, gt_iff_lt, setF_len, toNat_cast, lenOk]; omega) ?_; refine T.nd (by simp only [inK_i64, inB_i, leB_i, ltB_iff, leN_iff, slOk_iff, ble_iff, blt_iff, decide_eq_true_eq, decide_eq_false_iff_not, beq_iff_eq, beq_eq_false_iff_ne, bne_iff_ne, bne_eq_false_iff_eq, Bool.not_eq_true', Bool.not_eq_false', List.length_set, ne_eq, ge_iff_le, gt_iff_lt, setF_len, toNat_cast, lenOk]; omega) ?_; refine T.nd (by simp only [inK_i64, inB_i, leB_i, ltB_iff, leN_iff, slOk_iff, ble_iff, blt_iff, decide_eq_true_eq, decide_eq_false_iff_not, beq_iff_eq, beq_eq_false_iff_ne, bne_iff_ne, bne_eq_false_iff_eq, Bool.not_eq_true', Bool.not_eq_false', List.length_set, ne_eq, ge_iff_le, gt_iff_lt, setF_len, toNat_cast, lenOk]; omega) ?_)
    refine T.nd (by simp only [inK_i64, inB_i, leB_i, ltB_iff, leN_iff, slOk_iff, ble_iff, blt_iff, decide_eq_true_eq, decide_eq_false_iff_not, beq_iff_eq, beq_eq_false_iff_ne, bne_iff_ne, bne_eq_false_iff_eq, Bool.not_eq_true', Bool.not_eq_false', List.length_set, ne_eq, ge_iff_le, gt_iff_lt, setF_len, toNat_cast, lenOk]; omega) (T.nd rfl rfl)
  · cases hl : feq (longF xs) 0 with
    | true => obtain ⟨e1, e2, e3⟩ := make_t hl; rw [e1, e2, e3]; exact seqM_out (T.at hl (T.nd (by simp only [inK_i64, inB_i, leB_i, ltB_iff, leN_iff, slOk_iff, ble_iff, blt_iff, decide_eq_true_eq, decide_eq_false_iff_not, beq_iff_eq, beq_eq_false_iff_ne, bne_iff_ne, bne_eq_false_iff_eq, Bool.not_eq_true', Bool.not_eq_false', List.length_set, ne_eq, ge_iff_le, gt_iff_lt, setF_len, toNat_cast, lenOk]; omega) (T.nd (by simp only [inK_i64, inB_i, leB_i, ltB_iff, leN_iff, slOk_iff, ble_iff, blt_iff, decide_eq_true_eq, decide_eq_false_iff_not, beq_iff_eq, beq_eq_false_iff_ne, bne_iff_ne, bne_eq_false_iff_eq, Bool.not_eq_true', Bool.not_eq_false', List.length_set, ne_eq, ge_iff_le, gt_iff_lt, setF_len, toNat_cast, lenOk]; omega) rfl)))
    | false =>
      obtain ⟨e1, e2, e3⟩ := make_f hl
      rw [e1, e2, e3]
      refine seqM_in (a := betaF (xs.getD 0 0) (longF xs)) ?_ (seqM_in (a := (fdiv (fsub (betaF (xs.getD 0 0) (longF xs)) (xs.getD 0 0)) (betaF (xs.getD 0 0) (longF xs)), fdiv 4607182418800017408 (fsub (xs.getD 0 0) (betaF (xs.getD 0 0) (longF xs))))) ?_ (seqM_in (a := vGo xs (fdiv 4607182418800017408 (fsub (xs.getD 0 0) (betaF (xs.getD 0 0) (longF xs)))) (xs.length - 1)) ?_ rfl))
      · unfold ref09_Make_t10
        refine T.af hl (T.nd (by simp only [inK_i64, inB_i, leB_i, ltB_iff, leN_iff, slOk_iff, ble_iff, blt_iff, decide_eq_true_eq, decide_eq_false_iff_not, beq_iff_eq, beq_eq_false_iff_ne, bne_iff_ne, bne_eq_false_iff_eq, Bool.not_eq_true', Bool.not_eq_false', List.length_set, ne_eq, ge_iff_le, gt_iff_lt, setF_len, toNat_cast, lenOk]; omega) (T.nd (by simp only [inK_i64, inB_i, leB_i, ltB_iff, leN_iff, slOk_iff, ble_iff, blt_iff, decide_eq_true_eq, decide_eq_false_iff_not, beq_iff_eq, beq_eq_false_iff_ne, bne_iff_ne, bne_eq_false_iff_eq, Bool.not_eq_true', Bool.not_eq_false', List.length_set, ne_eq, ge_iff_le, gt_iff_lt, setF_len, toNat_cast, lenOk]; omega) ?_))
        cases hg : fgt (fabs (longF xs)) (fabs (xs.getD 0 0)) with
        | true =>
          rw [betaF_t hg]
          have hn : isNaN (xs.getD 0 0) = false := by have := (fgt_nn hg).2; rwa [isNaN_fabs] at this
          cases he : feq (fabs (longF xs)) 0 with
          | true => rw [hypS_t he]; exact T.at rfl (T.at rfl (T.nd (by simp only [inK_i64, inB_i, leB_i, ltB_iff, leN_iff, slOk_iff, ble_iff, blt_iff, decide_eq_true_eq, decide_eq_false_iff_not, beq_iff_eq, beq_eq_false_iff_ne, bne_iff_ne, bne_eq_false_iff_eq, Bool.not_eq_true', Bool.not_eq_false', List.length_set, ne_eq, ge_iff_le, gt_iff_lt, setF_len, toNat_cast, lenOk]; omega) (T.nd (by simp only [inK_i64, inB_i, leB_i, ltB_iff, leN_iff, slOk_iff, ble_iff, blt_iff, decide_eq_true_eq, decide_eq_false_iff_not, beq_iff_eq, beq_eq_false_iff_ne, bne_iff_ne, bne_eq_false_iff_eq, Bool.not_eq_true', Bool.not_eq_false', List.length_set, ne_eq, ge_iff_le, gt_iff_lt, setF_len, toNat_cast, lenOk]; omega) (T.nd (by rw [hn]; rfl) rfl))))
          | false => rw [hypS_f he]; exact T.at rfl (T.af rfl (T.nd (by simp only [inK_i64, inB_i, leB_i, ltB_iff, leN_iff, slOk_iff, ble_iff, blt_iff, decide_eq_true_eq, decide_eq_false_iff_not, beq_iff_eq, beq_eq_false_iff_ne, bne_iff_ne, bne_eq_false_iff_eq, Bool.not_eq_true', Bool.not_eq_false', List.length_set, ne_eq, ge_iff_le, gt_iff_lt, setF_len, toNat_cast, lenOk]; omega) (T.nd (by simp only [inK_i64, inB_i, leB_i, ltB_iff, leN_iff, slOk_iff, ble_iff, blt_iff, decide_eq_true_eq, decide_eq_false_iff_not, beq_iff_eq, beq_eq_false_iff_ne, bne_iff_ne, bne_eq_false_iff_eq, Bool.not_eq_true', Bool.not_eq_false', List.length_set, ne_eq, ge_iff_le, gt_iff_lt, setF_len, toNat_cast, lenOk]; omega) (T.nd (by rw [hn]; rfl) rfl))))
        | false =>
          rw [betaF_f hg]
          cases he : feq (fabs (xs.getD 0 0)) 0 with
          | true =>
            rw [hypS_t he]
            have hn : isNaN (xs.getD 0 0) = false := by have := feq_nn he; rwa [isNaN_fabs] at this
            exact T.af rfl (T.at rfl (T.nd (by simp only [inK_i64, inB_i, leB_i, ltB_iff, leN_iff, slOk_iff, ble_iff, blt_iff, decide_eq_true_eq, decide_eq_false_iff_not, beq_iff_eq, beq_eq_false_iff_ne, bne_iff_ne, bne_eq_false_iff_eq, Bool.not_eq_true', Bool.not_eq_false', List.length_set, ne_eq, ge_iff_le, gt_iff_lt, setF_len, toNat_cast, lenOk]; omega) (T.nd (by simp only [inK_i64, inB_i, leB_i, ltB_iff, leN_iff, slOk_iff, ble_iff, blt_iff, decide_eq_true_eq, decide_eq_false_iff_not, beq_iff_eq, beq_eq_false_iff_ne, bne_iff_ne, bne_eq_false_iff_eq, Bool.not_eq_true', Bool.not_eq_false', List.length_set, ne_eq, ge_iff_le, gt_iff_lt, setF_len, toNat_cast, lenOk]; omega) (T.nd (by rw [hn]; rfl) rfl))))
          | false =>
            rw [hypS_f he]
            refine T.af rfl (T.af rfl (T.nd (by simp only [inK_i64, inB_i, leB_i, ltB_iff, leN_iff, slOk_iff, ble_iff, blt_iff, decide_eq_true_eq, decide_eq_false_iff_not, beq_iff_eq, beq_eq_false_iff_ne, bne_iff_ne, bne_eq_false_iff_eq, Bool.not_eq_true', Bool.not_eq_false', List.length_set, ne_eq, ge_iff_le, gt_iff_lt, setF_len, toNat_cast, lenOk]; omega) (T.nd (by simp only [inK_i64, inB_i, leB_i, ltB_iff, leN_iff, slOk_iff, ble_iff, blt_iff, decide_eq_true_eq, decide_eq_false_iff_not, beq_iff_eq, beq_eq_false_iff_ne, bne_iff_ne, bne_eq_false_iff_eq, Bool.not_eq_true', Bool.not_eq_false', List.length_set, ne_eq, ge_iff_le, gt_iff_lt, setF_len, toNat_cast, lenOk]; omega) (T.nd ?_ rfl))))
            cases hn : isNaN (xs.getD 0 0) with
            | false => rfl
            | true => exact fmul_nan (by rw [isNaN_fabs]; exact hn)
      · exact T.nd (by simp only [inK_i64, inB_i, leB_i, ltB_iff, leN_iff, slOk_iff, ble_iff, blt_iff, decide_eq_true_eq, decide_eq_false_iff_not, beq_iff_eq, beq_eq_false_iff_ne, bne_iff_ne, bne_eq_false_iff_eq, Bool.not_eq_true', Bool.not_eq_false', List.length_set, ne_eq, ge_iff_le, gt_iff_lt, setF_len, toNat_cast, lenOk]; omega) (T.nd (by simp only [inK_i64, inB_i, leB_i, ltB_iff, leN_iff, slOk_iff, ble_iff, blt_iff, decide_eq_true_eq, decide_eq_false_iff_not, beq_iff_eq, beq_eq_false_iff_ne, bne_iff_ne, bne_eq_false_iff_eq, Bool.not_eq_true', Bool.not_eq_false', List.length_set, ne_eq, ge_iff_le, gt_iff_lt, setF_len, toNat_cast, lenOk]; omega) (T.nd (by simp only [inK_i64, inB_i, leB_i, ltB_iff, leN_iff, slOk_iff, ble_iff, blt_iff, decide_eq_true_eq, decide_eq_false_iff_not, beq_iff_eq, beq_eq_false_iff_ne, bne_iff_ne, bne_eq_false_iff_eq, Bool.not_eq_true', Bool.not_eq_false', List.length_set, ne_eq, ge_iff_le, gt_iff_lt, setF_len, toNat_cast, lenOk]; omega) (T.nd (by simp only [inK_i64, inB_i, leB_i, ltB_iff, leN_iff, slOk_iff, ble_iff, blt_iff, decide_eq_true_eq, decide_eq_false_iff_not, beq_iff_eq, beq_eq_false_iff_ne, bne_iff_ne, bne_eq_false_iff_eq, Bool.not_eq_true', Bool.not_eq_false', List.length_set, ne_eq, ge_iff_le, gt_iff_lt, setF_len, toNat_cast, lenOk]; omega) rfl)))
      · refine loopM_at (fun j => (j + 1, vGo xs (fdiv 4607182418800017408 (fsub (xs.getD 0 0) (betaF (xs.getD 0 0) (longF xs)))) j)) (xs.length - 1) rfl (fun j hj => ?_) (T.af (by simp only [inK_i64, inB_i, leB_i, ltB_iff, leN_iff, slOk_iff, ble_iff, blt_iff, decide_eq_true_eq, decide_eq_false_iff_not, beq_iff_eq, beq_eq_false_iff_ne, bne_iff_ne, bne_eq_false_iff_eq, Bool.not_eq_true', Bool.not_eq_false', List.length_set, ne_eq, ge_iff_le, gt_iff_lt, setF_len, toNat_cast, lenOk]; omega) rfl)
        show (ref09_Make_t13 _ _ _ _).run = _
        unfold ref09_Make_t13
        rw [vGo_len]
        exact T.at (by simp only [inK_i64, inB_i, leB_i, ltB_iff, leN_iff, slOk_iff, ble_iff, blt_iff, decide_eq_true_eq, decide_eq_false_iff_not, beq_iff_eq, beq_eq_false_iff_ne, bne_iff_ne, bne_eq_false_iff_eq, Bool.not_eq_true', Bool.not_eq_false', List.length_set, ne_eq, ge_iff_le, gt_iff_lt, setF_len, toNat_cast, lenOk]; omega) (T.nd (by simp only [inK_i64, inB_i, leB_i, ltB_iff, leN_iff, slOk_iff, ble_iff, blt_iff, decide_eq_true_eq, decide_eq_false_iff_not, beq_iff_eq, beq_eq_false_iff_ne, bne_iff_ne, bne_eq_false_iff_eq, Bool.not_eq_true', Bool.not_eq_false', List.length_set, ne_eq, ge_iff_le, gt_iff_lt, setF_len, toNat_cast, lenOk]; omega) (T.nd (by simp only [inK_i64, inB_i, leB_i, ltB_iff, leN_iff, slOk_iff, ble_iff, blt_iff, decide_eq_true_eq, decide_eq_false_iff_not, beq_iff_eq, beq_eq_false_iff_ne, bne_iff_ne, bne_eq_false_iff_eq, Bool.not_eq_true', Bool.not_eq_false', List.length_set, ne_eq, ge_iff_le, gt_iff_lt, setF_len, toNat_cast, lenOk]; omega) (T.nd (by simp only [inK_i64, inB_i, leB_i, ltB_iff, leN_iff, slOk_iff, ble_iff, blt_iff, decide_eq_true_eq, decide_eq_false_iff_not, beq_iff_eq, beq_eq_false_iff_ne, bne_iff_ne, bne_eq_false_iff_eq, Bool.not_eq_true', Bool.not_eq_false', List.length_set, ne_eq, ge_iff_le, gt_iff_lt, setF_len, toNat_cast, lenOk]; omega) (T.nd (by simp only [inK_i64, inB_i, leB_i, ltB_iff, leN_iff, slOk_iff, ble_iff, blt_iff, decide_eq_true_eq, decide_eq_false_iff_not, beq_iff_eq, beq_eq_false_iff_ne, bne_iff_ne, bne_eq_false_iff_eq, Bool.not_eq_true', Bool.not_eq_false', List.length_set, ne_eq, ge_iff_le, gt_iff_lt, setF_len, toNat_cast, lenOk]; omega) (T.nd (by simp only [inK_i64, inB_i, leB_i, ltB_iff, leN_iff, slOk_iff, ble_iff, blt_iff, decide_eq_true_eq, decide_eq_false_iff_not, beq_iff_eq, beq_eq_false_iff_ne, bne_iff_ne, bne_eq_false_iff_eq, Bool.not_eq_true', Bool.not_eq_false', List.length_set, ne_eq, ge_iff_le, gt_iff_lt, setF_len, toNat_cast, lenOk]; omega) rfl)))))

/-- A list that grows. -/
def pushF {α : Type} (f : Nat → α) : Nat → List α
  | 0 => []
  | n + 1 => pushF f n ++ [f n]
theorem pushF_len {α : Type} {f : Nat → α} : ∀ {n : Nat}, (pushF f n).length = n
  | 0 => rfl
  | n + 1 => by simp only [pushF, List.length_append, List.length_singleton, pushF_len (n := n)]
theorem take_pushF {α : Type} {f : Nat → α} {n : Nat} : (pushF f n).take n = pushF f n := by
  rw [List.take_of_length_le]; rw [pushF_len]; exact Nat.le_refl n

theorem setF_hit {α : Type} {pos : Nat → Nat} {val : Nat → α} {l : List α} {d : α} : ∀ {n : Nat} (inj : ∀ i j, i < n → j < n → pos i = pos j → i = j) (inr : ∀ i, i < n → pos i < l.length) (i : Nat), i < n → (setF pos val l n).getD (pos i) d = val i
  | 0, _, _, i, h => absurd h (Nat.not_lt_zero _)
  | n + 1, inj, inr, i, h => by
    by_cases e : i = n
    · subst e
      simp only [setF, List.getD_eq_getElem?_getD, List.getElem?_set, setF_len]
      simp [inr i h]
    · have ih := setF_hit (val := val) (d := d) (n := n) (fun a b ha hb => inj a b (by omega) (by omega)) (fun a ha => inr a (by omega)) i (by omega)
      simp only [setF]
      rw [← ih]
      have hne : pos n ≠ pos i := fun q => e (inj n i (by omega) h q).symm
      simp only [List.getD_eq_getElem?_getD, List.getElem?_set, if_neg hne]
end Go.Plb.Seat

/-
  PLAIN: the tridiagonal form: one step, plainly.
-/
namespace Go.Plb.Seat
open Go Go.Plb
set_option linter.unusedSimpArgs false
set_option linter.unusedVariables false

/-- The column below the diagonal. -/
def colF (A : List Nat) (n k i : Nat) : Nat := A.getD ((k + 1 + i) * n + k) 0
def colX (A : List Nat) (n k : Nat) : List Nat := pushF (colF A n k) (n - 1 - k)
def pF (A v : List Nat) (n k tau i : Nat) : Nat := fmul tau (sumF (fun j => fmul (A.getD ((k + 1 + i) * n + (k + 1 + j)) 0) (v.getD j 0)) (n - 1 - k))
def cF (A v : List Nat) (n k tau : Nat) : Nat := fneg (fmul (fmul 4602678819172646912 tau) (sumF (fun i => fmul (pF A v n k tau i) (v.getD i 0)) (n - 1 - k)))
def wF (A v : List Nat) (n k tau i : Nat) : Nat := fadd (pF A v n k tau i) (fmul (cF A v n k tau) (v.getD i 0))
def cellF (v : List Nat) (w : Nat → Nat) (n k i j : Nat) (out : List Nat) : List Nat :=
  out.set ((k + 1 + i) * n + (k + 1 + j)) (fsub (out.getD ((k + 1 + i) * n + (k + 1 + j)) 0) (fadd (fmul (v.getD i 0) (w j)) (fmul (w i) (v.getD j 0))))
def rowF (v : List Nat) (w : Nat → Nat) (n k i : Nat) (out : List Nat) (j : Nat) : List Nat := iterF (fun j out => cellF v w n k i j out) out j
def updF (v : List Nat) (w : Nat → Nat) (n k : Nat) (A : List Nat) (i : Nat) : List Nat := iterF (fun i out => rowF v w n k i out (n - 1 - k)) A i
theorem rowF_len {v : List Nat} {w : Nat → Nat} {n k i : Nat} {out : List Nat} : ∀ {j : Nat}, (rowF v w n k i out j).length = out.length
  | 0 => rfl
  | j + 1 => by simp only [rowF, iterF, cellF, List.length_set]; exact rowF_len (j := j)
theorem updF_len {v : List Nat} {w : Nat → Nat} {n k : Nat} {A : List Nat} : ∀ {i : Nat}, (updF v w n k A i).length = A.length
  | 0 => rfl
  | i + 1 => by have := updF_len (v := v) (w := w) (n := n) (k := k) (A := A) (i := i); simp only [updF, iterF, rowF_len] at this ⊢; exact this
def stepA (n k : Nat) (A : List Nat) : List Nat :=
  bif feq (makeT (colX A n k)) 0 then A else updF (makeV (colX A n k)) (wF A (makeV (colX A n k)) n k (makeT (colX A n k))) n k A (n - 1 - k)
theorem stepA_len {n k : Nat} {A : List Nat} : (stepA n k A).length = A.length := by
  unfold stepA; cases feq (makeT (colX A n k)) 0 <;> simp only [cond_true, cond_false, updF_len]
theorem stepA_t {n k : Nat} {A : List Nat} (h : feq (makeT (colX A n k)) 0 = true) : stepA n k A = A := by unfold stepA; rw [h, cond_true]
theorem stepA_f {n k : Nat} {A : List Nat} (h : feq (makeT (colX A n k)) 0 = false) : stepA n k A = updF (makeV (colX A n k)) (wF A (makeV (colX A n k)) n k (makeT (colX A n k))) n k A (n - 1 - k) := by
  unfold stepA; rw [h, cond_false]

theorem colX_len {A : List Nat} {n k : Nat} : (colX A n k).length = n - 1 - k := pushF_len

/-- The matrix behind k steps. -/
def matF (xs : List Nat) (n : Nat) : Nat → List Nat := iterF (fun k A => stepA n k A) xs
theorem matF_len {xs : List Nat} {n : Nat} : ∀ {k : Nat}, (matF xs n k).length = xs.length
  | 0 => rfl
  | k + 1 => by simp only [matF, iterF, stepA_len]; exact matF_len (k := k)

-- places
theorem place_lt {n k i j : Nat} (hi : i < n - 1 - k) (hj : j < n - 1 - k) : (k + 1 + i) * n + (k + 1 + j) < n * n := idx_lt (by omega) (by omega)
theorem push_take {α : Type} {f : Nat → α} {n : Nat} : List.take n (pushF f n) ++ List.take 1 [f n] = pushF f (n + 1) := by
  rw [take_pushF]; rfl
theorem push_take1 {α : Type} {f : Nat → α} {n : Nat} : List.take n (pushF f n) ++ [f n] = pushF f (n + 1) := by
  rw [take_pushF]; rfl

/-- A vector's places set. -/
def putF (f : Nat → Nat) (k : Nat) (l : List Nat) (j : Nat) : List Nat := setF (fun i => k + 1 + i) f l j
theorem putF_len {f : Nat → Nat} {k : Nat} {l : List Nat} {j : Nat} : (putF f k l j).length = l.length := setF_len
theorem putF_hit {f : Nat → Nat} {k n m i : Nat} {l : List Nat} (hl : l.length = n) (hm : k + 1 + m ≤ n) (hi : i < m) : (putF f k l m).getD (k + 1 + i) 0 = f i :=
  setF_hit (pos := fun i => k + 1 + i) (fun a b _ _ q => by omega) (fun a ha => by omega) i hi
theorem putF_other {f : Nat → Nat} {k j p : Nat} {l : List Nat} (h : k + 1 + j ≤ p) : (putF f k l j).getD p 0 = l.getD p 0 :=
  setF_other fun i hi => by omega

-- the program's sums
theorem tsum2_spec {A v : List Nat} {n k i : Nat} (hA : A.length = n * n) (hn : n ≤ 512) (hv : v.length = n - 1 - k) (hk : k + 1 ≤ n) (hi : i < n - 1 - k) :
    tridiag_sum_of_tridiag_Reduce_2_F ((k + 1 : Nat) : Int) (n : Int) A ((k + 1 + i : Nat) : Int) (n : Int) v (k : Int) = some (.r0 (sumF (fun j => fmul (A.getD ((k + 1 + i) * n + (k + 1 + j)) 0) (v.getD j 0)) (n - 1 - k))) := by
  have hs := sq_bd hn
  refine toX_of (seqM_in rfl (seqM_in (loopM_at (fun j => (sumF (fun j => fmul (A.getD ((k + 1 + i) * n + (k + 1 + j)) 0) (v.getD j 0)) j, ((k + 1 + j : Nat) : Int))) (n - 1 - k) rfl (fun j hj => ?_) ?_) rfl))
  · have hp := place_lt hi hj
    show (tridiag_sum_of_tridiag_Reduce_2_t9 _ _ _ _ _ _ _ _).run = _
    unfold tridiag_sum_of_tridiag_Reduce_2_t9
    generalize hI : k + 1 + i = I at *
    have h := idxOb (x := I) hp (by omega) (by omega)
    have e : Int.toNat (((k + 1 + j : Nat) : Int) - (k : Int) - 1) = j := by omega
    rw [hA, e, h.f]
    refine T.at (by simp only [inK_i64, inB_i, leB_i, ltB_iff, leN_iff, slOk_iff, ble_iff, blt_iff, decide_eq_true_eq, decide_eq_false_iff_not, beq_iff_eq, beq_eq_false_iff_ne, bne_iff_ne, bne_eq_false_iff_eq, Bool.not_eq_true', Bool.not_eq_false', List.length_set, ne_eq, ge_iff_le, gt_iff_lt, setF_len, toNat_cast, lenOk]; omega) (T.nd h.b (T.nd h.c (T.nd h.d (T.nd (by rw [ltB_iff]; exact hp) ?_))))
    (refine T.nd (by simp only [inK_i64, inB_i, leB_i, ltB_iff, leN_iff, slOk_iff, ble_iff, blt_iff, decide_eq_true_eq, decide_eq_false_iff_not, beq_iff_eq, beq_eq_false_iff_ne, bne_iff_ne, bne_eq_false_iff_eq, Bool.not_eq_true', Bool.not_eq_false', List.length_set, ne_eq, ge_iff_le, gt_iff_lt, setF_len, toNat_cast, lenOk]; omega) ?_; refine T.nd (by simp only [inK_i64, inB_i, leB_i, ltB_iff, leN_iff, slOk_iff, ble_iff, blt_iff, decide_eq_true_eq, decide_eq_false_iff_not, beq_iff_eq, beq_eq_false_iff_ne, bne_iff_ne, bne_eq_false_iff_eq, Bool.not_eq_true', Bool.not_eq_false', List.length_set, ne_eq, ge_iff_le, gt_iff_lt, setF_len, toNat_cast, lenOk]; omega) ?_; refine T.nd (by simp only [inK_i64, inB_i, leB_i, ltB_iff, leN_iff, slOk_iff, ble_iff, blt_iff, decide_eq_true_eq, decide_eq_false_iff_not, beq_iff_eq, beq_eq_false_iff_ne, bne_iff_ne, bne_eq_false_iff_eq, Bool.not_eq_true', Bool.not_eq_false', List.length_set, ne_eq, ge_iff_le, gt_iff_lt, setF_len, toNat_cast, lenOk]; omega) ?_; refine T.nd (by simp only [inK_i64, inB_i, leB_i, ltB_iff, leN_iff, slOk_iff, ble_iff, blt_iff, decide_eq_true_eq, decide_eq_false_iff_not, beq_iff_eq, beq_eq_false_iff_ne, bne_iff_ne, bne_eq_false_iff_eq, Bool.not_eq_true', Bool.not_eq_false', List.length_set, ne_eq, ge_iff_le, gt_iff_lt, setF_len, toNat_cast, lenOk]; omega) ?_)
    refine T.nd (by simp only [inK_i64, inB_i, leB_i, ltB_iff, leN_iff, slOk_iff, ble_iff, blt_iff, decide_eq_true_eq, decide_eq_false_iff_not, beq_iff_eq, beq_eq_false_iff_ne, bne_iff_ne, bne_eq_false_iff_eq, Bool.not_eq_true', Bool.not_eq_false', List.length_set, ne_eq, ge_iff_le, gt_iff_lt, setF_len, toNat_cast, lenOk]; omega) ?_
    show some (Sum.inl _) = _
    congr 3
  · exact T.af (by simp only [inK_i64, inB_i, leB_i, ltB_iff, leN_iff, slOk_iff, ble_iff, blt_iff, decide_eq_true_eq, decide_eq_false_iff_not, beq_iff_eq, beq_eq_false_iff_ne, bne_iff_ne, bne_eq_false_iff_eq, Bool.not_eq_true', Bool.not_eq_false', List.length_set, ne_eq, ge_iff_le, gt_iff_lt, setF_len, toNat_cast, lenOk]; omega) rfl

theorem tsum3_spec {p v : List Nat} {f : Nat → Nat} {n k : Nat} (hp : p.length = n) (hn : n ≤ 512) (hv : v.length = n - 1 - k) (hk : k + 1 ≤ n) (hf : ∀ i, i < n - 1 - k → p.getD (k + 1 + i) 0 = f i) :
    tridiag_sum_of_tridiag_Reduce_3_F ((k + 1 : Nat) : Int) (n : Int) p v (k : Int) = some (.r0 (sumF (fun i => fmul (f i) (v.getD i 0)) (n - 1 - k))) := by
  refine toX_of (seqM_in rfl (seqM_in (loopM_at (fun j => (sumF (fun i => fmul (f i) (v.getD i 0)) j, ((k + 1 + j : Nat) : Int))) (n - 1 - k) rfl (fun j hj => ?_) ?_) rfl))
  · show (tridiag_sum_of_tridiag_Reduce_3_t9 _ _ _ _ _ _).run = _
    unfold tridiag_sum_of_tridiag_Reduce_3_t9
    have e : Int.toNat (((k + 1 + j : Nat) : Int) - (k : Int) - 1) = j := by omega
    have hj' := hf j hj
    rw [e]
    refine T.at (by simp only [inK_i64, inB_i, leB_i, ltB_iff, leN_iff, slOk_iff, ble_iff, blt_iff, decide_eq_true_eq, decide_eq_false_iff_not, beq_iff_eq, beq_eq_false_iff_ne, bne_iff_ne, bne_eq_false_iff_eq, Bool.not_eq_true', Bool.not_eq_false', List.length_set, ne_eq, ge_iff_le, gt_iff_lt, setF_len, toNat_cast, lenOk]; omega) ?_
    (refine T.nd (by simp only [inK_i64, inB_i, leB_i, ltB_iff, leN_iff, slOk_iff, ble_iff, blt_iff, decide_eq_true_eq, decide_eq_false_iff_not, beq_iff_eq, beq_eq_false_iff_ne, bne_iff_ne, bne_eq_false_iff_eq, Bool.not_eq_true', Bool.not_eq_false', List.length_set, ne_eq, ge_iff_le, gt_iff_lt, setF_len, toNat_cast, lenOk]; omega) ?_; refine T.nd (by simp only [inK_i64, inB_i, leB_i, ltB_iff, leN_iff, slOk_iff, ble_iff, blt_iff, decide_eq_true_eq, decide_eq_false_iff_not, beq_iff_eq, beq_eq_false_iff_ne, bne_iff_ne, bne_eq_false_iff_eq, Bool.not_eq_true', Bool.not_eq_false', List.length_set, ne_eq, ge_iff_le, gt_iff_lt, setF_len, toNat_cast, lenOk]; omega) ?_; refine T.nd (by simp only [inK_i64, inB_i, leB_i, ltB_iff, leN_iff, slOk_iff, ble_iff, blt_iff, decide_eq_true_eq, decide_eq_false_iff_not, beq_iff_eq, beq_eq_false_iff_ne, bne_iff_ne, bne_eq_false_iff_eq, Bool.not_eq_true', Bool.not_eq_false', List.length_set, ne_eq, ge_iff_le, gt_iff_lt, setF_len, toNat_cast, lenOk]; omega) ?_; refine T.nd (by simp only [inK_i64, inB_i, leB_i, ltB_iff, leN_iff, slOk_iff, ble_iff, blt_iff, decide_eq_true_eq, decide_eq_false_iff_not, beq_iff_eq, beq_eq_false_iff_ne, bne_iff_ne, bne_eq_false_iff_eq, Bool.not_eq_true', Bool.not_eq_false', List.length_set, ne_eq, ge_iff_le, gt_iff_lt, setF_len, toNat_cast, lenOk]; omega) ?_; refine T.nd (by simp only [inK_i64, inB_i, leB_i, ltB_iff, leN_iff, slOk_iff, ble_iff, blt_iff, decide_eq_true_eq, decide_eq_false_iff_not, beq_iff_eq, beq_eq_false_iff_ne, bne_iff_ne, bne_eq_false_iff_eq, Bool.not_eq_true', Bool.not_eq_false', List.length_set, ne_eq, ge_iff_le, gt_iff_lt, setF_len, toNat_cast, lenOk]; omega) ?_; refine T.nd (by simp only [inK_i64, inB_i, leB_i, ltB_iff, leN_iff, slOk_iff, ble_iff, blt_iff, decide_eq_true_eq, decide_eq_false_iff_not, beq_iff_eq, beq_eq_false_iff_ne, bne_iff_ne, bne_eq_false_iff_eq, Bool.not_eq_true', Bool.not_eq_false', List.length_set, ne_eq, ge_iff_le, gt_iff_lt, setF_len, toNat_cast, lenOk]; omega) ?_)
    refine T.nd (by simp only [inK_i64, inB_i, leB_i, ltB_iff, leN_iff, slOk_iff, ble_iff, blt_iff, decide_eq_true_eq, decide_eq_false_iff_not, beq_iff_eq, beq_eq_false_iff_ne, bne_iff_ne, bne_eq_false_iff_eq, Bool.not_eq_true', Bool.not_eq_false', List.length_set, ne_eq, ge_iff_le, gt_iff_lt, setF_len, toNat_cast, lenOk]; omega) ?_
    show some (Sum.inl _) = _
    rw [toNat_cast, hj']
    congr 3
  · exact T.af (by simp only [inK_i64, inB_i, leB_i, ltB_iff, leN_iff, slOk_iff, ble_iff, blt_iff, decide_eq_true_eq, decide_eq_false_iff_not, beq_iff_eq, beq_eq_false_iff_ne, bne_iff_ne, bne_eq_false_iff_eq, Bool.not_eq_true', Bool.not_eq_false', List.length_set, ne_eq, ge_iff_le, gt_iff_lt, setF_len, toNat_cast, lenOk]; omega) rfl
end Go.Plb.Seat

/-
  PLAIN: the program's loops of the tridiagonal form.
-/
namespace Go.Plb.Seat
open Go Go.Plb
set_option linter.unusedSimpArgs false
set_option linter.unusedVariables false

theorem slOk_to {α : Type} {n : Nat} {l : List α} (h : l.length = n) : slOk 0 n l = true := by rw [← h]; exact slOk_all l

theorem R_col {A : List Nat} {n k : Nat} (hA : A.length = n * n) (hn : n ≤ 512) (hk : k + 2 ≤ n) :
    loopM (tridiag_Reduce_m165 (n : Int) (n * n) k A) (0, 0, k + 1, []) = some (.inl (n - 1 - k, n - 1 - k, colX A n k)) := by
  have hs := sq_bd hn
  refine loopM_at (fun j => (j, j, k + 1 + j, pushF (colF A n k) j)) (n - 1 - k) rfl (fun j hj => ?_) (T.af (by simp only [inK_i64, inB_i, leB_i, ltB_iff, leN_iff, slOk_iff, ble_iff, blt_iff, decide_eq_true_eq, decide_eq_false_iff_not, beq_iff_eq, beq_eq_false_iff_ne, bne_iff_ne, bne_eq_false_iff_eq, Bool.not_eq_true', Bool.not_eq_false', List.length_set, ne_eq, ge_iff_le, gt_iff_lt, setF_len, toNat_cast, lenOk]; omega) rfl)
  have hp : (k + 1 + j) * n + k < n * n := idx_lt (by omega) (by omega)
  have hl := pushF_len (f := colF A n k) (n := j)
  show (tridiag_Reduce_t164 _ _ _ _ _ _ _ _).run = _
  unfold tridiag_Reduce_t164
  have hc : A.getD ((k + 1 + j) * n + k) 0 = colF A n k j := rfl
  generalize hI : k + 1 + j = I at *
  have h := idxOb (x := I) hp (by omega) (by omega)
  rw [hA, h.f, hc]
  refine T.at (by simp only [inK_i64, inB_i, leB_i, ltB_iff, leN_iff, slOk_iff, ble_iff, blt_iff, decide_eq_true_eq, decide_eq_false_iff_not, beq_iff_eq, beq_eq_false_iff_ne, bne_iff_ne, bne_eq_false_iff_eq, Bool.not_eq_true', Bool.not_eq_false', List.length_set, ne_eq, ge_iff_le, gt_iff_lt, setF_len, toNat_cast, lenOk]; omega) (T.nd h.b (T.nd h.c (T.nd h.d (T.nd (by rw [ltB_iff]; exact hp) ?_))))
  refine T.nd (by simp only [inK_i64, inB_i, leB_i, ltB_iff, leN_iff, slOk_iff, ble_iff, blt_iff, decide_eq_true_eq, decide_eq_false_iff_not, beq_iff_eq, beq_eq_false_iff_ne, bne_iff_ne, bne_eq_false_iff_eq, Bool.not_eq_true', Bool.not_eq_false', List.length_set, ne_eq, ge_iff_le, gt_iff_lt, setF_len, toNat_cast, lenOk]; omega) (T.nd (by simp only [inK_i64, inB_i, leB_i, ltB_iff, leN_iff, slOk_iff, ble_iff, blt_iff, decide_eq_true_eq, decide_eq_false_iff_not, beq_iff_eq, beq_eq_false_iff_ne, bne_iff_ne, bne_eq_false_iff_eq, Bool.not_eq_true', Bool.not_eq_false', List.length_set, ne_eq, ge_iff_le, gt_iff_lt, setF_len, toNat_cast, lenOk]; omega) (T.nd rfl (T.nd (by simp only [inK_i64, inB_i, leB_i, ltB_iff, leN_iff, slOk_iff, ble_iff, blt_iff, decide_eq_true_eq, decide_eq_false_iff_not, beq_iff_eq, beq_eq_false_iff_ne, bne_iff_ne, bne_eq_false_iff_eq, Bool.not_eq_true', Bool.not_eq_false', List.length_set, ne_eq, ge_iff_le, gt_iff_lt, setF_len, toNat_cast, lenOk]; omega) (T.nd (by simp only [inK_i64, inB_i, leB_i, ltB_iff, leN_iff, slOk_iff, ble_iff, blt_iff, decide_eq_true_eq, decide_eq_false_iff_not, beq_iff_eq, beq_eq_false_iff_ne, bne_iff_ne, bne_eq_false_iff_eq, Bool.not_eq_true', Bool.not_eq_false', List.length_set, ne_eq, ge_iff_le, gt_iff_lt, setF_len, toNat_cast, lenOk]; omega) ?_))))
  rw [push_take]
  subst hI; rfl

theorem R_p {A v p : List Nat} {n k tau : Nat} (hA : A.length = n * n) (hn : n ≤ 512) (hk : k + 2 ≤ n) (hv : v.length = n - 1 - k) (hp : p.length = n) :
    loopM (tridiag_Reduce_m171 (n : Int) (n * n) n k A v (n - 1 - k) tau) (k + 1, p) = some (.inl (putF (pF A v n k tau) k p (n - 1 - k))) := by
  refine loopM_at (fun j => (k + 1 + j, putF (pF A v n k tau) k p j)) (n - 1 - k) rfl (fun j hj => ?_) (seqM_out (T.af (by simp only [inK_i64, inB_i, leB_i, ltB_iff, leN_iff, slOk_iff, ble_iff, blt_iff, decide_eq_true_eq, decide_eq_false_iff_not, beq_iff_eq, beq_eq_false_iff_ne, bne_iff_ne, bne_eq_false_iff_eq, Bool.not_eq_true', Bool.not_eq_false', List.length_set, ne_eq, ge_iff_le, gt_iff_lt, setF_len, toNat_cast, lenOk]; omega) rfl))
  have hl := putF_len (f := pF A v n k tau) (k := k) (l := p) (j := j)
  show seqM (tridiag_Reduce_t169 _ _ _ _ _ _ _ _ _ _).run _ = _
  refine seqM_in (a := putF (pF A v n k tau) k p (j + 1)) ?_ (T.nd (by simp only [inK_i64, inB_i, leB_i, ltB_iff, leN_iff, slOk_iff, ble_iff, blt_iff, decide_eq_true_eq, decide_eq_false_iff_not, beq_iff_eq, beq_eq_false_iff_ne, bne_iff_ne, bne_eq_false_iff_eq, Bool.not_eq_true', Bool.not_eq_false', List.length_set, ne_eq, ge_iff_le, gt_iff_lt, setF_len, toNat_cast, lenOk]; omega) rfl)
  unfold tridiag_Reduce_t169
  rw [cutL_to hA, cutL_to hv, tsum2_spec hA hn hv (by omega) hj]
  exact T.at (by simp only [inK_i64, inB_i, leB_i, ltB_iff, leN_iff, slOk_iff, ble_iff, blt_iff, decide_eq_true_eq, decide_eq_false_iff_not, beq_iff_eq, beq_eq_false_iff_ne, bne_iff_ne, bne_eq_false_iff_eq, Bool.not_eq_true', Bool.not_eq_false', List.length_set, ne_eq, ge_iff_le, gt_iff_lt, setF_len, toNat_cast, lenOk]; omega) (T.nd (by simp only [inK_i64, inB_i, leB_i, ltB_iff, leN_iff, slOk_iff, ble_iff, blt_iff, decide_eq_true_eq, decide_eq_false_iff_not, beq_iff_eq, beq_eq_false_iff_ne, bne_iff_ne, bne_eq_false_iff_eq, Bool.not_eq_true', Bool.not_eq_false', List.length_set, ne_eq, ge_iff_le, gt_iff_lt, setF_len, toNat_cast, lenOk]; omega) (T.nd (slOk_to hA) (T.nd (slOk_to hv) (T.nd rfl (T.nd (by simp only [inK_i64, inB_i, leB_i, ltB_iff, leN_iff, slOk_iff, ble_iff, blt_iff, decide_eq_true_eq, decide_eq_false_iff_not, beq_iff_eq, beq_eq_false_iff_ne, bne_iff_ne, bne_eq_false_iff_eq, Bool.not_eq_true', Bool.not_eq_false', List.length_set, ne_eq, ge_iff_le, gt_iff_lt, setF_len, toNat_cast, lenOk]; omega) (T.nd (by simp only [inK_i64, inB_i, leB_i, ltB_iff, leN_iff, slOk_iff, ble_iff, blt_iff, decide_eq_true_eq, decide_eq_false_iff_not, beq_iff_eq, beq_eq_false_iff_ne, bne_iff_ne, bne_eq_false_iff_eq, Bool.not_eq_true', Bool.not_eq_false', List.length_set, ne_eq, ge_iff_le, gt_iff_lt, setF_len, toNat_cast, lenOk]; omega) rfl))))))

theorem R_c {A v p : List Nat} {n k tau : Nat} (hn : n ≤ 512) (hk : k + 2 ≤ n) (hv : v.length = n - 1 - k) (hp : p.length = n) (hf : ∀ i, i < n - 1 - k → p.getD (k + 1 + i) 0 = pF A v n k tau i) :
    (tridiag_Reduce_t172 (n : Int) n k v (n - 1 - k) tau p).run = some (.inl (cF A v n k tau)) := by
  unfold tridiag_Reduce_t172
  rw [cutL_to hp, cutL_to hv, tsum3_spec hp hn hv (by omega) hf]
  exact T.nd (by simp only [inK_i64, inB_i, leB_i, ltB_iff, leN_iff, slOk_iff, ble_iff, blt_iff, decide_eq_true_eq, decide_eq_false_iff_not, beq_iff_eq, beq_eq_false_iff_ne, bne_iff_ne, bne_eq_false_iff_eq, Bool.not_eq_true', Bool.not_eq_false', List.length_set, ne_eq, ge_iff_le, gt_iff_lt, setF_len, toNat_cast, lenOk]; omega) (T.nd (slOk_to hp) (T.nd (slOk_to hv) (T.nd rfl rfl)))

theorem R_w {A v p : List Nat} {n k tau : Nat} (hn : n ≤ 512) (hk : k + 2 ≤ n) (hv : v.length = n - 1 - k) (hp : p.length = n) (hf : ∀ i, i < n - 1 - k → p.getD (k + 1 + i) 0 = pF A v n k tau i) :
    loopM (tridiag_Reduce_m176 (n : Int) n k v (n - 1 - k) (cF A v n k tau)) (k + 1, p) = some (.inl (putF (wF A v n k tau) k p (n - 1 - k))) := by
  refine loopM_at (fun j => (k + 1 + j, putF (wF A v n k tau) k p j)) (n - 1 - k) rfl (fun j hj => ?_) (T.af (by simp only [inK_i64, inB_i, leB_i, ltB_iff, leN_iff, slOk_iff, ble_iff, blt_iff, decide_eq_true_eq, decide_eq_false_iff_not, beq_iff_eq, beq_eq_false_iff_ne, bne_iff_ne, bne_eq_false_iff_eq, Bool.not_eq_true', Bool.not_eq_false', List.length_set, ne_eq, ge_iff_le, gt_iff_lt, setF_len, toNat_cast, lenOk]; omega) rfl)
  have hl := putF_len (f := wF A v n k tau) (k := k) (l := p) (j := j)
  have hg : (putF (wF A v n k tau) k p j).getD (k + 1 + j) 0 = pF A v n k tau j := by rw [putF_other (Nat.le_refl _)]; exact hf j hj
  have e : Int.toNat (((k + 1 + j : Nat) : Int) - (k : Int) - 1) = j := by omega
  show (tridiag_Reduce_t175 _ _ _ _ _ _ _ _).run = _
  unfold tridiag_Reduce_t175
  rw [hg, e]
  refine T.at (by simp only [inK_i64, inB_i, leB_i, ltB_iff, leN_iff, slOk_iff, ble_iff, blt_iff, decide_eq_true_eq, decide_eq_false_iff_not, beq_iff_eq, beq_eq_false_iff_ne, bne_iff_ne, bne_eq_false_iff_eq, Bool.not_eq_true', Bool.not_eq_false', List.length_set, ne_eq, ge_iff_le, gt_iff_lt, setF_len, toNat_cast, lenOk]; omega) ?_
  (refine T.nd (by simp only [inK_i64, inB_i, leB_i, ltB_iff, leN_iff, slOk_iff, ble_iff, blt_iff, decide_eq_true_eq, decide_eq_false_iff_not, beq_iff_eq, beq_eq_false_iff_ne, bne_iff_ne, bne_eq_false_iff_eq, Bool.not_eq_true', Bool.not_eq_false', List.length_set, ne_eq, ge_iff_le, gt_iff_lt, setF_len, toNat_cast, lenOk]; omega) ?_; refine T.nd (by simp only [inK_i64, inB_i, leB_i, ltB_iff, leN_iff, slOk_iff, ble_iff, blt_iff, decide_eq_true_eq, decide_eq_false_iff_not, beq_iff_eq, beq_eq_false_iff_ne, bne_iff_ne, bne_eq_false_iff_eq, Bool.not_eq_true', Bool.not_eq_false', List.length_set, ne_eq, ge_iff_le, gt_iff_lt, setF_len, toNat_cast, lenOk]; omega) ?_; refine T.nd (by simp only [inK_i64, inB_i, leB_i, ltB_iff, leN_iff, slOk_iff, ble_iff, blt_iff, decide_eq_true_eq, decide_eq_false_iff_not, beq_iff_eq, beq_eq_false_iff_ne, bne_iff_ne, bne_eq_false_iff_eq, Bool.not_eq_true', Bool.not_eq_false', List.length_set, ne_eq, ge_iff_le, gt_iff_lt, setF_len, toNat_cast, lenOk]; omega) ?_; refine T.nd (by simp only [inK_i64, inB_i, leB_i, ltB_iff, leN_iff, slOk_iff, ble_iff, blt_iff, decide_eq_true_eq, decide_eq_false_iff_not, beq_iff_eq, beq_eq_false_iff_ne, bne_iff_ne, bne_eq_false_iff_eq, Bool.not_eq_true', Bool.not_eq_false', List.length_set, ne_eq, ge_iff_le, gt_iff_lt, setF_len, toNat_cast, lenOk]; omega) ?_; refine T.nd (by simp only [inK_i64, inB_i, leB_i, ltB_iff, leN_iff, slOk_iff, ble_iff, blt_iff, decide_eq_true_eq, decide_eq_false_iff_not, beq_iff_eq, beq_eq_false_iff_ne, bne_iff_ne, bne_eq_false_iff_eq, Bool.not_eq_true', Bool.not_eq_false', List.length_set, ne_eq, ge_iff_le, gt_iff_lt, setF_len, toNat_cast, lenOk]; omega) ?_; refine T.nd (by simp only [inK_i64, inB_i, leB_i, ltB_iff, leN_iff, slOk_iff, ble_iff, blt_iff, decide_eq_true_eq, decide_eq_false_iff_not, beq_iff_eq, beq_eq_false_iff_ne, bne_iff_ne, bne_eq_false_iff_eq, Bool.not_eq_true', Bool.not_eq_false', List.length_set, ne_eq, ge_iff_le, gt_iff_lt, setF_len, toNat_cast, lenOk]; omega) ?_; refine T.nd (by simp only [inK_i64, inB_i, leB_i, ltB_iff, leN_iff, slOk_iff, ble_iff, blt_iff, decide_eq_true_eq, decide_eq_false_iff_not, beq_iff_eq, beq_eq_false_iff_ne, bne_iff_ne, bne_eq_false_iff_eq, Bool.not_eq_true', Bool.not_eq_false', List.length_set, ne_eq, ge_iff_le, gt_iff_lt, setF_len, toNat_cast, lenOk]; omega) ?_; refine T.nd (by simp only [inK_i64, inB_i, leB_i, ltB_iff, leN_iff, slOk_iff, ble_iff, blt_iff, decide_eq_true_eq, decide_eq_false_iff_not, beq_iff_eq, beq_eq_false_iff_ne, bne_iff_ne, bne_eq_false_iff_eq, Bool.not_eq_true', Bool.not_eq_false', List.length_set, ne_eq, ge_iff_le, gt_iff_lt, setF_len, toNat_cast, lenOk]; omega) ?_)
  exact T.nd (by simp only [inK_i64, inB_i, leB_i, ltB_iff, leN_iff, slOk_iff, ble_iff, blt_iff, decide_eq_true_eq, decide_eq_false_iff_not, beq_iff_eq, beq_eq_false_iff_ne, bne_iff_ne, bne_eq_false_iff_eq, Bool.not_eq_true', Bool.not_eq_false', List.length_set, ne_eq, ge_iff_le, gt_iff_lt, setF_len, toNat_cast, lenOk]; omega) rfl

theorem R_row {A v W : List Nat} {w : Nat → Nat} {n k i : Nat} (hA : A.length = n * n) (hn : n ≤ 512) (hk : k + 2 ≤ n) (hv : v.length = n - 1 - k) (hW : W.length = n) (hw : ∀ i, i < n - 1 - k → W.getD (k + 1 + i) 0 = w i) (hi : i < n - 1 - k) :
    loopM (tridiag_Reduce_m185 (n : Int) (n * n) n k v (n - 1 - k) W (k + 1 + i)) (k + 1, A) = some (.inl (rowF v w n k i A (n - 1 - k))) := by
  have hs := sq_bd hn
  refine loopM_at (fun j => (k + 1 + j, rowF v w n k i A j)) (n - 1 - k) rfl (fun j hj => ?_) (seqM_out (T.af (by simp only [inK_i64, inB_i, leB_i, ltB_iff, leN_iff, slOk_iff, ble_iff, blt_iff, decide_eq_true_eq, decide_eq_false_iff_not, beq_iff_eq, beq_eq_false_iff_ne, bne_iff_ne, bne_eq_false_iff_eq, Bool.not_eq_true', Bool.not_eq_false', List.length_set, ne_eq, ge_iff_le, gt_iff_lt, setF_len, toNat_cast, lenOk]; omega) rfl))
  have hp := place_lt hi hj
  have hl := rowF_len (v := v) (w := w) (n := n) (k := k) (i := i) (out := A) (j := j)
  show seqM (tridiag_Reduce_t183 _ _ _ _ _ _ _ _ _ _).run _ = _
  refine seqM_in (a := rowF v w n k i A (j + 1)) ?_ (T.nd (by simp only [inK_i64, inB_i, leB_i, ltB_iff, leN_iff, slOk_iff, ble_iff, blt_iff, decide_eq_true_eq, decide_eq_false_iff_not, beq_iff_eq, beq_eq_false_iff_ne, bne_iff_ne, bne_eq_false_iff_eq, Bool.not_eq_true', Bool.not_eq_false', List.length_set, ne_eq, ge_iff_le, gt_iff_lt, setF_len, toNat_cast, lenOk]; omega) rfl)
  unfold tridiag_Reduce_t183
  have ei : Int.toNat (((k + 1 + i : Nat) : Int) - (k : Int) - 1) = i := by omega
  have ej : Int.toNat (((k + 1 + j : Nat) : Int) - (k : Int) - 1) = j := by omega
  have h := idxOb (x := k + 1 + i) hp (by omega) (by omega)
  rw [hl, hA, ei, ej, h.f, hw i hi, hw j hj, hW]
  refine T.at (by simp only [inK_i64, inB_i, leB_i, ltB_iff, leN_iff, slOk_iff, ble_iff, blt_iff, decide_eq_true_eq, decide_eq_false_iff_not, beq_iff_eq, beq_eq_false_iff_ne, bne_iff_ne, bne_eq_false_iff_eq, Bool.not_eq_true', Bool.not_eq_false', List.length_set, ne_eq, ge_iff_le, gt_iff_lt, setF_len, toNat_cast, lenOk]; omega) (T.nd h.b (T.nd h.c (T.nd h.d (T.nd (by rw [ltB_iff]; exact hp) ?_))))
  (refine T.nd (by simp only [inK_i64, inB_i, leB_i, ltB_iff, leN_iff, slOk_iff, ble_iff, blt_iff, decide_eq_true_eq, decide_eq_false_iff_not, beq_iff_eq, beq_eq_false_iff_ne, bne_iff_ne, bne_eq_false_iff_eq, Bool.not_eq_true', Bool.not_eq_false', List.length_set, ne_eq, ge_iff_le, gt_iff_lt, setF_len, toNat_cast, lenOk]; omega) ?_; refine T.nd (by simp only [inK_i64, inB_i, leB_i, ltB_iff, leN_iff, slOk_iff, ble_iff, blt_iff, decide_eq_true_eq, decide_eq_false_iff_not, beq_iff_eq, beq_eq_false_iff_ne, bne_iff_ne, bne_eq_false_iff_eq, Bool.not_eq_true', Bool.not_eq_false', List.length_set, ne_eq, ge_iff_le, gt_iff_lt, setF_len, toNat_cast, lenOk]; omega) ?_; refine T.nd (by simp only [inK_i64, inB_i, leB_i, ltB_iff, leN_iff, slOk_iff, ble_iff, blt_iff, decide_eq_true_eq, decide_eq_false_iff_not, beq_iff_eq, beq_eq_false_iff_ne, bne_iff_ne, bne_eq_false_iff_eq, Bool.not_eq_true', Bool.not_eq_false', List.length_set, ne_eq, ge_iff_le, gt_iff_lt, setF_len, toNat_cast, lenOk]; omega) ?_; refine T.nd (by simp only [inK_i64, inB_i, leB_i, ltB_iff, leN_iff, slOk_iff, ble_iff, blt_iff, decide_eq_true_eq, decide_eq_false_iff_not, beq_iff_eq, beq_eq_false_iff_ne, bne_iff_ne, bne_eq_false_iff_eq, Bool.not_eq_true', Bool.not_eq_false', List.length_set, ne_eq, ge_iff_le, gt_iff_lt, setF_len, toNat_cast, lenOk]; omega) ?_; refine T.nd (by simp only [inK_i64, inB_i, leB_i, ltB_iff, leN_iff, slOk_iff, ble_iff, blt_iff, decide_eq_true_eq, decide_eq_false_iff_not, beq_iff_eq, beq_eq_false_iff_ne, bne_iff_ne, bne_eq_false_iff_eq, Bool.not_eq_true', Bool.not_eq_false', List.length_set, ne_eq, ge_iff_le, gt_iff_lt, setF_len, toNat_cast, lenOk]; omega) ?_; refine T.nd (by simp only [inK_i64, inB_i, leB_i, ltB_iff, leN_iff, slOk_iff, ble_iff, blt_iff, decide_eq_true_eq, decide_eq_false_iff_not, beq_iff_eq, beq_eq_false_iff_ne, bne_iff_ne, bne_eq_false_iff_eq, Bool.not_eq_true', Bool.not_eq_false', List.length_set, ne_eq, ge_iff_le, gt_iff_lt, setF_len, toNat_cast, lenOk]; omega) ?_; refine T.nd (by simp only [inK_i64, inB_i, leB_i, ltB_iff, leN_iff, slOk_iff, ble_iff, blt_iff, decide_eq_true_eq, decide_eq_false_iff_not, beq_iff_eq, beq_eq_false_iff_ne, bne_iff_ne, bne_eq_false_iff_eq, Bool.not_eq_true', Bool.not_eq_false', List.length_set, ne_eq, ge_iff_le, gt_iff_lt, setF_len, toNat_cast, lenOk]; omega) ?_; refine T.nd (by simp only [inK_i64, inB_i, leB_i, ltB_iff, leN_iff, slOk_iff, ble_iff, blt_iff, decide_eq_true_eq, decide_eq_false_iff_not, beq_iff_eq, beq_eq_false_iff_ne, bne_iff_ne, bne_eq_false_iff_eq, Bool.not_eq_true', Bool.not_eq_false', List.length_set, ne_eq, ge_iff_le, gt_iff_lt, setF_len, toNat_cast, lenOk]; omega) ?_; refine T.nd (by simp only [inK_i64, inB_i, leB_i, ltB_iff, leN_iff, slOk_iff, ble_iff, blt_iff, decide_eq_true_eq, decide_eq_false_iff_not, beq_iff_eq, beq_eq_false_iff_ne, bne_iff_ne, bne_eq_false_iff_eq, Bool.not_eq_true', Bool.not_eq_false', List.length_set, ne_eq, ge_iff_le, gt_iff_lt, setF_len, toNat_cast, lenOk]; omega) ?_; refine T.nd (by simp only [inK_i64, inB_i, leB_i, ltB_iff, leN_iff, slOk_iff, ble_iff, blt_iff, decide_eq_true_eq, decide_eq_false_iff_not, beq_iff_eq, beq_eq_false_iff_ne, bne_iff_ne, bne_eq_false_iff_eq, Bool.not_eq_true', Bool.not_eq_false', List.length_set, ne_eq, ge_iff_le, gt_iff_lt, setF_len, toNat_cast, lenOk]; omega) ?_; refine T.nd (by simp only [inK_i64, inB_i, leB_i, ltB_iff, leN_iff, slOk_iff, ble_iff, blt_iff, decide_eq_true_eq, decide_eq_false_iff_not, beq_iff_eq, beq_eq_false_iff_ne, bne_iff_ne, bne_eq_false_iff_eq, Bool.not_eq_true', Bool.not_eq_false', List.length_set, ne_eq, ge_iff_le, gt_iff_lt, setF_len, toNat_cast, lenOk]; omega) ?_; refine T.nd (by simp only [inK_i64, inB_i, leB_i, ltB_iff, leN_iff, slOk_iff, ble_iff, blt_iff, decide_eq_true_eq, decide_eq_false_iff_not, beq_iff_eq, beq_eq_false_iff_ne, bne_iff_ne, bne_eq_false_iff_eq, Bool.not_eq_true', Bool.not_eq_false', List.length_set, ne_eq, ge_iff_le, gt_iff_lt, setF_len, toNat_cast, lenOk]; omega) ?_)
  exact T.nd h.d (T.nd (by rw [ltB_iff]; exact hp) rfl)

theorem R_upd {A v W : List Nat} {w : Nat → Nat} {n k : Nat} (hA : A.length = n * n) (hn : n ≤ 512) (hk : k + 2 ≤ n) (hv : v.length = n - 1 - k) (hW : W.length = n) (hw : ∀ i, i < n - 1 - k → W.getD (k + 1 + i) 0 = w i) :
    loopM (tridiag_Reduce_m188 (n : Int) (n * n) n k v (n - 1 - k) W) (k + 1, A) = some (.inl (updF v w n k A (n - 1 - k))) := by
  refine loopM_at (fun i => (k + 1 + i, updF v w n k A i)) (n - 1 - k) rfl (fun i hi => ?_) (seqM_out (T.af (by simp only [inK_i64, inB_i, leB_i, ltB_iff, leN_iff, slOk_iff, ble_iff, blt_iff, decide_eq_true_eq, decide_eq_false_iff_not, beq_iff_eq, beq_eq_false_iff_ne, bne_iff_ne, bne_eq_false_iff_eq, Bool.not_eq_true', Bool.not_eq_false', List.length_set, ne_eq, ge_iff_le, gt_iff_lt, setF_len, toNat_cast, lenOk]; omega) rfl))
  show seqM (tridiag_Reduce_t179 _ _ _).run _ = _
  refine seqM_in (a := ()) (T.at (by simp only [inK_i64, inB_i, leB_i, ltB_iff, leN_iff, slOk_iff, ble_iff, blt_iff, decide_eq_true_eq, decide_eq_false_iff_not, beq_iff_eq, beq_eq_false_iff_ne, bne_iff_ne, bne_eq_false_iff_eq, Bool.not_eq_true', Bool.not_eq_false', List.length_set, ne_eq, ge_iff_le, gt_iff_lt, setF_len, toNat_cast, lenOk]; omega) rfl) (seqM_in (joinM_in (a := updF v w n k A (i + 1)) (seqM_in (a := k + 1) (T.nd (by simp only [inK_i64, inB_i, leB_i, ltB_iff, leN_iff, slOk_iff, ble_iff, blt_iff, decide_eq_true_eq, decide_eq_false_iff_not, beq_iff_eq, beq_eq_false_iff_ne, bne_iff_ne, bne_eq_false_iff_eq, Bool.not_eq_true', Bool.not_eq_false', List.length_set, ne_eq, ge_iff_le, gt_iff_lt, setF_len, toNat_cast, lenOk]; omega) rfl) (seqM_in (R_row (by rw [updF_len]; exact hA) hn hk hv hW hw hi) rfl))) (T.nd (by simp only [inK_i64, inB_i, leB_i, ltB_iff, leN_iff, slOk_iff, ble_iff, blt_iff, decide_eq_true_eq, decide_eq_false_iff_not, beq_iff_eq, beq_eq_false_iff_ne, bne_iff_ne, bne_eq_false_iff_eq, Bool.not_eq_true', Bool.not_eq_false', List.length_set, ne_eq, ge_iff_le, gt_iff_lt, setF_len, toNat_cast, lenOk]; omega) rfl))

-- the document's
theorem Q_col {A xs : List Nat} {n k : Nat} (hA : A.length = n * n) (hx : xs.length = n * n) (hn : n ≤ 512) (hk : k + 2 ≤ n) :
    loopM (ref10_Reduce_m217 (n : Int) xs k A) (0, 0, k + 1, []) = some (.inl (n - 1 - k, n - 1 - k, colX A n k)) := by
  have hs := sq_bd hn
  refine loopM_at (fun j => (j, j, k + 1 + j, pushF (colF A n k) j)) (n - 1 - k) rfl (fun j hj => ?_) (T.af (by simp only [inK_i64, inB_i, leB_i, ltB_iff, leN_iff, slOk_iff, ble_iff, blt_iff, decide_eq_true_eq, decide_eq_false_iff_not, beq_iff_eq, beq_eq_false_iff_ne, bne_iff_ne, bne_eq_false_iff_eq, Bool.not_eq_true', Bool.not_eq_false', List.length_set, ne_eq, ge_iff_le, gt_iff_lt, setF_len, toNat_cast, lenOk]; omega) rfl)
  have hp : (k + 1 + j) * n + k < n * n := idx_lt (by omega) (by omega)
  have hl := pushF_len (f := colF A n k) (n := j)
  show (ref10_Reduce_t216 _ _ _ _ _ _ _ _).run = _
  unfold ref10_Reduce_t216
  have hc : A.getD ((k + 1 + j) * n + k) 0 = colF A n k j := rfl
  generalize hI : k + 1 + j = I at *
  have h := idxOb (x := I) hp (by omega) (by omega)
  rw [hA, hx, h.f, hc]
  refine T.at (by simp only [inK_i64, inB_i, leB_i, ltB_iff, leN_iff, slOk_iff, ble_iff, blt_iff, decide_eq_true_eq, decide_eq_false_iff_not, beq_iff_eq, beq_eq_false_iff_ne, bne_iff_ne, bne_eq_false_iff_eq, Bool.not_eq_true', Bool.not_eq_false', List.length_set, ne_eq, ge_iff_le, gt_iff_lt, setF_len, toNat_cast, lenOk]; omega) (T.nd h.b (T.nd h.c (T.nd h.d (T.nd (by rw [ltB_iff]; exact hp) ?_))))
  refine T.nd (by simp only [inK_i64, inB_i, leB_i, ltB_iff, leN_iff, slOk_iff, ble_iff, blt_iff, decide_eq_true_eq, decide_eq_false_iff_not, beq_iff_eq, beq_eq_false_iff_ne, bne_iff_ne, bne_eq_false_iff_eq, Bool.not_eq_true', Bool.not_eq_false', List.length_set, ne_eq, ge_iff_le, gt_iff_lt, setF_len, toNat_cast, lenOk]; omega) (T.nd (by simp only [inK_i64, inB_i, leB_i, ltB_iff, leN_iff, slOk_iff, ble_iff, blt_iff, decide_eq_true_eq, decide_eq_false_iff_not, beq_iff_eq, beq_eq_false_iff_ne, bne_iff_ne, bne_eq_false_iff_eq, Bool.not_eq_true', Bool.not_eq_false', List.length_set, ne_eq, ge_iff_le, gt_iff_lt, setF_len, toNat_cast, lenOk]; omega) (T.nd rfl (T.nd (by simp only [inK_i64, inB_i, leB_i, ltB_iff, leN_iff, slOk_iff, ble_iff, blt_iff, decide_eq_true_eq, decide_eq_false_iff_not, beq_iff_eq, beq_eq_false_iff_ne, bne_iff_ne, bne_eq_false_iff_eq, Bool.not_eq_true', Bool.not_eq_false', List.length_set, ne_eq, ge_iff_le, gt_iff_lt, setF_len, toNat_cast, lenOk]; omega) (T.nd (by simp only [inK_i64, inB_i, leB_i, ltB_iff, leN_iff, slOk_iff, ble_iff, blt_iff, decide_eq_true_eq, decide_eq_false_iff_not, beq_iff_eq, beq_eq_false_iff_ne, bne_iff_ne, bne_eq_false_iff_eq, Bool.not_eq_true', Bool.not_eq_false', List.length_set, ne_eq, ge_iff_le, gt_iff_lt, setF_len, toNat_cast, lenOk]; omega) ?_))))
  rw [push_take]
  subst hI; rfl

theorem Q_sum {A v xs : List Nat} {n k i : Nat} (hA : A.length = n * n) (hx : xs.length = n * n) (hn : n ≤ 512) (hk : k + 2 ≤ n) (hv : v.length = n - 1 - k) (hi : i < n - 1 - k) :
    loopM (ref10_Reduce_m226 (n : Int) xs k A v (n - 1 - k) (k + 1 + i)) (0, k + 1) = some (.inl (sumF (fun j => fmul (A.getD ((k + 1 + i) * n + (k + 1 + j)) 0) (v.getD j 0)) (n - 1 - k))) := by
  have hs := sq_bd hn
  refine loopM_at (fun j => (sumF (fun j => fmul (A.getD ((k + 1 + i) * n + (k + 1 + j)) 0) (v.getD j 0)) j, k + 1 + j)) (n - 1 - k) rfl (fun j hj => ?_) (T.af (by simp only [inK_i64, inB_i, leB_i, ltB_iff, leN_iff, slOk_iff, ble_iff, blt_iff, decide_eq_true_eq, decide_eq_false_iff_not, beq_iff_eq, beq_eq_false_iff_ne, bne_iff_ne, bne_eq_false_iff_eq, Bool.not_eq_true', Bool.not_eq_false', List.length_set, ne_eq, ge_iff_le, gt_iff_lt, setF_len, toNat_cast, lenOk]; omega) rfl)
  have hp := place_lt hi hj
  show (ref10_Reduce_t225 _ _ _ _ _ _ _ _ _).run = _
  unfold ref10_Reduce_t225
  have ej : Int.toNat (((k + 1 + j : Nat) : Int) - (k : Int) - 1) = j := by omega
  have h := idxOb (x := k + 1 + i) hp (by omega) (by omega)
  rw [hA, hx, h.f, ej]
  refine T.at (by simp only [inK_i64, inB_i, leB_i, ltB_iff, leN_iff, slOk_iff, ble_iff, blt_iff, decide_eq_true_eq, decide_eq_false_iff_not, beq_iff_eq, beq_eq_false_iff_ne, bne_iff_ne, bne_eq_false_iff_eq, Bool.not_eq_true', Bool.not_eq_false', List.length_set, ne_eq, ge_iff_le, gt_iff_lt, setF_len, toNat_cast, lenOk]; omega) (T.nd h.b (T.nd h.c (T.nd h.d (T.nd (by rw [ltB_iff]; exact hp) ?_))))
  (refine T.nd (by simp only [inK_i64, inB_i, leB_i, ltB_iff, leN_iff, slOk_iff, ble_iff, blt_iff, decide_eq_true_eq, decide_eq_false_iff_not, beq_iff_eq, beq_eq_false_iff_ne, bne_iff_ne, bne_eq_false_iff_eq, Bool.not_eq_true', Bool.not_eq_false', List.length_set, ne_eq, ge_iff_le, gt_iff_lt, setF_len, toNat_cast, lenOk]; omega) ?_; refine T.nd (by simp only [inK_i64, inB_i, leB_i, ltB_iff, leN_iff, slOk_iff, ble_iff, blt_iff, decide_eq_true_eq, decide_eq_false_iff_not, beq_iff_eq, beq_eq_false_iff_ne, bne_iff_ne, bne_eq_false_iff_eq, Bool.not_eq_true', Bool.not_eq_false', List.length_set, ne_eq, ge_iff_le, gt_iff_lt, setF_len, toNat_cast, lenOk]; omega) ?_; refine T.nd (by simp only [inK_i64, inB_i, leB_i, ltB_iff, leN_iff, slOk_iff, ble_iff, blt_iff, decide_eq_true_eq, decide_eq_false_iff_not, beq_iff_eq, beq_eq_false_iff_ne, bne_iff_ne, bne_eq_false_iff_eq, Bool.not_eq_true', Bool.not_eq_false', List.length_set, ne_eq, ge_iff_le, gt_iff_lt, setF_len, toNat_cast, lenOk]; omega) ?_; refine T.nd (by simp only [inK_i64, inB_i, leB_i, ltB_iff, leN_iff, slOk_iff, ble_iff, blt_iff, decide_eq_true_eq, decide_eq_false_iff_not, beq_iff_eq, beq_eq_false_iff_ne, bne_iff_ne, bne_eq_false_iff_eq, Bool.not_eq_true', Bool.not_eq_false', List.length_set, ne_eq, ge_iff_le, gt_iff_lt, setF_len, toNat_cast, lenOk]; omega) ?_)
  exact T.nd (by simp only [inK_i64, inB_i, leB_i, ltB_iff, leN_iff, slOk_iff, ble_iff, blt_iff, decide_eq_true_eq, decide_eq_false_iff_not, beq_iff_eq, beq_eq_false_iff_ne, bne_iff_ne, bne_eq_false_iff_eq, Bool.not_eq_true', Bool.not_eq_false', List.length_set, ne_eq, ge_iff_le, gt_iff_lt, setF_len, toNat_cast, lenOk]; omega) rfl

theorem Q_p {A v p xs : List Nat} {n k tau : Nat} (hA : A.length = n * n) (hx : xs.length = n * n) (hn : n ≤ 512) (hk : k + 2 ≤ n) (hv : v.length = n - 1 - k) (hp : p.length = n) :
    loopM (ref10_Reduce_m229 (n : Int) xs k A v (n - 1 - k) tau n) (k + 1, p) = some (.inl (putF (pF A v n k tau) k p (n - 1 - k))) := by
  refine loopM_at (fun j => (k + 1 + j, putF (pF A v n k tau) k p j)) (n - 1 - k) rfl (fun j hj => ?_) (seqM_out (T.af (by simp only [inK_i64, inB_i, leB_i, ltB_iff, leN_iff, slOk_iff, ble_iff, blt_iff, decide_eq_true_eq, decide_eq_false_iff_not, beq_iff_eq, beq_eq_false_iff_ne, bne_iff_ne, bne_eq_false_iff_eq, Bool.not_eq_true', Bool.not_eq_false', List.length_set, ne_eq, ge_iff_le, gt_iff_lt, setF_len, toNat_cast, lenOk]; omega) rfl))
  have hl := putF_len (f := pF A v n k tau) (k := k) (l := p) (j := j)
  show seqM (ref10_Reduce_t221 _ _ _).run _ = _
  exact seqM_in (a := ()) (T.at (by simp only [inK_i64, inB_i, leB_i, ltB_iff, leN_iff, slOk_iff, ble_iff, blt_iff, decide_eq_true_eq, decide_eq_false_iff_not, beq_iff_eq, beq_eq_false_iff_ne, bne_iff_ne, bne_eq_false_iff_eq, Bool.not_eq_true', Bool.not_eq_false', List.length_set, ne_eq, ge_iff_le, gt_iff_lt, setF_len, toNat_cast, lenOk]; omega) rfl) (seqM_in (joinM_in (a := putF (pF A v n k tau) k p (j + 1)) (seqM_in (a := k + 1) (T.nd (by simp only [inK_i64, inB_i, leB_i, ltB_iff, leN_iff, slOk_iff, ble_iff, blt_iff, decide_eq_true_eq, decide_eq_false_iff_not, beq_iff_eq, beq_eq_false_iff_ne, bne_iff_ne, bne_eq_false_iff_eq, Bool.not_eq_true', Bool.not_eq_false', List.length_set, ne_eq, ge_iff_le, gt_iff_lt, setF_len, toNat_cast, lenOk]; omega) rfl) (seqM_in (Q_sum hA hx hn hk hv hj) (T.nd (by simp only [inK_i64, inB_i, leB_i, ltB_iff, leN_iff, slOk_iff, ble_iff, blt_iff, decide_eq_true_eq, decide_eq_false_iff_not, beq_iff_eq, beq_eq_false_iff_ne, bne_iff_ne, bne_eq_false_iff_eq, Bool.not_eq_true', Bool.not_eq_false', List.length_set, ne_eq, ge_iff_le, gt_iff_lt, setF_len, toNat_cast, lenOk]; omega) (T.nd (by simp only [inK_i64, inB_i, leB_i, ltB_iff, leN_iff, slOk_iff, ble_iff, blt_iff, decide_eq_true_eq, decide_eq_false_iff_not, beq_iff_eq, beq_eq_false_iff_ne, bne_iff_ne, bne_eq_false_iff_eq, Bool.not_eq_true', Bool.not_eq_false', List.length_set, ne_eq, ge_iff_le, gt_iff_lt, setF_len, toNat_cast, lenOk]; omega) rfl))))) (T.nd (by simp only [inK_i64, inB_i, leB_i, ltB_iff, leN_iff, slOk_iff, ble_iff, blt_iff, decide_eq_true_eq, decide_eq_false_iff_not, beq_iff_eq, beq_eq_false_iff_ne, bne_iff_ne, bne_eq_false_iff_eq, Bool.not_eq_true', Bool.not_eq_false', List.length_set, ne_eq, ge_iff_le, gt_iff_lt, setF_len, toNat_cast, lenOk]; omega) rfl))

theorem Q_c {A v p : List Nat} {n k tau : Nat} (hn : n ≤ 512) (hk : k + 2 ≤ n) (hv : v.length = n - 1 - k) (hp : p.length = n) (hf : ∀ i, i < n - 1 - k → p.getD (k + 1 + i) 0 = pF A v n k tau i) :
    loopM (ref10_Reduce_m233 (n : Int) k v (n - 1 - k) n p) (0, k + 1) = some (.inl (sumF (fun i => fmul (pF A v n k tau i) (v.getD i 0)) (n - 1 - k))) := by
  refine loopM_at (fun j => (sumF (fun i => fmul (pF A v n k tau i) (v.getD i 0)) j, k + 1 + j)) (n - 1 - k) rfl (fun j hj => ?_) (T.af (by simp only [inK_i64, inB_i, leB_i, ltB_iff, leN_iff, slOk_iff, ble_iff, blt_iff, decide_eq_true_eq, decide_eq_false_iff_not, beq_iff_eq, beq_eq_false_iff_ne, bne_iff_ne, bne_eq_false_iff_eq, Bool.not_eq_true', Bool.not_eq_false', List.length_set, ne_eq, ge_iff_le, gt_iff_lt, setF_len, toNat_cast, lenOk]; omega) rfl)
  show (ref10_Reduce_t232 _ _ _ _ _ _ _ _).run = _
  unfold ref10_Reduce_t232
  have ej : Int.toNat (((k + 1 + j : Nat) : Int) - (k : Int) - 1) = j := by omega
  rw [ej, hf j hj]
  refine T.at (by simp only [inK_i64, inB_i, leB_i, ltB_iff, leN_iff, slOk_iff, ble_iff, blt_iff, decide_eq_true_eq, decide_eq_false_iff_not, beq_iff_eq, beq_eq_false_iff_ne, bne_iff_ne, bne_eq_false_iff_eq, Bool.not_eq_true', Bool.not_eq_false', List.length_set, ne_eq, ge_iff_le, gt_iff_lt, setF_len, toNat_cast, lenOk]; omega) ?_
  (refine T.nd (by simp only [inK_i64, inB_i, leB_i, ltB_iff, leN_iff, slOk_iff, ble_iff, blt_iff, decide_eq_true_eq, decide_eq_false_iff_not, beq_iff_eq, beq_eq_false_iff_ne, bne_iff_ne, bne_eq_false_iff_eq, Bool.not_eq_true', Bool.not_eq_false', List.length_set, ne_eq, ge_iff_le, gt_iff_lt, setF_len, toNat_cast, lenOk]; omega) ?_; refine T.nd (by simp only [inK_i64, inB_i, leB_i, ltB_iff, leN_iff, slOk_iff, ble_iff, blt_iff, decide_eq_true_eq, decide_eq_false_iff_not, beq_iff_eq, beq_eq_false_iff_ne, bne_iff_ne, bne_eq_false_iff_eq, Bool.not_eq_true', Bool.not_eq_false', List.length_set, ne_eq, ge_iff_le, gt_iff_lt, setF_len, toNat_cast, lenOk]; omega) ?_; refine T.nd (by simp only [inK_i64, inB_i, leB_i, ltB_iff, leN_iff, slOk_iff, ble_iff, blt_iff, decide_eq_true_eq, decide_eq_false_iff_not, beq_iff_eq, beq_eq_false_iff_ne, bne_iff_ne, bne_eq_false_iff_eq, Bool.not_eq_true', Bool.not_eq_false', List.length_set, ne_eq, ge_iff_le, gt_iff_lt, setF_len, toNat_cast, lenOk]; omega) ?_; refine T.nd (by simp only [inK_i64, inB_i, leB_i, ltB_iff, leN_iff, slOk_iff, ble_iff, blt_iff, decide_eq_true_eq, decide_eq_false_iff_not, beq_iff_eq, beq_eq_false_iff_ne, bne_iff_ne, bne_eq_false_iff_eq, Bool.not_eq_true', Bool.not_eq_false', List.length_set, ne_eq, ge_iff_le, gt_iff_lt, setF_len, toNat_cast, lenOk]; omega) ?_; refine T.nd (by simp only [inK_i64, inB_i, leB_i, ltB_iff, leN_iff, slOk_iff, ble_iff, blt_iff, decide_eq_true_eq, decide_eq_false_iff_not, beq_iff_eq, beq_eq_false_iff_ne, bne_iff_ne, bne_eq_false_iff_eq, Bool.not_eq_true', Bool.not_eq_false', List.length_set, ne_eq, ge_iff_le, gt_iff_lt, setF_len, toNat_cast, lenOk]; omega) ?_; refine T.nd (by simp only [inK_i64, inB_i, leB_i, ltB_iff, leN_iff, slOk_iff, ble_iff, blt_iff, decide_eq_true_eq, decide_eq_false_iff_not, beq_iff_eq, beq_eq_false_iff_ne, bne_iff_ne, bne_eq_false_iff_eq, Bool.not_eq_true', Bool.not_eq_false', List.length_set, ne_eq, ge_iff_le, gt_iff_lt, setF_len, toNat_cast, lenOk]; omega) ?_)
  exact T.nd (by simp only [inK_i64, inB_i, leB_i, ltB_iff, leN_iff, slOk_iff, ble_iff, blt_iff, decide_eq_true_eq, decide_eq_false_iff_not, beq_iff_eq, beq_eq_false_iff_ne, bne_iff_ne, bne_eq_false_iff_eq, Bool.not_eq_true', Bool.not_eq_false', List.length_set, ne_eq, ge_iff_le, gt_iff_lt, setF_len, toNat_cast, lenOk]; omega) rfl

theorem Q_w {A v p o : List Nat} {n k tau : Nat} (hn : n ≤ 512) (hk : k + 2 ≤ n) (hv : v.length = n - 1 - k) (hp : p.length = n) (ho : o.length = n) (hf : ∀ i, i < n - 1 - k → p.getD (k + 1 + i) 0 = pF A v n k tau i) :
    loopM (ref10_Reduce_m237 (n : Int) k v (n - 1 - k) n p (cF A v n k tau) n) (k + 1, o) = some (.inl (putF (wF A v n k tau) k o (n - 1 - k))) := by
  refine loopM_at (fun j => (k + 1 + j, putF (wF A v n k tau) k o j)) (n - 1 - k) rfl (fun j hj => ?_) (T.af (by simp only [inK_i64, inB_i, leB_i, ltB_iff, leN_iff, slOk_iff, ble_iff, blt_iff, decide_eq_true_eq, decide_eq_false_iff_not, beq_iff_eq, beq_eq_false_iff_ne, bne_iff_ne, bne_eq_false_iff_eq, Bool.not_eq_true', Bool.not_eq_false', List.length_set, ne_eq, ge_iff_le, gt_iff_lt, setF_len, toNat_cast, lenOk]; omega) rfl)
  have hl := putF_len (f := wF A v n k tau) (k := k) (l := o) (j := j)
  have e : Int.toNat (((k + 1 + j : Nat) : Int) - (k : Int) - 1) = j := by omega
  show (ref10_Reduce_t236 _ _ _ _ _ _ _ _ _ _).run = _
  unfold ref10_Reduce_t236
  rw [hf j hj, e]
  refine T.at (by simp only [inK_i64, inB_i, leB_i, ltB_iff, leN_iff, slOk_iff, ble_iff, blt_iff, decide_eq_true_eq, decide_eq_false_iff_not, beq_iff_eq, beq_eq_false_iff_ne, bne_iff_ne, bne_eq_false_iff_eq, Bool.not_eq_true', Bool.not_eq_false', List.length_set, ne_eq, ge_iff_le, gt_iff_lt, setF_len, toNat_cast, lenOk]; omega) ?_
  (refine T.nd (by simp only [inK_i64, inB_i, leB_i, ltB_iff, leN_iff, slOk_iff, ble_iff, blt_iff, decide_eq_true_eq, decide_eq_false_iff_not, beq_iff_eq, beq_eq_false_iff_ne, bne_iff_ne, bne_eq_false_iff_eq, Bool.not_eq_true', Bool.not_eq_false', List.length_set, ne_eq, ge_iff_le, gt_iff_lt, setF_len, toNat_cast, lenOk]; omega) ?_; refine T.nd (by simp only [inK_i64, inB_i, leB_i, ltB_iff, leN_iff, slOk_iff, ble_iff, blt_iff, decide_eq_true_eq, decide_eq_false_iff_not, beq_iff_eq, beq_eq_false_iff_ne, bne_iff_ne, bne_eq_false_iff_eq, Bool.not_eq_true', Bool.not_eq_false', List.length_set, ne_eq, ge_iff_le, gt_iff_lt, setF_len, toNat_cast, lenOk]; omega) ?_; refine T.nd (by simp only [inK_i64, inB_i, leB_i, ltB_iff, leN_iff, slOk_iff, ble_iff, blt_iff, decide_eq_true_eq, decide_eq_false_iff_not, beq_iff_eq, beq_eq_false_iff_ne, bne_iff_ne, bne_eq_false_iff_eq, Bool.not_eq_true', Bool.not_eq_false', List.length_set, ne_eq, ge_iff_le, gt_iff_lt, setF_len, toNat_cast, lenOk]; omega) ?_; refine T.nd (by simp only [inK_i64, inB_i, leB_i, ltB_iff, leN_iff, slOk_iff, ble_iff, blt_iff, decide_eq_true_eq, decide_eq_false_iff_not, beq_iff_eq, beq_eq_false_iff_ne, bne_iff_ne, bne_eq_false_iff_eq, Bool.not_eq_true', Bool.not_eq_false', List.length_set, ne_eq, ge_iff_le, gt_iff_lt, setF_len, toNat_cast, lenOk]; omega) ?_; refine T.nd (by simp only [inK_i64, inB_i, leB_i, ltB_iff, leN_iff, slOk_iff, ble_iff, blt_iff, decide_eq_true_eq, decide_eq_false_iff_not, beq_iff_eq, beq_eq_false_iff_ne, bne_iff_ne, bne_eq_false_iff_eq, Bool.not_eq_true', Bool.not_eq_false', List.length_set, ne_eq, ge_iff_le, gt_iff_lt, setF_len, toNat_cast, lenOk]; omega) ?_; refine T.nd (by simp only [inK_i64, inB_i, leB_i, ltB_iff, leN_iff, slOk_iff, ble_iff, blt_iff, decide_eq_true_eq, decide_eq_false_iff_not, beq_iff_eq, beq_eq_false_iff_ne, bne_iff_ne, bne_eq_false_iff_eq, Bool.not_eq_true', Bool.not_eq_false', List.length_set, ne_eq, ge_iff_le, gt_iff_lt, setF_len, toNat_cast, lenOk]; omega) ?_; refine T.nd (by simp only [inK_i64, inB_i, leB_i, ltB_iff, leN_iff, slOk_iff, ble_iff, blt_iff, decide_eq_true_eq, decide_eq_false_iff_not, beq_iff_eq, beq_eq_false_iff_ne, bne_iff_ne, bne_eq_false_iff_eq, Bool.not_eq_true', Bool.not_eq_false', List.length_set, ne_eq, ge_iff_le, gt_iff_lt, setF_len, toNat_cast, lenOk]; omega) ?_; refine T.nd (by simp only [inK_i64, inB_i, leB_i, ltB_iff, leN_iff, slOk_iff, ble_iff, blt_iff, decide_eq_true_eq, decide_eq_false_iff_not, beq_iff_eq, beq_eq_false_iff_ne, bne_iff_ne, bne_eq_false_iff_eq, Bool.not_eq_true', Bool.not_eq_false', List.length_set, ne_eq, ge_iff_le, gt_iff_lt, setF_len, toNat_cast, lenOk]; omega) ?_)
  exact T.nd (by simp only [inK_i64, inB_i, leB_i, ltB_iff, leN_iff, slOk_iff, ble_iff, blt_iff, decide_eq_true_eq, decide_eq_false_iff_not, beq_iff_eq, beq_eq_false_iff_ne, bne_iff_ne, bne_eq_false_iff_eq, Bool.not_eq_true', Bool.not_eq_false', List.length_set, ne_eq, ge_iff_le, gt_iff_lt, setF_len, toNat_cast, lenOk]; omega) rfl

theorem Q_row {A v W xs : List Nat} {w : Nat → Nat} {n k i : Nat} (hA : A.length = n * n) (hx : xs.length = n * n) (hn : n ≤ 512) (hk : k + 2 ≤ n) (hv : v.length = n - 1 - k) (hW : W.length = n) (hw : ∀ i, i < n - 1 - k → W.getD (k + 1 + i) 0 = w i) (hi : i < n - 1 - k) :
    loopM (ref10_Reduce_m246 (n : Int) xs k v (n - 1 - k) n W (k + 1 + i)) (k + 1, A) = some (.inl (rowF v w n k i A (n - 1 - k))) := by
  have hs := sq_bd hn
  refine loopM_at (fun j => (k + 1 + j, rowF v w n k i A j)) (n - 1 - k) rfl (fun j hj => ?_) (seqM_out (T.af (by simp only [inK_i64, inB_i, leB_i, ltB_iff, leN_iff, slOk_iff, ble_iff, blt_iff, decide_eq_true_eq, decide_eq_false_iff_not, beq_iff_eq, beq_eq_false_iff_ne, bne_iff_ne, bne_eq_false_iff_eq, Bool.not_eq_true', Bool.not_eq_false', List.length_set, ne_eq, ge_iff_le, gt_iff_lt, setF_len, toNat_cast, lenOk]; omega) rfl))
  have hp := place_lt hi hj
  have hl := rowF_len (v := v) (w := w) (n := n) (k := k) (i := i) (out := A) (j := j)
  show seqM (ref10_Reduce_t244 _ _ _ _ _ _ _ _ _ _).run _ = _
  refine seqM_in (a := rowF v w n k i A (j + 1)) ?_ (T.nd (by simp only [inK_i64, inB_i, leB_i, ltB_iff, leN_iff, slOk_iff, ble_iff, blt_iff, decide_eq_true_eq, decide_eq_false_iff_not, beq_iff_eq, beq_eq_false_iff_ne, bne_iff_ne, bne_eq_false_iff_eq, Bool.not_eq_true', Bool.not_eq_false', List.length_set, ne_eq, ge_iff_le, gt_iff_lt, setF_len, toNat_cast, lenOk]; omega) rfl)
  unfold ref10_Reduce_t244
  have ei : Int.toNat (((k + 1 + i : Nat) : Int) - (k : Int) - 1) = i := by omega
  have ej : Int.toNat (((k + 1 + j : Nat) : Int) - (k : Int) - 1) = j := by omega
  have h := idxOb (x := k + 1 + i) hp (by omega) (by omega)
  rw [hl, hA, hx, ei, ej, h.f, hw i hi, hw j hj, hW]
  refine T.at (by simp only [inK_i64, inB_i, leB_i, ltB_iff, leN_iff, slOk_iff, ble_iff, blt_iff, decide_eq_true_eq, decide_eq_false_iff_not, beq_iff_eq, beq_eq_false_iff_ne, bne_iff_ne, bne_eq_false_iff_eq, Bool.not_eq_true', Bool.not_eq_false', List.length_set, ne_eq, ge_iff_le, gt_iff_lt, setF_len, toNat_cast, lenOk]; omega) ?_
  (refine T.nd (by simp only [inK_i64, inB_i, leB_i, ltB_iff, leN_iff, slOk_iff, ble_iff, blt_iff, decide_eq_true_eq, decide_eq_false_iff_not, beq_iff_eq, beq_eq_false_iff_ne, bne_iff_ne, bne_eq_false_iff_eq, Bool.not_eq_true', Bool.not_eq_false', List.length_set, ne_eq, ge_iff_le, gt_iff_lt, setF_len, toNat_cast, lenOk]; omega) ?_; refine T.nd (by simp only [inK_i64, inB_i, leB_i, ltB_iff, leN_iff, slOk_iff, ble_iff, blt_iff, decide_eq_true_eq, decide_eq_false_iff_not, beq_iff_eq, beq_eq_false_iff_ne, bne_iff_ne, bne_eq_false_iff_eq, Bool.not_eq_true', Bool.not_eq_false', List.length_set, ne_eq, ge_iff_le, gt_iff_lt, setF_len, toNat_cast, lenOk]; omega) ?_; refine T.nd (by simp only [inK_i64, inB_i, leB_i, ltB_iff, leN_iff, slOk_iff, ble_iff, blt_iff, decide_eq_true_eq, decide_eq_false_iff_not, beq_iff_eq, beq_eq_false_iff_ne, bne_iff_ne, bne_eq_false_iff_eq, Bool.not_eq_true', Bool.not_eq_false', List.length_set, ne_eq, ge_iff_le, gt_iff_lt, setF_len, toNat_cast, lenOk]; omega) ?_; refine T.nd (by simp only [inK_i64, inB_i, leB_i, ltB_iff, leN_iff, slOk_iff, ble_iff, blt_iff, decide_eq_true_eq, decide_eq_false_iff_not, beq_iff_eq, beq_eq_false_iff_ne, bne_iff_ne, bne_eq_false_iff_eq, Bool.not_eq_true', Bool.not_eq_false', List.length_set, ne_eq, ge_iff_le, gt_iff_lt, setF_len, toNat_cast, lenOk]; omega) ?_; refine T.nd (by simp only [inK_i64, inB_i, leB_i, ltB_iff, leN_iff, slOk_iff, ble_iff, blt_iff, decide_eq_true_eq, decide_eq_false_iff_not, beq_iff_eq, beq_eq_false_iff_ne, bne_iff_ne, bne_eq_false_iff_eq, Bool.not_eq_true', Bool.not_eq_false', List.length_set, ne_eq, ge_iff_le, gt_iff_lt, setF_len, toNat_cast, lenOk]; omega) ?_; refine T.nd (by simp only [inK_i64, inB_i, leB_i, ltB_iff, leN_iff, slOk_iff, ble_iff, blt_iff, decide_eq_true_eq, decide_eq_false_iff_not, beq_iff_eq, beq_eq_false_iff_ne, bne_iff_ne, bne_eq_false_iff_eq, Bool.not_eq_true', Bool.not_eq_false', List.length_set, ne_eq, ge_iff_le, gt_iff_lt, setF_len, toNat_cast, lenOk]; omega) ?_; refine T.nd (by simp only [inK_i64, inB_i, leB_i, ltB_iff, leN_iff, slOk_iff, ble_iff, blt_iff, decide_eq_true_eq, decide_eq_false_iff_not, beq_iff_eq, beq_eq_false_iff_ne, bne_iff_ne, bne_eq_false_iff_eq, Bool.not_eq_true', Bool.not_eq_false', List.length_set, ne_eq, ge_iff_le, gt_iff_lt, setF_len, toNat_cast, lenOk]; omega) ?_; refine T.nd (by simp only [inK_i64, inB_i, leB_i, ltB_iff, leN_iff, slOk_iff, ble_iff, blt_iff, decide_eq_true_eq, decide_eq_false_iff_not, beq_iff_eq, beq_eq_false_iff_ne, bne_iff_ne, bne_eq_false_iff_eq, Bool.not_eq_true', Bool.not_eq_false', List.length_set, ne_eq, ge_iff_le, gt_iff_lt, setF_len, toNat_cast, lenOk]; omega) ?_; refine T.nd (by simp only [inK_i64, inB_i, leB_i, ltB_iff, leN_iff, slOk_iff, ble_iff, blt_iff, decide_eq_true_eq, decide_eq_false_iff_not, beq_iff_eq, beq_eq_false_iff_ne, bne_iff_ne, bne_eq_false_iff_eq, Bool.not_eq_true', Bool.not_eq_false', List.length_set, ne_eq, ge_iff_le, gt_iff_lt, setF_len, toNat_cast, lenOk]; omega) ?_; refine T.nd (by simp only [inK_i64, inB_i, leB_i, ltB_iff, leN_iff, slOk_iff, ble_iff, blt_iff, decide_eq_true_eq, decide_eq_false_iff_not, beq_iff_eq, beq_eq_false_iff_ne, bne_iff_ne, bne_eq_false_iff_eq, Bool.not_eq_true', Bool.not_eq_false', List.length_set, ne_eq, ge_iff_le, gt_iff_lt, setF_len, toNat_cast, lenOk]; omega) ?_; refine T.nd (by simp only [inK_i64, inB_i, leB_i, ltB_iff, leN_iff, slOk_iff, ble_iff, blt_iff, decide_eq_true_eq, decide_eq_false_iff_not, beq_iff_eq, beq_eq_false_iff_ne, bne_iff_ne, bne_eq_false_iff_eq, Bool.not_eq_true', Bool.not_eq_false', List.length_set, ne_eq, ge_iff_le, gt_iff_lt, setF_len, toNat_cast, lenOk]; omega) ?_; refine T.nd (by simp only [inK_i64, inB_i, leB_i, ltB_iff, leN_iff, slOk_iff, ble_iff, blt_iff, decide_eq_true_eq, decide_eq_false_iff_not, beq_iff_eq, beq_eq_false_iff_ne, bne_iff_ne, bne_eq_false_iff_eq, Bool.not_eq_true', Bool.not_eq_false', List.length_set, ne_eq, ge_iff_le, gt_iff_lt, setF_len, toNat_cast, lenOk]; omega) ?_)
  exact T.nd h.b (T.nd h.c (T.nd h.b (T.nd h.c (T.nd h.d (T.nd (by rw [ltB_iff]; exact hp) (T.nd h.d (T.nd (by rw [ltB_iff]; exact hp) rfl)))))))

theorem Q_upd {A v W xs : List Nat} {w : Nat → Nat} {n k : Nat} (hA : A.length = n * n) (hx : xs.length = n * n) (hn : n ≤ 512) (hk : k + 2 ≤ n) (hv : v.length = n - 1 - k) (hW : W.length = n) (hw : ∀ i, i < n - 1 - k → W.getD (k + 1 + i) 0 = w i) :
    loopM (ref10_Reduce_m249 (n : Int) xs k v (n - 1 - k) n W) (k + 1, A) = some (.inl (updF v w n k A (n - 1 - k))) := by
  refine loopM_at (fun i => (k + 1 + i, updF v w n k A i)) (n - 1 - k) rfl (fun i hi => ?_) (seqM_out (T.af (by simp only [inK_i64, inB_i, leB_i, ltB_iff, leN_iff, slOk_iff, ble_iff, blt_iff, decide_eq_true_eq, decide_eq_false_iff_not, beq_iff_eq, beq_eq_false_iff_ne, bne_iff_ne, bne_eq_false_iff_eq, Bool.not_eq_true', Bool.not_eq_false', List.length_set, ne_eq, ge_iff_le, gt_iff_lt, setF_len, toNat_cast, lenOk]; omega) rfl))
  show seqM (ref10_Reduce_t240 _ _ _).run _ = _
  refine seqM_in (a := ()) (T.at (by simp only [inK_i64, inB_i, leB_i, ltB_iff, leN_iff, slOk_iff, ble_iff, blt_iff, decide_eq_true_eq, decide_eq_false_iff_not, beq_iff_eq, beq_eq_false_iff_ne, bne_iff_ne, bne_eq_false_iff_eq, Bool.not_eq_true', Bool.not_eq_false', List.length_set, ne_eq, ge_iff_le, gt_iff_lt, setF_len, toNat_cast, lenOk]; omega) rfl) (seqM_in (joinM_in (a := updF v w n k A (i + 1)) (seqM_in (a := k + 1) (T.nd (by simp only [inK_i64, inB_i, leB_i, ltB_iff, leN_iff, slOk_iff, ble_iff, blt_iff, decide_eq_true_eq, decide_eq_false_iff_not, beq_iff_eq, beq_eq_false_iff_ne, bne_iff_ne, bne_eq_false_iff_eq, Bool.not_eq_true', Bool.not_eq_false', List.length_set, ne_eq, ge_iff_le, gt_iff_lt, setF_len, toNat_cast, lenOk]; omega) rfl) (seqM_in (Q_row (by rw [updF_len]; exact hA) hx hn hk hv hW hw hi) rfl))) (T.nd (by simp only [inK_i64, inB_i, leB_i, ltB_iff, leN_iff, slOk_iff, ble_iff, blt_iff, decide_eq_true_eq, decide_eq_false_iff_not, beq_iff_eq, beq_eq_false_iff_ne, bne_iff_ne, bne_eq_false_iff_eq, Bool.not_eq_true', Bool.not_eq_false', List.length_set, ne_eq, ge_iff_le, gt_iff_lt, setF_len, toNat_cast, lenOk]; omega) rfl))
end Go.Plb.Seat

/-
  PLAIN: the tridiagonal form: all steps.
-/
namespace Go.Plb.Seat
open Go Go.Plb
set_option linter.unusedSimpArgs false
set_option linter.unusedVariables false

def vecK (xs : List Nat) (n k : Nat) : List Nat := makeV (colX (matF xs n k) n k)
def tauK (xs : List Nat) (n k : Nat) : Nat := makeT (colX (matF xs n k) n k)
def betK (xs : List Nat) (n k : Nat) : Nat := makeB (colX (matF xs n k) n k)
def diaK (xs : List Nat) (n k : Nat) : Nat := (matF xs n (min k (n - 2))).getD (k * n + k) 0
/-- What stands in the program's own vector. -/
def ownP (xs : List Nat) (n : Nat) : Nat → List Nat := iterF (fun k p => bif feq (tauK xs n k) 0 then p else
  putF (wF (matF xs n k) (vecK xs n k) n k (tauK xs n k)) k (putF (pF (matF xs n k) (vecK xs n k) n k (tauK xs n k)) k p (n - 1 - k)) (n - 1 - k)) (List.replicate n 0)
theorem ownP_len {xs : List Nat} {n : Nat} : ∀ {k : Nat}, (ownP xs n k).length = n
  | 0 => by simp only [ownP, iterF, List.length_replicate]
  | k + 1 => by
    have := ownP_len (xs := xs) (n := n) (k := k)
    simp only [ownP, iterF] at this ⊢
    cases feq (tauK xs n k) 0 <;> simp only [cond_true, cond_false, putF_len, this]
theorem ownP_t {xs : List Nat} {n k : Nat} (h : feq (tauK xs n k) 0 = true) : ownP xs n (k + 1) = ownP xs n k := by simp only [ownP, iterF, h, cond_true]
theorem ownP_f {xs : List Nat} {n k : Nat} (h : feq (tauK xs n k) 0 = false) : ownP xs n (k + 1) = putF (wF (matF xs n k) (vecK xs n k) n k (tauK xs n k)) k (putF (pF (matF xs n k) (vecK xs n k) n k (tauK xs n k)) k (ownP xs n k) (n - 1 - k)) (n - 1 - k) := by
  simp only [ownP, iterF, h, cond_false]
theorem matF_t {xs : List Nat} {n k : Nat} (h : feq (tauK xs n k) 0 = true) : matF xs n (k + 1) = matF xs n k := stepA_t h
theorem matF_f {xs : List Nat} {n k : Nat} (h : feq (tauK xs n k) 0 = false) : matF xs n (k + 1) = updF (vecK xs n k) (wF (matF xs n k) (vecK xs n k) n k (tauK xs n k)) n k (matF xs n k) (n - 1 - k) := stepA_f h
theorem take_all {l : List Nat} {m : Nat} (h : l.length = m) : List.take m (List.drop 0 l) = l := by rw [List.drop_zero, List.take_of_length_le (by omega)]

theorem diaK_eq {xs : List Nat} {n k : Nat} (h : k ≤ n - 2) : (matF xs n k).getD (k * n + k) 0 = diaK xs n k := by
  unfold diaK; rw [Nat.min_eq_left h]

/-- The state of the program's loop. -/
def stT (xs : List Nat) (n k : Nat) : Nat × Nat × Nat × Nat × Nat × Nat × Nat × Nat × List (List Nat) × List Nat × List Nat × List Nat × List Nat × List Nat :=
  (k, k, k, k, k, k, k, k, pushF (vecK xs n) k, pushF (tauK xs n) k, matF xs n k, pushF (diaK xs n) k, pushF (betK xs n) k, ownP xs n k)

theorem T_step {xs : List Nat} {n k : Nat} (hx : xs.length = n * n) (hn : n ≤ 512) (hk : k + 2 < n) :
    tridiag_Reduce_m191 (n : Int) ((n - 2 : Nat) : Int) (n * n) n (stT xs n k) = some (.inl (stT xs n (k + 1))) := by
  have hs := sq_bd hn
  have hA : (matF xs n k).length = n * n := by rw [matF_len]; exact hx
  have hv : (vecK xs n k).length = n - 1 - k := by unfold vecK; rw [makeV_len, colX_len]
  have hp := ownP_len (xs := xs) (n := n) (k := k)
  have l1 := pushF_len (f := vecK xs n) (n := k)
  have l2 := pushF_len (f := tauK xs n) (n := k)
  have l3 := pushF_len (f := diaK xs n) (n := k)
  have l4 := pushF_len (f := betK xs n) (n := k)
  have hd := diaK_eq (xs := xs) (n := n) (k := k) (by omega)
  have hkk : k * n + k < n * n := idx_lt (by omega) (by omega)
  have h := idxOb (x := k) hkk (by omega) (by omega)
  show seqM (tridiag_Reduce_t160 _ _ _ _ _ _ _ _ _ _ _ _ _ _).run _ = _
  refine seqM_in (a := ()) (T.at (by simp only [inK_i64, inB_i, leB_i, ltB_iff, leN_iff, slOk_iff, ble_iff, blt_iff, decide_eq_true_eq, decide_eq_false_iff_not, beq_iff_eq, beq_eq_false_iff_ne, bne_iff_ne, bne_eq_false_iff_eq, Bool.not_eq_true', Bool.not_eq_false', List.length_set, ne_eq, ge_iff_le, gt_iff_lt, setF_len, toNat_cast, lenOk]; omega) rfl) (seqM_in (a := (k + 1, k + 1, k + 1, pushF (vecK xs n) (k + 1), pushF (tauK xs n) (k + 1), matF xs n (k + 1), pushF (diaK xs n) (k + 1), pushF (betK xs n) (k + 1), ownP xs n (k + 1))) ?_ (T.nd (by simp only [inK_i64, inB_i, leB_i, ltB_iff, leN_iff, slOk_iff, ble_iff, blt_iff, decide_eq_true_eq, decide_eq_false_iff_not, beq_iff_eq, beq_eq_false_iff_ne, bne_iff_ne, bne_eq_false_iff_eq, Bool.not_eq_true', Bool.not_eq_false', List.length_set, ne_eq, ge_iff_le, gt_iff_lt, setF_len, toNat_cast, lenOk]; omega) rfl))
  have mk : (tridiag_Reduce_t166 (n - 1 - k) (colX (matF xs n k) n k)).run = some (.inl (betK xs n k, vecK xs n k, n - 1 - k, tauK xs n k)) := by
    unfold tridiag_Reduce_t166
    rw [cutL_to colX_len, Make_spec (by rw [colX_len]; omega) (by rw [colX_len]; omega)]
    refine T.a1 (T.nd (slOk_to colX_len) (T.nf rfl)) (T.a0 (T.nd (slOk_to colX_len) (T.nd rfl ?_)))
    simp only [reflect_Make_p1_0, reflect_Make_p1_1, reflect_Make_p1_2, reflect_Make_p1_3, colX_len]
    rfl
  cases ht : feq (tauK xs n k) 0 with
  | true =>
    refine joinM_mid (seqM_in (a := k + 1) (T.nd (by simp only [inK_i64, inB_i, leB_i, ltB_iff, leN_iff, slOk_iff, ble_iff, blt_iff, decide_eq_true_eq, decide_eq_false_iff_not, beq_iff_eq, beq_eq_false_iff_ne, bne_iff_ne, bne_eq_false_iff_eq, Bool.not_eq_true', Bool.not_eq_false', List.length_set, ne_eq, ge_iff_le, gt_iff_lt, setF_len, toNat_cast, lenOk]; omega) rfl) (seqM_in (R_col hA hn (by omega)) (seqM_in mk (seqM_out ?_))))
    unfold tridiag_Reduce_t167
    rw [hA, h.f, hd, take_all hv, push_take, push_take, push_take1, push_take1, ownP_t ht, matF_t ht]
    refine T.nd (by simp only [inK_i64, inB_i, leB_i, ltB_iff, leN_iff, slOk_iff, ble_iff, blt_iff, decide_eq_true_eq, decide_eq_false_iff_not, beq_iff_eq, beq_eq_false_iff_ne, bne_iff_ne, bne_eq_false_iff_eq, Bool.not_eq_true', Bool.not_eq_false', List.length_set, ne_eq, ge_iff_le, gt_iff_lt, setF_len, toNat_cast, lenOk]; omega) (T.nd (by simp only [inK_i64, inB_i, leB_i, ltB_iff, leN_iff, slOk_iff, ble_iff, blt_iff, decide_eq_true_eq, decide_eq_false_iff_not, beq_iff_eq, beq_eq_false_iff_ne, bne_iff_ne, bne_eq_false_iff_eq, Bool.not_eq_true', Bool.not_eq_false', List.length_set, ne_eq, ge_iff_le, gt_iff_lt, setF_len, toNat_cast, lenOk]; omega) (T.nd rfl (T.nd (by simp only [inK_i64, inB_i, leB_i, ltB_iff, leN_iff, slOk_iff, ble_iff, blt_iff, decide_eq_true_eq, decide_eq_false_iff_not, beq_iff_eq, beq_eq_false_iff_ne, bne_iff_ne, bne_eq_false_iff_eq, Bool.not_eq_true', Bool.not_eq_false', List.length_set, ne_eq, ge_iff_le, gt_iff_lt, setF_len, toNat_cast, lenOk]; omega) (T.nd (by simp only [inK_i64, inB_i, leB_i, ltB_iff, leN_iff, slOk_iff, ble_iff, blt_iff, decide_eq_true_eq, decide_eq_false_iff_not, beq_iff_eq, beq_eq_false_iff_ne, bne_iff_ne, bne_eq_false_iff_eq, Bool.not_eq_true', Bool.not_eq_false', List.length_set, ne_eq, ge_iff_le, gt_iff_lt, setF_len, toNat_cast, lenOk]; omega) (T.nd h.b (T.nd h.c (T.nd h.d (T.nd (by rw [ltB_iff]; exact hkk) (T.nd (by simp only [inK_i64, inB_i, leB_i, ltB_iff, leN_iff, slOk_iff, ble_iff, blt_iff, decide_eq_true_eq, decide_eq_false_iff_not, beq_iff_eq, beq_eq_false_iff_ne, bne_iff_ne, bne_eq_false_iff_eq, Bool.not_eq_true', Bool.not_eq_false', List.length_set, ne_eq, ge_iff_le, gt_iff_lt, setF_len, toNat_cast, lenOk]; omega) (T.nd (by simp only [inK_i64, inB_i, leB_i, ltB_iff, leN_iff, slOk_iff, ble_iff, blt_iff, decide_eq_true_eq, decide_eq_false_iff_not, beq_iff_eq, beq_eq_false_iff_ne, bne_iff_ne, bne_eq_false_iff_eq, Bool.not_eq_true', Bool.not_eq_false', List.length_set, ne_eq, ge_iff_le, gt_iff_lt, setF_len, toNat_cast, lenOk]; omega) (T.nd rfl (T.nd (by simp only [inK_i64, inB_i, leB_i, ltB_iff, leN_iff, slOk_iff, ble_iff, blt_iff, decide_eq_true_eq, decide_eq_false_iff_not, beq_iff_eq, beq_eq_false_iff_ne, bne_iff_ne, bne_eq_false_iff_eq, Bool.not_eq_true', Bool.not_eq_false', List.length_set, ne_eq, ge_iff_le, gt_iff_lt, setF_len, toNat_cast, lenOk]; omega) (T.nd (by simp only [inK_i64, inB_i, leB_i, ltB_iff, leN_iff, slOk_iff, ble_iff, blt_iff, decide_eq_true_eq, decide_eq_false_iff_not, beq_iff_eq, beq_eq_false_iff_ne, bne_iff_ne, bne_eq_false_iff_eq, Bool.not_eq_true', Bool.not_eq_false', List.length_set, ne_eq, ge_iff_le, gt_iff_lt, setF_len, toNat_cast, lenOk]; omega) (T.nd (by simp only [inK_i64, inB_i, leB_i, ltB_iff, leN_iff, slOk_iff, ble_iff, blt_iff, decide_eq_true_eq, decide_eq_false_iff_not, beq_iff_eq, beq_eq_false_iff_ne, bne_iff_ne, bne_eq_false_iff_eq, Bool.not_eq_true', Bool.not_eq_false', List.length_set, ne_eq, ge_iff_le, gt_iff_lt, setF_len, toNat_cast, lenOk]; omega) (T.nd rfl (T.nd (by simp only [inK_i64, inB_i, leB_i, ltB_iff, leN_iff, slOk_iff, ble_iff, blt_iff, decide_eq_true_eq, decide_eq_false_iff_not, beq_iff_eq, beq_eq_false_iff_ne, bne_iff_ne, bne_eq_false_iff_eq, Bool.not_eq_true', Bool.not_eq_false', List.length_set, ne_eq, ge_iff_le, gt_iff_lt, setF_len, toNat_cast, lenOk]; omega) ?_))))))))))))))))
    exact T.at ht rfl
  | false =>
    refine joinM_in (seqM_in (a := k + 1) (T.nd (by simp only [inK_i64, inB_i, leB_i, ltB_iff, leN_iff, slOk_iff, ble_iff, blt_iff, decide_eq_true_eq, decide_eq_false_iff_not, beq_iff_eq, beq_eq_false_iff_ne, bne_iff_ne, bne_eq_false_iff_eq, Bool.not_eq_true', Bool.not_eq_false', List.length_set, ne_eq, ge_iff_le, gt_iff_lt, setF_len, toNat_cast, lenOk]; omega) rfl) (seqM_in (R_col hA hn (by omega)) (seqM_in mk (seqM_in (a := (k + 1, k + 1, k + 1, pushF (vecK xs n) (k + 1), pushF (tauK xs n) (k + 1), k + 1, pushF (diaK xs n) (k + 1), pushF (betK xs n) (k + 1))) ?_ ?_))))
    · unfold tridiag_Reduce_t167
      rw [hA, h.f, hd, take_all hv, push_take, push_take, push_take1, push_take1]
      refine T.nd (by simp only [inK_i64, inB_i, leB_i, ltB_iff, leN_iff, slOk_iff, ble_iff, blt_iff, decide_eq_true_eq, decide_eq_false_iff_not, beq_iff_eq, beq_eq_false_iff_ne, bne_iff_ne, bne_eq_false_iff_eq, Bool.not_eq_true', Bool.not_eq_false', List.length_set, ne_eq, ge_iff_le, gt_iff_lt, setF_len, toNat_cast, lenOk]; omega) (T.nd (by simp only [inK_i64, inB_i, leB_i, ltB_iff, leN_iff, slOk_iff, ble_iff, blt_iff, decide_eq_true_eq, decide_eq_false_iff_not, beq_iff_eq, beq_eq_false_iff_ne, bne_iff_ne, bne_eq_false_iff_eq, Bool.not_eq_true', Bool.not_eq_false', List.length_set, ne_eq, ge_iff_le, gt_iff_lt, setF_len, toNat_cast, lenOk]; omega) (T.nd rfl (T.nd (by simp only [inK_i64, inB_i, leB_i, ltB_iff, leN_iff, slOk_iff, ble_iff, blt_iff, decide_eq_true_eq, decide_eq_false_iff_not, beq_iff_eq, beq_eq_false_iff_ne, bne_iff_ne, bne_eq_false_iff_eq, Bool.not_eq_true', Bool.not_eq_false', List.length_set, ne_eq, ge_iff_le, gt_iff_lt, setF_len, toNat_cast, lenOk]; omega) (T.nd (by simp only [inK_i64, inB_i, leB_i, ltB_iff, leN_iff, slOk_iff, ble_iff, blt_iff, decide_eq_true_eq, decide_eq_false_iff_not, beq_iff_eq, beq_eq_false_iff_ne, bne_iff_ne, bne_eq_false_iff_eq, Bool.not_eq_true', Bool.not_eq_false', List.length_set, ne_eq, ge_iff_le, gt_iff_lt, setF_len, toNat_cast, lenOk]; omega) (T.nd h.b (T.nd h.c (T.nd h.d (T.nd (by rw [ltB_iff]; exact hkk) (T.nd (by simp only [inK_i64, inB_i, leB_i, ltB_iff, leN_iff, slOk_iff, ble_iff, blt_iff, decide_eq_true_eq, decide_eq_false_iff_not, beq_iff_eq, beq_eq_false_iff_ne, bne_iff_ne, bne_eq_false_iff_eq, Bool.not_eq_true', Bool.not_eq_false', List.length_set, ne_eq, ge_iff_le, gt_iff_lt, setF_len, toNat_cast, lenOk]; omega) (T.nd (by simp only [inK_i64, inB_i, leB_i, ltB_iff, leN_iff, slOk_iff, ble_iff, blt_iff, decide_eq_true_eq, decide_eq_false_iff_not, beq_iff_eq, beq_eq_false_iff_ne, bne_iff_ne, bne_eq_false_iff_eq, Bool.not_eq_true', Bool.not_eq_false', List.length_set, ne_eq, ge_iff_le, gt_iff_lt, setF_len, toNat_cast, lenOk]; omega) (T.nd rfl (T.nd (by simp only [inK_i64, inB_i, leB_i, ltB_iff, leN_iff, slOk_iff, ble_iff, blt_iff, decide_eq_true_eq, decide_eq_false_iff_not, beq_iff_eq, beq_eq_false_iff_ne, bne_iff_ne, bne_eq_false_iff_eq, Bool.not_eq_true', Bool.not_eq_false', List.length_set, ne_eq, ge_iff_le, gt_iff_lt, setF_len, toNat_cast, lenOk]; omega) (T.nd (by simp only [inK_i64, inB_i, leB_i, ltB_iff, leN_iff, slOk_iff, ble_iff, blt_iff, decide_eq_true_eq, decide_eq_false_iff_not, beq_iff_eq, beq_eq_false_iff_ne, bne_iff_ne, bne_eq_false_iff_eq, Bool.not_eq_true', Bool.not_eq_false', List.length_set, ne_eq, ge_iff_le, gt_iff_lt, setF_len, toNat_cast, lenOk]; omega) (T.nd (by simp only [inK_i64, inB_i, leB_i, ltB_iff, leN_iff, slOk_iff, ble_iff, blt_iff, decide_eq_true_eq, decide_eq_false_iff_not, beq_iff_eq, beq_eq_false_iff_ne, bne_iff_ne, bne_eq_false_iff_eq, Bool.not_eq_true', Bool.not_eq_false', List.length_set, ne_eq, ge_iff_le, gt_iff_lt, setF_len, toNat_cast, lenOk]; omega) (T.nd rfl (T.nd (by simp only [inK_i64, inB_i, leB_i, ltB_iff, leN_iff, slOk_iff, ble_iff, blt_iff, decide_eq_true_eq, decide_eq_false_iff_not, beq_iff_eq, beq_eq_false_iff_ne, bne_iff_ne, bne_eq_false_iff_eq, Bool.not_eq_true', Bool.not_eq_false', List.length_set, ne_eq, ge_iff_le, gt_iff_lt, setF_len, toNat_cast, lenOk]; omega) ?_))))))))))))))))
      exact T.af ht (T.nd (by simp only [inK_i64, inB_i, leB_i, ltB_iff, leN_iff, slOk_iff, ble_iff, blt_iff, decide_eq_true_eq, decide_eq_false_iff_not, beq_iff_eq, beq_eq_false_iff_ne, bne_iff_ne, bne_eq_false_iff_eq, Bool.not_eq_true', Bool.not_eq_false', List.length_set, ne_eq, ge_iff_le, gt_iff_lt, setF_len, toNat_cast, lenOk]; omega) rfl)
    · have hp1 : (putF (pF (matF xs n k) (vecK xs n k) n k (tauK xs n k)) k (ownP xs n k) (n - 1 - k)).length = n := by rw [putF_len]; exact hp
      have hf : ∀ i, i < n - 1 - k → (putF (pF (matF xs n k) (vecK xs n k) n k (tauK xs n k)) k (ownP xs n k) (n - 1 - k)).getD (k + 1 + i) 0 = pF (matF xs n k) (vecK xs n k) n k (tauK xs n k) i :=
        fun i hi => putF_hit hp (by omega) hi
      have hW : (putF (wF (matF xs n k) (vecK xs n k) n k (tauK xs n k)) k (putF (pF (matF xs n k) (vecK xs n k) n k (tauK xs n k)) k (ownP xs n k) (n - 1 - k)) (n - 1 - k)).length = n := by rw [putF_len]; exact hp1
      rw [ownP_f ht, matF_f ht]
      refine seqM_in (R_p hA hn (by omega) hv hp) (seqM_in (R_c hn (by omega) hv hp1 hf) (seqM_in (a := k + 1) (T.nd (by simp only [inK_i64, inB_i, leB_i, ltB_iff, leN_iff, slOk_iff, ble_iff, blt_iff, decide_eq_true_eq, decide_eq_false_iff_not, beq_iff_eq, beq_eq_false_iff_ne, bne_iff_ne, bne_eq_false_iff_eq, Bool.not_eq_true', Bool.not_eq_false', List.length_set, ne_eq, ge_iff_le, gt_iff_lt, setF_len, toNat_cast, lenOk]; omega) rfl) (seqM_in (R_w hn (by omega) hv hp1 hf) (seqM_in (a := k + 1) (T.nd (by simp only [inK_i64, inB_i, leB_i, ltB_iff, leN_iff, slOk_iff, ble_iff, blt_iff, decide_eq_true_eq, decide_eq_false_iff_not, beq_iff_eq, beq_eq_false_iff_ne, bne_iff_ne, bne_eq_false_iff_eq, Bool.not_eq_true', Bool.not_eq_false', List.length_set, ne_eq, ge_iff_le, gt_iff_lt, setF_len, toNat_cast, lenOk]; omega) rfl)
        (seqM_in (R_upd hA hn (by omega) hv hW (fun i hi => putF_hit hp1 (by omega) hi)) rfl)))))

/-- The state of the document's loop. -/
def stQ (xs : List Nat) (n k : Nat) : Nat × Nat × Nat × List Nat × Nat × Nat × Nat × Nat × Nat × List (List Nat) × List Nat × List Nat × List Nat :=
  (k, k, k, matF xs n k, k, k, k, k, k, pushF (vecK xs n) k, pushF (tauK xs n) k, pushF (diaK xs n) k, pushF (betK xs n) k)

theorem Q_step10 {xs : List Nat} {n k : Nat} (hx : xs.length = n * n) (hn : n ≤ 512) (hk : k + 2 < n) :
    ref10_Reduce_m252 (n : Int) xs (stQ xs n k) = some (.inl (stQ xs n (k + 1))) := by
  have hs := sq_bd hn
  have hA : (matF xs n k).length = n * n := by rw [matF_len]; exact hx
  have hv : (vecK xs n k).length = n - 1 - k := by unfold vecK; rw [makeV_len, colX_len]
  have hp : (List.replicate n 0).length = n := List.length_replicate
  have l1 := pushF_len (f := vecK xs n) (n := k)
  have l2 := pushF_len (f := tauK xs n) (n := k)
  have l3 := pushF_len (f := diaK xs n) (n := k)
  have l4 := pushF_len (f := betK xs n) (n := k)
  have hd := diaK_eq (xs := xs) (n := n) (k := k) (by omega)
  have hkk : k * n + k < n * n := idx_lt (by omega) (by omega)
  have h := idxOb (x := k) hkk (by omega) (by omega)
  unfold ref10_Reduce_m252 stQ
  refine seqM_in (a := ()) (T.nd (by simp only [inK_i64, inB_i, leB_i, ltB_iff, leN_iff, slOk_iff, ble_iff, blt_iff, decide_eq_true_eq, decide_eq_false_iff_not, beq_iff_eq, beq_eq_false_iff_ne, bne_iff_ne, bne_eq_false_iff_eq, Bool.not_eq_true', Bool.not_eq_false', List.length_set, ne_eq, ge_iff_le, gt_iff_lt, setF_len, toNat_cast, lenOk]; omega) (T.at (by simp only [inK_i64, inB_i, leB_i, ltB_iff, leN_iff, slOk_iff, ble_iff, blt_iff, decide_eq_true_eq, decide_eq_false_iff_not, beq_iff_eq, beq_eq_false_iff_ne, bne_iff_ne, bne_eq_false_iff_eq, Bool.not_eq_true', Bool.not_eq_false', List.length_set, ne_eq, ge_iff_le, gt_iff_lt, setF_len, toNat_cast, lenOk]; omega) rfl)) (seqM_in (a := (k + 1, matF xs n (k + 1), k + 1, k + 1, pushF (vecK xs n) (k + 1), pushF (tauK xs n) (k + 1), pushF (diaK xs n) (k + 1), pushF (betK xs n) (k + 1))) ?_ (T.nd (by simp only [inK_i64, inB_i, leB_i, ltB_iff, leN_iff, slOk_iff, ble_iff, blt_iff, decide_eq_true_eq, decide_eq_false_iff_not, beq_iff_eq, beq_eq_false_iff_ne, bne_iff_ne, bne_eq_false_iff_eq, Bool.not_eq_true', Bool.not_eq_false', List.length_set, ne_eq, ge_iff_le, gt_iff_lt, setF_len, toNat_cast, lenOk]; omega) rfl))
  have mk : (ref10_Reduce_t218 (n - 1 - k) (colX (matF xs n k) n k)).run = some (.inl (betK xs n k, vecK xs n k, n - 1 - k, tauK xs n k)) := by
    unfold ref10_Reduce_t218
    rw [cutL_to colX_len, Make9_spec (by rw [colX_len]; omega) (by rw [colX_len]; omega)]
    refine T.nd (slOk_to colX_len) (T.nd rfl ?_)
    simp only [ref09_Make_p0_0, ref09_Make_p0_1, ref09_Make_p0_2, ref09_Make_p0_3, colX_len]
    rfl
  cases ht : feq (tauK xs n k) 0 with
  | true =>
    refine joinM_mid (seqM_in (a := k + 1) (T.nd (by simp only [inK_i64, inB_i, leB_i, ltB_iff, leN_iff, slOk_iff, ble_iff, blt_iff, decide_eq_true_eq, decide_eq_false_iff_not, beq_iff_eq, beq_eq_false_iff_ne, bne_iff_ne, bne_eq_false_iff_eq, Bool.not_eq_true', Bool.not_eq_false', List.length_set, ne_eq, ge_iff_le, gt_iff_lt, setF_len, toNat_cast, lenOk]; omega) rfl) (seqM_in (Q_col hA hx hn (by omega)) (seqM_in mk (seqM_out ?_))))
    unfold ref10_Reduce_t219
    rw [hA, hx, h.f, hd, take_all hv, push_take, push_take, push_take1, push_take1, matF_t ht]
    refine T.nd (by simp only [inK_i64, inB_i, leB_i, ltB_iff, leN_iff, slOk_iff, ble_iff, blt_iff, decide_eq_true_eq, decide_eq_false_iff_not, beq_iff_eq, beq_eq_false_iff_ne, bne_iff_ne, bne_eq_false_iff_eq, Bool.not_eq_true', Bool.not_eq_false', List.length_set, ne_eq, ge_iff_le, gt_iff_lt, setF_len, toNat_cast, lenOk]; omega) (T.nd (by simp only [inK_i64, inB_i, leB_i, ltB_iff, leN_iff, slOk_iff, ble_iff, blt_iff, decide_eq_true_eq, decide_eq_false_iff_not, beq_iff_eq, beq_eq_false_iff_ne, bne_iff_ne, bne_eq_false_iff_eq, Bool.not_eq_true', Bool.not_eq_false', List.length_set, ne_eq, ge_iff_le, gt_iff_lt, setF_len, toNat_cast, lenOk]; omega) (T.nd rfl (T.nd (by simp only [inK_i64, inB_i, leB_i, ltB_iff, leN_iff, slOk_iff, ble_iff, blt_iff, decide_eq_true_eq, decide_eq_false_iff_not, beq_iff_eq, beq_eq_false_iff_ne, bne_iff_ne, bne_eq_false_iff_eq, Bool.not_eq_true', Bool.not_eq_false', List.length_set, ne_eq, ge_iff_le, gt_iff_lt, setF_len, toNat_cast, lenOk]; omega) (T.nd (by simp only [inK_i64, inB_i, leB_i, ltB_iff, leN_iff, slOk_iff, ble_iff, blt_iff, decide_eq_true_eq, decide_eq_false_iff_not, beq_iff_eq, beq_eq_false_iff_ne, bne_iff_ne, bne_eq_false_iff_eq, Bool.not_eq_true', Bool.not_eq_false', List.length_set, ne_eq, ge_iff_le, gt_iff_lt, setF_len, toNat_cast, lenOk]; omega) (T.nd h.b (T.nd h.c (T.nd h.d (T.nd (by rw [ltB_iff]; exact hkk) (T.nd (by simp only [inK_i64, inB_i, leB_i, ltB_iff, leN_iff, slOk_iff, ble_iff, blt_iff, decide_eq_true_eq, decide_eq_false_iff_not, beq_iff_eq, beq_eq_false_iff_ne, bne_iff_ne, bne_eq_false_iff_eq, Bool.not_eq_true', Bool.not_eq_false', List.length_set, ne_eq, ge_iff_le, gt_iff_lt, setF_len, toNat_cast, lenOk]; omega) (T.nd (by simp only [inK_i64, inB_i, leB_i, ltB_iff, leN_iff, slOk_iff, ble_iff, blt_iff, decide_eq_true_eq, decide_eq_false_iff_not, beq_iff_eq, beq_eq_false_iff_ne, bne_iff_ne, bne_eq_false_iff_eq, Bool.not_eq_true', Bool.not_eq_false', List.length_set, ne_eq, ge_iff_le, gt_iff_lt, setF_len, toNat_cast, lenOk]; omega) (T.nd rfl (T.nd (by simp only [inK_i64, inB_i, leB_i, ltB_iff, leN_iff, slOk_iff, ble_iff, blt_iff, decide_eq_true_eq, decide_eq_false_iff_not, beq_iff_eq, beq_eq_false_iff_ne, bne_iff_ne, bne_eq_false_iff_eq, Bool.not_eq_true', Bool.not_eq_false', List.length_set, ne_eq, ge_iff_le, gt_iff_lt, setF_len, toNat_cast, lenOk]; omega) (T.nd (by simp only [inK_i64, inB_i, leB_i, ltB_iff, leN_iff, slOk_iff, ble_iff, blt_iff, decide_eq_true_eq, decide_eq_false_iff_not, beq_iff_eq, beq_eq_false_iff_ne, bne_iff_ne, bne_eq_false_iff_eq, Bool.not_eq_true', Bool.not_eq_false', List.length_set, ne_eq, ge_iff_le, gt_iff_lt, setF_len, toNat_cast, lenOk]; omega) (T.nd (by simp only [inK_i64, inB_i, leB_i, ltB_iff, leN_iff, slOk_iff, ble_iff, blt_iff, decide_eq_true_eq, decide_eq_false_iff_not, beq_iff_eq, beq_eq_false_iff_ne, bne_iff_ne, bne_eq_false_iff_eq, Bool.not_eq_true', Bool.not_eq_false', List.length_set, ne_eq, ge_iff_le, gt_iff_lt, setF_len, toNat_cast, lenOk]; omega) (T.nd rfl (T.nd (by simp only [inK_i64, inB_i, leB_i, ltB_iff, leN_iff, slOk_iff, ble_iff, blt_iff, decide_eq_true_eq, decide_eq_false_iff_not, beq_iff_eq, beq_eq_false_iff_ne, bne_iff_ne, bne_eq_false_iff_eq, Bool.not_eq_true', Bool.not_eq_false', List.length_set, ne_eq, ge_iff_le, gt_iff_lt, setF_len, toNat_cast, lenOk]; omega) ?_))))))))))))))))
    exact T.at ht rfl
  | false =>
    refine joinM_in (seqM_in (a := k + 1) (T.nd (by simp only [inK_i64, inB_i, leB_i, ltB_iff, leN_iff, slOk_iff, ble_iff, blt_iff, decide_eq_true_eq, decide_eq_false_iff_not, beq_iff_eq, beq_eq_false_iff_ne, bne_iff_ne, bne_eq_false_iff_eq, Bool.not_eq_true', Bool.not_eq_false', List.length_set, ne_eq, ge_iff_le, gt_iff_lt, setF_len, toNat_cast, lenOk]; omega) rfl) (seqM_in (Q_col hA hx hn (by omega)) (seqM_in mk (seqM_in (a := (k + 1, n, k + 1, k + 1, k + 1, pushF (vecK xs n) (k + 1), pushF (tauK xs n) (k + 1), List.replicate n 0, pushF (diaK xs n) (k + 1), pushF (betK xs n) (k + 1))) ?_ ?_))))
    · unfold ref10_Reduce_t219
      rw [hA, hx, h.f, hd, take_all hv, push_take, push_take, push_take1, push_take1, toNat_cast]
      refine T.nd (by simp only [inK_i64, inB_i, leB_i, ltB_iff, leN_iff, slOk_iff, ble_iff, blt_iff, decide_eq_true_eq, decide_eq_false_iff_not, beq_iff_eq, beq_eq_false_iff_ne, bne_iff_ne, bne_eq_false_iff_eq, Bool.not_eq_true', Bool.not_eq_false', List.length_set, ne_eq, ge_iff_le, gt_iff_lt, setF_len, toNat_cast, lenOk]; omega) (T.nd (by simp only [inK_i64, inB_i, leB_i, ltB_iff, leN_iff, slOk_iff, ble_iff, blt_iff, decide_eq_true_eq, decide_eq_false_iff_not, beq_iff_eq, beq_eq_false_iff_ne, bne_iff_ne, bne_eq_false_iff_eq, Bool.not_eq_true', Bool.not_eq_false', List.length_set, ne_eq, ge_iff_le, gt_iff_lt, setF_len, toNat_cast, lenOk]; omega) (T.nd rfl (T.nd (by simp only [inK_i64, inB_i, leB_i, ltB_iff, leN_iff, slOk_iff, ble_iff, blt_iff, decide_eq_true_eq, decide_eq_false_iff_not, beq_iff_eq, beq_eq_false_iff_ne, bne_iff_ne, bne_eq_false_iff_eq, Bool.not_eq_true', Bool.not_eq_false', List.length_set, ne_eq, ge_iff_le, gt_iff_lt, setF_len, toNat_cast, lenOk]; omega) (T.nd (by simp only [inK_i64, inB_i, leB_i, ltB_iff, leN_iff, slOk_iff, ble_iff, blt_iff, decide_eq_true_eq, decide_eq_false_iff_not, beq_iff_eq, beq_eq_false_iff_ne, bne_iff_ne, bne_eq_false_iff_eq, Bool.not_eq_true', Bool.not_eq_false', List.length_set, ne_eq, ge_iff_le, gt_iff_lt, setF_len, toNat_cast, lenOk]; omega) (T.nd h.b (T.nd h.c (T.nd h.d (T.nd (by rw [ltB_iff]; exact hkk) (T.nd (by simp only [inK_i64, inB_i, leB_i, ltB_iff, leN_iff, slOk_iff, ble_iff, blt_iff, decide_eq_true_eq, decide_eq_false_iff_not, beq_iff_eq, beq_eq_false_iff_ne, bne_iff_ne, bne_eq_false_iff_eq, Bool.not_eq_true', Bool.not_eq_false', List.length_set, ne_eq, ge_iff_le, gt_iff_lt, setF_len, toNat_cast, lenOk]; omega) (T.nd (by simp only [inK_i64, inB_i, leB_i, ltB_iff, leN_iff, slOk_iff, ble_iff, blt_iff, decide_eq_true_eq, decide_eq_false_iff_not, beq_iff_eq, beq_eq_false_iff_ne, bne_iff_ne, bne_eq_false_iff_eq, Bool.not_eq_true', Bool.not_eq_false', List.length_set, ne_eq, ge_iff_le, gt_iff_lt, setF_len, toNat_cast, lenOk]; omega) (T.nd rfl (T.nd (by simp only [inK_i64, inB_i, leB_i, ltB_iff, leN_iff, slOk_iff, ble_iff, blt_iff, decide_eq_true_eq, decide_eq_false_iff_not, beq_iff_eq, beq_eq_false_iff_ne, bne_iff_ne, bne_eq_false_iff_eq, Bool.not_eq_true', Bool.not_eq_false', List.length_set, ne_eq, ge_iff_le, gt_iff_lt, setF_len, toNat_cast, lenOk]; omega) (T.nd (by simp only [inK_i64, inB_i, leB_i, ltB_iff, leN_iff, slOk_iff, ble_iff, blt_iff, decide_eq_true_eq, decide_eq_false_iff_not, beq_iff_eq, beq_eq_false_iff_ne, bne_iff_ne, bne_eq_false_iff_eq, Bool.not_eq_true', Bool.not_eq_false', List.length_set, ne_eq, ge_iff_le, gt_iff_lt, setF_len, toNat_cast, lenOk]; omega) (T.nd (by simp only [inK_i64, inB_i, leB_i, ltB_iff, leN_iff, slOk_iff, ble_iff, blt_iff, decide_eq_true_eq, decide_eq_false_iff_not, beq_iff_eq, beq_eq_false_iff_ne, bne_iff_ne, bne_eq_false_iff_eq, Bool.not_eq_true', Bool.not_eq_false', List.length_set, ne_eq, ge_iff_le, gt_iff_lt, setF_len, toNat_cast, lenOk]; omega) (T.nd rfl (T.nd (by simp only [inK_i64, inB_i, leB_i, ltB_iff, leN_iff, slOk_iff, ble_iff, blt_iff, decide_eq_true_eq, decide_eq_false_iff_not, beq_iff_eq, beq_eq_false_iff_ne, bne_iff_ne, bne_eq_false_iff_eq, Bool.not_eq_true', Bool.not_eq_false', List.length_set, ne_eq, ge_iff_le, gt_iff_lt, setF_len, toNat_cast, lenOk]; omega) ?_))))))))))))))))
      exact T.af ht (T.nd (by simp only [inK_i64, inB_i, leB_i, ltB_iff, leN_iff, slOk_iff, ble_iff, blt_iff, decide_eq_true_eq, decide_eq_false_iff_not, beq_iff_eq, beq_eq_false_iff_ne, bne_iff_ne, bne_eq_false_iff_eq, Bool.not_eq_true', Bool.not_eq_false', List.length_set, ne_eq, ge_iff_le, gt_iff_lt, setF_len, toNat_cast, lenOk]; omega) (T.nd (by simp only [inK_i64, inB_i, leB_i, ltB_iff, leN_iff, slOk_iff, ble_iff, blt_iff, decide_eq_true_eq, decide_eq_false_iff_not, beq_iff_eq, beq_eq_false_iff_ne, bne_iff_ne, bne_eq_false_iff_eq, Bool.not_eq_true', Bool.not_eq_false', List.length_set, ne_eq, ge_iff_le, gt_iff_lt, setF_len, toNat_cast, lenOk]; omega) (T.nd (by simp only [inK_i64, inB_i, leB_i, ltB_iff, leN_iff, slOk_iff, ble_iff, blt_iff, decide_eq_true_eq, decide_eq_false_iff_not, beq_iff_eq, beq_eq_false_iff_ne, bne_iff_ne, bne_eq_false_iff_eq, Bool.not_eq_true', Bool.not_eq_false', List.length_set, ne_eq, ge_iff_le, gt_iff_lt, setF_len, toNat_cast, lenOk]; omega) (T.nd (by simp only [inK_i64, inB_i, leB_i, ltB_iff, leN_iff, slOk_iff, ble_iff, blt_iff, decide_eq_true_eq, decide_eq_false_iff_not, beq_iff_eq, beq_eq_false_iff_ne, bne_iff_ne, bne_eq_false_iff_eq, Bool.not_eq_true', Bool.not_eq_false', List.length_set, ne_eq, ge_iff_le, gt_iff_lt, setF_len, toNat_cast, lenOk]; omega) (T.nd (by simp only [inK_i64, inB_i, leB_i, ltB_iff, leN_iff, slOk_iff, ble_iff, blt_iff, decide_eq_true_eq, decide_eq_false_iff_not, beq_iff_eq, beq_eq_false_iff_ne, bne_iff_ne, bne_eq_false_iff_eq, Bool.not_eq_true', Bool.not_eq_false', List.length_set, ne_eq, ge_iff_le, gt_iff_lt, setF_len, toNat_cast, lenOk]; omega) rfl)))))
    · have hp1 : (putF (pF (matF xs n k) (vecK xs n k) n k (tauK xs n k)) k (List.replicate n 0) (n - 1 - k)).length = n := by rw [putF_len]; exact hp
      have hf : ∀ i, i < n - 1 - k → (putF (pF (matF xs n k) (vecK xs n k) n k (tauK xs n k)) k (List.replicate n 0) (n - 1 - k)).getD (k + 1 + i) 0 = pF (matF xs n k) (vecK xs n k) n k (tauK xs n k) i :=
        fun i hi => putF_hit hp (by omega) hi
      have hW : (putF (wF (matF xs n k) (vecK xs n k) n k (tauK xs n k)) k (List.replicate n 0) (n - 1 - k)).length = n := by rw [putF_len]; exact hp
      rw [matF_f ht]
      refine seqM_in (Q_p hA hx hn (by omega) hv hp) (seqM_in (a := k + 1) (T.nd (by simp only [inK_i64, inB_i, leB_i, ltB_iff, leN_iff, slOk_iff, ble_iff, blt_iff, decide_eq_true_eq, decide_eq_false_iff_not, beq_iff_eq, beq_eq_false_iff_ne, bne_iff_ne, bne_eq_false_iff_eq, Bool.not_eq_true', Bool.not_eq_false', List.length_set, ne_eq, ge_iff_le, gt_iff_lt, setF_len, toNat_cast, lenOk]; omega) rfl) (seqM_in (Q_c hn (by omega) hv hp1 hf) (seqM_in (a := (cF (matF xs n k) (vecK xs n k) n k (tauK xs n k), n, k + 1, List.replicate n 0)) ?_ (seqM_in (Q_w hn (by omega) hv hp1 hp hf) (seqM_in (a := k + 1) (T.nd (by simp only [inK_i64, inB_i, leB_i, ltB_iff, leN_iff, slOk_iff, ble_iff, blt_iff, decide_eq_true_eq, decide_eq_false_iff_not, beq_iff_eq, beq_eq_false_iff_ne, bne_iff_ne, bne_eq_false_iff_eq, Bool.not_eq_true', Bool.not_eq_false', List.length_set, ne_eq, ge_iff_le, gt_iff_lt, setF_len, toNat_cast, lenOk]; omega) rfl)
        (seqM_in (Q_upd hA hx hn (by omega) hv hW (fun i hi => putF_hit hp (by omega) hi)) rfl))))))
      unfold ref10_Reduce_t234
      rw [toNat_cast]
      exact T.nd (by simp only [inK_i64, inB_i, leB_i, ltB_iff, leN_iff, slOk_iff, ble_iff, blt_iff, decide_eq_true_eq, decide_eq_false_iff_not, beq_iff_eq, beq_eq_false_iff_ne, bne_iff_ne, bne_eq_false_iff_eq, Bool.not_eq_true', Bool.not_eq_false', List.length_set, ne_eq, ge_iff_le, gt_iff_lt, setF_len, toNat_cast, lenOk]; omega) (T.nd (by simp only [inK_i64, inB_i, leB_i, ltB_iff, leN_iff, slOk_iff, ble_iff, blt_iff, decide_eq_true_eq, decide_eq_false_iff_not, beq_iff_eq, beq_eq_false_iff_ne, bne_iff_ne, bne_eq_false_iff_eq, Bool.not_eq_true', Bool.not_eq_false', List.length_set, ne_eq, ge_iff_le, gt_iff_lt, setF_len, toNat_cast, lenOk]; omega) (T.nd (by simp only [inK_i64, inB_i, leB_i, ltB_iff, leN_iff, slOk_iff, ble_iff, blt_iff, decide_eq_true_eq, decide_eq_false_iff_not, beq_iff_eq, beq_eq_false_iff_ne, bne_iff_ne, bne_eq_false_iff_eq, Bool.not_eq_true', Bool.not_eq_false', List.length_set, ne_eq, ge_iff_le, gt_iff_lt, setF_len, toNat_cast, lenOk]; omega) (T.nd (by simp only [inK_i64, inB_i, leB_i, ltB_iff, leN_iff, slOk_iff, ble_iff, blt_iff, decide_eq_true_eq, decide_eq_false_iff_not, beq_iff_eq, beq_eq_false_iff_ne, bne_iff_ne, bne_eq_false_iff_eq, Bool.not_eq_true', Bool.not_eq_false', List.length_set, ne_eq, ge_iff_le, gt_iff_lt, setF_len, toNat_cast, lenOk]; omega) (T.nd (by simp only [inK_i64, inB_i, leB_i, ltB_iff, leN_iff, slOk_iff, ble_iff, blt_iff, decide_eq_true_eq, decide_eq_false_iff_not, beq_iff_eq, beq_eq_false_iff_ne, bne_iff_ne, bne_eq_false_iff_eq, Bool.not_eq_true', Bool.not_eq_false', List.length_set, ne_eq, ge_iff_le, gt_iff_lt, setF_len, toNat_cast, lenOk]; omega) rfl))))

-- behind the loops
def lastE (xs : List Nat) (n : Nat) : List Nat := bif decide (1 < n) then pushF (betK xs n) (n - 2) ++ [(matF xs n (n - 2)).getD ((n - 1) * n + (n - 2)) 0] else pushF (betK xs n) (n - 2)
def lenE (n : Nat) : Nat := bif decide (1 < n) then n - 2 + 1 else n - 2
theorem lastE_len {xs : List Nat} {n : Nat} : (lastE xs n).length = lenE n := by
  unfold lastE lenE; cases decide (1 < n) <;> simp only [cond_true, cond_false, List.length_append, pushF_len, List.length_singleton]

theorem diaK_late {xs : List Nat} {n k : Nat} (h : n - 2 ≤ k) : (matF xs n (n - 2)).getD (k * n + k) 0 = diaK xs n k := by
  unfold diaK; rw [Nat.min_eq_right h]

theorem T_dia {xs : List Nat} {n : Nat} (hx : xs.length = n * n) (hn : n ≤ 512) :
    loopM (tridiag_Reduce_m195 (n : Int) (n * n) (matF xs n (n - 2))) (n - 2, n - 2, n - 2, pushF (diaK xs n) (n - 2)) = some (.inl (n, n, pushF (diaK xs n) n)) := by
  have hs := sq_bd hn
  have hA : (matF xs n (n - 2)).length = n * n := by rw [matF_len]; exact hx
  refine loopM_for (fun j => (j, j, j, pushF (diaK xs n) j)) n (n - 2) (by omega) (fun j hj1 hj => ?_) (T.af (by simp only [inK_i64, inB_i, leB_i, ltB_iff, leN_iff, slOk_iff, ble_iff, blt_iff, decide_eq_true_eq, decide_eq_false_iff_not, beq_iff_eq, beq_eq_false_iff_ne, bne_iff_ne, bne_eq_false_iff_eq, Bool.not_eq_true', Bool.not_eq_false', List.length_set, ne_eq, ge_iff_le, gt_iff_lt, setF_len, toNat_cast, lenOk]; omega) rfl)
  have hkk : j * n + j < n * n := idx_lt (by omega) (by omega)
  have h := idxOb (x := j) hkk (by omega) (by omega)
  have l3 := pushF_len (f := diaK xs n) (n := j)
  have hd := diaK_late (xs := xs) (n := n) (k := j) hj1
  show (tridiag_Reduce_t194 _ _ _ _ _ _ _).run = _
  unfold tridiag_Reduce_t194
  rw [hA, h.f, hd, push_take]
  exact T.at (by simp only [inK_i64, inB_i, leB_i, ltB_iff, leN_iff, slOk_iff, ble_iff, blt_iff, decide_eq_true_eq, decide_eq_false_iff_not, beq_iff_eq, beq_eq_false_iff_ne, bne_iff_ne, bne_eq_false_iff_eq, Bool.not_eq_true', Bool.not_eq_false', List.length_set, ne_eq, ge_iff_le, gt_iff_lt, setF_len, toNat_cast, lenOk]; omega) (T.nd h.b (T.nd h.c (T.nd h.d (T.nd (by rw [ltB_iff]; exact hkk) (T.nd (by simp only [inK_i64, inB_i, leB_i, ltB_iff, leN_iff, slOk_iff, ble_iff, blt_iff, decide_eq_true_eq, decide_eq_false_iff_not, beq_iff_eq, beq_eq_false_iff_ne, bne_iff_ne, bne_eq_false_iff_eq, Bool.not_eq_true', Bool.not_eq_false', List.length_set, ne_eq, ge_iff_le, gt_iff_lt, setF_len, toNat_cast, lenOk]; omega) (T.nd (by simp only [inK_i64, inB_i, leB_i, ltB_iff, leN_iff, slOk_iff, ble_iff, blt_iff, decide_eq_true_eq, decide_eq_false_iff_not, beq_iff_eq, beq_eq_false_iff_ne, bne_iff_ne, bne_eq_false_iff_eq, Bool.not_eq_true', Bool.not_eq_false', List.length_set, ne_eq, ge_iff_le, gt_iff_lt, setF_len, toNat_cast, lenOk]; omega) (T.nd rfl (T.nd (by simp only [inK_i64, inB_i, leB_i, ltB_iff, leN_iff, slOk_iff, ble_iff, blt_iff, decide_eq_true_eq, decide_eq_false_iff_not, beq_iff_eq, beq_eq_false_iff_ne, bne_iff_ne, bne_eq_false_iff_eq, Bool.not_eq_true', Bool.not_eq_false', List.length_set, ne_eq, ge_iff_le, gt_iff_lt, setF_len, toNat_cast, lenOk]; omega) (T.nd (by simp only [inK_i64, inB_i, leB_i, ltB_iff, leN_iff, slOk_iff, ble_iff, blt_iff, decide_eq_true_eq, decide_eq_false_iff_not, beq_iff_eq, beq_eq_false_iff_ne, bne_iff_ne, bne_eq_false_iff_eq, Bool.not_eq_true', Bool.not_eq_false', List.length_set, ne_eq, ge_iff_le, gt_iff_lt, setF_len, toNat_cast, lenOk]; omega) rfl)))))))))
theorem Q_dia {xs : List Nat} {n : Nat} (hx : xs.length = n * n) (hn : n ≤ 512) :
    loopM (ref10_Reduce_m256 (n : Int) xs (matF xs n (n - 2))) (n - 2, n - 2, n - 2, pushF (diaK xs n) (n - 2)) = some (.inl (n, n, pushF (diaK xs n) n)) := by
  have hs := sq_bd hn
  have hA : (matF xs n (n - 2)).length = n * n := by rw [matF_len]; exact hx
  refine loopM_for (fun j => (j, j, j, pushF (diaK xs n) j)) n (n - 2) (by omega) (fun j hj1 hj => ?_) (T.af (by simp only [inK_i64, inB_i, leB_i, ltB_iff, leN_iff, slOk_iff, ble_iff, blt_iff, decide_eq_true_eq, decide_eq_false_iff_not, beq_iff_eq, beq_eq_false_iff_ne, bne_iff_ne, bne_eq_false_iff_eq, Bool.not_eq_true', Bool.not_eq_false', List.length_set, ne_eq, ge_iff_le, gt_iff_lt, setF_len, toNat_cast, lenOk]; omega) rfl)
  have hkk : j * n + j < n * n := idx_lt (by omega) (by omega)
  have h := idxOb (x := j) hkk (by omega) (by omega)
  have l3 := pushF_len (f := diaK xs n) (n := j)
  have hd := diaK_late (xs := xs) (n := n) (k := j) hj1
  show (ref10_Reduce_t255 _ _ _ _ _ _ _).run = _
  unfold ref10_Reduce_t255
  rw [hA, hx, h.f, hd, push_take]
  exact T.at (by simp only [inK_i64, inB_i, leB_i, ltB_iff, leN_iff, slOk_iff, ble_iff, blt_iff, decide_eq_true_eq, decide_eq_false_iff_not, beq_iff_eq, beq_eq_false_iff_ne, bne_iff_ne, bne_eq_false_iff_eq, Bool.not_eq_true', Bool.not_eq_false', List.length_set, ne_eq, ge_iff_le, gt_iff_lt, setF_len, toNat_cast, lenOk]; omega) (T.nd h.b (T.nd h.c (T.nd h.d (T.nd (by rw [ltB_iff]; exact hkk) (T.nd (by simp only [inK_i64, inB_i, leB_i, ltB_iff, leN_iff, slOk_iff, ble_iff, blt_iff, decide_eq_true_eq, decide_eq_false_iff_not, beq_iff_eq, beq_eq_false_iff_ne, bne_iff_ne, bne_eq_false_iff_eq, Bool.not_eq_true', Bool.not_eq_false', List.length_set, ne_eq, ge_iff_le, gt_iff_lt, setF_len, toNat_cast, lenOk]; omega) (T.nd (by simp only [inK_i64, inB_i, leB_i, ltB_iff, leN_iff, slOk_iff, ble_iff, blt_iff, decide_eq_true_eq, decide_eq_false_iff_not, beq_iff_eq, beq_eq_false_iff_ne, bne_iff_ne, bne_eq_false_iff_eq, Bool.not_eq_true', Bool.not_eq_false', List.length_set, ne_eq, ge_iff_le, gt_iff_lt, setF_len, toNat_cast, lenOk]; omega) (T.nd rfl (T.nd (by simp only [inK_i64, inB_i, leB_i, ltB_iff, leN_iff, slOk_iff, ble_iff, blt_iff, decide_eq_true_eq, decide_eq_false_iff_not, beq_iff_eq, beq_eq_false_iff_ne, bne_iff_ne, bne_eq_false_iff_eq, Bool.not_eq_true', Bool.not_eq_false', List.length_set, ne_eq, ge_iff_le, gt_iff_lt, setF_len, toNat_cast, lenOk]; omega) (T.nd (by simp only [inK_i64, inB_i, leB_i, ltB_iff, leN_iff, slOk_iff, ble_iff, blt_iff, decide_eq_true_eq, decide_eq_false_iff_not, beq_iff_eq, beq_eq_false_iff_ne, bne_iff_ne, bne_eq_false_iff_eq, Bool.not_eq_true', Bool.not_eq_false', List.length_set, ne_eq, ge_iff_le, gt_iff_lt, setF_len, toNat_cast, lenOk]; omega) rfl)))))))))

theorem lastPlace {n : Nat} (h : 1 < n) : ((n : Int) - 1) * n = (((n - 1) * n : Nat) : Int) := by
  rw [Int.natCast_mul]; congr 1; omega

theorem T_last {xs : List Nat} {n : Nat} (hx : xs.length = n * n) (hn : n ≤ 512) :
    (tridiag_Reduce_t196 (n : Int) (n * n) (n - 2) (n - 2) (matF xs n (n - 2)) (pushF (betK xs n) (n - 2))).run = some (.inl (lenE n, lenE n, lastE xs n)) := by
  have hs := sq_bd hn
  have hA : (matF xs n (n - 2)).length = n * n := by rw [matF_len]; exact hx
  have l4 := pushF_len (f := betK xs n) (n := n - 2)
  unfold tridiag_Reduce_t196 lenE lastE
  by_cases h1 : 1 < n
  · have hkk : (n - 1) * n + (n - 2) < n * n := idx_lt (by omega) (by omega)
    have e : Int.toNat ((((n - 1) * n : Nat) : Int) + n - 2) = (n - 1) * n + (n - 2) := by omega
    rw [lastPlace h1, e, hA, take_pushF, decide_eq_true h1, cond_true, cond_true]
    exact T.at (by simp only [inK_i64, inB_i, leB_i, ltB_iff, leN_iff, slOk_iff, ble_iff, blt_iff, decide_eq_true_eq, decide_eq_false_iff_not, beq_iff_eq, beq_eq_false_iff_ne, bne_iff_ne, bne_eq_false_iff_eq, Bool.not_eq_true', Bool.not_eq_false', List.length_set, ne_eq, ge_iff_le, gt_iff_lt, setF_len, toNat_cast, lenOk]; omega) (T.nd (by simp only [inK_i64, inB_i, leB_i, ltB_iff, leN_iff, slOk_iff, ble_iff, blt_iff, decide_eq_true_eq, decide_eq_false_iff_not, beq_iff_eq, beq_eq_false_iff_ne, bne_iff_ne, bne_eq_false_iff_eq, Bool.not_eq_true', Bool.not_eq_false', List.length_set, ne_eq, ge_iff_le, gt_iff_lt, setF_len, toNat_cast, lenOk]; omega) (T.nd (by simp only [inK_i64, inB_i, leB_i, ltB_iff, leN_iff, slOk_iff, ble_iff, blt_iff, decide_eq_true_eq, decide_eq_false_iff_not, beq_iff_eq, beq_eq_false_iff_ne, bne_iff_ne, bne_eq_false_iff_eq, Bool.not_eq_true', Bool.not_eq_false', List.length_set, ne_eq, ge_iff_le, gt_iff_lt, setF_len, toNat_cast, lenOk]; omega) (T.nd (by simp only [inK_i64, inB_i, leB_i, ltB_iff, leN_iff, slOk_iff, ble_iff, blt_iff, decide_eq_true_eq, decide_eq_false_iff_not, beq_iff_eq, beq_eq_false_iff_ne, bne_iff_ne, bne_eq_false_iff_eq, Bool.not_eq_true', Bool.not_eq_false', List.length_set, ne_eq, ge_iff_le, gt_iff_lt, setF_len, toNat_cast, lenOk]; omega) (T.nd (by simp only [inK_i64, inB_i, leB_i, ltB_iff, leN_iff, slOk_iff, ble_iff, blt_iff, decide_eq_true_eq, decide_eq_false_iff_not, beq_iff_eq, beq_eq_false_iff_ne, bne_iff_ne, bne_eq_false_iff_eq, Bool.not_eq_true', Bool.not_eq_false', List.length_set, ne_eq, ge_iff_le, gt_iff_lt, setF_len, toNat_cast, lenOk]; omega) (T.nd (by simp only [inK_i64, inB_i, leB_i, ltB_iff, leN_iff, slOk_iff, ble_iff, blt_iff, decide_eq_true_eq, decide_eq_false_iff_not, beq_iff_eq, beq_eq_false_iff_ne, bne_iff_ne, bne_eq_false_iff_eq, Bool.not_eq_true', Bool.not_eq_false', List.length_set, ne_eq, ge_iff_le, gt_iff_lt, setF_len, toNat_cast, lenOk]; omega) (T.nd (by simp only [inK_i64, inB_i, leB_i, ltB_iff, leN_iff, slOk_iff, ble_iff, blt_iff, decide_eq_true_eq, decide_eq_false_iff_not, beq_iff_eq, beq_eq_false_iff_ne, bne_iff_ne, bne_eq_false_iff_eq, Bool.not_eq_true', Bool.not_eq_false', List.length_set, ne_eq, ge_iff_le, gt_iff_lt, setF_len, toNat_cast, lenOk]; omega) (T.nd (by simp only [inK_i64, inB_i, leB_i, ltB_iff, leN_iff, slOk_iff, ble_iff, blt_iff, decide_eq_true_eq, decide_eq_false_iff_not, beq_iff_eq, beq_eq_false_iff_ne, bne_iff_ne, bne_eq_false_iff_eq, Bool.not_eq_true', Bool.not_eq_false', List.length_set, ne_eq, ge_iff_le, gt_iff_lt, setF_len, toNat_cast, lenOk]; omega) (T.nd (by simp only [inK_i64, inB_i, leB_i, ltB_iff, leN_iff, slOk_iff, ble_iff, blt_iff, decide_eq_true_eq, decide_eq_false_iff_not, beq_iff_eq, beq_eq_false_iff_ne, bne_iff_ne, bne_eq_false_iff_eq, Bool.not_eq_true', Bool.not_eq_false', List.length_set, ne_eq, ge_iff_le, gt_iff_lt, setF_len, toNat_cast, lenOk]; omega) (T.nd rfl (T.nd (by simp only [inK_i64, inB_i, leB_i, ltB_iff, leN_iff, slOk_iff, ble_iff, blt_iff, decide_eq_true_eq, decide_eq_false_iff_not, beq_iff_eq, beq_eq_false_iff_ne, bne_iff_ne, bne_eq_false_iff_eq, Bool.not_eq_true', Bool.not_eq_false', List.length_set, ne_eq, ge_iff_le, gt_iff_lt, setF_len, toNat_cast, lenOk]; omega) rfl))))))))))
  · rw [decide_eq_false h1, cond_false, cond_false]
    exact T.af (by simp only [inK_i64, inB_i, leB_i, ltB_iff, leN_iff, slOk_iff, ble_iff, blt_iff, decide_eq_true_eq, decide_eq_false_iff_not, beq_iff_eq, beq_eq_false_iff_ne, bne_iff_ne, bne_eq_false_iff_eq, Bool.not_eq_true', Bool.not_eq_false', List.length_set, ne_eq, ge_iff_le, gt_iff_lt, setF_len, toNat_cast, lenOk]; omega) rfl
theorem Q_last {xs : List Nat} {n : Nat} (hx : xs.length = n * n) (hn : n ≤ 512) :
    (ref10_Reduce_t257 (n : Int) xs (matF xs n (n - 2)) (n - 2) (n - 2) (pushF (betK xs n) (n - 2))).run = some (.inl (lenE n, lenE n, lastE xs n)) := by
  have hs := sq_bd hn
  have hA : (matF xs n (n - 2)).length = n * n := by rw [matF_len]; exact hx
  have l4 := pushF_len (f := betK xs n) (n := n - 2)
  unfold ref10_Reduce_t257 lenE lastE
  by_cases h1 : 1 < n
  · have hkk : (n - 1) * n + (n - 2) < n * n := idx_lt (by omega) (by omega)
    have e : Int.toNat ((((n - 1) * n : Nat) : Int) + n - 2) = (n - 1) * n + (n - 2) := by omega
    rw [lastPlace h1, e, hA, hx, take_pushF, decide_eq_true h1, cond_true, cond_true]
    exact T.at (by simp only [inK_i64, inB_i, leB_i, ltB_iff, leN_iff, slOk_iff, ble_iff, blt_iff, decide_eq_true_eq, decide_eq_false_iff_not, beq_iff_eq, beq_eq_false_iff_ne, bne_iff_ne, bne_eq_false_iff_eq, Bool.not_eq_true', Bool.not_eq_false', List.length_set, ne_eq, ge_iff_le, gt_iff_lt, setF_len, toNat_cast, lenOk]; omega) (T.nd (by simp only [inK_i64, inB_i, leB_i, ltB_iff, leN_iff, slOk_iff, ble_iff, blt_iff, decide_eq_true_eq, decide_eq_false_iff_not, beq_iff_eq, beq_eq_false_iff_ne, bne_iff_ne, bne_eq_false_iff_eq, Bool.not_eq_true', Bool.not_eq_false', List.length_set, ne_eq, ge_iff_le, gt_iff_lt, setF_len, toNat_cast, lenOk]; omega) (T.nd (by simp only [inK_i64, inB_i, leB_i, ltB_iff, leN_iff, slOk_iff, ble_iff, blt_iff, decide_eq_true_eq, decide_eq_false_iff_not, beq_iff_eq, beq_eq_false_iff_ne, bne_iff_ne, bne_eq_false_iff_eq, Bool.not_eq_true', Bool.not_eq_false', List.length_set, ne_eq, ge_iff_le, gt_iff_lt, setF_len, toNat_cast, lenOk]; omega) (T.nd (by simp only [inK_i64, inB_i, leB_i, ltB_iff, leN_iff, slOk_iff, ble_iff, blt_iff, decide_eq_true_eq, decide_eq_false_iff_not, beq_iff_eq, beq_eq_false_iff_ne, bne_iff_ne, bne_eq_false_iff_eq, Bool.not_eq_true', Bool.not_eq_false', List.length_set, ne_eq, ge_iff_le, gt_iff_lt, setF_len, toNat_cast, lenOk]; omega) (T.nd (by simp only [inK_i64, inB_i, leB_i, ltB_iff, leN_iff, slOk_iff, ble_iff, blt_iff, decide_eq_true_eq, decide_eq_false_iff_not, beq_iff_eq, beq_eq_false_iff_ne, bne_iff_ne, bne_eq_false_iff_eq, Bool.not_eq_true', Bool.not_eq_false', List.length_set, ne_eq, ge_iff_le, gt_iff_lt, setF_len, toNat_cast, lenOk]; omega) (T.nd (by simp only [inK_i64, inB_i, leB_i, ltB_iff, leN_iff, slOk_iff, ble_iff, blt_iff, decide_eq_true_eq, decide_eq_false_iff_not, beq_iff_eq, beq_eq_false_iff_ne, bne_iff_ne, bne_eq_false_iff_eq, Bool.not_eq_true', Bool.not_eq_false', List.length_set, ne_eq, ge_iff_le, gt_iff_lt, setF_len, toNat_cast, lenOk]; omega) (T.nd (by simp only [inK_i64, inB_i, leB_i, ltB_iff, leN_iff, slOk_iff, ble_iff, blt_iff, decide_eq_true_eq, decide_eq_false_iff_not, beq_iff_eq, beq_eq_false_iff_ne, bne_iff_ne, bne_eq_false_iff_eq, Bool.not_eq_true', Bool.not_eq_false', List.length_set, ne_eq, ge_iff_le, gt_iff_lt, setF_len, toNat_cast, lenOk]; omega) (T.nd (by simp only [inK_i64, inB_i, leB_i, ltB_iff, leN_iff, slOk_iff, ble_iff, blt_iff, decide_eq_true_eq, decide_eq_false_iff_not, beq_iff_eq, beq_eq_false_iff_ne, bne_iff_ne, bne_eq_false_iff_eq, Bool.not_eq_true', Bool.not_eq_false', List.length_set, ne_eq, ge_iff_le, gt_iff_lt, setF_len, toNat_cast, lenOk]; omega) (T.nd (by simp only [inK_i64, inB_i, leB_i, ltB_iff, leN_iff, slOk_iff, ble_iff, blt_iff, decide_eq_true_eq, decide_eq_false_iff_not, beq_iff_eq, beq_eq_false_iff_ne, bne_iff_ne, bne_eq_false_iff_eq, Bool.not_eq_true', Bool.not_eq_false', List.length_set, ne_eq, ge_iff_le, gt_iff_lt, setF_len, toNat_cast, lenOk]; omega) (T.nd rfl (T.nd (by simp only [inK_i64, inB_i, leB_i, ltB_iff, leN_iff, slOk_iff, ble_iff, blt_iff, decide_eq_true_eq, decide_eq_false_iff_not, beq_iff_eq, beq_eq_false_iff_ne, bne_iff_ne, bne_eq_false_iff_eq, Bool.not_eq_true', Bool.not_eq_false', List.length_set, ne_eq, ge_iff_le, gt_iff_lt, setF_len, toNat_cast, lenOk]; omega) rfl))))))))))
  · rw [decide_eq_false h1, cond_false, cond_false]
    exact T.af (by simp only [inK_i64, inB_i, leB_i, ltB_iff, leN_iff, slOk_iff, ble_iff, blt_iff, decide_eq_true_eq, decide_eq_false_iff_not, beq_iff_eq, beq_eq_false_iff_ne, bne_iff_ne, bne_eq_false_iff_eq, Bool.not_eq_true', Bool.not_eq_false', List.length_set, ne_eq, ge_iff_le, gt_iff_lt, setF_len, toNat_cast, lenOk]; omega) rfl

theorem Q_done {xs : List Nat} {n : Nat} (hn : n ≤ 512) : ref10_Reduce_m252 (n : Int) xs (stQ xs n (n - 2)) = some (.inr (.inl (n - 2, n - 2, matF xs n (n - 2), n - 2, n - 2, n - 2, n - 2, n - 2, pushF (vecK xs n) (n - 2), pushF (tauK xs n) (n - 2), pushF (diaK xs n) (n - 2), pushF (betK xs n) (n - 2)))) := by
  unfold ref10_Reduce_m252 stQ
  refine seqM_out ?_
  unfold ref10_Reduce_t212
  exact T.nd (by simp only [inK_i64, inB_i, leB_i, ltB_iff, leN_iff, slOk_iff, ble_iff, blt_iff, decide_eq_true_eq, decide_eq_false_iff_not, beq_iff_eq, beq_eq_false_iff_ne, bne_iff_ne, bne_eq_false_iff_eq, Bool.not_eq_true', Bool.not_eq_false', List.length_set, ne_eq, ge_iff_le, gt_iff_lt, setF_len, toNat_cast, lenOk]; omega) (T.af (by simp only [inK_i64, inB_i, leB_i, ltB_iff, leN_iff, slOk_iff, ble_iff, blt_iff, decide_eq_true_eq, decide_eq_false_iff_not, beq_iff_eq, beq_eq_false_iff_ne, bne_iff_ne, bne_eq_false_iff_eq, Bool.not_eq_true', Bool.not_eq_false', List.length_set, ne_eq, ge_iff_le, gt_iff_lt, setF_len, toNat_cast, lenOk]; omega) rfl)
theorem T_done {xs : List Nat} {n a3 : Nat} (hn : n ≤ 512) : tridiag_Reduce_m191 (n : Int) ((n - 2 : Nat) : Int) (n * n) a3 (stT xs n (n - 2)) = some (.inr (.inl (n - 2, n - 2, n - 2, n - 2, n - 2, n - 2, n - 2, pushF (vecK xs n) (n - 2), pushF (tauK xs n) (n - 2), matF xs n (n - 2), pushF (diaK xs n) (n - 2), pushF (betK xs n) (n - 2)))) := by
  unfold tridiag_Reduce_m191 stT
  refine seqM_out ?_
  unfold tridiag_Reduce_t160
  exact T.af (by simp only [inK_i64, inB_i, leB_i, ltB_iff, leN_iff, slOk_iff, ble_iff, blt_iff, decide_eq_true_eq, decide_eq_false_iff_not, beq_iff_eq, beq_eq_false_iff_ne, bne_iff_ne, bne_eq_false_iff_eq, Bool.not_eq_true', Bool.not_eq_false', List.length_set, ne_eq, ge_iff_le, gt_iff_lt, setF_len, toNat_cast, lenOk]; omega) rfl

theorem QReduce_spec {xs : List Nat} {n : Nat} (hx : xs.length = n * n) (hn : n ≤ 512) :
    ref10_Reduce_F (n : Int) xs = some (.r0 (n - 2) (n - 2) n n (lenE n) (lenE n) (n - 2) (pushF (vecK xs n) (n - 2)) (pushF (tauK xs n) (n - 2)) (pushF (diaK xs n) n) (lastE xs n)) := by
  have hs := sq_bd hn
  refine toX_of (seqM_in (a := xs) ?_ (seqM_in (loopM_at (stQ xs n) (n - 2) rfl (fun k hk => Q_step10 hx hn (by omega)) (Q_done hn)) (seqM_in rfl (seqM_in (Q_dia hx hn) (seqM_in (Q_last hx hn) rfl)))))
  unfold ref10_Reduce_t210
  rw [List.take_length]
  exact T.nd (by simp only [inK_i64, inB_i, leB_i, ltB_iff, leN_iff, slOk_iff, ble_iff, blt_iff, decide_eq_true_eq, decide_eq_false_iff_not, beq_iff_eq, beq_eq_false_iff_ne, bne_iff_ne, bne_eq_false_iff_eq, Bool.not_eq_true', Bool.not_eq_false', List.length_set, ne_eq, ge_iff_le, gt_iff_lt, setF_len, toNat_cast, lenOk]; omega) (T.nd (by simp only [inK_i64, inB_i, leB_i, ltB_iff, leN_iff, slOk_iff, ble_iff, blt_iff, decide_eq_true_eq, decide_eq_false_iff_not, beq_iff_eq, beq_eq_false_iff_ne, bne_iff_ne, bne_eq_false_iff_eq, Bool.not_eq_true', Bool.not_eq_false', List.length_set, ne_eq, ge_iff_le, gt_iff_lt, setF_len, toNat_cast, lenOk]; omega) (T.nd (by simp only [inK_i64, inB_i, leB_i, ltB_iff, leN_iff, slOk_iff, ble_iff, blt_iff, decide_eq_true_eq, decide_eq_false_iff_not, beq_iff_eq, beq_eq_false_iff_ne, bne_iff_ne, bne_eq_false_iff_eq, Bool.not_eq_true', Bool.not_eq_false', List.length_set, ne_eq, ge_iff_le, gt_iff_lt, setF_len, toNat_cast, lenOk]; omega) rfl))

/-- Is a float's exponent not the greatest? -/
def finB (x : Nat) : Bool := x / 4503599627370496 % 2048 != 2047
theorem fin_gt {x : Nat} (h : isNaN x = false) : fgt (fabs x) 9218868437227405311 = !finB x := by
  rw [isNaN_eq, decide_eq_false_iff_not] at h
  unfold fgt
  have e : fabs x ≤ 9218868437227405312 := by unfold fabs; omega
  rcases Nat.lt_or_eq_of_le e with a | a
  · rw [ford_nat a (by decide)]
    have hb : finB x = true := by unfold finB; unfold fabs at a; simp only [bne_iff_ne]; omega
    rw [hb]
    have : compare (fabs x) 9218868437227405311 ≠ .gt := by rw [Ne, Nat.compare_eq_gt]; omega
    rcases hc : compare (fabs x) 9218868437227405311 with _ | _ | _
    · rfl
    · rfl
    · exact absurd hc this
  · have hb : finB x = false := by unfold finB; unfold fabs at a; simp only [bne_eq_false_iff_eq]; omega
    rw [a, ford_inf_l (by decide), hb]; rfl
end Go.Plb.Seat

/-
  PLAIN: the tridiagonal form: what is refused; the law.
-/
namespace Go.Plb.Seat
open Go Go.Plb
set_option linter.unusedSimpArgs false
set_option linter.unusedVariables false

theorem fin_nan {x : Nat} (h : isNaN x = true) : finB x = false := by
  unfold finB; rw [nan_expo h]; rfl
theorem fin_bits {x : Nat} : (!((Int.tmod (Int.fdiv ((x : Nat) : Int) (2 ^ (min (Int.toNat (52 : Int)) (IntKind.u64.bits)))) (2048 : Int)) != (2047 : Int))) = !finB x := by
  rw [expo_int]; unfold finB
  congr 1; rw [Bool.eq_iff_iff]; simp only [bne_iff_ne]; omega

theorem Index_ok {xs : List Nat} {n : Nat} (hL : xs.length ≤ 1000000) (hn : n ≤ xs.length) (h : ∀ i, i < n → finB (xs.getD i 0) = true) : ∀ j, j < n → slices_IndexFunc_of_tridiag_infinite_m13 xs j = some (.inl (j + 1)) := by
  intro j hj
  have hf := h j hj
  have hnn : isNaN (xs.getD j 0) = false := by
    cases q : isNaN (xs.getD j 0) with
    | false => rfl
    | true => rw [fin_nan q] at hf; cases hf
  show seqM (slices_IndexFunc_of_tridiag_infinite_t11 _ _).run _ = _
  refine seqM_in (a := ()) ?_ (T.nd (by simp only [inK_i64, inB_i, leB_i, ltB_iff, leN_iff, slOk_iff, ble_iff, blt_iff, decide_eq_true_eq, decide_eq_false_iff_not, beq_iff_eq, beq_eq_false_iff_ne, bne_iff_ne, bne_eq_false_iff_eq, Bool.not_eq_true', Bool.not_eq_false', List.length_set, ne_eq, ge_iff_le, gt_iff_lt, setF_len, toNat_cast, lenOk]; omega) rfl)
  unfold slices_IndexFunc_of_tridiag_infinite_t11
  exact T.at (by simp only [inK_i64, inB_i, leB_i, ltB_iff, leN_iff, slOk_iff, ble_iff, blt_iff, decide_eq_true_eq, decide_eq_false_iff_not, beq_iff_eq, beq_eq_false_iff_ne, bne_iff_ne, bne_eq_false_iff_eq, Bool.not_eq_true', Bool.not_eq_false', List.length_set, ne_eq, ge_iff_le, gt_iff_lt, setF_len, toNat_cast, lenOk]; omega) (T.nd (by simp only [inK_i64, inB_i, leB_i, ltB_iff, leN_iff, slOk_iff, ble_iff, blt_iff, decide_eq_true_eq, decide_eq_false_iff_not, beq_iff_eq, beq_eq_false_iff_ne, bne_iff_ne, bne_eq_false_iff_eq, Bool.not_eq_true', Bool.not_eq_false', List.length_set, ne_eq, ge_iff_le, gt_iff_lt, setF_len, toNat_cast, lenOk]; omega) (T.nd (by simp only [inK_i64, inB_i, leB_i, ltB_iff, leN_iff, slOk_iff, ble_iff, blt_iff, decide_eq_true_eq, decide_eq_false_iff_not, beq_iff_eq, beq_eq_false_iff_ne, bne_iff_ne, bne_eq_false_iff_eq, Bool.not_eq_true', Bool.not_eq_false', List.length_set, ne_eq, ge_iff_le, gt_iff_lt, setF_len, toNat_cast, lenOk]; omega) (T.af (by rw [fne_self]; exact hnn) (T.at rfl (T.af (by rw [fin_gt hnn, hf]; rfl) rfl)))))
theorem Index_bad {xs : List Nat} {j : Nat} (hL : xs.length ≤ 1000000) (hj : j < xs.length) (h : finB (xs.getD j 0) = false) : slices_IndexFunc_of_tridiag_infinite_m13 xs j = some (.inr (.inr (.r0 j))) := by
  show seqM (slices_IndexFunc_of_tridiag_infinite_t11 _ _).run _ = _
  refine seqM_out ?_
  unfold slices_IndexFunc_of_tridiag_infinite_t11
  refine T.at (by simp only [inK_i64, inB_i, leB_i, ltB_iff, leN_iff, slOk_iff, ble_iff, blt_iff, decide_eq_true_eq, decide_eq_false_iff_not, beq_iff_eq, beq_eq_false_iff_ne, bne_iff_ne, bne_eq_false_iff_eq, Bool.not_eq_true', Bool.not_eq_false', List.length_set, ne_eq, ge_iff_le, gt_iff_lt, setF_len, toNat_cast, lenOk]; omega) (T.nd (by simp only [inK_i64, inB_i, leB_i, ltB_iff, leN_iff, slOk_iff, ble_iff, blt_iff, decide_eq_true_eq, decide_eq_false_iff_not, beq_iff_eq, beq_eq_false_iff_ne, bne_iff_ne, bne_eq_false_iff_eq, Bool.not_eq_true', Bool.not_eq_false', List.length_set, ne_eq, ge_iff_le, gt_iff_lt, setF_len, toNat_cast, lenOk]; omega) (T.nd (by simp only [inK_i64, inB_i, leB_i, ltB_iff, leN_iff, slOk_iff, ble_iff, blt_iff, decide_eq_true_eq, decide_eq_false_iff_not, beq_iff_eq, beq_eq_false_iff_ne, bne_iff_ne, bne_eq_false_iff_eq, Bool.not_eq_true', Bool.not_eq_false', List.length_set, ne_eq, ge_iff_le, gt_iff_lt, setF_len, toNat_cast, lenOk]; omega) ?_))
  cases q : isNaN (xs.getD j 0) with
  | true => exact T.at (by rw [fne_self]; exact q) rfl
  | false => exact T.af (by rw [fne_self]; exact q) (T.at rfl (T.at (by rw [fin_gt q, h]; rfl) rfl))
theorem Index_spec {xs : List Nat} (hL : xs.length ≤ 1000000) : ∃ k, slices_IndexFunc_of_tridiag_infinite_F xs = some (.r0 k) ∧ (k < 0 ↔ ∀ i, i < xs.length → finB (xs.getD i 0) = true) := by
  by_cases h : ∀ i, i < xs.length → finB (xs.getD i 0) = true
  · refine ⟨-1, toX_of (seqM_in rfl (seqM_in (a := ()) (loopM_at (fun j => j) xs.length rfl (Index_ok hL (Nat.le_refl _) h) (seqM_out (T.af (by simp only [inK_i64, inB_i, leB_i, ltB_iff, leN_iff, slOk_iff, ble_iff, blt_iff, decide_eq_true_eq, decide_eq_false_iff_not, beq_iff_eq, beq_eq_false_iff_ne, bne_iff_ne, bne_eq_false_iff_eq, Bool.not_eq_true', Bool.not_eq_false', List.length_set, ne_eq, ge_iff_le, gt_iff_lt, setF_len, toNat_cast, lenOk]; omega) rfl))) rfl)), ?_⟩
    exact ⟨fun _ => h, fun _ => by decide⟩
  · obtain ⟨k, hk, hb, hf⟩ := first_bad h
    refine ⟨k, toX_of (seqM_in rfl (seqM_out (loopM_at (fun j => j) k rfl (Index_ok hL (by omega) hf) (Index_bad hL hk (by simpa using hb))))), ?_⟩
    exact ⟨fun q => by omega, fun q => absurd q h⟩

theorem Wrong5_spec {a b : Int} {xs : List Nat} (hm : mayB a b xs.length = true) : ∃ k, ref05_Wrong_F a b xs = some (.r0 k) ∧ (k = 0 ↔ ∀ i, i < xs.length → finB (xs.getD i 0) = true) := by
  simp only [mayB, Bool.and_eq_true, decide_eq_true_eq, beq_iff_eq] at hm
  obtain ⟨h1, h2, h3, h4, h5⟩ := hm
  have hb := mul_bd h1 h2 h3 h4
  have ok : ∀ n, n ≤ xs.length → (∀ i, i < n → finB (xs.getD i 0) = true) → ∀ j, j < n → ref05_Wrong_m12 xs j = some (.inl (j + 1)) := by
    intro n hn h j hj
    have hf := h j hj
    have hnn : isNaN (xs.getD j 0) = false := by
      cases q : isNaN (xs.getD j 0) with
      | false => rfl
      | true => rw [fin_nan q] at hf; cases hf
    show (ref05_Wrong_t11 _ _).run = _
    unfold ref05_Wrong_t11
    exact T.at (by simp only [inK_i64, inB_i, leB_i, ltB_iff, leN_iff, slOk_iff, ble_iff, blt_iff, decide_eq_true_eq, decide_eq_false_iff_not, beq_iff_eq, beq_eq_false_iff_ne, bne_iff_ne, bne_eq_false_iff_eq, Bool.not_eq_true', Bool.not_eq_false', List.length_set, ne_eq, ge_iff_le, gt_iff_lt, setF_len, toNat_cast, lenOk]; omega) (T.nd (by simp only [inK_i64, inB_i, leB_i, ltB_iff, leN_iff, slOk_iff, ble_iff, blt_iff, decide_eq_true_eq, decide_eq_false_iff_not, beq_iff_eq, beq_eq_false_iff_ne, bne_iff_ne, bne_eq_false_iff_eq, Bool.not_eq_true', Bool.not_eq_false', List.length_set, ne_eq, ge_iff_le, gt_iff_lt, setF_len, toNat_cast, lenOk]; omega) (T.nd (by simp only [inK_i64, inB_i, leB_i, ltB_iff, leN_iff, slOk_iff, ble_iff, blt_iff, decide_eq_true_eq, decide_eq_false_iff_not, beq_iff_eq, beq_eq_false_iff_ne, bne_iff_ne, bne_eq_false_iff_eq, Bool.not_eq_true', Bool.not_eq_false', List.length_set, ne_eq, ge_iff_le, gt_iff_lt, setF_len, toNat_cast, lenOk]; omega) (T.a0 (T.nd (by rw [hnn]; rfl) (T.nd rfl (T.nd rfl (T.af (by rw [fin_bits, hf]; rfl) (T.nd (by simp only [inK_i64, inB_i, leB_i, ltB_iff, leN_iff, slOk_iff, ble_iff, blt_iff, decide_eq_true_eq, decide_eq_false_iff_not, beq_iff_eq, beq_eq_false_iff_ne, bne_iff_ne, bne_eq_false_iff_eq, Bool.not_eq_true', Bool.not_eq_false', List.length_set, ne_eq, ge_iff_le, gt_iff_lt, setF_len, toNat_cast, lenOk]; omega) rfl))))))))
  have bad : ∀ j, j < xs.length → finB (xs.getD j 0) = false → ref05_Wrong_m12 xs j = some (.inr (.inr (.r0 10))) := by
    intro j hj h
    show (ref05_Wrong_t11 _ _).run = _
    unfold ref05_Wrong_t11
    refine T.at (by simp only [inK_i64, inB_i, leB_i, ltB_iff, leN_iff, slOk_iff, ble_iff, blt_iff, decide_eq_true_eq, decide_eq_false_iff_not, beq_iff_eq, beq_eq_false_iff_ne, bne_iff_ne, bne_eq_false_iff_eq, Bool.not_eq_true', Bool.not_eq_false', List.length_set, ne_eq, ge_iff_le, gt_iff_lt, setF_len, toNat_cast, lenOk]; omega) (T.nd (by simp only [inK_i64, inB_i, leB_i, ltB_iff, leN_iff, slOk_iff, ble_iff, blt_iff, decide_eq_true_eq, decide_eq_false_iff_not, beq_iff_eq, beq_eq_false_iff_ne, bne_iff_ne, bne_eq_false_iff_eq, Bool.not_eq_true', Bool.not_eq_false', List.length_set, ne_eq, ge_iff_le, gt_iff_lt, setF_len, toNat_cast, lenOk]; omega) (T.nd (by simp only [inK_i64, inB_i, leB_i, ltB_iff, leN_iff, slOk_iff, ble_iff, blt_iff, decide_eq_true_eq, decide_eq_false_iff_not, beq_iff_eq, beq_eq_false_iff_ne, bne_iff_ne, bne_eq_false_iff_eq, Bool.not_eq_true', Bool.not_eq_false', List.length_set, ne_eq, ge_iff_le, gt_iff_lt, setF_len, toNat_cast, lenOk]; omega) ?_))
    cases q : isNaN (xs.getD j 0) with
    | true => exact T.a1 (T.nf rfl) (T.a0 (T.nd rfl rfl))
    | false => exact T.a0 (T.nd rfl (T.nd rfl (T.nd rfl (T.at (by rw [fin_bits, h]; rfl) rfl))))
  have s8 : (ref05_Wrong_t8 a b).run = some (.inl false) := by
    unfold ref05_Wrong_t8
    refine T.af (by simp only [inK_i64, inB_i, leB_i, ltB_iff, leN_iff, slOk_iff, ble_iff, blt_iff, decide_eq_true_eq, decide_eq_false_iff_not, beq_iff_eq, beq_eq_false_iff_ne, bne_iff_ne, bne_eq_false_iff_eq, Bool.not_eq_true', Bool.not_eq_false', List.length_set, ne_eq, ge_iff_le, gt_iff_lt, setF_len, toNat_cast, lenOk]; omega) (T.af (by simp only [inK_i64, inB_i, leB_i, ltB_iff, leN_iff, slOk_iff, ble_iff, blt_iff, decide_eq_true_eq, decide_eq_false_iff_not, beq_iff_eq, beq_eq_false_iff_ne, bne_iff_ne, bne_eq_false_iff_eq, Bool.not_eq_true', Bool.not_eq_false', List.length_set, ne_eq, ge_iff_le, gt_iff_lt, setF_len, toNat_cast, lenOk]; omega) (T.af (by simp only [inK_i64, inB_i, leB_i, ltB_iff, leN_iff, slOk_iff, ble_iff, blt_iff, decide_eq_true_eq, decide_eq_false_iff_not, beq_iff_eq, beq_eq_false_iff_ne, bne_iff_ne, bne_eq_false_iff_eq, Bool.not_eq_true', Bool.not_eq_false', List.length_set, ne_eq, ge_iff_le, gt_iff_lt, setF_len, toNat_cast, lenOk]; omega) ?_))
    rw [decide_eq_false (by omega)]; rfl
  have s9 : (ref05_Wrong_t9 a b xs false).run = some (.inl ()) := by
    unfold ref05_Wrong_t9
    exact T.af rfl (T.nd (by rw [inK_i64]; omega) (T.af (by rw [bne_eq_false_iff_eq]; exact h5) rfl))
  by_cases h : ∀ i, i < xs.length → finB (xs.getD i 0) = true
  · refine ⟨0, toX_of (seqM_in s8 (seqM_in s9 (seqM_in (a := ()) (loopM_at (fun j => j) xs.length rfl (ok _ (Nat.le_refl _) h) (T.af (by simp only [inK_i64, inB_i, leB_i, ltB_iff, leN_iff, slOk_iff, ble_iff, blt_iff, decide_eq_true_eq, decide_eq_false_iff_not, beq_iff_eq, beq_eq_false_iff_ne, bne_iff_ne, bne_eq_false_iff_eq, Bool.not_eq_true', Bool.not_eq_false', List.length_set, ne_eq, ge_iff_le, gt_iff_lt, setF_len, toNat_cast, lenOk]; omega) rfl)) rfl))), ?_⟩
    exact ⟨fun _ => h, fun _ => rfl⟩
  · obtain ⟨k, hk, hb, hf⟩ := first_bad h
    refine ⟨10, toX_of (seqM_in s8 (seqM_in s9 (seqM_out (loopM_at (fun j => j) k rfl (ok _ (by omega) hf) (bad k hk (by simpa using hb)))))), ?_⟩
    exact ⟨fun q => by omega, fun q => absurd q h⟩

/-- Why there is none. -/
noncomputable def wantF (a b : Int) (xs : List Nat) : Nat := by
  classical exact if mayB a b xs.length = false then 2 else if a ≠ b then 8 else if ¬ ∀ i, i < xs.length → finB (xs.getD i 0) = true then 10 else 0

theorem T_bad {a b : Int} {xs : List Nat} (hL : xs.length ≤ 200) (h : wantF a b xs ≠ 0) : tridiag_Reduce_F a b xs = some (.r0 (wantF a b xs)) := by
  refine toX_of (seqM_out ?_)
  unfold tridiag_Reduce_t157
  unfold wantF at h ⊢
  by_cases h1 : a < 0
  · rw [if_pos (by unfold mayB; rw [decide_eq_false (by omega)]; rfl)]
    exact T.at (by simp only [inK_i64, inB_i, leB_i, ltB_iff, leN_iff, slOk_iff, ble_iff, blt_iff, decide_eq_true_eq, decide_eq_false_iff_not, beq_iff_eq, beq_eq_false_iff_ne, bne_iff_ne, bne_eq_false_iff_eq, Bool.not_eq_true', Bool.not_eq_false', List.length_set, ne_eq, ge_iff_le, gt_iff_lt, setF_len, toNat_cast, lenOk]; omega) rfl
  by_cases h2 : 512 < a
  · rw [if_pos (by unfold mayB; rw [decide_eq_false (p := a ≤ 512) (by omega), Bool.false_and, Bool.and_false])]
    exact T.af (by simp only [inK_i64, inB_i, leB_i, ltB_iff, leN_iff, slOk_iff, ble_iff, blt_iff, decide_eq_true_eq, decide_eq_false_iff_not, beq_iff_eq, beq_eq_false_iff_ne, bne_iff_ne, bne_eq_false_iff_eq, Bool.not_eq_true', Bool.not_eq_false', List.length_set, ne_eq, ge_iff_le, gt_iff_lt, setF_len, toNat_cast, lenOk]; omega) (T.at (by simp only [inK_i64, inB_i, leB_i, ltB_iff, leN_iff, slOk_iff, ble_iff, blt_iff, decide_eq_true_eq, decide_eq_false_iff_not, beq_iff_eq, beq_eq_false_iff_ne, bne_iff_ne, bne_eq_false_iff_eq, Bool.not_eq_true', Bool.not_eq_false', List.length_set, ne_eq, ge_iff_le, gt_iff_lt, setF_len, toNat_cast, lenOk]; omega) rfl)
  by_cases h3 : b < 0
  · rw [if_pos (by unfold mayB; rw [decide_eq_false (p := 0 ≤ b) (by omega)]; simp only [Bool.false_and, Bool.and_false])]
    exact T.af (by simp only [inK_i64, inB_i, leB_i, ltB_iff, leN_iff, slOk_iff, ble_iff, blt_iff, decide_eq_true_eq, decide_eq_false_iff_not, beq_iff_eq, beq_eq_false_iff_ne, bne_iff_ne, bne_eq_false_iff_eq, Bool.not_eq_true', Bool.not_eq_false', List.length_set, ne_eq, ge_iff_le, gt_iff_lt, setF_len, toNat_cast, lenOk]; omega) (T.af (by simp only [inK_i64, inB_i, leB_i, ltB_iff, leN_iff, slOk_iff, ble_iff, blt_iff, decide_eq_true_eq, decide_eq_false_iff_not, beq_iff_eq, beq_eq_false_iff_ne, bne_iff_ne, bne_eq_false_iff_eq, Bool.not_eq_true', Bool.not_eq_false', List.length_set, ne_eq, ge_iff_le, gt_iff_lt, setF_len, toNat_cast, lenOk]; omega) (T.at (by simp only [inK_i64, inB_i, leB_i, ltB_iff, leN_iff, slOk_iff, ble_iff, blt_iff, decide_eq_true_eq, decide_eq_false_iff_not, beq_iff_eq, beq_eq_false_iff_ne, bne_iff_ne, bne_eq_false_iff_eq, Bool.not_eq_true', Bool.not_eq_false', List.length_set, ne_eq, ge_iff_le, gt_iff_lt, setF_len, toNat_cast, lenOk]; omega) rfl))
  by_cases h4 : 512 < b
  · rw [if_pos (by unfold mayB; rw [decide_eq_false (p := b ≤ 512) (by omega)]; simp only [Bool.false_and, Bool.and_false])]
    exact T.af (by simp only [inK_i64, inB_i, leB_i, ltB_iff, leN_iff, slOk_iff, ble_iff, blt_iff, decide_eq_true_eq, decide_eq_false_iff_not, beq_iff_eq, beq_eq_false_iff_ne, bne_iff_ne, bne_eq_false_iff_eq, Bool.not_eq_true', Bool.not_eq_false', List.length_set, ne_eq, ge_iff_le, gt_iff_lt, setF_len, toNat_cast, lenOk]; omega) (T.af (by simp only [inK_i64, inB_i, leB_i, ltB_iff, leN_iff, slOk_iff, ble_iff, blt_iff, decide_eq_true_eq, decide_eq_false_iff_not, beq_iff_eq, beq_eq_false_iff_ne, bne_iff_ne, bne_eq_false_iff_eq, Bool.not_eq_true', Bool.not_eq_false', List.length_set, ne_eq, ge_iff_le, gt_iff_lt, setF_len, toNat_cast, lenOk]; omega) (T.af (by simp only [inK_i64, inB_i, leB_i, ltB_iff, leN_iff, slOk_iff, ble_iff, blt_iff, decide_eq_true_eq, decide_eq_false_iff_not, beq_iff_eq, beq_eq_false_iff_ne, bne_iff_ne, bne_eq_false_iff_eq, Bool.not_eq_true', Bool.not_eq_false', List.length_set, ne_eq, ge_iff_le, gt_iff_lt, setF_len, toNat_cast, lenOk]; omega) (T.at (by simp only [inK_i64, inB_i, leB_i, ltB_iff, leN_iff, slOk_iff, ble_iff, blt_iff, decide_eq_true_eq, decide_eq_false_iff_not, beq_iff_eq, beq_eq_false_iff_ne, bne_iff_ne, bne_eq_false_iff_eq, Bool.not_eq_true', Bool.not_eq_false', List.length_set, ne_eq, ge_iff_le, gt_iff_lt, setF_len, toNat_cast, lenOk]; omega) rfl)))
  have hb := mul_bd (a := a) (b := b) (by omega) (by omega) (by omega) (by omega)
  refine T.af (by simp only [inK_i64, inB_i, leB_i, ltB_iff, leN_iff, slOk_iff, ble_iff, blt_iff, decide_eq_true_eq, decide_eq_false_iff_not, beq_iff_eq, beq_eq_false_iff_ne, bne_iff_ne, bne_eq_false_iff_eq, Bool.not_eq_true', Bool.not_eq_false', List.length_set, ne_eq, ge_iff_le, gt_iff_lt, setF_len, toNat_cast, lenOk]; omega) (T.af (by simp only [inK_i64, inB_i, leB_i, ltB_iff, leN_iff, slOk_iff, ble_iff, blt_iff, decide_eq_true_eq, decide_eq_false_iff_not, beq_iff_eq, beq_eq_false_iff_ne, bne_iff_ne, bne_eq_false_iff_eq, Bool.not_eq_true', Bool.not_eq_false', List.length_set, ne_eq, ge_iff_le, gt_iff_lt, setF_len, toNat_cast, lenOk]; omega) (T.af (by simp only [inK_i64, inB_i, leB_i, ltB_iff, leN_iff, slOk_iff, ble_iff, blt_iff, decide_eq_true_eq, decide_eq_false_iff_not, beq_iff_eq, beq_eq_false_iff_ne, bne_iff_ne, bne_eq_false_iff_eq, Bool.not_eq_true', Bool.not_eq_false', List.length_set, ne_eq, ge_iff_le, gt_iff_lt, setF_len, toNat_cast, lenOk]; omega) (T.af (by simp only [inK_i64, inB_i, leB_i, ltB_iff, leN_iff, slOk_iff, ble_iff, blt_iff, decide_eq_true_eq, decide_eq_false_iff_not, beq_iff_eq, beq_eq_false_iff_ne, bne_iff_ne, bne_eq_false_iff_eq, Bool.not_eq_true', Bool.not_eq_false', List.length_set, ne_eq, ge_iff_le, gt_iff_lt, setF_len, toNat_cast, lenOk]; omega) (T.nd (by rw [inK_i64]; omega) ?_))))
  by_cases h5 : (xs.length : Int) = a * b
  · have hm : mayB a b xs.length = true := by
      simp only [mayB, Bool.and_eq_true, decide_eq_true_eq, beq_iff_eq]; omega
    rw [if_neg (by rw [hm]; decide)] at h ⊢
    refine T.af (by rw [bne_eq_false_iff_eq]; exact h5) ?_
    by_cases h6 : a = b
    · rw [if_neg (by simpa using h6)] at h ⊢
      refine T.af (by rw [bne_eq_false_iff_eq]; exact h6) ?_
      by_cases h7 : ∀ i, i < xs.length → finB (xs.getD i 0) = true
      · rw [if_neg (by simpa using h7)] at h; exact absurd rfl h
      · rw [if_pos h7]
        obtain ⟨k, e, hk⟩ := Index_spec (xs := xs) (by omega)
        have hk0 : ¬ k < 0 := fun q => h7 (hk.1 q)
        rw [cutL_all, e]
        exact T.nd (slOk_all _) (T.nd rfl (T.at (decide_eq_true (Int.not_lt.1 hk0)) rfl))
    · rw [if_pos h6]
      exact T.at (by rw [bne_iff_ne]; exact h6) rfl
  · have hm : mayB a b xs.length = false := by
      unfold mayB
      have : ((xs.length : Int) == a * b) = false := by rw [beq_eq_false_iff_ne]; exact h5
      rw [this]; simp only [Bool.and_false]
    rw [if_pos hm]
    exact T.at (by rw [bne_iff_ne]; exact h5) rfl

theorem want_zero {a b : Int} {xs : List Nat} (h : wantF a b xs = 0) : mayB a b xs.length = true ∧ a = b ∧ ∀ i, i < xs.length → finB (xs.getD i 0) = true := by
  unfold wantF at h
  split at h
  · cases h
  · rename_i h1
    split at h
    · cases h
    · rename_i h2
      split at h
      · cases h
      · rename_i h3
        exact ⟨by simpa using h1, by simpa using h2, by simpa using h3⟩

theorem T_good {n : Nat} {xs : List Nat} (hx : xs.length = n * n) (hn : n ≤ 512) (hf : ∀ i, i < xs.length → finB (xs.getD i 0) = true) :
    tridiag_Reduce_F (n : Int) (n : Int) xs = some (.r1 (n - 2) (n - 2) n n (lenE n) (lenE n) (n - 2) (pushF (vecK xs n) (n - 2)) (pushF (tauK xs n) (n - 2)) (pushF (diaK xs n) n) (lastE xs n)) := by
  have hs := sq_bd hn
  have hc : (n : Int) * (n : Int) = ((n * n : Nat) : Int) := (Int.natCast_mul n n).symm
  obtain ⟨k, e, hk⟩ := Index_spec (xs := xs) (by omega)
  have hk0 := hk.2 hf
  have hm : imax ((n : Int) - 2) 0 = ((n - 2 : Nat) : Int) := by unfold imax; split <;> omega
  refine toX_of (seqM_in (a := ()) ?_ (seqM_in (a := (((n - 2 : Nat) : Int), n * n, n, xs, List.replicate n 0)) ?_ (seqM_in (loopM_at (stT xs n) (n - 2) rfl (fun k hk => T_step hx hn (by omega)) (T_done hn)) (seqM_in rfl (seqM_in (T_dia hx hn) (seqM_in (T_last hx hn) rfl))))))
  · unfold tridiag_Reduce_t157
    rw [hc, cutL_all, e]
    refine T.af (by simp only [inK_i64, inB_i, leB_i, ltB_iff, leN_iff, slOk_iff, ble_iff, blt_iff, decide_eq_true_eq, decide_eq_false_iff_not, beq_iff_eq, beq_eq_false_iff_ne, bne_iff_ne, bne_eq_false_iff_eq, Bool.not_eq_true', Bool.not_eq_false', List.length_set, ne_eq, ge_iff_le, gt_iff_lt, setF_len, toNat_cast, lenOk]; omega) (T.af (by simp only [inK_i64, inB_i, leB_i, ltB_iff, leN_iff, slOk_iff, ble_iff, blt_iff, decide_eq_true_eq, decide_eq_false_iff_not, beq_iff_eq, beq_eq_false_iff_ne, bne_iff_ne, bne_eq_false_iff_eq, Bool.not_eq_true', Bool.not_eq_false', List.length_set, ne_eq, ge_iff_le, gt_iff_lt, setF_len, toNat_cast, lenOk]; omega) (T.af (by simp only [inK_i64, inB_i, leB_i, ltB_iff, leN_iff, slOk_iff, ble_iff, blt_iff, decide_eq_true_eq, decide_eq_false_iff_not, beq_iff_eq, beq_eq_false_iff_ne, bne_iff_ne, bne_eq_false_iff_eq, Bool.not_eq_true', Bool.not_eq_false', List.length_set, ne_eq, ge_iff_le, gt_iff_lt, setF_len, toNat_cast, lenOk]; omega) (T.af (by simp only [inK_i64, inB_i, leB_i, ltB_iff, leN_iff, slOk_iff, ble_iff, blt_iff, decide_eq_true_eq, decide_eq_false_iff_not, beq_iff_eq, beq_eq_false_iff_ne, bne_iff_ne, bne_eq_false_iff_eq, Bool.not_eq_true', Bool.not_eq_false', List.length_set, ne_eq, ge_iff_le, gt_iff_lt, setF_len, toNat_cast, lenOk]; omega) (T.nd (by simp only [inK_i64, inB_i, leB_i, ltB_iff, leN_iff, slOk_iff, ble_iff, blt_iff, decide_eq_true_eq, decide_eq_false_iff_not, beq_iff_eq, beq_eq_false_iff_ne, bne_iff_ne, bne_eq_false_iff_eq, Bool.not_eq_true', Bool.not_eq_false', List.length_set, ne_eq, ge_iff_le, gt_iff_lt, setF_len, toNat_cast, lenOk]; omega) (T.af (by simp only [inK_i64, inB_i, leB_i, ltB_iff, leN_iff, slOk_iff, ble_iff, blt_iff, decide_eq_true_eq, decide_eq_false_iff_not, beq_iff_eq, beq_eq_false_iff_ne, bne_iff_ne, bne_eq_false_iff_eq, Bool.not_eq_true', Bool.not_eq_false', List.length_set, ne_eq, ge_iff_le, gt_iff_lt, setF_len, toNat_cast, lenOk]; omega) (T.af (by rw [bne_eq_false_iff_eq]) (T.nd (slOk_all _) (T.nd rfl (T.af ?_ rfl)))))))))
    exact decide_eq_false (Int.not_le.2 hk0)
  · unfold tridiag_Reduce_t158
    rw [cutL_all, hm, hx, toNat_cast]
    exact T.nd (by rw [← hx]; exact slOk_all _) (T.nd (by simp only [inK_i64, inB_i, leB_i, ltB_iff, leN_iff, slOk_iff, ble_iff, blt_iff, decide_eq_true_eq, decide_eq_false_iff_not, beq_iff_eq, beq_eq_false_iff_ne, bne_iff_ne, bne_eq_false_iff_eq, Bool.not_eq_true', Bool.not_eq_false', List.length_set, ne_eq, ge_iff_le, gt_iff_lt, setF_len, toNat_cast, lenOk]; omega) (T.nd (by simp only [inK_i64, inB_i, leB_i, ltB_iff, leN_iff, slOk_iff, ble_iff, blt_iff, decide_eq_true_eq, decide_eq_false_iff_not, beq_iff_eq, beq_eq_false_iff_ne, bne_iff_ne, bne_eq_false_iff_eq, Bool.not_eq_true', Bool.not_eq_false', List.length_set, ne_eq, ge_iff_le, gt_iff_lt, setF_len, toNat_cast, lenOk]; omega) (T.nd (by simp only [inK_i64, inB_i, leB_i, ltB_iff, leN_iff, slOk_iff, ble_iff, blt_iff, decide_eq_true_eq, decide_eq_false_iff_not, beq_iff_eq, beq_eq_false_iff_ne, bne_iff_ne, bne_eq_false_iff_eq, Bool.not_eq_true', Bool.not_eq_false', List.length_set, ne_eq, ge_iff_le, gt_iff_lt, setF_len, toNat_cast, lenOk]; omega) (T.nd (by simp only [inK_i64, inB_i, leB_i, ltB_iff, leN_iff, slOk_iff, ble_iff, blt_iff, decide_eq_true_eq, decide_eq_false_iff_not, beq_iff_eq, beq_eq_false_iff_ne, bne_iff_ne, bne_eq_false_iff_eq, Bool.not_eq_true', Bool.not_eq_false', List.length_set, ne_eq, ge_iff_le, gt_iff_lt, setF_len, toNat_cast, lenOk]; omega) (T.nd (by simp only [inK_i64, inB_i, leB_i, ltB_iff, leN_iff, slOk_iff, ble_iff, blt_iff, decide_eq_true_eq, decide_eq_false_iff_not, beq_iff_eq, beq_eq_false_iff_ne, bne_iff_ne, bne_eq_false_iff_eq, Bool.not_eq_true', Bool.not_eq_false', List.length_set, ne_eq, ge_iff_le, gt_iff_lt, setF_len, toNat_cast, lenOk]; omega) (T.nd (by simp only [inK_i64, inB_i, leB_i, ltB_iff, leN_iff, slOk_iff, ble_iff, blt_iff, decide_eq_true_eq, decide_eq_false_iff_not, beq_iff_eq, beq_eq_false_iff_ne, bne_iff_ne, bne_eq_false_iff_eq, Bool.not_eq_true', Bool.not_eq_false', List.length_set, ne_eq, ge_iff_le, gt_iff_lt, setF_len, toNat_cast, lenOk]; omega) rfl))))))

theorem sameTri_spec {ds es : List Nat} (h1 : ds.length ≤ 1000000) (h2 : es.length ≤ 1000000) : law10_sameTri_F ds es ds es = some (.r0 true) := by
  refine toX_of (seqM_in (a := true) ?_ rfl)
  unfold law10_sameTri_t3
  rw [cutL_all, cutL_all, SameAll_spec (by omega), SameAll_spec (by omega)]
  exact T.nd (slOk_all _) (T.nd (slOk_all _) (T.nd rfl (T.at rfl (T.nd (slOk_all _) (T.nd (slOk_all _) (T.nd rfl rfl))))))

theorem want_spec {a b : Int} {xs : List Nat} : (law10_TridiagReduces_t16 a b xs).run = some (.inl (wantF a b xs)) := by
  unfold law10_TridiagReduces_t16 wantF
  rw [cutL_all, May_spec]
  refine T.nd (slOk_all _) (T.nd rfl ?_)
  cases hm : mayB a b xs.length with
  | false => rw [if_pos rfl]; exact T.at rfl rfl
  | true =>
    rw [if_neg (by decide)]
    refine T.af rfl ?_
    by_cases h : a = b
    · rw [if_neg (by simpa using h)]
      obtain ⟨k, e, hk⟩ := Wrong5_spec (xs := xs) hm
      rw [e]
      refine T.af (by rw [bne_eq_false_iff_eq]; exact h) (T.nd (slOk_all _) (T.nd rfl ?_))
      by_cases h0 : k = 0
      · rw [if_neg (by simpa using hk.1 h0)]
        exact T.af (by simp only [ref05_Wrong_p0_0, bne_eq_false_iff_eq]; omega) rfl
      · rw [if_pos (fun q => h0 (hk.2 q))]
        exact T.at (by simp only [ref05_Wrong_p0_0, bne_iff_ne]; omega) rfl
    · rw [if_pos h]
      exact T.at (by rw [bne_iff_ne]; exact h) rfl

theorem TridiagReduces_law (a b : Int) (xs : List Nat) : law10_TridiagReduces_F a b xs = some (.r0 true) := by
  refine toX_of ?_
  by_cases hL : 200 < xs.length
  · exact seqM_out (T.at (by simp only [inK_i64, inB_i, leB_i, ltB_iff, leN_iff, slOk_iff, ble_iff, blt_iff, decide_eq_true_eq, decide_eq_false_iff_not, beq_iff_eq, beq_eq_false_iff_ne, bne_iff_ne, bne_eq_false_iff_eq, Bool.not_eq_true', Bool.not_eq_false', List.length_set, ne_eq, ge_iff_le, gt_iff_lt, setF_len, toNat_cast, lenOk]; omega) rfl)
  have hL' : xs.length ≤ 200 := by omega
  have same : ∀ e, e = wantF a b xs → (law10_TridiagReduces_t17 a b xs e xs (wantF a b xs)).run = some (.inl false) := by
    intro e he
    unfold law10_TridiagReduces_t17
    rw [cutL_all, Same_spec (by omega)]
    exact T.af (by rw [bne_eq_false_iff_eq, he]) (T.nd (slOk_all _) (T.nd (slOk_all _) (T.nd rfl rfl)))
  by_cases h : wantF a b xs = 0
  · obtain ⟨hm, rfl, hf⟩ := want_zero h
    simp only [mayB, Bool.and_eq_true, decide_eq_true_eq, beq_iff_eq] at hm
    obtain ⟨n, rfl⟩ : ∃ n : Nat, a = n := ⟨a.toNat, by omega⟩
    have hn : n ≤ 512 := by omega
    have hx : xs.length = n * n := by have := hm.2.2.2.2; rw [← Int.natCast_mul] at this; exact_mod_cast this
    have hK : n ≤ 200 := by
      by_cases q : n = 0
      · omega
      · have : n * 1 ≤ n * n := Nat.mul_le_mul (Nat.le_refl n) (by omega)
        omega
    have lE := lastE_len (xs := xs) (n := n)
    have lE2 : lenE n ≤ n := by unfold lenE; by_cases q : 1 < n <;> simp only [q, decide_true, decide_false, cond_true, cond_false] <;> omega
    have lD := pushF_len (f := diaK xs n) (n := n)
    have lT := pushF_len (f := tauK xs n) (n := n - 2)
    have lV := pushF_len (f := vecK xs n) (n := n - 2)
    refine seqM_in (a := (n - 2, n - 2, 0, n, n, lenE n, lenE n, n - 2, pushF (vecK xs n) (n - 2), pushF (tauK xs n) (n - 2), xs, pushF (diaK xs n) n, lastE xs n)) ?_ (seqM_in want_spec (seqM_in (same 0 h.symm) (seqM_in (a := ()) ?_ (seqM_in (a := (n - 2, n - 2, n, n, lenE n, lenE n, n - 2, pushF (vecK xs n) (n - 2), pushF (tauK xs n) (n - 2), pushF (diaK xs n) n, lastE xs n)) ?_ (seqM_in (a := false) ?_ (seqM_in (a := ()) (T.af rfl rfl) (seqM_in (a := ()) ?_ rfl)))))))
    · unfold law10_TridiagReduces_t15
      rw [cutL_all, T_good hx hn hf, List.take_length]
      exact T.af (by simp only [inK_i64, inB_i, leB_i, ltB_iff, leN_iff, slOk_iff, ble_iff, blt_iff, decide_eq_true_eq, decide_eq_false_iff_not, beq_iff_eq, beq_eq_false_iff_ne, bne_iff_ne, bne_eq_false_iff_eq, Bool.not_eq_true', Bool.not_eq_false', List.length_set, ne_eq, ge_iff_le, gt_iff_lt, setF_len, toNat_cast, lenOk]; omega) (T.nd (by simp only [inK_i64, inB_i, leB_i, ltB_iff, leN_iff, slOk_iff, ble_iff, blt_iff, decide_eq_true_eq, decide_eq_false_iff_not, beq_iff_eq, beq_eq_false_iff_ne, bne_iff_ne, bne_eq_false_iff_eq, Bool.not_eq_true', Bool.not_eq_false', List.length_set, ne_eq, ge_iff_le, gt_iff_lt, setF_len, toNat_cast, lenOk]; omega) (T.nd (by simp only [inK_i64, inB_i, leB_i, ltB_iff, leN_iff, slOk_iff, ble_iff, blt_iff, decide_eq_true_eq, decide_eq_false_iff_not, beq_iff_eq, beq_eq_false_iff_ne, bne_iff_ne, bne_eq_false_iff_eq, Bool.not_eq_true', Bool.not_eq_false', List.length_set, ne_eq, ge_iff_le, gt_iff_lt, setF_len, toNat_cast, lenOk]; omega) (T.nd (by simp only [inK_i64, inB_i, leB_i, ltB_iff, leN_iff, slOk_iff, ble_iff, blt_iff, decide_eq_true_eq, decide_eq_false_iff_not, beq_iff_eq, beq_eq_false_iff_ne, bne_iff_ne, bne_eq_false_iff_eq, Bool.not_eq_true', Bool.not_eq_false', List.length_set, ne_eq, ge_iff_le, gt_iff_lt, setF_len, toNat_cast, lenOk]; omega) (T.a1 (T.nd (slOk_all _) (T.nf rfl)) (T.a0 (T.nd (slOk_all _) (T.nd rfl rfl)))))))
    · rw [h]; exact T.af rfl (T.af rfl rfl)
    · unfold law10_TridiagReduces_t19
      rw [cutL_all, QReduce_spec hx hn]
      exact T.nd (slOk_all _) (T.nd rfl rfl)
    · unfold law10_TridiagReduces_t20
      rw [cutL_to lD, cutL_to lE, sameTri_spec (by omega) (by omega)]
      refine T.nd (slOk_to lD) (T.nd (slOk_to lE) (T.nd (slOk_to lD) (T.nd (slOk_to lE) (T.nd rfl (T.af rfl ?_)))))
      show some (Sum.inl _) = _
      congr 2; rw [bne_eq_false_iff_eq]
    · refine loopM_at (fun j => j) (n - 2) rfl (fun j hj => ?_) (seqM_out (T.af (by simp only [inK_i64, inB_i, leB_i, ltB_iff, leN_iff, slOk_iff, ble_iff, blt_iff, decide_eq_true_eq, decide_eq_false_iff_not, beq_iff_eq, beq_eq_false_iff_ne, bne_iff_ne, bne_eq_false_iff_eq, Bool.not_eq_true', Bool.not_eq_false', List.length_set, ne_eq, ge_iff_le, gt_iff_lt, setF_len, toNat_cast, lenOk]; omega) rfl))
      have hv : (List.getD (pushF (vecK xs n) (n - 2)) j []).length ≤ 1000 := by
        have e : ∀ m, j < m → (pushF (vecK xs n) m).getD j [] = vecK xs n j := by
          intro m
          induction m with
          | zero => intro q; omega
          | succ m ih =>
            intro q
            simp only [pushF]
            by_cases r : j = m
            · subst r; rw [List.getD_eq_getElem?_getD, List.getElem?_append_right (by rw [pushF_len]; exact Nat.le_refl _), pushF_len, Nat.sub_self]; rfl
            · have := ih (by omega)
              rw [List.getD_eq_getElem?_getD] at this ⊢
              rw [List.getElem?_append_left (by rw [pushF_len]; omega)]; exact this
        rw [e _ hj]; unfold vecK; rw [makeV_len, colX_len]; omega
      show seqM (law10_TridiagReduces_t23 _ _ _ _ _ _ _).run _ = _
      refine seqM_in (a := ()) ?_ (T.nd (by simp only [inK_i64, inB_i, leB_i, ltB_iff, leN_iff, slOk_iff, ble_iff, blt_iff, decide_eq_true_eq, decide_eq_false_iff_not, beq_iff_eq, beq_eq_false_iff_ne, bne_iff_ne, bne_eq_false_iff_eq, Bool.not_eq_true', Bool.not_eq_false', List.length_set, ne_eq, ge_iff_le, gt_iff_lt, setF_len, toNat_cast, lenOk]; omega) rfl)
      unfold law10_TridiagReduces_t23
      rw [cutL_all, SameAll_spec (by omega), sameB_refl]
      exact T.at (by simp only [inK_i64, inB_i, leB_i, ltB_iff, leN_iff, slOk_iff, ble_iff, blt_iff, decide_eq_true_eq, decide_eq_false_iff_not, beq_iff_eq, beq_eq_false_iff_ne, bne_iff_ne, bne_eq_false_iff_eq, Bool.not_eq_true', Bool.not_eq_false', List.length_set, ne_eq, ge_iff_le, gt_iff_lt, setF_len, toNat_cast, lenOk]; omega) (T.nd (by simp only [inK_i64, inB_i, leB_i, ltB_iff, leN_iff, slOk_iff, ble_iff, blt_iff, decide_eq_true_eq, decide_eq_false_iff_not, beq_iff_eq, beq_eq_false_iff_ne, bne_iff_ne, bne_eq_false_iff_eq, Bool.not_eq_true', Bool.not_eq_false', List.length_set, ne_eq, ge_iff_le, gt_iff_lt, setF_len, toNat_cast, lenOk]; omega) (T.nd (by simp only [inK_i64, inB_i, leB_i, ltB_iff, leN_iff, slOk_iff, ble_iff, blt_iff, decide_eq_true_eq, decide_eq_false_iff_not, beq_iff_eq, beq_eq_false_iff_ne, bne_iff_ne, bne_eq_false_iff_eq, Bool.not_eq_true', Bool.not_eq_false', List.length_set, ne_eq, ge_iff_le, gt_iff_lt, setF_len, toNat_cast, lenOk]; omega) (T.nd (by simp only [inK_i64, inB_i, leB_i, ltB_iff, leN_iff, slOk_iff, ble_iff, blt_iff, decide_eq_true_eq, decide_eq_false_iff_not, beq_iff_eq, beq_eq_false_iff_ne, bne_iff_ne, bne_eq_false_iff_eq, Bool.not_eq_true', Bool.not_eq_false', List.length_set, ne_eq, ge_iff_le, gt_iff_lt, setF_len, toNat_cast, lenOk]; omega) (T.nd (by simp only [inK_i64, inB_i, leB_i, ltB_iff, leN_iff, slOk_iff, ble_iff, blt_iff, decide_eq_true_eq, decide_eq_false_iff_not, beq_iff_eq, beq_eq_false_iff_ne, bne_iff_ne, bne_eq_false_iff_eq, Bool.not_eq_true', Bool.not_eq_false', List.length_set, ne_eq, ge_iff_le, gt_iff_lt, setF_len, toNat_cast, lenOk]; omega) (T.af rfl (T.nd (by simp only [inK_i64, inB_i, leB_i, ltB_iff, leN_iff, slOk_iff, ble_iff, blt_iff, decide_eq_true_eq, decide_eq_false_iff_not, beq_iff_eq, beq_eq_false_iff_ne, bne_iff_ne, bne_eq_false_iff_eq, Bool.not_eq_true', Bool.not_eq_false', List.length_set, ne_eq, ge_iff_le, gt_iff_lt, setF_len, toNat_cast, lenOk]; omega) (T.nd (by simp only [inK_i64, inB_i, leB_i, ltB_iff, leN_iff, slOk_iff, ble_iff, blt_iff, decide_eq_true_eq, decide_eq_false_iff_not, beq_iff_eq, beq_eq_false_iff_ne, bne_iff_ne, bne_eq_false_iff_eq, Bool.not_eq_true', Bool.not_eq_false', List.length_set, ne_eq, ge_iff_le, gt_iff_lt, setF_len, toNat_cast, lenOk]; omega) (T.nd (by simp only [inK_i64, inB_i, leB_i, ltB_iff, leN_iff, slOk_iff, ble_iff, blt_iff, decide_eq_true_eq, decide_eq_false_iff_not, beq_iff_eq, beq_eq_false_iff_ne, bne_iff_ne, bne_eq_false_iff_eq, Bool.not_eq_true', Bool.not_eq_false', List.length_set, ne_eq, ge_iff_le, gt_iff_lt, setF_len, toNat_cast, lenOk]; omega) (T.nd (by simp only [inK_i64, inB_i, leB_i, ltB_iff, leN_iff, slOk_iff, ble_iff, blt_iff, decide_eq_true_eq, decide_eq_false_iff_not, beq_iff_eq, beq_eq_false_iff_ne, bne_iff_ne, bne_eq_false_iff_eq, Bool.not_eq_true', Bool.not_eq_false', List.length_set, ne_eq, ge_iff_le, gt_iff_lt, setF_len, toNat_cast, lenOk]; omega) (T.nd (slOk_all _) (T.nd (slOk_all _) (T.nd rfl (T.af rfl rfl)))))))))))))
  · refine seqM_in (a := (0, 0, wantF a b xs, 0, 0, 0, 0, 0, [], [], xs, [], [])) ?_ (seqM_in want_spec (seqM_in (same _ rfl) (seqM_out ?_)))
    · unfold law10_TridiagReduces_t15
      rw [cutL_all, T_bad hL' h, List.take_length]
      exact T.af (by simp only [inK_i64, inB_i, leB_i, ltB_iff, leN_iff, slOk_iff, ble_iff, blt_iff, decide_eq_true_eq, decide_eq_false_iff_not, beq_iff_eq, beq_eq_false_iff_ne, bne_iff_ne, bne_eq_false_iff_eq, Bool.not_eq_true', Bool.not_eq_false', List.length_set, ne_eq, ge_iff_le, gt_iff_lt, setF_len, toNat_cast, lenOk]; omega) (T.nd (by simp only [inK_i64, inB_i, leB_i, ltB_iff, leN_iff, slOk_iff, ble_iff, blt_iff, decide_eq_true_eq, decide_eq_false_iff_not, beq_iff_eq, beq_eq_false_iff_ne, bne_iff_ne, bne_eq_false_iff_eq, Bool.not_eq_true', Bool.not_eq_false', List.length_set, ne_eq, ge_iff_le, gt_iff_lt, setF_len, toNat_cast, lenOk]; omega) (T.nd (by simp only [inK_i64, inB_i, leB_i, ltB_iff, leN_iff, slOk_iff, ble_iff, blt_iff, decide_eq_true_eq, decide_eq_false_iff_not, beq_iff_eq, beq_eq_false_iff_ne, bne_iff_ne, bne_eq_false_iff_eq, Bool.not_eq_true', Bool.not_eq_false', List.length_set, ne_eq, ge_iff_le, gt_iff_lt, setF_len, toNat_cast, lenOk]; omega) (T.nd (by simp only [inK_i64, inB_i, leB_i, ltB_iff, leN_iff, slOk_iff, ble_iff, blt_iff, decide_eq_true_eq, decide_eq_false_iff_not, beq_iff_eq, beq_eq_false_iff_ne, bne_iff_ne, bne_eq_false_iff_eq, Bool.not_eq_true', Bool.not_eq_false', List.length_set, ne_eq, ge_iff_le, gt_iff_lt, setF_len, toNat_cast, lenOk]; omega) (T.a0 (T.nd (slOk_all _) (T.nd rfl rfl))))))
    · unfold law10_TridiagReduces_t18
      rw [cutL_to (l := ([] : List Nat)) (n := 0) rfl, sameTri_spec (by decide) (by decide)]
      exact T.af rfl (T.at (by rw [bne_iff_ne]; omega) (T.nd rfl (T.nd rfl (T.nd rfl (T.at rfl (T.at rfl rfl))))))
end Go.Plb.Seat
