/-
  Part 6 of what the claim leans on: an evaluator of the model, proved sound; the contracts of the functions.
-/
import Derived.Test.YtiacfeojfabghaaA5
/-
  PLAIN: what reflections come to.
-/
namespace Go.Plb.Seat
open Go Go.Plb
set_option linter.unusedSimpArgs false
set_option linter.unusedVariables false

def oneF (n j : Nat) : List Nat := setF (fun i => i * n + i) (fun _ => 4607182418800017408) (List.replicate (n * n) 0) j
theorem oneF_len {n j : Nat} : (oneF n j).length = n * n := by simp only [oneF, setF_len, List.length_replicate]

/-- The reflections put on, from the last one. -/
def qF (vs : List (List Nat)) (ts : List Nat) (n m : Nat) (j : Nat) : List Nat := iterF (fun j q => leftF q (vs.getD (m - 1 - j) []) n (m - j) (m - j) (ts.getD (m - 1 - j) 0)) (oneF n n) j
theorem qF_len {vs : List (List Nat)} {ts : List Nat} {n m : Nat} : ∀ {j : Nat}, (qF vs ts n m j).length = n * n
  | 0 => oneF_len
  | j + 1 => by simp only [qF, iterF, leftF, rflF_len]; exact qF_len (j := j)

/-- Do they fit? -/
def fitsN (n m : Nat) (vs : List (List Nat)) : Prop := n ≤ 512 ∧ m = n - 2 ∧ ∀ k, k < m → (vs.getD k []).length = n - 1 - k

theorem One_spec {n : Nat} (h : n ≤ 512) : ref10_One_F (n : Int) = some (.r0 n (n * n) (oneF n n)) := by
  have hs := sq_bd h
  have hc : (n : Int) * (n : Int) = ((n * n : Nat) : Int) := (Int.natCast_mul n n).symm
  refine toX_of (seqM_in (a := (n * n, List.replicate (n * n) 0)) ?_ (seqM_in (a := oneF n n) ?_ rfl))
  · unfold ref10_One_t7
    rw [hc]
    (repeat (refine T.nd (by simp only [inK_i64, inB_i, leB_i, ltB_iff, leN_iff, slOk_iff, ble_iff, blt_iff, decide_eq_true_eq, decide_eq_false_iff_not, beq_iff_eq, beq_eq_false_iff_ne, bne_iff_ne, bne_eq_false_iff_eq, Bool.not_eq_true', Bool.not_eq_false', List.length_set, ne_eq, ge_iff_le, gt_iff_lt, setF_len, toNat_cast, lenOk]; omega) ?_))
    rfl
  · refine loopM_at (fun j => (j, oneF n j)) n rfl (fun j hj => ?_) (T.af (by simp only [inK_i64, inB_i, leB_i, ltB_iff, leN_iff, slOk_iff, ble_iff, blt_iff, decide_eq_true_eq, decide_eq_false_iff_not, beq_iff_eq, beq_eq_false_iff_ne, bne_iff_ne, bne_eq_false_iff_eq, Bool.not_eq_true', Bool.not_eq_false', List.length_set, ne_eq, ge_iff_le, gt_iff_lt, setF_len, toNat_cast, lenOk]; omega) rfl)
    have h := idxOb (x := j) (idx_lt hj hj) (by omega) (by omega)
    have hl := oneF_len (n := n) (j := j)
    show (ref10_One_t9 _ _ _ _).run = _
    unfold ref10_One_t9
    rw [hl, h.f]
    exact T.at (by simp only [inK_i64, inB_i, leB_i, ltB_iff, leN_iff, slOk_iff, ble_iff, blt_iff, decide_eq_true_eq, decide_eq_false_iff_not, beq_iff_eq, beq_eq_false_iff_ne, bne_iff_ne, bne_eq_false_iff_eq, Bool.not_eq_true', Bool.not_eq_false', List.length_set, ne_eq, ge_iff_le, gt_iff_lt, setF_len, toNat_cast, lenOk]; omega) (T.nd h.b (T.nd h.c (T.nd h.d (T.nd (by rw [ltB_iff]; exact idx_lt hj hj) (T.nd (by simp only [inK_i64, inB_i, leB_i, ltB_iff, leN_iff, slOk_iff, ble_iff, blt_iff, decide_eq_true_eq, decide_eq_false_iff_not, beq_iff_eq, beq_eq_false_iff_ne, bne_iff_ne, bne_eq_false_iff_eq, Bool.not_eq_true', Bool.not_eq_false', List.length_set, ne_eq, ge_iff_le, gt_iff_lt, setF_len, toNat_cast, lenOk]; omega) rfl)))))

theorem Q_step {n m k : Nat} {q : List Nat} {vs : List (List Nat)} (hn : n ≤ 512) (hm : m = n - 2) (hk : k < m) (hq : q.length = n * n) (hv : (vs.getD k []).length = n - 1 - k) (t : Nat) :
    reflect_Left_F (n : Int) (n : Int) q ((k : Int) + 1) ((k : Int) + 1) (vs.getD k []) t = some (.r1 n n (n * n) (leftF q (vs.getD k []) n (k + 1) (k + 1) t))
    ∧ ref09_Left_F (n : Int) (n : Int) q ((k : Int) + 1) ((k : Int) + 1) (vs.getD k []) t = some (.r0 n n (n * n) (leftF q (vs.getD k []) n (k + 1) (k + 1) t)) := by
  rw [← hq]
  exact ⟨Left_spec (at_ := k + 1) (frm := k + 1) hq hn hn (by omega) (by omega) (by omega), Left9_spec (at_ := k + 1) (frm := k + 1) hq hn hn (by omega) (by omega)⟩

/-- The loop's state: k runs down from m - 1. -/
def qSt (vs : List (List Nat)) (ts : List Nat) (n m j : Nat) : Int × Int × Int × Nat × Nat × List Nat := (((m : Int) - 1 - j), (n : Int), (n : Int), n * n, n * n, qF vs ts n m j)

theorem rQ_spec {n m : Nat} {vs : List (List Nat)} {ts : List Nat} (h : fitsN n m vs) (hvs : vs.length = m) (hts : ts.length = m) : ref10_Q_F (n : Int) m vs ts = some (.r0 n n (n * n) (n * n) (qF vs ts n m m)) := by
  obtain ⟨hn, hm, hf⟩ := h
  have hs := sq_bd hn
  refine toX_of (seqM_in (a := ((n : Int), n * n, oneF n n)) ?_ (seqM_in (a := (m : Int) - 1) (T.nd (by simp only [inK_i64, inB_i, leB_i, ltB_iff, leN_iff, slOk_iff, ble_iff, blt_iff, decide_eq_true_eq, decide_eq_false_iff_not, beq_iff_eq, beq_eq_false_iff_ne, bne_iff_ne, bne_eq_false_iff_eq, Bool.not_eq_true', Bool.not_eq_false', List.length_set, ne_eq, ge_iff_le, gt_iff_lt, setF_len, toNat_cast, lenOk]; omega) rfl) (seqM_in (a := ((n : Int), (n : Int), n * n, n * n, qF vs ts n m m)) ?_ rfl)))
  · unfold ref10_Q_t10
    rw [One_spec hn]; exact T.nd rfl rfl
  · refine loopM_at (qSt vs ts n m) m ?_ (fun j hj => ?_) ?_
    · simp only [qSt, qF, iterF]; congr 1; omega
    · show seqM (ref10_Q_t13 _ _ _ _ _ _ _ _ _).run _ = _
      have hql := qF_len (vs := vs) (ts := ts) (n := n) (m := m) (j := j)
      have hk : ((m : Int) - 1 - j) = ((m - 1 - j : Nat) : Int) := by omega
      have e := (Q_step (k := m - 1 - j) (vs := vs) hn hm (by omega) hql (hf _ (by omega)) (ts.getD (m - 1 - j) 0)).2
      refine seqM_in (a := ((n : Int), (n : Int), n * n, qF vs ts n m (j + 1))) ?_ (T.nd (by simp only [inK_i64, inB_i, leB_i, ltB_iff, leN_iff, slOk_iff, ble_iff, blt_iff, decide_eq_true_eq, decide_eq_false_iff_not, beq_iff_eq, beq_eq_false_iff_ne, bne_iff_ne, bne_eq_false_iff_eq, Bool.not_eq_true', Bool.not_eq_false', List.length_set, ne_eq, ge_iff_le, gt_iff_lt, setF_len, toNat_cast, lenOk]; omega) ?_)
      · unfold ref10_Q_t13
        rw [hk]
        simp only [toNat_cast]
        rw [cutL_to hql, cutL_all, e]
        refine T.at (by simp only [inK_i64, inB_i, leB_i, ltB_iff, leN_iff, slOk_iff, ble_iff, blt_iff, decide_eq_true_eq, decide_eq_false_iff_not, beq_iff_eq, beq_eq_false_iff_ne, bne_iff_ne, bne_eq_false_iff_eq, Bool.not_eq_true', Bool.not_eq_false', List.length_set, ne_eq, ge_iff_le, gt_iff_lt, setF_len, toNat_cast, lenOk]; omega) (T.nd (by simp only [inK_i64, inB_i, leB_i, ltB_iff, leN_iff, slOk_iff, ble_iff, blt_iff, decide_eq_true_eq, decide_eq_false_iff_not, beq_iff_eq, beq_eq_false_iff_ne, bne_iff_ne, bne_eq_false_iff_eq, Bool.not_eq_true', Bool.not_eq_false', List.length_set, ne_eq, ge_iff_le, gt_iff_lt, setF_len, toNat_cast, lenOk]; omega) (T.nd (by simp only [inK_i64, inB_i, leB_i, ltB_iff, leN_iff, slOk_iff, ble_iff, blt_iff, decide_eq_true_eq, decide_eq_false_iff_not, beq_iff_eq, beq_eq_false_iff_ne, bne_iff_ne, bne_eq_false_iff_eq, Bool.not_eq_true', Bool.not_eq_false', List.length_set, ne_eq, ge_iff_le, gt_iff_lt, setF_len, toNat_cast, lenOk]; omega) (T.nd (by simp only [inK_i64, inB_i, leB_i, ltB_iff, leN_iff, slOk_iff, ble_iff, blt_iff, decide_eq_true_eq, decide_eq_false_iff_not, beq_iff_eq, beq_eq_false_iff_ne, bne_iff_ne, bne_eq_false_iff_eq, Bool.not_eq_true', Bool.not_eq_false', List.length_set, ne_eq, ge_iff_le, gt_iff_lt, setF_len, toNat_cast, lenOk]; omega) (T.nd (by simp only [inK_i64, inB_i, leB_i, ltB_iff, leN_iff, slOk_iff, ble_iff, blt_iff, decide_eq_true_eq, decide_eq_false_iff_not, beq_iff_eq, beq_eq_false_iff_ne, bne_iff_ne, bne_eq_false_iff_eq, Bool.not_eq_true', Bool.not_eq_false', List.length_set, ne_eq, ge_iff_le, gt_iff_lt, setF_len, toNat_cast, lenOk]; omega) (T.nd (by simp only [inK_i64, inB_i, leB_i, ltB_iff, leN_iff, slOk_iff, ble_iff, blt_iff, decide_eq_true_eq, decide_eq_false_iff_not, beq_iff_eq, beq_eq_false_iff_ne, bne_iff_ne, bne_eq_false_iff_eq, Bool.not_eq_true', Bool.not_eq_false', List.length_set, ne_eq, ge_iff_le, gt_iff_lt, setF_len, toNat_cast, lenOk]; omega) (T.nd ?_ (T.nd (slOk_all _) (T.nd rfl ?_))))))))
        · rw [← hql]; exact slOk_all _
        · have e2 : m - j = m - 1 - j + 1 := by omega
          simp only [ref10_Q_t13, qF, iterF, e2]; rfl
      · show some (Sum.inl _) = _
        simp only [qSt]; congr 3; omega
    · exact seqM_out (T.af (by simp only [inK_i64, inB_i, leB_i, ltB_iff, leN_iff, slOk_iff, ble_iff, blt_iff, decide_eq_true_eq, decide_eq_false_iff_not, beq_iff_eq, beq_eq_false_iff_ne, bne_iff_ne, bne_eq_false_iff_eq, Bool.not_eq_true', Bool.not_eq_false', List.length_set, ne_eq, ge_iff_le, gt_iff_lt, setF_len, toNat_cast, lenOk]; omega) rfl)

theorem tQ_spec {n m : Nat} {vs : List (List Nat)} {ts : List Nat} (h : fitsN n m vs) (hvs : vs.length = m) (hts : ts.length = m) : tridiag_Q_F (n : Int) m vs ts = some (.r1 n n (n * n) (n * n) (qF vs ts n m m)) := by
  obtain ⟨hn, hm, hf⟩ := h
  have hs := sq_bd hn
  have hc : (n : Int) * (n : Int) = ((n * n : Nat) : Int) := (Int.natCast_mul n n).symm
  refine toX_of (seqM_in (a := false) ?_ (seqM_in (a := ()) (T.af rfl rfl) (seqM_in (a := ()) ?_ (seqM_in (a := (n * n, List.replicate (n * n) 0)) ?_ (seqM_in (a := oneF n n) ?_ (seqM_in (a := (m : Int) - 1) (T.nd (by simp only [inK_i64, inB_i, leB_i, ltB_iff, leN_iff, slOk_iff, ble_iff, blt_iff, decide_eq_true_eq, decide_eq_false_iff_not, beq_iff_eq, beq_eq_false_iff_ne, bne_iff_ne, bne_eq_false_iff_eq, Bool.not_eq_true', Bool.not_eq_false', List.length_set, ne_eq, ge_iff_le, gt_iff_lt, setF_len, toNat_cast, lenOk]; omega) rfl) (seqM_in (a := ((n : Int), (n : Int), n * n, n * n, qF vs ts n m m)) ?_ rfl)))))))
  · unfold tridiag_Q_t20
    refine T.af (by simp only [inK_i64, inB_i, leB_i, ltB_iff, leN_iff, slOk_iff, ble_iff, blt_iff, decide_eq_true_eq, decide_eq_false_iff_not, beq_iff_eq, beq_eq_false_iff_ne, bne_iff_ne, bne_eq_false_iff_eq, Bool.not_eq_true', Bool.not_eq_false', List.length_set, ne_eq, ge_iff_le, gt_iff_lt, setF_len, toNat_cast, lenOk]; omega) (T.af (by simp only [inK_i64, inB_i, leB_i, ltB_iff, leN_iff, slOk_iff, ble_iff, blt_iff, decide_eq_true_eq, decide_eq_false_iff_not, beq_iff_eq, beq_eq_false_iff_ne, bne_iff_ne, bne_eq_false_iff_eq, Bool.not_eq_true', Bool.not_eq_false', List.length_set, ne_eq, ge_iff_le, gt_iff_lt, setF_len, toNat_cast, lenOk]; omega) (T.nd (by simp only [inK_i64, inB_i, leB_i, ltB_iff, leN_iff, slOk_iff, ble_iff, blt_iff, decide_eq_true_eq, decide_eq_false_iff_not, beq_iff_eq, beq_eq_false_iff_ne, bne_iff_ne, bne_eq_false_iff_eq, Bool.not_eq_true', Bool.not_eq_false', List.length_set, ne_eq, ge_iff_le, gt_iff_lt, setF_len, toNat_cast, lenOk]; omega) ?_))
    show some (Sum.inl _) = _
    congr 2; simp only [bne_eq_false_iff_eq, imax]; split <;> omega
  · refine loopM_at (fun j => j) m rfl (fun j hj => ?_) (T.af (by simp only [inK_i64, inB_i, leB_i, ltB_iff, leN_iff, slOk_iff, ble_iff, blt_iff, decide_eq_true_eq, decide_eq_false_iff_not, beq_iff_eq, beq_eq_false_iff_ne, bne_iff_ne, bne_eq_false_iff_eq, Bool.not_eq_true', Bool.not_eq_false', List.length_set, ne_eq, ge_iff_le, gt_iff_lt, setF_len, toNat_cast, lenOk]; omega) rfl)
    show (tridiag_Q_t23 _ _ _ _ _).run = _
    have := hf j hj
    unfold tridiag_Q_t23
    refine T.at (by simp only [inK_i64, inB_i, leB_i, ltB_iff, leN_iff, slOk_iff, ble_iff, blt_iff, decide_eq_true_eq, decide_eq_false_iff_not, beq_iff_eq, beq_eq_false_iff_ne, bne_iff_ne, bne_eq_false_iff_eq, Bool.not_eq_true', Bool.not_eq_false', List.length_set, ne_eq, ge_iff_le, gt_iff_lt, setF_len, toNat_cast, lenOk]; omega) ?_
    (refine T.nd (by simp only [inK_i64, inB_i, leB_i, ltB_iff, leN_iff, slOk_iff, ble_iff, blt_iff, decide_eq_true_eq, decide_eq_false_iff_not, beq_iff_eq, beq_eq_false_iff_ne, bne_iff_ne, bne_eq_false_iff_eq, Bool.not_eq_true', Bool.not_eq_false', List.length_set, ne_eq, ge_iff_le, gt_iff_lt, setF_len, toNat_cast, lenOk]; omega) ?_; refine T.nd (by simp only [inK_i64, inB_i, leB_i, ltB_iff, leN_iff, slOk_iff, ble_iff, blt_iff, decide_eq_true_eq, decide_eq_false_iff_not, beq_iff_eq, beq_eq_false_iff_ne, bne_iff_ne, bne_eq_false_iff_eq, Bool.not_eq_true', Bool.not_eq_false', List.length_set, ne_eq, ge_iff_le, gt_iff_lt, setF_len, toNat_cast, lenOk]; omega) ?_; refine T.nd (by simp only [inK_i64, inB_i, leB_i, ltB_iff, leN_iff, slOk_iff, ble_iff, blt_iff, decide_eq_true_eq, decide_eq_false_iff_not, beq_iff_eq, beq_eq_false_iff_ne, bne_iff_ne, bne_eq_false_iff_eq, Bool.not_eq_true', Bool.not_eq_false', List.length_set, ne_eq, ge_iff_le, gt_iff_lt, setF_len, toNat_cast, lenOk]; omega) ?_; refine T.nd (by simp only [inK_i64, inB_i, leB_i, ltB_iff, leN_iff, slOk_iff, ble_iff, blt_iff, decide_eq_true_eq, decide_eq_false_iff_not, beq_iff_eq, beq_eq_false_iff_ne, bne_iff_ne, bne_eq_false_iff_eq, Bool.not_eq_true', Bool.not_eq_false', List.length_set, ne_eq, ge_iff_le, gt_iff_lt, setF_len, toNat_cast, lenOk]; omega) ?_; refine T.nd (by simp only [inK_i64, inB_i, leB_i, ltB_iff, leN_iff, slOk_iff, ble_iff, blt_iff, decide_eq_true_eq, decide_eq_false_iff_not, beq_iff_eq, beq_eq_false_iff_ne, bne_iff_ne, bne_eq_false_iff_eq, Bool.not_eq_true', Bool.not_eq_false', List.length_set, ne_eq, ge_iff_le, gt_iff_lt, setF_len, toNat_cast, lenOk]; omega) ?_)
    exact T.af (by simp only [inK_i64, inB_i, leB_i, ltB_iff, leN_iff, slOk_iff, ble_iff, blt_iff, decide_eq_true_eq, decide_eq_false_iff_not, beq_iff_eq, beq_eq_false_iff_ne, bne_iff_ne, bne_eq_false_iff_eq, Bool.not_eq_true', Bool.not_eq_false', List.length_set, ne_eq, ge_iff_le, gt_iff_lt, setF_len, toNat_cast, lenOk]; omega) (T.nd (by simp only [inK_i64, inB_i, leB_i, ltB_iff, leN_iff, slOk_iff, ble_iff, blt_iff, decide_eq_true_eq, decide_eq_false_iff_not, beq_iff_eq, beq_eq_false_iff_ne, bne_iff_ne, bne_eq_false_iff_eq, Bool.not_eq_true', Bool.not_eq_false', List.length_set, ne_eq, ge_iff_le, gt_iff_lt, setF_len, toNat_cast, lenOk]; omega) rfl)
  · unfold tridiag_Q_t25
    rw [hc]
    (repeat (refine T.nd (by simp only [inK_i64, inB_i, leB_i, ltB_iff, leN_iff, slOk_iff, ble_iff, blt_iff, decide_eq_true_eq, decide_eq_false_iff_not, beq_iff_eq, beq_eq_false_iff_ne, bne_iff_ne, bne_eq_false_iff_eq, Bool.not_eq_true', Bool.not_eq_false', List.length_set, ne_eq, ge_iff_le, gt_iff_lt, setF_len, toNat_cast, lenOk]; omega) ?_))
    rfl
  · refine loopM_at (fun j => (j, oneF n j)) n rfl (fun j hj => ?_) (T.af (by simp only [inK_i64, inB_i, leB_i, ltB_iff, leN_iff, slOk_iff, ble_iff, blt_iff, decide_eq_true_eq, decide_eq_false_iff_not, beq_iff_eq, beq_eq_false_iff_ne, bne_iff_ne, bne_eq_false_iff_eq, Bool.not_eq_true', Bool.not_eq_false', List.length_set, ne_eq, ge_iff_le, gt_iff_lt, setF_len, toNat_cast, lenOk]; omega) rfl)
    have h := idxOb (x := j) (idx_lt hj hj) (by omega) (by omega)
    have hl := oneF_len (n := n) (j := j)
    show (tridiag_Q_t27 _ _ _ _).run = _
    unfold tridiag_Q_t27
    rw [hl, h.f]
    exact T.at (by simp only [inK_i64, inB_i, leB_i, ltB_iff, leN_iff, slOk_iff, ble_iff, blt_iff, decide_eq_true_eq, decide_eq_false_iff_not, beq_iff_eq, beq_eq_false_iff_ne, bne_iff_ne, bne_eq_false_iff_eq, Bool.not_eq_true', Bool.not_eq_false', List.length_set, ne_eq, ge_iff_le, gt_iff_lt, setF_len, toNat_cast, lenOk]; omega) (T.nd h.b (T.nd h.c (T.nd h.d (T.nd (by rw [ltB_iff]; exact idx_lt hj hj) (T.nd (by simp only [inK_i64, inB_i, leB_i, ltB_iff, leN_iff, slOk_iff, ble_iff, blt_iff, decide_eq_true_eq, decide_eq_false_iff_not, beq_iff_eq, beq_eq_false_iff_ne, bne_iff_ne, bne_eq_false_iff_eq, Bool.not_eq_true', Bool.not_eq_false', List.length_set, ne_eq, ge_iff_le, gt_iff_lt, setF_len, toNat_cast, lenOk]; omega) rfl)))))
  · refine loopM_at (qSt vs ts n m) m ?_ (fun j hj => ?_) ?_
    · simp only [qSt, qF, iterF]; congr 1; omega
    · show seqM (tridiag_Q_t31 _ _ _ _ _ _ _ _ _).run _ = _
      have hql := qF_len (vs := vs) (ts := ts) (n := n) (m := m) (j := j)
      have hk : ((m : Int) - 1 - j) = ((m - 1 - j : Nat) : Int) := by omega
      have e := (Q_step (k := m - 1 - j) (vs := vs) hn hm (by omega) hql (hf _ (by omega)) (ts.getD (m - 1 - j) 0)).1
      refine seqM_in (a := ((n : Int), (n : Int), n * n, qF vs ts n m (j + 1))) ?_ (T.nd (by simp only [inK_i64, inB_i, leB_i, ltB_iff, leN_iff, slOk_iff, ble_iff, blt_iff, decide_eq_true_eq, decide_eq_false_iff_not, beq_iff_eq, beq_eq_false_iff_ne, bne_iff_ne, bne_eq_false_iff_eq, Bool.not_eq_true', Bool.not_eq_false', List.length_set, ne_eq, ge_iff_le, gt_iff_lt, setF_len, toNat_cast, lenOk]; omega) ?_)
      · unfold tridiag_Q_t31
        rw [hk]
        simp only [toNat_cast]
        rw [cutL_to hql, cutL_all, e]
        have e2 : m - j = m - 1 - j + 1 := by omega
        have sl : slOk 0 (n * n) (qF vs ts n m j) = true := by rw [← hql]; exact slOk_all _
        refine T.at (by simp only [inK_i64, inB_i, leB_i, ltB_iff, leN_iff, slOk_iff, ble_iff, blt_iff, decide_eq_true_eq, decide_eq_false_iff_not, beq_iff_eq, beq_eq_false_iff_ne, bne_iff_ne, bne_eq_false_iff_eq, Bool.not_eq_true', Bool.not_eq_false', List.length_set, ne_eq, ge_iff_le, gt_iff_lt, setF_len, toNat_cast, lenOk]; omega) (T.nd (by simp only [inK_i64, inB_i, leB_i, ltB_iff, leN_iff, slOk_iff, ble_iff, blt_iff, decide_eq_true_eq, decide_eq_false_iff_not, beq_iff_eq, beq_eq_false_iff_ne, bne_iff_ne, bne_eq_false_iff_eq, Bool.not_eq_true', Bool.not_eq_false', List.length_set, ne_eq, ge_iff_le, gt_iff_lt, setF_len, toNat_cast, lenOk]; omega) (T.nd (by simp only [inK_i64, inB_i, leB_i, ltB_iff, leN_iff, slOk_iff, ble_iff, blt_iff, decide_eq_true_eq, decide_eq_false_iff_not, beq_iff_eq, beq_eq_false_iff_ne, bne_iff_ne, bne_eq_false_iff_eq, Bool.not_eq_true', Bool.not_eq_false', List.length_set, ne_eq, ge_iff_le, gt_iff_lt, setF_len, toNat_cast, lenOk]; omega) (T.nd (by simp only [inK_i64, inB_i, leB_i, ltB_iff, leN_iff, slOk_iff, ble_iff, blt_iff, decide_eq_true_eq, decide_eq_false_iff_not, beq_iff_eq, beq_eq_false_iff_ne, bne_iff_ne, bne_eq_false_iff_eq, Bool.not_eq_true', Bool.not_eq_false', List.length_set, ne_eq, ge_iff_le, gt_iff_lt, setF_len, toNat_cast, lenOk]; omega) (T.nd (by simp only [inK_i64, inB_i, leB_i, ltB_iff, leN_iff, slOk_iff, ble_iff, blt_iff, decide_eq_true_eq, decide_eq_false_iff_not, beq_iff_eq, beq_eq_false_iff_ne, bne_iff_ne, bne_eq_false_iff_eq, Bool.not_eq_true', Bool.not_eq_false', List.length_set, ne_eq, ge_iff_le, gt_iff_lt, setF_len, toNat_cast, lenOk]; omega) (T.nd (by simp only [inK_i64, inB_i, leB_i, ltB_iff, leN_iff, slOk_iff, ble_iff, blt_iff, decide_eq_true_eq, decide_eq_false_iff_not, beq_iff_eq, beq_eq_false_iff_ne, bne_iff_ne, bne_eq_false_iff_eq, Bool.not_eq_true', Bool.not_eq_false', List.length_set, ne_eq, ge_iff_le, gt_iff_lt, setF_len, toNat_cast, lenOk]; omega) (T.a1 (T.nd sl (T.nd (slOk_all _) (T.nf rfl))) (T.a0 (T.nd sl (T.nd (slOk_all _) (T.nd rfl ?_))))))))))
        simp only [qF, iterF, e2]; rfl
      · show some (Sum.inl _) = _
        simp only [qSt]; congr 3; omega
    · exact seqM_out (T.af (by simp only [inK_i64, inB_i, leB_i, ltB_iff, leN_iff, slOk_iff, ble_iff, blt_iff, decide_eq_true_eq, decide_eq_false_iff_not, beq_iff_eq, beq_eq_false_iff_ne, bne_iff_ne, bne_eq_false_iff_eq, Bool.not_eq_true', Bool.not_eq_false', List.length_set, ne_eq, ge_iff_le, gt_iff_lt, setF_len, toNat_cast, lenOk]; omega) rfl)

/-- Do they fit: as the law asks. -/
def fitB (n : Int) (m : Nat) (vs : List (List Nat)) : Nat → Bool
  | 0 => decide (0 ≤ n) && (decide (n ≤ 512) && (decide ((m : Int) = n - 2) || (decide (n < 2) && decide (m = 0))))
  | j + 1 => fitB n m vs j && (((vs.getD j []).length : Int) == n - 1 - j)
theorem fitB_mono {n : Int} {m : Nat} {vs : List (List Nat)} : ∀ {j : Nat}, fitB n m vs j = true → fitB n m vs 0 = true
  | 0, h => h
  | j + 1, h => by simp only [fitB, Bool.and_eq_true] at h; exact fitB_mono h.1
theorem fitB_base {n : Int} {m : Nat} {vs : List (List Nat)} (h : fitB n m vs 0 = true) : 0 ≤ n ∧ n ≤ 512 ∧ ((m : Int) = n - 2 ∨ (n < 2 ∧ m = 0)) := by
  simp only [fitB, Bool.and_eq_true, Bool.or_eq_true, decide_eq_true_eq] at h; exact h
theorem fitB_fits {n : Int} {m : Nat} {vs : List (List Nat)} (h : fitB n m vs m = true) : ∃ k : Nat, n = k ∧ fitsN k m vs := by
  obtain ⟨h1, h2, h3⟩ := fitB_base (fitB_mono h)
  have all : ∀ j, fitB n m vs j = true → ∀ k, k < j → ((vs.getD k []).length : Int) = n - 1 - k := by
    intro j
    induction j with
    | zero => intro _ k hk; omega
    | succ j ih =>
      intro h k hk
      simp only [fitB, Bool.and_eq_true, beq_iff_eq] at h
      by_cases q : k = j
      · subst q; exact h.2
      · exact ih h.1 k (by omega)
  refine ⟨n.toNat, by omega, by omega, by omega, fun k hk => ?_⟩
  have := all m h k hk
  omega
theorem fitB_bad {n : Int} {m : Nat} {vs : List (List Nat)} : ∀ {j : Nat}, fitB n m vs j = false → fitB n m vs 0 = true → ¬ ∀ i, i < j → ((vs.getD i []).length : Int) = n - 1 - i
  | 0, h, q => by rw [h] at q; cases q
  | j + 1, h, q => by
    intro a
    simp only [fitB, Bool.and_eq_false_iff, beq_eq_false_iff_ne] at h
    rcases h with h | h
    · exact fitB_bad h q fun i hi => a i (by omega)
    · exact h (a j (by omega))

theorem tQ_bad {n : Int} {m : Nat} {vs : List (List Nat)} {ts : List Nat} (h : fitB n m vs m = false) (hm : m ≤ 20) (hvs : vs.length = m) (hts : ts.length = m) : tridiag_Q_F n m vs ts = some .r0 := by
  refine toX_of ?_
  by_cases h1 : n < 0
  · exact seqM_in (a := true) (T.at (by simp only [inK_i64, inB_i, leB_i, ltB_iff, leN_iff, slOk_iff, ble_iff, blt_iff, decide_eq_true_eq, decide_eq_false_iff_not, beq_iff_eq, beq_eq_false_iff_ne, bne_iff_ne, bne_eq_false_iff_eq, Bool.not_eq_true', Bool.not_eq_false', List.length_set, ne_eq, ge_iff_le, gt_iff_lt, setF_len, toNat_cast, lenOk]; omega) rfl) (seqM_out (T.at rfl rfl))
  by_cases h2 : 512 < n
  · exact seqM_in (a := true) (T.af (by simp only [inK_i64, inB_i, leB_i, ltB_iff, leN_iff, slOk_iff, ble_iff, blt_iff, decide_eq_true_eq, decide_eq_false_iff_not, beq_iff_eq, beq_eq_false_iff_ne, bne_iff_ne, bne_eq_false_iff_eq, Bool.not_eq_true', Bool.not_eq_false', List.length_set, ne_eq, ge_iff_le, gt_iff_lt, setF_len, toNat_cast, lenOk]; omega) (T.at (by simp only [inK_i64, inB_i, leB_i, ltB_iff, leN_iff, slOk_iff, ble_iff, blt_iff, decide_eq_true_eq, decide_eq_false_iff_not, beq_iff_eq, beq_eq_false_iff_ne, bne_iff_ne, bne_eq_false_iff_eq, Bool.not_eq_true', Bool.not_eq_false', List.length_set, ne_eq, ge_iff_le, gt_iff_lt, setF_len, toNat_cast, lenOk]; omega) rfl)) (seqM_out (T.at rfl rfl))
  by_cases h3 : (m : Int) = imax (n - 2) 0
  · have h0 : fitB n m vs 0 = true := by
      simp only [fitB, Bool.and_eq_true, Bool.or_eq_true, decide_eq_true_eq]
      unfold imax at h3; split at h3 <;> omega
    obtain ⟨k, hk, hb, hf⟩ := first_bad (fitB_bad h h0)
    refine seqM_in (a := false) (T.af (by simp only [inK_i64, inB_i, leB_i, ltB_iff, leN_iff, slOk_iff, ble_iff, blt_iff, decide_eq_true_eq, decide_eq_false_iff_not, beq_iff_eq, beq_eq_false_iff_ne, bne_iff_ne, bne_eq_false_iff_eq, Bool.not_eq_true', Bool.not_eq_false', List.length_set, ne_eq, ge_iff_le, gt_iff_lt, setF_len, toNat_cast, lenOk]; omega) (T.af (by simp only [inK_i64, inB_i, leB_i, ltB_iff, leN_iff, slOk_iff, ble_iff, blt_iff, decide_eq_true_eq, decide_eq_false_iff_not, beq_iff_eq, beq_eq_false_iff_ne, bne_iff_ne, bne_eq_false_iff_eq, Bool.not_eq_true', Bool.not_eq_false', List.length_set, ne_eq, ge_iff_le, gt_iff_lt, setF_len, toNat_cast, lenOk]; omega) (T.nd (by simp only [inK_i64, inB_i, leB_i, ltB_iff, leN_iff, slOk_iff, ble_iff, blt_iff, decide_eq_true_eq, decide_eq_false_iff_not, beq_iff_eq, beq_eq_false_iff_ne, bne_iff_ne, bne_eq_false_iff_eq, Bool.not_eq_true', Bool.not_eq_false', List.length_set, ne_eq, ge_iff_le, gt_iff_lt, setF_len, toNat_cast, lenOk]; omega) ?_))) (seqM_in (a := ()) (T.af rfl rfl) (seqM_out (loopM_at (fun j => j) k rfl (fun j hj => ?_) ?_)))
    · show some (Sum.inl _) = _
      congr 2; simp only [bne_eq_false_iff_eq]; exact h3
    · show (tridiag_Q_t23 _ _ _ _ _).run = _
      have := hf j hj
      unfold tridiag_Q_t23
      refine T.at (by simp only [inK_i64, inB_i, leB_i, ltB_iff, leN_iff, slOk_iff, ble_iff, blt_iff, decide_eq_true_eq, decide_eq_false_iff_not, beq_iff_eq, beq_eq_false_iff_ne, bne_iff_ne, bne_eq_false_iff_eq, Bool.not_eq_true', Bool.not_eq_false', List.length_set, ne_eq, ge_iff_le, gt_iff_lt, setF_len, toNat_cast, lenOk]; omega) ?_
      (refine T.nd (by simp only [inK_i64, inB_i, leB_i, ltB_iff, leN_iff, slOk_iff, ble_iff, blt_iff, decide_eq_true_eq, decide_eq_false_iff_not, beq_iff_eq, beq_eq_false_iff_ne, bne_iff_ne, bne_eq_false_iff_eq, Bool.not_eq_true', Bool.not_eq_false', List.length_set, ne_eq, ge_iff_le, gt_iff_lt, setF_len, toNat_cast, lenOk]; omega) ?_; refine T.nd (by simp only [inK_i64, inB_i, leB_i, ltB_iff, leN_iff, slOk_iff, ble_iff, blt_iff, decide_eq_true_eq, decide_eq_false_iff_not, beq_iff_eq, beq_eq_false_iff_ne, bne_iff_ne, bne_eq_false_iff_eq, Bool.not_eq_true', Bool.not_eq_false', List.length_set, ne_eq, ge_iff_le, gt_iff_lt, setF_len, toNat_cast, lenOk]; omega) ?_; refine T.nd (by simp only [inK_i64, inB_i, leB_i, ltB_iff, leN_iff, slOk_iff, ble_iff, blt_iff, decide_eq_true_eq, decide_eq_false_iff_not, beq_iff_eq, beq_eq_false_iff_ne, bne_iff_ne, bne_eq_false_iff_eq, Bool.not_eq_true', Bool.not_eq_false', List.length_set, ne_eq, ge_iff_le, gt_iff_lt, setF_len, toNat_cast, lenOk]; omega) ?_; refine T.nd (by simp only [inK_i64, inB_i, leB_i, ltB_iff, leN_iff, slOk_iff, ble_iff, blt_iff, decide_eq_true_eq, decide_eq_false_iff_not, beq_iff_eq, beq_eq_false_iff_ne, bne_iff_ne, bne_eq_false_iff_eq, Bool.not_eq_true', Bool.not_eq_false', List.length_set, ne_eq, ge_iff_le, gt_iff_lt, setF_len, toNat_cast, lenOk]; omega) ?_; refine T.nd (by simp only [inK_i64, inB_i, leB_i, ltB_iff, leN_iff, slOk_iff, ble_iff, blt_iff, decide_eq_true_eq, decide_eq_false_iff_not, beq_iff_eq, beq_eq_false_iff_ne, bne_iff_ne, bne_eq_false_iff_eq, Bool.not_eq_true', Bool.not_eq_false', List.length_set, ne_eq, ge_iff_le, gt_iff_lt, setF_len, toNat_cast, lenOk]; omega) ?_)
      exact T.af (by simp only [inK_i64, inB_i, leB_i, ltB_iff, leN_iff, slOk_iff, ble_iff, blt_iff, decide_eq_true_eq, decide_eq_false_iff_not, beq_iff_eq, beq_eq_false_iff_ne, bne_iff_ne, bne_eq_false_iff_eq, Bool.not_eq_true', Bool.not_eq_false', List.length_set, ne_eq, ge_iff_le, gt_iff_lt, setF_len, toNat_cast, lenOk]; omega) (T.nd (by simp only [inK_i64, inB_i, leB_i, ltB_iff, leN_iff, slOk_iff, ble_iff, blt_iff, decide_eq_true_eq, decide_eq_false_iff_not, beq_iff_eq, beq_eq_false_iff_ne, bne_iff_ne, bne_eq_false_iff_eq, Bool.not_eq_true', Bool.not_eq_false', List.length_set, ne_eq, ge_iff_le, gt_iff_lt, setF_len, toNat_cast, lenOk]; omega) rfl)
    · show (tridiag_Q_t23 _ _ _ _ _).run = _
      unfold tridiag_Q_t23
      refine T.at (by simp only [inK_i64, inB_i, leB_i, ltB_iff, leN_iff, slOk_iff, ble_iff, blt_iff, decide_eq_true_eq, decide_eq_false_iff_not, beq_iff_eq, beq_eq_false_iff_ne, bne_iff_ne, bne_eq_false_iff_eq, Bool.not_eq_true', Bool.not_eq_false', List.length_set, ne_eq, ge_iff_le, gt_iff_lt, setF_len, toNat_cast, lenOk]; omega) ?_
      (refine T.nd (by simp only [inK_i64, inB_i, leB_i, ltB_iff, leN_iff, slOk_iff, ble_iff, blt_iff, decide_eq_true_eq, decide_eq_false_iff_not, beq_iff_eq, beq_eq_false_iff_ne, bne_iff_ne, bne_eq_false_iff_eq, Bool.not_eq_true', Bool.not_eq_false', List.length_set, ne_eq, ge_iff_le, gt_iff_lt, setF_len, toNat_cast, lenOk]; omega) ?_; refine T.nd (by simp only [inK_i64, inB_i, leB_i, ltB_iff, leN_iff, slOk_iff, ble_iff, blt_iff, decide_eq_true_eq, decide_eq_false_iff_not, beq_iff_eq, beq_eq_false_iff_ne, bne_iff_ne, bne_eq_false_iff_eq, Bool.not_eq_true', Bool.not_eq_false', List.length_set, ne_eq, ge_iff_le, gt_iff_lt, setF_len, toNat_cast, lenOk]; omega) ?_; refine T.nd (by simp only [inK_i64, inB_i, leB_i, ltB_iff, leN_iff, slOk_iff, ble_iff, blt_iff, decide_eq_true_eq, decide_eq_false_iff_not, beq_iff_eq, beq_eq_false_iff_ne, bne_iff_ne, bne_eq_false_iff_eq, Bool.not_eq_true', Bool.not_eq_false', List.length_set, ne_eq, ge_iff_le, gt_iff_lt, setF_len, toNat_cast, lenOk]; omega) ?_; refine T.nd (by simp only [inK_i64, inB_i, leB_i, ltB_iff, leN_iff, slOk_iff, ble_iff, blt_iff, decide_eq_true_eq, decide_eq_false_iff_not, beq_iff_eq, beq_eq_false_iff_ne, bne_iff_ne, bne_eq_false_iff_eq, Bool.not_eq_true', Bool.not_eq_false', List.length_set, ne_eq, ge_iff_le, gt_iff_lt, setF_len, toNat_cast, lenOk]; omega) ?_; refine T.nd (by simp only [inK_i64, inB_i, leB_i, ltB_iff, leN_iff, slOk_iff, ble_iff, blt_iff, decide_eq_true_eq, decide_eq_false_iff_not, beq_iff_eq, beq_eq_false_iff_ne, bne_iff_ne, bne_eq_false_iff_eq, Bool.not_eq_true', Bool.not_eq_false', List.length_set, ne_eq, ge_iff_le, gt_iff_lt, setF_len, toNat_cast, lenOk]; omega) ?_)
      exact T.at (by simp only [inK_i64, inB_i, leB_i, ltB_iff, leN_iff, slOk_iff, ble_iff, blt_iff, decide_eq_true_eq, decide_eq_false_iff_not, beq_iff_eq, beq_eq_false_iff_ne, bne_iff_ne, bne_eq_false_iff_eq, Bool.not_eq_true', Bool.not_eq_false', List.length_set, ne_eq, ge_iff_le, gt_iff_lt, setF_len, toNat_cast, lenOk]; omega) rfl
  · refine seqM_in (a := true) (T.af (by simp only [inK_i64, inB_i, leB_i, ltB_iff, leN_iff, slOk_iff, ble_iff, blt_iff, decide_eq_true_eq, decide_eq_false_iff_not, beq_iff_eq, beq_eq_false_iff_ne, bne_iff_ne, bne_eq_false_iff_eq, Bool.not_eq_true', Bool.not_eq_false', List.length_set, ne_eq, ge_iff_le, gt_iff_lt, setF_len, toNat_cast, lenOk]; omega) (T.af (by simp only [inK_i64, inB_i, leB_i, ltB_iff, leN_iff, slOk_iff, ble_iff, blt_iff, decide_eq_true_eq, decide_eq_false_iff_not, beq_iff_eq, beq_eq_false_iff_ne, bne_iff_ne, bne_eq_false_iff_eq, Bool.not_eq_true', Bool.not_eq_false', List.length_set, ne_eq, ge_iff_le, gt_iff_lt, setF_len, toNat_cast, lenOk]; omega) (T.nd (by simp only [inK_i64, inB_i, leB_i, ltB_iff, leN_iff, slOk_iff, ble_iff, blt_iff, decide_eq_true_eq, decide_eq_false_iff_not, beq_iff_eq, beq_eq_false_iff_ne, bne_iff_ne, bne_eq_false_iff_eq, Bool.not_eq_true', Bool.not_eq_false', List.length_set, ne_eq, ge_iff_le, gt_iff_lt, setF_len, toNat_cast, lenOk]; omega) ?_))) (seqM_out (T.at rfl rfl))
    show some (Sum.inl _) = _
    congr 2; simp only [bne_iff_ne]; exact h3

theorem Turns_loop {n : Int} {m : Nat} {vs : List (List Nat)} (hm : m ≤ 20) (hvs : vs.length = m) {k : Nat} (hk : k ≤ m) (h : ∀ j, j < k → (vs.getD j []).length ≤ 20) : ∀ j, j < k → law10_TridiagTurns_m20 n m vs (fitB n m vs j, j) = some (.inl (fitB n m vs (j + 1), j + 1)) := by
  intro j hj
  show seqM (law10_TridiagTurns_t18 _ _ _ _ _).run _ = _
  have := h j hj
  refine seqM_in (a := fitB n m vs (j + 1)) ?_ (T.nd (by simp only [inK_i64, inB_i, leB_i, ltB_iff, leN_iff, slOk_iff, ble_iff, blt_iff, decide_eq_true_eq, decide_eq_false_iff_not, beq_iff_eq, beq_eq_false_iff_ne, bne_iff_ne, bne_eq_false_iff_eq, Bool.not_eq_true', Bool.not_eq_false', List.length_set, ne_eq, ge_iff_le, gt_iff_lt, setF_len, toNat_cast, lenOk]; omega) rfl)
  unfold law10_TridiagTurns_t18
  refine T.at (by simp only [inK_i64, inB_i, leB_i, ltB_iff, leN_iff, slOk_iff, ble_iff, blt_iff, decide_eq_true_eq, decide_eq_false_iff_not, beq_iff_eq, beq_eq_false_iff_ne, bne_iff_ne, bne_eq_false_iff_eq, Bool.not_eq_true', Bool.not_eq_false', List.length_set, ne_eq, ge_iff_le, gt_iff_lt, setF_len, toNat_cast, lenOk]; omega) (T.nd (by simp only [inK_i64, inB_i, leB_i, ltB_iff, leN_iff, slOk_iff, ble_iff, blt_iff, decide_eq_true_eq, decide_eq_false_iff_not, beq_iff_eq, beq_eq_false_iff_ne, bne_iff_ne, bne_eq_false_iff_eq, Bool.not_eq_true', Bool.not_eq_false', List.length_set, ne_eq, ge_iff_le, gt_iff_lt, setF_len, toNat_cast, lenOk]; omega) (T.nd (by simp only [inK_i64, inB_i, leB_i, ltB_iff, leN_iff, slOk_iff, ble_iff, blt_iff, decide_eq_true_eq, decide_eq_false_iff_not, beq_iff_eq, beq_eq_false_iff_ne, bne_iff_ne, bne_eq_false_iff_eq, Bool.not_eq_true', Bool.not_eq_false', List.length_set, ne_eq, ge_iff_le, gt_iff_lt, setF_len, toNat_cast, lenOk]; omega) (T.af (by simp only [inK_i64, inB_i, leB_i, ltB_iff, leN_iff, slOk_iff, ble_iff, blt_iff, decide_eq_true_eq, decide_eq_false_iff_not, beq_iff_eq, beq_eq_false_iff_ne, bne_iff_ne, bne_eq_false_iff_eq, Bool.not_eq_true', Bool.not_eq_false', List.length_set, ne_eq, ge_iff_le, gt_iff_lt, setF_len, toNat_cast, lenOk]; omega) ?_)))
  cases q : fitB n m vs j with
  | false => refine T.af rfl ?_; simp only [fitB, q]; rfl
  | true =>
    have := fitB_base (fitB_mono q)
    refine T.at rfl ?_
    (repeat (refine T.nd (by simp only [inK_i64, inB_i, leB_i, ltB_iff, leN_iff, slOk_iff, ble_iff, blt_iff, decide_eq_true_eq, decide_eq_false_iff_not, beq_iff_eq, beq_eq_false_iff_ne, bne_iff_ne, bne_eq_false_iff_eq, Bool.not_eq_true', Bool.not_eq_false', List.length_set, ne_eq, ge_iff_le, gt_iff_lt, setF_len, toNat_cast, lenOk]; omega) ?_))
    show some (Sum.inl _) = _
    simp only [fitB, q, Bool.true_and]

theorem TridiagTurns_law (n : Int) (vs : List (List Nat)) (ts : List Nat) (hts : ts.length = vs.length) : law10_TridiagTurns_F n vs.length vs ts = some (.r0 true) := by
  generalize hm : vs.length = m at *
  refine toX_of ?_
  have t14 : (law10_TridiagTurns_t14 n m).run = some (.inl ((decide (14 < n) && decide (n ≤ 512)) || decide (20 < m))) := by
    unfold law10_TridiagTurns_t14
    by_cases h1 : 14 < n
    · refine T.at (by simp only [inK_i64, inB_i, leB_i, ltB_iff, leN_iff, slOk_iff, ble_iff, blt_iff, decide_eq_true_eq, decide_eq_false_iff_not, beq_iff_eq, beq_eq_false_iff_ne, bne_iff_ne, bne_eq_false_iff_eq, Bool.not_eq_true', Bool.not_eq_false', List.length_set, ne_eq, ge_iff_le, gt_iff_lt, setF_len, toNat_cast, lenOk]; omega) ?_
      by_cases h2 : n ≤ 512
      · refine T.at (by simp only [inK_i64, inB_i, leB_i, ltB_iff, leN_iff, slOk_iff, ble_iff, blt_iff, decide_eq_true_eq, decide_eq_false_iff_not, beq_iff_eq, beq_eq_false_iff_ne, bne_iff_ne, bne_eq_false_iff_eq, Bool.not_eq_true', Bool.not_eq_false', List.length_set, ne_eq, ge_iff_le, gt_iff_lt, setF_len, toNat_cast, lenOk]; omega) ?_
        simp only [h1, h2, decide_true, Bool.true_and, Bool.true_or]; rfl
      · refine T.af (by simp only [inK_i64, inB_i, leB_i, ltB_iff, leN_iff, slOk_iff, ble_iff, blt_iff, decide_eq_true_eq, decide_eq_false_iff_not, beq_iff_eq, beq_eq_false_iff_ne, bne_iff_ne, bne_eq_false_iff_eq, Bool.not_eq_true', Bool.not_eq_false', List.length_set, ne_eq, ge_iff_le, gt_iff_lt, setF_len, toNat_cast, lenOk]; omega) ?_
        show some (Sum.inl _) = _
        simp only [h1, h2, decide_true, decide_false, Bool.true_and, Bool.false_or]
        congr 2; rw [Bool.eq_iff_iff]; simp only [decide_eq_true_eq]; omega
    · refine T.af (by simp only [inK_i64, inB_i, leB_i, ltB_iff, leN_iff, slOk_iff, ble_iff, blt_iff, decide_eq_true_eq, decide_eq_false_iff_not, beq_iff_eq, beq_eq_false_iff_ne, bne_iff_ne, bne_eq_false_iff_eq, Bool.not_eq_true', Bool.not_eq_false', List.length_set, ne_eq, ge_iff_le, gt_iff_lt, setF_len, toNat_cast, lenOk]; omega) ?_
      show some (Sum.inl _) = _
      simp only [h1, decide_false, Bool.false_and, Bool.false_or]
      congr 2; rw [Bool.eq_iff_iff]; simp only [decide_eq_true_eq]; omega
  cases hk : ((decide (14 < n) && decide (n ≤ 512)) || decide (20 < m)) with
  | true => exact seqM_in (a := true) (by rw [t14, hk]) (seqM_out (T.at rfl rfl))
  | false =>
  have hm20 : m ≤ 20 := by
    simp only [Bool.or_eq_false_iff, decide_eq_false_iff_not] at hk; omega
  refine seqM_in (a := false) (by rw [t14, hk]) (seqM_in (a := fitB n m vs 0) ?_ (seqM_in (a := ()) rfl ?_))
  · unfold law10_TridiagTurns_t15 fitB
    refine T.af rfl ?_
    by_cases h1 : 0 ≤ n
    · refine T.at (by simp only [inK_i64, inB_i, leB_i, ltB_iff, leN_iff, slOk_iff, ble_iff, blt_iff, decide_eq_true_eq, decide_eq_false_iff_not, beq_iff_eq, beq_eq_false_iff_ne, bne_iff_ne, bne_eq_false_iff_eq, Bool.not_eq_true', Bool.not_eq_false', List.length_set, ne_eq, ge_iff_le, gt_iff_lt, setF_len, toNat_cast, lenOk]; omega) ?_
      by_cases h2 : n ≤ 512
      · refine T.at (by simp only [inK_i64, inB_i, leB_i, ltB_iff, leN_iff, slOk_iff, ble_iff, blt_iff, decide_eq_true_eq, decide_eq_false_iff_not, beq_iff_eq, beq_eq_false_iff_ne, bne_iff_ne, bne_eq_false_iff_eq, Bool.not_eq_true', Bool.not_eq_false', List.length_set, ne_eq, ge_iff_le, gt_iff_lt, setF_len, toNat_cast, lenOk]; omega) (T.nd (by simp only [inK_i64, inB_i, leB_i, ltB_iff, leN_iff, slOk_iff, ble_iff, blt_iff, decide_eq_true_eq, decide_eq_false_iff_not, beq_iff_eq, beq_eq_false_iff_ne, bne_iff_ne, bne_eq_false_iff_eq, Bool.not_eq_true', Bool.not_eq_false', List.length_set, ne_eq, ge_iff_le, gt_iff_lt, setF_len, toNat_cast, lenOk]; omega) ?_)
        by_cases h3 : (m : Int) = n - 2
        · refine T.at (by simp only [inK_i64, inB_i, leB_i, ltB_iff, leN_iff, slOk_iff, ble_iff, blt_iff, decide_eq_true_eq, decide_eq_false_iff_not, beq_iff_eq, beq_eq_false_iff_ne, bne_iff_ne, bne_eq_false_iff_eq, Bool.not_eq_true', Bool.not_eq_false', List.length_set, ne_eq, ge_iff_le, gt_iff_lt, setF_len, toNat_cast, lenOk]; omega) ?_
          simp only [h1, h2, h3, decide_true, Bool.true_and, Bool.true_or]; rfl
        · refine T.af (by simp only [inK_i64, inB_i, leB_i, ltB_iff, leN_iff, slOk_iff, ble_iff, blt_iff, decide_eq_true_eq, decide_eq_false_iff_not, beq_iff_eq, beq_eq_false_iff_ne, bne_iff_ne, bne_eq_false_iff_eq, Bool.not_eq_true', Bool.not_eq_false', List.length_set, ne_eq, ge_iff_le, gt_iff_lt, setF_len, toNat_cast, lenOk]; omega) ?_
          by_cases h4 : n < 2
          · refine T.at (by simp only [inK_i64, inB_i, leB_i, ltB_iff, leN_iff, slOk_iff, ble_iff, blt_iff, decide_eq_true_eq, decide_eq_false_iff_not, beq_iff_eq, beq_eq_false_iff_ne, bne_iff_ne, bne_eq_false_iff_eq, Bool.not_eq_true', Bool.not_eq_false', List.length_set, ne_eq, ge_iff_le, gt_iff_lt, setF_len, toNat_cast, lenOk]; omega) ?_
            show some (Sum.inl _) = _
            simp only [h1, h2, h3, h4, decide_true, decide_false, Bool.true_and, Bool.false_or]
            congr 2; rw [Bool.eq_iff_iff]; simp only [decide_eq_true_eq, beq_iff_eq]; omega
          · refine T.af (by simp only [inK_i64, inB_i, leB_i, ltB_iff, leN_iff, slOk_iff, ble_iff, blt_iff, decide_eq_true_eq, decide_eq_false_iff_not, beq_iff_eq, beq_eq_false_iff_ne, bne_iff_ne, bne_eq_false_iff_eq, Bool.not_eq_true', Bool.not_eq_false', List.length_set, ne_eq, ge_iff_le, gt_iff_lt, setF_len, toNat_cast, lenOk]; omega) ?_
            simp only [h1, h2, h3, h4, decide_true, decide_false, Bool.true_and, Bool.false_or, Bool.false_and]; rfl
      · refine T.af (by simp only [inK_i64, inB_i, leB_i, ltB_iff, leN_iff, slOk_iff, ble_iff, blt_iff, decide_eq_true_eq, decide_eq_false_iff_not, beq_iff_eq, beq_eq_false_iff_ne, bne_iff_ne, bne_eq_false_iff_eq, Bool.not_eq_true', Bool.not_eq_false', List.length_set, ne_eq, ge_iff_le, gt_iff_lt, setF_len, toNat_cast, lenOk]; omega) ?_
        simp only [h1, h2, decide_true, decide_false, Bool.true_and, Bool.false_and]; rfl
    · refine T.af (by simp only [inK_i64, inB_i, leB_i, ltB_iff, leN_iff, slOk_iff, ble_iff, blt_iff, decide_eq_true_eq, decide_eq_false_iff_not, beq_iff_eq, beq_eq_false_iff_ne, bne_iff_ne, bne_eq_false_iff_eq, Bool.not_eq_true', Bool.not_eq_false', List.length_set, ne_eq, ge_iff_le, gt_iff_lt, setF_len, toNat_cast, lenOk]; omega) ?_
      simp only [h1, decide_false, Bool.false_and]; rfl
  · by_cases hv : ∀ k, k < m → (vs.getD k []).length ≤ 20
    · refine seqM_in (loopM_at (fun j => (fitB n m vs j, j)) m rfl (Turns_loop hm20 hm (Nat.le_refl _) hv) (seqM_out (T.af (by simp only [inK_i64, inB_i, leB_i, ltB_iff, leN_iff, slOk_iff, ble_iff, blt_iff, decide_eq_true_eq, decide_eq_false_iff_not, beq_iff_eq, beq_eq_false_iff_ne, bne_iff_ne, bne_eq_false_iff_eq, Bool.not_eq_true', Bool.not_eq_false', List.length_set, ne_eq, ge_iff_le, gt_iff_lt, setF_len, toNat_cast, lenOk]; omega) rfl))) ?_
      cases hf : fitB n m vs m with
      | false =>
        refine seqM_in (a := (2, 0, 0, 0, 0, [])) ?_ (seqM_out ?_)
        · unfold law10_TridiagTurns_t21
          rw [cutL_to hm, cutL_to hts, tQ_bad hf hm20 hm hts]
          exact T.a0 (T.nd (cut_ok m) (T.nd rfl rfl))
        · unfold law10_TridiagTurns_t22
          refine T.at rfl (T.at rfl (T.nd rfl ?_))
          rw [cutL_to (l := ([] : List Nat)) (n := 0) rfl, Same_spec (xs := []) (by decide)]
          exact T.nd rfl (T.at rfl rfl)
      | true =>
        obtain ⟨k, rfl, hN⟩ := fitB_fits hf
        have hql := qF_len (vs := vs) (ts := ts) (n := k) (m := m) (j := m)
        have hs := sq_bd hN.1
        refine seqM_in (a := (0, (k : Int), (k : Int), k * k, k * k, qF vs ts k m m)) ?_ (seqM_in (a := ()) (T.af rfl rfl) (seqM_in (a := true) ?_ rfl))
        · unfold law10_TridiagTurns_t21
          rw [cutL_to hm, cutL_to hts, tQ_spec hN hm hts]
          exact T.a1 (T.nd (cut_ok m) (T.nf rfl)) (T.a0 (T.nd (cut_ok m) (T.nd rfl rfl)))
        · unfold law10_TridiagTurns_t23
          rw [cutL_to hm, cutL_to hts, rQ_spec hN hm hts]
          simp only [ref10_Q_p0_0, ref10_Q_p0_1, ref10_Q_p0_2, ref10_Q_p0_4]
          rw [cutL_to hql, Same_spec (by omega)]
          have sl : slOk 0 (k * k) (qF vs ts k m m) = true := by rw [← hql]; exact slOk_all _
          exact T.at rfl (T.nd (cut_ok m) (T.nd rfl (T.nd sl (T.nd sl (T.nd rfl (T.at rfl rfl))))))
    · obtain ⟨k, hk, hb, hf⟩ := first_bad hv
      refine seqM_out (loopM_at (fun j => (fitB n m vs j, j)) k rfl (Turns_loop hm20 hm (by omega) hf) (seqM_out ?_))
      unfold law10_TridiagTurns_t18
      exact T.at (by simp only [inK_i64, inB_i, leB_i, ltB_iff, leN_iff, slOk_iff, ble_iff, blt_iff, decide_eq_true_eq, decide_eq_false_iff_not, beq_iff_eq, beq_eq_false_iff_ne, bne_iff_ne, bne_eq_false_iff_eq, Bool.not_eq_true', Bool.not_eq_false', List.length_set, ne_eq, ge_iff_le, gt_iff_lt, setF_len, toNat_cast, lenOk]; omega) (T.nd (by simp only [inK_i64, inB_i, leB_i, ltB_iff, leN_iff, slOk_iff, ble_iff, blt_iff, decide_eq_true_eq, decide_eq_false_iff_not, beq_iff_eq, beq_eq_false_iff_ne, bne_iff_ne, bne_eq_false_iff_eq, Bool.not_eq_true', Bool.not_eq_false', List.length_set, ne_eq, ge_iff_le, gt_iff_lt, setF_len, toNat_cast, lenOk]; omega) (T.nd (by simp only [inK_i64, inB_i, leB_i, ltB_iff, leN_iff, slOk_iff, ble_iff, blt_iff, decide_eq_true_eq, decide_eq_false_iff_not, beq_iff_eq, beq_eq_false_iff_ne, bne_iff_ne, bne_eq_false_iff_eq, Bool.not_eq_true', Bool.not_eq_false', List.length_set, ne_eq, ge_iff_le, gt_iff_lt, setF_len, toNat_cast, lenOk]; omega) (T.at (by simp only [inK_i64, inB_i, leB_i, ltB_iff, leN_iff, slOk_iff, ble_iff, blt_iff, decide_eq_true_eq, decide_eq_false_iff_not, beq_iff_eq, beq_eq_false_iff_ne, bne_iff_ne, bne_eq_false_iff_eq, Bool.not_eq_true', Bool.not_eq_false', List.length_set, ne_eq, ge_iff_le, gt_iff_lt, setF_len, toNat_cast, lenOk]; omega) rfl)))
end Go.Plb.Seat
