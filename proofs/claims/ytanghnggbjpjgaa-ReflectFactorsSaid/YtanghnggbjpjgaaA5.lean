/-
  Part 5 of what the claim leans on: an evaluator of the model, proved sound; the contracts of the functions.
-/
import Derived.Test.YtanghnggbjpjgaaA4
/-
  PLAIN: ReflectTurns.
-/
namespace Go.Plb.Seat
open Go Go.Plb
set_option linter.unusedSimpArgs false
set_option linter.unusedVariables false

theorem may_true {a b : Int} {n : Nat} (h : mayB a b n = true) : 0 ≤ a ∧ a ≤ 512 ∧ 0 ≤ b ∧ b ≤ 512 ∧ (n : Int) = a * b := by
  unfold mayB at h
  simp only [Bool.and_eq_true, decide_eq_true_eq, beq_iff_eq] at h
  exact h

/-- What is told ahead of sizes. -/
def bad1 (a b : Int) (xs vs : List Nat) (at_ frm : Int) : Bool := !mayB a b xs.length || ((vs.length : Int) == 0 || (decide (at_ < 0) || decide (frm < 0)))
def bad2 (vs : List Nat) (at_ frm rows others : Int) : Bool := decide (at_ > rows - vs.length) || decide (frm > others)
def errF (a b : Int) (xs vs : List Nat) (at_ frm rows others : Int) : Nat := bif bad1 a b xs vs at_ frm then 2 else bif bad2 vs at_ frm rows others then 8 else 0

theorem run_or {α X : Type} {b c : Bool} {x : α ⊕ X} {g : Bool → α ⊕ X} {f : T (α ⊕ X)} (h1 : b = true → x = g (b || c)) (h2 : b = false → f.run = some (g (b || c))) : (T.ask b (.leaf x) f).run = some (g (b || c)) := by
  cases b with
  | true => rw [← h1 rfl]; rfl
  | false => exact h2 rfl

theorem Left_g1 (a b : Int) (xs vs : List Nat) (at_ frm : Int) : (reflect_Left_t27 a b xs at_ frm vs).run = some (.inl (bad1 a b xs vs at_ frm)) := by
  unfold reflect_Left_t27 bad1
  rw [cutL_all, may_spec]
  refine T.nd (slOk_all xs) (T.nd rfl ?_)
  refine run_or (g := .inl) (fun h => by rw [h]; rfl) (fun h => ?_)
  rw [h, Bool.false_or]
  refine run_or (g := .inl) (fun h => by rw [h]; rfl) (fun h => ?_)
  rw [h, Bool.false_or]
  exact run_or (g := .inl) (fun h => by rw [h]; rfl) (fun h => by rw [h, Bool.false_or]; rfl)
theorem Right_g1 (a b : Int) (xs vs : List Nat) (at_ frm : Int) : (reflect_Right_t27 a b xs at_ frm vs).run = some (.inl (bad1 a b xs vs at_ frm)) := by
  unfold reflect_Right_t27 bad1
  rw [cutL_all, may_spec]
  refine T.nd (slOk_all xs) (T.nd rfl ?_)
  refine run_or (g := .inl) (fun h => by rw [h]; rfl) (fun h => ?_)
  rw [h, Bool.false_or]
  refine run_or (g := .inl) (fun h => by rw [h]; rfl) (fun h => ?_)
  rw [h, Bool.false_or]
  exact run_or (g := .inl) (fun h => by rw [h]; rfl) (fun h => by rw [h, Bool.false_or]; rfl)
theorem fits_g1 (a b : Int) (xs vs : List Nat) (at_ frm : Int) : (law09_fits_t4 a b xs at_ frm vs).run = some (.inl (bad1 a b xs vs at_ frm)) := by
  unfold law09_fits_t4 bad1
  rw [cutL_all, May_spec]
  refine T.nd (slOk_all xs) (T.nd rfl ?_)
  refine run_or (g := .inl) (fun h => by rw [h]; rfl) (fun h => ?_)
  rw [h, Bool.false_or]
  refine run_or (g := .inl) (fun h => by rw [h]; rfl) (fun h => ?_)
  rw [h, Bool.false_or]
  exact run_or (g := .inl) (fun h => by rw [h]; rfl) (fun h => by rw [h, Bool.false_or]; rfl)

theorem bad1_f {a b : Int} {xs vs : List Nat} {at_ frm : Int} (h : bad1 a b xs vs at_ frm = false) : mayB a b xs.length = true ∧ 0 < vs.length ∧ 0 ≤ at_ ∧ 0 ≤ frm := by
  unfold bad1 at h
  simp only [Bool.or_eq_false_iff, Bool.not_eq_false', decide_eq_false_iff_not, beq_eq_false_iff_ne, ne_eq] at h
  exact ⟨h.1, by omega, by omega, by omega⟩

theorem fits_spec {a b : Int} {xs vs : List Nat} {at_ frm rows others : Int} (hv : vs.length ≤ 1000000000) (hr : mayB a b xs.length = true → 0 ≤ rows ∧ rows ≤ 512) :
    law09_fits_F a b xs at_ frm vs rows others = some (.r0 (errF a b xs vs at_ frm rows others)) := by
  refine toX_of (seqM_in (fits_g1 a b xs vs at_ frm) ?_)
  unfold errF
  cases h : bad1 a b xs vs at_ frm with
  | true => exact seqM_out rfl
  | false =>
    obtain ⟨h1, h2, h3, h4⟩ := bad1_f h
    obtain ⟨h5, h6⟩ := hr h1
    refine seqM_in (a := bad2 vs at_ frm rows others) ?_ ?_
    · unfold law09_fits_t5 bad2
      exact T.af rfl (T.nd (by simp only [inK_i64, inB_i, leB_i, ltB_iff, leN_iff, slOk_iff, ble_iff, blt_iff, decide_eq_true_eq, decide_eq_false_iff_not, beq_iff_eq, beq_eq_false_iff_ne, bne_iff_ne, bne_eq_false_iff_eq, Bool.not_eq_true', Bool.not_eq_false', List.length_set, ne_eq, ge_iff_le, gt_iff_lt, setF_len, toNat_cast, lenOk]; omega) (run_or (g := .inl) (fun h => by rw [h]; rfl) (fun h => by rw [h, Bool.false_or]; rfl)))
    · cases bad2 vs at_ frm rows others <;> rfl

theorem Left_err {a b : Int} {xs vs : List Nat} {at_ frm : Int} {tau : Nat} (hv : vs.length ≤ 1000000000) (he : errF a b xs vs at_ frm a b ≠ 0) : reflect_Left_F a b xs at_ frm vs tau = some (.r0 (errF a b xs vs at_ frm a b)) := by
  refine toX_of (seqM_in (Left_g1 a b xs vs at_ frm) ?_)
  unfold errF at he ⊢
  cases h : bad1 a b xs vs at_ frm with
  | true => exact seqM_out rfl
  | false =>
    obtain ⟨h1, h2, h3, h4⟩ := bad1_f h
    obtain ⟨h5, h6, _⟩ := may_true h1
    refine seqM_in (a := bad2 vs at_ frm a b) ?_ ?_
    · unfold reflect_Left_t28 bad2
      exact T.af rfl (T.nd (by simp only [inK_i64, inB_i, leB_i, ltB_iff, leN_iff, slOk_iff, ble_iff, blt_iff, decide_eq_true_eq, decide_eq_false_iff_not, beq_iff_eq, beq_eq_false_iff_ne, bne_iff_ne, bne_eq_false_iff_eq, Bool.not_eq_true', Bool.not_eq_false', List.length_set, ne_eq, ge_iff_le, gt_iff_lt, setF_len, toNat_cast, lenOk]; omega) (run_or (g := .inl) (fun h => by rw [h]; rfl) (fun h => by rw [h, Bool.false_or]; rfl)))
    · rw [h] at he
      cases h2 : bad2 vs at_ frm a b with
      | true => exact seqM_out rfl
      | false => rw [h2] at he; exact (he rfl).elim
theorem Right_err {a b : Int} {xs vs : List Nat} {at_ frm : Int} {tau : Nat} (hv : vs.length ≤ 1000000000) (he : errF a b xs vs at_ frm b a ≠ 0) : reflect_Right_F a b xs at_ frm vs tau = some (.r0 (errF a b xs vs at_ frm b a)) := by
  refine toX_of (seqM_in (Right_g1 a b xs vs at_ frm) ?_)
  unfold errF at he ⊢
  cases h : bad1 a b xs vs at_ frm with
  | true => exact seqM_out rfl
  | false =>
    obtain ⟨h1, h2, h3, h4⟩ := bad1_f h
    obtain ⟨_, _, h5, h6, _⟩ := may_true h1
    refine seqM_in (a := bad2 vs at_ frm b a) ?_ ?_
    · unfold reflect_Right_t28 bad2
      exact T.af rfl (T.nd (by simp only [inK_i64, inB_i, leB_i, ltB_iff, leN_iff, slOk_iff, ble_iff, blt_iff, decide_eq_true_eq, decide_eq_false_iff_not, beq_iff_eq, beq_eq_false_iff_ne, bne_iff_ne, bne_eq_false_iff_eq, Bool.not_eq_true', Bool.not_eq_false', List.length_set, ne_eq, ge_iff_le, gt_iff_lt, setF_len, toNat_cast, lenOk]; omega) (run_or (g := .inl) (fun h => by rw [h]; rfl) (fun h => by rw [h, Bool.false_or]; rfl)))
    · rw [h] at he
      cases h2 : bad2 vs at_ frm b a with
      | true => exact seqM_out rfl
      | false => rw [h2] at he; exact (he rfl).elim

theorem err_0 {a b : Int} {xs vs : List Nat} {at_ frm rows others : Int} (h : errF a b xs vs at_ frm rows others = 0) : bad1 a b xs vs at_ frm = false ∧ at_ ≤ rows - vs.length ∧ frm ≤ others := by
  unfold errF at h
  cases h1 : bad1 a b xs vs at_ frm with
  | true => rw [h1] at h; cases h
  | false =>
    rw [h1] at h
    cases h2 : bad2 vs at_ frm rows others with
    | true => rw [h2] at h; cases h
    | false =>
      unfold bad2 at h2
      simp only [Bool.or_eq_false_iff, decide_eq_false_iff_not] at h2
      exact ⟨rfl, by omega, by omega⟩

theorem nat_of {a : Int} (h : 0 ≤ a) : ∃ n : Nat, a = (n : Int) := ⟨a.toNat, by omega⟩

/-- Where all fits, the program's rows are the document's. -/
theorem Left_both {a b : Int} {xs vs : List Nat} {at_ frm : Int} {tau : Nat} (he : errF a b xs vs at_ frm a b = 0) :
    ∃ l : List Nat, l.length = xs.length ∧ reflect_Left_F a b xs at_ frm vs tau = some (.r1 a b xs.length l) ∧ ref09_Left_F a b xs at_ frm vs tau = some (.r0 a b xs.length l) := by
  obtain ⟨h1, h2, h3⟩ := err_0 he
  obtain ⟨h4, h5, h6, h7⟩ := bad1_f h1
  obtain ⟨m1, m2, m3, m4, m5⟩ := may_true h4
  obtain ⟨r, rfl⟩ := nat_of m1
  obtain ⟨c, rfl⟩ := nat_of m3
  obtain ⟨p, rfl⟩ := nat_of h6
  obtain ⟨f, rfl⟩ := nat_of h7
  have hx : xs.length = r * c := by rw [← Int.natCast_mul] at m5; omega
  exact ⟨_, rflF_len, Left_spec hx (by omega) (by omega) h5 (by omega) (by omega), Left9_spec hx (by omega) (by omega) (by omega) (by omega)⟩
theorem Right_both {a b : Int} {xs vs : List Nat} {at_ frm : Int} {tau : Nat} (he : errF a b xs vs at_ frm b a = 0) :
    ∃ l : List Nat, l.length = xs.length ∧ reflect_Right_F a b xs at_ frm vs tau = some (.r1 a b xs.length l) ∧ ref09_Right_F a b xs at_ frm vs tau = some (.r0 a b xs.length l) := by
  obtain ⟨h1, h2, h3⟩ := err_0 he
  obtain ⟨h4, h5, h6, h7⟩ := bad1_f h1
  obtain ⟨m1, m2, m3, m4, m5⟩ := may_true h4
  obtain ⟨r, rfl⟩ := nat_of m1
  obtain ⟨c, rfl⟩ := nat_of m3
  obtain ⟨p, rfl⟩ := nat_of h6
  obtain ⟨f, rfl⟩ := nat_of h7
  have hx : xs.length = r * c := by rw [← Int.natCast_mul] at m5; omega
  exact ⟨_, rflF_len, Right_spec hx (by omega) (by omega) h5 (by omega) (by omega), Right9_spec hx (by omega) (by omega) (by omega) (by omega)⟩

theorem Same0 : ref09_Same_F 0 0 ([] : List Nat) 0 0 [] = some (.r0 true) := Same_spec (by simp)

theorem neI_self (e : Nat) : ((e : Int) != (e : Int)) = false := by simp
theorem eq0_t {e : Nat} (h : e = 0) : ((e : Int) == (0 : Int)) = true := by subst h; rfl
theorem eq0_f {e : Nat} (h : e ≠ 0) : ((e : Int) == (0 : Int)) = false := by rw [beq_eq_false_iff_ne]; omega
theorem ne0_f {e : Nat} (h : e = 0) : ((e : Int) != (0 : Int)) = false := by subst h; rfl
theorem ne0_t {e : Nat} (h : e ≠ 0) : ((e : Int) != (0 : Int)) = true := by rw [bne_iff_ne]; omega

/-- What the two told of rows, and of columns. -/
theorem turns_t14 {a b : Int} {xs vs : List Nat} {at_ frm : Int} {tau : Nat} {e : Nat} {i3 i4 : Int} {a5 : Nat} {l7 : List Nat}
    (h : (e ≠ 0 ∧ i3 = 0 ∧ i4 = 0 ∧ a5 = 0 ∧ l7 = []) ∨ (e = 0 ∧ i3 = a ∧ i4 = b ∧ a5 = xs.length ∧ l7.length = xs.length ∧ xs.length ≤ 1000000000 ∧ ref09_Left_F a b xs at_ frm vs tau = some (.r0 a b xs.length l7))) :
    (law09_ReflectTurns_t14 a b xs at_ frm vs tau i3 i4 a5 l7 e false).run = some (.inl false) := by
  unfold law09_ReflectTurns_t14
  rw [cutL_all, cutL_all]
  rcases h with ⟨h, rfl, rfl, rfl, rfl⟩ | ⟨h, rfl, rfl, rfl, hl, hx, hL⟩
  · refine T.af rfl (T.af (eq0_f h) (T.at (ne0_t h) ?_))
    rw [cutL_nil, Same0]
    exact T.nd rfl (T.nd rfl rfl)
  · rw [hL]
    refine T.af rfl (T.at (eq0_t h) ?_)
    simp only [ref09_Left_p0_0, ref09_Left_p0_1, ref09_Left_p0_2, ref09_Left_p0_3]
    rw [← hl, cutL_all, Same_spec (by omega)]
    exact T.nd (by simp only [inK_i64, inB_i, leB_i, ltB_iff, leN_iff, slOk_iff, ble_iff, blt_iff, decide_eq_true_eq, decide_eq_false_iff_not, beq_iff_eq, beq_eq_false_iff_ne, bne_iff_ne, bne_eq_false_iff_eq, Bool.not_eq_true', Bool.not_eq_false', List.length_set, ne_eq, ge_iff_le, gt_iff_lt, setF_len, toNat_cast, lenOk]; omega) (T.nd (slOk_all vs) (T.nd rfl (T.nd (slOk_all l7) (T.nd (slOk_all l7) (T.nd rfl (T.af rfl (T.af (ne0_f h) rfl)))))))
theorem turns_t15 {a b : Int} {xs vs : List Nat} {at_ frm : Int} {tau : Nat} {e : Nat} {i3 i4 : Int} {a5 : Nat} {l7 : List Nat}
    (h : (e ≠ 0 ∧ i3 = 0 ∧ i4 = 0 ∧ a5 = 0 ∧ l7 = []) ∨ (e = 0 ∧ i3 = a ∧ i4 = b ∧ a5 = xs.length ∧ l7.length = xs.length ∧ xs.length ≤ 1000000000 ∧ ref09_Right_F a b xs at_ frm vs tau = some (.r0 a b xs.length l7))) :
    (law09_ReflectTurns_t15 a b xs at_ frm vs tau i3 i4 a5 l7 e false).run = some (.inl false) := by
  unfold law09_ReflectTurns_t15
  rw [cutL_all, cutL_all]
  rcases h with ⟨h, rfl, rfl, rfl, rfl⟩ | ⟨h, rfl, rfl, rfl, hl, hx, hL⟩
  · refine T.af rfl (T.af (eq0_f h) (T.at (ne0_t h) ?_))
    rw [cutL_nil, Same0]
    exact T.nd rfl (T.nd rfl rfl)
  · rw [hL]
    refine T.af rfl (T.at (eq0_t h) ?_)
    simp only [ref09_Right_p0_0, ref09_Right_p0_1, ref09_Right_p0_2, ref09_Right_p0_3]
    rw [← hl, cutL_all, Same_spec (by omega)]
    exact T.nd (by simp only [inK_i64, inB_i, leB_i, ltB_iff, leN_iff, slOk_iff, ble_iff, blt_iff, decide_eq_true_eq, decide_eq_false_iff_not, beq_iff_eq, beq_eq_false_iff_ne, bne_iff_ne, bne_eq_false_iff_eq, Bool.not_eq_true', Bool.not_eq_false', List.length_set, ne_eq, ge_iff_le, gt_iff_lt, setF_len, toNat_cast, lenOk]; omega) (T.nd (slOk_all vs) (T.nd rfl (T.nd (slOk_all l7) (T.nd (slOk_all l7) (T.nd rfl (T.af rfl (T.af (ne0_f h) rfl)))))))

theorem ReflectTurns_spec (a b : Int) (xs : List Nat) (at_ frm : Int) (vs : List Nat) (tau : Nat) : law09_ReflectTurns_F a b xs at_ frm vs tau = some (.r0 true) := by
  refine toX_of ?_
  by_cases hx : xs.length ≤ 400
  case neg =>
    refine seqM_in (a := true) ?_ (seqM_out ?_)
    · unfold law09_ReflectTurns_t9
      exact T.at (by simp only [Bool.not_eq_true', decide_eq_false_iff_not]; omega) rfl
    · unfold law09_ReflectTurns_t10; exact T.at rfl rfl
  by_cases hv : vs.length ≤ 600
  case neg =>
    refine seqM_in (a := true) ?_ (seqM_out ?_)
    · unfold law09_ReflectTurns_t9
      exact T.af (by simp only [Bool.not_eq_false', decide_eq_true_eq]; omega) (by rw [decide_eq_true (by omega)]; rfl)
    · unfold law09_ReflectTurns_t10; exact T.at rfl rfl
  -- rows
  obtain ⟨e, i3, i4, a5, l7, h10, hc⟩ : ∃ (e : Nat) (i3 i4 : Int) (a5 : Nat) (l7 : List Nat), (law09_ReflectTurns_t10 a b xs at_ frm vs tau false).run = some (.inl (e, i3, i4, a5, xs, l7)) ∧ e = errF a b xs vs at_ frm a b ∧
      ((e ≠ 0 ∧ i3 = 0 ∧ i4 = 0 ∧ a5 = 0 ∧ l7 = []) ∨ (e = 0 ∧ i3 = a ∧ i4 = b ∧ a5 = xs.length ∧ l7.length = xs.length ∧ xs.length ≤ 1000000000 ∧ ref09_Left_F a b xs at_ frm vs tau = some (.r0 a b xs.length l7))) := by
    unfold law09_ReflectTurns_t10
    rw [cutL_all, cutL_all, List.take_length]
    by_cases he : errF a b xs vs at_ frm a b = 0
    · obtain ⟨l, q1, q2, q3⟩ := Left_both (tau := tau) he
      rw [q2]
      exact ⟨_, _, _, _, _, T.af rfl (T.nd (by simp only [inK_i64, inB_i, leB_i, ltB_iff, leN_iff, slOk_iff, ble_iff, blt_iff, decide_eq_true_eq, decide_eq_false_iff_not, beq_iff_eq, beq_eq_false_iff_ne, bne_iff_ne, bne_eq_false_iff_eq, Bool.not_eq_true', Bool.not_eq_false', List.length_set, ne_eq, ge_iff_le, gt_iff_lt, setF_len, toNat_cast, lenOk]; omega) (T.nd (by simp only [inK_i64, inB_i, leB_i, ltB_iff, leN_iff, slOk_iff, ble_iff, blt_iff, decide_eq_true_eq, decide_eq_false_iff_not, beq_iff_eq, beq_eq_false_iff_ne, bne_iff_ne, bne_eq_false_iff_eq, Bool.not_eq_true', Bool.not_eq_false', List.length_set, ne_eq, ge_iff_le, gt_iff_lt, setF_len, toNat_cast, lenOk]; omega) (T.nd (by simp only [inK_i64, inB_i, leB_i, ltB_iff, leN_iff, slOk_iff, ble_iff, blt_iff, decide_eq_true_eq, decide_eq_false_iff_not, beq_iff_eq, beq_eq_false_iff_ne, bne_iff_ne, bne_eq_false_iff_eq, Bool.not_eq_true', Bool.not_eq_false', List.length_set, ne_eq, ge_iff_le, gt_iff_lt, setF_len, toNat_cast, lenOk]; omega) (T.a1 (by simp only [T.run, reflect_Left_i0, cond_false]; cases slOk 0 xs.length xs <;> cases slOk 0 vs.length vs <;> rfl) (T.a0 (T.nd (slOk_all xs) (T.nd (slOk_all vs) (T.nd rfl rfl)))))))), he.symm, .inr ⟨rfl, rfl, rfl, rfl, q1, by omega, q3⟩⟩
    · rw [Left_err (by omega) he]
      exact ⟨_, _, _, _, _, T.af rfl (T.nd (by simp only [inK_i64, inB_i, leB_i, ltB_iff, leN_iff, slOk_iff, ble_iff, blt_iff, decide_eq_true_eq, decide_eq_false_iff_not, beq_iff_eq, beq_eq_false_iff_ne, bne_iff_ne, bne_eq_false_iff_eq, Bool.not_eq_true', Bool.not_eq_false', List.length_set, ne_eq, ge_iff_le, gt_iff_lt, setF_len, toNat_cast, lenOk]; omega) (T.nd (by simp only [inK_i64, inB_i, leB_i, ltB_iff, leN_iff, slOk_iff, ble_iff, blt_iff, decide_eq_true_eq, decide_eq_false_iff_not, beq_iff_eq, beq_eq_false_iff_ne, bne_iff_ne, bne_eq_false_iff_eq, Bool.not_eq_true', Bool.not_eq_false', List.length_set, ne_eq, ge_iff_le, gt_iff_lt, setF_len, toNat_cast, lenOk]; omega) (T.nd (by simp only [inK_i64, inB_i, leB_i, ltB_iff, leN_iff, slOk_iff, ble_iff, blt_iff, decide_eq_true_eq, decide_eq_false_iff_not, beq_iff_eq, beq_eq_false_iff_ne, bne_iff_ne, bne_eq_false_iff_eq, Bool.not_eq_true', Bool.not_eq_false', List.length_set, ne_eq, ge_iff_le, gt_iff_lt, setF_len, toNat_cast, lenOk]; omega) (T.a0 (T.nd (slOk_all xs) (T.nd (slOk_all vs) (T.nd rfl rfl))))))), rfl, .inl ⟨he, rfl, rfl, rfl, rfl⟩⟩
  obtain ⟨f, i9, i10, a11, l12, h11, hd⟩ : ∃ (e : Nat) (i3 i4 : Int) (a5 : Nat) (l7 : List Nat), (law09_ReflectTurns_t11 a b xs at_ frm vs tau).run = some (.inl (e, i3, i4, a5, l7)) ∧ e = errF a b xs vs at_ frm b a ∧
      ((e ≠ 0 ∧ i3 = 0 ∧ i4 = 0 ∧ a5 = 0 ∧ l7 = []) ∨ (e = 0 ∧ i3 = a ∧ i4 = b ∧ a5 = xs.length ∧ l7.length = xs.length ∧ xs.length ≤ 1000000000 ∧ ref09_Right_F a b xs at_ frm vs tau = some (.r0 a b xs.length l7))) := by
    unfold law09_ReflectTurns_t11
    rw [cutL_all, cutL_all]
    by_cases he : errF a b xs vs at_ frm b a = 0
    · obtain ⟨l, q1, q2, q3⟩ := Right_both (tau := tau) he
      rw [q2]
      exact ⟨_, _, _, _, _, T.a1 (by simp only [T.run, reflect_Right_i0, cond_false]; cases slOk 0 xs.length xs <;> cases slOk 0 vs.length vs <;> rfl) (T.a0 (T.nd (slOk_all xs) (T.nd (slOk_all vs) (T.nd rfl rfl)))), he.symm, .inr ⟨rfl, rfl, rfl, rfl, q1, by omega, q3⟩⟩
    · rw [Right_err (by omega) he]
      exact ⟨_, _, _, _, _, T.a0 (T.nd (slOk_all xs) (T.nd (slOk_all vs) (T.nd rfl rfl))), rfl, .inl ⟨he, rfl, rfl, rfl, rfl⟩⟩
  obtain ⟨he, hc⟩ := hc
  obtain ⟨hf, hd⟩ := hd
  refine seqM_in (a := false) ?_ (seqM_in h10 (seqM_in h11 (seqM_in (a := (e, f)) ?_ (seqM_in (a := false) ?_ (seqM_in (turns_t14 hc) (seqM_in (turns_t15 hd) rfl))))))
  · unfold law09_ReflectTurns_t9
    exact T.af (by simp only [Bool.not_eq_false', decide_eq_true_eq]; omega) (by rw [decide_eq_false (by omega)]; rfl)
  · unfold law09_ReflectTurns_t12
    rw [cutL_all, cutL_all, fits_spec (by omega) (fun h => ⟨(may_true h).1, (may_true h).2.1⟩), fits_spec (by omega) (fun h => ⟨(may_true h).2.2.1, (may_true h).2.2.2.1⟩), ← he, ← hf]
    exact T.nd (slOk_all xs) (T.nd (slOk_all vs) (T.nd rfl (T.nd (slOk_all xs) (T.nd (slOk_all vs) (T.nd rfl rfl)))))
  · unfold law09_ReflectTurns_t13
    rw [cutL_all, Same_spec (by omega)]
    exact T.af (neI_self e) (T.af (neI_self f) (T.nd (slOk_all xs) (T.nd (slOk_all xs) (T.nd rfl rfl))))
end Go.Plb.Seat

/-
  PLAIN: several reflections: alike, and their factor.
-/
namespace Go.Plb.Seat
open Go Go.Plb
set_option linter.unusedSimpArgs false
set_option linter.unusedVariables false

theorem set_len {α : Type} {l : List α} {i : Nat} {v : α} : (l.set i v).length = l.length := by simp

/-- How many entries all have, as ints go round. -/
def totW (ls : List (List Nat)) : Nat → Int
  | 0 => 0
  | n + 1 => IntKind.i64.wrap (totW ls n + (((ls.getD n []).length : Nat) : Int))

theorem total_spec {ls : List (List Nat)} (hn : ls.length ≤ 1000) : law09_total_F ls.length ls = some (.r0 (totW ls ls.length)) := by
  refine toX_of (seqM_in rfl (seqM_in (loopM_at (fun j => (totW ls j, (j : Int))) ls.length rfl (fun j hj => ?_) ?_) rfl))
  · show (law09_total_t10 _ _ _ _).run = _
    unfold law09_total_t10
    have e : IntKind.i64.wrap ((j : Int) + 1) = ((j + 1 : Nat) : Int) := by rw [wrap_inK (by rw [inK_i64]; omega)]; rfl
    rw [toNat_cast, e]
    exact T.at (by simp only [inK_i64, inB_i, leB_i, ltB_iff, leN_iff, slOk_iff, ble_iff, blt_iff, decide_eq_true_eq, decide_eq_false_iff_not, beq_iff_eq, beq_eq_false_iff_ne, bne_iff_ne, bne_eq_false_iff_eq, Bool.not_eq_true', Bool.not_eq_false', List.length_set, ne_eq, ge_iff_le, gt_iff_lt, setF_len, toNat_cast, lenOk]; omega) (T.nd (by simp only [inK_i64, inB_i, leB_i, ltB_iff, leN_iff, slOk_iff, ble_iff, blt_iff, decide_eq_true_eq, decide_eq_false_iff_not, beq_iff_eq, beq_eq_false_iff_ne, bne_iff_ne, bne_eq_false_iff_eq, Bool.not_eq_true', Bool.not_eq_false', List.length_set, ne_eq, ge_iff_le, gt_iff_lt, setF_len, toNat_cast, lenOk]; omega) (T.nd (by simp only [inK_i64, inB_i, leB_i, ltB_iff, leN_iff, slOk_iff, ble_iff, blt_iff, decide_eq_true_eq, decide_eq_false_iff_not, beq_iff_eq, beq_eq_false_iff_ne, bne_iff_ne, bne_eq_false_iff_eq, Bool.not_eq_true', Bool.not_eq_false', List.length_set, ne_eq, ge_iff_le, gt_iff_lt, setF_len, toNat_cast, lenOk]; omega) rfl))
  · exact T.af (by simp only [inK_i64, inB_i, leB_i, ltB_iff, leN_iff, slOk_iff, ble_iff, blt_iff, decide_eq_true_eq, decide_eq_false_iff_not, beq_iff_eq, beq_eq_false_iff_ne, bne_iff_ne, bne_eq_false_iff_eq, Bool.not_eq_true', Bool.not_eq_false', List.length_set, ne_eq, ge_iff_le, gt_iff_lt, setF_len, toNat_cast, lenOk]; omega) rfl

/-- All of one length, that is not 0, and there are some. -/
def AlikeP (ls : List (List Nat)) : Prop := 0 < ls.length ∧ 0 < (ls.getD 0 []).length ∧ ∀ i, i < ls.length → (ls.getD i []).length = (ls.getD 0 []).length

theorem IndexF_t {ls : List (List Nat)} {ts : List Nat} (hn : ls.length ≤ 1000) (ht : ts.length = ls.length) (h0 : 0 < ls.length) (h : ∀ i, i < ls.length → (ls.getD i []).length = (ls.getD 0 []).length) :
    slices_IndexFunc_F ls.length ls ts ls.length ls = some (.r0 (-1)) := by
  refine toX_of (seqM_in rfl (seqM_in (a := ()) (loopM_at (fun j => j) ls.length rfl (fun j hj => ?_) ?_) rfl))
  · show (slices_IndexFunc_t9 _ _ _ _ _ _).run = _
    have := h j hj
    exact T.at (by simp only [inK_i64, inB_i, leB_i, ltB_iff, leN_iff, slOk_iff, ble_iff, blt_iff, decide_eq_true_eq, decide_eq_false_iff_not, beq_iff_eq, beq_eq_false_iff_ne, bne_iff_ne, bne_eq_false_iff_eq, Bool.not_eq_true', Bool.not_eq_false', List.length_set, ne_eq, ge_iff_le, gt_iff_lt, setF_len, toNat_cast, lenOk]; omega) (T.nd (by simp only [inK_i64, inB_i, leB_i, ltB_iff, leN_iff, slOk_iff, ble_iff, blt_iff, decide_eq_true_eq, decide_eq_false_iff_not, beq_iff_eq, beq_eq_false_iff_ne, bne_iff_ne, bne_eq_false_iff_eq, Bool.not_eq_true', Bool.not_eq_false', List.length_set, ne_eq, ge_iff_le, gt_iff_lt, setF_len, toNat_cast, lenOk]; omega) (T.nd (by simp only [inK_i64, inB_i, leB_i, ltB_iff, leN_iff, slOk_iff, ble_iff, blt_iff, decide_eq_true_eq, decide_eq_false_iff_not, beq_iff_eq, beq_eq_false_iff_ne, bne_iff_ne, bne_eq_false_iff_eq, Bool.not_eq_true', Bool.not_eq_false', List.length_set, ne_eq, ge_iff_le, gt_iff_lt, setF_len, toNat_cast, lenOk]; omega) (T.nd (by simp only [inK_i64, inB_i, leB_i, ltB_iff, leN_iff, slOk_iff, ble_iff, blt_iff, decide_eq_true_eq, decide_eq_false_iff_not, beq_iff_eq, beq_eq_false_iff_ne, bne_iff_ne, bne_eq_false_iff_eq, Bool.not_eq_true', Bool.not_eq_false', List.length_set, ne_eq, ge_iff_le, gt_iff_lt, setF_len, toNat_cast, lenOk]; omega) (T.nd (by simp only [inK_i64, inB_i, leB_i, ltB_iff, leN_iff, slOk_iff, ble_iff, blt_iff, decide_eq_true_eq, decide_eq_false_iff_not, beq_iff_eq, beq_eq_false_iff_ne, bne_iff_ne, bne_eq_false_iff_eq, Bool.not_eq_true', Bool.not_eq_false', List.length_set, ne_eq, ge_iff_le, gt_iff_lt, setF_len, toNat_cast, lenOk]; omega) (T.nd (by simp only [inK_i64, inB_i, leB_i, ltB_iff, leN_iff, slOk_iff, ble_iff, blt_iff, decide_eq_true_eq, decide_eq_false_iff_not, beq_iff_eq, beq_eq_false_iff_ne, bne_iff_ne, bne_eq_false_iff_eq, Bool.not_eq_true', Bool.not_eq_false', List.length_set, ne_eq, ge_iff_le, gt_iff_lt, setF_len, toNat_cast, lenOk]; omega) (T.af (by simp only [inK_i64, inB_i, leB_i, ltB_iff, leN_iff, slOk_iff, ble_iff, blt_iff, decide_eq_true_eq, decide_eq_false_iff_not, beq_iff_eq, beq_eq_false_iff_ne, bne_iff_ne, bne_eq_false_iff_eq, Bool.not_eq_true', Bool.not_eq_false', List.length_set, ne_eq, ge_iff_le, gt_iff_lt, setF_len, toNat_cast, lenOk]; omega) (T.nd (by simp only [inK_i64, inB_i, leB_i, ltB_iff, leN_iff, slOk_iff, ble_iff, blt_iff, decide_eq_true_eq, decide_eq_false_iff_not, beq_iff_eq, beq_eq_false_iff_ne, bne_iff_ne, bne_eq_false_iff_eq, Bool.not_eq_true', Bool.not_eq_false', List.length_set, ne_eq, ge_iff_le, gt_iff_lt, setF_len, toNat_cast, lenOk]; omega) rfl)))))))
  · exact T.af (by simp only [inK_i64, inB_i, leB_i, ltB_iff, leN_iff, slOk_iff, ble_iff, blt_iff, decide_eq_true_eq, decide_eq_false_iff_not, beq_iff_eq, beq_eq_false_iff_ne, bne_iff_ne, bne_eq_false_iff_eq, Bool.not_eq_true', Bool.not_eq_false', List.length_set, ne_eq, ge_iff_le, gt_iff_lt, setF_len, toNat_cast, lenOk]; omega) rfl
theorem IndexF_f {ls : List (List Nat)} {ts : List Nat} (hn : ls.length ≤ 1000) (ht : ts.length = ls.length) (h0 : 0 < ls.length) (h : ¬ ∀ i, i < ls.length → (ls.getD i []).length = (ls.getD 0 []).length) :
    ∃ k : Nat, slices_IndexFunc_F ls.length ls ts ls.length ls = some (.r0 (k : Int)) := by
  obtain ⟨k, h1, h2, h3⟩ := first_bad h
  refine ⟨k, toX_of (seqM_in rfl (seqM_out (loopM_at (fun j => j) k rfl (fun j hj => ?_) ?_)))⟩
  · show (slices_IndexFunc_t9 _ _ _ _ _ _).run = _
    have := h3 j hj
    exact T.at (by simp only [inK_i64, inB_i, leB_i, ltB_iff, leN_iff, slOk_iff, ble_iff, blt_iff, decide_eq_true_eq, decide_eq_false_iff_not, beq_iff_eq, beq_eq_false_iff_ne, bne_iff_ne, bne_eq_false_iff_eq, Bool.not_eq_true', Bool.not_eq_false', List.length_set, ne_eq, ge_iff_le, gt_iff_lt, setF_len, toNat_cast, lenOk]; omega) (T.nd (by simp only [inK_i64, inB_i, leB_i, ltB_iff, leN_iff, slOk_iff, ble_iff, blt_iff, decide_eq_true_eq, decide_eq_false_iff_not, beq_iff_eq, beq_eq_false_iff_ne, bne_iff_ne, bne_eq_false_iff_eq, Bool.not_eq_true', Bool.not_eq_false', List.length_set, ne_eq, ge_iff_le, gt_iff_lt, setF_len, toNat_cast, lenOk]; omega) (T.nd (by simp only [inK_i64, inB_i, leB_i, ltB_iff, leN_iff, slOk_iff, ble_iff, blt_iff, decide_eq_true_eq, decide_eq_false_iff_not, beq_iff_eq, beq_eq_false_iff_ne, bne_iff_ne, bne_eq_false_iff_eq, Bool.not_eq_true', Bool.not_eq_false', List.length_set, ne_eq, ge_iff_le, gt_iff_lt, setF_len, toNat_cast, lenOk]; omega) (T.nd (by simp only [inK_i64, inB_i, leB_i, ltB_iff, leN_iff, slOk_iff, ble_iff, blt_iff, decide_eq_true_eq, decide_eq_false_iff_not, beq_iff_eq, beq_eq_false_iff_ne, bne_iff_ne, bne_eq_false_iff_eq, Bool.not_eq_true', Bool.not_eq_false', List.length_set, ne_eq, ge_iff_le, gt_iff_lt, setF_len, toNat_cast, lenOk]; omega) (T.nd (by simp only [inK_i64, inB_i, leB_i, ltB_iff, leN_iff, slOk_iff, ble_iff, blt_iff, decide_eq_true_eq, decide_eq_false_iff_not, beq_iff_eq, beq_eq_false_iff_ne, bne_iff_ne, bne_eq_false_iff_eq, Bool.not_eq_true', Bool.not_eq_false', List.length_set, ne_eq, ge_iff_le, gt_iff_lt, setF_len, toNat_cast, lenOk]; omega) (T.nd (by simp only [inK_i64, inB_i, leB_i, ltB_iff, leN_iff, slOk_iff, ble_iff, blt_iff, decide_eq_true_eq, decide_eq_false_iff_not, beq_iff_eq, beq_eq_false_iff_ne, bne_iff_ne, bne_eq_false_iff_eq, Bool.not_eq_true', Bool.not_eq_false', List.length_set, ne_eq, ge_iff_le, gt_iff_lt, setF_len, toNat_cast, lenOk]; omega) (T.af (by simp only [inK_i64, inB_i, leB_i, ltB_iff, leN_iff, slOk_iff, ble_iff, blt_iff, decide_eq_true_eq, decide_eq_false_iff_not, beq_iff_eq, beq_eq_false_iff_ne, bne_iff_ne, bne_eq_false_iff_eq, Bool.not_eq_true', Bool.not_eq_false', List.length_set, ne_eq, ge_iff_le, gt_iff_lt, setF_len, toNat_cast, lenOk]; omega) (T.nd (by simp only [inK_i64, inB_i, leB_i, ltB_iff, leN_iff, slOk_iff, ble_iff, blt_iff, decide_eq_true_eq, decide_eq_false_iff_not, beq_iff_eq, beq_eq_false_iff_ne, bne_iff_ne, bne_eq_false_iff_eq, Bool.not_eq_true', Bool.not_eq_false', List.length_set, ne_eq, ge_iff_le, gt_iff_lt, setF_len, toNat_cast, lenOk]; omega) rfl)))))))
  · show (slices_IndexFunc_t9 _ _ _ _ _ _).run = _
    exact T.at (by simp only [inK_i64, inB_i, leB_i, ltB_iff, leN_iff, slOk_iff, ble_iff, blt_iff, decide_eq_true_eq, decide_eq_false_iff_not, beq_iff_eq, beq_eq_false_iff_ne, bne_iff_ne, bne_eq_false_iff_eq, Bool.not_eq_true', Bool.not_eq_false', List.length_set, ne_eq, ge_iff_le, gt_iff_lt, setF_len, toNat_cast, lenOk]; omega) (T.nd (by simp only [inK_i64, inB_i, leB_i, ltB_iff, leN_iff, slOk_iff, ble_iff, blt_iff, decide_eq_true_eq, decide_eq_false_iff_not, beq_iff_eq, beq_eq_false_iff_ne, bne_iff_ne, bne_eq_false_iff_eq, Bool.not_eq_true', Bool.not_eq_false', List.length_set, ne_eq, ge_iff_le, gt_iff_lt, setF_len, toNat_cast, lenOk]; omega) (T.nd (by simp only [inK_i64, inB_i, leB_i, ltB_iff, leN_iff, slOk_iff, ble_iff, blt_iff, decide_eq_true_eq, decide_eq_false_iff_not, beq_iff_eq, beq_eq_false_iff_ne, bne_iff_ne, bne_eq_false_iff_eq, Bool.not_eq_true', Bool.not_eq_false', List.length_set, ne_eq, ge_iff_le, gt_iff_lt, setF_len, toNat_cast, lenOk]; omega) (T.nd (by simp only [inK_i64, inB_i, leB_i, ltB_iff, leN_iff, slOk_iff, ble_iff, blt_iff, decide_eq_true_eq, decide_eq_false_iff_not, beq_iff_eq, beq_eq_false_iff_ne, bne_iff_ne, bne_eq_false_iff_eq, Bool.not_eq_true', Bool.not_eq_false', List.length_set, ne_eq, ge_iff_le, gt_iff_lt, setF_len, toNat_cast, lenOk]; omega) (T.nd (by simp only [inK_i64, inB_i, leB_i, ltB_iff, leN_iff, slOk_iff, ble_iff, blt_iff, decide_eq_true_eq, decide_eq_false_iff_not, beq_iff_eq, beq_eq_false_iff_ne, bne_iff_ne, bne_eq_false_iff_eq, Bool.not_eq_true', Bool.not_eq_false', List.length_set, ne_eq, ge_iff_le, gt_iff_lt, setF_len, toNat_cast, lenOk]; omega) (T.nd (by simp only [inK_i64, inB_i, leB_i, ltB_iff, leN_iff, slOk_iff, ble_iff, blt_iff, decide_eq_true_eq, decide_eq_false_iff_not, beq_iff_eq, beq_eq_false_iff_ne, bne_iff_ne, bne_eq_false_iff_eq, Bool.not_eq_true', Bool.not_eq_false', List.length_set, ne_eq, ge_iff_le, gt_iff_lt, setF_len, toNat_cast, lenOk]; omega) (T.at (by simp only [inK_i64, inB_i, leB_i, ltB_iff, leN_iff, slOk_iff, ble_iff, blt_iff, decide_eq_true_eq, decide_eq_false_iff_not, beq_iff_eq, beq_eq_false_iff_ne, bne_iff_ne, bne_eq_false_iff_eq, Bool.not_eq_true', Bool.not_eq_false', List.length_set, ne_eq, ge_iff_le, gt_iff_lt, setF_len, toNat_cast, lenOk]; omega) rfl))))))

theorem alike_t {ls : List (List Nat)} {ts : List Nat} (hn : ls.length ≤ 1000) (ht : ts.length = ls.length) (h : AlikeP ls) : reflect_alike_F ls.length ls ts = some (.r0 true) := by
  obtain ⟨h1, h2, h3⟩ := h
  refine toX_of (seqM_in (a := true) ?_ rfl)
  unfold reflect_alike_t3
  rw [cutL_all, cutL_to ht, IndexF_t hn ht h1 h3]
  exact T.at (by simp only [inK_i64, inB_i, leB_i, ltB_iff, leN_iff, slOk_iff, ble_iff, blt_iff, decide_eq_true_eq, decide_eq_false_iff_not, beq_iff_eq, beq_eq_false_iff_ne, bne_iff_ne, bne_eq_false_iff_eq, Bool.not_eq_true', Bool.not_eq_false', List.length_set, ne_eq, ge_iff_le, gt_iff_lt, setF_len, toNat_cast, lenOk]; omega) (T.nd (by simp only [inK_i64, inB_i, leB_i, ltB_iff, leN_iff, slOk_iff, ble_iff, blt_iff, decide_eq_true_eq, decide_eq_false_iff_not, beq_iff_eq, beq_eq_false_iff_ne, bne_iff_ne, bne_eq_false_iff_eq, Bool.not_eq_true', Bool.not_eq_false', List.length_set, ne_eq, ge_iff_le, gt_iff_lt, setF_len, toNat_cast, lenOk]; omega) (T.nd (by simp only [inK_i64, inB_i, leB_i, ltB_iff, leN_iff, slOk_iff, ble_iff, blt_iff, decide_eq_true_eq, decide_eq_false_iff_not, beq_iff_eq, beq_eq_false_iff_ne, bne_iff_ne, bne_eq_false_iff_eq, Bool.not_eq_true', Bool.not_eq_false', List.length_set, ne_eq, ge_iff_le, gt_iff_lt, setF_len, toNat_cast, lenOk]; omega) (T.at (by simp only [inK_i64, inB_i, leB_i, ltB_iff, leN_iff, slOk_iff, ble_iff, blt_iff, decide_eq_true_eq, decide_eq_false_iff_not, beq_iff_eq, beq_eq_false_iff_ne, bne_iff_ne, bne_eq_false_iff_eq, Bool.not_eq_true', Bool.not_eq_false', List.length_set, ne_eq, ge_iff_le, gt_iff_lt, setF_len, toNat_cast, lenOk]; omega) (T.nd (cut_ok _) (T.nd (cut_ok _) (T.nd rfl rfl))))))
theorem alike_f {ls : List (List Nat)} {ts : List Nat} (hn : ls.length ≤ 1000) (ht : ts.length = ls.length) (h : ¬ AlikeP ls) : reflect_alike_F ls.length ls ts = some (.r0 false) := by
  refine toX_of (seqM_in (a := false) ?_ rfl)
  unfold reflect_alike_t3
  rw [cutL_all, cutL_to ht]
  by_cases h1 : 0 < ls.length
  · by_cases h2 : 0 < (ls.getD 0 []).length
    · obtain ⟨k, hk⟩ := IndexF_f hn ht h1 fun h3 => h ⟨h1, h2, h3⟩
      rw [hk]
      refine T.at (by simp only [inK_i64, inB_i, leB_i, ltB_iff, leN_iff, slOk_iff, ble_iff, blt_iff, decide_eq_true_eq, decide_eq_false_iff_not, beq_iff_eq, beq_eq_false_iff_ne, bne_iff_ne, bne_eq_false_iff_eq, Bool.not_eq_true', Bool.not_eq_false', List.length_set, ne_eq, ge_iff_le, gt_iff_lt, setF_len, toNat_cast, lenOk]; omega) (T.nd (by simp only [inK_i64, inB_i, leB_i, ltB_iff, leN_iff, slOk_iff, ble_iff, blt_iff, decide_eq_true_eq, decide_eq_false_iff_not, beq_iff_eq, beq_eq_false_iff_ne, bne_iff_ne, bne_eq_false_iff_eq, Bool.not_eq_true', Bool.not_eq_false', List.length_set, ne_eq, ge_iff_le, gt_iff_lt, setF_len, toNat_cast, lenOk]; omega) (T.nd (by simp only [inK_i64, inB_i, leB_i, ltB_iff, leN_iff, slOk_iff, ble_iff, blt_iff, decide_eq_true_eq, decide_eq_false_iff_not, beq_iff_eq, beq_eq_false_iff_ne, bne_iff_ne, bne_eq_false_iff_eq, Bool.not_eq_true', Bool.not_eq_false', List.length_set, ne_eq, ge_iff_le, gt_iff_lt, setF_len, toNat_cast, lenOk]; omega) (T.at (by simp only [inK_i64, inB_i, leB_i, ltB_iff, leN_iff, slOk_iff, ble_iff, blt_iff, decide_eq_true_eq, decide_eq_false_iff_not, beq_iff_eq, beq_eq_false_iff_ne, bne_iff_ne, bne_eq_false_iff_eq, Bool.not_eq_true', Bool.not_eq_false', List.length_set, ne_eq, ge_iff_le, gt_iff_lt, setF_len, toNat_cast, lenOk]; omega) (T.nd (cut_ok _) (T.nd (cut_ok _) (T.nd rfl ?_))))))
      exact congrArg (fun b : Bool => (some (Sum.inl (!b)) : Option (Bool ⊕ reflect_alike_X))) (decide_eq_true (p := (k : Int) ≥ 0) (Int.natCast_nonneg k))
    · exact T.at (by simp only [inK_i64, inB_i, leB_i, ltB_iff, leN_iff, slOk_iff, ble_iff, blt_iff, decide_eq_true_eq, decide_eq_false_iff_not, beq_iff_eq, beq_eq_false_iff_ne, bne_iff_ne, bne_eq_false_iff_eq, Bool.not_eq_true', Bool.not_eq_false', List.length_set, ne_eq, ge_iff_le, gt_iff_lt, setF_len, toNat_cast, lenOk]; omega) (T.nd (by simp only [inK_i64, inB_i, leB_i, ltB_iff, leN_iff, slOk_iff, ble_iff, blt_iff, decide_eq_true_eq, decide_eq_false_iff_not, beq_iff_eq, beq_eq_false_iff_ne, bne_iff_ne, bne_eq_false_iff_eq, Bool.not_eq_true', Bool.not_eq_false', List.length_set, ne_eq, ge_iff_le, gt_iff_lt, setF_len, toNat_cast, lenOk]; omega) (T.nd (by simp only [inK_i64, inB_i, leB_i, ltB_iff, leN_iff, slOk_iff, ble_iff, blt_iff, decide_eq_true_eq, decide_eq_false_iff_not, beq_iff_eq, beq_eq_false_iff_ne, bne_iff_ne, bne_eq_false_iff_eq, Bool.not_eq_true', Bool.not_eq_false', List.length_set, ne_eq, ge_iff_le, gt_iff_lt, setF_len, toNat_cast, lenOk]; omega) (T.af (by simp only [inK_i64, inB_i, leB_i, ltB_iff, leN_iff, slOk_iff, ble_iff, blt_iff, decide_eq_true_eq, decide_eq_false_iff_not, beq_iff_eq, beq_eq_false_iff_ne, bne_iff_ne, bne_eq_false_iff_eq, Bool.not_eq_true', Bool.not_eq_false', List.length_set, ne_eq, ge_iff_le, gt_iff_lt, setF_len, toNat_cast, lenOk]; omega) rfl)))
  · exact T.af (by simp only [inK_i64, inB_i, leB_i, ltB_iff, leN_iff, slOk_iff, ble_iff, blt_iff, decide_eq_true_eq, decide_eq_false_iff_not, beq_iff_eq, beq_eq_false_iff_ne, bne_iff_ne, bne_eq_false_iff_eq, Bool.not_eq_true', Bool.not_eq_false', List.length_set, ne_eq, ge_iff_le, gt_iff_lt, setF_len, toNat_cast, lenOk]; omega) rfl

theorem Alike9_t {ls : List (List Nat)} (hn : ls.length ≤ 500) (h : AlikeP ls) : ref09_Alike_F ls.length ls = some (.r0 true) := by
  obtain ⟨h1, h2, h3⟩ := h
  refine toX_of (seqM_in rfl (seqM_in (a := ()) (loopM_at (fun j => j) ls.length rfl (fun j hj => ?_) ?_) (seqM_in (a := true) ?_ rfl)))
  · show (ref09_Alike_t10 _ _ _).run = _
    have := h3 j hj
    exact T.at (by simp only [inK_i64, inB_i, leB_i, ltB_iff, leN_iff, slOk_iff, ble_iff, blt_iff, decide_eq_true_eq, decide_eq_false_iff_not, beq_iff_eq, beq_eq_false_iff_ne, bne_iff_ne, bne_eq_false_iff_eq, Bool.not_eq_true', Bool.not_eq_false', List.length_set, ne_eq, ge_iff_le, gt_iff_lt, setF_len, toNat_cast, lenOk]; omega) (T.nd (by simp only [inK_i64, inB_i, leB_i, ltB_iff, leN_iff, slOk_iff, ble_iff, blt_iff, decide_eq_true_eq, decide_eq_false_iff_not, beq_iff_eq, beq_eq_false_iff_ne, bne_iff_ne, bne_eq_false_iff_eq, Bool.not_eq_true', Bool.not_eq_false', List.length_set, ne_eq, ge_iff_le, gt_iff_lt, setF_len, toNat_cast, lenOk]; omega) (T.nd (by simp only [inK_i64, inB_i, leB_i, ltB_iff, leN_iff, slOk_iff, ble_iff, blt_iff, decide_eq_true_eq, decide_eq_false_iff_not, beq_iff_eq, beq_eq_false_iff_ne, bne_iff_ne, bne_eq_false_iff_eq, Bool.not_eq_true', Bool.not_eq_false', List.length_set, ne_eq, ge_iff_le, gt_iff_lt, setF_len, toNat_cast, lenOk]; omega) (T.af (by simp only [inK_i64, inB_i, leB_i, ltB_iff, leN_iff, slOk_iff, ble_iff, blt_iff, decide_eq_true_eq, decide_eq_false_iff_not, beq_iff_eq, beq_eq_false_iff_ne, bne_iff_ne, bne_eq_false_iff_eq, Bool.not_eq_true', Bool.not_eq_false', List.length_set, ne_eq, ge_iff_le, gt_iff_lt, setF_len, toNat_cast, lenOk]; omega) (T.nd (by simp only [inK_i64, inB_i, leB_i, ltB_iff, leN_iff, slOk_iff, ble_iff, blt_iff, decide_eq_true_eq, decide_eq_false_iff_not, beq_iff_eq, beq_eq_false_iff_ne, bne_iff_ne, bne_eq_false_iff_eq, Bool.not_eq_true', Bool.not_eq_false', List.length_set, ne_eq, ge_iff_le, gt_iff_lt, setF_len, toNat_cast, lenOk]; omega) (T.nd (by simp only [inK_i64, inB_i, leB_i, ltB_iff, leN_iff, slOk_iff, ble_iff, blt_iff, decide_eq_true_eq, decide_eq_false_iff_not, beq_iff_eq, beq_eq_false_iff_ne, bne_iff_ne, bne_eq_false_iff_eq, Bool.not_eq_true', Bool.not_eq_false', List.length_set, ne_eq, ge_iff_le, gt_iff_lt, setF_len, toNat_cast, lenOk]; omega) (T.nd (by simp only [inK_i64, inB_i, leB_i, ltB_iff, leN_iff, slOk_iff, ble_iff, blt_iff, decide_eq_true_eq, decide_eq_false_iff_not, beq_iff_eq, beq_eq_false_iff_ne, bne_iff_ne, bne_eq_false_iff_eq, Bool.not_eq_true', Bool.not_eq_false', List.length_set, ne_eq, ge_iff_le, gt_iff_lt, setF_len, toNat_cast, lenOk]; omega) (T.nd (by simp only [inK_i64, inB_i, leB_i, ltB_iff, leN_iff, slOk_iff, ble_iff, blt_iff, decide_eq_true_eq, decide_eq_false_iff_not, beq_iff_eq, beq_eq_false_iff_ne, bne_iff_ne, bne_eq_false_iff_eq, Bool.not_eq_true', Bool.not_eq_false', List.length_set, ne_eq, ge_iff_le, gt_iff_lt, setF_len, toNat_cast, lenOk]; omega) (T.af (by simp only [inK_i64, inB_i, leB_i, ltB_iff, leN_iff, slOk_iff, ble_iff, blt_iff, decide_eq_true_eq, decide_eq_false_iff_not, beq_iff_eq, beq_eq_false_iff_ne, bne_iff_ne, bne_eq_false_iff_eq, Bool.not_eq_true', Bool.not_eq_false', List.length_set, ne_eq, ge_iff_le, gt_iff_lt, setF_len, toNat_cast, lenOk]; omega) (T.nd (by simp only [inK_i64, inB_i, leB_i, ltB_iff, leN_iff, slOk_iff, ble_iff, blt_iff, decide_eq_true_eq, decide_eq_false_iff_not, beq_iff_eq, beq_eq_false_iff_ne, bne_iff_ne, bne_eq_false_iff_eq, Bool.not_eq_true', Bool.not_eq_false', List.length_set, ne_eq, ge_iff_le, gt_iff_lt, setF_len, toNat_cast, lenOk]; omega) rfl)))))))))
  · exact T.af (by simp only [inK_i64, inB_i, leB_i, ltB_iff, leN_iff, slOk_iff, ble_iff, blt_iff, decide_eq_true_eq, decide_eq_false_iff_not, beq_iff_eq, beq_eq_false_iff_ne, bne_iff_ne, bne_eq_false_iff_eq, Bool.not_eq_true', Bool.not_eq_false', List.length_set, ne_eq, ge_iff_le, gt_iff_lt, setF_len, toNat_cast, lenOk]; omega) rfl
  · exact T.at (by simp only [inK_i64, inB_i, leB_i, ltB_iff, leN_iff, slOk_iff, ble_iff, blt_iff, decide_eq_true_eq, decide_eq_false_iff_not, beq_iff_eq, beq_eq_false_iff_ne, bne_iff_ne, bne_eq_false_iff_eq, Bool.not_eq_true', Bool.not_eq_false', List.length_set, ne_eq, ge_iff_le, gt_iff_lt, setF_len, toNat_cast, lenOk]; omega) (by rw [decide_eq_true (by omega)]; rfl)
theorem Alike9_f {ls : List (List Nat)} (hn : ls.length ≤ 500) (h : ¬ AlikeP ls) : ref09_Alike_F ls.length ls = some (.r0 false) := by
  by_cases h1 : 0 < ls.length
  · have hb : ¬ ∀ i, i < ls.length → ¬ (ls.getD i []).length = 0 ∧ (ls.getD i []).length = (ls.getD 0 []).length := fun q =>
      h ⟨h1, by have := (q 0 h1).1; omega, fun i hi => (q i hi).2⟩
    obtain ⟨k, k1, k2, k3⟩ := first_bad hb
    refine toX_of (seqM_in rfl (seqM_out (loopM_at (fun j => j) k rfl (fun j hj => ?_) ?_)))
    · show (ref09_Alike_t10 _ _ _).run = _
      have := k3 j hj
      exact T.at (by simp only [inK_i64, inB_i, leB_i, ltB_iff, leN_iff, slOk_iff, ble_iff, blt_iff, decide_eq_true_eq, decide_eq_false_iff_not, beq_iff_eq, beq_eq_false_iff_ne, bne_iff_ne, bne_eq_false_iff_eq, Bool.not_eq_true', Bool.not_eq_false', List.length_set, ne_eq, ge_iff_le, gt_iff_lt, setF_len, toNat_cast, lenOk]; omega) (T.nd (by simp only [inK_i64, inB_i, leB_i, ltB_iff, leN_iff, slOk_iff, ble_iff, blt_iff, decide_eq_true_eq, decide_eq_false_iff_not, beq_iff_eq, beq_eq_false_iff_ne, bne_iff_ne, bne_eq_false_iff_eq, Bool.not_eq_true', Bool.not_eq_false', List.length_set, ne_eq, ge_iff_le, gt_iff_lt, setF_len, toNat_cast, lenOk]; omega) (T.nd (by simp only [inK_i64, inB_i, leB_i, ltB_iff, leN_iff, slOk_iff, ble_iff, blt_iff, decide_eq_true_eq, decide_eq_false_iff_not, beq_iff_eq, beq_eq_false_iff_ne, bne_iff_ne, bne_eq_false_iff_eq, Bool.not_eq_true', Bool.not_eq_false', List.length_set, ne_eq, ge_iff_le, gt_iff_lt, setF_len, toNat_cast, lenOk]; omega) (T.af (by simp only [inK_i64, inB_i, leB_i, ltB_iff, leN_iff, slOk_iff, ble_iff, blt_iff, decide_eq_true_eq, decide_eq_false_iff_not, beq_iff_eq, beq_eq_false_iff_ne, bne_iff_ne, bne_eq_false_iff_eq, Bool.not_eq_true', Bool.not_eq_false', List.length_set, ne_eq, ge_iff_le, gt_iff_lt, setF_len, toNat_cast, lenOk]; omega) (T.nd (by simp only [inK_i64, inB_i, leB_i, ltB_iff, leN_iff, slOk_iff, ble_iff, blt_iff, decide_eq_true_eq, decide_eq_false_iff_not, beq_iff_eq, beq_eq_false_iff_ne, bne_iff_ne, bne_eq_false_iff_eq, Bool.not_eq_true', Bool.not_eq_false', List.length_set, ne_eq, ge_iff_le, gt_iff_lt, setF_len, toNat_cast, lenOk]; omega) (T.nd (by simp only [inK_i64, inB_i, leB_i, ltB_iff, leN_iff, slOk_iff, ble_iff, blt_iff, decide_eq_true_eq, decide_eq_false_iff_not, beq_iff_eq, beq_eq_false_iff_ne, bne_iff_ne, bne_eq_false_iff_eq, Bool.not_eq_true', Bool.not_eq_false', List.length_set, ne_eq, ge_iff_le, gt_iff_lt, setF_len, toNat_cast, lenOk]; omega) (T.nd (by simp only [inK_i64, inB_i, leB_i, ltB_iff, leN_iff, slOk_iff, ble_iff, blt_iff, decide_eq_true_eq, decide_eq_false_iff_not, beq_iff_eq, beq_eq_false_iff_ne, bne_iff_ne, bne_eq_false_iff_eq, Bool.not_eq_true', Bool.not_eq_false', List.length_set, ne_eq, ge_iff_le, gt_iff_lt, setF_len, toNat_cast, lenOk]; omega) (T.nd (by simp only [inK_i64, inB_i, leB_i, ltB_iff, leN_iff, slOk_iff, ble_iff, blt_iff, decide_eq_true_eq, decide_eq_false_iff_not, beq_iff_eq, beq_eq_false_iff_ne, bne_iff_ne, bne_eq_false_iff_eq, Bool.not_eq_true', Bool.not_eq_false', List.length_set, ne_eq, ge_iff_le, gt_iff_lt, setF_len, toNat_cast, lenOk]; omega) (T.af (by simp only [inK_i64, inB_i, leB_i, ltB_iff, leN_iff, slOk_iff, ble_iff, blt_iff, decide_eq_true_eq, decide_eq_false_iff_not, beq_iff_eq, beq_eq_false_iff_ne, bne_iff_ne, bne_eq_false_iff_eq, Bool.not_eq_true', Bool.not_eq_false', List.length_set, ne_eq, ge_iff_le, gt_iff_lt, setF_len, toNat_cast, lenOk]; omega) (T.nd (by simp only [inK_i64, inB_i, leB_i, ltB_iff, leN_iff, slOk_iff, ble_iff, blt_iff, decide_eq_true_eq, decide_eq_false_iff_not, beq_iff_eq, beq_eq_false_iff_ne, bne_iff_ne, bne_eq_false_iff_eq, Bool.not_eq_true', Bool.not_eq_false', List.length_set, ne_eq, ge_iff_le, gt_iff_lt, setF_len, toNat_cast, lenOk]; omega) rfl)))))))))
    · show (ref09_Alike_t10 _ _ _).run = _
      by_cases e : (ls.getD k []).length = 0
      · exact T.at (by simp only [inK_i64, inB_i, leB_i, ltB_iff, leN_iff, slOk_iff, ble_iff, blt_iff, decide_eq_true_eq, decide_eq_false_iff_not, beq_iff_eq, beq_eq_false_iff_ne, bne_iff_ne, bne_eq_false_iff_eq, Bool.not_eq_true', Bool.not_eq_false', List.length_set, ne_eq, ge_iff_le, gt_iff_lt, setF_len, toNat_cast, lenOk]; omega) (T.nd (by simp only [inK_i64, inB_i, leB_i, ltB_iff, leN_iff, slOk_iff, ble_iff, blt_iff, decide_eq_true_eq, decide_eq_false_iff_not, beq_iff_eq, beq_eq_false_iff_ne, bne_iff_ne, bne_eq_false_iff_eq, Bool.not_eq_true', Bool.not_eq_false', List.length_set, ne_eq, ge_iff_le, gt_iff_lt, setF_len, toNat_cast, lenOk]; omega) (T.nd (by simp only [inK_i64, inB_i, leB_i, ltB_iff, leN_iff, slOk_iff, ble_iff, blt_iff, decide_eq_true_eq, decide_eq_false_iff_not, beq_iff_eq, beq_eq_false_iff_ne, bne_iff_ne, bne_eq_false_iff_eq, Bool.not_eq_true', Bool.not_eq_false', List.length_set, ne_eq, ge_iff_le, gt_iff_lt, setF_len, toNat_cast, lenOk]; omega) (T.at (by simp only [inK_i64, inB_i, leB_i, ltB_iff, leN_iff, slOk_iff, ble_iff, blt_iff, decide_eq_true_eq, decide_eq_false_iff_not, beq_iff_eq, beq_eq_false_iff_ne, bne_iff_ne, bne_eq_false_iff_eq, Bool.not_eq_true', Bool.not_eq_false', List.length_set, ne_eq, ge_iff_le, gt_iff_lt, setF_len, toNat_cast, lenOk]; omega) rfl)))
      · have : ¬ (ls.getD k []).length = (ls.getD 0 []).length := fun q => k2 ⟨e, q⟩
        exact T.at (by simp only [inK_i64, inB_i, leB_i, ltB_iff, leN_iff, slOk_iff, ble_iff, blt_iff, decide_eq_true_eq, decide_eq_false_iff_not, beq_iff_eq, beq_eq_false_iff_ne, bne_iff_ne, bne_eq_false_iff_eq, Bool.not_eq_true', Bool.not_eq_false', List.length_set, ne_eq, ge_iff_le, gt_iff_lt, setF_len, toNat_cast, lenOk]; omega) (T.nd (by simp only [inK_i64, inB_i, leB_i, ltB_iff, leN_iff, slOk_iff, ble_iff, blt_iff, decide_eq_true_eq, decide_eq_false_iff_not, beq_iff_eq, beq_eq_false_iff_ne, bne_iff_ne, bne_eq_false_iff_eq, Bool.not_eq_true', Bool.not_eq_false', List.length_set, ne_eq, ge_iff_le, gt_iff_lt, setF_len, toNat_cast, lenOk]; omega) (T.nd (by simp only [inK_i64, inB_i, leB_i, ltB_iff, leN_iff, slOk_iff, ble_iff, blt_iff, decide_eq_true_eq, decide_eq_false_iff_not, beq_iff_eq, beq_eq_false_iff_ne, bne_iff_ne, bne_eq_false_iff_eq, Bool.not_eq_true', Bool.not_eq_false', List.length_set, ne_eq, ge_iff_le, gt_iff_lt, setF_len, toNat_cast, lenOk]; omega) (T.af (by simp only [inK_i64, inB_i, leB_i, ltB_iff, leN_iff, slOk_iff, ble_iff, blt_iff, decide_eq_true_eq, decide_eq_false_iff_not, beq_iff_eq, beq_eq_false_iff_ne, bne_iff_ne, bne_eq_false_iff_eq, Bool.not_eq_true', Bool.not_eq_false', List.length_set, ne_eq, ge_iff_le, gt_iff_lt, setF_len, toNat_cast, lenOk]; omega) (T.nd (by simp only [inK_i64, inB_i, leB_i, ltB_iff, leN_iff, slOk_iff, ble_iff, blt_iff, decide_eq_true_eq, decide_eq_false_iff_not, beq_iff_eq, beq_eq_false_iff_ne, bne_iff_ne, bne_eq_false_iff_eq, Bool.not_eq_true', Bool.not_eq_false', List.length_set, ne_eq, ge_iff_le, gt_iff_lt, setF_len, toNat_cast, lenOk]; omega) (T.nd (by simp only [inK_i64, inB_i, leB_i, ltB_iff, leN_iff, slOk_iff, ble_iff, blt_iff, decide_eq_true_eq, decide_eq_false_iff_not, beq_iff_eq, beq_eq_false_iff_ne, bne_iff_ne, bne_eq_false_iff_eq, Bool.not_eq_true', Bool.not_eq_false', List.length_set, ne_eq, ge_iff_le, gt_iff_lt, setF_len, toNat_cast, lenOk]; omega) (T.nd (by simp only [inK_i64, inB_i, leB_i, ltB_iff, leN_iff, slOk_iff, ble_iff, blt_iff, decide_eq_true_eq, decide_eq_false_iff_not, beq_iff_eq, beq_eq_false_iff_ne, bne_iff_ne, bne_eq_false_iff_eq, Bool.not_eq_true', Bool.not_eq_false', List.length_set, ne_eq, ge_iff_le, gt_iff_lt, setF_len, toNat_cast, lenOk]; omega) (T.nd (by simp only [inK_i64, inB_i, leB_i, ltB_iff, leN_iff, slOk_iff, ble_iff, blt_iff, decide_eq_true_eq, decide_eq_false_iff_not, beq_iff_eq, beq_eq_false_iff_ne, bne_iff_ne, bne_eq_false_iff_eq, Bool.not_eq_true', Bool.not_eq_false', List.length_set, ne_eq, ge_iff_le, gt_iff_lt, setF_len, toNat_cast, lenOk]; omega) (T.at (by simp only [inK_i64, inB_i, leB_i, ltB_iff, leN_iff, slOk_iff, ble_iff, blt_iff, decide_eq_true_eq, decide_eq_false_iff_not, beq_iff_eq, beq_eq_false_iff_ne, bne_iff_ne, bne_eq_false_iff_eq, Bool.not_eq_true', Bool.not_eq_false', List.length_set, ne_eq, ge_iff_le, gt_iff_lt, setF_len, toNat_cast, lenOk]; omega) rfl))))))))
  · refine toX_of (seqM_in rfl (seqM_in (a := ()) (loopM_at (fun j => j) 0 rfl (fun j hj => absurd hj (Nat.not_lt_zero _)) (T.af (by simp only [inK_i64, inB_i, leB_i, ltB_iff, leN_iff, slOk_iff, ble_iff, blt_iff, decide_eq_true_eq, decide_eq_false_iff_not, beq_iff_eq, beq_eq_false_iff_ne, bne_iff_ne, bne_eq_false_iff_eq, Bool.not_eq_true', Bool.not_eq_false', List.length_set, ne_eq, ge_iff_le, gt_iff_lt, setF_len, toNat_cast, lenOk]; omega) rfl)) (seqM_in (a := false) ?_ rfl)))
    exact T.af (by simp only [inK_i64, inB_i, leB_i, ltB_iff, leN_iff, slOk_iff, ble_iff, blt_iff, decide_eq_true_eq, decide_eq_false_iff_not, beq_iff_eq, beq_eq_false_iff_ne, bne_iff_ne, bne_eq_false_iff_eq, Bool.not_eq_true', Bool.not_eq_false', List.length_set, ne_eq, ge_iff_le, gt_iff_lt, setF_len, toNat_cast, lenOk]; omega) rfl

-- the factor
def fcY (ls : List (List Nat)) (j m : Nat) : Nat := sumF (fun r => fmul ((ls.getD m []).getD r 0) ((ls.getD j []).getD r 0)) (ls.getD j []).length
def fcS (ls : List (List Nat)) (n j i : Nat) (t : List Nat) : Nat := sumF (fun q => fmul (t.getD (i * n + (i + q)) 0) (fcY ls j (i + q))) (j - i)
def fcI (ls : List (List Nat)) (ts : List Nat) (n j i : Nat) (t : List Nat) : List Nat := t.set (i * n + j) (fneg (fmul (ts.getD j 0) (fcS ls n j i t)))
def fcJ (ls : List (List Nat)) (ts : List Nat) (n j : Nat) (t : List Nat) : List Nat := iterF (fcI ls ts n j) (t.set (j * n + j) (ts.getD j 0)) j
def fcF (ls : List (List Nat)) (ts : List Nat) (n : Nat) : Nat → List Nat := iterF (fcJ ls ts n) (List.replicate (n * n) 0)

theorem iterF_len {f : Nat → List Nat → List Nat} {a : List Nat} (h : ∀ i l, (f i l).length = l.length) : ∀ {n : Nat}, (iterF f a n).length = a.length
  | 0 => rfl
  | n + 1 => by simp only [iterF]; rw [h]; exact iterF_len h
theorem fcJ_len (ls : List (List Nat)) (ts : List Nat) (n j : Nat) (t : List Nat) : (fcJ ls ts n j t).length = t.length := by
  unfold fcJ; rw [iterF_len fun i l => by simp [fcI]]; simp
theorem fcF_len {ls : List (List Nat)} {ts : List Nat} {n j : Nat} : (fcF ls ts n j).length = n * n := by
  unfold fcF; rw [iterF_len fun i l => fcJ_len ls ts n i l]; simp

theorem sum3_spec {ls : List (List Nat)} {v : List Nat} {n m : Nat} (hm : m < ls.length) (hn : n ≤ (ls.getD m []).length) (hv : n ≤ v.length) (hb : n ≤ 9223372036854775807) :
    reflect_sum_v3_F (n : Int) ls.length ls (m : Int) v = some (.r0 (sumF (fun r => fmul ((ls.getD m []).getD r 0) (v.getD r 0)) n)) := by
  refine toX_of (seqM_in rfl (seqM_in (loopM_at (fun j => (sumF (fun r => fmul ((ls.getD m []).getD r 0) (v.getD r 0)) j, j)) n rfl (fun j hj => ?_) ?_) rfl))
  · show (reflect_sum_v3_t9 _ _ _ _ _ _ _).run = _
    unfold reflect_sum_v3_t9
    rw [toNat_cast]
    exact T.at (by simp only [inK_i64, inB_i, leB_i, ltB_iff, leN_iff, slOk_iff, ble_iff, blt_iff, decide_eq_true_eq, decide_eq_false_iff_not, beq_iff_eq, beq_eq_false_iff_ne, bne_iff_ne, bne_eq_false_iff_eq, Bool.not_eq_true', Bool.not_eq_false', List.length_set, ne_eq, ge_iff_le, gt_iff_lt, setF_len, toNat_cast, lenOk]; omega) (T.nd (by simp only [inK_i64, inB_i, leB_i, ltB_iff, leN_iff, slOk_iff, ble_iff, blt_iff, decide_eq_true_eq, decide_eq_false_iff_not, beq_iff_eq, beq_eq_false_iff_ne, bne_iff_ne, bne_eq_false_iff_eq, Bool.not_eq_true', Bool.not_eq_false', List.length_set, ne_eq, ge_iff_le, gt_iff_lt, setF_len, toNat_cast, lenOk]; omega) (T.nd (by simp only [inK_i64, inB_i, leB_i, ltB_iff, leN_iff, slOk_iff, ble_iff, blt_iff, decide_eq_true_eq, decide_eq_false_iff_not, beq_iff_eq, beq_eq_false_iff_ne, bne_iff_ne, bne_eq_false_iff_eq, Bool.not_eq_true', Bool.not_eq_false', List.length_set, ne_eq, ge_iff_le, gt_iff_lt, setF_len, toNat_cast, lenOk]; omega) (T.nd (by simp only [inK_i64, inB_i, leB_i, ltB_iff, leN_iff, slOk_iff, ble_iff, blt_iff, decide_eq_true_eq, decide_eq_false_iff_not, beq_iff_eq, beq_eq_false_iff_ne, bne_iff_ne, bne_eq_false_iff_eq, Bool.not_eq_true', Bool.not_eq_false', List.length_set, ne_eq, ge_iff_le, gt_iff_lt, setF_len, toNat_cast, lenOk]; omega) (T.nd (by simp only [inK_i64, inB_i, leB_i, ltB_iff, leN_iff, slOk_iff, ble_iff, blt_iff, decide_eq_true_eq, decide_eq_false_iff_not, beq_iff_eq, beq_eq_false_iff_ne, bne_iff_ne, bne_eq_false_iff_eq, Bool.not_eq_true', Bool.not_eq_false', List.length_set, ne_eq, ge_iff_le, gt_iff_lt, setF_len, toNat_cast, lenOk]; omega) (T.nd (by simp only [inK_i64, inB_i, leB_i, ltB_iff, leN_iff, slOk_iff, ble_iff, blt_iff, decide_eq_true_eq, decide_eq_false_iff_not, beq_iff_eq, beq_eq_false_iff_ne, bne_iff_ne, bne_eq_false_iff_eq, Bool.not_eq_true', Bool.not_eq_false', List.length_set, ne_eq, ge_iff_le, gt_iff_lt, setF_len, toNat_cast, lenOk]; omega) (T.nd (by simp only [inK_i64, inB_i, leB_i, ltB_iff, leN_iff, slOk_iff, ble_iff, blt_iff, decide_eq_true_eq, decide_eq_false_iff_not, beq_iff_eq, beq_eq_false_iff_ne, bne_iff_ne, bne_eq_false_iff_eq, Bool.not_eq_true', Bool.not_eq_false', List.length_set, ne_eq, ge_iff_le, gt_iff_lt, setF_len, toNat_cast, lenOk]; omega) (T.nd (by simp only [inK_i64, inB_i, leB_i, ltB_iff, leN_iff, slOk_iff, ble_iff, blt_iff, decide_eq_true_eq, decide_eq_false_iff_not, beq_iff_eq, beq_eq_false_iff_ne, bne_iff_ne, bne_eq_false_iff_eq, Bool.not_eq_true', Bool.not_eq_false', List.length_set, ne_eq, ge_iff_le, gt_iff_lt, setF_len, toNat_cast, lenOk]; omega) rfl)))))))
  · exact T.af (by simp only [inK_i64, inB_i, leB_i, ltB_iff, leN_iff, slOk_iff, ble_iff, blt_iff, decide_eq_true_eq, decide_eq_false_iff_not, beq_iff_eq, beq_eq_false_iff_ne, bne_iff_ne, bne_eq_false_iff_eq, Bool.not_eq_true', Bool.not_eq_false', List.length_set, ne_eq, ge_iff_le, gt_iff_lt, setF_len, toNat_cast, lenOk]; omega) rfl

theorem sum4_spec {t y : List Nat} {i n d : Nat} (hi : ∀ q, q < d → i * n + (i + q) < t.length) (hy : i + d ≤ y.length) (hL : t.length ≤ 1000000000) (hx : i ≤ 1000000000) (hd : y.length ≤ 1000000000) :
    reflect_sum_v4_F (d : Int) t (i : Int) (n : Int) y = some (.r0 (sumF (fun q => fmul (t.getD (i * n + (i + q)) 0) (y.getD (i + q) 0)) d)) := by
  refine toX_of (seqM_in rfl (seqM_in (loopM_at (fun j => (sumF (fun q => fmul (t.getD (i * n + (i + q)) 0) (y.getD (i + q) 0)) j, j)) d rfl (fun j hj => ?_) ?_) rfl))
  · have h := idxOb (x := i) (hi j hj) hL hx
    have h' := idxOb (x := i) (c := n) (k := i) (L := t.length) (by have := hi j hj; omega) hL hx
    show (reflect_sum_v4_t9 _ _ _ _ _ _ _).run = _
    unfold reflect_sum_v4_t9
    rw [Int.add_assoc, addc]
    refine T.at (by simp only [inK_i64, inB_i, leB_i, ltB_iff, leN_iff, slOk_iff, ble_iff, blt_iff, decide_eq_true_eq, decide_eq_false_iff_not, beq_iff_eq, beq_eq_false_iff_ne, bne_iff_ne, bne_eq_false_iff_eq, Bool.not_eq_true', Bool.not_eq_false', List.length_set, ne_eq, ge_iff_le, gt_iff_lt, setF_len, toNat_cast, lenOk]; omega) (T.nd h.b (T.nd h'.c (T.nd h.c (T.nd h.d (T.nd h.e (T.nd (by simp only [inK_i64, inB_i, leB_i, ltB_iff, leN_iff, slOk_iff, ble_iff, blt_iff, decide_eq_true_eq, decide_eq_false_iff_not, beq_iff_eq, beq_eq_false_iff_ne, bne_iff_ne, bne_eq_false_iff_eq, Bool.not_eq_true', Bool.not_eq_false', List.length_set, ne_eq, ge_iff_le, gt_iff_lt, setF_len, toNat_cast, lenOk]; omega) (T.nd (by simp only [inK_i64, inB_i, leB_i, ltB_iff, leN_iff, slOk_iff, ble_iff, blt_iff, decide_eq_true_eq, decide_eq_false_iff_not, beq_iff_eq, beq_eq_false_iff_ne, bne_iff_ne, bne_eq_false_iff_eq, Bool.not_eq_true', Bool.not_eq_false', List.length_set, ne_eq, ge_iff_le, gt_iff_lt, setF_len, toNat_cast, lenOk]; omega) (T.nd (by simp only [inK_i64, inB_i, leB_i, ltB_iff, leN_iff, slOk_iff, ble_iff, blt_iff, decide_eq_true_eq, decide_eq_false_iff_not, beq_iff_eq, beq_eq_false_iff_ne, bne_iff_ne, bne_eq_false_iff_eq, Bool.not_eq_true', Bool.not_eq_false', List.length_set, ne_eq, ge_iff_le, gt_iff_lt, setF_len, toNat_cast, lenOk]; omega) (T.nd (by simp only [inK_i64, inB_i, leB_i, ltB_iff, leN_iff, slOk_iff, ble_iff, blt_iff, decide_eq_true_eq, decide_eq_false_iff_not, beq_iff_eq, beq_eq_false_iff_ne, bne_iff_ne, bne_eq_false_iff_eq, Bool.not_eq_true', Bool.not_eq_false', List.length_set, ne_eq, ge_iff_le, gt_iff_lt, setF_len, toNat_cast, lenOk]; omega) ?_)))))))))
    rw [h.f]; rfl
  · exact T.af (by simp only [inK_i64, inB_i, leB_i, ltB_iff, leN_iff, slOk_iff, ble_iff, blt_iff, decide_eq_true_eq, decide_eq_false_iff_not, beq_iff_eq, beq_eq_false_iff_ne, bne_iff_ne, bne_eq_false_iff_eq, Bool.not_eq_true', Bool.not_eq_false', List.length_set, ne_eq, ge_iff_le, gt_iff_lt, setF_len, toNat_cast, lenOk]; omega) rfl

theorem fc_bd {i j n : Nat} (hi : i < n) (hj : j < n) (hn : n ≤ 512) : i * n + j < n * n ∧ n * n ≤ 262144 := ⟨idx_lt hi hj, Nat.mul_le_mul hn hn⟩

theorem Factor_in1 {ls : List (List Nat)} {j : Nat} {y : List Nat} (h : AlikeP ls) (hn : ls.length ≤ 500) (hj : j < ls.length) (hy : y.length = ls.length) (hL : (ls.getD j []).length ≤ 9223372036854775807) :
    loopM (reflect_Factor_m51 ls.length ls j (ls.getD j []) (ls.getD j []).length) (0, y) = some (.inl (setF (fun i => i) (fcY ls j) y j)) := by
  refine loopM_at (fun i => (i, setF (fun i => i) (fcY ls j) y i)) j rfl (fun i hi => ?_) ?_
  · show seqM (reflect_Factor_t49 _ _ _ _ _ _ _).run _ = _
    refine seqM_in (a := setF (fun i => i) (fcY ls j) y (i + 1)) ?_ (T.nd (by simp only [inK_i64, inB_i, leB_i, ltB_iff, leN_iff, slOk_iff, ble_iff, blt_iff, decide_eq_true_eq, decide_eq_false_iff_not, beq_iff_eq, beq_eq_false_iff_ne, bne_iff_ne, bne_eq_false_iff_eq, Bool.not_eq_true', Bool.not_eq_false', List.length_set, ne_eq, ge_iff_le, gt_iff_lt, setF_len, toNat_cast, lenOk]; omega) rfl)
    unfold reflect_Factor_t49
    have e := h.2.2 i (by omega)
    have e' := h.2.2 j hj
    rw [cutL_all, cutL_all, sum3_spec (by omega) (by omega) (by omega) (by omega)]
    exact T.at (by simp only [inK_i64, inB_i, leB_i, ltB_iff, leN_iff, slOk_iff, ble_iff, blt_iff, decide_eq_true_eq, decide_eq_false_iff_not, beq_iff_eq, beq_eq_false_iff_ne, bne_iff_ne, bne_eq_false_iff_eq, Bool.not_eq_true', Bool.not_eq_false', List.length_set, ne_eq, ge_iff_le, gt_iff_lt, setF_len, toNat_cast, lenOk]; omega) (T.nd (cut_ok _) (T.nd (slOk_all _) (T.nd rfl (T.nd (by simp only [inK_i64, inB_i, leB_i, ltB_iff, leN_iff, slOk_iff, ble_iff, blt_iff, decide_eq_true_eq, decide_eq_false_iff_not, beq_iff_eq, beq_eq_false_iff_ne, bne_iff_ne, bne_eq_false_iff_eq, Bool.not_eq_true', Bool.not_eq_false', List.length_set, ne_eq, ge_iff_le, gt_iff_lt, setF_len, toNat_cast, lenOk]; omega) (T.nd (by simp only [inK_i64, inB_i, leB_i, ltB_iff, leN_iff, slOk_iff, ble_iff, blt_iff, decide_eq_true_eq, decide_eq_false_iff_not, beq_iff_eq, beq_eq_false_iff_ne, bne_iff_ne, bne_eq_false_iff_eq, Bool.not_eq_true', Bool.not_eq_false', List.length_set, ne_eq, ge_iff_le, gt_iff_lt, setF_len, toNat_cast, lenOk]; omega) rfl)))))
  · show seqM (reflect_Factor_t49 _ _ _ _ _ _ _).run _ = _
    exact seqM_out (T.af (by simp only [inK_i64, inB_i, leB_i, ltB_iff, leN_iff, slOk_iff, ble_iff, blt_iff, decide_eq_true_eq, decide_eq_false_iff_not, beq_iff_eq, beq_eq_false_iff_ne, bne_iff_ne, bne_eq_false_iff_eq, Bool.not_eq_true', Bool.not_eq_false', List.length_set, ne_eq, ge_iff_le, gt_iff_lt, setF_len, toNat_cast, lenOk]; omega) rfl)

theorem Factor_in2 {ls : List (List Nat)} {ts : List Nat} {j n : Nat} {y t : List Nat} (hn : n ≤ 500) (hj : j < n) (hy : y.length = n) (hyv : ∀ i, i < j → y.getD i 0 = fcY ls j i) (ht : t.length = n * n) :
    loopM (reflect_Factor_m56 n (n * n) j (ts.getD j 0) y) (0, t) = some (.inl (iterF (fcI ls ts n j) t j)) := by
  have hlen : ∀ i, (iterF (fcI ls ts n j) t i).length = n * n := fun i => by rw [iterF_len fun i l => by simp [fcI]]; exact ht
  refine loopM_at (fun i => (i, iterF (fcI ls ts n j) t i)) j rfl (fun i hi => ?_) ?_
  · show seqM (reflect_Factor_t54 _ _ _ _ _ _ _).run _ = _
    refine seqM_in (a := iterF (fcI ls ts n j) t (i + 1)) ?_ (T.nd (by simp only [inK_i64, inB_i, leB_i, ltB_iff, leN_iff, slOk_iff, ble_iff, blt_iff, decide_eq_true_eq, decide_eq_false_iff_not, beq_iff_eq, beq_eq_false_iff_ne, bne_iff_ne, bne_eq_false_iff_eq, Bool.not_eq_true', Bool.not_eq_false', List.length_set, ne_eq, ge_iff_le, gt_iff_lt, setF_len, toNat_cast, lenOk]; omega) rfl)
    unfold reflect_Factor_t54
    have hl := hlen i
    obtain ⟨b1, b2⟩ := fc_bd (i := i) (j := j) (n := n) (by omega) hj (by omega)
    have e : ((j : Nat) : Int) - ((i : Nat) : Int) = ((j - i : Nat) : Int) := by omega
    rw [cutL_to hl, cutL_to hy, e, sum4_spec (fun q hq => by rw [hl]; exact idx_lt (by omega) (by omega)) (by omega) (by omega) (by omega) (by omega)]
    refine T.at (by simp only [inK_i64, inB_i, leB_i, ltB_iff, leN_iff, slOk_iff, ble_iff, blt_iff, decide_eq_true_eq, decide_eq_false_iff_not, beq_iff_eq, beq_eq_false_iff_ne, bne_iff_ne, bne_eq_false_iff_eq, Bool.not_eq_true', Bool.not_eq_false', List.length_set, ne_eq, ge_iff_le, gt_iff_lt, setF_len, toNat_cast, lenOk]; omega) (T.nd (by simp only [inK_i64, inB_i, leB_i, ltB_iff, leN_iff, slOk_iff, ble_iff, blt_iff, decide_eq_true_eq, decide_eq_false_iff_not, beq_iff_eq, beq_eq_false_iff_ne, bne_iff_ne, bne_eq_false_iff_eq, Bool.not_eq_true', Bool.not_eq_false', List.length_set, ne_eq, ge_iff_le, gt_iff_lt, setF_len, toNat_cast, lenOk]; omega) (T.nd (by simp only [inK_i64, inB_i, leB_i, ltB_iff, leN_iff, slOk_iff, ble_iff, blt_iff, decide_eq_true_eq, decide_eq_false_iff_not, beq_iff_eq, beq_eq_false_iff_ne, bne_iff_ne, bne_eq_false_iff_eq, Bool.not_eq_true', Bool.not_eq_false', List.length_set, ne_eq, ge_iff_le, gt_iff_lt, setF_len, toNat_cast, lenOk]; omega) (T.nd (by simp only [inK_i64, inB_i, leB_i, ltB_iff, leN_iff, slOk_iff, ble_iff, blt_iff, decide_eq_true_eq, decide_eq_false_iff_not, beq_iff_eq, beq_eq_false_iff_ne, bne_iff_ne, bne_eq_false_iff_eq, Bool.not_eq_true', Bool.not_eq_false', List.length_set, ne_eq, ge_iff_le, gt_iff_lt, setF_len, toNat_cast, lenOk]; omega) (T.nd (by simp only [inK_i64, inB_i, leB_i, ltB_iff, leN_iff, slOk_iff, ble_iff, blt_iff, decide_eq_true_eq, decide_eq_false_iff_not, beq_iff_eq, beq_eq_false_iff_ne, bne_iff_ne, bne_eq_false_iff_eq, Bool.not_eq_true', Bool.not_eq_false', List.length_set, ne_eq, ge_iff_le, gt_iff_lt, setF_len, toNat_cast, lenOk]; omega) (T.nd (by simp only [inK_i64, inB_i, leB_i, ltB_iff, leN_iff, slOk_iff, ble_iff, blt_iff, decide_eq_true_eq, decide_eq_false_iff_not, beq_iff_eq, beq_eq_false_iff_ne, bne_iff_ne, bne_eq_false_iff_eq, Bool.not_eq_true', Bool.not_eq_false', List.length_set, ne_eq, ge_iff_le, gt_iff_lt, setF_len, toNat_cast, lenOk]; omega) (T.nd rfl (T.nd (by simp only [inK_i64, inB_i, leB_i, ltB_iff, leN_iff, slOk_iff, ble_iff, blt_iff, decide_eq_true_eq, decide_eq_false_iff_not, beq_iff_eq, beq_eq_false_iff_ne, bne_iff_ne, bne_eq_false_iff_eq, Bool.not_eq_true', Bool.not_eq_false', List.length_set, ne_eq, ge_iff_le, gt_iff_lt, setF_len, toNat_cast, lenOk]; omega) (T.nd (by simp only [inK_i64, inB_i, leB_i, ltB_iff, leN_iff, slOk_iff, ble_iff, blt_iff, decide_eq_true_eq, decide_eq_false_iff_not, beq_iff_eq, beq_eq_false_iff_ne, bne_iff_ne, bne_eq_false_iff_eq, Bool.not_eq_true', Bool.not_eq_false', List.length_set, ne_eq, ge_iff_le, gt_iff_lt, setF_len, toNat_cast, lenOk]; omega) ?_))))))))
    have ev : sumF (fun q => fmul ((iterF (fcI ls ts n j) t i).getD (i * n + (i + q)) 0) (y.getD (i + q) 0)) (j - i) = fcS ls n j i (iterF (fcI ls ts n j) t i) :=
      sumF_congr fun q hq => by rw [hyv _ (by omega)]
    simp only [reflect_sum_v4_p0_0, ev]; rfl
  · show seqM (reflect_Factor_t54 _ _ _ _ _ _ _).run _ = _
    exact seqM_out (T.af (by simp only [inK_i64, inB_i, leB_i, ltB_iff, leN_iff, slOk_iff, ble_iff, blt_iff, decide_eq_true_eq, decide_eq_false_iff_not, beq_iff_eq, beq_eq_false_iff_ne, bne_iff_ne, bne_eq_false_iff_eq, Bool.not_eq_true', Bool.not_eq_false', List.length_set, ne_eq, ge_iff_le, gt_iff_lt, setF_len, toNat_cast, lenOk]; omega) rfl)

/-- The y list, behind j rounds. -/
def fcYs (ls : List (List Nat)) (n : Nat) : Nat → List Nat
  | 0 => List.replicate n 0
  | j + 1 => setF (fun i => i) (fcY ls j) (fcYs ls n j) j
theorem fcYs_len {ls : List (List Nat)} {n : Nat} : ∀ {j : Nat}, (fcYs ls n j).length = n
  | 0 => by simp [fcYs]
  | j + 1 => by simp only [fcYs, setF_len]; exact fcYs_len

theorem Factor_spec {ls : List (List Nat)} {ts : List Nat} (h : AlikeP ls) (hn : ls.length ≤ 500) (ht : ts.length = ls.length) (hL : (ls.getD 0 []).length ≤ 9223372036854775807) :
    reflect_Factor_F ls.length ls ts = some (.r1 ls.length (ls.length * ls.length) (fcF ls ts ls.length ls.length)) := by
  have hnn : ls.length * ls.length ≤ 250000 := Nat.mul_le_mul hn hn
  refine toX_of (seqM_in (a := false) ?_ (seqM_in (a := (ls.length * ls.length, List.replicate (ls.length * ls.length) 0, List.replicate ls.length 0)) ?_ (seqM_in (a := fcF ls ts ls.length ls.length) ?_ rfl)))
  · unfold reflect_Factor_t42
    rw [cutL_all, cutL_to ht, alike_t (by omega) ht h]
    exact T.nd (cut_ok _) (T.nd rfl (T.af rfl (by rw [decide_eq_false (by omega)]; rfl)))
  · unfold reflect_Factor_t43
    generalize ls.length * ls.length = nn at hnn ⊢
    exact T.af rfl (T.nd (by simp only [inK_i64, inB_i, leB_i, ltB_iff, leN_iff, slOk_iff, ble_iff, blt_iff, decide_eq_true_eq, decide_eq_false_iff_not, beq_iff_eq, beq_eq_false_iff_ne, bne_iff_ne, bne_eq_false_iff_eq, Bool.not_eq_true', Bool.not_eq_false', List.length_set, ne_eq, ge_iff_le, gt_iff_lt, setF_len, toNat_cast, lenOk]; omega) (T.nd (by simp only [inK_i64, inB_i, leB_i, ltB_iff, leN_iff, slOk_iff, ble_iff, blt_iff, decide_eq_true_eq, decide_eq_false_iff_not, beq_iff_eq, beq_eq_false_iff_ne, bne_iff_ne, bne_eq_false_iff_eq, Bool.not_eq_true', Bool.not_eq_false', List.length_set, ne_eq, ge_iff_le, gt_iff_lt, setF_len, toNat_cast, lenOk]; omega) (T.nd (by simp only [inK_i64, inB_i, leB_i, ltB_iff, leN_iff, slOk_iff, ble_iff, blt_iff, decide_eq_true_eq, decide_eq_false_iff_not, beq_iff_eq, beq_eq_false_iff_ne, bne_iff_ne, bne_eq_false_iff_eq, Bool.not_eq_true', Bool.not_eq_false', List.length_set, ne_eq, ge_iff_le, gt_iff_lt, setF_len, toNat_cast, lenOk]; omega) (T.nd (by simp only [inK_i64, inB_i, leB_i, ltB_iff, leN_iff, slOk_iff, ble_iff, blt_iff, decide_eq_true_eq, decide_eq_false_iff_not, beq_iff_eq, beq_eq_false_iff_ne, bne_iff_ne, bne_eq_false_iff_eq, Bool.not_eq_true', Bool.not_eq_false', List.length_set, ne_eq, ge_iff_le, gt_iff_lt, setF_len, toNat_cast, lenOk]; omega) (T.nd (by simp only [inK_i64, inB_i, leB_i, ltB_iff, leN_iff, slOk_iff, ble_iff, blt_iff, decide_eq_true_eq, decide_eq_false_iff_not, beq_iff_eq, beq_eq_false_iff_ne, bne_iff_ne, bne_eq_false_iff_eq, Bool.not_eq_true', Bool.not_eq_false', List.length_set, ne_eq, ge_iff_le, gt_iff_lt, setF_len, toNat_cast, lenOk]; omega) (T.nd (by simp only [inK_i64, inB_i, leB_i, ltB_iff, leN_iff, slOk_iff, ble_iff, blt_iff, decide_eq_true_eq, decide_eq_false_iff_not, beq_iff_eq, beq_eq_false_iff_ne, bne_iff_ne, bne_eq_false_iff_eq, Bool.not_eq_true', Bool.not_eq_false', List.length_set, ne_eq, ge_iff_le, gt_iff_lt, setF_len, toNat_cast, lenOk]; omega) (T.nd (by simp only [inK_i64, inB_i, leB_i, ltB_iff, leN_iff, slOk_iff, ble_iff, blt_iff, decide_eq_true_eq, decide_eq_false_iff_not, beq_iff_eq, beq_eq_false_iff_ne, bne_iff_ne, bne_eq_false_iff_eq, Bool.not_eq_true', Bool.not_eq_false', List.length_set, ne_eq, ge_iff_le, gt_iff_lt, setF_len, toNat_cast, lenOk]; omega) (T.nd (by simp only [inK_i64, inB_i, leB_i, ltB_iff, leN_iff, slOk_iff, ble_iff, blt_iff, decide_eq_true_eq, decide_eq_false_iff_not, beq_iff_eq, beq_eq_false_iff_ne, bne_iff_ne, bne_eq_false_iff_eq, Bool.not_eq_true', Bool.not_eq_false', List.length_set, ne_eq, ge_iff_le, gt_iff_lt, setF_len, toNat_cast, lenOk]; omega) (T.nd (by simp only [inK_i64, inB_i, leB_i, ltB_iff, leN_iff, slOk_iff, ble_iff, blt_iff, decide_eq_true_eq, decide_eq_false_iff_not, beq_iff_eq, beq_eq_false_iff_ne, bne_iff_ne, bne_eq_false_iff_eq, Bool.not_eq_true', Bool.not_eq_false', List.length_set, ne_eq, ge_iff_le, gt_iff_lt, setF_len, toNat_cast, lenOk]; omega) rfl)))))))))
  · refine loopM_at (fun j => (j, fcF ls ts ls.length j, fcYs ls ls.length j)) ls.length rfl (fun j hj => ?_) ?_
    · show seqM (reflect_Factor_t45 _ _ _).run _ = _
      obtain ⟨b1, b2⟩ := fc_bd (i := j) (j := j) hj hj (by omega)
      have e0 := h.2.2 j hj
      refine seqM_in (a := ()) (T.at (by simp only [inK_i64, inB_i, leB_i, ltB_iff, leN_iff, slOk_iff, ble_iff, blt_iff, decide_eq_true_eq, decide_eq_false_iff_not, beq_iff_eq, beq_eq_false_iff_ne, bne_iff_ne, bne_eq_false_iff_eq, Bool.not_eq_true', Bool.not_eq_false', List.length_set, ne_eq, ge_iff_le, gt_iff_lt, setF_len, toNat_cast, lenOk]; omega) rfl) (seqM_in (joinM_in (a := (fcF ls ts ls.length (j + 1), fcYs ls ls.length (j + 1))) ?_) (T.nd (by simp only [inK_i64, inB_i, leB_i, ltB_iff, leN_iff, slOk_iff, ble_iff, blt_iff, decide_eq_true_eq, decide_eq_false_iff_not, beq_iff_eq, beq_eq_false_iff_ne, bne_iff_ne, bne_eq_false_iff_eq, Bool.not_eq_true', Bool.not_eq_false', List.length_set, ne_eq, ge_iff_le, gt_iff_lt, setF_len, toNat_cast, lenOk]; omega) rfl))
      refine seqM_in (a := (ls.getD j [], (ls.getD j []).length, ts.getD j 0, (fcF ls ts ls.length j).set (j * ls.length + j) (ts.getD j 0))) ?_ (seqM_in (Factor_in1 h hn hj fcYs_len (by omega)) (seqM_in rfl (seqM_in (Factor_in2 (ls := ls) (ts := ts) hn hj ?_ ?_ ?_) rfl)))
      · unfold reflect_Factor_t47
        have := @fcF_len ls ts ls.length j
        exact T.nd (by simp only [inK_i64, inB_i, leB_i, ltB_iff, leN_iff, slOk_iff, ble_iff, blt_iff, decide_eq_true_eq, decide_eq_false_iff_not, beq_iff_eq, beq_eq_false_iff_ne, bne_iff_ne, bne_eq_false_iff_eq, Bool.not_eq_true', Bool.not_eq_false', List.length_set, ne_eq, ge_iff_le, gt_iff_lt, setF_len, toNat_cast, lenOk]; omega) (T.nd (by simp only [inK_i64, inB_i, leB_i, ltB_iff, leN_iff, slOk_iff, ble_iff, blt_iff, decide_eq_true_eq, decide_eq_false_iff_not, beq_iff_eq, beq_eq_false_iff_ne, bne_iff_ne, bne_eq_false_iff_eq, Bool.not_eq_true', Bool.not_eq_false', List.length_set, ne_eq, ge_iff_le, gt_iff_lt, setF_len, toNat_cast, lenOk]; omega) (T.nd (by simp only [inK_i64, inB_i, leB_i, ltB_iff, leN_iff, slOk_iff, ble_iff, blt_iff, decide_eq_true_eq, decide_eq_false_iff_not, beq_iff_eq, beq_eq_false_iff_ne, bne_iff_ne, bne_eq_false_iff_eq, Bool.not_eq_true', Bool.not_eq_false', List.length_set, ne_eq, ge_iff_le, gt_iff_lt, setF_len, toNat_cast, lenOk]; omega) (T.nd (by simp only [inK_i64, inB_i, leB_i, ltB_iff, leN_iff, slOk_iff, ble_iff, blt_iff, decide_eq_true_eq, decide_eq_false_iff_not, beq_iff_eq, beq_eq_false_iff_ne, bne_iff_ne, bne_eq_false_iff_eq, Bool.not_eq_true', Bool.not_eq_false', List.length_set, ne_eq, ge_iff_le, gt_iff_lt, setF_len, toNat_cast, lenOk]; omega) (T.nd (by simp only [inK_i64, inB_i, leB_i, ltB_iff, leN_iff, slOk_iff, ble_iff, blt_iff, decide_eq_true_eq, decide_eq_false_iff_not, beq_iff_eq, beq_eq_false_iff_ne, bne_iff_ne, bne_eq_false_iff_eq, Bool.not_eq_true', Bool.not_eq_false', List.length_set, ne_eq, ge_iff_le, gt_iff_lt, setF_len, toNat_cast, lenOk]; omega) (T.nd (by simp only [inK_i64, inB_i, leB_i, ltB_iff, leN_iff, slOk_iff, ble_iff, blt_iff, decide_eq_true_eq, decide_eq_false_iff_not, beq_iff_eq, beq_eq_false_iff_ne, bne_iff_ne, bne_eq_false_iff_eq, Bool.not_eq_true', Bool.not_eq_false', List.length_set, ne_eq, ge_iff_le, gt_iff_lt, setF_len, toNat_cast, lenOk]; omega) (T.nd (by simp only [inK_i64, inB_i, leB_i, ltB_iff, leN_iff, slOk_iff, ble_iff, blt_iff, decide_eq_true_eq, decide_eq_false_iff_not, beq_iff_eq, beq_eq_false_iff_ne, bne_iff_ne, bne_eq_false_iff_eq, Bool.not_eq_true', Bool.not_eq_false', List.length_set, ne_eq, ge_iff_le, gt_iff_lt, setF_len, toNat_cast, lenOk]; omega) rfl))))))
      · rw [setF_len]; exact fcYs_len
      · exact fun i hi => setF_at hi (by rw [fcYs_len]; omega)
      · rw [set_len]; exact fcF_len
    · show seqM (reflect_Factor_t45 _ _ _).run _ = _
      exact seqM_out (T.af (by simp only [inK_i64, inB_i, leB_i, ltB_iff, leN_iff, slOk_iff, ble_iff, blt_iff, decide_eq_true_eq, decide_eq_false_iff_not, beq_iff_eq, beq_eq_false_iff_ne, bne_iff_ne, bne_eq_false_iff_eq, Bool.not_eq_true', Bool.not_eq_false', List.length_set, ne_eq, ge_iff_le, gt_iff_lt, setF_len, toNat_cast, lenOk]; omega) rfl)

theorem Factor_err {ls : List (List Nat)} {ts : List Nat} (h : ¬ AlikeP ls) (hn : ls.length ≤ 500) (ht : ts.length = ls.length) : reflect_Factor_F ls.length ls ts = some .r0 := by
  refine toX_of (seqM_in (a := true) ?_ (seqM_out rfl))
  unfold reflect_Factor_t42
  rw [cutL_all, cutL_to ht, alike_f (by omega) ht h]
  exact T.nd (cut_ok _) (T.nd rfl (T.at rfl rfl))
end Go.Plb.Seat

/-
  PLAIN: the document's factor; ReflectFactors.
-/
namespace Go.Plb.Seat
open Go Go.Plb
set_option linter.unusedSimpArgs false
set_option linter.unusedVariables false

theorem Factor9_y {ls : List (List Nat)} {j m : Nat} (h : AlikeP ls) (hj : j < ls.length) (hm : m < ls.length) (hL : (ls.getD 0 []).length ≤ 9223372036854775807) :
    loopM (ref09_Factor_m134 ls.length ls j m) (0, 0) = some (.inl (fcY ls j m)) := by
  have e := h.2.2 j hj
  have e' := h.2.2 m hm
  refine loopM_at (fun r => (sumF (fun r => fmul ((ls.getD m []).getD r 0) ((ls.getD j []).getD r 0)) r, r)) (ls.getD j []).length rfl (fun r hr => ?_) ?_
  · show (ref09_Factor_t133 _ _ _ _ _ _).run = _
    exact T.nd (by simp only [inK_i64, inB_i, leB_i, ltB_iff, leN_iff, slOk_iff, ble_iff, blt_iff, decide_eq_true_eq, decide_eq_false_iff_not, beq_iff_eq, beq_eq_false_iff_ne, bne_iff_ne, bne_eq_false_iff_eq, Bool.not_eq_true', Bool.not_eq_false', List.length_set, ne_eq, ge_iff_le, gt_iff_lt, setF_len, toNat_cast, lenOk]; omega) (T.nd (by simp only [inK_i64, inB_i, leB_i, ltB_iff, leN_iff, slOk_iff, ble_iff, blt_iff, decide_eq_true_eq, decide_eq_false_iff_not, beq_iff_eq, beq_eq_false_iff_ne, bne_iff_ne, bne_eq_false_iff_eq, Bool.not_eq_true', Bool.not_eq_false', List.length_set, ne_eq, ge_iff_le, gt_iff_lt, setF_len, toNat_cast, lenOk]; omega) (T.at (by simp only [inK_i64, inB_i, leB_i, ltB_iff, leN_iff, slOk_iff, ble_iff, blt_iff, decide_eq_true_eq, decide_eq_false_iff_not, beq_iff_eq, beq_eq_false_iff_ne, bne_iff_ne, bne_eq_false_iff_eq, Bool.not_eq_true', Bool.not_eq_false', List.length_set, ne_eq, ge_iff_le, gt_iff_lt, setF_len, toNat_cast, lenOk]; omega) (T.nd (by simp only [inK_i64, inB_i, leB_i, ltB_iff, leN_iff, slOk_iff, ble_iff, blt_iff, decide_eq_true_eq, decide_eq_false_iff_not, beq_iff_eq, beq_eq_false_iff_ne, bne_iff_ne, bne_eq_false_iff_eq, Bool.not_eq_true', Bool.not_eq_false', List.length_set, ne_eq, ge_iff_le, gt_iff_lt, setF_len, toNat_cast, lenOk]; omega) (T.nd (by simp only [inK_i64, inB_i, leB_i, ltB_iff, leN_iff, slOk_iff, ble_iff, blt_iff, decide_eq_true_eq, decide_eq_false_iff_not, beq_iff_eq, beq_eq_false_iff_ne, bne_iff_ne, bne_eq_false_iff_eq, Bool.not_eq_true', Bool.not_eq_false', List.length_set, ne_eq, ge_iff_le, gt_iff_lt, setF_len, toNat_cast, lenOk]; omega) (T.nd (by simp only [inK_i64, inB_i, leB_i, ltB_iff, leN_iff, slOk_iff, ble_iff, blt_iff, decide_eq_true_eq, decide_eq_false_iff_not, beq_iff_eq, beq_eq_false_iff_ne, bne_iff_ne, bne_eq_false_iff_eq, Bool.not_eq_true', Bool.not_eq_false', List.length_set, ne_eq, ge_iff_le, gt_iff_lt, setF_len, toNat_cast, lenOk]; omega) (T.nd (by simp only [inK_i64, inB_i, leB_i, ltB_iff, leN_iff, slOk_iff, ble_iff, blt_iff, decide_eq_true_eq, decide_eq_false_iff_not, beq_iff_eq, beq_eq_false_iff_ne, bne_iff_ne, bne_eq_false_iff_eq, Bool.not_eq_true', Bool.not_eq_false', List.length_set, ne_eq, ge_iff_le, gt_iff_lt, setF_len, toNat_cast, lenOk]; omega) (T.nd (by simp only [inK_i64, inB_i, leB_i, ltB_iff, leN_iff, slOk_iff, ble_iff, blt_iff, decide_eq_true_eq, decide_eq_false_iff_not, beq_iff_eq, beq_eq_false_iff_ne, bne_iff_ne, bne_eq_false_iff_eq, Bool.not_eq_true', Bool.not_eq_false', List.length_set, ne_eq, ge_iff_le, gt_iff_lt, setF_len, toNat_cast, lenOk]; omega) (T.nd (by simp only [inK_i64, inB_i, leB_i, ltB_iff, leN_iff, slOk_iff, ble_iff, blt_iff, decide_eq_true_eq, decide_eq_false_iff_not, beq_iff_eq, beq_eq_false_iff_ne, bne_iff_ne, bne_eq_false_iff_eq, Bool.not_eq_true', Bool.not_eq_false', List.length_set, ne_eq, ge_iff_le, gt_iff_lt, setF_len, toNat_cast, lenOk]; omega) (T.nd (by simp only [inK_i64, inB_i, leB_i, ltB_iff, leN_iff, slOk_iff, ble_iff, blt_iff, decide_eq_true_eq, decide_eq_false_iff_not, beq_iff_eq, beq_eq_false_iff_ne, bne_iff_ne, bne_eq_false_iff_eq, Bool.not_eq_true', Bool.not_eq_false', List.length_set, ne_eq, ge_iff_le, gt_iff_lt, setF_len, toNat_cast, lenOk]; omega) (T.nd (by simp only [inK_i64, inB_i, leB_i, ltB_iff, leN_iff, slOk_iff, ble_iff, blt_iff, decide_eq_true_eq, decide_eq_false_iff_not, beq_iff_eq, beq_eq_false_iff_ne, bne_iff_ne, bne_eq_false_iff_eq, Bool.not_eq_true', Bool.not_eq_false', List.length_set, ne_eq, ge_iff_le, gt_iff_lt, setF_len, toNat_cast, lenOk]; omega) (T.nd (by simp only [inK_i64, inB_i, leB_i, ltB_iff, leN_iff, slOk_iff, ble_iff, blt_iff, decide_eq_true_eq, decide_eq_false_iff_not, beq_iff_eq, beq_eq_false_iff_ne, bne_iff_ne, bne_eq_false_iff_eq, Bool.not_eq_true', Bool.not_eq_false', List.length_set, ne_eq, ge_iff_le, gt_iff_lt, setF_len, toNat_cast, lenOk]; omega) rfl)))))))))))
  · exact T.nd (by simp only [inK_i64, inB_i, leB_i, ltB_iff, leN_iff, slOk_iff, ble_iff, blt_iff, decide_eq_true_eq, decide_eq_false_iff_not, beq_iff_eq, beq_eq_false_iff_ne, bne_iff_ne, bne_eq_false_iff_eq, Bool.not_eq_true', Bool.not_eq_false', List.length_set, ne_eq, ge_iff_le, gt_iff_lt, setF_len, toNat_cast, lenOk]; omega) (T.nd (by simp only [inK_i64, inB_i, leB_i, ltB_iff, leN_iff, slOk_iff, ble_iff, blt_iff, decide_eq_true_eq, decide_eq_false_iff_not, beq_iff_eq, beq_eq_false_iff_ne, bne_iff_ne, bne_eq_false_iff_eq, Bool.not_eq_true', Bool.not_eq_false', List.length_set, ne_eq, ge_iff_le, gt_iff_lt, setF_len, toNat_cast, lenOk]; omega) (T.af (by simp only [inK_i64, inB_i, leB_i, ltB_iff, leN_iff, slOk_iff, ble_iff, blt_iff, decide_eq_true_eq, decide_eq_false_iff_not, beq_iff_eq, beq_eq_false_iff_ne, bne_iff_ne, bne_eq_false_iff_eq, Bool.not_eq_true', Bool.not_eq_false', List.length_set, ne_eq, ge_iff_le, gt_iff_lt, setF_len, toNat_cast, lenOk]; omega) rfl))

theorem Factor9_s {ls : List (List Nat)} {j i : Nat} {t : List Nat} (h : AlikeP ls) (hn : ls.length ≤ 500) (hj : j < ls.length) (hi : i < j) (hL : (ls.getD 0 []).length ≤ 9223372036854775807) (ht : t.length = ls.length * ls.length) :
    loopM (ref09_Factor_m137 ls.length ls (ls.length * ls.length) j i t) (0, i) = some (.inl (fcS ls ls.length j i t)) := by
  refine loopM_at (fun q => (sumF (fun q => fmul (t.getD (i * ls.length + (i + q)) 0) (fcY ls j (i + q))) q, i + q)) (j - i) rfl (fun q hq => ?_) ?_
  · show seqM (ref09_Factor_t129 _ _ _).run _ = _
    obtain ⟨b1, b2⟩ := fc_bd (i := i) (j := i + q) (n := ls.length) (by omega) (by omega) (by omega)
    refine seqM_in (a := ()) (T.at (by simp only [inK_i64, inB_i, leB_i, ltB_iff, leN_iff, slOk_iff, ble_iff, blt_iff, decide_eq_true_eq, decide_eq_false_iff_not, beq_iff_eq, beq_eq_false_iff_ne, bne_iff_ne, bne_eq_false_iff_eq, Bool.not_eq_true', Bool.not_eq_false', List.length_set, ne_eq, ge_iff_le, gt_iff_lt, setF_len, toNat_cast, lenOk]; omega) rfl) (seqM_in (joinM_in (a := sumF (fun q => fmul (t.getD (i * ls.length + (i + q)) 0) (fcY ls j (i + q))) (q + 1)) ?_) (T.nd (by simp only [inK_i64, inB_i, leB_i, ltB_iff, leN_iff, slOk_iff, ble_iff, blt_iff, decide_eq_true_eq, decide_eq_false_iff_not, beq_iff_eq, beq_eq_false_iff_ne, bne_iff_ne, bne_eq_false_iff_eq, Bool.not_eq_true', Bool.not_eq_false', List.length_set, ne_eq, ge_iff_le, gt_iff_lt, setF_len, toNat_cast, lenOk]; omega) rfl))
    refine seqM_in rfl (seqM_in (Factor9_y h hj (by omega) hL) ?_)
    exact T.nd (by simp only [inK_i64, inB_i, leB_i, ltB_iff, leN_iff, slOk_iff, ble_iff, blt_iff, decide_eq_true_eq, decide_eq_false_iff_not, beq_iff_eq, beq_eq_false_iff_ne, bne_iff_ne, bne_eq_false_iff_eq, Bool.not_eq_true', Bool.not_eq_false', List.length_set, ne_eq, ge_iff_le, gt_iff_lt, setF_len, toNat_cast, lenOk]; omega) (T.nd (by simp only [inK_i64, inB_i, leB_i, ltB_iff, leN_iff, slOk_iff, ble_iff, blt_iff, decide_eq_true_eq, decide_eq_false_iff_not, beq_iff_eq, beq_eq_false_iff_ne, bne_iff_ne, bne_eq_false_iff_eq, Bool.not_eq_true', Bool.not_eq_false', List.length_set, ne_eq, ge_iff_le, gt_iff_lt, setF_len, toNat_cast, lenOk]; omega) (T.nd (by simp only [inK_i64, inB_i, leB_i, ltB_iff, leN_iff, slOk_iff, ble_iff, blt_iff, decide_eq_true_eq, decide_eq_false_iff_not, beq_iff_eq, beq_eq_false_iff_ne, bne_iff_ne, bne_eq_false_iff_eq, Bool.not_eq_true', Bool.not_eq_false', List.length_set, ne_eq, ge_iff_le, gt_iff_lt, setF_len, toNat_cast, lenOk]; omega) (T.nd (by simp only [inK_i64, inB_i, leB_i, ltB_iff, leN_iff, slOk_iff, ble_iff, blt_iff, decide_eq_true_eq, decide_eq_false_iff_not, beq_iff_eq, beq_eq_false_iff_ne, bne_iff_ne, bne_eq_false_iff_eq, Bool.not_eq_true', Bool.not_eq_false', List.length_set, ne_eq, ge_iff_le, gt_iff_lt, setF_len, toNat_cast, lenOk]; omega) rfl)))
  · show seqM (ref09_Factor_t129 _ _ _).run _ = _
    exact seqM_out (T.af (by simp only [inK_i64, inB_i, leB_i, ltB_iff, leN_iff, slOk_iff, ble_iff, blt_iff, decide_eq_true_eq, decide_eq_false_iff_not, beq_iff_eq, beq_eq_false_iff_ne, bne_iff_ne, bne_eq_false_iff_eq, Bool.not_eq_true', Bool.not_eq_false', List.length_set, ne_eq, ge_iff_le, gt_iff_lt, setF_len, toNat_cast, lenOk]; omega) rfl)

theorem Factor9_in {ls : List (List Nat)} {ts : List Nat} {j : Nat} {t : List Nat} (h : AlikeP ls) (hn : ls.length ≤ 500) (hts : ts.length = ls.length) (hj : j < ls.length) (hL : (ls.getD 0 []).length ≤ 9223372036854775807) (ht : t.length = ls.length * ls.length) :
    loopM (ref09_Factor_m140 ls.length ls ts (ls.length * ls.length) j) (0, t) = some (.inl (iterF (fcI ls ts ls.length j) t j)) := by
  have hlen : ∀ i, (iterF (fcI ls ts ls.length j) t i).length = ls.length * ls.length := fun i => by rw [iterF_len fun i l => by simp [fcI]]; exact ht
  refine loopM_at (fun i => (i, iterF (fcI ls ts ls.length j) t i)) j rfl (fun i hi => ?_) ?_
  · show seqM (ref09_Factor_t125 _ _ _).run _ = _
    have hl := hlen i
    obtain ⟨b1, b2⟩ := fc_bd (i := i) (j := j) (n := ls.length) (by omega) hj (by omega)
    refine seqM_in (a := ()) (T.at (by simp only [inK_i64, inB_i, leB_i, ltB_iff, leN_iff, slOk_iff, ble_iff, blt_iff, decide_eq_true_eq, decide_eq_false_iff_not, beq_iff_eq, beq_eq_false_iff_ne, bne_iff_ne, bne_eq_false_iff_eq, Bool.not_eq_true', Bool.not_eq_false', List.length_set, ne_eq, ge_iff_le, gt_iff_lt, setF_len, toNat_cast, lenOk]; omega) rfl) (seqM_in (joinM_in (a := iterF (fcI ls ts ls.length j) t (i + 1)) ?_) (T.nd (by simp only [inK_i64, inB_i, leB_i, ltB_iff, leN_iff, slOk_iff, ble_iff, blt_iff, decide_eq_true_eq, decide_eq_false_iff_not, beq_iff_eq, beq_eq_false_iff_ne, bne_iff_ne, bne_eq_false_iff_eq, Bool.not_eq_true', Bool.not_eq_false', List.length_set, ne_eq, ge_iff_le, gt_iff_lt, setF_len, toNat_cast, lenOk]; omega) rfl))
    refine seqM_in rfl (seqM_in (Factor9_s h hn hj hi hL hl) ?_)
    exact T.nd (by simp only [inK_i64, inB_i, leB_i, ltB_iff, leN_iff, slOk_iff, ble_iff, blt_iff, decide_eq_true_eq, decide_eq_false_iff_not, beq_iff_eq, beq_eq_false_iff_ne, bne_iff_ne, bne_eq_false_iff_eq, Bool.not_eq_true', Bool.not_eq_false', List.length_set, ne_eq, ge_iff_le, gt_iff_lt, setF_len, toNat_cast, lenOk]; omega) (T.nd (by simp only [inK_i64, inB_i, leB_i, ltB_iff, leN_iff, slOk_iff, ble_iff, blt_iff, decide_eq_true_eq, decide_eq_false_iff_not, beq_iff_eq, beq_eq_false_iff_ne, bne_iff_ne, bne_eq_false_iff_eq, Bool.not_eq_true', Bool.not_eq_false', List.length_set, ne_eq, ge_iff_le, gt_iff_lt, setF_len, toNat_cast, lenOk]; omega) (T.nd (by simp only [inK_i64, inB_i, leB_i, ltB_iff, leN_iff, slOk_iff, ble_iff, blt_iff, decide_eq_true_eq, decide_eq_false_iff_not, beq_iff_eq, beq_eq_false_iff_ne, bne_iff_ne, bne_eq_false_iff_eq, Bool.not_eq_true', Bool.not_eq_false', List.length_set, ne_eq, ge_iff_le, gt_iff_lt, setF_len, toNat_cast, lenOk]; omega) (T.nd (by simp only [inK_i64, inB_i, leB_i, ltB_iff, leN_iff, slOk_iff, ble_iff, blt_iff, decide_eq_true_eq, decide_eq_false_iff_not, beq_iff_eq, beq_eq_false_iff_ne, bne_iff_ne, bne_eq_false_iff_eq, Bool.not_eq_true', Bool.not_eq_false', List.length_set, ne_eq, ge_iff_le, gt_iff_lt, setF_len, toNat_cast, lenOk]; omega) (T.nd (by simp only [inK_i64, inB_i, leB_i, ltB_iff, leN_iff, slOk_iff, ble_iff, blt_iff, decide_eq_true_eq, decide_eq_false_iff_not, beq_iff_eq, beq_eq_false_iff_ne, bne_iff_ne, bne_eq_false_iff_eq, Bool.not_eq_true', Bool.not_eq_false', List.length_set, ne_eq, ge_iff_le, gt_iff_lt, setF_len, toNat_cast, lenOk]; omega) (T.nd (by simp only [inK_i64, inB_i, leB_i, ltB_iff, leN_iff, slOk_iff, ble_iff, blt_iff, decide_eq_true_eq, decide_eq_false_iff_not, beq_iff_eq, beq_eq_false_iff_ne, bne_iff_ne, bne_eq_false_iff_eq, Bool.not_eq_true', Bool.not_eq_false', List.length_set, ne_eq, ge_iff_le, gt_iff_lt, setF_len, toNat_cast, lenOk]; omega) rfl)))))
  · show seqM (ref09_Factor_t125 _ _ _).run _ = _
    exact seqM_out (T.af (by simp only [inK_i64, inB_i, leB_i, ltB_iff, leN_iff, slOk_iff, ble_iff, blt_iff, decide_eq_true_eq, decide_eq_false_iff_not, beq_iff_eq, beq_eq_false_iff_ne, bne_iff_ne, bne_eq_false_iff_eq, Bool.not_eq_true', Bool.not_eq_false', List.length_set, ne_eq, ge_iff_le, gt_iff_lt, setF_len, toNat_cast, lenOk]; omega) rfl)

theorem Factor9_spec {ls : List (List Nat)} {ts : List Nat} (h : AlikeP ls) (hn : ls.length ≤ 500) (ht : ts.length = ls.length) (hL : (ls.getD 0 []).length ≤ 9223372036854775807) :
    ref09_Factor_F ls.length ls ts = some (.r0 ls.length (ls.length * ls.length) (fcF ls ts ls.length ls.length)) := by
  have hnn : ls.length * ls.length ≤ 250000 := Nat.mul_le_mul hn hn
  refine toX_of (seqM_in (a := (ls.length * ls.length, List.replicate (ls.length * ls.length) 0)) ?_ (seqM_in (a := fcF ls ts ls.length ls.length) ?_ rfl))
  · unfold ref09_Factor_t119
    generalize ls.length * ls.length = nn at hnn ⊢
    exact T.nd (by simp only [inK_i64, inB_i, leB_i, ltB_iff, leN_iff, slOk_iff, ble_iff, blt_iff, decide_eq_true_eq, decide_eq_false_iff_not, beq_iff_eq, beq_eq_false_iff_ne, bne_iff_ne, bne_eq_false_iff_eq, Bool.not_eq_true', Bool.not_eq_false', List.length_set, ne_eq, ge_iff_le, gt_iff_lt, setF_len, toNat_cast, lenOk]; omega) (T.nd (by simp only [inK_i64, inB_i, leB_i, ltB_iff, leN_iff, slOk_iff, ble_iff, blt_iff, decide_eq_true_eq, decide_eq_false_iff_not, beq_iff_eq, beq_eq_false_iff_ne, bne_iff_ne, bne_eq_false_iff_eq, Bool.not_eq_true', Bool.not_eq_false', List.length_set, ne_eq, ge_iff_le, gt_iff_lt, setF_len, toNat_cast, lenOk]; omega) (T.nd (by simp only [inK_i64, inB_i, leB_i, ltB_iff, leN_iff, slOk_iff, ble_iff, blt_iff, decide_eq_true_eq, decide_eq_false_iff_not, beq_iff_eq, beq_eq_false_iff_ne, bne_iff_ne, bne_eq_false_iff_eq, Bool.not_eq_true', Bool.not_eq_false', List.length_set, ne_eq, ge_iff_le, gt_iff_lt, setF_len, toNat_cast, lenOk]; omega) (T.nd (by simp only [inK_i64, inB_i, leB_i, ltB_iff, leN_iff, slOk_iff, ble_iff, blt_iff, decide_eq_true_eq, decide_eq_false_iff_not, beq_iff_eq, beq_eq_false_iff_ne, bne_iff_ne, bne_eq_false_iff_eq, Bool.not_eq_true', Bool.not_eq_false', List.length_set, ne_eq, ge_iff_le, gt_iff_lt, setF_len, toNat_cast, lenOk]; omega) (T.nd (by simp only [inK_i64, inB_i, leB_i, ltB_iff, leN_iff, slOk_iff, ble_iff, blt_iff, decide_eq_true_eq, decide_eq_false_iff_not, beq_iff_eq, beq_eq_false_iff_ne, bne_iff_ne, bne_eq_false_iff_eq, Bool.not_eq_true', Bool.not_eq_false', List.length_set, ne_eq, ge_iff_le, gt_iff_lt, setF_len, toNat_cast, lenOk]; omega) rfl))))
  · refine loopM_at (fun j => (j, fcF ls ts ls.length j)) ls.length rfl (fun j hj => ?_) ?_
    · show seqM (ref09_Factor_t121 _ _ _).run _ = _
      obtain ⟨b1, b2⟩ := fc_bd (i := j) (j := j) hj hj (by omega)
      refine seqM_in (a := ()) (T.at (by simp only [inK_i64, inB_i, leB_i, ltB_iff, leN_iff, slOk_iff, ble_iff, blt_iff, decide_eq_true_eq, decide_eq_false_iff_not, beq_iff_eq, beq_eq_false_iff_ne, bne_iff_ne, bne_eq_false_iff_eq, Bool.not_eq_true', Bool.not_eq_false', List.length_set, ne_eq, ge_iff_le, gt_iff_lt, setF_len, toNat_cast, lenOk]; omega) rfl) (seqM_in (joinM_in (a := fcF ls ts ls.length (j + 1)) ?_) (T.nd (by simp only [inK_i64, inB_i, leB_i, ltB_iff, leN_iff, slOk_iff, ble_iff, blt_iff, decide_eq_true_eq, decide_eq_false_iff_not, beq_iff_eq, beq_eq_false_iff_ne, bne_iff_ne, bne_eq_false_iff_eq, Bool.not_eq_true', Bool.not_eq_false', List.length_set, ne_eq, ge_iff_le, gt_iff_lt, setF_len, toNat_cast, lenOk]; omega) rfl))
      refine seqM_in (a := (fcF ls ts ls.length j).set (j * ls.length + j) (ts.getD j 0)) ?_ (seqM_in (Factor9_in h hn ht hj hL ?_) rfl)
      · unfold ref09_Factor_t123
        have := @fcF_len ls ts ls.length j
        exact T.nd (by simp only [inK_i64, inB_i, leB_i, ltB_iff, leN_iff, slOk_iff, ble_iff, blt_iff, decide_eq_true_eq, decide_eq_false_iff_not, beq_iff_eq, beq_eq_false_iff_ne, bne_iff_ne, bne_eq_false_iff_eq, Bool.not_eq_true', Bool.not_eq_false', List.length_set, ne_eq, ge_iff_le, gt_iff_lt, setF_len, toNat_cast, lenOk]; omega) (T.nd (by simp only [inK_i64, inB_i, leB_i, ltB_iff, leN_iff, slOk_iff, ble_iff, blt_iff, decide_eq_true_eq, decide_eq_false_iff_not, beq_iff_eq, beq_eq_false_iff_ne, bne_iff_ne, bne_eq_false_iff_eq, Bool.not_eq_true', Bool.not_eq_false', List.length_set, ne_eq, ge_iff_le, gt_iff_lt, setF_len, toNat_cast, lenOk]; omega) (T.nd (by simp only [inK_i64, inB_i, leB_i, ltB_iff, leN_iff, slOk_iff, ble_iff, blt_iff, decide_eq_true_eq, decide_eq_false_iff_not, beq_iff_eq, beq_eq_false_iff_ne, bne_iff_ne, bne_eq_false_iff_eq, Bool.not_eq_true', Bool.not_eq_false', List.length_set, ne_eq, ge_iff_le, gt_iff_lt, setF_len, toNat_cast, lenOk]; omega) (T.nd (by simp only [inK_i64, inB_i, leB_i, ltB_iff, leN_iff, slOk_iff, ble_iff, blt_iff, decide_eq_true_eq, decide_eq_false_iff_not, beq_iff_eq, beq_eq_false_iff_ne, bne_iff_ne, bne_eq_false_iff_eq, Bool.not_eq_true', Bool.not_eq_false', List.length_set, ne_eq, ge_iff_le, gt_iff_lt, setF_len, toNat_cast, lenOk]; omega) (T.nd (by simp only [inK_i64, inB_i, leB_i, ltB_iff, leN_iff, slOk_iff, ble_iff, blt_iff, decide_eq_true_eq, decide_eq_false_iff_not, beq_iff_eq, beq_eq_false_iff_ne, bne_iff_ne, bne_eq_false_iff_eq, Bool.not_eq_true', Bool.not_eq_false', List.length_set, ne_eq, ge_iff_le, gt_iff_lt, setF_len, toNat_cast, lenOk]; omega) (T.nd (by simp only [inK_i64, inB_i, leB_i, ltB_iff, leN_iff, slOk_iff, ble_iff, blt_iff, decide_eq_true_eq, decide_eq_false_iff_not, beq_iff_eq, beq_eq_false_iff_ne, bne_iff_ne, bne_eq_false_iff_eq, Bool.not_eq_true', Bool.not_eq_false', List.length_set, ne_eq, ge_iff_le, gt_iff_lt, setF_len, toNat_cast, lenOk]; omega) rfl)))))
      · rw [set_len]; exact fcF_len
    · show seqM (ref09_Factor_t121 _ _ _).run _ = _
      exact seqM_out (T.af (by simp only [inK_i64, inB_i, leB_i, ltB_iff, leN_iff, slOk_iff, ble_iff, blt_iff, decide_eq_true_eq, decide_eq_false_iff_not, beq_iff_eq, beq_eq_false_iff_ne, bne_iff_ne, bne_eq_false_iff_eq, Bool.not_eq_true', Bool.not_eq_false', List.length_set, ne_eq, ge_iff_le, gt_iff_lt, setF_len, toNat_cast, lenOk]; omega) rfl)

theorem ReflectFactors_spec (ls : List (List Nat)) (ts : List Nat) (ht : ts.length = ls.length) (hl : ∀ i, i < ls.length → (ls.getD i []).length ≤ 9223372036854775807) : law09_ReflectFactors_F ls.length ls ts = some (.r0 true) := by
  refine toX_of ?_
  by_cases hn : ls.length ≤ 20
  case neg =>
    refine seqM_in (a := true) ?_ (seqM_out (T.at rfl rfl))
    unfold law09_ReflectFactors_t7
    exact T.at (by simp only [inK_i64, inB_i, leB_i, ltB_iff, leN_iff, slOk_iff, ble_iff, blt_iff, decide_eq_true_eq, decide_eq_false_iff_not, beq_iff_eq, beq_eq_false_iff_ne, bne_iff_ne, bne_eq_false_iff_eq, Bool.not_eq_true', Bool.not_eq_false', List.length_set, ne_eq, ge_iff_le, gt_iff_lt, setF_len, toNat_cast, lenOk]; omega) rfl
  have hsp : law09_total_F ls.length ls = some (.r0 (totW ls ls.length)) := total_spec (by omega)
  have h7 : (law09_ReflectFactors_t7 ls.length ls).run = some (.inl (decide (totW ls ls.length > 400))) := by
    unfold law09_ReflectFactors_t7
    rw [cutL_all, hsp]
    exact T.af (by simp only [inK_i64, inB_i, leB_i, ltB_iff, leN_iff, slOk_iff, ble_iff, blt_iff, decide_eq_true_eq, decide_eq_false_iff_not, beq_iff_eq, beq_eq_false_iff_ne, bne_iff_ne, bne_eq_false_iff_eq, Bool.not_eq_true', Bool.not_eq_false', List.length_set, ne_eq, ge_iff_le, gt_iff_lt, setF_len, toNat_cast, lenOk]; omega) (T.nd (cut_ok _) (T.nd rfl rfl))
  by_cases hb : totW ls ls.length > 400
  case pos =>
    rw [decide_eq_true hb] at h7
    exact seqM_in h7 (seqM_out (T.at rfl rfl))
  rw [decide_eq_false hb] at h7
  by_cases h : AlikeP ls
  · have hL := hl 0 h.1
    refine seqM_in h7 (seqM_in (a := (0, ls.length, ls.length * ls.length, fcF ls ts ls.length ls.length)) ?_ (seqM_in (a := false) ?_ (seqM_in (a := ()) rfl (seqM_in (a := true) ?_ rfl))))
    · unfold law09_ReflectFactors_t8
      rw [cutL_all, cutL_to ht, Factor_spec h (by omega) ht hL]
      exact T.af rfl (T.a1 (by simp only [T.run, reflect_Factor_i0, cond_false]; cases Nat.ble (0 + ls.length) ls.length <;> rfl) (T.a0 (T.nd (cut_ok _) (T.nd rfl rfl))))
    · unfold law09_ReflectFactors_t9
      rw [cutL_all, Alike9_t (by omega) h]
      exact T.nd (cut_ok _) (T.nd rfl rfl)
    · unfold law09_ReflectFactors_t11
      rw [cutL_all, cutL_to ht, Factor9_spec h (by omega) ht hL, cutL_to (@fcF_len ls ts ls.length ls.length)]
      simp only [ref09_Factor_p0_0, ref09_Factor_p0_1, ref09_Factor_p0_2]
      have hf := @fcF_len ls ts ls.length ls.length
      have hnn : ls.length * ls.length ≤ 400 := Nat.mul_le_mul hn hn
      rw [cutL_to hf, Same_spec (by omega)]
      exact T.at rfl (T.nd (cut_ok _) (T.nd rfl (T.nd (by simp only [inK_i64, inB_i, leB_i, ltB_iff, leN_iff, slOk_iff, ble_iff, blt_iff, decide_eq_true_eq, decide_eq_false_iff_not, beq_iff_eq, beq_eq_false_iff_ne, bne_iff_ne, bne_eq_false_iff_eq, Bool.not_eq_true', Bool.not_eq_false', List.length_set, ne_eq, ge_iff_le, gt_iff_lt, setF_len, toNat_cast, lenOk]; omega) (T.nd (by simp only [inK_i64, inB_i, leB_i, ltB_iff, leN_iff, slOk_iff, ble_iff, blt_iff, decide_eq_true_eq, decide_eq_false_iff_not, beq_iff_eq, beq_eq_false_iff_ne, bne_iff_ne, bne_eq_false_iff_eq, Bool.not_eq_true', Bool.not_eq_false', List.length_set, ne_eq, ge_iff_le, gt_iff_lt, setF_len, toNat_cast, lenOk]; omega) (T.nd rfl (T.at rfl rfl))))))
  · refine seqM_in h7 (seqM_in (a := (2, 0, 0, [])) ?_ (seqM_in (a := true) ?_ (seqM_out ?_)))
    · unfold law09_ReflectFactors_t8
      rw [cutL_all, cutL_to ht, Factor_err h (by omega) ht]
      exact T.af rfl (T.a0 (T.nd (cut_ok _) (T.nd rfl rfl)))
    · unfold law09_ReflectFactors_t9
      rw [cutL_all, Alike9_f (by omega) h]
      exact T.nd (cut_ok _) (T.nd rfl rfl)
    · unfold law09_ReflectFactors_t10
      rw [cutL_nil, show ref09_Same_F ((0 : Nat) : Int) ((0 : Nat) : Int) [] 0 0 [] = some (.r0 true) from Same0]
      exact T.at rfl (T.at rfl (T.nd rfl (T.nd rfl (T.at rfl rfl))))
end Go.Plb.Seat
