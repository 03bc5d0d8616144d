/-
  Part 2 of what the claim leans on: an evaluator of the model, proved sound; the contracts of the functions.
-/
import Derived.LoopN
import Derived.Scope
import Derived.Laws.Externs
import Derived.WalkKit
import Derived.ProofKit
import Derived.OpenShut
import Derived.Deep.Slices
import Derived.Test.YtanghnggbjpjgaaChecked
import Derived.KernelRfl
import Derived.Test.YtanghnggbjpjgaaA1
/-
  ENGINE, PART 18: a region that draws: what was run in the order of the text stands for every order.
-/
namespace Go.Plb
set_option linter.unusedSimpArgs false
set_option linter.unusedVariables false

def opTmps (l : List Operand) : List Nat := l.filterMap fun | .tmp t => some t | _ => none

/-- The slots that an operation names: it reads them, or it writes to them. -/
def opNames (ops : Array Oper) (o : Oper) : List Nat :=
  (match o.dst with | some d => [d] | none => []) ++ (opTmps o.op.operands.toList ++ (match o.guard with | some (j, _) => (match guardSlot ops j with | some d => [d] | none => []) | none => []))

def setIds (s : List (Nat × Option Blk)) : List Nat := s.map Prod.fst

def ancMask (ms : List Nat) (o : Oper) : Nat := o.after.toList.foldl (fun m e => bif Region.binds .any e then m ||| (2 ^ e.on ||| ms.getD e.on 0) else m) 0
def ancGo : List Oper → List Nat → List Nat
  | [], ms => ms
  | o :: l, ms => ancGo l (ms ++ [ancMask ms o])

def memN (x : Nat) : List Nat → Bool
  | [] => false
  | y :: l => Nat.beq x y || memN x l
def disj : List Nat → List Nat → Bool
  | [], _ => true
  | x :: l, m => !memN x m && disj l m

theorem memN_iff {x : Nat} : ∀ {l : List Nat}, memN x l = true ↔ x ∈ l
  | [] => by simp [memN]
  | y :: l => by simp [memN, memN_iff (l := l)]

theorem disj_spec {l m : List Nat} (h : disj l m = true) : ∀ x, x ∈ l → x ∈ m → False := by
  induction l with
  | nil => intro x hx; cases hx
  | cons y l ih =>
    simp only [disj, Bool.and_eq_true, Bool.not_eq_true'] at h
    intro x hx hm
    rcases List.mem_cons.1 hx with rfl | hx
    · have := memN_iff.2 hm; rw [this] at h; cases h.1
    · exact ih h.2 x hx hm

/-- Two operations that nothing orders do not touch. -/
def apart (ops : Array Oper) (o : Oper) (r : Rec) (o' : Oper) (r' : Rec) : Bool :=
  disj o.dst.toList (opNames ops o') && (disj o'.dst.toList (opNames ops o) && (disj (setIds r.sets) (r'.reads ++ setIds r'.sets) && disj (setIds r'.sets) (r.reads ++ setIds r.sets)))

def apartAll (ops : Array Oper) (mask : Nat) (o' : Oper) (r' : Rec) : Nat → List (Oper × Rec) → Bool
  | _, [] => true
  | i, x :: l => (mask.testBit i || apart ops x.1 x.2 o' r') && apartAll ops mask o' r' (i + 1) l

/-- All pairs; 'pre': what stands ahead (from 0 on). -/
def drawOk (ops : Array Oper) : List (Oper × Rec) → List Nat → List (Oper × Rec) → Bool
  | _, _, [] => true
  | pre, ms, x :: l =>
    x.1.after.toList.all (fun e => !Region.binds .any e || Nat.blt e.on pre.length) &&
    (apartAll ops (ancMask ms x.1) x.1 x.2 0 pre && drawOk ops (pre ++ [x]) (ms ++ [ancMask ms x.1]) l)

/-- The state where just the operations of L were done. -/
def appl (L : Nat → Bool) : Nat → List (Oper × Rec) → List AV × Heap → List AV × Heap
  | _, [], s => s
  | i, x :: l, s => appl L (i + 1) l (bif L i then (putT s.1 x.1.dst x.2.v, putSets x.2.sets s.2) else s)

theorem putT_get (T : List AV) (d : Option Nat) (v : AV) (t : Nat) : (putT T d v)[t]? = if d = some t then (T[t]?).map (fun _ => v) else T[t]? := by
  cases d with
  | none => simp [putT]
  | some d =>
    simp only [putT, Option.some.injEq]
    rw [List.getElem?_set]
    by_cases h : d = t
    · subst h
      simp only [if_true]
      by_cases hl : d < T.length
      · simp [hl]
      · simp [hl]
    · simp [h]

theorem putSets_congr {h h' : Heap} {b : Nat} : ∀ (s : List (Nat × Option Blk)) {h h' : Heap}, hget h b = hget h' b → hget (putSets s h) b = hget (putSets s h') b
  | [], _, _, e => e
  | (c, some d) :: s, h, h', e => by
    simp only [putSets]
    exact putSets_congr (h := h) (h' := h') s (by rw [hget_hset, hget_hset, e])
  | (c, none) :: s, h, h', e => by
    simp only [putSets]
    exact putSets_congr (h := h) (h' := h') s (by rw [hget_hdel, hget_hdel, e])

theorem putSets_other {b : Nat} : ∀ (s : List (Nat × Option Blk)) {h : Heap}, b ∉ setIds s → hget (putSets s h) b = hget h b
  | [], _, _ => rfl
  | (c, some d) :: s, h, hb => by
    simp only [setIds, List.map_cons, List.mem_cons, not_or] at hb
    simp only [putSets]
    rw [putSets_other s hb.2, hget_hset, if_neg (fun e => hb.1 e.symm)]
  | (c, none) :: s, h, hb => by
    simp only [setIds, List.map_cons, List.mem_cons, not_or] at hb
    simp only [putSets]
    rw [putSets_other s hb.2, hget_hdel, if_neg (fun e => hb.1 e.symm)]

theorem appl_T {L L' : Nat → Bool} {t : Nat} : ∀ (l : List (Oper × Rec)) (i : Nat) {s s' : List AV × Heap}, (∀ k x, l[k]? = some x → x.1.dst = some t → L (i + k) = L' (i + k)) → s.1[t]? = s'.1[t]? → (appl L i l s).1[t]? = (appl L' i l s').1[t]?
  | [], _, _, _, _, e => e
  | x :: l, i, s, s', h, e => by
    simp only [appl]
    refine appl_T l (i + 1) (fun k y hy hd => by have := h (k + 1) y (by simpa using hy) hd; rw [show i + 1 + k = i + (k + 1) from by omega]; exact this) ?_
    by_cases hd : x.1.dst = some t
    · have := h 0 x (by simp) hd
      simp only [Nat.add_zero] at this
      rw [this]
      cases L' i with
      | true => simp only [cond_true, putT_get, hd, if_true, e]
      | false => exact e
    · cases L i <;> cases L' i <;> simp only [cond_true, cond_false, putT_get, if_neg hd, e]

theorem appl_H {L L' : Nat → Bool} {b : Nat} : ∀ (l : List (Oper × Rec)) (i : Nat) {s s' : List AV × Heap}, (∀ k x, l[k]? = some x → b ∈ setIds x.2.sets → L (i + k) = L' (i + k)) → hget s.2 b = hget s'.2 b → hget (appl L i l s).2 b = hget (appl L' i l s').2 b
  | [], _, _, _, _, e => e
  | x :: l, i, s, s', h, e => by
    simp only [appl]
    refine appl_H l (i + 1) (fun k y hy hd => by have := h (k + 1) y (by simpa using hy) hd; rw [show i + 1 + k = i + (k + 1) from by omega]; exact this) ?_
    by_cases hd : b ∈ setIds x.2.sets
    · have := h 0 x (by simp) hd
      simp only [Nat.add_zero] at this
      rw [this]
      cases L' i with
      | true => simp only [cond_true]; exact putSets_congr (h := s.2) (h' := s'.2) _ e
      | false => exact e
    · cases L i <;> cases L' i <;> simp only [cond_true, cond_false, putSets_other _ hd, e]

/-- All done, in the order of the text. -/
def applAll : List (Oper × Rec) → List AV × Heap → List AV × Heap
  | [], s => s
  | x :: l, s => applAll l (putT s.1 x.1.dst x.2.v, putSets x.2.sets s.2)

theorem applAll_append (l m : List (Oper × Rec)) (s : List AV × Heap) : applAll (l ++ m) s = applAll m (applAll l s) := by
  induction l generalizing s with
  | nil => rfl
  | cons x l ih => simp only [List.cons_append, applAll, ih]

theorem appl_lt : ∀ (l : List (Oper × Rec)) (i j : Nat) (s : List AV × Heap), appl (fun k => decide (k < i + j)) i l s = applAll (l.take j) s
  | [], i, j, s => by simp [appl, applAll]
  | x :: l, i, 0, s => by
    have : ∀ (l : List (Oper × Rec)) (i' : Nat), i ≤ i' → ∀ s, appl (fun k => decide (k < i + 0)) i' l s = s := by
      intro l
      induction l with
      | nil => intro _ _ s; rfl
      | cons y l ih =>
        intro i' hi s
        simp only [appl]
        have : decide (i' < i + 0) = false := by simp; omega
        rw [this]; exact ih (i' + 1) (by omega) s
    simp only [List.take_zero, applAll]
    exact this _ i (Nat.le_refl _) s
  | x :: l, i, j + 1, s => by
    simp only [appl, List.take_succ_cons, applAll]
    have h1 : decide (i < i + (j + 1)) = true := by simp
    rw [h1]
    simp only [cond_true]
    have := appl_lt l (i + 1) j (putT s.1 x.1.dst x.2.v, putSets x.2.sets s.2)
    rw [show i + 1 + j = i + (j + 1) from by omega] at this
    exact this

/-- What is asked of the pairs, by places. -/
structure Drawn (ops : Array Oper) (l : List (Oper × Rec)) (ms : List Nat) : Prop where
  edge : ∀ (j : Nat) (x : Oper × Rec), l[j]? = some x → ∀ e ∈ x.1.after, Region.binds .any e = true → e.on < j
  mask : ∀ (j : Nat) (x : Oper × Rec), l[j]? = some x → ∃ m : Nat, ms[j]? = some m ∧ ∀ i : Nat, m.testBit i = true → ∃ e ∈ x.1.after, Region.binds .any e = true ∧ (e.on = i ∨ ∃ m' : Nat, ms[e.on]? = some m' ∧ m'.testBit i = true)
  pair : ∀ (i j : Nat) (x y : Oper × Rec), l[i]? = some x → l[j]? = some y → i < j → (∃ m : Nat, ms[j]? = some m ∧ m.testBit i = true) ∨ apart ops x.1 x.2 y.1 y.2 = true

theorem foldl_bits (ms : List Nat) : ∀ (es : List Edge) (m0 i : Nat), (es.foldl (fun m e => bif Region.binds .any e then m ||| (2 ^ e.on ||| ms.getD e.on 0) else m) m0).testBit i = true →
    m0.testBit i = true ∨ ∃ e ∈ es, Region.binds .any e = true ∧ (e.on = i ∨ (ms.getD e.on 0).testBit i = true)
  | [], m0, i, h => .inl h
  | e :: es, m0, i, h => by
    simp only [List.foldl_cons] at h
    rcases foldl_bits ms es _ i h with h | ⟨e', h1, h2, h3⟩
    · cases hb : Region.binds .any e with
      | false => rw [hb] at h; exact .inl h
      | true =>
        rw [hb] at h
        simp only [cond_true, Nat.testBit_or, Bool.or_eq_true, Nat.testBit_two_pow, decide_eq_true_eq] at h
        rcases h with h | h | h
        · exact .inl h
        · exact .inr ⟨e, by simp, hb, .inl h⟩
        · exact .inr ⟨e, by simp, hb, .inr h⟩
    · exact .inr ⟨e', by simp [h1], h2, h3⟩

theorem apartAll_spec {ops : Array Oper} {mask : Nat} {o' : Oper} {r' : Rec} : ∀ {l : List (Oper × Rec)} {i : Nat}, apartAll ops mask o' r' i l = true → ∀ k x, l[k]? = some x → mask.testBit (i + k) = true ∨ apart ops x.1 x.2 o' r' = true
  | [], _, _, k, x, h => by simp at h
  | y :: l, i, h, 0, x, hx => by
    simp only [apartAll, Bool.and_eq_true, Bool.or_eq_true] at h
    simp at hx; subst hx; simpa using h.1
  | y :: l, i, h, k + 1, x, hx => by
    simp only [apartAll, Bool.and_eq_true, Bool.or_eq_true] at h
    have := apartAll_spec h.2 k x (by simpa using hx)
    rw [show i + 1 + k = i + (k + 1) from by omega] at this; exact this

theorem drawOk_spec {ops : Array Oper} : ∀ (l pre : List (Oper × Rec)) (ms : List Nat), ms.length = pre.length → drawOk ops pre ms l = true → Drawn ops pre ms → ∃ ms', Drawn ops (pre ++ l) ms'
  | [], pre, ms, _, _, D => ⟨ms, by simpa using D⟩
  | x :: l, pre, ms, hl, h, D => by
    simp only [drawOk, Bool.and_eq_true] at h
    obtain ⟨h1, h2, h3⟩ := h
    have := drawOk_spec l (pre ++ [x]) (ms ++ [ancMask ms x.1]) (by simp [hl]) h3 ?_
    · simpa using this
    have old : ∀ (j : Nat) (y : Oper × Rec), (pre ++ [x])[j]? = some y → (j < pre.length ∧ pre[j]? = some y) ∨ (j = pre.length ∧ y = x) := by
      intro j y hy
      rw [List.getElem?_append] at hy
      split at hy
      · rename_i q; exact .inl ⟨q, hy⟩
      · rename_i q
        have : j - pre.length = 0 := by
          rcases Nat.eq_zero_or_pos (j - pre.length) with r | r
          · exact r
          · rw [List.getElem?_eq_none (by simp; omega)] at hy; cases hy
        rw [this] at hy; simp at hy; exact .inr ⟨by omega, hy.symm⟩
    have msl : ∀ (j m : Nat), ms[j]? = some m → (ms ++ [ancMask ms x.1])[j]? = some m := by
      intro j m hm
      rw [List.getElem?_append_left (List.getElem?_eq_some_iff.1 hm).1]; exact hm
    have msn : (ms ++ [ancMask ms x.1])[pre.length]? = some (ancMask ms x.1) := by
      rw [← hl, List.getElem?_append_right (Nat.le_refl _)]; simp
    have hedge : ∀ e ∈ x.1.after, Region.binds .any e = true → e.on < pre.length := by
      intro e he hb
      have := List.all_eq_true.1 h1 e (by simpa using he)
      rw [hb] at this
      simpa [Nat.blt_eq] using this
    refine ⟨fun j y hy => ?_, fun j y hy => ?_, fun i j a b ha hb hij => ?_⟩
    · rcases old j y hy with ⟨q, hy⟩ | ⟨rfl, rfl⟩
      · exact D.edge j y hy
      · exact hedge
    · rcases old j y hy with ⟨q, hy⟩ | ⟨rfl, rfl⟩
      · obtain ⟨m, k1, k2⟩ := D.mask j y hy
        refine ⟨m, msl j m k1, fun i hi => ?_⟩
        obtain ⟨e, e1, e2, e3⟩ := k2 i hi
        exact ⟨e, e1, e2, e3.imp id fun ⟨m', q1, q2⟩ => ⟨m', msl _ m' q1, q2⟩⟩
      · refine ⟨_, msn, fun i hi => ?_⟩
        rcases foldl_bits ms y.1.after.toList 0 i hi with q | ⟨e, e1, e2, e3⟩
        · simp at q
        · refine ⟨e, by simpa using e1, e2, e3.imp id fun q => ?_⟩
          rw [List.getD_eq_getElem?_getD] at q
          cases hm : ms[e.on]? with
          | none => rw [hm] at q; simp at q
          | some m' => rw [hm] at q; exact ⟨m', msl _ m' hm, q⟩
    · rcases old j b hb with ⟨q, hb⟩ | ⟨rfl, rfl⟩
      · rcases old i a ha with ⟨q', ha⟩ | ⟨rfl, rfl⟩
        · exact (D.pair i j a b ha hb hij).imp (fun ⟨m, k1, k2⟩ => ⟨m, msl j m k1, k2⟩) id
        · omega
      · rcases old i a ha with ⟨q', ha⟩ | ⟨rfl, rfl⟩
        · have := apartAll_spec h2 i a ha
          rw [Nat.zero_add] at this
          exact this.imp (fun k => ⟨_, msn, k⟩) id
        · omega

end Go.Plb

/-
  ENGINE, PART 19: regions.
-/
namespace Go.Plb
set_option linter.unusedSimpArgs false
set_option linter.unusedVariables false

theorem mem_opTmps {l : List Operand} {t : Nat} (h : Operand.tmp t ∈ l) : t ∈ opTmps l := by
  simp only [opTmps, List.mem_filterMap]; exact ⟨_, h, rfl⟩

theorem oneOp_local {C : Ctx} {run : CallRun} {ops : Array Oper} {n0 i : Nat} {o : Oper} {T T' : List AV} {h h' : Heap} {p p' : Path} {r : Rec} {obs : List Bool} (hr : oneOp C run ops n0 i o T h p = some (r, obs, p'))
    (hT : ∀ t ∈ opNames ops o, T'[t]? = T[t]?) (hh : ∀ b ∈ r.reads, hget h' b = hget h b) : oneOp C run ops n0 i o T' h' p = some (r, obs, p') := by
  have hw : wantedA ops o T' = wantedA ops o T := by
    unfold wantedA
    cases hg : o.guard with
    | none => rfl
    | some x =>
      obtain ⟨j, want⟩ := x
      simp only
      cases hs : guardSlot ops j with
      | none => rfl
      | some d => simp only; rw [hT d (by simp [opNames, hg, hs])]
  unfold oneOp at hr ⊢
  rw [hw]
  split at hr
  · cases hr
  · exact hr
  · split at hr
    · cases hr
    · rename_i r' hop
      have : opM C run (evA T') (hget h') (n0 + i) p o.op = some r' := by
        refine opM_local hop (fun x hx => ?_) (fun b hb => ?_)
        · cases x with
          | tmp t => simp only [evA]; rw [hT t (by simp only [opNames, List.mem_append]; exact .inr (.inl (mem_opTmps (by simpa using hx))))]
          | _ => rfl
        · apply hh
          split at hr
          · cases hr
          · simp only [Option.some.injEq, Prod.mk.injEq] at hr; rw [← hr.1]; exact hb
      simp only [this]
      exact hr

/-- A region in the order of its text, each operation's record kept. -/
def runRec (C : Ctx) (run : CallRun) (ops : Array Oper) (n0 : Nat) : Nat → List Oper → List AV → Heap → Path → Option (List Rec × List AV × Heap × List Bool × Path)
  | _, [], T, h, p => some ([], T, h, [], p)
  | i, o :: l, T, h, p =>
    match oneOp C run ops n0 i o T h p with
    | none => none
    | some (r, obs, p') =>
      match runRec C run ops n0 (i + 1) l (putT T o.dst r.v) (putSets r.sets h) p' with
      | none => none
      | some (rs, T', h', obs', p'') => some (r :: rs, T', h', obs ++ obs', p'')

theorem runRec_spec {C : Ctx} {run : CallRun} {ops : Array Oper} {n0 : Nat} : ∀ (l : List Oper) (i : Nat) {T T' : List AV} {h h' : Heap} {p p' : Path} {obs : List Bool} {rs : List Rec}, runRec C run ops n0 i l T h p = some (rs, T', h', obs, p') → allTrue obs →
    rs.length = l.length ∧ applAll (l.zip rs) (T, h) = (T', h') ∧ ∀ (j : Nat) (o : Oper), l[j]? = some o → ∃ r obs' q q', rs[j]? = some r ∧ allTrue obs' ∧
      oneOp C run ops n0 (i + j) o (applAll ((l.zip rs).take j) (T, h)).1 (applAll ((l.zip rs).take j) (T, h)).2 q = some (r, obs', q')
  | [], i, T, T', h, h', p, p', obs, rs, hr, _ => by
    simp only [runRec, Option.some.injEq, Prod.mk.injEq] at hr; obtain ⟨rfl, rfl, rfl, rfl, rfl⟩ := hr
    exact ⟨rfl, rfl, fun j o h => by simp at h⟩
  | o :: l, i, T, T', h, h', p, p', obs, rs, hr, ho => by
    simp only [runRec] at hr
    split at hr
    case h_1 => cases hr
    rename_i r obs1 p1 h1
    split at hr
    case h_1 => cases hr
    rename_i rs2 T2 h2 obs2 p2 h3
    simp only [Option.some.injEq, Prod.mk.injEq] at hr; obtain ⟨rfl, rfl, rfl, rfl, rfl⟩ := hr
    rw [allTrue_append] at ho
    obtain ⟨a1, a2, a3⟩ := runRec_spec l (i + 1) h3 ho.2
    refine ⟨by simp [a1], by simpa [applAll] using a2, fun j o' hj => ?_⟩
    cases j with
    | zero => simp at hj; subst hj; exact ⟨r, obs1, p, p1, by simp, ho.1, by simpa [applAll] using h1⟩
    | succ j =>
      obtain ⟨r', ob, q, q', b1, b2, b3⟩ := a3 j o' (by simpa using hj)
      refine ⟨r', ob, q, q', by simpa using b1, b2, ?_⟩
      rw [show i + (j + 1) = i + 1 + j from by omega]
      simpa [applAll] using b3

theorem countP_lt {p q : Nat → Bool} : ∀ {l : List Nat} {j : Nat}, j ∈ l → p j = true → q j = false → (∀ i, q i = true → p i = true) → l.countP q < l.countP p
  | [], _, h, _, _, _ => by cases h
  | x :: l, j, h, hp, hq, hi => by
    have mono : ∀ l : List Nat, l.countP q ≤ l.countP p := fun l => List.countP_mono_left fun x _ => hi x
    simp only [List.countP_cons]
    rcases List.mem_cons.1 h with rfl | h
    · rw [hp, hq]; have := mono l; simp; omega
    · have := countP_lt h hp hq hi
      by_cases hx : q x = true
      · rw [hx, hi x hx]; omega
      · have hq' : q x = false := by simpa using hx
        rw [hq']; simp only [Bool.false_eq_true, if_false]; split <;> omega

/-- The heart: whatever operations were done, in whatever order. -/
theorem draw_any {C : Ctx} (hC : C.Ok) {run : CallRun} (hrun : RunOk C.P run) {ops : Array Oper} {n0 : Nat} {T0 : List AV} {h0 : Heap} {rs : List Rec} {ms : List Nat} (D : Drawn ops (ops.toList.zip rs) ms) (hlen : rs.length = ops.size)
    (each : ∀ (j : Nat) (o : Oper), ops.toList[j]? = some o → ∃ r obs' q q', rs[j]? = some r ∧ allTrue obs' ∧
      oneOp C run ops n0 j o (applAll ((ops.toList.zip rs).take j) (T0, h0)).1 (applAll ((ops.toList.zip rs).take j) (T0, h0)).2 q = some (r, obs', q'))
    {Q : Exit → Act → World → Prop} : ∀ (fuel : Nat) (listed : Array Bool), listed.size = ops.size → (∀ (j : Nat) (o : Oper), ops[j]? = some o → listed.getD j false = true → ∀ e ∈ o.after, Region.binds .any e = true → listed.getD e.on false = true) →
      (List.range ops.size).countP (fun i => !listed.getD i false) ≤ fuel → ∀ {ρ : Place} {w : World} {a : Act}, HR ρ w (appl (fun i => listed.getD i false) 0 (ops.toList.zip rs) (T0, h0)).2 (n0 + ops.size) →
      (∀ b, ρ.ok b → b < n0 ∨ ∃ i, listed.getD i false = true ∧ b = n0 + i) → a.defers = [] → VRs ρ w (appl (fun i => listed.getD i false) 0 (ops.toList.zip rs) (T0, h0)).1 a.tmps.toList →
      (∀ ρ' w' a', Ext ρ ρ' w → WLe ρ.live w w' → HR ρ' w' (applAll (ops.toList.zip rs) (T0, h0)).2 (n0 + ops.size) → a'.defers = [] → VRs ρ' w' (applAll (ops.toList.zip rs) (T0, h0)).1 a'.tmps.toList → Q .normal a' w') →
      wpAny C.P .any ops Q fuel listed a w := by
  have hzl : (ops.toList.zip rs).length = ops.size := by simp [hlen]
  have zget : ∀ (j : Nat) (o : Oper) (r : Rec), ops[j]? = some o → rs[j]? = some r → (ops.toList.zip rs)[j]? = some (o, r) := by
    intro j o r h1 h2
    rw [List.getElem?_zip_eq_some]; exact ⟨by simpa using h1, h2⟩
  have zinv : ∀ (j : Nat) (x : Oper × Rec), (ops.toList.zip rs)[j]? = some x → ops[j]? = some x.1 ∧ rs[j]? = some x.2 := by
    intro j x hx
    have := List.getElem?_zip_eq_some.1 (show (ops.toList.zip rs)[j]? = some (x.1, x.2) from hx)
    exact ⟨by simpa using this.1, this.2⟩
  -- done when all are listed
  have allL : ∀ (listed : Array Bool), listed.size = ops.size → (∀ i, i < ops.size → listed.getD i false = true) → appl (fun i => listed.getD i false) 0 (ops.toList.zip rs) (T0, h0) = applAll (ops.toList.zip rs) (T0, h0) := by
    intro listed hs hall
    have : ∀ (l : List (Oper × Rec)) (i : Nat) (s : List AV × Heap), i + l.length ≤ ops.size → appl (fun i => listed.getD i false) i l s = applAll l s := by
      intro l
      induction l with
      | nil => intro _ _ _; rfl
      | cons x l ih =>
        intro i s hi
        simp only [List.length_cons] at hi
        simp only [appl, applAll]
        rw [hall i (by omega)]
        exact ih (i + 1) _ (by omega)
    exact this _ 0 _ (by rw [hzl]; omega)
  -- what is before a thing that is done is done
  have down : ∀ (listed : Array Bool), (∀ (j : Nat) (o : Oper), ops[j]? = some o → listed.getD j false = true → ∀ e ∈ o.after, Region.binds .any e = true → listed.getD e.on false = true) →
      ∀ (j : Nat) (o : Oper), ops[j]? = some o → (∀ e ∈ o.after, Region.binds .any e = true → listed.getD e.on false = true) → ∀ (i m : Nat), ms[j]? = some m → m.testBit i = true → listed.getD i false = true := by
    intro listed hcl j
    induction j using Nat.strongRecOn with
    | _ j ih =>
      intro o ho hpre i m hm hbit
      have hlt : j < ops.size := (Array.getElem?_eq_some_iff.1 ho).1
      obtain ⟨r, hr⟩ : ∃ r, rs[j]? = some r := ⟨rs[j]'(by omega), List.getElem?_eq_getElem (by omega)⟩
      have hz := zget j o r ho hr
      obtain ⟨m', k1, k2⟩ := D.mask j _ hz
      rw [hm] at k1; cases k1
      obtain ⟨e, e1, e2, e3⟩ := k2 i hbit
      have hL := hpre e e1 e2
      rcases e3 with rfl | ⟨m'', q1, q2⟩
      · exact hL
      · have hej := D.edge j _ hz e e1 e2
        have hon : e.on < ops.size := by omega
        exact ih e.on hej _ (Array.getElem?_eq_getElem hon) (hcl e.on _ (Array.getElem?_eq_getElem hon) hL) i m'' q1 q2
  intro fuel
  induction fuel with
  | zero =>
    intro listed hs hcl hcnt ρ w a hh hok hd hT hQ
    have hall : ∀ i, i < ops.size → listed.getD i false = true := by
      intro i hi
      have h0 := List.countP_eq_zero.1 (Nat.le_zero.1 hcnt) i (List.mem_range.2 hi)
      simpa using h0
    simp only [wpAny]
    refine ⟨?_, ?_⟩
    · cases hr : Region.ready .any ops listed with
      | nil => rfl
      | cons x xs =>
        have hx : x ∈ Region.ready .any ops listed := by rw [hr]; simp
        obtain ⟨k1, o, k2, _⟩ := mem_ready.1 hx
        have hlt : x < ops.size := (Array.getElem?_eq_some_iff.1 k2).1
        have := hall x hlt
        rw [Array.getD_eq_getD_getElem?, Array.getElem?_eq_getElem (by omega)] at this k1
        simp only [Option.getD_some] at this k1
        rw [this] at k1; cases k1
    · rw [allL listed hs hall] at hh hT
      exact hQ ρ w a (Ext.refl _ _) (WLe.refl _ _) hh hd hT
  | succ fuel ih =>
    intro listed hs hcl hcnt ρ w a hh hok hd hT hQ
    simp only [wpAny]
    have sameD : ∀ j, j < ops.size → listed.getD j true = listed.getD j false := by
      intro j hj
      rw [Array.getD_eq_getD_getElem?, Array.getD_eq_getD_getElem?, Array.getElem?_eq_getElem (by omega)]; rfl
    refine ⟨fun hr => ?_, fun j hj => ?_⟩
    · have hall : ∀ i, i < ops.size → listed.getD i false = true := by
        intro i
        induction i using Nat.strongRecOn with
        | _ i ihi =>
          intro hi
          cases hl : listed.getD i false with
          | true => rfl
          | false =>
            have ho := Array.getElem?_eq_getElem hi
            obtain ⟨r, hrr⟩ : ∃ r, rs[i]? = some r := ⟨rs[i]'(by omega), List.getElem?_eq_getElem (by omega)⟩
            have hz := zget i _ r ho hrr
            have : i ∈ Region.ready .any ops listed := mem_ready.2 ⟨by rw [sameD i hi]; exact hl, _, ho, fun e he hb => ihi e.on (D.edge i _ hz e he hb) (by have := D.edge i _ hz e he hb; omega)⟩
            rw [hr] at this; cases this
      rw [allL listed hs hall] at hh hT
      exact hQ ρ w a (Ext.refl _ _) (WLe.refl _ _) hh hd hT
    · obtain ⟨k1, o, ho, hpre⟩ := mem_ready.1 hj
      have hlt : j < ops.size := (Array.getElem?_eq_some_iff.1 ho).1
      rw [sameD j hlt] at k1
      obtain ⟨r, obs', q, q', hr, hob, hone⟩ := each j o (by simpa using ho)
      have hz := zget j o r ho hr
      -- what stands in the slots and blocks of j
      have agree : ∀ (i : Nat) (x : Oper × Rec), (ops.toList.zip rs)[i]? = some x → i ≠ j → apart ops x.1 x.2 o r = false → apart ops o r x.1 x.2 = false → listed.getD i false = decide (i < j) := by
        intro i x hx hne n1 n2
        have hxi := zinv i x hx
        rcases Nat.lt_or_gt_of_ne hne with hij | hij
        · rcases D.pair i j x (o, r) hx hz hij with ⟨m, hm, hb⟩ | hap
          · rw [down listed hcl j o ho hpre i m hm hb]; simp [hij]
          · simp only at hap; rw [n1] at hap; cases hap
        · rcases D.pair j i (o, r) x hz hx hij with ⟨m, hm, hb⟩ | hap
          · have : ¬ i < j := by omega
            simp only [this, decide_false]
            cases hl : listed.getD i false with
            | false => rfl
            | true =>
              have := down listed hcl i x.1 hxi.1 (hcl i x.1 hxi.1 hl) j m hm hb
              rw [k1] at this; cases this
          · simp only at hap; rw [n2] at hap; cases hap
      have napT : ∀ (x : Oper × Rec) (t : Nat), x.1.dst = some t → t ∈ opNames ops o → apart ops x.1 x.2 o r = false ∧ apart ops o r x.1 x.2 = false := by
        intro x t hdst ht
        constructor
        · cases hap : apart ops x.1 x.2 o r with
          | false => rfl
          | true => simp only [apart, Bool.and_eq_true] at hap; exact (disj_spec hap.1 t (by simp [hdst]) ht).elim
        · cases hap : apart ops o r x.1 x.2 with
          | false => rfl
          | true => simp only [apart, Bool.and_eq_true] at hap; exact (disj_spec hap.2.1 t (by simp [hdst]) ht).elim
      have napH : ∀ (x : Oper × Rec) (b : Nat), b ∈ setIds x.2.sets → b ∈ r.reads ++ setIds r.sets → apart ops x.1 x.2 o r = false ∧ apart ops o r x.1 x.2 = false := by
        intro x b hx hb
        constructor
        · cases hap : apart ops x.1 x.2 o r with
          | false => rfl
          | true => simp only [apart, Bool.and_eq_true] at hap; exact (disj_spec hap.2.2.1 b hx hb).elim
        · cases hap : apart ops o r x.1 x.2 with
          | false => rfl
          | true => simp only [apart, Bool.and_eq_true] at hap; exact (disj_spec hap.2.2.2 b hx hb).elim
      have eqT : ∀ t ∈ opNames ops o, (appl (fun i => listed.getD i false) 0 (ops.toList.zip rs) (T0, h0)).1[t]? = (applAll ((ops.toList.zip rs).take j) (T0, h0)).1[t]? := by
        intro t ht
        have := appl_lt (ops.toList.zip rs) 0 j (T0, h0)
        rw [← this]
        refine appl_T _ 0 (fun k x hx hdst => ?_) rfl
        rw [Nat.zero_add, Nat.zero_add]
        by_cases hkj : k = j
        · subst hkj; rw [k1]; simp
        · obtain ⟨n1, n2⟩ := napT x t hdst ht; exact agree k x hx hkj n1 n2
      have eqH : ∀ b ∈ r.reads ++ setIds r.sets, hget (appl (fun i => listed.getD i false) 0 (ops.toList.zip rs) (T0, h0)).2 b = hget (applAll ((ops.toList.zip rs).take j) (T0, h0)).2 b := by
        intro b hb
        have := appl_lt (ops.toList.zip rs) 0 j (T0, h0)
        rw [← this]
        refine appl_H _ 0 (fun k x hx hset => ?_) rfl
        rw [Nat.zero_add, Nat.zero_add]
        by_cases hkj : k = j
        · subst hkj; rw [k1]; simp
        · obtain ⟨n1, n2⟩ := napH x b hset hb; exact agree k x hx hkj n1 n2
      have hloc := oneOp_local hone eqT (fun b hb => eqH b (by simp [hb]))
      -- the state behind j
      have L'eq : ∀ i, (listed.setIfInBounds j true).getD i false = if i = j then true else listed.getD i false := by
        intro i
        by_cases hij : i = j
        · subst hij; rw [if_pos rfl, Array.getD_eq_getD_getElem?]; simp [hs, hlt]
        · rw [if_neg hij]; exact getD_set_ne false (fun e => hij e.symm)
      have step1 := appl_lt (ops.toList.zip rs) 0 (j + 1) (T0, h0)
      have hsplit : applAll ((ops.toList.zip rs).take (j + 1)) (T0, h0) = (putT (applAll ((ops.toList.zip rs).take j) (T0, h0)).1 o.dst r.v, putSets r.sets (applAll ((ops.toList.zip rs).take j) (T0, h0)).2) := by
        have hjl : j < (ops.toList.zip rs).length := by rw [hzl]; exact hlt
        have : (ops.toList.zip rs).take (j + 1) = (ops.toList.zip rs).take j ++ [(o, r)] := by
          rw [List.take_succ_eq_append_getElem hjl]
          have := List.getElem?_eq_getElem hjl
          rw [hz] at this
          rw [← Option.some.inj this]
        rw [this, applAll_append]; rfl
      have newT : ∀ t : Nat, (putT (appl (fun i => listed.getD i false) 0 (ops.toList.zip rs) (T0, h0)).1 o.dst r.v)[t]? = (appl (fun i => (listed.setIfInBounds j true).getD i false) 0 (ops.toList.zip rs) (T0, h0)).1[t]? := by
        intro t
        rw [putT_get]
        by_cases hdst : o.dst = some t
        · rw [if_pos hdst]
          have e1 := eqT t (by simp [opNames, hdst])
          rw [e1]
          have e2 : (appl (fun i => (listed.setIfInBounds j true).getD i false) 0 (ops.toList.zip rs) (T0, h0)).1[t]? = (applAll ((ops.toList.zip rs).take (j + 1)) (T0, h0)).1[t]? := by
            rw [← step1]
            refine appl_T _ 0 (fun k x hx hd2 => ?_) rfl
            rw [Nat.zero_add, Nat.zero_add, L'eq]
            by_cases hkj : k = j
            · subst hkj; simp
            · rw [if_neg hkj]
              obtain ⟨n1, n2⟩ := napT x t hd2 (by simp [opNames, hdst])
              rw [agree k x hx hkj n1 n2]
              by_cases q : k < j <;> simp [q] <;> omega
          rw [e2, hsplit, putT_get, if_pos hdst]
        · rw [if_neg hdst]
          refine appl_T _ 0 (fun k x hx hd2 => ?_) rfl
          rw [Nat.zero_add, L'eq]
          by_cases hkj : k = j
          · subst hkj; rw [hz] at hx; cases hx; exact absurd hd2 hdst
          · rw [if_neg hkj]
      have newH : ∀ b : Nat, hget (appl (fun i => (listed.setIfInBounds j true).getD i false) 0 (ops.toList.zip rs) (T0, h0)).2 b = hget (putSets r.sets (appl (fun i => listed.getD i false) 0 (ops.toList.zip rs) (T0, h0)).2) b := by
        intro b
        by_cases hb : b ∈ setIds r.sets
        · rw [putSets_congr (h := (appl (fun i => listed.getD i false) 0 (ops.toList.zip rs) (T0, h0)).2) (h' := (applAll ((ops.toList.zip rs).take j) (T0, h0)).2) r.sets (eqH b (by simp [hb]))]
          have e2 : hget (appl (fun i => (listed.setIfInBounds j true).getD i false) 0 (ops.toList.zip rs) (T0, h0)).2 b = hget (applAll ((ops.toList.zip rs).take (j + 1)) (T0, h0)).2 b := by
            rw [← step1]
            refine appl_H _ 0 (fun k x hx hd2 => ?_) rfl
            rw [Nat.zero_add, Nat.zero_add, L'eq]
            by_cases hkj : k = j
            · subst hkj; simp
            · rw [if_neg hkj]
              obtain ⟨n1, n2⟩ := napH x b hd2 (by simp [hb])
              rw [agree k x hx hkj n1 n2]
              by_cases q : k < j <;> simp [q] <;> omega
          rw [e2, hsplit]
        · rw [putSets_other _ hb]
          refine appl_H _ 0 (fun k x hx hd2 => ?_) rfl
          rw [Nat.zero_add, L'eq]
          by_cases hkj : k = j
          · subst hkj; rw [hz] at hx; cases hx; exact absurd hd2 hb
          · rw [if_neg hkj]
      refine oneOp_sound hC hrun ho hloc hob hh (fun hbad => ?_) (by omega) hd hT ?_
      · rcases hok _ hbad with q | ⟨i, q1, q2⟩
        · omega
        · have : i = j := by omega
          subst this; rw [k1] at q1; cases q1
      intro ρ' w' a' E W hh' hd' hT' hok'
      have hlist : putT (appl (fun i => listed.getD i false) 0 (ops.toList.zip rs) (T0, h0)).1 o.dst r.v = (appl (fun i => (listed.setIfInBounds j true).getD i false) 0 (ops.toList.zip rs) (T0, h0)).1 := List.ext_getElem? newT
      rw [hlist] at hT'
      refine ih (listed.setIfInBounds j true) (by simpa using hs) (fun i x hx hl e he hb => ?_) ?_ (hh'.congr newH) (fun b hb => ?_) hd' hT' ?_
      · rw [L'eq] at hl ⊢
        by_cases hij : i = j
        · subst hij
          rw [ho] at hx; cases hx
          split
          · rfl
          · exact hpre e he hb
        · rw [if_neg hij] at hl
          split
          · rfl
          · exact hcl i x hx hl e he hb
      · have := countP_lt (l := List.range ops.size) (j := j) (p := fun i => !listed.getD i false) (q := fun i => !(listed.setIfInBounds j true).getD i false) (List.mem_range.2 hlt) (by simp only [k1]; rfl) (by simp only [L'eq, if_true]; rfl)
          (fun i hi => by
            simp only [L'eq] at hi ⊢
            split at hi
            · cases hi
            · exact hi)
        omega
      · rcases hok' b hb with q | q
        · rcases hok b q with q | ⟨i, q1, q2⟩
          · exact .inl q
          · refine .inr ⟨i, ?_, q2⟩
            rw [L'eq]; split
            · rfl
            · exact q1
        · exact .inr ⟨j, by rw [L'eq, if_pos rfl], q⟩
      · intro ρ'' w'' a'' E' W' hh'' hd'' hT''
        exact hQ ρ'' w'' a'' (E.trans E' W.size) (W.trans W' (fun x hx q => E.new x hx q)) hh'' hd'' hT''

end Go.Plb

/-
  ENGINE, PART 20: what a function hands back is kept; code; functions.
-/
namespace Go.Plb
set_option linter.unusedSimpArgs false
set_option linter.unusedVariables false

mutual
/-- A value as it is handed back: what it points to is kept as it stands. -/
def keepA (g : Nat → Option Blk) : Nat → AV → AV
  | 0, _ => .any
  | n + 1, v =>
    match v with
    | .ptr b w i j => match g b with
      | some d => let d' := keepB g n d; bif d'.kept then .iptr false d' w i j else .any
      | none => .any
    | .sl b w es i len _ => match g b with
      | some d => let d' := keepB g n d; bif d'.kept then .imm false d' w es i len else .any
      | none => .any
    | .fn f l1 l2 => .fn f (keepL g n l1) (keepL g n l2)
    | .agg l => .agg (keepL g n l)
    | .tup l => .tup (keepL g n l)
    | .iface t v => .iface t (keepA g n v)
    | v => v
def keepL (g : Nat → Option Blk) : Nat → List AV → List AV
  | 0, l => l.map fun _ => .any
  | n + 1, l =>
    match l with
    | [] => []
    | v :: l => keepA g n v :: keepL g n l
def keepB (g : Nat → Option Blk) : Nat → Blk → Blk
  | 0, _ => .vs []
  | n + 1, d =>
    match d with
    | .vs l => .vs (keepL g n l)
    | d => d
end

theorem keepB_rk (g : Nat → Option Blk) (n : Nat) (d : Blk) (h : d.recKept) : (keepB g n d).recKept := by
  cases n with
  | zero => trivial
  | succ n => cases d <;> first | exact h | trivial

theorem kept_foreignB {d : Blk} (h : d.kept = true) : d.foreign = true := by
  cases d <;> first | rfl | exact keptAll_foreign h

/-- A later place that has less of one's own. -/
structure Less (ρ τ : Place) : Prop where
  out : τ.out = ρ.out
  live : ∀ bl, τ.live bl → ρ.live bl

theorem bare_vr {ρ τ : Place} (L : Less ρ τ) {w : World} {v : AV} {u : Value} (h : VR ρ w v u) : v.foreign = true → VR τ w v u := by
  induction h using VR.rec (motive_2 := fun l c _ => foreignAll l = true → VRs τ w l c) with
  | int k n => exact fun _ => .int k n
  | bool kn b => exact fun _ => .bool kn b
  | flt ex x y h => exact fun _ => .flt ex x y h
  | str s => exact fun _ => .str s
  | nptr => exact fun _ => .nptr
  | ptr b k i j hb => intro hk; simp [AV.foreign] at hk
  | iptr bw d k i j bl o u ha hb hc hv hr hk hg ih => exact fun _ => .iptr bw d k i j bl o u ⟨fun q => ha.1 (L.live _ q), fun e => by rw [L.out]; exact ha.2 e⟩ hb hc (fun x v hx => ih x v hx (foreign_content hr hg x v hx)) hr hk hg
  | nsl => exact fun _ => .nsl
  | sl b k es i len cap cap' hb hcap hl c t hh hs => intro hk; simp [AV.foreign] at hk
  | slEnd b k es i a => intro hk; simp [AV.foreign] at hk
  | imm bw d k es i len cap bl o u ha hb hc hv hl hr hk hg ih => exact fun _ => .imm bw d k es i len cap bl o u ⟨fun q => ha.1 (L.live _ q), fun e => by rw [L.out]; exact ha.2 e⟩ hb hc (fun x v hx => ih x v hx (foreign_content hr hg x v hx)) hl hr hk hg
  | immEnd bw d k es i cap a hr hk hg => exact fun _ => .immEnd bw d k es i cap a hr hk hg
  | fn f l1 l2 c1 c2 h1 h2 i1 i2 => intro hk; simp only [AV.foreign, Bool.and_eq_true] at hk; exact .fn f l1 l2 c1 c2 (i1 hk.1) (i2 hk.2)
  | nfn => exact fun _ => .nfn
  | agg l c h ih => intro hk; exact .agg l c (ih hk)
  | tup l c h ih => intro hk; exact .tup l c (ih hk)
  | iface t v u h ih => intro hk; exact .iface t v u (ih hk)
  | niface => exact fun _ => .niface
  | any u => exact fun _ => .any u
  | nil => exact VRs.nil
  | cons v u l c h t i1 i2 => rename_i hk; simp only [foreignAll, Bool.and_eq_true] at hk; exact VRs.cons v u l c (i1 hk.1) (i2 hk.2)

mutual
theorem keep_vr {ρ τ : Place} (L : Less ρ τ) {w : World} {h : Heap} {m : Nat} (hh : HR ρ w h m) (off : ∀ b d, hget h b = some d → ¬ τ.live (ρ.at_ b)) : ∀ (n : Nat) {v : AV} {u : Value}, VR ρ w v u → VR τ w (keepA (hget h) n v) u
  | 0, v, u, hv => .any u
  | n + 1, v, u, hv => by
    have content : ∀ (b : Nat) (d : Blk), hget h b = some d → ∀ x v, (keepB (hget h) n d).cell? x = some v → w.cell? ⟨ρ.at_ b, 0 + x, none⟩ = some ((w.cell? ⟨ρ.at_ b, x, none⟩).getD undef) ∧ VR τ w v ((w.cell? ⟨ρ.at_ b, x, none⟩).getD undef) := by
      intro b d hd x v hx
      obtain ⟨_, _, hrk, c, t, hc, hcv⟩ := hh.cell b d hd
      obtain ⟨u, q1, q2⟩ := keepB_cells L hh off n (ρ.at_ b) (fun x v hx => by
        obtain ⟨u, k1, k2⟩ := hcv x v hx
        exact ⟨u, by simp [World.cell?, hc, k1], k2⟩) hrk x v hx
      rw [Nat.zero_add, q1]; exact ⟨rfl, q2⟩
    cases v with
    | ptr b k i j =>
      simp only [keepA]
      split
      · rename_i d hd
        obtain ⟨_, hl, hrk, _⟩ := hh.cell b d hd
        cases hk : (keepB (hget h) n d).kept with
        | false => exact .any _
        | true =>
          simp only [cond_true]
          cases hv with | ptr _ _ _ _ hb =>
          have := VR.iptr (ρ := τ) (w := w) false (keepB (hget h) n d) k i j (ρ.at_ b) 0 (fun x => (w.cell? ⟨ρ.at_ b, x, none⟩).getD undef) ⟨off b d hd, fun _ => by rw [L.out]; exact hh.fresh _ hl⟩ (hh.liveLt _ hl)
            (fun x v hx => (content b d hd x v hx).1) (fun x v hx => (content b d hd x v hx).2) (keepB_rk _ _ _ hrk) (fun _ => hk) (kept_foreignB hk)
          simpa using this
      · exact .any _
    | sl b k es i len cap =>
      simp only [keepA]
      split
      · rename_i d hd
        obtain ⟨_, hl, hrk, _⟩ := hh.cell b d hd
        cases hk : (keepB (hget h) n d).kept with
        | false => exact .any _
        | true =>
          simp only [cond_true]
          cases hv with
          | sl _ _ _ _ _ _ cap' hb hcap hl' c t hh' hs =>
            have := VR.imm (ρ := τ) (w := w) false (keepB (hget h) n d) k es i len cap' (ρ.at_ b) 0 (fun x => (w.cell? ⟨ρ.at_ b, x, none⟩).getD undef) ⟨off b d hd, fun _ => by rw [L.out]; exact hh.fresh _ hl⟩ (hh.liveLt _ hl)
              (fun x v hx => (content b d hd x v hx).1) (fun x v hx => (content b d hd x v hx).2) (by omega) (keepB_rk _ _ _ hrk) (fun _ => hk) (kept_foreignB hk)
            simpa using this
          | slEnd => exact .immEnd _ _ _ _ _ _ _ (keepB_rk _ _ _ hrk) (fun _ => hk) (kept_foreignB hk)
      · exact .any _
    | fn f l1 l2 => cases hv with | fn _ _ _ _ _ h1 h2 => exact .fn _ _ _ _ _ (keepL_vr L hh off n h1) (keepL_vr L hh off n h2)
    | agg l => cases hv with | agg _ _ h1 => exact .agg _ _ (keepL_vr L hh off n h1)
    | tup l => cases hv with | tup _ _ h1 => exact .tup _ _ (keepL_vr L hh off n h1)
    | iface t v => cases hv with | iface _ _ _ h1 => exact .iface _ _ _ (keep_vr L hh off n h1)
    | int => exact bare_vr L hv rfl
    | bool => exact bare_vr L hv rfl
    | flt => exact bare_vr L hv rfl
    | str => exact bare_vr L hv rfl
    | nptr => exact bare_vr L hv rfl
    | iptr => exact bare_vr L hv rfl
    | nsl => exact bare_vr L hv rfl
    | imm => exact bare_vr L hv rfl
    | nfn => exact bare_vr L hv rfl
    | niface => exact bare_vr L hv rfl
    | any => exact .any _
theorem keepL_vr {ρ τ : Place} (L : Less ρ τ) {w : World} {h : Heap} {m : Nat} (hh : HR ρ w h m) (off : ∀ b d, hget h b = some d → ¬ τ.live (ρ.at_ b)) : ∀ (n : Nat) {l : List AV} {c : List Value}, VRs ρ w l c → VRs τ w (keepL (hget h) n l) c
  | 0, [], c, hv => by cases hv; exact .nil
  | 0, v :: l, c, hv => by
    cases hv with | cons _ u _ c' h1 h2 =>
    have := keepL_vr L hh off 0 h2
    exact .cons _ _ _ _ (.any u) this
  | n + 1, [], c, hv => by cases hv; exact .nil
  | n + 1, v :: l, c, hv => by
    cases hv with | cons _ u _ c' h1 h2 => exact .cons _ _ _ _ (keep_vr L hh off n h1) (keepL_vr L hh off n h2)
theorem keepB_cells {ρ τ : Place} (L : Less ρ τ) {w : World} {h : Heap} {m : Nat} (hh : HR ρ w h m) (off : ∀ b d, hget h b = some d → ¬ τ.live (ρ.at_ b)) : ∀ (n : Nat) (bl : Nat) {d : Blk}, (∀ x v, d.cell? x = some v → ∃ u, w.cell? ⟨bl, x, none⟩ = some u ∧ VR ρ w v u) → d.recKept →
    ∀ x v, (keepB (hget h) n d).cell? x = some v → ∃ u, w.cell? ⟨bl, x, none⟩ = some u ∧ VR τ w v u
  | 0, bl, d, hc, hr, x, v, hx => by simp [keepB, Blk.cell?] at hx
  | n + 1, bl, d, hc, hr, x, v, hx => by
    cases d with
    | vs l =>
      simp only [keepB, Blk.cell?] at hx
      have hus : VRs ρ w l ((List.range l.length).map fun x => (w.cell? ⟨bl, x, none⟩).getD undef) := by
        refine VRs.of_get (by simp) fun y v u q1 q2 => ?_
        obtain ⟨u', k1, k2⟩ := hc y v q1
        have hlt : y < l.length := (List.getElem?_eq_some_iff.1 q1).1
        rw [List.getElem?_map, List.getElem?_range hlt] at q2
        simp [k1] at q2; subst q2; exact k2
      have hr2 := keepL_vr L hh off n hus
      obtain ⟨u, q1, q2⟩ := hr2.get x v hx
      rw [List.getElem?_map] at q1
      have hlt : x < l.length := by
        rcases Nat.lt_or_ge x l.length with q | q
        · exact q
        · rw [List.getElem?_eq_none (by simpa using q)] at q1; cases q1
      rw [List.getElem?_range hlt] at q1
      obtain ⟨u', k1, _⟩ := hc x (l[x]) (List.getElem?_eq_getElem hlt)
      simp [k1] at q1; subst q1
      exact ⟨u', k1, q2⟩
    | fl xs => obtain ⟨u, q1, q2⟩ := hc x v hx; exact ⟨u, q1, bare_vr L q2 (foreign_content (d := .fl xs) trivial rfl x v hx)⟩
    | ns k xs => obtain ⟨u, q1, q2⟩ := hc x v hx; exact ⟨u, q1, bare_vr L q2 (foreign_content (d := .ns k xs) trivial rfl x v hx)⟩
    | bs xs => obtain ⟨u, q1, q2⟩ := hc x v hx; exact ⟨u, q1, bare_vr L q2 (foreign_content (d := .bs xs) trivial rfl x v hx)⟩
    | ss xs => obtain ⟨u, q1, q2⟩ := hc x v hx; exact ⟨u, q1, bare_vr L q2 (foreign_content (d := .ss xs) trivial rfl x v hx)⟩
    | rows k m get => obtain ⟨u, q1, q2⟩ := hc x v hx; exact ⟨u, q1, bare_vr L q2 (foreign_content (d := .rows k m get) hr rfl x v hx)⟩
end

mutual
/-- A value as it is handed back with one block of one's own. -/
def ownA (g : Nat → Option Blk) (b : Nat) : Nat → AV → AV
  | 0, _ => .any
  | n + 1, v =>
    match v with
    | .ptr b' w i j => bif Nat.beq b' b then .ptr 0 w i j else keepA g n (.ptr b' w i j)
    | .sl b' w es i len cap => bif Nat.beq b' b then .sl 0 w es i len cap else keepA g n (.sl b' w es i len cap)
    | .agg l => .agg (ownL g b n l)
    | .tup l => .tup (ownL g b n l)
    | v => keepA g n v
def ownL (g : Nat → Option Blk) (b : Nat) : Nat → List AV → List AV
  | 0, l => l.map fun _ => .any
  | n + 1, l =>
    match l with
    | [] => []
    | v :: l => ownA g b n v :: ownL g b n l
end

mutual
/-- The first block of one's own that is named. -/
def firstOwn : AV → Option Nat
  | .ptr b .. => some b
  | .sl b .. => some b
  | .agg l | .tup l => firstOwnL l
  | _ => none
def firstOwnL : List AV → Option Nat
  | [] => none
  | v :: l => match firstOwn v with
    | some b => some b
    | none => firstOwnL l
end

theorem any_all {ρ : Place} {w : World} : ∀ {l : List AV} {c : List Value}, VRs ρ w l c → ∀ {τ : Place}, VRs τ w (l.map fun _ => .any) c
  | _, _, .nil, _ => .nil
  | _, _, .cons _ u _ _ _ t, _ => .cons _ _ _ _ (.any u) (any_all t)

mutual
theorem own_vr {ρ τ : Place} (L : Less ρ τ) {w : World} {h : Heap} {m : Nat} (hh : HR ρ w h m) (off : ∀ b d, hget h b = some d → ¬ τ.live (ρ.at_ b)) {b : Nat} (h0 : τ.ok 0) (hat : τ.at_ 0 = ρ.at_ b) : ∀ (n : Nat) {v : AV} {u : Value}, VR ρ w v u → VR τ w (ownA (hget h) b n v) u
  | 0, v, u, hv => .any u
  | n + 1, v, u, hv => by
    cases v with
    | ptr b' k i j =>
      simp only [ownA]
      cases e : Nat.beq b' b with
      | false => exact keep_vr L hh off n hv
      | true =>
        have := Nat.eq_of_beq_eq_true e; subst this
        cases hv with | ptr _ _ _ _ hb =>
        simp only [cond_true]; rw [← hat]; exact .ptr _ _ _ _ h0
    | sl b' k es i len cap =>
      simp only [ownA]
      cases e : Nat.beq b' b with
      | false => exact keep_vr L hh off n hv
      | true =>
        have := Nat.eq_of_beq_eq_true e; subst this
        simp only [cond_true]
        cases hv with
        | sl _ _ _ _ _ _ cap' hb hcap hl c t hh' hs => rw [← hat] at hh' ⊢; exact .sl _ _ _ _ _ _ _ h0 hcap hl c t hh' hs
        | slEnd => exact .slEnd _ _ _ _ _
    | agg l => cases hv with | agg _ _ h1 => exact .agg _ _ (ownL_vr L hh off h0 hat n h1)
    | tup l => cases hv with | tup _ _ h1 => exact .tup _ _ (ownL_vr L hh off h0 hat n h1)
    | int => exact keep_vr L hh off n hv
    | bool => exact keep_vr L hh off n hv
    | flt => exact keep_vr L hh off n hv
    | str => exact keep_vr L hh off n hv
    | nptr => exact keep_vr L hh off n hv
    | iptr => exact keep_vr L hh off n hv
    | nsl => exact keep_vr L hh off n hv
    | imm => exact keep_vr L hh off n hv
    | nfn => exact keep_vr L hh off n hv
    | fn => exact keep_vr L hh off n hv
    | iface => exact keep_vr L hh off n hv
    | niface => exact keep_vr L hh off n hv
    | any => exact keep_vr L hh off n hv
theorem ownL_vr {ρ τ : Place} (L : Less ρ τ) {w : World} {h : Heap} {m : Nat} (hh : HR ρ w h m) (off : ∀ b d, hget h b = some d → ¬ τ.live (ρ.at_ b)) {b : Nat} (h0 : τ.ok 0) (hat : τ.at_ 0 = ρ.at_ b) : ∀ (n : Nat) {l : List AV} {c : List Value}, VRs ρ w l c → VRs τ w (ownL (hget h) b n l) c
  | 0, l, c, hv => any_all hv
  | n + 1, [], c, hv => by cases hv; exact .nil
  | n + 1, v :: l, c, hv => by
    cases hv with | cons _ u _ c' h1 h2 => exact .cons _ _ _ _ (own_vr L hh off h0 hat n h1) (ownL_vr L hh off h0 hat n h2)
end

/-- What is handed back. -/
def outA (h : Heap) (v : AV) : Out :=
  match firstOwn v with
  | none => ⟨keepA (hget h) resFuel v, none⟩
  | some b =>
    match hget h b with
    | none => ⟨keepA (hget h) resFuel v, none⟩
    | some d => ⟨ownA (hget (hdel h b)) b resFuel v, some (keepB (hget (hdel h b)) resFuel d)⟩

theorem outA_holds {ρ ρ0 : Place} {w0 w : World} {h : Heap} {m : Nat} (hh : HR ρ w h m) (hN : NoPlace ρ0 w0) (E : Ext ρ0 ρ w0) {v : AV} {u : Value} (hv : VR ρ w v u) (hk : (outA h v).ok = true) : (outA h v).Holds ρ0 w0 w u := by
  have plain : (outA h v) = ⟨keepA (hget h) resFuel v, none⟩ → (outA h v).Holds ρ0 w0 w u := by
    intro e
    rw [e] at hk ⊢
    exact keep_vr (τ := ρ0) ⟨E.out.symm, fun bl q => (hN.1 bl q).elim⟩ hh (fun _ _ _ q => hN.1 _ q) resFuel hv
  unfold outA at plain hk ⊢
  split
  · rename_i e; rw [e] at plain; exact plain rfl
  · rename_i b e
    split
    · rename_i e2; rw [e] at plain; simp only [e2] at plain; exact plain trivial
    · rename_i d e2
      simp only [e, e2] at hk
      obtain ⟨k1, k2, k3⟩ := hh.cell b d e2
      have key : ∀ c f, hget (hdel h b) c = some f → c ≠ b ∧ hget h c = some f := by
        intro c f q
        rw [hget_hdel] at q
        split at q
        · cases q
        · rename_i hne; exact ⟨fun q => hne q.symm, q⟩
      have L : Less ρ (ρ0.give 0 (ρ.at_ b)) := by
        refine ⟨E.out.symm, fun bl q => ?_⟩
        rcases q with rfl | q
        · exact k2
        · exact (hN.1 _ q).elim
      have off : ∀ c f, hget (hdel h b) c = some f → ¬ (ρ0.give 0 (ρ.at_ b)).live (ρ.at_ c) := by
        intro c f q hl
        obtain ⟨q1, q2⟩ := key c f q
        rcases hl with hl | hl
        · exact q1 (hh.inj c b f d q2 e2 hl)
        · exact hN.1 _ hl
      have hd := hh.del b
      simp only [Out.Holds]
      refine ⟨ρ.at_ b, ?_, hh.liveLt _ k2, own_vr L hd off (.inl rfl) (by simp [Place.give]) resFuel hv, ?_⟩
      · rcases Nat.lt_or_ge (ρ.at_ b) w0.heap.size with q | q
        · exact (hN.1 _ (E.new _ q k2)).elim
        · exact q
      · obtain ⟨hr, c, t, h1, h2⟩ := k3
        refine ⟨keepB_rk _ _ _ hr, c, t, h1, fun x v hx => ?_⟩
        obtain ⟨u', r1, r2⟩ := keepB_cells L hd off resFuel (ρ.at_ b) (fun x v hx => by
          obtain ⟨u', q1, q2⟩ := h2 x v hx
          exact ⟨u', by simp [World.cell?, h1, q1], q2⟩) hr x v hx
        refine ⟨u', ?_, r2⟩
        simpa [World.cell?, h1] using r1

/-- How a piece of code is left. -/
inductive AE where
  | normal
  | ret
  | exit (id : Nat)

def AE.real : AE → Exit
  | .normal => .normal
  | .ret => .ret
  | .exit id => .exit id

abbrev Res := Option (AE × ASt × List Bool × Path)
abbrev CodeRun := Code → ASt → Path → Res

def runRegion (C : Ctx) (run : CallRun) (ops : Array Oper) (draw : Bool) (st : ASt) (p : Path) : Res :=
  match draw with
  | false =>
    match runOps C run ops st.next 0 ops.toList st.tmps st.heap p with
    | some (T, h, obs, p') => some (.normal, ⟨T, h, st.next + ops.size⟩, obs, p')
    | none => none
  | true =>
    match runRec C run ops st.next 0 ops.toList st.tmps st.heap p with
    | some (rs, T, h, obs, p') => bif drawOk ops [] [] (ops.toList.zip rs) then some (.normal, ⟨T, h, st.next + ops.size⟩, obs, p') else none
    | none => none

def setKnown (T : List AV) (c : Operand) (b : Bool) : List AV :=
  match c with
  | .tmp t => T.set t (.bool true b)
  | _ => T

def loopRun (body : ASt → Path → Res) : Nat → ASt → Path → Res
  | 0, _, _ => none
  | n + 1, st, p =>
    match body st p with
    | some (.normal, st1, o1, p1) =>
      match loopRun body n st1 p1 with
      | some (e, st2, o2, p2) => some (e, st2, o1 ++ o2, p2)
      | none => none
    | r => r

def stepCode (C : Ctx) (run : CallRun) (N : Nat) (self : CodeRun) (c : Code) (st : ASt) (p : Path) : Res :=
  match c with
  | .skip | .label _ => some (.normal, st, [], p)
  | .region _ ops draw => runRegion C run ops draw st p
  | .seq a b =>
    match self a st p with
    | some (.normal, st1, o1, p1) =>
      match self b st1 p1 with
      | some (e, st2, o2, p2) => some (e, st2, o1 ++ o2, p2)
      | none => none
    | r => r
  | .cond c a b =>
    match decideA (evA st.tmps c) p with
    | some (x, o1, p1) =>
      match self (match x with | true => a | false => b) { st with tmps := setKnown st.tmps c x } p1 with
      | some (e, st2, o2, p2) => some (e, st2, o1 ++ o2, p2)
      | none => none
    | none => none
  | .block id b =>
    match self b st p with
    | some (.exit id', st1, o1, p1) => bif Nat.beq id' id then some (.normal, st1, o1, p1) else some (.exit id', st1, o1, p1)
    | r => r
  | .loop b => loopRun (self b) N st p
  | .exit id => some (.exit id, st, [], p)
  | .ret => some (.ret, st, [], p)
  | .scope b => self b st p
  | _ => none

def HAlt.out (a : HAlt) : Out := ⟨a.v, match a.sets with | (_, some d) :: _ => some d | _ => none⟩

/-- What was proved of functions: the ways, each with its condition. -/
abbrev Sums := FuncId → List AV → Option (List HAlt)

def resultsA (P : Program) (fn : Func) (st : ASt) : List ResultVar → Option (List AV × List Bool)
  | [] => some ([], [])
  | .tmp t :: l =>
    match resultsA P fn st l with
    | some (vs, o) => some ((st.tmps[t]?).getD .any :: vs, o)
    | none => none
  | .cell a t :: l =>
    match loadA P (hget st.heap) t ((st.tmps[a]?).getD .any), resultsA P fn st l with
    | some (v, o, _), some (vs, o') => some (v :: vs, o ++ o')
    | _, _ => none

def oneRes : List AV → AV
  | [v] => v
  | vs => .tup vs

def fnRun (C : Ctx) (S : Sums) (self : CodeRun) : CallRun := fun f args p =>
  match S f args with
  | some alts => (pickAlt alts p).map fun r => (r.1.out, r.1.obs, r.2)
  | none =>
    match C.P.funcs[f]? with
    | some fn =>
      match fn.body with
      | some c =>
        match self c ⟨args ++ List.replicate (fn.ntmps - args.length) (.tup []), [], 0⟩ p with
        | some (e, st, o1, p1) =>
          match e, resultsA C.P fn st fn.results.toList with
          | .exit _, _ => none
          | _, some (vs, o2) =>
            let r := outA st.heap (oneRes vs)
            bif r.ok then some (r, o1 ++ o2, p1) else none
          | _, none => none
        | none => none
      | none => none
    | none => none

/-- Code, to a depth. N: rounds of a loop at most. -/
def runCode (C : Ctx) (S : Sums) (N : Nat) : Nat → CodeRun
  | 0 => fun _ _ _ => none
  | n + 1 => stepCode C (fnRun C S (runCode C S N n)) N (runCode C S N n)

end Go.Plb

/-
  ENGINE, PART 21: what is run stands for what the model does.
-/
namespace Go.Plb
set_option linter.unusedSimpArgs false
set_option linter.unusedVariables false

/-- A contract: on such arguments, lent, the function hands back such a value, kept; nothing that was there has turned. -/
def Contract (P : Program) (f : FuncId) (args : List AV) (r : Out) : Prop :=
  ∀ (ρ : Place) (w : World) (us : List Value), NoPlace ρ w → VRs ρ w args us →
    (∃ fn, P.funcs[f]? = some fn ∧ fn.body.isSome = true) ∧ Calls P f us.toArray w fun e w' => ∃ u, e = .returned u ∧ WLe (fun _ => False) w w' ∧ r.Holds ρ w w' u

def SumsOk (P : Program) (S : Sums) : Prop := ∀ f args alts a, S f args = some alts → a ∈ alts → allTrue a.obs → a.out.ok = true ∧ Contract P f args a.out

def CodeOk (P : Program) (self : CodeRun) : Prop :=
  ∀ c st p e st' obs p', self c st p = some (e, st', obs, p') → allTrue obs → ∀ (ρ : Place) (a : Act) (w : World) (Q : Exit → Act → World → Prop), SR ρ st a w →
    (∀ ρ' a' w', Post ρ w st' ρ' a' w' → Q e.real a' w') → c.wp P Q a w

theorem Post.trans {ρ ρ1 ρ2 : Place} {w w1 w2 : World} {st1 st2 : ASt} {a1 a2 : Act} (h : Post ρ w st1 ρ1 a1 w1) (k : Post ρ1 w1 st2 ρ2 a2 w2) : Post ρ w st2 ρ2 a2 w2 :=
  ⟨h.ext.trans k.ext h.wle.size, h.wle.trans k.wle (fun x hx q => h.ext.new x hx q), k.sr⟩

theorem range'_eq (n : Nat) : List.range n = List.range' 0 n := List.range_eq_range'

theorem runRegion_ok {C : Ctx} (hC : C.Ok) {run : CallRun} (hrun : RunOk C.P run) {id : Nat} {ops : Array Oper} {draw : Bool} {st st' : ASt} {p p' : Path} {e : AE} {obs : List Bool} (h : runRegion C run ops draw st p = some (e, st', obs, p'))
    (ho : allTrue obs) {ρ : Place} {a : Act} {w : World} {Q : Exit → Act → World → Prop} (hs : SR ρ st a w) (hQ : ∀ ρ' a' w', Post ρ w st' ρ' a' w' → Q e.real a' w') : (Code.region id ops draw).wp C.P Q a w := by
  unfold runRegion at h
  cases draw with
  | false =>
    simp only at h
    split at h
    case h_2 => cases h
    rename_i T hp obs' p1 hr
    simp only [Option.some.injEq, Prod.mk.injEq] at h; obtain ⟨rfl, rfl, rfl, rfl⟩ := h
    refine wp_region ?_
    rw [range'_eq, ← Array.length_toList]
    refine runOps_sound hC hrun ops.toList 0 (fun j => by simp) hr ho (hs.heap.le (by omega)) (fun b hb => by have := hs.heap.lt b hb; omega) hs.defers hs.tmps ?_
    intro ρ' w' a' E W hh hd hT
    exact hQ ρ' a' w' ⟨E, W, ⟨hd, hT, hh⟩⟩
  | true =>
    simp only at h
    split at h
    case h_2 => cases h
    rename_i rs T hp obs' p1 hr
    cases hd : drawOk ops [] [] (ops.toList.zip rs) with
    | false => rw [hd] at h; cases h
    | true =>
      rw [hd] at h
      simp only [cond_true, Option.some.injEq, Prod.mk.injEq] at h; obtain ⟨rfl, rfl, rfl, rfl⟩ := h
      obtain ⟨s1, s2, s3⟩ := runRec_spec _ _ hr ho
      obtain ⟨ms, D⟩ := drawOk_spec (ops.toList.zip rs) [] [] rfl hd ⟨fun j x hx => by simp at hx, fun j x hx => by simp at hx, fun i j x y hx => by simp at hx⟩
      rw [List.nil_append] at D
      refine wp_region_any hC.mixed ?_
      have W0 := WLe.drawn ρ.live w (w.drawn + 1)
      have E0 := Ext.refl ρ w
      have notL : ∀ i, (Array.replicate ops.size false).getD i false = false := by
        intro i; rw [Array.getD_eq_getD_getElem?]
        cases hq : (Array.replicate ops.size false)[i]? with
        | none => rfl
        | some b => rw [Array.getElem?_replicate] at hq; split at hq <;> simp_all
      have a0 : ∀ (l : List (Oper × Rec)) (i : Nat) (s : List AV × Heap), appl (fun i => (Array.replicate ops.size false).getD i false) i l s = s := by
        intro l
        induction l with
        | nil => intro _ _; rfl
        | cons x l ih => intro i s; simp only [appl]; rw [notL i]; exact ih _ _
      refine draw_any hC hrun D (by rw [s1]; simp) (fun j o hj => by have := s3 j o hj; rw [Nat.zero_add] at this; exact this) ops.size (Array.replicate ops.size false) (by simp) (fun j o _ hl => by rw [notL] at hl; cases hl)
        (by have := List.countP_le_length (p := fun i => !(Array.replicate ops.size false).getD i false) (l := List.range ops.size); simpa using this) (ρ := ρ) (a := a) ?_ ?_ hs.defers ?_ ?_
      · rw [a0]; exact (hs.heap.le (by omega)).drawn _
      · intro b hb; have := hs.heap.lt b hb; exact .inl this
      · rw [a0]; exact hs.tmps.mono E0 W0
      · intro ρ' w' a' E W hh hd' hT
        rw [s2] at hh hT
        exact hQ ρ' a' w' ⟨⟨E.at_, E.ok, E.live, fun b hb => E.new b hb, E.out⟩, W0.trans W (fun _ _ q => q), ⟨hd', hT, hh⟩⟩

theorem loopRun_ok {C : Ctx} {body : ASt → Path → Res} {b : Code} (hb : ∀ st p e st' obs p', body st p = some (e, st', obs, p') → allTrue obs → ∀ (ρ : Place) (a : Act) (w : World) (Q : Exit → Act → World → Prop), SR ρ st a w →
    (∀ ρ' a' w', Post ρ w st' ρ' a' w' → Q e.real a' w') → b.wp C.P Q a w) : ∀ (n : Nat) (st : ASt) (p : Path) (e : AE) (st' : ASt) (obs : List Bool) (p' : Path), loopRun body n st p = some (e, st', obs, p') → allTrue obs →
    ∀ (ρ : Place) (a : Act) (w : World) (Q : Exit → Act → World → Prop), SR ρ st a w → (∀ ρ' a' w', Post ρ w st' ρ' a' w' → Q e.real a' w') → Code.rounds C.P b Q n a w
  | 0, st, p, e, st', obs, p', h, _, _, _, _, _, _, _ => by cases h
  | n + 1, st, p, e, st', obs, p', h, ho, ρ, a, w, Q, hs, hQ => by
    simp only [loopRun] at h
    rw [rounds_succ]
    split at h
    · rename_i st1 o1 p1 h1
      split at h
      case h_2 => cases h
      rename_i e2 st2 o2 p2 h2
      simp only [Option.some.injEq, Prod.mk.injEq] at h; obtain ⟨rfl, rfl, rfl, rfl⟩ := h
      rw [allTrue_append] at ho
      refine hb st p _ _ _ _ h1 ho.1 ρ a w _ hs fun ρ1 a1 w1 P1 => ?_
      exact loopRun_ok hb n st1 p1 _ _ _ _ h2 ho.2 ρ1 a1 w1 Q P1.sr fun ρ2 a2 w2 P2 => hQ ρ2 a2 w2 (P1.trans P2)
    · rename_i hne
      refine hb st p _ _ _ _ h ho ρ a w _ hs fun ρ1 a1 w1 P1 => ?_
      have := hQ ρ1 a1 w1 P1
      cases e with
      | normal => exact (hne _ _ _ h).elim
      | ret => exact this
      | exit id => exact this

theorem stepCode_ok {C : Ctx} (hC : C.Ok) {run : CallRun} (hrun : RunOk C.P run) {N : Nat} {self : CodeRun} (hself : CodeOk C.P self) : CodeOk C.P (stepCode C run N self) := by
  intro c st p e st' obs p' h ho ρ a w Q hs hQ
  unfold stepCode at h
  split at h
  · simp only [Option.some.injEq, Prod.mk.injEq] at h; obtain ⟨rfl, rfl, rfl, rfl⟩ := h
    exact wp_skip (hQ ρ a w ⟨Ext.refl _ _, WLe.refl _ _, hs⟩)
  · simp only [Option.some.injEq, Prod.mk.injEq] at h; obtain ⟨rfl, rfl, rfl, rfl⟩ := h
    exact wp_label (hQ ρ a w ⟨Ext.refl _ _, WLe.refl _ _, hs⟩)
  · exact runRegion_ok hC hrun h ho hs hQ
  · rename_i x y
    refine wp_seq ?_
    split at h
    · rename_i st1 o1 p1 h1
      split at h
      case h_2 => cases h
      rename_i e2 st2 o2 p2 h2
      simp only [Option.some.injEq, Prod.mk.injEq] at h; obtain ⟨rfl, rfl, rfl, rfl⟩ := h
      rw [allTrue_append] at ho
      refine hself x st p _ _ _ _ h1 ho.1 ρ a w _ hs fun ρ1 a1 w1 P1 => ?_
      exact hself y st1 p1 _ _ _ _ h2 ho.2 ρ1 a1 w1 Q P1.sr fun ρ2 a2 w2 P2 => hQ ρ2 a2 w2 (P1.trans P2)
    · rename_i hne
      refine hself x st p _ _ _ _ h ho ρ a w _ hs fun ρ1 a1 w1 P1 => ?_
      have := hQ ρ1 a1 w1 P1
      cases e with
      | normal => exact (hne _ _ _ h).elim
      | ret => exact this
      | exit id => exact this
  · rename_i cc x y
    split at h
    case h_2 => cases h
    rename_i b o1 p1 h1
    split at h
    case h_2 => cases h
    rename_i e2 st2 o2 p2 h2
    simp only [Option.some.injEq, Prod.mk.injEq] at h; obtain ⟨rfl, rfl, rfl, rfl⟩ := h
    rw [allTrue_append] at ho
    have hb := decideA_vr (evA_vr hs.tmps cc) h1 ho.1
    refine wp_cond hb ?_
    have hs' : SR ρ { st with tmps := setKnown st.tmps cc b } a w := by
      refine ⟨hs.defers, ?_, hs.heap⟩
      cases cc with
      | tmp t =>
        simp only [setKnown]
        have : VRs ρ w (st.tmps.set t (.bool true b)) (a.tmps.toList.set t (.bool b)) := hs.tmps.set (.bool _ _) t
        have e : a.tmps.toList.set t (.bool b) = a.tmps.toList := by
          apply List.ext_getElem?
          intro j
          rw [List.getElem?_set]
          split
          · rename_i q; subst q
            split
            · rename_i hlt
              simp only [Act.eval] at hb
              rw [Array.getD_eq_getD_getElem?] at hb
              have hlt' : t < a.tmps.size := by simpa using hlt
              rw [Array.getElem?_eq_getElem hlt'] at hb
              simp only [Option.getD_some] at hb
              simp [hlt', hb]
            · rename_i hge
              rw [List.getElem?_eq_none (by omega)]
          · rfl
        rw [e] at this; exact this
      | const v => exact hs.tmps
      | global g => exact hs.tmps
      | func f => exact hs.tmps
    have := hself _ _ p1 _ _ _ _ h2 ho.2 ρ a w Q hs' hQ
    cases b <;> exact this
  · rename_i id b
    refine wp_block ?_
    split at h
    · rename_i id' st1 o1 p1 h1
      cases hid : Nat.beq id' id with
      | true =>
        rw [hid] at h
        simp only [cond_true, Option.some.injEq, Prod.mk.injEq] at h; obtain ⟨rfl, rfl, rfl, rfl⟩ := h
        refine hself b st p _ _ _ _ h1 ho ρ a w _ hs fun ρ1 a1 w1 P1 => ?_
        simp only [AE.real, Exit.inBlock, Nat.eq_of_beq_eq_true hid, if_true]
        exact hQ ρ1 a1 w1 P1
      | false =>
        rw [hid] at h
        simp only [cond_false, Option.some.injEq, Prod.mk.injEq] at h; obtain ⟨rfl, rfl, rfl, rfl⟩ := h
        refine hself b st p _ _ _ _ h1 ho ρ a w _ hs fun ρ1 a1 w1 P1 => ?_
        have hne : ¬ id' = id := fun e => by subst e; simp [beq_tt] at hid
        simp only [AE.real, Exit.inBlock, hne, if_false]
        exact hQ ρ1 a1 w1 P1
    · rename_i hne
      refine hself b st p _ _ _ _ h ho ρ a w _ hs fun ρ1 a1 w1 P1 => ?_
      have := hQ ρ1 a1 w1 P1
      cases e with
      | normal => exact this
      | ret => exact this
      | exit id => exact (hne _ _ _ _ h).elim
  · rename_i b
    exact wp_loop_rounds N (loopRun_ok (C := C) (b := b) (fun st p e st' obs p' h1 h2 => hself b st p e st' obs p' h1 h2) N st p e st' obs p' h ho ρ a w Q hs hQ)
  · simp only [Option.some.injEq, Prod.mk.injEq] at h; obtain ⟨rfl, rfl, rfl, rfl⟩ := h
    exact wp_exit (hQ ρ a w ⟨Ext.refl _ _, WLe.refl _ _, hs⟩)
  · simp only [Option.some.injEq, Prod.mk.injEq] at h; obtain ⟨rfl, rfl, rfl, rfl⟩ := h
    exact wp_ret (hQ ρ a w ⟨Ext.refl _ _, WLe.refl _ _, hs⟩)
  · rename_i b
    refine wp_scope_straight (hself b st p _ _ _ _ h ho ρ a w _ hs fun ρ1 a1 w1 P1 => ?_)
    have := hQ ρ1 a1 w1 P1
    cases e <;> exact this
  · cases h

end Go.Plb

/-
  ENGINE, PART 22: functions.
-/
namespace Go.Plb
set_option linter.unusedSimpArgs false
set_option linter.unusedVariables false

theorem asAddr_of_sure {P : Program} {w : World} {t : TypeId} {x : Value} {u : Value} (hx : ∃ a, x = .pointer (some a)) (h : (Instr.loadAt t x).run P w = .ok u w) : (do loadVar t (← asAddr x) : Sem Value).run P w = .ok u w := by
  obtain ⟨a, rfl⟩ := hx
  simpa [Instr.loadAt, Instr.sureAddr, asAddr] using h

/-- One result. -/
def resOne (tmps : Array Value) : ResultVar → Sem Value
  | .tmp t => pure (tmps.getD t undef)
  | .cell x t => do loadVar t (← asAddr (tmps.getD x undef))

theorem results_eq (fn : Func) (tmps : Array Value) : results fn tmps = (do let vs ← fn.results.mapM (resOne tmps); pure (if h : vs.size = 1 then vs[0] else .tuple vs)) := by
  unfold results
  congr 1

theorem resultsA_ok {P : Program} {fn : Func} {st : ASt} {ρ : Place} {a : Act} {w : World} (hs : SR ρ st a w) : ∀ (l : List ResultVar) {vs : List AV} {obs : List Bool}, resultsA P fn st l = some (vs, obs) → allTrue obs →
    ∃ us : List Value, (l.mapM (resOne a.tmps)).run P w = .ok us w ∧ VRs ρ w vs us
  | [], vs, obs, h, ho => by
    simp only [resultsA, Option.some.injEq, Prod.mk.injEq] at h; obtain ⟨rfl, rfl⟩ := h
    exact ⟨[], by simp, .nil⟩
  | .tmp t :: l, vs, obs, h, ho => by
    simp only [resultsA] at h
    split at h
    case h_2 => cases h
    rename_i vs' o' h1
    simp only [Option.some.injEq, Prod.mk.injEq] at h; obtain ⟨rfl, rfl⟩ := h
    obtain ⟨us, q1, q2⟩ := resultsA_ok hs l h1 ho
    refine ⟨a.tmps.getD t undef :: us, ?_, .cons _ _ _ _ (evA_vr hs.tmps (.tmp t)) q2⟩
    simp only [List.mapM_cons, resOne, Sem.run_bind, Sem.run_pure, Result.andThen_ok, q1]
  | .cell x t :: l, vs, obs, h, ho => by
    simp only [resultsA] at h
    split at h
    case h_2 => cases h
    rename_i v o rs vs' o' h1 h2
    simp only [Option.some.injEq, Prod.mk.injEq] at h; obtain ⟨rfl, rfl⟩ := h
    rw [allTrue_append] at ho
    obtain ⟨us, q1, q2⟩ := resultsA_ok hs l h2 ho.2
    have hv := evA_vr hs.tmps (.tmp x)
    simp only [evA, Act.eval] at hv
    obtain ⟨u, r1, r2⟩ := loadA_plain (P := P) hs.heap hv h1 ho.1
    have hp : ∃ ad, a.tmps.getD x undef = .pointer (some ad) := by
      generalize a.tmps.getD x undef = z at hv
      unfold loadA at h1
      simp only at h1
      split at h1
      · rename_i e; rw [e] at hv; cases hv; exact ⟨_, rfl⟩
      · rename_i e; rw [e] at hv; cases hv; exact ⟨_, rfl⟩
      · cases h1
    have := asAddr_of_sure hp r1
    refine ⟨u :: us, ?_, .cons _ _ _ _ r2 q2⟩
    simp only [List.mapM_cons, resOne, Sem.run_bind] at this ⊢
    rw [this]
    simp only [Result.andThen_ok, Sem.run_bind, q1, Sem.run_pure]

theorem results_run {P : Program} {fn : Func} {st : ASt} {ρ : Place} {a : Act} {w : World} (hs : SR ρ st a w) {vs : List AV} {obs : List Bool} (h : resultsA P fn st fn.results.toList = some (vs, obs)) (ho : allTrue obs) :
    ∃ v, (results fn a.tmps).run P w = .ok v w ∧ VR ρ w (oneRes vs) v := by
  obtain ⟨us, q1, q2⟩ := resultsA_ok hs fn.results.toList h ho
  have hl := q2.length
  have hm : (fn.results.mapM (resOne a.tmps)).run P w = .ok us.toArray w := by
    rw [Array.mapM_eq_mapM_toList, map_eq_pure_bind, Sem.run_bind, q1, Result.andThen_ok, Sem.run_pure]
  rw [results_eq, Sem.run_bind, hm, Result.andThen_ok]
  match vs, us, q2, hl with
  | [], [], q2, _ => exact ⟨.tuple #[], rfl, .tup _ _ .nil⟩
  | [v], [u], q2, _ => cases q2 with | cons _ _ _ _ h1 _ => exact ⟨u, rfl, h1⟩
  | v :: v' :: vs, u :: u' :: us, q2, _ =>
    refine ⟨.tuple (u :: u' :: us).toArray, ?_, .tup _ _ q2⟩
    simp

/-- A function's contract out of a run of its text. -/
theorem contract_of_wp {P : Program} {f : FuncId} {fn : Func} {c : Code} (hf : P.funcs[f]? = some fn) (hc : fn.body = some c) {args : List AV} {r : Out} (hk : r.ok = true)
    (h : ∀ (ρ : Place) (w : World) (a : Act), NoPlace ρ w → SR ρ ⟨args ++ List.replicate (fn.ntmps - args.length) (.tup []), [], 0⟩ a w →
      c.wp P (fun e a' w' => (e = .normal ∨ e = .ret) ∧ ∃ ρ' st' vs obs, Post ρ w st' ρ' a' w' ∧ resultsA P fn st' fn.results.toList = some (vs, obs) ∧ allTrue obs ∧ outA st'.heap (oneRes vs) = r) a w) : Contract P f args r := by
  intro ρ w us hN hv
  refine ⟨⟨fn, hf, by rw [hc]; rfl⟩, ?_⟩
  refine calls_of_wp hf hc ?_
  have hlen := hv.length
  have hs : SR ρ ⟨args ++ List.replicate (fn.ntmps - args.length) (.tup []), [], 0⟩ { tmps := us.toArray ++ Array.replicate (fn.ntmps - us.toArray.size) undef, defers := [] } w := by
    refine ⟨rfl, ?_, ⟨fun b d q => (by cases q), fun b c d e q => (by cases q), fun bl q => (hN.1 bl q).elim, fun bl q => (hN.1 bl q).elim, hN.2.2, fun b q => (hN.2.1 b q).elim⟩⟩
    simp only [Array.toList_append, Array.toList_replicate, List.size_toArray, hlen]
    refine VRs.append ?_ hv
    have : ∀ n, VRs ρ w (List.replicate n (.tup [])) (List.replicate n undef) := by
      intro n
      induction n with
      | zero => exact .nil
      | succ n ih => exact .cons _ _ _ _ (.tup [] #[] .nil) ih
    exact this _
  refine wp_mono (h ρ w _ hN hs) ?_
  rintro e a' w' ⟨he, ρ', st', vs, obs, P1, hr, hob, hkeep⟩
  have fin : a'.defers = [] ∧ ∃ v, (results fn a'.tmps).run P w' = .ok v w' ∧ ∃ u, Ending.returned v = .returned u ∧ WLe (fun _ => False) w w' ∧ r.Holds ρ w w' u := by
    refine ⟨P1.sr.defers, ?_⟩
    obtain ⟨v, q1, q2⟩ := results_run P1.sr hr hob
    refine ⟨v, q1, v, rfl, P1.wle.mono (fun b hb q => hN.1 b q), ?_⟩
    subst hkeep
    exact outA_holds P1.sr.heap hN P1.ext q2 hk
  rcases he with rfl | rfl
  · exact fin
  · exact fin

theorem fnRun_ok {C : Ctx} {S : Sums} (hS : SumsOk C.P S) {self : CodeRun} (hself : CodeOk C.P self) : RunOk C.P (fnRun C S self) := by
  intro f args p r obs p' h ho
  unfold fnRun at h
  split at h
  · rename_i alts hs
    simp only [Option.map_eq_some_iff, Prod.mk.injEq] at h
    obtain ⟨⟨alt, q⟩, h1, rfl, rfl, rfl⟩ := h
    exact hS f args alts alt hs (pickAlt_mem h1) ho
  · split at h
    case h_2 => cases h
    rename_i fn hf
    split at h
    case h_2 => cases h
    rename_i c hc
    split at h
    case h_2 => cases h
    rename_i e st o1 p1 hr
    cases hres : resultsA C.P fn st fn.results.toList with
    | none => rw [hres] at h; cases e <;> cases h
    | some x =>
      obtain ⟨vs, o2⟩ := x
      rw [hres] at h
      have key : ∀ (he : e = .normal ∨ e = .ret), (let r := outA st.heap (oneRes vs); bif r.ok then some (r, o1 ++ o2, p1) else none) = some (r, obs, p') → r.ok = true ∧ Contract C.P f args r := by
        intro he h
        simp only at h
        cases hk : (outA st.heap (oneRes vs)).ok with
        | false => rw [hk] at h; cases h
        | true =>
          rw [hk] at h
          simp only [cond_true, Option.some.injEq, Prod.mk.injEq] at h; obtain ⟨rfl, rfl, rfl⟩ := h
          rw [allTrue_append] at ho
          refine ⟨hk, contract_of_wp hf hc hk fun ρ w a hN hs => ?_⟩
          refine hself c _ p e st o1 p1 hr ho.1 ρ a w _ hs fun ρ' a' w' P1 => ⟨?_, ρ', st, vs, o2, P1, hres, ho.2, rfl⟩
          rcases he with rfl | rfl
          · exact .inl rfl
          · exact .inr rfl
      cases e with
      | normal => exact key (.inl rfl) h
      | ret => exact key (.inr rfl) h
      | exit id => cases h

theorem runCode_ok {C : Ctx} (hC : C.Ok) {S : Sums} (hS : SumsOk C.P S) (N : Nat) : ∀ n, CodeOk C.P (runCode C S N n)
  | 0 => fun c st p e st' obs p' h => by cases h
  | n + 1 => stepCode_ok hC (fnRun_ok hS (runCode_ok hC hS N n)) (runCode_ok hC hS N n)

/-- A contract, by running the function's text to some depth. -/
theorem contract_of_run {C : Ctx} (hC : C.Ok) {S : Sums} (hS : SumsOk C.P S) (N n : Nat) {f : FuncId} {args : List AV} {p p' : Path} {r : Out} {obs : List Bool} (h : fnRun C S (runCode C S N n) f args p = some (r, obs, p')) (ho : allTrue obs) :
    r.ok = true ∧ Contract C.P f args r := fnRun_ok hS (runCode_ok hC hS N n) f args p r obs p' h ho

end Go.Plb

/-
  ENGINE, PART 23: that a program's context is so.
-/
namespace Go.Plb
set_option linter.unusedSimpArgs false
set_option linter.unusedVariables false

def extLook : List (Nat × Ext1) → Nat → Option Ext1
  | [], _ => none
  | (k, e) :: l, f => bif Nat.beq k f then some e else extLook l f

def ctxOf (P : Program) (l : List (Nat × Ext1)) : Ctx := { P, ext := extLook l }

theorem extLook_mem : ∀ {l : List (Nat × Ext1)} {f : Nat} {k : Ext1}, extLook l f = some k → (f, k) ∈ l
  | [], f, k, h => by cases h
  | (a, e) :: l, f, k, h => by
    simp only [extLook] at h
    cases hb : Nat.beq a f with
    | true => rw [hb] at h; simp only [cond_true, Option.some.injEq] at h; have := Nat.eq_of_beq_eq_true hb; subst this; subst h; simp
    | false => rw [hb] at h; simp only [cond_false] at h; exact List.mem_cons_of_mem _ (extLook_mem h)

structure IsExt (P : Program) (f : Nat) (k : Ext1) : Prop where
  fn : ∃ fn, P.funcs[f]? = some fn ∧ (fn.name == "runtime.NumGoroutine") = false ∧ fn.body.isNone = true ∧ Extern.findNext fn = none ∧ Extern.find fn = some (extSem k)

def namesOk (P : Program) : Bool := P.funcs.toList.all fun fn => !(fn.name == "runtime.NumGoroutine")

theorem ctxOf_ok {P : Program} {l : List (Nat × Ext1)} (hm : P.follows .mixedOrders = true) (hn : namesOk P = true) (he : ∀ x ∈ l, IsExt P x.1 x.2) : (ctxOf P l).Ok := by
  refine ⟨hm, fun f fn args w hf hb => ?_, fun f k args w hk => ?_⟩
  · have h1 : fn.name ≠ "runtime.NumGoroutine" := by
      have hmem : fn ∈ P.funcs.toList := by
        have : fn ∈ P.funcs := Array.mem_of_getElem? hf
        simpa using this
      have := List.all_eq_true.1 hn fn hmem
      simpa using this
    have h2 : fn.body ≠ none := by intro q; rw [q] at hb; cases hb
    have hf' : P.funcs[f]? = some fn := hf
    have h3 : fn.body.isNone = false := by cases hq : fn.body <;> simp_all
    simp only [ctxOf, callFunc, Sem.run_bind, run_program, Result.andThen_ok, hf', beq_eq_false_iff_ne.2 h1, Bool.false_eq_true, if_false, h3, Sem.run_pure]
  · obtain ⟨fn, h1, h2, h3, h4, h5⟩ := (he _ (extLook_mem hk)).fn
    have := run_callFunc_extern (P := P) h1 h2 h3 h4 h5 args w
    simp only [ctxOf]
    rw [this, Sem.run_bind]
    rfl

end Go.Plb

/-
  ENGINE, PART 24: triples; states made plain; loops by their invariants.
-/
namespace Go.Plb
set_option linter.unusedSimpArgs false
set_option linter.unusedVariables false

/-- The state stands, seen from the function's entry. -/
def At (ρ0 : Place) (w0 : World) (st : ASt) (a : Act) (w : World) : Prop := ∃ ρ, Ext ρ0 ρ w0 ∧ WLe (fun _ => False) w0 w ∧ SR ρ st a w

def Sub (st st' : ASt) : Prop := ∀ ρ0 w0 a w, NoPlace ρ0 w0 → At ρ0 w0 st a w → At ρ0 w0 st' a w

theorem Sub.refl (st : ASt) : Sub st st := fun _ _ _ _ _ h => h
theorem Sub.trans {a b c : ASt} (h : Sub a b) (k : Sub b c) : Sub a c := fun _ _ _ _ hN q => k _ _ _ _ hN (h _ _ _ _ hN q)

mutual
/-- Blocks named anew; what is not among them is forgotten. -/
def nmA (σ : Nat → Option Nat) : AV → AV
  | .ptr b w i j => match σ b with | some c => .ptr c w i j | none => .any
  | .sl b w es i len cap => match σ b with | some c => .sl c w es i len cap | none => .any
  | .fn f l1 l2 => .fn f (nmL σ l1) (nmL σ l2)
  | .agg l => .agg (nmL σ l)
  | .tup l => .tup (nmL σ l)
  | .iface t v => .iface t (nmA σ v)
  | v => v
def nmL (σ : Nat → Option Nat) : List AV → List AV
  | [] => []
  | v :: l => nmA σ v :: nmL σ l
end

def loose : AV → AV
  | .flt _ x => .flt false x
  | .bool _ b => .bool false b
  | v => v

def nmB (σ : Nat → Option Nat) : Blk → Blk
  | .vs l => .vs ((nmL σ l).map loose)
  | d => d

def posOf : List Nat → Nat → Nat → Option Nat
  | [], _, _ => none
  | k :: l, i, b => bif Nat.beq k b then some i else posOf l (i + 1) b

def hasN : List Nat → Nat → Bool
  | [], _ => false
  | k :: l, b => bif Nat.beq k b then true else hasN l b

def nodupB : List Nat → Bool
  | [] => true
  | k :: l => bif hasN l k then false else nodupB l

def nmHeap (σ : Nat → Option Nat) (h : Heap) : Nat → List Nat → Heap
  | _, [] => []
  | i, b :: l => match hget h b with
    | some d => (i, nmB σ d) :: nmHeap σ h (i + 1) l
    | none => nmHeap σ h (i + 1) l

/-- The slots of a frame. -/
def slotsFrom (L : List (Nat × AV)) : Nat → Nat → List AV
  | _, 0 => []
  | t, n + 1 => look L t :: slotsFrom L (t + 1) n
where look : List (Nat × AV) → Nat → AV
  | [], _ => .any
  | (k, v) :: l, t => bif Nat.beq k t then v else look l t

def slots (n : Nat) (L : List (Nat × AV)) : List AV := slotsFrom L 0 n

def nmT (σ : Nat → Option Nat) (ks : List Nat) : Nat → List AV → List AV
  | _, [] => []
  | t, v :: l => (bif hasN ks t then loose (nmA σ v) else .any) :: nmT σ ks (t + 1) l

/-- A state with these blocks, named 0, 1, ..., and these slots; the rest is forgotten. -/
def norm (keep ks : List Nat) (st : ASt) : ASt :=
  ⟨nmT (posOf keep 0) ks 0 st.tmps, nmHeap (posOf keep 0) st.heap 0 keep, keep.length⟩

theorem posOf_get : ∀ {l : List Nat} {i b c : Nat}, posOf l i b = some c → i ≤ c ∧ l[c - i]? = some b
  | [], i, b, c, h => by cases h
  | k :: l, i, b, c, h => by
    simp only [posOf] at h
    cases e : Nat.beq k b with
    | true => rw [e] at h; simp only [cond_true, Option.some.injEq] at h; subst h; have := Nat.eq_of_beq_eq_true e; subst this; simp
    | false =>
      rw [e] at h; simp only [cond_false] at h
      obtain ⟨h1, h2⟩ := posOf_get h
      refine ⟨by omega, ?_⟩
      have : c - i = (c - (i + 1)) + 1 := by omega
      rw [this]; simpa using h2

theorem hasN_get : ∀ {l : List Nat} {i b : Nat}, l[i]? = some b → hasN l b = true
  | [], i, b, h => by simp at h
  | k :: l, 0, b, h => by simp at h; subst h; simp [hasN, beq_tt]
  | k :: l, i + 1, b, h => by
    simp only [hasN]
    cases Nat.beq k b with
    | true => rfl
    | false => simp only [cond_false]; exact hasN_get (i := i) (by simpa using h)

theorem nodup_get : ∀ {l : List Nat}, nodupB l = true → ∀ {i j b : Nat}, l[i]? = some b → l[j]? = some b → i = j
  | [], _, i, j, b, h1, _ => by simp at h1
  | k :: l, hn, i, j, b, h1, h2 => by
    simp only [nodupB] at hn
    cases e : hasN l k with
    | true => rw [e] at hn; cases hn
    | false =>
      rw [e] at hn; simp only [cond_false] at hn
      cases i with
      | zero =>
        cases j with
        | zero => rfl
        | succ j => simp at h1 h2; subst h1; rw [hasN_get h2] at e; cases e
      | succ i =>
        cases j with
        | zero => simp at h1 h2; subst h2; rw [hasN_get h1] at e; cases e
        | succ j => have := nodup_get hn (i := i) (j := j) (b := b) (by simpa using h1) (by simpa using h2); omega

def Place.renamed (ρ : Place) (keep : List Nat) : Place :=
  { at_ := fun i => ρ.at_ ((keep[i]?).getD 0), live := ρ.live, out := ρ.out, ok := fun i => ∃ b, keep[i]? = some b ∧ ρ.ok b }

mutual
theorem nm_vr {ρ : Place} {keep : List Nat} {w : World} : ∀ (v : AV) {u : Value}, VR ρ w v u → VR (ρ.renamed keep) w (nmA (posOf keep 0) v) u
  | .ptr b k i j, u, h => by
    simp only [nmA]
    split
    · rename_i c hc
      cases h with | ptr _ _ _ _ hb =>
      obtain ⟨_, hg⟩ := posOf_get hc
      rw [Nat.sub_zero] at hg
      have : (ρ.renamed keep).at_ c = ρ.at_ b := by simp [Place.renamed, hg]
      rw [← this]; exact .ptr _ _ _ _ ⟨b, hg, hb⟩
    · exact .any u
  | .sl b k es i len cap, u, h => by
    simp only [nmA]
    split
    · rename_i c hc
      obtain ⟨_, hg⟩ := posOf_get hc
      rw [Nat.sub_zero] at hg
      have e : (ρ.renamed keep).at_ c = ρ.at_ b := by simp [Place.renamed, hg]
      cases h with
      | sl _ _ _ _ _ _ cap' hb hcap hl ce t hh hs => rw [← e] at hh ⊢; exact .sl _ _ _ _ _ _ _ ⟨b, hg, hb⟩ hcap hl ce t hh hs
      | slEnd => exact .slEnd _ _ _ _ _
    · exact .any u
  | .fn f l1 l2, u, h => by cases h with | fn _ _ _ _ _ h1 h2 => exact .fn _ _ _ _ _ (nmL_vr l1 h1) (nmL_vr l2 h2)
  | .agg l, u, h => by cases h with | agg _ _ h1 => exact .agg _ _ (nmL_vr l h1)
  | .tup l, u, h => by cases h with | tup _ _ h1 => exact .tup _ _ (nmL_vr l h1)
  | .iface t v, u, h => by cases h with | iface _ _ _ h1 => exact .iface _ _ _ (nm_vr v h1)
  | .int .., u, h => plain_vr h rfl
  | .bool .., u, h => plain_vr h rfl
  | .flt .., u, h => plain_vr h rfl
  | .str .., u, h => plain_vr h rfl
  | .nptr, u, h => plain_vr h rfl
  | .iptr .., u, h => plain_vr h rfl
  | .nsl, u, h => plain_vr h rfl
  | .imm .., u, h => plain_vr h rfl
  | .nfn, u, h => plain_vr h rfl
  | .niface, u, h => plain_vr h rfl
  | .any, u, h => .any u
theorem nmL_vr {ρ : Place} {keep : List Nat} {w : World} : ∀ (l : List AV) {c : List Value}, VRs ρ w l c → VRs (ρ.renamed keep) w (nmL (posOf keep 0) l) c
  | [], c, h => by cases h; exact .nil
  | v :: l, c, h => by cases h with | cons _ u _ c' h1 h2 => exact .cons _ _ _ _ (nm_vr v h1) (nmL_vr l h2)
theorem plain_vr {ρ : Place} {keep : List Nat} {w : World} {v : AV} {u : Value} (h : VR ρ w v u) (hf : v.foreign = true) : VR (ρ.renamed keep) w v u :=
  bare_vr (ρ := ρ) (τ := ρ.renamed keep) ⟨rfl, fun _ q => q⟩ h hf
end

theorem loose_vr {ρ : Place} {w : World} {v : AV} {u : Value} (h : VR ρ w v u) : VR ρ w (loose v) u := by
  cases h <;> simp only [loose] <;> first | exact .bool _ _ | (rename_i hf; refine .flt _ _ _ ?_; rcases hf with rfl | ⟨_, h2, h3⟩; exact .inl rfl; exact .inr ⟨rfl, h2, h3⟩) | skip
  case int => exact .int _ _
  case str => exact .str _
  case nptr => exact .nptr
  case ptr hb => exact .ptr _ _ _ _ hb
  case iptr => rename_i bw d k i j bl o u' ha hb hr hg hc hv hk; exact .iptr bw d k i j bl o _ (by assumption) (by assumption) (by assumption) (by assumption) (by assumption) (by assumption) (by assumption)
  case nsl => exact .nsl
  case sl => exact .sl _ _ _ _ _ _ _ (by assumption) (by assumption) (by assumption) _ _ (by assumption) (by assumption)
  case slEnd => exact .slEnd _ _ _ _ _
  case imm => exact .imm _ _ _ _ _ _ _ _ _ _ (by assumption) (by assumption) (by assumption) (by assumption) (by assumption) (by assumption) (by assumption) (by assumption)
  case immEnd => exact .immEnd _ _ _ _ _ _ _ (by assumption) (by assumption) (by assumption)
  case fn => exact .fn _ _ _ _ _ (by assumption) (by assumption)
  case nfn => exact .nfn
  case agg => exact .agg _ _ (by assumption)
  case tup => exact .tup _ _ (by assumption)
  case iface => exact .iface _ _ _ (by assumption)
  case niface => exact .niface
  case any => exact .any _

theorem nmT_vr {ρ : Place} {keep ks : List Nat} {w : World} : ∀ (l : List AV) (t : Nat) {c : List Value}, VRs ρ w l c → VRs (ρ.renamed keep) w (nmT (posOf keep 0) ks t l) c
  | [], t, c, h => by cases h; exact .nil
  | v :: l, t, c, h => by
    cases h with | cons _ u _ c' h1 h2 =>
    simp only [nmT]
    refine .cons _ _ _ _ ?_ (nmT_vr l (t + 1) h2)
    cases hasN ks t with
    | true => exact loose_vr (nm_vr v h1)
    | false => exact .any u

theorem nmHeap_get {σ : Nat → Option Nat} {h : Heap} : ∀ {l : List Nat} {i c : Nat} {d : Blk}, hget (nmHeap σ h i l) c = some d → i ≤ c ∧ ∃ b e, l[c - i]? = some b ∧ hget h b = some e ∧ d = nmB σ e
  | [], i, c, d, q => by cases q
  | b :: l, i, c, d, q => by
    simp only [nmHeap] at q
    have next : hget (nmHeap σ h (i + 1) l) c = some d → i ≤ c ∧ ∃ b' e, (b :: l)[c - i]? = some b' ∧ hget h b' = some e ∧ d = nmB σ e := by
      intro q
      obtain ⟨h1, b', e, h2, h3, h4⟩ := nmHeap_get q
      refine ⟨by omega, b', e, ?_, h3, h4⟩
      have : c - i = (c - (i + 1)) + 1 := by omega
      rw [this]; simpa using h2
    split at q
    · rename_i e he
      simp only [hget] at q
      cases hc : Nat.beq i c with
      | true =>
        rw [hc] at q; simp only [cond_true, Option.some.injEq] at q
        have := Nat.eq_of_beq_eq_true hc; subst this
        exact ⟨Nat.le_refl _, b, e, by simp, he, q.symm⟩
      | false => rw [hc] at q; exact next q
    · exact next q

theorem nmB_rk {σ : Nat → Option Nat} {d : Blk} (h : d.recKept) : (nmB σ d).recKept := by
  cases d <;> first | exact h | trivial

theorem nmL_get (σ : Nat → Option Nat) : ∀ (l : List AV) (x : Nat), (nmL σ l)[x]? = (l[x]?).map (nmA σ)
  | [], x => by simp [nmL]
  | v :: l, 0 => by simp [nmL]
  | v :: l, x + 1 => by simp [nmL, nmL_get σ l x]

theorem nmB_cell {σ : Nat → Option Nat} {d : Blk} {x : Nat} {v : AV} (h : (nmB σ d).cell? x = some v) (hr : d.recKept) : ∃ v', d.cell? x = some v' ∧ (v = loose (nmA σ v') ∨ (v = v' ∧ v.foreign = true)) := by
  cases d with
  | vs l =>
    simp only [nmB, Blk.cell?, List.getElem?_map, nmL_get, Option.map_map, Option.map_eq_some_iff, Function.comp] at h
    obtain ⟨v', h1, rfl⟩ := h
    exact ⟨v', h1, .inl rfl⟩
  | fl xs => exact ⟨v, h, .inr ⟨rfl, foreign_content (d := .fl xs) trivial rfl x v h⟩⟩
  | ns k xs => exact ⟨v, h, .inr ⟨rfl, foreign_content (d := .ns k xs) trivial rfl x v h⟩⟩
  | bs xs => exact ⟨v, h, .inr ⟨rfl, foreign_content (d := .bs xs) trivial rfl x v h⟩⟩
  | ss xs => exact ⟨v, h, .inr ⟨rfl, foreign_content (d := .ss xs) trivial rfl x v h⟩⟩
  | rows k m get => exact ⟨v, h, .inr ⟨rfl, foreign_content (d := .rows k m get) hr rfl x v h⟩⟩

theorem norm_sub {keep ks : List Nat} (hn : nodupB keep = true) (st : ASt) : Sub st (norm keep ks st) := by
  rintro ρ0 w0 a w hN ⟨ρ, E, W, S⟩
  refine ⟨ρ.renamed keep, ⟨fun b q => (hN.2.1 b q).elim, fun b q => (hN.2.1 b q).elim, fun b q => (hN.1 b q).elim, E.new, E.out⟩, W, ⟨S.defers, nmT_vr _ _ S.tmps, ?_⟩⟩
  have hh := S.heap
  refine ⟨fun c d q => ?_, fun c c' d d' q q' he => ?_, hh.fresh, hh.liveLt, hh.outLt, fun c q => ?_⟩
  · obtain ⟨_, b, e, h1, h2, rfl⟩ := nmHeap_get q
    rw [Nat.sub_zero] at h1
    obtain ⟨k1, k2, k3⟩ := hh.cell b e h2
    have ea : (ρ.renamed keep).at_ c = ρ.at_ b := by simp [Place.renamed, h1]
    refine ⟨⟨b, h1, k1⟩, by rw [ea]; exact k2, ?_⟩
    rw [ea]
    obtain ⟨hr, ce, t, r1, r2⟩ := k3
    refine ⟨nmB_rk hr, ce, t, r1, fun x v hx => ?_⟩
    obtain ⟨v', s1, s2⟩ := nmB_cell hx hr
    obtain ⟨u, t1, t2⟩ := r2 x v' s1
    refine ⟨u, t1, ?_⟩
    rcases s2 with rfl | ⟨rfl, hf⟩
    · exact loose_vr (nm_vr v' t2)
    · exact plain_vr t2 hf
  · obtain ⟨_, b, e, h1, h2, rfl⟩ := nmHeap_get q
    obtain ⟨_, b', e', h1', h2', rfl⟩ := nmHeap_get q'
    rw [Nat.sub_zero] at h1 h1'
    have ea : (ρ.renamed keep).at_ c = ρ.at_ b := by simp [Place.renamed, h1]
    have ea' : (ρ.renamed keep).at_ c' = ρ.at_ b' := by simp [Place.renamed, h1']
    rw [ea, ea'] at he
    have := hh.inj b b' e e' h2 h2' he
    subst this
    exact nodup_get hn h1 h1'
  · obtain ⟨b, h1, _⟩ := q
    exact (List.getElem?_eq_some_iff.1 h1).1

end Go.Plb

/-
  ENGINE, PART 25: triples over lists of pieces of code; loops; a function's contract.
-/
namespace Go.Plb
set_option linter.unusedSimpArgs false
set_option linter.unusedVariables false

/-- A text as a list of pieces. -/
def flat : Code → List Code
  | .seq a b => flat a ++ flat b
  | .skip => []
  | .label _ => []
  | c => [c]

def wpL (P : Program) : List Code → (Exit → Act → World → Prop) → Act → World → Prop
  | [], K, a, w => K .normal a w
  | c :: l, K, a, w => c.wp P (fun e a' w' => match e with | .normal => wpL P l K a' w' | e => K e a' w') a w

theorem wpL_append {P : Program} {K : Exit → Act → World → Prop} : ∀ (l l' : List Code) (a : Act) (w : World), wpL P l (fun e a' w' => match e with | .normal => wpL P l' K a' w' | e => K e a' w') a w → wpL P (l ++ l') K a w
  | [], l', a, w, h => h
  | c :: l, l', a, w, h => by
    simp only [List.cons_append, wpL] at h ⊢
    refine wp_mono h ?_
    intro e a' w' q
    cases e <;> first | exact wpL_append l l' a' w' q | exact q

theorem one_wp {P : Program} {c : Code} {K : Exit → Act → World → Prop} {a : Act} {w : World} (h : wpL P [c] K a w) : c.wp P K a w := by
  simp only [wpL] at h
  refine wp_mono h ?_
  intro e a' w' q
  cases e <;> exact q

theorem flat_wp {P : Program} : ∀ (c : Code) {K : Exit → Act → World → Prop} {a : Act} {w : World}, wpL P (flat c) K a w → c.wp P K a w
  | .seq x y, K, a, w, h => by
    simp only [flat] at h
    refine wp_seq (flat_wp x ?_)
    have app : ∀ (l l' : List Code) (a : Act) (w : World), wpL P (l ++ l') K a w → wpL P l (fun e a' w' => match e with | .normal => wpL P l' K a' w' | e => K e a' w') a w := by
      intro l
      induction l with
      | nil => intro l' a w h; exact h
      | cons c l ih =>
        intro l' a w h
        simp only [List.cons_append, wpL] at h ⊢
        refine wp_mono h ?_
        intro e a' w' q
        cases e <;> first | exact ih l' a' w' q | exact q
    have := app _ _ _ _ h
    have mono : ∀ (l : List Code) (K K' : Exit → Act → World → Prop) (a : Act) (w : World), (∀ e a w, K e a w → K' e a w) → wpL P l K a w → wpL P l K' a w := by
      intro l
      induction l with
      | nil => intro K K' a w hK h; exact hK _ _ _ h
      | cons c l ih =>
        intro K K' a w hK h
        simp only [wpL] at h ⊢
        refine wp_mono h ?_
        intro e a' w' q
        cases e <;> first | exact ih K K' a' w' hK q | exact hK _ _ _ q
    refine mono _ _ _ _ _ ?_ this
    intro e a' w' q
    cases e <;> first | exact flat_wp y q | exact q
  | .skip, K, a, w, h => wp_skip h
  | .label _, K, a, w, h => wp_label h
  | .region .., K, a, w, h => one_wp h
  | .cond .., K, a, w, h => one_wp h
  | .block .., K, a, w, h => one_wp h
  | .loop .., K, a, w, h => one_wp h
  | .exit .., K, a, w, h => one_wp h
  | .ret, K, a, w, h => one_wp h
  | .scope .., K, a, w, h => one_wp h
  | .goto .., K, a, w, h => one_wp h
  | .rangeFunc .., K, a, w, h => one_wp h
  | .refuse .., K, a, w, h => one_wp h

def Trip (P : Program) (cs : List Code) (st : ASt) (Q : AE → ASt → Prop) : Prop :=
  ∀ (ρ0 : Place) (w0 : World), NoPlace ρ0 w0 → ∀ (K : Exit → Act → World → Prop), (∀ e st' a' w', Q e st' → At ρ0 w0 st' a' w' → K e.real a' w') → ∀ a w, At ρ0 w0 st a w → wpL P cs K a w

/-- The pieces in a row. -/
def runL (self : CodeRun) : List Code → ASt → Path → Res
  | [], st, p => some (.normal, st, [], p)
  | c :: l, st, p =>
    match self c st p with
    | some (.normal, st1, o1, p1) =>
      match runL self l st1 p1 with
      | some (e, st2, o2, p2) => some (e, st2, o1 ++ o2, p2)
      | none => none
    | r => r

theorem runL_ok {P : Program} {self : CodeRun} (hself : CodeOk P self) : ∀ (cs : List Code) {st st' : ASt} {p p' : Path} {e : AE} {obs : List Bool}, runL self cs st p = some (e, st', obs, p') → allTrue obs → ∀ {ρ : Place} {a : Act} {w : World} {Q : Exit → Act → World → Prop}, SR ρ st a w →
    (∀ ρ' a' w', Post ρ w st' ρ' a' w' → Q e.real a' w') → wpL P cs Q a w
  | [], st, st', p, p', e, obs, h, ho, ρ, a, w, Q, hs, hQ => by
    simp only [runL, Option.some.injEq, Prod.mk.injEq] at h; obtain ⟨rfl, rfl, rfl, rfl⟩ := h
    exact hQ ρ a w ⟨Ext.refl _ _, WLe.refl _ _, hs⟩
  | c :: l, st, st', p, p', e, obs, h, ho, ρ, a, w, Q, hs, hQ => by
    simp only [runL] at h
    split at h
    · rename_i st1 o1 p1 h1
      split at h
      case h_2 => cases h
      rename_i e2 st2 o2 p2 h2
      simp only [Option.some.injEq, Prod.mk.injEq] at h; obtain ⟨rfl, rfl, rfl, rfl⟩ := h
      rw [allTrue_append] at ho
      refine hself c st p _ _ _ _ h1 ho.1 ρ a w _ hs fun ρ1 a1 w1 P1 => ?_
      exact runL_ok hself l h2 ho.2 P1.sr fun ρ2 a2 w2 P2 => hQ ρ2 a2 w2 (P1.trans P2)
    · rename_i hne
      refine hself c st p _ _ _ _ h ho ρ a w _ hs fun ρ1 a1 w1 P1 => ?_
      have := hQ ρ1 a1 w1 P1
      cases e with
      | normal => exact (hne _ _ _ h).elim
      | ret => exact this
      | exit id => exact this

theorem At.post {ρ0 ρ ρ' : Place} {w0 w w' : World} {st st' : ASt} {a a' : Act} (hN : NoPlace ρ0 w0) (E : Ext ρ0 ρ w0) (W : WLe (fun _ => False) w0 w) (h : Post ρ w st' ρ' a' w') : At ρ0 w0 st' a' w' :=
  ⟨ρ', E.trans h.ext W.size, W.trans h.wle (fun x hx q => hN.1 x (E.new x hx q)), h.sr⟩

theorem Trip.weak {P : Program} {cs : List Code} {st st1 : ASt} {Q : AE → ASt → Prop} (hs : Sub st st1) (h : Trip P cs st1 Q) : Trip P cs st Q :=
  fun ρ0 w0 hN K hK a w hA => h ρ0 w0 hN K hK a w (hs _ _ _ _ hN hA)

theorem Trip.nil {P : Program} {st : ASt} {Q : AE → ASt → Prop} (h : Q .normal st) : Trip P [] st Q :=
  fun ρ0 w0 hN K hK a w hA => hK .normal st a w h hA

/-- What is to be shown behind a segment. -/
def Then (P : Program) (rest : List Code) (e : AE) (st : ASt) (Q : AE → ASt → Prop) : Prop :=
  match e with
  | .normal => Trip P rest st Q
  | e => Q e st

theorem Then.exit {P : Program} {rest : List Code} {id : Nat} {st : ASt} {Q : AE → ASt → Prop} (h : Q (.exit id) st) : Then P rest (.exit id) st Q := h
theorem Then.ret {P : Program} {rest : List Code} {st : ASt} {Q : AE → ASt → Prop} (h : Q .ret st) : Then P rest .ret st Q := h
theorem Then.normal {P : Program} {rest : List Code} {st : ASt} {Q : AE → ASt → Prop} (h : Trip P rest st Q) : Then P rest .normal st Q := h

def endOf (keep ks : List Nat) (r : Res) : Option (AE × ASt × List Bool) :=
  match r with
  | some (e, st, obs, _) => some (e, norm keep ks st, obs)
  | none => none

/-- A segment: the first k pieces, by running them; then a plain state. -/
theorem Trip.seg {C : Ctx} (hC : C.Ok) {S : Sums} (hS : SumsOk C.P S) {N n : Nat} (k : Nat) (p : Path) (keep ks : List Nat) {cs : List Code} {st st1 : ASt} {e : AE} {obs : List Bool} {Q : AE → ASt → Prop}
    (h : endOf keep ks (runL (runCode C S N n) (cs.take k) st p) = some (e, st1, obs)) (hn : nodupB keep = true) (ho : allTrue obs) (hr : Then C.P (cs.drop k) e st1 Q) : Trip C.P cs st Q := by
  intro ρ0 w0 hN K hK a w ⟨ρ, E, W, S1⟩
  rw [← List.take_append_drop k cs]
  apply wpL_append
  unfold endOf at h
  split at h
  case h_2 => cases h
  rename_i e' st2 obs' p' hrun
  simp only [Option.some.injEq, Prod.mk.injEq] at h; obtain ⟨rfl, rfl, rfl⟩ := h
  refine runL_ok (runCode_ok hC hS N n) _ hrun ho S1 fun ρ' a' w' P1 => ?_
  have hA := norm_sub (ks := ks) hn st2 ρ0 w0 a' w' hN (At.post (st := st) (a := a) hN E W P1)
  cases e' with
  | normal => exact hr ρ0 w0 hN K hK a' w' hA
  | ret => exact hK _ _ _ _ hr hA
  | exit id => exact hK _ _ _ _ hr hA

/-- What is to be shown behind one round of the loop of block id. -/
def Round (P : Program) {σ : Type} (I : σ → ASt) (G : σ → Prop) (m : σ → Nat) (s : σ) (id : Nat) (rest : List Code) (Q : AE → ASt → Prop) (e : AE) (st : ASt) : Prop :=
  match e with
  | .normal => ∃ s', G s' ∧ m s' < m s ∧ st = I s'
  | .exit j => if j = id then Trip P rest st Q else Q (.exit j) st
  | .ret => Q .ret st

theorem Round.out {P : Program} {σ : Type} {I : σ → ASt} {G : σ → Prop} {m : σ → Nat} {s : σ} {id : Nat} {rest : List Code} {Q : AE → ASt → Prop} {st : ASt} (h : Trip P rest st Q) : Round P I G m s id rest Q (.exit id) st := by
  simp only [Round, if_true]; exact h

theorem Round.on {P : Program} {σ : Type} {I : σ → ASt} {G : σ → Prop} {m : σ → Nat} {s : σ} {id : Nat} {rest : List Code} {Q : AE → ASt → Prop} {st : ASt} (s' : σ) (hs : st = I s') (hm : m s' < m s) (hG : G s') : Trip P [] st (Round P I G m s id rest Q) :=
  Trip.nil ⟨s', hG, hm, hs⟩

theorem Trip.loop {P : Program} {σ : Type} (I : σ → ASt) (G : σ → Prop) (m : σ → Nat) {id : Nat} {b : Code} {cs rest : List Code} {Q : AE → ASt → Prop} (hcs : cs = .block id (.loop b) :: rest)
    (body : ∀ s, G s → Trip P (flat b) (I s) (Round P I G m s id rest Q)) (s : σ) (hs : G s) : Trip P cs (I s) Q := by
  subst hcs
  intro ρ0 w0 hN K hK a w hA
  simp only [wpL]
  refine wp_block ?_
  refine wp_loop_rounds (m s + 1) ?_
  have key : ∀ n s, m s < n → G s → ∀ a w, At ρ0 w0 (I s) a w → Code.rounds P b (Exit.inBlock id fun (e : Exit) a' w' => match e with | .normal => wpL P rest K a' w' | e => K e a' w') n a w := by
    intro n
    induction n with
    | zero => intro s h; omega
    | succ n ih =>
      intro s hm hs a w hA
      rw [rounds_succ]
      refine flat_wp b ?_
      refine body s hs ρ0 w0 hN _ ?_ a w hA
      intro e st' a' w' hR hA'
      cases e with
      | normal =>
        obtain ⟨s', h1, h2, rfl⟩ := hR
        exact ih s' (by omega) h1 a' w' hA'
      | ret => exact hK _ _ _ _ hR hA'
      | exit j =>
        simp only [Round] at hR
        by_cases hj : j = id
        · subst hj
          rw [if_pos rfl] at hR
          simp only [AE.real, Exit.then, Exit.inBlock, if_true]
          exact hR ρ0 w0 hN K hK a' w' hA'
        · rw [if_neg hj] at hR
          simp only [AE.real, Exit.then, Exit.inBlock, hj, if_false]
          exact hK _ _ _ _ hR hA'
  exact key _ s (Nat.lt_succ_self _) hs a w hA

theorem Trip.mono {P : Program} {cs : List Code} {st : ASt} {Q Q' : AE → ASt → Prop} (hQ : ∀ e st, Q e st → Q' e st) (h : Trip P cs st Q) : Trip P cs st Q' :=
  fun ρ0 w0 hN K hK a w hA => h ρ0 w0 hN K (fun e st' a' w' q hA' => hK e st' a' w' (hQ e st' q) hA') a w hA

/-- A piece that is a block (or a scope): its inside, then the rest. -/
theorem Trip.block {P : Program} {id : Nat} {b : Code} {cs rest : List Code} {st : ASt} {Q : AE → ASt → Prop} (hcs : cs = .block id b :: rest)
    (h : Trip P (flat b) st fun e st' => match e with | .normal => Trip P rest st' Q | .exit j => if j = id then Trip P rest st' Q else Q (.exit j) st' | .ret => Q .ret st') : Trip P cs st Q := by
  subst hcs
  intro ρ0 w0 hN K hK a w hA
  simp only [wpL]
  refine wp_block (flat_wp b ?_)
  refine h ρ0 w0 hN _ ?_ a w hA
  intro e st' a' w' hR hA'
  cases e with
  | normal => exact hR ρ0 w0 hN K hK a' w' hA'
  | ret => exact hK _ _ _ _ hR hA'
  | exit j =>
    simp only at hR
    by_cases hj : j = id
    · subst hj
      rw [if_pos rfl] at hR
      simp only [AE.real, Exit.inBlock, if_true]
      exact hR ρ0 w0 hN K hK a' w' hA'
    · rw [if_neg hj] at hR
      simp only [AE.real, Exit.inBlock, hj, if_false]
      exact hK _ _ _ _ hR hA'

theorem Trip.scope {P : Program} {b : Code} {cs rest : List Code} {st : ASt} {Q : AE → ASt → Prop} (hcs : cs = .scope b :: rest)
    (h : Trip P (flat b) st fun e st' => Then P rest e st' Q) : Trip P cs st Q := by
  subst hcs
  intro ρ0 w0 hN K hK a w hA
  simp only [wpL]
  refine wp_scope_straight (flat_wp b ?_)
  refine h ρ0 w0 hN _ ?_ a w hA
  intro e st' a' w' hR hA'
  cases e with
  | normal => exact hR ρ0 w0 hN K hK a' w' hA'
  | ret => exact hK _ _ _ _ hR hA'
  | exit j => exact hK _ _ _ _ hR hA'

/-- What a function's frame is at its entry. -/
def entry (fn : Func) (args : List AV) : ASt := ⟨args ++ List.replicate (fn.ntmps - args.length) (.tup []), [], 0⟩

/-- The end of a function: its results, handed back. -/
def Hands (P : Program) (fn : Func) (r : Out) (e : AE) (st : ASt) : Prop :=
  (e = .normal ∨ e = .ret) ∧ ∃ vs obs, resultsA P fn st fn.results.toList = some (vs, obs) ∧ allTrue obs ∧ outA st.heap (oneRes vs) = r

theorem Trip.contract {P : Program} {f : FuncId} {fn : Func} {c : Code} (hf : P.funcs[f]? = some fn) (hc : fn.body = some c) {args : List AV} {r : Out} (hk : r.ok = true)
    (h : Trip P (flat c) (entry fn args) (Hands P fn r)) : Contract P f args r := by
  refine contract_of_wp hf hc hk ?_
  intro ρ w a hN hs
  refine flat_wp c ?_
  refine h ρ w hN _ ?_ a w ⟨ρ, Ext.refl _ _, WLe.refl _ _, hs⟩
  rintro e st' a' w' ⟨he, vs, obs, h1, h2, h3⟩ ⟨ρ', E, W, S⟩
  refine ⟨?_, ρ', st', vs, obs, ⟨E, W.mono (fun b _ q => q.elim), S⟩, h1, h2, h3⟩
  rcases he with rfl | rfl
  · exact .inl rfl
  · exact .inr rfl

end Go.Plb

/-
  ENGINE, PART 26: a float's size, its sign; when two floats are the same.
-/
namespace Go.Plb
set_option linter.unusedSimpArgs false
set_option linter.unusedVariables false

def fabs (x : Nat) : Nat := x % 9223372036854775808
def fcopy (x y : Nat) : Nat := x % 9223372036854775808 + y / 9223372036854775808 % 2 * 9223372036854775808
def sameB (x y : Nat) : Bool := (isNaN x && isNaN y) || x == y

theorem ofInt_nat (x : Nat) : BitVec.ofInt 64 (x : Int) = BitVec.ofNat 64 x := by simp
theorem not_top : ~~~ BitVec.ofInt 64 9223372036854775808 = BitVec.ofNat 64 (2 ^ 63 - 1) := by decide

theorem u64_wrap_nat (n : Nat) : IntKind.u64.wrap (n : Int) = ((n % 18446744073709551616 : Nat) : Int) := by
  simp [IntKind.wrap, IntKind.signed, IntKind.bits]

theorem abs_eq (x : Nat) : (bitsV .andNot .u64 (x : Int) 9223372036854775808) = ((fabs x : Nat) : Int) := by
  have e : (BitVec.ofInt IntKind.u64.bits (x : Int) &&& ~~~ BitVec.ofInt IntKind.u64.bits 9223372036854775808).toNat = x % 9223372036854775808 := by
    show (BitVec.ofInt 64 (x : Int) &&& ~~~ BitVec.ofInt 64 9223372036854775808).toNat = _
    rw [not_top, ofInt_nat, BitVec.toNat_and, BitVec.toNat_ofNat, BitVec.toNat_ofNat]
    have : (2 ^ 63 - 1) % 2 ^ 64 = 2 ^ 63 - 1 := by decide
    rw [this, Nat.and_two_pow_sub_one_eq_mod]
    omega
  unfold bitsV
  simp only
  rw [e, u64_wrap_nat]
  congr 1
  unfold fabs
  omega

theorem top_eq (y : Nat) : (bitsV .and .u64 (y : Int) 9223372036854775808) = ((y / 9223372036854775808 % 2 * 9223372036854775808 : Nat) : Int) := by
  have e : (BitVec.ofInt IntKind.u64.bits (y : Int) &&& BitVec.ofInt IntKind.u64.bits 9223372036854775808).toNat = y / 9223372036854775808 % 2 * 9223372036854775808 := by
    show (BitVec.ofInt 64 (y : Int) &&& BitVec.ofInt 64 9223372036854775808).toNat = _
    have h1 : BitVec.ofInt 64 9223372036854775808 = BitVec.ofNat 64 (2 ^ 63) := by decide
    rw [h1, ofInt_nat, BitVec.toNat_and, BitVec.toNat_ofNat, BitVec.toNat_ofNat]
    have : 2 ^ 63 % 2 ^ 64 = 2 ^ 63 := by decide
    rw [this]
    apply Nat.eq_of_testBit_eq; intro i
    have e2 : (9223372036854775808 : Nat) = 2 ^ 63 := by decide
    rw [e2, Nat.testBit_and, Nat.testBit_two_pow, Nat.testBit_mod_two_pow, Nat.testBit_mul_two_pow]
    by_cases hi : 63 = i
    · subst hi
      simp [Nat.testBit_eq_decide_div_mod_eq]
    · by_cases h2 : 63 ≤ i
      · have h3 : ∃ j, i - 63 = j + 1 := ⟨i - 64, by omega⟩
        obtain ⟨j, hj⟩ := h3
        have : (y / 2 ^ 63 % 2).testBit (i - 63) = false := by
          have := Nat.mod_lt (y / 2 ^ 63) (by decide : 2 > 0)
          apply Nat.testBit_lt_two_pow
          calc y / 2 ^ 63 % 2 < 2 := this
            _ = 2 ^ 1 := rfl
            _ ≤ 2 ^ (i - 63) := Nat.pow_le_pow_right (by decide) (by omega)
        simp [hi, this]
      · simp [hi, h2]
  unfold bitsV
  simp only
  rw [e, u64_wrap_nat]
  congr 1
  omega

theorem abs2_eq (x : Nat) : (IntKind.u64.wrap ((x : Int) * 2 ^ min (Int.toNat 1) IntKind.u64.bits)).fdiv (2 ^ min (Int.toNat 1) IntKind.u64.bits) = ((fabs x : Nat) : Int) := by
  have h1 : min (Int.toNat 1) IntKind.u64.bits = 1 := by decide
  have h2 : (2 : Int) ^ 1 = 2 := by decide
  rw [h1, h2]
  have h3 : (x : Int) * 2 = ((x * 2 : Nat) : Int) := by push_cast; rfl
  rw [h3, u64_wrap_nat, Int.fdiv_eq_ediv_of_nonneg _ (by decide : (0 : Int) ≤ 2)]
  unfold fabs
  omega

theorem top2_eq (y : Nat) : IntKind.u64.wrap ((y : Int).fdiv (2 ^ min (Int.toNat 63) IntKind.u64.bits) * 2 ^ min (Int.toNat 63) IntKind.u64.bits) = ((y / 9223372036854775808 % 2 * 9223372036854775808 : Nat) : Int) := by
  have h1 : min (Int.toNat 63) IntKind.u64.bits = 63 := by decide
  have h2 : (2 : Int) ^ 63 = 9223372036854775808 := by decide
  rw [h1, h2, Int.fdiv_eq_ediv_of_nonneg _ (by decide : (0 : Int) ≤ 9223372036854775808)]
  have h3 : (y : Int) / 9223372036854775808 * 9223372036854775808 = ((y / 9223372036854775808 * 9223372036854775808 : Nat) : Int) := by rw [Int.natCast_mul, Int.natCast_ediv]; rfl
  rw [h3, u64_wrap_nat]
  congr 1
  omega

theorem or_eq (x y : Nat) : bitsV .or .u64 ((fabs x : Nat) : Int) ((y / 9223372036854775808 % 2 * 9223372036854775808 : Nat) : Int) = ((fcopy x y : Nat) : Int) := by
  have e : (BitVec.ofInt IntKind.u64.bits ((fabs x : Nat) : Int) ||| BitVec.ofInt IntKind.u64.bits ((y / 9223372036854775808 % 2 * 9223372036854775808 : Nat) : Int)).toNat = fcopy x y := by
    show (BitVec.ofInt 64 ((fabs x : Nat) : Int) ||| BitVec.ofInt 64 ((y / 9223372036854775808 % 2 * 9223372036854775808 : Nat) : Int)).toNat = _
    rw [ofInt_nat, ofInt_nat, BitVec.toNat_or, BitVec.toNat_ofNat, BitVec.toNat_ofNat]
    unfold fabs fcopy
    have hb0 := Nat.mod_lt (y / 9223372036854775808) (by decide : 2 > 0)
    generalize y / 9223372036854775808 % 2 = b at *
    have e2 : (9223372036854775808 : Nat) = 2 ^ 63 := by decide
    have l1 : x % 9223372036854775808 % 2 ^ 64 = x % 9223372036854775808 := by omega
    rw [l1]
    rcases Nat.lt_or_ge b 2 with hb | hb
    · have l2 : b * 9223372036854775808 % 2 ^ 64 = b * 9223372036854775808 := by omega
      rw [l2, Nat.or_comm, Nat.add_comm, e2, Nat.mul_comm b, Nat.two_pow_add_eq_or_of_lt (Nat.mod_lt _ (by decide))]
    · omega
  unfold bitsV
  simp only
  rw [e, u64_wrap_nat]
  congr 1
  unfold fcopy
  have := Nat.mod_lt x (by decide : 9223372036854775808 > 0)
  have := Nat.mod_lt (y / 9223372036854775808) (by decide : 2 > 0)
  omega

theorem isNaN_fabs (x : Nat) : isNaN (fabs x) = isNaN x := by
  rw [isNaN_eq, isNaN_eq]; unfold fabs; rw [Nat.mod_mod]
theorem isNaN_fcopy (x y : Nat) : isNaN (fcopy x y) = isNaN x := by
  rw [isNaN_eq, isNaN_eq]; unfold fcopy
  rw [Nat.add_mul_mod_self_right, Nat.mod_mod]

theorem FR.abs {ex : Bool} {x y : Nat} (h : FR ex x y) : FR false (fabs x) (fabs y) := by
  rcases h with rfl | ⟨h1, h2, h3⟩
  · exact .inl rfl
  · exact .inr ⟨rfl, by rw [isNaN_fabs]; exact h2, by rw [isNaN_fabs]; exact h3⟩

theorem FR.copy {e1 e2 : Bool} {x y x' y' : Nat} (h : FR e1 x x') (k : FR e2 y y') (hn : isNaN y = true → isNaN x = true) : FR false (fcopy x y) (fcopy x' y') := by
  rcases h with rfl | ⟨h1, h2, h3⟩
  · rcases k with rfl | ⟨k1, k2, k3⟩
    · exact .inl rfl
    · exact .inr ⟨rfl, by rw [isNaN_fcopy]; exact hn k2, by rw [isNaN_fcopy]; exact hn k2⟩
  · exact .inr ⟨rfl, by rw [isNaN_fcopy]; exact h2, by rw [isNaN_fcopy]; exact h3⟩

theorem FR.same {e1 e2 : Bool} {x y x' y' : Nat} (h : FR e1 x x') (k : FR e2 y y') : sameB x' y' = sameB x y := by
  unfold sameB
  rcases h with rfl | ⟨h1, h2, h3⟩
  · rcases k with rfl | ⟨k1, k2, k3⟩
    · rfl
    · rw [k2, k3]
      cases hx : isNaN x' with
      | true => rfl
      | false =>
        have a : (x' == y') = false := by
          rw [beq_eq_false_iff_ne]; intro e; rw [e] at hx; rw [hx] at k3; cases k3
        have b : (x' == y) = false := by
          rw [beq_eq_false_iff_ne]; intro e; rw [e] at hx; rw [hx] at k2; cases k2
        rw [a, b]
  · rcases k with rfl | ⟨k1, k2, k3⟩
    · rw [h2, h3]
      cases hx : isNaN y' with
      | true => rfl
      | false =>
        have a : (x' == y') = false := by
          rw [beq_eq_false_iff_ne]; intro e; rw [e] at h3; rw [hx] at h3; cases h3
        have b : (x == y') = false := by
          rw [beq_eq_false_iff_ne]; intro e; rw [e] at h2; rw [hx] at h2; cases h2
        rw [a, b]
    · rw [h2, h3, k2, k3]; rfl

theorem sameB_refl (x : Nat) : sameB x x = true := by simp [sameB]

/-- A contract by the bits that a float really has. -/
theorem Contract.exact1 {P : Program} {f : FuncId} {ex : Bool} {x : Nat} {r : Nat → AV} {r' : AV} (h : ∀ y, Contract P f [.flt true y] ⟨r y, none⟩)
    (hw : ∀ y, FR ex x y → ∀ ρ w u, VR ρ w (r y) u → VR ρ w r' u) : Contract P f [.flt ex x] ⟨r', none⟩ := by
  intro ρ w us hN hv
  cases hv with | cons _ u _ _ h1 h2 =>
  cases h2
  cases h1 with | flt _ _ y hf =>
  obtain ⟨q1, q2⟩ := h y ρ w [.float .f64 y] hN (.cons _ _ _ _ (.flt _ _ _ (.inl rfl)) .nil)
  refine ⟨q1, q2.mono ?_⟩
  rintro e w' ⟨u, rfl, W, hu⟩
  exact ⟨u, rfl, W, hw y hf ρ w' u hu⟩

theorem Contract.exact2 {P : Program} {f : FuncId} {e1 e2 : Bool} {x1 x2 : Nat} {r : Nat → Nat → AV} {r' : AV} (h : ∀ y1 y2, Contract P f [.flt true y1, .flt true y2] ⟨r y1 y2, none⟩)
    (hw : ∀ y1 y2, FR e1 x1 y1 → FR e2 x2 y2 → ∀ ρ w u, VR ρ w (r y1 y2) u → VR ρ w r' u) : Contract P f [.flt e1 x1, .flt e2 x2] ⟨r', none⟩ := by
  intro ρ w us hN hv
  cases hv with | cons _ u _ _ h1 h2 =>
  cases h2 with | cons _ u _ _ h3 h4 =>
  cases h4
  cases h1 with | flt _ _ y1 hf1 =>
  cases h3 with | flt _ _ y2 hf2 =>
  obtain ⟨q1, q2⟩ := h y1 y2 ρ w [.float .f64 y1, .float .f64 y2] hN (.cons _ _ _ _ (.flt _ _ _ (.inl rfl)) (.cons _ _ _ _ (.flt _ _ _ (.inl rfl)) .nil))
  refine ⟨q1, q2.mono ?_⟩
  rintro e w' ⟨u, rfl, W, hu⟩
  exact ⟨u, rfl, W, hw y1 y2 hf1 hf2 ρ w' u hu⟩

theorem VR.flt_weak {ρ : Place} {w : World} {x y : Nat} {u : Value} (h : VR ρ w (.flt true y) u) (hf : FR false x y) : VR ρ w (.flt false x) u := by
  cases h with | flt _ _ z hz =>
  rcases hz with rfl | ⟨h1, _⟩
  · exact .flt _ _ _ hf
  · cases h1

theorem VR.bool_weak {ρ : Place} {w : World} {k k' b : Bool} {u : Value} (h : VR ρ w (.bool k b) u) : VR ρ w (.bool k' b) u := by
  cases h; exact .bool _ _

theorem fne_self (x : Nat) : fne x x = isNaN x := by
  cases h : isNaN x with
  | true => unfold fne; rw [ord_nan (.inl h)]; rfl
  | false =>
    simp only [fne, ford]
    unfold isNaN FloatKind.decode at h
    unfold Ieee.Format.order
    generalize FloatKind.f64.format.read x = d at h
    cases d with
    | nan => simp [Ieee.Datum.isNaN] at h
    | infinity s => simp [Ieee.Datum.order]
    | number s m i => simp [Ieee.Datum.order]

end Go.Plb

/-
  ENGINE, PART 27: what was proved of functions, as a list.
-/
namespace Go.Plb
set_option linter.unusedSimpArgs false
set_option linter.unusedVariables false

structure Entry where
  f : FuncId
  on : List AV → Option (List HAlt)

def sumsOf : List Entry → Sums
  | [], _, _ => none
  | e :: l, f, args => bif Nat.beq e.f f then (match e.on args with | some r => some r | none => sumsOf l f args) else sumsOf l f args

def EntryOk (P : Program) (e : Entry) : Prop := ∀ args alts a, e.on args = some alts → a ∈ alts → allTrue a.obs → a.out.ok = true ∧ Contract P e.f args a.out

theorem sumsOf_nil (P : Program) : SumsOk P (sumsOf []) := fun f args alts a h => by cases h

theorem sumsOf_cons {P : Program} {e : Entry} {l : List Entry} (he : EntryOk P e) (hl : SumsOk P (sumsOf l)) : SumsOk P (sumsOf (e :: l)) := by
  intro f args alts a h ha ho
  simp only [sumsOf] at h
  cases hb : Nat.beq e.f f with
  | false => rw [hb] at h; exact hl f args alts a h ha ho
  | true =>
    rw [hb] at h
    have := Nat.eq_of_beq_eq_true hb
    subst this
    simp only [cond_true] at h
    split at h
    · rename_i r hr
      cases h
      exact he args alts a hr ha ho
    · exact hl _ args alts a h ha ho

theorem sumsOf_append {P : Program} : ∀ {l l' : List Entry}, (∀ e ∈ l, EntryOk P e) → SumsOk P (sumsOf l') → SumsOk P (sumsOf (l ++ l'))
  | [], l', _, h => h
  | e :: l, l', he, h => sumsOf_cons (he e (by simp)) (sumsOf_append (fun x hx => he x (by simp [hx])) h)

/-- One way, with its condition. -/
def one (v : AV) (obs : List Bool) : Option (List HAlt) := some [⟨v, [], obs⟩]
/-- One way, that hands over a block. -/
def oneOwn (v : AV) (d : Blk) (obs : List Bool) : Option (List HAlt) := some [⟨v, [(0, some d)], obs⟩]

theorem entry_one {P : Program} {f : FuncId} {args : List AV} {alts : List HAlt} {a : HAlt} {v : AV} {obs : List Bool} (h : one v obs = some alts) (ha : a ∈ alts) (ho : allTrue a.obs)
    (hc : allTrue obs → v.kept = true ∧ Contract P f args ⟨v, none⟩) : a.out.ok = true ∧ Contract P f args a.out := by
  simp only [one, Option.some.injEq] at h; subst h
  simp only [List.mem_singleton] at ha; subst ha
  exact hc ho

theorem entry_own {P : Program} {f : FuncId} {args : List AV} {alts : List HAlt} {a : HAlt} {v : AV} {d : Blk} {obs : List Bool} (h : oneOwn v d obs = some alts) (ha : a ∈ alts) (ho : allTrue a.obs)
    (hc : allTrue obs → (⟨v, some d⟩ : Out).ok = true ∧ Contract P f args ⟨v, some d⟩) : a.out.ok = true ∧ Contract P f args a.out := by
  simp only [oneOwn, Option.some.injEq] at h; subst h
  simp only [List.mem_singleton] at ha; subst ha
  exact hc ho

/-- By a run of the function's text. -/
theorem Contract.run {C : Ctx} (hC : C.Ok) {S : Sums} (hS : SumsOk C.P S) (p : Path) {f : FuncId} {args : List AV} {p' : Path} {r : Out} {obs : List Bool} (N n : Nat) (h : fnRun C S (runCode C S N n) f args p = some (r, obs, p')) (ho : allTrue obs) :
    Contract C.P f args r := (contract_of_run hC hS N n h ho).2

end Go.Plb
namespace Go.Plb
theorem ob {b : Bool} {l : List Bool} (h : b = true) (t : allTrue l) : allTrue (b :: l) := ⟨h, t⟩
theorem nob : allTrue [] := trivial
theorem isF {b : Bool} (h : b = false) : (b == false) = true := by rw [h]; rfl
theorem isT {b : Bool} (h : b = true) : (b == true) = true := by rw [h]; rfl
theorem decT {p : Prop} [Decidable p] (h : p) : (decide p == true) = true := by simp [h]
theorem decF {p : Prop} [Decidable p] (h : ¬ p) : (decide p == false) = true := by simp [h]
theorem inK_nat {n : Nat} (h : n ≤ 9223372036854775807) : inK .i64 (n : Int) = true := by
  have h1 : IntKind.i64.min = -9223372036854775808 := by decide
  have h2 : IntKind.i64.max = 9223372036854775807 := by decide
  simp only [inK, h1, h2, Bool.and_eq_true, decide_eq_true_eq]; omega
theorem inB_nat {k n : Nat} (h : k < n) : inB (k : Int) n = true := by
  simp only [inB, Bool.and_eq_true, decide_eq_true_eq]; omega
theorem leB_nat {k n : Nat} (h : k ≤ n) : leB (k : Int) n = true := by
  simp only [leB, Bool.and_eq_true, decide_eq_true_eq]; omega
theorem inK_int {n : Int} (h1 : -9223372036854775808 ≤ n) (h2 : n ≤ 9223372036854775807) : inK .i64 n = true := by
  have e1 : IntKind.i64.min = -9223372036854775808 := by decide
  have e2 : IntKind.i64.max = 9223372036854775807 := by decide
  simp only [inK, e1, e2, Bool.and_eq_true, decide_eq_true_eq]; omega

/-- Arguments that stand for more. -/
theorem Contract.args {P : Program} {f : FuncId} {a a' : List AV} {r : Out} (h : Contract P f a' r) (ha : ∀ ρ w us, VRs ρ w a us → VRs ρ w a' us) : Contract P f a r :=
  fun ρ w us hN hv => h ρ w us hN (ha ρ w us hv)
theorem nsl_imm {ρ : Place} {w : World} {u : Value} (h : VR ρ w .nsl u) : VR ρ w (.imm false (.fl []) 1 1 0 0) u := by
  cases h; exact .immEnd _ _ _ _ _ _ _ trivial (fun _ => rfl) rfl
end Go.Plb

/-
  THE LAW's FRAME: what the row's reading of its arguments tells the engine; what the engine tells the row.
-/
namespace Go.Plb
open Go.ChangeShapes Go.WideShapes Go.ChangeAt Go.RowKit Go.Deep
set_option linter.unusedSimpArgs false
set_option linter.unusedVariables false

/-- The place of a law's call: nothing is one's own, nothing is lent. -/
def Place.none_ : Place := { at_ := fun _ => 0, live := fun _ => False, out := fun _ => False, ok := fun _ => False }
theorem none_no (w : World) : NoPlace Place.none_ w := ⟨fun _ q => q, fun _ q => q, fun _ q => q.elim⟩
theorem none_avoid (bw : Bool) (bl : Nat) : Place.none_.avoid bw bl := ⟨id, fun _ => id⟩

/-- What one cell of an argument holds. -/
inductive FA where
  | i (k : IntKind) (n : Int)
  | f (x : Nat)
  | s (b : ByteArray)
  | b (b : Bool)
  | fl (xs : List Nat)
  | ns (k : IntKind) (xs : List Int)

def FA.av : FA → AV
  | .i k n => .int k n
  | .f x => .flt false x
  | .s z => .str z
  | .b z => .bool false z
  | .fl xs => .imm false (.fl xs) 1 1 0 xs.length
  | .ns k xs => .imm false (.ns k xs) 1 1 0 xs.length

theorem FA.kept (a : FA) : a.av.kept = true := by cases a <;> rfl

inductive FT where
  | i (k : IntKind)
  | f
  | s
  | b
  | fl
  | ns (k : IntKind)

def FA.has : FT → FA → Prop
  | .i k, .i k' n => k' = k ∧ (Lit.int k n).wf = true
  | .f, .f x => (Lit.float .f64 x).wf = true
  | .s, .s z => z.size ≤ maxLen
  | .b, .b _ => True
  | .fl, .fl xs => xs.length ≤ maxLen ∧ ∀ x ∈ xs, (Lit.float .f64 x).wf = true
  | .ns k, .ns k' xs => k' = k ∧ xs.length ≤ maxLen ∧ ∀ n ∈ xs, (Lit.int k n).wf = true
  | _, _ => False

def ftOf (P : Program) (t : TypeId) : Option FT :=
  match P.underlying t with
  | some (.int k) => some (.i k)
  | some (.float .f64) => some .f
  | some .string => some .s
  | some .bool => some .b
  | some (.slice e) =>
    match P.underlying e, P.cellsOf e with
    | some (.float .f64), 1 => some .fl
    | some (.int k), 1 => some (.ns k)
    | _, _ => none
  | _ => none

def bitsOf : Value → Nat
  | .float _ b => b
  | _ => 0
def intOf' : Value → Int
  | .int _ n => n
  | _ => 0

theorem add_of_cell {W : World} {a : Addr} {i : Nat} {v : Value} (c : W.cell? (a.add i) = some v) (h0 : a.spot = none) : a.add i = ⟨a.block, a.off + i, none⟩ := by
  cases a; simp only at h0; subst h0
  unfold Addr.add; split
  · rename_i q; subst q; rfl
  · rfl

theorem spot_of_cell {W : World} {a : Addr} {v : Value} (c : W.cell? a = some v) : a.spot = none := by
  unfold World.cell? at c
  split at c
  · cases q : a.spot with
    | none => rfl
    | some s => rw [q] at c; simp at c
  · cases c

theorem lt_of_cell {W : World} {a : Addr} {v : Value} (c : W.cell? a = some v) : a.block < W.heap.size := by
  unfold World.cell? at c
  split at c
  · rename_i q; exact (Array.getElem?_eq_some_iff.1 q).1
  · cases c

theorem list_range_get {α : Type} (f : Nat → α) (n x : Nat) (y : α) (h : ((List.range n).map f)[x]? = some y) : x < n ∧ y = f x := by
  rw [List.getElem?_map] at h
  rcases Nat.lt_or_ge x n with q | q
  · rw [List.getElem?_range q] at h; simp only [Option.map_some, Option.some.injEq] at h; exact ⟨q, h.symm⟩
  · rw [List.getElem?_eq_none (by simpa using q)] at h; cases h

variable {H : Type} {enc : TypeId × Value → H} {P : Program} {W : World}

/-- One cell. -/
theorem open_cell {t : TypeId} {ft : FT} {fuel : Nat} {v : Value} {x : DataW H × List MemPlace} (ht : ftOf P t = some ft) (h : DataW.trod enc P W 0 (fun _ => true) true fuel t [v] = some x) :
    ∃ a : FA, a.has ft ∧ VR Place.none_ W a.av v := by
  cases fuel with
  | zero => simp [DataW.trod] at h
  | succ fuel =>
  have h0 := h
  unfold ftOf at ht
  split at ht
  · rename_i k hk
    cases ht
    simp only [DataW.trod, hk] at h
    cases v <;> simp at h
    rename_i k' n
    obtain ⟨⟨rfl, hw⟩, _⟩ := h
    exact ⟨.i k' n, ⟨rfl, hw⟩, .int _ _⟩
  · rename_i hk
    cases ht
    simp only [DataW.trod, hk] at h
    cases v <;> simp at h
    rename_i k b
    obtain ⟨⟨rfl, hw⟩, _⟩ := h
    exact ⟨.f b, hw, .flt _ _ _ (.inl rfl)⟩
  · rename_i hk
    cases ht
    simp only [DataW.trod, hk] at h
    cases v <;> simp at h
    exact ⟨.s _, h.1, .str _⟩
  · rename_i hk
    cases ht
    simp only [DataW.trod, hk] at h
    cases v <;> simp at h
    exact ⟨.b _, trivial, .bool _ _⟩
  · rename_i e hk
    have key : ∀ (he : P.cellsOf e = 1), (v = .slice none 0 0) ∨ ∃ (a : Addr) (len cap n : Nat) (V : Nat → Value), v = .slice (some a) len cap ∧ len ≤ cap ∧ cap ≤ maxLen ∧
        ∀ i, i < len → ∃ y, W.cell? (a.add i) = some (V i) ∧ DataW.trod enc P W 0 (fun _ => true) true n e [V i] = some y := by
      intro he
      rcases open_slice1 hk he h0 with ⟨h1, _⟩ | ⟨a, len, cap, m, n, V, D, Pl, h1, hb, hl, hm, hmm, _, hx⟩
      · simp only [List.cons.injEq, and_true] at h1
        exact .inl h1
      · simp only [List.cons.injEq, and_true] at h1
        refine .inr ⟨a, len, cap, n, V, h1, hl, hm, fun i hi => ⟨_, hx i (by rw [hmm, if_pos rfl]; omega)⟩⟩
    split at ht
    · rename_i he hc
      cases ht
      rcases key hc with rfl | ⟨a, len, cap, n, V, rfl, hl, hm, hx⟩
      · exact ⟨.fl [], ⟨Nat.zero_le _, fun x hx => by cases hx⟩, .immEnd _ _ _ _ _ _ _ trivial (fun _ => rfl) rfl⟩
      · have hV : ∀ i, i < len → V i = .float .f64 (bitsOf (V i)) ∧ (Lit.float .f64 (bitsOf (V i))).wf = true := by
          intro i hi
          obtain ⟨y, c1, c2⟩ := hx i hi
          cases n with
          | zero => simp [DataW.trod] at c2
          | succ n =>
            simp only [DataW.trod, he] at c2
            cases hV : V i <;> rw [hV] at c2 <;> simp at c2
            obtain ⟨⟨rfl, hw⟩, _⟩ := c2
            exact ⟨rfl, hw⟩
        refine ⟨.fl ((List.range len).map fun i => bitsOf (V i)), ⟨by simp; omega, fun x hx => ?_⟩, ?_⟩
        · simp only [List.mem_map, List.mem_range] at hx
          obtain ⟨i, hi, rfl⟩ := hx
          exact (hV i hi).2
        · simp only [FA.av, List.length_map, List.length_range]
          rcases Nat.eq_zero_or_pos len with rfl | hz
          · exact .immEnd _ _ _ _ _ _ _ trivial (fun _ => rfl) rfl
          · have h0 := spot_of_cell (hx 0 hz).choose_spec.1
            have hs : a.spot = none := by
              have e : a.add 0 = a := by simp [Addr.add]
              rw [e] at h0; exact h0
            have hcell : ∀ i, i < len → W.cell? ⟨a.block, a.off + i, none⟩ = some (V i) := fun i hi => by
              obtain ⟨y, c1, _⟩ := hx i hi
              rw [add_of_cell c1 hs] at c1; exact c1
            have ha : a = ⟨a.block, a.off + 0 * 1, none⟩ := by cases a; simp only at hs; subst hs; rfl
            have := VR.imm (ρ := Place.none_) (w := W) false (.fl ((List.range len).map fun i => bitsOf (V i))) 1 1 0 len cap a.block a.off V (none_avoid _ _) (lt_of_cell (a := ⟨a.block, a.off + 0, none⟩) (hcell 0 hz))
              (fun x v hx' => by
                simp only [Blk.cell?, Option.map_eq_some_iff] at hx'
                obtain ⟨y, h1, h2⟩ := hx'
                exact hcell x (list_range_get _ _ _ _ h1).1)
              (fun x v hx' => by
                simp only [Blk.cell?, Option.map_eq_some_iff] at hx'
                obtain ⟨y, h1, rfl⟩ := hx'
                obtain ⟨q1, rfl⟩ := list_range_get _ _ _ _ h1
                rw [(hV x q1).1]
                exact .flt _ _ _ (.inl rfl)) hl trivial (fun _ => rfl) rfl
            rw [ha]; exact this
    · rename_i k he hc
      cases ht
      rcases key hc with rfl | ⟨a, len, cap, n, V, rfl, hl, hm, hx⟩
      · exact ⟨.ns k [], ⟨rfl, Nat.zero_le _, fun x hx => by cases hx⟩, .immEnd _ _ _ _ _ _ _ trivial (fun _ => rfl) rfl⟩
      · have hV : ∀ i, i < len → V i = .int k (intOf' (V i)) ∧ (Lit.int k (intOf' (V i))).wf = true := by
          intro i hi
          obtain ⟨y, c1, c2⟩ := hx i hi
          cases n with
          | zero => simp [DataW.trod] at c2
          | succ n =>
            simp only [DataW.trod, he] at c2
            cases hV : V i <;> rw [hV] at c2 <;> simp at c2
            obtain ⟨⟨rfl, hw⟩, _⟩ := c2
            exact ⟨rfl, hw⟩
        refine ⟨.ns k ((List.range len).map fun i => intOf' (V i)), ⟨rfl, by simp; omega, fun x hx => ?_⟩, ?_⟩
        · simp only [List.mem_map, List.mem_range] at hx
          obtain ⟨i, hi, rfl⟩ := hx
          exact (hV i hi).2
        · simp only [FA.av, List.length_map, List.length_range]
          rcases Nat.eq_zero_or_pos len with rfl | hz
          · exact .immEnd _ _ _ _ _ _ _ trivial (fun _ => rfl) rfl
          · have h0 := spot_of_cell (hx 0 hz).choose_spec.1
            have hs : a.spot = none := by
              have e : a.add 0 = a := by simp [Addr.add]
              rw [e] at h0; exact h0
            have hcell : ∀ i, i < len → W.cell? ⟨a.block, a.off + i, none⟩ = some (V i) := fun i hi => by
              obtain ⟨y, c1, _⟩ := hx i hi
              rw [add_of_cell c1 hs] at c1; exact c1
            have ha : a = ⟨a.block, a.off + 0 * 1, none⟩ := by cases a; simp only at hs; subst hs; rfl
            have := VR.imm (ρ := Place.none_) (w := W) false (.ns k ((List.range len).map fun i => intOf' (V i))) 1 1 0 len cap a.block a.off V (none_avoid _ _) (lt_of_cell (a := ⟨a.block, a.off + 0, none⟩) (hcell 0 hz))
              (fun x v hx' => by
                simp only [Blk.cell?, Option.map_eq_some_iff] at hx'
                obtain ⟨y, h1, h2⟩ := hx'
                exact hcell x (list_range_get _ _ _ _ h1).1)
              (fun x v hx' => by
                simp only [Blk.cell?, Option.map_eq_some_iff] at hx'
                obtain ⟨y, h1, rfl⟩ := hx'
                obtain ⟨q1, rfl⟩ := list_range_get _ _ _ _ h1
                rw [(hV x q1).1]
                exact .int _ _) hl trivial (fun _ => rfl) rfl
            rw [ha]; exact this
    · cases ht
  · cases ht

/-- An argument of one cell. -/
theorem open_arg {t : TypeId} {ft : FT} {v : Value} {d : DataW H} {p : List MemPlace} {base : Nat} (ht : ftOf P t = some ft) (ho : Value.okWide P W .any base t v) (h : DataW.Trod enc P W 0 (fun _ => true) true t v d p) :
    ∃ a : FA, a.has ft ∧ VR Place.none_ W a.av v := by
  obtain ⟨fuel, hf⟩ := h
  have hc : v.cells.toList = [v] := by
    have hne : ∀ c, v ≠ .agg c := by
      rintro c rfl
      unfold ftOf at ht
      unfold Value.okWide at ho
      split at ht
      case h_6 => cases ht
      all_goals (rename_i hk; rw [hk] at ho; simp [Cell.okWide, Cell.ok, hk] at ho)
    cases v <;> first | rfl | exact (hne _ rfl).elim
  rw [hc] at hf
  exact open_cell ht hf

/-- What an argument of several cells holds. -/
def FA.avs : List FA → List AV
  | [] => []
  | a :: l => a.av :: FA.avs l

def FA.hasAll : List FT → List FA → Prop
  | [], [] => True
  | t :: ts, a :: fas => a.has t ∧ FA.hasAll ts fas
  | _, _ => False

/-- A struct whose fields are of one cell each. -/
def stOf (P : Program) (t : TypeId) : Option (List FT) :=
  match P.underlying t with
  | some (.struct fs) => bif P.cellsOf t == fs.size && fs.toList.zipIdx.all (fun x => x.1.offset == x.2 && P.cellsOf x.1.type == 1) then fs.toList.mapM fun f => ftOf P f.type else none
  | _ => none

theorem open_fields {n : Nat} : ∀ (fs : List Field) (o : Nat) {fts : List FT} {cs : List Value} {xs : List (DataW H × List MemPlace)}, cs.length = o + fs.length → (∀ (j : Nat) (f : Field), fs[j]? = some f → f.offset = o + j ∧ P.cellsOf f.type = 1) → fs.mapM (fun f => ftOf P f.type) = some fts →
    fs.mapM (fun f => DataW.trod enc P W 0 (fun _ => true) true n f.type ((cs.drop f.offset).take (P.cellsOf f.type))) = some xs → ∃ fas : List FA, FA.hasAll fts fas ∧ VRs Place.none_ W (FA.avs fas) (cs.drop o)
  | [], o, fts, cs, xs, hl, _, h1, h2 => by
    simp at h1; subst h1
    exact ⟨[], trivial, by rw [List.drop_eq_nil_of_le (by simp at hl; omega)]; exact .nil⟩
  | f :: fs, o, fts, cs, xs, hl, hf, h1, h2 => by
    simp only [List.mapM_cons, Option.pure_def, Option.bind_eq_bind, Option.bind_eq_some_iff, Option.some.injEq] at h1 h2
    obtain ⟨ft, a1, fts', a2, rfl⟩ := h1
    obtain ⟨x, b1, xs', b2, rfl⟩ := h2
    obtain ⟨e1, e2⟩ := hf 0 f rfl
    simp only [List.length_cons] at hl
    have hlt : o < cs.length := by omega
    have hd : (cs.drop f.offset).take (P.cellsOf f.type) = [cs[o]] := by
      rw [e1, e2, Nat.add_zero, List.drop_eq_getElem_cons hlt]; rfl
    rw [hd] at b1
    obtain ⟨a, k1, k2⟩ := open_cell a1 b1
    obtain ⟨fas, k3, k4⟩ := open_fields fs (o + 1) (cs := cs) (by omega) (fun j f' hj => by have := hf (j + 1) f' (by simpa using hj); exact ⟨by omega, this.2⟩) a2 b2
    refine ⟨a :: fas, ⟨k1, k3⟩, ?_⟩
    rw [List.drop_eq_getElem_cons hlt]
    exact .cons _ _ _ _ k2 k4

theorem open_stcells {t : TypeId} {fts : List FT} {fuel : Nat} {cs : List Value} {x : DataW H × List MemPlace} (ht : stOf P t = some fts) (h : DataW.trod enc P W 0 (fun _ => true) true fuel t cs = some x) :
    ∃ fas : List FA, FA.hasAll fts fas ∧ VRs Place.none_ W (FA.avs fas) cs := by
  unfold stOf at ht
  split at ht
  case h_2 => cases ht
  rename_i fs hk
  cases hb : (P.cellsOf t == fs.size && fs.toList.zipIdx.all (fun x => x.1.offset == x.2 && P.cellsOf x.1.type == 1)) with
  | false => rw [hb] at ht; cases ht
  | true =>
  rw [hb] at ht
  simp only [cond_true] at ht
  simp only [Bool.and_eq_true, beq_iff_eq, List.all_eq_true] at hb
  cases fuel with
  | zero => simp [DataW.trod] at h
  | succ fuel =>
  simp only [DataW.trod, hk] at h
  split at h
  case isFalse => cases h
  rename_i hlen
  simp only [Option.map_eq_some_iff] at h
  obtain ⟨xs, h1, _⟩ := h
  have := open_fields fs.toList 0 (cs := cs) (by rw [hlen, hb.1]; simp) (fun j f hj => by
    have := hb.2 (f, j) (by rw [List.mem_zipIdx_iff_getElem?]; exact hj)
    simp only at this
    exact ⟨by omega, this.2⟩) ht h1
  simpa using this

/-- A struct fas an argument. -/
theorem open_struct {t : TypeId} {fts : List FT} {v : Value} {d : DataW H} {p : List MemPlace} {base : Nat} (ht : stOf P t = some fts) (ho : Value.okWide P W .any base t v) (h : DataW.Trod enc P W 0 (fun _ => true) true t v d p) :
    ∃ fas : List FA, FA.hasAll fts fas ∧ VR Place.none_ W (.agg (FA.avs fas)) v := by
  obtain ⟨fuel, hf⟩ := h
  have hs : ∃ cs, v = .agg cs := by
    unfold stOf at ht
    split at ht
    case h_2 => cases ht
    rename_i fs hk
    unfold Value.okWide at ho
    rw [hk] at ho
    obtain ⟨cs, rfl, _⟩ := ho
    exact ⟨cs, rfl⟩
  obtain ⟨cs, rfl⟩ := hs
  obtain ⟨fas, k1, k2⟩ := open_stcells ht hf
  exact ⟨fas, k1, .agg _ _ k2⟩

/-- Nothing that was there has turned. -/
theorem below_of {W W' : World} (h : WLe (fun _ => False) W W') : Below W.heap.size W W' :=
  ⟨h.os, h.tape, h.output, h.size, fun k hk => h.same k hk (fun q => q)⟩

def plainParams (P : Program) (ts : List TypeId) : Bool := ts.all fun t => P.readableRec t && decide (t < P.types.size)

theorem args_stay {W W' : World} (hl : laidOutB P = true) (hb : Below W.heap.size W W') : ∀ {ts : List TypeId} {vs : List Value} {ds : List (DataW H)} {ps : List MemPlace}, plainParams P ts = true →
    DataW.TrodAll enc P W 0 (fun _ => true) true ts vs ds ps → (∀ x ∈ ps, x.block < W.heap.size) → ∀ sp : Nat → Bool, (∀ p ∈ ps, sp p.block = true) → DataW.TrodAll enc P W' 0 sp true ts vs ds ps
  | [], vs, ds, ps, _, h, _, _, _ => by obtain ⟨rfl, rfl, rfl⟩ := trodAll_nil h; rfl
  | t :: ts, vs, ds, ps, hp, h, hlt, sp, hsp => by
    obtain ⟨v, vs', d, ds', p, q, rfl, rfl, rfl, h1, h2⟩ := trodAll_cons h
    simp only [plainParams, List.all_cons, Bool.and_eq_true, decide_eq_true_eq] at hp
    exact ⟨p, q, WideElems.Trod_stays hl hp.1.1 hp.1.2 h1 (fun x hx => hb.same (hlt x (by simp [hx]))) (fun x hx => hsp x (by simp [hx])),
      args_stay hl hb (by simpa [plainParams] using hp.2) h2 (fun x hx => hlt x (by simp [hx])) sp (fun x hx => hsp x (by simp [hx])), rfl⟩

/-- The law has answered true; what was handed in reads fas it did. -/
theorem law_post {f : Func} {s : ChangeSpec} {W W' : World} {args : Array Value} {ds gs : List (DataW H)} {before : List MemPlace} {tb : TypeId} (hl : laidOutB P = true)
    (hW : DataW.Whole enc P f.params.toList s.vars false W args.toList ds gs before) (hv : s.vars = []) (hp : plainParams P f.params.toList = true)
    (hs : s.fn H (ds ++ gs) = { results := [.lit (.bool true)], args := ds }) (hr : f.resultTypes = #[tb]) (ht : P.underlying tb = some .bool) (hw : WLe (fun _ => False) W W') :
    s.post enc P f false true false false W args (.bool true) W' := by
  have hb := below_of hw
  have hlt : ∀ p ∈ before, p.block < W.heap.size := fun p hp => hW.lt p hp
  have hW' := hW
  obtain ⟨p, q, hA, hV, rfl, hfz, hnd⟩ := hW'
  rw [hv] at hV
  obtain ⟨rfl, rfl⟩ := trodVars_none hV
  simp only [List.append_nil] at hlt hs hW
  have harg := args_stay hl hb hp hA hlt (fun b => decide (b < W.heap.size)) (fun x hx => by simpa using hlt x hx)
  refine ⟨ds, [], p, [], p, [], hW, ?_, ?_, ?_, World.keptBut_mono (fun x hx => ⟨hx, .inr (.inl hx)⟩) (hb.frame (· ∈ p)), fun e => (by cases e)⟩
  · rw [List.append_nil, hs, hr]
    exact trodAll_mk1 (shut_bool ht true)
  · rw [List.append_nil, hs]; exact harg
  · rw [hv]; simp only [List.append_nil, hs]; exact rfl

end Go.Plb

/-
  THE SEAT: its functions by name; its context. Printed by seat.py.
-/
namespace Go.Plb.Seat
open Go Go.Plb Go.Proofs
noncomputable abbrev prog : Program := Try.prog
abbrev n_gosem_cut_init : FuncId := 2
abbrev n_law09_ReflectMakes : FuncId := 3
abbrev n_law09_ReflectTurns : FuncId := 4
abbrev n_law09_ReflectFactors : FuncId := 5
abbrev n_law09_ReflectBlocks : FuncId := 6
abbrev n_law09_known : FuncId := 7
abbrev n_reflect_Make : FuncId := 8
abbrev n_ref09_Make : FuncId := 9
abbrev n_ref06_Same : FuncId := 10
abbrev n_ref06_SameAll : FuncId := 11
abbrev n_law09_few : FuncId := 12
abbrev n_ref09_Copy : FuncId := 13
abbrev n_reflect_Left : FuncId := 14
abbrev n_reflect_Right : FuncId := 15
abbrev n_law09_fits : FuncId := 16
abbrev n_ref09_Same : FuncId := 17
abbrev n_ref09_Left : FuncId := 18
abbrev n_ref09_Right : FuncId := 19
abbrev n_law09_total : FuncId := 20
abbrev n_reflect_Factor : FuncId := 21
abbrev n_ref09_Alike : FuncId := 22
abbrev n_ref09_Factor : FuncId := 23
abbrev n_reflect_Block : FuncId := 24
abbrev n_ref09_May : FuncId := 25
abbrev n_ref09_Block : FuncId := 26
abbrev n_small_Norm : FuncId := 27
abbrev n_math_Copysign : FuncId := 28
abbrev n_small_Hypot : FuncId := 29
abbrev n_ref06_Norm : FuncId := 30
abbrev n_ref06_Sign : FuncId := 31
abbrev n_ref06_Hypot : FuncId := 32
abbrev n_math_Float64bits : FuncId := 33
abbrev n_reflect_may : FuncId := 34
abbrev n_slices_Clone : FuncId := 35
abbrev n_reflect_sum : FuncId := 36
abbrev n_reflect_Left_1 : FuncId := 37
abbrev n_reflect_Right_1 : FuncId := 38
abbrev n_reflect_alike : FuncId := 39
abbrev n_reflect_Factor_1 : FuncId := 40
abbrev n_reflect_Factor_2 : FuncId := 41
abbrev n_reflect_Block_1 : FuncId := 42
abbrev n_reflect_Block_2 : FuncId := 43
abbrev n_reflect_Block_3 : FuncId := 44
abbrev n_math_Abs : FuncId := 45
abbrev n_math_Sqrt : FuncId := 46
abbrev n_math_Float64frombits : FuncId := 47
abbrev n_ref06_Abs : FuncId := 48
abbrev n_slices_ContainsFunc : FuncId := 49
abbrev n_reflect_alike_1 : FuncId := 50
abbrev n_math_sqrt : FuncId := 51
abbrev n_slices_IndexFunc : FuncId := 52
noncomputable def FN (f : FuncId) : Func := (prog.funcs[f]?).getD default
noncomputable def BODY (f : FuncId) : Code := ((FN f).body).getD .skip
noncomputable def C0 : Ctx := ctxOf prog [(n_math_Float64bits, .bits), (n_math_Float64frombits, .frombits), (n_math_sqrt, .sqrt)]
theorem ext_math_Float64bits : IsExt prog n_math_Float64bits .bits := ⟨FN n_math_Float64bits, by kernel_rfl, by kernel_rfl, by kernel_rfl, by kernel_rfl, by kernel_rfl⟩
theorem ext_math_Float64frombits : IsExt prog n_math_Float64frombits .frombits := ⟨FN n_math_Float64frombits, by kernel_rfl, by kernel_rfl, by kernel_rfl, by kernel_rfl, by kernel_rfl⟩
theorem ext_math_sqrt : IsExt prog n_math_sqrt .sqrt := ⟨FN n_math_sqrt, by kernel_rfl, by kernel_rfl, by kernel_rfl, by kernel_rfl, by kernel_rfl⟩
theorem mixed : prog.follows .mixedOrders = true := by kernel_rfl
theorem names : namesOk prog = true := by kernel_rfl
theorem C0_ok : C0.Ok := ctxOf_ok mixed names (by
  intro x hx
  simp only [List.mem_cons, List.not_mem_nil, or_false] at hx
  rcases hx with rfl | rfl | rfl
  · exact ext_math_Float64bits
  · exact ext_math_Float64frombits
  · exact ext_math_sqrt
  )
end Go.Plb.Seat

namespace Go.Plb.Seat
open Go Go.Plb
set_option linter.unusedSimpArgs false
set_option linter.unusedVariables false

noncomputable abbrev E0 : Sums := sumsOf []
theorem E0_ok : SumsOk prog E0 := sumsOf_nil prog

theorem c_Abs (ex : Bool) (x : Nat) : Contract prog n_math_Abs [.flt ex x] ⟨.flt false (fabs x), none⟩ := by
  refine Contract.exact1 (r := fun y => .flt true (fabs y)) (fun y => ?_) (fun y hf ρ w u h => h.flt_weak ?_)
  · have h : fnRun C0 E0 (runCode C0 E0 0 50) n_math_Abs [.flt true y] (some []) = some (⟨.flt true (bitsV .andNot .u64 (y : Int) 9223372036854775808).toNat, none⟩, [], some []) := by kernel_rfl
    have := Contract.run C0_ok E0_ok _ _ _ h trivial
    rw [abs_eq, Int.toNat_natCast] at this; exact this
  · cases ex with
    | false => exact FR.abs hf
    | true => rcases hf with rfl | ⟨q, _⟩; exact .inl rfl; cases q

theorem c_Abs6 (ex : Bool) (x : Nat) : Contract prog n_ref06_Abs [.flt ex x] ⟨.flt false (fabs x), none⟩ := by
  refine Contract.exact1 (r := fun y => .flt true (fabs y)) (fun y => ?_) (fun y hf ρ w u h => h.flt_weak ?_)
  · have h : fnRun C0 E0 (runCode C0 E0 0 50) n_ref06_Abs [.flt true y] (some []) = some (⟨.flt true ((IntKind.u64.wrap ((y : Int) * 2 ^ min (Int.toNat 1) IntKind.u64.bits)).fdiv (2 ^ min (Int.toNat 1) IntKind.u64.bits)).toNat, none⟩, [true, true], some []) := by kernel_rfl
    have := Contract.run C0_ok E0_ok _ _ _ h ⟨rfl, rfl, trivial⟩
    rw [abs2_eq, Int.toNat_natCast] at this; exact this
  · exact FR.abs hf

theorem c_Copysign (e1 e2 : Bool) (x y : Nat) (hn : isNaN y = true → isNaN x = true) : Contract prog n_math_Copysign [.flt e1 x, .flt e2 y] ⟨.flt false (fcopy x y), none⟩ := by
  refine Contract.exact2 (r := fun x y => .flt true (fcopy x y)) (fun x y => ?_) (fun x' y' h1 h2 ρ w u h => h.flt_weak (FR.copy h1 h2 hn))
  have h : fnRun C0 E0 (runCode C0 E0 0 50) n_math_Copysign [.flt true x, .flt true y] (some []) = some (⟨.flt true (bitsV .or .u64 (bitsV .andNot .u64 (x : Int) 9223372036854775808) (bitsV .and .u64 (y : Int) 9223372036854775808)).toNat, none⟩, [], some []) := by kernel_rfl
  have := Contract.run C0_ok E0_ok _ _ _ h trivial
  rw [abs_eq, top_eq, or_eq, Int.toNat_natCast] at this; exact this

theorem c_Sign6 (e1 e2 : Bool) (x y : Nat) (hn : isNaN y = true → isNaN x = true) : Contract prog n_ref06_Sign [.flt e1 x, .flt e2 y] ⟨.flt false (fcopy x y), none⟩ := by
  refine Contract.exact2 (r := fun x y => .flt true (fcopy x y)) (fun x y => ?_) (fun x' y' h1 h2 ρ w u h => h.flt_weak (FR.copy h1 h2 hn))
  have h : fnRun C0 E0 (runCode C0 E0 0 50) n_ref06_Sign [.flt true x, .flt true y] (some []) = some (⟨.flt true (bitsV .or .u64
      ((IntKind.u64.wrap ((x : Int) * 2 ^ min (Int.toNat 1) IntKind.u64.bits)).fdiv (2 ^ min (Int.toNat 1) IntKind.u64.bits))
      (IntKind.u64.wrap ((y : Int).fdiv (2 ^ min (Int.toNat 63) IntKind.u64.bits) * 2 ^ min (Int.toNat 63) IntKind.u64.bits))).toNat, none⟩, [true, true, true, true], some []) := by kernel_rfl
  have := Contract.run C0_ok E0_ok _ _ _ h ⟨rfl, rfl, rfl, rfl, trivial⟩
  rw [abs2_eq, top2_eq, or_eq, Int.toNat_natCast] at this; exact this

theorem c_Same6 (e1 e2 : Bool) (x y : Nat) : Contract prog n_ref06_Same [.flt e1 x, .flt e2 y] ⟨.bool false (sameB x y), none⟩ := by
  refine Contract.exact2 (r := fun x y => .bool false (sameB x y)) (fun x y => ?_) (fun x' y' h1 h2 ρ w u h => by rw [← FR.same h1 h2]; exact h)
  have hb : ((x : Int) == (y : Int)) = (x == y) := by
    rw [Bool.eq_iff_iff]; simp; omega
  cases hx : isNaN x with
  | false =>
    have h : fnRun C0 E0 (runCode C0 E0 0 50) n_ref06_Same [.flt true x, .flt true y] (some [0]) = some (⟨.bool false ((x : Int) == (y : Int)), none⟩, [fne x x == false], some []) := by kernel_rfl
    have := Contract.run C0_ok E0_ok _ _ _ h ⟨by rw [fne_self, hx]; rfl, trivial⟩
    rw [hb] at this
    simp only [sameB, hx, Bool.false_and, Bool.false_or]; exact this
  | true =>
    cases hy : isNaN y with
    | false =>
      have h : fnRun C0 E0 (runCode C0 E0 0 50) n_ref06_Same [.flt true x, .flt true y] (some [1, 0]) = some (⟨.bool false ((x : Int) == (y : Int)), none⟩, [fne x x == true, fne y y == false], some []) := by kernel_rfl
      have := Contract.run C0_ok E0_ok _ _ _ h ⟨by rw [fne_self, hx]; rfl, by rw [fne_self, hy]; rfl, trivial⟩
      rw [hb] at this
      simp only [sameB, hx, hy, Bool.and_false, Bool.false_or]; exact this
    | true =>
      have h : fnRun C0 E0 (runCode C0 E0 0 50) n_ref06_Same [.flt true x, .flt true y] (some [1, 1]) = some (⟨.bool true true, none⟩, [fne x x == true, fne y y == true], some []) := by kernel_rfl
      have := Contract.run C0_ok E0_ok _ _ _ h ⟨by rw [fne_self, hx]; rfl, by rw [fne_self, hy]; rfl, trivial⟩
      have e : sameB x y = true := by simp [sameB, hx, hy]
      rw [e]
      intro ρ w us hN hv
      obtain ⟨q1, q2⟩ := this ρ w us hN hv
      refine ⟨q1, q2.mono ?_⟩
      rintro e w' ⟨u, rfl, W, hu⟩
      exact ⟨u, rfl, W, VR.bool_weak hu⟩

def e_Abs : Entry := ⟨n_math_Abs, fun args => match args with | [.flt _ x] => one (.flt false (fabs x)) [] | _ => none⟩
def e_Abs6 : Entry := ⟨n_ref06_Abs, fun args => match args with | [.flt _ x] => one (.flt false (fabs x)) [] | _ => none⟩
def e_Copysign : Entry := ⟨n_math_Copysign, fun args => match args with | [.flt _ x, .flt _ y] => one (.flt false (fcopy x y)) [!isNaN y || isNaN x] | _ => none⟩
def e_Sign6 : Entry := ⟨n_ref06_Sign, fun args => match args with | [.flt _ x, .flt _ y] => one (.flt false (fcopy x y)) [!isNaN y || isNaN x] | _ => none⟩
def e_Same6 : Entry := ⟨n_ref06_Same, fun args => match args with | [.flt _ x, .flt _ y] => one (.bool false (sameB x y)) [] | _ => none⟩

theorem e_Abs_ok : EntryOk prog e_Abs := by
  intro args alts a h ha ho
  simp only [e_Abs] at h
  split at h
  · exact entry_one h ha ho fun _ => ⟨rfl, c_Abs _ _⟩
  · cases h
theorem e_Abs6_ok : EntryOk prog e_Abs6 := by
  intro args alts a h ha ho
  simp only [e_Abs6] at h
  split at h
  · exact entry_one h ha ho fun _ => ⟨rfl, c_Abs6 _ _⟩
  · cases h
theorem nanImp {x y : Nat} (h : allTrue [!isNaN y || isNaN x]) : isNaN y = true → isNaN x = true := by
  intro hy; have := h.1; rw [hy] at this; simpa using this
theorem e_Copysign_ok : EntryOk prog e_Copysign := by
  intro args alts a h ha ho
  simp only [e_Copysign] at h
  split at h
  · exact entry_one h ha ho fun q => ⟨rfl, c_Copysign _ _ _ _ (nanImp q)⟩
  · cases h
theorem e_Sign6_ok : EntryOk prog e_Sign6 := by
  intro args alts a h ha ho
  simp only [e_Sign6] at h
  split at h
  · exact entry_one h ha ho fun q => ⟨rfl, c_Sign6 _ _ _ _ (nanImp q)⟩
  · cases h
theorem e_Same6_ok : EntryOk prog e_Same6 := by
  intro args alts a h ha ho
  simp only [e_Same6] at h
  split at h
  · exact entry_one h ha ho fun q => ⟨rfl, c_Same6 _ _ _ _⟩
  · cases h

def L1 : List Entry := [e_Abs, e_Abs6, e_Copysign, e_Sign6, e_Same6]
def S1 : Sums := sumsOf L1
theorem S1_ok : SumsOk prog S1 := sumsOf_cons e_Abs_ok (sumsOf_cons e_Abs6_ok (sumsOf_cons e_Copysign_ok (sumsOf_cons e_Sign6_ok (sumsOf_cons e_Same6_ok (sumsOf_nil _)))))

end Go.Plb.Seat

namespace Go.Plb.Seat
open Go Go.Plb
set_option linter.unusedSimpArgs false
set_option linter.unusedVariables false

noncomputable def loopOf : List Code → Code
  | .block _ (.loop b) :: _ => b
  | _ => .skip

def f1 : Nat := 4607182418800017408
def hyp2 (p q : Nat) : Nat := bif feq p 0 then p else fmul p (fsqrt (fadd f1 (fmul (fdiv q p) (fdiv q p))))
def hypotF (x y : Nat) : Nat := bif fgt (fabs y) (fabs x) then hyp2 (fabs y) (fabs x) else hyp2 (fabs x) (fabs y)

theorem c_Hypot (e1 e2 : Bool) (x y : Nat) : Contract prog n_small_Hypot [.flt e1 x, .flt e2 y] ⟨.flt false (hypotF x y), none⟩ := by
  unfold hypotF hyp2
  cases h1 : fgt (fabs y) (fabs x) with
  | false =>
    simp only [cond_false]
    cases h2 : feq (fabs x) 0 with
    | false =>
      have h : fnRun C0 S1 (runCode C0 S1 0 50) n_small_Hypot [.flt e1 x, .flt e2 y] (some [0, 0]) = some (⟨.flt false (fmul (fabs x) (fsqrt (fadd f1 (fmul (fdiv (fabs y) (fabs x)) (fdiv (fabs y) (fabs x)))))), none⟩, [fgt (fabs y) (fabs x) == false, feq (fabs x) 0 == false], some []) := by kernel_rfl
      exact Contract.run C0_ok S1_ok _ _ _ h (by simp [allTrue, h1, h2])
    | true =>
      have h : fnRun C0 S1 (runCode C0 S1 0 50) n_small_Hypot [.flt e1 x, .flt e2 y] (some [0, 1]) = some (⟨.flt false (fabs x), none⟩, [fgt (fabs y) (fabs x) == false, feq (fabs x) 0 == true], some []) := by kernel_rfl
      exact Contract.run C0_ok S1_ok _ _ _ h (by simp [allTrue, h1, h2])
  | true =>
    simp only [cond_true]
    cases h2 : feq (fabs y) 0 with
    | false =>
      have h : fnRun C0 S1 (runCode C0 S1 0 50) n_small_Hypot [.flt e1 x, .flt e2 y] (some [1, 0]) = some (⟨.flt false (fmul (fabs y) (fsqrt (fadd f1 (fmul (fdiv (fabs x) (fabs y)) (fdiv (fabs x) (fabs y)))))), none⟩, [fgt (fabs y) (fabs x) == true, feq (fabs y) 0 == false], some []) := by kernel_rfl
      exact Contract.run C0_ok S1_ok _ _ _ h (by simp [allTrue, h1, h2])
    | true =>
      have h : fnRun C0 S1 (runCode C0 S1 0 50) n_small_Hypot [.flt e1 x, .flt e2 y] (some [1, 1]) = some (⟨.flt false (fabs y), none⟩, [fgt (fabs y) (fabs x) == true, feq (fabs y) 0 == true], some []) := by kernel_rfl
      exact Contract.run C0_ok S1_ok _ _ _ h (by simp [allTrue, h1, h2])

/-- A float of a slice. -/
def at0 (xs : List Nat) (o k : Nat) : Nat := xs.getD (addn o k) 0

def normStep (v sc su : Nat) : Nat × Nat :=
  bif feq v 0 then (sc, su) else bif flt sc (fabs v) then (fabs v, fadd f1 (fmul (fmul su (fdiv sc (fabs v))) (fdiv sc (fabs v)))) else (sc, fadd su (fmul (fdiv (fabs v) sc) (fdiv (fabs v) sc)))
def normGo (xs : List Nat) (o : Nat) : Nat → Nat → Nat × Nat → Nat × Nat
  | 0, _, s => s
  | m + 1, k, s => normGo xs o m (k + 1) (normStep (at0 xs o k) s.1 s.2)
def normF (xs : List Nat) (o n : Nat) : Nat := fmul (normGo xs o n 0 (0, f1)).1 (fsqrt (normGo xs o n 0 (0, f1)).2)

def ksN : List Nat := [3, 4, 11, 12, 13]
def IN (bw : Bool) (xs : List Nat) (o n : Nat) (s : Nat × Nat × Nat) : ASt := ⟨slots 48 [(3, .flt false s.2.1), (4, .flt false s.2.2), (11, .imm bw (.fl xs) 1 1 o n), (12, .int .i64 n), (13, .int .i64 s.1)], [], 0⟩

theorem sg1 (k : Nat) (p : Path) (keep ks : List Nat) {cs : List Code} {st st1 : ASt} {e : AE} {obs : List Bool} {Q : AE → ASt → Prop}
    (ho : allTrue obs) (h : endOf keep ks (runL (runCode C0 S1 0 60) (cs.take k) st p) = some (e, st1, obs)) (hn : nodupB keep = true) (hr : Then prog (cs.drop k) e st1 Q) : Trip prog cs st Q :=
  Trip.seg (C := C0) C0_ok S1_ok k p keep ks h hn ho hr

theorem c_Norm (bw : Bool) (xs : List Nat) (o n : Nat) (h1 : o + n ≤ xs.length) (h2 : n ≤ 9223372036854775807) : Contract prog n_small_Norm [.imm bw (.fl xs) 1 1 o n] ⟨.flt false (normF xs o n), none⟩ := by
  have hf : prog.funcs[n_small_Norm]? = some (FN n_small_Norm) := by kernel_rfl
  have hc : (FN n_small_Norm).body = some (BODY n_small_Norm) := by kernel_rfl
  refine Trip.contract hf hc rfl ?_
  refine Trip.seg (C := C0) C0_ok S1_ok (N := 0) (n := 50) 3 (some []) [] ksN (obs := []) (e := .normal) (st1 := IN bw xs o n (0, 0, f1)) (by kernel_rfl) rfl trivial ?_
  show Trip C0.P _ _ _
  have hcs : (flat (BODY n_small_Norm)).drop 3 = .block 0 (.loop (loopOf ((flat (BODY n_small_Norm)).drop 3))) :: (flat (BODY n_small_Norm)).drop 4 := by kernel_rfl
  refine Trip.loop (IN bw xs o n) (fun s => s.1 ≤ n ∧ normGo xs o (n - s.1) s.1 s.2 = normGo xs o n 0 (0, f1)) (fun s => n - s.1) hcs ?_ (0, 0, f1) ⟨Nat.zero_le _, rfl⟩
  rintro ⟨k, sc, su⟩ ⟨g1, g2⟩
  simp only at g1 g2
  by_cases hk : k < n
  · have hn : n - k = (n - (k + 1)) + 1 := by omega
    rw [hn, normGo] at g2
    have o1 : (decide ((k : Int) < n) == true) = true := by simp; exact hk
    have o2 := inB_nat hk
    have o3 : ltB (addn o k) xs.length = true := by simp [ltB]; omega
    have o4 : inK .i64 ((k : Int) + 1) = true := inK_nat (n := k + 1) (by omega)
    cases c1 : feq (at0 xs o k) 0 with
    | true =>
      refine Trip.seg (C := C0) C0_ok S1_ok (N := 0) (n := 50) 4 (some [1, 1]) [] ksN (e := .normal) (st1 := IN bw xs o n (k + 1, sc, su))
        (obs := [decide ((k : Int) < n) == true, inB k n, ltB (addn o k) xs.length, feq (at0 xs o k) 0 == true, inK .i64 ((k : Int) + 1)]) (by kernel_rfl) rfl ⟨o1, o2, o3, by rw [c1]; rfl, o4, trivial⟩ (Trip.nil ⟨(k + 1, sc, su), ⟨hk, ?_⟩, by simp only; omega, rfl⟩)
      rw [← g2]; simp only [normStep, c1, cond_true]
    | false =>
      cases c2 : flt sc (fabs (at0 xs o k)) with
      | true =>
        refine Trip.seg (C := C0) C0_ok S1_ok (N := 0) (n := 50) 4 (some [1, 0, 1]) [] ksN (e := .normal) (st1 := IN bw xs o n (k + 1, fabs (at0 xs o k), fadd f1 (fmul (fmul su (fdiv sc (fabs (at0 xs o k)))) (fdiv sc (fabs (at0 xs o k))))))
          (obs := [decide ((k : Int) < n) == true, inB k n, ltB (addn o k) xs.length, feq (at0 xs o k) 0 == false, flt sc (fabs (at0 xs o k)) == true, inK .i64 ((k : Int) + 1)]) (by kernel_rfl) rfl ⟨o1, o2, o3, by rw [c1]; rfl, by rw [c2]; rfl, o4, trivial⟩ (Trip.nil ⟨(k + 1, _, _), ⟨hk, ?_⟩, by simp only; omega, rfl⟩)
        rw [← g2]; simp only [normStep, c1, c2, cond_true, cond_false]
      | false =>
        refine Trip.seg (C := C0) C0_ok S1_ok (N := 0) (n := 50) 4 (some [1, 0, 0]) [] ksN (e := .normal) (st1 := IN bw xs o n (k + 1, sc, fadd su (fmul (fdiv (fabs (at0 xs o k)) sc) (fdiv (fabs (at0 xs o k)) sc))))
          (obs := [decide ((k : Int) < n) == true, inB k n, ltB (addn o k) xs.length, feq (at0 xs o k) 0 == false, flt sc (fabs (at0 xs o k)) == false, inK .i64 ((k : Int) + 1)]) (by kernel_rfl) rfl ⟨o1, o2, o3, by rw [c1]; rfl, by rw [c2]; rfl, o4, trivial⟩ (Trip.nil ⟨(k + 1, _, _), ⟨hk, ?_⟩, by simp only; omega, rfl⟩)
        rw [← g2]; simp only [normStep, c1, c2, cond_false]
  · have hkn : k = n := by omega
    subst hkn
    rw [Nat.sub_self, normGo] at g2
    have o1 : (decide ((k : Int) < k) == false) = true := by simp
    refine Trip.seg (C := C0) C0_ok S1_ok (N := 0) (n := 50) 2 (some [0]) [] ksN (e := .exit 0) (st1 := IN bw xs o k (k, sc, su)) (obs := [decide ((k : Int) < k) == false]) (by kernel_rfl) rfl ⟨o1, trivial⟩ ?_
    refine Then.exit (Round.out ?_)
    refine Trip.seg (C := C0) C0_ok S1_ok (N := 0) (n := 50) 2 (some []) [] [2] (e := .ret) (st1 := ⟨slots 48 [(2, .flt false (fmul sc (fsqrt su)))], [], 0⟩) (obs := []) (by kernel_rfl) rfl trivial ?_
    refine ⟨.inr rfl, [.flt false (fmul sc (fsqrt su))], [], by kernel_rfl, trivial, ?_⟩
    unfold normF; rw [← g2]; rfl


theorem hypotF_nan {x y : Nat} (h : isNaN x = true) : isNaN (hypotF x y) = true := by
  have hx : isNaN (fabs x) = true := by rw [isNaN_fabs]; exact h
  unfold hypotF hyp2
  have h1 : fgt (fabs y) (fabs x) = false := by unfold fgt; rw [ord_nan (.inr hx)]; rfl
  have h2 : feq (fabs x) 0 = false := by unfold feq; rw [ord_nan (.inl hx)]; rfl
  rw [h1, h2]
  simp only [cond_false]
  have : fmul (fabs x) (fsqrt (fadd f1 (fmul (fdiv (fabs y) (fabs x)) (fdiv (fabs y) (fabs x))))) = qnan := by
    have := bin_nan .mul (x := fabs x) (y := fsqrt (fadd f1 (fmul (fdiv (fabs y) (fabs x)) (fdiv (fabs y) (fabs x))))) (.inl hx)
    unfold fmul
    exact congrArg (·.getD qnan) this
  rw [this]; exact isNaN_qnan

def e_Hypot : Entry := ⟨n_small_Hypot, fun args => match args with | [.flt _ x, .flt _ y] => one (.flt false (hypotF x y)) [] | _ => none⟩
theorem e_Hypot_ok : EntryOk prog e_Hypot := by
  intro args alts a h ha ho
  simp only [e_Hypot] at h
  split at h
  · exact entry_one h ha ho fun q => ⟨rfl, c_Hypot _ _ _ _⟩
  · cases h

/-- A slice of floats that is only read: its block, where it begins, how long it is. -/
def rdSl : AV → Option (List Nat × Nat × Nat)
  | .imm _ (.fl xs) 1 1 o n => some (xs, o, n)
  | .nsl => some ([], 0, 0)
  | _ => none

theorem rdSl_spec {v : AV} {xs : List Nat} {o n : Nat} (h : rdSl v = some (xs, o, n)) : ∃ bw, ∀ ρ w u, VR ρ w v u → VR ρ w (.imm bw (.fl xs) 1 1 o n) u := by
  unfold rdSl at h
  split at h
  · simp only [Option.some.injEq, Prod.mk.injEq] at h; obtain ⟨rfl, rfl, rfl⟩ := h
    exact ⟨_, fun _ _ _ q => q⟩
  · simp only [Option.some.injEq, Prod.mk.injEq] at h; obtain ⟨rfl, rfl, rfl⟩ := h
    exact ⟨false, fun _ _ _ q => nsl_imm q⟩
  · cases h

theorem args1 {v v' : AV} (h : ∀ ρ w u, VR ρ w v u → VR ρ w v' u) : ∀ ρ w us, VRs ρ w [v] us → VRs ρ w [v'] us := by
  intro ρ w us q
  cases q with | cons _ u _ _ h1 h2 => exact .cons _ _ _ _ (h _ _ _ h1) h2
theorem args2 {v v' z z' : AV} (h : ∀ ρ w u, VR ρ w v u → VR ρ w v' u) (k : ∀ ρ w u, VR ρ w z u → VR ρ w z' u) : ∀ ρ w us, VRs ρ w [v, z] us → VRs ρ w [v', z'] us := by
  intro ρ w us q
  cases q with | cons _ u _ _ h1 h2 =>
  cases h2 with | cons _ u _ _ h3 h4 => exact .cons _ _ _ _ (h _ _ _ h1) (.cons _ _ _ _ (k _ _ _ h3) h4)

def slOk (o n : Nat) (xs : List Nat) : Bool := Nat.ble (o + n) xs.length
def lenOk (n : Nat) : Bool := Nat.ble n 9223372036854775807
theorem slOk_iff {o n : Nat} {xs : List Nat} (h : slOk o n xs = true) : o + n ≤ xs.length := Nat.le_of_ble_eq_true h
theorem lenOk_iff {n : Nat} (h : lenOk n = true) : n ≤ 9223372036854775807 := Nat.le_of_ble_eq_true h

def onNorm (args : List AV) : Option (List HAlt) :=
  match args with
  | [v] => match rdSl v with
    | some (xs, o, n) => one (.flt false (normF xs o n)) [slOk o n xs, lenOk n]
    | none => none
  | _ => none
def e_Norm : Entry := ⟨n_small_Norm, onNorm⟩
theorem e_Norm_ok : EntryOk prog e_Norm := by
  intro args alts a h ha ho
  simp only [e_Norm, onNorm] at h
  split at h
  case h_2 => cases h
  split at h
  case h_2 => cases h
  rename_i v xs o n hv
  obtain ⟨bw, hw⟩ := rdSl_spec hv
  exact entry_one h ha ho fun q => ⟨rfl, (c_Norm bw xs o n (slOk_iff q.1) (lenOk_iff q.2.1)).args (args1 hw)⟩

end Go.Plb.Seat

namespace Go.Plb.Seat
open Go Go.Plb
set_option linter.unusedSimpArgs false
set_option linter.unusedVariables false

theorem c_Hypot6 (e1 e2 : Bool) (x y : Nat) : Contract prog n_ref06_Hypot [.flt e1 x, .flt e2 y] ⟨.flt false (hypotF x y), none⟩ := by
  unfold hypotF hyp2
  cases h1 : fgt (fabs y) (fabs x) with
  | false =>
    simp only [cond_false]
    cases h2 : feq (fabs x) 0 with
    | false => exact Contract.run C0_ok S1_ok (some [0, 0]) 0 50 (p' := some []) (by kernel_rfl) (ob (isF h1) <| ob (isF h2) nob)
    | true => exact Contract.run C0_ok S1_ok (some [0, 1]) 0 50 (p' := some []) (by kernel_rfl) (ob (isF h1) <| ob (isT h2) nob)
  | true =>
    simp only [cond_true]
    cases h2 : feq (fabs y) 0 with
    | false => exact Contract.run C0_ok S1_ok (some [1, 0]) 0 50 (p' := some []) (by kernel_rfl) (ob (isT h1) <| ob (isF h2) nob)
    | true => exact Contract.run C0_ok S1_ok (some [1, 1]) 0 50 (p' := some []) (by kernel_rfl) (ob (isT h1) <| ob (isT h2) nob)

def e_Hypot6 : Entry := ⟨n_ref06_Hypot, fun args => match args with | [.flt _ x, .flt _ y] => one (.flt false (hypotF x y)) [] | _ => none⟩
theorem e_Hypot6_ok : EntryOk prog e_Hypot6 := by
  intro args alts a h ha ho
  simp only [e_Hypot6] at h
  split at h
  · exact entry_one h ha ho fun q => ⟨rfl, c_Hypot6 _ _ _ _⟩
  · cases h

def ksN6 : List Nat := [0, 3, 4, 5]
def IN6 (bw : Bool) (xs : List Nat) (o n : Nat) (s : Nat × Nat × Nat) : ASt := ⟨slots 55 [(0, .imm bw (.fl xs) 1 1 o n), (3, .flt false s.2.1), (4, .flt false s.2.2), (5, .int .i64 s.1)], [], 0⟩

theorem c_Norm6 (bw : Bool) (xs : List Nat) (o n : Nat) (h1 : o + n ≤ xs.length) (h2 : n ≤ 9223372036854775807) : Contract prog n_ref06_Norm [.imm bw (.fl xs) 1 1 o n] ⟨.flt false (normF xs o n), none⟩ := by
  have hf : prog.funcs[n_ref06_Norm]? = some (FN n_ref06_Norm) := by kernel_rfl
  have hc : (FN n_ref06_Norm).body = some (BODY n_ref06_Norm) := by kernel_rfl
  refine Trip.contract hf hc rfl ?_
  refine sg1 4 (some []) [] ksN6 (st1 := IN6 bw xs o n (0, 0, f1)) nob (by kernel_rfl) rfl (Then.normal ?_)
  have hcs : (flat (BODY n_ref06_Norm)).drop 4 = .block 0 (.loop (loopOf ((flat (BODY n_ref06_Norm)).drop 4))) :: (flat (BODY n_ref06_Norm)).drop 5 := by kernel_rfl
  refine Trip.loop (IN6 bw xs o n) (fun s => s.1 ≤ n ∧ normGo xs o (n - s.1) s.1 s.2 = normGo xs o n 0 (0, f1)) (fun s => n - s.1) hcs ?_ (0, 0, f1) ⟨Nat.zero_le _, rfl⟩
  rintro ⟨k, sc, su⟩ ⟨g1, g2⟩
  simp only at g1 g2
  by_cases hk : k < n
  · have hn : n - k = (n - (k + 1)) + 1 := by omega
    rw [hn, normGo] at g2
    have o1 : (decide ((k : Int) < n) == true) = true := decT (by omega)
    have o2 := inB_nat hk
    have o3 : ltB (addn o k) xs.length = true := by simp [ltB]; omega
    have o4 : inK .i64 ((k : Int) + 1) = true := inK_nat (n := k + 1) (by omega)
    cases c1 : feq (at0 xs o k) 0 with
    | true =>
      refine sg1 4 (some [1, 1]) [] ksN6 (ob o1 <| ob o2 <| ob o3 <| ob (isT c1) <| ob o4 nob) (by kernel_rfl) rfl (Then.normal (Round.on (k + 1, sc, su) rfl (by simp only; omega) ⟨hk, ?_⟩))
      rw [← g2]; simp only [normStep, c1, cond_true]
    | false =>
      cases c2 : flt sc (fabs (at0 xs o k)) with
      | true =>
        refine sg1 4 (some [1, 0, 1]) [] ksN6 (ob o1 <| ob o2 <| ob o3 <| ob (isF c1) <| ob o2 <| ob o3 <| ob (isT c2) <| ob o4 nob) (by kernel_rfl) rfl
          (Then.normal (Round.on (k + 1, fabs (at0 xs o k), fadd f1 (fmul (fmul su (fdiv sc (fabs (at0 xs o k)))) (fdiv sc (fabs (at0 xs o k))))) rfl (by simp only; omega) ⟨hk, ?_⟩))
        rw [← g2]; simp only [normStep, c1, c2, cond_true, cond_false]
      | false =>
        refine sg1 4 (some [1, 0, 0]) [] ksN6 (ob o1 <| ob o2 <| ob o3 <| ob (isF c1) <| ob o2 <| ob o3 <| ob (isF c2) <| ob o4 nob) (by kernel_rfl) rfl
          (Then.normal (Round.on (k + 1, sc, fadd su (fmul (fdiv (fabs (at0 xs o k)) sc) (fdiv (fabs (at0 xs o k)) sc))) rfl (by simp only; omega) ⟨hk, ?_⟩))
        rw [← g2]; simp only [normStep, c1, c2, cond_false]
  · have hkn : k = n := by omega
    subst hkn
    rw [Nat.sub_self, normGo] at g2
    refine sg1 2 (some [0]) [] ksN6 (st1 := IN6 bw xs o k (k, sc, su)) (ob (decF (by omega : ¬ (k : Int) < k)) nob) (by kernel_rfl) rfl (Then.exit (Round.out ?_))
    refine sg1 2 (some []) [] [2] (st1 := ⟨slots 55 [(2, .flt false (fmul sc (fsqrt su)))], [], 0⟩) nob (by kernel_rfl) rfl (Then.ret ?_)
    refine ⟨.inr rfl, [.flt false (fmul sc (fsqrt su))], [], by kernel_rfl, trivial, ?_⟩
    unfold normF; rw [← g2]; rfl

def e_Norm6 : Entry := ⟨n_ref06_Norm, onNorm⟩
theorem e_Norm6_ok : EntryOk prog e_Norm6 := by
  intro args alts a h ha ho
  simp only [e_Norm6, onNorm] at h
  split at h
  case h_2 => cases h
  split at h
  case h_2 => cases h
  rename_i v xs o n hv
  obtain ⟨bw, hw⟩ := rdSl_spec hv
  exact entry_one h ha ho fun q => ⟨rfl, (c_Norm6 bw xs o n (slOk_iff q.1) (lenOk_iff q.2.1)).args (args1 hw)⟩

/-- Are two slices' floats the same? -/
def sameGo (xs : List Nat) (o : Nat) (ys : List Nat) (p : Nat) : Nat → Nat → Bool
  | 0, _ => true
  | m + 1, k => sameB (at0 xs o k) (at0 ys p k) && sameGo xs o ys p m (k + 1)

def ksS : List Nat := [0, 1, 5]
def IS (b1 b2 : Bool) (xs : List Nat) (o : Nat) (ys : List Nat) (p n : Nat) (k : Nat) : ASt := ⟨slots 27 [(0, .imm b1 (.fl xs) 1 1 o n), (1, .imm b2 (.fl ys) 1 1 p n), (5, .int .i64 k)], [], 0⟩

theorem c_SameAll (b1 b2 : Bool) (xs : List Nat) (o : Nat) (ys : List Nat) (p n : Nat) (h1 : o + n ≤ xs.length) (h2 : p + n ≤ ys.length) (h3 : n ≤ 9223372036854775807) (hs : sameGo xs o ys p n 0 = true) :
    Contract prog n_ref06_SameAll [.imm b1 (.fl xs) 1 1 o n, .imm b2 (.fl ys) 1 1 p n] ⟨.bool false true, none⟩ := by
  have hf : prog.funcs[n_ref06_SameAll]? = some (FN n_ref06_SameAll) := by kernel_rfl
  have hc : (FN n_ref06_SameAll).body = some (BODY n_ref06_SameAll) := by kernel_rfl
  refine Trip.contract hf hc rfl ?_
  refine sg1 4 (some [0]) [] ksS (st1 := IS b1 b2 xs o ys p n 0) (ob (b := ((n : Int) != n) == false) (by simp) nob) (by kernel_rfl) rfl (Then.normal ?_)
  have hcs : (flat (BODY n_ref06_SameAll)).drop 4 = .block 0 (.loop (loopOf ((flat (BODY n_ref06_SameAll)).drop 4))) :: (flat (BODY n_ref06_SameAll)).drop 5 := by kernel_rfl
  refine Trip.loop (IS b1 b2 xs o ys p n) (fun k => k ≤ n ∧ sameGo xs o ys p (n - k) k = true) (fun k => n - k) hcs ?_ 0 ⟨Nat.zero_le _, hs⟩
  rintro k ⟨g1, g2⟩
  by_cases hk : k < n
  · have hn : n - k = (n - (k + 1)) + 1 := by omega
    rw [hn, sameGo, Bool.and_eq_true] at g2
    have o1 : (decide ((k : Int) < n) == true) = true := decT (by omega)
    have o2 := inB_nat hk
    have o3 : ltB (addn o k) xs.length = true := by simp [ltB]; omega
    have o3' : ltB (addn p k) ys.length = true := by simp [ltB]; omega
    have o4 : inK .i64 ((k : Int) + 1) = true := inK_nat (n := k + 1) (by omega)
    have o5 : ((!sameB (at0 xs o k) (at0 ys p k)) == false) = true := by rw [g2.1]; rfl
    exact sg1 4 (some [1, 0]) [] ksS (ob o1 <| ob o2 <| ob o3 <| ob o2 <| ob o3' <| ob o5 <| ob o4 nob) (by kernel_rfl) rfl (Then.normal (Round.on (k + 1) rfl (by omega) ⟨hk, g2.2⟩))
  · have hkn : k = n := by omega
    subst hkn
    refine sg1 2 (some [0]) [] ksS (st1 := IS b1 b2 xs o ys p k k) (ob (decF (by omega : ¬ (k : Int) < k)) nob) (by kernel_rfl) rfl (Then.exit (Round.out ?_))
    refine sg1 2 (some []) [] [4] (st1 := ⟨slots 27 [(4, .bool false true)], [], 0⟩) nob (by kernel_rfl) rfl (Then.ret ?_)
    exact ⟨.inr rfl, [.bool false true], [], by kernel_rfl, trivial, rfl⟩

def onSameAll (args : List AV) : Option (List HAlt) :=
  match args with
  | [v, z] => match rdSl v, rdSl z with
    | some (xs, o, n), some (ys, p, m) => one (.bool false true) [slOk o n xs, slOk p m ys, lenOk n, n == m, sameGo xs o ys p n 0]
    | _, _ => none
  | _ => none
def e_SameAll : Entry := ⟨n_ref06_SameAll, onSameAll⟩
theorem e_SameAll_ok : EntryOk prog e_SameAll := by
  intro args alts a h ha ho
  simp only [e_SameAll, onSameAll] at h
  split at h
  case h_2 => cases h
  split at h
  case h_2 => cases h
  rename_i v z xs o n ys p m hv hz
  obtain ⟨bw, hw⟩ := rdSl_spec hv
  obtain ⟨bz, hwz⟩ := rdSl_spec hz
  refine entry_one h ha ho fun q => ⟨rfl, ?_⟩
  have e : n = m := by simpa using q.2.2.2.1
  subst e
  exact (c_SameAll bw bz xs o ys p n (slOk_iff q.1) (slOk_iff q.2.1) (lenOk_iff q.2.2.1) q.2.2.2.2.1).args (args2 hw hwz)

theorem sameGo_refl (xs : List Nat) (o : Nat) : ∀ m k, sameGo xs o xs o m k = true
  | 0, _ => rfl
  | m + 1, k => by simp only [sameGo, sameB_refl, Bool.true_and]; exact sameGo_refl xs o m (k + 1)

def L2 : List Entry := [e_Hypot, e_Norm, e_Hypot6, e_Norm6, e_SameAll] ++ L1
def S2 : Sums := sumsOf L2
theorem S2_ok : SumsOk prog S2 := sumsOf_append (by
  intro e he
  simp only [List.mem_cons, List.not_mem_nil, or_false] at he
  rcases he with rfl | rfl | rfl | rfl | rfl
  · exact e_Hypot_ok
  · exact e_Norm_ok
  · exact e_Hypot6_ok
  · exact e_Norm6_ok
  · exact e_SameAll_ok) S1_ok
theorem sg2 (k : Nat) (p : Path) (keep ks : List Nat) {cs : List Code} {st st1 : ASt} {e : AE} {obs : List Bool} {Q : AE → ASt → Prop}
    (ho : allTrue obs) (h : endOf keep ks (runL (runCode C0 S2 0 60) (cs.take k) st p) = some (e, st1, obs)) (hn : nodupB keep = true) (hr : Then prog (cs.drop k) e st1 Q) : Trip prog cs st Q :=
  Trip.seg (C := C0) C0_ok S2_ok k p keep ks h hn ho hr

end Go.Plb.Seat

namespace Go.Plb.Seat
open Go Go.Plb
set_option linter.unusedSimpArgs false
set_option linter.unusedVariables false

def mk0 (n : Nat) : List Nat := (List.replicate n 0).set 0 f1
def mkGo (xs : List Nat) (o q : Nat) : Nat → Nat → List Nat → List Nat
  | 0, _, v => v
  | m + 1, k, v => mkGo xs o q m (k + 1) (v.set k (fmul (at0 xs o k) q))
def mkLong (xs : List Nat) (o n : Nat) : Nat := normF xs (addn o 1) (n - 1)
def mkBeta (xs : List Nat) (o n : Nat) : Nat := fneg (fcopy (hypotF (at0 xs o 0) (mkLong xs o n)) (at0 xs o 0))
def mkTau (xs : List Nat) (o n : Nat) : Nat := fdiv (fsub (mkBeta xs o n) (at0 xs o 0)) (mkBeta xs o n)
def mkQ (xs : List Nat) (o n : Nat) : Nat := fdiv f1 (fsub (at0 xs o 0) (mkBeta xs o n))
def mkV (xs : List Nat) (o n : Nat) : List Nat := mkGo xs o (mkQ xs o n) (n - 1) 1 (mk0 n)

def ksM : List Nat := [0, 2, 3, 4, 5, 7, 8, 9]
def IM (bw : Bool) (xs : List Nat) (o n tau beta q : Nat) (s : Nat × List Nat) : ASt :=
  ⟨slots 72 [(0, .imm bw (.fl xs) 1 1 o n), (2, .ptr 0 1 0 0), (3, .flt false 0), (4, .int .i64 0), (5, .ptr 2 1 0 0), (7, .flt false beta), (8, .flt false q), (9, .int .i64 s.1)],
   [(0, .vs [.nsl, .flt false 0]), (1, .fl s.2), (2, .vs [.sl 1 1 1 0 n n, .flt false tau])], 3⟩

def makeOut (xs : List Nat) (o n : Nat) : Out :=
  bif feq (mkLong xs o n) 0 then ⟨.tup [.agg [.sl 0 1 1 0 n n, .flt false 0], .flt false (at0 xs o 0), .int .i64 0], some (.fl (mk0 n))⟩
  else ⟨.tup [.agg [.sl 0 1 1 0 n n, .flt false (mkTau xs o n)], .flt false (mkBeta xs o n), .int .i64 0], some (.fl (mkV xs o n))⟩

theorem mkGo_length (xs : List Nat) (o q : Nat) : ∀ (m k : Nat) (v : List Nat), (mkGo xs o q m k v).length = v.length
  | 0, k, v => rfl
  | m + 1, k, v => by rw [mkGo, mkGo_length xs o q m (k + 1)]; simp
theorem mk0_length (n : Nat) : (mk0 n).length = n := by simp [mk0]

theorem c_Make (bw : Bool) (xs : List Nat) (o n : Nat) (h0 : 0 < n) (h1 : o + n ≤ xs.length) (h2 : n ≤ 1000000) : Contract prog n_reflect_Make [.imm bw (.fl xs) 1 1 o n] (makeOut xs o n) := by
  have hf : prog.funcs[n_reflect_Make]? = some (FN n_reflect_Make) := by kernel_rfl
  have hc : (FN n_reflect_Make).body = some (BODY n_reflect_Make) := by kernel_rfl
  have p1 : (((n : Int) == 0) == false) = true := by simp; omega
  have p2 : decide (0 ≤ (n : Int)) = true := by simp
  have p3 : decide ((n : Int) ≤ n) = true := by simp
  have p4 : decide ((8 : Int) * (n : Int) ≤ 140737488355328) = true := by simp; omega
  have p5 : inK .i64 (n : Int) = true := inK_nat (by omega)
  have p6 : inB (0 : Nat) n = true := inB_nat h0
  have p7 : ltB 0 (List.replicate n 0).length = true := by simp [ltB]; exact h0
  have p8 : leB (n : Int) n = true := leB_nat (Nat.le_refl _)
  have p9 : leB (1 : Nat) n = true := leB_nat h0
  have p10 : slOk (addn o 1) (n - 1) xs = true := by unfold slOk; rw [addn_eq]; exact Nat.ble_eq_true_of_le (by omega)
  have p11 : lenOk (n - 1) = true := Nat.ble_eq_true_of_le (by omega)
  have p12 : ltB (addn o 0) xs.length = true := by simp [ltB]; omega
  cases c1 : feq (mkLong xs o n) 0 with
  | true =>
    have hr : makeOut xs o n = ⟨.tup [.agg [.sl 0 1 1 0 n n, .flt false 0], .flt false (at0 xs o 0), .int .i64 0], some (.fl (mk0 n))⟩ := by unfold makeOut; rw [c1]; rfl
    rw [hr]
    refine Trip.contract hf hc rfl ?_
    refine sg2 12 (some [0, 1]) [0, 8] [2, 3, 4] (st1 := ⟨slots 72 [(2, .ptr 0 1 0 0), (3, .flt false (at0 xs o 0)), (4, .int .i64 0)], [(0, .vs [.sl 1 1 1 0 n n, .flt false 0]), (1, .fl (mk0 n))], 2⟩)
      (ob p1 <| ob p2 <| ob p3 <| ob p4 <| ob p5 <| ob p6 <| ob p7 <| ob p8 <| ob p9 <| ob p10 <| ob p11 <| ob (isT c1) <| ob p6 <| ob p12 nob) (by kernel_rfl) rfl (Then.ret ?_)
    exact ⟨.inr rfl, [.agg [.sl 1 1 1 0 n n, .flt false 0], .flt false (at0 xs o 0), .int .i64 0], [], by kernel_rfl, trivial, by kernel_rfl⟩
  | false =>
    have hr : makeOut xs o n = ⟨.tup [.agg [.sl 0 1 1 0 n n, .flt false (mkTau xs o n)], .flt false (mkBeta xs o n), .int .i64 0], some (.fl (mkV xs o n))⟩ := by unfold makeOut; rw [c1]; rfl
    rw [hr]
    have p13 : (!isNaN (at0 xs o 0) || isNaN (hypotF (at0 xs o 0) (mkLong xs o n))) = true := by
      cases hx : isNaN (at0 xs o 0) with
      | false => rfl
      | true => rw [hypotF_nan hx]; rfl
    refine Trip.contract hf hc rfl ?_
    refine sg2 12 (some [0, 0]) [0, 8, 10] ksM (st1 := IM bw xs o n (mkTau xs o n) (mkBeta xs o n) (mkQ xs o n) (1, mk0 n))
      (ob p1 <| ob p2 <| ob p3 <| ob p4 <| ob p5 <| ob p6 <| ob p7 <| ob p8 <| ob p9 <| ob p10 <| ob p11 <| ob (isF c1) <| ob p6 <| ob p12 <| ob p6 <| ob p12 <| ob p13 <| ob p6 <| ob p12 <| ob p6 <| ob p12 nob) (by kernel_rfl) rfl (Then.normal ?_)
    have hcs : (flat (BODY n_reflect_Make)).drop 12 = .block 0 (.loop (loopOf ((flat (BODY n_reflect_Make)).drop 12))) :: (flat (BODY n_reflect_Make)).drop 13 := by kernel_rfl
    refine Trip.loop (IM bw xs o n (mkTau xs o n) (mkBeta xs o n) (mkQ xs o n)) (fun s => 1 ≤ s.1 ∧ s.1 ≤ n ∧ s.2.length = n ∧ mkGo xs o (mkQ xs o n) (n - s.1) s.1 s.2 = mkV xs o n) (fun s => n - s.1) hcs ?_ (1, mk0 n) ⟨Nat.le_refl _, h0, mk0_length n, rfl⟩
    rintro ⟨k, v⟩ ⟨g0, g1, g2, g3⟩
    simp only at g0 g1 g2 g3
    by_cases hk : k < n
    · have hn : n - k = (n - (k + 1)) + 1 := by omega
      rw [hn, mkGo] at g3
      have o1 : (decide ((k : Int) < n) == true) = true := decT (by omega)
      have o2 := inB_nat hk
      have o3 : ltB (addn o k) xs.length = true := by simp [ltB]; omega
      have o3' : ltB k v.length = true := by simp [ltB]; omega
      have o4 : inK .i64 ((k : Int) + 1) = true := inK_nat (n := k + 1) (by omega)
      exact sg2 4 (some [1]) [0, 1, 2] ksM (ob o1 <| ob o2 <| ob o3 <| ob o2 <| ob o3' <| ob o4 nob) (by kernel_rfl) rfl
        (Then.normal (Round.on (k + 1, v.set k (fmul (at0 xs o k) (mkQ xs o n))) rfl (by simp only; omega) ⟨by simp only; omega, hk, by simp only [List.length_set]; exact g2, g3⟩))
    · have hkn : k = n := by omega
      subst hkn
      rw [Nat.sub_self, mkGo] at g3
      refine sg2 2 (some [0]) [0, 1, 2] ksM (st1 := IM bw xs o k (mkTau xs o k) (mkBeta xs o k) (mkQ xs o k) (k, v)) (ob (decF (by omega : ¬ (k : Int) < k)) nob) (by kernel_rfl) rfl (Then.exit (Round.out ?_))
      rw [← g3]
      refine sg2 2 (some []) [0, 1] [2, 3, 4] (st1 := ⟨slots 72 [(2, .ptr 0 1 0 0), (3, .flt false (mkBeta xs o k)), (4, .int .i64 0)], [(0, .vs [.sl 1 1 1 0 k k, .flt false (mkTau xs o k)]), (1, .fl v)], 2⟩) nob (by kernel_rfl) rfl (Then.ret ?_)
      exact ⟨.inr rfl, [.agg [.sl 1 1 1 0 k k, .flt false (mkTau xs o k)], .flt false (mkBeta xs o k), .int .i64 0], [], by kernel_rfl, trivial, by kernel_rfl⟩


def make9Out (xs : List Nat) (o n : Nat) : Out :=
  bif feq (mkLong xs o n) 0 then ⟨.tup [.agg [.sl 0 1 1 0 n n, .flt false 0], .flt false (at0 xs o 0)], some (.fl (mk0 n))⟩
  else ⟨.tup [.agg [.sl 0 1 1 0 n n, .flt false (mkTau xs o n)], .flt false (mkBeta xs o n)], some (.fl (mkV xs o n))⟩

def ksM9 : List Nat := [0, 2, 3, 4, 5, 7, 8, 9, 10]
def IM9 (bw : Bool) (xs : List Nat) (o n tau beta q : Nat) (s : Nat × List Nat) : ASt :=
  ⟨slots 68 [(0, .imm bw (.fl xs) 1 1 o n), (2, .ptr 0 1 0 0), (3, .flt false 0), (4, .int .i64 n), (5, .sl 1 1 1 0 n n), (7, .flt false beta), (8, .flt false tau), (9, .flt false q), (10, .int .i64 s.1)],
   [(0, .vs [.nsl, .flt false 0]), (1, .fl s.2)], 2⟩

theorem c_Make9 (bw : Bool) (xs : List Nat) (o n : Nat) (h0 : 0 < n) (h1 : o + n ≤ xs.length) (h2 : n ≤ 1000000) : Contract prog n_ref09_Make [.imm bw (.fl xs) 1 1 o n] (make9Out xs o n) := by
  have hf : prog.funcs[n_ref09_Make]? = some (FN n_ref09_Make) := by kernel_rfl
  have hc : (FN n_ref09_Make).body = some (BODY n_ref09_Make) := by kernel_rfl
  have p2 : decide (0 ≤ (n : Int)) = true := by simp
  have p3 : decide ((n : Int) ≤ n) = true := by simp
  have p4 : decide ((8 : Int) * (n : Int) ≤ 140737488355328) = true := by simp; omega
  have p5 : inK .i64 (n : Int) = true := inK_nat (by omega)
  have p6 : inB (0 : Nat) n = true := inB_nat h0
  have p7 : ltB 0 (List.replicate n 0).length = true := by simp [ltB]; exact h0
  have p8 : leB (n : Int) n = true := leB_nat (Nat.le_refl _)
  have p9 : leB (1 : Nat) n = true := leB_nat h0
  have p10 : slOk (addn o 1) (n - 1) xs = true := by unfold slOk; rw [addn_eq]; exact Nat.ble_eq_true_of_le (by omega)
  have p11 : lenOk (n - 1) = true := Nat.ble_eq_true_of_le (by omega)
  have p12 : ltB (addn o 0) xs.length = true := by simp [ltB]; omega
  cases c1 : feq (mkLong xs o n) 0 with
  | true =>
    have hr : make9Out xs o n = ⟨.tup [.agg [.sl 0 1 1 0 n n, .flt false 0], .flt false (at0 xs o 0)], some (.fl (mk0 n))⟩ := by unfold make9Out; rw [c1]; rfl
    rw [hr]
    refine Trip.contract hf hc rfl ?_
    refine sg2 11 (some [1]) [0, 6] [2, 3] (st1 := ⟨slots 68 [(2, .ptr 0 1 0 0), (3, .flt false (at0 xs o 0))], [(0, .vs [.sl 1 1 1 0 n n, .flt false 0]), (1, .fl (mk0 n))], 2⟩)
      (ob p2 <| ob p3 <| ob p4 <| ob p5 <| ob p6 <| ob p7 <| ob p8 <| ob p9 <| ob p10 <| ob p11 <| ob (isT c1) <| ob p6 <| ob p12 nob) (by kernel_rfl) rfl (Then.ret ?_)
    exact ⟨.inr rfl, [.agg [.sl 1 1 1 0 n n, .flt false 0], .flt false (at0 xs o 0)], [], by kernel_rfl, trivial, by kernel_rfl⟩
  | false =>
    have hr : make9Out xs o n = ⟨.tup [.agg [.sl 0 1 1 0 n n, .flt false (mkTau xs o n)], .flt false (mkBeta xs o n)], some (.fl (mkV xs o n))⟩ := by unfold make9Out; rw [c1]; rfl
    rw [hr]
    have p13 : (!isNaN (at0 xs o 0) || isNaN (hypotF (at0 xs o 0) (mkLong xs o n))) = true := by
      cases hx : isNaN (at0 xs o 0) with
      | false => rfl
      | true => rw [hypotF_nan hx]; rfl
    refine Trip.contract hf hc rfl ?_
    refine sg2 11 (some [0]) [0, 6] ksM9 (st1 := IM9 bw xs o n (mkTau xs o n) (mkBeta xs o n) (mkQ xs o n) (1, mk0 n))
      (ob p2 <| ob p3 <| ob p4 <| ob p5 <| ob p6 <| ob p7 <| ob p8 <| ob p9 <| ob p10 <| ob p11 <| ob (isF c1) <| ob p6 <| ob p12 <| ob p6 <| ob p12 <| ob p13 <| ob p6 <| ob p12 <| ob p6 <| ob p12 nob) (by kernel_rfl) rfl (Then.normal ?_)
    have hcs : (flat (BODY n_ref09_Make)).drop 11 = .block 0 (.loop (loopOf ((flat (BODY n_ref09_Make)).drop 11))) :: (flat (BODY n_ref09_Make)).drop 12 := by kernel_rfl
    refine Trip.loop (IM9 bw xs o n (mkTau xs o n) (mkBeta xs o n) (mkQ xs o n)) (fun s => 1 ≤ s.1 ∧ s.1 ≤ n ∧ s.2.length = n ∧ mkGo xs o (mkQ xs o n) (n - s.1) s.1 s.2 = mkV xs o n) (fun s => n - s.1) hcs ?_ (1, mk0 n) ⟨Nat.le_refl _, h0, mk0_length n, rfl⟩
    rintro ⟨k, v⟩ ⟨g0, g1, g2, g3⟩
    simp only at g0 g1 g2 g3
    by_cases hk : k < n
    · have hn : n - k = (n - (k + 1)) + 1 := by omega
      rw [hn, mkGo] at g3
      have o1 : (decide ((k : Int) < n) == true) = true := decT (by omega)
      have o2 := inB_nat hk
      have o3 : ltB (addn o k) xs.length = true := by simp [ltB]; omega
      have o3' : ltB k v.length = true := by simp [ltB]; omega
      have o4 : inK .i64 ((k : Int) + 1) = true := inK_nat (n := k + 1) (by omega)
      exact sg2 4 (some [1]) [0, 1] ksM9 (ob o1 <| ob o2 <| ob o3 <| ob o2 <| ob o3' <| ob o4 nob) (by kernel_rfl) rfl
        (Then.normal (Round.on (k + 1, v.set k (fmul (at0 xs o k) (mkQ xs o n))) rfl (by simp only; omega) ⟨by simp only; omega, hk, by simp only [List.length_set]; exact g2, g3⟩))
    · have hkn : k = n := by omega
      subst hkn
      rw [Nat.sub_self, mkGo] at g3
      refine sg2 2 (some [0]) [0, 1] ksM9 (st1 := IM9 bw xs o k (mkTau xs o k) (mkBeta xs o k) (mkQ xs o k) (k, v)) (ob (decF (by omega : ¬ (k : Int) < k)) nob) (by kernel_rfl) rfl (Then.exit (Round.out ?_))
      rw [← g3]
      refine sg2 2 (some []) [0, 1] [2, 3] (st1 := ⟨slots 68 [(2, .ptr 0 1 0 0), (3, .flt false (mkBeta xs o k))], [(0, .vs [.sl 1 1 1 0 k k, .flt false (mkTau xs o k)]), (1, .fl v)], 2⟩) nob (by kernel_rfl) rfl (Then.ret ?_)
      exact ⟨.inr rfl, [.agg [.sl 1 1 1 0 k k, .flt false (mkTau xs o k)], .flt false (mkBeta xs o k)], [], by kernel_rfl, trivial, by kernel_rfl⟩

end Go.Plb.Seat

namespace Go.Plb.Seat
open Go Go.Plb
set_option linter.unusedSimpArgs false
set_option linter.unusedVariables false

def okB : Option (Out × List Bool × Path) → Bool
  | some (⟨.bool _ true, none⟩, o, _) => allB o
  | _ => false

theorem okB_spec {r : Option (Out × List Bool × Path)} (h : okB r = true) : ∃ k o p, r = some (⟨.bool k true, none⟩, o, p) ∧ allTrue o := by
  unfold okB at h
  split at h
  · exact ⟨_, _, _, rfl, allB_true h⟩
  · cases h

theorem Contract.boolWeak {P : Program} {f : FuncId} {args : List AV} {k k' b : Bool} (h : Contract P f args ⟨.bool k b, none⟩) : Contract P f args ⟨.bool k' b, none⟩ := by
  intro ρ w us hN hv
  obtain ⟨q1, q2⟩ := h ρ w us hN hv
  refine ⟨q1, q2.mono ?_⟩
  rintro e w' ⟨u, rfl, W, hu⟩
  exact ⟨u, rfl, W, VR.bool_weak hu⟩

theorem known_run : okB (fnRun C0 E0 (runCode C0 E0 50 100) n_law09_known [] none) = true := by kernel_rfl
end Go.Plb.Seat

namespace Go.Plb.Seat
open Go Go.Plb
set_option linter.unusedSimpArgs false
set_option linter.unusedVariables false
theorem c_known : Contract prog n_law09_known [] ⟨.bool false true, none⟩ := by
  obtain ⟨k, o, p, h, ho⟩ := okB_spec known_run
  exact Contract.boolWeak (Contract.run C0_ok E0_ok none _ _ h ho)

def e_known : Entry := ⟨n_law09_known, fun args => match args with | [] => one (.bool false true) [] | _ => none⟩
theorem e_known_ok : EntryOk prog e_known := by
  intro args alts a h ha ho
  simp only [e_known] at h
  split at h
  · exact entry_one h ha ho fun q => ⟨rfl, c_known⟩
  · cases h

def tauF (xs : List Nat) (o n : Nat) : Nat := bif feq (mkLong xs o n) 0 then 0 else mkTau xs o n
def betaF (xs : List Nat) (o n : Nat) : Nat := bif feq (mkLong xs o n) 0 then at0 xs o 0 else mkBeta xs o n
def vF (xs : List Nat) (o n : Nat) : List Nat := bif feq (mkLong xs o n) 0 then mk0 n else mkV xs o n

theorem tauF_t {xs : List Nat} {o n : Nat} (c : feq (mkLong xs o n) 0 = true) : tauF xs o n = 0 := by rw [tauF, c, cond_true]
theorem tauF_f {xs : List Nat} {o n : Nat} (c : feq (mkLong xs o n) 0 = false) : tauF xs o n = mkTau xs o n := by rw [tauF, c, cond_false]
theorem betaF_t {xs : List Nat} {o n : Nat} (c : feq (mkLong xs o n) 0 = true) : betaF xs o n = at0 xs o 0 := by rw [betaF, c, cond_true]
theorem betaF_f {xs : List Nat} {o n : Nat} (c : feq (mkLong xs o n) 0 = false) : betaF xs o n = mkBeta xs o n := by rw [betaF, c, cond_false]
theorem vF_t {xs : List Nat} {o n : Nat} (c : feq (mkLong xs o n) 0 = true) : vF xs o n = mk0 n := by rw [vF, c, cond_true]
theorem vF_f {xs : List Nat} {o n : Nat} (c : feq (mkLong xs o n) 0 = false) : vF xs o n = mkV xs o n := by rw [vF, c, cond_false]
theorem makeOut_eq (xs : List Nat) (o n : Nat) : makeOut xs o n = ⟨.tup [.agg [.sl 0 1 1 0 n n, .flt false (tauF xs o n)], .flt false (betaF xs o n), .int .i64 0], some (.fl (vF xs o n))⟩ := by
  cases c1 : feq (mkLong xs o n) 0 with
  | true => rw [makeOut, c1, cond_true, tauF_t c1, betaF_t c1, vF_t c1]
  | false => rw [makeOut, c1, cond_false, tauF_f c1, betaF_f c1, vF_f c1]
theorem make9Out_eq (xs : List Nat) (o n : Nat) : make9Out xs o n = ⟨.tup [.agg [.sl 0 1 1 0 n n, .flt false (tauF xs o n)], .flt false (betaF xs o n)], some (.fl (vF xs o n))⟩ := by
  cases c1 : feq (mkLong xs o n) 0 with
  | true => rw [make9Out, c1, cond_true, tauF_t c1, betaF_t c1, vF_t c1]
  | false => rw [make9Out, c1, cond_false, tauF_f c1, betaF_f c1, vF_f c1]
theorem vF_length (xs : List Nat) (o n : Nat) : (vF xs o n).length = n := by
  cases c1 : feq (mkLong xs o n) 0 with
  | true => simp only [vF, c1, cond_true, mk0_length]
  | false => simp only [vF, c1, cond_false, mkV, mkGo_length, mk0_length]

theorem c_Make0 (bw : Bool) (xs : List Nat) (o : Nat) : Contract prog n_reflect_Make [.imm bw (.fl xs) 1 1 o 0] ⟨.tup [.agg [.nsl, .flt false 0], .flt false 0, .int .i64 2], none⟩ := by
  have hf : prog.funcs[n_reflect_Make]? = some (FN n_reflect_Make) := by kernel_rfl
  have hc : (FN n_reflect_Make).body = some (BODY n_reflect_Make) := by kernel_rfl
  refine Trip.contract hf hc rfl ?_
  refine sg2 12 (some [1]) [0] [2, 3, 4] (st1 := ⟨slots 72 [(2, .ptr 0 1 0 0), (3, .flt false 0), (4, .int .i64 2)], [(0, .vs [.nsl, .flt false 0])], 1⟩) (ob (b := ((0 : Int) == 0) == true) rfl nob) (by kernel_rfl) rfl (Then.ret ?_)
  exact ⟨.inr rfl, [.agg [.nsl, .flt false 0], .flt false 0, .int .i64 2], [], by kernel_rfl, trivial, by kernel_rfl⟩

def onMake (args : List AV) : Option (List HAlt) :=
  match args with
  | [v] => match rdSl v with
    | some (xs, o, n) => some [⟨.tup [.agg [.nsl, .flt false 0], .flt false 0, .int .i64 2], [], [n == 0]⟩,
        ⟨.tup [.agg [.sl 0 1 1 0 n n, .flt false (tauF xs o n)], .flt false (betaF xs o n), .int .i64 0], [(0, some (.fl (vF xs o n)))], [Nat.blt 0 n, slOk o n xs, Nat.ble n 1000000]⟩]
    | none => none
  | _ => none
def e_Make : Entry := ⟨n_reflect_Make, onMake⟩
theorem e_Make_ok : EntryOk prog e_Make := by
  intro args alts a h ha ho
  simp only [e_Make, onMake] at h
  split at h
  case h_2 => cases h
  split at h
  case h_2 => cases h
  rename_i v xs o n hv
  obtain ⟨bw, hw⟩ := rdSl_spec hv
  simp only [Option.some.injEq] at h; subst h
  simp only [List.mem_cons, List.not_mem_nil, or_false] at ha
  rcases ha with rfl | rfl
  · have e : n = 0 := by simpa using ho.1
    subst e
    exact ⟨rfl, (c_Make0 bw xs o).args (args1 hw)⟩
  · have h1 : 0 < n := by have := ho.1; simpa [Nat.blt_eq] using this
    have := c_Make bw xs o n h1 (slOk_iff ho.2.1) (Nat.le_of_ble_eq_true ho.2.2.1)
    rw [makeOut_eq] at this
    exact ⟨rfl, this.args (args1 hw)⟩

def onMake9 (args : List AV) : Option (List HAlt) :=
  match args with
  | [v] => match rdSl v with
    | some (xs, o, n) => oneOwn (.tup [.agg [.sl 0 1 1 0 n n, .flt false (tauF xs o n)], .flt false (betaF xs o n)]) (.fl (vF xs o n)) [Nat.blt 0 n, slOk o n xs, Nat.ble n 1000000]
    | none => none
  | _ => none
def e_Make9 : Entry := ⟨n_ref09_Make, onMake9⟩
theorem e_Make9_ok : EntryOk prog e_Make9 := by
  intro args alts a h ha ho
  simp only [e_Make9, onMake9] at h
  split at h
  case h_2 => cases h
  split at h
  case h_2 => cases h
  rename_i v xs o n hv
  obtain ⟨bw, hw⟩ := rdSl_spec hv
  refine entry_own h ha ho fun q => ⟨rfl, ?_⟩
  have h1 : 0 < n := by have := q.1; simpa [Nat.blt_eq] using this
  have := c_Make9 bw xs o n h1 (slOk_iff q.2.1) (Nat.le_of_ble_eq_true q.2.2.1)
  rw [make9Out_eq] at this
  exact this.args (args1 hw)

def L3 : List Entry := [e_known, e_Make, e_Make9] ++ L2
def S3 : Sums := sumsOf L3
theorem S3_ok : SumsOk prog S3 := sumsOf_append (by
  intro e he
  simp only [List.mem_cons, List.not_mem_nil, or_false] at he
  rcases he with rfl | rfl | rfl
  · exact e_known_ok
  · exact e_Make_ok
  · exact e_Make9_ok) S2_ok

end Go.Plb.Seat

namespace Go.Plb.Seat
open Go Go.Plb
set_option linter.unusedSimpArgs false
set_option linter.unusedVariables false

theorem slOk_of {o n : Nat} {xs : List Nat} (h : o + n ≤ xs.length) : slOk o n xs = true := Nat.ble_eq_true_of_le h
theorem lenOk_of {n : Nat} (h : n ≤ 9223372036854775807) : lenOk n = true := Nat.ble_eq_true_of_le h

theorem c_ReflectMakes (bw : Bool) (xs : List Nat) (n : Nat) (hn : n = xs.length) : Contract prog n_law09_ReflectMakes [.imm bw (.fl xs) 1 1 0 n] ⟨.bool false true, none⟩ := by
  by_cases h6 : 600 < n
  · exact Contract.run C0_ok S3_ok (some [1]) 0 60 (p' := some []) (by kernel_rfl) (ob (decT (p := (n : Int) > 600) (by omega)) nob)
  · have q1 : (decide ((n : Int) > 600) == false) = true := decF (by omega)
    by_cases h0 : n = 0
    · have q2 : (n == 0) = true := by simp [h0]
      have q3 : (((n : Int) == 0) == true) = true := by simp [h0]
      exact Contract.run C0_ok S3_ok (some [0, 0, 1, 1, 1]) 0 60 (p' := some []) (by kernel_rfl)
        (ob q1 <| ob q2 <| ob q3 <| ob (b := ((2 : Int) == 2) == true) rfl <| ob (b := ((0 : Int) == 0) == true) rfl nob)
    · have q2 : Nat.blt 0 n = true := by rw [Nat.blt_eq]; omega
      have q3 : slOk 0 n xs = true := slOk_of (by omega)
      have q4 : Nat.ble n 1000000 = true := Nat.ble_eq_true_of_le (by omega)
      have q5 : (((n : Int) == 0) == false) = true := by simp; omega
      have q6 : slOk 0 n (vF xs 0 n) = true := slOk_of (by rw [vF_length]; omega)
      have q7 : lenOk n = true := lenOk_of (by omega)
      have q8 : (n == n) = true := by simp
      have q9 : sameGo (vF xs 0 n) 0 (vF xs 0 n) 0 n 0 = true := sameGo_refl _ _ _ _
      have qa : (sameB (betaF xs 0 n) (betaF xs 0 n) == true) = true := isT (sameB_refl _)
      have qb : (sameB (tauF xs 0 n) (tauF xs 0 n) == true) = true := isT (sameB_refl _)
      exact Contract.run C0_ok S3_ok (some [0, 1, 0, 1, 1, 1, 1]) 0 60 (p' := some []) (by kernel_rfl)
        (ob q1 <| ob q2 <| ob q3 <| ob q4 <| ob q5 <| ob q2 <| ob q3 <| ob q4 <| ob (b := ((0 : Int) == 0) == true) rfl <| ob qa <| ob qb <| ob q6 <| ob q6 <| ob q7 <| ob q8 <| ob q9 <| ob (b := true == true) rfl nob)

end Go.Plb.Seat
