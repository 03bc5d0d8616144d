/-
  Part 3 of what the claim leans on: an evaluator of the model, proved sound; the contracts of the functions.
-/
import Derived.Test.YtiacfeojfabghaaChecked
import Derived.KernelRfl
import Derived.Test.YtiacfeojfabghaaA2
/-
  ENGINE, PART 28: shapes of arguments: what is open in them, as plain data.
-/
namespace Go.Plb
set_option linter.unusedSimpArgs false
set_option linter.unusedVariables false

/-- A part of a list. -/
def cutL {α : Type} (o n : Nat) (l : List α) : List α := (dropA o l).take n
theorem cutL_eq {α : Type} (o n : Nat) (l : List α) : cutL o n l = (l.drop o).take n := by
  unfold cutL dropA; cases o <;> rfl
theorem cutL_all {α : Type} (l : List α) : cutL 0 l.length l = l := by simp [cutL_eq]
theorem cutL_len {α : Type} {o n : Nat} {l : List α} (h : o + n ≤ l.length) : (cutL o n l).length = n := by rw [cutL_eq]; simp; omega
theorem cutL_get {α : Type} {o n : Nat} {l : List α} {i : Nat} {v : α} (h : (cutL o n l)[i]? = some v) : l[o + i]? = some v := by
  rw [cutL_eq, List.getElem?_take] at h
  split at h
  · rw [List.getElem?_drop] at h; exact h
  · cases h
theorem cutL_nil {α : Type} (o n : Nat) : cutL o n ([] : List α) = [] := by simp [cutL_eq]

def slOk {α : Type} (o n : Nat) (xs : List α) : Bool := Nat.ble (o + n) xs.length
theorem slOk_iff {α : Type} {o n : Nat} {xs : List α} : slOk o n xs = true ↔ o + n ≤ xs.length := by unfold slOk; rw [Nat.ble_eq]

theorem Weaker.imm_part {l : Lv} {d d' : Blk} {w es o n : Nat} (h : ∀ x v, d'.cell? x = some v → d.cell? (o * w + x) = some v) (hr : d.recKept → d'.recKept) (hk : d'.kept = true) (hg : d'.foreign = true) :
    Weaker (.imm l d w es o n) (.imm l d' w es 0 n) := by
  intro ρ w' u hv
  cases hv with
  | imm _ _ _ _ _ _ cap bl o' u' ha hb hc hv' hl' hr' _ _ =>
    have := VR.imm (ρ := ρ) (w := w') l d' w es 0 n cap bl (o' + o * w) (fun x => u' (o * w + x)) ha hb
      (fun x v hx => by rw [Nat.add_assoc]; exact hc _ v (h x v hx)) (fun x v hx => hv' _ v (h x v hx)) hl' (hr hr') (fun _ => hk) hg
    simpa using this
  | immEnd _ _ _ _ _ _ _ hr' => exact .immEnd _ _ _ _ _ _ _ (hr hr') (fun _ => hk) hg
theorem Weaker.nsl_part {l : Lv} {d' : Blk} {w es : Nat} (hr : d'.recKept) (hk : d'.kept = true) (hg : d'.foreign = true) : Weaker .nsl (.imm l d' w es 0 0) := by
  intro ρ w' u hv; cases hv; exact .immEnd _ _ _ _ _ _ _ hr (fun _ => hk) hg
theorem Weaker.esl_part {l : Lv} {d' : Blk} {w es : Nat} (hr : d'.recKept) (hk : d'.kept = true) (hg : d'.foreign = true) : Weaker .esl (.imm l d' w es 0 0) := by
  intro ρ w' u hv; cases hv; exact .immEnd _ _ _ _ _ _ _ hr (fun _ => hk) hg

theorem WeakerL.get : ∀ {l1 l2 : List AV}, WeakerL l1 l2 → ∀ {x : Nat} {v : AV}, l2[x]? = some v → ∃ v0, l1[x]? = some v0 ∧ Weaker v0 v
  | _, _, .nil, x, v, h => by simp at h
  | _, _, .cons a t, 0, v, h => by simp at h; subst h; exact ⟨_, rfl, a⟩
  | _, _, .cons a t, x + 1, v, h => by
    obtain ⟨v0, h1, h2⟩ := WeakerL.get t (by simpa using h)
    exact ⟨v0, by simpa using h1, h2⟩

theorem Weaker.iptr_vs {lv : Lv} {l1 l2 : List AV} {k i j : Nat} (h : WeakerL l1 l2) (hk : keptAll l1 = true → keptAll l2 = true) (hg : foreignAll l1 = true → foreignAll l2 = true) : Weaker (.iptr lv (.vs l1) k i j) (.iptr lv (.vs l2) k i j) := by
  intro ρ w u hv
  cases hv with | iptr _ _ _ _ _ bl o u' ha hb hc hv' hr hk' hg' =>
  refine .iptr _ _ _ _ _ bl o u' ha hb (fun x v hx => ?_) (fun x v hx => ?_) trivial (fun q => hk (hk' q)) (hg hg')
  · obtain ⟨v0, h1, h2⟩ := h.get hx
    exact hc x v0 h1
  · obtain ⟨v0, h1, h2⟩ := h.get hx
    exact h2 _ _ _ (hv' x v0 h1)

theorem Weaker.fn {f : Fn} {a b a' b' : List AV} (h : WeakerL a a') (k : WeakerL b b') : Weaker (.fn f a b) (.fn f a' b') := by
  intro ρ w u hv
  cases hv with | fn _ _ _ c1 c2 h1 h2 => exact .fn _ _ _ _ _ (h.vrs h1) (k.vrs h2)
theorem Weaker.iface {t : TypeId} {a b : AV} (h : Weaker a b) : Weaker (.iface t a) (.iface t b) := by
  intro ρ w u hv
  cases hv with | iface _ _ u h1 => exact .iface _ _ _ (h _ _ _ h1)
theorem Weaker.any (v : AV) : Weaker v .any := fun _ _ u _ => .any u

/-- A column's kind. -/
inductive CK where
  | cf
  | ci (k : IntKind)
  | cb
  | cs
  | cfl
  | cns (k : IntKind)

def CK.Ty : CK → Type
  | .cf => List Nat
  | .ci _ => List Int
  | .cb => List Bool
  | .cs => List ByteArray
  | .cfl => List (List Nat)
  | .cns _ => List (List Int)

def CK.fit : (k : CK) → (o n : Nat) → Col → Option k.Ty
  | .cf, o, n, .cf xs => some (cutL o n xs)
  | .ci k, o, n, .ci k' xs => bif sameK k k' then some (cutL o n xs) else none
  | .cb, o, n, .cb xs => some (cutL o n xs)
  | .cs, o, n, .cs xs => some (cutL o n xs)
  | .cfl, o, n, .cfl xs => some (cutL o n xs)
  | .cns k, o, n, .cns k' xs => bif sameK k k' then some (cutL o n xs) else none
  | _, _, _, _ => none
def CK.emp : (k : CK) → k.Ty
  | .cf => ([] : List Nat)
  | .ci _ => ([] : List Int)
  | .cb => ([] : List Bool)
  | .cs => ([] : List ByteArray)
  | .cfl => ([] : List (List Nat))
  | .cns _ => ([] : List (List Int))
def CK.col : (k : CK) → k.Ty → Col
  | .cf, xs => .cf xs
  | .ci k, xs => .ci k xs
  | .cb, xs => .cb xs
  | .cs, xs => .cs xs
  | .cfl, xs => .cfl xs
  | .cns k, xs => .cns k xs

theorem sameK_iff {a b : IntKind} : sameK a b = true ↔ a = b := by simp [sameK]

theorem map_cut {α : Type} {f : α → AV} {o n i : Nat} {xs : List α} {v : AV} (h : ((cutL o n xs)[i]?).map f = some v) : (xs[o + i]?).map f = some v := by
  simp only [Option.map_eq_some_iff] at h ⊢
  obtain ⟨y, h1, h2⟩ := h
  exact ⟨y, cutL_get h1, h2⟩

theorem CK.fit_spec : ∀ {k : CK} {o n : Nat} {c : Col} {t : k.Ty}, k.fit o n c = some t → (o + n ≤ c.len → (k.col t).len = n) ∧ ∀ i v, (k.col t).cell? i = some v → c.cell? (o + i) = some v := by
  intro k o n c t h
  cases k <;> cases c <;> simp only [CK.fit] at h <;> try (cases h; done)
  case cf.cf xs => cases h; exact ⟨fun q => cutL_len q, fun i v q => map_cut q⟩
  case ci.ci k k' xs =>
    cases e : sameK k k' with
    | false => rw [e] at h; cases h
    | true => rw [e] at h; cases h; cases (sameK_iff.1 e); exact ⟨fun q => cutL_len q, fun i v q => map_cut q⟩
  case cb.cb xs => cases h; exact ⟨fun q => cutL_len q, fun i v q => map_cut q⟩
  case cs.cs xs => cases h; exact ⟨fun q => cutL_len q, fun i v q => map_cut q⟩
  case cfl.cfl xs => cases h; exact ⟨fun q => cutL_len q, fun i v q => map_cut q⟩
  case cns.cns k k' xs =>
    cases e : sameK k k' with
    | false => rw [e] at h; cases h
    | true => rw [e] at h; cases h; cases (sameK_iff.1 e); exact ⟨fun q => cutL_len q, fun i v q => map_cut q⟩

theorem CK.emp_len : ∀ (k : CK), (k.col k.emp).len = 0 := by intro k; cases k <;> rfl

def CKs.Ty : List CK → Type
  | [] => Unit
  | k :: l => k.Ty × CKs.Ty l
def CKs.fit : (l : List CK) → (o n : Nat) → List Col → Option (CKs.Ty l)
  | [], _, _, [] => some ()
  | k :: l, o, n, c :: cs => (k.fit o n c).bind fun t => (CKs.fit l o n cs).map fun r => (t, r)
  | _, _, _, _ => none
def CKs.emp : (l : List CK) → CKs.Ty l
  | [] => ()
  | k :: l => (k.emp, CKs.emp l)
def CKs.cols : (l : List CK) → CKs.Ty l → List Col
  | [], _ => []
  | k :: l, t => k.col t.1 :: CKs.cols l t.2

theorem CKs.len : ∀ {l : List CK} {t : CKs.Ty l}, (CKs.cols l t).length = l.length
  | [], t => rfl
  | k :: l, t => by simp [CKs.cols, CKs.len]

theorem CKs.fit_len : ∀ {l : List CK} {o n : Nat} {cs : List Col} {t : CKs.Ty l}, CKs.fit l o n cs = some t → cs.length = l.length
  | [], o, n, [], t, h => rfl
  | [], o, n, c :: cs, t, h => by simp [CKs.fit] at h
  | k :: l, o, n, [], t, h => by simp [CKs.fit] at h
  | k :: l, o, n, c :: cs, t, h => by
    simp only [CKs.fit] at h
    cases e1 : k.fit o n c with
    | none => rw [e1] at h; cases h
    | some a =>
      rw [e1] at h
      cases e2 : CKs.fit l o n cs with
      | none => simp only [Option.bind_some, e2] at h; cases h
      | some b => simp [CKs.fit_len e2]

theorem CKs.fit_spec : ∀ {l : List CK} {o n : Nat} {cs : List Col} {t : CKs.Ty l}, CKs.fit l o n cs = some t → ∀ (j : Nat) (c' : Col), (CKs.cols l t)[j]? = some c' → ∃ c : Col, cs[j]? = some c ∧ (o + n ≤ c.len → c'.len = n) ∧ ∀ i v, c'.cell? i = some v → c.cell? (o + i) = some v
  | [], o, n, cs, t, h, j, c', q => by simp [CKs.cols] at q
  | k :: l, o, n, [], t, h, j, c', q => by simp [CKs.fit] at h
  | k :: l, o, n, c :: cs, t, h, j, c', q => by
    simp only [CKs.fit] at h
    cases e1 : k.fit o n c with
    | none => rw [e1] at h; cases h
    | some a =>
      rw [e1] at h
      cases e2 : CKs.fit l o n cs with
      | none => simp only [Option.bind_some, e2] at h; cases h
      | some b =>
        simp only [Option.bind_some, e2] at h
        cases h
        cases j with
        | zero => simp [CKs.cols] at q; subst q; exact ⟨c, rfl, CK.fit_spec e1⟩
        | succ j => exact CKs.fit_spec e2 j c' (by simpa [CKs.cols] using q)

theorem CKs.emp_len : ∀ (l : List CK), ∀ c ∈ CKs.cols l (CKs.emp l), c.len = 0
  | [], c, h => by cases h
  | k :: l, c, h => by
    simp only [CKs.cols, CKs.emp, List.mem_cons] at h
    rcases h with rfl | h
    · exact CK.emp_len k
    · exact CKs.emp_len l c h

mutual
/-- A shape of a value. -/
inductive Pat where
  | int (k : IntKind)
  | flt (ex : Bool)
  | bool
  | kbool (b : Bool)
  | str
  | fl
  | ns (k : IntKind)
  | bs
  | ss
  | cols (l : List CK)
  | ivs (ps : Pats) (w i j : Nat)
  | fn (f : FuncId) (a b : Pats)
  | nfn
  | nptr
  | agg (ps : Pats)
  | tup (ps : Pats)
  | iface (t : TypeId) (p : Pat)
  | niface
  | any
inductive Pats where
  | nil
  | cons (p : Pat) (ps : Pats)
end

mutual
def Pat.Ty : Pat → Type
  | .int _ => Int
  | .flt _ => Nat
  | .bool => Bool
  | .str => ByteArray
  | .fl => Lv × List Nat
  | .ns _ => Lv × List Int
  | .bs => Lv × List Bool
  | .ss => Lv × List ByteArray
  | .cols l => Lv × Nat × CKs.Ty l
  | .ivs ps _ _ _ => Lv × ps.Ty
  | .fn _ a b => a.Ty × b.Ty
  | .agg ps => ps.Ty
  | .tup ps => ps.Ty
  | .iface _ p => p.Ty
  | .kbool _ => Unit
  | .nfn => Unit
  | .nptr => Unit
  | .niface => Unit
  | .any => Unit
def Pats.Ty : Pats → Type
  | .nil => Unit
  | .cons p ps => p.Ty × ps.Ty
end

mutual
def Pat.av : (p : Pat) → p.Ty → AV
  | .int k, n => .int k n
  | .flt ex, x => .flt ex x
  | .bool, b => .bool false b
  | .str, s => .str s
  | .fl, t => .imm t.1 (.fl t.2) 1 1 0 t.2.length
  | .ns k, t => .imm t.1 (.ns k t.2) 1 1 0 t.2.length
  | .bs, t => .imm t.1 (.bs t.2) 1 1 0 t.2.length
  | .ss, t => .imm t.1 (.ss t.2) 1 1 0 t.2.length
  | .cols l, t => .imm t.1 (.cols t.2.1 (CKs.cols l t.2.2)) l.length l.length 0 t.2.1
  | .ivs ps w i j, t => .iptr t.1 (.vs (ps.avs t.2)) w i j
  | .fn f a b, t => .fn (.func f) (a.avs t.1) (b.avs t.2)
  | .agg ps, t => .agg (ps.avs t)
  | .tup ps, t => .tup (ps.avs t)
  | .iface y p, t => .iface y (p.av t)
  | .kbool b, _ => .bool true b
  | .nfn, _ => .nfn
  | .nptr, _ => .nptr
  | .niface, _ => .niface
  | .any, _ => .any
def Pats.avs : (ps : Pats) → ps.Ty → List AV
  | .nil, _ => []
  | .cons p ps, t => p.av t.1 :: ps.avs t.2
end

def boolEq (a b : Bool) : Bool := bif a then b else !b
theorem boolEq_iff {a b : Bool} : boolEq a b = true ↔ a = b := by cases a <;> cases b <;> simp [boolEq]

def CKs.ok (n : Nat) (m : Nat) : Bool := Nat.ble n m

def fitInt (k : IntKind) : AV → Option (Int × List Bool)
  | .int k' n => bif sameK k k' then some (n, []) else none
  | _ => none
def fitFlt (ex : Bool) : AV → Option (Nat × List Bool)
  | .flt ex' x => bif ex && !ex' then none else some (x, [])
  | _ => none
def fitBool : AV → Option (Bool × List Bool)
  | .bool kn b => bif kn then none else some (b, [])
  | _ => none
def fitKbool (b : Bool) : AV → Option (Unit × List Bool)
  | .bool kn b' => bif kn && boolEq b b' then some ((), []) else none
  | _ => none
def fitStr : AV → Option (ByteArray × List Bool)
  | .str s => some (s, [])
  | _ => none
def fitSl {α : Type} (f : Blk → Option (List α)) : AV → Option ((Lv × List α) × List Bool)
  | .imm l d w es o n => (f d).bind fun xs => bif Nat.beq w 1 && Nat.beq es 1 then some ((l, cutL o n xs), [slOk o n xs]) else none
  | .nsl => some ((.free, []), [])
  | .esl => some ((.free, []), [])
  | _ => none
def blkFl : Blk → Option (List Nat)
  | .fl xs => some xs
  | _ => none
def blkNs (k : IntKind) : Blk → Option (List Int)
  | .ns k' xs => bif sameK k k' then some xs else none
  | _ => none
def blkBs : Blk → Option (List Bool)
  | .bs xs => some xs
  | _ => none
def blkSs : Blk → Option (List ByteArray)
  | .ss xs => some xs
  | _ => none
def blkVs : Blk → Option (List AV)
  | .vs xs => some xs
  | _ => none
def blkCols : Blk → Option (Nat × List Col)
  | .cols m cs => some (m, cs)
  | _ => none
def fitCols (ks : List CK) : AV → Option ((Lv × Nat × CKs.Ty ks) × List Bool)
  | .imm l d w es o n => (blkCols d).bind fun q => bif Nat.beq w ks.length && Nat.beq es ks.length then (CKs.fit ks o n q.2).map fun t => ((l, n, t), [Nat.ble (o + n) q.1]) else none
  | .nsl => some ((.free, 0, CKs.emp ks), [])
  | .esl => some ((.free, 0, CKs.emp ks), [])
  | _ => none
def avIvs (w i j : Nat) : AV → Option (Lv × List AV)
  | .iptr l d w' i' j' => (blkVs d).bind fun xs => bif Nat.beq w w' && (Nat.beq i i' && Nat.beq j j') then some (l, xs) else none
  | _ => none
def avFn (f : FuncId) : AV → Option (List AV × List AV)
  | .fn (.func f') x y => bif Nat.beq f f' then some (x, y) else none
  | _ => none
def avAgg : AV → Option (List AV)
  | .agg l => some l
  | _ => none
def avTup : AV → Option (List AV)
  | .tup l => some l
  | _ => none
def avIface (t : TypeId) : AV → Option AV
  | .iface t' v => bif Nat.beq t t' then some v else none
  | _ => none
def avNfn : AV → Option (Unit × List Bool)
  | .nfn => some ((), [])
  | _ => none
def avNptr : AV → Option (Unit × List Bool)
  | .nptr => some ((), [])
  | _ => none
def avNiface : AV → Option (Unit × List Bool)
  | .niface => some ((), [])
  | _ => none

mutual
/-- A value's open parts, where it is of this shape; with what must hold. -/
def Pat.fit : (p : Pat) → AV → Option (p.Ty × List Bool)
  | .int k => fitInt k
  | .flt ex => fitFlt ex
  | .bool => fitBool
  | .kbool b => fitKbool b
  | .str => fitStr
  | .fl => fitSl blkFl
  | .ns k => fitSl (blkNs k)
  | .bs => fitSl blkBs
  | .ss => fitSl blkSs
  | .cols ks => fitCols ks
  | .ivs ps w i j => fun v => match avIvs w i j v with
    | some q => match ps.fit q.2 with
      | some r => some ((q.1, r.1), r.2)
      | none => none
    | none => none
  | .fn f a b => fun v => match avFn f v with
    | some q => match a.fit q.1 with
      | some r => match b.fit q.2 with
        | some s => some ((r.1, s.1), r.2 ++ s.2)
        | none => none
      | none => none
    | none => none
  | .agg ps => fun v => match avAgg v with
    | some l => ps.fit l
    | none => none
  | .tup ps => fun v => match avTup v with
    | some l => ps.fit l
    | none => none
  | .iface t p => fun v => match avIface t v with
    | some u => p.fit u
    | none => none
  | .nfn => avNfn
  | .nptr => avNptr
  | .niface => avNiface
  | .any => fun _ => some ((), [])
def Pats.fit : (ps : Pats) → List AV → Option (ps.Ty × List Bool)
  | .nil => fun l => match l with
    | [] => some ((), [])
    | _ :: _ => none
  | .cons p ps => fun l => match l with
    | [] => none
    | v :: l => match p.fit v with
      | some r => match ps.fit l with
        | some s => some ((r.1, s.1), r.2 ++ s.2)
        | none => none
      | none => none
end

theorem boolEqL {a b c : Bool} : (a && b) = true ↔ a = true ∧ b = true := Bool.and_eq_true_iff

theorem cols_part {ks : List CK} {o n m : Nat} {cs : List Col} {t : CKs.Ty ks} (h : CKs.fit ks o n cs = some t) : ∀ x v, (Blk.cols n (CKs.cols ks t)).cell? x = some v → (Blk.cols m cs).cell? (o * ks.length + x) = some v := by
  intro x v hx
  have hl := CKs.fit_len h
  obtain ⟨c', h1, _, h3⟩ := Blk.cols_cell hx
  obtain ⟨c, q1, _, q3⟩ := CKs.fit_spec h _ _ h1
  rw [CKs.len] at h1 h3 q1
  have hpos : 0 < ks.length := by
    have := (List.getElem?_eq_some_iff.1 q1).1
    omega
  simp only [Blk.cell?, hl, Option.bind_eq_some_iff]
  refine ⟨c, ?_, ?_⟩
  · rw [Nat.add_comm, Nat.add_mul_mod_self_right]; exact q1
  · rw [Nat.add_comm, Nat.add_mul_div_right _ _ hpos, Nat.add_comm]; exact q3 _ _ h3


/-- The second one says no more, and names no more. -/
structure Wk (v v' : AV) : Prop where
  weak : Weaker v v'
  kept : v.kept = true → v'.kept = true
  foreign : v.foreign = true → v'.foreign = true
structure WkL (v v' : List AV) : Prop where
  weak : WeakerL v v'
  kept : keptAll v = true → keptAll v' = true
  foreign : foreignAll v = true → foreignAll v' = true

theorem Wk.refl (v : AV) : Wk v v := ⟨Weaker.refl v, id, id⟩
theorem Wk.fltL (x : Nat) : Wk (.flt true x) (.flt false x) := ⟨fun ρ w u h => (by
  cases h with | flt _ _ y hf =>
  rcases hf with rfl | ⟨q, _⟩
  · exact .flt _ _ _ (.inl rfl)
  · cases q), id, id⟩
theorem WkL.cons {v v' : AV} {l l' : List AV} (h : Wk v v') (k : WkL l l') : WkL (v :: l) (v' :: l') :=
  ⟨.cons h.weak k.weak, fun q => by simp only [keptAll, Bool.and_eq_true] at q ⊢; exact ⟨h.kept q.1, k.kept q.2⟩, fun q => by simp only [foreignAll, Bool.and_eq_true] at q ⊢; exact ⟨h.foreign q.1, k.foreign q.2⟩⟩

theorem Wk.part {l : Lv} {d d' : Blk} {w es o n : Nat} (h : ∀ x v, d'.cell? x = some v → d.cell? (o * w + x) = some v) (hr : d.recKept → d'.recKept) (hk : d'.kept = true) (hg : d'.foreign = true) : Wk (.imm l d w es o n) (.imm l d' w es 0 n) :=
  ⟨Weaker.imm_part h hr hk hg, id, id⟩
theorem Wk.nsl {d' : Blk} {w es : Nat} (hr : d'.recKept) (hk : d'.kept = true) (hg : d'.foreign = true) : Wk .nsl (.imm .free d' w es 0 0) := ⟨Weaker.nsl_part hr hk hg, id, id⟩
theorem Wk.esl {d' : Blk} {w es : Nat} (hr : d'.recKept) (hk : d'.kept = true) (hg : d'.foreign = true) : Wk .esl (.imm .free d' w es 0 0) := ⟨Weaker.esl_part hr hk hg, id, id⟩

theorem Wk.fl {l : Lv} {xs : List Nat} {o n : Nat} (h : slOk o n xs = true) : Wk (.imm l (.fl xs) 1 1 o n) (.imm l (.fl (cutL o n xs)) 1 1 0 (cutL o n xs).length) := by
  rw [cutL_len (slOk_iff.1 h)]; exact .part (fun x v q => by rw [Nat.mul_one]; exact map_cut q) (fun _ => trivial) rfl rfl
theorem Wk.ns {k : IntKind} {l : Lv} {xs : List Int} {o n : Nat} (h : slOk o n xs = true) : Wk (.imm l (.ns k xs) 1 1 o n) (.imm l (.ns k (cutL o n xs)) 1 1 0 (cutL o n xs).length) := by
  rw [cutL_len (slOk_iff.1 h)]; exact .part (fun x v q => by rw [Nat.mul_one]; exact map_cut q) (fun _ => trivial) rfl rfl
theorem Wk.bs {l : Lv} {xs : List Bool} {o n : Nat} (h : slOk o n xs = true) : Wk (.imm l (.bs xs) 1 1 o n) (.imm l (.bs (cutL o n xs)) 1 1 0 (cutL o n xs).length) := by
  rw [cutL_len (slOk_iff.1 h)]; exact .part (fun x v q => by rw [Nat.mul_one]; exact map_cut q) (fun _ => trivial) rfl rfl
theorem Wk.ss {l : Lv} {xs : List ByteArray} {o n : Nat} (h : slOk o n xs = true) : Wk (.imm l (.ss xs) 1 1 o n) (.imm l (.ss (cutL o n xs)) 1 1 0 (cutL o n xs).length) := by
  rw [cutL_len (slOk_iff.1 h)]; exact .part (fun x v q => by rw [Nat.mul_one]; exact map_cut q) (fun _ => trivial) rfl rfl

theorem cols_rec {ks : List CK} {o n m : Nat} {cs : List Col} {t : CKs.Ty ks} (h : CKs.fit ks o n cs = some t) (hm : o + n ≤ m) : (Blk.cols m cs).recKept → (Blk.cols n (CKs.cols ks t)).recKept := by
  intro hr c hc
  obtain ⟨j, hj⟩ := List.getElem?_of_mem hc
  obtain ⟨c0, q1, q2, _⟩ := CKs.fit_spec h j c hj
  exact q2 (by rw [hr c0 (List.mem_of_getElem? q1)]; exact hm)

theorem beq2 {w es n : Nat} (h : (Nat.beq w n && Nat.beq es n) = true) : w = n ∧ es = n := by
  rw [Bool.and_eq_true] at h; exact ⟨Nat.eq_of_beq_eq_true h.1, Nat.eq_of_beq_eq_true h.2⟩

theorem someP {α : Type} {a t : α} {b o : List Bool} (h : some (a, b) = some (t, o)) : a = t ∧ b = o := by
  simp only [Option.some.injEq, Prod.mk.injEq] at h; exact h

theorem bifS {α : Type} {c : Bool} {a : α} {x : α} (h : (bif c then some a else none) = some x) : c = true ∧ a = x := by
  cases c with
  | true => exact ⟨rfl, by simpa using h⟩
  | false => cases h
theorem bifN {α : Type} {c : Bool} {a : Option α} {x : α} (h : (bif c then a else none) = some x) : c = true ∧ a = some x := by
  cases c with
  | true => exact ⟨rfl, h⟩
  | false => cases h

theorem fitSl_spec {α : Type} {f : Blk → Option (List α)} {g : List α → Blk} (hg : ∀ {d xs}, f d = some xs → d = g xs)
    (hw : ∀ {l xs o n}, slOk o n xs = true → Wk (.imm l (g xs) 1 1 o n) (.imm l (g (cutL o n xs)) 1 1 0 (cutL o n xs).length)) (h0 : (g []).recKept ∧ (g []).kept = true ∧ (g []).foreign = true)
    {v : AV} {t : Lv × List α} {o : List Bool} (h : fitSl f v = some (t, o)) (ho : allTrue o) : Wk v (.imm t.1 (g t.2) 1 1 0 t.2.length) := by
  unfold fitSl at h
  split at h
  · rename_i l d w es i n
    cases e : f d with
    | none => rw [e] at h; cases h
    | some xs =>
      rw [e] at h
      obtain ⟨e2, h⟩ := bifS h
      obtain ⟨rfl, rfl⟩ := beq2 e2
      cases h; cases hg e; exact hw ho.1
  · cases h; exact .nsl h0.1 h0.2.1 h0.2.2
  · cases h; exact .esl h0.1 h0.2.1 h0.2.2
  · cases h

theorem fitCols_spec {ks : List CK} {v : AV} {t : Lv × Nat × CKs.Ty ks} {o : List Bool} (h : fitCols ks v = some (t, o)) (ho : allTrue o) : Wk v (.imm t.1 (.cols t.2.1 (CKs.cols ks t.2.2)) ks.length ks.length 0 t.2.1) := by
  unfold fitCols at h
  split at h
  · rename_i l d w es i n
    cases d <;> simp only [blkCols, Option.bind_none, Option.bind_some, reduceCtorEq] at h
    rename_i m cs
    have e := (bifN h).1; replace h := (bifN h).2
    obtain ⟨rfl, rfl⟩ := beq2 e
    cases e2 : CKs.fit ks i n cs with
    | none => rw [e2] at h; cases h
    | some r =>
      rw [e2] at h; cases h
      have : i + n ≤ m := Nat.le_of_ble_eq_true ho.1
      exact .part (cols_part e2) (cols_rec e2 this) rfl rfl
  · cases h; exact .nsl (CKs.emp_len ks) rfl rfl
  · cases h; exact .esl (CKs.emp_len ks) rfl rfl
  · cases h

mutual
theorem Pat.fit_spec : ∀ (p : Pat) (v : AV) {t : p.Ty} {o : List Bool}, p.fit v = some (t, o) → allTrue o → Wk v (p.av t)
  | .int k, v, t, o, h, ho => by
    simp only [Pat.fit, fitInt] at h
    split at h
    · obtain ⟨e, h⟩ := bifS h
      cases h; cases sameK_iff.1 e; exact .refl _
    · cases h
  | .flt ex, v, t, o, h, ho => by
    simp only [Pat.fit, fitFlt] at h
    split at h
    · rename_i ex' x
      cases ex with
      | true =>
        cases ex' with
        | true => cases h; exact .refl _
        | false => cases h
      | false =>
        cases ex' with
        | true => cases h; exact .fltL x
        | false => cases h; exact .refl _
    · cases h
  | .bool, v, t, o, h, ho => by
    simp only [Pat.fit, fitBool] at h
    split at h
    · rename_i kn b
      cases kn with
      | true => cases h
      | false => cases h; exact .refl _
    · cases h
  | .kbool b, v, t, o, h, ho => by
    simp only [Pat.fit, fitKbool] at h
    split at h
    · obtain ⟨e, h⟩ := bifS h
      rw [Bool.and_eq_true] at e
      cases e.1; cases boolEq_iff.1 e.2; exact .refl _
    · cases h
  | .str, v, t, o, h, ho => by
    simp only [Pat.fit, fitStr] at h
    split at h
    · cases h; exact .refl _
    · cases h
  | .fl, v, t, o, h, ho => fitSl_spec (g := .fl) (f := blkFl) (fun {d xs} e => by cases d <;> cases e; rfl) (fun q => .fl q) ⟨trivial, rfl, rfl⟩ h ho
  | .ns k, v, t, o, h, ho => fitSl_spec (g := .ns k) (f := blkNs k) (fun {d xs} e => by
      cases d <;> try (cases e; done)
      have e1 := (bifS e).1; replace e := (bifS e).2
      cases sameK_iff.1 e1; cases e; rfl) (fun q => .ns q) ⟨trivial, rfl, rfl⟩ h ho
  | .bs, v, t, o, h, ho => fitSl_spec (g := .bs) (f := blkBs) (fun {d xs} e => by cases d <;> cases e; rfl) (fun q => .bs q) ⟨trivial, rfl, rfl⟩ h ho
  | .ss, v, t, o, h, ho => fitSl_spec (g := .ss) (f := blkSs) (fun {d xs} e => by cases d <;> cases e; rfl) (fun q => .ss q) ⟨trivial, rfl, rfl⟩ h ho
  | .cols ks, v, t, o, h, ho => fitCols_spec h ho
  | .ivs ps w i j, v, t, o, h, ho => by
    simp only [Pat.fit] at h
    split at h
    case h_2 => cases h
    rename_i q hq
    split at h
    case h_2 => cases h
    rename_i r hr
    cases h
    unfold avIvs at hq
    split at hq
    case h_2 => cases hq
    rename_i l d w' i' j'
    cases d <;> simp only [blkVs, Option.bind_none, Option.bind_some, reduceCtorEq] at hq
    rename_i xs
    have e := (bifS hq).1; replace hq := (bifS hq).2
    rw [Bool.and_eq_true, Bool.and_eq_true] at e
    cases Nat.eq_of_beq_eq_true e.1
    cases Nat.eq_of_beq_eq_true e.2.1
    cases Nat.eq_of_beq_eq_true e.2.2
    cases hq
    have := Pats.fit_spec ps xs hr ho
    exact ⟨Weaker.iptr_vs this.weak this.kept this.foreign, id, id⟩
  | .fn f a b, v, t, o, h, ho => by
    simp only [Pat.fit] at h
    split at h
    case h_2 => cases h
    rename_i q hq
    split at h
    case h_2 => cases h
    rename_i r hr
    split at h
    case h_2 => cases h
    rename_i s hs
    cases h
    unfold avFn at hq
    split at hq
    case h_2 => cases hq
    have e := (bifS hq).1; replace hq := (bifS hq).2
    cases Nat.eq_of_beq_eq_true e
    cases hq
    rw [allTrue_append] at ho
    have h1 := Pats.fit_spec a _ hr ho.1
    have h2 := Pats.fit_spec b _ hs ho.2
    refine ⟨Weaker.fn h1.weak h2.weak, fun q => ?_, fun q => ?_⟩
    · simp only [Pat.av, AV.kept, Bool.and_eq_true] at q ⊢; exact ⟨h1.kept q.1, h2.kept q.2⟩
    · simp only [Pat.av, AV.foreign, Bool.and_eq_true] at q ⊢; exact ⟨h1.foreign q.1, h2.foreign q.2⟩
  | .agg ps, v, t, o, h, ho => by
    simp only [Pat.fit] at h
    split at h
    case h_2 => cases h
    rename_i l hl
    cases v <;> simp only [avAgg, reduceCtorEq, Option.some.injEq] at hl
    subst hl
    have := Pats.fit_spec ps _ h ho
    exact ⟨Weaker.agg this.weak, this.kept, this.foreign⟩
  | .tup ps, v, t, o, h, ho => by
    simp only [Pat.fit] at h
    split at h
    case h_2 => cases h
    rename_i l hl
    cases v <;> simp only [avTup, reduceCtorEq, Option.some.injEq] at hl
    subst hl
    have := Pats.fit_spec ps _ h ho
    exact ⟨Weaker.tup this.weak, this.kept, this.foreign⟩
  | .iface y p, v, t, o, h, ho => by
    simp only [Pat.fit] at h
    split at h
    case h_2 => cases h
    rename_i u hu
    unfold avIface at hu
    split at hu
    case h_2 => cases hu
    have e := (bifS hu).1; replace hu := (bifS hu).2
    cases Nat.eq_of_beq_eq_true e
    subst hu
    have := Pat.fit_spec p _ h ho
    exact ⟨Weaker.iface this.weak, this.kept, this.foreign⟩
  | .nfn, v, t, o, h, ho => by
    cases v <;> simp only [Pat.fit, avNfn, reduceCtorEq] at h
    exact .refl _
  | .nptr, v, t, o, h, ho => by
    cases v <;> simp only [Pat.fit, avNptr, reduceCtorEq] at h
    exact .refl _
  | .niface, v, t, o, h, ho => by
    cases v <;> simp only [Pat.fit, avNiface, reduceCtorEq] at h
    exact .refl _
  | .any, v, t, o, h, ho => ⟨Weaker.any v, fun _ => rfl, fun _ => rfl⟩
theorem Pats.fit_spec : ∀ (ps : Pats) (l : List AV) {t : ps.Ty} {o : List Bool}, ps.fit l = some (t, o) → allTrue o → WkL l (ps.avs t)
  | .nil, [], t, o, h, ho => ⟨.nil, id, id⟩
  | .nil, v :: l, t, o, h, ho => by simp [Pats.fit] at h
  | .cons p ps, [], t, o, h, ho => by simp [Pats.fit] at h
  | .cons p ps, v :: l, t, o, h, ho => by
    simp only [Pats.fit] at h
    split at h
    case h_2 => cases h
    rename_i r hr
    split at h
    case h_2 => cases h
    rename_i s hs
    cases h
    rw [allTrue_append] at ho
    exact .cons (Pat.fit_spec p v hr ho.1) (Pats.fit_spec ps l hs ho.2)
end

/-- An entry by shape. -/
def autoE (f : FuncId) (ps : Pats) (alts : ps.Ty → List EAlt) : Entry :=
  ⟨f, fun L args => match L with
    | [] => match ps.fit args with
      | some r => some ((alts r.1).map fun a => ⟨a.out, r.2 ++ a.obs⟩)
      | none => none
    | _ => none⟩

theorem autoE_ok {P : Program} {f : FuncId} {ps : Pats} {alts : ps.Ty → List EAlt} (h : ∀ t, ∀ a ∈ alts t, allTrue a.obs → Contract P f [] (ps.avs t) a.out) : EntryOk P (autoE f ps alts) := by
  intro L args al a hal ha ho
  simp only [autoE] at hal
  split at hal
  case h_2 => cases hal
  split at hal
  case h_2 => cases hal
  rename_i r hr
  obtain ⟨t, o⟩ := r
  simp only [Option.some.injEq] at hal
  subst hal
  simp only [List.mem_map] at ha
  obtain ⟨b, hb, rfl⟩ := ha
  simp only [allTrue_append] at ho
  exact (h t b hb ho.2).args (Pats.fit_spec ps args hr ho.1).weak

theorem altsNil {P : Program} {f : FuncId} {l : List AV} : ∀ a ∈ ([] : List EAlt), allTrue a.obs → Contract P f [] l a.out := fun a h => by cases h
theorem altsCons {P : Program} {f : FuncId} {l : List AV} {o : Out} {b : Bool} {al : List EAlt} (h : b = true → Contract P f [] l o) (t : ∀ a ∈ al, allTrue a.obs → Contract P f [] l a.out) : ∀ a ∈ (⟨o, [b]⟩ : EAlt) :: al, allTrue a.obs → Contract P f [] l a.out := by
  intro a ha ho
  rcases List.mem_cons.1 ha with rfl | ha
  · exact h ho.1
  · exact t a ha ho
end Go.Plb

/-
  THE LAW's FRAME: lists of structs, as columns.
-/
namespace Go.Plb
open Go.ChangeShapes Go.WideShapes Go.ChangeAt Go.RowKit Go.Deep
set_option linter.unusedSimpArgs false
set_option linter.unusedVariables false

def FA.n : FA → Nat
  | .f x => x
  | _ => 0
def FA.z : FA → Int
  | .i _ n => n
  | _ => 0
def FA.bb : FA → Bool
  | .b x => x
  | _ => false
def FA.ss : FA → ByteArray
  | .s x => x
  | _ => ByteArray.empty
def FA.lf : FA → List Nat
  | .fl x => x
  | _ => []
def FA.lz : FA → List Int
  | .ns _ x => x
  | _ => []

def colOf (ft : FT) (g : Nat → FA) (n : Nat) : Col :=
  match ft with
  | .i k => .ci k ((List.range n).map fun i => (g i).z)
  | .f => .cf ((List.range n).map fun i => (g i).n)
  | .s => .cs ((List.range n).map fun i => (g i).ss)
  | .b => .cb ((List.range n).map fun i => (g i).bb)
  | .fl => .cfl ((List.range n).map fun i => (g i).lf)
  | .ns k => .cns k ((List.range n).map fun i => (g i).lz)

theorem flt_loose {ρ : Place} {w : World} {x : Nat} {u : Value} (h : VR ρ w (.flt true x) u) : VR ρ w (.flt false x) u := (Wk.fltL x).weak ρ w u h
theorem range_map_get {α : Type} {f : Nat → α} {h : α → AV} {n i : Nat} {v : AV} (q : (((List.range n).map f)[i]?).map h = some v) : i < n ∧ v = h (f i) := by
  simp only [Option.map_eq_some_iff] at q
  obtain ⟨y, h1, h2⟩ := q
  obtain ⟨a, rfl⟩ := list_range_get _ _ _ _ h1
  exact ⟨a, h2.symm⟩

theorem colOf_len (ft : FT) (g : Nat → FA) (n : Nat) : (colOf ft g n).len = n := by cases ft <;> simp [colOf, Col.len]
theorem colOf_cell {ft : FT} {g : Nat → FA} {n i : Nat} {v : AV} (h : (colOf ft g n).cell? i = some v) (hg : i < n → (g i).has ft) : i < n ∧ Weaker (g i).av v := by
  cases ft <;> simp only [colOf, Col.cell?] at h <;> obtain ⟨h1, h2⟩ := range_map_get h <;> have := hg h1 <;> refine ⟨h1, ?_⟩ <;> rw [h2] <;> clear h2 h hg <;> generalize g i = a at this ⊢ <;> cases a <;> simp only [FA.has] at this <;> first | exact Weaker.refl _ | (obtain ⟨rfl, _⟩ := this; exact Weaker.refl _) | exact (Wk.fltL _).weak

def colsOf (G : Nat → Nat → FA) (n : Nat) : List FT → Nat → List Col
  | [], _ => []
  | ft :: l, j => colOf ft (fun i => G i j) n :: colsOf G n l (j + 1)
theorem colsOf_len (G : Nat → Nat → FA) (n : Nat) : ∀ (l : List FT) (j : Nat), (colsOf G n l j).length = l.length
  | [], _ => rfl
  | ft :: l, j => by simp [colsOf, colsOf_len G n l]
theorem colsOf_get {G : Nat → Nat → FA} {n : Nat} : ∀ {l : List FT} {j k : Nat} {c : Col}, (colsOf G n l j)[k]? = some c → ∃ ft, l[k]? = some ft ∧ c = colOf ft (fun i => G i (j + k)) n
  | [], j, k, c, h => by simp [colsOf] at h
  | ft :: l, j, 0, c, h => by simp [colsOf] at h; exact ⟨ft, rfl, h.symm⟩
  | ft :: l, j, k + 1, c, h => by
    obtain ⟨ft', h1, h2⟩ := colsOf_get (l := l) (j := j + 1) (k := k) (by simpa [colsOf] using h)
    exact ⟨ft', by simpa using h1, by rw [h2]; congr 1; funext i; congr 1; omega⟩

theorem hasAll_len : ∀ {fts : List FT} {fas : List FA}, FA.hasAll fts fas → fas.length = fts.length
  | [], [], _ => rfl
  | [], _ :: _, h => h.elim
  | _ :: _, [], h => h.elim
  | _ :: _, _ :: _, h => by simp [hasAll_len h.2]
theorem hasAll_get : ∀ {fts : List FT} {fas : List FA}, FA.hasAll fts fas → ∀ {j : Nat} {ft : FT}, fts[j]? = some ft → ∃ a, fas[j]? = some a ∧ a.has ft
  | [], [], _, j, ft, q => by simp at q
  | [], _ :: _, h, _, _, _ => h.elim
  | _ :: _, [], h, _, _, _ => h.elim
  | t :: ts, a :: fas, h, 0, ft, q => by simp at q; subst q; exact ⟨a, rfl, h.1⟩
  | t :: ts, a :: fas, h, j + 1, ft, q => by
    obtain ⟨b, h1, h2⟩ := hasAll_get h.2 (by simpa using q)
    exact ⟨b, by simpa using h1, h2⟩
theorem avs_get : ∀ {fas : List FA} {j : Nat} {a : FA}, fas[j]? = some a → (FA.avs fas)[j]? = some a.av
  | [], j, a, h => by simp at h
  | b :: l, 0, a, h => by simp at h; subst h; rfl
  | b :: l, j + 1, a, h => by simpa [FA.avs] using avs_get (by simpa using h)
theorem vrs_get {ρ : Place} {w : World} : ∀ {l : List AV} {c : List Value}, VRs ρ w l c → ∀ {j : Nat} {v : AV}, l[j]? = some v → ∃ u, c[j]? = some u ∧ VR ρ w v u
  | _, _, .nil, j, v, h => by simp at h
  | _, _, .cons v u l c a t, 0, v', h => by simp at h; subst h; exact ⟨u, rfl, a⟩
  | _, _, .cons v u l c a t, j + 1, v', h => by
    obtain ⟨u', h1, h2⟩ := vrs_get t (by simpa using h)
    exact ⟨u', by simpa using h1, h2⟩

variable {H : Type} {enc : TypeId × Value → H} {P : Program} {W : World}

instance : Inhabited FA := ⟨.b false⟩

/-- A list of structs as an argument. -/
theorem open_rows {t e : TypeId} {fts : List FT} {v : Value} {d : DataW H} {p : List MemPlace} {base : Nat} (ht : P.underlying t = some (.slice e)) (he : stOf P e = some fts) (hw : fts.length = P.cellsOf e) (hpos : 0 < fts.length) (ho : Value.okWide P W .any base t v) (h : DataW.Trod enc P W 0 (fun _ => true) true t v d p) :
    ∃ (n : Nat) (G : Nat → Nat → FA), n ≤ maxLen ∧ (∀ i j ft, i < n → fts[j]? = some ft → (G i j).has ft) ∧ VR Place.none_ W (.imm .free (.cols n (colsOf G n fts 0)) fts.length fts.length 0 n) v := by
  obtain ⟨fuel, hf⟩ := h
  have hc : v.cells.toList = [v] := by
    have hne : ∀ c, v ≠ .agg c := by
      rintro c rfl
      unfold Value.okWide at ho
      rw [ht] at ho; simp [Cell.okWide, Cell.ok, ht] at ho
    cases v <;> first | rfl | exact (hne _ rfl).elim
  rw [hc] at hf
  have rk : ∀ (n : Nat) (G : Nat → Nat → FA), (Blk.cols n (colsOf G n fts 0)).recKept := by
    intro n G c hc
    obtain ⟨k, hk⟩ := List.getElem?_of_mem hc
    obtain ⟨ft, _, rfl⟩ := colsOf_get hk
    exact colOf_len _ _ _
  rcases open_slice ht hf with ⟨h1, _⟩ | ⟨a, len, cap, m, n, D, Pl, h1, hb, hl, hm, hmm, _, hx⟩
  · simp only [List.cons.injEq, and_true] at h1; subst h1
    exact ⟨0, fun _ _ => default, Nat.zero_le _, fun i j ft hi => absurd hi (Nat.not_lt_zero _), .immEnd _ _ _ _ _ _ _ (rk _ _) (fun _ => rfl) rfl⟩
  · simp only [List.cons.injEq, and_true] at h1; subst h1
    obtain ⟨F, hF⟩ := choose_lt (α := List FA) (n := len) (p := fun i fas => FA.hasAll fts fas ∧ ∃ cs, W.cells? 0 (a.add (i * P.cellsOf e)) (P.cellsOf e) = some cs ∧ VRs Place.none_ W (FA.avs fas) cs) (fun i hi => by
      obtain ⟨cs', q1, q2⟩ := hx i (by rw [hmm, if_pos rfl]; omega)
      obtain ⟨fas, q3, q4⟩ := open_stcells he q2
      exact ⟨fas, q3, cs', q1, q4⟩)
    refine ⟨len, fun i j => (F i).getD j default, by omega, fun i j ft hi hj => ?_, ?_⟩
    · obtain ⟨b, q1, q2⟩ := hasAll_get (hF i hi).1 hj
      simp only [List.getD_eq_getElem?_getD, q1, Option.getD_some]; exact q2
    · rcases Nat.eq_zero_or_pos len with rfl | hz
      · exact .immEnd _ _ _ _ _ _ _ (rk _ _) (fun _ => rfl) rfl
      · -- the cells
        have hcell0 : ∀ i j ft, i < len → fts[j]? = some ft → ∃ u, W.cell? ((a.add (i * P.cellsOf e)).add j) = some u ∧ VR Place.none_ W ((F i).getD j default).av u := by
          intro i j ft hi hj
          obtain ⟨k1, cs, k2, k3⟩ := hF i hi
          obtain ⟨b, q1, q2⟩ := hasAll_get k1 hj
          obtain ⟨u, q3, q4⟩ := vrs_get k3 (avs_get q1)
          obtain ⟨_, r1, r2⟩ := World.cells?_some k2
          refine ⟨u, ?_, ?_⟩
          · rw [r2 j (by have := (List.getElem?_eq_some_iff.1 hj).1; omega)]; exact q3
          · simp only [List.getD_eq_getElem?_getD, q1, Option.getD_some]; exact q4
        have hs : a.spot = none := by
          obtain ⟨ft, hft⟩ : ∃ ft, fts[0]? = some ft := ⟨_, List.getElem?_eq_getElem hpos⟩
          obtain ⟨u, q, _⟩ := hcell0 0 0 ft hz hft
          have e0 : (a.add (0 * P.cellsOf e)).add 0 = a := by simp [Addr.add]
          rw [e0] at q
          exact spot_of_cell q
        obtain ⟨bl, o, sp⟩ := a
        simp only at hs; subst hs
        have hcell : ∀ i j ft, i < len → fts[j]? = some ft → ∃ u, W.cell? ⟨bl, o + (i * fts.length + j), none⟩ = some u ∧ VR Place.none_ W ((F i).getD j default).av u := by
          intro i j ft hi hj
          obtain ⟨u, q1, q2⟩ := hcell0 i j ft hi hj
          rw [addr_add, addr_add, ← hw, Nat.add_assoc] at q1
          exact ⟨u, q1, q2⟩
        have hblk : ∀ x v, (Blk.cols len (colsOf (fun i j => (F i).getD j default) len fts 0)).cell? x = some v → ∃ u, W.cell? ⟨bl, o + x, none⟩ = some u ∧ VR Place.none_ W v u := by
          intro x v hv
          obtain ⟨c, q1, _, q3⟩ := Blk.cols_cell hv
          rw [colsOf_len] at q1 q3
          obtain ⟨ft, q4, rfl⟩ := colsOf_get q1
          rw [Nat.zero_add] at q3
          obtain ⟨q5, q6⟩ := colOf_cell q3 (fun hi => by
            obtain ⟨b, r1, r2⟩ := hasAll_get (hF _ hi).1 q4
            simp only [List.getD_eq_getElem?_getD, r1, Option.getD_some]; exact r2)
          obtain ⟨u, r1, r2⟩ := hcell _ _ _ q5 q4
          have ex : x / fts.length * fts.length + x % fts.length = x := by rw [Nat.mul_comm]; exact Nat.div_add_mod x _
          rw [ex] at r1
          exact ⟨u, r1, q6 _ _ _ r2⟩
        have hlt : bl < W.heap.size := by
          obtain ⟨ft, hft⟩ : ∃ ft, fts[0]? = some ft := ⟨_, List.getElem?_eq_getElem hpos⟩
          obtain ⟨u, q, _⟩ := hcell 0 0 ft hz hft
          exact lt_of_cell q
        have := VR.imm (ρ := Place.none_) (w := W) .free (.cols len (colsOf (fun i j => (F i).getD j default) len fts 0)) fts.length fts.length 0 len cap bl o (fun x => (W.cell? ⟨bl, o + x, none⟩).getD undef) (none_avoid _ _) hlt
          (fun x v hx' => by obtain ⟨u, q, _⟩ := hblk x v hx'; rw [q]; rfl) (fun x v hx' => by obtain ⟨u, q, r⟩ := hblk x v hx'; rw [q]; exact r) hl (rk _ _) (fun _ => rfl) rfl
        simpa using this

/-- A list of structs of a list of floats and a float. -/
theorem rows_flf {G : Nat → Nat → FA} {n : Nat} (hG : ∀ i j ft, i < n → [FT.fl, FT.f][j]? = some ft → (G i j).has ft) :
    ∃ (vs : List (List Nat)) (ts : List Nat), colsOf G n [.fl, .f] 0 = [.cfl vs, .cf ts] ∧ vs.length = n ∧ ts.length = n ∧ ∀ i, i < vs.length → (vs.getD i []).length ≤ maxLen := by
  refine ⟨_, _, rfl, by simp, by simp, fun i hi => ?_⟩
  simp only [List.length_map, List.length_range] at hi
  have := hG i 0 .fl hi rfl
  simp only [List.getD_eq_getElem?_getD, List.getElem?_map, List.getElem?_range hi, Option.map_some, Option.getD_some]
  revert this
  generalize G i (0 + 0) = a
  cases a <;> simp only [FA.has, FA.lf, false_imp_iff, List.length_nil, Nat.zero_le, imp_true_iff]
  exact fun h => h.1
end Go.Plb

/-
  THE SEAT: its functions by name; its context. Printed by seat.py.
-/
namespace Go.Plb.Seat
open Go Go.Plb Go.Proofs
noncomputable abbrev prog : Program := Try.prog
abbrev n_gosem_cut_init : FuncId := 2
abbrev n_law06_SmallNorms : FuncId := 3
abbrev n_law06_SmallEigen : FuncId := 4
abbrev n_law06_SmallSingular : FuncId := 5
abbrev n_law06_SmallLengths : FuncId := 6
abbrev n_law06_SmallGivens : FuncId := 7
abbrev n_law10_TridiagReduces : FuncId := 8
abbrev n_law10_TridiagTurns : FuncId := 9
abbrev n_law10_TridiagFull : FuncId := 10
abbrev n_law06_known : FuncId := 11
abbrev n_ref06_Same : FuncId := 12
abbrev n_small_Norm : FuncId := 13
abbrev n_ref06_Norm : FuncId := 14
abbrev n_small_Eigen : FuncId := 15
abbrev n_ref06_Eigen : FuncId := 16
abbrev n_small_Singular : FuncId := 17
abbrev n_ref06_Singular : FuncId := 18
abbrev n_small_Hypot : FuncId := 19
abbrev n_ref06_Hypot : FuncId := 20
abbrev n_small_Sign : FuncId := 21
abbrev n_ref06_Sign : FuncId := 22
abbrev n_small_Givens : FuncId := 23
abbrev n_ref06_Givens : FuncId := 24
abbrev n_small_Turn : FuncId := 25
abbrev n_law10_known : FuncId := 26
abbrev n_ref09_Copy : FuncId := 27
abbrev n_tridiag_Reduce : FuncId := 28
abbrev n_ref10_Wrong : FuncId := 29
abbrev n_ref09_Same : FuncId := 30
abbrev n_law10_sameTri : FuncId := 31
abbrev n_ref10_Reduce : FuncId := 32
abbrev n_ref06_SameAll : FuncId := 33
abbrev n_tridiag_Q : FuncId := 34
abbrev n_ref10_Q : FuncId := 35
abbrev n_tridiag_Full : FuncId := 36
abbrev n_ref10_May : FuncId := 37
abbrev n_tridiag_May : FuncId := 38
abbrev n_ref10_Full : FuncId := 39
abbrev n_math_Copysign : FuncId := 40
abbrev n_math_Float64bits : FuncId := 41
abbrev n_math_Abs : FuncId := 42
abbrev n_math_Sqrt : FuncId := 43
abbrev n_ref06_Abs : FuncId := 44
abbrev n_small_root : FuncId := 45
abbrev n_math_Float64frombits : FuncId := 46
abbrev n_ref10_One : FuncId := 47
abbrev n_slices_ContainsFunc : FuncId := 48
abbrev n_tridiag_infinite : FuncId := 49
abbrev n_slices_Clone : FuncId := 50
abbrev n_reflect_Make : FuncId := 51
abbrev n_tridiag_Reduce_1 : FuncId := 52
abbrev n_tridiag_sum : FuncId := 53
abbrev n_tridiag_Reduce_2 : FuncId := 54
abbrev n_tridiag_Reduce_3 : FuncId := 55
abbrev n_ref09_May : FuncId := 56
abbrev n_ref05_Wrong : FuncId := 57
abbrev n_ref09_Make : FuncId := 58
abbrev n_reflect_Left : FuncId := 59
abbrev n_ref09_Left : FuncId := 60
abbrev n_math_sqrt : FuncId := 61
abbrev n_slices_IndexFunc : FuncId := 62
abbrev n_math_IsNaN : FuncId := 63
abbrev n_math_IsInf : FuncId := 64
abbrev n_ref05_Finite : FuncId := 65
abbrev n_reflect_may : FuncId := 66
abbrev n_reflect_sum : FuncId := 67
abbrev n_reflect_Left_1 : FuncId := 68
noncomputable def FN (f : FuncId) : Func := (prog.funcs[f]?).getD default
noncomputable def BODY (f : FuncId) : Code := ((FN f).body).getD .skip
noncomputable def C0 : Ctx := ctxOf prog [(n_math_Float64bits, .bits), (n_math_Float64frombits, .frombits), (n_math_sqrt, .sqrt)] []
theorem ext_math_Float64bits : IsExt prog n_math_Float64bits .bits := ⟨FN n_math_Float64bits, by kernel_rfl, by kernel_rfl, by kernel_rfl, by kernel_rfl, by kernel_rfl⟩
theorem ext_math_Float64frombits : IsExt prog n_math_Float64frombits .frombits := ⟨FN n_math_Float64frombits, by kernel_rfl, by kernel_rfl, by kernel_rfl, by kernel_rfl, by kernel_rfl⟩
theorem ext_math_sqrt : IsExt prog n_math_sqrt .sqrt := ⟨FN n_math_sqrt, by kernel_rfl, by kernel_rfl, by kernel_rfl, by kernel_rfl, by kernel_rfl⟩
theorem mixed : prog.follows .mixedOrders = true := by kernel_rfl
theorem names : namesOk prog = true := by kernel_rfl
theorem C0_ok : C0.Ok := ctxOf_ok mixed names (by
  intro x hx
  simp only [List.mem_cons, List.not_mem_nil, or_false] at hx
  rcases hx with rfl | rfl | rfl
  · exact ext_math_Float64bits
  · exact ext_math_Float64frombits
  · exact ext_math_sqrt
  )
noncomputable def C0w : Ctx := { C0 with wrap := true }
theorem C0w_ok : C0w.Ok := ⟨C0_ok.mixed, C0_ok.enter, C0_ok.ext⟩
end Go.Plb.Seat

namespace Go.Plb.Seat
open Go Go.Plb
set_option linter.unusedSimpArgs false
set_option linter.unusedVariables false

noncomputable abbrev E0 : Sums := sumsOf []
theorem E0_ok : SumsOk prog E0 := sumsOf_nil prog

theorem c_AbsT (y : Nat) : Contract prog n_math_Abs [] [.flt true y] ⟨.flt true (fabs y), []⟩ := by
  have h : fnRun C0 E0 (runCode C0 E0 0 50) n_math_Abs [] [.flt true y] (some []) = some (⟨.flt true (bitsV .andNot .u64 (y : Int) 9223372036854775808).toNat, []⟩, [], some []) := by kernel_rfl
  have := Contract.run C0_ok E0_ok _ _ _ h trivial
  rw [abs_eq, Int.toNat_natCast] at this; exact this
theorem c_Abs (ex : Bool) (x : Nat) : Contract prog n_math_Abs [] [.flt ex x] ⟨.flt ex (fabs x), []⟩ := by
  cases ex with
  | true => exact c_AbsT x
  | false => exact Contract.exact1 (r := fun y => .flt true (fabs y)) c_AbsT (fun y hf ρ w u h => h.flt_weak (FR.abs hf))

theorem c_Abs6T (y : Nat) : Contract prog n_ref06_Abs [] [.flt true y] ⟨.flt true (fabs y), []⟩ := by
  have h : fnRun C0 E0 (runCode C0 E0 0 50) n_ref06_Abs [] [.flt true y] (some []) = some (⟨.flt true ((IntKind.u64.wrap ((y : Int) * 2 ^ min (Int.toNat 1) IntKind.u64.bits)).fdiv (2 ^ min (Int.toNat 1) IntKind.u64.bits)).toNat, []⟩, [true, true], some []) := by kernel_rfl
  have := Contract.run C0_ok E0_ok _ _ _ h ⟨rfl, rfl, trivial⟩
  rw [abs2_eq, Int.toNat_natCast] at this; exact this
theorem c_Abs6 (ex : Bool) (x : Nat) : Contract prog n_ref06_Abs [] [.flt ex x] ⟨.flt ex (fabs x), []⟩ := by
  cases ex with
  | true => exact c_Abs6T x
  | false => exact Contract.exact1 (r := fun y => .flt true (fabs y)) c_Abs6T (fun y hf ρ w u h => h.flt_weak (FR.abs hf))

theorem c_CopysignT (x y : Nat) : Contract prog n_math_Copysign [] [.flt true x, .flt true y] ⟨.flt true (fcopy x y), []⟩ := by
  have h : fnRun C0 E0 (runCode C0 E0 0 50) n_math_Copysign [] [.flt true x, .flt true y] (some []) = some (⟨.flt true (bitsV .or .u64 (bitsV .andNot .u64 (x : Int) 9223372036854775808) (bitsV .and .u64 (y : Int) 9223372036854775808)).toNat, []⟩, [], some []) := by kernel_rfl
  have := Contract.run C0_ok E0_ok _ _ _ h trivial
  rw [abs_eq, top_eq, or_eq, Int.toNat_natCast] at this; exact this
theorem c_Copysign (e1 e2 : Bool) (x y : Nat) (hn : isNaN y = true → isNaN x = true) : Contract prog n_math_Copysign [] [.flt e1 x, .flt e2 y] ⟨.flt false (fcopy x y), []⟩ :=
  Contract.exact2 (r := fun x y => .flt true (fcopy x y)) c_CopysignT (fun x' y' h1 h2 ρ w u h => h.flt_weak (FR.copy h1 h2 hn))

theorem c_Sign6T (x y : Nat) : Contract prog n_ref06_Sign [] [.flt true x, .flt true y] ⟨.flt true (fcopy x y), []⟩ := by
  have h : fnRun C0 E0 (runCode C0 E0 0 50) n_ref06_Sign [] [.flt true x, .flt true y] (some []) = some (⟨.flt true (bitsV .or .u64
      ((IntKind.u64.wrap ((x : Int) * 2 ^ min (Int.toNat 1) IntKind.u64.bits)).fdiv (2 ^ min (Int.toNat 1) IntKind.u64.bits))
      (IntKind.u64.wrap ((y : Int).fdiv (2 ^ min (Int.toNat 63) IntKind.u64.bits) * 2 ^ min (Int.toNat 63) IntKind.u64.bits))).toNat, []⟩, [true, true, true, true], some []) := by kernel_rfl
  have := Contract.run C0_ok E0_ok _ _ _ h ⟨rfl, rfl, rfl, rfl, trivial⟩
  rw [abs2_eq, top2_eq, or_eq, Int.toNat_natCast] at this; exact this
theorem c_Sign6 (e1 e2 : Bool) (x y : Nat) (hn : isNaN y = true → isNaN x = true) : Contract prog n_ref06_Sign [] [.flt e1 x, .flt e2 y] ⟨.flt false (fcopy x y), []⟩ :=
  Contract.exact2 (r := fun x y => .flt true (fcopy x y)) c_Sign6T (fun x' y' h1 h2 ρ w u h => h.flt_weak (FR.copy h1 h2 hn))

theorem c_Same6 (e1 e2 : Bool) (x y : Nat) : Contract prog n_ref06_Same [] [.flt e1 x, .flt e2 y] ⟨.bool false (sameB x y), []⟩ := by
  refine Contract.exact2 (r := fun x y => .bool false (sameB x y)) (fun x y => ?_) (fun x' y' h1 h2 ρ w u h => by rw [← FR.same h1 h2]; exact h)
  have hb : ((x : Int) == (y : Int)) = (x == y) := by
    rw [Bool.eq_iff_iff]; simp; omega
  cases hx : isNaN x with
  | false =>
    have h : fnRun C0 E0 (runCode C0 E0 0 50) n_ref06_Same [] [.flt true x, .flt true y] (some [0]) = some (⟨.bool false ((x : Int) == (y : Int)), []⟩, [fne x x == false], some []) := by kernel_rfl
    have := Contract.run C0_ok E0_ok _ _ _ h ⟨by rw [fne_self, hx]; rfl, trivial⟩
    rw [hb] at this
    simp only [sameB, hx, Bool.false_and, Bool.false_or]; exact this
  | true =>
    cases hy : isNaN y with
    | false =>
      have h : fnRun C0 E0 (runCode C0 E0 0 50) n_ref06_Same [] [.flt true x, .flt true y] (some [1, 0]) = some (⟨.bool false ((x : Int) == (y : Int)), []⟩, [fne x x == true, fne y y == false], some []) := by kernel_rfl
      have := Contract.run C0_ok E0_ok _ _ _ h ⟨by rw [fne_self, hx]; rfl, by rw [fne_self, hy]; rfl, trivial⟩
      rw [hb] at this
      simp only [sameB, hx, hy, Bool.and_false, Bool.false_or]; exact this
    | true =>
      have h : fnRun C0 E0 (runCode C0 E0 0 50) n_ref06_Same [] [.flt true x, .flt true y] (some [1, 1]) = some (⟨.bool true true, []⟩, [fne x x == true, fne y y == true], some []) := by kernel_rfl
      have := Contract.run C0_ok E0_ok _ _ _ h ⟨by rw [fne_self, hx]; rfl, by rw [fne_self, hy]; rfl, trivial⟩
      have e : sameB x y = true := by simp [sameB, hx, hy]
      rw [e]
      exact this.weak (bool_loose _ _ _)

def onCopy (L : List Blk) (args : List AV) : Option (List EAlt) :=
  match L, args with
  | [], [.flt e1 x, .flt e2 y] => bif e1 && e2 then one (.flt true (fcopy x y)) [] else one (.flt false (fcopy x y)) [!isNaN y || isNaN x]
  | _, _ => none
def e_Abs : Entry := ⟨n_math_Abs, fun L args => match L, args with | [], [.flt e x] => one (.flt e (fabs x)) [] | _, _ => none⟩
def e_Abs6 : Entry := ⟨n_ref06_Abs, fun L args => match L, args with | [], [.flt e x] => one (.flt e (fabs x)) [] | _, _ => none⟩
def e_Copysign : Entry := ⟨n_math_Copysign, onCopy⟩
def e_Sign6 : Entry := ⟨n_ref06_Sign, onCopy⟩
def e_Same6 : Entry := ⟨n_ref06_Same, fun L args => match L, args with | [], [.flt _ x, .flt _ y] => one (.bool false (sameB x y)) [] | _, _ => none⟩

theorem e_Abs_ok : EntryOk prog e_Abs := by
  intro L args alts a h ha ho
  simp only [e_Abs] at h
  split at h
  · exact entry_one h ha ho fun _ => c_Abs _ _
  · cases h
theorem e_Abs6_ok : EntryOk prog e_Abs6 := by
  intro L args alts a h ha ho
  simp only [e_Abs6] at h
  split at h
  · exact entry_one h ha ho fun _ => c_Abs6 _ _
  · cases h
theorem nanImp {x y : Nat} (h : allTrue [!isNaN y || isNaN x]) : isNaN y = true → isNaN x = true := by
  intro hy; have := h.1; rw [hy] at this; simpa using this
theorem copy_ok {f : FuncId} (hT : ∀ x y, Contract prog f [] [.flt true x, .flt true y] ⟨.flt true (fcopy x y), []⟩)
    (hF : ∀ e1 e2 x y, (isNaN y = true → isNaN x = true) → Contract prog f [] [.flt e1 x, .flt e2 y] ⟨.flt false (fcopy x y), []⟩) : EntryOk prog ⟨f, onCopy⟩ := by
  intro L args alts a h ha ho
  simp only [onCopy] at h
  split at h
  · rename_i e1 x e2 y
    cases e1 <;> cases e2 <;> first | exact entry_one h ha ho fun q => hF _ _ _ _ (nanImp q) | exact entry_one h ha ho fun q => hT _ _
  · cases h
theorem e_Copysign_ok : EntryOk prog e_Copysign := copy_ok c_CopysignT c_Copysign
theorem e_Sign6_ok : EntryOk prog e_Sign6 := copy_ok c_Sign6T c_Sign6
theorem e_Same6_ok : EntryOk prog e_Same6 := by
  intro L args alts a h ha ho
  simp only [e_Same6] at h
  split at h
  · exact entry_one h ha ho fun q => c_Same6 _ _ _ _
  · cases h

def L1 : List Entry := [e_Abs, e_Abs6, e_Copysign, e_Sign6, e_Same6]
def S1 : Sums := sumsOf L1
theorem S1_ok : SumsOk prog S1 := sumsOf_cons e_Abs_ok (sumsOf_cons e_Abs6_ok (sumsOf_cons e_Copysign_ok (sumsOf_cons e_Sign6_ok (sumsOf_cons e_Same6_ok (sumsOf_nil _)))))

end Go.Plb.Seat

/-
  EXTRACTION: a function's text as a plain function on plain data.
-/
namespace Go.Plb
set_option linter.unusedSimpArgs false
set_option linter.unusedVariables false

/-- A decision tree: what a piece of code without loops does. 'need': what must hold, lest nothing is said. -/
inductive T (α : Type) where
  | fail
  | leaf (a : α)
  | ask (b : Bool) (t f : T α)
  | need (b : Bool) (t : T α)
  | alt (k : Nat) (t e : T α)

def T.run {α : Type} : T α → Option α
  | .fail => none
  | .leaf a => some a
  | .ask b t f => bif b then t.run else f.run
  | .need b t => bif b then t.run else none
  | .alt _ t e => match t.run with
    | some a => some a
    | none => e.run

structure Leaf (α : Type) where
  path : List Nat
  obs : List Bool
  val : α

def Leaf.ask {α : Type} (n : Nat) (b : Bool) (l : Leaf α) : Leaf α := ⟨n :: l.path, b :: l.obs, l.val⟩
def Leaf.need {α : Type} (b : Bool) (l : Leaf α) : Leaf α := ⟨l.path, b :: l.obs, l.val⟩
def Leaf.alt {α : Type} (n : Nat) (l : Leaf α) : Leaf α := ⟨n :: l.path, l.obs, l.val⟩

def T.leaves {α : Type} : T α → List (Leaf α)
  | .fail => []
  | .leaf a => [⟨[], [], a⟩]
  | .ask b t f => t.leaves.map (Leaf.ask 1 (b == true)) ++ f.leaves.map (Leaf.ask 0 (b == false))
  | .need b t => t.leaves.map (Leaf.need b)
  | .alt k t e => t.leaves.map (Leaf.alt k) ++ e.leaves

theorem T.run_leaf {α : Type} : ∀ (t : T α) {a : α}, t.run = some a → ∃ l ∈ t.leaves, l.val = a ∧ allTrue l.obs
  | .fail, a, h => by cases h
  | .leaf b, a, h => by
    simp only [T.run, Option.some.injEq] at h; subst h
    exact ⟨⟨[], [], b⟩, by simp [T.leaves], rfl, trivial⟩
  | .ask b t f, a, h => by
    simp only [T.run] at h
    cases b with
    | true =>
      simp only [cond_true] at h
      obtain ⟨l, h1, h2, h3⟩ := T.run_leaf t h
      exact ⟨l.ask 1 (true == true), by simp only [T.leaves, List.mem_append]; exact .inl (List.mem_map_of_mem h1), h2, ⟨rfl, h3⟩⟩
    | false =>
      simp only [cond_false] at h
      obtain ⟨l, h1, h2, h3⟩ := T.run_leaf f h
      exact ⟨l.ask 0 (false == false), by simp only [T.leaves, List.mem_append]; exact .inr (List.mem_map_of_mem h1), h2, ⟨rfl, h3⟩⟩
  | .need b t, a, h => by
    simp only [T.run] at h
    cases b with
    | true =>
      simp only [cond_true] at h
      obtain ⟨l, h1, h2, h3⟩ := T.run_leaf t h
      exact ⟨l.need true, by simp only [T.leaves]; exact List.mem_map_of_mem h1, h2, ⟨rfl, h3⟩⟩
    | false => cases h
  | .alt k t e, a, h => by
    simp only [T.run] at h
    split at h
    · rename_i a' ht
      cases h
      obtain ⟨l, h1, h2, h3⟩ := T.run_leaf t ht
      exact ⟨l.alt k, by simp only [T.leaves, List.mem_append]; exact .inl (List.mem_map_of_mem h1), h2, h3⟩
    · obtain ⟨l, h1, h2, h3⟩ := T.run_leaf e h
      exact ⟨l, by simp only [T.leaves, List.mem_append]; exact .inr h1, h2, h3⟩

def encL {α X : Type} (N : α → ASt) (E : X → AE × ASt) : α ⊕ X → AE × ASt
  | .inl a => (.normal, N a)
  | .inr x => E x

/-- What a row of pieces does from a state on: 'm' tells it, where it tells anything. -/
def Sg {α X : Type} (P : Program) (lent : List Blk) (cs : List Code) (st : ASt) (m : Option (α ⊕ X)) (N : α → ASt) (E : X → AE × ASt) : Prop :=
  ∀ r, m = some r → Trip P lent cs st fun e st' => (e, st') = encL N E r

def segGot {α X : Type} (C : Ctx) (S : Sums) (n : Nat) (cs : List Code) (st : ASt) (ls : List (Leaf (α ⊕ X))) (ks : List NS) (k : Nat) : List (Bool × Option (AE × ASt × List Bool)) :=
  List.zipWith (fun l s => (s.ok k, endOf s (runL (runCode C S 0 n) cs st (some l.path)))) ls ks
def segWant {α X : Type} (N : α → ASt) (E : X → AE × ASt) (ls : List (Leaf (α ⊕ X))) : List (Bool × Option (AE × ASt × List Bool)) :=
  ls.map fun l => (true, some ((encL N E l.val).1, (encL N E l.val).2, l.obs))

theorem zip_mem {α β γ : Type} {f : α → β → γ} {g : α → γ} : ∀ {l : List α} {k : List β}, List.zipWith f l k = l.map g → ∀ a ∈ l, ∃ b, f a b = g a
  | [], _, _, a, ha => by cases ha
  | x :: l, [], h, a, ha => by simp at h
  | x :: l, y :: k, h, a, ha => by
    simp only [List.zipWith_cons_cons, List.map_cons, List.cons.injEq] at h
    rcases List.mem_cons.1 ha with rfl | ha
    · exact ⟨y, h.1⟩
    · exact zip_mem h.2 a ha

theorem Sg.seg {C : Ctx} (hC : C.Ok) {S : Sums} (hS : SumsOk C.P S) {lent : List Blk} {α X : Type} (n : Nat) (cs : List Code) (st : ASt) (t : T (α ⊕ X)) (N : α → ASt) (E : X → AE × ASt) (ks : List NS)
    (h : segGot C S n cs st t.leaves ks lent.length = segWant N E t.leaves) : Sg C.P lent cs st t.run N E := by
  intro r hr
  obtain ⟨l, h1, h2, h3⟩ := T.run_leaf t hr
  obtain ⟨k, hk⟩ := zip_mem h l h1
  simp only [Prod.mk.injEq] at hk
  obtain ⟨hn, he⟩ := hk
  have := Trip.seg hC hS (lent := lent) (Q := fun e st' => (e, st') = encL N E r) cs.length (some l.path) k (cs := cs) (st := st) (by rw [List.take_length]; exact he) hn h3
  refine this ?_
  rw [h2, List.drop_length]
  generalize hg : encL N E r = x
  obtain ⟨e, s⟩ := x
  cases e with
  | normal => exact Trip.nil rfl
  | ret => rfl
  | exit id => rfl

theorem Trip.append {P : Program} {lent : List Blk} {cs1 cs2 : List Code} {st : ASt} {Q1 Q : AE → ASt → Prop} (h : Trip P lent cs1 st Q1) (k : ∀ e st', Q1 e st' → Then P lent cs2 e st' Q) : Trip P lent (cs1 ++ cs2) st Q := by
  intro ρ0 w0 hN K hK a w hA
  apply wpL_append
  refine h ρ0 w0 hN _ ?_ a w hA
  intro e st' a' w' q hA'
  have := k e st' q
  cases e with
  | normal => exact this ρ0 w0 hN K hK a' w' hA'
  | ret => exact hK _ _ _ _ this hA'
  | exit id => exact hK _ _ _ _ this hA'

/-- No exit is a normal end. -/
def NoN {X : Type} (E : X → AE × ASt) : Prop := ∀ x, (E x).1 ≠ .normal

theorem then_of {P : Program} {lent : List Blk} {cs : List Code} {e : AE} {st : ASt} {Q : AE → ASt → Prop} (hn : e ≠ .normal) (h : Q e st) : Then P lent cs e st Q := by
  cases e with
  | normal => exact (hn rfl).elim
  | ret => exact h
  | exit id => exact h

def seqM {α β X : Type} (m : Option (α ⊕ X)) (k : α → Option (β ⊕ X)) : Option (β ⊕ X) :=
  match m with
  | none => none
  | some (.inl a) => k a
  | some (.inr x) => some (.inr x)

theorem Sg.seq {P : Program} {lent : List Blk} {α β X : Type} {cs1 cs2 : List Code} {st : ASt} {m : Option (α ⊕ X)} {N1 : α → ASt} {E : X → AE × ASt} {k : α → Option (β ⊕ X)} {N : β → ASt} (hE : NoN E)
    (h : Sg P lent cs1 st m N1 E) (hk : ∀ a, Sg P lent cs2 (N1 a) (k a) N E) : Sg P lent (cs1 ++ cs2) st (seqM m k) N E := by
  intro r hr
  unfold seqM at hr
  split at hr
  · cases hr
  · rename_i a
    refine Trip.append (h _ rfl) ?_
    intro e st' q
    simp only [encL, Prod.mk.injEq] at q
    obtain ⟨rfl, rfl⟩ := q
    exact hk a r hr
  · rename_i x
    simp only [Option.some.injEq] at hr; subst hr
    refine Trip.append (h _ rfl) ?_
    intro e st' q
    simp only [encL] at q
    refine then_of ?_ q
    have := hE x
    rw [← q] at this; exact this

def iterM {σ Y : Type} (B : σ → Option (σ ⊕ Y)) : Nat → σ → Option Y
  | 0, _ => none
  | n + 1, s => match B s with
    | none => none
    | some (.inl s') => iterM B n s'
    | some (.inr y) => some y

theorem iterM_mono {σ Y : Type} {B : σ → Option (σ ⊕ Y)} : ∀ (n : Nat) {s : σ} {y : Y}, iterM B n s = some y → ∀ m, n ≤ m → iterM B m s = some y
  | 0, s, y, h, _, _ => by cases h
  | n + 1, s, y, h, m, hm => by
    obtain ⟨m', rfl⟩ : ∃ m', m = m' + 1 := ⟨m - 1, by omega⟩
    simp only [iterM] at h ⊢
    split at h
    · cases h
    · exact iterM_mono n h m' (by omega)
    · exact h

open Classical in
/-- A loop, to its end; none where it has none. -/
noncomputable def loopM {σ Y : Type} (B : σ → Option (σ ⊕ Y)) (s : σ) : Option Y :=
  if h : ∃ n y, iterM B n s = some y then some h.choose_spec.choose else none

theorem loopM_iff {σ Y : Type} {B : σ → Option (σ ⊕ Y)} {s : σ} {y : Y} : loopM B s = some y ↔ ∃ n, iterM B n s = some y := by
  unfold loopM
  constructor
  · intro h
    split at h
    · rename_i q
      simp only [Option.some.injEq] at h
      exact ⟨q.choose, by rw [← h]; exact q.choose_spec.choose_spec⟩
    · cases h
  · rintro ⟨n, h⟩
    rw [dif_pos ⟨n, y, h⟩]
    generalize hq : (⟨n, y, h⟩ : ∃ n y, iterM B n s = some y) = q
    have h1 := q.choose_spec.choose_spec
    have a1 := iterM_mono n h (max n q.choose) (by omega)
    have a2 := iterM_mono _ h1 (max n q.choose) (by omega)
    rw [a1] at a2
    exact a2.symm

/-- A loop's one round. -/
theorem loopM_eq {σ Y : Type} (B : σ → Option (σ ⊕ Y)) (s : σ) : loopM B s = match B s with
    | none => none
    | some (.inl s') => loopM B s'
    | some (.inr y) => some y := by
  have key : ∀ y, loopM B s = some y ↔ (match B s with | none => none | some (.inl s') => loopM B s' | some (.inr y) => some y) = some y := by
    intro y
    rw [loopM_iff]
    constructor
    · rintro ⟨n, h⟩
      cases n with
      | zero => cases h
      | succ n =>
        simp only [iterM] at h
        cases q : B s with
        | none => rw [q] at h; cases h
        | some z => cases z with
          | inl s' => rw [q] at h; exact loopM_iff.2 ⟨n, h⟩
          | inr z => rw [q] at h; exact h
    · intro h
      split at h <;> rename_i q
      · cases h
      · obtain ⟨n, hn⟩ := loopM_iff.1 h
        exact ⟨n + 1, by simp only [iterM, q]; exact hn⟩
      · exact ⟨1, by simp only [iterM, q]; exact h⟩
  generalize (match B s with | none => none | some (.inl s') => loopM B s' | some (.inr y) => some y) = x at key
  cases hl : loopM B s with
  | none => cases x with
    | none => rfl
    | some y => rw [(key y).2 rfl] at hl; cases hl
  | some y => rw [hl] at key; exact ((key y).1 rfl).symm

theorem loopM_on {σ Y : Type} {B : σ → Option (σ ⊕ Y)} {s s' : σ} (h : B s = some (.inl s')) : loopM B s = loopM B s' := by rw [loopM_eq, h]
theorem loopM_out {σ Y : Type} {B : σ → Option (σ ⊕ Y)} {s : σ} {y : Y} (h : B s = some (.inr y)) : loopM B s = some y := by rw [loopM_eq, h]

/-- A loop that does what it should, by an invariant and a measure. -/
theorem loopM_inv {σ Y : Type} {B : σ → Option (σ ⊕ Y)} (G : σ → Prop) (m : σ → Nat) (Q : Y → Prop) (h : ∀ s, G s → (∃ s', B s = some (.inl s') ∧ G s' ∧ m s' < m s) ∨ ∃ y, B s = some (.inr y) ∧ Q y) :
    ∀ s, G s → ∃ y, loopM B s = some y ∧ Q y := by
  have key : ∀ n s, m s < n → G s → ∃ y, loopM B s = some y ∧ Q y := by
    intro n
    induction n with
    | zero => intro s q; omega
    | succ n ih =>
      intro s q hs
      rcases h s hs with ⟨s', h1, h2, h3⟩ | ⟨y, h1, h2⟩
      · obtain ⟨y, k1, k2⟩ := ih s' (by omega) h2
        exact ⟨y, by rw [loopM_on h1]; exact k1, k2⟩
      · exact ⟨y, loopM_out h1, h2⟩
  exact fun s hs => key _ s (Nat.lt_succ_self _) hs

def exitE {ρ X : Type} (id : Nat) (J : ρ → ASt) (E : X → AE × ASt) : ρ ⊕ X → AE × ASt
  | .inl r => (.exit id, J r)
  | .inr x => E x

def NoId {X : Type} (id : Nat) (E : X → AE × ASt) : Prop := ∀ x, (E x).1 ≠ .exit id

theorem Sg.loop {P : Program} {lent : List Blk} {σ ρ X : Type} {I : σ → ASt} {J : ρ → ASt} {E : X → AE × ASt} {B : σ → Option (σ ⊕ (ρ ⊕ X))} {id : Nat} {b : Code} (hE : NoN E) (hI : NoId id E)
    (hb : ∀ s, Sg P lent (flat b) (I s) (B s) I (exitE id J E)) (s : σ) : Sg P lent [.block id (.loop b)] (I s) (loopM B s) J E := by
  intro y hy
  obtain ⟨n, hn⟩ := loopM_iff.1 hy
  -- the rounds that are left
  have := Trip.loop (P := P) (lent := lent) (id := id) (b := b) (rest := []) (Q := fun e st' => (e, st') = encL J E y) (σ := Nat × σ) (fun s => I s.2) (fun s => iterM B s.1 s.2 = some y) (fun s => s.1) rfl (fun s hs => ?_) (n, s) hn
  · exact this
  · obtain ⟨n, s⟩ := s
    simp only at hs ⊢
    cases n with
    | zero => cases hs
    | succ n =>
      simp only [iterM] at hs
      split at hs
      · cases hs
      · rename_i s' hB
        refine (hb s _ hB).mono ?_
        intro e st' q
        simp only [encL, Prod.mk.injEq] at q
        obtain ⟨rfl, rfl⟩ := q
        exact ⟨(n, s'), hs, by simp, rfl⟩
      · rename_i y' hB
        simp only [Option.some.injEq] at hs; subst hs
        refine (hb s _ hB).mono ?_
        intro e st' q
        cases y' with
        | inl r =>
          simp only [encL, exitE, Prod.mk.injEq] at q
          obtain ⟨rfl, rfl⟩ := q
          simp only [Round, if_true]
          exact Trip.nil rfl
        | inr x =>
          simp only [encL, exitE] at q
          have h1 := hE x
          have h2 := hI x
          rw [← q] at h1 h2
          simp only at h1 h2
          cases e with
          | normal => exact (h1 rfl).elim
          | ret => exact q
          | exit j =>
            have hj : ¬ j = id := fun h => h2 (by rw [h])
            simp only [Round, hj, if_false]
            exact q

def joinM {κ X : Type} (m : Option (κ ⊕ (κ ⊕ X))) : Option (κ ⊕ X) :=
  match m with
  | none => none
  | some (.inl a) => some (.inl a)
  | some (.inr (.inl a)) => some (.inl a)
  | some (.inr (.inr x)) => some (.inr x)

theorem Sg.block {P : Program} {lent : List Blk} {κ X : Type} {K : κ → ASt} {E : X → AE × ASt} {m : Option (κ ⊕ (κ ⊕ X))} {id : Nat} {b : Code} {st : ASt} (hE : NoN E) (hI : NoId id E)
    (hb : Sg P lent (flat b) st m K (exitE id K E)) : Sg P lent [.block id b] st (joinM m) K E := by
  intro r hr
  unfold joinM at hr
  refine Trip.block (rest := []) rfl ?_
  split at hr
  · cases hr
  · simp only [Option.some.injEq] at hr; subst hr
    refine (hb _ rfl).mono ?_
    intro e st' q
    simp only [encL, Prod.mk.injEq] at q
    obtain ⟨rfl, rfl⟩ := q
    exact Trip.nil rfl
  · simp only [Option.some.injEq] at hr; subst hr
    refine (hb _ rfl).mono ?_
    intro e st' q
    simp only [encL, exitE, Prod.mk.injEq] at q
    obtain ⟨rfl, rfl⟩ := q
    simp only [if_true]
    exact Trip.nil rfl
  · rename_i x
    simp only [Option.some.injEq] at hr; subst hr
    refine (hb _ rfl).mono ?_
    intro e st' q
    simp only [encL, exitE] at q
    have h1 := hE x
    have h2 := hI x
    rw [← q] at h1 h2
    simp only at h1 h2
    cases e with
    | normal => exact (h1 rfl).elim
    | ret => exact q
    | exit j =>
      have hj : ¬ j = id := fun h => h2 (by rw [h])
      simp only [hj, if_false]
      exact q

theorem Sg.scope {P : Program} {lent : List Blk} {α X : Type} {N : α → ASt} {E : X → AE × ASt} {m : Option (α ⊕ X)} {b : Code} {st : ASt} (hE : NoN E) (hb : Sg P lent (flat b) st m N E) : Sg P lent [.scope b] st m N E := by
  intro r hr
  refine Trip.scope (rest := []) rfl ((hb r hr).mono ?_)
  intro e st' q
  cases r with
  | inl a =>
    simp only [encL, Prod.mk.injEq] at q
    obtain ⟨rfl, rfl⟩ := q
    exact Trip.nil rfl
  | inr x =>
    refine then_of ?_ q
    have := hE x
    simp only [encL] at q
    rw [← q] at this; exact this

theorem setKnown_at {k : Nat} {ρ0 : Place} {w0 : World} {st : ASt} {a : Act} {w : World} {c : Operand} {b kn : Bool} (h : At k ρ0 w0 st a w) (hc : evA st.tmps c = .bool kn b) : At k ρ0 w0 { st with tmps := setKnown st.tmps c b } a w ∧ a.eval c = .bool b := by
  obtain ⟨ρ, E, W, hs, hbk, hle⟩ := h
  have hb : a.eval c = .bool b := by
    have := evA_vr hs.tmps c
    rw [hc] at this
    generalize a.eval c = z at this
    cases this; rfl
  refine ⟨⟨ρ, E, W, ⟨hs.defers, ?_, hs.heap⟩, hbk, hle⟩, hb⟩
  cases c with
  | tmp t =>
    simp only [setKnown]
    have : VRs ρ w (st.tmps.set t (.bool true b)) (a.tmps.toList.set t (.bool b)) := hs.tmps.set (.bool _ _) t
    have e : a.tmps.toList.set t (.bool b) = a.tmps.toList := by
      apply List.ext_getElem?
      intro j
      rw [List.getElem?_set]
      split
      · rename_i q; subst q
        split
        · rename_i hlt
          simp only [Act.eval] at hb
          rw [Array.getD_eq_getD_getElem?] at hb
          have hlt' : t < a.tmps.size := by simpa using hlt
          rw [Array.getElem?_eq_getElem hlt'] at hb
          simp only [Option.getD_some] at hb
          simp [hlt', hb]
        · rename_i hge
          rw [List.getElem?_eq_none (by omega)]
      · rfl
    rw [e] at this; exact this
  | const v => exact hs.tmps
  | global g => exact hs.tmps
  | func f => exact hs.tmps

theorem Sg.cond {P : Program} {lent : List Blk} {α X : Type} {N : α → ASt} {E : X → AE × ASt} {m1 m2 : Option (α ⊕ X)} {c : Operand} {A B : Code} {st : ASt} {kn b : Bool} (hE : NoN E) (hc : evA st.tmps c = .bool kn b)
    (h1 : Sg P lent (flat A) { st with tmps := setKnown st.tmps c true } m1 N E) (h2 : Sg P lent (flat B) { st with tmps := setKnown st.tmps c false } m2 N E) : Sg P lent [.cond c A B] st (bif b then m1 else m2) N E := by
  intro r hr
  intro ρ0 w0 hN K hK a w hA
  simp only [wpL]
  obtain ⟨hA', hb⟩ := setKnown_at hA hc
  refine wp_cond hb ?_
  have fin : ∀ (D : Code) (m : Option (α ⊕ X)) (st1 : ASt), Sg P lent (flat D) st1 m N E → m = some r → At lent.length ρ0 w0 st1 a w → D.wp P (fun e a' w' => match e with | .normal => K .normal a' w' | e => K e a' w') a w := by
    intro D m st1 hS hm hA1
    refine flat_wp D (hS r hm ρ0 w0 hN _ ?_ a w hA1)
    intro e st' a' w' q hA2
    cases e with
    | normal => exact hK .normal st' a' w' q hA2
    | ret => exact hK .ret st' a' w' q hA2
    | exit id => exact hK (.exit id) st' a' w' q hA2
  cases b with
  | true => exact fin A m1 _ h1 hr hA'
  | false => exact fin B m2 _ h2 hr hA'

/-- A state made plain. -/
theorem Sg.pre {P : Program} {lent : List Blk} {α X : Type} {N : α → ASt} {E : X → AE × ASt} {m : Option (α ⊕ X)} {cs : List Code} {st st1 : ASt} (s : NS) (hn : s.ok lent.length = true) (h1 : s.on st = st1) (h : Sg P lent cs st1 m N E) : Sg P lent cs st m N E :=
  fun r hr => Trip.weak (by rw [← h1]; exact ns_sub hn st) (h r hr)

def toX {X : Type} : Option (Empty ⊕ X) → Option X
  | some (.inr x) => some x
  | _ => none

/-- A function's contract: what is told of its text. -/
theorem Sg.contract {P : Program} {f : FuncId} {fn : Func} {c : Code} {X : Type} {N : Empty → ASt} {E : X → AE × ASt} {m : Option (Empty ⊕ X)} {lent : List Blk} {args : List AV} (keep : Bool) (o : X → Out) (hf : P.funcs[f]? = some fn) (hc : fn.body = some c)
    (h : Sg P lent (flat c) (entryOf fn lent args) m N E) (hE : ∀ x, Hands P fn lent.length keep (o x) (E x).1 (E x).2) {x : X} (hx : toX m = some x) : Contract P f lent args (o x) := by
  unfold toX at hx
  split at hx
  · rename_i x'
    simp only [Option.some.injEq] at hx; subst hx
    refine Trip.contract (keep := keep) hf hc ((h _ rfl).mono ?_)
    intro e st' q
    simp only [encL] at q
    have := hE x'
    rw [← q] at this; exact this
  · cases hx

end Go.Plb

namespace Go.Plb
theorem noN_exit {ρ X : Type} {id : Nat} {J : ρ → ASt} {E : X → AE × ASt} (h : NoN E) : NoN (exitE id J E) := by
  intro x
  cases x with
  | inl r => intro q; cases q
  | inr x => exact h x
theorem noId_exit {ρ X : Type} {id j : Nat} {J : ρ → ASt} {E : X → AE × ASt} (hj : (j == id) = false) (h : NoId id E) : NoId id (exitE j J E) := by
  intro x
  cases x with
  | inl r =>
    intro q
    simp only [exitE, AE.exit.injEq] at q
    subst q
    simp at hj
  | inr x => exact h x

def inLoop : Code → Code
  | .block _ (.loop b) => b
  | _ => .skip
def inBlock : Code → Code
  | .block _ b => b
  | _ => .skip
def inScope : Code → Code
  | .scope b => b
  | _ => .skip
def inThen : Code → Code
  | .cond _ a _ => a
  | _ => .skip
def inElse : Code → Code
  | .cond _ _ b => b
  | _ => .skip

theorem Sg.cut {P : Program} {lent : List Blk} {α β X : Type} {cs : List Code} {st : ASt} {m : Option (α ⊕ X)} {N1 : α → ASt} {E : X → AE × ASt} {k : α → Option (β ⊕ X)} {N : β → ASt} (n : Nat) (hE : NoN E)
    (h : Sg P lent (cs.take n) st m N1 E) (hk : ∀ a, Sg P lent (cs.drop n) (N1 a) (k a) N E) : Sg P lent cs st (seqM m k) N E := by
  have := Sg.seq hE h hk
  rwa [List.take_append_drop] at this

theorem Sg.loopAt {P : Program} {lent : List Blk} {σ ρ X : Type} {I : σ → ASt} {J : ρ → ASt} {E : X → AE × ASt} {B : σ → Option (σ ⊕ (ρ ⊕ X))} {id : Nat} {b : Code} {cs : List Code} (hcs : cs = [.block id (.loop b)]) (hE : NoN E) (hI : NoId id E)
    (hb : ∀ s, Sg P lent (flat b) (I s) (B s) I (exitE id J E)) (s : σ) : Sg P lent cs (I s) (loopM B s) J E := by rw [hcs]; exact Sg.loop hE hI hb s
theorem Sg.blockAt {P : Program} {lent : List Blk} {κ X : Type} {K : κ → ASt} {E : X → AE × ASt} {m : Option (κ ⊕ (κ ⊕ X))} {id : Nat} {b : Code} {st : ASt} {cs : List Code} (hcs : cs = [.block id b]) (hE : NoN E) (hI : NoId id E)
    (hb : Sg P lent (flat b) st m K (exitE id K E)) : Sg P lent cs st (joinM m) K E := by rw [hcs]; exact Sg.block hE hI hb
theorem Sg.scopeAt {P : Program} {lent : List Blk} {α X : Type} {N : α → ASt} {E : X → AE × ASt} {m : Option (α ⊕ X)} {b : Code} {st : ASt} {cs : List Code} (hcs : cs = [.scope b]) (hE : NoN E) (hb : Sg P lent (flat b) st m N E) : Sg P lent cs st m N E := by
  rw [hcs]; exact Sg.scope hE hb
theorem Sg.condAt {P : Program} {lent : List Blk} {α X : Type} {N : α → ASt} {E : X → AE × ASt} {m1 m2 : Option (α ⊕ X)} {c : Operand} {A B : Code} {st : ASt} {kn b : Bool} {cs : List Code} (hcs : cs = [.cond c A B]) (hE : NoN E) (hc : evA st.tmps c = .bool kn b)
    (h1 : Sg P lent (flat A) { st with tmps := setKnown st.tmps c true } m1 N E) (h2 : Sg P lent (flat B) { st with tmps := setKnown st.tmps c false } m2 N E) : Sg P lent cs st (bif b then m1 else m2) N E := by rw [hcs]; exact Sg.cond hE hc h1 h2
end Go.Plb

namespace Go.Plb.Seat
open Go Go.Plb
set_option linter.unusedSimpArgs false
set_option linter.unusedVariables false

noncomputable def cl_N : Empty → ASt := fun a => a.elim
noncomputable def cl_E : Unit → AE × ASt := fun _ => (.ret, ⟨slots 8 [(2, .sl 0 1 1 0 0 0)], [(0, .fl [])], 1⟩)
noncomputable def cl_o : Unit → Out := fun _ => ⟨.sl 0 1 1 0 0 0, [some (.fl [])]⟩

theorem cl_true : Contract prog n_slices_Clone [] [.zsl true] ⟨.sl 0 1 1 0 0 0, [some (.fl [])]⟩ :=
  Sg.contract (x := ()) (X := Unit) (N := cl_N) (E := cl_E) (m := some (.inr ())) false cl_o (by kernel_rfl : prog.funcs[n_slices_Clone]? = some (FN n_slices_Clone)) (by kernel_rfl : (FN n_slices_Clone).body = some (BODY n_slices_Clone))
    (Sg.seg (C := C0) C0_ok E0_ok 60 (flat (BODY n_slices_Clone)) (entryOf (FN n_slices_Clone) [] [.zsl true]) (.leaf (.inr ())) cl_N cl_E [⟨[(.slot 2, 1, 1, .fl [])], [64], [2]⟩] (by kernel_rfl))
    (fun _ => ⟨.inr rfl, [.sl 0 1 1 0 0 0], [], by kernel_rfl, trivial, by kernel_rfl⟩) rfl

theorem cl_false : Contract prog n_slices_Clone [] [.zsl false] ⟨.sl 0 1 1 0 0 0, [some (.fl [])]⟩ :=
  Contract.run C0_ok E0_ok (some []) 0 60 (p' := some []) (obs := []) (by kernel_rfl) nob

theorem cl_zero (l : Lv) : Contract prog n_slices_Clone [] [.imm l (.fl []) 1 1 0 0] ⟨.sl 0 1 1 0 0 0, [some (.fl [])]⟩ := by
  intro ρ w us hN hv
  cases hv with | cons _ u _ _ h1 h2 =>
  cases h2
  have key : ∀ (a : Option Addr) cap, VRs ρ w [.zsl a.isNone] [.slice a 0 cap] := fun a cap => .cons _ _ _ _ (.zsl a cap) .nil
  have all : ∀ b, Contract prog n_slices_Clone [] [.zsl b] ⟨.sl 0 1 1 0 0 0, [some (.fl [])]⟩ := fun b => by
    cases b
    · exact cl_false
    · exact cl_true
  cases h1 with
  | imm _ _ _ _ _ _ cap bl o u' => exact all _ ρ w _ hN (key _ cap)
  | immEnd _ _ _ _ _ cap a => exact all _ ρ w _ hN (key a cap)

theorem c_Clone (l : Lv) (xs : List Nat) (hl : xs.length ≤ 1000000000) : Contract prog n_slices_Clone [] [.imm l (.fl xs) 1 1 0 xs.length] ⟨.sl 0 1 1 0 xs.length xs.length, [some (.fl xs)]⟩ := by
  rcases Nat.eq_zero_or_pos xs.length with h0 | h0
  · have : xs = [] := List.length_eq_zero_iff.1 h0
    subst this
    exact cl_zero l
  · have h : fnRun C0 E0 (runCode C0 E0 0 60) n_slices_Clone [] [.imm l (.fl xs) 1 1 0 xs.length] (some []) = some (⟨.sl 0 1 1 0 (0 + xs.length) (0 + xs.length), [some (.fl (List.take 0 [] ++ List.take xs.length xs))]⟩,
        [Nat.blt 0 xs.length, leN ((0 + xs.length) * 8) 140737488355328, leN (0 + xs.length) 9223372036854775807, leN xs.length xs.length, leN 0 ([] : List Nat).length], some []) := by kernel_rfl
    have := Contract.run C0_ok E0_ok _ _ _ h (ob (by rw [Nat.blt_eq]; exact h0) <| ob (by simp [leN]; omega) <| ob (by simp [leN]; omega) <| ob (by simp [leN]) <| ob rfl nob)
    simp only [Nat.zero_add, List.take_zero, List.nil_append, List.take_length] at this
    exact this

def lenOk (n : Nat) : Bool := Nat.ble n 1000000000
noncomputable def e_Clone : Entry := autoE n_slices_Clone (.cons .fl .nil) fun t => [⟨⟨.sl 0 1 1 0 t.1.2.length t.1.2.length, [some (.fl t.1.2)]⟩, [lenOk t.1.2.length]⟩]
theorem e_Clone_ok : EntryOk prog e_Clone := autoE_ok fun t => altsCons (fun h => c_Clone t.1.1 t.1.2 (Nat.le_of_ble_eq_true h)) altsNil

noncomputable def L2 : List Entry := e_Clone :: L1
theorem L2_ok : SumsOk prog (sumsOf L2) := sumsOf_cons e_Clone_ok S1_ok
end Go.Plb.Seat

namespace Go.Plb.Seat
open Go Go.Plb
set_option linter.unusedSimpArgs false
set_option linter.unusedVariables false

def okB : Option (Out × List Bool × Path) → Bool
  | some (⟨.bool _ true, []⟩, o, _) => allB o
  | _ => false

theorem okB_spec {r : Option (Out × List Bool × Path)} (h : okB r = true) : ∃ k o p, r = some (⟨.bool k true, []⟩, o, p) ∧ allTrue o := by
  unfold okB at h
  split at h
  · exact ⟨_, _, _, rfl, allB_true h⟩
  · cases h

theorem known_run : okB (fnRun C0 E0 (runCode C0 E0 50 100) n_law06_known [] [] none) = true := by kernel_rfl

theorem c_known : Contract prog n_law06_known [] [] ⟨.bool false true, []⟩ := by
  obtain ⟨k, o, p, h, ho⟩ := okB_spec known_run
  exact (Contract.run C0_ok E0_ok none _ _ h ho).weak (bool_loose _ _ _)

def e_known : Entry := ⟨n_law06_known, fun L args => match L, args with | [], [] => one (.bool false true) [] | _, _ => none⟩
theorem e_known_ok : EntryOk prog e_known := by
  intro L args alts a h ha ho
  simp only [e_known] at h
  split at h
  · exact entry_one h ha ho fun q => c_known
  · cases h

noncomputable def L6 : List Entry := e_known :: L2
theorem L6_ok : SumsOk prog (sumsOf L6) := sumsOf_cons e_known_ok L2_ok
end Go.Plb.Seat

namespace Go.Plb.Seat
open Go Go.Plb
set_option linter.unusedVariables false
set_option maxRecDepth 10000
noncomputable section

inductive small_Norm_X where
  | r0 (a10 : Nat)
def small_Norm_E : small_Norm_X → AE × ASt
  | .r0 a10 => (.ret, ⟨slots 48 [(2, .flt false a10)], [], 0⟩)
theorem small_Norm_hN : NoN small_Norm_E := by intro x; cases x <;> (intro h; cases h)
theorem small_Norm_hI (id : Nat) : NoId id small_Norm_E := by intro x; cases x <;> (intro h; cases h)
def small_Norm_o : small_Norm_X → Out
  | .r0 a10 => ⟨.flt false a10, []⟩
noncomputable def small_Norm_l8 : List Code := flat (BODY n_small_Norm)
def small_Norm_n1 (v_0 : Lv) (l_1 : List Nat) (_ : Unit) : ASt := ⟨slots 48 [(3, .flt false 0), (4, .flt false 4607182418800017408), (11, .imm v_0 (.fl l_1) 1 1 0 (List.length l_1)), (12, .int .i64 (((List.length l_1) : Nat) : Int)), (13, .int .i64 (0 : Int))], [], 0⟩
def small_Norm_t9 : T ((Unit) ⊕ (small_Norm_X)) :=
  .leaf (.inl ())
def small_Norm_n4 (v_0 : Lv) (l_1 : List Nat) : Nat × Nat × Nat → ASt := fun (scale3, sum4, a5) => ⟨slots 48 [(3, .flt false scale3), (4, .flt false sum4), (11, .imm v_0 (.fl l_1) 1 1 0 (List.length l_1)), (12, .int .i64 (((List.length l_1) : Nat) : Int)), (13, .int .i64 ((a5 : Nat) : Int))], [], 0⟩
def small_Norm_n6 : Nat × Nat → ASt := fun (scale8, sum9) => ⟨slots 48 [(3, .flt false scale8), (4, .flt false sum9)], [], 0⟩
noncomputable def small_Norm_l10 : List Code := flat (inLoop ((((small_Norm_l8.drop 3).take 1)).headD .skip))
def small_Norm_n5 (v_0 : Lv) (l_1 : List Nat) (a5 : Nat) : Nat × Nat → ASt := fun (scale6, sum7) => ⟨slots 48 [(3, .flt false scale6), (4, .flt false sum7), (11, .imm v_0 (.fl l_1) 1 1 0 (List.length l_1)), (12, .int .i64 (((List.length l_1) : Nat) : Int)), (13, .int .i64 ((a5 : Nat) : Int))], [], 0⟩
def small_Norm_t11 (l_1 : List Nat) (scale3 : Nat) (sum4 : Nat) (a5 : Nat) : T ((Nat × Nat) ⊕ ((Nat × Nat) ⊕ (small_Norm_X))) :=
  .ask (decide (((a5 : Nat) : Int) < (((List.length l_1) : Nat) : Int)))
    (.need (inB ((a5 : Nat) : Int) (List.length l_1)) <| .need (ltB a5 (List.length l_1)) <| .ask (feq (List.getD l_1 a5 0) 0)
      (.leaf (.inl (scale3, sum4)))
      (.ask (flt scale3 (fabs (List.getD l_1 a5 0)))
        (.leaf (.inl ((fabs (List.getD l_1 a5 0)), (fadd 4607182418800017408 (fmul (fmul sum4 (fdiv scale3 (fabs (List.getD l_1 a5 0)))) (fdiv scale3 (fabs (List.getD l_1 a5 0))))))))
        (.leaf (.inl (scale3, (fadd sum4 (fmul (fdiv (fabs (List.getD l_1 a5 0)) scale3) (fdiv (fabs (List.getD l_1 a5 0)) scale3))))))))
    (.leaf (.inr (.inl (scale3, sum4))))
def small_Norm_t12 (a5 : Nat) (scale6 : Nat) (sum7 : Nat) : T ((Nat × Nat × Nat) ⊕ ((Nat × Nat) ⊕ (small_Norm_X))) :=
  .need (inK .i64 (((a5 + 1) : Nat) : Int)) <| .leaf (.inl (scale6, sum7, (a5 + 1)))
noncomputable def small_Norm_m13 (l_1 : List Nat) : Nat × Nat × Nat → Option ((Nat × Nat × Nat) ⊕ ((Nat × Nat) ⊕ (small_Norm_X))) := fun (scale3, sum4, a5) =>
  seqM ((small_Norm_t11 l_1 scale3 sum4 a5).run) fun (scale6, sum7) =>
  (small_Norm_t12 a5 scale6 sum7).run
theorem small_Norm_s13 (v_0 : Lv) (l_1 : List Nat) (scale3 : Nat) (sum4 : Nat) (a5 : Nat) : Sg prog [] small_Norm_l10 (small_Norm_n4 v_0 l_1 (scale3, sum4, a5)) (small_Norm_m13 l_1 (scale3, sum4, a5)) (small_Norm_n4 v_0 l_1) (exitE 0 small_Norm_n6 small_Norm_E) :=
  Sg.cut 3 (noN_exit small_Norm_hN) (Sg.seg (C := C0) C0_ok L6_ok 60 (small_Norm_l10.take 3) (small_Norm_n4 v_0 l_1 (scale3, sum4, a5)) (small_Norm_t11 l_1 scale3 sum4 a5) (small_Norm_n5 v_0 l_1 a5) (exitE 0 small_Norm_n6 small_Norm_E) [⟨[], [], [3, 4, 11, 12, 13]⟩, ⟨[], [], [3, 4, 11, 12, 13]⟩, ⟨[], [], [3, 4, 11, 12, 13]⟩, ⟨[], [], [3, 4]⟩] (by kernel_rfl)) (fun a => by obtain ⟨scale6, sum7⟩ := a; exact Sg.seg (C := C0) C0_ok L6_ok 60 (small_Norm_l10.drop 3) (small_Norm_n5 v_0 l_1 a5 (scale6, sum7)) (small_Norm_t12 a5 scale6 sum7) (small_Norm_n4 v_0 l_1) (exitE 0 small_Norm_n6 small_Norm_E) [⟨[], [], [3, 4, 11, 12, 13]⟩] (by kernel_rfl))
def small_Norm_n7 : Nat × Nat → ASt := small_Norm_n6
def small_Norm_t14 (scale8 : Nat) (sum9 : Nat) : T ((Empty) ⊕ (small_Norm_X)) :=
  .leaf (.inr (.r0 (fmul scale8 (fsqrt sum9))))
noncomputable def small_Norm_F (l_1 : List Nat) : Option small_Norm_X := toX (seqM ((small_Norm_t9).run) fun _ =>
  seqM (loopM (small_Norm_m13 l_1) (0, 4607182418800017408, 0)) fun (scale8, sum9) =>
  (small_Norm_t14 scale8 sum9).run)
theorem small_Norm_ok (v_0 : Lv) (l_1 : List Nat) {x : small_Norm_X} (h : small_Norm_F l_1 = some x) : Contract prog n_small_Norm [] [.imm v_0 (.fl l_1) 1 1 0 (List.length l_1)] (small_Norm_o x) :=
  Sg.contract false small_Norm_o (by kernel_rfl : prog.funcs[n_small_Norm]? = some (FN n_small_Norm)) (by kernel_rfl : (FN n_small_Norm).body = some (BODY n_small_Norm)) (Sg.cut 3 small_Norm_hN (Sg.seg (C := C0) C0_ok L6_ok 60 (small_Norm_l8.take 3) (entryOf (FN n_small_Norm) [] [.imm v_0 (.fl l_1) 1 1 0 (List.length l_1)]) (small_Norm_t9) (small_Norm_n1 v_0 l_1) small_Norm_E [⟨[], [], [3, 4, 11, 12, 13]⟩] (by kernel_rfl)) (fun a => by cases a; exact Sg.cut 1 small_Norm_hN (Sg.pre ⟨[], [], [3, 4, 11, 12, 13]⟩ rfl (by kernel_rfl : NS.on ⟨[], [], [3, 4, 11, 12, 13]⟩ (small_Norm_n1 v_0 l_1 ()) = (small_Norm_n4 v_0 l_1) (0, 4607182418800017408, 0)) (Sg.loopAt (I := (small_Norm_n4 v_0 l_1)) (J := (small_Norm_n6)) (id := 0) (by kernel_rfl : ((small_Norm_l8.drop 3).take 1) = [.block 0 (.loop (inLoop ((((small_Norm_l8.drop 3).take 1)).headD .skip)))]) small_Norm_hN (small_Norm_hI _) (fun s => by obtain ⟨scale3, sum4, a5⟩ := s; exact small_Norm_s13 v_0 l_1 scale3 sum4 a5) (0, 4607182418800017408, 0))) (fun a => by obtain ⟨scale8, sum9⟩ := a; exact Sg.seg (C := C0) C0_ok L6_ok 60 ((small_Norm_l8.drop 3).drop 1) (small_Norm_n7 (scale8, sum9)) (small_Norm_t14 scale8 sum9) (fun a : Empty => a.elim) small_Norm_E [⟨[], [], [2]⟩] (by kernel_rfl))))
    (fun x => by cases x with | r0 a10 => exact ⟨.inr rfl, [.flt false a10], [], by kernel_rfl, trivial, by kernel_rfl⟩) h

def small_Norm_i0 : Option small_Norm_X → Bool
  | some _ => true
  | none => false
def small_Norm_p0_0 : Option small_Norm_X → Nat
  | some (.r0 x) => x
  | _ => 0
theorem small_Norm_e0 {x : Option small_Norm_X} (h : small_Norm_i0 x = true) : x = some (.r0 (small_Norm_p0_0 x)) := by
  unfold small_Norm_i0 at h
  split at h <;> first | rfl | (cases h; done) | (rename_i y; cases y; rfl)
noncomputable def e_small_Norm : Entry := autoE n_small_Norm (.cons .fl .nil) fun t => [⟨small_Norm_o (.r0 (small_Norm_p0_0 (small_Norm_F t.1.2))), [small_Norm_i0 (small_Norm_F t.1.2)]⟩]
theorem e_small_Norm_ok : EntryOk prog e_small_Norm := autoE_ok fun t => (altsCons (fun h => small_Norm_ok t.1.1 t.1.2 (small_Norm_e0 h)) altsNil)
noncomputable def L_small_Norm : List Entry := e_small_Norm :: L6
theorem L_small_Norm_ok : SumsOk prog (sumsOf L_small_Norm) := sumsOf_cons e_small_Norm_ok L6_ok

inductive ref06_Norm_X where
  | r0 (a10 : Nat)
def ref06_Norm_E : ref06_Norm_X → AE × ASt
  | .r0 a10 => (.ret, ⟨slots 55 [(2, .flt false a10)], [], 0⟩)
theorem ref06_Norm_hN : NoN ref06_Norm_E := by intro x; cases x <;> (intro h; cases h)
theorem ref06_Norm_hI (id : Nat) : NoId id ref06_Norm_E := by intro x; cases x <;> (intro h; cases h)
def ref06_Norm_o : ref06_Norm_X → Out
  | .r0 a10 => ⟨.flt false a10, []⟩
noncomputable def ref06_Norm_l8 : List Code := flat (BODY n_ref06_Norm)
def ref06_Norm_n1 (v_0 : Lv) (l_1 : List Nat) (_ : Unit) : ASt := ⟨slots 55 [(0, .imm v_0 (.fl l_1) 1 1 0 (List.length l_1)), (3, .flt false 0), (4, .flt false 4607182418800017408), (5, .int .i64 (0 : Int))], [], 0⟩
def ref06_Norm_t9 : T ((Unit) ⊕ (ref06_Norm_X)) :=
  .leaf (.inl ())
def ref06_Norm_n4 (v_0 : Lv) (l_1 : List Nat) : Nat × Nat × Nat → ASt := fun (scale3, sum4, i5) => ⟨slots 55 [(0, .imm v_0 (.fl l_1) 1 1 0 (List.length l_1)), (3, .flt false scale3), (4, .flt false sum4), (5, .int .i64 ((i5 : Nat) : Int))], [], 0⟩
def ref06_Norm_n6 : Nat × Nat → ASt := fun (scale8, sum9) => ⟨slots 55 [(3, .flt false scale8), (4, .flt false sum9)], [], 0⟩
noncomputable def ref06_Norm_l10 : List Code := flat (inLoop ((((ref06_Norm_l8.drop 4).take 1)).headD .skip))
def ref06_Norm_n5 (v_0 : Lv) (l_1 : List Nat) (i5 : Nat) : Nat × Nat → ASt := fun (scale6, sum7) => ⟨slots 55 [(0, .imm v_0 (.fl l_1) 1 1 0 (List.length l_1)), (3, .flt false scale6), (4, .flt false sum7), (5, .int .i64 ((i5 : Nat) : Int))], [], 0⟩
def ref06_Norm_t11 (l_1 : List Nat) (scale3 : Nat) (sum4 : Nat) (i5 : Nat) : T ((Nat × Nat) ⊕ ((Nat × Nat) ⊕ (ref06_Norm_X))) :=
  .ask (decide (((i5 : Nat) : Int) < (((List.length l_1) : Nat) : Int)))
    (.need (inB ((i5 : Nat) : Int) (List.length l_1)) <| .need (ltB i5 (List.length l_1)) <| .ask (feq (List.getD l_1 i5 0) 0)
      (.leaf (.inl (scale3, sum4)))
      (.need (inB ((i5 : Nat) : Int) (List.length l_1)) <| .need (ltB i5 (List.length l_1)) <| .ask (flt scale3 (fabs (List.getD l_1 i5 0)))
        (.leaf (.inl ((fabs (List.getD l_1 i5 0)), (fadd 4607182418800017408 (fmul (fmul sum4 (fdiv scale3 (fabs (List.getD l_1 i5 0)))) (fdiv scale3 (fabs (List.getD l_1 i5 0))))))))
        (.leaf (.inl (scale3, (fadd sum4 (fmul (fdiv (fabs (List.getD l_1 i5 0)) scale3) (fdiv (fabs (List.getD l_1 i5 0)) scale3))))))))
    (.leaf (.inr (.inl (scale3, sum4))))
def ref06_Norm_t12 (i5 : Nat) (scale6 : Nat) (sum7 : Nat) : T ((Nat × Nat × Nat) ⊕ ((Nat × Nat) ⊕ (ref06_Norm_X))) :=
  .need (inK .i64 (((i5 + 1) : Nat) : Int)) <| .leaf (.inl (scale6, sum7, (i5 + 1)))
noncomputable def ref06_Norm_m13 (l_1 : List Nat) : Nat × Nat × Nat → Option ((Nat × Nat × Nat) ⊕ ((Nat × Nat) ⊕ (ref06_Norm_X))) := fun (scale3, sum4, i5) =>
  seqM ((ref06_Norm_t11 l_1 scale3 sum4 i5).run) fun (scale6, sum7) =>
  (ref06_Norm_t12 i5 scale6 sum7).run
theorem ref06_Norm_s13 (v_0 : Lv) (l_1 : List Nat) (scale3 : Nat) (sum4 : Nat) (i5 : Nat) : Sg prog [] ref06_Norm_l10 (ref06_Norm_n4 v_0 l_1 (scale3, sum4, i5)) (ref06_Norm_m13 l_1 (scale3, sum4, i5)) (ref06_Norm_n4 v_0 l_1) (exitE 0 ref06_Norm_n6 ref06_Norm_E) :=
  Sg.cut 3 (noN_exit ref06_Norm_hN) (Sg.seg (C := C0) C0_ok L_small_Norm_ok 60 (ref06_Norm_l10.take 3) (ref06_Norm_n4 v_0 l_1 (scale3, sum4, i5)) (ref06_Norm_t11 l_1 scale3 sum4 i5) (ref06_Norm_n5 v_0 l_1 i5) (exitE 0 ref06_Norm_n6 ref06_Norm_E) [⟨[], [], [0, 3, 4, 5]⟩, ⟨[], [], [0, 3, 4, 5]⟩, ⟨[], [], [0, 3, 4, 5]⟩, ⟨[], [], [3, 4]⟩] (by kernel_rfl)) (fun a => by obtain ⟨scale6, sum7⟩ := a; exact Sg.seg (C := C0) C0_ok L_small_Norm_ok 60 (ref06_Norm_l10.drop 3) (ref06_Norm_n5 v_0 l_1 i5 (scale6, sum7)) (ref06_Norm_t12 i5 scale6 sum7) (ref06_Norm_n4 v_0 l_1) (exitE 0 ref06_Norm_n6 ref06_Norm_E) [⟨[], [], [0, 3, 4, 5]⟩] (by kernel_rfl))
def ref06_Norm_n7 : Nat × Nat → ASt := ref06_Norm_n6
def ref06_Norm_t14 (scale8 : Nat) (sum9 : Nat) : T ((Empty) ⊕ (ref06_Norm_X)) :=
  .leaf (.inr (.r0 (fmul scale8 (fsqrt sum9))))
noncomputable def ref06_Norm_F (l_1 : List Nat) : Option ref06_Norm_X := toX (seqM ((ref06_Norm_t9).run) fun _ =>
  seqM (loopM (ref06_Norm_m13 l_1) (0, 4607182418800017408, 0)) fun (scale8, sum9) =>
  (ref06_Norm_t14 scale8 sum9).run)
theorem ref06_Norm_ok (v_0 : Lv) (l_1 : List Nat) {x : ref06_Norm_X} (h : ref06_Norm_F l_1 = some x) : Contract prog n_ref06_Norm [] [.imm v_0 (.fl l_1) 1 1 0 (List.length l_1)] (ref06_Norm_o x) :=
  Sg.contract false ref06_Norm_o (by kernel_rfl : prog.funcs[n_ref06_Norm]? = some (FN n_ref06_Norm)) (by kernel_rfl : (FN n_ref06_Norm).body = some (BODY n_ref06_Norm)) (Sg.cut 4 ref06_Norm_hN (Sg.seg (C := C0) C0_ok L_small_Norm_ok 60 (ref06_Norm_l8.take 4) (entryOf (FN n_ref06_Norm) [] [.imm v_0 (.fl l_1) 1 1 0 (List.length l_1)]) (ref06_Norm_t9) (ref06_Norm_n1 v_0 l_1) ref06_Norm_E [⟨[], [], [0, 3, 4, 5]⟩] (by kernel_rfl)) (fun a => by cases a; exact Sg.cut 1 ref06_Norm_hN (Sg.pre ⟨[], [], [0, 3, 4, 5]⟩ rfl (by kernel_rfl : NS.on ⟨[], [], [0, 3, 4, 5]⟩ (ref06_Norm_n1 v_0 l_1 ()) = (ref06_Norm_n4 v_0 l_1) (0, 4607182418800017408, 0)) (Sg.loopAt (I := (ref06_Norm_n4 v_0 l_1)) (J := (ref06_Norm_n6)) (id := 0) (by kernel_rfl : ((ref06_Norm_l8.drop 4).take 1) = [.block 0 (.loop (inLoop ((((ref06_Norm_l8.drop 4).take 1)).headD .skip)))]) ref06_Norm_hN (ref06_Norm_hI _) (fun s => by obtain ⟨scale3, sum4, i5⟩ := s; exact ref06_Norm_s13 v_0 l_1 scale3 sum4 i5) (0, 4607182418800017408, 0))) (fun a => by obtain ⟨scale8, sum9⟩ := a; exact Sg.seg (C := C0) C0_ok L_small_Norm_ok 60 ((ref06_Norm_l8.drop 4).drop 1) (ref06_Norm_n7 (scale8, sum9)) (ref06_Norm_t14 scale8 sum9) (fun a : Empty => a.elim) ref06_Norm_E [⟨[], [], [2]⟩] (by kernel_rfl))))
    (fun x => by cases x with | r0 a10 => exact ⟨.inr rfl, [.flt false a10], [], by kernel_rfl, trivial, by kernel_rfl⟩) h

def ref06_Norm_i0 : Option ref06_Norm_X → Bool
  | some _ => true
  | none => false
def ref06_Norm_p0_0 : Option ref06_Norm_X → Nat
  | some (.r0 x) => x
  | _ => 0
theorem ref06_Norm_e0 {x : Option ref06_Norm_X} (h : ref06_Norm_i0 x = true) : x = some (.r0 (ref06_Norm_p0_0 x)) := by
  unfold ref06_Norm_i0 at h
  split at h <;> first | rfl | (cases h; done) | (rename_i y; cases y; rfl)
noncomputable def e_ref06_Norm : Entry := autoE n_ref06_Norm (.cons .fl .nil) fun t => [⟨ref06_Norm_o (.r0 (ref06_Norm_p0_0 (ref06_Norm_F t.1.2))), [ref06_Norm_i0 (ref06_Norm_F t.1.2)]⟩]
theorem e_ref06_Norm_ok : EntryOk prog e_ref06_Norm := autoE_ok fun t => (altsCons (fun h => ref06_Norm_ok t.1.1 t.1.2 (ref06_Norm_e0 h)) altsNil)
noncomputable def L_ref06_Norm : List Entry := e_ref06_Norm :: L_small_Norm
theorem L_ref06_Norm_ok : SumsOk prog (sumsOf L_ref06_Norm) := sumsOf_cons e_ref06_Norm_ok L_small_Norm_ok

inductive law06_SmallNorms_X where
  | r0 (b2 : Bool)
def law06_SmallNorms_E : law06_SmallNorms_X → AE × ASt
  | .r0 b2 => (.ret, ⟨slots 15 [(2, .bool false b2)], [], 0⟩)
theorem law06_SmallNorms_hN : NoN law06_SmallNorms_E := by intro x; cases x <;> (intro h; cases h)
theorem law06_SmallNorms_hI (id : Nat) : NoId id law06_SmallNorms_E := by intro x; cases x <;> (intro h; cases h)
def law06_SmallNorms_o : law06_SmallNorms_X → Out
  | .r0 b2 => ⟨.bool false b2, []⟩
noncomputable def law06_SmallNorms_l2 : List Code := flat (BODY n_law06_SmallNorms)
def law06_SmallNorms_n1 (b1 : Bool) : ASt := ⟨slots 15 [(2, .bool false b1)], [], 0⟩
def law06_SmallNorms_t3 (l_1 : List Nat) : T ((Bool) ⊕ (law06_SmallNorms_X)) :=
  .ask (decide ((((List.length l_1) : Nat) : Int) > (600 : Int)))
    (.leaf (.inr (.r0 true)))
    (.need (slOk 0 (List.length l_1) l_1) <| .need (small_Norm_i0 (small_Norm_F (cutL 0 (List.length l_1) l_1))) <| .need (slOk 0 (List.length l_1) l_1) <| .need (ref06_Norm_i0 (ref06_Norm_F (cutL 0 (List.length l_1) l_1))) <| .ask (sameB (small_Norm_p0_0 (small_Norm_F (cutL 0 (List.length l_1) l_1))) (ref06_Norm_p0_0 (ref06_Norm_F (cutL 0 (List.length l_1) l_1))))
      (.leaf (.inl true))
      (.leaf (.inl false)))
def law06_SmallNorms_t4 (b1 : Bool) : T ((Empty) ⊕ (law06_SmallNorms_X)) :=
  .leaf (.inr (.r0 b1))
noncomputable def law06_SmallNorms_F (l_1 : List Nat) : Option law06_SmallNorms_X := toX (seqM ((law06_SmallNorms_t3 l_1).run) fun b1 =>
  (law06_SmallNorms_t4 b1).run)
theorem law06_SmallNorms_ok (v_0 : Lv) (l_1 : List Nat) {x : law06_SmallNorms_X} (h : law06_SmallNorms_F l_1 = some x) : Contract prog n_law06_SmallNorms [] [.imm v_0 (.fl l_1) 1 1 0 (List.length l_1)] (law06_SmallNorms_o x) :=
  Sg.contract false law06_SmallNorms_o (by kernel_rfl : prog.funcs[n_law06_SmallNorms]? = some (FN n_law06_SmallNorms)) (by kernel_rfl : (FN n_law06_SmallNorms).body = some (BODY n_law06_SmallNorms)) (Sg.cut 4 law06_SmallNorms_hN (Sg.seg (C := C0) C0_ok L_ref06_Norm_ok 60 (law06_SmallNorms_l2.take 4) (entryOf (FN n_law06_SmallNorms) [] [.imm v_0 (.fl l_1) 1 1 0 (List.length l_1)]) (law06_SmallNorms_t3 l_1) law06_SmallNorms_n1 law06_SmallNorms_E [⟨[], [], [2]⟩, ⟨[], [], [2]⟩, ⟨[], [], [2]⟩] (by kernel_rfl)) (fun b1 => by exact Sg.seg (C := C0) C0_ok L_ref06_Norm_ok 60 (law06_SmallNorms_l2.drop 4) (law06_SmallNorms_n1 b1) (law06_SmallNorms_t4 b1) (fun a : Empty => a.elim) law06_SmallNorms_E [⟨[], [], [2]⟩] (by kernel_rfl)))
    (fun x => by cases x with | r0 b2 => exact ⟨.inr rfl, [.bool false b2], [], by kernel_rfl, trivial, by kernel_rfl⟩) h

def law06_SmallNorms_i0 : Option law06_SmallNorms_X → Bool
  | some _ => true
  | none => false
def law06_SmallNorms_p0_0 : Option law06_SmallNorms_X → Bool
  | some (.r0 x) => x
  | _ => false
theorem law06_SmallNorms_e0 {x : Option law06_SmallNorms_X} (h : law06_SmallNorms_i0 x = true) : x = some (.r0 (law06_SmallNorms_p0_0 x)) := by
  unfold law06_SmallNorms_i0 at h
  split at h <;> first | rfl | (cases h; done) | (rename_i y; cases y; rfl)
noncomputable def e_law06_SmallNorms : Entry := autoE n_law06_SmallNorms (.cons .fl .nil) fun t => [⟨law06_SmallNorms_o (.r0 (law06_SmallNorms_p0_0 (law06_SmallNorms_F t.1.2))), [law06_SmallNorms_i0 (law06_SmallNorms_F t.1.2)]⟩]
theorem e_law06_SmallNorms_ok : EntryOk prog e_law06_SmallNorms := autoE_ok fun t => (altsCons (fun h => law06_SmallNorms_ok t.1.1 t.1.2 (law06_SmallNorms_e0 h)) altsNil)
noncomputable def L_law06_SmallNorms : List Entry := e_law06_SmallNorms :: L_ref06_Norm
theorem L_law06_SmallNorms_ok : SumsOk prog (sumsOf L_law06_SmallNorms) := sumsOf_cons e_law06_SmallNorms_ok L_ref06_Norm_ok

inductive small_Eigen_X where
  | r0 (x18 : Nat) (y19 : Nat) (cs20 : Nat) (sn21 : Nat)
def small_Eigen_E : small_Eigen_X → AE × ASt
  | .r0 x18 y19 cs20 sn21 => (.ret, ⟨slots 153 [(6, .flt false x18), (7, .flt false y19), (8, .flt false cs20), (9, .flt false sn21)], [], 0⟩)
theorem small_Eigen_hN : NoN small_Eigen_E := by intro x; cases x <;> (intro h; cases h)
theorem small_Eigen_hI (id : Nat) : NoId id small_Eigen_E := by intro x; cases x <;> (intro h; cases h)
def small_Eigen_o : small_Eigen_X → Out
  | .r0 x18 y19 cs20 sn21 => ⟨.tup [.flt false x18, .flt false y19, .flt false cs20, .flt false sn21], []⟩
noncomputable def small_Eigen_l7 : List Code := flat (BODY n_small_Eigen)
def small_Eigen_n1 (b_1 : Nat) : Nat × Nat × Nat × Nat × Nat × Nat × Nat → ASt := fun (sm1, df2, ad3, tb4, ab5, hi6, lo7) => ⟨slots 153 [(1, .flt false b_1), (10, .flt false sm1), (11, .flt false df2), (12, .flt false ad3), (13, .flt false tb4), (14, .flt false ab5), (15, .flt false hi6), (16, .flt false lo7)], [], 0⟩
def small_Eigen_t8 (a_0 : Nat) (b_1 : Nat) (c_2 : Nat) : T ((Nat × Nat × Nat × Nat × Nat × Nat × Nat) ⊕ (small_Eigen_X)) :=
  .ask (fgt (fabs a_0) (fabs c_2))
    (.leaf (.inl ((fadd a_0 c_2), (fsub a_0 c_2), (fabs (fsub a_0 c_2)), (fadd b_1 b_1), (fabs (fadd b_1 b_1)), a_0, c_2)))
    (.leaf (.inl ((fadd a_0 c_2), (fsub a_0 c_2), (fabs (fsub a_0 c_2)), (fadd b_1 b_1), (fabs (fadd b_1 b_1)), c_2, a_0)))
def small_Eigen_n2 (b_1 : Nat) (sm1 : Nat) (df2 : Nat) (tb4 : Nat) (ab5 : Nat) (hi6 : Nat) (lo7 : Nat) (rt8 : Nat) : ASt := ⟨slots 153 [(1, .flt false b_1), (10, .flt false sm1), (11, .flt false df2), (13, .flt false tb4), (14, .flt false ab5), (15, .flt false hi6), (16, .flt false lo7), (17, .flt false rt8)], [], 0⟩
def small_Eigen_t9 (ad3 : Nat) (ab5 : Nat) : T ((Nat) ⊕ (small_Eigen_X)) :=
  .ask (fgt ad3 ab5)
    (.leaf (.inl (fmul ad3 (fsqrt (fadd 4607182418800017408 (fmul (fdiv ab5 ad3) (fdiv ab5 ad3)))))))
    (.ask (flt ad3 ab5)
      (.leaf (.inl (fmul ab5 (fsqrt (fadd 4607182418800017408 (fmul (fdiv ad3 ab5) (fdiv ad3 ab5)))))))
      (.leaf (.inl (fmul ab5 (fsqrt 4611686018427387904)))))
def small_Eigen_n3 (df2 : Nat) (tb4 : Nat) (ab5 : Nat) (rt8 : Nat) : Nat × Nat × Int → ASt := fun (x9, y10, one11) => ⟨slots 153 [(6, .flt false x9), (7, .flt false y10), (11, .flt false df2), (13, .flt false tb4), (14, .flt false ab5), (17, .flt false rt8), (18, .int .i64 one11), (19, .int .i64 (1 : Int))], [], 0⟩
def small_Eigen_t10 (b_1 : Nat) (sm1 : Nat) (hi6 : Nat) (lo7 : Nat) (rt8 : Nat) : T ((Nat × Nat × Int) ⊕ (small_Eigen_X)) :=
  .ask (flt sm1 0)
    (.leaf (.inl ((fmul 4602678819172646912 (fsub sm1 rt8)), (fsub (fmul (fdiv hi6 (fmul 4602678819172646912 (fsub sm1 rt8))) lo7) (fmul (fdiv b_1 (fmul 4602678819172646912 (fsub sm1 rt8))) b_1)), (-1 : Int))))
    (.ask (fgt sm1 0)
      (.leaf (.inl ((fmul 4602678819172646912 (fadd sm1 rt8)), (fsub (fmul (fdiv hi6 (fmul 4602678819172646912 (fadd sm1 rt8))) lo7) (fmul (fdiv b_1 (fmul 4602678819172646912 (fadd sm1 rt8))) b_1)), (1 : Int))))
      (.leaf (.inl ((fmul 4602678819172646912 rt8), (fmul 13826050856027422720 rt8), (1 : Int)))))
def small_Eigen_n4 (tb4 : Nat) (ab5 : Nat) (x9 : Nat) (y10 : Nat) (one11 : Int) : Nat × Int → ASt := fun (cs12, two13) => ⟨slots 153 [(6, .flt false x9), (7, .flt false y10), (8, .flt false cs12), (13, .flt false tb4), (14, .flt false ab5), (18, .int .i64 one11), (19, .int .i64 two13)], [], 0⟩
def small_Eigen_t11 (df2 : Nat) (rt8 : Nat) : T ((Nat × Int) ⊕ (small_Eigen_X)) :=
  .ask (fge df2 0)
    (.leaf (.inl ((fadd df2 rt8), (1 : Int))))
    (.leaf (.inl ((fsub df2 rt8), (-1 : Int))))
def small_Eigen_n5 (x9 : Nat) (y10 : Nat) (one11 : Int) (two13 : Int) : Nat × Nat → ASt := fun (cs14, sn15) => ⟨slots 153 [(6, .flt false x9), (7, .flt false y10), (8, .flt false cs14), (9, .flt false sn15), (18, .int .i64 one11), (19, .int .i64 two13)], [], 0⟩
def small_Eigen_t12 (tb4 : Nat) (ab5 : Nat) (cs12 : Nat) : T ((Nat × Nat) ⊕ (small_Eigen_X)) :=
  .ask (fgt (fabs cs12) ab5)
    (.leaf (.inl ((fmul (fdiv (fneg tb4) cs12) (fdiv 4607182418800017408 (fsqrt (fadd 4607182418800017408 (fmul (fdiv (fneg tb4) cs12) (fdiv (fneg tb4) cs12)))))), (fdiv 4607182418800017408 (fsqrt (fadd 4607182418800017408 (fmul (fdiv (fneg tb4) cs12) (fdiv (fneg tb4) cs12))))))))
    (.ask (feq ab5 0)
      (.leaf (.inl (4607182418800017408, 0)))
      (.leaf (.inl ((fdiv 4607182418800017408 (fsqrt (fadd 4607182418800017408 (fmul (fdiv (fneg cs12) tb4) (fdiv (fneg cs12) tb4))))), (fmul (fdiv (fneg cs12) tb4) (fdiv 4607182418800017408 (fsqrt (fadd 4607182418800017408 (fmul (fdiv (fneg cs12) tb4) (fdiv (fneg cs12) tb4))))))))))
def small_Eigen_n6 (x9 : Nat) (y10 : Nat) : Nat × Nat → ASt := fun (cs16, sn17) => ⟨slots 153 [(6, .flt false x9), (7, .flt false y10), (8, .flt false cs16), (9, .flt false sn17)], [], 0⟩
def small_Eigen_t13 (one11 : Int) (two13 : Int) (cs14 : Nat) (sn15 : Nat) : T ((Nat × Nat) ⊕ (small_Eigen_X)) :=
  .ask (one11 == two13)
    (.leaf (.inl ((fneg sn15), cs14)))
    (.leaf (.inl (cs14, sn15)))
def small_Eigen_t14 (x9 : Nat) (y10 : Nat) (cs16 : Nat) (sn17 : Nat) : T ((Empty) ⊕ (small_Eigen_X)) :=
  .leaf (.inr (.r0 x9 y10 cs16 sn17))
noncomputable def small_Eigen_F (a_0 : Nat) (b_1 : Nat) (c_2 : Nat) : Option small_Eigen_X := toX (seqM ((small_Eigen_t8 a_0 b_1 c_2).run) fun (sm1, df2, ad3, tb4, ab5, hi6, lo7) =>
  seqM ((small_Eigen_t9 ad3 ab5).run) fun rt8 =>
  seqM ((small_Eigen_t10 b_1 sm1 hi6 lo7 rt8).run) fun (x9, y10, one11) =>
  seqM ((small_Eigen_t11 df2 rt8).run) fun (cs12, two13) =>
  seqM ((small_Eigen_t12 tb4 ab5 cs12).run) fun (cs14, sn15) =>
  seqM ((small_Eigen_t13 one11 two13 cs14 sn15).run) fun (cs16, sn17) =>
  (small_Eigen_t14 x9 y10 cs16 sn17).run)
theorem small_Eigen_ok (a_0 : Nat) (b_1 : Nat) (c_2 : Nat) {x : small_Eigen_X} (h : small_Eigen_F a_0 b_1 c_2 = some x) : Contract prog n_small_Eigen [] [.flt false a_0, .flt false b_1, .flt false c_2] (small_Eigen_o x) :=
  Sg.contract false small_Eigen_o (by kernel_rfl : prog.funcs[n_small_Eigen]? = some (FN n_small_Eigen)) (by kernel_rfl : (FN n_small_Eigen).body = some (BODY n_small_Eigen)) (Sg.cut 7 small_Eigen_hN (Sg.seg (C := C0) C0_ok L_law06_SmallNorms_ok 60 (small_Eigen_l7.take 7) (entryOf (FN n_small_Eigen) [] [.flt false a_0, .flt false b_1, .flt false c_2]) (small_Eigen_t8 a_0 b_1 c_2) (small_Eigen_n1 b_1) small_Eigen_E [⟨[], [], [1, 10, 11, 12, 13, 14, 15, 16]⟩, ⟨[], [], [1, 10, 11, 12, 13, 14, 15, 16]⟩] (by kernel_rfl)) (fun a => by obtain ⟨sm1, df2, ad3, tb4, ab5, hi6, lo7⟩ := a; exact Sg.cut 2 small_Eigen_hN (Sg.seg (C := C0) C0_ok L_law06_SmallNorms_ok 60 ((small_Eigen_l7.drop 7).take 2) (small_Eigen_n1 b_1 (sm1, df2, ad3, tb4, ab5, hi6, lo7)) (small_Eigen_t9 ad3 ab5) (small_Eigen_n2 b_1 sm1 df2 tb4 ab5 hi6 lo7) small_Eigen_E [⟨[], [], [1, 10, 11, 13, 14, 15, 16, 17]⟩, ⟨[], [], [1, 10, 11, 13, 14, 15, 16, 17]⟩, ⟨[], [], [1, 10, 11, 13, 14, 15, 16, 17]⟩] (by kernel_rfl)) (fun rt8 => by exact Sg.cut 2 small_Eigen_hN (Sg.seg (C := C0) C0_ok L_law06_SmallNorms_ok 60 (((small_Eigen_l7.drop 7).drop 2).take 2) (small_Eigen_n2 b_1 sm1 df2 tb4 ab5 hi6 lo7 rt8) (small_Eigen_t10 b_1 sm1 hi6 lo7 rt8) (small_Eigen_n3 df2 tb4 ab5 rt8) small_Eigen_E [⟨[], [], [6, 7, 11, 13, 14, 17, 18, 19]⟩, ⟨[], [], [6, 7, 11, 13, 14, 17, 18, 19]⟩, ⟨[], [], [6, 7, 11, 13, 14, 17, 18, 19]⟩] (by kernel_rfl)) (fun a => by obtain ⟨x9, y10, one11⟩ := a; exact Sg.cut 2 small_Eigen_hN (Sg.seg (C := C0) C0_ok L_law06_SmallNorms_ok 60 ((((small_Eigen_l7.drop 7).drop 2).drop 2).take 2) (small_Eigen_n3 df2 tb4 ab5 rt8 (x9, y10, one11)) (small_Eigen_t11 df2 rt8) (small_Eigen_n4 tb4 ab5 x9 y10 one11) small_Eigen_E [⟨[], [], [6, 7, 8, 13, 14, 18, 19]⟩, ⟨[], [], [6, 7, 8, 13, 14, 18, 19]⟩] (by kernel_rfl)) (fun a => by obtain ⟨cs12, two13⟩ := a; exact Sg.cut 1 small_Eigen_hN (Sg.seg (C := C0) C0_ok L_law06_SmallNorms_ok 60 (((((small_Eigen_l7.drop 7).drop 2).drop 2).drop 2).take 1) (small_Eigen_n4 tb4 ab5 x9 y10 one11 (cs12, two13)) (small_Eigen_t12 tb4 ab5 cs12) (small_Eigen_n5 x9 y10 one11 two13) small_Eigen_E [⟨[], [], [6, 7, 8, 9, 18, 19]⟩, ⟨[], [], [6, 7, 8, 9, 18, 19]⟩, ⟨[], [], [6, 7, 8, 9, 18, 19]⟩] (by kernel_rfl)) (fun a => by obtain ⟨cs14, sn15⟩ := a; exact Sg.cut 2 small_Eigen_hN (Sg.seg (C := C0) C0_ok L_law06_SmallNorms_ok 60 ((((((small_Eigen_l7.drop 7).drop 2).drop 2).drop 2).drop 1).take 2) (small_Eigen_n5 x9 y10 one11 two13 (cs14, sn15)) (small_Eigen_t13 one11 two13 cs14 sn15) (small_Eigen_n6 x9 y10) small_Eigen_E [⟨[], [], [6, 7, 8, 9]⟩, ⟨[], [], [6, 7, 8, 9]⟩] (by kernel_rfl)) (fun a => by obtain ⟨cs16, sn17⟩ := a; exact Sg.seg (C := C0) C0_ok L_law06_SmallNorms_ok 60 ((((((small_Eigen_l7.drop 7).drop 2).drop 2).drop 2).drop 1).drop 2) (small_Eigen_n6 x9 y10 (cs16, sn17)) (small_Eigen_t14 x9 y10 cs16 sn17) (fun a : Empty => a.elim) small_Eigen_E [⟨[], [], [6, 7, 8, 9]⟩] (by kernel_rfl))))))))
    (fun x => by cases x with | r0 x18 y19 cs20 sn21 => exact ⟨.inr rfl, [.flt false x18, .flt false y19, .flt false cs20, .flt false sn21], [], by kernel_rfl, trivial, by kernel_rfl⟩) h

def small_Eigen_i0 : Option small_Eigen_X → Bool
  | some _ => true
  | none => false
def small_Eigen_p0_0 : Option small_Eigen_X → Nat
  | some (.r0 x _ _ _) => x
  | _ => 0
def small_Eigen_p0_1 : Option small_Eigen_X → Nat
  | some (.r0 _ x _ _) => x
  | _ => 0
def small_Eigen_p0_2 : Option small_Eigen_X → Nat
  | some (.r0 _ _ x _) => x
  | _ => 0
def small_Eigen_p0_3 : Option small_Eigen_X → Nat
  | some (.r0 _ _ _ x) => x
  | _ => 0
theorem small_Eigen_e0 {x : Option small_Eigen_X} (h : small_Eigen_i0 x = true) : x = some (.r0 (small_Eigen_p0_0 x) (small_Eigen_p0_1 x) (small_Eigen_p0_2 x) (small_Eigen_p0_3 x)) := by
  unfold small_Eigen_i0 at h
  split at h <;> first | rfl | (cases h; done) | (rename_i y; cases y; rfl)
noncomputable def e_small_Eigen : Entry := autoE n_small_Eigen (.cons (.flt false) (.cons (.flt false) (.cons (.flt false) .nil))) fun t => [⟨small_Eigen_o (.r0 (small_Eigen_p0_0 (small_Eigen_F t.1 t.2.1 t.2.2.1)) (small_Eigen_p0_1 (small_Eigen_F t.1 t.2.1 t.2.2.1)) (small_Eigen_p0_2 (small_Eigen_F t.1 t.2.1 t.2.2.1)) (small_Eigen_p0_3 (small_Eigen_F t.1 t.2.1 t.2.2.1))), [small_Eigen_i0 (small_Eigen_F t.1 t.2.1 t.2.2.1)]⟩]
theorem e_small_Eigen_ok : EntryOk prog e_small_Eigen := autoE_ok fun t => (altsCons (fun h => small_Eigen_ok t.1 t.2.1 t.2.2.1 (small_Eigen_e0 h)) altsNil)
noncomputable def L_small_Eigen : List Entry := e_small_Eigen :: L_law06_SmallNorms
theorem L_small_Eigen_ok : SumsOk prog (sumsOf L_small_Eigen) := sumsOf_cons e_small_Eigen_ok L_law06_SmallNorms_ok

inductive ref06_Eigen_X where
  | r0 (a19 : Nat) (a20 : Nat) (a21 : Nat) (a22 : Nat)
def ref06_Eigen_E : ref06_Eigen_X → AE × ASt
  | .r0 a19 a20 a21 a22 => (.ret, ⟨slots 174 [(6, .flt false a19), (7, .flt false a20), (8, .flt false a21), (9, .flt false a22)], [], 0⟩)
theorem ref06_Eigen_hN : NoN ref06_Eigen_E := by intro x; cases x <;> (intro h; cases h)
theorem ref06_Eigen_hI (id : Nat) : NoId id ref06_Eigen_E := by intro x; cases x <;> (intro h; cases h)
def ref06_Eigen_o : ref06_Eigen_X → Out
  | .r0 a19 a20 a21 a22 => ⟨.tup [.flt false a19, .flt false a20, .flt false a21, .flt false a22], []⟩
noncomputable def ref06_Eigen_l8 : List Code := flat (BODY n_ref06_Eigen)
def ref06_Eigen_n1 (b_1 : Nat) : Nat × Nat × Nat × Nat × Nat × Nat × Nat → ASt := fun (sm1, df2, ad3, tb4, ab5, hi6, lo7) => ⟨slots 174 [(1, .flt false b_1), (10, .flt false sm1), (11, .flt false df2), (12, .flt false ad3), (13, .flt false tb4), (14, .flt false ab5), (15, .flt false hi6), (16, .flt false lo7)], [], 0⟩
def ref06_Eigen_t9 (a_0 : Nat) (b_1 : Nat) (c_2 : Nat) : T ((Nat × Nat × Nat × Nat × Nat × Nat × Nat) ⊕ (ref06_Eigen_X)) :=
  .ask (fgt (fabs a_0) (fabs c_2))
    (.leaf (.inl ((fadd a_0 c_2), (fsub a_0 c_2), (fabs (fsub a_0 c_2)), (fadd b_1 b_1), (fabs (fadd b_1 b_1)), a_0, c_2)))
    (.leaf (.inl ((fadd a_0 c_2), (fsub a_0 c_2), (fabs (fsub a_0 c_2)), (fadd b_1 b_1), (fabs (fadd b_1 b_1)), c_2, a_0)))
def ref06_Eigen_n2 (b_1 : Nat) (sm1 : Nat) (df2 : Nat) (tb4 : Nat) (ab5 : Nat) (hi6 : Nat) (lo7 : Nat) (rt8 : Nat) : ASt := ⟨slots 174 [(1, .flt false b_1), (10, .flt false sm1), (11, .flt false df2), (13, .flt false tb4), (14, .flt false ab5), (15, .flt false hi6), (16, .flt false lo7), (17, .flt false rt8)], [], 0⟩
def ref06_Eigen_t10 (ad3 : Nat) (ab5 : Nat) : T ((Nat) ⊕ (ref06_Eigen_X)) :=
  .ask (fgt ad3 ab5)
    (.leaf (.inl (fmul ad3 (fsqrt (fadd 4607182418800017408 (fmul (fdiv ab5 ad3) (fdiv ab5 ad3)))))))
    (.ask (flt ad3 ab5)
      (.leaf (.inl (fmul ab5 (fsqrt (fadd 4607182418800017408 (fmul (fdiv ad3 ab5) (fdiv ad3 ab5)))))))
      (.leaf (.inl (fmul ab5 (fsqrt 4611686018427387904)))))
def ref06_Eigen_n3 (b_1 : Nat) (sm1 : Nat) (df2 : Nat) (tb4 : Nat) (ab5 : Nat) (hi6 : Nat) (lo7 : Nat) (rt8 : Nat) (b9 : Bool) : ASt := ⟨slots 174 [(1, .flt false b_1), (10, .flt false sm1), (11, .flt false df2), (13, .flt false tb4), (14, .flt false ab5), (15, .flt false hi6), (16, .flt false lo7), (17, .flt false rt8), (24, .int .i64 (1 : Int)), (25, .int .i64 (1 : Int)), (93, .bool false b9)], [], 0⟩
def ref06_Eigen_t11 (sm1 : Nat) : T ((Bool) ⊕ (ref06_Eigen_X)) :=
  .ask (flt sm1 0)
    (.leaf (.inl true))
    (.leaf (.inl (fgt sm1 0)))
def ref06_Eigen_n4 (df2 : Nat) (tb4 : Nat) (ab5 : Nat) (rt8 : Nat) : Nat × Nat × Int → ASt := fun (x10, y11, one12) => ⟨slots 174 [(11, .flt false df2), (13, .flt false tb4), (14, .flt false ab5), (17, .flt false rt8), (22, .flt false x10), (23, .flt false y11), (24, .int .i64 one12), (25, .int .i64 (1 : Int))], [], 0⟩
def ref06_Eigen_t12 (b_1 : Nat) (sm1 : Nat) (hi6 : Nat) (lo7 : Nat) (rt8 : Nat) (b9 : Bool) : T ((Nat × Nat × Int) ⊕ (ref06_Eigen_X)) :=
  .ask b9
    (.ask (flt sm1 0)
      (.leaf (.inl ((fmul 4602678819172646912 (fsub sm1 rt8)), (fsub (fmul (fdiv hi6 (fmul 4602678819172646912 (fsub sm1 rt8))) lo7) (fmul (fdiv b_1 (fmul 4602678819172646912 (fsub sm1 rt8))) b_1)), (-1 : Int))))
      (.leaf (.inl ((fmul 4602678819172646912 (fadd sm1 rt8)), (fsub (fmul (fdiv hi6 (fmul 4602678819172646912 (fadd sm1 rt8))) lo7) (fmul (fdiv b_1 (fmul 4602678819172646912 (fadd sm1 rt8))) b_1)), (1 : Int)))))
    (.leaf (.inl ((fmul 4602678819172646912 rt8), (fmul 13826050856027422720 rt8), (1 : Int))))
def ref06_Eigen_n5 (tb4 : Nat) (ab5 : Nat) (x10 : Nat) (y11 : Nat) (one12 : Int) : Int × Nat → ASt := fun (two13, cs14) => ⟨slots 174 [(13, .flt false tb4), (14, .flt false ab5), (22, .flt false x10), (23, .flt false y11), (24, .int .i64 one12), (25, .int .i64 two13), (28, .flt false cs14)], [], 0⟩
def ref06_Eigen_t13 (df2 : Nat) (rt8 : Nat) : T ((Int × Nat) ⊕ (ref06_Eigen_X)) :=
  .ask (fge df2 0)
    (.leaf (.inl ((1 : Int), (fadd df2 rt8))))
    (.leaf (.inl ((-1 : Int), (fsub df2 rt8))))
def ref06_Eigen_n6 (x10 : Nat) (y11 : Nat) (one12 : Int) (two13 : Int) : Nat × Nat → ASt := fun (cs15, sn16) => ⟨slots 174 [(22, .flt false x10), (23, .flt false y11), (24, .int .i64 one12), (25, .int .i64 two13), (28, .flt false cs15), (29, .flt false sn16)], [], 0⟩
def ref06_Eigen_t14 (tb4 : Nat) (ab5 : Nat) (cs14 : Nat) : T ((Nat × Nat) ⊕ (ref06_Eigen_X)) :=
  .ask (fgt (fabs cs14) ab5)
    (.leaf (.inl ((fmul (fdiv (fneg tb4) cs14) (fdiv 4607182418800017408 (fsqrt (fadd 4607182418800017408 (fmul (fdiv (fneg tb4) cs14) (fdiv (fneg tb4) cs14)))))), (fdiv 4607182418800017408 (fsqrt (fadd 4607182418800017408 (fmul (fdiv (fneg tb4) cs14) (fdiv (fneg tb4) cs14))))))))
    (.ask (feq ab5 0)
      (.leaf (.inl (4607182418800017408, 0)))
      (.leaf (.inl ((fdiv 4607182418800017408 (fsqrt (fadd 4607182418800017408 (fmul (fdiv (fneg cs14) tb4) (fdiv (fneg cs14) tb4))))), (fmul (fdiv (fneg cs14) tb4) (fdiv 4607182418800017408 (fsqrt (fadd 4607182418800017408 (fmul (fdiv (fneg cs14) tb4) (fdiv (fneg cs14) tb4))))))))))
def ref06_Eigen_n7 (x10 : Nat) (y11 : Nat) : Nat × Nat → ASt := fun (cs17, sn18) => ⟨slots 174 [(22, .flt false x10), (23, .flt false y11), (28, .flt false cs17), (29, .flt false sn18)], [], 0⟩
def ref06_Eigen_t15 (one12 : Int) (two13 : Int) (cs15 : Nat) (sn16 : Nat) : T ((Nat × Nat) ⊕ (ref06_Eigen_X)) :=
  .ask (one12 == two13)
    (.leaf (.inl ((fneg sn16), cs15)))
    (.leaf (.inl (cs15, sn16)))
def ref06_Eigen_t16 (x10 : Nat) (y11 : Nat) (cs17 : Nat) (sn18 : Nat) : T ((Empty) ⊕ (ref06_Eigen_X)) :=
  .leaf (.inr (.r0 x10 y11 cs17 sn18))
noncomputable def ref06_Eigen_F (a_0 : Nat) (b_1 : Nat) (c_2 : Nat) : Option ref06_Eigen_X := toX (seqM ((ref06_Eigen_t9 a_0 b_1 c_2).run) fun (sm1, df2, ad3, tb4, ab5, hi6, lo7) =>
  seqM ((ref06_Eigen_t10 ad3 ab5).run) fun rt8 =>
  seqM ((ref06_Eigen_t11 sm1).run) fun b9 =>
  seqM ((ref06_Eigen_t12 b_1 sm1 hi6 lo7 rt8 b9).run) fun (x10, y11, one12) =>
  seqM ((ref06_Eigen_t13 df2 rt8).run) fun (two13, cs14) =>
  seqM ((ref06_Eigen_t14 tb4 ab5 cs14).run) fun (cs15, sn16) =>
  seqM ((ref06_Eigen_t15 one12 two13 cs15 sn16).run) fun (cs17, sn18) =>
  (ref06_Eigen_t16 x10 y11 cs17 sn18).run)
theorem ref06_Eigen_ok (a_0 : Nat) (b_1 : Nat) (c_2 : Nat) {x : ref06_Eigen_X} (h : ref06_Eigen_F a_0 b_1 c_2 = some x) : Contract prog n_ref06_Eigen [] [.flt false a_0, .flt false b_1, .flt false c_2] (ref06_Eigen_o x) :=
  Sg.contract false ref06_Eigen_o (by kernel_rfl : prog.funcs[n_ref06_Eigen]? = some (FN n_ref06_Eigen)) (by kernel_rfl : (FN n_ref06_Eigen).body = some (BODY n_ref06_Eigen)) (Sg.cut 9 ref06_Eigen_hN (Sg.seg (C := C0) C0_ok L_small_Eigen_ok 60 (ref06_Eigen_l8.take 9) (entryOf (FN n_ref06_Eigen) [] [.flt false a_0, .flt false b_1, .flt false c_2]) (ref06_Eigen_t9 a_0 b_1 c_2) (ref06_Eigen_n1 b_1) ref06_Eigen_E [⟨[], [], [1, 10, 11, 12, 13, 14, 15, 16]⟩, ⟨[], [], [1, 10, 11, 12, 13, 14, 15, 16]⟩] (by kernel_rfl)) (fun a => by obtain ⟨sm1, df2, ad3, tb4, ab5, hi6, lo7⟩ := a; exact Sg.cut 3 ref06_Eigen_hN (Sg.seg (C := C0) C0_ok L_small_Eigen_ok 60 ((ref06_Eigen_l8.drop 9).take 3) (ref06_Eigen_n1 b_1 (sm1, df2, ad3, tb4, ab5, hi6, lo7)) (ref06_Eigen_t10 ad3 ab5) (ref06_Eigen_n2 b_1 sm1 df2 tb4 ab5 hi6 lo7) ref06_Eigen_E [⟨[], [], [1, 10, 11, 13, 14, 15, 16, 17]⟩, ⟨[], [], [1, 10, 11, 13, 14, 15, 16, 17]⟩, ⟨[], [], [1, 10, 11, 13, 14, 15, 16, 17]⟩] (by kernel_rfl)) (fun rt8 => by exact Sg.cut 3 ref06_Eigen_hN (Sg.seg (C := C0) C0_ok L_small_Eigen_ok 60 (((ref06_Eigen_l8.drop 9).drop 3).take 3) (ref06_Eigen_n2 b_1 sm1 df2 tb4 ab5 hi6 lo7 rt8) (ref06_Eigen_t11 sm1) (ref06_Eigen_n3 b_1 sm1 df2 tb4 ab5 hi6 lo7 rt8) ref06_Eigen_E [⟨[], [], [1, 10, 11, 13, 14, 15, 16, 17, 24, 25, 93]⟩, ⟨[], [], [1, 10, 11, 13, 14, 15, 16, 17, 24, 25, 93]⟩] (by kernel_rfl)) (fun b9 => by exact Sg.cut 1 ref06_Eigen_hN (Sg.seg (C := C0) C0_ok L_small_Eigen_ok 60 ((((ref06_Eigen_l8.drop 9).drop 3).drop 3).take 1) (ref06_Eigen_n3 b_1 sm1 df2 tb4 ab5 hi6 lo7 rt8 b9) (ref06_Eigen_t12 b_1 sm1 hi6 lo7 rt8 b9) (ref06_Eigen_n4 df2 tb4 ab5 rt8) ref06_Eigen_E [⟨[], [], [11, 13, 14, 17, 22, 23, 24, 25]⟩, ⟨[], [], [11, 13, 14, 17, 22, 23, 24, 25]⟩, ⟨[], [], [11, 13, 14, 17, 22, 23, 24, 25]⟩] (by kernel_rfl)) (fun a => by obtain ⟨x10, y11, one12⟩ := a; exact Sg.cut 3 ref06_Eigen_hN (Sg.seg (C := C0) C0_ok L_small_Eigen_ok 60 (((((ref06_Eigen_l8.drop 9).drop 3).drop 3).drop 1).take 3) (ref06_Eigen_n4 df2 tb4 ab5 rt8 (x10, y11, one12)) (ref06_Eigen_t13 df2 rt8) (ref06_Eigen_n5 tb4 ab5 x10 y11 one12) ref06_Eigen_E [⟨[], [], [13, 14, 22, 23, 24, 25, 28]⟩, ⟨[], [], [13, 14, 22, 23, 24, 25, 28]⟩] (by kernel_rfl)) (fun a => by obtain ⟨two13, cs14⟩ := a; exact Sg.cut 2 ref06_Eigen_hN (Sg.seg (C := C0) C0_ok L_small_Eigen_ok 60 ((((((ref06_Eigen_l8.drop 9).drop 3).drop 3).drop 1).drop 3).take 2) (ref06_Eigen_n5 tb4 ab5 x10 y11 one12 (two13, cs14)) (ref06_Eigen_t14 tb4 ab5 cs14) (ref06_Eigen_n6 x10 y11 one12 two13) ref06_Eigen_E [⟨[], [], [22, 23, 24, 25, 28, 29]⟩, ⟨[], [], [22, 23, 24, 25, 28, 29]⟩, ⟨[], [], [22, 23, 24, 25, 28, 29]⟩] (by kernel_rfl)) (fun a => by obtain ⟨cs15, sn16⟩ := a; exact Sg.cut 2 ref06_Eigen_hN (Sg.seg (C := C0) C0_ok L_small_Eigen_ok 60 (((((((ref06_Eigen_l8.drop 9).drop 3).drop 3).drop 1).drop 3).drop 2).take 2) (ref06_Eigen_n6 x10 y11 one12 two13 (cs15, sn16)) (ref06_Eigen_t15 one12 two13 cs15 sn16) (ref06_Eigen_n7 x10 y11) ref06_Eigen_E [⟨[], [], [22, 23, 28, 29]⟩, ⟨[], [], [22, 23, 28, 29]⟩] (by kernel_rfl)) (fun a => by obtain ⟨cs17, sn18⟩ := a; exact Sg.seg (C := C0) C0_ok L_small_Eigen_ok 60 (((((((ref06_Eigen_l8.drop 9).drop 3).drop 3).drop 1).drop 3).drop 2).drop 2) (ref06_Eigen_n7 x10 y11 (cs17, sn18)) (ref06_Eigen_t16 x10 y11 cs17 sn18) (fun a : Empty => a.elim) ref06_Eigen_E [⟨[], [], [6, 7, 8, 9]⟩] (by kernel_rfl)))))))))
    (fun x => by cases x with | r0 a19 a20 a21 a22 => exact ⟨.inr rfl, [.flt false a19, .flt false a20, .flt false a21, .flt false a22], [], by kernel_rfl, trivial, by kernel_rfl⟩) h

def ref06_Eigen_i0 : Option ref06_Eigen_X → Bool
  | some _ => true
  | none => false
def ref06_Eigen_p0_0 : Option ref06_Eigen_X → Nat
  | some (.r0 x _ _ _) => x
  | _ => 0
def ref06_Eigen_p0_1 : Option ref06_Eigen_X → Nat
  | some (.r0 _ x _ _) => x
  | _ => 0
def ref06_Eigen_p0_2 : Option ref06_Eigen_X → Nat
  | some (.r0 _ _ x _) => x
  | _ => 0
def ref06_Eigen_p0_3 : Option ref06_Eigen_X → Nat
  | some (.r0 _ _ _ x) => x
  | _ => 0
theorem ref06_Eigen_e0 {x : Option ref06_Eigen_X} (h : ref06_Eigen_i0 x = true) : x = some (.r0 (ref06_Eigen_p0_0 x) (ref06_Eigen_p0_1 x) (ref06_Eigen_p0_2 x) (ref06_Eigen_p0_3 x)) := by
  unfold ref06_Eigen_i0 at h
  split at h <;> first | rfl | (cases h; done) | (rename_i y; cases y; rfl)
noncomputable def e_ref06_Eigen : Entry := autoE n_ref06_Eigen (.cons (.flt false) (.cons (.flt false) (.cons (.flt false) .nil))) fun t => [⟨ref06_Eigen_o (.r0 (ref06_Eigen_p0_0 (ref06_Eigen_F t.1 t.2.1 t.2.2.1)) (ref06_Eigen_p0_1 (ref06_Eigen_F t.1 t.2.1 t.2.2.1)) (ref06_Eigen_p0_2 (ref06_Eigen_F t.1 t.2.1 t.2.2.1)) (ref06_Eigen_p0_3 (ref06_Eigen_F t.1 t.2.1 t.2.2.1))), [ref06_Eigen_i0 (ref06_Eigen_F t.1 t.2.1 t.2.2.1)]⟩]
theorem e_ref06_Eigen_ok : EntryOk prog e_ref06_Eigen := autoE_ok fun t => (altsCons (fun h => ref06_Eigen_ok t.1 t.2.1 t.2.2.1 (ref06_Eigen_e0 h)) altsNil)
noncomputable def L_ref06_Eigen : List Entry := e_ref06_Eigen :: L_small_Eigen
theorem L_ref06_Eigen_ok : SumsOk prog (sumsOf L_ref06_Eigen) := sumsOf_cons e_ref06_Eigen_ok L_small_Eigen_ok

inductive law06_SmallEigen_X where
  | r0 (b10 : Bool)
def law06_SmallEigen_E : law06_SmallEigen_X → AE × ASt
  | .r0 b10 => (.ret, ⟨slots 54 [(6, .bool false b10)], [], 0⟩)
theorem law06_SmallEigen_hN : NoN law06_SmallEigen_E := by intro x; cases x <;> (intro h; cases h)
theorem law06_SmallEigen_hI (id : Nat) : NoId id law06_SmallEigen_E := by intro x; cases x <;> (intro h; cases h)
def law06_SmallEigen_o : law06_SmallEigen_X → Out
  | .r0 b10 => ⟨.bool false b10, []⟩
noncomputable def law06_SmallEigen_l4 : List Code := flat (BODY n_law06_SmallEigen)
def law06_SmallEigen_n1 (a_0 : Nat) (b_1 : Nat) (c_2 : Nat) : Nat × Nat × Nat × Nat → ASt := fun (x1, y2, cs3, sn4) => ⟨slots 54 [(0, .flt false a_0), (1, .flt false b_1), (2, .flt false c_2), (7, .flt false x1), (8, .flt false y2), (9, .flt false cs3), (10, .flt false sn4)], [], 0⟩
def law06_SmallEigen_t5 (a_0 : Nat) (b_1 : Nat) (c_2 : Nat) : T ((Nat × Nat × Nat × Nat) ⊕ (law06_SmallEigen_X)) :=
  .need (small_Eigen_i0 (small_Eigen_F a_0 b_1 c_2)) <| .leaf (.inl ((small_Eigen_p0_0 (small_Eigen_F a_0 b_1 c_2)), (small_Eigen_p0_1 (small_Eigen_F a_0 b_1 c_2)), (small_Eigen_p0_2 (small_Eigen_F a_0 b_1 c_2)), (small_Eigen_p0_3 (small_Eigen_F a_0 b_1 c_2))))
def law06_SmallEigen_n2 (x1 : Nat) (y2 : Nat) (cs3 : Nat) (sn4 : Nat) : Nat × Nat × Nat × Nat → ASt := fun (p5, q6, r7, s8) => ⟨slots 54 [(7, .flt false x1), (8, .flt false y2), (9, .flt false cs3), (10, .flt false sn4), (11, .flt false p5), (12, .flt false q6), (13, .flt false r7), (14, .flt false s8)], [], 0⟩
def law06_SmallEigen_t6 (a_0 : Nat) (b_1 : Nat) (c_2 : Nat) : T ((Nat × Nat × Nat × Nat) ⊕ (law06_SmallEigen_X)) :=
  .need (ref06_Eigen_i0 (ref06_Eigen_F a_0 b_1 c_2)) <| .leaf (.inl ((ref06_Eigen_p0_0 (ref06_Eigen_F a_0 b_1 c_2)), (ref06_Eigen_p0_1 (ref06_Eigen_F a_0 b_1 c_2)), (ref06_Eigen_p0_2 (ref06_Eigen_F a_0 b_1 c_2)), (ref06_Eigen_p0_3 (ref06_Eigen_F a_0 b_1 c_2))))
def law06_SmallEigen_n3 (b9 : Bool) : ASt := ⟨slots 54 [(6, .bool false b9)], [], 0⟩
def law06_SmallEigen_t7 (x1 : Nat) (y2 : Nat) (cs3 : Nat) (sn4 : Nat) (p5 : Nat) (q6 : Nat) (r7 : Nat) (s8 : Nat) : T ((Bool) ⊕ (law06_SmallEigen_X)) :=
  .ask (sameB x1 p5)
    (.ask (sameB y2 q6)
      (.ask (sameB cs3 r7)
        (.ask (sameB sn4 s8)
          (.leaf (.inl true))
          (.leaf (.inl false)))
        (.leaf (.inl false)))
      (.leaf (.inl false)))
    (.leaf (.inl false))
def law06_SmallEigen_t8 (b9 : Bool) : T ((Empty) ⊕ (law06_SmallEigen_X)) :=
  .leaf (.inr (.r0 b9))
noncomputable def law06_SmallEigen_F (a_0 : Nat) (b_1 : Nat) (c_2 : Nat) : Option law06_SmallEigen_X := toX (seqM ((law06_SmallEigen_t5 a_0 b_1 c_2).run) fun (x1, y2, cs3, sn4) =>
  seqM ((law06_SmallEigen_t6 a_0 b_1 c_2).run) fun (p5, q6, r7, s8) =>
  seqM ((law06_SmallEigen_t7 x1 y2 cs3 sn4 p5 q6 r7 s8).run) fun b9 =>
  (law06_SmallEigen_t8 b9).run)
theorem law06_SmallEigen_ok (a_0 : Nat) (b_1 : Nat) (c_2 : Nat) {x : law06_SmallEigen_X} (h : law06_SmallEigen_F a_0 b_1 c_2 = some x) : Contract prog n_law06_SmallEigen [] [.flt true a_0, .flt true b_1, .flt true c_2] (law06_SmallEigen_o x) :=
  Sg.contract false law06_SmallEigen_o (by kernel_rfl : prog.funcs[n_law06_SmallEigen]? = some (FN n_law06_SmallEigen)) (by kernel_rfl : (FN n_law06_SmallEigen).body = some (BODY n_law06_SmallEigen)) (Sg.cut 2 law06_SmallEigen_hN (Sg.seg (C := C0) C0_ok L_ref06_Eigen_ok 60 (law06_SmallEigen_l4.take 2) (entryOf (FN n_law06_SmallEigen) [] [.flt true a_0, .flt true b_1, .flt true c_2]) (law06_SmallEigen_t5 a_0 b_1 c_2) (law06_SmallEigen_n1 a_0 b_1 c_2) law06_SmallEigen_E [⟨[], [], [0, 1, 2, 7, 8, 9, 10]⟩] (by kernel_rfl)) (fun a => by obtain ⟨x1, y2, cs3, sn4⟩ := a; exact Sg.cut 1 law06_SmallEigen_hN (Sg.seg (C := C0) C0_ok L_ref06_Eigen_ok 60 ((law06_SmallEigen_l4.drop 2).take 1) (law06_SmallEigen_n1 a_0 b_1 c_2 (x1, y2, cs3, sn4)) (law06_SmallEigen_t6 a_0 b_1 c_2) (law06_SmallEigen_n2 x1 y2 cs3 sn4) law06_SmallEigen_E [⟨[], [], [7, 8, 9, 10, 11, 12, 13, 14]⟩] (by kernel_rfl)) (fun a => by obtain ⟨p5, q6, r7, s8⟩ := a; exact Sg.cut 1 law06_SmallEigen_hN (Sg.seg (C := C0) C0_ok L_ref06_Eigen_ok 60 (((law06_SmallEigen_l4.drop 2).drop 1).take 1) (law06_SmallEigen_n2 x1 y2 cs3 sn4 (p5, q6, r7, s8)) (law06_SmallEigen_t7 x1 y2 cs3 sn4 p5 q6 r7 s8) law06_SmallEigen_n3 law06_SmallEigen_E [⟨[], [], [6]⟩, ⟨[], [], [6]⟩, ⟨[], [], [6]⟩, ⟨[], [], [6]⟩, ⟨[], [], [6]⟩] (by kernel_rfl)) (fun b9 => by exact Sg.seg (C := C0) C0_ok L_ref06_Eigen_ok 60 (((law06_SmallEigen_l4.drop 2).drop 1).drop 1) (law06_SmallEigen_n3 b9) (law06_SmallEigen_t8 b9) (fun a : Empty => a.elim) law06_SmallEigen_E [⟨[], [], [6]⟩] (by kernel_rfl)))))
    (fun x => by cases x with | r0 b10 => exact ⟨.inr rfl, [.bool false b10], [], by kernel_rfl, trivial, by kernel_rfl⟩) h

def law06_SmallEigen_i0 : Option law06_SmallEigen_X → Bool
  | some _ => true
  | none => false
def law06_SmallEigen_p0_0 : Option law06_SmallEigen_X → Bool
  | some (.r0 x) => x
  | _ => false
theorem law06_SmallEigen_e0 {x : Option law06_SmallEigen_X} (h : law06_SmallEigen_i0 x = true) : x = some (.r0 (law06_SmallEigen_p0_0 x)) := by
  unfold law06_SmallEigen_i0 at h
  split at h <;> first | rfl | (cases h; done) | (rename_i y; cases y; rfl)
noncomputable def e_law06_SmallEigen : Entry := autoE n_law06_SmallEigen (.cons (.flt true) (.cons (.flt true) (.cons (.flt true) .nil))) fun t => [⟨law06_SmallEigen_o (.r0 (law06_SmallEigen_p0_0 (law06_SmallEigen_F t.1 t.2.1 t.2.2.1))), [law06_SmallEigen_i0 (law06_SmallEigen_F t.1 t.2.1 t.2.2.1)]⟩]
theorem e_law06_SmallEigen_ok : EntryOk prog e_law06_SmallEigen := autoE_ok fun t => (altsCons (fun h => law06_SmallEigen_ok t.1 t.2.1 t.2.2.1 (law06_SmallEigen_e0 h)) altsNil)
noncomputable def L_law06_SmallEigen : List Entry := e_law06_SmallEigen :: L_ref06_Eigen
theorem L_law06_SmallEigen_ok : SumsOk prog (sumsOf L_law06_SmallEigen) := sumsOf_cons e_law06_SmallEigen_ok L_ref06_Eigen_ok

inductive small_Singular_X where
  | r0 (least6 : Nat) (most7 : Nat)
def small_Singular_E : small_Singular_X → AE × ASt
  | .r0 least6 most7 => (.ret, ⟨slots 148 [(6, .flt false least6), (7, .flt false most7)], [], 0⟩)
theorem small_Singular_hN : NoN small_Singular_E := by intro x; cases x <;> (intro h; cases h)
theorem small_Singular_hI (id : Nat) : NoId id small_Singular_E := by intro x; cases x <;> (intro h; cases h)
def small_Singular_o : small_Singular_X → Out
  | .r0 least6 most7 => ⟨.tup [.flt false least6, .flt false most7], []⟩
noncomputable def small_Singular_l4 : List Code := flat (BODY n_small_Singular)
def small_Singular_n1 : Nat × Nat × Nat → ASt := fun (ga1, lo2, hi3) => ⟨slots 148 [(9, .flt false ga1), (11, .flt false lo2), (12, .flt false hi3)], [], 0⟩
def small_Singular_t5 (f_0 : Nat) (g_1 : Nat) (h_2 : Nat) : T ((Nat × Nat × Nat) ⊕ (small_Singular_X)) :=
  .ask (flt (fabs h_2) (fabs f_0))
    (.leaf (.inl ((fabs g_1), (fabs h_2), (fabs f_0))))
    (.leaf (.inl ((fabs g_1), (fabs f_0), (fabs h_2))))
def small_Singular_n2 (ga1 : Nat) (lo2 : Nat) (hi3 : Nat) (_ : Unit) : ASt := ⟨slots 148 [(9, .flt false ga1), (11, .flt false lo2), (12, .flt false hi3)], [], 0⟩
def small_Singular_t6 (ga1 : Nat) (lo2 : Nat) (hi3 : Nat) : T ((Unit) ⊕ (small_Singular_X)) :=
  .ask (feq lo2 0)
    (.ask (feq hi3 0)
      (.leaf (.inr (.r0 0 ga1)))
      (.ask (feq lo2 0)
        (.ask (fgt ga1 hi3)
          (.leaf (.inr (.r0 0 (fmul ga1 (fsqrt (fadd 4607182418800017408 (fmul (fdiv hi3 ga1) (fdiv hi3 ga1))))))))
          (.leaf (.inr (.r0 0 (fmul hi3 (fsqrt (fadd 4607182418800017408 (fmul (fdiv ga1 hi3) (fdiv ga1 hi3)))))))))
        (.ask (flt ga1 hi3)
          (.leaf (.inr (.r0 (fmul lo2 (fdiv 4611686018427387904 (fadd (fsqrt (fadd (fmul (fadd 4607182418800017408 (fdiv lo2 hi3)) (fadd 4607182418800017408 (fdiv lo2 hi3))) (fmul (fdiv ga1 hi3) (fdiv ga1 hi3)))) (fsqrt (fadd (fmul (fdiv (fsub hi3 lo2) hi3) (fdiv (fsub hi3 lo2) hi3)) (fmul (fdiv ga1 hi3) (fdiv ga1 hi3))))))) (fdiv hi3 (fdiv 4611686018427387904 (fadd (fsqrt (fadd (fmul (fadd 4607182418800017408 (fdiv lo2 hi3)) (fadd 4607182418800017408 (fdiv lo2 hi3))) (fmul (fdiv ga1 hi3) (fdiv ga1 hi3)))) (fsqrt (fadd (fmul (fdiv (fsub hi3 lo2) hi3) (fdiv (fsub hi3 lo2) hi3)) (fmul (fdiv ga1 hi3) (fdiv ga1 hi3))))))))))
          (.leaf (.inl ())))))
    (.ask (feq lo2 0)
      (.ask (fgt ga1 hi3)
        (.leaf (.inr (.r0 0 (fmul ga1 (fsqrt (fadd 4607182418800017408 (fmul (fdiv hi3 ga1) (fdiv hi3 ga1))))))))
        (.leaf (.inr (.r0 0 (fmul hi3 (fsqrt (fadd 4607182418800017408 (fmul (fdiv ga1 hi3) (fdiv ga1 hi3)))))))))
      (.ask (flt ga1 hi3)
        (.leaf (.inr (.r0 (fmul lo2 (fdiv 4611686018427387904 (fadd (fsqrt (fadd (fmul (fadd 4607182418800017408 (fdiv lo2 hi3)) (fadd 4607182418800017408 (fdiv lo2 hi3))) (fmul (fdiv ga1 hi3) (fdiv ga1 hi3)))) (fsqrt (fadd (fmul (fdiv (fsub hi3 lo2) hi3) (fdiv (fsub hi3 lo2) hi3)) (fmul (fdiv ga1 hi3) (fdiv ga1 hi3))))))) (fdiv hi3 (fdiv 4611686018427387904 (fadd (fsqrt (fadd (fmul (fadd 4607182418800017408 (fdiv lo2 hi3)) (fadd 4607182418800017408 (fdiv lo2 hi3))) (fmul (fdiv ga1 hi3) (fdiv ga1 hi3)))) (fsqrt (fadd (fmul (fdiv (fsub hi3 lo2) hi3) (fdiv (fsub hi3 lo2) hi3)) (fmul (fdiv ga1 hi3) (fdiv ga1 hi3))))))))))
        (.leaf (.inl ()))))
def small_Singular_n3 (ga1 : Nat) (lo2 : Nat) : Nat × Nat → ASt := fun (v4, c5) => ⟨slots 148 [(9, .flt false ga1), (11, .flt false lo2), (19, .flt false v4), (24, .flt false c5)], [], 0⟩
def small_Singular_t7 (ga1 : Nat) (lo2 : Nat) (hi3 : Nat) : T ((Nat × Nat) ⊕ (small_Singular_X)) :=
  .ask (feq (fdiv hi3 ga1) 0)
    (.leaf (.inr (.r0 (fdiv (fmul lo2 hi3) ga1) ga1)))
    (.leaf (.inl ((fdiv hi3 ga1), (fdiv 4607182418800017408 (fadd (fsqrt (fadd 4607182418800017408 (fmul (fmul (fadd 4607182418800017408 (fdiv lo2 hi3)) (fdiv hi3 ga1)) (fmul (fadd 4607182418800017408 (fdiv lo2 hi3)) (fdiv hi3 ga1))))) (fsqrt (fadd 4607182418800017408 (fmul (fmul (fdiv (fsub hi3 lo2) hi3) (fdiv hi3 ga1)) (fmul (fdiv (fsub hi3 lo2) hi3) (fdiv hi3 ga1))))))))))
def small_Singular_t8 (ga1 : Nat) (lo2 : Nat) (v4 : Nat) (c5 : Nat) : T ((Empty) ⊕ (small_Singular_X)) :=
  .leaf (.inr (.r0 (fadd (fmul (fmul lo2 c5) v4) (fmul (fmul lo2 c5) v4)) (fdiv ga1 (fadd c5 c5))))
noncomputable def small_Singular_F (f_0 : Nat) (g_1 : Nat) (h_2 : Nat) : Option small_Singular_X := toX (seqM ((small_Singular_t5 f_0 g_1 h_2).run) fun (ga1, lo2, hi3) =>
  seqM ((small_Singular_t6 ga1 lo2 hi3).run) fun _ =>
  seqM ((small_Singular_t7 ga1 lo2 hi3).run) fun (v4, c5) =>
  (small_Singular_t8 ga1 lo2 v4 c5).run)
theorem small_Singular_ok (f_0 : Nat) (g_1 : Nat) (h_2 : Nat) {x : small_Singular_X} (h : small_Singular_F f_0 g_1 h_2 = some x) : Contract prog n_small_Singular [] [.flt false f_0, .flt false g_1, .flt false h_2] (small_Singular_o x) :=
  Sg.contract false small_Singular_o (by kernel_rfl : prog.funcs[n_small_Singular]? = some (FN n_small_Singular)) (by kernel_rfl : (FN n_small_Singular).body = some (BODY n_small_Singular)) (Sg.cut 5 small_Singular_hN (Sg.seg (C := C0) C0_ok L_law06_SmallEigen_ok 60 (small_Singular_l4.take 5) (entryOf (FN n_small_Singular) [] [.flt false f_0, .flt false g_1, .flt false h_2]) (small_Singular_t5 f_0 g_1 h_2) small_Singular_n1 small_Singular_E [⟨[], [], [9, 11, 12]⟩, ⟨[], [], [9, 11, 12]⟩] (by kernel_rfl)) (fun a => by obtain ⟨ga1, lo2, hi3⟩ := a; exact Sg.cut 1 small_Singular_hN (Sg.seg (C := C0) C0_ok L_law06_SmallEigen_ok 60 ((small_Singular_l4.drop 5).take 1) (small_Singular_n1 (ga1, lo2, hi3)) (small_Singular_t6 ga1 lo2 hi3) (small_Singular_n2 ga1 lo2 hi3) small_Singular_E [⟨[], [], [6, 7]⟩, ⟨[], [], [6, 7]⟩, ⟨[], [], [6, 7]⟩, ⟨[], [], [6, 7]⟩, ⟨[], [], [9, 11, 12]⟩, ⟨[], [], [6, 7]⟩, ⟨[], [], [6, 7]⟩, ⟨[], [], [6, 7]⟩, ⟨[], [], [9, 11, 12]⟩] (by kernel_rfl)) (fun a => by cases a; exact Sg.cut 6 small_Singular_hN (Sg.seg (C := C0) C0_ok L_law06_SmallEigen_ok 60 (((small_Singular_l4.drop 5).drop 1).take 6) (small_Singular_n2 ga1 lo2 hi3 ()) (small_Singular_t7 ga1 lo2 hi3) (small_Singular_n3 ga1 lo2) small_Singular_E [⟨[], [], [6, 7]⟩, ⟨[], [], [9, 11, 19, 24]⟩] (by kernel_rfl)) (fun a => by obtain ⟨v4, c5⟩ := a; exact Sg.seg (C := C0) C0_ok L_law06_SmallEigen_ok 60 (((small_Singular_l4.drop 5).drop 1).drop 6) (small_Singular_n3 ga1 lo2 (v4, c5)) (small_Singular_t8 ga1 lo2 v4 c5) (fun a : Empty => a.elim) small_Singular_E [⟨[], [], [6, 7]⟩] (by kernel_rfl)))))
    (fun x => by cases x with | r0 least6 most7 => exact ⟨.inr rfl, [.flt false least6, .flt false most7], [], by kernel_rfl, trivial, by kernel_rfl⟩) h

def small_Singular_i0 : Option small_Singular_X → Bool
  | some _ => true
  | none => false
def small_Singular_p0_0 : Option small_Singular_X → Nat
  | some (.r0 x _) => x
  | _ => 0
def small_Singular_p0_1 : Option small_Singular_X → Nat
  | some (.r0 _ x) => x
  | _ => 0
theorem small_Singular_e0 {x : Option small_Singular_X} (h : small_Singular_i0 x = true) : x = some (.r0 (small_Singular_p0_0 x) (small_Singular_p0_1 x)) := by
  unfold small_Singular_i0 at h
  split at h <;> first | rfl | (cases h; done) | (rename_i y; cases y; rfl)
noncomputable def e_small_Singular : Entry := autoE n_small_Singular (.cons (.flt false) (.cons (.flt false) (.cons (.flt false) .nil))) fun t => [⟨small_Singular_o (.r0 (small_Singular_p0_0 (small_Singular_F t.1 t.2.1 t.2.2.1)) (small_Singular_p0_1 (small_Singular_F t.1 t.2.1 t.2.2.1))), [small_Singular_i0 (small_Singular_F t.1 t.2.1 t.2.2.1)]⟩]
theorem e_small_Singular_ok : EntryOk prog e_small_Singular := autoE_ok fun t => (altsCons (fun h => small_Singular_ok t.1 t.2.1 t.2.2.1 (small_Singular_e0 h)) altsNil)
noncomputable def L_small_Singular : List Entry := e_small_Singular :: L_law06_SmallEigen
theorem L_small_Singular_ok : SumsOk prog (sumsOf L_small_Singular) := sumsOf_cons e_small_Singular_ok L_law06_SmallEigen_ok

inductive ref06_Singular_X where
  | r0 (a6 : Nat) (a7 : Nat)
def ref06_Singular_E : ref06_Singular_X → AE × ASt
  | .r0 a6 a7 => (.ret, ⟨slots 171 [(6, .flt false a6), (7, .flt false a7)], [], 0⟩)
theorem ref06_Singular_hN : NoN ref06_Singular_E := by intro x; cases x <;> (intro h; cases h)
theorem ref06_Singular_hI (id : Nat) : NoId id ref06_Singular_E := by intro x; cases x <;> (intro h; cases h)
def ref06_Singular_o : ref06_Singular_X → Out
  | .r0 a6 a7 => ⟨.tup [.flt false a6, .flt false a7], []⟩
noncomputable def ref06_Singular_l3 : List Code := flat (BODY n_ref06_Singular)
def ref06_Singular_n1 : Nat × Nat × Nat → ASt := fun (ga1, lo2, hi3) => ⟨slots 171 [(9, .flt false ga1), (11, .flt false lo2), (12, .flt false hi3)], [], 0⟩
def ref06_Singular_t4 (f_0 : Nat) (g_1 : Nat) (h_2 : Nat) : T ((Nat × Nat × Nat) ⊕ (ref06_Singular_X)) :=
  .ask (flt (fabs h_2) (fabs f_0))
    (.leaf (.inl ((fabs g_1), (fabs h_2), (fabs f_0))))
    (.leaf (.inl ((fabs g_1), (fabs f_0), (fabs h_2))))
def ref06_Singular_n2 (ga1 : Nat) (lo2 : Nat) : Nat × Nat → ASt := fun (v4, c5) => ⟨slots 171 [(9, .flt false ga1), (11, .flt false lo2), (24, .flt false v4), (34, .flt false c5)], [], 0⟩
def ref06_Singular_t5 (ga1 : Nat) (lo2 : Nat) (hi3 : Nat) : T ((Nat × Nat) ⊕ (ref06_Singular_X)) :=
  .ask (feq lo2 0)
    (.ask (feq hi3 0)
      (.leaf (.inr (.r0 0 ga1)))
      (.ask (fgt ga1 hi3)
        (.leaf (.inr (.r0 0 (fmul ga1 (fsqrt (fadd 4607182418800017408 (fmul (fdiv hi3 ga1) (fdiv hi3 ga1))))))))
        (.leaf (.inr (.r0 0 (fmul hi3 (fsqrt (fadd 4607182418800017408 (fmul (fdiv ga1 hi3) (fdiv ga1 hi3))))))))))
    (.ask (flt ga1 hi3)
      (.leaf (.inr (.r0 (fmul lo2 (fdiv 4611686018427387904 (fadd (fsqrt (fadd (fmul (fadd 4607182418800017408 (fdiv lo2 hi3)) (fadd 4607182418800017408 (fdiv lo2 hi3))) (fmul (fdiv ga1 hi3) (fdiv ga1 hi3)))) (fsqrt (fadd (fmul (fdiv (fsub hi3 lo2) hi3) (fdiv (fsub hi3 lo2) hi3)) (fmul (fdiv ga1 hi3) (fdiv ga1 hi3))))))) (fdiv hi3 (fdiv 4611686018427387904 (fadd (fsqrt (fadd (fmul (fadd 4607182418800017408 (fdiv lo2 hi3)) (fadd 4607182418800017408 (fdiv lo2 hi3))) (fmul (fdiv ga1 hi3) (fdiv ga1 hi3)))) (fsqrt (fadd (fmul (fdiv (fsub hi3 lo2) hi3) (fdiv (fsub hi3 lo2) hi3)) (fmul (fdiv ga1 hi3) (fdiv ga1 hi3))))))))))
      (.ask (feq (fdiv hi3 ga1) 0)
        (.leaf (.inr (.r0 (fdiv (fmul lo2 hi3) ga1) ga1)))
        (.leaf (.inl ((fdiv hi3 ga1), (fdiv 4607182418800017408 (fadd (fsqrt (fadd 4607182418800017408 (fmul (fmul (fadd 4607182418800017408 (fdiv lo2 hi3)) (fdiv hi3 ga1)) (fmul (fadd 4607182418800017408 (fdiv lo2 hi3)) (fdiv hi3 ga1))))) (fsqrt (fadd 4607182418800017408 (fmul (fmul (fdiv (fsub hi3 lo2) hi3) (fdiv hi3 ga1)) (fmul (fdiv (fsub hi3 lo2) hi3) (fdiv hi3 ga1))))))))))))
def ref06_Singular_t6 (ga1 : Nat) (lo2 : Nat) (v4 : Nat) (c5 : Nat) : T ((Empty) ⊕ (ref06_Singular_X)) :=
  .leaf (.inr (.r0 (fadd (fmul (fmul lo2 c5) v4) (fmul (fmul lo2 c5) v4)) (fdiv ga1 (fadd c5 c5))))
noncomputable def ref06_Singular_F (f_0 : Nat) (g_1 : Nat) (h_2 : Nat) : Option ref06_Singular_X := toX (seqM ((ref06_Singular_t4 f_0 g_1 h_2).run) fun (ga1, lo2, hi3) =>
  seqM ((ref06_Singular_t5 ga1 lo2 hi3).run) fun (v4, c5) =>
  (ref06_Singular_t6 ga1 lo2 v4 c5).run)
theorem ref06_Singular_ok (f_0 : Nat) (g_1 : Nat) (h_2 : Nat) {x : ref06_Singular_X} (h : ref06_Singular_F f_0 g_1 h_2 = some x) : Contract prog n_ref06_Singular [] [.flt false f_0, .flt false g_1, .flt false h_2] (ref06_Singular_o x) :=
  Sg.contract false ref06_Singular_o (by kernel_rfl : prog.funcs[n_ref06_Singular]? = some (FN n_ref06_Singular)) (by kernel_rfl : (FN n_ref06_Singular).body = some (BODY n_ref06_Singular)) (Sg.cut 5 ref06_Singular_hN (Sg.seg (C := C0) C0_ok L_small_Singular_ok 60 (ref06_Singular_l3.take 5) (entryOf (FN n_ref06_Singular) [] [.flt false f_0, .flt false g_1, .flt false h_2]) (ref06_Singular_t4 f_0 g_1 h_2) ref06_Singular_n1 ref06_Singular_E [⟨[], [], [9, 11, 12]⟩, ⟨[], [], [9, 11, 12]⟩] (by kernel_rfl)) (fun a => by obtain ⟨ga1, lo2, hi3⟩ := a; exact Sg.cut 16 ref06_Singular_hN (Sg.seg (C := C0) C0_ok L_small_Singular_ok 60 ((ref06_Singular_l3.drop 5).take 16) (ref06_Singular_n1 (ga1, lo2, hi3)) (ref06_Singular_t5 ga1 lo2 hi3) (ref06_Singular_n2 ga1 lo2) ref06_Singular_E [⟨[], [], [6, 7]⟩, ⟨[], [], [6, 7]⟩, ⟨[], [], [6, 7]⟩, ⟨[], [], [6, 7]⟩, ⟨[], [], [6, 7]⟩, ⟨[], [], [9, 11, 24, 34]⟩] (by kernel_rfl)) (fun a => by obtain ⟨v4, c5⟩ := a; exact Sg.seg (C := C0) C0_ok L_small_Singular_ok 60 ((ref06_Singular_l3.drop 5).drop 16) (ref06_Singular_n2 ga1 lo2 (v4, c5)) (ref06_Singular_t6 ga1 lo2 v4 c5) (fun a : Empty => a.elim) ref06_Singular_E [⟨[], [], [6, 7]⟩] (by kernel_rfl))))
    (fun x => by cases x with | r0 a6 a7 => exact ⟨.inr rfl, [.flt false a6, .flt false a7], [], by kernel_rfl, trivial, by kernel_rfl⟩) h

def ref06_Singular_i0 : Option ref06_Singular_X → Bool
  | some _ => true
  | none => false
def ref06_Singular_p0_0 : Option ref06_Singular_X → Nat
  | some (.r0 x _) => x
  | _ => 0
def ref06_Singular_p0_1 : Option ref06_Singular_X → Nat
  | some (.r0 _ x) => x
  | _ => 0
theorem ref06_Singular_e0 {x : Option ref06_Singular_X} (h : ref06_Singular_i0 x = true) : x = some (.r0 (ref06_Singular_p0_0 x) (ref06_Singular_p0_1 x)) := by
  unfold ref06_Singular_i0 at h
  split at h <;> first | rfl | (cases h; done) | (rename_i y; cases y; rfl)
noncomputable def e_ref06_Singular : Entry := autoE n_ref06_Singular (.cons (.flt false) (.cons (.flt false) (.cons (.flt false) .nil))) fun t => [⟨ref06_Singular_o (.r0 (ref06_Singular_p0_0 (ref06_Singular_F t.1 t.2.1 t.2.2.1)) (ref06_Singular_p0_1 (ref06_Singular_F t.1 t.2.1 t.2.2.1))), [ref06_Singular_i0 (ref06_Singular_F t.1 t.2.1 t.2.2.1)]⟩]
theorem e_ref06_Singular_ok : EntryOk prog e_ref06_Singular := autoE_ok fun t => (altsCons (fun h => ref06_Singular_ok t.1 t.2.1 t.2.2.1 (ref06_Singular_e0 h)) altsNil)
noncomputable def L_ref06_Singular : List Entry := e_ref06_Singular :: L_small_Singular
theorem L_ref06_Singular_ok : SumsOk prog (sumsOf L_ref06_Singular) := sumsOf_cons e_ref06_Singular_ok L_small_Singular_ok

end
end Go.Plb.Seat

namespace Go.Plb.Seat
open Go Go.Plb
set_option linter.unusedVariables false
set_option maxRecDepth 10000
noncomputable section

inductive law06_SmallSingular_X where
  | r0 (b6 : Bool)
def law06_SmallSingular_E : law06_SmallSingular_X → AE × ASt
  | .r0 b6 => (.ret, ⟨slots 36 [(6, .bool false b6)], [], 0⟩)
theorem law06_SmallSingular_hN : NoN law06_SmallSingular_E := by intro x; cases x <;> (intro h; cases h)
theorem law06_SmallSingular_hI (id : Nat) : NoId id law06_SmallSingular_E := by intro x; cases x <;> (intro h; cases h)
def law06_SmallSingular_o : law06_SmallSingular_X → Out
  | .r0 b6 => ⟨.bool false b6, []⟩
noncomputable def law06_SmallSingular_l4 : List Code := flat (BODY n_law06_SmallSingular)
def law06_SmallSingular_n1 (f_0 : Nat) (g_1 : Nat) (h_2 : Nat) : Nat × Nat → ASt := fun (x1, y2) => ⟨slots 36 [(0, .flt false f_0), (1, .flt false g_1), (2, .flt false h_2), (7, .flt false x1), (8, .flt false y2)], [], 0⟩
def law06_SmallSingular_t5 (f_0 : Nat) (g_1 : Nat) (h_2 : Nat) : T ((Nat × Nat) ⊕ (law06_SmallSingular_X)) :=
  .need (small_Singular_i0 (small_Singular_F f_0 g_1 h_2)) <| .leaf (.inl ((small_Singular_p0_0 (small_Singular_F f_0 g_1 h_2)), (small_Singular_p0_1 (small_Singular_F f_0 g_1 h_2))))
def law06_SmallSingular_n2 (x1 : Nat) (y2 : Nat) : Nat × Nat → ASt := fun (p3, q4) => ⟨slots 36 [(7, .flt false x1), (8, .flt false y2), (9, .flt false p3), (10, .flt false q4)], [], 0⟩
def law06_SmallSingular_t6 (f_0 : Nat) (g_1 : Nat) (h_2 : Nat) : T ((Nat × Nat) ⊕ (law06_SmallSingular_X)) :=
  .need (ref06_Singular_i0 (ref06_Singular_F f_0 g_1 h_2)) <| .leaf (.inl ((ref06_Singular_p0_0 (ref06_Singular_F f_0 g_1 h_2)), (ref06_Singular_p0_1 (ref06_Singular_F f_0 g_1 h_2))))
def law06_SmallSingular_n3 (b5 : Bool) : ASt := ⟨slots 36 [(6, .bool false b5)], [], 0⟩
def law06_SmallSingular_t7 (x1 : Nat) (y2 : Nat) (p3 : Nat) (q4 : Nat) : T ((Bool) ⊕ (law06_SmallSingular_X)) :=
  .ask (sameB x1 p3)
    (.ask (sameB y2 q4)
      (.leaf (.inl true))
      (.leaf (.inl false)))
    (.leaf (.inl false))
def law06_SmallSingular_t8 (b5 : Bool) : T ((Empty) ⊕ (law06_SmallSingular_X)) :=
  .leaf (.inr (.r0 b5))
noncomputable def law06_SmallSingular_F (f_0 : Nat) (g_1 : Nat) (h_2 : Nat) : Option law06_SmallSingular_X := toX (seqM ((law06_SmallSingular_t5 f_0 g_1 h_2).run) fun (x1, y2) =>
  seqM ((law06_SmallSingular_t6 f_0 g_1 h_2).run) fun (p3, q4) =>
  seqM ((law06_SmallSingular_t7 x1 y2 p3 q4).run) fun b5 =>
  (law06_SmallSingular_t8 b5).run)
theorem law06_SmallSingular_ok (f_0 : Nat) (g_1 : Nat) (h_2 : Nat) {x : law06_SmallSingular_X} (h : law06_SmallSingular_F f_0 g_1 h_2 = some x) : Contract prog n_law06_SmallSingular [] [.flt true f_0, .flt true g_1, .flt true h_2] (law06_SmallSingular_o x) :=
  Sg.contract false law06_SmallSingular_o (by kernel_rfl : prog.funcs[n_law06_SmallSingular]? = some (FN n_law06_SmallSingular)) (by kernel_rfl : (FN n_law06_SmallSingular).body = some (BODY n_law06_SmallSingular)) (Sg.cut 2 law06_SmallSingular_hN (Sg.seg (C := C0) C0_ok L_ref06_Singular_ok 60 (law06_SmallSingular_l4.take 2) (entryOf (FN n_law06_SmallSingular) [] [.flt true f_0, .flt true g_1, .flt true h_2]) (law06_SmallSingular_t5 f_0 g_1 h_2) (law06_SmallSingular_n1 f_0 g_1 h_2) law06_SmallSingular_E [⟨[], [], [0, 1, 2, 7, 8]⟩] (by kernel_rfl)) (fun a => by obtain ⟨x1, y2⟩ := a; exact Sg.cut 1 law06_SmallSingular_hN (Sg.seg (C := C0) C0_ok L_ref06_Singular_ok 60 ((law06_SmallSingular_l4.drop 2).take 1) (law06_SmallSingular_n1 f_0 g_1 h_2 (x1, y2)) (law06_SmallSingular_t6 f_0 g_1 h_2) (law06_SmallSingular_n2 x1 y2) law06_SmallSingular_E [⟨[], [], [7, 8, 9, 10]⟩] (by kernel_rfl)) (fun a => by obtain ⟨p3, q4⟩ := a; exact Sg.cut 1 law06_SmallSingular_hN (Sg.seg (C := C0) C0_ok L_ref06_Singular_ok 60 (((law06_SmallSingular_l4.drop 2).drop 1).take 1) (law06_SmallSingular_n2 x1 y2 (p3, q4)) (law06_SmallSingular_t7 x1 y2 p3 q4) law06_SmallSingular_n3 law06_SmallSingular_E [⟨[], [], [6]⟩, ⟨[], [], [6]⟩, ⟨[], [], [6]⟩] (by kernel_rfl)) (fun b5 => by exact Sg.seg (C := C0) C0_ok L_ref06_Singular_ok 60 (((law06_SmallSingular_l4.drop 2).drop 1).drop 1) (law06_SmallSingular_n3 b5) (law06_SmallSingular_t8 b5) (fun a : Empty => a.elim) law06_SmallSingular_E [⟨[], [], [6]⟩] (by kernel_rfl)))))
    (fun x => by cases x with | r0 b6 => exact ⟨.inr rfl, [.bool false b6], [], by kernel_rfl, trivial, by kernel_rfl⟩) h

def law06_SmallSingular_i0 : Option law06_SmallSingular_X → Bool
  | some _ => true
  | none => false
def law06_SmallSingular_p0_0 : Option law06_SmallSingular_X → Bool
  | some (.r0 x) => x
  | _ => false
theorem law06_SmallSingular_e0 {x : Option law06_SmallSingular_X} (h : law06_SmallSingular_i0 x = true) : x = some (.r0 (law06_SmallSingular_p0_0 x)) := by
  unfold law06_SmallSingular_i0 at h
  split at h <;> first | rfl | (cases h; done) | (rename_i y; cases y; rfl)
noncomputable def e_law06_SmallSingular : Entry := autoE n_law06_SmallSingular (.cons (.flt true) (.cons (.flt true) (.cons (.flt true) .nil))) fun t => [⟨law06_SmallSingular_o (.r0 (law06_SmallSingular_p0_0 (law06_SmallSingular_F t.1 t.2.1 t.2.2.1))), [law06_SmallSingular_i0 (law06_SmallSingular_F t.1 t.2.1 t.2.2.1)]⟩]
theorem e_law06_SmallSingular_ok : EntryOk prog e_law06_SmallSingular := autoE_ok fun t => (altsCons (fun h => law06_SmallSingular_ok t.1 t.2.1 t.2.2.1 (law06_SmallSingular_e0 h)) altsNil)
noncomputable def L_law06_SmallSingular : List Entry := e_law06_SmallSingular :: L_ref06_Singular
theorem L_law06_SmallSingular_ok : SumsOk prog (sumsOf L_law06_SmallSingular) := sumsOf_cons e_law06_SmallSingular_ok L_ref06_Singular_ok

inductive small_Hypot_X where
  | r0 (a3 : Nat)
def small_Hypot_E : small_Hypot_X → AE × ASt
  | .r0 a3 => (.ret, ⟨slots 30 [(4, .flt false a3)], [], 0⟩)
theorem small_Hypot_hN : NoN small_Hypot_E := by intro x; cases x <;> (intro h; cases h)
theorem small_Hypot_hI (id : Nat) : NoId id small_Hypot_E := by intro x; cases x <;> (intro h; cases h)
def small_Hypot_o : small_Hypot_X → Out
  | .r0 a3 => ⟨.flt false a3, []⟩
noncomputable def small_Hypot_l2 : List Code := flat (BODY n_small_Hypot)
def small_Hypot_n1 : Nat × Nat → ASt := fun (p1, q2) => ⟨slots 30 [(5, .flt false p1), (6, .flt false q2)], [], 0⟩
def small_Hypot_t3 (x_0 : Nat) (y_1 : Nat) : T ((Nat × Nat) ⊕ (small_Hypot_X)) :=
  .ask (fgt (fabs y_1) (fabs x_0))
    (.leaf (.inl ((fabs y_1), (fabs x_0))))
    (.leaf (.inl ((fabs x_0), (fabs y_1))))
def small_Hypot_t4 (p1 : Nat) (q2 : Nat) : T ((Empty) ⊕ (small_Hypot_X)) :=
  .ask (feq p1 0)
    (.leaf (.inr (.r0 p1)))
    (.leaf (.inr (.r0 (fmul p1 (fsqrt (fadd 4607182418800017408 (fmul (fdiv q2 p1) (fdiv q2 p1))))))))
noncomputable def small_Hypot_F (x_0 : Nat) (y_1 : Nat) : Option small_Hypot_X := toX (seqM ((small_Hypot_t3 x_0 y_1).run) fun (p1, q2) =>
  (small_Hypot_t4 p1 q2).run)
theorem small_Hypot_ok (x_0 : Nat) (y_1 : Nat) {x : small_Hypot_X} (h : small_Hypot_F x_0 y_1 = some x) : Contract prog n_small_Hypot [] [.flt false x_0, .flt false y_1] (small_Hypot_o x) :=
  Sg.contract false small_Hypot_o (by kernel_rfl : prog.funcs[n_small_Hypot]? = some (FN n_small_Hypot)) (by kernel_rfl : (FN n_small_Hypot).body = some (BODY n_small_Hypot)) (Sg.cut 4 small_Hypot_hN (Sg.seg (C := C0) C0_ok L_law06_SmallSingular_ok 60 (small_Hypot_l2.take 4) (entryOf (FN n_small_Hypot) [] [.flt false x_0, .flt false y_1]) (small_Hypot_t3 x_0 y_1) small_Hypot_n1 small_Hypot_E [⟨[], [], [5, 6]⟩, ⟨[], [], [5, 6]⟩] (by kernel_rfl)) (fun a => by obtain ⟨p1, q2⟩ := a; exact Sg.seg (C := C0) C0_ok L_law06_SmallSingular_ok 60 (small_Hypot_l2.drop 4) (small_Hypot_n1 (p1, q2)) (small_Hypot_t4 p1 q2) (fun a : Empty => a.elim) small_Hypot_E [⟨[], [], [4]⟩, ⟨[], [], [4]⟩] (by kernel_rfl)))
    (fun x => by cases x with | r0 a3 => exact ⟨.inr rfl, [.flt false a3], [], by kernel_rfl, trivial, by kernel_rfl⟩) h

def small_Hypot_i0 : Option small_Hypot_X → Bool
  | some _ => true
  | none => false
def small_Hypot_p0_0 : Option small_Hypot_X → Nat
  | some (.r0 x) => x
  | _ => 0
theorem small_Hypot_e0 {x : Option small_Hypot_X} (h : small_Hypot_i0 x = true) : x = some (.r0 (small_Hypot_p0_0 x)) := by
  unfold small_Hypot_i0 at h
  split at h <;> first | rfl | (cases h; done) | (rename_i y; cases y; rfl)
noncomputable def e_small_Hypot : Entry := autoE n_small_Hypot (.cons (.flt false) (.cons (.flt false) .nil)) fun t => [⟨small_Hypot_o (.r0 (small_Hypot_p0_0 (small_Hypot_F t.1 t.2.1))), [small_Hypot_i0 (small_Hypot_F t.1 t.2.1)]⟩]
theorem e_small_Hypot_ok : EntryOk prog e_small_Hypot := autoE_ok fun t => (altsCons (fun h => small_Hypot_ok t.1 t.2.1 (small_Hypot_e0 h)) altsNil)
noncomputable def L_small_Hypot : List Entry := e_small_Hypot :: L_law06_SmallSingular
theorem L_small_Hypot_ok : SumsOk prog (sumsOf L_small_Hypot) := sumsOf_cons e_small_Hypot_ok L_law06_SmallSingular_ok

inductive ref06_Hypot_X where
  | r0 (a3 : Nat)
def ref06_Hypot_E : ref06_Hypot_X → AE × ASt
  | .r0 a3 => (.ret, ⟨slots 35 [(4, .flt false a3)], [], 0⟩)
theorem ref06_Hypot_hN : NoN ref06_Hypot_E := by intro x; cases x <;> (intro h; cases h)
theorem ref06_Hypot_hI (id : Nat) : NoId id ref06_Hypot_E := by intro x; cases x <;> (intro h; cases h)
def ref06_Hypot_o : ref06_Hypot_X → Out
  | .r0 a3 => ⟨.flt false a3, []⟩
noncomputable def ref06_Hypot_l2 : List Code := flat (BODY n_ref06_Hypot)
def ref06_Hypot_n1 : Nat × Nat → ASt := fun (p1, q2) => ⟨slots 35 [(5, .flt false p1), (6, .flt false q2)], [], 0⟩
def ref06_Hypot_t3 (x_0 : Nat) (y_1 : Nat) : T ((Nat × Nat) ⊕ (ref06_Hypot_X)) :=
  .ask (fgt (fabs y_1) (fabs x_0))
    (.leaf (.inl ((fabs y_1), (fabs x_0))))
    (.leaf (.inl ((fabs x_0), (fabs y_1))))
def ref06_Hypot_t4 (p1 : Nat) (q2 : Nat) : T ((Empty) ⊕ (ref06_Hypot_X)) :=
  .ask (feq p1 0)
    (.leaf (.inr (.r0 p1)))
    (.leaf (.inr (.r0 (fmul p1 (fsqrt (fadd 4607182418800017408 (fmul (fdiv q2 p1) (fdiv q2 p1))))))))
noncomputable def ref06_Hypot_F (x_0 : Nat) (y_1 : Nat) : Option ref06_Hypot_X := toX (seqM ((ref06_Hypot_t3 x_0 y_1).run) fun (p1, q2) =>
  (ref06_Hypot_t4 p1 q2).run)
theorem ref06_Hypot_ok (x_0 : Nat) (y_1 : Nat) {x : ref06_Hypot_X} (h : ref06_Hypot_F x_0 y_1 = some x) : Contract prog n_ref06_Hypot [] [.flt false x_0, .flt false y_1] (ref06_Hypot_o x) :=
  Sg.contract false ref06_Hypot_o (by kernel_rfl : prog.funcs[n_ref06_Hypot]? = some (FN n_ref06_Hypot)) (by kernel_rfl : (FN n_ref06_Hypot).body = some (BODY n_ref06_Hypot)) (Sg.cut 4 ref06_Hypot_hN (Sg.seg (C := C0) C0_ok L_small_Hypot_ok 60 (ref06_Hypot_l2.take 4) (entryOf (FN n_ref06_Hypot) [] [.flt false x_0, .flt false y_1]) (ref06_Hypot_t3 x_0 y_1) ref06_Hypot_n1 ref06_Hypot_E [⟨[], [], [5, 6]⟩, ⟨[], [], [5, 6]⟩] (by kernel_rfl)) (fun a => by obtain ⟨p1, q2⟩ := a; exact Sg.seg (C := C0) C0_ok L_small_Hypot_ok 60 (ref06_Hypot_l2.drop 4) (ref06_Hypot_n1 (p1, q2)) (ref06_Hypot_t4 p1 q2) (fun a : Empty => a.elim) ref06_Hypot_E [⟨[], [], [4]⟩, ⟨[], [], [4]⟩] (by kernel_rfl)))
    (fun x => by cases x with | r0 a3 => exact ⟨.inr rfl, [.flt false a3], [], by kernel_rfl, trivial, by kernel_rfl⟩) h

def ref06_Hypot_i0 : Option ref06_Hypot_X → Bool
  | some _ => true
  | none => false
def ref06_Hypot_p0_0 : Option ref06_Hypot_X → Nat
  | some (.r0 x) => x
  | _ => 0
theorem ref06_Hypot_e0 {x : Option ref06_Hypot_X} (h : ref06_Hypot_i0 x = true) : x = some (.r0 (ref06_Hypot_p0_0 x)) := by
  unfold ref06_Hypot_i0 at h
  split at h <;> first | rfl | (cases h; done) | (rename_i y; cases y; rfl)
noncomputable def e_ref06_Hypot : Entry := autoE n_ref06_Hypot (.cons (.flt false) (.cons (.flt false) .nil)) fun t => [⟨ref06_Hypot_o (.r0 (ref06_Hypot_p0_0 (ref06_Hypot_F t.1 t.2.1))), [ref06_Hypot_i0 (ref06_Hypot_F t.1 t.2.1)]⟩]
theorem e_ref06_Hypot_ok : EntryOk prog e_ref06_Hypot := autoE_ok fun t => (altsCons (fun h => ref06_Hypot_ok t.1 t.2.1 (ref06_Hypot_e0 h)) altsNil)
noncomputable def L_ref06_Hypot : List Entry := e_ref06_Hypot :: L_small_Hypot
theorem L_ref06_Hypot_ok : SumsOk prog (sumsOf L_ref06_Hypot) := sumsOf_cons e_ref06_Hypot_ok L_small_Hypot_ok

inductive law06_SmallLengths_X where
  | r0 (b3 : Bool)
def law06_SmallLengths_E : law06_SmallLengths_X → AE × ASt
  | .r0 b3 => (.ret, ⟨slots 43 [(4, .bool false b3)], [], 0⟩)
theorem law06_SmallLengths_hN : NoN law06_SmallLengths_E := by intro x; cases x <;> (intro h; cases h)
theorem law06_SmallLengths_hI (id : Nat) : NoId id law06_SmallLengths_E := by intro x; cases x <;> (intro h; cases h)
def law06_SmallLengths_o : law06_SmallLengths_X → Out
  | .r0 b3 => ⟨.bool false b3, []⟩
noncomputable def law06_SmallLengths_l3 : List Code := flat (BODY n_law06_SmallLengths)
def law06_SmallLengths_n1 (x_0 : Nat) (y_1 : Nat) (b1 : Bool) : ASt := ⟨slots 43 [(0, .flt false x_0), (1, .flt false y_1), (22, .bool false b1)], [], 0⟩
def law06_SmallLengths_t4 (x_0 : Nat) (y_1 : Nat) : T ((Bool) ⊕ (law06_SmallLengths_X)) :=
  .need (small_Hypot_i0 (small_Hypot_F x_0 y_1)) <| .need (ref06_Hypot_i0 (ref06_Hypot_F x_0 y_1)) <| .ask (!(sameB (small_Hypot_p0_0 (small_Hypot_F x_0 y_1)) (ref06_Hypot_p0_0 (ref06_Hypot_F x_0 y_1))))
    (.leaf (.inl true))
    (.leaf (.inl (!(sameB (fcopy x_0 y_1) (fcopy x_0 y_1)))))
def law06_SmallLengths_n2 (b2 : Bool) : ASt := ⟨slots 43 [(4, .bool false b2)], [], 0⟩
def law06_SmallLengths_t5 (x_0 : Nat) (y_1 : Nat) (b1 : Bool) : T ((Bool) ⊕ (law06_SmallLengths_X)) :=
  .ask b1
    (.leaf (.inr (.r0 false)))
    (.ask (fne x_0 x_0)
      (.leaf (.inl true))
      (.ask (fne y_1 y_1)
        (.leaf (.inl true))
        (.need (small_Hypot_i0 (small_Hypot_F x_0 y_1)) <| .need (small_Hypot_i0 (small_Hypot_F y_1 x_0)) <| .ask (sameB (small_Hypot_p0_0 (small_Hypot_F x_0 y_1)) (small_Hypot_p0_0 (small_Hypot_F y_1 x_0)))
          (.leaf (.inl true))
          (.leaf (.inl false)))))
def law06_SmallLengths_t6 (b2 : Bool) : T ((Empty) ⊕ (law06_SmallLengths_X)) :=
  .leaf (.inr (.r0 b2))
noncomputable def law06_SmallLengths_F (x_0 : Nat) (y_1 : Nat) : Option law06_SmallLengths_X := toX (seqM ((law06_SmallLengths_t4 x_0 y_1).run) fun b1 =>
  seqM ((law06_SmallLengths_t5 x_0 y_1 b1).run) fun b2 =>
  (law06_SmallLengths_t6 b2).run)
theorem law06_SmallLengths_ok (x_0 : Nat) (y_1 : Nat) {x : law06_SmallLengths_X} (h : law06_SmallLengths_F x_0 y_1 = some x) : Contract prog n_law06_SmallLengths [] [.flt true x_0, .flt true y_1] (law06_SmallLengths_o x) :=
  Sg.contract false law06_SmallLengths_o (by kernel_rfl : prog.funcs[n_law06_SmallLengths]? = some (FN n_law06_SmallLengths)) (by kernel_rfl : (FN n_law06_SmallLengths).body = some (BODY n_law06_SmallLengths)) (Sg.cut 2 law06_SmallLengths_hN (Sg.seg (C := C0) C0_ok L_ref06_Hypot_ok 60 (law06_SmallLengths_l3.take 2) (entryOf (FN n_law06_SmallLengths) [] [.flt true x_0, .flt true y_1]) (law06_SmallLengths_t4 x_0 y_1) (law06_SmallLengths_n1 x_0 y_1) law06_SmallLengths_E [⟨[], [], [0, 1, 22]⟩, ⟨[], [], [0, 1, 22]⟩] (by kernel_rfl)) (fun b1 => by exact Sg.cut 2 law06_SmallLengths_hN (Sg.seg (C := C0) C0_ok L_ref06_Hypot_ok 60 ((law06_SmallLengths_l3.drop 2).take 2) (law06_SmallLengths_n1 x_0 y_1 b1) (law06_SmallLengths_t5 x_0 y_1 b1) law06_SmallLengths_n2 law06_SmallLengths_E [⟨[], [], [4]⟩, ⟨[], [], [4]⟩, ⟨[], [], [4]⟩, ⟨[], [], [4]⟩, ⟨[], [], [4]⟩] (by kernel_rfl)) (fun b2 => by exact Sg.seg (C := C0) C0_ok L_ref06_Hypot_ok 60 ((law06_SmallLengths_l3.drop 2).drop 2) (law06_SmallLengths_n2 b2) (law06_SmallLengths_t6 b2) (fun a : Empty => a.elim) law06_SmallLengths_E [⟨[], [], [4]⟩] (by kernel_rfl))))
    (fun x => by cases x with | r0 b3 => exact ⟨.inr rfl, [.bool false b3], [], by kernel_rfl, trivial, by kernel_rfl⟩) h

def law06_SmallLengths_i0 : Option law06_SmallLengths_X → Bool
  | some _ => true
  | none => false
def law06_SmallLengths_p0_0 : Option law06_SmallLengths_X → Bool
  | some (.r0 x) => x
  | _ => false
theorem law06_SmallLengths_e0 {x : Option law06_SmallLengths_X} (h : law06_SmallLengths_i0 x = true) : x = some (.r0 (law06_SmallLengths_p0_0 x)) := by
  unfold law06_SmallLengths_i0 at h
  split at h <;> first | rfl | (cases h; done) | (rename_i y; cases y; rfl)
noncomputable def e_law06_SmallLengths : Entry := autoE n_law06_SmallLengths (.cons (.flt true) (.cons (.flt true) .nil)) fun t => [⟨law06_SmallLengths_o (.r0 (law06_SmallLengths_p0_0 (law06_SmallLengths_F t.1 t.2.1))), [law06_SmallLengths_i0 (law06_SmallLengths_F t.1 t.2.1)]⟩]
theorem e_law06_SmallLengths_ok : EntryOk prog e_law06_SmallLengths := autoE_ok fun t => (altsCons (fun h => law06_SmallLengths_ok t.1 t.2.1 (law06_SmallLengths_e0 h)) altsNil)
noncomputable def L_law06_SmallLengths : List Entry := e_law06_SmallLengths :: L_ref06_Hypot
theorem L_law06_SmallLengths_ok : SumsOk prog (sumsOf L_law06_SmallLengths) := sumsOf_cons e_law06_SmallLengths_ok L_ref06_Hypot_ok

inductive small_Givens_X where
  | r0 (c1 : Nat) (s2 : Nat) (r3 : Nat)
def small_Givens_E : small_Givens_X → AE × ASt
  | .r0 c1 s2 r3 => (.ret, ⟨slots 59 [(4, .flt false c1), (5, .flt false s2), (6, .flt false r3)], [], 0⟩)
theorem small_Givens_hN : NoN small_Givens_E := by intro x; cases x <;> (intro h; cases h)
theorem small_Givens_hI (id : Nat) : NoId id small_Givens_E := by intro x; cases x <;> (intro h; cases h)
def small_Givens_o : small_Givens_X → Out
  | .r0 c1 s2 r3 => ⟨.tup [.flt false c1, .flt false s2, .flt false r3], []⟩
noncomputable def small_Givens_l1 : List Code := flat (BODY n_small_Givens)
def small_Givens_t2 (f_0 : Nat) (g_1 : Nat) : T ((Empty) ⊕ (small_Givens_X)) :=
  .ask (feq g_1 0)
    (.leaf (.inr (.r0 4607182418800017408 0 f_0)))
    (.ask (feq f_0 0)
      (.leaf (.inr (.r0 0 4607182418800017408 g_1)))
      (.ask (fgt (fabs f_0) (fabs g_1))
        (.leaf (.inr (.r0 (fdiv 4607182418800017408 (fsqrt (fadd 4607182418800017408 (fmul (fdiv g_1 f_0) (fdiv g_1 f_0))))) (fmul (fdiv 4607182418800017408 (fsqrt (fadd 4607182418800017408 (fmul (fdiv g_1 f_0) (fdiv g_1 f_0))))) (fdiv g_1 f_0)) (fmul f_0 (fsqrt (fadd 4607182418800017408 (fmul (fdiv g_1 f_0) (fdiv g_1 f_0))))))))
        (.leaf (.inr (.r0 (fmul (fdiv 4607182418800017408 (fsqrt (fadd 4607182418800017408 (fmul (fdiv f_0 g_1) (fdiv f_0 g_1))))) (fdiv f_0 g_1)) (fdiv 4607182418800017408 (fsqrt (fadd 4607182418800017408 (fmul (fdiv f_0 g_1) (fdiv f_0 g_1))))) (fmul g_1 (fsqrt (fadd 4607182418800017408 (fmul (fdiv f_0 g_1) (fdiv f_0 g_1))))))))))
noncomputable def small_Givens_F (f_0 : Nat) (g_1 : Nat) : Option small_Givens_X := toX ((small_Givens_t2 f_0 g_1).run)
theorem small_Givens_ok (f_0 : Nat) (g_1 : Nat) {x : small_Givens_X} (h : small_Givens_F f_0 g_1 = some x) : Contract prog n_small_Givens [] [.flt false f_0, .flt false g_1] (small_Givens_o x) :=
  Sg.contract false small_Givens_o (by kernel_rfl : prog.funcs[n_small_Givens]? = some (FN n_small_Givens)) (by kernel_rfl : (FN n_small_Givens).body = some (BODY n_small_Givens)) (Sg.seg (C := C0) C0_ok L_law06_SmallLengths_ok 60 small_Givens_l1 (entryOf (FN n_small_Givens) [] [.flt false f_0, .flt false g_1]) (small_Givens_t2 f_0 g_1) (fun a : Empty => a.elim) small_Givens_E [⟨[], [], [4, 5, 6]⟩, ⟨[], [], [4, 5, 6]⟩, ⟨[], [], [4, 5, 6]⟩, ⟨[], [], [4, 5, 6]⟩] (by kernel_rfl))
    (fun x => by cases x with | r0 c1 s2 r3 => exact ⟨.inr rfl, [.flt false c1, .flt false s2, .flt false r3], [], by kernel_rfl, trivial, by kernel_rfl⟩) h

def small_Givens_i0 : Option small_Givens_X → Bool
  | some _ => true
  | none => false
def small_Givens_p0_0 : Option small_Givens_X → Nat
  | some (.r0 x _ _) => x
  | _ => 0
def small_Givens_p0_1 : Option small_Givens_X → Nat
  | some (.r0 _ x _) => x
  | _ => 0
def small_Givens_p0_2 : Option small_Givens_X → Nat
  | some (.r0 _ _ x) => x
  | _ => 0
theorem small_Givens_e0 {x : Option small_Givens_X} (h : small_Givens_i0 x = true) : x = some (.r0 (small_Givens_p0_0 x) (small_Givens_p0_1 x) (small_Givens_p0_2 x)) := by
  unfold small_Givens_i0 at h
  split at h <;> first | rfl | (cases h; done) | (rename_i y; cases y; rfl)
noncomputable def e_small_Givens : Entry := autoE n_small_Givens (.cons (.flt false) (.cons (.flt false) .nil)) fun t => [⟨small_Givens_o (.r0 (small_Givens_p0_0 (small_Givens_F t.1 t.2.1)) (small_Givens_p0_1 (small_Givens_F t.1 t.2.1)) (small_Givens_p0_2 (small_Givens_F t.1 t.2.1))), [small_Givens_i0 (small_Givens_F t.1 t.2.1)]⟩]
theorem e_small_Givens_ok : EntryOk prog e_small_Givens := autoE_ok fun t => (altsCons (fun h => small_Givens_ok t.1 t.2.1 (small_Givens_e0 h)) altsNil)
noncomputable def L_small_Givens : List Entry := e_small_Givens :: L_law06_SmallLengths
theorem L_small_Givens_ok : SumsOk prog (sumsOf L_small_Givens) := sumsOf_cons e_small_Givens_ok L_law06_SmallLengths_ok

inductive ref06_Givens_X where
  | r0 (a1 : Nat) (a2 : Nat) (a3 : Nat)
def ref06_Givens_E : ref06_Givens_X → AE × ASt
  | .r0 a1 a2 a3 => (.ret, ⟨slots 60 [(4, .flt false a1), (5, .flt false a2), (6, .flt false a3)], [], 0⟩)
theorem ref06_Givens_hN : NoN ref06_Givens_E := by intro x; cases x <;> (intro h; cases h)
theorem ref06_Givens_hI (id : Nat) : NoId id ref06_Givens_E := by intro x; cases x <;> (intro h; cases h)
def ref06_Givens_o : ref06_Givens_X → Out
  | .r0 a1 a2 a3 => ⟨.tup [.flt false a1, .flt false a2, .flt false a3], []⟩
noncomputable def ref06_Givens_l1 : List Code := flat (BODY n_ref06_Givens)
def ref06_Givens_t2 (f_0 : Nat) (g_1 : Nat) : T ((Empty) ⊕ (ref06_Givens_X)) :=
  .ask (feq g_1 0)
    (.leaf (.inr (.r0 4607182418800017408 0 f_0)))
    (.ask (feq f_0 0)
      (.leaf (.inr (.r0 0 4607182418800017408 g_1)))
      (.ask (fgt (fabs f_0) (fabs g_1))
        (.leaf (.inr (.r0 (fdiv 4607182418800017408 (fsqrt (fadd 4607182418800017408 (fmul (fdiv g_1 f_0) (fdiv g_1 f_0))))) (fmul (fdiv 4607182418800017408 (fsqrt (fadd 4607182418800017408 (fmul (fdiv g_1 f_0) (fdiv g_1 f_0))))) (fdiv g_1 f_0)) (fmul f_0 (fsqrt (fadd 4607182418800017408 (fmul (fdiv g_1 f_0) (fdiv g_1 f_0))))))))
        (.leaf (.inr (.r0 (fmul (fdiv 4607182418800017408 (fsqrt (fadd 4607182418800017408 (fmul (fdiv f_0 g_1) (fdiv f_0 g_1))))) (fdiv f_0 g_1)) (fdiv 4607182418800017408 (fsqrt (fadd 4607182418800017408 (fmul (fdiv f_0 g_1) (fdiv f_0 g_1))))) (fmul g_1 (fsqrt (fadd 4607182418800017408 (fmul (fdiv f_0 g_1) (fdiv f_0 g_1))))))))))
noncomputable def ref06_Givens_F (f_0 : Nat) (g_1 : Nat) : Option ref06_Givens_X := toX ((ref06_Givens_t2 f_0 g_1).run)
theorem ref06_Givens_ok (f_0 : Nat) (g_1 : Nat) {x : ref06_Givens_X} (h : ref06_Givens_F f_0 g_1 = some x) : Contract prog n_ref06_Givens [] [.flt false f_0, .flt false g_1] (ref06_Givens_o x) :=
  Sg.contract false ref06_Givens_o (by kernel_rfl : prog.funcs[n_ref06_Givens]? = some (FN n_ref06_Givens)) (by kernel_rfl : (FN n_ref06_Givens).body = some (BODY n_ref06_Givens)) (Sg.seg (C := C0) C0_ok L_small_Givens_ok 60 ref06_Givens_l1 (entryOf (FN n_ref06_Givens) [] [.flt false f_0, .flt false g_1]) (ref06_Givens_t2 f_0 g_1) (fun a : Empty => a.elim) ref06_Givens_E [⟨[], [], [4, 5, 6]⟩, ⟨[], [], [4, 5, 6]⟩, ⟨[], [], [4, 5, 6]⟩, ⟨[], [], [4, 5, 6]⟩] (by kernel_rfl))
    (fun x => by cases x with | r0 a1 a2 a3 => exact ⟨.inr rfl, [.flt false a1, .flt false a2, .flt false a3], [], by kernel_rfl, trivial, by kernel_rfl⟩) h

def ref06_Givens_i0 : Option ref06_Givens_X → Bool
  | some _ => true
  | none => false
def ref06_Givens_p0_0 : Option ref06_Givens_X → Nat
  | some (.r0 x _ _) => x
  | _ => 0
def ref06_Givens_p0_1 : Option ref06_Givens_X → Nat
  | some (.r0 _ x _) => x
  | _ => 0
def ref06_Givens_p0_2 : Option ref06_Givens_X → Nat
  | some (.r0 _ _ x) => x
  | _ => 0
theorem ref06_Givens_e0 {x : Option ref06_Givens_X} (h : ref06_Givens_i0 x = true) : x = some (.r0 (ref06_Givens_p0_0 x) (ref06_Givens_p0_1 x) (ref06_Givens_p0_2 x)) := by
  unfold ref06_Givens_i0 at h
  split at h <;> first | rfl | (cases h; done) | (rename_i y; cases y; rfl)
noncomputable def e_ref06_Givens : Entry := autoE n_ref06_Givens (.cons (.flt false) (.cons (.flt false) .nil)) fun t => [⟨ref06_Givens_o (.r0 (ref06_Givens_p0_0 (ref06_Givens_F t.1 t.2.1)) (ref06_Givens_p0_1 (ref06_Givens_F t.1 t.2.1)) (ref06_Givens_p0_2 (ref06_Givens_F t.1 t.2.1))), [ref06_Givens_i0 (ref06_Givens_F t.1 t.2.1)]⟩]
theorem e_ref06_Givens_ok : EntryOk prog e_ref06_Givens := autoE_ok fun t => (altsCons (fun h => ref06_Givens_ok t.1 t.2.1 (ref06_Givens_e0 h)) altsNil)
noncomputable def L_ref06_Givens : List Entry := e_ref06_Givens :: L_small_Givens
theorem L_ref06_Givens_ok : SumsOk prog (sumsOf L_ref06_Givens) := sumsOf_cons e_ref06_Givens_ok L_small_Givens_ok

inductive law06_SmallGivens_X where
  | r0 (b9 : Bool)
def law06_SmallGivens_E : law06_SmallGivens_X → AE × ASt
  | .r0 b9 => (.ret, ⟨slots 86 [(8, .bool false b9)], [], 0⟩)
theorem law06_SmallGivens_hN : NoN law06_SmallGivens_E := by intro x; cases x <;> (intro h; cases h)
theorem law06_SmallGivens_hI (id : Nat) : NoId id law06_SmallGivens_E := by intro x; cases x <;> (intro h; cases h)
def law06_SmallGivens_o : law06_SmallGivens_X → Out
  | .r0 b9 => ⟨.bool false b9, []⟩
noncomputable def law06_SmallGivens_l5 : List Code := flat (BODY n_law06_SmallGivens)
def law06_SmallGivens_n1 (f_0 : Nat) (g_1 : Nat) (x_2 : Nat) (y_3 : Nat) : Nat × Nat × Nat → ASt := fun (c1, s2, r3) => ⟨slots 86 [(0, .flt false f_0), (1, .flt false g_1), (2, .flt false x_2), (3, .flt false y_3), (9, .flt false c1), (10, .flt false s2), (11, .flt false r3)], [], 0⟩
def law06_SmallGivens_t6 (f_0 : Nat) (g_1 : Nat) : T ((Nat × Nat × Nat) ⊕ (law06_SmallGivens_X)) :=
  .need (small_Givens_i0 (small_Givens_F f_0 g_1)) <| .leaf (.inl ((small_Givens_p0_0 (small_Givens_F f_0 g_1)), (small_Givens_p0_1 (small_Givens_F f_0 g_1)), (small_Givens_p0_2 (small_Givens_F f_0 g_1))))
def law06_SmallGivens_n2 (f_0 : Nat) (g_1 : Nat) (x_2 : Nat) (y_3 : Nat) (c1 : Nat) (s2 : Nat) (r3 : Nat) : Nat × Nat × Nat → ASt := fun (a4, b5, q6) => ⟨slots 86 [(0, .flt false f_0), (1, .flt false g_1), (2, .flt false x_2), (3, .flt false y_3), (9, .flt false c1), (10, .flt false s2), (11, .flt false r3), (12, .flt false a4), (13, .flt false b5), (14, .flt false q6)], [], 0⟩
def law06_SmallGivens_t7 (f_0 : Nat) (g_1 : Nat) : T ((Nat × Nat × Nat) ⊕ (law06_SmallGivens_X)) :=
  .need (ref06_Givens_i0 (ref06_Givens_F f_0 g_1)) <| .leaf (.inl ((ref06_Givens_p0_0 (ref06_Givens_F f_0 g_1)), (ref06_Givens_p0_1 (ref06_Givens_F f_0 g_1)), (ref06_Givens_p0_2 (ref06_Givens_F f_0 g_1))))
def law06_SmallGivens_n3 (f_0 : Nat) (g_1 : Nat) (x_2 : Nat) (y_3 : Nat) (b7 : Bool) : ASt := ⟨slots 86 [(0, .flt false f_0), (1, .flt false g_1), (2, .flt false x_2), (3, .flt false y_3), (50, .bool false b7)], [], 0⟩
def law06_SmallGivens_t8 (c1 : Nat) (s2 : Nat) (r3 : Nat) (a4 : Nat) (b5 : Nat) (q6 : Nat) : T ((Bool) ⊕ (law06_SmallGivens_X)) :=
  .ask (!(sameB c1 a4))
    (.leaf (.inl true))
    (.ask (!(sameB s2 b5))
      (.leaf (.inl true))
      (.leaf (.inl (!(sameB r3 q6)))))
def law06_SmallGivens_n4 (b8 : Bool) : ASt := ⟨slots 86 [(8, .bool false b8)], [], 0⟩
def law06_SmallGivens_t9 (f_0 : Nat) (g_1 : Nat) (x_2 : Nat) (y_3 : Nat) (b7 : Bool) : T ((Bool) ⊕ (law06_SmallGivens_X)) :=
  .ask b7
    (.leaf (.inr (.r0 false)))
    (.ask (sameB (fadd (fmul f_0 x_2) (fmul g_1 y_3)) (fadd (fmul f_0 x_2) (fmul g_1 y_3)))
      (.ask (sameB (fsub (fmul f_0 y_3) (fmul g_1 x_2)) (fsub (fmul f_0 y_3) (fmul g_1 x_2)))
        (.leaf (.inl true))
        (.leaf (.inl false)))
      (.leaf (.inl false)))
def law06_SmallGivens_t10 (b8 : Bool) : T ((Empty) ⊕ (law06_SmallGivens_X)) :=
  .leaf (.inr (.r0 b8))
noncomputable def law06_SmallGivens_F (f_0 : Nat) (g_1 : Nat) (x_2 : Nat) (y_3 : Nat) : Option law06_SmallGivens_X := toX (seqM ((law06_SmallGivens_t6 f_0 g_1).run) fun (c1, s2, r3) =>
  seqM ((law06_SmallGivens_t7 f_0 g_1).run) fun (a4, b5, q6) =>
  seqM ((law06_SmallGivens_t8 c1 s2 r3 a4 b5 q6).run) fun b7 =>
  seqM ((law06_SmallGivens_t9 f_0 g_1 x_2 y_3 b7).run) fun b8 =>
  (law06_SmallGivens_t10 b8).run)
theorem law06_SmallGivens_ok (f_0 : Nat) (g_1 : Nat) (x_2 : Nat) (y_3 : Nat) {x : law06_SmallGivens_X} (h : law06_SmallGivens_F f_0 g_1 x_2 y_3 = some x) : Contract prog n_law06_SmallGivens [] [.flt true f_0, .flt true g_1, .flt true x_2, .flt true y_3] (law06_SmallGivens_o x) :=
  Sg.contract false law06_SmallGivens_o (by kernel_rfl : prog.funcs[n_law06_SmallGivens]? = some (FN n_law06_SmallGivens)) (by kernel_rfl : (FN n_law06_SmallGivens).body = some (BODY n_law06_SmallGivens)) (Sg.cut 2 law06_SmallGivens_hN (Sg.seg (C := C0) C0_ok L_ref06_Givens_ok 60 (law06_SmallGivens_l5.take 2) (entryOf (FN n_law06_SmallGivens) [] [.flt true f_0, .flt true g_1, .flt true x_2, .flt true y_3]) (law06_SmallGivens_t6 f_0 g_1) (law06_SmallGivens_n1 f_0 g_1 x_2 y_3) law06_SmallGivens_E [⟨[], [], [0, 1, 2, 3, 9, 10, 11]⟩] (by kernel_rfl)) (fun a => by obtain ⟨c1, s2, r3⟩ := a; exact Sg.cut 1 law06_SmallGivens_hN (Sg.seg (C := C0) C0_ok L_ref06_Givens_ok 60 ((law06_SmallGivens_l5.drop 2).take 1) (law06_SmallGivens_n1 f_0 g_1 x_2 y_3 (c1, s2, r3)) (law06_SmallGivens_t7 f_0 g_1) (law06_SmallGivens_n2 f_0 g_1 x_2 y_3 c1 s2 r3) law06_SmallGivens_E [⟨[], [], [0, 1, 2, 3, 9, 10, 11, 12, 13, 14]⟩] (by kernel_rfl)) (fun a => by obtain ⟨a4, b5, q6⟩ := a; exact Sg.cut 1 law06_SmallGivens_hN (Sg.seg (C := C0) C0_ok L_ref06_Givens_ok 60 (((law06_SmallGivens_l5.drop 2).drop 1).take 1) (law06_SmallGivens_n2 f_0 g_1 x_2 y_3 c1 s2 r3 (a4, b5, q6)) (law06_SmallGivens_t8 c1 s2 r3 a4 b5 q6) (law06_SmallGivens_n3 f_0 g_1 x_2 y_3) law06_SmallGivens_E [⟨[], [], [0, 1, 2, 3, 50]⟩, ⟨[], [], [0, 1, 2, 3, 50]⟩, ⟨[], [], [0, 1, 2, 3, 50]⟩] (by kernel_rfl)) (fun b7 => by exact Sg.cut 5 law06_SmallGivens_hN (Sg.seg (C := C0) C0_ok L_ref06_Givens_ok 60 ((((law06_SmallGivens_l5.drop 2).drop 1).drop 1).take 5) (law06_SmallGivens_n3 f_0 g_1 x_2 y_3 b7) (law06_SmallGivens_t9 f_0 g_1 x_2 y_3 b7) law06_SmallGivens_n4 law06_SmallGivens_E [⟨[], [], [8]⟩, ⟨[], [], [8]⟩, ⟨[], [], [8]⟩, ⟨[], [], [8]⟩] (by kernel_rfl)) (fun b8 => by exact Sg.seg (C := C0) C0_ok L_ref06_Givens_ok 60 ((((law06_SmallGivens_l5.drop 2).drop 1).drop 1).drop 5) (law06_SmallGivens_n4 b8) (law06_SmallGivens_t10 b8) (fun a : Empty => a.elim) law06_SmallGivens_E [⟨[], [], [8]⟩] (by kernel_rfl))))))
    (fun x => by cases x with | r0 b9 => exact ⟨.inr rfl, [.bool false b9], [], by kernel_rfl, trivial, by kernel_rfl⟩) h

def law06_SmallGivens_i0 : Option law06_SmallGivens_X → Bool
  | some _ => true
  | none => false
def law06_SmallGivens_p0_0 : Option law06_SmallGivens_X → Bool
  | some (.r0 x) => x
  | _ => false
theorem law06_SmallGivens_e0 {x : Option law06_SmallGivens_X} (h : law06_SmallGivens_i0 x = true) : x = some (.r0 (law06_SmallGivens_p0_0 x)) := by
  unfold law06_SmallGivens_i0 at h
  split at h <;> first | rfl | (cases h; done) | (rename_i y; cases y; rfl)
noncomputable def e_law06_SmallGivens : Entry := autoE n_law06_SmallGivens (.cons (.flt true) (.cons (.flt true) (.cons (.flt true) (.cons (.flt true) .nil)))) fun t => [⟨law06_SmallGivens_o (.r0 (law06_SmallGivens_p0_0 (law06_SmallGivens_F t.1 t.2.1 t.2.2.1 t.2.2.2.1))), [law06_SmallGivens_i0 (law06_SmallGivens_F t.1 t.2.1 t.2.2.1 t.2.2.2.1)]⟩]
theorem e_law06_SmallGivens_ok : EntryOk prog e_law06_SmallGivens := autoE_ok fun t => (altsCons (fun h => law06_SmallGivens_ok t.1 t.2.1 t.2.2.1 t.2.2.2.1 (law06_SmallGivens_e0 h)) altsNil)
noncomputable def L_law06_SmallGivens : List Entry := e_law06_SmallGivens :: L_ref06_Givens
theorem L_law06_SmallGivens_ok : SumsOk prog (sumsOf L_law06_SmallGivens) := sumsOf_cons e_law06_SmallGivens_ok L_ref06_Givens_ok

end
end Go.Plb.Seat

/-
  PLAIN: what trees and loops come to; sums and lists that are filled. No program in sight.
-/
namespace Go.Plb
set_option linter.unusedSimpArgs false
set_option linter.unusedVariables false

theorem T.nd {α : Type} {b : Bool} {t : T α} {x : Option α} (h : b = true) (k : t.run = x) : (T.need b t).run = x := by subst h; exact k
theorem T.at {α : Type} {b : Bool} {t f : T α} {x : Option α} (h : b = true) (k : t.run = x) : (T.ask b t f).run = x := by subst h; exact k
theorem T.af {α : Type} {b : Bool} {t f : T α} {x : Option α} (h : b = false) (k : f.run = x) : (T.ask b t f).run = x := by subst h; exact k
theorem T.a0 {α : Type} {k : Nat} {t f : T α} {a : α} (h : t.run = some a) : (T.alt k t f).run = some a := by simp only [T.run, h]
theorem T.a1 {α : Type} {k : Nat} {t f : T α} {x : Option α} (h : t.run = none) (q : f.run = x) : (T.alt k t f).run = x := by simp only [T.run, h]; exact q
theorem T.nf {α : Type} {b : Bool} {t : T α} (h : b = false) : (T.need b t).run = none := by subst h; rfl

theorem seqM_in {α β X : Type} {m : Option (α ⊕ X)} {k : α → Option (β ⊕ X)} {a : α} {x : Option (β ⊕ X)} (h : m = some (.inl a)) (q : k a = x) : seqM m k = x := by subst h; exact q
theorem seqM_out {α β X : Type} {m : Option (α ⊕ X)} {k : α → Option (β ⊕ X)} {y : X} (h : m = some (.inr y)) : seqM m k = some (.inr y) := by subst h; rfl
theorem joinM_in {κ X : Type} {m : Option (κ ⊕ (κ ⊕ X))} {a : κ} (h : m = some (.inl a)) : joinM m = some (.inl a) := by subst h; rfl
theorem joinM_mid {κ X : Type} {m : Option (κ ⊕ (κ ⊕ X))} {a : κ} (h : m = some (.inr (.inl a))) : joinM m = some (.inl a) := by subst h; rfl
theorem joinM_out {κ X : Type} {m : Option (κ ⊕ (κ ⊕ X))} {a : X} (h : m = some (.inr (.inr a))) : joinM m = some (.inr a) := by subst h; rfl
theorem toX_of {X : Type} {m : Option (Empty ⊕ X)} {x : X} (h : m = some (.inr x)) : toX m = some x := by subst h; rfl

/-- A loop whose states are told by a count. -/
theorem loopM_for {σ Y : Type} {B : σ → Option (σ ⊕ Y)} (st : Nat → σ) (n : Nat) {y : Y} (i : Nat) (hi : i ≤ n) (step : ∀ j, i ≤ j → j < n → B (st j) = some (.inl (st (j + 1)))) (done : B (st n) = some (.inr y)) : loopM B (st i) = some y := by
  obtain ⟨d, rfl⟩ : ∃ d, n = i + d := ⟨n - i, by omega⟩
  clear hi
  induction d generalizing i with
  | zero => exact loopM_out done
  | succ d ih =>
    rw [loopM_on (step i (Nat.le_refl _) (by omega))]
    have e : i + (d + 1) = i + 1 + d := by omega
    rw [e] at step done
    exact ih (i + 1) (fun j h1 h2 => step j (by omega) h2) done

theorem loopM_at {σ Y : Type} {B : σ → Option (σ ⊕ Y)} (st : Nat → σ) (n : Nat) {y : Y} {s0 : σ} (h0 : s0 = st 0) (step : ∀ j, j < n → B (st j) = some (.inl (st (j + 1)))) (done : B (st n) = some (.inr y)) : loopM B s0 = some y := by
  rw [h0]; exact loopM_for st n 0 (Nat.zero_le _) (fun j _ => step j) done

theorem inK_i64 {n : Int} : inK .i64 n = true ↔ -9223372036854775808 ≤ n ∧ n ≤ 9223372036854775807 := by
  have e1 : IntKind.i64.min = -9223372036854775808 := by decide
  have e2 : IntKind.i64.max = 9223372036854775807 := by decide
  simp only [inK, e1, e2, Bool.and_eq_true, decide_eq_true_eq]
theorem inB_i {k : Int} {n : Nat} : inB k n = true ↔ 0 ≤ k ∧ k < n := by simp only [inB, Bool.and_eq_true, decide_eq_true_eq]
theorem leB_i {k : Int} {n : Nat} : leB k n = true ↔ 0 ≤ k ∧ k ≤ n := by simp only [leB, Bool.and_eq_true, decide_eq_true_eq]
theorem ltB_iff {k n : Nat} : ltB k n = true ↔ k < n := by simp [ltB]
theorem leN_iff {k n : Nat} : leN k n = true ↔ k ≤ n := by simp [leN]
theorem ble_iff {k n : Nat} : Nat.ble k n = true ↔ k ≤ n := by rw [Nat.ble_eq]
theorem blt_iff {k n : Nat} : Nat.blt k n = true ↔ k < n := by rw [Nat.blt_eq]

/-- A sum from the first one on. -/
def sumF (f : Nat → Nat) : Nat → Nat
  | 0 => 0
  | n + 1 => fadd (sumF f n) (f n)
theorem sumF_congr {f g : Nat → Nat} : ∀ {n : Nat}, (∀ i, i < n → f i = g i) → sumF f n = sumF g n
  | 0, _ => rfl
  | n + 1, h => by simp only [sumF]; rw [sumF_congr fun i hi => h i (by omega), h n (by omega)]

/-- The first n places filled. -/
def setF {α : Type} (pos : Nat → Nat) (val : Nat → α) (l : List α) : Nat → List α
  | 0 => l
  | n + 1 => (setF pos val l n).set (pos n) (val n)
theorem setF_len {α : Type} {pos : Nat → Nat} {val : Nat → α} {l : List α} : ∀ {n : Nat}, (setF pos val l n).length = l.length
  | 0 => rfl
  | n + 1 => by simp only [setF, List.length_set]; exact setF_len
theorem setF_other {α : Type} {pos : Nat → Nat} {val : Nat → α} {l : List α} {p : Nat} {d : α} : ∀ {n : Nat}, (∀ i, i < n → pos i ≠ p) → (setF pos val l n).getD p d = l.getD p d
  | 0, _ => rfl
  | n + 1, h => by
    have h1 := h n (by omega)
    simp only [setF, List.getD_eq_getElem?_getD, List.getElem?_set, if_neg h1]
    have := setF_other (pos := pos) (val := val) (l := l) (p := p) (d := d) (n := n) (fun i hi => h i (by omega))
    simpa [List.getD_eq_getElem?_getD] using this
theorem setF_congr {α : Type} {pos pos' : Nat → Nat} {val val' : Nat → α} {l : List α} : ∀ {n : Nat}, (∀ i, i < n → pos i = pos' i) → (∀ i, i < n → val i = val' i) → setF pos val l n = setF pos' val' l n
  | 0, _, _ => rfl
  | n + 1, h, k => by simp only [setF]; rw [setF_congr (fun i hi => h i (by omega)) (fun i hi => k i (by omega)), h n (by omega), k n (by omega)]

/-- Something done n times. -/
def iterF {α : Type} (f : Nat → α → α) (a : α) : Nat → α
  | 0 => a
  | n + 1 => f n (iterF f a n)

theorem idx_lt {i k r c : Nat} (hi : i < r) (hk : k < c) : i * c + k < r * c := by
  have : (i + 1) * c ≤ r * c := Nat.mul_le_mul_right c hi
  rw [Nat.add_mul, Nat.one_mul] at this
  omega
theorem idx_inj {i k i' k' c : Nat} (hk : k < c) (hk' : k' < c) (h : i * c + k = i' * c + k') : i = i' ∧ k = k' := by
  have hc : 0 < c := by omega
  have e1 : (i * c + k) / c = i := by rw [Nat.mul_comm, Nat.mul_add_div hc, Nat.div_eq_of_lt hk, Nat.add_zero]
  have e2 : (i' * c + k') / c = i' := by rw [Nat.mul_comm, Nat.mul_add_div hc, Nat.div_eq_of_lt hk', Nat.add_zero]
  have e : i = i' := by rw [← e1, ← e2, h]
  subst e
  exact ⟨rfl, by omega⟩
theorem slOk_all {α : Type} (l : List α) : slOk 0 l.length l = true := by rw [slOk_iff]; omega
theorem leN_self (n : Nat) : leN n n = true := by rw [leN_iff]; exact Nat.le_refl n

/-- An entry of a matrix, by its numbers, is there. -/
structure Idx (e1 e2 e3 : Int) (L p : Nat) : Prop where
  a : inK .i64 e1 = true
  b : inK .i64 e2 = true
  c : inK .i64 e3 = true
  d : inB e3 L = true
  e : ltB (Int.toNat e3) L = true
  f : Int.toNat e3 = p
theorem idxOb {x c k L : Nat} (h : x * c + k < L) (hL : L ≤ 1000000000) (hx : x ≤ 1000000000) : Idx (x : Int) ((x : Int) * (c : Int)) ((x : Int) * (c : Int) + (k : Int)) L (x * c + k) := by
  have e : (x : Int) * (c : Int) = ((x * c : Nat) : Int) := by rw [Int.natCast_mul]
  rw [e]
  generalize x * c = q at h ⊢
  have e3 : ((q : Int) + (k : Int)).toNat = q + k := by omega
  refine ⟨?_, ?_, ?_, ?_, ?_, e3⟩
  · rw [inK_i64]; omega
  · rw [inK_i64]; omega
  · rw [inK_i64]; omega
  · rw [inB_i]; omega
  · rw [ltB_iff]; omega
theorem cutL_to {α : Type} {n : Nat} {l : List α} (h : l.length = n) : cutL 0 n l = l := by rw [← h]; exact cutL_all l
theorem cut_ok (n : Nat) : Nat.ble (0 + n) n = true := by rw [Nat.ble_eq]; omega
theorem first_bad {p : Nat → Prop} [DecidablePred p] : ∀ {n : Nat}, (¬ ∀ i, i < n → p i) → ∃ k, k < n ∧ ¬ p k ∧ ∀ j, j < k → p j
  | 0, h => (h fun i hi => absurd hi (Nat.not_lt_zero _)).elim
  | n + 1, h => by
    by_cases q : ∀ i, i < n → p i
    · refine ⟨n, Nat.lt_succ_self _, fun r => h fun i hi => ?_, q⟩
      rcases Nat.lt_succ_iff_lt_or_eq.1 hi with a | rfl
      · exact q i a
      · exact r
    · obtain ⟨k, h1, h2, h3⟩ := first_bad q
      exact ⟨k, by omega, h2, h3⟩
theorem setF_at {α : Type} {val : Nat → α} {l : List α} {d : α} {i : Nat} : ∀ {n : Nat}, i < n → n ≤ l.length → (setF (fun i => i) val l n).getD i d = val i
  | 0, h, _ => absurd h (Nat.not_lt_zero _)
  | n + 1, h, hl => by
    simp only [setF, List.getD_eq_getElem?_getD, List.getElem?_set, setF_len]
    by_cases e : n = i
    · subst e; rw [if_pos rfl, if_pos (by omega)]; rfl
    · rw [if_neg e]
      have := setF_at (val := val) (l := l) (d := d) (i := i) (n := n) (by omega) (by omega)
      simpa [List.getD_eq_getElem?_getD] using this
theorem cutL_len_all {α : Type} (l : List α) : (cutL 0 l.length l).length = l.length := by rw [cutL_all]
theorem toNat_cast (n : Nat) : Int.toNat (n : Int) = n := rfl
end Go.Plb

/-
  PLAIN: layer 6's laws.
-/
namespace Go.Plb.Seat
open Go Go.Plb
set_option linter.unusedSimpArgs false
set_option linter.unusedVariables false

-- norms
def nmStep (v : Nat) (s : Nat × Nat) : Nat × Nat :=
  bif feq v 0 then s else bif flt s.1 (fabs v) then (fabs v, fadd 4607182418800017408 (fmul (fmul s.2 (fdiv s.1 (fabs v))) (fdiv s.1 (fabs v)))) else (s.1, fadd s.2 (fmul (fdiv (fabs v) s.1) (fdiv (fabs v) s.1)))
def nmGo (l : List Nat) : Nat → Nat × Nat := iterF (fun j s => nmStep (l.getD j 0) s) (0, 4607182418800017408)
def nmF (l : List Nat) : Nat := fmul (nmGo l l.length).1 (fsqrt (nmGo l l.length).2)

theorem Norm_spec {l : List Nat} (h : l.length ≤ 1000000000) : small_Norm_F l = some (.r0 (nmF l)) := by
  refine toX_of (seqM_in rfl (seqM_in (a := nmGo l l.length) (loopM_at (fun j => ((nmGo l j).1, (nmGo l j).2, j)) l.length rfl (fun j hj => ?_) ?_) rfl))
  · show seqM (small_Norm_t11 _ _ _ _).run _ = _
    refine seqM_in (a := nmGo l (j + 1)) ?_ (T.nd (by simp only [inK_i64, inB_i, leB_i, ltB_iff, leN_iff, slOk_iff, ble_iff, blt_iff, decide_eq_true_eq, decide_eq_false_iff_not, beq_iff_eq, beq_eq_false_iff_ne, bne_iff_ne, bne_eq_false_iff_eq, Bool.not_eq_true', Bool.not_eq_false', List.length_set, ne_eq, ge_iff_le, gt_iff_lt, setF_len, toNat_cast, lenOk]; omega) rfl)
    refine T.at (by simp only [inK_i64, inB_i, leB_i, ltB_iff, leN_iff, slOk_iff, ble_iff, blt_iff, decide_eq_true_eq, decide_eq_false_iff_not, beq_iff_eq, beq_eq_false_iff_ne, bne_iff_ne, bne_eq_false_iff_eq, Bool.not_eq_true', Bool.not_eq_false', List.length_set, ne_eq, ge_iff_le, gt_iff_lt, setF_len, toNat_cast, lenOk]; omega) (T.nd (by simp only [inK_i64, inB_i, leB_i, ltB_iff, leN_iff, slOk_iff, ble_iff, blt_iff, decide_eq_true_eq, decide_eq_false_iff_not, beq_iff_eq, beq_eq_false_iff_ne, bne_iff_ne, bne_eq_false_iff_eq, Bool.not_eq_true', Bool.not_eq_false', List.length_set, ne_eq, ge_iff_le, gt_iff_lt, setF_len, toNat_cast, lenOk]; omega) (T.nd (by simp only [inK_i64, inB_i, leB_i, ltB_iff, leN_iff, slOk_iff, ble_iff, blt_iff, decide_eq_true_eq, decide_eq_false_iff_not, beq_iff_eq, beq_eq_false_iff_ne, bne_iff_ne, bne_eq_false_iff_eq, Bool.not_eq_true', Bool.not_eq_false', List.length_set, ne_eq, ge_iff_le, gt_iff_lt, setF_len, toNat_cast, lenOk]; omega) ?_))
    rw [show nmGo l (j + 1) = nmStep (l.getD j 0) (nmGo l j) from rfl]
    generalize l.getD j 0 = v
    generalize nmGo l j = s
    obtain ⟨sc, su⟩ := s
    unfold nmStep
    cases h1 : feq v 0 with
    | true => rfl
    | false =>
      cases h2 : flt sc (fabs v) with
      | true => simp only [h2]; exact T.af rfl (T.at rfl rfl)
      | false => simp only [h2]; exact T.af rfl (T.af rfl rfl)
  · exact seqM_out (T.af (by simp only [inK_i64, inB_i, leB_i, ltB_iff, leN_iff, slOk_iff, ble_iff, blt_iff, decide_eq_true_eq, decide_eq_false_iff_not, beq_iff_eq, beq_eq_false_iff_ne, bne_iff_ne, bne_eq_false_iff_eq, Bool.not_eq_true', Bool.not_eq_false', List.length_set, ne_eq, ge_iff_le, gt_iff_lt, setF_len, toNat_cast, lenOk]; omega) rfl)
theorem Norm6_spec {l : List Nat} (h : l.length ≤ 1000000000) : ref06_Norm_F l = some (.r0 (nmF l)) := by
  refine toX_of (seqM_in rfl (seqM_in (a := nmGo l l.length) (loopM_at (fun j => ((nmGo l j).1, (nmGo l j).2, j)) l.length rfl (fun j hj => ?_) ?_) rfl))
  · show seqM (ref06_Norm_t11 _ _ _ _).run _ = _
    refine seqM_in (a := nmGo l (j + 1)) ?_ (T.nd (by simp only [inK_i64, inB_i, leB_i, ltB_iff, leN_iff, slOk_iff, ble_iff, blt_iff, decide_eq_true_eq, decide_eq_false_iff_not, beq_iff_eq, beq_eq_false_iff_ne, bne_iff_ne, bne_eq_false_iff_eq, Bool.not_eq_true', Bool.not_eq_false', List.length_set, ne_eq, ge_iff_le, gt_iff_lt, setF_len, toNat_cast, lenOk]; omega) rfl)
    refine T.at (by simp only [inK_i64, inB_i, leB_i, ltB_iff, leN_iff, slOk_iff, ble_iff, blt_iff, decide_eq_true_eq, decide_eq_false_iff_not, beq_iff_eq, beq_eq_false_iff_ne, bne_iff_ne, bne_eq_false_iff_eq, Bool.not_eq_true', Bool.not_eq_false', List.length_set, ne_eq, ge_iff_le, gt_iff_lt, setF_len, toNat_cast, lenOk]; omega) (T.nd (by simp only [inK_i64, inB_i, leB_i, ltB_iff, leN_iff, slOk_iff, ble_iff, blt_iff, decide_eq_true_eq, decide_eq_false_iff_not, beq_iff_eq, beq_eq_false_iff_ne, bne_iff_ne, bne_eq_false_iff_eq, Bool.not_eq_true', Bool.not_eq_false', List.length_set, ne_eq, ge_iff_le, gt_iff_lt, setF_len, toNat_cast, lenOk]; omega) (T.nd (by simp only [inK_i64, inB_i, leB_i, ltB_iff, leN_iff, slOk_iff, ble_iff, blt_iff, decide_eq_true_eq, decide_eq_false_iff_not, beq_iff_eq, beq_eq_false_iff_ne, bne_iff_ne, bne_eq_false_iff_eq, Bool.not_eq_true', Bool.not_eq_false', List.length_set, ne_eq, ge_iff_le, gt_iff_lt, setF_len, toNat_cast, lenOk]; omega) ?_))
    rw [show nmGo l (j + 1) = nmStep (l.getD j 0) (nmGo l j) from rfl]
    generalize l.getD j 0 = v
    generalize nmGo l j = s
    obtain ⟨sc, su⟩ := s
    unfold nmStep
    cases h1 : feq v 0 with
    | true => rfl
    | false =>
      cases h2 : flt sc (fabs v) with
      | true => simp only [h2]; exact T.af rfl (T.nd (by simp only [inK_i64, inB_i, leB_i, ltB_iff, leN_iff, slOk_iff, ble_iff, blt_iff, decide_eq_true_eq, decide_eq_false_iff_not, beq_iff_eq, beq_eq_false_iff_ne, bne_iff_ne, bne_eq_false_iff_eq, Bool.not_eq_true', Bool.not_eq_false', List.length_set, ne_eq, ge_iff_le, gt_iff_lt, setF_len, toNat_cast, lenOk]; omega) (T.nd (by simp only [inK_i64, inB_i, leB_i, ltB_iff, leN_iff, slOk_iff, ble_iff, blt_iff, decide_eq_true_eq, decide_eq_false_iff_not, beq_iff_eq, beq_eq_false_iff_ne, bne_iff_ne, bne_eq_false_iff_eq, Bool.not_eq_true', Bool.not_eq_false', List.length_set, ne_eq, ge_iff_le, gt_iff_lt, setF_len, toNat_cast, lenOk]; omega) (T.at rfl rfl)))
      | false => simp only [h2]; exact T.af rfl (T.nd (by simp only [inK_i64, inB_i, leB_i, ltB_iff, leN_iff, slOk_iff, ble_iff, blt_iff, decide_eq_true_eq, decide_eq_false_iff_not, beq_iff_eq, beq_eq_false_iff_ne, bne_iff_ne, bne_eq_false_iff_eq, Bool.not_eq_true', Bool.not_eq_false', List.length_set, ne_eq, ge_iff_le, gt_iff_lt, setF_len, toNat_cast, lenOk]; omega) (T.nd (by simp only [inK_i64, inB_i, leB_i, ltB_iff, leN_iff, slOk_iff, ble_iff, blt_iff, decide_eq_true_eq, decide_eq_false_iff_not, beq_iff_eq, beq_eq_false_iff_ne, bne_iff_ne, bne_eq_false_iff_eq, Bool.not_eq_true', Bool.not_eq_false', List.length_set, ne_eq, ge_iff_le, gt_iff_lt, setF_len, toNat_cast, lenOk]; omega) (T.af rfl rfl)))
  · exact seqM_out (T.af (by simp only [inK_i64, inB_i, leB_i, ltB_iff, leN_iff, slOk_iff, ble_iff, blt_iff, decide_eq_true_eq, decide_eq_false_iff_not, beq_iff_eq, beq_eq_false_iff_ne, bne_iff_ne, bne_eq_false_iff_eq, Bool.not_eq_true', Bool.not_eq_false', List.length_set, ne_eq, ge_iff_le, gt_iff_lt, setF_len, toNat_cast, lenOk]; omega) rfl)

theorem SmallNorms_spec (l : List Nat) : law06_SmallNorms_F l = some (.r0 true) := by
  refine toX_of ?_
  by_cases h : l.length ≤ 600
  · refine seqM_in (a := true) ?_ rfl
    unfold law06_SmallNorms_t3
    rw [cutL_all, Norm_spec (by omega), Norm6_spec (by omega)]
    exact T.af (by simp only [inK_i64, inB_i, leB_i, ltB_iff, leN_iff, slOk_iff, ble_iff, blt_iff, decide_eq_true_eq, decide_eq_false_iff_not, beq_iff_eq, beq_eq_false_iff_ne, bne_iff_ne, bne_eq_false_iff_eq, Bool.not_eq_true', Bool.not_eq_false', List.length_set, ne_eq, ge_iff_le, gt_iff_lt, setF_len, toNat_cast, lenOk]; omega) (T.nd (slOk_all l) (T.nd rfl (T.nd (slOk_all l) (T.nd rfl (T.at (sameB_refl _) rfl)))))
  · exact seqM_out (T.at (by simp only [inK_i64, inB_i, leB_i, ltB_iff, leN_iff, slOk_iff, ble_iff, blt_iff, decide_eq_true_eq, decide_eq_false_iff_not, beq_iff_eq, beq_eq_false_iff_ne, bne_iff_ne, bne_eq_false_iff_eq, Bool.not_eq_true', Bool.not_eq_false', List.length_set, ne_eq, ge_iff_le, gt_iff_lt, setF_len, toNat_cast, lenOk]; omega) rfl)

-- two by twos
theorem Eigen_both (a b c : Nat) : ∃ x y cs sn, small_Eigen_F a b c = some (.r0 x y cs sn) ∧ ref06_Eigen_F a b c = some (.r0 x y cs sn) := by
  obtain ⟨⟨sm, df, ad, tb, ab, hi, lo⟩, p1, q1⟩ : ∃ v, (small_Eigen_t8 a b c).run = some (.inl v) ∧ (ref06_Eigen_t9 a b c).run = some (.inl v) := by
    unfold small_Eigen_t8 ref06_Eigen_t9
    cases fgt (fabs a) (fabs c) <;> exact ⟨_, rfl, rfl⟩
  obtain ⟨rt, p2, q2⟩ : ∃ v, (small_Eigen_t9 ad ab).run = some (.inl v) ∧ (ref06_Eigen_t10 ad ab).run = some (.inl v) := by
    unfold small_Eigen_t9 ref06_Eigen_t10
    cases fgt ad ab <;> cases flt ad ab <;> exact ⟨_, rfl, rfl⟩
  obtain ⟨b9, ⟨x, y, one⟩, p3, q3, q4⟩ : ∃ b9 v, (small_Eigen_t10 b sm hi lo rt).run = some (.inl v) ∧ (ref06_Eigen_t11 sm).run = some (.inl b9) ∧ (ref06_Eigen_t12 b sm hi lo rt b9).run = some (.inl v) := by
    unfold small_Eigen_t10 ref06_Eigen_t11 ref06_Eigen_t12
    cases flt sm 0 <;> cases fgt sm 0 <;> exact ⟨_, _, rfl, rfl, rfl⟩
  obtain ⟨cs, two, p4, q5⟩ : ∃ cs two, (small_Eigen_t11 df rt).run = some (.inl (cs, two)) ∧ (ref06_Eigen_t13 df rt).run = some (.inl (two, cs)) := by
    unfold small_Eigen_t11 ref06_Eigen_t13
    cases fge df 0 <;> exact ⟨_, _, rfl, rfl⟩
  obtain ⟨⟨cs1, sn1⟩, p5, q6⟩ : ∃ v, (small_Eigen_t12 tb ab cs).run = some (.inl v) ∧ (ref06_Eigen_t14 tb ab cs).run = some (.inl v) := by
    unfold small_Eigen_t12 ref06_Eigen_t14
    cases fgt (fabs cs) ab <;> cases feq ab 0 <;> exact ⟨_, rfl, rfl⟩
  obtain ⟨⟨cs2, sn2⟩, p6, q7⟩ : ∃ v, (small_Eigen_t13 one two cs1 sn1).run = some (.inl v) ∧ (ref06_Eigen_t15 one two cs1 sn1).run = some (.inl v) := by
    unfold small_Eigen_t13 ref06_Eigen_t15
    cases one == two <;> exact ⟨_, rfl, rfl⟩
  exact ⟨x, y, cs2, sn2, toX_of (seqM_in p1 (seqM_in p2 (seqM_in p3 (seqM_in p4 (seqM_in p5 (seqM_in p6 rfl)))))), toX_of (seqM_in q1 (seqM_in q2 (seqM_in q3 (seqM_in q4 (seqM_in q5 (seqM_in q6 (seqM_in q7 rfl)))))))⟩

theorem SmallEigen_spec (a b c : Nat) : law06_SmallEigen_F a b c = some (.r0 true) := by
  obtain ⟨x, y, cs, sn, h1, h2⟩ := Eigen_both a b c
  refine toX_of (seqM_in (a := (x, y, cs, sn)) ?_ (seqM_in (a := (x, y, cs, sn)) ?_ (seqM_in (a := true) ?_ rfl)))
  · unfold law06_SmallEigen_t5; rw [h1]; exact T.nd rfl rfl
  · unfold law06_SmallEigen_t6; rw [h2]; exact T.nd rfl rfl
  · exact T.at (sameB_refl _) (T.at (sameB_refl _) (T.at (sameB_refl _) (T.at (sameB_refl _) rfl)))

theorem Singular_both (f g h : Nat) : ∃ x y, small_Singular_F f g h = some (.r0 x y) ∧ ref06_Singular_F f g h = some (.r0 x y) := by
  obtain ⟨⟨ga, lo, hi⟩, p1, q1⟩ : ∃ v, (small_Singular_t5 f g h).run = some (.inl v) ∧ (ref06_Singular_t4 f g h).run = some (.inl v) := by
    unfold small_Singular_t5 ref06_Singular_t4
    cases flt (fabs h) (fabs f) <;> exact ⟨_, rfl, rfl⟩
  obtain ⟨x, y, p2, q2⟩ : ∃ x y, (seqM ((small_Singular_t6 ga lo hi).run) fun _ => seqM ((small_Singular_t7 ga lo hi).run) fun (v4, c5) => (small_Singular_t8 ga lo v4 c5).run) = some (.inr (.r0 x y)) ∧
      (seqM ((ref06_Singular_t5 ga lo hi).run) fun (v4, c5) => (ref06_Singular_t6 ga lo v4 c5).run) = some (.inr (.r0 x y)) := by
    unfold small_Singular_t6 small_Singular_t7 small_Singular_t8 ref06_Singular_t5 ref06_Singular_t6
    cases feq lo 0 <;> cases feq hi 0 <;> cases fgt ga hi <;> cases flt ga hi <;> cases feq (fdiv hi ga) 0 <;> exact ⟨_, _, rfl, rfl⟩
  exact ⟨x, y, toX_of (seqM_in p1 p2), toX_of (seqM_in q1 q2)⟩

theorem SmallSingular_spec (a b c : Nat) : law06_SmallSingular_F a b c = some (.r0 true) := by
  obtain ⟨x, y, h1, h2⟩ := Singular_both a b c
  refine toX_of (seqM_in (a := (x, y)) ?_ (seqM_in (a := (x, y)) ?_ (seqM_in (a := true) ?_ rfl)))
  · unfold law06_SmallSingular_t5; rw [h1]; exact T.nd rfl rfl
  · unfold law06_SmallSingular_t6; rw [h2]; exact T.nd rfl rfl
  · exact T.at (sameB_refl _) (T.at (sameB_refl _) rfl)

theorem Givens_both (f g : Nat) : ∃ c s r, small_Givens_F f g = some (.r0 c s r) ∧ ref06_Givens_F f g = some (.r0 c s r) := by
  unfold small_Givens_F ref06_Givens_F small_Givens_t2 ref06_Givens_t2
  cases feq g 0 <;> cases feq f 0 <;> cases fgt (fabs f) (fabs g) <;> exact ⟨_, _, _, rfl, rfl⟩

theorem SmallGivens_spec (f g x y : Nat) : law06_SmallGivens_F f g x y = some (.r0 true) := by
  obtain ⟨c, s, r, h1, h2⟩ := Givens_both f g
  refine toX_of (seqM_in (a := (c, s, r)) ?_ (seqM_in (a := (c, s, r)) ?_ (seqM_in (a := false) ?_ (seqM_in (a := true) ?_ rfl))))
  · unfold law06_SmallGivens_t6; rw [h1]; exact T.nd rfl rfl
  · unfold law06_SmallGivens_t7; rw [h2]; exact T.nd rfl rfl
  · exact T.af (by rw [sameB_refl]; rfl) (T.af (by rw [sameB_refl]; rfl) (by unfold T.run; rw [sameB_refl]; rfl))
  · exact T.af rfl (T.at (sameB_refl _) (T.at (sameB_refl _) rfl))
end Go.Plb.Seat

/-
  FLOATS: their order, plainly.
-/
namespace Go.Plb
set_option linter.unusedSimpArgs false
set_option linter.unusedVariables false

/-- A float's size that is none below 0: what it counts, and of what. -/
def fmag (x : Nat) : Nat := if x < 4503599627370496 then x else 4503599627370496 + x % 4503599627370496
def fexp (x : Nat) : Nat := x / 4503599627370496 - 1

theorem read_num {x : Nat} (h : x < 9218868437227405312) : FloatKind.f64.format.read x = .number false (fmag x) (-1074 + (fexp x : Int)) := by
  have e1 : Ieee.double.signWeight = 9223372036854775808 := by decide
  have e2 : Ieee.double.binade = 4503599627370496 := by decide
  have e3 : Ieee.double.infRung = 9218868437227405312 := by decide
  have e4 : Ieee.double.leastPlace = -1074 := by decide
  show Ieee.double.read x = _
  unfold Ieee.Format.read
  simp only [e1, e2, e3, e4]
  have h1 : x / 9223372036854775808 % 2 = 0 := by omega
  have h2 : x % 9223372036854775808 = x := by omega
  rw [h1, h2]
  by_cases h3 : x < 4503599627370496
  · rw [if_pos h3]
    have : fexp x = 0 := by unfold fexp; omega
    simp only [fmag, if_pos h3, this]; rfl
  · rw [if_neg h3, if_pos h]
    simp only [fmag, if_neg h3, fexp]; rfl

theorem fmag_lt (x : Nat) : fmag x < 9007199254740992 := by unfold fmag; split <;> omega
theorem fmag_ge {x : Nat} (h : 0 < fexp x) : 4503599627370496 ≤ fmag x := by unfold fexp at h; unfold fmag; rw [if_neg (by omega)]; omega
theorem fmag_inj {x y : Nat} (h1 : fmag x = fmag y) (h2 : fexp x = fexp y) : x = y := by
  unfold fmag at h1; unfold fexp at h2
  split at h1 <;> split at h1 <;> omega

theorem ford_num {x y : Nat} (hx : x < 9218868437227405312) (hy : y < 9218868437227405312) :
    ford x y = some (compare ((fmag x * 2 ^ (fexp x - min (fexp x) (fexp y)) : Nat) : Int) ((fmag y * 2 ^ (fexp y - min (fexp x) (fexp y)) : Nat) : Int)) := by
  unfold ford Ieee.Format.order
  rw [read_num hx, read_num hy]
  simp only [Ieee.Datum.order, Ieee.signed, Bool.false_eq_true, if_false, Nat.shiftLeft_eq]
  have e1 : ((-1074 + (fexp x : Int)) - min (-1074 + (fexp x : Int)) (-1074 + (fexp y : Int))).toNat = fexp x - min (fexp x) (fexp y) := by omega
  have e2 : ((-1074 + (fexp y : Int)) - min (-1074 + (fexp x : Int)) (-1074 + (fexp y : Int))).toNat = fexp y - min (fexp x) (fexp y) := by omega
  rw [e1, e2]

theorem scale_eq {x y : Nat} (h : fexp x ≤ fexp y) (e : fmag x = fmag y * 2 ^ (fexp y - fexp x)) : x = y := by
  rcases Nat.eq_or_lt_of_le h with h1 | h1
  · rw [h1, Nat.sub_self, Nat.pow_zero, Nat.mul_one] at e
    exact fmag_inj e h1
  · have a := fmag_ge (x := y) (by omega)
    have b := fmag_lt x
    have c : 2 ^ 1 ≤ 2 ^ (fexp y - fexp x) := Nat.pow_le_pow_right (by decide) (by omega)
    have d : 4503599627370496 * 2 ≤ fmag y * 2 ^ (fexp y - fexp x) := Nat.mul_le_mul a c
    omega

theorem ford_eq {x y : Nat} (hx : x < 9218868437227405312) (hy : y < 9218868437227405312) (h : ford x y = some .eq) : x = y := by
  rw [ford_num hx hy] at h
  simp only [Option.some.injEq] at h
  have h' := Int.compare_eq_eq.1 h
  have e : fmag x * 2 ^ (fexp x - min (fexp x) (fexp y)) = fmag y * 2 ^ (fexp y - min (fexp x) (fexp y)) := by exact_mod_cast h'
  rcases Nat.le_total (fexp x) (fexp y) with q | q
  · rw [Nat.min_eq_left q, Nat.sub_self, Nat.pow_zero, Nat.mul_one] at e
    exact scale_eq q e
  · rw [Nat.min_eq_right q, Nat.sub_self, Nat.pow_zero, Nat.mul_one] at e
    exact (scale_eq q e.symm).symm

theorem ford_gt {x y : Nat} (hx : x < 9218868437227405312) (hy : y < 9218868437227405312) : ford x y = some .gt ↔ ford y x = some .lt := by
  rw [ford_num hx hy, ford_num hy hx, Nat.min_comm]
  simp only [Option.some.injEq]
  rw [Int.compare_eq_gt, Int.compare_eq_lt]

theorem read_inf : FloatKind.f64.format.read 9218868437227405312 = .infinity false := by decide
theorem ford_inf_l {y : Nat} (hy : y < 9218868437227405312) : ford 9218868437227405312 y = some .gt := by
  unfold ford Ieee.Format.order; rw [read_inf, read_num hy]; rfl
theorem ford_inf_r {x : Nat} (hx : x < 9218868437227405312) : ford x 9218868437227405312 = some .lt := by
  unfold ford Ieee.Format.order; rw [read_inf, read_num hx]; rfl

/-- Of two sizes that are none below 0, neither greater: they are one. -/
theorem sizes_eq {p q : Nat} (hp : p ≤ 9218868437227405312) (hq : q ≤ 9218868437227405312) (h1 : fgt q p = false) (h2 : fgt p q = false) : p = q := by
  unfold fgt at h1 h2
  rcases Nat.lt_or_eq_of_le hp with a | rfl
  · rcases Nat.lt_or_eq_of_le hq with b | rfl
    · rcases hc : ford p q with _ | c
      · rw [ford_num a b] at hc; cases hc
      · cases c with
        | eq => exact ford_eq a b hc
        | gt => rw [hc] at h2; cases h2
        | lt => rw [(ford_gt b a).2 hc] at h1; cases h1
    · rw [ford_inf_l a] at h1; cases h1
  · rcases Nat.lt_or_eq_of_le hq with b | rfl
    · rw [ford_inf_l b] at h2; cases h2
    · rfl
/-- No two are greater, one than the other. -/
theorem sizes_gt {p q : Nat} (hp : p ≤ 9218868437227405312) (hq : q ≤ 9218868437227405312) (h1 : fgt q p = true) : fgt p q = false := by
  unfold fgt at h1 ⊢
  have h1' : ford q p = some .gt := by simpa using h1
  rcases Nat.lt_or_eq_of_le hp with a | rfl
  · rcases Nat.lt_or_eq_of_le hq with b | rfl
    · rw [(ford_gt b a).1 h1']; rfl
    · rw [ford_inf_r a]; rfl
  · rcases Nat.lt_or_eq_of_le hq with b | rfl
    · rw [ford_inf_r b] at h1'; cases h1'
    · have : ford 9218868437227405312 9218868437227405312 = some .eq := by decide
      rw [this]; rfl
end Go.Plb

/-
  PLAIN: SmallLengths.
-/
namespace Go.Plb.Seat
open Go Go.Plb
set_option linter.unusedSimpArgs false
set_option linter.unusedVariables false

def hy2 (p q : Nat) : Nat := bif feq p 0 then p else fmul p (fsqrt (fadd 4607182418800017408 (fmul (fdiv q p) (fdiv q p))))
def hyF (x y : Nat) : Nat := bif fgt (fabs y) (fabs x) then hy2 (fabs y) (fabs x) else hy2 (fabs x) (fabs y)
theorem Hypot_t4 (p q : Nat) : (small_Hypot_t4 p q).run = some (.inr (.r0 (hy2 p q))) := by
  unfold small_Hypot_t4 hy2; cases feq p 0 <;> rfl
theorem Hypot_spec (x y : Nat) : small_Hypot_F x y = some (.r0 (hyF x y)) := by
  unfold small_Hypot_F small_Hypot_t3 hyF
  cases fgt (fabs y) (fabs x) with
  | true => exact toX_of (seqM_in rfl (Hypot_t4 _ _))
  | false => exact toX_of (seqM_in rfl (Hypot_t4 _ _))
theorem Hypot6_t4 (p q : Nat) : (ref06_Hypot_t4 p q).run = some (.inr (.r0 (hy2 p q))) := by
  unfold ref06_Hypot_t4 hy2; cases feq p 0 <;> rfl
theorem Hypot6_spec (x y : Nat) : ref06_Hypot_F x y = some (.r0 (hyF x y)) := by
  unfold ref06_Hypot_F ref06_Hypot_t3 hyF
  cases fgt (fabs y) (fabs x) with
  | true => exact toX_of (seqM_in rfl (Hypot6_t4 _ _))
  | false => exact toX_of (seqM_in rfl (Hypot6_t4 _ _))

theorem fabs_le {x : Nat} (h : isNaN x = false) : fabs x ≤ 9218868437227405312 := by
  rw [isNaN_eq] at h
  have := of_decide_eq_false h
  unfold fabs; omega
theorem hyF_comm {x y : Nat} (hx : isNaN x = false) (hy : isNaN y = false) : hyF x y = hyF y x := by
  have a := fabs_le hx; have b := fabs_le hy
  unfold hyF
  cases h1 : fgt (fabs y) (fabs x) with
  | true => rw [sizes_gt a b h1]; rfl
  | false =>
    cases h2 : fgt (fabs x) (fabs y) with
    | true => rfl
    | false => rw [sizes_eq a b h1 h2]

theorem SmallLengths_spec (x y : Nat) : law06_SmallLengths_F x y = some (.r0 true) := by
  refine toX_of (seqM_in (a := false) ?_ (seqM_in (a := true) ?_ rfl))
  · unfold law06_SmallLengths_t4
    rw [Hypot_spec, Hypot6_spec]
    refine T.nd rfl (T.nd rfl (T.af (by simp only [small_Hypot_p0_0, ref06_Hypot_p0_0, sameB_refl]; rfl) ?_))
    rw [sameB_refl]; rfl
  · unfold law06_SmallLengths_t5
    rw [Hypot_spec, Hypot_spec, fne_self, fne_self]
    refine T.af rfl ?_
    cases hx : isNaN x with
    | true => exact T.at rfl rfl
    | false =>
      refine T.af rfl ?_
      cases hy : isNaN y with
      | true => exact T.at rfl rfl
      | false =>
        refine T.af rfl (T.nd rfl (T.nd rfl (T.at ?_ rfl)))
        simp only [small_Hypot_p0_0]
        rw [hyF_comm hx hy]; exact sameB_refl _
end Go.Plb.Seat
