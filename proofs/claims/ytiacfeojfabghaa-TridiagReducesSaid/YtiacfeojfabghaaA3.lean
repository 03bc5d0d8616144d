/-
  Part 3 of what the claim leans on: an evaluator of the model, proved sound; the contracts of the functions.
-/
import Derived.WalkKit
import Derived.ProofKit
import Derived.OpenShut
import Derived.Deep.Slices
import Derived.Test.YtiacfeojfabghaaChecked
import Derived.KernelRfl
import Derived.Test.YtiacfeojfabghaaA2
/-
  THE LAW's FRAME: what the row's reading of its arguments tells the engine; what the engine tells the row.
-/
namespace Go.Plb
open Go.ChangeShapes Go.WideShapes Go.ChangeAt Go.RowKit Go.Deep
set_option linter.unusedSimpArgs false
set_option linter.unusedVariables false

/-- The place of a law's call: nothing is one's own, nothing is lent. -/
def Place.none_ : Place := { at_ := fun _ => 0, live := fun _ => False, out := fun _ _ => False, ok := fun _ => False }
theorem none_no (w : World) : LentPlace Place.none_ w [] :=
  ⟨⟨fun b d q => by simp [heapFrom, hget] at q, fun b c d e q => by simp [heapFrom, hget] at q, fun bl q => q.elim, fun bl q => q.elim, fun j bl q => q.elim, fun b q => q.elim⟩, fun bl q => q.elim⟩
theorem none_avoid (l : Lv) (bl : Nat) : Place.none_.avoid l bl := Lv.av_of_free (fun j => by cases j <;> exact id) l 0

/-- What one cell of an argument holds. -/
inductive FA where
  | i (k : IntKind) (n : Int)
  | f (x : Nat)
  | s (b : ByteArray)
  | b (b : Bool)
  | fl (xs : List Nat)
  | ns (k : IntKind) (xs : List Int)

def FA.av : FA → AV
  | .i k n => .int k n
  | .f x => .flt true x
  | .s z => .str z
  | .b z => .bool false z
  | .fl xs => .imm .free (.fl xs) 1 1 0 xs.length
  | .ns k xs => .imm .free (.ns k xs) 1 1 0 xs.length

theorem FA.kept (a : FA) : a.av.kept = true := by cases a <;> rfl

inductive FT where
  | i (k : IntKind)
  | f
  | s
  | b
  | fl
  | ns (k : IntKind)

def FA.has : FT → FA → Prop
  | .i k, .i k' n => k' = k ∧ (Lit.int k n).wf = true
  | .f, .f x => (Lit.float .f64 x).wf = true
  | .s, .s z => z.size ≤ maxLen
  | .b, .b _ => True
  | .fl, .fl xs => xs.length ≤ maxLen ∧ ∀ x ∈ xs, (Lit.float .f64 x).wf = true
  | .ns k, .ns k' xs => k' = k ∧ xs.length ≤ maxLen ∧ ∀ n ∈ xs, (Lit.int k n).wf = true
  | _, _ => False

def ftOf (P : Program) (t : TypeId) : Option FT :=
  match P.underlying t with
  | some (.int k) => some (.i k)
  | some (.float .f64) => some .f
  | some .string => some .s
  | some .bool => some .b
  | some (.slice e) =>
    match P.underlying e, P.cellsOf e with
    | some (.float .f64), 1 => some .fl
    | some (.int k), 1 => some (.ns k)
    | _, _ => none
  | _ => none

def bitsOf : Value → Nat
  | .float _ b => b
  | _ => 0
def intOf' : Value → Int
  | .int _ n => n
  | _ => 0

theorem add_of_cell {W : World} {a : Addr} {i : Nat} {v : Value} (c : W.cell? (a.add i) = some v) (h0 : a.spot = none) : a.add i = ⟨a.block, a.off + i, none⟩ := by
  cases a; simp only at h0; subst h0
  unfold Addr.add; split
  · rename_i q; subst q; rfl
  · rfl

theorem spot_of_cell {W : World} {a : Addr} {v : Value} (c : W.cell? a = some v) : a.spot = none := by
  unfold World.cell? at c
  split at c
  · cases q : a.spot with
    | none => rfl
    | some s => rw [q] at c; simp at c
  · cases c

theorem lt_of_cell {W : World} {a : Addr} {v : Value} (c : W.cell? a = some v) : a.block < W.heap.size := by
  unfold World.cell? at c
  split at c
  · rename_i q; exact (Array.getElem?_eq_some_iff.1 q).1
  · cases c

theorem list_range_get {α : Type} (f : Nat → α) (n x : Nat) (y : α) (h : ((List.range n).map f)[x]? = some y) : x < n ∧ y = f x := by
  rw [List.getElem?_map] at h
  rcases Nat.lt_or_ge x n with q | q
  · rw [List.getElem?_range q] at h; simp only [Option.map_some, Option.some.injEq] at h; exact ⟨q, h.symm⟩
  · rw [List.getElem?_eq_none (by simpa using q)] at h; cases h

variable {H : Type} {enc : TypeId × Value → H} {P : Program} {W : World}

/-- One cell. -/
theorem open_cell {t : TypeId} {ft : FT} {fuel : Nat} {v : Value} {x : DataW H × List MemPlace} (ht : ftOf P t = some ft) (h : DataW.trod enc P W 0 (fun _ => true) true fuel t [v] = some x) :
    ∃ a : FA, a.has ft ∧ VR Place.none_ W a.av v := by
  cases fuel with
  | zero => simp [DataW.trod] at h
  | succ fuel =>
  have h0 := h
  unfold ftOf at ht
  split at ht
  · rename_i k hk
    cases ht
    simp only [DataW.trod, hk] at h
    cases v <;> simp at h
    rename_i k' n
    obtain ⟨⟨rfl, hw⟩, _⟩ := h
    exact ⟨.i k' n, ⟨rfl, hw⟩, .int _ _⟩
  · rename_i hk
    cases ht
    simp only [DataW.trod, hk] at h
    cases v <;> simp at h
    rename_i k b
    obtain ⟨⟨rfl, hw⟩, _⟩ := h
    exact ⟨.f b, hw, .flt _ _ _ (.inl rfl)⟩
  · rename_i hk
    cases ht
    simp only [DataW.trod, hk] at h
    cases v <;> simp at h
    exact ⟨.s _, h.1, .str _⟩
  · rename_i hk
    cases ht
    simp only [DataW.trod, hk] at h
    cases v <;> simp at h
    exact ⟨.b _, trivial, .bool _ _⟩
  · rename_i e hk
    have key : ∀ (he : P.cellsOf e = 1), (v = .slice none 0 0) ∨ ∃ (a : Addr) (len cap n : Nat) (V : Nat → Value), v = .slice (some a) len cap ∧ len ≤ cap ∧ cap ≤ maxLen ∧
        ∀ i, i < len → ∃ y, W.cell? (a.add i) = some (V i) ∧ DataW.trod enc P W 0 (fun _ => true) true n e [V i] = some y := by
      intro he
      rcases open_slice1 hk he h0 with ⟨h1, _⟩ | ⟨a, len, cap, m, n, V, D, Pl, h1, hb, hl, hm, hmm, _, hx⟩
      · simp only [List.cons.injEq, and_true] at h1
        exact .inl h1
      · simp only [List.cons.injEq, and_true] at h1
        refine .inr ⟨a, len, cap, n, V, h1, hl, hm, fun i hi => ⟨_, hx i (by rw [hmm, if_pos rfl]; omega)⟩⟩
    split at ht
    · rename_i he hc
      cases ht
      rcases key hc with rfl | ⟨a, len, cap, n, V, rfl, hl, hm, hx⟩
      · exact ⟨.fl [], ⟨Nat.zero_le _, fun x hx => by cases hx⟩, .immEnd _ _ _ _ _ _ _ trivial (fun _ => rfl) rfl⟩
      · have hV : ∀ i, i < len → V i = .float .f64 (bitsOf (V i)) ∧ (Lit.float .f64 (bitsOf (V i))).wf = true := by
          intro i hi
          obtain ⟨y, c1, c2⟩ := hx i hi
          cases n with
          | zero => simp [DataW.trod] at c2
          | succ n =>
            simp only [DataW.trod, he] at c2
            cases hV : V i <;> rw [hV] at c2 <;> simp at c2
            obtain ⟨⟨rfl, hw⟩, _⟩ := c2
            exact ⟨rfl, hw⟩
        refine ⟨.fl ((List.range len).map fun i => bitsOf (V i)), ⟨by simp; omega, fun x hx => ?_⟩, ?_⟩
        · simp only [List.mem_map, List.mem_range] at hx
          obtain ⟨i, hi, rfl⟩ := hx
          exact (hV i hi).2
        · simp only [FA.av, List.length_map, List.length_range]
          rcases Nat.eq_zero_or_pos len with rfl | hz
          · exact .immEnd _ _ _ _ _ _ _ trivial (fun _ => rfl) rfl
          · have h0 := spot_of_cell (hx 0 hz).choose_spec.1
            have hs : a.spot = none := by
              have e : a.add 0 = a := by simp [Addr.add]
              rw [e] at h0; exact h0
            have hcell : ∀ i, i < len → W.cell? ⟨a.block, a.off + i, none⟩ = some (V i) := fun i hi => by
              obtain ⟨y, c1, _⟩ := hx i hi
              rw [add_of_cell c1 hs] at c1; exact c1
            have ha : a = ⟨a.block, a.off + 0 * 1, none⟩ := by cases a; simp only at hs; subst hs; rfl
            have := VR.imm (ρ := Place.none_) (w := W) .free (.fl ((List.range len).map fun i => bitsOf (V i))) 1 1 0 len cap a.block a.off V (none_avoid _ _) (lt_of_cell (a := ⟨a.block, a.off + 0, none⟩) (hcell 0 hz))
              (fun x v hx' => by
                simp only [Blk.cell?, Option.map_eq_some_iff] at hx'
                obtain ⟨y, h1, h2⟩ := hx'
                exact hcell x (list_range_get _ _ _ _ h1).1)
              (fun x v hx' => by
                simp only [Blk.cell?, Option.map_eq_some_iff] at hx'
                obtain ⟨y, h1, rfl⟩ := hx'
                obtain ⟨q1, rfl⟩ := list_range_get _ _ _ _ h1
                rw [(hV x q1).1]
                exact .flt _ _ _ (.inl rfl)) hl trivial (fun _ => rfl) rfl
            rw [ha]; exact this
    · rename_i k he hc
      cases ht
      rcases key hc with rfl | ⟨a, len, cap, n, V, rfl, hl, hm, hx⟩
      · exact ⟨.ns k [], ⟨rfl, Nat.zero_le _, fun x hx => by cases hx⟩, .immEnd _ _ _ _ _ _ _ trivial (fun _ => rfl) rfl⟩
      · have hV : ∀ i, i < len → V i = .int k (intOf' (V i)) ∧ (Lit.int k (intOf' (V i))).wf = true := by
          intro i hi
          obtain ⟨y, c1, c2⟩ := hx i hi
          cases n with
          | zero => simp [DataW.trod] at c2
          | succ n =>
            simp only [DataW.trod, he] at c2
            cases hV : V i <;> rw [hV] at c2 <;> simp at c2
            obtain ⟨⟨rfl, hw⟩, _⟩ := c2
            exact ⟨rfl, hw⟩
        refine ⟨.ns k ((List.range len).map fun i => intOf' (V i)), ⟨rfl, by simp; omega, fun x hx => ?_⟩, ?_⟩
        · simp only [List.mem_map, List.mem_range] at hx
          obtain ⟨i, hi, rfl⟩ := hx
          exact (hV i hi).2
        · simp only [FA.av, List.length_map, List.length_range]
          rcases Nat.eq_zero_or_pos len with rfl | hz
          · exact .immEnd _ _ _ _ _ _ _ trivial (fun _ => rfl) rfl
          · have h0 := spot_of_cell (hx 0 hz).choose_spec.1
            have hs : a.spot = none := by
              have e : a.add 0 = a := by simp [Addr.add]
              rw [e] at h0; exact h0
            have hcell : ∀ i, i < len → W.cell? ⟨a.block, a.off + i, none⟩ = some (V i) := fun i hi => by
              obtain ⟨y, c1, _⟩ := hx i hi
              rw [add_of_cell c1 hs] at c1; exact c1
            have ha : a = ⟨a.block, a.off + 0 * 1, none⟩ := by cases a; simp only at hs; subst hs; rfl
            have := VR.imm (ρ := Place.none_) (w := W) .free (.ns k ((List.range len).map fun i => intOf' (V i))) 1 1 0 len cap a.block a.off V (none_avoid _ _) (lt_of_cell (a := ⟨a.block, a.off + 0, none⟩) (hcell 0 hz))
              (fun x v hx' => by
                simp only [Blk.cell?, Option.map_eq_some_iff] at hx'
                obtain ⟨y, h1, h2⟩ := hx'
                exact hcell x (list_range_get _ _ _ _ h1).1)
              (fun x v hx' => by
                simp only [Blk.cell?, Option.map_eq_some_iff] at hx'
                obtain ⟨y, h1, rfl⟩ := hx'
                obtain ⟨q1, rfl⟩ := list_range_get _ _ _ _ h1
                rw [(hV x q1).1]
                exact .int _ _) hl trivial (fun _ => rfl) rfl
            rw [ha]; exact this
    · cases ht
  · cases ht

/-- An argument of one cell. -/
theorem open_arg {t : TypeId} {ft : FT} {v : Value} {d : DataW H} {p : List MemPlace} {base : Nat} (ht : ftOf P t = some ft) (ho : Value.okWide P W .any base t v) (h : DataW.Trod enc P W 0 (fun _ => true) true t v d p) :
    ∃ a : FA, a.has ft ∧ VR Place.none_ W a.av v := by
  obtain ⟨fuel, hf⟩ := h
  have hc : v.cells.toList = [v] := by
    have hne : ∀ c, v ≠ .agg c := by
      rintro c rfl
      unfold ftOf at ht
      unfold Value.okWide at ho
      split at ht
      case h_6 => cases ht
      all_goals (rename_i hk; rw [hk] at ho; simp [Cell.okWide, Cell.ok, hk] at ho)
    cases v <;> first | rfl | exact (hne _ rfl).elim
  rw [hc] at hf
  exact open_cell ht hf

/-- What an argument of several cells holds. -/
def FA.avs : List FA → List AV
  | [] => []
  | a :: l => a.av :: FA.avs l

def FA.hasAll : List FT → List FA → Prop
  | [], [] => True
  | t :: ts, a :: fas => a.has t ∧ FA.hasAll ts fas
  | _, _ => False

/-- A struct whose fields are of one cell each. -/
def stOf (P : Program) (t : TypeId) : Option (List FT) :=
  match P.underlying t with
  | some (.struct fs) => bif P.cellsOf t == fs.size && fs.toList.zipIdx.all (fun x => x.1.offset == x.2 && P.cellsOf x.1.type == 1) then fs.toList.mapM fun f => ftOf P f.type else none
  | _ => none

theorem open_fields {n : Nat} : ∀ (fs : List Field) (o : Nat) {fts : List FT} {cs : List Value} {xs : List (DataW H × List MemPlace)}, cs.length = o + fs.length → (∀ (j : Nat) (f : Field), fs[j]? = some f → f.offset = o + j ∧ P.cellsOf f.type = 1) → fs.mapM (fun f => ftOf P f.type) = some fts →
    fs.mapM (fun f => DataW.trod enc P W 0 (fun _ => true) true n f.type ((cs.drop f.offset).take (P.cellsOf f.type))) = some xs → ∃ fas : List FA, FA.hasAll fts fas ∧ VRs Place.none_ W (FA.avs fas) (cs.drop o)
  | [], o, fts, cs, xs, hl, _, h1, h2 => by
    simp at h1; subst h1
    exact ⟨[], trivial, by rw [List.drop_eq_nil_of_le (by simp at hl; omega)]; exact .nil⟩
  | f :: fs, o, fts, cs, xs, hl, hf, h1, h2 => by
    simp only [List.mapM_cons, Option.pure_def, Option.bind_eq_bind, Option.bind_eq_some_iff, Option.some.injEq] at h1 h2
    obtain ⟨ft, a1, fts', a2, rfl⟩ := h1
    obtain ⟨x, b1, xs', b2, rfl⟩ := h2
    obtain ⟨e1, e2⟩ := hf 0 f rfl
    simp only [List.length_cons] at hl
    have hlt : o < cs.length := by omega
    have hd : (cs.drop f.offset).take (P.cellsOf f.type) = [cs[o]] := by
      rw [e1, e2, Nat.add_zero, List.drop_eq_getElem_cons hlt]; rfl
    rw [hd] at b1
    obtain ⟨a, k1, k2⟩ := open_cell a1 b1
    obtain ⟨fas, k3, k4⟩ := open_fields fs (o + 1) (cs := cs) (by omega) (fun j f' hj => by have := hf (j + 1) f' (by simpa using hj); exact ⟨by omega, this.2⟩) a2 b2
    refine ⟨a :: fas, ⟨k1, k3⟩, ?_⟩
    rw [List.drop_eq_getElem_cons hlt]
    exact .cons _ _ _ _ k2 k4

theorem open_stcells {t : TypeId} {fts : List FT} {fuel : Nat} {cs : List Value} {x : DataW H × List MemPlace} (ht : stOf P t = some fts) (h : DataW.trod enc P W 0 (fun _ => true) true fuel t cs = some x) :
    ∃ fas : List FA, FA.hasAll fts fas ∧ VRs Place.none_ W (FA.avs fas) cs := by
  unfold stOf at ht
  split at ht
  case h_2 => cases ht
  rename_i fs hk
  cases hb : (P.cellsOf t == fs.size && fs.toList.zipIdx.all (fun x => x.1.offset == x.2 && P.cellsOf x.1.type == 1)) with
  | false => rw [hb] at ht; cases ht
  | true =>
  rw [hb] at ht
  simp only [cond_true] at ht
  simp only [Bool.and_eq_true, beq_iff_eq, List.all_eq_true] at hb
  cases fuel with
  | zero => simp [DataW.trod] at h
  | succ fuel =>
  simp only [DataW.trod, hk] at h
  split at h
  case isFalse => cases h
  rename_i hlen
  simp only [Option.map_eq_some_iff] at h
  obtain ⟨xs, h1, _⟩ := h
  have := open_fields fs.toList 0 (cs := cs) (by rw [hlen, hb.1]; simp) (fun j f hj => by
    have := hb.2 (f, j) (by rw [List.mem_zipIdx_iff_getElem?]; exact hj)
    simp only at this
    exact ⟨by omega, this.2⟩) ht h1
  simpa using this

/-- A struct fas an argument. -/
theorem open_struct {t : TypeId} {fts : List FT} {v : Value} {d : DataW H} {p : List MemPlace} {base : Nat} (ht : stOf P t = some fts) (ho : Value.okWide P W .any base t v) (h : DataW.Trod enc P W 0 (fun _ => true) true t v d p) :
    ∃ fas : List FA, FA.hasAll fts fas ∧ VR Place.none_ W (.agg (FA.avs fas)) v := by
  obtain ⟨fuel, hf⟩ := h
  have hs : ∃ cs, v = .agg cs := by
    unfold stOf at ht
    split at ht
    case h_2 => cases ht
    rename_i fs hk
    unfold Value.okWide at ho
    rw [hk] at ho
    obtain ⟨cs, rfl, _⟩ := ho
    exact ⟨cs, rfl⟩
  obtain ⟨cs, rfl⟩ := hs
  obtain ⟨fas, k1, k2⟩ := open_stcells ht hf
  exact ⟨fas, k1, .agg _ _ k2⟩

/-- Nothing that was there has turned. -/
theorem below_of {W W' : World} (h : WLe (fun _ => False) W W') : Below W.heap.size W W' :=
  ⟨h.os, h.tape, h.output, h.size, fun k hk => h.same k hk (fun q => q)⟩

def plainParams (P : Program) (ts : List TypeId) : Bool := ts.all fun t => P.readableRec t && decide (t < P.types.size)

theorem args_stay {W W' : World} (hl : laidOutB P = true) (hb : Below W.heap.size W W') : ∀ {ts : List TypeId} {vs : List Value} {ds : List (DataW H)} {ps : List MemPlace}, plainParams P ts = true →
    DataW.TrodAll enc P W 0 (fun _ => true) true ts vs ds ps → (∀ x ∈ ps, x.block < W.heap.size) → ∀ sp : Nat → Bool, (∀ p ∈ ps, sp p.block = true) → DataW.TrodAll enc P W' 0 sp true ts vs ds ps
  | [], vs, ds, ps, _, h, _, _, _ => by obtain ⟨rfl, rfl, rfl⟩ := trodAll_nil h; rfl
  | t :: ts, vs, ds, ps, hp, h, hlt, sp, hsp => by
    obtain ⟨v, vs', d, ds', p, q, rfl, rfl, rfl, h1, h2⟩ := trodAll_cons h
    simp only [plainParams, List.all_cons, Bool.and_eq_true, decide_eq_true_eq] at hp
    exact ⟨p, q, WideElems.Trod_stays hl hp.1.1 hp.1.2 h1 (fun x hx => hb.same (hlt x (by simp [hx]))) (fun x hx => hsp x (by simp [hx])),
      args_stay hl hb (by simpa [plainParams] using hp.2) h2 (fun x hx => hlt x (by simp [hx])) sp (fun x hx => hsp x (by simp [hx])), rfl⟩

/-- The law has answered true; what was handed in reads fas it did. -/
theorem law_post {f : Func} {s : ChangeSpec} {W W' : World} {args : Array Value} {ds gs : List (DataW H)} {before : List MemPlace} {tb : TypeId} (hl : laidOutB P = true)
    (hW : DataW.Whole enc P f.params.toList s.vars false W args.toList ds gs before) (hv : s.vars = []) (hp : plainParams P f.params.toList = true)
    (hs : s.fn H (ds ++ gs) = { results := [.lit (.bool true)], args := ds }) (hr : f.resultTypes = #[tb]) (ht : P.underlying tb = some .bool) (hw : WLe (fun _ => False) W W') :
    s.post enc P f false true false false W args (.bool true) W' := by
  have hb := below_of hw
  have hlt : ∀ p ∈ before, p.block < W.heap.size := fun p hp => hW.lt p hp
  have hW' := hW
  obtain ⟨p, q, hA, hV, rfl, hfz, hnd⟩ := hW'
  rw [hv] at hV
  obtain ⟨rfl, rfl⟩ := trodVars_none hV
  simp only [List.append_nil] at hlt hs hW
  have harg := args_stay hl hb hp hA hlt (fun b => decide (b < W.heap.size)) (fun x hx => by simpa using hlt x hx)
  refine ⟨ds, [], p, [], p, [], hW, ?_, ?_, ?_, World.keptBut_mono (fun x hx => ⟨hx, .inr (.inl hx)⟩) (hb.frame (· ∈ p)), fun e => (by cases e)⟩
  · rw [List.append_nil, hs, hr]
    exact trodAll_mk1 (shut_bool ht true)
  · rw [List.append_nil, hs]; exact harg
  · rw [hv]; simp only [List.append_nil, hs]; exact rfl


theorem has_i {k : IntKind} {a : FA} (h : a.has (.i k)) : ∃ n, a = .i k n := by
  cases a <;> simp only [FA.has] at h
  obtain ⟨rfl, _⟩ := h; exact ⟨_, rfl⟩
theorem has_f {a : FA} (h : a.has .f) : ∃ x, a = .f x := by
  cases a <;> simp only [FA.has] at h
  exact ⟨_, rfl⟩
theorem has_s {a : FA} (h : a.has .s) : ∃ x, a = .s x ∧ x.size ≤ maxLen := by
  cases a <;> simp only [FA.has] at h
  exact ⟨_, rfl, h⟩
theorem has_b {a : FA} (h : a.has .b) : ∃ x, a = .b x := by
  cases a <;> simp only [FA.has] at h
  exact ⟨_, rfl⟩
theorem has_fl {a : FA} (h : a.has .fl) : ∃ x, a = .fl x := by
  cases a <;> simp only [FA.has] at h
  exact ⟨_, rfl⟩
theorem has_ns {k : IntKind} {a : FA} (h : a.has (.ns k)) : ∃ x, a = .ns k x := by
  cases a <;> simp only [FA.has] at h
  obtain ⟨rfl, _⟩ := h; exact ⟨_, rfl⟩
theorem has_iif {k k' : IntKind} {l : List FA} (h : FA.hasAll [.i k, .i k', .fl] l) : ∃ r c xs, l = [.i k r, .i k' c, .fl xs] := by
  match l, h with
  | [a, b, c], ⟨h1, h2, h3, _⟩ =>
    obtain ⟨r, rfl⟩ := has_i h1; obtain ⟨s, rfl⟩ := has_i h2; obtain ⟨xs, rfl⟩ := has_fl h3
    exact ⟨r, s, xs, rfl⟩
theorem has_flf {l : List FA} (h : FA.hasAll [.fl, .f] l) : ∃ xs x, l = [.fl xs, .f x] := by
  match l, h with
  | [a, b], ⟨h1, h2, _⟩ =>
    obtain ⟨r, rfl⟩ := has_fl h1; obtain ⟨s, rfl⟩ := has_f h2
    exact ⟨r, s, rfl⟩

theorem out_bool {ρ : Place} {w w' : World} {k b : Bool} {u : Value} (h : (⟨.bool k b, []⟩ : Out).Holds ρ w w' 0 u) : u = .bool b := by
  obtain ⟨ρ', _, _, _, h4⟩ := h
  cases h4; rfl

end Go.Plb

/-
  ENGINE, PART 28: shapes of arguments: what is open in them, as plain data.
-/
namespace Go.Plb
set_option linter.unusedSimpArgs false
set_option linter.unusedVariables false

/-- A part of a list. -/
def cutL {α : Type} (o n : Nat) (l : List α) : List α := (dropA o l).take n
theorem cutL_eq {α : Type} (o n : Nat) (l : List α) : cutL o n l = (l.drop o).take n := by
  unfold cutL dropA; cases o <;> rfl
theorem cutL_all {α : Type} (l : List α) : cutL 0 l.length l = l := by simp [cutL_eq]
theorem cutL_len {α : Type} {o n : Nat} {l : List α} (h : o + n ≤ l.length) : (cutL o n l).length = n := by rw [cutL_eq]; simp; omega
theorem cutL_get {α : Type} {o n : Nat} {l : List α} {i : Nat} {v : α} (h : (cutL o n l)[i]? = some v) : l[o + i]? = some v := by
  rw [cutL_eq, List.getElem?_take] at h
  split at h
  · rw [List.getElem?_drop] at h; exact h
  · cases h
theorem cutL_nil {α : Type} (o n : Nat) : cutL o n ([] : List α) = [] := by simp [cutL_eq]

def slOk {α : Type} (o n : Nat) (xs : List α) : Bool := Nat.ble (o + n) xs.length
theorem slOk_iff {α : Type} {o n : Nat} {xs : List α} : slOk o n xs = true ↔ o + n ≤ xs.length := by unfold slOk; rw [Nat.ble_eq]

theorem Weaker.imm_part {l : Lv} {d d' : Blk} {w es o n : Nat} (h : ∀ x v, d'.cell? x = some v → d.cell? (o * w + x) = some v) (hr : d.recKept → d'.recKept) (hk : d'.kept = true) (hg : d'.foreign = true) :
    Weaker (.imm l d w es o n) (.imm l d' w es 0 n) := by
  intro ρ w' u hv
  cases hv with
  | imm _ _ _ _ _ _ cap bl o' u' ha hb hc hv' hl' hr' _ _ =>
    have := VR.imm (ρ := ρ) (w := w') l d' w es 0 n cap bl (o' + o * w) (fun x => u' (o * w + x)) ha hb
      (fun x v hx => by rw [Nat.add_assoc]; exact hc _ v (h x v hx)) (fun x v hx => hv' _ v (h x v hx)) hl' (hr hr') (fun _ => hk) hg
    simpa using this
  | immEnd _ _ _ _ _ _ _ hr' => exact .immEnd _ _ _ _ _ _ _ (hr hr') (fun _ => hk) hg
theorem Weaker.nsl_part {l : Lv} {d' : Blk} {w es : Nat} (hr : d'.recKept) (hk : d'.kept = true) (hg : d'.foreign = true) : Weaker .nsl (.imm l d' w es 0 0) := by
  intro ρ w' u hv; cases hv; exact .immEnd _ _ _ _ _ _ _ hr (fun _ => hk) hg
theorem Weaker.esl_part {l : Lv} {d' : Blk} {w es : Nat} (hr : d'.recKept) (hk : d'.kept = true) (hg : d'.foreign = true) : Weaker .esl (.imm l d' w es 0 0) := by
  intro ρ w' u hv; cases hv; exact .immEnd _ _ _ _ _ _ _ hr (fun _ => hk) hg

theorem WeakerL.get : ∀ {l1 l2 : List AV}, WeakerL l1 l2 → ∀ {x : Nat} {v : AV}, l2[x]? = some v → ∃ v0, l1[x]? = some v0 ∧ Weaker v0 v
  | _, _, .nil, x, v, h => by simp at h
  | _, _, .cons a t, 0, v, h => by simp at h; subst h; exact ⟨_, rfl, a⟩
  | _, _, .cons a t, x + 1, v, h => by
    obtain ⟨v0, h1, h2⟩ := WeakerL.get t (by simpa using h)
    exact ⟨v0, by simpa using h1, h2⟩

theorem Weaker.iptr_vs {lv : Lv} {l1 l2 : List AV} {k i j : Nat} (h : WeakerL l1 l2) (hk : keptAll l1 = true → keptAll l2 = true) (hg : foreignAll l1 = true → foreignAll l2 = true) : Weaker (.iptr lv (.vs l1) k i j) (.iptr lv (.vs l2) k i j) := by
  intro ρ w u hv
  cases hv with | iptr _ _ _ _ _ bl o u' ha hb hc hv' hr hk' hg' =>
  refine .iptr _ _ _ _ _ bl o u' ha hb (fun x v hx => ?_) (fun x v hx => ?_) trivial (fun q => hk (hk' q)) (hg hg')
  · obtain ⟨v0, h1, h2⟩ := h.get hx
    exact hc x v0 h1
  · obtain ⟨v0, h1, h2⟩ := h.get hx
    exact h2 _ _ _ (hv' x v0 h1)

theorem Weaker.fn {f : Fn} {a b a' b' : List AV} (h : WeakerL a a') (k : WeakerL b b') : Weaker (.fn f a b) (.fn f a' b') := by
  intro ρ w u hv
  cases hv with | fn _ _ _ c1 c2 h1 h2 => exact .fn _ _ _ _ _ (h.vrs h1) (k.vrs h2)
theorem Weaker.iface {t : TypeId} {a b : AV} (h : Weaker a b) : Weaker (.iface t a) (.iface t b) := by
  intro ρ w u hv
  cases hv with | iface _ _ u h1 => exact .iface _ _ _ (h _ _ _ h1)
theorem Weaker.any (v : AV) : Weaker v .any := fun _ _ u _ => .any u

/-- A column's kind. -/
inductive CK where
  | cf
  | ci (k : IntKind)
  | cb
  | cs
  | cfl
  | cns (k : IntKind)

def CK.Ty : CK → Type
  | .cf => List Nat
  | .ci _ => List Int
  | .cb => List Bool
  | .cs => List ByteArray
  | .cfl => List (List Nat)
  | .cns _ => List (List Int)

def CK.fit : (k : CK) → (o n : Nat) → Col → Option k.Ty
  | .cf, o, n, .cf xs => some (cutL o n xs)
  | .ci k, o, n, .ci k' xs => bif sameK k k' then some (cutL o n xs) else none
  | .cb, o, n, .cb xs => some (cutL o n xs)
  | .cs, o, n, .cs xs => some (cutL o n xs)
  | .cfl, o, n, .cfl xs => some (cutL o n xs)
  | .cns k, o, n, .cns k' xs => bif sameK k k' then some (cutL o n xs) else none
  | _, _, _, _ => none
def CK.emp : (k : CK) → k.Ty
  | .cf => ([] : List Nat)
  | .ci _ => ([] : List Int)
  | .cb => ([] : List Bool)
  | .cs => ([] : List ByteArray)
  | .cfl => ([] : List (List Nat))
  | .cns _ => ([] : List (List Int))
def CK.col : (k : CK) → k.Ty → Col
  | .cf, xs => .cf xs
  | .ci k, xs => .ci k xs
  | .cb, xs => .cb xs
  | .cs, xs => .cs xs
  | .cfl, xs => .cfl xs
  | .cns k, xs => .cns k xs

theorem sameK_iff {a b : IntKind} : sameK a b = true ↔ a = b := by simp [sameK]

theorem map_cut {α : Type} {f : α → AV} {o n i : Nat} {xs : List α} {v : AV} (h : ((cutL o n xs)[i]?).map f = some v) : (xs[o + i]?).map f = some v := by
  simp only [Option.map_eq_some_iff] at h ⊢
  obtain ⟨y, h1, h2⟩ := h
  exact ⟨y, cutL_get h1, h2⟩

theorem CK.fit_spec : ∀ {k : CK} {o n : Nat} {c : Col} {t : k.Ty}, k.fit o n c = some t → (o + n ≤ c.len → (k.col t).len = n) ∧ ∀ i v, (k.col t).cell? i = some v → c.cell? (o + i) = some v := by
  intro k o n c t h
  cases k <;> cases c <;> simp only [CK.fit] at h <;> try (cases h; done)
  case cf.cf xs => cases h; exact ⟨fun q => cutL_len q, fun i v q => map_cut q⟩
  case ci.ci k k' xs =>
    cases e : sameK k k' with
    | false => rw [e] at h; cases h
    | true => rw [e] at h; cases h; cases (sameK_iff.1 e); exact ⟨fun q => cutL_len q, fun i v q => map_cut q⟩
  case cb.cb xs => cases h; exact ⟨fun q => cutL_len q, fun i v q => map_cut q⟩
  case cs.cs xs => cases h; exact ⟨fun q => cutL_len q, fun i v q => map_cut q⟩
  case cfl.cfl xs => cases h; exact ⟨fun q => cutL_len q, fun i v q => map_cut q⟩
  case cns.cns k k' xs =>
    cases e : sameK k k' with
    | false => rw [e] at h; cases h
    | true => rw [e] at h; cases h; cases (sameK_iff.1 e); exact ⟨fun q => cutL_len q, fun i v q => map_cut q⟩

theorem CK.emp_len : ∀ (k : CK), (k.col k.emp).len = 0 := by intro k; cases k <;> rfl

def CKs.Ty : List CK → Type
  | [] => Unit
  | k :: l => k.Ty × CKs.Ty l
def CKs.fit : (l : List CK) → (o n : Nat) → List Col → Option (CKs.Ty l)
  | [], _, _, [] => some ()
  | k :: l, o, n, c :: cs => (k.fit o n c).bind fun t => (CKs.fit l o n cs).map fun r => (t, r)
  | _, _, _, _ => none
def CKs.emp : (l : List CK) → CKs.Ty l
  | [] => ()
  | k :: l => (k.emp, CKs.emp l)
def CKs.cols : (l : List CK) → CKs.Ty l → List Col
  | [], _ => []
  | k :: l, t => k.col t.1 :: CKs.cols l t.2

theorem CKs.len : ∀ {l : List CK} {t : CKs.Ty l}, (CKs.cols l t).length = l.length
  | [], t => rfl
  | k :: l, t => by simp [CKs.cols, CKs.len]

theorem CKs.fit_len : ∀ {l : List CK} {o n : Nat} {cs : List Col} {t : CKs.Ty l}, CKs.fit l o n cs = some t → cs.length = l.length
  | [], o, n, [], t, h => rfl
  | [], o, n, c :: cs, t, h => by simp [CKs.fit] at h
  | k :: l, o, n, [], t, h => by simp [CKs.fit] at h
  | k :: l, o, n, c :: cs, t, h => by
    simp only [CKs.fit] at h
    cases e1 : k.fit o n c with
    | none => rw [e1] at h; cases h
    | some a =>
      rw [e1] at h
      cases e2 : CKs.fit l o n cs with
      | none => simp only [Option.bind_some, e2] at h; cases h
      | some b => simp [CKs.fit_len e2]

theorem CKs.fit_spec : ∀ {l : List CK} {o n : Nat} {cs : List Col} {t : CKs.Ty l}, CKs.fit l o n cs = some t → ∀ (j : Nat) (c' : Col), (CKs.cols l t)[j]? = some c' → ∃ c : Col, cs[j]? = some c ∧ (o + n ≤ c.len → c'.len = n) ∧ ∀ i v, c'.cell? i = some v → c.cell? (o + i) = some v
  | [], o, n, cs, t, h, j, c', q => by simp [CKs.cols] at q
  | k :: l, o, n, [], t, h, j, c', q => by simp [CKs.fit] at h
  | k :: l, o, n, c :: cs, t, h, j, c', q => by
    simp only [CKs.fit] at h
    cases e1 : k.fit o n c with
    | none => rw [e1] at h; cases h
    | some a =>
      rw [e1] at h
      cases e2 : CKs.fit l o n cs with
      | none => simp only [Option.bind_some, e2] at h; cases h
      | some b =>
        simp only [Option.bind_some, e2] at h
        cases h
        cases j with
        | zero => simp [CKs.cols] at q; subst q; exact ⟨c, rfl, CK.fit_spec e1⟩
        | succ j => exact CKs.fit_spec e2 j c' (by simpa [CKs.cols] using q)

theorem CKs.emp_len : ∀ (l : List CK), ∀ c ∈ CKs.cols l (CKs.emp l), c.len = 0
  | [], c, h => by cases h
  | k :: l, c, h => by
    simp only [CKs.cols, CKs.emp, List.mem_cons] at h
    rcases h with rfl | h
    · exact CK.emp_len k
    · exact CKs.emp_len l c h

mutual
/-- A shape of a value. -/
inductive Pat where
  | int (k : IntKind)
  | flt (ex : Bool)
  | bool
  | kbool (b : Bool)
  | str
  | fl
  | ns (k : IntKind)
  | bs
  | ss
  | cols (l : List CK)
  | ivs (ps : Pats) (w i j : Nat)
  | fn (f : FuncId) (a b : Pats)
  | nfn
  | nptr
  | agg (ps : Pats)
  | tup (ps : Pats)
  | iface (t : TypeId) (p : Pat)
  | niface
  | any
inductive Pats where
  | nil
  | cons (p : Pat) (ps : Pats)
end

mutual
def Pat.Ty : Pat → Type
  | .int _ => Int
  | .flt _ => Nat
  | .bool => Bool
  | .str => ByteArray
  | .fl => Lv × List Nat
  | .ns _ => Lv × List Int
  | .bs => Lv × List Bool
  | .ss => Lv × List ByteArray
  | .cols l => Lv × Nat × CKs.Ty l
  | .ivs ps _ _ _ => Lv × ps.Ty
  | .fn _ a b => a.Ty × b.Ty
  | .agg ps => ps.Ty
  | .tup ps => ps.Ty
  | .iface _ p => p.Ty
  | .kbool _ => Unit
  | .nfn => Unit
  | .nptr => Unit
  | .niface => Unit
  | .any => Unit
def Pats.Ty : Pats → Type
  | .nil => Unit
  | .cons p ps => p.Ty × ps.Ty
end

mutual
def Pat.av : (p : Pat) → p.Ty → AV
  | .int k, n => .int k n
  | .flt ex, x => .flt ex x
  | .bool, b => .bool false b
  | .str, s => .str s
  | .fl, t => .imm t.1 (.fl t.2) 1 1 0 t.2.length
  | .ns k, t => .imm t.1 (.ns k t.2) 1 1 0 t.2.length
  | .bs, t => .imm t.1 (.bs t.2) 1 1 0 t.2.length
  | .ss, t => .imm t.1 (.ss t.2) 1 1 0 t.2.length
  | .cols l, t => .imm t.1 (.cols t.2.1 (CKs.cols l t.2.2)) l.length l.length 0 t.2.1
  | .ivs ps w i j, t => .iptr t.1 (.vs (ps.avs t.2)) w i j
  | .fn f a b, t => .fn (.func f) (a.avs t.1) (b.avs t.2)
  | .agg ps, t => .agg (ps.avs t)
  | .tup ps, t => .tup (ps.avs t)
  | .iface y p, t => .iface y (p.av t)
  | .kbool b, _ => .bool true b
  | .nfn, _ => .nfn
  | .nptr, _ => .nptr
  | .niface, _ => .niface
  | .any, _ => .any
def Pats.avs : (ps : Pats) → ps.Ty → List AV
  | .nil, _ => []
  | .cons p ps, t => p.av t.1 :: ps.avs t.2
end

def boolEq (a b : Bool) : Bool := bif a then b else !b
theorem boolEq_iff {a b : Bool} : boolEq a b = true ↔ a = b := by cases a <;> cases b <;> simp [boolEq]

def CKs.ok (n : Nat) (m : Nat) : Bool := Nat.ble n m

def fitInt (k : IntKind) : AV → Option (Int × List Bool)
  | .int k' n => bif sameK k k' then some (n, []) else none
  | _ => none
def fitFlt (ex : Bool) : AV → Option (Nat × List Bool)
  | .flt ex' x => bif ex && !ex' then none else some (x, [])
  | _ => none
def fitBool : AV → Option (Bool × List Bool)
  | .bool kn b => bif kn then none else some (b, [])
  | _ => none
def fitKbool (b : Bool) : AV → Option (Unit × List Bool)
  | .bool kn b' => bif kn && boolEq b b' then some ((), []) else none
  | _ => none
def fitStr : AV → Option (ByteArray × List Bool)
  | .str s => some (s, [])
  | _ => none
def fitSl {α : Type} (f : Blk → Option (List α)) : AV → Option ((Lv × List α) × List Bool)
  | .imm l d w es o n => (f d).bind fun xs => bif Nat.beq w 1 && Nat.beq es 1 then some ((l, cutL o n xs), [slOk o n xs]) else none
  | .nsl => some ((.free, []), [])
  | .esl => some ((.free, []), [])
  | _ => none
def blkFl : Blk → Option (List Nat)
  | .fl xs => some xs
  | _ => none
def blkNs (k : IntKind) : Blk → Option (List Int)
  | .ns k' xs => bif sameK k k' then some xs else none
  | _ => none
def blkBs : Blk → Option (List Bool)
  | .bs xs => some xs
  | _ => none
def blkSs : Blk → Option (List ByteArray)
  | .ss xs => some xs
  | _ => none
def blkVs : Blk → Option (List AV)
  | .vs xs => some xs
  | _ => none
def blkCols : Blk → Option (Nat × List Col)
  | .cols m cs => some (m, cs)
  | _ => none
def fitCols (ks : List CK) : AV → Option ((Lv × Nat × CKs.Ty ks) × List Bool)
  | .imm l d w es o n => (blkCols d).bind fun q => bif Nat.beq w ks.length && Nat.beq es ks.length then (CKs.fit ks o n q.2).map fun t => ((l, n, t), [Nat.ble (o + n) q.1]) else none
  | .nsl => some ((.free, 0, CKs.emp ks), [])
  | .esl => some ((.free, 0, CKs.emp ks), [])
  | _ => none
def avIvs (w i j : Nat) : AV → Option (Lv × List AV)
  | .iptr l d w' i' j' => (blkVs d).bind fun xs => bif Nat.beq w w' && (Nat.beq i i' && Nat.beq j j') then some (l, xs) else none
  | _ => none
def avFn (f : FuncId) : AV → Option (List AV × List AV)
  | .fn (.func f') x y => bif Nat.beq f f' then some (x, y) else none
  | _ => none
def avAgg : AV → Option (List AV)
  | .agg l => some l
  | _ => none
def avTup : AV → Option (List AV)
  | .tup l => some l
  | _ => none
def avIface (t : TypeId) : AV → Option AV
  | .iface t' v => bif Nat.beq t t' then some v else none
  | _ => none
def avNfn : AV → Option (Unit × List Bool)
  | .nfn => some ((), [])
  | _ => none
def avNptr : AV → Option (Unit × List Bool)
  | .nptr => some ((), [])
  | _ => none
def avNiface : AV → Option (Unit × List Bool)
  | .niface => some ((), [])
  | _ => none

mutual
/-- A value's open parts, where it is of this shape; with what must hold. -/
def Pat.fit : (p : Pat) → AV → Option (p.Ty × List Bool)
  | .int k => fitInt k
  | .flt ex => fitFlt ex
  | .bool => fitBool
  | .kbool b => fitKbool b
  | .str => fitStr
  | .fl => fitSl blkFl
  | .ns k => fitSl (blkNs k)
  | .bs => fitSl blkBs
  | .ss => fitSl blkSs
  | .cols ks => fitCols ks
  | .ivs ps w i j => fun v => match avIvs w i j v with
    | some q => match ps.fit q.2 with
      | some r => some ((q.1, r.1), r.2)
      | none => none
    | none => none
  | .fn f a b => fun v => match avFn f v with
    | some q => match a.fit q.1 with
      | some r => match b.fit q.2 with
        | some s => some ((r.1, s.1), r.2 ++ s.2)
        | none => none
      | none => none
    | none => none
  | .agg ps => fun v => match avAgg v with
    | some l => ps.fit l
    | none => none
  | .tup ps => fun v => match avTup v with
    | some l => ps.fit l
    | none => none
  | .iface t p => fun v => match avIface t v with
    | some u => p.fit u
    | none => none
  | .nfn => avNfn
  | .nptr => avNptr
  | .niface => avNiface
  | .any => fun _ => some ((), [])
def Pats.fit : (ps : Pats) → List AV → Option (ps.Ty × List Bool)
  | .nil => fun l => match l with
    | [] => some ((), [])
    | _ :: _ => none
  | .cons p ps => fun l => match l with
    | [] => none
    | v :: l => match p.fit v with
      | some r => match ps.fit l with
        | some s => some ((r.1, s.1), r.2 ++ s.2)
        | none => none
      | none => none
end

theorem boolEqL {a b c : Bool} : (a && b) = true ↔ a = true ∧ b = true := Bool.and_eq_true_iff

theorem cols_part {ks : List CK} {o n m : Nat} {cs : List Col} {t : CKs.Ty ks} (h : CKs.fit ks o n cs = some t) : ∀ x v, (Blk.cols n (CKs.cols ks t)).cell? x = some v → (Blk.cols m cs).cell? (o * ks.length + x) = some v := by
  intro x v hx
  have hl := CKs.fit_len h
  obtain ⟨c', h1, _, h3⟩ := Blk.cols_cell hx
  obtain ⟨c, q1, _, q3⟩ := CKs.fit_spec h _ _ h1
  rw [CKs.len] at h1 h3 q1
  have hpos : 0 < ks.length := by
    have := (List.getElem?_eq_some_iff.1 q1).1
    omega
  simp only [Blk.cell?, hl, Option.bind_eq_some_iff]
  refine ⟨c, ?_, ?_⟩
  · rw [Nat.add_comm, Nat.add_mul_mod_self_right]; exact q1
  · rw [Nat.add_comm, Nat.add_mul_div_right _ _ hpos, Nat.add_comm]; exact q3 _ _ h3


/-- The second one says no more, and names no more. -/
structure Wk (v v' : AV) : Prop where
  weak : Weaker v v'
  kept : v.kept = true → v'.kept = true
  foreign : v.foreign = true → v'.foreign = true
structure WkL (v v' : List AV) : Prop where
  weak : WeakerL v v'
  kept : keptAll v = true → keptAll v' = true
  foreign : foreignAll v = true → foreignAll v' = true

theorem Wk.refl (v : AV) : Wk v v := ⟨Weaker.refl v, id, id⟩
theorem Wk.fltL (x : Nat) : Wk (.flt true x) (.flt false x) := ⟨fun ρ w u h => (by
  cases h with | flt _ _ y hf =>
  rcases hf with rfl | ⟨q, _⟩
  · exact .flt _ _ _ (.inl rfl)
  · cases q), id, id⟩
theorem WkL.cons {v v' : AV} {l l' : List AV} (h : Wk v v') (k : WkL l l') : WkL (v :: l) (v' :: l') :=
  ⟨.cons h.weak k.weak, fun q => by simp only [keptAll, Bool.and_eq_true] at q ⊢; exact ⟨h.kept q.1, k.kept q.2⟩, fun q => by simp only [foreignAll, Bool.and_eq_true] at q ⊢; exact ⟨h.foreign q.1, k.foreign q.2⟩⟩

theorem Wk.part {l : Lv} {d d' : Blk} {w es o n : Nat} (h : ∀ x v, d'.cell? x = some v → d.cell? (o * w + x) = some v) (hr : d.recKept → d'.recKept) (hk : d'.kept = true) (hg : d'.foreign = true) : Wk (.imm l d w es o n) (.imm l d' w es 0 n) :=
  ⟨Weaker.imm_part h hr hk hg, id, id⟩
theorem Wk.nsl {d' : Blk} {w es : Nat} (hr : d'.recKept) (hk : d'.kept = true) (hg : d'.foreign = true) : Wk .nsl (.imm .free d' w es 0 0) := ⟨Weaker.nsl_part hr hk hg, id, id⟩
theorem Wk.esl {d' : Blk} {w es : Nat} (hr : d'.recKept) (hk : d'.kept = true) (hg : d'.foreign = true) : Wk .esl (.imm .free d' w es 0 0) := ⟨Weaker.esl_part hr hk hg, id, id⟩

theorem Wk.fl {l : Lv} {xs : List Nat} {o n : Nat} (h : slOk o n xs = true) : Wk (.imm l (.fl xs) 1 1 o n) (.imm l (.fl (cutL o n xs)) 1 1 0 (cutL o n xs).length) := by
  rw [cutL_len (slOk_iff.1 h)]; exact .part (fun x v q => by rw [Nat.mul_one]; exact map_cut q) (fun _ => trivial) rfl rfl
theorem Wk.ns {k : IntKind} {l : Lv} {xs : List Int} {o n : Nat} (h : slOk o n xs = true) : Wk (.imm l (.ns k xs) 1 1 o n) (.imm l (.ns k (cutL o n xs)) 1 1 0 (cutL o n xs).length) := by
  rw [cutL_len (slOk_iff.1 h)]; exact .part (fun x v q => by rw [Nat.mul_one]; exact map_cut q) (fun _ => trivial) rfl rfl
theorem Wk.bs {l : Lv} {xs : List Bool} {o n : Nat} (h : slOk o n xs = true) : Wk (.imm l (.bs xs) 1 1 o n) (.imm l (.bs (cutL o n xs)) 1 1 0 (cutL o n xs).length) := by
  rw [cutL_len (slOk_iff.1 h)]; exact .part (fun x v q => by rw [Nat.mul_one]; exact map_cut q) (fun _ => trivial) rfl rfl
theorem Wk.ss {l : Lv} {xs : List ByteArray} {o n : Nat} (h : slOk o n xs = true) : Wk (.imm l (.ss xs) 1 1 o n) (.imm l (.ss (cutL o n xs)) 1 1 0 (cutL o n xs).length) := by
  rw [cutL_len (slOk_iff.1 h)]; exact .part (fun x v q => by rw [Nat.mul_one]; exact map_cut q) (fun _ => trivial) rfl rfl

theorem cols_rec {ks : List CK} {o n m : Nat} {cs : List Col} {t : CKs.Ty ks} (h : CKs.fit ks o n cs = some t) (hm : o + n ≤ m) : (Blk.cols m cs).recKept → (Blk.cols n (CKs.cols ks t)).recKept := by
  intro hr c hc
  obtain ⟨j, hj⟩ := List.getElem?_of_mem hc
  obtain ⟨c0, q1, q2, _⟩ := CKs.fit_spec h j c hj
  exact q2 (by rw [hr c0 (List.mem_of_getElem? q1)]; exact hm)

theorem beq2 {w es n : Nat} (h : (Nat.beq w n && Nat.beq es n) = true) : w = n ∧ es = n := by
  rw [Bool.and_eq_true] at h; exact ⟨Nat.eq_of_beq_eq_true h.1, Nat.eq_of_beq_eq_true h.2⟩

theorem someP {α : Type} {a t : α} {b o : List Bool} (h : some (a, b) = some (t, o)) : a = t ∧ b = o := by
  simp only [Option.some.injEq, Prod.mk.injEq] at h; exact h

theorem bifS {α : Type} {c : Bool} {a : α} {x : α} (h : (bif c then some a else none) = some x) : c = true ∧ a = x := by
  cases c with
  | true => exact ⟨rfl, by simpa using h⟩
  | false => cases h
theorem bifN {α : Type} {c : Bool} {a : Option α} {x : α} (h : (bif c then a else none) = some x) : c = true ∧ a = some x := by
  cases c with
  | true => exact ⟨rfl, h⟩
  | false => cases h

theorem fitSl_spec {α : Type} {f : Blk → Option (List α)} {g : List α → Blk} (hg : ∀ {d xs}, f d = some xs → d = g xs)
    (hw : ∀ {l xs o n}, slOk o n xs = true → Wk (.imm l (g xs) 1 1 o n) (.imm l (g (cutL o n xs)) 1 1 0 (cutL o n xs).length)) (h0 : (g []).recKept ∧ (g []).kept = true ∧ (g []).foreign = true)
    {v : AV} {t : Lv × List α} {o : List Bool} (h : fitSl f v = some (t, o)) (ho : allTrue o) : Wk v (.imm t.1 (g t.2) 1 1 0 t.2.length) := by
  unfold fitSl at h
  split at h
  · rename_i l d w es i n
    cases e : f d with
    | none => rw [e] at h; cases h
    | some xs =>
      rw [e] at h
      obtain ⟨e2, h⟩ := bifS h
      obtain ⟨rfl, rfl⟩ := beq2 e2
      cases h; cases hg e; exact hw ho.1
  · cases h; exact .nsl h0.1 h0.2.1 h0.2.2
  · cases h; exact .esl h0.1 h0.2.1 h0.2.2
  · cases h

theorem fitCols_spec {ks : List CK} {v : AV} {t : Lv × Nat × CKs.Ty ks} {o : List Bool} (h : fitCols ks v = some (t, o)) (ho : allTrue o) : Wk v (.imm t.1 (.cols t.2.1 (CKs.cols ks t.2.2)) ks.length ks.length 0 t.2.1) := by
  unfold fitCols at h
  split at h
  · rename_i l d w es i n
    cases d <;> simp only [blkCols, Option.bind_none, Option.bind_some, reduceCtorEq] at h
    rename_i m cs
    have e := (bifN h).1; replace h := (bifN h).2
    obtain ⟨rfl, rfl⟩ := beq2 e
    cases e2 : CKs.fit ks i n cs with
    | none => rw [e2] at h; cases h
    | some r =>
      rw [e2] at h; cases h
      have : i + n ≤ m := Nat.le_of_ble_eq_true ho.1
      exact .part (cols_part e2) (cols_rec e2 this) rfl rfl
  · cases h; exact .nsl (CKs.emp_len ks) rfl rfl
  · cases h; exact .esl (CKs.emp_len ks) rfl rfl
  · cases h

mutual
theorem Pat.fit_spec : ∀ (p : Pat) (v : AV) {t : p.Ty} {o : List Bool}, p.fit v = some (t, o) → allTrue o → Wk v (p.av t)
  | .int k, v, t, o, h, ho => by
    simp only [Pat.fit, fitInt] at h
    split at h
    · obtain ⟨e, h⟩ := bifS h
      cases h; cases sameK_iff.1 e; exact .refl _
    · cases h
  | .flt ex, v, t, o, h, ho => by
    simp only [Pat.fit, fitFlt] at h
    split at h
    · rename_i ex' x
      cases ex with
      | true =>
        cases ex' with
        | true => cases h; exact .refl _
        | false => cases h
      | false =>
        cases ex' with
        | true => cases h; exact .fltL x
        | false => cases h; exact .refl _
    · cases h
  | .bool, v, t, o, h, ho => by
    simp only [Pat.fit, fitBool] at h
    split at h
    · rename_i kn b
      cases kn with
      | true => cases h
      | false => cases h; exact .refl _
    · cases h
  | .kbool b, v, t, o, h, ho => by
    simp only [Pat.fit, fitKbool] at h
    split at h
    · obtain ⟨e, h⟩ := bifS h
      rw [Bool.and_eq_true] at e
      cases e.1; cases boolEq_iff.1 e.2; exact .refl _
    · cases h
  | .str, v, t, o, h, ho => by
    simp only [Pat.fit, fitStr] at h
    split at h
    · cases h; exact .refl _
    · cases h
  | .fl, v, t, o, h, ho => fitSl_spec (g := .fl) (f := blkFl) (fun {d xs} e => by cases d <;> cases e; rfl) (fun q => .fl q) ⟨trivial, rfl, rfl⟩ h ho
  | .ns k, v, t, o, h, ho => fitSl_spec (g := .ns k) (f := blkNs k) (fun {d xs} e => by
      cases d <;> try (cases e; done)
      have e1 := (bifS e).1; replace e := (bifS e).2
      cases sameK_iff.1 e1; cases e; rfl) (fun q => .ns q) ⟨trivial, rfl, rfl⟩ h ho
  | .bs, v, t, o, h, ho => fitSl_spec (g := .bs) (f := blkBs) (fun {d xs} e => by cases d <;> cases e; rfl) (fun q => .bs q) ⟨trivial, rfl, rfl⟩ h ho
  | .ss, v, t, o, h, ho => fitSl_spec (g := .ss) (f := blkSs) (fun {d xs} e => by cases d <;> cases e; rfl) (fun q => .ss q) ⟨trivial, rfl, rfl⟩ h ho
  | .cols ks, v, t, o, h, ho => fitCols_spec h ho
  | .ivs ps w i j, v, t, o, h, ho => by
    simp only [Pat.fit] at h
    split at h
    case h_2 => cases h
    rename_i q hq
    split at h
    case h_2 => cases h
    rename_i r hr
    cases h
    unfold avIvs at hq
    split at hq
    case h_2 => cases hq
    rename_i l d w' i' j'
    cases d <;> simp only [blkVs, Option.bind_none, Option.bind_some, reduceCtorEq] at hq
    rename_i xs
    have e := (bifS hq).1; replace hq := (bifS hq).2
    rw [Bool.and_eq_true, Bool.and_eq_true] at e
    cases Nat.eq_of_beq_eq_true e.1
    cases Nat.eq_of_beq_eq_true e.2.1
    cases Nat.eq_of_beq_eq_true e.2.2
    cases hq
    have := Pats.fit_spec ps xs hr ho
    exact ⟨Weaker.iptr_vs this.weak this.kept this.foreign, id, id⟩
  | .fn f a b, v, t, o, h, ho => by
    simp only [Pat.fit] at h
    split at h
    case h_2 => cases h
    rename_i q hq
    split at h
    case h_2 => cases h
    rename_i r hr
    split at h
    case h_2 => cases h
    rename_i s hs
    cases h
    unfold avFn at hq
    split at hq
    case h_2 => cases hq
    have e := (bifS hq).1; replace hq := (bifS hq).2
    cases Nat.eq_of_beq_eq_true e
    cases hq
    rw [allTrue_append] at ho
    have h1 := Pats.fit_spec a _ hr ho.1
    have h2 := Pats.fit_spec b _ hs ho.2
    refine ⟨Weaker.fn h1.weak h2.weak, fun q => ?_, fun q => ?_⟩
    · simp only [Pat.av, AV.kept, Bool.and_eq_true] at q ⊢; exact ⟨h1.kept q.1, h2.kept q.2⟩
    · simp only [Pat.av, AV.foreign, Bool.and_eq_true] at q ⊢; exact ⟨h1.foreign q.1, h2.foreign q.2⟩
  | .agg ps, v, t, o, h, ho => by
    simp only [Pat.fit] at h
    split at h
    case h_2 => cases h
    rename_i l hl
    cases v <;> simp only [avAgg, reduceCtorEq, Option.some.injEq] at hl
    subst hl
    have := Pats.fit_spec ps _ h ho
    exact ⟨Weaker.agg this.weak, this.kept, this.foreign⟩
  | .tup ps, v, t, o, h, ho => by
    simp only [Pat.fit] at h
    split at h
    case h_2 => cases h
    rename_i l hl
    cases v <;> simp only [avTup, reduceCtorEq, Option.some.injEq] at hl
    subst hl
    have := Pats.fit_spec ps _ h ho
    exact ⟨Weaker.tup this.weak, this.kept, this.foreign⟩
  | .iface y p, v, t, o, h, ho => by
    simp only [Pat.fit] at h
    split at h
    case h_2 => cases h
    rename_i u hu
    unfold avIface at hu
    split at hu
    case h_2 => cases hu
    have e := (bifS hu).1; replace hu := (bifS hu).2
    cases Nat.eq_of_beq_eq_true e
    subst hu
    have := Pat.fit_spec p _ h ho
    exact ⟨Weaker.iface this.weak, this.kept, this.foreign⟩
  | .nfn, v, t, o, h, ho => by
    cases v <;> simp only [Pat.fit, avNfn, reduceCtorEq] at h
    exact .refl _
  | .nptr, v, t, o, h, ho => by
    cases v <;> simp only [Pat.fit, avNptr, reduceCtorEq] at h
    exact .refl _
  | .niface, v, t, o, h, ho => by
    cases v <;> simp only [Pat.fit, avNiface, reduceCtorEq] at h
    exact .refl _
  | .any, v, t, o, h, ho => ⟨Weaker.any v, fun _ => rfl, fun _ => rfl⟩
theorem Pats.fit_spec : ∀ (ps : Pats) (l : List AV) {t : ps.Ty} {o : List Bool}, ps.fit l = some (t, o) → allTrue o → WkL l (ps.avs t)
  | .nil, [], t, o, h, ho => ⟨.nil, id, id⟩
  | .nil, v :: l, t, o, h, ho => by simp [Pats.fit] at h
  | .cons p ps, [], t, o, h, ho => by simp [Pats.fit] at h
  | .cons p ps, v :: l, t, o, h, ho => by
    simp only [Pats.fit] at h
    split at h
    case h_2 => cases h
    rename_i r hr
    split at h
    case h_2 => cases h
    rename_i s hs
    cases h
    rw [allTrue_append] at ho
    exact .cons (Pat.fit_spec p v hr ho.1) (Pats.fit_spec ps l hs ho.2)
end

/-- An entry by shape. -/
def autoE (f : FuncId) (ps : Pats) (alts : ps.Ty → List EAlt) : Entry :=
  ⟨f, fun L args => match L with
    | [] => match ps.fit args with
      | some r => some ((alts r.1).map fun a => ⟨a.out, r.2 ++ a.obs⟩)
      | none => none
    | _ => none⟩

theorem autoE_ok {P : Program} {f : FuncId} {ps : Pats} {alts : ps.Ty → List EAlt} (h : ∀ t, ∀ a ∈ alts t, allTrue a.obs → Contract P f [] (ps.avs t) a.out) : EntryOk P (autoE f ps alts) := by
  intro L args al a hal ha ho
  simp only [autoE] at hal
  split at hal
  case h_2 => cases hal
  split at hal
  case h_2 => cases hal
  rename_i r hr
  obtain ⟨t, o⟩ := r
  simp only [Option.some.injEq] at hal
  subst hal
  simp only [List.mem_map] at ha
  obtain ⟨b, hb, rfl⟩ := ha
  simp only [allTrue_append] at ho
  exact (h t b hb ho.2).args (Pats.fit_spec ps args hr ho.1).weak

theorem altsNil {P : Program} {f : FuncId} {l : List AV} : ∀ a ∈ ([] : List EAlt), allTrue a.obs → Contract P f [] l a.out := fun a h => by cases h
theorem altsCons {P : Program} {f : FuncId} {l : List AV} {o : Out} {b : Bool} {al : List EAlt} (h : b = true → Contract P f [] l o) (t : ∀ a ∈ al, allTrue a.obs → Contract P f [] l a.out) : ∀ a ∈ (⟨o, [b]⟩ : EAlt) :: al, allTrue a.obs → Contract P f [] l a.out := by
  intro a ha ho
  rcases List.mem_cons.1 ha with rfl | ha
  · exact h ho.1
  · exact t a ha ho
end Go.Plb

/-
  THE LAW's FRAME: lists of structs, as columns.
-/
namespace Go.Plb
open Go.ChangeShapes Go.WideShapes Go.ChangeAt Go.RowKit Go.Deep
set_option linter.unusedSimpArgs false
set_option linter.unusedVariables false

def FA.n : FA → Nat
  | .f x => x
  | _ => 0
def FA.z : FA → Int
  | .i _ n => n
  | _ => 0
def FA.bb : FA → Bool
  | .b x => x
  | _ => false
def FA.ss : FA → ByteArray
  | .s x => x
  | _ => ByteArray.empty
def FA.lf : FA → List Nat
  | .fl x => x
  | _ => []
def FA.lz : FA → List Int
  | .ns _ x => x
  | _ => []

def colOf (ft : FT) (g : Nat → FA) (n : Nat) : Col :=
  match ft with
  | .i k => .ci k ((List.range n).map fun i => (g i).z)
  | .f => .cf ((List.range n).map fun i => (g i).n)
  | .s => .cs ((List.range n).map fun i => (g i).ss)
  | .b => .cb ((List.range n).map fun i => (g i).bb)
  | .fl => .cfl ((List.range n).map fun i => (g i).lf)
  | .ns k => .cns k ((List.range n).map fun i => (g i).lz)

theorem flt_loose {ρ : Place} {w : World} {x : Nat} {u : Value} (h : VR ρ w (.flt true x) u) : VR ρ w (.flt false x) u := (Wk.fltL x).weak ρ w u h
theorem range_map_get {α : Type} {f : Nat → α} {h : α → AV} {n i : Nat} {v : AV} (q : (((List.range n).map f)[i]?).map h = some v) : i < n ∧ v = h (f i) := by
  simp only [Option.map_eq_some_iff] at q
  obtain ⟨y, h1, h2⟩ := q
  obtain ⟨a, rfl⟩ := list_range_get _ _ _ _ h1
  exact ⟨a, h2.symm⟩

theorem colOf_len (ft : FT) (g : Nat → FA) (n : Nat) : (colOf ft g n).len = n := by cases ft <;> simp [colOf, Col.len]
theorem colOf_cell {ft : FT} {g : Nat → FA} {n i : Nat} {v : AV} (h : (colOf ft g n).cell? i = some v) (hg : i < n → (g i).has ft) : i < n ∧ Weaker (g i).av v := by
  cases ft <;> simp only [colOf, Col.cell?] at h <;> obtain ⟨h1, h2⟩ := range_map_get h <;> have := hg h1 <;> refine ⟨h1, ?_⟩ <;> rw [h2] <;> clear h2 h hg <;> generalize g i = a at this ⊢ <;> cases a <;> simp only [FA.has] at this <;> first | exact Weaker.refl _ | (obtain ⟨rfl, _⟩ := this; exact Weaker.refl _) | exact (Wk.fltL _).weak

def colsOf (G : Nat → Nat → FA) (n : Nat) : List FT → Nat → List Col
  | [], _ => []
  | ft :: l, j => colOf ft (fun i => G i j) n :: colsOf G n l (j + 1)
theorem colsOf_len (G : Nat → Nat → FA) (n : Nat) : ∀ (l : List FT) (j : Nat), (colsOf G n l j).length = l.length
  | [], _ => rfl
  | ft :: l, j => by simp [colsOf, colsOf_len G n l]
theorem colsOf_get {G : Nat → Nat → FA} {n : Nat} : ∀ {l : List FT} {j k : Nat} {c : Col}, (colsOf G n l j)[k]? = some c → ∃ ft, l[k]? = some ft ∧ c = colOf ft (fun i => G i (j + k)) n
  | [], j, k, c, h => by simp [colsOf] at h
  | ft :: l, j, 0, c, h => by simp [colsOf] at h; exact ⟨ft, rfl, h.symm⟩
  | ft :: l, j, k + 1, c, h => by
    obtain ⟨ft', h1, h2⟩ := colsOf_get (l := l) (j := j + 1) (k := k) (by simpa [colsOf] using h)
    exact ⟨ft', by simpa using h1, by rw [h2]; congr 1; funext i; congr 1; omega⟩

theorem hasAll_len : ∀ {fts : List FT} {fas : List FA}, FA.hasAll fts fas → fas.length = fts.length
  | [], [], _ => rfl
  | [], _ :: _, h => h.elim
  | _ :: _, [], h => h.elim
  | _ :: _, _ :: _, h => by simp [hasAll_len h.2]
theorem hasAll_get : ∀ {fts : List FT} {fas : List FA}, FA.hasAll fts fas → ∀ {j : Nat} {ft : FT}, fts[j]? = some ft → ∃ a, fas[j]? = some a ∧ a.has ft
  | [], [], _, j, ft, q => by simp at q
  | [], _ :: _, h, _, _, _ => h.elim
  | _ :: _, [], h, _, _, _ => h.elim
  | t :: ts, a :: fas, h, 0, ft, q => by simp at q; subst q; exact ⟨a, rfl, h.1⟩
  | t :: ts, a :: fas, h, j + 1, ft, q => by
    obtain ⟨b, h1, h2⟩ := hasAll_get h.2 (by simpa using q)
    exact ⟨b, by simpa using h1, h2⟩
theorem avs_get : ∀ {fas : List FA} {j : Nat} {a : FA}, fas[j]? = some a → (FA.avs fas)[j]? = some a.av
  | [], j, a, h => by simp at h
  | b :: l, 0, a, h => by simp at h; subst h; rfl
  | b :: l, j + 1, a, h => by simpa [FA.avs] using avs_get (by simpa using h)
theorem vrs_get {ρ : Place} {w : World} : ∀ {l : List AV} {c : List Value}, VRs ρ w l c → ∀ {j : Nat} {v : AV}, l[j]? = some v → ∃ u, c[j]? = some u ∧ VR ρ w v u
  | _, _, .nil, j, v, h => by simp at h
  | _, _, .cons v u l c a t, 0, v', h => by simp at h; subst h; exact ⟨u, rfl, a⟩
  | _, _, .cons v u l c a t, j + 1, v', h => by
    obtain ⟨u', h1, h2⟩ := vrs_get t (by simpa using h)
    exact ⟨u', by simpa using h1, h2⟩

variable {H : Type} {enc : TypeId × Value → H} {P : Program} {W : World}

instance : Inhabited FA := ⟨.b false⟩

/-- A list of structs as an argument. -/
theorem open_rows {t e : TypeId} {fts : List FT} {v : Value} {d : DataW H} {p : List MemPlace} {base : Nat} (ht : P.underlying t = some (.slice e)) (he : stOf P e = some fts) (hw : fts.length = P.cellsOf e) (hpos : 0 < fts.length) (ho : Value.okWide P W .any base t v) (h : DataW.Trod enc P W 0 (fun _ => true) true t v d p) :
    ∃ (n : Nat) (G : Nat → Nat → FA), n ≤ maxLen ∧ (∀ i j ft, i < n → fts[j]? = some ft → (G i j).has ft) ∧ VR Place.none_ W (.imm .free (.cols n (colsOf G n fts 0)) fts.length fts.length 0 n) v := by
  obtain ⟨fuel, hf⟩ := h
  have hc : v.cells.toList = [v] := by
    have hne : ∀ c, v ≠ .agg c := by
      rintro c rfl
      unfold Value.okWide at ho
      rw [ht] at ho; simp [Cell.okWide, Cell.ok, ht] at ho
    cases v <;> first | rfl | exact (hne _ rfl).elim
  rw [hc] at hf
  have rk : ∀ (n : Nat) (G : Nat → Nat → FA), (Blk.cols n (colsOf G n fts 0)).recKept := by
    intro n G c hc
    obtain ⟨k, hk⟩ := List.getElem?_of_mem hc
    obtain ⟨ft, _, rfl⟩ := colsOf_get hk
    exact colOf_len _ _ _
  rcases open_slice ht hf with ⟨h1, _⟩ | ⟨a, len, cap, m, n, D, Pl, h1, hb, hl, hm, hmm, _, hx⟩
  · simp only [List.cons.injEq, and_true] at h1; subst h1
    exact ⟨0, fun _ _ => default, Nat.zero_le _, fun i j ft hi => absurd hi (Nat.not_lt_zero _), .immEnd _ _ _ _ _ _ _ (rk _ _) (fun _ => rfl) rfl⟩
  · simp only [List.cons.injEq, and_true] at h1; subst h1
    obtain ⟨F, hF⟩ := choose_lt (α := List FA) (n := len) (p := fun i fas => FA.hasAll fts fas ∧ ∃ cs, W.cells? 0 (a.add (i * P.cellsOf e)) (P.cellsOf e) = some cs ∧ VRs Place.none_ W (FA.avs fas) cs) (fun i hi => by
      obtain ⟨cs', q1, q2⟩ := hx i (by rw [hmm, if_pos rfl]; omega)
      obtain ⟨fas, q3, q4⟩ := open_stcells he q2
      exact ⟨fas, q3, cs', q1, q4⟩)
    refine ⟨len, fun i j => (F i).getD j default, by omega, fun i j ft hi hj => ?_, ?_⟩
    · obtain ⟨b, q1, q2⟩ := hasAll_get (hF i hi).1 hj
      simp only [List.getD_eq_getElem?_getD, q1, Option.getD_some]; exact q2
    · rcases Nat.eq_zero_or_pos len with rfl | hz
      · exact .immEnd _ _ _ _ _ _ _ (rk _ _) (fun _ => rfl) rfl
      · -- the cells
        have hcell0 : ∀ i j ft, i < len → fts[j]? = some ft → ∃ u, W.cell? ((a.add (i * P.cellsOf e)).add j) = some u ∧ VR Place.none_ W ((F i).getD j default).av u := by
          intro i j ft hi hj
          obtain ⟨k1, cs, k2, k3⟩ := hF i hi
          obtain ⟨b, q1, q2⟩ := hasAll_get k1 hj
          obtain ⟨u, q3, q4⟩ := vrs_get k3 (avs_get q1)
          obtain ⟨_, r1, r2⟩ := World.cells?_some k2
          refine ⟨u, ?_, ?_⟩
          · rw [r2 j (by have := (List.getElem?_eq_some_iff.1 hj).1; omega)]; exact q3
          · simp only [List.getD_eq_getElem?_getD, q1, Option.getD_some]; exact q4
        have hs : a.spot = none := by
          obtain ⟨ft, hft⟩ : ∃ ft, fts[0]? = some ft := ⟨_, List.getElem?_eq_getElem hpos⟩
          obtain ⟨u, q, _⟩ := hcell0 0 0 ft hz hft
          have e0 : (a.add (0 * P.cellsOf e)).add 0 = a := by simp [Addr.add]
          rw [e0] at q
          exact spot_of_cell q
        obtain ⟨bl, o, sp⟩ := a
        simp only at hs; subst hs
        have hcell : ∀ i j ft, i < len → fts[j]? = some ft → ∃ u, W.cell? ⟨bl, o + (i * fts.length + j), none⟩ = some u ∧ VR Place.none_ W ((F i).getD j default).av u := by
          intro i j ft hi hj
          obtain ⟨u, q1, q2⟩ := hcell0 i j ft hi hj
          rw [addr_add, addr_add, ← hw, Nat.add_assoc] at q1
          exact ⟨u, q1, q2⟩
        have hblk : ∀ x v, (Blk.cols len (colsOf (fun i j => (F i).getD j default) len fts 0)).cell? x = some v → ∃ u, W.cell? ⟨bl, o + x, none⟩ = some u ∧ VR Place.none_ W v u := by
          intro x v hv
          obtain ⟨c, q1, _, q3⟩ := Blk.cols_cell hv
          rw [colsOf_len] at q1 q3
          obtain ⟨ft, q4, rfl⟩ := colsOf_get q1
          rw [Nat.zero_add] at q3
          obtain ⟨q5, q6⟩ := colOf_cell q3 (fun hi => by
            obtain ⟨b, r1, r2⟩ := hasAll_get (hF _ hi).1 q4
            simp only [List.getD_eq_getElem?_getD, r1, Option.getD_some]; exact r2)
          obtain ⟨u, r1, r2⟩ := hcell _ _ _ q5 q4
          have ex : x / fts.length * fts.length + x % fts.length = x := by rw [Nat.mul_comm]; exact Nat.div_add_mod x _
          rw [ex] at r1
          exact ⟨u, r1, q6 _ _ _ r2⟩
        have hlt : bl < W.heap.size := by
          obtain ⟨ft, hft⟩ : ∃ ft, fts[0]? = some ft := ⟨_, List.getElem?_eq_getElem hpos⟩
          obtain ⟨u, q, _⟩ := hcell 0 0 ft hz hft
          exact lt_of_cell q
        have := VR.imm (ρ := Place.none_) (w := W) .free (.cols len (colsOf (fun i j => (F i).getD j default) len fts 0)) fts.length fts.length 0 len cap bl o (fun x => (W.cell? ⟨bl, o + x, none⟩).getD undef) (none_avoid _ _) hlt
          (fun x v hx' => by obtain ⟨u, q, _⟩ := hblk x v hx'; rw [q]; rfl) (fun x v hx' => by obtain ⟨u, q, r⟩ := hblk x v hx'; rw [q]; exact r) hl (rk _ _) (fun _ => rfl) rfl
        simpa using this

/-- A list of structs of a list of floats and a float. -/
theorem rows_flf {G : Nat → Nat → FA} {n : Nat} (hG : ∀ i j ft, i < n → [FT.fl, FT.f][j]? = some ft → (G i j).has ft) :
    ∃ (vs : List (List Nat)) (ts : List Nat), colsOf G n [.fl, .f] 0 = [.cfl vs, .cf ts] ∧ vs.length = n ∧ ts.length = n ∧ ∀ i, i < vs.length → (vs.getD i []).length ≤ maxLen := by
  refine ⟨_, _, rfl, by simp, by simp, fun i hi => ?_⟩
  simp only [List.length_map, List.length_range] at hi
  have := hG i 0 .fl hi rfl
  simp only [List.getD_eq_getElem?_getD, List.getElem?_map, List.getElem?_range hi, Option.map_some, Option.getD_some]
  revert this
  generalize G i (0 + 0) = a
  cases a <;> simp only [FA.has, FA.lf, false_imp_iff, List.length_nil, Nat.zero_le, imp_true_iff]
  exact fun h => h.1
theorem has_flfl {l : List FA} (h : FA.hasAll [.fl, .fl] l) : ∃ xs ys, l = [.fl xs, .fl ys] := by
  match l, h with
  | [a, b], ⟨h1, h2, _⟩ =>
    obtain ⟨r, rfl⟩ := has_fl h1; obtain ⟨s, rfl⟩ := has_fl h2
    exact ⟨_, _, rfl⟩
end Go.Plb

/-
  THE SEAT: its functions by name; its context. Printed by seat.py.
-/
namespace Go.Plb.Seat
open Go Go.Plb Go.Proofs
noncomputable abbrev prog : Program := Try.prog
abbrev n_gosem_cut_init : FuncId := 2
abbrev n_law06_SmallNorms : FuncId := 3
abbrev n_law06_SmallEigen : FuncId := 4
abbrev n_law06_SmallSingular : FuncId := 5
abbrev n_law06_SmallLengths : FuncId := 6
abbrev n_law06_SmallGivens : FuncId := 7
abbrev n_law10_TridiagReduces : FuncId := 8
abbrev n_law10_TridiagTurns : FuncId := 9
abbrev n_law10_TridiagFull : FuncId := 10
abbrev n_law06_known : FuncId := 11
abbrev n_ref06_Same : FuncId := 12
abbrev n_small_Norm : FuncId := 13
abbrev n_ref06_Norm : FuncId := 14
abbrev n_small_Eigen : FuncId := 15
abbrev n_ref06_Eigen : FuncId := 16
abbrev n_small_Singular : FuncId := 17
abbrev n_ref06_Singular : FuncId := 18
abbrev n_small_Hypot : FuncId := 19
abbrev n_ref06_Hypot : FuncId := 20
abbrev n_small_Sign : FuncId := 21
abbrev n_ref06_Sign : FuncId := 22
abbrev n_small_Givens : FuncId := 23
abbrev n_ref06_Givens : FuncId := 24
abbrev n_small_Turn : FuncId := 25
abbrev n_law10_known : FuncId := 26
abbrev n_ref09_Copy : FuncId := 27
abbrev n_tridiag_Reduce : FuncId := 28
abbrev n_ref10_Wrong : FuncId := 29
abbrev n_ref09_Same : FuncId := 30
abbrev n_law10_sameTri : FuncId := 31
abbrev n_ref10_Reduce : FuncId := 32
abbrev n_ref06_SameAll : FuncId := 33
abbrev n_tridiag_Q : FuncId := 34
abbrev n_ref10_Q : FuncId := 35
abbrev n_tridiag_Full : FuncId := 36
abbrev n_ref10_May : FuncId := 37
abbrev n_tridiag_May : FuncId := 38
abbrev n_ref10_Full : FuncId := 39
abbrev n_math_Copysign : FuncId := 40
abbrev n_math_Float64bits : FuncId := 41
abbrev n_math_Abs : FuncId := 42
abbrev n_math_Sqrt : FuncId := 43
abbrev n_ref06_Abs : FuncId := 44
abbrev n_small_root : FuncId := 45
abbrev n_math_Float64frombits : FuncId := 46
abbrev n_ref10_One : FuncId := 47
abbrev n_slices_ContainsFunc : FuncId := 48
abbrev n_tridiag_infinite : FuncId := 49
abbrev n_slices_Clone : FuncId := 50
abbrev n_reflect_Make : FuncId := 51
abbrev n_tridiag_Reduce_1 : FuncId := 52
abbrev n_tridiag_sum : FuncId := 53
abbrev n_tridiag_Reduce_2 : FuncId := 54
abbrev n_tridiag_Reduce_3 : FuncId := 55
abbrev n_ref09_May : FuncId := 56
abbrev n_ref05_Wrong : FuncId := 57
abbrev n_ref09_Make : FuncId := 58
abbrev n_reflect_Left : FuncId := 59
abbrev n_ref09_Left : FuncId := 60
abbrev n_math_sqrt : FuncId := 61
abbrev n_slices_IndexFunc : FuncId := 62
abbrev n_math_IsNaN : FuncId := 63
abbrev n_math_IsInf : FuncId := 64
abbrev n_ref05_Finite : FuncId := 65
abbrev n_reflect_may : FuncId := 66
abbrev n_reflect_sum : FuncId := 67
abbrev n_reflect_Left_1 : FuncId := 68
noncomputable def FN (f : FuncId) : Func := (prog.funcs[f]?).getD default
noncomputable def BODY (f : FuncId) : Code := ((FN f).body).getD .skip
noncomputable def C0 : Ctx := ctxOf prog [(n_math_Float64bits, .bits), (n_math_Float64frombits, .frombits), (n_math_sqrt, .sqrt)] [(n_reflect_Make, ⟨[], true⟩), (n_ref09_Make, ⟨[], true⟩)]
theorem ext_math_Float64bits : IsExt prog n_math_Float64bits .bits := ⟨FN n_math_Float64bits, by kernel_rfl, by kernel_rfl, by kernel_rfl, by kernel_rfl, by kernel_rfl⟩
theorem ext_math_Float64frombits : IsExt prog n_math_Float64frombits .frombits := ⟨FN n_math_Float64frombits, by kernel_rfl, by kernel_rfl, by kernel_rfl, by kernel_rfl, by kernel_rfl⟩
theorem ext_math_sqrt : IsExt prog n_math_sqrt .sqrt := ⟨FN n_math_sqrt, by kernel_rfl, by kernel_rfl, by kernel_rfl, by kernel_rfl, by kernel_rfl⟩
theorem mixed : prog.follows .mixedOrders = true := by kernel_rfl
theorem names : namesOk prog = true := by kernel_rfl
theorem C0_ok : C0.Ok := ctxOf_ok mixed names (by
  intro x hx
  simp only [List.mem_cons, List.not_mem_nil, or_false] at hx
  rcases hx with rfl | rfl | rfl
  · exact ext_math_Float64bits
  · exact ext_math_Float64frombits
  · exact ext_math_sqrt
  )
noncomputable def C0w : Ctx := { C0 with wrap := true }
theorem C0w_ok : C0w.Ok := ⟨C0_ok.mixed, C0_ok.enter, C0_ok.ext⟩
end Go.Plb.Seat

namespace Go.Plb.Seat
open Go Go.Plb
set_option linter.unusedSimpArgs false
set_option linter.unusedVariables false

noncomputable abbrev E0 : Sums := sumsOf []
theorem E0_ok : SumsOk prog E0 := sumsOf_nil prog

theorem c_AbsT (y : Nat) : Contract prog n_math_Abs [] [.flt true y] ⟨.flt true (fabs y), []⟩ := by
  have h : fnRun C0 E0 (runCode C0 E0 0 50) n_math_Abs [] [.flt true y] (some []) = some (⟨.flt true (bitsV .andNot .u64 (y : Int) 9223372036854775808).toNat, []⟩, [], some []) := by kernel_rfl
  have := Contract.run C0_ok E0_ok _ _ _ h trivial
  rw [abs_eq, Int.toNat_natCast] at this; exact this
theorem c_Abs (ex : Bool) (x : Nat) : Contract prog n_math_Abs [] [.flt ex x] ⟨.flt ex (fabs x), []⟩ := by
  cases ex with
  | true => exact c_AbsT x
  | false => exact Contract.exact1 (r := fun y => .flt true (fabs y)) c_AbsT (fun y hf ρ w u h => h.flt_weak (FR.abs hf))

theorem c_Abs6T (y : Nat) : Contract prog n_ref06_Abs [] [.flt true y] ⟨.flt true (fabs y), []⟩ := by
  have h : fnRun C0 E0 (runCode C0 E0 0 50) n_ref06_Abs [] [.flt true y] (some []) = some (⟨.flt true ((IntKind.u64.wrap ((y : Int) * 2 ^ min (Int.toNat 1) IntKind.u64.bits)).fdiv (2 ^ min (Int.toNat 1) IntKind.u64.bits)).toNat, []⟩, [true, true], some []) := by kernel_rfl
  have := Contract.run C0_ok E0_ok _ _ _ h ⟨rfl, rfl, trivial⟩
  rw [abs2_eq, Int.toNat_natCast] at this; exact this
theorem c_Abs6 (ex : Bool) (x : Nat) : Contract prog n_ref06_Abs [] [.flt ex x] ⟨.flt ex (fabs x), []⟩ := by
  cases ex with
  | true => exact c_Abs6T x
  | false => exact Contract.exact1 (r := fun y => .flt true (fabs y)) c_Abs6T (fun y hf ρ w u h => h.flt_weak (FR.abs hf))

theorem c_CopysignT (x y : Nat) : Contract prog n_math_Copysign [] [.flt true x, .flt true y] ⟨.flt true (fcopy x y), []⟩ := by
  have h : fnRun C0 E0 (runCode C0 E0 0 50) n_math_Copysign [] [.flt true x, .flt true y] (some []) = some (⟨.flt true (bitsV .or .u64 (bitsV .andNot .u64 (x : Int) 9223372036854775808) (bitsV .and .u64 (y : Int) 9223372036854775808)).toNat, []⟩, [], some []) := by kernel_rfl
  have := Contract.run C0_ok E0_ok _ _ _ h trivial
  rw [abs_eq, top_eq, or_eq, Int.toNat_natCast] at this; exact this
theorem c_Copysign (e1 e2 : Bool) (x y : Nat) (hn : isNaN y = true → isNaN x = true) : Contract prog n_math_Copysign [] [.flt e1 x, .flt e2 y] ⟨.flt false (fcopy x y), []⟩ :=
  Contract.exact2 (r := fun x y => .flt true (fcopy x y)) c_CopysignT (fun x' y' h1 h2 ρ w u h => h.flt_weak (FR.copy h1 h2 hn))

theorem c_Sign6T (x y : Nat) : Contract prog n_ref06_Sign [] [.flt true x, .flt true y] ⟨.flt true (fcopy x y), []⟩ := by
  have h : fnRun C0 E0 (runCode C0 E0 0 50) n_ref06_Sign [] [.flt true x, .flt true y] (some []) = some (⟨.flt true (bitsV .or .u64
      ((IntKind.u64.wrap ((x : Int) * 2 ^ min (Int.toNat 1) IntKind.u64.bits)).fdiv (2 ^ min (Int.toNat 1) IntKind.u64.bits))
      (IntKind.u64.wrap ((y : Int).fdiv (2 ^ min (Int.toNat 63) IntKind.u64.bits) * 2 ^ min (Int.toNat 63) IntKind.u64.bits))).toNat, []⟩, [true, true, true, true], some []) := by kernel_rfl
  have := Contract.run C0_ok E0_ok _ _ _ h ⟨rfl, rfl, rfl, rfl, trivial⟩
  rw [abs2_eq, top2_eq, or_eq, Int.toNat_natCast] at this; exact this
theorem c_Sign6 (e1 e2 : Bool) (x y : Nat) (hn : isNaN y = true → isNaN x = true) : Contract prog n_ref06_Sign [] [.flt e1 x, .flt e2 y] ⟨.flt false (fcopy x y), []⟩ :=
  Contract.exact2 (r := fun x y => .flt true (fcopy x y)) c_Sign6T (fun x' y' h1 h2 ρ w u h => h.flt_weak (FR.copy h1 h2 hn))

theorem c_Same6 (e1 e2 : Bool) (x y : Nat) : Contract prog n_ref06_Same [] [.flt e1 x, .flt e2 y] ⟨.bool false (sameB x y), []⟩ := by
  refine Contract.exact2 (r := fun x y => .bool false (sameB x y)) (fun x y => ?_) (fun x' y' h1 h2 ρ w u h => by rw [← FR.same h1 h2]; exact h)
  have hb : ((x : Int) == (y : Int)) = (x == y) := by
    rw [Bool.eq_iff_iff]; simp; omega
  cases hx : isNaN x with
  | false =>
    have h : fnRun C0 E0 (runCode C0 E0 0 50) n_ref06_Same [] [.flt true x, .flt true y] (some [0]) = some (⟨.bool false ((x : Int) == (y : Int)), []⟩, [fne x x == false], some []) := by kernel_rfl
    have := Contract.run C0_ok E0_ok _ _ _ h ⟨by rw [fne_self, hx]; rfl, trivial⟩
    rw [hb] at this
    simp only [sameB, hx, Bool.false_and, Bool.false_or]; exact this
  | true =>
    cases hy : isNaN y with
    | false =>
      have h : fnRun C0 E0 (runCode C0 E0 0 50) n_ref06_Same [] [.flt true x, .flt true y] (some [1, 0]) = some (⟨.bool false ((x : Int) == (y : Int)), []⟩, [fne x x == true, fne y y == false], some []) := by kernel_rfl
      have := Contract.run C0_ok E0_ok _ _ _ h ⟨by rw [fne_self, hx]; rfl, by rw [fne_self, hy]; rfl, trivial⟩
      rw [hb] at this
      simp only [sameB, hx, hy, Bool.and_false, Bool.false_or]; exact this
    | true =>
      have h : fnRun C0 E0 (runCode C0 E0 0 50) n_ref06_Same [] [.flt true x, .flt true y] (some [1, 1]) = some (⟨.bool true true, []⟩, [fne x x == true, fne y y == true], some []) := by kernel_rfl
      have := Contract.run C0_ok E0_ok _ _ _ h ⟨by rw [fne_self, hx]; rfl, by rw [fne_self, hy]; rfl, trivial⟩
      have e : sameB x y = true := by simp [sameB, hx, hy]
      rw [e]
      exact this.weak (bool_loose _ _ _)

def onCopy (L : List Blk) (args : List AV) : Option (List EAlt) :=
  match L, args with
  | [], [.flt e1 x, .flt e2 y] => bif e1 && e2 then one (.flt true (fcopy x y)) [] else one (.flt false (fcopy x y)) [!isNaN y || isNaN x]
  | _, _ => none
def e_Abs : Entry := ⟨n_math_Abs, fun L args => match L, args with | [], [.flt e x] => one (.flt e (fabs x)) [] | _, _ => none⟩
def e_Abs6 : Entry := ⟨n_ref06_Abs, fun L args => match L, args with | [], [.flt e x] => one (.flt e (fabs x)) [] | _, _ => none⟩
def e_Copysign : Entry := ⟨n_math_Copysign, onCopy⟩
def e_Sign6 : Entry := ⟨n_ref06_Sign, onCopy⟩
def e_Same6 : Entry := ⟨n_ref06_Same, fun L args => match L, args with | [], [.flt _ x, .flt _ y] => one (.bool false (sameB x y)) [] | _, _ => none⟩

theorem e_Abs_ok : EntryOk prog e_Abs := by
  intro L args alts a h ha ho
  simp only [e_Abs] at h
  split at h
  · exact entry_one h ha ho fun _ => c_Abs _ _
  · cases h
theorem e_Abs6_ok : EntryOk prog e_Abs6 := by
  intro L args alts a h ha ho
  simp only [e_Abs6] at h
  split at h
  · exact entry_one h ha ho fun _ => c_Abs6 _ _
  · cases h
theorem nanImp {x y : Nat} (h : allTrue [!isNaN y || isNaN x]) : isNaN y = true → isNaN x = true := by
  intro hy; have := h.1; rw [hy] at this; simpa using this
theorem copy_ok {f : FuncId} (hT : ∀ x y, Contract prog f [] [.flt true x, .flt true y] ⟨.flt true (fcopy x y), []⟩)
    (hF : ∀ e1 e2 x y, (isNaN y = true → isNaN x = true) → Contract prog f [] [.flt e1 x, .flt e2 y] ⟨.flt false (fcopy x y), []⟩) : EntryOk prog ⟨f, onCopy⟩ := by
  intro L args alts a h ha ho
  simp only [onCopy] at h
  split at h
  · rename_i e1 x e2 y
    cases e1 <;> cases e2 <;> first | exact entry_one h ha ho fun q => hF _ _ _ _ (nanImp q) | exact entry_one h ha ho fun q => hT _ _
  · cases h
theorem e_Copysign_ok : EntryOk prog e_Copysign := copy_ok c_CopysignT c_Copysign
theorem e_Sign6_ok : EntryOk prog e_Sign6 := copy_ok c_Sign6T c_Sign6
theorem e_Same6_ok : EntryOk prog e_Same6 := by
  intro L args alts a h ha ho
  simp only [e_Same6] at h
  split at h
  · exact entry_one h ha ho fun q => c_Same6 _ _ _ _
  · cases h

def L1 : List Entry := [e_Abs, e_Abs6, e_Copysign, e_Sign6, e_Same6]
def S1 : Sums := sumsOf L1
theorem S1_ok : SumsOk prog S1 := sumsOf_cons e_Abs_ok (sumsOf_cons e_Abs6_ok (sumsOf_cons e_Copysign_ok (sumsOf_cons e_Sign6_ok (sumsOf_cons e_Same6_ok (sumsOf_nil _)))))

end Go.Plb.Seat

/-
  EXTRACTION: a function's text as a plain function on plain data.
-/
namespace Go.Plb
set_option linter.unusedSimpArgs false
set_option linter.unusedVariables false

/-- A decision tree: what a piece of code without loops does. 'need': what must hold, lest nothing is said. -/
inductive T (α : Type) where
  | fail
  | leaf (a : α)
  | ask (b : Bool) (t f : T α)
  | need (b : Bool) (t : T α)
  | alt (k : Nat) (t e : T α)

def T.run {α : Type} : T α → Option α
  | .fail => none
  | .leaf a => some a
  | .ask b t f => bif b then t.run else f.run
  | .need b t => bif b then t.run else none
  | .alt _ t e => match t.run with
    | some a => some a
    | none => e.run

structure Leaf (α : Type) where
  path : List Nat
  obs : List Bool
  val : α

def Leaf.ask {α : Type} (n : Nat) (b : Bool) (l : Leaf α) : Leaf α := ⟨n :: l.path, b :: l.obs, l.val⟩
def Leaf.need {α : Type} (b : Bool) (l : Leaf α) : Leaf α := ⟨l.path, b :: l.obs, l.val⟩
def Leaf.alt {α : Type} (n : Nat) (l : Leaf α) : Leaf α := ⟨n :: l.path, l.obs, l.val⟩

def T.leaves {α : Type} : T α → List (Leaf α)
  | .fail => []
  | .leaf a => [⟨[], [], a⟩]
  | .ask b t f => t.leaves.map (Leaf.ask 1 (b == true)) ++ f.leaves.map (Leaf.ask 0 (b == false))
  | .need b t => t.leaves.map (Leaf.need b)
  | .alt k t e => t.leaves.map (Leaf.alt k) ++ e.leaves

theorem T.run_leaf {α : Type} : ∀ (t : T α) {a : α}, t.run = some a → ∃ l ∈ t.leaves, l.val = a ∧ allTrue l.obs
  | .fail, a, h => by cases h
  | .leaf b, a, h => by
    simp only [T.run, Option.some.injEq] at h; subst h
    exact ⟨⟨[], [], b⟩, by simp [T.leaves], rfl, trivial⟩
  | .ask b t f, a, h => by
    simp only [T.run] at h
    cases b with
    | true =>
      simp only [cond_true] at h
      obtain ⟨l, h1, h2, h3⟩ := T.run_leaf t h
      exact ⟨l.ask 1 (true == true), by simp only [T.leaves, List.mem_append]; exact .inl (List.mem_map_of_mem h1), h2, ⟨rfl, h3⟩⟩
    | false =>
      simp only [cond_false] at h
      obtain ⟨l, h1, h2, h3⟩ := T.run_leaf f h
      exact ⟨l.ask 0 (false == false), by simp only [T.leaves, List.mem_append]; exact .inr (List.mem_map_of_mem h1), h2, ⟨rfl, h3⟩⟩
  | .need b t, a, h => by
    simp only [T.run] at h
    cases b with
    | true =>
      simp only [cond_true] at h
      obtain ⟨l, h1, h2, h3⟩ := T.run_leaf t h
      exact ⟨l.need true, by simp only [T.leaves]; exact List.mem_map_of_mem h1, h2, ⟨rfl, h3⟩⟩
    | false => cases h
  | .alt k t e, a, h => by
    simp only [T.run] at h
    split at h
    · rename_i a' ht
      cases h
      obtain ⟨l, h1, h2, h3⟩ := T.run_leaf t ht
      exact ⟨l.alt k, by simp only [T.leaves, List.mem_append]; exact .inl (List.mem_map_of_mem h1), h2, h3⟩
    · obtain ⟨l, h1, h2, h3⟩ := T.run_leaf e h
      exact ⟨l, by simp only [T.leaves, List.mem_append]; exact .inr h1, h2, h3⟩

def encL {α X : Type} (N : α → ASt) (E : X → AE × ASt) : α ⊕ X → AE × ASt
  | .inl a => (.normal, N a)
  | .inr x => E x

/-- What a row of pieces does from a state on: 'm' tells it, where it tells anything. -/
def Sg {α X : Type} (P : Program) (lent : List Blk) (cs : List Code) (st : ASt) (m : Option (α ⊕ X)) (N : α → ASt) (E : X → AE × ASt) : Prop :=
  ∀ r, m = some r → Trip P lent cs st fun e st' => (e, st') = encL N E r

def segGot {α X : Type} (C : Ctx) (S : Sums) (n : Nat) (cs : List Code) (st : ASt) (ls : List (Leaf (α ⊕ X))) (ks : List NS) (k : Nat) : List (Bool × Option (AE × ASt × List Bool)) :=
  List.zipWith (fun l s => (s.ok k, endOf s (runL (runCode C S 0 n) cs st (some l.path)))) ls ks
def segWant {α X : Type} (N : α → ASt) (E : X → AE × ASt) (ls : List (Leaf (α ⊕ X))) : List (Bool × Option (AE × ASt × List Bool)) :=
  ls.map fun l => (true, some ((encL N E l.val).1, (encL N E l.val).2, l.obs))

theorem zip_mem {α β γ : Type} {f : α → β → γ} {g : α → γ} : ∀ {l : List α} {k : List β}, List.zipWith f l k = l.map g → ∀ a ∈ l, ∃ b, f a b = g a
  | [], _, _, a, ha => by cases ha
  | x :: l, [], h, a, ha => by simp at h
  | x :: l, y :: k, h, a, ha => by
    simp only [List.zipWith_cons_cons, List.map_cons, List.cons.injEq] at h
    rcases List.mem_cons.1 ha with rfl | ha
    · exact ⟨y, h.1⟩
    · exact zip_mem h.2 a ha

theorem Sg.seg {C : Ctx} (hC : C.Ok) {S : Sums} (hS : SumsOk C.P S) {lent : List Blk} {α X : Type} (n : Nat) (cs : List Code) (st : ASt) (t : T (α ⊕ X)) (N : α → ASt) (E : X → AE × ASt) (ks : List NS)
    (h : segGot C S n cs st t.leaves ks lent.length = segWant N E t.leaves) : Sg C.P lent cs st t.run N E := by
  intro r hr
  obtain ⟨l, h1, h2, h3⟩ := T.run_leaf t hr
  obtain ⟨k, hk⟩ := zip_mem h l h1
  simp only [Prod.mk.injEq] at hk
  obtain ⟨hn, he⟩ := hk
  have := Trip.seg hC hS (lent := lent) (Q := fun e st' => (e, st') = encL N E r) cs.length (some l.path) k (cs := cs) (st := st) (by rw [List.take_length]; exact he) hn h3
  refine this ?_
  rw [h2, List.drop_length]
  generalize hg : encL N E r = x
  obtain ⟨e, s⟩ := x
  cases e with
  | normal => exact Trip.nil rfl
  | ret => rfl
  | exit id => rfl

theorem Trip.append {P : Program} {lent : List Blk} {cs1 cs2 : List Code} {st : ASt} {Q1 Q : AE → ASt → Prop} (h : Trip P lent cs1 st Q1) (k : ∀ e st', Q1 e st' → Then P lent cs2 e st' Q) : Trip P lent (cs1 ++ cs2) st Q := by
  intro ρ0 w0 hN K hK a w hA
  apply wpL_append
  refine h ρ0 w0 hN _ ?_ a w hA
  intro e st' a' w' q hA'
  have := k e st' q
  cases e with
  | normal => exact this ρ0 w0 hN K hK a' w' hA'
  | ret => exact hK _ _ _ _ this hA'
  | exit id => exact hK _ _ _ _ this hA'

/-- No exit is a normal end. -/
def NoN {X : Type} (E : X → AE × ASt) : Prop := ∀ x, (E x).1 ≠ .normal

theorem then_of {P : Program} {lent : List Blk} {cs : List Code} {e : AE} {st : ASt} {Q : AE → ASt → Prop} (hn : e ≠ .normal) (h : Q e st) : Then P lent cs e st Q := by
  cases e with
  | normal => exact (hn rfl).elim
  | ret => exact h
  | exit id => exact h

def seqM {α β X : Type} (m : Option (α ⊕ X)) (k : α → Option (β ⊕ X)) : Option (β ⊕ X) :=
  match m with
  | none => none
  | some (.inl a) => k a
  | some (.inr x) => some (.inr x)

theorem Sg.seq {P : Program} {lent : List Blk} {α β X : Type} {cs1 cs2 : List Code} {st : ASt} {m : Option (α ⊕ X)} {N1 : α → ASt} {E : X → AE × ASt} {k : α → Option (β ⊕ X)} {N : β → ASt} (hE : NoN E)
    (h : Sg P lent cs1 st m N1 E) (hk : ∀ a, Sg P lent cs2 (N1 a) (k a) N E) : Sg P lent (cs1 ++ cs2) st (seqM m k) N E := by
  intro r hr
  unfold seqM at hr
  split at hr
  · cases hr
  · rename_i a
    refine Trip.append (h _ rfl) ?_
    intro e st' q
    simp only [encL, Prod.mk.injEq] at q
    obtain ⟨rfl, rfl⟩ := q
    exact hk a r hr
  · rename_i x
    simp only [Option.some.injEq] at hr; subst hr
    refine Trip.append (h _ rfl) ?_
    intro e st' q
    simp only [encL] at q
    refine then_of ?_ q
    have := hE x
    rw [← q] at this; exact this

def iterM {σ Y : Type} (B : σ → Option (σ ⊕ Y)) : Nat → σ → Option Y
  | 0, _ => none
  | n + 1, s => match B s with
    | none => none
    | some (.inl s') => iterM B n s'
    | some (.inr y) => some y

theorem iterM_mono {σ Y : Type} {B : σ → Option (σ ⊕ Y)} : ∀ (n : Nat) {s : σ} {y : Y}, iterM B n s = some y → ∀ m, n ≤ m → iterM B m s = some y
  | 0, s, y, h, _, _ => by cases h
  | n + 1, s, y, h, m, hm => by
    obtain ⟨m', rfl⟩ : ∃ m', m = m' + 1 := ⟨m - 1, by omega⟩
    simp only [iterM] at h ⊢
    split at h
    · cases h
    · exact iterM_mono n h m' (by omega)
    · exact h

open Classical in
/-- A loop, to its end; none where it has none. -/
noncomputable def loopM {σ Y : Type} (B : σ → Option (σ ⊕ Y)) (s : σ) : Option Y :=
  if h : ∃ n y, iterM B n s = some y then some h.choose_spec.choose else none

theorem loopM_iff {σ Y : Type} {B : σ → Option (σ ⊕ Y)} {s : σ} {y : Y} : loopM B s = some y ↔ ∃ n, iterM B n s = some y := by
  unfold loopM
  constructor
  · intro h
    split at h
    · rename_i q
      simp only [Option.some.injEq] at h
      exact ⟨q.choose, by rw [← h]; exact q.choose_spec.choose_spec⟩
    · cases h
  · rintro ⟨n, h⟩
    rw [dif_pos ⟨n, y, h⟩]
    generalize hq : (⟨n, y, h⟩ : ∃ n y, iterM B n s = some y) = q
    have h1 := q.choose_spec.choose_spec
    have a1 := iterM_mono n h (max n q.choose) (by omega)
    have a2 := iterM_mono _ h1 (max n q.choose) (by omega)
    rw [a1] at a2
    exact a2.symm

/-- A loop's one round. -/
theorem loopM_eq {σ Y : Type} (B : σ → Option (σ ⊕ Y)) (s : σ) : loopM B s = match B s with
    | none => none
    | some (.inl s') => loopM B s'
    | some (.inr y) => some y := by
  have key : ∀ y, loopM B s = some y ↔ (match B s with | none => none | some (.inl s') => loopM B s' | some (.inr y) => some y) = some y := by
    intro y
    rw [loopM_iff]
    constructor
    · rintro ⟨n, h⟩
      cases n with
      | zero => cases h
      | succ n =>
        simp only [iterM] at h
        cases q : B s with
        | none => rw [q] at h; cases h
        | some z => cases z with
          | inl s' => rw [q] at h; exact loopM_iff.2 ⟨n, h⟩
          | inr z => rw [q] at h; exact h
    · intro h
      split at h <;> rename_i q
      · cases h
      · obtain ⟨n, hn⟩ := loopM_iff.1 h
        exact ⟨n + 1, by simp only [iterM, q]; exact hn⟩
      · exact ⟨1, by simp only [iterM, q]; exact h⟩
  generalize (match B s with | none => none | some (.inl s') => loopM B s' | some (.inr y) => some y) = x at key
  cases hl : loopM B s with
  | none => cases x with
    | none => rfl
    | some y => rw [(key y).2 rfl] at hl; cases hl
  | some y => rw [hl] at key; exact ((key y).1 rfl).symm

theorem loopM_on {σ Y : Type} {B : σ → Option (σ ⊕ Y)} {s s' : σ} (h : B s = some (.inl s')) : loopM B s = loopM B s' := by rw [loopM_eq, h]
theorem loopM_out {σ Y : Type} {B : σ → Option (σ ⊕ Y)} {s : σ} {y : Y} (h : B s = some (.inr y)) : loopM B s = some y := by rw [loopM_eq, h]

/-- A loop that does what it should, by an invariant and a measure. -/
theorem loopM_inv {σ Y : Type} {B : σ → Option (σ ⊕ Y)} (G : σ → Prop) (m : σ → Nat) (Q : Y → Prop) (h : ∀ s, G s → (∃ s', B s = some (.inl s') ∧ G s' ∧ m s' < m s) ∨ ∃ y, B s = some (.inr y) ∧ Q y) :
    ∀ s, G s → ∃ y, loopM B s = some y ∧ Q y := by
  have key : ∀ n s, m s < n → G s → ∃ y, loopM B s = some y ∧ Q y := by
    intro n
    induction n with
    | zero => intro s q; omega
    | succ n ih =>
      intro s q hs
      rcases h s hs with ⟨s', h1, h2, h3⟩ | ⟨y, h1, h2⟩
      · obtain ⟨y, k1, k2⟩ := ih s' (by omega) h2
        exact ⟨y, by rw [loopM_on h1]; exact k1, k2⟩
      · exact ⟨y, loopM_out h1, h2⟩
  exact fun s hs => key _ s (Nat.lt_succ_self _) hs

def exitE {ρ X : Type} (id : Nat) (J : ρ → ASt) (E : X → AE × ASt) : ρ ⊕ X → AE × ASt
  | .inl r => (.exit id, J r)
  | .inr x => E x

def NoId {X : Type} (id : Nat) (E : X → AE × ASt) : Prop := ∀ x, (E x).1 ≠ .exit id

theorem Sg.loop {P : Program} {lent : List Blk} {σ ρ X : Type} {I : σ → ASt} {J : ρ → ASt} {E : X → AE × ASt} {B : σ → Option (σ ⊕ (ρ ⊕ X))} {id : Nat} {b : Code} (hE : NoN E) (hI : NoId id E)
    (hb : ∀ s, Sg P lent (flat b) (I s) (B s) I (exitE id J E)) (s : σ) : Sg P lent [.block id (.loop b)] (I s) (loopM B s) J E := by
  intro y hy
  obtain ⟨n, hn⟩ := loopM_iff.1 hy
  -- the rounds that are left
  have := Trip.loop (P := P) (lent := lent) (id := id) (b := b) (rest := []) (Q := fun e st' => (e, st') = encL J E y) (σ := Nat × σ) (fun s => I s.2) (fun s => iterM B s.1 s.2 = some y) (fun s => s.1) rfl (fun s hs => ?_) (n, s) hn
  · exact this
  · obtain ⟨n, s⟩ := s
    simp only at hs ⊢
    cases n with
    | zero => cases hs
    | succ n =>
      simp only [iterM] at hs
      split at hs
      · cases hs
      · rename_i s' hB
        refine (hb s _ hB).mono ?_
        intro e st' q
        simp only [encL, Prod.mk.injEq] at q
        obtain ⟨rfl, rfl⟩ := q
        exact ⟨(n, s'), hs, by simp, rfl⟩
      · rename_i y' hB
        simp only [Option.some.injEq] at hs; subst hs
        refine (hb s _ hB).mono ?_
        intro e st' q
        cases y' with
        | inl r =>
          simp only [encL, exitE, Prod.mk.injEq] at q
          obtain ⟨rfl, rfl⟩ := q
          simp only [Round, if_true]
          exact Trip.nil rfl
        | inr x =>
          simp only [encL, exitE] at q
          have h1 := hE x
          have h2 := hI x
          rw [← q] at h1 h2
          simp only at h1 h2
          cases e with
          | normal => exact (h1 rfl).elim
          | ret => exact q
          | exit j =>
            have hj : ¬ j = id := fun h => h2 (by rw [h])
            simp only [Round, hj, if_false]
            exact q

def joinM {κ X : Type} (m : Option (κ ⊕ (κ ⊕ X))) : Option (κ ⊕ X) :=
  match m with
  | none => none
  | some (.inl a) => some (.inl a)
  | some (.inr (.inl a)) => some (.inl a)
  | some (.inr (.inr x)) => some (.inr x)

theorem Sg.block {P : Program} {lent : List Blk} {κ X : Type} {K : κ → ASt} {E : X → AE × ASt} {m : Option (κ ⊕ (κ ⊕ X))} {id : Nat} {b : Code} {st : ASt} (hE : NoN E) (hI : NoId id E)
    (hb : Sg P lent (flat b) st m K (exitE id K E)) : Sg P lent [.block id b] st (joinM m) K E := by
  intro r hr
  unfold joinM at hr
  refine Trip.block (rest := []) rfl ?_
  split at hr
  · cases hr
  · simp only [Option.some.injEq] at hr; subst hr
    refine (hb _ rfl).mono ?_
    intro e st' q
    simp only [encL, Prod.mk.injEq] at q
    obtain ⟨rfl, rfl⟩ := q
    exact Trip.nil rfl
  · simp only [Option.some.injEq] at hr; subst hr
    refine (hb _ rfl).mono ?_
    intro e st' q
    simp only [encL, exitE, Prod.mk.injEq] at q
    obtain ⟨rfl, rfl⟩ := q
    simp only [if_true]
    exact Trip.nil rfl
  · rename_i x
    simp only [Option.some.injEq] at hr; subst hr
    refine (hb _ rfl).mono ?_
    intro e st' q
    simp only [encL, exitE] at q
    have h1 := hE x
    have h2 := hI x
    rw [← q] at h1 h2
    simp only at h1 h2
    cases e with
    | normal => exact (h1 rfl).elim
    | ret => exact q
    | exit j =>
      have hj : ¬ j = id := fun h => h2 (by rw [h])
      simp only [hj, if_false]
      exact q

theorem Sg.scope {P : Program} {lent : List Blk} {α X : Type} {N : α → ASt} {E : X → AE × ASt} {m : Option (α ⊕ X)} {b : Code} {st : ASt} (hE : NoN E) (hb : Sg P lent (flat b) st m N E) : Sg P lent [.scope b] st m N E := by
  intro r hr
  refine Trip.scope (rest := []) rfl ((hb r hr).mono ?_)
  intro e st' q
  cases r with
  | inl a =>
    simp only [encL, Prod.mk.injEq] at q
    obtain ⟨rfl, rfl⟩ := q
    exact Trip.nil rfl
  | inr x =>
    refine then_of ?_ q
    have := hE x
    simp only [encL] at q
    rw [← q] at this; exact this

theorem setKnown_at {k : Nat} {ρ0 : Place} {w0 : World} {st : ASt} {a : Act} {w : World} {c : Operand} {b kn : Bool} (h : At k ρ0 w0 st a w) (hc : evA st.tmps c = .bool kn b) : At k ρ0 w0 { st with tmps := setKnown st.tmps c b } a w ∧ a.eval c = .bool b := by
  obtain ⟨ρ, E, W, hs, hbk, hle⟩ := h
  have hb : a.eval c = .bool b := by
    have := evA_vr hs.tmps c
    rw [hc] at this
    generalize a.eval c = z at this
    cases this; rfl
  refine ⟨⟨ρ, E, W, ⟨hs.defers, ?_, hs.heap⟩, hbk, hle⟩, hb⟩
  cases c with
  | tmp t =>
    simp only [setKnown]
    have : VRs ρ w (st.tmps.set t (.bool true b)) (a.tmps.toList.set t (.bool b)) := hs.tmps.set (.bool _ _) t
    have e : a.tmps.toList.set t (.bool b) = a.tmps.toList := by
      apply List.ext_getElem?
      intro j
      rw [List.getElem?_set]
      split
      · rename_i q; subst q
        split
        · rename_i hlt
          simp only [Act.eval] at hb
          rw [Array.getD_eq_getD_getElem?] at hb
          have hlt' : t < a.tmps.size := by simpa using hlt
          rw [Array.getElem?_eq_getElem hlt'] at hb
          simp only [Option.getD_some] at hb
          simp [hlt', hb]
        · rename_i hge
          rw [List.getElem?_eq_none (by omega)]
      · rfl
    rw [e] at this; exact this
  | const v => exact hs.tmps
  | global g => exact hs.tmps
  | func f => exact hs.tmps

theorem Sg.cond {P : Program} {lent : List Blk} {α X : Type} {N : α → ASt} {E : X → AE × ASt} {m1 m2 : Option (α ⊕ X)} {c : Operand} {A B : Code} {st : ASt} {kn b : Bool} (hE : NoN E) (hc : evA st.tmps c = .bool kn b)
    (h1 : Sg P lent (flat A) { st with tmps := setKnown st.tmps c true } m1 N E) (h2 : Sg P lent (flat B) { st with tmps := setKnown st.tmps c false } m2 N E) : Sg P lent [.cond c A B] st (bif b then m1 else m2) N E := by
  intro r hr
  intro ρ0 w0 hN K hK a w hA
  simp only [wpL]
  obtain ⟨hA', hb⟩ := setKnown_at hA hc
  refine wp_cond hb ?_
  have fin : ∀ (D : Code) (m : Option (α ⊕ X)) (st1 : ASt), Sg P lent (flat D) st1 m N E → m = some r → At lent.length ρ0 w0 st1 a w → D.wp P (fun e a' w' => match e with | .normal => K .normal a' w' | e => K e a' w') a w := by
    intro D m st1 hS hm hA1
    refine flat_wp D (hS r hm ρ0 w0 hN _ ?_ a w hA1)
    intro e st' a' w' q hA2
    cases e with
    | normal => exact hK .normal st' a' w' q hA2
    | ret => exact hK .ret st' a' w' q hA2
    | exit id => exact hK (.exit id) st' a' w' q hA2
  cases b with
  | true => exact fin A m1 _ h1 hr hA'
  | false => exact fin B m2 _ h2 hr hA'

/-- A state made plain. -/
theorem Sg.pre {P : Program} {lent : List Blk} {α X : Type} {N : α → ASt} {E : X → AE × ASt} {m : Option (α ⊕ X)} {cs : List Code} {st st1 : ASt} (s : NS) (hn : s.ok lent.length = true) (h1 : s.on st = st1) (h : Sg P lent cs st1 m N E) : Sg P lent cs st m N E :=
  fun r hr => Trip.weak (by rw [← h1]; exact ns_sub hn st) (h r hr)

def toX {X : Type} : Option (Empty ⊕ X) → Option X
  | some (.inr x) => some x
  | _ => none

/-- A function's contract: what is told of its text. -/
theorem Sg.contract {P : Program} {f : FuncId} {fn : Func} {c : Code} {X : Type} {N : Empty → ASt} {E : X → AE × ASt} {m : Option (Empty ⊕ X)} {lent : List Blk} {args : List AV} (keep : Bool) (o : X → Out) (hf : P.funcs[f]? = some fn) (hc : fn.body = some c)
    (h : Sg P lent (flat c) (entryOf fn lent args) m N E) (hE : ∀ x, Hands P fn lent.length keep (o x) (E x).1 (E x).2) {x : X} (hx : toX m = some x) : Contract P f lent args (o x) := by
  unfold toX at hx
  split at hx
  · rename_i x'
    simp only [Option.some.injEq] at hx; subst hx
    refine Trip.contract (keep := keep) hf hc ((h _ rfl).mono ?_)
    intro e st' q
    simp only [encL] at q
    have := hE x'
    rw [← q] at this; exact this
  · cases hx

end Go.Plb

namespace Go.Plb
theorem noN_exit {ρ X : Type} {id : Nat} {J : ρ → ASt} {E : X → AE × ASt} (h : NoN E) : NoN (exitE id J E) := by
  intro x
  cases x with
  | inl r => intro q; cases q
  | inr x => exact h x
theorem noId_exit {ρ X : Type} {id j : Nat} {J : ρ → ASt} {E : X → AE × ASt} (hj : (j == id) = false) (h : NoId id E) : NoId id (exitE j J E) := by
  intro x
  cases x with
  | inl r =>
    intro q
    simp only [exitE, AE.exit.injEq] at q
    subst q
    simp at hj
  | inr x => exact h x

def inLoop : Code → Code
  | .block _ (.loop b) => b
  | _ => .skip
def inBlock : Code → Code
  | .block _ b => b
  | _ => .skip
def inScope : Code → Code
  | .scope b => b
  | _ => .skip
def inThen : Code → Code
  | .cond _ a _ => a
  | _ => .skip
def inElse : Code → Code
  | .cond _ _ b => b
  | _ => .skip

theorem Sg.cut {P : Program} {lent : List Blk} {α β X : Type} {cs : List Code} {st : ASt} {m : Option (α ⊕ X)} {N1 : α → ASt} {E : X → AE × ASt} {k : α → Option (β ⊕ X)} {N : β → ASt} (n : Nat) (hE : NoN E)
    (h : Sg P lent (cs.take n) st m N1 E) (hk : ∀ a, Sg P lent (cs.drop n) (N1 a) (k a) N E) : Sg P lent cs st (seqM m k) N E := by
  have := Sg.seq hE h hk
  rwa [List.take_append_drop] at this

theorem Sg.loopAt {P : Program} {lent : List Blk} {σ ρ X : Type} {I : σ → ASt} {J : ρ → ASt} {E : X → AE × ASt} {B : σ → Option (σ ⊕ (ρ ⊕ X))} {id : Nat} {b : Code} {cs : List Code} (hcs : cs = [.block id (.loop b)]) (hE : NoN E) (hI : NoId id E)
    (hb : ∀ s, Sg P lent (flat b) (I s) (B s) I (exitE id J E)) (s : σ) : Sg P lent cs (I s) (loopM B s) J E := by rw [hcs]; exact Sg.loop hE hI hb s
theorem Sg.blockAt {P : Program} {lent : List Blk} {κ X : Type} {K : κ → ASt} {E : X → AE × ASt} {m : Option (κ ⊕ (κ ⊕ X))} {id : Nat} {b : Code} {st : ASt} {cs : List Code} (hcs : cs = [.block id b]) (hE : NoN E) (hI : NoId id E)
    (hb : Sg P lent (flat b) st m K (exitE id K E)) : Sg P lent cs st (joinM m) K E := by rw [hcs]; exact Sg.block hE hI hb
theorem Sg.scopeAt {P : Program} {lent : List Blk} {α X : Type} {N : α → ASt} {E : X → AE × ASt} {m : Option (α ⊕ X)} {b : Code} {st : ASt} {cs : List Code} (hcs : cs = [.scope b]) (hE : NoN E) (hb : Sg P lent (flat b) st m N E) : Sg P lent cs st m N E := by
  rw [hcs]; exact Sg.scope hE hb
theorem Sg.condAt {P : Program} {lent : List Blk} {α X : Type} {N : α → ASt} {E : X → AE × ASt} {m1 m2 : Option (α ⊕ X)} {c : Operand} {A B : Code} {st : ASt} {kn b : Bool} {cs : List Code} (hcs : cs = [.cond c A B]) (hE : NoN E) (hc : evA st.tmps c = .bool kn b)
    (h1 : Sg P lent (flat A) { st with tmps := setKnown st.tmps c true } m1 N E) (h2 : Sg P lent (flat B) { st with tmps := setKnown st.tmps c false } m2 N E) : Sg P lent cs st (bif b then m1 else m2) N E := by rw [hcs]; exact Sg.cond hE hc h1 h2
end Go.Plb

namespace Go.Plb.Seat
open Go Go.Plb
set_option linter.unusedSimpArgs false
set_option linter.unusedVariables false

noncomputable def cl_N : Empty → ASt := fun a => a.elim
noncomputable def cl_E : Unit → AE × ASt := fun _ => (.ret, ⟨slots 8 [(2, .sl 0 1 1 0 0 0)], [(0, .fl [])], 1⟩)
noncomputable def cl_o : Unit → Out := fun _ => ⟨.sl 0 1 1 0 0 0, [some (.fl [])]⟩

theorem cl_true : Contract prog n_slices_Clone [] [.zsl true] ⟨.sl 0 1 1 0 0 0, [some (.fl [])]⟩ :=
  Sg.contract (x := ()) (X := Unit) (N := cl_N) (E := cl_E) (m := some (.inr ())) false cl_o (by kernel_rfl : prog.funcs[n_slices_Clone]? = some (FN n_slices_Clone)) (by kernel_rfl : (FN n_slices_Clone).body = some (BODY n_slices_Clone))
    (Sg.seg (C := C0) C0_ok E0_ok 60 (flat (BODY n_slices_Clone)) (entryOf (FN n_slices_Clone) [] [.zsl true]) (.leaf (.inr ())) cl_N cl_E [⟨[(.slot 2, 1, 1, .fl [], false)], [64], [2]⟩] (by kernel_rfl))
    (fun _ => ⟨.inr rfl, [.sl 0 1 1 0 0 0], [], by kernel_rfl, trivial, by kernel_rfl⟩) rfl

theorem cl_false : Contract prog n_slices_Clone [] [.zsl false] ⟨.sl 0 1 1 0 0 0, [some (.fl [])]⟩ :=
  Contract.run C0_ok E0_ok (some []) 0 60 (p' := some []) (obs := []) (by kernel_rfl) nob

theorem cl_zero (l : Lv) : Contract prog n_slices_Clone [] [.imm l (.fl []) 1 1 0 0] ⟨.sl 0 1 1 0 0 0, [some (.fl [])]⟩ := by
  intro ρ w us hN hv
  cases hv with | cons _ u _ _ h1 h2 =>
  cases h2
  have key : ∀ (a : Option Addr) cap, VRs ρ w [.zsl a.isNone] [.slice a 0 cap] := fun a cap => .cons _ _ _ _ (.zsl a cap) .nil
  have all : ∀ b, Contract prog n_slices_Clone [] [.zsl b] ⟨.sl 0 1 1 0 0 0, [some (.fl [])]⟩ := fun b => by
    cases b
    · exact cl_false
    · exact cl_true
  cases h1 with
  | imm _ _ _ _ _ _ cap bl o u' => exact all _ ρ w _ hN (key _ cap)
  | immEnd _ _ _ _ _ cap a => exact all _ ρ w _ hN (key a cap)

theorem c_Clone (l : Lv) (xs : List Nat) (hl : xs.length ≤ 1000000000) : Contract prog n_slices_Clone [] [.imm l (.fl xs) 1 1 0 xs.length] ⟨.sl 0 1 1 0 xs.length xs.length, [some (.fl xs)]⟩ := by
  rcases Nat.eq_zero_or_pos xs.length with h0 | h0
  · have : xs = [] := List.length_eq_zero_iff.1 h0
    subst this
    exact cl_zero l
  · have h : fnRun C0 E0 (runCode C0 E0 0 60) n_slices_Clone [] [.imm l (.fl xs) 1 1 0 xs.length] (some []) = some (⟨.sl 0 1 1 0 (0 + xs.length) (0 + xs.length), [some (.fl (List.take 0 [] ++ List.take xs.length xs))]⟩,
        [Nat.blt 0 xs.length, leN ((0 + xs.length) * 8) 140737488355328, leN (0 + xs.length) 9223372036854775807, leN xs.length xs.length, leN 0 ([] : List Nat).length], some []) := by kernel_rfl
    have := Contract.run C0_ok E0_ok _ _ _ h (ob (by rw [Nat.blt_eq]; exact h0) <| ob (by simp [leN]; omega) <| ob (by simp [leN]; omega) <| ob (by simp [leN]) <| ob rfl nob)
    simp only [Nat.zero_add, List.take_zero, List.nil_append, List.take_length] at this
    exact this

def lenOk (n : Nat) : Bool := Nat.ble n 1000000000
noncomputable def e_Clone : Entry := autoE n_slices_Clone (.cons .fl .nil) fun t => [⟨⟨.sl 0 1 1 0 t.1.2.length t.1.2.length, [some (.fl t.1.2)]⟩, [lenOk t.1.2.length]⟩]
theorem e_Clone_ok : EntryOk prog e_Clone := autoE_ok fun t => altsCons (fun h => c_Clone t.1.1 t.1.2 (Nat.le_of_ble_eq_true h)) altsNil

noncomputable def L2 : List Entry := e_Clone :: L1
theorem L2_ok : SumsOk prog (sumsOf L2) := sumsOf_cons e_Clone_ok S1_ok
end Go.Plb.Seat

/-
  A NaN's bits are not known: whether they are finite is.
-/
namespace Go.Plb.Seat
open Go Go.Plb
set_option linter.unusedSimpArgs false
set_option linter.unusedVariables false

theorem nan_expo {n : Nat} (h : isNaN n = true) : n / 4503599627370496 % 2048 = 2047 := by
  rw [isNaN_eq, decide_eq_true_eq] at h; omega
theorem expo_int (n : Nat) : Int.tmod (Int.fdiv (n : Int) (2 ^ min (Int.toNat 52) IntKind.u64.bits)) 2048 = ((n / 4503599627370496 % 2048 : Nat) : Int) := by
  have e : (2 ^ min (Int.toNat 52) IntKind.u64.bits : Int) = ((4503599627370496 : Nat) : Int) := by decide
  rw [e, Int.fdiv_eq_ediv_of_nonneg _ (by omega)]; exact Int.tmod_eq_emod_of_nonneg (Int.natCast_nonneg _)

/-- A function of a NaN's bits. -/
theorem Contract.nan {f : FuncId} {g : Nat → Out} {r : Out} (h : ∀ n : Nat, Contract prog f [] [.int .u64 (n : Int)] (g n)) (e : ∀ n : Nat, isNaN n = true → g n = r) : Contract prog f [] [.nan] r := by
  intro ρ w us hN hv
  cases hv with | cons _ u _ _ h1 h2 =>
  cases h2
  cases h1 with | nan n hn =>
  rw [← e n hn]
  exact h n ρ w _ hN (.cons _ _ _ _ (.int _ _) .nil)

theorem c_Finite5 : Contract prog n_ref05_Finite [] [.nan] ⟨.bool false false, []⟩ := by
  refine Contract.nan (g := fun n => ⟨.bool false ((Int.tmod (Int.fdiv (n : Int) (2 ^ min (Int.toNat 52) IntKind.u64.bits)) 2048) != 2047), []⟩) (fun n => ?_) (fun n hn => ?_)
  · have h : fnRun C0 E0 (runCode C0 E0 0 50) n_ref05_Finite [] [.int .u64 n] (some []) = some (⟨.bool false ((Int.tmod (Int.fdiv (n : Int) (2 ^ min (Int.toNat 52) IntKind.u64.bits)) 2048) != 2047), []⟩, [(decide ((0 : Int) ≤ 52)), ((2048 : Int) != 0)], some []) := by kernel_rfl
    exact Contract.run C0_ok E0_ok _ _ _ h ⟨rfl, rfl, trivial⟩
  · simp only [expo_int, nan_expo hn]; rfl
theorem c_Finite5k : Contract prog n_ref05_Finite [] [.nan] ⟨.bool true false, []⟩ := c_Finite5.weak (bool_loose _ _ _)

def e_Finite5 : Entry := ⟨n_ref05_Finite, fun L args => match L, args with | [], [.nan] => one (.bool true false) [] | _, _ => none⟩
theorem e_Finite5_ok : EntryOk prog e_Finite5 := by
  intro L args alts a h ha ho
  simp only [e_Finite5] at h
  split at h
  · exact entry_one h ha ho fun q => c_Finite5k
  · cases h

noncomputable def L3 : List Entry := e_Finite5 :: L2
theorem L3_ok : SumsOk prog (sumsOf L3) := sumsOf_cons e_Finite5_ok L2_ok
end Go.Plb.Seat

namespace Go.Plb.Seat
open Go Go.Plb
set_option linter.unusedSimpArgs false
set_option linter.unusedVariables false

def okB : Option (Out × List Bool × Path) → Bool
  | some (⟨.bool _ true, []⟩, o, _) => allB o
  | _ => false

theorem okB_spec {r : Option (Out × List Bool × Path)} (h : okB r = true) : ∃ k o p, r = some (⟨.bool k true, []⟩, o, p) ∧ allTrue o := by
  unfold okB at h
  split at h
  · exact ⟨_, _, _, rfl, allB_true h⟩
  · cases h

theorem known_run : okB (fnRun C0 E0 (runCode C0 E0 50 100) n_law10_known [] [] none) = true := by kernel_rfl

theorem c_known : Contract prog n_law10_known [] [] ⟨.bool false true, []⟩ := by
  obtain ⟨k, o, p, h, ho⟩ := okB_spec known_run
  exact (Contract.run C0_ok E0_ok none _ _ h ho).weak (bool_loose _ _ _)

def e_known : Entry := ⟨n_law10_known, fun L args => match L, args with | [], [] => one (.bool false true) [] | _, _ => none⟩
theorem e_known_ok : EntryOk prog e_known := by
  intro L args alts a h ha ho
  simp only [e_known] at h
  split at h
  · exact entry_one h ha ho fun q => c_known
  · cases h

noncomputable def L10 : List Entry := e_known :: L3
theorem L10_ok : SumsOk prog (sumsOf L10) := sumsOf_cons e_known_ok L3_ok
end Go.Plb.Seat

namespace Go.Plb.Seat
open Go Go.Plb
set_option linter.unusedVariables false
set_option maxRecDepth 100000
noncomputable section

inductive tridiag_May_X where
  | r0 (b2 : Bool)
def tridiag_May_E : tridiag_May_X → AE × ASt
  | .r0 b2 => (.ret, ⟨slots 18 [(2, .bool false b2)], [], 0⟩)
theorem tridiag_May_hN : NoN tridiag_May_E := by intro x; cases x <;> (intro h; cases h)
theorem tridiag_May_hI (id : Nat) : NoId id tridiag_May_E := by intro x; cases x <;> (intro h; cases h)
def tridiag_May_o : tridiag_May_X → Out
  | .r0 b2 => ⟨.bool false b2, []⟩
noncomputable def tridiag_May_l2 : List Code := flat (BODY n_tridiag_May)
def tridiag_May_n1 (b1 : Bool) : ASt := ⟨slots 18 [(2, .bool false b1)], [], 0⟩
def tridiag_May_t3 (t_1 : List Nat) (t_3 : List Nat) : T ((Bool) ⊕ (tridiag_May_X)) :=
  .ask (decide ((((List.length t_1) : Nat) : Int) ≤ (512 : Int)))
    (.need (inK .i64 ((((List.length t_1) : Nat) : Int) - (1 : Int))) <| .leaf (.inl ((((List.length t_3) : Nat) : Int) == (imax ((((List.length t_1) : Nat) : Int) - (1 : Int)) (0 : Int)))))
    (.leaf (.inl false))
def tridiag_May_t4 (b1 : Bool) : T ((Empty) ⊕ (tridiag_May_X)) :=
  .leaf (.inr (.r0 b1))
noncomputable def tridiag_May_F (t_1 : List Nat) (t_3 : List Nat) : Option tridiag_May_X := toX (seqM ((tridiag_May_t3 t_1 t_3).run) fun b1 =>
  (tridiag_May_t4 b1).run)
theorem tridiag_May_ok (v_0 : Lv) (t_1 : List Nat) (v_2 : Lv) (t_3 : List Nat) {x : tridiag_May_X} (h : tridiag_May_F t_1 t_3 = some x) : Contract prog n_tridiag_May [] [.agg [.imm v_0 (.fl t_1) 1 1 0 (List.length t_1), .imm v_2 (.fl t_3) 1 1 0 (List.length t_3)]] (tridiag_May_o x) :=
  Sg.contract false tridiag_May_o (by kernel_rfl : prog.funcs[n_tridiag_May]? = some (FN n_tridiag_May)) (by kernel_rfl : (FN n_tridiag_May).body = some (BODY n_tridiag_May)) (Sg.cut 2 tridiag_May_hN (Sg.seg (C := C0) C0_ok L10_ok 60 (tridiag_May_l2.take 2) (entryOf (FN n_tridiag_May) [] [.agg [.imm v_0 (.fl t_1) 1 1 0 (List.length t_1), .imm v_2 (.fl t_3) 1 1 0 (List.length t_3)]]) (tridiag_May_t3 t_1 t_3) tridiag_May_n1 tridiag_May_E [⟨[], [], [2]⟩, ⟨[], [], [2]⟩] (by kernel_rfl)) (fun b1 => by exact Sg.seg (C := C0) C0_ok L10_ok 60 (tridiag_May_l2.drop 2) (tridiag_May_n1 b1) (tridiag_May_t4 b1) (fun a : Empty => a.elim) tridiag_May_E [⟨[], [], [2]⟩] (by kernel_rfl)))
    (fun x => by cases x with | r0 b2 => exact ⟨.inr rfl, [.bool false b2], [], by kernel_rfl, trivial, by kernel_rfl⟩) h

def tridiag_May_i0 : Option tridiag_May_X → Bool
  | some _ => true
  | none => false
def tridiag_May_p0_0 : Option tridiag_May_X → Bool
  | some (.r0 x) => x
  | _ => false
theorem tridiag_May_e0 {x : Option tridiag_May_X} (h : tridiag_May_i0 x = true) : x = some (.r0 (tridiag_May_p0_0 x)) := by
  unfold tridiag_May_i0 at h
  split at h <;> first | rfl | (cases h; done) | (rename_i y; cases y; rfl)
noncomputable def e_tridiag_May : Entry := autoE n_tridiag_May (.cons (.agg (.cons .fl (.cons .fl .nil))) .nil) fun t => [⟨tridiag_May_o (.r0 (tridiag_May_p0_0 (tridiag_May_F t.1.1.2 t.1.2.1.2))), [tridiag_May_i0 (tridiag_May_F t.1.1.2 t.1.2.1.2)]⟩]
theorem e_tridiag_May_ok : EntryOk prog e_tridiag_May := autoE_ok fun t => (altsCons (fun h => tridiag_May_ok t.1.1.1 t.1.1.2 t.1.2.1.1 t.1.2.1.2 (tridiag_May_e0 h)) altsNil)
noncomputable def L_tridiag_May : List Entry := e_tridiag_May :: L10
theorem L_tridiag_May_ok : SumsOk prog (sumsOf L_tridiag_May) := sumsOf_cons e_tridiag_May_ok L10_ok

inductive tridiag_Full_X where
  | r0
  | r1 (a10 : Nat) (a11 : Nat) (l12 : List Nat)
def tridiag_Full_E : tridiag_Full_X → AE × ASt
  | .r0 => (.ret, ⟨slots 72 [(2, .ptr 0 1 0 0), (3, .int .i64 (2 : Int))], [(0, .vs [.int .i64 (0 : Int), .int .i64 (0 : Int), .nsl])], 1⟩)
  | .r1 a10 a11 l12 => (.ret, ⟨slots 72 [(2, .ptr 0 1 0 0), (3, .int .i64 (0 : Int))], [(0, .vs [.int .i64 ((a10 : Nat) : Int), .int .i64 ((a10 : Nat) : Int), .sl 1 1 1 0 a11 a11]), (1, .fl l12)], 2⟩)
theorem tridiag_Full_hN : NoN tridiag_Full_E := by intro x; cases x <;> (intro h; cases h)
theorem tridiag_Full_hI (id : Nat) : NoId id tridiag_Full_E := by intro x; cases x <;> (intro h; cases h)
def tridiag_Full_o : tridiag_Full_X → Out
  | .r0 => ⟨.tup [.agg [.int .i64 (0 : Int), .int .i64 (0 : Int), .nsl], .int .i64 (2 : Int)], []⟩
  | .r1 a10 a11 l12 => ⟨.tup [.agg [.int .i64 ((a10 : Nat) : Int), .int .i64 ((a10 : Nat) : Int), .sl 0 1 1 0 a11 a11], .int .i64 (0 : Int)], [some (.fl l12)]⟩
noncomputable def tridiag_Full_l12 : List Code := flat (BODY n_tridiag_Full)
def tridiag_Full_n1 (v_0 : Lv) (t_1 : List Nat) (v_2 : Lv) (t_3 : List Nat) (b1 : Bool) : ASt := ⟨slots 72 [(1, .ptr 0 1 0 0), (2, .ptr 1 1 0 0), (12, .bool false b1)], [(0, .vs [.imm v_0 (.fl t_1) 1 1 0 (List.length t_1), .imm v_2 (.fl t_3) 1 1 0 (List.length t_3)]), (1, .vs [.int .i64 (0 : Int), .int .i64 (0 : Int), .nsl])], 2⟩
def tridiag_Full_t13 (t_1 : List Nat) (t_3 : List Nat) : T ((Bool) ⊕ (tridiag_Full_X)) :=
  .need (slOk 0 (List.length t_1) t_1) <| .need (slOk 0 (List.length t_3) t_3) <| .need (tridiag_May_i0 (tridiag_May_F (cutL 0 (List.length t_1) t_1) (cutL 0 (List.length t_3) t_3))) <| .leaf (.inl (!(tridiag_May_p0_0 (tridiag_May_F (cutL 0 (List.length t_1) t_1) (cutL 0 (List.length t_3) t_3)))))
def tridiag_Full_n2 (v_0 : Lv) (t_1 : List Nat) (v_2 : Lv) (t_3 : List Nat) : Nat × (List Nat) → ASt := fun (a2, l3) => ⟨slots 72 [(1, .ptr 0 1 0 0), (2, .ptr 1 1 0 0), (4, .int .i64 (((List.length t_1) : Nat) : Int)), (5, .ptr 2 1 0 0), (25, .imm v_0 (.fl t_1) 1 1 0 (List.length t_1)), (26, .int .i64 (((List.length t_1) : Nat) : Int)), (27, .int .i64 (0 : Int))], [(0, .vs [.imm v_0 (.fl t_1) 1 1 0 (List.length t_1), .imm v_2 (.fl t_3) 1 1 0 (List.length t_3)]), (1, .vs [.int .i64 (0 : Int), .int .i64 (0 : Int), .nsl]), (2, .vs [.int .i64 (((List.length t_1) : Nat) : Int), .int .i64 (((List.length t_1) : Nat) : Int), .sl 3 1 1 0 a2 a2]), (3, .fl l3)], 4⟩
def tridiag_Full_t14 (t_1 : List Nat) (b1 : Bool) : T ((Nat × (List Nat)) ⊕ (tridiag_Full_X)) :=
  .ask b1
    (.leaf (.inr (.r0)))
    (.need (inK .i64 ((((List.length t_1) * (List.length t_1)) : Nat) : Int)) <| .need (decide ((0 : Int) ≤ ((((List.length t_1) * (List.length t_1)) : Nat) : Int))) <| .need (decide (((((List.length t_1) * (List.length t_1)) : Nat) : Int) ≤ ((((List.length t_1) * (List.length t_1)) : Nat) : Int))) <| .need (decide ((8 : Int) * ((((List.length t_1) * (List.length t_1)) : Nat) : Int) ≤ 140737488355328)) <| .need (inK .i64 ((((List.length t_1) * (List.length t_1)) : Nat) : Int)) <| .leaf (.inl (((List.length t_1) * (List.length t_1)), (List.replicate ((List.length t_1) * (List.length t_1)) 0))))
def tridiag_Full_n4 (v_0 : Lv) (t_1 : List Nat) (v_2 : Lv) (t_3 : List Nat) (a2 : Nat) : Nat × (List Nat) → ASt := fun (a4, l5) => ⟨slots 72 [(1, .ptr 0 1 0 0), (2, .ptr 1 1 0 0), (4, .int .i64 (((List.length t_1) : Nat) : Int)), (5, .ptr 2 1 0 0), (25, .imm v_0 (.fl t_1) 1 1 0 (List.length t_1)), (26, .int .i64 (((List.length t_1) : Nat) : Int)), (27, .int .i64 ((a4 : Nat) : Int))], [(0, .vs [.imm v_0 (.fl t_1) 1 1 0 (List.length t_1), .imm v_2 (.fl t_3) 1 1 0 (List.length t_3)]), (1, .vs [.int .i64 (0 : Int), .int .i64 (0 : Int), .nsl]), (2, .vs [.int .i64 (((List.length t_1) : Nat) : Int), .int .i64 (((List.length t_1) : Nat) : Int), .sl 3 1 1 0 a2 a2]), (3, .fl l5)], 4⟩
def tridiag_Full_n5 (v_0 : Lv) (t_1 : List Nat) (v_2 : Lv) (t_3 : List Nat) (a2 : Nat) (l6 : (List Nat)) : ASt := ⟨slots 72 [(1, .ptr 0 1 0 0), (2, .ptr 1 1 0 0), (4, .int .i64 (((List.length t_1) : Nat) : Int)), (5, .ptr 2 1 0 0)], [(0, .vs [.imm v_0 (.fl t_1) 1 1 0 (List.length t_1), .imm v_2 (.fl t_3) 1 1 0 (List.length t_3)]), (1, .vs [.int .i64 (0 : Int), .int .i64 (0 : Int), .nsl]), (2, .vs [.int .i64 (((List.length t_1) : Nat) : Int), .int .i64 (((List.length t_1) : Nat) : Int), .sl 3 1 1 0 a2 a2]), (3, .fl l6)], 4⟩
noncomputable def tridiag_Full_l15 : List Code := flat (inLoop (((((tridiag_Full_l12.drop 2).drop 4).take 1)).headD .skip))
def tridiag_Full_t16 (t_1 : List Nat) (a2 : Nat) (a4 : Nat) (l5 : List Nat) : T ((Nat × (List Nat)) ⊕ (((List Nat)) ⊕ (tridiag_Full_X))) :=
  .ask (decide (((a4 : Nat) : Int) < (((List.length t_1) : Nat) : Int)))
    (.need (inB ((a4 : Nat) : Int) (List.length t_1)) <| .need (ltB a4 (List.length t_1)) <| .need (inK .i64 (((a4 * (List.length t_1)) : Nat) : Int)) <| .need (inK .i64 ((((a4 * (List.length t_1)) + a4) : Nat) : Int)) <| .need (inB ((((a4 * (List.length t_1)) + a4) : Nat) : Int) a2) <| .need (ltB ((a4 * (List.length t_1)) + a4) (List.length l5)) <| .need (inK .i64 (((a4 + 1) : Nat) : Int)) <| .leaf (.inl ((a4 + 1), (List.set l5 ((a4 * (List.length t_1)) + a4) (List.getD t_1 a4 0)))))
    (.leaf (.inr (.inl l5)))
noncomputable def tridiag_Full_m17 (t_1 : List Nat) (a2 : Nat) : Nat × (List Nat) → Option ((Nat × (List Nat)) ⊕ (((List Nat)) ⊕ (tridiag_Full_X))) := fun (a4, l5) =>
  (tridiag_Full_t16 t_1 a2 a4 l5).run
theorem tridiag_Full_s17 (v_0 : Lv) (t_1 : List Nat) (v_2 : Lv) (t_3 : List Nat) (a2 : Nat) (a4 : Nat) (l5 : List Nat) : Sg prog [] tridiag_Full_l15 (tridiag_Full_n4 v_0 t_1 v_2 t_3 a2 (a4, l5)) (tridiag_Full_m17 t_1 a2 (a4, l5)) (tridiag_Full_n4 v_0 t_1 v_2 t_3 a2) (exitE 0 (tridiag_Full_n5 v_0 t_1 v_2 t_3 a2) tridiag_Full_E) := by
  unfold tridiag_Full_m17; exact Sg.seg (C := C0) C0_ok L_tridiag_May_ok 60 tridiag_Full_l15 (tridiag_Full_n4 v_0 t_1 v_2 t_3 a2 (a4, l5)) (tridiag_Full_t16 t_1 a2 a4 l5) (tridiag_Full_n4 v_0 t_1 v_2 t_3 a2) (exitE 0 (tridiag_Full_n5 v_0 t_1 v_2 t_3 a2) tridiag_Full_E) [⟨[], [0, 1, 2, 3], [1, 2, 4, 5, 25, 26, 27]⟩, ⟨[], [0, 1, 2, 3], [1, 2, 4, 5]⟩] (by kernel_rfl)
def tridiag_Full_n6 (v_0 : Lv) (t_1 : List Nat) (v_2 : Lv) (t_3 : List Nat) (a2 : Nat) : (List Nat) → ASt := tridiag_Full_n5 v_0 t_1 v_2 t_3 a2
def tridiag_Full_n7 (t_1 : List Nat) (v_2 : Lv) (t_3 : List Nat) (a2 : Nat) (l6 : List Nat) (_ : Unit) : ASt := ⟨slots 72 [(2, .ptr 0 1 0 0), (4, .int .i64 (((List.length t_1) : Nat) : Int)), (5, .ptr 1 1 0 0), (43, .imm v_2 (.fl t_3) 1 1 0 (List.length t_3)), (44, .int .i64 (((List.length t_3) : Nat) : Int)), (45, .int .i64 (0 : Int))], [(0, .vs [.int .i64 (0 : Int), .int .i64 (0 : Int), .nsl]), (1, .vs [.int .i64 (((List.length t_1) : Nat) : Int), .int .i64 (((List.length t_1) : Nat) : Int), .sl 2 1 1 0 a2 a2]), (2, .fl l6)], 3⟩
def tridiag_Full_t18 : T ((Unit) ⊕ (tridiag_Full_X)) :=
  .leaf (.inl ())
def tridiag_Full_n9 (t_1 : List Nat) (v_2 : Lv) (t_3 : List Nat) (a2 : Nat) : Nat × (List Nat) → ASt := fun (a7, l8) => ⟨slots 72 [(2, .ptr 0 1 0 0), (4, .int .i64 (((List.length t_1) : Nat) : Int)), (5, .ptr 1 1 0 0), (43, .imm v_2 (.fl t_3) 1 1 0 (List.length t_3)), (44, .int .i64 (((List.length t_3) : Nat) : Int)), (45, .int .i64 ((a7 : Nat) : Int))], [(0, .vs [.int .i64 (0 : Int), .int .i64 (0 : Int), .nsl]), (1, .vs [.int .i64 (((List.length t_1) : Nat) : Int), .int .i64 (((List.length t_1) : Nat) : Int), .sl 2 1 1 0 a2 a2]), (2, .fl l8)], 3⟩
def tridiag_Full_n10 (t_1 : List Nat) (a2 : Nat) (l9 : (List Nat)) : ASt := ⟨slots 72 [(2, .ptr 0 1 0 0), (5, .ptr 1 1 0 0)], [(0, .vs [.int .i64 (0 : Int), .int .i64 (0 : Int), .nsl]), (1, .vs [.int .i64 (((List.length t_1) : Nat) : Int), .int .i64 (((List.length t_1) : Nat) : Int), .sl 2 1 1 0 a2 a2]), (2, .fl l9)], 3⟩
noncomputable def tridiag_Full_l19 : List Code := flat (inLoop (((((((tridiag_Full_l12.drop 2).drop 4).drop 1).drop 1).take 1)).headD .skip))
def tridiag_Full_t20 (t_1 : List Nat) (t_3 : List Nat) (a2 : Nat) (a7 : Nat) (l8 : List Nat) : T ((Nat × (List Nat)) ⊕ (((List Nat)) ⊕ (tridiag_Full_X))) :=
  .ask (decide (((a7 : Nat) : Int) < (((List.length t_3) : Nat) : Int)))
    (.need (inB ((a7 : Nat) : Int) (List.length t_3)) <| .need (ltB a7 (List.length t_3)) <| .need (inK .i64 (((a7 * (List.length t_1)) : Nat) : Int)) <| .need (inK .i64 ((((a7 * (List.length t_1)) + a7) : Nat) : Int)) <| .need (inK .i64 (((((a7 * (List.length t_1)) + a7) + 1) : Nat) : Int)) <| .need (inK .i64 (((a7 + 1) : Nat) : Int)) <| .need (inK .i64 ((((a7 + 1) * (List.length t_1)) : Nat) : Int)) <| .need (inK .i64 (((((a7 + 1) * (List.length t_1)) + a7) : Nat) : Int)) <| .need (inB (((((a7 * (List.length t_1)) + a7) + 1) : Nat) : Int) a2) <| .need (ltB (((a7 * (List.length t_1)) + a7) + 1) (List.length l8)) <| .need (inB (((((a7 + 1) * (List.length t_1)) + a7) : Nat) : Int) a2) <| .need (ltB (((a7 + 1) * (List.length t_1)) + a7) (List.length (List.set l8 (((a7 * (List.length t_1)) + a7) + 1) (List.getD t_3 a7 0)))) <| .need (inK .i64 (((a7 + 1) : Nat) : Int)) <| .leaf (.inl ((a7 + 1), (List.set (List.set l8 (((a7 * (List.length t_1)) + a7) + 1) (List.getD t_3 a7 0)) (((a7 + 1) * (List.length t_1)) + a7) (List.getD t_3 a7 0)))))
    (.leaf (.inr (.inl l8)))
noncomputable def tridiag_Full_m21 (t_1 : List Nat) (t_3 : List Nat) (a2 : Nat) : Nat × (List Nat) → Option ((Nat × (List Nat)) ⊕ (((List Nat)) ⊕ (tridiag_Full_X))) := fun (a7, l8) =>
  (tridiag_Full_t20 t_1 t_3 a2 a7 l8).run
theorem tridiag_Full_s21 (t_1 : List Nat) (v_2 : Lv) (t_3 : List Nat) (a2 : Nat) (a7 : Nat) (l8 : List Nat) : Sg prog [] tridiag_Full_l19 (tridiag_Full_n9 t_1 v_2 t_3 a2 (a7, l8)) (tridiag_Full_m21 t_1 t_3 a2 (a7, l8)) (tridiag_Full_n9 t_1 v_2 t_3 a2) (exitE 2 (tridiag_Full_n10 t_1 a2) tridiag_Full_E) := by
  unfold tridiag_Full_m21; exact Sg.seg (C := C0) C0_ok L_tridiag_May_ok 60 tridiag_Full_l19 (tridiag_Full_n9 t_1 v_2 t_3 a2 (a7, l8)) (tridiag_Full_t20 t_1 t_3 a2 a7 l8) (tridiag_Full_n9 t_1 v_2 t_3 a2) (exitE 2 (tridiag_Full_n10 t_1 a2) tridiag_Full_E) [⟨[], [0, 1, 2], [2, 4, 5, 43, 44, 45]⟩, ⟨[], [0, 1, 2], [2, 5]⟩] (by kernel_rfl)
def tridiag_Full_n11 (t_1 : List Nat) (a2 : Nat) : (List Nat) → ASt := tridiag_Full_n10 t_1 a2
def tridiag_Full_t22 (t_1 : List Nat) (a2 : Nat) (l9 : List Nat) : T ((Empty) ⊕ (tridiag_Full_X)) :=
  .leaf (.inr (.r1 (List.length t_1) a2 l9))
noncomputable def tridiag_Full_F (t_1 : List Nat) (t_3 : List Nat) : Option tridiag_Full_X := toX (seqM ((tridiag_Full_t13 t_1 t_3).run) fun b1 =>
  seqM ((tridiag_Full_t14 t_1 b1).run) fun (a2, l3) =>
  seqM (loopM (tridiag_Full_m17 t_1 a2) (0, l3)) fun l6 =>
  seqM ((tridiag_Full_t18).run) fun _ =>
  seqM (loopM (tridiag_Full_m21 t_1 t_3 a2) (0, l6)) fun l9 =>
  (tridiag_Full_t22 t_1 a2 l9).run)
theorem tridiag_Full_ok (v_0 : Lv) (t_1 : List Nat) (v_2 : Lv) (t_3 : List Nat) {x : tridiag_Full_X} (h : tridiag_Full_F t_1 t_3 = some x) : Contract prog n_tridiag_Full [] [.agg [.imm v_0 (.fl t_1) 1 1 0 (List.length t_1), .imm v_2 (.fl t_3) 1 1 0 (List.length t_3)]] (tridiag_Full_o x) :=
  Sg.contract false tridiag_Full_o (by kernel_rfl : prog.funcs[n_tridiag_Full]? = some (FN n_tridiag_Full)) (by kernel_rfl : (FN n_tridiag_Full).body = some (BODY n_tridiag_Full)) (Sg.cut 2 tridiag_Full_hN (Sg.seg (C := C0) C0_ok L_tridiag_May_ok 60 (tridiag_Full_l12.take 2) (entryOf (FN n_tridiag_Full) [] [.agg [.imm v_0 (.fl t_1) 1 1 0 (List.length t_1), .imm v_2 (.fl t_3) 1 1 0 (List.length t_3)]]) (tridiag_Full_t13 t_1 t_3) (tridiag_Full_n1 v_0 t_1 v_2 t_3) tridiag_Full_E [⟨[], [0, 16], [1, 2, 12]⟩] (by kernel_rfl)) (fun b1 => by exact Sg.cut 4 tridiag_Full_hN (Sg.seg (C := C0) C0_ok L_tridiag_May_ok 60 ((tridiag_Full_l12.drop 2).take 4) (tridiag_Full_n1 v_0 t_1 v_2 t_3 b1) (tridiag_Full_t14 t_1 b1) (tridiag_Full_n2 v_0 t_1 v_2 t_3) tridiag_Full_E [⟨[], [1], [2, 3]⟩, ⟨[], [0, 1, 178, 146], [1, 2, 4, 5, 25, 26, 27]⟩] (by kernel_rfl)) (fun a => by obtain ⟨a2, l3⟩ := a; exact Sg.cut 1 tridiag_Full_hN (Sg.pre ⟨[], [0, 1, 2, 3], [1, 2, 4, 5, 25, 26, 27]⟩ rfl (by kernel_rfl : NS.on ⟨[], [0, 1, 2, 3], [1, 2, 4, 5, 25, 26, 27]⟩ (tridiag_Full_n2 v_0 t_1 v_2 t_3 (a2, l3)) = (tridiag_Full_n4 v_0 t_1 v_2 t_3 a2) (0, l3)) (Sg.loopAt (I := (tridiag_Full_n4 v_0 t_1 v_2 t_3 a2)) (J := (tridiag_Full_n5 v_0 t_1 v_2 t_3 a2)) (id := 0) (by kernel_rfl : (((tridiag_Full_l12.drop 2).drop 4).take 1) = [.block 0 (.loop (inLoop (((((tridiag_Full_l12.drop 2).drop 4).take 1)).headD .skip)))]) tridiag_Full_hN (tridiag_Full_hI _) (fun s => by obtain ⟨a4, l5⟩ := s; exact tridiag_Full_s17 v_0 t_1 v_2 t_3 a2 a4 l5) (0, l3))) (fun l6 => by exact Sg.cut 1 tridiag_Full_hN (Sg.seg (C := C0) C0_ok L_tridiag_May_ok 60 ((((tridiag_Full_l12.drop 2).drop 4).drop 1).take 1) (tridiag_Full_n6 v_0 t_1 v_2 t_3 a2 l6) (tridiag_Full_t18) (tridiag_Full_n7 t_1 v_2 t_3 a2 l6) tridiag_Full_E [⟨[], [1, 2, 3], [2, 4, 5, 43, 44, 45]⟩] (by kernel_rfl)) (fun a => by cases a; exact Sg.cut 1 tridiag_Full_hN (Sg.pre ⟨[], [0, 1, 2], [2, 4, 5, 43, 44, 45]⟩ rfl (by kernel_rfl : NS.on ⟨[], [0, 1, 2], [2, 4, 5, 43, 44, 45]⟩ (tridiag_Full_n7 t_1 v_2 t_3 a2 l6 ()) = (tridiag_Full_n9 t_1 v_2 t_3 a2) (0, l6)) (Sg.loopAt (I := (tridiag_Full_n9 t_1 v_2 t_3 a2)) (J := (tridiag_Full_n10 t_1 a2)) (id := 2) (by kernel_rfl : (((((tridiag_Full_l12.drop 2).drop 4).drop 1).drop 1).take 1) = [.block 2 (.loop (inLoop (((((((tridiag_Full_l12.drop 2).drop 4).drop 1).drop 1).take 1)).headD .skip)))]) tridiag_Full_hN (tridiag_Full_hI _) (fun s => by obtain ⟨a7, l8⟩ := s; exact tridiag_Full_s21 t_1 v_2 t_3 a2 a7 l8) (0, l6))) (fun l9 => by exact Sg.seg (C := C0) C0_ok L_tridiag_May_ok 60 (((((tridiag_Full_l12.drop 2).drop 4).drop 1).drop 1).drop 1) (tridiag_Full_n11 t_1 a2 l9) (tridiag_Full_t22 t_1 a2 l9) (fun a : Empty => a.elim) tridiag_Full_E [⟨[], [0, 2], [2, 3]⟩] (by kernel_rfl)))))))
    (fun x => by cases x with | r0 => exact ⟨.inr rfl, [.agg [.int .i64 (0 : Int), .int .i64 (0 : Int), .nsl], .int .i64 (2 : Int)], [], by kernel_rfl, trivial, by kernel_rfl⟩ | r1 a10 a11 l12 => exact ⟨.inr rfl, [.agg [.int .i64 ((a10 : Nat) : Int), .int .i64 ((a10 : Nat) : Int), .sl 1 1 1 0 a11 a11], .int .i64 (0 : Int)], [], by kernel_rfl, trivial, by kernel_rfl⟩) h

def tridiag_Full_i0 : Option tridiag_Full_X → Bool
  | some (.r0) => true
  | _ => false
theorem tridiag_Full_e0 {x : Option tridiag_Full_X} (h : tridiag_Full_i0 x = true) : x = some (.r0) := by
  unfold tridiag_Full_i0 at h
  split at h <;> first | rfl | (cases h; done) | (rename_i y; cases y; rfl)
def tridiag_Full_i1 : Option tridiag_Full_X → Bool
  | some (.r1 _ _ _) => true
  | _ => false
def tridiag_Full_p1_0 : Option tridiag_Full_X → Nat
  | some (.r1 x _ _) => x
  | _ => 0
def tridiag_Full_p1_1 : Option tridiag_Full_X → Nat
  | some (.r1 _ x _) => x
  | _ => 0
def tridiag_Full_p1_2 : Option tridiag_Full_X → List Nat
  | some (.r1 _ _ x) => x
  | _ => []
theorem tridiag_Full_e1 {x : Option tridiag_Full_X} (h : tridiag_Full_i1 x = true) : x = some (.r1 (tridiag_Full_p1_0 x) (tridiag_Full_p1_1 x) (tridiag_Full_p1_2 x)) := by
  unfold tridiag_Full_i1 at h
  split at h <;> first | rfl | (cases h; done) | (rename_i y; cases y; rfl)
noncomputable def e_tridiag_Full : Entry := autoE n_tridiag_Full (.cons (.agg (.cons .fl (.cons .fl .nil))) .nil) fun t => [⟨tridiag_Full_o (.r0), [tridiag_Full_i0 (tridiag_Full_F t.1.1.2 t.1.2.1.2)]⟩, ⟨tridiag_Full_o (.r1 (tridiag_Full_p1_0 (tridiag_Full_F t.1.1.2 t.1.2.1.2)) (tridiag_Full_p1_1 (tridiag_Full_F t.1.1.2 t.1.2.1.2)) (tridiag_Full_p1_2 (tridiag_Full_F t.1.1.2 t.1.2.1.2))), [tridiag_Full_i1 (tridiag_Full_F t.1.1.2 t.1.2.1.2)]⟩]
theorem e_tridiag_Full_ok : EntryOk prog e_tridiag_Full := autoE_ok fun t => (altsCons (fun h => tridiag_Full_ok t.1.1.1 t.1.1.2 t.1.2.1.1 t.1.2.1.2 (tridiag_Full_e0 h)) (altsCons (fun h => tridiag_Full_ok t.1.1.1 t.1.1.2 t.1.2.1.1 t.1.2.1.2 (tridiag_Full_e1 h)) altsNil))
noncomputable def L_tridiag_Full : List Entry := e_tridiag_Full :: L_tridiag_May
theorem L_tridiag_Full_ok : SumsOk prog (sumsOf L_tridiag_Full) := sumsOf_cons e_tridiag_Full_ok L_tridiag_May_ok

inductive ref10_May_X where
  | r0 (b2 : Bool)
def ref10_May_E : ref10_May_X → AE × ASt
  | .r0 b2 => (.ret, ⟨slots 31 [(2, .bool false b2)], [], 0⟩)
theorem ref10_May_hN : NoN ref10_May_E := by intro x; cases x <;> (intro h; cases h)
theorem ref10_May_hI (id : Nat) : NoId id ref10_May_E := by intro x; cases x <;> (intro h; cases h)
def ref10_May_o : ref10_May_X → Out
  | .r0 b2 => ⟨.bool false b2, []⟩
noncomputable def ref10_May_l2 : List Code := flat (BODY n_ref10_May)
def ref10_May_n1 (b1 : Bool) : ASt := ⟨slots 31 [(2, .bool false b1)], [], 0⟩
def ref10_May_t3 (t_1 : List Nat) (t_3 : List Nat) : T ((Bool) ⊕ (ref10_May_X)) :=
  .ask (decide ((((List.length t_1) : Nat) : Int) ≤ (512 : Int)))
    (.ask ((((List.length t_1) : Nat) : Int) == (0 : Int))
      (.ask ((((List.length t_3) : Nat) : Int) == (0 : Int))
        (.leaf (.inl true))
        (.ask (decide ((((List.length t_1) : Nat) : Int) > (0 : Int)))
          (.need (inK .i64 ((((List.length t_1) : Nat) : Int) - (1 : Int))) <| .leaf (.inl ((((List.length t_3) : Nat) : Int) == ((((List.length t_1) : Nat) : Int) - (1 : Int)))))
          (.leaf (.inl false))))
      (.ask (decide ((((List.length t_1) : Nat) : Int) > (0 : Int)))
        (.need (inK .i64 ((((List.length t_1) : Nat) : Int) - (1 : Int))) <| .leaf (.inl ((((List.length t_3) : Nat) : Int) == ((((List.length t_1) : Nat) : Int) - (1 : Int)))))
        (.leaf (.inl false))))
    (.leaf (.inl false))
def ref10_May_t4 (b1 : Bool) : T ((Empty) ⊕ (ref10_May_X)) :=
  .leaf (.inr (.r0 b1))
noncomputable def ref10_May_F (t_1 : List Nat) (t_3 : List Nat) : Option ref10_May_X := toX (seqM ((ref10_May_t3 t_1 t_3).run) fun b1 =>
  (ref10_May_t4 b1).run)
theorem ref10_May_ok (v_0 : Lv) (t_1 : List Nat) (v_2 : Lv) (t_3 : List Nat) {x : ref10_May_X} (h : ref10_May_F t_1 t_3 = some x) : Contract prog n_ref10_May [] [.agg [.imm v_0 (.fl t_1) 1 1 0 (List.length t_1), .imm v_2 (.fl t_3) 1 1 0 (List.length t_3)]] (ref10_May_o x) :=
  Sg.contract false ref10_May_o (by kernel_rfl : prog.funcs[n_ref10_May]? = some (FN n_ref10_May)) (by kernel_rfl : (FN n_ref10_May).body = some (BODY n_ref10_May)) (Sg.cut 3 ref10_May_hN (Sg.seg (C := C0) C0_ok L_tridiag_Full_ok 60 (ref10_May_l2.take 3) (entryOf (FN n_ref10_May) [] [.agg [.imm v_0 (.fl t_1) 1 1 0 (List.length t_1), .imm v_2 (.fl t_3) 1 1 0 (List.length t_3)]]) (ref10_May_t3 t_1 t_3) ref10_May_n1 ref10_May_E [⟨[], [], [2]⟩, ⟨[], [], [2]⟩, ⟨[], [], [2]⟩, ⟨[], [], [2]⟩, ⟨[], [], [2]⟩, ⟨[], [], [2]⟩] (by kernel_rfl)) (fun b1 => by exact Sg.seg (C := C0) C0_ok L_tridiag_Full_ok 60 (ref10_May_l2.drop 3) (ref10_May_n1 b1) (ref10_May_t4 b1) (fun a : Empty => a.elim) ref10_May_E [⟨[], [], [2]⟩] (by kernel_rfl)))
    (fun x => by cases x with | r0 b2 => exact ⟨.inr rfl, [.bool false b2], [], by kernel_rfl, trivial, by kernel_rfl⟩) h

def ref10_May_i0 : Option ref10_May_X → Bool
  | some _ => true
  | none => false
def ref10_May_p0_0 : Option ref10_May_X → Bool
  | some (.r0 x) => x
  | _ => false
theorem ref10_May_e0 {x : Option ref10_May_X} (h : ref10_May_i0 x = true) : x = some (.r0 (ref10_May_p0_0 x)) := by
  unfold ref10_May_i0 at h
  split at h <;> first | rfl | (cases h; done) | (rename_i y; cases y; rfl)
noncomputable def e_ref10_May : Entry := autoE n_ref10_May (.cons (.agg (.cons .fl (.cons .fl .nil))) .nil) fun t => [⟨ref10_May_o (.r0 (ref10_May_p0_0 (ref10_May_F t.1.1.2 t.1.2.1.2))), [ref10_May_i0 (ref10_May_F t.1.1.2 t.1.2.1.2)]⟩]
theorem e_ref10_May_ok : EntryOk prog e_ref10_May := autoE_ok fun t => (altsCons (fun h => ref10_May_ok t.1.1.1 t.1.1.2 t.1.2.1.1 t.1.2.1.2 (ref10_May_e0 h)) altsNil)
noncomputable def L_ref10_May : List Entry := e_ref10_May :: L_tridiag_Full
theorem L_ref10_May_ok : SumsOk prog (sumsOf L_ref10_May) := sumsOf_cons e_ref10_May_ok L_tridiag_Full_ok

inductive ref06_SameAll_X where
  | r0 (b2 : Bool)
def ref06_SameAll_E : ref06_SameAll_X → AE × ASt
  | .r0 b2 => (.ret, ⟨slots 27 [(4, .bool false b2)], [], 0⟩)
theorem ref06_SameAll_hN : NoN ref06_SameAll_E := by intro x; cases x <;> (intro h; cases h)
theorem ref06_SameAll_hI (id : Nat) : NoId id ref06_SameAll_E := by intro x; cases x <;> (intro h; cases h)
def ref06_SameAll_o : ref06_SameAll_X → Out
  | .r0 b2 => ⟨.bool false b2, []⟩
noncomputable def ref06_SameAll_l6 : List Code := flat (BODY n_ref06_SameAll)
def ref06_SameAll_n1 (v_0 : Lv) (a_1 : List Nat) (v_2 : Lv) (b_3 : List Nat) (_ : Unit) : ASt := ⟨slots 27 [(0, .imm v_0 (.fl a_1) 1 1 0 (List.length a_1)), (1, .imm v_2 (.fl b_3) 1 1 0 (List.length b_3)), (5, .int .i64 (0 : Int))], [], 0⟩
def ref06_SameAll_t7 (a_1 : List Nat) (b_3 : List Nat) : T ((Unit) ⊕ (ref06_SameAll_X)) :=
  .ask ((((List.length a_1) : Nat) : Int) != (((List.length b_3) : Nat) : Int))
    (.leaf (.inr (.r0 false)))
    (.leaf (.inl ()))
def ref06_SameAll_n3 (v_0 : Lv) (a_1 : List Nat) (v_2 : Lv) (b_3 : List Nat) (i1 : Nat) : ASt := ⟨slots 27 [(0, .imm v_0 (.fl a_1) 1 1 0 (List.length a_1)), (1, .imm v_2 (.fl b_3) 1 1 0 (List.length b_3)), (5, .int .i64 ((i1 : Nat) : Int))], [], 0⟩
def ref06_SameAll_n4 (_ : Unit) : ASt := ⟨slots 27 [], [], 0⟩
noncomputable def ref06_SameAll_l8 : List Code := flat (inLoop ((((ref06_SameAll_l6.drop 4).take 1)).headD .skip))
def ref06_SameAll_t9 (a_1 : List Nat) (b_3 : List Nat) (i1 : Nat) : T ((Nat) ⊕ ((Unit) ⊕ (ref06_SameAll_X))) :=
  .ask (decide (((i1 : Nat) : Int) < (((List.length a_1) : Nat) : Int)))
    (.need (inB ((i1 : Nat) : Int) (List.length a_1)) <| .need (ltB i1 (List.length a_1)) <| .need (inB ((i1 : Nat) : Int) (List.length b_3)) <| .need (ltB i1 (List.length b_3)) <| .ask (!(sameB (List.getD a_1 i1 0) (List.getD b_3 i1 0)))
      (.leaf (.inr (.inr (.r0 false))))
      (.need (inK .i64 (((i1 + 1) : Nat) : Int)) <| .leaf (.inl (i1 + 1))))
    (.leaf (.inr (.inl ())))
noncomputable def ref06_SameAll_m10 (a_1 : List Nat) (b_3 : List Nat) : Nat → Option ((Nat) ⊕ ((Unit) ⊕ (ref06_SameAll_X))) := fun i1 =>
  (ref06_SameAll_t9 a_1 b_3 i1).run
theorem ref06_SameAll_s10 (v_0 : Lv) (a_1 : List Nat) (v_2 : Lv) (b_3 : List Nat) (i1 : Nat) : Sg prog [] ref06_SameAll_l8 (ref06_SameAll_n3 v_0 a_1 v_2 b_3 i1) (ref06_SameAll_m10 a_1 b_3 i1) (ref06_SameAll_n3 v_0 a_1 v_2 b_3) (exitE 0 ref06_SameAll_n4 ref06_SameAll_E) := by
  unfold ref06_SameAll_m10; exact Sg.seg (C := C0) C0_ok L_ref10_May_ok 60 ref06_SameAll_l8 (ref06_SameAll_n3 v_0 a_1 v_2 b_3 i1) (ref06_SameAll_t9 a_1 b_3 i1) (ref06_SameAll_n3 v_0 a_1 v_2 b_3) (exitE 0 ref06_SameAll_n4 ref06_SameAll_E) [⟨[], [], [4]⟩, ⟨[], [], [0, 1, 5]⟩, ⟨[], [], []⟩] (by kernel_rfl)
def ref06_SameAll_n5 : Unit → ASt := ref06_SameAll_n4
def ref06_SameAll_t11 : T ((Empty) ⊕ (ref06_SameAll_X)) :=
  .leaf (.inr (.r0 true))
noncomputable def ref06_SameAll_F (a_1 : List Nat) (b_3 : List Nat) : Option ref06_SameAll_X := toX (seqM ((ref06_SameAll_t7 a_1 b_3).run) fun _ =>
  seqM (loopM (ref06_SameAll_m10 a_1 b_3) 0) fun _ =>
  (ref06_SameAll_t11).run)
theorem ref06_SameAll_ok (v_0 : Lv) (a_1 : List Nat) (v_2 : Lv) (b_3 : List Nat) {x : ref06_SameAll_X} (h : ref06_SameAll_F a_1 b_3 = some x) : Contract prog n_ref06_SameAll [] [.imm v_0 (.fl a_1) 1 1 0 (List.length a_1), .imm v_2 (.fl b_3) 1 1 0 (List.length b_3)] (ref06_SameAll_o x) :=
  Sg.contract false ref06_SameAll_o (by kernel_rfl : prog.funcs[n_ref06_SameAll]? = some (FN n_ref06_SameAll)) (by kernel_rfl : (FN n_ref06_SameAll).body = some (BODY n_ref06_SameAll)) (Sg.cut 4 ref06_SameAll_hN (Sg.seg (C := C0) C0_ok L_ref10_May_ok 60 (ref06_SameAll_l6.take 4) (entryOf (FN n_ref06_SameAll) [] [.imm v_0 (.fl a_1) 1 1 0 (List.length a_1), .imm v_2 (.fl b_3) 1 1 0 (List.length b_3)]) (ref06_SameAll_t7 a_1 b_3) (ref06_SameAll_n1 v_0 a_1 v_2 b_3) ref06_SameAll_E [⟨[], [], [4]⟩, ⟨[], [], [0, 1, 5]⟩] (by kernel_rfl)) (fun a => by cases a; exact Sg.cut 1 ref06_SameAll_hN (Sg.pre ⟨[], [], [0, 1, 5]⟩ rfl (by kernel_rfl : NS.on ⟨[], [], [0, 1, 5]⟩ (ref06_SameAll_n1 v_0 a_1 v_2 b_3 ()) = (ref06_SameAll_n3 v_0 a_1 v_2 b_3) 0) (Sg.loopAt (I := (ref06_SameAll_n3 v_0 a_1 v_2 b_3)) (J := (ref06_SameAll_n4)) (id := 0) (by kernel_rfl : ((ref06_SameAll_l6.drop 4).take 1) = [.block 0 (.loop (inLoop ((((ref06_SameAll_l6.drop 4).take 1)).headD .skip)))]) ref06_SameAll_hN (ref06_SameAll_hI _) (fun s => by exact ref06_SameAll_s10 v_0 a_1 v_2 b_3 s) 0)) (fun a => by cases a; exact Sg.seg (C := C0) C0_ok L_ref10_May_ok 60 ((ref06_SameAll_l6.drop 4).drop 1) (ref06_SameAll_n5 ()) (ref06_SameAll_t11) (fun a : Empty => a.elim) ref06_SameAll_E [⟨[], [], [4]⟩] (by kernel_rfl))))
    (fun x => by cases x with | r0 b2 => exact ⟨.inr rfl, [.bool false b2], [], by kernel_rfl, trivial, by kernel_rfl⟩) h

def ref06_SameAll_i0 : Option ref06_SameAll_X → Bool
  | some _ => true
  | none => false
def ref06_SameAll_p0_0 : Option ref06_SameAll_X → Bool
  | some (.r0 x) => x
  | _ => false
theorem ref06_SameAll_e0 {x : Option ref06_SameAll_X} (h : ref06_SameAll_i0 x = true) : x = some (.r0 (ref06_SameAll_p0_0 x)) := by
  unfold ref06_SameAll_i0 at h
  split at h <;> first | rfl | (cases h; done) | (rename_i y; cases y; rfl)
noncomputable def e_ref06_SameAll : Entry := autoE n_ref06_SameAll (.cons .fl (.cons .fl .nil)) fun t => [⟨ref06_SameAll_o (.r0 (ref06_SameAll_p0_0 (ref06_SameAll_F t.1.2 t.2.1.2))), [ref06_SameAll_i0 (ref06_SameAll_F t.1.2 t.2.1.2)]⟩]
theorem e_ref06_SameAll_ok : EntryOk prog e_ref06_SameAll := autoE_ok fun t => (altsCons (fun h => ref06_SameAll_ok t.1.1 t.1.2 t.2.1.1 t.2.1.2 (ref06_SameAll_e0 h)) altsNil)
noncomputable def L_ref06_SameAll : List Entry := e_ref06_SameAll :: L_ref10_May
theorem L_ref06_SameAll_ok : SumsOk prog (sumsOf L_ref06_SameAll) := sumsOf_cons e_ref06_SameAll_ok L_ref10_May_ok

inductive ref09_Same_X where
  | r0 (b2 : Bool)
def ref09_Same_E : ref09_Same_X → AE × ASt
  | .r0 b2 => (.ret, ⟨slots 24 [(4, .bool false b2)], [], 0⟩)
theorem ref09_Same_hN : NoN ref09_Same_E := by intro x; cases x <;> (intro h; cases h)
theorem ref09_Same_hI (id : Nat) : NoId id ref09_Same_E := by intro x; cases x <;> (intro h; cases h)
def ref09_Same_o : ref09_Same_X → Out
  | .r0 b2 => ⟨.bool false b2, []⟩
noncomputable def ref09_Same_l2 : List Code := flat (BODY n_ref09_Same)
def ref09_Same_n1 (b1 : Bool) : ASt := ⟨slots 24 [(4, .bool false b1)], [], 0⟩
def ref09_Same_t3 (a_0 : Int) (a_1 : Int) (a_3 : List Nat) (b_4 : Int) (b_5 : Int) (b_7 : List Nat) : T ((Bool) ⊕ (ref09_Same_X)) :=
  .ask (a_0 == b_4)
    (.ask (a_1 == b_5)
      (.need (slOk 0 (List.length a_3) a_3) <| .need (slOk 0 (List.length b_7) b_7) <| .need (ref06_SameAll_i0 (ref06_SameAll_F (cutL 0 (List.length a_3) a_3) (cutL 0 (List.length b_7) b_7))) <| .leaf (.inl (ref06_SameAll_p0_0 (ref06_SameAll_F (cutL 0 (List.length a_3) a_3) (cutL 0 (List.length b_7) b_7)))))
      (.leaf (.inl false)))
    (.leaf (.inl false))
def ref09_Same_t4 (b1 : Bool) : T ((Empty) ⊕ (ref09_Same_X)) :=
  .leaf (.inr (.r0 b1))
noncomputable def ref09_Same_F (a_0 : Int) (a_1 : Int) (a_3 : List Nat) (b_4 : Int) (b_5 : Int) (b_7 : List Nat) : Option ref09_Same_X := toX (seqM ((ref09_Same_t3 a_0 a_1 a_3 b_4 b_5 b_7).run) fun b1 =>
  (ref09_Same_t4 b1).run)
theorem ref09_Same_ok (a_0 : Int) (a_1 : Int) (v_2 : Lv) (a_3 : List Nat) (b_4 : Int) (b_5 : Int) (v_6 : Lv) (b_7 : List Nat) {x : ref09_Same_X} (h : ref09_Same_F a_0 a_1 a_3 b_4 b_5 b_7 = some x) : Contract prog n_ref09_Same [] [.agg [.int .i64 a_0, .int .i64 a_1, .imm v_2 (.fl a_3) 1 1 0 (List.length a_3)], .agg [.int .i64 b_4, .int .i64 b_5, .imm v_6 (.fl b_7) 1 1 0 (List.length b_7)]] (ref09_Same_o x) :=
  Sg.contract false ref09_Same_o (by kernel_rfl : prog.funcs[n_ref09_Same]? = some (FN n_ref09_Same)) (by kernel_rfl : (FN n_ref09_Same).body = some (BODY n_ref09_Same)) (Sg.cut 2 ref09_Same_hN (Sg.seg (C := C0) C0_ok L_ref06_SameAll_ok 60 (ref09_Same_l2.take 2) (entryOf (FN n_ref09_Same) [] [.agg [.int .i64 a_0, .int .i64 a_1, .imm v_2 (.fl a_3) 1 1 0 (List.length a_3)], .agg [.int .i64 b_4, .int .i64 b_5, .imm v_6 (.fl b_7) 1 1 0 (List.length b_7)]]) (ref09_Same_t3 a_0 a_1 a_3 b_4 b_5 b_7) ref09_Same_n1 ref09_Same_E [⟨[], [], [4]⟩, ⟨[], [], [4]⟩, ⟨[], [], [4]⟩] (by kernel_rfl)) (fun b1 => by exact Sg.seg (C := C0) C0_ok L_ref06_SameAll_ok 60 (ref09_Same_l2.drop 2) (ref09_Same_n1 b1) (ref09_Same_t4 b1) (fun a : Empty => a.elim) ref09_Same_E [⟨[], [], [4]⟩] (by kernel_rfl)))
    (fun x => by cases x with | r0 b2 => exact ⟨.inr rfl, [.bool false b2], [], by kernel_rfl, trivial, by kernel_rfl⟩) h

def ref09_Same_i0 : Option ref09_Same_X → Bool
  | some _ => true
  | none => false
def ref09_Same_p0_0 : Option ref09_Same_X → Bool
  | some (.r0 x) => x
  | _ => false
theorem ref09_Same_e0 {x : Option ref09_Same_X} (h : ref09_Same_i0 x = true) : x = some (.r0 (ref09_Same_p0_0 x)) := by
  unfold ref09_Same_i0 at h
  split at h <;> first | rfl | (cases h; done) | (rename_i y; cases y; rfl)
noncomputable def e_ref09_Same : Entry := autoE n_ref09_Same (.cons (.agg (.cons (.int .i64) (.cons (.int .i64) (.cons .fl .nil)))) (.cons (.agg (.cons (.int .i64) (.cons (.int .i64) (.cons .fl .nil)))) .nil)) fun t => [⟨ref09_Same_o (.r0 (ref09_Same_p0_0 (ref09_Same_F t.1.1 t.1.2.1 t.1.2.2.1.2 t.2.1.1 t.2.1.2.1 t.2.1.2.2.1.2))), [ref09_Same_i0 (ref09_Same_F t.1.1 t.1.2.1 t.1.2.2.1.2 t.2.1.1 t.2.1.2.1 t.2.1.2.2.1.2)]⟩]
theorem e_ref09_Same_ok : EntryOk prog e_ref09_Same := autoE_ok fun t => (altsCons (fun h => ref09_Same_ok t.1.1 t.1.2.1 t.1.2.2.1.1 t.1.2.2.1.2 t.2.1.1 t.2.1.2.1 t.2.1.2.2.1.1 t.2.1.2.2.1.2 (ref09_Same_e0 h)) altsNil)
noncomputable def L_ref09_Same : List Entry := e_ref09_Same :: L_ref06_SameAll
theorem L_ref09_Same_ok : SumsOk prog (sumsOf L_ref09_Same) := sumsOf_cons e_ref09_Same_ok L_ref06_SameAll_ok

inductive ref10_Full_X where
  | r0 (a8 : Nat) (a9 : Nat) (l10 : List Nat)
def ref10_Full_E : ref10_Full_X → AE × ASt
  | .r0 a8 a9 l10 => (.ret, ⟨slots 67 [(2, .ptr 0 1 0 0)], [(0, .vs [.int .i64 ((a8 : Nat) : Int), .int .i64 ((a8 : Nat) : Int), .sl 1 1 1 0 a9 a9]), (1, .fl l10)], 2⟩)
theorem ref10_Full_hN : NoN ref10_Full_E := by intro x; cases x <;> (intro h; cases h)
theorem ref10_Full_hI (id : Nat) : NoId id ref10_Full_E := by intro x; cases x <;> (intro h; cases h)
def ref10_Full_o : ref10_Full_X → Out
  | .r0 a8 a9 l10 => ⟨.agg [.int .i64 ((a8 : Nat) : Int), .int .i64 ((a8 : Nat) : Int), .sl 0 1 1 0 a9 a9], [some (.fl l10)]⟩
noncomputable def ref10_Full_l8 : List Code := flat (BODY n_ref10_Full)
def ref10_Full_n1 (v_0 : Lv) (t_1 : List Nat) (v_2 : Lv) (t_3 : List Nat) : Nat × (List Nat) → ASt := fun (a1, l2) => ⟨slots 67 [(1, .ptr 0 1 0 0), (2, .ptr 1 1 0 0), (3, .int .i64 (((List.length t_1) : Nat) : Int)), (4, .ptr 2 1 0 0), (5, .int .i64 (0 : Int))], [(0, .vs [.imm v_0 (.fl t_1) 1 1 0 (List.length t_1), .imm v_2 (.fl t_3) 1 1 0 (List.length t_3)]), (1, .vs [.int .i64 (0 : Int), .int .i64 (0 : Int), .nsl]), (2, .vs [.int .i64 (((List.length t_1) : Nat) : Int), .int .i64 (((List.length t_1) : Nat) : Int), .sl 3 1 1 0 a1 a1]), (3, .fl l2)], 4⟩
def ref10_Full_t9 (t_1 : List Nat) : T ((Nat × (List Nat)) ⊕ (ref10_Full_X)) :=
  .need (inK .i64 ((((List.length t_1) * (List.length t_1)) : Nat) : Int)) <| .need (decide ((0 : Int) ≤ ((((List.length t_1) * (List.length t_1)) : Nat) : Int))) <| .need (decide (((((List.length t_1) * (List.length t_1)) : Nat) : Int) ≤ ((((List.length t_1) * (List.length t_1)) : Nat) : Int))) <| .need (decide ((8 : Int) * ((((List.length t_1) * (List.length t_1)) : Nat) : Int) ≤ 140737488355328)) <| .need (inK .i64 ((((List.length t_1) * (List.length t_1)) : Nat) : Int)) <| .leaf (.inl (((List.length t_1) * (List.length t_1)), (List.replicate ((List.length t_1) * (List.length t_1)) 0)))
def ref10_Full_n4 (v_0 : Lv) (t_1 : List Nat) (v_2 : Lv) (t_3 : List Nat) (a1 : Nat) : Nat × (List Nat) → ASt := fun (i4, l5) => ⟨slots 67 [(1, .ptr 0 1 0 0), (2, .ptr 1 1 0 0), (3, .int .i64 (((List.length t_1) : Nat) : Int)), (4, .ptr 2 1 0 0), (5, .int .i64 ((i4 : Nat) : Int))], [(0, .vs [.imm v_0 (.fl t_1) 1 1 0 (List.length t_1), .imm v_2 (.fl t_3) 1 1 0 (List.length t_3)]), (1, .vs [.int .i64 (0 : Int), .int .i64 (0 : Int), .nsl]), (2, .vs [.int .i64 (((List.length t_1) : Nat) : Int), .int .i64 (((List.length t_1) : Nat) : Int), .sl 3 1 1 0 a1 a1]), (3, .fl l5)], 4⟩
def ref10_Full_n6 (t_1 : List Nat) (a1 : Nat) (l7 : (List Nat)) : ASt := ⟨slots 67 [(2, .ptr 0 1 0 0), (4, .ptr 1 1 0 0)], [(0, .vs [.int .i64 (0 : Int), .int .i64 (0 : Int), .nsl]), (1, .vs [.int .i64 (((List.length t_1) : Nat) : Int), .int .i64 (((List.length t_1) : Nat) : Int), .sl 2 1 1 0 a1 a1]), (2, .fl l7)], 3⟩
noncomputable def ref10_Full_l10 : List Code := flat (inLoop ((((ref10_Full_l8.drop 4).take 1)).headD .skip))
def ref10_Full_n5 (v_0 : Lv) (t_1 : List Nat) (v_2 : Lv) (t_3 : List Nat) (a1 : Nat) (i4 : Nat) (l6 : (List Nat)) : ASt := ⟨slots 67 [(1, .ptr 0 1 0 0), (2, .ptr 1 1 0 0), (3, .int .i64 (((List.length t_1) : Nat) : Int)), (4, .ptr 2 1 0 0), (5, .int .i64 ((i4 : Nat) : Int))], [(0, .vs [.imm v_0 (.fl t_1) 1 1 0 (List.length t_1), .imm v_2 (.fl t_3) 1 1 0 (List.length t_3)]), (1, .vs [.int .i64 (0 : Int), .int .i64 (0 : Int), .nsl]), (2, .vs [.int .i64 (((List.length t_1) : Nat) : Int), .int .i64 (((List.length t_1) : Nat) : Int), .sl 3 1 1 0 a1 a1]), (3, .fl l6)], 4⟩
def ref10_Full_t11 (t_1 : List Nat) (t_3 : List Nat) (a1 : Nat) (i4 : Nat) (l5 : List Nat) : T (((List Nat)) ⊕ (((List Nat)) ⊕ (ref10_Full_X))) :=
  .ask (decide (((i4 : Nat) : Int) < (((List.length t_1) : Nat) : Int)))
    (.need (inK .i64 (((i4 * (List.length t_1)) : Nat) : Int)) <| .need (inK .i64 ((((i4 * (List.length t_1)) + i4) : Nat) : Int)) <| .need (inB ((i4 : Nat) : Int) (List.length t_1)) <| .need (ltB i4 (List.length t_1)) <| .need (inB ((((i4 * (List.length t_1)) + i4) : Nat) : Int) a1) <| .need (ltB ((i4 * (List.length t_1)) + i4) (List.length l5)) <| .ask (decide (((i4 : Nat) : Int) > (0 : Int)))
      (.need (inK .i64 (((i4 * (List.length t_1)) : Nat) : Int)) <| .need (inK .i64 ((((i4 * (List.length t_1)) + i4) : Nat) : Int)) <| .need (inK .i64 (((((i4 * (List.length t_1)) + i4) : Nat) : Int) - (1 : Int))) <| .need (inK .i64 (((i4 : Nat) : Int) - (1 : Int))) <| .need (inB (((i4 : Nat) : Int) - (1 : Int)) (List.length t_3)) <| .need (ltB (Int.toNat (((i4 : Nat) : Int) - (1 : Int))) (List.length t_3)) <| .need (inB (((((i4 * (List.length t_1)) + i4) : Nat) : Int) - (1 : Int)) a1) <| .need (ltB (Int.toNat (((((i4 * (List.length t_1)) + i4) : Nat) : Int) - (1 : Int))) (List.length (List.set l5 ((i4 * (List.length t_1)) + i4) (List.getD t_1 i4 0)))) <| .need (inK .i64 (((i4 : Nat) : Int) - (1 : Int))) <| .need (inK .i64 ((((i4 : Nat) : Int) - (1 : Int)) * (((List.length t_1) : Nat) : Int))) <| .need (inK .i64 (((((i4 : Nat) : Int) - (1 : Int)) * (((List.length t_1) : Nat) : Int)) + ((i4 : Nat) : Int))) <| .need (inK .i64 (((i4 : Nat) : Int) - (1 : Int))) <| .need (inB (((i4 : Nat) : Int) - (1 : Int)) (List.length t_3)) <| .need (ltB (Int.toNat (((i4 : Nat) : Int) - (1 : Int))) (List.length t_3)) <| .need (inB (((((i4 : Nat) : Int) - (1 : Int)) * (((List.length t_1) : Nat) : Int)) + ((i4 : Nat) : Int)) a1) <| .need (ltB (Int.toNat (((((i4 : Nat) : Int) - (1 : Int)) * (((List.length t_1) : Nat) : Int)) + ((i4 : Nat) : Int))) (List.length (List.set (List.set l5 ((i4 * (List.length t_1)) + i4) (List.getD t_1 i4 0)) (Int.toNat (((((i4 * (List.length t_1)) + i4) : Nat) : Int) - (1 : Int))) (List.getD t_3 (Int.toNat (((i4 : Nat) : Int) - (1 : Int))) 0)))) <| .leaf (.inl (List.set (List.set (List.set l5 ((i4 * (List.length t_1)) + i4) (List.getD t_1 i4 0)) (Int.toNat (((((i4 * (List.length t_1)) + i4) : Nat) : Int) - (1 : Int))) (List.getD t_3 (Int.toNat (((i4 : Nat) : Int) - (1 : Int))) 0)) (Int.toNat (((((i4 : Nat) : Int) - (1 : Int)) * (((List.length t_1) : Nat) : Int)) + ((i4 : Nat) : Int))) (List.getD t_3 (Int.toNat (((i4 : Nat) : Int) - (1 : Int))) 0))))
      (.leaf (.inl (List.set l5 ((i4 * (List.length t_1)) + i4) (List.getD t_1 i4 0)))))
    (.leaf (.inr (.inl l5)))
def ref10_Full_t12 (i4 : Nat) (l6 : List Nat) : T ((Nat × (List Nat)) ⊕ (((List Nat)) ⊕ (ref10_Full_X))) :=
  .need (inK .i64 (((i4 + 1) : Nat) : Int)) <| .leaf (.inl ((i4 + 1), l6))
noncomputable def ref10_Full_m13 (t_1 : List Nat) (t_3 : List Nat) (a1 : Nat) : Nat × (List Nat) → Option ((Nat × (List Nat)) ⊕ (((List Nat)) ⊕ (ref10_Full_X))) := fun (i4, l5) =>
  seqM ((ref10_Full_t11 t_1 t_3 a1 i4 l5).run) fun l6 =>
  (ref10_Full_t12 i4 l6).run
theorem ref10_Full_s13 (v_0 : Lv) (t_1 : List Nat) (v_2 : Lv) (t_3 : List Nat) (a1 : Nat) (i4 : Nat) (l5 : List Nat) : Sg prog [] ref10_Full_l10 (ref10_Full_n4 v_0 t_1 v_2 t_3 a1 (i4, l5)) (ref10_Full_m13 t_1 t_3 a1 (i4, l5)) (ref10_Full_n4 v_0 t_1 v_2 t_3 a1) (exitE 0 (ref10_Full_n6 t_1 a1) ref10_Full_E) := by
  unfold ref10_Full_m13; exact Sg.cut 3 (noN_exit ref10_Full_hN) (Sg.seg (C := C0) C0_ok L_ref09_Same_ok 60 (ref10_Full_l10.take 3) (ref10_Full_n4 v_0 t_1 v_2 t_3 a1 (i4, l5)) (ref10_Full_t11 t_1 t_3 a1 i4 l5) (ref10_Full_n5 v_0 t_1 v_2 t_3 a1 i4) (exitE 0 (ref10_Full_n6 t_1 a1) ref10_Full_E) [⟨[], [0, 1, 2, 3], [1, 2, 3, 4, 5]⟩, ⟨[], [0, 1, 2, 3], [1, 2, 3, 4, 5]⟩, ⟨[], [1, 2, 3], [2, 4]⟩] (by kernel_rfl)) (fun l6 => by exact Sg.seg (C := C0) C0_ok L_ref09_Same_ok 60 (ref10_Full_l10.drop 3) (ref10_Full_n5 v_0 t_1 v_2 t_3 a1 i4 l6) (ref10_Full_t12 i4 l6) (ref10_Full_n4 v_0 t_1 v_2 t_3 a1) (exitE 0 (ref10_Full_n6 t_1 a1) ref10_Full_E) [⟨[], [0, 1, 2, 3], [1, 2, 3, 4, 5]⟩] (by kernel_rfl))
def ref10_Full_n7 (t_1 : List Nat) (a1 : Nat) : (List Nat) → ASt := ref10_Full_n6 t_1 a1
def ref10_Full_t14 (t_1 : List Nat) (a1 : Nat) (l7 : List Nat) : T ((Empty) ⊕ (ref10_Full_X)) :=
  .leaf (.inr (.r0 (List.length t_1) a1 l7))
noncomputable def ref10_Full_F (t_1 : List Nat) (t_3 : List Nat) : Option ref10_Full_X := toX (seqM ((ref10_Full_t9 t_1).run) fun (a1, l2) =>
  seqM (loopM (ref10_Full_m13 t_1 t_3 a1) (0, l2)) fun l7 =>
  (ref10_Full_t14 t_1 a1 l7).run)
theorem ref10_Full_ok (v_0 : Lv) (t_1 : List Nat) (v_2 : Lv) (t_3 : List Nat) {x : ref10_Full_X} (h : ref10_Full_F t_1 t_3 = some x) : Contract prog n_ref10_Full [] [.agg [.imm v_0 (.fl t_1) 1 1 0 (List.length t_1), .imm v_2 (.fl t_3) 1 1 0 (List.length t_3)]] (ref10_Full_o x) :=
  Sg.contract false ref10_Full_o (by kernel_rfl : prog.funcs[n_ref10_Full]? = some (FN n_ref10_Full)) (by kernel_rfl : (FN n_ref10_Full).body = some (BODY n_ref10_Full)) (Sg.cut 4 ref10_Full_hN (Sg.seg (C := C0) C0_ok L_ref09_Same_ok 60 (ref10_Full_l8.take 4) (entryOf (FN n_ref10_Full) [] [.agg [.imm v_0 (.fl t_1) 1 1 0 (List.length t_1), .imm v_2 (.fl t_3) 1 1 0 (List.length t_3)]]) (ref10_Full_t9 t_1) (ref10_Full_n1 v_0 t_1 v_2 t_3) ref10_Full_E [⟨[], [0, 16, 208, 176], [1, 2, 3, 4, 5]⟩] (by kernel_rfl)) (fun a => by obtain ⟨a1, l2⟩ := a; exact Sg.cut 1 ref10_Full_hN (Sg.pre ⟨[], [0, 1, 2, 3], [1, 2, 3, 4, 5]⟩ rfl (by kernel_rfl : NS.on ⟨[], [0, 1, 2, 3], [1, 2, 3, 4, 5]⟩ (ref10_Full_n1 v_0 t_1 v_2 t_3 (a1, l2)) = (ref10_Full_n4 v_0 t_1 v_2 t_3 a1) (0, l2)) (Sg.loopAt (I := (ref10_Full_n4 v_0 t_1 v_2 t_3 a1)) (J := (ref10_Full_n6 t_1 a1)) (id := 0) (by kernel_rfl : ((ref10_Full_l8.drop 4).take 1) = [.block 0 (.loop (inLoop ((((ref10_Full_l8.drop 4).take 1)).headD .skip)))]) ref10_Full_hN (ref10_Full_hI _) (fun s => by obtain ⟨i4, l5⟩ := s; exact ref10_Full_s13 v_0 t_1 v_2 t_3 a1 i4 l5) (0, l2))) (fun l7 => by exact Sg.seg (C := C0) C0_ok L_ref09_Same_ok 60 ((ref10_Full_l8.drop 4).drop 1) (ref10_Full_n7 t_1 a1 l7) (ref10_Full_t14 t_1 a1 l7) (fun a : Empty => a.elim) ref10_Full_E [⟨[], [0, 2], [2]⟩] (by kernel_rfl))))
    (fun x => by cases x with | r0 a8 a9 l10 => exact ⟨.inr rfl, [.agg [.int .i64 ((a8 : Nat) : Int), .int .i64 ((a8 : Nat) : Int), .sl 1 1 1 0 a9 a9]], [], by kernel_rfl, trivial, by kernel_rfl⟩) h

def ref10_Full_i0 : Option ref10_Full_X → Bool
  | some _ => true
  | none => false
def ref10_Full_p0_0 : Option ref10_Full_X → Nat
  | some (.r0 x _ _) => x
  | _ => 0
def ref10_Full_p0_1 : Option ref10_Full_X → Nat
  | some (.r0 _ x _) => x
  | _ => 0
def ref10_Full_p0_2 : Option ref10_Full_X → List Nat
  | some (.r0 _ _ x) => x
  | _ => []
theorem ref10_Full_e0 {x : Option ref10_Full_X} (h : ref10_Full_i0 x = true) : x = some (.r0 (ref10_Full_p0_0 x) (ref10_Full_p0_1 x) (ref10_Full_p0_2 x)) := by
  unfold ref10_Full_i0 at h
  split at h <;> first | rfl | (cases h; done) | (rename_i y; cases y; rfl)
noncomputable def e_ref10_Full : Entry := autoE n_ref10_Full (.cons (.agg (.cons .fl (.cons .fl .nil))) .nil) fun t => [⟨ref10_Full_o (.r0 (ref10_Full_p0_0 (ref10_Full_F t.1.1.2 t.1.2.1.2)) (ref10_Full_p0_1 (ref10_Full_F t.1.1.2 t.1.2.1.2)) (ref10_Full_p0_2 (ref10_Full_F t.1.1.2 t.1.2.1.2))), [ref10_Full_i0 (ref10_Full_F t.1.1.2 t.1.2.1.2)]⟩]
theorem e_ref10_Full_ok : EntryOk prog e_ref10_Full := autoE_ok fun t => (altsCons (fun h => ref10_Full_ok t.1.1.1 t.1.1.2 t.1.2.1.1 t.1.2.1.2 (ref10_Full_e0 h)) altsNil)
noncomputable def L_ref10_Full : List Entry := e_ref10_Full :: L_ref09_Same
theorem L_ref10_Full_ok : SumsOk prog (sumsOf L_ref10_Full) := sumsOf_cons e_ref10_Full_ok L_ref09_Same_ok

inductive law10_TridiagFull_X where
  | r0 (b9 : Bool)
def law10_TridiagFull_E : law10_TridiagFull_X → AE × ASt
  | .r0 b9 => (.ret, ⟨slots 63 [(2, .bool false b9)], [], 0⟩)
theorem law10_TridiagFull_hN : NoN law10_TridiagFull_E := by intro x; cases x <;> (intro h; cases h)
theorem law10_TridiagFull_hI (id : Nat) : NoId id law10_TridiagFull_E := by intro x; cases x <;> (intro h; cases h)
def law10_TridiagFull_o : law10_TridiagFull_X → Out
  | .r0 b9 => ⟨.bool false b9, []⟩
noncomputable def law10_TridiagFull_l7 : List Code := flat (BODY n_law10_TridiagFull)
def law10_TridiagFull_n1 (v_0 : Lv) (t_1 : List Nat) (v_2 : Lv) (t_3 : List Nat) (b1 : Bool) : ASt := ⟨slots 63 [(1, .ptr 0 1 0 0), (27, .bool false b1)], [(0, .vs [.imm v_0 (.fl t_1) 1 1 0 (List.length t_1), .imm v_2 (.fl t_3) 1 1 0 (List.length t_3)])], 1⟩
def law10_TridiagFull_t8 (t_1 : List Nat) (t_3 : List Nat) : T ((Bool) ⊕ (law10_TridiagFull_X)) :=
  .ask (decide ((((List.length t_1) : Nat) : Int) > (30 : Int)))
    (.ask (decide ((((List.length t_1) : Nat) : Int) ≤ (512 : Int)))
      (.leaf (.inl true))
      (.ask (decide ((((List.length t_1) : Nat) : Int) > (600 : Int)))
        (.leaf (.inl true))
        (.leaf (.inl (decide ((((List.length t_3) : Nat) : Int) > (600 : Int)))))))
    (.ask (decide ((((List.length t_1) : Nat) : Int) > (600 : Int)))
      (.leaf (.inl true))
      (.leaf (.inl (decide ((((List.length t_3) : Nat) : Int) > (600 : Int))))))
def law10_TridiagFull_n2 (v_0 : Lv) (t_1 : List Nat) (v_2 : Lv) (t_3 : List Nat) : Nat × Nat × Nat × (List Nat) → ASt := fun (e2, a3, a4, l5) => ⟨slots 63 [(1, .ptr 0 1 0 0), (3, .ptr 1 1 0 0), (4, .int .i64 ((e2 : Nat) : Int))], [(0, .vs [.imm v_0 (.fl t_1) 1 1 0 (List.length t_1), .imm v_2 (.fl t_3) 1 1 0 (List.length t_3)]), (1, .vs [.int .i64 ((a3 : Nat) : Int), .int .i64 ((a3 : Nat) : Int), .sl 2 1 1 0 a4 a4]), (2, .fl l5)], 3⟩
def law10_TridiagFull_t9 (t_1 : List Nat) (t_3 : List Nat) (b1 : Bool) : T ((Nat × Nat × Nat × (List Nat)) ⊕ (law10_TridiagFull_X)) :=
  .ask b1
    (.leaf (.inr (.r0 true)))
    (.alt 0
      (.need (slOk 0 (List.length t_1) t_1) <| .need (slOk 0 (List.length t_3) t_3) <| .need (tridiag_Full_i0 (tridiag_Full_F (cutL 0 (List.length t_1) t_1) (cutL 0 (List.length t_3) t_3))) <| .leaf (.inl (2, 0, 0, ([] : List Nat))))
      (.alt 1
        (.need (slOk 0 (List.length t_1) t_1) <| .need (slOk 0 (List.length t_3) t_3) <| .need (tridiag_Full_i1 (tridiag_Full_F (cutL 0 (List.length t_1) t_1) (cutL 0 (List.length t_3) t_3))) <| .leaf (.inl (0, (tridiag_Full_p1_0 (tridiag_Full_F (cutL 0 (List.length t_1) t_1) (cutL 0 (List.length t_3) t_3))), (tridiag_Full_p1_1 (tridiag_Full_F (cutL 0 (List.length t_1) t_1) (cutL 0 (List.length t_3) t_3))), (tridiag_Full_p1_2 (tridiag_Full_F (cutL 0 (List.length t_1) t_1) (cutL 0 (List.length t_3) t_3))))))
        (.fail)))
def law10_TridiagFull_n3 (v_0 : Lv) (t_1 : List Nat) (v_2 : Lv) (t_3 : List Nat) (e2 : Nat) (a3 : Nat) (a4 : Nat) (l5 : List Nat) (may6 : Bool) : ASt := ⟨slots 63 [(1, .ptr 0 1 0 0), (3, .ptr 1 1 0 0), (4, .int .i64 ((e2 : Nat) : Int)), (5, .bool false may6)], [(0, .vs [.imm v_0 (.fl t_1) 1 1 0 (List.length t_1), .imm v_2 (.fl t_3) 1 1 0 (List.length t_3)]), (1, .vs [.int .i64 ((a3 : Nat) : Int), .int .i64 ((a3 : Nat) : Int), .sl 2 1 1 0 a4 a4]), (2, .fl l5)], 3⟩
def law10_TridiagFull_t10 (t_1 : List Nat) (t_3 : List Nat) : T ((Bool) ⊕ (law10_TridiagFull_X)) :=
  .need (slOk 0 (List.length t_1) t_1) <| .need (slOk 0 (List.length t_3) t_3) <| .need (ref10_May_i0 (ref10_May_F (cutL 0 (List.length t_1) t_1) (cutL 0 (List.length t_3) t_3))) <| .leaf (.inl (ref10_May_p0_0 (ref10_May_F (cutL 0 (List.length t_1) t_1) (cutL 0 (List.length t_3) t_3))))
def law10_TridiagFull_n4 (v_0 : Lv) (t_1 : List Nat) (v_2 : Lv) (t_3 : List Nat) (e2 : Nat) (a3 : Nat) (a4 : Nat) (l5 : List Nat) (may6 : Bool) (b7 : Bool) : ASt := ⟨slots 63 [(1, .ptr 0 1 0 0), (3, .ptr 1 1 0 0), (4, .int .i64 ((e2 : Nat) : Int)), (5, .bool false may6), (39, .bool false b7)], [(0, .vs [.imm v_0 (.fl t_1) 1 1 0 (List.length t_1), .imm v_2 (.fl t_3) 1 1 0 (List.length t_3)]), (1, .vs [.int .i64 ((a3 : Nat) : Int), .int .i64 ((a3 : Nat) : Int), .sl 2 1 1 0 a4 a4]), (2, .fl l5)], 3⟩
def law10_TridiagFull_t11 (t_1 : List Nat) (t_3 : List Nat) (may6 : Bool) : T ((Bool) ⊕ (law10_TridiagFull_X)) :=
  .need (slOk 0 (List.length t_1) t_1) <| .need (slOk 0 (List.length t_3) t_3) <| .need (tridiag_May_i0 (tridiag_May_F (cutL 0 (List.length t_1) t_1) (cutL 0 (List.length t_3) t_3))) <| .leaf (.inl (!((tridiag_May_p0_0 (tridiag_May_F (cutL 0 (List.length t_1) t_1) (cutL 0 (List.length t_3) t_3))) == may6)))
def law10_TridiagFull_n5 (v_0 : Lv) (t_1 : List Nat) (v_2 : Lv) (t_3 : List Nat) (e2 : Nat) (a3 : Nat) (a4 : Nat) (l5 : List Nat) (_ : Unit) : ASt := ⟨slots 63 [(1, .ptr 0 1 0 0), (3, .ptr 1 1 0 0), (4, .int .i64 ((e2 : Nat) : Int))], [(0, .vs [.imm v_0 (.fl t_1) 1 1 0 (List.length t_1), .imm v_2 (.fl t_3) 1 1 0 (List.length t_3)]), (1, .vs [.int .i64 ((a3 : Nat) : Int), .int .i64 ((a3 : Nat) : Int), .sl 2 1 1 0 a4 a4]), (2, .fl l5)], 3⟩
def law10_TridiagFull_t12 (e2 : Nat) (a3 : Nat) (a4 : Nat) (l5 : List Nat) (may6 : Bool) (b7 : Bool) : T ((Unit) ⊕ (law10_TridiagFull_X)) :=
  .ask b7
    (.leaf (.inr (.r0 false)))
    (.ask (!may6)
      (.ask (((e2 : Nat) : Int) == (2 : Int))
        (.need (slOk 0 a4 l5) <| .need (ref09_Same_i0 (ref09_Same_F ((a3 : Nat) : Int) ((a3 : Nat) : Int) (cutL 0 a4 l5) (0 : Int) (0 : Int) ([] : List Nat))) <| .ask (ref09_Same_p0_0 (ref09_Same_F ((a3 : Nat) : Int) ((a3 : Nat) : Int) (cutL 0 a4 l5) (0 : Int) (0 : Int) ([] : List Nat)))
          (.leaf (.inr (.r0 true)))
          (.leaf (.inr (.r0 false))))
        (.leaf (.inr (.r0 false))))
      (.leaf (.inl ())))
def law10_TridiagFull_n6 (b8 : Bool) : ASt := ⟨slots 63 [(2, .bool false b8)], [], 0⟩
def law10_TridiagFull_t13 (t_1 : List Nat) (t_3 : List Nat) (e2 : Nat) (a3 : Nat) (a4 : Nat) (l5 : List Nat) : T ((Bool) ⊕ (law10_TridiagFull_X)) :=
  .ask (((e2 : Nat) : Int) == (0 : Int))
    (.need (slOk 0 (List.length t_1) t_1) <| .need (slOk 0 (List.length t_3) t_3) <| .need (ref10_Full_i0 (ref10_Full_F (cutL 0 (List.length t_1) t_1) (cutL 0 (List.length t_3) t_3))) <| .need (slOk 0 a4 l5) <| .need (slOk 0 (ref10_Full_p0_1 (ref10_Full_F (cutL 0 (List.length t_1) t_1) (cutL 0 (List.length t_3) t_3))) (ref10_Full_p0_2 (ref10_Full_F (cutL 0 (List.length t_1) t_1) (cutL 0 (List.length t_3) t_3)))) <| .need (ref09_Same_i0 (ref09_Same_F ((a3 : Nat) : Int) ((a3 : Nat) : Int) (cutL 0 a4 l5) (((ref10_Full_p0_0 (ref10_Full_F (cutL 0 (List.length t_1) t_1) (cutL 0 (List.length t_3) t_3))) : Nat) : Int) (((ref10_Full_p0_0 (ref10_Full_F (cutL 0 (List.length t_1) t_1) (cutL 0 (List.length t_3) t_3))) : Nat) : Int) (cutL 0 (ref10_Full_p0_1 (ref10_Full_F (cutL 0 (List.length t_1) t_1) (cutL 0 (List.length t_3) t_3))) (ref10_Full_p0_2 (ref10_Full_F (cutL 0 (List.length t_1) t_1) (cutL 0 (List.length t_3) t_3)))))) <| .ask (ref09_Same_p0_0 (ref09_Same_F ((a3 : Nat) : Int) ((a3 : Nat) : Int) (cutL 0 a4 l5) (((ref10_Full_p0_0 (ref10_Full_F (cutL 0 (List.length t_1) t_1) (cutL 0 (List.length t_3) t_3))) : Nat) : Int) (((ref10_Full_p0_0 (ref10_Full_F (cutL 0 (List.length t_1) t_1) (cutL 0 (List.length t_3) t_3))) : Nat) : Int) (cutL 0 (ref10_Full_p0_1 (ref10_Full_F (cutL 0 (List.length t_1) t_1) (cutL 0 (List.length t_3) t_3))) (ref10_Full_p0_2 (ref10_Full_F (cutL 0 (List.length t_1) t_1) (cutL 0 (List.length t_3) t_3))))))
      (.leaf (.inl true))
      (.leaf (.inl false)))
    (.leaf (.inl false))
def law10_TridiagFull_t14 (b8 : Bool) : T ((Empty) ⊕ (law10_TridiagFull_X)) :=
  .leaf (.inr (.r0 b8))
noncomputable def law10_TridiagFull_F (t_1 : List Nat) (t_3 : List Nat) : Option law10_TridiagFull_X := toX (seqM ((law10_TridiagFull_t8 t_1 t_3).run) fun b1 =>
  seqM ((law10_TridiagFull_t9 t_1 t_3 b1).run) fun (e2, a3, a4, l5) =>
  seqM ((law10_TridiagFull_t10 t_1 t_3).run) fun may6 =>
  seqM ((law10_TridiagFull_t11 t_1 t_3 may6).run) fun b7 =>
  seqM ((law10_TridiagFull_t12 e2 a3 a4 l5 may6 b7).run) fun _ =>
  seqM ((law10_TridiagFull_t13 t_1 t_3 e2 a3 a4 l5).run) fun b8 =>
  (law10_TridiagFull_t14 b8).run)
theorem law10_TridiagFull_ok (v_0 : Lv) (t_1 : List Nat) (v_2 : Lv) (t_3 : List Nat) {x : law10_TridiagFull_X} (h : law10_TridiagFull_F t_1 t_3 = some x) : Contract prog n_law10_TridiagFull [] [.agg [.imm v_0 (.fl t_1) 1 1 0 (List.length t_1), .imm v_2 (.fl t_3) 1 1 0 (List.length t_3)]] (law10_TridiagFull_o x) :=
  Sg.contract false law10_TridiagFull_o (by kernel_rfl : prog.funcs[n_law10_TridiagFull]? = some (FN n_law10_TridiagFull)) (by kernel_rfl : (FN n_law10_TridiagFull).body = some (BODY n_law10_TridiagFull)) (Sg.cut 2 law10_TridiagFull_hN (Sg.seg (C := C0) C0_ok L_ref10_Full_ok 60 (law10_TridiagFull_l7.take 2) (entryOf (FN n_law10_TridiagFull) [] [.agg [.imm v_0 (.fl t_1) 1 1 0 (List.length t_1), .imm v_2 (.fl t_3) 1 1 0 (List.length t_3)]]) (law10_TridiagFull_t8 t_1 t_3) (law10_TridiagFull_n1 v_0 t_1 v_2 t_3) law10_TridiagFull_E [⟨[], [0], [1, 27]⟩, ⟨[], [0], [1, 27]⟩, ⟨[], [0], [1, 27]⟩, ⟨[], [0], [1, 27]⟩, ⟨[], [0], [1, 27]⟩] (by kernel_rfl)) (fun b1 => by exact Sg.cut 2 law10_TridiagFull_hN (Sg.seg (C := C0) C0_ok L_ref10_Full_ok 60 ((law10_TridiagFull_l7.drop 2).take 2) (law10_TridiagFull_n1 v_0 t_1 v_2 t_3 b1) (law10_TridiagFull_t9 t_1 t_3 b1) (law10_TridiagFull_n2 v_0 t_1 v_2 t_3) law10_TridiagFull_E [⟨[], [], [2]⟩, ⟨[(.cell 81 2, 1, 1, .fl ([] : List Nat), false)], [0, 81, 129], [1, 3, 4]⟩, ⟨[], [0, 81, 17], [1, 3, 4]⟩] (by kernel_rfl)) (fun a => by obtain ⟨e2, a3, a4, l5⟩ := a; exact Sg.cut 1 law10_TridiagFull_hN (Sg.seg (C := C0) C0_ok L_ref10_Full_ok 60 (((law10_TridiagFull_l7.drop 2).drop 2).take 1) (law10_TridiagFull_n2 v_0 t_1 v_2 t_3 (e2, a3, a4, l5)) (law10_TridiagFull_t10 t_1 t_3) (law10_TridiagFull_n3 v_0 t_1 v_2 t_3 e2 a3 a4 l5) law10_TridiagFull_E [⟨[], [0, 1, 2], [1, 3, 4, 5]⟩] (by kernel_rfl)) (fun may6 => by exact Sg.cut 1 law10_TridiagFull_hN (Sg.seg (C := C0) C0_ok L_ref10_Full_ok 60 ((((law10_TridiagFull_l7.drop 2).drop 2).drop 1).take 1) (law10_TridiagFull_n3 v_0 t_1 v_2 t_3 e2 a3 a4 l5 may6) (law10_TridiagFull_t11 t_1 t_3 may6) (law10_TridiagFull_n4 v_0 t_1 v_2 t_3 e2 a3 a4 l5 may6) law10_TridiagFull_E [⟨[], [0, 1, 2], [1, 3, 4, 5, 39]⟩] (by kernel_rfl)) (fun b7 => by exact Sg.cut 3 law10_TridiagFull_hN (Sg.seg (C := C0) C0_ok L_ref10_Full_ok 60 (((((law10_TridiagFull_l7.drop 2).drop 2).drop 1).drop 1).take 3) (law10_TridiagFull_n4 v_0 t_1 v_2 t_3 e2 a3 a4 l5 may6 b7) (law10_TridiagFull_t12 e2 a3 a4 l5 may6 b7) (law10_TridiagFull_n5 v_0 t_1 v_2 t_3 e2 a3 a4 l5) law10_TridiagFull_E [⟨[], [], [2]⟩, ⟨[], [], [2]⟩, ⟨[], [], [2]⟩, ⟨[], [], [2]⟩, ⟨[], [0, 1, 2], [1, 3, 4]⟩] (by kernel_rfl)) (fun a => by cases a; exact Sg.cut 1 law10_TridiagFull_hN (Sg.seg (C := C0) C0_ok L_ref10_Full_ok 60 ((((((law10_TridiagFull_l7.drop 2).drop 2).drop 1).drop 1).drop 3).take 1) (law10_TridiagFull_n5 v_0 t_1 v_2 t_3 e2 a3 a4 l5 ()) (law10_TridiagFull_t13 t_1 t_3 e2 a3 a4 l5) law10_TridiagFull_n6 law10_TridiagFull_E [⟨[], [], [2]⟩, ⟨[], [], [2]⟩, ⟨[], [], [2]⟩] (by kernel_rfl)) (fun b8 => by exact Sg.seg (C := C0) C0_ok L_ref10_Full_ok 60 ((((((law10_TridiagFull_l7.drop 2).drop 2).drop 1).drop 1).drop 3).drop 1) (law10_TridiagFull_n6 b8) (law10_TridiagFull_t14 b8) (fun a : Empty => a.elim) law10_TridiagFull_E [⟨[], [], [2]⟩] (by kernel_rfl))))))))
    (fun x => by cases x with | r0 b9 => exact ⟨.inr rfl, [.bool false b9], [], by kernel_rfl, trivial, by kernel_rfl⟩) h

def law10_TridiagFull_i0 : Option law10_TridiagFull_X → Bool
  | some _ => true
  | none => false
def law10_TridiagFull_p0_0 : Option law10_TridiagFull_X → Bool
  | some (.r0 x) => x
  | _ => false
theorem law10_TridiagFull_e0 {x : Option law10_TridiagFull_X} (h : law10_TridiagFull_i0 x = true) : x = some (.r0 (law10_TridiagFull_p0_0 x)) := by
  unfold law10_TridiagFull_i0 at h
  split at h <;> first | rfl | (cases h; done) | (rename_i y; cases y; rfl)
noncomputable def e_law10_TridiagFull : Entry := autoE n_law10_TridiagFull (.cons (.agg (.cons .fl (.cons .fl .nil))) .nil) fun t => [⟨law10_TridiagFull_o (.r0 (law10_TridiagFull_p0_0 (law10_TridiagFull_F t.1.1.2 t.1.2.1.2))), [law10_TridiagFull_i0 (law10_TridiagFull_F t.1.1.2 t.1.2.1.2)]⟩]
theorem e_law10_TridiagFull_ok : EntryOk prog e_law10_TridiagFull := autoE_ok fun t => (altsCons (fun h => law10_TridiagFull_ok t.1.1.1 t.1.1.2 t.1.2.1.1 t.1.2.1.2 (law10_TridiagFull_e0 h)) altsNil)
noncomputable def L_law10_TridiagFull : List Entry := e_law10_TridiagFull :: L_ref10_Full
theorem L_law10_TridiagFull_ok : SumsOk prog (sumsOf L_law10_TridiagFull) := sumsOf_cons e_law10_TridiagFull_ok L_ref10_Full_ok

end
end Go.Plb.Seat

namespace Go.Plb.Seat
open Go Go.Plb
set_option linter.unusedVariables false
set_option maxRecDepth 100000
noncomputable section

inductive reflect_may_X where
  | r0 (b2 : Bool)
def reflect_may_E : reflect_may_X → AE × ASt
  | .r0 b2 => (.ret, ⟨slots 32 [(2, .bool false b2)], [], 0⟩)
theorem reflect_may_hN : NoN reflect_may_E := by intro x; cases x <;> (intro h; cases h)
theorem reflect_may_hI (id : Nat) : NoId id reflect_may_E := by intro x; cases x <;> (intro h; cases h)
def reflect_may_o : reflect_may_X → Out
  | .r0 b2 => ⟨.bool false b2, []⟩
noncomputable def reflect_may_l2 : List Code := flat (BODY n_reflect_may)
def reflect_may_n1 (b1 : Bool) : ASt := ⟨slots 32 [(2, .bool false b1)], [], 0⟩
def reflect_may_t3 (a_0 : Int) (a_1 : Int) (a_3 : List Nat) : T ((Bool) ⊕ (reflect_may_X)) :=
  .ask (decide (a_0 ≥ (0 : Int)))
    (.ask (decide (a_0 ≤ (512 : Int)))
      (.ask (decide (a_1 ≥ (0 : Int)))
        (.ask (decide (a_1 ≤ (512 : Int)))
          (.need (inK .i64 (a_0 * a_1)) <| .leaf (.inl ((((List.length a_3) : Nat) : Int) == (a_0 * a_1))))
          (.leaf (.inl false)))
        (.leaf (.inl false)))
      (.leaf (.inl false)))
    (.leaf (.inl false))
def reflect_may_t4 (b1 : Bool) : T ((Empty) ⊕ (reflect_may_X)) :=
  .leaf (.inr (.r0 b1))
noncomputable def reflect_may_F (a_0 : Int) (a_1 : Int) (a_3 : List Nat) : Option reflect_may_X := toX (seqM ((reflect_may_t3 a_0 a_1 a_3).run) fun b1 =>
  (reflect_may_t4 b1).run)
theorem reflect_may_ok (a_0 : Int) (a_1 : Int) (v_2 : Lv) (a_3 : List Nat) {x : reflect_may_X} (h : reflect_may_F a_0 a_1 a_3 = some x) : Contract prog n_reflect_may [] [.agg [.int .i64 a_0, .int .i64 a_1, .imm v_2 (.fl a_3) 1 1 0 (List.length a_3)]] (reflect_may_o x) :=
  Sg.contract false reflect_may_o (by kernel_rfl : prog.funcs[n_reflect_may]? = some (FN n_reflect_may)) (by kernel_rfl : (FN n_reflect_may).body = some (BODY n_reflect_may)) (Sg.cut 2 reflect_may_hN (Sg.seg (C := C0) C0_ok L_law10_TridiagFull_ok 60 (reflect_may_l2.take 2) (entryOf (FN n_reflect_may) [] [.agg [.int .i64 a_0, .int .i64 a_1, .imm v_2 (.fl a_3) 1 1 0 (List.length a_3)]]) (reflect_may_t3 a_0 a_1 a_3) reflect_may_n1 reflect_may_E [⟨[], [], [2]⟩, ⟨[], [], [2]⟩, ⟨[], [], [2]⟩, ⟨[], [], [2]⟩, ⟨[], [], [2]⟩] (by kernel_rfl)) (fun b1 => by exact Sg.seg (C := C0) C0_ok L_law10_TridiagFull_ok 60 (reflect_may_l2.drop 2) (reflect_may_n1 b1) (reflect_may_t4 b1) (fun a : Empty => a.elim) reflect_may_E [⟨[], [], [2]⟩] (by kernel_rfl)))
    (fun x => by cases x with | r0 b2 => exact ⟨.inr rfl, [.bool false b2], [], by kernel_rfl, trivial, by kernel_rfl⟩) h

def reflect_may_i0 : Option reflect_may_X → Bool
  | some _ => true
  | none => false
def reflect_may_p0_0 : Option reflect_may_X → Bool
  | some (.r0 x) => x
  | _ => false
theorem reflect_may_e0 {x : Option reflect_may_X} (h : reflect_may_i0 x = true) : x = some (.r0 (reflect_may_p0_0 x)) := by
  unfold reflect_may_i0 at h
  split at h <;> first | rfl | (cases h; done) | (rename_i y; cases y; rfl)
noncomputable def e_reflect_may : Entry := autoE n_reflect_may (.cons (.agg (.cons (.int .i64) (.cons (.int .i64) (.cons .fl .nil)))) .nil) fun t => [⟨reflect_may_o (.r0 (reflect_may_p0_0 (reflect_may_F t.1.1 t.1.2.1 t.1.2.2.1.2))), [reflect_may_i0 (reflect_may_F t.1.1 t.1.2.1 t.1.2.2.1.2)]⟩]
theorem e_reflect_may_ok : EntryOk prog e_reflect_may := autoE_ok fun t => (altsCons (fun h => reflect_may_ok t.1.1 t.1.2.1 t.1.2.2.1.1 t.1.2.2.1.2 (reflect_may_e0 h)) altsNil)
noncomputable def L_reflect_may : List Entry := e_reflect_may :: L_law10_TridiagFull
theorem L_reflect_may_ok : SumsOk prog (sumsOf L_reflect_may) := sumsOf_cons e_reflect_may_ok L_law10_TridiagFull_ok

inductive reflect_sum_of_reflect_Left_1_X where
  | r0 (a4 : Nat)
def reflect_sum_of_reflect_Left_1_E : reflect_sum_of_reflect_Left_1_X → AE × ASt
  | .r0 a4 => (.ret, ⟨slots 18 [(4, .flt false a4)], [], 0⟩)
theorem reflect_sum_of_reflect_Left_1_hN : NoN reflect_sum_of_reflect_Left_1_E := by intro x; cases x <;> (intro h; cases h)
theorem reflect_sum_of_reflect_Left_1_hI (id : Nat) : NoId id reflect_sum_of_reflect_Left_1_E := by intro x; cases x <;> (intro h; cases h)
def reflect_sum_of_reflect_Left_1_o : reflect_sum_of_reflect_Left_1_X → Out
  | .r0 a4 => ⟨.flt false a4, []⟩
noncomputable def reflect_sum_of_reflect_Left_1_l6 : List Code := flat (BODY n_reflect_sum)
def reflect_sum_of_reflect_Left_1_n1 (n_0 : Int) (v_1 : Lv) (v_2 : Lv) (one_3 : List Nat) (one_4 : Nat) (v_5 : Lv) (one_6 : Int) (one_7 : Int) (v_8 : Lv) (one_9 : List Nat) (v_10 : Lv) (one_11 : Int) (v_12 : Lv) (one_13 : Int) (_ : Unit) : ASt := ⟨slots 18 [(1, .fn (.func n_reflect_Left_1) [] [.iptr v_1 (.vs [.imm v_2 (.fl one_3) 1 1 0 (List.length one_3), .flt false one_4]) 1 0 0, .iptr v_5 (.vs [.int .i64 one_6, .int .i64 one_7, .imm v_8 (.fl one_9) 1 1 0 (List.length one_9)]) 1 0 0, .iptr v_10 (.vs [.int .i64 one_11]) 1 0 0, .iptr v_12 (.vs [.int .i64 one_13]) 1 0 0]), (5, .flt false 0), (7, .int .i64 n_0), (8, .int .i64 (0 : Int))], [], 0⟩
def reflect_sum_of_reflect_Left_1_t7 : T ((Unit) ⊕ (reflect_sum_of_reflect_Left_1_X)) :=
  .leaf (.inl ())
def reflect_sum_of_reflect_Left_1_n3 (n_0 : Int) (v_1 : Lv) (v_2 : Lv) (one_3 : List Nat) (one_4 : Nat) (v_5 : Lv) (one_6 : Int) (one_7 : Int) (v_8 : Lv) (one_9 : List Nat) (v_10 : Lv) (one_11 : Int) (v_12 : Lv) (one_13 : Int) : Nat × Nat → ASt := fun (s1, a2) => ⟨slots 18 [(1, .fn (.func n_reflect_Left_1) [] [.iptr v_1 (.vs [.imm v_2 (.fl one_3) 1 1 0 (List.length one_3), .flt false one_4]) 1 0 0, .iptr v_5 (.vs [.int .i64 one_6, .int .i64 one_7, .imm v_8 (.fl one_9) 1 1 0 (List.length one_9)]) 1 0 0, .iptr v_10 (.vs [.int .i64 one_11]) 1 0 0, .iptr v_12 (.vs [.int .i64 one_13]) 1 0 0]), (5, .flt false s1), (7, .int .i64 n_0), (8, .int .i64 ((a2 : Nat) : Int))], [], 0⟩
def reflect_sum_of_reflect_Left_1_n4 (s3 : Nat) : ASt := ⟨slots 18 [(5, .flt false s3)], [], 0⟩
noncomputable def reflect_sum_of_reflect_Left_1_l8 : List Code := flat (inLoop ((((reflect_sum_of_reflect_Left_1_l6.drop 3).take 1)).headD .skip))
def reflect_sum_of_reflect_Left_1_t9 (n_0 : Int) (one_3 : List Nat) (one_7 : Int) (one_9 : List Nat) (one_11 : Int) (one_13 : Int) (s1 : Nat) (a2 : Nat) : T ((Nat × Nat) ⊕ ((Nat) ⊕ (reflect_sum_of_reflect_Left_1_X))) :=
  .ask (decide (((a2 : Nat) : Int) < n_0))
    (.need (inB ((a2 : Nat) : Int) (List.length one_3)) <| .need (ltB a2 (List.length one_3)) <| .need (inK .i64 (one_11 + ((a2 : Nat) : Int))) <| .need (inK .i64 ((one_11 + ((a2 : Nat) : Int)) * one_7)) <| .need (inK .i64 (((one_11 + ((a2 : Nat) : Int)) * one_7) + one_13)) <| .need (inB (((one_11 + ((a2 : Nat) : Int)) * one_7) + one_13) (List.length one_9)) <| .need (ltB (Int.toNat (((one_11 + ((a2 : Nat) : Int)) * one_7) + one_13)) (List.length one_9)) <| .need (inK .i64 (((a2 + 1) : Nat) : Int)) <| .leaf (.inl ((fadd s1 (fmul (List.getD one_3 a2 0) (List.getD one_9 (Int.toNat (((one_11 + ((a2 : Nat) : Int)) * one_7) + one_13)) 0))), (a2 + 1))))
    (.leaf (.inr (.inl s1)))
noncomputable def reflect_sum_of_reflect_Left_1_m10 (n_0 : Int) (one_3 : List Nat) (one_7 : Int) (one_9 : List Nat) (one_11 : Int) (one_13 : Int) : Nat × Nat → Option ((Nat × Nat) ⊕ ((Nat) ⊕ (reflect_sum_of_reflect_Left_1_X))) := fun (s1, a2) =>
  (reflect_sum_of_reflect_Left_1_t9 n_0 one_3 one_7 one_9 one_11 one_13 s1 a2).run
theorem reflect_sum_of_reflect_Left_1_s10 (n_0 : Int) (v_1 : Lv) (v_2 : Lv) (one_3 : List Nat) (one_4 : Nat) (v_5 : Lv) (one_6 : Int) (one_7 : Int) (v_8 : Lv) (one_9 : List Nat) (v_10 : Lv) (one_11 : Int) (v_12 : Lv) (one_13 : Int) (s1 : Nat) (a2 : Nat) : Sg prog [] reflect_sum_of_reflect_Left_1_l8 (reflect_sum_of_reflect_Left_1_n3 n_0 v_1 v_2 one_3 one_4 v_5 one_6 one_7 v_8 one_9 v_10 one_11 v_12 one_13 (s1, a2)) (reflect_sum_of_reflect_Left_1_m10 n_0 one_3 one_7 one_9 one_11 one_13 (s1, a2)) (reflect_sum_of_reflect_Left_1_n3 n_0 v_1 v_2 one_3 one_4 v_5 one_6 one_7 v_8 one_9 v_10 one_11 v_12 one_13) (exitE 0 reflect_sum_of_reflect_Left_1_n4 reflect_sum_of_reflect_Left_1_E) := by
  unfold reflect_sum_of_reflect_Left_1_m10; exact Sg.seg (C := C0) C0_ok L_reflect_may_ok 60 reflect_sum_of_reflect_Left_1_l8 (reflect_sum_of_reflect_Left_1_n3 n_0 v_1 v_2 one_3 one_4 v_5 one_6 one_7 v_8 one_9 v_10 one_11 v_12 one_13 (s1, a2)) (reflect_sum_of_reflect_Left_1_t9 n_0 one_3 one_7 one_9 one_11 one_13 s1 a2) (reflect_sum_of_reflect_Left_1_n3 n_0 v_1 v_2 one_3 one_4 v_5 one_6 one_7 v_8 one_9 v_10 one_11 v_12 one_13) (exitE 0 reflect_sum_of_reflect_Left_1_n4 reflect_sum_of_reflect_Left_1_E) [⟨[], [], [1, 5, 7, 8]⟩, ⟨[], [], [5]⟩] (by kernel_rfl)
def reflect_sum_of_reflect_Left_1_n5 : Nat → ASt := reflect_sum_of_reflect_Left_1_n4
def reflect_sum_of_reflect_Left_1_t11 (s3 : Nat) : T ((Empty) ⊕ (reflect_sum_of_reflect_Left_1_X)) :=
  .leaf (.inr (.r0 s3))
noncomputable def reflect_sum_of_reflect_Left_1_F (n_0 : Int) (one_3 : List Nat) (one_7 : Int) (one_9 : List Nat) (one_11 : Int) (one_13 : Int) : Option reflect_sum_of_reflect_Left_1_X := toX (seqM ((reflect_sum_of_reflect_Left_1_t7).run) fun _ =>
  seqM (loopM (reflect_sum_of_reflect_Left_1_m10 n_0 one_3 one_7 one_9 one_11 one_13) (0, 0)) fun s3 =>
  (reflect_sum_of_reflect_Left_1_t11 s3).run)
theorem reflect_sum_of_reflect_Left_1_ok (n_0 : Int) (v_1 : Lv) (v_2 : Lv) (one_3 : List Nat) (one_4 : Nat) (v_5 : Lv) (one_6 : Int) (one_7 : Int) (v_8 : Lv) (one_9 : List Nat) (v_10 : Lv) (one_11 : Int) (v_12 : Lv) (one_13 : Int) {x : reflect_sum_of_reflect_Left_1_X} (h : reflect_sum_of_reflect_Left_1_F n_0 one_3 one_7 one_9 one_11 one_13 = some x) : Contract prog n_reflect_sum [] [.int .i64 n_0, .fn (.func n_reflect_Left_1) [] [.iptr v_1 (.vs [.imm v_2 (.fl one_3) 1 1 0 (List.length one_3), .flt false one_4]) 1 0 0, .iptr v_5 (.vs [.int .i64 one_6, .int .i64 one_7, .imm v_8 (.fl one_9) 1 1 0 (List.length one_9)]) 1 0 0, .iptr v_10 (.vs [.int .i64 one_11]) 1 0 0, .iptr v_12 (.vs [.int .i64 one_13]) 1 0 0]] (reflect_sum_of_reflect_Left_1_o x) :=
  Sg.contract false reflect_sum_of_reflect_Left_1_o (by kernel_rfl : prog.funcs[n_reflect_sum]? = some (FN n_reflect_sum)) (by kernel_rfl : (FN n_reflect_sum).body = some (BODY n_reflect_sum)) (Sg.cut 3 reflect_sum_of_reflect_Left_1_hN (Sg.seg (C := C0) C0_ok L_reflect_may_ok 60 (reflect_sum_of_reflect_Left_1_l6.take 3) (entryOf (FN n_reflect_sum) [] [.int .i64 n_0, .fn (.func n_reflect_Left_1) [] [.iptr v_1 (.vs [.imm v_2 (.fl one_3) 1 1 0 (List.length one_3), .flt false one_4]) 1 0 0, .iptr v_5 (.vs [.int .i64 one_6, .int .i64 one_7, .imm v_8 (.fl one_9) 1 1 0 (List.length one_9)]) 1 0 0, .iptr v_10 (.vs [.int .i64 one_11]) 1 0 0, .iptr v_12 (.vs [.int .i64 one_13]) 1 0 0]]) (reflect_sum_of_reflect_Left_1_t7) (reflect_sum_of_reflect_Left_1_n1 n_0 v_1 v_2 one_3 one_4 v_5 one_6 one_7 v_8 one_9 v_10 one_11 v_12 one_13) reflect_sum_of_reflect_Left_1_E [⟨[], [], [1, 5, 7, 8]⟩] (by kernel_rfl)) (fun a => by cases a; exact Sg.cut 1 reflect_sum_of_reflect_Left_1_hN (Sg.pre ⟨[], [], [1, 5, 7, 8]⟩ rfl (by kernel_rfl : NS.on ⟨[], [], [1, 5, 7, 8]⟩ (reflect_sum_of_reflect_Left_1_n1 n_0 v_1 v_2 one_3 one_4 v_5 one_6 one_7 v_8 one_9 v_10 one_11 v_12 one_13 ()) = (reflect_sum_of_reflect_Left_1_n3 n_0 v_1 v_2 one_3 one_4 v_5 one_6 one_7 v_8 one_9 v_10 one_11 v_12 one_13) (0, 0)) (Sg.loopAt (I := (reflect_sum_of_reflect_Left_1_n3 n_0 v_1 v_2 one_3 one_4 v_5 one_6 one_7 v_8 one_9 v_10 one_11 v_12 one_13)) (J := (reflect_sum_of_reflect_Left_1_n4)) (id := 0) (by kernel_rfl : ((reflect_sum_of_reflect_Left_1_l6.drop 3).take 1) = [.block 0 (.loop (inLoop ((((reflect_sum_of_reflect_Left_1_l6.drop 3).take 1)).headD .skip)))]) reflect_sum_of_reflect_Left_1_hN (reflect_sum_of_reflect_Left_1_hI _) (fun s => by obtain ⟨s1, a2⟩ := s; exact reflect_sum_of_reflect_Left_1_s10 n_0 v_1 v_2 one_3 one_4 v_5 one_6 one_7 v_8 one_9 v_10 one_11 v_12 one_13 s1 a2) (0, 0))) (fun s3 => by exact Sg.seg (C := C0) C0_ok L_reflect_may_ok 60 ((reflect_sum_of_reflect_Left_1_l6.drop 3).drop 1) (reflect_sum_of_reflect_Left_1_n5 s3) (reflect_sum_of_reflect_Left_1_t11 s3) (fun a : Empty => a.elim) reflect_sum_of_reflect_Left_1_E [⟨[], [], [4]⟩] (by kernel_rfl))))
    (fun x => by cases x with | r0 a4 => exact ⟨.inr rfl, [.flt false a4], [], by kernel_rfl, trivial, by kernel_rfl⟩) h

def reflect_sum_of_reflect_Left_1_i0 : Option reflect_sum_of_reflect_Left_1_X → Bool
  | some _ => true
  | none => false
def reflect_sum_of_reflect_Left_1_p0_0 : Option reflect_sum_of_reflect_Left_1_X → Nat
  | some (.r0 x) => x
  | _ => 0
theorem reflect_sum_of_reflect_Left_1_e0 {x : Option reflect_sum_of_reflect_Left_1_X} (h : reflect_sum_of_reflect_Left_1_i0 x = true) : x = some (.r0 (reflect_sum_of_reflect_Left_1_p0_0 x)) := by
  unfold reflect_sum_of_reflect_Left_1_i0 at h
  split at h <;> first | rfl | (cases h; done) | (rename_i y; cases y; rfl)
noncomputable def e_reflect_sum_of_reflect_Left_1 : Entry := autoE n_reflect_sum (.cons (.int .i64) (.cons (.fn n_reflect_Left_1 .nil (.cons (.ivs (.cons .fl (.cons (.flt false) .nil)) 1 0 0) (.cons (.ivs (.cons (.int .i64) (.cons (.int .i64) (.cons .fl .nil))) 1 0 0) (.cons (.ivs (.cons (.int .i64) .nil) 1 0 0) (.cons (.ivs (.cons (.int .i64) .nil) 1 0 0) .nil))))) .nil)) fun t => [⟨reflect_sum_of_reflect_Left_1_o (.r0 (reflect_sum_of_reflect_Left_1_p0_0 (reflect_sum_of_reflect_Left_1_F t.1 t.2.1.2.1.2.1.2 t.2.1.2.2.1.2.2.1 t.2.1.2.2.1.2.2.2.1.2 t.2.1.2.2.2.1.2.1 t.2.1.2.2.2.2.1.2.1))), [reflect_sum_of_reflect_Left_1_i0 (reflect_sum_of_reflect_Left_1_F t.1 t.2.1.2.1.2.1.2 t.2.1.2.2.1.2.2.1 t.2.1.2.2.1.2.2.2.1.2 t.2.1.2.2.2.1.2.1 t.2.1.2.2.2.2.1.2.1)]⟩]
theorem e_reflect_sum_of_reflect_Left_1_ok : EntryOk prog e_reflect_sum_of_reflect_Left_1 := autoE_ok fun t => (altsCons (fun h => reflect_sum_of_reflect_Left_1_ok t.1 t.2.1.2.1.1 t.2.1.2.1.2.1.1 t.2.1.2.1.2.1.2 t.2.1.2.1.2.2.1 t.2.1.2.2.1.1 t.2.1.2.2.1.2.1 t.2.1.2.2.1.2.2.1 t.2.1.2.2.1.2.2.2.1.1 t.2.1.2.2.1.2.2.2.1.2 t.2.1.2.2.2.1.1 t.2.1.2.2.2.1.2.1 t.2.1.2.2.2.2.1.1 t.2.1.2.2.2.2.1.2.1 (reflect_sum_of_reflect_Left_1_e0 h)) altsNil)
noncomputable def L_reflect_sum_of_reflect_Left_1 : List Entry := e_reflect_sum_of_reflect_Left_1 :: L_reflect_may
theorem L_reflect_sum_of_reflect_Left_1_ok : SumsOk prog (sumsOf L_reflect_sum_of_reflect_Left_1) := sumsOf_cons e_reflect_sum_of_reflect_Left_1_ok L_reflect_may_ok

inductive reflect_Left_X where
  | r0 (a18 : Nat)
  | r1 (i19 : Int) (i20 : Int) (a21 : Nat) (l22 : List Nat)
def reflect_Left_E : reflect_Left_X → AE × ASt
  | .r0 a18 => (.ret, ⟨slots 103 [(8, .ptr 0 1 0 0), (9, .int .i64 ((a18 : Nat) : Int))], [(0, .vs [.int .i64 (0 : Int), .int .i64 (0 : Int), .nsl])], 1⟩)
  | .r1 i19 i20 a21 l22 => (.ret, ⟨slots 103 [(8, .ptr 0 1 0 0), (9, .int .i64 (0 : Int))], [(0, .vs [.int .i64 i19, .int .i64 i20, .sl 1 1 1 0 a21 a21]), (1, .fl l22)], 2⟩)
theorem reflect_Left_hN : NoN reflect_Left_E := by intro x; cases x <;> (intro h; cases h)
theorem reflect_Left_hI (id : Nat) : NoId id reflect_Left_E := by intro x; cases x <;> (intro h; cases h)
def reflect_Left_o : reflect_Left_X → Out
  | .r0 a18 => ⟨.tup [.agg [.int .i64 (0 : Int), .int .i64 (0 : Int), .nsl], .int .i64 ((a18 : Nat) : Int)], []⟩
  | .r1 i19 i20 a21 l22 => ⟨.tup [.agg [.int .i64 i19, .int .i64 i20, .sl 0 1 1 0 a21 a21], .int .i64 (0 : Int)], [some (.fl l22)]⟩
noncomputable def reflect_Left_l26 : List Code := flat (BODY n_reflect_Left)
def reflect_Left_n1 (a_0 : Int) (a_1 : Int) (v_2 : Lv) (a_3 : List Nat) (at_4 : Int) (from_5 : Int) (v_6 : Lv) (h_7 : List Nat) (h_8 : Nat) (b1 : Bool) : ASt := ⟨slots 103 [(2, .int .i64 from_5), (4, .ptr 0 1 0 0), (5, .ptr 1 1 0 0), (7, .ptr 2 1 0 0), (8, .ptr 3 1 0 0), (31, .bool false b1)], [(0, .vs [.int .i64 a_0, .int .i64 a_1, .imm v_2 (.fl a_3) 1 1 0 (List.length a_3)]), (1, .vs [.int .i64 at_4]), (2, .vs [.imm v_6 (.fl h_7) 1 1 0 (List.length h_7), .flt false h_8]), (3, .vs [.int .i64 (0 : Int), .int .i64 (0 : Int), .nsl])], 4⟩
def reflect_Left_t27 (a_0 : Int) (a_1 : Int) (a_3 : List Nat) (at_4 : Int) (from_5 : Int) (h_7 : List Nat) : T ((Bool) ⊕ (reflect_Left_X)) :=
  .need (slOk 0 (List.length a_3) a_3) <| .need (reflect_may_i0 (reflect_may_F a_0 a_1 (cutL 0 (List.length a_3) a_3))) <| .ask (!(reflect_may_p0_0 (reflect_may_F a_0 a_1 (cutL 0 (List.length a_3) a_3))))
    (.leaf (.inl true))
    (.ask ((((List.length h_7) : Nat) : Int) == (0 : Int))
      (.leaf (.inl true))
      (.ask (decide (at_4 < (0 : Int)))
        (.leaf (.inl true))
        (.leaf (.inl (decide (from_5 < (0 : Int)))))))
def reflect_Left_n2 (a_0 : Int) (a_1 : Int) (v_2 : Lv) (a_3 : List Nat) (at_4 : Int) (from_5 : Int) (v_6 : Lv) (h_7 : List Nat) (h_8 : Nat) (b2 : Bool) : ASt := ⟨slots 103 [(2, .int .i64 from_5), (4, .ptr 0 1 0 0), (5, .ptr 1 1 0 0), (7, .ptr 2 1 0 0), (8, .ptr 3 1 0 0), (46, .bool false b2)], [(0, .vs [.int .i64 a_0, .int .i64 a_1, .imm v_2 (.fl a_3) 1 1 0 (List.length a_3)]), (1, .vs [.int .i64 at_4]), (2, .vs [.imm v_6 (.fl h_7) 1 1 0 (List.length h_7), .flt false h_8]), (3, .vs [.int .i64 (0 : Int), .int .i64 (0 : Int), .nsl])], 4⟩
def reflect_Left_t28 (a_0 : Int) (a_1 : Int) (at_4 : Int) (from_5 : Int) (h_7 : List Nat) (b1 : Bool) : T ((Bool) ⊕ (reflect_Left_X)) :=
  .ask b1
    (.leaf (.inr (.r0 2)))
    (.need (inK .i64 (a_0 - (((List.length h_7) : Nat) : Int))) <| .ask (decide (at_4 > (a_0 - (((List.length h_7) : Nat) : Int))))
      (.leaf (.inl true))
      (.leaf (.inl (decide (from_5 > a_1)))))
def reflect_Left_n3 (a_0 : Int) (a_1 : Int) (v_2 : Lv) (a_3 : List Nat) (at_4 : Int) (from_5 : Int) (v_6 : Lv) (h_7 : List Nat) (h_8 : Nat) : Nat × (List Nat) → ASt := fun (a3, l4) => ⟨slots 103 [(4, .ptr 0 1 0 0), (5, .ptr 1 1 0 0), (7, .ptr 2 1 0 0), (8, .ptr 3 1 0 0), (10, .ptr 4 1 0 0), (11, .ptr 5 1 0 0)], [(0, .vs [.int .i64 a_0, .int .i64 a_1, .imm v_2 (.fl a_3) 1 1 0 (List.length a_3)]), (1, .vs [.int .i64 at_4]), (2, .vs [.imm v_6 (.fl h_7) 1 1 0 (List.length h_7), .flt false h_8]), (3, .vs [.int .i64 (0 : Int), .int .i64 (0 : Int), .nsl]), (4, .vs [.int .i64 a_0, .int .i64 a_1, .sl 6 1 1 0 a3 a3]), (5, .vs [.int .i64 from_5]), (6, .fl l4)], 7⟩
def reflect_Left_t29 (a_0 : Int) (a_1 : Int) (a_3 : List Nat) (h_8 : Nat) (b2 : Bool) : T ((Nat × (List Nat)) ⊕ (reflect_Left_X)) :=
  .ask b2
    (.leaf (.inr (.r0 8)))
    (.need (slOk 0 (List.length a_3) a_3) <| .need (lenOk (List.length (cutL 0 (List.length a_3) a_3))) <| .ask (feq h_8 0)
      (.leaf (.inr (.r1 a_0 a_1 (List.length (cutL 0 (List.length a_3) a_3)) (cutL 0 (List.length a_3) a_3))))
      (.leaf (.inl ((List.length (cutL 0 (List.length a_3) a_3)), (cutL 0 (List.length a_3) a_3)))))
def reflect_Left_n14 (a_0 : Int) (a_1 : Int) (v_2 : Lv) (a_3 : List Nat) (at_4 : Int) (v_6 : Lv) (h_7 : List Nat) (h_8 : Nat) (a3 : Nat) : Int × (List Nat) → ASt := fun (i10, l11) => ⟨slots 103 [(4, .ptr 0 1 0 0), (5, .ptr 1 1 0 0), (7, .ptr 2 1 0 0), (8, .ptr 3 1 0 0), (10, .ptr 4 1 0 0), (11, .ptr 5 1 0 0)], [(0, .vs [.int .i64 a_0, .int .i64 a_1, .imm v_2 (.fl a_3) 1 1 0 (List.length a_3)]), (1, .vs [.int .i64 at_4]), (2, .vs [.imm v_6 (.fl h_7) 1 1 0 (List.length h_7), .flt false h_8]), (3, .vs [.int .i64 (0 : Int), .int .i64 (0 : Int), .nsl]), (4, .vs [.int .i64 a_0, .int .i64 a_1, .sl 6 1 1 0 a3 a3]), (5, .vs [.int .i64 i10]), (6, .fl l11)], 7⟩
def reflect_Left_n24 (a_0 : Int) (a_1 : Int) (a3 : Nat) (l17 : (List Nat)) : ASt := ⟨slots 103 [(8, .ptr 0 1 0 0), (10, .ptr 1 1 0 0)], [(0, .vs [.int .i64 (0 : Int), .int .i64 (0 : Int), .nsl]), (1, .vs [.int .i64 a_0, .int .i64 a_1, .sl 2 1 1 0 a3 a3]), (2, .fl l17)], 3⟩
noncomputable def reflect_Left_l30 : List Code := flat (inLoop ((((((reflect_Left_l26.drop 2).drop 2).drop 5).take 1)).headD .skip))
def reflect_Left_n15 (a_0 : Int) (a_1 : Int) (v_2 : Lv) (a_3 : List Nat) (at_4 : Int) (v_6 : Lv) (h_7 : List Nat) (h_8 : Nat) (a3 : Nat) (i10 : Int) (l11 : List Nat) (_ : Unit) : ASt := ⟨slots 103 [(4, .ptr 0 1 0 0), (5, .ptr 1 1 0 0), (7, .ptr 2 1 0 0), (8, .ptr 3 1 0 0), (10, .ptr 4 1 0 0), (11, .ptr 5 1 0 0)], [(0, .vs [.int .i64 a_0, .int .i64 a_1, .imm v_2 (.fl a_3) 1 1 0 (List.length a_3)]), (1, .vs [.int .i64 at_4]), (2, .vs [.imm v_6 (.fl h_7) 1 1 0 (List.length h_7), .flt false h_8]), (3, .vs [.int .i64 (0 : Int), .int .i64 (0 : Int), .nsl]), (4, .vs [.int .i64 a_0, .int .i64 a_1, .sl 6 1 1 0 a3 a3]), (5, .vs [.int .i64 i10]), (6, .fl l11)], 7⟩
def reflect_Left_t31 (a_1 : Int) (i10 : Int) (l11 : List Nat) : T ((Unit) ⊕ (((List Nat)) ⊕ (reflect_Left_X))) :=
  .ask (decide (i10 < a_1))
    (.leaf (.inl ()))
    (.leaf (.inr (.inl l11)))
def reflect_Left_n22 (a_0 : Int) (a_1 : Int) (v_2 : Lv) (a_3 : List Nat) (at_4 : Int) (v_6 : Lv) (h_7 : List Nat) (h_8 : Nat) (a3 : Nat) (i10 : Int) (l16 : (List Nat)) : ASt := ⟨slots 103 [(4, .ptr 0 1 0 0), (5, .ptr 1 1 0 0), (7, .ptr 2 1 0 0), (8, .ptr 3 1 0 0), (10, .ptr 4 1 0 0), (11, .ptr 5 1 0 0)], [(0, .vs [.int .i64 a_0, .int .i64 a_1, .imm v_2 (.fl a_3) 1 1 0 (List.length a_3)]), (1, .vs [.int .i64 at_4]), (2, .vs [.imm v_6 (.fl h_7) 1 1 0 (List.length h_7), .flt false h_8]), (3, .vs [.int .i64 (0 : Int), .int .i64 (0 : Int), .nsl]), (4, .vs [.int .i64 a_0, .int .i64 a_1, .sl 6 1 1 0 a3 a3]), (5, .vs [.int .i64 i10]), (6, .fl l16)], 7⟩
noncomputable def reflect_Left_l32 : List Code := flat (inBlock ((((reflect_Left_l30.drop 2).take 1)).headD .skip))
def reflect_Left_n16 (a_0 : Int) (a_1 : Int) (v_2 : Lv) (a_3 : List Nat) (at_4 : Int) (v_6 : Lv) (h_7 : List Nat) (h_8 : Nat) (a3 : Nat) (i10 : Int) (l11 : List Nat) (w12 : Nat) : ASt := ⟨slots 103 [(4, .ptr 0 1 0 0), (5, .ptr 1 1 0 0), (7, .ptr 2 1 0 0), (8, .ptr 3 1 0 0), (10, .ptr 4 1 0 0), (11, .ptr 5 1 0 0), (12, .flt false w12)], [(0, .vs [.int .i64 a_0, .int .i64 a_1, .imm v_2 (.fl a_3) 1 1 0 (List.length a_3)]), (1, .vs [.int .i64 at_4]), (2, .vs [.imm v_6 (.fl h_7) 1 1 0 (List.length h_7), .flt false h_8]), (3, .vs [.int .i64 (0 : Int), .int .i64 (0 : Int), .nsl]), (4, .vs [.int .i64 a_0, .int .i64 a_1, .sl 6 1 1 0 a3 a3]), (5, .vs [.int .i64 i10]), (6, .fl l11)], 7⟩
def reflect_Left_t33 (a_1 : Int) (a_3 : List Nat) (at_4 : Int) (h_7 : List Nat) (h_8 : Nat) (i10 : Int) : T ((Nat) ⊕ (((List Nat)) ⊕ (((List Nat)) ⊕ (reflect_Left_X)))) :=
  .need (slOk 0 (List.length h_7) h_7) <| .need (slOk 0 (List.length a_3) a_3) <| .need (reflect_sum_of_reflect_Left_1_i0 (reflect_sum_of_reflect_Left_1_F (((List.length h_7) : Nat) : Int) (cutL 0 (List.length h_7) h_7) a_1 (cutL 0 (List.length a_3) a_3) at_4 i10)) <| .leaf (.inl (fmul h_8 (reflect_sum_of_reflect_Left_1_p0_0 (reflect_sum_of_reflect_Left_1_F (((List.length h_7) : Nat) : Int) (cutL 0 (List.length h_7) h_7) a_1 (cutL 0 (List.length a_3) a_3) at_4 i10))))
def reflect_Left_n17 (a_0 : Int) (a_1 : Int) (v_2 : Lv) (a_3 : List Nat) (at_4 : Int) (v_6 : Lv) (h_7 : List Nat) (h_8 : Nat) (a3 : Nat) (i10 : Int) (l11 : List Nat) (w12 : Nat) (_ : Unit) : ASt := ⟨slots 103 [(4, .ptr 0 1 0 0), (5, .ptr 1 1 0 0), (7, .ptr 2 1 0 0), (8, .ptr 3 1 0 0), (10, .ptr 4 1 0 0), (11, .ptr 5 1 0 0), (12, .flt false w12), (76, .imm v_6 (.fl h_7) 1 1 0 (List.length h_7)), (77, .int .i64 (((List.length h_7) : Nat) : Int)), (78, .int .i64 (0 : Int))], [(0, .vs [.int .i64 a_0, .int .i64 a_1, .imm v_2 (.fl a_3) 1 1 0 (List.length a_3)]), (1, .vs [.int .i64 at_4]), (2, .vs [.imm v_6 (.fl h_7) 1 1 0 (List.length h_7), .flt false h_8]), (3, .vs [.int .i64 (0 : Int), .int .i64 (0 : Int), .nsl]), (4, .vs [.int .i64 a_0, .int .i64 a_1, .sl 6 1 1 0 a3 a3]), (5, .vs [.int .i64 i10]), (6, .fl l11)], 7⟩
def reflect_Left_t34 : T ((Unit) ⊕ (((List Nat)) ⊕ (((List Nat)) ⊕ (reflect_Left_X)))) :=
  .leaf (.inl ())
def reflect_Left_n19 (a_0 : Int) (a_1 : Int) (v_2 : Lv) (a_3 : List Nat) (at_4 : Int) (v_6 : Lv) (h_7 : List Nat) (h_8 : Nat) (a3 : Nat) (i10 : Int) (w12 : Nat) : Nat × (List Nat) → ASt := fun (a13, l14) => ⟨slots 103 [(4, .ptr 0 1 0 0), (5, .ptr 1 1 0 0), (7, .ptr 2 1 0 0), (8, .ptr 3 1 0 0), (10, .ptr 4 1 0 0), (11, .ptr 5 1 0 0), (12, .flt false w12), (76, .imm v_6 (.fl h_7) 1 1 0 (List.length h_7)), (77, .int .i64 (((List.length h_7) : Nat) : Int)), (78, .int .i64 ((a13 : Nat) : Int))], [(0, .vs [.int .i64 a_0, .int .i64 a_1, .imm v_2 (.fl a_3) 1 1 0 (List.length a_3)]), (1, .vs [.int .i64 at_4]), (2, .vs [.imm v_6 (.fl h_7) 1 1 0 (List.length h_7), .flt false h_8]), (3, .vs [.int .i64 (0 : Int), .int .i64 (0 : Int), .nsl]), (4, .vs [.int .i64 a_0, .int .i64 a_1, .sl 6 1 1 0 a3 a3]), (5, .vs [.int .i64 i10]), (6, .fl l14)], 7⟩
def reflect_Left_n20 (a_0 : Int) (a_1 : Int) (v_2 : Lv) (a_3 : List Nat) (at_4 : Int) (v_6 : Lv) (h_7 : List Nat) (h_8 : Nat) (a3 : Nat) (i10 : Int) (l15 : (List Nat)) : ASt := ⟨slots 103 [(4, .ptr 0 1 0 0), (5, .ptr 1 1 0 0), (7, .ptr 2 1 0 0), (8, .ptr 3 1 0 0), (10, .ptr 4 1 0 0), (11, .ptr 5 1 0 0)], [(0, .vs [.int .i64 a_0, .int .i64 a_1, .imm v_2 (.fl a_3) 1 1 0 (List.length a_3)]), (1, .vs [.int .i64 at_4]), (2, .vs [.imm v_6 (.fl h_7) 1 1 0 (List.length h_7), .flt false h_8]), (3, .vs [.int .i64 (0 : Int), .int .i64 (0 : Int), .nsl]), (4, .vs [.int .i64 a_0, .int .i64 a_1, .sl 6 1 1 0 a3 a3]), (5, .vs [.int .i64 i10]), (6, .fl l15)], 7⟩
noncomputable def reflect_Left_l35 : List Code := flat (inLoop (((((reflect_Left_l32.drop 1).drop 1).take 1)).headD .skip))
def reflect_Left_t36 (a_1 : Int) (at_4 : Int) (h_7 : List Nat) (a3 : Nat) (i10 : Int) (w12 : Nat) (a13 : Nat) (l14 : List Nat) : T ((Nat × (List Nat)) ⊕ (((List Nat)) ⊕ (((List Nat)) ⊕ (((List Nat)) ⊕ (reflect_Left_X))))) :=
  .ask (decide (((a13 : Nat) : Int) < (((List.length h_7) : Nat) : Int)))
    (.need (inB ((a13 : Nat) : Int) (List.length h_7)) <| .need (ltB a13 (List.length h_7)) <| .need (inK .i64 (at_4 + ((a13 : Nat) : Int))) <| .need (inK .i64 ((at_4 + ((a13 : Nat) : Int)) * a_1)) <| .need (inK .i64 (((at_4 + ((a13 : Nat) : Int)) * a_1) + i10)) <| .need (inB (((at_4 + ((a13 : Nat) : Int)) * a_1) + i10) a3) <| .need (ltB (Int.toNat (((at_4 + ((a13 : Nat) : Int)) * a_1) + i10)) (List.length l14)) <| .need (inB (((at_4 + ((a13 : Nat) : Int)) * a_1) + i10) a3) <| .need (ltB (Int.toNat (((at_4 + ((a13 : Nat) : Int)) * a_1) + i10)) (List.length l14)) <| .need (inK .i64 (((a13 + 1) : Nat) : Int)) <| .leaf (.inl ((a13 + 1), (List.set l14 (Int.toNat (((at_4 + ((a13 : Nat) : Int)) * a_1) + i10)) (fsub (List.getD l14 (Int.toNat (((at_4 + ((a13 : Nat) : Int)) * a_1) + i10)) 0) (fmul (List.getD h_7 a13 0) w12))))))
    (.leaf (.inr (.inl l14)))
noncomputable def reflect_Left_m37 (a_1 : Int) (at_4 : Int) (h_7 : List Nat) (a3 : Nat) (i10 : Int) (w12 : Nat) : Nat × (List Nat) → Option ((Nat × (List Nat)) ⊕ (((List Nat)) ⊕ (((List Nat)) ⊕ (((List Nat)) ⊕ (reflect_Left_X))))) := fun (a13, l14) =>
  (reflect_Left_t36 a_1 at_4 h_7 a3 i10 w12 a13 l14).run
theorem reflect_Left_s37 (a_0 : Int) (a_1 : Int) (v_2 : Lv) (a_3 : List Nat) (at_4 : Int) (v_6 : Lv) (h_7 : List Nat) (h_8 : Nat) (a3 : Nat) (i10 : Int) (w12 : Nat) (a13 : Nat) (l14 : List Nat) : Sg prog [] reflect_Left_l35 (reflect_Left_n19 a_0 a_1 v_2 a_3 at_4 v_6 h_7 h_8 a3 i10 w12 (a13, l14)) (reflect_Left_m37 a_1 at_4 h_7 a3 i10 w12 (a13, l14)) (reflect_Left_n19 a_0 a_1 v_2 a_3 at_4 v_6 h_7 h_8 a3 i10 w12) (exitE 2 (reflect_Left_n20 a_0 a_1 v_2 a_3 at_4 v_6 h_7 h_8 a3 i10) (exitE 1 (reflect_Left_n22 a_0 a_1 v_2 a_3 at_4 v_6 h_7 h_8 a3 i10) (exitE 0 (reflect_Left_n24 a_0 a_1 a3) reflect_Left_E))) := by
  unfold reflect_Left_m37; exact Sg.seg (C := C0) C0_ok L_reflect_sum_of_reflect_Left_1_ok 60 reflect_Left_l35 (reflect_Left_n19 a_0 a_1 v_2 a_3 at_4 v_6 h_7 h_8 a3 i10 w12 (a13, l14)) (reflect_Left_t36 a_1 at_4 h_7 a3 i10 w12 a13 l14) (reflect_Left_n19 a_0 a_1 v_2 a_3 at_4 v_6 h_7 h_8 a3 i10 w12) (exitE 2 (reflect_Left_n20 a_0 a_1 v_2 a_3 at_4 v_6 h_7 h_8 a3 i10) (exitE 1 (reflect_Left_n22 a_0 a_1 v_2 a_3 at_4 v_6 h_7 h_8 a3 i10) (exitE 0 (reflect_Left_n24 a_0 a_1 a3) reflect_Left_E))) [⟨[], [0, 1, 2, 3, 4, 5, 6], [4, 5, 7, 8, 10, 11, 12, 76, 77, 78]⟩, ⟨[], [0, 1, 2, 3, 4, 5, 6], [4, 5, 7, 8, 10, 11]⟩] (by kernel_rfl)
def reflect_Left_n21 (a_0 : Int) (a_1 : Int) (v_2 : Lv) (a_3 : List Nat) (at_4 : Int) (v_6 : Lv) (h_7 : List Nat) (h_8 : Nat) (a3 : Nat) (i10 : Int) : (List Nat) → ASt := reflect_Left_n20 a_0 a_1 v_2 a_3 at_4 v_6 h_7 h_8 a3 i10
def reflect_Left_t38 (l15 : List Nat) : T (((List Nat)) ⊕ (((List Nat)) ⊕ (((List Nat)) ⊕ (reflect_Left_X)))) :=
  .leaf (.inl l15)
def reflect_Left_n23 (a_0 : Int) (a_1 : Int) (v_2 : Lv) (a_3 : List Nat) (at_4 : Int) (v_6 : Lv) (h_7 : List Nat) (h_8 : Nat) (a3 : Nat) (i10 : Int) : (List Nat) → ASt := reflect_Left_n22 a_0 a_1 v_2 a_3 at_4 v_6 h_7 h_8 a3 i10
def reflect_Left_t39 (i10 : Int) (l16 : List Nat) : T ((Int × (List Nat)) ⊕ (((List Nat)) ⊕ (reflect_Left_X))) :=
  .need (inK .i64 (i10 + (1 : Int))) <| .leaf (.inl ((i10 + (1 : Int)), l16))
noncomputable def reflect_Left_m40 (a_1 : Int) (a_3 : List Nat) (at_4 : Int) (h_7 : List Nat) (h_8 : Nat) (a3 : Nat) : Int × (List Nat) → Option ((Int × (List Nat)) ⊕ (((List Nat)) ⊕ (reflect_Left_X))) := fun (i10, l11) =>
  seqM ((reflect_Left_t31 a_1 i10 l11).run) fun _ =>
  seqM (joinM (seqM ((reflect_Left_t33 a_1 a_3 at_4 h_7 h_8 i10).run) fun w12 =>
  seqM ((reflect_Left_t34).run) fun _ =>
  seqM (loopM (reflect_Left_m37 a_1 at_4 h_7 a3 i10 w12) (0, l11)) fun l15 =>
  (reflect_Left_t38 l15).run)) fun l16 =>
  (reflect_Left_t39 i10 l16).run
theorem reflect_Left_s40 (a_0 : Int) (a_1 : Int) (v_2 : Lv) (a_3 : List Nat) (at_4 : Int) (v_6 : Lv) (h_7 : List Nat) (h_8 : Nat) (a3 : Nat) (i10 : Int) (l11 : List Nat) : Sg prog [] reflect_Left_l30 (reflect_Left_n14 a_0 a_1 v_2 a_3 at_4 v_6 h_7 h_8 a3 (i10, l11)) (reflect_Left_m40 a_1 a_3 at_4 h_7 h_8 a3 (i10, l11)) (reflect_Left_n14 a_0 a_1 v_2 a_3 at_4 v_6 h_7 h_8 a3) (exitE 0 (reflect_Left_n24 a_0 a_1 a3) reflect_Left_E) := by
  unfold reflect_Left_m40; exact Sg.cut 2 (noN_exit reflect_Left_hN) (Sg.seg (C := C0) C0_ok L_reflect_sum_of_reflect_Left_1_ok 60 (reflect_Left_l30.take 2) (reflect_Left_n14 a_0 a_1 v_2 a_3 at_4 v_6 h_7 h_8 a3 (i10, l11)) (reflect_Left_t31 a_1 i10 l11) (reflect_Left_n15 a_0 a_1 v_2 a_3 at_4 v_6 h_7 h_8 a3 i10 l11) (exitE 0 (reflect_Left_n24 a_0 a_1 a3) reflect_Left_E) [⟨[], [0, 1, 2, 3, 4, 5, 6], [4, 5, 7, 8, 10, 11]⟩, ⟨[], [3, 4, 6], [8, 10]⟩] (by kernel_rfl)) (fun a => by cases a; exact Sg.cut 1 (noN_exit reflect_Left_hN) (Sg.blockAt (id := 1) (K := (reflect_Left_n22 a_0 a_1 v_2 a_3 at_4 v_6 h_7 h_8 a3 i10)) (by kernel_rfl : ((reflect_Left_l30.drop 2).take 1) = [.block 1 (inBlock ((((reflect_Left_l30.drop 2).take 1)).headD .skip))]) (noN_exit reflect_Left_hN) (noId_exit (by decide) (reflect_Left_hI _)) (Sg.cut 1 (noN_exit (noN_exit reflect_Left_hN)) (Sg.seg (C := C0) C0_ok L_reflect_sum_of_reflect_Left_1_ok 60 (reflect_Left_l32.take 1) (reflect_Left_n15 a_0 a_1 v_2 a_3 at_4 v_6 h_7 h_8 a3 i10 l11 ()) (reflect_Left_t33 a_1 a_3 at_4 h_7 h_8 i10) (reflect_Left_n16 a_0 a_1 v_2 a_3 at_4 v_6 h_7 h_8 a3 i10 l11) (exitE 1 (reflect_Left_n22 a_0 a_1 v_2 a_3 at_4 v_6 h_7 h_8 a3 i10) (exitE 0 (reflect_Left_n24 a_0 a_1 a3) reflect_Left_E)) [⟨[], [0, 1, 2, 3, 4, 5, 6], [4, 5, 7, 8, 10, 11, 12]⟩] (by kernel_rfl)) (fun w12 => by exact Sg.cut 1 (noN_exit (noN_exit reflect_Left_hN)) (Sg.seg (C := C0) C0_ok L_reflect_sum_of_reflect_Left_1_ok 60 ((reflect_Left_l32.drop 1).take 1) (reflect_Left_n16 a_0 a_1 v_2 a_3 at_4 v_6 h_7 h_8 a3 i10 l11 w12) (reflect_Left_t34) (reflect_Left_n17 a_0 a_1 v_2 a_3 at_4 v_6 h_7 h_8 a3 i10 l11 w12) (exitE 1 (reflect_Left_n22 a_0 a_1 v_2 a_3 at_4 v_6 h_7 h_8 a3 i10) (exitE 0 (reflect_Left_n24 a_0 a_1 a3) reflect_Left_E)) [⟨[], [0, 1, 2, 3, 4, 5, 6], [4, 5, 7, 8, 10, 11, 12, 76, 77, 78]⟩] (by kernel_rfl)) (fun a => by cases a; exact Sg.cut 1 (noN_exit (noN_exit reflect_Left_hN)) (Sg.pre ⟨[], [0, 1, 2, 3, 4, 5, 6], [4, 5, 7, 8, 10, 11, 12, 76, 77, 78]⟩ rfl (by kernel_rfl : NS.on ⟨[], [0, 1, 2, 3, 4, 5, 6], [4, 5, 7, 8, 10, 11, 12, 76, 77, 78]⟩ (reflect_Left_n17 a_0 a_1 v_2 a_3 at_4 v_6 h_7 h_8 a3 i10 l11 w12 ()) = (reflect_Left_n19 a_0 a_1 v_2 a_3 at_4 v_6 h_7 h_8 a3 i10 w12) (0, l11)) (Sg.loopAt (I := (reflect_Left_n19 a_0 a_1 v_2 a_3 at_4 v_6 h_7 h_8 a3 i10 w12)) (J := (reflect_Left_n20 a_0 a_1 v_2 a_3 at_4 v_6 h_7 h_8 a3 i10)) (id := 2) (by kernel_rfl : (((reflect_Left_l32.drop 1).drop 1).take 1) = [.block 2 (.loop (inLoop (((((reflect_Left_l32.drop 1).drop 1).take 1)).headD .skip)))]) (noN_exit (noN_exit reflect_Left_hN)) (noId_exit (by decide) (noId_exit (by decide) (reflect_Left_hI _))) (fun s => by obtain ⟨a13, l14⟩ := s; exact reflect_Left_s37 a_0 a_1 v_2 a_3 at_4 v_6 h_7 h_8 a3 i10 w12 a13 l14) (0, l11))) (fun l15 => by exact Sg.seg (C := C0) C0_ok L_reflect_sum_of_reflect_Left_1_ok 60 (((reflect_Left_l32.drop 1).drop 1).drop 1) (reflect_Left_n21 a_0 a_1 v_2 a_3 at_4 v_6 h_7 h_8 a3 i10 l15) (reflect_Left_t38 l15) (reflect_Left_n22 a_0 a_1 v_2 a_3 at_4 v_6 h_7 h_8 a3 i10) (exitE 1 (reflect_Left_n22 a_0 a_1 v_2 a_3 at_4 v_6 h_7 h_8 a3 i10) (exitE 0 (reflect_Left_n24 a_0 a_1 a3) reflect_Left_E)) [⟨[], [0, 1, 2, 3, 4, 5, 6], [4, 5, 7, 8, 10, 11]⟩] (by kernel_rfl)))))) (fun l16 => by exact Sg.seg (C := C0) C0_ok L_reflect_sum_of_reflect_Left_1_ok 60 ((reflect_Left_l30.drop 2).drop 1) (reflect_Left_n23 a_0 a_1 v_2 a_3 at_4 v_6 h_7 h_8 a3 i10 l16) (reflect_Left_t39 i10 l16) (reflect_Left_n14 a_0 a_1 v_2 a_3 at_4 v_6 h_7 h_8 a3) (exitE 0 (reflect_Left_n24 a_0 a_1 a3) reflect_Left_E) [⟨[], [0, 1, 2, 3, 4, 23, 6], [4, 5, 7, 8, 10, 11]⟩] (by kernel_rfl)))
def reflect_Left_n25 (a_0 : Int) (a_1 : Int) (a3 : Nat) : (List Nat) → ASt := reflect_Left_n24 a_0 a_1 a3
def reflect_Left_t41 (a_0 : Int) (a_1 : Int) (a3 : Nat) (l17 : List Nat) : T ((Empty) ⊕ (reflect_Left_X)) :=
  .leaf (.inr (.r1 a_0 a_1 a3 l17))
noncomputable def reflect_Left_F (a_0 : Int) (a_1 : Int) (a_3 : List Nat) (at_4 : Int) (from_5 : Int) (h_7 : List Nat) (h_8 : Nat) : Option reflect_Left_X := toX (seqM ((reflect_Left_t27 a_0 a_1 a_3 at_4 from_5 h_7).run) fun b1 =>
  seqM ((reflect_Left_t28 a_0 a_1 at_4 from_5 h_7 b1).run) fun b2 =>
  seqM ((reflect_Left_t29 a_0 a_1 a_3 h_8 b2).run) fun (a3, l4) =>
  seqM (loopM (reflect_Left_m40 a_1 a_3 at_4 h_7 h_8 a3) (from_5, l4)) fun l17 =>
  (reflect_Left_t41 a_0 a_1 a3 l17).run)
theorem reflect_Left_ok (a_0 : Int) (a_1 : Int) (v_2 : Lv) (a_3 : List Nat) (at_4 : Int) (from_5 : Int) (v_6 : Lv) (h_7 : List Nat) (h_8 : Nat) {x : reflect_Left_X} (h : reflect_Left_F a_0 a_1 a_3 at_4 from_5 h_7 h_8 = some x) : Contract prog n_reflect_Left [] [.agg [.int .i64 a_0, .int .i64 a_1, .imm v_2 (.fl a_3) 1 1 0 (List.length a_3)], .int .i64 at_4, .int .i64 from_5, .agg [.imm v_6 (.fl h_7) 1 1 0 (List.length h_7), .flt false h_8]] (reflect_Left_o x) :=
  Sg.contract false reflect_Left_o (by kernel_rfl : prog.funcs[n_reflect_Left]? = some (FN n_reflect_Left)) (by kernel_rfl : (FN n_reflect_Left).body = some (BODY n_reflect_Left)) (Sg.cut 2 reflect_Left_hN (Sg.seg (C := C0) C0_ok L_reflect_sum_of_reflect_Left_1_ok 60 (reflect_Left_l26.take 2) (entryOf (FN n_reflect_Left) [] [.agg [.int .i64 a_0, .int .i64 a_1, .imm v_2 (.fl a_3) 1 1 0 (List.length a_3)], .int .i64 at_4, .int .i64 from_5, .agg [.imm v_6 (.fl h_7) 1 1 0 (List.length h_7), .flt false h_8]]) (reflect_Left_t27 a_0 a_1 a_3 at_4 from_5 h_7) (reflect_Left_n1 a_0 a_1 v_2 a_3 at_4 from_5 v_6 h_7 h_8) reflect_Left_E [⟨[], [0, 16, 32, 48], [2, 4, 5, 7, 8, 31]⟩, ⟨[], [0, 16, 32, 48], [2, 4, 5, 7, 8, 31]⟩, ⟨[], [0, 16, 32, 48], [2, 4, 5, 7, 8, 31]⟩, ⟨[], [0, 16, 32, 48], [2, 4, 5, 7, 8, 31]⟩] (by kernel_rfl)) (fun b1 => by exact Sg.cut 2 reflect_Left_hN (Sg.seg (C := C0) C0_ok L_reflect_sum_of_reflect_Left_1_ok 60 ((reflect_Left_l26.drop 2).take 2) (reflect_Left_n1 a_0 a_1 v_2 a_3 at_4 from_5 v_6 h_7 h_8 b1) (reflect_Left_t28 a_0 a_1 at_4 from_5 h_7 b1) (reflect_Left_n2 a_0 a_1 v_2 a_3 at_4 from_5 v_6 h_7 h_8) reflect_Left_E [⟨[], [3], [8, 9]⟩, ⟨[], [0, 1, 2, 3], [2, 4, 5, 7, 8, 46]⟩, ⟨[], [0, 1, 2, 3], [2, 4, 5, 7, 8, 46]⟩] (by kernel_rfl)) (fun b2 => by exact Sg.cut 5 reflect_Left_hN (Sg.seg (C := C0) C0_ok L_reflect_sum_of_reflect_Left_1_ok 60 (((reflect_Left_l26.drop 2).drop 2).take 5) (reflect_Left_n2 a_0 a_1 v_2 a_3 at_4 from_5 v_6 h_7 h_8 b2) (reflect_Left_t29 a_0 a_1 a_3 h_8 b2) (reflect_Left_n3 a_0 a_1 v_2 a_3 at_4 from_5 v_6 h_7 h_8) reflect_Left_E [⟨[], [3], [8, 9]⟩, ⟨[], [3, 100], [8, 9]⟩, ⟨[], [0, 1, 2, 3, 132, 228, 100], [4, 5, 7, 8, 10, 11]⟩] (by kernel_rfl)) (fun a => by obtain ⟨a3, l4⟩ := a; exact Sg.cut 1 reflect_Left_hN (Sg.pre ⟨[], [0, 1, 2, 3, 4, 5, 6], [4, 5, 7, 8, 10, 11]⟩ rfl (by kernel_rfl : NS.on ⟨[], [0, 1, 2, 3, 4, 5, 6], [4, 5, 7, 8, 10, 11]⟩ (reflect_Left_n3 a_0 a_1 v_2 a_3 at_4 from_5 v_6 h_7 h_8 (a3, l4)) = (reflect_Left_n14 a_0 a_1 v_2 a_3 at_4 v_6 h_7 h_8 a3) (from_5, l4)) (Sg.loopAt (I := (reflect_Left_n14 a_0 a_1 v_2 a_3 at_4 v_6 h_7 h_8 a3)) (J := (reflect_Left_n24 a_0 a_1 a3)) (id := 0) (by kernel_rfl : ((((reflect_Left_l26.drop 2).drop 2).drop 5).take 1) = [.block 0 (.loop (inLoop ((((((reflect_Left_l26.drop 2).drop 2).drop 5).take 1)).headD .skip)))]) reflect_Left_hN (reflect_Left_hI _) (fun s => by obtain ⟨i10, l11⟩ := s; exact reflect_Left_s40 a_0 a_1 v_2 a_3 at_4 v_6 h_7 h_8 a3 i10 l11) (from_5, l4))) (fun l17 => by exact Sg.seg (C := C0) C0_ok L_reflect_sum_of_reflect_Left_1_ok 60 ((((reflect_Left_l26.drop 2).drop 2).drop 5).drop 1) (reflect_Left_n25 a_0 a_1 a3 l17) (reflect_Left_t41 a_0 a_1 a3 l17) (fun a : Empty => a.elim) reflect_Left_E [⟨[], [0, 2], [8, 9]⟩] (by kernel_rfl))))))
    (fun x => by cases x with | r0 a18 => exact ⟨.inr rfl, [.agg [.int .i64 (0 : Int), .int .i64 (0 : Int), .nsl], .int .i64 ((a18 : Nat) : Int)], [], by kernel_rfl, trivial, by kernel_rfl⟩ | r1 i19 i20 a21 l22 => exact ⟨.inr rfl, [.agg [.int .i64 i19, .int .i64 i20, .sl 1 1 1 0 a21 a21], .int .i64 (0 : Int)], [], by kernel_rfl, trivial, by kernel_rfl⟩) h

def reflect_Left_i0 : Option reflect_Left_X → Bool
  | some (.r0 _) => true
  | _ => false
def reflect_Left_p0_0 : Option reflect_Left_X → Nat
  | some (.r0 x) => x
  | _ => 0
theorem reflect_Left_e0 {x : Option reflect_Left_X} (h : reflect_Left_i0 x = true) : x = some (.r0 (reflect_Left_p0_0 x)) := by
  unfold reflect_Left_i0 at h
  split at h <;> first | rfl | (cases h; done) | (rename_i y; cases y; rfl)
def reflect_Left_i1 : Option reflect_Left_X → Bool
  | some (.r1 _ _ _ _) => true
  | _ => false
def reflect_Left_p1_0 : Option reflect_Left_X → Int
  | some (.r1 x _ _ _) => x
  | _ => 0
def reflect_Left_p1_1 : Option reflect_Left_X → Int
  | some (.r1 _ x _ _) => x
  | _ => 0
def reflect_Left_p1_2 : Option reflect_Left_X → Nat
  | some (.r1 _ _ x _) => x
  | _ => 0
def reflect_Left_p1_3 : Option reflect_Left_X → List Nat
  | some (.r1 _ _ _ x) => x
  | _ => []
theorem reflect_Left_e1 {x : Option reflect_Left_X} (h : reflect_Left_i1 x = true) : x = some (.r1 (reflect_Left_p1_0 x) (reflect_Left_p1_1 x) (reflect_Left_p1_2 x) (reflect_Left_p1_3 x)) := by
  unfold reflect_Left_i1 at h
  split at h <;> first | rfl | (cases h; done) | (rename_i y; cases y; rfl)
noncomputable def e_reflect_Left : Entry := autoE n_reflect_Left (.cons (.agg (.cons (.int .i64) (.cons (.int .i64) (.cons .fl .nil)))) (.cons (.int .i64) (.cons (.int .i64) (.cons (.agg (.cons .fl (.cons (.flt false) .nil))) .nil)))) fun t => [⟨reflect_Left_o (.r0 (reflect_Left_p0_0 (reflect_Left_F t.1.1 t.1.2.1 t.1.2.2.1.2 t.2.1 t.2.2.1 t.2.2.2.1.1.2 t.2.2.2.1.2.1))), [reflect_Left_i0 (reflect_Left_F t.1.1 t.1.2.1 t.1.2.2.1.2 t.2.1 t.2.2.1 t.2.2.2.1.1.2 t.2.2.2.1.2.1)]⟩, ⟨reflect_Left_o (.r1 (reflect_Left_p1_0 (reflect_Left_F t.1.1 t.1.2.1 t.1.2.2.1.2 t.2.1 t.2.2.1 t.2.2.2.1.1.2 t.2.2.2.1.2.1)) (reflect_Left_p1_1 (reflect_Left_F t.1.1 t.1.2.1 t.1.2.2.1.2 t.2.1 t.2.2.1 t.2.2.2.1.1.2 t.2.2.2.1.2.1)) (reflect_Left_p1_2 (reflect_Left_F t.1.1 t.1.2.1 t.1.2.2.1.2 t.2.1 t.2.2.1 t.2.2.2.1.1.2 t.2.2.2.1.2.1)) (reflect_Left_p1_3 (reflect_Left_F t.1.1 t.1.2.1 t.1.2.2.1.2 t.2.1 t.2.2.1 t.2.2.2.1.1.2 t.2.2.2.1.2.1))), [reflect_Left_i1 (reflect_Left_F t.1.1 t.1.2.1 t.1.2.2.1.2 t.2.1 t.2.2.1 t.2.2.2.1.1.2 t.2.2.2.1.2.1)]⟩]
theorem e_reflect_Left_ok : EntryOk prog e_reflect_Left := autoE_ok fun t => (altsCons (fun h => reflect_Left_ok t.1.1 t.1.2.1 t.1.2.2.1.1 t.1.2.2.1.2 t.2.1 t.2.2.1 t.2.2.2.1.1.1 t.2.2.2.1.1.2 t.2.2.2.1.2.1 (reflect_Left_e0 h)) (altsCons (fun h => reflect_Left_ok t.1.1 t.1.2.1 t.1.2.2.1.1 t.1.2.2.1.2 t.2.1 t.2.2.1 t.2.2.2.1.1.1 t.2.2.2.1.1.2 t.2.2.2.1.2.1 (reflect_Left_e1 h)) altsNil))
noncomputable def L_reflect_Left : List Entry := e_reflect_Left :: L_reflect_sum_of_reflect_Left_1
theorem L_reflect_Left_ok : SumsOk prog (sumsOf L_reflect_Left) := sumsOf_cons e_reflect_Left_ok L_reflect_sum_of_reflect_Left_1_ok

end
end Go.Plb.Seat
