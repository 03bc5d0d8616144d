/-
  Part 2 of what the claim leans on: an evaluator of the model, proved sound; the contracts of the functions.
-/
import GoSem.Extern.MathSqrt
import GoSem.Extern.MathFloatBits
import Derived.LoopN
import Derived.Scope
import Derived.Laws.Externs
import Derived.Test.YtiacfeojfabghaaA1
/-
  ENGINE, PART 14: what is lent to a callee, and what comes back.
-/
namespace Go.Plb
set_option linter.unusedSimpArgs false
set_option linter.unusedVariables false

/-! ### Values that are nobody's -/
mutual
theorem kept_foreign : ∀ {v : AV}, v.kept = true → v.foreign = true
  | .fn _ l1 l2, h => by simp only [AV.kept, AV.foreign, Bool.and_eq_true] at h ⊢; exact ⟨keptAll_foreign h.1, keptAll_foreign h.2⟩
  | .agg l, h => by simp only [AV.kept, AV.foreign] at h ⊢; exact keptAll_foreign h
  | .tup l, h => by simp only [AV.kept, AV.foreign] at h ⊢; exact keptAll_foreign h
  | .iface _ v, h => by simp only [AV.kept, AV.foreign] at h ⊢; exact kept_foreign h
  | .ptr .., h => by simp [AV.kept] at h
  | .sl .., h => by simp [AV.kept] at h
  | .int .., _ | .bool .., _ | .flt .., _ | .str _, _ | .nptr, _ | .iptr .., _ | .nsl, _ | .esl, _ | .zsl _, _ | .nan, _ | .imm .., _ | .nfn, _ | .niface, _ | .any, _ => rfl
theorem keptAll_foreign : ∀ {l : List AV}, keptAll l = true → foreignAll l = true
  | [], _ => rfl
  | v :: l, h => by simp only [keptAll, foreignAll, Bool.and_eq_true] at h ⊢; exact ⟨kept_foreign h.1, keptAll_foreign h.2⟩
end

theorem foreignAll_get : ∀ {l : List AV}, foreignAll l = true → ∀ (x : Nat) (v : AV), l[x]? = some v → v.foreign = true
  | [], _, x, v, h => by simp at h
  | a :: l, ha, 0, v, h => by simp at h; subst h; simp only [foreignAll, Bool.and_eq_true] at ha; exact ha.1
  | a :: l, ha, x + 1, v, h => by simp only [foreignAll, Bool.and_eq_true] at ha; exact foreignAll_get ha.2 x v (by simpa using h)

theorem foreign_content {d : Blk} (hr : d.recKept) (hk : d.foreign = true) (x : Nat) (v : AV) (hx : d.cell? x = some v) : v.foreign = true := by
  cases d with
  | fl xs => simp only [Blk.cell?, Option.map_eq_some_iff] at hx; obtain ⟨_, _, rfl⟩ := hx; rfl
  | ns k xs => simp only [Blk.cell?, Option.map_eq_some_iff] at hx; obtain ⟨_, _, rfl⟩ := hx; rfl
  | bs xs => simp only [Blk.cell?, Option.map_eq_some_iff] at hx; obtain ⟨_, _, rfl⟩ := hx; rfl
  | ss xs => simp only [Blk.cell?, Option.map_eq_some_iff] at hx; obtain ⟨_, _, rfl⟩ := hx; rfl
  | vs xs => exact foreignAll_get hk x v hx
  | rows k n get =>
    simp only [Blk.cell?] at hx
    split at hx
    · cases hx; exact kept_foreign (hr _ _).1
    · cases hx
  | cols n cs => obtain ⟨c, _, _, h⟩ := Blk.cols_cell hx; exact (Col.cell_kept h).2.1

theorem kept_content {d : Blk} (hr : d.recKept) (hk : d.kept = true) (x : Nat) (v : AV) (hx : d.cell? x = some v) : v.kept = true := by
  cases d with
  | fl xs => simp only [Blk.cell?, Option.map_eq_some_iff] at hx; obtain ⟨_, _, rfl⟩ := hx; rfl
  | ns k xs => simp only [Blk.cell?, Option.map_eq_some_iff] at hx; obtain ⟨_, _, rfl⟩ := hx; rfl
  | bs xs => simp only [Blk.cell?, Option.map_eq_some_iff] at hx; obtain ⟨_, _, rfl⟩ := hx; rfl
  | ss xs => simp only [Blk.cell?, Option.map_eq_some_iff] at hx; obtain ⟨_, _, rfl⟩ := hx; rfl
  | vs xs => exact keptAll_get hk x v hx
  | rows k n get =>
    simp only [Blk.cell?] at hx
    split at hx
    · cases hx; exact (hr _ _).1
    · cases hx
  | cols n cs => obtain ⟨c, _, _, h⟩ := Blk.cols_cell hx; exact (Col.cell_kept h).1

/-- Nobody's, here; so nobody's there. -/
def Nobody (ρ τ : Place) (w : World) : Prop := ∀ bl, bl < w.heap.size → (∀ j, ¬ ρ.own j bl) → ∀ j, ¬ τ.own j bl

theorem Lv.av_of_free {O : Nat → Nat → Prop} {bl : Nat} (h : ∀ j, ¬ O j bl) : ∀ (l : Lv) (i : Nat), l.av O i bl
  | .free, i => fun j _ => h j
  | .lent, i => h i
  | .up l, i => ⟨h i, Lv.av_of_free h l (i + 1)⟩

theorem kept_vr {ρ τ : Place} {w : World} (hN : Nobody ρ τ w) {v : AV} {u : Value} (h : VR ρ w v u) : v.kept = true → VR τ w v u := by
  have av : ∀ {l : Lv} {bl : Nat}, bl < w.heap.size → l.isFree = true → ρ.avoid l bl → τ.avoid l bl := fun hb hl h =>
    Lv.av_of_free (hN _ hb fun j => Lv.av_free (O := ρ.own) hl h j (Nat.zero_le _)) _ _
  induction h using VR.rec (motive_2 := fun l c _ => keptAll l = true → VRs τ w l c) with
  | int k n => exact fun _ => .int k n
  | bool kn b => exact fun _ => .bool kn b
  | flt ex x y h => exact fun _ => .flt ex x y h
  | str s => exact fun _ => .str s
  | nptr => exact fun _ => .nptr
  | ptr b k i j hb => intro hk; simp [AV.kept] at hk
  | iptr bw d k i j bl o u ha hb hc hv hr hk hg ih =>
    intro hkept
    have hf : bw.isFree = true := by simpa [AV.kept] using hkept
    exact .iptr bw d k i j bl o u (av hb hf ha) hb hc (fun x v hx => ih x v hx (kept_content hr (hk hf) x v hx)) hr hk hg
  | nsl => exact fun _ => .nsl
  | esl a => exact fun _ => .esl a
  | zsl a c => exact fun _ => .zsl a c
  | nan n h => exact fun _ => .nan n h
  | sl b k es i len cap cap' hb hcap hl c t hh hs => intro hk; simp [AV.kept] at hk
  | slEnd b k es i a => intro hk; simp [AV.kept] at hk
  | imm bw d k es i len cap bl o u ha hb hc hv hl hr hk hg ih =>
    intro hkept
    have hf : bw.isFree = true := by simpa [AV.kept] using hkept
    exact .imm bw d k es i len cap bl o u (av hb hf ha) hb hc (fun x v hx => ih x v hx (kept_content hr (hk hf) x v hx)) hl hr hk hg
  | immEnd bw d k es i cap a hr hk hg => exact fun _ => .immEnd bw d k es i cap a hr hk hg
  | fn f l1 l2 c1 c2 h1 h2 i1 i2 => intro hk; simp only [AV.kept, Bool.and_eq_true] at hk; exact .fn f l1 l2 c1 c2 (i1 hk.1) (i2 hk.2)
  | nfn => exact fun _ => .nfn
  | agg l c h ih => intro hk; exact .agg l c (ih hk)
  | tup l c h ih => intro hk; exact .tup l c (ih hk)
  | iface t v u h ih => intro hk; exact .iface t v u (ih hk)
  | niface => exact fun _ => .niface
  | any u => exact fun _ => .any u
  | nil => exact VRs.nil
  | cons v u l c h t i1 i2 => rename_i hk; simp only [keptAll, Bool.and_eq_true] at hk; exact VRs.cons v u l c (i1 hk.1) (i2 hk.2)

/-! ### Handed on -/
mutual
/-- A value as it is handed on: of one's own blocks those in σ, named anew. -/
def nmU (σ : Nat → Option Nat) : AV → AV
  | .ptr b w i j => match σ b with | some c => .ptr c w i j | none => .any
  | .sl b w es i len cap => match σ b with | some c => .sl c w es i len cap | none => .any
  | .iptr l d w i j => .iptr (.up l) (nmUB σ d) w i j
  | .imm l d w es i len => .imm (.up l) (nmUB σ d) w es i len
  | .fn f l1 l2 => .fn f (nmUL σ l1) (nmUL σ l2)
  | .agg l => .agg (nmUL σ l)
  | .tup l => .tup (nmUL σ l)
  | .iface t v => .iface t (nmU σ v)
  | v => v
def nmUL (σ : Nat → Option Nat) : List AV → List AV
  | [] => []
  | v :: l => nmU σ v :: nmUL σ l
def nmUB (σ : Nat → Option Nat) : Blk → Blk
  | .vs l => .vs (nmUL σ l)
  | d => d
end

mutual
theorem nmU_kept (σ : Nat → Option Nat) : ∀ (v : AV), v.kept = true → (nmU σ v).kept = true
  | .fn _ l1 l2, h => by simp only [AV.kept, nmU, Bool.and_eq_true] at h ⊢; exact ⟨nmUL_kept σ l1 h.1, nmUL_kept σ l2 h.2⟩
  | .agg l, h => by simp only [AV.kept, nmU] at h ⊢; exact nmUL_kept σ l h
  | .tup l, h => by simp only [AV.kept, nmU] at h ⊢; exact nmUL_kept σ l h
  | .iface _ v, h => by simp only [AV.kept, nmU] at h ⊢; exact nmU_kept σ v h
  | .ptr .., h => by simp [AV.kept] at h
  | .sl .., h => by simp [AV.kept] at h
  | .iptr .., h => by simpa [AV.kept, nmU, Lv.isFree] using h
  | .imm .., h => by simpa [AV.kept, nmU, Lv.isFree] using h
  | .int .., _ | .bool .., _ | .flt .., _ | .str _, _ | .nptr, _ | .nsl, _ | .esl, _ | .zsl _, _ | .nan, _ | .nfn, _ | .niface, _ | .any, _ => rfl
theorem nmUL_kept (σ : Nat → Option Nat) : ∀ (l : List AV), keptAll l = true → keptAll (nmUL σ l) = true
  | [], _ => rfl
  | v :: l, h => by simp only [keptAll, nmUL, Bool.and_eq_true] at h ⊢; exact ⟨nmU_kept σ v h.1, nmUL_kept σ l h.2⟩
end
mutual
theorem nmU_foreign (σ : Nat → Option Nat) : ∀ (v : AV), v.foreign = true → (nmU σ v).foreign = true
  | .fn _ l1 l2, h => by simp only [AV.foreign, nmU, Bool.and_eq_true] at h ⊢; exact ⟨nmUL_foreign σ l1 h.1, nmUL_foreign σ l2 h.2⟩
  | .agg l, h => by simp only [AV.foreign, nmU] at h ⊢; exact nmUL_foreign σ l h
  | .tup l, h => by simp only [AV.foreign, nmU] at h ⊢; exact nmUL_foreign σ l h
  | .iface _ v, h => by simp only [AV.foreign, nmU] at h ⊢; exact nmU_foreign σ v h
  | .ptr .., h => by simp [AV.foreign] at h
  | .sl .., h => by simp [AV.foreign] at h
  | .iptr .., h => rfl
  | .imm .., h => rfl
  | .int .., _ | .bool .., _ | .flt .., _ | .str _, _ | .nptr, _ | .nsl, _ | .esl, _ | .zsl _, _ | .nan, _ | .nfn, _ | .niface, _ | .any, _ => rfl
theorem nmUL_foreign (σ : Nat → Option Nat) : ∀ (l : List AV), foreignAll l = true → foreignAll (nmUL σ l) = true
  | [], _ => rfl
  | v :: l, h => by simp only [foreignAll, nmUL, Bool.and_eq_true] at h ⊢; exact ⟨nmU_foreign σ v h.1, nmUL_foreign σ l h.2⟩
end

theorem nmUB_kept {σ : Nat → Option Nat} {d : Blk} (h : d.kept = true) : (nmUB σ d).kept = true := by
  cases d <;> first | exact h | exact nmUL_kept σ _ h
theorem nmUB_foreign {σ : Nat → Option Nat} {d : Blk} (h : d.foreign = true) : (nmUB σ d).foreign = true := by
  cases d <;> first | exact h | exact nmUL_foreign σ _ h
theorem nmUB_rk {σ : Nat → Option Nat} {d : Blk} (h : d.recKept) : (nmUB σ d).recKept := by
  cases d <;> first | exact h | trivial
theorem nmUL_get (σ : Nat → Option Nat) : ∀ (l : List AV) (x : Nat), (nmUL σ l)[x]? = (l[x]?).map (nmU σ)
  | [], x => by simp [nmUL]
  | v :: l, 0 => by simp [nmUL]
  | v :: l, x + 1 => by simp [nmUL, nmUL_get σ l x]
theorem nmUB_cell {σ : Nat → Option Nat} {d : Blk} (hr : d.recKept) {x : Nat} {v : AV} (h : (nmUB σ d).cell? x = some v) : ∃ v0, d.cell? x = some v0 ∧ (v = nmU σ v0 ∨ (v = v0 ∧ v0.kept = true)) := by
  cases d with
  | vs l =>
    simp only [nmUB, Blk.cell?, nmUL_get, Option.map_eq_some_iff] at h
    obtain ⟨v0, h1, rfl⟩ := h
    exact ⟨v0, h1, .inl rfl⟩
  | fl xs => exact ⟨v, h, .inr ⟨rfl, kept_content hr rfl x v h⟩⟩
  | ns k xs => exact ⟨v, h, .inr ⟨rfl, kept_content hr rfl x v h⟩⟩
  | bs xs => exact ⟨v, h, .inr ⟨rfl, kept_content hr rfl x v h⟩⟩
  | ss xs => exact ⟨v, h, .inr ⟨rfl, kept_content hr rfl x v h⟩⟩
  | rows k n g => exact ⟨v, h, .inr ⟨rfl, kept_content hr rfl x v h⟩⟩
  | cols n cs => exact ⟨v, h, .inr ⟨rfl, kept_content hr rfl x v h⟩⟩

/-- What a callee's place has to be. -/
structure Lend (ρ τ : Place) (w : World) (h : Heap) (σ : Nat → Option Nat) : Prop where
  id : ∀ b c, σ b = some c → ρ.ok b → τ.ok c ∧ τ.at_ c = ρ.at_ b
  up : ∀ l bl, bl < w.heap.size → ρ.avoid l bl → τ.avoid (.up l) bl
  nobody : Nobody ρ τ w
  ro : ∀ b d, hget h b = some d → ρ.ok b → σ b = none → ¬ τ.live (ρ.at_ b)

theorem nmU_vr {ρ τ : Place} {w : World} {h : Heap} {σ : Nat → Option Nat} (L : Lend ρ τ w h σ) {v : AV} {u : Value} (hv : VR ρ w v u) : VR τ w (nmU σ v) u := by
  induction hv using VR.rec (motive_2 := fun l c _ => VRs τ w (nmUL σ l) c) with
  | int k n => exact .int k n
  | bool kn b => exact .bool kn b
  | flt ex x y h => exact .flt ex x y h
  | str s => exact .str s
  | nptr => exact .nptr
  | ptr b k i j hb =>
    simp only [nmU]
    split
    · rename_i c hc
      obtain ⟨h1, h2⟩ := L.id b c hc hb
      rw [← h2]; exact .ptr _ _ _ _ h1
    · exact .any _
  | iptr bw d k i j bl o u ha hb hc hv hr hk hg ih =>
    simp only [nmU]
    refine .iptr _ _ k i j bl o u (L.up bw bl hb ha) hb (fun x v hx => ?_) (fun x v hx => ?_) (nmUB_rk hr) (fun e => nmUB_kept (hk e)) (nmUB_foreign hg)
    · obtain ⟨v0, h1, _⟩ := nmUB_cell hr hx; exact hc x v0 h1
    · obtain ⟨v0, h1, h2⟩ := nmUB_cell hr hx
      rcases h2 with rfl | ⟨rfl, h3⟩
      · exact ih x v0 h1
      · exact kept_vr L.nobody (hv x v h1) h3
  | nsl => exact .nsl
  | esl a => exact .esl a
  | zsl a c => exact .zsl a c
  | nan n h => exact .nan n h
  | sl b k es i len cap cap' hb hcap hl c t hh hs =>
    simp only [nmU]
    split
    · rename_i c' hc
      obtain ⟨h1, h2⟩ := L.id b c' hc hb
      rw [← h2] at hh ⊢; exact .sl _ _ _ _ _ _ _ h1 hcap hl c t hh hs
    · exact .any _
  | slEnd b k es i a =>
    simp only [nmU]
    split
    · exact .slEnd _ _ _ _ _
    · exact .any _
  | imm bw d k es i len cap bl o u ha hb hc hv hl hr hk hg ih =>
    simp only [nmU]
    refine .imm _ _ k es i len cap bl o u (L.up bw bl hb ha) hb (fun x v hx => ?_) (fun x v hx => ?_) hl (nmUB_rk hr) (fun e => nmUB_kept (hk e)) (nmUB_foreign hg)
    · obtain ⟨v0, h1, _⟩ := nmUB_cell hr hx; exact hc x v0 h1
    · obtain ⟨v0, h1, h2⟩ := nmUB_cell hr hx
      rcases h2 with rfl | ⟨rfl, h3⟩
      · exact ih x v0 h1
      · exact kept_vr L.nobody (hv x v h1) h3
  | immEnd bw d k es i cap a hr hk hg => exact .immEnd _ _ k es i cap a (nmUB_rk hr) (fun e => nmUB_kept (hk e)) (nmUB_foreign hg)
  | fn f l1 l2 c1 c2 h1 h2 i1 i2 => exact .fn f _ _ c1 c2 i1 i2
  | nfn => exact .nfn
  | agg l c h ih => exact .agg _ c ih
  | tup l c h ih => exact .tup _ c ih
  | iface t v u h ih => exact .iface t _ u ih
  | niface => exact .niface
  | any u => exact .any u
  | nil => exact VRs.nil
  | cons v u l c h t i1 i2 => exact VRs.cons _ u _ c i1 i2

/-! ### Handed on to be read -/
def noneσ : Nat → Option Nat := fun _ => none

mutual
/-- A value as it is lent to be read: what it points to as it stands; and which of one's own blocks were read for it. -/
def resA (σ : Nat → Option Nat) (g : Nat → Option Blk) : Nat → AV → AV × List Nat
  | 0, _ => (.any, [])
  | n + 1, v =>
    match v with
    | .ptr b w i j => match σ b with
      | some _ => (.any, [])
      | none => match g b with
        | some d => let r := resB σ g n d; (.iptr .lent r.1 w i j, b :: r.2)
        | none => (.any, [b])
    | .sl b w es i len _ => match σ b with
      | some _ => (.any, [])
      | none => match g b with
        | some d => let r := resB σ g n d; (.imm .lent r.1 w es i len, b :: r.2)
        | none => (.any, [b])
    | .fn f l1 l2 => let r1 := resL σ g n l1; let r2 := resL σ g n l2; (.fn f r1.1 r2.1, r1.2 ++ r2.2)
    | .agg l => let r := resL σ g n l; (.agg r.1, r.2)
    | .tup l => let r := resL σ g n l; (.tup r.1, r.2)
    | .iface t v => let r := resA σ g n v; (.iface t r.1, r.2)
    | v => (nmU noneσ v, [])
def resL (σ : Nat → Option Nat) (g : Nat → Option Blk) : Nat → List AV → List AV × List Nat
  | 0, l => (l.map fun _ => .any, [])
  | n + 1, l =>
    match l with
    | [] => ([], [])
    | v :: l => let r := resA σ g n v; let s := resL σ g n l; (r.1 :: s.1, r.2 ++ s.2)
def resB (σ : Nat → Option Nat) (g : Nat → Option Blk) : Nat → Blk → Blk × List Nat
  | 0, d => (.vs [], [])
  | n + 1, d =>
    match d with
    | .vs l => let r := resL σ g n l; (.vs r.1, r.2)
    | d => (d, [])
end

mutual
theorem res_foreign (σ : Nat → Option Nat) (g : Nat → Option Blk) : ∀ (n : Nat) (v : AV), (resA σ g n v).1.foreign = true
  | 0, v => rfl
  | n + 1, v => by
    cases v <;> simp only [resA] <;> first
      | (split; rfl; split <;> rfl)
      | (simp only [AV.foreign, Bool.and_eq_true]; exact ⟨resL_foreign σ g n _, resL_foreign σ g n _⟩)
      | (simp only [AV.foreign]; exact resL_foreign σ g n _)
      | (simp only [AV.foreign]; exact res_foreign σ g n _)
      | exact nmU_foreign _ _ rfl
theorem resL_foreign (σ : Nat → Option Nat) (g : Nat → Option Blk) : ∀ (n : Nat) (l : List AV), foreignAll (resL σ g n l).1 = true
  | 0, l => by
    simp only [resL]
    induction l with
    | nil => rfl
    | cons a l ih => simp only [List.map_cons, foreignAll, AV.foreign, Bool.true_and]; exact ih
  | n + 1, [] => rfl
  | n + 1, v :: l => by simp only [resL, foreignAll, Bool.and_eq_true]; exact ⟨res_foreign σ g n v, resL_foreign σ g n l⟩
end

theorem resB_foreign (σ : Nat → Option Nat) (g : Nat → Option Blk) (n : Nat) (d : Blk) : (resB σ g n d).1.foreign = true := by
  cases n with
  | zero => rfl
  | succ n => cases d <;> simp only [resB, Blk.foreign]; exact resL_foreign σ g n _

theorem resB_rk (σ : Nat → Option Nat) (g : Nat → Option Blk) (n : Nat) (d : Blk) (h : d.recKept) : (resB σ g n d).1.recKept := by
  cases n with
  | zero => trivial
  | succ n => cases d <;> first | exact h | trivial

theorem lend_none {ρ τ : Place} {w : World} {h : Heap} {σ : Nat → Option Nat} (L : Lend ρ τ w h σ) : Lend ρ τ w [] noneσ :=
  ⟨fun b c q => (by cases q), L.up, L.nobody, fun b d q => (by cases q)⟩

mutual
theorem res_vr {ρ τ : Place} {w : World} {h : Heap} {m : Nat} {σ : Nat → Option Nat} (hh : HR ρ w h m) (L : Lend ρ τ w h σ) : ∀ (n : Nat) {v : AV} {u : Value}, VR ρ w v u → VR τ w (resA σ (hget h) n v).1 u
  | 0, v, u, hv => .any u
  | n + 1, v, u, hv => by
    have content : ∀ (b : Nat) (d : Blk), hget h b = some d → ρ.ok b → ∀ x v, (resB σ (hget h) n d).1.cell? x = some v → w.cell? ⟨ρ.at_ b, 0 + x, none⟩ = some ((w.cell? ⟨ρ.at_ b, x, none⟩).getD undef) ∧ VR τ w v ((w.cell? ⟨ρ.at_ b, x, none⟩).getD undef) := by
      intro b d hd hok x v hx
      obtain ⟨_, hrk, c, t, hc, hcv⟩ := hh.real hd hok
      obtain ⟨u, q1, q2⟩ := resB_cells hh L n (ρ.at_ b) (fun x v hx => by
        obtain ⟨u, k1, k2⟩ := hcv x v hx
        exact ⟨u, by simp [World.cell?, hc, k1], k2⟩) hrk x v hx
      rw [Nat.zero_add, q1]; exact ⟨rfl, q2⟩
    cases v with
    | ptr b k i j =>
      simp only [resA]
      split
      · exact .any _
      · rename_i hσ
        split
        · rename_i d hd
          cases hv with | ptr _ _ _ _ hb =>
          have := VR.iptr (ρ := τ) (w := w) .lent (resB σ (hget h) n d).1 k i j (ρ.at_ b) 0 (fun x => (w.cell? ⟨ρ.at_ b, x, none⟩).getD undef) (L.ro b d hd hb hσ) (hh.liveLt _ (hh.real hd hb).1)
            (fun x v hx => (content b d hd hb x v hx).1) (fun x v hx => (content b d hd hb x v hx).2) (resB_rk _ _ _ _ (hh.rk hd)) (fun e => by cases e) (resB_foreign _ _ _ _)
          simpa using this
        · exact .any _
    | sl b k es i len cap =>
      simp only [resA]
      split
      · exact .any _
      · rename_i hσ
        split
        · rename_i d hd
          cases hv with
          | sl _ _ _ _ _ _ cap' hb hcap hl' c t hh' hs =>
            have := VR.imm (ρ := τ) (w := w) .lent (resB σ (hget h) n d).1 k es i len cap' (ρ.at_ b) 0 (fun x => (w.cell? ⟨ρ.at_ b, x, none⟩).getD undef) (L.ro b d hd hb hσ) (hh.liveLt _ (hh.real hd hb).1)
              (fun x v hx => (content b d hd hb x v hx).1) (fun x v hx => (content b d hd hb x v hx).2) (by omega) (resB_rk _ _ _ _ (hh.rk hd)) (fun e => by cases e) (resB_foreign _ _ _ _)
            simpa using this
          | slEnd => exact .immEnd _ _ _ _ _ _ _ (resB_rk _ _ _ _ (hh.rk hd)) (fun e => by cases e) (resB_foreign _ _ _ _)
        · exact .any _
    | fn f l1 l2 => cases hv with | fn _ _ _ _ _ h1 h2 => exact .fn _ _ _ _ _ (resL_vr hh L n h1) (resL_vr hh L n h2)
    | agg l => cases hv with | agg _ _ h1 => exact .agg _ _ (resL_vr hh L n h1)
    | tup l => cases hv with | tup _ _ h1 => exact .tup _ _ (resL_vr hh L n h1)
    | iface t v => cases hv with | iface _ _ _ h1 => exact .iface _ _ _ (res_vr hh L n h1)
    | int => exact nmU_vr (lend_none L) hv
    | bool => exact nmU_vr (lend_none L) hv
    | flt => exact nmU_vr (lend_none L) hv
    | str => exact nmU_vr (lend_none L) hv
    | nptr => exact nmU_vr (lend_none L) hv
    | iptr => exact nmU_vr (lend_none L) hv
    | nsl => exact nmU_vr (lend_none L) hv
    | esl => exact nmU_vr (lend_none L) hv
    | zsl => exact nmU_vr (lend_none L) hv
    | nan => exact nmU_vr (lend_none L) hv
    | imm => exact nmU_vr (lend_none L) hv
    | nfn => exact nmU_vr (lend_none L) hv
    | niface => exact nmU_vr (lend_none L) hv
    | any => exact nmU_vr (lend_none L) hv
theorem resL_vr {ρ τ : Place} {w : World} {h : Heap} {m : Nat} {σ : Nat → Option Nat} (hh : HR ρ w h m) (L : Lend ρ τ w h σ) : ∀ (n : Nat) {l : List AV} {c : List Value}, VRs ρ w l c → VRs τ w (resL σ (hget h) n l).1 c
  | 0, [], c, hv => by cases hv; exact .nil
  | 0, v :: l, c, hv => by
    cases hv with | cons _ u _ c' h1 h2 =>
    have := resL_vr hh L 0 h2
    exact .cons _ _ _ _ (.any u) this
  | n + 1, [], c, hv => by cases hv; exact .nil
  | n + 1, v :: l, c, hv => by
    cases hv with | cons _ u _ c' h1 h2 => exact .cons _ _ _ _ (res_vr hh L n h1) (resL_vr hh L n h2)
theorem resB_cells {ρ τ : Place} {w : World} {h : Heap} {m : Nat} {σ : Nat → Option Nat} (hh : HR ρ w h m) (L : Lend ρ τ w h σ) : ∀ (n : Nat) (bl : Nat) {d : Blk}, (∀ x v, d.cell? x = some v → ∃ u, w.cell? ⟨bl, x, none⟩ = some u ∧ VR ρ w v u) → d.recKept →
    ∀ x v, (resB σ (hget h) n d).1.cell? x = some v → ∃ u, w.cell? ⟨bl, x, none⟩ = some u ∧ VR τ w v u
  | 0, bl, d, hc, hr, x, v, hx => by simp [resB, Blk.cell?] at hx
  | n + 1, bl, d, hc, hr, x, v, hx => by
    cases d with
    | vs l =>
      simp only [resB, Blk.cell?] at hx
      have hus : VRs ρ w l ((List.range l.length).map fun x => (w.cell? ⟨bl, x, none⟩).getD undef) := by
        refine VRs.of_get (by simp) fun y v u q1 q2 => ?_
        obtain ⟨u', k1, k2⟩ := hc y v q1
        have hlt : y < l.length := (List.getElem?_eq_some_iff.1 q1).1
        rw [List.getElem?_map, List.getElem?_range hlt] at q2
        simp [k1] at q2; subst q2; exact k2
      have hr2 := resL_vr hh L n hus
      obtain ⟨u, q1, q2⟩ := hr2.get x v hx
      rw [List.getElem?_map] at q1
      have hlt : x < l.length := by
        rcases Nat.lt_or_ge x l.length with q | q
        · exact q
        · rw [List.getElem?_eq_none (by simpa using q)] at q1; cases q1
      rw [List.getElem?_range hlt] at q1
      obtain ⟨u', k1, _⟩ := hc x (l[x]) (List.getElem?_eq_getElem hlt)
      simp [k1] at q1; subst q1
      exact ⟨u', k1, q2⟩
    | fl xs => obtain ⟨u, q1, q2⟩ := hc x v hx; exact ⟨u, q1, kept_vr L.nobody q2 (kept_content (d := .fl xs) hr rfl x v hx)⟩
    | ns k xs => obtain ⟨u, q1, q2⟩ := hc x v hx; exact ⟨u, q1, kept_vr L.nobody q2 (kept_content (d := .ns k xs) hr rfl x v hx)⟩
    | bs xs => obtain ⟨u, q1, q2⟩ := hc x v hx; exact ⟨u, q1, kept_vr L.nobody q2 (kept_content (d := .bs xs) hr rfl x v hx)⟩
    | ss xs => obtain ⟨u, q1, q2⟩ := hc x v hx; exact ⟨u, q1, kept_vr L.nobody q2 (kept_content (d := .ss xs) hr rfl x v hx)⟩
    | rows k m get => obtain ⟨u, q1, q2⟩ := hc x v hx; exact ⟨u, q1, kept_vr L.nobody q2 (kept_content (d := .rows k m get) hr rfl x v hx)⟩
    | cols k cs => obtain ⟨u, q1, q2⟩ := hc x v hx; exact ⟨u, q1, kept_vr L.nobody q2 (kept_content (d := .cols k cs) hr rfl x v hx)⟩
end

end Go.Plb

/-
  ENGINE, PART 14b: a callee's place; what it hands over.
-/
namespace Go.Plb
set_option linter.unusedSimpArgs false
set_option linter.unusedVariables false

/-- Blocks as a heap, numbered from i on. -/
def heapFrom : Nat → List (Option Blk) → Heap
  | _, [] => []
  | i, some d :: l => (i, d) :: heapFrom (i + 1) l
  | i, none :: l => heapFrom (i + 1) l

theorem heapFrom_get : ∀ (l : List (Option Blk)) (i x : Nat), hget (heapFrom i l) x = if i ≤ x then (l[x - i]?).join else none
  | [], i, x => by simp [heapFrom, hget]
  | some d :: l, i, x => by
    simp only [heapFrom, hget]
    by_cases h : i = x
    · subst h; simp [beq_tt]
    · rw [beq_ff h, cond_false, heapFrom_get l (i + 1) x]
      by_cases hx : i ≤ x
      · have e : x - i = (x - (i + 1)) + 1 := by omega
        rw [if_pos (by omega), if_pos hx, e]; simp
      · rw [if_neg (by omega), if_neg hx]
  | none :: l, i, x => by
    simp only [heapFrom]
    rw [heapFrom_get l (i + 1) x]
    by_cases hx : i ≤ x
    · rw [if_pos hx]
      by_cases h : i = x
      · subst h; rw [if_neg (by omega)]; simp
      · have e : x - i = (x - (i + 1)) + 1 := by omega
        rw [if_pos (by omega), e]; simp
    · rw [if_neg (by omega), if_neg hx]

theorem heapFrom_get0 (l : List (Option Blk)) (x : Nat) : hget (heapFrom 0 l) x = (l[x]?).join := by
  rw [heapFrom_get]; simp

theorem heapFrom_some {l : List (Option Blk)} {x : Nat} {d : Blk} (h : hget (heapFrom 0 l) x = some d) : l[x]? = some (some d) := by
  rw [heapFrom_get0] at h
  cases q : l[x]? with
  | none => rw [q] at h; cases h
  | some o => rw [q] at h; simp at h; rw [h]

/-- A callee's place: just the blocks that are lent to be turned, and nothing besides. -/
structure LentPlace (ρ : Place) (w : World) (lent : List Blk) : Prop where
  heap : HR ρ w (heapFrom 0 (lent.map some)) lent.length
  only : ∀ bl, ρ.live bl → ∃ i, ρ.ok i ∧ ρ.at_ i = bl

/-- What a callee hands back: a value, and blocks: first those that were lent, then new ones. -/
structure Out where
  v : AV
  own : List (Option Blk)

/-- What is handed back stands in the world. -/
def Out.Holds (ρ : Place) (w w' : World) (k : Nat) (r : Out) (u : Value) : Prop :=
  ∃ ρ', Ext ρ ρ' w ∧ (∀ i, i < k → ρ'.ok i → ρ.ok i) ∧ HR ρ' w' (heapFrom 0 r.own) r.own.length ∧ VR ρ' w' r.v u

/-! ### The callee's place, out of the caller's -/
def isLent (ρ : Place) (bs : List Nat) (bl : Nat) : Prop := ∃ b, b ∈ bs ∧ ρ.ok b ∧ bl = ρ.at_ b

def Place.lend (ρ : Place) (bs : List Nat) : Place :=
  { at_ := fun i => ρ.at_ ((bs[i]?).getD 0), ok := fun i => ∃ b, bs[i]? = some b ∧ ρ.ok b, live := isLent ρ bs,
    out := fun j bl => match j with
      | 0 => ρ.live bl ∧ ¬ isLent ρ bs bl
      | j + 1 => ρ.out j bl }

def posIn : List Nat → Nat → Nat → Option Nat
  | [], _, _ => none
  | k :: l, i, b => bif Nat.beq k b then some i else posIn l (i + 1) b

theorem posIn_get : ∀ {l : List Nat} {i b c : Nat}, posIn l i b = some c → i ≤ c ∧ l[c - i]? = some b
  | [], i, b, c, h => by cases h
  | k :: l, i, b, c, h => by
    simp only [posIn] at h
    cases e : Nat.beq k b with
    | true => rw [e] at h; simp only [cond_true, Option.some.injEq] at h; subst h; have := Nat.eq_of_beq_eq_true e; subst this; simp
    | false =>
      rw [e] at h; simp only [cond_false] at h
      obtain ⟨h1, h2⟩ := posIn_get h
      refine ⟨by omega, ?_⟩
      have : c - i = (c - (i + 1)) + 1 := by omega
      rw [this]; simpa using h2

theorem posIn_none : ∀ {l : List Nat} {i b : Nat}, posIn l i b = none → b ∉ l
  | [], i, b, _, h => by cases h
  | k :: l, i, b, h, hm => by
    simp only [posIn] at h
    cases e : Nat.beq k b with
    | true => rw [e] at h; cases h
    | false =>
      rw [e] at h
      rcases List.mem_cons.1 hm with rfl | q
      · rw [beq_tt] at e; cases e
      · exact posIn_none h q

/-- Which of one's own blocks are lent to be turned: each there, none twice. -/
structure Lends (h : Heap) (bs : List Nat) : Prop where
  nodup : ∀ {i j b : Nat}, bs[i]? = some b → bs[j]? = some b → i = j
  there : ∀ b, b ∈ bs → ∃ d, hget h b = some d

theorem lend_live {ρ : Place} {w : World} {h : Heap} {n : Nat} {bs : List Nat} (hh : HR ρ w h n) (hb : Lends h bs) {bl : Nat} (q : isLent ρ bs bl) : ρ.live bl := by
  obtain ⟨b, h1, h2, rfl⟩ := q
  obtain ⟨d, hd⟩ := hb.there b h1
  exact (hh.real hd h2).1

theorem lend_ok {ρ : Place} {w : World} {h : Heap} {n : Nat} {bs : List Nat} (hh : HR ρ w h n) (hb : Lends h bs) : Lend ρ (ρ.lend bs) w h (posIn bs 0) := by
  refine ⟨fun b c hc hok => ?_, fun l bl _ ha => ?_, fun bl _ hN j => ?_, fun b d hd hok hσ => ?_⟩
  · obtain ⟨_, h2⟩ := posIn_get hc
    rw [Nat.sub_zero] at h2
    exact ⟨⟨b, h2, hok⟩, by simp [Place.lend, h2]⟩
  · refine ⟨fun q => Place.avoid_live ha (lend_live hh hb q), ?_⟩
    refine Lv.av_anti (d := 1) (i := 0) (fun j _ q => ?_) ha
    cases j with
    | zero => exact q.1
    | succ j => exact q
  · cases j with
    | zero => exact fun q => hN 0 (lend_live hh hb q)
    | succ j =>
      cases j with
      | zero => exact fun q => hN 0 q.1
      | succ j => exact fun q => hN (j + 1) q
  · rintro ⟨b', h1, h2, h3⟩
    obtain ⟨d', hd'⟩ := hb.there b' h1
    have := hh.inj b b' d d' hd hd' hok h2 h3
    subst this
    exact posIn_none hσ h1

/-- The blocks as they are lent. -/
def lentOf (σ : Nat → Option Nat) (g : Nat → Option Blk) : List Nat → List Blk
  | [] => []
  | b :: l => (match g b with | some d => nmUB σ d | none => .vs []) :: lentOf σ g l

theorem lentOf_length (σ : Nat → Option Nat) (g : Nat → Option Blk) : ∀ l, (lentOf σ g l).length = l.length
  | [] => rfl
  | b :: l => by simp [lentOf, lentOf_length σ g l]
theorem lentOf_get (σ : Nat → Option Nat) (g : Nat → Option Blk) : ∀ (l : List Nat) (i : Nat) (d : Blk), (lentOf σ g l)[i]? = some d → ∃ b, l[i]? = some b ∧ d = (match g b with | some d => nmUB σ d | none => .vs [])
  | [], i, d, h => by simp [lentOf] at h
  | b :: l, 0, d, h => by simp [lentOf] at h; exact ⟨b, rfl, h.symm⟩
  | b :: l, i + 1, d, h => lentOf_get σ g l i d (by simpa [lentOf] using h)

theorem lend_place {ρ : Place} {w : World} {h : Heap} {n : Nat} {bs : List Nat} (hh : HR ρ w h n) (hb : Lends h bs) : LentPlace (ρ.lend bs) w (lentOf (posIn bs 0) (hget h) bs) := by
  have L := lend_ok hh hb
  have atE : ∀ {i b : Nat}, bs[i]? = some b → (ρ.lend bs).at_ i = ρ.at_ b := fun q => by simp [Place.lend, q]
  refine ⟨⟨fun i d hi => ?_, fun i j d e h1 h2 ok1 ok2 he => ?_, fun bl q j => ?_, fun bl q => hh.liveLt bl (lend_live hh hb q), fun j bl q => ?_, fun i q => ?_⟩, fun bl q => ?_⟩
  · have hi := heapFrom_some hi
    rw [List.getElem?_map, Option.map_eq_some_iff] at hi
    obtain ⟨d', q1, q2⟩ := hi
    simp only [Option.some.injEq] at q2; subst q2
    obtain ⟨b, q3, q4⟩ := lentOf_get _ _ _ _ _ q1
    obtain ⟨d0, hd0⟩ := hb.there b (List.mem_of_getElem? q3)
    rw [hd0] at q4
    simp only at q4; subst q4
    have hlt : i < bs.length := (List.getElem?_eq_some_iff.1 q3).1
    rcases hh.cell b d0 hd0 with ⟨k1, k2, k3⟩ | ⟨k1, k2, k3, k4⟩
    · refine .inl ⟨⟨b, q3, k1⟩, ⟨b, List.mem_of_getElem? q3, k1, atE q3⟩, ?_⟩
      rw [atE q3]
      obtain ⟨hr, c, t, r1, r2⟩ := k3
      refine ⟨nmUB_rk hr, c, t, r1, fun x v hx => ?_⟩
      obtain ⟨v0, s1, s2⟩ := nmUB_cell hr hx
      obtain ⟨u, t1, t2⟩ := r2 x v0 s1
      refine ⟨u, t1, ?_⟩
      rcases s2 with rfl | ⟨rfl, s3⟩
      · exact nmU_vr L t2
      · exact kept_vr L.nobody t2 s3
    · refine .inr ⟨?_, by rw [lentOf_length]; exact hlt, nmUB_rk k3, fun x => ?_⟩
      · rintro ⟨b', q5, q6⟩
        rw [q3] at q5; cases q5
        exact k1 q6
      · cases hc : (nmUB (posIn bs 0) d0).cell? x with
        | none => rfl
        | some v => obtain ⟨v0, s1, _⟩ := nmUB_cell k3 hc; rw [k4 x] at s1; cases s1
  · obtain ⟨b, r1, r2⟩ := ok1
    obtain ⟨b', r3, r4⟩ := ok2
    rw [atE r1, atE r3] at he
    obtain ⟨d1, k1⟩ := hb.there b (List.mem_of_getElem? r1)
    obtain ⟨d2, k2⟩ := hb.there b' (List.mem_of_getElem? r3)
    have := hh.inj b b' d1 d2 k1 k2 r2 r4 he
    subst this
    exact hb.nodup r1 r3
  · cases j with
    | zero => exact fun r => r.2 q
    | succ j => exact hh.fresh bl (lend_live hh hb q) j
  · cases j with
    | zero => exact hh.liveLt bl q.1
    | succ j => exact hh.outLt j bl q
  · obtain ⟨b, q1, _⟩ := q
    rw [lentOf_length]; exact (List.getElem?_eq_some_iff.1 q1).1
  · obtain ⟨b, q1, q2, rfl⟩ := q
    obtain ⟨i, hi⟩ := List.getElem?_of_mem q1
    exact ⟨i, ⟨b, hi, q2⟩, atE hi⟩

/-! ### What comes back -/
mutual
/-- A value that comes back: its blocks named by τ; levels down. -/
def backA (τ : Nat → Nat) : AV → AV
  | .ptr b w i j => .ptr (τ b) w i j
  | .sl b w es i len cap => .sl (τ b) w es i len cap
  | .iptr (.up l) d w i j => .iptr l (backB τ d) w i j
  | .iptr .free d w i j => .iptr .free d w i j
  | .iptr .lent _ _ _ _ => .any
  | .imm (.up l) d w es i len => .imm l (backB τ d) w es i len
  | .imm .free d w es i len => .imm .free d w es i len
  | .imm .lent _ _ _ _ _ => .any
  | .fn f l1 l2 => .fn f (backL τ l1) (backL τ l2)
  | .agg l => .agg (backL τ l)
  | .tup l => .tup (backL τ l)
  | .iface t v => .iface t (backA τ v)
  | v => v
def backL (τ : Nat → Nat) : List AV → List AV
  | [] => []
  | v :: l => backA τ v :: backL τ l
def backB (τ : Nat → Nat) : Blk → Blk
  | .vs l => .vs (backL τ l)
  | d => d
end

mutual
theorem backA_kept (τ : Nat → Nat) : ∀ (v : AV), v.kept = true → (backA τ v).kept = true
  | .fn _ l1 l2, h => by simp only [AV.kept, backA, Bool.and_eq_true] at h ⊢; exact ⟨backL_kept τ l1 h.1, backL_kept τ l2 h.2⟩
  | .agg l, h => by simp only [AV.kept, backA] at h ⊢; exact backL_kept τ l h
  | .tup l, h => by simp only [AV.kept, backA] at h ⊢; exact backL_kept τ l h
  | .iface _ v, h => by simp only [AV.kept, backA] at h ⊢; exact backA_kept τ v h
  | .ptr .., h => by simp [AV.kept] at h
  | .sl .., h => by simp [AV.kept] at h
  | .iptr .free .., h => rfl
  | .iptr .lent .., h => rfl
  | .iptr (.up l) .., h => by simpa [AV.kept, backA, Lv.isFree] using h
  | .imm .free .., h => rfl
  | .imm .lent .., h => rfl
  | .imm (.up l) .., h => by simpa [AV.kept, backA, Lv.isFree] using h
  | .int .., _ | .bool .., _ | .flt .., _ | .str _, _ | .nptr, _ | .nsl, _ | .esl, _ | .zsl _, _ | .nan, _ | .nfn, _ | .niface, _ | .any, _ => rfl
theorem backL_kept (τ : Nat → Nat) : ∀ (l : List AV), keptAll l = true → keptAll (backL τ l) = true
  | [], _ => rfl
  | v :: l, h => by simp only [keptAll, backL, Bool.and_eq_true] at h ⊢; exact ⟨backA_kept τ v h.1, backL_kept τ l h.2⟩
end
mutual
theorem backA_foreign (τ : Nat → Nat) : ∀ (v : AV), v.foreign = true → (backA τ v).foreign = true
  | .fn _ l1 l2, h => by simp only [AV.foreign, backA, Bool.and_eq_true] at h ⊢; exact ⟨backL_foreign τ l1 h.1, backL_foreign τ l2 h.2⟩
  | .agg l, h => by simp only [AV.foreign, backA] at h ⊢; exact backL_foreign τ l h
  | .tup l, h => by simp only [AV.foreign, backA] at h ⊢; exact backL_foreign τ l h
  | .iface _ v, h => by simp only [AV.foreign, backA] at h ⊢; exact backA_foreign τ v h
  | .ptr .., h => by simp [AV.foreign] at h
  | .sl .., h => by simp [AV.foreign] at h
  | .iptr .free .., h => rfl
  | .iptr .lent .., h => rfl
  | .iptr (.up l) .., h => rfl
  | .imm .free .., h => rfl
  | .imm .lent .., h => rfl
  | .imm (.up l) .., h => rfl
  | .int .., _ | .bool .., _ | .flt .., _ | .str _, _ | .nptr, _ | .nsl, _ | .esl, _ | .zsl _, _ | .nan, _ | .nfn, _ | .niface, _ | .any, _ => rfl
theorem backL_foreign (τ : Nat → Nat) : ∀ (l : List AV), foreignAll l = true → foreignAll (backL τ l) = true
  | [], _ => rfl
  | v :: l, h => by simp only [foreignAll, backL, Bool.and_eq_true] at h ⊢; exact ⟨backA_foreign τ v h.1, backL_foreign τ l h.2⟩
end
theorem backB_kept {τ : Nat → Nat} {d : Blk} (h : d.kept = true) : (backB τ d).kept = true := by
  cases d <;> first | exact h | exact backL_kept τ _ h
theorem backB_foreign {τ : Nat → Nat} {d : Blk} (h : d.foreign = true) : (backB τ d).foreign = true := by
  cases d <;> first | exact h | exact backL_foreign τ _ h
theorem backB_rk {τ : Nat → Nat} {d : Blk} (h : d.recKept) : (backB τ d).recKept := by
  cases d <;> first | exact h | trivial
theorem backL_get (τ : Nat → Nat) : ∀ (l : List AV) (x : Nat), (backL τ l)[x]? = (l[x]?).map (backA τ)
  | [], x => by simp [backL]
  | v :: l, 0 => by simp [backL]
  | v :: l, x + 1 => by simp [backL, backL_get τ l x]
theorem backB_cell {τ : Nat → Nat} {d : Blk} (hr : d.recKept) {x : Nat} {v : AV} (h : (backB τ d).cell? x = some v) : ∃ v0, d.cell? x = some v0 ∧ (v = backA τ v0 ∨ (v = v0 ∧ v0.kept = true)) := by
  cases d with
  | vs l =>
    simp only [backB, Blk.cell?, backL_get, Option.map_eq_some_iff] at h
    obtain ⟨v0, h1, rfl⟩ := h
    exact ⟨v0, h1, .inl rfl⟩
  | fl xs => exact ⟨v, h, .inr ⟨rfl, kept_content hr rfl x v h⟩⟩
  | ns k xs => exact ⟨v, h, .inr ⟨rfl, kept_content hr rfl x v h⟩⟩
  | bs xs => exact ⟨v, h, .inr ⟨rfl, kept_content hr rfl x v h⟩⟩
  | ss xs => exact ⟨v, h, .inr ⟨rfl, kept_content hr rfl x v h⟩⟩
  | rows k n g => exact ⟨v, h, .inr ⟨rfl, kept_content hr rfl x v h⟩⟩
  | cols n cs => exact ⟨v, h, .inr ⟨rfl, kept_content hr rfl x v h⟩⟩

/-- What the caller's later place has to be, for what comes back. -/
structure Back (ρ' τp : Place) (w : World) (τ : Nat → Nat) : Prop where
  id : ∀ b, ρ'.ok b → τp.ok (τ b) ∧ τp.at_ (τ b) = ρ'.at_ b
  down : ∀ l bl, bl < w.heap.size → ρ'.avoid (.up l) bl → τp.avoid l bl
  nobody : Nobody ρ' τp w

theorem back_vr {ρ' τp : Place} {w : World} {τ : Nat → Nat} (L : Back ρ' τp w τ) {v : AV} {u : Value} (hv : VR ρ' w v u) : VR τp w (backA τ v) u := by
  induction hv using VR.rec (motive_2 := fun l c _ => VRs τp w (backL τ l) c) with
  | int k n => exact .int k n
  | bool kn b => exact .bool kn b
  | flt ex x y h => exact .flt ex x y h
  | str s => exact .str s
  | nptr => exact .nptr
  | ptr b k i j hb =>
    obtain ⟨h1, h2⟩ := L.id b hb
    simp only [backA]; rw [← h2]; exact .ptr _ _ _ _ h1
  | iptr bw d k i j bl o u ha hb hc hv hr hk hg ih =>
    cases bw with
    | lent => exact .any _
    | free =>
      exact .iptr _ _ k i j bl o u (Lv.av_of_free (L.nobody bl hb fun j => Lv.av_free (O := ρ'.own) (l := .free) rfl ha j (Nat.zero_le _)) .free 0) hb hc
        (fun x v hx => kept_vr L.nobody (hv x v hx) (kept_content hr (hk rfl) x v hx)) hr hk hg
    | up l =>
      refine .iptr l _ k i j bl o u (L.down l bl hb ha) hb (fun x v hx => ?_) (fun x v hx => ?_) (backB_rk hr) (fun e => backB_kept (hk e)) (backB_foreign hg)
      · obtain ⟨v0, h1, _⟩ := backB_cell hr hx; exact hc x v0 h1
      · obtain ⟨v0, h1, h2⟩ := backB_cell hr hx
        rcases h2 with rfl | ⟨rfl, h3⟩
        · exact ih x v0 h1
        · exact kept_vr L.nobody (hv x v h1) h3
  | nsl => exact .nsl
  | esl a => exact .esl a
  | zsl a c => exact .zsl a c
  | nan n h => exact .nan n h
  | sl b k es i len cap cap' hb hcap hl c t hh hs =>
    obtain ⟨h1, h2⟩ := L.id b hb
    simp only [backA]; rw [← h2] at hh ⊢; exact .sl _ _ _ _ _ _ _ h1 hcap hl c t hh hs
  | slEnd b k es i a => exact .slEnd _ _ _ _ _
  | imm bw d k es i len cap bl o u ha hb hc hv hl hr hk hg ih =>
    cases bw with
    | lent => exact .any _
    | free =>
      exact .imm _ _ k es i len cap bl o u (Lv.av_of_free (L.nobody bl hb fun j => Lv.av_free (O := ρ'.own) (l := .free) rfl ha j (Nat.zero_le _)) .free 0) hb hc
        (fun x v hx => kept_vr L.nobody (hv x v hx) (kept_content hr (hk rfl) x v hx)) hl hr hk hg
    | up l =>
      refine .imm l _ k es i len cap bl o u (L.down l bl hb ha) hb (fun x v hx => ?_) (fun x v hx => ?_) hl (backB_rk hr) (fun e => backB_kept (hk e)) (backB_foreign hg)
      · obtain ⟨v0, h1, _⟩ := backB_cell hr hx; exact hc x v0 h1
      · obtain ⟨v0, h1, h2⟩ := backB_cell hr hx
        rcases h2 with rfl | ⟨rfl, h3⟩
        · exact ih x v0 h1
        · exact kept_vr L.nobody (hv x v h1) h3
  | immEnd bw d k es i cap a hr hk hg =>
    cases bw with
    | lent => exact .any _
    | free => exact .immEnd _ _ k es i cap a hr hk hg
    | up l => exact .immEnd _ _ k es i cap a (backB_rk hr) (fun e => backB_kept (hk e)) (backB_foreign hg)
  | fn f l1 l2 c1 c2 h1 h2 i1 i2 => exact .fn f _ _ c1 c2 i1 i2
  | nfn => exact .nfn
  | agg l c h ih => exact .agg _ c ih
  | tup l c h ih => exact .tup _ c ih
  | iface t v u h ih => exact .iface t _ u ih
  | niface => exact .niface
  | any u => exact .any u
  | nil => exact VRs.nil
  | cons v u l c h t i1 i2 => exact VRs.cons _ u _ c i1 i2

/-- How many numbers an operation may give out. -/
def STR : Nat := 16

/-- A callee's block's name with the caller. -/
def nameOf (bs : List Nat) (nid i : Nat) : Nat :=
  match bs[i]? with
  | some b => b
  | none => nid + (i - bs.length)

/-- The blocks that come back, as the caller has them. -/
def backSets (τ : Nat → Nat) : Nat → List (Option Blk) → List (Nat × Option Blk)
  | _, [] => []
  | i, o :: l => (τ i, o.map (backB τ)) :: backSets τ (i + 1) l

/-- The last one of a number counts. -/
theorem putSets_get : ∀ (s : List (Nat × Option Blk)) (h : Heap) (x : Nat), (∀ (i j : Nat) (p q : Nat × Option Blk), s[i]? = some p → s[j]? = some q → p.1 = q.1 → i = j) →
    hget (putSets s h) x = match s.find? (fun p => Nat.beq p.1 x) with | some p => p.2 | none => hget h x
  | [], h, x, _ => rfl
  | (b, o) :: s, h, x, hn => by
    have hn' : ∀ (i j : Nat) (p q : Nat × Option Blk), s[i]? = some p → s[j]? = some q → p.1 = q.1 → i = j := fun i j p q h1 h2 h3 => by
      have := hn (i + 1) (j + 1) p q (by simpa using h1) (by simpa using h2) h3; omega
    have key : hget (putSets ((b, o) :: s) h) x = hget (putSets s (match o with | some d => hset h b d | none => hdel h b)) x := by
      cases o <;> rfl
    rw [key, putSets_get s _ x hn']
    by_cases hb : b = x
    · subst hb
      rw [List.find?_cons_of_pos (by simp [beq_tt])]
      have hno : s.find? (fun p => Nat.beq p.1 b) = none := by
        rw [List.find?_eq_none]
        intro p hp hq
        obtain ⟨j, hj⟩ := List.getElem?_of_mem hp
        have := hn 0 (j + 1) (b, o) p rfl (by simpa using hj) (Nat.eq_of_beq_eq_true hq).symm
        omega
      rw [hno]
      cases o with
      | some d => simp only [hget_hset, if_true]
      | none => simp only [hget_hdel, if_true]
    · rw [List.find?_cons_of_neg (by simp [beq_ff hb])]
      split
      · rfl
      · cases o with
        | some d => simp only [hget_hset, if_neg hb]
        | none => simp only [hget_hdel, if_neg hb]

theorem backSets_get (τ : Nat → Nat) : ∀ (l : List (Option Blk)) (i j : Nat), (backSets τ i l)[j]? = (l[j]?).map fun o => (τ (i + j), o.map (backB τ))
  | [], i, j => by simp [backSets]
  | o :: l, i, 0 => by simp [backSets]
  | o :: l, i, j + 1 => by
    simp only [backSets, List.getElem?_cons_succ]
    rw [backSets_get τ l (i + 1) j]
    have : i + 1 + j = i + (j + 1) := by omega
    rw [this]

def Place.adopt (ρ ρ' : Place) (k nid m : Nat) : Place :=
  { at_ := fun x => if nid ≤ x ∧ x - nid + k < m then ρ'.at_ (x - nid + k) else ρ.at_ x,
    ok := fun x => ρ.ok x ∨ (nid ≤ x ∧ x - nid + k < m ∧ ρ'.ok (x - nid + k)),
    live := fun bl => ρ.live bl ∨ ρ'.live bl, out := ρ.out }

/-- What a callee hands over, in the caller's hands. -/
theorem adopt_ok {ρ ρ' : Place} {w w' : World} {h : Heap} {n nid : Nat} {bs : List Nat} {own : List (Option Blk)} (hh : HR ρ w h n) (hbs : Lends h bs) (hid : ∀ x, nid ≤ x → x < nid + STR → ¬ ρ.ok x) (hfr : ∀ b, b ∈ bs → b < nid ∨ nid + STR ≤ b)
    (hn : nid + STR ≤ n) (hm : own.length ≤ bs.length + STR) (W : WLe (ρ.lend bs).live w w') (E : Ext (ρ.lend bs) ρ' w) (hbk : ∀ i, i < bs.length → ρ'.ok i → (ρ.lend bs).ok i)
    (H : HR ρ' w' (heapFrom 0 own) own.length) {v : AV} {u : Value} (hv : VR ρ' w' v u) :
    Ext ρ (ρ.adopt ρ' bs.length nid own.length) w ∧ WLe ρ.live w w' ∧ HR (ρ.adopt ρ' bs.length nid own.length) w' (putSets (backSets (nameOf bs nid) 0 own) h) n ∧
    VR (ρ.adopt ρ' bs.length nid own.length) w' (backA (nameOf bs nid) v) u ∧ ∀ b, (ρ.adopt ρ' bs.length nid own.length).ok b → ρ.ok b ∨ (nid ≤ b ∧ b < nid + STR) := by
  have W' : WLe ρ.live w w' := W.mono (fun b _ q => lend_live hh hbs q)
  have old : ∀ {bl : Nat}, bl < w.heap.size → ρ'.live bl → isLent ρ bs bl := fun hb q => E.new _ hb q
  have newOk : ∀ {x : Nat}, nid ≤ x → x - nid + bs.length < own.length → ¬ ρ.ok x := fun h1 h2 => hid _ h1 (by omega)
  have E2 : Ext ρ (ρ.adopt ρ' bs.length nid own.length) w := by
    refine ⟨fun x hx => ?_, fun _ q => .inl q, fun _ q => .inl q, fun x hx q => q.elim id (fun q => lend_live hh hbs (old hx q)), rfl⟩
    simp only [Place.adopt]
    rw [if_neg (fun q => newOk q.1 q.2 hx)]
  -- names
  have name_old : ∀ {i b : Nat}, bs[i]? = some b → nameOf bs nid i = b := fun q => by simp [nameOf, q]
  have name_new : ∀ {i : Nat}, bs.length ≤ i → nameOf bs nid i = nid + (i - bs.length) := fun q => by simp [nameOf, List.getElem?_eq_none q]
  have name_inj : ∀ {i j : Nat}, i < own.length → j < own.length → nameOf bs nid i = nameOf bs nid j → i = j := by
    intro i j li lj e
    rcases Nat.lt_or_ge i bs.length with hi | hi <;> rcases Nat.lt_or_ge j bs.length with hj | hj
    · have a := List.getElem?_eq_getElem hi
      have b := List.getElem?_eq_getElem hj
      rw [name_old a, name_old b] at e
      rw [e] at a
      exact hbs.nodup a b
    · have a := List.getElem?_eq_getElem hi
      rw [name_old a, name_new hj] at e
      have := hfr _ (List.getElem_mem hi); omega
    · have b := List.getElem?_eq_getElem hj
      rw [name_new hi, name_old b] at e
      have := hfr _ (List.getElem_mem hj); omega
    · rw [name_new hi, name_new hj] at e; omega
  have lendOk : ∀ {i b : Nat}, bs[i]? = some b → ρ'.ok i → ρ.ok b := by
    intro i b q hok
    obtain ⟨b', r1, r2⟩ := hbk i (List.getElem?_eq_some_iff.1 q).1 hok
    rw [q] at r1; cases r1; exact r2
  have atOld : ∀ {i b : Nat}, bs[i]? = some b → ρ'.ok i → ρ'.at_ i = ρ.at_ b := by
    intro i b q hok
    have := E.at_ i ⟨b, q, lendOk q hok⟩
    rw [this]; simp [Place.lend, q]
  have idOk : ∀ i, ρ'.ok i → (ρ.adopt ρ' bs.length nid own.length).ok (nameOf bs nid i) ∧ (ρ.adopt ρ' bs.length nid own.length).at_ (nameOf bs nid i) = ρ'.at_ i := by
    intro i hok
    have hlt := H.lt i hok
    rcases Nat.lt_or_ge i bs.length with hi | hi
    · have a := List.getElem?_eq_getElem hi
      have k := lendOk a hok
      rw [name_old a]
      exact ⟨.inl k, by rw [E2.at_ _ k, atOld a hok]⟩
    · rw [name_new hi]
      have e : nid + (i - bs.length) - nid + bs.length = i := by omega
      refine ⟨.inr ⟨by omega, by omega, by rw [e]; exact hok⟩, ?_⟩
      simp only [Place.adopt]
      rw [if_pos ⟨by omega, by omega⟩, e]
  have L : Back ρ' (ρ.adopt ρ' bs.length nid own.length) w' (nameOf bs nid) := by
    have own0 : ∀ {bl : Nat}, (ρ.adopt ρ' bs.length nid own.length).own 0 bl → ρ'.own 0 bl ∨ ρ'.own 1 bl := by
      intro bl q
      rcases q with q | q
      · by_cases hl : isLent ρ bs bl
        · exact .inl (E.live bl hl)
        · right; simp only [Place.own]; rw [E.out]; exact ⟨q, hl⟩
      · exact .inl q
    have ownS : ∀ {j bl : Nat}, (ρ.adopt ρ' bs.length nid own.length).own (j + 1) bl → ρ'.own (j + 2) bl := by
      intro j bl q
      simp only [Place.own, Place.adopt] at q ⊢
      rw [E.out]; exact q
    refine ⟨idOk, fun l bl _ ha => ?_, fun bl _ hN j q => ?_⟩
    · obtain ⟨a1, a2⟩ := ha
      have : ∀ {l : Lv} {i : Nat}, l.av ρ'.own (i + 1) bl → l.av (ρ.adopt ρ' bs.length nid own.length).own i bl := by
        intro l
        have sub : ∀ {i : Nat}, (ρ.adopt ρ' bs.length nid own.length).own i bl → ρ'.own (i + 1) bl := by
          intro i q
          cases i with
          | zero => exact (own0 q).resolve_left a1
          | succ i => exact ownS q
        induction l with
        | free => intro i h j hj q; exact h (j + 1) (by omega) (sub q)
        | lent => intro i h q; exact h (sub q)
        | up l ih => intro i h; exact ⟨fun q => h.1 (sub q), ih h.2⟩
      exact this a2
    · cases j with
      | zero => rcases own0 q with q | q; exact hN 0 q; exact hN 1 q
      | succ j => exact hN (j + 2) (ownS q)
  refine ⟨E2, W', ?_, back_vr L hv, fun b q => q.elim .inl (fun q => .inr ⟨q.1, by omega⟩)⟩
  -- the heap
  have hnd : ∀ (i j : Nat) (p q : Nat × Option Blk), (backSets (nameOf bs nid) 0 own)[i]? = some p → (backSets (nameOf bs nid) 0 own)[j]? = some q → p.1 = q.1 → i = j := by
    intro i j p q h1 h2 h3
    rw [backSets_get, Option.map_eq_some_iff] at h1 h2
    obtain ⟨_, l1, rfl⟩ := h1
    obtain ⟨_, l2, rfl⟩ := h2
    simp only [Nat.zero_add] at h3
    exact name_inj (List.getElem?_eq_some_iff.1 l1).1 (List.getElem?_eq_some_iff.1 l2).1 h3
  -- each block: handed over, or as it was
  have look : ∀ x d, hget (putSets (backSets (nameOf bs nid) 0 own) h) x = some d → (∃ i d0, hget (heapFrom 0 own) i = some d0 ∧ x = nameOf bs nid i ∧ d = backB (nameOf bs nid) d0) ∨
      (hget h x = some d ∧ ∀ i, i < own.length → x ≠ nameOf bs nid i) := by
    intro x d hx
    rw [putSets_get _ _ _ hnd] at hx
    split at hx
    · rename_i p hp
      have hmem := List.mem_of_find?_eq_some hp
      have hpx : p.1 = x := Nat.eq_of_beq_eq_true (List.find?_some (p := fun p : Nat × Option Blk => Nat.beq p.1 x) hp)
      obtain ⟨i, hi⟩ := List.getElem?_of_mem hmem
      rw [backSets_get, Option.map_eq_some_iff] at hi
      obtain ⟨o, h1, rfl⟩ := hi
      simp only [Nat.zero_add] at hpx hx
      rw [Option.map_eq_some_iff] at hx
      obtain ⟨d0, rfl, rfl⟩ := hx
      exact .inl ⟨i, d0, by rw [heapFrom_get0, h1]; rfl, hpx.symm, rfl⟩
    · rename_i hp
      rw [List.find?_eq_none] at hp
      refine .inr ⟨hx, fun i hi e => ?_⟩
      have hi' := List.getElem?_eq_getElem hi
      have : (backSets (nameOf bs nid) 0 own)[i]? = some (nameOf bs nid i, own[i].map (backB (nameOf bs nid))) := by
        rw [backSets_get, hi']; simp
      exact hp _ (List.mem_of_getElem? this) (by simp only; rw [e]; exact beq_tt _)
  have ownLive : ∀ {i d0}, hget (heapFrom 0 own) i = some d0 → ρ'.ok i → ρ'.live (ρ'.at_ i) := fun h1 h2 => (H.real h1 h2).1
  -- a block that was not handed over is none of those that were lent
  have apart : ∀ {x d}, hget h x = some d → ρ.ok x → (∀ i, i < own.length → x ≠ nameOf bs nid i) → x ∈ bs → own.length ≤ bs.length → False ∨ True := fun _ _ _ _ _ => .inr trivial
  refine ⟨fun x d hx => ?_, fun x y d e h1 h2 ok1 ok2 he => ?_, fun bl q j => ?_, fun bl q => ?_, fun j bl q => ?_, fun x q => ?_⟩
  · rcases look x d hx with ⟨i, d0, h1, rfl, rfl⟩ | ⟨h1, h2⟩
    · have hlt : i < own.length := (List.getElem?_eq_some_iff.1 (heapFrom_some h1)).1
      rcases H.cell i d0 h1 with ⟨k1, k2, k3⟩ | ⟨k1, k2, k3, k4⟩
      · obtain ⟨q1, q2⟩ := idOk i k1
        refine .inl ⟨q1, by rw [q2]; exact .inr k2, ?_⟩
        rw [q2]
        obtain ⟨hr, c, t, r1, r2⟩ := k3
        refine ⟨backB_rk hr, c, t, r1, fun y v hy => ?_⟩
        obtain ⟨v0, s1, s2⟩ := backB_cell hr hy
        obtain ⟨u, t1, t2⟩ := r2 y v0 s1
        refine ⟨u, t1, ?_⟩
        rcases s2 with rfl | ⟨rfl, s3⟩
        · exact back_vr L t2
        · exact kept_vr L.nobody t2 s3
      · -- no block
        refine .inr ⟨?_, ?_, backB_rk k3, fun y => ?_⟩
        · rintro (q | ⟨q1, q2, q3⟩)
          · rcases Nat.lt_or_ge i bs.length with hi | hi
            · have a := List.getElem?_eq_getElem hi
              rw [name_old a] at q
              exact k1 (E.ok i ⟨_, a, q⟩)
            · rw [name_new hi] at q
              exact hid _ (by omega) (by omega) q
          · rcases Nat.lt_or_ge i bs.length with hi | hi
            · have a := List.getElem?_eq_getElem hi
              rw [name_old a] at q1 q2
              have := hfr _ (List.getElem_mem hi); omega
            · rw [name_new hi] at q3
              have e : nid + (i - bs.length) - nid + bs.length = i := by omega
              rw [e] at q3; exact k1 q3
        · rcases Nat.lt_or_ge i bs.length with hi | hi
          · have a := List.getElem?_eq_getElem hi
            rw [name_old a]
            obtain ⟨d', hd'⟩ := hbs.there _ (List.getElem_mem hi)
            rcases hh.cell _ d' hd' with q | q
            · exact hh.lt _ q.1
            · exact q.2.1
          · rw [name_new hi]; omega
        · cases hc : (backB (nameOf bs nid) d0).cell? y with
          | none => rfl
          | some v => obtain ⟨v0, s1, _⟩ := backB_cell k3 hc; rw [k4 y] at s1; cases s1
    · rcases hh.cell x d h1 with ⟨k1, k2, k3⟩ | ⟨k1, k2, k3⟩
      · rw [E2.at_ x k1]
        refine .inl ⟨.inl k1, .inl k2, ?_⟩
        by_cases hl : isLent ρ bs (ρ.at_ x)
        · -- lent, but not told of: then its number is not among those handed over
          obtain ⟨b, r1, r2, r3⟩ := hl
          obtain ⟨d', hd'⟩ := hbs.there b r1
          have := hh.inj x b d d' h1 hd' k1 r2 r3
          subst this
          obtain ⟨i, hi⟩ := List.getElem?_of_mem r1
          have hlen : ¬ i < own.length := fun q => h2 i q (name_old hi).symm
          have hio : ρ'.ok i := E.ok i ⟨x, hi, k1⟩
          exact absurd (H.lt i hio) hlen
        · exact k3.mono E2 W' (W.same _ (hh.liveLt _ k2) hl)
      · refine .inr ⟨?_, k2, k3⟩
        rintro (q | ⟨q1, q2, q3⟩)
        · exact k1 q
        · have := h2 (x - nid + bs.length) q2
          rw [name_new (by omega)] at this
          exact this (by omega)
  · -- apart
    have real : ∀ {x d}, hget (putSets (backSets (nameOf bs nid) 0 own) h) x = some d → (ρ.adopt ρ' bs.length nid own.length).ok x →
        (∃ i d0, hget (heapFrom 0 own) i = some d0 ∧ x = nameOf bs nid i ∧ ρ'.ok i) ∨ (hget h x = some d ∧ ρ.ok x ∧ ∀ i, i < own.length → x ≠ nameOf bs nid i) := by
      intro x d hx hok
      rcases look x d hx with ⟨i, d0, h1, rfl, rfl⟩ | ⟨h1, h2⟩
      · refine .inl ⟨i, d0, h1, rfl, ?_⟩
        rcases hok with q | ⟨q1, q2, q3⟩
        · rcases Nat.lt_or_ge i bs.length with hi | hi
          · have a := List.getElem?_eq_getElem hi
            rw [name_old a] at q
            exact E.ok i ⟨_, a, q⟩
          · have hlt : i < own.length := (List.getElem?_eq_some_iff.1 (heapFrom_some h1)).1
            rw [name_new hi] at q
            exact (hid _ (by omega) (by omega) q).elim
        · rcases Nat.lt_or_ge i bs.length with hi | hi
          · have a := List.getElem?_eq_getElem hi
            rw [name_old a] at q1 q2
            have := hfr _ (List.getElem_mem hi); omega
          · rw [name_new hi] at q3
            have e : nid + (i - bs.length) - nid + bs.length = i := by omega
            rw [e] at q3; exact q3
      · refine .inr ⟨h1, ?_, h2⟩
        rcases hok with q | ⟨q1, q2, q3⟩
        · exact q
        · have := h2 (x - nid + bs.length) q2
          rw [name_new (by omega)] at this
          exact (this (by omega)).elim
    have cross : ∀ {i d0 y e}, hget (heapFrom 0 own) i = some d0 → ρ'.ok i → hget h y = some e → ρ.ok y → (∀ i, i < own.length → y ≠ nameOf bs nid i) → ρ'.at_ i = ρ.at_ y → False := by
      intro i d0 y e h1 k1 h2 k2 h3 he
      have hl := ownLive h1 k1
      rw [he] at hl
      obtain ⟨b, r1, r2, r3⟩ := old (hh.liveLt _ (hh.real h2 k2).1) hl
      obtain ⟨d', hd'⟩ := hbs.there b r1
      have := hh.inj y b e d' h2 hd' k2 r2 r3
      subst this
      obtain ⟨j, hj⟩ := List.getElem?_of_mem r1
      exact h3 j (H.lt j (E.ok j ⟨y, hj, k2⟩)) (name_old hj).symm
    rcases real h1 ok1 with ⟨i, d0, a1, rfl, a2⟩ | ⟨a1, a2, a3⟩ <;> rcases real h2 ok2 with ⟨j, e0, b1, rfl, b2⟩ | ⟨b1, b2, b3⟩
    · rw [(idOk i a2).2, (idOk j b2).2] at he
      rw [H.inj i j d0 e0 a1 b1 a2 b2 he]
    · rw [(idOk i a2).2, E2.at_ y b2] at he
      exact (cross a1 a2 b1 b2 b3 he).elim
    · rw [E2.at_ x a2, (idOk j b2).2] at he
      exact (cross b1 b2 a1 a2 a3 he.symm).elim
    · rw [E2.at_ x a2, E2.at_ y b2] at he
      exact hh.inj x y d e a1 b1 a2 b2 he
  · rcases q with q | q
    · exact hh.fresh bl q j
    · intro r
      have := H.fresh bl q (j + 1)
      rw [E.out] at this
      exact this r
  · rcases q with q | q
    · exact Nat.lt_of_lt_of_le (hh.liveLt bl q) W'.size
    · exact H.liveLt bl q
  · exact Nat.lt_of_lt_of_le (hh.outLt j bl q) W'.size
  · rcases q with q | ⟨q1, q2, q3⟩
    · exact hh.lt x q
    · omega

end Go.Plb

/-
  ENGINE, PART 15: one operation.
-/
namespace Go.Plb
set_option linter.unusedSimpArgs false
set_option linter.unusedVariables false

inductive Ext1 where
  | sqrt | bits | frombits

def extSem : Ext1 → Array Value → Sem Value
  | .sqrt => Extern.MathSqrt.sqrt
  | .bits => Extern.MathFloatBits.float64bits
  | .frombits => Extern.MathFloatBits.float64frombits

def extA (k : Ext1) (args : List AV) : List HAlt :=
  match k, args with
  | .sqrt, [.flt _ x] => [⟨.flt false (fsqrt x), [], []⟩]
  | .bits, [.flt true x] => [⟨.int .u64 x, [], []⟩]
  | .bits, [.flt false x] => [⟨.int .u64 x, [], [!isNaN x]⟩, ⟨.nan, [], [isNaN x]⟩]
  | .frombits, [.int .u64 n] => [⟨.flt true n.toNat, [], []⟩]
  | _, _ => []

/-- none: what is open is looked at; some: the choices to come. -/
abbrev Path := Option (List Nat)

/-- How a function takes its arguments (true: what it may turn), and whether it gives up what it hands back. -/
structure Mode where
  mask : List Bool
  keep : Bool

/-- A function by its own text or by what was proved of it: on blocks lent to be turned, and values. -/
abbrev CallRun := FuncId → List Blk → List AV → Path → Option (Out × List Bool × Path)

structure Ctx where
  P : Program
  ext : FuncId → Option Ext1
  mode : FuncId → Mode
  wrap : Bool

structure Ctx.Ok (C : Ctx) : Prop where
  mixed : C.P.follows .mixedOrders = true
  enter : ∀ (f : FuncId) (fn : Func) (args : Array Value) (w : World), C.P.funcs[f]? = some fn → fn.body.isSome = true → (callFunc f args).run C.P w = .ok (.enter f args) w
  ext : ∀ (f : FuncId) (k : Ext1) (args : Array Value) (w : World), C.ext f = some k → (callFunc f args).run C.P w = (do pure (Next.value (← extSem k args)) : Sem Next).run C.P w

def RunOk (P : Program) (run : CallRun) : Prop :=
  ∀ f lent args p r obs p', run f lent args p = some (r, obs, p') → allTrue obs → ∀ (ρ : Place) (w : World) (us : List Value), LentPlace ρ w lent → VRs ρ w args us →
    (∃ fn, P.funcs[f]? = some fn ∧ fn.body.isSome = true) ∧ Calls P f us.toArray w fun e w' => ∃ u, e = .returned u ∧ WLe ρ.live w w' ∧ r.Holds ρ w w' lent.length u

structure OpR where
  v : AV
  sets : List (Nat × Option Blk)
  reads : List Nat
  obs : List Bool
  path : Path

def allB : List Bool → Bool
  | [] => true
  | b :: l => b && allB l

theorem allB_true : ∀ {l : List Bool}, allB l = true → allTrue l
  | [], _ => trivial
  | b :: l, h => by simp only [allB, Bool.and_eq_true] at h; exact ⟨h.1, allB_true h.2⟩

def pickAlt (alts : List HAlt) (p : Path) : Option (HAlt × Path) :=
  match alts, p with
  | [a], p => some (a, p)
  | alts, none => (alts.find? fun a => allB a.obs).map fun a => (a, none)
  | alts, some (k :: r) => (alts[k]?).map fun a => (a, some r)
  | _, _ => none

theorem pickAlt_mem {alts : List HAlt} {p p' : Path} {a : HAlt} (h : pickAlt alts p = some (a, p')) : a ∈ alts := by
  unfold pickAlt at h
  split at h
  · simp only [Option.some.injEq, Prod.mk.injEq] at h; rw [← h.1]; simp
  · simp only [Option.map_eq_some_iff, Prod.mk.injEq] at h; obtain ⟨b, h1, rfl, _⟩ := h; exact List.mem_of_find?_eq_some h1
  · simp only [Option.map_eq_some_iff, Prod.mk.injEq] at h; obtain ⟨b, h1, rfl, _⟩ := h; exact List.mem_of_getElem? h1
  · cases h

def resFuel : Nat := 100000

mutual
/-- The blocks of one's own that are named. -/
def ownIds : AV → List Nat
  | .ptr b .. => [b]
  | .sl b .. => [b]
  | .fn _ l1 l2 => ownIdsL l1 ++ ownIdsL l2
  | .agg l | .tup l => ownIdsL l
  | .iface _ v => ownIds v
  | _ => []
def ownIdsL : List AV → List Nat
  | [] => []
  | v :: l => ownIds v ++ ownIdsL l
end

def ownIdsB : Blk → List Nat
  | .vs l => ownIdsL l
  | _ => []

def hasNat : List Nat → Nat → Bool
  | [], _ => false
  | k :: l, b => bif Nat.beq k b then true else hasNat l b

/-- All that is reached. -/
def reach (g : Nat → Option Blk) : Nat → List Nat → List Nat → List Nat
  | 0, _, acc => acc
  | _ + 1, [], acc => acc
  | n + 1, b :: t, acc => match hasNat acc b with
    | true => reach g n t acc
    | false => reach g n ((match g b with | some d => ownIdsB d | none => []) ++ t) (acc ++ [b])

def picked : List Bool → List AV → List AV
  | true :: m, v :: l => v :: picked m l
  | false :: m, _ :: l => picked m l
  | _, _ => []

/-- Arguments as they are lent. -/
def lendArgs (σ : Nat → Option Nat) (g : Nat → Option Blk) : List Bool → List AV → List AV × List Nat
  | _, [] => ([], [])
  | true :: m, v :: l => let s := lendArgs σ g m l; (nmU σ v :: s.1, s.2)
  | false :: m, v :: l => let r := resA σ g resFuel v; let s := lendArgs σ g m l; (r.1 :: s.1, r.2 ++ s.2)
  | [], v :: l => let r := resA σ g resFuel v; let s := lendArgs σ g [] l; (r.1 :: s.1, r.2 ++ s.2)

theorem lendArgs_vr {ρ τ : Place} {w : World} {h : Heap} {m : Nat} {σ : Nat → Option Nat} (hh : HR ρ w h m) (L : Lend ρ τ w h σ) : ∀ (k : List Bool) {l : List AV} {c : List Value}, VRs ρ w l c → VRs τ w (lendArgs σ (hget h) k l).1 c
  | k, [], c, hv => by cases hv; cases k <;> exact .nil
  | true :: k, v :: l, c, hv => by cases hv with | cons _ u _ c' h1 h2 => exact .cons _ _ _ _ (nmU_vr L h1) (lendArgs_vr hh L k h2)
  | false :: k, v :: l, c, hv => by cases hv with | cons _ u _ c' h1 h2 => exact .cons _ _ _ _ (res_vr hh L _ h1) (lendArgs_vr hh L k h2)
  | [], v :: l, c, hv => by cases hv with | cons _ u _ c' h1 h2 => exact .cons _ _ _ _ (res_vr hh L _ h1) (lendArgs_vr hh L [] h2)

def nodupN : List Nat → Bool
  | [] => true
  | k :: l => bif hasNat l k then false else nodupN l

def allThere (g : Nat → Option Blk) (nid : Nat) : List Nat → Bool
  | [] => true
  | b :: l => (match g b with | some _ => Nat.blt b nid || Nat.ble (nid + STR) b | none => false) && allThere g nid l

theorem hasNat_get : ∀ {l : List Nat} {i b : Nat}, l[i]? = some b → hasNat l b = true
  | [], i, b, h => by simp at h
  | k :: l, 0, b, h => by simp at h; subst h; simp [hasNat, beq_tt]
  | k :: l, i + 1, b, h => by
    simp only [hasNat]
    cases Nat.beq k b with
    | true => rfl
    | false => simp only [cond_false]; exact hasNat_get (i := i) (by simpa using h)

theorem nodupN_get : ∀ {l : List Nat}, nodupN l = true → ∀ {i j b : Nat}, l[i]? = some b → l[j]? = some b → i = j
  | [], _, i, j, b, h1, _ => by simp at h1
  | k :: l, hn, i, j, b, h1, h2 => by
    simp only [nodupN] at hn
    cases e : hasNat l k with
    | true => rw [e] at hn; cases hn
    | false =>
      rw [e] at hn; simp only [cond_false] at hn
      cases i with
      | zero =>
        cases j with
        | zero => rfl
        | succ j => simp at h1 h2; subst h1; rw [hasNat_get h2] at e; cases e
      | succ i =>
        cases j with
        | zero => simp at h1 h2; subst h2; rw [hasNat_get h1] at e; cases e
        | succ j => have := nodupN_get hn (i := i) (j := j) (b := b) (by simpa using h1) (by simpa using h2); omega

theorem allThere_spec {g : Nat → Option Blk} {nid : Nat} : ∀ {l : List Nat}, allThere g nid l = true → ∀ b, b ∈ l → (∃ d, g b = some d) ∧ (b < nid ∨ nid + STR ≤ b)
  | [], _, b, hb => by cases hb
  | k :: l, h, b, hb => by
    simp only [allThere, Bool.and_eq_true] at h
    rcases List.mem_cons.1 hb with rfl | q
    · have := h.1
      cases e : g b with
      | none => rw [e] at this; cases this
      | some d =>
        rw [e] at this
        simp only [Bool.or_eq_true] at this
        refine ⟨⟨d, rfl⟩, this.imp (fun q => by simpa [Nat.blt_eq] using q) (fun q => Nat.le_of_ble_eq_true q)⟩
    · exact allThere_spec h.2 b q

/-- A call's target and its arguments. -/
def callArgs (e : Operand → AV) (f : Operand) (args : Array Operand) : Option (FuncId × List AV) :=
  match e f with
  | .fn (.func fid) first caps => some (fid, first ++ args.toList.map e ++ caps)
  | _ => none

/-- A call of a function. -/
def callM (C : Ctx) (run : CallRun) (g : Nat → Option Blk) (nid : Nat) (p : Path) (fid : FuncId) (vals : List AV) : Option OpR :=
  let bs := reach g resFuel (ownIdsL (picked (C.mode fid).mask vals)) []
  let la := lendArgs (posIn bs 0) g (C.mode fid).mask vals
  bif nodupN bs && allThere g nid bs then
    match run fid (lentOf (posIn bs 0) g bs) la.1 p with
    | some (r, obs, p') =>
      bif Nat.ble r.own.length (bs.length + STR) then
        some { v := backA (nameOf bs nid) r.v, sets := backSets (nameOf bs nid) 0 r.own, reads := bs ++ la.2, obs, path := p' }
      else none
    | none => none
  else none

/-- One operation: what it gives, which of one's own blocks it sets and reads. -/
def opM (C : Ctx) (run : CallRun) (e : Operand → AV) (g : Nat → Option Blk) (nid : Nat) (p : Path) (op : Op) : Option OpR :=
  match pureOp C.wrap C.P e op with
  | some (v, obs) => some { v, sets := [], reads := [], obs, path := p }
  | none =>
    match op with
    | .load t x => (loadA C.P g t (e x)).map fun r => { v := r.1, sets := [], reads := r.2.2, obs := r.2.1, path := p }
    | .store t x v => (storeA C.P g t (e x) (e v)).map fun r => { v := .any, sets := [(r.1, some r.2.1)], reads := [r.1], obs := r.2.2, path := p }
    | .alloc t => (allocA C.P nid t).map fun r => { v := r.1, sets := [(nid, some r.2)], reads := [], obs := [], path := p }
    | .box t x => (boxA C.P nid t (e x)).map fun r => { v := r.1, sets := [(nid, some r.2)], reads := [], obs := [], path := p }
    | .makeSlice t l c => (makeA C.P nid t (e l) (e c)).map fun r => { v := r.1, sets := [(nid, some r.2.1)], reads := [], obs := r.2.2, path := p }
    | .build t parts => (buildA C.P t (parts.toList.map fun x => (x.1, e x.2))).map fun v => { v, sets := [], reads := [], obs := [], path := p }
    | .buildSlice t len parts => (buildSliceA C.P nid t len (parts.toList.map fun x => (x.1, e x.2))).map fun r => { v := r.1, sets := [(nid, some r.2)], reads := [], obs := [], path := p }
    | .call { callee := .builtin .append, args, argTypes } =>
      match args.toList, argTypes.toList with
      | [s, x], [t, t'] => bif Nat.beq t t' then
          match appendA C.P g nid t (e s) (e x) with
          | some (alts, rs) => (pickAlt alts p).map fun r => { v := r.1.v, sets := r.1.sets, reads := rs, obs := r.1.obs, path := r.2 }
          | none => none
        else none
      | _, _ => none
    | .call { callee := .value f, args, .. } =>
      match callArgs e f args with
      | some (fid, l) =>
        match C.ext fid with
        | some k => (pickAlt (extA k l) p).map fun r => { v := r.1.v, sets := [], reads := [], obs := r.1.obs, path := r.2 }
        | none => callM C run g nid p fid l
      | none => none
    | _ => none

theorem sqrt_nan {x : Nat} (h : isNaN x = true) : FloatKind.f64.format.sqrt x = none := by
  obtain ⟨s, t, e⟩ := read_nan h
  simp [Ieee.Format.sqrt, e, Ieee.Datum.root]

theorem extA_gives {P : Program} {ρ : Place} {w : World} {k : Ext1} {l : List AV} {c : Array Value} {r : HAlt} (hl : VRs ρ w l c.toList) (h : r ∈ extA k l) (ho : allTrue r.obs) : Gives P ρ w (extSem k c) r.v := by
  have one : ∀ {a : AV}, VRs ρ w [a] c.toList → ∃ u, c = #[u] ∧ VR ρ w a u := by
    intro a h
    generalize hc : c.toList = l at h
    cases h with | cons _ u _ _ h1 h2 => cases h2; exact ⟨u, by rw [← hc], h1⟩
  unfold extA at h
  split at h
  · simp only [List.mem_singleton] at h; subst h
    obtain ⟨u, rfl, hu⟩ := one hl
    cases hu with | flt _ _ y hf =>
    rename_i ex x
    have es : extSem .sqrt #[.float .f64 y] = (match FloatKind.f64.format.sqrt y with
      | some r => pure (.float .f64 r)
      | none => do pure (.float .f64 (← choose (.nanBits .f64 y y)))) := rfl
    rw [es]
    have e : FloatKind.f64.format.sqrt y = FloatKind.f64.format.sqrt x := by
      rcases hf with rfl | ⟨_, h2, h3⟩
      · rfl
      · rw [sqrt_nan h2, sqrt_nan h3]
    cases hr : FloatKind.f64.format.sqrt y with
    | some r => exact ⟨.float .f64 r, w.drawn, rfl, .flt _ _ _ (.inl (by rw [e] at hr; simp [fsqrt, hr]))⟩
    | none => exact ⟨_, w.drawn + 1, rfl, .flt _ _ _ (.inr ⟨rfl, by rw [e] at hr; simp [fsqrt, hr, isNaN_qnan], nan_cut y y _⟩)⟩
  · simp only [List.mem_singleton] at h; subst h
    obtain ⟨u, rfl, hu⟩ := one hl
    cases hu with | flt _ _ y hf =>
    rcases hf with rfl | ⟨h1, _⟩
    · exact ⟨_, w.drawn, rfl, .int _ _⟩
    · cases h1
  · simp only [List.mem_cons, List.not_mem_nil, or_false] at h
    obtain ⟨u, rfl, hu⟩ := one hl
    cases hu with | flt _ _ y hf =>
    rcases h with rfl | rfl
    · rcases hf with rfl | ⟨_, h2, _⟩
      · exact ⟨_, w.drawn, rfl, .int _ _⟩
      · have := ho.1; rw [h2] at this; cases this
    · have hy : isNaN y = true := by
        rcases hf with rfl | ⟨_, _, h3⟩
        · exact ho.1
        · exact h3
      exact ⟨_, w.drawn, rfl, .nan _ hy⟩
  · simp only [List.mem_singleton] at h; subst h
    obtain ⟨u, rfl, hu⟩ := one hl
    cases hu
    exact ⟨_, w.drawn, rfl, .flt _ _ _ (.inl rfl)⟩
  · simp at h

/-- What 'opM' promises. -/
theorem opM_sound {C : Ctx} (hC : C.Ok) {run : CallRun} (hrun : RunOk C.P run) {e : Operand → AV} {h : Heap} {nid : Nat} {p : Path} {o : Oper} {r : OpR} (hr : opM C run e (hget h) nid p o.op = some r) (ho : allTrue r.obs)
    {ρ : Place} {w : World} {n : Nat} (hh : HR ρ w h n) (hid : ∀ x, nid ≤ x → x < nid + STR → ¬ ρ.ok x) (hn0 : nid + STR ≤ n) {a : Act} (hops : ∀ x, VR ρ w (e x) (a.eval x)) {next : Act → World → Prop} {Q : Exit → Act → World → Prop}
    (hK : ∀ ρ' w' u, Ext ρ ρ' w → WLe ρ.live w w' → HR ρ' w' (putSets r.sets h) n → VR ρ' w' r.v u → (∀ b, ρ'.ok b → ρ.ok b ∨ (nid ≤ b ∧ b < nid + STR)) → next (a.put o.dst u) w') : o.wp C.P a w next Q := by
  have hS : 0 < STR := by decide
  have hb : ¬ ρ.ok nid := hid nid (Nat.le_refl _) (by omega)
  have hn : nid < n := by omega
  have one : ∀ {b : Nat}, b = nid → nid ≤ b ∧ b < nid + STR := fun e => by omega
  have plain : ∀ {v : AV}, (∃ u k, (execOp a.eval o).run C.P w = .ok (.value u) { w with drawn := k } ∧ VR ρ w v u) → r.v = v → r.sets = [] → o.wp C.P a w next Q := by
    intro v ⟨u, k, h1, h2⟩ hv hs
    unfold Oper.wp
    rw [h1]
    have E := Ext.refl ρ w
    have W := WLe.drawn ρ.live w k
    exact hK ρ _ u E W (by rw [hs]; exact hh.drawn k) (by rw [hv]; exact h2.mono E W) (fun b q => .inl q)
  have made : ∀ {s : Sem Value} {v : AV} {h' : Heap}, (execOp a.eval o).run C.P w = (do pure (Next.value (← s)) : Sem Next).run C.P w → Makes C.P ρ w h n nid s v h' → r.v = v → putSets r.sets h = h' → o.wp C.P a w next Q := by
    intro s v h' he ⟨u, w', ρ', h1, h2, h3, h4, h5, h6⟩ hv hs
    unfold Oper.wp
    rw [he, run_value h1]
    exact hK ρ' w' u h2 h3 (by rw [hs]; exact h4) (by rw [hv]; exact h5) (fun b q => (h6 b q).imp id one)
  unfold opM at hr
  split at hr
  · rename_i v obs hp
    simp only [Option.some.injEq] at hr; subst hr
    exact plain (pureOp_gives hops hp ho) rfl rfl
  · rename_i hpo
    clear hpo
    generalize hop : o.op = op at hr
    split at hr
    · rename_i t x
      simp only [Option.map_eq_some_iff] at hr
      obtain ⟨⟨v, obs, rs⟩, hl, rfl⟩ := hr
      obtain ⟨u, k, h1, h2⟩ := loadA_gives (P := C.P) hh (hops x) hl ho
      exact plain ⟨u, k, by simp only [execOp, hop]; exact run_value h1, h2⟩ rfl rfl
    · rename_i t x v
      simp only [Option.map_eq_some_iff] at hr
      obtain ⟨⟨b, d, obs⟩, hl, rfl⟩ := hr
      obtain ⟨w', h1, h2, h3⟩ := storeA_gives (P := C.P) hh (hops x) (hops v) hl ho
      unfold Oper.wp
      have : (execOp a.eval o).run C.P w = .ok .skip w' := by
        simp only [execOp, hop]; rw [Sem.run_bind, h1]; rfl
      rw [this]
      exact hK ρ w' undef (Ext.refl _ _) h3 h2 (.any _) (fun b q => .inl q)
    · rename_i t
      simp only [Option.map_eq_some_iff] at hr
      obtain ⟨⟨v, d⟩, hl, rfl⟩ := hr
      exact made (by simp only [execOp, hop]) (allocA_makes hh hb hn hl true) rfl rfl
    · rename_i t x
      simp only [Option.map_eq_some_iff] at hr
      obtain ⟨⟨v, d⟩, hl, rfl⟩ := hr
      exact made (by simp only [execOp, hop]) (boxA_makes hh hb hn (hops x) hl) rfl rfl
    · rename_i t l c
      simp only [Option.map_eq_some_iff] at hr
      obtain ⟨⟨v, d, obs⟩, hl, rfl⟩ := hr
      exact made (by simp only [execOp, hop]) (makeA_makes hh hb hn (hops l) (hops c) hl ho) rfl rfl
    · rename_i t parts
      simp only [Option.map_eq_some_iff] at hr
      obtain ⟨v, hl, rfl⟩ := hr
      have h1 : (parts.toList.map fun x => (x.1, e x.2)).map Prod.fst = (parts.map fun (x : Nat × Operand) => (x.1, a.eval x.2)).toList.map Prod.fst := by simp
      have h2 : VRs ρ w ((parts.toList.map fun x => (x.1, e x.2)).map Prod.snd) ((parts.map fun (x : Nat × Operand) => (x.1, a.eval x.2)).toList.map Prod.snd) := by
        have := VRs.map hops (parts.toList.map Prod.snd)
        simpa [Function.comp_def] using this
      obtain ⟨u, k, q1, q2⟩ := buildA_gives (P := C.P) h1 h2 hl
      exact plain ⟨u, k, by simp only [execOp, hop]; exact run_value q1, q2⟩ rfl rfl
    · rename_i t len parts
      simp only [Option.map_eq_some_iff] at hr
      obtain ⟨⟨v, d⟩, hl, rfl⟩ := hr
      have h1 : (parts.toList.map fun x => (x.1, e x.2)).map Prod.fst = (parts.map fun (x : Nat × Operand) => (x.1, a.eval x.2)).toList.map Prod.fst := by simp
      have h2 : VRs ρ w ((parts.toList.map fun x => (x.1, e x.2)).map Prod.snd) ((parts.map fun (x : Nat × Operand) => (x.1, a.eval x.2)).toList.map Prod.snd) := by
        have := VRs.map hops (parts.toList.map Prod.snd)
        simpa [Function.comp_def] using this
      exact made (by simp only [execOp, hop]) (buildSliceA_makes hh hb hn h1 h2 hl) rfl rfl
    · rename_i args argTypes
      split at hr
      case h_2 => cases hr
      rename_i s x t t' e1 e2
      cases ht : Nat.beq t t' with
      | false => rw [ht] at hr; cases hr
      | true =>
      rw [ht] at hr
      have := Nat.eq_of_beq_eq_true ht
      subst this
      simp only [cond_true] at hr
      split at hr
      case h_2 => cases hr
      rename_i alts rs ha
      simp only [Option.map_eq_some_iff] at hr
      obtain ⟨⟨alt, p'⟩, hp, rfl⟩ := hr
      have ea : args = #[s, x] := by rw [← e1]
      have et : argTypes = #[t, t] := by rw [← e2]
      subst ea; subst et
      have hm := appendA_makes hh hb hn (hops s) (hops x) ha (pickAlt_mem hp) ho o.type
      refine made (s := Builtin.append_ #[t, t] o.type #[a.eval s, a.eval x]) ?_ hm rfl rfl
      simp only [execOp, hop]
      rw [resolve_builtin a.eval .append #[s, x] #[t, t] o.type _ rfl]
      simp [invoke, builtin]
    · rename_i f args ats
      split at hr
      case h_2 => cases hr
      rename_i fid l hca
      unfold callArgs at hca
      split at hca
      case h_2 => cases hca
      rename_i fid' first caps hef
      simp only [Option.some.injEq, Prod.mk.injEq] at hca
      obtain ⟨rfl, rfl⟩ := hca
      have hf := hops f
      rw [hef] at hf
      generalize hgf : a.eval f = gf at hf
      cases hf with | fn _ _ _ c1 c2 v1 v2 =>
      have hargs : VRs ρ w (first ++ args.toList.map e ++ caps) (c1 ++ args.map a.eval ++ c2).toList := by
        simp only [Array.toList_append, Array.toList_map]
        exact VRs.append v2 (VRs.append (VRs.map hops args.toList) v1)
      have hex : ∀ w0, (execOp a.eval o).run C.P w0 = (callFunc fid' (c1 ++ args.map a.eval ++ c2)).run C.P w0 := by
        intro w0
        simp only [execOp, hop, resolve, hgf, Deferred.ofValue]
        rfl
      split at hr
      · rename_i k hk
        simp only [Option.map_eq_some_iff] at hr
        obtain ⟨⟨a, _⟩, hl, rfl⟩ := hr
        obtain ⟨u, kk, q1, q2⟩ := extA_gives (P := C.P) hargs (pickAlt_mem hl) ho
        refine plain ⟨u, kk, ?_, q2⟩ rfl rfl
        rw [hex, hC.ext fid' k _ w hk]
        exact run_value q1
      · unfold callM at hr
        simp only at hr
        generalize hbs : reach (hget h) resFuel (ownIdsL (picked (C.mode fid').mask (first ++ args.toList.map e ++ caps))) [] = bs at hr
        cases hlen : (nodupN bs && allThere (hget h) nid bs) with
        | false => rw [hlen] at hr; cases hr
        | true =>
        rw [hlen] at hr
        simp only [cond_true] at hr
        rw [Bool.and_eq_true] at hlen
        split at hr
        case h_2 => cases hr
        rename_i r' obs p' hl
        cases hle : Nat.ble r'.own.length (bs.length + STR) with
        | false => rw [hle] at hr; cases hr
        | true =>
        rw [hle] at hr
        simp only [cond_true, Option.some.injEq] at hr; subst hr
        have hLs : Lends h bs := ⟨fun q1 q2 => nodupN_get hlen.1 q1 q2, fun b q => (allThere_spec hlen.2 b q).1⟩
        have L := lend_ok hh hLs
        have hcall := hrun fid' _ _ p r' obs p' hl ho
        obtain ⟨⟨fn, hfn, hbody⟩, hcalls⟩ := hcall (ρ.lend bs) w _ (lend_place hh hLs) (lendArgs_vr hh L _ hargs)
        unfold Oper.wp
        rw [hex, hC.enter fid' fn _ w hfn hbody]
        simp only [Oper.upon]
        have hl2 : (c1 ++ args.map a.eval ++ c2).toList.toArray = c1 ++ args.map a.eval ++ c2 := by simp
        rw [hl2] at hcalls
        refine hcalls.mono ?_
        rintro e' w' ⟨u, rfl, W, ρ', E, hbk, H, hv⟩
        rw [lentOf_length] at hbk
        obtain ⟨q1, q2, q3, q4, q5⟩ := adopt_ok hh hLs hid (fun b q => (allThere_spec hlen.2 b q).2) hn0 (Nat.le_of_ble_eq_true hle) W E hbk H hv
        exact hK _ w' u q1 q2 q3 q4 q5
    · cases hr

end Go.Plb

/-
  ENGINE, PART 16: one operation of a region, with its guard; what it hangs on.
-/
namespace Go.Plb
set_option linter.unusedSimpArgs false
set_option linter.unusedVariables false

/-- What an operation of a region left: its value, what it set, what it read. -/
structure Rec where
  v : AV
  sets : List (Nat × Option Blk)
  reads : List Nat

def guardSlot (ops : Array Oper) (j : Nat) : Option Nat := (ops[j]?).bind (·.dst)

/-- Is the operation wanted? none: not known. -/
def wantedA (ops : Array Oper) (o : Oper) (T : List AV) : Option Bool :=
  match o.guard with
  | none => some true
  | some (j, want) =>
    match guardSlot ops j with
    | none => some false
    | some d =>
      match T[d]? with
      | some (.bool true b) => some (b == want)
      | some (.tup _) | none => some false
      | _ => none

def isGuard (ops : Array Oper) (i : Nat) : Bool := ops.toList.any fun o => match o.guard with | some (j, _) => Nat.beq j i | none => false

/-- A bool that is asked for. -/
def decideA (v : AV) (p : Path) : Option (Bool × List Bool × Path) :=
  match v, p with
  | .bool true b, p => some (b, [], p)
  | .bool false b, none => some (b, [], none)
  | .bool false b, some (k :: r) => some (Nat.beq k 1, [b == Nat.beq k 1], some r)
  | _, _ => none

theorem decideA_vr {ρ : Place} {w : World} {v : AV} {u : Value} {p p' : Path} {b : Bool} {obs : List Bool} (hv : VR ρ w v u) (h : decideA v p = some (b, obs, p')) (ho : allTrue obs) : u = .bool b := by
  unfold decideA at h
  split at h
  · simp only [Option.some.injEq, Prod.mk.injEq] at h; obtain ⟨rfl, rfl, rfl⟩ := h; cases hv; rfl
  · simp only [Option.some.injEq, Prod.mk.injEq] at h; obtain ⟨rfl, rfl, rfl⟩ := h; cases hv; rfl
  · simp only [Option.some.injEq, Prod.mk.injEq] at h; obtain ⟨rfl, rfl, rfl⟩ := h; cases hv
    have := ho.1
    simp only [beq_iff_eq] at this
    rw [this]
  · cases h

def guardDecide (ops : Array Oper) (i : Nat) (v : AV) (p : Path) : Option (AV × List Bool × Path) :=
  bif isGuard ops i then (decideA v p).map fun r => (.bool true r.1, r.2.1, r.2.2) else some (v, [], p)

def oneOp (C : Ctx) (run : CallRun) (ops : Array Oper) (n0 i : Nat) (o : Oper) (T : List AV) (h : Heap) (p : Path) : Option (Rec × List Bool × Path) :=
  match wantedA ops o T with
  | none => none
  | some false => some ({ v := .tup [], sets := [], reads := [] }, [], p)
  | some true =>
    match opM C run (evA T) (hget h) (n0 + i * STR) p o.op with
    | none => none
    | some r =>
      match guardDecide ops i r.v r.path with
      | none => none
      | some (v, obs, p') => some ({ v, sets := r.sets, reads := r.reads }, r.obs ++ obs, p')

def putT (T : List AV) (d : Option Nat) (v : AV) : List AV :=
  match d with
  | some d => T.set d v
  | none => T

theorem putT_vr {ρ : Place} {w : World} {T : List AV} {a : Act} {v : AV} {u : Value} (h : VRs ρ w T a.tmps.toList) (hv : VR ρ w v u) (d : Option Nat) : VRs ρ w (putT T d v) (a.put d u).tmps.toList := by
  cases d with
  | none => exact h
  | some d => simp only [putT, Act.put, Array.toList_setIfInBounds]; exact h.set hv d

theorem wantedA_spec {ρ : Place} {w : World} {ops : Array Oper} {o : Oper} {T : List AV} {a : Act} (h : VRs ρ w T a.tmps.toList) {b : Bool} (hw : wantedA ops o T = some b) : Region.wanted o (yielded ops a.tmps) = b := by
  unfold wantedA at hw
  unfold Region.wanted
  split at hw
  · rename_i hg; cases hw; simp [hg]
  · rename_i j want hg
    simp only [hg]
    unfold guardSlot at hw
    split at hw
    · rename_i hs; cases hw; simp [yielded, hs]
    · rename_i d hs
      split at hw
      · rename_i b' hT
        cases hw
        obtain ⟨u, h1, h2⟩ := h.get d _ hT
        rw [Array.getElem?_toList] at h1
        cases h2
        simp only [yielded, hs, Option.bind_some, h1]
        cases b' <;> cases want <;> rfl
      · rename_i l hT
        cases hw
        obtain ⟨u, h1, h2⟩ := h.get d _ hT
        rw [Array.getElem?_toList] at h1
        cases h2
        simp [yielded, hs, h1]
      · rename_i hT
        cases hw
        have : a.tmps[d]? = none := by
          have hl := h.length
          rw [Array.getElem?_eq_none]
          have : T.length ≤ d := by rcases Nat.lt_or_ge d T.length with q | q; · rw [List.getElem?_eq_getElem q] at hT; cases hT
                                    · exact q
          simp at hl; omega
        simp [yielded, hs, this]
      · cases hw

theorem HR.congr {ρ : Place} {w : World} {h h' : Heap} {n : Nat} (hh : HR ρ w h n) (e : ∀ b, hget h' b = hget h b) : HR ρ w h' n :=
  ⟨fun b d q => hh.cell b d (by rw [← e]; exact q), fun b c d f q r => hh.inj b c d f (by rw [← e]; exact q) (by rw [← e]; exact r), hh.fresh, hh.liveLt, hh.outLt, hh.lt⟩

theorem oneOp_sound {C : Ctx} (hC : C.Ok) {run : CallRun} (hrun : RunOk C.P run) {ops : Array Oper} {n0 i : Nat} {o : Oper} (hi : ops[i]? = some o) {T : List AV} {h : Heap} {p p' : Path} {r : Rec} {obs : List Bool}
    (hr : oneOp C run ops n0 i o T h p = some (r, obs, p')) (ho : allTrue obs) {ρ : Place} {w : World} {n : Nat} (hh : HR ρ w h n) (hid : ∀ x, n0 + i * STR ≤ x → x < n0 + i * STR + STR → ¬ ρ.ok x) (hn : n0 + i * STR + STR ≤ n) {a : Act} (hd : a.defers = []) (hT : VRs ρ w T a.tmps.toList)
    {K : Act → World → Prop} {Q : Exit → Act → World → Prop}
    (hK : ∀ ρ' w' a', Ext ρ ρ' w → WLe ρ.live w w' → HR ρ' w' (putSets r.sets h) n → a'.defers = [] → VRs ρ' w' (putT T o.dst r.v) a'.tmps.toList → (∀ b, ρ'.ok b → ρ.ok b ∨ (n0 + i * STR ≤ b ∧ b < n0 + i * STR + STR)) → K a' w') : wpOp C.P ops Q i K a w := by
  have dput : ∀ u, (a.put o.dst u).defers = [] := by intro u; cases hdst : o.dst <;> simp [Act.put, hd]
  unfold oneOp at hr
  unfold wpOp
  simp only [hi]
  split at hr
  · cases hr
  · rename_i hw
    simp only [Option.some.injEq, Prod.mk.injEq] at hr; obtain ⟨rfl, rfl, rfl⟩ := hr
    rw [wantedA_spec hT hw]
    simp only [Bool.false_eq_true, if_false]
    exact hK ρ w _ (Ext.refl _ _) (WLe.refl _ _) hh (dput _) (putT_vr hT (.tup _ _ .nil) o.dst) (fun b q => .inl q)
  · rename_i hw
    rw [wantedA_spec hT hw]
    simp only [if_true]
    split at hr
    · cases hr
    · rename_i r' hop
      split at hr
      · cases hr
      · rename_i v obs' p'' hg
        simp only [Option.some.injEq, Prod.mk.injEq] at hr; obtain ⟨rfl, rfl, rfl⟩ := hr
        rw [allTrue_append] at ho
        refine .inl (opM_sound hC hrun hop ho.1 hh hid hn (fun x => evA_vr hT x) ?_)
        intro ρ' w' u E W hh' hv hok
        refine hK ρ' w' _ E W hh' (dput _) (putT_vr (hT.mono E W) ?_ o.dst) hok
        unfold guardDecide at hg
        cases hgd : isGuard ops i with
        | false => rw [hgd] at hg; simp only [cond_false, Option.some.injEq, Prod.mk.injEq] at hg; rw [← hg.1]; exact hv
        | true =>
          rw [hgd] at hg
          simp only [cond_true, Option.map_eq_some_iff, Prod.mk.injEq] at hg
          obtain ⟨⟨b, ob, pp⟩, hd', rfl, rfl, rfl⟩ := hg
          rw [decideA_vr hv hd' ho.2]
          exact .bool _ _

/-- A region in the order of its text. -/
def runOps (C : Ctx) (run : CallRun) (ops : Array Oper) (n0 : Nat) : Nat → List Oper → List AV → Heap → Path → Option (List AV × Heap × List Bool × Path)
  | _, [], T, h, p => some (T, h, [], p)
  | i, o :: l, T, h, p =>
    match oneOp C run ops n0 i o T h p with
    | none => none
    | some (r, obs, p') =>
      match runOps C run ops n0 (i + 1) l (putT T o.dst r.v) (putSets r.sets h) p' with
      | none => none
      | some (T', h', obs', p'') => some (T', h', obs ++ obs', p'')

/-- What stands behind a piece of code: a later place; the frame; one's own. -/
structure Post (ρ : Place) (w : World) (n : Nat) (st : ASt) (ρ' : Place) (a' : Act) (w' : World) : Prop where
  ext : Ext ρ ρ' w
  wle : WLe ρ.live w w'
  sr : SR ρ' st a' w'
  le : n ≤ st.next
  back : ∀ b, ρ'.ok b → ρ.ok b ∨ n ≤ b

theorem runOps_sound {C : Ctx} (hC : C.Ok) {run : CallRun} (hrun : RunOk C.P run) {ops : Array Oper} {n0 : Nat} {Q : Exit → Act → World → Prop} : ∀ (l : List Oper) (i : Nat) {T T' : List AV} {h h' : Heap} {p p' : Path} {obs : List Bool},
    (∀ j, l[j]? = ops[i + j]?) → runOps C run ops n0 i l T h p = some (T', h', obs, p') → allTrue obs → ∀ {ρ : Place} {w : World}, HR ρ w h (n0 + ops.size * STR) → (∀ b, ρ.ok b → b < n0 + i * STR) → ∀ {a : Act}, a.defers = [] → VRs ρ w T a.tmps.toList →
    (∀ ρ' w' a', Ext ρ ρ' w → WLe ρ.live w w' → HR ρ' w' h' (n0 + ops.size * STR) → a'.defers = [] → VRs ρ' w' T' a'.tmps.toList → (∀ b, ρ'.ok b → ρ.ok b ∨ n0 ≤ b) → Q .normal a' w') → wpOps C.P ops Q (List.range' i l.length) a w
  | [], i, T, T', h, h', p, p', obs, hl, hr, ho, ρ, w, hh, hok, a, hd, hT, hQ => by
    simp only [runOps, Option.some.injEq, Prod.mk.injEq] at hr; obtain ⟨rfl, rfl, rfl, rfl⟩ := hr
    simp only [List.length_nil, List.range'_zero, wpOps]
    exact hQ ρ w a (Ext.refl _ _) (WLe.refl _ _) hh hd hT (fun b q => .inl q)
  | o :: l, i, T, T', h, h', p, p', obs, hl, hr, ho, ρ, w, hh, hok, a, hd, hT, hQ => by
    simp only [runOps] at hr
    split at hr
    case h_1 => cases hr
    rename_i r obs1 p1 h1
    split at hr
    case h_1 => cases hr
    rename_i T2 h2 obs2 p2 h3
    simp only [Option.some.injEq, Prod.mk.injEq] at hr; obtain ⟨rfl, rfl, rfl, rfl⟩ := hr
    rw [allTrue_append] at ho
    have hi : ops[i]? = some o := by have := hl 0; simpa using this.symm
    have hlt : i < ops.size := (Array.getElem?_eq_some_iff.1 hi).1
    simp only [List.length_cons, List.range'_succ]
    rw [wpOps_cons]
    have hS : i * STR + STR ≤ ops.size * STR := by rw [← Nat.succ_mul]; exact Nat.mul_le_mul_right _ hlt
    have hi1 : (i + 1) * STR = i * STR + STR := Nat.succ_mul _ _
    refine oneOp_sound hC hrun hi h1 ho.1 hh (fun x h1 h2 q => by have := hok _ q; omega) (by omega) hd hT ?_
    intro ρ' w' a' E W hh' hd' hT' hok'
    refine runOps_sound hC hrun l (i + 1) (fun j => by have := hl (j + 1); rw [show i + 1 + j = i + (j + 1) from by omega]; simpa using this) h3 ho.2 hh' (fun b q => by
      rcases hok' b q with q | q
      · have := hok b q; omega
      · omega) hd' hT' ?_
    intro ρ'' w'' a'' E' W' hh'' hd'' hT'' hb''
    exact hQ ρ'' w'' a'' (E.trans E' W.size) (W.trans W' (fun x hx q => E.new x hx q)) hh'' hd'' hT'' (fun b q => by
      rcases hb'' b q with q | q
      · rcases hok' b q with q | q
        · exact .inl q
        · exact .inr (by omega)
      · exact .inr q)

end Go.Plb

/-
  ENGINE, PART 17: a region that draws its order: run in the order of its text, with a look at what hangs on what.
-/
namespace Go.Plb
set_option linter.unusedSimpArgs false
set_option linter.unusedVariables false

/-! What an operation's result hangs on. -/
theorem map_congr {e e' : Operand → AV} {l : List Operand} (h : ∀ x ∈ l, e x = e' x) : l.map e = l.map e' := List.map_congr_left h

theorem pureOp_congr {wr : Bool} {P : Program} {e e' : Operand → AV} {op : Op} (h : ∀ x ∈ op.operands, e x = e' x) : pureOp wr P e op = pureOp wr P e' op := by
  unfold pureOp
  split
  all_goals simp only [Op.operands, Call.operands] at h
  case h_1 => rw [h _ (by simp)]
  case h_2 => rw [h _ (by simp)]
  case h_3 => rw [h _ (by simp), h _ (by simp), h _ (by simp)]
  case h_4 => rw [h _ (by simp)]
  case h_5 => rw [h _ (by simp), h _ (by simp)]
  case h_6 => rw [h _ (by simp)]
  case h_7 => rw [h _ (by simp)]
  case h_8 => rw [h _ (by simp)]
  case h_9 =>
    rename_i fn first caps
    rw [map_congr (l := first.toList) (fun x hx => h x (by simp at hx; simp [hx])), map_congr (l := caps.toList) (fun x hx => h x (by simp at hx; simp [hx]))]
  case h_10 =>
    rename_i t x lo hi
    rw [h x (by simp)]
    cases lo <;> cases hi <;> simp only [Option.map_none, Option.map_some] <;> first | rfl | (rw [h _ (by simp), h _ (by simp)]) | (rw [h _ (by simp)])
  case h_11 =>
    rename_i t x lo hi mx
    rw [h x (by simp), h mx (by simp)]
    cases lo <;> cases hi <;> simp only [Option.map_none, Option.map_some] <;> first | rfl | (rw [h _ (by simp), h _ (by simp)]) | (rw [h _ (by simp)])
  case h_12 => rw [h _ (by simp)]
  case h_13 => rw [h _ (by simp)]
  case h_14 => rw [h _ (by simp), h _ (by simp)]
  case h_15 => rw [h _ (by simp), h _ (by simp)]
  case h_16 => rw [h _ (by simp)]
  case h_17 =>
    rename_i xs ts
    split
    · rename_i x t hx ht
      have : xs = #[x] := by rw [← hx]
      subst this
      rw [h x (by simp)]
    · rfl
  case h_18 =>
    rename_i xs ts
    split
    · rename_i x l hx
      have : xs = (x :: l).toArray := by rw [← hx]
      subst this
      rw [h x (by simp), map_congr (l := l) (fun y hy => h y (by simp [hy]))]
    · rfl
  case h_19 =>
    rename_i xs ts
    split
    · rename_i x l hx
      have : xs = (x :: l).toArray := by rw [← hx]
      subst this
      rw [h x (by simp), map_congr (l := l) (fun y hy => h y (by simp [hy]))]
    · rfl
  case h_20 => rfl

theorem loadA_local {P : Program} {g g' : Nat → Option Blk} {t : TypeId} {x : AV} {r : AV × List Bool × List Nat} (h : loadA P g t x = some r) (hg : ∀ b ∈ r.2.2, g' b = g b) : loadA P g' t x = some r := by
  unfold loadA at h ⊢
  simp only at h ⊢
  split at h
  · rename_i b w i j
    split at h
    · rename_i d hd
      simp only [Option.map_eq_some_iff] at h
      obtain ⟨r', h1, rfl⟩ := h
      have : g' b = some d := by rw [hg b (by simp)]; exact hd
      simp only [this, h1]; rfl
    · cases h
  · exact h
  · cases h

theorem storeA_local {P : Program} {g g' : Nat → Option Blk} {t : TypeId} {x v : AV} {r : Nat × Blk × List Bool} (h : storeA P g t x v = some r) (hg : g' r.1 = g r.1) : storeA P g' t x v = some r := by
  unfold storeA at h ⊢
  split at h
  · rename_i b w i j l inf h1 h2
    split at h
    · rename_i d hd
      cases e : Nat.beq l.length inf.size with
      | false => rw [e] at h; cases h
      | true =>
        rw [e] at h
        simp only [cond_true, Option.map_eq_some_iff] at h
        obtain ⟨r', h3, rfl⟩ := h
        have : g' b = some d := by rw [hg]; exact hd
        simp only [h1, this, e, cond_true, h3]; rfl
    · cases h
  · cases h

theorem srcA_local {g g' : Nat → Option Blk} {x : AV} {r : Nat × Nat × Blk × List Bool × List Nat} (h : srcA g x = some r) (hg : ∀ b ∈ r.2.2.2.2, g' b = g b) : srcA g' x = some r := by
  unfold srcA at h ⊢
  split at h
  · rename_i b w es i len cap
    split at h
    · rename_i d hd
      simp only [Option.map_eq_some_iff] at h
      obtain ⟨r', h1, rfl⟩ := h
      have : g' b = some d := by rw [hg b (by simp)]; exact hd
      simp only [this, h1]; rfl
    · cases h
  · exact h
  · cases h

theorem appendA_local {P : Program} {g g' : Nat → Option Blk} {nid : Nat} {t : TypeId} {s x : AV} {r : List HAlt × List Nat} (h : appendA P g nid t s x = some r) (hg : ∀ b ∈ r.2, g' b = g b) : appendA P g' nid t s x = some r := by
  unfold appendA at h ⊢
  split at h
  case h_2 => cases h
  rename_i e ht
  split at h
  case h_2 => cases h
  rename_i inf hi
  split at h
  case h_2 => cases h
  rename_i z hz
  cases hzs : Nat.beq z.cells.size inf.size with
  | false => rw [hzs] at h; cases h
  | true =>
  rw [hzs] at h
  simp only [cond_true] at h ⊢
  split at h
  · exact h
  · exact h
  · exact h
  · rename_i hx0
    split at h
    case h_2 => cases h
    rename_i m es nb obs rs hs
    cases hes : Nat.beq es inf.size with
    | false => rw [hes] at h; cases h
    | true =>
    rw [hes] at h
    simp only [cond_true, Option.some.injEq] at h; subst h
    have := srcA_local (g' := g') hs hg
    simp only [this, hes, cond_true]
  · exact h
  · rename_i hx0
    split at h
    case h_2 => cases h
    rename_i m es nb obs rs hs
    cases hes : Nat.beq es inf.size with
    | false => rw [hes] at h; cases h
    | true =>
    rw [hes] at h
    simp only [cond_true, Option.some.injEq] at h; subst h
    have := srcA_local (g' := g') hs hg
    simp only [this, hes, cond_true]
  · rename_i b w es len cap hx0 _
    split at h
    case h_2 => cases h
    rename_i d m es' nb obs rs hd hs
    cases hes : (Nat.beq es inf.size && Nat.beq es' es) with
    | false => rw [hes] at h; cases h
    | true =>
    rw [hes] at h
    simp only [cond_true] at h
    split at h
    case h_2 => cases h
    rename_i old obs' hsub
    simp only [Option.map_eq_some_iff] at h
    obtain ⟨d', happ, rfl⟩ := h
    have h1 := srcA_local (g' := g') hs (fun b' hb => hg b' (by simp only [List.mem_cons]; exact .inr hb))
    have h2 : g' b = some d := by rw [hg b (by simp)]; exact hd
    simp only [h1, h2, hes, cond_true, hsub, happ]; rfl
  · cases h

mutual
theorem resA_local {σ : Nat → Option Nat} {g g' : Nat → Option Blk} : ∀ (n : Nat) (v : AV), (∀ b ∈ (resA σ g n v).2, g' b = g b) → resA σ g' n v = resA σ g n v
  | 0, _, _ => rfl
  | n + 1, v, h => by
    cases v <;> simp only [resA] at h ⊢
    · rename_i b w i j
      cases hs : σ b with
      | some c => rfl
      | none =>
      rw [hs] at h
      simp only at h ⊢
      have hb : g' b = g b := by
        cases q : g b with
        | none => rw [q] at h; have := h b (by simp); rw [this, q]
        | some d => rw [q] at h; have := h b (by simp); rw [this, q]
      rw [hb]
      cases q : g b with
      | none => rfl
      | some d =>
        rw [q] at h
        have := resB_local (σ := σ) (g := g) (g' := g') n d (fun b' hb' => h b' (by simp only [List.mem_cons]; exact .inr hb'))
        simp only [this]
    · rename_i b w es i len cap
      cases hs : σ b with
      | some c => rfl
      | none =>
      rw [hs] at h
      simp only at h ⊢
      have hb : g' b = g b := by
        cases q : g b with
        | none => rw [q] at h; have := h b (by simp); rw [this, q]
        | some d => rw [q] at h; have := h b (by simp); rw [this, q]
      rw [hb]
      cases q : g b with
      | none => rfl
      | some d =>
        rw [q] at h
        have := resB_local (σ := σ) (g := g) (g' := g') n d (fun b' hb' => h b' (by simp only [List.mem_cons]; exact .inr hb'))
        simp only [this]
    · rename_i f l1 l2
      rw [resL_local n l1 (fun b hb => h b (by simp [hb])), resL_local n l2 (fun b hb => h b (by simp [hb]))]
    · rename_i l; rw [resL_local n l h]
    · rename_i l; rw [resL_local n l h]
    · rename_i t v; rw [resA_local n v h]
theorem resL_local {σ : Nat → Option Nat} {g g' : Nat → Option Blk} : ∀ (n : Nat) (l : List AV), (∀ b ∈ (resL σ g n l).2, g' b = g b) → resL σ g' n l = resL σ g n l
  | 0, _, _ => rfl
  | n + 1, [], _ => rfl
  | n + 1, v :: l, h => by
    simp only [resL] at h ⊢
    rw [resA_local n v (fun b hb => h b (by simp [hb])), resL_local n l (fun b hb => h b (by simp [hb]))]
theorem resB_local {σ : Nat → Option Nat} {g g' : Nat → Option Blk} : ∀ (n : Nat) (d : Blk), (∀ b ∈ (resB σ g n d).2, g' b = g b) → resB σ g' n d = resB σ g n d
  | 0, _, _ => rfl
  | n + 1, d, h => by
    cases d <;> simp only [resB] at h ⊢
    rename_i l; rw [resL_local n l h]
end

theorem lendArgs_local {σ : Nat → Option Nat} {g g' : Nat → Option Blk} : ∀ (m : List Bool) (l : List AV), (∀ b ∈ (lendArgs σ g m l).2, g' b = g b) → lendArgs σ g' m l = lendArgs σ g m l
  | m, [], _ => by cases m <;> rfl
  | true :: m, v :: l, h => by
    simp only [lendArgs] at h ⊢
    rw [lendArgs_local m l h]
  | false :: m, v :: l, h => by
    simp only [lendArgs] at h ⊢
    rw [resA_local _ v (fun b hb => h b (by simp [hb])), lendArgs_local m l (fun b hb => h b (by simp [hb]))]
  | [], v :: l, h => by
    simp only [lendArgs] at h ⊢
    rw [resA_local _ v (fun b hb => h b (by simp [hb])), lendArgs_local [] l (fun b hb => h b (by simp [hb]))]

theorem reach_sub {g : Nat → Option Blk} : ∀ (n : Nat) (t acc : List Nat), ∀ b ∈ acc, b ∈ reach g n t acc
  | 0, t, acc, b, h => h
  | n + 1, [], acc, b, h => h
  | n + 1, x :: t, acc, b, h => by
    simp only [reach]
    split
    · exact reach_sub n _ _ b h
    · exact reach_sub n _ _ b (by simp [h])

theorem reach_local {g g' : Nat → Option Blk} : ∀ (n : Nat) (t acc : List Nat), (∀ b ∈ reach g n t acc, g' b = g b) → reach g' n t acc = reach g n t acc
  | 0, t, acc, _ => rfl
  | n + 1, [], acc, _ => rfl
  | n + 1, x :: t, acc, h => by
    simp only [reach] at h ⊢
    split
    · rename_i e; rw [e] at h; exact reach_local n _ _ h
    · rename_i e
      rw [e] at h
      simp only at h
      have hx : g' x = g x := h x (reach_sub n _ _ x (by simp))
      rw [hx]
      exact reach_local n _ _ h

theorem lentOf_local {σ : Nat → Option Nat} {g g' : Nat → Option Blk} : ∀ (l : List Nat), (∀ b ∈ l, g' b = g b) → lentOf σ g' l = lentOf σ g l
  | [], _ => rfl
  | b :: l, h => by simp only [lentOf]; rw [h b (by simp), lentOf_local l (fun x hx => h x (by simp [hx]))]

theorem allThere_local {g g' : Nat → Option Blk} {nid : Nat} : ∀ (l : List Nat), (∀ b ∈ l, g' b = g b) → allThere g' nid l = allThere g nid l
  | [], _ => rfl
  | b :: l, h => by simp only [allThere]; rw [h b (by simp), allThere_local l (fun x hx => h x (by simp [hx]))]

theorem callM_local {C : Ctx} {run : CallRun} {g g' : Nat → Option Blk} {nid : Nat} {p : Path} {fid : FuncId} {vals : List AV} {r : OpR} (h : callM C run g nid p fid vals = some r) (hg : ∀ b ∈ r.reads, g' b = g b) : callM C run g' nid p fid vals = some r := by
  have hreads : r.reads = reach g resFuel (ownIdsL (picked (C.mode fid).mask vals)) [] ++ (lendArgs (posIn (reach g resFuel (ownIdsL (picked (C.mode fid).mask vals)) []) 0) g (C.mode fid).mask vals).2 := by
    unfold callM at h
    simp only at h
    generalize (nodupN (reach g resFuel (ownIdsL (picked (C.mode fid).mask vals)) []) && allThere g nid (reach g resFuel (ownIdsL (picked (C.mode fid).mask vals)) [])) = c at h
    cases c with
    | false => cases h
    | true =>
      simp only [cond_true] at h
      split at h
      case h_2 => cases h
      rename_i r' obs p' hl
      cases hle : Nat.ble r'.own.length ((reach g resFuel (ownIdsL (picked (C.mode fid).mask vals)) []).length + STR) with
      | false => rw [hle] at h; cases h
      | true => rw [hle] at h; simp only [cond_true, Option.some.injEq] at h; rw [← h]
  rw [hreads] at hg
  have e1 := reach_local (g := g) (g' := g') resFuel (ownIdsL (picked (C.mode fid).mask vals)) [] (fun b hb => hg b (by simp [hb]))
  have e2 := lendArgs_local (σ := posIn (reach g resFuel (ownIdsL (picked (C.mode fid).mask vals)) []) 0) (g := g) (g' := g') (C.mode fid).mask vals (fun b hb => hg b (by simp [hb]))
  have e3 := lentOf_local (σ := posIn (reach g resFuel (ownIdsL (picked (C.mode fid).mask vals)) []) 0) (g := g) (g' := g') (reach g resFuel (ownIdsL (picked (C.mode fid).mask vals)) []) (fun b hb => hg b (by simp [hb]))
  have e4 := allThere_local (nid := nid) (g := g) (g' := g') (reach g resFuel (ownIdsL (picked (C.mode fid).mask vals)) []) (fun b hb => hg b (by simp [hb]))
  unfold callM at h ⊢
  simp only at h ⊢
  rw [e1, e2, e3, e4]
  exact h

theorem opM_local {C : Ctx} {run : CallRun} {e e' : Operand → AV} {g g' : Nat → Option Blk} {nid : Nat} {p : Path} {op : Op} {r : OpR} (h : opM C run e g nid p op = some r) (he : ∀ x ∈ op.operands, e' x = e x) (hg : ∀ b ∈ r.reads, g' b = g b) :
    opM C run e' g' nid p op = some r := by
  unfold opM at h ⊢
  rw [pureOp_congr he]
  split at h
  · exact h
  · rename_i hp
    clear hp
    split at h
    all_goals simp only [Op.operands, Call.operands] at he
    · rename_i t x
      simp only [Option.map_eq_some_iff] at h ⊢
      obtain ⟨r', h1, rfl⟩ := h
      exact ⟨r', by rw [he x (by simp)]; exact loadA_local h1 hg, rfl⟩
    · rename_i t x v
      simp only [Option.map_eq_some_iff] at h ⊢
      obtain ⟨r', h1, rfl⟩ := h
      exact ⟨r', by rw [he x (by simp), he v (by simp)]; exact storeA_local h1 (hg _ (by simp)), rfl⟩
    · exact h
    · rename_i t x; rw [he x (by simp)]; exact h
    · rename_i t l c; rw [he l (by simp), he c (by simp)]; exact h
    · rename_i t parts
      have : (parts.toList.map fun x => (x.1, e' x.2)) = (parts.toList.map fun x => (x.1, e x.2)) := List.map_congr_left fun x hx => by rw [he x.2 (by simp; exact ⟨x.1, by simpa using hx⟩)]
      rw [this]; exact h
    · rename_i t len parts
      have : (parts.toList.map fun x => (x.1, e' x.2)) = (parts.toList.map fun x => (x.1, e x.2)) := List.map_congr_left fun x hx => by rw [he x.2 (by simp; exact ⟨x.1, by simpa using hx⟩)]
      rw [this]; exact h
    · rename_i args ats
      split at h
      case h_2 => cases h
      rename_i s x t t' e1 e2
      cases ht : Nat.beq t t' with
      | false => rw [ht] at h; cases h
      | true =>
      rw [ht] at h
      simp only [cond_true] at h ⊢
      have ea : args = #[s, x] := by rw [← e1]
      subst ea
      rw [he s (by simp), he x (by simp)]
      split at h
      case h_2 => cases h
      rename_i alts rs ha
      simp only [Option.map_eq_some_iff] at h ⊢
      obtain ⟨r', h1, rfl⟩ := h
      have := appendA_local (g' := g') ha hg
      simp only [this, Option.map_eq_some_iff]
      exact ⟨r', h1, rfl⟩
    · rename_i f args ats
      have hf : e' f = e f := he f (by simp)
      have hargs : args.toList.map e' = args.toList.map e := List.map_congr_left fun x hx => he x (by simp at hx; simp [hx])
      split at h
      case h_2 => cases h
      rename_i fid l hca
      have : callArgs e' f args = some (fid, l) := by
        unfold callArgs at hca ⊢
        rw [hf, hargs]; exact hca
      simp only [this]
      split at h
      · exact h
      · exact callM_local h hg
    · cases h

end Go.Plb

/-
  ENGINE, PART 18: a region that draws: what was run in the order of the text stands for every order.
-/
namespace Go.Plb
set_option linter.unusedSimpArgs false
set_option linter.unusedVariables false

def opTmps (l : List Operand) : List Nat := l.filterMap fun | .tmp t => some t | _ => none

/-- The slots that an operation names: it reads them, or it writes to them. -/
def opNames (ops : Array Oper) (o : Oper) : List Nat :=
  (match o.dst with | some d => [d] | none => []) ++ (opTmps o.op.operands.toList ++ (match o.guard with | some (j, _) => (match guardSlot ops j with | some d => [d] | none => []) | none => []))

def setIds (s : List (Nat × Option Blk)) : List Nat := s.map Prod.fst

def ancMask (ms : List Nat) (o : Oper) : Nat := o.after.toList.foldl (fun m e => bif Region.binds .any e then m ||| (2 ^ e.on ||| ms.getD e.on 0) else m) 0
def ancGo : List Oper → List Nat → List Nat
  | [], ms => ms
  | o :: l, ms => ancGo l (ms ++ [ancMask ms o])

def memN (x : Nat) : List Nat → Bool
  | [] => false
  | y :: l => Nat.beq x y || memN x l
def disj : List Nat → List Nat → Bool
  | [], _ => true
  | x :: l, m => !memN x m && disj l m

theorem memN_iff {x : Nat} : ∀ {l : List Nat}, memN x l = true ↔ x ∈ l
  | [] => by simp [memN]
  | y :: l => by simp [memN, memN_iff (l := l)]

theorem disj_spec {l m : List Nat} (h : disj l m = true) : ∀ x, x ∈ l → x ∈ m → False := by
  induction l with
  | nil => intro x hx; cases hx
  | cons y l ih =>
    simp only [disj, Bool.and_eq_true, Bool.not_eq_true'] at h
    intro x hx hm
    rcases List.mem_cons.1 hx with rfl | hx
    · have := memN_iff.2 hm; rw [this] at h; cases h.1
    · exact ih h.2 x hx hm

/-- Two operations that nothing orders do not touch. -/
def apart (ops : Array Oper) (o : Oper) (r : Rec) (o' : Oper) (r' : Rec) : Bool :=
  disj o.dst.toList (opNames ops o') && (disj o'.dst.toList (opNames ops o) && (disj (setIds r.sets) (r'.reads ++ setIds r'.sets) && disj (setIds r'.sets) (r.reads ++ setIds r.sets)))

def apartAll (ops : Array Oper) (mask : Nat) (o' : Oper) (r' : Rec) : Nat → List (Oper × Rec) → Bool
  | _, [] => true
  | i, x :: l => (mask.testBit i || apart ops x.1 x.2 o' r') && apartAll ops mask o' r' (i + 1) l

/-- All pairs; 'pre': what stands ahead (from 0 on). -/
def drawOk (ops : Array Oper) : List (Oper × Rec) → List Nat → List (Oper × Rec) → Bool
  | _, _, [] => true
  | pre, ms, x :: l =>
    x.1.after.toList.all (fun e => !Region.binds .any e || Nat.blt e.on pre.length) &&
    (apartAll ops (ancMask ms x.1) x.1 x.2 0 pre && drawOk ops (pre ++ [x]) (ms ++ [ancMask ms x.1]) l)

/-- The state where just the operations of L were done. -/
def appl (L : Nat → Bool) : Nat → List (Oper × Rec) → List AV × Heap → List AV × Heap
  | _, [], s => s
  | i, x :: l, s => appl L (i + 1) l (bif L i then (putT s.1 x.1.dst x.2.v, putSets x.2.sets s.2) else s)

theorem putT_get (T : List AV) (d : Option Nat) (v : AV) (t : Nat) : (putT T d v)[t]? = if d = some t then (T[t]?).map (fun _ => v) else T[t]? := by
  cases d with
  | none => simp [putT]
  | some d =>
    simp only [putT, Option.some.injEq]
    rw [List.getElem?_set]
    by_cases h : d = t
    · subst h
      simp only [if_true]
      by_cases hl : d < T.length
      · simp [hl]
      · simp [hl]
    · simp [h]

theorem putSets_congr {h h' : Heap} {b : Nat} : ∀ (s : List (Nat × Option Blk)) {h h' : Heap}, hget h b = hget h' b → hget (putSets s h) b = hget (putSets s h') b
  | [], _, _, e => e
  | (c, some d) :: s, h, h', e => by
    simp only [putSets]
    exact putSets_congr (h := h) (h' := h') s (by rw [hget_hset, hget_hset, e])
  | (c, none) :: s, h, h', e => by
    simp only [putSets]
    exact putSets_congr (h := h) (h' := h') s (by rw [hget_hdel, hget_hdel, e])

theorem putSets_other {b : Nat} : ∀ (s : List (Nat × Option Blk)) {h : Heap}, b ∉ setIds s → hget (putSets s h) b = hget h b
  | [], _, _ => rfl
  | (c, some d) :: s, h, hb => by
    simp only [setIds, List.map_cons, List.mem_cons, not_or] at hb
    simp only [putSets]
    rw [putSets_other s hb.2, hget_hset, if_neg (fun e => hb.1 e.symm)]
  | (c, none) :: s, h, hb => by
    simp only [setIds, List.map_cons, List.mem_cons, not_or] at hb
    simp only [putSets]
    rw [putSets_other s hb.2, hget_hdel, if_neg (fun e => hb.1 e.symm)]

theorem appl_T {L L' : Nat → Bool} {t : Nat} : ∀ (l : List (Oper × Rec)) (i : Nat) {s s' : List AV × Heap}, (∀ k x, l[k]? = some x → x.1.dst = some t → L (i + k) = L' (i + k)) → s.1[t]? = s'.1[t]? → (appl L i l s).1[t]? = (appl L' i l s').1[t]?
  | [], _, _, _, _, e => e
  | x :: l, i, s, s', h, e => by
    simp only [appl]
    refine appl_T l (i + 1) (fun k y hy hd => by have := h (k + 1) y (by simpa using hy) hd; rw [show i + 1 + k = i + (k + 1) from by omega]; exact this) ?_
    by_cases hd : x.1.dst = some t
    · have := h 0 x (by simp) hd
      simp only [Nat.add_zero] at this
      rw [this]
      cases L' i with
      | true => simp only [cond_true, putT_get, hd, if_true, e]
      | false => exact e
    · cases L i <;> cases L' i <;> simp only [cond_true, cond_false, putT_get, if_neg hd, e]

theorem appl_H {L L' : Nat → Bool} {b : Nat} : ∀ (l : List (Oper × Rec)) (i : Nat) {s s' : List AV × Heap}, (∀ k x, l[k]? = some x → b ∈ setIds x.2.sets → L (i + k) = L' (i + k)) → hget s.2 b = hget s'.2 b → hget (appl L i l s).2 b = hget (appl L' i l s').2 b
  | [], _, _, _, _, e => e
  | x :: l, i, s, s', h, e => by
    simp only [appl]
    refine appl_H l (i + 1) (fun k y hy hd => by have := h (k + 1) y (by simpa using hy) hd; rw [show i + 1 + k = i + (k + 1) from by omega]; exact this) ?_
    by_cases hd : b ∈ setIds x.2.sets
    · have := h 0 x (by simp) hd
      simp only [Nat.add_zero] at this
      rw [this]
      cases L' i with
      | true => simp only [cond_true]; exact putSets_congr (h := s.2) (h' := s'.2) _ e
      | false => exact e
    · cases L i <;> cases L' i <;> simp only [cond_true, cond_false, putSets_other _ hd, e]

/-- All done, in the order of the text. -/
def applAll : List (Oper × Rec) → List AV × Heap → List AV × Heap
  | [], s => s
  | x :: l, s => applAll l (putT s.1 x.1.dst x.2.v, putSets x.2.sets s.2)

theorem applAll_append (l m : List (Oper × Rec)) (s : List AV × Heap) : applAll (l ++ m) s = applAll m (applAll l s) := by
  induction l generalizing s with
  | nil => rfl
  | cons x l ih => simp only [List.cons_append, applAll, ih]

theorem appl_lt : ∀ (l : List (Oper × Rec)) (i j : Nat) (s : List AV × Heap), appl (fun k => decide (k < i + j)) i l s = applAll (l.take j) s
  | [], i, j, s => by simp [appl, applAll]
  | x :: l, i, 0, s => by
    have : ∀ (l : List (Oper × Rec)) (i' : Nat), i ≤ i' → ∀ s, appl (fun k => decide (k < i + 0)) i' l s = s := by
      intro l
      induction l with
      | nil => intro _ _ s; rfl
      | cons y l ih =>
        intro i' hi s
        simp only [appl]
        have : decide (i' < i + 0) = false := by simp; omega
        rw [this]; exact ih (i' + 1) (by omega) s
    simp only [List.take_zero, applAll]
    exact this _ i (Nat.le_refl _) s
  | x :: l, i, j + 1, s => by
    simp only [appl, List.take_succ_cons, applAll]
    have h1 : decide (i < i + (j + 1)) = true := by simp
    rw [h1]
    simp only [cond_true]
    have := appl_lt l (i + 1) j (putT s.1 x.1.dst x.2.v, putSets x.2.sets s.2)
    rw [show i + 1 + j = i + (j + 1) from by omega] at this
    exact this

/-- What is asked of the pairs, by places. -/
structure Drawn (ops : Array Oper) (l : List (Oper × Rec)) (ms : List Nat) : Prop where
  edge : ∀ (j : Nat) (x : Oper × Rec), l[j]? = some x → ∀ e ∈ x.1.after, Region.binds .any e = true → e.on < j
  mask : ∀ (j : Nat) (x : Oper × Rec), l[j]? = some x → ∃ m : Nat, ms[j]? = some m ∧ ∀ i : Nat, m.testBit i = true → ∃ e ∈ x.1.after, Region.binds .any e = true ∧ (e.on = i ∨ ∃ m' : Nat, ms[e.on]? = some m' ∧ m'.testBit i = true)
  pair : ∀ (i j : Nat) (x y : Oper × Rec), l[i]? = some x → l[j]? = some y → i < j → (∃ m : Nat, ms[j]? = some m ∧ m.testBit i = true) ∨ apart ops x.1 x.2 y.1 y.2 = true

theorem foldl_bits (ms : List Nat) : ∀ (es : List Edge) (m0 i : Nat), (es.foldl (fun m e => bif Region.binds .any e then m ||| (2 ^ e.on ||| ms.getD e.on 0) else m) m0).testBit i = true →
    m0.testBit i = true ∨ ∃ e ∈ es, Region.binds .any e = true ∧ (e.on = i ∨ (ms.getD e.on 0).testBit i = true)
  | [], m0, i, h => .inl h
  | e :: es, m0, i, h => by
    simp only [List.foldl_cons] at h
    rcases foldl_bits ms es _ i h with h | ⟨e', h1, h2, h3⟩
    · cases hb : Region.binds .any e with
      | false => rw [hb] at h; exact .inl h
      | true =>
        rw [hb] at h
        simp only [cond_true, Nat.testBit_or, Bool.or_eq_true, Nat.testBit_two_pow, decide_eq_true_eq] at h
        rcases h with h | h | h
        · exact .inl h
        · exact .inr ⟨e, by simp, hb, .inl h⟩
        · exact .inr ⟨e, by simp, hb, .inr h⟩
    · exact .inr ⟨e', by simp [h1], h2, h3⟩

theorem apartAll_spec {ops : Array Oper} {mask : Nat} {o' : Oper} {r' : Rec} : ∀ {l : List (Oper × Rec)} {i : Nat}, apartAll ops mask o' r' i l = true → ∀ k x, l[k]? = some x → mask.testBit (i + k) = true ∨ apart ops x.1 x.2 o' r' = true
  | [], _, _, k, x, h => by simp at h
  | y :: l, i, h, 0, x, hx => by
    simp only [apartAll, Bool.and_eq_true, Bool.or_eq_true] at h
    simp at hx; subst hx; simpa using h.1
  | y :: l, i, h, k + 1, x, hx => by
    simp only [apartAll, Bool.and_eq_true, Bool.or_eq_true] at h
    have := apartAll_spec h.2 k x (by simpa using hx)
    rw [show i + 1 + k = i + (k + 1) from by omega] at this; exact this

theorem drawOk_spec {ops : Array Oper} : ∀ (l pre : List (Oper × Rec)) (ms : List Nat), ms.length = pre.length → drawOk ops pre ms l = true → Drawn ops pre ms → ∃ ms', Drawn ops (pre ++ l) ms'
  | [], pre, ms, _, _, D => ⟨ms, by simpa using D⟩
  | x :: l, pre, ms, hl, h, D => by
    simp only [drawOk, Bool.and_eq_true] at h
    obtain ⟨h1, h2, h3⟩ := h
    have := drawOk_spec l (pre ++ [x]) (ms ++ [ancMask ms x.1]) (by simp [hl]) h3 ?_
    · simpa using this
    have old : ∀ (j : Nat) (y : Oper × Rec), (pre ++ [x])[j]? = some y → (j < pre.length ∧ pre[j]? = some y) ∨ (j = pre.length ∧ y = x) := by
      intro j y hy
      rw [List.getElem?_append] at hy
      split at hy
      · rename_i q; exact .inl ⟨q, hy⟩
      · rename_i q
        have : j - pre.length = 0 := by
          rcases Nat.eq_zero_or_pos (j - pre.length) with r | r
          · exact r
          · rw [List.getElem?_eq_none (by simp; omega)] at hy; cases hy
        rw [this] at hy; simp at hy; exact .inr ⟨by omega, hy.symm⟩
    have msl : ∀ (j m : Nat), ms[j]? = some m → (ms ++ [ancMask ms x.1])[j]? = some m := by
      intro j m hm
      rw [List.getElem?_append_left (List.getElem?_eq_some_iff.1 hm).1]; exact hm
    have msn : (ms ++ [ancMask ms x.1])[pre.length]? = some (ancMask ms x.1) := by
      rw [← hl, List.getElem?_append_right (Nat.le_refl _)]; simp
    have hedge : ∀ e ∈ x.1.after, Region.binds .any e = true → e.on < pre.length := by
      intro e he hb
      have := List.all_eq_true.1 h1 e (by simpa using he)
      rw [hb] at this
      simpa [Nat.blt_eq] using this
    refine ⟨fun j y hy => ?_, fun j y hy => ?_, fun i j a b ha hb hij => ?_⟩
    · rcases old j y hy with ⟨q, hy⟩ | ⟨rfl, rfl⟩
      · exact D.edge j y hy
      · exact hedge
    · rcases old j y hy with ⟨q, hy⟩ | ⟨rfl, rfl⟩
      · obtain ⟨m, k1, k2⟩ := D.mask j y hy
        refine ⟨m, msl j m k1, fun i hi => ?_⟩
        obtain ⟨e, e1, e2, e3⟩ := k2 i hi
        exact ⟨e, e1, e2, e3.imp id fun ⟨m', q1, q2⟩ => ⟨m', msl _ m' q1, q2⟩⟩
      · refine ⟨_, msn, fun i hi => ?_⟩
        rcases foldl_bits ms y.1.after.toList 0 i hi with q | ⟨e, e1, e2, e3⟩
        · simp at q
        · refine ⟨e, by simpa using e1, e2, e3.imp id fun q => ?_⟩
          rw [List.getD_eq_getElem?_getD] at q
          cases hm : ms[e.on]? with
          | none => rw [hm] at q; simp at q
          | some m' => rw [hm] at q; exact ⟨m', msl _ m' hm, q⟩
    · rcases old j b hb with ⟨q, hb⟩ | ⟨rfl, rfl⟩
      · rcases old i a ha with ⟨q', ha⟩ | ⟨rfl, rfl⟩
        · exact (D.pair i j a b ha hb hij).imp (fun ⟨m, k1, k2⟩ => ⟨m, msl j m k1, k2⟩) id
        · omega
      · rcases old i a ha with ⟨q', ha⟩ | ⟨rfl, rfl⟩
        · have := apartAll_spec h2 i a ha
          rw [Nat.zero_add] at this
          exact this.imp (fun k => ⟨_, msn, k⟩) id
        · omega

end Go.Plb

/-
  ENGINE, PART 19: regions.
-/
namespace Go.Plb
set_option linter.unusedSimpArgs false
set_option linter.unusedVariables false

theorem mem_opTmps {l : List Operand} {t : Nat} (h : Operand.tmp t ∈ l) : t ∈ opTmps l := by
  simp only [opTmps, List.mem_filterMap]; exact ⟨_, h, rfl⟩

theorem oneOp_local {C : Ctx} {run : CallRun} {ops : Array Oper} {n0 i : Nat} {o : Oper} {T T' : List AV} {h h' : Heap} {p p' : Path} {r : Rec} {obs : List Bool} (hr : oneOp C run ops n0 i o T h p = some (r, obs, p'))
    (hT : ∀ t ∈ opNames ops o, T'[t]? = T[t]?) (hh : ∀ b ∈ r.reads, hget h' b = hget h b) : oneOp C run ops n0 i o T' h' p = some (r, obs, p') := by
  have hw : wantedA ops o T' = wantedA ops o T := by
    unfold wantedA
    cases hg : o.guard with
    | none => rfl
    | some x =>
      obtain ⟨j, want⟩ := x
      simp only
      cases hs : guardSlot ops j with
      | none => rfl
      | some d => simp only; rw [hT d (by simp [opNames, hg, hs])]
  unfold oneOp at hr ⊢
  rw [hw]
  split at hr
  · cases hr
  · exact hr
  · split at hr
    · cases hr
    · rename_i r' hop
      have : opM C run (evA T') (hget h') (n0 + i * STR) p o.op = some r' := by
        refine opM_local hop (fun x hx => ?_) (fun b hb => ?_)
        · cases x with
          | tmp t => simp only [evA]; rw [hT t (by simp only [opNames, List.mem_append]; exact .inr (.inl (mem_opTmps (by simpa using hx))))]
          | _ => rfl
        · apply hh
          split at hr
          · cases hr
          · simp only [Option.some.injEq, Prod.mk.injEq] at hr; rw [← hr.1]; exact hb
      simp only [this]
      exact hr

/-- A region in the order of its text, each operation's record kept. -/
def runRec (C : Ctx) (run : CallRun) (ops : Array Oper) (n0 : Nat) : Nat → List Oper → List AV → Heap → Path → Option (List Rec × List AV × Heap × List Bool × Path)
  | _, [], T, h, p => some ([], T, h, [], p)
  | i, o :: l, T, h, p =>
    match oneOp C run ops n0 i o T h p with
    | none => none
    | some (r, obs, p') =>
      match runRec C run ops n0 (i + 1) l (putT T o.dst r.v) (putSets r.sets h) p' with
      | none => none
      | some (rs, T', h', obs', p'') => some (r :: rs, T', h', obs ++ obs', p'')

theorem runRec_spec {C : Ctx} {run : CallRun} {ops : Array Oper} {n0 : Nat} : ∀ (l : List Oper) (i : Nat) {T T' : List AV} {h h' : Heap} {p p' : Path} {obs : List Bool} {rs : List Rec}, runRec C run ops n0 i l T h p = some (rs, T', h', obs, p') → allTrue obs →
    rs.length = l.length ∧ applAll (l.zip rs) (T, h) = (T', h') ∧ ∀ (j : Nat) (o : Oper), l[j]? = some o → ∃ r obs' q q', rs[j]? = some r ∧ allTrue obs' ∧
      oneOp C run ops n0 (i + j) o (applAll ((l.zip rs).take j) (T, h)).1 (applAll ((l.zip rs).take j) (T, h)).2 q = some (r, obs', q')
  | [], i, T, T', h, h', p, p', obs, rs, hr, _ => by
    simp only [runRec, Option.some.injEq, Prod.mk.injEq] at hr; obtain ⟨rfl, rfl, rfl, rfl, rfl⟩ := hr
    exact ⟨rfl, rfl, fun j o h => by simp at h⟩
  | o :: l, i, T, T', h, h', p, p', obs, rs, hr, ho => by
    simp only [runRec] at hr
    split at hr
    case h_1 => cases hr
    rename_i r obs1 p1 h1
    split at hr
    case h_1 => cases hr
    rename_i rs2 T2 h2 obs2 p2 h3
    simp only [Option.some.injEq, Prod.mk.injEq] at hr; obtain ⟨rfl, rfl, rfl, rfl, rfl⟩ := hr
    rw [allTrue_append] at ho
    obtain ⟨a1, a2, a3⟩ := runRec_spec l (i + 1) h3 ho.2
    refine ⟨by simp [a1], by simpa [applAll] using a2, fun j o' hj => ?_⟩
    cases j with
    | zero => simp at hj; subst hj; exact ⟨r, obs1, p, p1, by simp, ho.1, by simpa [applAll] using h1⟩
    | succ j =>
      obtain ⟨r', ob, q, q', b1, b2, b3⟩ := a3 j o' (by simpa using hj)
      refine ⟨r', ob, q, q', by simpa using b1, b2, ?_⟩
      rw [show i + (j + 1) = i + 1 + j from by omega]
      simpa [applAll] using b3

theorem countP_lt {p q : Nat → Bool} : ∀ {l : List Nat} {j : Nat}, j ∈ l → p j = true → q j = false → (∀ i, q i = true → p i = true) → l.countP q < l.countP p
  | [], _, h, _, _, _ => by cases h
  | x :: l, j, h, hp, hq, hi => by
    have mono : ∀ l : List Nat, l.countP q ≤ l.countP p := fun l => List.countP_mono_left fun x _ => hi x
    simp only [List.countP_cons]
    rcases List.mem_cons.1 h with rfl | h
    · rw [hp, hq]; have := mono l; simp; omega
    · have := countP_lt h hp hq hi
      by_cases hx : q x = true
      · rw [hx, hi x hx]; omega
      · have hq' : q x = false := by simpa using hx
        rw [hq']; simp only [Bool.false_eq_true, if_false]; split <;> omega

theorem str_inj {i j y : Nat} (h1 : i * STR ≤ y) (h2 : y < i * STR + STR) (h3 : j * STR ≤ y) (h4 : y < j * STR + STR) : i = j := by
  have hS : 0 < STR := by decide
  have a : y / STR = i := by rw [Nat.div_eq_iff hS]; omega
  have b : y / STR = j := by rw [Nat.div_eq_iff hS]; omega
  omega

/-- The heart: whatever operations were done, in whatever order. -/
theorem draw_any {C : Ctx} (hC : C.Ok) {run : CallRun} (hrun : RunOk C.P run) {ops : Array Oper} {n0 : Nat} {T0 : List AV} {h0 : Heap} {rs : List Rec} {ms : List Nat} (D : Drawn ops (ops.toList.zip rs) ms) (hlen : rs.length = ops.size)
    (each : ∀ (j : Nat) (o : Oper), ops.toList[j]? = some o → ∃ r obs' q q', rs[j]? = some r ∧ allTrue obs' ∧
      oneOp C run ops n0 j o (applAll ((ops.toList.zip rs).take j) (T0, h0)).1 (applAll ((ops.toList.zip rs).take j) (T0, h0)).2 q = some (r, obs', q'))
    {Q : Exit → Act → World → Prop} : ∀ (fuel : Nat) (listed : Array Bool), listed.size = ops.size → (∀ (j : Nat) (o : Oper), ops[j]? = some o → listed.getD j false = true → ∀ e ∈ o.after, Region.binds .any e = true → listed.getD e.on false = true) →
      (List.range ops.size).countP (fun i => !listed.getD i false) ≤ fuel → ∀ {ρ : Place} {w : World} {a : Act}, HR ρ w (appl (fun i => listed.getD i false) 0 (ops.toList.zip rs) (T0, h0)).2 (n0 + ops.size * STR) →
      (∀ b, ρ.ok b → b < n0 ∨ ∃ i, listed.getD i false = true ∧ n0 + i * STR ≤ b ∧ b < n0 + i * STR + STR) → a.defers = [] → VRs ρ w (appl (fun i => listed.getD i false) 0 (ops.toList.zip rs) (T0, h0)).1 a.tmps.toList →
      (∀ ρ' w' a', Ext ρ ρ' w → WLe ρ.live w w' → HR ρ' w' (applAll (ops.toList.zip rs) (T0, h0)).2 (n0 + ops.size * STR) → a'.defers = [] → VRs ρ' w' (applAll (ops.toList.zip rs) (T0, h0)).1 a'.tmps.toList → (∀ b, ρ'.ok b → ρ.ok b ∨ n0 ≤ b) → Q .normal a' w') →
      wpAny C.P .any ops Q fuel listed a w := by
  have hzl : (ops.toList.zip rs).length = ops.size := by simp [hlen]
  have zget : ∀ (j : Nat) (o : Oper) (r : Rec), ops[j]? = some o → rs[j]? = some r → (ops.toList.zip rs)[j]? = some (o, r) := by
    intro j o r h1 h2
    rw [List.getElem?_zip_eq_some]; exact ⟨by simpa using h1, h2⟩
  have zinv : ∀ (j : Nat) (x : Oper × Rec), (ops.toList.zip rs)[j]? = some x → ops[j]? = some x.1 ∧ rs[j]? = some x.2 := by
    intro j x hx
    have := List.getElem?_zip_eq_some.1 (show (ops.toList.zip rs)[j]? = some (x.1, x.2) from hx)
    exact ⟨by simpa using this.1, this.2⟩
  -- done when all are listed
  have allL : ∀ (listed : Array Bool), listed.size = ops.size → (∀ i, i < ops.size → listed.getD i false = true) → appl (fun i => listed.getD i false) 0 (ops.toList.zip rs) (T0, h0) = applAll (ops.toList.zip rs) (T0, h0) := by
    intro listed hs hall
    have : ∀ (l : List (Oper × Rec)) (i : Nat) (s : List AV × Heap), i + l.length ≤ ops.size → appl (fun i => listed.getD i false) i l s = applAll l s := by
      intro l
      induction l with
      | nil => intro _ _ _; rfl
      | cons x l ih =>
        intro i s hi
        simp only [List.length_cons] at hi
        simp only [appl, applAll]
        rw [hall i (by omega)]
        exact ih (i + 1) _ (by omega)
    exact this _ 0 _ (by rw [hzl]; omega)
  -- what is before a thing that is done is done
  have down : ∀ (listed : Array Bool), (∀ (j : Nat) (o : Oper), ops[j]? = some o → listed.getD j false = true → ∀ e ∈ o.after, Region.binds .any e = true → listed.getD e.on false = true) →
      ∀ (j : Nat) (o : Oper), ops[j]? = some o → (∀ e ∈ o.after, Region.binds .any e = true → listed.getD e.on false = true) → ∀ (i m : Nat), ms[j]? = some m → m.testBit i = true → listed.getD i false = true := by
    intro listed hcl j
    induction j using Nat.strongRecOn with
    | _ j ih =>
      intro o ho hpre i m hm hbit
      have hlt : j < ops.size := (Array.getElem?_eq_some_iff.1 ho).1
      obtain ⟨r, hr⟩ : ∃ r, rs[j]? = some r := ⟨rs[j]'(by omega), List.getElem?_eq_getElem (by omega)⟩
      have hz := zget j o r ho hr
      obtain ⟨m', k1, k2⟩ := D.mask j _ hz
      rw [hm] at k1; cases k1
      obtain ⟨e, e1, e2, e3⟩ := k2 i hbit
      have hL := hpre e e1 e2
      rcases e3 with rfl | ⟨m'', q1, q2⟩
      · exact hL
      · have hej := D.edge j _ hz e e1 e2
        have hon : e.on < ops.size := by omega
        exact ih e.on hej _ (Array.getElem?_eq_getElem hon) (hcl e.on _ (Array.getElem?_eq_getElem hon) hL) i m'' q1 q2
  intro fuel
  induction fuel with
  | zero =>
    intro listed hs hcl hcnt ρ w a hh hok hd hT hQ
    have hall : ∀ i, i < ops.size → listed.getD i false = true := by
      intro i hi
      have h0 := List.countP_eq_zero.1 (Nat.le_zero.1 hcnt) i (List.mem_range.2 hi)
      simpa using h0
    simp only [wpAny]
    refine ⟨?_, ?_⟩
    · cases hr : Region.ready .any ops listed with
      | nil => rfl
      | cons x xs =>
        have hx : x ∈ Region.ready .any ops listed := by rw [hr]; simp
        obtain ⟨k1, o, k2, _⟩ := mem_ready.1 hx
        have hlt : x < ops.size := (Array.getElem?_eq_some_iff.1 k2).1
        have := hall x hlt
        rw [Array.getD_eq_getD_getElem?, Array.getElem?_eq_getElem (by omega)] at this k1
        simp only [Option.getD_some] at this k1
        rw [this] at k1; cases k1
    · rw [allL listed hs hall] at hh hT
      exact hQ ρ w a (Ext.refl _ _) (WLe.refl _ _) hh hd hT (fun b q => .inl q)
  | succ fuel ih =>
    intro listed hs hcl hcnt ρ w a hh hok hd hT hQ
    simp only [wpAny]
    have sameD : ∀ j, j < ops.size → listed.getD j true = listed.getD j false := by
      intro j hj
      rw [Array.getD_eq_getD_getElem?, Array.getD_eq_getD_getElem?, Array.getElem?_eq_getElem (by omega)]; rfl
    refine ⟨fun hr => ?_, fun j hj => ?_⟩
    · have hall : ∀ i, i < ops.size → listed.getD i false = true := by
        intro i
        induction i using Nat.strongRecOn with
        | _ i ihi =>
          intro hi
          cases hl : listed.getD i false with
          | true => rfl
          | false =>
            have ho := Array.getElem?_eq_getElem hi
            obtain ⟨r, hrr⟩ : ∃ r, rs[i]? = some r := ⟨rs[i]'(by omega), List.getElem?_eq_getElem (by omega)⟩
            have hz := zget i _ r ho hrr
            have : i ∈ Region.ready .any ops listed := mem_ready.2 ⟨by rw [sameD i hi]; exact hl, _, ho, fun e he hb => ihi e.on (D.edge i _ hz e he hb) (by have := D.edge i _ hz e he hb; omega)⟩
            rw [hr] at this; cases this
      rw [allL listed hs hall] at hh hT
      exact hQ ρ w a (Ext.refl _ _) (WLe.refl _ _) hh hd hT (fun b q => .inl q)
    · obtain ⟨k1, o, ho, hpre⟩ := mem_ready.1 hj
      have hlt : j < ops.size := (Array.getElem?_eq_some_iff.1 ho).1
      rw [sameD j hlt] at k1
      obtain ⟨r, obs', q, q', hr, hob, hone⟩ := each j o (by simpa using ho)
      have hz := zget j o r ho hr
      -- what stands in the slots and blocks of j
      have agree : ∀ (i : Nat) (x : Oper × Rec), (ops.toList.zip rs)[i]? = some x → i ≠ j → apart ops x.1 x.2 o r = false → apart ops o r x.1 x.2 = false → listed.getD i false = decide (i < j) := by
        intro i x hx hne n1 n2
        have hxi := zinv i x hx
        rcases Nat.lt_or_gt_of_ne hne with hij | hij
        · rcases D.pair i j x (o, r) hx hz hij with ⟨m, hm, hb⟩ | hap
          · rw [down listed hcl j o ho hpre i m hm hb]; simp [hij]
          · simp only at hap; rw [n1] at hap; cases hap
        · rcases D.pair j i (o, r) x hz hx hij with ⟨m, hm, hb⟩ | hap
          · have : ¬ i < j := by omega
            simp only [this, decide_false]
            cases hl : listed.getD i false with
            | false => rfl
            | true =>
              have := down listed hcl i x.1 hxi.1 (hcl i x.1 hxi.1 hl) j m hm hb
              rw [k1] at this; cases this
          · simp only at hap; rw [n2] at hap; cases hap
      have napT : ∀ (x : Oper × Rec) (t : Nat), x.1.dst = some t → t ∈ opNames ops o → apart ops x.1 x.2 o r = false ∧ apart ops o r x.1 x.2 = false := by
        intro x t hdst ht
        constructor
        · cases hap : apart ops x.1 x.2 o r with
          | false => rfl
          | true => simp only [apart, Bool.and_eq_true] at hap; exact (disj_spec hap.1 t (by simp [hdst]) ht).elim
        · cases hap : apart ops o r x.1 x.2 with
          | false => rfl
          | true => simp only [apart, Bool.and_eq_true] at hap; exact (disj_spec hap.2.1 t (by simp [hdst]) ht).elim
      have napH : ∀ (x : Oper × Rec) (b : Nat), b ∈ setIds x.2.sets → b ∈ r.reads ++ setIds r.sets → apart ops x.1 x.2 o r = false ∧ apart ops o r x.1 x.2 = false := by
        intro x b hx hb
        constructor
        · cases hap : apart ops x.1 x.2 o r with
          | false => rfl
          | true => simp only [apart, Bool.and_eq_true] at hap; exact (disj_spec hap.2.2.1 b hx hb).elim
        · cases hap : apart ops o r x.1 x.2 with
          | false => rfl
          | true => simp only [apart, Bool.and_eq_true] at hap; exact (disj_spec hap.2.2.2 b hx hb).elim
      have eqT : ∀ t ∈ opNames ops o, (appl (fun i => listed.getD i false) 0 (ops.toList.zip rs) (T0, h0)).1[t]? = (applAll ((ops.toList.zip rs).take j) (T0, h0)).1[t]? := by
        intro t ht
        have := appl_lt (ops.toList.zip rs) 0 j (T0, h0)
        rw [← this]
        refine appl_T _ 0 (fun k x hx hdst => ?_) rfl
        rw [Nat.zero_add, Nat.zero_add]
        by_cases hkj : k = j
        · subst hkj; rw [k1]; simp
        · obtain ⟨n1, n2⟩ := napT x t hdst ht; exact agree k x hx hkj n1 n2
      have eqH : ∀ b ∈ r.reads ++ setIds r.sets, hget (appl (fun i => listed.getD i false) 0 (ops.toList.zip rs) (T0, h0)).2 b = hget (applAll ((ops.toList.zip rs).take j) (T0, h0)).2 b := by
        intro b hb
        have := appl_lt (ops.toList.zip rs) 0 j (T0, h0)
        rw [← this]
        refine appl_H _ 0 (fun k x hx hset => ?_) rfl
        rw [Nat.zero_add, Nat.zero_add]
        by_cases hkj : k = j
        · subst hkj; rw [k1]; simp
        · obtain ⟨n1, n2⟩ := napH x b hset hb; exact agree k x hx hkj n1 n2
      have hloc := oneOp_local hone eqT (fun b hb => eqH b (by simp [hb]))
      -- the state behind j
      have L'eq : ∀ i, (listed.setIfInBounds j true).getD i false = if i = j then true else listed.getD i false := by
        intro i
        by_cases hij : i = j
        · subst hij; rw [if_pos rfl, Array.getD_eq_getD_getElem?]; simp [hs, hlt]
        · rw [if_neg hij]; exact getD_set_ne false (fun e => hij e.symm)
      have step1 := appl_lt (ops.toList.zip rs) 0 (j + 1) (T0, h0)
      have hsplit : applAll ((ops.toList.zip rs).take (j + 1)) (T0, h0) = (putT (applAll ((ops.toList.zip rs).take j) (T0, h0)).1 o.dst r.v, putSets r.sets (applAll ((ops.toList.zip rs).take j) (T0, h0)).2) := by
        have hjl : j < (ops.toList.zip rs).length := by rw [hzl]; exact hlt
        have : (ops.toList.zip rs).take (j + 1) = (ops.toList.zip rs).take j ++ [(o, r)] := by
          rw [List.take_succ_eq_append_getElem hjl]
          have := List.getElem?_eq_getElem hjl
          rw [hz] at this
          rw [← Option.some.inj this]
        rw [this, applAll_append]; rfl
      have newT : ∀ t : Nat, (putT (appl (fun i => listed.getD i false) 0 (ops.toList.zip rs) (T0, h0)).1 o.dst r.v)[t]? = (appl (fun i => (listed.setIfInBounds j true).getD i false) 0 (ops.toList.zip rs) (T0, h0)).1[t]? := by
        intro t
        rw [putT_get]
        by_cases hdst : o.dst = some t
        · rw [if_pos hdst]
          have e1 := eqT t (by simp [opNames, hdst])
          rw [e1]
          have e2 : (appl (fun i => (listed.setIfInBounds j true).getD i false) 0 (ops.toList.zip rs) (T0, h0)).1[t]? = (applAll ((ops.toList.zip rs).take (j + 1)) (T0, h0)).1[t]? := by
            rw [← step1]
            refine appl_T _ 0 (fun k x hx hd2 => ?_) rfl
            rw [Nat.zero_add, Nat.zero_add, L'eq]
            by_cases hkj : k = j
            · subst hkj; simp
            · rw [if_neg hkj]
              obtain ⟨n1, n2⟩ := napT x t hd2 (by simp [opNames, hdst])
              rw [agree k x hx hkj n1 n2]
              by_cases q : k < j <;> simp [q] <;> omega
          rw [e2, hsplit, putT_get, if_pos hdst]
        · rw [if_neg hdst]
          refine appl_T _ 0 (fun k x hx hd2 => ?_) rfl
          rw [Nat.zero_add, L'eq]
          by_cases hkj : k = j
          · subst hkj; rw [hz] at hx; cases hx; exact absurd hd2 hdst
          · rw [if_neg hkj]
      have newH : ∀ b : Nat, hget (appl (fun i => (listed.setIfInBounds j true).getD i false) 0 (ops.toList.zip rs) (T0, h0)).2 b = hget (putSets r.sets (appl (fun i => listed.getD i false) 0 (ops.toList.zip rs) (T0, h0)).2) b := by
        intro b
        by_cases hb : b ∈ setIds r.sets
        · rw [putSets_congr (h := (appl (fun i => listed.getD i false) 0 (ops.toList.zip rs) (T0, h0)).2) (h' := (applAll ((ops.toList.zip rs).take j) (T0, h0)).2) r.sets (eqH b (by simp [hb]))]
          have e2 : hget (appl (fun i => (listed.setIfInBounds j true).getD i false) 0 (ops.toList.zip rs) (T0, h0)).2 b = hget (applAll ((ops.toList.zip rs).take (j + 1)) (T0, h0)).2 b := by
            rw [← step1]
            refine appl_H _ 0 (fun k x hx hd2 => ?_) rfl
            rw [Nat.zero_add, Nat.zero_add, L'eq]
            by_cases hkj : k = j
            · subst hkj; simp
            · rw [if_neg hkj]
              obtain ⟨n1, n2⟩ := napH x b hd2 (by simp [hb])
              rw [agree k x hx hkj n1 n2]
              by_cases q : k < j <;> simp [q] <;> omega
          rw [e2, hsplit]
        · rw [putSets_other _ hb]
          refine appl_H _ 0 (fun k x hx hd2 => ?_) rfl
          rw [Nat.zero_add, L'eq]
          by_cases hkj : k = j
          · subst hkj; rw [hz] at hx; cases hx; exact absurd hd2 hb
          · rw [if_neg hkj]
      have hS : j * STR + STR ≤ ops.size * STR := by rw [← Nat.succ_mul]; exact Nat.mul_le_mul_right _ hlt
      refine oneOp_sound hC hrun ho hloc hob hh (fun x h1 h2 hbad => ?_) (by omega) hd hT ?_
      · rcases hok _ hbad with q | ⟨i, q1, q2, q3⟩
        · omega
        · have : i = j := str_inj (y := x - n0) (by omega) (by omega) (by omega) (by omega)
          subst this; rw [k1] at q1; cases q1
      intro ρ' w' a' E W hh' hd' hT' hok'
      have hlist : putT (appl (fun i => listed.getD i false) 0 (ops.toList.zip rs) (T0, h0)).1 o.dst r.v = (appl (fun i => (listed.setIfInBounds j true).getD i false) 0 (ops.toList.zip rs) (T0, h0)).1 := List.ext_getElem? newT
      rw [hlist] at hT'
      refine ih (listed.setIfInBounds j true) (by simpa using hs) (fun i x hx hl e he hb => ?_) ?_ (hh'.congr newH) (fun b hb => ?_) hd' hT' ?_
      · rw [L'eq] at hl ⊢
        by_cases hij : i = j
        · subst hij
          rw [ho] at hx; cases hx
          split
          · rfl
          · exact hpre e he hb
        · rw [if_neg hij] at hl
          split
          · rfl
          · exact hcl i x hx hl e he hb
      · have := countP_lt (l := List.range ops.size) (j := j) (p := fun i => !listed.getD i false) (q := fun i => !(listed.setIfInBounds j true).getD i false) (List.mem_range.2 hlt) (by simp only [k1]; rfl) (by simp only [L'eq, if_true]; rfl)
          (fun i hi => by
            simp only [L'eq] at hi ⊢
            split at hi
            · cases hi
            · exact hi)
        omega
      · rcases hok' b hb with q | q
        · rcases hok b q with q | ⟨i, q1, q2⟩
          · exact .inl q
          · refine .inr ⟨i, ?_, q2⟩
            rw [L'eq]; split
            · rfl
            · exact q1
        · exact .inr ⟨j, by rw [L'eq, if_pos rfl], q⟩
      · intro ρ'' w'' a'' E' W' hh'' hd'' hT'' hb''
        exact hQ ρ'' w'' a'' (E.trans E' W.size) (W.trans W' (fun x hx q => E.new x hx q)) hh'' hd'' hT'' (fun b q => by
          rcases hb'' b q with q | q
          · rcases hok' b q with q | q
            · exact .inl q
            · exact .inr (by omega)
          · exact .inr q)

end Go.Plb

/-
  ENGINE, PART 20: what a function hands back; code; functions.
-/
namespace Go.Plb
set_option linter.unusedSimpArgs false
set_option linter.unusedVariables false

theorem kept_foreignB {d : Blk} (h : d.kept = true) : d.foreign = true := by
  cases d <;> first | rfl | exact keptAll_foreign h

mutual
/-- A value as it is handed back: what it points to is kept as it stands. -/
def keepA (g : Nat → Option Blk) : Nat → AV → AV
  | 0, _ => .any
  | n + 1, v =>
    match v with
    | .ptr b w i j => match g b with
      | some d => let d' := keepB g n d; bif d'.kept then .iptr .free d' w i j else .any
      | none => .any
    | .sl b w es i len _ => match g b with
      | some d => let d' := keepB g n d; bif d'.kept then .imm .free d' w es i len else .any
      | none => .any
    | .fn f l1 l2 => .fn f (keepL g n l1) (keepL g n l2)
    | .agg l => .agg (keepL g n l)
    | .tup l => .tup (keepL g n l)
    | .iface t v => .iface t (keepA g n v)
    | v => v
def keepL (g : Nat → Option Blk) : Nat → List AV → List AV
  | 0, l => l.map fun _ => .any
  | n + 1, l =>
    match l with
    | [] => []
    | v :: l => keepA g n v :: keepL g n l
def keepB (g : Nat → Option Blk) : Nat → Blk → Blk
  | 0, _ => .vs []
  | n + 1, d =>
    match d with
    | .vs l => .vs (keepL g n l)
    | d => d
end

theorem keepB_rk (g : Nat → Option Blk) (n : Nat) (d : Blk) (h : d.recKept) : (keepB g n d).recKept := by
  cases n with
  | zero => trivial
  | succ n => cases d <;> first | exact h | trivial

/-- A later place that has less of one's own. -/
structure Less (ρ τ : Place) : Prop where
  out : τ.out = ρ.out
  live : ∀ bl, τ.live bl → ρ.live bl

theorem Less.avoid {ρ τ : Place} (L : Less ρ τ) {l : Lv} {bl : Nat} (h : ρ.avoid l bl) : τ.avoid l bl := by
  refine Lv.av_anti (d := 0) (fun j _ q => ?_) h
  cases j with
  | zero => exact L.live bl q
  | succ j => simp only [Nat.add_zero, Place.own] at q ⊢; rw [L.out] at q; exact q

theorem bare_vr {ρ τ : Place} (L : Less ρ τ) {w : World} {v : AV} {u : Value} (h : VR ρ w v u) : v.foreign = true → VR τ w v u := by
  induction h using VR.rec (motive_2 := fun l c _ => foreignAll l = true → VRs τ w l c) with
  | int k n => exact fun _ => .int k n
  | bool kn b => exact fun _ => .bool kn b
  | flt ex x y h => exact fun _ => .flt ex x y h
  | str s => exact fun _ => .str s
  | nptr => exact fun _ => .nptr
  | ptr b k i j hb => intro hk; simp [AV.foreign] at hk
  | iptr bw d k i j bl o u ha hb hc hv hr hk hg ih => exact fun _ => .iptr bw d k i j bl o u (L.avoid ha) hb hc (fun x v hx => ih x v hx (foreign_content hr hg x v hx)) hr hk hg
  | nsl => exact fun _ => .nsl
  | esl a => exact fun _ => .esl a
  | zsl a c => exact fun _ => .zsl a c
  | nan n h => exact fun _ => .nan n h
  | sl b k es i len cap cap' hb hcap hl c t hh hs => intro hk; simp [AV.foreign] at hk
  | slEnd b k es i a => intro hk; simp [AV.foreign] at hk
  | imm bw d k es i len cap bl o u ha hb hc hv hl hr hk hg ih => exact fun _ => .imm bw d k es i len cap bl o u (L.avoid ha) hb hc (fun x v hx => ih x v hx (foreign_content hr hg x v hx)) hl hr hk hg
  | immEnd bw d k es i cap a hr hk hg => exact fun _ => .immEnd bw d k es i cap a hr hk hg
  | fn f l1 l2 c1 c2 h1 h2 i1 i2 => intro hk; simp only [AV.foreign, Bool.and_eq_true] at hk; exact .fn f l1 l2 c1 c2 (i1 hk.1) (i2 hk.2)
  | nfn => exact fun _ => .nfn
  | agg l c h ih => intro hk; exact .agg l c (ih hk)
  | tup l c h ih => intro hk; exact .tup l c (ih hk)
  | iface t v u h ih => intro hk; exact .iface t v u (ih hk)
  | niface => exact fun _ => .niface
  | any u => exact fun _ => .any u
  | nil => exact VRs.nil
  | cons v u l c h t i1 i2 => rename_i hk; simp only [foreignAll, Bool.and_eq_true] at hk; exact VRs.cons v u l c (i1 hk.1) (i2 hk.2)

mutual
theorem keep_vr {ρ τ : Place} (L : Less ρ τ) {w : World} {h : Heap} {m : Nat} (hh : HR ρ w h m) (off : ∀ b d, hget h b = some d → ρ.ok b → ¬ τ.live (ρ.at_ b)) : ∀ (n : Nat) {v : AV} {u : Value}, VR ρ w v u → VR τ w (keepA (hget h) n v) u
  | 0, v, u, hv => .any u
  | n + 1, v, u, hv => by
    have free : ∀ (b : Nat) (d : Blk), hget h b = some d → ρ.ok b → τ.avoid .free (ρ.at_ b) := by
      intro b d hd hok j _
      cases j with
      | zero => exact off b d hd hok
      | succ j => simp only [Place.own]; rw [L.out]; exact hh.fresh _ (hh.real hd hok).1 j
    have content : ∀ (b : Nat) (d : Blk), hget h b = some d → ρ.ok b → ∀ x v, (keepB (hget h) n d).cell? x = some v → w.cell? ⟨ρ.at_ b, 0 + x, none⟩ = some ((w.cell? ⟨ρ.at_ b, x, none⟩).getD undef) ∧ VR τ w v ((w.cell? ⟨ρ.at_ b, x, none⟩).getD undef) := by
      intro b d hd hok x v hx
      obtain ⟨_, hrk, c, t, hc, hcv⟩ := hh.real hd hok
      obtain ⟨u, q1, q2⟩ := keepB_cells L hh off n (ρ.at_ b) (fun x v hx => by
        obtain ⟨u, k1, k2⟩ := hcv x v hx
        exact ⟨u, by simp [World.cell?, hc, k1], k2⟩) hrk x v hx
      rw [Nat.zero_add, q1]; exact ⟨rfl, q2⟩
    cases v with
    | ptr b k i j =>
      simp only [keepA]
      split
      · rename_i d hd
        have hrk := hh.rk hd
        cases hk : (keepB (hget h) n d).kept with
        | false => exact .any _
        | true =>
          simp only [cond_true]
          cases hv with | ptr _ _ _ _ hb =>
          have := VR.iptr (ρ := τ) (w := w) .free (keepB (hget h) n d) k i j (ρ.at_ b) 0 (fun x => (w.cell? ⟨ρ.at_ b, x, none⟩).getD undef) (free b d hd hb) (hh.liveLt _ (hh.real hd hb).1)
            (fun x v hx => (content b d hd hb x v hx).1) (fun x v hx => (content b d hd hb x v hx).2) (keepB_rk _ _ _ hrk) (fun _ => hk) (kept_foreignB hk)
          simpa using this
      · exact .any _
    | sl b k es i len cap =>
      simp only [keepA]
      split
      · rename_i d hd
        have hrk := hh.rk hd
        cases hk : (keepB (hget h) n d).kept with
        | false => exact .any _
        | true =>
          simp only [cond_true]
          cases hv with
          | sl _ _ _ _ _ _ cap' hb hcap hl' c t hh' hs =>
            have := VR.imm (ρ := τ) (w := w) .free (keepB (hget h) n d) k es i len cap' (ρ.at_ b) 0 (fun x => (w.cell? ⟨ρ.at_ b, x, none⟩).getD undef) (free b d hd hb) (hh.liveLt _ (hh.real hd hb).1)
              (fun x v hx => (content b d hd hb x v hx).1) (fun x v hx => (content b d hd hb x v hx).2) (by omega) (keepB_rk _ _ _ hrk) (fun _ => hk) (kept_foreignB hk)
            simpa using this
          | slEnd => exact .immEnd _ _ _ _ _ _ _ (keepB_rk _ _ _ hrk) (fun _ => hk) (kept_foreignB hk)
      · exact .any _
    | fn f l1 l2 => cases hv with | fn _ _ _ _ _ h1 h2 => exact .fn _ _ _ _ _ (keepL_vr L hh off n h1) (keepL_vr L hh off n h2)
    | agg l => cases hv with | agg _ _ h1 => exact .agg _ _ (keepL_vr L hh off n h1)
    | tup l => cases hv with | tup _ _ h1 => exact .tup _ _ (keepL_vr L hh off n h1)
    | iface t v => cases hv with | iface _ _ _ h1 => exact .iface _ _ _ (keep_vr L hh off n h1)
    | int => exact bare_vr L hv rfl
    | bool => exact bare_vr L hv rfl
    | flt => exact bare_vr L hv rfl
    | str => exact bare_vr L hv rfl
    | nptr => exact bare_vr L hv rfl
    | iptr => exact bare_vr L hv rfl
    | nsl => exact bare_vr L hv rfl
    | esl => exact bare_vr L hv rfl
    | zsl => exact bare_vr L hv rfl
    | nan => exact bare_vr L hv rfl
    | imm => exact bare_vr L hv rfl
    | nfn => exact bare_vr L hv rfl
    | niface => exact bare_vr L hv rfl
    | any => exact .any _
theorem keepL_vr {ρ τ : Place} (L : Less ρ τ) {w : World} {h : Heap} {m : Nat} (hh : HR ρ w h m) (off : ∀ b d, hget h b = some d → ρ.ok b → ¬ τ.live (ρ.at_ b)) : ∀ (n : Nat) {l : List AV} {c : List Value}, VRs ρ w l c → VRs τ w (keepL (hget h) n l) c
  | 0, [], c, hv => by cases hv; exact .nil
  | 0, v :: l, c, hv => by
    cases hv with | cons _ u _ c' h1 h2 =>
    have := keepL_vr L hh off 0 h2
    exact .cons _ _ _ _ (.any u) this
  | n + 1, [], c, hv => by cases hv; exact .nil
  | n + 1, v :: l, c, hv => by
    cases hv with | cons _ u _ c' h1 h2 => exact .cons _ _ _ _ (keep_vr L hh off n h1) (keepL_vr L hh off n h2)
theorem keepB_cells {ρ τ : Place} (L : Less ρ τ) {w : World} {h : Heap} {m : Nat} (hh : HR ρ w h m) (off : ∀ b d, hget h b = some d → ρ.ok b → ¬ τ.live (ρ.at_ b)) : ∀ (n : Nat) (bl : Nat) {d : Blk}, (∀ x v, d.cell? x = some v → ∃ u, w.cell? ⟨bl, x, none⟩ = some u ∧ VR ρ w v u) → d.recKept →
    ∀ x v, (keepB (hget h) n d).cell? x = some v → ∃ u, w.cell? ⟨bl, x, none⟩ = some u ∧ VR τ w v u
  | 0, bl, d, hc, hr, x, v, hx => by simp [keepB, Blk.cell?] at hx
  | n + 1, bl, d, hc, hr, x, v, hx => by
    cases d with
    | vs l =>
      simp only [keepB, Blk.cell?] at hx
      have hus : VRs ρ w l ((List.range l.length).map fun x => (w.cell? ⟨bl, x, none⟩).getD undef) := by
        refine VRs.of_get (by simp) fun y v u q1 q2 => ?_
        obtain ⟨u', k1, k2⟩ := hc y v q1
        have hlt : y < l.length := (List.getElem?_eq_some_iff.1 q1).1
        rw [List.getElem?_map, List.getElem?_range hlt] at q2
        simp [k1] at q2; subst q2; exact k2
      have hr2 := keepL_vr L hh off n hus
      obtain ⟨u, q1, q2⟩ := hr2.get x v hx
      rw [List.getElem?_map] at q1
      have hlt : x < l.length := by
        rcases Nat.lt_or_ge x l.length with q | q
        · exact q
        · rw [List.getElem?_eq_none (by simpa using q)] at q1; cases q1
      rw [List.getElem?_range hlt] at q1
      obtain ⟨u', k1, _⟩ := hc x (l[x]) (List.getElem?_eq_getElem hlt)
      simp [k1] at q1; subst q1
      exact ⟨u', k1, q2⟩
    | fl xs => obtain ⟨u, q1, q2⟩ := hc x v hx; exact ⟨u, q1, bare_vr L q2 (foreign_content (d := .fl xs) hr rfl x v hx)⟩
    | ns k xs => obtain ⟨u, q1, q2⟩ := hc x v hx; exact ⟨u, q1, bare_vr L q2 (foreign_content (d := .ns k xs) hr rfl x v hx)⟩
    | bs xs => obtain ⟨u, q1, q2⟩ := hc x v hx; exact ⟨u, q1, bare_vr L q2 (foreign_content (d := .bs xs) hr rfl x v hx)⟩
    | ss xs => obtain ⟨u, q1, q2⟩ := hc x v hx; exact ⟨u, q1, bare_vr L q2 (foreign_content (d := .ss xs) hr rfl x v hx)⟩
    | rows k m get => obtain ⟨u, q1, q2⟩ := hc x v hx; exact ⟨u, q1, bare_vr L q2 (foreign_content (d := .rows k m get) hr rfl x v hx)⟩
    | cols k cs => obtain ⟨u, q1, q2⟩ := hc x v hx; exact ⟨u, q1, bare_vr L q2 (foreign_content (d := .cols k cs) hr rfl x v hx)⟩
end

mutual
/-- Blocks named anew; what is not among them is forgotten. -/
def nmA (σ : Nat → Option Nat) : AV → AV
  | .ptr b w i j => match σ b with | some c => .ptr c w i j | none => .any
  | .sl b w es i len cap => match σ b with | some c => .sl c w es i len cap | none => .any
  | .fn f l1 l2 => .fn f (nmL σ l1) (nmL σ l2)
  | .agg l => .agg (nmL σ l)
  | .tup l => .tup (nmL σ l)
  | .iface t v => .iface t (nmA σ v)
  | v => v
def nmL (σ : Nat → Option Nat) : List AV → List AV
  | [] => []
  | v :: l => nmA σ v :: nmL σ l
end

def Place.renamed (ρ : Place) (keep : List Nat) : Place :=
  { at_ := fun i => ρ.at_ ((keep[i]?).getD 0), live := ρ.live, out := ρ.out, ok := fun i => ∃ b, keep[i]? = some b ∧ ρ.ok b }

mutual
theorem nm_vr {ρ : Place} {keep : List Nat} {w : World} : ∀ (v : AV) {u : Value}, VR ρ w v u → VR (ρ.renamed keep) w (nmA (posIn keep 0) v) u
  | .ptr b k i j, u, h => by
    simp only [nmA]
    split
    · rename_i c hc
      cases h with | ptr _ _ _ _ hb =>
      obtain ⟨_, hg⟩ := posIn_get hc
      rw [Nat.sub_zero] at hg
      have : (ρ.renamed keep).at_ c = ρ.at_ b := by simp [Place.renamed, hg]
      rw [← this]; exact .ptr _ _ _ _ ⟨b, hg, hb⟩
    · exact .any u
  | .sl b k es i len cap, u, h => by
    simp only [nmA]
    split
    · rename_i c hc
      obtain ⟨_, hg⟩ := posIn_get hc
      rw [Nat.sub_zero] at hg
      have e : (ρ.renamed keep).at_ c = ρ.at_ b := by simp [Place.renamed, hg]
      cases h with
      | sl _ _ _ _ _ _ cap' hb hcap hl ce t hh hs => rw [← e] at hh ⊢; exact .sl _ _ _ _ _ _ _ ⟨b, hg, hb⟩ hcap hl ce t hh hs
      | slEnd => exact .slEnd _ _ _ _ _
    · exact .any u
  | .fn f l1 l2, u, h => by cases h with | fn _ _ _ _ _ h1 h2 => exact .fn _ _ _ _ _ (nmL_vr l1 h1) (nmL_vr l2 h2)
  | .agg l, u, h => by cases h with | agg _ _ h1 => exact .agg _ _ (nmL_vr l h1)
  | .tup l, u, h => by cases h with | tup _ _ h1 => exact .tup _ _ (nmL_vr l h1)
  | .iface t v, u, h => by cases h with | iface _ _ _ h1 => exact .iface _ _ _ (nm_vr v h1)
  | .int .., u, h => plain_vr h rfl
  | .bool .., u, h => plain_vr h rfl
  | .flt .., u, h => plain_vr h rfl
  | .str .., u, h => plain_vr h rfl
  | .nptr, u, h => plain_vr h rfl
  | .iptr .., u, h => plain_vr h rfl
  | .nsl, u, h => plain_vr h rfl
  | .esl, u, h => plain_vr h rfl
  | .zsl _, u, h => plain_vr h rfl
  | .nan, u, h => plain_vr h rfl
  | .imm .., u, h => plain_vr h rfl
  | .nfn, u, h => plain_vr h rfl
  | .niface, u, h => plain_vr h rfl
  | .any, u, h => .any u
theorem nmL_vr {ρ : Place} {keep : List Nat} {w : World} : ∀ (l : List AV) {c : List Value}, VRs ρ w l c → VRs (ρ.renamed keep) w (nmL (posIn keep 0) l) c
  | [], c, h => by cases h; exact .nil
  | v :: l, c, h => by cases h with | cons _ u _ c' h1 h2 => exact .cons _ _ _ _ (nm_vr v h1) (nmL_vr l h2)
theorem plain_vr {ρ : Place} {keep : List Nat} {w : World} {v : AV} {u : Value} (h : VR ρ w v u) (hf : v.foreign = true) : VR (ρ.renamed keep) w v u :=
  bare_vr (ρ := ρ) (τ := ρ.renamed keep) ⟨rfl, fun _ q => q⟩ h hf
end


def reB (σ : Nat → Option Nat) : Blk → Blk
  | .vs l => .vs (nmL σ l)
  | d => d

theorem nmL_get (σ : Nat → Option Nat) : ∀ (l : List AV) (x : Nat), (nmL σ l)[x]? = (l[x]?).map (nmA σ)
  | [], x => by simp [nmL]
  | v :: l, 0 => by simp [nmL]
  | v :: l, x + 1 => by simp [nmL, nmL_get σ l x]

theorem reB_rk {σ : Nat → Option Nat} {d : Blk} (h : d.recKept) : (reB σ d).recKept := by
  cases d <;> first | exact h | trivial

theorem reB_cell {σ : Nat → Option Nat} {d : Blk} {x : Nat} {v : AV} (h : (reB σ d).cell? x = some v) (hr : d.recKept) : ∃ v', d.cell? x = some v' ∧ (v = nmA σ v' ∨ (v = v' ∧ v.foreign = true)) := by
  cases d with
  | vs l =>
    simp only [reB, Blk.cell?, nmL_get, Option.map_eq_some_iff] at h
    obtain ⟨v', h1, rfl⟩ := h
    exact ⟨v', h1, .inl rfl⟩
  | fl xs => exact ⟨v, h, .inr ⟨rfl, foreign_content (d := .fl xs) hr rfl x v h⟩⟩
  | ns k xs => exact ⟨v, h, .inr ⟨rfl, foreign_content (d := .ns k xs) hr rfl x v h⟩⟩
  | bs xs => exact ⟨v, h, .inr ⟨rfl, foreign_content (d := .bs xs) hr rfl x v h⟩⟩
  | ss xs => exact ⟨v, h, .inr ⟨rfl, foreign_content (d := .ss xs) hr rfl x v h⟩⟩
  | rows k m get => exact ⟨v, h, .inr ⟨rfl, foreign_content (d := .rows k m get) hr rfl x v h⟩⟩
  | cols m cs => exact ⟨v, h, .inr ⟨rfl, foreign_content (d := .cols m cs) hr rfl x v h⟩⟩

/-- The numbers below k, then those of R that are not below k. -/
def handL (k : Nat) (R : List Nat) : List Nat := List.range k ++ R.filter fun b => Nat.ble k b

theorem handL_get {k i : Nat} {R : List Nat} (h : i < k) : (handL k R)[i]? = some i := by
  unfold handL
  rw [List.getElem?_append_left (by simpa using h), List.getElem?_range h]

def handBlks (σ : Nat → Option Nat) (h : Heap) : List Nat → List (Option Blk)
  | [] => []
  | b :: l => (hget h b).map (reB σ) :: handBlks σ h l

theorem handBlks_get (σ : Nat → Option Nat) (h : Heap) : ∀ (l : List Nat) (i : Nat), (handBlks σ h l)[i]? = (l[i]?).map fun b => (hget h b).map (reB σ)
  | [], i => by simp [handBlks]
  | b :: l, 0 => by simp [handBlks]
  | b :: l, i + 1 => by simp [handBlks, handBlks_get σ h l i]
theorem handBlks_length (σ : Nat → Option Nat) (h : Heap) : ∀ (l : List Nat), (handBlks σ h l).length = l.length
  | [] => rfl
  | b :: l => by simp [handBlks, handBlks_length σ h l]

/-- What is handed back: all that is reached; or, where nothing was lent and all is given up, a value alone. -/
def handA (k : Nat) (keep : Bool) (h : Heap) (v : AV) : Option Out :=
  match keep, k with
  | true, 0 => some ⟨keepA (hget h) resFuel v, []⟩
  | _, _ =>
    let L := handL k (reach (hget h) resFuel (List.range k ++ ownIds v) [])
    bif nodupN L then some ⟨nmA (posIn L 0) v, handBlks (posIn L 0) h L⟩ else none

theorem handA_holds {ρ ρ0 : Place} {w0 w : World} {h : Heap} {m : Nat} {lent : List Blk} {keep : Bool} (hh : HR ρ w h m) (hN : LentPlace ρ0 w0 lent) (E : Ext ρ0 ρ w0) (hbk : ∀ i, i < lent.length → ρ.ok i → ρ0.ok i) (W : w0.heap.size ≤ w.heap.size) {v : AV} {u : Value} (hv : VR ρ w v u) {r : Out}
    (hr : handA lent.length keep h v = some r) : r.Holds ρ0 w0 w lent.length u := by
  unfold handA at hr
  split at hr
  · rename_i k hk
    cases hr
    have none_ok : ∀ b, ¬ ρ0.ok b := fun b q => by have := hN.heap.lt b q; omega
    have none_live : ∀ bl, ¬ ρ0.live bl := fun bl q => by obtain ⟨i, h1, _⟩ := hN.only bl q; exact none_ok i h1
    refine ⟨ρ0, Ext.refl _ _, fun i h => by omega, ⟨fun b d q => ?_, fun b c d e q => ?_, fun bl q => (none_live bl q).elim, fun bl q => (none_live bl q).elim, fun j bl q => ?_, fun b q => (none_ok b q).elim⟩, ?_⟩
    · simp [heapFrom, hget] at q
    · simp [heapFrom, hget] at q
    · exact Nat.lt_of_lt_of_le (hN.heap.outLt j bl q) W
    · exact keep_vr (τ := ρ0) ⟨E.out.symm, fun bl q => (none_live bl q).elim⟩ hh (fun _ _ _ _ q => none_live _ q) resFuel hv
  · simp only at hr
    generalize hL : handL lent.length (reach (hget h) resFuel (List.range lent.length ++ ownIds v) []) = L at hr
    cases hn : nodupN L with
    | false => rw [hn] at hr; cases hr
    | true =>
    rw [hn] at hr
    simp only [cond_true, Option.some.injEq] at hr; subst hr
    have idL : ∀ {i : Nat}, i < lent.length → L[i]? = some i := fun q => by rw [← hL]; exact handL_get q
    have atL : ∀ {i b : Nat}, L[i]? = some b → (ρ.renamed L).at_ i = ρ.at_ b := fun q => by simp [Place.renamed, q]
    refine ⟨ρ.renamed L, ⟨fun b q => ?_, fun b q => ?_, E.live, E.new, E.out⟩, fun i hi q => ?_, ⟨fun i d q => ?_, fun i j d e q1 q2 ok1 ok2 he => ?_, hh.fresh, hh.liveLt, hh.outLt, fun i q => ?_⟩, nm_vr v hv⟩
    · rw [atL (idL (hN.heap.lt b q))]; exact E.at_ b q
    · exact ⟨b, idL (hN.heap.lt b q), E.ok b q⟩
    · obtain ⟨b, h1, h2⟩ := q
      rw [idL hi] at h1; cases h1
      exact hbk i hi h2
    · have q := heapFrom_some q
      simp only at q
      rw [handBlks_get, Option.map_eq_some_iff] at q
      obtain ⟨b, h1, h2⟩ := q
      rw [Option.map_eq_some_iff] at h2
      obtain ⟨d0, h3, rfl⟩ := h2
      rcases hh.cell b d0 h3 with ⟨k1, k2, hr, c, t, r1, r2⟩ | ⟨k1, k2, k3, k4⟩
      · refine .inl ⟨⟨b, h1, k1⟩, by rw [atL h1]; exact k2, reB_rk hr, c, t, by rw [atL h1]; exact r1, fun x v hx => ?_⟩
        obtain ⟨v', s1, s2⟩ := reB_cell hx hr
        obtain ⟨u, t1, t2⟩ := r2 x v' s1
        refine ⟨u, t1, ?_⟩
        rcases s2 with rfl | ⟨rfl, hf⟩
        · exact nm_vr v' t2
        · exact plain_vr t2 hf
      · refine .inr ⟨?_, ?_, reB_rk k3, fun x => ?_⟩
        · rintro ⟨b', q1, q2⟩
          rw [h1] at q1; cases q1
          exact k1 q2
        · rw [handBlks_length]; exact (List.getElem?_eq_some_iff.1 h1).1
        · cases hc : (reB (posIn L 0) d0).cell? x with
          | none => rfl
          | some v => obtain ⟨v', s1, _⟩ := reB_cell hc k3; rw [k4 x] at s1; cases s1
    · obtain ⟨b, r1, r2⟩ := ok1
      obtain ⟨c, r3, r4⟩ := ok2
      have q1 := heapFrom_some q1
      have q2 := heapFrom_some q2
      simp only at q1 q2
      rw [handBlks_get, r1] at q1
      rw [handBlks_get, r3] at q2
      simp only [Option.map_some, Option.some.injEq, Option.map_eq_some_iff] at q1 q2
      obtain ⟨d1, s1, _⟩ := q1
      obtain ⟨d2, s2, _⟩ := q2
      rw [atL r1, atL r3] at he
      have := hh.inj b c d1 d2 s1 s2 r2 r4 he
      subst this
      exact nodupN_get hn r1 r3
    · obtain ⟨b, r1, _⟩ := q
      simp only [handBlks_length]
      exact (List.getElem?_eq_some_iff.1 r1).1

/-- How a piece of code is left. -/
inductive AE where
  | normal
  | ret
  | exit (id : Nat)

def AE.real : AE → Exit
  | .normal => .normal
  | .ret => .ret
  | .exit id => .exit id

abbrev Res := Option (AE × ASt × List Bool × Path)
abbrev CodeRun := Code → ASt → Path → Res

def runRegion (C : Ctx) (run : CallRun) (ops : Array Oper) (draw : Bool) (st : ASt) (p : Path) : Res :=
  match draw with
  | false =>
    match runOps C run ops st.next 0 ops.toList st.tmps st.heap p with
    | some (T, h, obs, p') => some (.normal, ⟨T, h, st.next + ops.size * STR⟩, obs, p')
    | none => none
  | true =>
    match runRec C run ops st.next 0 ops.toList st.tmps st.heap p with
    | some (rs, T, h, obs, p') => bif drawOk ops [] [] (ops.toList.zip rs) then some (.normal, ⟨T, h, st.next + ops.size * STR⟩, obs, p') else none
    | none => none

def setKnown (T : List AV) (c : Operand) (b : Bool) : List AV :=
  match c with
  | .tmp t => T.set t (.bool true b)
  | _ => T

def loopRun (body : ASt → Path → Res) : Nat → ASt → Path → Res
  | 0, _, _ => none
  | n + 1, st, p =>
    match body st p with
    | some (.normal, st1, o1, p1) =>
      match loopRun body n st1 p1 with
      | some (e, st2, o2, p2) => some (e, st2, o1 ++ o2, p2)
      | none => none
    | r => r

def stepCode (C : Ctx) (run : CallRun) (N : Nat) (self : CodeRun) (c : Code) (st : ASt) (p : Path) : Res :=
  match c with
  | .skip | .label _ => some (.normal, st, [], p)
  | .region _ ops draw => runRegion C run ops draw st p
  | .seq a b =>
    match self a st p with
    | some (.normal, st1, o1, p1) =>
      match self b st1 p1 with
      | some (e, st2, o2, p2) => some (e, st2, o1 ++ o2, p2)
      | none => none
    | r => r
  | .cond c a b =>
    match decideA (evA st.tmps c) p with
    | some (x, o1, p1) =>
      match self (match x with | true => a | false => b) { st with tmps := setKnown st.tmps c x } p1 with
      | some (e, st2, o2, p2) => some (e, st2, o1 ++ o2, p2)
      | none => none
    | none => none
  | .block id b =>
    match self b st p with
    | some (.exit id', st1, o1, p1) => bif Nat.beq id' id then some (.normal, st1, o1, p1) else some (.exit id', st1, o1, p1)
    | r => r
  | .loop b => loopRun (self b) N st p
  | .exit id => some (.exit id, st, [], p)
  | .ret => some (.ret, st, [], p)
  | .scope b => self b st p
  | _ => none

/-- One way that a function goes, of those that were proved, with its condition. -/
structure EAlt where
  out : Out
  obs : List Bool

def pickE (alts : List EAlt) (p : Path) : Option (EAlt × Path) :=
  match alts, p with
  | [a], p => some (a, p)
  | alts, none => (alts.find? fun a => allB a.obs).map fun a => (a, none)
  | alts, some (k :: r) => (alts[k]?).map fun a => (a, some r)
  | _, _ => none

theorem pickE_mem {alts : List EAlt} {p p' : Path} {a : EAlt} (h : pickE alts p = some (a, p')) : a ∈ alts := by
  unfold pickE at h
  split at h
  · simp only [Option.some.injEq, Prod.mk.injEq] at h; rw [← h.1]; simp
  · simp only [Option.map_eq_some_iff, Prod.mk.injEq] at h; obtain ⟨b, h1, rfl, _⟩ := h; exact List.mem_of_find?_eq_some h1
  · simp only [Option.map_eq_some_iff, Prod.mk.injEq] at h; obtain ⟨b, h1, rfl, _⟩ := h; exact List.mem_of_getElem? h1
  · cases h

/-- What was proved of functions: the ways, each with its condition. -/
abbrev Sums := FuncId → List Blk → List AV → Option (List EAlt)

def resultsA (P : Program) (fn : Func) (st : ASt) : List ResultVar → Option (List AV × List Bool)
  | [] => some ([], [])
  | .tmp t :: l =>
    match resultsA P fn st l with
    | some (vs, o) => some ((st.tmps[t]?).getD .any :: vs, o)
    | none => none
  | .cell a t :: l =>
    match loadA P (hget st.heap) t ((st.tmps[a]?).getD .any), resultsA P fn st l with
    | some (v, o, _), some (vs, o') => some (v :: vs, o ++ o')
    | _, _ => none

def oneRes : List AV → AV
  | [v] => v
  | vs => .tup vs

/-- A function's state at its entry. -/
def entryOf (fn : Func) (lent : List Blk) (args : List AV) : ASt := ⟨args ++ List.replicate (fn.ntmps - args.length) (.tup []), heapFrom 0 (lent.map some), lent.length⟩

def fnRun (C : Ctx) (S : Sums) (self : CodeRun) : CallRun := fun f lent args p =>
  match S f lent args with
  | some alts => (pickE alts p).map fun r => (r.1.out, r.1.obs, r.2)
  | none =>
    match C.P.funcs[f]? with
    | some fn =>
      match fn.body with
      | some c =>
        match self c (entryOf fn lent args) p with
        | some (e, st, o1, p1) =>
          match e, resultsA C.P fn st fn.results.toList with
          | .exit _, _ => none
          | _, some (vs, o2) =>
            match handA lent.length (C.mode f).keep st.heap (oneRes vs) with
            | some r => some (r, o1 ++ o2, p1)
            | none => none
          | _, none => none
        | none => none
      | none => none
    | none => none

/-- Code, to a depth. N: rounds of a loop at most. -/
def runCode (C : Ctx) (S : Sums) (N : Nat) : Nat → CodeRun
  | 0 => fun _ _ _ => none
  | n + 1 => stepCode C (fnRun C S (runCode C S N n)) N (runCode C S N n)

end Go.Plb

/-
  ENGINE, PART 21: what is run stands for what the model does.
-/
namespace Go.Plb
set_option linter.unusedSimpArgs false
set_option linter.unusedVariables false

/-- A contract: with such blocks lent to be turned, on such arguments, the function hands back such a value and such blocks; nothing else that was there has turned. -/
def Contract (P : Program) (f : FuncId) (lent : List Blk) (args : List AV) (r : Out) : Prop :=
  ∀ (ρ : Place) (w : World) (us : List Value), LentPlace ρ w lent → VRs ρ w args us →
    (∃ fn, P.funcs[f]? = some fn ∧ fn.body.isSome = true) ∧ Calls P f us.toArray w fun e w' => ∃ u, e = .returned u ∧ WLe ρ.live w w' ∧ r.Holds ρ w w' lent.length u

def SumsOk (P : Program) (S : Sums) : Prop := ∀ f lent args alts a, S f lent args = some alts → a ∈ alts → allTrue a.obs → Contract P f lent args a.out

def CodeOk (P : Program) (self : CodeRun) : Prop :=
  ∀ c st p e st' obs p', self c st p = some (e, st', obs, p') → allTrue obs → ∀ (ρ : Place) (a : Act) (w : World) (Q : Exit → Act → World → Prop), SR ρ st a w →
    (∀ ρ' a' w', Post ρ w st.next st' ρ' a' w' → Q e.real a' w') → c.wp P Q a w

theorem Post.trans {ρ ρ1 ρ2 : Place} {w w1 w2 : World} {n : Nat} {st1 st2 : ASt} {a1 a2 : Act} (h : Post ρ w n st1 ρ1 a1 w1) (k : Post ρ1 w1 st1.next st2 ρ2 a2 w2) : Post ρ w n st2 ρ2 a2 w2 :=
  ⟨h.ext.trans k.ext h.wle.size, h.wle.trans k.wle (fun x hx q => h.ext.new x hx q), k.sr, Nat.le_trans h.le k.le, fun b q => by
    rcases k.back b q with q | q
    · exact h.back b q
    · exact .inr (Nat.le_trans h.le q)⟩

theorem Post.refl {ρ : Place} {w : World} {st : ASt} {a : Act} (h : SR ρ st a w) : Post ρ w st.next st ρ a w := ⟨Ext.refl _ _, WLe.refl _ _, h, Nat.le_refl _, fun b q => .inl q⟩

theorem range'_eq (n : Nat) : List.range n = List.range' 0 n := List.range_eq_range'

theorem runRegion_ok {C : Ctx} (hC : C.Ok) {run : CallRun} (hrun : RunOk C.P run) {id : Nat} {ops : Array Oper} {draw : Bool} {st st' : ASt} {p p' : Path} {e : AE} {obs : List Bool} (h : runRegion C run ops draw st p = some (e, st', obs, p'))
    (ho : allTrue obs) {ρ : Place} {a : Act} {w : World} {Q : Exit → Act → World → Prop} (hs : SR ρ st a w) (hQ : ∀ ρ' a' w', Post ρ w st.next st' ρ' a' w' → Q e.real a' w') : (Code.region id ops draw).wp C.P Q a w := by
  unfold runRegion at h
  cases draw with
  | false =>
    simp only at h
    split at h
    case h_2 => cases h
    rename_i T hp obs' p1 hr
    simp only [Option.some.injEq, Prod.mk.injEq] at h; obtain ⟨rfl, rfl, rfl, rfl⟩ := h
    refine wp_region ?_
    rw [range'_eq, ← Array.length_toList]
    refine runOps_sound hC hrun ops.toList 0 (fun j => by simp) hr ho (hs.heap.le (by omega)) (fun b hb => by have := hs.heap.lt b hb; omega) hs.defers hs.tmps ?_
    intro ρ' w' a' E W hh hd hT hb
    exact hQ ρ' a' w' ⟨E, W, ⟨hd, hT, hh⟩, Nat.le_add_right _ _, hb⟩
  | true =>
    simp only at h
    split at h
    case h_2 => cases h
    rename_i rs T hp obs' p1 hr
    cases hd : drawOk ops [] [] (ops.toList.zip rs) with
    | false => rw [hd] at h; cases h
    | true =>
      rw [hd] at h
      simp only [cond_true, Option.some.injEq, Prod.mk.injEq] at h; obtain ⟨rfl, rfl, rfl, rfl⟩ := h
      obtain ⟨s1, s2, s3⟩ := runRec_spec _ _ hr ho
      obtain ⟨ms, D⟩ := drawOk_spec (ops.toList.zip rs) [] [] rfl hd ⟨fun j x hx => by simp at hx, fun j x hx => by simp at hx, fun i j x y hx => by simp at hx⟩
      rw [List.nil_append] at D
      refine wp_region_any hC.mixed ?_
      have W0 := WLe.drawn ρ.live w (w.drawn + 1)
      have E0 := Ext.refl ρ w
      have notL : ∀ i, (Array.replicate ops.size false).getD i false = false := by
        intro i; rw [Array.getD_eq_getD_getElem?]
        cases hq : (Array.replicate ops.size false)[i]? with
        | none => rfl
        | some b => rw [Array.getElem?_replicate] at hq; split at hq <;> simp_all
      have a0 : ∀ (l : List (Oper × Rec)) (i : Nat) (s : List AV × Heap), appl (fun i => (Array.replicate ops.size false).getD i false) i l s = s := by
        intro l
        induction l with
        | nil => intro _ _; rfl
        | cons x l ih => intro i s; simp only [appl]; rw [notL i]; exact ih _ _
      refine draw_any hC hrun D (by rw [s1]; simp) (fun j o hj => by have := s3 j o hj; rw [Nat.zero_add] at this; exact this) ops.size (Array.replicate ops.size false) (by simp) (fun j o _ hl => by rw [notL] at hl; cases hl)
        (by have := List.countP_le_length (p := fun i => !(Array.replicate ops.size false).getD i false) (l := List.range ops.size); simpa using this) (ρ := ρ) (a := a) ?_ ?_ hs.defers ?_ ?_
      · rw [a0]; exact (hs.heap.le (by omega)).drawn _
      · intro b hb; have := hs.heap.lt b hb; exact .inl this
      · rw [a0]; exact hs.tmps.mono E0 W0
      · intro ρ' w' a' E W hh hd' hT hb
        rw [s2] at hh hT
        exact hQ ρ' a' w' ⟨⟨E.at_, E.ok, E.live, fun b hb => E.new b hb, E.out⟩, W0.trans W (fun _ _ q => q), ⟨hd', hT, hh⟩, Nat.le_add_right _ _, hb⟩

theorem loopRun_ok {C : Ctx} {body : ASt → Path → Res} {b : Code} (hb : ∀ st p e st' obs p', body st p = some (e, st', obs, p') → allTrue obs → ∀ (ρ : Place) (a : Act) (w : World) (Q : Exit → Act → World → Prop), SR ρ st a w →
    (∀ ρ' a' w', Post ρ w st.next st' ρ' a' w' → Q e.real a' w') → b.wp C.P Q a w) : ∀ (n : Nat) (st : ASt) (p : Path) (e : AE) (st' : ASt) (obs : List Bool) (p' : Path), loopRun body n st p = some (e, st', obs, p') → allTrue obs →
    ∀ (ρ : Place) (a : Act) (w : World) (Q : Exit → Act → World → Prop), SR ρ st a w → (∀ ρ' a' w', Post ρ w st.next st' ρ' a' w' → Q e.real a' w') → Code.rounds C.P b Q n a w
  | 0, st, p, e, st', obs, p', h, _, _, _, _, _, _, _ => by cases h
  | n + 1, st, p, e, st', obs, p', h, ho, ρ, a, w, Q, hs, hQ => by
    simp only [loopRun] at h
    rw [rounds_succ]
    split at h
    · rename_i st1 o1 p1 h1
      split at h
      case h_2 => cases h
      rename_i e2 st2 o2 p2 h2
      simp only [Option.some.injEq, Prod.mk.injEq] at h; obtain ⟨rfl, rfl, rfl, rfl⟩ := h
      rw [allTrue_append] at ho
      refine hb st p _ _ _ _ h1 ho.1 ρ a w _ hs fun ρ1 a1 w1 P1 => ?_
      exact loopRun_ok hb n st1 p1 _ _ _ _ h2 ho.2 ρ1 a1 w1 Q P1.sr fun ρ2 a2 w2 P2 => hQ ρ2 a2 w2 (P1.trans P2)
    · rename_i hne
      refine hb st p _ _ _ _ h ho ρ a w _ hs fun ρ1 a1 w1 P1 => ?_
      have := hQ ρ1 a1 w1 P1
      cases e with
      | normal => exact (hne _ _ _ h).elim
      | ret => exact this
      | exit id => exact this

theorem stepCode_ok {C : Ctx} (hC : C.Ok) {run : CallRun} (hrun : RunOk C.P run) {N : Nat} {self : CodeRun} (hself : CodeOk C.P self) : CodeOk C.P (stepCode C run N self) := by
  intro c st p e st' obs p' h ho ρ a w Q hs hQ
  unfold stepCode at h
  split at h
  · simp only [Option.some.injEq, Prod.mk.injEq] at h; obtain ⟨rfl, rfl, rfl, rfl⟩ := h
    exact wp_skip (hQ ρ a w (Post.refl hs))
  · simp only [Option.some.injEq, Prod.mk.injEq] at h; obtain ⟨rfl, rfl, rfl, rfl⟩ := h
    exact wp_label (hQ ρ a w (Post.refl hs))
  · exact runRegion_ok hC hrun h ho hs hQ
  · rename_i x y
    refine wp_seq ?_
    split at h
    · rename_i st1 o1 p1 h1
      split at h
      case h_2 => cases h
      rename_i e2 st2 o2 p2 h2
      simp only [Option.some.injEq, Prod.mk.injEq] at h; obtain ⟨rfl, rfl, rfl, rfl⟩ := h
      rw [allTrue_append] at ho
      refine hself x st p _ _ _ _ h1 ho.1 ρ a w _ hs fun ρ1 a1 w1 P1 => ?_
      exact hself y st1 p1 _ _ _ _ h2 ho.2 ρ1 a1 w1 Q P1.sr fun ρ2 a2 w2 P2 => hQ ρ2 a2 w2 (P1.trans P2)
    · rename_i hne
      refine hself x st p _ _ _ _ h ho ρ a w _ hs fun ρ1 a1 w1 P1 => ?_
      have := hQ ρ1 a1 w1 P1
      cases e with
      | normal => exact (hne _ _ _ h).elim
      | ret => exact this
      | exit id => exact this
  · rename_i cc x y
    split at h
    case h_2 => cases h
    rename_i b o1 p1 h1
    split at h
    case h_2 => cases h
    rename_i e2 st2 o2 p2 h2
    simp only [Option.some.injEq, Prod.mk.injEq] at h; obtain ⟨rfl, rfl, rfl, rfl⟩ := h
    rw [allTrue_append] at ho
    have hb := decideA_vr (evA_vr hs.tmps cc) h1 ho.1
    refine wp_cond hb ?_
    have hs' : SR ρ { st with tmps := setKnown st.tmps cc b } a w := by
      refine ⟨hs.defers, ?_, hs.heap⟩
      cases cc with
      | tmp t =>
        simp only [setKnown]
        have : VRs ρ w (st.tmps.set t (.bool true b)) (a.tmps.toList.set t (.bool b)) := hs.tmps.set (.bool _ _) t
        have e : a.tmps.toList.set t (.bool b) = a.tmps.toList := by
          apply List.ext_getElem?
          intro j
          rw [List.getElem?_set]
          split
          · rename_i q; subst q
            split
            · rename_i hlt
              simp only [Act.eval] at hb
              rw [Array.getD_eq_getD_getElem?] at hb
              have hlt' : t < a.tmps.size := by simpa using hlt
              rw [Array.getElem?_eq_getElem hlt'] at hb
              simp only [Option.getD_some] at hb
              simp [hlt', hb]
            · rename_i hge
              rw [List.getElem?_eq_none (by omega)]
          · rfl
        rw [e] at this; exact this
      | const v => exact hs.tmps
      | global g => exact hs.tmps
      | func f => exact hs.tmps
    have := hself _ _ p1 _ _ _ _ h2 ho.2 ρ a w Q hs' hQ
    cases b <;> exact this
  · rename_i id b
    refine wp_block ?_
    split at h
    · rename_i id' st1 o1 p1 h1
      cases hid : Nat.beq id' id with
      | true =>
        rw [hid] at h
        simp only [cond_true, Option.some.injEq, Prod.mk.injEq] at h; obtain ⟨rfl, rfl, rfl, rfl⟩ := h
        refine hself b st p _ _ _ _ h1 ho ρ a w _ hs fun ρ1 a1 w1 P1 => ?_
        simp only [AE.real, Exit.inBlock, Nat.eq_of_beq_eq_true hid, if_true]
        exact hQ ρ1 a1 w1 P1
      | false =>
        rw [hid] at h
        simp only [cond_false, Option.some.injEq, Prod.mk.injEq] at h; obtain ⟨rfl, rfl, rfl, rfl⟩ := h
        refine hself b st p _ _ _ _ h1 ho ρ a w _ hs fun ρ1 a1 w1 P1 => ?_
        have hne : ¬ id' = id := fun e => by subst e; simp [beq_tt] at hid
        simp only [AE.real, Exit.inBlock, hne, if_false]
        exact hQ ρ1 a1 w1 P1
    · rename_i hne
      refine hself b st p _ _ _ _ h ho ρ a w _ hs fun ρ1 a1 w1 P1 => ?_
      have := hQ ρ1 a1 w1 P1
      cases e with
      | normal => exact this
      | ret => exact this
      | exit id => exact (hne _ _ _ _ h).elim
  · rename_i b
    exact wp_loop_rounds N (loopRun_ok (C := C) (b := b) (fun st p e st' obs p' h1 h2 => hself b st p e st' obs p' h1 h2) N st p e st' obs p' h ho ρ a w Q hs hQ)
  · simp only [Option.some.injEq, Prod.mk.injEq] at h; obtain ⟨rfl, rfl, rfl, rfl⟩ := h
    exact wp_exit (hQ ρ a w (Post.refl hs))
  · simp only [Option.some.injEq, Prod.mk.injEq] at h; obtain ⟨rfl, rfl, rfl, rfl⟩ := h
    exact wp_ret (hQ ρ a w (Post.refl hs))
  · rename_i b
    refine wp_scope_straight (hself b st p _ _ _ _ h ho ρ a w _ hs fun ρ1 a1 w1 P1 => ?_)
    have := hQ ρ1 a1 w1 P1
    cases e <;> exact this
  · cases h

end Go.Plb

/-
  ENGINE, PART 22: functions.
-/
namespace Go.Plb
set_option linter.unusedSimpArgs false
set_option linter.unusedVariables false

theorem asAddr_of_sure {P : Program} {w : World} {t : TypeId} {x : Value} {u : Value} (hx : ∃ a, x = .pointer (some a)) (h : (Instr.loadAt t x).run P w = .ok u w) : (do loadVar t (← asAddr x) : Sem Value).run P w = .ok u w := by
  obtain ⟨a, rfl⟩ := hx
  simpa [Instr.loadAt, Instr.sureAddr, asAddr] using h

/-- One result. -/
def resOne (tmps : Array Value) : ResultVar → Sem Value
  | .tmp t => pure (tmps.getD t undef)
  | .cell x t => do loadVar t (← asAddr (tmps.getD x undef))

theorem results_eq (fn : Func) (tmps : Array Value) : results fn tmps = (do let vs ← fn.results.mapM (resOne tmps); pure (if h : vs.size = 1 then vs[0] else .tuple vs)) := by
  unfold results
  congr 1

theorem resultsA_ok {P : Program} {fn : Func} {st : ASt} {ρ : Place} {a : Act} {w : World} (hs : SR ρ st a w) : ∀ (l : List ResultVar) {vs : List AV} {obs : List Bool}, resultsA P fn st l = some (vs, obs) → allTrue obs →
    ∃ us : List Value, (l.mapM (resOne a.tmps)).run P w = .ok us w ∧ VRs ρ w vs us
  | [], vs, obs, h, ho => by
    simp only [resultsA, Option.some.injEq, Prod.mk.injEq] at h; obtain ⟨rfl, rfl⟩ := h
    exact ⟨[], by simp, .nil⟩
  | .tmp t :: l, vs, obs, h, ho => by
    simp only [resultsA] at h
    split at h
    case h_2 => cases h
    rename_i vs' o' h1
    simp only [Option.some.injEq, Prod.mk.injEq] at h; obtain ⟨rfl, rfl⟩ := h
    obtain ⟨us, q1, q2⟩ := resultsA_ok hs l h1 ho
    refine ⟨a.tmps.getD t undef :: us, ?_, .cons _ _ _ _ (evA_vr hs.tmps (.tmp t)) q2⟩
    simp only [List.mapM_cons, resOne, Sem.run_bind, Sem.run_pure, Result.andThen_ok, q1]
  | .cell x t :: l, vs, obs, h, ho => by
    simp only [resultsA] at h
    split at h
    case h_2 => cases h
    rename_i v o rs vs' o' h1 h2
    simp only [Option.some.injEq, Prod.mk.injEq] at h; obtain ⟨rfl, rfl⟩ := h
    rw [allTrue_append] at ho
    obtain ⟨us, q1, q2⟩ := resultsA_ok hs l h2 ho.2
    have hv := evA_vr hs.tmps (.tmp x)
    simp only [evA, Act.eval] at hv
    obtain ⟨u, r1, r2⟩ := loadA_plain (P := P) hs.heap hv h1 ho.1
    have hp : ∃ ad, a.tmps.getD x undef = .pointer (some ad) := by
      generalize a.tmps.getD x undef = z at hv
      unfold loadA at h1
      simp only at h1
      split at h1
      · rename_i e; rw [e] at hv; cases hv; exact ⟨_, rfl⟩
      · rename_i e; rw [e] at hv; cases hv; exact ⟨_, rfl⟩
      · cases h1
    have := asAddr_of_sure hp r1
    refine ⟨u :: us, ?_, .cons _ _ _ _ r2 q2⟩
    simp only [List.mapM_cons, resOne, Sem.run_bind] at this ⊢
    rw [this]
    simp only [Result.andThen_ok, Sem.run_bind, q1, Sem.run_pure]

theorem results_run {P : Program} {fn : Func} {st : ASt} {ρ : Place} {a : Act} {w : World} (hs : SR ρ st a w) {vs : List AV} {obs : List Bool} (h : resultsA P fn st fn.results.toList = some (vs, obs)) (ho : allTrue obs) :
    ∃ v, (results fn a.tmps).run P w = .ok v w ∧ VR ρ w (oneRes vs) v := by
  obtain ⟨us, q1, q2⟩ := resultsA_ok hs fn.results.toList h ho
  have hl := q2.length
  have hm : (fn.results.mapM (resOne a.tmps)).run P w = .ok us.toArray w := by
    rw [Array.mapM_eq_mapM_toList, map_eq_pure_bind, Sem.run_bind, q1, Result.andThen_ok, Sem.run_pure]
  rw [results_eq, Sem.run_bind, hm, Result.andThen_ok]
  match vs, us, q2, hl with
  | [], [], q2, _ => exact ⟨.tuple #[], rfl, .tup _ _ .nil⟩
  | [v], [u], q2, _ => cases q2 with | cons _ _ _ _ h1 _ => exact ⟨u, rfl, h1⟩
  | v :: v' :: vs, u :: u' :: us, q2, _ =>
    refine ⟨.tuple (u :: u' :: us).toArray, ?_, .tup _ _ q2⟩
    simp

/-- A function's contract out of a run of its text. -/
theorem contract_of_wp {P : Program} {f : FuncId} {fn : Func} {c : Code} (hf : P.funcs[f]? = some fn) (hc : fn.body = some c) {lent : List Blk} {args : List AV} {r : Out} {keep : Bool}
    (h : ∀ (ρ : Place) (w : World) (a : Act), LentPlace ρ w lent → SR ρ (entryOf fn lent args) a w →
      c.wp P (fun e a' w' => (e = .normal ∨ e = .ret) ∧ ∃ ρ' st' vs obs, Ext ρ ρ' w ∧ WLe ρ.live w w' ∧ (∀ i, i < lent.length → ρ'.ok i → ρ.ok i) ∧ SR ρ' st' a' w' ∧ resultsA P fn st' fn.results.toList = some (vs, obs) ∧ allTrue obs ∧ handA lent.length keep st'.heap (oneRes vs) = some r) a w) : Contract P f lent args r := by
  intro ρ w us hN hv
  refine ⟨⟨fn, hf, by rw [hc]; rfl⟩, ?_⟩
  refine calls_of_wp hf hc ?_
  have hlen := hv.length
  have hs : SR ρ (entryOf fn lent args) { tmps := us.toArray ++ Array.replicate (fn.ntmps - us.toArray.size) undef, defers := [] } w := by
    refine ⟨rfl, ?_, hN.heap⟩
    simp only [entryOf, Array.toList_append, Array.toList_replicate, List.size_toArray, hlen]
    refine VRs.append ?_ hv
    have : ∀ n, VRs ρ w (List.replicate n (.tup [])) (List.replicate n undef) := by
      intro n
      induction n with
      | zero => exact .nil
      | succ n ih => exact .cons _ _ _ _ (.tup [] #[] .nil) ih
    exact this _
  refine wp_mono (h ρ w _ hN hs) ?_
  rintro e a' w' ⟨he, ρ', st', vs, obs, E, W, hbk, S, hr, hob, hkeep⟩
  have fin : a'.defers = [] ∧ ∃ v, (results fn a'.tmps).run P w' = .ok v w' ∧ ∃ u, Ending.returned v = .returned u ∧ WLe ρ.live w w' ∧ r.Holds ρ w w' lent.length u := by
    refine ⟨S.defers, ?_⟩
    obtain ⟨v, q1, q2⟩ := results_run S hr hob
    exact ⟨v, q1, v, rfl, W, handA_holds S.heap hN E hbk W.size q2 hkeep⟩
  rcases he with rfl | rfl
  · exact fin
  · exact fin

theorem fnRun_ok {C : Ctx} {S : Sums} (hS : SumsOk C.P S) {self : CodeRun} (hself : CodeOk C.P self) : RunOk C.P (fnRun C S self) := by
  intro f lent args p r obs p' h ho
  unfold fnRun at h
  split at h
  · rename_i alts hs
    simp only [Option.map_eq_some_iff, Prod.mk.injEq] at h
    obtain ⟨⟨alt, q⟩, h1, rfl, rfl, rfl⟩ := h
    exact hS f lent args alts alt hs (pickE_mem h1) ho
  · split at h
    case h_2 => cases h
    rename_i fn hf
    split at h
    case h_2 => cases h
    rename_i c hc
    split at h
    case h_2 => cases h
    rename_i e st o1 p1 hr
    cases hres : resultsA C.P fn st fn.results.toList with
    | none => rw [hres] at h; cases e <;> cases h
    | some x =>
      obtain ⟨vs, o2⟩ := x
      rw [hres] at h
      have key : ∀ (he : e = .normal ∨ e = .ret), (match handA lent.length (C.mode f).keep st.heap (oneRes vs) with | some r => some (r, o1 ++ o2, p1) | none => none) = some (r, obs, p') → Contract C.P f lent args r := by
        intro he h
        split at h
        case h_2 => cases h
        rename_i r' hk
        simp only [Option.some.injEq, Prod.mk.injEq] at h; obtain ⟨rfl, rfl, rfl⟩ := h
        rw [allTrue_append] at ho
        refine contract_of_wp (keep := (C.mode f).keep) hf hc fun ρ w a hN hs => ?_
        refine hself c _ p e st o1 p1 hr ho.1 ρ a w _ hs fun ρ' a' w' P1 => ⟨?_, ρ', st, vs, o2, P1.ext, P1.wle, fun i hi q => ?_, P1.sr, hres, ho.2, hk⟩
        · rcases he with rfl | rfl
          · exact .inl rfl
          · exact .inr rfl
        · rcases P1.back i q with q | q
          · exact q
          · simp only [entryOf] at q; omega
      cases e with
      | normal => exact key (.inl rfl) h
      | ret => exact key (.inr rfl) h
      | exit id => cases h

theorem runCode_ok {C : Ctx} (hC : C.Ok) {S : Sums} (hS : SumsOk C.P S) (N : Nat) : ∀ n, CodeOk C.P (runCode C S N n)
  | 0 => fun c st p e st' obs p' h => by cases h
  | n + 1 => stepCode_ok hC (fnRun_ok hS (runCode_ok hC hS N n)) (runCode_ok hC hS N n)

/-- A contract, by running the function's text to some depth. -/
theorem contract_of_run {C : Ctx} (hC : C.Ok) {S : Sums} (hS : SumsOk C.P S) (N n : Nat) {f : FuncId} {lent : List Blk} {args : List AV} {p p' : Path} {r : Out} {obs : List Bool} (h : fnRun C S (runCode C S N n) f lent args p = some (r, obs, p')) (ho : allTrue obs) :
    Contract C.P f lent args r := fnRun_ok hS (runCode_ok hC hS N n) f lent args p r obs p' h ho

end Go.Plb

/-
  ENGINE, PART 23: that a program's context is so.
-/
namespace Go.Plb
set_option linter.unusedSimpArgs false
set_option linter.unusedVariables false

def extLook : List (Nat × Ext1) → Nat → Option Ext1
  | [], _ => none
  | (k, e) :: l, f => bif Nat.beq k f then some e else extLook l f

def modeLook : List (Nat × Mode) → Nat → Mode
  | [], _ => ⟨[], false⟩
  | (k, m) :: l, f => bif Nat.beq k f then m else modeLook l f

def ctxOf (P : Program) (l : List (Nat × Ext1)) (ms : List (Nat × Mode)) : Ctx := { P, ext := extLook l, mode := modeLook ms, wrap := false }

theorem extLook_mem : ∀ {l : List (Nat × Ext1)} {f : Nat} {k : Ext1}, extLook l f = some k → (f, k) ∈ l
  | [], f, k, h => by cases h
  | (a, e) :: l, f, k, h => by
    simp only [extLook] at h
    cases hb : Nat.beq a f with
    | true => rw [hb] at h; simp only [cond_true, Option.some.injEq] at h; have := Nat.eq_of_beq_eq_true hb; subst this; subst h; simp
    | false => rw [hb] at h; simp only [cond_false] at h; exact List.mem_cons_of_mem _ (extLook_mem h)

structure IsExt (P : Program) (f : Nat) (k : Ext1) : Prop where
  fn : ∃ fn, P.funcs[f]? = some fn ∧ (fn.name == "runtime.NumGoroutine") = false ∧ fn.body.isNone = true ∧ Extern.findNext fn = none ∧ Extern.find fn = some (extSem k)

def namesOk (P : Program) : Bool := P.funcs.toList.all fun fn => !(fn.name == "runtime.NumGoroutine")

theorem ctxOf_ok {P : Program} {l : List (Nat × Ext1)} {ms : List (Nat × Mode)} (hm : P.follows .mixedOrders = true) (hn : namesOk P = true) (he : ∀ x ∈ l, IsExt P x.1 x.2) : (ctxOf P l ms).Ok := by
  refine ⟨hm, fun f fn args w hf hb => ?_, fun f k args w hk => ?_⟩
  · have h1 : fn.name ≠ "runtime.NumGoroutine" := by
      have hmem : fn ∈ P.funcs.toList := by
        have : fn ∈ P.funcs := Array.mem_of_getElem? hf
        simpa using this
      have := List.all_eq_true.1 hn fn hmem
      simpa using this
    have h2 : fn.body ≠ none := by intro q; rw [q] at hb; cases hb
    have hf' : P.funcs[f]? = some fn := hf
    have h3 : fn.body.isNone = false := by cases hq : fn.body <;> simp_all
    simp only [ctxOf, callFunc, Sem.run_bind, run_program, Result.andThen_ok, hf', beq_eq_false_iff_ne.2 h1, Bool.false_eq_true, if_false, h3, Sem.run_pure]
  · obtain ⟨fn, h1, h2, h3, h4, h5⟩ := (he _ (extLook_mem hk)).fn
    have := run_callFunc_extern (P := P) h1 h2 h3 h4 h5 args w
    simp only [ctxOf]
    rw [this, Sem.run_bind]
    rfl

end Go.Plb

/-
  ENGINE, PART 24: triples; states made plain; loops by their invariants.
-/
namespace Go.Plb
set_option linter.unusedSimpArgs false
set_option linter.unusedVariables false

/-- The state stands, seen from the function's entry. -/
def At (k : Nat) (ρ0 : Place) (w0 : World) (st : ASt) (a : Act) (w : World) : Prop := ∃ ρ, Ext ρ0 ρ w0 ∧ WLe ρ0.live w0 w ∧ SR ρ st a w ∧ (∀ i, i < k → ρ.ok i → ρ0.ok i) ∧ k ≤ st.next

def Sub (lent : List Blk) (st st' : ASt) : Prop := ∀ ρ0 w0 a w, LentPlace ρ0 w0 lent → At lent.length ρ0 w0 st a w → At lent.length ρ0 w0 st' a w

theorem Sub.refl (lent : List Blk) (st : ASt) : Sub lent st st := fun _ _ _ _ _ h => h
theorem Sub.trans {lent : List Blk} {a b c : ASt} (h : Sub lent a b) (k : Sub lent b c) : Sub lent a c := fun _ _ _ _ hN q => k _ _ _ _ hN (h _ _ _ _ hN q)

def loose : AV → AV
  | .flt _ x => .flt false x
  | .bool _ b => .bool false b
  | v => v

def nmB (σ : Nat → Option Nat) : Blk → Blk
  | .vs l => .vs ((nmL σ l).map loose)
  | d => d

def nmHeap (σ : Nat → Option Nat) (h : Heap) : Nat → List Nat → Heap
  | _, [] => []
  | i, b :: l => match hget h b with
    | some d => (i, nmB σ d) :: nmHeap σ h (i + 1) l
    | none => nmHeap σ h (i + 1) l

/-- One of two; not 'cond', lest the kernel weigh its parts. -/
def selAV (b : Bool) (v u : AV) : AV :=
  match b with
  | true => v
  | false => u
def lookS : List (Nat × AV) → Nat → AV
  | [], _ => .any
  | (k, v) :: l, t => selAV (Nat.beq k t) v (lookS l t)
/-- The slots of a frame. -/
def slotsFrom (L : List (Nat × AV)) : Nat → Nat → List AV
  | _, 0 => []
  | t, n + 1 => lookS L t :: slotsFrom L (t + 1) n

def slots (n : Nat) (L : List (Nat × AV)) : List AV := slotsFrom L 0 n

def nmT (σ : Nat → Option Nat) (ks : List Nat) : Nat → List AV → List AV
  | _, [] => []
  | t, v :: l => (bif hasNat ks t then loose (nmA σ v) else .any) :: nmT σ ks (t + 1) l

/-- A state with these blocks, named 0, 1, ..., and these slots; the rest is forgotten. -/
def norm (keep ks : List Nat) (st : ASt) : ASt :=
  ⟨nmT (posIn keep 0) ks 0 st.tmps, nmHeap (posIn keep 0) st.heap 0 keep, keep.length⟩

theorem loose_vr {ρ : Place} {w : World} {v : AV} {u : Value} (h : VR ρ w v u) : VR ρ w (loose v) u := by
  cases h <;> simp only [loose] <;> first | exact .bool _ _ | (rename_i hf; refine .flt _ _ _ ?_; rcases hf with rfl | ⟨_, h2, h3⟩; exact .inl rfl; exact .inr ⟨rfl, h2, h3⟩) | skip
  case int => exact .int _ _
  case str => exact .str _
  case nptr => exact .nptr
  case ptr hb => exact .ptr _ _ _ _ hb
  case iptr => rename_i bw d k i j bl o u' ha hb hr hg hc hv hk; exact .iptr bw d k i j bl o _ (by assumption) (by assumption) (by assumption) (by assumption) (by assumption) (by assumption) (by assumption)
  case nsl => exact .nsl
  case esl => exact .esl _
  case zsl => exact .zsl _ _
  case nan => exact .nan _ (by assumption)
  case sl => exact .sl _ _ _ _ _ _ _ (by assumption) (by assumption) (by assumption) _ _ (by assumption) (by assumption)
  case slEnd => exact .slEnd _ _ _ _ _
  case imm => exact .imm _ _ _ _ _ _ _ _ _ _ (by assumption) (by assumption) (by assumption) (by assumption) (by assumption) (by assumption) (by assumption) (by assumption)
  case immEnd => exact .immEnd _ _ _ _ _ _ _ (by assumption) (by assumption) (by assumption)
  case fn => exact .fn _ _ _ _ _ (by assumption) (by assumption)
  case nfn => exact .nfn
  case agg => exact .agg _ _ (by assumption)
  case tup => exact .tup _ _ (by assumption)
  case iface => exact .iface _ _ _ (by assumption)
  case niface => exact .niface
  case any => exact .any _

theorem nmT_vr {ρ : Place} {keep ks : List Nat} {w : World} : ∀ (l : List AV) (t : Nat) {c : List Value}, VRs ρ w l c → VRs (ρ.renamed keep) w (nmT (posIn keep 0) ks t l) c
  | [], t, c, h => by cases h; exact .nil
  | v :: l, t, c, h => by
    cases h with | cons _ u _ c' h1 h2 =>
    simp only [nmT]
    refine .cons _ _ _ _ ?_ (nmT_vr l (t + 1) h2)
    cases hasNat ks t with
    | true => exact loose_vr (nm_vr v h1)
    | false => exact .any u

theorem nmHeap_get {σ : Nat → Option Nat} {h : Heap} : ∀ {l : List Nat} {i c : Nat} {d : Blk}, hget (nmHeap σ h i l) c = some d → i ≤ c ∧ ∃ b e, l[c - i]? = some b ∧ hget h b = some e ∧ d = nmB σ e
  | [], i, c, d, q => by cases q
  | b :: l, i, c, d, q => by
    simp only [nmHeap] at q
    have next : hget (nmHeap σ h (i + 1) l) c = some d → i ≤ c ∧ ∃ b' e, (b :: l)[c - i]? = some b' ∧ hget h b' = some e ∧ d = nmB σ e := by
      intro q
      obtain ⟨h1, b', e, h2, h3, h4⟩ := nmHeap_get q
      refine ⟨by omega, b', e, ?_, h3, h4⟩
      have : c - i = (c - (i + 1)) + 1 := by omega
      rw [this]; simpa using h2
    split at q
    · rename_i e he
      simp only [hget] at q
      cases hc : Nat.beq i c with
      | true =>
        rw [hc] at q; simp only [cond_true, Option.some.injEq] at q
        have := Nat.eq_of_beq_eq_true hc; subst this
        exact ⟨Nat.le_refl _, b, e, by simp, he, q.symm⟩
      | false => rw [hc] at q; exact next q
    · exact next q

theorem nmB_rk {σ : Nat → Option Nat} {d : Blk} (h : d.recKept) : (nmB σ d).recKept := by
  cases d <;> first | exact h | trivial

theorem nmB_cell {σ : Nat → Option Nat} {d : Blk} {x : Nat} {v : AV} (h : (nmB σ d).cell? x = some v) (hr : d.recKept) : ∃ v', d.cell? x = some v' ∧ (v = loose (nmA σ v') ∨ (v = v' ∧ v.foreign = true)) := by
  cases d with
  | vs l =>
    simp only [nmB, Blk.cell?, List.getElem?_map, nmL_get, Option.map_map, Option.map_eq_some_iff, Function.comp] at h
    obtain ⟨v', h1, rfl⟩ := h
    exact ⟨v', h1, .inl rfl⟩
  | fl xs => exact ⟨v, h, .inr ⟨rfl, foreign_content (d := .fl xs) hr rfl x v h⟩⟩
  | ns k xs => exact ⟨v, h, .inr ⟨rfl, foreign_content (d := .ns k xs) hr rfl x v h⟩⟩
  | bs xs => exact ⟨v, h, .inr ⟨rfl, foreign_content (d := .bs xs) hr rfl x v h⟩⟩
  | ss xs => exact ⟨v, h, .inr ⟨rfl, foreign_content (d := .ss xs) hr rfl x v h⟩⟩
  | rows k m get => exact ⟨v, h, .inr ⟨rfl, foreign_content (d := .rows k m get) hr rfl x v h⟩⟩
  | cols m cs => exact ⟨v, h, .inr ⟨rfl, foreign_content (d := .cols m cs) hr rfl x v h⟩⟩

/-- The first k numbers stay. -/
def idUpto : Nat → Nat → List Nat → Bool
  | 0, _, _ => true
  | _ + 1, _, [] => false
  | k + 1, i, b :: l => Nat.beq b i && idUpto k (i + 1) l

theorem idUpto_get : ∀ {k i : Nat} {l : List Nat}, idUpto k i l = true → ∀ j, j < k → l[j]? = some (i + j)
  | 0, i, l, _, j, hj => by omega
  | k + 1, i, [], h, j, hj => by cases h
  | k + 1, i, b :: l, h, j, hj => by
    simp only [idUpto, Bool.and_eq_true] at h
    cases j with
    | zero => simp; exact Nat.eq_of_beq_eq_true h.1
    | succ j => simp only [List.getElem?_cons_succ]; rw [idUpto_get h.2 j (by omega)]; congr 1; omega

def keepOk (k : Nat) (keep : List Nat) : Bool := nodupN keep && idUpto k 0 keep

theorem norm_sub {lent : List Blk} {keep ks : List Nat} (hk : keepOk lent.length keep = true) (st : ASt) : Sub lent st (norm keep ks st) := by
  unfold keepOk at hk
  rw [Bool.and_eq_true] at hk
  obtain ⟨hn, hid⟩ := hk
  have idL : ∀ {i : Nat}, i < lent.length → keep[i]? = some i := fun q => by have := idUpto_get hid _ q; simpa using this
  have atL : ∀ {ρ : Place} {i b : Nat}, keep[i]? = some b → (ρ.renamed keep).at_ i = ρ.at_ b := fun q => by simp [Place.renamed, q]
  rintro ρ0 w0 a w hN ⟨ρ, E, W, S, hbk, hle⟩
  refine ⟨ρ.renamed keep, ⟨fun b q => ?_, fun b q => ⟨b, idL (hN.heap.lt b q), E.ok b q⟩, E.live, E.new, E.out⟩, W, ⟨S.defers, nmT_vr _ _ S.tmps, ?_⟩, fun i hi q => ?_, ?_⟩
  · rw [atL (idL (hN.heap.lt b q))]; exact E.at_ b q
  · have hh := S.heap
    refine ⟨fun c d q => ?_, fun c c' d d' q q' ok1 ok2 he => ?_, hh.fresh, hh.liveLt, hh.outLt, fun c q => ?_⟩
    · obtain ⟨_, b, e, h1, h2, rfl⟩ := nmHeap_get q
      rw [Nat.sub_zero] at h1
      rcases hh.cell b e h2 with ⟨k1, k2, hr, ce, t, r1, r2⟩ | ⟨k1, k2, k3, k4⟩
      · refine .inl ⟨⟨b, h1, k1⟩, by rw [atL h1]; exact k2, nmB_rk hr, ce, t, by rw [atL h1]; exact r1, fun x v hx => ?_⟩
        obtain ⟨v', s1, s2⟩ := nmB_cell hx hr
        obtain ⟨u, t1, t2⟩ := r2 x v' s1
        refine ⟨u, t1, ?_⟩
        rcases s2 with rfl | ⟨rfl, hf⟩
        · exact loose_vr (nm_vr v' t2)
        · exact plain_vr t2 hf
      · refine .inr ⟨?_, (List.getElem?_eq_some_iff.1 h1).1, nmB_rk k3, fun x => ?_⟩
        · rintro ⟨b', q1, q2⟩
          rw [h1] at q1; cases q1
          exact k1 q2
        · cases hc : (nmB (posIn keep 0) e).cell? x with
          | none => rfl
          | some v => obtain ⟨v', s1, _⟩ := nmB_cell hc k3; rw [k4 x] at s1; cases s1
    · obtain ⟨_, b, e, h1, h2, rfl⟩ := nmHeap_get q
      obtain ⟨_, b', e', h1', h2', rfl⟩ := nmHeap_get q'
      rw [Nat.sub_zero] at h1 h1'
      obtain ⟨x, x1, x2⟩ := ok1
      obtain ⟨y, y1, y2⟩ := ok2
      rw [h1] at x1; cases x1
      rw [h1'] at y1; cases y1
      rw [atL h1, atL h1'] at he
      have := hh.inj b b' e e' h2 h2' x2 y2 he
      subst this
      exact nodupN_get hn h1 h1'
    · obtain ⟨b, h1, _⟩ := q
      exact (List.getElem?_eq_some_iff.1 h1).1
  · obtain ⟨b, q1, q2⟩ := q
    rw [idL hi] at q1; cases q1
    exact hbk i hi q2
  · simp only [norm]
    rcases Nat.lt_or_ge keep.length lent.length with q | q
    · have := idL q
      rw [List.getElem?_eq_none (Nat.le_refl _)] at this; cases this
    · exact q

/-- Where a nil slice stands: a slot; a part of a slot's struct; a cell of a variable. -/
inductive GP where
  | slot (t : Nat)
  | part (t i : Nat)
  | cell (b i : Nat)

def Col.empty : Col → Bool
  | .cf [] | .ci _ [] | .cb [] | .cs [] | .cfl [] | .cns _ [] => true
  | _ => false

def allEmpty : List Col → Bool
  | [] => true
  | c :: l => c.empty && allEmpty l

/-- It tells of no cell. -/
def Blk.isVoid : Blk → Bool
  | .fl [] | .ns _ [] | .bs [] | .ss [] | .vs [] => true
  | .cols 0 cs => allEmpty cs
  | _ => false

theorem Col.empty_spec {c : Col} (h : c.empty = true) : c.len = 0 := by
  unfold Col.empty at h
  split at h <;> first | rfl | cases h

theorem allEmpty_spec : ∀ {l : List Col}, allEmpty l = true → ∀ c ∈ l, c.len = 0
  | [], _, c, hc => by cases hc
  | c :: l, h, x, hx => by
    simp only [allEmpty, Bool.and_eq_true] at h
    rcases List.mem_cons.1 hx with rfl | q
    · exact Col.empty_spec h.1
    · exact allEmpty_spec h.2 x q

theorem isVoid_spec {d : Blk} (h : d.isVoid = true) : d.recKept ∧ d.void := by
  unfold Blk.isVoid at h
  split at h
  case h_6 =>
    rename_i cs
    have := allEmpty_spec h
    refine ⟨this, fun x => ?_⟩
    cases hc : (Blk.cols 0 cs).cell? x with
    | none => rfl
    | some v =>
      obtain ⟨c, _, h2, h3⟩ := Blk.cols_cell hc
      have := Col.cell_lt h3
      rw [allEmpty_spec h c h2] at this; exact absurd this (Nat.not_lt_zero _)
  case h_7 => cases h
  all_goals exact ⟨trivial, fun x => by simp [Blk.cell?]⟩

theorem nsl_weak (b w es : Nat) : Weaker .nsl (.sl b w es 0 0 0) := by
  intro ρ w' u h; cases h; exact .slEnd _ _ _ _ _

theorem HR.weaken {ρ : Place} {w : World} {h : Heap} {n b : Nat} {d d' : Blk} (hh : HR ρ w h n) (hg : hget h b = some d) (hr : d'.recKept) (hw : ∀ x v', d'.cell? x = some v' → ∃ v, d.cell? x = some v ∧ Weaker v v') : HR ρ w (hset h b d') n := by
  have look : ∀ x e, hget (hset h b d') x = some e → (x = b ∧ e = d') ∨ (x ≠ b ∧ hget h x = some e) := by
    intro x e hx
    rw [hget_hset] at hx
    by_cases q : b = x
    · rw [if_pos q] at hx; cases hx; exact .inl ⟨q.symm, rfl⟩
    · rw [if_neg q] at hx; exact .inr ⟨fun e => q e.symm, hx⟩
  have had : ∀ x e, hget (hset h b d') x = some e → ∃ e', hget h x = some e' := by
    intro x e hx
    rcases look x e hx with ⟨rfl, _⟩ | ⟨_, q⟩
    · exact ⟨d, hg⟩
    · exact ⟨e, q⟩
  refine ⟨fun x e hx => ?_, fun x y e f h1 h2 ok1 ok2 he => ?_, hh.fresh, hh.liveLt, hh.outLt, hh.lt⟩
  · rcases look x e hx with ⟨rfl, rfl⟩ | ⟨_, q⟩
    · rcases hh.cell x d hg with ⟨k1, k2, _, c, t, r1, r2⟩ | ⟨k1, k2, _, k4⟩
      · refine .inl ⟨k1, k2, hr, c, t, r1, fun y v' hy => ?_⟩
        obtain ⟨v, q1, q2⟩ := hw y v' hy
        obtain ⟨u, t1, t2⟩ := r2 y v q1
        exact ⟨u, t1, q2 _ _ _ t2⟩
      · refine .inr ⟨k1, k2, hr, fun y => ?_⟩
        cases hc : e.cell? y with
        | none => rfl
        | some v' => obtain ⟨v, q1, _⟩ := hw y v' hc; rw [k4 y] at q1; cases q1
    · exact hh.cell x e q
  · obtain ⟨e', q1⟩ := had x e h1
    obtain ⟨f', q2⟩ := had y f h2
    exact hh.inj x y e' f' q1 q2 ok1 ok2 he

/-- A nil slice, as a slice of a block that is none. -/
def ghost1 (st : ASt) (pos : GP) (w es : Nat) (d : Blk) : ASt :=
  match pos with
  | .slot t =>
    match st.tmps[t]? with
    | some .nsl => ⟨st.tmps.set t (.sl st.next w es 0 0 0), hset st.heap st.next d, st.next + 1⟩
    | some .esl => ⟨st.tmps.set t (.sl st.next w es 0 0 0), hset st.heap st.next d, st.next + 1⟩
    | _ => st
  | .part t i =>
    match st.tmps[t]? with
    | some (.agg l) =>
      match l[i]? with
      | some .nsl => ⟨st.tmps.set t (.agg (l.set i (.sl st.next w es 0 0 0))), hset st.heap st.next d, st.next + 1⟩
      | _ => st
    | _ => st
  | .cell b i =>
    match hget st.heap b with
    | some (.vs l) =>
      match l[i]? with
      | some .nsl => ⟨st.tmps, hset (hset st.heap b (.vs (l.set i (.sl st.next w es 0 0 0)))) st.next d, st.next + 1⟩
      | _ => st
    | _ => st

theorem esl_weak (b w es : Nat) : Weaker .esl (.sl b w es 0 0 0) := by
  intro ρ w' u h; cases h; exact .slEnd _ _ _ _ _

theorem set_vrs {ρ : Place} {w : World} : ∀ {l : List AV} {c : List Value} {i : Nat} {v v' : AV}, VRs ρ w l c → l[i]? = some v → Weaker v v' → VRs ρ w (l.set i v') c
  | _, _, i, v, v', .nil, h, _ => by simp at h
  | _, _, 0, v, v', .cons a u l c h t, hi, hw => by simp at hi; subst hi; exact .cons _ _ _ _ (hw _ _ _ h) t
  | _, _, i + 1, v, v', .cons a u l c h t, hi, hw => .cons _ _ _ _ h (set_vrs t (by simpa using hi) hw)

theorem ghost1_sub {lent : List Blk} {st : ASt} {pos : GP} {w es : Nat} {d : Blk} (hd : d.isVoid = true) : Sub lent st (ghost1 st pos w es d) := by
  obtain ⟨d1, d2⟩ := isVoid_spec hd
  rintro ρ0 w0 a w' hN ⟨ρ, E, W, S, hbk, hle⟩
  have hh := S.heap
  have hno : ¬ ρ.ok st.next := fun q => Nat.lt_irrefl _ (hh.lt _ q)
  have h1 : HR ρ w' (hset st.heap st.next d) (st.next + 1) := (hh.le (Nat.le_succ _)).ghost hno (Nat.lt_succ_self _) d1 d2
  have id_ : At lent.length ρ0 w0 st a w' := ⟨ρ, E, W, S, hbk, hle⟩
  unfold ghost1
  split
  · split
    · rename_i t h
      exact ⟨ρ, E, W, ⟨S.defers, set_vrs S.tmps h (nsl_weak _ _ _), h1⟩, hbk, Nat.le_succ_of_le hle⟩
    · rename_i t h
      exact ⟨ρ, E, W, ⟨S.defers, set_vrs S.tmps h (esl_weak _ _ _), h1⟩, hbk, Nat.le_succ_of_le hle⟩
    · exact id_
  · split
    · rename_i t i l h
      split
      · rename_i h2
        refine ⟨ρ, E, W, ⟨S.defers, set_vrs S.tmps h ?_, h1⟩, hbk, Nat.le_succ_of_le hle⟩
        intro ρ w u hu
        cases hu with | agg _ c hc => exact .agg _ _ (set_vrs hc h2 (nsl_weak _ _ _))
      · exact id_
    · exact id_
  · split
    · rename_i b i _ l h
      split
      · rename_i h2
        have hw : HR ρ w' (hset st.heap b (.vs (l.set i (.sl st.next w es 0 0 0)))) st.next := by
          refine hh.weaken h trivial fun x v' hx => ?_
          simp only [Blk.cell?, List.getElem?_set] at hx ⊢
          by_cases hi : i = x
          · subst hi
            rw [if_pos rfl] at hx
            split at hx
            · cases hx; exact ⟨_, h2, nsl_weak _ _ _⟩
            · cases hx
          · rw [if_neg hi] at hx; exact ⟨v', hx, Weaker.refl _⟩
        exact ⟨ρ, E, W, ⟨S.defers, S.tmps, (hw.le (Nat.le_succ _)).ghost hno (Nat.lt_succ_self _) d1 d2⟩, hbk, Nat.le_succ_of_le hle⟩
      · exact id_
    · exact id_

/-- A nil slice, as a slice of none of nobody's memory. -/
def ghostI (st : ASt) (pos : GP) (w es : Nat) (d : Blk) : ASt :=
  match pos with
  | .slot t =>
    match st.tmps[t]? with
    | some .nsl => ⟨st.tmps.set t (.imm .free d w es 0 0), st.heap, st.next⟩
    | some .esl => ⟨st.tmps.set t (.imm .free d w es 0 0), st.heap, st.next⟩
    | _ => st
  | .part t i =>
    match st.tmps[t]? with
    | some (.agg l) =>
      match l[i]? with
      | some .nsl => ⟨st.tmps.set t (.agg (l.set i (.imm .free d w es 0 0))), st.heap, st.next⟩
      | _ => st
    | _ => st
  | .cell b i =>
    match hget st.heap b with
    | some (.vs l) =>
      match l[i]? with
      | some .nsl => ⟨st.tmps, hset st.heap b (.vs (l.set i (.imm .free d w es 0 0))), st.next⟩
      | _ => st
    | _ => st

theorem isVoid_kept {d : Blk} (h : d.isVoid = true) : d.kept = true ∧ d.foreign = true := by
  unfold Blk.isVoid at h
  split at h <;> first | exact ⟨rfl, rfl⟩ | cases h

theorem nslI_weak {d : Blk} (w es : Nat) (hd : d.isVoid = true) : Weaker .nsl (.imm .free d w es 0 0) := by
  intro ρ w' u h; cases h; exact .immEnd _ _ _ _ _ _ _ (isVoid_spec hd).1 (fun _ => (isVoid_kept hd).1) (isVoid_kept hd).2
theorem eslI_weak {d : Blk} (w es : Nat) (hd : d.isVoid = true) : Weaker .esl (.imm .free d w es 0 0) := by
  intro ρ w' u h; cases h; exact .immEnd _ _ _ _ _ _ _ (isVoid_spec hd).1 (fun _ => (isVoid_kept hd).1) (isVoid_kept hd).2

theorem ghostI_sub {lent : List Blk} {st : ASt} {pos : GP} {w es : Nat} {d : Blk} (hd : d.isVoid = true) : Sub lent st (ghostI st pos w es d) := by
  rintro ρ0 w0 a w' hN ⟨ρ, E, W, S, hbk, hle⟩
  have hh := S.heap
  have id_ : At lent.length ρ0 w0 st a w' := ⟨ρ, E, W, S, hbk, hle⟩
  unfold ghostI
  split
  · split
    · rename_i t h
      exact ⟨ρ, E, W, ⟨S.defers, set_vrs S.tmps h (nslI_weak _ _ hd), hh⟩, hbk, hle⟩
    · rename_i t h
      exact ⟨ρ, E, W, ⟨S.defers, set_vrs S.tmps h (eslI_weak _ _ hd), hh⟩, hbk, hle⟩
    · exact id_
  · split
    · rename_i t i l h
      split
      · rename_i h2
        refine ⟨ρ, E, W, ⟨S.defers, set_vrs S.tmps h ?_, hh⟩, hbk, hle⟩
        intro ρ w u hu
        cases hu with | agg _ c hc => exact .agg _ _ (set_vrs hc h2 (nslI_weak _ _ hd))
      · exact id_
    · exact id_
  · split
    · rename_i b i _ l h
      split
      · rename_i h2
        have hw : HR ρ w' (hset st.heap b (.vs (l.set i (.imm .free d w es 0 0)))) st.next := by
          refine hh.weaken h trivial fun x v' hx => ?_
          simp only [Blk.cell?, List.getElem?_set] at hx ⊢
          by_cases hi : i = x
          · subst hi
            rw [if_pos rfl] at hx
            split at hx
            · cases hx; exact ⟨_, h2, nslI_weak _ _ hd⟩
            · cases hx
          · rw [if_neg hi] at hx; exact ⟨v', hx, Weaker.refl _⟩
        exact ⟨ρ, E, W, ⟨S.defers, S.tmps, hw⟩, hbk, hle⟩
      · exact id_
    · exact id_

/-- The last one: is it nobody's? -/
abbrev GL := List (GP × Nat × Nat × Blk × Bool)

def ghosts : GL → ASt → ASt
  | [], st => st
  | (p, w, es, d, true) :: l, st => ghosts l (ghostI st p w es d)
  | (p, w, es, d, false) :: l, st => ghosts l (ghost1 st p w es d)

def ghostsOk : GL → Bool
  | [] => true
  | (_, _, _, d, _) :: l => d.isVoid && ghostsOk l

theorem ghosts_sub {lent : List Blk} : ∀ {l : GL} {st : ASt}, ghostsOk l = true → Sub lent st (ghosts l st)
  | [], st, _ => Sub.refl _ _
  | (p, w, es, d, true) :: l, st, h => by
    simp only [ghostsOk, Bool.and_eq_true] at h
    exact (ghostI_sub h.1).trans (ghosts_sub h.2)
  | (p, w, es, d, false) :: l, st, h => by
    simp only [ghostsOk, Bool.and_eq_true] at h
    exact (ghost1_sub h.1).trans (ghosts_sub h.2)

/-- How a state is made plain: nil slices turned; blocks kept; slots kept. -/
structure NS where
  gs : GL
  keep : List Nat
  ks : List Nat

def NS.ok (k : Nat) (s : NS) : Bool := ghostsOk s.gs && keepOk k s.keep
def NS.on (s : NS) (st : ASt) : ASt := norm s.keep s.ks (ghosts s.gs st)

theorem ns_sub {lent : List Blk} {s : NS} (h : s.ok lent.length = true) (st : ASt) : Sub lent st (s.on st) := by
  unfold NS.ok at h
  rw [Bool.and_eq_true] at h
  exact (ghosts_sub h.1).trans (norm_sub h.2 _)

end Go.Plb

/-
  ENGINE, PART 25: triples over lists of pieces of code; loops; a function's contract.
-/
namespace Go.Plb
set_option linter.unusedSimpArgs false
set_option linter.unusedVariables false

/-- A text as a list of pieces. -/
def flat : Code → List Code
  | .seq a b => flat a ++ flat b
  | .skip => []
  | .label _ => []
  | c => [c]

def wpL (P : Program) : List Code → (Exit → Act → World → Prop) → Act → World → Prop
  | [], K, a, w => K .normal a w
  | c :: l, K, a, w => c.wp P (fun e a' w' => match e with | .normal => wpL P l K a' w' | e => K e a' w') a w

theorem wpL_append {P : Program} {K : Exit → Act → World → Prop} : ∀ (l l' : List Code) (a : Act) (w : World), wpL P l (fun e a' w' => match e with | .normal => wpL P l' K a' w' | e => K e a' w') a w → wpL P (l ++ l') K a w
  | [], l', a, w, h => h
  | c :: l, l', a, w, h => by
    simp only [List.cons_append, wpL] at h ⊢
    refine wp_mono h ?_
    intro e a' w' q
    cases e <;> first | exact wpL_append l l' a' w' q | exact q

theorem one_wp {P : Program} {c : Code} {K : Exit → Act → World → Prop} {a : Act} {w : World} (h : wpL P [c] K a w) : c.wp P K a w := by
  simp only [wpL] at h
  refine wp_mono h ?_
  intro e a' w' q
  cases e <;> exact q

theorem flat_wp {P : Program} : ∀ (c : Code) {K : Exit → Act → World → Prop} {a : Act} {w : World}, wpL P (flat c) K a w → c.wp P K a w
  | .seq x y, K, a, w, h => by
    simp only [flat] at h
    refine wp_seq (flat_wp x ?_)
    have app : ∀ (l l' : List Code) (a : Act) (w : World), wpL P (l ++ l') K a w → wpL P l (fun e a' w' => match e with | .normal => wpL P l' K a' w' | e => K e a' w') a w := by
      intro l
      induction l with
      | nil => intro l' a w h; exact h
      | cons c l ih =>
        intro l' a w h
        simp only [List.cons_append, wpL] at h ⊢
        refine wp_mono h ?_
        intro e a' w' q
        cases e <;> first | exact ih l' a' w' q | exact q
    have := app _ _ _ _ h
    have mono : ∀ (l : List Code) (K K' : Exit → Act → World → Prop) (a : Act) (w : World), (∀ e a w, K e a w → K' e a w) → wpL P l K a w → wpL P l K' a w := by
      intro l
      induction l with
      | nil => intro K K' a w hK h; exact hK _ _ _ h
      | cons c l ih =>
        intro K K' a w hK h
        simp only [wpL] at h ⊢
        refine wp_mono h ?_
        intro e a' w' q
        cases e <;> first | exact ih K K' a' w' hK q | exact hK _ _ _ q
    refine mono _ _ _ _ _ ?_ this
    intro e a' w' q
    cases e <;> first | exact flat_wp y q | exact q
  | .skip, K, a, w, h => wp_skip h
  | .label _, K, a, w, h => wp_label h
  | .region .., K, a, w, h => one_wp h
  | .cond .., K, a, w, h => one_wp h
  | .block .., K, a, w, h => one_wp h
  | .loop .., K, a, w, h => one_wp h
  | .exit .., K, a, w, h => one_wp h
  | .ret, K, a, w, h => one_wp h
  | .scope .., K, a, w, h => one_wp h
  | .goto .., K, a, w, h => one_wp h
  | .rangeFunc .., K, a, w, h => one_wp h
  | .refuse .., K, a, w, h => one_wp h

def Trip (P : Program) (lent : List Blk) (cs : List Code) (st : ASt) (Q : AE → ASt → Prop) : Prop :=
  ∀ (ρ0 : Place) (w0 : World), LentPlace ρ0 w0 lent → ∀ (K : Exit → Act → World → Prop), (∀ e st' a' w', Q e st' → At lent.length ρ0 w0 st' a' w' → K e.real a' w') → ∀ a w, At lent.length ρ0 w0 st a w → wpL P cs K a w

/-- The pieces in a row. -/
def runL (self : CodeRun) : List Code → ASt → Path → Res
  | [], st, p => some (.normal, st, [], p)
  | c :: l, st, p =>
    match self c st p with
    | some (.normal, st1, o1, p1) =>
      match runL self l st1 p1 with
      | some (e, st2, o2, p2) => some (e, st2, o1 ++ o2, p2)
      | none => none
    | r => r

theorem runL_ok {P : Program} {self : CodeRun} (hself : CodeOk P self) : ∀ (cs : List Code) {st st' : ASt} {p p' : Path} {e : AE} {obs : List Bool}, runL self cs st p = some (e, st', obs, p') → allTrue obs → ∀ {ρ : Place} {a : Act} {w : World} {Q : Exit → Act → World → Prop}, SR ρ st a w →
    (∀ ρ' a' w', Post ρ w st.next st' ρ' a' w' → Q e.real a' w') → wpL P cs Q a w
  | [], st, st', p, p', e, obs, h, ho, ρ, a, w, Q, hs, hQ => by
    simp only [runL, Option.some.injEq, Prod.mk.injEq] at h; obtain ⟨rfl, rfl, rfl, rfl⟩ := h
    exact hQ ρ a w (Post.refl hs)
  | c :: l, st, st', p, p', e, obs, h, ho, ρ, a, w, Q, hs, hQ => by
    simp only [runL] at h
    split at h
    · rename_i st1 o1 p1 h1
      split at h
      case h_2 => cases h
      rename_i e2 st2 o2 p2 h2
      simp only [Option.some.injEq, Prod.mk.injEq] at h; obtain ⟨rfl, rfl, rfl, rfl⟩ := h
      rw [allTrue_append] at ho
      refine hself c st p _ _ _ _ h1 ho.1 ρ a w _ hs fun ρ1 a1 w1 P1 => ?_
      exact runL_ok hself l h2 ho.2 P1.sr fun ρ2 a2 w2 P2 => hQ ρ2 a2 w2 (P1.trans P2)
    · rename_i hne
      refine hself c st p _ _ _ _ h ho ρ a w _ hs fun ρ1 a1 w1 P1 => ?_
      have := hQ ρ1 a1 w1 P1
      cases e with
      | normal => exact (hne _ _ _ h).elim
      | ret => exact this
      | exit id => exact this

theorem At.post {lent : List Blk} {ρ0 ρ ρ' : Place} {w0 w w' : World} {st st' : ASt} {a a' : Act} (E : Ext ρ0 ρ w0) (W : WLe ρ0.live w0 w) (hbk : ∀ i, i < lent.length → ρ.ok i → ρ0.ok i) (hle : lent.length ≤ st.next) (h : Post ρ w st.next st' ρ' a' w') : At lent.length ρ0 w0 st' a' w' :=
  ⟨ρ', E.trans h.ext W.size, W.trans h.wle (fun x hx q => E.new x hx q), h.sr, fun i hi q => (h.back i q).elim (hbk i hi) (fun r => by omega), Nat.le_trans hle h.le⟩

theorem Trip.weak {P : Program} {lent : List Blk} {cs : List Code} {st st1 : ASt} {Q : AE → ASt → Prop} (hs : Sub lent st st1) (h : Trip P lent cs st1 Q) : Trip P lent cs st Q :=
  fun ρ0 w0 hN K hK a w hA => h ρ0 w0 hN K hK a w (hs _ _ _ _ hN hA)

theorem Trip.nil {P : Program} {lent : List Blk} {st : ASt} {Q : AE → ASt → Prop} (h : Q .normal st) : Trip P lent [] st Q :=
  fun ρ0 w0 hN K hK a w hA => hK .normal st a w h hA

/-- What is to be shown behind a segment. -/
def Then (P : Program) (lent : List Blk) (rest : List Code) (e : AE) (st : ASt) (Q : AE → ASt → Prop) : Prop :=
  match e with
  | .normal => Trip P lent rest st Q
  | e => Q e st

theorem Then.exit {P : Program} {lent : List Blk} {rest : List Code} {id : Nat} {st : ASt} {Q : AE → ASt → Prop} (h : Q (.exit id) st) : Then P lent rest (.exit id) st Q := h
theorem Then.ret {P : Program} {lent : List Blk} {rest : List Code} {st : ASt} {Q : AE → ASt → Prop} (h : Q .ret st) : Then P lent rest .ret st Q := h
theorem Then.normal {P : Program} {lent : List Blk} {rest : List Code} {st : ASt} {Q : AE → ASt → Prop} (h : Trip P lent rest st Q) : Then P lent rest .normal st Q := h

def endOf (s : NS) (r : Res) : Option (AE × ASt × List Bool) :=
  match r with
  | some (e, st, obs, _) => some (e, s.on st, obs)
  | none => none

/-- A segment: the first k pieces, by running them; then a plain state. -/
theorem Trip.seg {C : Ctx} (hC : C.Ok) {S : Sums} (hS : SumsOk C.P S) {lent : List Blk} {N n : Nat} (k : Nat) (p : Path) (s : NS) {cs : List Code} {st st1 : ASt} {e : AE} {obs : List Bool} {Q : AE → ASt → Prop}
    (h : endOf s (runL (runCode C S N n) (cs.take k) st p) = some (e, st1, obs)) (hn : s.ok lent.length = true) (ho : allTrue obs) (hr : Then C.P lent (cs.drop k) e st1 Q) : Trip C.P lent cs st Q := by
  intro ρ0 w0 hN K hK a w ⟨ρ, E, W, S1, hbk, hle⟩
  rw [← List.take_append_drop k cs]
  apply wpL_append
  unfold endOf at h
  split at h
  case h_2 => cases h
  rename_i e' st2 obs' p' hrun
  simp only [Option.some.injEq, Prod.mk.injEq] at h; obtain ⟨rfl, rfl, rfl⟩ := h
  refine runL_ok (runCode_ok hC hS N n) _ hrun ho S1 fun ρ' a' w' P1 => ?_
  have hA := ns_sub hn st2 ρ0 w0 a' w' hN (At.post (st := st) (a := a) E W hbk hle P1)
  cases e' with
  | normal => exact hr ρ0 w0 hN K hK a' w' hA
  | ret => exact hK _ _ _ _ hr hA
  | exit id => exact hK _ _ _ _ hr hA

/-- What is to be shown behind one round of the loop of block id. -/
def Round (P : Program) (lent : List Blk) {σ : Type} (I : σ → ASt) (G : σ → Prop) (m : σ → Nat) (s : σ) (id : Nat) (rest : List Code) (Q : AE → ASt → Prop) (e : AE) (st : ASt) : Prop :=
  match e with
  | .normal => ∃ s', G s' ∧ m s' < m s ∧ st = I s'
  | .exit j => if j = id then Trip P lent rest st Q else Q (.exit j) st
  | .ret => Q .ret st

theorem Round.out {P : Program} {lent : List Blk} {σ : Type} {I : σ → ASt} {G : σ → Prop} {m : σ → Nat} {s : σ} {id : Nat} {rest : List Code} {Q : AE → ASt → Prop} {st : ASt} (h : Trip P lent rest st Q) : Round P lent I G m s id rest Q (.exit id) st := by
  simp only [Round, if_true]; exact h

theorem Round.on {P : Program} {lent : List Blk} {σ : Type} {I : σ → ASt} {G : σ → Prop} {m : σ → Nat} {s : σ} {id : Nat} {rest : List Code} {Q : AE → ASt → Prop} {st : ASt} (s' : σ) (hs : st = I s') (hm : m s' < m s) (hG : G s') : Trip P lent [] st (Round P lent I G m s id rest Q) :=
  Trip.nil ⟨s', hG, hm, hs⟩

theorem Trip.loop {P : Program} {lent : List Blk} {σ : Type} (I : σ → ASt) (G : σ → Prop) (m : σ → Nat) {id : Nat} {b : Code} {cs rest : List Code} {Q : AE → ASt → Prop} (hcs : cs = .block id (.loop b) :: rest)
    (body : ∀ s, G s → Trip P lent (flat b) (I s) (Round P lent I G m s id rest Q)) (s : σ) (hs : G s) : Trip P lent cs (I s) Q := by
  subst hcs
  intro ρ0 w0 hN K hK a w hA
  simp only [wpL]
  refine wp_block ?_
  refine wp_loop_rounds (m s + 1) ?_
  have key : ∀ n s, m s < n → G s → ∀ a w, At lent.length ρ0 w0 (I s) a w → Code.rounds P b (Exit.inBlock id fun (e : Exit) a' w' => match e with | .normal => wpL P rest K a' w' | e => K e a' w') n a w := by
    intro n
    induction n with
    | zero => intro s h; omega
    | succ n ih =>
      intro s hm hs a w hA
      rw [rounds_succ]
      refine flat_wp b ?_
      refine body s hs ρ0 w0 hN _ ?_ a w hA
      intro e st' a' w' hR hA'
      cases e with
      | normal =>
        obtain ⟨s', h1, h2, rfl⟩ := hR
        exact ih s' (by omega) h1 a' w' hA'
      | ret => exact hK _ _ _ _ hR hA'
      | exit j =>
        simp only [Round] at hR
        by_cases hj : j = id
        · subst hj
          rw [if_pos rfl] at hR
          simp only [AE.real, Exit.then, Exit.inBlock, if_true]
          exact hR ρ0 w0 hN K hK a' w' hA'
        · rw [if_neg hj] at hR
          simp only [AE.real, Exit.then, Exit.inBlock, hj, if_false]
          exact hK _ _ _ _ hR hA'
  exact key _ s (Nat.lt_succ_self _) hs a w hA

theorem Trip.mono {P : Program} {lent : List Blk} {cs : List Code} {st : ASt} {Q Q' : AE → ASt → Prop} (hQ : ∀ e st, Q e st → Q' e st) (h : Trip P lent cs st Q) : Trip P lent cs st Q' :=
  fun ρ0 w0 hN K hK a w hA => h ρ0 w0 hN K (fun e st' a' w' q hA' => hK e st' a' w' (hQ e st' q) hA') a w hA

/-- A piece that is a block (or a scope): its inside, then the rest. -/
theorem Trip.block {P : Program} {lent : List Blk} {id : Nat} {b : Code} {cs rest : List Code} {st : ASt} {Q : AE → ASt → Prop} (hcs : cs = .block id b :: rest)
    (h : Trip P lent (flat b) st fun e st' => match e with | .normal => Trip P lent rest st' Q | .exit j => if j = id then Trip P lent rest st' Q else Q (.exit j) st' | .ret => Q .ret st') : Trip P lent cs st Q := by
  subst hcs
  intro ρ0 w0 hN K hK a w hA
  simp only [wpL]
  refine wp_block (flat_wp b ?_)
  refine h ρ0 w0 hN _ ?_ a w hA
  intro e st' a' w' hR hA'
  cases e with
  | normal => exact hR ρ0 w0 hN K hK a' w' hA'
  | ret => exact hK _ _ _ _ hR hA'
  | exit j =>
    simp only at hR
    by_cases hj : j = id
    · subst hj
      rw [if_pos rfl] at hR
      simp only [AE.real, Exit.inBlock, if_true]
      exact hR ρ0 w0 hN K hK a' w' hA'
    · rw [if_neg hj] at hR
      simp only [AE.real, Exit.inBlock, hj, if_false]
      exact hK _ _ _ _ hR hA'

theorem Trip.scope {P : Program} {lent : List Blk} {b : Code} {cs rest : List Code} {st : ASt} {Q : AE → ASt → Prop} (hcs : cs = .scope b :: rest)
    (h : Trip P lent (flat b) st fun e st' => Then P lent rest e st' Q) : Trip P lent cs st Q := by
  subst hcs
  intro ρ0 w0 hN K hK a w hA
  simp only [wpL]
  refine wp_scope_straight (flat_wp b ?_)
  refine h ρ0 w0 hN _ ?_ a w hA
  intro e st' a' w' hR hA'
  cases e with
  | normal => exact hR ρ0 w0 hN K hK a' w' hA'
  | ret => exact hK _ _ _ _ hR hA'
  | exit j => exact hK _ _ _ _ hR hA'

/-- The end of a function: its results, handed back. -/
def Hands (P : Program) (fn : Func) (k : Nat) (keep : Bool) (r : Out) (e : AE) (st : ASt) : Prop :=
  (e = .normal ∨ e = .ret) ∧ ∃ vs obs, resultsA P fn st fn.results.toList = some (vs, obs) ∧ allTrue obs ∧ handA k keep st.heap (oneRes vs) = some r

theorem Trip.contract {P : Program} {f : FuncId} {fn : Func} {c : Code} (hf : P.funcs[f]? = some fn) (hc : fn.body = some c) {lent : List Blk} {args : List AV} {r : Out} {keep : Bool}
    (h : Trip P lent (flat c) (entryOf fn lent args) (Hands P fn lent.length keep r)) : Contract P f lent args r := by
  refine contract_of_wp (keep := keep) hf hc ?_
  intro ρ w a hN hs
  refine flat_wp c ?_
  refine h ρ w hN _ ?_ a w ⟨ρ, Ext.refl _ _, WLe.refl _ _, hs, fun _ _ q => q, Nat.le_refl _⟩
  rintro e st' a' w' ⟨he, vs, obs, h1, h2, h3⟩ ⟨ρ', E, W, S, hbk, _⟩
  refine ⟨?_, ρ', st', vs, obs, E, W, hbk, S, h1, h2, h3⟩
  rcases he with rfl | rfl
  · exact .inl rfl
  · exact .inr rfl

end Go.Plb

/-
  ENGINE, PART 26: a float's size, its sign; when two floats are the same.
-/
namespace Go.Plb
set_option linter.unusedSimpArgs false
set_option linter.unusedVariables false

def fabs (x : Nat) : Nat := x % 9223372036854775808
def fcopy (x y : Nat) : Nat := x % 9223372036854775808 + y / 9223372036854775808 % 2 * 9223372036854775808
def sameB (x y : Nat) : Bool := (isNaN x && isNaN y) || x == y

theorem ofInt_nat (x : Nat) : BitVec.ofInt 64 (x : Int) = BitVec.ofNat 64 x := by simp
theorem not_top : ~~~ BitVec.ofInt 64 9223372036854775808 = BitVec.ofNat 64 (2 ^ 63 - 1) := by decide

theorem u64_wrap_nat (n : Nat) : IntKind.u64.wrap (n : Int) = ((n % 18446744073709551616 : Nat) : Int) := by
  simp [IntKind.wrap, IntKind.signed, IntKind.bits]

theorem abs_eq (x : Nat) : (bitsV .andNot .u64 (x : Int) 9223372036854775808) = ((fabs x : Nat) : Int) := by
  have e : (BitVec.ofInt IntKind.u64.bits (x : Int) &&& ~~~ BitVec.ofInt IntKind.u64.bits 9223372036854775808).toNat = x % 9223372036854775808 := by
    show (BitVec.ofInt 64 (x : Int) &&& ~~~ BitVec.ofInt 64 9223372036854775808).toNat = _
    rw [not_top, ofInt_nat, BitVec.toNat_and, BitVec.toNat_ofNat, BitVec.toNat_ofNat]
    have : (2 ^ 63 - 1) % 2 ^ 64 = 2 ^ 63 - 1 := by decide
    rw [this, Nat.and_two_pow_sub_one_eq_mod]
    omega
  unfold bitsV
  simp only
  rw [e, u64_wrap_nat]
  congr 1
  unfold fabs
  omega

theorem top_eq (y : Nat) : (bitsV .and .u64 (y : Int) 9223372036854775808) = ((y / 9223372036854775808 % 2 * 9223372036854775808 : Nat) : Int) := by
  have e : (BitVec.ofInt IntKind.u64.bits (y : Int) &&& BitVec.ofInt IntKind.u64.bits 9223372036854775808).toNat = y / 9223372036854775808 % 2 * 9223372036854775808 := by
    show (BitVec.ofInt 64 (y : Int) &&& BitVec.ofInt 64 9223372036854775808).toNat = _
    have h1 : BitVec.ofInt 64 9223372036854775808 = BitVec.ofNat 64 (2 ^ 63) := by decide
    rw [h1, ofInt_nat, BitVec.toNat_and, BitVec.toNat_ofNat, BitVec.toNat_ofNat]
    have : 2 ^ 63 % 2 ^ 64 = 2 ^ 63 := by decide
    rw [this]
    apply Nat.eq_of_testBit_eq; intro i
    have e2 : (9223372036854775808 : Nat) = 2 ^ 63 := by decide
    rw [e2, Nat.testBit_and, Nat.testBit_two_pow, Nat.testBit_mod_two_pow, Nat.testBit_mul_two_pow]
    by_cases hi : 63 = i
    · subst hi
      simp [Nat.testBit_eq_decide_div_mod_eq]
    · by_cases h2 : 63 ≤ i
      · have h3 : ∃ j, i - 63 = j + 1 := ⟨i - 64, by omega⟩
        obtain ⟨j, hj⟩ := h3
        have : (y / 2 ^ 63 % 2).testBit (i - 63) = false := by
          have := Nat.mod_lt (y / 2 ^ 63) (by decide : 2 > 0)
          apply Nat.testBit_lt_two_pow
          calc y / 2 ^ 63 % 2 < 2 := this
            _ = 2 ^ 1 := rfl
            _ ≤ 2 ^ (i - 63) := Nat.pow_le_pow_right (by decide) (by omega)
        simp [hi, this]
      · simp [hi, h2]
  unfold bitsV
  simp only
  rw [e, u64_wrap_nat]
  congr 1
  omega

theorem abs2_eq (x : Nat) : (IntKind.u64.wrap ((x : Int) * 2 ^ min (Int.toNat 1) IntKind.u64.bits)).fdiv (2 ^ min (Int.toNat 1) IntKind.u64.bits) = ((fabs x : Nat) : Int) := by
  have h1 : min (Int.toNat 1) IntKind.u64.bits = 1 := by decide
  have h2 : (2 : Int) ^ 1 = 2 := by decide
  rw [h1, h2]
  have h3 : (x : Int) * 2 = ((x * 2 : Nat) : Int) := by push_cast; rfl
  rw [h3, u64_wrap_nat, Int.fdiv_eq_ediv_of_nonneg _ (by decide : (0 : Int) ≤ 2)]
  unfold fabs
  omega

theorem top2_eq (y : Nat) : IntKind.u64.wrap ((y : Int).fdiv (2 ^ min (Int.toNat 63) IntKind.u64.bits) * 2 ^ min (Int.toNat 63) IntKind.u64.bits) = ((y / 9223372036854775808 % 2 * 9223372036854775808 : Nat) : Int) := by
  have h1 : min (Int.toNat 63) IntKind.u64.bits = 63 := by decide
  have h2 : (2 : Int) ^ 63 = 9223372036854775808 := by decide
  rw [h1, h2, Int.fdiv_eq_ediv_of_nonneg _ (by decide : (0 : Int) ≤ 9223372036854775808)]
  have h3 : (y : Int) / 9223372036854775808 * 9223372036854775808 = ((y / 9223372036854775808 * 9223372036854775808 : Nat) : Int) := by rw [Int.natCast_mul, Int.natCast_ediv]; rfl
  rw [h3, u64_wrap_nat]
  congr 1
  omega

theorem or_eq (x y : Nat) : bitsV .or .u64 ((fabs x : Nat) : Int) ((y / 9223372036854775808 % 2 * 9223372036854775808 : Nat) : Int) = ((fcopy x y : Nat) : Int) := by
  have e : (BitVec.ofInt IntKind.u64.bits ((fabs x : Nat) : Int) ||| BitVec.ofInt IntKind.u64.bits ((y / 9223372036854775808 % 2 * 9223372036854775808 : Nat) : Int)).toNat = fcopy x y := by
    show (BitVec.ofInt 64 ((fabs x : Nat) : Int) ||| BitVec.ofInt 64 ((y / 9223372036854775808 % 2 * 9223372036854775808 : Nat) : Int)).toNat = _
    rw [ofInt_nat, ofInt_nat, BitVec.toNat_or, BitVec.toNat_ofNat, BitVec.toNat_ofNat]
    unfold fabs fcopy
    have hb0 := Nat.mod_lt (y / 9223372036854775808) (by decide : 2 > 0)
    generalize y / 9223372036854775808 % 2 = b at *
    have e2 : (9223372036854775808 : Nat) = 2 ^ 63 := by decide
    have l1 : x % 9223372036854775808 % 2 ^ 64 = x % 9223372036854775808 := by omega
    rw [l1]
    rcases Nat.lt_or_ge b 2 with hb | hb
    · have l2 : b * 9223372036854775808 % 2 ^ 64 = b * 9223372036854775808 := by omega
      rw [l2, Nat.or_comm, Nat.add_comm, e2, Nat.mul_comm b, Nat.two_pow_add_eq_or_of_lt (Nat.mod_lt _ (by decide))]
    · omega
  unfold bitsV
  simp only
  rw [e, u64_wrap_nat]
  congr 1
  unfold fcopy
  have := Nat.mod_lt x (by decide : 9223372036854775808 > 0)
  have := Nat.mod_lt (y / 9223372036854775808) (by decide : 2 > 0)
  omega

theorem isNaN_fabs (x : Nat) : isNaN (fabs x) = isNaN x := by
  rw [isNaN_eq, isNaN_eq]; unfold fabs; rw [Nat.mod_mod]
theorem isNaN_fcopy (x y : Nat) : isNaN (fcopy x y) = isNaN x := by
  rw [isNaN_eq, isNaN_eq]; unfold fcopy
  rw [Nat.add_mul_mod_self_right, Nat.mod_mod]

theorem FR.abs {ex : Bool} {x y : Nat} (h : FR ex x y) : FR false (fabs x) (fabs y) := by
  rcases h with rfl | ⟨h1, h2, h3⟩
  · exact .inl rfl
  · exact .inr ⟨rfl, by rw [isNaN_fabs]; exact h2, by rw [isNaN_fabs]; exact h3⟩

theorem FR.copy {e1 e2 : Bool} {x y x' y' : Nat} (h : FR e1 x x') (k : FR e2 y y') (hn : isNaN y = true → isNaN x = true) : FR false (fcopy x y) (fcopy x' y') := by
  rcases h with rfl | ⟨h1, h2, h3⟩
  · rcases k with rfl | ⟨k1, k2, k3⟩
    · exact .inl rfl
    · exact .inr ⟨rfl, by rw [isNaN_fcopy]; exact hn k2, by rw [isNaN_fcopy]; exact hn k2⟩
  · exact .inr ⟨rfl, by rw [isNaN_fcopy]; exact h2, by rw [isNaN_fcopy]; exact h3⟩

theorem FR.same {e1 e2 : Bool} {x y x' y' : Nat} (h : FR e1 x x') (k : FR e2 y y') : sameB x' y' = sameB x y := by
  unfold sameB
  rcases h with rfl | ⟨h1, h2, h3⟩
  · rcases k with rfl | ⟨k1, k2, k3⟩
    · rfl
    · rw [k2, k3]
      cases hx : isNaN x' with
      | true => rfl
      | false =>
        have a : (x' == y') = false := by
          rw [beq_eq_false_iff_ne]; intro e; rw [e] at hx; rw [hx] at k3; cases k3
        have b : (x' == y) = false := by
          rw [beq_eq_false_iff_ne]; intro e; rw [e] at hx; rw [hx] at k2; cases k2
        rw [a, b]
  · rcases k with rfl | ⟨k1, k2, k3⟩
    · rw [h2, h3]
      cases hx : isNaN y' with
      | true => rfl
      | false =>
        have a : (x' == y') = false := by
          rw [beq_eq_false_iff_ne]; intro e; rw [e] at h3; rw [hx] at h3; cases h3
        have b : (x == y') = false := by
          rw [beq_eq_false_iff_ne]; intro e; rw [e] at h2; rw [hx] at h2; cases h2
        rw [a, b]
    · rw [h2, h3, k2, k3]; rfl

theorem sameB_refl (x : Nat) : sameB x x = true := by simp [sameB]

/-- What is handed back may be told with less. -/
theorem Out.Holds.weak {ρ : Place} {w w' : World} {k : Nat} {v v' : AV} {own : List (Option Blk)} {u : Value} (h : (⟨v, own⟩ : Out).Holds ρ w w' k u) (hw : ∀ ρ w, VR ρ w v u → VR ρ w v' u) : (⟨v', own⟩ : Out).Holds ρ w w' k u := by
  obtain ⟨ρ', h1, h2, h3, h4⟩ := h
  exact ⟨ρ', h1, h2, h3, hw _ _ h4⟩

/-- A contract by the bits that a float really has. -/
theorem Contract.exact1 {P : Program} {f : FuncId} {ex : Bool} {x : Nat} {r : Nat → AV} {r' : AV} (h : ∀ y, Contract P f [] [.flt true y] ⟨r y, []⟩)
    (hw : ∀ y, FR ex x y → ∀ ρ w u, VR ρ w (r y) u → VR ρ w r' u) : Contract P f [] [.flt ex x] ⟨r', []⟩ := by
  intro ρ w us hN hv
  cases hv with | cons _ u _ _ h1 h2 =>
  cases h2
  cases h1 with | flt _ _ y hf =>
  obtain ⟨q1, q2⟩ := h y ρ w [.float .f64 y] hN (.cons _ _ _ _ (.flt _ _ _ (.inl rfl)) .nil)
  refine ⟨q1, q2.mono ?_⟩
  rintro e w' ⟨u, rfl, W, hu⟩
  exact ⟨u, rfl, W, hu.weak fun ρ w => hw y hf ρ w u⟩

theorem Contract.exact2 {P : Program} {f : FuncId} {e1 e2 : Bool} {x1 x2 : Nat} {r : Nat → Nat → AV} {r' : AV} (h : ∀ y1 y2, Contract P f [] [.flt true y1, .flt true y2] ⟨r y1 y2, []⟩)
    (hw : ∀ y1 y2, FR e1 x1 y1 → FR e2 x2 y2 → ∀ ρ w u, VR ρ w (r y1 y2) u → VR ρ w r' u) : Contract P f [] [.flt e1 x1, .flt e2 x2] ⟨r', []⟩ := by
  intro ρ w us hN hv
  cases hv with | cons _ u _ _ h1 h2 =>
  cases h2 with | cons _ u _ _ h3 h4 =>
  cases h4
  cases h1 with | flt _ _ y1 hf1 =>
  cases h3 with | flt _ _ y2 hf2 =>
  obtain ⟨q1, q2⟩ := h y1 y2 ρ w [.float .f64 y1, .float .f64 y2] hN (.cons _ _ _ _ (.flt _ _ _ (.inl rfl)) (.cons _ _ _ _ (.flt _ _ _ (.inl rfl)) .nil))
  refine ⟨q1, q2.mono ?_⟩
  rintro e w' ⟨u, rfl, W, hu⟩
  exact ⟨u, rfl, W, hu.weak fun ρ w => hw y1 y2 hf1 hf2 ρ w u⟩

theorem VR.flt_weak {ρ : Place} {w : World} {x y : Nat} {u : Value} (h : VR ρ w (.flt true y) u) (hf : FR false x y) : VR ρ w (.flt false x) u := by
  cases h with | flt _ _ z hz =>
  rcases hz with rfl | ⟨h1, _⟩
  · exact .flt _ _ _ hf
  · cases h1

theorem VR.bool_weak {ρ : Place} {w : World} {k k' b : Bool} {u : Value} (h : VR ρ w (.bool k b) u) : VR ρ w (.bool k' b) u := by
  cases h; exact .bool _ _

theorem fne_self (x : Nat) : fne x x = isNaN x := by
  cases h : isNaN x with
  | true => unfold fne; rw [ord_nan (.inl h)]; rfl
  | false =>
    simp only [fne, ford]
    unfold isNaN FloatKind.decode at h
    unfold Ieee.Format.order
    generalize FloatKind.f64.format.read x = d at h
    cases d with
    | nan => simp [Ieee.Datum.isNaN] at h
    | infinity s => simp [Ieee.Datum.order]
    | number s m i => simp [Ieee.Datum.order]

end Go.Plb

/-
  ENGINE, PART 27: what was proved of functions, as a list.
-/
namespace Go.Plb
set_option linter.unusedSimpArgs false
set_option linter.unusedVariables false

structure Entry where
  f : FuncId
  on : List Blk → List AV → Option (List EAlt)

def sumsOf : List Entry → Sums
  | [], _, _, _ => none
  | e :: l, f, lent, args => bif Nat.beq e.f f then (match e.on lent args with | some r => some r | none => sumsOf l f lent args) else sumsOf l f lent args

def EntryOk (P : Program) (e : Entry) : Prop := ∀ lent args alts a, e.on lent args = some alts → a ∈ alts → allTrue a.obs → Contract P e.f lent args a.out

theorem sumsOf_nil (P : Program) : SumsOk P (sumsOf []) := fun f lent args alts a h => by cases h

theorem sumsOf_cons {P : Program} {e : Entry} {l : List Entry} (he : EntryOk P e) (hl : SumsOk P (sumsOf l)) : SumsOk P (sumsOf (e :: l)) := by
  intro f lent args alts a h ha ho
  simp only [sumsOf] at h
  cases hb : Nat.beq e.f f with
  | false => rw [hb] at h; exact hl f lent args alts a h ha ho
  | true =>
    rw [hb] at h
    have := Nat.eq_of_beq_eq_true hb
    subst this
    simp only [cond_true] at h
    split at h
    · rename_i r hr
      cases h
      exact he lent args alts a hr ha ho
    · exact hl _ lent args alts a h ha ho

theorem sumsOf_append {P : Program} : ∀ {l l' : List Entry}, (∀ e ∈ l, EntryOk P e) → SumsOk P (sumsOf l') → SumsOk P (sumsOf (l ++ l'))
  | [], l', _, h => h
  | e :: l, l', he, h => sumsOf_cons (he e (by simp)) (sumsOf_append (fun x hx => he x (by simp [hx])) h)

/-- One way, with its condition. -/
def one (v : AV) (obs : List Bool) : Option (List EAlt) := some [⟨⟨v, []⟩, obs⟩]
/-- One way, with blocks that are handed over. -/
def oneOwn (v : AV) (own : List (Option Blk)) (obs : List Bool) : Option (List EAlt) := some [⟨⟨v, own⟩, obs⟩]

theorem entry_own {P : Program} {f : FuncId} {lent : List Blk} {args : List AV} {alts : List EAlt} {a : EAlt} {v : AV} {own : List (Option Blk)} {obs : List Bool} (h : oneOwn v own obs = some alts) (ha : a ∈ alts) (ho : allTrue a.obs)
    (hc : allTrue obs → Contract P f lent args ⟨v, own⟩) : Contract P f lent args a.out := by
  simp only [oneOwn, Option.some.injEq] at h; subst h
  simp only [List.mem_singleton] at ha; subst ha
  exact hc ho

theorem entry_one {P : Program} {f : FuncId} {lent : List Blk} {args : List AV} {alts : List EAlt} {a : EAlt} {v : AV} {obs : List Bool} (h : one v obs = some alts) (ha : a ∈ alts) (ho : allTrue a.obs)
    (hc : allTrue obs → Contract P f lent args ⟨v, []⟩) : Contract P f lent args a.out := entry_own (own := []) h ha ho hc

/-- By a run of the function's text. -/
theorem Contract.run {C : Ctx} (hC : C.Ok) {S : Sums} (hS : SumsOk C.P S) (p : Path) {f : FuncId} {lent : List Blk} {args : List AV} {p' : Path} {r : Out} {obs : List Bool} (N n : Nat) (h : fnRun C S (runCode C S N n) f lent args p = some (r, obs, p')) (ho : allTrue obs) :
    Contract C.P f lent args r := contract_of_run hC hS N n h ho

theorem ob {b : Bool} {l : List Bool} (h : b = true) (t : allTrue l) : allTrue (b :: l) := ⟨h, t⟩
theorem nob : allTrue [] := trivial
theorem isF {b : Bool} (h : b = false) : (b == false) = true := by rw [h]; rfl
theorem isT {b : Bool} (h : b = true) : (b == true) = true := by rw [h]; rfl
theorem decT {p : Prop} [Decidable p] (h : p) : (decide p == true) = true := by simp [h]
theorem decF {p : Prop} [Decidable p] (h : ¬ p) : (decide p == false) = true := by simp [h]
theorem inK_nat {n : Nat} (h : n ≤ 9223372036854775807) : inK .i64 (n : Int) = true := by
  have h1 : IntKind.i64.min = -9223372036854775808 := by decide
  have h2 : IntKind.i64.max = 9223372036854775807 := by decide
  simp only [inK, h1, h2, Bool.and_eq_true, decide_eq_true_eq]; omega
theorem inB_nat {k n : Nat} (h : k < n) : inB (k : Int) n = true := by
  simp only [inB, Bool.and_eq_true, decide_eq_true_eq]; omega
theorem leB_nat {k n : Nat} (h : k ≤ n) : leB (k : Int) n = true := by
  simp only [leB, Bool.and_eq_true, decide_eq_true_eq]; omega
theorem inK_int {n : Int} (h1 : -9223372036854775808 ≤ n) (h2 : n ≤ 9223372036854775807) : inK .i64 n = true := by
  have e1 : IntKind.i64.min = -9223372036854775808 := by decide
  have e2 : IntKind.i64.max = 9223372036854775807 := by decide
  simp only [inK, e1, e2, Bool.and_eq_true, decide_eq_true_eq]; omega

/-- The second one says no more. -/
inductive WeakerL : List AV → List AV → Prop
  | nil : WeakerL [] []
  | cons {v v' : AV} {l l' : List AV} (h : Weaker v v') (t : WeakerL l l') : WeakerL (v :: l) (v' :: l')

theorem WeakerL.vrs {ρ : Place} {w : World} : ∀ {l l' : List AV} {c : List Value}, WeakerL l l' → VRs ρ w l c → VRs ρ w l' c
  | _, _, _, .nil, .nil => .nil
  | _, _, _, .cons h t, .cons _ _ _ _ hv tv => .cons _ _ _ _ (h _ _ _ hv) (WeakerL.vrs t tv)

theorem WeakerL.refl : ∀ l : List AV, WeakerL l l
  | [] => .nil
  | v :: l => .cons (Weaker.refl v) (WeakerL.refl l)

theorem Weaker.agg {l l' : List AV} (h : WeakerL l l') : Weaker (.agg l) (.agg l') := by
  intro ρ w u hv; cases hv with | agg _ _ hl => exact .agg _ _ (h.vrs hl)
theorem Weaker.tup {l l' : List AV} (h : WeakerL l l') : Weaker (.tup l) (.tup l') := by
  intro ρ w u hv; cases hv with | tup _ _ hl => exact .tup _ _ (h.vrs hl)

/-- Arguments that stand for more. -/
theorem Contract.args {P : Program} {f : FuncId} {lent : List Blk} {a a' : List AV} {r : Out} (h : Contract P f lent a' r) (ha : WeakerL a a') : Contract P f lent a r :=
  fun ρ w us hN hv => h ρ w us hN (ha.vrs hv)
theorem Contract.weak {P : Program} {f : FuncId} {lent : List Blk} {a : List AV} {v v' : AV} {own : List (Option Blk)} (h : Contract P f lent a ⟨v, own⟩) (hw : Weaker v v') : Contract P f lent a ⟨v', own⟩ := by
  intro ρ w us hN hv
  obtain ⟨q1, q2⟩ := h ρ w us hN hv
  refine ⟨q1, q2.mono ?_⟩
  rintro e w' ⟨u, rfl, W, hu⟩
  exact ⟨u, rfl, W, hu.weak fun ρ w => hw ρ w u⟩
theorem nsl_imm (l : Lv) (d : Blk) (k es i : Nat) (hr : d.recKept) (hk : d.kept = true) (hg : d.foreign = true) : Weaker .nsl (.imm l d k es i 0) := by
  intro ρ w u h; cases h; exact .immEnd _ _ _ _ _ _ _ hr (fun _ => hk) hg
theorem bool_loose (k k' b : Bool) : Weaker (.bool k b) (.bool k' b) := by
  intro ρ w u h; cases h; exact .bool _ _
end Go.Plb
