/-
  Part 3 of what the claim leans on: an evaluator of the model, proved sound; the contracts of the functions.
-/
import Derived.Test.YtanghnggbjpjgaaChecked
import Derived.KernelRfl
import Derived.Test.YtanghnggbjpjgaaA2
/-
  THE LAW's FRAME: lists of structs, as columns.
-/
namespace Go.Plb
open Go.ChangeShapes Go.WideShapes Go.ChangeAt Go.RowKit Go.Deep
set_option linter.unusedSimpArgs false
set_option linter.unusedVariables false

def FA.n : FA → Nat
  | .f x => x
  | _ => 0
def FA.z : FA → Int
  | .i _ n => n
  | _ => 0
def FA.bb : FA → Bool
  | .b x => x
  | _ => false
def FA.ss : FA → ByteArray
  | .s x => x
  | _ => ByteArray.empty
def FA.lf : FA → List Nat
  | .fl x => x
  | _ => []
def FA.lz : FA → List Int
  | .ns _ x => x
  | _ => []

def colOf (ft : FT) (g : Nat → FA) (n : Nat) : Col :=
  match ft with
  | .i k => .ci k ((List.range n).map fun i => (g i).z)
  | .f => .cf ((List.range n).map fun i => (g i).n)
  | .s => .cs ((List.range n).map fun i => (g i).ss)
  | .b => .cb ((List.range n).map fun i => (g i).bb)
  | .fl => .cfl ((List.range n).map fun i => (g i).lf)
  | .ns k => .cns k ((List.range n).map fun i => (g i).lz)

theorem range_map_get {α : Type} {f : Nat → α} {h : α → AV} {n i : Nat} {v : AV} (q : (((List.range n).map f)[i]?).map h = some v) : i < n ∧ v = h (f i) := by
  simp only [Option.map_eq_some_iff] at q
  obtain ⟨y, h1, h2⟩ := q
  obtain ⟨a, rfl⟩ := list_range_get _ _ _ _ h1
  exact ⟨a, h2.symm⟩

theorem colOf_len (ft : FT) (g : Nat → FA) (n : Nat) : (colOf ft g n).len = n := by cases ft <;> simp [colOf, Col.len]
theorem colOf_cell {ft : FT} {g : Nat → FA} {n i : Nat} {v : AV} (h : (colOf ft g n).cell? i = some v) (hg : i < n → (g i).has ft) : i < n ∧ v = (g i).av := by
  cases ft <;> simp only [colOf, Col.cell?] at h <;> obtain ⟨h1, h2⟩ := range_map_get h <;> have := hg h1 <;> refine ⟨h1, ?_⟩ <;> rw [h2] <;> clear h2 h hg <;> generalize g i = a at this ⊢ <;> cases a <;> simp only [FA.has] at this <;> first | rfl | (obtain ⟨rfl, _⟩ := this; rfl)

def colsOf (G : Nat → Nat → FA) (n : Nat) : List FT → Nat → List Col
  | [], _ => []
  | ft :: l, j => colOf ft (fun i => G i j) n :: colsOf G n l (j + 1)
theorem colsOf_len (G : Nat → Nat → FA) (n : Nat) : ∀ (l : List FT) (j : Nat), (colsOf G n l j).length = l.length
  | [], _ => rfl
  | ft :: l, j => by simp [colsOf, colsOf_len G n l]
theorem colsOf_get {G : Nat → Nat → FA} {n : Nat} : ∀ {l : List FT} {j k : Nat} {c : Col}, (colsOf G n l j)[k]? = some c → ∃ ft, l[k]? = some ft ∧ c = colOf ft (fun i => G i (j + k)) n
  | [], j, k, c, h => by simp [colsOf] at h
  | ft :: l, j, 0, c, h => by simp [colsOf] at h; exact ⟨ft, rfl, h.symm⟩
  | ft :: l, j, k + 1, c, h => by
    obtain ⟨ft', h1, h2⟩ := colsOf_get (l := l) (j := j + 1) (k := k) (by simpa [colsOf] using h)
    exact ⟨ft', by simpa using h1, by rw [h2]; congr 1; funext i; congr 1; omega⟩

theorem hasAll_len : ∀ {fts : List FT} {fas : List FA}, FA.hasAll fts fas → fas.length = fts.length
  | [], [], _ => rfl
  | [], _ :: _, h => h.elim
  | _ :: _, [], h => h.elim
  | _ :: _, _ :: _, h => by simp [hasAll_len h.2]
theorem hasAll_get : ∀ {fts : List FT} {fas : List FA}, FA.hasAll fts fas → ∀ {j : Nat} {ft : FT}, fts[j]? = some ft → ∃ a, fas[j]? = some a ∧ a.has ft
  | [], [], _, j, ft, q => by simp at q
  | [], _ :: _, h, _, _, _ => h.elim
  | _ :: _, [], h, _, _, _ => h.elim
  | t :: ts, a :: fas, h, 0, ft, q => by simp at q; subst q; exact ⟨a, rfl, h.1⟩
  | t :: ts, a :: fas, h, j + 1, ft, q => by
    obtain ⟨b, h1, h2⟩ := hasAll_get h.2 (by simpa using q)
    exact ⟨b, by simpa using h1, h2⟩
theorem avs_get : ∀ {fas : List FA} {j : Nat} {a : FA}, fas[j]? = some a → (FA.avs fas)[j]? = some a.av
  | [], j, a, h => by simp at h
  | b :: l, 0, a, h => by simp at h; subst h; rfl
  | b :: l, j + 1, a, h => by simpa [FA.avs] using avs_get (by simpa using h)
theorem vrs_get {ρ : Place} {w : World} : ∀ {l : List AV} {c : List Value}, VRs ρ w l c → ∀ {j : Nat} {v : AV}, l[j]? = some v → ∃ u, c[j]? = some u ∧ VR ρ w v u
  | _, _, .nil, j, v, h => by simp at h
  | _, _, .cons v u l c a t, 0, v', h => by simp at h; subst h; exact ⟨u, rfl, a⟩
  | _, _, .cons v u l c a t, j + 1, v', h => by
    obtain ⟨u', h1, h2⟩ := vrs_get t (by simpa using h)
    exact ⟨u', by simpa using h1, h2⟩

variable {H : Type} {enc : TypeId × Value → H} {P : Program} {W : World}

instance : Inhabited FA := ⟨.b false⟩

/-- A list of structs as an argument. -/
theorem open_rows {t e : TypeId} {fts : List FT} {v : Value} {d : DataW H} {p : List MemPlace} {base : Nat} (ht : P.underlying t = some (.slice e)) (he : stOf P e = some fts) (hw : fts.length = P.cellsOf e) (hpos : 0 < fts.length) (ho : Value.okWide P W .any base t v) (h : DataW.Trod enc P W 0 (fun _ => true) true t v d p) :
    ∃ (n : Nat) (G : Nat → Nat → FA), n ≤ maxLen ∧ (∀ i j ft, i < n → fts[j]? = some ft → (G i j).has ft) ∧ VR Place.none_ W (.imm .free (.cols n (colsOf G n fts 0)) fts.length fts.length 0 n) v := by
  obtain ⟨fuel, hf⟩ := h
  have hc : v.cells.toList = [v] := by
    have hne : ∀ c, v ≠ .agg c := by
      rintro c rfl
      unfold Value.okWide at ho
      rw [ht] at ho; simp [Cell.okWide, Cell.ok, ht] at ho
    cases v <;> first | rfl | exact (hne _ rfl).elim
  rw [hc] at hf
  have rk : ∀ (n : Nat) (G : Nat → Nat → FA), (Blk.cols n (colsOf G n fts 0)).recKept := by
    intro n G c hc
    obtain ⟨k, hk⟩ := List.getElem?_of_mem hc
    obtain ⟨ft, _, rfl⟩ := colsOf_get hk
    exact colOf_len _ _ _
  rcases open_slice ht hf with ⟨h1, _⟩ | ⟨a, len, cap, m, n, D, Pl, h1, hb, hl, hm, hmm, _, hx⟩
  · simp only [List.cons.injEq, and_true] at h1; subst h1
    exact ⟨0, fun _ _ => default, Nat.zero_le _, fun i j ft hi => absurd hi (Nat.not_lt_zero _), .immEnd _ _ _ _ _ _ _ (rk _ _) (fun _ => rfl) rfl⟩
  · simp only [List.cons.injEq, and_true] at h1; subst h1
    obtain ⟨F, hF⟩ := choose_lt (α := List FA) (n := len) (p := fun i fas => FA.hasAll fts fas ∧ ∃ cs, W.cells? 0 (a.add (i * P.cellsOf e)) (P.cellsOf e) = some cs ∧ VRs Place.none_ W (FA.avs fas) cs) (fun i hi => by
      obtain ⟨cs', q1, q2⟩ := hx i (by rw [hmm, if_pos rfl]; omega)
      obtain ⟨fas, q3, q4⟩ := open_stcells he q2
      exact ⟨fas, q3, cs', q1, q4⟩)
    refine ⟨len, fun i j => (F i).getD j default, by omega, fun i j ft hi hj => ?_, ?_⟩
    · obtain ⟨b, q1, q2⟩ := hasAll_get (hF i hi).1 hj
      simp only [List.getD_eq_getElem?_getD, q1, Option.getD_some]; exact q2
    · rcases Nat.eq_zero_or_pos len with rfl | hz
      · exact .immEnd _ _ _ _ _ _ _ (rk _ _) (fun _ => rfl) rfl
      · -- the cells
        have hcell0 : ∀ i j ft, i < len → fts[j]? = some ft → ∃ u, W.cell? ((a.add (i * P.cellsOf e)).add j) = some u ∧ VR Place.none_ W ((F i).getD j default).av u := by
          intro i j ft hi hj
          obtain ⟨k1, cs, k2, k3⟩ := hF i hi
          obtain ⟨b, q1, q2⟩ := hasAll_get k1 hj
          obtain ⟨u, q3, q4⟩ := vrs_get k3 (avs_get q1)
          obtain ⟨_, r1, r2⟩ := World.cells?_some k2
          refine ⟨u, ?_, ?_⟩
          · rw [r2 j (by have := (List.getElem?_eq_some_iff.1 hj).1; omega)]; exact q3
          · simp only [List.getD_eq_getElem?_getD, q1, Option.getD_some]; exact q4
        have hs : a.spot = none := by
          obtain ⟨ft, hft⟩ : ∃ ft, fts[0]? = some ft := ⟨_, List.getElem?_eq_getElem hpos⟩
          obtain ⟨u, q, _⟩ := hcell0 0 0 ft hz hft
          have e0 : (a.add (0 * P.cellsOf e)).add 0 = a := by simp [Addr.add]
          rw [e0] at q
          exact spot_of_cell q
        obtain ⟨bl, o, sp⟩ := a
        simp only at hs; subst hs
        have hcell : ∀ i j ft, i < len → fts[j]? = some ft → ∃ u, W.cell? ⟨bl, o + (i * fts.length + j), none⟩ = some u ∧ VR Place.none_ W ((F i).getD j default).av u := by
          intro i j ft hi hj
          obtain ⟨u, q1, q2⟩ := hcell0 i j ft hi hj
          rw [addr_add, addr_add, ← hw, Nat.add_assoc] at q1
          exact ⟨u, q1, q2⟩
        have hblk : ∀ x v, (Blk.cols len (colsOf (fun i j => (F i).getD j default) len fts 0)).cell? x = some v → ∃ u, W.cell? ⟨bl, o + x, none⟩ = some u ∧ VR Place.none_ W v u := by
          intro x v hv
          obtain ⟨c, q1, _, q3⟩ := Blk.cols_cell hv
          rw [colsOf_len] at q1 q3
          obtain ⟨ft, q4, rfl⟩ := colsOf_get q1
          rw [Nat.zero_add] at q3
          obtain ⟨q5, rfl⟩ := colOf_cell q3 (fun hi => by
            obtain ⟨b, r1, r2⟩ := hasAll_get (hF _ hi).1 q4
            simp only [List.getD_eq_getElem?_getD, r1, Option.getD_some]; exact r2)
          obtain ⟨u, r1, r2⟩ := hcell _ _ _ q5 q4
          have ex : x / fts.length * fts.length + x % fts.length = x := by rw [Nat.mul_comm]; exact Nat.div_add_mod x _
          rw [ex] at r1
          exact ⟨u, r1, r2⟩
        have hlt : bl < W.heap.size := by
          obtain ⟨ft, hft⟩ : ∃ ft, fts[0]? = some ft := ⟨_, List.getElem?_eq_getElem hpos⟩
          obtain ⟨u, q, _⟩ := hcell 0 0 ft hz hft
          exact lt_of_cell q
        have := VR.imm (ρ := Place.none_) (w := W) .free (.cols len (colsOf (fun i j => (F i).getD j default) len fts 0)) fts.length fts.length 0 len cap bl o (fun x => (W.cell? ⟨bl, o + x, none⟩).getD undef) (none_avoid _ _) hlt
          (fun x v hx' => by obtain ⟨u, q, _⟩ := hblk x v hx'; rw [q]; rfl) (fun x v hx' => by obtain ⟨u, q, r⟩ := hblk x v hx'; rw [q]; exact r) hl (rk _ _) (fun _ => rfl) rfl
        simpa using this

/-- A list of structs of a list of floats and a float. -/
theorem rows_flf {G : Nat → Nat → FA} {n : Nat} (hG : ∀ i j ft, i < n → [FT.fl, FT.f][j]? = some ft → (G i j).has ft) :
    ∃ (vs : List (List Nat)) (ts : List Nat), colsOf G n [.fl, .f] 0 = [.cfl vs, .cf ts] ∧ vs.length = n ∧ ts.length = n ∧ ∀ i, i < vs.length → (vs.getD i []).length ≤ maxLen := by
  refine ⟨_, _, rfl, by simp, by simp, fun i hi => ?_⟩
  simp only [List.length_map, List.length_range] at hi
  have := hG i 0 .fl hi rfl
  simp only [List.getD_eq_getElem?_getD, List.getElem?_map, List.getElem?_range hi, Option.map_some, Option.getD_some]
  revert this
  generalize G i (0 + 0) = a
  cases a <;> simp only [FA.has, FA.lf, false_imp_iff, List.length_nil, Nat.zero_le, imp_true_iff]
  exact fun h => h.1
end Go.Plb

/-
  THE SEAT: its functions by name; its context. Printed by seat.py.
-/
namespace Go.Plb.Seat
open Go Go.Plb Go.Proofs
noncomputable abbrev prog : Program := Try.prog
abbrev n_gosem_cut_init : FuncId := 2
abbrev n_law09_ReflectMakes : FuncId := 3
abbrev n_law09_ReflectTurns : FuncId := 4
abbrev n_law09_ReflectFactors : FuncId := 5
abbrev n_law09_ReflectBlocks : FuncId := 6
abbrev n_law09_known : FuncId := 7
abbrev n_reflect_Make : FuncId := 8
abbrev n_ref09_Make : FuncId := 9
abbrev n_ref06_Same : FuncId := 10
abbrev n_ref06_SameAll : FuncId := 11
abbrev n_law09_few : FuncId := 12
abbrev n_ref09_Copy : FuncId := 13
abbrev n_reflect_Left : FuncId := 14
abbrev n_reflect_Right : FuncId := 15
abbrev n_law09_fits : FuncId := 16
abbrev n_ref09_Same : FuncId := 17
abbrev n_ref09_Left : FuncId := 18
abbrev n_ref09_Right : FuncId := 19
abbrev n_law09_total : FuncId := 20
abbrev n_reflect_Factor : FuncId := 21
abbrev n_ref09_Alike : FuncId := 22
abbrev n_ref09_Factor : FuncId := 23
abbrev n_reflect_Block : FuncId := 24
abbrev n_ref09_May : FuncId := 25
abbrev n_ref09_Block : FuncId := 26
abbrev n_small_Norm : FuncId := 27
abbrev n_math_Copysign : FuncId := 28
abbrev n_small_Hypot : FuncId := 29
abbrev n_ref06_Norm : FuncId := 30
abbrev n_ref06_Sign : FuncId := 31
abbrev n_ref06_Hypot : FuncId := 32
abbrev n_math_Float64bits : FuncId := 33
abbrev n_reflect_may : FuncId := 34
abbrev n_slices_Clone : FuncId := 35
abbrev n_reflect_sum : FuncId := 36
abbrev n_reflect_Left_1 : FuncId := 37
abbrev n_reflect_Right_1 : FuncId := 38
abbrev n_reflect_alike : FuncId := 39
abbrev n_reflect_Factor_1 : FuncId := 40
abbrev n_reflect_Factor_2 : FuncId := 41
abbrev n_reflect_Block_1 : FuncId := 42
abbrev n_reflect_Block_2 : FuncId := 43
abbrev n_reflect_Block_3 : FuncId := 44
abbrev n_math_Abs : FuncId := 45
abbrev n_math_Sqrt : FuncId := 46
abbrev n_math_Float64frombits : FuncId := 47
abbrev n_ref06_Abs : FuncId := 48
abbrev n_slices_ContainsFunc : FuncId := 49
abbrev n_reflect_alike_1 : FuncId := 50
abbrev n_math_sqrt : FuncId := 51
abbrev n_slices_IndexFunc : FuncId := 52
noncomputable def FN (f : FuncId) : Func := (prog.funcs[f]?).getD default
noncomputable def BODY (f : FuncId) : Code := ((FN f).body).getD .skip
noncomputable def C0 : Ctx := ctxOf prog [(n_math_Float64bits, .bits), (n_math_Float64frombits, .frombits), (n_math_sqrt, .sqrt)] []
theorem ext_math_Float64bits : IsExt prog n_math_Float64bits .bits := ⟨FN n_math_Float64bits, by kernel_rfl, by kernel_rfl, by kernel_rfl, by kernel_rfl, by kernel_rfl⟩
theorem ext_math_Float64frombits : IsExt prog n_math_Float64frombits .frombits := ⟨FN n_math_Float64frombits, by kernel_rfl, by kernel_rfl, by kernel_rfl, by kernel_rfl, by kernel_rfl⟩
theorem ext_math_sqrt : IsExt prog n_math_sqrt .sqrt := ⟨FN n_math_sqrt, by kernel_rfl, by kernel_rfl, by kernel_rfl, by kernel_rfl, by kernel_rfl⟩
theorem mixed : prog.follows .mixedOrders = true := by kernel_rfl
theorem names : namesOk prog = true := by kernel_rfl
theorem C0_ok : C0.Ok := ctxOf_ok mixed names (by
  intro x hx
  simp only [List.mem_cons, List.not_mem_nil, or_false] at hx
  rcases hx with rfl | rfl | rfl
  · exact ext_math_Float64bits
  · exact ext_math_Float64frombits
  · exact ext_math_sqrt
  )
noncomputable def C0w : Ctx := { C0 with wrap := true }
theorem C0w_ok : C0w.Ok := ⟨C0_ok.mixed, C0_ok.enter, C0_ok.ext⟩
end Go.Plb.Seat

namespace Go.Plb.Seat
open Go Go.Plb
set_option linter.unusedSimpArgs false
set_option linter.unusedVariables false

noncomputable abbrev E0 : Sums := sumsOf []
theorem E0_ok : SumsOk prog E0 := sumsOf_nil prog

theorem c_Abs (ex : Bool) (x : Nat) : Contract prog n_math_Abs [] [.flt ex x] ⟨.flt false (fabs x), []⟩ := by
  refine Contract.exact1 (r := fun y => .flt true (fabs y)) (fun y => ?_) (fun y hf ρ w u h => h.flt_weak ?_)
  · have h : fnRun C0 E0 (runCode C0 E0 0 50) n_math_Abs [] [.flt true y] (some []) = some (⟨.flt true (bitsV .andNot .u64 (y : Int) 9223372036854775808).toNat, []⟩, [], some []) := by kernel_rfl
    have := Contract.run C0_ok E0_ok _ _ _ h trivial
    rw [abs_eq, Int.toNat_natCast] at this; exact this
  · cases ex with
    | false => exact FR.abs hf
    | true => rcases hf with rfl | ⟨q, _⟩; exact .inl rfl; cases q

theorem c_Abs6 (ex : Bool) (x : Nat) : Contract prog n_ref06_Abs [] [.flt ex x] ⟨.flt false (fabs x), []⟩ := by
  refine Contract.exact1 (r := fun y => .flt true (fabs y)) (fun y => ?_) (fun y hf ρ w u h => h.flt_weak ?_)
  · have h : fnRun C0 E0 (runCode C0 E0 0 50) n_ref06_Abs [] [.flt true y] (some []) = some (⟨.flt true ((IntKind.u64.wrap ((y : Int) * 2 ^ min (Int.toNat 1) IntKind.u64.bits)).fdiv (2 ^ min (Int.toNat 1) IntKind.u64.bits)).toNat, []⟩, [true, true], some []) := by kernel_rfl
    have := Contract.run C0_ok E0_ok _ _ _ h ⟨rfl, rfl, trivial⟩
    rw [abs2_eq, Int.toNat_natCast] at this; exact this
  · exact FR.abs hf

theorem c_Copysign (e1 e2 : Bool) (x y : Nat) (hn : isNaN y = true → isNaN x = true) : Contract prog n_math_Copysign [] [.flt e1 x, .flt e2 y] ⟨.flt false (fcopy x y), []⟩ := by
  refine Contract.exact2 (r := fun x y => .flt true (fcopy x y)) (fun x y => ?_) (fun x' y' h1 h2 ρ w u h => h.flt_weak (FR.copy h1 h2 hn))
  have h : fnRun C0 E0 (runCode C0 E0 0 50) n_math_Copysign [] [.flt true x, .flt true y] (some []) = some (⟨.flt true (bitsV .or .u64 (bitsV .andNot .u64 (x : Int) 9223372036854775808) (bitsV .and .u64 (y : Int) 9223372036854775808)).toNat, []⟩, [], some []) := by kernel_rfl
  have := Contract.run C0_ok E0_ok _ _ _ h trivial
  rw [abs_eq, top_eq, or_eq, Int.toNat_natCast] at this; exact this

theorem c_Sign6 (e1 e2 : Bool) (x y : Nat) (hn : isNaN y = true → isNaN x = true) : Contract prog n_ref06_Sign [] [.flt e1 x, .flt e2 y] ⟨.flt false (fcopy x y), []⟩ := by
  refine Contract.exact2 (r := fun x y => .flt true (fcopy x y)) (fun x y => ?_) (fun x' y' h1 h2 ρ w u h => h.flt_weak (FR.copy h1 h2 hn))
  have h : fnRun C0 E0 (runCode C0 E0 0 50) n_ref06_Sign [] [.flt true x, .flt true y] (some []) = some (⟨.flt true (bitsV .or .u64
      ((IntKind.u64.wrap ((x : Int) * 2 ^ min (Int.toNat 1) IntKind.u64.bits)).fdiv (2 ^ min (Int.toNat 1) IntKind.u64.bits))
      (IntKind.u64.wrap ((y : Int).fdiv (2 ^ min (Int.toNat 63) IntKind.u64.bits) * 2 ^ min (Int.toNat 63) IntKind.u64.bits))).toNat, []⟩, [true, true, true, true], some []) := by kernel_rfl
  have := Contract.run C0_ok E0_ok _ _ _ h ⟨rfl, rfl, rfl, rfl, trivial⟩
  rw [abs2_eq, top2_eq, or_eq, Int.toNat_natCast] at this; exact this

theorem c_Same6 (e1 e2 : Bool) (x y : Nat) : Contract prog n_ref06_Same [] [.flt e1 x, .flt e2 y] ⟨.bool false (sameB x y), []⟩ := by
  refine Contract.exact2 (r := fun x y => .bool false (sameB x y)) (fun x y => ?_) (fun x' y' h1 h2 ρ w u h => by rw [← FR.same h1 h2]; exact h)
  have hb : ((x : Int) == (y : Int)) = (x == y) := by
    rw [Bool.eq_iff_iff]; simp; omega
  cases hx : isNaN x with
  | false =>
    have h : fnRun C0 E0 (runCode C0 E0 0 50) n_ref06_Same [] [.flt true x, .flt true y] (some [0]) = some (⟨.bool false ((x : Int) == (y : Int)), []⟩, [fne x x == false], some []) := by kernel_rfl
    have := Contract.run C0_ok E0_ok _ _ _ h ⟨by rw [fne_self, hx]; rfl, trivial⟩
    rw [hb] at this
    simp only [sameB, hx, Bool.false_and, Bool.false_or]; exact this
  | true =>
    cases hy : isNaN y with
    | false =>
      have h : fnRun C0 E0 (runCode C0 E0 0 50) n_ref06_Same [] [.flt true x, .flt true y] (some [1, 0]) = some (⟨.bool false ((x : Int) == (y : Int)), []⟩, [fne x x == true, fne y y == false], some []) := by kernel_rfl
      have := Contract.run C0_ok E0_ok _ _ _ h ⟨by rw [fne_self, hx]; rfl, by rw [fne_self, hy]; rfl, trivial⟩
      rw [hb] at this
      simp only [sameB, hx, hy, Bool.and_false, Bool.false_or]; exact this
    | true =>
      have h : fnRun C0 E0 (runCode C0 E0 0 50) n_ref06_Same [] [.flt true x, .flt true y] (some [1, 1]) = some (⟨.bool true true, []⟩, [fne x x == true, fne y y == true], some []) := by kernel_rfl
      have := Contract.run C0_ok E0_ok _ _ _ h ⟨by rw [fne_self, hx]; rfl, by rw [fne_self, hy]; rfl, trivial⟩
      have e : sameB x y = true := by simp [sameB, hx, hy]
      rw [e]
      exact this.weak (bool_loose _ _ _)

def e_Abs : Entry := ⟨n_math_Abs, fun L args => match L, args with | [], [.flt _ x] => one (.flt false (fabs x)) [] | _, _ => none⟩
def e_Abs6 : Entry := ⟨n_ref06_Abs, fun L args => match L, args with | [], [.flt _ x] => one (.flt false (fabs x)) [] | _, _ => none⟩
def e_Copysign : Entry := ⟨n_math_Copysign, fun L args => match L, args with | [], [.flt _ x, .flt _ y] => one (.flt false (fcopy x y)) [!isNaN y || isNaN x] | _, _ => none⟩
def e_Sign6 : Entry := ⟨n_ref06_Sign, fun L args => match L, args with | [], [.flt _ x, .flt _ y] => one (.flt false (fcopy x y)) [!isNaN y || isNaN x] | _, _ => none⟩
def e_Same6 : Entry := ⟨n_ref06_Same, fun L args => match L, args with | [], [.flt _ x, .flt _ y] => one (.bool false (sameB x y)) [] | _, _ => none⟩

theorem e_Abs_ok : EntryOk prog e_Abs := by
  intro L args alts a h ha ho
  simp only [e_Abs] at h
  split at h
  · exact entry_one h ha ho fun _ => c_Abs _ _
  · cases h
theorem e_Abs6_ok : EntryOk prog e_Abs6 := by
  intro L args alts a h ha ho
  simp only [e_Abs6] at h
  split at h
  · exact entry_one h ha ho fun _ => c_Abs6 _ _
  · cases h
theorem nanImp {x y : Nat} (h : allTrue [!isNaN y || isNaN x]) : isNaN y = true → isNaN x = true := by
  intro hy; have := h.1; rw [hy] at this; simpa using this
theorem e_Copysign_ok : EntryOk prog e_Copysign := by
  intro L args alts a h ha ho
  simp only [e_Copysign] at h
  split at h
  · exact entry_one h ha ho fun q => c_Copysign _ _ _ _ (nanImp q)
  · cases h
theorem e_Sign6_ok : EntryOk prog e_Sign6 := by
  intro L args alts a h ha ho
  simp only [e_Sign6] at h
  split at h
  · exact entry_one h ha ho fun q => c_Sign6 _ _ _ _ (nanImp q)
  · cases h
theorem e_Same6_ok : EntryOk prog e_Same6 := by
  intro L args alts a h ha ho
  simp only [e_Same6] at h
  split at h
  · exact entry_one h ha ho fun q => c_Same6 _ _ _ _
  · cases h

def L1 : List Entry := [e_Abs, e_Abs6, e_Copysign, e_Sign6, e_Same6]
def S1 : Sums := sumsOf L1
theorem S1_ok : SumsOk prog S1 := sumsOf_cons e_Abs_ok (sumsOf_cons e_Abs6_ok (sumsOf_cons e_Copysign_ok (sumsOf_cons e_Sign6_ok (sumsOf_cons e_Same6_ok (sumsOf_nil _)))))

end Go.Plb.Seat

/-
  ENGINE, PART 28: shapes of arguments: what is open in them, as plain data.
-/
namespace Go.Plb
set_option linter.unusedSimpArgs false
set_option linter.unusedVariables false

/-- A part of a list. -/
def cutL {α : Type} (o n : Nat) (l : List α) : List α := (dropA o l).take n
theorem cutL_eq {α : Type} (o n : Nat) (l : List α) : cutL o n l = (l.drop o).take n := by
  unfold cutL dropA; cases o <;> rfl
theorem cutL_all {α : Type} (l : List α) : cutL 0 l.length l = l := by simp [cutL_eq]
theorem cutL_len {α : Type} {o n : Nat} {l : List α} (h : o + n ≤ l.length) : (cutL o n l).length = n := by rw [cutL_eq]; simp; omega
theorem cutL_get {α : Type} {o n : Nat} {l : List α} {i : Nat} {v : α} (h : (cutL o n l)[i]? = some v) : l[o + i]? = some v := by
  rw [cutL_eq, List.getElem?_take] at h
  split at h
  · rw [List.getElem?_drop] at h; exact h
  · cases h
theorem cutL_nil {α : Type} (o n : Nat) : cutL o n ([] : List α) = [] := by simp [cutL_eq]

def slOk {α : Type} (o n : Nat) (xs : List α) : Bool := Nat.ble (o + n) xs.length
theorem slOk_iff {α : Type} {o n : Nat} {xs : List α} : slOk o n xs = true ↔ o + n ≤ xs.length := by unfold slOk; rw [Nat.ble_eq]

theorem Weaker.imm_part {l : Lv} {d d' : Blk} {w es o n : Nat} (h : ∀ x v, d'.cell? x = some v → d.cell? (o * w + x) = some v) (hr : d.recKept → d'.recKept) (hk : d'.kept = true) (hg : d'.foreign = true) :
    Weaker (.imm l d w es o n) (.imm l d' w es 0 n) := by
  intro ρ w' u hv
  cases hv with
  | imm _ _ _ _ _ _ cap bl o' u' ha hb hc hv' hl' hr' _ _ =>
    have := VR.imm (ρ := ρ) (w := w') l d' w es 0 n cap bl (o' + o * w) (fun x => u' (o * w + x)) ha hb
      (fun x v hx => by rw [Nat.add_assoc]; exact hc _ v (h x v hx)) (fun x v hx => hv' _ v (h x v hx)) hl' (hr hr') (fun _ => hk) hg
    simpa using this
  | immEnd _ _ _ _ _ _ _ hr' => exact .immEnd _ _ _ _ _ _ _ (hr hr') (fun _ => hk) hg
theorem Weaker.nsl_part {l : Lv} {d' : Blk} {w es : Nat} (hr : d'.recKept) (hk : d'.kept = true) (hg : d'.foreign = true) : Weaker .nsl (.imm l d' w es 0 0) := by
  intro ρ w' u hv; cases hv; exact .immEnd _ _ _ _ _ _ _ hr (fun _ => hk) hg
theorem Weaker.esl_part {l : Lv} {d' : Blk} {w es : Nat} (hr : d'.recKept) (hk : d'.kept = true) (hg : d'.foreign = true) : Weaker .esl (.imm l d' w es 0 0) := by
  intro ρ w' u hv; cases hv; exact .immEnd _ _ _ _ _ _ _ hr (fun _ => hk) hg

theorem WeakerL.get : ∀ {l1 l2 : List AV}, WeakerL l1 l2 → ∀ {x : Nat} {v : AV}, l2[x]? = some v → ∃ v0, l1[x]? = some v0 ∧ Weaker v0 v
  | _, _, .nil, x, v, h => by simp at h
  | _, _, .cons a t, 0, v, h => by simp at h; subst h; exact ⟨_, rfl, a⟩
  | _, _, .cons a t, x + 1, v, h => by
    obtain ⟨v0, h1, h2⟩ := WeakerL.get t (by simpa using h)
    exact ⟨v0, by simpa using h1, h2⟩

theorem Weaker.iptr_vs {lv : Lv} {l1 l2 : List AV} {k i j : Nat} (h : WeakerL l1 l2) (hk : keptAll l1 = true → keptAll l2 = true) (hg : foreignAll l1 = true → foreignAll l2 = true) : Weaker (.iptr lv (.vs l1) k i j) (.iptr lv (.vs l2) k i j) := by
  intro ρ w u hv
  cases hv with | iptr _ _ _ _ _ bl o u' ha hb hc hv' hr hk' hg' =>
  refine .iptr _ _ _ _ _ bl o u' ha hb (fun x v hx => ?_) (fun x v hx => ?_) trivial (fun q => hk (hk' q)) (hg hg')
  · obtain ⟨v0, h1, h2⟩ := h.get hx
    exact hc x v0 h1
  · obtain ⟨v0, h1, h2⟩ := h.get hx
    exact h2 _ _ _ (hv' x v0 h1)

theorem Weaker.fn {f : Fn} {a b a' b' : List AV} (h : WeakerL a a') (k : WeakerL b b') : Weaker (.fn f a b) (.fn f a' b') := by
  intro ρ w u hv
  cases hv with | fn _ _ _ c1 c2 h1 h2 => exact .fn _ _ _ _ _ (h.vrs h1) (k.vrs h2)
theorem Weaker.iface {t : TypeId} {a b : AV} (h : Weaker a b) : Weaker (.iface t a) (.iface t b) := by
  intro ρ w u hv
  cases hv with | iface _ _ u h1 => exact .iface _ _ _ (h _ _ _ h1)
theorem Weaker.any (v : AV) : Weaker v .any := fun _ _ u _ => .any u

/-- A column's kind. -/
inductive CK where
  | cf
  | ci (k : IntKind)
  | cb
  | cs
  | cfl
  | cns (k : IntKind)

def CK.Ty : CK → Type
  | .cf => List Nat
  | .ci _ => List Int
  | .cb => List Bool
  | .cs => List ByteArray
  | .cfl => List (List Nat)
  | .cns _ => List (List Int)

def CK.fit : (k : CK) → (o n : Nat) → Col → Option k.Ty
  | .cf, o, n, .cf xs => some (cutL o n xs)
  | .ci k, o, n, .ci k' xs => bif sameK k k' then some (cutL o n xs) else none
  | .cb, o, n, .cb xs => some (cutL o n xs)
  | .cs, o, n, .cs xs => some (cutL o n xs)
  | .cfl, o, n, .cfl xs => some (cutL o n xs)
  | .cns k, o, n, .cns k' xs => bif sameK k k' then some (cutL o n xs) else none
  | _, _, _, _ => none
def CK.emp : (k : CK) → k.Ty
  | .cf => ([] : List Nat)
  | .ci _ => ([] : List Int)
  | .cb => ([] : List Bool)
  | .cs => ([] : List ByteArray)
  | .cfl => ([] : List (List Nat))
  | .cns _ => ([] : List (List Int))
def CK.col : (k : CK) → k.Ty → Col
  | .cf, xs => .cf xs
  | .ci k, xs => .ci k xs
  | .cb, xs => .cb xs
  | .cs, xs => .cs xs
  | .cfl, xs => .cfl xs
  | .cns k, xs => .cns k xs

theorem sameK_iff {a b : IntKind} : sameK a b = true ↔ a = b := by simp [sameK]

theorem map_cut {α : Type} {f : α → AV} {o n i : Nat} {xs : List α} {v : AV} (h : ((cutL o n xs)[i]?).map f = some v) : (xs[o + i]?).map f = some v := by
  simp only [Option.map_eq_some_iff] at h ⊢
  obtain ⟨y, h1, h2⟩ := h
  exact ⟨y, cutL_get h1, h2⟩

theorem CK.fit_spec : ∀ {k : CK} {o n : Nat} {c : Col} {t : k.Ty}, k.fit o n c = some t → (o + n ≤ c.len → (k.col t).len = n) ∧ ∀ i v, (k.col t).cell? i = some v → c.cell? (o + i) = some v := by
  intro k o n c t h
  cases k <;> cases c <;> simp only [CK.fit] at h <;> try (cases h; done)
  case cf.cf xs => cases h; exact ⟨fun q => cutL_len q, fun i v q => map_cut q⟩
  case ci.ci k k' xs =>
    cases e : sameK k k' with
    | false => rw [e] at h; cases h
    | true => rw [e] at h; cases h; cases (sameK_iff.1 e); exact ⟨fun q => cutL_len q, fun i v q => map_cut q⟩
  case cb.cb xs => cases h; exact ⟨fun q => cutL_len q, fun i v q => map_cut q⟩
  case cs.cs xs => cases h; exact ⟨fun q => cutL_len q, fun i v q => map_cut q⟩
  case cfl.cfl xs => cases h; exact ⟨fun q => cutL_len q, fun i v q => map_cut q⟩
  case cns.cns k k' xs =>
    cases e : sameK k k' with
    | false => rw [e] at h; cases h
    | true => rw [e] at h; cases h; cases (sameK_iff.1 e); exact ⟨fun q => cutL_len q, fun i v q => map_cut q⟩

theorem CK.emp_len : ∀ (k : CK), (k.col k.emp).len = 0 := by intro k; cases k <;> rfl

def CKs.Ty : List CK → Type
  | [] => Unit
  | k :: l => k.Ty × CKs.Ty l
def CKs.fit : (l : List CK) → (o n : Nat) → List Col → Option (CKs.Ty l)
  | [], _, _, [] => some ()
  | k :: l, o, n, c :: cs => (k.fit o n c).bind fun t => (CKs.fit l o n cs).map fun r => (t, r)
  | _, _, _, _ => none
def CKs.emp : (l : List CK) → CKs.Ty l
  | [] => ()
  | k :: l => (k.emp, CKs.emp l)
def CKs.cols : (l : List CK) → CKs.Ty l → List Col
  | [], _ => []
  | k :: l, t => k.col t.1 :: CKs.cols l t.2

theorem CKs.len : ∀ {l : List CK} {t : CKs.Ty l}, (CKs.cols l t).length = l.length
  | [], t => rfl
  | k :: l, t => by simp [CKs.cols, CKs.len]

theorem CKs.fit_len : ∀ {l : List CK} {o n : Nat} {cs : List Col} {t : CKs.Ty l}, CKs.fit l o n cs = some t → cs.length = l.length
  | [], o, n, [], t, h => rfl
  | [], o, n, c :: cs, t, h => by simp [CKs.fit] at h
  | k :: l, o, n, [], t, h => by simp [CKs.fit] at h
  | k :: l, o, n, c :: cs, t, h => by
    simp only [CKs.fit] at h
    cases e1 : k.fit o n c with
    | none => rw [e1] at h; cases h
    | some a =>
      rw [e1] at h
      cases e2 : CKs.fit l o n cs with
      | none => simp only [Option.bind_some, e2] at h; cases h
      | some b => simp [CKs.fit_len e2]

theorem CKs.fit_spec : ∀ {l : List CK} {o n : Nat} {cs : List Col} {t : CKs.Ty l}, CKs.fit l o n cs = some t → ∀ (j : Nat) (c' : Col), (CKs.cols l t)[j]? = some c' → ∃ c : Col, cs[j]? = some c ∧ (o + n ≤ c.len → c'.len = n) ∧ ∀ i v, c'.cell? i = some v → c.cell? (o + i) = some v
  | [], o, n, cs, t, h, j, c', q => by simp [CKs.cols] at q
  | k :: l, o, n, [], t, h, j, c', q => by simp [CKs.fit] at h
  | k :: l, o, n, c :: cs, t, h, j, c', q => by
    simp only [CKs.fit] at h
    cases e1 : k.fit o n c with
    | none => rw [e1] at h; cases h
    | some a =>
      rw [e1] at h
      cases e2 : CKs.fit l o n cs with
      | none => simp only [Option.bind_some, e2] at h; cases h
      | some b =>
        simp only [Option.bind_some, e2] at h
        cases h
        cases j with
        | zero => simp [CKs.cols] at q; subst q; exact ⟨c, rfl, CK.fit_spec e1⟩
        | succ j => exact CKs.fit_spec e2 j c' (by simpa [CKs.cols] using q)

theorem CKs.emp_len : ∀ (l : List CK), ∀ c ∈ CKs.cols l (CKs.emp l), c.len = 0
  | [], c, h => by cases h
  | k :: l, c, h => by
    simp only [CKs.cols, CKs.emp, List.mem_cons] at h
    rcases h with rfl | h
    · exact CK.emp_len k
    · exact CKs.emp_len l c h

mutual
/-- A shape of a value. -/
inductive Pat where
  | int (k : IntKind)
  | flt (ex : Bool)
  | bool
  | kbool (b : Bool)
  | str
  | fl
  | ns (k : IntKind)
  | bs
  | ss
  | cols (l : List CK)
  | ivs (ps : Pats) (w i j : Nat)
  | fn (f : FuncId) (a b : Pats)
  | nfn
  | nptr
  | agg (ps : Pats)
  | tup (ps : Pats)
  | iface (t : TypeId) (p : Pat)
  | niface
  | any
inductive Pats where
  | nil
  | cons (p : Pat) (ps : Pats)
end

mutual
def Pat.Ty : Pat → Type
  | .int _ => Int
  | .flt _ => Nat
  | .bool => Bool
  | .str => ByteArray
  | .fl => Lv × List Nat
  | .ns _ => Lv × List Int
  | .bs => Lv × List Bool
  | .ss => Lv × List ByteArray
  | .cols l => Lv × Nat × CKs.Ty l
  | .ivs ps _ _ _ => Lv × ps.Ty
  | .fn _ a b => a.Ty × b.Ty
  | .agg ps => ps.Ty
  | .tup ps => ps.Ty
  | .iface _ p => p.Ty
  | .kbool _ => Unit
  | .nfn => Unit
  | .nptr => Unit
  | .niface => Unit
  | .any => Unit
def Pats.Ty : Pats → Type
  | .nil => Unit
  | .cons p ps => p.Ty × ps.Ty
end

mutual
def Pat.av : (p : Pat) → p.Ty → AV
  | .int k, n => .int k n
  | .flt ex, x => .flt ex x
  | .bool, b => .bool false b
  | .str, s => .str s
  | .fl, t => .imm t.1 (.fl t.2) 1 1 0 t.2.length
  | .ns k, t => .imm t.1 (.ns k t.2) 1 1 0 t.2.length
  | .bs, t => .imm t.1 (.bs t.2) 1 1 0 t.2.length
  | .ss, t => .imm t.1 (.ss t.2) 1 1 0 t.2.length
  | .cols l, t => .imm t.1 (.cols t.2.1 (CKs.cols l t.2.2)) l.length l.length 0 t.2.1
  | .ivs ps w i j, t => .iptr t.1 (.vs (ps.avs t.2)) w i j
  | .fn f a b, t => .fn (.func f) (a.avs t.1) (b.avs t.2)
  | .agg ps, t => .agg (ps.avs t)
  | .tup ps, t => .tup (ps.avs t)
  | .iface y p, t => .iface y (p.av t)
  | .kbool b, _ => .bool true b
  | .nfn, _ => .nfn
  | .nptr, _ => .nptr
  | .niface, _ => .niface
  | .any, _ => .any
def Pats.avs : (ps : Pats) → ps.Ty → List AV
  | .nil, _ => []
  | .cons p ps, t => p.av t.1 :: ps.avs t.2
end

def boolEq (a b : Bool) : Bool := bif a then b else !b
theorem boolEq_iff {a b : Bool} : boolEq a b = true ↔ a = b := by cases a <;> cases b <;> simp [boolEq]

def CKs.ok (n : Nat) (m : Nat) : Bool := Nat.ble n m

def fitInt (k : IntKind) : AV → Option (Int × List Bool)
  | .int k' n => bif sameK k k' then some (n, []) else none
  | _ => none
def fitFlt (ex : Bool) : AV → Option (Nat × List Bool)
  | .flt ex' x => bif boolEq ex ex' then some (x, []) else none
  | _ => none
def fitBool : AV → Option (Bool × List Bool)
  | .bool kn b => bif kn then none else some (b, [])
  | _ => none
def fitKbool (b : Bool) : AV → Option (Unit × List Bool)
  | .bool kn b' => bif kn && boolEq b b' then some ((), []) else none
  | _ => none
def fitStr : AV → Option (ByteArray × List Bool)
  | .str s => some (s, [])
  | _ => none
def fitSl {α : Type} (f : Blk → Option (List α)) : AV → Option ((Lv × List α) × List Bool)
  | .imm l d w es o n => (f d).bind fun xs => bif Nat.beq w 1 && Nat.beq es 1 then some ((l, cutL o n xs), [slOk o n xs]) else none
  | .nsl => some ((.free, []), [])
  | .esl => some ((.free, []), [])
  | _ => none
def blkFl : Blk → Option (List Nat)
  | .fl xs => some xs
  | _ => none
def blkNs (k : IntKind) : Blk → Option (List Int)
  | .ns k' xs => bif sameK k k' then some xs else none
  | _ => none
def blkBs : Blk → Option (List Bool)
  | .bs xs => some xs
  | _ => none
def blkSs : Blk → Option (List ByteArray)
  | .ss xs => some xs
  | _ => none
def blkVs : Blk → Option (List AV)
  | .vs xs => some xs
  | _ => none
def blkCols : Blk → Option (Nat × List Col)
  | .cols m cs => some (m, cs)
  | _ => none
def fitCols (ks : List CK) : AV → Option ((Lv × Nat × CKs.Ty ks) × List Bool)
  | .imm l d w es o n => (blkCols d).bind fun q => bif Nat.beq w ks.length && Nat.beq es ks.length then (CKs.fit ks o n q.2).map fun t => ((l, n, t), [Nat.ble (o + n) q.1]) else none
  | .nsl => some ((.free, 0, CKs.emp ks), [])
  | .esl => some ((.free, 0, CKs.emp ks), [])
  | _ => none
def avIvs (w i j : Nat) : AV → Option (Lv × List AV)
  | .iptr l d w' i' j' => (blkVs d).bind fun xs => bif Nat.beq w w' && (Nat.beq i i' && Nat.beq j j') then some (l, xs) else none
  | _ => none
def avFn (f : FuncId) : AV → Option (List AV × List AV)
  | .fn (.func f') x y => bif Nat.beq f f' then some (x, y) else none
  | _ => none
def avAgg : AV → Option (List AV)
  | .agg l => some l
  | _ => none
def avTup : AV → Option (List AV)
  | .tup l => some l
  | _ => none
def avIface (t : TypeId) : AV → Option AV
  | .iface t' v => bif Nat.beq t t' then some v else none
  | _ => none
def avNfn : AV → Option (Unit × List Bool)
  | .nfn => some ((), [])
  | _ => none
def avNptr : AV → Option (Unit × List Bool)
  | .nptr => some ((), [])
  | _ => none
def avNiface : AV → Option (Unit × List Bool)
  | .niface => some ((), [])
  | _ => none

mutual
/-- A value's open parts, where it is of this shape; with what must hold. -/
def Pat.fit : (p : Pat) → AV → Option (p.Ty × List Bool)
  | .int k => fitInt k
  | .flt ex => fitFlt ex
  | .bool => fitBool
  | .kbool b => fitKbool b
  | .str => fitStr
  | .fl => fitSl blkFl
  | .ns k => fitSl (blkNs k)
  | .bs => fitSl blkBs
  | .ss => fitSl blkSs
  | .cols ks => fitCols ks
  | .ivs ps w i j => fun v => match avIvs w i j v with
    | some q => match ps.fit q.2 with
      | some r => some ((q.1, r.1), r.2)
      | none => none
    | none => none
  | .fn f a b => fun v => match avFn f v with
    | some q => match a.fit q.1 with
      | some r => match b.fit q.2 with
        | some s => some ((r.1, s.1), r.2 ++ s.2)
        | none => none
      | none => none
    | none => none
  | .agg ps => fun v => match avAgg v with
    | some l => ps.fit l
    | none => none
  | .tup ps => fun v => match avTup v with
    | some l => ps.fit l
    | none => none
  | .iface t p => fun v => match avIface t v with
    | some u => p.fit u
    | none => none
  | .nfn => avNfn
  | .nptr => avNptr
  | .niface => avNiface
  | .any => fun _ => some ((), [])
def Pats.fit : (ps : Pats) → List AV → Option (ps.Ty × List Bool)
  | .nil => fun l => match l with
    | [] => some ((), [])
    | _ :: _ => none
  | .cons p ps => fun l => match l with
    | [] => none
    | v :: l => match p.fit v with
      | some r => match ps.fit l with
        | some s => some ((r.1, s.1), r.2 ++ s.2)
        | none => none
      | none => none
end

theorem boolEqL {a b c : Bool} : (a && b) = true ↔ a = true ∧ b = true := Bool.and_eq_true_iff

theorem cols_part {ks : List CK} {o n m : Nat} {cs : List Col} {t : CKs.Ty ks} (h : CKs.fit ks o n cs = some t) : ∀ x v, (Blk.cols n (CKs.cols ks t)).cell? x = some v → (Blk.cols m cs).cell? (o * ks.length + x) = some v := by
  intro x v hx
  have hl := CKs.fit_len h
  obtain ⟨c', h1, _, h3⟩ := Blk.cols_cell hx
  obtain ⟨c, q1, _, q3⟩ := CKs.fit_spec h _ _ h1
  rw [CKs.len] at h1 h3 q1
  have hpos : 0 < ks.length := by
    have := (List.getElem?_eq_some_iff.1 q1).1
    omega
  simp only [Blk.cell?, hl, Option.bind_eq_some_iff]
  refine ⟨c, ?_, ?_⟩
  · rw [Nat.add_comm, Nat.add_mul_mod_self_right]; exact q1
  · rw [Nat.add_comm, Nat.add_mul_div_right _ _ hpos, Nat.add_comm]; exact q3 _ _ h3


/-- The second one says no more, and names no more. -/
structure Wk (v v' : AV) : Prop where
  weak : Weaker v v'
  kept : v.kept = true → v'.kept = true
  foreign : v.foreign = true → v'.foreign = true
structure WkL (v v' : List AV) : Prop where
  weak : WeakerL v v'
  kept : keptAll v = true → keptAll v' = true
  foreign : foreignAll v = true → foreignAll v' = true

theorem Wk.refl (v : AV) : Wk v v := ⟨Weaker.refl v, id, id⟩
theorem WkL.cons {v v' : AV} {l l' : List AV} (h : Wk v v') (k : WkL l l') : WkL (v :: l) (v' :: l') :=
  ⟨.cons h.weak k.weak, fun q => by simp only [keptAll, Bool.and_eq_true] at q ⊢; exact ⟨h.kept q.1, k.kept q.2⟩, fun q => by simp only [foreignAll, Bool.and_eq_true] at q ⊢; exact ⟨h.foreign q.1, k.foreign q.2⟩⟩

theorem Wk.part {l : Lv} {d d' : Blk} {w es o n : Nat} (h : ∀ x v, d'.cell? x = some v → d.cell? (o * w + x) = some v) (hr : d.recKept → d'.recKept) (hk : d'.kept = true) (hg : d'.foreign = true) : Wk (.imm l d w es o n) (.imm l d' w es 0 n) :=
  ⟨Weaker.imm_part h hr hk hg, id, id⟩
theorem Wk.nsl {d' : Blk} {w es : Nat} (hr : d'.recKept) (hk : d'.kept = true) (hg : d'.foreign = true) : Wk .nsl (.imm .free d' w es 0 0) := ⟨Weaker.nsl_part hr hk hg, id, id⟩
theorem Wk.esl {d' : Blk} {w es : Nat} (hr : d'.recKept) (hk : d'.kept = true) (hg : d'.foreign = true) : Wk .esl (.imm .free d' w es 0 0) := ⟨Weaker.esl_part hr hk hg, id, id⟩

theorem Wk.fl {l : Lv} {xs : List Nat} {o n : Nat} (h : slOk o n xs = true) : Wk (.imm l (.fl xs) 1 1 o n) (.imm l (.fl (cutL o n xs)) 1 1 0 (cutL o n xs).length) := by
  rw [cutL_len (slOk_iff.1 h)]; exact .part (fun x v q => by rw [Nat.mul_one]; exact map_cut q) (fun _ => trivial) rfl rfl
theorem Wk.ns {k : IntKind} {l : Lv} {xs : List Int} {o n : Nat} (h : slOk o n xs = true) : Wk (.imm l (.ns k xs) 1 1 o n) (.imm l (.ns k (cutL o n xs)) 1 1 0 (cutL o n xs).length) := by
  rw [cutL_len (slOk_iff.1 h)]; exact .part (fun x v q => by rw [Nat.mul_one]; exact map_cut q) (fun _ => trivial) rfl rfl
theorem Wk.bs {l : Lv} {xs : List Bool} {o n : Nat} (h : slOk o n xs = true) : Wk (.imm l (.bs xs) 1 1 o n) (.imm l (.bs (cutL o n xs)) 1 1 0 (cutL o n xs).length) := by
  rw [cutL_len (slOk_iff.1 h)]; exact .part (fun x v q => by rw [Nat.mul_one]; exact map_cut q) (fun _ => trivial) rfl rfl
theorem Wk.ss {l : Lv} {xs : List ByteArray} {o n : Nat} (h : slOk o n xs = true) : Wk (.imm l (.ss xs) 1 1 o n) (.imm l (.ss (cutL o n xs)) 1 1 0 (cutL o n xs).length) := by
  rw [cutL_len (slOk_iff.1 h)]; exact .part (fun x v q => by rw [Nat.mul_one]; exact map_cut q) (fun _ => trivial) rfl rfl

theorem cols_rec {ks : List CK} {o n m : Nat} {cs : List Col} {t : CKs.Ty ks} (h : CKs.fit ks o n cs = some t) (hm : o + n ≤ m) : (Blk.cols m cs).recKept → (Blk.cols n (CKs.cols ks t)).recKept := by
  intro hr c hc
  obtain ⟨j, hj⟩ := List.getElem?_of_mem hc
  obtain ⟨c0, q1, q2, _⟩ := CKs.fit_spec h j c hj
  exact q2 (by rw [hr c0 (List.mem_of_getElem? q1)]; exact hm)

theorem beq2 {w es n : Nat} (h : (Nat.beq w n && Nat.beq es n) = true) : w = n ∧ es = n := by
  rw [Bool.and_eq_true] at h; exact ⟨Nat.eq_of_beq_eq_true h.1, Nat.eq_of_beq_eq_true h.2⟩

theorem someP {α : Type} {a t : α} {b o : List Bool} (h : some (a, b) = some (t, o)) : a = t ∧ b = o := by
  simp only [Option.some.injEq, Prod.mk.injEq] at h; exact h

theorem bifS {α : Type} {c : Bool} {a : α} {x : α} (h : (bif c then some a else none) = some x) : c = true ∧ a = x := by
  cases c with
  | true => exact ⟨rfl, by simpa using h⟩
  | false => cases h
theorem bifN {α : Type} {c : Bool} {a : Option α} {x : α} (h : (bif c then a else none) = some x) : c = true ∧ a = some x := by
  cases c with
  | true => exact ⟨rfl, h⟩
  | false => cases h

theorem fitSl_spec {α : Type} {f : Blk → Option (List α)} {g : List α → Blk} (hg : ∀ {d xs}, f d = some xs → d = g xs)
    (hw : ∀ {l xs o n}, slOk o n xs = true → Wk (.imm l (g xs) 1 1 o n) (.imm l (g (cutL o n xs)) 1 1 0 (cutL o n xs).length)) (h0 : (g []).recKept ∧ (g []).kept = true ∧ (g []).foreign = true)
    {v : AV} {t : Lv × List α} {o : List Bool} (h : fitSl f v = some (t, o)) (ho : allTrue o) : Wk v (.imm t.1 (g t.2) 1 1 0 t.2.length) := by
  unfold fitSl at h
  split at h
  · rename_i l d w es i n
    cases e : f d with
    | none => rw [e] at h; cases h
    | some xs =>
      rw [e] at h
      obtain ⟨e2, h⟩ := bifS h
      obtain ⟨rfl, rfl⟩ := beq2 e2
      cases h; cases hg e; exact hw ho.1
  · cases h; exact .nsl h0.1 h0.2.1 h0.2.2
  · cases h; exact .esl h0.1 h0.2.1 h0.2.2
  · cases h

theorem fitCols_spec {ks : List CK} {v : AV} {t : Lv × Nat × CKs.Ty ks} {o : List Bool} (h : fitCols ks v = some (t, o)) (ho : allTrue o) : Wk v (.imm t.1 (.cols t.2.1 (CKs.cols ks t.2.2)) ks.length ks.length 0 t.2.1) := by
  unfold fitCols at h
  split at h
  · rename_i l d w es i n
    cases d <;> simp only [blkCols, Option.bind_none, Option.bind_some, reduceCtorEq] at h
    rename_i m cs
    have e := (bifN h).1; replace h := (bifN h).2
    obtain ⟨rfl, rfl⟩ := beq2 e
    cases e2 : CKs.fit ks i n cs with
    | none => rw [e2] at h; cases h
    | some r =>
      rw [e2] at h; cases h
      have : i + n ≤ m := Nat.le_of_ble_eq_true ho.1
      exact .part (cols_part e2) (cols_rec e2 this) rfl rfl
  · cases h; exact .nsl (CKs.emp_len ks) rfl rfl
  · cases h; exact .esl (CKs.emp_len ks) rfl rfl
  · cases h

mutual
theorem Pat.fit_spec : ∀ (p : Pat) (v : AV) {t : p.Ty} {o : List Bool}, p.fit v = some (t, o) → allTrue o → Wk v (p.av t)
  | .int k, v, t, o, h, ho => by
    simp only [Pat.fit, fitInt] at h
    split at h
    · obtain ⟨e, h⟩ := bifS h
      cases h; cases sameK_iff.1 e; exact .refl _
    · cases h
  | .flt ex, v, t, o, h, ho => by
    simp only [Pat.fit, fitFlt] at h
    split at h
    · obtain ⟨e, h⟩ := bifS h
      cases h; cases boolEq_iff.1 e; exact .refl _
    · cases h
  | .bool, v, t, o, h, ho => by
    simp only [Pat.fit, fitBool] at h
    split at h
    · rename_i kn b
      cases kn with
      | true => cases h
      | false => cases h; exact .refl _
    · cases h
  | .kbool b, v, t, o, h, ho => by
    simp only [Pat.fit, fitKbool] at h
    split at h
    · obtain ⟨e, h⟩ := bifS h
      rw [Bool.and_eq_true] at e
      cases e.1; cases boolEq_iff.1 e.2; exact .refl _
    · cases h
  | .str, v, t, o, h, ho => by
    simp only [Pat.fit, fitStr] at h
    split at h
    · cases h; exact .refl _
    · cases h
  | .fl, v, t, o, h, ho => fitSl_spec (g := .fl) (f := blkFl) (fun {d xs} e => by cases d <;> cases e; rfl) (fun q => .fl q) ⟨trivial, rfl, rfl⟩ h ho
  | .ns k, v, t, o, h, ho => fitSl_spec (g := .ns k) (f := blkNs k) (fun {d xs} e => by
      cases d <;> try (cases e; done)
      have e1 := (bifS e).1; replace e := (bifS e).2
      cases sameK_iff.1 e1; cases e; rfl) (fun q => .ns q) ⟨trivial, rfl, rfl⟩ h ho
  | .bs, v, t, o, h, ho => fitSl_spec (g := .bs) (f := blkBs) (fun {d xs} e => by cases d <;> cases e; rfl) (fun q => .bs q) ⟨trivial, rfl, rfl⟩ h ho
  | .ss, v, t, o, h, ho => fitSl_spec (g := .ss) (f := blkSs) (fun {d xs} e => by cases d <;> cases e; rfl) (fun q => .ss q) ⟨trivial, rfl, rfl⟩ h ho
  | .cols ks, v, t, o, h, ho => fitCols_spec h ho
  | .ivs ps w i j, v, t, o, h, ho => by
    simp only [Pat.fit] at h
    split at h
    case h_2 => cases h
    rename_i q hq
    split at h
    case h_2 => cases h
    rename_i r hr
    cases h
    unfold avIvs at hq
    split at hq
    case h_2 => cases hq
    rename_i l d w' i' j'
    cases d <;> simp only [blkVs, Option.bind_none, Option.bind_some, reduceCtorEq] at hq
    rename_i xs
    have e := (bifS hq).1; replace hq := (bifS hq).2
    rw [Bool.and_eq_true, Bool.and_eq_true] at e
    cases Nat.eq_of_beq_eq_true e.1
    cases Nat.eq_of_beq_eq_true e.2.1
    cases Nat.eq_of_beq_eq_true e.2.2
    cases hq
    have := Pats.fit_spec ps xs hr ho
    exact ⟨Weaker.iptr_vs this.weak this.kept this.foreign, id, id⟩
  | .fn f a b, v, t, o, h, ho => by
    simp only [Pat.fit] at h
    split at h
    case h_2 => cases h
    rename_i q hq
    split at h
    case h_2 => cases h
    rename_i r hr
    split at h
    case h_2 => cases h
    rename_i s hs
    cases h
    unfold avFn at hq
    split at hq
    case h_2 => cases hq
    have e := (bifS hq).1; replace hq := (bifS hq).2
    cases Nat.eq_of_beq_eq_true e
    cases hq
    rw [allTrue_append] at ho
    have h1 := Pats.fit_spec a _ hr ho.1
    have h2 := Pats.fit_spec b _ hs ho.2
    refine ⟨Weaker.fn h1.weak h2.weak, fun q => ?_, fun q => ?_⟩
    · simp only [Pat.av, AV.kept, Bool.and_eq_true] at q ⊢; exact ⟨h1.kept q.1, h2.kept q.2⟩
    · simp only [Pat.av, AV.foreign, Bool.and_eq_true] at q ⊢; exact ⟨h1.foreign q.1, h2.foreign q.2⟩
  | .agg ps, v, t, o, h, ho => by
    simp only [Pat.fit] at h
    split at h
    case h_2 => cases h
    rename_i l hl
    cases v <;> simp only [avAgg, reduceCtorEq, Option.some.injEq] at hl
    subst hl
    have := Pats.fit_spec ps _ h ho
    exact ⟨Weaker.agg this.weak, this.kept, this.foreign⟩
  | .tup ps, v, t, o, h, ho => by
    simp only [Pat.fit] at h
    split at h
    case h_2 => cases h
    rename_i l hl
    cases v <;> simp only [avTup, reduceCtorEq, Option.some.injEq] at hl
    subst hl
    have := Pats.fit_spec ps _ h ho
    exact ⟨Weaker.tup this.weak, this.kept, this.foreign⟩
  | .iface y p, v, t, o, h, ho => by
    simp only [Pat.fit] at h
    split at h
    case h_2 => cases h
    rename_i u hu
    unfold avIface at hu
    split at hu
    case h_2 => cases hu
    have e := (bifS hu).1; replace hu := (bifS hu).2
    cases Nat.eq_of_beq_eq_true e
    subst hu
    have := Pat.fit_spec p _ h ho
    exact ⟨Weaker.iface this.weak, this.kept, this.foreign⟩
  | .nfn, v, t, o, h, ho => by
    cases v <;> simp only [Pat.fit, avNfn, reduceCtorEq] at h
    exact .refl _
  | .nptr, v, t, o, h, ho => by
    cases v <;> simp only [Pat.fit, avNptr, reduceCtorEq] at h
    exact .refl _
  | .niface, v, t, o, h, ho => by
    cases v <;> simp only [Pat.fit, avNiface, reduceCtorEq] at h
    exact .refl _
  | .any, v, t, o, h, ho => ⟨Weaker.any v, fun _ => rfl, fun _ => rfl⟩
theorem Pats.fit_spec : ∀ (ps : Pats) (l : List AV) {t : ps.Ty} {o : List Bool}, ps.fit l = some (t, o) → allTrue o → WkL l (ps.avs t)
  | .nil, [], t, o, h, ho => ⟨.nil, id, id⟩
  | .nil, v :: l, t, o, h, ho => by simp [Pats.fit] at h
  | .cons p ps, [], t, o, h, ho => by simp [Pats.fit] at h
  | .cons p ps, v :: l, t, o, h, ho => by
    simp only [Pats.fit] at h
    split at h
    case h_2 => cases h
    rename_i r hr
    split at h
    case h_2 => cases h
    rename_i s hs
    cases h
    rw [allTrue_append] at ho
    exact .cons (Pat.fit_spec p v hr ho.1) (Pats.fit_spec ps l hs ho.2)
end

/-- An entry by shape. -/
def autoE (f : FuncId) (ps : Pats) (alts : ps.Ty → List EAlt) : Entry :=
  ⟨f, fun L args => match L with
    | [] => match ps.fit args with
      | some r => some ((alts r.1).map fun a => ⟨a.out, r.2 ++ a.obs⟩)
      | none => none
    | _ => none⟩

theorem autoE_ok {P : Program} {f : FuncId} {ps : Pats} {alts : ps.Ty → List EAlt} (h : ∀ t, ∀ a ∈ alts t, allTrue a.obs → Contract P f [] (ps.avs t) a.out) : EntryOk P (autoE f ps alts) := by
  intro L args al a hal ha ho
  simp only [autoE] at hal
  split at hal
  case h_2 => cases hal
  split at hal
  case h_2 => cases hal
  rename_i r hr
  obtain ⟨t, o⟩ := r
  simp only [Option.some.injEq] at hal
  subst hal
  simp only [List.mem_map] at ha
  obtain ⟨b, hb, rfl⟩ := ha
  simp only [allTrue_append] at ho
  exact (h t b hb ho.2).args (Pats.fit_spec ps args hr ho.1).weak

theorem altsNil {P : Program} {f : FuncId} {l : List AV} : ∀ a ∈ ([] : List EAlt), allTrue a.obs → Contract P f [] l a.out := fun a h => by cases h
theorem altsCons {P : Program} {f : FuncId} {l : List AV} {o : Out} {b : Bool} {al : List EAlt} (h : b = true → Contract P f [] l o) (t : ∀ a ∈ al, allTrue a.obs → Contract P f [] l a.out) : ∀ a ∈ (⟨o, [b]⟩ : EAlt) :: al, allTrue a.obs → Contract P f [] l a.out := by
  intro a ha ho
  rcases List.mem_cons.1 ha with rfl | ha
  · exact h ho.1
  · exact t a ha ho
end Go.Plb

/-
  EXTRACTION: a function's text as a plain function on plain data.
-/
namespace Go.Plb
set_option linter.unusedSimpArgs false
set_option linter.unusedVariables false

/-- A decision tree: what a piece of code without loops does. 'need': what must hold, lest nothing is said. -/
inductive T (α : Type) where
  | fail
  | leaf (a : α)
  | ask (b : Bool) (t f : T α)
  | need (b : Bool) (t : T α)
  | alt (k : Nat) (t e : T α)

def T.run {α : Type} : T α → Option α
  | .fail => none
  | .leaf a => some a
  | .ask b t f => bif b then t.run else f.run
  | .need b t => bif b then t.run else none
  | .alt _ t e => match t.run with
    | some a => some a
    | none => e.run

structure Leaf (α : Type) where
  path : List Nat
  obs : List Bool
  val : α

def Leaf.ask {α : Type} (n : Nat) (b : Bool) (l : Leaf α) : Leaf α := ⟨n :: l.path, b :: l.obs, l.val⟩
def Leaf.need {α : Type} (b : Bool) (l : Leaf α) : Leaf α := ⟨l.path, b :: l.obs, l.val⟩
def Leaf.alt {α : Type} (n : Nat) (l : Leaf α) : Leaf α := ⟨n :: l.path, l.obs, l.val⟩

def T.leaves {α : Type} : T α → List (Leaf α)
  | .fail => []
  | .leaf a => [⟨[], [], a⟩]
  | .ask b t f => t.leaves.map (Leaf.ask 1 (b == true)) ++ f.leaves.map (Leaf.ask 0 (b == false))
  | .need b t => t.leaves.map (Leaf.need b)
  | .alt k t e => t.leaves.map (Leaf.alt k) ++ e.leaves

theorem T.run_leaf {α : Type} : ∀ (t : T α) {a : α}, t.run = some a → ∃ l ∈ t.leaves, l.val = a ∧ allTrue l.obs
  | .fail, a, h => by cases h
  | .leaf b, a, h => by
    simp only [T.run, Option.some.injEq] at h; subst h
    exact ⟨⟨[], [], b⟩, by simp [T.leaves], rfl, trivial⟩
  | .ask b t f, a, h => by
    simp only [T.run] at h
    cases b with
    | true =>
      simp only [cond_true] at h
      obtain ⟨l, h1, h2, h3⟩ := T.run_leaf t h
      exact ⟨l.ask 1 (true == true), by simp only [T.leaves, List.mem_append]; exact .inl (List.mem_map_of_mem h1), h2, ⟨rfl, h3⟩⟩
    | false =>
      simp only [cond_false] at h
      obtain ⟨l, h1, h2, h3⟩ := T.run_leaf f h
      exact ⟨l.ask 0 (false == false), by simp only [T.leaves, List.mem_append]; exact .inr (List.mem_map_of_mem h1), h2, ⟨rfl, h3⟩⟩
  | .need b t, a, h => by
    simp only [T.run] at h
    cases b with
    | true =>
      simp only [cond_true] at h
      obtain ⟨l, h1, h2, h3⟩ := T.run_leaf t h
      exact ⟨l.need true, by simp only [T.leaves]; exact List.mem_map_of_mem h1, h2, ⟨rfl, h3⟩⟩
    | false => cases h
  | .alt k t e, a, h => by
    simp only [T.run] at h
    split at h
    · rename_i a' ht
      cases h
      obtain ⟨l, h1, h2, h3⟩ := T.run_leaf t ht
      exact ⟨l.alt k, by simp only [T.leaves, List.mem_append]; exact .inl (List.mem_map_of_mem h1), h2, h3⟩
    · obtain ⟨l, h1, h2, h3⟩ := T.run_leaf e h
      exact ⟨l, by simp only [T.leaves, List.mem_append]; exact .inr h1, h2, h3⟩

def encL {α X : Type} (N : α → ASt) (E : X → AE × ASt) : α ⊕ X → AE × ASt
  | .inl a => (.normal, N a)
  | .inr x => E x

/-- What a row of pieces does from a state on: 'm' tells it, where it tells anything. -/
def Sg {α X : Type} (P : Program) (lent : List Blk) (cs : List Code) (st : ASt) (m : Option (α ⊕ X)) (N : α → ASt) (E : X → AE × ASt) : Prop :=
  ∀ r, m = some r → Trip P lent cs st fun e st' => (e, st') = encL N E r

def segGot {α X : Type} (C : Ctx) (S : Sums) (n : Nat) (cs : List Code) (st : ASt) (ls : List (Leaf (α ⊕ X))) (ks : List NS) (k : Nat) : List (Bool × Option (AE × ASt × List Bool)) :=
  List.zipWith (fun l s => (s.ok k, endOf s (runL (runCode C S 0 n) cs st (some l.path)))) ls ks
def segWant {α X : Type} (N : α → ASt) (E : X → AE × ASt) (ls : List (Leaf (α ⊕ X))) : List (Bool × Option (AE × ASt × List Bool)) :=
  ls.map fun l => (true, some ((encL N E l.val).1, (encL N E l.val).2, l.obs))

theorem zip_mem {α β γ : Type} {f : α → β → γ} {g : α → γ} : ∀ {l : List α} {k : List β}, List.zipWith f l k = l.map g → ∀ a ∈ l, ∃ b, f a b = g a
  | [], _, _, a, ha => by cases ha
  | x :: l, [], h, a, ha => by simp at h
  | x :: l, y :: k, h, a, ha => by
    simp only [List.zipWith_cons_cons, List.map_cons, List.cons.injEq] at h
    rcases List.mem_cons.1 ha with rfl | ha
    · exact ⟨y, h.1⟩
    · exact zip_mem h.2 a ha

theorem Sg.seg {C : Ctx} (hC : C.Ok) {S : Sums} (hS : SumsOk C.P S) {lent : List Blk} {α X : Type} (n : Nat) (cs : List Code) (st : ASt) (t : T (α ⊕ X)) (N : α → ASt) (E : X → AE × ASt) (ks : List NS)
    (h : segGot C S n cs st t.leaves ks lent.length = segWant N E t.leaves) : Sg C.P lent cs st t.run N E := by
  intro r hr
  obtain ⟨l, h1, h2, h3⟩ := T.run_leaf t hr
  obtain ⟨k, hk⟩ := zip_mem h l h1
  simp only [Prod.mk.injEq] at hk
  obtain ⟨hn, he⟩ := hk
  have := Trip.seg hC hS (lent := lent) (Q := fun e st' => (e, st') = encL N E r) cs.length (some l.path) k (cs := cs) (st := st) (by rw [List.take_length]; exact he) hn h3
  refine this ?_
  rw [h2, List.drop_length]
  generalize hg : encL N E r = x
  obtain ⟨e, s⟩ := x
  cases e with
  | normal => exact Trip.nil rfl
  | ret => rfl
  | exit id => rfl

theorem Trip.append {P : Program} {lent : List Blk} {cs1 cs2 : List Code} {st : ASt} {Q1 Q : AE → ASt → Prop} (h : Trip P lent cs1 st Q1) (k : ∀ e st', Q1 e st' → Then P lent cs2 e st' Q) : Trip P lent (cs1 ++ cs2) st Q := by
  intro ρ0 w0 hN K hK a w hA
  apply wpL_append
  refine h ρ0 w0 hN _ ?_ a w hA
  intro e st' a' w' q hA'
  have := k e st' q
  cases e with
  | normal => exact this ρ0 w0 hN K hK a' w' hA'
  | ret => exact hK _ _ _ _ this hA'
  | exit id => exact hK _ _ _ _ this hA'

/-- No exit is a normal end. -/
def NoN {X : Type} (E : X → AE × ASt) : Prop := ∀ x, (E x).1 ≠ .normal

theorem then_of {P : Program} {lent : List Blk} {cs : List Code} {e : AE} {st : ASt} {Q : AE → ASt → Prop} (hn : e ≠ .normal) (h : Q e st) : Then P lent cs e st Q := by
  cases e with
  | normal => exact (hn rfl).elim
  | ret => exact h
  | exit id => exact h

def seqM {α β X : Type} (m : Option (α ⊕ X)) (k : α → Option (β ⊕ X)) : Option (β ⊕ X) :=
  match m with
  | none => none
  | some (.inl a) => k a
  | some (.inr x) => some (.inr x)

theorem Sg.seq {P : Program} {lent : List Blk} {α β X : Type} {cs1 cs2 : List Code} {st : ASt} {m : Option (α ⊕ X)} {N1 : α → ASt} {E : X → AE × ASt} {k : α → Option (β ⊕ X)} {N : β → ASt} (hE : NoN E)
    (h : Sg P lent cs1 st m N1 E) (hk : ∀ a, Sg P lent cs2 (N1 a) (k a) N E) : Sg P lent (cs1 ++ cs2) st (seqM m k) N E := by
  intro r hr
  unfold seqM at hr
  split at hr
  · cases hr
  · rename_i a
    refine Trip.append (h _ rfl) ?_
    intro e st' q
    simp only [encL, Prod.mk.injEq] at q
    obtain ⟨rfl, rfl⟩ := q
    exact hk a r hr
  · rename_i x
    simp only [Option.some.injEq] at hr; subst hr
    refine Trip.append (h _ rfl) ?_
    intro e st' q
    simp only [encL] at q
    refine then_of ?_ q
    have := hE x
    rw [← q] at this; exact this

def iterM {σ Y : Type} (B : σ → Option (σ ⊕ Y)) : Nat → σ → Option Y
  | 0, _ => none
  | n + 1, s => match B s with
    | none => none
    | some (.inl s') => iterM B n s'
    | some (.inr y) => some y

theorem iterM_mono {σ Y : Type} {B : σ → Option (σ ⊕ Y)} : ∀ (n : Nat) {s : σ} {y : Y}, iterM B n s = some y → ∀ m, n ≤ m → iterM B m s = some y
  | 0, s, y, h, _, _ => by cases h
  | n + 1, s, y, h, m, hm => by
    obtain ⟨m', rfl⟩ : ∃ m', m = m' + 1 := ⟨m - 1, by omega⟩
    simp only [iterM] at h ⊢
    split at h
    · cases h
    · exact iterM_mono n h m' (by omega)
    · exact h

open Classical in
/-- A loop, to its end; none where it has none. -/
noncomputable def loopM {σ Y : Type} (B : σ → Option (σ ⊕ Y)) (s : σ) : Option Y :=
  if h : ∃ n y, iterM B n s = some y then some h.choose_spec.choose else none

theorem loopM_iff {σ Y : Type} {B : σ → Option (σ ⊕ Y)} {s : σ} {y : Y} : loopM B s = some y ↔ ∃ n, iterM B n s = some y := by
  unfold loopM
  constructor
  · intro h
    split at h
    · rename_i q
      simp only [Option.some.injEq] at h
      exact ⟨q.choose, by rw [← h]; exact q.choose_spec.choose_spec⟩
    · cases h
  · rintro ⟨n, h⟩
    rw [dif_pos ⟨n, y, h⟩]
    generalize hq : (⟨n, y, h⟩ : ∃ n y, iterM B n s = some y) = q
    have h1 := q.choose_spec.choose_spec
    have a1 := iterM_mono n h (max n q.choose) (by omega)
    have a2 := iterM_mono _ h1 (max n q.choose) (by omega)
    rw [a1] at a2
    exact a2.symm

/-- A loop's one round. -/
theorem loopM_eq {σ Y : Type} (B : σ → Option (σ ⊕ Y)) (s : σ) : loopM B s = match B s with
    | none => none
    | some (.inl s') => loopM B s'
    | some (.inr y) => some y := by
  have key : ∀ y, loopM B s = some y ↔ (match B s with | none => none | some (.inl s') => loopM B s' | some (.inr y) => some y) = some y := by
    intro y
    rw [loopM_iff]
    constructor
    · rintro ⟨n, h⟩
      cases n with
      | zero => cases h
      | succ n =>
        simp only [iterM] at h
        cases q : B s with
        | none => rw [q] at h; cases h
        | some z => cases z with
          | inl s' => rw [q] at h; exact loopM_iff.2 ⟨n, h⟩
          | inr z => rw [q] at h; exact h
    · intro h
      split at h <;> rename_i q
      · cases h
      · obtain ⟨n, hn⟩ := loopM_iff.1 h
        exact ⟨n + 1, by simp only [iterM, q]; exact hn⟩
      · exact ⟨1, by simp only [iterM, q]; exact h⟩
  generalize (match B s with | none => none | some (.inl s') => loopM B s' | some (.inr y) => some y) = x at key
  cases hl : loopM B s with
  | none => cases x with
    | none => rfl
    | some y => rw [(key y).2 rfl] at hl; cases hl
  | some y => rw [hl] at key; exact ((key y).1 rfl).symm

theorem loopM_on {σ Y : Type} {B : σ → Option (σ ⊕ Y)} {s s' : σ} (h : B s = some (.inl s')) : loopM B s = loopM B s' := by rw [loopM_eq, h]
theorem loopM_out {σ Y : Type} {B : σ → Option (σ ⊕ Y)} {s : σ} {y : Y} (h : B s = some (.inr y)) : loopM B s = some y := by rw [loopM_eq, h]

/-- A loop that does what it should, by an invariant and a measure. -/
theorem loopM_inv {σ Y : Type} {B : σ → Option (σ ⊕ Y)} (G : σ → Prop) (m : σ → Nat) (Q : Y → Prop) (h : ∀ s, G s → (∃ s', B s = some (.inl s') ∧ G s' ∧ m s' < m s) ∨ ∃ y, B s = some (.inr y) ∧ Q y) :
    ∀ s, G s → ∃ y, loopM B s = some y ∧ Q y := by
  have key : ∀ n s, m s < n → G s → ∃ y, loopM B s = some y ∧ Q y := by
    intro n
    induction n with
    | zero => intro s q; omega
    | succ n ih =>
      intro s q hs
      rcases h s hs with ⟨s', h1, h2, h3⟩ | ⟨y, h1, h2⟩
      · obtain ⟨y, k1, k2⟩ := ih s' (by omega) h2
        exact ⟨y, by rw [loopM_on h1]; exact k1, k2⟩
      · exact ⟨y, loopM_out h1, h2⟩
  exact fun s hs => key _ s (Nat.lt_succ_self _) hs

def exitE {ρ X : Type} (id : Nat) (J : ρ → ASt) (E : X → AE × ASt) : ρ ⊕ X → AE × ASt
  | .inl r => (.exit id, J r)
  | .inr x => E x

def NoId {X : Type} (id : Nat) (E : X → AE × ASt) : Prop := ∀ x, (E x).1 ≠ .exit id

theorem Sg.loop {P : Program} {lent : List Blk} {σ ρ X : Type} {I : σ → ASt} {J : ρ → ASt} {E : X → AE × ASt} {B : σ → Option (σ ⊕ (ρ ⊕ X))} {id : Nat} {b : Code} (hE : NoN E) (hI : NoId id E)
    (hb : ∀ s, Sg P lent (flat b) (I s) (B s) I (exitE id J E)) (s : σ) : Sg P lent [.block id (.loop b)] (I s) (loopM B s) J E := by
  intro y hy
  obtain ⟨n, hn⟩ := loopM_iff.1 hy
  -- the rounds that are left
  have := Trip.loop (P := P) (lent := lent) (id := id) (b := b) (rest := []) (Q := fun e st' => (e, st') = encL J E y) (σ := Nat × σ) (fun s => I s.2) (fun s => iterM B s.1 s.2 = some y) (fun s => s.1) rfl (fun s hs => ?_) (n, s) hn
  · exact this
  · obtain ⟨n, s⟩ := s
    simp only at hs ⊢
    cases n with
    | zero => cases hs
    | succ n =>
      simp only [iterM] at hs
      split at hs
      · cases hs
      · rename_i s' hB
        refine (hb s _ hB).mono ?_
        intro e st' q
        simp only [encL, Prod.mk.injEq] at q
        obtain ⟨rfl, rfl⟩ := q
        exact ⟨(n, s'), hs, by simp, rfl⟩
      · rename_i y' hB
        simp only [Option.some.injEq] at hs; subst hs
        refine (hb s _ hB).mono ?_
        intro e st' q
        cases y' with
        | inl r =>
          simp only [encL, exitE, Prod.mk.injEq] at q
          obtain ⟨rfl, rfl⟩ := q
          simp only [Round, if_true]
          exact Trip.nil rfl
        | inr x =>
          simp only [encL, exitE] at q
          have h1 := hE x
          have h2 := hI x
          rw [← q] at h1 h2
          simp only at h1 h2
          cases e with
          | normal => exact (h1 rfl).elim
          | ret => exact q
          | exit j =>
            have hj : ¬ j = id := fun h => h2 (by rw [h])
            simp only [Round, hj, if_false]
            exact q

def joinM {κ X : Type} (m : Option (κ ⊕ (κ ⊕ X))) : Option (κ ⊕ X) :=
  match m with
  | none => none
  | some (.inl a) => some (.inl a)
  | some (.inr (.inl a)) => some (.inl a)
  | some (.inr (.inr x)) => some (.inr x)

theorem Sg.block {P : Program} {lent : List Blk} {κ X : Type} {K : κ → ASt} {E : X → AE × ASt} {m : Option (κ ⊕ (κ ⊕ X))} {id : Nat} {b : Code} {st : ASt} (hE : NoN E) (hI : NoId id E)
    (hb : Sg P lent (flat b) st m K (exitE id K E)) : Sg P lent [.block id b] st (joinM m) K E := by
  intro r hr
  unfold joinM at hr
  refine Trip.block (rest := []) rfl ?_
  split at hr
  · cases hr
  · simp only [Option.some.injEq] at hr; subst hr
    refine (hb _ rfl).mono ?_
    intro e st' q
    simp only [encL, Prod.mk.injEq] at q
    obtain ⟨rfl, rfl⟩ := q
    exact Trip.nil rfl
  · simp only [Option.some.injEq] at hr; subst hr
    refine (hb _ rfl).mono ?_
    intro e st' q
    simp only [encL, exitE, Prod.mk.injEq] at q
    obtain ⟨rfl, rfl⟩ := q
    simp only [if_true]
    exact Trip.nil rfl
  · rename_i x
    simp only [Option.some.injEq] at hr; subst hr
    refine (hb _ rfl).mono ?_
    intro e st' q
    simp only [encL, exitE] at q
    have h1 := hE x
    have h2 := hI x
    rw [← q] at h1 h2
    simp only at h1 h2
    cases e with
    | normal => exact (h1 rfl).elim
    | ret => exact q
    | exit j =>
      have hj : ¬ j = id := fun h => h2 (by rw [h])
      simp only [hj, if_false]
      exact q

theorem Sg.scope {P : Program} {lent : List Blk} {α X : Type} {N : α → ASt} {E : X → AE × ASt} {m : Option (α ⊕ X)} {b : Code} {st : ASt} (hE : NoN E) (hb : Sg P lent (flat b) st m N E) : Sg P lent [.scope b] st m N E := by
  intro r hr
  refine Trip.scope (rest := []) rfl ((hb r hr).mono ?_)
  intro e st' q
  cases r with
  | inl a =>
    simp only [encL, Prod.mk.injEq] at q
    obtain ⟨rfl, rfl⟩ := q
    exact Trip.nil rfl
  | inr x =>
    refine then_of ?_ q
    have := hE x
    simp only [encL] at q
    rw [← q] at this; exact this

theorem setKnown_at {k : Nat} {ρ0 : Place} {w0 : World} {st : ASt} {a : Act} {w : World} {c : Operand} {b kn : Bool} (h : At k ρ0 w0 st a w) (hc : evA st.tmps c = .bool kn b) : At k ρ0 w0 { st with tmps := setKnown st.tmps c b } a w ∧ a.eval c = .bool b := by
  obtain ⟨ρ, E, W, hs, hbk, hle⟩ := h
  have hb : a.eval c = .bool b := by
    have := evA_vr hs.tmps c
    rw [hc] at this
    generalize a.eval c = z at this
    cases this; rfl
  refine ⟨⟨ρ, E, W, ⟨hs.defers, ?_, hs.heap⟩, hbk, hle⟩, hb⟩
  cases c with
  | tmp t =>
    simp only [setKnown]
    have : VRs ρ w (st.tmps.set t (.bool true b)) (a.tmps.toList.set t (.bool b)) := hs.tmps.set (.bool _ _) t
    have e : a.tmps.toList.set t (.bool b) = a.tmps.toList := by
      apply List.ext_getElem?
      intro j
      rw [List.getElem?_set]
      split
      · rename_i q; subst q
        split
        · rename_i hlt
          simp only [Act.eval] at hb
          rw [Array.getD_eq_getD_getElem?] at hb
          have hlt' : t < a.tmps.size := by simpa using hlt
          rw [Array.getElem?_eq_getElem hlt'] at hb
          simp only [Option.getD_some] at hb
          simp [hlt', hb]
        · rename_i hge
          rw [List.getElem?_eq_none (by omega)]
      · rfl
    rw [e] at this; exact this
  | const v => exact hs.tmps
  | global g => exact hs.tmps
  | func f => exact hs.tmps

theorem Sg.cond {P : Program} {lent : List Blk} {α X : Type} {N : α → ASt} {E : X → AE × ASt} {m1 m2 : Option (α ⊕ X)} {c : Operand} {A B : Code} {st : ASt} {kn b : Bool} (hE : NoN E) (hc : evA st.tmps c = .bool kn b)
    (h1 : Sg P lent (flat A) { st with tmps := setKnown st.tmps c true } m1 N E) (h2 : Sg P lent (flat B) { st with tmps := setKnown st.tmps c false } m2 N E) : Sg P lent [.cond c A B] st (bif b then m1 else m2) N E := by
  intro r hr
  intro ρ0 w0 hN K hK a w hA
  simp only [wpL]
  obtain ⟨hA', hb⟩ := setKnown_at hA hc
  refine wp_cond hb ?_
  have fin : ∀ (D : Code) (m : Option (α ⊕ X)) (st1 : ASt), Sg P lent (flat D) st1 m N E → m = some r → At lent.length ρ0 w0 st1 a w → D.wp P (fun e a' w' => match e with | .normal => K .normal a' w' | e => K e a' w') a w := by
    intro D m st1 hS hm hA1
    refine flat_wp D (hS r hm ρ0 w0 hN _ ?_ a w hA1)
    intro e st' a' w' q hA2
    cases e with
    | normal => exact hK .normal st' a' w' q hA2
    | ret => exact hK .ret st' a' w' q hA2
    | exit id => exact hK (.exit id) st' a' w' q hA2
  cases b with
  | true => exact fin A m1 _ h1 hr hA'
  | false => exact fin B m2 _ h2 hr hA'

/-- A state made plain. -/
theorem Sg.pre {P : Program} {lent : List Blk} {α X : Type} {N : α → ASt} {E : X → AE × ASt} {m : Option (α ⊕ X)} {cs : List Code} {st st1 : ASt} (s : NS) (hn : s.ok lent.length = true) (h1 : s.on st = st1) (h : Sg P lent cs st1 m N E) : Sg P lent cs st m N E :=
  fun r hr => Trip.weak (by rw [← h1]; exact ns_sub hn st) (h r hr)

def toX {X : Type} : Option (Empty ⊕ X) → Option X
  | some (.inr x) => some x
  | _ => none

/-- A function's contract: what is told of its text. -/
theorem Sg.contract {P : Program} {f : FuncId} {fn : Func} {c : Code} {X : Type} {N : Empty → ASt} {E : X → AE × ASt} {m : Option (Empty ⊕ X)} {lent : List Blk} {args : List AV} (keep : Bool) (o : X → Out) (hf : P.funcs[f]? = some fn) (hc : fn.body = some c)
    (h : Sg P lent (flat c) (entryOf fn lent args) m N E) (hE : ∀ x, Hands P fn lent.length keep (o x) (E x).1 (E x).2) {x : X} (hx : toX m = some x) : Contract P f lent args (o x) := by
  unfold toX at hx
  split at hx
  · rename_i x'
    simp only [Option.some.injEq] at hx; subst hx
    refine Trip.contract (keep := keep) hf hc ((h _ rfl).mono ?_)
    intro e st' q
    simp only [encL] at q
    have := hE x'
    rw [← q] at this; exact this
  · cases hx

end Go.Plb

namespace Go.Plb
theorem noN_exit {ρ X : Type} {id : Nat} {J : ρ → ASt} {E : X → AE × ASt} (h : NoN E) : NoN (exitE id J E) := by
  intro x
  cases x with
  | inl r => intro q; cases q
  | inr x => exact h x
theorem noId_exit {ρ X : Type} {id j : Nat} {J : ρ → ASt} {E : X → AE × ASt} (hj : (j == id) = false) (h : NoId id E) : NoId id (exitE j J E) := by
  intro x
  cases x with
  | inl r =>
    intro q
    simp only [exitE, AE.exit.injEq] at q
    subst q
    simp at hj
  | inr x => exact h x

def inLoop : Code → Code
  | .block _ (.loop b) => b
  | _ => .skip
def inBlock : Code → Code
  | .block _ b => b
  | _ => .skip
def inScope : Code → Code
  | .scope b => b
  | _ => .skip
def inThen : Code → Code
  | .cond _ a _ => a
  | _ => .skip
def inElse : Code → Code
  | .cond _ _ b => b
  | _ => .skip

theorem Sg.cut {P : Program} {lent : List Blk} {α β X : Type} {cs : List Code} {st : ASt} {m : Option (α ⊕ X)} {N1 : α → ASt} {E : X → AE × ASt} {k : α → Option (β ⊕ X)} {N : β → ASt} (n : Nat) (hE : NoN E)
    (h : Sg P lent (cs.take n) st m N1 E) (hk : ∀ a, Sg P lent (cs.drop n) (N1 a) (k a) N E) : Sg P lent cs st (seqM m k) N E := by
  have := Sg.seq hE h hk
  rwa [List.take_append_drop] at this

theorem Sg.loopAt {P : Program} {lent : List Blk} {σ ρ X : Type} {I : σ → ASt} {J : ρ → ASt} {E : X → AE × ASt} {B : σ → Option (σ ⊕ (ρ ⊕ X))} {id : Nat} {b : Code} {cs : List Code} (hcs : cs = [.block id (.loop b)]) (hE : NoN E) (hI : NoId id E)
    (hb : ∀ s, Sg P lent (flat b) (I s) (B s) I (exitE id J E)) (s : σ) : Sg P lent cs (I s) (loopM B s) J E := by rw [hcs]; exact Sg.loop hE hI hb s
theorem Sg.blockAt {P : Program} {lent : List Blk} {κ X : Type} {K : κ → ASt} {E : X → AE × ASt} {m : Option (κ ⊕ (κ ⊕ X))} {id : Nat} {b : Code} {st : ASt} {cs : List Code} (hcs : cs = [.block id b]) (hE : NoN E) (hI : NoId id E)
    (hb : Sg P lent (flat b) st m K (exitE id K E)) : Sg P lent cs st (joinM m) K E := by rw [hcs]; exact Sg.block hE hI hb
theorem Sg.scopeAt {P : Program} {lent : List Blk} {α X : Type} {N : α → ASt} {E : X → AE × ASt} {m : Option (α ⊕ X)} {b : Code} {st : ASt} {cs : List Code} (hcs : cs = [.scope b]) (hE : NoN E) (hb : Sg P lent (flat b) st m N E) : Sg P lent cs st m N E := by
  rw [hcs]; exact Sg.scope hE hb
theorem Sg.condAt {P : Program} {lent : List Blk} {α X : Type} {N : α → ASt} {E : X → AE × ASt} {m1 m2 : Option (α ⊕ X)} {c : Operand} {A B : Code} {st : ASt} {kn b : Bool} {cs : List Code} (hcs : cs = [.cond c A B]) (hE : NoN E) (hc : evA st.tmps c = .bool kn b)
    (h1 : Sg P lent (flat A) { st with tmps := setKnown st.tmps c true } m1 N E) (h2 : Sg P lent (flat B) { st with tmps := setKnown st.tmps c false } m2 N E) : Sg P lent cs st (bif b then m1 else m2) N E := by rw [hcs]; exact Sg.cond hE hc h1 h2
end Go.Plb

namespace Go.Plb.Seat
open Go Go.Plb
set_option linter.unusedSimpArgs false
set_option linter.unusedVariables false

noncomputable def cl_N : Empty → ASt := fun a => a.elim
noncomputable def cl_E : Unit → AE × ASt := fun _ => (.ret, ⟨slots 8 [(2, .sl 0 1 1 0 0 0)], [(0, .fl [])], 1⟩)
noncomputable def cl_o : Unit → Out := fun _ => ⟨.sl 0 1 1 0 0 0, [some (.fl [])]⟩

theorem cl_true : Contract prog n_slices_Clone [] [.zsl true] ⟨.sl 0 1 1 0 0 0, [some (.fl [])]⟩ :=
  Sg.contract (x := ()) (X := Unit) (N := cl_N) (E := cl_E) (m := some (.inr ())) false cl_o (by kernel_rfl : prog.funcs[n_slices_Clone]? = some (FN n_slices_Clone)) (by kernel_rfl : (FN n_slices_Clone).body = some (BODY n_slices_Clone))
    (Sg.seg (C := C0) C0_ok E0_ok 60 (flat (BODY n_slices_Clone)) (entryOf (FN n_slices_Clone) [] [.zsl true]) (.leaf (.inr ())) cl_N cl_E [⟨[(.slot 2, 1, 1, .fl [])], [64], [2]⟩] (by kernel_rfl))
    (fun _ => ⟨.inr rfl, [.sl 0 1 1 0 0 0], [], by kernel_rfl, trivial, by kernel_rfl⟩) rfl

theorem cl_false : Contract prog n_slices_Clone [] [.zsl false] ⟨.sl 0 1 1 0 0 0, [some (.fl [])]⟩ :=
  Contract.run C0_ok E0_ok (some []) 0 60 (p' := some []) (obs := []) (by kernel_rfl) nob

theorem cl_zero (l : Lv) : Contract prog n_slices_Clone [] [.imm l (.fl []) 1 1 0 0] ⟨.sl 0 1 1 0 0 0, [some (.fl [])]⟩ := by
  intro ρ w us hN hv
  cases hv with | cons _ u _ _ h1 h2 =>
  cases h2
  have key : ∀ (a : Option Addr) cap, VRs ρ w [.zsl a.isNone] [.slice a 0 cap] := fun a cap => .cons _ _ _ _ (.zsl a cap) .nil
  have all : ∀ b, Contract prog n_slices_Clone [] [.zsl b] ⟨.sl 0 1 1 0 0 0, [some (.fl [])]⟩ := fun b => by
    cases b
    · exact cl_false
    · exact cl_true
  cases h1 with
  | imm _ _ _ _ _ _ cap bl o u' => exact all _ ρ w _ hN (key _ cap)
  | immEnd _ _ _ _ _ cap a => exact all _ ρ w _ hN (key a cap)

theorem c_Clone (l : Lv) (xs : List Nat) (hl : xs.length ≤ 1000000000) : Contract prog n_slices_Clone [] [.imm l (.fl xs) 1 1 0 xs.length] ⟨.sl 0 1 1 0 xs.length xs.length, [some (.fl xs)]⟩ := by
  rcases Nat.eq_zero_or_pos xs.length with h0 | h0
  · have : xs = [] := List.length_eq_zero_iff.1 h0
    subst this
    exact cl_zero l
  · have h : fnRun C0 E0 (runCode C0 E0 0 60) n_slices_Clone [] [.imm l (.fl xs) 1 1 0 xs.length] (some []) = some (⟨.sl 0 1 1 0 (0 + xs.length) (0 + xs.length), [some (.fl (List.take 0 [] ++ List.take xs.length xs))]⟩,
        [Nat.blt 0 xs.length, leN ((0 + xs.length) * 8) 140737488355328, leN (0 + xs.length) 9223372036854775807, leN xs.length xs.length, leN 0 ([] : List Nat).length], some []) := by kernel_rfl
    have := Contract.run C0_ok E0_ok _ _ _ h (ob (by rw [Nat.blt_eq]; exact h0) <| ob (by simp [leN]; omega) <| ob (by simp [leN]; omega) <| ob (by simp [leN]) <| ob rfl nob)
    simp only [Nat.zero_add, List.take_zero, List.nil_append, List.take_length] at this
    exact this

def lenOk (n : Nat) : Bool := Nat.ble n 1000000000
noncomputable def e_Clone : Entry := autoE n_slices_Clone (.cons .fl .nil) fun t => [⟨⟨.sl 0 1 1 0 t.1.2.length t.1.2.length, [some (.fl t.1.2)]⟩, [lenOk t.1.2.length]⟩]
theorem e_Clone_ok : EntryOk prog e_Clone := autoE_ok fun t => altsCons (fun h => c_Clone t.1.1 t.1.2 (Nat.le_of_ble_eq_true h)) altsNil

noncomputable def L2 : List Entry := e_Clone :: L1
theorem L2_ok : SumsOk prog (sumsOf L2) := sumsOf_cons e_Clone_ok S1_ok
end Go.Plb.Seat

namespace Go.Plb.Seat
open Go Go.Plb
set_option linter.unusedSimpArgs false
set_option linter.unusedVariables false

def okB : Option (Out × List Bool × Path) → Bool
  | some (⟨.bool _ true, []⟩, o, _) => allB o
  | _ => false

theorem okB_spec {r : Option (Out × List Bool × Path)} (h : okB r = true) : ∃ k o p, r = some (⟨.bool k true, []⟩, o, p) ∧ allTrue o := by
  unfold okB at h
  split at h
  · exact ⟨_, _, _, rfl, allB_true h⟩
  · cases h

theorem known_run : okB (fnRun C0 E0 (runCode C0 E0 50 100) n_law09_known [] [] none) = true := by kernel_rfl

theorem c_known : Contract prog n_law09_known [] [] ⟨.bool false true, []⟩ := by
  obtain ⟨k, o, p, h, ho⟩ := okB_spec known_run
  exact (Contract.run C0_ok E0_ok none _ _ h ho).weak (bool_loose _ _ _)

def e_known : Entry := ⟨n_law09_known, fun L args => match L, args with | [], [] => one (.bool false true) [] | _, _ => none⟩
theorem e_known_ok : EntryOk prog e_known := by
  intro L args alts a h ha ho
  simp only [e_known] at h
  split at h
  · exact entry_one h ha ho fun q => c_known
  · cases h

noncomputable def L9 : List Entry := e_known :: L2
theorem L9_ok : SumsOk prog (sumsOf L9) := sumsOf_cons e_known_ok L2_ok
end Go.Plb.Seat

namespace Go.Plb.Seat
open Go Go.Plb
set_option linter.unusedVariables false
set_option maxRecDepth 10000
noncomputable section

inductive reflect_may_X where
  | r0 (b2 : Bool)
def reflect_may_E : reflect_may_X → AE × ASt
  | .r0 b2 => (.ret, ⟨slots 32 [(2, .bool false b2)], [], 0⟩)
theorem reflect_may_hN : NoN reflect_may_E := by intro x; cases x <;> (intro h; cases h)
theorem reflect_may_hI (id : Nat) : NoId id reflect_may_E := by intro x; cases x <;> (intro h; cases h)
def reflect_may_o : reflect_may_X → Out
  | .r0 b2 => ⟨.bool false b2, []⟩
noncomputable def reflect_may_l2 : List Code := flat (BODY n_reflect_may)
def reflect_may_n1 (b1 : Bool) : ASt := ⟨slots 32 [(2, .bool false b1)], [], 0⟩
def reflect_may_t3 (a_0 : Int) (a_1 : Int) (a_3 : List Nat) : T ((Bool) ⊕ (reflect_may_X)) :=
  .ask (decide (a_0 ≥ (0 : Int)))
    (.ask (decide (a_0 ≤ (512 : Int)))
      (.ask (decide (a_1 ≥ (0 : Int)))
        (.ask (decide (a_1 ≤ (512 : Int)))
          (.need (inK .i64 (a_0 * a_1)) <| .leaf (.inl ((((List.length a_3) : Nat) : Int) == (a_0 * a_1))))
          (.leaf (.inl false)))
        (.leaf (.inl false)))
      (.leaf (.inl false)))
    (.leaf (.inl false))
def reflect_may_t4 (b1 : Bool) : T ((Empty) ⊕ (reflect_may_X)) :=
  .leaf (.inr (.r0 b1))
noncomputable def reflect_may_F (a_0 : Int) (a_1 : Int) (a_3 : List Nat) : Option reflect_may_X := toX (seqM ((reflect_may_t3 a_0 a_1 a_3).run) fun b1 =>
  (reflect_may_t4 b1).run)
theorem reflect_may_ok (a_0 : Int) (a_1 : Int) (v_2 : Lv) (a_3 : List Nat) {x : reflect_may_X} (h : reflect_may_F a_0 a_1 a_3 = some x) : Contract prog n_reflect_may [] [.agg [.int .i64 a_0, .int .i64 a_1, .imm v_2 (.fl a_3) 1 1 0 (List.length a_3)]] (reflect_may_o x) :=
  Sg.contract false reflect_may_o (by kernel_rfl : prog.funcs[n_reflect_may]? = some (FN n_reflect_may)) (by kernel_rfl : (FN n_reflect_may).body = some (BODY n_reflect_may)) (Sg.cut 2 reflect_may_hN (Sg.seg (C := C0) C0_ok L9_ok 60 (reflect_may_l2.take 2) (entryOf (FN n_reflect_may) [] [.agg [.int .i64 a_0, .int .i64 a_1, .imm v_2 (.fl a_3) 1 1 0 (List.length a_3)]]) (reflect_may_t3 a_0 a_1 a_3) reflect_may_n1 reflect_may_E [⟨[], [], [2]⟩, ⟨[], [], [2]⟩, ⟨[], [], [2]⟩, ⟨[], [], [2]⟩, ⟨[], [], [2]⟩] (by kernel_rfl)) (fun b1 => by exact Sg.seg (C := C0) C0_ok L9_ok 60 (reflect_may_l2.drop 2) (reflect_may_n1 b1) (reflect_may_t4 b1) (fun a : Empty => a.elim) reflect_may_E [⟨[], [], [2]⟩] (by kernel_rfl)))
    (fun x => by cases x with | r0 b2 => exact ⟨.inr rfl, [.bool false b2], [], by kernel_rfl, trivial, by kernel_rfl⟩) h

def reflect_may_i0 : Option reflect_may_X → Bool
  | some _ => true
  | none => false
def reflect_may_p0_0 : Option reflect_may_X → Bool
  | some (.r0 x) => x
  | _ => false
theorem reflect_may_e0 {x : Option reflect_may_X} (h : reflect_may_i0 x = true) : x = some (.r0 (reflect_may_p0_0 x)) := by
  unfold reflect_may_i0 at h
  split at h <;> first | rfl | (cases h; done) | (rename_i y; cases y; rfl)
noncomputable def e_reflect_may : Entry := autoE n_reflect_may (.cons (.agg (.cons (.int .i64) (.cons (.int .i64) (.cons .fl .nil)))) .nil) fun t => [⟨reflect_may_o (.r0 (reflect_may_p0_0 (reflect_may_F t.1.1 t.1.2.1 t.1.2.2.1.2))), [reflect_may_i0 (reflect_may_F t.1.1 t.1.2.1 t.1.2.2.1.2)]⟩]
theorem e_reflect_may_ok : EntryOk prog e_reflect_may := autoE_ok fun t => (altsCons (fun h => reflect_may_ok t.1.1 t.1.2.1 t.1.2.2.1.1 t.1.2.2.1.2 (reflect_may_e0 h)) altsNil)
noncomputable def L_reflect_may : List Entry := e_reflect_may :: L9
theorem L_reflect_may_ok : SumsOk prog (sumsOf L_reflect_may) := sumsOf_cons e_reflect_may_ok L9_ok

inductive reflect_sum_X where
  | r0 (a4 : Nat)
def reflect_sum_E : reflect_sum_X → AE × ASt
  | .r0 a4 => (.ret, ⟨slots 18 [(4, .flt false a4)], [], 0⟩)
theorem reflect_sum_hN : NoN reflect_sum_E := by intro x; cases x <;> (intro h; cases h)
theorem reflect_sum_hI (id : Nat) : NoId id reflect_sum_E := by intro x; cases x <;> (intro h; cases h)
def reflect_sum_o : reflect_sum_X → Out
  | .r0 a4 => ⟨.flt false a4, []⟩
noncomputable def reflect_sum_l6 : List Code := flat (BODY n_reflect_sum)
def reflect_sum_n1 (n_0 : Int) (v_1 : Lv) (v_2 : Lv) (one_3 : List Nat) (one_4 : Nat) (v_5 : Lv) (one_6 : Int) (one_7 : Int) (v_8 : Lv) (one_9 : List Nat) (v_10 : Lv) (one_11 : Int) (v_12 : Lv) (one_13 : Int) (_ : Unit) : ASt := ⟨slots 18 [(1, .fn (.func n_reflect_Left_1) [] [.iptr v_1 (.vs [.imm v_2 (.fl one_3) 1 1 0 (List.length one_3), .flt false one_4]) 1 0 0, .iptr v_5 (.vs [.int .i64 one_6, .int .i64 one_7, .imm v_8 (.fl one_9) 1 1 0 (List.length one_9)]) 1 0 0, .iptr v_10 (.vs [.int .i64 one_11]) 1 0 0, .iptr v_12 (.vs [.int .i64 one_13]) 1 0 0]), (5, .flt false 0), (7, .int .i64 n_0), (8, .int .i64 (0 : Int))], [], 0⟩
def reflect_sum_t7 : T ((Unit) ⊕ (reflect_sum_X)) :=
  .leaf (.inl ())
def reflect_sum_n3 (n_0 : Int) (v_1 : Lv) (v_2 : Lv) (one_3 : List Nat) (one_4 : Nat) (v_5 : Lv) (one_6 : Int) (one_7 : Int) (v_8 : Lv) (one_9 : List Nat) (v_10 : Lv) (one_11 : Int) (v_12 : Lv) (one_13 : Int) : Nat × Nat → ASt := fun (s1, a2) => ⟨slots 18 [(1, .fn (.func n_reflect_Left_1) [] [.iptr v_1 (.vs [.imm v_2 (.fl one_3) 1 1 0 (List.length one_3), .flt false one_4]) 1 0 0, .iptr v_5 (.vs [.int .i64 one_6, .int .i64 one_7, .imm v_8 (.fl one_9) 1 1 0 (List.length one_9)]) 1 0 0, .iptr v_10 (.vs [.int .i64 one_11]) 1 0 0, .iptr v_12 (.vs [.int .i64 one_13]) 1 0 0]), (5, .flt false s1), (7, .int .i64 n_0), (8, .int .i64 ((a2 : Nat) : Int))], [], 0⟩
def reflect_sum_n4 (s3 : Nat) : ASt := ⟨slots 18 [(5, .flt false s3)], [], 0⟩
noncomputable def reflect_sum_l8 : List Code := flat (inLoop ((((reflect_sum_l6.drop 3).take 1)).headD .skip))
def reflect_sum_t9 (n_0 : Int) (one_3 : List Nat) (one_7 : Int) (one_9 : List Nat) (one_11 : Int) (one_13 : Int) (s1 : Nat) (a2 : Nat) : T ((Nat × Nat) ⊕ ((Nat) ⊕ (reflect_sum_X))) :=
  .ask (decide (((a2 : Nat) : Int) < n_0))
    (.need (inB ((a2 : Nat) : Int) (List.length one_3)) <| .need (ltB a2 (List.length one_3)) <| .need (inK .i64 (one_11 + ((a2 : Nat) : Int))) <| .need (inK .i64 ((one_11 + ((a2 : Nat) : Int)) * one_7)) <| .need (inK .i64 (((one_11 + ((a2 : Nat) : Int)) * one_7) + one_13)) <| .need (inB (((one_11 + ((a2 : Nat) : Int)) * one_7) + one_13) (List.length one_9)) <| .need (ltB (Int.toNat (((one_11 + ((a2 : Nat) : Int)) * one_7) + one_13)) (List.length one_9)) <| .need (inK .i64 (((a2 + 1) : Nat) : Int)) <| .leaf (.inl ((fadd s1 (fmul (List.getD one_3 a2 0) (List.getD one_9 (Int.toNat (((one_11 + ((a2 : Nat) : Int)) * one_7) + one_13)) 0))), (a2 + 1))))
    (.leaf (.inr (.inl s1)))
noncomputable def reflect_sum_m10 (n_0 : Int) (one_3 : List Nat) (one_7 : Int) (one_9 : List Nat) (one_11 : Int) (one_13 : Int) : Nat × Nat → Option ((Nat × Nat) ⊕ ((Nat) ⊕ (reflect_sum_X))) := fun (s1, a2) =>
  (reflect_sum_t9 n_0 one_3 one_7 one_9 one_11 one_13 s1 a2).run
theorem reflect_sum_s10 (n_0 : Int) (v_1 : Lv) (v_2 : Lv) (one_3 : List Nat) (one_4 : Nat) (v_5 : Lv) (one_6 : Int) (one_7 : Int) (v_8 : Lv) (one_9 : List Nat) (v_10 : Lv) (one_11 : Int) (v_12 : Lv) (one_13 : Int) (s1 : Nat) (a2 : Nat) : Sg prog [] reflect_sum_l8 (reflect_sum_n3 n_0 v_1 v_2 one_3 one_4 v_5 one_6 one_7 v_8 one_9 v_10 one_11 v_12 one_13 (s1, a2)) (reflect_sum_m10 n_0 one_3 one_7 one_9 one_11 one_13 (s1, a2)) (reflect_sum_n3 n_0 v_1 v_2 one_3 one_4 v_5 one_6 one_7 v_8 one_9 v_10 one_11 v_12 one_13) (exitE 0 reflect_sum_n4 reflect_sum_E) :=
  Sg.seg (C := C0) C0_ok L_reflect_may_ok 60 reflect_sum_l8 (reflect_sum_n3 n_0 v_1 v_2 one_3 one_4 v_5 one_6 one_7 v_8 one_9 v_10 one_11 v_12 one_13 (s1, a2)) (reflect_sum_t9 n_0 one_3 one_7 one_9 one_11 one_13 s1 a2) (reflect_sum_n3 n_0 v_1 v_2 one_3 one_4 v_5 one_6 one_7 v_8 one_9 v_10 one_11 v_12 one_13) (exitE 0 reflect_sum_n4 reflect_sum_E) [⟨[], [], [1, 5, 7, 8]⟩, ⟨[], [], [5]⟩] (by kernel_rfl)
def reflect_sum_n5 : Nat → ASt := reflect_sum_n4
def reflect_sum_t11 (s3 : Nat) : T ((Empty) ⊕ (reflect_sum_X)) :=
  .leaf (.inr (.r0 s3))
noncomputable def reflect_sum_F (n_0 : Int) (one_3 : List Nat) (one_7 : Int) (one_9 : List Nat) (one_11 : Int) (one_13 : Int) : Option reflect_sum_X := toX (seqM ((reflect_sum_t7).run) fun _ =>
  seqM (loopM (reflect_sum_m10 n_0 one_3 one_7 one_9 one_11 one_13) (0, 0)) fun s3 =>
  (reflect_sum_t11 s3).run)
theorem reflect_sum_ok (n_0 : Int) (v_1 : Lv) (v_2 : Lv) (one_3 : List Nat) (one_4 : Nat) (v_5 : Lv) (one_6 : Int) (one_7 : Int) (v_8 : Lv) (one_9 : List Nat) (v_10 : Lv) (one_11 : Int) (v_12 : Lv) (one_13 : Int) {x : reflect_sum_X} (h : reflect_sum_F n_0 one_3 one_7 one_9 one_11 one_13 = some x) : Contract prog n_reflect_sum [] [.int .i64 n_0, .fn (.func n_reflect_Left_1) [] [.iptr v_1 (.vs [.imm v_2 (.fl one_3) 1 1 0 (List.length one_3), .flt false one_4]) 1 0 0, .iptr v_5 (.vs [.int .i64 one_6, .int .i64 one_7, .imm v_8 (.fl one_9) 1 1 0 (List.length one_9)]) 1 0 0, .iptr v_10 (.vs [.int .i64 one_11]) 1 0 0, .iptr v_12 (.vs [.int .i64 one_13]) 1 0 0]] (reflect_sum_o x) :=
  Sg.contract false reflect_sum_o (by kernel_rfl : prog.funcs[n_reflect_sum]? = some (FN n_reflect_sum)) (by kernel_rfl : (FN n_reflect_sum).body = some (BODY n_reflect_sum)) (Sg.cut 3 reflect_sum_hN (Sg.seg (C := C0) C0_ok L_reflect_may_ok 60 (reflect_sum_l6.take 3) (entryOf (FN n_reflect_sum) [] [.int .i64 n_0, .fn (.func n_reflect_Left_1) [] [.iptr v_1 (.vs [.imm v_2 (.fl one_3) 1 1 0 (List.length one_3), .flt false one_4]) 1 0 0, .iptr v_5 (.vs [.int .i64 one_6, .int .i64 one_7, .imm v_8 (.fl one_9) 1 1 0 (List.length one_9)]) 1 0 0, .iptr v_10 (.vs [.int .i64 one_11]) 1 0 0, .iptr v_12 (.vs [.int .i64 one_13]) 1 0 0]]) (reflect_sum_t7) (reflect_sum_n1 n_0 v_1 v_2 one_3 one_4 v_5 one_6 one_7 v_8 one_9 v_10 one_11 v_12 one_13) reflect_sum_E [⟨[], [], [1, 5, 7, 8]⟩] (by kernel_rfl)) (fun a => by cases a; exact Sg.cut 1 reflect_sum_hN (Sg.pre ⟨[], [], [1, 5, 7, 8]⟩ rfl (by kernel_rfl : NS.on ⟨[], [], [1, 5, 7, 8]⟩ (reflect_sum_n1 n_0 v_1 v_2 one_3 one_4 v_5 one_6 one_7 v_8 one_9 v_10 one_11 v_12 one_13 ()) = (reflect_sum_n3 n_0 v_1 v_2 one_3 one_4 v_5 one_6 one_7 v_8 one_9 v_10 one_11 v_12 one_13) (0, 0)) (Sg.loopAt (I := (reflect_sum_n3 n_0 v_1 v_2 one_3 one_4 v_5 one_6 one_7 v_8 one_9 v_10 one_11 v_12 one_13)) (J := (reflect_sum_n4)) (id := 0) (by kernel_rfl : ((reflect_sum_l6.drop 3).take 1) = [.block 0 (.loop (inLoop ((((reflect_sum_l6.drop 3).take 1)).headD .skip)))]) reflect_sum_hN (reflect_sum_hI _) (fun s => by obtain ⟨s1, a2⟩ := s; exact reflect_sum_s10 n_0 v_1 v_2 one_3 one_4 v_5 one_6 one_7 v_8 one_9 v_10 one_11 v_12 one_13 s1 a2) (0, 0))) (fun s3 => by exact Sg.seg (C := C0) C0_ok L_reflect_may_ok 60 ((reflect_sum_l6.drop 3).drop 1) (reflect_sum_n5 s3) (reflect_sum_t11 s3) (fun a : Empty => a.elim) reflect_sum_E [⟨[], [], [4]⟩] (by kernel_rfl))))
    (fun x => by cases x with | r0 a4 => exact ⟨.inr rfl, [.flt false a4], [], by kernel_rfl, trivial, by kernel_rfl⟩) h

def reflect_sum_i0 : Option reflect_sum_X → Bool
  | some _ => true
  | none => false
def reflect_sum_p0_0 : Option reflect_sum_X → Nat
  | some (.r0 x) => x
  | _ => 0
theorem reflect_sum_e0 {x : Option reflect_sum_X} (h : reflect_sum_i0 x = true) : x = some (.r0 (reflect_sum_p0_0 x)) := by
  unfold reflect_sum_i0 at h
  split at h <;> first | rfl | (cases h; done) | (rename_i y; cases y; rfl)
noncomputable def e_reflect_sum : Entry := autoE n_reflect_sum (.cons (.int .i64) (.cons (.fn n_reflect_Left_1 .nil (.cons (.ivs (.cons .fl (.cons (.flt false) .nil)) 1 0 0) (.cons (.ivs (.cons (.int .i64) (.cons (.int .i64) (.cons .fl .nil))) 1 0 0) (.cons (.ivs (.cons (.int .i64) .nil) 1 0 0) (.cons (.ivs (.cons (.int .i64) .nil) 1 0 0) .nil))))) .nil)) fun t => [⟨reflect_sum_o (.r0 (reflect_sum_p0_0 (reflect_sum_F t.1 t.2.1.2.1.2.1.2 t.2.1.2.2.1.2.2.1 t.2.1.2.2.1.2.2.2.1.2 t.2.1.2.2.2.1.2.1 t.2.1.2.2.2.2.1.2.1))), [reflect_sum_i0 (reflect_sum_F t.1 t.2.1.2.1.2.1.2 t.2.1.2.2.1.2.2.1 t.2.1.2.2.1.2.2.2.1.2 t.2.1.2.2.2.1.2.1 t.2.1.2.2.2.2.1.2.1)]⟩]
theorem e_reflect_sum_ok : EntryOk prog e_reflect_sum := autoE_ok fun t => (altsCons (fun h => reflect_sum_ok t.1 t.2.1.2.1.1 t.2.1.2.1.2.1.1 t.2.1.2.1.2.1.2 t.2.1.2.1.2.2.1 t.2.1.2.2.1.1 t.2.1.2.2.1.2.1 t.2.1.2.2.1.2.2.1 t.2.1.2.2.1.2.2.2.1.1 t.2.1.2.2.1.2.2.2.1.2 t.2.1.2.2.2.1.1 t.2.1.2.2.2.1.2.1 t.2.1.2.2.2.2.1.1 t.2.1.2.2.2.2.1.2.1 (reflect_sum_e0 h)) altsNil)
noncomputable def L_reflect_sum : List Entry := e_reflect_sum :: L_reflect_may
theorem L_reflect_sum_ok : SumsOk prog (sumsOf L_reflect_sum) := sumsOf_cons e_reflect_sum_ok L_reflect_may_ok

inductive reflect_Left_X where
  | r0 (a18 : Nat)
  | r1 (i19 : Int) (i20 : Int) (a21 : Nat) (l22 : List Nat)
def reflect_Left_E : reflect_Left_X → AE × ASt
  | .r0 a18 => (.ret, ⟨slots 103 [(8, .ptr 0 1 0 0), (9, .int .i64 ((a18 : Nat) : Int))], [(0, .vs [.int .i64 (0 : Int), .int .i64 (0 : Int), .nsl])], 1⟩)
  | .r1 i19 i20 a21 l22 => (.ret, ⟨slots 103 [(8, .ptr 0 1 0 0), (9, .int .i64 (0 : Int))], [(0, .vs [.int .i64 i19, .int .i64 i20, .sl 1 1 1 0 a21 a21]), (1, .fl l22)], 2⟩)
theorem reflect_Left_hN : NoN reflect_Left_E := by intro x; cases x <;> (intro h; cases h)
theorem reflect_Left_hI (id : Nat) : NoId id reflect_Left_E := by intro x; cases x <;> (intro h; cases h)
def reflect_Left_o : reflect_Left_X → Out
  | .r0 a18 => ⟨.tup [.agg [.int .i64 (0 : Int), .int .i64 (0 : Int), .nsl], .int .i64 ((a18 : Nat) : Int)], []⟩
  | .r1 i19 i20 a21 l22 => ⟨.tup [.agg [.int .i64 i19, .int .i64 i20, .sl 0 1 1 0 a21 a21], .int .i64 (0 : Int)], [some (.fl l22)]⟩
noncomputable def reflect_Left_l26 : List Code := flat (BODY n_reflect_Left)
def reflect_Left_n1 (a_0 : Int) (a_1 : Int) (v_2 : Lv) (a_3 : List Nat) (at_4 : Int) (from_5 : Int) (v_6 : Lv) (h_7 : List Nat) (h_8 : Nat) (b1 : Bool) : ASt := ⟨slots 103 [(2, .int .i64 from_5), (4, .ptr 0 1 0 0), (5, .ptr 1 1 0 0), (7, .ptr 2 1 0 0), (8, .ptr 3 1 0 0), (31, .bool false b1)], [(0, .vs [.int .i64 a_0, .int .i64 a_1, .imm v_2 (.fl a_3) 1 1 0 (List.length a_3)]), (1, .vs [.int .i64 at_4]), (2, .vs [.imm v_6 (.fl h_7) 1 1 0 (List.length h_7), .flt false h_8]), (3, .vs [.int .i64 (0 : Int), .int .i64 (0 : Int), .nsl])], 4⟩
def reflect_Left_t27 (a_0 : Int) (a_1 : Int) (a_3 : List Nat) (at_4 : Int) (from_5 : Int) (h_7 : List Nat) : T ((Bool) ⊕ (reflect_Left_X)) :=
  .need (slOk 0 (List.length a_3) a_3) <| .need (reflect_may_i0 (reflect_may_F a_0 a_1 (cutL 0 (List.length a_3) a_3))) <| .ask (!(reflect_may_p0_0 (reflect_may_F a_0 a_1 (cutL 0 (List.length a_3) a_3))))
    (.leaf (.inl true))
    (.ask ((((List.length h_7) : Nat) : Int) == (0 : Int))
      (.leaf (.inl true))
      (.ask (decide (at_4 < (0 : Int)))
        (.leaf (.inl true))
        (.leaf (.inl (decide (from_5 < (0 : Int)))))))
def reflect_Left_n2 (a_0 : Int) (a_1 : Int) (v_2 : Lv) (a_3 : List Nat) (at_4 : Int) (from_5 : Int) (v_6 : Lv) (h_7 : List Nat) (h_8 : Nat) (b2 : Bool) : ASt := ⟨slots 103 [(2, .int .i64 from_5), (4, .ptr 0 1 0 0), (5, .ptr 1 1 0 0), (7, .ptr 2 1 0 0), (8, .ptr 3 1 0 0), (46, .bool false b2)], [(0, .vs [.int .i64 a_0, .int .i64 a_1, .imm v_2 (.fl a_3) 1 1 0 (List.length a_3)]), (1, .vs [.int .i64 at_4]), (2, .vs [.imm v_6 (.fl h_7) 1 1 0 (List.length h_7), .flt false h_8]), (3, .vs [.int .i64 (0 : Int), .int .i64 (0 : Int), .nsl])], 4⟩
def reflect_Left_t28 (a_0 : Int) (a_1 : Int) (at_4 : Int) (from_5 : Int) (h_7 : List Nat) (b1 : Bool) : T ((Bool) ⊕ (reflect_Left_X)) :=
  .ask b1
    (.leaf (.inr (.r0 2)))
    (.need (inK .i64 (a_0 - (((List.length h_7) : Nat) : Int))) <| .ask (decide (at_4 > (a_0 - (((List.length h_7) : Nat) : Int))))
      (.leaf (.inl true))
      (.leaf (.inl (decide (from_5 > a_1)))))
def reflect_Left_n3 (a_0 : Int) (a_1 : Int) (v_2 : Lv) (a_3 : List Nat) (at_4 : Int) (from_5 : Int) (v_6 : Lv) (h_7 : List Nat) (h_8 : Nat) : Nat × (List Nat) → ASt := fun (a3, l4) => ⟨slots 103 [(4, .ptr 0 1 0 0), (5, .ptr 1 1 0 0), (7, .ptr 2 1 0 0), (8, .ptr 3 1 0 0), (10, .ptr 4 1 0 0), (11, .ptr 5 1 0 0)], [(0, .vs [.int .i64 a_0, .int .i64 a_1, .imm v_2 (.fl a_3) 1 1 0 (List.length a_3)]), (1, .vs [.int .i64 at_4]), (2, .vs [.imm v_6 (.fl h_7) 1 1 0 (List.length h_7), .flt false h_8]), (3, .vs [.int .i64 (0 : Int), .int .i64 (0 : Int), .nsl]), (4, .vs [.int .i64 a_0, .int .i64 a_1, .sl 6 1 1 0 a3 a3]), (5, .vs [.int .i64 from_5]), (6, .fl l4)], 7⟩
def reflect_Left_t29 (a_0 : Int) (a_1 : Int) (a_3 : List Nat) (h_8 : Nat) (b2 : Bool) : T ((Nat × (List Nat)) ⊕ (reflect_Left_X)) :=
  .ask b2
    (.leaf (.inr (.r0 8)))
    (.need (slOk 0 (List.length a_3) a_3) <| .need (lenOk (List.length (cutL 0 (List.length a_3) a_3))) <| .ask (feq h_8 0)
      (.leaf (.inr (.r1 a_0 a_1 (List.length (cutL 0 (List.length a_3) a_3)) (cutL 0 (List.length a_3) a_3))))
      (.leaf (.inl ((List.length (cutL 0 (List.length a_3) a_3)), (cutL 0 (List.length a_3) a_3)))))
def reflect_Left_n14 (a_0 : Int) (a_1 : Int) (v_2 : Lv) (a_3 : List Nat) (at_4 : Int) (v_6 : Lv) (h_7 : List Nat) (h_8 : Nat) (a3 : Nat) : Int × (List Nat) → ASt := fun (i10, l11) => ⟨slots 103 [(4, .ptr 0 1 0 0), (5, .ptr 1 1 0 0), (7, .ptr 2 1 0 0), (8, .ptr 3 1 0 0), (10, .ptr 4 1 0 0), (11, .ptr 5 1 0 0)], [(0, .vs [.int .i64 a_0, .int .i64 a_1, .imm v_2 (.fl a_3) 1 1 0 (List.length a_3)]), (1, .vs [.int .i64 at_4]), (2, .vs [.imm v_6 (.fl h_7) 1 1 0 (List.length h_7), .flt false h_8]), (3, .vs [.int .i64 (0 : Int), .int .i64 (0 : Int), .nsl]), (4, .vs [.int .i64 a_0, .int .i64 a_1, .sl 6 1 1 0 a3 a3]), (5, .vs [.int .i64 i10]), (6, .fl l11)], 7⟩
def reflect_Left_n24 (a_0 : Int) (a_1 : Int) (a3 : Nat) (l17 : (List Nat)) : ASt := ⟨slots 103 [(8, .ptr 0 1 0 0), (10, .ptr 1 1 0 0)], [(0, .vs [.int .i64 (0 : Int), .int .i64 (0 : Int), .nsl]), (1, .vs [.int .i64 a_0, .int .i64 a_1, .sl 2 1 1 0 a3 a3]), (2, .fl l17)], 3⟩
noncomputable def reflect_Left_l30 : List Code := flat (inLoop ((((((reflect_Left_l26.drop 2).drop 2).drop 5).take 1)).headD .skip))
def reflect_Left_n15 (a_0 : Int) (a_1 : Int) (v_2 : Lv) (a_3 : List Nat) (at_4 : Int) (v_6 : Lv) (h_7 : List Nat) (h_8 : Nat) (a3 : Nat) (i10 : Int) (l11 : List Nat) (_ : Unit) : ASt := ⟨slots 103 [(4, .ptr 0 1 0 0), (5, .ptr 1 1 0 0), (7, .ptr 2 1 0 0), (8, .ptr 3 1 0 0), (10, .ptr 4 1 0 0), (11, .ptr 5 1 0 0)], [(0, .vs [.int .i64 a_0, .int .i64 a_1, .imm v_2 (.fl a_3) 1 1 0 (List.length a_3)]), (1, .vs [.int .i64 at_4]), (2, .vs [.imm v_6 (.fl h_7) 1 1 0 (List.length h_7), .flt false h_8]), (3, .vs [.int .i64 (0 : Int), .int .i64 (0 : Int), .nsl]), (4, .vs [.int .i64 a_0, .int .i64 a_1, .sl 6 1 1 0 a3 a3]), (5, .vs [.int .i64 i10]), (6, .fl l11)], 7⟩
def reflect_Left_t31 (a_1 : Int) (i10 : Int) (l11 : List Nat) : T ((Unit) ⊕ (((List Nat)) ⊕ (reflect_Left_X))) :=
  .ask (decide (i10 < a_1))
    (.leaf (.inl ()))
    (.leaf (.inr (.inl l11)))
def reflect_Left_n22 (a_0 : Int) (a_1 : Int) (v_2 : Lv) (a_3 : List Nat) (at_4 : Int) (v_6 : Lv) (h_7 : List Nat) (h_8 : Nat) (a3 : Nat) (i10 : Int) (l16 : (List Nat)) : ASt := ⟨slots 103 [(4, .ptr 0 1 0 0), (5, .ptr 1 1 0 0), (7, .ptr 2 1 0 0), (8, .ptr 3 1 0 0), (10, .ptr 4 1 0 0), (11, .ptr 5 1 0 0)], [(0, .vs [.int .i64 a_0, .int .i64 a_1, .imm v_2 (.fl a_3) 1 1 0 (List.length a_3)]), (1, .vs [.int .i64 at_4]), (2, .vs [.imm v_6 (.fl h_7) 1 1 0 (List.length h_7), .flt false h_8]), (3, .vs [.int .i64 (0 : Int), .int .i64 (0 : Int), .nsl]), (4, .vs [.int .i64 a_0, .int .i64 a_1, .sl 6 1 1 0 a3 a3]), (5, .vs [.int .i64 i10]), (6, .fl l16)], 7⟩
noncomputable def reflect_Left_l32 : List Code := flat (inBlock ((((reflect_Left_l30.drop 2).take 1)).headD .skip))
def reflect_Left_n16 (a_0 : Int) (a_1 : Int) (v_2 : Lv) (a_3 : List Nat) (at_4 : Int) (v_6 : Lv) (h_7 : List Nat) (h_8 : Nat) (a3 : Nat) (i10 : Int) (l11 : List Nat) (w12 : Nat) : ASt := ⟨slots 103 [(4, .ptr 0 1 0 0), (5, .ptr 1 1 0 0), (7, .ptr 2 1 0 0), (8, .ptr 3 1 0 0), (10, .ptr 4 1 0 0), (11, .ptr 5 1 0 0), (12, .flt false w12)], [(0, .vs [.int .i64 a_0, .int .i64 a_1, .imm v_2 (.fl a_3) 1 1 0 (List.length a_3)]), (1, .vs [.int .i64 at_4]), (2, .vs [.imm v_6 (.fl h_7) 1 1 0 (List.length h_7), .flt false h_8]), (3, .vs [.int .i64 (0 : Int), .int .i64 (0 : Int), .nsl]), (4, .vs [.int .i64 a_0, .int .i64 a_1, .sl 6 1 1 0 a3 a3]), (5, .vs [.int .i64 i10]), (6, .fl l11)], 7⟩
def reflect_Left_t33 (a_1 : Int) (a_3 : List Nat) (at_4 : Int) (h_7 : List Nat) (h_8 : Nat) (i10 : Int) : T ((Nat) ⊕ (((List Nat)) ⊕ (((List Nat)) ⊕ (reflect_Left_X)))) :=
  .need (slOk 0 (List.length h_7) h_7) <| .need (slOk 0 (List.length a_3) a_3) <| .need (reflect_sum_i0 (reflect_sum_F (((List.length h_7) : Nat) : Int) (cutL 0 (List.length h_7) h_7) a_1 (cutL 0 (List.length a_3) a_3) at_4 i10)) <| .leaf (.inl (fmul h_8 (reflect_sum_p0_0 (reflect_sum_F (((List.length h_7) : Nat) : Int) (cutL 0 (List.length h_7) h_7) a_1 (cutL 0 (List.length a_3) a_3) at_4 i10))))
def reflect_Left_n17 (a_0 : Int) (a_1 : Int) (v_2 : Lv) (a_3 : List Nat) (at_4 : Int) (v_6 : Lv) (h_7 : List Nat) (h_8 : Nat) (a3 : Nat) (i10 : Int) (l11 : List Nat) (w12 : Nat) (_ : Unit) : ASt := ⟨slots 103 [(4, .ptr 0 1 0 0), (5, .ptr 1 1 0 0), (7, .ptr 2 1 0 0), (8, .ptr 3 1 0 0), (10, .ptr 4 1 0 0), (11, .ptr 5 1 0 0), (12, .flt false w12), (76, .imm v_6 (.fl h_7) 1 1 0 (List.length h_7)), (77, .int .i64 (((List.length h_7) : Nat) : Int)), (78, .int .i64 (0 : Int))], [(0, .vs [.int .i64 a_0, .int .i64 a_1, .imm v_2 (.fl a_3) 1 1 0 (List.length a_3)]), (1, .vs [.int .i64 at_4]), (2, .vs [.imm v_6 (.fl h_7) 1 1 0 (List.length h_7), .flt false h_8]), (3, .vs [.int .i64 (0 : Int), .int .i64 (0 : Int), .nsl]), (4, .vs [.int .i64 a_0, .int .i64 a_1, .sl 6 1 1 0 a3 a3]), (5, .vs [.int .i64 i10]), (6, .fl l11)], 7⟩
def reflect_Left_t34 : T ((Unit) ⊕ (((List Nat)) ⊕ (((List Nat)) ⊕ (reflect_Left_X)))) :=
  .leaf (.inl ())
def reflect_Left_n19 (a_0 : Int) (a_1 : Int) (v_2 : Lv) (a_3 : List Nat) (at_4 : Int) (v_6 : Lv) (h_7 : List Nat) (h_8 : Nat) (a3 : Nat) (i10 : Int) (w12 : Nat) : Nat × (List Nat) → ASt := fun (a13, l14) => ⟨slots 103 [(4, .ptr 0 1 0 0), (5, .ptr 1 1 0 0), (7, .ptr 2 1 0 0), (8, .ptr 3 1 0 0), (10, .ptr 4 1 0 0), (11, .ptr 5 1 0 0), (12, .flt false w12), (76, .imm v_6 (.fl h_7) 1 1 0 (List.length h_7)), (77, .int .i64 (((List.length h_7) : Nat) : Int)), (78, .int .i64 ((a13 : Nat) : Int))], [(0, .vs [.int .i64 a_0, .int .i64 a_1, .imm v_2 (.fl a_3) 1 1 0 (List.length a_3)]), (1, .vs [.int .i64 at_4]), (2, .vs [.imm v_6 (.fl h_7) 1 1 0 (List.length h_7), .flt false h_8]), (3, .vs [.int .i64 (0 : Int), .int .i64 (0 : Int), .nsl]), (4, .vs [.int .i64 a_0, .int .i64 a_1, .sl 6 1 1 0 a3 a3]), (5, .vs [.int .i64 i10]), (6, .fl l14)], 7⟩
def reflect_Left_n20 (a_0 : Int) (a_1 : Int) (v_2 : Lv) (a_3 : List Nat) (at_4 : Int) (v_6 : Lv) (h_7 : List Nat) (h_8 : Nat) (a3 : Nat) (i10 : Int) (l15 : (List Nat)) : ASt := ⟨slots 103 [(4, .ptr 0 1 0 0), (5, .ptr 1 1 0 0), (7, .ptr 2 1 0 0), (8, .ptr 3 1 0 0), (10, .ptr 4 1 0 0), (11, .ptr 5 1 0 0)], [(0, .vs [.int .i64 a_0, .int .i64 a_1, .imm v_2 (.fl a_3) 1 1 0 (List.length a_3)]), (1, .vs [.int .i64 at_4]), (2, .vs [.imm v_6 (.fl h_7) 1 1 0 (List.length h_7), .flt false h_8]), (3, .vs [.int .i64 (0 : Int), .int .i64 (0 : Int), .nsl]), (4, .vs [.int .i64 a_0, .int .i64 a_1, .sl 6 1 1 0 a3 a3]), (5, .vs [.int .i64 i10]), (6, .fl l15)], 7⟩
noncomputable def reflect_Left_l35 : List Code := flat (inLoop (((((reflect_Left_l32.drop 1).drop 1).take 1)).headD .skip))
def reflect_Left_t36 (a_1 : Int) (at_4 : Int) (h_7 : List Nat) (a3 : Nat) (i10 : Int) (w12 : Nat) (a13 : Nat) (l14 : List Nat) : T ((Nat × (List Nat)) ⊕ (((List Nat)) ⊕ (((List Nat)) ⊕ (((List Nat)) ⊕ (reflect_Left_X))))) :=
  .ask (decide (((a13 : Nat) : Int) < (((List.length h_7) : Nat) : Int)))
    (.need (inB ((a13 : Nat) : Int) (List.length h_7)) <| .need (ltB a13 (List.length h_7)) <| .need (inK .i64 (at_4 + ((a13 : Nat) : Int))) <| .need (inK .i64 ((at_4 + ((a13 : Nat) : Int)) * a_1)) <| .need (inK .i64 (((at_4 + ((a13 : Nat) : Int)) * a_1) + i10)) <| .need (inB (((at_4 + ((a13 : Nat) : Int)) * a_1) + i10) a3) <| .need (ltB (Int.toNat (((at_4 + ((a13 : Nat) : Int)) * a_1) + i10)) (List.length l14)) <| .need (inB (((at_4 + ((a13 : Nat) : Int)) * a_1) + i10) a3) <| .need (ltB (Int.toNat (((at_4 + ((a13 : Nat) : Int)) * a_1) + i10)) (List.length l14)) <| .need (inK .i64 (((a13 + 1) : Nat) : Int)) <| .leaf (.inl ((a13 + 1), (List.set l14 (Int.toNat (((at_4 + ((a13 : Nat) : Int)) * a_1) + i10)) (fsub (List.getD l14 (Int.toNat (((at_4 + ((a13 : Nat) : Int)) * a_1) + i10)) 0) (fmul (List.getD h_7 a13 0) w12))))))
    (.leaf (.inr (.inl l14)))
noncomputable def reflect_Left_m37 (a_1 : Int) (at_4 : Int) (h_7 : List Nat) (a3 : Nat) (i10 : Int) (w12 : Nat) : Nat × (List Nat) → Option ((Nat × (List Nat)) ⊕ (((List Nat)) ⊕ (((List Nat)) ⊕ (((List Nat)) ⊕ (reflect_Left_X))))) := fun (a13, l14) =>
  (reflect_Left_t36 a_1 at_4 h_7 a3 i10 w12 a13 l14).run
theorem reflect_Left_s37 (a_0 : Int) (a_1 : Int) (v_2 : Lv) (a_3 : List Nat) (at_4 : Int) (v_6 : Lv) (h_7 : List Nat) (h_8 : Nat) (a3 : Nat) (i10 : Int) (w12 : Nat) (a13 : Nat) (l14 : List Nat) : Sg prog [] reflect_Left_l35 (reflect_Left_n19 a_0 a_1 v_2 a_3 at_4 v_6 h_7 h_8 a3 i10 w12 (a13, l14)) (reflect_Left_m37 a_1 at_4 h_7 a3 i10 w12 (a13, l14)) (reflect_Left_n19 a_0 a_1 v_2 a_3 at_4 v_6 h_7 h_8 a3 i10 w12) (exitE 2 (reflect_Left_n20 a_0 a_1 v_2 a_3 at_4 v_6 h_7 h_8 a3 i10) (exitE 1 (reflect_Left_n22 a_0 a_1 v_2 a_3 at_4 v_6 h_7 h_8 a3 i10) (exitE 0 (reflect_Left_n24 a_0 a_1 a3) reflect_Left_E))) :=
  Sg.seg (C := C0) C0_ok L_reflect_sum_ok 60 reflect_Left_l35 (reflect_Left_n19 a_0 a_1 v_2 a_3 at_4 v_6 h_7 h_8 a3 i10 w12 (a13, l14)) (reflect_Left_t36 a_1 at_4 h_7 a3 i10 w12 a13 l14) (reflect_Left_n19 a_0 a_1 v_2 a_3 at_4 v_6 h_7 h_8 a3 i10 w12) (exitE 2 (reflect_Left_n20 a_0 a_1 v_2 a_3 at_4 v_6 h_7 h_8 a3 i10) (exitE 1 (reflect_Left_n22 a_0 a_1 v_2 a_3 at_4 v_6 h_7 h_8 a3 i10) (exitE 0 (reflect_Left_n24 a_0 a_1 a3) reflect_Left_E))) [⟨[], [0, 1, 2, 3, 4, 5, 6], [4, 5, 7, 8, 10, 11, 12, 76, 77, 78]⟩, ⟨[], [0, 1, 2, 3, 4, 5, 6], [4, 5, 7, 8, 10, 11]⟩] (by kernel_rfl)
def reflect_Left_n21 (a_0 : Int) (a_1 : Int) (v_2 : Lv) (a_3 : List Nat) (at_4 : Int) (v_6 : Lv) (h_7 : List Nat) (h_8 : Nat) (a3 : Nat) (i10 : Int) : (List Nat) → ASt := reflect_Left_n20 a_0 a_1 v_2 a_3 at_4 v_6 h_7 h_8 a3 i10
def reflect_Left_t38 (l15 : List Nat) : T (((List Nat)) ⊕ (((List Nat)) ⊕ (((List Nat)) ⊕ (reflect_Left_X)))) :=
  .leaf (.inl l15)
def reflect_Left_n23 (a_0 : Int) (a_1 : Int) (v_2 : Lv) (a_3 : List Nat) (at_4 : Int) (v_6 : Lv) (h_7 : List Nat) (h_8 : Nat) (a3 : Nat) (i10 : Int) : (List Nat) → ASt := reflect_Left_n22 a_0 a_1 v_2 a_3 at_4 v_6 h_7 h_8 a3 i10
def reflect_Left_t39 (i10 : Int) (l16 : List Nat) : T ((Int × (List Nat)) ⊕ (((List Nat)) ⊕ (reflect_Left_X))) :=
  .need (inK .i64 (i10 + (1 : Int))) <| .leaf (.inl ((i10 + (1 : Int)), l16))
noncomputable def reflect_Left_m40 (a_1 : Int) (a_3 : List Nat) (at_4 : Int) (h_7 : List Nat) (h_8 : Nat) (a3 : Nat) : Int × (List Nat) → Option ((Int × (List Nat)) ⊕ (((List Nat)) ⊕ (reflect_Left_X))) := fun (i10, l11) =>
  seqM ((reflect_Left_t31 a_1 i10 l11).run) fun _ =>
  seqM (joinM (seqM ((reflect_Left_t33 a_1 a_3 at_4 h_7 h_8 i10).run) fun w12 =>
  seqM ((reflect_Left_t34).run) fun _ =>
  seqM (loopM (reflect_Left_m37 a_1 at_4 h_7 a3 i10 w12) (0, l11)) fun l15 =>
  (reflect_Left_t38 l15).run)) fun l16 =>
  (reflect_Left_t39 i10 l16).run
theorem reflect_Left_s40 (a_0 : Int) (a_1 : Int) (v_2 : Lv) (a_3 : List Nat) (at_4 : Int) (v_6 : Lv) (h_7 : List Nat) (h_8 : Nat) (a3 : Nat) (i10 : Int) (l11 : List Nat) : Sg prog [] reflect_Left_l30 (reflect_Left_n14 a_0 a_1 v_2 a_3 at_4 v_6 h_7 h_8 a3 (i10, l11)) (reflect_Left_m40 a_1 a_3 at_4 h_7 h_8 a3 (i10, l11)) (reflect_Left_n14 a_0 a_1 v_2 a_3 at_4 v_6 h_7 h_8 a3) (exitE 0 (reflect_Left_n24 a_0 a_1 a3) reflect_Left_E) :=
  Sg.cut 2 (noN_exit reflect_Left_hN) (Sg.seg (C := C0) C0_ok L_reflect_sum_ok 60 (reflect_Left_l30.take 2) (reflect_Left_n14 a_0 a_1 v_2 a_3 at_4 v_6 h_7 h_8 a3 (i10, l11)) (reflect_Left_t31 a_1 i10 l11) (reflect_Left_n15 a_0 a_1 v_2 a_3 at_4 v_6 h_7 h_8 a3 i10 l11) (exitE 0 (reflect_Left_n24 a_0 a_1 a3) reflect_Left_E) [⟨[], [0, 1, 2, 3, 4, 5, 6], [4, 5, 7, 8, 10, 11]⟩, ⟨[], [3, 4, 6], [8, 10]⟩] (by kernel_rfl)) (fun a => by cases a; exact Sg.cut 1 (noN_exit reflect_Left_hN) (Sg.blockAt (id := 1) (K := (reflect_Left_n22 a_0 a_1 v_2 a_3 at_4 v_6 h_7 h_8 a3 i10)) (by kernel_rfl : ((reflect_Left_l30.drop 2).take 1) = [.block 1 (inBlock ((((reflect_Left_l30.drop 2).take 1)).headD .skip))]) (noN_exit reflect_Left_hN) (noId_exit (by decide) (reflect_Left_hI _)) (Sg.cut 1 (noN_exit (noN_exit reflect_Left_hN)) (Sg.seg (C := C0) C0_ok L_reflect_sum_ok 60 (reflect_Left_l32.take 1) (reflect_Left_n15 a_0 a_1 v_2 a_3 at_4 v_6 h_7 h_8 a3 i10 l11 ()) (reflect_Left_t33 a_1 a_3 at_4 h_7 h_8 i10) (reflect_Left_n16 a_0 a_1 v_2 a_3 at_4 v_6 h_7 h_8 a3 i10 l11) (exitE 1 (reflect_Left_n22 a_0 a_1 v_2 a_3 at_4 v_6 h_7 h_8 a3 i10) (exitE 0 (reflect_Left_n24 a_0 a_1 a3) reflect_Left_E)) [⟨[], [0, 1, 2, 3, 4, 5, 6], [4, 5, 7, 8, 10, 11, 12]⟩] (by kernel_rfl)) (fun w12 => by exact Sg.cut 1 (noN_exit (noN_exit reflect_Left_hN)) (Sg.seg (C := C0) C0_ok L_reflect_sum_ok 60 ((reflect_Left_l32.drop 1).take 1) (reflect_Left_n16 a_0 a_1 v_2 a_3 at_4 v_6 h_7 h_8 a3 i10 l11 w12) (reflect_Left_t34) (reflect_Left_n17 a_0 a_1 v_2 a_3 at_4 v_6 h_7 h_8 a3 i10 l11 w12) (exitE 1 (reflect_Left_n22 a_0 a_1 v_2 a_3 at_4 v_6 h_7 h_8 a3 i10) (exitE 0 (reflect_Left_n24 a_0 a_1 a3) reflect_Left_E)) [⟨[], [0, 1, 2, 3, 4, 5, 6], [4, 5, 7, 8, 10, 11, 12, 76, 77, 78]⟩] (by kernel_rfl)) (fun a => by cases a; exact Sg.cut 1 (noN_exit (noN_exit reflect_Left_hN)) (Sg.pre ⟨[], [0, 1, 2, 3, 4, 5, 6], [4, 5, 7, 8, 10, 11, 12, 76, 77, 78]⟩ rfl (by kernel_rfl : NS.on ⟨[], [0, 1, 2, 3, 4, 5, 6], [4, 5, 7, 8, 10, 11, 12, 76, 77, 78]⟩ (reflect_Left_n17 a_0 a_1 v_2 a_3 at_4 v_6 h_7 h_8 a3 i10 l11 w12 ()) = (reflect_Left_n19 a_0 a_1 v_2 a_3 at_4 v_6 h_7 h_8 a3 i10 w12) (0, l11)) (Sg.loopAt (I := (reflect_Left_n19 a_0 a_1 v_2 a_3 at_4 v_6 h_7 h_8 a3 i10 w12)) (J := (reflect_Left_n20 a_0 a_1 v_2 a_3 at_4 v_6 h_7 h_8 a3 i10)) (id := 2) (by kernel_rfl : (((reflect_Left_l32.drop 1).drop 1).take 1) = [.block 2 (.loop (inLoop (((((reflect_Left_l32.drop 1).drop 1).take 1)).headD .skip)))]) (noN_exit (noN_exit reflect_Left_hN)) (noId_exit (by decide) (noId_exit (by decide) (reflect_Left_hI _))) (fun s => by obtain ⟨a13, l14⟩ := s; exact reflect_Left_s37 a_0 a_1 v_2 a_3 at_4 v_6 h_7 h_8 a3 i10 w12 a13 l14) (0, l11))) (fun l15 => by exact Sg.seg (C := C0) C0_ok L_reflect_sum_ok 60 (((reflect_Left_l32.drop 1).drop 1).drop 1) (reflect_Left_n21 a_0 a_1 v_2 a_3 at_4 v_6 h_7 h_8 a3 i10 l15) (reflect_Left_t38 l15) (reflect_Left_n22 a_0 a_1 v_2 a_3 at_4 v_6 h_7 h_8 a3 i10) (exitE 1 (reflect_Left_n22 a_0 a_1 v_2 a_3 at_4 v_6 h_7 h_8 a3 i10) (exitE 0 (reflect_Left_n24 a_0 a_1 a3) reflect_Left_E)) [⟨[], [0, 1, 2, 3, 4, 5, 6], [4, 5, 7, 8, 10, 11]⟩] (by kernel_rfl)))))) (fun l16 => by exact Sg.seg (C := C0) C0_ok L_reflect_sum_ok 60 ((reflect_Left_l30.drop 2).drop 1) (reflect_Left_n23 a_0 a_1 v_2 a_3 at_4 v_6 h_7 h_8 a3 i10 l16) (reflect_Left_t39 i10 l16) (reflect_Left_n14 a_0 a_1 v_2 a_3 at_4 v_6 h_7 h_8 a3) (exitE 0 (reflect_Left_n24 a_0 a_1 a3) reflect_Left_E) [⟨[], [0, 1, 2, 3, 4, 23, 6], [4, 5, 7, 8, 10, 11]⟩] (by kernel_rfl)))
def reflect_Left_n25 (a_0 : Int) (a_1 : Int) (a3 : Nat) : (List Nat) → ASt := reflect_Left_n24 a_0 a_1 a3
def reflect_Left_t41 (a_0 : Int) (a_1 : Int) (a3 : Nat) (l17 : List Nat) : T ((Empty) ⊕ (reflect_Left_X)) :=
  .leaf (.inr (.r1 a_0 a_1 a3 l17))
noncomputable def reflect_Left_F (a_0 : Int) (a_1 : Int) (a_3 : List Nat) (at_4 : Int) (from_5 : Int) (h_7 : List Nat) (h_8 : Nat) : Option reflect_Left_X := toX (seqM ((reflect_Left_t27 a_0 a_1 a_3 at_4 from_5 h_7).run) fun b1 =>
  seqM ((reflect_Left_t28 a_0 a_1 at_4 from_5 h_7 b1).run) fun b2 =>
  seqM ((reflect_Left_t29 a_0 a_1 a_3 h_8 b2).run) fun (a3, l4) =>
  seqM (loopM (reflect_Left_m40 a_1 a_3 at_4 h_7 h_8 a3) (from_5, l4)) fun l17 =>
  (reflect_Left_t41 a_0 a_1 a3 l17).run)
theorem reflect_Left_ok (a_0 : Int) (a_1 : Int) (v_2 : Lv) (a_3 : List Nat) (at_4 : Int) (from_5 : Int) (v_6 : Lv) (h_7 : List Nat) (h_8 : Nat) {x : reflect_Left_X} (h : reflect_Left_F a_0 a_1 a_3 at_4 from_5 h_7 h_8 = some x) : Contract prog n_reflect_Left [] [.agg [.int .i64 a_0, .int .i64 a_1, .imm v_2 (.fl a_3) 1 1 0 (List.length a_3)], .int .i64 at_4, .int .i64 from_5, .agg [.imm v_6 (.fl h_7) 1 1 0 (List.length h_7), .flt false h_8]] (reflect_Left_o x) :=
  Sg.contract false reflect_Left_o (by kernel_rfl : prog.funcs[n_reflect_Left]? = some (FN n_reflect_Left)) (by kernel_rfl : (FN n_reflect_Left).body = some (BODY n_reflect_Left)) (Sg.cut 2 reflect_Left_hN (Sg.seg (C := C0) C0_ok L_reflect_sum_ok 60 (reflect_Left_l26.take 2) (entryOf (FN n_reflect_Left) [] [.agg [.int .i64 a_0, .int .i64 a_1, .imm v_2 (.fl a_3) 1 1 0 (List.length a_3)], .int .i64 at_4, .int .i64 from_5, .agg [.imm v_6 (.fl h_7) 1 1 0 (List.length h_7), .flt false h_8]]) (reflect_Left_t27 a_0 a_1 a_3 at_4 from_5 h_7) (reflect_Left_n1 a_0 a_1 v_2 a_3 at_4 from_5 v_6 h_7 h_8) reflect_Left_E [⟨[], [0, 16, 32, 48], [2, 4, 5, 7, 8, 31]⟩, ⟨[], [0, 16, 32, 48], [2, 4, 5, 7, 8, 31]⟩, ⟨[], [0, 16, 32, 48], [2, 4, 5, 7, 8, 31]⟩, ⟨[], [0, 16, 32, 48], [2, 4, 5, 7, 8, 31]⟩] (by kernel_rfl)) (fun b1 => by exact Sg.cut 2 reflect_Left_hN (Sg.seg (C := C0) C0_ok L_reflect_sum_ok 60 ((reflect_Left_l26.drop 2).take 2) (reflect_Left_n1 a_0 a_1 v_2 a_3 at_4 from_5 v_6 h_7 h_8 b1) (reflect_Left_t28 a_0 a_1 at_4 from_5 h_7 b1) (reflect_Left_n2 a_0 a_1 v_2 a_3 at_4 from_5 v_6 h_7 h_8) reflect_Left_E [⟨[], [3], [8, 9]⟩, ⟨[], [0, 1, 2, 3], [2, 4, 5, 7, 8, 46]⟩, ⟨[], [0, 1, 2, 3], [2, 4, 5, 7, 8, 46]⟩] (by kernel_rfl)) (fun b2 => by exact Sg.cut 5 reflect_Left_hN (Sg.seg (C := C0) C0_ok L_reflect_sum_ok 60 (((reflect_Left_l26.drop 2).drop 2).take 5) (reflect_Left_n2 a_0 a_1 v_2 a_3 at_4 from_5 v_6 h_7 h_8 b2) (reflect_Left_t29 a_0 a_1 a_3 h_8 b2) (reflect_Left_n3 a_0 a_1 v_2 a_3 at_4 from_5 v_6 h_7 h_8) reflect_Left_E [⟨[], [3], [8, 9]⟩, ⟨[], [3, 100], [8, 9]⟩, ⟨[], [0, 1, 2, 3, 132, 228, 100], [4, 5, 7, 8, 10, 11]⟩] (by kernel_rfl)) (fun a => by obtain ⟨a3, l4⟩ := a; exact Sg.cut 1 reflect_Left_hN (Sg.pre ⟨[], [0, 1, 2, 3, 4, 5, 6], [4, 5, 7, 8, 10, 11]⟩ rfl (by kernel_rfl : NS.on ⟨[], [0, 1, 2, 3, 4, 5, 6], [4, 5, 7, 8, 10, 11]⟩ (reflect_Left_n3 a_0 a_1 v_2 a_3 at_4 from_5 v_6 h_7 h_8 (a3, l4)) = (reflect_Left_n14 a_0 a_1 v_2 a_3 at_4 v_6 h_7 h_8 a3) (from_5, l4)) (Sg.loopAt (I := (reflect_Left_n14 a_0 a_1 v_2 a_3 at_4 v_6 h_7 h_8 a3)) (J := (reflect_Left_n24 a_0 a_1 a3)) (id := 0) (by kernel_rfl : ((((reflect_Left_l26.drop 2).drop 2).drop 5).take 1) = [.block 0 (.loop (inLoop ((((((reflect_Left_l26.drop 2).drop 2).drop 5).take 1)).headD .skip)))]) reflect_Left_hN (reflect_Left_hI _) (fun s => by obtain ⟨i10, l11⟩ := s; exact reflect_Left_s40 a_0 a_1 v_2 a_3 at_4 v_6 h_7 h_8 a3 i10 l11) (from_5, l4))) (fun l17 => by exact Sg.seg (C := C0) C0_ok L_reflect_sum_ok 60 ((((reflect_Left_l26.drop 2).drop 2).drop 5).drop 1) (reflect_Left_n25 a_0 a_1 a3 l17) (reflect_Left_t41 a_0 a_1 a3 l17) (fun a : Empty => a.elim) reflect_Left_E [⟨[], [0, 2], [8, 9]⟩] (by kernel_rfl))))))
    (fun x => by cases x with | r0 a18 => exact ⟨.inr rfl, [.agg [.int .i64 (0 : Int), .int .i64 (0 : Int), .nsl], .int .i64 ((a18 : Nat) : Int)], [], by kernel_rfl, trivial, by kernel_rfl⟩ | r1 i19 i20 a21 l22 => exact ⟨.inr rfl, [.agg [.int .i64 i19, .int .i64 i20, .sl 1 1 1 0 a21 a21], .int .i64 (0 : Int)], [], by kernel_rfl, trivial, by kernel_rfl⟩) h

def reflect_Left_i0 : Option reflect_Left_X → Bool
  | some (.r0 _) => true
  | _ => false
def reflect_Left_p0_0 : Option reflect_Left_X → Nat
  | some (.r0 x) => x
  | _ => 0
theorem reflect_Left_e0 {x : Option reflect_Left_X} (h : reflect_Left_i0 x = true) : x = some (.r0 (reflect_Left_p0_0 x)) := by
  unfold reflect_Left_i0 at h
  split at h <;> first | rfl | (cases h; done) | (rename_i y; cases y; rfl)
def reflect_Left_i1 : Option reflect_Left_X → Bool
  | some (.r1 _ _ _ _) => true
  | _ => false
def reflect_Left_p1_0 : Option reflect_Left_X → Int
  | some (.r1 x _ _ _) => x
  | _ => 0
def reflect_Left_p1_1 : Option reflect_Left_X → Int
  | some (.r1 _ x _ _) => x
  | _ => 0
def reflect_Left_p1_2 : Option reflect_Left_X → Nat
  | some (.r1 _ _ x _) => x
  | _ => 0
def reflect_Left_p1_3 : Option reflect_Left_X → List Nat
  | some (.r1 _ _ _ x) => x
  | _ => []
theorem reflect_Left_e1 {x : Option reflect_Left_X} (h : reflect_Left_i1 x = true) : x = some (.r1 (reflect_Left_p1_0 x) (reflect_Left_p1_1 x) (reflect_Left_p1_2 x) (reflect_Left_p1_3 x)) := by
  unfold reflect_Left_i1 at h
  split at h <;> first | rfl | (cases h; done) | (rename_i y; cases y; rfl)
noncomputable def e_reflect_Left : Entry := autoE n_reflect_Left (.cons (.agg (.cons (.int .i64) (.cons (.int .i64) (.cons .fl .nil)))) (.cons (.int .i64) (.cons (.int .i64) (.cons (.agg (.cons .fl (.cons (.flt false) .nil))) .nil)))) fun t => [⟨reflect_Left_o (.r0 (reflect_Left_p0_0 (reflect_Left_F t.1.1 t.1.2.1 t.1.2.2.1.2 t.2.1 t.2.2.1 t.2.2.2.1.1.2 t.2.2.2.1.2.1))), [reflect_Left_i0 (reflect_Left_F t.1.1 t.1.2.1 t.1.2.2.1.2 t.2.1 t.2.2.1 t.2.2.2.1.1.2 t.2.2.2.1.2.1)]⟩, ⟨reflect_Left_o (.r1 (reflect_Left_p1_0 (reflect_Left_F t.1.1 t.1.2.1 t.1.2.2.1.2 t.2.1 t.2.2.1 t.2.2.2.1.1.2 t.2.2.2.1.2.1)) (reflect_Left_p1_1 (reflect_Left_F t.1.1 t.1.2.1 t.1.2.2.1.2 t.2.1 t.2.2.1 t.2.2.2.1.1.2 t.2.2.2.1.2.1)) (reflect_Left_p1_2 (reflect_Left_F t.1.1 t.1.2.1 t.1.2.2.1.2 t.2.1 t.2.2.1 t.2.2.2.1.1.2 t.2.2.2.1.2.1)) (reflect_Left_p1_3 (reflect_Left_F t.1.1 t.1.2.1 t.1.2.2.1.2 t.2.1 t.2.2.1 t.2.2.2.1.1.2 t.2.2.2.1.2.1))), [reflect_Left_i1 (reflect_Left_F t.1.1 t.1.2.1 t.1.2.2.1.2 t.2.1 t.2.2.1 t.2.2.2.1.1.2 t.2.2.2.1.2.1)]⟩]
theorem e_reflect_Left_ok : EntryOk prog e_reflect_Left := autoE_ok fun t => (altsCons (fun h => reflect_Left_ok t.1.1 t.1.2.1 t.1.2.2.1.1 t.1.2.2.1.2 t.2.1 t.2.2.1 t.2.2.2.1.1.1 t.2.2.2.1.1.2 t.2.2.2.1.2.1 (reflect_Left_e0 h)) (altsCons (fun h => reflect_Left_ok t.1.1 t.1.2.1 t.1.2.2.1.1 t.1.2.2.1.2 t.2.1 t.2.2.1 t.2.2.2.1.1.1 t.2.2.2.1.1.2 t.2.2.2.1.2.1 (reflect_Left_e1 h)) altsNil))
noncomputable def L_reflect_Left : List Entry := e_reflect_Left :: L_reflect_sum
theorem L_reflect_Left_ok : SumsOk prog (sumsOf L_reflect_Left) := sumsOf_cons e_reflect_Left_ok L_reflect_sum_ok

inductive reflect_sum_v2_X where
  | r0 (a4 : Nat)
def reflect_sum_v2_E : reflect_sum_v2_X → AE × ASt
  | .r0 a4 => (.ret, ⟨slots 18 [(4, .flt false a4)], [], 0⟩)
theorem reflect_sum_v2_hN : NoN reflect_sum_v2_E := by intro x; cases x <;> (intro h; cases h)
theorem reflect_sum_v2_hI (id : Nat) : NoId id reflect_sum_v2_E := by intro x; cases x <;> (intro h; cases h)
def reflect_sum_v2_o : reflect_sum_v2_X → Out
  | .r0 a4 => ⟨.flt false a4, []⟩
noncomputable def reflect_sum_v2_l6 : List Code := flat (BODY n_reflect_sum)
def reflect_sum_v2_n1 (n_0 : Int) (v_1 : Lv) (one_2 : Int) (one_3 : Int) (v_4 : Lv) (one_5 : List Nat) (v_6 : Lv) (one_7 : Int) (v_8 : Lv) (one_9 : Int) (v_10 : Lv) (v_11 : Lv) (one_12 : List Nat) (one_13 : Nat) (_ : Unit) : ASt := ⟨slots 18 [(1, .fn (.func n_reflect_Right_1) [] [.iptr v_1 (.vs [.int .i64 one_2, .int .i64 one_3, .imm v_4 (.fl one_5) 1 1 0 (List.length one_5)]) 1 0 0, .iptr v_6 (.vs [.int .i64 one_7]) 1 0 0, .iptr v_8 (.vs [.int .i64 one_9]) 1 0 0, .iptr v_10 (.vs [.imm v_11 (.fl one_12) 1 1 0 (List.length one_12), .flt false one_13]) 1 0 0]), (5, .flt false 0), (7, .int .i64 n_0), (8, .int .i64 (0 : Int))], [], 0⟩
def reflect_sum_v2_t7 : T ((Unit) ⊕ (reflect_sum_v2_X)) :=
  .leaf (.inl ())
def reflect_sum_v2_n3 (n_0 : Int) (v_1 : Lv) (one_2 : Int) (one_3 : Int) (v_4 : Lv) (one_5 : List Nat) (v_6 : Lv) (one_7 : Int) (v_8 : Lv) (one_9 : Int) (v_10 : Lv) (v_11 : Lv) (one_12 : List Nat) (one_13 : Nat) : Nat × Nat → ASt := fun (s1, a2) => ⟨slots 18 [(1, .fn (.func n_reflect_Right_1) [] [.iptr v_1 (.vs [.int .i64 one_2, .int .i64 one_3, .imm v_4 (.fl one_5) 1 1 0 (List.length one_5)]) 1 0 0, .iptr v_6 (.vs [.int .i64 one_7]) 1 0 0, .iptr v_8 (.vs [.int .i64 one_9]) 1 0 0, .iptr v_10 (.vs [.imm v_11 (.fl one_12) 1 1 0 (List.length one_12), .flt false one_13]) 1 0 0]), (5, .flt false s1), (7, .int .i64 n_0), (8, .int .i64 ((a2 : Nat) : Int))], [], 0⟩
def reflect_sum_v2_n4 (s3 : Nat) : ASt := ⟨slots 18 [(5, .flt false s3)], [], 0⟩
noncomputable def reflect_sum_v2_l8 : List Code := flat (inLoop ((((reflect_sum_v2_l6.drop 3).take 1)).headD .skip))
def reflect_sum_v2_t9 (n_0 : Int) (one_3 : Int) (one_5 : List Nat) (one_7 : Int) (one_9 : Int) (one_12 : List Nat) (s1 : Nat) (a2 : Nat) : T ((Nat × Nat) ⊕ ((Nat) ⊕ (reflect_sum_v2_X))) :=
  .ask (decide (((a2 : Nat) : Int) < n_0))
    (.need (inK .i64 (one_7 * one_3)) <| .need (inK .i64 ((one_7 * one_3) + one_9)) <| .need (inK .i64 (((one_7 * one_3) + one_9) + ((a2 : Nat) : Int))) <| .need (inB (((one_7 * one_3) + one_9) + ((a2 : Nat) : Int)) (List.length one_5)) <| .need (ltB (Int.toNat (((one_7 * one_3) + one_9) + ((a2 : Nat) : Int))) (List.length one_5)) <| .need (inB ((a2 : Nat) : Int) (List.length one_12)) <| .need (ltB a2 (List.length one_12)) <| .need (inK .i64 (((a2 + 1) : Nat) : Int)) <| .leaf (.inl ((fadd s1 (fmul (List.getD one_5 (Int.toNat (((one_7 * one_3) + one_9) + ((a2 : Nat) : Int))) 0) (List.getD one_12 a2 0))), (a2 + 1))))
    (.leaf (.inr (.inl s1)))
noncomputable def reflect_sum_v2_m10 (n_0 : Int) (one_3 : Int) (one_5 : List Nat) (one_7 : Int) (one_9 : Int) (one_12 : List Nat) : Nat × Nat → Option ((Nat × Nat) ⊕ ((Nat) ⊕ (reflect_sum_v2_X))) := fun (s1, a2) =>
  (reflect_sum_v2_t9 n_0 one_3 one_5 one_7 one_9 one_12 s1 a2).run
theorem reflect_sum_v2_s10 (n_0 : Int) (v_1 : Lv) (one_2 : Int) (one_3 : Int) (v_4 : Lv) (one_5 : List Nat) (v_6 : Lv) (one_7 : Int) (v_8 : Lv) (one_9 : Int) (v_10 : Lv) (v_11 : Lv) (one_12 : List Nat) (one_13 : Nat) (s1 : Nat) (a2 : Nat) : Sg prog [] reflect_sum_v2_l8 (reflect_sum_v2_n3 n_0 v_1 one_2 one_3 v_4 one_5 v_6 one_7 v_8 one_9 v_10 v_11 one_12 one_13 (s1, a2)) (reflect_sum_v2_m10 n_0 one_3 one_5 one_7 one_9 one_12 (s1, a2)) (reflect_sum_v2_n3 n_0 v_1 one_2 one_3 v_4 one_5 v_6 one_7 v_8 one_9 v_10 v_11 one_12 one_13) (exitE 0 reflect_sum_v2_n4 reflect_sum_v2_E) :=
  Sg.seg (C := C0) C0_ok L_reflect_Left_ok 60 reflect_sum_v2_l8 (reflect_sum_v2_n3 n_0 v_1 one_2 one_3 v_4 one_5 v_6 one_7 v_8 one_9 v_10 v_11 one_12 one_13 (s1, a2)) (reflect_sum_v2_t9 n_0 one_3 one_5 one_7 one_9 one_12 s1 a2) (reflect_sum_v2_n3 n_0 v_1 one_2 one_3 v_4 one_5 v_6 one_7 v_8 one_9 v_10 v_11 one_12 one_13) (exitE 0 reflect_sum_v2_n4 reflect_sum_v2_E) [⟨[], [], [1, 5, 7, 8]⟩, ⟨[], [], [5]⟩] (by kernel_rfl)
def reflect_sum_v2_n5 : Nat → ASt := reflect_sum_v2_n4
def reflect_sum_v2_t11 (s3 : Nat) : T ((Empty) ⊕ (reflect_sum_v2_X)) :=
  .leaf (.inr (.r0 s3))
noncomputable def reflect_sum_v2_F (n_0 : Int) (one_3 : Int) (one_5 : List Nat) (one_7 : Int) (one_9 : Int) (one_12 : List Nat) : Option reflect_sum_v2_X := toX (seqM ((reflect_sum_v2_t7).run) fun _ =>
  seqM (loopM (reflect_sum_v2_m10 n_0 one_3 one_5 one_7 one_9 one_12) (0, 0)) fun s3 =>
  (reflect_sum_v2_t11 s3).run)
theorem reflect_sum_v2_ok (n_0 : Int) (v_1 : Lv) (one_2 : Int) (one_3 : Int) (v_4 : Lv) (one_5 : List Nat) (v_6 : Lv) (one_7 : Int) (v_8 : Lv) (one_9 : Int) (v_10 : Lv) (v_11 : Lv) (one_12 : List Nat) (one_13 : Nat) {x : reflect_sum_v2_X} (h : reflect_sum_v2_F n_0 one_3 one_5 one_7 one_9 one_12 = some x) : Contract prog n_reflect_sum [] [.int .i64 n_0, .fn (.func n_reflect_Right_1) [] [.iptr v_1 (.vs [.int .i64 one_2, .int .i64 one_3, .imm v_4 (.fl one_5) 1 1 0 (List.length one_5)]) 1 0 0, .iptr v_6 (.vs [.int .i64 one_7]) 1 0 0, .iptr v_8 (.vs [.int .i64 one_9]) 1 0 0, .iptr v_10 (.vs [.imm v_11 (.fl one_12) 1 1 0 (List.length one_12), .flt false one_13]) 1 0 0]] (reflect_sum_v2_o x) :=
  Sg.contract false reflect_sum_v2_o (by kernel_rfl : prog.funcs[n_reflect_sum]? = some (FN n_reflect_sum)) (by kernel_rfl : (FN n_reflect_sum).body = some (BODY n_reflect_sum)) (Sg.cut 3 reflect_sum_v2_hN (Sg.seg (C := C0) C0_ok L_reflect_Left_ok 60 (reflect_sum_v2_l6.take 3) (entryOf (FN n_reflect_sum) [] [.int .i64 n_0, .fn (.func n_reflect_Right_1) [] [.iptr v_1 (.vs [.int .i64 one_2, .int .i64 one_3, .imm v_4 (.fl one_5) 1 1 0 (List.length one_5)]) 1 0 0, .iptr v_6 (.vs [.int .i64 one_7]) 1 0 0, .iptr v_8 (.vs [.int .i64 one_9]) 1 0 0, .iptr v_10 (.vs [.imm v_11 (.fl one_12) 1 1 0 (List.length one_12), .flt false one_13]) 1 0 0]]) (reflect_sum_v2_t7) (reflect_sum_v2_n1 n_0 v_1 one_2 one_3 v_4 one_5 v_6 one_7 v_8 one_9 v_10 v_11 one_12 one_13) reflect_sum_v2_E [⟨[], [], [1, 5, 7, 8]⟩] (by kernel_rfl)) (fun a => by cases a; exact Sg.cut 1 reflect_sum_v2_hN (Sg.pre ⟨[], [], [1, 5, 7, 8]⟩ rfl (by kernel_rfl : NS.on ⟨[], [], [1, 5, 7, 8]⟩ (reflect_sum_v2_n1 n_0 v_1 one_2 one_3 v_4 one_5 v_6 one_7 v_8 one_9 v_10 v_11 one_12 one_13 ()) = (reflect_sum_v2_n3 n_0 v_1 one_2 one_3 v_4 one_5 v_6 one_7 v_8 one_9 v_10 v_11 one_12 one_13) (0, 0)) (Sg.loopAt (I := (reflect_sum_v2_n3 n_0 v_1 one_2 one_3 v_4 one_5 v_6 one_7 v_8 one_9 v_10 v_11 one_12 one_13)) (J := (reflect_sum_v2_n4)) (id := 0) (by kernel_rfl : ((reflect_sum_v2_l6.drop 3).take 1) = [.block 0 (.loop (inLoop ((((reflect_sum_v2_l6.drop 3).take 1)).headD .skip)))]) reflect_sum_v2_hN (reflect_sum_v2_hI _) (fun s => by obtain ⟨s1, a2⟩ := s; exact reflect_sum_v2_s10 n_0 v_1 one_2 one_3 v_4 one_5 v_6 one_7 v_8 one_9 v_10 v_11 one_12 one_13 s1 a2) (0, 0))) (fun s3 => by exact Sg.seg (C := C0) C0_ok L_reflect_Left_ok 60 ((reflect_sum_v2_l6.drop 3).drop 1) (reflect_sum_v2_n5 s3) (reflect_sum_v2_t11 s3) (fun a : Empty => a.elim) reflect_sum_v2_E [⟨[], [], [4]⟩] (by kernel_rfl))))
    (fun x => by cases x with | r0 a4 => exact ⟨.inr rfl, [.flt false a4], [], by kernel_rfl, trivial, by kernel_rfl⟩) h

def reflect_sum_v2_i0 : Option reflect_sum_v2_X → Bool
  | some _ => true
  | none => false
def reflect_sum_v2_p0_0 : Option reflect_sum_v2_X → Nat
  | some (.r0 x) => x
  | _ => 0
theorem reflect_sum_v2_e0 {x : Option reflect_sum_v2_X} (h : reflect_sum_v2_i0 x = true) : x = some (.r0 (reflect_sum_v2_p0_0 x)) := by
  unfold reflect_sum_v2_i0 at h
  split at h <;> first | rfl | (cases h; done) | (rename_i y; cases y; rfl)
noncomputable def e_reflect_sum_v2 : Entry := autoE n_reflect_sum (.cons (.int .i64) (.cons (.fn n_reflect_Right_1 .nil (.cons (.ivs (.cons (.int .i64) (.cons (.int .i64) (.cons .fl .nil))) 1 0 0) (.cons (.ivs (.cons (.int .i64) .nil) 1 0 0) (.cons (.ivs (.cons (.int .i64) .nil) 1 0 0) (.cons (.ivs (.cons .fl (.cons (.flt false) .nil)) 1 0 0) .nil))))) .nil)) fun t => [⟨reflect_sum_v2_o (.r0 (reflect_sum_v2_p0_0 (reflect_sum_v2_F t.1 t.2.1.2.1.2.2.1 t.2.1.2.1.2.2.2.1.2 t.2.1.2.2.1.2.1 t.2.1.2.2.2.1.2.1 t.2.1.2.2.2.2.1.2.1.2))), [reflect_sum_v2_i0 (reflect_sum_v2_F t.1 t.2.1.2.1.2.2.1 t.2.1.2.1.2.2.2.1.2 t.2.1.2.2.1.2.1 t.2.1.2.2.2.1.2.1 t.2.1.2.2.2.2.1.2.1.2)]⟩]
theorem e_reflect_sum_v2_ok : EntryOk prog e_reflect_sum_v2 := autoE_ok fun t => (altsCons (fun h => reflect_sum_v2_ok t.1 t.2.1.2.1.1 t.2.1.2.1.2.1 t.2.1.2.1.2.2.1 t.2.1.2.1.2.2.2.1.1 t.2.1.2.1.2.2.2.1.2 t.2.1.2.2.1.1 t.2.1.2.2.1.2.1 t.2.1.2.2.2.1.1 t.2.1.2.2.2.1.2.1 t.2.1.2.2.2.2.1.1 t.2.1.2.2.2.2.1.2.1.1 t.2.1.2.2.2.2.1.2.1.2 t.2.1.2.2.2.2.1.2.2.1 (reflect_sum_v2_e0 h)) altsNil)
noncomputable def L_reflect_sum_v2 : List Entry := e_reflect_sum_v2 :: L_reflect_Left
theorem L_reflect_sum_v2_ok : SumsOk prog (sumsOf L_reflect_sum_v2) := sumsOf_cons e_reflect_sum_v2_ok L_reflect_Left_ok

end
end Go.Plb.Seat

namespace Go.Plb.Seat
open Go Go.Plb
set_option linter.unusedVariables false
set_option maxRecDepth 10000
noncomputable section

inductive reflect_Right_X where
  | r0 (a18 : Nat)
  | r1 (i19 : Int) (i20 : Int) (a21 : Nat) (l22 : List Nat)
def reflect_Right_E : reflect_Right_X → AE × ASt
  | .r0 a18 => (.ret, ⟨slots 103 [(8, .ptr 0 1 0 0), (9, .int .i64 ((a18 : Nat) : Int))], [(0, .vs [.int .i64 (0 : Int), .int .i64 (0 : Int), .nsl])], 1⟩)
  | .r1 i19 i20 a21 l22 => (.ret, ⟨slots 103 [(8, .ptr 0 1 0 0), (9, .int .i64 (0 : Int))], [(0, .vs [.int .i64 i19, .int .i64 i20, .sl 1 1 1 0 a21 a21]), (1, .fl l22)], 2⟩)
theorem reflect_Right_hN : NoN reflect_Right_E := by intro x; cases x <;> (intro h; cases h)
theorem reflect_Right_hI (id : Nat) : NoId id reflect_Right_E := by intro x; cases x <;> (intro h; cases h)
def reflect_Right_o : reflect_Right_X → Out
  | .r0 a18 => ⟨.tup [.agg [.int .i64 (0 : Int), .int .i64 (0 : Int), .nsl], .int .i64 ((a18 : Nat) : Int)], []⟩
  | .r1 i19 i20 a21 l22 => ⟨.tup [.agg [.int .i64 i19, .int .i64 i20, .sl 0 1 1 0 a21 a21], .int .i64 (0 : Int)], [some (.fl l22)]⟩
noncomputable def reflect_Right_l26 : List Code := flat (BODY n_reflect_Right)
def reflect_Right_n1 (a_0 : Int) (a_1 : Int) (v_2 : Lv) (a_3 : List Nat) (at_4 : Int) (from_5 : Int) (v_6 : Lv) (h_7 : List Nat) (h_8 : Nat) (b1 : Bool) : ASt := ⟨slots 103 [(2, .int .i64 from_5), (4, .ptr 0 1 0 0), (5, .ptr 1 1 0 0), (7, .ptr 2 1 0 0), (8, .ptr 3 1 0 0), (31, .bool false b1)], [(0, .vs [.int .i64 a_0, .int .i64 a_1, .imm v_2 (.fl a_3) 1 1 0 (List.length a_3)]), (1, .vs [.int .i64 at_4]), (2, .vs [.imm v_6 (.fl h_7) 1 1 0 (List.length h_7), .flt false h_8]), (3, .vs [.int .i64 (0 : Int), .int .i64 (0 : Int), .nsl])], 4⟩
def reflect_Right_t27 (a_0 : Int) (a_1 : Int) (a_3 : List Nat) (at_4 : Int) (from_5 : Int) (h_7 : List Nat) : T ((Bool) ⊕ (reflect_Right_X)) :=
  .need (slOk 0 (List.length a_3) a_3) <| .need (reflect_may_i0 (reflect_may_F a_0 a_1 (cutL 0 (List.length a_3) a_3))) <| .ask (!(reflect_may_p0_0 (reflect_may_F a_0 a_1 (cutL 0 (List.length a_3) a_3))))
    (.leaf (.inl true))
    (.ask ((((List.length h_7) : Nat) : Int) == (0 : Int))
      (.leaf (.inl true))
      (.ask (decide (at_4 < (0 : Int)))
        (.leaf (.inl true))
        (.leaf (.inl (decide (from_5 < (0 : Int)))))))
def reflect_Right_n2 (a_0 : Int) (a_1 : Int) (v_2 : Lv) (a_3 : List Nat) (at_4 : Int) (from_5 : Int) (v_6 : Lv) (h_7 : List Nat) (h_8 : Nat) (b2 : Bool) : ASt := ⟨slots 103 [(2, .int .i64 from_5), (4, .ptr 0 1 0 0), (5, .ptr 1 1 0 0), (7, .ptr 2 1 0 0), (8, .ptr 3 1 0 0), (46, .bool false b2)], [(0, .vs [.int .i64 a_0, .int .i64 a_1, .imm v_2 (.fl a_3) 1 1 0 (List.length a_3)]), (1, .vs [.int .i64 at_4]), (2, .vs [.imm v_6 (.fl h_7) 1 1 0 (List.length h_7), .flt false h_8]), (3, .vs [.int .i64 (0 : Int), .int .i64 (0 : Int), .nsl])], 4⟩
def reflect_Right_t28 (a_0 : Int) (a_1 : Int) (at_4 : Int) (from_5 : Int) (h_7 : List Nat) (b1 : Bool) : T ((Bool) ⊕ (reflect_Right_X)) :=
  .ask b1
    (.leaf (.inr (.r0 2)))
    (.need (inK .i64 (a_1 - (((List.length h_7) : Nat) : Int))) <| .ask (decide (at_4 > (a_1 - (((List.length h_7) : Nat) : Int))))
      (.leaf (.inl true))
      (.leaf (.inl (decide (from_5 > a_0)))))
def reflect_Right_n3 (a_0 : Int) (a_1 : Int) (v_2 : Lv) (a_3 : List Nat) (at_4 : Int) (from_5 : Int) (v_6 : Lv) (h_7 : List Nat) (h_8 : Nat) : Nat × (List Nat) → ASt := fun (a3, l4) => ⟨slots 103 [(4, .ptr 0 1 0 0), (5, .ptr 1 1 0 0), (7, .ptr 2 1 0 0), (8, .ptr 3 1 0 0), (10, .ptr 4 1 0 0), (11, .ptr 5 1 0 0)], [(0, .vs [.int .i64 a_0, .int .i64 a_1, .imm v_2 (.fl a_3) 1 1 0 (List.length a_3)]), (1, .vs [.int .i64 at_4]), (2, .vs [.imm v_6 (.fl h_7) 1 1 0 (List.length h_7), .flt false h_8]), (3, .vs [.int .i64 (0 : Int), .int .i64 (0 : Int), .nsl]), (4, .vs [.int .i64 a_0, .int .i64 a_1, .sl 6 1 1 0 a3 a3]), (5, .vs [.int .i64 from_5]), (6, .fl l4)], 7⟩
def reflect_Right_t29 (a_0 : Int) (a_1 : Int) (a_3 : List Nat) (h_8 : Nat) (b2 : Bool) : T ((Nat × (List Nat)) ⊕ (reflect_Right_X)) :=
  .ask b2
    (.leaf (.inr (.r0 8)))
    (.need (slOk 0 (List.length a_3) a_3) <| .need (lenOk (List.length (cutL 0 (List.length a_3) a_3))) <| .ask (feq h_8 0)
      (.leaf (.inr (.r1 a_0 a_1 (List.length (cutL 0 (List.length a_3) a_3)) (cutL 0 (List.length a_3) a_3))))
      (.leaf (.inl ((List.length (cutL 0 (List.length a_3) a_3)), (cutL 0 (List.length a_3) a_3)))))
def reflect_Right_n14 (a_0 : Int) (a_1 : Int) (v_2 : Lv) (a_3 : List Nat) (at_4 : Int) (v_6 : Lv) (h_7 : List Nat) (h_8 : Nat) (a3 : Nat) : Int × (List Nat) → ASt := fun (i10, l11) => ⟨slots 103 [(4, .ptr 0 1 0 0), (5, .ptr 1 1 0 0), (7, .ptr 2 1 0 0), (8, .ptr 3 1 0 0), (10, .ptr 4 1 0 0), (11, .ptr 5 1 0 0)], [(0, .vs [.int .i64 a_0, .int .i64 a_1, .imm v_2 (.fl a_3) 1 1 0 (List.length a_3)]), (1, .vs [.int .i64 at_4]), (2, .vs [.imm v_6 (.fl h_7) 1 1 0 (List.length h_7), .flt false h_8]), (3, .vs [.int .i64 (0 : Int), .int .i64 (0 : Int), .nsl]), (4, .vs [.int .i64 a_0, .int .i64 a_1, .sl 6 1 1 0 a3 a3]), (5, .vs [.int .i64 i10]), (6, .fl l11)], 7⟩
def reflect_Right_n24 (a_0 : Int) (a_1 : Int) (a3 : Nat) (l17 : (List Nat)) : ASt := ⟨slots 103 [(8, .ptr 0 1 0 0), (10, .ptr 1 1 0 0)], [(0, .vs [.int .i64 (0 : Int), .int .i64 (0 : Int), .nsl]), (1, .vs [.int .i64 a_0, .int .i64 a_1, .sl 2 1 1 0 a3 a3]), (2, .fl l17)], 3⟩
noncomputable def reflect_Right_l30 : List Code := flat (inLoop ((((((reflect_Right_l26.drop 2).drop 2).drop 5).take 1)).headD .skip))
def reflect_Right_n15 (a_0 : Int) (a_1 : Int) (v_2 : Lv) (a_3 : List Nat) (at_4 : Int) (v_6 : Lv) (h_7 : List Nat) (h_8 : Nat) (a3 : Nat) (i10 : Int) (l11 : List Nat) (_ : Unit) : ASt := ⟨slots 103 [(4, .ptr 0 1 0 0), (5, .ptr 1 1 0 0), (7, .ptr 2 1 0 0), (8, .ptr 3 1 0 0), (10, .ptr 4 1 0 0), (11, .ptr 5 1 0 0)], [(0, .vs [.int .i64 a_0, .int .i64 a_1, .imm v_2 (.fl a_3) 1 1 0 (List.length a_3)]), (1, .vs [.int .i64 at_4]), (2, .vs [.imm v_6 (.fl h_7) 1 1 0 (List.length h_7), .flt false h_8]), (3, .vs [.int .i64 (0 : Int), .int .i64 (0 : Int), .nsl]), (4, .vs [.int .i64 a_0, .int .i64 a_1, .sl 6 1 1 0 a3 a3]), (5, .vs [.int .i64 i10]), (6, .fl l11)], 7⟩
def reflect_Right_t31 (a_0 : Int) (i10 : Int) (l11 : List Nat) : T ((Unit) ⊕ (((List Nat)) ⊕ (reflect_Right_X))) :=
  .ask (decide (i10 < a_0))
    (.leaf (.inl ()))
    (.leaf (.inr (.inl l11)))
def reflect_Right_n22 (a_0 : Int) (a_1 : Int) (v_2 : Lv) (a_3 : List Nat) (at_4 : Int) (v_6 : Lv) (h_7 : List Nat) (h_8 : Nat) (a3 : Nat) (i10 : Int) (l16 : (List Nat)) : ASt := ⟨slots 103 [(4, .ptr 0 1 0 0), (5, .ptr 1 1 0 0), (7, .ptr 2 1 0 0), (8, .ptr 3 1 0 0), (10, .ptr 4 1 0 0), (11, .ptr 5 1 0 0)], [(0, .vs [.int .i64 a_0, .int .i64 a_1, .imm v_2 (.fl a_3) 1 1 0 (List.length a_3)]), (1, .vs [.int .i64 at_4]), (2, .vs [.imm v_6 (.fl h_7) 1 1 0 (List.length h_7), .flt false h_8]), (3, .vs [.int .i64 (0 : Int), .int .i64 (0 : Int), .nsl]), (4, .vs [.int .i64 a_0, .int .i64 a_1, .sl 6 1 1 0 a3 a3]), (5, .vs [.int .i64 i10]), (6, .fl l16)], 7⟩
noncomputable def reflect_Right_l32 : List Code := flat (inBlock ((((reflect_Right_l30.drop 2).take 1)).headD .skip))
def reflect_Right_n16 (a_0 : Int) (a_1 : Int) (v_2 : Lv) (a_3 : List Nat) (at_4 : Int) (v_6 : Lv) (h_7 : List Nat) (h_8 : Nat) (a3 : Nat) (i10 : Int) (l11 : List Nat) (w12 : Nat) : ASt := ⟨slots 103 [(4, .ptr 0 1 0 0), (5, .ptr 1 1 0 0), (7, .ptr 2 1 0 0), (8, .ptr 3 1 0 0), (10, .ptr 4 1 0 0), (11, .ptr 5 1 0 0), (12, .flt false w12)], [(0, .vs [.int .i64 a_0, .int .i64 a_1, .imm v_2 (.fl a_3) 1 1 0 (List.length a_3)]), (1, .vs [.int .i64 at_4]), (2, .vs [.imm v_6 (.fl h_7) 1 1 0 (List.length h_7), .flt false h_8]), (3, .vs [.int .i64 (0 : Int), .int .i64 (0 : Int), .nsl]), (4, .vs [.int .i64 a_0, .int .i64 a_1, .sl 6 1 1 0 a3 a3]), (5, .vs [.int .i64 i10]), (6, .fl l11)], 7⟩
def reflect_Right_t33 (a_1 : Int) (a_3 : List Nat) (at_4 : Int) (h_7 : List Nat) (h_8 : Nat) (i10 : Int) : T ((Nat) ⊕ (((List Nat)) ⊕ (((List Nat)) ⊕ (reflect_Right_X)))) :=
  .need (slOk 0 (List.length a_3) a_3) <| .need (slOk 0 (List.length h_7) h_7) <| .need (reflect_sum_v2_i0 (reflect_sum_v2_F (((List.length h_7) : Nat) : Int) a_1 (cutL 0 (List.length a_3) a_3) i10 at_4 (cutL 0 (List.length h_7) h_7))) <| .leaf (.inl (fmul h_8 (reflect_sum_v2_p0_0 (reflect_sum_v2_F (((List.length h_7) : Nat) : Int) a_1 (cutL 0 (List.length a_3) a_3) i10 at_4 (cutL 0 (List.length h_7) h_7)))))
def reflect_Right_n17 (a_0 : Int) (a_1 : Int) (v_2 : Lv) (a_3 : List Nat) (at_4 : Int) (v_6 : Lv) (h_7 : List Nat) (h_8 : Nat) (a3 : Nat) (i10 : Int) (l11 : List Nat) (w12 : Nat) (_ : Unit) : ASt := ⟨slots 103 [(4, .ptr 0 1 0 0), (5, .ptr 1 1 0 0), (7, .ptr 2 1 0 0), (8, .ptr 3 1 0 0), (10, .ptr 4 1 0 0), (11, .ptr 5 1 0 0), (12, .flt false w12), (76, .imm v_6 (.fl h_7) 1 1 0 (List.length h_7)), (77, .int .i64 (((List.length h_7) : Nat) : Int)), (78, .int .i64 (0 : Int))], [(0, .vs [.int .i64 a_0, .int .i64 a_1, .imm v_2 (.fl a_3) 1 1 0 (List.length a_3)]), (1, .vs [.int .i64 at_4]), (2, .vs [.imm v_6 (.fl h_7) 1 1 0 (List.length h_7), .flt false h_8]), (3, .vs [.int .i64 (0 : Int), .int .i64 (0 : Int), .nsl]), (4, .vs [.int .i64 a_0, .int .i64 a_1, .sl 6 1 1 0 a3 a3]), (5, .vs [.int .i64 i10]), (6, .fl l11)], 7⟩
def reflect_Right_t34 : T ((Unit) ⊕ (((List Nat)) ⊕ (((List Nat)) ⊕ (reflect_Right_X)))) :=
  .leaf (.inl ())
def reflect_Right_n19 (a_0 : Int) (a_1 : Int) (v_2 : Lv) (a_3 : List Nat) (at_4 : Int) (v_6 : Lv) (h_7 : List Nat) (h_8 : Nat) (a3 : Nat) (i10 : Int) (w12 : Nat) : Nat × (List Nat) → ASt := fun (a13, l14) => ⟨slots 103 [(4, .ptr 0 1 0 0), (5, .ptr 1 1 0 0), (7, .ptr 2 1 0 0), (8, .ptr 3 1 0 0), (10, .ptr 4 1 0 0), (11, .ptr 5 1 0 0), (12, .flt false w12), (76, .imm v_6 (.fl h_7) 1 1 0 (List.length h_7)), (77, .int .i64 (((List.length h_7) : Nat) : Int)), (78, .int .i64 ((a13 : Nat) : Int))], [(0, .vs [.int .i64 a_0, .int .i64 a_1, .imm v_2 (.fl a_3) 1 1 0 (List.length a_3)]), (1, .vs [.int .i64 at_4]), (2, .vs [.imm v_6 (.fl h_7) 1 1 0 (List.length h_7), .flt false h_8]), (3, .vs [.int .i64 (0 : Int), .int .i64 (0 : Int), .nsl]), (4, .vs [.int .i64 a_0, .int .i64 a_1, .sl 6 1 1 0 a3 a3]), (5, .vs [.int .i64 i10]), (6, .fl l14)], 7⟩
def reflect_Right_n20 (a_0 : Int) (a_1 : Int) (v_2 : Lv) (a_3 : List Nat) (at_4 : Int) (v_6 : Lv) (h_7 : List Nat) (h_8 : Nat) (a3 : Nat) (i10 : Int) (l15 : (List Nat)) : ASt := ⟨slots 103 [(4, .ptr 0 1 0 0), (5, .ptr 1 1 0 0), (7, .ptr 2 1 0 0), (8, .ptr 3 1 0 0), (10, .ptr 4 1 0 0), (11, .ptr 5 1 0 0)], [(0, .vs [.int .i64 a_0, .int .i64 a_1, .imm v_2 (.fl a_3) 1 1 0 (List.length a_3)]), (1, .vs [.int .i64 at_4]), (2, .vs [.imm v_6 (.fl h_7) 1 1 0 (List.length h_7), .flt false h_8]), (3, .vs [.int .i64 (0 : Int), .int .i64 (0 : Int), .nsl]), (4, .vs [.int .i64 a_0, .int .i64 a_1, .sl 6 1 1 0 a3 a3]), (5, .vs [.int .i64 i10]), (6, .fl l15)], 7⟩
noncomputable def reflect_Right_l35 : List Code := flat (inLoop (((((reflect_Right_l32.drop 1).drop 1).take 1)).headD .skip))
def reflect_Right_t36 (a_1 : Int) (at_4 : Int) (h_7 : List Nat) (a3 : Nat) (i10 : Int) (w12 : Nat) (a13 : Nat) (l14 : List Nat) : T ((Nat × (List Nat)) ⊕ (((List Nat)) ⊕ (((List Nat)) ⊕ (((List Nat)) ⊕ (reflect_Right_X))))) :=
  .ask (decide (((a13 : Nat) : Int) < (((List.length h_7) : Nat) : Int)))
    (.need (inB ((a13 : Nat) : Int) (List.length h_7)) <| .need (ltB a13 (List.length h_7)) <| .need (inK .i64 (i10 * a_1)) <| .need (inK .i64 ((i10 * a_1) + at_4)) <| .need (inK .i64 (((i10 * a_1) + at_4) + ((a13 : Nat) : Int))) <| .need (inB (((i10 * a_1) + at_4) + ((a13 : Nat) : Int)) a3) <| .need (ltB (Int.toNat (((i10 * a_1) + at_4) + ((a13 : Nat) : Int))) (List.length l14)) <| .need (inB (((i10 * a_1) + at_4) + ((a13 : Nat) : Int)) a3) <| .need (ltB (Int.toNat (((i10 * a_1) + at_4) + ((a13 : Nat) : Int))) (List.length l14)) <| .need (inK .i64 (((a13 + 1) : Nat) : Int)) <| .leaf (.inl ((a13 + 1), (List.set l14 (Int.toNat (((i10 * a_1) + at_4) + ((a13 : Nat) : Int))) (fsub (List.getD l14 (Int.toNat (((i10 * a_1) + at_4) + ((a13 : Nat) : Int))) 0) (fmul w12 (List.getD h_7 a13 0)))))))
    (.leaf (.inr (.inl l14)))
noncomputable def reflect_Right_m37 (a_1 : Int) (at_4 : Int) (h_7 : List Nat) (a3 : Nat) (i10 : Int) (w12 : Nat) : Nat × (List Nat) → Option ((Nat × (List Nat)) ⊕ (((List Nat)) ⊕ (((List Nat)) ⊕ (((List Nat)) ⊕ (reflect_Right_X))))) := fun (a13, l14) =>
  (reflect_Right_t36 a_1 at_4 h_7 a3 i10 w12 a13 l14).run
theorem reflect_Right_s37 (a_0 : Int) (a_1 : Int) (v_2 : Lv) (a_3 : List Nat) (at_4 : Int) (v_6 : Lv) (h_7 : List Nat) (h_8 : Nat) (a3 : Nat) (i10 : Int) (w12 : Nat) (a13 : Nat) (l14 : List Nat) : Sg prog [] reflect_Right_l35 (reflect_Right_n19 a_0 a_1 v_2 a_3 at_4 v_6 h_7 h_8 a3 i10 w12 (a13, l14)) (reflect_Right_m37 a_1 at_4 h_7 a3 i10 w12 (a13, l14)) (reflect_Right_n19 a_0 a_1 v_2 a_3 at_4 v_6 h_7 h_8 a3 i10 w12) (exitE 2 (reflect_Right_n20 a_0 a_1 v_2 a_3 at_4 v_6 h_7 h_8 a3 i10) (exitE 1 (reflect_Right_n22 a_0 a_1 v_2 a_3 at_4 v_6 h_7 h_8 a3 i10) (exitE 0 (reflect_Right_n24 a_0 a_1 a3) reflect_Right_E))) :=
  Sg.seg (C := C0) C0_ok L_reflect_sum_v2_ok 60 reflect_Right_l35 (reflect_Right_n19 a_0 a_1 v_2 a_3 at_4 v_6 h_7 h_8 a3 i10 w12 (a13, l14)) (reflect_Right_t36 a_1 at_4 h_7 a3 i10 w12 a13 l14) (reflect_Right_n19 a_0 a_1 v_2 a_3 at_4 v_6 h_7 h_8 a3 i10 w12) (exitE 2 (reflect_Right_n20 a_0 a_1 v_2 a_3 at_4 v_6 h_7 h_8 a3 i10) (exitE 1 (reflect_Right_n22 a_0 a_1 v_2 a_3 at_4 v_6 h_7 h_8 a3 i10) (exitE 0 (reflect_Right_n24 a_0 a_1 a3) reflect_Right_E))) [⟨[], [0, 1, 2, 3, 4, 5, 6], [4, 5, 7, 8, 10, 11, 12, 76, 77, 78]⟩, ⟨[], [0, 1, 2, 3, 4, 5, 6], [4, 5, 7, 8, 10, 11]⟩] (by kernel_rfl)
def reflect_Right_n21 (a_0 : Int) (a_1 : Int) (v_2 : Lv) (a_3 : List Nat) (at_4 : Int) (v_6 : Lv) (h_7 : List Nat) (h_8 : Nat) (a3 : Nat) (i10 : Int) : (List Nat) → ASt := reflect_Right_n20 a_0 a_1 v_2 a_3 at_4 v_6 h_7 h_8 a3 i10
def reflect_Right_t38 (l15 : List Nat) : T (((List Nat)) ⊕ (((List Nat)) ⊕ (((List Nat)) ⊕ (reflect_Right_X)))) :=
  .leaf (.inl l15)
def reflect_Right_n23 (a_0 : Int) (a_1 : Int) (v_2 : Lv) (a_3 : List Nat) (at_4 : Int) (v_6 : Lv) (h_7 : List Nat) (h_8 : Nat) (a3 : Nat) (i10 : Int) : (List Nat) → ASt := reflect_Right_n22 a_0 a_1 v_2 a_3 at_4 v_6 h_7 h_8 a3 i10
def reflect_Right_t39 (i10 : Int) (l16 : List Nat) : T ((Int × (List Nat)) ⊕ (((List Nat)) ⊕ (reflect_Right_X))) :=
  .need (inK .i64 (i10 + (1 : Int))) <| .leaf (.inl ((i10 + (1 : Int)), l16))
noncomputable def reflect_Right_m40 (a_0 : Int) (a_1 : Int) (a_3 : List Nat) (at_4 : Int) (h_7 : List Nat) (h_8 : Nat) (a3 : Nat) : Int × (List Nat) → Option ((Int × (List Nat)) ⊕ (((List Nat)) ⊕ (reflect_Right_X))) := fun (i10, l11) =>
  seqM ((reflect_Right_t31 a_0 i10 l11).run) fun _ =>
  seqM (joinM (seqM ((reflect_Right_t33 a_1 a_3 at_4 h_7 h_8 i10).run) fun w12 =>
  seqM ((reflect_Right_t34).run) fun _ =>
  seqM (loopM (reflect_Right_m37 a_1 at_4 h_7 a3 i10 w12) (0, l11)) fun l15 =>
  (reflect_Right_t38 l15).run)) fun l16 =>
  (reflect_Right_t39 i10 l16).run
theorem reflect_Right_s40 (a_0 : Int) (a_1 : Int) (v_2 : Lv) (a_3 : List Nat) (at_4 : Int) (v_6 : Lv) (h_7 : List Nat) (h_8 : Nat) (a3 : Nat) (i10 : Int) (l11 : List Nat) : Sg prog [] reflect_Right_l30 (reflect_Right_n14 a_0 a_1 v_2 a_3 at_4 v_6 h_7 h_8 a3 (i10, l11)) (reflect_Right_m40 a_0 a_1 a_3 at_4 h_7 h_8 a3 (i10, l11)) (reflect_Right_n14 a_0 a_1 v_2 a_3 at_4 v_6 h_7 h_8 a3) (exitE 0 (reflect_Right_n24 a_0 a_1 a3) reflect_Right_E) :=
  Sg.cut 2 (noN_exit reflect_Right_hN) (Sg.seg (C := C0) C0_ok L_reflect_sum_v2_ok 60 (reflect_Right_l30.take 2) (reflect_Right_n14 a_0 a_1 v_2 a_3 at_4 v_6 h_7 h_8 a3 (i10, l11)) (reflect_Right_t31 a_0 i10 l11) (reflect_Right_n15 a_0 a_1 v_2 a_3 at_4 v_6 h_7 h_8 a3 i10 l11) (exitE 0 (reflect_Right_n24 a_0 a_1 a3) reflect_Right_E) [⟨[], [0, 1, 2, 3, 4, 5, 6], [4, 5, 7, 8, 10, 11]⟩, ⟨[], [3, 4, 6], [8, 10]⟩] (by kernel_rfl)) (fun a => by cases a; exact Sg.cut 1 (noN_exit reflect_Right_hN) (Sg.blockAt (id := 1) (K := (reflect_Right_n22 a_0 a_1 v_2 a_3 at_4 v_6 h_7 h_8 a3 i10)) (by kernel_rfl : ((reflect_Right_l30.drop 2).take 1) = [.block 1 (inBlock ((((reflect_Right_l30.drop 2).take 1)).headD .skip))]) (noN_exit reflect_Right_hN) (noId_exit (by decide) (reflect_Right_hI _)) (Sg.cut 1 (noN_exit (noN_exit reflect_Right_hN)) (Sg.seg (C := C0) C0_ok L_reflect_sum_v2_ok 60 (reflect_Right_l32.take 1) (reflect_Right_n15 a_0 a_1 v_2 a_3 at_4 v_6 h_7 h_8 a3 i10 l11 ()) (reflect_Right_t33 a_1 a_3 at_4 h_7 h_8 i10) (reflect_Right_n16 a_0 a_1 v_2 a_3 at_4 v_6 h_7 h_8 a3 i10 l11) (exitE 1 (reflect_Right_n22 a_0 a_1 v_2 a_3 at_4 v_6 h_7 h_8 a3 i10) (exitE 0 (reflect_Right_n24 a_0 a_1 a3) reflect_Right_E)) [⟨[], [0, 1, 2, 3, 4, 5, 6], [4, 5, 7, 8, 10, 11, 12]⟩] (by kernel_rfl)) (fun w12 => by exact Sg.cut 1 (noN_exit (noN_exit reflect_Right_hN)) (Sg.seg (C := C0) C0_ok L_reflect_sum_v2_ok 60 ((reflect_Right_l32.drop 1).take 1) (reflect_Right_n16 a_0 a_1 v_2 a_3 at_4 v_6 h_7 h_8 a3 i10 l11 w12) (reflect_Right_t34) (reflect_Right_n17 a_0 a_1 v_2 a_3 at_4 v_6 h_7 h_8 a3 i10 l11 w12) (exitE 1 (reflect_Right_n22 a_0 a_1 v_2 a_3 at_4 v_6 h_7 h_8 a3 i10) (exitE 0 (reflect_Right_n24 a_0 a_1 a3) reflect_Right_E)) [⟨[], [0, 1, 2, 3, 4, 5, 6], [4, 5, 7, 8, 10, 11, 12, 76, 77, 78]⟩] (by kernel_rfl)) (fun a => by cases a; exact Sg.cut 1 (noN_exit (noN_exit reflect_Right_hN)) (Sg.pre ⟨[], [0, 1, 2, 3, 4, 5, 6], [4, 5, 7, 8, 10, 11, 12, 76, 77, 78]⟩ rfl (by kernel_rfl : NS.on ⟨[], [0, 1, 2, 3, 4, 5, 6], [4, 5, 7, 8, 10, 11, 12, 76, 77, 78]⟩ (reflect_Right_n17 a_0 a_1 v_2 a_3 at_4 v_6 h_7 h_8 a3 i10 l11 w12 ()) = (reflect_Right_n19 a_0 a_1 v_2 a_3 at_4 v_6 h_7 h_8 a3 i10 w12) (0, l11)) (Sg.loopAt (I := (reflect_Right_n19 a_0 a_1 v_2 a_3 at_4 v_6 h_7 h_8 a3 i10 w12)) (J := (reflect_Right_n20 a_0 a_1 v_2 a_3 at_4 v_6 h_7 h_8 a3 i10)) (id := 2) (by kernel_rfl : (((reflect_Right_l32.drop 1).drop 1).take 1) = [.block 2 (.loop (inLoop (((((reflect_Right_l32.drop 1).drop 1).take 1)).headD .skip)))]) (noN_exit (noN_exit reflect_Right_hN)) (noId_exit (by decide) (noId_exit (by decide) (reflect_Right_hI _))) (fun s => by obtain ⟨a13, l14⟩ := s; exact reflect_Right_s37 a_0 a_1 v_2 a_3 at_4 v_6 h_7 h_8 a3 i10 w12 a13 l14) (0, l11))) (fun l15 => by exact Sg.seg (C := C0) C0_ok L_reflect_sum_v2_ok 60 (((reflect_Right_l32.drop 1).drop 1).drop 1) (reflect_Right_n21 a_0 a_1 v_2 a_3 at_4 v_6 h_7 h_8 a3 i10 l15) (reflect_Right_t38 l15) (reflect_Right_n22 a_0 a_1 v_2 a_3 at_4 v_6 h_7 h_8 a3 i10) (exitE 1 (reflect_Right_n22 a_0 a_1 v_2 a_3 at_4 v_6 h_7 h_8 a3 i10) (exitE 0 (reflect_Right_n24 a_0 a_1 a3) reflect_Right_E)) [⟨[], [0, 1, 2, 3, 4, 5, 6], [4, 5, 7, 8, 10, 11]⟩] (by kernel_rfl)))))) (fun l16 => by exact Sg.seg (C := C0) C0_ok L_reflect_sum_v2_ok 60 ((reflect_Right_l30.drop 2).drop 1) (reflect_Right_n23 a_0 a_1 v_2 a_3 at_4 v_6 h_7 h_8 a3 i10 l16) (reflect_Right_t39 i10 l16) (reflect_Right_n14 a_0 a_1 v_2 a_3 at_4 v_6 h_7 h_8 a3) (exitE 0 (reflect_Right_n24 a_0 a_1 a3) reflect_Right_E) [⟨[], [0, 1, 2, 3, 4, 23, 6], [4, 5, 7, 8, 10, 11]⟩] (by kernel_rfl)))
def reflect_Right_n25 (a_0 : Int) (a_1 : Int) (a3 : Nat) : (List Nat) → ASt := reflect_Right_n24 a_0 a_1 a3
def reflect_Right_t41 (a_0 : Int) (a_1 : Int) (a3 : Nat) (l17 : List Nat) : T ((Empty) ⊕ (reflect_Right_X)) :=
  .leaf (.inr (.r1 a_0 a_1 a3 l17))
noncomputable def reflect_Right_F (a_0 : Int) (a_1 : Int) (a_3 : List Nat) (at_4 : Int) (from_5 : Int) (h_7 : List Nat) (h_8 : Nat) : Option reflect_Right_X := toX (seqM ((reflect_Right_t27 a_0 a_1 a_3 at_4 from_5 h_7).run) fun b1 =>
  seqM ((reflect_Right_t28 a_0 a_1 at_4 from_5 h_7 b1).run) fun b2 =>
  seqM ((reflect_Right_t29 a_0 a_1 a_3 h_8 b2).run) fun (a3, l4) =>
  seqM (loopM (reflect_Right_m40 a_0 a_1 a_3 at_4 h_7 h_8 a3) (from_5, l4)) fun l17 =>
  (reflect_Right_t41 a_0 a_1 a3 l17).run)
theorem reflect_Right_ok (a_0 : Int) (a_1 : Int) (v_2 : Lv) (a_3 : List Nat) (at_4 : Int) (from_5 : Int) (v_6 : Lv) (h_7 : List Nat) (h_8 : Nat) {x : reflect_Right_X} (h : reflect_Right_F a_0 a_1 a_3 at_4 from_5 h_7 h_8 = some x) : Contract prog n_reflect_Right [] [.agg [.int .i64 a_0, .int .i64 a_1, .imm v_2 (.fl a_3) 1 1 0 (List.length a_3)], .int .i64 at_4, .int .i64 from_5, .agg [.imm v_6 (.fl h_7) 1 1 0 (List.length h_7), .flt false h_8]] (reflect_Right_o x) :=
  Sg.contract false reflect_Right_o (by kernel_rfl : prog.funcs[n_reflect_Right]? = some (FN n_reflect_Right)) (by kernel_rfl : (FN n_reflect_Right).body = some (BODY n_reflect_Right)) (Sg.cut 2 reflect_Right_hN (Sg.seg (C := C0) C0_ok L_reflect_sum_v2_ok 60 (reflect_Right_l26.take 2) (entryOf (FN n_reflect_Right) [] [.agg [.int .i64 a_0, .int .i64 a_1, .imm v_2 (.fl a_3) 1 1 0 (List.length a_3)], .int .i64 at_4, .int .i64 from_5, .agg [.imm v_6 (.fl h_7) 1 1 0 (List.length h_7), .flt false h_8]]) (reflect_Right_t27 a_0 a_1 a_3 at_4 from_5 h_7) (reflect_Right_n1 a_0 a_1 v_2 a_3 at_4 from_5 v_6 h_7 h_8) reflect_Right_E [⟨[], [0, 16, 32, 48], [2, 4, 5, 7, 8, 31]⟩, ⟨[], [0, 16, 32, 48], [2, 4, 5, 7, 8, 31]⟩, ⟨[], [0, 16, 32, 48], [2, 4, 5, 7, 8, 31]⟩, ⟨[], [0, 16, 32, 48], [2, 4, 5, 7, 8, 31]⟩] (by kernel_rfl)) (fun b1 => by exact Sg.cut 2 reflect_Right_hN (Sg.seg (C := C0) C0_ok L_reflect_sum_v2_ok 60 ((reflect_Right_l26.drop 2).take 2) (reflect_Right_n1 a_0 a_1 v_2 a_3 at_4 from_5 v_6 h_7 h_8 b1) (reflect_Right_t28 a_0 a_1 at_4 from_5 h_7 b1) (reflect_Right_n2 a_0 a_1 v_2 a_3 at_4 from_5 v_6 h_7 h_8) reflect_Right_E [⟨[], [3], [8, 9]⟩, ⟨[], [0, 1, 2, 3], [2, 4, 5, 7, 8, 46]⟩, ⟨[], [0, 1, 2, 3], [2, 4, 5, 7, 8, 46]⟩] (by kernel_rfl)) (fun b2 => by exact Sg.cut 5 reflect_Right_hN (Sg.seg (C := C0) C0_ok L_reflect_sum_v2_ok 60 (((reflect_Right_l26.drop 2).drop 2).take 5) (reflect_Right_n2 a_0 a_1 v_2 a_3 at_4 from_5 v_6 h_7 h_8 b2) (reflect_Right_t29 a_0 a_1 a_3 h_8 b2) (reflect_Right_n3 a_0 a_1 v_2 a_3 at_4 from_5 v_6 h_7 h_8) reflect_Right_E [⟨[], [3], [8, 9]⟩, ⟨[], [3, 100], [8, 9]⟩, ⟨[], [0, 1, 2, 3, 132, 228, 100], [4, 5, 7, 8, 10, 11]⟩] (by kernel_rfl)) (fun a => by obtain ⟨a3, l4⟩ := a; exact Sg.cut 1 reflect_Right_hN (Sg.pre ⟨[], [0, 1, 2, 3, 4, 5, 6], [4, 5, 7, 8, 10, 11]⟩ rfl (by kernel_rfl : NS.on ⟨[], [0, 1, 2, 3, 4, 5, 6], [4, 5, 7, 8, 10, 11]⟩ (reflect_Right_n3 a_0 a_1 v_2 a_3 at_4 from_5 v_6 h_7 h_8 (a3, l4)) = (reflect_Right_n14 a_0 a_1 v_2 a_3 at_4 v_6 h_7 h_8 a3) (from_5, l4)) (Sg.loopAt (I := (reflect_Right_n14 a_0 a_1 v_2 a_3 at_4 v_6 h_7 h_8 a3)) (J := (reflect_Right_n24 a_0 a_1 a3)) (id := 0) (by kernel_rfl : ((((reflect_Right_l26.drop 2).drop 2).drop 5).take 1) = [.block 0 (.loop (inLoop ((((((reflect_Right_l26.drop 2).drop 2).drop 5).take 1)).headD .skip)))]) reflect_Right_hN (reflect_Right_hI _) (fun s => by obtain ⟨i10, l11⟩ := s; exact reflect_Right_s40 a_0 a_1 v_2 a_3 at_4 v_6 h_7 h_8 a3 i10 l11) (from_5, l4))) (fun l17 => by exact Sg.seg (C := C0) C0_ok L_reflect_sum_v2_ok 60 ((((reflect_Right_l26.drop 2).drop 2).drop 5).drop 1) (reflect_Right_n25 a_0 a_1 a3 l17) (reflect_Right_t41 a_0 a_1 a3 l17) (fun a : Empty => a.elim) reflect_Right_E [⟨[], [0, 2], [8, 9]⟩] (by kernel_rfl))))))
    (fun x => by cases x with | r0 a18 => exact ⟨.inr rfl, [.agg [.int .i64 (0 : Int), .int .i64 (0 : Int), .nsl], .int .i64 ((a18 : Nat) : Int)], [], by kernel_rfl, trivial, by kernel_rfl⟩ | r1 i19 i20 a21 l22 => exact ⟨.inr rfl, [.agg [.int .i64 i19, .int .i64 i20, .sl 1 1 1 0 a21 a21], .int .i64 (0 : Int)], [], by kernel_rfl, trivial, by kernel_rfl⟩) h

def reflect_Right_i0 : Option reflect_Right_X → Bool
  | some (.r0 _) => true
  | _ => false
def reflect_Right_p0_0 : Option reflect_Right_X → Nat
  | some (.r0 x) => x
  | _ => 0
theorem reflect_Right_e0 {x : Option reflect_Right_X} (h : reflect_Right_i0 x = true) : x = some (.r0 (reflect_Right_p0_0 x)) := by
  unfold reflect_Right_i0 at h
  split at h <;> first | rfl | (cases h; done) | (rename_i y; cases y; rfl)
def reflect_Right_i1 : Option reflect_Right_X → Bool
  | some (.r1 _ _ _ _) => true
  | _ => false
def reflect_Right_p1_0 : Option reflect_Right_X → Int
  | some (.r1 x _ _ _) => x
  | _ => 0
def reflect_Right_p1_1 : Option reflect_Right_X → Int
  | some (.r1 _ x _ _) => x
  | _ => 0
def reflect_Right_p1_2 : Option reflect_Right_X → Nat
  | some (.r1 _ _ x _) => x
  | _ => 0
def reflect_Right_p1_3 : Option reflect_Right_X → List Nat
  | some (.r1 _ _ _ x) => x
  | _ => []
theorem reflect_Right_e1 {x : Option reflect_Right_X} (h : reflect_Right_i1 x = true) : x = some (.r1 (reflect_Right_p1_0 x) (reflect_Right_p1_1 x) (reflect_Right_p1_2 x) (reflect_Right_p1_3 x)) := by
  unfold reflect_Right_i1 at h
  split at h <;> first | rfl | (cases h; done) | (rename_i y; cases y; rfl)
noncomputable def e_reflect_Right : Entry := autoE n_reflect_Right (.cons (.agg (.cons (.int .i64) (.cons (.int .i64) (.cons .fl .nil)))) (.cons (.int .i64) (.cons (.int .i64) (.cons (.agg (.cons .fl (.cons (.flt false) .nil))) .nil)))) fun t => [⟨reflect_Right_o (.r0 (reflect_Right_p0_0 (reflect_Right_F t.1.1 t.1.2.1 t.1.2.2.1.2 t.2.1 t.2.2.1 t.2.2.2.1.1.2 t.2.2.2.1.2.1))), [reflect_Right_i0 (reflect_Right_F t.1.1 t.1.2.1 t.1.2.2.1.2 t.2.1 t.2.2.1 t.2.2.2.1.1.2 t.2.2.2.1.2.1)]⟩, ⟨reflect_Right_o (.r1 (reflect_Right_p1_0 (reflect_Right_F t.1.1 t.1.2.1 t.1.2.2.1.2 t.2.1 t.2.2.1 t.2.2.2.1.1.2 t.2.2.2.1.2.1)) (reflect_Right_p1_1 (reflect_Right_F t.1.1 t.1.2.1 t.1.2.2.1.2 t.2.1 t.2.2.1 t.2.2.2.1.1.2 t.2.2.2.1.2.1)) (reflect_Right_p1_2 (reflect_Right_F t.1.1 t.1.2.1 t.1.2.2.1.2 t.2.1 t.2.2.1 t.2.2.2.1.1.2 t.2.2.2.1.2.1)) (reflect_Right_p1_3 (reflect_Right_F t.1.1 t.1.2.1 t.1.2.2.1.2 t.2.1 t.2.2.1 t.2.2.2.1.1.2 t.2.2.2.1.2.1))), [reflect_Right_i1 (reflect_Right_F t.1.1 t.1.2.1 t.1.2.2.1.2 t.2.1 t.2.2.1 t.2.2.2.1.1.2 t.2.2.2.1.2.1)]⟩]
theorem e_reflect_Right_ok : EntryOk prog e_reflect_Right := autoE_ok fun t => (altsCons (fun h => reflect_Right_ok t.1.1 t.1.2.1 t.1.2.2.1.1 t.1.2.2.1.2 t.2.1 t.2.2.1 t.2.2.2.1.1.1 t.2.2.2.1.1.2 t.2.2.2.1.2.1 (reflect_Right_e0 h)) (altsCons (fun h => reflect_Right_ok t.1.1 t.1.2.1 t.1.2.2.1.1 t.1.2.2.1.2 t.2.1 t.2.2.1 t.2.2.2.1.1.1 t.2.2.2.1.1.2 t.2.2.2.1.2.1 (reflect_Right_e1 h)) altsNil))
noncomputable def L_reflect_Right : List Entry := e_reflect_Right :: L_reflect_sum_v2
theorem L_reflect_Right_ok : SumsOk prog (sumsOf L_reflect_Right) := sumsOf_cons e_reflect_Right_ok L_reflect_sum_v2_ok

inductive ref09_May_X where
  | r0 (b2 : Bool)
def ref09_May_E : ref09_May_X → AE × ASt
  | .r0 b2 => (.ret, ⟨slots 32 [(2, .bool false b2)], [], 0⟩)
theorem ref09_May_hN : NoN ref09_May_E := by intro x; cases x <;> (intro h; cases h)
theorem ref09_May_hI (id : Nat) : NoId id ref09_May_E := by intro x; cases x <;> (intro h; cases h)
def ref09_May_o : ref09_May_X → Out
  | .r0 b2 => ⟨.bool false b2, []⟩
noncomputable def ref09_May_l2 : List Code := flat (BODY n_ref09_May)
def ref09_May_n1 (b1 : Bool) : ASt := ⟨slots 32 [(2, .bool false b1)], [], 0⟩
def ref09_May_t3 (a_0 : Int) (a_1 : Int) (a_3 : List Nat) : T ((Bool) ⊕ (ref09_May_X)) :=
  .ask (decide (a_0 ≥ (0 : Int)))
    (.ask (decide (a_0 ≤ (512 : Int)))
      (.ask (decide (a_1 ≥ (0 : Int)))
        (.ask (decide (a_1 ≤ (512 : Int)))
          (.need (inK .i64 (a_0 * a_1)) <| .leaf (.inl ((((List.length a_3) : Nat) : Int) == (a_0 * a_1))))
          (.leaf (.inl false)))
        (.leaf (.inl false)))
      (.leaf (.inl false)))
    (.leaf (.inl false))
def ref09_May_t4 (b1 : Bool) : T ((Empty) ⊕ (ref09_May_X)) :=
  .leaf (.inr (.r0 b1))
noncomputable def ref09_May_F (a_0 : Int) (a_1 : Int) (a_3 : List Nat) : Option ref09_May_X := toX (seqM ((ref09_May_t3 a_0 a_1 a_3).run) fun b1 =>
  (ref09_May_t4 b1).run)
theorem ref09_May_ok (a_0 : Int) (a_1 : Int) (v_2 : Lv) (a_3 : List Nat) {x : ref09_May_X} (h : ref09_May_F a_0 a_1 a_3 = some x) : Contract prog n_ref09_May [] [.agg [.int .i64 a_0, .int .i64 a_1, .imm v_2 (.fl a_3) 1 1 0 (List.length a_3)]] (ref09_May_o x) :=
  Sg.contract false ref09_May_o (by kernel_rfl : prog.funcs[n_ref09_May]? = some (FN n_ref09_May)) (by kernel_rfl : (FN n_ref09_May).body = some (BODY n_ref09_May)) (Sg.cut 2 ref09_May_hN (Sg.seg (C := C0) C0_ok L_reflect_Right_ok 60 (ref09_May_l2.take 2) (entryOf (FN n_ref09_May) [] [.agg [.int .i64 a_0, .int .i64 a_1, .imm v_2 (.fl a_3) 1 1 0 (List.length a_3)]]) (ref09_May_t3 a_0 a_1 a_3) ref09_May_n1 ref09_May_E [⟨[], [], [2]⟩, ⟨[], [], [2]⟩, ⟨[], [], [2]⟩, ⟨[], [], [2]⟩, ⟨[], [], [2]⟩] (by kernel_rfl)) (fun b1 => by exact Sg.seg (C := C0) C0_ok L_reflect_Right_ok 60 (ref09_May_l2.drop 2) (ref09_May_n1 b1) (ref09_May_t4 b1) (fun a : Empty => a.elim) ref09_May_E [⟨[], [], [2]⟩] (by kernel_rfl)))
    (fun x => by cases x with | r0 b2 => exact ⟨.inr rfl, [.bool false b2], [], by kernel_rfl, trivial, by kernel_rfl⟩) h

def ref09_May_i0 : Option ref09_May_X → Bool
  | some _ => true
  | none => false
def ref09_May_p0_0 : Option ref09_May_X → Bool
  | some (.r0 x) => x
  | _ => false
theorem ref09_May_e0 {x : Option ref09_May_X} (h : ref09_May_i0 x = true) : x = some (.r0 (ref09_May_p0_0 x)) := by
  unfold ref09_May_i0 at h
  split at h <;> first | rfl | (cases h; done) | (rename_i y; cases y; rfl)
noncomputable def e_ref09_May : Entry := autoE n_ref09_May (.cons (.agg (.cons (.int .i64) (.cons (.int .i64) (.cons .fl .nil)))) .nil) fun t => [⟨ref09_May_o (.r0 (ref09_May_p0_0 (ref09_May_F t.1.1 t.1.2.1 t.1.2.2.1.2))), [ref09_May_i0 (ref09_May_F t.1.1 t.1.2.1 t.1.2.2.1.2)]⟩]
theorem e_ref09_May_ok : EntryOk prog e_ref09_May := autoE_ok fun t => (altsCons (fun h => ref09_May_ok t.1.1 t.1.2.1 t.1.2.2.1.1 t.1.2.2.1.2 (ref09_May_e0 h)) altsNil)
noncomputable def L_ref09_May : List Entry := e_ref09_May :: L_reflect_Right
theorem L_ref09_May_ok : SumsOk prog (sumsOf L_ref09_May) := sumsOf_cons e_ref09_May_ok L_reflect_Right_ok

inductive law09_fits_X where
  | r0 (a3 : Nat)
def law09_fits_E : law09_fits_X → AE × ASt
  | .r0 a3 => (.ret, ⟨slots 42 [(12, .int .i64 ((a3 : Nat) : Int))], [], 0⟩)
theorem law09_fits_hN : NoN law09_fits_E := by intro x; cases x <;> (intro h; cases h)
theorem law09_fits_hI (id : Nat) : NoId id law09_fits_E := by intro x; cases x <;> (intro h; cases h)
def law09_fits_o : law09_fits_X → Out
  | .r0 a3 => ⟨.int .i64 ((a3 : Nat) : Int), []⟩
noncomputable def law09_fits_l3 : List Code := flat (BODY n_law09_fits)
def law09_fits_n1 (at_4 : Int) (from_5 : Int) (v_6 : Lv) (h_7 : List Nat) (h_8 : Nat) (rows_9 : Int) (others_10 : Int) (b1 : Bool) : ASt := ⟨slots 42 [(1, .int .i64 at_4), (2, .int .i64 from_5), (4, .int .i64 rows_9), (5, .int .i64 others_10), (9, .ptr 0 1 0 0), (29, .bool false b1)], [(0, .vs [.imm v_6 (.fl h_7) 1 1 0 (List.length h_7), .flt false h_8])], 1⟩
def law09_fits_t4 (a_0 : Int) (a_1 : Int) (a_3 : List Nat) (at_4 : Int) (from_5 : Int) (h_7 : List Nat) : T ((Bool) ⊕ (law09_fits_X)) :=
  .need (slOk 0 (List.length a_3) a_3) <| .need (ref09_May_i0 (ref09_May_F a_0 a_1 (cutL 0 (List.length a_3) a_3))) <| .ask (!(ref09_May_p0_0 (ref09_May_F a_0 a_1 (cutL 0 (List.length a_3) a_3))))
    (.leaf (.inl true))
    (.ask ((((List.length h_7) : Nat) : Int) == (0 : Int))
      (.leaf (.inl true))
      (.ask (decide (at_4 < (0 : Int)))
        (.leaf (.inl true))
        (.leaf (.inl (decide (from_5 < (0 : Int)))))))
def law09_fits_n2 (b2 : Bool) : ASt := ⟨slots 42 [(41, .bool false b2)], [], 0⟩
def law09_fits_t5 (at_4 : Int) (from_5 : Int) (h_7 : List Nat) (rows_9 : Int) (others_10 : Int) (b1 : Bool) : T ((Bool) ⊕ (law09_fits_X)) :=
  .ask b1
    (.leaf (.inr (.r0 2)))
    (.need (inK .i64 (rows_9 - (((List.length h_7) : Nat) : Int))) <| .ask (decide (at_4 > (rows_9 - (((List.length h_7) : Nat) : Int))))
      (.leaf (.inl true))
      (.leaf (.inl (decide (from_5 > others_10)))))
def law09_fits_t6 (b2 : Bool) : T ((Empty) ⊕ (law09_fits_X)) :=
  .ask b2
    (.leaf (.inr (.r0 8)))
    (.leaf (.inr (.r0 0)))
noncomputable def law09_fits_F (a_0 : Int) (a_1 : Int) (a_3 : List Nat) (at_4 : Int) (from_5 : Int) (h_7 : List Nat) (rows_9 : Int) (others_10 : Int) : Option law09_fits_X := toX (seqM ((law09_fits_t4 a_0 a_1 a_3 at_4 from_5 h_7).run) fun b1 =>
  seqM ((law09_fits_t5 at_4 from_5 h_7 rows_9 others_10 b1).run) fun b2 =>
  (law09_fits_t6 b2).run)
theorem law09_fits_ok (a_0 : Int) (a_1 : Int) (v_2 : Lv) (a_3 : List Nat) (at_4 : Int) (from_5 : Int) (v_6 : Lv) (h_7 : List Nat) (h_8 : Nat) (rows_9 : Int) (others_10 : Int) {x : law09_fits_X} (h : law09_fits_F a_0 a_1 a_3 at_4 from_5 h_7 rows_9 others_10 = some x) : Contract prog n_law09_fits [] [.agg [.int .i64 a_0, .int .i64 a_1, .imm v_2 (.fl a_3) 1 1 0 (List.length a_3)], .int .i64 at_4, .int .i64 from_5, .agg [.imm v_6 (.fl h_7) 1 1 0 (List.length h_7), .flt false h_8], .int .i64 rows_9, .int .i64 others_10] (law09_fits_o x) :=
  Sg.contract false law09_fits_o (by kernel_rfl : prog.funcs[n_law09_fits]? = some (FN n_law09_fits)) (by kernel_rfl : (FN n_law09_fits).body = some (BODY n_law09_fits)) (Sg.cut 2 law09_fits_hN (Sg.seg (C := C0) C0_ok L_ref09_May_ok 60 (law09_fits_l3.take 2) (entryOf (FN n_law09_fits) [] [.agg [.int .i64 a_0, .int .i64 a_1, .imm v_2 (.fl a_3) 1 1 0 (List.length a_3)], .int .i64 at_4, .int .i64 from_5, .agg [.imm v_6 (.fl h_7) 1 1 0 (List.length h_7), .flt false h_8], .int .i64 rows_9, .int .i64 others_10]) (law09_fits_t4 a_0 a_1 a_3 at_4 from_5 h_7) (law09_fits_n1 at_4 from_5 v_6 h_7 h_8 rows_9 others_10) law09_fits_E [⟨[], [16], [1, 2, 4, 5, 9, 29]⟩, ⟨[], [16], [1, 2, 4, 5, 9, 29]⟩, ⟨[], [16], [1, 2, 4, 5, 9, 29]⟩, ⟨[], [16], [1, 2, 4, 5, 9, 29]⟩] (by kernel_rfl)) (fun b1 => by exact Sg.cut 2 law09_fits_hN (Sg.seg (C := C0) C0_ok L_ref09_May_ok 60 ((law09_fits_l3.drop 2).take 2) (law09_fits_n1 at_4 from_5 v_6 h_7 h_8 rows_9 others_10 b1) (law09_fits_t5 at_4 from_5 h_7 rows_9 others_10 b1) law09_fits_n2 law09_fits_E [⟨[], [], [12]⟩, ⟨[], [], [41]⟩, ⟨[], [], [41]⟩] (by kernel_rfl)) (fun b2 => by exact Sg.seg (C := C0) C0_ok L_ref09_May_ok 60 ((law09_fits_l3.drop 2).drop 2) (law09_fits_n2 b2) (law09_fits_t6 b2) (fun a : Empty => a.elim) law09_fits_E [⟨[], [], [12]⟩, ⟨[], [], [12]⟩] (by kernel_rfl))))
    (fun x => by cases x with | r0 a3 => exact ⟨.inr rfl, [.int .i64 ((a3 : Nat) : Int)], [], by kernel_rfl, trivial, by kernel_rfl⟩) h

def law09_fits_i0 : Option law09_fits_X → Bool
  | some _ => true
  | none => false
def law09_fits_p0_0 : Option law09_fits_X → Nat
  | some (.r0 x) => x
  | _ => 0
theorem law09_fits_e0 {x : Option law09_fits_X} (h : law09_fits_i0 x = true) : x = some (.r0 (law09_fits_p0_0 x)) := by
  unfold law09_fits_i0 at h
  split at h <;> first | rfl | (cases h; done) | (rename_i y; cases y; rfl)
noncomputable def e_law09_fits : Entry := autoE n_law09_fits (.cons (.agg (.cons (.int .i64) (.cons (.int .i64) (.cons .fl .nil)))) (.cons (.int .i64) (.cons (.int .i64) (.cons (.agg (.cons .fl (.cons (.flt false) .nil))) (.cons (.int .i64) (.cons (.int .i64) .nil)))))) fun t => [⟨law09_fits_o (.r0 (law09_fits_p0_0 (law09_fits_F t.1.1 t.1.2.1 t.1.2.2.1.2 t.2.1 t.2.2.1 t.2.2.2.1.1.2 t.2.2.2.2.1 t.2.2.2.2.2.1))), [law09_fits_i0 (law09_fits_F t.1.1 t.1.2.1 t.1.2.2.1.2 t.2.1 t.2.2.1 t.2.2.2.1.1.2 t.2.2.2.2.1 t.2.2.2.2.2.1)]⟩]
theorem e_law09_fits_ok : EntryOk prog e_law09_fits := autoE_ok fun t => (altsCons (fun h => law09_fits_ok t.1.1 t.1.2.1 t.1.2.2.1.1 t.1.2.2.1.2 t.2.1 t.2.2.1 t.2.2.2.1.1.1 t.2.2.2.1.1.2 t.2.2.2.1.2.1 t.2.2.2.2.1 t.2.2.2.2.2.1 (law09_fits_e0 h)) altsNil)
noncomputable def L_law09_fits : List Entry := e_law09_fits :: L_ref09_May
theorem L_law09_fits_ok : SumsOk prog (sumsOf L_law09_fits) := sumsOf_cons e_law09_fits_ok L_ref09_May_ok

inductive ref06_SameAll_X where
  | r0 (b2 : Bool)
def ref06_SameAll_E : ref06_SameAll_X → AE × ASt
  | .r0 b2 => (.ret, ⟨slots 27 [(4, .bool false b2)], [], 0⟩)
theorem ref06_SameAll_hN : NoN ref06_SameAll_E := by intro x; cases x <;> (intro h; cases h)
theorem ref06_SameAll_hI (id : Nat) : NoId id ref06_SameAll_E := by intro x; cases x <;> (intro h; cases h)
def ref06_SameAll_o : ref06_SameAll_X → Out
  | .r0 b2 => ⟨.bool false b2, []⟩
noncomputable def ref06_SameAll_l6 : List Code := flat (BODY n_ref06_SameAll)
def ref06_SameAll_n1 (v_0 : Lv) (a_1 : List Nat) (v_2 : Lv) (b_3 : List Nat) (_ : Unit) : ASt := ⟨slots 27 [(0, .imm v_0 (.fl a_1) 1 1 0 (List.length a_1)), (1, .imm v_2 (.fl b_3) 1 1 0 (List.length b_3)), (5, .int .i64 (0 : Int))], [], 0⟩
def ref06_SameAll_t7 (a_1 : List Nat) (b_3 : List Nat) : T ((Unit) ⊕ (ref06_SameAll_X)) :=
  .ask ((((List.length a_1) : Nat) : Int) != (((List.length b_3) : Nat) : Int))
    (.leaf (.inr (.r0 false)))
    (.leaf (.inl ()))
def ref06_SameAll_n3 (v_0 : Lv) (a_1 : List Nat) (v_2 : Lv) (b_3 : List Nat) (i1 : Nat) : ASt := ⟨slots 27 [(0, .imm v_0 (.fl a_1) 1 1 0 (List.length a_1)), (1, .imm v_2 (.fl b_3) 1 1 0 (List.length b_3)), (5, .int .i64 ((i1 : Nat) : Int))], [], 0⟩
def ref06_SameAll_n4 (_ : Unit) : ASt := ⟨slots 27 [], [], 0⟩
noncomputable def ref06_SameAll_l8 : List Code := flat (inLoop ((((ref06_SameAll_l6.drop 4).take 1)).headD .skip))
def ref06_SameAll_t9 (a_1 : List Nat) (b_3 : List Nat) (i1 : Nat) : T ((Nat) ⊕ ((Unit) ⊕ (ref06_SameAll_X))) :=
  .ask (decide (((i1 : Nat) : Int) < (((List.length a_1) : Nat) : Int)))
    (.need (inB ((i1 : Nat) : Int) (List.length a_1)) <| .need (ltB i1 (List.length a_1)) <| .need (inB ((i1 : Nat) : Int) (List.length b_3)) <| .need (ltB i1 (List.length b_3)) <| .ask (!(sameB (List.getD a_1 i1 0) (List.getD b_3 i1 0)))
      (.leaf (.inr (.inr (.r0 false))))
      (.need (inK .i64 (((i1 + 1) : Nat) : Int)) <| .leaf (.inl (i1 + 1))))
    (.leaf (.inr (.inl ())))
noncomputable def ref06_SameAll_m10 (a_1 : List Nat) (b_3 : List Nat) : Nat → Option ((Nat) ⊕ ((Unit) ⊕ (ref06_SameAll_X))) := fun i1 =>
  (ref06_SameAll_t9 a_1 b_3 i1).run
theorem ref06_SameAll_s10 (v_0 : Lv) (a_1 : List Nat) (v_2 : Lv) (b_3 : List Nat) (i1 : Nat) : Sg prog [] ref06_SameAll_l8 (ref06_SameAll_n3 v_0 a_1 v_2 b_3 i1) (ref06_SameAll_m10 a_1 b_3 i1) (ref06_SameAll_n3 v_0 a_1 v_2 b_3) (exitE 0 ref06_SameAll_n4 ref06_SameAll_E) :=
  Sg.seg (C := C0) C0_ok L_law09_fits_ok 60 ref06_SameAll_l8 (ref06_SameAll_n3 v_0 a_1 v_2 b_3 i1) (ref06_SameAll_t9 a_1 b_3 i1) (ref06_SameAll_n3 v_0 a_1 v_2 b_3) (exitE 0 ref06_SameAll_n4 ref06_SameAll_E) [⟨[], [], [4]⟩, ⟨[], [], [0, 1, 5]⟩, ⟨[], [], []⟩] (by kernel_rfl)
def ref06_SameAll_n5 : Unit → ASt := ref06_SameAll_n4
def ref06_SameAll_t11 : T ((Empty) ⊕ (ref06_SameAll_X)) :=
  .leaf (.inr (.r0 true))
noncomputable def ref06_SameAll_F (a_1 : List Nat) (b_3 : List Nat) : Option ref06_SameAll_X := toX (seqM ((ref06_SameAll_t7 a_1 b_3).run) fun _ =>
  seqM (loopM (ref06_SameAll_m10 a_1 b_3) 0) fun _ =>
  (ref06_SameAll_t11).run)
theorem ref06_SameAll_ok (v_0 : Lv) (a_1 : List Nat) (v_2 : Lv) (b_3 : List Nat) {x : ref06_SameAll_X} (h : ref06_SameAll_F a_1 b_3 = some x) : Contract prog n_ref06_SameAll [] [.imm v_0 (.fl a_1) 1 1 0 (List.length a_1), .imm v_2 (.fl b_3) 1 1 0 (List.length b_3)] (ref06_SameAll_o x) :=
  Sg.contract false ref06_SameAll_o (by kernel_rfl : prog.funcs[n_ref06_SameAll]? = some (FN n_ref06_SameAll)) (by kernel_rfl : (FN n_ref06_SameAll).body = some (BODY n_ref06_SameAll)) (Sg.cut 4 ref06_SameAll_hN (Sg.seg (C := C0) C0_ok L_law09_fits_ok 60 (ref06_SameAll_l6.take 4) (entryOf (FN n_ref06_SameAll) [] [.imm v_0 (.fl a_1) 1 1 0 (List.length a_1), .imm v_2 (.fl b_3) 1 1 0 (List.length b_3)]) (ref06_SameAll_t7 a_1 b_3) (ref06_SameAll_n1 v_0 a_1 v_2 b_3) ref06_SameAll_E [⟨[], [], [4]⟩, ⟨[], [], [0, 1, 5]⟩] (by kernel_rfl)) (fun a => by cases a; exact Sg.cut 1 ref06_SameAll_hN (Sg.pre ⟨[], [], [0, 1, 5]⟩ rfl (by kernel_rfl : NS.on ⟨[], [], [0, 1, 5]⟩ (ref06_SameAll_n1 v_0 a_1 v_2 b_3 ()) = (ref06_SameAll_n3 v_0 a_1 v_2 b_3) 0) (Sg.loopAt (I := (ref06_SameAll_n3 v_0 a_1 v_2 b_3)) (J := (ref06_SameAll_n4)) (id := 0) (by kernel_rfl : ((ref06_SameAll_l6.drop 4).take 1) = [.block 0 (.loop (inLoop ((((ref06_SameAll_l6.drop 4).take 1)).headD .skip)))]) ref06_SameAll_hN (ref06_SameAll_hI _) (fun s => by exact ref06_SameAll_s10 v_0 a_1 v_2 b_3 s) 0)) (fun a => by cases a; exact Sg.seg (C := C0) C0_ok L_law09_fits_ok 60 ((ref06_SameAll_l6.drop 4).drop 1) (ref06_SameAll_n5 ()) (ref06_SameAll_t11) (fun a : Empty => a.elim) ref06_SameAll_E [⟨[], [], [4]⟩] (by kernel_rfl))))
    (fun x => by cases x with | r0 b2 => exact ⟨.inr rfl, [.bool false b2], [], by kernel_rfl, trivial, by kernel_rfl⟩) h

def ref06_SameAll_i0 : Option ref06_SameAll_X → Bool
  | some _ => true
  | none => false
def ref06_SameAll_p0_0 : Option ref06_SameAll_X → Bool
  | some (.r0 x) => x
  | _ => false
theorem ref06_SameAll_e0 {x : Option ref06_SameAll_X} (h : ref06_SameAll_i0 x = true) : x = some (.r0 (ref06_SameAll_p0_0 x)) := by
  unfold ref06_SameAll_i0 at h
  split at h <;> first | rfl | (cases h; done) | (rename_i y; cases y; rfl)
noncomputable def e_ref06_SameAll : Entry := autoE n_ref06_SameAll (.cons .fl (.cons .fl .nil)) fun t => [⟨ref06_SameAll_o (.r0 (ref06_SameAll_p0_0 (ref06_SameAll_F t.1.2 t.2.1.2))), [ref06_SameAll_i0 (ref06_SameAll_F t.1.2 t.2.1.2)]⟩]
theorem e_ref06_SameAll_ok : EntryOk prog e_ref06_SameAll := autoE_ok fun t => (altsCons (fun h => ref06_SameAll_ok t.1.1 t.1.2 t.2.1.1 t.2.1.2 (ref06_SameAll_e0 h)) altsNil)
noncomputable def L_ref06_SameAll : List Entry := e_ref06_SameAll :: L_law09_fits
theorem L_ref06_SameAll_ok : SumsOk prog (sumsOf L_ref06_SameAll) := sumsOf_cons e_ref06_SameAll_ok L_law09_fits_ok

inductive ref09_Same_X where
  | r0 (b2 : Bool)
def ref09_Same_E : ref09_Same_X → AE × ASt
  | .r0 b2 => (.ret, ⟨slots 24 [(4, .bool false b2)], [], 0⟩)
theorem ref09_Same_hN : NoN ref09_Same_E := by intro x; cases x <;> (intro h; cases h)
theorem ref09_Same_hI (id : Nat) : NoId id ref09_Same_E := by intro x; cases x <;> (intro h; cases h)
def ref09_Same_o : ref09_Same_X → Out
  | .r0 b2 => ⟨.bool false b2, []⟩
noncomputable def ref09_Same_l2 : List Code := flat (BODY n_ref09_Same)
def ref09_Same_n1 (b1 : Bool) : ASt := ⟨slots 24 [(4, .bool false b1)], [], 0⟩
def ref09_Same_t3 (a_0 : Int) (a_1 : Int) (a_3 : List Nat) (b_4 : Int) (b_5 : Int) (b_7 : List Nat) : T ((Bool) ⊕ (ref09_Same_X)) :=
  .ask (a_0 == b_4)
    (.ask (a_1 == b_5)
      (.need (slOk 0 (List.length a_3) a_3) <| .need (slOk 0 (List.length b_7) b_7) <| .need (ref06_SameAll_i0 (ref06_SameAll_F (cutL 0 (List.length a_3) a_3) (cutL 0 (List.length b_7) b_7))) <| .leaf (.inl (ref06_SameAll_p0_0 (ref06_SameAll_F (cutL 0 (List.length a_3) a_3) (cutL 0 (List.length b_7) b_7)))))
      (.leaf (.inl false)))
    (.leaf (.inl false))
def ref09_Same_t4 (b1 : Bool) : T ((Empty) ⊕ (ref09_Same_X)) :=
  .leaf (.inr (.r0 b1))
noncomputable def ref09_Same_F (a_0 : Int) (a_1 : Int) (a_3 : List Nat) (b_4 : Int) (b_5 : Int) (b_7 : List Nat) : Option ref09_Same_X := toX (seqM ((ref09_Same_t3 a_0 a_1 a_3 b_4 b_5 b_7).run) fun b1 =>
  (ref09_Same_t4 b1).run)
theorem ref09_Same_ok (a_0 : Int) (a_1 : Int) (v_2 : Lv) (a_3 : List Nat) (b_4 : Int) (b_5 : Int) (v_6 : Lv) (b_7 : List Nat) {x : ref09_Same_X} (h : ref09_Same_F a_0 a_1 a_3 b_4 b_5 b_7 = some x) : Contract prog n_ref09_Same [] [.agg [.int .i64 a_0, .int .i64 a_1, .imm v_2 (.fl a_3) 1 1 0 (List.length a_3)], .agg [.int .i64 b_4, .int .i64 b_5, .imm v_6 (.fl b_7) 1 1 0 (List.length b_7)]] (ref09_Same_o x) :=
  Sg.contract false ref09_Same_o (by kernel_rfl : prog.funcs[n_ref09_Same]? = some (FN n_ref09_Same)) (by kernel_rfl : (FN n_ref09_Same).body = some (BODY n_ref09_Same)) (Sg.cut 2 ref09_Same_hN (Sg.seg (C := C0) C0_ok L_ref06_SameAll_ok 60 (ref09_Same_l2.take 2) (entryOf (FN n_ref09_Same) [] [.agg [.int .i64 a_0, .int .i64 a_1, .imm v_2 (.fl a_3) 1 1 0 (List.length a_3)], .agg [.int .i64 b_4, .int .i64 b_5, .imm v_6 (.fl b_7) 1 1 0 (List.length b_7)]]) (ref09_Same_t3 a_0 a_1 a_3 b_4 b_5 b_7) ref09_Same_n1 ref09_Same_E [⟨[], [], [4]⟩, ⟨[], [], [4]⟩, ⟨[], [], [4]⟩] (by kernel_rfl)) (fun b1 => by exact Sg.seg (C := C0) C0_ok L_ref06_SameAll_ok 60 (ref09_Same_l2.drop 2) (ref09_Same_n1 b1) (ref09_Same_t4 b1) (fun a : Empty => a.elim) ref09_Same_E [⟨[], [], [4]⟩] (by kernel_rfl)))
    (fun x => by cases x with | r0 b2 => exact ⟨.inr rfl, [.bool false b2], [], by kernel_rfl, trivial, by kernel_rfl⟩) h

def ref09_Same_i0 : Option ref09_Same_X → Bool
  | some _ => true
  | none => false
def ref09_Same_p0_0 : Option ref09_Same_X → Bool
  | some (.r0 x) => x
  | _ => false
theorem ref09_Same_e0 {x : Option ref09_Same_X} (h : ref09_Same_i0 x = true) : x = some (.r0 (ref09_Same_p0_0 x)) := by
  unfold ref09_Same_i0 at h
  split at h <;> first | rfl | (cases h; done) | (rename_i y; cases y; rfl)
noncomputable def e_ref09_Same : Entry := autoE n_ref09_Same (.cons (.agg (.cons (.int .i64) (.cons (.int .i64) (.cons .fl .nil)))) (.cons (.agg (.cons (.int .i64) (.cons (.int .i64) (.cons .fl .nil)))) .nil)) fun t => [⟨ref09_Same_o (.r0 (ref09_Same_p0_0 (ref09_Same_F t.1.1 t.1.2.1 t.1.2.2.1.2 t.2.1.1 t.2.1.2.1 t.2.1.2.2.1.2))), [ref09_Same_i0 (ref09_Same_F t.1.1 t.1.2.1 t.1.2.2.1.2 t.2.1.1 t.2.1.2.1 t.2.1.2.2.1.2)]⟩]
theorem e_ref09_Same_ok : EntryOk prog e_ref09_Same := autoE_ok fun t => (altsCons (fun h => ref09_Same_ok t.1.1 t.1.2.1 t.1.2.2.1.1 t.1.2.2.1.2 t.2.1.1 t.2.1.2.1 t.2.1.2.2.1.1 t.2.1.2.2.1.2 (ref09_Same_e0 h)) altsNil)
noncomputable def L_ref09_Same : List Entry := e_ref09_Same :: L_ref06_SameAll
theorem L_ref09_Same_ok : SumsOk prog (sumsOf L_ref09_Same) := sumsOf_cons e_ref09_Same_ok L_ref06_SameAll_ok

end
end Go.Plb.Seat

namespace Go.Plb.Seat
open Go Go.Plb
set_option linter.unusedVariables false
set_option maxRecDepth 10000
noncomputable section

inductive ref09_Left_X where
  | r0 (i21 : Int) (i22 : Int) (a23 : Nat) (l24 : List Nat)
def ref09_Left_E : ref09_Left_X → AE × ASt
  | .r0 i21 i22 a23 l24 => (.ret, ⟨slots 101 [(8, .ptr 0 1 0 0)], [(0, .vs [.int .i64 i21, .int .i64 i22, .sl 1 1 1 0 a23 a23]), (1, .fl l24)], 2⟩)
theorem ref09_Left_hN : NoN ref09_Left_E := by intro x; cases x <;> (intro h; cases h)
theorem ref09_Left_hI (id : Nat) : NoId id ref09_Left_E := by intro x; cases x <;> (intro h; cases h)
def ref09_Left_o : ref09_Left_X → Out
  | .r0 i21 i22 a23 l24 => ⟨.agg [.int .i64 i21, .int .i64 i22, .sl 0 1 1 0 a23 a23], [some (.fl l24)]⟩
noncomputable def ref09_Left_l32 : List Code := flat (BODY n_ref09_Left)
def ref09_Left_n1 (a_0 : Int) (a_1 : Int) (v_2 : Lv) (a_3 : List Nat) (at_4 : Int) (from_5 : Int) (v_6 : Lv) (h_7 : List Nat) (h_8 : Nat) (l1 : (List Nat)) : ASt := ⟨slots 101 [(1, .int .i64 at_4), (4, .ptr 0 1 0 0), (7, .ptr 1 1 0 0), (8, .ptr 2 1 0 0), (9, .ptr 3 1 0 0), (10, .int .i64 from_5)], [(0, .vs [.int .i64 a_0, .int .i64 a_1, .imm v_2 (.fl a_3) 1 1 0 (List.length a_3)]), (1, .vs [.imm v_6 (.fl h_7) 1 1 0 (List.length h_7), .flt false h_8]), (2, .vs [.int .i64 (0 : Int), .int .i64 (0 : Int), .nsl]), (3, .vs [.int .i64 a_0, .int .i64 a_1, .sl 4 1 1 0 (List.length a_3) (List.length a_3)]), (4, .fl l1)], 5⟩
def ref09_Left_t33 (a_0 : Int) (a_1 : Int) (a_3 : List Nat) (h_8 : Nat) : T (((List Nat)) ⊕ (ref09_Left_X)) :=
  .need (leN ((List.length a_3) * 8) 140737488355328) <| .need (leN (List.length a_3) 9223372036854775807) <| .need (leN (List.length a_3) (List.length a_3)) <| .ask (feq h_8 0)
    (.leaf (.inr (.r0 a_0 a_1 (List.length a_3) (List.take (List.length a_3) a_3))))
    (.leaf (.inl (List.take (List.length a_3) a_3)))
def ref09_Left_n16 (a_0 : Int) (a_1 : Int) (v_2 : Lv) (a_3 : List Nat) (at_4 : Int) (v_6 : Lv) (h_7 : List Nat) (h_8 : Nat) : Int × (List Nat) → ASt := fun (k10, l11) => ⟨slots 101 [(1, .int .i64 at_4), (4, .ptr 0 1 0 0), (7, .ptr 1 1 0 0), (8, .ptr 2 1 0 0), (9, .ptr 3 1 0 0), (10, .int .i64 k10)], [(0, .vs [.int .i64 a_0, .int .i64 a_1, .imm v_2 (.fl a_3) 1 1 0 (List.length a_3)]), (1, .vs [.imm v_6 (.fl h_7) 1 1 0 (List.length h_7), .flt false h_8]), (2, .vs [.int .i64 (0 : Int), .int .i64 (0 : Int), .nsl]), (3, .vs [.int .i64 a_0, .int .i64 a_1, .sl 4 1 1 0 (List.length a_3) (List.length a_3)]), (4, .fl l11)], 5⟩
def ref09_Left_n30 (a_0 : Int) (a_1 : Int) (a_3 : List Nat) (l20 : (List Nat)) : ASt := ⟨slots 101 [(8, .ptr 0 1 0 0), (9, .ptr 1 1 0 0)], [(0, .vs [.int .i64 (0 : Int), .int .i64 (0 : Int), .nsl]), (1, .vs [.int .i64 a_0, .int .i64 a_1, .sl 2 1 1 0 (List.length a_3) (List.length a_3)]), (2, .fl l20)], 3⟩
noncomputable def ref09_Left_l34 : List Code := flat (inLoop ((((ref09_Left_l32.drop 5).take 1)).headD .skip))
def ref09_Left_n17 (a_0 : Int) (a_1 : Int) (v_2 : Lv) (a_3 : List Nat) (at_4 : Int) (v_6 : Lv) (h_7 : List Nat) (h_8 : Nat) (k10 : Int) (l11 : List Nat) (_ : Unit) : ASt := ⟨slots 101 [(1, .int .i64 at_4), (4, .ptr 0 1 0 0), (7, .ptr 1 1 0 0), (8, .ptr 2 1 0 0), (9, .ptr 3 1 0 0), (10, .int .i64 k10)], [(0, .vs [.int .i64 a_0, .int .i64 a_1, .imm v_2 (.fl a_3) 1 1 0 (List.length a_3)]), (1, .vs [.imm v_6 (.fl h_7) 1 1 0 (List.length h_7), .flt false h_8]), (2, .vs [.int .i64 (0 : Int), .int .i64 (0 : Int), .nsl]), (3, .vs [.int .i64 a_0, .int .i64 a_1, .sl 4 1 1 0 (List.length a_3) (List.length a_3)]), (4, .fl l11)], 5⟩
def ref09_Left_t35 (a_1 : Int) (k10 : Int) (l11 : List Nat) : T ((Unit) ⊕ (((List Nat)) ⊕ (ref09_Left_X))) :=
  .ask (decide (k10 < a_1))
    (.leaf (.inl ()))
    (.leaf (.inr (.inl l11)))
def ref09_Left_n28 (a_0 : Int) (a_1 : Int) (v_2 : Lv) (a_3 : List Nat) (at_4 : Int) (v_6 : Lv) (h_7 : List Nat) (h_8 : Nat) (k10 : Int) (l19 : (List Nat)) : ASt := ⟨slots 101 [(1, .int .i64 at_4), (4, .ptr 0 1 0 0), (7, .ptr 1 1 0 0), (8, .ptr 2 1 0 0), (9, .ptr 3 1 0 0), (10, .int .i64 k10)], [(0, .vs [.int .i64 a_0, .int .i64 a_1, .imm v_2 (.fl a_3) 1 1 0 (List.length a_3)]), (1, .vs [.imm v_6 (.fl h_7) 1 1 0 (List.length h_7), .flt false h_8]), (2, .vs [.int .i64 (0 : Int), .int .i64 (0 : Int), .nsl]), (3, .vs [.int .i64 a_0, .int .i64 a_1, .sl 4 1 1 0 (List.length a_3) (List.length a_3)]), (4, .fl l19)], 5⟩
noncomputable def ref09_Left_l36 : List Code := flat (inBlock ((((ref09_Left_l34.drop 2).take 1)).headD .skip))
def ref09_Left_n18 (a_0 : Int) (a_1 : Int) (v_2 : Lv) (a_3 : List Nat) (at_4 : Int) (v_6 : Lv) (h_7 : List Nat) (h_8 : Nat) (k10 : Int) (l11 : List Nat) (_ : Unit) : ASt := ⟨slots 101 [(1, .int .i64 at_4), (4, .ptr 0 1 0 0), (7, .ptr 1 1 0 0), (8, .ptr 2 1 0 0), (9, .ptr 3 1 0 0), (10, .int .i64 k10), (11, .flt false 0), (12, .int .i64 (0 : Int))], [(0, .vs [.int .i64 a_0, .int .i64 a_1, .imm v_2 (.fl a_3) 1 1 0 (List.length a_3)]), (1, .vs [.imm v_6 (.fl h_7) 1 1 0 (List.length h_7), .flt false h_8]), (2, .vs [.int .i64 (0 : Int), .int .i64 (0 : Int), .nsl]), (3, .vs [.int .i64 a_0, .int .i64 a_1, .sl 4 1 1 0 (List.length a_3) (List.length a_3)]), (4, .fl l11)], 5⟩
def ref09_Left_t37 : T ((Unit) ⊕ (((List Nat)) ⊕ (((List Nat)) ⊕ (ref09_Left_X)))) :=
  .leaf (.inl ())
def ref09_Left_n20 (a_0 : Int) (a_1 : Int) (v_2 : Lv) (a_3 : List Nat) (at_4 : Int) (v_6 : Lv) (h_7 : List Nat) (h_8 : Nat) (k10 : Int) (l11 : List Nat) : Nat × Nat → ASt := fun (w12, i13) => ⟨slots 101 [(1, .int .i64 at_4), (4, .ptr 0 1 0 0), (7, .ptr 1 1 0 0), (8, .ptr 2 1 0 0), (9, .ptr 3 1 0 0), (10, .int .i64 k10), (11, .flt false w12), (12, .int .i64 ((i13 : Nat) : Int))], [(0, .vs [.int .i64 a_0, .int .i64 a_1, .imm v_2 (.fl a_3) 1 1 0 (List.length a_3)]), (1, .vs [.imm v_6 (.fl h_7) 1 1 0 (List.length h_7), .flt false h_8]), (2, .vs [.int .i64 (0 : Int), .int .i64 (0 : Int), .nsl]), (3, .vs [.int .i64 a_0, .int .i64 a_1, .sl 4 1 1 0 (List.length a_3) (List.length a_3)]), (4, .fl l11)], 5⟩
def ref09_Left_n21 (a_0 : Int) (a_1 : Int) (v_2 : Lv) (a_3 : List Nat) (at_4 : Int) (v_6 : Lv) (h_7 : List Nat) (h_8 : Nat) (k10 : Int) (l11 : List Nat) (w14 : Nat) : ASt := ⟨slots 101 [(1, .int .i64 at_4), (4, .ptr 0 1 0 0), (7, .ptr 1 1 0 0), (8, .ptr 2 1 0 0), (9, .ptr 3 1 0 0), (10, .int .i64 k10), (11, .flt false w14)], [(0, .vs [.int .i64 a_0, .int .i64 a_1, .imm v_2 (.fl a_3) 1 1 0 (List.length a_3)]), (1, .vs [.imm v_6 (.fl h_7) 1 1 0 (List.length h_7), .flt false h_8]), (2, .vs [.int .i64 (0 : Int), .int .i64 (0 : Int), .nsl]), (3, .vs [.int .i64 a_0, .int .i64 a_1, .sl 4 1 1 0 (List.length a_3) (List.length a_3)]), (4, .fl l11)], 5⟩
noncomputable def ref09_Left_l38 : List Code := flat (inLoop ((((ref09_Left_l36.drop 2).take 1)).headD .skip))
def ref09_Left_t39 (a_1 : Int) (a_3 : List Nat) (at_4 : Int) (h_7 : List Nat) (k10 : Int) (w12 : Nat) (i13 : Nat) : T ((Nat × Nat) ⊕ ((Nat) ⊕ (((List Nat)) ⊕ (((List Nat)) ⊕ (ref09_Left_X))))) :=
  .ask (decide (((i13 : Nat) : Int) < (((List.length h_7) : Nat) : Int)))
    (.need (inB ((i13 : Nat) : Int) (List.length h_7)) <| .need (ltB i13 (List.length h_7)) <| .need (inK .i64 (at_4 + ((i13 : Nat) : Int))) <| .need (inK .i64 ((at_4 + ((i13 : Nat) : Int)) * a_1)) <| .need (inK .i64 (((at_4 + ((i13 : Nat) : Int)) * a_1) + k10)) <| .need (inB (((at_4 + ((i13 : Nat) : Int)) * a_1) + k10) (List.length a_3)) <| .need (ltB (Int.toNat (((at_4 + ((i13 : Nat) : Int)) * a_1) + k10)) (List.length a_3)) <| .need (inK .i64 (((i13 + 1) : Nat) : Int)) <| .leaf (.inl ((fadd w12 (fmul (List.getD h_7 i13 0) (List.getD a_3 (Int.toNat (((at_4 + ((i13 : Nat) : Int)) * a_1) + k10)) 0))), (i13 + 1))))
    (.leaf (.inr (.inl w12)))
noncomputable def ref09_Left_m40 (a_1 : Int) (a_3 : List Nat) (at_4 : Int) (h_7 : List Nat) (k10 : Int) : Nat × Nat → Option ((Nat × Nat) ⊕ ((Nat) ⊕ (((List Nat)) ⊕ (((List Nat)) ⊕ (ref09_Left_X))))) := fun (w12, i13) =>
  (ref09_Left_t39 a_1 a_3 at_4 h_7 k10 w12 i13).run
theorem ref09_Left_s40 (a_0 : Int) (a_1 : Int) (v_2 : Lv) (a_3 : List Nat) (at_4 : Int) (v_6 : Lv) (h_7 : List Nat) (h_8 : Nat) (k10 : Int) (l11 : List Nat) (w12 : Nat) (i13 : Nat) : Sg prog [] ref09_Left_l38 (ref09_Left_n20 a_0 a_1 v_2 a_3 at_4 v_6 h_7 h_8 k10 l11 (w12, i13)) (ref09_Left_m40 a_1 a_3 at_4 h_7 k10 (w12, i13)) (ref09_Left_n20 a_0 a_1 v_2 a_3 at_4 v_6 h_7 h_8 k10 l11) (exitE 2 (ref09_Left_n21 a_0 a_1 v_2 a_3 at_4 v_6 h_7 h_8 k10 l11) (exitE 1 (ref09_Left_n28 a_0 a_1 v_2 a_3 at_4 v_6 h_7 h_8 k10) (exitE 0 (ref09_Left_n30 a_0 a_1 a_3) ref09_Left_E))) :=
  Sg.seg (C := C0) C0_ok L_ref09_Same_ok 60 ref09_Left_l38 (ref09_Left_n20 a_0 a_1 v_2 a_3 at_4 v_6 h_7 h_8 k10 l11 (w12, i13)) (ref09_Left_t39 a_1 a_3 at_4 h_7 k10 w12 i13) (ref09_Left_n20 a_0 a_1 v_2 a_3 at_4 v_6 h_7 h_8 k10 l11) (exitE 2 (ref09_Left_n21 a_0 a_1 v_2 a_3 at_4 v_6 h_7 h_8 k10 l11) (exitE 1 (ref09_Left_n28 a_0 a_1 v_2 a_3 at_4 v_6 h_7 h_8 k10) (exitE 0 (ref09_Left_n30 a_0 a_1 a_3) ref09_Left_E))) [⟨[], [0, 1, 2, 3, 4], [1, 4, 7, 8, 9, 10, 11, 12]⟩, ⟨[], [0, 1, 2, 3, 4], [1, 4, 7, 8, 9, 10, 11]⟩] (by kernel_rfl)
def ref09_Left_n22 (a_0 : Int) (a_1 : Int) (v_2 : Lv) (a_3 : List Nat) (at_4 : Int) (v_6 : Lv) (h_7 : List Nat) (h_8 : Nat) (k10 : Int) (l11 : List Nat) : Nat → ASt := ref09_Left_n21 a_0 a_1 v_2 a_3 at_4 v_6 h_7 h_8 k10 l11
def ref09_Left_n23 (a_0 : Int) (a_1 : Int) (v_2 : Lv) (a_3 : List Nat) (at_4 : Int) (v_6 : Lv) (h_7 : List Nat) (h_8 : Nat) (k10 : Int) (l11 : List Nat) (w15 : Nat) : ASt := ⟨slots 101 [(1, .int .i64 at_4), (4, .ptr 0 1 0 0), (7, .ptr 1 1 0 0), (8, .ptr 2 1 0 0), (9, .ptr 3 1 0 0), (10, .int .i64 k10), (11, .flt false w15), (14, .int .i64 (0 : Int))], [(0, .vs [.int .i64 a_0, .int .i64 a_1, .imm v_2 (.fl a_3) 1 1 0 (List.length a_3)]), (1, .vs [.imm v_6 (.fl h_7) 1 1 0 (List.length h_7), .flt false h_8]), (2, .vs [.int .i64 (0 : Int), .int .i64 (0 : Int), .nsl]), (3, .vs [.int .i64 a_0, .int .i64 a_1, .sl 4 1 1 0 (List.length a_3) (List.length a_3)]), (4, .fl l11)], 5⟩
def ref09_Left_t41 (h_8 : Nat) (w14 : Nat) : T ((Nat) ⊕ (((List Nat)) ⊕ (((List Nat)) ⊕ (ref09_Left_X)))) :=
  .leaf (.inl (fmul h_8 w14))
def ref09_Left_n25 (a_0 : Int) (a_1 : Int) (v_2 : Lv) (a_3 : List Nat) (at_4 : Int) (v_6 : Lv) (h_7 : List Nat) (h_8 : Nat) (k10 : Int) (w15 : Nat) : Nat × (List Nat) → ASt := fun (i16, l17) => ⟨slots 101 [(1, .int .i64 at_4), (4, .ptr 0 1 0 0), (7, .ptr 1 1 0 0), (8, .ptr 2 1 0 0), (9, .ptr 3 1 0 0), (10, .int .i64 k10), (11, .flt false w15), (14, .int .i64 ((i16 : Nat) : Int))], [(0, .vs [.int .i64 a_0, .int .i64 a_1, .imm v_2 (.fl a_3) 1 1 0 (List.length a_3)]), (1, .vs [.imm v_6 (.fl h_7) 1 1 0 (List.length h_7), .flt false h_8]), (2, .vs [.int .i64 (0 : Int), .int .i64 (0 : Int), .nsl]), (3, .vs [.int .i64 a_0, .int .i64 a_1, .sl 4 1 1 0 (List.length a_3) (List.length a_3)]), (4, .fl l17)], 5⟩
def ref09_Left_n26 (a_0 : Int) (a_1 : Int) (v_2 : Lv) (a_3 : List Nat) (at_4 : Int) (v_6 : Lv) (h_7 : List Nat) (h_8 : Nat) (k10 : Int) (l18 : (List Nat)) : ASt := ⟨slots 101 [(1, .int .i64 at_4), (4, .ptr 0 1 0 0), (7, .ptr 1 1 0 0), (8, .ptr 2 1 0 0), (9, .ptr 3 1 0 0), (10, .int .i64 k10)], [(0, .vs [.int .i64 a_0, .int .i64 a_1, .imm v_2 (.fl a_3) 1 1 0 (List.length a_3)]), (1, .vs [.imm v_6 (.fl h_7) 1 1 0 (List.length h_7), .flt false h_8]), (2, .vs [.int .i64 (0 : Int), .int .i64 (0 : Int), .nsl]), (3, .vs [.int .i64 a_0, .int .i64 a_1, .sl 4 1 1 0 (List.length a_3) (List.length a_3)]), (4, .fl l18)], 5⟩
noncomputable def ref09_Left_l42 : List Code := flat (inLoop ((((((ref09_Left_l36.drop 2).drop 1).drop 2).take 1)).headD .skip))
def ref09_Left_t43 (a_1 : Int) (a_3 : List Nat) (at_4 : Int) (h_7 : List Nat) (k10 : Int) (w15 : Nat) (i16 : Nat) (l17 : List Nat) : T ((Nat × (List Nat)) ⊕ (((List Nat)) ⊕ (((List Nat)) ⊕ (((List Nat)) ⊕ (ref09_Left_X))))) :=
  .ask (decide (((i16 : Nat) : Int) < (((List.length h_7) : Nat) : Int)))
    (.need (inB ((i16 : Nat) : Int) (List.length h_7)) <| .need (ltB i16 (List.length h_7)) <| .need (inK .i64 (at_4 + ((i16 : Nat) : Int))) <| .need (inK .i64 ((at_4 + ((i16 : Nat) : Int)) * a_1)) <| .need (inK .i64 (((at_4 + ((i16 : Nat) : Int)) * a_1) + k10)) <| .need (inK .i64 (at_4 + ((i16 : Nat) : Int))) <| .need (inK .i64 ((at_4 + ((i16 : Nat) : Int)) * a_1)) <| .need (inK .i64 (((at_4 + ((i16 : Nat) : Int)) * a_1) + k10)) <| .need (inB (((at_4 + ((i16 : Nat) : Int)) * a_1) + k10) (List.length a_3)) <| .need (ltB (Int.toNat (((at_4 + ((i16 : Nat) : Int)) * a_1) + k10)) (List.length a_3)) <| .need (inB (((at_4 + ((i16 : Nat) : Int)) * a_1) + k10) (List.length a_3)) <| .need (ltB (Int.toNat (((at_4 + ((i16 : Nat) : Int)) * a_1) + k10)) (List.length l17)) <| .need (inK .i64 (((i16 + 1) : Nat) : Int)) <| .leaf (.inl ((i16 + 1), (List.set l17 (Int.toNat (((at_4 + ((i16 : Nat) : Int)) * a_1) + k10)) (fsub (List.getD a_3 (Int.toNat (((at_4 + ((i16 : Nat) : Int)) * a_1) + k10)) 0) (fmul (List.getD h_7 i16 0) w15))))))
    (.leaf (.inr (.inl l17)))
noncomputable def ref09_Left_m44 (a_1 : Int) (a_3 : List Nat) (at_4 : Int) (h_7 : List Nat) (k10 : Int) (w15 : Nat) : Nat × (List Nat) → Option ((Nat × (List Nat)) ⊕ (((List Nat)) ⊕ (((List Nat)) ⊕ (((List Nat)) ⊕ (ref09_Left_X))))) := fun (i16, l17) =>
  (ref09_Left_t43 a_1 a_3 at_4 h_7 k10 w15 i16 l17).run
theorem ref09_Left_s44 (a_0 : Int) (a_1 : Int) (v_2 : Lv) (a_3 : List Nat) (at_4 : Int) (v_6 : Lv) (h_7 : List Nat) (h_8 : Nat) (k10 : Int) (w15 : Nat) (i16 : Nat) (l17 : List Nat) : Sg prog [] ref09_Left_l42 (ref09_Left_n25 a_0 a_1 v_2 a_3 at_4 v_6 h_7 h_8 k10 w15 (i16, l17)) (ref09_Left_m44 a_1 a_3 at_4 h_7 k10 w15 (i16, l17)) (ref09_Left_n25 a_0 a_1 v_2 a_3 at_4 v_6 h_7 h_8 k10 w15) (exitE 4 (ref09_Left_n26 a_0 a_1 v_2 a_3 at_4 v_6 h_7 h_8 k10) (exitE 1 (ref09_Left_n28 a_0 a_1 v_2 a_3 at_4 v_6 h_7 h_8 k10) (exitE 0 (ref09_Left_n30 a_0 a_1 a_3) ref09_Left_E))) :=
  Sg.seg (C := C0) C0_ok L_ref09_Same_ok 60 ref09_Left_l42 (ref09_Left_n25 a_0 a_1 v_2 a_3 at_4 v_6 h_7 h_8 k10 w15 (i16, l17)) (ref09_Left_t43 a_1 a_3 at_4 h_7 k10 w15 i16 l17) (ref09_Left_n25 a_0 a_1 v_2 a_3 at_4 v_6 h_7 h_8 k10 w15) (exitE 4 (ref09_Left_n26 a_0 a_1 v_2 a_3 at_4 v_6 h_7 h_8 k10) (exitE 1 (ref09_Left_n28 a_0 a_1 v_2 a_3 at_4 v_6 h_7 h_8 k10) (exitE 0 (ref09_Left_n30 a_0 a_1 a_3) ref09_Left_E))) [⟨[], [0, 1, 2, 3, 4], [1, 4, 7, 8, 9, 10, 11, 14]⟩, ⟨[], [0, 1, 2, 3, 4], [1, 4, 7, 8, 9, 10]⟩] (by kernel_rfl)
def ref09_Left_n27 (a_0 : Int) (a_1 : Int) (v_2 : Lv) (a_3 : List Nat) (at_4 : Int) (v_6 : Lv) (h_7 : List Nat) (h_8 : Nat) (k10 : Int) : (List Nat) → ASt := ref09_Left_n26 a_0 a_1 v_2 a_3 at_4 v_6 h_7 h_8 k10
def ref09_Left_t45 (l18 : List Nat) : T (((List Nat)) ⊕ (((List Nat)) ⊕ (((List Nat)) ⊕ (ref09_Left_X)))) :=
  .leaf (.inl l18)
def ref09_Left_n29 (a_0 : Int) (a_1 : Int) (v_2 : Lv) (a_3 : List Nat) (at_4 : Int) (v_6 : Lv) (h_7 : List Nat) (h_8 : Nat) (k10 : Int) : (List Nat) → ASt := ref09_Left_n28 a_0 a_1 v_2 a_3 at_4 v_6 h_7 h_8 k10
def ref09_Left_t46 (k10 : Int) (l19 : List Nat) : T ((Int × (List Nat)) ⊕ (((List Nat)) ⊕ (ref09_Left_X))) :=
  .need (inK .i64 (k10 + (1 : Int))) <| .leaf (.inl ((k10 + (1 : Int)), l19))
noncomputable def ref09_Left_m47 (a_1 : Int) (a_3 : List Nat) (at_4 : Int) (h_7 : List Nat) (h_8 : Nat) : Int × (List Nat) → Option ((Int × (List Nat)) ⊕ (((List Nat)) ⊕ (ref09_Left_X))) := fun (k10, l11) =>
  seqM ((ref09_Left_t35 a_1 k10 l11).run) fun _ =>
  seqM (joinM (seqM ((ref09_Left_t37).run) fun _ =>
  seqM (loopM (ref09_Left_m40 a_1 a_3 at_4 h_7 k10) (0, 0)) fun w14 =>
  seqM ((ref09_Left_t41 h_8 w14).run) fun w15 =>
  seqM (loopM (ref09_Left_m44 a_1 a_3 at_4 h_7 k10 w15) (0, l11)) fun l18 =>
  (ref09_Left_t45 l18).run)) fun l19 =>
  (ref09_Left_t46 k10 l19).run
theorem ref09_Left_s47 (a_0 : Int) (a_1 : Int) (v_2 : Lv) (a_3 : List Nat) (at_4 : Int) (v_6 : Lv) (h_7 : List Nat) (h_8 : Nat) (k10 : Int) (l11 : List Nat) : Sg prog [] ref09_Left_l34 (ref09_Left_n16 a_0 a_1 v_2 a_3 at_4 v_6 h_7 h_8 (k10, l11)) (ref09_Left_m47 a_1 a_3 at_4 h_7 h_8 (k10, l11)) (ref09_Left_n16 a_0 a_1 v_2 a_3 at_4 v_6 h_7 h_8) (exitE 0 (ref09_Left_n30 a_0 a_1 a_3) ref09_Left_E) :=
  Sg.cut 2 (noN_exit ref09_Left_hN) (Sg.seg (C := C0) C0_ok L_ref09_Same_ok 60 (ref09_Left_l34.take 2) (ref09_Left_n16 a_0 a_1 v_2 a_3 at_4 v_6 h_7 h_8 (k10, l11)) (ref09_Left_t35 a_1 k10 l11) (ref09_Left_n17 a_0 a_1 v_2 a_3 at_4 v_6 h_7 h_8 k10 l11) (exitE 0 (ref09_Left_n30 a_0 a_1 a_3) ref09_Left_E) [⟨[], [0, 1, 2, 3, 4], [1, 4, 7, 8, 9, 10]⟩, ⟨[], [2, 3, 4], [8, 9]⟩] (by kernel_rfl)) (fun a => by cases a; exact Sg.cut 1 (noN_exit ref09_Left_hN) (Sg.blockAt (id := 1) (K := (ref09_Left_n28 a_0 a_1 v_2 a_3 at_4 v_6 h_7 h_8 k10)) (by kernel_rfl : ((ref09_Left_l34.drop 2).take 1) = [.block 1 (inBlock ((((ref09_Left_l34.drop 2).take 1)).headD .skip))]) (noN_exit ref09_Left_hN) (noId_exit (by decide) (ref09_Left_hI _)) (Sg.cut 2 (noN_exit (noN_exit ref09_Left_hN)) (Sg.seg (C := C0) C0_ok L_ref09_Same_ok 60 (ref09_Left_l36.take 2) (ref09_Left_n17 a_0 a_1 v_2 a_3 at_4 v_6 h_7 h_8 k10 l11 ()) (ref09_Left_t37) (ref09_Left_n18 a_0 a_1 v_2 a_3 at_4 v_6 h_7 h_8 k10 l11) (exitE 1 (ref09_Left_n28 a_0 a_1 v_2 a_3 at_4 v_6 h_7 h_8 k10) (exitE 0 (ref09_Left_n30 a_0 a_1 a_3) ref09_Left_E)) [⟨[], [0, 1, 2, 3, 4], [1, 4, 7, 8, 9, 10, 11, 12]⟩] (by kernel_rfl)) (fun a => by cases a; exact Sg.cut 1 (noN_exit (noN_exit ref09_Left_hN)) (Sg.pre ⟨[], [0, 1, 2, 3, 4], [1, 4, 7, 8, 9, 10, 11, 12]⟩ rfl (by kernel_rfl : NS.on ⟨[], [0, 1, 2, 3, 4], [1, 4, 7, 8, 9, 10, 11, 12]⟩ (ref09_Left_n18 a_0 a_1 v_2 a_3 at_4 v_6 h_7 h_8 k10 l11 ()) = (ref09_Left_n20 a_0 a_1 v_2 a_3 at_4 v_6 h_7 h_8 k10 l11) (0, 0)) (Sg.loopAt (I := (ref09_Left_n20 a_0 a_1 v_2 a_3 at_4 v_6 h_7 h_8 k10 l11)) (J := (ref09_Left_n21 a_0 a_1 v_2 a_3 at_4 v_6 h_7 h_8 k10 l11)) (id := 2) (by kernel_rfl : ((ref09_Left_l36.drop 2).take 1) = [.block 2 (.loop (inLoop ((((ref09_Left_l36.drop 2).take 1)).headD .skip)))]) (noN_exit (noN_exit ref09_Left_hN)) (noId_exit (by decide) (noId_exit (by decide) (ref09_Left_hI _))) (fun s => by obtain ⟨w12, i13⟩ := s; exact ref09_Left_s40 a_0 a_1 v_2 a_3 at_4 v_6 h_7 h_8 k10 l11 w12 i13) (0, 0))) (fun w14 => by exact Sg.cut 2 (noN_exit (noN_exit ref09_Left_hN)) (Sg.seg (C := C0) C0_ok L_ref09_Same_ok 60 (((ref09_Left_l36.drop 2).drop 1).take 2) (ref09_Left_n22 a_0 a_1 v_2 a_3 at_4 v_6 h_7 h_8 k10 l11 w14) (ref09_Left_t41 h_8 w14) (ref09_Left_n23 a_0 a_1 v_2 a_3 at_4 v_6 h_7 h_8 k10 l11) (exitE 1 (ref09_Left_n28 a_0 a_1 v_2 a_3 at_4 v_6 h_7 h_8 k10) (exitE 0 (ref09_Left_n30 a_0 a_1 a_3) ref09_Left_E)) [⟨[], [0, 1, 2, 3, 4], [1, 4, 7, 8, 9, 10, 11, 14]⟩] (by kernel_rfl)) (fun w15 => by exact Sg.cut 1 (noN_exit (noN_exit ref09_Left_hN)) (Sg.pre ⟨[], [0, 1, 2, 3, 4], [1, 4, 7, 8, 9, 10, 11, 14]⟩ rfl (by kernel_rfl : NS.on ⟨[], [0, 1, 2, 3, 4], [1, 4, 7, 8, 9, 10, 11, 14]⟩ (ref09_Left_n23 a_0 a_1 v_2 a_3 at_4 v_6 h_7 h_8 k10 l11 w15) = (ref09_Left_n25 a_0 a_1 v_2 a_3 at_4 v_6 h_7 h_8 k10 w15) (0, l11)) (Sg.loopAt (I := (ref09_Left_n25 a_0 a_1 v_2 a_3 at_4 v_6 h_7 h_8 k10 w15)) (J := (ref09_Left_n26 a_0 a_1 v_2 a_3 at_4 v_6 h_7 h_8 k10)) (id := 4) (by kernel_rfl : ((((ref09_Left_l36.drop 2).drop 1).drop 2).take 1) = [.block 4 (.loop (inLoop ((((((ref09_Left_l36.drop 2).drop 1).drop 2).take 1)).headD .skip)))]) (noN_exit (noN_exit ref09_Left_hN)) (noId_exit (by decide) (noId_exit (by decide) (ref09_Left_hI _))) (fun s => by obtain ⟨i16, l17⟩ := s; exact ref09_Left_s44 a_0 a_1 v_2 a_3 at_4 v_6 h_7 h_8 k10 w15 i16 l17) (0, l11))) (fun l18 => by exact Sg.seg (C := C0) C0_ok L_ref09_Same_ok 60 ((((ref09_Left_l36.drop 2).drop 1).drop 2).drop 1) (ref09_Left_n27 a_0 a_1 v_2 a_3 at_4 v_6 h_7 h_8 k10 l18) (ref09_Left_t45 l18) (ref09_Left_n28 a_0 a_1 v_2 a_3 at_4 v_6 h_7 h_8 k10) (exitE 1 (ref09_Left_n28 a_0 a_1 v_2 a_3 at_4 v_6 h_7 h_8 k10) (exitE 0 (ref09_Left_n30 a_0 a_1 a_3) ref09_Left_E)) [⟨[], [0, 1, 2, 3, 4], [1, 4, 7, 8, 9, 10]⟩] (by kernel_rfl))))))) (fun l19 => by exact Sg.seg (C := C0) C0_ok L_ref09_Same_ok 60 ((ref09_Left_l34.drop 2).drop 1) (ref09_Left_n29 a_0 a_1 v_2 a_3 at_4 v_6 h_7 h_8 k10 l19) (ref09_Left_t46 k10 l19) (ref09_Left_n16 a_0 a_1 v_2 a_3 at_4 v_6 h_7 h_8) (exitE 0 (ref09_Left_n30 a_0 a_1 a_3) ref09_Left_E) [⟨[], [0, 1, 2, 3, 4], [1, 4, 7, 8, 9, 10]⟩] (by kernel_rfl)))
def ref09_Left_n31 (a_0 : Int) (a_1 : Int) (a_3 : List Nat) : (List Nat) → ASt := ref09_Left_n30 a_0 a_1 a_3
def ref09_Left_t48 (a_0 : Int) (a_1 : Int) (a_3 : List Nat) (l20 : List Nat) : T ((Empty) ⊕ (ref09_Left_X)) :=
  .leaf (.inr (.r0 a_0 a_1 (List.length a_3) l20))
noncomputable def ref09_Left_F (a_0 : Int) (a_1 : Int) (a_3 : List Nat) (at_4 : Int) (from_5 : Int) (h_7 : List Nat) (h_8 : Nat) : Option ref09_Left_X := toX (seqM ((ref09_Left_t33 a_0 a_1 a_3 h_8).run) fun l1 =>
  seqM (loopM (ref09_Left_m47 a_1 a_3 at_4 h_7 h_8) (from_5, l1)) fun l20 =>
  (ref09_Left_t48 a_0 a_1 a_3 l20).run)
theorem ref09_Left_ok (a_0 : Int) (a_1 : Int) (v_2 : Lv) (a_3 : List Nat) (at_4 : Int) (from_5 : Int) (v_6 : Lv) (h_7 : List Nat) (h_8 : Nat) {x : ref09_Left_X} (h : ref09_Left_F a_0 a_1 a_3 at_4 from_5 h_7 h_8 = some x) : Contract prog n_ref09_Left [] [.agg [.int .i64 a_0, .int .i64 a_1, .imm v_2 (.fl a_3) 1 1 0 (List.length a_3)], .int .i64 at_4, .int .i64 from_5, .agg [.imm v_6 (.fl h_7) 1 1 0 (List.length h_7), .flt false h_8]] (ref09_Left_o x) :=
  Sg.contract false ref09_Left_o (by kernel_rfl : prog.funcs[n_ref09_Left]? = some (FN n_ref09_Left)) (by kernel_rfl : (FN n_ref09_Left).body = some (BODY n_ref09_Left)) (Sg.cut 5 ref09_Left_hN (Sg.seg (C := C0) C0_ok L_ref09_Same_ok 60 (ref09_Left_l32.take 5) (entryOf (FN n_ref09_Left) [] [.agg [.int .i64 a_0, .int .i64 a_1, .imm v_2 (.fl a_3) 1 1 0 (List.length a_3)], .int .i64 at_4, .int .i64 from_5, .agg [.imm v_6 (.fl h_7) 1 1 0 (List.length h_7), .flt false h_8]]) (ref09_Left_t33 a_0 a_1 a_3 h_8) (ref09_Left_n1 a_0 a_1 v_2 a_3 at_4 from_5 v_6 h_7 h_8) ref09_Left_E [⟨[], [32, 64], [8]⟩, ⟨[], [0, 16, 32, 80, 64], [1, 4, 7, 8, 9, 10]⟩] (by kernel_rfl)) (fun l1 => by exact Sg.cut 1 ref09_Left_hN (Sg.pre ⟨[], [0, 1, 2, 3, 4], [1, 4, 7, 8, 9, 10]⟩ rfl (by kernel_rfl : NS.on ⟨[], [0, 1, 2, 3, 4], [1, 4, 7, 8, 9, 10]⟩ (ref09_Left_n1 a_0 a_1 v_2 a_3 at_4 from_5 v_6 h_7 h_8 l1) = (ref09_Left_n16 a_0 a_1 v_2 a_3 at_4 v_6 h_7 h_8) (from_5, l1)) (Sg.loopAt (I := (ref09_Left_n16 a_0 a_1 v_2 a_3 at_4 v_6 h_7 h_8)) (J := (ref09_Left_n30 a_0 a_1 a_3)) (id := 0) (by kernel_rfl : ((ref09_Left_l32.drop 5).take 1) = [.block 0 (.loop (inLoop ((((ref09_Left_l32.drop 5).take 1)).headD .skip)))]) ref09_Left_hN (ref09_Left_hI _) (fun s => by obtain ⟨k10, l11⟩ := s; exact ref09_Left_s47 a_0 a_1 v_2 a_3 at_4 v_6 h_7 h_8 k10 l11) (from_5, l1))) (fun l20 => by exact Sg.seg (C := C0) C0_ok L_ref09_Same_ok 60 ((ref09_Left_l32.drop 5).drop 1) (ref09_Left_n31 a_0 a_1 a_3 l20) (ref09_Left_t48 a_0 a_1 a_3 l20) (fun a : Empty => a.elim) ref09_Left_E [⟨[], [0, 2], [8]⟩] (by kernel_rfl))))
    (fun x => by cases x with | r0 i21 i22 a23 l24 => exact ⟨.inr rfl, [.agg [.int .i64 i21, .int .i64 i22, .sl 1 1 1 0 a23 a23]], [], by kernel_rfl, trivial, by kernel_rfl⟩) h

def ref09_Left_i0 : Option ref09_Left_X → Bool
  | some _ => true
  | none => false
def ref09_Left_p0_0 : Option ref09_Left_X → Int
  | some (.r0 x _ _ _) => x
  | _ => 0
def ref09_Left_p0_1 : Option ref09_Left_X → Int
  | some (.r0 _ x _ _) => x
  | _ => 0
def ref09_Left_p0_2 : Option ref09_Left_X → Nat
  | some (.r0 _ _ x _) => x
  | _ => 0
def ref09_Left_p0_3 : Option ref09_Left_X → List Nat
  | some (.r0 _ _ _ x) => x
  | _ => []
theorem ref09_Left_e0 {x : Option ref09_Left_X} (h : ref09_Left_i0 x = true) : x = some (.r0 (ref09_Left_p0_0 x) (ref09_Left_p0_1 x) (ref09_Left_p0_2 x) (ref09_Left_p0_3 x)) := by
  unfold ref09_Left_i0 at h
  split at h <;> first | rfl | (cases h; done) | (rename_i y; cases y; rfl)
noncomputable def e_ref09_Left : Entry := autoE n_ref09_Left (.cons (.agg (.cons (.int .i64) (.cons (.int .i64) (.cons .fl .nil)))) (.cons (.int .i64) (.cons (.int .i64) (.cons (.agg (.cons .fl (.cons (.flt false) .nil))) .nil)))) fun t => [⟨ref09_Left_o (.r0 (ref09_Left_p0_0 (ref09_Left_F t.1.1 t.1.2.1 t.1.2.2.1.2 t.2.1 t.2.2.1 t.2.2.2.1.1.2 t.2.2.2.1.2.1)) (ref09_Left_p0_1 (ref09_Left_F t.1.1 t.1.2.1 t.1.2.2.1.2 t.2.1 t.2.2.1 t.2.2.2.1.1.2 t.2.2.2.1.2.1)) (ref09_Left_p0_2 (ref09_Left_F t.1.1 t.1.2.1 t.1.2.2.1.2 t.2.1 t.2.2.1 t.2.2.2.1.1.2 t.2.2.2.1.2.1)) (ref09_Left_p0_3 (ref09_Left_F t.1.1 t.1.2.1 t.1.2.2.1.2 t.2.1 t.2.2.1 t.2.2.2.1.1.2 t.2.2.2.1.2.1))), [ref09_Left_i0 (ref09_Left_F t.1.1 t.1.2.1 t.1.2.2.1.2 t.2.1 t.2.2.1 t.2.2.2.1.1.2 t.2.2.2.1.2.1)]⟩]
theorem e_ref09_Left_ok : EntryOk prog e_ref09_Left := autoE_ok fun t => (altsCons (fun h => ref09_Left_ok t.1.1 t.1.2.1 t.1.2.2.1.1 t.1.2.2.1.2 t.2.1 t.2.2.1 t.2.2.2.1.1.1 t.2.2.2.1.1.2 t.2.2.2.1.2.1 (ref09_Left_e0 h)) altsNil)
noncomputable def L_ref09_Left : List Entry := e_ref09_Left :: L_ref09_Same
theorem L_ref09_Left_ok : SumsOk prog (sumsOf L_ref09_Left) := sumsOf_cons e_ref09_Left_ok L_ref09_Same_ok

inductive ref09_Right_X where
  | r0 (i21 : Int) (i22 : Int) (a23 : Nat) (l24 : List Nat)
def ref09_Right_E : ref09_Right_X → AE × ASt
  | .r0 i21 i22 a23 l24 => (.ret, ⟨slots 101 [(8, .ptr 0 1 0 0)], [(0, .vs [.int .i64 i21, .int .i64 i22, .sl 1 1 1 0 a23 a23]), (1, .fl l24)], 2⟩)
theorem ref09_Right_hN : NoN ref09_Right_E := by intro x; cases x <;> (intro h; cases h)
theorem ref09_Right_hI (id : Nat) : NoId id ref09_Right_E := by intro x; cases x <;> (intro h; cases h)
def ref09_Right_o : ref09_Right_X → Out
  | .r0 i21 i22 a23 l24 => ⟨.agg [.int .i64 i21, .int .i64 i22, .sl 0 1 1 0 a23 a23], [some (.fl l24)]⟩
noncomputable def ref09_Right_l32 : List Code := flat (BODY n_ref09_Right)
def ref09_Right_n1 (a_0 : Int) (a_1 : Int) (v_2 : Lv) (a_3 : List Nat) (at_4 : Int) (from_5 : Int) (v_6 : Lv) (h_7 : List Nat) (h_8 : Nat) (l1 : (List Nat)) : ASt := ⟨slots 101 [(1, .int .i64 at_4), (4, .ptr 0 1 0 0), (7, .ptr 1 1 0 0), (8, .ptr 2 1 0 0), (9, .ptr 3 1 0 0), (10, .int .i64 from_5)], [(0, .vs [.int .i64 a_0, .int .i64 a_1, .imm v_2 (.fl a_3) 1 1 0 (List.length a_3)]), (1, .vs [.imm v_6 (.fl h_7) 1 1 0 (List.length h_7), .flt false h_8]), (2, .vs [.int .i64 (0 : Int), .int .i64 (0 : Int), .nsl]), (3, .vs [.int .i64 a_0, .int .i64 a_1, .sl 4 1 1 0 (List.length a_3) (List.length a_3)]), (4, .fl l1)], 5⟩
def ref09_Right_t33 (a_0 : Int) (a_1 : Int) (a_3 : List Nat) (h_8 : Nat) : T (((List Nat)) ⊕ (ref09_Right_X)) :=
  .need (leN ((List.length a_3) * 8) 140737488355328) <| .need (leN (List.length a_3) 9223372036854775807) <| .need (leN (List.length a_3) (List.length a_3)) <| .ask (feq h_8 0)
    (.leaf (.inr (.r0 a_0 a_1 (List.length a_3) (List.take (List.length a_3) a_3))))
    (.leaf (.inl (List.take (List.length a_3) a_3)))
def ref09_Right_n16 (a_0 : Int) (a_1 : Int) (v_2 : Lv) (a_3 : List Nat) (at_4 : Int) (v_6 : Lv) (h_7 : List Nat) (h_8 : Nat) : Int × (List Nat) → ASt := fun (i10, l11) => ⟨slots 101 [(1, .int .i64 at_4), (4, .ptr 0 1 0 0), (7, .ptr 1 1 0 0), (8, .ptr 2 1 0 0), (9, .ptr 3 1 0 0), (10, .int .i64 i10)], [(0, .vs [.int .i64 a_0, .int .i64 a_1, .imm v_2 (.fl a_3) 1 1 0 (List.length a_3)]), (1, .vs [.imm v_6 (.fl h_7) 1 1 0 (List.length h_7), .flt false h_8]), (2, .vs [.int .i64 (0 : Int), .int .i64 (0 : Int), .nsl]), (3, .vs [.int .i64 a_0, .int .i64 a_1, .sl 4 1 1 0 (List.length a_3) (List.length a_3)]), (4, .fl l11)], 5⟩
def ref09_Right_n30 (a_0 : Int) (a_1 : Int) (a_3 : List Nat) (l20 : (List Nat)) : ASt := ⟨slots 101 [(8, .ptr 0 1 0 0), (9, .ptr 1 1 0 0)], [(0, .vs [.int .i64 (0 : Int), .int .i64 (0 : Int), .nsl]), (1, .vs [.int .i64 a_0, .int .i64 a_1, .sl 2 1 1 0 (List.length a_3) (List.length a_3)]), (2, .fl l20)], 3⟩
noncomputable def ref09_Right_l34 : List Code := flat (inLoop ((((ref09_Right_l32.drop 5).take 1)).headD .skip))
def ref09_Right_n17 (a_0 : Int) (a_1 : Int) (v_2 : Lv) (a_3 : List Nat) (at_4 : Int) (v_6 : Lv) (h_7 : List Nat) (h_8 : Nat) (i10 : Int) (l11 : List Nat) (_ : Unit) : ASt := ⟨slots 101 [(1, .int .i64 at_4), (4, .ptr 0 1 0 0), (7, .ptr 1 1 0 0), (8, .ptr 2 1 0 0), (9, .ptr 3 1 0 0), (10, .int .i64 i10)], [(0, .vs [.int .i64 a_0, .int .i64 a_1, .imm v_2 (.fl a_3) 1 1 0 (List.length a_3)]), (1, .vs [.imm v_6 (.fl h_7) 1 1 0 (List.length h_7), .flt false h_8]), (2, .vs [.int .i64 (0 : Int), .int .i64 (0 : Int), .nsl]), (3, .vs [.int .i64 a_0, .int .i64 a_1, .sl 4 1 1 0 (List.length a_3) (List.length a_3)]), (4, .fl l11)], 5⟩
def ref09_Right_t35 (a_0 : Int) (i10 : Int) (l11 : List Nat) : T ((Unit) ⊕ (((List Nat)) ⊕ (ref09_Right_X))) :=
  .ask (decide (i10 < a_0))
    (.leaf (.inl ()))
    (.leaf (.inr (.inl l11)))
def ref09_Right_n28 (a_0 : Int) (a_1 : Int) (v_2 : Lv) (a_3 : List Nat) (at_4 : Int) (v_6 : Lv) (h_7 : List Nat) (h_8 : Nat) (i10 : Int) (l19 : (List Nat)) : ASt := ⟨slots 101 [(1, .int .i64 at_4), (4, .ptr 0 1 0 0), (7, .ptr 1 1 0 0), (8, .ptr 2 1 0 0), (9, .ptr 3 1 0 0), (10, .int .i64 i10)], [(0, .vs [.int .i64 a_0, .int .i64 a_1, .imm v_2 (.fl a_3) 1 1 0 (List.length a_3)]), (1, .vs [.imm v_6 (.fl h_7) 1 1 0 (List.length h_7), .flt false h_8]), (2, .vs [.int .i64 (0 : Int), .int .i64 (0 : Int), .nsl]), (3, .vs [.int .i64 a_0, .int .i64 a_1, .sl 4 1 1 0 (List.length a_3) (List.length a_3)]), (4, .fl l19)], 5⟩
noncomputable def ref09_Right_l36 : List Code := flat (inBlock ((((ref09_Right_l34.drop 2).take 1)).headD .skip))
def ref09_Right_n18 (a_0 : Int) (a_1 : Int) (v_2 : Lv) (a_3 : List Nat) (at_4 : Int) (v_6 : Lv) (h_7 : List Nat) (h_8 : Nat) (i10 : Int) (l11 : List Nat) (_ : Unit) : ASt := ⟨slots 101 [(1, .int .i64 at_4), (4, .ptr 0 1 0 0), (7, .ptr 1 1 0 0), (8, .ptr 2 1 0 0), (9, .ptr 3 1 0 0), (10, .int .i64 i10), (11, .flt false 0), (12, .int .i64 (0 : Int))], [(0, .vs [.int .i64 a_0, .int .i64 a_1, .imm v_2 (.fl a_3) 1 1 0 (List.length a_3)]), (1, .vs [.imm v_6 (.fl h_7) 1 1 0 (List.length h_7), .flt false h_8]), (2, .vs [.int .i64 (0 : Int), .int .i64 (0 : Int), .nsl]), (3, .vs [.int .i64 a_0, .int .i64 a_1, .sl 4 1 1 0 (List.length a_3) (List.length a_3)]), (4, .fl l11)], 5⟩
def ref09_Right_t37 : T ((Unit) ⊕ (((List Nat)) ⊕ (((List Nat)) ⊕ (ref09_Right_X)))) :=
  .leaf (.inl ())
def ref09_Right_n20 (a_0 : Int) (a_1 : Int) (v_2 : Lv) (a_3 : List Nat) (at_4 : Int) (v_6 : Lv) (h_7 : List Nat) (h_8 : Nat) (i10 : Int) (l11 : List Nat) : Nat × Nat → ASt := fun (w12, k13) => ⟨slots 101 [(1, .int .i64 at_4), (4, .ptr 0 1 0 0), (7, .ptr 1 1 0 0), (8, .ptr 2 1 0 0), (9, .ptr 3 1 0 0), (10, .int .i64 i10), (11, .flt false w12), (12, .int .i64 ((k13 : Nat) : Int))], [(0, .vs [.int .i64 a_0, .int .i64 a_1, .imm v_2 (.fl a_3) 1 1 0 (List.length a_3)]), (1, .vs [.imm v_6 (.fl h_7) 1 1 0 (List.length h_7), .flt false h_8]), (2, .vs [.int .i64 (0 : Int), .int .i64 (0 : Int), .nsl]), (3, .vs [.int .i64 a_0, .int .i64 a_1, .sl 4 1 1 0 (List.length a_3) (List.length a_3)]), (4, .fl l11)], 5⟩
def ref09_Right_n21 (a_0 : Int) (a_1 : Int) (v_2 : Lv) (a_3 : List Nat) (at_4 : Int) (v_6 : Lv) (h_7 : List Nat) (h_8 : Nat) (i10 : Int) (l11 : List Nat) (w14 : Nat) : ASt := ⟨slots 101 [(1, .int .i64 at_4), (4, .ptr 0 1 0 0), (7, .ptr 1 1 0 0), (8, .ptr 2 1 0 0), (9, .ptr 3 1 0 0), (10, .int .i64 i10), (11, .flt false w14)], [(0, .vs [.int .i64 a_0, .int .i64 a_1, .imm v_2 (.fl a_3) 1 1 0 (List.length a_3)]), (1, .vs [.imm v_6 (.fl h_7) 1 1 0 (List.length h_7), .flt false h_8]), (2, .vs [.int .i64 (0 : Int), .int .i64 (0 : Int), .nsl]), (3, .vs [.int .i64 a_0, .int .i64 a_1, .sl 4 1 1 0 (List.length a_3) (List.length a_3)]), (4, .fl l11)], 5⟩
noncomputable def ref09_Right_l38 : List Code := flat (inLoop ((((ref09_Right_l36.drop 2).take 1)).headD .skip))
def ref09_Right_t39 (a_1 : Int) (a_3 : List Nat) (at_4 : Int) (h_7 : List Nat) (i10 : Int) (w12 : Nat) (k13 : Nat) : T ((Nat × Nat) ⊕ ((Nat) ⊕ (((List Nat)) ⊕ (((List Nat)) ⊕ (ref09_Right_X))))) :=
  .ask (decide (((k13 : Nat) : Int) < (((List.length h_7) : Nat) : Int)))
    (.need (inK .i64 (i10 * a_1)) <| .need (inK .i64 ((i10 * a_1) + at_4)) <| .need (inK .i64 (((i10 * a_1) + at_4) + ((k13 : Nat) : Int))) <| .need (inB (((i10 * a_1) + at_4) + ((k13 : Nat) : Int)) (List.length a_3)) <| .need (ltB (Int.toNat (((i10 * a_1) + at_4) + ((k13 : Nat) : Int))) (List.length a_3)) <| .need (inB ((k13 : Nat) : Int) (List.length h_7)) <| .need (ltB k13 (List.length h_7)) <| .need (inK .i64 (((k13 + 1) : Nat) : Int)) <| .leaf (.inl ((fadd w12 (fmul (List.getD a_3 (Int.toNat (((i10 * a_1) + at_4) + ((k13 : Nat) : Int))) 0) (List.getD h_7 k13 0))), (k13 + 1))))
    (.leaf (.inr (.inl w12)))
noncomputable def ref09_Right_m40 (a_1 : Int) (a_3 : List Nat) (at_4 : Int) (h_7 : List Nat) (i10 : Int) : Nat × Nat → Option ((Nat × Nat) ⊕ ((Nat) ⊕ (((List Nat)) ⊕ (((List Nat)) ⊕ (ref09_Right_X))))) := fun (w12, k13) =>
  (ref09_Right_t39 a_1 a_3 at_4 h_7 i10 w12 k13).run
theorem ref09_Right_s40 (a_0 : Int) (a_1 : Int) (v_2 : Lv) (a_3 : List Nat) (at_4 : Int) (v_6 : Lv) (h_7 : List Nat) (h_8 : Nat) (i10 : Int) (l11 : List Nat) (w12 : Nat) (k13 : Nat) : Sg prog [] ref09_Right_l38 (ref09_Right_n20 a_0 a_1 v_2 a_3 at_4 v_6 h_7 h_8 i10 l11 (w12, k13)) (ref09_Right_m40 a_1 a_3 at_4 h_7 i10 (w12, k13)) (ref09_Right_n20 a_0 a_1 v_2 a_3 at_4 v_6 h_7 h_8 i10 l11) (exitE 2 (ref09_Right_n21 a_0 a_1 v_2 a_3 at_4 v_6 h_7 h_8 i10 l11) (exitE 1 (ref09_Right_n28 a_0 a_1 v_2 a_3 at_4 v_6 h_7 h_8 i10) (exitE 0 (ref09_Right_n30 a_0 a_1 a_3) ref09_Right_E))) :=
  Sg.seg (C := C0) C0_ok L_ref09_Left_ok 60 ref09_Right_l38 (ref09_Right_n20 a_0 a_1 v_2 a_3 at_4 v_6 h_7 h_8 i10 l11 (w12, k13)) (ref09_Right_t39 a_1 a_3 at_4 h_7 i10 w12 k13) (ref09_Right_n20 a_0 a_1 v_2 a_3 at_4 v_6 h_7 h_8 i10 l11) (exitE 2 (ref09_Right_n21 a_0 a_1 v_2 a_3 at_4 v_6 h_7 h_8 i10 l11) (exitE 1 (ref09_Right_n28 a_0 a_1 v_2 a_3 at_4 v_6 h_7 h_8 i10) (exitE 0 (ref09_Right_n30 a_0 a_1 a_3) ref09_Right_E))) [⟨[], [0, 1, 2, 3, 4], [1, 4, 7, 8, 9, 10, 11, 12]⟩, ⟨[], [0, 1, 2, 3, 4], [1, 4, 7, 8, 9, 10, 11]⟩] (by kernel_rfl)
def ref09_Right_n22 (a_0 : Int) (a_1 : Int) (v_2 : Lv) (a_3 : List Nat) (at_4 : Int) (v_6 : Lv) (h_7 : List Nat) (h_8 : Nat) (i10 : Int) (l11 : List Nat) : Nat → ASt := ref09_Right_n21 a_0 a_1 v_2 a_3 at_4 v_6 h_7 h_8 i10 l11
def ref09_Right_n23 (a_0 : Int) (a_1 : Int) (v_2 : Lv) (a_3 : List Nat) (at_4 : Int) (v_6 : Lv) (h_7 : List Nat) (h_8 : Nat) (i10 : Int) (l11 : List Nat) (w15 : Nat) : ASt := ⟨slots 101 [(1, .int .i64 at_4), (4, .ptr 0 1 0 0), (7, .ptr 1 1 0 0), (8, .ptr 2 1 0 0), (9, .ptr 3 1 0 0), (10, .int .i64 i10), (11, .flt false w15), (14, .int .i64 (0 : Int))], [(0, .vs [.int .i64 a_0, .int .i64 a_1, .imm v_2 (.fl a_3) 1 1 0 (List.length a_3)]), (1, .vs [.imm v_6 (.fl h_7) 1 1 0 (List.length h_7), .flt false h_8]), (2, .vs [.int .i64 (0 : Int), .int .i64 (0 : Int), .nsl]), (3, .vs [.int .i64 a_0, .int .i64 a_1, .sl 4 1 1 0 (List.length a_3) (List.length a_3)]), (4, .fl l11)], 5⟩
def ref09_Right_t41 (h_8 : Nat) (w14 : Nat) : T ((Nat) ⊕ (((List Nat)) ⊕ (((List Nat)) ⊕ (ref09_Right_X)))) :=
  .leaf (.inl (fmul h_8 w14))
def ref09_Right_n25 (a_0 : Int) (a_1 : Int) (v_2 : Lv) (a_3 : List Nat) (at_4 : Int) (v_6 : Lv) (h_7 : List Nat) (h_8 : Nat) (i10 : Int) (w15 : Nat) : Nat × (List Nat) → ASt := fun (k16, l17) => ⟨slots 101 [(1, .int .i64 at_4), (4, .ptr 0 1 0 0), (7, .ptr 1 1 0 0), (8, .ptr 2 1 0 0), (9, .ptr 3 1 0 0), (10, .int .i64 i10), (11, .flt false w15), (14, .int .i64 ((k16 : Nat) : Int))], [(0, .vs [.int .i64 a_0, .int .i64 a_1, .imm v_2 (.fl a_3) 1 1 0 (List.length a_3)]), (1, .vs [.imm v_6 (.fl h_7) 1 1 0 (List.length h_7), .flt false h_8]), (2, .vs [.int .i64 (0 : Int), .int .i64 (0 : Int), .nsl]), (3, .vs [.int .i64 a_0, .int .i64 a_1, .sl 4 1 1 0 (List.length a_3) (List.length a_3)]), (4, .fl l17)], 5⟩
def ref09_Right_n26 (a_0 : Int) (a_1 : Int) (v_2 : Lv) (a_3 : List Nat) (at_4 : Int) (v_6 : Lv) (h_7 : List Nat) (h_8 : Nat) (i10 : Int) (l18 : (List Nat)) : ASt := ⟨slots 101 [(1, .int .i64 at_4), (4, .ptr 0 1 0 0), (7, .ptr 1 1 0 0), (8, .ptr 2 1 0 0), (9, .ptr 3 1 0 0), (10, .int .i64 i10)], [(0, .vs [.int .i64 a_0, .int .i64 a_1, .imm v_2 (.fl a_3) 1 1 0 (List.length a_3)]), (1, .vs [.imm v_6 (.fl h_7) 1 1 0 (List.length h_7), .flt false h_8]), (2, .vs [.int .i64 (0 : Int), .int .i64 (0 : Int), .nsl]), (3, .vs [.int .i64 a_0, .int .i64 a_1, .sl 4 1 1 0 (List.length a_3) (List.length a_3)]), (4, .fl l18)], 5⟩
noncomputable def ref09_Right_l42 : List Code := flat (inLoop ((((((ref09_Right_l36.drop 2).drop 1).drop 2).take 1)).headD .skip))
def ref09_Right_t43 (a_1 : Int) (a_3 : List Nat) (at_4 : Int) (h_7 : List Nat) (i10 : Int) (w15 : Nat) (k16 : Nat) (l17 : List Nat) : T ((Nat × (List Nat)) ⊕ (((List Nat)) ⊕ (((List Nat)) ⊕ (((List Nat)) ⊕ (ref09_Right_X))))) :=
  .ask (decide (((k16 : Nat) : Int) < (((List.length h_7) : Nat) : Int)))
    (.need (inB ((k16 : Nat) : Int) (List.length h_7)) <| .need (ltB k16 (List.length h_7)) <| .need (inK .i64 (i10 * a_1)) <| .need (inK .i64 ((i10 * a_1) + at_4)) <| .need (inK .i64 (((i10 * a_1) + at_4) + ((k16 : Nat) : Int))) <| .need (inK .i64 (i10 * a_1)) <| .need (inK .i64 ((i10 * a_1) + at_4)) <| .need (inK .i64 (((i10 * a_1) + at_4) + ((k16 : Nat) : Int))) <| .need (inB (((i10 * a_1) + at_4) + ((k16 : Nat) : Int)) (List.length a_3)) <| .need (ltB (Int.toNat (((i10 * a_1) + at_4) + ((k16 : Nat) : Int))) (List.length a_3)) <| .need (inB (((i10 * a_1) + at_4) + ((k16 : Nat) : Int)) (List.length a_3)) <| .need (ltB (Int.toNat (((i10 * a_1) + at_4) + ((k16 : Nat) : Int))) (List.length l17)) <| .need (inK .i64 (((k16 + 1) : Nat) : Int)) <| .leaf (.inl ((k16 + 1), (List.set l17 (Int.toNat (((i10 * a_1) + at_4) + ((k16 : Nat) : Int))) (fsub (List.getD a_3 (Int.toNat (((i10 * a_1) + at_4) + ((k16 : Nat) : Int))) 0) (fmul w15 (List.getD h_7 k16 0)))))))
    (.leaf (.inr (.inl l17)))
noncomputable def ref09_Right_m44 (a_1 : Int) (a_3 : List Nat) (at_4 : Int) (h_7 : List Nat) (i10 : Int) (w15 : Nat) : Nat × (List Nat) → Option ((Nat × (List Nat)) ⊕ (((List Nat)) ⊕ (((List Nat)) ⊕ (((List Nat)) ⊕ (ref09_Right_X))))) := fun (k16, l17) =>
  (ref09_Right_t43 a_1 a_3 at_4 h_7 i10 w15 k16 l17).run
theorem ref09_Right_s44 (a_0 : Int) (a_1 : Int) (v_2 : Lv) (a_3 : List Nat) (at_4 : Int) (v_6 : Lv) (h_7 : List Nat) (h_8 : Nat) (i10 : Int) (w15 : Nat) (k16 : Nat) (l17 : List Nat) : Sg prog [] ref09_Right_l42 (ref09_Right_n25 a_0 a_1 v_2 a_3 at_4 v_6 h_7 h_8 i10 w15 (k16, l17)) (ref09_Right_m44 a_1 a_3 at_4 h_7 i10 w15 (k16, l17)) (ref09_Right_n25 a_0 a_1 v_2 a_3 at_4 v_6 h_7 h_8 i10 w15) (exitE 4 (ref09_Right_n26 a_0 a_1 v_2 a_3 at_4 v_6 h_7 h_8 i10) (exitE 1 (ref09_Right_n28 a_0 a_1 v_2 a_3 at_4 v_6 h_7 h_8 i10) (exitE 0 (ref09_Right_n30 a_0 a_1 a_3) ref09_Right_E))) :=
  Sg.seg (C := C0) C0_ok L_ref09_Left_ok 60 ref09_Right_l42 (ref09_Right_n25 a_0 a_1 v_2 a_3 at_4 v_6 h_7 h_8 i10 w15 (k16, l17)) (ref09_Right_t43 a_1 a_3 at_4 h_7 i10 w15 k16 l17) (ref09_Right_n25 a_0 a_1 v_2 a_3 at_4 v_6 h_7 h_8 i10 w15) (exitE 4 (ref09_Right_n26 a_0 a_1 v_2 a_3 at_4 v_6 h_7 h_8 i10) (exitE 1 (ref09_Right_n28 a_0 a_1 v_2 a_3 at_4 v_6 h_7 h_8 i10) (exitE 0 (ref09_Right_n30 a_0 a_1 a_3) ref09_Right_E))) [⟨[], [0, 1, 2, 3, 4], [1, 4, 7, 8, 9, 10, 11, 14]⟩, ⟨[], [0, 1, 2, 3, 4], [1, 4, 7, 8, 9, 10]⟩] (by kernel_rfl)
def ref09_Right_n27 (a_0 : Int) (a_1 : Int) (v_2 : Lv) (a_3 : List Nat) (at_4 : Int) (v_6 : Lv) (h_7 : List Nat) (h_8 : Nat) (i10 : Int) : (List Nat) → ASt := ref09_Right_n26 a_0 a_1 v_2 a_3 at_4 v_6 h_7 h_8 i10
def ref09_Right_t45 (l18 : List Nat) : T (((List Nat)) ⊕ (((List Nat)) ⊕ (((List Nat)) ⊕ (ref09_Right_X)))) :=
  .leaf (.inl l18)
def ref09_Right_n29 (a_0 : Int) (a_1 : Int) (v_2 : Lv) (a_3 : List Nat) (at_4 : Int) (v_6 : Lv) (h_7 : List Nat) (h_8 : Nat) (i10 : Int) : (List Nat) → ASt := ref09_Right_n28 a_0 a_1 v_2 a_3 at_4 v_6 h_7 h_8 i10
def ref09_Right_t46 (i10 : Int) (l19 : List Nat) : T ((Int × (List Nat)) ⊕ (((List Nat)) ⊕ (ref09_Right_X))) :=
  .need (inK .i64 (i10 + (1 : Int))) <| .leaf (.inl ((i10 + (1 : Int)), l19))
noncomputable def ref09_Right_m47 (a_0 : Int) (a_1 : Int) (a_3 : List Nat) (at_4 : Int) (h_7 : List Nat) (h_8 : Nat) : Int × (List Nat) → Option ((Int × (List Nat)) ⊕ (((List Nat)) ⊕ (ref09_Right_X))) := fun (i10, l11) =>
  seqM ((ref09_Right_t35 a_0 i10 l11).run) fun _ =>
  seqM (joinM (seqM ((ref09_Right_t37).run) fun _ =>
  seqM (loopM (ref09_Right_m40 a_1 a_3 at_4 h_7 i10) (0, 0)) fun w14 =>
  seqM ((ref09_Right_t41 h_8 w14).run) fun w15 =>
  seqM (loopM (ref09_Right_m44 a_1 a_3 at_4 h_7 i10 w15) (0, l11)) fun l18 =>
  (ref09_Right_t45 l18).run)) fun l19 =>
  (ref09_Right_t46 i10 l19).run
theorem ref09_Right_s47 (a_0 : Int) (a_1 : Int) (v_2 : Lv) (a_3 : List Nat) (at_4 : Int) (v_6 : Lv) (h_7 : List Nat) (h_8 : Nat) (i10 : Int) (l11 : List Nat) : Sg prog [] ref09_Right_l34 (ref09_Right_n16 a_0 a_1 v_2 a_3 at_4 v_6 h_7 h_8 (i10, l11)) (ref09_Right_m47 a_0 a_1 a_3 at_4 h_7 h_8 (i10, l11)) (ref09_Right_n16 a_0 a_1 v_2 a_3 at_4 v_6 h_7 h_8) (exitE 0 (ref09_Right_n30 a_0 a_1 a_3) ref09_Right_E) :=
  Sg.cut 2 (noN_exit ref09_Right_hN) (Sg.seg (C := C0) C0_ok L_ref09_Left_ok 60 (ref09_Right_l34.take 2) (ref09_Right_n16 a_0 a_1 v_2 a_3 at_4 v_6 h_7 h_8 (i10, l11)) (ref09_Right_t35 a_0 i10 l11) (ref09_Right_n17 a_0 a_1 v_2 a_3 at_4 v_6 h_7 h_8 i10 l11) (exitE 0 (ref09_Right_n30 a_0 a_1 a_3) ref09_Right_E) [⟨[], [0, 1, 2, 3, 4], [1, 4, 7, 8, 9, 10]⟩, ⟨[], [2, 3, 4], [8, 9]⟩] (by kernel_rfl)) (fun a => by cases a; exact Sg.cut 1 (noN_exit ref09_Right_hN) (Sg.blockAt (id := 1) (K := (ref09_Right_n28 a_0 a_1 v_2 a_3 at_4 v_6 h_7 h_8 i10)) (by kernel_rfl : ((ref09_Right_l34.drop 2).take 1) = [.block 1 (inBlock ((((ref09_Right_l34.drop 2).take 1)).headD .skip))]) (noN_exit ref09_Right_hN) (noId_exit (by decide) (ref09_Right_hI _)) (Sg.cut 2 (noN_exit (noN_exit ref09_Right_hN)) (Sg.seg (C := C0) C0_ok L_ref09_Left_ok 60 (ref09_Right_l36.take 2) (ref09_Right_n17 a_0 a_1 v_2 a_3 at_4 v_6 h_7 h_8 i10 l11 ()) (ref09_Right_t37) (ref09_Right_n18 a_0 a_1 v_2 a_3 at_4 v_6 h_7 h_8 i10 l11) (exitE 1 (ref09_Right_n28 a_0 a_1 v_2 a_3 at_4 v_6 h_7 h_8 i10) (exitE 0 (ref09_Right_n30 a_0 a_1 a_3) ref09_Right_E)) [⟨[], [0, 1, 2, 3, 4], [1, 4, 7, 8, 9, 10, 11, 12]⟩] (by kernel_rfl)) (fun a => by cases a; exact Sg.cut 1 (noN_exit (noN_exit ref09_Right_hN)) (Sg.pre ⟨[], [0, 1, 2, 3, 4], [1, 4, 7, 8, 9, 10, 11, 12]⟩ rfl (by kernel_rfl : NS.on ⟨[], [0, 1, 2, 3, 4], [1, 4, 7, 8, 9, 10, 11, 12]⟩ (ref09_Right_n18 a_0 a_1 v_2 a_3 at_4 v_6 h_7 h_8 i10 l11 ()) = (ref09_Right_n20 a_0 a_1 v_2 a_3 at_4 v_6 h_7 h_8 i10 l11) (0, 0)) (Sg.loopAt (I := (ref09_Right_n20 a_0 a_1 v_2 a_3 at_4 v_6 h_7 h_8 i10 l11)) (J := (ref09_Right_n21 a_0 a_1 v_2 a_3 at_4 v_6 h_7 h_8 i10 l11)) (id := 2) (by kernel_rfl : ((ref09_Right_l36.drop 2).take 1) = [.block 2 (.loop (inLoop ((((ref09_Right_l36.drop 2).take 1)).headD .skip)))]) (noN_exit (noN_exit ref09_Right_hN)) (noId_exit (by decide) (noId_exit (by decide) (ref09_Right_hI _))) (fun s => by obtain ⟨w12, k13⟩ := s; exact ref09_Right_s40 a_0 a_1 v_2 a_3 at_4 v_6 h_7 h_8 i10 l11 w12 k13) (0, 0))) (fun w14 => by exact Sg.cut 2 (noN_exit (noN_exit ref09_Right_hN)) (Sg.seg (C := C0) C0_ok L_ref09_Left_ok 60 (((ref09_Right_l36.drop 2).drop 1).take 2) (ref09_Right_n22 a_0 a_1 v_2 a_3 at_4 v_6 h_7 h_8 i10 l11 w14) (ref09_Right_t41 h_8 w14) (ref09_Right_n23 a_0 a_1 v_2 a_3 at_4 v_6 h_7 h_8 i10 l11) (exitE 1 (ref09_Right_n28 a_0 a_1 v_2 a_3 at_4 v_6 h_7 h_8 i10) (exitE 0 (ref09_Right_n30 a_0 a_1 a_3) ref09_Right_E)) [⟨[], [0, 1, 2, 3, 4], [1, 4, 7, 8, 9, 10, 11, 14]⟩] (by kernel_rfl)) (fun w15 => by exact Sg.cut 1 (noN_exit (noN_exit ref09_Right_hN)) (Sg.pre ⟨[], [0, 1, 2, 3, 4], [1, 4, 7, 8, 9, 10, 11, 14]⟩ rfl (by kernel_rfl : NS.on ⟨[], [0, 1, 2, 3, 4], [1, 4, 7, 8, 9, 10, 11, 14]⟩ (ref09_Right_n23 a_0 a_1 v_2 a_3 at_4 v_6 h_7 h_8 i10 l11 w15) = (ref09_Right_n25 a_0 a_1 v_2 a_3 at_4 v_6 h_7 h_8 i10 w15) (0, l11)) (Sg.loopAt (I := (ref09_Right_n25 a_0 a_1 v_2 a_3 at_4 v_6 h_7 h_8 i10 w15)) (J := (ref09_Right_n26 a_0 a_1 v_2 a_3 at_4 v_6 h_7 h_8 i10)) (id := 4) (by kernel_rfl : ((((ref09_Right_l36.drop 2).drop 1).drop 2).take 1) = [.block 4 (.loop (inLoop ((((((ref09_Right_l36.drop 2).drop 1).drop 2).take 1)).headD .skip)))]) (noN_exit (noN_exit ref09_Right_hN)) (noId_exit (by decide) (noId_exit (by decide) (ref09_Right_hI _))) (fun s => by obtain ⟨k16, l17⟩ := s; exact ref09_Right_s44 a_0 a_1 v_2 a_3 at_4 v_6 h_7 h_8 i10 w15 k16 l17) (0, l11))) (fun l18 => by exact Sg.seg (C := C0) C0_ok L_ref09_Left_ok 60 ((((ref09_Right_l36.drop 2).drop 1).drop 2).drop 1) (ref09_Right_n27 a_0 a_1 v_2 a_3 at_4 v_6 h_7 h_8 i10 l18) (ref09_Right_t45 l18) (ref09_Right_n28 a_0 a_1 v_2 a_3 at_4 v_6 h_7 h_8 i10) (exitE 1 (ref09_Right_n28 a_0 a_1 v_2 a_3 at_4 v_6 h_7 h_8 i10) (exitE 0 (ref09_Right_n30 a_0 a_1 a_3) ref09_Right_E)) [⟨[], [0, 1, 2, 3, 4], [1, 4, 7, 8, 9, 10]⟩] (by kernel_rfl))))))) (fun l19 => by exact Sg.seg (C := C0) C0_ok L_ref09_Left_ok 60 ((ref09_Right_l34.drop 2).drop 1) (ref09_Right_n29 a_0 a_1 v_2 a_3 at_4 v_6 h_7 h_8 i10 l19) (ref09_Right_t46 i10 l19) (ref09_Right_n16 a_0 a_1 v_2 a_3 at_4 v_6 h_7 h_8) (exitE 0 (ref09_Right_n30 a_0 a_1 a_3) ref09_Right_E) [⟨[], [0, 1, 2, 3, 4], [1, 4, 7, 8, 9, 10]⟩] (by kernel_rfl)))
def ref09_Right_n31 (a_0 : Int) (a_1 : Int) (a_3 : List Nat) : (List Nat) → ASt := ref09_Right_n30 a_0 a_1 a_3
def ref09_Right_t48 (a_0 : Int) (a_1 : Int) (a_3 : List Nat) (l20 : List Nat) : T ((Empty) ⊕ (ref09_Right_X)) :=
  .leaf (.inr (.r0 a_0 a_1 (List.length a_3) l20))
noncomputable def ref09_Right_F (a_0 : Int) (a_1 : Int) (a_3 : List Nat) (at_4 : Int) (from_5 : Int) (h_7 : List Nat) (h_8 : Nat) : Option ref09_Right_X := toX (seqM ((ref09_Right_t33 a_0 a_1 a_3 h_8).run) fun l1 =>
  seqM (loopM (ref09_Right_m47 a_0 a_1 a_3 at_4 h_7 h_8) (from_5, l1)) fun l20 =>
  (ref09_Right_t48 a_0 a_1 a_3 l20).run)
theorem ref09_Right_ok (a_0 : Int) (a_1 : Int) (v_2 : Lv) (a_3 : List Nat) (at_4 : Int) (from_5 : Int) (v_6 : Lv) (h_7 : List Nat) (h_8 : Nat) {x : ref09_Right_X} (h : ref09_Right_F a_0 a_1 a_3 at_4 from_5 h_7 h_8 = some x) : Contract prog n_ref09_Right [] [.agg [.int .i64 a_0, .int .i64 a_1, .imm v_2 (.fl a_3) 1 1 0 (List.length a_3)], .int .i64 at_4, .int .i64 from_5, .agg [.imm v_6 (.fl h_7) 1 1 0 (List.length h_7), .flt false h_8]] (ref09_Right_o x) :=
  Sg.contract false ref09_Right_o (by kernel_rfl : prog.funcs[n_ref09_Right]? = some (FN n_ref09_Right)) (by kernel_rfl : (FN n_ref09_Right).body = some (BODY n_ref09_Right)) (Sg.cut 5 ref09_Right_hN (Sg.seg (C := C0) C0_ok L_ref09_Left_ok 60 (ref09_Right_l32.take 5) (entryOf (FN n_ref09_Right) [] [.agg [.int .i64 a_0, .int .i64 a_1, .imm v_2 (.fl a_3) 1 1 0 (List.length a_3)], .int .i64 at_4, .int .i64 from_5, .agg [.imm v_6 (.fl h_7) 1 1 0 (List.length h_7), .flt false h_8]]) (ref09_Right_t33 a_0 a_1 a_3 h_8) (ref09_Right_n1 a_0 a_1 v_2 a_3 at_4 from_5 v_6 h_7 h_8) ref09_Right_E [⟨[], [32, 64], [8]⟩, ⟨[], [0, 16, 32, 80, 64], [1, 4, 7, 8, 9, 10]⟩] (by kernel_rfl)) (fun l1 => by exact Sg.cut 1 ref09_Right_hN (Sg.pre ⟨[], [0, 1, 2, 3, 4], [1, 4, 7, 8, 9, 10]⟩ rfl (by kernel_rfl : NS.on ⟨[], [0, 1, 2, 3, 4], [1, 4, 7, 8, 9, 10]⟩ (ref09_Right_n1 a_0 a_1 v_2 a_3 at_4 from_5 v_6 h_7 h_8 l1) = (ref09_Right_n16 a_0 a_1 v_2 a_3 at_4 v_6 h_7 h_8) (from_5, l1)) (Sg.loopAt (I := (ref09_Right_n16 a_0 a_1 v_2 a_3 at_4 v_6 h_7 h_8)) (J := (ref09_Right_n30 a_0 a_1 a_3)) (id := 0) (by kernel_rfl : ((ref09_Right_l32.drop 5).take 1) = [.block 0 (.loop (inLoop ((((ref09_Right_l32.drop 5).take 1)).headD .skip)))]) ref09_Right_hN (ref09_Right_hI _) (fun s => by obtain ⟨i10, l11⟩ := s; exact ref09_Right_s47 a_0 a_1 v_2 a_3 at_4 v_6 h_7 h_8 i10 l11) (from_5, l1))) (fun l20 => by exact Sg.seg (C := C0) C0_ok L_ref09_Left_ok 60 ((ref09_Right_l32.drop 5).drop 1) (ref09_Right_n31 a_0 a_1 a_3 l20) (ref09_Right_t48 a_0 a_1 a_3 l20) (fun a : Empty => a.elim) ref09_Right_E [⟨[], [0, 2], [8]⟩] (by kernel_rfl))))
    (fun x => by cases x with | r0 i21 i22 a23 l24 => exact ⟨.inr rfl, [.agg [.int .i64 i21, .int .i64 i22, .sl 1 1 1 0 a23 a23]], [], by kernel_rfl, trivial, by kernel_rfl⟩) h

def ref09_Right_i0 : Option ref09_Right_X → Bool
  | some _ => true
  | none => false
def ref09_Right_p0_0 : Option ref09_Right_X → Int
  | some (.r0 x _ _ _) => x
  | _ => 0
def ref09_Right_p0_1 : Option ref09_Right_X → Int
  | some (.r0 _ x _ _) => x
  | _ => 0
def ref09_Right_p0_2 : Option ref09_Right_X → Nat
  | some (.r0 _ _ x _) => x
  | _ => 0
def ref09_Right_p0_3 : Option ref09_Right_X → List Nat
  | some (.r0 _ _ _ x) => x
  | _ => []
theorem ref09_Right_e0 {x : Option ref09_Right_X} (h : ref09_Right_i0 x = true) : x = some (.r0 (ref09_Right_p0_0 x) (ref09_Right_p0_1 x) (ref09_Right_p0_2 x) (ref09_Right_p0_3 x)) := by
  unfold ref09_Right_i0 at h
  split at h <;> first | rfl | (cases h; done) | (rename_i y; cases y; rfl)
noncomputable def e_ref09_Right : Entry := autoE n_ref09_Right (.cons (.agg (.cons (.int .i64) (.cons (.int .i64) (.cons .fl .nil)))) (.cons (.int .i64) (.cons (.int .i64) (.cons (.agg (.cons .fl (.cons (.flt false) .nil))) .nil)))) fun t => [⟨ref09_Right_o (.r0 (ref09_Right_p0_0 (ref09_Right_F t.1.1 t.1.2.1 t.1.2.2.1.2 t.2.1 t.2.2.1 t.2.2.2.1.1.2 t.2.2.2.1.2.1)) (ref09_Right_p0_1 (ref09_Right_F t.1.1 t.1.2.1 t.1.2.2.1.2 t.2.1 t.2.2.1 t.2.2.2.1.1.2 t.2.2.2.1.2.1)) (ref09_Right_p0_2 (ref09_Right_F t.1.1 t.1.2.1 t.1.2.2.1.2 t.2.1 t.2.2.1 t.2.2.2.1.1.2 t.2.2.2.1.2.1)) (ref09_Right_p0_3 (ref09_Right_F t.1.1 t.1.2.1 t.1.2.2.1.2 t.2.1 t.2.2.1 t.2.2.2.1.1.2 t.2.2.2.1.2.1))), [ref09_Right_i0 (ref09_Right_F t.1.1 t.1.2.1 t.1.2.2.1.2 t.2.1 t.2.2.1 t.2.2.2.1.1.2 t.2.2.2.1.2.1)]⟩]
theorem e_ref09_Right_ok : EntryOk prog e_ref09_Right := autoE_ok fun t => (altsCons (fun h => ref09_Right_ok t.1.1 t.1.2.1 t.1.2.2.1.1 t.1.2.2.1.2 t.2.1 t.2.2.1 t.2.2.2.1.1.1 t.2.2.2.1.1.2 t.2.2.2.1.2.1 (ref09_Right_e0 h)) altsNil)
noncomputable def L_ref09_Right : List Entry := e_ref09_Right :: L_ref09_Left
theorem L_ref09_Right_ok : SumsOk prog (sumsOf L_ref09_Right) := sumsOf_cons e_ref09_Right_ok L_ref09_Left_ok

end
end Go.Plb.Seat
