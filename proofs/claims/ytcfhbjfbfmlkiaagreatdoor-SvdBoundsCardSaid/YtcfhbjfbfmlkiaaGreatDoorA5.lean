/-
  Part 5 of what the claim leans on: an evaluator of the model, proved sound; the contracts of the functions.
-/
import Derived.Test.YtcfhbjfbfmlkiaaGreatDoorA4
namespace Go.Plb.Seat
open Go Go.Plb Go.Proofs Go.RowKit Go.Shelf
open Go.ChangeMaps (setBlock)
set_option maxRecDepth 100000
set_option linter.unusedSimpArgs false
set_option linter.unusedVariables false
attribute [local go_sem] Oper.semAt_some
theorem bx{W:World}{k:Nat}{o:Obj}(h:W.heap[k]? = some o) :k<W.heap.size:=(Array.getElem?_eq_some_iff.1 h).1
structure SA (w:World) (V O:Array Value) (sb fb n cap b1 bm bs:Nat) (ks:Nat→Prop) (W:World):Prop where
  v:W.heap[w.heap.size]? = some (.cells V 146 (0,0))
  o:W.heap[b1]? = some (.cells O 146 (0,0))
  m:∃ es cl,W.heap[bm]? = some (.map es cl)∧∀ e∈es.toList,∃ q,ks q∧e.key=pZ q
  s:W.heap[bs]? = some (.cells #[.map (some bm)] 338 (0,0))
  st:P7 sb fb n cap W
  low:Below w.heap.size w W
structure LA (A:Array Value) (ab D L:Nat) (obj:Obj) (W:World):Prop where
  al:W.heap[ab]? = some (.cells A 146 (0,0))
  df:W.heap[D]? = some (.deferred (some []))
  lo:W.heap[L]? = some obj
variable {w : World} {V O A : Array Value} {sb fb n cap b1 bm bs ab D L : Nat} {ks : Nat → Prop} {obj : Obj} {W W' : World}
theorem SA.below(h:SA w V O sb fb n cap b1 bm bs ks W)(hb:Below W.heap.size W W') :SA w V O sb fb n cap b1 bm bs ks W':=by
  obtain ⟨es,cl,m1,m2⟩:=h.m
  exact ⟨(hb.block _ (bx h.v)).trans h.v,(hb.block _ (bx h.o)).trans h.o,⟨es,cl,(hb.block _ (bx m1)).trans m1,m2⟩,(hb.block _ (bx h.s)).trans h.s,h.st.below hb,h.low.trans (hb.mono h.low.size)⟩
theorem LA.below(h:LA A ab D L obj W)(hb:Below W.heap.size W W') :LA A ab D L obj W' :=
  ⟨(hb.block _ (bx h.al)).trans h.al,(hb.block _ (bx h.df)).trans h.df,(hb.block _ (bx h.lo)).trans h.lo⟩
theorem P7.other(h:P7 sb fb n cap W)(hw:∀ k,k≠L→W'.heap[k]? = W.heap[k]?)(h1:sb≠L)(h2:fb≠L) :P7 sb fb n cap W':=by
  obtain ⟨c,t,p1,p2⟩:=h.s
  obtain ⟨c',t',p3,p4⟩:=h.f
  exact ⟨⟨c,t,(hw _ h1).trans p1,p2⟩,⟨c',t',(hw _ h2).trans p3,p4⟩⟩
theorem SA.other(h:SA w V O sb fb n cap b1 bm bs ks W){k:Nat}(hw:∀ j,j≠k→W'.heap[j]? = W.heap[j]?)(hb:Below w.heap.size W W')(h0:w.heap.size≠k)(h1:b1≠k)(h2:bm≠k)(h3:bs≠k)(h4:sb≠k)(h5:fb≠k) :SA w V O sb fb n cap b1 bm bs ks W':=by
  obtain ⟨es,cl,m1,m2⟩:=h.m
  exact ⟨(hw _ h0).trans h.v,(hw _ h1).trans h.o,⟨es,cl,(hw _ h2).trans m1,m2⟩,(hw _ h3).trans h.s,h.st.other hw h4 h5,h.low.trans hb⟩
theorem LA.other(h:LA A ab D L obj W){k:Nat}(hw:∀ j,j≠k→W'.heap[j]? = W.heap[j]?)(h0:ab≠k)(h1:D≠k)(h2:L≠k) :LA A ab D L obj W' :=
  ⟨(hw _ h0).trans h.al,(hw _ h1).trans h.df,(hw _ h2).trans h.lo⟩
theorem LA.put(h:LA A ab D L obj W)(ob:Obj)(h0:ab≠L)(h1:D≠L) :LA A ab D L ob (W.putObj L ob) :=
  ⟨(World.putObj_heap_other h0).trans h.al,(World.putObj_heap_other h1).trans h.df,World.putObj_heap_same (bx h.lo)⟩
theorem SA.key(h:SA w V O sb fb n cap b1 bm bs ks W){es:Array MapEntry}{cl:Nat}(hm:W.heap[bm]? = some (.map es cl))(he:∀ e∈es.toList,∃ q,ks q∧e.key=pZ q){p:Nat}{v:Value}{ks':Nat→Prop}(hk:∀ q,ks q→ks' q)(hp:ks' p) 
    (hbm:w.heap.size≤bm) (h0:w.heap.size≠bm) (h1:b1≠bm) (h3:bs≠bm) (h4:sb≠bm) (h5:fb≠bm):SA w V O sb fb n cap b1 bm bs ks' (setBlock W bm (.map (es.push ⟨pZ p,v,cl⟩) (cl+1))):=by
  have hw:∀ j,j≠bm→(setBlock W bm (.map (es.push ⟨pZ p,v,cl⟩) (cl+1))).heap[j]? = W.heap[j]?:=fun j hj=>dg hj
  refine ⟨(hw _ h0).trans h.v,(hw _ h1).trans h.o,⟨_,_,kh (bx hm),fun e hm=>?_⟩,(hw _ h3).trans h.s,h.st.other hw h4 h5,h.low.trans ⟨rfl,rfl,rfl,by rw [qI];exact Nat.le_refl _,fun k hk=>hw k (by omega)⟩⟩
  simp only [Array.toList_push,List.mem_append,List.mem_singleton] at hm
  rcases hm with hm | rfl
  · obtain ⟨q,k1,k2⟩:=he e hm
    exact ⟨q,hk q k1,k2⟩
  · exact ⟨p,hp,rfl⟩
theorem V4{α:Type}(h:Array α)(a b c d e f g:α)(k:Nat) :(((((((h.push a).push b).push c).push d).push e).push f).push g)[h.size+k]? = #[a,b,c,d,e,f,g][k]?:=by
  have e1:(((((((h.push a).push b).push c).push d).push e).push f).push g)=h ++ #[a,b,c,d,e,f,g]:=by
    apply Array.toList_inj.1
    simp
  rw [e1,Array.getElem?_append_right (Nat.le_add_right _ _),Nat.add_sub_cancel_left]
set_option maxHeartbeats 4000000 in
theorem Fp (sb fb n cap r a1 d a2 : Nat) (hr : r ≤ 1000000) (ha1 : a1 ≤ 1000000) (ha2 : a2 ≤ 1000000) (hd : d ≤ 1000000) (hd1 : 1 ≤ d) (hn1 : ∀ i, i < r → a1 + i * d < n) (hn2 : ∀ i, i < r → a2 + i * d < n)
    (hne : ∀ i j, i < r → j < r → a1 + i * d ≠ a2 + j * d) (w : World) (hs : P7 sb fb n cap w) :
    Calls prog 352 #[.agg (dC (.pointer (some ⟨sb, 0, none⟩)) r a1 d), .agg (dC (.pointer (some ⟨sb, 0, none⟩)) r a2 d)] w fun e w' => e = .returned (.bool false) ∧ Below w.heap.size w w' := by
  refine (callsIn_wide (n := 20)).1 (callsIn_of_wp_marks Tryz.func352 rfl trivial ?_)
  simp only [Tryz.ntmps352, List.size_toArray, List.length_cons, List.length_nil, Nat.reduceAdd, Nat.reduceSub, Array.replicate_succ, Array.replicate_zero, List.push_toArray, List.append_toArray, List.nil_append, List.cons_append]
  have ag := iW
  have sz := gu
  have pn := Vw
  have mm := fun W => @run_makeMap prog 338 W
  gi_wp2
  refine wpIn_wide.2 (wp_scope_straight (wpIn_wide (n := 20).1 ?_))
  gi_wp2_with (refine ⟨trivial, ?_⟩; gi_at_call 201; refine (callsIn_wide.2 (B6 (.pointer (some ⟨sb, 0, none⟩)) r a1 d _)).mono ?_; rintro e w' ⟨rfl, rfl⟩)
  have hsb : sb < w.heap.size := by obtain ⟨c, t, q, _⟩ := hs.s; exact bx q
  have hfb : fb < w.heap.size := by obtain ⟨c, t, q, _⟩ := hs.f; exact bx q
  obtain ⟨W2, hW2⟩ : ∃ W2, (((((w.alloc (.cells (dC (.pointer (some ⟨sb, 0, none⟩)) r a1 d) 146)).alloc (.cells (dC (.pointer (some ⟨sb, 0, none⟩)) r a2 d) 146)).alloc (.map #[] 0)).alloc (.cells #[.map (some (w.heap.size + 1 + 1))] 338)).alloc (.cells (dC (.pointer (some ⟨sb, 0, none⟩)) r a1 d) 146)) = W2 := ⟨_, rfl⟩
  rw [hW2]
  obtain ⟨b1, e1⟩ : ∃ b, w.heap.size + 1 = b := ⟨_, rfl⟩
  rw [e1] at hW2 ⊢
  obtain ⟨bm, em⟩ : ∃ b, b1 + 1 = b := ⟨_, rfl⟩
  rw [em] at hW2 ⊢
  obtain ⟨bs, es⟩ : ∃ b, bm + 1 = b := ⟨_, rfl⟩
  rw [es]
  obtain ⟨ab, ea⟩ : ∃ b, bs + 1 = b := ⟨_, rfl⟩
  rw [ea]
  have hsz : W2.heap.size = w.heap.size + 5 := by rw [← hW2]; simp
  refine yV (gf := 272) (m := 19) rfl (fun args W => ax.enter 272 (FN 272) args W (by kernel_rfl) (by kernel_rfl)) fun fn rec hrec hy => ?_
  rw [hsz] at hy ⊢
  obtain ⟨D, eD⟩ : ∃ D, w.heap.size + 5 = D := ⟨_, rfl⟩
  rw [eD] at hy ⊢
  obtain ⟨L, eL⟩ : ∃ L, D + 1 = L := ⟨_, rfl⟩
  rw [eL] at hy ⊢
  obtain ⟨T, hT⟩ : ∃ T : Option Nat → World → Prop, (fun j W => match j with
    | some j => SA w (dC (.pointer (some ⟨sb, 0, none⟩)) r a1 d) (dC (.pointer (some ⟨sb, 0, none⟩)) r a2 d) sb fb n cap b1 bm bs (fun q => ∃ i, i < j ∧ q = a1 + i * d) W ∧ LA (dC (.pointer (some ⟨sb, 0, none⟩)) r a1 d) ab D L (.loop (rec .ready none)) W
    | none => False) = T := ⟨_, rfl⟩
  have hY : ∀ i x W', i < r → T (some i) W' → YieldAt Fence.wide 18 prog L #[.agg #[.int .i64 (i : Int), .int .i64 0], x] W' (fun e W'' => e = .returned (.bool true) ∧ T (some (i + 1)) W'') := by
    intro i x W' hi hS
    have hS' := hS
    rw [← hT] at hS'
    obtain ⟨hS', hL⟩ := hS'
    refine hy 18 _ W' _ hL.lo rfl ?_
    clear hy
    obtain ⟨p, hp⟩ : ∃ p, p = a1 + i * d := ⟨_, rfl⟩
    have hpl := fun W => pj (.pointer (some ⟨sb, 0, none⟩)) r a1 d i p hp ha1 hd (by omega) W
    have hid : i * d ≤ 1000000 * 1000000 := Nat.mul_le_mul (by omega) hd
    gi_wp2
    refine ⟨(bW (bx hL.lo)).trans hL.lo, ?_⟩
    have hb1 : Below W'.heap.size W' (W'.alloc (.cells #[.int .i64 (i : Int), .int .i64 0] 102)) := (Below.refl _ _).alloc (Nat.le_refl _) _
    have hS1 := hS'.below hb1
    have hL1 := hL.below hb1
    have hN : (W'.alloc (.cells #[.int .i64 (i : Int), .int .i64 0] 102)).heap[W'.heap.size]? = some (.cells #[.int .i64 (i : Int), .int .i64 0] 102 (0, 0)) := aR W' _
    have hLN := bx hL.lo
    have hlw := hS'.low.size
    obtain ⟨V0, hV0⟩ : ∃ V0, W'.alloc (.cells #[.int .i64 (i : Int), .int .i64 0] 102) = V0 := ⟨_, rfl⟩
    rw [hV0] at hS1 hL1 hN ⊢
    clear hb1
    obtain ⟨N, hNe⟩ : ∃ N, W'.heap.size = N := ⟨_, rfl⟩
    rw [hNe] at hN hLN hlw ⊢
    obtain ⟨V1, hV1⟩ : ∃ V1, V0.putObj L (.loop (rec .busy none)) = V1 := ⟨_, rfl⟩
    have hS2 : SA w (dC (.pointer (some ⟨sb, 0, none⟩)) r a1 d) (dC (.pointer (some ⟨sb, 0, none⟩)) r a2 d) sb fb n cap b1 bm bs (fun q => ∃ i', i' < i ∧ q = a1 + i' * d) V1 := by
      rw [← hV1]
      exact hS1.other (k := L) (fun j hj => World.putObj_heap_other hj) (gw (Below.refl _ _) (by omega) _) (by omega) (by omega) (by omega) (by omega) (by omega) (by omega)
    have hL2 : LA (dC (.pointer (some ⟨sb, 0, none⟩)) r a1 d) ab D L (.loop (rec .busy none)) V1 := by
      rw [← hV1]; exact hL1.put _ (by omega) (by omega)
    have hN2 : V1.heap[N]? = some (.cells #[.int .i64 (i : Int), .int .i64 0] 102 (0, 0)) := by
      rw [← hV1]; exact (World.putObj_heap_other (by omega)).trans hN
    rw [hV1]
    clear hS1 hL1 hN hV1 hV0 hS hS' hL
    gi_wp2
    refine Vx (bv := w.heap.size) (bs := bs) (bm := bm) (N := N) (r := r) (a := a1) (d := d) (i := i) (p := p) hpl (fun X hb => ?_) _ _ _ _ _ _ _ _ _ _ _ _ _ _ _ _ _ _ _ _ _ _ _ _ _ _ _ _ _ _ _ _ _ _ _ _ _ _ _ _ _ _ _
    have hX := hS2.below hb
    have hLX := hL2.below hb
    have hNX := (hb.block _ (bx hN2)).trans hN2
    obtain ⟨es', cl, m1, m2⟩ := hX.m
    have hk : ∀ e ∈ es'.toList, ∃ q : Nat, e.key = pZ q ∧ q ≠ p := fun e he => by
      obtain ⟨q, ⟨i', h1, h2⟩, h3⟩ := m2 e he
      refine ⟨q, h3, fun h => ?_⟩
      have : i' * d < i * d := Nat.mul_lt_mul_of_pos_right h1 hd1
      omega
    refine ⟨UB hX.v, by simp [World.cell?, hX.s], by simp [World.cell?, hNX], by simp [World.cell?, hNX], _, UD X bm cl es' m1 p (.bool true) hk, fun a => ?_⟩
    refine ⟨(dg (by omega)).trans hLX.lo, trivial, ?_⟩
    rw [← hT]
    have hK := hX.key (p := p) (v := .bool true) (ks' := fun q => ∃ i', i' < i + 1 ∧ q = a1 + i' * d) m1 m2 (fun q ⟨i', h1, h2⟩ => ⟨i', by omega, h2⟩) ⟨i, by omega, hp⟩ (by omega) (by omega) (by omega) (by omega) (by omega) (by omega)
    have hLK := hLX.other (W' := setBlock X bm (.map (es'.push ⟨pZ p, .bool true, cl⟩) (cl + 1))) (k := bm) (fun j hj => dg hj) (by omega) (by omega) (by omega)
    exact ⟨hK.other (k := L) (fun j hj => World.putObj_heap_other hj) (gw (Below.refl _ _) (by omega) _) (by omega) (by omega) (by omega) (by omega) (by omega) (by omega), hLK.put _ (by omega) (by omega)⟩
  clear hy
  obtain ⟨W0, hW0⟩ : ∃ W0, (W2.alloc (.deferred (some []))).alloc (.loop (rec .ready none)) = W0 := ⟨_, rfl⟩
  have hat : ∀ k, W0.heap[w.heap.size + k]? = #[Obj.cells (dC (.pointer (some ⟨sb, 0, none⟩)) r a1 d) 146, .cells (dC (.pointer (some ⟨sb, 0, none⟩)) r a2 d) 146, .map #[] 0, .cells #[.map (some bm)] 338, .cells (dC (.pointer (some ⟨sb, 0, none⟩)) r a1 d) 146, .deferred (some []), .loop (rec .ready none)][k]? := fun k => by
    rw [← hW0, ← hW2]
    exact V4 w.heap _ _ _ _ _ _ _ k
  have hlow0 : Below w.heap.size w W0 := by
    rw [← hW0, ← hW2]
    refine Below.alloc (Below.alloc (Below.alloc (Below.alloc (Below.alloc (Below.alloc (Below.alloc (Below.refl _ w) ?_ _) ?_ _) ?_ _) ?_ _) ?_ _) ?_ _) ?_ _
    all_goals simp
    all_goals try omega
  have h0 : T (some 0) W0 := by
    rw [← hT]
    have q0 := hat 0
    have q1 := hat 1
    have q2 := hat 2
    have q3 := hat 3
    have q4 := hat 4
    have q5 := hat 5
    have q6 := hat 6
    rw [show w.heap.size + 0 = w.heap.size from rfl] at q0
    rw [show w.heap.size + 1 = b1 by omega] at q1
    rw [show w.heap.size + 2 = bm by omega] at q2
    rw [show w.heap.size + 3 = bs by omega] at q3
    rw [show w.heap.size + 4 = ab by omega] at q4
    rw [show w.heap.size + 5 = D by omega] at q5
    rw [show w.heap.size + 6 = L by omega] at q6
    exact ⟨⟨q0, q1, ⟨_, _, q2, fun e he => by simp at he⟩, q3, hs.below hlow0, hlow0⟩, q4, q5, q6⟩
  clear hat
  rw [hW0]
  refine (Rw 18 L ab sb fb n cap r a1 d hr ha1 hd hn1 W0 T (fun i W h => by rw [← hT] at h; exact ⟨h.2.al, h.1.st⟩) (fun i W W' h hb => by
    rw [← hT] at h ⊢
    cases i with
    | none => exact h
    | some i => exact ⟨h.1.below hb, h.2.below hb⟩) hY h0).mono ?_
  clear hY h0 hlow0
  rintro e W' ⟨hv', hS⟩
  rw [← hT] at hS
  clear hT
  obtain ⟨hS, hL⟩ := hS
  refine ⟨hv', .inl ⟨hL.lo, ?_⟩⟩
  have hS6 : SA w (dC (.pointer (some ⟨sb, 0, none⟩)) r a1 d) (dC (.pointer (some ⟨sb, 0, none⟩)) r a2 d) sb fb n cap b1 bm bs (fun q => ∃ i, i < r ∧ q = a1 + i * d) (W'.putObj L (.loop (rec .exhausted none))) :=
    hS.other (k := L) (fun j hj => World.putObj_heap_other hj) (gw (Below.refl _ _) (by omega) _) (by omega) (by omega) (by omega) (by omega) (by omega) (by omega)
  have hD6 : (W'.putObj L (.loop (rec .exhausted none))).heap[D]? = some (.deferred (some [])) := (World.putObj_heap_other (by omega)).trans hL.df
  obtain ⟨W6, hW6⟩ : ∃ W6, W'.putObj L (.loop (rec .exhausted none)) = W6 := ⟨_, rfl⟩
  rw [hW6] at hS6 hD6 ⊢
  clear hW6 hS hL hW0 hW2
  obtain ⟨c0, c1, c2, c3, c4, c5⟩ := UB hS6.o
  gi_wp2
  refine wpIn_wide.2 (wp_label ?_)
  have hb6 : Below W6.heap.size W6 (W6.alloc (.cells #[.bool false] 4)) := (Below.refl _ _).alloc (Nat.le_refl _) _
  have hS7 := hS6.below hb6
  have hD7 := (hb6.block _ (bx hD6)).trans hD6
  have hI7 : (W6.alloc (.cells #[.bool false] 4)).heap[W6.heap.size]? = some (.cells #[.bool false] 4 (0, 0)) := aR W6 _
  have hDI := bx hD6
  obtain ⟨bi, ebi⟩ : ∃ b, W6.heap.size = b := ⟨_, rfl⟩
  have hlw6 := hS6.low.size
  rw [ebi] at hI7 hDI hlw6 ⊢
  obtain ⟨W7, hW7⟩ : ∃ W7, W6.alloc (.cells #[.bool false] 4) = W7 := ⟨_, rfl⟩
  rw [hW7] at hS7 hD7 hI7 ⊢
  clear hW7 hb6 hS6 hD6 c0 c1 c2 c3 c4 c5
  have hD1 := bx hD7
  obtain ⟨c0, c1, c2, c3, c4, c5⟩ := UB hS7.o
  gi_wp2_with (refine ⟨trivial, ?_⟩; gi_at_call 201; refine (callsIn_wide.2 (B6 (.pointer (some ⟨sb, 0, none⟩)) r a2 d _)).mono ?_; rintro e w' ⟨rfl, rfl⟩)
  have hb8 : Below W7.heap.size W7 (W7.alloc (.cells (dC (.pointer (some ⟨sb, 0, none⟩)) r a2 d) 146)) := (Below.refl _ _).alloc (Nat.le_refl _) _
  have hS8 := hS7.below hb8
  have hD8 := (hb8.block _ (bx hD7)).trans hD7
  have hI8 := (hb8.block _ (bx hI7)).trans hI7
  have hA8 : (W7.alloc (.cells (dC (.pointer (some ⟨sb, 0, none⟩)) r a2 d) 146)).heap[W7.heap.size]? = some (.cells (dC (.pointer (some ⟨sb, 0, none⟩)) r a2 d) 146 (0, 0)) := aR W7 _
  have hsz8 : (W7.alloc (.cells (dC (.pointer (some ⟨sb, 0, none⟩)) r a2 d) 146)).heap.size = W7.heap.size + 1 := by simp
  have hIA := bx hI7
  obtain ⟨ab2, eab⟩ : ∃ b, W7.heap.size = b := ⟨_, rfl⟩
  have hlw7 := hS7.low.size
  rw [eab] at hA8 hsz8 hIA hD1 hlw7 ⊢
  obtain ⟨W8, hW8⟩ : ∃ W8, W7.alloc (.cells (dC (.pointer (some ⟨sb, 0, none⟩)) r a2 d) 146) = W8 := ⟨_, rfl⟩
  rw [hW8] at hS8 hD8 hI8 hA8 hsz8 ⊢
  clear hW8 hb8 hS7 hD7 hI7 c0 c1 c2 c3 c4 c5
  refine yV (gf := 272) (m := 19) rfl (fun args W => ax.enter 272 (FN 272) args W (by kernel_rfl) (by kernel_rfl)) fun fn2 rec2 hrec2 hy => ?_
  rw [hsz8] at hy ⊢
  obtain ⟨D2, eD2⟩ : ∃ D, ab2 + 1 = D := ⟨_, rfl⟩
  rw [eD2] at hy ⊢
  obtain ⟨L2, eL2⟩ : ∃ L, D2 + 1 = L := ⟨_, rfl⟩
  rw [eL2] at hy ⊢
  obtain ⟨T, hT⟩ : ∃ T : Option Nat → World → Prop, (fun j W => SA w (dC (.pointer (some ⟨sb, 0, none⟩)) r a1 d) (dC (.pointer (some ⟨sb, 0, none⟩)) r a2 d) sb fb n cap b1 bm bs (fun q => ∃ i, i < r ∧ q = a1 + i * d) W ∧
      LA (dC (.pointer (some ⟨sb, 0, none⟩)) r a2 d) ab2 D2 L2 (.loop (rec2 .ready none)) W ∧ W.heap[bi]? = some (.cells #[.bool false] 4 (0, 0)) ∧ W.heap[D]? = some (.deferred (some []))) = T := ⟨_, rfl⟩
  have hY : ∀ i x W', i < r → T (some i) W' → YieldAt Fence.wide 18 prog L2 #[.agg #[.int .i64 (i : Int), .int .i64 0], x] W' (fun e W'' => e = .returned (.bool true) ∧ T (some (i + 1)) W'') := by
    intro i x W' hi hS
    have hS' := hS
    rw [← hT] at hS'
    obtain ⟨hS', hL, hI, hDD⟩ := hS'
    refine hy 18 _ W' _ hL.lo rfl ?_
    clear hy
    obtain ⟨p, hp⟩ : ∃ p, p = a2 + i * d := ⟨_, rfl⟩
    have hpl := fun W => pj (.pointer (some ⟨sb, 0, none⟩)) r a2 d i p hp ha2 hd (by omega) W
    gi_wp2
    refine ⟨(bW (bx hL.lo)).trans hL.lo, ?_⟩
    have hb1 : Below W'.heap.size W' (W'.alloc (.cells #[.int .i64 (i : Int), .int .i64 0] 102)) := (Below.refl _ _).alloc (Nat.le_refl _) _
    have hS1 := hS'.below hb1
    have hL1 := hL.below hb1
    have hI1 := (hb1.block _ (bx hI)).trans hI
    have hDD1 := (hb1.block _ (bx hDD)).trans hDD
    have hN : (W'.alloc (.cells #[.int .i64 (i : Int), .int .i64 0] 102)).heap[W'.heap.size]? = some (.cells #[.int .i64 (i : Int), .int .i64 0] 102 (0, 0)) := aR W' _
    have hLN := bx hL.lo
    have hlw := hS'.low.size
    obtain ⟨V0, hV0⟩ : ∃ V0, W'.alloc (.cells #[.int .i64 (i : Int), .int .i64 0] 102) = V0 := ⟨_, rfl⟩
    rw [hV0] at hS1 hL1 hI1 hDD1 hN ⊢
    clear hb1
    obtain ⟨N, hNe⟩ : ∃ N, W'.heap.size = N := ⟨_, rfl⟩
    rw [hNe] at hN hLN hlw ⊢
    obtain ⟨V1, hV1⟩ : ∃ V1, V0.putObj L2 (.loop (rec2 .busy none)) = V1 := ⟨_, rfl⟩
    have hS2 : SA w (dC (.pointer (some ⟨sb, 0, none⟩)) r a1 d) (dC (.pointer (some ⟨sb, 0, none⟩)) r a2 d) sb fb n cap b1 bm bs (fun q => ∃ i, i < r ∧ q = a1 + i * d) V1 := by
      rw [← hV1]
      exact hS1.other (k := L2) (fun j hj => World.putObj_heap_other hj) (gw (Below.refl _ _) (by omega) _) (by omega) (by omega) (by omega) (by omega) (by omega) (by omega)
    have hL2 : LA (dC (.pointer (some ⟨sb, 0, none⟩)) r a2 d) ab2 D2 L2 (.loop (rec2 .busy none)) V1 := by
      rw [← hV1]; exact hL1.put _ (by omega) (by omega)
    have hI2 : V1.heap[bi]? = some (.cells #[.bool false] 4 (0, 0)) := by
      rw [← hV1]; exact (World.putObj_heap_other (by omega)).trans hI1
    have hDD2 : V1.heap[D]? = some (.deferred (some [])) := by
      rw [← hV1]; exact (World.putObj_heap_other (by omega)).trans hDD1
    have hN2 : V1.heap[N]? = some (.cells #[.int .i64 (i : Int), .int .i64 0] 102 (0, 0)) := by
      rw [← hV1]; exact (World.putObj_heap_other (by omega)).trans hN
    rw [hV1]
    clear hS1 hL1 hI1 hDD1 hN hV1 hV0 hS hS' hL hI hDD
    gi_wp2
    refine Vy (bv := b1) (bs := bs) (bm := bm) (N := N) (r := r) (a := a2) (d := d) (i := i) (p := p) hpl (fun X hb => ?_) _ _ _ _ _ _ _ _ _ _ _ _ _ _ _ _ _ _ _ _ _ _ _ _ _ _ _ _ _ _ _ _ _ _ _ _ _ _ _ _ _ _ _
    have hX := hS2.below hb
    have hLX := hL2.below hb
    have hIX := (hb.block _ (bx hI2)).trans hI2
    have hDX := (hb.block _ (bx hDD2)).trans hDD2
    have hNX := (hb.block _ (bx hN2)).trans hN2
    obtain ⟨es', cl, m1, m2⟩ := hX.m
    have hk : ∀ e ∈ es'.toList, ∃ q : Nat, e.key = pZ q ∧ q ≠ p := fun e he => by
      obtain ⟨q, ⟨i', h1, h2⟩, h3⟩ := m2 e he
      exact ⟨q, h3, fun h => hne i' i h1 hi (by rw [← h2, h, hp])⟩
    refine ⟨UB hX.o, by simp [World.cell?, hX.s], by simp [World.cell?, hNX], by simp [World.cell?, hNX], Rx X bm cl es' m1 p hk, fun a h44 hdf => ?_⟩
    have hout : X.heap[L2]? = some (.loop (rec2 .busy none)) ∧ T (some (i + 1)) (X.putObj L2 (.loop (rec2 .ready none))) := by
      refine ⟨hLX.lo, ?_⟩
      rw [← hT]
      exact ⟨hX.other (k := L2) (fun j hj => World.putObj_heap_other hj) (gw (Below.refl _ _) (by omega) _) (by omega) (by omega) (by omega) (by omega) (by omega) (by omega), hLX.put _ (by omega) (by omega), (World.putObj_heap_other (by omega)).trans hIX, (World.putObj_heap_other (by omega)).trans hDX⟩
    obtain ⟨o1, o2⟩ := hout
    clear hT hX hLX hIX hDX hNX m1 m2 hk hS2 hL2 hI2 hDD2 hN2 hp
    gi_wp2
    exact wpIn_cond_false h44 (wpIn_skip ⟨o1, by first | trivial | rfl, o2⟩)
  clear hy
  obtain ⟨W9, hW9⟩ : ∃ W9, (W8.alloc (.deferred (some []))).alloc (.loop (rec2 .ready none)) = W9 := ⟨_, rfl⟩
  have hb9 : Below W8.heap.size W8 W9 := by rw [← hW9]; exact ((Below.refl _ _).alloc (Nat.le_refl _) _).alloc (by simp) _
  have q1 : W9.heap[D2]? = some (.deferred (some [])) := by
    rw [← hW9, bW (by simp; omega), show D2 = W8.heap.size by omega]
    exact aR W8 _
  have q2 : W9.heap[L2]? = some (.loop (rec2 .ready none)) := by
    rw [← hW9]
    have := aR (W8.alloc (.deferred (some []))) (.loop (rec2 .ready none))
    rw [show (W8.alloc (.deferred (some []))).heap.size = L2 by simp; omega] at this
    exact this
  have h0 : T (some 0) W9 := by
    rw [← hT]
    exact ⟨hS8.below hb9, ⟨(hb9.block _ (bx hA8)).trans hA8, q1, q2⟩, (hb9.block _ (bx hI8)).trans hI8, (hb9.block _ (bx hD8)).trans hD8⟩
  rw [hW9]
  refine (Rw 18 L2 ab2 sb fb n cap r a2 d hr ha2 hd hn2 W9 T (fun i W h => by rw [← hT] at h; exact ⟨h.2.1.al, h.1.st⟩) (fun i W W' h hb => by
    rw [← hT] at h ⊢
    exact ⟨h.1.below hb, h.2.1.below hb, (hb.block _ (bx h.2.2.1)).trans h.2.2.1, (hb.block _ (bx h.2.2.2)).trans h.2.2.2⟩) hY h0).mono ?_
  clear hY h0 hb9 q1 q2 hW9
  rintro e W' ⟨hv', hS⟩
  rw [← hT] at hS
  clear hT
  obtain ⟨hS, hL, hI, hDD⟩ := hS
  refine ⟨hv', .inl ⟨hL.lo, ?_⟩⟩
  have hlow : Below w.heap.size w (W'.putObj L2 (.loop (rec2 .exhausted none))) := gw hS.low (by omega) _
  have hI6 : (W'.putObj L2 (.loop (rec2 .exhausted none))).heap[bi]? = some (.cells #[.bool false] 4 (0, 0)) := (World.putObj_heap_other (by omega)).trans hI
  have hD6 : (W'.putObj L2 (.loop (rec2 .exhausted none))).heap[D]? = some (.deferred (some [])) := (World.putObj_heap_other (by omega)).trans hDD
  have hE6 : (W'.putObj L2 (.loop (rec2 .exhausted none))).heap[D2]? = some (.deferred (some [])) := (World.putObj_heap_other (by omega)).trans hL.df
  obtain ⟨W10, hW10⟩ : ∃ W10, W'.putObj L2 (.loop (rec2 .exhausted none)) = W10 := ⟨_, rfl⟩
  rw [hW10] at hlow hI6 hD6 hE6 ⊢
  clear hW10 hS hL hI hDD
  have c0 : W10.cell? ⟨bi, 0, none⟩ = some (.bool false) := by simp [World.cell?, hI6]
  gi_wp2
  refine ⟨by simp, .inl ⟨_, _, rfl, run_takeDeferred hE6, ?_⟩⟩
  refine ⟨by simp, .inl ⟨_, _, rfl, run_takeDeferred ((World.putObj_heap_other (by omega)).trans hD6), ?_⟩⟩
  exact ⟨_, results_tmp rfl _ _ _, rfl, gw (gw hlow (by omega) _) (by omega) _⟩
end Go.Plb.Seat
namespace Go.Plb.Seat
open Go Go.Plb
set_option maxRecDepth 100000
set_option linter.unusedSimpArgs false
set_option linter.unusedVariables false
def UE(n r a1 a2 d:Nat) :Bool:=Nat.ble r 1000000&&(Nat.ble a1 1000000&&(Nat.ble a2 1000000&&(Nat.ble d 1000000&&(Nat.ble 1 d&&(Nat.ble 1 n&&(List.range r).all fun i=>Nat.blt (a1+i*d) n&&(Nat.blt (a2+i*d) n&&(List.range r).all fun j=>!Nat.beq (a1+i*d) (a2+j*d)))))))
structure Wz (n r a1 a2 d:Nat):Prop where
  hr:r≤1000000
  h1:a1≤1000000
  h2:a2≤1000000
  hd:d≤1000000
  hd1:1≤d
  hn:1≤n
  p1:∀ i,i<r→a1+i*d<n
  p2:∀ i,i<r→a2+i*d<n
  ne:∀ i j,i<r→j<r→a1+i*d≠a2+j*d
theorem Vz{n r a1 a2 d:Nat}(h:UE n r a1 a2 d=true) :Wz n r a1 a2 d:=by
  unfold UE at h
  simp only [Bool.and_eq_true,Nat.ble_eq,Nat.blt_eq,List.all_eq_true,List.mem_range,Bool.not_eq_true'] at h
  obtain ⟨h1,h2,h3,h4,h5,h6,h7⟩:=h
  exact ⟨h1,h2,h3,h4,h5,h6,fun i hi=>(h7 i hi).1,fun i hi=>(h7 i hi).2.1,fun i j hi hj q=>by
    have:=(h7 i hi).2.2 j hj
    rw [q,Nat.beq_refl] at this
    cases this⟩
theorem RA{n c r a1 a2 d:Nat}{xs:List Nat}(h:Wz n r a1 a2 d) :
    ak prog dI [.vs [.sl 1 1 1 0 n c],.fl xs] [.agg [.ptr 0 1 0 0,.int .i64 (r:Int),.int .i64 1,.int .i64 (a1:Int),.int .i64 (d:Int),.int .i64 1],.agg [.ptr 0 1 0 0,.int .i64 (r:Int),.int .i64 1,.int .i64 (a2:Int),.int .i64 (d:Int),.int .i64 1]]
      ⟨.bool true false,[some (.vs [.sl 1 1 1 0 n c]),some (.fl xs)]⟩:=by
  intro ρ w us hN hv
  refine ⟨⟨FN dI,by kernel_rfl,by kernel_rfl⟩,?_⟩
  have hg:aB (bX 0 ([aq.vs [.sl 1 1 1 0 n c],.fl xs].map some)) 0=some (.vs [.sl 1 1 1 0 n c]):=rfl
  obtain ⟨hok,hlive,hrk,cs,ts,hh,hcv⟩:=hN.heap.solid hg ⟨0,_,rfl⟩
  obtain ⟨u0,hu0,hvr⟩:=hcv 0 _ rfl
  have hst:∃ fb cap,P7 (ρ.at_ 0) fb n cap w:=by
    cases hvr with
    | sl _ _ _ _ _ _ cap' hb hcap hl c1 t1 hh1 hs1 =>
      refine ⟨ρ.at_ 1,cap',⟨cs,ts,hh,?_⟩,⟨c1,t1,hh1,by omega⟩⟩
      rw [hu0]
    | slEnd=>have:=h.hn;omega
  obtain ⟨fb,cap,hst⟩:=hst
  cases hv with | cons _ _ _ _ v1 hv =>
  cases hv with | cons _ _ _ _ v2 hv =>
  cases hv
  have key:∀ {a:Nat} {u:Value},VR ρ w (.agg [.ptr 0 1 0 0,.int .i64 (r:Int),.int .i64 1,.int .i64 (a:Int),.int .i64 (d:Int),.int .i64 1]) u→u=.agg (dC (.pointer (some ⟨ρ.at_ 0,0,none⟩)) r a d):=by
    intro a u hu
    cases hu with | agg _ cc hc =>
    obtain ⟨cc⟩:=cc
    cases hc with | cons _ _ _ _ x1 hc =>
    cases hc with | cons _ _ _ _ x2 hc =>
    cases hc with | cons _ _ _ _ x3 hc =>
    cases hc with | cons _ _ _ _ x4 hc =>
    cases hc with | cons _ _ _ _ x5 hc =>
    cases hc with | cons _ _ _ _ x6 hc =>
    cases hc
    cases x1;cases x2;cases x3;cases x4;cases x5;cases x6
    rfl
  rw [key v1,key v2]
  refine (Fp (ρ.at_ 0) fb n cap r a1 d a2 h.hr h.h1 h.h2 h.hd h.hd1 h.p1 h.p2 h.ne w hst).mono ?_
  rintro e w' ⟨rfl,hb⟩
  have W:dx ρ.live w w':=uH hb
  exact ⟨_,rfl,W,ρ,eI.refl _ _,fun _ _ q=>q,hN.heap.step W (fun bl q=>hb.block bl (hN.heap.liveLt bl q)),.bool _ _⟩
def yW:ae:=⟨dI,fun lent args=>match lent,args with
  | [.vs [.sl 1 1 1 0 n c],.fl xs],[.agg [.ptr 0 1 0 0,.int .i64 (.ofNat r),.int .i64 1,.int .i64 (.ofNat a1),.int .i64 (.ofNat d),.int .i64 1],.agg [.ptr 0 1 0 0,.int .i64 (.ofNat r'),.int .i64 1,.int .i64 (.ofNat a2),.int .i64 (.ofNat d'),.int .i64 1]] =>
    bif Nat.beq r r'&&(Nat.beq d d'&&UE n r a1 a2 d) then some [⟨⟨.bool true false,[some (.vs [.sl 1 1 1 0 n c]),some (.fl xs)]⟩,[]⟩] else none
  | _,_=>none⟩
theorem Ja:ah prog yW:=by
  intro lent args alts a h ha ho
  simp only [yW] at h
  split at h
  · rename_i n c xs r a1 d r' a2 d'
    cases q:Nat.beq r r'&&(Nat.beq d d'&&UE n r a1 a2 d) with
    | false=>rw [q] at h;cases h
    | true =>
      rw [q] at h
      simp only [Bool.and_eq_true] at q
      obtain ⟨q1,q2,q3⟩:=q
      have e1:=Nat.eq_of_beq_eq_true q1
      have e2:=Nat.eq_of_beq_eq_true q2
      subst e1;subst e2
      simp only [cond_true,Option.some.injEq] at h
      subst h
      simp only [List.mem_singleton] at ha
      subst ha
      exact RA (Vz q3)
  · cases h
end Go.Plb.Seat
namespace Go.Plb.Seat
open Go Go.Plb
set_option maxRecDepth 100000
noncomputable section
def RB:List ae:=aG 134 [.i .i64 1,.i .i64 1] ⟨(.tup [(.agg [(.bool false false),(.imm .free (.ns .u64 [1]) 1 1 0 1),(.int .i64 (-94))]),(.int .i64 0)]),[]⟩::Vu
theorem Pr:ao prog (aj RB):=dK ax M1 (N:=100) (n:=1000) (by kernel_rfl)
def RC:List ae:=aG 135 [.agg [.i .i64 1,.i .i64 1,.fl [13835058055282163712]]] ⟨(.tup [(.agg [(.bool true false),(.imm .free (.ns .u64 [1]) 1 1 0 1),(.int .i64 2)]),(.int .i64 0)]),[]⟩::RB
theorem Ps:ao prog (aj RC):=dK ax Pr (N:=100) (n:=1000) (by kernel_rfl)
def RD:List ae:=aG 139 [.agg [.i .i64 1,.i .i64 1,.fl [4607182418800017408]]] ⟨(.tup [(.agg [(.bool true false),.nsl,(.int .i64 0)]),(.int .i64 0)]),[]⟩::RC
theorem Pt:ao prog (aj RD):=dK ax Ps (N:=100) (n:=1000) (by kernel_rfl)
def RE:List ae:=aG 139 [.agg [.i .i64 1,.i .i64 1,.fl [13830554455654793216]]] ⟨(.tup [(.agg [(.bool true false),.nsl,(.int .i64 0)]),(.int .i64 0)]),[]⟩::RD
theorem Pu:ao prog (aj RE):=dK ax Pt (N:=100) (n:=1000) (by kernel_rfl)
def RF:List ae:=aG 143 [.agg [.i .i64 1,.i .i64 1,.fl [13835058055282163712]],.agg [.i .i64 1,.i .i64 1,.fl [13830554455654793216]],.agg [.i .i64 1,.i .i64 1,.fl [4607182418800017408]],.fl [4611686018427387904]] ⟨(.tup [(.agg [(.bool true false),.nsl,(.int .i64 0)]),(.int .i64 0)]),[]⟩::RE
theorem Pv:ao prog (aj RF):=dK ax Pu (N:=100) (n:=1000) (by kernel_rfl)
def RG:List ae:=aG 143 [.agg [.i .i64 1,.i .i64 1,.fl [13835058055282163712]],.agg [.i .i64 1,.i .i64 1,.fl [4607182418800017408]],.agg [.i .i64 1,.i .i64 1,.fl [13830554455654793216]],.fl [4611686018427387904]] ⟨(.tup [(.agg [(.bool true false),.nsl,(.int .i64 0)]),(.int .i64 0)]),[]⟩::RF
theorem Pw:ao prog (aj RG):=dK ax Pv (N:=100) (n:=1000) (by kernel_rfl)
def RH:List ae:=aG 63 [.agg [.i .i64 1,.i .i64 1,.fl [13835058055282163712]],.fl [4611686018427387904],.agg [.i .i64 1,.i .i64 1,.fl [4607182418800017408]],.agg [.i .i64 1,.i .i64 1,.fl [13830554455654793216]]] ⟨(.tup [(.bool true true),(.int .i64 0)]),[]⟩::RG
theorem Px:ao prog (aj RH):=dK ax Pw (N:=100) (n:=1000) (by kernel_rfl)
def RI:List ae:=aG 18 [.i .i64 1,.i .i64 1,.ns .u64 [13835058055282163712],.i .i64 1] ⟨(.agg [(.int .i64 0),(.sl 0 1 1 0 1 1),(.int .i64 1),(.int .i64 1),(.sl 1 1 1 0 1 1),(.int .i64 1),(.int .i64 1),(.sl 2 1 1 0 1 1),(.int .i64 0)]),[some (.fl [4611686018427387904]),some (.fl [4607182418800017408]),some (.fl [13830554455654793216])]⟩::RH
theorem Py:ao prog (aj RI):=dK ax Px (N:=100) (n:=1000) (by kernel_rfl)
def RJ:List ae:=aG 63 [.agg [.i .i64 1,.i .i64 1,.fl [13835058055282163712]],.fl [4611686018427387904],.agg [.i .i64 1,.i .i64 1,.fl [13830554455654793216]],.agg [.i .i64 1,.i .i64 1,.fl [4607182418800017408]]] ⟨(.tup [(.bool true true),(.int .i64 0)]),[]⟩::RI
theorem Pz:ao prog (aj RJ):=dK ax Py (N:=100) (n:=1000) (by kernel_rfl)
def M3:List ae:=aG 18 [.i .i64 1,.i .i64 1,.ns .u64 [13835058055282163712],.i .i64 2] ⟨(.agg [(.int .i64 0),(.sl 0 1 1 0 1 1),(.int .i64 1),(.int .i64 1),(.sl 1 1 1 0 1 1),(.int .i64 1),(.int .i64 1),(.sl 2 1 1 0 1 1),(.int .i64 1)]),[some (.fl [4611686018427387904]),some (.fl [13830554455654793216]),some (.fl [4607182418800017408])]⟩::RJ
theorem L6:ao prog (aj M3):=dK ax Pz (N:=100) (n:=1000) (by kernel_rfl)
def M4:List ae:=aG 134 [.i .i64 2,.i .i64 1] ⟨(.tup [(.agg [(.bool false false),(.imm .free (.ns .u64 [1]) 1 1 0 1),(.int .i64 (-92))]),(.int .i64 0)]),[]⟩::M3
theorem L7:ao prog (aj M4):=dK ax L6 (N:=100) (n:=1000) (by kernel_rfl)
def M5:List ae:=aG 135 [.agg [.i .i64 2,.i .i64 1,.fl [4613937818241073152,4616189618054758400]]] ⟨(.tup [(.agg [(.bool true false),(.imm .free (.ns .u64 [25]) 1 1 0 1),(.int .i64 0)]),(.int .i64 0)]),[]⟩::M4
theorem L8:ao prog (aj M5):=dK ax L7 (N:=100) (n:=1000) (by kernel_rfl)
def M6:List ae:=aG 139 [.agg [.i .i64 2,.i .i64 1,.fl [4603579539098121011,4605380978949069210]]] ⟨(.tup [(.agg [(.bool true false),(.imm .free (.ns .u64 [11807357359054871593,703687441776]) 1 1 0 2),(.int .i64 (-212))]),(.int .i64 0)]),[]⟩::M5
theorem L9:ao prog (aj M6):=dK ax L8 (N:=100) (n:=1000) (by kernel_rfl)
def M7:List ae:=aG 143 [.agg [.i .i64 2,.i .i64 1,.fl [4613937818241073152,4616189618054758400]],.agg [.i .i64 1,.i .i64 1,.fl [4607182418800017408]],.agg [.i .i64 2,.i .i64 1,.fl [4603579539098121011,4605380978949069210]],.fl [4617315517961601024]] ⟨(.tup [(.agg [(.bool true false),(.imm .free (.ns .u64 [5]) 1 1 0 1),(.int .i64 (-106))]),(.int .i64 0)]),[]⟩::M6
theorem Ma:ao prog (aj M7):=dK ax L9 (N:=100) (n:=1000) (by kernel_rfl)
def M8:List ae:=aG 143 [.agg [.i .i64 1,.i .i64 2,.fl [4613937818241073152,4616189618054758400]],.agg [.i .i64 2,.i .i64 1,.fl [4603579539098121011,4605380978949069210]],.agg [.i .i64 1,.i .i64 1,.fl [4607182418800017408]],.fl [4617315517961601024]] ⟨(.tup [(.agg [(.bool true false),(.imm .free (.ns .u64 [1]) 1 1 0 1),(.int .i64 (-106))]),(.int .i64 0)]),[]⟩::M7
theorem Mb:ao prog (aj M8):=dK ax Ma (N:=100) (n:=1000) (by kernel_rfl)
def M9:List ae:=aG 63 [.agg [.i .i64 2,.i .i64 1,.fl [4613937818241073152,4616189618054758400]],.fl [4617315517961601024],.agg [.i .i64 2,.i .i64 1,.fl [4603579539098121011,4605380978949069210]],.agg [.i .i64 1,.i .i64 1,.fl [4607182418800017408]]] ⟨(.tup [(.bool true true),(.int .i64 0)]),[]⟩::M8
theorem Mc:ao prog (aj M9):=dK ax Mb (N:=100) (n:=1000) (by kernel_rfl)
def Na:List ae:=aG 18 [.i .i64 2,.i .i64 1,.ns .u64 [4613937818241073152,4616189618054758400],.i .i64 2] ⟨(.agg [(.int .i64 0),(.sl 0 1 1 0 1 1),(.int .i64 2),(.int .i64 1),(.sl 1 1 1 0 2 2),(.int .i64 1),(.int .i64 1),(.sl 2 1 1 0 1 1),(.int .i64 1)]),[some (.fl [4617315517961601024]),some (.fl [4603579539098121011,4605380978949069210]),some (.fl [4607182418800017408])]⟩::M9
theorem Md:ao prog (aj Na):=dK ax Mc (N:=100) (n:=1000) (by kernel_rfl)
def Me:List ae:=Na
theorem PA:ao prog (aj Me):=Md
theorem Jb:Wb (fx C0 (aj Me) (cG C0 (aj Me) 100 1000) lf [] [] none)=true:=by kernel_rfl
theorem PB:ak prog lf [] [] ⟨.bool false true,[]⟩:=by
  obtain ⟨k,o,p,h,ho⟩:=I8 Jb
  exact (ak.run ax PA none _ _ h ho).weak (mu _ _ _)
def uK:ae:=⟨lf,fun L args=>match L,args with | [],[]=>one (.bool false true) [] | _,_=>none⟩
theorem Fq:ah prog uK:=by
  intro L args alts a h ha ho
  simp only [uK] at h
  split at h
  · exact jE h ha ho fun q=>PB
  · cases h
end
end Go.Plb.Seat
namespace Go.Plb
noncomputable section
set_option linter.unusedSectionVars false
variable [Rom]
theorem aD{C:ki}(hC:C.Ok){L:List ae}(hL:ao C.P (aj L)){N n:Nat}{f:FuncId}{ks:List AK}{out:eJ}(hh:yT (fx C (aj L) (cG C (aj L) N n) f [] (AK.avs ks) none) out=true) :ah C.P (aG f ks out):=by
  have h:=uG hh
  intro lent args alts a ha hm ho
  simp only [aG] at ha
  split at ha
  · cases hq:nA ks args with
    | false=>rw [hq] at ha;cases ha
    | true =>
      rw [hq] at ha
      cases ha
      simp only [List.mem_singleton] at hm
      subst hm
      cases hr:fx C (aj L) (cG C (aj L) N n) f [] (AK.avs ks) none with
      | none=>rw [hr] at h;cases h
      | some x =>
        obtain ⟨o,l,p⟩:=x
        rw [hr] at h
        simp only [B4] at h
        cases hl:wI l with
        | false=>rw [hl] at h;cases h
        | true =>
          rw [hl] at h
          cases h
          have c:=ak.run hC hL none N n hr (lP hl)
          intro ρ w us hN hv
          exact c ρ w us hN (pS ks args hq hv)
  · cases ha
def gz(f:FuncId)(lent0:List aq)(args0:List AV)(out:eJ) :ae:=⟨f,fun lent args=>bif yS (lent.map some) (lent0.map some)&&qH args args0 then some [⟨out,[]⟩] else none⟩
theorem eM{C:ki}(hC:C.Ok){L:List ae}(hL:ao C.P (aj L)){N n:Nat}{f:FuncId}{lent0:List aq}{args0:List AV}{out:eJ}(hh:yT (fx C (aj L) (cG C (aj L) N n) f lent0 args0 none) out=true) :ah C.P (gz f lent0 args0 out):=by
  have h:=uG hh
  intro lent args alts a ha hm ho
  simp only [gz] at ha
  cases hq:yS (lent.map some) (lent0.map some)&&qH args args0 with
  | false=>rw [hq] at ha;cases ha
  | true =>
    rw [hq] at ha
    simp only [Bool.and_eq_true] at hq
    have e1:lent=lent0:=by
      have:=tD hq.1
      exact (List.map_inj_right (fun _ _ q=>Option.some.inj q)).1 this
    have e2:=ph _ _ hq.2
    subst e1;subst e2
    cases ha
    simp only [List.mem_singleton] at hm
    subst hm
    cases hr:fx C (aj L) (cG C (aj L) N n) f lent args none with
    | none=>rw [hr] at h;cases h
    | some x =>
      obtain ⟨o,l,p⟩:=x
      rw [hr] at h
      simp only [B4] at h
      cases hl:wI l with
      | false=>rw [hl] at h;cases h
      | true =>
        rw [hl] at h
        cases h
        exact ak.run hC hL none N n hr (lP hl)
end
end Go.Plb
namespace Go.Plb.Seat
open Go Go.Plb
noncomputable def T5:List ae:=yW::uK::Vu
theorem fi:ao prog (aj T5):=aa Ja (aa Fq M1)
end Go.Plb.Seat
namespace Go.Plb.Seat
open Go Go.Plb
set_option maxRecDepth 100000
noncomputable section
def Nb:ae:=aG 134 [.i .i64 2,.i .i64 3] ⟨(.tup [(.agg [(.bool false false),(.imm .free (.ns .u64 [9]) 1 1 0 1),(.int .i64 (-92))]),(.int .i64 0)]),[]⟩
theorem RK:ah prog Nb:=aD ax fi (N:=100) (n:=1000) (by kernel_rfl)
def RL:List ae:=Nb::T5
theorem B8:ao prog (aj RL):=aa RK fi
def Nc:ae:=aG 135 [.agg [.i .i64 2,.i .i64 3,.fl [0,0,0,0,0,0]]] ⟨(.tup [(.agg [(.bool true false),.nsl,(.int .i64 0)]),(.int .i64 0)]),[]⟩
theorem RM:ah prog Nc:=aD ax B8 (N:=100) (n:=1000) (by kernel_rfl)
def RN:List ae:=Nc::RL
theorem B9:ao prog (aj RN):=aa RM B8
def Nd:ae:=aG 139 [.agg [.i .i64 2,.i .i64 2,.fl [4607182418800017408,0,0,4607182418800017408]]] ⟨(.tup [(.agg [(.bool true false),.nsl,(.int .i64 0)]),(.int .i64 0)]),[]⟩
theorem RO:ah prog Nd:=aD ax B9 (N:=100) (n:=1000) (by kernel_rfl)
def RP:List ae:=Nd::RN
theorem Ca:ao prog (aj RP):=aa RO B9
def Nf:ae:=aG 139 [.agg [.i .i64 3,.i .i64 2,.fl [4607182418800017408,0,0,4607182418800017408,0,0]]] ⟨(.tup [(.agg [(.bool true false),.nsl,(.int .i64 0)]),(.int .i64 0)]),[]⟩
theorem RQ:ah prog Nf:=aD ax Ca (N:=100) (n:=1000) (by kernel_rfl)
def RR:List ae:=Nf::RP
theorem Cb:ao prog (aj RR):=aa RQ Ca
def Ng:ae:=aG 143 [.agg [.i .i64 2,.i .i64 3,.fl [0,0,0,0,0,0]],.agg [.i .i64 3,.i .i64 2,.fl [4607182418800017408,0,0,4607182418800017408,0,0]],.agg [.i .i64 2,.i .i64 2,.fl [4607182418800017408,0,0,4607182418800017408]],.fl [0,0]] ⟨(.tup [(.agg [(.bool true false),.nsl,(.int .i64 0)]),(.int .i64 0)]),[]⟩
theorem RS:ah prog Ng:=aD ax Cb (N:=100) (n:=1000) (by kernel_rfl)
def RT:List ae:=Ng::RR
theorem Cc:ao prog (aj RT):=aa RS Cb
def Nh:ae:=aG 143 [.agg [.i .i64 3,.i .i64 2,.fl [0,0,0,0,0,0]],.agg [.i .i64 2,.i .i64 2,.fl [4607182418800017408,0,0,4607182418800017408]],.agg [.i .i64 3,.i .i64 2,.fl [4607182418800017408,0,0,4607182418800017408,0,0]],.fl [0,0]] ⟨(.tup [(.agg [(.bool true false),.nsl,(.int .i64 0)]),(.int .i64 0)]),[]⟩
theorem RU:ah prog Nh:=aD ax Cc (N:=100) (n:=1000) (by kernel_rfl)
def RV:List ae:=Nh::RT
theorem Cd:ao prog (aj RV):=aa RU Cc
def Ni:ae:=aG 63 [.agg [.i .i64 2,.i .i64 3,.fl [0,0,0,0,0,0]],.fl [0,0],.agg [.i .i64 2,.i .i64 2,.fl [4607182418800017408,0,0,4607182418800017408]],.agg [.i .i64 3,.i .i64 2,.fl [4607182418800017408,0,0,4607182418800017408,0,0]]] ⟨(.tup [(.bool true true),(.int .i64 0)]),[]⟩
theorem RW:ah prog Ni:=aD ax Cd (N:=100) (n:=1000) (by kernel_rfl)
def RX:List ae:=Ni::RV
theorem Ce:ao prog (aj RX):=aa RW Cd
def Fr:ae:=aG 18 [.i .i64 2,.i .i64 3,.ns .u64 [0,0,0,0,0,0],.i .i64 1] ⟨(.agg [(.int .i64 0),(.sl 0 1 1 0 2 2),(.int .i64 2),(.int .i64 2),(.sl 1 1 1 0 4 4),(.int .i64 3),(.int .i64 2),(.sl 2 1 1 0 6 6),(.int .i64 0)]),[some (.fl [0,0]),some (.fl [4607182418800017408,0,0,4607182418800017408]),some (.fl [4607182418800017408,0,0,4607182418800017408,0,0])]⟩
theorem Jc:ah prog Fr:=aD ax Ce (N:=100) (n:=1000) (by kernel_rfl)
def RY:List ae:=Fr::RX
theorem Cf:ao prog (aj RY):=aa Jc Ce
def Fs:ae:=aG 18 [.i .i64 513,.i .i64 0,.nil,.i .i64 1] ⟨(.agg [(.int .i64 1),.nsl,(.int .i64 0),(.int .i64 0),.nsl,(.int .i64 0),(.int .i64 0),.nsl,(.int .i64 0)]),[]⟩
theorem Jd:ah prog Fs:=aD ax Cf (N:=100) (n:=1000) (by kernel_rfl)
def RZ:List ae:=Fs::RY
theorem Cg:ao prog (aj RZ):=aa Jd Cf
def yX:ae:=aG 18 [.i .i64 (-1),.i .i64 1,.nil,.i .i64 1] ⟨(.agg [(.int .i64 1),.nsl,(.int .i64 0),(.int .i64 0),.nsl,(.int .i64 0),(.int .i64 0),.nsl,(.int .i64 0)]),[]⟩
theorem Ch:ah prog yX:=aD ax Cg (N:=100) (n:=1000) (by kernel_rfl)
def Nj:List ae:=yX::RZ
theorem yY:ao prog (aj Nj):=aa Ch Cg
def yZ:ae:=aG 18 [.i .i64 1,.i .i64 1,.nil,.i .i64 1] ⟨(.agg [(.int .i64 1),.nsl,(.int .i64 0),(.int .i64 0),.nsl,(.int .i64 0),(.int .i64 0),.nsl,(.int .i64 0)]),[]⟩
theorem Ci:ah prog yZ:=aD ax yY (N:=100) (n:=1000) (by kernel_rfl)
def Nk:List ae:=yZ::Nj
theorem za:ao prog (aj Nk):=aa Ci yY
def zb:ae:=aG 18 [.i .i64 0,.i .i64 0,.nil,.i .i64 0] ⟨(.agg [(.int .i64 1),.nsl,(.int .i64 0),(.int .i64 0),.nsl,(.int .i64 0),(.int .i64 0),.nsl,(.int .i64 0)]),[]⟩
theorem Cj:ah prog zb:=aD ax za (N:=100) (n:=1000) (by kernel_rfl)
def UF:List ae:=zb::Nk
theorem Mf:ao prog (aj UF):=aa Cj za
def Je:ae:=aG 18 [.i .i64 1,.i .i64 1,.ns .u64 [2801238968224448512],.i .i64 2] ⟨(.agg [(.int .i64 2),.nsl,(.int .i64 0),(.int .i64 0),.nsl,(.int .i64 0),(.int .i64 0),.nsl,(.int .i64 0)]),[]⟩
theorem PC:ah prog Je:=aD ax Mf (N:=100) (n:=1000) (by kernel_rfl)
def Nl:ae:=aG 134 [.i .i64 1,.i .i64 3] ⟨(.tup [(.agg [(.bool false false),(.imm .free (.ns .u64 [9]) 1 1 0 1),(.int .i64 (-94))]),(.int .i64 0)]),[]⟩
theorem R0:ah prog Nl:=aD ax fi (N:=100) (n:=1000) (by kernel_rfl)
def R1:List ae:=Nl::T5
theorem Ck:ao prog (aj R1):=aa R0 fi
def Nm:ae:=aG 135 [.agg [.i .i64 1,.i .i64 3,.fl [4611686018427387904,4613937818241073152,4618441417868443648]]] ⟨(.tup [(.agg [(.bool true false),(.imm .free (.ns .u64 [49]) 1 1 0 1),(.int .i64 0)]),(.int .i64 0)]),[]⟩
theorem R2:ah prog Nm:=aD ax Ck (N:=100) (n:=1000) (by kernel_rfl)
def R3:List ae:=Nm::R1
theorem Cl:ao prog (aj R3):=aa R2 Ck
def Nn:ae:=aG 139 [.agg [.i .i64 1,.i .i64 1,.fl [13830554455654793216]]] ⟨(.tup [(.agg [(.bool true false),.nsl,(.int .i64 0)]),(.int .i64 0)]),[]⟩
theorem R4:ah prog Nn:=aD ax Cl (N:=100) (n:=1000) (by kernel_rfl)
def R5:List ae:=Nn::R3
theorem Cm:ao prog (aj R5):=aa R4 Cl
def No:ae:=aG 139 [.agg [.i .i64 3,.i .i64 1,.fl [13822190627775390864,13824764113276745434,13829267712904115930]]] ⟨(.tup [(.agg [(.bool true false),(.imm .free (.ns .u64 [14424018594306452265,60675090642985]) 1 1 0 2),(.int .i64 (-212))]),(.int .i64 0)]),[]⟩
theorem R6:ah prog No:=aD ax Cm (N:=100) (n:=1000) (by kernel_rfl)
def R7:List ae:=No::R5
theorem Cn:ao prog (aj R7):=aa R6 Cm
def Np:ae:=aG 143 [.agg [.i .i64 1,.i .i64 3,.fl [4611686018427387904,4613937818241073152,4618441417868443648]],.agg [.i .i64 3,.i .i64 1,.fl [13822190627775390864,13824764113276745434,13829267712904115930]],.agg [.i .i64 1,.i .i64 1,.fl [13830554455654793216]],.fl [4619567317775286273]] ⟨(.tup [(.agg [(.bool true false),(.imm .free (.ns .u64 [441]) 1 1 0 1),(.int .i64 (-106))]),(.int .i64 0)]),[]⟩
theorem R8:ah prog Np:=aD ax Cn (N:=100) (n:=1000) (by kernel_rfl)
def R9:List ae:=Np::R7
theorem Co:ao prog (aj R9):=aa R8 Cn
def Nq:ae:=aG 143 [.agg [.i .i64 3,.i .i64 1,.fl [4611686018427387904,4613937818241073152,4618441417868443648]],.agg [.i .i64 1,.i .i64 1,.fl [13830554455654793216]],.agg [.i .i64 3,.i .i64 1,.fl [13822190627775390864,13824764113276745434,13829267712904115930]],.fl [4619567317775286273]] ⟨(.tup [(.agg [(.bool true false),(.imm .free (.ns .u64 [27343283451892301,3092376453120]) 1 1 0 2),(.int .i64 (-206))]),(.int .i64 0)]),[]⟩
theorem Sa:ah prog Nq:=aD ax Co (N:=100) (n:=1000) (by kernel_rfl)
def Sb:List ae:=Nq::R9
theorem Cp:ao prog (aj Sb):=aa Sa Co
def Nr:ae:=aG 63 [.agg [.i .i64 1,.i .i64 3,.fl [4611686018427387904,4613937818241073152,4618441417868443648]],.fl [4619567317775286273],.agg [.i .i64 1,.i .i64 1,.fl [13830554455654793216]],.agg [.i .i64 3,.i .i64 1,.fl [13822190627775390864,13824764113276745434,13829267712904115930]]] ⟨(.tup [(.bool true true),(.int .i64 0)]),[]⟩
theorem Sc:ah prog Nr:=aD ax Cp (N:=100) (n:=1000) (by kernel_rfl)
def VA:List ae:=Nr::Sb
theorem PD:ao prog (aj VA):=aa Sc Cp
def Ns:ae:=aG 18 [.i .i64 1,.i .i64 3,.ns .u64 [4611686018427387904,4613937818241073152,4618441417868443648],.i .i64 1] ⟨(.agg [(.int .i64 0),(.sl 0 1 1 0 1 1),(.int .i64 1),(.int .i64 1),(.sl 1 1 1 0 1 1),(.int .i64 3),(.int .i64 1),(.sl 2 1 1 0 3 3),(.int .i64 0)]),[some (.fl [4619567317775286273]),some (.fl [13830554455654793216]),some (.fl [13822190627775390864,13824764113276745434,13829267712904115930])]⟩
theorem Sd:ah prog Ns:=aD ax PD (N:=100) (n:=1000) (by kernel_rfl)
def Nt:ae:=aG 134 [.i .i64 1,.i .i64 3] ⟨(.tup [(.agg [(.bool false false),(.imm .free (.ns .u64 [9]) 1 1 0 1),(.int .i64 (-94))]),(.int .i64 0)]),[]⟩
theorem Se:ah prog Nt:=aD ax fi (N:=100) (n:=1000) (by kernel_rfl)
def Sh:List ae:=Nt::T5
theorem Cq:ao prog (aj Sh):=aa Se fi
def Nu:ae:=aG 135 [.agg [.i .i64 1,.i .i64 3,.fl [4611686018427387904,4613937818241073152,4618441417868443648]]] ⟨(.tup [(.agg [(.bool true false),(.imm .free (.ns .u64 [49]) 1 1 0 1),(.int .i64 0)]),(.int .i64 0)]),[]⟩
theorem Si:ah prog Nu:=aD ax Cq (N:=100) (n:=1000) (by kernel_rfl)
def Sj:List ae:=Nu::Sh
theorem Cr:ao prog (aj Sj):=aa Si Cq
def Nv:ae:=aG 139 [.agg [.i .i64 1,.i .i64 1,.fl [4607182418800017408]]] ⟨(.tup [(.agg [(.bool true false),.nsl,(.int .i64 0)]),(.int .i64 0)]),[]⟩
theorem Sk:ah prog Nv:=aD ax Cr (N:=100) (n:=1000) (by kernel_rfl)
def Sl:List ae:=Nv::Sj
theorem Cs:ao prog (aj Sl):=aa Sk Cr
def Nw:ae:=aG 139 [.agg [.i .i64 3,.i .i64 1,.fl [4598818590920615058,4601392076421969627,4605895676049340123]]] ⟨(.tup [(.agg [(.bool true false),(.imm .free (.ns .u64 [18374686479671623681,70368744177663]) 1 1 0 2),(.int .i64 (-216))]),(.int .i64 0)]),[]⟩
theorem Sm:ah prog Nw:=aD ax Cs (N:=100) (n:=1000) (by kernel_rfl)
def Sn:List ae:=Nw::Sl
theorem Ct:ao prog (aj Sn):=aa Sm Cs
def Nx:ae:=aG 143 [.agg [.i .i64 1,.i .i64 3,.fl [4611686018427387904,4613937818241073152,4618441417868443648]],.agg [.i .i64 3,.i .i64 1,.fl [4598818590920615058,4601392076421969627,4605895676049340123]],.agg [.i .i64 1,.i .i64 1,.fl [4607182418800017408]],.fl [4619567317775286272]] ⟨(.tup [(.agg [(.bool true false),(.imm .free (.ns .u64 [49]) 1 1 0 1),(.int .i64 (-108))]),(.int .i64 0)]),[]⟩
theorem So:ah prog Nx:=aD ax Ct (N:=100) (n:=1000) (by kernel_rfl)
def Sp:List ae:=Nx::Sn
theorem Cu:ao prog (aj Sp):=aa So Ct
def Ny:ae:=aG 143 [.agg [.i .i64 3,.i .i64 1,.fl [4611686018427387904,4613937818241073152,4618441417868443648]],.agg [.i .i64 1,.i .i64 1,.fl [4607182418800017408]],.agg [.i .i64 3,.i .i64 1,.fl [4598818590920615058,4601392076421969627,4605895676049340123]],.fl [4619567317775286272]] ⟨(.tup [(.agg [(.bool true false),(.imm .free (.ns .u64 [49]) 1 1 0 1),(.int .i64 (-108))]),(.int .i64 0)]),[]⟩
theorem Sq:ah prog Ny:=aD ax Cu (N:=100) (n:=1000) (by kernel_rfl)
def Sr:List ae:=Ny::Sp
theorem Cv:ao prog (aj Sr):=aa Sq Cu
def Nz:ae:=aG 63 [.agg [.i .i64 1,.i .i64 3,.fl [4611686018427387904,4613937818241073152,4618441417868443648]],.fl [4619567317775286272],.agg [.i .i64 1,.i .i64 1,.fl [4607182418800017408]],.agg [.i .i64 3,.i .i64 1,.fl [4598818590920615058,4601392076421969627,4605895676049340123]]] ⟨(.tup [(.bool true true),(.int .i64 0)]),[]⟩
theorem Ss:ah prog Nz:=aD ax Cv (N:=100) (n:=1000) (by kernel_rfl)
def VB:List ae:=Nz::Sr
theorem PE:ao prog (aj VB):=aa Ss Cv
def NA:ae:=aG 18 [.i .i64 1,.i .i64 3,.ns .u64 [4611686018427387904,4613937818241073152,4618441417868443648],.i .i64 2] ⟨(.agg [(.int .i64 0),(.sl 0 1 1 0 1 1),(.int .i64 1),(.int .i64 1),(.sl 1 1 1 0 1 1),(.int .i64 3),(.int .i64 1),(.sl 2 1 1 0 3 3),(.int .i64 1)]),[some (.fl [4619567317775286272]),some (.fl [4607182418800017408]),some (.fl [4598818590920615058,4601392076421969627,4605895676049340123])]⟩
theorem St:ah prog NA:=aD ax PE (N:=100) (n:=1000) (by kernel_rfl)
def NB:ae:=aG 134 [.i .i64 2,.i .i64 2] ⟨(.tup [(.agg [(.bool false false),(.imm .free (.ns .u64 [1]) 1 1 0 1),(.int .i64 (-90))]),(.int .i64 0)]),[]⟩
theorem Su:ah prog NB:=aD ax fi (N:=100) (n:=1000) (by kernel_rfl)
def Sv:List ae:=NB::T5
theorem Cw:ao prog (aj Sv):=aa Su fi
def NC:ae:=aG 135 [.agg [.i .i64 2,.i .i64 2,.fl [4607182418800017408,4607182418800017408,4607182418800017408,4607182418800017408]]] ⟨(.tup [(.agg [(.bool true false),(.imm .free (.ns .u64 [1]) 1 1 0 1),(.int .i64 2)]),(.int .i64 0)]),[]⟩
theorem Sw:ah prog NC:=aD ax Cw (N:=100) (n:=1000) (by kernel_rfl)
def Sx:List ae:=NC::Sv
theorem Cx:ao prog (aj Sx):=aa Sw Cw
def ND:ae:=aG 139 [.agg [.i .i64 2,.i .i64 2,.fl [13827916308072577994,13827916308072577996,13827916308072577996,4604544271217802188]]] ⟨(.tup [(.agg [(.bool true false),(.imm .free (.ns .u64 [18066139321340485777,7183874135451]) 1 1 0 2),(.int .i64 (-208))]),(.int .i64 0)]),[]⟩
theorem Sy:ah prog ND:=aD ax Cx (N:=100) (n:=1000) (by kernel_rfl)
def Sz:List ae:=ND::Sx
theorem Cy:ao prog (aj Sz):=aa Sy Cx
def NE:ae:=aG 139 [.agg [.i .i64 2,.i .i64 2,.fl [13827916308072577996,4604544271217802188,13827916308072577996,13827916308072577996]]] ⟨(.tup [(.agg [(.bool true false),(.imm .free (.ns .u64 [9547959356134818705,10953886369]) 1 1 0 2),(.int .i64 (-201))]),(.int .i64 0)]),[]⟩
theorem SB:ah prog NE:=aD ax Cy (N:=100) (n:=1000) (by kernel_rfl)
def SC:List ae:=NE::Sz
theorem Cz:ao prog (aj SC):=aa SB Cy
def NF:ae:=aG 143 [.agg [.i .i64 2,.i .i64 2,.fl [4607182418800017408,4607182418800017408,4607182418800017408,4607182418800017408]],.agg [.i .i64 2,.i .i64 2,.fl [13827916308072577996,4604544271217802188,13827916308072577996,13827916308072577996]],.agg [.i .i64 2,.i .i64 2,.fl [13827916308072577994,13827916308072577996,13827916308072577996,4604544271217802188]],.fl [4611686018427387904,0]] ⟨(.tup [(.agg [(.bool true false),(.imm .free (.ns .u64 [1]) 1 1 0 1),(.int .i64 (-102))]),(.int .i64 0)]),[]⟩
theorem SD:ah prog NF:=aD ax Cz (N:=100) (n:=1000) (by kernel_rfl)
def SE:List ae:=NF::SC
theorem CA:ao prog (aj SE):=aa SD Cz
def NG:ae:=aG 143 [.agg [.i .i64 2,.i .i64 2,.fl [4607182418800017408,4607182418800017408,4607182418800017408,4607182418800017408]],.agg [.i .i64 2,.i .i64 2,.fl [13827916308072577994,13827916308072577996,13827916308072577996,4604544271217802188]],.agg [.i .i64 2,.i .i64 2,.fl [13827916308072577996,4604544271217802188,13827916308072577996,13827916308072577996]],.fl [4611686018427387904,0]] ⟨(.tup [(.agg [(.bool true false),(.imm .free (.ns .u64 [1]) 1 1 0 1),(.int .i64 (-103))]),(.int .i64 0)]),[]⟩
theorem SF:ah prog NG:=aD ax CA (N:=100) (n:=1000) (by kernel_rfl)
def SG:List ae:=NG::SE
theorem CB:ao prog (aj SG):=aa SF CA
def NH:ae:=aG 63 [.agg [.i .i64 2,.i .i64 2,.fl [4607182418800017408,4607182418800017408,4607182418800017408,4607182418800017408]],.fl [4611686018427387904,0],.agg [.i .i64 2,.i .i64 2,.fl [13827916308072577994,13827916308072577996,13827916308072577996,4604544271217802188]],.agg [.i .i64 2,.i .i64 2,.fl [13827916308072577996,4604544271217802188,13827916308072577996,13827916308072577996]]] ⟨(.tup [(.bool true true),(.int .i64 0)]),[]⟩
theorem SH:ah prog NH:=aD ax CB (N:=100) (n:=1000) (by kernel_rfl)
def VC:List ae:=NH::SG
theorem PF:ao prog (aj VC):=aa SH CB
def NI:ae:=aG 18 [.i .i64 2,.i .i64 2,.ns .u64 [4607182418800017408,4607182418800017408,4607182418800017408,4607182418800017408],.i .i64 1] ⟨(.agg [(.int .i64 0),(.sl 0 1 1 0 2 2),(.int .i64 2),(.int .i64 2),(.sl 1 1 1 0 4 4),(.int .i64 2),(.int .i64 2),(.sl 2 1 1 0 4 4),(.int .i64 2)]),[some (.fl [4611686018427387904,0]),some (.fl [13827916308072577994,13827916308072577996,13827916308072577996,4604544271217802188]),some (.fl [13827916308072577996,4604544271217802188,13827916308072577996,13827916308072577996])]⟩
theorem SI:ah prog NI:=aD ax PF (N:=100) (n:=1000) (by kernel_rfl)
def NJ:ae:=aG 134 [.i .i64 2,.i .i64 2] ⟨(.tup [(.agg [(.bool false false),(.imm .free (.ns .u64 [1]) 1 1 0 1),(.int .i64 (-90))]),(.int .i64 0)]),[]⟩
theorem SJ:ah prog NJ:=aD ax fi (N:=100) (n:=1000) (by kernel_rfl)
def SK:List ae:=NJ::T5
theorem CC:ao prog (aj SK):=aa SJ fi
def NK:ae:=aG 135 [.agg [.i .i64 2,.i .i64 2,.fl [4607182418800017408,4607182418800017408,4607182418800017408,4607182418800017408]]] ⟨(.tup [(.agg [(.bool true false),(.imm .free (.ns .u64 [1]) 1 1 0 1),(.int .i64 2)]),(.int .i64 0)]),[]⟩
theorem SL:ah prog NK:=aD ax CC (N:=100) (n:=1000) (by kernel_rfl)
def SM:List ae:=NK::SK
theorem CD:ao prog (aj SM):=aa SL CC
def NL:ae:=aG 139 [.agg [.i .i64 2,.i .i64 2,.fl [4604544271217802188,4604544271217802189,4604544271217802188,13827916308072577996]]] ⟨(.tup [(.agg [(.bool true false),(.imm .free (.ns .u64 [3760707151906928337,15761764443478]) 1 1 0 2),(.int .i64 (-212))]),(.int .i64 0)]),[]⟩
theorem SN:ah prog NL:=aD ax CD (N:=100) (n:=1000) (by kernel_rfl)
def SO:List ae:=NL::SM
theorem CE:ao prog (aj SO):=aa SN CD
def NM:ae:=aG 139 [.agg [.i .i64 2,.i .i64 2,.fl [4604544271217802188,4604544271217802188,4604544271217802188,13827916308072577996]]] ⟨(.tup [(.agg [(.bool true false),(.imm .free (.ns .u64 [9547959356134818705,10953886369]) 1 1 0 2),(.int .i64 (-201))]),(.int .i64 0)]),[]⟩
theorem SP:ah prog NM:=aD ax CE (N:=100) (n:=1000) (by kernel_rfl)
def SQ:List ae:=NM::SO
theorem CF:ao prog (aj SQ):=aa SP CE
def NN:ae:=aG 143 [.agg [.i .i64 2,.i .i64 2,.fl [4607182418800017408,4607182418800017408,4607182418800017408,4607182418800017408]],.agg [.i .i64 2,.i .i64 2,.fl [4604544271217802188,4604544271217802188,4604544271217802188,13827916308072577996]],.agg [.i .i64 2,.i .i64 2,.fl [4604544271217802188,4604544271217802189,4604544271217802188,13827916308072577996]],.fl [4611686018427387904,0]] ⟨(.tup [(.agg [(.bool true false),.nsl,(.int .i64 0)]),(.int .i64 0)]),[]⟩
theorem SS:ah prog NN:=aD ax CF (N:=100) (n:=1000) (by kernel_rfl)
def SU:List ae:=NN::SQ
theorem CG:ao prog (aj SU):=aa SS CF
def NO:ae:=aG 143 [.agg [.i .i64 2,.i .i64 2,.fl [4607182418800017408,4607182418800017408,4607182418800017408,4607182418800017408]],.agg [.i .i64 2,.i .i64 2,.fl [4604544271217802188,4604544271217802189,4604544271217802188,13827916308072577996]],.agg [.i .i64 2,.i .i64 2,.fl [4604544271217802188,4604544271217802188,4604544271217802188,13827916308072577996]],.fl [4611686018427387904,0]] ⟨(.tup [(.agg [(.bool true false),(.imm .free (.ns .u64 [1]) 1 1 0 1),(.int .i64 (-105))]),(.int .i64 0)]),[]⟩
theorem SV:ah prog NO:=aD ax CG (N:=100) (n:=1000) (by kernel_rfl)
def SW:List ae:=NO::SU
theorem CH:ao prog (aj SW):=aa SV CG
def NP:ae:=aG 63 [.agg [.i .i64 2,.i .i64 2,.fl [4607182418800017408,4607182418800017408,4607182418800017408,4607182418800017408]],.fl [4611686018427387904,0],.agg [.i .i64 2,.i .i64 2,.fl [4604544271217802188,4604544271217802189,4604544271217802188,13827916308072577996]],.agg [.i .i64 2,.i .i64 2,.fl [4604544271217802188,4604544271217802188,4604544271217802188,13827916308072577996]]] ⟨(.tup [(.bool true true),(.int .i64 0)]),[]⟩
theorem SX:ah prog NP:=aD ax CH (N:=100) (n:=1000) (by kernel_rfl)
def SY:List ae:=NP::SW
theorem CI:ao prog (aj SY):=aa SX CH
def NQ:ae:=gz 338 [(.vs [(.sl 1 1 1 0 4 4)]),(.fl [4602678819172646912,4602678819172646912,4602678819172646912,4602678819172646912])] [(.agg [(.ptr 0 1 0 0),(.int .i64 2),(.int .i64 1),(.int .i64 0),(.int .i64 2),(.int .i64 1)]),(.agg [(.ptr 0 1 0 0),(.int .i64 2),(.int .i64 1),(.int .i64 1),(.int .i64 2),(.int .i64 1)]),(.flt false 4604544271217802188),(.flt false 4604544271217802188)] ⟨(.tup []),[some (.vs [(.sl 1 1 1 0 4 4)]),some (.fl [0,4604544271217802188,0,4604544271217802188])]⟩
theorem SZ:ah prog NQ:=eM ax CI (N:=100) (n:=1000) (by kernel_rfl)
def S5:List ae:=NQ::SY
theorem CJ:ao prog (aj S5):=aa SZ CI
def NR:ae:=gz 338 [(.vs [(.sl 1 1 1 0 4 4)]),(.fl [4607182418800017408,0,0,4607182418800017408])] [(.agg [(.ptr 0 1 0 0),(.int .i64 2),(.int .i64 1),(.int .i64 0),(.int .i64 2),(.int .i64 1)]),(.agg [(.ptr 0 1 0 0),(.int .i64 2),(.int .i64 1),(.int .i64 1),(.int .i64 2),(.int .i64 1)]),(.flt false 4604544271217802188),(.flt false 4604544271217802188)] ⟨(.tup []),[some (.vs [(.sl 1 1 1 0 4 4)]),some (.fl [4604544271217802188,4604544271217802188,13827916308072577996,4604544271217802188])]⟩
theorem S6:ah prog NR:=eM ax CJ (N:=100) (n:=1000) (by kernel_rfl)
def S7:List ae:=NR::S5
theorem CM:ao prog (aj S7):=aa S6 CJ
def Jf:ae:=gz 299 [(.vs [(.sl 1 1 1 0 4 4)]),(.fl [4602678819172646912,4602678819172646912,4602678819172646912,4602678819172646912]),(.vs [(.sl 3 1 1 0 4 4)]),(.fl [4607182418800017408,0,0,4607182418800017408])] [(.agg [(.ptr 0 1 0 0),(.int .i64 2),(.int .i64 2),(.int .i64 0),(.int .i64 2),(.int .i64 1)]),(.agg [(.ptr 2 1 0 0),(.int .i64 2),(.int .i64 2),(.int .i64 0),(.int .i64 2),(.int .i64 1)])] ⟨(.int .i64 1),[some (.vs [(.sl 1 1 1 0 4 4)]),some (.fl [0,4604544271217802188,0,4604544271217802188]),some (.vs [(.sl 3 1 1 0 4 4)]),some (.fl [4604544271217802188,4604544271217802188,13827916308072577996,4604544271217802188])]⟩
theorem PG:ah prog Jf:=eM ax CM (N:=100) (n:=1000) (by kernel_rfl)
def NT:List ae:=Jf::S7
theorem zc:ao prog (aj NT):=aa PG CM
def Jg:ae:=gz 299 [(.vs [(.sl 1 1 1 0 4 4)]),(.fl [0,4604544271217802188,0,4604544271217802188]),(.vs [(.sl 3 1 1 0 4 4)]),(.fl [4604544271217802188,4604544271217802188,13827916308072577996,4604544271217802188])] [(.agg [(.ptr 0 1 0 0),(.int .i64 2),(.int .i64 2),(.int .i64 0),(.int .i64 2),(.int .i64 1)]),(.agg [(.ptr 2 1 0 0),(.int .i64 2),(.int .i64 2),(.int .i64 0),(.int .i64 2),(.int .i64 1)])] ⟨(.int .i64 0),[some (.vs [(.sl 1 1 1 0 4 4)]),some (.fl [0,4604544271217802188,0,4604544271217802188]),some (.vs [(.sl 3 1 1 0 4 4)]),some (.fl [4604544271217802188,4604544271217802188,13827916308072577996,4604544271217802188])]⟩
theorem PH:ah prog Jg:=eM ax zc (N:=100) (n:=1000) (by kernel_rfl)
def NU:List ae:=Jg::NT
theorem zd:ao prog (aj NU):=aa PH zc
def Jh:ae:=gz 300 [(.vs [(.sl 1 1 1 0 4 4)]),(.fl [0,4604544271217802188,0,4604544271217802188])] [(.agg [(.ptr 0 1 0 0),(.int .i64 2),(.int .i64 1),(.int .i64 1),(.int .i64 2),(.int .i64 1)]),(.flt false 4607182418800017408)] ⟨(.tup []),[some (.vs [(.sl 1 1 1 0 4 4)]),some (.fl [0,4604544271217802188,0,4604544271217802188])]⟩
theorem PI:ah prog Jh:=eM ax zd (N:=100) (n:=1000) (by kernel_rfl)
def NV:List ae:=Jh::NU
theorem ze:ao prog (aj NV):=aa PI zd
def Ji:ae:=gz 339 [(.vs [(.sl 1 1 1 0 4 4)]),(.fl [0,4604544271217802188,0,4604544271217802188])] [(.agg [(.ptr 0 1 0 0),(.int .i64 2),(.int .i64 1),(.int .i64 0),(.int .i64 2),(.int .i64 1)]),(.agg [(.ptr 0 1 0 0),(.int .i64 2),(.int .i64 1),(.int .i64 1),(.int .i64 2),(.int .i64 1)])] ⟨(.int .i64 0),[some (.vs [(.sl 1 1 1 0 4 4)]),some (.fl [4604544271217802188,0,4604544271217802188,0])]⟩
theorem PJ:ah prog Ji:=eM ax ze (N:=100) (n:=1000) (by kernel_rfl)
def NW:List ae:=Ji::NV
theorem zf:ao prog (aj NW):=aa PJ ze
def Jj:ae:=gz 339 [(.vs [(.sl 1 1 1 0 4 4)]),(.fl [4604544271217802188,4604544271217802188,13827916308072577996,4604544271217802188])] [(.agg [(.ptr 0 1 0 0),(.int .i64 2),(.int .i64 1),(.int .i64 0),(.int .i64 2),(.int .i64 1)]),(.agg [(.ptr 0 1 0 0),(.int .i64 2),(.int .i64 1),(.int .i64 1),(.int .i64 2),(.int .i64 1)])] ⟨(.int .i64 0),[some (.vs [(.sl 1 1 1 0 4 4)]),some (.fl [4604544271217802188,4604544271217802188,4604544271217802188,13827916308072577996])]⟩
theorem PK:ah prog Jj:=eM ax zf (N:=100) (n:=1000) (by kernel_rfl)
def NX:List ae:=Jj::NW
theorem zg:ao prog (aj NX):=aa PK zf
def Jk:ae:=gz 301 [(.fl [0,4607182418800017408]),(.vs [(.ptr 2 1 0 0),(.int .i64 2),(.int .i64 2),(.int .i64 0),(.int .i64 2),(.int .i64 1),(.ptr 4 1 0 0),(.int .i64 2),(.int .i64 2),(.int .i64 0),(.int .i64 2),(.int .i64 1)]),(.vs [(.sl 3 1 1 0 4 4)]),(.fl [0,4604544271217802188,0,4604544271217802188]),(.vs [(.sl 5 1 1 0 4 4)]),(.fl [4604544271217802188,4604544271217802188,13827916308072577996,4604544271217802188])] [(.sl 0 1 1 0 2 2),(.sl 1 1 6 0 2 2)] ⟨(.tup []),[some (.fl [4607182418800017408,0]),some (.vs [(.ptr 2 1 0 0),(.int .i64 2),(.int .i64 2),(.int .i64 0),(.int .i64 2),(.int .i64 1),(.ptr 4 1 0 0),(.int .i64 2),(.int .i64 2),(.int .i64 0),(.int .i64 2),(.int .i64 1)]),some (.vs [(.sl 3 1 1 0 4 4)]),some (.fl [4604544271217802188,0,4604544271217802188,0]),some (.vs [(.sl 5 1 1 0 4 4)]),some (.fl [4604544271217802188,4604544271217802188,4604544271217802188,13827916308072577996])]⟩
theorem PL:ah prog Jk:=eM ax zg (N:=100) (n:=1000) (by kernel_rfl)
def NY:List ae:=Jk::NX
theorem zh:ao prog (aj NY):=aa PL zg
def Jl:ae:=gz 300 [(.vs [(.sl 1 1 1 0 2 2)]),(.fl [4602678819172646912,13826050856027422719])] [(.agg [(.ptr 0 1 0 0),(.int .i64 2),(.int .i64 1),(.int .i64 0),(.int .i64 1),(.int .i64 1)]),(.flt false 4604544271217802188)] ⟨(.tup []),[some (.vs [(.sl 1 1 1 0 2 2)]),some (.fl [4604544271217802189,13827916308072577996])]⟩
theorem PM:ah prog Jl:=eM ax zh (N:=100) (n:=1000) (by kernel_rfl)
def NZ:List ae:=Jl::NY
theorem zi:ao prog (aj NZ):=aa PM zh
def Jm:ae:=gz 302 [(.vs [(.sl 1 1 1 0 4 4)]),(.fl [4604544271217802188,0,4604544271217802188,0]),(.fl [4607182418800017408,0])] [(.agg [(.ptr 0 1 0 0),(.int .i64 2),(.int .i64 2),(.int .i64 0),(.int .i64 2),(.int .i64 1)]),(.sl 2 1 1 0 2 2)] ⟨(.tup []),[some (.vs [(.sl 1 1 1 0 4 4)]),some (.fl [4604544271217802188,4604544271217802189,4604544271217802188,13827916308072577996]),some (.fl [4607182418800017408,0])]⟩
theorem PN:ah prog Jm:=eM ax zi (N:=100) (n:=1000) (by kernel_rfl)
def N0:List ae:=Jm::NZ
theorem zj:ao prog (aj N0):=aa PN zi
def Jn:ae:=aG 215 [.agg [.i .i64 2,.i .i64 2,.fl [4602678819172646912,4602678819172646912,4602678819172646912,4602678819172646912]]] ⟨(.tup [(.sl 0 1 1 0 2 2),(.agg [(.int .i64 2),(.int .i64 2),(.sl 1 1 1 0 4 4)]),(.agg [(.int .i64 2),(.int .i64 2),(.sl 2 1 1 0 4 4)]),(.int .i64 2),(.int .i64 0)]),[some (.fl [4607182418800017408,0]),some (.fl [4604544271217802188,4604544271217802189,4604544271217802188,13827916308072577996]),some (.fl [4604544271217802188,4604544271217802188,4604544271217802188,13827916308072577996])]⟩
theorem PO:ah prog Jn:=aD ax zj (N:=100) (n:=1000) (by kernel_rfl)
def UG:List ae:=Jn::N0
theorem Mg:ao prog (aj UG):=aa PO zj
def Jo:ae:=aG 18 [.i .i64 2,.i .i64 2,.ns .u64 [4607182418800017408,4607182418800017408,4607182418800017408,4607182418800017408],.i .i64 2] ⟨(.agg [(.int .i64 0),(.sl 0 1 1 0 2 2),(.int .i64 2),(.int .i64 2),(.sl 1 1 1 0 4 4),(.int .i64 2),(.int .i64 2),(.sl 2 1 1 0 4 4),(.int .i64 2)]),[some (.fl [4611686018427387904,0]),some (.fl [4604544271217802188,4604544271217802189,4604544271217802188,13827916308072577996]),some (.fl [4604544271217802188,4604544271217802188,4604544271217802188,13827916308072577996])]⟩
theorem PP:ah prog Jo:=aD ax Mg (N:=100) (n:=1000) (by kernel_rfl)
def N2:ae:=aG 134 [.i .i64 2,.i .i64 3] ⟨(.tup [(.agg [(.bool false false),(.imm .free (.ns .u64 [9]) 1 1 0 1),(.int .i64 (-92))]),(.int .i64 0)]),[]⟩
theorem S8:ah prog N2:=aD ax fi (N:=100) (n:=1000) (by kernel_rfl)
def S9:List ae:=N2::T5
theorem CN:ao prog (aj S9):=aa S8 fi
def N3:ae:=aG 135 [.agg [.i .i64 2,.i .i64 3,.fl [0,0,0,0,0,0]]] ⟨(.tup [(.agg [(.bool true false),.nsl,(.int .i64 0)]),(.int .i64 0)]),[]⟩
theorem Ta:ah prog N3:=aD ax CN (N:=100) (n:=1000) (by kernel_rfl)
def Tb:List ae:=N3::S9
theorem CO:ao prog (aj Tb):=aa Ta CN
def N4:ae:=aG 139 [.agg [.i .i64 2,.i .i64 2,.fl [4607182418800017408,0,0,4607182418800017408]]] ⟨(.tup [(.agg [(.bool true false),.nsl,(.int .i64 0)]),(.int .i64 0)]),[]⟩
theorem Tc:ah prog N4:=aD ax CO (N:=100) (n:=1000) (by kernel_rfl)
def Td:List ae:=N4::Tb
theorem CQ:ao prog (aj Td):=aa Tc CO
def N5:ae:=aG 139 [.agg [.i .i64 3,.i .i64 2,.fl [4607182418800017408,0,0,4607182418800017408,0,0]]] ⟨(.tup [(.agg [(.bool true false),.nsl,(.int .i64 0)]),(.int .i64 0)]),[]⟩
theorem Te:ah prog N5:=aD ax CQ (N:=100) (n:=1000) (by kernel_rfl)
def Tf:List ae:=N5::Td
theorem CR:ao prog (aj Tf):=aa Te CQ
def N6:ae:=aG 143 [.agg [.i .i64 2,.i .i64 3,.fl [0,0,0,0,0,0]],.agg [.i .i64 3,.i .i64 2,.fl [4607182418800017408,0,0,4607182418800017408,0,0]],.agg [.i .i64 2,.i .i64 2,.fl [4607182418800017408,0,0,4607182418800017408]],.fl [0,0]] ⟨(.tup [(.agg [(.bool true false),.nsl,(.int .i64 0)]),(.int .i64 0)]),[]⟩
theorem Tg:ah prog N6:=aD ax CR (N:=100) (n:=1000) (by kernel_rfl)
def Th:List ae:=N6::Tf
theorem CS:ao prog (aj Th):=aa Tg CR
def N7:ae:=aG 143 [.agg [.i .i64 3,.i .i64 2,.fl [0,0,0,0,0,0]],.agg [.i .i64 2,.i .i64 2,.fl [4607182418800017408,0,0,4607182418800017408]],.agg [.i .i64 3,.i .i64 2,.fl [4607182418800017408,0,0,4607182418800017408,0,0]],.fl [0,0]] ⟨(.tup [(.agg [(.bool true false),.nsl,(.int .i64 0)]),(.int .i64 0)]),[]⟩
theorem Ti:ah prog N7:=aD ax CS (N:=100) (n:=1000) (by kernel_rfl)
def Tj:List ae:=N7::Th
theorem CT:ao prog (aj Tj):=aa Ti CS
def N8:ae:=aG 63 [.agg [.i .i64 2,.i .i64 3,.fl [0,0,0,0,0,0]],.fl [0,0],.agg [.i .i64 2,.i .i64 2,.fl [4607182418800017408,0,0,4607182418800017408]],.agg [.i .i64 3,.i .i64 2,.fl [4607182418800017408,0,0,4607182418800017408,0,0]]] ⟨(.tup [(.bool true true),(.int .i64 0)]),[]⟩
theorem Tk:ah prog N8:=aD ax CT (N:=100) (n:=1000) (by kernel_rfl)
def Tl:List ae:=N8::Tj
theorem CU:ao prog (aj Tl):=aa Tk CT
def N9:ae:=gz 299 [(.vs [(.sl 1 1 1 0 6 6)]),(.fl [0,0,0,0,0,0]),(.vs [(.sl 3 1 1 0 4 4)]),(.fl [4607182418800017408,0,0,4607182418800017408])] [(.agg [(.ptr 0 1 0 0),(.int .i64 3),(.int .i64 2),(.int .i64 0),(.int .i64 2),(.int .i64 1)]),(.agg [(.ptr 2 1 0 0),(.int .i64 2),(.int .i64 2),(.int .i64 0),(.int .i64 2),(.int .i64 1)])] ⟨(.int .i64 0),[some (.vs [(.sl 1 1 1 0 6 6)]),some (.fl [0,0,0,0,0,0]),some (.vs [(.sl 3 1 1 0 4 4)]),some (.fl [4607182418800017408,0,0,4607182418800017408])]⟩
theorem Tm:ah prog N9:=eM ax CU (N:=100) (n:=1000) (by kernel_rfl)
def Tn:List ae:=N9::Tl
theorem CV:ao prog (aj Tn):=aa Tm CU
def Oa:ae:=gz 301 [(.fl [0,0]),(.vs [(.ptr 2 1 0 0),(.int .i64 3),(.int .i64 2),(.int .i64 0),(.int .i64 2),(.int .i64 1),(.ptr 4 1 0 0),(.int .i64 2),(.int .i64 2),(.int .i64 0),(.int .i64 2),(.int .i64 1)]),(.vs [(.sl 3 1 1 0 6 6)]),(.fl [0,0,0,0,0,0]),(.vs [(.sl 5 1 1 0 4 4)]),(.fl [4607182418800017408,0,0,4607182418800017408])] [(.sl 0 1 1 0 2 2),(.sl 1 1 6 0 2 2)] ⟨(.tup []),[some (.fl [0,0]),some (.vs [(.ptr 2 1 0 0),(.int .i64 3),(.int .i64 2),(.int .i64 0),(.int .i64 2),(.int .i64 1),(.ptr 4 1 0 0),(.int .i64 2),(.int .i64 2),(.int .i64 0),(.int .i64 2),(.int .i64 1)]),some (.vs [(.sl 3 1 1 0 6 6)]),some (.fl [0,0,0,0,0,0]),some (.vs [(.sl 5 1 1 0 4 4)]),some (.fl [4607182418800017408,0,0,4607182418800017408])]⟩
theorem To:ah prog Oa:=eM ax CV (N:=100) (n:=1000) (by kernel_rfl)
def Tp:List ae:=Oa::Tn
theorem CW:ao prog (aj Tp):=aa To CV
def Jp:ae:=gz 300 [(.vs [(.sl 1 1 1 0 3 3)]),(.fl [4607182418800017408,0,0])] [(.agg [(.ptr 0 1 0 0),(.int .i64 3),(.int .i64 1),(.int .i64 0),(.int .i64 1),(.int .i64 1)]),(.flt false 4607182418800017408)] ⟨(.tup []),[some (.vs [(.sl 1 1 1 0 3 3)]),some (.fl [4607182418800017408,0,0])]⟩
theorem PQ:ah prog Jp:=eM ax CW (N:=100) (n:=1000) (by kernel_rfl)
def Ob:List ae:=Jp::Tp
theorem zk:ao prog (aj Ob):=aa PQ CW
def Jq:ae:=gz 300 [(.vs [(.sl 1 1 1 0 3 3)]),(.fl [0,4607182418800017408,0])] [(.agg [(.ptr 0 1 0 0),(.int .i64 3),(.int .i64 1),(.int .i64 0),(.int .i64 1),(.int .i64 1)]),(.flt false 4607182418800017408)] ⟨(.tup []),[some (.vs [(.sl 1 1 1 0 3 3)]),some (.fl [0,4607182418800017408,0])]⟩
theorem PR:ah prog Jq:=eM ax zk (N:=100) (n:=1000) (by kernel_rfl)
def Oc:List ae:=Jq::Ob
theorem zl:ao prog (aj Oc):=aa PR zk
def Jr:ae:=gz 302 [(.vs [(.sl 1 1 1 0 6 6)]),(.fl [0,0,0,0,0,0]),(.fl [0,0])] [(.agg [(.ptr 0 1 0 0),(.int .i64 3),(.int .i64 2),(.int .i64 0),(.int .i64 2),(.int .i64 1)]),(.sl 2 1 1 0 2 2)] ⟨(.tup []),[some (.vs [(.sl 1 1 1 0 6 6)]),some (.fl [4607182418800017408,0,0,4607182418800017408,0,0]),some (.fl [0,0])]⟩
theorem PS:ah prog Jr:=eM ax zl (N:=100) (n:=1000) (by kernel_rfl)
def Od:List ae:=Jr::Oc
theorem zm:ao prog (aj Od):=aa PS zl
def Js:ae:=aG 215 [.agg [.i .i64 3,.i .i64 2,.fl [0,0,0,0,0,0]]] ⟨(.tup [(.sl 0 1 1 0 2 2),(.agg [(.int .i64 3),(.int .i64 2),(.sl 1 1 1 0 6 6)]),(.agg [(.int .i64 2),(.int .i64 2),(.sl 2 1 1 0 4 4)]),(.int .i64 1),(.int .i64 0)]),[some (.fl [0,0]),some (.fl [4607182418800017408,0,0,4607182418800017408,0,0]),some (.fl [4607182418800017408,0,0,4607182418800017408])]⟩
theorem PT:ah prog Js:=aD ax zm (N:=100) (n:=1000) (by kernel_rfl)
def UH:List ae:=Js::Od
theorem Mh:ao prog (aj UH):=aa PT zm
def Jt:ae:=aG 18 [.i .i64 2,.i .i64 3,.ns .u64 [0,0,0,0,0,0],.i .i64 2] ⟨(.agg [(.int .i64 0),(.sl 0 1 1 0 2 2),(.int .i64 2),(.int .i64 2),(.sl 1 1 1 0 4 4),(.int .i64 3),(.int .i64 2),(.sl 2 1 1 0 6 6),(.int .i64 1)]),[some (.fl [0,0]),some (.fl [4607182418800017408,0,0,4607182418800017408]),some (.fl [4607182418800017408,0,0,4607182418800017408,0,0])]⟩
theorem PU:ah prog Jt:=aD ax Mh (N:=100) (n:=1000) (by kernel_rfl)
def Oe:ae:=aG 134 [.i .i64 512,.i .i64 0] ⟨(.tup [(.agg [(.bool false false),(.imm .free (.ns .u64 [1]) 1 1 0 1),(.int .i64 (-76))]),(.int .i64 0)]),[]⟩
theorem Tq:ah prog Oe:=aD ax fi (N:=600) (n:=1000) (by kernel_rfl)
def Tr:List ae:=Oe::T5
theorem CX:ao prog (aj Tr):=aa Tq fi
def Of:ae:=aG 135 [.agg [.i .i64 512,.i .i64 0,.nil]] ⟨(.tup [(.agg [(.bool true false),.nsl,(.int .i64 0)]),(.int .i64 0)]),[]⟩
theorem Ts:ah prog Of:=aD ax CX (N:=600) (n:=1000) (by kernel_rfl)
def Tt:List ae:=Of::Tr
theorem CY:ao prog (aj Tt):=aa Ts CX
def Og:ae:=aG 139 [.agg [.i .i64 512,.i .i64 0,.nil]] ⟨(.tup [(.agg [(.bool true false),.nsl,(.int .i64 0)]),(.int .i64 0)]),[]⟩
theorem Tu:ah prog Og:=aD ax CY (N:=600) (n:=1000) (by kernel_rfl)
def Tv:List ae:=Og::Tt
theorem CZ:ao prog (aj Tv):=aa Tu CY
def Oh:ae:=aG 139 [.agg [.i .i64 0,.i .i64 0,.nil]] ⟨(.tup [(.agg [(.bool true false),.nsl,(.int .i64 0)]),(.int .i64 0)]),[]⟩
theorem Tw:ah prog Oh:=aD ax CZ (N:=600) (n:=1000) (by kernel_rfl)
def Tx:List ae:=Oh::Tv
theorem C1:ao prog (aj Tx):=aa Tw CZ
def Oi:ae:=aG 143 [.agg [.i .i64 512,.i .i64 0,.nil],.agg [.i .i64 0,.i .i64 0,.nil],.agg [.i .i64 512,.i .i64 0,.nil],.nil] ⟨(.tup [(.agg [(.bool true false),.nsl,(.int .i64 0)]),(.int .i64 0)]),[]⟩
theorem Tz:ah prog Oi:=aD ax C1 (N:=600) (n:=1000) (by kernel_rfl)
def TA:List ae:=Oi::Tx
theorem C2:ao prog (aj TA):=aa Tz C1
def Oj:ae:=aG 143 [.agg [.i .i64 0,.i .i64 512,.nil],.agg [.i .i64 512,.i .i64 0,.nil],.agg [.i .i64 0,.i .i64 0,.nil],.nil] ⟨(.tup [(.agg [(.bool true false),.nsl,(.int .i64 0)]),(.int .i64 0)]),[]⟩
theorem TB:ah prog Oj:=aD ax C2 (N:=600) (n:=1000) (by kernel_rfl)
def TC:List ae:=Oj::TA
theorem C3:ao prog (aj TC):=aa TB C2
def Ol:ae:=aG 63 [.agg [.i .i64 512,.i .i64 0,.nil],.nil,.agg [.i .i64 512,.i .i64 0,.nil],.agg [.i .i64 0,.i .i64 0,.nil]] ⟨(.tup [(.bool true true),(.int .i64 0)]),[]⟩
theorem TD:ah prog Ol:=aD ax C3 (N:=600) (n:=1000) (by kernel_rfl)
def TE:List ae:=Ol::TC
theorem C4:ao prog (aj TE):=aa TD C3
def Om:ae:=gz 299 [(.vs [(.sl 1 1 1 0 0 0)]),(.fl []),(.vs [(.sl 3 1 1 0 0 0)]),(.fl [])] [(.agg [(.ptr 0 1 0 0),(.int .i64 512),(.int .i64 0),(.int .i64 0),(.int .i64 0),(.int .i64 1)]),(.agg [(.ptr 2 1 0 0),(.int .i64 0),(.int .i64 0),(.int .i64 0),(.int .i64 0),(.int .i64 1)])] ⟨(.int .i64 0),[some (.vs [(.sl 1 1 1 0 0 0)]),some (.fl []),some (.vs [(.sl 3 1 1 0 0 0)]),some (.fl [])]⟩
theorem TF:ah prog Om:=eM ax C4 (N:=600) (n:=1000) (by kernel_rfl)
def TG:List ae:=Om::TE
theorem C5:ao prog (aj TG):=aa TF C4
def On:ae:=gz 301 [(.vs [(.ptr 1 1 0 0),(.int .i64 512),(.int .i64 0),(.int .i64 0),(.int .i64 0),(.int .i64 1),(.ptr 3 1 0 0),(.int .i64 0),(.int .i64 0),(.int .i64 0),(.int .i64 0),(.int .i64 1)]),(.vs [(.sl 2 1 1 0 0 0)]),(.fl []),(.vs [(.sl 4 1 1 0 0 0)]),(.fl [])] [.nsl,(.sl 0 1 6 0 2 2)] ⟨(.tup []),[some (.vs [(.ptr 1 1 0 0),(.int .i64 512),(.int .i64 0),(.int .i64 0),(.int .i64 0),(.int .i64 1),(.ptr 3 1 0 0),(.int .i64 0),(.int .i64 0),(.int .i64 0),(.int .i64 0),(.int .i64 1)]),some (.vs [(.sl 2 1 1 0 0 0)]),some (.fl []),some (.vs [(.sl 4 1 1 0 0 0)]),some (.fl [])]⟩
theorem TH:ah prog On:=eM ax C5 (N:=600) (n:=1000) (by kernel_rfl)
def TI:List ae:=On::TG
theorem C6:ao prog (aj TI):=aa TH C5
def Ju:ae:=gz 302 [(.vs [(.sl 1 1 1 0 0 0)]),(.fl [])] [(.agg [(.ptr 0 1 0 0),(.int .i64 512),(.int .i64 0),(.int .i64 0),(.int .i64 0),(.int .i64 1)]),.nsl] ⟨(.tup []),[some (.vs [(.sl 1 1 1 0 0 0)]),some (.fl [])]⟩
theorem PV:ah prog Ju:=eM ax C6 (N:=600) (n:=1000) (by kernel_rfl)
def Oo:List ae:=Ju::TI
theorem zn:ao prog (aj Oo):=aa PV C6
def Jv:ae:=aG 215 [.agg [.i .i64 512,.i .i64 0,.nil]] ⟨(.tup [.nsl,(.agg [(.int .i64 512),(.int .i64 0),.nsl]),(.agg [(.int .i64 0),(.int .i64 0),.nsl]),(.int .i64 1),(.int .i64 0)]),[]⟩
theorem PW:ah prog Jv:=aD ax zn (N:=600) (n:=1000) (by kernel_rfl)
def UI:List ae:=Jv::Oo
theorem Mi:ao prog (aj UI):=aa PW zn
def Jw:ae:=aG 18 [.i .i64 512,.i .i64 0,.nil,.i .i64 2] ⟨(.agg [(.int .i64 0),.nsl,(.int .i64 512),(.int .i64 0),.nsl,(.int .i64 0),(.int .i64 0),.nsl,(.int .i64 1)]),[]⟩
theorem PX:ah prog Jw:=aD ax Mi (N:=600) (n:=1000) (by kernel_rfl)
def Oq:ae:=aG 134 [.i .i64 512,.i .i64 0] ⟨(.tup [(.agg [(.bool false false),(.imm .free (.ns .u64 [1]) 1 1 0 1),(.int .i64 (-76))]),(.int .i64 0)]),[]⟩
theorem TJ:ah prog Oq:=aD ax fi (N:=600) (n:=1000) (by kernel_rfl)
def TK:List ae:=Oq::T5
theorem C7:ao prog (aj TK):=aa TJ fi
def Ot:ae:=aG 135 [.agg [.i .i64 512,.i .i64 0,.nil]] ⟨(.tup [(.agg [(.bool true false),.nsl,(.int .i64 0)]),(.int .i64 0)]),[]⟩
theorem TL:ah prog Ot:=aD ax C7 (N:=600) (n:=1000) (by kernel_rfl)
def TM:List ae:=Ot::TK
theorem C8:ao prog (aj TM):=aa TL C7
def Ou:ae:=aG 139 [.agg [.i .i64 512,.i .i64 0,.fl []]] ⟨(.tup [(.agg [(.bool true false),.nsl,(.int .i64 0)]),(.int .i64 0)]),[]⟩
theorem TN:ah prog Ou:=aD ax C8 (N:=600) (n:=1000) (by kernel_rfl)
def TO:List ae:=Ou::TM
theorem C9:ao prog (aj TO):=aa TN C8
def Ov:ae:=aG 139 [.agg [.i .i64 0,.i .i64 0,.fl []]] ⟨(.tup [(.agg [(.bool true false),.nsl,(.int .i64 0)]),(.int .i64 0)]),[]⟩
theorem TP:ah prog Ov:=aD ax C9 (N:=600) (n:=1000) (by kernel_rfl)
def TQ:List ae:=Ov::TO
theorem Da:ao prog (aj TQ):=aa TP C9
def Ow:ae:=aG 143 [.agg [.i .i64 512,.i .i64 0,.nil],.agg [.i .i64 0,.i .i64 0,.fl []],.agg [.i .i64 512,.i .i64 0,.fl []],.fl []] ⟨(.tup [(.agg [(.bool true false),.nsl,(.int .i64 0)]),(.int .i64 0)]),[]⟩
theorem TR:ah prog Ow:=aD ax Da (N:=600) (n:=1000) (by kernel_rfl)
def TS:List ae:=Ow::TQ
theorem Db:ao prog (aj TS):=aa TR Da
def Ox:ae:=aG 143 [.agg [.i .i64 0,.i .i64 512,.nil],.agg [.i .i64 512,.i .i64 0,.fl []],.agg [.i .i64 0,.i .i64 0,.fl []],.fl []] ⟨(.tup [(.agg [(.bool true false),.nsl,(.int .i64 0)]),(.int .i64 0)]),[]⟩
theorem TT:ah prog Ox:=aD ax Db (N:=600) (n:=1000) (by kernel_rfl)
def TU:List ae:=Ox::TS
theorem Dc:ao prog (aj TU):=aa TT Db
def Oy:ae:=aG 63 [.agg [.i .i64 512,.i .i64 0,.nil],.fl [],.agg [.i .i64 512,.i .i64 0,.fl []],.agg [.i .i64 0,.i .i64 0,.fl []]] ⟨(.tup [(.bool true true),(.int .i64 0)]),[]⟩
theorem TV:ah prog Oy:=aD ax Dc (N:=600) (n:=1000) (by kernel_rfl)
def TW:List ae:=Oy::TU
theorem Dd:ao prog (aj TW):=aa TV Dc
def Oz:ae:=aG 83 [.agg [.i .i64 512,.i .i64 0,.nil]] ⟨(.tup [(.agg [.nsl,.nsl]),.nsl,.nsl,(.int .i64 0)]),[]⟩
theorem TX:ah prog Oz:=aD ax Dd (N:=600) (n:=1000) (by kernel_rfl)
def TY:List ae:=Oz::TW
theorem De:ao prog (aj TY):=aa TX Dd
def OA:ae:=aG 212 [.i .i64 512,.i .i64 0,.nil] ⟨(.tup [(.agg [(.int .i64 512),(.int .i64 0),.nsl]),(.int .i64 0)]),[]⟩
theorem TZ:ah prog OA:=aD ax De (N:=600) (n:=1000) (by kernel_rfl)
def T1:List ae:=OA::TY
theorem Df:ao prog (aj T1):=aa TZ De
def Jx:ae:=aG 213 [.i .i64 0,.nil] ⟨(.tup [(.agg [(.int .i64 0),(.int .i64 0),.nsl]),(.int .i64 0)]),[]⟩
theorem PY:ah prog Jx:=aD ax Df (N:=600) (n:=1000) (by kernel_rfl)
def OB:List ae:=Jx::T1
theorem zo:ao prog (aj OB):=aa PY Df
def Jy:ae:=aG 214 [.agg [.nil,.nil],.agg [.i .i64 512,.i .i64 0,.nil],.agg [.i .i64 0,.i .i64 0,.nil]] ⟨(.tup [(.sl 0 1 1 0 0 0),(.agg [(.int .i64 512),(.int .i64 0),(.sl 1 1 1 0 0 0)]),(.agg [(.int .i64 0),(.int .i64 0),(.sl 2 1 1 0 0 0)]),(.int .i64 0),(.int .i64 0)]),[some (.fl []),some (.fl []),some (.fl [])]⟩
theorem PZ:ah prog Jy:=aD ax zo (N:=600) (n:=1000) (by kernel_rfl)
def UJ:List ae:=Jy::OB
theorem Mj:ao prog (aj UJ):=aa PZ zo
def Jz:ae:=aG 18 [.i .i64 512,.i .i64 0,.nil,.i .i64 1] ⟨(.agg [(.int .i64 0),(.sl 0 1 1 0 0 0),(.int .i64 512),(.int .i64 0),(.sl 1 1 1 0 0 0),(.int .i64 0),(.int .i64 0),(.sl 2 1 1 0 0 0),(.int .i64 0)]),[some (.fl []),some (.fl []),some (.fl [])]⟩
theorem P3:ah prog Jz:=aD ax Mj (N:=600) (n:=1000) (by kernel_rfl)
def Wt:List ae:=Fr::Fs::yX::yZ::zb::Je::Ns::NA::NI::Jo::Jt::Jw::Jz::T5
theorem VD:ao prog (aj Wt) :=
  aa Jc (aa Jd (aa Ch (aa Ci (aa Cj (aa PC (aa Sd (aa St (aa SI (aa PP (aa PU (aa PX (aa P3 (fi)))))))))))))
theorem Ft:Wb (fx C0 (aj Wt) (cG C0 (aj Wt) 100 1000) ky [] [] none)=true:=by kernel_rfl
theorem JA:ak prog ky [] [] ⟨.bool false true,[]⟩:=by
  obtain ⟨k,o,p,h,ho⟩:=I8 Ft
  exact (ak.run ax VD none _ _ h ho).weak (mu _ _ _)
end
end Go.Plb.Seat
