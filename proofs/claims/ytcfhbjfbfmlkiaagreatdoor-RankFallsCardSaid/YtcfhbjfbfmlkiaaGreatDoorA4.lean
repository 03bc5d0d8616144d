/-
  Part 4 of what the claim leans on: an evaluator of the model, proved sound; the contracts of the functions.
-/
import Derived.Test.YtcfhbjfbfmlkiaaGreatDoorA3
namespace Go.Plb.Seat
open Go Go.Plb Go.Proofs Go.RowKit
open Go.ChangeMaps (setBlock)
set_option maxRecDepth 100000
set_option linter.unusedSimpArgs false
set_option linter.unusedVariables false
def pb:Array Oper:=#[
  { dst := some 2, op := .makeMap 99 none, type := 99, pos := "svd.go:62", after := #[], guard := none },
  { dst := some 3, op := .build 102 #[(0, .const (.int .i64 1)), (1, .const (.int .i64 0))], type := 102, pos := "svd.go:62", after := #[], guard := none },
  { dst := none, op := .insert 99 (.tmp 2) (.tmp 3) (.func 129), type := 0, pos := "svd.go:62", after := #[⟨0, .data⟩, ⟨1, .data⟩], guard := none },
  { dst := some 4, op := .build 102 #[(0, .const (.int .i64 2)), (1, .const (.int .i64 0))], type := 102, pos := "svd.go:62", after := #[], guard := none },
  { dst := none, op := .insert 99 (.tmp 2) (.tmp 4) (.func 130), type := 0, pos := "svd.go:62", after := #[⟨0, .data⟩, ⟨3, .data⟩], guard := none },
  { dst := some 5, op := .build 102 #[(0, .const (.int .i64 1)), (1, .const (.int .i64 1))], type := 102, pos := "svd.go:62", after := #[], guard := none },
  { dst := some 6, op := .move (.tmp 1), type := 163, pos := "svd.go:62", after := #[], guard := none },
  { dst := some 7, op := .call { callee := .value (.tmp 6), args := #[.func 129], argTypes := #[98] }, type := 98, pos := "svd.go:64", after := #[⟨6, .data⟩], guard := none },
  { dst := none, op := .insert 99 (.tmp 2) (.tmp 5) (.tmp 7), type := 0, pos := "svd.go:62", after := #[⟨0, .data⟩, ⟨5, .data⟩, ⟨7, .data⟩], guard := none },
  { dst := some 8, op := .build 102 #[(0, .const (.int .i64 2)), (1, .const (.int .i64 1))], type := 102, pos := "svd.go:62", after := #[], guard := none },
  { dst := some 9, op := .move (.tmp 1), type := 163, pos := "svd.go:62", after := #[], guard := none },
  { dst := some 10, op := .call { callee := .value (.tmp 9), args := #[.func 130], argTypes := #[98] }, type := 98, pos := "svd.go:64", after := #[⟨10, .data⟩, ⟨7, .chain⟩], guard := none },
  { dst := none, op := .insert 99 (.tmp 2) (.tmp 8) (.tmp 10), type := 0, pos := "svd.go:62", after := #[⟨0, .data⟩, ⟨9, .data⟩, ⟨11, .data⟩], guard := none },
  { dst := some 11, op := .move (.tmp 2), type := 99, pos := "svd.go:62", after := #[⟨0, .data⟩, ⟨1, .data⟩, ⟨2, .data⟩, ⟨3, .data⟩, ⟨4, .data⟩, ⟨5, .data⟩, ⟨6, .data⟩, ⟨7, .data⟩, ⟨8, .data⟩, ⟨9, .data⟩, ⟨10, .data⟩, ⟨11, .data⟩, ⟨12, .data⟩], guard := none },
  { dst := some 0, op := .assign (.tmp 11), type := 99, pos := "svd.go:62", after := #[⟨13, .data⟩, ⟨11, .chain⟩, ⟨0, .phase⟩, ⟨1, .phase⟩, ⟨2, .phase⟩, ⟨3, .phase⟩, ⟨4, .phase⟩, ⟨5, .phase⟩, ⟨6, .phase⟩, ⟨7, .phase⟩, ⟨8, .phase⟩, ⟨9, .phase⟩, ⟨10, .phase⟩, ⟨11, .phase⟩, ⟨12, .phase⟩, ⟨13, .phase⟩], guard := none }]
def kJ(t2 t7 t10:Value) :Act:=⟨#[.map none,Cy 127,t2,mz 0,mz 1,mz 2,Cy 127,t7,mz 3,Cy 127,t10,undef],[]⟩
variable {Q : Exit → Act → World → Prop} {K : Act → World → Prop} {t2 t7 t10 : Value} {W W' : World}
theorem GO{i:Nat}{o:Oper}{a:Act}(hi:pb[i]? = some o)(hg:o.guard=none)(hd:o.dst=none)(hr:(execOp a.eval o).run prog W=.ok .skip W')(h:K a W') :wpOp prog pb Q i K a W:=by
  unfold wpOp
  rw [hi]
  simp only [Region.wanted,hg,if_true]
  refine .inl ?_
  unfold Oper.wp
  rw [hr,Oper.upon_skip,hd]
  exact h
theorem H0{i d:Nat}{o:Oper}{a:Act}{v:Value}(hi:pb[i]? = some o)(hg:o.guard=none)(hd:o.dst=some d)(hr:(execOp a.eval o).run prog W=.ok (.value v) W')(h:K (a.put (some d) v) W') :wpOp prog pb Q i K a W:=by
  unfold wpOp
  rw [hi]
  simp only [Region.wanted,hg,if_true]
  refine .inl ?_
  unfold Oper.wp
  rw [hr,Oper.upon_value,hd]
  exact h
theorem Q6{i d:Nat}{o:Oper}{a:Act}{f:FuncId}{args:Array Value}(hi:pb[i]? = some o)(hg:o.guard=none)(hd:o.dst=some d)(hr:(execOp a.eval o).run prog W=.ok (.enter f args) W) 
    (h:Calls prog f args W fun e W'=>∃ v,e=.returned v∧K (a.put (some d) v) W'):wpOp prog pb Q i K a W:=by
  unfold wpOp
  rw [hi]
  simp only [Region.wanted,hg,if_true]
  refine .inl ?_
  unfold Oper.wp
  rw [hr,Oper.upon_enter,hd]
  refine h.mono ?_
  rintro e W' ⟨v,rfl,h⟩
  exact h
theorem st0(h:K (kJ (.map (some W.heap.size)) t7 t10) (W.alloc (.map #[] 0))) :wpOp prog pb Q 0 K (kJ t2 t7 t10) W:=by
  refine H0 (d:=2) rfl rfl rfl ?_ h
  have:=@run_makeMap prog 99 W
  simp [execOp,pb,this,Sem.run_bind]
theorem wB(hm:(Instr.mapUpdate 99 t2 (mz 0) (Cy 129)).run prog W=.ok () W')(h:K (kJ t2 t7 t10) W') :wpOp prog pb Q 2 K (kJ t2 t7 t10) W:=by
  refine GO rfl rfl rfl ?_ h
  have:(Instr.mapUpdate 99 ((kJ t2 t7 t10).eval (.tmp 2)) ((kJ t2 t7 t10).eval (.tmp 3)) ((kJ t2 t7 t10).eval (.func 129))).run prog W=.ok () W':=hm
  simp [execOp,pb,this,Sem.run_bind]
theorem st4(hm:(Instr.mapUpdate 99 t2 (mz 1) (Cy 130)).run prog W=.ok () W')(h:K (kJ t2 t7 t10) W') :wpOp prog pb Q 4 K (kJ t2 t7 t10) W:=by
  refine GO rfl rfl rfl ?_ h
  have:(Instr.mapUpdate 99 ((kJ t2 t7 t10).eval (.tmp 2)) ((kJ t2 t7 t10).eval (.tmp 4)) ((kJ t2 t7 t10).eval (.func 130))).run prog W=.ok () W':=hm
  simp [execOp,pb,this,Sem.run_bind]
theorem st8(hm:(Instr.mapUpdate 99 t2 (mz 2) t7).run prog W=.ok () W')(h:K (kJ t2 t7 t10) W') :wpOp prog pb Q 8 K (kJ t2 t7 t10) W:=by
  refine GO rfl rfl rfl ?_ h
  have:(Instr.mapUpdate 99 ((kJ t2 t7 t10).eval (.tmp 2)) ((kJ t2 t7 t10).eval (.tmp 5)) ((kJ t2 t7 t10).eval (.tmp 7))).run prog W=.ok () W':=hm
  simp [execOp,pb,this,Sem.run_bind]
theorem aiz(hm:(Instr.mapUpdate 99 t2 (mz 3) t10).run prog W=.ok () W')(h:K (kJ t2 t7 t10) W') :wpOp prog pb Q 12 K (kJ t2 t7 t10) W:=by
  refine GO rfl rfl rfl ?_ h
  have:(Instr.mapUpdate 99 ((kJ t2 t7 t10).eval (.tmp 2)) ((kJ t2 t7 t10).eval (.tmp 8)) ((kJ t2 t7 t10).eval (.tmp 10))).run prog W=.ok () W':=hm
  simp [execOp,pb,this,Sem.run_bind]
theorem ex7:(execOp (kJ t2 t7 t10).eval (pb[7]'(by decide))).run prog W=.ok (.enter 127 #[Cy 129]) W:=by
  have hc:(callFunc 127 #[Cy 129]).run prog W=.ok (.enter 127 #[Cy 129]) W:=eB.enter 127 (FN 127) _ _ (by kernel_rfl) (by kernel_rfl)
  have hs:(kJ t2 t7 t10).eval (.tmp 6)=.func (.func 127) #[] #[]:=rfl
  have hf:(kJ t2 t7 t10).eval (.func 129)=Cy 129:=rfl
  simp only [execOp,pb,resolve,Deferred.ofValue,invoke,Sem.run_bind]
  simp [hs,hf,Sem.run_bind]
theorem aiA:(execOp (kJ t2 t7 t10).eval (pb[11]'(by decide))).run prog W=.ok (.enter 127 #[Cy 130]) W:=by
  have hc:(callFunc 127 #[Cy 130]).run prog W=.ok (.enter 127 #[Cy 130]) W:=eB.enter 127 (FN 127) _ _ (by kernel_rfl) (by kernel_rfl)
  have hs:(kJ t2 t7 t10).eval (.tmp 9)=.func (.func 127) #[] #[]:=rfl
  have hf:(kJ t2 t7 t10).eval (.func 130)=Cy 130:=rfl
  simp only [execOp,pb,resolve,Deferred.ofValue,invoke,Sem.run_bind]
  simp [hs,hf,Sem.run_bind]
theorem st7(h:K (kJ t2 (.func (.func 128) #[] #[.pointer (some ⟨W.heap.size,0,none⟩)]) t10) (W.alloc (.cells #[Cy 129] 98))) :wpOp prog pb Q 7 K (kJ t2 t7 t10) W:=by
  refine Q6 (d:=7) rfl rfl rfl ex7 ((GN W 129).mono ?_)
  rintro e W' ⟨rfl,rfl⟩
  exact ⟨_,rfl,h⟩
theorem aiB(h:K (kJ t2 t7 (.func (.func 128) #[] #[.pointer (some ⟨W.heap.size,0,none⟩)])) (W.alloc (.cells #[Cy 130] 98))) :wpOp prog pb Q 11 K (kJ t2 t7 t10) W:=by
  refine Q6 (d:=10) rfl rfl rfl aiA ((GN W 130).mono ?_)
  rintro e W' ⟨rfl,rfl⟩
  exact ⟨_,rfl,h⟩
def lsA(l0 l2 l4 l7 l8 l11 l12:Bool) :Array Bool:=#[l0,true,l2,true,l4,true,true,l7,l8,true,true,l11,l12,false,false]
theorem Inv.next{w:World}{l0 l2 l4 l7 l8 l11 l12:Bool}(h:Inv w l0 l2 l4 l7 l8 l11 l12 t2 t7 t10 W)(k:vg w.heap.size W W')(hb:Below w.heap.size W W'){l0' l2' l4' l7' l8' l11' l12':Bool}{t2' t7' t10':Value} 
    (c0:(l2'||l4'||l8'||l12')=true→l0'=true) (c8:l8'=true→l7'=true) (c11:l11'=true→l7'=true) (c12:l12'=true→l11'=true)
    (hm:l0'=true→DR w.heap.size W' t2' (has l2' l4' l8' l12')) (h7:l7'=true→CL w.heap.size W' 129 t7') (h10:l11'=true→CL w.heap.size W' 130 t10'):Inv w l0' l2' l4' l7' l8' l11' l12' t2' t7' t10' W' :=
  ⟨c0,c8,c11,c12,h.low.trans hb,hm,h7,h10⟩
theorem DR.mono{B0:Nat}{p:Nat→Bool}(h:DR B0 W t2 p)(o:Obj) :DR B0 (W.alloc o) t2 p:=by
  obtain ⟨B,es,cl,h1,h2,h3,h4,h5,h6⟩:=h.ex
  have k:=vg.alloc B0 W o
  refine ⟨B,es,cl,h1,h2,by rw [jk (Array.getElem?_eq_some_iff.1 h3).1];exact h3,fun e he=>?_,fun i hi=>?_,h6⟩
  · obtain ⟨i,q1,q2,q3⟩:=h4 e he;exact ⟨i,q1,q2,q3.mono k⟩
  · obtain ⟨e,q1,q2,q3⟩:=h5 i hi;exact ⟨e,q1,q2,q3.mono k⟩
theorem yW(B:Nat){W:World}(h:B≤W.heap.size)(o:Obj) :Below B W (W.alloc o):=(Below.refl _ W).alloc h o
theorem H3{w:World}{l0 l2 l4 l7 l8 l11 l12:Bool}(h:Inv w l0 l2 l4 l7 l8 l11 l12 t2 t7 t10 W) :w.heap.size≤W.heap.size:=h.low.size
def PH(l0 l2 l4 l7 l8 l11 l12:Bool) :Nat:=(if l0 then 0 else 1)+(if l2 then 0 else 1)+(if l4 then 0 else 1)+(if l7 then 0 else 1)+(if l8 then 0 else 1)+(if l11 then 0 else 1)+(if l12 then 0 else 1)
theorem go0{w:World}{l7 l11:Bool}{t2:Value}(h:Inv w false false false l7 false l11 false t2 t7 t10 W) :Inv w true false false l7 false l11 false (.map (some W.heap.size)) t7 t10 (W.alloc (.map #[] 0)):=by
  have k:=vg.alloc w.heap.size W (.map #[] 0)
  refine h.next k (yW _ (H3 h) _) (fun _=>rfl) (fun q=>by cases q) h.c11 (fun q=>by cases q) (fun _=>⟨_,#[],0,rfl,H3 h,eG W _,fun e he=>by simp at he,fun i hi=>?_,fun e he=>by simp at he⟩) (fun q=>(h.f7 q).mono k) (fun q=>(h.f10 q).mono k)
  rcases i with _ | _ | _ | _ | i<;>cases hi
theorem abD{w:World}{l2 l4 l7 l8 l11 l12 l2' l4' l8' l12':Bool}{t2:Value}(h:Inv w true l2 l4 l7 l8 l11 l12 t2 t7 t10 W){i:Nat}(h4:i<4)(hi:has l2 l4 l8 l12 i=false)(hp:∀ j,has l2' l4' l8' l12' j=(has l2 l4 l8 l12 j||Nat.beq j i)){v:Value}(hv:EV w.heap.size W i v) 
    (c8:l8'=true→l7=true) (c12:l12'=true→l11=true):∃ W',(Instr.mapUpdate 99 t2 (mz i) v).run prog W=.ok () W'∧Inv w true l2' l4' l7 l8' l11 l12' t2 t7 t10 W':=by
  obtain ⟨W',h1,h2,h3,h5⟩:=(h.map rfl).put hi h4 hp (fun j hj=>ae1 hj) hv
  have hb:=h5 w rfl h.low
  exact ⟨W',h1,⟨fun _=>rfl,c8,h.c11,c12,hb,fun _=>h2,fun q=>(h.f7 q).mono h3,fun q=>(h.f10 q).mono h3⟩⟩
theorem go7{w:World}{l0 l2 l4 l12:Bool}(h:Inv w l0 l2 l4 false false false l12 t2 t7 t10 W) :Inv w l0 l2 l4 true false false l12 t2 (.func (.func 128) #[] #[.pointer (some ⟨W.heap.size,0,none⟩)]) t10 (W.alloc (.cells #[Cy 129] 98)):=by
  have k:=vg.alloc w.heap.size W (.cells #[Cy 129] 98)
  refine h.next k (yW _ (H3 h) _) h.c0 (fun q=>by cases q) (fun q=>by cases q) h.c12 (fun q=>(h.map q).mono _) (fun _=>⟨_,H3 h,rfl,eG W _⟩) (fun q=>by cases q)
theorem aiC{w:World}{l0 l2 l4 l8:Bool}(h:Inv w l0 l2 l4 true l8 false false t2 t7 t10 W) :Inv w l0 l2 l4 true l8 true false t2 t7 (.func (.func 128) #[] #[.pointer (some ⟨W.heap.size,0,none⟩)]) (W.alloc (.cells #[Cy 130] 98)):=by
  have k:=vg.alloc w.heap.size W (.cells #[Cy 130] 98)
  refine h.next k (yW _ (H3 h) _) h.c0 h.c8 (fun _=>rfl) (fun q=>by cases q) (fun q=>(h.map q).mono _) (fun q=>(h.f7 q).mono k) (fun _=>⟨_,H3 h,rfl,eG W _⟩)
theorem aiD(j i:Nat)(h:i<4) :Nat.beq (j+1+1+1+1) i=false:=by
  cases q:Nat.beq (j+1+1+1+1) i with
  | false=>rfl
  | true=>have:=Nat.eq_of_beq_eq_true q;omega
theorem agd(a b c d:Bool) :(∀ j,has true b c d j=(has false b c d j||Nat.beq j 0))∧(∀ j,has a true c d j=(has a false c d j||Nat.beq j 1))∧(∀ j,has a b true d j=(has a b false d j||Nat.beq j 2))∧∀ j,has a b c true j=(has a b c false j||Nat.beq j 3):=by
  refine ⟨fun j=>?_,fun j=>?_,fun j=>?_,fun j=>?_⟩<;>rcases j with _ | _ | _ | _ | j<;>simp [has,aiD]
theorem GQ(l0 l2 l4 l7 l8 l11 l12:Bool) :Region.ready .any pb (lsA l0 l2 l4 l7 l8 l11 l12)=(if l0 then [] else [0])++(if !l2&&l0 then [2] else [])++(if !l4&&l0 then [4] else [])++(if l7 then [] else [7])++(if !l8&&l0&&l7 then [8] else [])++(if !l11&&l7 then [11] else [])++(if !l12&&l0&&l11 then [12] else [])++(if l0&&l2&&l4&&l7&&l8&&l11&&l12 then [13] else []):=by
  cases l0<;>cases l2<;>cases l4<;>cases l7<;>cases l8<;>cases l11<;>cases l12<;>kernel_rfl
theorem aia{B:Nat}(h:Q .normal (((kJ (.map (some B)) t7 t10).put (some 11) (.map (some B))).put (some 0) (.map (some B))) W) :wpAny prog .any pb Q 2 (lsA true true true true true true true) (kJ (.map (some B)) t7 t10) W:=by
  refine ⟨fun q=>?_,fun i hi=>?_⟩
  · exfalso;rw [GQ] at q;cases q
  · rw [GQ] at hi
    simp at hi
    subst hi
    refine H0 (W':=W) (d:=11) (v:=.map (some B)) rfl rfl rfl (by simp [execOp,pb];rfl) ?_
    have r2:Region.ready .any pb ((lsA true true true true true true true).setIfInBounds 13 true)=[14]:=by kernel_rfl
    refine ⟨fun q=>?_,fun i hi=>?_⟩
    · rw [r2] at q;cases q
    · rw [r2] at hi
      simp at hi
      subst hi
      refine H0 (W':=W) (d:=0) (v:=.map (some B)) rfl rfl rfl (by simp [execOp,pb];rfl) ?_
      exact ⟨by kernel_rfl,h⟩
set_option maxHeartbeats 4000000 in
theorem Z5 {w : World} (hQ : ∀ t7 t10 W B, Inv w true true true true true true true (.map (some B)) t7 t10 W → Q .normal (((kJ (.map (some B)) t7 t10).put (some 11) (.map (some B))).put (some 0) (.map (some B))) W) :
    ∀ (n : Nat) (l0 l2 l4 l7 l8 l11 l12 : Bool) (t2 t7 t10 : Value) (W : World), Inv w l0 l2 l4 l7 l8 l11 l12 t2 t7 t10 W → PH l0 l2 l4 l7 l8 l11 l12 = n → wpAny prog .any pb Q (n + 2) (lsA l0 l2 l4 l7 l8 l11 l12) (kJ t2 t7 t10) W := by
  intro n
  induction n with
  | zero =>
    intro l0 l2 l4 l7 l8 l11 l12 t2 t7 t10 W h hn
    cases l0 <;> cases l2 <;> cases l4 <;> cases l7 <;> cases l8 <;> cases l11 <;> cases l12 <;> first | (exfalso; revert hn; decide) | skip
    obtain ⟨B, es, cl, rfl, _⟩ := (h.map rfl).ex
    exact aia (hQ _ _ _ _ h)
  | succ n ih =>
    intro l0 l2 l4 l7 l8 l11 l12 t2 t7 t10 W h hn
    obtain ⟨e0, e1, e2, e3⟩ := agd l2 l4 l8 l12
    have c0 := h.c0
    have c8 := h.c8
    have c11 := h.c11
    have c12 := h.c12
    refine ⟨fun q => ?_, fun i hi => ?_⟩
    · exfalso
      rw [GQ] at q
      revert c0 c8 c11 c12 hn q
      cases l0 <;> cases l2 <;> cases l4 <;> cases l7 <;> cases l8 <;> cases l11 <;> cases l12 <;> simp [PH]
    · rw [GQ] at hi
      simp only [List.mem_append] at hi
      rcases hi with ((((((hi | hi) | hi) | hi) | hi) | hi) | hi) | hi
      · have q : l0 = false ∧ i = 0 := by cases l0 <;> simp at hi ⊢; exact hi
        obtain ⟨rfl, rfl⟩ := q
        have q : l2 = false ∧ l4 = false ∧ l8 = false ∧ l12 = false := by revert c0; cases l2 <;> cases l4 <;> cases l8 <;> cases l12 <;> simp
        obtain ⟨rfl, rfl, rfl, rfl⟩ := q
        exact st0 (ih _ _ _ _ _ _ _ _ _ _ _ (go0 h) (by simp [PH] at hn ⊢; omega))
      · have q : (l2 = false ∧ l0 = true) ∧ i = 2 := by cases l2 <;> cases l0 <;> simp at hi ⊢; exact hi
        obtain ⟨⟨rfl, rfl⟩, rfl⟩ := q
        obtain ⟨W', h1, h2⟩ := abD h (i := 0) (by decide) rfl e0 (v := Cy 129) rfl h.c8 h.c12
        exact wB h1 (ih _ _ _ _ _ _ _ _ _ _ _ h2 (by simp [PH] at hn ⊢; omega))
      · have q : (l4 = false ∧ l0 = true) ∧ i = 4 := by cases l4 <;> cases l0 <;> simp at hi ⊢; exact hi
        obtain ⟨⟨rfl, rfl⟩, rfl⟩ := q
        obtain ⟨W', h1, h2⟩ := abD h (i := 1) (by decide) rfl e1 (v := Cy 130) rfl h.c8 h.c12
        exact st4 h1 (ih _ _ _ _ _ _ _ _ _ _ _ h2 (by simp [PH] at hn ⊢; omega))
      · have q : l7 = false ∧ i = 7 := by cases l7 <;> simp at hi ⊢; exact hi
        obtain ⟨rfl, rfl⟩ := q
        have q : l8 = false ∧ l11 = false := by revert c8 c11; cases l8 <;> cases l11 <;> simp
        obtain ⟨rfl, rfl⟩ := q
        exact st7 (ih _ _ _ _ _ _ _ _ _ _ _ (go7 h) (by simp [PH] at hn ⊢; omega))
      · have q : (l8 = false ∧ l0 = true ∧ l7 = true) ∧ i = 8 := by cases l8 <;> cases l0 <;> cases l7 <;> simp at hi ⊢; exact hi
        obtain ⟨⟨rfl, rfl, rfl⟩, rfl⟩ := q
        obtain ⟨W', h1, h2⟩ := abD h (i := 2) (by decide) rfl e2 (v := t7) (h.f7 rfl) (fun _ => rfl) h.c12
        exact st8 h1 (ih _ _ _ _ _ _ _ _ _ _ _ h2 (by simp [PH] at hn ⊢; omega))
      · have q : (l11 = false ∧ l7 = true) ∧ i = 11 := by cases l11 <;> cases l7 <;> simp at hi ⊢; exact hi
        obtain ⟨⟨rfl, rfl⟩, rfl⟩ := q
        have q : l12 = false := by revert c12; cases l12 <;> simp
        subst q
        exact aiB (ih _ _ _ _ _ _ _ _ _ _ _ (aiC h) (by simp [PH] at hn ⊢; omega))
      · have q : (l12 = false ∧ l0 = true ∧ l11 = true) ∧ i = 12 := by cases l12 <;> cases l0 <;> cases l11 <;> simp at hi ⊢; exact hi
        obtain ⟨⟨rfl, rfl, rfl⟩, rfl⟩ := q
        obtain ⟨W', h1, h2⟩ := abD h (i := 3) (by decide) rfl e3 (v := t10) (h.f10 rfl) h.c8 (fun _ => rfl)
        exact aiz h1 (ih _ _ _ _ _ _ _ _ _ _ _ h2 (by simp [PH] at hn ⊢; omega))
      · exfalso
        revert hn hi
        cases l0 <;> cases l2 <;> cases l4 <;> cases l7 <;> cases l8 <;> cases l11 <;> cases l12 <;> simp [PH]
theorem Z6(w:World) :Calls prog xO #[] w fun e w'=>∃ B,e=.returned (.map (some B))∧Below w.heap.size w w'∧DR w.heap.size w' (.map (some B)) (fun i=>Nat.blt i 4):=by
  go_enter Tryz.func60,Tryz.ntmps60
  go_wp2
  refine wp_region_any (ops:=pb) (by kernel_rfl) ?_
  refine wpAny_take (i:=1) (v:=mz 0) rfl (by kernel_rfl) (by kernel_rfl) (by kernel_rfl) (fun _ _ _ h=>h) (.inl ⟨rfl,fun _=>by kernel_rfl⟩) ?_
  refine wpAny_take (i:=3) (v:=mz 1) rfl (by kernel_rfl) (by kernel_rfl) (by kernel_rfl) (fun _ _ _ h=>h) (.inl ⟨rfl,fun _=>by kernel_rfl⟩) ?_
  refine wpAny_take (i:=5) (v:=mz 2) rfl (by kernel_rfl) (by kernel_rfl) (by kernel_rfl) (fun _ _ _ h=>h) (.inl ⟨rfl,fun _=>by kernel_rfl⟩) ?_
  refine wpAny_take (i:=6) (v:=Cy 127) rfl (by kernel_rfl) (by kernel_rfl) (by kernel_rfl) (fun _ _ _ h=>h) (.inl ⟨rfl,fun _=>by kernel_rfl⟩) ?_
  refine wpAny_take (i:=9) (v:=mz 3) rfl (by kernel_rfl) (by kernel_rfl) (by kernel_rfl) (fun _ _ _ h=>h) (.inl ⟨rfl,fun _=>by kernel_rfl⟩) ?_
  refine wpAny_take (i:=10) (v:=Cy 127) rfl (by kernel_rfl) (by kernel_rfl) (by kernel_rfl) (fun _ _ _ h=>h) (.inl ⟨rfl,fun _=>by kernel_rfl⟩) ?_
  have hb:Below w.heap.size w { w with drawn:=w.drawn+1 }:=⟨rfl,rfl,rfl,Nat.le_refl _,fun _ _=>rfl⟩
  refine Z5 (w:=w) ?_ 7 false false false false false false false undef undef undef _ ⟨fun q=>(by cases q),fun q=>(by cases q),fun q=>(by cases q),fun q=>(by cases q),hb,fun q=>(by cases q),fun q=>(by cases q),fun q=>(by cases q)⟩ rfl
  intro t7 t10 W B h
  rename_i Q' K' hK
  refine hK _ _ ?_
  have e:((kJ (.map (some B)) t7 t10).put (some 11) (.map (some B))).put (some 0) (.map (some B))=⟨#[.map (some B),Cy 127,.map (some B),mz 0,mz 1,mz 2,Cy 127,t7,mz 3,Cy 127,t10,.map (some B)],[]⟩:=rfl
  rw [e]
  go_wp2
  go_ret
  refine ⟨B,rfl,h.low,⟨?_⟩⟩
  obtain ⟨B',es,cl,h1,h2,h3,h4,h5,h6⟩:=(h.map rfl).ex
  cases h1
  refine ⟨B,es,cl,rfl,h2,h3,fun e he=>?_,fun i hi=>?_,h6⟩
  · obtain ⟨i,q1,q2⟩:=h4 e he
    exact ⟨i,Nat.ble_eq_true_of_le (ae1 q1),q2⟩
  · have hi:i<4:=by simpa [Nat.blt_eq] using hi
    refine h5 i ?_
    rcases i with _ | _ | _ | _ | i<;>first | rfl | omega
def Xc:List dz:=[.p .i64 1 0,.p .i64 2 0,.p .i64 1 1,.p .i64 2 1]
def ae3:List AV:=[.fn (.func 129) [] [],.fn (.func 130) [] [],.fn (.func 128) [] [.iptr .free (.vs [.fn (.func 129) [] []]) 1 0 0],.fn (.func 128) [] [.iptr .free (.vs [.fn (.func 130) [] []]) 1 0 0]]
theorem cell_of{w:World}{b:Nat}{c:Array Value}{t:TypeId}(h:w.heap[b]? = some (.cells c t (0,0)))(x:Nat) :w.cell? ⟨b,x,none⟩=c[x]?:=by
  simp [World.cell?,h]
theorem ahu{ρ:ac}{w:World}{bl:Nat}{c:Array Value}{t:TypeId}{l:List AV}(ha:ρ.avoid .free bl)(hh:w.heap[bl]? = some (.cells c t (0,0)))(hv:cV ρ w l c.toList)(hk:dM l=true) :
    VR ρ w (.iptr .free (.vs l) 1 0 0) (.pointer (some ⟨bl,0,none⟩)):=by
  have hb:bl<w.heap.size:=(Array.getElem?_eq_some_iff.1 hh).1
  have:=VR.iptr (ρ:=ρ) (w:=w) .free (.vs l) 1 0 0 bl 0 (fun x=>(c[x]?).getD undef) ha hb (fun x v hx=>?_) (fun x v hx=>?_) trivial (fun _=>hk) (gM hk)
  · simpa using this
  · obtain ⟨u,q1,_⟩:=hv.get x v hx
    rw [Nat.zero_add,cell_of hh]
    simp at q1
    rw [q1];rfl
  · obtain ⟨u,q1,q2⟩:=hv.get x v hx
    simp at q1
    rw [q1];exact q2
theorem ae4(ρ:ac)(w:World)(f:Nat) :VR ρ w (.fn (.func f) [] []) (Cy f):=.fn _ _ _ _ _ .nil .nil
theorem agX{ρ:ac}{w:World}{B0 f:Nat}{v:Value}(h:CL B0 w f v)(ha:∀ bl,B0≤bl→ρ.avoid .free bl) :VR ρ w (.fn (.func 128) [] [.iptr .free (.vs [.fn (.func f) [] []]) 1 0 0]) v:=by
  obtain ⟨b,h1,rfl,h3⟩:=h
  exact .fn _ _ _ _ _ .nil (.cons _ _ _ _ (ahu (ha b h1) h3 (.cons _ _ _ _ (ae4 ρ w f) .nil) rfl) .nil)
theorem ac0{i:Nat}{k:dz}(h:Xc[i]? = some k) :i<4∧k.val=mz i:=by
  have hi:i<4:=(List.getElem?_eq_some_iff.1 h).1
  rcases i with _ | _ | _ | _ | i<;>first | (cases h;exact ⟨hi,rfl⟩) | omega
theorem ae5{i:Nat}(h:i<4) :∃ k,Xc[i]? = some k∧k.val=mz i:=by
  rcases i with _ | _ | _ | _ | i<;>first | exact ⟨_,rfl,rfl⟩ | omega
theorem age{ρ:ac}{w w':World}{B:Nat}(h:DR w.heap.size w' (.map (some B)) (fun i=>Nat.blt i 4))(ha:∀ bl,w.heap.size≤bl→ρ.avoid .free bl) :VR ρ w' (.gmap Xc ae3) (.map (some B)):=by
  obtain ⟨B',es,cl,h1,h2,h3,h4,h5,h6⟩:=h.ex
  cases h1
  have lt4:∀ i,Nat.blt i 4=true→i<4:=fun i q=>by simpa [Nat.blt_eq] using q
  have pick:∀ i,∃ v,i<4→∃ e∈es.toList,e.key=mz i∧EV w.heap.size w' i e.val∧e.val=v:=fun i=>by
    by_cases hi:i<4
    · obtain ⟨e,q1,q2,q3⟩:=h5 i (by simpa [Nat.blt_eq] using hi)
      exact ⟨e.val,fun _=>⟨e,q1,q2,q3,rfl⟩⟩
    · exact ⟨undef,fun q=>absurd q hi⟩
  obtain ⟨u,hu⟩:=Classical.axiomOfChoice pick
  refine .gmap _ _ B es cl u (ha _ h2) (Array.getElem?_eq_some_iff.1 h3).1 h3 (fun e he=>?_) (fun i k hk=>?_) (fun x v hx=>?_) rfl (by decide)
  · obtain ⟨i,hi,hk,_⟩:=h4 e he
    obtain ⟨k,k1,k2⟩:=ae5 (lt4 i hi)
    obtain ⟨e',q1,q2,_,q4⟩:=hu i (lt4 i hi)
    exact ⟨i,k,k1,by rw [hk,k2],by rw [←q4,h6 e he e' q1 (hk.trans q2.symm)]⟩
  · obtain ⟨hi,hk⟩:=ac0 hk
    obtain ⟨e',q1,q2,_,q4⟩:=hu i hi
    exact ⟨e',q1,by rw [hk,q2],q4⟩
  · have hi:x<4:=(List.getElem?_eq_some_iff.1 hx).1
    obtain ⟨e',q1,q2,q3,q4⟩:=hu x hi
    rw [←q4]
    rcases x with _ | _ | _ | _ | x
    · cases hx;rw [show e'.val=Cy 129 from q3];exact ae4 _ _ _
    · cases hx;rw [show e'.val=Cy 130 from q3];exact ae4 _ _ _
    · cases hx;exact agX q3 ha
    · cases hx;exact agX q3 ha
    · omega
theorem ahv:ag prog xO [] [] ⟨.gmap Xc ae3,[]⟩:=by
  refine NA ⟨FN xO,by kernel_rfl,by kernel_rfl⟩ fun ρ w us hN hv=>?_
  cases hv
  refine (Z6 w).mono ?_
  rintro e w' ⟨B,rfl,hb,hm⟩
  exact ⟨_,rfl,hb,age hm hN.new⟩
def Z7:aA:=⟨xO,fun lent args=>match lent,args with | [],[]=>some [⟨⟨.gmap Xc ae3,[]⟩,[]⟩] | _,_=>none⟩
theorem ac1:aN prog Z7:=by
  intro lent args alts a h ha ho
  simp only [Z7] at h
  split at h
  · simp only [Option.some.injEq] at h;subst h
    simp only [List.mem_singleton] at ha;subst ha
    exact ahv
  · cases h
end Go.Plb.Seat
namespace Go.Plb.Seat
open Go Go.Plb
set_option linter.unusedSimpArgs false
set_option linter.unusedVariables false
set_option maxRecDepth 100000
noncomputable section
theorem NB{n:Nat}(h:isNaN n=true) :n/4503599627370496%2048=2047:=by
  rw [kf,decide_eq_true_eq] at h;omega
theorem NC(m:Nat) :bE .and .u64 (m:Int) 2047=((m%2048:Nat):Int):=by
  unfold bE
  simp only [BitVec.toNat_and,BitVec.toNat_ofInt]
  have e1:((2047:Int)%((2^IntKind.u64.bits:Nat):Int)).toNat=2^11-1:=by decide
  have e2:((m:Int)%((2^IntKind.u64.bits:Nat):Int)).toNat=m%2^64:=by
    show ((m:Int)%((2^64:Nat):Int)).toNat=_
    omega
  rw [e1,e2,Nat.and_two_pow_sub_one_eq_mod]
  have e3:m%2^64%2^11=m%2048:=by omega
  rw [e3]
  have:m%2048<2048:=Nat.mod_lt _ (by decide)
  simp only [IntKind.wrap,IntKind.signed,IntKind.bits]
  simp
  omega
theorem ac2:IntKind.i64.wrap 2047=2047:=by decide
theorem ahw:ag prog oF [] [.nan] ⟨.bool true false,[]⟩:=by
  have h0:ag prog oF [] [.nan] ⟨.bool false false,[]⟩:=by
    intro ρ w us hN hv
    cases hv with | cons _ u _ _ h1 h2 =>
    cases h2
    cases h1 with | nan n hn =>
    have hr:pO C0 E0 (iF C0 E0 0 50) oF [] [.int .u64 n] (some [])=some (⟨.bool false (IntKind.i64.wrap (bE .and .u64 (Int.fdiv (n:Int) (2^min (Int.toNat 52) IntKind.u64.bits)) 2047) != 2047),[]⟩,[decide ((0:Int)≤52)],some []):=by kernel_rfl
    have c:=ag.run eB wV _ _ _ hr ⟨rfl,trivial⟩
    have e:(IntKind.i64.wrap (bE .and .u64 (Int.fdiv (n:Int) (2^min (Int.toNat 52) IntKind.u64.bits)) 2047) != 2047)=false:=by
      have e1:(2^min (Int.toNat 52) IntKind.u64.bits:Int)=((4503599627370496:Nat):Int):=by decide
      have e2:Int.fdiv (n:Int) ((4503599627370496:Nat):Int)=((n/4503599627370496:Nat):Int):=by
        rw [Int.fdiv_eq_ediv_of_nonneg _ (by omega)];omega
      rw [e1,e2,NC,NB hn]
      show (IntKind.i64.wrap 2047 != 2047)=false
      rw [ac2];rfl
    rw [e] at c
    exact c ρ w _ hN (.cons _ _ _ _ (.int _ _) .nil)
  exact h0.weak (En _ _ _)
def Z8:aA:=⟨oF,fun lent args=>match lent,args with | [],[.nan]=>some [⟨⟨.bool true false,[]⟩,[]⟩] | _,_=>none⟩
theorem ac3:aN prog Z8:=by
  intro lent args alts a h ha ho
  simp only [Z8] at h
  split at h
  · simp only [Option.some.injEq] at h;subst h
    simp only [List.mem_singleton] at ha;subst ha
    exact ahw
  · cases h
def ahx:List aA:=Z8::Z7::Q5
theorem abE:aH prog (aG ahx):=au ac3 (au ac1 Tl)
def okB:Option (ir×List Bool×eF)→Bool
  | some (⟨.bool _ true,[]⟩,o,_)=>RH o
  | _=>false
theorem ae6{r:Option (ir×List Bool×eF)}(h:okB r=true) :∃ k o p,r=some (⟨.bool k true,[]⟩,o,p)∧aB o:=by
  unfold okB at h
  split at h
  · exact ⟨_,_,_,rfl,Hk h⟩
  · cases h
end
end Go.Plb.Seat
namespace Go.Plb.Seat
open Go Go.Plb
set_option maxRecDepth 100000
noncomputable section
def ae7:List aA:=ja 59 [.agg [.i .i64 1,.i .i64 1,.fl [4611686018427387904]]] ⟨(.tup [(.agg [(.int .i64 1),(.int .i64 1),(.sl 0 1 1 0 1 1)]),(.int .i64 2)]),[some (.fl [4602678819172646912])]⟩::ahx
theorem ac4:aH prog (aG ae7):=eK eB abE (N:=100) (n:=1000) (by kernel_rfl)
def ae8:List aA:=ja 83 [.agg [.i .i64 1,.i .i64 1,.fl [4602678819172646912]]] ⟨(.tup [(.agg [(.sl 0 1 1 0 1 1),.nsl]),(.sl 1 1 2 0 1 1),.nsl,(.int .i64 0)]),[some (.fl [4602678819172646912]),some (.vs [(.sl 2 1 1 0 1 1),(.flt true 0)]),some (.fl [4607182418800017408])]⟩::ae7
theorem ac5:aH prog (aG ae8):=eK eB ac4 (N:=100) (n:=1000) (by kernel_rfl)
def ae9:List aA:=ja 213 [.i .i64 1,.nil] ⟨(.tup [(.agg [(.int .i64 1),(.int .i64 1),(.sl 0 1 1 0 1 1)]),(.int .i64 0)]),[some (.fl [4607182418800017408])]⟩::ae8
theorem ac6:aH prog (aG ae9):=eK eB ac5 (N:=100) (n:=1000) (by kernel_rfl)
def afa:List aA:=ja 214 [.agg [.fl [4602678819172646912],.nil],.agg [.i .i64 1,.i .i64 1,.fl [4607182418800017408]],.agg [.i .i64 1,.i .i64 1,.fl [4607182418800017408]]] ⟨(.tup [(.sl 0 1 1 0 1 1),(.agg [(.int .i64 1),(.int .i64 1),(.sl 1 1 1 0 1 1)]),(.agg [(.int .i64 1),(.int .i64 1),(.sl 2 1 1 0 1 1)]),(.int .i64 0),(.int .i64 0)]),[some (.fl [4602678819172646912]),some (.fl [4607182418800017408]),some (.fl [4607182418800017408])]⟩::ae9
theorem ac7:aH prog (aG afa):=eK eB ac6 (N:=100) (n:=1000) (by kernel_rfl)
def afb:List aA:=ja 134 [.i .i64 1,.i .i64 1] ⟨(.tup [(.agg [(.bool false false),(.imm .free (.ns .u64 [1]) 1 1 0 1),(.int .i64 (-94))]),(.int .i64 0)]),[]⟩::afa
theorem ac8:aH prog (aG afb):=eK eB ac7 (N:=100) (n:=1000) (by kernel_rfl)
def afc:List aA:=ja 135 [.agg [.i .i64 1,.i .i64 1,.fl [4611686018427387904]]] ⟨(.tup [(.agg [(.bool true false),(.imm .free (.ns .u64 [1]) 1 1 0 1),(.int .i64 2)]),(.int .i64 0)]),[]⟩::afb
theorem ac9:aH prog (aG afc):=eK eB ac8 (N:=100) (n:=1000) (by kernel_rfl)
def afd:List aA:=ja 139 [.agg [.i .i64 1,.i .i64 1,.fl [4607182418800017408]]] ⟨(.tup [(.agg [(.bool true false),.nsl,(.int .i64 0)]),(.int .i64 0)]),[]⟩::afc
theorem ada:aH prog (aG afd):=eK eB ac9 (N:=100) (n:=1000) (by kernel_rfl)
def afe:List aA:=ja 143 [.agg [.i .i64 1,.i .i64 1,.fl [4611686018427387904]],.agg [.i .i64 1,.i .i64 1,.fl [4607182418800017408]],.agg [.i .i64 1,.i .i64 1,.fl [4607182418800017408]],.fl [4611686018427387904]] ⟨(.tup [(.agg [(.bool true false),.nsl,(.int .i64 0)]),(.int .i64 0)]),[]⟩::afd
theorem adb:aH prog (aG afe):=eK eB ada (N:=100) (n:=1000) (by kernel_rfl)
def aff:List aA:=ja 63 [.agg [.i .i64 1,.i .i64 1,.fl [4611686018427387904]],.fl [4611686018427387904],.agg [.i .i64 1,.i .i64 1,.fl [4607182418800017408]],.agg [.i .i64 1,.i .i64 1,.fl [4607182418800017408]]] ⟨(.tup [(.bool true true),(.int .i64 0)]),[]⟩::afe
theorem adc:aH prog (aG aff):=eK eB adb (N:=100) (n:=1000) (by kernel_rfl)
def abF:List aA:=ja 18 [.i .i64 1,.i .i64 1,.ns .u64 [4611686018427387904],.i .i64 1] ⟨(.agg [(.int .i64 0),(.sl 0 1 1 0 1 1),(.int .i64 1),(.int .i64 1),(.sl 1 1 1 0 1 1),(.int .i64 1),(.int .i64 1),(.sl 2 1 1 0 1 1),(.int .i64 0)]),[some (.fl [4611686018427387904]),some (.fl [4607182418800017408]),some (.fl [4607182418800017408])]⟩::aff
theorem Z9:aH prog (aG abF):=eK eB adc (N:=100) (n:=1000) (by kernel_rfl)
def abG:List aA:=ja 45 [.fl [4611686018427387904],.agg [.i .i64 1,.i .i64 1,.fl [4607182418800017408]],.agg [.i .i64 1,.i .i64 1,.fl [4607182418800017408]],.i .i64 1] ⟨(.tup [(.agg [(.int .i64 1),(.int .i64 1),(.sl 0 1 1 0 1 1)]),(.int .i64 0)]),[some (.fl [4602678819172646912])]⟩::abF
theorem aaa:aH prog (aG abG):=eK eB Z9 (N:=100) (n:=1000) (by kernel_rfl)
def abH:List aA:=ja 59 [.agg [.i .i64 2,.i .i64 2,.fl [4611686018427387904,0,0,4607182418800017408]]] ⟨(.tup [(.agg [(.int .i64 2),(.int .i64 2),(.sl 0 1 1 0 4 4)]),(.int .i64 2)]),[some (.fl [4602678819172646912,0,0,4598175219545276416])]⟩::abG
theorem aab:aH prog (aG abH):=eK eB aaa (N:=100) (n:=1000) (by kernel_rfl)
def abI:List aA:=ja 83 [.agg [.i .i64 2,.i .i64 2,.fl [4602678819172646912,0,0,4598175219545276416]]] ⟨(.tup [(.agg [(.sl 0 1 1 0 2 2),(.sl 1 1 1 0 1 1)]),(.sl 2 1 2 0 2 2),.nsl,(.int .i64 0)]),[some (.fl [4602678819172646912,4598175219545276416]),some (.fl [0]),some (.vs [(.sl 3 1 1 0 2 2),(.flt true 0),(.sl 4 1 1 0 1 1),(.flt true 0)]),some (.fl [4607182418800017408,0]),some (.fl [4607182418800017408])]⟩::abH
theorem aac:aH prog (aG abI):=eK eB aab (N:=100) (n:=1000) (by kernel_rfl)
def abJ:List aA:=ja 213 [.i .i64 2,.nil] ⟨(.tup [(.agg [(.int .i64 2),(.int .i64 2),(.sl 0 1 1 0 4 4)]),(.int .i64 0)]),[some (.fl [4607182418800017408,0,0,4607182418800017408])]⟩::abI
theorem aad:aH prog (aG abJ):=eK eB aac (N:=100) (n:=1000) (by kernel_rfl)
def abK:List aA:=ja 214 [.agg [.fl [4602678819172646912,4598175219545276416],.fl [0]],.agg [.i .i64 2,.i .i64 2,.fl [4607182418800017408,0,0,4607182418800017408]],.agg [.i .i64 2,.i .i64 2,.fl [4607182418800017408,0,0,4607182418800017408]]] ⟨(.tup [(.sl 0 1 1 0 2 2),(.agg [(.int .i64 2),(.int .i64 2),(.sl 1 1 1 0 4 4)]),(.agg [(.int .i64 2),(.int .i64 2),(.sl 2 1 1 0 4 4)]),(.int .i64 0),(.int .i64 0)]),[some (.fl [4602678819172646912,4598175219545276416]),some (.fl [4607182418800017408,0,0,4607182418800017408]),some (.fl [4607182418800017408,0,0,4607182418800017408])]⟩::abJ
theorem aae:aH prog (aG abK):=eK eB aad (N:=100) (n:=1000) (by kernel_rfl)
def abL:List aA:=ja 134 [.i .i64 2,.i .i64 2] ⟨(.tup [(.agg [(.bool false false),(.imm .free (.ns .u64 [1]) 1 1 0 1),(.int .i64 (-90))]),(.int .i64 0)]),[]⟩::abK
theorem aaf:aH prog (aG abL):=eK eB aae (N:=100) (n:=1000) (by kernel_rfl)
def abM:List aA:=ja 135 [.agg [.i .i64 2,.i .i64 2,.fl [4611686018427387904,0,0,4607182418800017408]]] ⟨(.tup [(.agg [(.bool true false),(.imm .free (.ns .u64 [5]) 1 1 0 1),(.int .i64 0)]),(.int .i64 0)]),[]⟩::abL
theorem aag:aH prog (aG abM):=eK eB aaf (N:=100) (n:=1000) (by kernel_rfl)
def abN:List aA:=ja 139 [.agg [.i .i64 2,.i .i64 2,.fl [4607182418800017408,0,0,4607182418800017408]]] ⟨(.tup [(.agg [(.bool true false),.nsl,(.int .i64 0)]),(.int .i64 0)]),[]⟩::abM
theorem aah:aH prog (aG abN):=eK eB aag (N:=100) (n:=1000) (by kernel_rfl)
def abO:List aA:=ja 143 [.agg [.i .i64 2,.i .i64 2,.fl [4611686018427387904,0,0,4607182418800017408]],.agg [.i .i64 2,.i .i64 2,.fl [4607182418800017408,0,0,4607182418800017408]],.agg [.i .i64 2,.i .i64 2,.fl [4607182418800017408,0,0,4607182418800017408]],.fl [4611686018427387904,4607182418800017408]] ⟨(.tup [(.agg [(.bool true false),.nsl,(.int .i64 0)]),(.int .i64 0)]),[]⟩::abN
theorem aai:aH prog (aG abO):=eK eB aah (N:=100) (n:=1000) (by kernel_rfl)
def abP:List aA:=ja 63 [.agg [.i .i64 2,.i .i64 2,.fl [4611686018427387904,0,0,4607182418800017408]],.fl [4611686018427387904,4607182418800017408],.agg [.i .i64 2,.i .i64 2,.fl [4607182418800017408,0,0,4607182418800017408]],.agg [.i .i64 2,.i .i64 2,.fl [4607182418800017408,0,0,4607182418800017408]]] ⟨(.tup [(.bool true true),(.int .i64 0)]),[]⟩::abO
theorem aaj:aH prog (aG abP):=eK eB aai (N:=100) (n:=1000) (by kernel_rfl)
def abQ:List aA:=ja 18 [.i .i64 2,.i .i64 2,.ns .u64 [4611686018427387904,0,0,4607182418800017408],.i .i64 1] ⟨(.agg [(.int .i64 0),(.sl 0 1 1 0 2 2),(.int .i64 2),(.int .i64 2),(.sl 1 1 1 0 4 4),(.int .i64 2),(.int .i64 2),(.sl 2 1 1 0 4 4),(.int .i64 0)]),[some (.fl [4611686018427387904,4607182418800017408]),some (.fl [4607182418800017408,0,0,4607182418800017408]),some (.fl [4607182418800017408,0,0,4607182418800017408])]⟩::abP
theorem aak:aH prog (aG abQ):=eK eB aaj (N:=100) (n:=1000) (by kernel_rfl)
def abR:List aA:=ja 215 [.agg [.i .i64 1,.i .i64 1,.fl [4602678819172646912]]] ⟨(.tup [(.sl 0 1 1 0 1 1),(.agg [(.int .i64 1),(.int .i64 1),(.sl 1 1 1 0 1 1)]),(.agg [(.int .i64 1),(.int .i64 1),(.sl 2 1 1 0 1 1)]),(.int .i64 1),(.int .i64 0)]),[some (.fl [4602678819172646912]),some (.fl [4607182418800017408]),some (.fl [4607182418800017408])]⟩::abQ
theorem aal:aH prog (aG abR):=eK eB aak (N:=100) (n:=1000) (by kernel_rfl)
def abS:List aA:=ja 18 [.i .i64 1,.i .i64 1,.ns .u64 [4611686018427387904],.i .i64 2] ⟨(.agg [(.int .i64 0),(.sl 0 1 1 0 1 1),(.int .i64 1),(.int .i64 1),(.sl 1 1 1 0 1 1),(.int .i64 1),(.int .i64 1),(.sl 2 1 1 0 1 1),(.int .i64 1)]),[some (.fl [4611686018427387904]),some (.fl [4607182418800017408]),some (.fl [4607182418800017408])]⟩::abR
theorem aam:aH prog (aG abS):=eK eB aal (N:=100) (n:=1000) (by kernel_rfl)
def abT:List aA:=ja 215 [.agg [.i .i64 2,.i .i64 2,.fl [4602678819172646912,0,0,4598175219545276416]]] ⟨(.tup [(.sl 0 1 1 0 2 2),(.agg [(.int .i64 2),(.int .i64 2),(.sl 1 1 1 0 4 4)]),(.agg [(.int .i64 2),(.int .i64 2),(.sl 2 1 1 0 4 4)]),(.int .i64 1),(.int .i64 0)]),[some (.fl [4602678819172646912,4598175219545276416]),some (.fl [4607182418800017408,0,0,4607182418800017408]),some (.fl [4607182418800017408,0,0,4607182418800017408])]⟩::abS
theorem aan:aH prog (aG abT):=eK eB aam (N:=100) (n:=1000) (by kernel_rfl)
def abU:List aA:=ja 18 [.i .i64 2,.i .i64 2,.ns .u64 [4611686018427387904,0,0,4607182418800017408],.i .i64 2] ⟨(.agg [(.int .i64 0),(.sl 0 1 1 0 2 2),(.int .i64 2),(.int .i64 2),(.sl 1 1 1 0 4 4),(.int .i64 2),(.int .i64 2),(.sl 2 1 1 0 4 4),(.int .i64 1)]),[some (.fl [4611686018427387904,4607182418800017408]),some (.fl [4607182418800017408,0,0,4607182418800017408]),some (.fl [4607182418800017408,0,0,4607182418800017408])]⟩::abT
theorem aao:aH prog (aG abU):=eK eB aan (N:=100) (n:=1000) (by kernel_rfl)
def aap:List aA:=abU
theorem ade:aH prog (aG aap):=aao
theorem Xd:okB (pO C0 (aG aap) (iF C0 (aG aap) 50 100) vN [] [] none)=true:=by kernel_rfl
theorem adf:ag prog vN [] [] ⟨.bool false true,[]⟩:=by
  obtain ⟨k,o,p,h,ho⟩:=ae6 Xd
  exact (ag.run eB ade none _ _ h ho).weak (En _ _ _)
def H4:aA:=⟨vN,fun L args=>match L,args with | [],[]=>one (.bool false true) [] | _,_=>none⟩
theorem Tm:aN prog H4:=by
  intro L args alts a h ha ho
  simp only [H4] at h
  split at h
  · exact th h ha ho fun q=>adf
  · cases h
end
end Go.Plb.Seat
namespace Go.Plb.Seat
open Go Go.Plb
set_option linter.unusedSimpArgs false
set_option linter.unusedVariables false
set_option maxRecDepth 100000
noncomputable section
theorem ahy(m:Nat) :bE .and .u64 (m:Int) 4503599627370495=((m%4503599627370496:Nat):Int):=by
  unfold bE
  simp only [BitVec.toNat_and,BitVec.toNat_ofInt]
  have e1:((4503599627370495:Int)%((2^IntKind.u64.bits:Nat):Int)).toNat=2^52-1:=by decide
  have e2:((m:Int)%((2^IntKind.u64.bits:Nat):Int)).toNat=m%2^64:=by
    show ((m:Int)%((2^64:Nat):Int)).toNat=_
    omega
  rw [e1,e2,Nat.and_two_pow_sub_one_eq_mod]
  have e3:m%2^64%2^52=m%4503599627370496:=by omega
  rw [e3]
  have:m%4503599627370496<4503599627370496:=Nat.mod_lt _ (by decide)
  simp only [IntKind.wrap,IntKind.signed,IntKind.bits]
  simp
  omega
theorem adg:ag prog ry [] [.nan] ⟨.int .u64 9221120237041090560,[]⟩:=by
  intro ρ w us hN hv
  cases hv with | cons _ u _ _ h1 h2 =>
  cases h2
  cases h1 with | nan n hn =>
  have hr:pO C0 E0 (iF C0 E0 5 60) ry [] [.int .u64 (n:Int)] (some [1,0,1])=some (⟨.int .u64 9221120237041090560,[]⟩,[decide ((0:Int)≤52),(bE .and .u64 (Int.fdiv (n:Int) (2^min (Int.toNat 52) IntKind.u64.bits)) 2047==2047)==Nat.beq 1 1,(bE .and .u64 (n:Int) 4503599627370495==0)==Nat.beq 0 1,((5:Int)==5)==Nat.beq 1 1],some []):=by kernel_rfl
  have o1:((bE .and .u64 (Int.fdiv (n:Int) (2^min (Int.toNat 52) IntKind.u64.bits)) 2047==2047)==Nat.beq 1 1)=true:=by
    have e1:(2^min (Int.toNat 52) IntKind.u64.bits:Int)=((4503599627370496:Nat):Int):=by decide
    have e2:Int.fdiv (n:Int) ((4503599627370496:Nat):Int)=((n/4503599627370496:Nat):Int):=by
      rw [Int.fdiv_eq_ediv_of_nonneg _ (by omega)];omega
    rw [e1,e2,NC,NB hn];rfl
  have o2:((bE .and .u64 (n:Int) 4503599627370495==0)==Nat.beq 0 1)=true:=by
    rw [ahy]
    rw [kf,decide_eq_true_eq] at hn
    have:(((n%4503599627370496:Nat):Int)==0)=false:=by rw [beq_eq_false_iff_ne];omega
    rw [this];rfl
  have c:=ag.run eB wV _ _ _ hr ⟨rfl,o1,o2,rfl,trivial⟩
  exact c ρ w _ hN (.cons _ _ _ _ (.int _ _) .nil)
def H5:aA:=⟨ry,fun lent args=>match lent,args with | [],[.nan]=>some [⟨⟨.int .u64 9221120237041090560,[]⟩,[]⟩] | _,_=>none⟩
theorem Tn:aN prog H5:=by
  intro lent args alts a h ha ho
  simp only [H5] at h
  split at h
  · simp only [Option.some.injEq] at h;subst h
    simp only [List.mem_singleton] at ha;subst ha
    exact adg
  · cases h
end
end Go.Plb.Seat
namespace Go.Plb.Seat
open Go Go.Plb
noncomputable def aib:List aA:=H4::H5::ahx
theorem K5:aH prog (aG aib):=au Tm (au Tn abE)
end Go.Plb.Seat
namespace Go.Plb
noncomputable section
set_option linter.unusedSimpArgs false
set_option linter.unusedVariables false
set_option linter.unusedSectionVars false
variable [Rom]
mutual
def PI (k:Nat):AV→Bool
  | .ptr b _ _ _=>Nat.blt b k
  | .sl b _ _ _ _ _=>Nat.blt b k
  | .fn _ l1 l2=>PJ k l1&&PJ k l2
  | .agg l=>PJ k l
  | .tup l=>PJ k l
  | .iface _ v=>PI k v
  | .yld _=>false
  | _=>true
def PJ (k:Nat):List AV→Bool
  | []=>true
  | v::l=>PI k v&&PJ k l
end
mutual
theorem abV {k:Nat} {σ:Nat→Option Nat} (hσ:∀ b,b<k→σ b=some b):∀ (v:AV),PI k v=true→Ux σ v=v
  | .ptr b _ _ _,h=>by
    simp only [PI,Nat.blt_eq] at h
    simp only [Ux,hσ b h]
  | .sl b _ _ _ _ _,h=>by
    simp only [PI,Nat.blt_eq] at h
    simp only [Ux,hσ b h]
  | .fn _ l1 l2,h=>by
    simp only [PI,Bool.and_eq_true] at h
    simp only [Ux,Cz hσ l1 h.1,Cz hσ l2 h.2]
  | .agg l,h=>by simp only [PI] at h;simp only [Ux,Cz hσ l h]
  | .tup l,h=>by simp only [PI] at h;simp only [Ux,Cz hσ l h]
  | .iface _ v,h=>by simp only [PI] at h;simp only [Ux,abV hσ v h]
  | .yld _,h=>by simp [PI] at h
  | .int ..,_ | .bool ..,_ | .flt ..,_ | .str _,_ | .nptr,_ | .iptr ..,_ | .nsl,_ | .esl,_ | .zsl _,_ | .nan,_ | .imm ..,_ | .nfn,_ | .gmap ..,_ | .gvar _,_ | .niface,_ | .any,_=>rfl
theorem Cz {k:Nat} {σ:Nat→Option Nat} (hσ:∀ b,b<k→σ b=some b):∀ (l:List AV),PJ k l=true→nmL σ l=l
  | [],_=>rfl
  | v::l,h=>by
    simp only [PJ,Bool.and_eq_true] at h
    simp only [nmL,abV hσ v h.1,Cz hσ l h.2]
end
theorem afg{k:Nat}{keep:List Nat}(hk:Ei k keep=true) :∀ b,b<k→jB keep 0 b=some b:=by
  intro b hb
  unfold Ei at hk
  rw [Bool.and_eq_true] at hk
  have hg:keep[b]? = some b:=by have:=xM hk.2 b hb;simpa using this
  cases hp:jB keep 0 b with
  | none=>exact absurd (List.mem_of_getElem? hg) (D7 hp)
  | some c =>
    obtain ⟨_,h2⟩:=wJ hp
    rw [Nat.sub_zero] at h2
    rw [tu hk.1 h2 hg]
theorem Q7{σ:Nat→Option Nat}{h:bN} :∀ {l:List Nat} {i c b:Nat} {e:aD},i≤c→l[c-i]? = some b→be h b=some e→be (vK σ h i l) c=some (nmB σ e)
  | [],i,c,b,e,hic,hl,he=>by simp at hl
  | x::l,i,c,b,e,hic,hl,he=>by
    simp only [vK]
    by_cases q:i=c
    · subst q
      simp at hl;subst hl
      rw [he]
      simp only [dA,nv,cond_true]
    · have hne:Nat.beq i c=false:=by
        cases e:Nat.beq i c with
        | false=>rfl
        | true=>exact absurd (Nat.eq_of_beq_eq_true e) q
      have hs:c-i=(c-(i+1))+1:=by omega
      rw [hs] at hl
      have ih:=Q7 (σ:=σ) (h:=h) (l:=l) (i:=i+1) (c:=c) (b:=b) (e:=e) (by omega) (by simpa using hl) he
      cases hx:be h x with
      | some d=>simp only [dA,hne,cond_false];exact ih
      | none=>exact ih
theorem afh{σ:Nat→Option Nat}{d:aD}{s:LoopState×Option Code}(h:jc (some d)=some s) :jc (some (nmB σ d))=some s:=by
  cases d with
  | vs l=>cases l with
    | nil=>exact h
    | cons=>cases h
  | fl xs=>exact h
  | rows k m g=>exact h
  | ns=>cases h
  | bs=>cases h
  | ss=>cases h
  | cols=>cases h
structure YOk (y:YI) (k:Nat):Prop where
  lt:y.b<k
  fix:PJ k y.saved=true
structure AtY (y:YI) (k:Nat) (ρ0:ac) (w0:World) (st:aC) (ρ:ac) (a:Act) (w:World):Prop where
  ext:kI ρ0 ρ w0
  wle:iq (ρ0.wm (some y)) w0 w
  sr:SR ρ st a w
  back:∀ b,ρ.ok b→ρ0.ok b∨k≤b
  le:k≤st.next
  pin:mJ (some y) ρ w st.heap st.next
theorem AtY.pln{y:YI}{k:Nat}{ρ0 ρ:ac}{w0 w:World}{st st':aC}{a:Act}(hy:YOk y k)(h:AtY y k ρ0 w0 st ρ a w)(hw:Jk st st') :AtY y k ρ0 w0 st' ρ a w:=by
  refine ⟨h.ext,h.wle,hw.sr _ _ _ h.sr,h.back,Nat.le_trans h.le hw.le,?_⟩
  obtain ⟨h1,h2,L,h3,h4,s,pe,h5,h6⟩:=h.pin
  refine ⟨h1,Nat.lt_of_lt_of_le h2 hw.le,L,h3,h4,s,pe,?_,h6⟩
  rw [hw.mark y.b h2 (by rw [h5];rfl)]
  exact h5
theorem AtY.norm{y:YI}{k:Nat}{ρ0 ρ:ac}{w0 w:World}{st:aC}{a:Act}{keep ks:List Nat}(hy:YOk y k)(h0:∀ b,ρ0.ok b→b<k)(hk:Ei k keep=true)(h:AtY y k ρ0 w0 st ρ a w) :AtY y k ρ0 w0 (norm keep ks st) (ρ.renamed keep) a w:=by
  have hσ:=afg hk
  have hk':=hk
  unfold Ei at hk'
  rw [Bool.and_eq_true] at hk'
  obtain ⟨hn,hid⟩:=hk'
  have idL:∀ {i:Nat},i<k→keep[i]? = some i:=fun q=>by have:=xM hid _ q;simpa using this
  have hlen:k≤keep.length:=by
    rcases Nat.lt_or_ge keep.length k with q | q
    · have:=idL q
      rw [List.getElem?_eq_none (Nat.le_refl _)] at this;cases this
    · exact q
  refine ⟨⟨fun b q=>?_,fun b q=>⟨b,idL (h0 b q),h.ext.ok b q⟩,h.ext.live,h.ext.new,h.ext.out,h.ext.pin⟩,h.wle,⟨h.sr.defers.renamed,Yn _ _ h.sr.tmps,abc hn h.sr.heap⟩,fun i q=>?_,hlen,?_⟩
  · rw [Ej (idL (h0 b q))];exact h.ext.at_ b q
  · rcases Nat.lt_or_ge i k with hi | hi
    · obtain ⟨b,q1,q2⟩:=q
      rw [idL hi] at q1;cases q1
      exact h.back i q2
    · exact .inr hi
  · obtain ⟨h1,h2,L,h3,h4,s,pe,h5,rec,r1,r2,r3,r4,r5,r6,r7⟩:=h.pin
    refine ⟨?_,Nat.lt_of_lt_of_le hy.lt hlen,L,h3,h4,s,pe,?_,rec,r1,r2,r3,r4,r5,r6,?_⟩
    · rintro ⟨b,q1,q2⟩
      rw [idL hy.lt] at q1;cases q1
      exact h1 q2
    · cases hg:be st.heap y.b with
      | none=>rw [hg] at h5;cases h5
      | some d =>
        rw [hg] at h5
        show jc (be (vK (jB keep 0) st.heap 0 keep) y.b)=_
        rw [Q7 (Nat.zero_le _) (by rw [Nat.sub_zero];exact idL hy.lt) hg]
        exact afh h5
    · have:=Hp (keep:=keep) y.saved r7
      rw [Cz hσ y.saved hy.fix] at this
      exact this
theorem AtY.ns{y:YI}{k:Nat}{ρ0 ρ:ac}{w0 w:World}{st:aC}{a:Act}{s:NS}(hy:YOk y k)(h0:∀ b,ρ0.ok b→b<k)(hs:s.ok k=true)(h:AtY y k ρ0 w0 st ρ a w) :AtY y k ρ0 w0 (s.on st) (ρ.renamed s.keep) a w:=by
  unfold NS.ok at hs
  rw [Bool.and_eq_true] at hs
  exact (h.pln hy (qe hs.1)).norm hy h0 hs.2
theorem AtY.post{y:YI}{k:Nat}{ρ0 ρ ρ':ac}{w0 w w':World}{st st':aC}{a a':Act}(h:AtY y k ρ0 w0 st ρ a w)(p:mr (some y) ρ w st.next st' ρ' a' w') :AtY y k ρ0 w0 st' ρ' a' w' :=
  ⟨h.ext.trans p.stp.ext h.wle.size,h.wle.trans p.stp.wle (fun x hx q=>aa5 h.ext hx q),p.sr,fun b q=>by
    rcases p.back b q with q | q
    · exact h.back b q
    · exact .inr (Nat.le_trans h.le q),Nat.le_trans h.le p.le,p.pin⟩
def sC(P:Program)(y:YI)(k:Nat)(cs:List Code)(st:aC)(Q:AE→aC→Prop) :Prop :=
  YOk y k→∀ (ρ0:ac) (w0:World),(∀ b,ρ0.ok b→b<k)→∀ (K:Exit→Act→World→Prop),(∀ e st' ρ' a' w',Q e st'→AtY y k ρ0 w0 st' ρ' a' w'→K e.real a' w')→∀ ρ a w,AtY y k ρ0 w0 st ρ a w→Ht P cs K a w
def ND:List Code→Bool
  | []=>true
  | c::l=>gi c&&ND l
theorem Xe{P:Program}{self:mK}(hself:uE P self){y:YI} :∀ (cs:List Code) {st st':aC} {p p':eF} {e:AE} {obs:List Bool},ND cs=true→Oz (self (some y)) cs st p=some (e,st',obs,p')→aB obs→∀ {ρ:ac} {a:Act} {w:World} {Q:Exit→Act→World→Prop},SR ρ st a w→mJ (some y) ρ w st.heap st.next →
    (∀ ρ' a' w',mr (some y) ρ w st.next st' ρ' a' w'→Q e.real a' w')→Ht P cs Q a w
  | [],st,st',p,p',e,obs,hn,h,ho,ρ,a,w,Q,hs,hp,hQ=>by
    simp only [Oz,Option.some.injEq,Prod.mk.injEq] at h;obtain ⟨rfl,rfl,rfl,rfl⟩:=h
    exact hQ ρ a w (mr.refl hs hp)
  | c::l,st,st',p,p',e,obs,hn,h,ho,ρ,a,w,Q,hs,hp,hQ=>by
    simp only [ND,Bool.and_eq_true] at hn
    simp only [Oz] at h
    split at h
    · rename_i st1 o1 p1 h1
      split at h
      case h_2=>cases h
      rename_i e2 wB o2 p2 h2
      simp only [Option.some.injEq,Prod.mk.injEq] at h;obtain ⟨rfl,rfl,rfl,rfl⟩:=h
      rw [bh] at ho
      refine wpIn_wide.1 (hself (some y) c st p _ _ _ _ h1 ho.1 none 0 ρ a w _ (.inl hn.1) hs hp fun ρ1 a1 w1 P1=>?_)
      exact Xe hself l hn.2 h2 ho.2 P1.sr P1.pin fun ρ2 a2 w2 P2=>hQ ρ2 a2 w2 (P1.trans P2)
    · rename_i hne
      refine wpIn_wide.1 (hself (some y) c st p _ _ _ _ h ho none 0 ρ a w _ (.inl hn.1) hs hp fun ρ1 a1 w1 P1=>?_)
      have:=hQ ρ1 a1 w1 P1
      cases e with
      | normal=>exact (hne _ _ _ h).elim
      | ret=>exact this
      | exit id=>exact this
theorem sC.ns{P:Program}{y:YI}{k:Nat}{cs:List Code}{st st1:aC}{Q:AE→aC→Prop}(s:NS)(hn:s.ok k=true)(h1:s.on st=st1)(h:sC P y k cs st1 Q) :sC P y k cs st Q :=
  fun hy ρ0 w0 h0 K hK ρ a w hA=>h hy ρ0 w0 h0 K hK _ a w (by rw [←h1];exact hA.ns hy h0 hn)
theorem sC.nil{P:Program}{y:YI}{k:Nat}{st:aC}{Q:AE→aC→Prop}(h:Q .normal st) :sC P y k [] st Q :=
  fun hy ρ0 w0 h0 K hK ρ a w hA=>hK .normal st ρ a w h hA
theorem sC.mono{P:Program}{y:YI}{k:Nat}{cs:List Code}{st:aC}{Q Q':AE→aC→Prop}(hQ:∀ e st,Q e st→Q' e st)(h:sC P y k cs st Q) :sC P y k cs st Q' :=
  fun hy ρ0 w0 h0 K hK ρ a w hA=>h hy ρ0 w0 h0 K (fun e st' ρ' a' w' q hA'=>hK e st' ρ' a' w' (hQ e st' q) hA') ρ a w hA
theorem sC.append{P:Program}{y:YI}{k:Nat}{cs1 cs2:List Code}{st:aC}{Q1 Q:AE→aC→Prop}(h:sC P y k cs1 st Q1)(h2:∀ st',Q1 .normal st'→sC P y k cs2 st' Q)(h3:∀ e st',e ≠ .normal→Q1 e st'→Q e st') :sC P y k (cs1++cs2) st Q:=by
  intro hy ρ0 w0 h0 K hK ρ a w hA
  apply xN
  refine h hy ρ0 w0 h0 _ ?_ ρ a w hA
  intro e st' ρ' a' w' q hA'
  cases e with
  | normal=>exact h2 st' q hy ρ0 w0 h0 K hK ρ' a' w' hA'
  | ret=>exact hK .ret st' ρ' a' w' (h3 _ _ (by simp) q) hA'
  | exit id=>exact hK (.exit id) st' ρ' a' w' (h3 _ _ (by simp) q) hA'
def sX{α X:Type}(P:Program)(y:YI)(k:Nat)(cs:List Code)(st:aC)(m:Option (α⊕X))(N:α→aC)(E:X→AE×aC) :Prop :=
  ∀ r,m=some r→sC P y k cs st fun e st'=>(e,st')=ln N E r
def abW{α X:Type}(C:uv)(S:wL)(n:Nat)(y:YI)(cs:List Code)(st:aC)(ls:List (Bb (α⊕X)))(ks:List NS)(k:Nat) :List (Bool×Option (AE×aC×List Bool)) :=
  List.zipWith (fun l s=>(s.ok k,UJ s (Oz (AZ C S 12 n (some y)) cs st (some l.path)))) ls ks
theorem sX.seg{C:uv}(hC:C.Ok){S:wL}(hS:aH C.P S){y:YI}{k:Nat}{α X:Type}(n:Nat)(cs:List Code)(st:aC)(t:T (α⊕X))(N:α→aC)(E:X→AE×aC)(ks:List NS)(hp:ND cs=true) 
    (h:abW C S n y cs st t.leaves ks k=K1 N E t.leaves):sX C.P y k cs st t.run N E:=by
  intro r hr
  obtain ⟨l,h1,h2,h3⟩:=nF t hr
  obtain ⟨s,hk⟩:=Sn h l h1
  simp only [Prod.mk.injEq] at hk
  obtain ⟨hn,he⟩:=hk
  intro hy ρ0 w0 h0 K hK ρ a w hA
  unfold UJ at he
  split at he
  case h_2=>cases he
  rename_i e' wB obs' p' hrun
  simp only [Option.some.injEq,Prod.mk.injEq] at he;obtain ⟨rfl,he2,rfl⟩:=he
  refine Xe (uF hC hS 12 n) cs hp hrun h3 hA.sr hA.pin fun ρ' a' w' P1=>?_
  have hA':=(hA.post P1).ns hy h0 hn
  rw [he2] at hA'
  exact hK _ _ _ _ _ (by rw [h2]) hA'
theorem sX.seq{P:Program}{y:YI}{k:Nat}{α β X:Type}{cs1 cs2:List Code}{st:aC}{m:Option (α⊕X)}{N1:α→aC}{E:X→AE×aC}{f:α→Option (β⊕X)}{N:β→aC}(hE:kE E) 
    (h:sX P y k cs1 st m N1 E) (hk:∀ a,sX P y k cs2 (N1 a) (f a) N E):sX P y k (cs1++cs2) st (aL m f) N E:=by
  intro r hr
  unfold aL at hr
  split at hr
  · cases hr
  · rename_i a
    refine sC.append (h _ rfl) (fun st' q=>?_) (fun e st' hne q=>?_)
    · simp only [ln,Prod.mk.injEq] at q
      obtain ⟨_,rfl⟩:=q
      exact hk a r hr
    · simp only [ln,Prod.mk.injEq] at q
      exact (hne q.1).elim
  · rename_i x
    simp only [Option.some.injEq] at hr;subst hr
    refine sC.append (h _ rfl) (fun st' q=>?_) (fun e st' hne q=>q)
    have:=hE x
    simp only [ln] at q
    rw [←q] at this;exact (this rfl).elim
theorem sX.cut{P:Program}{y:YI}{k:Nat}{α β X:Type}{cs:List Code}{st:aC}{m:Option (α⊕X)}{N1:α→aC}{E:X→AE×aC}{f:α→Option (β⊕X)}{N:β→aC}(n:Nat)(hE:kE E) 
    (h:sX P y k (cs.take n) st m N1 E) (hk:∀ a,sX P y k (cs.drop n) (N1 a) (f a) N E):sX P y k cs st (aL m f) N E:=by
  have:=sX.seq hE h hk
  rwa [List.take_append_drop] at this
theorem sX.loop{P:Program}{y:YI}{k:Nat}{σ ρ X:Type}{I:σ→aC}{J:ρ→aC}{E:X→AE×aC}{B:σ→Option (σ⊕(ρ⊕X))}{id:Nat}{b:Code}(hE:kE E)(hI:mu id E) 
    (hb:∀ s,sX P y k (dp b) (I s) (B s) I (du id J E)) (s:σ):sX P y k [.block id (.loop b)] (I s) (dJ B s) J E:=by
  intro z hz
  obtain ⟨n,hn⟩:=wO.1 hz
  intro hy ρ0 w0 h0 K hK ρ a w hA
  simp only [Ht]
  refine wp_block ?_
  refine wp_loop_rounds n ?_
  have key:∀ n s,rC B n s=some z→∀ ρ a w,AtY y k ρ0 w0 (I s) ρ a w→Code.rounds P b (Exit.inBlock id fun (e:Exit) a' w'=>match e with | .normal=>K .normal a' w' | e=>K e a' w') n a w:=by
    intro n
    induction n with
    | zero=>intro s h;cases h
    | succ n ih =>
      intro s hs ρ a w hA
      rw [rounds_succ]
      refine qX b ?_
      simp only [rC] at hs
      split at hs
      · cases hs
      · rename_i s' hB
        refine hb s _ hB hy ρ0 w0 h0 _ ?_ ρ a w hA
        intro e st' ρ' a' w' q hA'
        simp only [ln,Prod.mk.injEq] at q
        obtain ⟨rfl,rfl⟩:=q
        exact ih s' hs ρ' a' w' hA'
      · rename_i y' hB
        simp only [Option.some.injEq] at hs;subst hs
        refine hb s _ hB hy ρ0 w0 h0 _ ?_ ρ a w hA
        intro e st' ρ' a' w' q hA'
        cases y' with
        | inl r =>
          simp only [ln,du,Prod.mk.injEq] at q
          obtain ⟨rfl,rfl⟩:=q
          simp only [AE.real,Exit.then,Exit.inBlock,if_true]
          exact hK .normal _ ρ' a' w' rfl hA'
        | inr x =>
          simp only [ln,du] at q
          have h1:=hE x
          have h2:=hI x
          rw [←q] at h1 h2
          simp only at h1 h2
          cases e with
          | normal=>exact (h1 rfl).elim
          | ret=>exact hK .ret st' ρ' a' w' (by simpa [ln] using q) hA'
          | exit j =>
            have hj : ¬ j=id:=fun h=>h2 (by rw [h])
            simp only [AE.real,Exit.then,Exit.inBlock,hj,if_false]
            exact hK (.exit j) st' ρ' a' w' (by simpa [ln] using q) hA'
  exact key n s hn ρ a w hA
theorem sX.block{P:Program}{y:YI}{k:Nat}{κ X:Type}{N:κ→aC}{E:X→AE×aC}{m:Option (κ⊕(κ⊕X))}{id:Nat}{b:Code}{st:aC}(hE:kE E)(hI:mu id E) 
    (hb:sX P y k (dp b) st m N (du id N E)):sX P y k [.block id b] st (wQ m) N E:=by
  intro r hr
  unfold wQ at hr
  intro hy ρ0 w0 h0 K hK ρ a w hA
  simp only [Ht]
  refine wp_block (qX b ?_)
  split at hr
  · cases hr
  · simp only [Option.some.injEq] at hr;subst hr
    refine hb _ rfl hy ρ0 w0 h0 _ ?_ ρ a w hA
    intro e st' ρ' a' w' q hA'
    simp only [ln,Prod.mk.injEq] at q
    obtain ⟨rfl,rfl⟩:=q
    exact hK .normal _ ρ' a' w' rfl hA'
  · simp only [Option.some.injEq] at hr;subst hr
    refine hb _ rfl hy ρ0 w0 h0 _ ?_ ρ a w hA
    intro e st' ρ' a' w' q hA'
    simp only [ln,du,Prod.mk.injEq] at q
    obtain ⟨rfl,rfl⟩:=q
    simp only [AE.real,Exit.inBlock,if_true]
    exact hK .normal _ ρ' a' w' rfl hA'
  · rename_i x
    simp only [Option.some.injEq] at hr;subst hr
    refine hb _ rfl hy ρ0 w0 h0 _ ?_ ρ a w hA
    intro e st' ρ' a' w' q hA'
    simp only [ln,du] at q
    have h1:=hE x
    have h2:=hI x
    rw [←q] at h1 h2
    simp only at h1 h2
    cases e with
    | normal=>exact (h1 rfl).elim
    | ret=>exact hK .ret st' ρ' a' w' (by simpa [ln] using q) hA'
    | exit j =>
      have hj : ¬ j=id:=fun h=>h2 (by rw [h])
      simp only [AE.real,Exit.inBlock,hj,if_false]
      exact hK (.exit j) st' ρ' a' w' (by simpa [ln] using q) hA'
theorem sX.pre{P:Program}{y:YI}{k:Nat}{α X:Type}{N:α→aC}{E:X→AE×aC}{m:Option (α⊕X)}{cs:List Code}{st st1:aC}(s:NS)(hn:s.ok k=true)(h1:s.on st=st1)(h:sX P y k cs st1 m N E) :sX P y k cs st m N E :=
  fun r hr=>sC.ns s hn h1 (h r hr)
def GR(st:aC)(x:AE×aC) :Option (AE×aC) :=
  match x.1 with
  | .exit _=>none
  | _=>bif sd x.2.heap then (match nZ (jc (be x.2.heap st.next)) with
    | some e=>some (e,⟨st.tmps,tl x.2.heap st.next,x.2.next⟩)
    | none=>none) else none
theorem To{st:aC}{e1 e2:AE}{st1 wB:aC}(h:GR st (e1,st1)=some (e2,wB)) :(∀ id,e1 ≠ .exit id)∧sd st1.heap=true∧nZ (jc (be st1.heap st.next))=some e2∧wB=⟨st.tmps,tl st1.heap st.next,st1.next⟩:=by
  unfold GR at h
  have key:(∀ id,e1 ≠ .exit id)→(bif sd st1.heap then (match nZ (jc (be st1.heap st.next)) with
    | some e=>some (e,(⟨st.tmps,tl st1.heap st.next,st1.next⟩:aC))
    | none=>none) else none)=some (e2,wB)→(∀ id,e1 ≠ .exit id)∧sd st1.heap=true∧nZ (jc (be st1.heap st.next))=some e2∧wB=⟨st.tmps,tl st1.heap st.next,st1.next⟩:=by
    intro hn h
    cases hc:sd st1.heap with
    | false=>rw [hc] at h;cases h
    | true =>
      rw [hc] at h
      simp only [cond_true] at h
      split at h
      · rename_i q
        simp only [Option.some.injEq,Prod.mk.injEq] at h
        exact ⟨hn,rfl,by rw [q,h.1],h.2.symm⟩
      · cases h
  cases e1 with
  | normal=>exact key (fun id=>by simp) h
  | ret=>exact key (fun id=>by simp) h
  | exit id=>cases h
theorem aar{C:uv}(hC:C.Ok){lent:List aD}{β Y:Type}{g:Operand}{ps:Array Tmp}{assign body:Code}{cs:List Code}{st:aC}{gf:FuncId}{fn:Func}{c:Code}{first caps:List AV}{m:Option (β⊕Y)}{N':β→aC}{E':Y→AE×aC}{Q:AE→aC→Prop} 
    (hcs:cs=[.rangeFunc g ps assign body]) (hev:XN st.tmps g=.fn (.func gf) first caps) (hf:C.P.funcs[gf]? = some fn) (hc:fn.body=some c) (hn:fn.results.isEmpty=true) (hfix:PJ (st.next+1) st.tmps=true)
    (h:sX C.P ⟨st.next,st.tmps,ps,assign,body⟩ (st.next+1) (dp c) (LZ st fn first caps) m N' E') (r0:β⊕Y) (hr0:m=some r0) {e2:AE} {wB:aC} (he:GR st (ln N' E' r0)=some (e2,wB)) (s:NS) (hs:s.ok lent.length=true) (hQ:Q e2 (s.on wB)):iy C.P lent cs st Q:=by
  intro ρ0 w0 hN K hK a w hA
  subst hcs
  simp only [Ht]
  obtain ⟨ρ,E0,W0,S,hbk,hle⟩:=hA
  generalize hx:ln N' E' r0=x1 at he
  obtain ⟨e1,st1⟩:=x1
  obtain ⟨hne,hcl,hend',rfl⟩:=To he
  refine wpIn_wide.1 (Qk (nn:=1) hC hev hf hc hn hne hcl hend' (by rw [E0.pin];exact hN.pin) S (fun ρi wi ai Qi S0 P0 hk0 hQi=>?_) fun ρ' a' w' P1=>?_)
  · refine wpIn_wide.2 (qX c ?_)
    refine h r0 hr0 ⟨Nat.lt_succ_self _,hfix⟩ ρi wi hk0 _ ?_ ρi ai wi ⟨kI.refl _ _,iq.refl _ _,S0,fun b q=>.inl q,Nat.le_refl _,P0⟩
    intro e st' ρ' a' w' q hA'
    rw [hx] at q
    simp only [Prod.mk.injEq] at q
    obtain ⟨rfl,rfl⟩:=q
    exact hQi ρ' a' w' hA'.ext hA'.wle hA'.sr hA'.le hA'.back hA'.pin
  · have hA2:=Yt hs _ ρ0 w0 a' w' hN (At.post (st:=st) (a:=a) E0 W0 hbk hle P1.old)
    cases e2 with
    | normal=>exact hK .normal _ a' w' hQ hA2
    | ret=>exact hK .ret _ a' w' hQ hA2
    | exit id=>exact hK (.exit id) _ a' w' hQ hA2
end
end Go.Plb
namespace Go.Plb.Seat
noncomputable section
open Go Go.Plb
set_option linter.unusedVariables false
set_option maxRecDepth 100000
def rgG:List Code→Operand
  | .rangeFunc g _ _ _::_=>g
  | _=>.tmp 0
def rgP:List Code→Array Tmp
  | .rangeFunc _ p _ _::_=>p
  | _=>#[]
def rgA:List Code→Code
  | .rangeFunc _ _ a _::_=>a
  | _=>.skip
def rgB:List Code→Code
  | .rangeFunc _ _ _ b::_=>b
  | _=>.skip
def aic(cs:List Code)(st:aC) :YI:=⟨st.next,st.tmps,rgP cs,rgA cs,rgB cs⟩
def noX:Empty→AE×aC:=fun a=>a.elim
theorem jq:kE noX:=fun a=>a.elim
theorem H6(id:Nat) :mu id noX:=fun a=>a.elim
theorem CQ{S:wL}(hS:aH prog S){y:YI}{k:Nat}{α X:Type}{cs:List Code}{st:aC}{t:T (α⊕X)}(N:α→aC){E:X→AE×aC}(ks:List NS) 
    (h:abW C0 S 60 y cs st t.leaves ks k=K1 N E t.leaves:=by kernel_rfl) (hp:ND cs=true:=by kernel_rfl):sX prog y k cs st t.run N E:=sX.seg eB hS 60 cs st t N E ks hp h
theorem agf{y:YI}{k:Nat}{σ ρ X:Type}{cs:List Code}{st:aC}{E:X→AE×aC}{B:σ→Option (σ⊕(ρ⊕X))}{ent:σ}(s:NS)(I:σ→aC)(J:ρ→aC)(id:Nat)(hE:kE E)(hI:mu id E) 
    (hb:∀ a,sX prog y k (dp (fF (cs.headD .skip))) (I a) (B a) I (du id J E)) (hn:s.ok k=true:=by exact rfl) (h1:s.on st=I ent:=by kernel_rfl) (hcs:cs=[.block id (.loop (fF (cs.headD .skip)))]:=by kernel_rfl) :
    sX prog y k cs st (dJ B ent) J E:=sX.pre s hn h1 (by rw [hcs];exact sX.loop hE hI hb ent)
theorem aid{y:YI}{k:Nat}{κ X:Type}{cs:List Code}{st:aC}{E:X→AE×aC}{m:Option (κ⊕(κ⊕X))}(K:κ→aC)(id:Nat)(hE:kE E)(hI:mu id E) 
    (hb:sX prog y k (dp (inBlock (cs.headD .skip))) st m K (du id K E)) (hcs:cs=[.block id (inBlock (cs.headD .skip))]:=by kernel_rfl):sX prog y k cs st (wQ m) K E:=by rw [hcs];exact sX.block hE hI hb
def Xf(st:aC)(s:NS)(x:AE×aC) :Option (AE×aC) :=
  match GR st x with
  | some (e,st')=>some (e,s.on st')
  | none=>none
theorem sgr{lent:List aD}{α β X Y:Type}{cs:List Code}{st:aC}{m:Option (β⊕Y)}{E:X→AE×aC}(y:YI)(k:Nat)(gf:FuncId)(first caps:List AV)(N':β→aC)(E':Y→AE×aC)(N:α→aC)(s:β⊕Y→NS)(φ:β⊕Y→α⊕X) 
    (h:sX prog y k (dp (nD gf)) (LZ st (FN gf) first caps) m N' E') (hs:∀ r,(s r).ok lent.length=true) (hend:∀ r,Xf st (s r) (ln N' E' r)=some (ln N E (φ r)))
    (hcs:cs=[.rangeFunc (rgG cs) (rgP cs) (rgA cs) (rgB cs)]:=by kernel_rfl) (hy:y=⟨st.next,st.tmps,rgP cs,rgA cs,rgB cs⟩:=by kernel_rfl) (hk:k=st.next+1:=by kernel_rfl)
    (hev:XN st.tmps (rgG cs)=.fn (.func gf) first caps:=by kernel_rfl) (hf:prog.funcs[gf]? = some (FN gf):=by kernel_rfl) (hc:(FN gf).body=some (nD gf):=by kernel_rfl) (hn:(FN gf).results.isEmpty=true:=by kernel_rfl)
    (hfix:PJ (st.next+1) st.tmps=true:=by kernel_rfl):Sg prog lent cs st (m.map φ) N E:=by
  intro r hr
  obtain ⟨r0,hr0,rfl⟩:=Option.map_eq_some_iff.1 hr
  subst hk
  subst hy
  have hg:=hend r0
  unfold Xf at hg
  split at hg
  case h_2=>cases hg
  rename_i e st' hre
  simp only [Option.some.injEq] at hg
  exact aar eB hcs hev hf hc hn hfix h r0 hr0 hre (s r0) (hs r0) hg
end
end Go.Plb.Seat
namespace Go.Plb.Seat
open Go Go.Plb
set_option linter.unusedVariables false
set_option maxRecDepth 100000
noncomputable section
inductive dV where
  | r0 (b2:Bool)
def pd:dV→AE×aC
  | .r0 b2=>(.ret,⟨ah 16 [(2,.bool false b2)],[],0⟩)
theorem sq:kE pd:=by intro x;cases x<;>(intro h;cases h)
theorem Ko(id:Nat) :mu id pd:=by intro x;cases x<;>(intro h;cases h)
def tW:dV→ir
  | .r0 b2=>⟨.bool false b2,[]⟩
noncomputable def Kp:List Code:=dp (nD tE)
def Kq(v_0:Lv)(l_1:List Nat)(_:Unit) :aC:=⟨ah 16 [(5,.imm v_0 (.fl l_1) 1 1 0 (List.length l_1)),(6,.int .i64 (((List.length l_1):Nat):Int)),(7,.int .i64 (0:Int))],[],0⟩
def Kr:T ((Unit)⊕(dV)) :=
  .leaf (.inl ())
def np(v_0:Lv)(l_1:List Nat)(a1:Nat) :aC:=⟨ah 16 [(5,.imm v_0 (.fl l_1) 1 1 0 (List.length l_1)),(6,.int .i64 (((List.length l_1):Nat):Int)),(7,.int .i64 ((a1:Nat):Int))],[],0⟩
def zV(_:Unit) :aC:=⟨ah 16 [],[],0⟩
noncomputable def Ks:List Code:=dp (fF ((((Kp.drop 2).take 1)).headD .skip))
def ky(l_1:List Nat)(a1:Nat) :T ((Nat)⊕((Unit)⊕(dV))) :=
  .ask (decide (((a1:Nat):Int)<(((List.length l_1):Nat):Int)))
    (.need (fO ((a1:Nat):Int) (List.length l_1))<|.need (fD a1 (List.length l_1))<|.alt 0
      (.need (!isNaN (List.getD l_1 a1 0))<|.need (decide ((0:Int)≤(52:Int)))<|.ask (!((IntKind.i64.wrap (bE .and .u64 (Int.fdiv (((List.getD l_1 a1 0):Nat):Int) (2^(min (Int.toNat (52:Int)) (IntKind.u64.bits)))) (2047:Int))) != (2047:Int)))
        (.leaf (.inr (.inr (.r0 false))))
        (.need (cI .i64 (((a1+1):Nat):Int))<|.leaf (.inl (a1+1))))
      (.alt 1
        (.need (isNaN (List.getD l_1 a1 0))<|.leaf (.inr (.inr (.r0 false))))
        (.fail)))
    (.leaf (.inr (.inl ())))
noncomputable def mf(l_1:List Nat) :Nat→Option ((Nat)⊕((Unit)⊕(dV))):=fun a1 =>
  (ky l_1 a1).run
theorem H7(v_0:Lv)(l_1:List Nat)(a1:Nat) :Sg prog [] Ks (np v_0 l_1 a1) (mf l_1 a1) (np v_0 l_1) (du 0 zV pd):=by
  unfold mf;exact bZ K5 (np v_0 l_1) [⟨[],[],[2]⟩,⟨[],[],[5,6,7]⟩,⟨[],[],[2]⟩,⟨[],[],[]⟩]
def H8:T ((Empty)⊕(dV)) :=
  .leaf (.inr (.r0 true))
noncomputable def lI(l_1:List Nat) :Option dV:=mU (aL ((Kr).run) fun _ =>
  aL (dJ (mf l_1) 0) fun _ =>
  (H8).run)
theorem Kt(v_0:Lv)(l_1:List Nat){x:dV}(h:lI l_1=some x) :ag prog tE [] [.imm v_0 (.fl l_1) 1 1 0 (List.length l_1)] (tW x) :=
  ol false tW pd h (Sg.cut 2 sq (bZ K5 (Kq v_0 l_1) [⟨[],[],[5,6,7]⟩]) (fun _=>Sg.cut 1 sq (QA ⟨[],[],[5,6,7]⟩ (np v_0 l_1) (zV) 0 sq (Ko _) (fun a1=>H7 v_0 l_1 a1)) (fun _=>bZ K5 mF [⟨[],[],[2]⟩])))
    (fun x=>by cases x with | r0 b2=>exact mw [.bool false b2])
def nq:Option dV→Bool
  | some _=>true
  | none=>false
def pf:Option dV→Bool
  | some (.r0 x)=>x
  | _=>false
theorem Ku{x:Option dV}(h:nq x=true) :x=some (.r0 (pf x)):=by
  unfold nq at h
  split at h<;>first | rfl | (cases h;done) | (rename_i y;cases y;rfl)
noncomputable def BI:aA:=cO tE (.cons .fl .nil) fun t=>(fun q=>[⟨tW (.r0 (pf q)),[nq q]⟩]) (lI t.1.2)
theorem GS:aN prog BI:=bc fun t=>(aY (fun h=>Kt t.1.1 t.1.2 (Ku h)) bv)
noncomputable def BJ:List aA:=BI::aib
theorem gJ:aH prog (aG BJ):=au GS K5
inductive fZ where
  | r0 (a3:Nat)
def yX:fZ→AE×aC
  | .r0 a3=>(.ret,⟨ah 31 [(2,.int .i64 ((a3:Nat):Int))],[],0⟩)
theorem rI:kE yX:=by intro x;cases x<;>(intro h;cases h)
theorem Xg(id:Nat) :mu id yX:=by intro x;cases x<;>(intro h;cases h)
def EX:fZ→ir
  | .r0 a3=>⟨.int .i64 ((a3:Nat):Int),[]⟩
noncomputable def Xh:List Code:=dp (nD Ep)
def Xi(v_0:Lv)(s_1:List Nat)(_:Unit) :aC:=⟨ah 31 [(0,.imm v_0 (.fl s_1) 1 1 0 (List.length s_1)),(5,.imm v_0 (.fl s_1) 1 1 0 (List.length s_1)),(6,.int .i64 (((List.length s_1):Nat):Int)),(7,.int .i64 (0:Int))],[],0⟩
def Xj:T ((Unit)⊕(fZ)) :=
  .leaf (.inl ())
def vh(v_0:Lv)(s_1:List Nat)(a1:Nat) :aC:=⟨ah 31 [(0,.imm v_0 (.fl s_1) 1 1 0 (List.length s_1)),(5,.imm v_0 (.fl s_1) 1 1 0 (List.length s_1)),(6,.int .i64 (((List.length s_1):Nat):Int)),(7,.int .i64 ((a1:Nat):Int))],[],0⟩
def JT(v_0:Lv)(s_1:List Nat)(_:Unit) :aC:=⟨ah 31 [(0,.imm v_0 (.fl s_1) 1 1 0 (List.length s_1))],[],0⟩
noncomputable def Tp:List Code:=dp (fF ((((Xh.drop 2).take 1)).headD .skip))
def Xk(v_0:Lv)(s_1:List Nat)(a1:Nat)(_:Unit) :aC:=⟨ah 31 [(0,.imm v_0 (.fl s_1) 1 1 0 (List.length s_1)),(5,.imm v_0 (.fl s_1) 1 1 0 (List.length s_1)),(6,.int .i64 (((List.length s_1):Nat):Int)),(7,.int .i64 ((a1:Nat):Int))],[],0⟩
def sY(s_1:List Nat)(a1:Nat) :T ((Unit)⊕((Unit)⊕(fZ))) :=
  .ask (decide (((a1:Nat):Int)<(((List.length s_1):Nat):Int)))
    (.need (fO ((a1:Nat):Int) (List.length s_1))<|.need (fD a1 (List.length s_1))<|.ask (flt (List.getD s_1 a1 0) 0)
      (.leaf (.inr (.inr (.r0 2))))
      (.ask (decide (((a1:Nat):Int)>(0:Int)))
        (.need (cI .i64 (((a1:Nat):Int)-(1:Int)))<|.need (fO (((a1:Nat):Int)-(1:Int)) (List.length s_1))<|.need (fD (Int.toNat (((a1:Nat):Int)-(1:Int))) (List.length s_1))<|.ask (fgt (List.getD s_1 a1 0) (List.getD s_1 (Int.toNat (((a1:Nat):Int)-(1:Int))) 0))
          (.leaf (.inr (.inr (.r0 2))))
          (.leaf (.inl ())))
        (.leaf (.inl ()))))
    (.leaf (.inr (.inl ())))
def Tq(a1:Nat) :T ((Nat)⊕((Unit)⊕(fZ))) :=
  .need (cI .i64 (((a1+1):Nat):Int))<|.leaf (.inl (a1+1))
noncomputable def pg(s_1:List Nat) :Nat→Option ((Nat)⊕((Unit)⊕(fZ))):=fun a1 =>
  aL ((sY s_1 a1).run) fun _ =>
  (Tq a1).run
theorem Tr(v_0:Lv)(s_1:List Nat)(a1:Nat) :Sg prog [] Tp (vh v_0 s_1 a1) (pg s_1 a1) (vh v_0 s_1) (du 0 (JT v_0 s_1) yX):=by
  unfold pg;exact Sg.cut 3 (bi rI) (bZ gJ (Xk v_0 s_1 a1) [⟨[],[],[2]⟩,⟨[],[],[2]⟩,⟨[],[],[0,5,6,7]⟩,⟨[],[],[0,5,6,7]⟩,⟨[],[],[0]⟩]) (fun _=>bZ gJ (vh v_0 s_1) [⟨[],[],[0,5,6,7]⟩])
def Xl(b2:Bool) :aC:=⟨ah 31 [(30,.bool false b2)],[],0⟩
def yY(s_1:List Nat) :T ((Bool)⊕(fZ)) :=
  .need (bm 0 (List.length s_1) s_1)<|.need (nq (lI (ab 0 (List.length s_1) s_1)))<|.leaf (.inl (!(pf (lI (ab 0 (List.length s_1) s_1)))))
def Ts(b2:Bool) :T ((Empty)⊕(fZ)) :=
  .ask b2
    (.leaf (.inr (.r0 10)))
    (.leaf (.inr (.r0 0)))
noncomputable def nL(s_1:List Nat) :Option fZ:=mU (aL ((Xj).run) fun _ =>
  aL (dJ (pg s_1) 0) fun _ =>
  aL ((yY s_1).run) fun b2 =>
  (Ts b2).run)
theorem Xm(v_0:Lv)(s_1:List Nat){x:fZ}(h:nL s_1=some x) :ag prog Ep [] [.imm v_0 (.fl s_1) 1 1 0 (List.length s_1)] (EX x) :=
  ol false EX yX h (Sg.cut 2 rI (bZ gJ (Xi v_0 s_1) [⟨[],[],[0,5,6,7]⟩]) (fun _=>Sg.cut 1 rI (QA ⟨[],[],[0,5,6,7]⟩ (vh v_0 s_1) (JT v_0 s_1) 0 rI (Xg _) (fun a1=>Tr v_0 s_1 a1)) (fun _=>Sg.cut 1 rI (bZ gJ Xl [⟨[],[],[30]⟩]) (fun b2=>bZ gJ mF [⟨[],[],[2]⟩,⟨[],[],[2]⟩]))))
    (fun x=>by cases x with | r0 a3=>exact mw [.int .i64 ((a3:Nat):Int)])
def rJ:Option fZ→Bool
  | some _=>true
  | none=>false
def ri:Option fZ→Nat
  | some (.r0 x)=>x
  | _=>0
theorem Xn{x:Option fZ}(h:rJ x=true) :x=some (.r0 (ri x)):=by
  unfold rJ at h
  split at h<;>first | rfl | (cases h;done) | (rename_i y;cases y;rfl)
noncomputable def NE:aA:=cO Ep (.cons .fl .nil) fun t=>(fun q=>[⟨EX (.r0 (ri q)),[rJ q]⟩]) (nL t.1.2)
theorem PK:aN prog NE:=bc fun t=>(aY (fun h=>Xm t.1.1 t.1.2 (Xn h)) bv)
noncomputable def NF:List aA:=NE::BJ
theorem ww:aH prog (aG NF):=au PK gJ
inductive jL where
  | r0 (b2:Bool)
def NG:jL→AE×aC
  | .r0 b2=>(.ret,⟨ah 9 [(2,.bool false b2)],[],0⟩)
theorem Xo:kE NG:=by intro x;cases x<;>(intro h;cases h)
def EY:jL→ir
  | .r0 b2=>⟨.bool false b2,[]⟩
def Xp(b1:Bool) :aC:=⟨ah 9 [(2,.bool false b1)],[],0⟩
def Xq(t_0:Nat) :T ((Bool)⊕(jL)) :=
  .ask (fgt t_0 0)
    (.leaf (.inl (flt t_0 4607182418800017408)))
    (.leaf (.inl false))
def Xr(b1:Bool) :T ((Empty)⊕(jL)) :=
  .leaf (.inr (.r0 b1))
noncomputable def tX(t_0:Nat) :Option jL:=mU (aL ((Xq t_0).run) fun b1 =>
  (Xr b1).run)
theorem Xs(t_0:Nat){x:jL}(h:tX t_0=some x) :ag prog Me [] [.flt false t_0] (EY x) :=
  ol false EY NG h (Sg.cut 2 Xo (bZ ww Xp [⟨[],[],[2]⟩,⟨[],[],[2]⟩]) (fun b1=>bZ ww mF [⟨[],[],[2]⟩]))
    (fun x=>by cases x with | r0 b2=>exact mw [.bool false b2])
def vi:Option jL→Bool
  | some _=>true
  | none=>false
def wx:Option jL→Bool
  | some (.r0 x)=>x
  | _=>false
theorem Xt{x:Option jL}(h:vi x=true) :x=some (.r0 (wx x)):=by
  unfold vi at h
  split at h<;>first | rfl | (cases h;done) | (rename_i y;cases y;rfl)
noncomputable def NH:aA:=cO Me (.cons (.flt false) .nil) fun t=>(fun q=>[⟨EY (.r0 (wx q)),[vi q]⟩]) (tX t.1)
theorem PL:aN prog NH:=bc fun t=>(aY (fun h=>Xs t.1 (Xt h)) bv)
noncomputable def NI:List aA:=NH::NF
theorem rj:aH prog (aG NI):=au PL ww
inductive dZ where
  | r0 (b7:Bool)
def zW:dZ→AE×aC
  | .r0 b7=>(.ret,⟨ah 25 [(4,.bool false b7)],[],0⟩)
theorem wX:kE zW:=by intro x;cases x<;>(intro h;cases h)
def su:dZ→ir
  | .r0 b7=>⟨.bool false b7,[]⟩
def H9(v_4:Lv)(b_5:Bool)(v_6:Lv)(l_7:List Int)(i_8:Int) :Bool×(List Int)×Nat×Nat×Int→aC:=fun (b1,l2,a3,a4,i5)=>⟨ah 25 [(2,.iptr v_4 (.vs [.bool false b_5,.imm v_6 (.ns .u64 l_7) 1 1 0 (List.length l_7),.int .i64 i_8]) 1 0 0),(5,.ptr 0 1 0 0)],[(0,.vs [.bool false b1,.imm .free (.ns .u64 l2) 1 1 a3 a4,.int .i64 i5])],1⟩
def wY(i_0:Int)(l_3:List Nat) :T ((Bool×(List Int)×Nat×Nat×Int)⊕(dZ)) :=
  .need (fO i_0 (List.length l_3))<|.need (fD (Int.toNat i_0) (List.length l_3))<|.need (qs (dC (List.getD l_3 (Int.toNat i_0) 0)))<|.leaf (.inl ((oW (dC (List.getD l_3 (Int.toNat i_0) 0))),(oX (dC (List.getD l_3 (Int.toNat i_0) 0))),(oY (dC (List.getD l_3 (Int.toNat i_0) 0))),(oZ (dC (List.getD l_3 (Int.toNat i_0) 0))),(pa (dC (List.getD l_3 (Int.toNat i_0) 0)))))
def Ia(c6:Int) :aC:=⟨ah 25 [(7,.int .i64 c6)],[],0⟩
def qt(b_5:Bool)(l_7:List Int)(i_8:Int)(b1:Bool)(l2:List Int)(a3:Nat)(a4:Nat)(i5:Int) :T ((Int)⊕(dZ)) :=
  .need (bm a3 a4 l2)<|.need (bm 0 (List.length l_7) l_7)<|.need (vf (tV b1 (ab a3 a4 l2) i5 b_5 (ab 0 (List.length l_7) l_7) i_8))<|.leaf (.inl (wq (tV b1 (ab a3 a4 l2) i5 b_5 (ab 0 (List.length l_7) l_7) i_8)))
def wZ(c6:Int) :T ((Empty)⊕(dZ)) :=
  .leaf (.inr (.r0 (decide (c6≤(0:Int)))))
noncomputable def kz(i_0:Int)(l_3:List Nat)(b_5:Bool)(l_7:List Int)(i_8:Int) :Option dZ:=mU (aL ((wY i_0 l_3).run) fun (b1,l2,a3,a4,i5) =>
  aL ((qt b_5 l_7 i_8 b1 l2 a3 a4 i5).run) fun c6 =>
  (wZ c6).run)
theorem Ib(i_0:Int)(v_1:Lv)(v_2:Lv)(l_3:List Nat)(v_4:Lv)(b_5:Bool)(v_6:Lv)(l_7:List Int)(i_8:Int){x:dZ}(h:kz i_0 l_3 b_5 l_7 i_8=some x) :ag prog iJ [] [.int .i64 i_0,.iptr v_1 (.vs [.imm v_2 (.fl l_3) 1 1 0 (List.length l_3)]) 1 0 0,.iptr v_4 (.vs [.bool false b_5,.imm v_6 (.ns .u64 l_7) 1 1 0 (List.length l_7),.int .i64 i_8]) 1 0 0] (su x) :=
  ol false su zW h (Sg.cut 2 wX (bZ rj (H9 v_4 b_5 v_6 l_7 i_8) [⟨[],[144],[2,5]⟩]) (fun ⟨b1,l2,a3,a4,i5⟩=>Sg.cut 1 wX (bZ rj Ia [⟨[],[],[7]⟩]) (fun c6=>bZ rj mF [⟨[],[],[4]⟩])))
    (fun x=>by cases x with | r0 b7=>exact mw [.bool false b7])
def mg:Option dZ→Bool
  | some _=>true
  | none=>false
def nN:Option dZ→Bool
  | some (.r0 x)=>x
  | _=>false
theorem Ic{x:Option dZ}(h:mg x=true) :x=some (.r0 (nN x)):=by
  unfold mg at h
  split at h<;>first | rfl | (cases h;done) | (rename_i y;cases y;rfl)
noncomputable def zX:aA:=cO iJ (.cons (.int .i64) (.cons (.ivs (.cons .fl .nil) 1 0 0) (.cons (.ivs (.cons .bool (.cons (.ns .u64) (.cons (.int .i64) .nil))) 1 0 0) .nil))) fun t=>(fun q=>[⟨su (.r0 (nN q)),[mg q]⟩]) (kz t.1 t.2.1.2.1.2 t.2.2.1.2.1 t.2.2.1.2.2.1.2 t.2.2.1.2.2.2.1)
theorem EZ:aN prog zX:=bc fun t=>(aY (fun h=>Ib t.1 t.2.1.1 t.2.1.2.1.1 t.2.1.2.1.2 t.2.2.1.1 t.2.2.1.2.1 t.2.2.1.2.2.1.1 t.2.2.1.2.2.1.2 t.2.2.1.2.2.2.1 (Ic h)) bv)
noncomputable def zY:List aA:=zX::NI
theorem jM:aH prog (aG zY):=au EZ rj
inductive aV where
  | r0 (i6:Int)
def eu:aV→AE×aC
  | .r0 i6=>(.ret,⟨ah 26 [(4,.int .i64 i6)],[],0⟩)
theorem fG:kE eu:=by intro x;cases x<;>(intro h;cases h)
theorem pH(id:Nat) :mu id eu:=by intro x;cases x<;>(intro h;cases h)
def gd:aV→ir
  | .r0 i6=>⟨.int .i64 i6,[]⟩
noncomputable def pI:List Code:=dp (nD vO)
def pJ(n_0:Int)(v_1:Lv)(v_2:Lv)(f_3:List Nat)(v_4:Lv)(f_5:Bool)(v_6:Lv)(f_7:List Int)(f_8:Int)(_:Unit) :aC:=⟨ah 26 [(1,.fn (.func iJ) [] [.iptr v_1 (.vs [.imm v_2 (.fl f_3) 1 1 0 (List.length f_3)]) 1 0 0,.iptr v_4 (.vs [.bool false f_5,.imm v_6 (.ns .u64 f_7) 1 1 0 (List.length f_7),.int .i64 f_8]) 1 0 0]),(5,.int .i64 (0:Int)),(6,.int .i64 n_0)],[],0⟩
def pK:T ((Unit)⊕(aV)) :=
  .leaf (.inl ())
def dN(v_1:Lv)(v_2:Lv)(f_3:List Nat)(v_4:Lv)(f_5:Bool)(v_6:Lv)(f_7:List Int)(f_8:Int) :Int×Int→aC:=fun (i3,j4)=>⟨ah 26 [(1,.fn (.func iJ) [] [.iptr v_1 (.vs [.imm v_2 (.fl f_3) 1 1 0 (List.length f_3)]) 1 0 0,.iptr v_4 (.vs [.bool false f_5,.imm v_6 (.ns .u64 f_7) 1 1 0 (List.length f_7),.int .i64 f_8]) 1 0 0]),(5,.int .i64 i3),(6,.int .i64 j4)],[],0⟩
def jb(i5:Int) :aC:=⟨ah 26 [(5,.int .i64 i5)],[],0⟩
noncomputable def pL:List Code:=dp (fF ((((pI.drop 2).take 1)).headD .skip))
def bP(f_3:List Nat)(f_5:Bool)(f_7:List Int)(f_8:Int)(i3:Int)(j4:Int) :T ((Int×Int)⊕((Int)⊕(aV))) :=
  .ask (decide (i3<j4))
    (.need (cI .i64 (i3+j4))<|.need (decide ((0:Int)≤(1:Int)))<|.need (bm 0 (List.length f_3) f_3)<|.need (bm 0 (List.length f_7) f_7)<|.need (mg (kz (IntKind.i64.wrap (Int.fdiv (IntKind.u64.wrap (i3+j4)) (2^(min (Int.toNat (1:Int)) (IntKind.u64.bits))))) (ab 0 (List.length f_3) f_3) f_5 (ab 0 (List.length f_7) f_7) f_8))<|.ask (!(nN (kz (IntKind.i64.wrap (Int.fdiv (IntKind.u64.wrap (i3+j4)) (2^(min (Int.toNat (1:Int)) (IntKind.u64.bits))))) (ab 0 (List.length f_3) f_3) f_5 (ab 0 (List.length f_7) f_7) f_8)))
      (.need (cI .i64 ((IntKind.i64.wrap (Int.fdiv (IntKind.u64.wrap (i3+j4)) (2^(min (Int.toNat (1:Int)) (IntKind.u64.bits)))))+(1:Int)))<|.leaf (.inl (((IntKind.i64.wrap (Int.fdiv (IntKind.u64.wrap (i3+j4)) (2^(min (Int.toNat (1:Int)) (IntKind.u64.bits)))))+(1:Int)),j4)))
      (.leaf (.inl (i3,(IntKind.i64.wrap (Int.fdiv (IntKind.u64.wrap (i3+j4)) (2^(min (Int.toNat (1:Int)) (IntKind.u64.bits)))))))))
    (.leaf (.inr (.inl i3)))
noncomputable def dH(f_3:List Nat)(f_5:Bool)(f_7:List Int)(f_8:Int) :Int×Int→Option ((Int×Int)⊕((Int)⊕(aV))):=fun (i3,j4) =>
  (bP f_3 f_5 f_7 f_8 i3 j4).run
theorem ph(v_1:Lv)(v_2:Lv)(f_3:List Nat)(v_4:Lv)(f_5:Bool)(v_6:Lv)(f_7:List Int)(f_8:Int)(i3:Int)(j4:Int) :Sg prog [] pL (dN v_1 v_2 f_3 v_4 f_5 v_6 f_7 f_8 (i3,j4)) (dH f_3 f_5 f_7 f_8 (i3,j4)) (dN v_1 v_2 f_3 v_4 f_5 v_6 f_7 f_8) (du 0 jb eu):=by
  unfold dH;exact bZ jM (dN v_1 v_2 f_3 v_4 f_5 v_6 f_7 f_8) [⟨[],[],[1,5,6]⟩,⟨[],[],[1,5,6]⟩,⟨[],[],[5]⟩]
def pj(i5:Int) :T ((Empty)⊕(aV)) :=
  .leaf (.inr (.r0 i5))
noncomputable def dc(n_0:Int)(f_3:List Nat)(f_5:Bool)(f_7:List Int)(f_8:Int) :Option aV:=mU (aL ((pK).run) fun _ =>
  aL (dJ (dH f_3 f_5 f_7 f_8) ((0:Int),n_0)) fun i5 =>
  (pj i5).run)
theorem pM(n_0:Int)(v_1:Lv)(v_2:Lv)(f_3:List Nat)(v_4:Lv)(f_5:Bool)(v_6:Lv)(f_7:List Int)(f_8:Int){x:aV}(h:dc n_0 f_3 f_5 f_7 f_8=some x) :ag prog vO [] [.int .i64 n_0,.fn (.func iJ) [] [.iptr v_1 (.vs [.imm v_2 (.fl f_3) 1 1 0 (List.length f_3)]) 1 0 0,.iptr v_4 (.vs [.bool false f_5,.imm v_6 (.ns .u64 f_7) 1 1 0 (List.length f_7),.int .i64 f_8]) 1 0 0]] (gd x) :=
  ol false gd eu h (Sg.cut 2 fG (bZ jM (pJ n_0 v_1 v_2 f_3 v_4 f_5 v_6 f_7 f_8) [⟨[],[],[1,5,6]⟩]) (fun _=>Sg.cut 1 fG (QA ⟨[],[],[1,5,6]⟩ (dN v_1 v_2 f_3 v_4 f_5 v_6 f_7 f_8) (jb) 0 fG (pH _) (fun ⟨i3,j4⟩=>ph v_1 v_2 f_3 v_4 f_5 v_6 f_7 f_8 i3 j4)) (fun i5=>bZ jM mF [⟨[],[],[4]⟩])))
    (fun x=>by cases x with | r0 i6=>exact mw [.int .i64 i6])
def dO:Option aV→Bool
  | some _=>true
  | none=>false
def eZ:Option aV→Int
  | some (.r0 x)=>x
  | _=>0
theorem pN{x:Option aV}(h:dO x=true) :x=some (.r0 (eZ x)):=by
  unfold dO at h
  split at h<;>first | rfl | (cases h;done) | (rename_i y;cases y;rfl)
noncomputable def jr:aA:=cO vO (.cons (.int .i64) (.cons (.fn iJ .nil (.cons (.ivs (.cons .fl .nil) 1 0 0) (.cons (.ivs (.cons .bool (.cons (.ns .u64) (.cons (.int .i64) .nil))) 1 0 0) .nil))) .nil)) fun t=>(fun q=>[⟨gd (.r0 (eZ q)),[dO q]⟩]) (dc t.1 t.2.1.2.1.2.1.2 t.2.1.2.2.1.2.1 t.2.1.2.2.1.2.2.1.2 t.2.1.2.2.1.2.2.2.1)
theorem oj:aN prog jr:=bc fun t=>(aY (fun h=>pM t.1 t.2.1.2.1.1 t.2.1.2.1.2.1.1 t.2.1.2.1.2.1.2 t.2.1.2.2.1.1 t.2.1.2.2.1.2.1 t.2.1.2.2.1.2.2.1.1 t.2.1.2.2.1.2.2.1.2 t.2.1.2.2.1.2.2.2.1 (pN h)) bv)
noncomputable def js:List aA:=jr::zY
theorem bA:aH prog (aG js):=au oj jM
inductive cQ where
  | r0 (i19:Int) (a20:Nat)
def DS:cQ→AE×aC
  | .r0 i19 a20=>(.ret,⟨ah 53 [(4,.int .i64 i19),(5,.int .i64 ((a20:Nat):Int))],[],0⟩)
theorem jt:kE DS:=by intro x;cases x<;>(intro h;cases h)
def wy:cQ→ir
  | .r0 i19 a20=>⟨.tup [.int .i64 i19,.int .i64 ((a20:Nat):Int)],[]⟩
def NJ(v_0:Lv)(s_1:List Nat)(t_2:Nat)(e1:Nat) :aC:=⟨ah 53 [(1,.flt false t_2),(2,.ptr 0 1 0 0),(6,.int .i64 ((e1:Nat):Int))],[(0,.vs [.imm v_0 (.fl s_1) 1 1 0 (List.length s_1)])],1⟩
def lJ(s_1:List Nat) :T ((Nat)⊕(cQ)) :=
  .need (bm 0 (List.length s_1) s_1)<|.need (rJ (nL (ab 0 (List.length s_1) s_1)))<|.leaf (.inl (ri (nL (ab 0 (List.length s_1) s_1))))
def NK(v_0:Lv)(s_1:List Nat)(t_2:Nat)(_:Unit) :aC:=⟨ah 53 [(1,.flt false t_2),(2,.ptr 0 1 0 0)],[(0,.vs [.imm v_0 (.fl s_1) 1 1 0 (List.length s_1)])],1⟩
def ju(s_1:List Nat)(t_2:Nat)(e1:Nat) :T ((Unit)⊕(cQ)) :=
  .ask (((e1:Nat):Int)==(2:Int))
    (.leaf (.inr (.r0 (0:Int) 2)))
    (.need (vi (tX t_2))<|.ask (!(wx (tX t_2)))
      (.leaf (.inr (.r0 (0:Int) 2)))
      (.ask (((e1:Nat):Int) != (0:Int))
        (.leaf (.inr (.r0 (0:Int) e1)))
        (.ask ((((List.length s_1):Nat):Int)==(0:Int))
          (.leaf (.inr (.r0 (0:Int) 0)))
          (.leaf (.inl ())))))
def NL(v_0:Lv)(s_1:List Nat) :Bool×(List Int)×Nat×Nat×Int→aC:=fun (b2,l3,a4,a5,i6)=>⟨ah 53 [(2,.ptr 0 1 0 0),(7,.ptr 1 1 0 0)],[(0,.vs [.imm v_0 (.fl s_1) 1 1 0 (List.length s_1)]),(1,.vs [.bool false b2,.imm .free (.ns .u64 l3) 1 1 a4 a5,.int .i64 i6])],2⟩
def zZ(t_2:Nat) :T ((Bool×(List Int)×Nat×Nat×Int)⊕(cQ)) :=
  .need (qs (dC t_2))<|.leaf (.inl ((oW (dC t_2)),(oX (dC t_2)),(oY (dC t_2)),(oZ (dC t_2)),(pa (dC t_2))))
def NM(v_0:Lv)(s_1:List Nat)(b2:Bool)(l3:List Int)(a4:Nat)(a5:Nat)(i6:Int) :Bool×(List Int)×Nat×Nat×Int→aC:=fun (b7,l8,a9,a10,i11)=>⟨ah 53 [(2,.ptr 0 1 0 0),(7,.ptr 1 1 0 0),(9,.ptr 2 1 0 0)],[(0,.vs [.imm v_0 (.fl s_1) 1 1 0 (List.length s_1)]),(1,.vs [.bool false b2,.imm .free (.ns .u64 l3) 1 1 a4 a5,.int .i64 i6]),(2,.vs [.bool false b7,.imm .free (.ns .u64 l8) 1 1 a9 a10,.int .i64 i11])],3⟩
def Aa(s_1:List Nat) :T ((Bool×(List Int)×Nat×Nat×Int)⊕(cQ)) :=
  .need (fO (0:Int) (List.length s_1))<|.need (fD 0 (List.length s_1))<|.need (qs (dC (List.getD s_1 0 0)))<|.leaf (.inl ((oW (dC (List.getD s_1 0 0))),(oX (dC (List.getD s_1 0 0))),(oY (dC (List.getD s_1 0 0))),(oZ (dC (List.getD s_1 0 0))),(pa (dC (List.getD s_1 0 0)))))
def NN(v_0:Lv)(s_1:List Nat) :Bool×(List Int)×Nat×Nat×Int→aC:=fun (b12,l13,a14,a15,i17)=>⟨ah 53 [(2,.ptr 0 1 0 0),(11,.ptr 1 1 0 0)],[(0,.vs [.imm v_0 (.fl s_1) 1 1 0 (List.length s_1)]),(1,.vs [.bool false b12,.imm .free (.ns .u64 l13) 1 1 a14 a15,.int .i64 i17])],2⟩
def sv(b2:Bool)(l3:List Int)(a4:Nat)(a5:Nat)(i6:Int)(b7:Bool)(l8:List Int)(a9:Nat)(a10:Nat)(i11:Int) :T ((Bool×(List Int)×Nat×Nat×Int)⊕(cQ)) :=
  .need (bm a4 a5 l3)<|.need (bm a9 a10 l8)<|.need (vb (jK b2 (ab a4 a5 l3) i6 b7 (ab a9 a10 l8) i11))<|.leaf (.inl ((wj (jK b2 (ab a4 a5 l3) i6 b7 (ab a9 a10 l8) i11)),(wk (jK b2 (ab a4 a5 l3) i6 b7 (ab a9 a10 l8) i11)),(wl (jK b2 (ab a4 a5 l3) i6 b7 (ab a9 a10 l8) i11)),(wn (jK b2 (ab a4 a5 l3) i6 b7 (ab a9 a10 l8) i11)),(wo (jK b2 (ab a4 a5 l3) i6 b7 (ab a9 a10 l8) i11))))
def NO(i18:Int) :aC:=⟨ah 53 [(4,.int .i64 i18),(5,.int .i64 (0:Int))],[],0⟩
def sw(s_1:List Nat)(b12:Bool)(l13:List Int)(a14:Nat)(a15:Nat)(i17:Int) :T ((Int)⊕(cQ)) :=
  .need (bm 0 (List.length s_1) s_1)<|.need (bm a14 a15 l13)<|.need (dO (dc (((List.length s_1):Nat):Int) (ab 0 (List.length s_1) s_1) b12 (ab a14 a15 l13) i17))<|.leaf (.inl (eZ (dc (((List.length s_1):Nat):Int) (ab 0 (List.length s_1) s_1) b12 (ab a14 a15 l13) i17)))
def Kv(i18:Int) :T ((Empty)⊕(cQ)) :=
  .leaf (.inr (.r0 i18 0))
noncomputable def ed(s_1:List Nat)(t_2:Nat) :Option cQ:=mU (aL ((lJ s_1).run) fun e1 =>
  aL ((ju s_1 t_2 e1).run) fun _ =>
  aL ((zZ t_2).run) fun (b2,l3,a4,a5,i6) =>
  aL ((Aa s_1).run) fun (b7,l8,a9,a10,i11) =>
  aL ((sv b2 l3 a4 a5 i6 b7 l8 a9 a10 i11).run) fun (b12,l13,a14,a15,i17) =>
  aL ((sw s_1 b12 l13 a14 a15 i17).run) fun i18 =>
  (Kv i18).run)
theorem NP(v_0:Lv)(s_1:List Nat)(t_2:Nat){x:cQ}(h:ed s_1 t_2=some x) :ag prog Dv [] [.imm v_0 (.fl s_1) 1 1 0 (List.length s_1),.flt false t_2] (wy x) :=
  ol false wy DS h (Sg.cut 2 jt (bZ bA (NJ v_0 s_1 t_2) [⟨[],[0],[1,2,6]⟩]) (fun e1=>Sg.cut 1 jt (bZ bA (NK v_0 s_1 t_2) [⟨[],[],[4,5]⟩,⟨[],[],[4,5]⟩,⟨[],[],[4,5]⟩,⟨[],[],[4,5]⟩,⟨[],[0],[1,2]⟩]) (fun _=>Sg.cut 1 jt (bZ bA (NL v_0 s_1) [⟨[],[0,81],[2,7]⟩]) (fun ⟨b2,l3,a4,a5,i6⟩=>Sg.cut 1 jt (bZ bA (NM v_0 s_1 b2 l3 a4 a5 i6) [⟨[],[0,1,114],[2,7,9]⟩]) (fun ⟨b7,l8,a9,a10,i11⟩=>Sg.cut 1 jt (bZ bA (NN v_0 s_1) [⟨[],[0,99],[2,11]⟩]) (fun ⟨b12,l13,a14,a15,i17⟩=>Sg.cut 1 jt (bZ bA NO [⟨[],[],[4,5]⟩]) (fun i18=>bZ bA mF [⟨[],[],[4,5]⟩])))))))
    (fun x=>by cases x with | r0 i19 a20=>exact mw [.int .i64 i19,.int .i64 ((a20:Nat):Int)])
def lK:Option cQ→Bool
  | some _=>true
  | none=>false
def jv:Option cQ→Int
  | some (.r0 x _)=>x
  | _=>0
def jw:Option cQ→Nat
  | some (.r0 _ x)=>x
  | _=>0
theorem NQ{x:Option cQ}(h:lK x=true) :x=some (.r0 (jv x) (jw x)):=by
  unfold lK at h
  split at h<;>first | rfl | (cases h;done) | (rename_i y;cases y;rfl)
noncomputable def DT:aA:=cO Dv (.cons .fl (.cons (.flt false) .nil)) fun t=>(fun q=>[⟨wy (.r0 (jv q) (jw q)),[lK q]⟩]) (ed t.1.2 t.2.1)
theorem Ie:aN prog DT:=bc fun t=>(aY (fun h=>NP t.1.1 t.1.2 t.2.1 (NQ h)) bv)
noncomputable def DU:List aA:=DT::js
theorem mh:aH prog (aG DU):=au Ie bA
inductive gr where
  | r0 (a5:Nat)
def GT:gr→AE×aC
  | .r0 a5=>(.ret,⟨ah 63 [(4,.flt false a5)],[],0⟩)
theorem DV:kE GT:=by intro x;cases x<;>(intro h;cases h)
def yZ:gr→ir
  | .r0 a5=>⟨.flt false a5,[]⟩
def PM(exp_1:Int) :Nat×Int→aC:=fun (frac1,e2)=>⟨ah 63 [(0,.flt false frac1),(1,.int .i64 exp_1),(5,.int .i64 e2)],[],0⟩
def PN(frac_0:Nat) :T ((Nat×Int)⊕(gr)) :=
  .ask (feq frac_0 0)
    (.leaf (.inr (.r0 frac_0)))
    (.ask ((0:Int)==(0:Int))
      (.ask (fgt (ux frac_0) 9218868437227405311)
        (.leaf (.inr (.r0 frac_0)))
        (.ask (fne frac_0 frac_0)
          (.leaf (.inr (.r0 frac_0)))
          (.ask (flt (ux frac_0) 4503599627370496)
            (.leaf (.inl ((lT frac_0 4841369599423283200),(-52:Int))))
            (.leaf (.inl (frac_0,(0:Int)))))))
      (.fail))
def PO(frac1:Nat) :Int×Nat→aC:=fun (exp3,m4)=>⟨ah 63 [(1,.int .i64 exp3),(6,.int .u64 ((frac1:Nat):Int)),(7,.flt false m4)],[],0⟩
def PP(exp_1:Int)(frac1:Nat)(e2:Int) :T ((Int×Nat)⊕(gr)) :=
  .need (cI .i64 (exp_1+e2))<|.alt 0
    (.need (!isNaN frac1)<|.need (decide ((0:Int)≤(52:Int)))<|.need (cI .i64 ((bE .and .i64 (IntKind.i64.wrap (Int.fdiv ((frac1:Nat):Int) (2^(min (Int.toNat (52:Int)) (IntKind.u64.bits))))) (2047:Int))-(1023:Int)))<|.need (cI .i64 ((exp_1+e2)+((bE .and .i64 (IntKind.i64.wrap (Int.fdiv ((frac1:Nat):Int) (2^(min (Int.toNat (52:Int)) (IntKind.u64.bits))))) (2047:Int))-(1023:Int))))<|.ask (decide (((exp_1+e2)+((bE .and .i64 (IntKind.i64.wrap (Int.fdiv ((frac1:Nat):Int) (2^(min (Int.toNat (52:Int)) (IntKind.u64.bits))))) (2047:Int))-(1023:Int)))<(-1075:Int)))
      (.need (!isNaN frac1||isNaN 0)<|.leaf (.inr (.r0 (oB 0 frac1))))
      (.ask (decide (((exp_1+e2)+((bE .and .i64 (IntKind.i64.wrap (Int.fdiv ((frac1:Nat):Int) (2^(min (Int.toNat (52:Int)) (IntKind.u64.bits))))) (2047:Int))-(1023:Int)))>(1023:Int)))
        (.ask (flt frac1 0)
          (.ask (decide ((-1:Int)≥(0:Int)))
            (.fail)
            (.leaf (.inr (.r0 18442240474082181120))))
          (.ask (decide ((1:Int)≥(0:Int)))
            (.leaf (.inr (.r0 9218868437227405312)))
            (.fail)))
        (.ask (decide (((exp_1+e2)+((bE .and .i64 (IntKind.i64.wrap (Int.fdiv ((frac1:Nat):Int) (2^(min (Int.toNat (52:Int)) (IntKind.u64.bits))))) (2047:Int))-(1023:Int)))<(-1022:Int)))
          (.need (cI .i64 (((exp_1+e2)+((bE .and .i64 (IntKind.i64.wrap (Int.fdiv ((frac1:Nat):Int) (2^(min (Int.toNat (52:Int)) (IntKind.u64.bits))))) (2047:Int))-(1023:Int)))+(53:Int)))<|.leaf (.inl ((((exp_1+e2)+((bE .and .i64 (IntKind.i64.wrap (Int.fdiv ((frac1:Nat):Int) (2^(min (Int.toNat (52:Int)) (IntKind.u64.bits))))) (2047:Int))-(1023:Int)))+(53:Int)),4368491638549381120)))
          (.leaf (.inl (((exp_1+e2)+((bE .and .i64 (IntKind.i64.wrap (Int.fdiv ((frac1:Nat):Int) (2^(min (Int.toNat (52:Int)) (IntKind.u64.bits))))) (2047:Int))-(1023:Int))),4607182418800017408))))))
    (.fail)
def PQ(frac1:Nat)(exp3:Int)(m4:Nat) :T ((Empty)⊕(gr)) :=
  .need (cI .i64 (exp3+(1023:Int)))<|.need (decide ((0:Int)≤(52:Int)))<|.leaf (.inr (.r0 (lT m4 (Int.toNat (bE .or .u64 (bE .andNot .u64 ((frac1:Nat):Int) (9218868437227405312:Int)) (IntKind.u64.wrap ((IntKind.u64.wrap (exp3+(1023:Int)))*2^(min (Int.toNat (52:Int)) (IntKind.u64.bits)))))))))
noncomputable def eL(frac_0:Nat)(exp_1:Int) :Option gr:=mU (aL ((PN frac_0).run) fun (frac1,e2) =>
  aL ((PP exp_1 frac1 e2).run) fun (exp3,m4) =>
  (PQ frac1 exp3 m4).run)
theorem PR(frac_0:Nat)(exp_1:Int){x:gr}(h:eL frac_0 exp_1=some x) :ag prog FU [] [.flt false frac_0,.int .i64 exp_1] (yZ x) :=
  ol false yZ GT h (Sg.cut 3 DV (bZ mh (PM exp_1) [⟨[],[],[4]⟩,⟨[],[],[4]⟩,⟨[],[],[4]⟩,⟨[],[],[0,1,5]⟩,⟨[],[],[0,1,5]⟩]) (fun ⟨frac1,e2⟩=>Sg.cut 10 DV (bZ mh (PO frac1) [⟨[],[],[4]⟩,⟨[],[],[4]⟩,⟨[],[],[4]⟩,⟨[],[],[1,6,7]⟩,⟨[],[],[1,6,7]⟩]) (fun ⟨exp3,m4⟩=>bZ mh mF [⟨[],[],[4]⟩])))
    (fun x=>by cases x with | r0 a5=>exact mw [.flt false a5])
def iZ:Option gr→Bool
  | some _=>true
  | none=>false
def iL:Option gr→Nat
  | some (.r0 x)=>x
  | _=>0
theorem PS{x:Option gr}(h:iZ x=true) :x=some (.r0 (iL x)):=by
  unfold iZ at h
  split at h<;>first | rfl | (cases h;done) | (rename_i y;cases y;rfl)
noncomputable def GU:aA:=cO FU (.cons (.flt false) (.cons (.int .i64) .nil)) fun t=>(fun q=>[⟨yZ (.r0 (iL q)),[iZ q]⟩]) (eL t.1 t.2.1)
theorem Kw:aN prog GU:=bc fun t=>(aY (fun h=>PR t.1 t.2.1 (PS h)) bv)
noncomputable def GV:List aA:=GU::DU
theorem nr:aH prog (aG GV):=au Kw mh
inductive gA where
  | r0 (b2:Bool)
def vj:gA→AE×aC
  | .r0 b2=>(.ret,⟨ah 18 [(2,.bool false b2)],[],0⟩)
theorem za:kE vj:=by intro x;cases x<;>(intro h;cases h)
theorem Tt(id:Nat) :mu id vj:=by intro x;cases x<;>(intro h;cases h)
def BL:gA→ir
  | .r0 b2=>⟨.bool false b2,[]⟩
noncomputable def Tu:List Code:=dp (nD A7)
def Tv(v_0:Lv)(n_1:List Int)(_:Unit) :aC:=⟨ah 18 [(5,.imm v_0 (.ns .i64 n_1) 1 1 0 (List.length n_1)),(6,.int .i64 (((List.length n_1):Nat):Int)),(7,.int .i64 (0:Int))],[],0⟩
def Tw:T ((Unit)⊕(gA)) :=
  .leaf (.inl ())
def sZ(v_0:Lv)(n_1:List Int)(a1:Nat) :aC:=⟨ah 18 [(5,.imm v_0 (.ns .i64 n_1) 1 1 0 (List.length n_1)),(6,.int .i64 (((List.length n_1):Nat):Int)),(7,.int .i64 ((a1:Nat):Int))],[],0⟩
def GW(_:Unit) :aC:=⟨ah 18 [],[],0⟩
noncomputable def Tx:List Code:=dp (fF ((((Tu.drop 2).take 1)).headD .skip))
def ta(n_1:List Int)(a1:Nat) :T ((Nat)⊕((Unit)⊕(gA))) :=
  .ask (decide (((a1:Nat):Int)<(((List.length n_1):Nat):Int)))
    (.need (fO ((a1:Nat):Int) (List.length n_1))<|.need (fD a1 (List.length n_1))<|.ask (decide ((List.getD n_1 a1 0)<(0:Int)))
      (.leaf (.inr (.inr (.r0 false))))
      (.ask (decide ((List.getD n_1 a1 0)>(512:Int)))
        (.leaf (.inr (.inr (.r0 false))))
        (.need (cI .i64 (((a1+1):Nat):Int))<|.leaf (.inl (a1+1)))))
    (.leaf (.inr (.inl ())))
noncomputable def wz(n_1:List Int) :Nat→Option ((Nat)⊕((Unit)⊕(gA))):=fun a1 =>
  (ta n_1 a1).run
theorem PT(v_0:Lv)(n_1:List Int)(a1:Nat) :Sg prog [] Tx (sZ v_0 n_1 a1) (wz n_1 a1) (sZ v_0 n_1) (du 0 GW vj):=by
  unfold wz;exact bZ nr (sZ v_0 n_1) [⟨[],[],[2]⟩,⟨[],[],[2]⟩,⟨[],[],[5,6,7]⟩,⟨[],[],[]⟩]
def PU:T ((Empty)⊕(gA)) :=
  .leaf (.inr (.r0 true))
noncomputable def oh(n_1:List Int) :Option gA:=mU (aL ((Tw).run) fun _ =>
  aL (dJ (wz n_1) 0) fun _ =>
  (PU).run)
theorem Tz(v_0:Lv)(n_1:List Int){x:gA}(h:oh n_1=some x) :ag prog A7 [] [.imm v_0 (.ns .i64 n_1) 1 1 0 (List.length n_1)] (BL x) :=
  ol false BL vj h (Sg.cut 2 za (bZ nr (Tv v_0 n_1) [⟨[],[],[5,6,7]⟩]) (fun _=>Sg.cut 1 za (QA ⟨[],[],[5,6,7]⟩ (sZ v_0 n_1) (GW) 0 za (Tt _) (fun a1=>PT v_0 n_1 a1)) (fun _=>bZ nr mF [⟨[],[],[2]⟩])))
    (fun x=>by cases x with | r0 b2=>exact mw [.bool false b2])
def tc:Option gA→Bool
  | some _=>true
  | none=>false
def tY:Option gA→Bool
  | some (.r0 x)=>x
  | _=>false
theorem TA{x:Option gA}(h:tc x=true) :x=some (.r0 (tY x)):=by
  unfold tc at h
  split at h<;>first | rfl | (cases h;done) | (rename_i y;cases y;rfl)
noncomputable def JU:aA:=cO A7 (.cons (.ns .i64) .nil) fun t=>(fun q=>[⟨BL (.r0 (tY q)),[tc q]⟩]) (oh t.1.2)
theorem NR:aN prog JU:=bc fun t=>(aY (fun h=>Tz t.1.1 t.1.2 (TA h)) bv)
noncomputable def JV:List aA:=JU::GV
theorem tZ:aH prog (aG JV):=au NR nr
inductive fq where
  | r0
  | r1 (i2:Int) (i3:Int) (a4:Nat) (l5:List Nat)
def NT:fq→AE×aC
  | .r0=>(.ret,⟨ah 22 [(4,.ptr 0 1 0 0),(5,.int .i64 (2:Int))],[(0,.vs [.nptr,.int .i64 (0:Int),.int .i64 (0:Int),.int .i64 (0:Int),.int .i64 (0:Int),.int .i64 (0:Int)])],1⟩)
  | .r1 i2 i3 a4 l5=>(.ret,⟨ah 22 [(4,.ptr 0 1 0 0),(5,.int .i64 (0:Int))],[(0,.vs [.ptr 1 1 0 0,.int .i64 i2,.int .i64 i3,.int .i64 (0:Int),.int .i64 i3,.int .i64 (1:Int)]),(1,.vs [.sl 2 1 1 0 a4 a4]),(2,.fl l5)],3⟩)
theorem Xu:kE NT:=by intro x;cases x<;>(intro h;cases h)
def zb:fq→ir
  | .r0=>⟨.tup [.agg [.nptr,.int .i64 (0:Int),.int .i64 (0:Int),.int .i64 (0:Int),.int .i64 (0:Int),.int .i64 (0:Int)],.int .i64 (2:Int)],[]⟩
  | .r1 i2 i3 a4 l5=>⟨.tup [.agg [.ptr 0 1 0 0,.int .i64 i2,.int .i64 i3,.int .i64 (0:Int),.int .i64 i3,.int .i64 (1:Int)],.int .i64 (0:Int)],[some (.vs [.sl 1 1 1 0 a4 a4]),some (.fl l5)]⟩
def Xv(rows_0:Int)(cols_1:Int)(b1:Bool) :aC:=⟨ah 22 [(0,.int .i64 rows_0),(1,.int .i64 cols_1),(4,.ptr 0 1 0 0),(10,.bool false b1)],[(0,.vs [.nptr,.int .i64 (0:Int),.int .i64 (0:Int),.int .i64 (0:Int),.int .i64 (0:Int),.int .i64 (0:Int)])],1⟩
def JW(rows_0:Int)(cols_1:Int) :T ((Bool)⊕(fq)) :=
  .need (bm 0 2 [rows_0,cols_1])<|.need (tc (oh (ab 0 2 [rows_0,cols_1])))<|.leaf (.inl (!(tY (oh (ab 0 2 [rows_0,cols_1])))))
def BM(rows_0:Int)(cols_1:Int)(b1:Bool) :T ((Empty)⊕(fq)) :=
  .ask b1
    (.leaf (.inr (.r0)))
    (.need (cI .i64 (rows_0*cols_1))<|.need (decide ((0:Int)≤(rows_0*cols_1)))<|.need (decide ((rows_0*cols_1)≤(rows_0*cols_1)))<|.need (decide ((8:Int)*(rows_0*cols_1)≤140737488355328))<|.need (cI .i64 (rows_0*cols_1))<|.leaf (.inr (.r1 rows_0 cols_1 (Int.toNat (rows_0*cols_1)) (List.replicate (Int.toNat (rows_0*cols_1)) 0))))
noncomputable def fu(rows_0:Int)(cols_1:Int) :Option fq:=mU (aL ((JW rows_0 cols_1).run) fun b1 =>
  (BM rows_0 cols_1 b1).run)
theorem JX(rows_0:Int)(cols_1:Int){x:fq}(h:fu rows_0 cols_1=some x) :ag prog Mf [] [.int .i64 rows_0,.int .i64 cols_1] (zb x) :=
  ol false zb NT h (Sg.cut 2 Xu (bZ tZ (Xv rows_0 cols_1) [⟨[],[0],[0,1,4,10]⟩]) (fun b1=>bZ tZ mF [⟨[],[0],[4,5]⟩,⟨[],[0,81,49],[4,5]⟩]))
    (fun x=>by cases x with | r0=>exact mw [.agg [.nptr,.int .i64 (0:Int),.int .i64 (0:Int),.int .i64 (0:Int),.int .i64 (0:Int),.int .i64 (0:Int)],.int .i64 (2:Int)] | r1 i2 i3 a4 l5=>exact mw [.agg [.ptr 1 1 0 0,.int .i64 i2,.int .i64 i3,.int .i64 (0:Int),.int .i64 i3,.int .i64 (1:Int)],.int .i64 (0:Int)])
def vk:Option fq→Bool
  | some (.r0)=>true
  | _=>false
theorem Xw{x:Option fq}(h:vk x=true) :x=some (.r0):=by
  unfold vk at h
  split at h<;>first | rfl | (cases h;done) | (rename_i y;cases y;rfl)
def rK:Option fq→Bool
  | some (.r1 _ _ _ _)=>true
  | _=>false
def rl:Option fq→Int
  | some (.r1 x _ _ _)=>x
  | _=>0
def rm:Option fq→Int
  | some (.r1 _ x _ _)=>x
  | _=>0
def rn:Option fq→Nat
  | some (.r1 _ _ x _)=>x
  | _=>0
def rp:Option fq→List Nat
  | some (.r1 _ _ _ x)=>x
  | _=>[]
theorem Xx{x:Option fq}(h:rK x=true) :x=some (.r1 (rl x) (rm x) (rn x) (rp x)):=by
  unfold rK at h
  split at h<;>first | rfl | (cases h;done) | (rename_i y;cases y;rfl)
noncomputable def NU:aA:=cO Mf (.cons (.int .i64) (.cons (.int .i64) .nil)) fun t=>(fun q=>[⟨zb (.r0),[vk q]⟩,⟨zb (.r1 (rl q) (rm q) (rn q) (rp q)),[rK q]⟩]) (fu t.1 t.2.1)
theorem PV:aN prog NU:=bc fun t=>(aY (fun h=>JX t.1 t.2.1 (Xw h)) (aY (fun h=>JX t.1 t.2.1 (Xx h)) bv))
noncomputable def NV:List aA:=NU::JV
theorem rq:aH prog (aG NV):=au PV tZ
inductive gg where
  | r0
  | r1 (i5:Int) (i6:Int) (a7:Nat) (l8:List Nat)
def Q8:gg→AE×aC
  | .r0=>(.ret,⟨ah 37 [(2,.ptr 0 1 0 0),(3,.int .i64 (2:Int))],[(0,.vs [.nptr,.int .i64 (0:Int),.int .i64 (0:Int),.int .i64 (0:Int),.int .i64 (0:Int),.int .i64 (0:Int)])],1⟩)
  | .r1 i5 i6 a7 l8=>(.ret,⟨ah 37 [(2,.ptr 0 1 0 0),(3,.int .i64 (0:Int))],[(0,.vs [.ptr 1 1 0 0,.int .i64 i5,.int .i64 i6,.int .i64 (0:Int),.int .i64 i6,.int .i64 (1:Int)]),(1,.vs [.sl 2 1 1 0 a7 a7]),(2,.fl l8)],3⟩)
theorem aas:kE Q8:=by intro x;cases x<;>(intro h;cases h)
def CA:gg→ir
  | .r0=>⟨.tup [.agg [.nptr,.int .i64 (0:Int),.int .i64 (0:Int),.int .i64 (0:Int),.int .i64 (0:Int),.int .i64 (0:Int)],.int .i64 (2:Int)],[]⟩
  | .r1 i5 i6 a7 l8=>⟨.tup [.agg [.ptr 0 1 0 0,.int .i64 i5,.int .i64 i6,.int .i64 (0:Int),.int .i64 i6,.int .i64 (1:Int)],.int .i64 (0:Int)],[some (.vs [.sl 1 1 1 0 a7 a7]),some (.fl l8)]⟩
def aat(m_0:Int)(m_1:Int)(v_2:Lv)(m_3:List Nat)(_:Unit) :aC:=⟨ah 37 [(1,.ptr 0 1 0 0),(2,.ptr 1 1 0 0),(4,.ptr 2 1 0 0),(5,.int .i64 (2:Int))],[(0,.vs [.int .i64 m_0,.int .i64 m_1,.imm v_2 (.fl m_3) 1 1 0 (List.length m_3)]),(1,.vs [.nptr,.int .i64 (0:Int),.int .i64 (0:Int),.int .i64 (0:Int),.int .i64 (0:Int),.int .i64 (0:Int)]),(2,.vs [.nptr,.int .i64 (0:Int),.int .i64 (0:Int),.int .i64 (0:Int),.int .i64 (0:Int),.int .i64 (0:Int)])],3⟩
def aau(m_0:Int)(m_1:Int)(v_2:Lv)(m_3:List Nat) :Int×Int×Nat×(List Nat)→aC:=fun (i1,i2,a3,l4)=>⟨ah 37 [(1,.ptr 0 1 0 0),(2,.ptr 1 1 0 0),(4,.ptr 2 1 0 0),(5,.int .i64 (0:Int))],[(0,.vs [.int .i64 m_0,.int .i64 m_1,.imm v_2 (.fl m_3) 1 1 0 (List.length m_3)]),(1,.vs [.nptr,.int .i64 (0:Int),.int .i64 (0:Int),.int .i64 (0:Int),.int .i64 (0:Int),.int .i64 (0:Int)]),(2,.vs [.ptr 3 1 0 0,.int .i64 i1,.int .i64 i2,.int .i64 (0:Int),.int .i64 i2,.int .i64 (1:Int)]),(3,.vs [.sl 4 1 1 0 a3 a3]),(4,.fl l4)],5⟩
def NW(m_0:Int)(m_1:Int) :T (((Unit)⊕((Int×Int×Nat×(List Nat))))⊕(gg)) :=
  .alt 0
    (.need (vk (fu m_0 m_1))<|.leaf (.inl (.inl ())))
    (.alt 1
      (.need (rK (fu m_0 m_1))<|.leaf (.inl (.inr ((rl (fu m_0 m_1)),(rm (fu m_0 m_1)),(rn (fu m_0 m_1)),(rp (fu m_0 m_1))))))
      (.fail))
def aav:T ((Empty)⊕(gg)) :=
  .ask ((2:Int) != (0:Int))
    (.leaf (.inr (.r0)))
    (.fail)
def E5(m_0:Int)(m_1:Int)(m_3:List Nat)(i1:Int)(i2:Int)(a3:Nat)(l4:List Nat) :T ((Empty)⊕(gg)) :=
  .ask ((0:Int) != (0:Int))
    (.fail)
    (.need (cI .i64 (m_0*m_1))<|.ask ((((List.length m_3):Nat):Int) != (m_0*m_1))
      (.leaf (.inr (.r0)))
      (.need (mt (List.length m_3) (List.length m_3))<|.need (mt (0+(Nat.min (List.length m_3) a3)) (List.length l4))<|.need (mt (Nat.min (List.length m_3) a3) (List.length (List.take (List.length m_3) m_3)))<|.leaf (.inr (.r1 i1 i2 a3 (cpL l4 0 (Nat.min (List.length m_3) a3) (List.take (List.length m_3) m_3))))))
noncomputable def bS(m_0:Int)(m_1:Int)(m_3:List Nat) :Option gg:=mU (aL ((NW m_0 m_1).run) (Sum.elim (fun _ =>
  (aav).run) (fun (i1,i2,a3,l4) =>
  (E5 m_0 m_1 m_3 i1 i2 a3 l4).run)))
theorem NX(m_0:Int)(m_1:Int)(v_2:Lv)(m_3:List Nat){x:gg}(h:bS m_0 m_1 m_3=some x) :ag prog Qr [] [.agg [.int .i64 m_0,.int .i64 m_1,.imm v_2 (.fl m_3) 1 1 0 (List.length m_3)]] (CA x) :=
  ol false CA Q8 h (Sg.cut 2 aas (bZ rq (Sum.elim (aat m_0 m_1 v_2 m_3) (aau m_0 m_1 v_2 m_3)) [⟨[],[0,16,176],[1,2,4,5]⟩,⟨[],[0,16,176,112,113],[1,2,4,5]⟩]) (sga (fun _=>bZ rq mF [⟨[],[1],[2,3]⟩]) (fun ⟨i1,i2,a3,l4⟩=>bZ rq mF [⟨[],[1],[2,3]⟩,⟨[],[1,3,4],[2,3]⟩])))
    (fun x=>by cases x with | r0=>exact mw [.agg [.nptr,.int .i64 (0:Int),.int .i64 (0:Int),.int .i64 (0:Int),.int .i64 (0:Int),.int .i64 (0:Int)],.int .i64 (2:Int)] | r1 i5 i6 a7 l8=>exact mw [.agg [.ptr 1 1 0 0,.int .i64 i5,.int .i64 i6,.int .i64 (0:Int),.int .i64 i6,.int .i64 (1:Int)],.int .i64 (0:Int)])
def qu:Option gg→Bool
  | some (.r0)=>true
  | _=>false
theorem aaw{x:Option gg}(h:qu x=true) :x=some (.r0):=by
  unfold qu at h
  split at h<;>first | rfl | (cases h;done) | (rename_i y;cases y;rfl)
def jN:Option gg→Bool
  | some (.r1 _ _ _ _)=>true
  | _=>false
def jO:Option gg→Int
  | some (.r1 x _ _ _)=>x
  | _=>0
def jP:Option gg→Int
  | some (.r1 _ x _ _)=>x
  | _=>0
def jQ:Option gg→Nat
  | some (.r1 _ _ x _)=>x
  | _=>0
def jR:Option gg→List Nat
  | some (.r1 _ _ _ x)=>x
  | _=>[]
theorem aax{x:Option gg}(h:jN x=true) :x=some (.r1 (jO x) (jP x) (jQ x) (jR x)):=by
  unfold jN at h
  split at h<;>first | rfl | (cases h;done) | (rename_i y;cases y;rfl)
noncomputable def Q9:aA:=cO Qr (.cons (.agg (.cons (.int .i64) (.cons (.int .i64) (.cons .fl .nil)))) .nil) fun t=>(fun q=>[⟨CA (.r0),[qu q]⟩,⟨CA (.r1 (jO q) (jP q) (jQ q) (jR q)),[jN q]⟩]) (bS t.1.1 t.1.2.1 t.1.2.2.1.2)
theorem TB:aN prog Q9:=bc fun t=>(aY (fun h=>NX t.1.1 t.1.2.1 t.1.2.2.1.1 t.1.2.2.1.2 (aaw h)) (aY (fun h=>NX t.1.1 t.1.2.1 t.1.2.2.1.1 t.1.2.2.1.2 (aax h)) bv))
noncomputable def Ra:List aA:=Q9::NV
theorem zc:aH prog (aG Ra):=au TB rq
inductive cL where
  | r0 (b2:Bool)
def rL:cL→AE×aC
  | .r0 b2=>(.ret,⟨ah 25 [(6,.bool false b2)],[],0⟩)
theorem Af:kE rL:=by intro x;cases x<;>(intro h;cases h)
def lL:cL→ir
  | .r0 b2=>⟨.bool false b2,[]⟩
def Ag(b1:Bool) :aC:=⟨ah 25 [(6,.bool false b1)],[],0⟩
def pR(from_0:Int)(n_1:Int)(all_2:Int) :T ((Bool)⊕(cL)) :=
  .ask (decide (from_0≥(0:Int)))
    (.ask (decide (n_1≥(0:Int)))
      (.ask (decide (from_0≤all_2))
        (.need (cI .i64 (all_2-from_0))<|.leaf (.inl (decide (n_1≤(all_2-from_0)))))
        (.leaf (.inl false)))
      (.leaf (.inl false)))
    (.leaf (.inl false))
def Ah(b1:Bool) :T ((Empty)⊕(cL)) :=
  .leaf (.inr (.r0 b1))
noncomputable def dW(from_0:Int)(n_1:Int)(all_2:Int) :Option cL:=mU (aL ((pR from_0 n_1 all_2).run) fun b1 =>
  (Ah b1).run)
theorem Ai(from_0:Int)(n_1:Int)(all_2:Int){x:cL}(h:dW from_0 n_1 all_2=some x) :ag prog rz [] [.int .i64 from_0,.int .i64 n_1,.int .i64 all_2] (lL x) :=
  ol false lL rL h (Sg.cut 2 Af (bZ zc Ag [⟨[],[],[6]⟩,⟨[],[],[6]⟩,⟨[],[],[6]⟩,⟨[],[],[6]⟩]) (fun b1=>bZ zc mF [⟨[],[],[6]⟩]))
    (fun x=>by cases x with | r0 b2=>exact mw [.bool false b2])
def fI:Option cL→Bool
  | some _=>true
  | none=>false
def gK:Option cL→Bool
  | some (.r0 x)=>x
  | _=>false
theorem Aj{x:Option cL}(h:fI x=true) :x=some (.r0 (gK x)):=by
  unfold fI at h
  split at h<;>first | rfl | (cases h;done) | (rename_i y;cases y;rfl)
noncomputable def rM:aA:=cO rz (.cons (.int .i64) (.cons (.int .i64) (.cons (.int .i64) .nil))) fun t=>(fun q=>[⟨lL (.r0 (gK q)),[fI q]⟩]) (dW t.1 t.2.1 t.2.2.1)
theorem xa:aN prog rM:=bc fun t=>(aY (fun h=>Ai t.1 t.2.1 t.2.2.1 (Aj h)) bv)
noncomputable def rN:List aA:=rM::Ra
theorem jx:aH prog (aG rN):=au xa zc
inductive aZ where
  | r0 (a2:Nat) (a3:Nat) (l4:List Nat)
  | r1 (a5:Nat) (a6:Nat) (l7:List Nat) (i9:Int) (i10:Int) (i11:Int) (i12:Int) (i13:Int)
def ua:aZ→AE×aC
  | .r0 a2 a3 l4=>(.ret,⟨ah 44 [(10,.ptr 2 1 0 0)],[(0,.vs [.sl 1 1 1 0 a2 a3]),(1,.fl l4),(2,.vs [.nptr,.int .i64 (0:Int),.int .i64 (0:Int),.int .i64 (0:Int),.int .i64 (0:Int),.int .i64 (0:Int)])],3⟩)
  | .r1 a5 a6 l7 i9 i10 i11 i12 i13=>(.ret,⟨ah 44 [(10,.ptr 2 1 0 0)],[(0,.vs [.sl 1 1 1 0 a5 a6]),(1,.fl l7),(2,.vs [.ptr 0 1 0 0,.int .i64 i9,.int .i64 i10,.int .i64 i11,.int .i64 i12,.int .i64 i13])],3⟩)
theorem CR:kE ua:=by intro x;cases x<;>(intro h;cases h)
def jS:aZ→ir
  | .r0 a2 a3 l4=>⟨.agg [.nptr,.int .i64 (0:Int),.int .i64 (0:Int),.int .i64 (0:Int),.int .i64 (0:Int),.int .i64 (0:Int)],[some (.vs [.sl 1 1 1 0 a2 a3]),some (.fl l4)]⟩
  | .r1 a5 a6 l7 i9 i10 i11 i12 i13=>⟨.agg [.ptr 0 1 0 0,.int .i64 i9,.int .i64 i10,.int .i64 i11,.int .i64 i12,.int .i64 i13],[some (.vs [.sl 1 1 1 0 a5 a6]),some (.fl l7)]⟩
def CS(n_0:Nat)(c_1:Nat)(l_2:List Nat)(v_3:Int)(v_4:Int)(v_5:Int)(v_6:Int)(v_7:Int)(i_8:Int)(j_9:Int)(rows_10:Int)(cols_11:Int)(b1:Bool) :aC:=⟨ah 44 [(1,.int .i64 i_8),(2,.int .i64 j_9),(3,.int .i64 rows_10),(4,.int .i64 cols_11),(5,.ptr 2 1 0 0),(10,.ptr 3 1 0 0),(32,.bool false b1)],[(0,.vs [.sl 1 1 1 0 n_0 c_1]),(1,.fl l_2),(2,.vs [.ptr 0 1 0 0,.int .i64 v_3,.int .i64 v_4,.int .i64 v_5,.int .i64 v_6,.int .i64 v_7]),(3,.vs [.nptr,.int .i64 (0:Int),.int .i64 (0:Int),.int .i64 (0:Int),.int .i64 (0:Int),.int .i64 (0:Int)])],4⟩
def sD(v_3:Int)(v_4:Int)(i_8:Int)(j_9:Int)(rows_10:Int)(cols_11:Int) :T ((Bool)⊕(aZ)) :=
  .need (fI (dW i_8 rows_10 v_3))<|.ask (!(gK (dW i_8 rows_10 v_3)))
    (.leaf (.inl true))
    (.need (fI (dW j_9 cols_11 v_4))<|.leaf (.inl (!(gK (dW j_9 cols_11 v_4)))))
def mA(n_0:Nat)(c_1:Nat)(l_2:List Nat)(v_5:Int)(v_6:Int)(v_7:Int)(i_8:Int)(j_9:Int)(rows_10:Int)(cols_11:Int)(b1:Bool) :T ((Empty)⊕(aZ)) :=
  .ask b1
    (.leaf (.inr (.r0 n_0 c_1 l_2)))
    (.need (cI .i64 (i_8*v_6))<|.need (cI .i64 (v_5+(i_8*v_6)))<|.need (cI .i64 (j_9*v_7))<|.need (cI .i64 ((v_5+(i_8*v_6))+(j_9*v_7)))<|.leaf (.inr (.r1 n_0 c_1 l_2 rows_10 cols_11 ((v_5+(i_8*v_6))+(j_9*v_7)) v_6 v_7)))
noncomputable def aa(n_0:Nat)(c_1:Nat)(l_2:List Nat)(v_3:Int)(v_4:Int)(v_5:Int)(v_6:Int)(v_7:Int)(i_8:Int)(j_9:Int)(rows_10:Int)(cols_11:Int) :Option aZ:=mU (aL ((sD v_3 v_4 i_8 j_9 rows_10 cols_11).run) fun b1 =>
  (mA n_0 c_1 l_2 v_5 v_6 v_7 i_8 j_9 rows_10 cols_11 b1).run)
theorem sE(n_0:Nat)(c_1:Nat)(l_2:List Nat)(v_3:Int)(v_4:Int)(v_5:Int)(v_6:Int)(v_7:Int)(i_8:Int)(j_9:Int)(rows_10:Int)(cols_11:Int){x:aZ}(h:aa n_0 c_1 l_2 v_3 v_4 v_5 v_6 v_7 i_8 j_9 rows_10 cols_11=some x) :ag prog nB [.vs [.sl 1 1 1 0 n_0 c_1],.fl l_2] [.agg [.ptr 0 1 0 0,.int .i64 v_3,.int .i64 v_4,.int .i64 v_5,.int .i64 v_6,.int .i64 v_7],.int .i64 i_8,.int .i64 j_9,.int .i64 rows_10,.int .i64 cols_11] (jS x) :=
  ol false jS ua h (Sg.cut 3 CR (bZ jx (CS n_0 c_1 l_2 v_3 v_4 v_5 v_6 v_7 i_8 j_9 rows_10 cols_11) [⟨[],[0,1,2,18],[1,2,3,4,5,10,32]⟩,⟨[],[0,1,2,18],[1,2,3,4,5,10,32]⟩]) (fun b1=>bZ jx mF [⟨[],[0,1,3],[10]⟩,⟨[],[0,1,3],[10]⟩]))
    (fun x=>by cases x with | r0 a2 a3 l4=>exact mw [.agg [.nptr,.int .i64 (0:Int),.int .i64 (0:Int),.int .i64 (0:Int),.int .i64 (0:Int),.int .i64 (0:Int)]] | r1 a5 a6 l7 i9 i10 i11 i12 i13=>exact mw [.agg [.ptr 0 1 0 0,.int .i64 i9,.int .i64 i10,.int .i64 i11,.int .i64 i12,.int .i64 i13]])
def mB:Option aZ→Bool
  | some (.r0 _ _ _)=>true
  | _=>false
def pS:Option aZ→Nat
  | some (.r0 x _ _)=>x
  | _=>0
def pT:Option aZ→Nat
  | some (.r0 _ x _)=>x
  | _=>0
def pU:Option aZ→List Nat
  | some (.r0 _ _ x)=>x
  | _=>[]
theorem CT{x:Option aZ}(h:mB x=true) :x=some (.r0 (pS x) (pT x) (pU x)):=by
  unfold mB at h
  split at h<;>first | rfl | (cases h;done) | (rename_i y;cases y;rfl)
def dD:Option aZ→Bool
  | some (.r1 _ _ _ _ _ _ _ _)=>true
  | _=>false
def aE:Option aZ→Nat
  | some (.r1 x _ _ _ _ _ _ _)=>x
  | _=>0
def bK:Option aZ→Nat
  | some (.r1 _ x _ _ _ _ _ _)=>x
  | _=>0
def aF:Option aZ→List Nat
  | some (.r1 _ _ x _ _ _ _ _)=>x
  | _=>[]
def aO:Option aZ→Int
  | some (.r1 _ _ _ x _ _ _ _)=>x
  | _=>0
def aP:Option aZ→Int
  | some (.r1 _ _ _ _ x _ _ _)=>x
  | _=>0
def aQ:Option aZ→Int
  | some (.r1 _ _ _ _ _ x _ _)=>x
  | _=>0
def aR:Option aZ→Int
  | some (.r1 _ _ _ _ _ _ x _)=>x
  | _=>0
def aS:Option aZ→Int
  | some (.r1 _ _ _ _ _ _ _ x)=>x
  | _=>0
theorem CU{x:Option aZ}(h:dD x=true) :x=some (.r1 (aE x) (bK x) (aF x) (aO x) (aP x) (aQ x) (aR x) (aS x)):=by
  unfold dD at h
  split at h<;>first | rfl | (cases h;done) | (rename_i y;cases y;rfl)
noncomputable def ub:aA:=Jn nB [.vs [.lsl0 1],.fl] (.cons (.agg (.cons (.lptr 0 1 0 0) (.cons (.int .i64) (.cons (.int .i64) (.cons (.int .i64) (.cons (.int .i64) (.cons (.int .i64) .nil))))))) (.cons (.int .i64) (.cons (.int .i64) (.cons (.int .i64) (.cons (.int .i64) .nil))))) fun x t=>(fun q=>[⟨jS (.r0 (pS q) (pT q) (pU q)),[mB q]⟩,⟨jS (.r1 (aE q) (bK q) (aF q) (aO q) (aP q) (aQ q) (aR q) (aS q)),[dD q]⟩]) (aa x.1.1.1 x.1.1.2 x.2.1 t.1.2.1 t.1.2.2.1 t.1.2.2.2.1 t.1.2.2.2.2.1 t.1.2.2.2.2.2.1 t.2.1 t.2.2.1 t.2.2.2.1 t.2.2.2.2.1)
theorem Ak:aN prog ub:=wM fun x t=>(oc (fun h=>sE x.1.1.1 x.1.1.2 x.2.1 t.1.2.1 t.1.2.2.1 t.1.2.2.2.1 t.1.2.2.2.2.1 t.1.2.2.2.2.2.1 t.2.1 t.2.2.1 t.2.2.2.1 t.2.2.2.2.1 (CT h)) (oc (fun h=>sE x.1.1.1 x.1.1.2 x.2.1 t.1.2.1 t.1.2.2.1 t.1.2.2.2.1 t.1.2.2.2.2.1 t.1.2.2.2.2.2.1 t.2.1 t.2.2.1 t.2.2.2.1 t.2.2.2.2.1 (CU h)) wN))
noncomputable def ud:List aA:=ub::rN
theorem kK:aH prog (aG ud):=au Ak jx
inductive cM where
  | r0 (b2:Bool)
def rO:cM→AE×aC
  | .r0 b2=>(.ret,⟨ah 25 [(6,.bool false b2)],[],0⟩)
theorem Al:kE rO:=by intro x;cases x<;>(intro h;cases h)
def lM:cM→ir
  | .r0 b2=>⟨.bool false b2,[]⟩
def Am(b1:Bool) :aC:=⟨ah 25 [(6,.bool false b1)],[],0⟩
def pV(v_3:Int)(v_4:Int)(i_8:Int)(j_9:Int) :T ((Bool)⊕(cM)) :=
  .ask (decide (i_8≥(0:Int)))
    (.ask (decide (i_8<v_3))
      (.ask (decide (j_9≥(0:Int)))
        (.leaf (.inl (decide (j_9<v_4))))
        (.leaf (.inl false)))
      (.leaf (.inl false)))
    (.leaf (.inl false))
def An(b1:Bool) :T ((Empty)⊕(cM)) :=
  .leaf (.inr (.r0 b1))
noncomputable def ap(v_3:Int)(v_4:Int)(i_8:Int)(j_9:Int) :Option cM:=mU (aL ((pV v_3 v_4 i_8 j_9).run) fun b1 =>
  (An b1).run)
theorem Ao(v_0:Lv)(v_1:Lv)(v_2:List Nat)(v_3:Int)(v_4:Int)(v_5:Int)(v_6:Int)(v_7:Int)(i_8:Int)(j_9:Int){x:cM}(h:ap v_3 v_4 i_8 j_9=some x) :ag prog rB [] [.agg [.iptr v_0 (.vs [.imm v_1 (.fl v_2) 1 1 0 (List.length v_2)]) 1 0 0,.int .i64 v_3,.int .i64 v_4,.int .i64 v_5,.int .i64 v_6,.int .i64 v_7],.int .i64 i_8,.int .i64 j_9] (lM x) :=
  ol false lM rO h (Sg.cut 2 Al (bZ kK Am [⟨[],[],[6]⟩,⟨[],[],[6]⟩,⟨[],[],[6]⟩,⟨[],[],[6]⟩]) (fun b1=>bZ kK mF [⟨[],[],[6]⟩]))
    (fun x=>by cases x with | r0 b2=>exact mw [.bool false b2])
def bd:Option cM→Bool
  | some _=>true
  | none=>false
def aX:Option cM→Bool
  | some (.r0 x)=>x
  | _=>false
theorem Ap{x:Option cM}(h:bd x=true) :x=some (.r0 (aX x)):=by
  unfold bd at h
  split at h<;>first | rfl | (cases h;done) | (rename_i y;cases y;rfl)
noncomputable def rP:aA:=cO rB (.cons (.agg (.cons (.ivs (.cons .fl .nil) 1 0 0) (.cons (.int .i64) (.cons (.int .i64) (.cons (.int .i64) (.cons (.int .i64) (.cons (.int .i64) .nil))))))) (.cons (.int .i64) (.cons (.int .i64) .nil))) fun t=>(fun q=>[⟨lM (.r0 (aX q)),[bd q]⟩]) (ap t.1.2.1 t.1.2.2.1 t.2.1 t.2.2.1)
theorem xc:aN prog rP:=bc fun t=>(aY (fun h=>Ao t.1.1.1 t.1.1.2.1.1 t.1.1.2.1.2 t.1.2.1 t.1.2.2.1 t.1.2.2.2.1 t.1.2.2.2.2.1 t.1.2.2.2.2.2.1 t.2.1 t.2.2.1 (Ap h)) bv)
noncomputable def rQ:List aA:=rP::ud
theorem bG:aH prog (aG rQ):=au xc kK
inductive bu where
  | r0 (i57:Int) (i58:Int) (a59:Nat) (a60:Nat) (l61:List Nat)
def lN:bu→AE×aC
  | .r0 i57 i58 a59 a60 l61=>(.ret,⟨ah 22 [(2,.ptr 0 1 0 0)],[(0,.vs [.int .i64 i57,.int .i64 i58,.sl 1 1 1 0 a59 a60]),(1,.fl l61)],2⟩)
theorem kL:kE lN:=by intro x;cases x<;>(intro h;cases h)
theorem Aq(id:Nat) :mu id lN:=by intro x;cases x<;>(intro h;cases h)
def lO:bu→ir
  | .r0 i57 i58 a59 a60 l61=>⟨.agg [.int .i64 i57,.int .i64 i58,.sl 0 1 1 0 a59 a60],[some (.fl l61)]⟩
noncomputable def zd:List Code:=dp (nD lg)
def pW(v_0:Lv)(v_1:Lv)(v_2:List Nat)(v_3:Int)(v_4:Int)(v_5:Int)(v_6:Int)(v_7:Int)(_:Unit) :aC:=⟨ah 22 [(2,.ptr 0 1 0 0),(3,.ptr 1 1 0 0),(12,.fn (.func fv) [] [.ptr 2 1 0 0])],[(0,.vs [.int .i64 (0:Int),.int .i64 (0:Int),.nsl]),(1,.vs [.int .i64 v_3,.int .i64 v_4,.nsl]),(2,.vs [.iptr v_0 (.vs [.imm v_1 (.fl v_2) 1 1 0 (List.length v_2)]) 1 0 0,.int .i64 v_3,.int .i64 v_4,.int .i64 v_5,.int .i64 v_6,.int .i64 v_7])],3⟩
def ze:T ((Unit)⊕(bu)) :=
  .leaf (.inl ())
def pk(v_3:Int)(v_4:Int) :Nat×Nat×(List Nat)→aC:=fun (a54,a55,l56)=>⟨ah 22 [(2,.ptr 0 1 0 0),(3,.ptr 1 1 0 0)],[(0,.vs [.int .i64 (0:Int),.int .i64 (0:Int),.nsl]),(1,.vs [.int .i64 v_3,.int .i64 v_4,.sl 2 1 1 0 a54 a55]),(2,.fl l56)],3⟩
noncomputable def zf:List Code:=dp (inBlock ((((zd.drop 3).take 1)).headD .skip))
def jT(v_0:Lv)(v_1:Lv)(v_2:List Nat)(v_3:Int)(v_4:Int)(v_5:Int)(v_6:Int)(v_7:Int) :YI:=aic (zf) (pW v_0 v_1 v_2 v_3 v_4 v_5 v_6 v_7 ())
def pm(v_0:Lv)(v_1:Lv)(v_2:List Nat)(v_3:Int)(v_4:Int)(v_5:Int)(v_6:Int)(v_7:Int) :Nat×Nat×(List Nat)→aC:=fun (a51,a52,l53)=>⟨ah 27 [],[(0,.vs [.int .i64 (0:Int),.int .i64 (0:Int),.nsl]),(1,.vs [.int .i64 v_3,.int .i64 v_4,.sl 4 1 1 0 a51 a52]),(2,.vs [.iptr v_0 (.vs [.imm v_1 (.fl v_2) 1 1 0 (List.length v_2)]) 1 0 0,.int .i64 v_3,.int .i64 v_4,.int .i64 v_5,.int .i64 v_6,.int .i64 v_7]),(3,.vs []),(4,.fl l53)],5⟩
noncomputable def zg:List Code:=dp (nD fv)
def Ar(v_0:Lv)(v_1:Lv)(v_2:List Nat)(v_3:Int)(v_4:Int)(v_5:Int)(v_6:Int)(v_7:Int)(_:Unit) :aC:=⟨ah 27 [(0,.yld 3),(1,.ptr 2 1 0 0),(6,.int .i64 v_3),(7,.int .i64 (0:Int))],[(0,.vs [.int .i64 (0:Int),.int .i64 (0:Int),.nsl]),(1,.vs [.int .i64 v_3,.int .i64 v_4,.nsl]),(2,.vs [.iptr v_0 (.vs [.imm v_1 (.fl v_2) 1 1 0 (List.length v_2)]) 1 0 0,.int .i64 v_3,.int .i64 v_4,.int .i64 v_5,.int .i64 v_6,.int .i64 v_7]),(3,.vs [])],4⟩
def zh:T ((Unit)⊕(Empty)) :=
  .leaf (.inl ())
def gZ(v_0:Lv)(v_1:Lv)(v_2:List Nat)(v_3:Int)(v_4:Int)(v_5:Int)(v_6:Int)(v_7:Int) :Nat×Nat×Nat×(List Nat)→aC:=fun (a30,a31,a32,l33)=>⟨ah 27 [(0,.yld 3),(1,.ptr 2 1 0 0),(6,.int .i64 v_3),(7,.int .i64 ((a30:Nat):Int))],[(0,.vs [.int .i64 (0:Int),.int .i64 (0:Int),.nsl]),(1,.vs [.int .i64 v_3,.int .i64 v_4,.sl 4 1 1 0 a31 a32]),(2,.vs [.iptr v_0 (.vs [.imm v_1 (.fl v_2) 1 1 0 (List.length v_2)]) 1 0 0,.int .i64 v_3,.int .i64 v_4,.int .i64 v_5,.int .i64 v_6,.int .i64 v_7]),(3,.vs []),(4,.fl l33)],5⟩
def jU(v_0:Lv)(v_1:Lv)(v_2:List Nat)(v_3:Int)(v_4:Int)(v_5:Int)(v_6:Int)(v_7:Int) :Nat×Nat×(List Nat)→aC:=fun (a48,a49,l50)=>⟨ah 27 [],[(0,.vs [.int .i64 (0:Int),.int .i64 (0:Int),.nsl]),(1,.vs [.int .i64 v_3,.int .i64 v_4,.sl 4 1 1 0 a48 a49]),(2,.vs [.iptr v_0 (.vs [.imm v_1 (.fl v_2) 1 1 0 (List.length v_2)]) 1 0 0,.int .i64 v_3,.int .i64 v_4,.int .i64 v_5,.int .i64 v_6,.int .i64 v_7]),(3,.vs []),(4,.fl l50)],5⟩
noncomputable def pn:List Code:=dp (fF ((((zg.drop 1).take 1)).headD .skip))
def zi(v_0:Lv)(v_1:Lv)(v_2:List Nat)(v_3:Int)(v_4:Int)(v_5:Int)(v_6:Int)(v_7:Int)(a30:Nat)(a31:Nat)(a32:Nat)(l33:List Nat)(_:Unit) :aC:=⟨ah 27 [(0,.yld 3),(1,.ptr 2 1 0 0),(6,.int .i64 v_3),(7,.int .i64 ((a30:Nat):Int))],[(0,.vs [.int .i64 (0:Int),.int .i64 (0:Int),.nsl]),(1,.vs [.int .i64 v_3,.int .i64 v_4,.sl 4 1 1 0 a31 a32]),(2,.vs [.iptr v_0 (.vs [.imm v_1 (.fl v_2) 1 1 0 (List.length v_2)]) 1 0 0,.int .i64 v_3,.int .i64 v_4,.int .i64 v_5,.int .i64 v_6,.int .i64 v_7]),(3,.vs []),(4,.fl l33)],5⟩
def zj(v_3:Int)(a30:Nat)(a31:Nat)(a32:Nat)(l33:List Nat) :T ((Unit)⊕((Nat×Nat×(List Nat))⊕(Empty))) :=
  .ask (decide (((a30:Nat):Int)<v_3))
    (.leaf (.inl ()))
    (.leaf (.inr (.inl (a31,a32,l33))))
def jV(v_0:Lv)(v_1:Lv)(v_2:List Nat)(v_3:Int)(v_4:Int)(v_5:Int)(v_6:Int)(v_7:Int)(a30:Nat) :Nat×Nat×(List Nat)→aC:=fun (a45,a46,l47)=>⟨ah 27 [(0,.yld 3),(1,.ptr 2 1 0 0),(6,.int .i64 v_3),(7,.int .i64 ((a30:Nat):Int))],[(0,.vs [.int .i64 (0:Int),.int .i64 (0:Int),.nsl]),(1,.vs [.int .i64 v_3,.int .i64 v_4,.sl 4 1 1 0 a45 a46]),(2,.vs [.iptr v_0 (.vs [.imm v_1 (.fl v_2) 1 1 0 (List.length v_2)]) 1 0 0,.int .i64 v_3,.int .i64 v_4,.int .i64 v_5,.int .i64 v_6,.int .i64 v_7]),(3,.vs []),(4,.fl l47)],5⟩
noncomputable def zk:List Code:=dp (inBlock ((((pn.drop 2).take 1)).headD .skip))
def zl(v_0:Lv)(v_1:Lv)(v_2:List Nat)(v_3:Int)(v_4:Int)(v_5:Int)(v_6:Int)(v_7:Int)(a30:Nat)(a31:Nat)(a32:Nat)(l33:List Nat)(_:Unit) :aC:=⟨ah 27 [(0,.yld 3),(1,.ptr 2 1 0 0),(3,.int .i64 ((a30:Nat):Int)),(6,.int .i64 v_3),(7,.int .i64 ((a30:Nat):Int)),(11,.int .i64 v_4),(12,.int .i64 (0:Int))],[(0,.vs [.int .i64 (0:Int),.int .i64 (0:Int),.nsl]),(1,.vs [.int .i64 v_3,.int .i64 v_4,.sl 4 1 1 0 a31 a32]),(2,.vs [.iptr v_0 (.vs [.imm v_1 (.fl v_2) 1 1 0 (List.length v_2)]) 1 0 0,.int .i64 v_3,.int .i64 v_4,.int .i64 v_5,.int .i64 v_6,.int .i64 v_7]),(3,.vs []),(4,.fl l33)],5⟩
def zm:T ((Unit)⊕((Nat×Nat×(List Nat))⊕((Nat×Nat×(List Nat))⊕(Empty)))) :=
  .leaf (.inl ())
def hH(v_0:Lv)(v_1:Lv)(v_2:List Nat)(v_3:Int)(v_4:Int)(v_5:Int)(v_6:Int)(v_7:Int)(a30:Nat) :Nat×Nat×Nat×(List Nat)→aC:=fun (a36,a37,a38,l39)=>⟨ah 27 [(0,.yld 3),(1,.ptr 2 1 0 0),(3,.int .i64 ((a30:Nat):Int)),(6,.int .i64 v_3),(7,.int .i64 ((a30:Nat):Int)),(11,.int .i64 v_4),(12,.int .i64 ((a36:Nat):Int))],[(0,.vs [.int .i64 (0:Int),.int .i64 (0:Int),.nsl]),(1,.vs [.int .i64 v_3,.int .i64 v_4,.sl 4 1 1 0 a37 a38]),(2,.vs [.iptr v_0 (.vs [.imm v_1 (.fl v_2) 1 1 0 (List.length v_2)]) 1 0 0,.int .i64 v_3,.int .i64 v_4,.int .i64 v_5,.int .i64 v_6,.int .i64 v_7]),(3,.vs []),(4,.fl l39)],5⟩
def po(v_0:Lv)(v_1:Lv)(v_2:List Nat)(v_3:Int)(v_4:Int)(v_5:Int)(v_6:Int)(v_7:Int)(a30:Nat) :Nat×Nat×(List Nat)→aC:=fun (a42,a43,l44)=>⟨ah 27 [(0,.yld 3),(1,.ptr 2 1 0 0),(6,.int .i64 v_3),(7,.int .i64 ((a30:Nat):Int))],[(0,.vs [.int .i64 (0:Int),.int .i64 (0:Int),.nsl]),(1,.vs [.int .i64 v_3,.int .i64 v_4,.sl 4 1 1 0 a42 a43]),(2,.vs [.iptr v_0 (.vs [.imm v_1 (.fl v_2) 1 1 0 (List.length v_2)]) 1 0 0,.int .i64 v_3,.int .i64 v_4,.int .i64 v_5,.int .i64 v_6,.int .i64 v_7]),(3,.vs []),(4,.fl l44)],5⟩
noncomputable def zo:List Code:=dp (fF ((((zk.drop 2).take 1)).headD .skip))
def zp(v_0:Lv)(v_1:Lv)(v_2:List Nat)(v_3:Int)(v_4:Int)(v_5:Int)(v_6:Int)(v_7:Int)(a30:Nat)(a36:Nat) :Nat×(List Nat)→aC:=fun (a40,l41)=>⟨ah 27 [(0,.yld 3),(1,.ptr 2 1 0 0),(3,.int .i64 ((a30:Nat):Int)),(6,.int .i64 v_3),(7,.int .i64 ((a30:Nat):Int)),(11,.int .i64 v_4),(12,.int .i64 ((a36:Nat):Int))],[(0,.vs [.int .i64 (0:Int),.int .i64 (0:Int),.nsl]),(1,.vs [.int .i64 v_3,.int .i64 v_4,.sl 4 1 1 0 a40 a40]),(2,.vs [.iptr v_0 (.vs [.imm v_1 (.fl v_2) 1 1 0 (List.length v_2)]) 1 0 0,.int .i64 v_3,.int .i64 v_4,.int .i64 v_5,.int .i64 v_6,.int .i64 v_7]),(3,.vs []),(4,.fl l41)],5⟩
def jW(v_2:List Nat)(v_3:Int)(v_4:Int)(v_5:Int)(v_6:Int)(v_7:Int)(a30:Nat)(a36:Nat)(a37:Nat)(a38:Nat)(l39:List Nat) :T ((Nat×(List Nat))⊕((Nat×Nat×(List Nat))⊕((Nat×Nat×(List Nat))⊕((Nat×Nat×(List Nat))⊕(Empty))))) :=
  .ask (decide (((a36:Nat):Int)<v_4))
    (.need (bm 0 (List.length v_2) v_2)<|.need (bd (ap v_3 v_4 ((a30:Nat):Int) ((a36:Nat):Int)))<|.ask (!(aX (ap v_3 v_4 ((a30:Nat):Int) ((a36:Nat):Int))))
      (.fail)
      (.need (cI .i64 (((a30:Nat):Int)*v_6))<|.need (cI .i64 (v_5+(((a30:Nat):Int)*v_6)))<|.need (cI .i64 (((a36:Nat):Int)*v_7))<|.need (cI .i64 ((v_5+(((a30:Nat):Int)*v_6))+(((a36:Nat):Int)*v_7)))<|.need (fO ((v_5+(((a30:Nat):Int)*v_6))+(((a36:Nat):Int)*v_7)) (List.length v_2))<|.need (fD (Int.toNat ((v_5+(((a30:Nat):Int)*v_6))+(((a36:Nat):Int)*v_7))) (List.length v_2))<|.need (mt ((a37+1)*8) 140737488355328)<|.need (mt (a37+1) 9223372036854775807)<|.need (mt 1 1)<|.need (mt a37 (List.length l39))<|.leaf (.inl ((a37+1),((List.take a37 l39)++(List.take 1 [(List.getD v_2 (Int.toNat ((v_5+(((a30:Nat):Int)*v_6))+(((a36:Nat):Int)*v_7))) 0)]))))))
    (.leaf (.inr (.inl (a37,a38,l39))))
def zq(a36:Nat)(a40:Nat)(l41:List Nat) :T ((Nat×Nat×Nat×(List Nat))⊕((Nat×Nat×(List Nat))⊕((Nat×Nat×(List Nat))⊕((Nat×Nat×(List Nat))⊕(Empty))))) :=
  .need (cI .i64 (((a36+1):Nat):Int))<|.leaf (.inl ((a36+1),a40,a40,l41))
noncomputable def jX(v_2:List Nat)(v_3:Int)(v_4:Int)(v_5:Int)(v_6:Int)(v_7:Int)(a30:Nat) :Nat×Nat×Nat×(List Nat)→Option ((Nat×Nat×Nat×(List Nat))⊕((Nat×Nat×(List Nat))⊕((Nat×Nat×(List Nat))⊕((Nat×Nat×(List Nat))⊕(Empty))))):=fun (a36,a37,a38,l39) =>
  aL ((jW v_2 v_3 v_4 v_5 v_6 v_7 a30 a36 a37 a38 l39).run) fun (a40,l41) =>
  (zq a36 a40 l41).run
theorem zr(v_0:Lv)(v_1:Lv)(v_2:List Nat)(v_3:Int)(v_4:Int)(v_5:Int)(v_6:Int)(v_7:Int)(a30:Nat)(a36:Nat)(a37:Nat)(a38:Nat)(l39:List Nat) :sX prog (jT v_0 v_1 v_2 v_3 v_4 v_5 v_6 v_7) 4 zo (hH v_0 v_1 v_2 v_3 v_4 v_5 v_6 v_7 a30 (a36,a37,a38,l39)) (jX v_2 v_3 v_4 v_5 v_6 v_7 a30 (a36,a37,a38,l39)) (hH v_0 v_1 v_2 v_3 v_4 v_5 v_6 v_7 a30) (du 2 (po v_0 v_1 v_2 v_3 v_4 v_5 v_6 v_7 a30) (du 1 (jV v_0 v_1 v_2 v_3 v_4 v_5 v_6 v_7 a30) (du 0 (jU v_0 v_1 v_2 v_3 v_4 v_5 v_6 v_7) noX))):=by
  unfold jX;exact sX.cut 3 (bi (bi (bi jq))) (CQ bG (zp v_0 v_1 v_2 v_3 v_4 v_5 v_6 v_7 a30 a36) [⟨[],[0,1,2,3,293],[0,1,3,6,7,11,12]⟩,⟨[],[0,1,2,3,4],[0,1,6,7]⟩]) (fun ⟨a40,l41⟩=>CQ bG (hH v_0 v_1 v_2 v_3 v_4 v_5 v_6 v_7 a30) [⟨[],[0,1,2,3,4],[0,1,3,6,7,11,12]⟩])
def zt(a42:Nat)(a43:Nat)(l44:List Nat) :T ((Nat×Nat×(List Nat))⊕((Nat×Nat×(List Nat))⊕((Nat×Nat×(List Nat))⊕(Empty)))) :=
  .leaf (.inl (a42,a43,l44))
def zu(a30:Nat)(a45:Nat)(a46:Nat)(l47:List Nat) :T ((Nat×Nat×Nat×(List Nat))⊕((Nat×Nat×(List Nat))⊕(Empty))) :=
  .need (cI .i64 (((a30+1):Nat):Int))<|.leaf (.inl ((a30+1),a45,a46,l47))
noncomputable def jY(v_2:List Nat)(v_3:Int)(v_4:Int)(v_5:Int)(v_6:Int)(v_7:Int) :Nat×Nat×Nat×(List Nat)→Option ((Nat×Nat×Nat×(List Nat))⊕((Nat×Nat×(List Nat))⊕(Empty))):=fun (a30,a31,a32,l33) =>
  aL ((zj v_3 a30 a31 a32 l33).run) fun _ =>
  aL (wQ (aL ((zm).run) fun _ =>
  aL (dJ (jX v_2 v_3 v_4 v_5 v_6 v_7 a30) (0,a31,a32,l33)) fun (a42,a43,l44) =>
  (zt a42 a43 l44).run)) fun (a45,a46,l47) =>
  (zu a30 a45 a46 l47).run
theorem zw(v_0:Lv)(v_1:Lv)(v_2:List Nat)(v_3:Int)(v_4:Int)(v_5:Int)(v_6:Int)(v_7:Int)(a30:Nat)(a31:Nat)(a32:Nat)(l33:List Nat) :sX prog (jT v_0 v_1 v_2 v_3 v_4 v_5 v_6 v_7) 4 pn (gZ v_0 v_1 v_2 v_3 v_4 v_5 v_6 v_7 (a30,a31,a32,l33)) (jY v_2 v_3 v_4 v_5 v_6 v_7 (a30,a31,a32,l33)) (gZ v_0 v_1 v_2 v_3 v_4 v_5 v_6 v_7) (du 0 (jU v_0 v_1 v_2 v_3 v_4 v_5 v_6 v_7) noX):=by
  unfold jY;exact sX.cut 2 (bi jq) (CQ bG (zi v_0 v_1 v_2 v_3 v_4 v_5 v_6 v_7 a30 a31 a32 l33) [⟨[],[0,1,2,3,4],[0,1,6,7]⟩,⟨[],[0,1,2,3,4],[]⟩]) (fun _=>sX.cut 1 (bi jq) (aid (jV v_0 v_1 v_2 v_3 v_4 v_5 v_6 v_7 a30) 1 (bi jq) (lX (by decide) (H6 _)) (sX.cut 2 (bi (bi jq)) (CQ bG (zl v_0 v_1 v_2 v_3 v_4 v_5 v_6 v_7 a30 a31 a32 l33) [⟨[],[0,1,2,3,4],[0,1,3,6,7,11,12]⟩]) (fun _=>sX.cut 1 (bi (bi jq)) (agf ⟨[],[0,1,2,3,4],[0,1,3,6,7,11,12]⟩ (hH v_0 v_1 v_2 v_3 v_4 v_5 v_6 v_7 a30) (po v_0 v_1 v_2 v_3 v_4 v_5 v_6 v_7 a30) 2 (bi (bi jq)) (lX (by decide) (lX (by decide) (H6 _))) (fun ⟨a36,a37,a38,l39⟩=>zr v_0 v_1 v_2 v_3 v_4 v_5 v_6 v_7 a30 a36 a37 a38 l39)) (fun ⟨a42,a43,l44⟩=>CQ bG (jV v_0 v_1 v_2 v_3 v_4 v_5 v_6 v_7 a30) [⟨[],[0,1,2,3,4],[0,1,6,7]⟩])))) (fun ⟨a45,a46,l47⟩=>CQ bG (gZ v_0 v_1 v_2 v_3 v_4 v_5 v_6 v_7) [⟨[],[0,1,2,3,4],[0,1,6,7]⟩]))
def zx(a48:Nat)(a49:Nat)(l50:List Nat) :T ((Nat×Nat×(List Nat))⊕(Empty)) :=
  .leaf (.inl (a48,a49,l50))
def zy(v_3:Int)(v_4:Int)(a54:Nat)(a55:Nat)(l56:List Nat) :T ((Empty)⊕(bu)) :=
  .leaf (.inr (.r0 v_3 v_4 a54 a55 l56))
noncomputable def ax(v_2:List Nat)(v_3:Int)(v_4:Int)(v_5:Int)(v_6:Int)(v_7:Int) :Option bu:=mU (aL ((ze).run) fun _ =>
  aL (wQ (Option.map ((Sum.elim (fun (a51,a52,l53)=>.inl (a51,a52,l53)) (fun a:Empty=>a.elim)):(Nat×Nat×(List Nat))⊕(Empty)→(Nat×Nat×(List Nat))⊕((Nat×Nat×(List Nat))⊕(bu))) (aL ((zh).run) fun _ =>
  aL (dJ (jY v_2 v_3 v_4 v_5 v_6 v_7) (0,0,0,([]:List Nat))) fun (a48,a49,l50) =>
  (zx a48 a49 l50).run))) fun (a54,a55,l56) =>
  (zy v_3 v_4 a54 a55 l56).run)
theorem As(v_0:Lv)(v_1:Lv)(v_2:List Nat)(v_3:Int)(v_4:Int)(v_5:Int)(v_6:Int)(v_7:Int){x:bu}(h:ax v_2 v_3 v_4 v_5 v_6 v_7=some x) :ag prog lg [] [.agg [.iptr v_0 (.vs [.imm v_1 (.fl v_2) 1 1 0 (List.length v_2)]) 1 0 0,.int .i64 v_3,.int .i64 v_4,.int .i64 v_5,.int .i64 v_6,.int .i64 v_7]] (lO x) :=
  ol false lO lN h (Sg.cut 3 kL (bZ bG (pW v_0 v_1 v_2 v_3 v_4 v_5 v_6 v_7) [⟨[],[16,112,160],[2,3,12]⟩]) (fun _=>Sg.cut 1 kL (sgb (pk v_3 v_4) 0 kL (Aq _) (sgr (jT v_0 v_1 v_2 v_3 v_4 v_5 v_6 v_7) 4 fv [] [.ptr 2 1 0 0] (pm v_0 v_1 v_2 v_3 v_4 v_5 v_6 v_7) noX (pk v_3 v_4) (Sum.elim (fun _=>⟨[],[0,1,4],[2,3]⟩) (fun a=>a.elim)) ((Sum.elim (fun (a51,a52,l53)=>.inl (a51,a52,l53)) (fun a:Empty=>a.elim)):(Nat×Nat×(List Nat))⊕(Empty)→(Nat×Nat×(List Nat))⊕((Nat×Nat×(List Nat))⊕(bu))) (sX.cut 1 jq (CQ bG (Ar v_0 v_1 v_2 v_3 v_4 v_5 v_6 v_7) [⟨[],[0,1,2,3],[0,1,6,7]⟩]) (fun _=>sX.cut 1 jq (agf ⟨[(.cell 1 2,.own 1 1 (.fl ([]:List Nat)))],[0,1,2,3,4],[0,1,6,7]⟩ (gZ v_0 v_1 v_2 v_3 v_4 v_5 v_6 v_7) (jU v_0 v_1 v_2 v_3 v_4 v_5 v_6 v_7) 0 jq (H6 _) (fun ⟨a30,a31,a32,l33⟩=>zw v_0 v_1 v_2 v_3 v_4 v_5 v_6 v_7 a30 a31 a32 l33)) (fun ⟨a48,a49,l50⟩=>CQ bG (pm v_0 v_1 v_2 v_3 v_4 v_5 v_6 v_7) [⟨[],[0,1,2,3,4],[]⟩]))) (fun | .inl ⟨a51,a52,l53⟩=>by exact rfl | .inr a=>a.elim) (fun | .inl ⟨a51,a52,l53⟩=>by kernel_rfl | .inr a=>a.elim))) (fun ⟨a54,a55,l56⟩=>bZ bG mF [⟨[],[0,2],[2]⟩])))
    (fun x=>by cases x with | r0 i57 i58 a59 a60 l61=>exact mw [.agg [.int .i64 i57,.int .i64 i58,.sl 1 1 1 0 a59 a60]])
def fJ:Option bu→Bool
  | some _=>true
  | none=>false
def cG:Option bu→Int
  | some (.r0 x _ _ _ _)=>x
  | _=>0
def cH:Option bu→Int
  | some (.r0 _ x _ _ _)=>x
  | _=>0
def cg:Option bu→Nat
  | some (.r0 _ _ x _ _)=>x
  | _=>0
def jy:Option bu→Nat
  | some (.r0 _ _ _ x _)=>x
  | _=>0
def ch:Option bu→List Nat
  | some (.r0 _ _ _ _ x)=>x
  | _=>[]
theorem Au{x:Option bu}(h:fJ x=true) :x=some (.r0 (cG x) (cH x) (cg x) (jy x) (ch x)):=by
  unfold fJ at h
  split at h<;>first | rfl | (cases h;done) | (rename_i y;cases y;rfl)
noncomputable def rR:aA:=cO lg (.cons (.agg (.cons (.ivs (.cons .fl .nil) 1 0 0) (.cons (.int .i64) (.cons (.int .i64) (.cons (.int .i64) (.cons (.int .i64) (.cons (.int .i64) .nil))))))) .nil) fun t=>(fun q=>[⟨lO (.r0 (cG q) (cH q) (cg q) (jy q) (ch q)),[fJ q]⟩]) (ax t.1.1.2.1.2 t.1.2.1 t.1.2.2.1 t.1.2.2.2.1 t.1.2.2.2.2.1 t.1.2.2.2.2.2.1)
theorem xd:aN prog rR:=bc fun t=>(aY (fun h=>As t.1.1.1 t.1.1.2.1.1 t.1.1.2.1.2 t.1.2.1 t.1.2.2.1 t.1.2.2.2.1 t.1.2.2.2.2.1 t.1.2.2.2.2.2.1 (Au h)) bv)
noncomputable def rS:List aA:=rR::rQ
theorem jz:aH prog (aG rS):=au xd bG
inductive cm where
  | r0 (i5:Int) (i6:Int) (a7:Nat) (l8:List Nat)
def ue:cm→AE×aC
  | .r0 i5 i6 a7 l8=>(.ret,⟨ah 16 [(2,.ptr 0 1 0 0)],[(0,.vs [.ptr 1 1 0 0,.int .i64 i5,.int .i64 i6,.int .i64 (0:Int),.int .i64 i6,.int .i64 (1:Int)]),(1,.vs [.sl 2 1 1 0 a7 a7]),(2,.fl l8)],3⟩)
theorem CV:kE ue:=by intro x;cases x<;>(intro h;cases h)
def nO:cm→ir
  | .r0 i5 i6 a7 l8=>⟨.agg [.ptr 0 1 0 0,.int .i64 i5,.int .i64 i6,.int .i64 (0:Int),.int .i64 i6,.int .i64 (1:Int)],[some (.vs [.sl 1 1 1 0 a7 a7]),some (.fl l8)]⟩
def CW:Int×Int×Nat×(List Nat)→aC:=fun (i1,i2,a3,l4)=>⟨ah 16 [(2,.ptr 0 1 0 0),(3,.ptr 1 1 0 0)],[(0,.vs [.nptr,.int .i64 (0:Int),.int .i64 (0:Int),.int .i64 (0:Int),.int .i64 (0:Int),.int .i64 (0:Int)]),(1,.vs [.ptr 2 1 0 0,.int .i64 i1,.int .i64 i2,.int .i64 (0:Int),.int .i64 i2,.int .i64 (1:Int)]),(2,.vs [.sl 3 1 1 0 a3 a3]),(3,.fl l4)],4⟩
def sF(v_2:List Nat)(v_3:Int)(v_4:Int)(v_5:Int)(v_6:Int)(v_7:Int) :T ((Int×Int×Nat×(List Nat))⊕(cm)) :=
  .need (bm 0 (List.length v_2) v_2)<|.need (fJ (ax (ab 0 (List.length v_2) v_2) v_3 v_4 v_5 v_6 v_7))<|.alt 1
    (.need (bm 0 (cg (ax (ab 0 (List.length v_2) v_2) v_3 v_4 v_5 v_6 v_7)) (ch (ax (ab 0 (List.length v_2) v_2) v_3 v_4 v_5 v_6 v_7)))<|.need (jN (bS (cG (ax (ab 0 (List.length v_2) v_2) v_3 v_4 v_5 v_6 v_7)) (cH (ax (ab 0 (List.length v_2) v_2) v_3 v_4 v_5 v_6 v_7)) (ab 0 (cg (ax (ab 0 (List.length v_2) v_2) v_3 v_4 v_5 v_6 v_7)) (ch (ax (ab 0 (List.length v_2) v_2) v_3 v_4 v_5 v_6 v_7)))))<|.leaf (.inl ((jO (bS (cG (ax (ab 0 (List.length v_2) v_2) v_3 v_4 v_5 v_6 v_7)) (cH (ax (ab 0 (List.length v_2) v_2) v_3 v_4 v_5 v_6 v_7)) (ab 0 (cg (ax (ab 0 (List.length v_2) v_2) v_3 v_4 v_5 v_6 v_7)) (ch (ax (ab 0 (List.length v_2) v_2) v_3 v_4 v_5 v_6 v_7))))),(jP (bS (cG (ax (ab 0 (List.length v_2) v_2) v_3 v_4 v_5 v_6 v_7)) (cH (ax (ab 0 (List.length v_2) v_2) v_3 v_4 v_5 v_6 v_7)) (ab 0 (cg (ax (ab 0 (List.length v_2) v_2) v_3 v_4 v_5 v_6 v_7)) (ch (ax (ab 0 (List.length v_2) v_2) v_3 v_4 v_5 v_6 v_7))))),(jQ (bS (cG (ax (ab 0 (List.length v_2) v_2) v_3 v_4 v_5 v_6 v_7)) (cH (ax (ab 0 (List.length v_2) v_2) v_3 v_4 v_5 v_6 v_7)) (ab 0 (cg (ax (ab 0 (List.length v_2) v_2) v_3 v_4 v_5 v_6 v_7)) (ch (ax (ab 0 (List.length v_2) v_2) v_3 v_4 v_5 v_6 v_7))))),(jR (bS (cG (ax (ab 0 (List.length v_2) v_2) v_3 v_4 v_5 v_6 v_7)) (cH (ax (ab 0 (List.length v_2) v_2) v_3 v_4 v_5 v_6 v_7)) (ab 0 (cg (ax (ab 0 (List.length v_2) v_2) v_3 v_4 v_5 v_6 v_7)) (ch (ax (ab 0 (List.length v_2) v_2) v_3 v_4 v_5 v_6 v_7))))))))
    (.fail)
def CX(i1:Int)(i2:Int)(a3:Nat)(l4:List Nat) :T ((Empty)⊕(cm)) :=
  .leaf (.inr (.r0 i1 i2 a3 l4))
noncomputable def ba(v_2:List Nat)(v_3:Int)(v_4:Int)(v_5:Int)(v_6:Int)(v_7:Int) :Option cm:=mU (aL ((sF v_2 v_3 v_4 v_5 v_6 v_7).run) fun (i1,i2,a3,l4) =>
  (CX i1 i2 a3 l4).run)
theorem CY(v_0:Lv)(v_1:Lv)(v_2:List Nat)(v_3:Int)(v_4:Int)(v_5:Int)(v_6:Int)(v_7:Int){x:cm}(h:ba v_2 v_3 v_4 v_5 v_6 v_7=some x) :ag prog tF [] [.agg [.iptr v_0 (.vs [.imm v_1 (.fl v_2) 1 1 0 (List.length v_2)]) 1 0 0,.int .i64 v_3,.int .i64 v_4,.int .i64 v_5,.int .i64 v_6,.int .i64 v_7]] (nO x) :=
  ol false nO ue h (Sg.cut 4 CV (bZ jz CW [⟨[],[16,176,112,113],[2,3]⟩]) (fun ⟨i1,i2,a3,l4⟩=>bZ jz mF [⟨[],[0,2,3],[2]⟩]))
    (fun x=>by cases x with | r0 i5 i6 a7 l8=>exact mw [.agg [.ptr 1 1 0 0,.int .i64 i5,.int .i64 i6,.int .i64 (0:Int),.int .i64 i6,.int .i64 (1:Int)]])
def fB:Option cm→Bool
  | some _=>true
  | none=>false
def fK:Option cm→Int
  | some (.r0 x _ _ _)=>x
  | _=>0
def fL:Option cm→Int
  | some (.r0 _ x _ _)=>x
  | _=>0
def fM:Option cm→Nat
  | some (.r0 _ _ x _)=>x
  | _=>0
def fN:Option cm→List Nat
  | some (.r0 _ _ _ x)=>x
  | _=>[]
theorem CZ{x:Option cm}(h:fB x=true) :x=some (.r0 (fK x) (fL x) (fM x) (fN x)):=by
  unfold fB at h
  split at h<;>first | rfl | (cases h;done) | (rename_i y;cases y;rfl)
noncomputable def uf:aA:=cO tF (.cons (.agg (.cons (.ivs (.cons .fl .nil) 1 0 0) (.cons (.int .i64) (.cons (.int .i64) (.cons (.int .i64) (.cons (.int .i64) (.cons (.int .i64) .nil))))))) .nil) fun t=>(fun q=>[⟨nO (.r0 (fK q) (fL q) (fM q) (fN q)),[fB q]⟩]) (ba t.1.1.2.1.2 t.1.2.1 t.1.2.2.1 t.1.2.2.2.1 t.1.2.2.2.2.1 t.1.2.2.2.2.2.1)
theorem Av:aN prog uf:=bc fun t=>(aY (fun h=>CY t.1.1.1 t.1.1.2.1.1 t.1.1.2.1.2 t.1.2.1 t.1.2.2.1 t.1.2.2.2.1 t.1.2.2.2.2.1 t.1.2.2.2.2.2.1 (CZ h)) bv)
noncomputable def ug:List aA:=uf::rS
theorem kM:aH prog (aG ug):=au Av jz
inductive cN where
  | r0 (b2:Bool)
def rT:cN→AE×aC
  | .r0 b2=>(.ret,⟨ah 26 [(2,.bool false b2)],[],0⟩)
theorem Aw:kE rT:=by intro x;cases x<;>(intro h;cases h)
def lP:cN→ir
  | .r0 b2=>⟨.bool false b2,[]⟩
def Ax(b1:Bool) :aC:=⟨ah 26 [(2,.bool false b1)],[],0⟩
def pX(v_3:Int)(v_4:Int) :T ((Bool)⊕(cN)) :=
  .ask (v_3==(1:Int))
    (.leaf (.inl true))
    (.ask (v_4==(1:Int))
      (.leaf (.inl true))
      (.ask (v_3==(0:Int))
        (.leaf (.inl (v_4==(0:Int))))
        (.leaf (.inl false))))
def Ay(b1:Bool) :T ((Empty)⊕(cN)) :=
  .leaf (.inr (.r0 b1))
noncomputable def aT(v_3:Int)(v_4:Int) :Option cN:=mU (aL ((pX v_3 v_4).run) fun b1 =>
  (Ay b1).run)
theorem Az(v_0:Lv)(v_1:Lv)(v_2:List Nat)(v_3:Int)(v_4:Int)(v_5:Int)(v_6:Int)(v_7:Int){x:cN}(h:aT v_3 v_4=some x) :ag prog rA [] [.agg [.iptr v_0 (.vs [.imm v_1 (.fl v_2) 1 1 0 (List.length v_2)]) 1 0 0,.int .i64 v_3,.int .i64 v_4,.int .i64 v_5,.int .i64 v_6,.int .i64 v_7]] (lP x) :=
  ol false lP rT h (Sg.cut 2 Aw (bZ kM Ax [⟨[],[],[2]⟩,⟨[],[],[2]⟩,⟨[],[],[2]⟩,⟨[],[],[2]⟩]) (fun b1=>bZ kM mF [⟨[],[],[2]⟩]))
    (fun x=>by cases x with | r0 b2=>exact mw [.bool false b2])
def ck:Option cN→Bool
  | some _=>true
  | none=>false
def cj:Option cN→Bool
  | some (.r0 x)=>x
  | _=>false
theorem AA{x:Option cN}(h:ck x=true) :x=some (.r0 (cj x)):=by
  unfold ck at h
  split at h<;>first | rfl | (cases h;done) | (rename_i y;cases y;rfl)
noncomputable def rU:aA:=cO rA (.cons (.agg (.cons (.ivs (.cons .fl .nil) 1 0 0) (.cons (.int .i64) (.cons (.int .i64) (.cons (.int .i64) (.cons (.int .i64) (.cons (.int .i64) .nil))))))) .nil) fun t=>(fun q=>[⟨lP (.r0 (cj q)),[ck q]⟩]) (aT t.1.2.1 t.1.2.2.1)
theorem xe:aN prog rU:=bc fun t=>(aY (fun h=>Az t.1.1.1 t.1.1.2.1.1 t.1.1.2.1.2 t.1.2.1 t.1.2.2.1 t.1.2.2.2.1 t.1.2.2.2.2.1 t.1.2.2.2.2.2.1 (AA h)) bv)
noncomputable def rV:List aA:=rU::ug
theorem eV:aH prog (aG rV):=au xe kM
inductive bW where
  | r0 (a5:Nat) (a6:Nat) (a7:Nat) (l8:List Nat)
def vl:bW→AE×aC
  | .r0 a5 a6 a7 l8=>(.ret,⟨ah 28 [(6,.int .i64 ((a5:Nat):Int))],[(0,.vs [.sl 1 1 1 0 a6 a7]),(1,.fl l8)],2⟩)
theorem nP:kE vl:=by intro x;cases x<;>(intro h;cases h)
def pq:bW→ir
  | .r0 a5 a6 a7 l8=>⟨.int .i64 ((a5:Nat):Int),[some (.vs [.sl 1 1 1 0 a6 a7]),some (.fl l8)]⟩
def E6(n_0:Nat)(c_1:Nat)(l_2:List Nat)(v_3:Int)(v_4:Int)(v_5:Int)(v_6:Int)(v_7:Int)(i_8:Int)(x_9:Nat)(b1:Bool) :aC:=⟨ah 28 [(1,.int .i64 i_8),(2,.flt false x_9),(3,.ptr 2 1 0 0),(16,.bool false b1)],[(0,.vs [.sl 1 1 1 0 n_0 c_1]),(1,.fl l_2),(2,.vs [.ptr 0 1 0 0,.int .i64 v_3,.int .i64 v_4,.int .i64 v_5,.int .i64 v_6,.int .i64 v_7])],3⟩
def uh(n_0:Nat)(l_2:List Nat)(v_3:Int)(v_4:Int) :T ((Bool)⊕(bW)) :=
  .need (bm 0 n_0 l_2)<|.need (ck (aT v_3 v_4))<|.leaf (.inl (!(cj (aT v_3 v_4))))
def E7(n_0:Nat)(c_1:Nat)(l_2:List Nat)(v_3:Int)(v_4:Int)(v_5:Int)(v_6:Int)(v_7:Int)(x_9:Nat) :Int×Int→aC:=fun (r2,c3)=>⟨ah 28 [(2,.flt false x_9),(3,.ptr 2 1 0 0),(7,.int .i64 r2),(8,.int .i64 c3)],[(0,.vs [.sl 1 1 1 0 n_0 c_1]),(1,.fl l_2),(2,.vs [.ptr 0 1 0 0,.int .i64 v_3,.int .i64 v_4,.int .i64 v_5,.int .i64 v_6,.int .i64 v_7])],3⟩
def E8(n_0:Nat)(c_1:Nat)(l_2:List Nat)(v_3:Int)(i_8:Int)(b1:Bool) :T ((Int×Int)⊕(bW)) :=
  .ask b1
    (.leaf (.inr (.r0 8 n_0 c_1 l_2)))
    (.ask (v_3==(1:Int))
      (.leaf (.inl ((0:Int),i_8)))
      (.leaf (.inl (i_8,(0:Int)))))
def E9(n_0:Nat)(c_1:Nat)(l4:(List Nat)) :aC:=⟨ah 28 [(6,.int .i64 (0:Int))],[(0,.vs [.sl 1 1 1 0 n_0 c_1]),(1,.fl l4)],2⟩
def iB(n_0:Nat)(l_2:List Nat)(v_3:Int)(v_4:Int)(v_5:Int)(v_6:Int)(v_7:Int)(x_9:Nat)(r2:Int)(c3:Int) :T (((List Nat))⊕(bW)) :=
  .need (bm 0 n_0 l_2)<|.need (bd (ap v_3 v_4 r2 c3))<|.ask (!(aX (ap v_3 v_4 r2 c3)))
    (.fail)
    (.need (cI .i64 (r2*v_6))<|.need (cI .i64 (v_5+(r2*v_6)))<|.need (cI .i64 (c3*v_7))<|.need (cI .i64 ((v_5+(r2*v_6))+(c3*v_7)))<|.need (fO ((v_5+(r2*v_6))+(c3*v_7)) n_0)<|.need (fD (Int.toNat ((v_5+(r2*v_6))+(c3*v_7))) (List.length l_2))<|.leaf (.inl (List.set l_2 (Int.toNat ((v_5+(r2*v_6))+(c3*v_7))) x_9)))
def Fa(n_0:Nat)(c_1:Nat)(l4:List Nat) :T ((Empty)⊕(bW)) :=
  .leaf (.inr (.r0 0 n_0 c_1 l4))
noncomputable def bC(n_0:Nat)(c_1:Nat)(l_2:List Nat)(v_3:Int)(v_4:Int)(v_5:Int)(v_6:Int)(v_7:Int)(i_8:Int)(x_9:Nat) :Option bW:=mU (aL ((uh n_0 l_2 v_3 v_4).run) fun b1 =>
  aL ((E8 n_0 c_1 l_2 v_3 i_8 b1).run) fun (r2,c3) =>
  aL ((iB n_0 l_2 v_3 v_4 v_5 v_6 v_7 x_9 r2 c3).run) fun l4 =>
  (Fa n_0 c_1 l4).run)
theorem Fb(n_0:Nat)(c_1:Nat)(l_2:List Nat)(v_3:Int)(v_4:Int)(v_5:Int)(v_6:Int)(v_7:Int)(i_8:Int)(x_9:Nat){x:bW}(h:bC n_0 c_1 l_2 v_3 v_4 v_5 v_6 v_7 i_8 x_9=some x) :ag prog gG [.vs [.sl 1 1 1 0 n_0 c_1],.fl l_2] [.agg [.ptr 0 1 0 0,.int .i64 v_3,.int .i64 v_4,.int .i64 v_5,.int .i64 v_6,.int .i64 v_7],.int .i64 i_8,.flt false x_9] (pq x) :=
  ol false pq vl h (Sg.cut 2 nP (bZ eV (E6 n_0 c_1 l_2 v_3 v_4 v_5 v_6 v_7 i_8 x_9) [⟨[],[0,1,2],[1,2,3,16]⟩]) (fun b1=>Sg.cut 2 nP (bZ eV (E7 n_0 c_1 l_2 v_3 v_4 v_5 v_6 v_7 x_9) [⟨[],[0,1],[6]⟩,⟨[],[0,1,2],[2,3,7,8]⟩,⟨[],[0,1,2],[2,3,7,8]⟩]) (fun ⟨r2,c3⟩=>Sg.cut 1 nP (bZ eV (E9 n_0 c_1) [⟨[],[0,1],[6]⟩]) (fun l4=>bZ eV mF [⟨[],[0,1],[6]⟩]))))
    (fun x=>by cases x with | r0 a5 a6 a7 l8=>exact mw [.int .i64 ((a5:Nat):Int)])
def gh:Option bW→Bool
  | some _=>true
  | none=>false
def rW:Option bW→Nat
  | some (.r0 x _ _ _)=>x
  | _=>0
def gB:Option bW→Nat
  | some (.r0 _ x _ _)=>x
  | _=>0
def gC:Option bW→Nat
  | some (.r0 _ _ x _)=>x
  | _=>0
def gD:Option bW→List Nat
  | some (.r0 _ _ _ x)=>x
  | _=>[]
theorem Fc{x:Option bW}(h:gh x=true) :x=some (.r0 (rW x) (gB x) (gC x) (gD x)):=by
  unfold gh at h
  split at h<;>first | rfl | (cases h;done) | (rename_i y;cases y;rfl)
noncomputable def vm:aA:=Jn gG [.vs [.lsl0 1],.fl] (.cons (.agg (.cons (.lptr 0 1 0 0) (.cons (.int .i64) (.cons (.int .i64) (.cons (.int .i64) (.cons (.int .i64) (.cons (.int .i64) .nil))))))) (.cons (.int .i64) (.cons (.flt false) .nil))) fun x t=>(fun q=>[⟨pq (.r0 (rW q) (gB q) (gC q) (gD q)),[gh q]⟩]) (bC x.1.1.1 x.1.1.2 x.2.1 t.1.2.1 t.1.2.2.1 t.1.2.2.2.1 t.1.2.2.2.2.1 t.1.2.2.2.2.2.1 t.2.1 t.2.2.1)
theorem BN:aN prog vm:=wM fun x t=>(oc (fun h=>Fb x.1.1.1 x.1.1.2 x.2.1 t.1.2.1 t.1.2.2.1 t.1.2.2.2.1 t.1.2.2.2.2.1 t.1.2.2.2.2.2.1 t.2.1 t.2.2.1 (Fc h)) wN)
noncomputable def vn:List aA:=vm::rV
theorem gE:aH prog (aG vn):=au BN eV
inductive aw where
  | r0 (a6:Nat)
def bM:aw→AE×aC
  | .r0 a6=>(.ret,⟨ah 29 [(8,.flt false a6)],[],0⟩)
theorem bH:kE bM:=by intro x;cases x<;>(intro h;cases h)
theorem hJ(id:Nat) :mu id bM:=by intro x;cases x<;>(intro h;cases h)
def cu:aw→ir
  | .r0 a6=>⟨.flt false a6,[]⟩
noncomputable def hP:List Code:=dp (nD vP)
def ia(from_0:Int)(to_1:Int)(v_2:Lv)(v_3:Lv)(x_4:List Nat)(x_5:Int)(x_6:Int)(x_7:Int)(x_8:Int)(x_9:Int)(v_10:Lv)(v_11:Lv)(y_12:List Nat)(y_13:Int)(y_14:Int)(y_15:Int)(y_16:Int)(y_17:Int)(_:Unit) :aC:=⟨ah 29 [(1,.int .i64 to_1),(2,.fn (.func df) [.agg [.iptr v_2 (.vs [.imm v_3 (.fl x_4) 1 1 0 (List.length x_4)]) 1 0 0,.int .i64 x_5,.int .i64 x_6,.int .i64 x_7,.int .i64 x_8,.int .i64 x_9]] []),(3,.fn (.func df) [.agg [.iptr v_10 (.vs [.imm v_11 (.fl y_12) 1 1 0 (List.length y_12)]) 1 0 0,.int .i64 y_13,.int .i64 y_14,.int .i64 y_15,.int .i64 y_16,.int .i64 y_17]] []),(9,.flt false 0),(10,.int .i64 from_0)],[],0⟩
def ib:T ((Unit)⊕(aw)) :=
  .leaf (.inl ())
def bI(to_1:Int)(v_2:Lv)(v_3:Lv)(x_4:List Nat)(x_5:Int)(x_6:Int)(x_7:Int)(x_8:Int)(x_9:Int)(v_10:Lv)(v_11:Lv)(y_12:List Nat)(y_13:Int)(y_14:Int)(y_15:Int)(y_16:Int)(y_17:Int) :Nat×Int→aC:=fun (acc2,k3)=>⟨ah 29 [(1,.int .i64 to_1),(2,.fn (.func df) [.agg [.iptr v_2 (.vs [.imm v_3 (.fl x_4) 1 1 0 (List.length x_4)]) 1 0 0,.int .i64 x_5,.int .i64 x_6,.int .i64 x_7,.int .i64 x_8,.int .i64 x_9]] []),(3,.fn (.func df) [.agg [.iptr v_10 (.vs [.imm v_11 (.fl y_12) 1 1 0 (List.length y_12)]) 1 0 0,.int .i64 y_13,.int .i64 y_14,.int .i64 y_15,.int .i64 y_16,.int .i64 y_17]] []),(9,.flt false acc2),(10,.int .i64 k3)],[],0⟩
def dI(acc5:Nat) :aC:=⟨ah 29 [(9,.flt false acc5)],[],0⟩
noncomputable def gO:List Code:=dp (fF ((((hP.drop 3).take 1)).headD .skip))
def ic(to_1:Int)(v_2:Lv)(v_3:Lv)(x_4:List Nat)(x_5:Int)(x_6:Int)(x_7:Int)(x_8:Int)(x_9:Int)(v_10:Lv)(v_11:Lv)(y_12:List Nat)(y_13:Int)(y_14:Int)(y_15:Int)(y_16:Int)(y_17:Int)(k3:Int)(acc4:Nat) :aC:=⟨ah 29 [(1,.int .i64 to_1),(2,.fn (.func df) [.agg [.iptr v_2 (.vs [.imm v_3 (.fl x_4) 1 1 0 (List.length x_4)]) 1 0 0,.int .i64 x_5,.int .i64 x_6,.int .i64 x_7,.int .i64 x_8,.int .i64 x_9]] []),(3,.fn (.func df) [.agg [.iptr v_10 (.vs [.imm v_11 (.fl y_12) 1 1 0 (List.length y_12)]) 1 0 0,.int .i64 y_13,.int .i64 y_14,.int .i64 y_15,.int .i64 y_16,.int .i64 y_17]] []),(9,.flt false acc4),(10,.int .i64 k3)],[],0⟩
def cq(to_1:Int)(x_4:List Nat)(x_5:Int)(x_6:Int)(x_7:Int)(x_8:Int)(x_9:Int)(y_12:List Nat)(y_13:Int)(y_14:Int)(y_15:Int)(y_16:Int)(y_17:Int)(acc2:Nat)(k3:Int) :T ((Nat)⊕((Nat)⊕(aw))) :=
  .ask (decide (k3<to_1))
    (.need (bm 0 (List.length x_4) x_4)<|.need (ck (aT x_5 x_6))<|.ask (!(cj (aT x_5 x_6)))
      (.need (bm 0 (List.length y_12) y_12)<|.need (ck (aT y_13 y_14))<|.ask (!(cj (aT y_13 y_14)))
        (.leaf (.inl (rZ acc2 (lT 0 0))))
        (.ask (y_13==(1:Int))
          (.need (bm 0 (List.length y_12) y_12)<|.need (bd (ap y_13 y_14 (0:Int) k3))<|.ask (!(aX (ap y_13 y_14 (0:Int) k3)))
            (.fail)
            (.need (cI .i64 ((0:Int)*y_16))<|.need (cI .i64 (y_15+((0:Int)*y_16)))<|.need (cI .i64 (k3*y_17))<|.need (cI .i64 ((y_15+((0:Int)*y_16))+(k3*y_17)))<|.need (fO ((y_15+((0:Int)*y_16))+(k3*y_17)) (List.length y_12))<|.need (fD (Int.toNat ((y_15+((0:Int)*y_16))+(k3*y_17))) (List.length y_12))<|.leaf (.inl (rZ acc2 (lT 0 (List.getD y_12 (Int.toNat ((y_15+((0:Int)*y_16))+(k3*y_17))) 0))))))
          (.need (bm 0 (List.length y_12) y_12)<|.need (bd (ap y_13 y_14 k3 (0:Int)))<|.ask (!(aX (ap y_13 y_14 k3 (0:Int))))
            (.fail)
            (.need (cI .i64 (k3*y_16))<|.need (cI .i64 (y_15+(k3*y_16)))<|.need (cI .i64 ((0:Int)*y_17))<|.need (cI .i64 ((y_15+(k3*y_16))+((0:Int)*y_17)))<|.need (fO ((y_15+(k3*y_16))+((0:Int)*y_17)) (List.length y_12))<|.need (fD (Int.toNat ((y_15+(k3*y_16))+((0:Int)*y_17))) (List.length y_12))<|.leaf (.inl (rZ acc2 (lT 0 (List.getD y_12 (Int.toNat ((y_15+(k3*y_16))+((0:Int)*y_17))) 0))))))))
      (.ask (x_5==(1:Int))
        (.need (bm 0 (List.length x_4) x_4)<|.need (bd (ap x_5 x_6 (0:Int) k3))<|.ask (!(aX (ap x_5 x_6 (0:Int) k3)))
          (.fail)
          (.need (cI .i64 ((0:Int)*x_8))<|.need (cI .i64 (x_7+((0:Int)*x_8)))<|.need (cI .i64 (k3*x_9))<|.need (cI .i64 ((x_7+((0:Int)*x_8))+(k3*x_9)))<|.need (fO ((x_7+((0:Int)*x_8))+(k3*x_9)) (List.length x_4))<|.need (fD (Int.toNat ((x_7+((0:Int)*x_8))+(k3*x_9))) (List.length x_4))<|.need (bm 0 (List.length y_12) y_12)<|.need (ck (aT y_13 y_14))<|.ask (!(cj (aT y_13 y_14)))
            (.leaf (.inl (rZ acc2 (lT (List.getD x_4 (Int.toNat ((x_7+((0:Int)*x_8))+(k3*x_9))) 0) 0))))
            (.ask (y_13==(1:Int))
              (.need (bm 0 (List.length y_12) y_12)<|.need (bd (ap y_13 y_14 (0:Int) k3))<|.ask (!(aX (ap y_13 y_14 (0:Int) k3)))
                (.fail)
                (.need (cI .i64 ((0:Int)*y_16))<|.need (cI .i64 (y_15+((0:Int)*y_16)))<|.need (cI .i64 (k3*y_17))<|.need (cI .i64 ((y_15+((0:Int)*y_16))+(k3*y_17)))<|.need (fO ((y_15+((0:Int)*y_16))+(k3*y_17)) (List.length y_12))<|.need (fD (Int.toNat ((y_15+((0:Int)*y_16))+(k3*y_17))) (List.length y_12))<|.leaf (.inl (rZ acc2 (lT (List.getD x_4 (Int.toNat ((x_7+((0:Int)*x_8))+(k3*x_9))) 0) (List.getD y_12 (Int.toNat ((y_15+((0:Int)*y_16))+(k3*y_17))) 0))))))
              (.need (bm 0 (List.length y_12) y_12)<|.need (bd (ap y_13 y_14 k3 (0:Int)))<|.ask (!(aX (ap y_13 y_14 k3 (0:Int))))
                (.fail)
                (.need (cI .i64 (k3*y_16))<|.need (cI .i64 (y_15+(k3*y_16)))<|.need (cI .i64 ((0:Int)*y_17))<|.need (cI .i64 ((y_15+(k3*y_16))+((0:Int)*y_17)))<|.need (fO ((y_15+(k3*y_16))+((0:Int)*y_17)) (List.length y_12))<|.need (fD (Int.toNat ((y_15+(k3*y_16))+((0:Int)*y_17))) (List.length y_12))<|.leaf (.inl (rZ acc2 (lT (List.getD x_4 (Int.toNat ((x_7+((0:Int)*x_8))+(k3*x_9))) 0) (List.getD y_12 (Int.toNat ((y_15+(k3*y_16))+((0:Int)*y_17))) 0)))))))))
        (.need (bm 0 (List.length x_4) x_4)<|.need (bd (ap x_5 x_6 k3 (0:Int)))<|.ask (!(aX (ap x_5 x_6 k3 (0:Int))))
          (.fail)
          (.need (cI .i64 (k3*x_8))<|.need (cI .i64 (x_7+(k3*x_8)))<|.need (cI .i64 ((0:Int)*x_9))<|.need (cI .i64 ((x_7+(k3*x_8))+((0:Int)*x_9)))<|.need (fO ((x_7+(k3*x_8))+((0:Int)*x_9)) (List.length x_4))<|.need (fD (Int.toNat ((x_7+(k3*x_8))+((0:Int)*x_9))) (List.length x_4))<|.need (bm 0 (List.length y_12) y_12)<|.need (ck (aT y_13 y_14))<|.ask (!(cj (aT y_13 y_14)))
            (.leaf (.inl (rZ acc2 (lT (List.getD x_4 (Int.toNat ((x_7+(k3*x_8))+((0:Int)*x_9))) 0) 0))))
            (.ask (y_13==(1:Int))
              (.need (bm 0 (List.length y_12) y_12)<|.need (bd (ap y_13 y_14 (0:Int) k3))<|.ask (!(aX (ap y_13 y_14 (0:Int) k3)))
                (.fail)
                (.need (cI .i64 ((0:Int)*y_16))<|.need (cI .i64 (y_15+((0:Int)*y_16)))<|.need (cI .i64 (k3*y_17))<|.need (cI .i64 ((y_15+((0:Int)*y_16))+(k3*y_17)))<|.need (fO ((y_15+((0:Int)*y_16))+(k3*y_17)) (List.length y_12))<|.need (fD (Int.toNat ((y_15+((0:Int)*y_16))+(k3*y_17))) (List.length y_12))<|.leaf (.inl (rZ acc2 (lT (List.getD x_4 (Int.toNat ((x_7+(k3*x_8))+((0:Int)*x_9))) 0) (List.getD y_12 (Int.toNat ((y_15+((0:Int)*y_16))+(k3*y_17))) 0))))))
              (.need (bm 0 (List.length y_12) y_12)<|.need (bd (ap y_13 y_14 k3 (0:Int)))<|.ask (!(aX (ap y_13 y_14 k3 (0:Int))))
                (.fail)
                (.need (cI .i64 (k3*y_16))<|.need (cI .i64 (y_15+(k3*y_16)))<|.need (cI .i64 ((0:Int)*y_17))<|.need (cI .i64 ((y_15+(k3*y_16))+((0:Int)*y_17)))<|.need (fO ((y_15+(k3*y_16))+((0:Int)*y_17)) (List.length y_12))<|.need (fD (Int.toNat ((y_15+(k3*y_16))+((0:Int)*y_17))) (List.length y_12))<|.leaf (.inl (rZ acc2 (lT (List.getD x_4 (Int.toNat ((x_7+(k3*x_8))+((0:Int)*x_9))) 0) (List.getD y_12 (Int.toNat ((y_15+(k3*y_16))+((0:Int)*y_17))) 0)))))))))))
    (.leaf (.inr (.inl acc2)))
def gP(k3:Int)(acc4:Nat) :T ((Nat×Int)⊕((Nat)⊕(aw))) :=
  .need (cI .i64 (k3+(1:Int)))<|.leaf (.inl (acc4,(k3+(1:Int))))
noncomputable def cr(to_1:Int)(x_4:List Nat)(x_5:Int)(x_6:Int)(x_7:Int)(x_8:Int)(x_9:Int)(y_12:List Nat)(y_13:Int)(y_14:Int)(y_15:Int)(y_16:Int)(y_17:Int) :Nat×Int→Option ((Nat×Int)⊕((Nat)⊕(aw))):=fun (acc2,k3) =>
  aL ((cq to_1 x_4 x_5 x_6 x_7 x_8 x_9 y_12 y_13 y_14 y_15 y_16 y_17 acc2 k3).run) fun acc4 =>
  (gP k3 acc4).run
theorem gQ(to_1:Int)(v_2:Lv)(v_3:Lv)(x_4:List Nat)(x_5:Int)(x_6:Int)(x_7:Int)(x_8:Int)(x_9:Int)(v_10:Lv)(v_11:Lv)(y_12:List Nat)(y_13:Int)(y_14:Int)(y_15:Int)(y_16:Int)(y_17:Int)(acc2:Nat)(k3:Int) :Sg prog [] gO (bI to_1 v_2 v_3 x_4 x_5 x_6 x_7 x_8 x_9 v_10 v_11 y_12 y_13 y_14 y_15 y_16 y_17 (acc2,k3)) (cr to_1 x_4 x_5 x_6 x_7 x_8 x_9 y_12 y_13 y_14 y_15 y_16 y_17 (acc2,k3)) (bI to_1 v_2 v_3 x_4 x_5 x_6 x_7 x_8 x_9 v_10 v_11 y_12 y_13 y_14 y_15 y_16 y_17) (du 0 dI bM):=by
  unfold cr;exact Sg.cut 3 (bi bH) (bZ gE (ic to_1 v_2 v_3 x_4 x_5 x_6 x_7 x_8 x_9 v_10 v_11 y_12 y_13 y_14 y_15 y_16 y_17 k3) [⟨[],[],[1,2,3,9,10]⟩,⟨[],[],[1,2,3,9,10]⟩,⟨[],[],[1,2,3,9,10]⟩,⟨[],[],[1,2,3,9,10]⟩,⟨[],[],[1,2,3,9,10]⟩,⟨[],[],[1,2,3,9,10]⟩,⟨[],[],[1,2,3,9,10]⟩,⟨[],[],[1,2,3,9,10]⟩,⟨[],[],[1,2,3,9,10]⟩,⟨[],[],[9]⟩]) (fun acc4=>bZ gE (bI to_1 v_2 v_3 x_4 x_5 x_6 x_7 x_8 x_9 v_10 v_11 y_12 y_13 y_14 y_15 y_16 y_17) [⟨[],[],[1,2,3,9,10]⟩])
def gR(acc5:Nat) :T ((Empty)⊕(aw)) :=
  .leaf (.inr (.r0 acc5))
noncomputable def bb(from_0:Int)(to_1:Int)(x_4:List Nat)(x_5:Int)(x_6:Int)(x_7:Int)(x_8:Int)(x_9:Int)(y_12:List Nat)(y_13:Int)(y_14:Int)(y_15:Int)(y_16:Int)(y_17:Int) :Option aw:=mU (aL ((ib).run) fun _ =>
  aL (dJ (cr to_1 x_4 x_5 x_6 x_7 x_8 x_9 y_12 y_13 y_14 y_15 y_16 y_17) (0,from_0)) fun acc5 =>
  (gR acc5).run)
theorem ig(from_0:Int)(to_1:Int)(v_2:Lv)(v_3:Lv)(x_4:List Nat)(x_5:Int)(x_6:Int)(x_7:Int)(x_8:Int)(x_9:Int)(v_10:Lv)(v_11:Lv)(y_12:List Nat)(y_13:Int)(y_14:Int)(y_15:Int)(y_16:Int)(y_17:Int){x:aw}(h:bb from_0 to_1 x_4 x_5 x_6 x_7 x_8 x_9 y_12 y_13 y_14 y_15 y_16 y_17=some x) :ag prog vP [] [.int .i64 from_0,.int .i64 to_1,.fn (.func df) [.agg [.iptr v_2 (.vs [.imm v_3 (.fl x_4) 1 1 0 (List.length x_4)]) 1 0 0,.int .i64 x_5,.int .i64 x_6,.int .i64 x_7,.int .i64 x_8,.int .i64 x_9]] [],.fn (.func df) [.agg [.iptr v_10 (.vs [.imm v_11 (.fl y_12) 1 1 0 (List.length y_12)]) 1 0 0,.int .i64 y_13,.int .i64 y_14,.int .i64 y_15,.int .i64 y_16,.int .i64 y_17]] []] (cu x) :=
  ol false cu bM h (Sg.cut 3 bH (bZ gE (ia from_0 to_1 v_2 v_3 x_4 x_5 x_6 x_7 x_8 x_9 v_10 v_11 y_12 y_13 y_14 y_15 y_16 y_17) [⟨[],[],[1,2,3,9,10]⟩]) (fun _=>Sg.cut 1 bH (QA ⟨[],[],[1,2,3,9,10]⟩ (bI to_1 v_2 v_3 x_4 x_5 x_6 x_7 x_8 x_9 v_10 v_11 y_12 y_13 y_14 y_15 y_16 y_17) (dI) 0 bH (hJ _) (fun ⟨acc2,k3⟩=>gQ to_1 v_2 v_3 x_4 x_5 x_6 x_7 x_8 x_9 v_10 v_11 y_12 y_13 y_14 y_15 y_16 y_17 acc2 k3)) (fun acc5=>bZ gE mF [⟨[],[],[8]⟩])))
    (fun x=>by cases x with | r0 a6=>exact mw [.flt false a6])
def bJ:Option aw→Bool
  | some _=>true
  | none=>false
def cn:Option aw→Nat
  | some (.r0 x)=>x
  | _=>0
theorem ii{x:Option aw}(h:bJ x=true) :x=some (.r0 (cn x)):=by
  unfold bJ at h
  split at h<;>first | rfl | (cases h;done) | (rename_i y;cases y;rfl)
noncomputable def dK:aA:=cO vP (.cons (.int .i64) (.cons (.int .i64) (.cons (.fn df (.cons (.agg (.cons (.ivs (.cons .fl .nil) 1 0 0) (.cons (.int .i64) (.cons (.int .i64) (.cons (.int .i64) (.cons (.int .i64) (.cons (.int .i64) .nil))))))) .nil) .nil) (.cons (.fn df (.cons (.agg (.cons (.ivs (.cons .fl .nil) 1 0 0) (.cons (.int .i64) (.cons (.int .i64) (.cons (.int .i64) (.cons (.int .i64) (.cons (.int .i64) .nil))))))) .nil) .nil) .nil)))) fun t=>(fun q=>[⟨cu (.r0 (cn q)),[bJ q]⟩]) (bb t.1 t.2.1 t.2.2.1.1.1.1.2.1.2 t.2.2.1.1.1.2.1 t.2.2.1.1.1.2.2.1 t.2.2.1.1.1.2.2.2.1 t.2.2.1.1.1.2.2.2.2.1 t.2.2.1.1.1.2.2.2.2.2.1 t.2.2.2.1.1.1.1.2.1.2 t.2.2.2.1.1.1.2.1 t.2.2.2.1.1.1.2.2.1 t.2.2.2.1.1.1.2.2.2.1 t.2.2.2.1.1.1.2.2.2.2.1 t.2.2.2.1.1.1.2.2.2.2.2.1)
theorem gN:aN prog dK:=bc fun t=>(aY (fun h=>ig t.1 t.2.1 t.2.2.1.1.1.1.1 t.2.2.1.1.1.1.2.1.1 t.2.2.1.1.1.1.2.1.2 t.2.2.1.1.1.2.1 t.2.2.1.1.1.2.2.1 t.2.2.1.1.1.2.2.2.1 t.2.2.1.1.1.2.2.2.2.1 t.2.2.1.1.1.2.2.2.2.2.1 t.2.2.2.1.1.1.1.1 t.2.2.2.1.1.1.1.2.1.1 t.2.2.2.1.1.1.1.2.1.2 t.2.2.2.1.1.1.2.1 t.2.2.2.1.1.1.2.2.1 t.2.2.2.1.1.1.2.2.2.1 t.2.2.2.1.1.1.2.2.2.2.1 t.2.2.2.1.1.1.2.2.2.2.2.1 (ii h)) bv)
noncomputable def dL:List aA:=dK::vn
theorem ak:aH prog (aG dL):=au gN gE
inductive bB where
  | r0 (a105:Nat) (a106:Nat) (a107:Nat) (l108:List Nat) (a109:Nat) (a110:Nat) (l111:List Nat) (a112:Nat) (a113:Nat) (l114:List Nat)
def ui:bB→AE×aC
  | .r0 a105 a106 a107 l108 a109 a110 l111 a112 a113 l114=>(.ret,⟨ah 54 [(10,.int .i64 ((a105:Nat):Int))],[(0,.vs [.sl 1 1 1 0 a106 a107]),(1,.fl l108),(2,.vs [.sl 3 1 1 0 a109 a110]),(3,.fl l111),(4,.vs [.sl 5 1 1 0 a112 a113]),(5,.fl l114)],6⟩)
theorem kA:kE ui:=by intro x;cases x<;>(intro h;cases h)
theorem Kx(id:Nat) :mu id ui:=by intro x;cases x<;>(intro h;cases h)
def uj:bB→ir
  | .r0 a105 a106 a107 l108 a109 a110 l111 a112 a113 l114=>⟨.int .i64 ((a105:Nat):Int),[some (.vs [.sl 1 1 1 0 a106 a107]),some (.fl l108),some (.vs [.sl 3 1 1 0 a109 a110]),some (.fl l111),some (.vs [.sl 5 1 1 0 a112 a113]),some (.fl l114)]⟩
noncomputable def If:List Code:=dp (nD oE)
def Ky(n_0:Nat)(c_1:Nat)(l_2:List Nat)(n_3:Nat)(c_4:Nat)(l_5:List Nat)(n_6:Nat)(c_7:Nat)(l_8:List Nat)(a_9:Nat)(m_10:Int)(m_11:Int)(m_12:Int)(m_13:Int)(m_14:Int)(n_15:Int)(n_16:Int)(n_17:Int)(n_18:Int)(n_19:Int)(b_20:Nat)(o_21:Int)(o_22:Int)(o_23:Int)(o_24:Int)(o_25:Int)(e1:Nat) :aC:=⟨ah 54 [(5,.ptr 6 1 0 0),(6,.ptr 7 1 0 0),(7,.ptr 8 1 0 0),(8,.ptr 9 1 0 0),(9,.ptr 10 1 0 0),(11,.int .i64 ((e1:Nat):Int))],[(0,.vs [.sl 1 1 1 0 n_0 c_1]),(1,.fl l_2),(2,.vs [.sl 3 1 1 0 n_3 c_4]),(3,.fl l_5),(4,.vs [.sl 5 1 1 0 n_6 c_7]),(5,.fl l_8),(6,.vs [.flt false a_9]),(7,.vs [.ptr 0 1 0 0,.int .i64 m_10,.int .i64 m_11,.int .i64 m_12,.int .i64 m_13,.int .i64 m_14]),(8,.vs [.ptr 2 1 0 0,.int .i64 n_15,.int .i64 n_16,.int .i64 n_17,.int .i64 n_18,.int .i64 n_19]),(9,.vs [.flt false b_20]),(10,.vs [.ptr 4 1 0 0,.int .i64 o_21,.int .i64 o_22,.int .i64 o_23,.int .i64 o_24,.int .i64 o_25])],11⟩
def xf(m_10 : Int)(m_11 : Int)(n_15 : Int)(n_16 : Int)(o_21 : Int)(o_22 : Int) : T ((Nat) ⊕ (bB)) :=
  .ask (decide ((0:Int)<(3:Int)))
    (.need (fO (0 : Int) 3) <| .ask (!(false == true))
      (.need (cI .i64 (1:Int))<|.ask (decide ((1:Int)<(3:Int)))
        (.need (fO (1:Int) 3)<|.ask (!(false==true))
          (.need (cI .i64 (2:Int))<|.ask (decide ((2:Int)<(3:Int)))
            (.need (fO (2:Int) 3)<|.ask (!(false==true))
              (.need (cI .i64 (3:Int))<|.ask (decide ((3:Int)<(3:Int)))
                (.fail)
                (.ask (m_11==n_15)
                  (.ask (o_21==m_10)
                    (.ask (!(o_22==n_16))
                      (.leaf (.inl 8))
                      (.leaf (.inl 0)))
                    (.leaf (.inl 8)))
                  (.leaf (.inl 8))))
              (.fail))
            (.fail))
          (.fail))
        (.fail))
      (.fail))
    (.fail)
def Kz(n_0:Nat)(c_1:Nat)(l_2:List Nat)(n_3:Nat)(c_4:Nat)(l_5:List Nat)(n_6:Nat)(c_7:Nat)(l_8:List Nat)(a_9:Nat)(b_20:Nat)(o_21:Int)(o_22:Int)(o_23:Int)(o_24:Int)(o_25:Int) :Int×Int×Int×Int×Nat×Nat×(List Nat)×(List Nat)→aC:=fun (i2,i3,i4,i5,a6,a7,l8,l9)=>⟨ah 54 [(5,.ptr 6 1 0 0),(6,.ptr 7 1 0 0),(7,.ptr 8 1 0 0),(8,.ptr 9 1 0 0),(9,.ptr 10 1 0 0)],[(0,.vs [.sl 1 1 1 0 n_0 c_1]),(1,.fl l_2),(2,.vs [.sl 3 1 1 0 n_3 c_4]),(3,.fl l_5),(4,.vs [.sl 5 1 1 0 n_6 c_7]),(5,.fl l_8),(6,.vs [.flt false a_9]),(7,.vs [.ptr 11 1 0 0,.int .i64 i2,.int .i64 i3,.int .i64 (0:Int),.int .i64 i3,.int .i64 (1:Int)]),(8,.vs [.ptr 12 1 0 0,.int .i64 i4,.int .i64 i5,.int .i64 (0:Int),.int .i64 i5,.int .i64 (1:Int)]),(9,.vs [.flt false b_20]),(10,.vs [.ptr 4 1 0 0,.int .i64 o_21,.int .i64 o_22,.int .i64 o_23,.int .i64 o_24,.int .i64 o_25]),(11,.vs [.sl 13 1 1 0 a6 a6]),(12,.vs [.sl 14 1 1 0 a7 a7]),(13,.fl l8),(14,.fl l9)],15⟩
def xg(n_0:Nat)(c_1:Nat)(l_2:List Nat)(n_3:Nat)(c_4:Nat)(l_5:List Nat)(n_6:Nat)(c_7:Nat)(l_8:List Nat)(m_10:Int)(m_11:Int)(m_12:Int)(m_13:Int)(m_14:Int)(n_15:Int)(n_16:Int)(n_17:Int)(n_18:Int)(n_19:Int)(e1:Nat) :T ((Int×Int×Int×Int×Nat×Nat×(List Nat)×(List Nat))⊕(bB)) :=
  .ask (((e1:Nat):Int) != (0:Int))
    (.leaf (.inr (.r0 e1 n_0 c_1 l_2 n_3 c_4 l_5 n_6 c_7 l_8)))
    (.need (bm 0 n_0 l_2)<|.need (fB (ba (ab 0 n_0 l_2) m_10 m_11 m_12 m_13 m_14))<|.need (bm 0 n_3 l_5)<|.need (fB (ba (ab 0 n_3 l_5) n_15 n_16 n_17 n_18 n_19))<|.leaf (.inl ((fK (ba (ab 0 n_0 l_2) m_10 m_11 m_12 m_13 m_14)),(fL (ba (ab 0 n_0 l_2) m_10 m_11 m_12 m_13 m_14)),(fK (ba (ab 0 n_3 l_5) n_15 n_16 n_17 n_18 n_19)),(fL (ba (ab 0 n_3 l_5) n_15 n_16 n_17 n_18 n_19)),(fM (ba (ab 0 n_0 l_2) m_10 m_11 m_12 m_13 m_14)),(fM (ba (ab 0 n_3 l_5) n_15 n_16 n_17 n_18 n_19)),(fN (ba (ab 0 n_0 l_2) m_10 m_11 m_12 m_13 m_14)),(fN (ba (ab 0 n_3 l_5) n_15 n_16 n_17 n_18 n_19)))))
def Ab(n_0:Nat)(c_1:Nat)(l_2:List Nat)(n_3:Nat)(c_4:Nat)(l_5:List Nat)(n_6:Nat)(c_7:Nat)(l_8:List Nat)(a_9:Nat)(b_20:Nat)(o_21:Int)(o_22:Int)(o_23:Int)(o_24:Int)(o_25:Int)(i2:Int)(i3:Int)(i4:Int)(i5:Int)(a6:Nat)(a7:Nat)(l8:List Nat)(l9:List Nat)(_:Unit) :aC:=⟨ah 54 [(5,.ptr 6 1 0 0),(6,.ptr 7 1 0 0),(7,.ptr 8 1 0 0),(8,.ptr 9 1 0 0),(9,.ptr 10 1 0 0),(28,.fn (.func fv) [] [.ptr 11 1 0 0])],[(0,.vs [.sl 1 1 1 0 n_0 c_1]),(1,.fl l_2),(2,.vs [.sl 3 1 1 0 n_3 c_4]),(3,.fl l_5),(4,.vs [.sl 5 1 1 0 n_6 c_7]),(5,.fl l_8),(6,.vs [.flt false a_9]),(7,.vs [.ptr 12 1 0 0,.int .i64 i2,.int .i64 i3,.int .i64 (0:Int),.int .i64 i3,.int .i64 (1:Int)]),(8,.vs [.ptr 13 1 0 0,.int .i64 i4,.int .i64 i5,.int .i64 (0:Int),.int .i64 i5,.int .i64 (1:Int)]),(9,.vs [.flt false b_20]),(10,.vs [.ptr 4 1 0 0,.int .i64 o_21,.int .i64 o_22,.int .i64 o_23,.int .i64 o_24,.int .i64 o_25]),(11,.vs [.ptr 4 1 0 0,.int .i64 o_21,.int .i64 o_22,.int .i64 o_23,.int .i64 o_24,.int .i64 o_25]),(12,.vs [.sl 14 1 1 0 a6 a6]),(13,.vs [.sl 15 1 1 0 a7 a7]),(14,.fl l8),(15,.fl l9)],16⟩
def Ig:T ((Unit)⊕(bB)) :=
  .leaf (.inl ())
def xh(n_0:Nat)(c_1:Nat)(l_2:List Nat)(n_3:Nat)(c_4:Nat)(l_5:List Nat)(n_6:Nat)(c_7:Nat)(l104:(List Nat)) :aC:=⟨ah 54 [],[(0,.vs [.sl 1 1 1 0 n_0 c_1]),(1,.fl l_2),(2,.vs [.sl 3 1 1 0 n_3 c_4]),(3,.fl l_5),(4,.vs [.sl 5 1 1 0 n_6 c_7]),(5,.fl l104)],6⟩
noncomputable def Ih:List Code:=dp (inBlock ((((((If.drop 2).drop 3).drop 1).take 1)).headD .skip))
def qv(n_0:Nat)(c_1:Nat)(l_2:List Nat)(n_3:Nat)(c_4:Nat)(l_5:List Nat)(n_6:Nat)(c_7:Nat)(l_8:List Nat)(a_9:Nat)(b_20:Nat)(o_21:Int)(o_22:Int)(o_23:Int)(o_24:Int)(o_25:Int)(i2:Int)(i3:Int)(i4:Int)(i5:Int)(a6:Nat)(a7:Nat)(l8:List Nat)(l9:List Nat) :YI:=aic (Ih) (Ab n_0 c_1 l_2 n_3 c_4 l_5 n_6 c_7 l_8 a_9 b_20 o_21 o_22 o_23 o_24 o_25 i2 i3 i4 i5 a6 a7 l8 l9 ())
def xi(n_0:Nat)(c_1:Nat)(l_2:List Nat)(n_3:Nat)(c_4:Nat)(l_5:List Nat)(n_6:Nat)(c_7:Nat)(a_9:Nat)(b_20:Nat)(o_21:Int)(o_22:Int)(o_23:Int)(o_24:Int)(o_25:Int)(i2:Int)(i3:Int)(i4:Int)(i5:Int) :(List Nat)×Nat×Nat×Nat×Nat×(List Nat)×(List Nat)→aC:=fun (l97,a98,a99,a100,a101,l102,l103)=>⟨ah 27 [],[(0,.vs [.sl 1 1 1 0 n_0 c_1]),(1,.fl l_2),(2,.vs [.sl 3 1 1 0 n_3 c_4]),(3,.fl l_5),(4,.vs [.sl 5 1 1 0 n_6 c_7]),(5,.fl l97),(6,.vs [.flt false a_9]),(7,.vs [.ptr 12 1 0 0,.int .i64 i2,.int .i64 i3,.int .i64 (0:Int),.int .i64 i3,.int .i64 (1:Int)]),(8,.vs [.ptr 13 1 0 0,.int .i64 i4,.int .i64 i5,.int .i64 (0:Int),.int .i64 i5,.int .i64 (1:Int)]),(9,.vs [.flt false b_20]),(10,.vs [.ptr 4 1 0 0,.int .i64 o_21,.int .i64 o_22,.int .i64 o_23,.int .i64 o_24,.int .i64 o_25]),(11,.vs [.ptr 4 1 0 0,.int .i64 o_21,.int .i64 o_22,.int .i64 o_23,.int .i64 o_24,.int .i64 o_25]),(12,.vs [.sl 14 1 1 0 a98 a99]),(13,.vs [.sl 15 1 1 0 a100 a101]),(14,.fl l102),(15,.fl l103),(16,.vs [])],17⟩
noncomputable def Ii:List Code:=dp (nD fv)
def KA(n_0:Nat)(c_1:Nat)(l_2:List Nat)(n_3:Nat)(c_4:Nat)(l_5:List Nat)(n_6:Nat)(c_7:Nat)(l_8:List Nat)(a_9:Nat)(b_20:Nat)(o_21:Int)(o_22:Int)(o_23:Int)(o_24:Int)(o_25:Int)(i2:Int)(i3:Int)(i4:Int)(i5:Int)(a6:Nat)(a7:Nat)(l8:List Nat)(l9:List Nat)(_:Unit) :aC:=⟨ah 27 [(0,.yld 16),(1,.ptr 11 1 0 0),(6,.int .i64 o_21),(7,.int .i64 (0:Int))],[(0,.vs [.sl 1 1 1 0 n_0 c_1]),(1,.fl l_2),(2,.vs [.sl 3 1 1 0 n_3 c_4]),(3,.fl l_5),(4,.vs [.sl 5 1 1 0 n_6 c_7]),(5,.fl l_8),(6,.vs [.flt false a_9]),(7,.vs [.ptr 12 1 0 0,.int .i64 i2,.int .i64 i3,.int .i64 (0:Int),.int .i64 i3,.int .i64 (1:Int)]),(8,.vs [.ptr 13 1 0 0,.int .i64 i4,.int .i64 i5,.int .i64 (0:Int),.int .i64 i5,.int .i64 (1:Int)]),(9,.vs [.flt false b_20]),(10,.vs [.ptr 4 1 0 0,.int .i64 o_21,.int .i64 o_22,.int .i64 o_23,.int .i64 o_24,.int .i64 o_25]),(11,.vs [.ptr 4 1 0 0,.int .i64 o_21,.int .i64 o_22,.int .i64 o_23,.int .i64 o_24,.int .i64 o_25]),(12,.vs [.sl 14 1 1 0 a6 a6]),(13,.vs [.sl 15 1 1 0 a7 a7]),(14,.fl l8),(15,.fl l9),(16,.vs [])],17⟩
def Ij:T ((Unit)⊕(Empty)) :=
  .leaf (.inl ())
def mi(n_0:Nat)(c_1:Nat)(l_2:List Nat)(n_3:Nat)(c_4:Nat)(l_5:List Nat)(n_6:Nat)(c_7:Nat)(a_9:Nat)(b_20:Nat)(o_21:Int)(o_22:Int)(o_23:Int)(o_24:Int)(o_25:Int)(i2:Int)(i3:Int)(i4:Int)(i5:Int) :Nat×(List Nat)×Nat×Nat×Nat×Nat×(List Nat)×(List Nat)→aC:=fun (a46,l47,a48,a49,a50,a51,l52,l53)=>⟨ah 27 [(0,.yld 16),(1,.ptr 11 1 0 0),(6,.int .i64 o_21),(7,.int .i64 ((a46:Nat):Int))],[(0,.vs [.sl 1 1 1 0 n_0 c_1]),(1,.fl l_2),(2,.vs [.sl 3 1 1 0 n_3 c_4]),(3,.fl l_5),(4,.vs [.sl 5 1 1 0 n_6 c_7]),(5,.fl l47),(6,.vs [.flt false a_9]),(7,.vs [.ptr 12 1 0 0,.int .i64 i2,.int .i64 i3,.int .i64 (0:Int),.int .i64 i3,.int .i64 (1:Int)]),(8,.vs [.ptr 13 1 0 0,.int .i64 i4,.int .i64 i5,.int .i64 (0:Int),.int .i64 i5,.int .i64 (1:Int)]),(9,.vs [.flt false b_20]),(10,.vs [.ptr 4 1 0 0,.int .i64 o_21,.int .i64 o_22,.int .i64 o_23,.int .i64 o_24,.int .i64 o_25]),(11,.vs [.ptr 4 1 0 0,.int .i64 o_21,.int .i64 o_22,.int .i64 o_23,.int .i64 o_24,.int .i64 o_25]),(12,.vs [.sl 14 1 1 0 a48 a49]),(13,.vs [.sl 15 1 1 0 a50 a51]),(14,.fl l52),(15,.fl l53),(16,.vs [])],17⟩
def qw(n_0:Nat)(c_1:Nat)(l_2:List Nat)(n_3:Nat)(c_4:Nat)(l_5:List Nat)(n_6:Nat)(c_7:Nat)(a_9:Nat)(b_20:Nat)(o_21:Int)(o_22:Int)(o_23:Int)(o_24:Int)(o_25:Int)(i2:Int)(i3:Int)(i4:Int)(i5:Int) :(List Nat)×Nat×Nat×Nat×Nat×(List Nat)×(List Nat)→aC:=fun (l90,a91,a92,a93,a94,l95,l96)=>⟨ah 27 [],[(0,.vs [.sl 1 1 1 0 n_0 c_1]),(1,.fl l_2),(2,.vs [.sl 3 1 1 0 n_3 c_4]),(3,.fl l_5),(4,.vs [.sl 5 1 1 0 n_6 c_7]),(5,.fl l90),(6,.vs [.flt false a_9]),(7,.vs [.ptr 12 1 0 0,.int .i64 i2,.int .i64 i3,.int .i64 (0:Int),.int .i64 i3,.int .i64 (1:Int)]),(8,.vs [.ptr 13 1 0 0,.int .i64 i4,.int .i64 i5,.int .i64 (0:Int),.int .i64 i5,.int .i64 (1:Int)]),(9,.vs [.flt false b_20]),(10,.vs [.ptr 4 1 0 0,.int .i64 o_21,.int .i64 o_22,.int .i64 o_23,.int .i64 o_24,.int .i64 o_25]),(11,.vs [.ptr 4 1 0 0,.int .i64 o_21,.int .i64 o_22,.int .i64 o_23,.int .i64 o_24,.int .i64 o_25]),(12,.vs [.sl 14 1 1 0 a91 a92]),(13,.vs [.sl 15 1 1 0 a93 a94]),(14,.fl l95),(15,.fl l96),(16,.vs [])],17⟩
noncomputable def xj:List Code:=dp (fF ((((Ii.drop 1).take 1)).headD .skip))
def Ik(n_0:Nat)(c_1:Nat)(l_2:List Nat)(n_3:Nat)(c_4:Nat)(l_5:List Nat)(n_6:Nat)(c_7:Nat)(a_9:Nat)(b_20:Nat)(o_21:Int)(o_22:Int)(o_23:Int)(o_24:Int)(o_25:Int)(i2:Int)(i3:Int)(i4:Int)(i5:Int)(a46:Nat)(l47:List Nat)(a48:Nat)(a49:Nat)(a50:Nat)(a51:Nat)(l52:List Nat)(l53:List Nat)(_:Unit) :aC:=⟨ah 27 [(0,.yld 16),(1,.ptr 11 1 0 0),(6,.int .i64 o_21),(7,.int .i64 ((a46:Nat):Int))],[(0,.vs [.sl 1 1 1 0 n_0 c_1]),(1,.fl l_2),(2,.vs [.sl 3 1 1 0 n_3 c_4]),(3,.fl l_5),(4,.vs [.sl 5 1 1 0 n_6 c_7]),(5,.fl l47),(6,.vs [.flt false a_9]),(7,.vs [.ptr 12 1 0 0,.int .i64 i2,.int .i64 i3,.int .i64 (0:Int),.int .i64 i3,.int .i64 (1:Int)]),(8,.vs [.ptr 13 1 0 0,.int .i64 i4,.int .i64 i5,.int .i64 (0:Int),.int .i64 i5,.int .i64 (1:Int)]),(9,.vs [.flt false b_20]),(10,.vs [.ptr 4 1 0 0,.int .i64 o_21,.int .i64 o_22,.int .i64 o_23,.int .i64 o_24,.int .i64 o_25]),(11,.vs [.ptr 4 1 0 0,.int .i64 o_21,.int .i64 o_22,.int .i64 o_23,.int .i64 o_24,.int .i64 o_25]),(12,.vs [.sl 14 1 1 0 a48 a49]),(13,.vs [.sl 15 1 1 0 a50 a51]),(14,.fl l52),(15,.fl l53),(16,.vs [])],17⟩
def Il(o_21:Int)(a46:Nat)(l47:List Nat)(a48:Nat)(a49:Nat)(a50:Nat)(a51:Nat)(l52:List Nat)(l53:List Nat) :T ((Unit)⊕(((List Nat)×Nat×Nat×Nat×Nat×(List Nat)×(List Nat))⊕(Empty))) :=
  .ask (decide (((a46:Nat):Int)<o_21))
    (.leaf (.inl ()))
    (.leaf (.inr (.inl (l47,a48,a49,a50,a51,l52,l53))))
def qx(n_0:Nat)(c_1:Nat)(l_2:List Nat)(n_3:Nat)(c_4:Nat)(l_5:List Nat)(n_6:Nat)(c_7:Nat)(a_9:Nat)(b_20:Nat)(o_21:Int)(o_22:Int)(o_23:Int)(o_24:Int)(o_25:Int)(i2:Int)(i3:Int)(i4:Int)(i5:Int)(a46:Nat) :(List Nat)×Nat×Nat×Nat×Nat×(List Nat)×(List Nat)→aC:=fun (l83,a84,a85,a86,a87,l88,l89)=>⟨ah 27 [(0,.yld 16),(1,.ptr 11 1 0 0),(6,.int .i64 o_21),(7,.int .i64 ((a46:Nat):Int))],[(0,.vs [.sl 1 1 1 0 n_0 c_1]),(1,.fl l_2),(2,.vs [.sl 3 1 1 0 n_3 c_4]),(3,.fl l_5),(4,.vs [.sl 5 1 1 0 n_6 c_7]),(5,.fl l83),(6,.vs [.flt false a_9]),(7,.vs [.ptr 12 1 0 0,.int .i64 i2,.int .i64 i3,.int .i64 (0:Int),.int .i64 i3,.int .i64 (1:Int)]),(8,.vs [.ptr 13 1 0 0,.int .i64 i4,.int .i64 i5,.int .i64 (0:Int),.int .i64 i5,.int .i64 (1:Int)]),(9,.vs [.flt false b_20]),(10,.vs [.ptr 4 1 0 0,.int .i64 o_21,.int .i64 o_22,.int .i64 o_23,.int .i64 o_24,.int .i64 o_25]),(11,.vs [.ptr 4 1 0 0,.int .i64 o_21,.int .i64 o_22,.int .i64 o_23,.int .i64 o_24,.int .i64 o_25]),(12,.vs [.sl 14 1 1 0 a84 a85]),(13,.vs [.sl 15 1 1 0 a86 a87]),(14,.fl l88),(15,.fl l89),(16,.vs [])],17⟩
noncomputable def Im:List Code:=dp (inBlock ((((xj.drop 2).take 1)).headD .skip))
def In(n_0:Nat)(c_1:Nat)(l_2:List Nat)(n_3:Nat)(c_4:Nat)(l_5:List Nat)(n_6:Nat)(c_7:Nat)(a_9:Nat)(b_20:Nat)(o_21:Int)(o_22:Int)(o_23:Int)(o_24:Int)(o_25:Int)(i2:Int)(i3:Int)(i4:Int)(i5:Int)(a46:Nat)(l47:List Nat)(a48:Nat)(a49:Nat)(a50:Nat)(a51:Nat)(l52:List Nat)(l53:List Nat)(_:Unit) :aC:=⟨ah 27 [(0,.yld 16),(1,.ptr 11 1 0 0),(3,.int .i64 ((a46:Nat):Int)),(6,.int .i64 o_21),(7,.int .i64 ((a46:Nat):Int)),(11,.int .i64 o_22),(12,.int .i64 (0:Int))],[(0,.vs [.sl 1 1 1 0 n_0 c_1]),(1,.fl l_2),(2,.vs [.sl 3 1 1 0 n_3 c_4]),(3,.fl l_5),(4,.vs [.sl 5 1 1 0 n_6 c_7]),(5,.fl l47),(6,.vs [.flt false a_9]),(7,.vs [.ptr 12 1 0 0,.int .i64 i2,.int .i64 i3,.int .i64 (0:Int),.int .i64 i3,.int .i64 (1:Int)]),(8,.vs [.ptr 13 1 0 0,.int .i64 i4,.int .i64 i5,.int .i64 (0:Int),.int .i64 i5,.int .i64 (1:Int)]),(9,.vs [.flt false b_20]),(10,.vs [.ptr 4 1 0 0,.int .i64 o_21,.int .i64 o_22,.int .i64 o_23,.int .i64 o_24,.int .i64 o_25]),(11,.vs [.ptr 4 1 0 0,.int .i64 o_21,.int .i64 o_22,.int .i64 o_23,.int .i64 o_24,.int .i64 o_25]),(12,.vs [.sl 14 1 1 0 a48 a49]),(13,.vs [.sl 15 1 1 0 a50 a51]),(14,.fl l52),(15,.fl l53),(16,.vs [])],17⟩
def Io:T ((Unit)⊕(((List Nat)×Nat×Nat×Nat×Nat×(List Nat)×(List Nat))⊕(((List Nat)×Nat×Nat×Nat×Nat×(List Nat)×(List Nat))⊕(Empty)))) :=
  .leaf (.inl ())
def mj(n_0:Nat)(c_1:Nat)(l_2:List Nat)(n_3:Nat)(c_4:Nat)(l_5:List Nat)(n_6:Nat)(c_7:Nat)(a_9:Nat)(b_20:Nat)(o_21:Int)(o_22:Int)(o_23:Int)(o_24:Int)(o_25:Int)(i2:Int)(i3:Int)(i4:Int)(i5:Int)(a46:Nat) :Nat×(List Nat)×Nat×Nat×Nat×Nat×(List Nat)×(List Nat)→aC:=fun (a61,l62,a63,a64,a65,a66,l67,l68)=>⟨ah 27 [(0,.yld 16),(1,.ptr 11 1 0 0),(3,.int .i64 ((a46:Nat):Int)),(6,.int .i64 o_21),(7,.int .i64 ((a46:Nat):Int)),(11,.int .i64 o_22),(12,.int .i64 ((a61:Nat):Int))],[(0,.vs [.sl 1 1 1 0 n_0 c_1]),(1,.fl l_2),(2,.vs [.sl 3 1 1 0 n_3 c_4]),(3,.fl l_5),(4,.vs [.sl 5 1 1 0 n_6 c_7]),(5,.fl l62),(6,.vs [.flt false a_9]),(7,.vs [.ptr 12 1 0 0,.int .i64 i2,.int .i64 i3,.int .i64 (0:Int),.int .i64 i3,.int .i64 (1:Int)]),(8,.vs [.ptr 13 1 0 0,.int .i64 i4,.int .i64 i5,.int .i64 (0:Int),.int .i64 i5,.int .i64 (1:Int)]),(9,.vs [.flt false b_20]),(10,.vs [.ptr 4 1 0 0,.int .i64 o_21,.int .i64 o_22,.int .i64 o_23,.int .i64 o_24,.int .i64 o_25]),(11,.vs [.ptr 4 1 0 0,.int .i64 o_21,.int .i64 o_22,.int .i64 o_23,.int .i64 o_24,.int .i64 o_25]),(12,.vs [.sl 14 1 1 0 a63 a64]),(13,.vs [.sl 15 1 1 0 a65 a66]),(14,.fl l67),(15,.fl l68),(16,.vs [])],17⟩
def xk(n_0:Nat)(c_1:Nat)(l_2:List Nat)(n_3:Nat)(c_4:Nat)(l_5:List Nat)(n_6:Nat)(c_7:Nat)(a_9:Nat)(b_20:Nat)(o_21:Int)(o_22:Int)(o_23:Int)(o_24:Int)(o_25:Int)(i2:Int)(i3:Int)(i4:Int)(i5:Int)(a46:Nat) :(List Nat)×Nat×Nat×Nat×Nat×(List Nat)×(List Nat)→aC:=fun (l76,a77,a78,a79,a80,l81,l82)=>⟨ah 27 [(0,.yld 16),(1,.ptr 11 1 0 0),(6,.int .i64 o_21),(7,.int .i64 ((a46:Nat):Int))],[(0,.vs [.sl 1 1 1 0 n_0 c_1]),(1,.fl l_2),(2,.vs [.sl 3 1 1 0 n_3 c_4]),(3,.fl l_5),(4,.vs [.sl 5 1 1 0 n_6 c_7]),(5,.fl l76),(6,.vs [.flt false a_9]),(7,.vs [.ptr 12 1 0 0,.int .i64 i2,.int .i64 i3,.int .i64 (0:Int),.int .i64 i3,.int .i64 (1:Int)]),(8,.vs [.ptr 13 1 0 0,.int .i64 i4,.int .i64 i5,.int .i64 (0:Int),.int .i64 i5,.int .i64 (1:Int)]),(9,.vs [.flt false b_20]),(10,.vs [.ptr 4 1 0 0,.int .i64 o_21,.int .i64 o_22,.int .i64 o_23,.int .i64 o_24,.int .i64 o_25]),(11,.vs [.ptr 4 1 0 0,.int .i64 o_21,.int .i64 o_22,.int .i64 o_23,.int .i64 o_24,.int .i64 o_25]),(12,.vs [.sl 14 1 1 0 a77 a78]),(13,.vs [.sl 15 1 1 0 a79 a80]),(14,.fl l81),(15,.fl l82),(16,.vs [])],17⟩
noncomputable def Ip:List Code:=dp (fF ((((Im.drop 2).take 1)).headD .skip))
def Iq(n_0:Nat)(c_1:Nat)(l_2:List Nat)(n_3:Nat)(c_4:Nat)(l_5:List Nat)(n_6:Nat)(c_7:Nat)(a_9:Nat)(b_20:Nat)(o_21:Int)(o_22:Int)(o_23:Int)(o_24:Int)(o_25:Int)(i2:Int)(i3:Int)(i4:Int)(i5:Int)(a46:Nat)(a61:Nat) :(List Nat)×Nat×Nat×Nat×Nat×(List Nat)×(List Nat)→aC:=fun (l69,a70,a71,a72,a73,l74,l75)=>⟨ah 27 [(0,.yld 16),(1,.ptr 11 1 0 0),(3,.int .i64 ((a46:Nat):Int)),(6,.int .i64 o_21),(7,.int .i64 ((a46:Nat):Int)),(11,.int .i64 o_22),(12,.int .i64 ((a61:Nat):Int))],[(0,.vs [.sl 1 1 1 0 n_0 c_1]),(1,.fl l_2),(2,.vs [.sl 3 1 1 0 n_3 c_4]),(3,.fl l_5),(4,.vs [.sl 5 1 1 0 n_6 c_7]),(5,.fl l69),(6,.vs [.flt false a_9]),(7,.vs [.ptr 12 1 0 0,.int .i64 i2,.int .i64 i3,.int .i64 (0:Int),.int .i64 i3,.int .i64 (1:Int)]),(8,.vs [.ptr 13 1 0 0,.int .i64 i4,.int .i64 i5,.int .i64 (0:Int),.int .i64 i5,.int .i64 (1:Int)]),(9,.vs [.flt false b_20]),(10,.vs [.ptr 4 1 0 0,.int .i64 o_21,.int .i64 o_22,.int .i64 o_23,.int .i64 o_24,.int .i64 o_25]),(11,.vs [.ptr 4 1 0 0,.int .i64 o_21,.int .i64 o_22,.int .i64 o_23,.int .i64 o_24,.int .i64 o_25]),(12,.vs [.sl 14 1 1 0 a70 a71]),(13,.vs [.sl 15 1 1 0 a72 a73]),(14,.fl l74),(15,.fl l75),(16,.vs [])],17⟩
def qy(n_6:Nat)(a_9:Nat)(b_20:Nat)(o_21:Int)(o_22:Int)(o_23:Int)(o_24:Int)(o_25:Int)(i2:Int)(i3:Int)(i4:Int)(i5:Int)(a46:Nat)(a61:Nat)(l62:List Nat)(a63:Nat)(a64:Nat)(a65:Nat)(a66:Nat)(l67:List Nat)(l68:List Nat) :T (((List Nat)×Nat×Nat×Nat×Nat×(List Nat)×(List Nat))⊕(((List Nat)×Nat×Nat×Nat×Nat×(List Nat)×(List Nat))⊕(((List Nat)×Nat×Nat×Nat×Nat×(List Nat)×(List Nat))⊕(((List Nat)×Nat×Nat×Nat×Nat×(List Nat)×(List Nat))⊕(Empty))))) :=
  .ask (decide (((a61:Nat):Int)<o_22))
    (.need (bm 0 n_6 l62)<|.need (bd (ap o_21 o_22 ((a46:Nat):Int) ((a61:Nat):Int)))<|.ask (!(aX (ap o_21 o_22 ((a46:Nat):Int) ((a61:Nat):Int))))
      (.fail)
      (.need (cI .i64 (((a46:Nat):Int)*o_24))<|.need (cI .i64 (o_23+(((a46:Nat):Int)*o_24)))<|.need (cI .i64 (((a61:Nat):Int)*o_25))<|.need (cI .i64 ((o_23+(((a46:Nat):Int)*o_24))+(((a61:Nat):Int)*o_25)))<|.need (fO ((o_23+(((a46:Nat):Int)*o_24))+(((a61:Nat):Int)*o_25)) n_6)<|.need (fD (Int.toNat ((o_23+(((a46:Nat):Int)*o_24))+(((a61:Nat):Int)*o_25))) (List.length l62))<|.need (fD 0 2)<|.need (fD 1 2)<|.need (fO (0:Int) 2)<|.need (fD 0 2)<|.need (fO (1:Int) 2)<|.need (fD 1 2)<|.need (fO (0:Int) 2)<|.need (fD 0 2)<|.alt 1
        (.need (dD (aa a63 a64 l67 i2 i3 (0:Int) i3 (1:Int) ((a46:Nat):Int) (0:Int) (1:Int) i3))<|.need (fO (1:Int) 2)<|.need (fD 1 2)<|.alt 1
          (.need (dD (aa a65 a66 l68 i4 i5 (0:Int) i5 (1:Int) (0:Int) ((a61:Nat):Int) i4 (1:Int)))<|.need (bm 0 (aE (aa a63 a64 l67 i2 i3 (0:Int) i3 (1:Int) ((a46:Nat):Int) (0:Int) (1:Int) i3)) (aF (aa a63 a64 l67 i2 i3 (0:Int) i3 (1:Int) ((a46:Nat):Int) (0:Int) (1:Int) i3)))<|.need (bm 0 (aE (aa a65 a66 l68 i4 i5 (0:Int) i5 (1:Int) (0:Int) ((a61:Nat):Int) i4 (1:Int))) (aF (aa a65 a66 l68 i4 i5 (0:Int) i5 (1:Int) (0:Int) ((a61:Nat):Int) i4 (1:Int))))<|.need (bJ (bb (0:Int) i3 (ab 0 (aE (aa a63 a64 l67 i2 i3 (0:Int) i3 (1:Int) ((a46:Nat):Int) (0:Int) (1:Int) i3)) (aF (aa a63 a64 l67 i2 i3 (0:Int) i3 (1:Int) ((a46:Nat):Int) (0:Int) (1:Int) i3))) (aO (aa a63 a64 l67 i2 i3 (0:Int) i3 (1:Int) ((a46:Nat):Int) (0:Int) (1:Int) i3)) (aP (aa a63 a64 l67 i2 i3 (0:Int) i3 (1:Int) ((a46:Nat):Int) (0:Int) (1:Int) i3)) (aQ (aa a63 a64 l67 i2 i3 (0:Int) i3 (1:Int) ((a46:Nat):Int) (0:Int) (1:Int) i3)) (aR (aa a63 a64 l67 i2 i3 (0:Int) i3 (1:Int) ((a46:Nat):Int) (0:Int) (1:Int) i3)) (aS (aa a63 a64 l67 i2 i3 (0:Int) i3 (1:Int) ((a46:Nat):Int) (0:Int) (1:Int) i3)) (ab 0 (aE (aa a65 a66 l68 i4 i5 (0:Int) i5 (1:Int) (0:Int) ((a61:Nat):Int) i4 (1:Int))) (aF (aa a65 a66 l68 i4 i5 (0:Int) i5 (1:Int) (0:Int) ((a61:Nat):Int) i4 (1:Int)))) (aO (aa a65 a66 l68 i4 i5 (0:Int) i5 (1:Int) (0:Int) ((a61:Nat):Int) i4 (1:Int))) (aP (aa a65 a66 l68 i4 i5 (0:Int) i5 (1:Int) (0:Int) ((a61:Nat):Int) i4 (1:Int))) (aQ (aa a65 a66 l68 i4 i5 (0:Int) i5 (1:Int) (0:Int) ((a61:Nat):Int) i4 (1:Int))) (aR (aa a65 a66 l68 i4 i5 (0:Int) i5 (1:Int) (0:Int) ((a61:Nat):Int) i4 (1:Int))) (aS (aa a65 a66 l68 i4 i5 (0:Int) i5 (1:Int) (0:Int) ((a61:Nat):Int) i4 (1:Int)))))<|.need (bm 0 n_6 l62)<|.need (bd (ap o_21 o_22 ((a46:Nat):Int) ((a61:Nat):Int)))<|.ask (!(aX (ap o_21 o_22 ((a46:Nat):Int) ((a61:Nat):Int))))
            (.fail)
            (.need (cI .i64 (((a46:Nat):Int)*o_24))<|.need (cI .i64 (o_23+(((a46:Nat):Int)*o_24)))<|.need (cI .i64 (((a61:Nat):Int)*o_25))<|.need (cI .i64 ((o_23+(((a46:Nat):Int)*o_24))+(((a61:Nat):Int)*o_25)))<|.need (fO ((o_23+(((a46:Nat):Int)*o_24))+(((a61:Nat):Int)*o_25)) n_6)<|.need (fD (Int.toNat ((o_23+(((a46:Nat):Int)*o_24))+(((a61:Nat):Int)*o_25))) (List.length l62))<|.leaf (.inl ((List.set l62 (Int.toNat ((o_23+(((a46:Nat):Int)*o_24))+(((a61:Nat):Int)*o_25))) (rZ (lT b_20 (List.getD l62 (Int.toNat ((o_23+(((a46:Nat):Int)*o_24))+(((a61:Nat):Int)*o_25))) 0)) (lT a_9 (cn (bb (0:Int) i3 (ab 0 (aE (aa a63 a64 l67 i2 i3 (0:Int) i3 (1:Int) ((a46:Nat):Int) (0:Int) (1:Int) i3)) (aF (aa a63 a64 l67 i2 i3 (0:Int) i3 (1:Int) ((a46:Nat):Int) (0:Int) (1:Int) i3))) (aO (aa a63 a64 l67 i2 i3 (0:Int) i3 (1:Int) ((a46:Nat):Int) (0:Int) (1:Int) i3)) (aP (aa a63 a64 l67 i2 i3 (0:Int) i3 (1:Int) ((a46:Nat):Int) (0:Int) (1:Int) i3)) (aQ (aa a63 a64 l67 i2 i3 (0:Int) i3 (1:Int) ((a46:Nat):Int) (0:Int) (1:Int) i3)) (aR (aa a63 a64 l67 i2 i3 (0:Int) i3 (1:Int) ((a46:Nat):Int) (0:Int) (1:Int) i3)) (aS (aa a63 a64 l67 i2 i3 (0:Int) i3 (1:Int) ((a46:Nat):Int) (0:Int) (1:Int) i3)) (ab 0 (aE (aa a65 a66 l68 i4 i5 (0:Int) i5 (1:Int) (0:Int) ((a61:Nat):Int) i4 (1:Int))) (aF (aa a65 a66 l68 i4 i5 (0:Int) i5 (1:Int) (0:Int) ((a61:Nat):Int) i4 (1:Int)))) (aO (aa a65 a66 l68 i4 i5 (0:Int) i5 (1:Int) (0:Int) ((a61:Nat):Int) i4 (1:Int))) (aP (aa a65 a66 l68 i4 i5 (0:Int) i5 (1:Int) (0:Int) ((a61:Nat):Int) i4 (1:Int))) (aQ (aa a65 a66 l68 i4 i5 (0:Int) i5 (1:Int) (0:Int) ((a61:Nat):Int) i4 (1:Int))) (aR (aa a65 a66 l68 i4 i5 (0:Int) i5 (1:Int) (0:Int) ((a61:Nat):Int) i4 (1:Int))) (aS (aa a65 a66 l68 i4 i5 (0:Int) i5 (1:Int) (0:Int) ((a61:Nat):Int) i4 (1:Int)))))))),(aE (aa a63 a64 l67 i2 i3 (0:Int) i3 (1:Int) ((a46:Nat):Int) (0:Int) (1:Int) i3)),(bK (aa a63 a64 l67 i2 i3 (0:Int) i3 (1:Int) ((a46:Nat):Int) (0:Int) (1:Int) i3)),(aE (aa a65 a66 l68 i4 i5 (0:Int) i5 (1:Int) (0:Int) ((a61:Nat):Int) i4 (1:Int))),(bK (aa a65 a66 l68 i4 i5 (0:Int) i5 (1:Int) (0:Int) ((a61:Nat):Int) i4 (1:Int))),(aF (aa a63 a64 l67 i2 i3 (0:Int) i3 (1:Int) ((a46:Nat):Int) (0:Int) (1:Int) i3)),(aF (aa a65 a66 l68 i4 i5 (0:Int) i5 (1:Int) (0:Int) ((a61:Nat):Int) i4 (1:Int)))))))
          (.fail))
        (.fail)))
    (.leaf (.inr (.inl (l62,a63,a64,a65,a66,l67,l68))))
def Ir(a61:Nat)(l69:List Nat)(a70:Nat)(a71:Nat)(a72:Nat)(a73:Nat)(l74:List Nat)(l75:List Nat) :T ((Nat×(List Nat)×Nat×Nat×Nat×Nat×(List Nat)×(List Nat))⊕(((List Nat)×Nat×Nat×Nat×Nat×(List Nat)×(List Nat))⊕(((List Nat)×Nat×Nat×Nat×Nat×(List Nat)×(List Nat))⊕(((List Nat)×Nat×Nat×Nat×Nat×(List Nat)×(List Nat))⊕(Empty))))) :=
  .need (cI .i64 (((a61+1):Nat):Int))<|.leaf (.inl ((a61+1),l69,a70,a71,a72,a73,l74,l75))
noncomputable def qz(n_6:Nat)(a_9:Nat)(b_20:Nat)(o_21:Int)(o_22:Int)(o_23:Int)(o_24:Int)(o_25:Int)(i2:Int)(i3:Int)(i4:Int)(i5:Int)(a46:Nat) :Nat×(List Nat)×Nat×Nat×Nat×Nat×(List Nat)×(List Nat)→Option ((Nat×(List Nat)×Nat×Nat×Nat×Nat×(List Nat)×(List Nat))⊕(((List Nat)×Nat×Nat×Nat×Nat×(List Nat)×(List Nat))⊕(((List Nat)×Nat×Nat×Nat×Nat×(List Nat)×(List Nat))⊕(((List Nat)×Nat×Nat×Nat×Nat×(List Nat)×(List Nat))⊕(Empty))))):=fun (a61,l62,a63,a64,a65,a66,l67,l68) =>
  aL ((qy n_6 a_9 b_20 o_21 o_22 o_23 o_24 o_25 i2 i3 i4 i5 a46 a61 l62 a63 a64 a65 a66 l67 l68).run) fun (l69,a70,a71,a72,a73,l74,l75) =>
  (Ir a61 l69 a70 a71 a72 a73 l74 l75).run
theorem Is(n_0:Nat)(c_1:Nat)(l_2:List Nat)(n_3:Nat)(c_4:Nat)(l_5:List Nat)(n_6:Nat)(c_7:Nat)(l_8:List Nat)(a_9:Nat)(b_20:Nat)(o_21:Int)(o_22:Int)(o_23:Int)(o_24:Int)(o_25:Int)(i2:Int)(i3:Int)(i4:Int)(i5:Int)(a6:Nat)(a7:Nat)(l8:List Nat)(l9:List Nat)(a46:Nat)(a61:Nat)(l62:List Nat)(a63:Nat)(a64:Nat)(a65:Nat)(a66:Nat)(l67:List Nat)(l68:List Nat) :sX prog (qv n_0 c_1 l_2 n_3 c_4 l_5 n_6 c_7 l_8 a_9 b_20 o_21 o_22 o_23 o_24 o_25 i2 i3 i4 i5 a6 a7 l8 l9) 17 Ip (mj n_0 c_1 l_2 n_3 c_4 l_5 n_6 c_7 a_9 b_20 o_21 o_22 o_23 o_24 o_25 i2 i3 i4 i5 a46 (a61,l62,a63,a64,a65,a66,l67,l68)) (qz n_6 a_9 b_20 o_21 o_22 o_23 o_24 o_25 i2 i3 i4 i5 a46 (a61,l62,a63,a64,a65,a66,l67,l68)) (mj n_0 c_1 l_2 n_3 c_4 l_5 n_6 c_7 a_9 b_20 o_21 o_22 o_23 o_24 o_25 i2 i3 i4 i5 a46) (du 2 (xk n_0 c_1 l_2 n_3 c_4 l_5 n_6 c_7 a_9 b_20 o_21 o_22 o_23 o_24 o_25 i2 i3 i4 i5 a46) (du 1 (qx n_0 c_1 l_2 n_3 c_4 l_5 n_6 c_7 a_9 b_20 o_21 o_22 o_23 o_24 o_25 i2 i3 i4 i5 a46) (du 0 (qw n_0 c_1 l_2 n_3 c_4 l_5 n_6 c_7 a_9 b_20 o_21 o_22 o_23 o_24 o_25 i2 i3 i4 i5) noX))):=by
  unfold qz;exact sX.cut 3 (bi (bi (bi jq))) (CQ ak (Iq n_0 c_1 l_2 n_3 c_4 l_5 n_6 c_7 a_9 b_20 o_21 o_22 o_23 o_24 o_25 i2 i3 i4 i5 a46 a61) [⟨[],[0,1,2,3,4,5,6,7,8,9,10,11,12,13,14,15,16],[0,1,3,6,7,11,12]⟩,⟨[],[0,1,2,3,4,5,6,7,8,9,10,11,12,13,14,15,16],[0,1,6,7]⟩]) (fun ⟨l69,a70,a71,a72,a73,l74,l75⟩=>CQ ak (mj n_0 c_1 l_2 n_3 c_4 l_5 n_6 c_7 a_9 b_20 o_21 o_22 o_23 o_24 o_25 i2 i3 i4 i5 a46) [⟨[],[0,1,2,3,4,5,6,7,8,9,10,11,12,13,14,15,16],[0,1,3,6,7,11,12]⟩])
def It(l76:List Nat)(a77:Nat)(a78:Nat)(a79:Nat)(a80:Nat)(l81:List Nat)(l82:List Nat) :T (((List Nat)×Nat×Nat×Nat×Nat×(List Nat)×(List Nat))⊕(((List Nat)×Nat×Nat×Nat×Nat×(List Nat)×(List Nat))⊕(((List Nat)×Nat×Nat×Nat×Nat×(List Nat)×(List Nat))⊕(Empty)))) :=
  .leaf (.inl (l76,a77,a78,a79,a80,l81,l82))
def Iu(a46:Nat)(l83:List Nat)(a84:Nat)(a85:Nat)(a86:Nat)(a87:Nat)(l88:List Nat)(l89:List Nat) :T ((Nat×(List Nat)×Nat×Nat×Nat×Nat×(List Nat)×(List Nat))⊕(((List Nat)×Nat×Nat×Nat×Nat×(List Nat)×(List Nat))⊕(Empty))) :=
  .need (cI .i64 (((a46+1):Nat):Int))<|.leaf (.inl ((a46+1),l83,a84,a85,a86,a87,l88,l89))
noncomputable def qA(n_6:Nat)(a_9:Nat)(b_20:Nat)(o_21:Int)(o_22:Int)(o_23:Int)(o_24:Int)(o_25:Int)(i2:Int)(i3:Int)(i4:Int)(i5:Int) :Nat×(List Nat)×Nat×Nat×Nat×Nat×(List Nat)×(List Nat)→Option ((Nat×(List Nat)×Nat×Nat×Nat×Nat×(List Nat)×(List Nat))⊕(((List Nat)×Nat×Nat×Nat×Nat×(List Nat)×(List Nat))⊕(Empty))):=fun (a46,l47,a48,a49,a50,a51,l52,l53) =>
  aL ((Il o_21 a46 l47 a48 a49 a50 a51 l52 l53).run) fun _ =>
  aL (wQ (aL ((Io).run) fun _ =>
  aL (dJ (qz n_6 a_9 b_20 o_21 o_22 o_23 o_24 o_25 i2 i3 i4 i5 a46) (0,l47,a48,a49,a50,a51,l52,l53)) fun (l76,a77,a78,a79,a80,l81,l82) =>
  (It l76 a77 a78 a79 a80 l81 l82).run)) fun (l83,a84,a85,a86,a87,l88,l89) =>
  (Iu a46 l83 a84 a85 a86 a87 l88 l89).run
theorem Iv(n_0:Nat)(c_1:Nat)(l_2:List Nat)(n_3:Nat)(c_4:Nat)(l_5:List Nat)(n_6:Nat)(c_7:Nat)(l_8:List Nat)(a_9:Nat)(b_20:Nat)(o_21:Int)(o_22:Int)(o_23:Int)(o_24:Int)(o_25:Int)(i2:Int)(i3:Int)(i4:Int)(i5:Int)(a6:Nat)(a7:Nat)(l8:List Nat)(l9:List Nat)(a46:Nat)(l47:List Nat)(a48:Nat)(a49:Nat)(a50:Nat)(a51:Nat)(l52:List Nat)(l53:List Nat) :sX prog (qv n_0 c_1 l_2 n_3 c_4 l_5 n_6 c_7 l_8 a_9 b_20 o_21 o_22 o_23 o_24 o_25 i2 i3 i4 i5 a6 a7 l8 l9) 17 xj (mi n_0 c_1 l_2 n_3 c_4 l_5 n_6 c_7 a_9 b_20 o_21 o_22 o_23 o_24 o_25 i2 i3 i4 i5 (a46,l47,a48,a49,a50,a51,l52,l53)) (qA n_6 a_9 b_20 o_21 o_22 o_23 o_24 o_25 i2 i3 i4 i5 (a46,l47,a48,a49,a50,a51,l52,l53)) (mi n_0 c_1 l_2 n_3 c_4 l_5 n_6 c_7 a_9 b_20 o_21 o_22 o_23 o_24 o_25 i2 i3 i4 i5) (du 0 (qw n_0 c_1 l_2 n_3 c_4 l_5 n_6 c_7 a_9 b_20 o_21 o_22 o_23 o_24 o_25 i2 i3 i4 i5) noX):=by
  unfold qA;exact sX.cut 2 (bi jq) (CQ ak (Ik n_0 c_1 l_2 n_3 c_4 l_5 n_6 c_7 a_9 b_20 o_21 o_22 o_23 o_24 o_25 i2 i3 i4 i5 a46 l47 a48 a49 a50 a51 l52 l53) [⟨[],[0,1,2,3,4,5,6,7,8,9,10,11,12,13,14,15,16],[0,1,6,7]⟩,⟨[],[0,1,2,3,4,5,6,7,8,9,10,11,12,13,14,15,16],[]⟩]) (fun _=>sX.cut 1 (bi jq) (aid (qx n_0 c_1 l_2 n_3 c_4 l_5 n_6 c_7 a_9 b_20 o_21 o_22 o_23 o_24 o_25 i2 i3 i4 i5 a46) 1 (bi jq) (lX (by decide) (H6 _)) (sX.cut 2 (bi (bi jq)) (CQ ak (In n_0 c_1 l_2 n_3 c_4 l_5 n_6 c_7 a_9 b_20 o_21 o_22 o_23 o_24 o_25 i2 i3 i4 i5 a46 l47 a48 a49 a50 a51 l52 l53) [⟨[],[0,1,2,3,4,5,6,7,8,9,10,11,12,13,14,15,16],[0,1,3,6,7,11,12]⟩]) (fun _=>sX.cut 1 (bi (bi jq)) (agf ⟨[],[0,1,2,3,4,5,6,7,8,9,10,11,12,13,14,15,16],[0,1,3,6,7,11,12]⟩ (mj n_0 c_1 l_2 n_3 c_4 l_5 n_6 c_7 a_9 b_20 o_21 o_22 o_23 o_24 o_25 i2 i3 i4 i5 a46) (xk n_0 c_1 l_2 n_3 c_4 l_5 n_6 c_7 a_9 b_20 o_21 o_22 o_23 o_24 o_25 i2 i3 i4 i5 a46) 2 (bi (bi jq)) (lX (by decide) (lX (by decide) (H6 _))) (fun ⟨a61,l62,a63,a64,a65,a66,l67,l68⟩=>Is n_0 c_1 l_2 n_3 c_4 l_5 n_6 c_7 l_8 a_9 b_20 o_21 o_22 o_23 o_24 o_25 i2 i3 i4 i5 a6 a7 l8 l9 a46 a61 l62 a63 a64 a65 a66 l67 l68)) (fun ⟨l76,a77,a78,a79,a80,l81,l82⟩=>CQ ak (qx n_0 c_1 l_2 n_3 c_4 l_5 n_6 c_7 a_9 b_20 o_21 o_22 o_23 o_24 o_25 i2 i3 i4 i5 a46) [⟨[],[0,1,2,3,4,5,6,7,8,9,10,11,12,13,14,15,16],[0,1,6,7]⟩])))) (fun ⟨l83,a84,a85,a86,a87,l88,l89⟩=>CQ ak (mi n_0 c_1 l_2 n_3 c_4 l_5 n_6 c_7 a_9 b_20 o_21 o_22 o_23 o_24 o_25 i2 i3 i4 i5) [⟨[],[0,1,2,3,4,5,6,7,8,9,10,11,12,13,14,15,16],[0,1,6,7]⟩]))
def Iw(l90:List Nat)(a91:Nat)(a92:Nat)(a93:Nat)(a94:Nat)(l95:List Nat)(l96:List Nat) :T (((List Nat)×Nat×Nat×Nat×Nat×(List Nat)×(List Nat))⊕(Empty)) :=
  .leaf (.inl (l90,a91,a92,a93,a94,l95,l96))
def Ix(n_0:Nat)(c_1:Nat)(l_2:List Nat)(n_3:Nat)(c_4:Nat)(l_5:List Nat)(n_6:Nat)(c_7:Nat)(l104:List Nat) :T ((Empty)⊕(bB)) :=
  .leaf (.inr (.r0 0 n_0 c_1 l_2 n_3 c_4 l_5 n_6 c_7 l104))
noncomputable def gF(n_0:Nat)(c_1:Nat)(l_2:List Nat)(n_3:Nat)(c_4:Nat)(l_5:List Nat)(n_6:Nat)(c_7:Nat)(l_8:List Nat)(a_9:Nat)(m_10:Int)(m_11:Int)(m_12:Int)(m_13:Int)(m_14:Int)(n_15:Int)(n_16:Int)(n_17:Int)(n_18:Int)(n_19:Int)(b_20:Nat)(o_21:Int)(o_22:Int)(o_23:Int)(o_24:Int)(o_25:Int) :Option bB:=mU (aL ((xf m_10 m_11 n_15 n_16 o_21 o_22).run) fun e1 =>
  aL ((xg n_0 c_1 l_2 n_3 c_4 l_5 n_6 c_7 l_8 m_10 m_11 m_12 m_13 m_14 n_15 n_16 n_17 n_18 n_19 e1).run) fun (i2,i3,i4,i5,a6,a7,l8,l9) =>
  aL ((Ig).run) fun _ =>
  aL (wQ (Option.map ((Sum.elim (fun (l97,a98,a99,a100,a101,l102,l103)=>.inl l97) (fun a:Empty=>a.elim)):((List Nat)×Nat×Nat×Nat×Nat×(List Nat)×(List Nat))⊕(Empty)→((List Nat))⊕(((List Nat))⊕(bB))) (aL ((Ij).run) fun _ =>
  aL (dJ (qA n_6 a_9 b_20 o_21 o_22 o_23 o_24 o_25 i2 i3 i4 i5) (0,l_8,a6,a6,a7,a7,l8,l9)) fun (l90,a91,a92,a93,a94,l95,l96) =>
  (Iw l90 a91 a92 a93 a94 l95 l96).run))) fun l104 =>
  (Ix n_0 c_1 l_2 n_3 c_4 l_5 n_6 c_7 l104).run)
theorem KB(n_0:Nat)(c_1:Nat)(l_2:List Nat)(n_3:Nat)(c_4:Nat)(l_5:List Nat)(n_6:Nat)(c_7:Nat)(l_8:List Nat)(a_9:Nat)(m_10:Int)(m_11:Int)(m_12:Int)(m_13:Int)(m_14:Int)(n_15:Int)(n_16:Int)(n_17:Int)(n_18:Int)(n_19:Int)(b_20:Nat)(o_21:Int)(o_22:Int)(o_23:Int)(o_24:Int)(o_25:Int){x:bB}(h:gF n_0 c_1 l_2 n_3 c_4 l_5 n_6 c_7 l_8 a_9 m_10 m_11 m_12 m_13 m_14 n_15 n_16 n_17 n_18 n_19 b_20 o_21 o_22 o_23 o_24 o_25=some x) :ag prog oE [.vs [.sl 1 1 1 0 n_0 c_1],.fl l_2,.vs [.sl 3 1 1 0 n_3 c_4],.fl l_5,.vs [.sl 5 1 1 0 n_6 c_7],.fl l_8] [.flt false a_9,.agg [.ptr 0 1 0 0,.int .i64 m_10,.int .i64 m_11,.int .i64 m_12,.int .i64 m_13,.int .i64 m_14],.agg [.ptr 2 1 0 0,.int .i64 n_15,.int .i64 n_16,.int .i64 n_17,.int .i64 n_18,.int .i64 n_19],.flt false b_20,.agg [.ptr 4 1 0 0,.int .i64 o_21,.int .i64 o_22,.int .i64 o_23,.int .i64 o_24,.int .i64 o_25]] (uj x) :=
  ol false uj ui h (Sg.cut 2 kA (bZ ak (Ky n_0 c_1 l_2 n_3 c_4 l_5 n_6 c_7 l_8 a_9 m_10 m_11 m_12 m_13 m_14 n_15 n_16 n_17 n_18 n_19 b_20 o_21 o_22 o_23 o_24 o_25) [⟨[],[0,1,2,3,4,5,6,22,38,54,70],[5,6,7,8,9,11]⟩,⟨[],[0,1,2,3,4,5,6,22,38,54,70],[5,6,7,8,9,11]⟩,⟨[],[0,1,2,3,4,5,6,22,38,54,70],[5,6,7,8,9,11]⟩,⟨[],[0,1,2,3,4,5,6,22,38,54,70],[5,6,7,8,9,11]⟩]) (fun e1=>Sg.cut 3 kA (bZ ak (Kz n_0 c_1 l_2 n_3 c_4 l_5 n_6 c_7 l_8 a_9 b_20 o_21 o_22 o_23 o_24 o_25) [⟨[],[0,1,2,3,4,5],[10]⟩,⟨[],[0,1,2,3,4,5,6,7,8,9,10,59,91,60,92],[5,6,7,8,9]⟩]) (fun ⟨i2,i3,i4,i5,a6,a7,l8,l9⟩=>Sg.cut 1 kA (bZ ak (Ab n_0 c_1 l_2 n_3 c_4 l_5 n_6 c_7 l_8 a_9 b_20 o_21 o_22 o_23 o_24 o_25 i2 i3 i4 i5 a6 a7 l8 l9) [⟨[],[0,1,2,3,4,5,6,7,8,9,10,31,11,12,13,14],[5,6,7,8,9,28]⟩]) (fun _=>Sg.cut 1 kA (sgb (xh n_0 c_1 l_2 n_3 c_4 l_5 n_6 c_7) 0 kA (Kx _) (sgr (qv n_0 c_1 l_2 n_3 c_4 l_5 n_6 c_7 l_8 a_9 b_20 o_21 o_22 o_23 o_24 o_25 i2 i3 i4 i5 a6 a7 l8 l9) 17 fv [] [.ptr 11 1 0 0] (xi n_0 c_1 l_2 n_3 c_4 l_5 n_6 c_7 a_9 b_20 o_21 o_22 o_23 o_24 o_25 i2 i3 i4 i5) noX (xh n_0 c_1 l_2 n_3 c_4 l_5 n_6 c_7) (Sum.elim (fun _=>⟨[],[0,1,2,3,4,5],[]⟩) (fun a=>a.elim)) ((Sum.elim (fun (l97,a98,a99,a100,a101,l102,l103)=>.inl l97) (fun a:Empty=>a.elim)):((List Nat)×Nat×Nat×Nat×Nat×(List Nat)×(List Nat))⊕(Empty)→((List Nat))⊕(((List Nat))⊕(bB))) (sX.cut 1 jq (CQ ak (KA n_0 c_1 l_2 n_3 c_4 l_5 n_6 c_7 l_8 a_9 b_20 o_21 o_22 o_23 o_24 o_25 i2 i3 i4 i5 a6 a7 l8 l9) [⟨[],[0,1,2,3,4,5,6,7,8,9,10,11,12,13,14,15,16],[0,1,6,7]⟩]) (fun _=>sX.cut 1 jq (agf ⟨[],[0,1,2,3,4,5,6,7,8,9,10,11,12,13,14,15,16],[0,1,6,7]⟩ (mi n_0 c_1 l_2 n_3 c_4 l_5 n_6 c_7 a_9 b_20 o_21 o_22 o_23 o_24 o_25 i2 i3 i4 i5) (qw n_0 c_1 l_2 n_3 c_4 l_5 n_6 c_7 a_9 b_20 o_21 o_22 o_23 o_24 o_25 i2 i3 i4 i5) 0 jq (H6 _) (fun ⟨a46,l47,a48,a49,a50,a51,l52,l53⟩=>Iv n_0 c_1 l_2 n_3 c_4 l_5 n_6 c_7 l_8 a_9 b_20 o_21 o_22 o_23 o_24 o_25 i2 i3 i4 i5 a6 a7 l8 l9 a46 l47 a48 a49 a50 a51 l52 l53)) (fun ⟨l90,a91,a92,a93,a94,l95,l96⟩=>CQ ak (xi n_0 c_1 l_2 n_3 c_4 l_5 n_6 c_7 a_9 b_20 o_21 o_22 o_23 o_24 o_25 i2 i3 i4 i5) [⟨[],[0,1,2,3,4,5,6,7,8,9,10,11,12,13,14,15,16],[]⟩]))) (fun | .inl ⟨l97,a98,a99,a100,a101,l102,l103⟩=>by exact rfl | .inr a=>a.elim) (fun | .inl ⟨l97,a98,a99,a100,a101,l102,l103⟩=>by kernel_rfl | .inr a=>a.elim))) (fun l104=>bZ ak mF [⟨[],[0,1,2,3,4,5],[10]⟩])))))
    (fun x=>by cases x with | r0 a105 a106 a107 l108 a109 a110 l111 a112 a113 l114=>exact mw [.int .i64 ((a105:Nat):Int)])
def nt:Option bB→Bool
  | some _=>true
  | none=>false
def vo:Option bB→Nat
  | some (.r0 x _ _ _ _ _ _ _ _ _)=>x
  | _=>0
def vp:Option bB→Nat
  | some (.r0 _ x _ _ _ _ _ _ _ _)=>x
  | _=>0
def vq:Option bB→Nat
  | some (.r0 _ _ x _ _ _ _ _ _ _)=>x
  | _=>0
def vt:Option bB→List Nat
  | some (.r0 _ _ _ x _ _ _ _ _ _)=>x
  | _=>[]
def vu:Option bB→Nat
  | some (.r0 _ _ _ _ x _ _ _ _ _)=>x
  | _=>0
def vv:Option bB→Nat
  | some (.r0 _ _ _ _ _ x _ _ _ _)=>x
  | _=>0
def vw:Option bB→List Nat
  | some (.r0 _ _ _ _ _ _ x _ _ _)=>x
  | _=>[]
def pt:Option bB→Nat
  | some (.r0 _ _ _ _ _ _ _ x _ _)=>x
  | _=>0
def pu:Option bB→Nat
  | some (.r0 _ _ _ _ _ _ _ _ x _)=>x
  | _=>0
def pv:Option bB→List Nat
  | some (.r0 _ _ _ _ _ _ _ _ _ x)=>x
  | _=>[]
theorem KC{x:Option bB}(h:nt x=true) :x=some (.r0 (vo x) (vp x) (vq x) (vt x) (vu x) (vv x) (vw x) (pt x) (pu x) (pv x)):=by
  unfold nt at h
  split at h<;>first | rfl | (cases h;done) | (rename_i y;cases y;rfl)
noncomputable def BO:aA:=Jn oE [.vs [.lsl0 1],.fl,.vs [.lsl0 3],.fl,.vs [.lsl0 5],.fl] (.cons (.flt false) (.cons (.agg (.cons (.lptr 0 1 0 0) (.cons (.int .i64) (.cons (.int .i64) (.cons (.int .i64) (.cons (.int .i64) (.cons (.int .i64) .nil))))))) (.cons (.agg (.cons (.lptr 2 1 0 0) (.cons (.int .i64) (.cons (.int .i64) (.cons (.int .i64) (.cons (.int .i64) (.cons (.int .i64) .nil))))))) (.cons (.flt false) (.cons (.agg (.cons (.lptr 4 1 0 0) (.cons (.int .i64) (.cons (.int .i64) (.cons (.int .i64) (.cons (.int .i64) (.cons (.int .i64) .nil))))))) .nil))))) fun x t=>(fun q=>[⟨uj (.r0 (vo q) (vp q) (vq q) (vt q) (vu q) (vv q) (vw q) (pt q) (pu q) (pv q)),[nt q]⟩]) (gF x.1.1.1 x.1.1.2 x.2.1 x.2.2.1.1.1 x.2.2.1.1.2 x.2.2.2.1 x.2.2.2.2.1.1.1 x.2.2.2.2.1.1.2 x.2.2.2.2.2.1 t.1 t.2.1.2.1 t.2.1.2.2.1 t.2.1.2.2.2.1 t.2.1.2.2.2.2.1 t.2.1.2.2.2.2.2.1 t.2.2.1.2.1 t.2.2.1.2.2.1 t.2.2.1.2.2.2.1 t.2.2.1.2.2.2.2.1 t.2.2.1.2.2.2.2.2.1 t.2.2.2.1 t.2.2.2.2.1.2.1 t.2.2.2.2.1.2.2.1 t.2.2.2.2.1.2.2.2.1 t.2.2.2.2.1.2.2.2.2.1 t.2.2.2.2.1.2.2.2.2.2.1)
theorem GX:aN prog BO:=wM fun x t=>(oc (fun h=>KB x.1.1.1 x.1.1.2 x.2.1 x.2.2.1.1.1 x.2.2.1.1.2 x.2.2.2.1 x.2.2.2.2.1.1.1 x.2.2.2.2.1.1.2 x.2.2.2.2.2.1 t.1 t.2.1.2.1 t.2.1.2.2.1 t.2.1.2.2.2.1 t.2.1.2.2.2.2.1 t.2.1.2.2.2.2.2.1 t.2.2.1.2.1 t.2.2.1.2.2.1 t.2.2.1.2.2.2.1 t.2.2.1.2.2.2.2.1 t.2.2.1.2.2.2.2.2.1 t.2.2.2.1 t.2.2.2.2.1.2.1 t.2.2.2.2.1.2.2.1 t.2.2.2.2.1.2.2.2.1 t.2.2.2.2.1.2.2.2.2.1 t.2.2.2.2.1.2.2.2.2.2.1 (KC h)) wN)
noncomputable def BP:List aA:=BO::dL
theorem bf:aH prog (aG BP):=au GX ak
inductive aJ where
  | r0 (a87:Nat) (i88:Int) (i89:Int) (a90:Nat) (a91:Nat) (l92:List Nat)
def lQ:aJ→AE×aC
  | .r0 a87 i88 i89 a90 a91 l92=>(.ret,⟨ah 127 [(8,.ptr 0 1 0 0),(9,.int .i64 ((a87:Nat):Int))],[(0,.vs [.int .i64 i88,.int .i64 i89,.sl 1 1 1 0 a90 a91]),(1,.fl l92)],2⟩)
theorem bD:kE lQ:=by intro x;cases x<;>(intro h;cases h)
theorem sx(id:Nat) :mu id lQ:=by intro x;cases x<;>(intro h;cases h)
def uk:aJ→ir
  | .r0 a87 i88 i89 a90 a91 l92=>⟨.tup [.agg [.int .i64 i88,.int .i64 i89,.sl 0 1 1 0 a90 a91],.int .i64 ((a87:Nat):Int)],[some (.fl l92)]⟩
noncomputable def Iy:List Code:=dp (nD tC)
def KD(v_0:Lv)(s_1:List Nat)(u_2:Int)(u_3:Int)(v_4:Lv)(u_5:List Nat)(v_6:Int)(v_7:Int)(v_8:Lv)(v_9:List Nat)(k_10:Int)(e1:Nat) :aC:=⟨ah 127 [(0,.imm v_0 (.fl s_1) 1 1 0 (List.length s_1)),(3,.int .i64 k_10),(5,.ptr 0 1 0 0),(6,.ptr 1 1 0 0),(8,.ptr 2 1 0 0),(10,.int .i64 ((e1:Nat):Int))],[(0,.vs [.int .i64 u_2,.int .i64 u_3,.imm v_4 (.fl u_5) 1 1 0 (List.length u_5)]),(1,.vs [.int .i64 v_6,.int .i64 v_7,.imm v_8 (.fl v_9) 1 1 0 (List.length v_9)]),(2,.vs [.int .i64 (0:Int),.int .i64 (0:Int),.nsl])],3⟩
def qB(s_1:List Nat) :T ((Nat)⊕(aJ)) :=
  .need (bm 0 (List.length s_1) s_1)<|.need (rJ (nL (ab 0 (List.length s_1) s_1)))<|.leaf (.inl (ri (nL (ab 0 (List.length s_1) s_1))))
def KE(v_0:Lv)(s_1:List Nat)(u_2:Int)(u_3:Int)(v_4:Lv)(u_5:List Nat)(v_6:Int)(v_7:Int)(v_8:Lv)(v_9:List Nat)(k_10:Int)(e1:Nat)(_:Unit) :aC:=⟨ah 127 [(0,.imm v_0 (.fl s_1) 1 1 0 (List.length s_1)),(3,.int .i64 k_10),(5,.ptr 0 1 0 0),(6,.ptr 1 1 0 0),(8,.ptr 2 1 0 0),(10,.int .i64 ((e1:Nat):Int)),(11,.ptr 3 1 0 0),(12,.int .i64 (2:Int))],[(0,.vs [.int .i64 u_2,.int .i64 u_3,.imm v_4 (.fl u_5) 1 1 0 (List.length u_5)]),(1,.vs [.int .i64 v_6,.int .i64 v_7,.imm v_8 (.fl v_9) 1 1 0 (List.length v_9)]),(2,.vs [.int .i64 (0:Int),.int .i64 (0:Int),.nsl]),(3,.vs [.nptr,.int .i64 (0:Int),.int .i64 (0:Int),.int .i64 (0:Int),.int .i64 (0:Int),.int .i64 (0:Int)])],4⟩
def KF(v_0:Lv)(s_1:List Nat)(u_2:Int)(u_3:Int)(v_4:Lv)(u_5:List Nat)(v_6:Int)(v_7:Int)(v_8:Lv)(v_9:List Nat)(k_10:Int)(e1:Nat) :Int×Int×Nat×(List Nat)→aC:=fun (i2,i3,a4,l5)=>⟨ah 127 [(0,.imm v_0 (.fl s_1) 1 1 0 (List.length s_1)),(3,.int .i64 k_10),(5,.ptr 0 1 0 0),(6,.ptr 1 1 0 0),(8,.ptr 2 1 0 0),(10,.int .i64 ((e1:Nat):Int)),(11,.ptr 3 1 0 0),(12,.int .i64 (0:Int))],[(0,.vs [.int .i64 u_2,.int .i64 u_3,.imm v_4 (.fl u_5) 1 1 0 (List.length u_5)]),(1,.vs [.int .i64 v_6,.int .i64 v_7,.imm v_8 (.fl v_9) 1 1 0 (List.length v_9)]),(2,.vs [.int .i64 (0:Int),.int .i64 (0:Int),.nsl]),(3,.vs [.ptr 4 1 0 0,.int .i64 i2,.int .i64 i3,.int .i64 (0:Int),.int .i64 i3,.int .i64 (1:Int)]),(4,.vs [.sl 5 1 1 0 a4 a4]),(5,.fl l5)],6⟩
def qC(u_2:Int)(u_3:Int)(u_5:List Nat) :T (((Unit)⊕((Int×Int×Nat×(List Nat))))⊕(aJ)) :=
  .alt 0
    (.need (bm 0 (List.length u_5) u_5)<|.need (qu (bS u_2 u_3 (ab 0 (List.length u_5) u_5)))<|.leaf (.inl (.inl ())))
    (.alt 1
      (.need (bm 0 (List.length u_5) u_5)<|.need (jN (bS u_2 u_3 (ab 0 (List.length u_5) u_5)))<|.leaf (.inl (.inr ((jO (bS u_2 u_3 (ab 0 (List.length u_5) u_5))),(jP (bS u_2 u_3 (ab 0 (List.length u_5) u_5))),(jQ (bS u_2 u_3 (ab 0 (List.length u_5) u_5))),(jR (bS u_2 u_3 (ab 0 (List.length u_5) u_5)))))))
      (.fail))
def KG(v_0:Lv)(s_1:List Nat)(u_2:Int)(u_3:Int)(v_4:Lv)(u_5:List Nat)(v_6:Int)(v_7:Int)(v_8:Lv)(v_9:List Nat)(k_10:Int)(e1:Nat)(_:Unit) :aC:=⟨ah 127 [(0,.imm v_0 (.fl s_1) 1 1 0 (List.length s_1)),(3,.int .i64 k_10),(5,.ptr 0 1 0 0),(6,.ptr 1 1 0 0),(8,.ptr 2 1 0 0),(10,.int .i64 ((e1:Nat):Int)),(11,.ptr 3 1 0 0),(12,.int .i64 (2:Int)),(13,.ptr 4 1 0 0),(14,.int .i64 (2:Int))],[(0,.vs [.int .i64 u_2,.int .i64 u_3,.imm v_4 (.fl u_5) 1 1 0 (List.length u_5)]),(1,.vs [.int .i64 v_6,.int .i64 v_7,.imm v_8 (.fl v_9) 1 1 0 (List.length v_9)]),(2,.vs [.int .i64 (0:Int),.int .i64 (0:Int),.nsl]),(3,.vs [.nptr,.int .i64 (0:Int),.int .i64 (0:Int),.int .i64 (0:Int),.int .i64 (0:Int),.int .i64 (0:Int)]),(4,.vs [.nptr,.int .i64 (0:Int),.int .i64 (0:Int),.int .i64 (0:Int),.int .i64 (0:Int),.int .i64 (0:Int)])],5⟩
def KH(v_0:Lv)(s_1:List Nat)(u_2:Int)(u_3:Int)(v_4:Lv)(u_5:List Nat)(v_6:Int)(v_7:Int)(v_8:Lv)(v_9:List Nat)(k_10:Int)(e1:Nat) :Int×Int×Nat×(List Nat)→aC:=fun (i6,i7,a8,l9)=>⟨ah 127 [(0,.imm v_0 (.fl s_1) 1 1 0 (List.length s_1)),(3,.int .i64 k_10),(5,.ptr 0 1 0 0),(6,.ptr 1 1 0 0),(8,.ptr 2 1 0 0),(10,.int .i64 ((e1:Nat):Int)),(11,.ptr 3 1 0 0),(12,.int .i64 (2:Int)),(13,.ptr 4 1 0 0),(14,.int .i64 (0:Int))],[(0,.vs [.int .i64 u_2,.int .i64 u_3,.imm v_4 (.fl u_5) 1 1 0 (List.length u_5)]),(1,.vs [.int .i64 v_6,.int .i64 v_7,.imm v_8 (.fl v_9) 1 1 0 (List.length v_9)]),(2,.vs [.int .i64 (0:Int),.int .i64 (0:Int),.nsl]),(3,.vs [.nptr,.int .i64 (0:Int),.int .i64 (0:Int),.int .i64 (0:Int),.int .i64 (0:Int),.int .i64 (0:Int)]),(4,.vs [.ptr 5 1 0 0,.int .i64 i6,.int .i64 i7,.int .i64 (0:Int),.int .i64 i7,.int .i64 (1:Int)]),(5,.vs [.sl 6 1 1 0 a8 a8]),(6,.fl l9)],7⟩
def Iz(v_6:Int)(v_7:Int)(v_9:List Nat) :T (((Unit)⊕((Int×Int×Nat×(List Nat))))⊕(aJ)) :=
  .alt 0
    (.need (bm 0 (List.length v_9) v_9)<|.need (qu (bS v_6 v_7 (ab 0 (List.length v_9) v_9)))<|.leaf (.inl (.inl ())))
    (.alt 1
      (.need (bm 0 (List.length v_9) v_9)<|.need (jN (bS v_6 v_7 (ab 0 (List.length v_9) v_9)))<|.leaf (.inl (.inr ((jO (bS v_6 v_7 (ab 0 (List.length v_9) v_9))),(jP (bS v_6 v_7 (ab 0 (List.length v_9) v_9))),(jQ (bS v_6 v_7 (ab 0 (List.length v_9) v_9))),(jR (bS v_6 v_7 (ab 0 (List.length v_9) v_9)))))))
      (.fail))
def IA(e1:Nat) :T ((Empty)⊕(aJ)) :=
  .ask (((e1:Nat):Int)==(2:Int))
    (.leaf (.inr (.r0 2 (0:Int) (0:Int) 0 0 ([]:List Nat))))
    (.ask ((2:Int) != (0:Int))
      (.leaf (.inr (.r0 2 (0:Int) (0:Int) 0 0 ([]:List Nat))))
      (.fail))
def IB(e1:Nat) :T ((Empty)⊕(aJ)) :=
  .ask (((e1:Nat):Int)==(2:Int))
    (.leaf (.inr (.r0 2 (0:Int) (0:Int) 0 0 ([]:List Nat))))
    (.ask ((2:Int) != (0:Int))
      (.leaf (.inr (.r0 2 (0:Int) (0:Int) 0 0 ([]:List Nat))))
      (.fail))
noncomputable def IC:List Code:=((Iy.drop 2).drop 1)
def KI(v_0:Lv)(s_1:List Nat)(u_2:Int)(u_3:Int)(v_4:Lv)(u_5:List Nat)(v_6:Int)(v_7:Int)(v_8:Lv)(v_9:List Nat)(k_10:Int)(e1:Nat)(i2:Int)(i3:Int)(a4:Nat)(l5:List Nat)(_:Unit) :aC:=⟨ah 127 [(0,.imm v_0 (.fl s_1) 1 1 0 (List.length s_1)),(3,.int .i64 k_10),(5,.ptr 0 1 0 0),(6,.ptr 1 1 0 0),(8,.ptr 2 1 0 0),(10,.int .i64 ((e1:Nat):Int)),(11,.ptr 3 1 0 0),(12,.int .i64 (0:Int)),(13,.ptr 4 1 0 0),(14,.int .i64 (2:Int))],[(0,.vs [.int .i64 u_2,.int .i64 u_3,.imm v_4 (.fl u_5) 1 1 0 (List.length u_5)]),(1,.vs [.int .i64 v_6,.int .i64 v_7,.imm v_8 (.fl v_9) 1 1 0 (List.length v_9)]),(2,.vs [.int .i64 (0:Int),.int .i64 (0:Int),.nsl]),(3,.vs [.ptr 5 1 0 0,.int .i64 i2,.int .i64 i3,.int .i64 (0:Int),.int .i64 i3,.int .i64 (1:Int)]),(4,.vs [.nptr,.int .i64 (0:Int),.int .i64 (0:Int),.int .i64 (0:Int),.int .i64 (0:Int),.int .i64 (0:Int)]),(5,.vs [.sl 6 1 1 0 a4 a4]),(6,.fl l5)],7⟩
def KJ(v_0:Lv)(s_1:List Nat)(u_2:Int)(u_3:Int)(v_4:Lv)(u_5:List Nat)(v_6:Int)(v_7:Int)(v_8:Lv)(v_9:List Nat)(k_10:Int)(e1:Nat)(i2:Int)(i3:Int)(a4:Nat)(l5:List Nat) :Int×Int×Nat×(List Nat)→aC:=fun (i10,i11,a12,l13)=>⟨ah 127 [(0,.imm v_0 (.fl s_1) 1 1 0 (List.length s_1)),(3,.int .i64 k_10),(5,.ptr 0 1 0 0),(6,.ptr 1 1 0 0),(8,.ptr 2 1 0 0),(10,.int .i64 ((e1:Nat):Int)),(11,.ptr 3 1 0 0),(12,.int .i64 (0:Int)),(13,.ptr 4 1 0 0),(14,.int .i64 (0:Int))],[(0,.vs [.int .i64 u_2,.int .i64 u_3,.imm v_4 (.fl u_5) 1 1 0 (List.length u_5)]),(1,.vs [.int .i64 v_6,.int .i64 v_7,.imm v_8 (.fl v_9) 1 1 0 (List.length v_9)]),(2,.vs [.int .i64 (0:Int),.int .i64 (0:Int),.nsl]),(3,.vs [.ptr 5 1 0 0,.int .i64 i2,.int .i64 i3,.int .i64 (0:Int),.int .i64 i3,.int .i64 (1:Int)]),(4,.vs [.ptr 6 1 0 0,.int .i64 i10,.int .i64 i11,.int .i64 (0:Int),.int .i64 i11,.int .i64 (1:Int)]),(5,.vs [.sl 7 1 1 0 a4 a4]),(6,.vs [.sl 8 1 1 0 a12 a12]),(7,.fl l5),(8,.fl l13)],9⟩
def qD(v_6:Int)(v_7:Int)(v_9:List Nat) :T (((Unit)⊕((Int×Int×Nat×(List Nat))))⊕(aJ)) :=
  .alt 0
    (.need (bm 0 (List.length v_9) v_9)<|.need (qu (bS v_6 v_7 (ab 0 (List.length v_9) v_9)))<|.leaf (.inl (.inl ())))
    (.alt 1
      (.need (bm 0 (List.length v_9) v_9)<|.need (jN (bS v_6 v_7 (ab 0 (List.length v_9) v_9)))<|.leaf (.inl (.inr ((jO (bS v_6 v_7 (ab 0 (List.length v_9) v_9))),(jP (bS v_6 v_7 (ab 0 (List.length v_9) v_9))),(jQ (bS v_6 v_7 (ab 0 (List.length v_9) v_9))),(jR (bS v_6 v_7 (ab 0 (List.length v_9) v_9)))))))
      (.fail))
def ID(e1:Nat) :T ((Empty)⊕(aJ)) :=
  .ask (((e1:Nat):Int)==(2:Int))
    (.leaf (.inr (.r0 2 (0:Int) (0:Int) 0 0 ([]:List Nat))))
    (.ask ((0:Int) != (0:Int))
      (.fail)
      (.ask ((2:Int) != (0:Int))
        (.leaf (.inr (.r0 2 (0:Int) (0:Int) 0 0 ([]:List Nat))))
        (.fail)))
noncomputable def IE:List Code:=(IC.drop 1)
def KK(v_0:Lv)(s_1:List Nat)(u_2:Int)(u_3:Int)(v_4:Lv)(u_5:List Nat)(v_6:Int)(v_7:Int)(v_8:Lv)(v_9:List Nat)(k_10:Int)(i2:Int)(i3:Int)(a4:Nat)(l5:List Nat) :Int×Int×Nat×(List Nat)→aC:=fun (i14,i15,a16,l17)=>⟨ah 127 [(0,.imm v_0 (.fl s_1) 1 1 0 (List.length s_1)),(3,.int .i64 k_10),(5,.ptr 0 1 0 0),(6,.ptr 1 1 0 0),(8,.ptr 2 1 0 0),(11,.ptr 3 1 0 0),(15,.ptr 4 1 0 0)],[(0,.vs [.int .i64 u_2,.int .i64 u_3,.imm v_4 (.fl u_5) 1 1 0 (List.length u_5)]),(1,.vs [.int .i64 v_6,.int .i64 v_7,.imm v_8 (.fl v_9) 1 1 0 (List.length v_9)]),(2,.vs [.int .i64 (0:Int),.int .i64 (0:Int),.nsl]),(3,.vs [.ptr 5 1 0 0,.int .i64 i2,.int .i64 i3,.int .i64 (0:Int),.int .i64 i3,.int .i64 (1:Int)]),(4,.vs [.ptr 6 1 0 0,.int .i64 i14,.int .i64 i15,.int .i64 (0:Int),.int .i64 i15,.int .i64 (1:Int)]),(5,.vs [.sl 7 1 1 0 a4 a4]),(6,.vs [.sl 8 1 1 0 a16 a16]),(7,.fl l5),(8,.fl l17)],9⟩
def qE(s_1 : List Nat)(u_3 : Int)(v_6 : Int)(v_7 : Int)(k_10 : Int)(e1 : Nat)(i10 : Int)(i11 : Int)(a12 : Nat)(l13 : List Nat) : T ((Int × Int × Nat × (List Nat)) ⊕ (aJ)) :=
  .ask (((e1 : Nat) : Int) == (2 : Int))
    (.leaf (.inr (.r0 2 (0:Int) (0:Int) 0 0 ([]:List Nat))))
    (.ask ((0 : Int) != (0 : Int))
      (.fail)
      (.ask ((0 : Int) != (0 : Int))
        (.fail)
        (.ask (u_3 != (((List.length s_1):Nat):Int))
          (.leaf (.inr (.r0 8 (0:Int) (0:Int) 0 0 ([]:List Nat))))
          (.ask (v_7 != (((List.length s_1):Nat):Int))
            (.leaf (.inr (.r0 8 (0:Int) (0:Int) 0 0 ([]:List Nat))))
            (.ask (decide (k_10<(0:Int)))
              (.leaf (.inr (.r0 8 (0:Int) (0:Int) 0 0 ([]:List Nat))))
              (.ask (decide (k_10>(((List.length s_1):Nat):Int)))
                (.leaf (.inr (.r0 8 (0:Int) (0:Int) 0 0 ([]:List Nat))))
                (.ask (((e1:Nat):Int) != (0:Int))
                  (.leaf (.inr (.r0 e1 (0:Int) (0:Int) 0 0 ([]:List Nat))))
                  (.alt 1
                    (.need (dD (aa a12 a12 l13 i10 i11 (0:Int) i11 (1:Int) (0:Int) (0:Int) v_6 k_10))<|.need (bm 0 (aE (aa a12 a12 l13 i10 i11 (0:Int) i11 (1:Int) (0:Int) (0:Int) v_6 k_10)) (aF (aa a12 a12 l13 i10 i11 (0:Int) i11 (1:Int) (0:Int) (0:Int) v_6 k_10)))<|.need (fB (ba (ab 0 (aE (aa a12 a12 l13 i10 i11 (0:Int) i11 (1:Int) (0:Int) (0:Int) v_6 k_10)) (aF (aa a12 a12 l13 i10 i11 (0:Int) i11 (1:Int) (0:Int) (0:Int) v_6 k_10))) (aO (aa a12 a12 l13 i10 i11 (0:Int) i11 (1:Int) (0:Int) (0:Int) v_6 k_10)) (aP (aa a12 a12 l13 i10 i11 (0:Int) i11 (1:Int) (0:Int) (0:Int) v_6 k_10)) (aQ (aa a12 a12 l13 i10 i11 (0:Int) i11 (1:Int) (0:Int) (0:Int) v_6 k_10)) (aR (aa a12 a12 l13 i10 i11 (0:Int) i11 (1:Int) (0:Int) (0:Int) v_6 k_10)) (aS (aa a12 a12 l13 i10 i11 (0:Int) i11 (1:Int) (0:Int) (0:Int) v_6 k_10))))<|.leaf (.inl ((fK (ba (ab 0 (aE (aa a12 a12 l13 i10 i11 (0:Int) i11 (1:Int) (0:Int) (0:Int) v_6 k_10)) (aF (aa a12 a12 l13 i10 i11 (0:Int) i11 (1:Int) (0:Int) (0:Int) v_6 k_10))) (aO (aa a12 a12 l13 i10 i11 (0:Int) i11 (1:Int) (0:Int) (0:Int) v_6 k_10)) (aP (aa a12 a12 l13 i10 i11 (0:Int) i11 (1:Int) (0:Int) (0:Int) v_6 k_10)) (aQ (aa a12 a12 l13 i10 i11 (0:Int) i11 (1:Int) (0:Int) (0:Int) v_6 k_10)) (aR (aa a12 a12 l13 i10 i11 (0:Int) i11 (1:Int) (0:Int) (0:Int) v_6 k_10)) (aS (aa a12 a12 l13 i10 i11 (0:Int) i11 (1:Int) (0:Int) (0:Int) v_6 k_10)))),(fL (ba (ab 0 (aE (aa a12 a12 l13 i10 i11 (0:Int) i11 (1:Int) (0:Int) (0:Int) v_6 k_10)) (aF (aa a12 a12 l13 i10 i11 (0:Int) i11 (1:Int) (0:Int) (0:Int) v_6 k_10))) (aO (aa a12 a12 l13 i10 i11 (0:Int) i11 (1:Int) (0:Int) (0:Int) v_6 k_10)) (aP (aa a12 a12 l13 i10 i11 (0:Int) i11 (1:Int) (0:Int) (0:Int) v_6 k_10)) (aQ (aa a12 a12 l13 i10 i11 (0:Int) i11 (1:Int) (0:Int) (0:Int) v_6 k_10)) (aR (aa a12 a12 l13 i10 i11 (0:Int) i11 (1:Int) (0:Int) (0:Int) v_6 k_10)) (aS (aa a12 a12 l13 i10 i11 (0:Int) i11 (1:Int) (0:Int) (0:Int) v_6 k_10)))),(fM (ba (ab 0 (aE (aa a12 a12 l13 i10 i11 (0:Int) i11 (1:Int) (0:Int) (0:Int) v_6 k_10)) (aF (aa a12 a12 l13 i10 i11 (0:Int) i11 (1:Int) (0:Int) (0:Int) v_6 k_10))) (aO (aa a12 a12 l13 i10 i11 (0:Int) i11 (1:Int) (0:Int) (0:Int) v_6 k_10)) (aP (aa a12 a12 l13 i10 i11 (0:Int) i11 (1:Int) (0:Int) (0:Int) v_6 k_10)) (aQ (aa a12 a12 l13 i10 i11 (0:Int) i11 (1:Int) (0:Int) (0:Int) v_6 k_10)) (aR (aa a12 a12 l13 i10 i11 (0:Int) i11 (1:Int) (0:Int) (0:Int) v_6 k_10)) (aS (aa a12 a12 l13 i10 i11 (0:Int) i11 (1:Int) (0:Int) (0:Int) v_6 k_10)))),(fN (ba (ab 0 (aE (aa a12 a12 l13 i10 i11 (0:Int) i11 (1:Int) (0:Int) (0:Int) v_6 k_10)) (aF (aa a12 a12 l13 i10 i11 (0:Int) i11 (1:Int) (0:Int) (0:Int) v_6 k_10))) (aO (aa a12 a12 l13 i10 i11 (0:Int) i11 (1:Int) (0:Int) (0:Int) v_6 k_10)) (aP (aa a12 a12 l13 i10 i11 (0:Int) i11 (1:Int) (0:Int) (0:Int) v_6 k_10)) (aQ (aa a12 a12 l13 i10 i11 (0:Int) i11 (1:Int) (0:Int) (0:Int) v_6 k_10)) (aR (aa a12 a12 l13 i10 i11 (0:Int) i11 (1:Int) (0:Int) (0:Int) v_6 k_10)) (aS (aa a12 a12 l13 i10 i11 (0:Int) i11 (1:Int) (0:Int) (0:Int) v_6 k_10)))))))
                    (.fail)))))))))
def KL(v_0:Lv)(s_1:List Nat)(u_2:Int)(u_3:Int)(v_4:Lv)(u_5:List Nat)(v_6:Int)(v_7:Int)(v_8:Lv)(v_9:List Nat)(k_10:Int)(i2:Int)(i3:Int)(a4:Nat)(l5:List Nat)(i14:Int)(i15:Int)(a16:Nat)(l17:List Nat)(_:Unit) :aC:=⟨ah 127 [(0,.imm v_0 (.fl s_1) 1 1 0 (List.length s_1)),(3,.int .i64 k_10),(5,.ptr 0 1 0 0),(6,.ptr 1 1 0 0),(8,.ptr 2 1 0 0),(11,.ptr 3 1 0 0),(15,.ptr 4 1 0 0),(81,.int .i64 k_10),(82,.int .i64 (0:Int))],[(0,.vs [.int .i64 u_2,.int .i64 u_3,.imm v_4 (.fl u_5) 1 1 0 (List.length u_5)]),(1,.vs [.int .i64 v_6,.int .i64 v_7,.imm v_8 (.fl v_9) 1 1 0 (List.length v_9)]),(2,.vs [.int .i64 (0:Int),.int .i64 (0:Int),.nsl]),(3,.vs [.ptr 5 1 0 0,.int .i64 i2,.int .i64 i3,.int .i64 (0:Int),.int .i64 i3,.int .i64 (1:Int)]),(4,.vs [.ptr 6 1 0 0,.int .i64 i14,.int .i64 i15,.int .i64 (0:Int),.int .i64 i15,.int .i64 (1:Int)]),(5,.vs [.sl 7 1 1 0 a4 a4]),(6,.vs [.sl 8 1 1 0 a16 a16]),(7,.fl l5),(8,.fl l17)],9⟩
def IF:T ((Unit)⊕(aJ)) :=
  .leaf (.inl ())
def ml(v_0:Lv)(s_1:List Nat)(u_2:Int)(u_3:Int)(v_4:Lv)(u_5:List Nat)(v_6:Int)(v_7:Int)(v_8:Lv)(v_9:List Nat)(k_10:Int)(i2:Int)(i3:Int)(a4:Nat)(l5:List Nat)(i14:Int)(i15:Int) :Nat×Nat×Nat×(List Nat)→aC:=fun (a43,a44,a45,l46)=>⟨ah 127 [(0,.imm v_0 (.fl s_1) 1 1 0 (List.length s_1)),(3,.int .i64 k_10),(5,.ptr 0 1 0 0),(6,.ptr 1 1 0 0),(8,.ptr 2 1 0 0),(11,.ptr 3 1 0 0),(15,.ptr 4 1 0 0),(81,.int .i64 k_10),(82,.int .i64 ((a43:Nat):Int))],[(0,.vs [.int .i64 u_2,.int .i64 u_3,.imm v_4 (.fl u_5) 1 1 0 (List.length u_5)]),(1,.vs [.int .i64 v_6,.int .i64 v_7,.imm v_8 (.fl v_9) 1 1 0 (List.length v_9)]),(2,.vs [.int .i64 (0:Int),.int .i64 (0:Int),.nsl]),(3,.vs [.ptr 5 1 0 0,.int .i64 i2,.int .i64 i3,.int .i64 (0:Int),.int .i64 i3,.int .i64 (1:Int)]),(4,.vs [.ptr 6 1 0 0,.int .i64 i14,.int .i64 i15,.int .i64 (0:Int),.int .i64 i15,.int .i64 (1:Int)]),(5,.vs [.sl 7 1 1 0 a4 a4]),(6,.vs [.sl 8 1 1 0 a44 a45]),(7,.fl l5),(8,.fl l46)],9⟩
def qF(u_2:Int)(u_3:Int)(v_4:Lv)(u_5:List Nat)(v_6:Int)(v_7:Int)(v_8:Lv)(v_9:List Nat)(k_10:Int)(i2:Int)(i3:Int)(a4:Nat)(l5:List Nat)(i14:Int)(i15:Int) :Nat×Nat×(List Nat)→aC:=fun (a72,a73,l74)=>⟨ah 127 [(3,.int .i64 k_10),(5,.ptr 0 1 0 0),(6,.ptr 1 1 0 0),(8,.ptr 2 1 0 0),(11,.ptr 3 1 0 0),(15,.ptr 4 1 0 0)],[(0,.vs [.int .i64 u_2,.int .i64 u_3,.imm v_4 (.fl u_5) 1 1 0 (List.length u_5)]),(1,.vs [.int .i64 v_6,.int .i64 v_7,.imm v_8 (.fl v_9) 1 1 0 (List.length v_9)]),(2,.vs [.int .i64 (0:Int),.int .i64 (0:Int),.nsl]),(3,.vs [.ptr 5 1 0 0,.int .i64 i2,.int .i64 i3,.int .i64 (0:Int),.int .i64 i3,.int .i64 (1:Int)]),(4,.vs [.ptr 6 1 0 0,.int .i64 i14,.int .i64 i15,.int .i64 (0:Int),.int .i64 i15,.int .i64 (1:Int)]),(5,.vs [.sl 7 1 1 0 a4 a4]),(6,.vs [.sl 8 1 1 0 a72 a73]),(7,.fl l5),(8,.fl l74)],9⟩
noncomputable def xn:List Code:=dp (fF (((((IE.drop 2).drop 1).take 1)).headD .skip))
def IG(v_0:Lv)(s_1:List Nat)(u_2:Int)(u_3:Int)(v_4:Lv)(u_5:List Nat)(v_6:Int)(v_7:Int)(v_8:Lv)(v_9:List Nat)(k_10:Int)(i2:Int)(i3:Int)(a4:Nat)(l5:List Nat)(i14:Int)(i15:Int)(a43:Nat)(a44:Nat)(a45:Nat)(l46:List Nat)(_:Unit) :aC:=⟨ah 127 [(0,.imm v_0 (.fl s_1) 1 1 0 (List.length s_1)),(3,.int .i64 k_10),(5,.ptr 0 1 0 0),(6,.ptr 1 1 0 0),(8,.ptr 2 1 0 0),(11,.ptr 3 1 0 0),(15,.ptr 4 1 0 0),(81,.int .i64 k_10),(82,.int .i64 ((a43:Nat):Int))],[(0,.vs [.int .i64 u_2,.int .i64 u_3,.imm v_4 (.fl u_5) 1 1 0 (List.length u_5)]),(1,.vs [.int .i64 v_6,.int .i64 v_7,.imm v_8 (.fl v_9) 1 1 0 (List.length v_9)]),(2,.vs [.int .i64 (0:Int),.int .i64 (0:Int),.nsl]),(3,.vs [.ptr 5 1 0 0,.int .i64 i2,.int .i64 i3,.int .i64 (0:Int),.int .i64 i3,.int .i64 (1:Int)]),(4,.vs [.ptr 6 1 0 0,.int .i64 i14,.int .i64 i15,.int .i64 (0:Int),.int .i64 i15,.int .i64 (1:Int)]),(5,.vs [.sl 7 1 1 0 a4 a4]),(6,.vs [.sl 8 1 1 0 a44 a45]),(7,.fl l5),(8,.fl l46)],9⟩
def IH(k_10:Int)(a43:Nat)(a44:Nat)(a45:Nat)(l46:List Nat) :T ((Unit)⊕((Nat×Nat×(List Nat))⊕(aJ))) :=
  .ask (decide (((a43:Nat):Int)<k_10))
    (.leaf (.inl ()))
    (.leaf (.inr (.inl (a44,a45,l46))))
def qG(v_0:Lv)(s_1:List Nat)(u_2:Int)(u_3:Int)(v_4:Lv)(u_5:List Nat)(v_6:Int)(v_7:Int)(v_8:Lv)(v_9:List Nat)(k_10:Int)(i2:Int)(i3:Int)(a4:Nat)(l5:List Nat)(i14:Int)(i15:Int)(a43:Nat) :Nat×Nat×(List Nat)→aC:=fun (a69,a70,l71)=>⟨ah 127 [(0,.imm v_0 (.fl s_1) 1 1 0 (List.length s_1)),(3,.int .i64 k_10),(5,.ptr 0 1 0 0),(6,.ptr 1 1 0 0),(8,.ptr 2 1 0 0),(11,.ptr 3 1 0 0),(15,.ptr 4 1 0 0),(81,.int .i64 k_10),(82,.int .i64 ((a43:Nat):Int))],[(0,.vs [.int .i64 u_2,.int .i64 u_3,.imm v_4 (.fl u_5) 1 1 0 (List.length u_5)]),(1,.vs [.int .i64 v_6,.int .i64 v_7,.imm v_8 (.fl v_9) 1 1 0 (List.length v_9)]),(2,.vs [.int .i64 (0:Int),.int .i64 (0:Int),.nsl]),(3,.vs [.ptr 5 1 0 0,.int .i64 i2,.int .i64 i3,.int .i64 (0:Int),.int .i64 i3,.int .i64 (1:Int)]),(4,.vs [.ptr 6 1 0 0,.int .i64 i14,.int .i64 i15,.int .i64 (0:Int),.int .i64 i15,.int .i64 (1:Int)]),(5,.vs [.sl 7 1 1 0 a4 a4]),(6,.vs [.sl 8 1 1 0 a69 a70]),(7,.fl l5),(8,.fl l71)],9⟩
noncomputable def II:List Code:=dp (inBlock ((((xn.drop 2).take 1)).headD .skip))
def IJ(v_0:Lv)(s_1:List Nat)(u_2:Int)(u_3:Int)(v_4:Lv)(u_5:List Nat)(v_6:Int)(v_7:Int)(v_8:Lv)(v_9:List Nat)(k_10:Int)(i2:Int)(i3:Int)(a4:Nat)(l5:List Nat)(i14:Int)(i15:Int)(a43:Nat) :Int×Int×Int×Int×Int×Nat×Nat×(List Nat)→aC:=fun (i47,i48,i49,i50,i51,a52,a53,l54)=>⟨ah 127 [(0,.imm v_0 (.fl s_1) 1 1 0 (List.length s_1)),(3,.int .i64 k_10),(5,.ptr 0 1 0 0),(6,.ptr 1 1 0 0),(8,.ptr 2 1 0 0),(11,.ptr 3 1 0 0),(15,.ptr 4 1 0 0),(16,.int .i64 ((a43:Nat):Int)),(17,.ptr 5 1 0 0),(81,.int .i64 k_10),(82,.int .i64 ((a43:Nat):Int))],[(0,.vs [.int .i64 u_2,.int .i64 u_3,.imm v_4 (.fl u_5) 1 1 0 (List.length u_5)]),(1,.vs [.int .i64 v_6,.int .i64 v_7,.imm v_8 (.fl v_9) 1 1 0 (List.length v_9)]),(2,.vs [.int .i64 (0:Int),.int .i64 (0:Int),.nsl]),(3,.vs [.ptr 6 1 0 0,.int .i64 i2,.int .i64 i3,.int .i64 (0:Int),.int .i64 i3,.int .i64 (1:Int)]),(4,.vs [.ptr 7 1 0 0,.int .i64 i14,.int .i64 i15,.int .i64 (0:Int),.int .i64 i15,.int .i64 (1:Int)]),(5,.vs [.ptr 7 1 0 0,.int .i64 i47,.int .i64 i48,.int .i64 i49,.int .i64 i50,.int .i64 i51]),(6,.vs [.sl 8 1 1 0 a4 a4]),(7,.vs [.sl 9 1 1 0 a52 a53]),(8,.fl l5),(9,.fl l54)],10⟩
def qH(i14:Int)(i15:Int)(a43:Nat)(a44:Nat)(a45:Nat)(l46:List Nat) :T ((Int×Int×Int×Int×Int×Nat×Nat×(List Nat))⊕((Nat×Nat×(List Nat))⊕((Nat×Nat×(List Nat))⊕(aJ)))) :=
  .alt 1
    (.need (dD (aa a44 a45 l46 i14 i15 (0:Int) i15 (1:Int) (0:Int) ((a43:Nat):Int) i14 (1:Int)))<|.leaf (.inl ((aO (aa a44 a45 l46 i14 i15 (0:Int) i15 (1:Int) (0:Int) ((a43:Nat):Int) i14 (1:Int))),(aP (aa a44 a45 l46 i14 i15 (0:Int) i15 (1:Int) (0:Int) ((a43:Nat):Int) i14 (1:Int))),(aQ (aa a44 a45 l46 i14 i15 (0:Int) i15 (1:Int) (0:Int) ((a43:Nat):Int) i14 (1:Int))),(aR (aa a44 a45 l46 i14 i15 (0:Int) i15 (1:Int) (0:Int) ((a43:Nat):Int) i14 (1:Int))),(aS (aa a44 a45 l46 i14 i15 (0:Int) i15 (1:Int) (0:Int) ((a43:Nat):Int) i14 (1:Int))),(aE (aa a44 a45 l46 i14 i15 (0:Int) i15 (1:Int) (0:Int) ((a43:Nat):Int) i14 (1:Int))),(bK (aa a44 a45 l46 i14 i15 (0:Int) i15 (1:Int) (0:Int) ((a43:Nat):Int) i14 (1:Int))),(aF (aa a44 a45 l46 i14 i15 (0:Int) i15 (1:Int) (0:Int) ((a43:Nat):Int) i14 (1:Int))))))
    (.fail)
def IK(v_0:Lv)(s_1:List Nat)(u_2:Int)(u_3:Int)(v_4:Lv)(u_5:List Nat)(v_6:Int)(v_7:Int)(v_8:Lv)(v_9:List Nat)(k_10:Int)(i2:Int)(i3:Int)(a4:Nat)(l5:List Nat)(i14:Int)(i15:Int)(a43:Nat)(i47:Int)(i48:Int)(i49:Int)(i50:Int)(i51:Int)(a52:Nat)(a53:Nat)(l54:List Nat)(i55:Int) :aC:=⟨ah 127 [(0,.imm v_0 (.fl s_1) 1 1 0 (List.length s_1)),(3,.int .i64 k_10),(5,.ptr 0 1 0 0),(6,.ptr 1 1 0 0),(8,.ptr 2 1 0 0),(11,.ptr 3 1 0 0),(15,.ptr 4 1 0 0),(16,.int .i64 ((a43:Nat):Int)),(17,.ptr 5 1 0 0),(18,.fn (.func gG) [.agg [.ptr 6 1 0 0,.int .i64 i47,.int .i64 i48,.int .i64 i49,.int .i64 i50,.int .i64 i51]] []),(81,.int .i64 k_10),(82,.int .i64 ((a43:Nat):Int)),(91,.int .i64 i55),(92,.int .i64 (0:Int))],[(0,.vs [.int .i64 u_2,.int .i64 u_3,.imm v_4 (.fl u_5) 1 1 0 (List.length u_5)]),(1,.vs [.int .i64 v_6,.int .i64 v_7,.imm v_8 (.fl v_9) 1 1 0 (List.length v_9)]),(2,.vs [.int .i64 (0:Int),.int .i64 (0:Int),.nsl]),(3,.vs [.ptr 7 1 0 0,.int .i64 i2,.int .i64 i3,.int .i64 (0:Int),.int .i64 i3,.int .i64 (1:Int)]),(4,.vs [.ptr 6 1 0 0,.int .i64 i14,.int .i64 i15,.int .i64 (0:Int),.int .i64 i15,.int .i64 (1:Int)]),(5,.vs [.ptr 6 1 0 0,.int .i64 i47,.int .i64 i48,.int .i64 i49,.int .i64 i50,.int .i64 i51]),(6,.vs [.sl 8 1 1 0 a52 a53]),(7,.vs [.sl 9 1 1 0 a4 a4]),(8,.fl l54),(9,.fl l5)],10⟩
def qI(i47:Int)(i48:Int)(a52:Nat)(l54:List Nat) :T ((Int)⊕((Nat×Nat×(List Nat))⊕((Nat×Nat×(List Nat))⊕(aJ)))) :=
  .need (bm 0 a52 l54)<|.need (ck (aT i47 i48))<|.ask (!(cj (aT i47 i48)))
    (.leaf (.inl (0:Int)))
    (.need (cI .i64 (i47*i48))<|.leaf (.inl (i47*i48)))
def mn(v_0:Lv)(s_1:List Nat)(u_2:Int)(u_3:Int)(v_4:Lv)(u_5:List Nat)(v_6:Int)(v_7:Int)(v_8:Lv)(v_9:List Nat)(k_10:Int)(i2:Int)(i3:Int)(a4:Nat)(l5:List Nat)(i14:Int)(i15:Int)(a43:Nat)(i47:Int)(i48:Int)(i49:Int)(i50:Int)(i51:Int)(i55:Int) :Nat×Nat×Nat×(List Nat)→aC:=fun (a59,a60,a61,l62)=>⟨ah 127 [(0,.imm v_0 (.fl s_1) 1 1 0 (List.length s_1)),(3,.int .i64 k_10),(5,.ptr 0 1 0 0),(6,.ptr 1 1 0 0),(8,.ptr 2 1 0 0),(11,.ptr 3 1 0 0),(15,.ptr 4 1 0 0),(16,.int .i64 ((a43:Nat):Int)),(17,.ptr 5 1 0 0),(18,.fn (.func gG) [.agg [.ptr 6 1 0 0,.int .i64 i47,.int .i64 i48,.int .i64 i49,.int .i64 i50,.int .i64 i51]] []),(81,.int .i64 k_10),(82,.int .i64 ((a43:Nat):Int)),(91,.int .i64 i55),(92,.int .i64 ((a59:Nat):Int))],[(0,.vs [.int .i64 u_2,.int .i64 u_3,.imm v_4 (.fl u_5) 1 1 0 (List.length u_5)]),(1,.vs [.int .i64 v_6,.int .i64 v_7,.imm v_8 (.fl v_9) 1 1 0 (List.length v_9)]),(2,.vs [.int .i64 (0:Int),.int .i64 (0:Int),.nsl]),(3,.vs [.ptr 7 1 0 0,.int .i64 i2,.int .i64 i3,.int .i64 (0:Int),.int .i64 i3,.int .i64 (1:Int)]),(4,.vs [.ptr 6 1 0 0,.int .i64 i14,.int .i64 i15,.int .i64 (0:Int),.int .i64 i15,.int .i64 (1:Int)]),(5,.vs [.ptr 6 1 0 0,.int .i64 i47,.int .i64 i48,.int .i64 i49,.int .i64 i50,.int .i64 i51]),(6,.vs [.sl 8 1 1 0 a60 a61]),(7,.vs [.sl 9 1 1 0 a4 a4]),(8,.fl l62),(9,.fl l5)],10⟩
def xo(v_0:Lv)(s_1:List Nat)(u_2:Int)(u_3:Int)(v_4:Lv)(u_5:List Nat)(v_6:Int)(v_7:Int)(v_8:Lv)(v_9:List Nat)(k_10:Int)(i2:Int)(i3:Int)(a4:Nat)(l5:List Nat)(i14:Int)(i15:Int)(a43:Nat) :Nat×Nat×(List Nat)→aC:=fun (a66,a67,l68)=>⟨ah 127 [(0,.imm v_0 (.fl s_1) 1 1 0 (List.length s_1)),(3,.int .i64 k_10),(5,.ptr 0 1 0 0),(6,.ptr 1 1 0 0),(8,.ptr 2 1 0 0),(11,.ptr 3 1 0 0),(15,.ptr 4 1 0 0),(81,.int .i64 k_10),(82,.int .i64 ((a43:Nat):Int))],[(0,.vs [.int .i64 u_2,.int .i64 u_3,.imm v_4 (.fl u_5) 1 1 0 (List.length u_5)]),(1,.vs [.int .i64 v_6,.int .i64 v_7,.imm v_8 (.fl v_9) 1 1 0 (List.length v_9)]),(2,.vs [.int .i64 (0:Int),.int .i64 (0:Int),.nsl]),(3,.vs [.ptr 5 1 0 0,.int .i64 i2,.int .i64 i3,.int .i64 (0:Int),.int .i64 i3,.int .i64 (1:Int)]),(4,.vs [.ptr 6 1 0 0,.int .i64 i14,.int .i64 i15,.int .i64 (0:Int),.int .i64 i15,.int .i64 (1:Int)]),(5,.vs [.sl 7 1 1 0 a4 a4]),(6,.vs [.sl 8 1 1 0 a66 a67]),(7,.fl l5),(8,.fl l68)],9⟩
noncomputable def IL:List Code:=dp (fF (((((II.drop 2).drop 2).take 1)).headD .skip))
def IM(v_0:Lv)(s_1:List Nat)(u_2:Int)(u_3:Int)(v_4:Lv)(u_5:List Nat)(v_6:Int)(v_7:Int)(v_8:Lv)(v_9:List Nat)(k_10:Int)(i2:Int)(i3:Int)(a4:Nat)(l5:List Nat)(i14:Int)(i15:Int)(a43:Nat)(i47:Int)(i48:Int)(i49:Int)(i50:Int)(i51:Int)(i55:Int)(a59:Nat) :Nat×Nat×(List Nat)→aC:=fun (a63,a64,l65)=>⟨ah 127 [(0,.imm v_0 (.fl s_1) 1 1 0 (List.length s_1)),(3,.int .i64 k_10),(5,.ptr 0 1 0 0),(6,.ptr 1 1 0 0),(8,.ptr 2 1 0 0),(11,.ptr 3 1 0 0),(15,.ptr 4 1 0 0),(16,.int .i64 ((a43:Nat):Int)),(17,.ptr 5 1 0 0),(18,.fn (.func gG) [.agg [.ptr 6 1 0 0,.int .i64 i47,.int .i64 i48,.int .i64 i49,.int .i64 i50,.int .i64 i51]] []),(81,.int .i64 k_10),(82,.int .i64 ((a43:Nat):Int)),(91,.int .i64 i55),(92,.int .i64 ((a59:Nat):Int))],[(0,.vs [.int .i64 u_2,.int .i64 u_3,.imm v_4 (.fl u_5) 1 1 0 (List.length u_5)]),(1,.vs [.int .i64 v_6,.int .i64 v_7,.imm v_8 (.fl v_9) 1 1 0 (List.length v_9)]),(2,.vs [.int .i64 (0:Int),.int .i64 (0:Int),.nsl]),(3,.vs [.ptr 7 1 0 0,.int .i64 i2,.int .i64 i3,.int .i64 (0:Int),.int .i64 i3,.int .i64 (1:Int)]),(4,.vs [.ptr 6 1 0 0,.int .i64 i14,.int .i64 i15,.int .i64 (0:Int),.int .i64 i15,.int .i64 (1:Int)]),(5,.vs [.ptr 6 1 0 0,.int .i64 i47,.int .i64 i48,.int .i64 i49,.int .i64 i50,.int .i64 i51]),(6,.vs [.sl 8 1 1 0 a63 a64]),(7,.vs [.sl 9 1 1 0 a4 a4]),(8,.fl l65),(9,.fl l5)],10⟩
def qJ(s_1:List Nat)(a43:Nat)(i47:Int)(i48:Int)(i49:Int)(i50:Int)(i51:Int)(i55:Int)(a59:Nat)(a60:Nat)(a61:Nat)(l62:List Nat) :T ((Nat×Nat×(List Nat))⊕((Nat×Nat×(List Nat))⊕((Nat×Nat×(List Nat))⊕((Nat×Nat×(List Nat))⊕(aJ))))) :=
  .ask (decide (((a59:Nat):Int)<i55))
    (.need (bm 0 a60 l62)<|.need (ck (aT i47 i48))<|.ask (!(cj (aT i47 i48)))
      (.need (fO ((a43:Nat):Int) (List.length s_1))<|.need (fD a43 (List.length s_1))<|.need (gh (bC a60 a61 l62 i47 i48 i49 i50 i51 ((a59:Nat):Int) (fdiv 0 (List.getD s_1 a43 0))))<|.leaf (.inl ((gB (bC a60 a61 l62 i47 i48 i49 i50 i51 ((a59:Nat):Int) (fdiv 0 (List.getD s_1 a43 0)))),(gC (bC a60 a61 l62 i47 i48 i49 i50 i51 ((a59:Nat):Int) (fdiv 0 (List.getD s_1 a43 0)))),(gD (bC a60 a61 l62 i47 i48 i49 i50 i51 ((a59:Nat):Int) (fdiv 0 (List.getD s_1 a43 0)))))))
      (.ask (i47==(1:Int))
        (.need (bm 0 a60 l62)<|.need (bd (ap i47 i48 (0:Int) ((a59:Nat):Int)))<|.ask (!(aX (ap i47 i48 (0:Int) ((a59:Nat):Int))))
          (.fail)
          (.need (cI .i64 ((0:Int)*i50))<|.need (cI .i64 (i49+((0:Int)*i50)))<|.need (cI .i64 (((a59:Nat):Int)*i51))<|.need (cI .i64 ((i49+((0:Int)*i50))+(((a59:Nat):Int)*i51)))<|.need (fO ((i49+((0:Int)*i50))+(((a59:Nat):Int)*i51)) a60)<|.need (fD (Int.toNat ((i49+((0:Int)*i50))+(((a59:Nat):Int)*i51))) (List.length l62))<|.need (fO ((a43:Nat):Int) (List.length s_1))<|.need (fD a43 (List.length s_1))<|.need (gh (bC a60 a61 l62 i47 i48 i49 i50 i51 ((a59:Nat):Int) (fdiv (List.getD l62 (Int.toNat ((i49+((0:Int)*i50))+(((a59:Nat):Int)*i51))) 0) (List.getD s_1 a43 0))))<|.leaf (.inl ((gB (bC a60 a61 l62 i47 i48 i49 i50 i51 ((a59:Nat):Int) (fdiv (List.getD l62 (Int.toNat ((i49+((0:Int)*i50))+(((a59:Nat):Int)*i51))) 0) (List.getD s_1 a43 0)))),(gC (bC a60 a61 l62 i47 i48 i49 i50 i51 ((a59:Nat):Int) (fdiv (List.getD l62 (Int.toNat ((i49+((0:Int)*i50))+(((a59:Nat):Int)*i51))) 0) (List.getD s_1 a43 0)))),(gD (bC a60 a61 l62 i47 i48 i49 i50 i51 ((a59:Nat):Int) (fdiv (List.getD l62 (Int.toNat ((i49+((0:Int)*i50))+(((a59:Nat):Int)*i51))) 0) (List.getD s_1 a43 0))))))))
        (.need (bm 0 a60 l62)<|.need (bd (ap i47 i48 ((a59:Nat):Int) (0:Int)))<|.ask (!(aX (ap i47 i48 ((a59:Nat):Int) (0:Int))))
          (.fail)
          (.need (cI .i64 (((a59:Nat):Int)*i50))<|.need (cI .i64 (i49+(((a59:Nat):Int)*i50)))<|.need (cI .i64 ((0:Int)*i51))<|.need (cI .i64 ((i49+(((a59:Nat):Int)*i50))+((0:Int)*i51)))<|.need (fO ((i49+(((a59:Nat):Int)*i50))+((0:Int)*i51)) a60)<|.need (fD (Int.toNat ((i49+(((a59:Nat):Int)*i50))+((0:Int)*i51))) (List.length l62))<|.need (fO ((a43:Nat):Int) (List.length s_1))<|.need (fD a43 (List.length s_1))<|.need (gh (bC a60 a61 l62 i47 i48 i49 i50 i51 ((a59:Nat):Int) (fdiv (List.getD l62 (Int.toNat ((i49+(((a59:Nat):Int)*i50))+((0:Int)*i51))) 0) (List.getD s_1 a43 0))))<|.leaf (.inl ((gB (bC a60 a61 l62 i47 i48 i49 i50 i51 ((a59:Nat):Int) (fdiv (List.getD l62 (Int.toNat ((i49+(((a59:Nat):Int)*i50))+((0:Int)*i51))) 0) (List.getD s_1 a43 0)))),(gC (bC a60 a61 l62 i47 i48 i49 i50 i51 ((a59:Nat):Int) (fdiv (List.getD l62 (Int.toNat ((i49+(((a59:Nat):Int)*i50))+((0:Int)*i51))) 0) (List.getD s_1 a43 0)))),(gD (bC a60 a61 l62 i47 i48 i49 i50 i51 ((a59:Nat):Int) (fdiv (List.getD l62 (Int.toNat ((i49+(((a59:Nat):Int)*i50))+((0:Int)*i51))) 0) (List.getD s_1 a43 0))))))))))
    (.leaf (.inr (.inl (a60,a61,l62))))
def IN(a59:Nat)(a63:Nat)(a64:Nat)(l65:List Nat) :T ((Nat×Nat×Nat×(List Nat))⊕((Nat×Nat×(List Nat))⊕((Nat×Nat×(List Nat))⊕((Nat×Nat×(List Nat))⊕(aJ))))) :=
  .need (cI .i64 (((a59+1):Nat):Int))<|.leaf (.inl ((a59+1),a63,a64,l65))
noncomputable def mo(s_1:List Nat)(a43:Nat)(i47:Int)(i48:Int)(i49:Int)(i50:Int)(i51:Int)(i55:Int) :Nat×Nat×Nat×(List Nat)→Option ((Nat×Nat×Nat×(List Nat))⊕((Nat×Nat×(List Nat))⊕((Nat×Nat×(List Nat))⊕((Nat×Nat×(List Nat))⊕(aJ))))):=fun (a59,a60,a61,l62) =>
  aL ((qJ s_1 a43 i47 i48 i49 i50 i51 i55 a59 a60 a61 l62).run) fun (a63,a64,l65) =>
  (IN a59 a63 a64 l65).run
theorem IP(v_0:Lv)(s_1:List Nat)(u_2:Int)(u_3:Int)(v_4:Lv)(u_5:List Nat)(v_6:Int)(v_7:Int)(v_8:Lv)(v_9:List Nat)(k_10:Int)(i2:Int)(i3:Int)(a4:Nat)(l5:List Nat)(i14:Int)(i15:Int)(a43:Nat)(i47:Int)(i48:Int)(i49:Int)(i50:Int)(i51:Int)(i55:Int)(a59:Nat)(a60:Nat)(a61:Nat)(l62:List Nat) :Sg prog [] IL (mn v_0 s_1 u_2 u_3 v_4 u_5 v_6 v_7 v_8 v_9 k_10 i2 i3 a4 l5 i14 i15 a43 i47 i48 i49 i50 i51 i55 (a59,a60,a61,l62)) (mo s_1 a43 i47 i48 i49 i50 i51 i55 (a59,a60,a61,l62)) (mn v_0 s_1 u_2 u_3 v_4 u_5 v_6 v_7 v_8 v_9 k_10 i2 i3 a4 l5 i14 i15 a43 i47 i48 i49 i50 i51 i55) (du 3 (xo v_0 s_1 u_2 u_3 v_4 u_5 v_6 v_7 v_8 v_9 k_10 i2 i3 a4 l5 i14 i15 a43) (du 2 (qG v_0 s_1 u_2 u_3 v_4 u_5 v_6 v_7 v_8 v_9 k_10 i2 i3 a4 l5 i14 i15 a43) (du 1 (qF u_2 u_3 v_4 u_5 v_6 v_7 v_8 v_9 k_10 i2 i3 a4 l5 i14 i15) lQ))):=by
  unfold mo;exact Sg.cut 3 (bi (bi (bi bD))) (bZ bf (IM v_0 s_1 u_2 u_3 v_4 u_5 v_6 v_7 v_8 v_9 k_10 i2 i3 a4 l5 i14 i15 a43 i47 i48 i49 i50 i51 i55 a59) [⟨[],[0,1,2,3,4,5,6,7,8,9],[0,3,5,6,8,11,15,16,17,18,81,82,91,92]⟩,⟨[],[0,1,2,3,4,5,6,7,8,9],[0,3,5,6,8,11,15,16,17,18,81,82,91,92]⟩,⟨[],[0,1,2,3,4,5,6,7,8,9],[0,3,5,6,8,11,15,16,17,18,81,82,91,92]⟩,⟨[],[0,1,2,3,4,7,6,9,8],[0,3,5,6,8,11,15,81,82]⟩]) (fun ⟨a63,a64,l65⟩=>bZ bf (mn v_0 s_1 u_2 u_3 v_4 u_5 v_6 v_7 v_8 v_9 k_10 i2 i3 a4 l5 i14 i15 a43 i47 i48 i49 i50 i51 i55) [⟨[],[0,1,2,3,4,5,6,7,8,9],[0,3,5,6,8,11,15,16,17,18,81,82,91,92]⟩])
def IQ(a66:Nat)(a67:Nat)(l68:List Nat) :T ((Nat×Nat×(List Nat))⊕((Nat×Nat×(List Nat))⊕((Nat×Nat×(List Nat))⊕(aJ)))) :=
  .leaf (.inl (a66,a67,l68))
def IR(a43:Nat)(a69:Nat)(a70:Nat)(l71:List Nat) :T ((Nat×Nat×Nat×(List Nat))⊕((Nat×Nat×(List Nat))⊕(aJ))) :=
  .need (cI .i64 (((a43+1):Nat):Int))<|.leaf (.inl ((a43+1),a69,a70,l71))
noncomputable def mp(s_1:List Nat)(k_10:Int)(i14:Int)(i15:Int) :Nat×Nat×Nat×(List Nat)→Option ((Nat×Nat×Nat×(List Nat))⊕((Nat×Nat×(List Nat))⊕(aJ))):=fun (a43,a44,a45,l46) =>
  aL ((IH k_10 a43 a44 a45 l46).run) fun _ =>
  aL (wQ (aL ((qH i14 i15 a43 a44 a45 l46).run) fun (i47,i48,i49,i50,i51,a52,a53,l54) =>
  aL ((qI i47 i48 a52 l54).run) fun i55 =>
  aL (dJ (mo s_1 a43 i47 i48 i49 i50 i51 i55) (0,a52,a53,l54)) fun (a66,a67,l68) =>
  (IQ a66 a67 l68).run)) fun (a69,a70,l71) =>
  (IR a43 a69 a70 l71).run
theorem IS(v_0:Lv)(s_1:List Nat)(u_2:Int)(u_3:Int)(v_4:Lv)(u_5:List Nat)(v_6:Int)(v_7:Int)(v_8:Lv)(v_9:List Nat)(k_10:Int)(i2:Int)(i3:Int)(a4:Nat)(l5:List Nat)(i14:Int)(i15:Int)(a43:Nat)(a44:Nat)(a45:Nat)(l46:List Nat) :Sg prog [] xn (ml v_0 s_1 u_2 u_3 v_4 u_5 v_6 v_7 v_8 v_9 k_10 i2 i3 a4 l5 i14 i15 (a43,a44,a45,l46)) (mp s_1 k_10 i14 i15 (a43,a44,a45,l46)) (ml v_0 s_1 u_2 u_3 v_4 u_5 v_6 v_7 v_8 v_9 k_10 i2 i3 a4 l5 i14 i15) (du 1 (qF u_2 u_3 v_4 u_5 v_6 v_7 v_8 v_9 k_10 i2 i3 a4 l5 i14 i15) lQ):=by
  unfold mp;exact Sg.cut 2 (bi bD) (bZ bf (IG v_0 s_1 u_2 u_3 v_4 u_5 v_6 v_7 v_8 v_9 k_10 i2 i3 a4 l5 i14 i15 a43 a44 a45 l46) [⟨[],[0,1,2,3,4,5,6,7,8],[0,3,5,6,8,11,15,81,82]⟩,⟨[],[0,1,2,3,4,5,6,7,8],[3,5,6,8,11,15]⟩]) (fun _=>Sg.cut 1 (bi bD) (sgb (qG v_0 s_1 u_2 u_3 v_4 u_5 v_6 v_7 v_8 v_9 k_10 i2 i3 a4 l5 i14 i15 a43) 2 (bi bD) (lX (by decide) (sx _)) (Sg.cut 2 (bi (bi bD)) (bZ bf (IJ v_0 s_1 u_2 u_3 v_4 u_5 v_6 v_7 v_8 v_9 k_10 i2 i3 a4 l5 i14 i15 a43) [⟨[],[0,1,2,3,4,89,5,6,7,8],[0,3,5,6,8,11,15,16,17,81,82]⟩]) (fun ⟨i47,i48,i49,i50,i51,a52,a53,l54⟩=>Sg.cut 2 (bi (bi bD)) (bZ bf (IK v_0 s_1 u_2 u_3 v_4 u_5 v_6 v_7 v_8 v_9 k_10 i2 i3 a4 l5 i14 i15 a43 i47 i48 i49 i50 i51 a52 a53 l54) [⟨[],[0,1,2,3,4,5,7,6,9,8],[0,3,5,6,8,11,15,16,17,18,81,82,91,92]⟩,⟨[],[0,1,2,3,4,5,7,6,9,8],[0,3,5,6,8,11,15,16,17,18,81,82,91,92]⟩]) (fun i55=>Sg.cut 1 (bi (bi bD)) (QA ⟨[],[0,1,2,3,4,5,6,7,8,9],[0,3,5,6,8,11,15,16,17,18,81,82,91,92]⟩ (mn v_0 s_1 u_2 u_3 v_4 u_5 v_6 v_7 v_8 v_9 k_10 i2 i3 a4 l5 i14 i15 a43 i47 i48 i49 i50 i51 i55) (xo v_0 s_1 u_2 u_3 v_4 u_5 v_6 v_7 v_8 v_9 k_10 i2 i3 a4 l5 i14 i15 a43) 3 (bi (bi bD)) (lX (by decide) (lX (by decide) (sx _))) (fun ⟨a59,a60,a61,l62⟩=>IP v_0 s_1 u_2 u_3 v_4 u_5 v_6 v_7 v_8 v_9 k_10 i2 i3 a4 l5 i14 i15 a43 i47 i48 i49 i50 i51 i55 a59 a60 a61 l62)) (fun ⟨a66,a67,l68⟩=>bZ bf (qG v_0 s_1 u_2 u_3 v_4 u_5 v_6 v_7 v_8 v_9 k_10 i2 i3 a4 l5 i14 i15 a43) [⟨[],[0,1,2,3,4,5,6,7,8],[0,3,5,6,8,11,15,81,82]⟩]))))) (fun ⟨a69,a70,l71⟩=>bZ bf (ml v_0 s_1 u_2 u_3 v_4 u_5 v_6 v_7 v_8 v_9 k_10 i2 i3 a4 l5 i14 i15) [⟨[],[0,1,2,3,4,5,6,7,8],[0,3,5,6,8,11,15,81,82]⟩]))
def IT(u_2:Int)(u_3:Int)(v_4:Lv)(u_5:List Nat)(k_10:Int)(i2:Int)(i3:Int)(a4:Nat)(l5:List Nat)(i14:Int)(i15:Int)(a72:Nat)(a73:Nat)(l74:List Nat) :Int×Int×Nat×(List Nat)→aC:=fun (i75,i76,a77,l78)=>⟨ah 127 [(3,.int .i64 k_10),(5,.ptr 0 1 0 0),(8,.ptr 1 1 0 0),(11,.ptr 2 1 0 0),(15,.ptr 3 1 0 0),(20,.ptr 4 1 0 0)],[(0,.vs [.int .i64 u_2,.int .i64 u_3,.imm v_4 (.fl u_5) 1 1 0 (List.length u_5)]),(1,.vs [.int .i64 (0:Int),.int .i64 (0:Int),.nsl]),(2,.vs [.ptr 5 1 0 0,.int .i64 i2,.int .i64 i3,.int .i64 (0:Int),.int .i64 i3,.int .i64 (1:Int)]),(3,.vs [.ptr 6 1 0 0,.int .i64 i14,.int .i64 i15,.int .i64 (0:Int),.int .i64 i15,.int .i64 (1:Int)]),(4,.vs [.ptr 7 1 0 0,.int .i64 i75,.int .i64 i76,.int .i64 (0:Int),.int .i64 i76,.int .i64 (1:Int)]),(5,.vs [.sl 8 1 1 0 a4 a4]),(6,.vs [.sl 9 1 1 0 a72 a73]),(7,.vs [.sl 10 1 1 0 a77 a77]),(8,.fl l5),(9,.fl l74),(10,.fl l78)],11⟩
def qK(u_2:Int)(v_6:Int) :T ((Int×Int×Nat×(List Nat))⊕(aJ)) :=
  .alt 1
    (.need (rK (fu v_6 u_2))<|.leaf (.inl ((rl (fu v_6 u_2)),(rm (fu v_6 u_2)),(rn (fu v_6 u_2)),(rp (fu v_6 u_2)))))
    (.fail)
def IU(i75:Int)(i76:Int) :Nat×Nat×(List Nat)→aC:=fun (a79,a80,l81)=>⟨ah 127 [(8,.ptr 0 1 0 0),(20,.ptr 1 1 0 0)],[(0,.vs [.int .i64 (0:Int),.int .i64 (0:Int),.nsl]),(1,.vs [.ptr 2 1 0 0,.int .i64 i75,.int .i64 i76,.int .i64 (0:Int),.int .i64 i76,.int .i64 (1:Int)]),(2,.vs [.sl 3 1 1 0 a79 a80]),(3,.fl l81)],4⟩
def qL(u_2:Int)(k_10:Int)(i2:Int)(i3:Int)(a4:Nat)(l5:List Nat)(i14:Int)(i15:Int)(a72:Nat)(a73:Nat)(l74:List Nat)(i75:Int)(i76:Int)(a77:Nat)(l78:List Nat) :T ((Nat×Nat×(List Nat))⊕(aJ)) :=
  .alt 1
    (.need (dD (aa a4 a4 l5 i2 i3 (0:Int) i3 (1:Int) (0:Int) (0:Int) u_2 k_10))<|.need (nt (gF a72 a73 l74 (aE (aa a4 a4 l5 i2 i3 (0:Int) i3 (1:Int) (0:Int) (0:Int) u_2 k_10)) (bK (aa a4 a4 l5 i2 i3 (0:Int) i3 (1:Int) (0:Int) (0:Int) u_2 k_10)) (aF (aa a4 a4 l5 i2 i3 (0:Int) i3 (1:Int) (0:Int) (0:Int) u_2 k_10)) a77 a77 l78 4607182418800017408 i14 i15 (0:Int) i15 (1:Int) (aP (aa a4 a4 l5 i2 i3 (0:Int) i3 (1:Int) (0:Int) (0:Int) u_2 k_10)) (aO (aa a4 a4 l5 i2 i3 (0:Int) i3 (1:Int) (0:Int) (0:Int) u_2 k_10)) (aQ (aa a4 a4 l5 i2 i3 (0:Int) i3 (1:Int) (0:Int) (0:Int) u_2 k_10)) (aS (aa a4 a4 l5 i2 i3 (0:Int) i3 (1:Int) (0:Int) (0:Int) u_2 k_10)) (aR (aa a4 a4 l5 i2 i3 (0:Int) i3 (1:Int) (0:Int) (0:Int) u_2 k_10)) 0 i75 i76 (0:Int) i76 (1:Int)))<|.leaf (.inl ((pt (gF a72 a73 l74 (aE (aa a4 a4 l5 i2 i3 (0:Int) i3 (1:Int) (0:Int) (0:Int) u_2 k_10)) (bK (aa a4 a4 l5 i2 i3 (0:Int) i3 (1:Int) (0:Int) (0:Int) u_2 k_10)) (aF (aa a4 a4 l5 i2 i3 (0:Int) i3 (1:Int) (0:Int) (0:Int) u_2 k_10)) a77 a77 l78 4607182418800017408 i14 i15 (0:Int) i15 (1:Int) (aP (aa a4 a4 l5 i2 i3 (0:Int) i3 (1:Int) (0:Int) (0:Int) u_2 k_10)) (aO (aa a4 a4 l5 i2 i3 (0:Int) i3 (1:Int) (0:Int) (0:Int) u_2 k_10)) (aQ (aa a4 a4 l5 i2 i3 (0:Int) i3 (1:Int) (0:Int) (0:Int) u_2 k_10)) (aS (aa a4 a4 l5 i2 i3 (0:Int) i3 (1:Int) (0:Int) (0:Int) u_2 k_10)) (aR (aa a4 a4 l5 i2 i3 (0:Int) i3 (1:Int) (0:Int) (0:Int) u_2 k_10)) 0 i75 i76 (0:Int) i76 (1:Int))),(pu (gF a72 a73 l74 (aE (aa a4 a4 l5 i2 i3 (0:Int) i3 (1:Int) (0:Int) (0:Int) u_2 k_10)) (bK (aa a4 a4 l5 i2 i3 (0:Int) i3 (1:Int) (0:Int) (0:Int) u_2 k_10)) (aF (aa a4 a4 l5 i2 i3 (0:Int) i3 (1:Int) (0:Int) (0:Int) u_2 k_10)) a77 a77 l78 4607182418800017408 i14 i15 (0:Int) i15 (1:Int) (aP (aa a4 a4 l5 i2 i3 (0:Int) i3 (1:Int) (0:Int) (0:Int) u_2 k_10)) (aO (aa a4 a4 l5 i2 i3 (0:Int) i3 (1:Int) (0:Int) (0:Int) u_2 k_10)) (aQ (aa a4 a4 l5 i2 i3 (0:Int) i3 (1:Int) (0:Int) (0:Int) u_2 k_10)) (aS (aa a4 a4 l5 i2 i3 (0:Int) i3 (1:Int) (0:Int) (0:Int) u_2 k_10)) (aR (aa a4 a4 l5 i2 i3 (0:Int) i3 (1:Int) (0:Int) (0:Int) u_2 k_10)) 0 i75 i76 (0:Int) i76 (1:Int))),(pv (gF a72 a73 l74 (aE (aa a4 a4 l5 i2 i3 (0:Int) i3 (1:Int) (0:Int) (0:Int) u_2 k_10)) (bK (aa a4 a4 l5 i2 i3 (0:Int) i3 (1:Int) (0:Int) (0:Int) u_2 k_10)) (aF (aa a4 a4 l5 i2 i3 (0:Int) i3 (1:Int) (0:Int) (0:Int) u_2 k_10)) a77 a77 l78 4607182418800017408 i14 i15 (0:Int) i15 (1:Int) (aP (aa a4 a4 l5 i2 i3 (0:Int) i3 (1:Int) (0:Int) (0:Int) u_2 k_10)) (aO (aa a4 a4 l5 i2 i3 (0:Int) i3 (1:Int) (0:Int) (0:Int) u_2 k_10)) (aQ (aa a4 a4 l5 i2 i3 (0:Int) i3 (1:Int) (0:Int) (0:Int) u_2 k_10)) (aS (aa a4 a4 l5 i2 i3 (0:Int) i3 (1:Int) (0:Int) (0:Int) u_2 k_10)) (aR (aa a4 a4 l5 i2 i3 (0:Int) i3 (1:Int) (0:Int) (0:Int) u_2 k_10)) 0 i75 i76 (0:Int) i76 (1:Int))))))
    (.fail)
def IV:Int×Int×Nat×Nat×(List Nat)→aC:=fun (i82,i83,a84,a85,l86)=>⟨ah 127 [(8,.ptr 0 1 0 0),(9,.int .i64 (0:Int))],[(0,.vs [.int .i64 i82,.int .i64 i83,.sl 1 1 1 0 a84 a85]),(1,.fl l86)],2⟩
def qM(i75:Int)(i76:Int)(a79:Nat)(l81:List Nat) :T ((Int×Int×Nat×Nat×(List Nat))⊕(aJ)) :=
  .need (bm 0 a79 l81)<|.need (fJ (ax (ab 0 a79 l81) i75 i76 (0:Int) i76 (1:Int)))<|.leaf (.inl ((cG (ax (ab 0 a79 l81) i75 i76 (0:Int) i76 (1:Int))),(cH (ax (ab 0 a79 l81) i75 i76 (0:Int) i76 (1:Int))),(cg (ax (ab 0 a79 l81) i75 i76 (0:Int) i76 (1:Int))),(jy (ax (ab 0 a79 l81) i75 i76 (0:Int) i76 (1:Int))),(ch (ax (ab 0 a79 l81) i75 i76 (0:Int) i76 (1:Int)))))
def IW(i82:Int)(i83:Int)(a84:Nat)(a85:Nat)(l86:List Nat) :T ((Empty)⊕(aJ)) :=
  .leaf (.inr (.r0 0 i82 i83 a84 a85 l86))
noncomputable def dX(s_1:List Nat)(u_2:Int)(u_3:Int)(u_5:List Nat)(v_6:Int)(v_7:Int)(v_9:List Nat)(k_10:Int) :Option aJ:=mU (aL ((qB s_1).run) fun e1 =>
  aL ((qC u_2 u_3 u_5).run) (Sum.elim (fun _ =>
  aL ((Iz v_6 v_7 v_9).run) (Sum.elim (fun _ =>
  (IA e1).run) (fun (i6,i7,a8,l9) =>
  (IB e1).run))) (fun (i2,i3,a4,l5) =>
  aL ((qD v_6 v_7 v_9).run) (Sum.elim (fun _ =>
  (ID e1).run) (fun (i10,i11,a12,l13) =>
  aL ((qE s_1 u_3 v_6 v_7 k_10 e1 i10 i11 a12 l13).run) fun (i14,i15,a16,l17) =>
  aL ((IF).run) fun _ =>
  aL (dJ (mp s_1 k_10 i14 i15) (0,a16,a16,l17)) fun (a72,a73,l74) =>
  aL ((qK u_2 v_6).run) fun (i75,i76,a77,l78) =>
  aL ((qL u_2 k_10 i2 i3 a4 l5 i14 i15 a72 a73 l74 i75 i76 a77 l78).run) fun (a79,a80,l81) =>
  aL ((qM i75 i76 a79 l81).run) fun (i82,i83,a84,a85,l86) =>
  (IW i82 i83 a84 a85 l86).run)))))
theorem KM(v_0:Lv)(s_1:List Nat)(u_2:Int)(u_3:Int)(v_4:Lv)(u_5:List Nat)(v_6:Int)(v_7:Int)(v_8:Lv)(v_9:List Nat)(k_10:Int){x:aJ}(h:dX s_1 u_2 u_3 u_5 v_6 v_7 v_9 k_10=some x) :ag prog tC [] [.imm v_0 (.fl s_1) 1 1 0 (List.length s_1),.agg [.int .i64 u_2,.int .i64 u_3,.imm v_4 (.fl u_5) 1 1 0 (List.length u_5)],.agg [.int .i64 v_6,.int .i64 v_7,.imm v_8 (.fl v_9) 1 1 0 (List.length v_9)],.int .i64 k_10] (uk x) :=
  ol false uk lQ h (Sg.cut 2 bD (bZ bf (KD v_0 s_1 u_2 u_3 v_4 u_5 v_6 v_7 v_8 v_9 k_10) [⟨[],[0,16,32],[0,3,5,6,8,10]⟩]) (fun e1=>Sg.cut 1 bD (bZ bf (Sum.elim (KE v_0 s_1 u_2 u_3 v_4 u_5 v_6 v_7 v_8 v_9 k_10 e1) (KF v_0 s_1 u_2 u_3 v_4 u_5 v_6 v_7 v_8 v_9 k_10 e1)) [⟨[],[0,1,2,83],[0,3,5,6,8,10,11,12]⟩,⟨[],[0,1,2,83,19,20],[0,3,5,6,8,10,11,12]⟩]) (sga (fun _=>Sg.cut 1 bD (bZ bf (Sum.elim (KG v_0 s_1 u_2 u_3 v_4 u_5 v_6 v_7 v_8 v_9 k_10 e1) (KH v_0 s_1 u_2 u_3 v_4 u_5 v_6 v_7 v_8 v_9 k_10 e1)) [⟨[],[0,1,2,3,84],[0,3,5,6,8,10,11,12,13,14]⟩,⟨[],[0,1,2,3,84,20,21],[0,3,5,6,8,10,11,12,13,14]⟩]) (sga (fun _=>bZ bf mF [⟨[(.cell 2 2,.own 1 1 (.fl ([]:List Nat)))],[2,229],[8,9]⟩,⟨[(.cell 2 2,.own 1 1 (.fl ([]:List Nat)))],[2,229],[8,9]⟩]) (fun ⟨i6,i7,a8,l9⟩=>bZ bf mF [⟨[(.cell 2 2,.own 1 1 (.fl ([]:List Nat)))],[2,231],[8,9]⟩,⟨[(.cell 2 2,.own 1 1 (.fl ([]:List Nat)))],[2,231],[8,9]⟩]))) (fun ⟨i2,i3,a4,l5⟩=>Sg.cut 1 bD (bZ bf (Sum.elim (KI v_0 s_1 u_2 u_3 v_4 u_5 v_6 v_7 v_8 v_9 k_10 e1 i2 i3 a4 l5) (KJ v_0 s_1 u_2 u_3 v_4 u_5 v_6 v_7 v_8 v_9 k_10 e1 i2 i3 a4 l5)) [⟨[],[0,1,2,3,86,4,5],[0,3,5,6,8,10,11,12,13,14]⟩,⟨[],[0,1,2,3,86,4,22,5,23],[0,3,5,6,8,10,11,12,13,14]⟩]) (sga (fun _=>bZ bf mF [⟨[(.cell 2 2,.own 1 1 (.fl ([]:List Nat)))],[2,231],[8,9]⟩,⟨[(.cell 2 2,.own 1 1 (.fl ([]:List Nat)))],[2,231],[8,9]⟩]) (fun ⟨i10,i11,a12,l13⟩=>Sg.cut 2 bD (bZ bf (KK v_0 s_1 u_2 u_3 v_4 u_5 v_6 v_7 v_8 v_9 k_10 i2 i3 a4 l5) [⟨[(.cell 2 2,.own 1 1 (.fl ([]:List Nat)))],[2,233],[8,9]⟩,⟨[(.cell 2 2,.own 1 1 (.fl ([]:List Nat)))],[2,601],[8,9]⟩,⟨[(.cell 2 2,.own 1 1 (.fl ([]:List Nat)))],[2,601],[8,9]⟩,⟨[(.cell 2 2,.own 1 1 (.fl ([]:List Nat)))],[2,601],[8,9]⟩,⟨[(.cell 2 2,.own 1 1 (.fl ([]:List Nat)))],[2,601],[8,9]⟩,⟨[(.cell 2 2,.own 1 1 (.fl ([]:List Nat)))],[2,665],[8,9]⟩,⟨[],[0,1,2,3,697,5,681,7,682],[0,3,5,6,8,11,15]⟩]) (fun ⟨i14,i15,a16,l17⟩=>Sg.cut 1 bD (bZ bf (KL v_0 s_1 u_2 u_3 v_4 u_5 v_6 v_7 v_8 v_9 k_10 i2 i3 a4 l5 i14 i15 a16 l17) [⟨[],[0,1,2,3,4,5,6,7,8],[0,3,5,6,8,11,15,81,82]⟩]) (fun _=>Sg.cut 1 bD (QA ⟨[],[0,1,2,3,4,5,6,7,8],[0,3,5,6,8,11,15,81,82]⟩ (ml v_0 s_1 u_2 u_3 v_4 u_5 v_6 v_7 v_8 v_9 k_10 i2 i3 a4 l5 i14 i15) (qF u_2 u_3 v_4 u_5 v_6 v_7 v_8 v_9 k_10 i2 i3 a4 l5 i14 i15) 1 bD (sx _) (fun ⟨a43,a44,a45,l46⟩=>IS v_0 s_1 u_2 u_3 v_4 u_5 v_6 v_7 v_8 v_9 k_10 i2 i3 a4 l5 i14 i15 a43 a44 a45 l46)) (fun ⟨a72,a73,l74⟩=>Sg.cut 1 bD (bZ bf (IT u_2 u_3 v_4 u_5 k_10 i2 i3 a4 l5 i14 i15 a72 a73 l74) [⟨[],[0,2,3,4,137,5,6,73,7,8,74],[3,5,8,11,15,20]⟩]) (fun ⟨i75,i76,a77,l78⟩=>Sg.cut 1 bD (bZ bf (IU i75 i76) [⟨[],[1,4,7,10],[8,20]⟩]) (fun ⟨a79,a80,l81⟩=>Sg.cut 1 bD (bZ bf IV [⟨[],[0,20],[8,9]⟩]) (fun ⟨i82,i83,a84,a85,l86⟩=>bZ bf mF [⟨[],[0,1],[8,9]⟩]))))))))))))
    (fun x=>by cases x with | r0 a87 i88 i89 a90 a91 l92=>exact mw [.agg [.int .i64 i88,.int .i64 i89,.sl 1 1 1 0 a90 a91],.int .i64 ((a87:Nat):Int)])
def nu:Option aJ→Bool
  | some _=>true
  | none=>false
def px:Option aJ→Nat
  | some (.r0 x _ _ _ _ _)=>x
  | _=>0
def py:Option aJ→Int
  | some (.r0 _ x _ _ _ _)=>x
  | _=>0
def pz:Option aJ→Int
  | some (.r0 _ _ x _ _ _)=>x
  | _=>0
def pA:Option aJ→Nat
  | some (.r0 _ _ _ x _ _)=>x
  | _=>0
def pB:Option aJ→Nat
  | some (.r0 _ _ _ _ x _)=>x
  | _=>0
def pC:Option aJ→List Nat
  | some (.r0 _ _ _ _ _ x)=>x
  | _=>[]
theorem KN{x:Option aJ}(h:nu x=true) :x=some (.r0 (px x) (py x) (pz x) (pA x) (pB x) (pC x)):=by
  unfold nu at h
  split at h<;>first | rfl | (cases h;done) | (rename_i y;cases y;rfl)
noncomputable def BQ:aA:=cO tC (.cons .fl (.cons (.agg (.cons (.int .i64) (.cons (.int .i64) (.cons .fl .nil)))) (.cons (.agg (.cons (.int .i64) (.cons (.int .i64) (.cons .fl .nil)))) (.cons (.int .i64) .nil)))) fun t=>(fun q=>[⟨uk (.r0 (px q) (py q) (pz q) (pA q) (pB q) (pC q)),[nu q]⟩]) (dX t.1.2 t.2.1.1 t.2.1.2.1 t.2.1.2.2.1.2 t.2.2.1.1 t.2.2.1.2.1 t.2.2.1.2.2.1.2 t.2.2.2.1)
theorem GY:aN prog BQ:=bc fun t=>(aY (fun h=>KM t.1.1 t.1.2 t.2.1.1 t.2.1.2.1 t.2.1.2.2.1.1 t.2.1.2.2.1.2 t.2.2.1.1 t.2.2.1.2.1 t.2.2.1.2.2.1.1 t.2.2.1.2.2.1.2 t.2.2.2.1 (KN h)) bv)
noncomputable def BS:List aA:=BQ::BP
theorem vx:aH prog (aG BS):=au GY bf
inductive im where
  | r0 (a1:Nat)
def PW:im→AE×aC
  | .r0 a1=>(.ret,⟨ah 18 [(2,.int .i64 ((a1:Nat):Int))],[],0⟩)
def wA:im→ir
  | .r0 a1=>⟨.int .i64 ((a1:Nat):Int),[]⟩
def BT(w_0:Int) :T ((Empty)⊕(im)) :=
  .need (decide ((0:Int)≤(52:Int)))<|.ask ((bE .and .u64 (Int.fdiv w_0 (2^(min (Int.toNat (52:Int)) (IntKind.u64.bits)))) (2047:Int))==(2047:Int))
    (.ask ((bE .and .u64 w_0 (4503599627370495:Int))==(0:Int))
      (.leaf (.inr (.r0 4)))
      (.leaf (.inr (.r0 5))))
    (.ask (decide ((bE .and .u64 (Int.fdiv w_0 (2^(min (Int.toNat (52:Int)) (IntKind.u64.bits)))) (2047:Int))>(0:Int)))
      (.leaf (.inr (.r0 3)))
      (.ask (decide ((bE .and .u64 w_0 (4503599627370495:Int))>(0:Int)))
        (.leaf (.inr (.r0 2)))
        (.leaf (.inr (.r0 1)))))
noncomputable def kG(w_0:Int) :Option im:=mU ((BT w_0).run)
theorem NY(w_0:Int){x:im}(h:kG w_0=some x) :ag prog Dw [] [.int .u64 w_0] (wA x) :=
  ol false wA PW h (bZ vx mF [⟨[],[],[2]⟩,⟨[],[],[2]⟩,⟨[],[],[2]⟩,⟨[],[],[2]⟩,⟨[],[],[2]⟩])
    (fun x=>by cases x with | r0 a1=>exact mw [.int .i64 ((a1:Nat):Int)])
def pD:Option im→Bool
  | some _=>true
  | none=>false
def qN:Option im→Nat
  | some (.r0 x)=>x
  | _=>0
theorem NZ{x:Option im}(h:pD x=true) :x=some (.r0 (qN x)):=by
  unfold pD at h
  split at h<;>first | rfl | (cases h;done) | (rename_i y;cases y;rfl)
noncomputable def DW:aA:=cO Dw (.cons (.int .u64) .nil) fun t=>(fun q=>[⟨wA (.r0 (qN q)),[pD q]⟩]) (kG t.1)
theorem IX:aN prog DW:=bc fun t=>(aY (fun h=>NY t.1 (NZ h)) bv)
noncomputable def DX:List aA:=DW::BS
theorem qO:aH prog (aG DX):=au IX vx
inductive iV where
  | r0 (i2:Int)
def JY:iV→AE×aC
  | .r0 i2=>(.ret,⟨ah 7 [(2,.int .u64 i2)],[],0⟩)
theorem TC:kE JY:=by intro x;cases x<;>(intro h;cases h)
def BU:iV→ir
  | .r0 i2=>⟨.int .u64 i2,[]⟩
def TD(w_0:Int)(b1:Bool) :aC:=⟨ah 7 [(0,.int .u64 w_0),(5,.bool false b1)],[],0⟩
def zA(w_0:Int) :T ((Bool)⊕(iV)) :=
  .need (pD (kG w_0))<|.leaf (.inl ((((qN (kG w_0)):Nat):Int)==(5:Int)))
def TE(w_0:Int)(b1:Bool) :T ((Empty)⊕(iV)) :=
  .ask b1
    (.leaf (.inr (.r0 (9221120237041090560:Int))))
    (.leaf (.inr (.r0 w_0)))
noncomputable def io(w_0:Int) :Option iV:=mU (aL ((zA w_0).run) fun b1 =>
  (TE w_0 b1).run)
theorem TF(w_0:Int){x:iV}(h:io w_0=some x) :ag prog ry [] [.int .u64 w_0] (BU x) :=
  ol false BU JY h (Sg.cut 2 TC (bZ qO (TD w_0) [⟨[],[],[0,5]⟩]) (fun b1=>bZ qO mF [⟨[],[],[2]⟩,⟨[],[],[2]⟩]))
    (fun x=>by cases x with | r0 i2=>exact mw [.int .u64 i2])
def mq:Option iV→Bool
  | some _=>true
  | none=>false
def jA:Option iV→Int
  | some (.r0 x)=>x
  | _=>0
theorem TG{x:Option iV}(h:mq x=true) :x=some (.r0 (jA x)):=by
  unfold mq at h
  split at h<;>first | rfl | (cases h;done) | (rename_i y;cases y;rfl)
noncomputable def JZ:aA:=cO ry (.cons (.int .u64) .nil) fun t=>(fun q=>[⟨BU (.r0 (jA q)),[mq q]⟩]) (io t.1)
theorem N2:aN prog JZ:=bc fun t=>(aY (fun h=>TF t.1 (TG h)) bv)
noncomputable def J0:List aA:=JZ::DX
theorem lR:aH prog (aG J0):=au N2 qO
inductive co where
  | r0 (b2:Bool)
def jZ:co→AE×aC
  | .r0 b2=>(.ret,⟨ah 28 [(4,.bool false b2)],[],0⟩)
theorem jf:kE jZ:=by intro x;cases x<;>(intro h;cases h)
theorem C1(id:Nat) :mu id jZ:=by intro x;cases x<;>(intro h;cases h)
def nQ:co→ir
  | .r0 b2=>⟨.bool false b2,[]⟩
noncomputable def C2:List Code:=dp (nD nA)
def C3(v_0:Lv)(a_1:List Nat)(v_2:Lv)(b_3:List Nat)(_:Unit) :aC:=⟨ah 28 [(0,.imm v_0 (.fl a_1) 1 1 0 (List.length a_1)),(1,.imm v_2 (.fl b_3) 1 1 0 (List.length b_3)),(5,.int .i64 (0:Int))],[],0⟩
def C4(a_1:List Nat)(b_3:List Nat) :T ((Unit)⊕(co)) :=
  .ask ((((List.length a_1):Nat):Int) != (((List.length b_3):Nat):Int))
    (.leaf (.inr (.r0 false)))
    (.leaf (.inl ()))
def jg(v_0:Lv)(a_1:List Nat)(v_2:Lv)(b_3:List Nat)(i1:Nat) :aC:=⟨ah 28 [(0,.imm v_0 (.fl a_1) 1 1 0 (List.length a_1)),(1,.imm v_2 (.fl b_3) 1 1 0 (List.length b_3)),(5,.int .i64 ((i1:Nat):Int))],[],0⟩
def sG(_:Unit) :aC:=⟨ah 28 [],[],0⟩
noncomputable def BV:List Code:=dp (fF ((((C2.drop 4).take 1)).headD .skip))
def C5(v_0:Lv)(a_1:List Nat)(v_2:Lv)(b_3:List Nat)(i1:Nat)(_:Unit) :aC:=⟨ah 28 [(0,.imm v_0 (.fl a_1) 1 1 0 (List.length a_1)),(1,.imm v_2 (.fl b_3) 1 1 0 (List.length b_3)),(5,.int .i64 ((i1:Nat):Int))],[],0⟩
def rX(a_1 : List Nat)(b_3 : List Nat)(i1 : Nat) : T ((Unit) ⊕ ((Unit) ⊕ (co))) :=
  .ask (decide (((i1:Nat):Int)<(((List.length a_1):Nat):Int)))
    (.need (fO ((i1:Nat):Int) (List.length a_1))<|.need (fD i1 (List.length a_1))<|.alt 0
      (.need (!isNaN (List.getD a_1 i1 0))<|.need (mq (io (((List.getD a_1 i1 0):Nat):Int)))<|.need (fO ((i1:Nat):Int) (List.length b_3))<|.need (fD i1 (List.length b_3))<|.alt 0
        (.need (!isNaN (List.getD b_3 i1 0))<|.need (mq (io (((List.getD b_3 i1 0):Nat):Int)))<|.ask ((jA (io (((List.getD a_1 i1 0):Nat):Int))) != (jA (io (((List.getD b_3 i1 0):Nat):Int))))
          (.leaf (.inr (.inr (.r0 false))))
          (.leaf (.inl ())))
        (.alt 1
          (.need (isNaN (List.getD b_3 i1 0))<|.ask ((jA (io (((List.getD a_1 i1 0):Nat):Int))) != (9221120237041090560:Int))
            (.leaf (.inr (.inr (.r0 false))))
            (.leaf (.inl ())))
          (.fail)))
      (.alt 1
        (.need (isNaN (List.getD a_1 i1 0))<|.need (fO ((i1:Nat):Int) (List.length b_3))<|.need (fD i1 (List.length b_3))<|.alt 0
          (.need (!isNaN (List.getD b_3 i1 0))<|.need (mq (io (((List.getD b_3 i1 0):Nat):Int)))<|.ask ((9221120237041090560:Int) != (jA (io (((List.getD b_3 i1 0):Nat):Int))))
            (.leaf (.inr (.inr (.r0 false))))
            (.leaf (.inl ())))
          (.alt 1
            (.need (isNaN (List.getD b_3 i1 0))<|.ask ((9221120237041090560:Int) != (9221120237041090560:Int))
              (.fail)
              (.leaf (.inl ())))
            (.fail)))
        (.fail)))
    (.leaf (.inr (.inl ())))
def BW(i1:Nat) :T ((Nat)⊕((Unit)⊕(co))) :=
  .need (cI .i64 (((i1+1):Nat):Int))<|.leaf (.inl (i1+1))
noncomputable def lS(a_1:List Nat)(b_3:List Nat) :Nat→Option ((Nat)⊕((Unit)⊕(co))):=fun i1 =>
  aL ((rX a_1 b_3 i1).run) fun _ =>
  (BW i1).run
theorem BX(v_0:Lv)(a_1:List Nat)(v_2:Lv)(b_3:List Nat)(i1:Nat) :Sg prog [] BV (jg v_0 a_1 v_2 b_3 i1) (lS a_1 b_3 i1) (jg v_0 a_1 v_2 b_3) (du 0 sG jZ):=by
  unfold lS;exact Sg.cut 3 (bi jf) (bZ lR (C5 v_0 a_1 v_2 b_3 i1) [⟨[],[],[4]⟩,⟨[],[],[0,1,5]⟩,⟨[],[],[4]⟩,⟨[],[],[0,1,5]⟩,⟨[],[],[4]⟩,⟨[],[],[0,1,5]⟩,⟨[],[],[0,1,5]⟩,⟨[],[],[]⟩]) (fun _=>bZ lR (jg v_0 a_1 v_2 b_3) [⟨[],[],[0,1,5]⟩])
def BY:T ((Empty)⊕(co)) :=
  .leaf (.inr (.r0 true))
noncomputable def iC(a_1:List Nat)(b_3:List Nat) :Option co:=mU (aL ((C4 a_1 b_3).run) fun _ =>
  aL (dJ (lS a_1 b_3) 0) fun _ =>
  (BY).run)
theorem C6(v_0:Lv)(a_1:List Nat)(v_2:Lv)(b_3:List Nat){x:co}(h:iC a_1 b_3=some x) :ag prog nA [] [.imm v_0 (.fl a_1) 1 1 0 (List.length a_1),.imm v_2 (.fl b_3) 1 1 0 (List.length b_3)] (nQ x) :=
  ol false nQ jZ h (Sg.cut 4 jf (bZ lR (C3 v_0 a_1 v_2 b_3) [⟨[],[],[4]⟩,⟨[],[],[0,1,5]⟩]) (fun _=>Sg.cut 1 jf (QA ⟨[],[],[0,1,5]⟩ (jg v_0 a_1 v_2 b_3) (sG) 0 jf (C1 _) (fun i1=>BX v_0 a_1 v_2 b_3 i1)) (fun _=>bZ lR mF [⟨[],[],[4]⟩])))
    (fun x=>by cases x with | r0 b2=>exact mw [.bool false b2])
def jh:Option co→Bool
  | some _=>true
  | none=>false
def kN:Option co→Bool
  | some (.r0 x)=>x
  | _=>false
theorem C7{x:Option co}(h:jh x=true) :x=some (.r0 (kN x)):=by
  unfold jh at h
  split at h<;>first | rfl | (cases h;done) | (rename_i y;cases y;rfl)
noncomputable def ul:aA:=cO nA (.cons .fl (.cons .fl .nil)) fun t=>(fun q=>[⟨nQ (.r0 (kN q)),[jh q]⟩]) (iC t.1.2 t.2.1.2)
theorem AB:aN prog ul:=bc fun t=>(aY (fun h=>C6 t.1.1 t.1.2 t.2.1.1 t.2.1.2 (C7 h)) bv)
noncomputable def um:List aA:=ul::J0
theorem kO:aH prog (aG um):=au AB lR
inductive dr where
  | r0 (b2:Bool)
def un:dr→AE×aC
  | .r0 b2=>(.ret,⟨ah 24 [(4,.bool false b2)],[],0⟩)
theorem C8:kE un:=by intro x;cases x<;>(intro h;cases h)
def nR:dr→ir
  | .r0 b2=>⟨.bool false b2,[]⟩
def C9(b1:Bool) :aC:=⟨ah 24 [(4,.bool false b1)],[],0⟩
def sH(a_0:Int)(a_1:Int)(a_3:List Nat)(b_4:Int)(b_5:Int)(b_7:List Nat) :T ((Bool)⊕(dr)) :=
  .ask (a_0==b_4)
    (.ask (a_1==b_5)
      (.need (bm 0 (List.length a_3) a_3)<|.need (bm 0 (List.length b_7) b_7)<|.need (jh (iC (ab 0 (List.length a_3) a_3) (ab 0 (List.length b_7) b_7)))<|.leaf (.inl (kN (iC (ab 0 (List.length a_3) a_3) (ab 0 (List.length b_7) b_7)))))
      (.leaf (.inl false)))
    (.leaf (.inl false))
def Da(b1:Bool) :T ((Empty)⊕(dr)) :=
  .leaf (.inr (.r0 b1))
noncomputable def iD(a_0:Int)(a_1:Int)(a_3:List Nat)(b_4:Int)(b_5:Int)(b_7:List Nat) :Option dr:=mU (aL ((sH a_0 a_1 a_3 b_4 b_5 b_7).run) fun b1 =>
  (Da b1).run)
theorem Db(a_0:Int)(a_1:Int)(v_2:Lv)(a_3:List Nat)(b_4:Int)(b_5:Int)(v_6:Lv)(b_7:List Nat){x:dr}(h:iD a_0 a_1 a_3 b_4 b_5 b_7=some x) :ag prog tD [] [.agg [.int .i64 a_0,.int .i64 a_1,.imm v_2 (.fl a_3) 1 1 0 (List.length a_3)],.agg [.int .i64 b_4,.int .i64 b_5,.imm v_6 (.fl b_7) 1 1 0 (List.length b_7)]] (nR x) :=
  ol false nR un h (Sg.cut 2 C8 (bZ kO C9 [⟨[],[],[4]⟩,⟨[],[],[4]⟩,⟨[],[],[4]⟩]) (fun b1=>bZ kO mF [⟨[],[],[4]⟩]))
    (fun x=>by cases x with | r0 b2=>exact mw [.bool false b2])
def ji:Option dr→Bool
  | some _=>true
  | none=>false
def kP:Option dr→Bool
  | some (.r0 x)=>x
  | _=>false
theorem Dc{x:Option dr}(h:ji x=true) :x=some (.r0 (kP x)):=by
  unfold ji at h
  split at h<;>first | rfl | (cases h;done) | (rename_i y;cases y;rfl)
noncomputable def uo:aA:=cO tD (.cons (.agg (.cons (.int .i64) (.cons (.int .i64) (.cons .fl .nil)))) (.cons (.agg (.cons (.int .i64) (.cons (.int .i64) (.cons .fl .nil)))) .nil)) fun t=>(fun q=>[⟨nR (.r0 (kP q)),[ji q]⟩]) (iD t.1.1 t.1.2.1 t.1.2.2.1.2 t.2.1.1 t.2.1.2.1 t.2.1.2.2.1.2)
theorem AC:aN prog uo:=bc fun t=>(aY (fun h=>Db t.1.1 t.1.2.1 t.1.2.2.1.1 t.1.2.2.1.2 t.2.1.1 t.2.1.2.1 t.2.1.2.2.1.1 t.2.1.2.2.1.2 (Dc h)) bv)
noncomputable def uq:List aA:=uo::um
theorem cU:aH prog (aG uq):=au AC kO
inductive bF where
  | r0 (b32:Bool)
def kX:bF→AE×aC
  | .r0 b32=>(.ret,⟨ah 151 [(8,.bool false b32)],[],0⟩)
theorem eP:kE kX:=by intro x;cases x<;>(intro h;cases h)
theorem Fd(id:Nat) :mu id kX:=by intro x;cases x<;>(intro h;cases h)
def pE:bF→ir
  | .r0 b32=>⟨.bool false b32,[]⟩
noncomputable def Dd:List Code:=dp (nD kQ)
def Fe(v_4:Lv)(l_5:List Int)(_:Unit) :aC:=⟨ah 151 [(3,.imm v_4 (.ns .i64 l_5) 1 1 0 (List.length l_5))],[],0⟩
def mC(s_1:List Nat)(t_2:Nat)(u_3:Nat) :T ((Unit)⊕(bF)) :=
  .ask false
    (.fail)
    (.ask (decide ((((List.length s_1):Nat):Int)≤(600:Int)))
      (.need (bm 0 (List.length s_1) s_1)<|.need (lK (ed (ab 0 (List.length s_1) s_1) (uw t_2 u_3)))<|.need (bm 0 (List.length s_1) s_1)<|.need (lK (ed (ab 0 (List.length s_1) s_1) (wE t_2 u_3)))<|.ask ((((jw (ed (ab 0 (List.length s_1) s_1) (uw t_2 u_3))):Nat):Int)==(0:Int))
        (.ask ((((jw (ed (ab 0 (List.length s_1) s_1) (wE t_2 u_3))):Nat):Int)==(0:Int))
          (.ask (decide ((jv (ed (ab 0 (List.length s_1) s_1) (wE t_2 u_3)))>(jv (ed (ab 0 (List.length s_1) s_1) (uw t_2 u_3)))))
            (.leaf (.inr (.r0 false)))
            (.leaf (.inl ())))
          (.leaf (.inl ())))
        (.leaf (.inl ())))
      (.leaf (.inl ())))
def Ff(v_4:Lv)(l_5:List Int) :Nat×(List Nat)→aC:=fun (a1,l2)=>⟨ah 151 [(3,.imm v_4 (.ns .i64 l_5) 1 1 0 (List.length l_5)),(13,.int .i64 (((List.length l_5):Nat):Int)),(14,.ptr 0 1 0 0),(15,.ptr 1 1 0 0),(16,.nsl),(17,.int .i64 (0:Int))],[(0,.vs [.int .i64 (((List.length l_5):Nat):Int),.int .i64 (((List.length l_5):Nat):Int),.sl 2 1 1 0 a1 a1]),(1,.vs [.int .i64 (((List.length l_5):Nat):Int),.int .i64 (((List.length l_5):Nat):Int),.sl 3 1 1 0 a1 a1]),(2,.fl l2),(3,.fl l2)],4⟩
def jj(l_5:List Int) :T ((Nat×(List Nat))⊕(bF)) :=
  .ask (decide ((((List.length l_5):Nat):Int)>(6:Int)))
    (.leaf (.inr (.r0 true)))
    (.need (cI .i64 ((((List.length l_5)*(List.length l_5)):Nat):Int))<|.need (decide ((0:Int)≤((((List.length l_5)*(List.length l_5)):Nat):Int)))<|.need (decide (((((List.length l_5)*(List.length l_5)):Nat):Int)≤((((List.length l_5)*(List.length l_5)):Nat):Int)))<|.need (decide ((8:Int)*((((List.length l_5)*(List.length l_5)):Nat):Int)≤140737488355328))<|.need (cI .i64 ((((List.length l_5)*(List.length l_5)):Nat):Int))<|.need (cI .i64 ((((List.length l_5)*(List.length l_5)):Nat):Int))<|.need (decide ((0:Int)≤((((List.length l_5)*(List.length l_5)):Nat):Int)))<|.need (decide (((((List.length l_5)*(List.length l_5)):Nat):Int)≤((((List.length l_5)*(List.length l_5)):Nat):Int)))<|.need (decide ((8:Int)*((((List.length l_5)*(List.length l_5)):Nat):Int)≤140737488355328))<|.need (cI .i64 ((((List.length l_5)*(List.length l_5)):Nat):Int))<|.leaf (.inl (((List.length l_5)*(List.length l_5)),(List.replicate ((List.length l_5)*(List.length l_5)) 0))))
def ka(v_4:Lv)(l_5:List Int)(a1:Nat) :Nat×Nat×Nat×(List Nat)×(List Nat)×(List Nat)→aC:=fun (d10,d11,i12,l13,l14,l15)=>⟨ah 151 [(3,.imm v_4 (.ns .i64 l_5) 1 1 0 (List.length l_5)),(13,.int .i64 (((List.length l_5):Nat):Int)),(14,.ptr 0 1 0 0),(15,.ptr 1 1 0 0),(16,.sl 2 1 1 0 d10 d11),(17,.int .i64 ((i12:Nat):Int))],[(0,.vs [.int .i64 (((List.length l_5):Nat):Int),.int .i64 (((List.length l_5):Nat):Int),.sl 3 1 1 0 a1 a1]),(1,.vs [.int .i64 (((List.length l_5):Nat):Int),.int .i64 (((List.length l_5):Nat):Int),.sl 4 1 1 0 a1 a1]),(2,.fl l13),(3,.fl l14),(4,.fl l15)],5⟩
def ur(l_5:List Int)(a1:Nat) :Nat×Nat×(List Nat)×(List Nat)×(List Nat)→aC:=fun (d20,d21,l22,l23,l24)=>⟨ah 151 [(13,.int .i64 (((List.length l_5):Nat):Int)),(14,.ptr 0 1 0 0),(15,.ptr 1 1 0 0),(16,.sl 2 1 1 0 d20 d21)],[(0,.vs [.int .i64 (((List.length l_5):Nat):Int),.int .i64 (((List.length l_5):Nat):Int),.sl 3 1 1 0 a1 a1]),(1,.vs [.int .i64 (((List.length l_5):Nat):Int),.int .i64 (((List.length l_5):Nat):Int),.sl 4 1 1 0 a1 a1]),(2,.fl l22),(3,.fl l23),(4,.fl l24)],5⟩
noncomputable def De:List Code:=dp (fF (((((Dd.drop 5).drop 7).take 1)).headD .skip))
def Fg(v_4:Lv)(l_5:List Int)(a1:Nat)(i12:Nat) :Nat×(List Nat)×(List Nat)×(List Nat)→aC:=fun (d16,l17,l18,l19)=>⟨ah 151 [(3,.imm v_4 (.ns .i64 l_5) 1 1 0 (List.length l_5)),(13,.int .i64 (((List.length l_5):Nat):Int)),(14,.ptr 0 1 0 0),(15,.ptr 1 1 0 0),(16,.sl 2 1 1 0 d16 d16),(17,.int .i64 ((i12:Nat):Int))],[(0,.vs [.int .i64 (((List.length l_5):Nat):Int),.int .i64 (((List.length l_5):Nat):Int),.sl 3 1 1 0 a1 a1]),(1,.vs [.int .i64 (((List.length l_5):Nat):Int),.int .i64 (((List.length l_5):Nat):Int),.sl 4 1 1 0 a1 a1]),(2,.fl l17),(3,.fl l18),(4,.fl l19)],5⟩
def eA(l_5:List Int)(a1:Nat)(d10:Nat)(d11:Nat)(i12:Nat)(l13:List Nat)(l14:List Nat)(l15:List Nat) :T ((Nat×(List Nat)×(List Nat)×(List Nat))⊕((Nat×Nat×(List Nat)×(List Nat)×(List Nat))⊕(bF))) :=
  .ask (decide (((i12:Nat):Int)<(((List.length l_5):Nat):Int)))
    (.need (fO ((i12:Nat):Int) (List.length l_5))<|.need (fD i12 (List.length l_5))<|.ask (decide ((List.getD l_5 i12 0)<(-100:Int)))
      (.leaf (.inr (.inr (.r0 true))))
      (.need (fO ((i12:Nat):Int) (List.length l_5))<|.need (fD i12 (List.length l_5))<|.ask (decide ((List.getD l_5 i12 0)>(100:Int)))
        (.leaf (.inr (.inr (.r0 true))))
        (.ask (decide (((i12:Nat):Int)>(0:Int)))
          (.need (fO ((i12:Nat):Int) (List.length l_5))<|.need (fD i12 (List.length l_5))<|.need (cI .i64 (((i12:Nat):Int)-(1:Int)))<|.need (fO (((i12:Nat):Int)-(1:Int)) (List.length l_5))<|.need (fD (Int.toNat (((i12:Nat):Int)-(1:Int))) (List.length l_5))<|.ask (decide ((List.getD l_5 i12 0)>(List.getD l_5 (Int.toNat (((i12:Nat):Int)-(1:Int))) 0)))
            (.leaf (.inr (.inr (.r0 true))))
            (.need (fO ((i12:Nat):Int) (List.length l_5))<|.need (fD i12 (List.length l_5))<|.need (iZ (eL 4607182418800017408 (List.getD l_5 i12 0)))<|.need (mt ((d10+1)*8) 140737488355328)<|.need (mt (d10+1) 9223372036854775807)<|.need (mt 1 1)<|.need (mt d10 (List.length l13))<|.need (cI .i64 (((i12*(List.length l_5)):Nat):Int))<|.need (cI .i64 ((((i12*(List.length l_5))+i12):Nat):Int))<|.need (fO ((((i12*(List.length l_5))+i12):Nat):Int) a1)<|.need (fD ((i12*(List.length l_5))+i12) (List.length l14))<|.need (cI .i64 (((i12*(List.length l_5)):Nat):Int))<|.need (cI .i64 ((((i12*(List.length l_5))+i12):Nat):Int))<|.need (fO ((i12:Nat):Int) (List.length l_5))<|.need (fD i12 (List.length l_5))<|.need (cI .i64 ((0:Int)-(List.getD l_5 i12 0)))<|.need (iZ (eL 4607182418800017408 ((0:Int)-(List.getD l_5 i12 0))))<|.need (fO ((((i12*(List.length l_5))+i12):Nat):Int) a1)<|.need (fD ((i12*(List.length l_5))+i12) (List.length l15))<|.leaf (.inl ((d10+1),((List.take d10 l13)++(List.take 1 [(iL (eL 4607182418800017408 (List.getD l_5 i12 0)))])),(List.set l14 ((i12*(List.length l_5))+i12) 4607182418800017408),(List.set l15 ((i12*(List.length l_5))+i12) (iL (eL 4607182418800017408 ((0:Int)-(List.getD l_5 i12 0)))))))))
          (.need (fO ((i12:Nat):Int) (List.length l_5))<|.need (fD i12 (List.length l_5))<|.need (iZ (eL 4607182418800017408 (List.getD l_5 i12 0)))<|.need (mt ((d10+1)*8) 140737488355328)<|.need (mt (d10+1) 9223372036854775807)<|.need (mt 1 1)<|.need (mt d10 (List.length l13))<|.need (cI .i64 (((i12*(List.length l_5)):Nat):Int))<|.need (cI .i64 ((((i12*(List.length l_5))+i12):Nat):Int))<|.need (fO ((((i12*(List.length l_5))+i12):Nat):Int) a1)<|.need (fD ((i12*(List.length l_5))+i12) (List.length l14))<|.need (cI .i64 (((i12*(List.length l_5)):Nat):Int))<|.need (cI .i64 ((((i12*(List.length l_5))+i12):Nat):Int))<|.need (fO ((i12:Nat):Int) (List.length l_5))<|.need (fD i12 (List.length l_5))<|.need (cI .i64 ((0:Int)-(List.getD l_5 i12 0)))<|.need (iZ (eL 4607182418800017408 ((0:Int)-(List.getD l_5 i12 0))))<|.need (fO ((((i12*(List.length l_5))+i12):Nat):Int) a1)<|.need (fD ((i12*(List.length l_5))+i12) (List.length l15))<|.leaf (.inl ((d10+1),((List.take d10 l13)++(List.take 1 [(iL (eL 4607182418800017408 (List.getD l_5 i12 0)))])),(List.set l14 ((i12*(List.length l_5))+i12) 4607182418800017408),(List.set l15 ((i12*(List.length l_5))+i12) (iL (eL 4607182418800017408 ((0:Int)-(List.getD l_5 i12 0)))))))))))
    (.leaf (.inr (.inl (d10,d11,l13,l14,l15))))
def Df(i12:Nat)(d16:Nat)(l17:List Nat)(l18:List Nat)(l19:List Nat) :T ((Nat×Nat×Nat×(List Nat)×(List Nat)×(List Nat))⊕((Nat×Nat×(List Nat)×(List Nat)×(List Nat))⊕(bF))) :=
  .need (cI .i64 (((i12+1):Nat):Int))<|.leaf (.inl (d16,d16,(i12+1),l17,l18,l19))
noncomputable def fC(l_5:List Int)(a1:Nat) :Nat×Nat×Nat×(List Nat)×(List Nat)×(List Nat)→Option ((Nat×Nat×Nat×(List Nat)×(List Nat)×(List Nat))⊕((Nat×Nat×(List Nat)×(List Nat)×(List Nat))⊕(bF))):=fun (d10,d11,i12,l13,l14,l15) =>
  aL ((eA l_5 a1 d10 d11 i12 l13 l14 l15).run) fun (d16,l17,l18,l19) =>
  (Df i12 d16 l17 l18 l19).run
theorem Dg(v_4:Lv)(l_5:List Int)(a1:Nat)(d10:Nat)(d11:Nat)(i12:Nat)(l13:List Nat)(l14:List Nat)(l15:List Nat) :Sg prog [] De (ka v_4 l_5 a1 (d10,d11,i12,l13,l14,l15)) (fC l_5 a1 (d10,d11,i12,l13,l14,l15)) (ka v_4 l_5 a1) (du 0 (ur l_5 a1) kX):=by
  unfold fC;exact Sg.cut 3 (bi eP) (bZ cU (Fg v_4 l_5 a1 i12) [⟨[],[],[8]⟩,⟨[],[],[8]⟩,⟨[],[],[8]⟩,⟨[],[0,1,613,3,4],[3,13,14,15,16,17]⟩,⟨[],[0,1,613,3,4],[3,13,14,15,16,17]⟩,⟨[],[0,1,2,3,4],[13,14,15,16]⟩]) (fun ⟨d16,l17,l18,l19⟩=>bZ cU (ka v_4 l_5 a1) [⟨[],[0,1,2,3,4],[3,13,14,15,16,17]⟩])
def Dh(l_5:List Int)(a1:Nat)(l24:List Nat) :Nat×Int×Int×Nat×Nat×(List Nat)→aC:=fun (e25,i26,i27,a28,a29,l30)=>⟨ah 151 [(15,.ptr 0 1 0 0),(18,.ptr 1 1 0 0),(19,.int .i64 ((e25:Nat):Int))],[(0,.vs [.int .i64 (((List.length l_5):Nat):Int),.int .i64 (((List.length l_5):Nat):Int),.sl 2 1 1 0 a1 a1]),(1,.vs [.int .i64 i26,.int .i64 i27,.sl 3 1 1 0 a28 a29]),(2,.fl l24),(3,.fl l30)],4⟩
def mD(l_5:List Int)(a1:Nat)(d20:Nat)(l22:List Nat)(l23:List Nat) :T ((Nat×Int×Int×Nat×Nat×(List Nat))⊕(bF)) :=
  .need (bm 0 d20 l22)<|.need (bm 0 a1 l23)<|.need (bm 0 a1 l23)<|.need (nu (dX (ab 0 d20 l22) (((List.length l_5):Nat):Int) (((List.length l_5):Nat):Int) (ab 0 a1 l23) (((List.length l_5):Nat):Int) (((List.length l_5):Nat):Int) (ab 0 a1 l23) (((List.length l_5):Nat):Int)))<|.leaf (.inl ((px (dX (ab 0 d20 l22) (((List.length l_5):Nat):Int) (((List.length l_5):Nat):Int) (ab 0 a1 l23) (((List.length l_5):Nat):Int) (((List.length l_5):Nat):Int) (ab 0 a1 l23) (((List.length l_5):Nat):Int))),(py (dX (ab 0 d20 l22) (((List.length l_5):Nat):Int) (((List.length l_5):Nat):Int) (ab 0 a1 l23) (((List.length l_5):Nat):Int) (((List.length l_5):Nat):Int) (ab 0 a1 l23) (((List.length l_5):Nat):Int))),(pz (dX (ab 0 d20 l22) (((List.length l_5):Nat):Int) (((List.length l_5):Nat):Int) (ab 0 a1 l23) (((List.length l_5):Nat):Int) (((List.length l_5):Nat):Int) (ab 0 a1 l23) (((List.length l_5):Nat):Int))),(pA (dX (ab 0 d20 l22) (((List.length l_5):Nat):Int) (((List.length l_5):Nat):Int) (ab 0 a1 l23) (((List.length l_5):Nat):Int) (((List.length l_5):Nat):Int) (ab 0 a1 l23) (((List.length l_5):Nat):Int))),(pB (dX (ab 0 d20 l22) (((List.length l_5):Nat):Int) (((List.length l_5):Nat):Int) (ab 0 a1 l23) (((List.length l_5):Nat):Int) (((List.length l_5):Nat):Int) (ab 0 a1 l23) (((List.length l_5):Nat):Int))),(pC (dX (ab 0 d20 l22) (((List.length l_5):Nat):Int) (((List.length l_5):Nat):Int) (ab 0 a1 l23) (((List.length l_5):Nat):Int) (((List.length l_5):Nat):Int) (ab 0 a1 l23) (((List.length l_5):Nat):Int)))))
def Di(b31:Bool) :aC:=⟨ah 151 [(8,.bool false b31)],[],0⟩
def mE(l_5:List Int)(a1:Nat)(l24:List Nat)(e25:Nat)(i26:Int)(i27:Int)(a28:Nat)(l30:List Nat) :T ((Bool)⊕(bF)) :=
  .ask (((e25:Nat):Int)==(0:Int))
    (.need (bm 0 a28 l30)<|.need (bm 0 a1 l24)<|.need (ji (iD i26 i27 (ab 0 a28 l30) (((List.length l_5):Nat):Int) (((List.length l_5):Nat):Int) (ab 0 a1 l24)))<|.leaf (.inl (kP (iD i26 i27 (ab 0 a28 l30) (((List.length l_5):Nat):Int) (((List.length l_5):Nat):Int) (ab 0 a1 l24)))))
    (.leaf (.inl false))
def Dj(b31:Bool) :T ((Empty)⊕(bF)) :=
  .leaf (.inr (.r0 b31))
noncomputable def pF(s_1:List Nat)(t_2:Nat)(u_3:Nat)(l_5:List Int) :Option bF:=mU (aL ((mC s_1 t_2 u_3).run) fun _ =>
  aL ((jj l_5).run) fun (a1,l2) =>
  aL (dJ (fC l_5 a1) (0,0,0,([]:List Nat),l2,l2)) fun (d20,d21,l22,l23,l24) =>
  aL ((mD l_5 a1 d20 l22 l23).run) fun (e25,i26,i27,a28,a29,l30) =>
  aL ((mE l_5 a1 l24 e25 i26 i27 a28 l30).run) fun b31 =>
  (Dj b31).run)
theorem ut(v_0:Lv)(s_1:List Nat)(t_2:Nat)(u_3:Nat)(v_4:Lv)(l_5:List Int){x:bF}(h:pF s_1 t_2 u_3 l_5=some x) :ag prog kQ [] [.imm v_0 (.fl s_1) 1 1 0 (List.length s_1),.flt true t_2,.flt true u_3,.imm v_4 (.ns .i64 l_5) 1 1 0 (List.length l_5)] (pE x) :=
  ol false pE kX h (Sg.cut 5 eP (bZ cU (Fe v_4 l_5) [⟨[],[],[8]⟩,⟨[],[],[3]⟩,⟨[],[],[3]⟩,⟨[],[],[3]⟩,⟨[],[],[3]⟩]) (fun _=>Sg.cut 7 eP (bZ cU (Ff v_4 l_5) [⟨[],[],[8]⟩,⟨[],[192,336,160,304],[3,13,14,15,16,17]⟩]) (fun ⟨a1,l2⟩=>Sg.cut 1 eP (QA ⟨[(.slot 16,.own 1 1 (.fl ([]:List Nat)))],[0,1,4,2,3],[3,13,14,15,16,17]⟩ (ka v_4 l_5 a1) (ur l_5 a1) 0 eP (Fd _) (fun ⟨d10,d11,i12,l13,l14,l15⟩=>Dg v_4 l_5 a1 d10 d11 i12 l13 l14 l15)) (fun ⟨d20,d21,l22,l23,l24⟩=>Sg.cut 1 eP (bZ cU (Dh l_5 a1 l24) [⟨[],[1,133,4,69],[15,18,19]⟩]) (fun ⟨e25,i26,i27,a28,a29,l30⟩=>Sg.cut 1 eP (bZ cU Di [⟨[],[],[8]⟩,⟨[],[],[8]⟩]) (fun b31=>bZ cU mF [⟨[],[],[8]⟩]))))))
    (fun x=>by cases x with | r0 b32=>exact mw [.bool false b32])
def nT:Option bF→Bool
  | some _=>true
  | none=>false
def rY:Option bF→Bool
  | some (.r0 x)=>x
  | _=>false
theorem Fh{x:Option bF}(h:nT x=true) :x=some (.r0 (rY x)):=by
  unfold nT at h
  split at h<;>first | rfl | (cases h;done) | (rename_i y;cases y;rfl)
noncomputable def vy:aA:=cO kQ (.cons .fl (.cons (.flt true) (.cons (.flt true) (.cons (.ns .i64) .nil)))) fun t=>(fun q=>[⟨pE (.r0 (rY q)),[nT q]⟩]) (pF t.1.2 t.2.1 t.2.2.1 t.2.2.2.1.2)
theorem BZ:aN prog vy:=bc fun t=>(aY (fun h=>ut t.1.1 t.1.2 t.2.1 t.2.2.1 t.2.2.2.1.1 t.2.2.2.1.2 (Fh h)) bv)
noncomputable def GZ:List aA:=vy::uq
theorem Xy:aH prog (aG GZ):=au BZ cU
end
end Go.Plb.Seat
namespace Go.Plb.Seat
open Go Go.Plb
set_option linter.unusedSimpArgs false
set_option linter.unusedVariables false
theorem agh{α:Type}{n:Nat}{l:List α}(h:l.length=n) :bm 0 n l=true:=by rw [←h];exact Va l
theorem aj{α:Type}{b:Bool}{t:T α}{x:Option α}(k:t.run=x)(h:b=true:=by simp only [cw,sy,Be,jd,jG,ct,oI,oJ,decide_eq_true_eq,decide_eq_false_iff_not,beq_iff_eq,beq_eq_false_iff_ne,bne_iff_ne,bne_eq_false_iff_eq,Bool.not_eq_true',Bool.not_eq_false',List.length_set,ne_eq,ge_iff_le,gt_iff_lt,dQ,ew,tJ];omega) :(T.need b t).run=x:=bn h k
theorem dd{α:Type}{b:Bool}{t f:T α}{x:Option α}(k:t.run=x)(h:b=true:=by simp only [cw,sy,Be,jd,jG,ct,oI,oJ,decide_eq_true_eq,decide_eq_false_iff_not,beq_iff_eq,beq_eq_false_iff_ne,bne_iff_ne,bne_eq_false_iff_eq,Bool.not_eq_true',Bool.not_eq_false',List.length_set,ne_eq,ge_iff_le,gt_iff_lt,dQ,ew,tJ];omega) :(T.ask b t f).run=x:=vR h k
theorem dh{α:Type}{b:Bool}{t f:T α}{x:Option α}(k:f.run=x)(h:b=false:=by simp only [cw,sy,Be,jd,jG,ct,oI,oJ,decide_eq_true_eq,decide_eq_false_iff_not,beq_iff_eq,beq_eq_false_iff_ne,bne_iff_ne,bne_eq_false_iff_eq,Bool.not_eq_true',Bool.not_eq_false',List.length_set,ne_eq,ge_iff_le,gt_iff_lt,dQ,ew,tJ];omega) :(T.ask b t f).run=x:=iW h k
theorem J1{α:Type}{b:Bool}{t:T α}{x:Option α}(k:t.run=x)(h:b=true:=by exact agh aM) :(T.need b t).run=x:=bn h k
theorem cv{v n m:Nat}(h:m≤n) :bm 0 m (bj v n)=true:=by rw [ct,aM];omega
theorem kH{v n:Nat}(h:v<W^n)(hn:n≤1000000000) :aq (bj v n)=some (.r0 (bj v n) (nl v)):=by
  have hl:=pP h
  refine bk (ae rfl (ae (a:=nl v) (dP (fun j=>n-j) (n-nl v) (by simp only [aM];rfl) (fun j hj=>?_) ?_) rfl))
  · show aL (oM _ _).run _=_
    have e:Int.toNat (((n-j:Nat):Int)-1)=n-(j+1):=by omega
    have z:(bj v n).getD (n-(j+1)) 0=0:=by
      rw [ee h]
      exact Cr (Nat.lt_of_lt_of_le (iP v) (Nat.pow_le_pow_right (by decide) (by omega)))
    refine ae (a:=true) ?_ ?_
    · unfold oM
      rw [e,z,aM]
      exact dd (aj (aj (aj rfl)))
    · unfold Ga
      rw [e]
      exact cF (aj (aj (aj rfl)))
  · have e0:n-(n-nl v)=nl v:=by omega
    show aL (oM _ _).run _=_
    rw [e0]
    by_cases h0:v=0
    · have z:=qf.2 h0
      rw [z]
      exact ae (a:=false) (bx rfl) (bx rfl)
    · have hp:=EC h0
      have e:Int.toNat (((nl v:Nat):Int)-1)=nl v-1:=by omega
      refine ae (a:=false) ?_ (bx rfl)
      unfold oM
      rw [e,ee h,aM]
      refine dd (aj (aj (aj ?_)))
      show some (Sum.inl _)=_
      congr 2
      rw [beq_eq_false_iff_ne];exact aew h0
theorem uu{v n:Nat}(h:v<W^n)(hn:n≤1000000000) :bg (bj v n) 0 n n=some (.r0 0 (nl v) n (bj v n)):=by
  have hl:=pP h
  refine bk (ae rfl (ae (a:=(0,nl v)) (dP (fun j=>(0,n-j)) (n-nl v) rfl (fun j hj=>?_) ?_) rfl))
  · show aL (ko _ _ _).run _=_
    have e:Int.toNat (((n-j:Nat):Int)-1)=n-(j+1):=by omega
    have z:(bj v n).getD (n-(j+1)) 0=0:=by
      rw [ee h]
      exact Cr (Nat.lt_of_lt_of_le (iP v) (Nat.pow_le_pow_right (by decide) (by omega)))
    refine ae (a:=true) ?_ ?_
    · unfold ko
      rw [e,iM,Nat.zero_add,z,aM]
      exact dd (aj (aj (aj rfl)))
    · unfold zJ
      rw [e]
      exact cF (aj (aj (aj rfl)))
  · have e0:n-(n-nl v)=nl v:=by omega
    show aL (ko _ _ _).run _=_
    rw [e0]
    by_cases h0:v=0
    · have z:=qf.2 h0
      rw [z]
      exact ae (a:=false) (bx rfl) (bx rfl)
    · have hp:=EC h0
      have e:Int.toNat (((nl v:Nat):Int)-1)=nl v-1:=by omega
      refine ae (a:=false) ?_ (bx rfl)
      unfold ko
      rw [e,iM,Nat.zero_add,ee h,aM]
      refine dd (aj (aj (aj ?_)))
      show some (Sum.inl _)=_
      congr 2
      rw [beq_eq_false_iff_ne];exact aew h0
theorem Rb{v n:Nat}(h:v<W^n)(hn:n≤1000000000) :lp (bj v n)=some (if 4096<nl v then .r0 0 2 [] else .r0 (nl v) 0 (bj v (nl v))):=by
  have hl:=pP h
  have hc:ab 0 (bj v n).length (bj v n)=bj v n:=ca _
  by_cases hb:4096<nl v
  · rw [if_pos hb]
    refine bk (ae (a:=(2,bj v n,nl v)) ?_ (cF rfl))
    unfold Bh
    rw [hc,kH h hn]
    simp only [cd,aI,az]
    exact cF (ay (dt (ay (dd rfl))))
  · rw [if_neg hb]
    refine bk (ae (a:=(0,bj v n,nl v)) ?_ ?_)
    · unfold Bh
      rw [hc,kH h hn]
      simp only [cd,aI,az]
      exact cF (ay (dt (ay (dh (ay (bx rfl))))))
    · show (Bi _ _ _).run=_
      unfold Bi
      rw [dE hl,aM]
      exact bx (bn (cv hl) (aj rfl))
theorem agi{v:Nat}(h:v<W) :bt (v:Int)=some (.r0 0 (nl v) 1 (bj v 1)):=by
  have e:([(v:Int)]:List Int)=bj v 1:=by
    show [(v:Int)]=[]++[lm v 0]
    unfold lm;rw [Nat.pow_zero,Nat.div_one,Nat.mod_eq_of_lt h];rfl
  refine bk (ae (a:=(0,nl v,1,bj v 1)) ?_ rfl)
  unfold QB
  rw [e,uu (by rw [Nat.pow_one];exact h) (by decide)]
  exact ay rfl
theorem adh{v n:Nat}(h:v<W^n)(hn:n≤1000000000) :eO (bj v n) 0 n n=some (if 4096<nl v then .r0 (bj v n) else .r1 0 (nl v) n (bj v n)):=by
  refine bk (ae (a:=(0,nl v,n,bj v n)) ?_ ?_)
  · unfold Js
    rw [uu h hn]
    exact ay rfl
  · by_cases hb:4096<nl v
    · rw [if_pos hb];exact dd rfl
    · rw [if_neg hb];exact dh rfl
theorem afi{a b:Nat}(ha:nl a≤1000000)(hb:nl b≤1000000) :qj (bj a (nl a)) (bj b (nl b))=some (.r0 (CO a b)):=by
  refine bk ?_
  by_cases h1:nl a<nl b
  · have:CO a b = -1:=by unfold CO;rw [if_pos (Vc h1)]
    rw [this]
    refine bU ?_
    unfold xZ
    rw [aM,aM]
    exact dd rfl
  by_cases h2:nl b<nl a
  · have hlt:=Vc h2
    have:CO a b=1:=by unfold CO;rw [if_neg (by omega),if_pos hlt]
    rw [this]
    refine bU ?_
    unfold xZ
    rw [aM,aM]
    exact dh (dd rfl)
  have hn:nl b=nl a:=by omega
  have hA:=iP a
  have hB:=iP b
  rw [hn] at hB hb ⊢
  generalize nl a=n at *
  refine ae (a:=((n:Int)-1)) ?_ ?_
  · unfold xZ
    rw [aM,aM]
    exact dh (dh (aj rfl))
  have step:∀ j,j<n→lm a (n-1-j)=lm b (n-1-j)→uU (bj a n) (bj b n) ((n:Int)-1-j)=some (.inl ((n:Int)-1-(j+1:Nat))):=by
    intro j hj he
    show (tL _ _ _).run=_
    unfold tL
    have e:Int.toNat ((n:Int)-1-(j:Int))=n-1-j:=by omega
    rw [e,ee hA,ee hB,aM,aM,he]
    refine dd (aj (aj (aj (aj (iW (by simp) (aj (aj (aj (aj (iW (by simp) (aj ?_)))))))))))
    show some (Sum.inl _)=_
    congr 2;omega
  by_cases hall:∀ j,j<n→lm a (n-1-j)=lm b (n-1-j)
  · have hab:a=b:=by
      have:=Ms hA hB (d:=n) (Nat.le_refl _) fun k _ h2=>by
        have:=hall (n-1-k) (by omega)
        rwa [show n-1-(n-1-k)=k by omega] at this
      simpa using this
    subst hab
    have:CO a a=0:=by unfold CO;rw [if_neg (Nat.lt_irrefl _),if_neg (Nat.lt_irrefl _)]
    rw [this]
    exact ae (dP (fun j=>(n:Int)-1-(j:Nat)) n (by omega) (fun j hj=>step j hj (hall j hj)) (dh rfl)) rfl
  · obtain ⟨k,hk,hb',hf⟩:=Cq hall
    have hup:a/W^(n-1-k+1)=b/W^(n-1-k+1):=by
      have:=Ms hA hB (d:=k) (by omega) fun i h1 h2=>by
        have:=hf (n-1-i) (by omega)
        rwa [show n-1-(n-1-i)=i by omega] at this
      rwa [show n-k=n-1-k+1 by omega] at this
    refine bU (dP (fun j=>(n:Int)-1-(j:Nat)) k (by omega) (fun j hj=>step j (by omega) (hf j hj)) ?_)
    show (tL _ _ _).run=_
    unfold tL
    have e:Int.toNat ((n:Int)-1-(k:Int))=n-1-k:=by omega
    rw [e,ee hA,ee hB,aM,aM]
    refine dd (aj (aj (aj (aj ?_))))
    by_cases hlt:lm a (n-1-k)<lm b (n-1-k)
    · have:=Mt hup hlt
      have:CO a b = -1:=by unfold CO;rw [if_pos this]
      rw [this]
      exact vR (decide_eq_true hlt) rfl
    · have hgt:lm b (n-1-k)<lm a (n-1-k):=by omega
      have hlt':=Mt hup.symm hgt
      have:CO a b=1:=by unfold CO;rw [if_neg (by omega),if_pos hlt']
      rw [this]
      exact iW (decide_eq_false hlt) (aj (aj (aj (aj (vR (decide_eq_true hgt) rfl)))))
def Xz(a b n j:Nat) :List Int:=cx (fun i=>if i<j then lm (Kd a b j) i else lm a i) n
theorem adi{a b n j:Nat}(hj:j<n) :(Xz a b n j).set j (((a/W^j%W+W-b/W^j%W-Mu a b j)%W:Nat):Int)=Xz a b n (j+1):=by
  unfold Xz
  rw [wR hj]
  refine eS fun i hi=>?_
  have hD:=(abp (a:=a) (b:=b) (j:=j)).1
  have h:=EB hD (Nat.mod_lt (a/W^j%W+W-b/W^j%W-Mu a b j) (show W>0 by decide)) i
  rw [←(Vd a b j).2] at h
  by_cases e:i=j
  · subst e
    rw [if_pos rfl,if_pos (by omega),h,if_pos rfl]
  · rw [if_neg e] at h ⊢
    by_cases q:i<j
    · rw [if_pos q,if_pos (by omega),h]
    · rw [if_neg q,if_neg (by omega)]
theorem AM{a b n m:Nat}(ha:a<W^n)(hb:b<W^m)(hle:b≤a)(hmn:m≤n)(hn:n≤1000000) :ql (bj a n) (bj b m)=some (.r0 0 (nl (a-b)) n (bj (a-b) n)):=by
  have hbn:b<W^n:=Nat.lt_of_lt_of_le hb (Nat.pow_le_pow_right (by decide) hmn)
  refine bk (ae (a:=(n,bj a n)) ?_ (ae (a:=bj (a-b) n) ?_ (ae (a:=(0,nl (a-b),n,bj (a-b) n)) ?_ rfl)))
  · unfold Ju
    rw [ca,aM]
    exact bn (cv (Nat.le_refl _)) (aj rfl)
  · have e0:bj a n=Xz a b n 0:=eS fun i _=>by rw [if_neg (by omega)]
    have en:Xz a b n n=bj (a-b) n:=by
      refine eS fun i hi=>?_
      have hd:Kd a b n=a-b:=by
        unfold Kd Mu
        rw [Nat.mod_eq_of_lt ha,Nat.mod_eq_of_lt hbn,if_neg (by omega),Nat.zero_mul,Nat.add_zero]
      rw [if_pos hi,hd]
    have b0:Mu a b 0=0:=by unfold Mu;rw [Nat.pow_zero,Nat.mod_one,Nat.mod_one];rfl
    show dJ _ ((0:Int),0,bj a n)=_
    refine dP (fun j=>(((Mu a b j:Nat):Int),j,Xz a b n j)) n (by rw [b0,←e0];rfl) (fun j hj=>?_) (bU (iW (by rw [aM];simp) (by rw [en];rfl)))
    have hbr:Mu a b j≤1:=by unfold Mu;split<;>omega
    have hl:(Xz a b n j).length=n:=bY
    obtain ⟨s1,s2⟩:=Vd a b j
    have hst:=adi (a:=a) (b:=b) hj
    show aL (Bl _ _ _ _ _ _).run _=_
    refine ae (a:=(((Mu a b (j+1):Nat):Int),Xz a b n (j+1))) ?_ (aj rfl)
    unfold Bl
    rw [ee ha,aM,aM,hl,ew,Vb]
    have blt:∀ p q:Nat,(bif Nat.blt p q then (1:Int) else 0)=(((if p<q then 1 else 0:Nat)):Int):=by
      intro p q
      by_cases h:p<q
      · rw [if_pos h,show Nat.blt p q=true by rw [Nat.blt_eq];exact h];rfl
      · rw [if_neg h]
        cases e:Nat.blt p q with
        | true=>rw [Nat.blt_eq] at e;exact absurd e h
        | false=>rfl
    by_cases hjm:j<m
    · rw [ee hb,Vb,blt,←s1,hst]
      exact dd (dd (aj (aj (aj (aj (aj (aj (aj rfl))))))))
    · have y0:b/W^j%W=0:=by
        rw [Nat.div_eq_of_lt (Nat.lt_of_lt_of_le hb (Nat.pow_le_pow_right (by decide) (by omega)))];rfl
      rw [y0] at s1 hst
      refine dd (dh (aj (aj (aj (aj (aj ?_))))))
      rw [blt,←s1,hst];rfl
  · unfold Jv
    rw [uu (Nat.lt_of_le_of_lt (Nat.sub_le _ _) ha) (by omega)]
    exact ay rfl
theorem afj{a b n m:Nat}(ha:a<W^n)(hb:b<W^m)(hn:n≤1000000)(hm:m≤1000000)(h1:nl a≤4096)(h2:nl b≤4096) :
    qk (bj a n) (bj b m)=some (.r0 (CO a b) 0):=by
  have la:=pP ha
  have lb:=pP hb
  refine bk (ae (a:=(0,bj a n,nl a,bj b m,nl b)) ?_ (ae (a:=CO a b) ?_ rfl))
  · unfold MO
    rw [ca,ca,kH ha (by omega),kH hb (by omega)]
    simp only [cd,aI,az]
    exact cF (ay (dt (ay (dh (ay (cF (ay (dt (ay (dh (ay (bx rfl))))))))))))
  · unfold MP
    rw [dE la,dE lb,afi (by omega) (by omega)]
    exact bx (bn (cv la) (bn (cv lb) (ay rfl)))
theorem aay{x y:Nat}(hx:x<W)(hy:y<W) :eC (x:Int) (y:Int)=some (.r0 ((x*y/W:Nat):Int) ((x*y%W:Nat):Int)):=by
  obtain ⟨h1,h2,h3,h4,h5,h6,h7,h8,h9⟩:=YE hx hy
  have s:∀ z:Nat,Int.fdiv (z:Int) (2^(min (Int.toNat (32:Int)) (IntKind.u64.bits)))=((z/4294967296:Nat):Int):=fun z=>xV z (k:=32) (by decide)
  refine bk (ae (a:=(((x%4294967296:Nat):Int),((x/4294967296:Nat):Int),((y/4294967296:Nat):Int),((x/4294967296*(y%4294967296)+x%4294967296*(y%4294967296)/4294967296:Nat):Int))) ?_ ?_)
  · unfold tK
    rw [Sq hx,Sq hy,s,s,wT,wT,Nat.mod_eq_of_lt h2,Nat.mod_eq_of_lt h3,s,wS,Nat.mod_eq_of_lt h1]
    exact ay (ay (ay rfl))
  · show (nI _ _ _ _ _ _).run=_
    unfold nI
    rw [wT,wT,wT,Sq h1,s,wS,wS,Nat.mod_eq_of_lt h4,Nat.mod_eq_of_lt h5,Nat.mod_eq_of_lt h6,Nat.mod_eq_of_lt h7,s,wS,h8,Nat.mod_eq_of_lt h9]
    exact ay (ay rfl)
theorem afk{O a m k n N:Nat}(hO:O<W^(k+n))(ha:a<W^n)(hm:m<W)(hN:k+n≤N)(hb:N≤1000000) :
    qm (bj O N) k (N-k) (bj a n) (m:Int)=some (.r0 (((O+a*m*W^k)/W^(k+n):Nat):Int) (bj ((O+a*m*W^k)%W^(k+n)) N)):=by
  refine bk (ae rfl (ae (a:=((((O+a*m*W^k)/W^(k+n):Nat):Int),bj ((O+a*m*W^k)%W^(k+n)) N)) ?_ rfl))
  have c0:oK O a m k 0/W^(k+0)=0:=by
    have e:oK O a m k 0=O%W^k:=by unfold oK;rw [Nat.pow_zero,Nat.mod_one,Nat.zero_mul,Nat.zero_mul,Nat.add_zero,Nat.add_zero]
    rw [e,Nat.add_zero,Nat.div_eq_of_lt (Nat.mod_lt _ (gH _))]
  refine dP (fun i=>(((oK O a m k i/W^(k+i):Nat):Int),i,OQ O a m k N i)) n (by rw [c0,acK];rfl) (fun i hi=>?_) ?_
  · have hc:=YF (O:=O) (a:=a) (m:=m) (k:=k) (i:=i)
    have hcW:oK O a m k i/W^(k+i)<W:=Nat.lt_of_le_of_lt hc hm
    have hla:=Nat.mod_lt (a/W^i) (show W>0 by decide)
    have hlO:=Nat.mod_lt (O/W^(k+i)) (show W>0 by decide)
    have hl:=aey (O:=O) (a:=a) (m:=m) (k:=k) (n:=N) (i:=i)
    have hat:=af0 (O:=O) (a:=a) (m:=m) (k:=k) (n:=N) (i:=i) (by omega)
    have hst:=acL (O:=O) (a:=a) (m:=m) (k:=k) (n:=N) (i:=i) (by omega)
    obtain ⟨w1,w2,w3,w4⟩:=aeA hla hm hcW hlO
    have hS:=Nat.mod_lt (oK O a m k i) (gH (k+i))
    obtain ⟨d1,_⟩:=Mr (t:=O/W^(k+i)%W+a/W^i%W*m+oK O a m k i/W^(k+i)) hS
    rw [←Qw] at d1
    show aL (rG _ _ _ _ _ _ _).run _=_
    refine ae (a:=(((oK O a m k (i+1)/W^(k+i+1):Nat):Int),OQ O a m k N (i+1))) ?_ (aj rfl)
    unfold rG
    rw [ee ha,vS,aay hla hm]
    simp only [iz,iQ,eT,iM]
    rw [hat,vS,aM,hl]
    simp only [ew,Nat.add_zero]
    rw [wS,Nat.mod_eq_of_lt w2,wS,w1,w3,Nat.mod_eq_of_lt w4,hst,←d1]
    exact dd (aj (aj (ay (ay (aj (aj (ay (aj (aj rfl)))))))))
  · show aL (rG _ _ _ _ _ _ _).run _=_
    refine bU ?_
    unfold rG
    rw [Vg hO ha,aez hO,Vg hO ha,aM]
    exact iW (by simp) rfl
theorem TH{a b n m:Nat}(ha:a<W^n)(hb:b<W^m) :a*b<W^(n+m):=by
  rw [Nat.pow_add]
  rcases Nat.eq_zero_or_pos b with h | h
  · rw [h,Nat.mul_zero];exact Nat.mul_pos (gH _) (gH _)
  · exact Nat.mul_lt_mul_of_lt_of_le ha (Nat.le_of_lt hb) (gH _) |> fun q=>q
theorem afl{a b n m:Nat}(ha:a<W^n)(hb:b<W^m)(hn:n≤1000000)(hm:m≤1000000)(h1:nl a+nl b≤4096) :
    od (bj a n) (bj b m)=some (.r0 0 (nl (a*b)) (nl a+nl b) 0 (bj (a*b) (nl a+nl b))):=by
  have la:=pP ha
  have lb:=pP hb
  have hA:=iP a
  have hB:=iP b
  have hab:=TH hA hB
  have hnab:=pP hab
  refine bk (ae (a:=(0,bj a n,nl a,bj b m,nl b)) ?_ (ae (a:=false) (bx (aj (dh rfl))) (ae (a:=(nl a+nl b,bj 0 (nl a+nl b))) ?_ (ae (a:=bj (a*b) (nl a+nl b)) ?_ (ae (a:=(0,nl (a*b),nl a+nl b,0,bj (a*b) (nl a+nl b))) ?_ rfl)))))
  · unfold Jw
    rw [ca,ca,kH ha (by omega),kH hb (by omega)]
    simp only [cd,aI,az]
    exact cF (ay (dt (ay (dh (ay (cF (ay (dt (ay (dh (ay (bx rfl))))))))))))
  · unfold Jx
    rw [Qv]
    exact bx (aj (aj (aj (aj (aj rfl)))))
  · refine dP (fun k=>(k,bj (a*(b%W^k)) (nl a+nl b))) (nl b) (by simp [Nat.mod_one]) (fun k hk=>?_) (bU (dh (by rw [Nat.mod_eq_of_lt hB];rfl)))
    have hO:a*(b%W^k)<W^(k+nl a):=by rw [Nat.add_comm];exact TH hA (Nat.mod_lt _ (gH k))
    have hlb:=Nat.mod_lt (b/W^k) (show W>0 by decide)
    have hs:=afk (N:=nl a+nl b) hO hA hlb (by omega) (by omega)
    have e:a*(b%W^k)+a*(b/W^k%W)*W^k=a*(b%W^(k+1)):=by rw [tI,Nat.mul_add,Nat.mul_assoc]
    rw [e] at hs
    have hO1:a*(b%W^(k+1))<W^(k+nl a+1):=by
      rw [show k+nl a+1=nl a+(k+1) by omega];exact TH hA (Nat.mod_lt _ (gH (k+1)))
    have hcar:a*(b%W^(k+1))/W^(k+nl a)<W:=by
      exact Nat.div_lt_of_lt_mul (by rw [←Nat.pow_succ];exact hO1)
    have eY:=F6 (u:=a*(b%W^(k+1))%W^(k+nl a)) (x:=a*(b%W^(k+1))/W^(k+nl a)) (j:=k+nl a) (n:=nl a+nl b) (Nat.mod_lt _ (gH _)) hcar (by omega)
    have hv:a*(b%W^(k+1))%W^(k+nl a)+a*(b%W^(k+1))/W^(k+nl a)*W^(k+nl a)=a*(b%W^(k+1)):=by rw [Nat.mul_comm (a*(b%W^(k+1))/W^(k+nl a))];exact Nat.mod_add_div _ _
    rw [hv] at eY
    show aL (Bo _ _ _ _ _ _ _).run _=_
    refine ae (a:=bj (a*(b%W^(k+1))) (nl a+nl b)) ?_ (aj rfl)
    unfold Bo
    rw [dE la,ee hb,vS,hs]
    simp only [tQ,sU,oR]
    rw [eY,aM,aM]
    exact dd (aj (aj (aj (aj (aj (bn (cv la) (ay (aj (aj rfl)))))))))
  · unfold Jy
    rw [adh hab (by omega),if_neg (by omega)]
    exact YC (YD rfl) (xU (ay rfl))
theorem ahz:∀ z:Fin 64,List.getD aK (2^z.val*285870213051353865%W/2^58) 0=(z.val:Int)∧2^z.val*285870213051353865%W/2^58<64:=by decide +kernel
theorem agj:List.length aK=64:=by decide +kernel
theorem ahA{x:Nat}(h0:x≠0)(h:x<W) :bE .and .u64 (x:Int) (IntKind.u64.wrap ((0:Int)-(x:Int)))=((2^tz x:Nat):Int):=by
  rw [aeF h0 h,F8,Nat.mod_eq_of_lt h,Nat.mod_eq_of_lt (Nat.sub_lt (by decide) (Nat.pos_of_ne_zero h0)),af2 h0 h]
theorem agk(y:Nat) :Int.fdiv (IntKind.u64.wrap ((y:Int)*(285870213051353865:Int))) (2^(min (Int.toNat (58:Int)) IntKind.u64.bits))=((y*285870213051353865%W/2^58:Nat):Int):=by
  have e:(285870213051353865:Int)=((285870213051353865:Nat):Int):=by omega
  rw [e,wT]
  exact xV _ (k:=58) (by decide)
theorem ahB{z:Nat}(h:z<64) :IntKind.i64.wrap ((z:Nat):Int)=((z:Nat):Int):=by
  have:∀ z:Fin 64,IntKind.i64.wrap ((z.val:Nat):Int)=((z.val:Nat):Int):=by decide
  exact this ⟨z,h⟩
theorem ahC{x:Nat}(h0:x≠0)(h:x<W) :∃ y:Nat,Int.fdiv (IntKind.u64.wrap ((bE .and .u64 (x:Int) (IntKind.u64.wrap ((0:Int)-(x:Int))))*(285870213051353865:Int))) (2^(min (Int.toNat (58:Int)) IntKind.u64.bits))=(y:Int)∧List.getD aK y 0=((tz x:Nat):Int)∧y<64:=by
  have hz:=Vh (n:=64) h0 h
  obtain ⟨t1,t2⟩:=ahz ⟨tz x,hz⟩
  exact ⟨_,by rw [ahA h0 h,agk],t1,t2⟩
theorem B1{x:Nat}(h0:x≠0)(h:x<W) :cT (x:Int)=some (.r0 ((tz x:Nat):Int)):=by
  have hz:=Vh (n:=64) h0 h
  obtain ⟨y,e,t1,t2⟩:=ahC h0 h
  refine bk ?_
  unfold km
  have ix:fc (fc 0 (Lc (Int.toNat (y:Int)) 1)) 0=y:=by simp only [iM,xt,Nat.zero_add,Nat.mul_one,Nat.add_zero,ew]
  rw [e,ix,t1,agj,ahB hz]
  refine iW (by rw [beq_eq_false_iff_ne];omega) (bn (by decide) (bn ?_ (bn ?_ rfl)))
  · rw [sy];omega
  · rw [jd];exact t2
theorem afm{v:Nat}(h:v≠0) :∃ i,i<nl v∧v%W^i=0∧v/W^i%W≠0∧tz v=64*i+tz (v/W^i%W):=by
  obtain ⟨h1,h2⟩:=xW v h
  have e:2^tz v=2^(tz v%64)*W^(tz v/64):=Qz _
  have h3:v%W^(tz v/64)=0:=by
    have d:W^(tz v/64) ∣ v:=Nat.dvd_trans ⟨2^(tz v%64),by rw [Nat.mul_comm];exact e⟩ (Nat.dvd_of_mod_eq_zero h1)
    exact Nat.mod_eq_zero_of_dvd d
  have hb:v=v/W^(tz v/64)*W^(tz v/64):=(Nat.div_mul_cancel (Nat.dvd_of_mod_eq_zero h3)).symm
  have h5:v/W^(tz v/64)≠0:=by intro q;rw [q,Nat.zero_mul] at hb;exact h hb
  have key:tz (v/W^(tz v/64))=tz v%64:=by
    have q:=YG h5 (64*(tz v/64))
    have w:2^(64*(tz v/64))=W^(tz v/64):=by rw [Nat.pow_mul]
    rw [w,←hb] at q
    omega
  obtain ⟨k1,k2⟩:=xW _ h5
  rw [key] at k1 k2
  have hr:tz v%64<64:=Nat.mod_lt _ (by decide)
  have e64:W=2^(tz v%64)*2^(64-tz v%64):=by rw [←Nat.pow_add];show 2^64=_;congr 1;omega
  have l1:(v/W^(tz v/64)%W)%2^(tz v%64)=0:=by
    revert k1;generalize v/W^(tz v/64)=y;intro k1;rw [e64,Nat.mod_mul_right_mod];exact k1
  have l2:(v/W^(tz v/64)%W)/2^(tz v%64)%2=1:=by
    have a:2^(64-tz v%64)=2*2^(63-tz v%64):=by rw [show 64-tz v%64=(63-tz v%64)+1 by omega,Nat.pow_succ,Nat.mul_comm]
    revert k2;generalize v/W^(tz v/64)=y;intro k2;rw [e64,Nat.mod_mul_right_div_self,a,Nat.mod_mul_right_mod];exact k2
  have l3:v/W^(tz v/64)%W≠0:=by intro q;rw [q,Nat.zero_div] at l2;exact absurd l2 (by decide)
  refine ⟨tz v/64,?_,h3,l3,?_⟩
  · rcases Nat.lt_or_ge (tz v/64) (nl v) with q | q
    · exact q
    · exfalso;apply l3
      rw [Nat.div_eq_of_lt (Nat.lt_of_lt_of_le (iP v) (Nat.pow_le_pow_right (by decide) q)),Nat.zero_mod]
  · rw [HG l1 l2];omega
theorem aaz{v n:Nat}(hv:v<W^n)(h0:v≠0)(hn:nl v≤4096)(hn2:n≤1000000) :rH (bj v n)=some (.r0 ((tz v:Nat):Int) 0):=by
  have hl:=pP hv
  have hp:=EC h0
  obtain ⟨i,h1,h2,h3,h4⟩:=afm h0
  have hW:v/W^i%W<W:=Nat.mod_lt _ (by decide)
  have hz:=Vh (n:=64) h3 hW
  refine bk (ae (a:=(0,bj v n,nl v)) ?_ (ae (a:=false) (bx (by show some _=_;congr 2;rw [beq_eq_false_iff_ne];omega)) (ae (a:=()) (bx rfl) (ae (a:=i) (dP (fun j=>j) i rfl (fun j hj=>?_) ?_) (ae (a:=((tz v:Nat):Int)) ?_ rfl)))))
  · unfold DD
    rw [ca,kH hv (by omega)]
    simp only [cd,aI,az]
    exact cF (ay (dt (ay (dh (ay (bx rfl))))))
  · have z:lm v j=0:=by
      unfold lm
      obtain ⟨d,rfl⟩:∃ d,i=j+1+d:=⟨i-j-1,by omega⟩
      have dv:W^(j+1+d) ∣ v:=Nat.dvd_of_mod_eq_zero h2
      obtain ⟨c,hc⟩:=dv
      have:v=(W^d*c*W)*W^j:=by
        rw [hc,Nat.pow_add,Nat.pow_succ];simp only [Nat.mul_assoc,Nat.mul_comm,Nat.mul_left_comm]
      rw [this,Nat.mul_div_cancel _ (gH j),Nat.mul_mod_left];rfl
    show (mM _ _ _).run=_
    unfold mM
    rw [ee hv,z,aM]
    exact aj (aj (cF (aj rfl)))
  · show (mM _ _ _).run=_
    unfold mM
    rw [ee hv,vS,aM]
    refine aj (aj (iW (by rw [beq_eq_false_iff_ne];omega) rfl))
  · unfold DE
    rw [ee hv,vS,aM,B1 h3 hW]
    simp only [dw,cZ]
    have e:(((64*i:Nat):Int)+((tz (v/W^i%W):Nat):Int))=((tz v:Nat):Int):=by rw [h4,Int.natCast_add]
    rw [e]
    exact aj (aj (aj (ay (bn (by rw [cw];omega) rfl))))
theorem aaA(k:Nat) :Int.tdiv (k:Int) (64:Int)=((k/64:Nat):Int):=rfl
theorem aaB(k:Nat) :IntKind.u64.wrap (Int.tmod (k:Int) (64:Int))=((k%64:Nat):Int):=by
  rw [show Int.tmod (k:Int) (64:Int)=((k%64:Nat):Int) from rfl,Mv (Nat.lt_trans (Nat.mod_lt k (by decide:64>0)) (by decide))]
theorem afn{v n k:Nat}(hv:v<W^n)(h0:n≠0)(hn:n≤1000000)(hk:k≤1000000) :
    ek (bj v n) (k:Int)=some (.r0 0 (nl (v*2^k)) (n+k/64+1) (bj (v*2^k) (n+k/64+1))):=by
  have hr:k%64<64:=Nat.mod_lt _ (by decide)
  have hq:k/64≤1000000:=by omega
  have hsh:=aeI (k:=k) hv
  refine bk (ae (a:=(((k/64:Nat):Int),((k%64:Nat):Int),n+k/64+1,bj 0 (n+k/64+1))) ?_ (ae (a:=bj (v*2^k) (n+k/64+1)) (dP (fun i=>(i,bj (v%W^i*2^(k%64)*W^(k/64)) (n+k/64+1))) n (by simp [Nat.mod_one]) (fun i hi=>?_) ?_) (ae (a:=(0,nl (v*2^k),n+k/64+1,bj (v*2^k) (n+k/64+1))) ?_ rfl)))
  · unfold Jz
    rw [aM,aaA,aaB]
    have e:(((n:Nat):Int)+((k/64:Nat):Int))+(1:Int)=((n+k/64+1:Nat):Int):=by omega
    rw [e,ew,Qv]
    exact dh (aj (aj (ay (aj (aj (aj (aj (aj (aj rfl)))))))))
  · show aL (uV _ _ _ _ _ _).run _=_
    refine ae (a:=bj (v%W^(i+1)*2^(k%64)*W^(k/64)) (n+k/64+1)) ?_ (aj rfl)
    unfold uV
    have e1:Int.toNat (((i:Nat):Int)+((k/64:Nat):Int))=i+k/64:=rfl
    have e2:Int.toNat ((((i:Nat):Int)+((k/64:Nat):Int))+(1:Int))=i+k/64+1:=rfl
    rw [e1,e2,ee hv,vS,Sp _ (by omega),Mw hr,show (1:Int)=((1:Nat):Int) from rfl,xV _ (by decide),xV _ (by omega),Nat.pow_one,aeG hr (by omega),aM]
    simp only [List.length_set,aM]
    exact dd (aj (aj (aj (aj (aj (aj (aj (aj (aj (aj (aj (aj (aj (aj (aj (aj rfl))))))))))))))))
  · show aL (uV _ _ _ _ _ _).run _=_
    refine bU (iW (by rw [aM];exact (by simp only [cw,sy,Be,jd,jG,ct,oI,oJ,decide_eq_true_eq,decide_eq_false_iff_not,beq_iff_eq,beq_eq_false_iff_ne,bne_iff_ne,bne_eq_false_iff_eq,Bool.not_eq_true',Bool.not_eq_false',List.length_set,ne_eq,ge_iff_le,gt_iff_lt,dQ,ew,tJ];omega)) ?_)
    rw [Nat.mod_eq_of_lt hv,Nat.mul_assoc,←Qz];rfl
  · unfold JA
    rw [uu hsh (by omega)]
    exact ay rfl
theorem aaC{v n:Nat}(h:v<W^n)(hn:n≤100000000)(hb:nl v≤4096) :iX (bj v n)=some (.r0 (bj v n) (nl v) 0):=by
  refine bk (ae (a:=(bj v n,nl v)) ?_ (dh rfl))
  unfold Br
  rw [ca,kH h (by omega)]
  exact dt (ay rfl)
theorem afp{v n k:Nat}(hv:v<W^n)(h0:v≠0)(hn:n≤1000000)(hk:k<262144)(hl:nl v≤4096)(hb:nl (v*2^k)≤4096) :
    fV (bj v n) (k:Int)=some (.r0 (bj (v*2^k) (nl (v*2^k))) (nl (v*2^k)) 0):=by
  have hp:=EC h0
  have hln:=pP hv
  refine bk (ae (a:=(0,bj v n,nl v)) ?_ (ae (a:=()) ?_ (ae (a:=(bj (v*2^k) (nl (v*2^k)),nl (v*2^k),0)) ?_ rfl)))
  · unfold M3
    rw [ca,kH hv (by omega)]
    simp only [cd,aI,az]
    exact cF (ay (dt (ay (dh (ay (bx rfl))))))
  · exact bx (dh (dd (dh rfl)))
  · have hsl:=aeI (k:=k) (iP v)
    have hls:=pP hsl
    show (EM _ _ _).run=_
    unfold EM
    rw [dE hln,afn (iP v) (by omega) (by omega) (by omega)]
    simp only [tS,iS,iT,iU]
    rw [dE hls,aaC (iP _) (by omega) hb]
    exact bn (cv hln) (ay (bn (cv hls) (ay rfl)))
theorem afq{v n k:Nat}(hv:v<W^n)(hn:n≤1000000)(hk:k≤100000000) :
    ∃ b N,oe (bj v n) (k:Int)=some (.r0 0 (nl (v/2^k)) N b (bj (v/2^k) N))∧nl (v/2^k)≤N∧N≤n:=by
  have hr:k%64<64:=Nat.mod_lt _ (by decide)
  have hq:k/64≤10000000:=by omega
  rcases Nat.lt_or_ge (k/64) n with hlt | hge
  · have hs:=ahk (k:=k) hv (Nat.le_of_lt hlt)
    have hls:=pP hs
    let f0:=((bE .and .u64 (List.getD (bj v n) (Int.toNat (Int.tdiv (k:Int) (64:Int))) 0) (IntKind.u64.wrap ((IntKind.u64.wrap ((1:Int)*2^(min (Int.toNat (IntKind.u64.wrap (Int.tmod (k:Int) (64:Int)))) (IntKind.u64.bits))))-(1:Int)))) != (0:Int))
    let f:Nat→Bool:=fun j=>Nat.rec (motive:=fun _=>Bool) f0 (fun j b=>b||(lm v j != (0:Int))) j
    refine ⟨f (k/64),n-k/64,bk (ae (a:=(((k/64:Nat):Int),((k%64:Nat):Int),f0,k/64,k/64)) ?_ (ae (a:=f (k/64)) (dP (fun j=>(f j,j)) (k/64) rfl (fun j hj=>?_) ?_) (ae (a:=(n-k/64,n-k/64,List.replicate (n-k/64) (0:Int))) ?_ (ae (a:=bj (v/2^k) (n-k/64)) (dP (fun i=>(i,cx (fun j=>if j<i then lm (v/2^k) j else 0) (n-k/64))) (n-k/64) (by simp only [zI];congr 1) (fun i hi=>?_) ?_) (ae (a:=(0,nl (v/2^k),n-k/64,bj (v/2^k) (n-k/64))) ?_ rfl))))),hls,Nat.sub_le _ _⟩
    · unfold Bs
      have e:=aaA k
      refine ay (bn (by rw [e];exact (by simp only [cw,sy,Be,jd,jG,ct,oI,oJ,decide_eq_true_eq,decide_eq_false_iff_not,beq_iff_eq,beq_eq_false_iff_ne,bne_iff_ne,bne_eq_false_iff_eq,Bool.not_eq_true',Bool.not_eq_false',List.length_set,ne_eq,ge_iff_le,gt_iff_lt,dQ,ew,tJ];omega)) (ay (iW (by rw [e,aM];exact (by simp only [cw,sy,Be,jd,jG,ct,oI,oJ,decide_eq_true_eq,decide_eq_false_iff_not,beq_iff_eq,beq_eq_false_iff_ne,bne_iff_ne,bne_eq_false_iff_eq,Bool.not_eq_true',Bool.not_eq_false',List.length_set,ne_eq,ge_iff_le,gt_iff_lt,dQ,ew,tJ];omega)) (bn (by rw [e,aM];exact (by simp only [cw,sy,Be,jd,jG,ct,oI,oJ,decide_eq_true_eq,decide_eq_false_iff_not,beq_iff_eq,beq_eq_false_iff_ne,bne_iff_ne,bne_eq_false_iff_eq,Bool.not_eq_true',Bool.not_eq_false',List.length_set,ne_eq,ge_iff_le,gt_iff_lt,dQ,ew,tJ];omega)) (bn (by rw [e,aM];exact (by simp only [cw,sy,Be,jd,jG,ct,oI,oJ,decide_eq_true_eq,decide_eq_false_iff_not,beq_iff_eq,beq_eq_false_iff_ne,bne_iff_ne,bne_eq_false_iff_eq,Bool.not_eq_true',Bool.not_eq_false',List.length_set,ne_eq,ge_iff_le,gt_iff_lt,dQ,ew,tJ];omega)) (bn (by rw [aaB];exact (by simp only [cw,sy,Be,jd,jG,ct,oI,oJ,decide_eq_true_eq,decide_eq_false_iff_not,beq_iff_eq,beq_eq_false_iff_ne,bne_iff_ne,bne_eq_false_iff_eq,Bool.not_eq_true',Bool.not_eq_false',List.length_set,ne_eq,ge_iff_le,gt_iff_lt,dQ,ew,tJ];omega)) (bn (by rw [e,aM];exact (by simp only [cw,sy,Be,jd,jG,ct,oI,oJ,decide_eq_true_eq,decide_eq_false_iff_not,beq_iff_eq,beq_eq_false_iff_ne,bne_iff_ne,bne_eq_false_iff_eq,Bool.not_eq_true',Bool.not_eq_false',List.length_set,ne_eq,ge_iff_le,gt_iff_lt,dQ,ew,tJ];omega)) (bn (by rw [e];exact (by simp only [cw,sy,Be,jd,jG,ct,oI,oJ,decide_eq_true_eq,decide_eq_false_iff_not,beq_iff_eq,beq_eq_false_iff_ne,bne_iff_ne,bne_eq_false_iff_eq,Bool.not_eq_true',Bool.not_eq_false',List.length_set,ne_eq,ge_iff_le,gt_iff_lt,dQ,ew,tJ];omega)) ?_))))))))
      show some (Sum.inl (_,IntKind.u64.wrap _,f0,_,_))=_
      rw [aaB];rfl
    · show aL (uW _ _ _ _ _).run _=_
      refine ae (a:=f (j+1)) ?_ (aj rfl)
      unfold uW
      rw [ee hv,aM]
      refine dd (aj (aj ?_))
      have hf:f (j+1)=(f j||(lm v j != (0:Int))):=rfl
      rw [hf]
      cases f j
      · exact bx rfl
      · exact cF rfl
    · show aL (uW _ _ _ _ _).run _=_
      exact bU (dh rfl)
    · show (Bu _ _).run=_
      unfold Bu
      have e:((n:Nat):Int)-((k/64:Nat):Int)=((n-k/64:Nat):Int):=by omega
      rw [aM,e]
      exact aj (aj (aj (aj (aj rfl))))
    · show aL (uY _ _ _ _ _ _ _).run _=_
      refine ae (a:=cx (fun j=>if j<i+1 then lm (v/2^k) j else 0) (n-k/64)) ?_ (aj rfl)
      have e1:Int.toNat (((i:Nat):Int)+((k/64:Nat):Int))=i+k/64:=rfl
      have e2:Int.toNat ((((i:Nat):Int)+((k/64:Nat):Int))+(1:Int))=i+k/64+1:=rfl
      obtain ⟨w1,w2⟩:=aeE (V:=v/W^(i+k/64)) hr
      have hV:v/W^(i+k/64)/W=v/W^(i+k/64+1):=by rw [Nat.pow_succ,Nat.div_div_eq_div_mul]
      have pQ:∀ x:Int,x=lm (v/2^k) i→(cx (fun j=>if j<i then lm (v/2^k) j else 0) (n-k/64)).set i x=cx (fun j=>if j<i+1 then lm (v/2^k) j else 0) (n-k/64):=by
        intro x hx
        rw [wR hi]
        refine eS fun j hj=>?_
        by_cases e:j=i
        · subst e;rw [if_pos rfl,if_pos (Nat.lt_succ_self _),hx]
        · rw [if_neg e]
          by_cases e':j<i
          · rw [if_pos e',if_pos (by omega)]
          · rw [if_neg e',if_neg (by omega)]
      unfold uY
      rw [e1,e2,ee hv,ee hv,vS,vS,xV _ (by omega),Mw hr,show (1:Int)=((1:Nat):Int) from rfl,Sp _ (by decide),Sp _ (by omega),Nat.pow_one]
      simp only [List.length_set,aM,bY,List.set_set]
      by_cases hlast:i+k/64+1<n
      · refine dd (aj (aj (aj (aj (aj (aj (aj (aj (dd (aj (aj (aj (aj (aj (aj (ay (aj (aj (aj ?_)))))))))))))))))))
        show some (Sum.inl _)=_
        congr 2
        refine pQ _ ?_
        rw [List.getD_eq_getElem?_getD,List.getElem?_set_self (by rw [bY];exact hi)]
        show bE .or .u64 _ _=_
        have m1:v/W^(i+k/64)%W/2^(k%64)%W=v/W^(i+k/64)%W/2^(k%64):=Nat.mod_eq_of_lt (Nat.lt_of_le_of_lt (Nat.div_le_self _ _) (Nat.mod_lt _ (by decide)))
        show bE .or .u64 ((v/W^(i+k/64)%W/2^(k%64):Nat):Int) _=_
        rw [So,m1,Nat.mod_mod,←hV,w2,←w1,aeH]
      · refine dd (aj (aj (aj (aj (aj (aj (aj (aj (dh ?_)))))))))
        show some (Sum.inl _)=_
        congr 2
        refine pQ _ ?_
        have z:v/W^(i+k/64)/W=0:=by
          rw [hV];exact Nat.div_eq_of_lt (Nat.lt_of_lt_of_le hv (Nat.pow_le_pow_right (by decide) (by omega)))
        rw [z] at w1
        rw [aeH,w1]
        simp
    · show aL (uY _ _ _ _ _ _ _).run _=_
      refine bU (dh ?_)
      show some (Sum.inr (Sum.inl _))=_
      congr 3
      exact eS fun j hj=>if_pos hj
    · unfold JD
      rw [uu hs (by omega)]
      exact ay rfl
  · have hz:=aeJ hv hge
    refine ⟨decide (((n:Nat):Int)>(0:Int)),0,?_,by rw [hz,kS];exact Nat.le_refl 0,Nat.zero_le _⟩
    refine bk (bU ?_)
    unfold Bs
    rw [aaA,aM,hz,kS]
    exact ay (aj (ay (dd rfl)))
theorem afs{v n k:Nat}(hv:v<W^n)(hn:n≤1000000)(hl:nl v≤4096)(hk:k≤100000000) :
    ∃ b N,qr (bj v n) (k:Int)=some (.r0 (bj (v/2^k) N) 0 (nl (v/2^k)) b 0)∧nl (v/2^k)≤N∧N≤4096:=by
  have hln:=pP hv
  obtain ⟨b,N,h1,h2,h3⟩:=afq (k:=k) (iP v) (by omega) hk
  refine ⟨b,N,bk (ae (a:=(0,bj v n,nl v)) ?_ (ae (a:=false) ?_ (ae (a:=(bj (v/2^k) N,0,nl (v/2^k),b)) ?_ rfl))),h2,by omega⟩
  · unfold M6
    rw [ca,kH hv (by omega)]
    simp only [cd,aI,az]
    exact cF (ay (dt (ay (dh (ay (bx rfl))))))
  · refine bx ?_
    show some (Sum.inl (decide (((k:Nat):Int)<0)))=_
    rw [decide_eq_false (by omega)]
  · show (EO _ _ _ _).run=_
    unfold EO
    rw [dE hln,h1]
    exact bx (bn (cv hln) (ay rfl))
end Go.Plb.Seat
