/-
  Part 4 of what the claim leans on: an evaluator of the model, proved sound; the contracts of the functions.
-/
import Derived.Test.YtcfhbjfbfmlkiaaGreatDoorA3
namespace Go.Plb.Seat
open Go Go.Plb Go.Proofs Go.RowKit
open Go.ChangeMaps (setBlock)
set_option maxRecDepth 100000
set_option linter.unusedSimpArgs false
set_option linter.unusedVariables false
def nU:Array Oper:=#[
  { dst := some 2, op := .makeMap 99 none, type := 99, pos := "svd.go:62", after := #[], guard := none },
  { dst := some 3, op := .build 102 #[(0, .const (.int .i64 1)), (1, .const (.int .i64 0))], type := 102, pos := "svd.go:62", after := #[], guard := none },
  { dst := none, op := .insert 99 (.tmp 2) (.tmp 3) (.func 129), type := 0, pos := "svd.go:62", after := #[⟨0, .data⟩, ⟨1, .data⟩], guard := none },
  { dst := some 4, op := .build 102 #[(0, .const (.int .i64 2)), (1, .const (.int .i64 0))], type := 102, pos := "svd.go:62", after := #[], guard := none },
  { dst := none, op := .insert 99 (.tmp 2) (.tmp 4) (.func 130), type := 0, pos := "svd.go:62", after := #[⟨0, .data⟩, ⟨3, .data⟩], guard := none },
  { dst := some 5, op := .build 102 #[(0, .const (.int .i64 1)), (1, .const (.int .i64 1))], type := 102, pos := "svd.go:62", after := #[], guard := none },
  { dst := some 6, op := .move (.tmp 1), type := 163, pos := "svd.go:62", after := #[], guard := none },
  { dst := some 7, op := .call { callee := .value (.tmp 6), args := #[.func 129], argTypes := #[98] }, type := 98, pos := "svd.go:64", after := #[⟨6, .data⟩], guard := none },
  { dst := none, op := .insert 99 (.tmp 2) (.tmp 5) (.tmp 7), type := 0, pos := "svd.go:62", after := #[⟨0, .data⟩, ⟨5, .data⟩, ⟨7, .data⟩], guard := none },
  { dst := some 8, op := .build 102 #[(0, .const (.int .i64 2)), (1, .const (.int .i64 1))], type := 102, pos := "svd.go:62", after := #[], guard := none },
  { dst := some 9, op := .move (.tmp 1), type := 163, pos := "svd.go:62", after := #[], guard := none },
  { dst := some 10, op := .call { callee := .value (.tmp 9), args := #[.func 130], argTypes := #[98] }, type := 98, pos := "svd.go:64", after := #[⟨10, .data⟩, ⟨7, .chain⟩], guard := none },
  { dst := none, op := .insert 99 (.tmp 2) (.tmp 8) (.tmp 10), type := 0, pos := "svd.go:62", after := #[⟨0, .data⟩, ⟨9, .data⟩, ⟨11, .data⟩], guard := none },
  { dst := some 11, op := .move (.tmp 2), type := 99, pos := "svd.go:62", after := #[⟨0, .data⟩, ⟨1, .data⟩, ⟨2, .data⟩, ⟨3, .data⟩, ⟨4, .data⟩, ⟨5, .data⟩, ⟨6, .data⟩, ⟨7, .data⟩, ⟨8, .data⟩, ⟨9, .data⟩, ⟨10, .data⟩, ⟨11, .data⟩, ⟨12, .data⟩], guard := none },
  { dst := some 0, op := .assign (.tmp 11), type := 99, pos := "svd.go:62", after := #[⟨13, .data⟩, ⟨11, .chain⟩, ⟨0, .phase⟩, ⟨1, .phase⟩, ⟨2, .phase⟩, ⟨3, .phase⟩, ⟨4, .phase⟩, ⟨5, .phase⟩, ⟨6, .phase⟩, ⟨7, .phase⟩, ⟨8, .phase⟩, ⟨9, .phase⟩, ⟨10, .phase⟩, ⟨11, .phase⟩, ⟨12, .phase⟩, ⟨13, .phase⟩], guard := none }]
def ka(t2 t7 t10:Value) :Act:=⟨#[.map none,BF 127,t2,lR 0,lR 1,lR 2,BF 127,t7,lR 3,BF 127,t10,undef],[]⟩
variable {Q : Exit → Act → World → Prop} {K : Act → World → Prop} {t2 t7 t10 : Value} {W W' : World}
theorem Fm{i:Nat}{o:Oper}{a:Act}(hi:nU[i]? = some o)(hg:o.guard=none)(hd:o.dst=none)(hr:(execOp a.eval o).run prog W=.ok .skip W')(h:K a W') :wpOp prog nU Q i K a W:=by
  unfold wpOp
  rw [hi]
  simp only [Region.wanted,hg,if_true]
  refine .inl ?_
  unfold Oper.wp
  rw [hr,Oper.upon_skip,hd]
  exact h
theorem GV{i d:Nat}{o:Oper}{a:Act}{v:Value}(hi:nU[i]? = some o)(hg:o.guard=none)(hd:o.dst=some d)(hr:(execOp a.eval o).run prog W=.ok (.value v) W')(h:K (a.put (some d) v) W') :wpOp prog nU Q i K a W:=by
  unfold wpOp
  rw [hi]
  simp only [Region.wanted,hg,if_true]
  refine .inl ?_
  unfold Oper.wp
  rw [hr,Oper.upon_value,hd]
  exact h
theorem PK{i d:Nat}{o:Oper}{a:Act}{f:FuncId}{args:Array Value}(hi:nU[i]? = some o)(hg:o.guard=none)(hd:o.dst=some d)(hr:(execOp a.eval o).run prog W=.ok (.enter f args) W) 
    (h:Calls prog f args W fun e W'=>∃ v,e=.returned v∧K (a.put (some d) v) W'):wpOp prog nU Q i K a W:=by
  unfold wpOp
  rw [hi]
  simp only [Region.wanted,hg,if_true]
  refine .inl ?_
  unfold Oper.wp
  rw [hr,Oper.upon_enter,hd]
  refine h.mono ?_
  rintro e W' ⟨v,rfl,h⟩
  exact h
theorem st0(h:K (ka (.map (some W.heap.size)) t7 t10) (W.alloc (.map #[] 0))) :wpOp prog nU Q 0 K (ka t2 t7 t10) W:=by
  refine GV (d:=2) rfl rfl rfl ?_ h
  have:=@run_makeMap prog 99 W
  simp [execOp,nU,this,Sem.run_bind]
theorem vH(hm:(Instr.mapUpdate 99 t2 (lR 0) (BF 129)).run prog W=.ok () W')(h:K (ka t2 t7 t10) W') :wpOp prog nU Q 2 K (ka t2 t7 t10) W:=by
  refine Fm rfl rfl rfl ?_ h
  have:(Instr.mapUpdate 99 ((ka t2 t7 t10).eval (.tmp 2)) ((ka t2 t7 t10).eval (.tmp 3)) ((ka t2 t7 t10).eval (.func 129))).run prog W=.ok () W':=hm
  simp [execOp,nU,this,Sem.run_bind]
theorem st4(hm:(Instr.mapUpdate 99 t2 (lR 1) (BF 130)).run prog W=.ok () W')(h:K (ka t2 t7 t10) W') :wpOp prog nU Q 4 K (ka t2 t7 t10) W:=by
  refine Fm rfl rfl rfl ?_ h
  have:(Instr.mapUpdate 99 ((ka t2 t7 t10).eval (.tmp 2)) ((ka t2 t7 t10).eval (.tmp 4)) ((ka t2 t7 t10).eval (.func 130))).run prog W=.ok () W':=hm
  simp [execOp,nU,this,Sem.run_bind]
theorem st8(hm:(Instr.mapUpdate 99 t2 (lR 2) t7).run prog W=.ok () W')(h:K (ka t2 t7 t10) W') :wpOp prog nU Q 8 K (ka t2 t7 t10) W:=by
  refine Fm rfl rfl rfl ?_ h
  have:(Instr.mapUpdate 99 ((ka t2 t7 t10).eval (.tmp 2)) ((ka t2 t7 t10).eval (.tmp 5)) ((ka t2 t7 t10).eval (.tmp 7))).run prog W=.ok () W':=hm
  simp [execOp,nU,this,Sem.run_bind]
theorem agu(hm:(Instr.mapUpdate 99 t2 (lR 3) t10).run prog W=.ok () W')(h:K (ka t2 t7 t10) W') :wpOp prog nU Q 12 K (ka t2 t7 t10) W:=by
  refine Fm rfl rfl rfl ?_ h
  have:(Instr.mapUpdate 99 ((ka t2 t7 t10).eval (.tmp 2)) ((ka t2 t7 t10).eval (.tmp 8)) ((ka t2 t7 t10).eval (.tmp 10))).run prog W=.ok () W':=hm
  simp [execOp,nU,this,Sem.run_bind]
theorem ex7:(execOp (ka t2 t7 t10).eval (nU[7]'(by decide))).run prog W=.ok (.enter 127 #[BF 129]) W:=by
  have hc:(callFunc 127 #[BF 129]).run prog W=.ok (.enter 127 #[BF 129]) W:=dW.enter 127 (FN 127) _ _ (by kernel_rfl) (by kernel_rfl)
  have hs:(ka t2 t7 t10).eval (.tmp 6)=.func (.func 127) #[] #[]:=rfl
  have hf:(ka t2 t7 t10).eval (.func 129)=BF 129:=rfl
  simp only [execOp,nU,resolve,Deferred.ofValue,invoke,Sem.run_bind]
  simp [hs,hf,Sem.run_bind]
theorem agv:(execOp (ka t2 t7 t10).eval (nU[11]'(by decide))).run prog W=.ok (.enter 127 #[BF 130]) W:=by
  have hc:(callFunc 127 #[BF 130]).run prog W=.ok (.enter 127 #[BF 130]) W:=dW.enter 127 (FN 127) _ _ (by kernel_rfl) (by kernel_rfl)
  have hs:(ka t2 t7 t10).eval (.tmp 9)=.func (.func 127) #[] #[]:=rfl
  have hf:(ka t2 t7 t10).eval (.func 130)=BF 130:=rfl
  simp only [execOp,nU,resolve,Deferred.ofValue,invoke,Sem.run_bind]
  simp [hs,hf,Sem.run_bind]
theorem st7(h:K (ka t2 (.func (.func 128) #[] #[.pointer (some ⟨W.heap.size,0,none⟩)]) t10) (W.alloc (.cells #[BF 129] 98))) :wpOp prog nU Q 7 K (ka t2 t7 t10) W:=by
  refine PK (d:=7) rfl rfl rfl ex7 ((Fl W 129).mono ?_)
  rintro e W' ⟨rfl,rfl⟩
  exact ⟨_,rfl,h⟩
theorem agw(h:K (ka t2 t7 (.func (.func 128) #[] #[.pointer (some ⟨W.heap.size,0,none⟩)])) (W.alloc (.cells #[BF 130] 98))) :wpOp prog nU Q 11 K (ka t2 t7 t10) W:=by
  refine PK (d:=10) rfl rfl rfl agv ((Fl W 130).mono ?_)
  rintro e W' ⟨rfl,rfl⟩
  exact ⟨_,rfl,h⟩
def lsA(l0 l2 l4 l7 l8 l11 l12:Bool) :Array Bool:=#[l0,true,l2,true,l4,true,true,l7,l8,true,true,l11,l12,false,false]
theorem Inv.next{w:World}{l0 l2 l4 l7 l8 l11 l12:Bool}(h:Inv w l0 l2 l4 l7 l8 l11 l12 t2 t7 t10 W)(k:uq w.heap.size W W')(hb:Below w.heap.size W W'){l0' l2' l4' l7' l8' l11' l12':Bool}{t2' t7' t10':Value} 
    (c0:(l2'||l4'||l8'||l12')=true→l0'=true) (c8:l8'=true→l7'=true) (c11:l11'=true→l7'=true) (c12:l12'=true→l11'=true)
    (hm:l0'=true→CQ w.heap.size W' t2' (has l2' l4' l8' l12')) (h7:l7'=true→CL w.heap.size W' 129 t7') (h10:l11'=true→CL w.heap.size W' 130 t10'):Inv w l0' l2' l4' l7' l8' l11' l12' t2' t7' t10' W' :=
  ⟨c0,c8,c11,c12,h.low.trans hb,hm,h7,h10⟩
theorem CQ.mono{B0:Nat}{p:Nat→Bool}(h:CQ B0 W t2 p)(o:Obj) :CQ B0 (W.alloc o) t2 p:=by
  obtain ⟨B,es,cl,h1,h2,h3,h4,h5,h6⟩:=h.ex
  have k:=uq.alloc B0 W o
  refine ⟨B,es,cl,h1,h2,by rw [iD (Array.getElem?_eq_some_iff.1 h3).1];exact h3,fun e he=>?_,fun i hi=>?_,h6⟩
  · obtain ⟨i,q1,q2,q3⟩:=h4 e he;exact ⟨i,q1,q2,q3.mono k⟩
  · obtain ⟨e,q1,q2,q3⟩:=h5 i hi;exact ⟨e,q1,q2,q3.mono k⟩
theorem xM(B:Nat){W:World}(h:B≤W.heap.size)(o:Obj) :Below B W (W.alloc o):=(Below.refl _ W).alloc h o
theorem GW{w:World}{l0 l2 l4 l7 l8 l11 l12:Bool}(h:Inv w l0 l2 l4 l7 l8 l11 l12 t2 t7 t10 W) :w.heap.size≤W.heap.size:=h.low.size
def Ou(l0 l2 l4 l7 l8 l11 l12:Bool) :Nat:=(if l0 then 0 else 1)+(if l2 then 0 else 1)+(if l4 then 0 else 1)+(if l7 then 0 else 1)+(if l8 then 0 else 1)+(if l11 then 0 else 1)+(if l12 then 0 else 1)
theorem go0{w:World}{l7 l11:Bool}{t2:Value}(h:Inv w false false false l7 false l11 false t2 t7 t10 W) :Inv w true false false l7 false l11 false (.map (some W.heap.size)) t7 t10 (W.alloc (.map #[] 0)):=by
  have k:=uq.alloc w.heap.size W (.map #[] 0)
  refine h.next k (xM _ (GW h) _) (fun _=>rfl) (fun q=>by cases q) h.c11 (fun q=>by cases q) (fun _=>⟨_,#[],0,rfl,GW h,ee W _,fun e he=>by simp at he,fun i hi=>?_,fun e he=>by simp at he⟩) (fun q=>(h.f7 q).mono k) (fun q=>(h.f10 q).mono k)
  rcases i with _ | _ | _ | _ | i<;>cases hi
theorem aaF{w:World}{l2 l4 l7 l8 l11 l12 l2' l4' l8' l12':Bool}{t2:Value}(h:Inv w true l2 l4 l7 l8 l11 l12 t2 t7 t10 W){i:Nat}(h4:i<4)(hi:has l2 l4 l8 l12 i=false)(hp:∀ j,has l2' l4' l8' l12' j=(has l2 l4 l8 l12 j||Nat.beq j i)){v:Value}(hv:EV w.heap.size W i v) 
    (c8:l8'=true→l7=true) (c12:l12'=true→l11=true):∃ W',(Instr.mapUpdate 99 t2 (lR i) v).run prog W=.ok () W'∧Inv w true l2' l4' l7 l8' l11 l12' t2 t7 t10 W':=by
  obtain ⟨W',h1,h2,h3,h5⟩:=(h.map rfl).put hi h4 hp (fun j hj=>adA hj) hv
  have hb:=h5 w rfl h.low
  exact ⟨W',h1,⟨fun _=>rfl,c8,h.c11,c12,hb,fun _=>h2,fun q=>(h.f7 q).mono h3,fun q=>(h.f10 q).mono h3⟩⟩
theorem go7{w:World}{l0 l2 l4 l12:Bool}(h:Inv w l0 l2 l4 false false false l12 t2 t7 t10 W) :Inv w l0 l2 l4 true false false l12 t2 (.func (.func 128) #[] #[.pointer (some ⟨W.heap.size,0,none⟩)]) t10 (W.alloc (.cells #[BF 129] 98)):=by
  have k:=uq.alloc w.heap.size W (.cells #[BF 129] 98)
  refine h.next k (xM _ (GW h) _) h.c0 (fun q=>by cases q) (fun q=>by cases q) h.c12 (fun q=>(h.map q).mono _) (fun _=>⟨_,GW h,rfl,ee W _⟩) (fun q=>by cases q)
theorem agx{w:World}{l0 l2 l4 l8:Bool}(h:Inv w l0 l2 l4 true l8 false false t2 t7 t10 W) :Inv w l0 l2 l4 true l8 true false t2 t7 (.func (.func 128) #[] #[.pointer (some ⟨W.heap.size,0,none⟩)]) (W.alloc (.cells #[BF 130] 98)):=by
  have k:=uq.alloc w.heap.size W (.cells #[BF 130] 98)
  refine h.next k (xM _ (GW h) _) h.c0 h.c8 (fun _=>rfl) (fun q=>by cases q) (fun q=>(h.map q).mono _) (fun q=>(h.f7 q).mono k) (fun _=>⟨_,GW h,rfl,ee W _⟩)
theorem agy(j i:Nat)(h:i<4) :Nat.beq (j+1+1+1+1) i=false:=by
  cases q:Nat.beq (j+1+1+1+1) i with
  | false=>rfl
  | true=>have:=Nat.eq_of_beq_eq_true q;omega
theorem aeC(a b c d:Bool) :(∀ j,has true b c d j=(has false b c d j||Nat.beq j 0))∧(∀ j,has a true c d j=(has a false c d j||Nat.beq j 1))∧(∀ j,has a b true d j=(has a b false d j||Nat.beq j 2))∧∀ j,has a b c true j=(has a b c false j||Nat.beq j 3):=by
  refine ⟨fun j=>?_,fun j=>?_,fun j=>?_,fun j=>?_⟩<;>rcases j with _ | _ | _ | _ | j<;>simp [has,agy]
theorem Fo(l0 l2 l4 l7 l8 l11 l12:Bool) :Region.ready .any nU (lsA l0 l2 l4 l7 l8 l11 l12)=(if l0 then [] else [0])++(if !l2&&l0 then [2] else [])++(if !l4&&l0 then [4] else [])++(if l7 then [] else [7])++(if !l8&&l0&&l7 then [8] else [])++(if !l11&&l7 then [11] else [])++(if !l12&&l0&&l11 then [12] else [])++(if l0&&l2&&l4&&l7&&l8&&l11&&l12 then [13] else []):=by
  cases l0<;>cases l2<;>cases l4<;>cases l7<;>cases l8<;>cases l11<;>cases l12<;>kernel_rfl
theorem agb{B:Nat}(h:Q .normal (((ka (.map (some B)) t7 t10).put (some 11) (.map (some B))).put (some 0) (.map (some B))) W) :wpAny prog .any nU Q 2 (lsA true true true true true true true) (ka (.map (some B)) t7 t10) W:=by
  refine ⟨fun q=>?_,fun i hi=>?_⟩
  · exfalso;rw [Fo] at q;cases q
  · rw [Fo] at hi
    simp at hi
    subst hi
    refine GV (W':=W) (d:=11) (v:=.map (some B)) rfl rfl rfl (by simp [execOp,nU];rfl) ?_
    have r2:Region.ready .any nU ((lsA true true true true true true true).setIfInBounds 13 true)=[14]:=by kernel_rfl
    refine ⟨fun q=>?_,fun i hi=>?_⟩
    · rw [r2] at q;cases q
    · rw [r2] at hi
      simp at hi
      subst hi
      refine GV (W':=W) (d:=0) (v:=.map (some B)) rfl rfl rfl (by simp [execOp,nU];rfl) ?_
      exact ⟨by kernel_rfl,h⟩
set_option maxHeartbeats 4000000 in
theorem Zr {w : World} (hQ : ∀ t7 t10 W B, Inv w true true true true true true true (.map (some B)) t7 t10 W → Q .normal (((ka (.map (some B)) t7 t10).put (some 11) (.map (some B))).put (some 0) (.map (some B))) W) :
    ∀ (n : Nat) (l0 l2 l4 l7 l8 l11 l12 : Bool) (t2 t7 t10 : Value) (W : World), Inv w l0 l2 l4 l7 l8 l11 l12 t2 t7 t10 W → Ou l0 l2 l4 l7 l8 l11 l12 = n → wpAny prog .any nU Q (n + 2) (lsA l0 l2 l4 l7 l8 l11 l12) (ka t2 t7 t10) W := by
  intro n
  induction n with
  | zero =>
    intro l0 l2 l4 l7 l8 l11 l12 t2 t7 t10 W h hn
    cases l0 <;> cases l2 <;> cases l4 <;> cases l7 <;> cases l8 <;> cases l11 <;> cases l12 <;> first | (exfalso; revert hn; decide) | skip
    obtain ⟨B, es, cl, rfl, _⟩ := (h.map rfl).ex
    exact agb (hQ _ _ _ _ h)
  | succ n ih =>
    intro l0 l2 l4 l7 l8 l11 l12 t2 t7 t10 W h hn
    obtain ⟨e0, e1, e2, e3⟩ := aeC l2 l4 l8 l12
    have c0 := h.c0
    have c8 := h.c8
    have c11 := h.c11
    have c12 := h.c12
    refine ⟨fun q => ?_, fun i hi => ?_⟩
    · exfalso
      rw [Fo] at q
      revert c0 c8 c11 c12 hn q
      cases l0 <;> cases l2 <;> cases l4 <;> cases l7 <;> cases l8 <;> cases l11 <;> cases l12 <;> simp [Ou]
    · rw [Fo] at hi
      simp only [List.mem_append] at hi
      rcases hi with ((((((hi | hi) | hi) | hi) | hi) | hi) | hi) | hi
      · have q : l0 = false ∧ i = 0 := by cases l0 <;> simp at hi ⊢; exact hi
        obtain ⟨rfl, rfl⟩ := q
        have q : l2 = false ∧ l4 = false ∧ l8 = false ∧ l12 = false := by revert c0; cases l2 <;> cases l4 <;> cases l8 <;> cases l12 <;> simp
        obtain ⟨rfl, rfl, rfl, rfl⟩ := q
        exact st0 (ih _ _ _ _ _ _ _ _ _ _ _ (go0 h) (by simp [Ou] at hn ⊢; omega))
      · have q : (l2 = false ∧ l0 = true) ∧ i = 2 := by cases l2 <;> cases l0 <;> simp at hi ⊢; exact hi
        obtain ⟨⟨rfl, rfl⟩, rfl⟩ := q
        obtain ⟨W', h1, h2⟩ := aaF h (i := 0) (by decide) rfl e0 (v := BF 129) rfl h.c8 h.c12
        exact vH h1 (ih _ _ _ _ _ _ _ _ _ _ _ h2 (by simp [Ou] at hn ⊢; omega))
      · have q : (l4 = false ∧ l0 = true) ∧ i = 4 := by cases l4 <;> cases l0 <;> simp at hi ⊢; exact hi
        obtain ⟨⟨rfl, rfl⟩, rfl⟩ := q
        obtain ⟨W', h1, h2⟩ := aaF h (i := 1) (by decide) rfl e1 (v := BF 130) rfl h.c8 h.c12
        exact st4 h1 (ih _ _ _ _ _ _ _ _ _ _ _ h2 (by simp [Ou] at hn ⊢; omega))
      · have q : l7 = false ∧ i = 7 := by cases l7 <;> simp at hi ⊢; exact hi
        obtain ⟨rfl, rfl⟩ := q
        have q : l8 = false ∧ l11 = false := by revert c8 c11; cases l8 <;> cases l11 <;> simp
        obtain ⟨rfl, rfl⟩ := q
        exact st7 (ih _ _ _ _ _ _ _ _ _ _ _ (go7 h) (by simp [Ou] at hn ⊢; omega))
      · have q : (l8 = false ∧ l0 = true ∧ l7 = true) ∧ i = 8 := by cases l8 <;> cases l0 <;> cases l7 <;> simp at hi ⊢; exact hi
        obtain ⟨⟨rfl, rfl, rfl⟩, rfl⟩ := q
        obtain ⟨W', h1, h2⟩ := aaF h (i := 2) (by decide) rfl e2 (v := t7) (h.f7 rfl) (fun _ => rfl) h.c12
        exact st8 h1 (ih _ _ _ _ _ _ _ _ _ _ _ h2 (by simp [Ou] at hn ⊢; omega))
      · have q : (l11 = false ∧ l7 = true) ∧ i = 11 := by cases l11 <;> cases l7 <;> simp at hi ⊢; exact hi
        obtain ⟨⟨rfl, rfl⟩, rfl⟩ := q
        have q : l12 = false := by revert c12; cases l12 <;> simp
        subst q
        exact agw (ih _ _ _ _ _ _ _ _ _ _ _ (agx h) (by simp [Ou] at hn ⊢; omega))
      · have q : (l12 = false ∧ l0 = true ∧ l11 = true) ∧ i = 12 := by cases l12 <;> cases l0 <;> cases l11 <;> simp at hi ⊢; exact hi
        obtain ⟨⟨rfl, rfl, rfl⟩, rfl⟩ := q
        obtain ⟨W', h1, h2⟩ := aaF h (i := 3) (by decide) rfl e3 (v := t10) (h.f10 rfl) h.c8 (fun _ => rfl)
        exact agu h1 (ih _ _ _ _ _ _ _ _ _ _ _ h2 (by simp [Ou] at hn ⊢; omega))
      · exfalso
        revert hn hi
        cases l0 <;> cases l2 <;> cases l4 <;> cases l7 <;> cases l8 <;> cases l11 <;> cases l12 <;> simp [Ou]
theorem Zs(w:World) :Calls prog wN #[] w fun e w'=>∃ B,e=.returned (.map (some B))∧Below w.heap.size w w'∧CQ w.heap.size w' (.map (some B)) (fun i=>Nat.blt i 4):=by
  go_enter Tryz.func60,Tryz.ntmps60
  go_wp2
  refine wp_region_any (ops:=nU) (by kernel_rfl) ?_
  refine wpAny_take (i:=1) (v:=lR 0) rfl (by kernel_rfl) (by kernel_rfl) (by kernel_rfl) (fun _ _ _ h=>h) (.inl ⟨rfl,fun _=>by kernel_rfl⟩) ?_
  refine wpAny_take (i:=3) (v:=lR 1) rfl (by kernel_rfl) (by kernel_rfl) (by kernel_rfl) (fun _ _ _ h=>h) (.inl ⟨rfl,fun _=>by kernel_rfl⟩) ?_
  refine wpAny_take (i:=5) (v:=lR 2) rfl (by kernel_rfl) (by kernel_rfl) (by kernel_rfl) (fun _ _ _ h=>h) (.inl ⟨rfl,fun _=>by kernel_rfl⟩) ?_
  refine wpAny_take (i:=6) (v:=BF 127) rfl (by kernel_rfl) (by kernel_rfl) (by kernel_rfl) (fun _ _ _ h=>h) (.inl ⟨rfl,fun _=>by kernel_rfl⟩) ?_
  refine wpAny_take (i:=9) (v:=lR 3) rfl (by kernel_rfl) (by kernel_rfl) (by kernel_rfl) (fun _ _ _ h=>h) (.inl ⟨rfl,fun _=>by kernel_rfl⟩) ?_
  refine wpAny_take (i:=10) (v:=BF 127) rfl (by kernel_rfl) (by kernel_rfl) (by kernel_rfl) (fun _ _ _ h=>h) (.inl ⟨rfl,fun _=>by kernel_rfl⟩) ?_
  have hb:Below w.heap.size w { w with drawn:=w.drawn+1 }:=⟨rfl,rfl,rfl,Nat.le_refl _,fun _ _=>rfl⟩
  refine Zr (w:=w) ?_ 7 false false false false false false false undef undef undef _ ⟨fun q=>(by cases q),fun q=>(by cases q),fun q=>(by cases q),fun q=>(by cases q),hb,fun q=>(by cases q),fun q=>(by cases q),fun q=>(by cases q)⟩ rfl
  intro t7 t10 W B h
  rename_i Q' K' hK
  refine hK _ _ ?_
  have e:((ka (.map (some B)) t7 t10).put (some 11) (.map (some B))).put (some 0) (.map (some B))=⟨#[.map (some B),BF 127,.map (some B),lR 0,lR 1,lR 2,BF 127,t7,lR 3,BF 127,t10,.map (some B)],[]⟩:=rfl
  rw [e]
  go_wp2
  go_ret
  refine ⟨B,rfl,h.low,⟨?_⟩⟩
  obtain ⟨B',es,cl,h1,h2,h3,h4,h5,h6⟩:=(h.map rfl).ex
  cases h1
  refine ⟨B,es,cl,rfl,h2,h3,fun e he=>?_,fun i hi=>?_,h6⟩
  · obtain ⟨i,q1,q2⟩:=h4 e he
    exact ⟨i,Nat.ble_eq_true_of_le (adA q1),q2⟩
  · have hi:i<4:=by simpa [Nat.blt_eq] using hi
    refine h5 i ?_
    rcases i with _ | _ | _ | _ | i<;>first | rfl | omega
def WF:List dj:=[.p .i64 1 0,.p .i64 2 0,.p .i64 1 1,.p .i64 2 1]
def adC:List AV:=[.fn (.func 129) [] [],.fn (.func 130) [] [],.fn (.func 128) [] [.iptr .free (.vs [.fn (.func 129) [] []]) 1 0 0],.fn (.func 128) [] [.iptr .free (.vs [.fn (.func 130) [] []]) 1 0 0]]
theorem cell_of{w:World}{b:Nat}{c:Array Value}{t:TypeId}(h:w.heap[b]? = some (.cells c t (0,0)))(x:Nat) :w.cell? ⟨b,x,none⟩=c[x]?:=by
  simp [World.cell?,h]
theorem afF{ρ:ae}{w:World}{bl:Nat}{c:Array Value}{t:TypeId}{l:List AV}(ha:ρ.avoid .free bl)(hh:w.heap[bl]? = some (.cells c t (0,0)))(hv:cU ρ w l c.toList)(hk:dF l=true) :
    VR ρ w (.iptr .free (.vs l) 1 0 0) (.pointer (some ⟨bl,0,none⟩)):=by
  have hb:bl<w.heap.size:=(Array.getElem?_eq_some_iff.1 hh).1
  have:=VR.iptr (ρ:=ρ) (w:=w) .free (.vs l) 1 0 0 bl 0 (fun x=>(c[x]?).getD undef) ha hb (fun x v hx=>?_) (fun x v hx=>?_) trivial (fun _=>hk) (gj hk)
  · simpa using this
  · obtain ⟨u,q1,_⟩:=hv.get x v hx
    rw [Nat.zero_add,cell_of hh]
    simp at q1
    rw [q1];rfl
  · obtain ⟨u,q1,q2⟩:=hv.get x v hx
    simp at q1
    rw [q1];exact q2
theorem adD(ρ:ae)(w:World)(f:Nat) :VR ρ w (.fn (.func f) [] []) (BF f):=.fn _ _ _ _ _ .nil .nil
theorem afd{ρ:ae}{w:World}{B0 f:Nat}{v:Value}(h:CL B0 w f v)(ha:∀ bl,B0≤bl→ρ.avoid .free bl) :VR ρ w (.fn (.func 128) [] [.iptr .free (.vs [.fn (.func f) [] []]) 1 0 0]) v:=by
  obtain ⟨b,h1,rfl,h3⟩:=h
  exact .fn _ _ _ _ _ .nil (.cons _ _ _ _ (afF (ha b h1) h3 (.cons _ _ _ _ (adD ρ w f) .nil) rfl) .nil)
theorem abR{i:Nat}{k:dj}(h:WF[i]? = some k) :i<4∧k.val=lR i:=by
  have hi:i<4:=(List.getElem?_eq_some_iff.1 h).1
  rcases i with _ | _ | _ | _ | i<;>first | (cases h;exact ⟨hi,rfl⟩) | omega
theorem adE{i:Nat}(h:i<4) :∃ k,WF[i]? = some k∧k.val=lR i:=by
  rcases i with _ | _ | _ | _ | i<;>first | exact ⟨_,rfl,rfl⟩ | omega
theorem aeD{ρ:ae}{w w':World}{B:Nat}(h:CQ w.heap.size w' (.map (some B)) (fun i=>Nat.blt i 4))(ha:∀ bl,w.heap.size≤bl→ρ.avoid .free bl) :VR ρ w' (.gmap WF adC) (.map (some B)):=by
  obtain ⟨B',es,cl,h1,h2,h3,h4,h5,h6⟩:=h.ex
  cases h1
  have lt4:∀ i,Nat.blt i 4=true→i<4:=fun i q=>by simpa [Nat.blt_eq] using q
  have pick:∀ i,∃ v,i<4→∃ e∈es.toList,e.key=lR i∧EV w.heap.size w' i e.val∧e.val=v:=fun i=>by
    by_cases hi:i<4
    · obtain ⟨e,q1,q2,q3⟩:=h5 i (by simpa [Nat.blt_eq] using hi)
      exact ⟨e.val,fun _=>⟨e,q1,q2,q3,rfl⟩⟩
    · exact ⟨undef,fun q=>absurd q hi⟩
  obtain ⟨u,hu⟩:=Classical.axiomOfChoice pick
  refine .gmap _ _ B es cl u (ha _ h2) (Array.getElem?_eq_some_iff.1 h3).1 h3 (fun e he=>?_) (fun i k hk=>?_) (fun x v hx=>?_) rfl (by decide)
  · obtain ⟨i,hi,hk,_⟩:=h4 e he
    obtain ⟨k,k1,k2⟩:=adE (lt4 i hi)
    obtain ⟨e',q1,q2,_,q4⟩:=hu i (lt4 i hi)
    exact ⟨i,k,k1,by rw [hk,k2],by rw [←q4,h6 e he e' q1 (hk.trans q2.symm)]⟩
  · obtain ⟨hi,hk⟩:=abR hk
    obtain ⟨e',q1,q2,_,q4⟩:=hu i hi
    exact ⟨e',q1,by rw [hk,q2],q4⟩
  · have hi:x<4:=(List.getElem?_eq_some_iff.1 hx).1
    obtain ⟨e',q1,q2,q3,q4⟩:=hu x hi
    rw [←q4]
    rcases x with _ | _ | _ | _ | x
    · cases hx;rw [show e'.val=BF 129 from q3];exact adD _ _ _
    · cases hx;rw [show e'.val=BF 130 from q3];exact adD _ _ _
    · cases hx;exact afd q3 ha
    · cases hx;exact afd q3 ha
    · omega
theorem afG:aj prog wN [] [] ⟨.gmap WF adC,[]⟩:=by
  refine Mc ⟨FN wN,by kernel_rfl,by kernel_rfl⟩ fun ρ w us hN hv=>?_
  cases hv
  refine (Zs w).mono ?_
  rintro e w' ⟨B,rfl,hb,hm⟩
  exact ⟨_,rfl,hb,aeD hm hN.new⟩
def Zt:aF:=⟨wN,fun lent args=>match lent,args with | [],[]=>some [⟨⟨.gmap WF adC,[]⟩,[]⟩] | _,_=>none⟩
theorem abS:aV prog Zt:=by
  intro lent args alts a h ha ho
  simp only [Zt] at h
  split at h
  · simp only [Option.some.injEq] at h;subst h
    simp only [List.mem_singleton] at ha;subst ha
    exact afG
  · cases h
end Go.Plb.Seat
namespace Go.Plb.Seat
open Go Go.Plb
set_option linter.unusedSimpArgs false
set_option linter.unusedVariables false
set_option maxRecDepth 100000
noncomputable section
theorem Md{n:Nat}(h:isNaN n=true) :n/4503599627370496%2048=2047:=by
  rw [kx,decide_eq_true_eq] at h;omega
theorem Me(m:Nat) :cM .and .u64 (m:Int) 2047=((m%2048:Nat):Int):=by
  unfold cM
  simp only [BitVec.toNat_and,BitVec.toNat_ofInt]
  have e1:((2047:Int)%((2^IntKind.u64.bits:Nat):Int)).toNat=2^11-1:=by decide
  have e2:((m:Int)%((2^IntKind.u64.bits:Nat):Int)).toNat=m%2^64:=by
    show ((m:Int)%((2^64:Nat):Int)).toNat=_
    omega
  rw [e1,e2,Nat.and_two_pow_sub_one_eq_mod]
  have e3:m%2^64%2^11=m%2048:=by omega
  rw [e3]
  have:m%2048<2048:=Nat.mod_lt _ (by decide)
  simp only [IntKind.wrap,IntKind.signed,IntKind.bits]
  simp
  omega
theorem abT:IntKind.i64.wrap 2047=2047:=by decide
theorem afH:aj prog nI [] [.nan] ⟨.bool true false,[]⟩:=by
  have h0:aj prog nI [] [.nan] ⟨.bool false false,[]⟩:=by
    intro ρ w us hN hv
    cases hv with | cons _ u _ _ h1 h2 =>
    cases h2
    cases h1 with | nan n hn =>
    have hr:oM C0 E0 (ia C0 E0 0 50) nI [] [.int .u64 n] (some [])=some (⟨.bool false (IntKind.i64.wrap (cM .and .u64 (Int.fdiv (n:Int) (2^min (Int.toNat 52) IntKind.u64.bits)) 2047) != 2047),[]⟩,[decide ((0:Int)≤52)],some []):=by kernel_rfl
    have c:=aj.run dW vX _ _ _ hr ⟨rfl,trivial⟩
    have e:(IntKind.i64.wrap (cM .and .u64 (Int.fdiv (n:Int) (2^min (Int.toNat 52) IntKind.u64.bits)) 2047) != 2047)=false:=by
      have e1:(2^min (Int.toNat 52) IntKind.u64.bits:Int)=((4503599627370496:Nat):Int):=by decide
      have e2:Int.fdiv (n:Int) ((4503599627370496:Nat):Int)=((n/4503599627370496:Nat):Int):=by
        rw [Int.fdiv_eq_ediv_of_nonneg _ (by omega)];omega
      rw [e1,e2,Me,Md hn]
      show (IntKind.i64.wrap 2047 != 2047)=false
      rw [abT];rfl
    rw [e] at c
    exact c ρ w _ hN (.cons _ _ _ _ (.int _ _) .nil)
  exact h0.weak (Dg _ _ _)
def Zu:aF:=⟨nI,fun lent args=>match lent,args with | [],[.nan]=>some [⟨⟨.bool true false,[]⟩,[]⟩] | _,_=>none⟩
theorem abU:aV prog Zu:=by
  intro lent args alts a h ha ho
  simp only [Zu] at h
  split at h
  · simp only [Option.some.injEq] at h;subst h
    simp only [List.mem_singleton] at ha;subst ha
    exact afH
  · cases h
def afI:List aF:=Zu::Zt::PJ
theorem aaG:aP prog (aN afI):=ay abU (ay abS R4)
def okB:Option (gw×List Bool×dY)→Bool
  | some (⟨.bool _ true,[]⟩,o,_)=>Qv o
  | _=>false
theorem adF{r:Option (gw×List Bool×dY)}(h:okB r=true) :∃ k o p,r=some (⟨.bool k true,[]⟩,o,p)∧aG o:=by
  unfold okB at h
  split at h
  · exact ⟨_,_,_,rfl,Gd h⟩
  · cases h
end
end Go.Plb.Seat
namespace Go.Plb.Seat
open Go Go.Plb
set_option maxRecDepth 100000
noncomputable section
def adG:List aF:=iw 59 [.agg [.i .i64 1,.i .i64 1,.fl [4611686018427387904]]] ⟨(.tup [(.agg [(.int .i64 1),(.int .i64 1),(.sl 0 1 1 0 1 1)]),(.int .i64 2)]),[some (.fl [4602678819172646912])]⟩::afI
theorem abV:aP prog (aN adG):=em dW aaG (N:=100) (n:=1000) (by kernel_rfl)
def adH:List aF:=iw 83 [.agg [.i .i64 1,.i .i64 1,.fl [4602678819172646912]]] ⟨(.tup [(.agg [(.sl 0 1 1 0 1 1),.nsl]),(.sl 1 1 2 0 1 1),.nsl,(.int .i64 0)]),[some (.fl [4602678819172646912]),some (.vs [(.sl 2 1 1 0 1 1),(.flt true 0)]),some (.fl [4607182418800017408])]⟩::adG
theorem abW:aP prog (aN adH):=em dW abV (N:=100) (n:=1000) (by kernel_rfl)
def adI:List aF:=iw 213 [.i .i64 1,.nil] ⟨(.tup [(.agg [(.int .i64 1),(.int .i64 1),(.sl 0 1 1 0 1 1)]),(.int .i64 0)]),[some (.fl [4607182418800017408])]⟩::adH
theorem abX:aP prog (aN adI):=em dW abW (N:=100) (n:=1000) (by kernel_rfl)
def adJ:List aF:=iw 214 [.agg [.fl [4602678819172646912],.nil],.agg [.i .i64 1,.i .i64 1,.fl [4607182418800017408]],.agg [.i .i64 1,.i .i64 1,.fl [4607182418800017408]]] ⟨(.tup [(.sl 0 1 1 0 1 1),(.agg [(.int .i64 1),(.int .i64 1),(.sl 1 1 1 0 1 1)]),(.agg [(.int .i64 1),(.int .i64 1),(.sl 2 1 1 0 1 1)]),(.int .i64 0),(.int .i64 0)]),[some (.fl [4602678819172646912]),some (.fl [4607182418800017408]),some (.fl [4607182418800017408])]⟩::adI
theorem abY:aP prog (aN adJ):=em dW abX (N:=100) (n:=1000) (by kernel_rfl)
def adK:List aF:=iw 134 [.i .i64 1,.i .i64 1] ⟨(.tup [(.agg [(.bool false false),(.imm .free (.ns .u64 [1]) 1 1 0 1),(.int .i64 (-94))]),(.int .i64 0)]),[]⟩::adJ
theorem abZ:aP prog (aN adK):=em dW abY (N:=100) (n:=1000) (by kernel_rfl)
def adL:List aF:=iw 135 [.agg [.i .i64 1,.i .i64 1,.fl [4611686018427387904]]] ⟨(.tup [(.agg [(.bool true false),(.imm .free (.ns .u64 [1]) 1 1 0 1),(.int .i64 2)]),(.int .i64 0)]),[]⟩::adK
theorem ab0:aP prog (aN adL):=em dW abZ (N:=100) (n:=1000) (by kernel_rfl)
def adM:List aF:=iw 139 [.agg [.i .i64 1,.i .i64 1,.fl [4607182418800017408]]] ⟨(.tup [(.agg [(.bool true false),.nsl,(.int .i64 0)]),(.int .i64 0)]),[]⟩::adL
theorem ab1:aP prog (aN adM):=em dW ab0 (N:=100) (n:=1000) (by kernel_rfl)
def adN:List aF:=iw 143 [.agg [.i .i64 1,.i .i64 1,.fl [4611686018427387904]],.agg [.i .i64 1,.i .i64 1,.fl [4607182418800017408]],.agg [.i .i64 1,.i .i64 1,.fl [4607182418800017408]],.fl [4611686018427387904]] ⟨(.tup [(.agg [(.bool true false),.nsl,(.int .i64 0)]),(.int .i64 0)]),[]⟩::adM
theorem ab2:aP prog (aN adN):=em dW ab1 (N:=100) (n:=1000) (by kernel_rfl)
def adO:List aF:=iw 63 [.agg [.i .i64 1,.i .i64 1,.fl [4611686018427387904]],.fl [4611686018427387904],.agg [.i .i64 1,.i .i64 1,.fl [4607182418800017408]],.agg [.i .i64 1,.i .i64 1,.fl [4607182418800017408]]] ⟨(.tup [(.bool true true),(.int .i64 0)]),[]⟩::adN
theorem ab3:aP prog (aN adO):=em dW ab2 (N:=100) (n:=1000) (by kernel_rfl)
def aaH:List aF:=iw 18 [.i .i64 1,.i .i64 1,.ns .u64 [4611686018427387904],.i .i64 1] ⟨(.agg [(.int .i64 0),(.sl 0 1 1 0 1 1),(.int .i64 1),(.int .i64 1),(.sl 1 1 1 0 1 1),(.int .i64 1),(.int .i64 1),(.sl 2 1 1 0 1 1),(.int .i64 0)]),[some (.fl [4611686018427387904]),some (.fl [4607182418800017408]),some (.fl [4607182418800017408])]⟩::adO
theorem Zv:aP prog (aN aaH):=em dW ab3 (N:=100) (n:=1000) (by kernel_rfl)
def aaI:List aF:=iw 45 [.fl [4611686018427387904],.agg [.i .i64 1,.i .i64 1,.fl [4607182418800017408]],.agg [.i .i64 1,.i .i64 1,.fl [4607182418800017408]],.i .i64 1] ⟨(.tup [(.agg [(.int .i64 1),(.int .i64 1),(.sl 0 1 1 0 1 1)]),(.int .i64 0)]),[some (.fl [4602678819172646912])]⟩::aaH
theorem Zw:aP prog (aN aaI):=em dW Zv (N:=100) (n:=1000) (by kernel_rfl)
def aaJ:List aF:=iw 59 [.agg [.i .i64 2,.i .i64 2,.fl [4611686018427387904,0,0,4607182418800017408]]] ⟨(.tup [(.agg [(.int .i64 2),(.int .i64 2),(.sl 0 1 1 0 4 4)]),(.int .i64 2)]),[some (.fl [4602678819172646912,0,0,4598175219545276416])]⟩::aaI
theorem Zx:aP prog (aN aaJ):=em dW Zw (N:=100) (n:=1000) (by kernel_rfl)
def aaK:List aF:=iw 83 [.agg [.i .i64 2,.i .i64 2,.fl [4602678819172646912,0,0,4598175219545276416]]] ⟨(.tup [(.agg [(.sl 0 1 1 0 2 2),(.sl 1 1 1 0 1 1)]),(.sl 2 1 2 0 2 2),.nsl,(.int .i64 0)]),[some (.fl [4602678819172646912,4598175219545276416]),some (.fl [0]),some (.vs [(.sl 3 1 1 0 2 2),(.flt true 0),(.sl 4 1 1 0 1 1),(.flt true 0)]),some (.fl [4607182418800017408,0]),some (.fl [4607182418800017408])]⟩::aaJ
theorem Zy:aP prog (aN aaK):=em dW Zx (N:=100) (n:=1000) (by kernel_rfl)
def aaL:List aF:=iw 213 [.i .i64 2,.nil] ⟨(.tup [(.agg [(.int .i64 2),(.int .i64 2),(.sl 0 1 1 0 4 4)]),(.int .i64 0)]),[some (.fl [4607182418800017408,0,0,4607182418800017408])]⟩::aaK
theorem Zz:aP prog (aN aaL):=em dW Zy (N:=100) (n:=1000) (by kernel_rfl)
def aaM:List aF:=iw 214 [.agg [.fl [4602678819172646912,4598175219545276416],.fl [0]],.agg [.i .i64 2,.i .i64 2,.fl [4607182418800017408,0,0,4607182418800017408]],.agg [.i .i64 2,.i .i64 2,.fl [4607182418800017408,0,0,4607182418800017408]]] ⟨(.tup [(.sl 0 1 1 0 2 2),(.agg [(.int .i64 2),(.int .i64 2),(.sl 1 1 1 0 4 4)]),(.agg [(.int .i64 2),(.int .i64 2),(.sl 2 1 1 0 4 4)]),(.int .i64 0),(.int .i64 0)]),[some (.fl [4602678819172646912,4598175219545276416]),some (.fl [4607182418800017408,0,0,4607182418800017408]),some (.fl [4607182418800017408,0,0,4607182418800017408])]⟩::aaL
theorem ZA:aP prog (aN aaM):=em dW Zz (N:=100) (n:=1000) (by kernel_rfl)
def aaN:List aF:=iw 134 [.i .i64 2,.i .i64 2] ⟨(.tup [(.agg [(.bool false false),(.imm .free (.ns .u64 [1]) 1 1 0 1),(.int .i64 (-90))]),(.int .i64 0)]),[]⟩::aaM
theorem ZB:aP prog (aN aaN):=em dW ZA (N:=100) (n:=1000) (by kernel_rfl)
def aaO:List aF:=iw 135 [.agg [.i .i64 2,.i .i64 2,.fl [4611686018427387904,0,0,4607182418800017408]]] ⟨(.tup [(.agg [(.bool true false),(.imm .free (.ns .u64 [5]) 1 1 0 1),(.int .i64 0)]),(.int .i64 0)]),[]⟩::aaN
theorem ZC:aP prog (aN aaO):=em dW ZB (N:=100) (n:=1000) (by kernel_rfl)
def aaP:List aF:=iw 139 [.agg [.i .i64 2,.i .i64 2,.fl [4607182418800017408,0,0,4607182418800017408]]] ⟨(.tup [(.agg [(.bool true false),.nsl,(.int .i64 0)]),(.int .i64 0)]),[]⟩::aaO
theorem ZD:aP prog (aN aaP):=em dW ZC (N:=100) (n:=1000) (by kernel_rfl)
def aaQ:List aF:=iw 143 [.agg [.i .i64 2,.i .i64 2,.fl [4611686018427387904,0,0,4607182418800017408]],.agg [.i .i64 2,.i .i64 2,.fl [4607182418800017408,0,0,4607182418800017408]],.agg [.i .i64 2,.i .i64 2,.fl [4607182418800017408,0,0,4607182418800017408]],.fl [4611686018427387904,4607182418800017408]] ⟨(.tup [(.agg [(.bool true false),.nsl,(.int .i64 0)]),(.int .i64 0)]),[]⟩::aaP
theorem ZE:aP prog (aN aaQ):=em dW ZD (N:=100) (n:=1000) (by kernel_rfl)
def aaR:List aF:=iw 63 [.agg [.i .i64 2,.i .i64 2,.fl [4611686018427387904,0,0,4607182418800017408]],.fl [4611686018427387904,4607182418800017408],.agg [.i .i64 2,.i .i64 2,.fl [4607182418800017408,0,0,4607182418800017408]],.agg [.i .i64 2,.i .i64 2,.fl [4607182418800017408,0,0,4607182418800017408]]] ⟨(.tup [(.bool true true),(.int .i64 0)]),[]⟩::aaQ
theorem ZF:aP prog (aN aaR):=em dW ZE (N:=100) (n:=1000) (by kernel_rfl)
def aaS:List aF:=iw 18 [.i .i64 2,.i .i64 2,.ns .u64 [4611686018427387904,0,0,4607182418800017408],.i .i64 1] ⟨(.agg [(.int .i64 0),(.sl 0 1 1 0 2 2),(.int .i64 2),(.int .i64 2),(.sl 1 1 1 0 4 4),(.int .i64 2),(.int .i64 2),(.sl 2 1 1 0 4 4),(.int .i64 0)]),[some (.fl [4611686018427387904,4607182418800017408]),some (.fl [4607182418800017408,0,0,4607182418800017408]),some (.fl [4607182418800017408,0,0,4607182418800017408])]⟩::aaR
theorem ZG:aP prog (aN aaS):=em dW ZF (N:=100) (n:=1000) (by kernel_rfl)
def aaT:List aF:=iw 215 [.agg [.i .i64 1,.i .i64 1,.fl [4602678819172646912]]] ⟨(.tup [(.sl 0 1 1 0 1 1),(.agg [(.int .i64 1),(.int .i64 1),(.sl 1 1 1 0 1 1)]),(.agg [(.int .i64 1),(.int .i64 1),(.sl 2 1 1 0 1 1)]),(.int .i64 1),(.int .i64 0)]),[some (.fl [4602678819172646912]),some (.fl [4607182418800017408]),some (.fl [4607182418800017408])]⟩::aaS
theorem ZH:aP prog (aN aaT):=em dW ZG (N:=100) (n:=1000) (by kernel_rfl)
def aaU:List aF:=iw 18 [.i .i64 1,.i .i64 1,.ns .u64 [4611686018427387904],.i .i64 2] ⟨(.agg [(.int .i64 0),(.sl 0 1 1 0 1 1),(.int .i64 1),(.int .i64 1),(.sl 1 1 1 0 1 1),(.int .i64 1),(.int .i64 1),(.sl 2 1 1 0 1 1),(.int .i64 1)]),[some (.fl [4611686018427387904]),some (.fl [4607182418800017408]),some (.fl [4607182418800017408])]⟩::aaT
theorem ZI:aP prog (aN aaU):=em dW ZH (N:=100) (n:=1000) (by kernel_rfl)
def aaV:List aF:=iw 215 [.agg [.i .i64 2,.i .i64 2,.fl [4602678819172646912,0,0,4598175219545276416]]] ⟨(.tup [(.sl 0 1 1 0 2 2),(.agg [(.int .i64 2),(.int .i64 2),(.sl 1 1 1 0 4 4)]),(.agg [(.int .i64 2),(.int .i64 2),(.sl 2 1 1 0 4 4)]),(.int .i64 1),(.int .i64 0)]),[some (.fl [4602678819172646912,4598175219545276416]),some (.fl [4607182418800017408,0,0,4607182418800017408]),some (.fl [4607182418800017408,0,0,4607182418800017408])]⟩::aaU
theorem ZJ:aP prog (aN aaV):=em dW ZI (N:=100) (n:=1000) (by kernel_rfl)
def aaW:List aF:=iw 18 [.i .i64 2,.i .i64 2,.ns .u64 [4611686018427387904,0,0,4607182418800017408],.i .i64 2] ⟨(.agg [(.int .i64 0),(.sl 0 1 1 0 2 2),(.int .i64 2),(.int .i64 2),(.sl 1 1 1 0 4 4),(.int .i64 2),(.int .i64 2),(.sl 2 1 1 0 4 4),(.int .i64 1)]),[some (.fl [4611686018427387904,4607182418800017408]),some (.fl [4607182418800017408,0,0,4607182418800017408]),some (.fl [4607182418800017408,0,0,4607182418800017408])]⟩::aaV
theorem ZK:aP prog (aN aaW):=em dW ZJ (N:=100) (n:=1000) (by kernel_rfl)
def ZL:List aF:=aaW
theorem ab4:aP prog (aN ZL):=ZK
theorem WG:okB (oM C0 (aN ZL) (ia C0 (aN ZL) 50 100) vb [] [] none)=true:=by kernel_rfl
theorem ab5:aj prog vb [] [] ⟨.bool false true,[]⟩:=by
  obtain ⟨k,o,p,h,ho⟩:=adF WG
  exact (aj.run dW ab4 none _ _ h ho).weak (Dg _ _ _)
def GX:aF:=⟨vb,fun L args=>match L,args with | [],[]=>one (.bool false true) [] | _,_=>none⟩
theorem R5:aV prog GX:=by
  intro L args alts a h ha ho
  simp only [GX] at h
  split at h
  · exact sj h ha ho fun q=>ab5
  · cases h
end
end Go.Plb.Seat
namespace Go.Plb.Seat
open Go Go.Plb
set_option linter.unusedSimpArgs false
set_option linter.unusedVariables false
set_option maxRecDepth 100000
noncomputable section
theorem afJ(m:Nat) :cM .and .u64 (m:Int) 4503599627370495=((m%4503599627370496:Nat):Int):=by
  unfold cM
  simp only [BitVec.toNat_and,BitVec.toNat_ofInt]
  have e1:((4503599627370495:Int)%((2^IntKind.u64.bits:Nat):Int)).toNat=2^52-1:=by decide
  have e2:((m:Int)%((2^IntKind.u64.bits:Nat):Int)).toNat=m%2^64:=by
    show ((m:Int)%((2^64:Nat):Int)).toNat=_
    omega
  rw [e1,e2,Nat.and_two_pow_sub_one_eq_mod]
  have e3:m%2^64%2^52=m%4503599627370496:=by omega
  rw [e3]
  have:m%4503599627370496<4503599627370496:=Nat.mod_lt _ (by decide)
  simp only [IntKind.wrap,IntKind.signed,IntKind.bits]
  simp
  omega
theorem ab6:aj prog qt [] [.nan] ⟨.int .u64 9221120237041090560,[]⟩:=by
  intro ρ w us hN hv
  cases hv with | cons _ u _ _ h1 h2 =>
  cases h2
  cases h1 with | nan n hn =>
  have hr:oM C0 E0 (ia C0 E0 5 60) qt [] [.int .u64 (n:Int)] (some [1,0,1])=some (⟨.int .u64 9221120237041090560,[]⟩,[decide ((0:Int)≤52),(cM .and .u64 (Int.fdiv (n:Int) (2^min (Int.toNat 52) IntKind.u64.bits)) 2047==2047)==Nat.beq 1 1,(cM .and .u64 (n:Int) 4503599627370495==0)==Nat.beq 0 1,((5:Int)==5)==Nat.beq 1 1],some []):=by kernel_rfl
  have o1:((cM .and .u64 (Int.fdiv (n:Int) (2^min (Int.toNat 52) IntKind.u64.bits)) 2047==2047)==Nat.beq 1 1)=true:=by
    have e1:(2^min (Int.toNat 52) IntKind.u64.bits:Int)=((4503599627370496:Nat):Int):=by decide
    have e2:Int.fdiv (n:Int) ((4503599627370496:Nat):Int)=((n/4503599627370496:Nat):Int):=by
      rw [Int.fdiv_eq_ediv_of_nonneg _ (by omega)];omega
    rw [e1,e2,Me,Md hn];rfl
  have o2:((cM .and .u64 (n:Int) 4503599627370495==0)==Nat.beq 0 1)=true:=by
    rw [afJ]
    rw [kx,decide_eq_true_eq] at hn
    have:(((n%4503599627370496:Nat):Int)==0)=false:=by rw [beq_eq_false_iff_ne];omega
    rw [this];rfl
  have c:=aj.run dW vX _ _ _ hr ⟨rfl,o1,o2,rfl,trivial⟩
  exact c ρ w _ hN (.cons _ _ _ _ (.int _ _) .nil)
def GY:aF:=⟨qt,fun lent args=>match lent,args with | [],[.nan]=>some [⟨⟨.int .u64 9221120237041090560,[]⟩,[]⟩] | _,_=>none⟩
theorem R6:aV prog GY:=by
  intro lent args alts a h ha ho
  simp only [GY] at h
  split at h
  · simp only [Option.some.injEq] at h;subst h
    simp only [List.mem_singleton] at ha;subst ha
    exact ab6
  · cases h
end
end Go.Plb.Seat
namespace Go.Plb.Seat
open Go Go.Plb
noncomputable def agc:List aF:=GX::GY::afI
theorem JU:aP prog (aN agc):=ay R5 (ay R6 aaG)
end Go.Plb.Seat
namespace Go.Plb
noncomputable section
set_option linter.unusedSimpArgs false
set_option linter.unusedVariables false
set_option linter.unusedSectionVars false
variable [Rom]
mutual
def Ov (k:Nat):AV→Bool
  | .ptr b _ _ _=>Nat.blt b k
  | .sl b _ _ _ _ _=>Nat.blt b k
  | .fn _ l1 l2=>Ow k l1&&Ow k l2
  | .agg l=>Ow k l
  | .tup l=>Ow k l
  | .iface _ v=>Ov k v
  | .yld _=>false
  | _=>true
def Ow (k:Nat):List AV→Bool
  | []=>true
  | v::l=>Ov k v&&Ow k l
end
mutual
theorem aaX {k:Nat} {σ:Nat→Option Nat} (hσ:∀ b,b<k→σ b=some b):∀ (v:AV),Ov k v=true→TH σ v=v
  | .ptr b _ _ _,h=>by
    simp only [Ov,Nat.blt_eq] at h
    simp only [TH,hσ b h]
  | .sl b _ _ _ _ _,h=>by
    simp only [Ov,Nat.blt_eq] at h
    simp only [TH,hσ b h]
  | .fn _ l1 l2,h=>by
    simp only [Ov,Bool.and_eq_true] at h
    simp only [TH,BG hσ l1 h.1,BG hσ l2 h.2]
  | .agg l,h=>by simp only [Ov] at h;simp only [TH,BG hσ l h]
  | .tup l,h=>by simp only [Ov] at h;simp only [TH,BG hσ l h]
  | .iface _ v,h=>by simp only [Ov] at h;simp only [TH,aaX hσ v h]
  | .yld _,h=>by simp [Ov] at h
  | .int ..,_ | .bool ..,_ | .flt ..,_ | .str _,_ | .nptr,_ | .iptr ..,_ | .nsl,_ | .esl,_ | .zsl _,_ | .nan,_ | .imm ..,_ | .nfn,_ | .gmap ..,_ | .gvar _,_ | .niface,_ | .any,_=>rfl
theorem BG {k:Nat} {σ:Nat→Option Nat} (hσ:∀ b,b<k→σ b=some b):∀ (l:List AV),Ow k l=true→nmL σ l=l
  | [],_=>rfl
  | v::l,h=>by
    simp only [Ow,Bool.and_eq_true] at h
    simp only [nmL,aaX hσ v h.1,BG hσ l h.2]
end
theorem adP{k:Nat}{keep:List Nat}(hk:Db k keep=true) :∀ b,b<k→iU keep 0 b=some b:=by
  intro b hb
  unfold Db at hk
  rw [Bool.and_eq_true] at hk
  have hg:keep[b]? = some b:=by have:=wL hk.2 b hb;simpa using this
  cases hp:iU keep 0 b with
  | none=>exact absurd (List.mem_of_getElem? hg) (CZ hp)
  | some c =>
    obtain ⟨_,h2⟩:=vP hp
    rw [Nat.sub_zero] at h2
    rw [sE hk.1 h2 hg]
theorem PL{σ:Nat→Option Nat}{h:bR} :∀ {l:List Nat} {i c b:Nat} {e:aI},i≤c→l[c-i]? = some b→bn h b=some e→bn (uY σ h i l) c=some (nmB σ e)
  | [],i,c,b,e,hic,hl,he=>by simp at hl
  | x::l,i,c,b,e,hic,hl,he=>by
    simp only [uY]
    by_cases q:i=c
    · subst q
      simp at hl;subst hl
      rw [he]
      simp only [dk,mJ,cond_true]
    · have hne:Nat.beq i c=false:=by
        cases e:Nat.beq i c with
        | false=>rfl
        | true=>exact absurd (Nat.eq_of_beq_eq_true e) q
      have hs:c-i=(c-(i+1))+1:=by omega
      rw [hs] at hl
      have ih:=PL (σ:=σ) (h:=h) (l:=l) (i:=i+1) (c:=c) (b:=b) (e:=e) (by omega) (by simpa using hl) he
      cases hx:bn h x with
      | some d=>simp only [dk,hne,cond_false];exact ih
      | none=>exact ih
theorem adQ{σ:Nat→Option Nat}{d:aI}{s:LoopState×Option Code}(h:iz (some d)=some s) :iz (some (nmB σ d))=some s:=by
  cases d with
  | vs l=>cases l with
    | nil=>exact h
    | cons=>cases h
  | fl xs=>exact h
  | rows k m g=>exact h
  | ns=>cases h
  | bs=>cases h
  | ss=>cases h
  | cols=>cases h
structure YOk (y:YI) (k:Nat):Prop where
  lt:y.b<k
  fix:Ow k y.saved=true
structure ZM (y:YI) (k:Nat) (ρ0:ae) (w0:World) (st:aH) (ρ:ae) (a:Act) (w:World):Prop where
  ext:jY ρ0 ρ w0
  wle:gT (ρ0.wm (some y)) w0 w
  sr:SR ρ st a w
  back:∀ b,ρ.ok b→ρ0.ok b∨k≤b
  le:k≤st.next
  pin:mc (some y) ρ w st.heap st.next
theorem ZM.pln{y:YI}{k:Nat}{ρ0 ρ:ae}{w0 w:World}{st st':aH}{a:Act}(hy:YOk y k)(h:ZM y k ρ0 w0 st ρ a w)(hw:H5 st st') :ZM y k ρ0 w0 st' ρ a w:=by
  refine ⟨h.ext,h.wle,hw.sr _ _ _ h.sr,h.back,Nat.le_trans h.le hw.le,?_⟩
  obtain ⟨h1,h2,L,h3,h4,s,pe,h5,h6⟩:=h.pin
  refine ⟨h1,Nat.lt_of_lt_of_le h2 hw.le,L,h3,h4,s,pe,?_,h6⟩
  rw [hw.mark y.b h2 (by rw [h5];rfl)]
  exact h5
theorem ZM.norm{y:YI}{k:Nat}{ρ0 ρ:ae}{w0 w:World}{st:aH}{a:Act}{keep ks:List Nat}(hy:YOk y k)(h0:∀ b,ρ0.ok b→b<k)(hk:Db k keep=true)(h:ZM y k ρ0 w0 st ρ a w) :ZM y k ρ0 w0 (norm keep ks st) (ρ.renamed keep) a w:=by
  have hσ:=adP hk
  have hk':=hk
  unfold Db at hk'
  rw [Bool.and_eq_true] at hk'
  obtain ⟨hn,hid⟩:=hk'
  have idL:∀ {i:Nat},i<k→keep[i]? = some i:=fun q=>by have:=wL hid _ q;simpa using this
  have hlen:k≤keep.length:=by
    rcases Nat.lt_or_ge keep.length k with q | q
    · have:=idL q
      rw [List.getElem?_eq_none (Nat.le_refl _)] at this;cases this
    · exact q
  refine ⟨⟨fun b q=>?_,fun b q=>⟨b,idL (h0 b q),h.ext.ok b q⟩,h.ext.live,h.ext.new,h.ext.out,h.ext.pin⟩,h.wle,⟨h.sr.defers.renamed,XG _ _ h.sr.tmps,aai hn h.sr.heap⟩,fun i q=>?_,hlen,?_⟩
  · rw [Dc (idL (h0 b q))];exact h.ext.at_ b q
  · rcases Nat.lt_or_ge i k with hi | hi
    · obtain ⟨b,q1,q2⟩:=q
      rw [idL hi] at q1;cases q1
      exact h.back i q2
    · exact .inr hi
  · obtain ⟨h1,h2,L,h3,h4,s,pe,h5,rec,r1,r2,r3,r4,r5,r6,r7⟩:=h.pin
    refine ⟨?_,Nat.lt_of_lt_of_le hy.lt hlen,L,h3,h4,s,pe,?_,rec,r1,r2,r3,r4,r5,r6,?_⟩
    · rintro ⟨b,q1,q2⟩
      rw [idL hy.lt] at q1;cases q1
      exact h1 q2
    · cases hg:bn st.heap y.b with
      | none=>rw [hg] at h5;cases h5
      | some d =>
        rw [hg] at h5
        show iz (bn (uY (iU keep 0) st.heap 0 keep) y.b)=_
        rw [PL (Nat.zero_le _) (by rw [Nat.sub_zero];exact idL hy.lt) hg]
        exact adQ h5
    · have:=Gi (keep:=keep) y.saved r7
      rw [BG hσ y.saved hy.fix] at this
      exact this
theorem ZM.ns{y:YI}{k:Nat}{ρ0 ρ:ae}{w0 w:World}{st:aH}{a:Act}{s:NS}(hy:YOk y k)(h0:∀ b,ρ0.ok b→b<k)(hs:s.ok k=true)(h:ZM y k ρ0 w0 st ρ a w) :ZM y k ρ0 w0 (s.on st) (ρ.renamed s.keep) a w:=by
  unfold NS.ok at hs
  rw [Bool.and_eq_true] at hs
  exact (h.pln hy (pb hs.1)).norm hy h0 hs.2
theorem ZM.post{y:YI}{k:Nat}{ρ0 ρ ρ':ae}{w0 w w':World}{st st':aH}{a a':Act}(h:ZM y k ρ0 w0 st ρ a w)(p:lP (some y) ρ w st.next st' ρ' a' w') :ZM y k ρ0 w0 st' ρ' a' w' :=
  ⟨h.ext.trans p.stp.ext h.wle.size,h.wle.trans p.stp.wle (fun x hx q=>aab h.ext hx q),p.sr,fun b q=>by
    rcases p.back b q with q | q
    · exact h.back b q
    · exact .inr (Nat.le_trans h.le q),Nat.le_trans h.le p.le,p.pin⟩
def ry(P:Program)(y:YI)(k:Nat)(cs:List Code)(st:aH)(Q:AE→aH→Prop) :Prop :=
  YOk y k→∀ (ρ0:ae) (w0:World),(∀ b,ρ0.ok b→b<k)→∀ (K:Exit→Act→World→Prop),(∀ e st' ρ' a' w',Q e st'→ZM y k ρ0 w0 st' ρ' a' w'→K e.real a' w')→∀ ρ a w,ZM y k ρ0 w0 st ρ a w→Gm P cs K a w
def Mf:List Code→Bool
  | []=>true
  | c::l=>fH c&&Mf l
theorem WH{P:Program}{self:md}(hself:tT P self){y:YI} :∀ (cs:List Code) {st st':aH} {p p':dY} {e:AE} {obs:List Bool},Mf cs=true→M6 (self (some y)) cs st p=some (e,st',obs,p')→aG obs→∀ {ρ:ae} {a:Act} {w:World} {Q:Exit→Act→World→Prop},SR ρ st a w→mc (some y) ρ w st.heap st.next →
    (∀ ρ' a' w',lP (some y) ρ w st.next st' ρ' a' w'→Q e.real a' w')→Gm P cs Q a w
  | [],st,st',p,p',e,obs,hn,h,ho,ρ,a,w,Q,hs,hp,hQ=>by
    simp only [M6,Option.some.injEq,Prod.mk.injEq] at h;obtain ⟨rfl,rfl,rfl,rfl⟩:=h
    exact hQ ρ a w (lP.refl hs hp)
  | c::l,st,st',p,p',e,obs,hn,h,ho,ρ,a,w,Q,hs,hp,hQ=>by
    simp only [Mf,Bool.and_eq_true] at hn
    simp only [M6] at h
    split at h
    · rename_i st1 o1 p1 h1
      split at h
      case h_2=>cases h
      rename_i e2 vH o2 p2 h2
      simp only [Option.some.injEq,Prod.mk.injEq] at h;obtain ⟨rfl,rfl,rfl,rfl⟩:=h
      rw [bt] at ho
      refine wpIn_wide.1 (hself (some y) c st p _ _ _ _ h1 ho.1 none 0 ρ a w _ (.inl hn.1) hs hp fun ρ1 a1 w1 P1=>?_)
      exact WH hself l hn.2 h2 ho.2 P1.sr P1.pin fun ρ2 a2 w2 P2=>hQ ρ2 a2 w2 (P1.trans P2)
    · rename_i hne
      refine wpIn_wide.1 (hself (some y) c st p _ _ _ _ h ho none 0 ρ a w _ (.inl hn.1) hs hp fun ρ1 a1 w1 P1=>?_)
      have:=hQ ρ1 a1 w1 P1
      cases e with
      | normal=>exact (hne _ _ _ h).elim
      | ret=>exact this
      | exit id=>exact this
theorem ry.ns{P:Program}{y:YI}{k:Nat}{cs:List Code}{st st1:aH}{Q:AE→aH→Prop}(s:NS)(hn:s.ok k=true)(h1:s.on st=st1)(h:ry P y k cs st1 Q) :ry P y k cs st Q :=
  fun hy ρ0 w0 h0 K hK ρ a w hA=>h hy ρ0 w0 h0 K hK _ a w (by rw [←h1];exact hA.ns hy h0 hn)
theorem ry.nil{P:Program}{y:YI}{k:Nat}{st:aH}{Q:AE→aH→Prop}(h:Q .normal st) :ry P y k [] st Q :=
  fun hy ρ0 w0 h0 K hK ρ a w hA=>hK .normal st ρ a w h hA
theorem ry.mono{P:Program}{y:YI}{k:Nat}{cs:List Code}{st:aH}{Q Q':AE→aH→Prop}(hQ:∀ e st,Q e st→Q' e st)(h:ry P y k cs st Q) :ry P y k cs st Q' :=
  fun hy ρ0 w0 h0 K hK ρ a w hA=>h hy ρ0 w0 h0 K (fun e st' ρ' a' w' q hA'=>hK e st' ρ' a' w' (hQ e st' q) hA') ρ a w hA
theorem ry.append{P:Program}{y:YI}{k:Nat}{cs1 cs2:List Code}{st:aH}{Q1 Q:AE→aH→Prop}(h:ry P y k cs1 st Q1)(h2:∀ st',Q1 .normal st'→ry P y k cs2 st' Q)(h3:∀ e st',e ≠ .normal→Q1 e st'→Q e st') :ry P y k (cs1++cs2) st Q:=by
  intro hy ρ0 w0 h0 K hK ρ a w hA
  apply wM
  refine h hy ρ0 w0 h0 _ ?_ ρ a w hA
  intro e st' ρ' a' w' q hA'
  cases e with
  | normal=>exact h2 st' q hy ρ0 w0 h0 K hK ρ' a' w' hA'
  | ret=>exact hK .ret st' ρ' a' w' (h3 _ _ (by simp) q) hA'
  | exit id=>exact hK (.exit id) st' ρ' a' w' (h3 _ _ (by simp) q) hA'
def rT{α X:Type}(P:Program)(y:YI)(k:Nat)(cs:List Code)(st:aH)(m:Option (α⊕X))(N:α→aH)(E:X→AE×aH) :Prop :=
  ∀ r,m=some r→ry P y k cs st fun e st'=>(e,st')=kH N E r
def aaY{α X:Type}(C:tL)(S:vR)(n:Nat)(y:YI)(cs:List Code)(st:aH)(ls:List (Ah (α⊕X)))(ks:List NS)(k:Nat) :List (Bool×Option (AE×aH×List Bool)) :=
  List.zipWith (fun l s=>(s.ok k,TT s (M6 (zS C S 12 n (some y)) cs st (some l.path)))) ls ks
theorem rT.seg{C:tL}(hC:C.Ok){S:vR}(hS:aP C.P S){y:YI}{k:Nat}{α X:Type}(n:Nat)(cs:List Code)(st:aH)(t:T (α⊕X))(N:α→aH)(E:X→AE×aH)(ks:List NS)(hp:Mf cs=true) 
    (h:aaY C S n y cs st t.leaves ks k=JS N E t.leaves):rT C.P y k cs st t.run N E:=by
  intro r hr
  obtain ⟨l,h1,h2,h3⟩:=mP t hr
  obtain ⟨s,hk⟩:=Ra h l h1
  simp only [Prod.mk.injEq] at hk
  obtain ⟨hn,he⟩:=hk
  intro hy ρ0 w0 h0 K hK ρ a w hA
  unfold TT at he
  split at he
  case h_2=>cases he
  rename_i e' vH obs' p' hrun
  simp only [Option.some.injEq,Prod.mk.injEq] at he;obtain ⟨rfl,he2,rfl⟩:=he
  refine WH (tU hC hS 12 n) cs hp hrun h3 hA.sr hA.pin fun ρ' a' w' P1=>?_
  have hA':=(hA.post P1).ns hy h0 hn
  rw [he2] at hA'
  exact hK _ _ _ _ _ (by rw [h2]) hA'
theorem rT.seq{P:Program}{y:YI}{k:Nat}{α β X:Type}{cs1 cs2:List Code}{st:aH}{m:Option (α⊕X)}{N1:α→aH}{E:X→AE×aH}{f:α→Option (β⊕X)}{N:β→aH}(hE:jC E) 
    (h:rT P y k cs1 st m N1 E) (hk:∀ a,rT P y k cs2 (N1 a) (f a) N E):rT P y k (cs1++cs2) st (aU m f) N E:=by
  intro r hr
  unfold aU at hr
  split at hr
  · cases hr
  · rename_i a
    refine ry.append (h _ rfl) (fun st' q=>?_) (fun e st' hne q=>?_)
    · simp only [kH,Prod.mk.injEq] at q
      obtain ⟨_,rfl⟩:=q
      exact hk a r hr
    · simp only [kH,Prod.mk.injEq] at q
      exact (hne q.1).elim
  · rename_i x
    simp only [Option.some.injEq] at hr;subst hr
    refine ry.append (h _ rfl) (fun st' q=>?_) (fun e st' hne q=>q)
    have:=hE x
    simp only [kH] at q
    rw [←q] at this;exact (this rfl).elim
theorem rT.cut{P:Program}{y:YI}{k:Nat}{α β X:Type}{cs:List Code}{st:aH}{m:Option (α⊕X)}{N1:α→aH}{E:X→AE×aH}{f:α→Option (β⊕X)}{N:β→aH}(n:Nat)(hE:jC E) 
    (h:rT P y k (cs.take n) st m N1 E) (hk:∀ a,rT P y k (cs.drop n) (N1 a) (f a) N E):rT P y k cs st (aU m f) N E:=by
  have:=rT.seq hE h hk
  rwa [List.take_append_drop] at this
theorem rT.loop{P:Program}{y:YI}{k:Nat}{σ ρ X:Type}{I:σ→aH}{J:ρ→aH}{E:X→AE×aH}{B:σ→Option (σ⊕(ρ⊕X))}{id:Nat}{b:Code}(hE:jC E)(hI:jZ id E) 
    (hb:∀ s,rT P y k (cJ b) (I s) (B s) I (cx id J E)) (s:σ):rT P y k [.block id (.loop b)] (I s) (dg B s) J E:=by
  intro z hz
  obtain ⟨n,hn⟩:=vV.1 hz
  intro hy ρ0 w0 h0 K hK ρ a w hA
  simp only [Gm]
  refine wp_block ?_
  refine wp_loop_rounds n ?_
  have key:∀ n s,qx B n s=some z→∀ ρ a w,ZM y k ρ0 w0 (I s) ρ a w→Code.rounds P b (Exit.inBlock id fun (e:Exit) a' w'=>match e with | .normal=>K .normal a' w' | e=>K e a' w') n a w:=by
    intro n
    induction n with
    | zero=>intro s h;cases h
    | succ n ih =>
      intro s hs ρ a w hA
      rw [rounds_succ]
      refine pX b ?_
      simp only [qx] at hs
      split at hs
      · cases hs
      · rename_i s' hB
        refine hb s _ hB hy ρ0 w0 h0 _ ?_ ρ a w hA
        intro e st' ρ' a' w' q hA'
        simp only [kH,Prod.mk.injEq] at q
        obtain ⟨rfl,rfl⟩:=q
        exact ih s' hs ρ' a' w' hA'
      · rename_i y' hB
        simp only [Option.some.injEq] at hs;subst hs
        refine hb s _ hB hy ρ0 w0 h0 _ ?_ ρ a w hA
        intro e st' ρ' a' w' q hA'
        cases y' with
        | inl r =>
          simp only [kH,cx,Prod.mk.injEq] at q
          obtain ⟨rfl,rfl⟩:=q
          simp only [AE.real,Exit.then,Exit.inBlock,if_true]
          exact hK .normal _ ρ' a' w' rfl hA'
        | inr x =>
          simp only [kH,cx] at q
          have h1:=hE x
          have h2:=hI x
          rw [←q] at h1 h2
          simp only at h1 h2
          cases e with
          | normal=>exact (h1 rfl).elim
          | ret=>exact hK .ret st' ρ' a' w' (by simpa [kH] using q) hA'
          | exit j =>
            have hj : ¬ j=id:=fun h=>h2 (by rw [h])
            simp only [AE.real,Exit.then,Exit.inBlock,hj,if_false]
            exact hK (.exit j) st' ρ' a' w' (by simpa [kH] using q) hA'
  exact key n s hn ρ a w hA
theorem rT.block{P:Program}{y:YI}{k:Nat}{κ X:Type}{N:κ→aH}{E:X→AE×aH}{m:Option (κ⊕(κ⊕X))}{id:Nat}{b:Code}{st:aH}(hE:jC E)(hI:jZ id E) 
    (hb:rT P y k (cJ b) st m N (cx id N E)):rT P y k [.block id b] st (sQ m) N E:=by
  intro r hr
  unfold sQ at hr
  intro hy ρ0 w0 h0 K hK ρ a w hA
  simp only [Gm]
  refine wp_block (pX b ?_)
  split at hr
  · cases hr
  · simp only [Option.some.injEq] at hr;subst hr
    refine hb _ rfl hy ρ0 w0 h0 _ ?_ ρ a w hA
    intro e st' ρ' a' w' q hA'
    simp only [kH,Prod.mk.injEq] at q
    obtain ⟨rfl,rfl⟩:=q
    exact hK .normal _ ρ' a' w' rfl hA'
  · simp only [Option.some.injEq] at hr;subst hr
    refine hb _ rfl hy ρ0 w0 h0 _ ?_ ρ a w hA
    intro e st' ρ' a' w' q hA'
    simp only [kH,cx,Prod.mk.injEq] at q
    obtain ⟨rfl,rfl⟩:=q
    simp only [AE.real,Exit.inBlock,if_true]
    exact hK .normal _ ρ' a' w' rfl hA'
  · rename_i x
    simp only [Option.some.injEq] at hr;subst hr
    refine hb _ rfl hy ρ0 w0 h0 _ ?_ ρ a w hA
    intro e st' ρ' a' w' q hA'
    simp only [kH,cx] at q
    have h1:=hE x
    have h2:=hI x
    rw [←q] at h1 h2
    simp only at h1 h2
    cases e with
    | normal=>exact (h1 rfl).elim
    | ret=>exact hK .ret st' ρ' a' w' (by simpa [kH] using q) hA'
    | exit j =>
      have hj : ¬ j=id:=fun h=>h2 (by rw [h])
      simp only [AE.real,Exit.inBlock,hj,if_false]
      exact hK (.exit j) st' ρ' a' w' (by simpa [kH] using q) hA'
theorem rT.pre{P:Program}{y:YI}{k:Nat}{α X:Type}{N:α→aH}{E:X→AE×aH}{m:Option (α⊕X)}{cs:List Code}{st st1:aH}(s:NS)(hn:s.ok k=true)(h1:s.on st=st1)(h:rT P y k cs st1 m N E) :rT P y k cs st m N E :=
  fun r hr=>ry.ns s hn h1 (h r hr)
def Fp(st:aH)(x:AE×aH) :Option (AE×aH) :=
  match x.1 with
  | .exit _=>none
  | _=>bif qX x.2.heap then (match ng (iz (bn x.2.heap st.next)) with
    | some e=>some (e,⟨st.tmps,sw x.2.heap st.next,x.2.next⟩)
    | none=>none) else none
theorem R7{st:aH}{e1 e2:AE}{st1 vH:aH}(h:Fp st (e1,st1)=some (e2,vH)) :(∀ id,e1 ≠ .exit id)∧qX st1.heap=true∧ng (iz (bn st1.heap st.next))=some e2∧vH=⟨st.tmps,sw st1.heap st.next,st1.next⟩:=by
  unfold Fp at h
  have key:(∀ id,e1 ≠ .exit id)→(bif qX st1.heap then (match ng (iz (bn st1.heap st.next)) with
    | some e=>some (e,(⟨st.tmps,sw st1.heap st.next,st1.next⟩:aH))
    | none=>none) else none)=some (e2,vH)→(∀ id,e1 ≠ .exit id)∧qX st1.heap=true∧ng (iz (bn st1.heap st.next))=some e2∧vH=⟨st.tmps,sw st1.heap st.next,st1.next⟩:=by
    intro hn h
    cases hc:qX st1.heap with
    | false=>rw [hc] at h;cases h
    | true =>
      rw [hc] at h
      simp only [cond_true] at h
      split at h
      · rename_i q
        simp only [Option.some.injEq,Prod.mk.injEq] at h
        exact ⟨hn,rfl,by rw [q,h.1],h.2.symm⟩
      · cases h
  cases e1 with
  | normal=>exact key (fun id=>by simp) h
  | ret=>exact key (fun id=>by simp) h
  | exit id=>cases h
theorem ZN{C:tL}(hC:C.Ok){lent:List aI}{β Y:Type}{g:Operand}{ps:Array Tmp}{assign body:Code}{cs:List Code}{st:aH}{gf:FuncId}{fn:Func}{c:Code}{first caps:List AV}{m:Option (β⊕Y)}{N':β→aH}{E':Y→AE×aH}{Q:AE→aH→Prop} 
    (hcs:cs=[.rangeFunc g ps assign body]) (hev:W6 st.tmps g=.fn (.func gf) first caps) (hf:C.P.funcs[gf]? = some fn) (hc:fn.body=some c) (hn:fn.results.isEmpty=true) (hfix:Ow (st.next+1) st.tmps=true)
    (h:rT C.P ⟨st.next,st.tmps,ps,assign,body⟩ (st.next+1) (cJ c) (KJ st fn first caps) m N' E') (r0:β⊕Y) (hr0:m=some r0) {e2:AE} {vH:aH} (he:Fp st (kH N' E' r0)=some (e2,vH)) (s:NS) (hs:s.ok lent.length=true) (hQ:Q e2 (s.on vH)):gY C.P lent cs st Q:=by
  intro ρ0 w0 hN K hK a w hA
  subst hcs
  simp only [Gm]
  obtain ⟨ρ,E0,W0,S,hbk,hle⟩:=hA
  generalize hx:kH N' E' r0=x1 at he
  obtain ⟨e1,st1⟩:=x1
  obtain ⟨hne,hcl,hend',rfl⟩:=R7 he
  refine wpIn_wide.1 (O3 (nn:=1) hC hev hf hc hn hne hcl hend' (by rw [E0.pin];exact hN.pin) S (fun ρi wi ai Qi S0 P0 hk0 hQi=>?_) fun ρ' a' w' P1=>?_)
  · refine wpIn_wide.2 (pX c ?_)
    refine h r0 hr0 ⟨Nat.lt_succ_self _,hfix⟩ ρi wi hk0 _ ?_ ρi ai wi ⟨jY.refl _ _,gT.refl _ _,S0,fun b q=>.inl q,Nat.le_refl _,P0⟩
    intro e st' ρ' a' w' q hA'
    rw [hx] at q
    simp only [Prod.mk.injEq] at q
    obtain ⟨rfl,rfl⟩:=q
    exact hQi ρ' a' w' hA'.ext hA'.wle hA'.sr hA'.le hA'.back hA'.pin
  · have hA2:=XM hs _ ρ0 w0 a' w' hN (At.post (st:=st) (a:=a) E0 W0 hbk hle P1.old)
    cases e2 with
    | normal=>exact hK .normal _ a' w' hQ hA2
    | ret=>exact hK .ret _ a' w' hQ hA2
    | exit id=>exact hK (.exit id) _ a' w' hQ hA2
end
end Go.Plb
namespace Go.Plb.Seat
noncomputable section
open Go Go.Plb
set_option linter.unusedVariables false
set_option maxRecDepth 100000
def rgG:List Code→Operand
  | .rangeFunc g _ _ _::_=>g
  | _=>.tmp 0
def rgP:List Code→Array Tmp
  | .rangeFunc _ p _ _::_=>p
  | _=>#[]
def rgA:List Code→Code
  | .rangeFunc _ _ a _::_=>a
  | _=>.skip
def rgB:List Code→Code
  | .rangeFunc _ _ _ b::_=>b
  | _=>.skip
def agd(cs:List Code)(st:aH) :YI:=⟨st.next,st.tmps,rgP cs,rgA cs,rgB cs⟩
def noX:Empty→AE×aH:=fun a=>a.elim
theorem iK:jC noX:=fun a=>a.elim
theorem GZ(id:Nat) :jZ id noX:=fun a=>a.elim
theorem BS{S:vR}(hS:aP prog S){y:YI}{k:Nat}{α X:Type}{cs:List Code}{st:aH}{t:T (α⊕X)}(N:α→aH){E:X→AE×aH}(ks:List NS) 
    (h:aaY C0 S 60 y cs st t.leaves ks k=JS N E t.leaves:=by kernel_rfl) (hp:Mf cs=true:=by kernel_rfl):rT prog y k cs st t.run N E:=rT.seg dW hS 60 cs st t N E ks hp h
theorem aeE{y:YI}{k:Nat}{σ ρ X:Type}{cs:List Code}{st:aH}{E:X→AE×aH}{B:σ→Option (σ⊕(ρ⊕X))}{ent:σ}(s:NS)(I:σ→aH)(J:ρ→aH)(id:Nat)(hE:jC E)(hI:jZ id E) 
    (hb:∀ a,rT prog y k (cJ (dG (cs.headD .skip))) (I a) (B a) I (cx id J E)) (hn:s.ok k=true:=by exact rfl) (h1:s.on st=I ent:=by kernel_rfl) (hcs:cs=[.block id (.loop (dG (cs.headD .skip)))]:=by kernel_rfl) :
    rT prog y k cs st (dg B ent) J E:=rT.pre s hn h1 (by rw [hcs];exact rT.loop hE hI hb ent)
theorem age{y:YI}{k:Nat}{κ X:Type}{cs:List Code}{st:aH}{E:X→AE×aH}{m:Option (κ⊕(κ⊕X))}(K:κ→aH)(id:Nat)(hE:jC E)(hI:jZ id E) 
    (hb:rT prog y k (cJ (inBlock (cs.headD .skip))) st m K (cx id K E)) (hcs:cs=[.block id (inBlock (cs.headD .skip))]:=by kernel_rfl):rT prog y k cs st (sQ m) K E:=by rw [hcs];exact rT.block hE hI hb
def WI(st:aH)(s:NS)(x:AE×aH) :Option (AE×aH) :=
  match Fp st x with
  | some (e,st')=>some (e,s.on st')
  | none=>none
theorem sgr{lent:List aI}{α β X Y:Type}{cs:List Code}{st:aH}{m:Option (β⊕Y)}{E:X→AE×aH}(y:YI)(k:Nat)(gf:FuncId)(first caps:List AV)(N':β→aH)(E':Y→AE×aH)(N:α→aH)(s:β⊕Y→NS)(φ:β⊕Y→α⊕X) 
    (h:rT prog y k (cJ (kF gf)) (KJ st (FN gf) first caps) m N' E') (hs:∀ r,(s r).ok lent.length=true) (hend:∀ r,WI st (s r) (kH N' E' r)=some (kH N E (φ r)))
    (hcs:cs=[.rangeFunc (rgG cs) (rgP cs) (rgA cs) (rgB cs)]:=by kernel_rfl) (hy:y=⟨st.next,st.tmps,rgP cs,rgA cs,rgB cs⟩:=by kernel_rfl) (hk:k=st.next+1:=by kernel_rfl)
    (hev:W6 st.tmps (rgG cs)=.fn (.func gf) first caps:=by kernel_rfl) (hf:prog.funcs[gf]? = some (FN gf):=by kernel_rfl) (hc:(FN gf).body=some (kF gf):=by kernel_rfl) (hn:(FN gf).results.isEmpty=true:=by kernel_rfl)
    (hfix:Ow (st.next+1) st.tmps=true:=by kernel_rfl):Sg prog lent cs st (m.map φ) N E:=by
  intro r hr
  obtain ⟨r0,hr0,rfl⟩:=Option.map_eq_some_iff.1 hr
  subst hk
  subst hy
  have hg:=hend r0
  unfold WI at hg
  split at hg
  case h_2=>cases hg
  rename_i e st' hre
  simp only [Option.some.injEq] at hg
  exact ZN dW hcs hev hf hc hn hfix h r0 hr0 hre (s r0) (hs r0) hg
end
end Go.Plb.Seat
namespace Go.Plb.Seat
open Go Go.Plb
set_option linter.unusedVariables false
set_option maxRecDepth 100000
noncomputable section
inductive dL where
  | r0 (b2:Bool)
def nV:dL→AE×aH
  | .r0 b2=>(.ret,⟨ah 16 [(2,.bool false b2)],[],0⟩)
theorem rl:jC nV:=by intro x;cases x<;>(intro h;cases h)
theorem I8(id:Nat) :jZ id nV:=by intro x;cases x<;>(intro h;cases h)
def sZ:dL→gw
  | .r0 b2=>⟨.bool false b2,[]⟩
noncomputable def I9:List Code:=cJ (kF sL)
def Ja(v_0:Lv)(l_1:List Nat)(_:Unit) :aH:=⟨ah 16 [(5,.imm v_0 (.fl l_1) 1 1 0 (List.length l_1)),(6,.int .i64 (((List.length l_1):Nat):Int)),(7,.int .i64 (0:Int))],[],0⟩
def Jb:T ((Unit)⊕(dL)) :=
  .leaf (.inl ())
def mD(v_0:Lv)(l_1:List Nat)(a1:Nat) :aH:=⟨ah 16 [(5,.imm v_0 (.fl l_1) 1 1 0 (List.length l_1)),(6,.int .i64 (((List.length l_1):Nat):Int)),(7,.int .i64 ((a1:Nat):Int))],[],0⟩
def yN(_:Unit) :aH:=⟨ah 16 [],[],0⟩
noncomputable def Jc:List Code:=cJ (dG ((((I9.drop 2).take 1)).headD .skip))
def jP(l_1:List Nat)(a1:Nat) :T ((Nat)⊕((Unit)⊕(dL))) :=
  .ask (decide (((a1:Nat):Int)<(((List.length l_1):Nat):Int)))
    (.need (fc ((a1:Nat):Int) (List.length l_1))<|.need (eX a1 (List.length l_1))<|.alt 0
      (.need (!isNaN (List.getD l_1 a1 0))<|.need (decide ((0:Int)≤(52:Int)))<|.ask (!((IntKind.i64.wrap (cM .and .u64 (Int.fdiv (((List.getD l_1 a1 0):Nat):Int) (2^(min (Int.toNat (52:Int)) (IntKind.u64.bits)))) (2047:Int))) != (2047:Int)))
        (.leaf (.inr (.inr (.r0 false))))
        (.need (cu .i64 (((a1+1):Nat):Int))<|.leaf (.inl (a1+1))))
      (.alt 1
        (.need (isNaN (List.getD l_1 a1 0))<|.leaf (.inr (.inr (.r0 false))))
        (.fail)))
    (.leaf (.inr (.inl ())))
noncomputable def lz(l_1:List Nat) :Nat→Option ((Nat)⊕((Unit)⊕(dL))):=fun a1 =>
  (jP l_1 a1).run
theorem G0(v_0:Lv)(l_1:List Nat)(a1:Nat) :Sg prog [] Jc (mD v_0 l_1 a1) (lz l_1 a1) (mD v_0 l_1) (cx 0 yN nV):=by
  unfold lz;exact bT JU (mD v_0 l_1) [⟨[],[],[2]⟩,⟨[],[],[5,6,7]⟩,⟨[],[],[2]⟩,⟨[],[],[]⟩]
def G1:T ((Empty)⊕(dL)) :=
  .leaf (.inr (.r0 true))
noncomputable def kR(l_1:List Nat) :Option dL:=lX (aU ((Jb).run) fun _ =>
  aU (dg (lz l_1) 0) fun _ =>
  (G1).run)
theorem Jd(v_0:Lv)(l_1:List Nat){x:dL}(h:kR l_1=some x) :aj prog sL [] [.imm v_0 (.fl l_1) 1 1 0 (List.length l_1)] (sZ x) :=
  ni false sZ nV h (Sg.cut 2 rl (bT JU (Ja v_0 l_1) [⟨[],[],[5,6,7]⟩]) (fun _=>Sg.cut 1 rl (GA ⟨[],[],[5,6,7]⟩ (mD v_0 l_1) (yN) 0 rl (I8 _) (fun a1=>G0 v_0 l_1 a1)) (fun _=>bT JU lQ [⟨[],[],[2]⟩])))
    (fun x=>by cases x with | r0 b2=>exact ln [.bool false b2])
def mE:Option dL→Bool
  | some _=>true
  | none=>false
def nW:Option dL→Bool
  | some (.r0 x)=>x
  | _=>false
theorem Je{x:Option dL}(h:mE x=true) :x=some (.r0 (nW x)):=by
  unfold mE at h
  split at h<;>first | rfl | (cases h;done) | (rename_i y;cases y;rfl)
noncomputable def AG:aF:=cL sL (.cons .fl .nil) fun t=>(fun q=>[⟨sZ (.r0 (nW q)),[mE q]⟩]) (kR t.1.2)
theorem Fq:aV prog AG:=bg fun t=>(be (fun h=>Jd t.1.1 t.1.2 (Je h)) bA)
noncomputable def AH:List aF:=AG::agc
theorem gd:aP prog (aN AH):=ay Fq JU
inductive fC where
  | r0 (a3:Nat)
def xN:fC→AE×aH
  | .r0 a3=>(.ret,⟨ah 31 [(2,.int .i64 ((a3:Nat):Int))],[],0⟩)
theorem qB:jC xN:=by intro x;cases x<;>(intro h;cases h)
theorem WJ(id:Nat) :jZ id xN:=by intro x;cases x<;>(intro h;cases h)
def DL:fC→gw
  | .r0 a3=>⟨.int .i64 ((a3:Nat):Int),[]⟩
noncomputable def WK:List Code:=cJ (kF Di)
def WL(v_0:Lv)(s_1:List Nat)(_:Unit) :aH:=⟨ah 31 [(0,.imm v_0 (.fl s_1) 1 1 0 (List.length s_1)),(5,.imm v_0 (.fl s_1) 1 1 0 (List.length s_1)),(6,.int .i64 (((List.length s_1):Nat):Int)),(7,.int .i64 (0:Int))],[],0⟩
def WM:T ((Unit)⊕(fC)) :=
  .leaf (.inl ())
def ur(v_0:Lv)(s_1:List Nat)(a1:Nat) :aH:=⟨ah 31 [(0,.imm v_0 (.fl s_1) 1 1 0 (List.length s_1)),(5,.imm v_0 (.fl s_1) 1 1 0 (List.length s_1)),(6,.int .i64 (((List.length s_1):Nat):Int)),(7,.int .i64 ((a1:Nat):Int))],[],0⟩
def Iw(v_0:Lv)(s_1:List Nat)(_:Unit) :aH:=⟨ah 31 [(0,.imm v_0 (.fl s_1) 1 1 0 (List.length s_1))],[],0⟩
noncomputable def R8:List Code:=cJ (dG ((((WK.drop 2).take 1)).headD .skip))
def WN(v_0:Lv)(s_1:List Nat)(a1:Nat)(_:Unit) :aH:=⟨ah 31 [(0,.imm v_0 (.fl s_1) 1 1 0 (List.length s_1)),(5,.imm v_0 (.fl s_1) 1 1 0 (List.length s_1)),(6,.int .i64 (((List.length s_1):Nat):Int)),(7,.int .i64 ((a1:Nat):Int))],[],0⟩
def rU(s_1:List Nat)(a1:Nat) :T ((Unit)⊕((Unit)⊕(fC))) :=
  .ask (decide (((a1:Nat):Int)<(((List.length s_1):Nat):Int)))
    (.need (fc ((a1:Nat):Int) (List.length s_1))<|.need (eX a1 (List.length s_1))<|.ask (flt (List.getD s_1 a1 0) 0)
      (.leaf (.inr (.inr (.r0 2))))
      (.ask (decide (((a1:Nat):Int)>(0:Int)))
        (.need (cu .i64 (((a1:Nat):Int)-(1:Int)))<|.need (fc (((a1:Nat):Int)-(1:Int)) (List.length s_1))<|.need (eX (Int.toNat (((a1:Nat):Int)-(1:Int))) (List.length s_1))<|.ask (fgt (List.getD s_1 a1 0) (List.getD s_1 (Int.toNat (((a1:Nat):Int)-(1:Int))) 0))
          (.leaf (.inr (.inr (.r0 2))))
          (.leaf (.inl ())))
        (.leaf (.inl ()))))
    (.leaf (.inr (.inl ())))
def R9(a1:Nat) :T ((Nat)⊕((Unit)⊕(fC))) :=
  .need (cu .i64 (((a1+1):Nat):Int))<|.leaf (.inl (a1+1))
noncomputable def nX(s_1:List Nat) :Nat→Option ((Nat)⊕((Unit)⊕(fC))):=fun a1 =>
  aU ((rU s_1 a1).run) fun _ =>
  (R9 a1).run
theorem Sa(v_0:Lv)(s_1:List Nat)(a1:Nat) :Sg prog [] R8 (ur v_0 s_1 a1) (nX s_1 a1) (ur v_0 s_1) (cx 0 (Iw v_0 s_1) xN):=by
  unfold nX;exact Sg.cut 3 (aM qB) (bT gd (WN v_0 s_1 a1) [⟨[],[],[2]⟩,⟨[],[],[2]⟩,⟨[],[],[0,5,6,7]⟩,⟨[],[],[0,5,6,7]⟩,⟨[],[],[0]⟩]) (fun _=>bT gd (ur v_0 s_1) [⟨[],[],[0,5,6,7]⟩])
def WO(b2:Bool) :aH:=⟨ah 31 [(30,.bool false b2)],[],0⟩
def xO(s_1:List Nat) :T ((Bool)⊕(fC)) :=
  .need (bv 0 (List.length s_1) s_1)<|.need (mE (kR (ab 0 (List.length s_1) s_1)))<|.leaf (.inl (!(nW (kR (ab 0 (List.length s_1) s_1)))))
def Sb(b2:Bool) :T ((Empty)⊕(fC)) :=
  .ask b2
    (.leaf (.inr (.r0 10)))
    (.leaf (.inr (.r0 0)))
noncomputable def ta(s_1:List Nat) :Option fC:=lX (aU ((WM).run) fun _ =>
  aU (dg (nX s_1) 0) fun _ =>
  aU ((xO s_1).run) fun b2 =>
  (Sb b2).run)
theorem WP(v_0:Lv)(s_1:List Nat){x:fC}(h:ta s_1=some x) :aj prog Di [] [.imm v_0 (.fl s_1) 1 1 0 (List.length s_1)] (DL x) :=
  ni false DL xN h (Sg.cut 2 qB (bT gd (WL v_0 s_1) [⟨[],[],[0,5,6,7]⟩]) (fun _=>Sg.cut 1 qB (GA ⟨[],[],[0,5,6,7]⟩ (ur v_0 s_1) (Iw v_0 s_1) 0 qB (WJ _) (fun a1=>Sa v_0 s_1 a1)) (fun _=>Sg.cut 1 qB (bT gd WO [⟨[],[],[30]⟩]) (fun b2=>bT gd lQ [⟨[],[],[2]⟩,⟨[],[],[2]⟩]))))
    (fun x=>by cases x with | r0 a3=>exact ln [.int .i64 ((a3:Nat):Int)])
def ut:Option fC→Bool
  | some _=>true
  | none=>false
def vz:Option fC→Nat
  | some (.r0 x)=>x
  | _=>0
theorem WQ{x:Option fC}(h:ut x=true) :x=some (.r0 (vz x)):=by
  unfold ut at h
  split at h<;>first | rfl | (cases h;done) | (rename_i y;cases y;rfl)
noncomputable def Mg:aF:=cL Di (.cons .fl .nil) fun t=>(fun q=>[⟨DL (.r0 (vz q)),[ut q]⟩]) (ta t.1.2)
theorem Ox:aV prog Mg:=bg fun t=>(be (fun h=>WP t.1.1 t.1.2 (WQ h)) bA)
noncomputable def Mh:List aF:=Mg::AH
theorem qg:aP prog (aN Mh):=ay Ox gd
inductive fS where
  | r0 (b2:Bool)
def uu:fS→AE×aH
  | .r0 b2=>(.ret,⟨ah 18 [(2,.bool false b2)],[],0⟩)
theorem xP:jC uu:=by intro x;cases x<;>(intro h;cases h)
theorem Sc(id:Nat) :jZ id uu:=by intro x;cases x<;>(intro h;cases h)
def AI:fS→gw
  | .r0 b2=>⟨.bool false b2,[]⟩
noncomputable def Sd:List Code:=cJ (kF Ab)
def Se(v_0:Lv)(n_1:List Int)(_:Unit) :aH:=⟨ah 18 [(5,.imm v_0 (.ns .i64 n_1) 1 1 0 (List.length n_1)),(6,.int .i64 (((List.length n_1):Nat):Int)),(7,.int .i64 (0:Int))],[],0⟩
def Sh:T ((Unit)⊕(fS)) :=
  .leaf (.inl ())
def rV(v_0:Lv)(n_1:List Int)(a1:Nat) :aH:=⟨ah 18 [(5,.imm v_0 (.ns .i64 n_1) 1 1 0 (List.length n_1)),(6,.int .i64 (((List.length n_1):Nat):Int)),(7,.int .i64 ((a1:Nat):Int))],[],0⟩
def Fr(_:Unit) :aH:=⟨ah 18 [],[],0⟩
noncomputable def Si:List Code:=cJ (dG ((((Sd.drop 2).take 1)).headD .skip))
def rW(n_1:List Int)(a1:Nat) :T ((Nat)⊕((Unit)⊕(fS))) :=
  .ask (decide (((a1:Nat):Int)<(((List.length n_1):Nat):Int)))
    (.need (fc ((a1:Nat):Int) (List.length n_1))<|.need (eX a1 (List.length n_1))<|.ask (decide ((List.getD n_1 a1 0)<(0:Int)))
      (.leaf (.inr (.inr (.r0 false))))
      (.ask (decide ((List.getD n_1 a1 0)>(512:Int)))
        (.leaf (.inr (.inr (.r0 false))))
        (.need (cu .i64 (((a1+1):Nat):Int))<|.leaf (.inl (a1+1)))))
    (.leaf (.inr (.inl ())))
noncomputable def vA(n_1:List Int) :Nat→Option ((Nat)⊕((Unit)⊕(fS))):=fun a1 =>
  (rW n_1 a1).run
theorem Oy(v_0:Lv)(n_1:List Int)(a1:Nat) :Sg prog [] Si (rV v_0 n_1 a1) (vA n_1 a1) (rV v_0 n_1) (cx 0 Fr uu):=by
  unfold vA;exact bT qg (rV v_0 n_1) [⟨[],[],[2]⟩,⟨[],[],[2]⟩,⟨[],[],[5,6,7]⟩,⟨[],[],[]⟩]
def Oz:T ((Empty)⊕(fS)) :=
  .leaf (.inr (.r0 true))
noncomputable def nj(n_1:List Int) :Option fS:=lX (aU ((Sh).run) fun _ =>
  aU (dg (vA n_1) 0) fun _ =>
  (Oz).run)
theorem Sj(v_0:Lv)(n_1:List Int){x:fS}(h:nj n_1=some x) :aj prog Ab [] [.imm v_0 (.ns .i64 n_1) 1 1 0 (List.length n_1)] (AI x) :=
  ni false AI uu h (Sg.cut 2 xP (bT qg (Se v_0 n_1) [⟨[],[],[5,6,7]⟩]) (fun _=>Sg.cut 1 xP (GA ⟨[],[],[5,6,7]⟩ (rV v_0 n_1) (Fr) 0 xP (Sc _) (fun a1=>Oy v_0 n_1 a1)) (fun _=>bT qg lQ [⟨[],[],[2]⟩])))
    (fun x=>by cases x with | r0 b2=>exact ln [.bool false b2])
def rX:Option fS→Bool
  | some _=>true
  | none=>false
def tc:Option fS→Bool
  | some (.r0 x)=>x
  | _=>false
theorem Sk{x:Option fS}(h:rX x=true) :x=some (.r0 (tc x)):=by
  unfold rX at h
  split at h<;>first | rfl | (cases h;done) | (rename_i y;cases y;rfl)
noncomputable def Ix:aF:=cL Ab (.cons (.ns .i64) .nil) fun t=>(fun q=>[⟨AI (.r0 (tc q)),[rX q]⟩]) (nj t.1.2)
theorem Mi:aV prog Ix:=bg fun t=>(be (fun h=>Sj t.1.1 t.1.2 (Sk h)) bA)
noncomputable def Iy:List aF:=Ix::Mh
theorem td:aP prog (aN Iy):=ay Mi qg
inductive eP where
  | r0
  | r1 (i2:Int) (i3:Int) (a4:Nat) (l5:List Nat)
def Mj:eP→AE×aH
  | .r0=>(.ret,⟨ah 22 [(4,.ptr 0 1 0 0),(5,.int .i64 (2:Int))],[(0,.vs [.nptr,.int .i64 (0:Int),.int .i64 (0:Int),.int .i64 (0:Int),.int .i64 (0:Int),.int .i64 (0:Int)])],1⟩)
  | .r1 i2 i3 a4 l5=>(.ret,⟨ah 22 [(4,.ptr 0 1 0 0),(5,.int .i64 (0:Int))],[(0,.vs [.ptr 1 1 0 0,.int .i64 i2,.int .i64 i3,.int .i64 (0:Int),.int .i64 i3,.int .i64 (1:Int)]),(1,.vs [.sl 2 1 1 0 a4 a4]),(2,.fl l5)],3⟩)
theorem WR:jC Mj:=by intro x;cases x<;>(intro h;cases h)
def xQ:eP→gw
  | .r0=>⟨.tup [.agg [.nptr,.int .i64 (0:Int),.int .i64 (0:Int),.int .i64 (0:Int),.int .i64 (0:Int),.int .i64 (0:Int)],.int .i64 (2:Int)],[]⟩
  | .r1 i2 i3 a4 l5=>⟨.tup [.agg [.ptr 0 1 0 0,.int .i64 i2,.int .i64 i3,.int .i64 (0:Int),.int .i64 i3,.int .i64 (1:Int)],.int .i64 (0:Int)],[some (.vs [.sl 1 1 1 0 a4 a4]),some (.fl l5)]⟩
def WS(rows_0:Int)(cols_1:Int)(b1:Bool) :aH:=⟨ah 22 [(0,.int .i64 rows_0),(1,.int .i64 cols_1),(4,.ptr 0 1 0 0),(10,.bool false b1)],[(0,.vs [.nptr,.int .i64 (0:Int),.int .i64 (0:Int),.int .i64 (0:Int),.int .i64 (0:Int),.int .i64 (0:Int)])],1⟩
def AJ(rows_0:Int)(cols_1:Int) :T ((Bool)⊕(eP)) :=
  .need (bv 0 2 [rows_0,cols_1])<|.need (rX (nj (ab 0 2 [rows_0,cols_1])))<|.leaf (.inl (!(tc (nj (ab 0 2 [rows_0,cols_1])))))
def AL(rows_0:Int)(cols_1:Int)(b1:Bool) :T ((Empty)⊕(eP)) :=
  .ask b1
    (.leaf (.inr (.r0)))
    (.need (cu .i64 (rows_0*cols_1))<|.need (decide ((0:Int)≤(rows_0*cols_1)))<|.need (decide ((rows_0*cols_1)≤(rows_0*cols_1)))<|.need (decide ((8:Int)*(rows_0*cols_1)≤140737488355328))<|.need (cu .i64 (rows_0*cols_1))<|.leaf (.inr (.r1 rows_0 cols_1 (Int.toNat (rows_0*cols_1)) (List.replicate (Int.toNat (rows_0*cols_1)) 0))))
noncomputable def ep(rows_0:Int)(cols_1:Int) :Option eP:=lX (aU ((AJ rows_0 cols_1).run) fun b1 =>
  (AL rows_0 cols_1 b1).run)
theorem Iz(rows_0:Int)(cols_1:Int){x:eP}(h:ep rows_0 cols_1=some x) :aj prog KV [] [.int .i64 rows_0,.int .i64 cols_1] (xQ x) :=
  ni false xQ Mj h (Sg.cut 2 WR (bT td (WS rows_0 cols_1) [⟨[],[0],[0,1,4,10]⟩]) (fun b1=>bT td lQ [⟨[],[0],[4,5]⟩,⟨[],[0,81,49],[4,5]⟩]))
    (fun x=>by cases x with | r0=>exact ln [.agg [.nptr,.int .i64 (0:Int),.int .i64 (0:Int),.int .i64 (0:Int),.int .i64 (0:Int),.int .i64 (0:Int)],.int .i64 (2:Int)] | r1 i2 i3 a4 l5=>exact ln [.agg [.ptr 1 1 0 0,.int .i64 i2,.int .i64 i3,.int .i64 (0:Int),.int .i64 i3,.int .i64 (1:Int)],.int .i64 (0:Int)])
def uv:Option eP→Bool
  | some (.r0)=>true
  | _=>false
theorem WT{x:Option eP}(h:uv x=true) :x=some (.r0):=by
  unfold uv at h
  split at h<;>first | rfl | (cases h;done) | (rename_i y;cases y;rfl)
def qC:Option eP→Bool
  | some (.r1 _ _ _ _)=>true
  | _=>false
def qh:Option eP→Int
  | some (.r1 x _ _ _)=>x
  | _=>0
def qi:Option eP→Int
  | some (.r1 _ x _ _)=>x
  | _=>0
def qj:Option eP→Nat
  | some (.r1 _ _ x _)=>x
  | _=>0
def qk:Option eP→List Nat
  | some (.r1 _ _ _ x)=>x
  | _=>[]
theorem WU{x:Option eP}(h:qC x=true) :x=some (.r1 (qh x) (qi x) (qj x) (qk x)):=by
  unfold qC at h
  split at h<;>first | rfl | (cases h;done) | (rename_i y;cases y;rfl)
noncomputable def Mk:aF:=cL KV (.cons (.int .i64) (.cons (.int .i64) .nil)) fun t=>(fun q=>[⟨xQ (.r0),[uv q]⟩,⟨xQ (.r1 (qh q) (qi q) (qj q) (qk q)),[qC q]⟩]) (ep t.1 t.2.1)
theorem OA:aV prog Mk:=bg fun t=>(be (fun h=>Iz t.1 t.2.1 (WT h)) (be (fun h=>Iz t.1 t.2.1 (WU h)) bA))
noncomputable def Ml:List aF:=Mk::Iy
theorem ql:aP prog (aN Ml):=ay OA td
inductive fD where
  | r0
  | r1 (i5:Int) (i6:Int) (a7:Nat) (l8:List Nat)
def PM:fD→AE×aH
  | .r0=>(.ret,⟨ah 37 [(2,.ptr 0 1 0 0),(3,.int .i64 (2:Int))],[(0,.vs [.nptr,.int .i64 (0:Int),.int .i64 (0:Int),.int .i64 (0:Int),.int .i64 (0:Int),.int .i64 (0:Int)])],1⟩)
  | .r1 i5 i6 a7 l8=>(.ret,⟨ah 37 [(2,.ptr 0 1 0 0),(3,.int .i64 (0:Int))],[(0,.vs [.ptr 1 1 0 0,.int .i64 i5,.int .i64 i6,.int .i64 (0:Int),.int .i64 i6,.int .i64 (1:Int)]),(1,.vs [.sl 2 1 1 0 a7 a7]),(2,.fl l8)],3⟩)
theorem ZO:jC PM:=by intro x;cases x<;>(intro h;cases h)
def BH:fD→gw
  | .r0=>⟨.tup [.agg [.nptr,.int .i64 (0:Int),.int .i64 (0:Int),.int .i64 (0:Int),.int .i64 (0:Int),.int .i64 (0:Int)],.int .i64 (2:Int)],[]⟩
  | .r1 i5 i6 a7 l8=>⟨.tup [.agg [.ptr 0 1 0 0,.int .i64 i5,.int .i64 i6,.int .i64 (0:Int),.int .i64 i6,.int .i64 (1:Int)],.int .i64 (0:Int)],[some (.vs [.sl 1 1 1 0 a7 a7]),some (.fl l8)]⟩
def ZP(m_0:Int)(m_1:Int)(v_2:Lv)(m_3:List Nat)(_:Unit) :aH:=⟨ah 37 [(1,.ptr 0 1 0 0),(2,.ptr 1 1 0 0),(4,.ptr 2 1 0 0),(5,.int .i64 (2:Int))],[(0,.vs [.int .i64 m_0,.int .i64 m_1,.imm v_2 (.fl m_3) 1 1 0 (List.length m_3)]),(1,.vs [.nptr,.int .i64 (0:Int),.int .i64 (0:Int),.int .i64 (0:Int),.int .i64 (0:Int),.int .i64 (0:Int)]),(2,.vs [.nptr,.int .i64 (0:Int),.int .i64 (0:Int),.int .i64 (0:Int),.int .i64 (0:Int),.int .i64 (0:Int)])],3⟩
def ZQ(m_0:Int)(m_1:Int)(v_2:Lv)(m_3:List Nat) :Int×Int×Nat×(List Nat)→aH:=fun (i1,i2,a3,l4)=>⟨ah 37 [(1,.ptr 0 1 0 0),(2,.ptr 1 1 0 0),(4,.ptr 2 1 0 0),(5,.int .i64 (0:Int))],[(0,.vs [.int .i64 m_0,.int .i64 m_1,.imm v_2 (.fl m_3) 1 1 0 (List.length m_3)]),(1,.vs [.nptr,.int .i64 (0:Int),.int .i64 (0:Int),.int .i64 (0:Int),.int .i64 (0:Int),.int .i64 (0:Int)]),(2,.vs [.ptr 3 1 0 0,.int .i64 i1,.int .i64 i2,.int .i64 (0:Int),.int .i64 i2,.int .i64 (1:Int)]),(3,.vs [.sl 4 1 1 0 a3 a3]),(4,.fl l4)],5⟩
def xR(m_0:Int)(m_1:Int) :T (((Unit)⊕((Int×Int×Nat×(List Nat))))⊕(fD)) :=
  .alt 0
    (.need (uv (ep m_0 m_1))<|.leaf (.inl (.inl ())))
    (.alt 1
      (.need (qC (ep m_0 m_1))<|.leaf (.inl (.inr ((qh (ep m_0 m_1)),(qi (ep m_0 m_1)),(qj (ep m_0 m_1)),(qk (ep m_0 m_1))))))
      (.fail))
def ZR:T ((Empty)⊕(fD)) :=
  .ask ((2:Int) != (0:Int))
    (.leaf (.inr (.r0)))
    (.fail)
def te(m_0:Int)(m_1:Int)(m_3:List Nat)(i1:Int)(i2:Int)(a3:Nat)(l4:List Nat) :T ((Empty)⊕(fD)) :=
  .ask ((0:Int) != (0:Int))
    (.fail)
    (.need (cu .i64 (m_0*m_1))<|.ask ((((List.length m_3):Nat):Int) != (m_0*m_1))
      (.leaf (.inr (.r0)))
      (.need (lV (List.length m_3) (List.length m_3))<|.need (lV (0+(Nat.min (List.length m_3) a3)) (List.length l4))<|.need (lV (Nat.min (List.length m_3) a3) (List.length (List.take (List.length m_3) m_3)))<|.leaf (.inr (.r1 i1 i2 a3 (cpL l4 0 (Nat.min (List.length m_3) a3) (List.take (List.length m_3) m_3))))))
noncomputable def bP(m_0:Int)(m_1:Int)(m_3:List Nat) :Option fD:=lX (aU ((xR m_0 m_1).run) (Sum.elim (fun _ =>
  (ZR).run) (fun (i1,i2,a3,l4) =>
  (te m_0 m_1 m_3 i1 i2 a3 l4).run)))
theorem Mm(m_0:Int)(m_1:Int)(v_2:Lv)(m_3:List Nat){x:fD}(h:bP m_0 m_1 m_3=some x) :aj prog Pb [] [.agg [.int .i64 m_0,.int .i64 m_1,.imm v_2 (.fl m_3) 1 1 0 (List.length m_3)]] (BH x) :=
  ni false BH PM h (Sg.cut 2 ZO (bT ql (Sum.elim (ZP m_0 m_1 v_2 m_3) (ZQ m_0 m_1 v_2 m_3)) [⟨[],[0,16,176],[1,2,4,5]⟩,⟨[],[0,16,176,112,113],[1,2,4,5]⟩]) (sga (fun _=>bT ql lQ [⟨[],[1],[2,3]⟩]) (fun ⟨i1,i2,a3,l4⟩=>bT ql lQ [⟨[],[1],[2,3]⟩,⟨[],[1,3,4],[2,3]⟩])))
    (fun x=>by cases x with | r0=>exact ln [.agg [.nptr,.int .i64 (0:Int),.int .i64 (0:Int),.int .i64 (0:Int),.int .i64 (0:Int),.int .i64 (0:Int)],.int .i64 (2:Int)] | r1 i5 i6 a7 l8=>exact ln [.agg [.ptr 1 1 0 0,.int .i64 i5,.int .i64 i6,.int .i64 (0:Int),.int .i64 i6,.int .i64 (1:Int)],.int .i64 (0:Int)])
def pt:Option fD→Bool
  | some (.r0)=>true
  | _=>false
theorem ZS{x:Option fD}(h:pt x=true) :x=some (.r0):=by
  unfold pt at h
  split at h<;>first | rfl | (cases h;done) | (rename_i y;cases y;rfl)
def jj:Option fD→Bool
  | some (.r1 _ _ _ _)=>true
  | _=>false
def jk:Option fD→Int
  | some (.r1 x _ _ _)=>x
  | _=>0
def jl:Option fD→Int
  | some (.r1 _ x _ _)=>x
  | _=>0
def jm:Option fD→Nat
  | some (.r1 _ _ x _)=>x
  | _=>0
def jn:Option fD→List Nat
  | some (.r1 _ _ _ x)=>x
  | _=>[]
theorem ZT{x:Option fD}(h:jj x=true) :x=some (.r1 (jk x) (jl x) (jm x) (jn x)):=by
  unfold jj at h
  split at h<;>first | rfl | (cases h;done) | (rename_i y;cases y;rfl)
noncomputable def PN:aF:=cL Pb (.cons (.agg (.cons (.int .i64) (.cons (.int .i64) (.cons .fl .nil)))) .nil) fun t=>(fun q=>[⟨BH (.r0),[pt q]⟩,⟨BH (.r1 (jk q) (jl q) (jm q) (jn q)),[jj q]⟩]) (bP t.1.1 t.1.2.1 t.1.2.2.1.2)
theorem Sl:aV prog PN:=bg fun t=>(be (fun h=>Mm t.1.1 t.1.2.1 t.1.2.2.1.1 t.1.2.2.1.2 (ZS h)) (be (fun h=>Mm t.1.1 t.1.2.1 t.1.2.2.1.1 t.1.2.2.1.2 (ZT h)) bA))
noncomputable def PO:List aF:=PN::Ml
theorem xS:aP prog (aN PO):=ay Sl ql
inductive cO where
  | r0 (b2:Bool)
def qD:cO→AE×aH
  | .r0 b2=>(.ret,⟨ah 25 [(6,.bool false b2)],[],0⟩)
theorem yU:jC qD:=by intro x;cases x<;>(intro h;cases h)
def kS:cO→gw
  | .r0 b2=>⟨.bool false b2,[]⟩
def yV(b1:Bool) :aH:=⟨ah 25 [(6,.bool false b1)],[],0⟩
def oO(from_0:Int)(n_1:Int)(all_2:Int) :T ((Bool)⊕(cO)) :=
  .ask (decide (from_0≥(0:Int)))
    (.ask (decide (n_1≥(0:Int)))
      (.ask (decide (from_0≤all_2))
        (.need (cu .i64 (all_2-from_0))<|.leaf (.inl (decide (n_1≤(all_2-from_0)))))
        (.leaf (.inl false)))
      (.leaf (.inl false)))
    (.leaf (.inl false))
def yW(b1:Bool) :T ((Empty)⊕(cO)) :=
  .leaf (.inr (.r0 b1))
noncomputable def dM(from_0:Int)(n_1:Int)(all_2:Int) :Option cO:=lX (aU ((oO from_0 n_1 all_2).run) fun b1 =>
  (yW b1).run)
theorem yX(from_0:Int)(n_1:Int)(all_2:Int){x:cO}(h:dM from_0 n_1 all_2=some x) :aj prog qu [] [.int .i64 from_0,.int .i64 n_1,.int .i64 all_2] (kS x) :=
  ni false kS qD h (Sg.cut 2 yU (bT xS yV [⟨[],[],[6]⟩,⟨[],[],[6]⟩,⟨[],[],[6]⟩,⟨[],[],[6]⟩]) (fun b1=>bT xS lQ [⟨[],[],[6]⟩]))
    (fun x=>by cases x with | r0 b2=>exact ln [.bool false b2])
def ff:Option cO→Bool
  | some _=>true
  | none=>false
def gg:Option cO→Bool
  | some (.r0 x)=>x
  | _=>false
theorem yY{x:Option cO}(h:ff x=true) :x=some (.r0 (gg x)):=by
  unfold ff at h
  split at h<;>first | rfl | (cases h;done) | (rename_i y;cases y;rfl)
noncomputable def qE:aF:=cL qu (.cons (.int .i64) (.cons (.int .i64) (.cons (.int .i64) .nil))) fun t=>(fun q=>[⟨kS (.r0 (gg q)),[ff q]⟩]) (dM t.1 t.2.1 t.2.2.1)
theorem wa:aV prog qE:=bg fun t=>(be (fun h=>yX t.1 t.2.1 t.2.2.1 (yY h)) bA)
noncomputable def qF:List aF:=qE::PO
theorem iL:aP prog (aN qF):=ay wa xS
inductive bi where
  | r0 (a2:Nat) (a3:Nat) (l4:List Nat)
  | r1 (a5:Nat) (a6:Nat) (l7:List Nat) (i9:Int) (i10:Int) (i11:Int) (i12:Int) (i13:Int)
def tf:bi→AE×aH
  | .r0 a2 a3 l4=>(.ret,⟨ah 44 [(10,.ptr 2 1 0 0)],[(0,.vs [.sl 1 1 1 0 a2 a3]),(1,.fl l4),(2,.vs [.nptr,.int .i64 (0:Int),.int .i64 (0:Int),.int .i64 (0:Int),.int .i64 (0:Int),.int .i64 (0:Int)])],3⟩)
  | .r1 a5 a6 l7 i9 i10 i11 i12 i13=>(.ret,⟨ah 44 [(10,.ptr 2 1 0 0)],[(0,.vs [.sl 1 1 1 0 a5 a6]),(1,.fl l7),(2,.vs [.ptr 0 1 0 0,.int .i64 i9,.int .i64 i10,.int .i64 i11,.int .i64 i12,.int .i64 i13])],3⟩)
theorem BT:jC tf:=by intro x;cases x<;>(intro h;cases h)
def jo:bi→gw
  | .r0 a2 a3 l4=>⟨.agg [.nptr,.int .i64 (0:Int),.int .i64 (0:Int),.int .i64 (0:Int),.int .i64 (0:Int),.int .i64 (0:Int)],[some (.vs [.sl 1 1 1 0 a2 a3]),some (.fl l4)]⟩
  | .r1 a5 a6 l7 i9 i10 i11 i12 i13=>⟨.agg [.ptr 0 1 0 0,.int .i64 i9,.int .i64 i10,.int .i64 i11,.int .i64 i12,.int .i64 i13],[some (.vs [.sl 1 1 1 0 a5 a6]),some (.fl l7)]⟩
def BU(n_0:Nat)(c_1:Nat)(l_2:List Nat)(v_3:Int)(v_4:Int)(v_5:Int)(v_6:Int)(v_7:Int)(i_8:Int)(j_9:Int)(rows_10:Int)(cols_11:Int)(b1:Bool) :aH:=⟨ah 44 [(1,.int .i64 i_8),(2,.int .i64 j_9),(3,.int .i64 rows_10),(4,.int .i64 cols_11),(5,.ptr 2 1 0 0),(10,.ptr 3 1 0 0),(32,.bool false b1)],[(0,.vs [.sl 1 1 1 0 n_0 c_1]),(1,.fl l_2),(2,.vs [.ptr 0 1 0 0,.int .i64 v_3,.int .i64 v_4,.int .i64 v_5,.int .i64 v_6,.int .i64 v_7]),(3,.vs [.nptr,.int .i64 (0:Int),.int .i64 (0:Int),.int .i64 (0:Int),.int .i64 (0:Int),.int .i64 (0:Int)])],4⟩
def rz(v_3:Int)(v_4:Int)(i_8:Int)(j_9:Int)(rows_10:Int)(cols_11:Int) :T ((Bool)⊕(bi)) :=
  .need (ff (dM i_8 rows_10 v_3))<|.ask (!(gg (dM i_8 rows_10 v_3)))
    (.leaf (.inl true))
    (.need (ff (dM j_9 cols_11 v_4))<|.leaf (.inl (!(gg (dM j_9 cols_11 v_4)))))
def lS(n_0:Nat)(c_1:Nat)(l_2:List Nat)(v_5:Int)(v_6:Int)(v_7:Int)(i_8:Int)(j_9:Int)(rows_10:Int)(cols_11:Int)(b1:Bool) :T ((Empty)⊕(bi)) :=
  .ask b1
    (.leaf (.inr (.r0 n_0 c_1 l_2)))
    (.need (cu .i64 (i_8*v_6))<|.need (cu .i64 (v_5+(i_8*v_6)))<|.need (cu .i64 (j_9*v_7))<|.need (cu .i64 ((v_5+(i_8*v_6))+(j_9*v_7)))<|.leaf (.inr (.r1 n_0 c_1 l_2 rows_10 cols_11 ((v_5+(i_8*v_6))+(j_9*v_7)) v_6 v_7)))
noncomputable def aa(n_0:Nat)(c_1:Nat)(l_2:List Nat)(v_3:Int)(v_4:Int)(v_5:Int)(v_6:Int)(v_7:Int)(i_8:Int)(j_9:Int)(rows_10:Int)(cols_11:Int) :Option bi:=lX (aU ((rz v_3 v_4 i_8 j_9 rows_10 cols_11).run) fun b1 =>
  (lS n_0 c_1 l_2 v_5 v_6 v_7 i_8 j_9 rows_10 cols_11 b1).run)
theorem rA(n_0:Nat)(c_1:Nat)(l_2:List Nat)(v_3:Int)(v_4:Int)(v_5:Int)(v_6:Int)(v_7:Int)(i_8:Int)(j_9:Int)(rows_10:Int)(cols_11:Int){x:bi}(h:aa n_0 c_1 l_2 v_3 v_4 v_5 v_6 v_7 i_8 j_9 rows_10 cols_11=some x) :aj prog mN [.vs [.sl 1 1 1 0 n_0 c_1],.fl l_2] [.agg [.ptr 0 1 0 0,.int .i64 v_3,.int .i64 v_4,.int .i64 v_5,.int .i64 v_6,.int .i64 v_7],.int .i64 i_8,.int .i64 j_9,.int .i64 rows_10,.int .i64 cols_11] (jo x) :=
  ni false jo tf h (Sg.cut 3 BT (bT iL (BU n_0 c_1 l_2 v_3 v_4 v_5 v_6 v_7 i_8 j_9 rows_10 cols_11) [⟨[],[0,1,2,18],[1,2,3,4,5,10,32]⟩,⟨[],[0,1,2,18],[1,2,3,4,5,10,32]⟩]) (fun b1=>bT iL lQ [⟨[],[0,1,3],[10]⟩,⟨[],[0,1,3],[10]⟩]))
    (fun x=>by cases x with | r0 a2 a3 l4=>exact ln [.agg [.nptr,.int .i64 (0:Int),.int .i64 (0:Int),.int .i64 (0:Int),.int .i64 (0:Int),.int .i64 (0:Int)]] | r1 a5 a6 l7 i9 i10 i11 i12 i13=>exact ln [.agg [.ptr 0 1 0 0,.int .i64 i9,.int .i64 i10,.int .i64 i11,.int .i64 i12,.int .i64 i13]])
def lU:Option bi→Bool
  | some (.r0 _ _ _)=>true
  | _=>false
def oP:Option bi→Nat
  | some (.r0 x _ _)=>x
  | _=>0
def oQ:Option bi→Nat
  | some (.r0 _ x _)=>x
  | _=>0
def oR:Option bi→List Nat
  | some (.r0 _ _ x)=>x
  | _=>[]
theorem BV{x:Option bi}(h:lU x=true) :x=some (.r0 (oP x) (oQ x) (oR x)):=by
  unfold lU at h
  split at h<;>first | rfl | (cases h;done) | (rename_i y;cases y;rfl)
def dv:Option bi→Bool
  | some (.r1 _ _ _ _ _ _ _ _)=>true
  | _=>false
def aK:Option bi→Nat
  | some (.r1 x _ _ _ _ _ _ _)=>x
  | _=>0
def bN:Option bi→Nat
  | some (.r1 _ x _ _ _ _ _ _)=>x
  | _=>0
def aL:Option bi→List Nat
  | some (.r1 _ _ x _ _ _ _ _)=>x
  | _=>[]
def aX:Option bi→Int
  | some (.r1 _ _ _ x _ _ _ _)=>x
  | _=>0
def aY:Option bi→Int
  | some (.r1 _ _ _ _ x _ _ _)=>x
  | _=>0
def aZ:Option bi→Int
  | some (.r1 _ _ _ _ _ x _ _)=>x
  | _=>0
def ba:Option bi→Int
  | some (.r1 _ _ _ _ _ _ x _)=>x
  | _=>0
def bb:Option bi→Int
  | some (.r1 _ _ _ _ _ _ _ x)=>x
  | _=>0
theorem BW{x:Option bi}(h:dv x=true) :x=some (.r1 (aK x) (bN x) (aL x) (aX x) (aY x) (aZ x) (ba x) (bb x)):=by
  unfold dv at h
  split at h<;>first | rfl | (cases h;done) | (rename_i y;cases y;rfl)
noncomputable def tg:aF:=Ib mN [.vs [.lsl0 1],.fl] (.cons (.agg (.cons (.lptr 0 1 0 0) (.cons (.int .i64) (.cons (.int .i64) (.cons (.int .i64) (.cons (.int .i64) (.cons (.int .i64) .nil))))))) (.cons (.int .i64) (.cons (.int .i64) (.cons (.int .i64) (.cons (.int .i64) .nil))))) fun x t=>(fun q=>[⟨jo (.r0 (oP q) (oQ q) (oR q)),[lU q]⟩,⟨jo (.r1 (aK q) (bN q) (aL q) (aX q) (aY q) (aZ q) (ba q) (bb q)),[dv q]⟩]) (aa x.1.1.1 x.1.1.2 x.2.1 t.1.2.1 t.1.2.2.1 t.1.2.2.2.1 t.1.2.2.2.2.1 t.1.2.2.2.2.2.1 t.2.1 t.2.2.1 t.2.2.2.1 t.2.2.2.2.1)
theorem yZ:aV prog tg:=vT fun x t=>(nh (fun h=>rA x.1.1.1 x.1.1.2 x.2.1 t.1.2.1 t.1.2.2.1 t.1.2.2.2.1 t.1.2.2.2.2.1 t.1.2.2.2.2.2.1 t.2.1 t.2.2.1 t.2.2.2.1 t.2.2.2.2.1 (BV h)) (nh (fun h=>rA x.1.1.1 x.1.1.2 x.2.1 t.1.2.1 t.1.2.2.1 t.1.2.2.2.1 t.1.2.2.2.2.1 t.1.2.2.2.2.2.1 t.2.1 t.2.2.1 t.2.2.2.1 t.2.2.2.2.1 (BW h)) vU))
noncomputable def th:List aF:=tg::qF
theorem kb:aP prog (aN th):=ay yZ iL
inductive cP where
  | r0 (b2:Bool)
def qG:cP→AE×aH
  | .r0 b2=>(.ret,⟨ah 25 [(6,.bool false b2)],[],0⟩)
theorem za:jC qG:=by intro x;cases x<;>(intro h;cases h)
def kT:cP→gw
  | .r0 b2=>⟨.bool false b2,[]⟩
def zb(b1:Bool) :aH:=⟨ah 25 [(6,.bool false b1)],[],0⟩
def oS(v_3:Int)(v_4:Int)(i_8:Int)(j_9:Int) :T ((Bool)⊕(cP)) :=
  .ask (decide (i_8≥(0:Int)))
    (.ask (decide (i_8<v_3))
      (.ask (decide (j_9≥(0:Int)))
        (.leaf (.inl (decide (j_9<v_4))))
        (.leaf (.inl false)))
      (.leaf (.inl false)))
    (.leaf (.inl false))
def zc(b1:Bool) :T ((Empty)⊕(cP)) :=
  .leaf (.inr (.r0 b1))
noncomputable def au(v_3:Int)(v_4:Int)(i_8:Int)(j_9:Int) :Option cP:=lX (aU ((oS v_3 v_4 i_8 j_9).run) fun b1 =>
  (zc b1).run)
theorem zd(v_0:Lv)(v_1:Lv)(v_2:List Nat)(v_3:Int)(v_4:Int)(v_5:Int)(v_6:Int)(v_7:Int)(i_8:Int)(j_9:Int){x:cP}(h:au v_3 v_4 i_8 j_9=some x) :aj prog qw [] [.agg [.iptr v_0 (.vs [.imm v_1 (.fl v_2) 1 1 0 (List.length v_2)]) 1 0 0,.int .i64 v_3,.int .i64 v_4,.int .i64 v_5,.int .i64 v_6,.int .i64 v_7],.int .i64 i_8,.int .i64 j_9] (kT x) :=
  ni false kT qG h (Sg.cut 2 za (bT kb zb [⟨[],[],[6]⟩,⟨[],[],[6]⟩,⟨[],[],[6]⟩,⟨[],[],[6]⟩]) (fun b1=>bT kb lQ [⟨[],[],[6]⟩]))
    (fun x=>by cases x with | r0 b2=>exact ln [.bool false b2])
def bm:Option cP→Bool
  | some _=>true
  | none=>false
def bf:Option cP→Bool
  | some (.r0 x)=>x
  | _=>false
theorem ze{x:Option cP}(h:bm x=true) :x=some (.r0 (bf x)):=by
  unfold bm at h
  split at h<;>first | rfl | (cases h;done) | (rename_i y;cases y;rfl)
noncomputable def qH:aF:=cL qw (.cons (.agg (.cons (.ivs (.cons .fl .nil) 1 0 0) (.cons (.int .i64) (.cons (.int .i64) (.cons (.int .i64) (.cons (.int .i64) (.cons (.int .i64) .nil))))))) (.cons (.int .i64) (.cons (.int .i64) .nil))) fun t=>(fun q=>[⟨kT (.r0 (bf q)),[bm q]⟩]) (au t.1.2.1 t.1.2.2.1 t.2.1 t.2.2.1)
theorem wb:aV prog qH:=bg fun t=>(be (fun h=>zd t.1.1.1 t.1.1.2.1.1 t.1.1.2.1.2 t.1.2.1 t.1.2.2.1 t.1.2.2.2.1 t.1.2.2.2.2.1 t.1.2.2.2.2.2.1 t.2.1 t.2.2.1 (ze h)) bA)
noncomputable def qI:List aF:=qH::th
theorem bJ:aP prog (aN qI):=ay wb kb
inductive bC where
  | r0 (i57:Int) (i58:Int) (a59:Nat) (a60:Nat) (l61:List Nat)
def kU:bC→AE×aH
  | .r0 i57 i58 a59 a60 l61=>(.ret,⟨ah 22 [(2,.ptr 0 1 0 0)],[(0,.vs [.int .i64 i57,.int .i64 i58,.sl 1 1 1 0 a59 a60]),(1,.fl l61)],2⟩)
theorem ke:jC kU:=by intro x;cases x<;>(intro h;cases h)
theorem zf(id:Nat) :jZ id kU:=by intro x;cases x<;>(intro h;cases h)
def kV:bC→gw
  | .r0 i57 i58 a59 a60 l61=>⟨.agg [.int .i64 i57,.int .i64 i58,.sl 0 1 1 0 a59 a60],[some (.fl l61)]⟩
noncomputable def xT:List Code:=cJ (kF kE)
def oT(v_0:Lv)(v_1:Lv)(v_2:List Nat)(v_3:Int)(v_4:Int)(v_5:Int)(v_6:Int)(v_7:Int)(_:Unit) :aH:=⟨ah 22 [(2,.ptr 0 1 0 0),(3,.ptr 1 1 0 0),(12,.fn (.func eR) [] [.ptr 2 1 0 0])],[(0,.vs [.int .i64 (0:Int),.int .i64 (0:Int),.nsl]),(1,.vs [.int .i64 v_3,.int .i64 v_4,.nsl]),(2,.vs [.iptr v_0 (.vs [.imm v_1 (.fl v_2) 1 1 0 (List.length v_2)]) 1 0 0,.int .i64 v_3,.int .i64 v_4,.int .i64 v_5,.int .i64 v_6,.int .i64 v_7])],3⟩
def xU:T ((Unit)⊕(bC)) :=
  .leaf (.inl ())
def nY(v_3:Int)(v_4:Int) :Nat×Nat×(List Nat)→aH:=fun (a54,a55,l56)=>⟨ah 22 [(2,.ptr 0 1 0 0),(3,.ptr 1 1 0 0)],[(0,.vs [.int .i64 (0:Int),.int .i64 (0:Int),.nsl]),(1,.vs [.int .i64 v_3,.int .i64 v_4,.sl 2 1 1 0 a54 a55]),(2,.fl l56)],3⟩
noncomputable def xV:List Code:=cJ (inBlock ((((xT.drop 3).take 1)).headD .skip))
def jp(v_0:Lv)(v_1:Lv)(v_2:List Nat)(v_3:Int)(v_4:Int)(v_5:Int)(v_6:Int)(v_7:Int) :YI:=agd (xV) (oT v_0 v_1 v_2 v_3 v_4 v_5 v_6 v_7 ())
def nZ(v_0:Lv)(v_1:Lv)(v_2:List Nat)(v_3:Int)(v_4:Int)(v_5:Int)(v_6:Int)(v_7:Int) :Nat×Nat×(List Nat)→aH:=fun (a51,a52,l53)=>⟨ah 27 [],[(0,.vs [.int .i64 (0:Int),.int .i64 (0:Int),.nsl]),(1,.vs [.int .i64 v_3,.int .i64 v_4,.sl 4 1 1 0 a51 a52]),(2,.vs [.iptr v_0 (.vs [.imm v_1 (.fl v_2) 1 1 0 (List.length v_2)]) 1 0 0,.int .i64 v_3,.int .i64 v_4,.int .i64 v_5,.int .i64 v_6,.int .i64 v_7]),(3,.vs []),(4,.fl l53)],5⟩
noncomputable def xW:List Code:=cJ (kF eR)
def zg(v_0:Lv)(v_1:Lv)(v_2:List Nat)(v_3:Int)(v_4:Int)(v_5:Int)(v_6:Int)(v_7:Int)(_:Unit) :aH:=⟨ah 27 [(0,.yld 3),(1,.ptr 2 1 0 0),(6,.int .i64 v_3),(7,.int .i64 (0:Int))],[(0,.vs [.int .i64 (0:Int),.int .i64 (0:Int),.nsl]),(1,.vs [.int .i64 v_3,.int .i64 v_4,.nsl]),(2,.vs [.iptr v_0 (.vs [.imm v_1 (.fl v_2) 1 1 0 (List.length v_2)]) 1 0 0,.int .i64 v_3,.int .i64 v_4,.int .i64 v_5,.int .i64 v_6,.int .i64 v_7]),(3,.vs [])],4⟩
def xX:T ((Unit)⊕(Empty)) :=
  .leaf (.inl ())
def gE(v_0:Lv)(v_1:Lv)(v_2:List Nat)(v_3:Int)(v_4:Int)(v_5:Int)(v_6:Int)(v_7:Int) :Nat×Nat×Nat×(List Nat)→aH:=fun (a30,a31,a32,l33)=>⟨ah 27 [(0,.yld 3),(1,.ptr 2 1 0 0),(6,.int .i64 v_3),(7,.int .i64 ((a30:Nat):Int))],[(0,.vs [.int .i64 (0:Int),.int .i64 (0:Int),.nsl]),(1,.vs [.int .i64 v_3,.int .i64 v_4,.sl 4 1 1 0 a31 a32]),(2,.vs [.iptr v_0 (.vs [.imm v_1 (.fl v_2) 1 1 0 (List.length v_2)]) 1 0 0,.int .i64 v_3,.int .i64 v_4,.int .i64 v_5,.int .i64 v_6,.int .i64 v_7]),(3,.vs []),(4,.fl l33)],5⟩
def jq(v_0:Lv)(v_1:Lv)(v_2:List Nat)(v_3:Int)(v_4:Int)(v_5:Int)(v_6:Int)(v_7:Int) :Nat×Nat×(List Nat)→aH:=fun (a48,a49,l50)=>⟨ah 27 [],[(0,.vs [.int .i64 (0:Int),.int .i64 (0:Int),.nsl]),(1,.vs [.int .i64 v_3,.int .i64 v_4,.sl 4 1 1 0 a48 a49]),(2,.vs [.iptr v_0 (.vs [.imm v_1 (.fl v_2) 1 1 0 (List.length v_2)]) 1 0 0,.int .i64 v_3,.int .i64 v_4,.int .i64 v_5,.int .i64 v_6,.int .i64 v_7]),(3,.vs []),(4,.fl l50)],5⟩
noncomputable def oa:List Code:=cJ (dG ((((xW.drop 1).take 1)).headD .skip))
def xY(v_0:Lv)(v_1:Lv)(v_2:List Nat)(v_3:Int)(v_4:Int)(v_5:Int)(v_6:Int)(v_7:Int)(a30:Nat)(a31:Nat)(a32:Nat)(l33:List Nat)(_:Unit) :aH:=⟨ah 27 [(0,.yld 3),(1,.ptr 2 1 0 0),(6,.int .i64 v_3),(7,.int .i64 ((a30:Nat):Int))],[(0,.vs [.int .i64 (0:Int),.int .i64 (0:Int),.nsl]),(1,.vs [.int .i64 v_3,.int .i64 v_4,.sl 4 1 1 0 a31 a32]),(2,.vs [.iptr v_0 (.vs [.imm v_1 (.fl v_2) 1 1 0 (List.length v_2)]) 1 0 0,.int .i64 v_3,.int .i64 v_4,.int .i64 v_5,.int .i64 v_6,.int .i64 v_7]),(3,.vs []),(4,.fl l33)],5⟩
def xZ(v_3:Int)(a30:Nat)(a31:Nat)(a32:Nat)(l33:List Nat) :T ((Unit)⊕((Nat×Nat×(List Nat))⊕(Empty))) :=
  .ask (decide (((a30:Nat):Int)<v_3))
    (.leaf (.inl ()))
    (.leaf (.inr (.inl (a31,a32,l33))))
def jr(v_0:Lv)(v_1:Lv)(v_2:List Nat)(v_3:Int)(v_4:Int)(v_5:Int)(v_6:Int)(v_7:Int)(a30:Nat) :Nat×Nat×(List Nat)→aH:=fun (a45,a46,l47)=>⟨ah 27 [(0,.yld 3),(1,.ptr 2 1 0 0),(6,.int .i64 v_3),(7,.int .i64 ((a30:Nat):Int))],[(0,.vs [.int .i64 (0:Int),.int .i64 (0:Int),.nsl]),(1,.vs [.int .i64 v_3,.int .i64 v_4,.sl 4 1 1 0 a45 a46]),(2,.vs [.iptr v_0 (.vs [.imm v_1 (.fl v_2) 1 1 0 (List.length v_2)]) 1 0 0,.int .i64 v_3,.int .i64 v_4,.int .i64 v_5,.int .i64 v_6,.int .i64 v_7]),(3,.vs []),(4,.fl l47)],5⟩
noncomputable def ya:List Code:=cJ (inBlock ((((oa.drop 2).take 1)).headD .skip))
def yb(v_0:Lv)(v_1:Lv)(v_2:List Nat)(v_3:Int)(v_4:Int)(v_5:Int)(v_6:Int)(v_7:Int)(a30:Nat)(a31:Nat)(a32:Nat)(l33:List Nat)(_:Unit) :aH:=⟨ah 27 [(0,.yld 3),(1,.ptr 2 1 0 0),(3,.int .i64 ((a30:Nat):Int)),(6,.int .i64 v_3),(7,.int .i64 ((a30:Nat):Int)),(11,.int .i64 v_4),(12,.int .i64 (0:Int))],[(0,.vs [.int .i64 (0:Int),.int .i64 (0:Int),.nsl]),(1,.vs [.int .i64 v_3,.int .i64 v_4,.sl 4 1 1 0 a31 a32]),(2,.vs [.iptr v_0 (.vs [.imm v_1 (.fl v_2) 1 1 0 (List.length v_2)]) 1 0 0,.int .i64 v_3,.int .i64 v_4,.int .i64 v_5,.int .i64 v_6,.int .i64 v_7]),(3,.vs []),(4,.fl l33)],5⟩
def yc:T ((Unit)⊕((Nat×Nat×(List Nat))⊕((Nat×Nat×(List Nat))⊕(Empty)))) :=
  .leaf (.inl ())
def gF(v_0:Lv)(v_1:Lv)(v_2:List Nat)(v_3:Int)(v_4:Int)(v_5:Int)(v_6:Int)(v_7:Int)(a30:Nat) :Nat×Nat×Nat×(List Nat)→aH:=fun (a36,a37,a38,l39)=>⟨ah 27 [(0,.yld 3),(1,.ptr 2 1 0 0),(3,.int .i64 ((a30:Nat):Int)),(6,.int .i64 v_3),(7,.int .i64 ((a30:Nat):Int)),(11,.int .i64 v_4),(12,.int .i64 ((a36:Nat):Int))],[(0,.vs [.int .i64 (0:Int),.int .i64 (0:Int),.nsl]),(1,.vs [.int .i64 v_3,.int .i64 v_4,.sl 4 1 1 0 a37 a38]),(2,.vs [.iptr v_0 (.vs [.imm v_1 (.fl v_2) 1 1 0 (List.length v_2)]) 1 0 0,.int .i64 v_3,.int .i64 v_4,.int .i64 v_5,.int .i64 v_6,.int .i64 v_7]),(3,.vs []),(4,.fl l39)],5⟩
def oc(v_0:Lv)(v_1:Lv)(v_2:List Nat)(v_3:Int)(v_4:Int)(v_5:Int)(v_6:Int)(v_7:Int)(a30:Nat) :Nat×Nat×(List Nat)→aH:=fun (a42,a43,l44)=>⟨ah 27 [(0,.yld 3),(1,.ptr 2 1 0 0),(6,.int .i64 v_3),(7,.int .i64 ((a30:Nat):Int))],[(0,.vs [.int .i64 (0:Int),.int .i64 (0:Int),.nsl]),(1,.vs [.int .i64 v_3,.int .i64 v_4,.sl 4 1 1 0 a42 a43]),(2,.vs [.iptr v_0 (.vs [.imm v_1 (.fl v_2) 1 1 0 (List.length v_2)]) 1 0 0,.int .i64 v_3,.int .i64 v_4,.int .i64 v_5,.int .i64 v_6,.int .i64 v_7]),(3,.vs []),(4,.fl l44)],5⟩
noncomputable def yd:List Code:=cJ (dG ((((ya.drop 2).take 1)).headD .skip))
def ye(v_0:Lv)(v_1:Lv)(v_2:List Nat)(v_3:Int)(v_4:Int)(v_5:Int)(v_6:Int)(v_7:Int)(a30:Nat)(a36:Nat) :Nat×(List Nat)→aH:=fun (a40,l41)=>⟨ah 27 [(0,.yld 3),(1,.ptr 2 1 0 0),(3,.int .i64 ((a30:Nat):Int)),(6,.int .i64 v_3),(7,.int .i64 ((a30:Nat):Int)),(11,.int .i64 v_4),(12,.int .i64 ((a36:Nat):Int))],[(0,.vs [.int .i64 (0:Int),.int .i64 (0:Int),.nsl]),(1,.vs [.int .i64 v_3,.int .i64 v_4,.sl 4 1 1 0 a40 a40]),(2,.vs [.iptr v_0 (.vs [.imm v_1 (.fl v_2) 1 1 0 (List.length v_2)]) 1 0 0,.int .i64 v_3,.int .i64 v_4,.int .i64 v_5,.int .i64 v_6,.int .i64 v_7]),(3,.vs []),(4,.fl l41)],5⟩
def js(v_2:List Nat)(v_3:Int)(v_4:Int)(v_5:Int)(v_6:Int)(v_7:Int)(a30:Nat)(a36:Nat)(a37:Nat)(a38:Nat)(l39:List Nat) :T ((Nat×(List Nat))⊕((Nat×Nat×(List Nat))⊕((Nat×Nat×(List Nat))⊕((Nat×Nat×(List Nat))⊕(Empty))))) :=
  .ask (decide (((a36:Nat):Int)<v_4))
    (.need (bv 0 (List.length v_2) v_2)<|.need (bm (au v_3 v_4 ((a30:Nat):Int) ((a36:Nat):Int)))<|.ask (!(bf (au v_3 v_4 ((a30:Nat):Int) ((a36:Nat):Int))))
      (.fail)
      (.need (cu .i64 (((a30:Nat):Int)*v_6))<|.need (cu .i64 (v_5+(((a30:Nat):Int)*v_6)))<|.need (cu .i64 (((a36:Nat):Int)*v_7))<|.need (cu .i64 ((v_5+(((a30:Nat):Int)*v_6))+(((a36:Nat):Int)*v_7)))<|.need (fc ((v_5+(((a30:Nat):Int)*v_6))+(((a36:Nat):Int)*v_7)) (List.length v_2))<|.need (eX (Int.toNat ((v_5+(((a30:Nat):Int)*v_6))+(((a36:Nat):Int)*v_7))) (List.length v_2))<|.need (lV ((a37+1)*8) 140737488355328)<|.need (lV (a37+1) 9223372036854775807)<|.need (lV 1 1)<|.need (lV a37 (List.length l39))<|.leaf (.inl ((a37+1),((List.take a37 l39)++(List.take 1 [(List.getD v_2 (Int.toNat ((v_5+(((a30:Nat):Int)*v_6))+(((a36:Nat):Int)*v_7))) 0)]))))))
    (.leaf (.inr (.inl (a37,a38,l39))))
def yf(a36:Nat)(a40:Nat)(l41:List Nat) :T ((Nat×Nat×Nat×(List Nat))⊕((Nat×Nat×(List Nat))⊕((Nat×Nat×(List Nat))⊕((Nat×Nat×(List Nat))⊕(Empty))))) :=
  .need (cu .i64 (((a36+1):Nat):Int))<|.leaf (.inl ((a36+1),a40,a40,l41))
noncomputable def jt(v_2:List Nat)(v_3:Int)(v_4:Int)(v_5:Int)(v_6:Int)(v_7:Int)(a30:Nat) :Nat×Nat×Nat×(List Nat)→Option ((Nat×Nat×Nat×(List Nat))⊕((Nat×Nat×(List Nat))⊕((Nat×Nat×(List Nat))⊕((Nat×Nat×(List Nat))⊕(Empty))))):=fun (a36,a37,a38,l39) =>
  aU ((js v_2 v_3 v_4 v_5 v_6 v_7 a30 a36 a37 a38 l39).run) fun (a40,l41) =>
  (yf a36 a40 l41).run
theorem yg(v_0:Lv)(v_1:Lv)(v_2:List Nat)(v_3:Int)(v_4:Int)(v_5:Int)(v_6:Int)(v_7:Int)(a30:Nat)(a36:Nat)(a37:Nat)(a38:Nat)(l39:List Nat) :rT prog (jp v_0 v_1 v_2 v_3 v_4 v_5 v_6 v_7) 4 yd (gF v_0 v_1 v_2 v_3 v_4 v_5 v_6 v_7 a30 (a36,a37,a38,l39)) (jt v_2 v_3 v_4 v_5 v_6 v_7 a30 (a36,a37,a38,l39)) (gF v_0 v_1 v_2 v_3 v_4 v_5 v_6 v_7 a30) (cx 2 (oc v_0 v_1 v_2 v_3 v_4 v_5 v_6 v_7 a30) (cx 1 (jr v_0 v_1 v_2 v_3 v_4 v_5 v_6 v_7 a30) (cx 0 (jq v_0 v_1 v_2 v_3 v_4 v_5 v_6 v_7) noX))):=by
  unfold jt;exact rT.cut 3 (aM (aM (aM iK))) (BS bJ (ye v_0 v_1 v_2 v_3 v_4 v_5 v_6 v_7 a30 a36) [⟨[],[0,1,2,3,293],[0,1,3,6,7,11,12]⟩,⟨[],[0,1,2,3,4],[0,1,6,7]⟩]) (fun ⟨a40,l41⟩=>BS bJ (gF v_0 v_1 v_2 v_3 v_4 v_5 v_6 v_7 a30) [⟨[],[0,1,2,3,4],[0,1,3,6,7,11,12]⟩])
def yh(a42:Nat)(a43:Nat)(l44:List Nat) :T ((Nat×Nat×(List Nat))⊕((Nat×Nat×(List Nat))⊕((Nat×Nat×(List Nat))⊕(Empty)))) :=
  .leaf (.inl (a42,a43,l44))
def yj(a30:Nat)(a45:Nat)(a46:Nat)(l47:List Nat) :T ((Nat×Nat×Nat×(List Nat))⊕((Nat×Nat×(List Nat))⊕(Empty))) :=
  .need (cu .i64 (((a30+1):Nat):Int))<|.leaf (.inl ((a30+1),a45,a46,l47))
noncomputable def ju(v_2:List Nat)(v_3:Int)(v_4:Int)(v_5:Int)(v_6:Int)(v_7:Int) :Nat×Nat×Nat×(List Nat)→Option ((Nat×Nat×Nat×(List Nat))⊕((Nat×Nat×(List Nat))⊕(Empty))):=fun (a30,a31,a32,l33) =>
  aU ((xZ v_3 a30 a31 a32 l33).run) fun _ =>
  aU (sQ (aU ((yc).run) fun _ =>
  aU (dg (jt v_2 v_3 v_4 v_5 v_6 v_7 a30) (0,a31,a32,l33)) fun (a42,a43,l44) =>
  (yh a42 a43 l44).run)) fun (a45,a46,l47) =>
  (yj a30 a45 a46 l47).run
theorem yk(v_0:Lv)(v_1:Lv)(v_2:List Nat)(v_3:Int)(v_4:Int)(v_5:Int)(v_6:Int)(v_7:Int)(a30:Nat)(a31:Nat)(a32:Nat)(l33:List Nat) :rT prog (jp v_0 v_1 v_2 v_3 v_4 v_5 v_6 v_7) 4 oa (gE v_0 v_1 v_2 v_3 v_4 v_5 v_6 v_7 (a30,a31,a32,l33)) (ju v_2 v_3 v_4 v_5 v_6 v_7 (a30,a31,a32,l33)) (gE v_0 v_1 v_2 v_3 v_4 v_5 v_6 v_7) (cx 0 (jq v_0 v_1 v_2 v_3 v_4 v_5 v_6 v_7) noX):=by
  unfold ju;exact rT.cut 2 (aM iK) (BS bJ (xY v_0 v_1 v_2 v_3 v_4 v_5 v_6 v_7 a30 a31 a32 l33) [⟨[],[0,1,2,3,4],[0,1,6,7]⟩,⟨[],[0,1,2,3,4],[]⟩]) (fun _=>rT.cut 1 (aM iK) (age (jr v_0 v_1 v_2 v_3 v_4 v_5 v_6 v_7 a30) 1 (aM iK) (ev (by decide) (GZ _)) (rT.cut 2 (aM (aM iK)) (BS bJ (yb v_0 v_1 v_2 v_3 v_4 v_5 v_6 v_7 a30 a31 a32 l33) [⟨[],[0,1,2,3,4],[0,1,3,6,7,11,12]⟩]) (fun _=>rT.cut 1 (aM (aM iK)) (aeE ⟨[],[0,1,2,3,4],[0,1,3,6,7,11,12]⟩ (gF v_0 v_1 v_2 v_3 v_4 v_5 v_6 v_7 a30) (oc v_0 v_1 v_2 v_3 v_4 v_5 v_6 v_7 a30) 2 (aM (aM iK)) (ev (by decide) (ev (by decide) (GZ _))) (fun ⟨a36,a37,a38,l39⟩=>yg v_0 v_1 v_2 v_3 v_4 v_5 v_6 v_7 a30 a36 a37 a38 l39)) (fun ⟨a42,a43,l44⟩=>BS bJ (jr v_0 v_1 v_2 v_3 v_4 v_5 v_6 v_7 a30) [⟨[],[0,1,2,3,4],[0,1,6,7]⟩])))) (fun ⟨a45,a46,l47⟩=>BS bJ (gE v_0 v_1 v_2 v_3 v_4 v_5 v_6 v_7) [⟨[],[0,1,2,3,4],[0,1,6,7]⟩]))
def yl(a48:Nat)(a49:Nat)(l50:List Nat) :T ((Nat×Nat×(List Nat))⊕(Empty)) :=
  .leaf (.inl (a48,a49,l50))
def ym(v_3:Int)(v_4:Int)(a54:Nat)(a55:Nat)(l56:List Nat) :T ((Empty)⊕(bC)) :=
  .leaf (.inr (.r0 v_3 v_4 a54 a55 l56))
noncomputable def aE(v_2:List Nat)(v_3:Int)(v_4:Int)(v_5:Int)(v_6:Int)(v_7:Int) :Option bC:=lX (aU ((xU).run) fun _ =>
  aU (sQ (Option.map ((Sum.elim (fun (a51,a52,l53)=>.inl (a51,a52,l53)) (fun a:Empty=>a.elim)):(Nat×Nat×(List Nat))⊕(Empty)→(Nat×Nat×(List Nat))⊕((Nat×Nat×(List Nat))⊕(bC))) (aU ((xX).run) fun _ =>
  aU (dg (ju v_2 v_3 v_4 v_5 v_6 v_7) (0,0,0,([]:List Nat))) fun (a48,a49,l50) =>
  (yl a48 a49 l50).run))) fun (a54,a55,l56) =>
  (ym v_3 v_4 a54 a55 l56).run)
theorem zh(v_0:Lv)(v_1:Lv)(v_2:List Nat)(v_3:Int)(v_4:Int)(v_5:Int)(v_6:Int)(v_7:Int){x:bC}(h:aE v_2 v_3 v_4 v_5 v_6 v_7=some x) :aj prog kE [] [.agg [.iptr v_0 (.vs [.imm v_1 (.fl v_2) 1 1 0 (List.length v_2)]) 1 0 0,.int .i64 v_3,.int .i64 v_4,.int .i64 v_5,.int .i64 v_6,.int .i64 v_7]] (kV x) :=
  ni false kV kU h (Sg.cut 3 ke (bT bJ (oT v_0 v_1 v_2 v_3 v_4 v_5 v_6 v_7) [⟨[],[16,112,160],[2,3,12]⟩]) (fun _=>Sg.cut 1 ke (sgb (nY v_3 v_4) 0 ke (zf _) (sgr (jp v_0 v_1 v_2 v_3 v_4 v_5 v_6 v_7) 4 eR [] [.ptr 2 1 0 0] (nZ v_0 v_1 v_2 v_3 v_4 v_5 v_6 v_7) noX (nY v_3 v_4) (Sum.elim (fun _=>⟨[],[0,1,4],[2,3]⟩) (fun a=>a.elim)) ((Sum.elim (fun (a51,a52,l53)=>.inl (a51,a52,l53)) (fun a:Empty=>a.elim)):(Nat×Nat×(List Nat))⊕(Empty)→(Nat×Nat×(List Nat))⊕((Nat×Nat×(List Nat))⊕(bC))) (rT.cut 1 iK (BS bJ (zg v_0 v_1 v_2 v_3 v_4 v_5 v_6 v_7) [⟨[],[0,1,2,3],[0,1,6,7]⟩]) (fun _=>rT.cut 1 iK (aeE ⟨[(.cell 1 2,.own 1 1 (.fl ([]:List Nat)))],[0,1,2,3,4],[0,1,6,7]⟩ (gE v_0 v_1 v_2 v_3 v_4 v_5 v_6 v_7) (jq v_0 v_1 v_2 v_3 v_4 v_5 v_6 v_7) 0 iK (GZ _) (fun ⟨a30,a31,a32,l33⟩=>yk v_0 v_1 v_2 v_3 v_4 v_5 v_6 v_7 a30 a31 a32 l33)) (fun ⟨a48,a49,l50⟩=>BS bJ (nZ v_0 v_1 v_2 v_3 v_4 v_5 v_6 v_7) [⟨[],[0,1,2,3,4],[]⟩]))) (fun | .inl ⟨a51,a52,l53⟩=>by exact rfl | .inr a=>a.elim) (fun | .inl ⟨a51,a52,l53⟩=>by kernel_rfl | .inr a=>a.elim))) (fun ⟨a54,a55,l56⟩=>bT bJ lQ [⟨[],[0,2],[2]⟩])))
    (fun x=>by cases x with | r0 i57 i58 a59 a60 l61=>exact ln [.agg [.int .i64 i57,.int .i64 i58,.sl 1 1 1 0 a59 a60]])
def fg:Option bC→Bool
  | some _=>true
  | none=>false
def cH:Option bC→Int
  | some (.r0 x _ _ _ _)=>x
  | _=>0
def cI:Option bC→Int
  | some (.r0 _ x _ _ _)=>x
  | _=>0
def ca:Option bC→Nat
  | some (.r0 _ _ x _ _)=>x
  | _=>0
def iM:Option bC→Nat
  | some (.r0 _ _ _ x _)=>x
  | _=>0
def cd:Option bC→List Nat
  | some (.r0 _ _ _ _ x)=>x
  | _=>[]
theorem zi{x:Option bC}(h:fg x=true) :x=some (.r0 (cH x) (cI x) (ca x) (iM x) (cd x)):=by
  unfold fg at h
  split at h<;>first | rfl | (cases h;done) | (rename_i y;cases y;rfl)
noncomputable def qJ:aF:=cL kE (.cons (.agg (.cons (.ivs (.cons .fl .nil) 1 0 0) (.cons (.int .i64) (.cons (.int .i64) (.cons (.int .i64) (.cons (.int .i64) (.cons (.int .i64) .nil))))))) .nil) fun t=>(fun q=>[⟨kV (.r0 (cH q) (cI q) (ca q) (iM q) (cd q)),[fg q]⟩]) (aE t.1.1.2.1.2 t.1.2.1 t.1.2.2.1 t.1.2.2.2.1 t.1.2.2.2.2.1 t.1.2.2.2.2.2.1)
theorem wc:aV prog qJ:=bg fun t=>(be (fun h=>zh t.1.1.1 t.1.1.2.1.1 t.1.1.2.1.2 t.1.2.1 t.1.2.2.1 t.1.2.2.2.1 t.1.2.2.2.2.1 t.1.2.2.2.2.2.1 (zi h)) bA)
noncomputable def qK:List aF:=qJ::qI
theorem iN:aP prog (aN qK):=ay wc bJ
inductive ck where
  | r0 (i5:Int) (i6:Int) (a7:Nat) (l8:List Nat)
def ti:ck→AE×aH
  | .r0 i5 i6 a7 l8=>(.ret,⟨ah 16 [(2,.ptr 0 1 0 0)],[(0,.vs [.ptr 1 1 0 0,.int .i64 i5,.int .i64 i6,.int .i64 (0:Int),.int .i64 i6,.int .i64 (1:Int)]),(1,.vs [.sl 2 1 1 0 a7 a7]),(2,.fl l8)],3⟩)
theorem BX:jC ti:=by intro x;cases x<;>(intro h;cases h)
def mT:ck→gw
  | .r0 i5 i6 a7 l8=>⟨.agg [.ptr 0 1 0 0,.int .i64 i5,.int .i64 i6,.int .i64 (0:Int),.int .i64 i6,.int .i64 (1:Int)],[some (.vs [.sl 1 1 1 0 a7 a7]),some (.fl l8)]⟩
def BY:Int×Int×Nat×(List Nat)→aH:=fun (i1,i2,a3,l4)=>⟨ah 16 [(2,.ptr 0 1 0 0),(3,.ptr 1 1 0 0)],[(0,.vs [.nptr,.int .i64 (0:Int),.int .i64 (0:Int),.int .i64 (0:Int),.int .i64 (0:Int),.int .i64 (0:Int)]),(1,.vs [.ptr 2 1 0 0,.int .i64 i1,.int .i64 i2,.int .i64 (0:Int),.int .i64 i2,.int .i64 (1:Int)]),(2,.vs [.sl 3 1 1 0 a3 a3]),(3,.fl l4)],4⟩
def rB(v_2:List Nat)(v_3:Int)(v_4:Int)(v_5:Int)(v_6:Int)(v_7:Int) :T ((Int×Int×Nat×(List Nat))⊕(ck)) :=
  .need (bv 0 (List.length v_2) v_2)<|.need (fg (aE (ab 0 (List.length v_2) v_2) v_3 v_4 v_5 v_6 v_7))<|.alt 1
    (.need (bv 0 (ca (aE (ab 0 (List.length v_2) v_2) v_3 v_4 v_5 v_6 v_7)) (cd (aE (ab 0 (List.length v_2) v_2) v_3 v_4 v_5 v_6 v_7)))<|.need (jj (bP (cH (aE (ab 0 (List.length v_2) v_2) v_3 v_4 v_5 v_6 v_7)) (cI (aE (ab 0 (List.length v_2) v_2) v_3 v_4 v_5 v_6 v_7)) (ab 0 (ca (aE (ab 0 (List.length v_2) v_2) v_3 v_4 v_5 v_6 v_7)) (cd (aE (ab 0 (List.length v_2) v_2) v_3 v_4 v_5 v_6 v_7)))))<|.leaf (.inl ((jk (bP (cH (aE (ab 0 (List.length v_2) v_2) v_3 v_4 v_5 v_6 v_7)) (cI (aE (ab 0 (List.length v_2) v_2) v_3 v_4 v_5 v_6 v_7)) (ab 0 (ca (aE (ab 0 (List.length v_2) v_2) v_3 v_4 v_5 v_6 v_7)) (cd (aE (ab 0 (List.length v_2) v_2) v_3 v_4 v_5 v_6 v_7))))),(jl (bP (cH (aE (ab 0 (List.length v_2) v_2) v_3 v_4 v_5 v_6 v_7)) (cI (aE (ab 0 (List.length v_2) v_2) v_3 v_4 v_5 v_6 v_7)) (ab 0 (ca (aE (ab 0 (List.length v_2) v_2) v_3 v_4 v_5 v_6 v_7)) (cd (aE (ab 0 (List.length v_2) v_2) v_3 v_4 v_5 v_6 v_7))))),(jm (bP (cH (aE (ab 0 (List.length v_2) v_2) v_3 v_4 v_5 v_6 v_7)) (cI (aE (ab 0 (List.length v_2) v_2) v_3 v_4 v_5 v_6 v_7)) (ab 0 (ca (aE (ab 0 (List.length v_2) v_2) v_3 v_4 v_5 v_6 v_7)) (cd (aE (ab 0 (List.length v_2) v_2) v_3 v_4 v_5 v_6 v_7))))),(jn (bP (cH (aE (ab 0 (List.length v_2) v_2) v_3 v_4 v_5 v_6 v_7)) (cI (aE (ab 0 (List.length v_2) v_2) v_3 v_4 v_5 v_6 v_7)) (ab 0 (ca (aE (ab 0 (List.length v_2) v_2) v_3 v_4 v_5 v_6 v_7)) (cd (aE (ab 0 (List.length v_2) v_2) v_3 v_4 v_5 v_6 v_7))))))))
    (.fail)
def BZ(i1:Int)(i2:Int)(a3:Nat)(l4:List Nat) :T ((Empty)⊕(ck)) :=
  .leaf (.inr (.r0 i1 i2 a3 l4))
noncomputable def bj(v_2:List Nat)(v_3:Int)(v_4:Int)(v_5:Int)(v_6:Int)(v_7:Int) :Option ck:=lX (aU ((rB v_2 v_3 v_4 v_5 v_6 v_7).run) fun (i1,i2,a3,l4) =>
  (BZ i1 i2 a3 l4).run)
theorem B1(v_0:Lv)(v_1:Lv)(v_2:List Nat)(v_3:Int)(v_4:Int)(v_5:Int)(v_6:Int)(v_7:Int){x:ck}(h:bj v_2 v_3 v_4 v_5 v_6 v_7=some x) :aj prog sN [] [.agg [.iptr v_0 (.vs [.imm v_1 (.fl v_2) 1 1 0 (List.length v_2)]) 1 0 0,.int .i64 v_3,.int .i64 v_4,.int .i64 v_5,.int .i64 v_6,.int .i64 v_7]] (mT x) :=
  ni false mT ti h (Sg.cut 4 BX (bT iN BY [⟨[],[16,176,112,113],[2,3]⟩]) (fun ⟨i1,i2,a3,l4⟩=>bT iN lQ [⟨[],[0,2,3],[2]⟩]))
    (fun x=>by cases x with | r0 i5 i6 a7 l8=>exact ln [.agg [.ptr 1 1 0 0,.int .i64 i5,.int .i64 i6,.int .i64 (0:Int),.int .i64 i6,.int .i64 (1:Int)]])
def eU:Option ck→Bool
  | some _=>true
  | none=>false
def fh:Option ck→Int
  | some (.r0 x _ _ _)=>x
  | _=>0
def fi:Option ck→Int
  | some (.r0 _ x _ _)=>x
  | _=>0
def fj:Option ck→Nat
  | some (.r0 _ _ x _)=>x
  | _=>0
def fk:Option ck→List Nat
  | some (.r0 _ _ _ x)=>x
  | _=>[]
theorem B2{x:Option ck}(h:eU x=true) :x=some (.r0 (fh x) (fi x) (fj x) (fk x)):=by
  unfold eU at h
  split at h<;>first | rfl | (cases h;done) | (rename_i y;cases y;rfl)
noncomputable def tj:aF:=cL sN (.cons (.agg (.cons (.ivs (.cons .fl .nil) 1 0 0) (.cons (.int .i64) (.cons (.int .i64) (.cons (.int .i64) (.cons (.int .i64) (.cons (.int .i64) .nil))))))) .nil) fun t=>(fun q=>[⟨mT (.r0 (fh q) (fi q) (fj q) (fk q)),[eU q]⟩]) (bj t.1.1.2.1.2 t.1.2.1 t.1.2.2.1 t.1.2.2.2.1 t.1.2.2.2.2.1 t.1.2.2.2.2.2.1)
theorem zj:aV prog tj:=bg fun t=>(be (fun h=>B1 t.1.1.1 t.1.1.2.1.1 t.1.1.2.1.2 t.1.2.1 t.1.2.2.1 t.1.2.2.2.1 t.1.2.2.2.2.1 t.1.2.2.2.2.2.1 (B2 h)) bA)
noncomputable def tk:List aF:=tj::qK
theorem kf:aP prog (aN tk):=ay zj iN
inductive cQ where
  | r0 (b2:Bool)
def qL:cQ→AE×aH
  | .r0 b2=>(.ret,⟨ah 26 [(2,.bool false b2)],[],0⟩)
theorem zk:jC qL:=by intro x;cases x<;>(intro h;cases h)
def kW:cQ→gw
  | .r0 b2=>⟨.bool false b2,[]⟩
def zl(b1:Bool) :aH:=⟨ah 26 [(2,.bool false b1)],[],0⟩
def oU(v_3:Int)(v_4:Int) :T ((Bool)⊕(cQ)) :=
  .ask (v_3==(1:Int))
    (.leaf (.inl true))
    (.ask (v_4==(1:Int))
      (.leaf (.inl true))
      (.ask (v_3==(0:Int))
        (.leaf (.inl (v_4==(0:Int))))
        (.leaf (.inl false))))
def zm(b1:Bool) :T ((Empty)⊕(cQ)) :=
  .leaf (.inr (.r0 b1))
noncomputable def bc(v_3:Int)(v_4:Int) :Option cQ:=lX (aU ((oU v_3 v_4).run) fun b1 =>
  (zm b1).run)
theorem zn(v_0:Lv)(v_1:Lv)(v_2:List Nat)(v_3:Int)(v_4:Int)(v_5:Int)(v_6:Int)(v_7:Int){x:cQ}(h:bc v_3 v_4=some x) :aj prog qv [] [.agg [.iptr v_0 (.vs [.imm v_1 (.fl v_2) 1 1 0 (List.length v_2)]) 1 0 0,.int .i64 v_3,.int .i64 v_4,.int .i64 v_5,.int .i64 v_6,.int .i64 v_7]] (kW x) :=
  ni false kW qL h (Sg.cut 2 zk (bT kf zl [⟨[],[],[2]⟩,⟨[],[],[2]⟩,⟨[],[],[2]⟩,⟨[],[],[2]⟩]) (fun b1=>bT kf lQ [⟨[],[],[2]⟩]))
    (fun x=>by cases x with | r0 b2=>exact ln [.bool false b2])
def cj:Option cQ→Bool
  | some _=>true
  | none=>false
def cg:Option cQ→Bool
  | some (.r0 x)=>x
  | _=>false
theorem zo{x:Option cQ}(h:cj x=true) :x=some (.r0 (cg x)):=by
  unfold cj at h
  split at h<;>first | rfl | (cases h;done) | (rename_i y;cases y;rfl)
noncomputable def qM:aF:=cL qv (.cons (.agg (.cons (.ivs (.cons .fl .nil) 1 0 0) (.cons (.int .i64) (.cons (.int .i64) (.cons (.int .i64) (.cons (.int .i64) (.cons (.int .i64) .nil))))))) .nil) fun t=>(fun q=>[⟨kW (.r0 (cg q)),[cj q]⟩]) (bc t.1.2.1 t.1.2.2.1)
theorem wd:aV prog qM:=bg fun t=>(be (fun h=>zn t.1.1.1 t.1.1.2.1.1 t.1.1.2.1.2 t.1.2.1 t.1.2.2.1 t.1.2.2.2.1 t.1.2.2.2.2.1 t.1.2.2.2.2.2.1 (zo h)) bA)
noncomputable def qN:List aF:=qM::tk
theorem ez:aP prog (aN qN):=ay wd kf
inductive bX where
  | r0 (a5:Nat) (a6:Nat) (a7:Nat) (l8:List Nat)
def uw:bX→AE×aH
  | .r0 a5 a6 a7 l8=>(.ret,⟨ah 28 [(6,.int .i64 ((a5:Nat):Int))],[(0,.vs [.sl 1 1 1 0 a6 a7]),(1,.fl l8)],2⟩)
theorem mU:jC uw:=by intro x;cases x<;>(intro h;cases h)
def od:bX→gw
  | .r0 a5 a6 a7 l8=>⟨.int .i64 ((a5:Nat):Int),[some (.vs [.sl 1 1 1 0 a6 a7]),some (.fl l8)]⟩
def DM(n_0:Nat)(c_1:Nat)(l_2:List Nat)(v_3:Int)(v_4:Int)(v_5:Int)(v_6:Int)(v_7:Int)(i_8:Int)(x_9:Nat)(b1:Bool) :aH:=⟨ah 28 [(1,.int .i64 i_8),(2,.flt false x_9),(3,.ptr 2 1 0 0),(16,.bool false b1)],[(0,.vs [.sl 1 1 1 0 n_0 c_1]),(1,.fl l_2),(2,.vs [.ptr 0 1 0 0,.int .i64 v_3,.int .i64 v_4,.int .i64 v_5,.int .i64 v_6,.int .i64 v_7])],3⟩
def tl(n_0:Nat)(l_2:List Nat)(v_3:Int)(v_4:Int) :T ((Bool)⊕(bX)) :=
  .need (bv 0 n_0 l_2)<|.need (cj (bc v_3 v_4))<|.leaf (.inl (!(cg (bc v_3 v_4))))
def DN(n_0:Nat)(c_1:Nat)(l_2:List Nat)(v_3:Int)(v_4:Int)(v_5:Int)(v_6:Int)(v_7:Int)(x_9:Nat) :Int×Int→aH:=fun (r2,c3)=>⟨ah 28 [(2,.flt false x_9),(3,.ptr 2 1 0 0),(7,.int .i64 r2),(8,.int .i64 c3)],[(0,.vs [.sl 1 1 1 0 n_0 c_1]),(1,.fl l_2),(2,.vs [.ptr 0 1 0 0,.int .i64 v_3,.int .i64 v_4,.int .i64 v_5,.int .i64 v_6,.int .i64 v_7])],3⟩
def DO(n_0:Nat)(c_1:Nat)(l_2:List Nat)(v_3:Int)(i_8:Int)(b1:Bool) :T ((Int×Int)⊕(bX)) :=
  .ask b1
    (.leaf (.inr (.r0 8 n_0 c_1 l_2)))
    (.ask (v_3==(1:Int))
      (.leaf (.inl ((0:Int),i_8)))
      (.leaf (.inl (i_8,(0:Int)))))
def DP(n_0:Nat)(c_1:Nat)(l4:(List Nat)) :aH:=⟨ah 28 [(6,.int .i64 (0:Int))],[(0,.vs [.sl 1 1 1 0 n_0 c_1]),(1,.fl l4)],2⟩
def hD(n_0:Nat)(l_2:List Nat)(v_3:Int)(v_4:Int)(v_5:Int)(v_6:Int)(v_7:Int)(x_9:Nat)(r2:Int)(c3:Int) :T (((List Nat))⊕(bX)) :=
  .need (bv 0 n_0 l_2)<|.need (bm (au v_3 v_4 r2 c3))<|.ask (!(bf (au v_3 v_4 r2 c3)))
    (.fail)
    (.need (cu .i64 (r2*v_6))<|.need (cu .i64 (v_5+(r2*v_6)))<|.need (cu .i64 (c3*v_7))<|.need (cu .i64 ((v_5+(r2*v_6))+(c3*v_7)))<|.need (fc ((v_5+(r2*v_6))+(c3*v_7)) n_0)<|.need (eX (Int.toNat ((v_5+(r2*v_6))+(c3*v_7))) (List.length l_2))<|.leaf (.inl (List.set l_2 (Int.toNat ((v_5+(r2*v_6))+(c3*v_7))) x_9)))
def DQ(n_0:Nat)(c_1:Nat)(l4:List Nat) :T ((Empty)⊕(bX)) :=
  .leaf (.inr (.r0 0 n_0 c_1 l4))
noncomputable def bG(n_0:Nat)(c_1:Nat)(l_2:List Nat)(v_3:Int)(v_4:Int)(v_5:Int)(v_6:Int)(v_7:Int)(i_8:Int)(x_9:Nat) :Option bX:=lX (aU ((tl n_0 l_2 v_3 v_4).run) fun b1 =>
  aU ((DO n_0 c_1 l_2 v_3 i_8 b1).run) fun (r2,c3) =>
  aU ((hD n_0 l_2 v_3 v_4 v_5 v_6 v_7 x_9 r2 c3).run) fun l4 =>
  (DQ n_0 c_1 l4).run)
theorem DR(n_0:Nat)(c_1:Nat)(l_2:List Nat)(v_3:Int)(v_4:Int)(v_5:Int)(v_6:Int)(v_7:Int)(i_8:Int)(x_9:Nat){x:bX}(h:bG n_0 c_1 l_2 v_3 v_4 v_5 v_6 v_7 i_8 x_9=some x) :aj prog fY [.vs [.sl 1 1 1 0 n_0 c_1],.fl l_2] [.agg [.ptr 0 1 0 0,.int .i64 v_3,.int .i64 v_4,.int .i64 v_5,.int .i64 v_6,.int .i64 v_7],.int .i64 i_8,.flt false x_9] (od x) :=
  ni false od uw h (Sg.cut 2 mU (bT ez (DM n_0 c_1 l_2 v_3 v_4 v_5 v_6 v_7 i_8 x_9) [⟨[],[0,1,2],[1,2,3,16]⟩]) (fun b1=>Sg.cut 2 mU (bT ez (DN n_0 c_1 l_2 v_3 v_4 v_5 v_6 v_7 x_9) [⟨[],[0,1],[6]⟩,⟨[],[0,1,2],[2,3,7,8]⟩,⟨[],[0,1,2],[2,3,7,8]⟩]) (fun ⟨r2,c3⟩=>Sg.cut 1 mU (bT ez (DP n_0 c_1) [⟨[],[0,1],[6]⟩]) (fun l4=>bT ez lQ [⟨[],[0,1],[6]⟩]))))
    (fun x=>by cases x with | r0 a5 a6 a7 l8=>exact ln [.int .i64 ((a5:Nat):Int)])
def fE:Option bX→Bool
  | some _=>true
  | none=>false
def qO:Option bX→Nat
  | some (.r0 x _ _ _)=>x
  | _=>0
def fT:Option bX→Nat
  | some (.r0 _ x _ _)=>x
  | _=>0
def fU:Option bX→Nat
  | some (.r0 _ _ x _)=>x
  | _=>0
def fV:Option bX→List Nat
  | some (.r0 _ _ _ x)=>x
  | _=>[]
theorem DS{x:Option bX}(h:fE x=true) :x=some (.r0 (qO x) (fT x) (fU x) (fV x)):=by
  unfold fE at h
  split at h<;>first | rfl | (cases h;done) | (rename_i y;cases y;rfl)
noncomputable def ux:aF:=Ib fY [.vs [.lsl0 1],.fl] (.cons (.agg (.cons (.lptr 0 1 0 0) (.cons (.int .i64) (.cons (.int .i64) (.cons (.int .i64) (.cons (.int .i64) (.cons (.int .i64) .nil))))))) (.cons (.int .i64) (.cons (.flt false) .nil))) fun x t=>(fun q=>[⟨od (.r0 (qO q) (fT q) (fU q) (fV q)),[fE q]⟩]) (bG x.1.1.1 x.1.1.2 x.2.1 t.1.2.1 t.1.2.2.1 t.1.2.2.2.1 t.1.2.2.2.2.1 t.1.2.2.2.2.2.1 t.2.1 t.2.2.1)
theorem AM:aV prog ux:=vT fun x t=>(nh (fun h=>DR x.1.1.1 x.1.1.2 x.2.1 t.1.2.1 t.1.2.2.1 t.1.2.2.2.1 t.1.2.2.2.2.1 t.1.2.2.2.2.2.1 t.2.1 t.2.2.1 (DS h)) vU)
noncomputable def uy:List aF:=ux::qN
theorem fW:aP prog (aN uy):=ay AM ez
inductive aC where
  | r0 (a6:Nat)
def bQ:aC→AE×aH
  | .r0 a6=>(.ret,⟨ah 29 [(8,.flt false a6)],[],0⟩)
theorem bK:jC bQ:=by intro x;cases x<;>(intro h;cases h)
theorem gG(id:Nat) :jZ id bQ:=by intro x;cases x<;>(intro h;cases h)
def cv:aC→gw
  | .r0 a6=>⟨.flt false a6,[]⟩
noncomputable def gH:List Code:=cJ (kF ve)
def gI(from_0:Int)(to_1:Int)(v_2:Lv)(v_3:Lv)(x_4:List Nat)(x_5:Int)(x_6:Int)(x_7:Int)(x_8:Int)(x_9:Int)(v_10:Lv)(v_11:Lv)(y_12:List Nat)(y_13:Int)(y_14:Int)(y_15:Int)(y_16:Int)(y_17:Int)(_:Unit) :aH:=⟨ah 29 [(1,.int .i64 to_1),(2,.fn (.func dc) [.agg [.iptr v_2 (.vs [.imm v_3 (.fl x_4) 1 1 0 (List.length x_4)]) 1 0 0,.int .i64 x_5,.int .i64 x_6,.int .i64 x_7,.int .i64 x_8,.int .i64 x_9]] []),(3,.fn (.func dc) [.agg [.iptr v_10 (.vs [.imm v_11 (.fl y_12) 1 1 0 (List.length y_12)]) 1 0 0,.int .i64 y_13,.int .i64 y_14,.int .i64 y_15,.int .i64 y_16,.int .i64 y_17]] []),(9,.flt false 0),(10,.int .i64 from_0)],[],0⟩
def gJ:T ((Unit)⊕(aC)) :=
  .leaf (.inl ())
def bL(to_1:Int)(v_2:Lv)(v_3:Lv)(x_4:List Nat)(x_5:Int)(x_6:Int)(x_7:Int)(x_8:Int)(x_9:Int)(v_10:Lv)(v_11:Lv)(y_12:List Nat)(y_13:Int)(y_14:Int)(y_15:Int)(y_16:Int)(y_17:Int) :Nat×Int→aH:=fun (acc2,k3)=>⟨ah 29 [(1,.int .i64 to_1),(2,.fn (.func dc) [.agg [.iptr v_2 (.vs [.imm v_3 (.fl x_4) 1 1 0 (List.length x_4)]) 1 0 0,.int .i64 x_5,.int .i64 x_6,.int .i64 x_7,.int .i64 x_8,.int .i64 x_9]] []),(3,.fn (.func dc) [.agg [.iptr v_10 (.vs [.imm v_11 (.fl y_12) 1 1 0 (List.length y_12)]) 1 0 0,.int .i64 y_13,.int .i64 y_14,.int .i64 y_15,.int .i64 y_16,.int .i64 y_17]] []),(9,.flt false acc2),(10,.int .i64 k3)],[],0⟩
def dB(acc5:Nat) :aH:=⟨ah 29 [(9,.flt false acc5)],[],0⟩
noncomputable def gl:List Code:=cJ (dG ((((gH.drop 3).take 1)).headD .skip))
def gK(to_1:Int)(v_2:Lv)(v_3:Lv)(x_4:List Nat)(x_5:Int)(x_6:Int)(x_7:Int)(x_8:Int)(x_9:Int)(v_10:Lv)(v_11:Lv)(y_12:List Nat)(y_13:Int)(y_14:Int)(y_15:Int)(y_16:Int)(y_17:Int)(k3:Int)(acc4:Nat) :aH:=⟨ah 29 [(1,.int .i64 to_1),(2,.fn (.func dc) [.agg [.iptr v_2 (.vs [.imm v_3 (.fl x_4) 1 1 0 (List.length x_4)]) 1 0 0,.int .i64 x_5,.int .i64 x_6,.int .i64 x_7,.int .i64 x_8,.int .i64 x_9]] []),(3,.fn (.func dc) [.agg [.iptr v_10 (.vs [.imm v_11 (.fl y_12) 1 1 0 (List.length y_12)]) 1 0 0,.int .i64 y_13,.int .i64 y_14,.int .i64 y_15,.int .i64 y_16,.int .i64 y_17]] []),(9,.flt false acc4),(10,.int .i64 k3)],[],0⟩
def cr(to_1:Int)(x_4:List Nat)(x_5:Int)(x_6:Int)(x_7:Int)(x_8:Int)(x_9:Int)(y_12:List Nat)(y_13:Int)(y_14:Int)(y_15:Int)(y_16:Int)(y_17:Int)(acc2:Nat)(k3:Int) :T ((Nat)⊕((Nat)⊕(aC))) :=
  .ask (decide (k3<to_1))
    (.need (bv 0 (List.length x_4) x_4)<|.need (cj (bc x_5 x_6))<|.ask (!(cg (bc x_5 x_6)))
      (.need (bv 0 (List.length y_12) y_12)<|.need (cj (bc y_13 y_14))<|.ask (!(cg (bc y_13 y_14)))
        (.leaf (.inl (tM acc2 (mK 0 0))))
        (.ask (y_13==(1:Int))
          (.need (bv 0 (List.length y_12) y_12)<|.need (bm (au y_13 y_14 (0:Int) k3))<|.ask (!(bf (au y_13 y_14 (0:Int) k3)))
            (.fail)
            (.need (cu .i64 ((0:Int)*y_16))<|.need (cu .i64 (y_15+((0:Int)*y_16)))<|.need (cu .i64 (k3*y_17))<|.need (cu .i64 ((y_15+((0:Int)*y_16))+(k3*y_17)))<|.need (fc ((y_15+((0:Int)*y_16))+(k3*y_17)) (List.length y_12))<|.need (eX (Int.toNat ((y_15+((0:Int)*y_16))+(k3*y_17))) (List.length y_12))<|.leaf (.inl (tM acc2 (mK 0 (List.getD y_12 (Int.toNat ((y_15+((0:Int)*y_16))+(k3*y_17))) 0))))))
          (.need (bv 0 (List.length y_12) y_12)<|.need (bm (au y_13 y_14 k3 (0:Int)))<|.ask (!(bf (au y_13 y_14 k3 (0:Int))))
            (.fail)
            (.need (cu .i64 (k3*y_16))<|.need (cu .i64 (y_15+(k3*y_16)))<|.need (cu .i64 ((0:Int)*y_17))<|.need (cu .i64 ((y_15+(k3*y_16))+((0:Int)*y_17)))<|.need (fc ((y_15+(k3*y_16))+((0:Int)*y_17)) (List.length y_12))<|.need (eX (Int.toNat ((y_15+(k3*y_16))+((0:Int)*y_17))) (List.length y_12))<|.leaf (.inl (tM acc2 (mK 0 (List.getD y_12 (Int.toNat ((y_15+(k3*y_16))+((0:Int)*y_17))) 0))))))))
      (.ask (x_5==(1:Int))
        (.need (bv 0 (List.length x_4) x_4)<|.need (bm (au x_5 x_6 (0:Int) k3))<|.ask (!(bf (au x_5 x_6 (0:Int) k3)))
          (.fail)
          (.need (cu .i64 ((0:Int)*x_8))<|.need (cu .i64 (x_7+((0:Int)*x_8)))<|.need (cu .i64 (k3*x_9))<|.need (cu .i64 ((x_7+((0:Int)*x_8))+(k3*x_9)))<|.need (fc ((x_7+((0:Int)*x_8))+(k3*x_9)) (List.length x_4))<|.need (eX (Int.toNat ((x_7+((0:Int)*x_8))+(k3*x_9))) (List.length x_4))<|.need (bv 0 (List.length y_12) y_12)<|.need (cj (bc y_13 y_14))<|.ask (!(cg (bc y_13 y_14)))
            (.leaf (.inl (tM acc2 (mK (List.getD x_4 (Int.toNat ((x_7+((0:Int)*x_8))+(k3*x_9))) 0) 0))))
            (.ask (y_13==(1:Int))
              (.need (bv 0 (List.length y_12) y_12)<|.need (bm (au y_13 y_14 (0:Int) k3))<|.ask (!(bf (au y_13 y_14 (0:Int) k3)))
                (.fail)
                (.need (cu .i64 ((0:Int)*y_16))<|.need (cu .i64 (y_15+((0:Int)*y_16)))<|.need (cu .i64 (k3*y_17))<|.need (cu .i64 ((y_15+((0:Int)*y_16))+(k3*y_17)))<|.need (fc ((y_15+((0:Int)*y_16))+(k3*y_17)) (List.length y_12))<|.need (eX (Int.toNat ((y_15+((0:Int)*y_16))+(k3*y_17))) (List.length y_12))<|.leaf (.inl (tM acc2 (mK (List.getD x_4 (Int.toNat ((x_7+((0:Int)*x_8))+(k3*x_9))) 0) (List.getD y_12 (Int.toNat ((y_15+((0:Int)*y_16))+(k3*y_17))) 0))))))
              (.need (bv 0 (List.length y_12) y_12)<|.need (bm (au y_13 y_14 k3 (0:Int)))<|.ask (!(bf (au y_13 y_14 k3 (0:Int))))
                (.fail)
                (.need (cu .i64 (k3*y_16))<|.need (cu .i64 (y_15+(k3*y_16)))<|.need (cu .i64 ((0:Int)*y_17))<|.need (cu .i64 ((y_15+(k3*y_16))+((0:Int)*y_17)))<|.need (fc ((y_15+(k3*y_16))+((0:Int)*y_17)) (List.length y_12))<|.need (eX (Int.toNat ((y_15+(k3*y_16))+((0:Int)*y_17))) (List.length y_12))<|.leaf (.inl (tM acc2 (mK (List.getD x_4 (Int.toNat ((x_7+((0:Int)*x_8))+(k3*x_9))) 0) (List.getD y_12 (Int.toNat ((y_15+(k3*y_16))+((0:Int)*y_17))) 0)))))))))
        (.need (bv 0 (List.length x_4) x_4)<|.need (bm (au x_5 x_6 k3 (0:Int)))<|.ask (!(bf (au x_5 x_6 k3 (0:Int))))
          (.fail)
          (.need (cu .i64 (k3*x_8))<|.need (cu .i64 (x_7+(k3*x_8)))<|.need (cu .i64 ((0:Int)*x_9))<|.need (cu .i64 ((x_7+(k3*x_8))+((0:Int)*x_9)))<|.need (fc ((x_7+(k3*x_8))+((0:Int)*x_9)) (List.length x_4))<|.need (eX (Int.toNat ((x_7+(k3*x_8))+((0:Int)*x_9))) (List.length x_4))<|.need (bv 0 (List.length y_12) y_12)<|.need (cj (bc y_13 y_14))<|.ask (!(cg (bc y_13 y_14)))
            (.leaf (.inl (tM acc2 (mK (List.getD x_4 (Int.toNat ((x_7+(k3*x_8))+((0:Int)*x_9))) 0) 0))))
            (.ask (y_13==(1:Int))
              (.need (bv 0 (List.length y_12) y_12)<|.need (bm (au y_13 y_14 (0:Int) k3))<|.ask (!(bf (au y_13 y_14 (0:Int) k3)))
                (.fail)
                (.need (cu .i64 ((0:Int)*y_16))<|.need (cu .i64 (y_15+((0:Int)*y_16)))<|.need (cu .i64 (k3*y_17))<|.need (cu .i64 ((y_15+((0:Int)*y_16))+(k3*y_17)))<|.need (fc ((y_15+((0:Int)*y_16))+(k3*y_17)) (List.length y_12))<|.need (eX (Int.toNat ((y_15+((0:Int)*y_16))+(k3*y_17))) (List.length y_12))<|.leaf (.inl (tM acc2 (mK (List.getD x_4 (Int.toNat ((x_7+(k3*x_8))+((0:Int)*x_9))) 0) (List.getD y_12 (Int.toNat ((y_15+((0:Int)*y_16))+(k3*y_17))) 0))))))
              (.need (bv 0 (List.length y_12) y_12)<|.need (bm (au y_13 y_14 k3 (0:Int)))<|.ask (!(bf (au y_13 y_14 k3 (0:Int))))
                (.fail)
                (.need (cu .i64 (k3*y_16))<|.need (cu .i64 (y_15+(k3*y_16)))<|.need (cu .i64 ((0:Int)*y_17))<|.need (cu .i64 ((y_15+(k3*y_16))+((0:Int)*y_17)))<|.need (fc ((y_15+(k3*y_16))+((0:Int)*y_17)) (List.length y_12))<|.need (eX (Int.toNat ((y_15+(k3*y_16))+((0:Int)*y_17))) (List.length y_12))<|.leaf (.inl (tM acc2 (mK (List.getD x_4 (Int.toNat ((x_7+(k3*x_8))+((0:Int)*x_9))) 0) (List.getD y_12 (Int.toNat ((y_15+(k3*y_16))+((0:Int)*y_17))) 0)))))))))))
    (.leaf (.inr (.inl acc2)))
def gn(k3:Int)(acc4:Nat) :T ((Nat×Int)⊕((Nat)⊕(aC))) :=
  .need (cu .i64 (k3+(1:Int)))<|.leaf (.inl (acc4,(k3+(1:Int))))
noncomputable def ct(to_1:Int)(x_4:List Nat)(x_5:Int)(x_6:Int)(x_7:Int)(x_8:Int)(x_9:Int)(y_12:List Nat)(y_13:Int)(y_14:Int)(y_15:Int)(y_16:Int)(y_17:Int) :Nat×Int→Option ((Nat×Int)⊕((Nat)⊕(aC))):=fun (acc2,k3) =>
  aU ((cr to_1 x_4 x_5 x_6 x_7 x_8 x_9 y_12 y_13 y_14 y_15 y_16 y_17 acc2 k3).run) fun acc4 =>
  (gn k3 acc4).run
theorem gp(to_1:Int)(v_2:Lv)(v_3:Lv)(x_4:List Nat)(x_5:Int)(x_6:Int)(x_7:Int)(x_8:Int)(x_9:Int)(v_10:Lv)(v_11:Lv)(y_12:List Nat)(y_13:Int)(y_14:Int)(y_15:Int)(y_16:Int)(y_17:Int)(acc2:Nat)(k3:Int) :Sg prog [] gl (bL to_1 v_2 v_3 x_4 x_5 x_6 x_7 x_8 x_9 v_10 v_11 y_12 y_13 y_14 y_15 y_16 y_17 (acc2,k3)) (ct to_1 x_4 x_5 x_6 x_7 x_8 x_9 y_12 y_13 y_14 y_15 y_16 y_17 (acc2,k3)) (bL to_1 v_2 v_3 x_4 x_5 x_6 x_7 x_8 x_9 v_10 v_11 y_12 y_13 y_14 y_15 y_16 y_17) (cx 0 dB bQ):=by
  unfold ct;exact Sg.cut 3 (aM bK) (bT fW (gK to_1 v_2 v_3 x_4 x_5 x_6 x_7 x_8 x_9 v_10 v_11 y_12 y_13 y_14 y_15 y_16 y_17 k3) [⟨[],[],[1,2,3,9,10]⟩,⟨[],[],[1,2,3,9,10]⟩,⟨[],[],[1,2,3,9,10]⟩,⟨[],[],[1,2,3,9,10]⟩,⟨[],[],[1,2,3,9,10]⟩,⟨[],[],[1,2,3,9,10]⟩,⟨[],[],[1,2,3,9,10]⟩,⟨[],[],[1,2,3,9,10]⟩,⟨[],[],[1,2,3,9,10]⟩,⟨[],[],[9]⟩]) (fun acc4=>bT fW (bL to_1 v_2 v_3 x_4 x_5 x_6 x_7 x_8 x_9 v_10 v_11 y_12 y_13 y_14 y_15 y_16 y_17) [⟨[],[],[1,2,3,9,10]⟩])
def gq(acc5:Nat) :T ((Empty)⊕(aC)) :=
  .leaf (.inr (.r0 acc5))
noncomputable def bk(from_0:Int)(to_1:Int)(x_4:List Nat)(x_5:Int)(x_6:Int)(x_7:Int)(x_8:Int)(x_9:Int)(y_12:List Nat)(y_13:Int)(y_14:Int)(y_15:Int)(y_16:Int)(y_17:Int) :Option aC:=lX (aU ((gJ).run) fun _ =>
  aU (dg (ct to_1 x_4 x_5 x_6 x_7 x_8 x_9 y_12 y_13 y_14 y_15 y_16 y_17) (0,from_0)) fun acc5 =>
  (gq acc5).run)
theorem gL(from_0:Int)(to_1:Int)(v_2:Lv)(v_3:Lv)(x_4:List Nat)(x_5:Int)(x_6:Int)(x_7:Int)(x_8:Int)(x_9:Int)(v_10:Lv)(v_11:Lv)(y_12:List Nat)(y_13:Int)(y_14:Int)(y_15:Int)(y_16:Int)(y_17:Int){x:aC}(h:bk from_0 to_1 x_4 x_5 x_6 x_7 x_8 x_9 y_12 y_13 y_14 y_15 y_16 y_17=some x) :aj prog ve [] [.int .i64 from_0,.int .i64 to_1,.fn (.func dc) [.agg [.iptr v_2 (.vs [.imm v_3 (.fl x_4) 1 1 0 (List.length x_4)]) 1 0 0,.int .i64 x_5,.int .i64 x_6,.int .i64 x_7,.int .i64 x_8,.int .i64 x_9]] [],.fn (.func dc) [.agg [.iptr v_10 (.vs [.imm v_11 (.fl y_12) 1 1 0 (List.length y_12)]) 1 0 0,.int .i64 y_13,.int .i64 y_14,.int .i64 y_15,.int .i64 y_16,.int .i64 y_17]] []] (cv x) :=
  ni false cv bQ h (Sg.cut 3 bK (bT fW (gI from_0 to_1 v_2 v_3 x_4 x_5 x_6 x_7 x_8 x_9 v_10 v_11 y_12 y_13 y_14 y_15 y_16 y_17) [⟨[],[],[1,2,3,9,10]⟩]) (fun _=>Sg.cut 1 bK (GA ⟨[],[],[1,2,3,9,10]⟩ (bL to_1 v_2 v_3 x_4 x_5 x_6 x_7 x_8 x_9 v_10 v_11 y_12 y_13 y_14 y_15 y_16 y_17) (dB) 0 bK (gG _) (fun ⟨acc2,k3⟩=>gp to_1 v_2 v_3 x_4 x_5 x_6 x_7 x_8 x_9 v_10 v_11 y_12 y_13 y_14 y_15 y_16 y_17 acc2 k3)) (fun acc5=>bT fW lQ [⟨[],[],[8]⟩])))
    (fun x=>by cases x with | r0 a6=>exact ln [.flt false a6])
def bM:Option aC→Bool
  | some _=>true
  | none=>false
def cm:Option aC→Nat
  | some (.r0 x)=>x
  | _=>0
theorem gM{x:Option aC}(h:bM x=true) :x=some (.r0 (cm x)):=by
  unfold bM at h
  split at h<;>first | rfl | (cases h;done) | (rename_i y;cases y;rfl)
noncomputable def dD:aF:=cL ve (.cons (.int .i64) (.cons (.int .i64) (.cons (.fn dc (.cons (.agg (.cons (.ivs (.cons .fl .nil) 1 0 0) (.cons (.int .i64) (.cons (.int .i64) (.cons (.int .i64) (.cons (.int .i64) (.cons (.int .i64) .nil))))))) .nil) .nil) (.cons (.fn dc (.cons (.agg (.cons (.ivs (.cons .fl .nil) 1 0 0) (.cons (.int .i64) (.cons (.int .i64) (.cons (.int .i64) (.cons (.int .i64) (.cons (.int .i64) .nil))))))) .nil) .nil) .nil)))) fun t=>(fun q=>[⟨cv (.r0 (cm q)),[bM q]⟩]) (bk t.1 t.2.1 t.2.2.1.1.1.1.2.1.2 t.2.2.1.1.1.2.1 t.2.2.1.1.1.2.2.1 t.2.2.1.1.1.2.2.2.1 t.2.2.1.1.1.2.2.2.2.1 t.2.2.1.1.1.2.2.2.2.2.1 t.2.2.2.1.1.1.1.2.1.2 t.2.2.2.1.1.1.2.1 t.2.2.2.1.1.1.2.2.1 t.2.2.2.1.1.1.2.2.2.1 t.2.2.2.1.1.1.2.2.2.2.1 t.2.2.2.1.1.1.2.2.2.2.2.1)
theorem gk:aV prog dD:=bg fun t=>(be (fun h=>gL t.1 t.2.1 t.2.2.1.1.1.1.1 t.2.2.1.1.1.1.2.1.1 t.2.2.1.1.1.1.2.1.2 t.2.2.1.1.1.2.1 t.2.2.1.1.1.2.2.1 t.2.2.1.1.1.2.2.2.1 t.2.2.1.1.1.2.2.2.2.1 t.2.2.1.1.1.2.2.2.2.2.1 t.2.2.2.1.1.1.1.1 t.2.2.2.1.1.1.1.2.1.1 t.2.2.2.1.1.1.1.2.1.2 t.2.2.2.1.1.1.2.1 t.2.2.2.1.1.1.2.2.1 t.2.2.2.1.1.1.2.2.2.1 t.2.2.2.1.1.1.2.2.2.2.1 t.2.2.2.1.1.1.2.2.2.2.2.1 (gM h)) bA)
noncomputable def dE:List aF:=dD::uy
theorem ap:aP prog (aN dE):=ay gk fW
inductive bF where
  | r0 (a105:Nat) (a106:Nat) (a107:Nat) (l108:List Nat) (a109:Nat) (a110:Nat) (l111:List Nat) (a112:Nat) (a113:Nat) (l114:List Nat)
def tm:bF→AE×aH
  | .r0 a105 a106 a107 l108 a109 a110 l111 a112 a113 l114=>(.ret,⟨ah 54 [(10,.int .i64 ((a105:Nat):Int))],[(0,.vs [.sl 1 1 1 0 a106 a107]),(1,.fl l108),(2,.vs [.sl 3 1 1 0 a109 a110]),(3,.fl l111),(4,.vs [.sl 5 1 1 0 a112 a113]),(5,.fl l114)],6⟩)
theorem jQ:jC tm:=by intro x;cases x<;>(intro h;cases h)
theorem Jf(id:Nat) :jZ id tm:=by intro x;cases x<;>(intro h;cases h)
def tn:bF→gw
  | .r0 a105 a106 a107 l108 a109 a110 l111 a112 a113 l114=>⟨.int .i64 ((a105:Nat):Int),[some (.vs [.sl 1 1 1 0 a106 a107]),some (.fl l108),some (.vs [.sl 3 1 1 0 a109 a110]),some (.fl l111),some (.vs [.sl 5 1 1 0 a112 a113]),some (.fl l114)]⟩
noncomputable def G2:List Code:=cJ (kF nH)
def Jg(n_0:Nat)(c_1:Nat)(l_2:List Nat)(n_3:Nat)(c_4:Nat)(l_5:List Nat)(n_6:Nat)(c_7:Nat)(l_8:List Nat)(a_9:Nat)(m_10:Int)(m_11:Int)(m_12:Int)(m_13:Int)(m_14:Int)(n_15:Int)(n_16:Int)(n_17:Int)(n_18:Int)(n_19:Int)(b_20:Nat)(o_21:Int)(o_22:Int)(o_23:Int)(o_24:Int)(o_25:Int)(e1:Nat) :aH:=⟨ah 54 [(5,.ptr 6 1 0 0),(6,.ptr 7 1 0 0),(7,.ptr 8 1 0 0),(8,.ptr 9 1 0 0),(9,.ptr 10 1 0 0),(11,.int .i64 ((e1:Nat):Int))],[(0,.vs [.sl 1 1 1 0 n_0 c_1]),(1,.fl l_2),(2,.vs [.sl 3 1 1 0 n_3 c_4]),(3,.fl l_5),(4,.vs [.sl 5 1 1 0 n_6 c_7]),(5,.fl l_8),(6,.vs [.flt false a_9]),(7,.vs [.ptr 0 1 0 0,.int .i64 m_10,.int .i64 m_11,.int .i64 m_12,.int .i64 m_13,.int .i64 m_14]),(8,.vs [.ptr 2 1 0 0,.int .i64 n_15,.int .i64 n_16,.int .i64 n_17,.int .i64 n_18,.int .i64 n_19]),(9,.vs [.flt false b_20]),(10,.vs [.ptr 4 1 0 0,.int .i64 o_21,.int .i64 o_22,.int .i64 o_23,.int .i64 o_24,.int .i64 o_25])],11⟩
def we(m_10 : Int)(m_11 : Int)(n_15 : Int)(n_16 : Int)(o_21 : Int)(o_22 : Int) : T ((Nat) ⊕ (bF)) :=
  .ask (decide ((0:Int)<(3:Int)))
    (.need (fc (0 : Int) 3) <| .ask (!(false == true))
      (.need (cu .i64 (1:Int))<|.ask (decide ((1:Int)<(3:Int)))
        (.need (fc (1:Int) 3)<|.ask (!(false==true))
          (.need (cu .i64 (2:Int))<|.ask (decide ((2:Int)<(3:Int)))
            (.need (fc (2:Int) 3)<|.ask (!(false==true))
              (.need (cu .i64 (3:Int))<|.ask (decide ((3:Int)<(3:Int)))
                (.fail)
                (.ask (m_11==n_15)
                  (.ask (o_21==m_10)
                    (.ask (!(o_22==n_16))
                      (.leaf (.inl 8))
                      (.leaf (.inl 0)))
                    (.leaf (.inl 8)))
                  (.leaf (.inl 8))))
              (.fail))
            (.fail))
          (.fail))
        (.fail))
      (.fail))
    (.fail)
def Jh(n_0:Nat)(c_1:Nat)(l_2:List Nat)(n_3:Nat)(c_4:Nat)(l_5:List Nat)(n_6:Nat)(c_7:Nat)(l_8:List Nat)(a_9:Nat)(b_20:Nat)(o_21:Int)(o_22:Int)(o_23:Int)(o_24:Int)(o_25:Int) :Int×Int×Int×Int×Nat×Nat×(List Nat)×(List Nat)→aH:=fun (i2,i3,i4,i5,a6,a7,l8,l9)=>⟨ah 54 [(5,.ptr 6 1 0 0),(6,.ptr 7 1 0 0),(7,.ptr 8 1 0 0),(8,.ptr 9 1 0 0),(9,.ptr 10 1 0 0)],[(0,.vs [.sl 1 1 1 0 n_0 c_1]),(1,.fl l_2),(2,.vs [.sl 3 1 1 0 n_3 c_4]),(3,.fl l_5),(4,.vs [.sl 5 1 1 0 n_6 c_7]),(5,.fl l_8),(6,.vs [.flt false a_9]),(7,.vs [.ptr 11 1 0 0,.int .i64 i2,.int .i64 i3,.int .i64 (0:Int),.int .i64 i3,.int .i64 (1:Int)]),(8,.vs [.ptr 12 1 0 0,.int .i64 i4,.int .i64 i5,.int .i64 (0:Int),.int .i64 i5,.int .i64 (1:Int)]),(9,.vs [.flt false b_20]),(10,.vs [.ptr 4 1 0 0,.int .i64 o_21,.int .i64 o_22,.int .i64 o_23,.int .i64 o_24,.int .i64 o_25]),(11,.vs [.sl 13 1 1 0 a6 a6]),(12,.vs [.sl 14 1 1 0 a7 a7]),(13,.fl l8),(14,.fl l9)],15⟩
def wg(n_0:Nat)(c_1:Nat)(l_2:List Nat)(n_3:Nat)(c_4:Nat)(l_5:List Nat)(n_6:Nat)(c_7:Nat)(l_8:List Nat)(m_10:Int)(m_11:Int)(m_12:Int)(m_13:Int)(m_14:Int)(n_15:Int)(n_16:Int)(n_17:Int)(n_18:Int)(n_19:Int)(e1:Nat) :T ((Int×Int×Int×Int×Nat×Nat×(List Nat)×(List Nat))⊕(bF)) :=
  .ask (((e1:Nat):Int) != (0:Int))
    (.leaf (.inr (.r0 e1 n_0 c_1 l_2 n_3 c_4 l_5 n_6 c_7 l_8)))
    (.need (bv 0 n_0 l_2)<|.need (eU (bj (ab 0 n_0 l_2) m_10 m_11 m_12 m_13 m_14))<|.need (bv 0 n_3 l_5)<|.need (eU (bj (ab 0 n_3 l_5) n_15 n_16 n_17 n_18 n_19))<|.leaf (.inl ((fh (bj (ab 0 n_0 l_2) m_10 m_11 m_12 m_13 m_14)),(fi (bj (ab 0 n_0 l_2) m_10 m_11 m_12 m_13 m_14)),(fh (bj (ab 0 n_3 l_5) n_15 n_16 n_17 n_18 n_19)),(fi (bj (ab 0 n_3 l_5) n_15 n_16 n_17 n_18 n_19)),(fj (bj (ab 0 n_0 l_2) m_10 m_11 m_12 m_13 m_14)),(fj (bj (ab 0 n_3 l_5) n_15 n_16 n_17 n_18 n_19)),(fk (bj (ab 0 n_0 l_2) m_10 m_11 m_12 m_13 m_14)),(fk (bj (ab 0 n_3 l_5) n_15 n_16 n_17 n_18 n_19)))))
def yO(n_0:Nat)(c_1:Nat)(l_2:List Nat)(n_3:Nat)(c_4:Nat)(l_5:List Nat)(n_6:Nat)(c_7:Nat)(l_8:List Nat)(a_9:Nat)(b_20:Nat)(o_21:Int)(o_22:Int)(o_23:Int)(o_24:Int)(o_25:Int)(i2:Int)(i3:Int)(i4:Int)(i5:Int)(a6:Nat)(a7:Nat)(l8:List Nat)(l9:List Nat)(_:Unit) :aH:=⟨ah 54 [(5,.ptr 6 1 0 0),(6,.ptr 7 1 0 0),(7,.ptr 8 1 0 0),(8,.ptr 9 1 0 0),(9,.ptr 10 1 0 0),(28,.fn (.func eR) [] [.ptr 11 1 0 0])],[(0,.vs [.sl 1 1 1 0 n_0 c_1]),(1,.fl l_2),(2,.vs [.sl 3 1 1 0 n_3 c_4]),(3,.fl l_5),(4,.vs [.sl 5 1 1 0 n_6 c_7]),(5,.fl l_8),(6,.vs [.flt false a_9]),(7,.vs [.ptr 12 1 0 0,.int .i64 i2,.int .i64 i3,.int .i64 (0:Int),.int .i64 i3,.int .i64 (1:Int)]),(8,.vs [.ptr 13 1 0 0,.int .i64 i4,.int .i64 i5,.int .i64 (0:Int),.int .i64 i5,.int .i64 (1:Int)]),(9,.vs [.flt false b_20]),(10,.vs [.ptr 4 1 0 0,.int .i64 o_21,.int .i64 o_22,.int .i64 o_23,.int .i64 o_24,.int .i64 o_25]),(11,.vs [.ptr 4 1 0 0,.int .i64 o_21,.int .i64 o_22,.int .i64 o_23,.int .i64 o_24,.int .i64 o_25]),(12,.vs [.sl 14 1 1 0 a6 a6]),(13,.vs [.sl 15 1 1 0 a7 a7]),(14,.fl l8),(15,.fl l9)],16⟩
def G3:T ((Unit)⊕(bF)) :=
  .leaf (.inl ())
def wh(n_0:Nat)(c_1:Nat)(l_2:List Nat)(n_3:Nat)(c_4:Nat)(l_5:List Nat)(n_6:Nat)(c_7:Nat)(l104:(List Nat)) :aH:=⟨ah 54 [],[(0,.vs [.sl 1 1 1 0 n_0 c_1]),(1,.fl l_2),(2,.vs [.sl 3 1 1 0 n_3 c_4]),(3,.fl l_5),(4,.vs [.sl 5 1 1 0 n_6 c_7]),(5,.fl l104)],6⟩
noncomputable def G4:List Code:=cJ (inBlock ((((((G2.drop 2).drop 3).drop 1).take 1)).headD .skip))
def pu(n_0:Nat)(c_1:Nat)(l_2:List Nat)(n_3:Nat)(c_4:Nat)(l_5:List Nat)(n_6:Nat)(c_7:Nat)(l_8:List Nat)(a_9:Nat)(b_20:Nat)(o_21:Int)(o_22:Int)(o_23:Int)(o_24:Int)(o_25:Int)(i2:Int)(i3:Int)(i4:Int)(i5:Int)(a6:Nat)(a7:Nat)(l8:List Nat)(l9:List Nat) :YI:=agd (G4) (yO n_0 c_1 l_2 n_3 c_4 l_5 n_6 c_7 l_8 a_9 b_20 o_21 o_22 o_23 o_24 o_25 i2 i3 i4 i5 a6 a7 l8 l9 ())
def wj(n_0:Nat)(c_1:Nat)(l_2:List Nat)(n_3:Nat)(c_4:Nat)(l_5:List Nat)(n_6:Nat)(c_7:Nat)(a_9:Nat)(b_20:Nat)(o_21:Int)(o_22:Int)(o_23:Int)(o_24:Int)(o_25:Int)(i2:Int)(i3:Int)(i4:Int)(i5:Int) :(List Nat)×Nat×Nat×Nat×Nat×(List Nat)×(List Nat)→aH:=fun (l97,a98,a99,a100,a101,l102,l103)=>⟨ah 27 [],[(0,.vs [.sl 1 1 1 0 n_0 c_1]),(1,.fl l_2),(2,.vs [.sl 3 1 1 0 n_3 c_4]),(3,.fl l_5),(4,.vs [.sl 5 1 1 0 n_6 c_7]),(5,.fl l97),(6,.vs [.flt false a_9]),(7,.vs [.ptr 12 1 0 0,.int .i64 i2,.int .i64 i3,.int .i64 (0:Int),.int .i64 i3,.int .i64 (1:Int)]),(8,.vs [.ptr 13 1 0 0,.int .i64 i4,.int .i64 i5,.int .i64 (0:Int),.int .i64 i5,.int .i64 (1:Int)]),(9,.vs [.flt false b_20]),(10,.vs [.ptr 4 1 0 0,.int .i64 o_21,.int .i64 o_22,.int .i64 o_23,.int .i64 o_24,.int .i64 o_25]),(11,.vs [.ptr 4 1 0 0,.int .i64 o_21,.int .i64 o_22,.int .i64 o_23,.int .i64 o_24,.int .i64 o_25]),(12,.vs [.sl 14 1 1 0 a98 a99]),(13,.vs [.sl 15 1 1 0 a100 a101]),(14,.fl l102),(15,.fl l103),(16,.vs [])],17⟩
noncomputable def G5:List Code:=cJ (kF eR)
def Ji(n_0:Nat)(c_1:Nat)(l_2:List Nat)(n_3:Nat)(c_4:Nat)(l_5:List Nat)(n_6:Nat)(c_7:Nat)(l_8:List Nat)(a_9:Nat)(b_20:Nat)(o_21:Int)(o_22:Int)(o_23:Int)(o_24:Int)(o_25:Int)(i2:Int)(i3:Int)(i4:Int)(i5:Int)(a6:Nat)(a7:Nat)(l8:List Nat)(l9:List Nat)(_:Unit) :aH:=⟨ah 27 [(0,.yld 16),(1,.ptr 11 1 0 0),(6,.int .i64 o_21),(7,.int .i64 (0:Int))],[(0,.vs [.sl 1 1 1 0 n_0 c_1]),(1,.fl l_2),(2,.vs [.sl 3 1 1 0 n_3 c_4]),(3,.fl l_5),(4,.vs [.sl 5 1 1 0 n_6 c_7]),(5,.fl l_8),(6,.vs [.flt false a_9]),(7,.vs [.ptr 12 1 0 0,.int .i64 i2,.int .i64 i3,.int .i64 (0:Int),.int .i64 i3,.int .i64 (1:Int)]),(8,.vs [.ptr 13 1 0 0,.int .i64 i4,.int .i64 i5,.int .i64 (0:Int),.int .i64 i5,.int .i64 (1:Int)]),(9,.vs [.flt false b_20]),(10,.vs [.ptr 4 1 0 0,.int .i64 o_21,.int .i64 o_22,.int .i64 o_23,.int .i64 o_24,.int .i64 o_25]),(11,.vs [.ptr 4 1 0 0,.int .i64 o_21,.int .i64 o_22,.int .i64 o_23,.int .i64 o_24,.int .i64 o_25]),(12,.vs [.sl 14 1 1 0 a6 a6]),(13,.vs [.sl 15 1 1 0 a7 a7]),(14,.fl l8),(15,.fl l9),(16,.vs [])],17⟩
def G6:T ((Unit)⊕(Empty)) :=
  .leaf (.inl ())
def lC(n_0:Nat)(c_1:Nat)(l_2:List Nat)(n_3:Nat)(c_4:Nat)(l_5:List Nat)(n_6:Nat)(c_7:Nat)(a_9:Nat)(b_20:Nat)(o_21:Int)(o_22:Int)(o_23:Int)(o_24:Int)(o_25:Int)(i2:Int)(i3:Int)(i4:Int)(i5:Int) :Nat×(List Nat)×Nat×Nat×Nat×Nat×(List Nat)×(List Nat)→aH:=fun (a46,l47,a48,a49,a50,a51,l52,l53)=>⟨ah 27 [(0,.yld 16),(1,.ptr 11 1 0 0),(6,.int .i64 o_21),(7,.int .i64 ((a46:Nat):Int))],[(0,.vs [.sl 1 1 1 0 n_0 c_1]),(1,.fl l_2),(2,.vs [.sl 3 1 1 0 n_3 c_4]),(3,.fl l_5),(4,.vs [.sl 5 1 1 0 n_6 c_7]),(5,.fl l47),(6,.vs [.flt false a_9]),(7,.vs [.ptr 12 1 0 0,.int .i64 i2,.int .i64 i3,.int .i64 (0:Int),.int .i64 i3,.int .i64 (1:Int)]),(8,.vs [.ptr 13 1 0 0,.int .i64 i4,.int .i64 i5,.int .i64 (0:Int),.int .i64 i5,.int .i64 (1:Int)]),(9,.vs [.flt false b_20]),(10,.vs [.ptr 4 1 0 0,.int .i64 o_21,.int .i64 o_22,.int .i64 o_23,.int .i64 o_24,.int .i64 o_25]),(11,.vs [.ptr 4 1 0 0,.int .i64 o_21,.int .i64 o_22,.int .i64 o_23,.int .i64 o_24,.int .i64 o_25]),(12,.vs [.sl 14 1 1 0 a48 a49]),(13,.vs [.sl 15 1 1 0 a50 a51]),(14,.fl l52),(15,.fl l53),(16,.vs [])],17⟩
def pv(n_0:Nat)(c_1:Nat)(l_2:List Nat)(n_3:Nat)(c_4:Nat)(l_5:List Nat)(n_6:Nat)(c_7:Nat)(a_9:Nat)(b_20:Nat)(o_21:Int)(o_22:Int)(o_23:Int)(o_24:Int)(o_25:Int)(i2:Int)(i3:Int)(i4:Int)(i5:Int) :(List Nat)×Nat×Nat×Nat×Nat×(List Nat)×(List Nat)→aH:=fun (l90,a91,a92,a93,a94,l95,l96)=>⟨ah 27 [],[(0,.vs [.sl 1 1 1 0 n_0 c_1]),(1,.fl l_2),(2,.vs [.sl 3 1 1 0 n_3 c_4]),(3,.fl l_5),(4,.vs [.sl 5 1 1 0 n_6 c_7]),(5,.fl l90),(6,.vs [.flt false a_9]),(7,.vs [.ptr 12 1 0 0,.int .i64 i2,.int .i64 i3,.int .i64 (0:Int),.int .i64 i3,.int .i64 (1:Int)]),(8,.vs [.ptr 13 1 0 0,.int .i64 i4,.int .i64 i5,.int .i64 (0:Int),.int .i64 i5,.int .i64 (1:Int)]),(9,.vs [.flt false b_20]),(10,.vs [.ptr 4 1 0 0,.int .i64 o_21,.int .i64 o_22,.int .i64 o_23,.int .i64 o_24,.int .i64 o_25]),(11,.vs [.ptr 4 1 0 0,.int .i64 o_21,.int .i64 o_22,.int .i64 o_23,.int .i64 o_24,.int .i64 o_25]),(12,.vs [.sl 14 1 1 0 a91 a92]),(13,.vs [.sl 15 1 1 0 a93 a94]),(14,.fl l95),(15,.fl l96),(16,.vs [])],17⟩
noncomputable def wk:List Code:=cJ (dG ((((G5.drop 1).take 1)).headD .skip))
def G7(n_0:Nat)(c_1:Nat)(l_2:List Nat)(n_3:Nat)(c_4:Nat)(l_5:List Nat)(n_6:Nat)(c_7:Nat)(a_9:Nat)(b_20:Nat)(o_21:Int)(o_22:Int)(o_23:Int)(o_24:Int)(o_25:Int)(i2:Int)(i3:Int)(i4:Int)(i5:Int)(a46:Nat)(l47:List Nat)(a48:Nat)(a49:Nat)(a50:Nat)(a51:Nat)(l52:List Nat)(l53:List Nat)(_:Unit) :aH:=⟨ah 27 [(0,.yld 16),(1,.ptr 11 1 0 0),(6,.int .i64 o_21),(7,.int .i64 ((a46:Nat):Int))],[(0,.vs [.sl 1 1 1 0 n_0 c_1]),(1,.fl l_2),(2,.vs [.sl 3 1 1 0 n_3 c_4]),(3,.fl l_5),(4,.vs [.sl 5 1 1 0 n_6 c_7]),(5,.fl l47),(6,.vs [.flt false a_9]),(7,.vs [.ptr 12 1 0 0,.int .i64 i2,.int .i64 i3,.int .i64 (0:Int),.int .i64 i3,.int .i64 (1:Int)]),(8,.vs [.ptr 13 1 0 0,.int .i64 i4,.int .i64 i5,.int .i64 (0:Int),.int .i64 i5,.int .i64 (1:Int)]),(9,.vs [.flt false b_20]),(10,.vs [.ptr 4 1 0 0,.int .i64 o_21,.int .i64 o_22,.int .i64 o_23,.int .i64 o_24,.int .i64 o_25]),(11,.vs [.ptr 4 1 0 0,.int .i64 o_21,.int .i64 o_22,.int .i64 o_23,.int .i64 o_24,.int .i64 o_25]),(12,.vs [.sl 14 1 1 0 a48 a49]),(13,.vs [.sl 15 1 1 0 a50 a51]),(14,.fl l52),(15,.fl l53),(16,.vs [])],17⟩
def G8(o_21:Int)(a46:Nat)(l47:List Nat)(a48:Nat)(a49:Nat)(a50:Nat)(a51:Nat)(l52:List Nat)(l53:List Nat) :T ((Unit)⊕(((List Nat)×Nat×Nat×Nat×Nat×(List Nat)×(List Nat))⊕(Empty))) :=
  .ask (decide (((a46:Nat):Int)<o_21))
    (.leaf (.inl ()))
    (.leaf (.inr (.inl (l47,a48,a49,a50,a51,l52,l53))))
def pw(n_0:Nat)(c_1:Nat)(l_2:List Nat)(n_3:Nat)(c_4:Nat)(l_5:List Nat)(n_6:Nat)(c_7:Nat)(a_9:Nat)(b_20:Nat)(o_21:Int)(o_22:Int)(o_23:Int)(o_24:Int)(o_25:Int)(i2:Int)(i3:Int)(i4:Int)(i5:Int)(a46:Nat) :(List Nat)×Nat×Nat×Nat×Nat×(List Nat)×(List Nat)→aH:=fun (l83,a84,a85,a86,a87,l88,l89)=>⟨ah 27 [(0,.yld 16),(1,.ptr 11 1 0 0),(6,.int .i64 o_21),(7,.int .i64 ((a46:Nat):Int))],[(0,.vs [.sl 1 1 1 0 n_0 c_1]),(1,.fl l_2),(2,.vs [.sl 3 1 1 0 n_3 c_4]),(3,.fl l_5),(4,.vs [.sl 5 1 1 0 n_6 c_7]),(5,.fl l83),(6,.vs [.flt false a_9]),(7,.vs [.ptr 12 1 0 0,.int .i64 i2,.int .i64 i3,.int .i64 (0:Int),.int .i64 i3,.int .i64 (1:Int)]),(8,.vs [.ptr 13 1 0 0,.int .i64 i4,.int .i64 i5,.int .i64 (0:Int),.int .i64 i5,.int .i64 (1:Int)]),(9,.vs [.flt false b_20]),(10,.vs [.ptr 4 1 0 0,.int .i64 o_21,.int .i64 o_22,.int .i64 o_23,.int .i64 o_24,.int .i64 o_25]),(11,.vs [.ptr 4 1 0 0,.int .i64 o_21,.int .i64 o_22,.int .i64 o_23,.int .i64 o_24,.int .i64 o_25]),(12,.vs [.sl 14 1 1 0 a84 a85]),(13,.vs [.sl 15 1 1 0 a86 a87]),(14,.fl l88),(15,.fl l89),(16,.vs [])],17⟩
noncomputable def G9:List Code:=cJ (inBlock ((((wk.drop 2).take 1)).headD .skip))
def Ha(n_0:Nat)(c_1:Nat)(l_2:List Nat)(n_3:Nat)(c_4:Nat)(l_5:List Nat)(n_6:Nat)(c_7:Nat)(a_9:Nat)(b_20:Nat)(o_21:Int)(o_22:Int)(o_23:Int)(o_24:Int)(o_25:Int)(i2:Int)(i3:Int)(i4:Int)(i5:Int)(a46:Nat)(l47:List Nat)(a48:Nat)(a49:Nat)(a50:Nat)(a51:Nat)(l52:List Nat)(l53:List Nat)(_:Unit) :aH:=⟨ah 27 [(0,.yld 16),(1,.ptr 11 1 0 0),(3,.int .i64 ((a46:Nat):Int)),(6,.int .i64 o_21),(7,.int .i64 ((a46:Nat):Int)),(11,.int .i64 o_22),(12,.int .i64 (0:Int))],[(0,.vs [.sl 1 1 1 0 n_0 c_1]),(1,.fl l_2),(2,.vs [.sl 3 1 1 0 n_3 c_4]),(3,.fl l_5),(4,.vs [.sl 5 1 1 0 n_6 c_7]),(5,.fl l47),(6,.vs [.flt false a_9]),(7,.vs [.ptr 12 1 0 0,.int .i64 i2,.int .i64 i3,.int .i64 (0:Int),.int .i64 i3,.int .i64 (1:Int)]),(8,.vs [.ptr 13 1 0 0,.int .i64 i4,.int .i64 i5,.int .i64 (0:Int),.int .i64 i5,.int .i64 (1:Int)]),(9,.vs [.flt false b_20]),(10,.vs [.ptr 4 1 0 0,.int .i64 o_21,.int .i64 o_22,.int .i64 o_23,.int .i64 o_24,.int .i64 o_25]),(11,.vs [.ptr 4 1 0 0,.int .i64 o_21,.int .i64 o_22,.int .i64 o_23,.int .i64 o_24,.int .i64 o_25]),(12,.vs [.sl 14 1 1 0 a48 a49]),(13,.vs [.sl 15 1 1 0 a50 a51]),(14,.fl l52),(15,.fl l53),(16,.vs [])],17⟩
def Hb:T ((Unit)⊕(((List Nat)×Nat×Nat×Nat×Nat×(List Nat)×(List Nat))⊕(((List Nat)×Nat×Nat×Nat×Nat×(List Nat)×(List Nat))⊕(Empty)))) :=
  .leaf (.inl ())
def lD(n_0:Nat)(c_1:Nat)(l_2:List Nat)(n_3:Nat)(c_4:Nat)(l_5:List Nat)(n_6:Nat)(c_7:Nat)(a_9:Nat)(b_20:Nat)(o_21:Int)(o_22:Int)(o_23:Int)(o_24:Int)(o_25:Int)(i2:Int)(i3:Int)(i4:Int)(i5:Int)(a46:Nat) :Nat×(List Nat)×Nat×Nat×Nat×Nat×(List Nat)×(List Nat)→aH:=fun (a61,l62,a63,a64,a65,a66,l67,l68)=>⟨ah 27 [(0,.yld 16),(1,.ptr 11 1 0 0),(3,.int .i64 ((a46:Nat):Int)),(6,.int .i64 o_21),(7,.int .i64 ((a46:Nat):Int)),(11,.int .i64 o_22),(12,.int .i64 ((a61:Nat):Int))],[(0,.vs [.sl 1 1 1 0 n_0 c_1]),(1,.fl l_2),(2,.vs [.sl 3 1 1 0 n_3 c_4]),(3,.fl l_5),(4,.vs [.sl 5 1 1 0 n_6 c_7]),(5,.fl l62),(6,.vs [.flt false a_9]),(7,.vs [.ptr 12 1 0 0,.int .i64 i2,.int .i64 i3,.int .i64 (0:Int),.int .i64 i3,.int .i64 (1:Int)]),(8,.vs [.ptr 13 1 0 0,.int .i64 i4,.int .i64 i5,.int .i64 (0:Int),.int .i64 i5,.int .i64 (1:Int)]),(9,.vs [.flt false b_20]),(10,.vs [.ptr 4 1 0 0,.int .i64 o_21,.int .i64 o_22,.int .i64 o_23,.int .i64 o_24,.int .i64 o_25]),(11,.vs [.ptr 4 1 0 0,.int .i64 o_21,.int .i64 o_22,.int .i64 o_23,.int .i64 o_24,.int .i64 o_25]),(12,.vs [.sl 14 1 1 0 a63 a64]),(13,.vs [.sl 15 1 1 0 a65 a66]),(14,.fl l67),(15,.fl l68),(16,.vs [])],17⟩
def wl(n_0:Nat)(c_1:Nat)(l_2:List Nat)(n_3:Nat)(c_4:Nat)(l_5:List Nat)(n_6:Nat)(c_7:Nat)(a_9:Nat)(b_20:Nat)(o_21:Int)(o_22:Int)(o_23:Int)(o_24:Int)(o_25:Int)(i2:Int)(i3:Int)(i4:Int)(i5:Int)(a46:Nat) :(List Nat)×Nat×Nat×Nat×Nat×(List Nat)×(List Nat)→aH:=fun (l76,a77,a78,a79,a80,l81,l82)=>⟨ah 27 [(0,.yld 16),(1,.ptr 11 1 0 0),(6,.int .i64 o_21),(7,.int .i64 ((a46:Nat):Int))],[(0,.vs [.sl 1 1 1 0 n_0 c_1]),(1,.fl l_2),(2,.vs [.sl 3 1 1 0 n_3 c_4]),(3,.fl l_5),(4,.vs [.sl 5 1 1 0 n_6 c_7]),(5,.fl l76),(6,.vs [.flt false a_9]),(7,.vs [.ptr 12 1 0 0,.int .i64 i2,.int .i64 i3,.int .i64 (0:Int),.int .i64 i3,.int .i64 (1:Int)]),(8,.vs [.ptr 13 1 0 0,.int .i64 i4,.int .i64 i5,.int .i64 (0:Int),.int .i64 i5,.int .i64 (1:Int)]),(9,.vs [.flt false b_20]),(10,.vs [.ptr 4 1 0 0,.int .i64 o_21,.int .i64 o_22,.int .i64 o_23,.int .i64 o_24,.int .i64 o_25]),(11,.vs [.ptr 4 1 0 0,.int .i64 o_21,.int .i64 o_22,.int .i64 o_23,.int .i64 o_24,.int .i64 o_25]),(12,.vs [.sl 14 1 1 0 a77 a78]),(13,.vs [.sl 15 1 1 0 a79 a80]),(14,.fl l81),(15,.fl l82),(16,.vs [])],17⟩
noncomputable def Hc:List Code:=cJ (dG ((((G9.drop 2).take 1)).headD .skip))
def Hd(n_0:Nat)(c_1:Nat)(l_2:List Nat)(n_3:Nat)(c_4:Nat)(l_5:List Nat)(n_6:Nat)(c_7:Nat)(a_9:Nat)(b_20:Nat)(o_21:Int)(o_22:Int)(o_23:Int)(o_24:Int)(o_25:Int)(i2:Int)(i3:Int)(i4:Int)(i5:Int)(a46:Nat)(a61:Nat) :(List Nat)×Nat×Nat×Nat×Nat×(List Nat)×(List Nat)→aH:=fun (l69,a70,a71,a72,a73,l74,l75)=>⟨ah 27 [(0,.yld 16),(1,.ptr 11 1 0 0),(3,.int .i64 ((a46:Nat):Int)),(6,.int .i64 o_21),(7,.int .i64 ((a46:Nat):Int)),(11,.int .i64 o_22),(12,.int .i64 ((a61:Nat):Int))],[(0,.vs [.sl 1 1 1 0 n_0 c_1]),(1,.fl l_2),(2,.vs [.sl 3 1 1 0 n_3 c_4]),(3,.fl l_5),(4,.vs [.sl 5 1 1 0 n_6 c_7]),(5,.fl l69),(6,.vs [.flt false a_9]),(7,.vs [.ptr 12 1 0 0,.int .i64 i2,.int .i64 i3,.int .i64 (0:Int),.int .i64 i3,.int .i64 (1:Int)]),(8,.vs [.ptr 13 1 0 0,.int .i64 i4,.int .i64 i5,.int .i64 (0:Int),.int .i64 i5,.int .i64 (1:Int)]),(9,.vs [.flt false b_20]),(10,.vs [.ptr 4 1 0 0,.int .i64 o_21,.int .i64 o_22,.int .i64 o_23,.int .i64 o_24,.int .i64 o_25]),(11,.vs [.ptr 4 1 0 0,.int .i64 o_21,.int .i64 o_22,.int .i64 o_23,.int .i64 o_24,.int .i64 o_25]),(12,.vs [.sl 14 1 1 0 a70 a71]),(13,.vs [.sl 15 1 1 0 a72 a73]),(14,.fl l74),(15,.fl l75),(16,.vs [])],17⟩
def px(n_6:Nat)(a_9:Nat)(b_20:Nat)(o_21:Int)(o_22:Int)(o_23:Int)(o_24:Int)(o_25:Int)(i2:Int)(i3:Int)(i4:Int)(i5:Int)(a46:Nat)(a61:Nat)(l62:List Nat)(a63:Nat)(a64:Nat)(a65:Nat)(a66:Nat)(l67:List Nat)(l68:List Nat) :T (((List Nat)×Nat×Nat×Nat×Nat×(List Nat)×(List Nat))⊕(((List Nat)×Nat×Nat×Nat×Nat×(List Nat)×(List Nat))⊕(((List Nat)×Nat×Nat×Nat×Nat×(List Nat)×(List Nat))⊕(((List Nat)×Nat×Nat×Nat×Nat×(List Nat)×(List Nat))⊕(Empty))))) :=
  .ask (decide (((a61:Nat):Int)<o_22))
    (.need (bv 0 n_6 l62)<|.need (bm (au o_21 o_22 ((a46:Nat):Int) ((a61:Nat):Int)))<|.ask (!(bf (au o_21 o_22 ((a46:Nat):Int) ((a61:Nat):Int))))
      (.fail)
      (.need (cu .i64 (((a46:Nat):Int)*o_24))<|.need (cu .i64 (o_23+(((a46:Nat):Int)*o_24)))<|.need (cu .i64 (((a61:Nat):Int)*o_25))<|.need (cu .i64 ((o_23+(((a46:Nat):Int)*o_24))+(((a61:Nat):Int)*o_25)))<|.need (fc ((o_23+(((a46:Nat):Int)*o_24))+(((a61:Nat):Int)*o_25)) n_6)<|.need (eX (Int.toNat ((o_23+(((a46:Nat):Int)*o_24))+(((a61:Nat):Int)*o_25))) (List.length l62))<|.need (eX 0 2)<|.need (eX 1 2)<|.need (fc (0:Int) 2)<|.need (eX 0 2)<|.need (fc (1:Int) 2)<|.need (eX 1 2)<|.need (fc (0:Int) 2)<|.need (eX 0 2)<|.alt 1
        (.need (dv (aa a63 a64 l67 i2 i3 (0:Int) i3 (1:Int) ((a46:Nat):Int) (0:Int) (1:Int) i3))<|.need (fc (1:Int) 2)<|.need (eX 1 2)<|.alt 1
          (.need (dv (aa a65 a66 l68 i4 i5 (0:Int) i5 (1:Int) (0:Int) ((a61:Nat):Int) i4 (1:Int)))<|.need (bv 0 (aK (aa a63 a64 l67 i2 i3 (0:Int) i3 (1:Int) ((a46:Nat):Int) (0:Int) (1:Int) i3)) (aL (aa a63 a64 l67 i2 i3 (0:Int) i3 (1:Int) ((a46:Nat):Int) (0:Int) (1:Int) i3)))<|.need (bv 0 (aK (aa a65 a66 l68 i4 i5 (0:Int) i5 (1:Int) (0:Int) ((a61:Nat):Int) i4 (1:Int))) (aL (aa a65 a66 l68 i4 i5 (0:Int) i5 (1:Int) (0:Int) ((a61:Nat):Int) i4 (1:Int))))<|.need (bM (bk (0:Int) i3 (ab 0 (aK (aa a63 a64 l67 i2 i3 (0:Int) i3 (1:Int) ((a46:Nat):Int) (0:Int) (1:Int) i3)) (aL (aa a63 a64 l67 i2 i3 (0:Int) i3 (1:Int) ((a46:Nat):Int) (0:Int) (1:Int) i3))) (aX (aa a63 a64 l67 i2 i3 (0:Int) i3 (1:Int) ((a46:Nat):Int) (0:Int) (1:Int) i3)) (aY (aa a63 a64 l67 i2 i3 (0:Int) i3 (1:Int) ((a46:Nat):Int) (0:Int) (1:Int) i3)) (aZ (aa a63 a64 l67 i2 i3 (0:Int) i3 (1:Int) ((a46:Nat):Int) (0:Int) (1:Int) i3)) (ba (aa a63 a64 l67 i2 i3 (0:Int) i3 (1:Int) ((a46:Nat):Int) (0:Int) (1:Int) i3)) (bb (aa a63 a64 l67 i2 i3 (0:Int) i3 (1:Int) ((a46:Nat):Int) (0:Int) (1:Int) i3)) (ab 0 (aK (aa a65 a66 l68 i4 i5 (0:Int) i5 (1:Int) (0:Int) ((a61:Nat):Int) i4 (1:Int))) (aL (aa a65 a66 l68 i4 i5 (0:Int) i5 (1:Int) (0:Int) ((a61:Nat):Int) i4 (1:Int)))) (aX (aa a65 a66 l68 i4 i5 (0:Int) i5 (1:Int) (0:Int) ((a61:Nat):Int) i4 (1:Int))) (aY (aa a65 a66 l68 i4 i5 (0:Int) i5 (1:Int) (0:Int) ((a61:Nat):Int) i4 (1:Int))) (aZ (aa a65 a66 l68 i4 i5 (0:Int) i5 (1:Int) (0:Int) ((a61:Nat):Int) i4 (1:Int))) (ba (aa a65 a66 l68 i4 i5 (0:Int) i5 (1:Int) (0:Int) ((a61:Nat):Int) i4 (1:Int))) (bb (aa a65 a66 l68 i4 i5 (0:Int) i5 (1:Int) (0:Int) ((a61:Nat):Int) i4 (1:Int)))))<|.need (bv 0 n_6 l62)<|.need (bm (au o_21 o_22 ((a46:Nat):Int) ((a61:Nat):Int)))<|.ask (!(bf (au o_21 o_22 ((a46:Nat):Int) ((a61:Nat):Int))))
            (.fail)
            (.need (cu .i64 (((a46:Nat):Int)*o_24))<|.need (cu .i64 (o_23+(((a46:Nat):Int)*o_24)))<|.need (cu .i64 (((a61:Nat):Int)*o_25))<|.need (cu .i64 ((o_23+(((a46:Nat):Int)*o_24))+(((a61:Nat):Int)*o_25)))<|.need (fc ((o_23+(((a46:Nat):Int)*o_24))+(((a61:Nat):Int)*o_25)) n_6)<|.need (eX (Int.toNat ((o_23+(((a46:Nat):Int)*o_24))+(((a61:Nat):Int)*o_25))) (List.length l62))<|.leaf (.inl ((List.set l62 (Int.toNat ((o_23+(((a46:Nat):Int)*o_24))+(((a61:Nat):Int)*o_25))) (tM (mK b_20 (List.getD l62 (Int.toNat ((o_23+(((a46:Nat):Int)*o_24))+(((a61:Nat):Int)*o_25))) 0)) (mK a_9 (cm (bk (0:Int) i3 (ab 0 (aK (aa a63 a64 l67 i2 i3 (0:Int) i3 (1:Int) ((a46:Nat):Int) (0:Int) (1:Int) i3)) (aL (aa a63 a64 l67 i2 i3 (0:Int) i3 (1:Int) ((a46:Nat):Int) (0:Int) (1:Int) i3))) (aX (aa a63 a64 l67 i2 i3 (0:Int) i3 (1:Int) ((a46:Nat):Int) (0:Int) (1:Int) i3)) (aY (aa a63 a64 l67 i2 i3 (0:Int) i3 (1:Int) ((a46:Nat):Int) (0:Int) (1:Int) i3)) (aZ (aa a63 a64 l67 i2 i3 (0:Int) i3 (1:Int) ((a46:Nat):Int) (0:Int) (1:Int) i3)) (ba (aa a63 a64 l67 i2 i3 (0:Int) i3 (1:Int) ((a46:Nat):Int) (0:Int) (1:Int) i3)) (bb (aa a63 a64 l67 i2 i3 (0:Int) i3 (1:Int) ((a46:Nat):Int) (0:Int) (1:Int) i3)) (ab 0 (aK (aa a65 a66 l68 i4 i5 (0:Int) i5 (1:Int) (0:Int) ((a61:Nat):Int) i4 (1:Int))) (aL (aa a65 a66 l68 i4 i5 (0:Int) i5 (1:Int) (0:Int) ((a61:Nat):Int) i4 (1:Int)))) (aX (aa a65 a66 l68 i4 i5 (0:Int) i5 (1:Int) (0:Int) ((a61:Nat):Int) i4 (1:Int))) (aY (aa a65 a66 l68 i4 i5 (0:Int) i5 (1:Int) (0:Int) ((a61:Nat):Int) i4 (1:Int))) (aZ (aa a65 a66 l68 i4 i5 (0:Int) i5 (1:Int) (0:Int) ((a61:Nat):Int) i4 (1:Int))) (ba (aa a65 a66 l68 i4 i5 (0:Int) i5 (1:Int) (0:Int) ((a61:Nat):Int) i4 (1:Int))) (bb (aa a65 a66 l68 i4 i5 (0:Int) i5 (1:Int) (0:Int) ((a61:Nat):Int) i4 (1:Int)))))))),(aK (aa a63 a64 l67 i2 i3 (0:Int) i3 (1:Int) ((a46:Nat):Int) (0:Int) (1:Int) i3)),(bN (aa a63 a64 l67 i2 i3 (0:Int) i3 (1:Int) ((a46:Nat):Int) (0:Int) (1:Int) i3)),(aK (aa a65 a66 l68 i4 i5 (0:Int) i5 (1:Int) (0:Int) ((a61:Nat):Int) i4 (1:Int))),(bN (aa a65 a66 l68 i4 i5 (0:Int) i5 (1:Int) (0:Int) ((a61:Nat):Int) i4 (1:Int))),(aL (aa a63 a64 l67 i2 i3 (0:Int) i3 (1:Int) ((a46:Nat):Int) (0:Int) (1:Int) i3)),(aL (aa a65 a66 l68 i4 i5 (0:Int) i5 (1:Int) (0:Int) ((a61:Nat):Int) i4 (1:Int)))))))
          (.fail))
        (.fail)))
    (.leaf (.inr (.inl (l62,a63,a64,a65,a66,l67,l68))))
def He(a61:Nat)(l69:List Nat)(a70:Nat)(a71:Nat)(a72:Nat)(a73:Nat)(l74:List Nat)(l75:List Nat) :T ((Nat×(List Nat)×Nat×Nat×Nat×Nat×(List Nat)×(List Nat))⊕(((List Nat)×Nat×Nat×Nat×Nat×(List Nat)×(List Nat))⊕(((List Nat)×Nat×Nat×Nat×Nat×(List Nat)×(List Nat))⊕(((List Nat)×Nat×Nat×Nat×Nat×(List Nat)×(List Nat))⊕(Empty))))) :=
  .need (cu .i64 (((a61+1):Nat):Int))<|.leaf (.inl ((a61+1),l69,a70,a71,a72,a73,l74,l75))
noncomputable def py(n_6:Nat)(a_9:Nat)(b_20:Nat)(o_21:Int)(o_22:Int)(o_23:Int)(o_24:Int)(o_25:Int)(i2:Int)(i3:Int)(i4:Int)(i5:Int)(a46:Nat) :Nat×(List Nat)×Nat×Nat×Nat×Nat×(List Nat)×(List Nat)→Option ((Nat×(List Nat)×Nat×Nat×Nat×Nat×(List Nat)×(List Nat))⊕(((List Nat)×Nat×Nat×Nat×Nat×(List Nat)×(List Nat))⊕(((List Nat)×Nat×Nat×Nat×Nat×(List Nat)×(List Nat))⊕(((List Nat)×Nat×Nat×Nat×Nat×(List Nat)×(List Nat))⊕(Empty))))):=fun (a61,l62,a63,a64,a65,a66,l67,l68) =>
  aU ((px n_6 a_9 b_20 o_21 o_22 o_23 o_24 o_25 i2 i3 i4 i5 a46 a61 l62 a63 a64 a65 a66 l67 l68).run) fun (l69,a70,a71,a72,a73,l74,l75) =>
  (He a61 l69 a70 a71 a72 a73 l74 l75).run
theorem Hf(n_0:Nat)(c_1:Nat)(l_2:List Nat)(n_3:Nat)(c_4:Nat)(l_5:List Nat)(n_6:Nat)(c_7:Nat)(l_8:List Nat)(a_9:Nat)(b_20:Nat)(o_21:Int)(o_22:Int)(o_23:Int)(o_24:Int)(o_25:Int)(i2:Int)(i3:Int)(i4:Int)(i5:Int)(a6:Nat)(a7:Nat)(l8:List Nat)(l9:List Nat)(a46:Nat)(a61:Nat)(l62:List Nat)(a63:Nat)(a64:Nat)(a65:Nat)(a66:Nat)(l67:List Nat)(l68:List Nat) :rT prog (pu n_0 c_1 l_2 n_3 c_4 l_5 n_6 c_7 l_8 a_9 b_20 o_21 o_22 o_23 o_24 o_25 i2 i3 i4 i5 a6 a7 l8 l9) 17 Hc (lD n_0 c_1 l_2 n_3 c_4 l_5 n_6 c_7 a_9 b_20 o_21 o_22 o_23 o_24 o_25 i2 i3 i4 i5 a46 (a61,l62,a63,a64,a65,a66,l67,l68)) (py n_6 a_9 b_20 o_21 o_22 o_23 o_24 o_25 i2 i3 i4 i5 a46 (a61,l62,a63,a64,a65,a66,l67,l68)) (lD n_0 c_1 l_2 n_3 c_4 l_5 n_6 c_7 a_9 b_20 o_21 o_22 o_23 o_24 o_25 i2 i3 i4 i5 a46) (cx 2 (wl n_0 c_1 l_2 n_3 c_4 l_5 n_6 c_7 a_9 b_20 o_21 o_22 o_23 o_24 o_25 i2 i3 i4 i5 a46) (cx 1 (pw n_0 c_1 l_2 n_3 c_4 l_5 n_6 c_7 a_9 b_20 o_21 o_22 o_23 o_24 o_25 i2 i3 i4 i5 a46) (cx 0 (pv n_0 c_1 l_2 n_3 c_4 l_5 n_6 c_7 a_9 b_20 o_21 o_22 o_23 o_24 o_25 i2 i3 i4 i5) noX))):=by
  unfold py;exact rT.cut 3 (aM (aM (aM iK))) (BS ap (Hd n_0 c_1 l_2 n_3 c_4 l_5 n_6 c_7 a_9 b_20 o_21 o_22 o_23 o_24 o_25 i2 i3 i4 i5 a46 a61) [⟨[],[0,1,2,3,4,5,6,7,8,9,10,11,12,13,14,15,16],[0,1,3,6,7,11,12]⟩,⟨[],[0,1,2,3,4,5,6,7,8,9,10,11,12,13,14,15,16],[0,1,6,7]⟩]) (fun ⟨l69,a70,a71,a72,a73,l74,l75⟩=>BS ap (lD n_0 c_1 l_2 n_3 c_4 l_5 n_6 c_7 a_9 b_20 o_21 o_22 o_23 o_24 o_25 i2 i3 i4 i5 a46) [⟨[],[0,1,2,3,4,5,6,7,8,9,10,11,12,13,14,15,16],[0,1,3,6,7,11,12]⟩])
def Hg(l76:List Nat)(a77:Nat)(a78:Nat)(a79:Nat)(a80:Nat)(l81:List Nat)(l82:List Nat) :T (((List Nat)×Nat×Nat×Nat×Nat×(List Nat)×(List Nat))⊕(((List Nat)×Nat×Nat×Nat×Nat×(List Nat)×(List Nat))⊕(((List Nat)×Nat×Nat×Nat×Nat×(List Nat)×(List Nat))⊕(Empty)))) :=
  .leaf (.inl (l76,a77,a78,a79,a80,l81,l82))
def Hh(a46:Nat)(l83:List Nat)(a84:Nat)(a85:Nat)(a86:Nat)(a87:Nat)(l88:List Nat)(l89:List Nat) :T ((Nat×(List Nat)×Nat×Nat×Nat×Nat×(List Nat)×(List Nat))⊕(((List Nat)×Nat×Nat×Nat×Nat×(List Nat)×(List Nat))⊕(Empty))) :=
  .need (cu .i64 (((a46+1):Nat):Int))<|.leaf (.inl ((a46+1),l83,a84,a85,a86,a87,l88,l89))
noncomputable def pz(n_6:Nat)(a_9:Nat)(b_20:Nat)(o_21:Int)(o_22:Int)(o_23:Int)(o_24:Int)(o_25:Int)(i2:Int)(i3:Int)(i4:Int)(i5:Int) :Nat×(List Nat)×Nat×Nat×Nat×Nat×(List Nat)×(List Nat)→Option ((Nat×(List Nat)×Nat×Nat×Nat×Nat×(List Nat)×(List Nat))⊕(((List Nat)×Nat×Nat×Nat×Nat×(List Nat)×(List Nat))⊕(Empty))):=fun (a46,l47,a48,a49,a50,a51,l52,l53) =>
  aU ((G8 o_21 a46 l47 a48 a49 a50 a51 l52 l53).run) fun _ =>
  aU (sQ (aU ((Hb).run) fun _ =>
  aU (dg (py n_6 a_9 b_20 o_21 o_22 o_23 o_24 o_25 i2 i3 i4 i5 a46) (0,l47,a48,a49,a50,a51,l52,l53)) fun (l76,a77,a78,a79,a80,l81,l82) =>
  (Hg l76 a77 a78 a79 a80 l81 l82).run)) fun (l83,a84,a85,a86,a87,l88,l89) =>
  (Hh a46 l83 a84 a85 a86 a87 l88 l89).run
theorem Hi(n_0:Nat)(c_1:Nat)(l_2:List Nat)(n_3:Nat)(c_4:Nat)(l_5:List Nat)(n_6:Nat)(c_7:Nat)(l_8:List Nat)(a_9:Nat)(b_20:Nat)(o_21:Int)(o_22:Int)(o_23:Int)(o_24:Int)(o_25:Int)(i2:Int)(i3:Int)(i4:Int)(i5:Int)(a6:Nat)(a7:Nat)(l8:List Nat)(l9:List Nat)(a46:Nat)(l47:List Nat)(a48:Nat)(a49:Nat)(a50:Nat)(a51:Nat)(l52:List Nat)(l53:List Nat) :rT prog (pu n_0 c_1 l_2 n_3 c_4 l_5 n_6 c_7 l_8 a_9 b_20 o_21 o_22 o_23 o_24 o_25 i2 i3 i4 i5 a6 a7 l8 l9) 17 wk (lC n_0 c_1 l_2 n_3 c_4 l_5 n_6 c_7 a_9 b_20 o_21 o_22 o_23 o_24 o_25 i2 i3 i4 i5 (a46,l47,a48,a49,a50,a51,l52,l53)) (pz n_6 a_9 b_20 o_21 o_22 o_23 o_24 o_25 i2 i3 i4 i5 (a46,l47,a48,a49,a50,a51,l52,l53)) (lC n_0 c_1 l_2 n_3 c_4 l_5 n_6 c_7 a_9 b_20 o_21 o_22 o_23 o_24 o_25 i2 i3 i4 i5) (cx 0 (pv n_0 c_1 l_2 n_3 c_4 l_5 n_6 c_7 a_9 b_20 o_21 o_22 o_23 o_24 o_25 i2 i3 i4 i5) noX):=by
  unfold pz;exact rT.cut 2 (aM iK) (BS ap (G7 n_0 c_1 l_2 n_3 c_4 l_5 n_6 c_7 a_9 b_20 o_21 o_22 o_23 o_24 o_25 i2 i3 i4 i5 a46 l47 a48 a49 a50 a51 l52 l53) [⟨[],[0,1,2,3,4,5,6,7,8,9,10,11,12,13,14,15,16],[0,1,6,7]⟩,⟨[],[0,1,2,3,4,5,6,7,8,9,10,11,12,13,14,15,16],[]⟩]) (fun _=>rT.cut 1 (aM iK) (age (pw n_0 c_1 l_2 n_3 c_4 l_5 n_6 c_7 a_9 b_20 o_21 o_22 o_23 o_24 o_25 i2 i3 i4 i5 a46) 1 (aM iK) (ev (by decide) (GZ _)) (rT.cut 2 (aM (aM iK)) (BS ap (Ha n_0 c_1 l_2 n_3 c_4 l_5 n_6 c_7 a_9 b_20 o_21 o_22 o_23 o_24 o_25 i2 i3 i4 i5 a46 l47 a48 a49 a50 a51 l52 l53) [⟨[],[0,1,2,3,4,5,6,7,8,9,10,11,12,13,14,15,16],[0,1,3,6,7,11,12]⟩]) (fun _=>rT.cut 1 (aM (aM iK)) (aeE ⟨[],[0,1,2,3,4,5,6,7,8,9,10,11,12,13,14,15,16],[0,1,3,6,7,11,12]⟩ (lD n_0 c_1 l_2 n_3 c_4 l_5 n_6 c_7 a_9 b_20 o_21 o_22 o_23 o_24 o_25 i2 i3 i4 i5 a46) (wl n_0 c_1 l_2 n_3 c_4 l_5 n_6 c_7 a_9 b_20 o_21 o_22 o_23 o_24 o_25 i2 i3 i4 i5 a46) 2 (aM (aM iK)) (ev (by decide) (ev (by decide) (GZ _))) (fun ⟨a61,l62,a63,a64,a65,a66,l67,l68⟩=>Hf n_0 c_1 l_2 n_3 c_4 l_5 n_6 c_7 l_8 a_9 b_20 o_21 o_22 o_23 o_24 o_25 i2 i3 i4 i5 a6 a7 l8 l9 a46 a61 l62 a63 a64 a65 a66 l67 l68)) (fun ⟨l76,a77,a78,a79,a80,l81,l82⟩=>BS ap (pw n_0 c_1 l_2 n_3 c_4 l_5 n_6 c_7 a_9 b_20 o_21 o_22 o_23 o_24 o_25 i2 i3 i4 i5 a46) [⟨[],[0,1,2,3,4,5,6,7,8,9,10,11,12,13,14,15,16],[0,1,6,7]⟩])))) (fun ⟨l83,a84,a85,a86,a87,l88,l89⟩=>BS ap (lC n_0 c_1 l_2 n_3 c_4 l_5 n_6 c_7 a_9 b_20 o_21 o_22 o_23 o_24 o_25 i2 i3 i4 i5) [⟨[],[0,1,2,3,4,5,6,7,8,9,10,11,12,13,14,15,16],[0,1,6,7]⟩]))
def Hj(l90:List Nat)(a91:Nat)(a92:Nat)(a93:Nat)(a94:Nat)(l95:List Nat)(l96:List Nat) :T (((List Nat)×Nat×Nat×Nat×Nat×(List Nat)×(List Nat))⊕(Empty)) :=
  .leaf (.inl (l90,a91,a92,a93,a94,l95,l96))
def Hk(n_0:Nat)(c_1:Nat)(l_2:List Nat)(n_3:Nat)(c_4:Nat)(l_5:List Nat)(n_6:Nat)(c_7:Nat)(l104:List Nat) :T ((Empty)⊕(bF)) :=
  .leaf (.inr (.r0 0 n_0 c_1 l_2 n_3 c_4 l_5 n_6 c_7 l104))
noncomputable def fX(n_0:Nat)(c_1:Nat)(l_2:List Nat)(n_3:Nat)(c_4:Nat)(l_5:List Nat)(n_6:Nat)(c_7:Nat)(l_8:List Nat)(a_9:Nat)(m_10:Int)(m_11:Int)(m_12:Int)(m_13:Int)(m_14:Int)(n_15:Int)(n_16:Int)(n_17:Int)(n_18:Int)(n_19:Int)(b_20:Nat)(o_21:Int)(o_22:Int)(o_23:Int)(o_24:Int)(o_25:Int) :Option bF:=lX (aU ((we m_10 m_11 n_15 n_16 o_21 o_22).run) fun e1 =>
  aU ((wg n_0 c_1 l_2 n_3 c_4 l_5 n_6 c_7 l_8 m_10 m_11 m_12 m_13 m_14 n_15 n_16 n_17 n_18 n_19 e1).run) fun (i2,i3,i4,i5,a6,a7,l8,l9) =>
  aU ((G3).run) fun _ =>
  aU (sQ (Option.map ((Sum.elim (fun (l97,a98,a99,a100,a101,l102,l103)=>.inl l97) (fun a:Empty=>a.elim)):((List Nat)×Nat×Nat×Nat×Nat×(List Nat)×(List Nat))⊕(Empty)→((List Nat))⊕(((List Nat))⊕(bF))) (aU ((G6).run) fun _ =>
  aU (dg (pz n_6 a_9 b_20 o_21 o_22 o_23 o_24 o_25 i2 i3 i4 i5) (0,l_8,a6,a6,a7,a7,l8,l9)) fun (l90,a91,a92,a93,a94,l95,l96) =>
  (Hj l90 a91 a92 a93 a94 l95 l96).run))) fun l104 =>
  (Hk n_0 c_1 l_2 n_3 c_4 l_5 n_6 c_7 l104).run)
theorem Jj(n_0:Nat)(c_1:Nat)(l_2:List Nat)(n_3:Nat)(c_4:Nat)(l_5:List Nat)(n_6:Nat)(c_7:Nat)(l_8:List Nat)(a_9:Nat)(m_10:Int)(m_11:Int)(m_12:Int)(m_13:Int)(m_14:Int)(n_15:Int)(n_16:Int)(n_17:Int)(n_18:Int)(n_19:Int)(b_20:Nat)(o_21:Int)(o_22:Int)(o_23:Int)(o_24:Int)(o_25:Int){x:bF}(h:fX n_0 c_1 l_2 n_3 c_4 l_5 n_6 c_7 l_8 a_9 m_10 m_11 m_12 m_13 m_14 n_15 n_16 n_17 n_18 n_19 b_20 o_21 o_22 o_23 o_24 o_25=some x) :aj prog nH [.vs [.sl 1 1 1 0 n_0 c_1],.fl l_2,.vs [.sl 3 1 1 0 n_3 c_4],.fl l_5,.vs [.sl 5 1 1 0 n_6 c_7],.fl l_8] [.flt false a_9,.agg [.ptr 0 1 0 0,.int .i64 m_10,.int .i64 m_11,.int .i64 m_12,.int .i64 m_13,.int .i64 m_14],.agg [.ptr 2 1 0 0,.int .i64 n_15,.int .i64 n_16,.int .i64 n_17,.int .i64 n_18,.int .i64 n_19],.flt false b_20,.agg [.ptr 4 1 0 0,.int .i64 o_21,.int .i64 o_22,.int .i64 o_23,.int .i64 o_24,.int .i64 o_25]] (tn x) :=
  ni false tn tm h (Sg.cut 2 jQ (bT ap (Jg n_0 c_1 l_2 n_3 c_4 l_5 n_6 c_7 l_8 a_9 m_10 m_11 m_12 m_13 m_14 n_15 n_16 n_17 n_18 n_19 b_20 o_21 o_22 o_23 o_24 o_25) [⟨[],[0,1,2,3,4,5,6,22,38,54,70],[5,6,7,8,9,11]⟩,⟨[],[0,1,2,3,4,5,6,22,38,54,70],[5,6,7,8,9,11]⟩,⟨[],[0,1,2,3,4,5,6,22,38,54,70],[5,6,7,8,9,11]⟩,⟨[],[0,1,2,3,4,5,6,22,38,54,70],[5,6,7,8,9,11]⟩]) (fun e1=>Sg.cut 3 jQ (bT ap (Jh n_0 c_1 l_2 n_3 c_4 l_5 n_6 c_7 l_8 a_9 b_20 o_21 o_22 o_23 o_24 o_25) [⟨[],[0,1,2,3,4,5],[10]⟩,⟨[],[0,1,2,3,4,5,6,7,8,9,10,59,91,60,92],[5,6,7,8,9]⟩]) (fun ⟨i2,i3,i4,i5,a6,a7,l8,l9⟩=>Sg.cut 1 jQ (bT ap (yO n_0 c_1 l_2 n_3 c_4 l_5 n_6 c_7 l_8 a_9 b_20 o_21 o_22 o_23 o_24 o_25 i2 i3 i4 i5 a6 a7 l8 l9) [⟨[],[0,1,2,3,4,5,6,7,8,9,10,31,11,12,13,14],[5,6,7,8,9,28]⟩]) (fun _=>Sg.cut 1 jQ (sgb (wh n_0 c_1 l_2 n_3 c_4 l_5 n_6 c_7) 0 jQ (Jf _) (sgr (pu n_0 c_1 l_2 n_3 c_4 l_5 n_6 c_7 l_8 a_9 b_20 o_21 o_22 o_23 o_24 o_25 i2 i3 i4 i5 a6 a7 l8 l9) 17 eR [] [.ptr 11 1 0 0] (wj n_0 c_1 l_2 n_3 c_4 l_5 n_6 c_7 a_9 b_20 o_21 o_22 o_23 o_24 o_25 i2 i3 i4 i5) noX (wh n_0 c_1 l_2 n_3 c_4 l_5 n_6 c_7) (Sum.elim (fun _=>⟨[],[0,1,2,3,4,5],[]⟩) (fun a=>a.elim)) ((Sum.elim (fun (l97,a98,a99,a100,a101,l102,l103)=>.inl l97) (fun a:Empty=>a.elim)):((List Nat)×Nat×Nat×Nat×Nat×(List Nat)×(List Nat))⊕(Empty)→((List Nat))⊕(((List Nat))⊕(bF))) (rT.cut 1 iK (BS ap (Ji n_0 c_1 l_2 n_3 c_4 l_5 n_6 c_7 l_8 a_9 b_20 o_21 o_22 o_23 o_24 o_25 i2 i3 i4 i5 a6 a7 l8 l9) [⟨[],[0,1,2,3,4,5,6,7,8,9,10,11,12,13,14,15,16],[0,1,6,7]⟩]) (fun _=>rT.cut 1 iK (aeE ⟨[],[0,1,2,3,4,5,6,7,8,9,10,11,12,13,14,15,16],[0,1,6,7]⟩ (lC n_0 c_1 l_2 n_3 c_4 l_5 n_6 c_7 a_9 b_20 o_21 o_22 o_23 o_24 o_25 i2 i3 i4 i5) (pv n_0 c_1 l_2 n_3 c_4 l_5 n_6 c_7 a_9 b_20 o_21 o_22 o_23 o_24 o_25 i2 i3 i4 i5) 0 iK (GZ _) (fun ⟨a46,l47,a48,a49,a50,a51,l52,l53⟩=>Hi n_0 c_1 l_2 n_3 c_4 l_5 n_6 c_7 l_8 a_9 b_20 o_21 o_22 o_23 o_24 o_25 i2 i3 i4 i5 a6 a7 l8 l9 a46 l47 a48 a49 a50 a51 l52 l53)) (fun ⟨l90,a91,a92,a93,a94,l95,l96⟩=>BS ap (wj n_0 c_1 l_2 n_3 c_4 l_5 n_6 c_7 a_9 b_20 o_21 o_22 o_23 o_24 o_25 i2 i3 i4 i5) [⟨[],[0,1,2,3,4,5,6,7,8,9,10,11,12,13,14,15,16],[]⟩]))) (fun | .inl ⟨l97,a98,a99,a100,a101,l102,l103⟩=>by exact rfl | .inr a=>a.elim) (fun | .inl ⟨l97,a98,a99,a100,a101,l102,l103⟩=>by kernel_rfl | .inr a=>a.elim))) (fun l104=>bT ap lQ [⟨[],[0,1,2,3,4,5],[10]⟩])))))
    (fun x=>by cases x with | r0 a105 a106 a107 l108 a109 a110 l111 a112 a113 l114=>exact ln [.int .i64 ((a105:Nat):Int)])
def mF:Option bF→Bool
  | some _=>true
  | none=>false
def uz:Option bF→Nat
  | some (.r0 x _ _ _ _ _ _ _ _ _)=>x
  | _=>0
def uA:Option bF→Nat
  | some (.r0 _ x _ _ _ _ _ _ _ _)=>x
  | _=>0
def uB:Option bF→Nat
  | some (.r0 _ _ x _ _ _ _ _ _ _)=>x
  | _=>0
def uC:Option bF→List Nat
  | some (.r0 _ _ _ x _ _ _ _ _ _)=>x
  | _=>[]
def uD:Option bF→Nat
  | some (.r0 _ _ _ _ x _ _ _ _ _)=>x
  | _=>0
def uE:Option bF→Nat
  | some (.r0 _ _ _ _ _ x _ _ _ _)=>x
  | _=>0
def uF:Option bF→List Nat
  | some (.r0 _ _ _ _ _ _ x _ _ _)=>x
  | _=>[]
def oe:Option bF→Nat
  | some (.r0 _ _ _ _ _ _ _ x _ _)=>x
  | _=>0
def og:Option bF→Nat
  | some (.r0 _ _ _ _ _ _ _ _ x _)=>x
  | _=>0
def oh:Option bF→List Nat
  | some (.r0 _ _ _ _ _ _ _ _ _ x)=>x
  | _=>[]
theorem Jk{x:Option bF}(h:mF x=true) :x=some (.r0 (uz x) (uA x) (uB x) (uC x) (uD x) (uE x) (uF x) (oe x) (og x) (oh x)):=by
  unfold mF at h
  split at h<;>first | rfl | (cases h;done) | (rename_i y;cases y;rfl)
noncomputable def AN:aF:=Ib nH [.vs [.lsl0 1],.fl,.vs [.lsl0 3],.fl,.vs [.lsl0 5],.fl] (.cons (.flt false) (.cons (.agg (.cons (.lptr 0 1 0 0) (.cons (.int .i64) (.cons (.int .i64) (.cons (.int .i64) (.cons (.int .i64) (.cons (.int .i64) .nil))))))) (.cons (.agg (.cons (.lptr 2 1 0 0) (.cons (.int .i64) (.cons (.int .i64) (.cons (.int .i64) (.cons (.int .i64) (.cons (.int .i64) .nil))))))) (.cons (.flt false) (.cons (.agg (.cons (.lptr 4 1 0 0) (.cons (.int .i64) (.cons (.int .i64) (.cons (.int .i64) (.cons (.int .i64) (.cons (.int .i64) .nil))))))) .nil))))) fun x t=>(fun q=>[⟨tn (.r0 (uz q) (uA q) (uB q) (uC q) (uD q) (uE q) (uF q) (oe q) (og q) (oh q)),[mF q]⟩]) (fX x.1.1.1 x.1.1.2 x.2.1 x.2.2.1.1.1 x.2.2.1.1.2 x.2.2.2.1 x.2.2.2.2.1.1.1 x.2.2.2.2.1.1.2 x.2.2.2.2.2.1 t.1 t.2.1.2.1 t.2.1.2.2.1 t.2.1.2.2.2.1 t.2.1.2.2.2.2.1 t.2.1.2.2.2.2.2.1 t.2.2.1.2.1 t.2.2.1.2.2.1 t.2.2.1.2.2.2.1 t.2.2.1.2.2.2.2.1 t.2.2.1.2.2.2.2.2.1 t.2.2.2.1 t.2.2.2.2.1.2.1 t.2.2.2.2.1.2.2.1 t.2.2.2.2.1.2.2.2.1 t.2.2.2.2.1.2.2.2.2.1 t.2.2.2.2.1.2.2.2.2.2.1)
theorem Fs:aV prog AN:=vT fun x t=>(nh (fun h=>Jj x.1.1.1 x.1.1.2 x.2.1 x.2.2.1.1.1 x.2.2.1.1.2 x.2.2.2.1 x.2.2.2.2.1.1.1 x.2.2.2.2.1.1.2 x.2.2.2.2.2.1 t.1 t.2.1.2.1 t.2.1.2.2.1 t.2.1.2.2.2.1 t.2.1.2.2.2.2.1 t.2.1.2.2.2.2.2.1 t.2.2.1.2.1 t.2.2.1.2.2.1 t.2.2.1.2.2.2.1 t.2.2.1.2.2.2.2.1 t.2.2.1.2.2.2.2.2.1 t.2.2.2.1 t.2.2.2.2.1.2.1 t.2.2.2.2.1.2.2.1 t.2.2.2.2.1.2.2.2.1 t.2.2.2.2.1.2.2.2.2.1 t.2.2.2.2.1.2.2.2.2.2.1 (Jk h)) vU)
noncomputable def AO:List aF:=AN::dE
theorem bp:aP prog (aN AO):=ay Fs ap
inductive aQ where
  | r0 (a87:Nat) (i88:Int) (i89:Int) (a90:Nat) (a91:Nat) (l92:List Nat)
def kX:aQ→AE×aH
  | .r0 a87 i88 i89 a90 a91 l92=>(.ret,⟨ah 127 [(8,.ptr 0 1 0 0),(9,.int .i64 ((a87:Nat):Int))],[(0,.vs [.int .i64 i88,.int .i64 i89,.sl 1 1 1 0 a90 a91]),(1,.fl l92)],2⟩)
theorem bI:jC kX:=by intro x;cases x<;>(intro h;cases h)
theorem rm(id:Nat) :jZ id kX:=by intro x;cases x<;>(intro h;cases h)
def tp:aQ→gw
  | .r0 a87 i88 i89 a90 a91 l92=>⟨.tup [.agg [.int .i64 i88,.int .i64 i89,.sl 0 1 1 0 a90 a91],.int .i64 ((a87:Nat):Int)],[some (.fl l92)]⟩
noncomputable def Hl:List Code:=cJ (kF sJ)
def Jl(v_0:Lv)(s_1:List Nat)(u_2:Int)(u_3:Int)(v_4:Lv)(u_5:List Nat)(v_6:Int)(v_7:Int)(v_8:Lv)(v_9:List Nat)(k_10:Int)(e1:Nat) :aH:=⟨ah 127 [(0,.imm v_0 (.fl s_1) 1 1 0 (List.length s_1)),(3,.int .i64 k_10),(5,.ptr 0 1 0 0),(6,.ptr 1 1 0 0),(8,.ptr 2 1 0 0),(10,.int .i64 ((e1:Nat):Int))],[(0,.vs [.int .i64 u_2,.int .i64 u_3,.imm v_4 (.fl u_5) 1 1 0 (List.length u_5)]),(1,.vs [.int .i64 v_6,.int .i64 v_7,.imm v_8 (.fl v_9) 1 1 0 (List.length v_9)]),(2,.vs [.int .i64 (0:Int),.int .i64 (0:Int),.nsl])],3⟩
def pA(s_1:List Nat) :T ((Nat)⊕(aQ)) :=
  .need (bv 0 (List.length s_1) s_1)<|.need (ut (ta (ab 0 (List.length s_1) s_1)))<|.leaf (.inl (vz (ta (ab 0 (List.length s_1) s_1))))
def Jm(v_0:Lv)(s_1:List Nat)(u_2:Int)(u_3:Int)(v_4:Lv)(u_5:List Nat)(v_6:Int)(v_7:Int)(v_8:Lv)(v_9:List Nat)(k_10:Int)(e1:Nat)(_:Unit) :aH:=⟨ah 127 [(0,.imm v_0 (.fl s_1) 1 1 0 (List.length s_1)),(3,.int .i64 k_10),(5,.ptr 0 1 0 0),(6,.ptr 1 1 0 0),(8,.ptr 2 1 0 0),(10,.int .i64 ((e1:Nat):Int)),(11,.ptr 3 1 0 0),(12,.int .i64 (2:Int))],[(0,.vs [.int .i64 u_2,.int .i64 u_3,.imm v_4 (.fl u_5) 1 1 0 (List.length u_5)]),(1,.vs [.int .i64 v_6,.int .i64 v_7,.imm v_8 (.fl v_9) 1 1 0 (List.length v_9)]),(2,.vs [.int .i64 (0:Int),.int .i64 (0:Int),.nsl]),(3,.vs [.nptr,.int .i64 (0:Int),.int .i64 (0:Int),.int .i64 (0:Int),.int .i64 (0:Int),.int .i64 (0:Int)])],4⟩
def Jn(v_0:Lv)(s_1:List Nat)(u_2:Int)(u_3:Int)(v_4:Lv)(u_5:List Nat)(v_6:Int)(v_7:Int)(v_8:Lv)(v_9:List Nat)(k_10:Int)(e1:Nat) :Int×Int×Nat×(List Nat)→aH:=fun (i2,i3,a4,l5)=>⟨ah 127 [(0,.imm v_0 (.fl s_1) 1 1 0 (List.length s_1)),(3,.int .i64 k_10),(5,.ptr 0 1 0 0),(6,.ptr 1 1 0 0),(8,.ptr 2 1 0 0),(10,.int .i64 ((e1:Nat):Int)),(11,.ptr 3 1 0 0),(12,.int .i64 (0:Int))],[(0,.vs [.int .i64 u_2,.int .i64 u_3,.imm v_4 (.fl u_5) 1 1 0 (List.length u_5)]),(1,.vs [.int .i64 v_6,.int .i64 v_7,.imm v_8 (.fl v_9) 1 1 0 (List.length v_9)]),(2,.vs [.int .i64 (0:Int),.int .i64 (0:Int),.nsl]),(3,.vs [.ptr 4 1 0 0,.int .i64 i2,.int .i64 i3,.int .i64 (0:Int),.int .i64 i3,.int .i64 (1:Int)]),(4,.vs [.sl 5 1 1 0 a4 a4]),(5,.fl l5)],6⟩
def fF(u_2:Int)(u_3:Int)(u_5:List Nat) :T (((Unit)⊕((Int×Int×Nat×(List Nat))))⊕(aQ)) :=
  .alt 0
    (.need (bv 0 (List.length u_5) u_5)<|.need (pt (bP u_2 u_3 (ab 0 (List.length u_5) u_5)))<|.leaf (.inl (.inl ())))
    (.alt 1
      (.need (bv 0 (List.length u_5) u_5)<|.need (jj (bP u_2 u_3 (ab 0 (List.length u_5) u_5)))<|.leaf (.inl (.inr ((jk (bP u_2 u_3 (ab 0 (List.length u_5) u_5))),(jl (bP u_2 u_3 (ab 0 (List.length u_5) u_5))),(jm (bP u_2 u_3 (ab 0 (List.length u_5) u_5))),(jn (bP u_2 u_3 (ab 0 (List.length u_5) u_5)))))))
      (.fail))
def Jo(v_0:Lv)(s_1:List Nat)(u_2:Int)(u_3:Int)(v_4:Lv)(u_5:List Nat)(v_6:Int)(v_7:Int)(v_8:Lv)(v_9:List Nat)(k_10:Int)(e1:Nat)(_:Unit) :aH:=⟨ah 127 [(0,.imm v_0 (.fl s_1) 1 1 0 (List.length s_1)),(3,.int .i64 k_10),(5,.ptr 0 1 0 0),(6,.ptr 1 1 0 0),(8,.ptr 2 1 0 0),(10,.int .i64 ((e1:Nat):Int)),(11,.ptr 3 1 0 0),(12,.int .i64 (2:Int)),(13,.ptr 4 1 0 0),(14,.int .i64 (2:Int))],[(0,.vs [.int .i64 u_2,.int .i64 u_3,.imm v_4 (.fl u_5) 1 1 0 (List.length u_5)]),(1,.vs [.int .i64 v_6,.int .i64 v_7,.imm v_8 (.fl v_9) 1 1 0 (List.length v_9)]),(2,.vs [.int .i64 (0:Int),.int .i64 (0:Int),.nsl]),(3,.vs [.nptr,.int .i64 (0:Int),.int .i64 (0:Int),.int .i64 (0:Int),.int .i64 (0:Int),.int .i64 (0:Int)]),(4,.vs [.nptr,.int .i64 (0:Int),.int .i64 (0:Int),.int .i64 (0:Int),.int .i64 (0:Int),.int .i64 (0:Int)])],5⟩
def Jp(v_0:Lv)(s_1:List Nat)(u_2:Int)(u_3:Int)(v_4:Lv)(u_5:List Nat)(v_6:Int)(v_7:Int)(v_8:Lv)(v_9:List Nat)(k_10:Int)(e1:Nat) :Int×Int×Nat×(List Nat)→aH:=fun (i6,i7,a8,l9)=>⟨ah 127 [(0,.imm v_0 (.fl s_1) 1 1 0 (List.length s_1)),(3,.int .i64 k_10),(5,.ptr 0 1 0 0),(6,.ptr 1 1 0 0),(8,.ptr 2 1 0 0),(10,.int .i64 ((e1:Nat):Int)),(11,.ptr 3 1 0 0),(12,.int .i64 (2:Int)),(13,.ptr 4 1 0 0),(14,.int .i64 (0:Int))],[(0,.vs [.int .i64 u_2,.int .i64 u_3,.imm v_4 (.fl u_5) 1 1 0 (List.length u_5)]),(1,.vs [.int .i64 v_6,.int .i64 v_7,.imm v_8 (.fl v_9) 1 1 0 (List.length v_9)]),(2,.vs [.int .i64 (0:Int),.int .i64 (0:Int),.nsl]),(3,.vs [.nptr,.int .i64 (0:Int),.int .i64 (0:Int),.int .i64 (0:Int),.int .i64 (0:Int),.int .i64 (0:Int)]),(4,.vs [.ptr 5 1 0 0,.int .i64 i6,.int .i64 i7,.int .i64 (0:Int),.int .i64 i7,.int .i64 (1:Int)]),(5,.vs [.sl 6 1 1 0 a8 a8]),(6,.fl l9)],7⟩
def iO(v_6:Int)(v_7:Int)(v_9:List Nat) :T (((Unit)⊕((Int×Int×Nat×(List Nat))))⊕(aQ)) :=
  .alt 0
    (.need (bv 0 (List.length v_9) v_9)<|.need (pt (bP v_6 v_7 (ab 0 (List.length v_9) v_9)))<|.leaf (.inl (.inl ())))
    (.alt 1
      (.need (bv 0 (List.length v_9) v_9)<|.need (jj (bP v_6 v_7 (ab 0 (List.length v_9) v_9)))<|.leaf (.inl (.inr ((jk (bP v_6 v_7 (ab 0 (List.length v_9) v_9))),(jl (bP v_6 v_7 (ab 0 (List.length v_9) v_9))),(jm (bP v_6 v_7 (ab 0 (List.length v_9) v_9))),(jn (bP v_6 v_7 (ab 0 (List.length v_9) v_9)))))))
      (.fail))
def pB(e1:Nat) :T ((Empty)⊕(aQ)) :=
  .ask (((e1:Nat):Int)==(2:Int))
    (.leaf (.inr (.r0 2 (0:Int) (0:Int) 0 0 ([]:List Nat))))
    (.ask ((2:Int) != (0:Int))
      (.leaf (.inr (.r0 2 (0:Int) (0:Int) 0 0 ([]:List Nat))))
      (.fail))
def pC(e1:Nat) :T ((Empty)⊕(aQ)) :=
  .ask (((e1:Nat):Int)==(2:Int))
    (.leaf (.inr (.r0 2 (0:Int) (0:Int) 0 0 ([]:List Nat))))
    (.ask ((2:Int) != (0:Int))
      (.leaf (.inr (.r0 2 (0:Int) (0:Int) 0 0 ([]:List Nat))))
      (.fail))
noncomputable def Hm:List Code:=((Hl.drop 2).drop 1)
def Jq(v_0:Lv)(s_1:List Nat)(u_2:Int)(u_3:Int)(v_4:Lv)(u_5:List Nat)(v_6:Int)(v_7:Int)(v_8:Lv)(v_9:List Nat)(k_10:Int)(e1:Nat)(i2:Int)(i3:Int)(a4:Nat)(l5:List Nat)(_:Unit) :aH:=⟨ah 127 [(0,.imm v_0 (.fl s_1) 1 1 0 (List.length s_1)),(3,.int .i64 k_10),(5,.ptr 0 1 0 0),(6,.ptr 1 1 0 0),(8,.ptr 2 1 0 0),(10,.int .i64 ((e1:Nat):Int)),(11,.ptr 3 1 0 0),(12,.int .i64 (0:Int)),(13,.ptr 4 1 0 0),(14,.int .i64 (2:Int))],[(0,.vs [.int .i64 u_2,.int .i64 u_3,.imm v_4 (.fl u_5) 1 1 0 (List.length u_5)]),(1,.vs [.int .i64 v_6,.int .i64 v_7,.imm v_8 (.fl v_9) 1 1 0 (List.length v_9)]),(2,.vs [.int .i64 (0:Int),.int .i64 (0:Int),.nsl]),(3,.vs [.ptr 5 1 0 0,.int .i64 i2,.int .i64 i3,.int .i64 (0:Int),.int .i64 i3,.int .i64 (1:Int)]),(4,.vs [.nptr,.int .i64 (0:Int),.int .i64 (0:Int),.int .i64 (0:Int),.int .i64 (0:Int),.int .i64 (0:Int)]),(5,.vs [.sl 6 1 1 0 a4 a4]),(6,.fl l5)],7⟩
def Jr(v_0:Lv)(s_1:List Nat)(u_2:Int)(u_3:Int)(v_4:Lv)(u_5:List Nat)(v_6:Int)(v_7:Int)(v_8:Lv)(v_9:List Nat)(k_10:Int)(e1:Nat)(i2:Int)(i3:Int)(a4:Nat)(l5:List Nat) :Int×Int×Nat×(List Nat)→aH:=fun (i10,i11,a12,l13)=>⟨ah 127 [(0,.imm v_0 (.fl s_1) 1 1 0 (List.length s_1)),(3,.int .i64 k_10),(5,.ptr 0 1 0 0),(6,.ptr 1 1 0 0),(8,.ptr 2 1 0 0),(10,.int .i64 ((e1:Nat):Int)),(11,.ptr 3 1 0 0),(12,.int .i64 (0:Int)),(13,.ptr 4 1 0 0),(14,.int .i64 (0:Int))],[(0,.vs [.int .i64 u_2,.int .i64 u_3,.imm v_4 (.fl u_5) 1 1 0 (List.length u_5)]),(1,.vs [.int .i64 v_6,.int .i64 v_7,.imm v_8 (.fl v_9) 1 1 0 (List.length v_9)]),(2,.vs [.int .i64 (0:Int),.int .i64 (0:Int),.nsl]),(3,.vs [.ptr 5 1 0 0,.int .i64 i2,.int .i64 i3,.int .i64 (0:Int),.int .i64 i3,.int .i64 (1:Int)]),(4,.vs [.ptr 6 1 0 0,.int .i64 i10,.int .i64 i11,.int .i64 (0:Int),.int .i64 i11,.int .i64 (1:Int)]),(5,.vs [.sl 7 1 1 0 a4 a4]),(6,.vs [.sl 8 1 1 0 a12 a12]),(7,.fl l5),(8,.fl l13)],9⟩
def fG(v_6:Int)(v_7:Int)(v_9:List Nat) :T (((Unit)⊕((Int×Int×Nat×(List Nat))))⊕(aQ)) :=
  .alt 0
    (.need (bv 0 (List.length v_9) v_9)<|.need (pt (bP v_6 v_7 (ab 0 (List.length v_9) v_9)))<|.leaf (.inl (.inl ())))
    (.alt 1
      (.need (bv 0 (List.length v_9) v_9)<|.need (jj (bP v_6 v_7 (ab 0 (List.length v_9) v_9)))<|.leaf (.inl (.inr ((jk (bP v_6 v_7 (ab 0 (List.length v_9) v_9))),(jl (bP v_6 v_7 (ab 0 (List.length v_9) v_9))),(jm (bP v_6 v_7 (ab 0 (List.length v_9) v_9))),(jn (bP v_6 v_7 (ab 0 (List.length v_9) v_9)))))))
      (.fail))
def pD(e1:Nat) :T ((Empty)⊕(aQ)) :=
  .ask (((e1:Nat):Int)==(2:Int))
    (.leaf (.inr (.r0 2 (0:Int) (0:Int) 0 0 ([]:List Nat))))
    (.ask ((0:Int) != (0:Int))
      (.fail)
      (.ask ((2:Int) != (0:Int))
        (.leaf (.inr (.r0 2 (0:Int) (0:Int) 0 0 ([]:List Nat))))
        (.fail)))
noncomputable def Hn:List Code:=(Hm.drop 1)
def Js(v_0:Lv)(s_1:List Nat)(u_2:Int)(u_3:Int)(v_4:Lv)(u_5:List Nat)(v_6:Int)(v_7:Int)(v_8:Lv)(v_9:List Nat)(k_10:Int)(i2:Int)(i3:Int)(a4:Nat)(l5:List Nat) :Int×Int×Nat×(List Nat)→aH:=fun (i14,i15,a16,l17)=>⟨ah 127 [(0,.imm v_0 (.fl s_1) 1 1 0 (List.length s_1)),(3,.int .i64 k_10),(5,.ptr 0 1 0 0),(6,.ptr 1 1 0 0),(8,.ptr 2 1 0 0),(11,.ptr 3 1 0 0),(15,.ptr 4 1 0 0)],[(0,.vs [.int .i64 u_2,.int .i64 u_3,.imm v_4 (.fl u_5) 1 1 0 (List.length u_5)]),(1,.vs [.int .i64 v_6,.int .i64 v_7,.imm v_8 (.fl v_9) 1 1 0 (List.length v_9)]),(2,.vs [.int .i64 (0:Int),.int .i64 (0:Int),.nsl]),(3,.vs [.ptr 5 1 0 0,.int .i64 i2,.int .i64 i3,.int .i64 (0:Int),.int .i64 i3,.int .i64 (1:Int)]),(4,.vs [.ptr 6 1 0 0,.int .i64 i14,.int .i64 i15,.int .i64 (0:Int),.int .i64 i15,.int .i64 (1:Int)]),(5,.vs [.sl 7 1 1 0 a4 a4]),(6,.vs [.sl 8 1 1 0 a16 a16]),(7,.fl l5),(8,.fl l17)],9⟩
def iP(s_1 : List Nat)(u_3 : Int)(v_6 : Int)(v_7 : Int)(k_10 : Int)(e1 : Nat)(i10 : Int)(i11 : Int)(a12 : Nat)(l13 : List Nat) : T ((Int × Int × Nat × (List Nat)) ⊕ (aQ)) :=
  .ask (((e1 : Nat) : Int) == (2 : Int))
    (.leaf (.inr (.r0 2 (0:Int) (0:Int) 0 0 ([]:List Nat))))
    (.ask ((0 : Int) != (0 : Int))
      (.fail)
      (.ask ((0 : Int) != (0 : Int))
        (.fail)
        (.ask (u_3 != (((List.length s_1):Nat):Int))
          (.leaf (.inr (.r0 8 (0:Int) (0:Int) 0 0 ([]:List Nat))))
          (.ask (v_7 != (((List.length s_1):Nat):Int))
            (.leaf (.inr (.r0 8 (0:Int) (0:Int) 0 0 ([]:List Nat))))
            (.ask (decide (k_10<(0:Int)))
              (.leaf (.inr (.r0 8 (0:Int) (0:Int) 0 0 ([]:List Nat))))
              (.ask (decide (k_10>(((List.length s_1):Nat):Int)))
                (.leaf (.inr (.r0 8 (0:Int) (0:Int) 0 0 ([]:List Nat))))
                (.ask (((e1:Nat):Int) != (0:Int))
                  (.leaf (.inr (.r0 e1 (0:Int) (0:Int) 0 0 ([]:List Nat))))
                  (.alt 1
                    (.need (dv (aa a12 a12 l13 i10 i11 (0:Int) i11 (1:Int) (0:Int) (0:Int) v_6 k_10))<|.need (bv 0 (aK (aa a12 a12 l13 i10 i11 (0:Int) i11 (1:Int) (0:Int) (0:Int) v_6 k_10)) (aL (aa a12 a12 l13 i10 i11 (0:Int) i11 (1:Int) (0:Int) (0:Int) v_6 k_10)))<|.need (eU (bj (ab 0 (aK (aa a12 a12 l13 i10 i11 (0:Int) i11 (1:Int) (0:Int) (0:Int) v_6 k_10)) (aL (aa a12 a12 l13 i10 i11 (0:Int) i11 (1:Int) (0:Int) (0:Int) v_6 k_10))) (aX (aa a12 a12 l13 i10 i11 (0:Int) i11 (1:Int) (0:Int) (0:Int) v_6 k_10)) (aY (aa a12 a12 l13 i10 i11 (0:Int) i11 (1:Int) (0:Int) (0:Int) v_6 k_10)) (aZ (aa a12 a12 l13 i10 i11 (0:Int) i11 (1:Int) (0:Int) (0:Int) v_6 k_10)) (ba (aa a12 a12 l13 i10 i11 (0:Int) i11 (1:Int) (0:Int) (0:Int) v_6 k_10)) (bb (aa a12 a12 l13 i10 i11 (0:Int) i11 (1:Int) (0:Int) (0:Int) v_6 k_10))))<|.leaf (.inl ((fh (bj (ab 0 (aK (aa a12 a12 l13 i10 i11 (0:Int) i11 (1:Int) (0:Int) (0:Int) v_6 k_10)) (aL (aa a12 a12 l13 i10 i11 (0:Int) i11 (1:Int) (0:Int) (0:Int) v_6 k_10))) (aX (aa a12 a12 l13 i10 i11 (0:Int) i11 (1:Int) (0:Int) (0:Int) v_6 k_10)) (aY (aa a12 a12 l13 i10 i11 (0:Int) i11 (1:Int) (0:Int) (0:Int) v_6 k_10)) (aZ (aa a12 a12 l13 i10 i11 (0:Int) i11 (1:Int) (0:Int) (0:Int) v_6 k_10)) (ba (aa a12 a12 l13 i10 i11 (0:Int) i11 (1:Int) (0:Int) (0:Int) v_6 k_10)) (bb (aa a12 a12 l13 i10 i11 (0:Int) i11 (1:Int) (0:Int) (0:Int) v_6 k_10)))),(fi (bj (ab 0 (aK (aa a12 a12 l13 i10 i11 (0:Int) i11 (1:Int) (0:Int) (0:Int) v_6 k_10)) (aL (aa a12 a12 l13 i10 i11 (0:Int) i11 (1:Int) (0:Int) (0:Int) v_6 k_10))) (aX (aa a12 a12 l13 i10 i11 (0:Int) i11 (1:Int) (0:Int) (0:Int) v_6 k_10)) (aY (aa a12 a12 l13 i10 i11 (0:Int) i11 (1:Int) (0:Int) (0:Int) v_6 k_10)) (aZ (aa a12 a12 l13 i10 i11 (0:Int) i11 (1:Int) (0:Int) (0:Int) v_6 k_10)) (ba (aa a12 a12 l13 i10 i11 (0:Int) i11 (1:Int) (0:Int) (0:Int) v_6 k_10)) (bb (aa a12 a12 l13 i10 i11 (0:Int) i11 (1:Int) (0:Int) (0:Int) v_6 k_10)))),(fj (bj (ab 0 (aK (aa a12 a12 l13 i10 i11 (0:Int) i11 (1:Int) (0:Int) (0:Int) v_6 k_10)) (aL (aa a12 a12 l13 i10 i11 (0:Int) i11 (1:Int) (0:Int) (0:Int) v_6 k_10))) (aX (aa a12 a12 l13 i10 i11 (0:Int) i11 (1:Int) (0:Int) (0:Int) v_6 k_10)) (aY (aa a12 a12 l13 i10 i11 (0:Int) i11 (1:Int) (0:Int) (0:Int) v_6 k_10)) (aZ (aa a12 a12 l13 i10 i11 (0:Int) i11 (1:Int) (0:Int) (0:Int) v_6 k_10)) (ba (aa a12 a12 l13 i10 i11 (0:Int) i11 (1:Int) (0:Int) (0:Int) v_6 k_10)) (bb (aa a12 a12 l13 i10 i11 (0:Int) i11 (1:Int) (0:Int) (0:Int) v_6 k_10)))),(fk (bj (ab 0 (aK (aa a12 a12 l13 i10 i11 (0:Int) i11 (1:Int) (0:Int) (0:Int) v_6 k_10)) (aL (aa a12 a12 l13 i10 i11 (0:Int) i11 (1:Int) (0:Int) (0:Int) v_6 k_10))) (aX (aa a12 a12 l13 i10 i11 (0:Int) i11 (1:Int) (0:Int) (0:Int) v_6 k_10)) (aY (aa a12 a12 l13 i10 i11 (0:Int) i11 (1:Int) (0:Int) (0:Int) v_6 k_10)) (aZ (aa a12 a12 l13 i10 i11 (0:Int) i11 (1:Int) (0:Int) (0:Int) v_6 k_10)) (ba (aa a12 a12 l13 i10 i11 (0:Int) i11 (1:Int) (0:Int) (0:Int) v_6 k_10)) (bb (aa a12 a12 l13 i10 i11 (0:Int) i11 (1:Int) (0:Int) (0:Int) v_6 k_10)))))))
                    (.fail)))))))))
def Jt(v_0:Lv)(s_1:List Nat)(u_2:Int)(u_3:Int)(v_4:Lv)(u_5:List Nat)(v_6:Int)(v_7:Int)(v_8:Lv)(v_9:List Nat)(k_10:Int)(i2:Int)(i3:Int)(a4:Nat)(l5:List Nat)(i14:Int)(i15:Int)(a16:Nat)(l17:List Nat)(_:Unit) :aH:=⟨ah 127 [(0,.imm v_0 (.fl s_1) 1 1 0 (List.length s_1)),(3,.int .i64 k_10),(5,.ptr 0 1 0 0),(6,.ptr 1 1 0 0),(8,.ptr 2 1 0 0),(11,.ptr 3 1 0 0),(15,.ptr 4 1 0 0),(81,.int .i64 k_10),(82,.int .i64 (0:Int))],[(0,.vs [.int .i64 u_2,.int .i64 u_3,.imm v_4 (.fl u_5) 1 1 0 (List.length u_5)]),(1,.vs [.int .i64 v_6,.int .i64 v_7,.imm v_8 (.fl v_9) 1 1 0 (List.length v_9)]),(2,.vs [.int .i64 (0:Int),.int .i64 (0:Int),.nsl]),(3,.vs [.ptr 5 1 0 0,.int .i64 i2,.int .i64 i3,.int .i64 (0:Int),.int .i64 i3,.int .i64 (1:Int)]),(4,.vs [.ptr 6 1 0 0,.int .i64 i14,.int .i64 i15,.int .i64 (0:Int),.int .i64 i15,.int .i64 (1:Int)]),(5,.vs [.sl 7 1 1 0 a4 a4]),(6,.vs [.sl 8 1 1 0 a16 a16]),(7,.fl l5),(8,.fl l17)],9⟩
def Ho:T ((Unit)⊕(aQ)) :=
  .leaf (.inl ())
def lE(v_0:Lv)(s_1:List Nat)(u_2:Int)(u_3:Int)(v_4:Lv)(u_5:List Nat)(v_6:Int)(v_7:Int)(v_8:Lv)(v_9:List Nat)(k_10:Int)(i2:Int)(i3:Int)(a4:Nat)(l5:List Nat)(i14:Int)(i15:Int) :Nat×Nat×Nat×(List Nat)→aH:=fun (a43,a44,a45,l46)=>⟨ah 127 [(0,.imm v_0 (.fl s_1) 1 1 0 (List.length s_1)),(3,.int .i64 k_10),(5,.ptr 0 1 0 0),(6,.ptr 1 1 0 0),(8,.ptr 2 1 0 0),(11,.ptr 3 1 0 0),(15,.ptr 4 1 0 0),(81,.int .i64 k_10),(82,.int .i64 ((a43:Nat):Int))],[(0,.vs [.int .i64 u_2,.int .i64 u_3,.imm v_4 (.fl u_5) 1 1 0 (List.length u_5)]),(1,.vs [.int .i64 v_6,.int .i64 v_7,.imm v_8 (.fl v_9) 1 1 0 (List.length v_9)]),(2,.vs [.int .i64 (0:Int),.int .i64 (0:Int),.nsl]),(3,.vs [.ptr 5 1 0 0,.int .i64 i2,.int .i64 i3,.int .i64 (0:Int),.int .i64 i3,.int .i64 (1:Int)]),(4,.vs [.ptr 6 1 0 0,.int .i64 i14,.int .i64 i15,.int .i64 (0:Int),.int .i64 i15,.int .i64 (1:Int)]),(5,.vs [.sl 7 1 1 0 a4 a4]),(6,.vs [.sl 8 1 1 0 a44 a45]),(7,.fl l5),(8,.fl l46)],9⟩
def pE(u_2:Int)(u_3:Int)(v_4:Lv)(u_5:List Nat)(v_6:Int)(v_7:Int)(v_8:Lv)(v_9:List Nat)(k_10:Int)(i2:Int)(i3:Int)(a4:Nat)(l5:List Nat)(i14:Int)(i15:Int) :Nat×Nat×(List Nat)→aH:=fun (a72,a73,l74)=>⟨ah 127 [(3,.int .i64 k_10),(5,.ptr 0 1 0 0),(6,.ptr 1 1 0 0),(8,.ptr 2 1 0 0),(11,.ptr 3 1 0 0),(15,.ptr 4 1 0 0)],[(0,.vs [.int .i64 u_2,.int .i64 u_3,.imm v_4 (.fl u_5) 1 1 0 (List.length u_5)]),(1,.vs [.int .i64 v_6,.int .i64 v_7,.imm v_8 (.fl v_9) 1 1 0 (List.length v_9)]),(2,.vs [.int .i64 (0:Int),.int .i64 (0:Int),.nsl]),(3,.vs [.ptr 5 1 0 0,.int .i64 i2,.int .i64 i3,.int .i64 (0:Int),.int .i64 i3,.int .i64 (1:Int)]),(4,.vs [.ptr 6 1 0 0,.int .i64 i14,.int .i64 i15,.int .i64 (0:Int),.int .i64 i15,.int .i64 (1:Int)]),(5,.vs [.sl 7 1 1 0 a4 a4]),(6,.vs [.sl 8 1 1 0 a72 a73]),(7,.fl l5),(8,.fl l74)],9⟩
noncomputable def wn:List Code:=cJ (dG (((((Hn.drop 2).drop 1).take 1)).headD .skip))
def Hp(v_0:Lv)(s_1:List Nat)(u_2:Int)(u_3:Int)(v_4:Lv)(u_5:List Nat)(v_6:Int)(v_7:Int)(v_8:Lv)(v_9:List Nat)(k_10:Int)(i2:Int)(i3:Int)(a4:Nat)(l5:List Nat)(i14:Int)(i15:Int)(a43:Nat)(a44:Nat)(a45:Nat)(l46:List Nat)(_:Unit) :aH:=⟨ah 127 [(0,.imm v_0 (.fl s_1) 1 1 0 (List.length s_1)),(3,.int .i64 k_10),(5,.ptr 0 1 0 0),(6,.ptr 1 1 0 0),(8,.ptr 2 1 0 0),(11,.ptr 3 1 0 0),(15,.ptr 4 1 0 0),(81,.int .i64 k_10),(82,.int .i64 ((a43:Nat):Int))],[(0,.vs [.int .i64 u_2,.int .i64 u_3,.imm v_4 (.fl u_5) 1 1 0 (List.length u_5)]),(1,.vs [.int .i64 v_6,.int .i64 v_7,.imm v_8 (.fl v_9) 1 1 0 (List.length v_9)]),(2,.vs [.int .i64 (0:Int),.int .i64 (0:Int),.nsl]),(3,.vs [.ptr 5 1 0 0,.int .i64 i2,.int .i64 i3,.int .i64 (0:Int),.int .i64 i3,.int .i64 (1:Int)]),(4,.vs [.ptr 6 1 0 0,.int .i64 i14,.int .i64 i15,.int .i64 (0:Int),.int .i64 i15,.int .i64 (1:Int)]),(5,.vs [.sl 7 1 1 0 a4 a4]),(6,.vs [.sl 8 1 1 0 a44 a45]),(7,.fl l5),(8,.fl l46)],9⟩
def Hq(k_10:Int)(a43:Nat)(a44:Nat)(a45:Nat)(l46:List Nat) :T ((Unit)⊕((Nat×Nat×(List Nat))⊕(aQ))) :=
  .ask (decide (((a43:Nat):Int)<k_10))
    (.leaf (.inl ()))
    (.leaf (.inr (.inl (a44,a45,l46))))
def pF(v_0:Lv)(s_1:List Nat)(u_2:Int)(u_3:Int)(v_4:Lv)(u_5:List Nat)(v_6:Int)(v_7:Int)(v_8:Lv)(v_9:List Nat)(k_10:Int)(i2:Int)(i3:Int)(a4:Nat)(l5:List Nat)(i14:Int)(i15:Int)(a43:Nat) :Nat×Nat×(List Nat)→aH:=fun (a69,a70,l71)=>⟨ah 127 [(0,.imm v_0 (.fl s_1) 1 1 0 (List.length s_1)),(3,.int .i64 k_10),(5,.ptr 0 1 0 0),(6,.ptr 1 1 0 0),(8,.ptr 2 1 0 0),(11,.ptr 3 1 0 0),(15,.ptr 4 1 0 0),(81,.int .i64 k_10),(82,.int .i64 ((a43:Nat):Int))],[(0,.vs [.int .i64 u_2,.int .i64 u_3,.imm v_4 (.fl u_5) 1 1 0 (List.length u_5)]),(1,.vs [.int .i64 v_6,.int .i64 v_7,.imm v_8 (.fl v_9) 1 1 0 (List.length v_9)]),(2,.vs [.int .i64 (0:Int),.int .i64 (0:Int),.nsl]),(3,.vs [.ptr 5 1 0 0,.int .i64 i2,.int .i64 i3,.int .i64 (0:Int),.int .i64 i3,.int .i64 (1:Int)]),(4,.vs [.ptr 6 1 0 0,.int .i64 i14,.int .i64 i15,.int .i64 (0:Int),.int .i64 i15,.int .i64 (1:Int)]),(5,.vs [.sl 7 1 1 0 a4 a4]),(6,.vs [.sl 8 1 1 0 a69 a70]),(7,.fl l5),(8,.fl l71)],9⟩
noncomputable def Hr:List Code:=cJ (inBlock ((((wn.drop 2).take 1)).headD .skip))
def Hs(v_0:Lv)(s_1:List Nat)(u_2:Int)(u_3:Int)(v_4:Lv)(u_5:List Nat)(v_6:Int)(v_7:Int)(v_8:Lv)(v_9:List Nat)(k_10:Int)(i2:Int)(i3:Int)(a4:Nat)(l5:List Nat)(i14:Int)(i15:Int)(a43:Nat) :Int×Int×Int×Int×Int×Nat×Nat×(List Nat)→aH:=fun (i47,i48,i49,i50,i51,a52,a53,l54)=>⟨ah 127 [(0,.imm v_0 (.fl s_1) 1 1 0 (List.length s_1)),(3,.int .i64 k_10),(5,.ptr 0 1 0 0),(6,.ptr 1 1 0 0),(8,.ptr 2 1 0 0),(11,.ptr 3 1 0 0),(15,.ptr 4 1 0 0),(16,.int .i64 ((a43:Nat):Int)),(17,.ptr 5 1 0 0),(81,.int .i64 k_10),(82,.int .i64 ((a43:Nat):Int))],[(0,.vs [.int .i64 u_2,.int .i64 u_3,.imm v_4 (.fl u_5) 1 1 0 (List.length u_5)]),(1,.vs [.int .i64 v_6,.int .i64 v_7,.imm v_8 (.fl v_9) 1 1 0 (List.length v_9)]),(2,.vs [.int .i64 (0:Int),.int .i64 (0:Int),.nsl]),(3,.vs [.ptr 6 1 0 0,.int .i64 i2,.int .i64 i3,.int .i64 (0:Int),.int .i64 i3,.int .i64 (1:Int)]),(4,.vs [.ptr 7 1 0 0,.int .i64 i14,.int .i64 i15,.int .i64 (0:Int),.int .i64 i15,.int .i64 (1:Int)]),(5,.vs [.ptr 7 1 0 0,.int .i64 i47,.int .i64 i48,.int .i64 i49,.int .i64 i50,.int .i64 i51]),(6,.vs [.sl 8 1 1 0 a4 a4]),(7,.vs [.sl 9 1 1 0 a52 a53]),(8,.fl l5),(9,.fl l54)],10⟩
def pG(i14:Int)(i15:Int)(a43:Nat)(a44:Nat)(a45:Nat)(l46:List Nat) :T ((Int×Int×Int×Int×Int×Nat×Nat×(List Nat))⊕((Nat×Nat×(List Nat))⊕((Nat×Nat×(List Nat))⊕(aQ)))) :=
  .alt 1
    (.need (dv (aa a44 a45 l46 i14 i15 (0:Int) i15 (1:Int) (0:Int) ((a43:Nat):Int) i14 (1:Int)))<|.leaf (.inl ((aX (aa a44 a45 l46 i14 i15 (0:Int) i15 (1:Int) (0:Int) ((a43:Nat):Int) i14 (1:Int))),(aY (aa a44 a45 l46 i14 i15 (0:Int) i15 (1:Int) (0:Int) ((a43:Nat):Int) i14 (1:Int))),(aZ (aa a44 a45 l46 i14 i15 (0:Int) i15 (1:Int) (0:Int) ((a43:Nat):Int) i14 (1:Int))),(ba (aa a44 a45 l46 i14 i15 (0:Int) i15 (1:Int) (0:Int) ((a43:Nat):Int) i14 (1:Int))),(bb (aa a44 a45 l46 i14 i15 (0:Int) i15 (1:Int) (0:Int) ((a43:Nat):Int) i14 (1:Int))),(aK (aa a44 a45 l46 i14 i15 (0:Int) i15 (1:Int) (0:Int) ((a43:Nat):Int) i14 (1:Int))),(bN (aa a44 a45 l46 i14 i15 (0:Int) i15 (1:Int) (0:Int) ((a43:Nat):Int) i14 (1:Int))),(aL (aa a44 a45 l46 i14 i15 (0:Int) i15 (1:Int) (0:Int) ((a43:Nat):Int) i14 (1:Int))))))
    (.fail)
def Ht(v_0:Lv)(s_1:List Nat)(u_2:Int)(u_3:Int)(v_4:Lv)(u_5:List Nat)(v_6:Int)(v_7:Int)(v_8:Lv)(v_9:List Nat)(k_10:Int)(i2:Int)(i3:Int)(a4:Nat)(l5:List Nat)(i14:Int)(i15:Int)(a43:Nat)(i47:Int)(i48:Int)(i49:Int)(i50:Int)(i51:Int)(a52:Nat)(a53:Nat)(l54:List Nat)(i55:Int) :aH:=⟨ah 127 [(0,.imm v_0 (.fl s_1) 1 1 0 (List.length s_1)),(3,.int .i64 k_10),(5,.ptr 0 1 0 0),(6,.ptr 1 1 0 0),(8,.ptr 2 1 0 0),(11,.ptr 3 1 0 0),(15,.ptr 4 1 0 0),(16,.int .i64 ((a43:Nat):Int)),(17,.ptr 5 1 0 0),(18,.fn (.func fY) [.agg [.ptr 6 1 0 0,.int .i64 i47,.int .i64 i48,.int .i64 i49,.int .i64 i50,.int .i64 i51]] []),(81,.int .i64 k_10),(82,.int .i64 ((a43:Nat):Int)),(91,.int .i64 i55),(92,.int .i64 (0:Int))],[(0,.vs [.int .i64 u_2,.int .i64 u_3,.imm v_4 (.fl u_5) 1 1 0 (List.length u_5)]),(1,.vs [.int .i64 v_6,.int .i64 v_7,.imm v_8 (.fl v_9) 1 1 0 (List.length v_9)]),(2,.vs [.int .i64 (0:Int),.int .i64 (0:Int),.nsl]),(3,.vs [.ptr 7 1 0 0,.int .i64 i2,.int .i64 i3,.int .i64 (0:Int),.int .i64 i3,.int .i64 (1:Int)]),(4,.vs [.ptr 6 1 0 0,.int .i64 i14,.int .i64 i15,.int .i64 (0:Int),.int .i64 i15,.int .i64 (1:Int)]),(5,.vs [.ptr 6 1 0 0,.int .i64 i47,.int .i64 i48,.int .i64 i49,.int .i64 i50,.int .i64 i51]),(6,.vs [.sl 8 1 1 0 a52 a53]),(7,.vs [.sl 9 1 1 0 a4 a4]),(8,.fl l54),(9,.fl l5)],10⟩
def pH(i47:Int)(i48:Int)(a52:Nat)(l54:List Nat) :T ((Int)⊕((Nat×Nat×(List Nat))⊕((Nat×Nat×(List Nat))⊕(aQ)))) :=
  .need (bv 0 a52 l54)<|.need (cj (bc i47 i48))<|.ask (!(cg (bc i47 i48)))
    (.leaf (.inl (0:Int)))
    (.need (cu .i64 (i47*i48))<|.leaf (.inl (i47*i48)))
def lF(v_0:Lv)(s_1:List Nat)(u_2:Int)(u_3:Int)(v_4:Lv)(u_5:List Nat)(v_6:Int)(v_7:Int)(v_8:Lv)(v_9:List Nat)(k_10:Int)(i2:Int)(i3:Int)(a4:Nat)(l5:List Nat)(i14:Int)(i15:Int)(a43:Nat)(i47:Int)(i48:Int)(i49:Int)(i50:Int)(i51:Int)(i55:Int) :Nat×Nat×Nat×(List Nat)→aH:=fun (a59,a60,a61,l62)=>⟨ah 127 [(0,.imm v_0 (.fl s_1) 1 1 0 (List.length s_1)),(3,.int .i64 k_10),(5,.ptr 0 1 0 0),(6,.ptr 1 1 0 0),(8,.ptr 2 1 0 0),(11,.ptr 3 1 0 0),(15,.ptr 4 1 0 0),(16,.int .i64 ((a43:Nat):Int)),(17,.ptr 5 1 0 0),(18,.fn (.func fY) [.agg [.ptr 6 1 0 0,.int .i64 i47,.int .i64 i48,.int .i64 i49,.int .i64 i50,.int .i64 i51]] []),(81,.int .i64 k_10),(82,.int .i64 ((a43:Nat):Int)),(91,.int .i64 i55),(92,.int .i64 ((a59:Nat):Int))],[(0,.vs [.int .i64 u_2,.int .i64 u_3,.imm v_4 (.fl u_5) 1 1 0 (List.length u_5)]),(1,.vs [.int .i64 v_6,.int .i64 v_7,.imm v_8 (.fl v_9) 1 1 0 (List.length v_9)]),(2,.vs [.int .i64 (0:Int),.int .i64 (0:Int),.nsl]),(3,.vs [.ptr 7 1 0 0,.int .i64 i2,.int .i64 i3,.int .i64 (0:Int),.int .i64 i3,.int .i64 (1:Int)]),(4,.vs [.ptr 6 1 0 0,.int .i64 i14,.int .i64 i15,.int .i64 (0:Int),.int .i64 i15,.int .i64 (1:Int)]),(5,.vs [.ptr 6 1 0 0,.int .i64 i47,.int .i64 i48,.int .i64 i49,.int .i64 i50,.int .i64 i51]),(6,.vs [.sl 8 1 1 0 a60 a61]),(7,.vs [.sl 9 1 1 0 a4 a4]),(8,.fl l62),(9,.fl l5)],10⟩
def wo(v_0:Lv)(s_1:List Nat)(u_2:Int)(u_3:Int)(v_4:Lv)(u_5:List Nat)(v_6:Int)(v_7:Int)(v_8:Lv)(v_9:List Nat)(k_10:Int)(i2:Int)(i3:Int)(a4:Nat)(l5:List Nat)(i14:Int)(i15:Int)(a43:Nat) :Nat×Nat×(List Nat)→aH:=fun (a66,a67,l68)=>⟨ah 127 [(0,.imm v_0 (.fl s_1) 1 1 0 (List.length s_1)),(3,.int .i64 k_10),(5,.ptr 0 1 0 0),(6,.ptr 1 1 0 0),(8,.ptr 2 1 0 0),(11,.ptr 3 1 0 0),(15,.ptr 4 1 0 0),(81,.int .i64 k_10),(82,.int .i64 ((a43:Nat):Int))],[(0,.vs [.int .i64 u_2,.int .i64 u_3,.imm v_4 (.fl u_5) 1 1 0 (List.length u_5)]),(1,.vs [.int .i64 v_6,.int .i64 v_7,.imm v_8 (.fl v_9) 1 1 0 (List.length v_9)]),(2,.vs [.int .i64 (0:Int),.int .i64 (0:Int),.nsl]),(3,.vs [.ptr 5 1 0 0,.int .i64 i2,.int .i64 i3,.int .i64 (0:Int),.int .i64 i3,.int .i64 (1:Int)]),(4,.vs [.ptr 6 1 0 0,.int .i64 i14,.int .i64 i15,.int .i64 (0:Int),.int .i64 i15,.int .i64 (1:Int)]),(5,.vs [.sl 7 1 1 0 a4 a4]),(6,.vs [.sl 8 1 1 0 a66 a67]),(7,.fl l5),(8,.fl l68)],9⟩
noncomputable def Hu:List Code:=cJ (dG (((((Hr.drop 2).drop 2).take 1)).headD .skip))
def Hv(v_0:Lv)(s_1:List Nat)(u_2:Int)(u_3:Int)(v_4:Lv)(u_5:List Nat)(v_6:Int)(v_7:Int)(v_8:Lv)(v_9:List Nat)(k_10:Int)(i2:Int)(i3:Int)(a4:Nat)(l5:List Nat)(i14:Int)(i15:Int)(a43:Nat)(i47:Int)(i48:Int)(i49:Int)(i50:Int)(i51:Int)(i55:Int)(a59:Nat) :Nat×Nat×(List Nat)→aH:=fun (a63,a64,l65)=>⟨ah 127 [(0,.imm v_0 (.fl s_1) 1 1 0 (List.length s_1)),(3,.int .i64 k_10),(5,.ptr 0 1 0 0),(6,.ptr 1 1 0 0),(8,.ptr 2 1 0 0),(11,.ptr 3 1 0 0),(15,.ptr 4 1 0 0),(16,.int .i64 ((a43:Nat):Int)),(17,.ptr 5 1 0 0),(18,.fn (.func fY) [.agg [.ptr 6 1 0 0,.int .i64 i47,.int .i64 i48,.int .i64 i49,.int .i64 i50,.int .i64 i51]] []),(81,.int .i64 k_10),(82,.int .i64 ((a43:Nat):Int)),(91,.int .i64 i55),(92,.int .i64 ((a59:Nat):Int))],[(0,.vs [.int .i64 u_2,.int .i64 u_3,.imm v_4 (.fl u_5) 1 1 0 (List.length u_5)]),(1,.vs [.int .i64 v_6,.int .i64 v_7,.imm v_8 (.fl v_9) 1 1 0 (List.length v_9)]),(2,.vs [.int .i64 (0:Int),.int .i64 (0:Int),.nsl]),(3,.vs [.ptr 7 1 0 0,.int .i64 i2,.int .i64 i3,.int .i64 (0:Int),.int .i64 i3,.int .i64 (1:Int)]),(4,.vs [.ptr 6 1 0 0,.int .i64 i14,.int .i64 i15,.int .i64 (0:Int),.int .i64 i15,.int .i64 (1:Int)]),(5,.vs [.ptr 6 1 0 0,.int .i64 i47,.int .i64 i48,.int .i64 i49,.int .i64 i50,.int .i64 i51]),(6,.vs [.sl 8 1 1 0 a63 a64]),(7,.vs [.sl 9 1 1 0 a4 a4]),(8,.fl l65),(9,.fl l5)],10⟩
def pI(s_1:List Nat)(a43:Nat)(i47:Int)(i48:Int)(i49:Int)(i50:Int)(i51:Int)(i55:Int)(a59:Nat)(a60:Nat)(a61:Nat)(l62:List Nat) :T ((Nat×Nat×(List Nat))⊕((Nat×Nat×(List Nat))⊕((Nat×Nat×(List Nat))⊕((Nat×Nat×(List Nat))⊕(aQ))))) :=
  .ask (decide (((a59:Nat):Int)<i55))
    (.need (bv 0 a60 l62)<|.need (cj (bc i47 i48))<|.ask (!(cg (bc i47 i48)))
      (.need (fc ((a43:Nat):Int) (List.length s_1))<|.need (eX a43 (List.length s_1))<|.need (fE (bG a60 a61 l62 i47 i48 i49 i50 i51 ((a59:Nat):Int) (fdiv 0 (List.getD s_1 a43 0))))<|.leaf (.inl ((fT (bG a60 a61 l62 i47 i48 i49 i50 i51 ((a59:Nat):Int) (fdiv 0 (List.getD s_1 a43 0)))),(fU (bG a60 a61 l62 i47 i48 i49 i50 i51 ((a59:Nat):Int) (fdiv 0 (List.getD s_1 a43 0)))),(fV (bG a60 a61 l62 i47 i48 i49 i50 i51 ((a59:Nat):Int) (fdiv 0 (List.getD s_1 a43 0)))))))
      (.ask (i47==(1:Int))
        (.need (bv 0 a60 l62)<|.need (bm (au i47 i48 (0:Int) ((a59:Nat):Int)))<|.ask (!(bf (au i47 i48 (0:Int) ((a59:Nat):Int))))
          (.fail)
          (.need (cu .i64 ((0:Int)*i50))<|.need (cu .i64 (i49+((0:Int)*i50)))<|.need (cu .i64 (((a59:Nat):Int)*i51))<|.need (cu .i64 ((i49+((0:Int)*i50))+(((a59:Nat):Int)*i51)))<|.need (fc ((i49+((0:Int)*i50))+(((a59:Nat):Int)*i51)) a60)<|.need (eX (Int.toNat ((i49+((0:Int)*i50))+(((a59:Nat):Int)*i51))) (List.length l62))<|.need (fc ((a43:Nat):Int) (List.length s_1))<|.need (eX a43 (List.length s_1))<|.need (fE (bG a60 a61 l62 i47 i48 i49 i50 i51 ((a59:Nat):Int) (fdiv (List.getD l62 (Int.toNat ((i49+((0:Int)*i50))+(((a59:Nat):Int)*i51))) 0) (List.getD s_1 a43 0))))<|.leaf (.inl ((fT (bG a60 a61 l62 i47 i48 i49 i50 i51 ((a59:Nat):Int) (fdiv (List.getD l62 (Int.toNat ((i49+((0:Int)*i50))+(((a59:Nat):Int)*i51))) 0) (List.getD s_1 a43 0)))),(fU (bG a60 a61 l62 i47 i48 i49 i50 i51 ((a59:Nat):Int) (fdiv (List.getD l62 (Int.toNat ((i49+((0:Int)*i50))+(((a59:Nat):Int)*i51))) 0) (List.getD s_1 a43 0)))),(fV (bG a60 a61 l62 i47 i48 i49 i50 i51 ((a59:Nat):Int) (fdiv (List.getD l62 (Int.toNat ((i49+((0:Int)*i50))+(((a59:Nat):Int)*i51))) 0) (List.getD s_1 a43 0))))))))
        (.need (bv 0 a60 l62)<|.need (bm (au i47 i48 ((a59:Nat):Int) (0:Int)))<|.ask (!(bf (au i47 i48 ((a59:Nat):Int) (0:Int))))
          (.fail)
          (.need (cu .i64 (((a59:Nat):Int)*i50))<|.need (cu .i64 (i49+(((a59:Nat):Int)*i50)))<|.need (cu .i64 ((0:Int)*i51))<|.need (cu .i64 ((i49+(((a59:Nat):Int)*i50))+((0:Int)*i51)))<|.need (fc ((i49+(((a59:Nat):Int)*i50))+((0:Int)*i51)) a60)<|.need (eX (Int.toNat ((i49+(((a59:Nat):Int)*i50))+((0:Int)*i51))) (List.length l62))<|.need (fc ((a43:Nat):Int) (List.length s_1))<|.need (eX a43 (List.length s_1))<|.need (fE (bG a60 a61 l62 i47 i48 i49 i50 i51 ((a59:Nat):Int) (fdiv (List.getD l62 (Int.toNat ((i49+(((a59:Nat):Int)*i50))+((0:Int)*i51))) 0) (List.getD s_1 a43 0))))<|.leaf (.inl ((fT (bG a60 a61 l62 i47 i48 i49 i50 i51 ((a59:Nat):Int) (fdiv (List.getD l62 (Int.toNat ((i49+(((a59:Nat):Int)*i50))+((0:Int)*i51))) 0) (List.getD s_1 a43 0)))),(fU (bG a60 a61 l62 i47 i48 i49 i50 i51 ((a59:Nat):Int) (fdiv (List.getD l62 (Int.toNat ((i49+(((a59:Nat):Int)*i50))+((0:Int)*i51))) 0) (List.getD s_1 a43 0)))),(fV (bG a60 a61 l62 i47 i48 i49 i50 i51 ((a59:Nat):Int) (fdiv (List.getD l62 (Int.toNat ((i49+(((a59:Nat):Int)*i50))+((0:Int)*i51))) 0) (List.getD s_1 a43 0))))))))))
    (.leaf (.inr (.inl (a60,a61,l62))))
def Hw(a59:Nat)(a63:Nat)(a64:Nat)(l65:List Nat) :T ((Nat×Nat×Nat×(List Nat))⊕((Nat×Nat×(List Nat))⊕((Nat×Nat×(List Nat))⊕((Nat×Nat×(List Nat))⊕(aQ))))) :=
  .need (cu .i64 (((a59+1):Nat):Int))<|.leaf (.inl ((a59+1),a63,a64,l65))
noncomputable def lH(s_1:List Nat)(a43:Nat)(i47:Int)(i48:Int)(i49:Int)(i50:Int)(i51:Int)(i55:Int) :Nat×Nat×Nat×(List Nat)→Option ((Nat×Nat×Nat×(List Nat))⊕((Nat×Nat×(List Nat))⊕((Nat×Nat×(List Nat))⊕((Nat×Nat×(List Nat))⊕(aQ))))):=fun (a59,a60,a61,l62) =>
  aU ((pI s_1 a43 i47 i48 i49 i50 i51 i55 a59 a60 a61 l62).run) fun (a63,a64,l65) =>
  (Hw a59 a63 a64 l65).run
theorem Hx(v_0:Lv)(s_1:List Nat)(u_2:Int)(u_3:Int)(v_4:Lv)(u_5:List Nat)(v_6:Int)(v_7:Int)(v_8:Lv)(v_9:List Nat)(k_10:Int)(i2:Int)(i3:Int)(a4:Nat)(l5:List Nat)(i14:Int)(i15:Int)(a43:Nat)(i47:Int)(i48:Int)(i49:Int)(i50:Int)(i51:Int)(i55:Int)(a59:Nat)(a60:Nat)(a61:Nat)(l62:List Nat) :Sg prog [] Hu (lF v_0 s_1 u_2 u_3 v_4 u_5 v_6 v_7 v_8 v_9 k_10 i2 i3 a4 l5 i14 i15 a43 i47 i48 i49 i50 i51 i55 (a59,a60,a61,l62)) (lH s_1 a43 i47 i48 i49 i50 i51 i55 (a59,a60,a61,l62)) (lF v_0 s_1 u_2 u_3 v_4 u_5 v_6 v_7 v_8 v_9 k_10 i2 i3 a4 l5 i14 i15 a43 i47 i48 i49 i50 i51 i55) (cx 3 (wo v_0 s_1 u_2 u_3 v_4 u_5 v_6 v_7 v_8 v_9 k_10 i2 i3 a4 l5 i14 i15 a43) (cx 2 (pF v_0 s_1 u_2 u_3 v_4 u_5 v_6 v_7 v_8 v_9 k_10 i2 i3 a4 l5 i14 i15 a43) (cx 1 (pE u_2 u_3 v_4 u_5 v_6 v_7 v_8 v_9 k_10 i2 i3 a4 l5 i14 i15) kX))):=by
  unfold lH;exact Sg.cut 3 (aM (aM (aM bI))) (bT bp (Hv v_0 s_1 u_2 u_3 v_4 u_5 v_6 v_7 v_8 v_9 k_10 i2 i3 a4 l5 i14 i15 a43 i47 i48 i49 i50 i51 i55 a59) [⟨[],[0,1,2,3,4,5,6,7,8,9],[0,3,5,6,8,11,15,16,17,18,81,82,91,92]⟩,⟨[],[0,1,2,3,4,5,6,7,8,9],[0,3,5,6,8,11,15,16,17,18,81,82,91,92]⟩,⟨[],[0,1,2,3,4,5,6,7,8,9],[0,3,5,6,8,11,15,16,17,18,81,82,91,92]⟩,⟨[],[0,1,2,3,4,7,6,9,8],[0,3,5,6,8,11,15,81,82]⟩]) (fun ⟨a63,a64,l65⟩=>bT bp (lF v_0 s_1 u_2 u_3 v_4 u_5 v_6 v_7 v_8 v_9 k_10 i2 i3 a4 l5 i14 i15 a43 i47 i48 i49 i50 i51 i55) [⟨[],[0,1,2,3,4,5,6,7,8,9],[0,3,5,6,8,11,15,16,17,18,81,82,91,92]⟩])
def Hy(a66:Nat)(a67:Nat)(l68:List Nat) :T ((Nat×Nat×(List Nat))⊕((Nat×Nat×(List Nat))⊕((Nat×Nat×(List Nat))⊕(aQ)))) :=
  .leaf (.inl (a66,a67,l68))
def Hz(a43:Nat)(a69:Nat)(a70:Nat)(l71:List Nat) :T ((Nat×Nat×Nat×(List Nat))⊕((Nat×Nat×(List Nat))⊕(aQ))) :=
  .need (cu .i64 (((a43+1):Nat):Int))<|.leaf (.inl ((a43+1),a69,a70,l71))
noncomputable def lI(s_1:List Nat)(k_10:Int)(i14:Int)(i15:Int) :Nat×Nat×Nat×(List Nat)→Option ((Nat×Nat×Nat×(List Nat))⊕((Nat×Nat×(List Nat))⊕(aQ))):=fun (a43,a44,a45,l46) =>
  aU ((Hq k_10 a43 a44 a45 l46).run) fun _ =>
  aU (sQ (aU ((pG i14 i15 a43 a44 a45 l46).run) fun (i47,i48,i49,i50,i51,a52,a53,l54) =>
  aU ((pH i47 i48 a52 l54).run) fun i55 =>
  aU (dg (lH s_1 a43 i47 i48 i49 i50 i51 i55) (0,a52,a53,l54)) fun (a66,a67,l68) =>
  (Hy a66 a67 l68).run)) fun (a69,a70,l71) =>
  (Hz a43 a69 a70 l71).run
theorem HA(v_0:Lv)(s_1:List Nat)(u_2:Int)(u_3:Int)(v_4:Lv)(u_5:List Nat)(v_6:Int)(v_7:Int)(v_8:Lv)(v_9:List Nat)(k_10:Int)(i2:Int)(i3:Int)(a4:Nat)(l5:List Nat)(i14:Int)(i15:Int)(a43:Nat)(a44:Nat)(a45:Nat)(l46:List Nat) :Sg prog [] wn (lE v_0 s_1 u_2 u_3 v_4 u_5 v_6 v_7 v_8 v_9 k_10 i2 i3 a4 l5 i14 i15 (a43,a44,a45,l46)) (lI s_1 k_10 i14 i15 (a43,a44,a45,l46)) (lE v_0 s_1 u_2 u_3 v_4 u_5 v_6 v_7 v_8 v_9 k_10 i2 i3 a4 l5 i14 i15) (cx 1 (pE u_2 u_3 v_4 u_5 v_6 v_7 v_8 v_9 k_10 i2 i3 a4 l5 i14 i15) kX):=by
  unfold lI;exact Sg.cut 2 (aM bI) (bT bp (Hp v_0 s_1 u_2 u_3 v_4 u_5 v_6 v_7 v_8 v_9 k_10 i2 i3 a4 l5 i14 i15 a43 a44 a45 l46) [⟨[],[0,1,2,3,4,5,6,7,8],[0,3,5,6,8,11,15,81,82]⟩,⟨[],[0,1,2,3,4,5,6,7,8],[3,5,6,8,11,15]⟩]) (fun _=>Sg.cut 1 (aM bI) (sgb (pF v_0 s_1 u_2 u_3 v_4 u_5 v_6 v_7 v_8 v_9 k_10 i2 i3 a4 l5 i14 i15 a43) 2 (aM bI) (ev (by decide) (rm _)) (Sg.cut 2 (aM (aM bI)) (bT bp (Hs v_0 s_1 u_2 u_3 v_4 u_5 v_6 v_7 v_8 v_9 k_10 i2 i3 a4 l5 i14 i15 a43) [⟨[],[0,1,2,3,4,89,5,6,7,8],[0,3,5,6,8,11,15,16,17,81,82]⟩]) (fun ⟨i47,i48,i49,i50,i51,a52,a53,l54⟩=>Sg.cut 2 (aM (aM bI)) (bT bp (Ht v_0 s_1 u_2 u_3 v_4 u_5 v_6 v_7 v_8 v_9 k_10 i2 i3 a4 l5 i14 i15 a43 i47 i48 i49 i50 i51 a52 a53 l54) [⟨[],[0,1,2,3,4,5,7,6,9,8],[0,3,5,6,8,11,15,16,17,18,81,82,91,92]⟩,⟨[],[0,1,2,3,4,5,7,6,9,8],[0,3,5,6,8,11,15,16,17,18,81,82,91,92]⟩]) (fun i55=>Sg.cut 1 (aM (aM bI)) (GA ⟨[],[0,1,2,3,4,5,6,7,8,9],[0,3,5,6,8,11,15,16,17,18,81,82,91,92]⟩ (lF v_0 s_1 u_2 u_3 v_4 u_5 v_6 v_7 v_8 v_9 k_10 i2 i3 a4 l5 i14 i15 a43 i47 i48 i49 i50 i51 i55) (wo v_0 s_1 u_2 u_3 v_4 u_5 v_6 v_7 v_8 v_9 k_10 i2 i3 a4 l5 i14 i15 a43) 3 (aM (aM bI)) (ev (by decide) (ev (by decide) (rm _))) (fun ⟨a59,a60,a61,l62⟩=>Hx v_0 s_1 u_2 u_3 v_4 u_5 v_6 v_7 v_8 v_9 k_10 i2 i3 a4 l5 i14 i15 a43 i47 i48 i49 i50 i51 i55 a59 a60 a61 l62)) (fun ⟨a66,a67,l68⟩=>bT bp (pF v_0 s_1 u_2 u_3 v_4 u_5 v_6 v_7 v_8 v_9 k_10 i2 i3 a4 l5 i14 i15 a43) [⟨[],[0,1,2,3,4,5,6,7,8],[0,3,5,6,8,11,15,81,82]⟩]))))) (fun ⟨a69,a70,l71⟩=>bT bp (lE v_0 s_1 u_2 u_3 v_4 u_5 v_6 v_7 v_8 v_9 k_10 i2 i3 a4 l5 i14 i15) [⟨[],[0,1,2,3,4,5,6,7,8],[0,3,5,6,8,11,15,81,82]⟩]))
def HB(u_2:Int)(u_3:Int)(v_4:Lv)(u_5:List Nat)(k_10:Int)(i2:Int)(i3:Int)(a4:Nat)(l5:List Nat)(i14:Int)(i15:Int)(a72:Nat)(a73:Nat)(l74:List Nat) :Int×Int×Nat×(List Nat)→aH:=fun (i75,i76,a77,l78)=>⟨ah 127 [(3,.int .i64 k_10),(5,.ptr 0 1 0 0),(8,.ptr 1 1 0 0),(11,.ptr 2 1 0 0),(15,.ptr 3 1 0 0),(20,.ptr 4 1 0 0)],[(0,.vs [.int .i64 u_2,.int .i64 u_3,.imm v_4 (.fl u_5) 1 1 0 (List.length u_5)]),(1,.vs [.int .i64 (0:Int),.int .i64 (0:Int),.nsl]),(2,.vs [.ptr 5 1 0 0,.int .i64 i2,.int .i64 i3,.int .i64 (0:Int),.int .i64 i3,.int .i64 (1:Int)]),(3,.vs [.ptr 6 1 0 0,.int .i64 i14,.int .i64 i15,.int .i64 (0:Int),.int .i64 i15,.int .i64 (1:Int)]),(4,.vs [.ptr 7 1 0 0,.int .i64 i75,.int .i64 i76,.int .i64 (0:Int),.int .i64 i76,.int .i64 (1:Int)]),(5,.vs [.sl 8 1 1 0 a4 a4]),(6,.vs [.sl 9 1 1 0 a72 a73]),(7,.vs [.sl 10 1 1 0 a77 a77]),(8,.fl l5),(9,.fl l74),(10,.fl l78)],11⟩
def pJ(u_2:Int)(v_6:Int) :T ((Int×Int×Nat×(List Nat))⊕(aQ)) :=
  .alt 1
    (.need (qC (ep v_6 u_2))<|.leaf (.inl ((qh (ep v_6 u_2)),(qi (ep v_6 u_2)),(qj (ep v_6 u_2)),(qk (ep v_6 u_2)))))
    (.fail)
def HC(i75:Int)(i76:Int) :Nat×Nat×(List Nat)→aH:=fun (a79,a80,l81)=>⟨ah 127 [(8,.ptr 0 1 0 0),(20,.ptr 1 1 0 0)],[(0,.vs [.int .i64 (0:Int),.int .i64 (0:Int),.nsl]),(1,.vs [.ptr 2 1 0 0,.int .i64 i75,.int .i64 i76,.int .i64 (0:Int),.int .i64 i76,.int .i64 (1:Int)]),(2,.vs [.sl 3 1 1 0 a79 a80]),(3,.fl l81)],4⟩
def pK(u_2:Int)(k_10:Int)(i2:Int)(i3:Int)(a4:Nat)(l5:List Nat)(i14:Int)(i15:Int)(a72:Nat)(a73:Nat)(l74:List Nat)(i75:Int)(i76:Int)(a77:Nat)(l78:List Nat) :T ((Nat×Nat×(List Nat))⊕(aQ)) :=
  .alt 1
    (.need (dv (aa a4 a4 l5 i2 i3 (0:Int) i3 (1:Int) (0:Int) (0:Int) u_2 k_10))<|.need (mF (fX a72 a73 l74 (aK (aa a4 a4 l5 i2 i3 (0:Int) i3 (1:Int) (0:Int) (0:Int) u_2 k_10)) (bN (aa a4 a4 l5 i2 i3 (0:Int) i3 (1:Int) (0:Int) (0:Int) u_2 k_10)) (aL (aa a4 a4 l5 i2 i3 (0:Int) i3 (1:Int) (0:Int) (0:Int) u_2 k_10)) a77 a77 l78 4607182418800017408 i14 i15 (0:Int) i15 (1:Int) (aY (aa a4 a4 l5 i2 i3 (0:Int) i3 (1:Int) (0:Int) (0:Int) u_2 k_10)) (aX (aa a4 a4 l5 i2 i3 (0:Int) i3 (1:Int) (0:Int) (0:Int) u_2 k_10)) (aZ (aa a4 a4 l5 i2 i3 (0:Int) i3 (1:Int) (0:Int) (0:Int) u_2 k_10)) (bb (aa a4 a4 l5 i2 i3 (0:Int) i3 (1:Int) (0:Int) (0:Int) u_2 k_10)) (ba (aa a4 a4 l5 i2 i3 (0:Int) i3 (1:Int) (0:Int) (0:Int) u_2 k_10)) 0 i75 i76 (0:Int) i76 (1:Int)))<|.leaf (.inl ((oe (fX a72 a73 l74 (aK (aa a4 a4 l5 i2 i3 (0:Int) i3 (1:Int) (0:Int) (0:Int) u_2 k_10)) (bN (aa a4 a4 l5 i2 i3 (0:Int) i3 (1:Int) (0:Int) (0:Int) u_2 k_10)) (aL (aa a4 a4 l5 i2 i3 (0:Int) i3 (1:Int) (0:Int) (0:Int) u_2 k_10)) a77 a77 l78 4607182418800017408 i14 i15 (0:Int) i15 (1:Int) (aY (aa a4 a4 l5 i2 i3 (0:Int) i3 (1:Int) (0:Int) (0:Int) u_2 k_10)) (aX (aa a4 a4 l5 i2 i3 (0:Int) i3 (1:Int) (0:Int) (0:Int) u_2 k_10)) (aZ (aa a4 a4 l5 i2 i3 (0:Int) i3 (1:Int) (0:Int) (0:Int) u_2 k_10)) (bb (aa a4 a4 l5 i2 i3 (0:Int) i3 (1:Int) (0:Int) (0:Int) u_2 k_10)) (ba (aa a4 a4 l5 i2 i3 (0:Int) i3 (1:Int) (0:Int) (0:Int) u_2 k_10)) 0 i75 i76 (0:Int) i76 (1:Int))),(og (fX a72 a73 l74 (aK (aa a4 a4 l5 i2 i3 (0:Int) i3 (1:Int) (0:Int) (0:Int) u_2 k_10)) (bN (aa a4 a4 l5 i2 i3 (0:Int) i3 (1:Int) (0:Int) (0:Int) u_2 k_10)) (aL (aa a4 a4 l5 i2 i3 (0:Int) i3 (1:Int) (0:Int) (0:Int) u_2 k_10)) a77 a77 l78 4607182418800017408 i14 i15 (0:Int) i15 (1:Int) (aY (aa a4 a4 l5 i2 i3 (0:Int) i3 (1:Int) (0:Int) (0:Int) u_2 k_10)) (aX (aa a4 a4 l5 i2 i3 (0:Int) i3 (1:Int) (0:Int) (0:Int) u_2 k_10)) (aZ (aa a4 a4 l5 i2 i3 (0:Int) i3 (1:Int) (0:Int) (0:Int) u_2 k_10)) (bb (aa a4 a4 l5 i2 i3 (0:Int) i3 (1:Int) (0:Int) (0:Int) u_2 k_10)) (ba (aa a4 a4 l5 i2 i3 (0:Int) i3 (1:Int) (0:Int) (0:Int) u_2 k_10)) 0 i75 i76 (0:Int) i76 (1:Int))),(oh (fX a72 a73 l74 (aK (aa a4 a4 l5 i2 i3 (0:Int) i3 (1:Int) (0:Int) (0:Int) u_2 k_10)) (bN (aa a4 a4 l5 i2 i3 (0:Int) i3 (1:Int) (0:Int) (0:Int) u_2 k_10)) (aL (aa a4 a4 l5 i2 i3 (0:Int) i3 (1:Int) (0:Int) (0:Int) u_2 k_10)) a77 a77 l78 4607182418800017408 i14 i15 (0:Int) i15 (1:Int) (aY (aa a4 a4 l5 i2 i3 (0:Int) i3 (1:Int) (0:Int) (0:Int) u_2 k_10)) (aX (aa a4 a4 l5 i2 i3 (0:Int) i3 (1:Int) (0:Int) (0:Int) u_2 k_10)) (aZ (aa a4 a4 l5 i2 i3 (0:Int) i3 (1:Int) (0:Int) (0:Int) u_2 k_10)) (bb (aa a4 a4 l5 i2 i3 (0:Int) i3 (1:Int) (0:Int) (0:Int) u_2 k_10)) (ba (aa a4 a4 l5 i2 i3 (0:Int) i3 (1:Int) (0:Int) (0:Int) u_2 k_10)) 0 i75 i76 (0:Int) i76 (1:Int))))))
    (.fail)
def HD:Int×Int×Nat×Nat×(List Nat)→aH:=fun (i82,i83,a84,a85,l86)=>⟨ah 127 [(8,.ptr 0 1 0 0),(9,.int .i64 (0:Int))],[(0,.vs [.int .i64 i82,.int .i64 i83,.sl 1 1 1 0 a84 a85]),(1,.fl l86)],2⟩
def pL(i75:Int)(i76:Int)(a79:Nat)(l81:List Nat) :T ((Int×Int×Nat×Nat×(List Nat))⊕(aQ)) :=
  .need (bv 0 a79 l81)<|.need (fg (aE (ab 0 a79 l81) i75 i76 (0:Int) i76 (1:Int)))<|.leaf (.inl ((cH (aE (ab 0 a79 l81) i75 i76 (0:Int) i76 (1:Int))),(cI (aE (ab 0 a79 l81) i75 i76 (0:Int) i76 (1:Int))),(ca (aE (ab 0 a79 l81) i75 i76 (0:Int) i76 (1:Int))),(iM (aE (ab 0 a79 l81) i75 i76 (0:Int) i76 (1:Int))),(cd (aE (ab 0 a79 l81) i75 i76 (0:Int) i76 (1:Int)))))
def HE(i82:Int)(i83:Int)(a84:Nat)(a85:Nat)(l86:List Nat) :T ((Empty)⊕(aQ)) :=
  .leaf (.inr (.r0 0 i82 i83 a84 a85 l86))
noncomputable def dN(s_1:List Nat)(u_2:Int)(u_3:Int)(u_5:List Nat)(v_6:Int)(v_7:Int)(v_9:List Nat)(k_10:Int) :Option aQ:=lX (aU ((pA s_1).run) fun e1 =>
  aU ((fF u_2 u_3 u_5).run) (Sum.elim (fun _ =>
  aU ((iO v_6 v_7 v_9).run) (Sum.elim (fun _ =>
  (pB e1).run) (fun (i6,i7,a8,l9) =>
  (pC e1).run))) (fun (i2,i3,a4,l5) =>
  aU ((fG v_6 v_7 v_9).run) (Sum.elim (fun _ =>
  (pD e1).run) (fun (i10,i11,a12,l13) =>
  aU ((iP s_1 u_3 v_6 v_7 k_10 e1 i10 i11 a12 l13).run) fun (i14,i15,a16,l17) =>
  aU ((Ho).run) fun _ =>
  aU (dg (lI s_1 k_10 i14 i15) (0,a16,a16,l17)) fun (a72,a73,l74) =>
  aU ((pJ u_2 v_6).run) fun (i75,i76,a77,l78) =>
  aU ((pK u_2 k_10 i2 i3 a4 l5 i14 i15 a72 a73 l74 i75 i76 a77 l78).run) fun (a79,a80,l81) =>
  aU ((pL i75 i76 a79 l81).run) fun (i82,i83,a84,a85,l86) =>
  (HE i82 i83 a84 a85 l86).run)))))
theorem Ju(v_0:Lv)(s_1:List Nat)(u_2:Int)(u_3:Int)(v_4:Lv)(u_5:List Nat)(v_6:Int)(v_7:Int)(v_8:Lv)(v_9:List Nat)(k_10:Int){x:aQ}(h:dN s_1 u_2 u_3 u_5 v_6 v_7 v_9 k_10=some x) :aj prog sJ [] [.imm v_0 (.fl s_1) 1 1 0 (List.length s_1),.agg [.int .i64 u_2,.int .i64 u_3,.imm v_4 (.fl u_5) 1 1 0 (List.length u_5)],.agg [.int .i64 v_6,.int .i64 v_7,.imm v_8 (.fl v_9) 1 1 0 (List.length v_9)],.int .i64 k_10] (tp x) :=
  ni false tp kX h (Sg.cut 2 bI (bT bp (Jl v_0 s_1 u_2 u_3 v_4 u_5 v_6 v_7 v_8 v_9 k_10) [⟨[],[0,16,32],[0,3,5,6,8,10]⟩]) (fun e1=>Sg.cut 1 bI (bT bp (Sum.elim (Jm v_0 s_1 u_2 u_3 v_4 u_5 v_6 v_7 v_8 v_9 k_10 e1) (Jn v_0 s_1 u_2 u_3 v_4 u_5 v_6 v_7 v_8 v_9 k_10 e1)) [⟨[],[0,1,2,83],[0,3,5,6,8,10,11,12]⟩,⟨[],[0,1,2,83,19,20],[0,3,5,6,8,10,11,12]⟩]) (sga (fun _=>Sg.cut 1 bI (bT bp (Sum.elim (Jo v_0 s_1 u_2 u_3 v_4 u_5 v_6 v_7 v_8 v_9 k_10 e1) (Jp v_0 s_1 u_2 u_3 v_4 u_5 v_6 v_7 v_8 v_9 k_10 e1)) [⟨[],[0,1,2,3,84],[0,3,5,6,8,10,11,12,13,14]⟩,⟨[],[0,1,2,3,84,20,21],[0,3,5,6,8,10,11,12,13,14]⟩]) (sga (fun _=>bT bp lQ [⟨[(.cell 2 2,.own 1 1 (.fl ([]:List Nat)))],[2,229],[8,9]⟩,⟨[(.cell 2 2,.own 1 1 (.fl ([]:List Nat)))],[2,229],[8,9]⟩]) (fun ⟨i6,i7,a8,l9⟩=>bT bp lQ [⟨[(.cell 2 2,.own 1 1 (.fl ([]:List Nat)))],[2,231],[8,9]⟩,⟨[(.cell 2 2,.own 1 1 (.fl ([]:List Nat)))],[2,231],[8,9]⟩]))) (fun ⟨i2,i3,a4,l5⟩=>Sg.cut 1 bI (bT bp (Sum.elim (Jq v_0 s_1 u_2 u_3 v_4 u_5 v_6 v_7 v_8 v_9 k_10 e1 i2 i3 a4 l5) (Jr v_0 s_1 u_2 u_3 v_4 u_5 v_6 v_7 v_8 v_9 k_10 e1 i2 i3 a4 l5)) [⟨[],[0,1,2,3,86,4,5],[0,3,5,6,8,10,11,12,13,14]⟩,⟨[],[0,1,2,3,86,4,22,5,23],[0,3,5,6,8,10,11,12,13,14]⟩]) (sga (fun _=>bT bp lQ [⟨[(.cell 2 2,.own 1 1 (.fl ([]:List Nat)))],[2,231],[8,9]⟩,⟨[(.cell 2 2,.own 1 1 (.fl ([]:List Nat)))],[2,231],[8,9]⟩]) (fun ⟨i10,i11,a12,l13⟩=>Sg.cut 2 bI (bT bp (Js v_0 s_1 u_2 u_3 v_4 u_5 v_6 v_7 v_8 v_9 k_10 i2 i3 a4 l5) [⟨[(.cell 2 2,.own 1 1 (.fl ([]:List Nat)))],[2,233],[8,9]⟩,⟨[(.cell 2 2,.own 1 1 (.fl ([]:List Nat)))],[2,601],[8,9]⟩,⟨[(.cell 2 2,.own 1 1 (.fl ([]:List Nat)))],[2,601],[8,9]⟩,⟨[(.cell 2 2,.own 1 1 (.fl ([]:List Nat)))],[2,601],[8,9]⟩,⟨[(.cell 2 2,.own 1 1 (.fl ([]:List Nat)))],[2,601],[8,9]⟩,⟨[(.cell 2 2,.own 1 1 (.fl ([]:List Nat)))],[2,665],[8,9]⟩,⟨[],[0,1,2,3,697,5,681,7,682],[0,3,5,6,8,11,15]⟩]) (fun ⟨i14,i15,a16,l17⟩=>Sg.cut 1 bI (bT bp (Jt v_0 s_1 u_2 u_3 v_4 u_5 v_6 v_7 v_8 v_9 k_10 i2 i3 a4 l5 i14 i15 a16 l17) [⟨[],[0,1,2,3,4,5,6,7,8],[0,3,5,6,8,11,15,81,82]⟩]) (fun _=>Sg.cut 1 bI (GA ⟨[],[0,1,2,3,4,5,6,7,8],[0,3,5,6,8,11,15,81,82]⟩ (lE v_0 s_1 u_2 u_3 v_4 u_5 v_6 v_7 v_8 v_9 k_10 i2 i3 a4 l5 i14 i15) (pE u_2 u_3 v_4 u_5 v_6 v_7 v_8 v_9 k_10 i2 i3 a4 l5 i14 i15) 1 bI (rm _) (fun ⟨a43,a44,a45,l46⟩=>HA v_0 s_1 u_2 u_3 v_4 u_5 v_6 v_7 v_8 v_9 k_10 i2 i3 a4 l5 i14 i15 a43 a44 a45 l46)) (fun ⟨a72,a73,l74⟩=>Sg.cut 1 bI (bT bp (HB u_2 u_3 v_4 u_5 k_10 i2 i3 a4 l5 i14 i15 a72 a73 l74) [⟨[],[0,2,3,4,137,5,6,73,7,8,74],[3,5,8,11,15,20]⟩]) (fun ⟨i75,i76,a77,l78⟩=>Sg.cut 1 bI (bT bp (HC i75 i76) [⟨[],[1,4,7,10],[8,20]⟩]) (fun ⟨a79,a80,l81⟩=>Sg.cut 1 bI (bT bp HD [⟨[],[0,20],[8,9]⟩]) (fun ⟨i82,i83,a84,a85,l86⟩=>bT bp lQ [⟨[],[0,1],[8,9]⟩]))))))))))))
    (fun x=>by cases x with | r0 a87 i88 i89 a90 a91 l92=>exact ln [.agg [.int .i64 i88,.int .i64 i89,.sl 1 1 1 0 a90 a91],.int .i64 ((a87:Nat):Int)])
def mG:Option aQ→Bool
  | some _=>true
  | none=>false
def oi:Option aQ→Nat
  | some (.r0 x _ _ _ _ _)=>x
  | _=>0
def oj:Option aQ→Int
  | some (.r0 _ x _ _ _ _)=>x
  | _=>0
def ol:Option aQ→Int
  | some (.r0 _ _ x _ _ _)=>x
  | _=>0
def oo:Option aQ→Nat
  | some (.r0 _ _ _ x _ _)=>x
  | _=>0
def oq:Option aQ→Nat
  | some (.r0 _ _ _ _ x _)=>x
  | _=>0
def ot:Option aQ→List Nat
  | some (.r0 _ _ _ _ _ x)=>x
  | _=>[]
theorem Jv{x:Option aQ}(h:mG x=true) :x=some (.r0 (oi x) (oj x) (ol x) (oo x) (oq x) (ot x)):=by
  unfold mG at h
  split at h<;>first | rfl | (cases h;done) | (rename_i y;cases y;rfl)
noncomputable def AP:aF:=cL sJ (.cons .fl (.cons (.agg (.cons (.int .i64) (.cons (.int .i64) (.cons .fl .nil)))) (.cons (.agg (.cons (.int .i64) (.cons (.int .i64) (.cons .fl .nil)))) (.cons (.int .i64) .nil)))) fun t=>(fun q=>[⟨tp (.r0 (oi q) (oj q) (ol q) (oo q) (oq q) (ot q)),[mG q]⟩]) (dN t.1.2 t.2.1.1 t.2.1.2.1 t.2.1.2.2.1.2 t.2.2.1.1 t.2.2.1.2.1 t.2.2.1.2.2.1.2 t.2.2.2.1)
theorem Ft:aV prog AP:=bg fun t=>(be (fun h=>Ju t.1.1 t.1.2 t.2.1.1 t.2.1.2.1 t.2.1.2.2.1.1 t.2.1.2.2.1.2 t.2.2.1.1 t.2.2.1.2.1 t.2.2.1.2.2.1.1 t.2.2.1.2.2.1.2 t.2.2.2.1 (Jv h)) bA)
noncomputable def AQ:List aF:=AP::AO
theorem kp:aP prog (aN AQ):=ay Ft bp
inductive dO where
  | r0 (b2:Bool)
def ou:dO→AE×aH
  | .r0 b2=>(.ret,⟨ah 22 [(2,.bool false b2)],[],0⟩)
theorem rn:jC ou:=by intro x;cases x<;>(intro h;cases h)
theorem Jw(id:Nat) :jZ id ou:=by intro x;cases x<;>(intro h;cases h)
def tq:dO→gw
  | .r0 b2=>⟨.bool false b2,[]⟩
noncomputable def Jx:List Code:=cJ (kF sM)
def Jy(v_0:Lv)(l_1:List Nat)(_:Unit) :aH:=⟨ah 22 [(0,.imm v_0 (.fl l_1) 1 1 0 (List.length l_1)),(3,.int .i64 (0:Int))],[],0⟩
def Jz:T ((Unit)⊕(dO)) :=
  .leaf (.inl ())
def mH(v_0:Lv)(l_1:List Nat)(i1:Nat) :aH:=⟨ah 22 [(0,.imm v_0 (.fl l_1) 1 1 0 (List.length l_1)),(3,.int .i64 ((i1:Nat):Int))],[],0⟩
def yP(_:Unit) :aH:=⟨ah 22 [],[],0⟩
noncomputable def JA:List Code:=cJ (dG ((((Jx.drop 2).take 1)).headD .skip))
def jR(l_1:List Nat)(i1:Nat) :T ((Nat)⊕((Unit)⊕(dO))) :=
  .ask (decide (((i1:Nat):Int)<(((List.length l_1):Nat):Int)))
    (.need (fc ((i1:Nat):Int) (List.length l_1))<|.need (eX i1 (List.length l_1))<|.ask (fne (List.getD l_1 i1 0) (List.getD l_1 i1 0))
      (.leaf (.inr (.inr (.r0 false))))
      (.need (fc ((i1:Nat):Int) (List.length l_1))<|.need (eX i1 (List.length l_1))<|.ask ((0:Int)==(0:Int))
        (.ask (fgt (qZ (List.getD l_1 i1 0)) 9218868437227405311)
          (.leaf (.inr (.inr (.r0 false))))
          (.need (cu .i64 (((i1+1):Nat):Int))<|.leaf (.inl (i1+1))))
        (.fail)))
    (.leaf (.inr (.inl ())))
noncomputable def lJ(l_1:List Nat) :Nat→Option ((Nat)⊕((Unit)⊕(dO))):=fun i1 =>
  (jR l_1 i1).run
theorem HF(v_0:Lv)(l_1:List Nat)(i1:Nat) :Sg prog [] JA (mH v_0 l_1 i1) (lJ l_1 i1) (mH v_0 l_1) (cx 0 yP ou):=by
  unfold lJ;exact bT kp (mH v_0 l_1) [⟨[],[],[2]⟩,⟨[],[],[2]⟩,⟨[],[],[0,3]⟩,⟨[],[],[]⟩]
def HG:T ((Empty)⊕(dO)) :=
  .leaf (.inr (.r0 true))
noncomputable def kY(l_1:List Nat) :Option dO:=lX (aU ((Jz).run) fun _ =>
  aU (dg (lJ l_1) 0) fun _ =>
  (HG).run)
theorem JB(v_0:Lv)(l_1:List Nat){x:dO}(h:kY l_1=some x) :aj prog sM [] [.imm v_0 (.fl l_1) 1 1 0 (List.length l_1)] (tq x) :=
  ni false tq ou h (Sg.cut 2 rn (bT kp (Jy v_0 l_1) [⟨[],[],[0,3]⟩]) (fun _=>Sg.cut 1 rn (GA ⟨[],[],[0,3]⟩ (mH v_0 l_1) (yP) 0 rn (Jw _) (fun i1=>HF v_0 l_1 i1)) (fun _=>bT kp lQ [⟨[],[],[2]⟩])))
    (fun x=>by cases x with | r0 b2=>exact ln [.bool false b2])
def mI:Option dO→Bool
  | some _=>true
  | none=>false
def ov:Option dO→Bool
  | some (.r0 x)=>x
  | _=>false
theorem JC{x:Option dO}(h:mI x=true) :x=some (.r0 (ov x)):=by
  unfold mI at h
  split at h<;>first | rfl | (cases h;done) | (rename_i y;cases y;rfl)
noncomputable def AR:aF:=cL sM (.cons .fl .nil) fun t=>(fun q=>[⟨tq (.r0 (ov q)),[mI q]⟩]) (kY t.1.2)
theorem Fu:aV prog AR:=bg fun t=>(be (fun h=>JB t.1.1 t.1.2 (JC h)) bA)
noncomputable def AS:List aF:=AR::AQ
theorem gh:aP prog (aN AS):=ay Fu kp
inductive eA where
  | r0 (a3:Nat)
def uG:eA→AE×aH
  | .r0 a3=>(.ret,⟨ah 34 [(2,.int .i64 ((a3:Nat):Int))],[],0⟩)
theorem ow:jC uG:=by intro x;cases x<;>(intro h;cases h)
theorem Sn(id:Nat) :jZ id uG:=by intro x;cases x<;>(intro h;cases h)
def AT:eA→gw
  | .r0 a3=>⟨.int .i64 ((a3:Nat):Int),[]⟩
noncomputable def So:List Code:=cJ (kF zX)
def Sp(v_0:Lv)(s_1:List Nat)(_:Unit) :aH:=⟨ah 34 [(0,.imm v_0 (.fl s_1) 1 1 0 (List.length s_1)),(3,.int .i64 (0:Int))],[],0⟩
def Sq:T ((Unit)⊕(eA)) :=
  .leaf (.inl ())
def rY(v_0:Lv)(s_1:List Nat)(i1:Nat) :aH:=⟨ah 34 [(0,.imm v_0 (.fl s_1) 1 1 0 (List.length s_1)),(3,.int .i64 ((i1:Nat):Int))],[],0⟩
def Fv(v_0:Lv)(s_1:List Nat)(_:Unit) :aH:=⟨ah 34 [(0,.imm v_0 (.fl s_1) 1 1 0 (List.length s_1))],[],0⟩
noncomputable def OB:List Code:=cJ (dG ((((So.drop 2).take 1)).headD .skip))
def Sr(v_0:Lv)(s_1:List Nat)(i1:Nat)(_:Unit) :aH:=⟨ah 34 [(0,.imm v_0 (.fl s_1) 1 1 0 (List.length s_1)),(3,.int .i64 ((i1:Nat):Int))],[],0⟩
def qm(s_1:List Nat)(i1:Nat) :T ((Unit)⊕((Unit)⊕(eA))) :=
  .ask (decide (((i1:Nat):Int)<(((List.length s_1):Nat):Int)))
    (.need (fc ((i1:Nat):Int) (List.length s_1))<|.need (eX i1 (List.length s_1))<|.ask (flt (List.getD s_1 i1 0) 0)
      (.leaf (.inr (.inr (.r0 2))))
      (.ask (decide (((i1:Nat):Int)>(0:Int)))
        (.need (fc ((i1:Nat):Int) (List.length s_1))<|.need (eX i1 (List.length s_1))<|.need (cu .i64 (((i1:Nat):Int)-(1:Int)))<|.need (fc (((i1:Nat):Int)-(1:Int)) (List.length s_1))<|.need (eX (Int.toNat (((i1:Nat):Int)-(1:Int))) (List.length s_1))<|.ask (fgt (List.getD s_1 i1 0) (List.getD s_1 (Int.toNat (((i1:Nat):Int)-(1:Int))) 0))
          (.leaf (.inr (.inr (.r0 2))))
          (.leaf (.inl ())))
        (.leaf (.inl ()))))
    (.leaf (.inr (.inl ())))
def OC(i1:Nat) :T ((Nat)⊕((Unit)⊕(eA))) :=
  .need (cu .i64 (((i1+1):Nat):Int))<|.leaf (.inl (i1+1))
noncomputable def mj(s_1:List Nat) :Nat→Option ((Nat)⊕((Unit)⊕(eA))):=fun i1 =>
  aU ((qm s_1 i1).run) fun _ =>
  (OC i1).run
theorem OD(v_0:Lv)(s_1:List Nat)(i1:Nat) :Sg prog [] OB (rY v_0 s_1 i1) (mj s_1 i1) (rY v_0 s_1) (cx 0 (Fv v_0 s_1) uG):=by
  unfold mj;exact Sg.cut 3 (aM ow) (bT gh (Sr v_0 s_1 i1) [⟨[],[],[2]⟩,⟨[],[],[2]⟩,⟨[],[],[0,3]⟩,⟨[],[],[0,3]⟩,⟨[],[],[0]⟩]) (fun _=>bT gh (rY v_0 s_1) [⟨[],[],[0,3]⟩])
def Ss(b2:Bool) :aH:=⟨ah 34 [(33,.bool false b2)],[],0⟩
def vB(s_1:List Nat) :T ((Bool)⊕(eA)) :=
  .need (bv 0 (List.length s_1) s_1)<|.need (mI (kY (ab 0 (List.length s_1) s_1)))<|.leaf (.inl (!(ov (kY (ab 0 (List.length s_1) s_1)))))
def OE(b2:Bool) :T ((Empty)⊕(eA)) :=
  .ask b2
    (.leaf (.inr (.r0 10)))
    (.leaf (.inr (.r0 0)))
noncomputable def qP(s_1:List Nat) :Option eA:=lX (aU ((Sq).run) fun _ =>
  aU (dg (mj s_1) 0) fun _ =>
  aU ((vB s_1).run) fun b2 =>
  (OE b2).run)
theorem St(v_0:Lv)(s_1:List Nat){x:eA}(h:qP s_1=some x) :aj prog zX [] [.imm v_0 (.fl s_1) 1 1 0 (List.length s_1)] (AT x) :=
  ni false AT uG h (Sg.cut 2 ow (bT gh (Sp v_0 s_1) [⟨[],[],[0,3]⟩]) (fun _=>Sg.cut 1 ow (GA ⟨[],[],[0,3]⟩ (rY v_0 s_1) (Fv v_0 s_1) 0 ow (Sn _) (fun i1=>OD v_0 s_1 i1)) (fun _=>Sg.cut 1 ow (bT gh Ss [⟨[],[],[33]⟩]) (fun b2=>bT gh lQ [⟨[],[],[2]⟩,⟨[],[],[2]⟩]))))
    (fun x=>by cases x with | r0 a3=>exact ln [.int .i64 ((a3:Nat):Int)])
def rZ:Option eA→Bool
  | some _=>true
  | none=>false
def tr:Option eA→Nat
  | some (.r0 x)=>x
  | _=>0
theorem Su{x:Option eA}(h:rZ x=true) :x=some (.r0 (tr x)):=by
  unfold rZ at h
  split at h<;>first | rfl | (cases h;done) | (rename_i y;cases y;rfl)
noncomputable def IA:aF:=cL zX (.cons .fl .nil) fun t=>(fun q=>[⟨AT (.r0 (tr q)),[rZ q]⟩]) (qP t.1.2)
theorem Mn:aV prog IA:=bg fun t=>(be (fun h=>St t.1.1 t.1.2 (Su h)) bA)
noncomputable def IB:List aF:=IA::AS
theorem tt:aP prog (aN IB):=ay Mn gh
inductive iq where
  | r0 (b2:Bool)
def IC:iq→AE×aH
  | .r0 b2=>(.ret,⟨ah 32 [(2,.bool false b2)],[],0⟩)
theorem Sv:jC IC:=by intro x;cases x<;>(intro h;cases h)
def AU:iq→gw
  | .r0 b2=>⟨.bool false b2,[]⟩
def Sw(b1:Bool) :aH:=⟨ah 32 [(2,.bool false b1)],[],0⟩
def Fw(a_0:Int)(a_1:Int)(a_3:List Nat) :T ((Bool)⊕(iq)) :=
  .ask (decide (a_0≥(0:Int)))
    (.ask (decide (a_0≤(512:Int)))
      (.ask (decide (a_1≥(0:Int)))
        (.ask (decide (a_1≤(512:Int)))
          (.need (cu .i64 (a_0*a_1))<|.leaf (.inl ((((List.length a_3):Nat):Int)==(a_0*a_1))))
          (.leaf (.inl false)))
        (.leaf (.inl false)))
      (.leaf (.inl false)))
    (.leaf (.inl false))
def Sx(b1:Bool) :T ((Empty)⊕(iq)) :=
  .leaf (.inr (.r0 b1))
noncomputable def iW(a_0:Int)(a_1:Int)(a_3:List Nat) :Option iq:=lX (aU ((Fw a_0 a_1 a_3).run) fun b1 =>
  (Sx b1).run)
theorem Sy(a_0:Int)(a_1:Int)(v_2:Lv)(a_3:List Nat){x:iq}(h:iW a_0 a_1 a_3=some x) :aj prog H9 [] [.agg [.int .i64 a_0,.int .i64 a_1,.imm v_2 (.fl a_3) 1 1 0 (List.length a_3)]] (AU x) :=
  ni false AU IC h (Sg.cut 2 Sv (bT tt Sw [⟨[],[],[2]⟩,⟨[],[],[2]⟩,⟨[],[],[2]⟩,⟨[],[],[2]⟩,⟨[],[],[2]⟩]) (fun b1=>bT tt lQ [⟨[],[],[2]⟩]))
    (fun x=>by cases x with | r0 b2=>exact ln [.bool false b2])
def ox:Option iq→Bool
  | some _=>true
  | none=>false
def oy:Option iq→Bool
  | some (.r0 x)=>x
  | _=>false
theorem Sz{x:Option iq}(h:ox x=true) :x=some (.r0 (oy x)):=by
  unfold ox at h
  split at h<;>first | rfl | (cases h;done) | (rename_i y;cases y;rfl)
noncomputable def ID:aF:=cL H9 (.cons (.agg (.cons (.int .i64) (.cons (.int .i64) (.cons .fl .nil)))) .nil) fun t=>(fun q=>[⟨AU (.r0 (oy q)),[ox q]⟩]) (iW t.1.1 t.1.2.1 t.1.2.2.1.2)
theorem Mo:aV prog ID:=bg fun t=>(be (fun h=>Sy t.1.1 t.1.2.1 t.1.2.2.1.1 t.1.2.2.1.2 (Sz h)) bA)
noncomputable def IE:List aF:=ID::IB
theorem AW:aP prog (aN IE):=ay Mo tt
inductive gP where
  | r0 (a1:Nat)
def OF:gP→AE×aH
  | .r0 a1=>(.ret,⟨ah 18 [(2,.int .i64 ((a1:Nat):Int))],[],0⟩)
def vC:gP→gw
  | .r0 a1=>⟨.int .i64 ((a1:Nat):Int),[]⟩
def AX(w_0:Int) :T ((Empty)⊕(gP)) :=
  .need (decide ((0:Int)≤(52:Int)))<|.ask ((cM .and .u64 (Int.fdiv w_0 (2^(min (Int.toNat (52:Int)) (IntKind.u64.bits)))) (2047:Int))==(2047:Int))
    (.ask ((cM .and .u64 w_0 (4503599627370495:Int))==(0:Int))
      (.leaf (.inr (.r0 4)))
      (.leaf (.inr (.r0 5))))
    (.ask (decide ((cM .and .u64 (Int.fdiv w_0 (2^(min (Int.toNat (52:Int)) (IntKind.u64.bits)))) (2047:Int))>(0:Int)))
      (.leaf (.inr (.r0 3)))
      (.ask (decide ((cM .and .u64 w_0 (4503599627370495:Int))>(0:Int)))
        (.leaf (.inr (.r0 2)))
        (.leaf (.inr (.r0 1)))))
noncomputable def jX(w_0:Int) :Option gP:=lX ((AX w_0).run)
theorem Mp(w_0:Int){x:gP}(h:jX w_0=some x) :aj prog Cp [] [.int .u64 w_0] (vC x) :=
  ni false vC OF h (bT AW lQ [⟨[],[],[2]⟩,⟨[],[],[2]⟩,⟨[],[],[2]⟩,⟨[],[],[2]⟩,⟨[],[],[2]⟩])
    (fun x=>by cases x with | r0 a1=>exact ln [.int .i64 ((a1:Nat):Int)])
def oz:Option gP→Bool
  | some _=>true
  | none=>false
def pM:Option gP→Nat
  | some (.r0 x)=>x
  | _=>0
theorem Mq{x:Option gP}(h:oz x=true) :x=some (.r0 (pM x)):=by
  unfold oz at h
  split at h<;>first | rfl | (cases h;done) | (rename_i y;cases y;rfl)
noncomputable def CR:aF:=cL Cp (.cons (.int .u64) .nil) fun t=>(fun q=>[⟨vC (.r0 (pM q)),[oz q]⟩]) (jX t.1)
theorem HH:aV prog CR:=bg fun t=>(be (fun h=>Mp t.1 (Mq h)) bA)
noncomputable def CS:List aF:=CR::IE
theorem pN:aP prog (aN CS):=ay HH AW
inductive ir where
  | r0 (i2:Int)
def IF:ir→AE×aH
  | .r0 i2=>(.ret,⟨ah 7 [(2,.int .u64 i2)],[],0⟩)
theorem SA:jC IF:=by intro x;cases x<;>(intro h;cases h)
def AY:ir→gw
  | .r0 i2=>⟨.int .u64 i2,[]⟩
def SB(w_0:Int)(b1:Bool) :aH:=⟨ah 7 [(0,.int .u64 w_0),(5,.bool false b1)],[],0⟩
def yn(w_0:Int) :T ((Bool)⊕(ir)) :=
  .need (oz (jX w_0))<|.leaf (.inl ((((pM (jX w_0)):Nat):Int)==(5:Int)))
def SC(w_0:Int)(b1:Bool) :T ((Empty)⊕(ir)) :=
  .ask b1
    (.leaf (.inr (.r0 (9221120237041090560:Int))))
    (.leaf (.inr (.r0 w_0)))
noncomputable def gQ(w_0:Int) :Option ir:=lX (aU ((yn w_0).run) fun b1 =>
  (SC w_0 b1).run)
theorem SD(w_0:Int){x:ir}(h:gQ w_0=some x) :aj prog qt [] [.int .u64 w_0] (AY x) :=
  ni false AY IF h (Sg.cut 2 SA (bT pN (SB w_0) [⟨[],[],[0,5]⟩]) (fun b1=>bT pN lQ [⟨[],[],[2]⟩,⟨[],[],[2]⟩]))
    (fun x=>by cases x with | r0 i2=>exact ln [.int .u64 i2])
def lK:Option ir→Bool
  | some _=>true
  | none=>false
def iQ:Option ir→Int
  | some (.r0 x)=>x
  | _=>0
theorem SE{x:Option ir}(h:lK x=true) :x=some (.r0 (iQ x)):=by
  unfold lK at h
  split at h<;>first | rfl | (cases h;done) | (rename_i y;cases y;rfl)
noncomputable def IG:aF:=cL qt (.cons (.int .u64) .nil) fun t=>(fun q=>[⟨AY (.r0 (iQ q)),[lK q]⟩]) (gQ t.1)
theorem Mr:aV prog IG:=bg fun t=>(be (fun h=>SD t.1 (SE h)) bA)
noncomputable def IH:List aF:=IG::CS
theorem kZ:aP prog (aN IH):=ay Mr pN
inductive cn where
  | r0 (b2:Bool)
def jv:cn→AE×aH
  | .r0 b2=>(.ret,⟨ah 28 [(4,.bool false b2)],[],0⟩)
theorem iA:jC jv:=by intro x;cases x<;>(intro h;cases h)
theorem B3(id:Nat) :jZ id jv:=by intro x;cases x<;>(intro h;cases h)
def mV:cn→gw
  | .r0 b2=>⟨.bool false b2,[]⟩
noncomputable def B4:List Code:=cJ (kF mM)
def B5(v_0:Lv)(a_1:List Nat)(v_2:Lv)(b_3:List Nat)(_:Unit) :aH:=⟨ah 28 [(0,.imm v_0 (.fl a_1) 1 1 0 (List.length a_1)),(1,.imm v_2 (.fl b_3) 1 1 0 (List.length b_3)),(5,.int .i64 (0:Int))],[],0⟩
def B6(a_1:List Nat)(b_3:List Nat) :T ((Unit)⊕(cn)) :=
  .ask ((((List.length a_1):Nat):Int) != (((List.length b_3):Nat):Int))
    (.leaf (.inr (.r0 false)))
    (.leaf (.inl ()))
def iB(v_0:Lv)(a_1:List Nat)(v_2:Lv)(b_3:List Nat)(i1:Nat) :aH:=⟨ah 28 [(0,.imm v_0 (.fl a_1) 1 1 0 (List.length a_1)),(1,.imm v_2 (.fl b_3) 1 1 0 (List.length b_3)),(5,.int .i64 ((i1:Nat):Int))],[],0⟩
def rC(_:Unit) :aH:=⟨ah 28 [],[],0⟩
noncomputable def AZ:List Code:=cJ (dG ((((B4.drop 4).take 1)).headD .skip))
def B7(v_0:Lv)(a_1:List Nat)(v_2:Lv)(b_3:List Nat)(i1:Nat)(_:Unit) :aH:=⟨ah 28 [(0,.imm v_0 (.fl a_1) 1 1 0 (List.length a_1)),(1,.imm v_2 (.fl b_3) 1 1 0 (List.length b_3)),(5,.int .i64 ((i1:Nat):Int))],[],0⟩
def qQ(a_1 : List Nat)(b_3 : List Nat)(i1 : Nat) : T ((Unit) ⊕ ((Unit) ⊕ (cn))) :=
  .ask (decide (((i1:Nat):Int)<(((List.length a_1):Nat):Int)))
    (.need (fc ((i1:Nat):Int) (List.length a_1))<|.need (eX i1 (List.length a_1))<|.alt 0
      (.need (!isNaN (List.getD a_1 i1 0))<|.need (lK (gQ (((List.getD a_1 i1 0):Nat):Int)))<|.need (fc ((i1:Nat):Int) (List.length b_3))<|.need (eX i1 (List.length b_3))<|.alt 0
        (.need (!isNaN (List.getD b_3 i1 0))<|.need (lK (gQ (((List.getD b_3 i1 0):Nat):Int)))<|.ask ((iQ (gQ (((List.getD a_1 i1 0):Nat):Int))) != (iQ (gQ (((List.getD b_3 i1 0):Nat):Int))))
          (.leaf (.inr (.inr (.r0 false))))
          (.leaf (.inl ())))
        (.alt 1
          (.need (isNaN (List.getD b_3 i1 0))<|.ask ((iQ (gQ (((List.getD a_1 i1 0):Nat):Int))) != (9221120237041090560:Int))
            (.leaf (.inr (.inr (.r0 false))))
            (.leaf (.inl ())))
          (.fail)))
      (.alt 1
        (.need (isNaN (List.getD a_1 i1 0))<|.need (fc ((i1:Nat):Int) (List.length b_3))<|.need (eX i1 (List.length b_3))<|.alt 0
          (.need (!isNaN (List.getD b_3 i1 0))<|.need (lK (gQ (((List.getD b_3 i1 0):Nat):Int)))<|.ask ((9221120237041090560:Int) != (iQ (gQ (((List.getD b_3 i1 0):Nat):Int))))
            (.leaf (.inr (.inr (.r0 false))))
            (.leaf (.inl ())))
          (.alt 1
            (.need (isNaN (List.getD b_3 i1 0))<|.ask ((9221120237041090560:Int) != (9221120237041090560:Int))
              (.fail)
              (.leaf (.inl ())))
            (.fail)))
        (.fail)))
    (.leaf (.inr (.inl ())))
def A0(i1:Nat) :T ((Nat)⊕((Unit)⊕(cn))) :=
  .need (cu .i64 (((i1+1):Nat):Int))<|.leaf (.inl (i1+1))
noncomputable def lb(a_1:List Nat)(b_3:List Nat) :Nat→Option ((Nat)⊕((Unit)⊕(cn))):=fun i1 =>
  aU ((qQ a_1 b_3 i1).run) fun _ =>
  (A0 i1).run
theorem A1(v_0:Lv)(a_1:List Nat)(v_2:Lv)(b_3:List Nat)(i1:Nat) :Sg prog [] AZ (iB v_0 a_1 v_2 b_3 i1) (lb a_1 b_3 i1) (iB v_0 a_1 v_2 b_3) (cx 0 rC jv):=by
  unfold lb;exact Sg.cut 3 (aM iA) (bT kZ (B7 v_0 a_1 v_2 b_3 i1) [⟨[],[],[4]⟩,⟨[],[],[0,1,5]⟩,⟨[],[],[4]⟩,⟨[],[],[0,1,5]⟩,⟨[],[],[4]⟩,⟨[],[],[0,1,5]⟩,⟨[],[],[0,1,5]⟩,⟨[],[],[]⟩]) (fun _=>bT kZ (iB v_0 a_1 v_2 b_3) [⟨[],[],[0,1,5]⟩])
def A2:T ((Empty)⊕(cn)) :=
  .leaf (.inr (.r0 true))
noncomputable def hH(a_1:List Nat)(b_3:List Nat) :Option cn:=lX (aU ((B6 a_1 b_3).run) fun _ =>
  aU (dg (lb a_1 b_3) 0) fun _ =>
  (A2).run)
theorem B8(v_0:Lv)(a_1:List Nat)(v_2:Lv)(b_3:List Nat){x:cn}(h:hH a_1 b_3=some x) :aj prog mM [] [.imm v_0 (.fl a_1) 1 1 0 (List.length a_1),.imm v_2 (.fl b_3) 1 1 0 (List.length b_3)] (mV x) :=
  ni false mV jv h (Sg.cut 4 iA (bT kZ (B5 v_0 a_1 v_2 b_3) [⟨[],[],[4]⟩,⟨[],[],[0,1,5]⟩]) (fun _=>Sg.cut 1 iA (GA ⟨[],[],[0,1,5]⟩ (iB v_0 a_1 v_2 b_3) (rC) 0 iA (B3 _) (fun i1=>A1 v_0 a_1 v_2 b_3 i1)) (fun _=>bT kZ lQ [⟨[],[],[4]⟩])))
    (fun x=>by cases x with | r0 b2=>exact ln [.bool false b2])
def iC:Option cn→Bool
  | some _=>true
  | none=>false
def kg:Option cn→Bool
  | some (.r0 x)=>x
  | _=>false
theorem B9{x:Option cn}(h:iC x=true) :x=some (.r0 (kg x)):=by
  unfold iC at h
  split at h<;>first | rfl | (cases h;done) | (rename_i y;cases y;rfl)
noncomputable def tu:aF:=cL mM (.cons .fl (.cons .fl .nil)) fun t=>(fun q=>[⟨mV (.r0 (kg q)),[iC q]⟩]) (hH t.1.2 t.2.1.2)
theorem zp:aV prog tu:=bg fun t=>(be (fun h=>B8 t.1.1 t.1.2 t.2.1.1 t.2.1.2 (B9 h)) bA)
noncomputable def tw:List aF:=tu::IH
theorem kh:aP prog (aN tw):=ay zp kZ
inductive df where
  | r0 (b2:Bool)
def tx:df→AE×aH
  | .r0 b2=>(.ret,⟨ah 24 [(4,.bool false b2)],[],0⟩)
theorem Ca:jC tx:=by intro x;cases x<;>(intro h;cases h)
def mW:df→gw
  | .r0 b2=>⟨.bool false b2,[]⟩
def Cb(b1:Bool) :aH:=⟨ah 24 [(4,.bool false b1)],[],0⟩
def rD(a_0:Int)(a_1:Int)(a_3:List Nat)(b_4:Int)(b_5:Int)(b_7:List Nat) :T ((Bool)⊕(df)) :=
  .ask (a_0==b_4)
    (.ask (a_1==b_5)
      (.need (bv 0 (List.length a_3) a_3)<|.need (bv 0 (List.length b_7) b_7)<|.need (iC (hH (ab 0 (List.length a_3) a_3) (ab 0 (List.length b_7) b_7)))<|.leaf (.inl (kg (hH (ab 0 (List.length a_3) a_3) (ab 0 (List.length b_7) b_7)))))
      (.leaf (.inl false)))
    (.leaf (.inl false))
def Cc(b1:Bool) :T ((Empty)⊕(df)) :=
  .leaf (.inr (.r0 b1))
noncomputable def cF(a_0:Int)(a_1:Int)(a_3:List Nat)(b_4:Int)(b_5:Int)(b_7:List Nat) :Option df:=lX (aU ((rD a_0 a_1 a_3 b_4 b_5 b_7).run) fun b1 =>
  (Cc b1).run)
theorem Cd(a_0:Int)(a_1:Int)(v_2:Lv)(a_3:List Nat)(b_4:Int)(b_5:Int)(v_6:Lv)(b_7:List Nat){x:df}(h:cF a_0 a_1 a_3 b_4 b_5 b_7=some x) :aj prog sK [] [.agg [.int .i64 a_0,.int .i64 a_1,.imm v_2 (.fl a_3) 1 1 0 (List.length a_3)],.agg [.int .i64 b_4,.int .i64 b_5,.imm v_6 (.fl b_7) 1 1 0 (List.length b_7)]] (mW x) :=
  ni false mW tx h (Sg.cut 2 Ca (bT kh Cb [⟨[],[],[4]⟩,⟨[],[],[4]⟩,⟨[],[],[4]⟩]) (fun b1=>bT kh lQ [⟨[],[],[4]⟩]))
    (fun x=>by cases x with | r0 b2=>exact ln [.bool false b2])
def eV:Option df→Bool
  | some _=>true
  | none=>false
def fm:Option df→Bool
  | some (.r0 x)=>x
  | _=>false
theorem Ce{x:Option df}(h:eV x=true) :x=some (.r0 (fm x)):=by
  unfold eV at h
  split at h<;>first | rfl | (cases h;done) | (rename_i y;cases y;rfl)
noncomputable def tA:aF:=cL sK (.cons (.agg (.cons (.int .i64) (.cons (.int .i64) (.cons .fl .nil)))) (.cons (.agg (.cons (.int .i64) (.cons (.int .i64) (.cons .fl .nil)))) .nil)) fun t=>(fun q=>[⟨mW (.r0 (fm q)),[eV q]⟩]) (cF t.1.1 t.1.2.1 t.1.2.2.1.2 t.2.1.1 t.2.1.2.1 t.2.1.2.2.1.2)
theorem zq:aV prog tA:=bg fun t=>(be (fun h=>Cd t.1.1 t.1.2.1 t.1.2.2.1.1 t.1.2.2.1.2 t.2.1.1 t.2.1.2.1 t.2.1.2.2.1.1 t.2.1.2.2.1.2 (Ce h)) bA)
noncomputable def tB:List aF:=tA::tw
theorem ic:aP prog (aN tB):=ay zq kh
inductive eB where
  | r0 (a9:Nat) (a10:Nat) (l11:List Nat)
def uH:eB→AE×aH
  | .r0 a9 a10 l11=>(.ret,⟨ah 21 [(4,.sl 0 1 1 0 a9 a10)],[(0,.fl l11)],1⟩)
theorem yo:jC uH:=by intro x;cases x<;>(intro h;cases h)
theorem SF(id:Nat) :jZ id uH:=by intro x;cases x<;>(intro h;cases h)
def A3:eB→gw
  | .r0 a9 a10 l11=>⟨.sl 0 1 1 0 a9 a10,[some (.fl l11)]⟩
noncomputable def SG:List Code:=cJ (kF Ad)
def SH(m_0:Int)(m_1:Int)(v_2:Lv)(m_3:List Nat)(j_4:Int)(_:Unit) :aH:=⟨ah 21 [(1,.int .i64 j_4),(2,.ptr 0 1 0 0),(5,.nsl),(6,.int .i64 (0:Int))],[(0,.vs [.int .i64 m_0,.int .i64 m_1,.imm v_2 (.fl m_3) 1 1 0 (List.length m_3)])],1⟩
def SI:T ((Unit)⊕(eB)) :=
  .leaf (.inl ())
def sa(m_0:Int)(m_1:Int)(v_2:Lv)(m_3:List Nat)(j_4:Int) :Nat×Nat×Nat×(List Nat)→aH:=fun (l2,l3,i4,l5)=>⟨ah 21 [(1,.int .i64 j_4),(2,.ptr 0 1 0 0),(5,.sl 1 1 1 0 l2 l3),(6,.int .i64 ((i4:Nat):Int))],[(0,.vs [.int .i64 m_0,.int .i64 m_1,.imm v_2 (.fl m_3) 1 1 0 (List.length m_3)]),(1,.fl l5)],2⟩
def Fx:Nat×Nat×(List Nat)→aH:=fun (l6,l7,l8)=>⟨ah 21 [(5,.sl 0 1 1 0 l6 l7)],[(0,.fl l8)],1⟩
noncomputable def SJ:List Code:=cJ (dG ((((SG.drop 3).take 1)).headD .skip))
def vD(m_0:Int)(m_1:Int)(m_3:List Nat)(j_4:Int)(l2:Nat)(l3:Nat)(i4:Nat)(l5:List Nat) :T ((Nat×Nat×Nat×(List Nat))⊕((Nat×Nat×(List Nat))⊕(eB))) :=
  .ask (decide (((i4:Nat):Int)<m_0))
    (.need (cu .i64 (((i4:Nat):Int)*m_1))<|.need (cu .i64 ((((i4:Nat):Int)*m_1)+j_4))<|.need (fc ((((i4:Nat):Int)*m_1)+j_4) (List.length m_3))<|.need (eX (Int.toNat ((((i4:Nat):Int)*m_1)+j_4)) (List.length m_3))<|.need (lV ((l2+1)*8) 140737488355328)<|.need (lV (l2+1) 9223372036854775807)<|.need (lV 1 1)<|.need (lV l2 (List.length l5))<|.need (cu .i64 (((i4+1):Nat):Int))<|.leaf (.inl ((l2+1),(l2+1),(i4+1),((List.take l2 l5)++(List.take 1 [(List.getD m_3 (Int.toNat ((((i4:Nat):Int)*m_1)+j_4)) 0)])))))
    (.leaf (.inr (.inl (l2,l3,l5))))
noncomputable def vE(m_0:Int)(m_1:Int)(m_3:List Nat)(j_4:Int) :Nat×Nat×Nat×(List Nat)→Option ((Nat×Nat×Nat×(List Nat))⊕((Nat×Nat×(List Nat))⊕(eB))):=fun (l2,l3,i4,l5) =>
  (vD m_0 m_1 m_3 j_4 l2 l3 i4 l5).run
theorem OG(m_0:Int)(m_1:Int)(v_2:Lv)(m_3:List Nat)(j_4:Int)(l2:Nat)(l3:Nat)(i4:Nat)(l5:List Nat) :Sg prog [] SJ (sa m_0 m_1 v_2 m_3 j_4 (l2,l3,i4,l5)) (vE m_0 m_1 m_3 j_4 (l2,l3,i4,l5)) (sa m_0 m_1 v_2 m_3 j_4) (cx 0 Fx uH):=by
  unfold vE;exact bT ic (sa m_0 m_1 v_2 m_3 j_4) [⟨[],[0,162],[1,2,5,6]⟩,⟨[],[1],[5]⟩]
def OH(l6:Nat)(l7:Nat)(l8:List Nat) :T ((Empty)⊕(eB)) :=
  .leaf (.inr (.r0 l6 l7 l8))
noncomputable def gR(m_0:Int)(m_1:Int)(m_3:List Nat)(j_4:Int) :Option eB:=lX (aU ((SI).run) fun _ =>
  aU (dg (vE m_0 m_1 m_3 j_4) (0,0,0,([]:List Nat))) fun (l6,l7,l8) =>
  (OH l6 l7 l8).run)
theorem SK(m_0:Int)(m_1:Int)(v_2:Lv)(m_3:List Nat)(j_4:Int){x:eB}(h:gR m_0 m_1 m_3 j_4=some x) :aj prog Ad [] [.agg [.int .i64 m_0,.int .i64 m_1,.imm v_2 (.fl m_3) 1 1 0 (List.length m_3)],.int .i64 j_4] (A3 x) :=
  ni false A3 uH h (Sg.cut 3 yo (bT ic (SH m_0 m_1 v_2 m_3 j_4) [⟨[],[0],[1,2,5,6]⟩]) (fun _=>Sg.cut 1 yo (GA ⟨[(.slot 5,.own 1 1 (.fl ([]:List Nat)))],[0,1],[1,2,5,6]⟩ (sa m_0 m_1 v_2 m_3 j_4) (Fx) 0 yo (SF _) (fun ⟨l2,l3,i4,l5⟩=>OG m_0 m_1 v_2 m_3 j_4 l2 l3 i4 l5)) (fun ⟨l6,l7,l8⟩=>bT ic lQ [⟨[],[0],[4]⟩])))
    (fun x=>by cases x with | r0 a9 a10 l11=>exact ln [.sl 0 1 1 0 a9 a10])
def sb:Option eB→Bool
  | some _=>true
  | none=>false
def iR:Option eB→Nat
  | some (.r0 x _ _)=>x
  | _=>0
def A4:Option eB→Nat
  | some (.r0 _ x _)=>x
  | _=>0
def iS:Option eB→List Nat
  | some (.r0 _ _ x)=>x
  | _=>[]
theorem SL{x:Option eB}(h:sb x=true) :x=some (.r0 (iR x) (A4 x) (iS x)):=by
  unfold sb at h
  split at h<;>first | rfl | (cases h;done) | (rename_i y;cases y;rfl)
noncomputable def II:aF:=cL Ad (.cons (.agg (.cons (.int .i64) (.cons (.int .i64) (.cons .fl .nil)))) (.cons (.int .i64) .nil)) fun t=>(fun q=>[⟨A3 (.r0 (iR q) (A4 q) (iS q)),[sb q]⟩]) (gR t.1.1 t.1.2.1 t.1.2.2.1.2 t.2.1)
theorem Ms:aV prog II:=bg fun t=>(be (fun h=>SK t.1.1 t.1.2.1 t.1.2.2.1.1 t.1.2.2.1.2 t.2.1 (SL h)) bA)
noncomputable def IJ:List aF:=II::tB
theorem oA:aP prog (aN IJ):=ay Ms ic
inductive eZ where
  | r0 (a4:Nat)
def uI:eZ→AE×aH
  | .r0 a4=>(.ret,⟨ah 27 [(4,.flt false a4)],[],0⟩)
theorem yp:jC uI:=by intro x;cases x<;>(intro h;cases h)
theorem SM(id:Nat) :jZ id uI:=by intro x;cases x<;>(intro h;cases h)
def A5:eZ→gw
  | .r0 a4=>⟨.flt false a4,[]⟩
noncomputable def SN:List Code:=cJ (kF Ac)
def SO(v_0:Lv)(x_1:List Nat)(v_2:Lv)(y_3:List Nat)(_:Unit) :aH:=⟨ah 27 [(0,.imm v_0 (.fl x_1) 1 1 0 (List.length x_1)),(1,.imm v_2 (.fl y_3) 1 1 0 (List.length y_3)),(5,.flt false 0),(6,.int .i64 (0:Int))],[],0⟩
def SP:T ((Unit)⊕(eZ)) :=
  .leaf (.inl ())
def sc(v_0:Lv)(x_1:List Nat)(v_2:Lv)(y_3:List Nat) :Nat×Nat→aH:=fun (acc1,k2)=>⟨ah 27 [(0,.imm v_0 (.fl x_1) 1 1 0 (List.length x_1)),(1,.imm v_2 (.fl y_3) 1 1 0 (List.length y_3)),(5,.flt false acc1),(6,.int .i64 ((k2:Nat):Int))],[],0⟩
def Fy(acc3:Nat) :aH:=⟨ah 27 [(5,.flt false acc3)],[],0⟩
noncomputable def SQ:List Code:=cJ (dG ((((SN.drop 3).take 1)).headD .skip))
def yq(x_1:List Nat)(y_3:List Nat)(acc1:Nat)(k2:Nat) :T ((Nat×Nat)⊕((Nat)⊕(eZ))) :=
  .ask (decide (((k2:Nat):Int)<(((List.length x_1):Nat):Int)))
    (.need (fc ((k2:Nat):Int) (List.length x_1))<|.need (eX k2 (List.length x_1))<|.need (fc ((k2:Nat):Int) (List.length y_3))<|.need (eX k2 (List.length y_3))<|.need (cu .i64 (((k2+1):Nat):Int))<|.leaf (.inl ((tM acc1 (mK (List.getD x_1 k2 0) (List.getD y_3 k2 0))),(k2+1))))
    (.leaf (.inr (.inl acc1)))
noncomputable def vF(x_1:List Nat)(y_3:List Nat) :Nat×Nat→Option ((Nat×Nat)⊕((Nat)⊕(eZ))):=fun (acc1,k2) =>
  (yq x_1 y_3 acc1 k2).run
theorem OI(v_0:Lv)(x_1:List Nat)(v_2:Lv)(y_3:List Nat)(acc1:Nat)(k2:Nat) :Sg prog [] SQ (sc v_0 x_1 v_2 y_3 (acc1,k2)) (vF x_1 y_3 (acc1,k2)) (sc v_0 x_1 v_2 y_3) (cx 0 Fy uI):=by
  unfold vF;exact bT oA (sc v_0 x_1 v_2 y_3) [⟨[],[],[0,1,5,6]⟩,⟨[],[],[5]⟩]
def OJ(acc3:Nat) :T ((Empty)⊕(eZ)) :=
  .leaf (.inr (.r0 acc3))
noncomputable def nk(x_1:List Nat)(y_3:List Nat) :Option eZ:=lX (aU ((SP).run) fun _ =>
  aU (dg (vF x_1 y_3) (0,0)) fun acc3 =>
  (OJ acc3).run)
theorem SS(v_0:Lv)(x_1:List Nat)(v_2:Lv)(y_3:List Nat){x:eZ}(h:nk x_1 y_3=some x) :aj prog Ac [] [.imm v_0 (.fl x_1) 1 1 0 (List.length x_1),.imm v_2 (.fl y_3) 1 1 0 (List.length y_3)] (A5 x) :=
  ni false A5 uI h (Sg.cut 3 yp (bT oA (SO v_0 x_1 v_2 y_3) [⟨[],[],[0,1,5,6]⟩]) (fun _=>Sg.cut 1 yp (GA ⟨[],[],[0,1,5,6]⟩ (sc v_0 x_1 v_2 y_3) (Fy) 0 yp (SM _) (fun ⟨acc1,k2⟩=>OI v_0 x_1 v_2 y_3 acc1 k2)) (fun acc3=>bT oA lQ [⟨[],[],[4]⟩])))
    (fun x=>by cases x with | r0 a4=>exact ln [.flt false a4])
def sd:Option eZ→Bool
  | some _=>true
  | none=>false
def tC:Option eZ→Nat
  | some (.r0 x)=>x
  | _=>0
theorem SU{x:Option eZ}(h:sd x=true) :x=some (.r0 (tC x)):=by
  unfold sd at h
  split at h<;>first | rfl | (cases h;done) | (rename_i y;cases y;rfl)
noncomputable def IK:aF:=cL Ac (.cons .fl (.cons .fl .nil)) fun t=>(fun q=>[⟨A5 (.r0 (tC q)),[sd q]⟩]) (nk t.1.2 t.2.1.2)
theorem Mt:aV prog IK:=bg fun t=>(be (fun h=>SS t.1.1 t.1.2 t.2.1.1 t.2.1.2 (SU h)) bA)
noncomputable def IL:List aF:=IK::IJ
theorem eQ:aP prog (aN IL):=ay Mt oA
inductive ch where
  | r0 (i18:Int) (i19:Int) (a20:Nat) (l21:List Nat)
def oB:ch→AE×aH
  | .r0 i18 i19 a20 l21=>(.ret,⟨ah 52 [(10,.ptr 0 1 0 0)],[(0,.vs [.int .i64 i18,.int .i64 i19,.sl 1 1 1 0 a20 a20]),(1,.fl l21)],2⟩)
theorem eE:jC oB:=by intro x;cases x<;>(intro h;cases h)
theorem vG(id:Nat) :jZ id oB:=by intro x;cases x<;>(intro h;cases h)
def yu:ch→gw
  | .r0 i18 i19 a20 l21=>⟨.agg [.int .i64 i18,.int .i64 i19,.sl 0 1 1 0 a20 a20],[some (.fl l21)]⟩
noncomputable def Mu:List Code:=cJ (kF wR)
def OK(a_0:Nat)(m_1:Int)(m_2:Int)(v_3:Lv)(m_4:List Nat)(n_5:Int)(n_6:Int)(v_7:Lv)(n_8:List Nat)(b_9:Nat)(o_10:Int)(o_11:Int)(v_12:Lv)(o_13:List Nat)(l1:(List Nat)) :aH:=⟨ah 52 [(0,.flt false a_0),(3,.flt false b_9),(6,.ptr 0 1 0 0),(7,.ptr 1 1 0 0),(9,.ptr 2 1 0 0),(10,.ptr 3 1 0 0),(11,.ptr 4 1 0 0),(12,.int .i64 (0:Int))],[(0,.vs [.int .i64 m_1,.int .i64 m_2,.imm v_3 (.fl m_4) 1 1 0 (List.length m_4)]),(1,.vs [.int .i64 n_5,.int .i64 n_6,.imm v_7 (.fl n_8) 1 1 0 (List.length n_8)]),(2,.vs [.int .i64 o_10,.int .i64 o_11,.imm v_12 (.fl o_13) 1 1 0 (List.length o_13)]),(3,.vs [.int .i64 (0:Int),.int .i64 (0:Int),.nsl]),(4,.vs [.int .i64 o_10,.int .i64 o_11,.sl 5 1 1 0 (List.length o_13) (List.length o_13)]),(5,.fl l1)],6⟩
def A6(o_13:List Nat) :T (((List Nat))⊕(ch)) :=
  .need (lV ((List.length o_13)*8) 140737488355328)<|.need (lV (List.length o_13) 9223372036854775807)<|.need (lV (List.length o_13) (List.length o_13))<|.leaf (.inl (List.take (List.length o_13) o_13))
def oC(a_0:Nat)(m_1:Int)(m_2:Int)(v_3:Lv)(m_4:List Nat)(n_5:Int)(n_6:Int)(v_7:Lv)(n_8:List Nat)(b_9:Nat)(o_10:Int)(o_11:Int)(v_12:Lv)(o_13:List Nat) :Nat×(List Nat)→aH:=fun (i9,l10)=>⟨ah 52 [(0,.flt false a_0),(3,.flt false b_9),(6,.ptr 0 1 0 0),(7,.ptr 1 1 0 0),(9,.ptr 2 1 0 0),(10,.ptr 3 1 0 0),(11,.ptr 4 1 0 0),(12,.int .i64 ((i9:Nat):Int))],[(0,.vs [.int .i64 m_1,.int .i64 m_2,.imm v_3 (.fl m_4) 1 1 0 (List.length m_4)]),(1,.vs [.int .i64 n_5,.int .i64 n_6,.imm v_7 (.fl n_8) 1 1 0 (List.length n_8)]),(2,.vs [.int .i64 o_10,.int .i64 o_11,.imm v_12 (.fl o_13) 1 1 0 (List.length o_13)]),(3,.vs [.int .i64 (0:Int),.int .i64 (0:Int),.nsl]),(4,.vs [.int .i64 o_10,.int .i64 o_11,.sl 5 1 1 0 (List.length o_13) (List.length o_13)]),(5,.fl l10)],6⟩
def tD(o_10:Int)(o_11:Int)(o_13:List Nat)(l17:(List Nat)) :aH:=⟨ah 52 [(10,.ptr 0 1 0 0),(11,.ptr 1 1 0 0)],[(0,.vs [.int .i64 (0:Int),.int .i64 (0:Int),.nsl]),(1,.vs [.int .i64 o_10,.int .i64 o_11,.sl 2 1 1 0 (List.length o_13) (List.length o_13)]),(2,.fl l17)],3⟩
noncomputable def A7:List Code:=cJ (dG ((((Mu.drop 3).take 1)).headD .skip))
def Mv(a_0:Nat)(m_1:Int)(m_2:Int)(v_3:Lv)(m_4:List Nat)(n_5:Int)(n_6:Int)(v_7:Lv)(n_8:List Nat)(b_9:Nat)(o_10:Int)(o_11:Int)(v_12:Lv)(o_13:List Nat)(i9:Nat)(l10:List Nat)(_:Unit) :aH:=⟨ah 52 [(0,.flt false a_0),(3,.flt false b_9),(6,.ptr 0 1 0 0),(7,.ptr 1 1 0 0),(9,.ptr 2 1 0 0),(10,.ptr 3 1 0 0),(11,.ptr 4 1 0 0),(12,.int .i64 ((i9:Nat):Int))],[(0,.vs [.int .i64 m_1,.int .i64 m_2,.imm v_3 (.fl m_4) 1 1 0 (List.length m_4)]),(1,.vs [.int .i64 n_5,.int .i64 n_6,.imm v_7 (.fl n_8) 1 1 0 (List.length n_8)]),(2,.vs [.int .i64 o_10,.int .i64 o_11,.imm v_12 (.fl o_13) 1 1 0 (List.length o_13)]),(3,.vs [.int .i64 (0:Int),.int .i64 (0:Int),.nsl]),(4,.vs [.int .i64 o_10,.int .i64 o_11,.sl 5 1 1 0 (List.length o_13) (List.length o_13)]),(5,.fl l10)],6⟩
def Mw(o_10:Int)(i9:Nat)(l10:List Nat) :T ((Unit)⊕(((List Nat))⊕(ch))) :=
  .ask (decide (((i9:Nat):Int)<o_10))
    (.leaf (.inl ()))
    (.leaf (.inr (.inl l10)))
def tE(a_0:Nat)(m_1:Int)(m_2:Int)(v_3:Lv)(m_4:List Nat)(n_5:Int)(n_6:Int)(v_7:Lv)(n_8:List Nat)(b_9:Nat)(o_10:Int)(o_11:Int)(v_12:Lv)(o_13:List Nat)(i9:Nat)(l16:(List Nat)) :aH:=⟨ah 52 [(0,.flt false a_0),(3,.flt false b_9),(6,.ptr 0 1 0 0),(7,.ptr 1 1 0 0),(9,.ptr 2 1 0 0),(10,.ptr 3 1 0 0),(11,.ptr 4 1 0 0),(12,.int .i64 ((i9:Nat):Int))],[(0,.vs [.int .i64 m_1,.int .i64 m_2,.imm v_3 (.fl m_4) 1 1 0 (List.length m_4)]),(1,.vs [.int .i64 n_5,.int .i64 n_6,.imm v_7 (.fl n_8) 1 1 0 (List.length n_8)]),(2,.vs [.int .i64 o_10,.int .i64 o_11,.imm v_12 (.fl o_13) 1 1 0 (List.length o_13)]),(3,.vs [.int .i64 (0:Int),.int .i64 (0:Int),.nsl]),(4,.vs [.int .i64 o_10,.int .i64 o_11,.sl 5 1 1 0 (List.length o_13) (List.length o_13)]),(5,.fl l16)],6⟩
noncomputable def Mx:List Code:=cJ (inBlock ((((A7.drop 2).take 1)).headD .skip))
def My(a_0:Nat)(m_1:Int)(m_2:Int)(v_3:Lv)(m_4:List Nat)(n_5:Int)(n_6:Int)(v_7:Lv)(n_8:List Nat)(b_9:Nat)(o_10:Int)(o_11:Int)(v_12:Lv)(o_13:List Nat)(i9:Nat)(l10:List Nat)(_:Unit) :aH:=⟨ah 52 [(0,.flt false a_0),(3,.flt false b_9),(6,.ptr 0 1 0 0),(7,.ptr 1 1 0 0),(9,.ptr 2 1 0 0),(10,.ptr 3 1 0 0),(11,.ptr 4 1 0 0),(12,.int .i64 ((i9:Nat):Int)),(13,.int .i64 (0:Int))],[(0,.vs [.int .i64 m_1,.int .i64 m_2,.imm v_3 (.fl m_4) 1 1 0 (List.length m_4)]),(1,.vs [.int .i64 n_5,.int .i64 n_6,.imm v_7 (.fl n_8) 1 1 0 (List.length n_8)]),(2,.vs [.int .i64 o_10,.int .i64 o_11,.imm v_12 (.fl o_13) 1 1 0 (List.length o_13)]),(3,.vs [.int .i64 (0:Int),.int .i64 (0:Int),.nsl]),(4,.vs [.int .i64 o_10,.int .i64 o_11,.sl 5 1 1 0 (List.length o_13) (List.length o_13)]),(5,.fl l10)],6⟩
def Mz:T ((Unit)⊕(((List Nat))⊕(((List Nat))⊕(ch)))) :=
  .leaf (.inl ())
def oD(a_0:Nat)(m_1:Int)(m_2:Int)(v_3:Lv)(m_4:List Nat)(n_5:Int)(n_6:Int)(v_7:Lv)(n_8:List Nat)(b_9:Nat)(o_10:Int)(o_11:Int)(v_12:Lv)(o_13:List Nat)(i9:Nat) :Nat×(List Nat)→aH:=fun (j12,l13)=>⟨ah 52 [(0,.flt false a_0),(3,.flt false b_9),(6,.ptr 0 1 0 0),(7,.ptr 1 1 0 0),(9,.ptr 2 1 0 0),(10,.ptr 3 1 0 0),(11,.ptr 4 1 0 0),(12,.int .i64 ((i9:Nat):Int)),(13,.int .i64 ((j12:Nat):Int))],[(0,.vs [.int .i64 m_1,.int .i64 m_2,.imm v_3 (.fl m_4) 1 1 0 (List.length m_4)]),(1,.vs [.int .i64 n_5,.int .i64 n_6,.imm v_7 (.fl n_8) 1 1 0 (List.length n_8)]),(2,.vs [.int .i64 o_10,.int .i64 o_11,.imm v_12 (.fl o_13) 1 1 0 (List.length o_13)]),(3,.vs [.int .i64 (0:Int),.int .i64 (0:Int),.nsl]),(4,.vs [.int .i64 o_10,.int .i64 o_11,.sl 5 1 1 0 (List.length o_13) (List.length o_13)]),(5,.fl l13)],6⟩
def A8(a_0:Nat)(m_1:Int)(m_2:Int)(v_3:Lv)(m_4:List Nat)(n_5:Int)(n_6:Int)(v_7:Lv)(n_8:List Nat)(b_9:Nat)(o_10:Int)(o_11:Int)(v_12:Lv)(o_13:List Nat)(i9:Nat)(l15:(List Nat)) :aH:=⟨ah 52 [(0,.flt false a_0),(3,.flt false b_9),(6,.ptr 0 1 0 0),(7,.ptr 1 1 0 0),(9,.ptr 2 1 0 0),(10,.ptr 3 1 0 0),(11,.ptr 4 1 0 0),(12,.int .i64 ((i9:Nat):Int))],[(0,.vs [.int .i64 m_1,.int .i64 m_2,.imm v_3 (.fl m_4) 1 1 0 (List.length m_4)]),(1,.vs [.int .i64 n_5,.int .i64 n_6,.imm v_7 (.fl n_8) 1 1 0 (List.length n_8)]),(2,.vs [.int .i64 o_10,.int .i64 o_11,.imm v_12 (.fl o_13) 1 1 0 (List.length o_13)]),(3,.vs [.int .i64 (0:Int),.int .i64 (0:Int),.nsl]),(4,.vs [.int .i64 o_10,.int .i64 o_11,.sl 5 1 1 0 (List.length o_13) (List.length o_13)]),(5,.fl l15)],6⟩
noncomputable def MA:List Code:=cJ (dG ((((Mx.drop 1).take 1)).headD .skip))
def MB(a_0:Nat)(m_1:Int)(m_2:Int)(v_3:Lv)(m_4:List Nat)(n_5:Int)(n_6:Int)(v_7:Lv)(n_8:List Nat)(b_9:Nat)(o_10:Int)(o_11:Int)(v_12:Lv)(o_13:List Nat)(i9:Nat)(j12:Nat)(l14:(List Nat)) :aH:=⟨ah 52 [(0,.flt false a_0),(3,.flt false b_9),(6,.ptr 0 1 0 0),(7,.ptr 1 1 0 0),(9,.ptr 2 1 0 0),(10,.ptr 3 1 0 0),(11,.ptr 4 1 0 0),(12,.int .i64 ((i9:Nat):Int)),(13,.int .i64 ((j12:Nat):Int))],[(0,.vs [.int .i64 m_1,.int .i64 m_2,.imm v_3 (.fl m_4) 1 1 0 (List.length m_4)]),(1,.vs [.int .i64 n_5,.int .i64 n_6,.imm v_7 (.fl n_8) 1 1 0 (List.length n_8)]),(2,.vs [.int .i64 o_10,.int .i64 o_11,.imm v_12 (.fl o_13) 1 1 0 (List.length o_13)]),(3,.vs [.int .i64 (0:Int),.int .i64 (0:Int),.nsl]),(4,.vs [.int .i64 o_10,.int .i64 o_11,.sl 5 1 1 0 (List.length o_13) (List.length o_13)]),(5,.fl l14)],6⟩
def tF(a_0:Nat)(m_2:Int)(m_4:List Nat)(n_5:Int)(n_6:Int)(n_8:List Nat)(b_9:Nat)(o_11:Int)(o_13:List Nat)(i9:Nat)(j12:Nat)(l13:List Nat) :T (((List Nat))⊕(((List Nat))⊕(((List Nat))⊕(((List Nat))⊕(ch))))) :=
  .ask (decide (((j12:Nat):Int)<o_11))
    (.need (cu .i64 (((i9:Nat):Int)*o_11))<|.need (cu .i64 ((((i9:Nat):Int)*o_11)+((j12:Nat):Int)))<|.need (cu .i64 (((i9:Nat):Int)*o_11))<|.need (cu .i64 ((((i9:Nat):Int)*o_11)+((j12:Nat):Int)))<|.need (fc ((((i9:Nat):Int)*o_11)+((j12:Nat):Int)) (List.length o_13))<|.need (eX (Int.toNat ((((i9:Nat):Int)*o_11)+((j12:Nat):Int))) (List.length o_13))<|.need (cu .i64 (((i9:Nat):Int)*m_2))<|.need (cu .i64 (((i9:Nat):Int)*m_2))<|.need (cu .i64 ((((i9:Nat):Int)*m_2)+m_2))<|.need (vL ((((i9:Nat):Int)*m_2)+m_2) (List.length m_4))<|.need (vL (((i9:Nat):Int)*m_2) (Int.toNat ((((i9:Nat):Int)*m_2)+m_2)))<|.need (bv 0 (List.length n_8) n_8)<|.need (sb (gR n_5 n_6 (ab 0 (List.length n_8) n_8) ((j12:Nat):Int)))<|.need (bv (Int.toNat (((i9:Nat):Int)*m_2)) ((Int.toNat ((((i9:Nat):Int)*m_2)+m_2))-(Int.toNat (((i9:Nat):Int)*m_2))) m_4)<|.need (bv 0 (iR (gR n_5 n_6 (ab 0 (List.length n_8) n_8) ((j12:Nat):Int))) (iS (gR n_5 n_6 (ab 0 (List.length n_8) n_8) ((j12:Nat):Int))))<|.need (sd (nk (ab (Int.toNat (((i9:Nat):Int)*m_2)) ((Int.toNat ((((i9:Nat):Int)*m_2)+m_2))-(Int.toNat (((i9:Nat):Int)*m_2))) m_4) (ab 0 (iR (gR n_5 n_6 (ab 0 (List.length n_8) n_8) ((j12:Nat):Int))) (iS (gR n_5 n_6 (ab 0 (List.length n_8) n_8) ((j12:Nat):Int))))))<|.need (fc ((((i9:Nat):Int)*o_11)+((j12:Nat):Int)) (List.length o_13))<|.need (eX (Int.toNat ((((i9:Nat):Int)*o_11)+((j12:Nat):Int))) (List.length l13))<|.leaf (.inl (List.set l13 (Int.toNat ((((i9:Nat):Int)*o_11)+((j12:Nat):Int))) (tM (mK b_9 (List.getD o_13 (Int.toNat ((((i9:Nat):Int)*o_11)+((j12:Nat):Int))) 0)) (mK a_0 (tC (nk (ab (Int.toNat (((i9:Nat):Int)*m_2)) ((Int.toNat ((((i9:Nat):Int)*m_2)+m_2))-(Int.toNat (((i9:Nat):Int)*m_2))) m_4) (ab 0 (iR (gR n_5 n_6 (ab 0 (List.length n_8) n_8) ((j12:Nat):Int))) (iS (gR n_5 n_6 (ab 0 (List.length n_8) n_8) ((j12:Nat):Int)))))))))))
    (.leaf (.inr (.inl l13)))
def MC(j12:Nat)(l14:List Nat) :T ((Nat×(List Nat))⊕(((List Nat))⊕(((List Nat))⊕(((List Nat))⊕(ch))))) :=
  .need (cu .i64 (((j12+1):Nat):Int))<|.leaf (.inl ((j12+1),l14))
noncomputable def tG(a_0:Nat)(m_2:Int)(m_4:List Nat)(n_5:Int)(n_6:Int)(n_8:List Nat)(b_9:Nat)(o_11:Int)(o_13:List Nat)(i9:Nat) :Nat×(List Nat)→Option ((Nat×(List Nat))⊕(((List Nat))⊕(((List Nat))⊕(((List Nat))⊕(ch))))):=fun (j12,l13) =>
  aU ((tF a_0 m_2 m_4 n_5 n_6 n_8 b_9 o_11 o_13 i9 j12 l13).run) fun l14 =>
  (MC j12 l14).run
theorem MD(a_0:Nat)(m_1:Int)(m_2:Int)(v_3:Lv)(m_4:List Nat)(n_5:Int)(n_6:Int)(v_7:Lv)(n_8:List Nat)(b_9:Nat)(o_10:Int)(o_11:Int)(v_12:Lv)(o_13:List Nat)(i9:Nat)(j12:Nat)(l13:List Nat) :Sg prog [] MA (oD a_0 m_1 m_2 v_3 m_4 n_5 n_6 v_7 n_8 b_9 o_10 o_11 v_12 o_13 i9 (j12,l13)) (tG a_0 m_2 m_4 n_5 n_6 n_8 b_9 o_11 o_13 i9 (j12,l13)) (oD a_0 m_1 m_2 v_3 m_4 n_5 n_6 v_7 n_8 b_9 o_10 o_11 v_12 o_13 i9) (cx 2 (A8 a_0 m_1 m_2 v_3 m_4 n_5 n_6 v_7 n_8 b_9 o_10 o_11 v_12 o_13 i9) (cx 1 (tE a_0 m_1 m_2 v_3 m_4 n_5 n_6 v_7 n_8 b_9 o_10 o_11 v_12 o_13 i9) (cx 0 (tD o_10 o_11 o_13) oB))):=by
  unfold tG;exact Sg.cut 3 (aM (aM (aM eE))) (bT eQ (MB a_0 m_1 m_2 v_3 m_4 n_5 n_6 v_7 n_8 b_9 o_10 o_11 v_12 o_13 i9 j12) [⟨[],[0,1,2,3,4,5],[0,3,6,7,9,10,11,12,13]⟩,⟨[],[0,1,2,3,4,5],[0,3,6,7,9,10,11,12]⟩]) (fun l14=>bT eQ (oD a_0 m_1 m_2 v_3 m_4 n_5 n_6 v_7 n_8 b_9 o_10 o_11 v_12 o_13 i9) [⟨[],[0,1,2,3,4,5],[0,3,6,7,9,10,11,12,13]⟩])
def ME(l15:List Nat) :T (((List Nat))⊕(((List Nat))⊕(((List Nat))⊕(ch)))) :=
  .leaf (.inl l15)
def MF(i9:Nat)(l16:List Nat) :T ((Nat×(List Nat))⊕(((List Nat))⊕(ch))) :=
  .need (cu .i64 (((i9+1):Nat):Int))<|.leaf (.inl ((i9+1),l16))
noncomputable def tH(a_0:Nat)(m_2:Int)(m_4:List Nat)(n_5:Int)(n_6:Int)(n_8:List Nat)(b_9:Nat)(o_10:Int)(o_11:Int)(o_13:List Nat) :Nat×(List Nat)→Option ((Nat×(List Nat))⊕(((List Nat))⊕(ch))):=fun (i9,l10) =>
  aU ((Mw o_10 i9 l10).run) fun _ =>
  aU (sQ (aU ((Mz).run) fun _ =>
  aU (dg (tG a_0 m_2 m_4 n_5 n_6 n_8 b_9 o_11 o_13 i9) (0,l10)) fun l15 =>
  (ME l15).run)) fun l16 =>
  (MF i9 l16).run
theorem MG(a_0:Nat)(m_1:Int)(m_2:Int)(v_3:Lv)(m_4:List Nat)(n_5:Int)(n_6:Int)(v_7:Lv)(n_8:List Nat)(b_9:Nat)(o_10:Int)(o_11:Int)(v_12:Lv)(o_13:List Nat)(i9:Nat)(l10:List Nat) :Sg prog [] A7 (oC a_0 m_1 m_2 v_3 m_4 n_5 n_6 v_7 n_8 b_9 o_10 o_11 v_12 o_13 (i9,l10)) (tH a_0 m_2 m_4 n_5 n_6 n_8 b_9 o_10 o_11 o_13 (i9,l10)) (oC a_0 m_1 m_2 v_3 m_4 n_5 n_6 v_7 n_8 b_9 o_10 o_11 v_12 o_13) (cx 0 (tD o_10 o_11 o_13) oB):=by
  unfold tH;exact Sg.cut 2 (aM eE) (bT eQ (Mv a_0 m_1 m_2 v_3 m_4 n_5 n_6 v_7 n_8 b_9 o_10 o_11 v_12 o_13 i9 l10) [⟨[],[0,1,2,3,4,5],[0,3,6,7,9,10,11,12]⟩,⟨[],[3,4,5],[10,11]⟩]) (fun _=>Sg.cut 1 (aM eE) (sgb (tE a_0 m_1 m_2 v_3 m_4 n_5 n_6 v_7 n_8 b_9 o_10 o_11 v_12 o_13 i9) 1 (aM eE) (ev (by decide) (vG _)) (Sg.cut 1 (aM (aM eE)) (bT eQ (My a_0 m_1 m_2 v_3 m_4 n_5 n_6 v_7 n_8 b_9 o_10 o_11 v_12 o_13 i9 l10) [⟨[],[0,1,2,3,4,5],[0,3,6,7,9,10,11,12,13]⟩]) (fun _=>Sg.cut 1 (aM (aM eE)) (GA ⟨[],[0,1,2,3,4,5],[0,3,6,7,9,10,11,12,13]⟩ (oD a_0 m_1 m_2 v_3 m_4 n_5 n_6 v_7 n_8 b_9 o_10 o_11 v_12 o_13 i9) (A8 a_0 m_1 m_2 v_3 m_4 n_5 n_6 v_7 n_8 b_9 o_10 o_11 v_12 o_13 i9) 2 (aM (aM eE)) (ev (by decide) (ev (by decide) (vG _))) (fun ⟨j12,l13⟩=>MD a_0 m_1 m_2 v_3 m_4 n_5 n_6 v_7 n_8 b_9 o_10 o_11 v_12 o_13 i9 j12 l13)) (fun l15=>bT eQ (tE a_0 m_1 m_2 v_3 m_4 n_5 n_6 v_7 n_8 b_9 o_10 o_11 v_12 o_13 i9) [⟨[],[0,1,2,3,4,5],[0,3,6,7,9,10,11,12]⟩])))) (fun l16=>bT eQ (oC a_0 m_1 m_2 v_3 m_4 n_5 n_6 v_7 n_8 b_9 o_10 o_11 v_12 o_13) [⟨[],[0,1,2,3,4,5],[0,3,6,7,9,10,11,12]⟩]))
def MH(o_10:Int)(o_11:Int)(o_13:List Nat)(l17:List Nat) :T ((Empty)⊕(ch)) :=
  .leaf (.inr (.r0 o_10 o_11 (List.length o_13) l17))
noncomputable def iu(a_0:Nat)(m_2:Int)(m_4:List Nat)(n_5:Int)(n_6:Int)(n_8:List Nat)(b_9:Nat)(o_10:Int)(o_11:Int)(o_13:List Nat) :Option ch:=lX (aU ((A6 o_13).run) fun l1 =>
  aU (dg (tH a_0 m_2 m_4 n_5 n_6 n_8 b_9 o_10 o_11 o_13) (0,l1)) fun l17 =>
  (MH o_10 o_11 o_13 l17).run)
theorem OL(a_0:Nat)(m_1:Int)(m_2:Int)(v_3:Lv)(m_4:List Nat)(n_5:Int)(n_6:Int)(v_7:Lv)(n_8:List Nat)(b_9:Nat)(o_10:Int)(o_11:Int)(v_12:Lv)(o_13:List Nat){x:ch}(h:iu a_0 m_2 m_4 n_5 n_6 n_8 b_9 o_10 o_11 o_13=some x) :aj prog wR [] [.flt false a_0,.agg [.int .i64 m_1,.int .i64 m_2,.imm v_3 (.fl m_4) 1 1 0 (List.length m_4)],.agg [.int .i64 n_5,.int .i64 n_6,.imm v_7 (.fl n_8) 1 1 0 (List.length n_8)],.flt false b_9,.agg [.int .i64 o_10,.int .i64 o_11,.imm v_12 (.fl o_13) 1 1 0 (List.length o_13)]] (yu x) :=
  ni false yu oB h (Sg.cut 3 eE (bT eQ (OK a_0 m_1 m_2 v_3 m_4 n_5 n_6 v_7 n_8 b_9 o_10 o_11 v_12 o_13) [⟨[],[0,16,32,48,96,80],[0,3,6,7,9,10,11,12]⟩]) (fun l1=>Sg.cut 1 eE (GA ⟨[],[0,1,2,3,4,5],[0,3,6,7,9,10,11,12]⟩ (oC a_0 m_1 m_2 v_3 m_4 n_5 n_6 v_7 n_8 b_9 o_10 o_11 v_12 o_13) (tD o_10 o_11 o_13) 0 eE (vG _) (fun ⟨i9,l10⟩=>MG a_0 m_1 m_2 v_3 m_4 n_5 n_6 v_7 n_8 b_9 o_10 o_11 v_12 o_13 i9 l10)) (fun l17=>bT eQ lQ [⟨[],[0,2],[10]⟩])))
    (fun x=>by cases x with | r0 i18 i19 a20 l21=>exact ln [.agg [.int .i64 i18,.int .i64 i19,.sl 1 1 1 0 a20 a20]])
def qn:Option ch→Bool
  | some _=>true
  | none=>false
def rp:Option ch→Int
  | some (.r0 x _ _ _)=>x
  | _=>0
def rq:Option ch→Int
  | some (.r0 _ x _ _)=>x
  | _=>0
def rr:Option ch→Nat
  | some (.r0 _ _ x _)=>x
  | _=>0
def rt:Option ch→List Nat
  | some (.r0 _ _ _ x)=>x
  | _=>[]
theorem OM{x:Option ch}(h:qn x=true) :x=some (.r0 (rp x) (rq x) (rr x) (rt x)):=by
  unfold qn at h
  split at h<;>first | rfl | (cases h;done) | (rename_i y;cases y;rfl)
noncomputable def Fz:aF:=cL wR (.cons (.flt false) (.cons (.agg (.cons (.int .i64) (.cons (.int .i64) (.cons .fl .nil)))) (.cons (.agg (.cons (.int .i64) (.cons (.int .i64) (.cons .fl .nil)))) (.cons (.flt false) (.cons (.agg (.cons (.int .i64) (.cons (.int .i64) (.cons .fl .nil)))) .nil))))) fun t=>(fun q=>[⟨yu (.r0 (rp q) (rq q) (rr q) (rt q)),[qn q]⟩]) (iu t.1 t.2.1.2.1 t.2.1.2.2.1.2 t.2.2.1.1 t.2.2.1.2.1 t.2.2.1.2.2.1.2 t.2.2.2.1 t.2.2.2.2.1.1 t.2.2.2.2.1.2.1 t.2.2.2.2.1.2.2.1.2)
theorem JD:aV prog Fz:=bg fun t=>(be (fun h=>OL t.1 t.2.1.1 t.2.1.2.1 t.2.1.2.2.1.1 t.2.1.2.2.1.2 t.2.2.1.1 t.2.2.1.2.1 t.2.2.1.2.2.1.1 t.2.2.1.2.2.1.2 t.2.2.2.1 t.2.2.2.2.1.1 t.2.2.2.2.1.2.1 t.2.2.2.2.1.2.2.1.1 t.2.2.2.2.1.2.2.1.2 (OM h)) bA)
noncomputable def FB:List aF:=Fz::IL
theorem di:aP prog (aN FB):=ay JD eQ
inductive bu where
  | r0 (i31:Int) (i33:Int) (a34:Nat) (l35:List Nat)
def il:bu→AE×aH
  | .r0 i31 i33 a34 l35=>(.ret,⟨ah 84 [(8,.ptr 0 1 0 0)],[(0,.vs [.int .i64 i31,.int .i64 i33,.sl 1 1 1 0 a34 a34]),(1,.fl l35)],2⟩)
theorem cw:jC il:=by intro x;cases x<;>(intro h;cases h)
theorem lM(id:Nat) :jZ id il:=by intro x;cases x<;>(intro h;cases h)
def ru:bu→gw
  | .r0 i31 i33 a34 l35=>⟨.agg [.int .i64 i31,.int .i64 i33,.sl 0 1 1 0 a34 a34],[some (.fl l35)]⟩
noncomputable def FC:List Code:=cJ (kF ra)
def HI(v_0:Lv)(s_1:List Nat)(u_2:Int)(u_3:Int)(v_4:Lv)(u_5:List Nat)(v_6:Int)(v_7:Int)(v_8:Lv)(v_9:List Nat)(k_10:Int) :Nat×Nat×(List Nat)×(List Nat)→aH:=fun (a1,a2,l3,l4)=>⟨ah 84 [(0,.imm v_0 (.fl s_1) 1 1 0 (List.length s_1)),(3,.int .i64 k_10),(5,.ptr 0 1 0 0),(6,.ptr 1 1 0 0),(8,.ptr 2 1 0 0),(9,.ptr 3 1 0 0),(10,.ptr 4 1 0 0),(11,.int .i64 (0:Int))],[(0,.vs [.int .i64 u_2,.int .i64 u_3,.imm v_4 (.fl u_5) 1 1 0 (List.length u_5)]),(1,.vs [.int .i64 v_6,.int .i64 v_7,.imm v_8 (.fl v_9) 1 1 0 (List.length v_9)]),(2,.vs [.int .i64 (0:Int),.int .i64 (0:Int),.nsl]),(3,.vs [.int .i64 v_6,.int .i64 k_10,.sl 5 1 1 0 a1 a1]),(4,.vs [.int .i64 k_10,.int .i64 u_2,.sl 6 1 1 0 a2 a2]),(5,.fl l3),(6,.fl l4)],7⟩
def uJ(u_2:Int)(v_6:Int)(k_10:Int) :T ((Nat×Nat×(List Nat)×(List Nat))⊕(bu)) :=
  .need (cu .i64 (v_6*k_10))<|.need (decide ((0:Int)≤(v_6*k_10)))<|.need (decide ((v_6*k_10)≤(v_6*k_10)))<|.need (decide ((8:Int)*(v_6*k_10)≤140737488355328))<|.need (cu .i64 (v_6*k_10))<|.need (cu .i64 (k_10*u_2))<|.need (decide ((0:Int)≤(k_10*u_2)))<|.need (decide ((k_10*u_2)≤(k_10*u_2)))<|.need (decide ((8:Int)*(k_10*u_2)≤140737488355328))<|.need (cu .i64 (k_10*u_2))<|.leaf (.inl ((Int.toNat (v_6*k_10)),(Int.toNat (k_10*u_2)),(List.replicate (Int.toNat (v_6*k_10)) 0),(List.replicate (Int.toNat (k_10*u_2)) 0)))
def kq(v_0:Lv)(s_1:List Nat)(u_2:Int)(u_3:Int)(v_4:Lv)(u_5:List Nat)(v_6:Int)(v_7:Int)(v_8:Lv)(v_9:List Nat)(k_10:Int)(a1:Nat)(a2:Nat) :Nat×(List Nat)×(List Nat)→aH:=fun (j14,l15,l16)=>⟨ah 84 [(0,.imm v_0 (.fl s_1) 1 1 0 (List.length s_1)),(3,.int .i64 k_10),(5,.ptr 0 1 0 0),(6,.ptr 1 1 0 0),(8,.ptr 2 1 0 0),(9,.ptr 3 1 0 0),(10,.ptr 4 1 0 0),(11,.int .i64 ((j14:Nat):Int))],[(0,.vs [.int .i64 u_2,.int .i64 u_3,.imm v_4 (.fl u_5) 1 1 0 (List.length u_5)]),(1,.vs [.int .i64 v_6,.int .i64 v_7,.imm v_8 (.fl v_9) 1 1 0 (List.length v_9)]),(2,.vs [.int .i64 (0:Int),.int .i64 (0:Int),.nsl]),(3,.vs [.int .i64 v_6,.int .i64 k_10,.sl 5 1 1 0 a1 a1]),(4,.vs [.int .i64 k_10,.int .i64 u_2,.sl 6 1 1 0 a2 a2]),(5,.fl l15),(6,.fl l16)],7⟩
def kr(u_2:Int)(v_6:Int)(k_10:Int)(a1:Nat)(a2:Nat) :(List Nat)×(List Nat)→aH:=fun (l25,l26)=>⟨ah 84 [(8,.ptr 0 1 0 0),(9,.ptr 1 1 0 0),(10,.ptr 2 1 0 0)],[(0,.vs [.int .i64 (0:Int),.int .i64 (0:Int),.nsl]),(1,.vs [.int .i64 v_6,.int .i64 k_10,.sl 3 1 1 0 a1 a1]),(2,.vs [.int .i64 k_10,.int .i64 u_2,.sl 4 1 1 0 a2 a2]),(3,.fl l25),(4,.fl l26)],5⟩
noncomputable def uK:List Code:=cJ (dG ((((FC.drop 4).take 1)).headD .skip))
def FD(v_0:Lv)(s_1:List Nat)(u_2:Int)(u_3:Int)(v_4:Lv)(u_5:List Nat)(v_6:Int)(v_7:Int)(v_8:Lv)(v_9:List Nat)(k_10:Int)(a1:Nat)(a2:Nat)(j14:Nat)(l15:List Nat)(l16:List Nat)(_:Unit) :aH:=⟨ah 84 [(0,.imm v_0 (.fl s_1) 1 1 0 (List.length s_1)),(3,.int .i64 k_10),(5,.ptr 0 1 0 0),(6,.ptr 1 1 0 0),(8,.ptr 2 1 0 0),(9,.ptr 3 1 0 0),(10,.ptr 4 1 0 0),(11,.int .i64 ((j14:Nat):Int))],[(0,.vs [.int .i64 u_2,.int .i64 u_3,.imm v_4 (.fl u_5) 1 1 0 (List.length u_5)]),(1,.vs [.int .i64 v_6,.int .i64 v_7,.imm v_8 (.fl v_9) 1 1 0 (List.length v_9)]),(2,.vs [.int .i64 (0:Int),.int .i64 (0:Int),.nsl]),(3,.vs [.int .i64 v_6,.int .i64 k_10,.sl 5 1 1 0 a1 a1]),(4,.vs [.int .i64 k_10,.int .i64 u_2,.sl 6 1 1 0 a2 a2]),(5,.fl l15),(6,.fl l16)],7⟩
def FE(k_10:Int)(j14:Nat)(l15:List Nat)(l16:List Nat) :T ((Unit)⊕(((List Nat)×(List Nat))⊕(bu))) :=
  .ask (decide (((j14:Nat):Int)<k_10))
    (.leaf (.inl ()))
    (.leaf (.inr (.inl (l15,l16))))
def ku(v_0:Lv)(s_1:List Nat)(u_2:Int)(u_3:Int)(v_4:Lv)(u_5:List Nat)(v_6:Int)(v_7:Int)(v_8:Lv)(v_9:List Nat)(k_10:Int)(a1:Nat)(a2:Nat)(j14:Nat) :(List Nat)×(List Nat)→aH:=fun (l23,l24)=>⟨ah 84 [(0,.imm v_0 (.fl s_1) 1 1 0 (List.length s_1)),(3,.int .i64 k_10),(5,.ptr 0 1 0 0),(6,.ptr 1 1 0 0),(8,.ptr 2 1 0 0),(9,.ptr 3 1 0 0),(10,.ptr 4 1 0 0),(11,.int .i64 ((j14:Nat):Int))],[(0,.vs [.int .i64 u_2,.int .i64 u_3,.imm v_4 (.fl u_5) 1 1 0 (List.length u_5)]),(1,.vs [.int .i64 v_6,.int .i64 v_7,.imm v_8 (.fl v_9) 1 1 0 (List.length v_9)]),(2,.vs [.int .i64 (0:Int),.int .i64 (0:Int),.nsl]),(3,.vs [.int .i64 v_6,.int .i64 k_10,.sl 5 1 1 0 a1 a1]),(4,.vs [.int .i64 k_10,.int .i64 u_2,.sl 6 1 1 0 a2 a2]),(5,.fl l23),(6,.fl l24)],7⟩
noncomputable def uL:List Code:=cJ (inBlock ((((uK.drop 2).take 1)).headD .skip))
def FF(v_0:Lv)(s_1:List Nat)(u_2:Int)(u_3:Int)(v_4:Lv)(u_5:List Nat)(v_6:Int)(v_7:Int)(v_8:Lv)(v_9:List Nat)(k_10:Int)(a1:Nat)(a2:Nat)(j14:Nat)(l15:List Nat)(l16:List Nat)(_:Unit) :aH:=⟨ah 84 [(0,.imm v_0 (.fl s_1) 1 1 0 (List.length s_1)),(3,.int .i64 k_10),(5,.ptr 0 1 0 0),(6,.ptr 1 1 0 0),(8,.ptr 2 1 0 0),(9,.ptr 3 1 0 0),(10,.ptr 4 1 0 0),(11,.int .i64 ((j14:Nat):Int)),(12,.int .i64 (0:Int))],[(0,.vs [.int .i64 u_2,.int .i64 u_3,.imm v_4 (.fl u_5) 1 1 0 (List.length u_5)]),(1,.vs [.int .i64 v_6,.int .i64 v_7,.imm v_8 (.fl v_9) 1 1 0 (List.length v_9)]),(2,.vs [.int .i64 (0:Int),.int .i64 (0:Int),.nsl]),(3,.vs [.int .i64 v_6,.int .i64 k_10,.sl 5 1 1 0 a1 a1]),(4,.vs [.int .i64 k_10,.int .i64 u_2,.sl 6 1 1 0 a2 a2]),(5,.fl l15),(6,.fl l16)],7⟩
def FG:T ((Unit)⊕(((List Nat)×(List Nat))⊕(((List Nat)×(List Nat))⊕(bu)))) :=
  .leaf (.inl ())
def kv(v_0:Lv)(s_1:List Nat)(u_2:Int)(u_3:Int)(v_4:Lv)(u_5:List Nat)(v_6:Int)(v_7:Int)(v_8:Lv)(v_9:List Nat)(k_10:Int)(a1:Nat)(a2:Nat)(j14:Nat)(l16:List Nat) :Nat×(List Nat)→aH:=fun (i17,l18)=>⟨ah 84 [(0,.imm v_0 (.fl s_1) 1 1 0 (List.length s_1)),(3,.int .i64 k_10),(5,.ptr 0 1 0 0),(6,.ptr 1 1 0 0),(8,.ptr 2 1 0 0),(9,.ptr 3 1 0 0),(10,.ptr 4 1 0 0),(11,.int .i64 ((j14:Nat):Int)),(12,.int .i64 ((i17:Nat):Int))],[(0,.vs [.int .i64 u_2,.int .i64 u_3,.imm v_4 (.fl u_5) 1 1 0 (List.length u_5)]),(1,.vs [.int .i64 v_6,.int .i64 v_7,.imm v_8 (.fl v_9) 1 1 0 (List.length v_9)]),(2,.vs [.int .i64 (0:Int),.int .i64 (0:Int),.nsl]),(3,.vs [.int .i64 v_6,.int .i64 k_10,.sl 5 1 1 0 a1 a1]),(4,.vs [.int .i64 k_10,.int .i64 u_2,.sl 6 1 1 0 a2 a2]),(5,.fl l18),(6,.fl l16)],7⟩
def uM(v_0:Lv)(s_1:List Nat)(u_2:Int)(u_3:Int)(v_4:Lv)(u_5:List Nat)(v_6:Int)(v_7:Int)(v_8:Lv)(v_9:List Nat)(k_10:Int)(a1:Nat)(a2:Nat)(j14:Nat)(l16:List Nat)(l19:(List Nat)) :aH:=⟨ah 84 [(0,.imm v_0 (.fl s_1) 1 1 0 (List.length s_1)),(3,.int .i64 k_10),(5,.ptr 0 1 0 0),(6,.ptr 1 1 0 0),(8,.ptr 2 1 0 0),(9,.ptr 3 1 0 0),(10,.ptr 4 1 0 0),(11,.int .i64 ((j14:Nat):Int))],[(0,.vs [.int .i64 u_2,.int .i64 u_3,.imm v_4 (.fl u_5) 1 1 0 (List.length u_5)]),(1,.vs [.int .i64 v_6,.int .i64 v_7,.imm v_8 (.fl v_9) 1 1 0 (List.length v_9)]),(2,.vs [.int .i64 (0:Int),.int .i64 (0:Int),.nsl]),(3,.vs [.int .i64 v_6,.int .i64 k_10,.sl 5 1 1 0 a1 a1]),(4,.vs [.int .i64 k_10,.int .i64 u_2,.sl 6 1 1 0 a2 a2]),(5,.fl l19),(6,.fl l16)],7⟩
noncomputable def FH:List Code:=cJ (dG ((((uL.drop 1).take 1)).headD .skip))
def oE(s_1:List Nat)(v_6:Int)(v_7:Int)(v_9:List Nat)(k_10:Int)(a1:Nat)(j14:Nat)(i17:Nat)(l18:List Nat) :T ((Nat×(List Nat))⊕(((List Nat))⊕(((List Nat)×(List Nat))⊕(((List Nat)×(List Nat))⊕(bu))))) :=
  .ask (decide (((i17:Nat):Int)<v_6))
    (.need (cu .i64 (((i17:Nat):Int)*k_10))<|.need (cu .i64 ((((i17:Nat):Int)*k_10)+((j14:Nat):Int)))<|.need (cu .i64 (((i17:Nat):Int)*v_7))<|.need (cu .i64 ((((i17:Nat):Int)*v_7)+((j14:Nat):Int)))<|.need (fc ((((i17:Nat):Int)*v_7)+((j14:Nat):Int)) (List.length v_9))<|.need (eX (Int.toNat ((((i17:Nat):Int)*v_7)+((j14:Nat):Int))) (List.length v_9))<|.need (fc ((j14:Nat):Int) (List.length s_1))<|.need (eX j14 (List.length s_1))<|.need (fc ((((i17:Nat):Int)*k_10)+((j14:Nat):Int)) a1)<|.need (eX (Int.toNat ((((i17:Nat):Int)*k_10)+((j14:Nat):Int))) (List.length l18))<|.need (cu .i64 (((i17+1):Nat):Int))<|.leaf (.inl ((i17+1),(List.set l18 (Int.toNat ((((i17:Nat):Int)*k_10)+((j14:Nat):Int))) (fdiv (List.getD v_9 (Int.toNat ((((i17:Nat):Int)*v_7)+((j14:Nat):Int))) 0) (List.getD s_1 j14 0))))))
    (.leaf (.inr (.inl l18)))
noncomputable def oF(s_1:List Nat)(v_6:Int)(v_7:Int)(v_9:List Nat)(k_10:Int)(a1:Nat)(j14:Nat) :Nat×(List Nat)→Option ((Nat×(List Nat))⊕(((List Nat))⊕(((List Nat)×(List Nat))⊕(((List Nat)×(List Nat))⊕(bu))))):=fun (i17,l18) =>
  (oE s_1 v_6 v_7 v_9 k_10 a1 j14 i17 l18).run
theorem FI(v_0:Lv)(s_1:List Nat)(u_2:Int)(u_3:Int)(v_4:Lv)(u_5:List Nat)(v_6:Int)(v_7:Int)(v_8:Lv)(v_9:List Nat)(k_10:Int)(a1:Nat)(a2:Nat)(j14:Nat)(l16:List Nat)(i17:Nat)(l18:List Nat) :Sg prog [] FH (kv v_0 s_1 u_2 u_3 v_4 u_5 v_6 v_7 v_8 v_9 k_10 a1 a2 j14 l16 (i17,l18)) (oF s_1 v_6 v_7 v_9 k_10 a1 j14 (i17,l18)) (kv v_0 s_1 u_2 u_3 v_4 u_5 v_6 v_7 v_8 v_9 k_10 a1 a2 j14 l16) (cx 2 (uM v_0 s_1 u_2 u_3 v_4 u_5 v_6 v_7 v_8 v_9 k_10 a1 a2 j14 l16) (cx 1 (ku v_0 s_1 u_2 u_3 v_4 u_5 v_6 v_7 v_8 v_9 k_10 a1 a2 j14) (cx 0 (kr u_2 v_6 k_10 a1 a2) il))):=by
  unfold oF;exact bT di (kv v_0 s_1 u_2 u_3 v_4 u_5 v_6 v_7 v_8 v_9 k_10 a1 a2 j14 l16) [⟨[],[0,1,2,3,4,5,6],[0,3,5,6,8,9,10,11,12]⟩,⟨[],[0,1,2,3,4,5,6],[0,3,5,6,8,9,10,11]⟩]
def FJ(v_0:Lv)(s_1:List Nat)(u_2:Int)(u_3:Int)(v_4:Lv)(u_5:List Nat)(v_6:Int)(v_7:Int)(v_8:Lv)(v_9:List Nat)(k_10:Int)(a1:Nat)(a2:Nat)(j14:Nat)(l16:List Nat)(l19:List Nat)(_:Unit) :aH:=⟨ah 84 [(0,.imm v_0 (.fl s_1) 1 1 0 (List.length s_1)),(3,.int .i64 k_10),(5,.ptr 0 1 0 0),(6,.ptr 1 1 0 0),(8,.ptr 2 1 0 0),(9,.ptr 3 1 0 0),(10,.ptr 4 1 0 0),(11,.int .i64 ((j14:Nat):Int)),(13,.int .i64 (0:Int))],[(0,.vs [.int .i64 u_2,.int .i64 u_3,.imm v_4 (.fl u_5) 1 1 0 (List.length u_5)]),(1,.vs [.int .i64 v_6,.int .i64 v_7,.imm v_8 (.fl v_9) 1 1 0 (List.length v_9)]),(2,.vs [.int .i64 (0:Int),.int .i64 (0:Int),.nsl]),(3,.vs [.int .i64 v_6,.int .i64 k_10,.sl 5 1 1 0 a1 a1]),(4,.vs [.int .i64 k_10,.int .i64 u_2,.sl 6 1 1 0 a2 a2]),(5,.fl l19),(6,.fl l16)],7⟩
def FK:T ((Unit)⊕(((List Nat)×(List Nat))⊕(((List Nat)×(List Nat))⊕(bu)))) :=
  .leaf (.inl ())
def kw(v_0:Lv)(s_1:List Nat)(u_2:Int)(u_3:Int)(v_4:Lv)(u_5:List Nat)(v_6:Int)(v_7:Int)(v_8:Lv)(v_9:List Nat)(k_10:Int)(a1:Nat)(a2:Nat)(j14:Nat)(l19:List Nat) :Nat×(List Nat)→aH:=fun (i20,l21)=>⟨ah 84 [(0,.imm v_0 (.fl s_1) 1 1 0 (List.length s_1)),(3,.int .i64 k_10),(5,.ptr 0 1 0 0),(6,.ptr 1 1 0 0),(8,.ptr 2 1 0 0),(9,.ptr 3 1 0 0),(10,.ptr 4 1 0 0),(11,.int .i64 ((j14:Nat):Int)),(13,.int .i64 ((i20:Nat):Int))],[(0,.vs [.int .i64 u_2,.int .i64 u_3,.imm v_4 (.fl u_5) 1 1 0 (List.length u_5)]),(1,.vs [.int .i64 v_6,.int .i64 v_7,.imm v_8 (.fl v_9) 1 1 0 (List.length v_9)]),(2,.vs [.int .i64 (0:Int),.int .i64 (0:Int),.nsl]),(3,.vs [.int .i64 v_6,.int .i64 k_10,.sl 5 1 1 0 a1 a1]),(4,.vs [.int .i64 k_10,.int .i64 u_2,.sl 6 1 1 0 a2 a2]),(5,.fl l19),(6,.fl l21)],7⟩
def uN(v_0:Lv)(s_1:List Nat)(u_2:Int)(u_3:Int)(v_4:Lv)(u_5:List Nat)(v_6:Int)(v_7:Int)(v_8:Lv)(v_9:List Nat)(k_10:Int)(a1:Nat)(a2:Nat)(j14:Nat)(l19:List Nat)(l22:(List Nat)) :aH:=⟨ah 84 [(0,.imm v_0 (.fl s_1) 1 1 0 (List.length s_1)),(3,.int .i64 k_10),(5,.ptr 0 1 0 0),(6,.ptr 1 1 0 0),(8,.ptr 2 1 0 0),(9,.ptr 3 1 0 0),(10,.ptr 4 1 0 0),(11,.int .i64 ((j14:Nat):Int))],[(0,.vs [.int .i64 u_2,.int .i64 u_3,.imm v_4 (.fl u_5) 1 1 0 (List.length u_5)]),(1,.vs [.int .i64 v_6,.int .i64 v_7,.imm v_8 (.fl v_9) 1 1 0 (List.length v_9)]),(2,.vs [.int .i64 (0:Int),.int .i64 (0:Int),.nsl]),(3,.vs [.int .i64 v_6,.int .i64 k_10,.sl 5 1 1 0 a1 a1]),(4,.vs [.int .i64 k_10,.int .i64 u_2,.sl 6 1 1 0 a2 a2]),(5,.fl l19),(6,.fl l22)],7⟩
noncomputable def FL:List Code:=cJ (dG ((((((uL.drop 1).drop 1).drop 1).take 1)).headD .skip))
def oG(u_2:Int)(u_3:Int)(u_5:List Nat)(a2:Nat)(j14:Nat)(i20:Nat)(l21:List Nat) :T ((Nat×(List Nat))⊕(((List Nat))⊕(((List Nat)×(List Nat))⊕(((List Nat)×(List Nat))⊕(bu))))) :=
  .ask (decide (((i20:Nat):Int)<u_2))
    (.need (cu .i64 (((j14:Nat):Int)*u_2))<|.need (cu .i64 ((((j14:Nat):Int)*u_2)+((i20:Nat):Int)))<|.need (cu .i64 (((i20:Nat):Int)*u_3))<|.need (cu .i64 ((((i20:Nat):Int)*u_3)+((j14:Nat):Int)))<|.need (fc ((((i20:Nat):Int)*u_3)+((j14:Nat):Int)) (List.length u_5))<|.need (eX (Int.toNat ((((i20:Nat):Int)*u_3)+((j14:Nat):Int))) (List.length u_5))<|.need (fc ((((j14:Nat):Int)*u_2)+((i20:Nat):Int)) a2)<|.need (eX (Int.toNat ((((j14:Nat):Int)*u_2)+((i20:Nat):Int))) (List.length l21))<|.need (cu .i64 (((i20+1):Nat):Int))<|.leaf (.inl ((i20+1),(List.set l21 (Int.toNat ((((j14:Nat):Int)*u_2)+((i20:Nat):Int))) (List.getD u_5 (Int.toNat ((((i20:Nat):Int)*u_3)+((j14:Nat):Int))) 0)))))
    (.leaf (.inr (.inl l21)))
noncomputable def oH(u_2:Int)(u_3:Int)(u_5:List Nat)(a2:Nat)(j14:Nat) :Nat×(List Nat)→Option ((Nat×(List Nat))⊕(((List Nat))⊕(((List Nat)×(List Nat))⊕(((List Nat)×(List Nat))⊕(bu))))):=fun (i20,l21) =>
  (oG u_2 u_3 u_5 a2 j14 i20 l21).run
theorem FM(v_0:Lv)(s_1:List Nat)(u_2:Int)(u_3:Int)(v_4:Lv)(u_5:List Nat)(v_6:Int)(v_7:Int)(v_8:Lv)(v_9:List Nat)(k_10:Int)(a1:Nat)(a2:Nat)(j14:Nat)(l19:List Nat)(i20:Nat)(l21:List Nat) :Sg prog [] FL (kw v_0 s_1 u_2 u_3 v_4 u_5 v_6 v_7 v_8 v_9 k_10 a1 a2 j14 l19 (i20,l21)) (oH u_2 u_3 u_5 a2 j14 (i20,l21)) (kw v_0 s_1 u_2 u_3 v_4 u_5 v_6 v_7 v_8 v_9 k_10 a1 a2 j14 l19) (cx 4 (uN v_0 s_1 u_2 u_3 v_4 u_5 v_6 v_7 v_8 v_9 k_10 a1 a2 j14 l19) (cx 1 (ku v_0 s_1 u_2 u_3 v_4 u_5 v_6 v_7 v_8 v_9 k_10 a1 a2 j14) (cx 0 (kr u_2 v_6 k_10 a1 a2) il))):=by
  unfold oH;exact bT di (kw v_0 s_1 u_2 u_3 v_4 u_5 v_6 v_7 v_8 v_9 k_10 a1 a2 j14 l19) [⟨[],[0,1,2,3,4,5,6],[0,3,5,6,8,9,10,11,13]⟩,⟨[],[0,1,2,3,4,5,6],[0,3,5,6,8,9,10,11]⟩]
def FO(l19:List Nat)(l22:List Nat) :T (((List Nat)×(List Nat))⊕(((List Nat)×(List Nat))⊕(((List Nat)×(List Nat))⊕(bu)))) :=
  .leaf (.inl (l19,l22))
def FP(j14:Nat)(l23:List Nat)(l24:List Nat) :T ((Nat×(List Nat)×(List Nat))⊕(((List Nat)×(List Nat))⊕(bu))) :=
  .need (cu .i64 (((j14+1):Nat):Int))<|.leaf (.inl ((j14+1),l23,l24))
noncomputable def oI(s_1:List Nat)(u_2:Int)(u_3:Int)(u_5:List Nat)(v_6:Int)(v_7:Int)(v_9:List Nat)(k_10:Int)(a1:Nat)(a2:Nat) :Nat×(List Nat)×(List Nat)→Option ((Nat×(List Nat)×(List Nat))⊕(((List Nat)×(List Nat))⊕(bu))):=fun (j14,l15,l16) =>
  aU ((FE k_10 j14 l15 l16).run) fun _ =>
  aU (sQ (aU ((FG).run) fun _ =>
  aU (dg (oF s_1 v_6 v_7 v_9 k_10 a1 j14) (0,l15)) fun l19 =>
  aU ((FK).run) fun _ =>
  aU (dg (oH u_2 u_3 u_5 a2 j14) (0,l16)) fun l22 =>
  (FO l19 l22).run)) fun (l23,l24) =>
  (FP j14 l23 l24).run
theorem FQ(v_0:Lv)(s_1:List Nat)(u_2:Int)(u_3:Int)(v_4:Lv)(u_5:List Nat)(v_6:Int)(v_7:Int)(v_8:Lv)(v_9:List Nat)(k_10:Int)(a1:Nat)(a2:Nat)(j14:Nat)(l15:List Nat)(l16:List Nat) :Sg prog [] uK (kq v_0 s_1 u_2 u_3 v_4 u_5 v_6 v_7 v_8 v_9 k_10 a1 a2 (j14,l15,l16)) (oI s_1 u_2 u_3 u_5 v_6 v_7 v_9 k_10 a1 a2 (j14,l15,l16)) (kq v_0 s_1 u_2 u_3 v_4 u_5 v_6 v_7 v_8 v_9 k_10 a1 a2) (cx 0 (kr u_2 v_6 k_10 a1 a2) il):=by
  unfold oI;exact Sg.cut 2 (aM cw) (bT di (FD v_0 s_1 u_2 u_3 v_4 u_5 v_6 v_7 v_8 v_9 k_10 a1 a2 j14 l15 l16) [⟨[],[0,1,2,3,4,5,6],[0,3,5,6,8,9,10,11]⟩,⟨[],[2,3,4,5,6],[8,9,10]⟩]) (fun _=>Sg.cut 1 (aM cw) (sgb (ku v_0 s_1 u_2 u_3 v_4 u_5 v_6 v_7 v_8 v_9 k_10 a1 a2 j14) 1 (aM cw) (ev (by decide) (lM _)) (Sg.cut 1 (aM (aM cw)) (bT di (FF v_0 s_1 u_2 u_3 v_4 u_5 v_6 v_7 v_8 v_9 k_10 a1 a2 j14 l15 l16) [⟨[],[0,1,2,3,4,5,6],[0,3,5,6,8,9,10,11,12]⟩]) (fun _=>Sg.cut 1 (aM (aM cw)) (GA ⟨[],[0,1,2,3,4,5,6],[0,3,5,6,8,9,10,11,12]⟩ (kv v_0 s_1 u_2 u_3 v_4 u_5 v_6 v_7 v_8 v_9 k_10 a1 a2 j14 l16) (uM v_0 s_1 u_2 u_3 v_4 u_5 v_6 v_7 v_8 v_9 k_10 a1 a2 j14 l16) 2 (aM (aM cw)) (ev (by decide) (ev (by decide) (lM _))) (fun ⟨i17,l18⟩=>FI v_0 s_1 u_2 u_3 v_4 u_5 v_6 v_7 v_8 v_9 k_10 a1 a2 j14 l16 i17 l18)) (fun l19=>Sg.cut 1 (aM (aM cw)) (bT di (FJ v_0 s_1 u_2 u_3 v_4 u_5 v_6 v_7 v_8 v_9 k_10 a1 a2 j14 l16 l19) [⟨[],[0,1,2,3,4,5,6],[0,3,5,6,8,9,10,11,13]⟩]) (fun _=>Sg.cut 1 (aM (aM cw)) (GA ⟨[],[0,1,2,3,4,5,6],[0,3,5,6,8,9,10,11,13]⟩ (kw v_0 s_1 u_2 u_3 v_4 u_5 v_6 v_7 v_8 v_9 k_10 a1 a2 j14 l19) (uN v_0 s_1 u_2 u_3 v_4 u_5 v_6 v_7 v_8 v_9 k_10 a1 a2 j14 l19) 4 (aM (aM cw)) (ev (by decide) (ev (by decide) (lM _))) (fun ⟨i20,l21⟩=>FM v_0 s_1 u_2 u_3 v_4 u_5 v_6 v_7 v_8 v_9 k_10 a1 a2 j14 l19 i20 l21)) (fun l22=>bT di (ku v_0 s_1 u_2 u_3 v_4 u_5 v_6 v_7 v_8 v_9 k_10 a1 a2 j14) [⟨[],[0,1,2,3,4,5,6],[0,3,5,6,8,9,10,11]⟩])))))) (fun ⟨l23,l24⟩=>bT di (kq v_0 s_1 u_2 u_3 v_4 u_5 v_6 v_7 v_8 v_9 k_10 a1 a2) [⟨[],[0,1,2,3,4,5,6],[0,3,5,6,8,9,10,11]⟩]))
def FS:Int×Int×Nat×(List Nat)→aH:=fun (i27,i28,a29,l30)=>⟨ah 84 [(8,.ptr 0 1 0 0)],[(0,.vs [.int .i64 i27,.int .i64 i28,.sl 1 1 1 0 a29 a29]),(1,.fl l30)],2⟩
def oJ(u_2:Int)(v_6:Int)(k_10:Int)(a1:Nat)(a2:Nat)(l25:List Nat)(l26:List Nat) :T ((Int×Int×Nat×(List Nat))⊕(bu)) :=
  .need (cu .i64 (v_6*u_2))<|.need (decide ((0:Int)≤(v_6*u_2)))<|.need (decide ((v_6*u_2)≤(v_6*u_2)))<|.need (decide ((8:Int)*(v_6*u_2)≤140737488355328))<|.need (cu .i64 (v_6*u_2))<|.need (bv 0 a1 l25)<|.need (bv 0 a2 l26)<|.need (bv 0 (Int.toNat (v_6*u_2)) (List.replicate (Int.toNat (v_6*u_2)) 0))<|.need (qn (iu 4607182418800017408 k_10 (ab 0 a1 l25) k_10 u_2 (ab 0 a2 l26) 0 v_6 u_2 (ab 0 (Int.toNat (v_6*u_2)) (List.replicate (Int.toNat (v_6*u_2)) 0))))<|.leaf (.inl ((rp (iu 4607182418800017408 k_10 (ab 0 a1 l25) k_10 u_2 (ab 0 a2 l26) 0 v_6 u_2 (ab 0 (Int.toNat (v_6*u_2)) (List.replicate (Int.toNat (v_6*u_2)) 0)))),(rq (iu 4607182418800017408 k_10 (ab 0 a1 l25) k_10 u_2 (ab 0 a2 l26) 0 v_6 u_2 (ab 0 (Int.toNat (v_6*u_2)) (List.replicate (Int.toNat (v_6*u_2)) 0)))),(rr (iu 4607182418800017408 k_10 (ab 0 a1 l25) k_10 u_2 (ab 0 a2 l26) 0 v_6 u_2 (ab 0 (Int.toNat (v_6*u_2)) (List.replicate (Int.toNat (v_6*u_2)) 0)))),(rt (iu 4607182418800017408 k_10 (ab 0 a1 l25) k_10 u_2 (ab 0 a2 l26) 0 v_6 u_2 (ab 0 (Int.toNat (v_6*u_2)) (List.replicate (Int.toNat (v_6*u_2)) 0))))))
def FU(i27:Int)(i28:Int)(a29:Nat)(l30:List Nat) :T ((Empty)⊕(bu)) :=
  .leaf (.inr (.r0 i27 i28 a29 l30))
noncomputable def co(s_1:List Nat)(u_2:Int)(u_3:Int)(u_5:List Nat)(v_6:Int)(v_7:Int)(v_9:List Nat)(k_10:Int) :Option bu:=lX (aU ((uJ u_2 v_6 k_10).run) fun (a1,a2,l3,l4) =>
  aU (dg (oI s_1 u_2 u_3 u_5 v_6 v_7 v_9 k_10 a1 a2) (0,l3,l4)) fun (l25,l26) =>
  aU ((oJ u_2 v_6 k_10 a1 a2 l25 l26).run) fun (i27,i28,a29,l30) =>
  (FU i27 i28 a29 l30).run)
theorem HJ(v_0:Lv)(s_1:List Nat)(u_2:Int)(u_3:Int)(v_4:Lv)(u_5:List Nat)(v_6:Int)(v_7:Int)(v_8:Lv)(v_9:List Nat)(k_10:Int){x:bu}(h:co s_1 u_2 u_3 u_5 v_6 v_7 v_9 k_10=some x) :aj prog ra [] [.imm v_0 (.fl s_1) 1 1 0 (List.length s_1),.agg [.int .i64 u_2,.int .i64 u_3,.imm v_4 (.fl u_5) 1 1 0 (List.length u_5)],.agg [.int .i64 v_6,.int .i64 v_7,.imm v_8 (.fl v_9) 1 1 0 (List.length v_9)],.int .i64 k_10] (ru x) :=
  ni false ru il h (Sg.cut 4 cw (bT di (HI v_0 s_1 u_2 u_3 v_4 u_5 v_6 v_7 v_8 v_9 k_10) [⟨[],[0,16,32,112,208,96,192],[0,3,5,6,8,9,10,11]⟩]) (fun ⟨a1,a2,l3,l4⟩=>Sg.cut 1 cw (GA ⟨[],[0,1,2,3,4,5,6],[0,3,5,6,8,9,10,11]⟩ (kq v_0 s_1 u_2 u_3 v_4 u_5 v_6 v_7 v_8 v_9 k_10 a1 a2) (kr u_2 v_6 k_10 a1 a2) 0 cw (lM _) (fun ⟨j14,l15,l16⟩=>FQ v_0 s_1 u_2 u_3 v_4 u_5 v_6 v_7 v_8 v_9 k_10 a1 a2 j14 l15 l16)) (fun ⟨l25,l26⟩=>Sg.cut 1 cw (bT di FS [⟨[],[0,37],[8]⟩]) (fun ⟨i27,i28,a29,l30⟩=>bT di lQ [⟨[],[0,1],[8]⟩]))))
    (fun x=>by cases x with | r0 i31 i33 a34 l35=>exact ln [.agg [.int .i64 i31,.int .i64 i33,.sl 1 1 1 0 a34 a34]])
def lN:Option bu→Bool
  | some _=>true
  | none=>false
def jw:Option bu→Int
  | some (.r0 x _ _ _)=>x
  | _=>0
def jx:Option bu→Int
  | some (.r0 _ x _ _)=>x
  | _=>0
def hJ:Option bu→Nat
  | some (.r0 _ _ x _)=>x
  | _=>0
def hP:Option bu→List Nat
  | some (.r0 _ _ _ x)=>x
  | _=>[]
theorem HK{x:Option bu}(h:lN x=true) :x=some (.r0 (jw x) (jx x) (hJ x) (hP x)):=by
  unfold lN at h
  split at h<;>first | rfl | (cases h;done) | (rename_i y;cases y;rfl)
noncomputable def yQ:aF:=cL ra (.cons .fl (.cons (.agg (.cons (.int .i64) (.cons (.int .i64) (.cons .fl .nil)))) (.cons (.agg (.cons (.int .i64) (.cons (.int .i64) (.cons .fl .nil)))) (.cons (.int .i64) .nil)))) fun t=>(fun q=>[⟨ru (.r0 (jw q) (jx q) (hJ q) (hP q)),[lN q]⟩]) (co t.1.2 t.2.1.1 t.2.1.2.1 t.2.1.2.2.1.2 t.2.2.1.1 t.2.2.1.2.1 t.2.2.1.2.2.1.2 t.2.2.2.1)
theorem DT:aV prog yQ:=bg fun t=>(be (fun h=>HJ t.1.1 t.1.2 t.2.1.1 t.2.1.2.1 t.2.1.2.2.1.1 t.2.1.2.2.1.2 t.2.2.1.1 t.2.2.1.2.1 t.2.2.1.2.2.1.1 t.2.2.1.2.2.1.2 t.2.2.2.1 (HK h)) bA)
noncomputable def yR:List aF:=yQ::FB
theorem dP:aP prog (aN yR):=ay DT di
inductive bH where
  | r0 (b11:Bool)
def qR:bH→AE×aH
  | .r0 b11=>(.ret,⟨ah 103 [(8,.bool false b11)],[],0⟩)
theorem ed:jC qR:=by intro x;cases x<;>(intro h;cases h)
def ld:bH→gw
  | .r0 b11=>⟨.bool false b11,[]⟩
def zr(v_0:Lv)(s_1:List Nat)(u_2:Int)(u_3:Int)(v_4:Lv)(u_5:List Nat)(v_6:Int)(v_7:Int)(v_8:Lv)(v_9:List Nat)(k_10:Int)(b1:Bool) :aH:=⟨ah 103 [(0,.imm v_0 (.fl s_1) 1 1 0 (List.length s_1)),(3,.int .i64 k_10),(5,.ptr 0 1 0 0),(6,.ptr 1 1 0 0),(26,.bool false b1)],[(0,.vs [.int .i64 u_2,.int .i64 u_3,.imm v_4 (.fl u_5) 1 1 0 (List.length u_5)]),(1,.vs [.int .i64 v_6,.int .i64 v_7,.imm v_8 (.fl v_9) 1 1 0 (List.length v_9)])],2⟩
def ig(s_1:List Nat)(u_5:List Nat)(v_9:List Nat) :T ((Bool)⊕(bH)) :=
  .ask (decide ((((List.length s_1):Nat):Int)>(600:Int)))
    (.leaf (.inl true))
    (.ask (decide ((((List.length u_5):Nat):Int)>(60:Int)))
      (.leaf (.inl true))
      (.leaf (.inl (decide ((((List.length v_9):Nat):Int)>(60:Int))))))
def zt(v_0:Lv)(s_1:List Nat)(u_2:Int)(u_3:Int)(v_4:Lv)(u_5:List Nat)(v_6:Int)(v_7:Int)(v_8:Lv)(v_9:List Nat)(k_10:Int) :Nat×Int×Int×Nat×Nat×(List Nat)→aH:=fun (e2,i3,i4,a5,a6,l7)=>⟨ah 103 [(0,.imm v_0 (.fl s_1) 1 1 0 (List.length s_1)),(3,.int .i64 k_10),(5,.ptr 0 1 0 0),(6,.ptr 1 1 0 0),(9,.ptr 2 1 0 0),(10,.int .i64 ((e2:Nat):Int))],[(0,.vs [.int .i64 u_2,.int .i64 u_3,.imm v_4 (.fl u_5) 1 1 0 (List.length u_5)]),(1,.vs [.int .i64 v_6,.int .i64 v_7,.imm v_8 (.fl v_9) 1 1 0 (List.length v_9)]),(2,.vs [.int .i64 i3,.int .i64 i4,.sl 3 1 1 0 a5 a6]),(3,.fl l7)],4⟩
def fo(s_1:List Nat)(u_2:Int)(u_3:Int)(u_5:List Nat)(v_6:Int)(v_7:Int)(v_9:List Nat)(k_10:Int)(b1:Bool) :T ((Nat×Int×Int×Nat×Nat×(List Nat))⊕(bH)) :=
  .ask b1
    (.leaf (.inr (.r0 true)))
    (.need (bv 0 (List.length s_1) s_1)<|.need (bv 0 (List.length u_5) u_5)<|.need (bv 0 (List.length v_9) v_9)<|.need (mG (dN (ab 0 (List.length s_1) s_1) u_2 u_3 (ab 0 (List.length u_5) u_5) v_6 v_7 (ab 0 (List.length v_9) v_9) k_10))<|.leaf (.inl ((oi (dN (ab 0 (List.length s_1) s_1) u_2 u_3 (ab 0 (List.length u_5) u_5) v_6 v_7 (ab 0 (List.length v_9) v_9) k_10)),(oj (dN (ab 0 (List.length s_1) s_1) u_2 u_3 (ab 0 (List.length u_5) u_5) v_6 v_7 (ab 0 (List.length v_9) v_9) k_10)),(ol (dN (ab 0 (List.length s_1) s_1) u_2 u_3 (ab 0 (List.length u_5) u_5) v_6 v_7 (ab 0 (List.length v_9) v_9) k_10)),(oo (dN (ab 0 (List.length s_1) s_1) u_2 u_3 (ab 0 (List.length u_5) u_5) v_6 v_7 (ab 0 (List.length v_9) v_9) k_10)),(oq (dN (ab 0 (List.length s_1) s_1) u_2 u_3 (ab 0 (List.length u_5) u_5) v_6 v_7 (ab 0 (List.length v_9) v_9) k_10)),(ot (dN (ab 0 (List.length s_1) s_1) u_2 u_3 (ab 0 (List.length u_5) u_5) v_6 v_7 (ab 0 (List.length v_9) v_9) k_10)))))
def zu(v_0:Lv)(s_1:List Nat)(u_2:Int)(u_3:Int)(v_4:Lv)(u_5:List Nat)(v_6:Int)(v_7:Int)(v_8:Lv)(v_9:List Nat)(k_10:Int)(e2:Nat)(i3:Int)(i4:Int)(a5:Nat)(a6:Nat)(l7:List Nat)(no8:Nat) :aH:=⟨ah 103 [(0,.imm v_0 (.fl s_1) 1 1 0 (List.length s_1)),(3,.int .i64 k_10),(5,.ptr 0 1 0 0),(6,.ptr 1 1 0 0),(9,.ptr 2 1 0 0),(10,.int .i64 ((e2:Nat):Int)),(11,.int .i64 ((no8:Nat):Int))],[(0,.vs [.int .i64 u_2,.int .i64 u_3,.imm v_4 (.fl u_5) 1 1 0 (List.length u_5)]),(1,.vs [.int .i64 v_6,.int .i64 v_7,.imm v_8 (.fl v_9) 1 1 0 (List.length v_9)]),(2,.vs [.int .i64 i3,.int .i64 i4,.sl 3 1 1 0 a5 a6]),(3,.fl l7)],4⟩
def jy(s_1:List Nat) :T ((Nat)⊕(bH)) :=
  .need (bv 0 (List.length s_1) s_1)<|.need (rZ (qP (ab 0 (List.length s_1) s_1)))<|.leaf (.inl (tr (qP (ab 0 (List.length s_1) s_1))))
def zw(v_0:Lv)(s_1:List Nat)(u_2:Int)(u_3:Int)(v_4:Lv)(u_5:List Nat)(v_6:Int)(v_7:Int)(v_8:Lv)(v_9:List Nat)(k_10:Int)(e2:Nat)(i3:Int)(i4:Int)(a5:Nat)(a6:Nat)(l7:List Nat)(no9:Nat) :aH:=⟨ah 103 [(0,.imm v_0 (.fl s_1) 1 1 0 (List.length s_1)),(3,.int .i64 k_10),(5,.ptr 0 1 0 0),(6,.ptr 1 1 0 0),(9,.ptr 2 1 0 0),(10,.int .i64 ((e2:Nat):Int)),(11,.int .i64 ((no9:Nat):Int))],[(0,.vs [.int .i64 u_2,.int .i64 u_3,.imm v_4 (.fl u_5) 1 1 0 (List.length u_5)]),(1,.vs [.int .i64 v_6,.int .i64 v_7,.imm v_8 (.fl v_9) 1 1 0 (List.length v_9)]),(2,.vs [.int .i64 i3,.int .i64 i4,.sl 3 1 1 0 a5 a6]),(3,.fl l7)],4⟩
def jz(s_1 : List Nat)(u_2 : Int)(u_3 : Int)(u_5 : List Nat)(v_6 : Int)(v_7 : Int)(v_9 : List Nat)(k_10 : Int)(no8 : Nat) : T ((Nat) ⊕ (bH)) :=
  .ask (((no8 : Nat) : Int) == (2 : Int))
    (.leaf (.inl 2))
    (.need (bv 0 (List.length u_5) u_5)<|.need (ox (iW u_2 u_3 (ab 0 (List.length u_5) u_5)))<|.ask (!(oy (iW u_2 u_3 (ab 0 (List.length u_5) u_5))))
      (.leaf (.inl 2))
      (.need (bv 0 (List.length v_9) v_9)<|.need (ox (iW v_6 v_7 (ab 0 (List.length v_9) v_9)))<|.ask (!(oy (iW v_6 v_7 (ab 0 (List.length v_9) v_9))))
        (.leaf (.inl 2))
        (.ask (u_3 != (((List.length s_1):Nat):Int))
          (.leaf (.inl 8))
          (.ask (v_7 != (((List.length s_1):Nat):Int))
            (.leaf (.inl 8))
            (.ask (decide (k_10<(0:Int)))
              (.leaf (.inl 8))
              (.ask (decide (k_10>(((List.length s_1):Nat):Int)))
                (.leaf (.inl 8))
                (.leaf (.inl no8))))))))
def zx(v_0:Lv)(s_1:List Nat)(u_2:Int)(u_3:Int)(v_4:Lv)(u_5:List Nat)(v_6:Int)(v_7:Int)(v_8:Lv)(v_9:List Nat)(k_10:Int)(e2:Nat)(i3:Int)(i4:Int)(a5:Nat)(a6:Nat)(l7:List Nat)(_:Unit) :aH:=⟨ah 103 [(0,.imm v_0 (.fl s_1) 1 1 0 (List.length s_1)),(3,.int .i64 k_10),(5,.ptr 0 1 0 0),(6,.ptr 1 1 0 0),(9,.ptr 2 1 0 0),(10,.int .i64 ((e2:Nat):Int))],[(0,.vs [.int .i64 u_2,.int .i64 u_3,.imm v_4 (.fl u_5) 1 1 0 (List.length u_5)]),(1,.vs [.int .i64 v_6,.int .i64 v_7,.imm v_8 (.fl v_9) 1 1 0 (List.length v_9)]),(2,.vs [.int .i64 i3,.int .i64 i4,.sl 3 1 1 0 a5 a6]),(3,.fl l7)],4⟩
def oK(e2:Nat)(i3:Int)(i4:Int)(a5:Nat)(l7:List Nat)(no9:Nat) :T ((Unit)⊕(bH)) :=
  .ask (((no9:Nat):Int) != (0:Int))
    (.need (bv 0 a5 l7)<|.need (eV (cF i3 i4 (ab 0 a5 l7) (0:Int) (0:Int) ([]:List Nat)))<|.ask (fm (cF i3 i4 (ab 0 a5 l7) (0:Int) (0:Int) ([]:List Nat)))
      (.ask (((e2:Nat):Int)==((no9:Nat):Int))
        (.leaf (.inr (.r0 true)))
        (.leaf (.inr (.r0 false))))
      (.leaf (.inr (.r0 false))))
    (.leaf (.inl ()))
def zy(b10:Bool) :aH:=⟨ah 103 [(8,.bool false b10)],[],0⟩
def jA(s_1:List Nat)(u_2:Int)(u_3:Int)(u_5:List Nat)(v_6:Int)(v_7:Int)(v_9:List Nat)(k_10:Int)(e2:Nat)(i3:Int)(i4:Int)(a5:Nat)(l7:List Nat) :T ((Bool)⊕(bH)) :=
  .need (bv 0 (List.length s_1) s_1)<|.need (bv 0 (List.length u_5) u_5)<|.need (bv 0 (List.length v_9) v_9)<|.need (lN (co (ab 0 (List.length s_1) s_1) u_2 u_3 (ab 0 (List.length u_5) u_5) v_6 v_7 (ab 0 (List.length v_9) v_9) k_10))<|.need (bv 0 a5 l7)<|.need (bv 0 (hJ (co (ab 0 (List.length s_1) s_1) u_2 u_3 (ab 0 (List.length u_5) u_5) v_6 v_7 (ab 0 (List.length v_9) v_9) k_10)) (hP (co (ab 0 (List.length s_1) s_1) u_2 u_3 (ab 0 (List.length u_5) u_5) v_6 v_7 (ab 0 (List.length v_9) v_9) k_10)))<|.need (eV (cF i3 i4 (ab 0 a5 l7) (jw (co (ab 0 (List.length s_1) s_1) u_2 u_3 (ab 0 (List.length u_5) u_5) v_6 v_7 (ab 0 (List.length v_9) v_9) k_10)) (jx (co (ab 0 (List.length s_1) s_1) u_2 u_3 (ab 0 (List.length u_5) u_5) v_6 v_7 (ab 0 (List.length v_9) v_9) k_10)) (ab 0 (hJ (co (ab 0 (List.length s_1) s_1) u_2 u_3 (ab 0 (List.length u_5) u_5) v_6 v_7 (ab 0 (List.length v_9) v_9) k_10)) (hP (co (ab 0 (List.length s_1) s_1) u_2 u_3 (ab 0 (List.length u_5) u_5) v_6 v_7 (ab 0 (List.length v_9) v_9) k_10)))))<|.ask (fm (cF i3 i4 (ab 0 a5 l7) (jw (co (ab 0 (List.length s_1) s_1) u_2 u_3 (ab 0 (List.length u_5) u_5) v_6 v_7 (ab 0 (List.length v_9) v_9) k_10)) (jx (co (ab 0 (List.length s_1) s_1) u_2 u_3 (ab 0 (List.length u_5) u_5) v_6 v_7 (ab 0 (List.length v_9) v_9) k_10)) (ab 0 (hJ (co (ab 0 (List.length s_1) s_1) u_2 u_3 (ab 0 (List.length u_5) u_5) v_6 v_7 (ab 0 (List.length v_9) v_9) k_10)) (hP (co (ab 0 (List.length s_1) s_1) u_2 u_3 (ab 0 (List.length u_5) u_5) v_6 v_7 (ab 0 (List.length v_9) v_9) k_10)))))
    (.ask (((e2:Nat):Int)==(0:Int))
      (.leaf (.inl true))
      (.leaf (.inl false)))
    (.leaf (.inl false))
def yv(b10:Bool) :T ((Empty)⊕(bH)) :=
  .leaf (.inr (.r0 b10))
noncomputable def lf(s_1:List Nat)(u_2:Int)(u_3:Int)(u_5:List Nat)(v_6:Int)(v_7:Int)(v_9:List Nat)(k_10:Int) :Option bH:=lX (aU ((ig s_1 u_5 v_9).run) fun b1 =>
  aU ((fo s_1 u_2 u_3 u_5 v_6 v_7 v_9 k_10 b1).run) fun (e2,i3,i4,a5,a6,l7) =>
  aU ((jy s_1).run) fun no8 =>
  aU ((jz s_1 u_2 u_3 u_5 v_6 v_7 v_9 k_10 no8).run) fun no9 =>
  aU ((oK e2 i3 i4 a5 l7 no9).run) fun _ =>
  aU ((jA s_1 u_2 u_3 u_5 v_6 v_7 v_9 k_10 e2 i3 i4 a5 l7).run) fun b10 =>
  (yv b10).run)
theorem oV(v_0:Lv)(s_1:List Nat)(u_2:Int)(u_3:Int)(v_4:Lv)(u_5:List Nat)(v_6:Int)(v_7:Int)(v_8:Lv)(v_9:List Nat)(k_10:Int){x:bH}(h:lf s_1 u_2 u_3 u_5 v_6 v_7 v_9 k_10=some x) :aj prog kD [] [.imm v_0 (.fl s_1) 1 1 0 (List.length s_1),.agg [.int .i64 u_2,.int .i64 u_3,.imm v_4 (.fl u_5) 1 1 0 (List.length u_5)],.agg [.int .i64 v_6,.int .i64 v_7,.imm v_8 (.fl v_9) 1 1 0 (List.length v_9)],.int .i64 k_10] (ld x) :=
  ni false ld qR h (Sg.cut 2 ed (bT dP (zr v_0 s_1 u_2 u_3 v_4 u_5 v_6 v_7 v_8 v_9 k_10) [⟨[],[0,16],[0,3,5,6,26]⟩,⟨[],[0,16],[0,3,5,6,26]⟩,⟨[],[0,16],[0,3,5,6,26]⟩]) (fun b1=>Sg.cut 2 ed (bT dP (zt v_0 s_1 u_2 u_3 v_4 u_5 v_6 v_7 v_8 v_9 k_10) [⟨[],[],[8]⟩,⟨[],[0,1,130,66],[0,3,5,6,9,10]⟩]) (fun ⟨e2,i3,i4,a5,a6,l7⟩=>Sg.cut 1 ed (bT dP (zu v_0 s_1 u_2 u_3 v_4 u_5 v_6 v_7 v_8 v_9 k_10 e2 i3 i4 a5 a6 l7) [⟨[],[0,1,2,3],[0,3,5,6,9,10,11]⟩]) (fun no8=>Sg.cut 1 ed (bT dP (zw v_0 s_1 u_2 u_3 v_4 u_5 v_6 v_7 v_8 v_9 k_10 e2 i3 i4 a5 a6 l7) [⟨[],[0,1,2,3],[0,3,5,6,9,10,11]⟩,⟨[],[0,1,2,3],[0,3,5,6,9,10,11]⟩,⟨[],[0,1,2,3],[0,3,5,6,9,10,11]⟩,⟨[],[0,1,2,3],[0,3,5,6,9,10,11]⟩,⟨[],[0,1,2,3],[0,3,5,6,9,10,11]⟩,⟨[],[0,1,2,3],[0,3,5,6,9,10,11]⟩,⟨[],[0,1,2,3],[0,3,5,6,9,10,11]⟩,⟨[],[0,1,2,3],[0,3,5,6,9,10,11]⟩]) (fun no9=>Sg.cut 2 ed (bT dP (zx v_0 s_1 u_2 u_3 v_4 u_5 v_6 v_7 v_8 v_9 k_10 e2 i3 i4 a5 a6 l7) [⟨[],[],[8]⟩,⟨[],[],[8]⟩,⟨[],[],[8]⟩,⟨[],[0,1,2,3],[0,3,5,6,9,10]⟩]) (fun _=>Sg.cut 1 ed (bT dP zy [⟨[],[],[8]⟩,⟨[],[],[8]⟩,⟨[],[],[8]⟩]) (fun b10=>bT dP lQ [⟨[],[],[8]⟩])))))))
    (fun x=>by cases x with | r0 b11=>exact ln [.bool false b11])
def ki:Option bH→Bool
  | some _=>true
  | none=>false
def nm:Option bH→Bool
  | some (.r0 x)=>x
  | _=>false
theorem zz{x:Option bH}(h:ki x=true) :x=some (.r0 (nm x)):=by
  unfold ki at h
  split at h<;>first | rfl | (cases h;done) | (rename_i y;cases y;rfl)
noncomputable def qS:aF:=cL kD (.cons .fl (.cons (.agg (.cons (.int .i64) (.cons (.int .i64) (.cons .fl .nil)))) (.cons (.agg (.cons (.int .i64) (.cons (.int .i64) (.cons .fl .nil)))) (.cons (.int .i64) .nil)))) fun t=>(fun q=>[⟨ld (.r0 (nm q)),[ki q]⟩]) (lf t.1.2 t.2.1.1 t.2.1.2.1 t.2.1.2.2.1.2 t.2.2.1.1 t.2.2.1.2.1 t.2.2.1.2.2.1.2 t.2.2.2.1)
theorem wq:aV prog qS:=bg fun t=>(be (fun h=>oV t.1.1 t.1.2 t.2.1.1 t.2.1.2.1 t.2.1.2.2.1.1 t.2.1.2.2.1.2 t.2.2.1.1 t.2.2.1.2.1 t.2.2.1.2.2.1.1 t.2.2.1.2.2.1.2 t.2.2.2.1 (zz h)) bA)
noncomputable def A9:List aF:=qS::yR
theorem PP:aP prog (aN A9):=ay wq dP
end
end Go.Plb.Seat
