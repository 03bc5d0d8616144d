/-
  Part 4 of what the claim leans on: an evaluator of the model, proved sound; the contracts of the functions.
-/
import Derived.Test.YthikcnkmglbbbaaGreatDoorA3
namespace Go.Plb.Seat
open Go Go.Plb
set_option linter.unusedVariables false
set_option maxRecDepth 100000
noncomputable section
inductive fT where
  | r0 (a:Nat) (b:Bool) (c:List Int) (d:Nat) (e:Int)
def Do:fT→AE×aM
  | .r0 a b c d e=>(.ret,⟨an 11 [(2,.ptr 0 1 0 0),(3,.int .i64 ((a:Nat):Int))],[(0,.vs [.bool false b,.imm .free (.ns .u64 c) 1 1 0 d,.int .i64 e])],1⟩)
theorem Pu:l9 Do:=by intro x;cases x <;> (intro h;cases h)
def JG:fT→jv
  | .r0 a b c d e=>⟨.tup [.agg [.bool false b,.imm .free (.ns .u64 c) 1 1 0 d,.int .i64 e],.int .i64 ((a:Nat):Int)],[]⟩
def Hl:List Code:=bS (bB mu)
def Pv:Bool×(List Int)×Nat×Int×Bool→aM:=fun (a,b,c,d,e)=>⟨an 11 [(1,.ptr 0 1 0 0),(2,.ptr 1 1 0 0)],[(0,.vs [.bool false a,.imm .free (.ns .u64 b) 1 1 0 c,.int .i64 d]),(1,.vs [.bool false e,.nsl,.int .i64 (0:Int)])],2⟩
def Hm(b:Bool)(a:List Int)(c:Int) :T ((Bool×(List Int)×Nat×Int×Bool)⊕(fT)) :=
  .need (aR 0 (List.length a) a)<|.need (jy (bh b (aa 0 (List.length a) a) c))<|.leaf (.inl ((iP (bh b (aa 0 (List.length a) a) c)),(iQ (bh b (aa 0 (List.length a) a) c)),(iR (bh b (aa 0 (List.length a) a) c)),(iS (bh b (aa 0 (List.length a) a) c)),false))
def Pw(a:Bool)(b:List Int)(c:Nat)(d:Int)(e:Bool)(f:Bool) :aM:=⟨an 11 [(1,.ptr 0 1 0 0),(2,.ptr 1 1 0 0),(8,.bool false f)],[(0,.vs [.bool false a,.imm .free (.ns .u64 b) 1 1 0 c,.int .i64 d]),(1,.vs [.bool false e,.nsl,.int .i64 (0:Int)])],2⟩
def A7(a:List Int)(b:Nat)(c:Int) :T ((Bool)⊕(fT)) :=
  .need (aR 0 b a)<|.need (pu (gu (aa 0 b a) c))<|.leaf (.inl (!(nN (gu (aa 0 b a) c))))
def Px(a:Bool)(b:List Int)(c:Nat)(d:Int)(e:Bool) :T ((Empty)⊕(fT)) :=
  .ask e
    (.leaf (.inr (.r0 3 false ([]:List Int) 0 (0:Int))))
    (.leaf (.inr (.r0 0 a b c d)))
def bM(d:Bool)(e:List Int)(f:Int) :Option fT:=me (aH ((Hm d e f).run) fun (g,a,b,c,i) =>
  aH ((A7 a b c).run) fun h =>
  (Px g a b c h).run)
theorem adD(f:Bool)(k:Lv)(b:List Int)(g:Int){x:fT}(h:bM f b g=some x) :ax prog mu [] [.agg [.bool false f,.imm k (.ns .u64 b) 1 1 0 (List.length b),.int .i64 g]] (JG x) :=
  Sg.contract true JG (by kernel_rfl:prog.funcs[mu]? = some (FN mu)) (by kernel_rfl:(FN mu).body=some (bB mu)) (Sg.cut 2 Pu (Sg.seg (C:=C0) ap uA 60 (Hl.take 2) (aT (FN mu) [] [.agg [.bool false f,.imm k (.ns .u64 b) 1 1 0 (List.length b),.int .i64 g]]) (Hm f b g) Pv Do [⟨[],[0,16],[1,2]⟩] (by kernel_rfl)) (fun a=>by obtain ⟨i,c,d,e,j⟩:=a;exact Sg.cut 1 Pu (Sg.seg (C:=C0) ap uA 60 ((Hl.drop 2).take 1) (Pv (i,c,d,e,j)) (A7 c d e) (Pw i c d e j) Do [⟨[],[0,1],[1,2,8]⟩] (by kernel_rfl)) (fun l=>by exact Sg.seg (C:=C0) ap uA 60 ((Hl.drop 2).drop 1) (Pw i c d e j l) (Px i c d e l) (fun a:Empty=>a.elim) Do [⟨[(.cell 1 1,.fre 1 1 (.ns .u64 ([]:List Int)))],[1],[2,3]⟩,⟨[],[1],[2,3]⟩] (by kernel_rfl))))
    (fun x=>by cases x with | r0 m n o p q=>exact ⟨.inr rfl,[.agg [.bool false n,.imm .free (.ns .u64 o) 1 1 0 p,.int .i64 q],.int .i64 ((m:Nat):Int)],[],by kernel_rfl,trivial,by kernel_rfl⟩) h
def pQ:Option fT→Bool
  | some _=>true
  | none=>false
def oo:Option fT→Nat
  | some (.r0 x _ _ _ _)=>x
  | _=>0
def oq:Option fT→Bool
  | some (.r0 _ x _ _ _)=>x
  | _=>false
def ot:Option fT→List Int
  | some (.r0 _ _ x _ _)=>x
  | _=>[]
def ou:Option fT→Nat
  | some (.r0 _ _ _ x _)=>x
  | _=>0
def ov:Option fT→Int
  | some (.r0 _ _ _ _ x)=>x
  | _=>0
theorem adE{x:Option fT}(h:pQ x=true) :x=some (.r0 (oo x) (oq x) (ot x) (ou x) (ov x)):=by
  unfold pQ at h
  split at h <;> first | rfl | (cases h;done) | (rename_i y;cases y;rfl)
def TL:aL:=cn mu (.cons (.agg (.cons .bool (.cons (.ns .u64) (.cons (.int .i64) .nil)))) .nil) fun t=>[⟨JG (.r0 (oo (bM t.1.1 t.1.2.1.2 t.1.2.2.1)) (oq (bM t.1.1 t.1.2.1.2 t.1.2.2.1)) (ot (bM t.1.1 t.1.2.1.2 t.1.2.2.1)) (ou (bM t.1.1 t.1.2.1.2 t.1.2.2.1)) (ov (bM t.1.1 t.1.2.1.2 t.1.2.2.1))),[pQ (bM t.1.1 t.1.2.1.2 t.1.2.2.1)]⟩]
theorem YG:aV prog TL:=aP fun t=>(aQ (fun h=>adD t.1.1 t.1.2.1.1 t.1.2.1.2 t.1.2.2.1 (adE h)) ba)
def TM:List aL:=TL :: Pt
theorem gE:bf prog (bi TM):=aw YG uA
inductive d7 where
  | r0 (a:Nat) (b:Bool) (c:List Int) (d:Nat) (e:Int)
def m9:d7→AE×aM
  | .r0 a b c d e=>(.ret,⟨an 72 [(4,.ptr 0 1 0 0),(5,.int .i64 ((a:Nat):Int))],[(0,.vs [.bool false b,.imm .free (.ns .u64 c) 1 1 0 d,.int .i64 e])],1⟩)
theorem pw:l9 m9:=by intro x;cases x <;> (intro h;cases h)
def Ms:d7→jv
  | .r0 a b c d e=>⟨.tup [.agg [.bool false b,.imm .free (.ns .u64 c) 1 1 0 d,.int .i64 e],.int .i64 ((a:Nat):Int)],[]⟩
def mK:List Code:=bS (bB oO)
def TN(c:Bool)(d:Lv)(a:List Int)(e:Int)(f:Bool)(g:Lv)(b:List Int)(h:Int) :Bool×Bool→aM:=fun (i,j)=>⟨an 72 [(2,.ptr 0 1 0 0),(3,.ptr 1 1 0 0),(4,.ptr 2 1 0 0),(16,.bool false i)],[(0,.vs [.bool false c,.imm d (.ns .u64 a) 1 1 0 (List.length a),.int .i64 e]),(1,.vs [.bool false f,.imm g (.ns .u64 b) 1 1 0 (List.length b),.int .i64 h]),(2,.vs [.bool false j,.nsl,.int .i64 (0:Int)])],3⟩
def A8(a:List Int)(c:Int)(b:List Int)(d:Int) :T ((Bool×Bool)⊕(d7)) :=
  .need (aR 0 (List.length a) a)<|.need (pu (gu (aa 0 (List.length a) a) c))<|.ask (!(nN (gu (aa 0 (List.length a) a) c)))
    (.leaf (.inl (true,false)))
    (.need (aR 0 (List.length b) b)<|.need (pu (gu (aa 0 (List.length b) b) d))<|.leaf (.inl ((!(nN (gu (aa 0 (List.length b) b) d))),false)))
def TO(a:Bool) :Bool×(List Int)×Nat×Int×Bool×(List Int)×Nat×Int→aM:=fun (b,c,d,e,f,g,h,i)=>⟨an 72 [(2,.ptr 0 1 0 0),(3,.ptr 1 1 0 0),(4,.ptr 2 1 0 0)],[(0,.vs [.bool false b,.imm .free (.ns .u64 c) 1 1 0 d,.int .i64 e]),(1,.vs [.bool false f,.imm .free (.ns .u64 g) 1 1 0 h,.int .i64 i]),(2,.vs [.bool false a,.nsl,.int .i64 (0:Int)])],3⟩
def A9(c:Bool)(a:List Int)(d:Int)(e:Bool)(b:List Int)(f:Int)(g:Bool) :T ((Bool×(List Int)×Nat×Int×Bool×(List Int)×Nat×Int)⊕(d7)) :=
  .ask g
    (.leaf (.inr (.r0 2 false ([]:List Int) 0 (0:Int))))
    (.need (aR 0 (List.length a) a)<|.need (jy (bh c (aa 0 (List.length a) a) d))<|.need (aR 0 (List.length b) b)<|.need (jy (bh e (aa 0 (List.length b) b) f))<|.leaf (.inl ((iP (bh c (aa 0 (List.length a) a) d)),(iQ (bh c (aa 0 (List.length a) a) d)),(iR (bh c (aa 0 (List.length a) a) d)),(iS (bh c (aa 0 (List.length a) a) d)),(iP (bh e (aa 0 (List.length b) b) f)),(iQ (bh e (aa 0 (List.length b) b) f)),(iR (bh e (aa 0 (List.length b) b) f)),(iS (bh e (aa 0 (List.length b) b) f)))))
def TP(a:Bool)(b:Bool)(c:List Int)(d:Nat)(e:Int)(f:Bool)(g:List Int)(h:Nat)(i:Int)(j:Bool) :aM:=⟨an 72 [(2,.ptr 0 1 0 0),(3,.ptr 1 1 0 0),(4,.ptr 2 1 0 0),(24,.bool false j)],[(0,.vs [.bool false b,.imm .free (.ns .u64 c) 1 1 0 d,.int .i64 e]),(1,.vs [.bool false f,.imm .free (.ns .u64 g) 1 1 0 h,.int .i64 i]),(2,.vs [.bool false a,.nsl,.int .i64 (0:Int)])],3⟩
def Ba(a:List Int)(b:Nat)(e:Int)(c:List Int)(d:Nat)(f:Int) :T ((Bool)⊕(d7)) :=
  .need (aR 0 b a)<|.need (aR 0 d c)<|.need (Dn (xp (aa 0 b a) e (aa 0 d c) f))<|.leaf (.inl (ED (xp (aa 0 b a) e (aa 0 d c) f)))
def TQ(a:Bool)(b:Bool)(c:List Int)(d:Nat)(e:Int)(f:Bool)(g:List Int)(h:Nat)(i:Int) :(List Int)×Nat×(List Int)×Nat×Int→aM:=fun (j,k,l,m,n)=>⟨an 72 [(2,.ptr 0 1 0 0),(3,.ptr 1 1 0 0),(4,.ptr 2 1 0 0),(6,.imm .free (.ns .u64 j) 1 1 0 k),(7,.imm .free (.ns .u64 l) 1 1 0 m),(8,.int .i64 n)],[(0,.vs [.bool false b,.imm .free (.ns .u64 c) 1 1 0 d,.int .i64 e]),(1,.vs [.bool false f,.imm .free (.ns .u64 g) 1 1 0 h,.int .i64 i]),(2,.vs [.bool false a,.nsl,.int .i64 (0:Int)])],3⟩
def Bb(a:List Int)(b:Nat)(e:Int)(c:List Int)(d:Nat)(f:Int)(g:Bool) :T (((List Int)×Nat×(List Int)×Nat×Int)⊕(d7)) :=
  .ask g
    (.leaf (.inr (.r0 3 false ([]:List Int) 0 (0:Int))))
    (.need (aR 0 b a)<|.need (aR 0 d c)<|.need (yr (eJ (aa 0 b a) e (aa 0 d c) f))<|.leaf (.inl ((z4 (eJ (aa 0 b a) e (aa 0 d c) f)),(z5 (eJ (aa 0 b a) e (aa 0 d c) f)),(z6 (eJ (aa 0 b a) e (aa 0 d c) f)),(z7 (eJ (aa 0 b a) e (aa 0 d c) f)),(z8 (eJ (aa 0 b a) e (aa 0 d c) f)))))
def TR(a:Bool)(b:Bool)(c:List Int)(d:Nat)(e:Int)(f:Bool)(g:List Int)(h:Nat)(i:Int)(j:List Int)(k:Nat)(l:List Int)(m:Nat)(n:Int)(_:Unit) :aM:=⟨an 72 [(2,.ptr 0 1 0 0),(3,.ptr 1 1 0 0),(4,.ptr 2 1 0 0),(6,.imm .free (.ns .u64 j) 1 1 0 k),(7,.imm .free (.ns .u64 l) 1 1 0 m),(8,.int .i64 n)],[(0,.vs [.bool false b,.imm .free (.ns .u64 c) 1 1 0 d,.int .i64 e]),(1,.vs [.bool false f,.imm .free (.ns .u64 g) 1 1 0 h,.int .i64 i]),(2,.vs [.bool false a,.nsl,.int .i64 (0:Int)])],3⟩
def sH(e:Bool)(g:Bool)(a:List Int)(b:Nat)(c:List Int)(d:Nat)(f:Int) :T ((Unit)⊕(d7)) :=
  .ask (e == g)
    (.need (aR 0 b a)<|.need (aR 0 d c)<|.need (yh (d6 (aa 0 b a) (aa 0 d c)))<|.need (aR 0 (iv (d6 (aa 0 b a) (aa 0 d c))) (iu (d6 (aa 0 b a) (aa 0 d c))))<|.need (pQ (bM e (aa 0 (iv (d6 (aa 0 b a) (aa 0 d c))) (iu (d6 (aa 0 b a) (aa 0 d c)))) f))<|.leaf (.inr (.r0 (oo (bM e (aa 0 (iv (d6 (aa 0 b a) (aa 0 d c))) (iu (d6 (aa 0 b a) (aa 0 d c)))) f)) (oq (bM e (aa 0 (iv (d6 (aa 0 b a) (aa 0 d c))) (iu (d6 (aa 0 b a) (aa 0 d c)))) f)) (ot (bM e (aa 0 (iv (d6 (aa 0 b a) (aa 0 d c))) (iu (d6 (aa 0 b a) (aa 0 d c)))) f)) (ou (bM e (aa 0 (iv (d6 (aa 0 b a) (aa 0 d c))) (iu (d6 (aa 0 b a) (aa 0 d c)))) f)) (ov (bM e (aa 0 (iv (d6 (aa 0 b a) (aa 0 d c))) (iu (d6 (aa 0 b a) (aa 0 d c)))) f)))))
    (.leaf (.inl ()))
def TS(a:Bool)(b:Bool)(c:List Int)(d:Nat)(e:Int)(f:Bool)(g:List Int)(h:Nat)(i:Int)(j:List Int)(k:Nat)(l:List Int)(m:Nat)(n:Int)(o:Bool) :aM:=⟨an 72 [(2,.ptr 0 1 0 0),(3,.ptr 1 1 0 0),(4,.ptr 2 1 0 0),(6,.imm .free (.ns .u64 j) 1 1 0 k),(7,.imm .free (.ns .u64 l) 1 1 0 m),(8,.int .i64 n),(51,.bool false o)],[(0,.vs [.bool false b,.imm .free (.ns .u64 c) 1 1 0 d,.int .i64 e]),(1,.vs [.bool false f,.imm .free (.ns .u64 g) 1 1 0 h,.int .i64 i]),(2,.vs [.bool false a,.nsl,.int .i64 (0:Int)])],3⟩
def Bc(a:List Int)(b:Nat)(c:List Int)(d:Nat) :T ((Bool)⊕(d7)) :=
  .need (aR 0 b a)<|.need (aR 0 d c)<|.need (Dk (xn (aa 0 b a) (aa 0 d c)))<|.leaf (.inl (decide ((EA (xn (aa 0 b a) (aa 0 d c))) ≥ (0:Int))))
def TT(a:Bool)(b:Bool)(c:List Int)(d:Nat)(e:Int)(f:List Int)(g:Nat)(h:List Int)(i:Nat)(j:Int)(_:Unit) :aM:=⟨an 72 [(3,.ptr 0 1 0 0),(4,.ptr 1 1 0 0),(6,.imm .free (.ns .u64 f) 1 1 0 g),(7,.imm .free (.ns .u64 h) 1 1 0 i),(8,.int .i64 j)],[(0,.vs [.bool false b,.imm .free (.ns .u64 c) 1 1 0 d,.int .i64 e]),(1,.vs [.bool false a,.nsl,.int .i64 (0:Int)])],2⟩
def Bd(e:Bool)(a:List Int)(b:Nat)(c:List Int)(d:Nat)(f:Int)(g:Bool) :T ((Unit)⊕(d7)) :=
  .ask g
    (.need (aR 0 b a)<|.need (aR 0 d c)<|.need (rb (bT (aa 0 b a) (aa 0 d c)))<|.need (aR 0 (dk (bT (aa 0 b a) (aa 0 d c))) (dj (bT (aa 0 b a) (aa 0 d c))))<|.need (pQ (bM e (aa 0 (dk (bT (aa 0 b a) (aa 0 d c))) (dj (bT (aa 0 b a) (aa 0 d c)))) f))<|.leaf (.inr (.r0 (oo (bM e (aa 0 (dk (bT (aa 0 b a) (aa 0 d c))) (dj (bT (aa 0 b a) (aa 0 d c)))) f)) (oq (bM e (aa 0 (dk (bT (aa 0 b a) (aa 0 d c))) (dj (bT (aa 0 b a) (aa 0 d c)))) f)) (ot (bM e (aa 0 (dk (bT (aa 0 b a) (aa 0 d c))) (dj (bT (aa 0 b a) (aa 0 d c)))) f)) (ou (bM e (aa 0 (dk (bT (aa 0 b a) (aa 0 d c))) (dj (bT (aa 0 b a) (aa 0 d c)))) f)) (ov (bM e (aa 0 (dk (bT (aa 0 b a) (aa 0 d c))) (dj (bT (aa 0 b a) (aa 0 d c)))) f)))))
    (.leaf (.inl ()))
def TU:Nat×Bool×(List Int)×Nat×Int→aM:=fun (a,b,c,d,e)=>⟨an 72 [(4,.ptr 0 1 0 0),(5,.int .i64 ((a:Nat):Int))],[(0,.vs [.bool false b,.imm .free (.ns .u64 c) 1 1 0 d,.int .i64 e])],1⟩
def Be(e:Bool)(a:List Int)(b:Nat)(c:List Int)(d:Nat)(f:Int) :T ((Nat×Bool×(List Int)×Nat×Int)⊕(d7)) :=
  .need (aR 0 d c)<|.need (aR 0 b a)<|.need (rb (bT (aa 0 d c) (aa 0 b a)))<|.need (aR 0 (dk (bT (aa 0 d c) (aa 0 b a))) (dj (bT (aa 0 d c) (aa 0 b a))))<|.need (pQ (bM e (aa 0 (dk (bT (aa 0 d c) (aa 0 b a))) (dj (bT (aa 0 d c) (aa 0 b a)))) f))<|.leaf (.inl ((oo (bM e (aa 0 (dk (bT (aa 0 d c) (aa 0 b a))) (dj (bT (aa 0 d c) (aa 0 b a)))) f)),(oq (bM e (aa 0 (dk (bT (aa 0 d c) (aa 0 b a))) (dj (bT (aa 0 d c) (aa 0 b a)))) f)),(ot (bM e (aa 0 (dk (bT (aa 0 d c) (aa 0 b a))) (dj (bT (aa 0 d c) (aa 0 b a)))) f)),(ou (bM e (aa 0 (dk (bT (aa 0 d c) (aa 0 b a))) (dj (bT (aa 0 d c) (aa 0 b a)))) f)),(ov (bM e (aa 0 (dk (bT (aa 0 d c) (aa 0 b a))) (dj (bT (aa 0 d c) (aa 0 b a)))) f))))
def Py(a:Nat)(b:Bool)(c:List Int)(d:Nat)(e:Int) :T ((Empty)⊕(d7)) :=
  .leaf (.inr (.r0 a b c d e))
def ew(r:Bool)(f:List Int)(g:Int)(s:Bool)(h:List Int)(i:Int) :Option d7:=me (aH ((A8 f g h i).run) fun (t,B) =>
  aH ((A9 r f g s h i t).run) fun (j,k,l,m,n,o,p,q) =>
  aH ((Ba k l m o p q).run) fun u =>
  aH ((Bb k l m o p q u).run) fun (a,b,c,d,e) =>
  aH ((sH j n a b c d e).run) fun _ =>
  aH ((Bc a b c d).run) fun v =>
  aH ((Bd j a b c d e v).run) fun _ =>
  aH ((Be n a b c d e).run) fun (w,x,y,z,A) =>
  (Py w x y z A).run)
theorem aha(u:Bool)(w:Lv)(q:List Int)(s:Int)(v:Bool)(y:Lv)(r:List Int)(t:Int){x:d7}(h:ew u q s v r t=some x) :ax prog oO [] [.agg [.bool false u,.imm w (.ns .u64 q) 1 1 0 (List.length q),.int .i64 s],.agg [.bool false v,.imm y (.ns .u64 r) 1 1 0 (List.length r),.int .i64 t]] (Ms x) :=
  Sg.contract true Ms (by kernel_rfl:prog.funcs[oO]? = some (FN oO)) (by kernel_rfl:(FN oO).body=some (bB oO)) (Sg.cut 2 pw (Sg.seg (C:=C0) ap gE 60 (mK.take 2) (aT (FN oO) [] [.agg [.bool false u,.imm w (.ns .u64 q) 1 1 0 (List.length q),.int .i64 s],.agg [.bool false v,.imm y (.ns .u64 r) 1 1 0 (List.length r),.int .i64 t]]) (A8 q s r t) (TN u w q s v y r t) m9 [⟨[],[0,16,32],[2,3,4,16]⟩,⟨[],[0,16,32],[2,3,4,16]⟩] (by kernel_rfl)) (fun a=>by obtain ⟨z,b⟩:=a;exact Sg.cut 2 pw (Sg.seg (C:=C0) ap gE 60 ((mK.drop 2).take 2) (TN u w q s v y r t (z,b)) (A9 u q s v r t z) (TO b) m9 [⟨[(.cell 2 1,.fre 1 1 (.ns .u64 ([]:List Int)))],[2],[4,5]⟩,⟨[],[0,1,2],[2,3,4]⟩] (by kernel_rfl)) (fun a=>by obtain ⟨g,i,j,k,c,d,e,f⟩:=a;exact Sg.cut 1 pw (Sg.seg (C:=C0) ap gE 60 (((mK.drop 2).drop 2).take 1) (TO b (g,i,j,k,c,d,e,f)) (Ba i j k d e f) (TP b g i j k c d e f) m9 [⟨[],[0,1,2],[2,3,4,24]⟩] (by kernel_rfl)) (fun A=>by exact Sg.cut 2 pw (Sg.seg (C:=C0) ap gE 60 ((((mK.drop 2).drop 2).drop 1).take 2) (TP b g i j k c d e f A) (Bb i j k d e f A) (TQ b g i j k c d e f) m9 [⟨[(.cell 2 1,.fre 1 1 (.ns .u64 ([]:List Int)))],[2],[4,5]⟩,⟨[],[0,1,2],[2,3,4,6,7,8]⟩] (by kernel_rfl)) (fun a=>by obtain ⟨l,m,n,o,p⟩:=a;exact Sg.cut 2 pw (Sg.seg (C:=C0) ap gE 60 (((((mK.drop 2).drop 2).drop 1).drop 2).take 2) (TQ b g i j k c d e f (l,m,n,o,p)) (sH g c l m n o p) (TR b g i j k c d e f l m n o p) m9 [⟨[],[2],[4,5]⟩,⟨[],[0,1,2],[2,3,4,6,7,8]⟩] (by kernel_rfl)) (fun a=>by cases a;exact Sg.cut 1 pw (Sg.seg (C:=C0) ap gE 60 ((((((mK.drop 2).drop 2).drop 1).drop 2).drop 2).take 1) (TR b g i j k c d e f l m n o p ()) (Bc l m n o) (TS b g i j k c d e f l m n o p) m9 [⟨[],[0,1,2],[2,3,4,6,7,8,51]⟩] (by kernel_rfl)) (fun B=>by exact Sg.cut 1 pw (Sg.seg (C:=C0) ap gE 60 (((((((mK.drop 2).drop 2).drop 1).drop 2).drop 2).drop 1).take 1) (TS b g i j k c d e f l m n o p B) (Bd g l m n o p B) (TT b c d e f l m n o p) m9 [⟨[],[2],[4,5]⟩,⟨[],[1,2],[3,4,6,7,8]⟩] (by kernel_rfl)) (fun a=>by cases a;exact Sg.cut 1 pw (Sg.seg (C:=C0) ap gE 60 ((((((((mK.drop 2).drop 2).drop 1).drop 2).drop 2).drop 1).drop 1).take 1) (TT b c d e f l m n o p ()) (Be c l m n o p) TU m9 [⟨[],[1],[4,5]⟩] (by kernel_rfl)) (fun a=>by obtain ⟨D,E,F,G,H⟩:=a;exact Sg.seg (C:=C0) ap gE 60 ((((((((mK.drop 2).drop 2).drop 1).drop 2).drop 2).drop 1).drop 1).drop 1) (TU (D,E,F,G,H)) (Py D E F G H) (fun a:Empty=>a.elim) m9 [⟨[],[0],[4,5]⟩] (by kernel_rfl))))))))))
    (fun x=>by cases x with | r0 I J K L M=>exact ⟨.inr rfl,[.agg [.bool false J,.imm .free (.ns .u64 K) 1 1 0 L,.int .i64 M],.int .i64 ((I:Nat):Int)],[],by kernel_rfl,trivial,by kernel_rfl⟩) h
def yu:Option d7→Bool
  | some _=>true
  | none=>false
def EE:Option d7→Nat
  | some (.r0 x _ _ _ _)=>x
  | _=>0
def yw:Option d7→Bool
  | some (.r0 _ x _ _ _)=>x
  | _=>false
def yx:Option d7→List Int
  | some (.r0 _ _ x _ _)=>x
  | _=>[]
def yy:Option d7→Nat
  | some (.r0 _ _ _ x _)=>x
  | _=>0
def yz:Option d7→Int
  | some (.r0 _ _ _ _ x)=>x
  | _=>0
theorem ahb{x:Option d7}(h:yu x=true) :x=some (.r0 (EE x) (yw x) (yx x) (yy x) (yz x)):=by
  unfold yu at h
  split at h <;> first | rfl | (cases h;done) | (rename_i y;cases y;rfl)
def XK:aL:=cn oO (.cons (.agg (.cons .bool (.cons (.ns .u64) (.cons (.int .i64) .nil)))) (.cons (.agg (.cons .bool (.cons (.ns .u64) (.cons (.int .i64) .nil)))) .nil)) fun t=>[⟨Ms (.r0 (EE (ew t.1.1 t.1.2.1.2 t.1.2.2.1 t.2.1.1 t.2.1.2.1.2 t.2.1.2.2.1)) (yw (ew t.1.1 t.1.2.1.2 t.1.2.2.1 t.2.1.1 t.2.1.2.1.2 t.2.1.2.2.1)) (yx (ew t.1.1 t.1.2.1.2 t.1.2.2.1 t.2.1.1 t.2.1.2.1.2 t.2.1.2.2.1)) (yy (ew t.1.1 t.1.2.1.2 t.1.2.2.1 t.2.1.1 t.2.1.2.1.2 t.2.1.2.2.1)) (yz (ew t.1.1 t.1.2.1.2 t.1.2.2.1 t.2.1.1 t.2.1.2.1.2 t.2.1.2.2.1))),[yu (ew t.1.1 t.1.2.1.2 t.1.2.2.1 t.2.1.1 t.2.1.2.1.2 t.2.1.2.2.1)]⟩]
theorem abD:aV prog XK:=aP fun t=>(aQ (fun h=>aha t.1.1 t.1.2.1.1 t.1.2.1.2 t.1.2.2.1 t.2.1.1 t.2.1.2.1.1 t.2.1.2.1.2 t.2.1.2.2.1 (ahb h)) ba)
def XL:List aL:=XK :: TM
theorem tE:bf prog (bi XL):=aw abD gE
inductive gv where
  | r0 (a:Nat) (b:Bool) (c:List Int) (d:Nat) (e:Int)
def BY:gv→AE×aM
  | .r0 a b c d e=>(.ret,⟨an 38 [(4,.ptr 0 1 0 0),(5,.int .i64 ((a:Nat):Int))],[(0,.vs [.bool false b,.imm .free (.ns .u64 c) 1 1 0 d,.int .i64 e])],1⟩)
theorem JH:l9 BY:=by intro x;cases x <;> (intro h;cases h)
def Mt:gv→jv
  | .r0 a b c d e=>⟨.tup [.agg [.bool false b,.imm .free (.ns .u64 c) 1 1 0 d,.int .i64 e],.int .i64 ((a:Nat):Int)],[]⟩
def Dp:List Code:=bS (bB oP)
def TV(c:Bool)(d:Lv)(a:List Int)(e:Int)(f:Bool)(g:Lv)(b:List Int)(h:Int) :Bool×Bool→aM:=fun (i,j)=>⟨an 38 [(2,.ptr 0 1 0 0),(3,.ptr 1 1 0 0),(4,.ptr 2 1 0 0),(13,.bool false i)],[(0,.vs [.bool false c,.imm d (.ns .u64 a) 1 1 0 (List.length a),.int .i64 e]),(1,.vs [.bool false f,.imm g (.ns .u64 b) 1 1 0 (List.length b),.int .i64 h]),(2,.vs [.bool false j,.nsl,.int .i64 (0:Int)])],3⟩
def JI(a:List Int)(c:Int)(b:List Int)(d:Int) :T ((Bool×Bool)⊕(gv)) :=
  .need (aR 0 (List.length a) a)<|.need (pu (gu (aa 0 (List.length a) a) c))<|.ask (!(nN (gu (aa 0 (List.length a) a) c)))
    (.leaf (.inl (true,false)))
    (.need (aR 0 (List.length b) b)<|.need (pu (gu (aa 0 (List.length b) b) d))<|.leaf (.inl ((!(nN (gu (aa 0 (List.length b) b) d))),false)))
def TW(a:Bool) :Bool×(List Int)×Nat×Int×Bool×(List Int)×Nat×Int→aM:=fun (b,c,d,e,f,g,h,i)=>⟨an 38 [(2,.ptr 0 1 0 0),(3,.ptr 1 1 0 0),(4,.ptr 2 1 0 0)],[(0,.vs [.bool false b,.imm .free (.ns .u64 c) 1 1 0 d,.int .i64 e]),(1,.vs [.bool false f,.imm .free (.ns .u64 g) 1 1 0 h,.int .i64 i]),(2,.vs [.bool false a,.nsl,.int .i64 (0:Int)])],3⟩
def Dq(c:Bool)(a:List Int)(d:Int)(e:Bool)(b:List Int)(f:Int)(g:Bool) :T ((Bool×(List Int)×Nat×Int×Bool×(List Int)×Nat×Int)⊕(gv)) :=
  .ask g
    (.leaf (.inr (.r0 2 false ([]:List Int) 0 (0:Int))))
    (.need (aR 0 (List.length a) a)<|.need (jy (bh c (aa 0 (List.length a) a) d))<|.need (aR 0 (List.length b) b)<|.need (jy (bh e (aa 0 (List.length b) b) f))<|.leaf (.inl ((iP (bh c (aa 0 (List.length a) a) d)),(iQ (bh c (aa 0 (List.length a) a) d)),(iR (bh c (aa 0 (List.length a) a) d)),(iS (bh c (aa 0 (List.length a) a) d)),(iP (bh e (aa 0 (List.length b) b) f)),(iQ (bh e (aa 0 (List.length b) b) f)),(iR (bh e (aa 0 (List.length b) b) f)),(iS (bh e (aa 0 (List.length b) b) f)))))
def TX:Nat×Bool×(List Int)×Nat×Int→aM:=fun (a,b,c,d,e)=>⟨an 38 [(4,.ptr 0 1 0 0),(5,.int .i64 ((a:Nat):Int))],[(0,.vs [.bool false b,.imm .free (.ns .u64 c) 1 1 0 d,.int .i64 e])],1⟩
def Dr(g:Bool)(a:List Int)(b:Nat)(e:Int)(h:Bool)(c:List Int)(d:Nat)(f:Int) :T ((Nat×Bool×(List Int)×Nat×Int)⊕(gv)) :=
  .need (aR 0 b a)<|.need (aR 0 d c)<|.need (uu (dA (aa 0 b a) (aa 0 d c)))<|.need (ej .i64 (e+f))<|.need (aR 0 (gq (dA (aa 0 b a) (aa 0 d c))) (gp (dA (aa 0 b a) (aa 0 d c))))<|.need (pQ (bM (!(g == h)) (aa 0 (gq (dA (aa 0 b a) (aa 0 d c))) (gp (dA (aa 0 b a) (aa 0 d c)))) (e+f)))<|.leaf (.inl ((oo (bM (!(g == h)) (aa 0 (gq (dA (aa 0 b a) (aa 0 d c))) (gp (dA (aa 0 b a) (aa 0 d c)))) (e+f))),(oq (bM (!(g == h)) (aa 0 (gq (dA (aa 0 b a) (aa 0 d c))) (gp (dA (aa 0 b a) (aa 0 d c)))) (e+f))),(ot (bM (!(g == h)) (aa 0 (gq (dA (aa 0 b a) (aa 0 d c))) (gp (dA (aa 0 b a) (aa 0 d c)))) (e+f))),(ou (bM (!(g == h)) (aa 0 (gq (dA (aa 0 b a) (aa 0 d c))) (gp (dA (aa 0 b a) (aa 0 d c)))) (e+f))),(ov (bM (!(g == h)) (aa 0 (gq (dA (aa 0 b a) (aa 0 d c))) (gp (dA (aa 0 b a) (aa 0 d c)))) (e+f)))))
def TY(a:Nat)(b:Bool)(c:List Int)(d:Nat)(e:Int) :T ((Empty)⊕(gv)) :=
  .leaf (.inr (.r0 a b c d e))
def jg(e:Bool)(a:List Int)(b:Int)(f:Bool)(c:List Int)(d:Int) :Option gv:=me (aH ((JI a b c d).run) fun (g,u) =>
  aH ((Dq e a b f c d g).run) fun (h,i,j,k,l,m,n,o) =>
  aH ((Dr h i j k l m n o).run) fun (p,q,r,s,t) =>
  (TY p q r s t).run)
theorem ahc(f:Bool)(i:Lv)(b:List Int)(d:Int)(g:Bool)(j:Lv)(c:List Int)(e:Int){x:gv}(h:jg f b d g c e=some x) :ax prog oP [] [.agg [.bool false f,.imm i (.ns .u64 b) 1 1 0 (List.length b),.int .i64 d],.agg [.bool false g,.imm j (.ns .u64 c) 1 1 0 (List.length c),.int .i64 e]] (Mt x) :=
  Sg.contract true Mt (by kernel_rfl:prog.funcs[oP]? = some (FN oP)) (by kernel_rfl:(FN oP).body=some (bB oP)) (Sg.cut 2 JH (Sg.seg (C:=C0) ap tE 60 (Dp.take 2) (aT (FN oP) [] [.agg [.bool false f,.imm i (.ns .u64 b) 1 1 0 (List.length b),.int .i64 d],.agg [.bool false g,.imm j (.ns .u64 c) 1 1 0 (List.length c),.int .i64 e]]) (JI b d c e) (TV f i b d g j c e) BY [⟨[],[0,16,32],[2,3,4,13]⟩,⟨[],[0,16,32],[2,3,4,13]⟩] (by kernel_rfl)) (fun a=>by obtain ⟨l,k⟩:=a;exact Sg.cut 2 JH (Sg.seg (C:=C0) ap tE 60 ((Dp.drop 2).take 2) (TV f i b d g j c e (l,k)) (Dq f b d g c e l) (TW k) BY [⟨[(.cell 2 1,.fre 1 1 (.ns .u64 ([]:List Int)))],[2],[4,5]⟩,⟨[],[0,1,2],[2,3,4]⟩] (by kernel_rfl)) (fun a=>by obtain ⟨m,n,o,p,q,r,s,t⟩:=a;exact Sg.cut 1 JH (Sg.seg (C:=C0) ap tE 60 (((Dp.drop 2).drop 2).take 1) (TW k (m,n,o,p,q,r,s,t)) (Dr m n o p q r s t) TX BY [⟨[],[2],[4,5]⟩] (by kernel_rfl)) (fun a=>by obtain ⟨u,v,w,y,z⟩:=a;exact Sg.seg (C:=C0) ap tE 60 (((Dp.drop 2).drop 2).drop 1) (TX (u,v,w,y,z)) (TY u v w y z) (fun a:Empty=>a.elim) BY [⟨[],[0],[4,5]⟩] (by kernel_rfl)))))
    (fun x=>by cases x with | r0 A B D E F=>exact ⟨.inr rfl,[.agg [.bool false B,.imm .free (.ns .u64 D) 1 1 0 E,.int .i64 F],.int .i64 ((A:Nat):Int)],[],by kernel_rfl,trivial,by kernel_rfl⟩) h
def Ds:Option gv→Bool
  | some _=>true
  | none=>false
def Mu:Option gv→Nat
  | some (.r0 x _ _ _ _)=>x
  | _=>0
def EF:Option gv→Bool
  | some (.r0 _ x _ _ _)=>x
  | _=>false
def EG:Option gv→List Int
  | some (.r0 _ _ x _ _)=>x
  | _=>[]
def EH:Option gv→Nat
  | some (.r0 _ _ _ x _)=>x
  | _=>0
def EI:Option gv→Int
  | some (.r0 _ _ _ _ x)=>x
  | _=>0
theorem ahd{x:Option gv}(h:Ds x=true) :x=some (.r0 (Mu x) (EF x) (EG x) (EH x) (EI x)):=by
  unfold Ds at h
  split at h <;> first | rfl | (cases h;done) | (rename_i y;cases y;rfl)
def XM:aL:=cn oP (.cons (.agg (.cons .bool (.cons (.ns .u64) (.cons (.int .i64) .nil)))) (.cons (.agg (.cons .bool (.cons (.ns .u64) (.cons (.int .i64) .nil)))) .nil)) fun t=>[⟨Mt (.r0 (Mu (jg t.1.1 t.1.2.1.2 t.1.2.2.1 t.2.1.1 t.2.1.2.1.2 t.2.1.2.2.1)) (EF (jg t.1.1 t.1.2.1.2 t.1.2.2.1 t.2.1.1 t.2.1.2.1.2 t.2.1.2.2.1)) (EG (jg t.1.1 t.1.2.1.2 t.1.2.2.1 t.2.1.1 t.2.1.2.1.2 t.2.1.2.2.1)) (EH (jg t.1.1 t.1.2.1.2 t.1.2.2.1 t.2.1.1 t.2.1.2.1.2 t.2.1.2.2.1)) (EI (jg t.1.1 t.1.2.1.2 t.1.2.2.1 t.2.1.1 t.2.1.2.1.2 t.2.1.2.2.1))),[Ds (jg t.1.1 t.1.2.1.2 t.1.2.2.1 t.2.1.1 t.2.1.2.1.2 t.2.1.2.2.1)]⟩]
theorem abE:aV prog XM:=aP fun t=>(aQ (fun h=>ahc t.1.1 t.1.2.1.1 t.1.2.1.2 t.1.2.2.1 t.2.1.1 t.2.1.2.1.1 t.2.1.2.1.2 t.2.1.2.2.1 (ahd h)) ba)
def XN:List aL:=XM :: XL
theorem yA:bf prog (bi XN):=aw abE tE
end
end Go.Plb.Seat
namespace Go.Plb.Seat
open Go Go.Plb
set_option linter.unusedVariables false
set_option maxRecDepth 100000
noncomputable section
inductive jh where
  | r0 (a:Int) (b:Nat) (c:List Nat)
def xq:jh→AE×aM
  | .r0 a b c=>(.ret,⟨an 26 [(2,.ptr 0 1 0 0)],[(0,.vs [.int .i64 a,.int .i64 a,.sl 1 1 1 0 b b]),(1,.fl c)],2⟩)
theorem JJ:l9 xq:=by intro x;cases x <;> (intro h;cases h)
theorem ahe(id:Nat) :rL id xq:=by intro x;cases x <;> (intro h;cases h)
def Mv:jh→jv
  | .r0 a b c=>⟨.agg [.int .i64 a,.int .i64 a,.sl 0 1 1 0 b b],[some (.fl c)]⟩
def yB:List Code:=bS (bB qA)
def TZ(a:Int) :Nat×(List Nat)→aM:=fun (b,c)=>⟨an 26 [(0,.int .i64 a),(2,.ptr 0 1 0 0),(3,.ptr 1 1 0 0),(4,.int .i64 (0:Int))],[(0,.vs [.int .i64 (0:Int),.int .i64 (0:Int),.nsl]),(1,.vs [.int .i64 a,.int .i64 a,.sl 2 1 1 0 b b]),(2,.fl c)],3⟩
def T1(a:Int) :T ((Nat×(List Nat))⊕(jh)) :=
  .need (ej .i64 (a * a))<|.need (decide ((0:Int)≤(a * a)))<|.need (decide ((a * a)≤(a * a)))<|.need (decide ((8:Int) * (a * a)≤140737488355328))<|.need (ej .i64 (a * a))<|.leaf (.inl ((Int.toNat (a * a)),(List.replicate (Int.toNat (a * a)) 0)))
def uB(a:Int)(b:Nat) :Nat×(List Nat)→aM:=fun (c,d)=>⟨an 26 [(0,.int .i64 a),(2,.ptr 0 1 0 0),(3,.ptr 1 1 0 0),(4,.int .i64 ((c:Nat):Int))],[(0,.vs [.int .i64 (0:Int),.int .i64 (0:Int),.nsl]),(1,.vs [.int .i64 a,.int .i64 a,.sl 2 1 1 0 b b]),(2,.fl d)],3⟩
def Dt(a:Int)(b:Nat)(c:(List Nat)) :aM:=⟨an 26 [(2,.ptr 0 1 0 0),(3,.ptr 1 1 0 0)],[(0,.vs [.int .i64 (0:Int),.int .i64 (0:Int),.nsl]),(1,.vs [.int .i64 a,.int .i64 a,.sl 2 1 1 0 b b]),(2,.fl c)],3⟩
def T3:List Code:=bS (bW ((((yB.drop 3).take 1)).headD .skip))
def T4(b:Int)(d:Nat)(a:Nat)(c:List Nat) :T ((Nat×(List Nat))⊕(((List Nat))⊕(jh))) :=
  .ask (decide (((a:Nat):Int) < b))
    (.need (ej .i64 (((a:Nat):Int) * b))<|.need (ej .i64 ((((a:Nat):Int) * b)+((a:Nat):Int)))<|.need (iC ((((a:Nat):Int) * b)+((a:Nat):Int)) d)<|.need (jt (Int.toNat ((((a:Nat):Int) * b)+((a:Nat):Int))) (List.length c))<|.need (ej .i64 (((a+1):Nat):Int))<|.leaf (.inl ((a+1),(List.set c (Int.toNat ((((a:Nat):Int) * b)+((a:Nat):Int))) 4607182418800017408))))
    (.leaf (.inr (.inl c)))
def Hn(a:Int)(b:Nat) :Nat×(List Nat)→Option ((Nat×(List Nat))⊕(((List Nat))⊕(jh))):=fun (c,d) =>
  (T4 a b c d).run
theorem adF(a:Int)(b:Nat)(c:Nat)(d:List Nat) :Sg prog [] T3 (uB a b (c,d)) (Hn a b (c,d)) (uB a b) (aS 0 (Dt a b) xq):=by
  unfold Hn;exact Sg.seg (C:=C0) ap yA 60 T3 (uB a b (c,d)) (T4 a b c d) (uB a b) (aS 0 (Dt a b) xq) [⟨[],[0,1,2],[0,2,3,4]⟩,⟨[],[0,1,2],[2,3]⟩] (by kernel_rfl)
def ahf(a:Int)(b:Nat) :(List Nat)→aM:=Dt a b
def Pz(a:Int)(b:Nat)(c:List Nat) :T ((Empty)⊕(jh)) :=
  .leaf (.inr (.r0 a b c))
def na(a:Int) :Option jh:=me (aH ((T1 a).run) fun (b,c) =>
  aH (eh (Hn a b) (0,c)) fun d =>
  (Pz a b d).run)
theorem ahg(b:Int){x:jh}(h:na b=some x) :ax prog qA [] [.int .i64 b] (Mv x) :=
  Sg.contract false Mv (by kernel_rfl:prog.funcs[qA]? = some (FN qA)) (by kernel_rfl:(FN qA).body=some (bB qA)) (Sg.cut 3 JJ (Sg.seg (C:=C0) ap yA 60 (yB.take 3) (aT (FN qA) [] [.int .i64 b]) (T1 b) (TZ b) xq [⟨[],[0,128,96],[0,2,3,4]⟩] (by kernel_rfl)) (fun a=>by obtain ⟨c,d⟩:=a;exact Sg.cut 1 JJ (Sg.pre ⟨[],[0,1,2],[0,2,3,4]⟩ rfl (by kernel_rfl:NS.on ⟨[],[0,1,2],[0,2,3,4]⟩ (TZ b (c,d))=(uB b c) (0,d)) (cw (I:=(uB b c)) (J:=(Dt b c)) (id:=0) (by kernel_rfl:((yB.drop 3).take 1) = [.block 0 (.loop (bW ((((yB.drop 3).take 1)).headD .skip)))]) JJ (ahe _) (fun s=>by obtain ⟨i,j⟩:=s;exact adF b c i j) (0,d))) (fun e=>by exact Sg.seg (C:=C0) ap yA 60 ((yB.drop 3).drop 1) (ahf b c e) (Pz b c e) (fun a:Empty=>a.elim) xq [⟨[],[0,2],[2]⟩] (by kernel_rfl))))
    (fun x=>by cases x with | r0 f g k=>exact ⟨.inr rfl,[.agg [.int .i64 f,.int .i64 f,.sl 1 1 1 0 g g]],[],by kernel_rfl,trivial,by kernel_rfl⟩) h
def Du:Option jh→Bool
  | some _=>true
  | none=>false
def EJ:Option jh→Int
  | some (.r0 x _ _)=>x
  | _=>0
def EK:Option jh→Nat
  | some (.r0 _ x _)=>x
  | _=>0
def EL:Option jh→List Nat
  | some (.r0 _ _ x)=>x
  | _=>[]
theorem ahh{x:Option jh}(h:Du x=true) :x=some (.r0 (EJ x) (EK x) (EL x)):=by
  unfold Du at h
  split at h <;> first | rfl | (cases h;done) | (rename_i y;cases y;rfl)
def XO:aL:=cn qA (.cons (.int .i64) .nil) fun t=>[⟨Mv (.r0 (EJ (na t.1)) (EK (na t.1)) (EL (na t.1))),[Du (na t.1)]⟩]
theorem abF:aV prog XO:=aP fun t=>(aQ (fun h=>ahg t.1 (ahh h)) ba)
def XP:List aL:=XO :: XN
theorem EM:bf prog (bi XP):=aw abF yA
inductive mL where
  | r0 (a:Bool)
def JK:mL→AE×aM
  | .r0 a=>(.ret,⟨an 32 [(2,.bool false a)],[],0⟩)
theorem adG:l9 JK:=by intro x;cases x <;> (intro h;cases h)
def JL:mL→jv
  | .r0 a=>⟨.bool false a,[]⟩
def PA:List Code:=bS (bB oM)
def PB(a:Bool) :aM:=⟨an 32 [(2,.bool false a)],[],0⟩
def Ho(a:Int)(b:Int)(c:List Nat) :T ((Bool)⊕(mL)) :=
  .ask (decide (a < (0:Int)))
    (.leaf (.inl true))
    (.ask (decide (a > (512:Int)))
      (.leaf (.inl true))
      (.ask (decide (b < (0:Int)))
        (.leaf (.inl true))
        (.ask (decide (b > (512:Int)))
          (.leaf (.inl true))
          (.need (ej .i64 (a * b))<|.leaf (.inl ((((List.length c):Nat):Int) != (a * b)))))))
def PC(a:Bool) :T ((Empty)⊕(mL)) :=
  .leaf (.inr (.r0 a))
def d4(a:Int)(b:Int)(c:List Nat) :Option mL:=me (aH ((Ho a b c).run) fun d =>
  (PC d).run)
theorem adH(c:Int)(d:Int)(e:Lv)(b:List Nat){x:mL}(h:d4 c d b=some x) :ax prog oM [] [.agg [.int .i64 c,.int .i64 d,.imm e (.fl b) 1 1 0 (List.length b)]] (JL x) :=
  Sg.contract false JL (by kernel_rfl:prog.funcs[oM]? = some (FN oM)) (by kernel_rfl:(FN oM).body=some (bB oM)) (Sg.cut 2 adG (Sg.seg (C:=C0) ap EM 60 (PA.take 2) (aT (FN oM) [] [.agg [.int .i64 c,.int .i64 d,.imm e (.fl b) 1 1 0 (List.length b)]]) (Ho c d b) PB JK [⟨[],[],[2]⟩,⟨[],[],[2]⟩,⟨[],[],[2]⟩,⟨[],[],[2]⟩,⟨[],[],[2]⟩] (by kernel_rfl)) (fun f=>by exact Sg.seg (C:=C0) ap EM 60 (PA.drop 2) (PB f) (PC f) (fun a:Empty=>a.elim) JK [⟨[],[],[2]⟩] (by kernel_rfl)))
    (fun x=>by cases x with | r0 g=>exact ⟨.inr rfl,[.bool false g],[],by kernel_rfl,trivial,by kernel_rfl⟩) h
def jz:Option mL→Bool
  | some _=>true
  | none=>false
def iT:Option mL→Bool
  | some (.r0 x)=>x
  | _=>false
theorem adI{x:Option mL}(h:jz x=true) :x=some (.r0 (iT x)):=by
  unfold jz at h
  split at h <;> first | rfl | (cases h;done) | (rename_i y;cases y;rfl)
def T6:aL:=cn oM (.cons (.agg (.cons (.int .i64) (.cons (.int .i64) (.cons .fl .nil)))) .nil) fun t=>[⟨JL (.r0 (iT (d4 t.1.1 t.1.2.1 t.1.2.2.1.2))),[jz (d4 t.1.1 t.1.2.1 t.1.2.2.1.2)]⟩]
theorem YH:aV prog T6:=aP fun t=>(aQ (fun h=>adH t.1.1 t.1.2.1 t.1.2.2.1.1 t.1.2.2.1.2 (adI h)) ba)
def T7:List aL:=T6 :: XP
theorem wi:bf prog (bi T7):=aw YH EM
inductive bj where
  | r0 (a:Int)
def cO:bj→AE×aM
  | .r0 a=>(.ret,⟨an 19 [(4,.int .i64 a)],[],0⟩)
theorem fU:l9 cO:=by intro x;cases x <;> (intro h;cases h)
theorem sT(id:Nat) :rL id cO:=by intro x;cases x <;> (intro h;cases h)
def gw:bj→jv
  | .r0 a=>⟨.int .i64 a,[]⟩
def dq:List Code:=bS (bB eS)
def kS(b:Lv)(a:List Nat)(_:Unit) :aM:=⟨an 19 [(0,.imm b (.fl a) 1 1 0 (List.length a)),(1,.fn (.func rK) [] []),(7,.int .i64 (((List.length a):Nat):Int)),(8,.int .i64 (0:Int))],[],0⟩
def kT:T ((Unit)⊕(bj)) :=
  .leaf (.inl ())
def cF(b:Lv)(a:List Nat)(c:Nat) :aM:=⟨an 19 [(0,.imm b (.fl a) 1 1 0 (List.length a)),(1,.fn (.func rK) [] []),(7,.int .i64 (((List.length a):Nat):Int)),(8,.int .i64 ((c:Nat):Int))],[],0⟩
def ei(_:Unit) :aM:=⟨an 19 [],[],0⟩
def kU:List Code:=bS (bW ((((dq.drop 2).take 1)).headD .skip))
def cG(b:List Nat)(a:Nat) :T ((Nat)⊕((Unit)⊕(bj))) :=
  .ask (decide (((a:Nat):Int) < (((List.length b):Nat):Int)))
    (.need (iC ((a:Nat):Int) (List.length b))<|.need (jt a (List.length b))<|.ask (Ze (List.getD b a 0) (List.getD b a 0))
      (.leaf (.inr (.inr (.r0 ((a:Nat):Int)))))
      (.ask ((0:Int) == (0:Int))
        (.ask (fgt (QM (List.getD b a 0)) 9218868437227405311)
          (.leaf (.inr (.inr (.r0 ((a:Nat):Int)))))
          (.need (ej .i64 (((a+1):Nat):Int))<|.leaf (.inl (a+1))))
        (.fail)))
    (.leaf (.inr (.inl ())))
def d5(a:List Nat) :Nat→Option ((Nat)⊕((Unit)⊕(bj))):=fun b =>
  (cG a b).run
theorem sM(b:Lv)(a:List Nat)(c:Nat) :Sg prog [] kU (cF b a c) (d5 a c) (cF b a) (aS 0 ei cO):=by
  unfold d5;exact Sg.seg (C:=C0) ap wi 60 kU (cF b a c) (cG a c) (cF b a) (aS 0 ei cO) [⟨[],[],[4]⟩,⟨[],[],[4]⟩,⟨[],[],[0,1,7,8]⟩,⟨[],[],[]⟩] (by kernel_rfl)
def sU:Unit→aM:=ei
def kr:T ((Empty)⊕(bj)) :=
  .leaf (.inr (.r0 (-1:Int)))
def az(a:List Nat) :Option bj:=me (aH ((kT).run) fun _ =>
  aH (eh (d5 a) 0) fun _ =>
  (kr).run)
theorem sV(c:Lv)(b:List Nat){x:bj}(h:az b=some x) :ax prog eS [] [.imm c (.fl b) 1 1 0 (List.length b),.fn (.func rK) [] []] (gw x) :=
  Sg.contract false gw (by kernel_rfl:prog.funcs[eS]? = some (FN eS)) (by kernel_rfl:(FN eS).body=some (bB eS)) (Sg.cut 2 fU (Sg.seg (C:=C0) ap wi 60 (dq.take 2) (aT (FN eS) [] [.imm c (.fl b) 1 1 0 (List.length b),.fn (.func rK) [] []]) (kT) (kS c b) cO [⟨[],[],[0,1,7,8]⟩] (by kernel_rfl)) (fun a=>by cases a;exact Sg.cut 1 fU (Sg.pre ⟨[],[],[0,1,7,8]⟩ rfl (by kernel_rfl:NS.on ⟨[],[],[0,1,7,8]⟩ (kS c b ())=(cF c b) 0) (cw (I:=(cF c b)) (J:=(ei)) (id:=0) (by kernel_rfl:((dq.drop 2).take 1) = [.block 0 (.loop (bW ((((dq.drop 2).take 1)).headD .skip)))]) fU (sT _) (fun s=>by exact sM c b s) 0)) (fun a=>by cases a;exact Sg.seg (C:=C0) ap wi 60 ((dq.drop 2).drop 1) (sU ()) (kr) (fun a:Empty=>a.elim) cO [⟨[],[],[4]⟩] (by kernel_rfl))))
    (fun x=>by cases x with | r0 d=>exact ⟨.inr rfl,[.int .i64 d],[],by kernel_rfl,trivial,by kernel_rfl⟩) h
def aZ:Option bj→Bool
  | some _=>true
  | none=>false
def bb:Option bj→Int
  | some (.r0 x)=>x
  | _=>0
theorem sW{x:Option bj}(h:aZ x=true) :x=some (.r0 (bb x)):=by
  unfold aZ at h
  split at h <;> first | rfl | (cases h;done) | (rename_i y;cases y;rfl)
def lE:aL:=cn eS (.cons .fl (.cons (.fn rK .nil .nil) .nil)) fun t=>[⟨gw (.r0 (bb (az t.1.2))),[aZ (az t.1.2)]⟩]
theorem rW:aV prog lE:=aP fun t=>(aQ (fun h=>sV t.1.1 t.1.2 (sW h)) ba)
def lF:List aL:=lE :: T7
theorem fB:bf prog (bi lF):=aw rW wi
inductive rf where
  | r0 (a:Bool)
def Rl:rf→AE×aM
  | .r0 a=>(.ret,⟨an 17 [(4,.bool false a)],[],0⟩)
theorem ajh:l9 Rl:=by intro x;cases x <;> (intro h;cases h)
def Rm:rf→jv
  | .r0 a=>⟨.bool false a,[]⟩
def XQ:List Code:=bS (bB s7)
def XR(a:Bool) :aM:=⟨an 17 [(4,.bool false a)],[],0⟩
def XS(a:Nat)(b:Nat) :T ((Bool)⊕(rf)) :=
  .ask (Ze a a)
    (.ask (!(Ze b b))
      (.leaf (.inl true))
      (.leaf (.inl (flt a b))))
    (.leaf (.inl (flt a b)))
def XT(a:Bool) :T ((Empty)⊕(rf)) :=
  .leaf (.inr (.r0 a))
def z9(a:Nat)(b:Nat) :Option rf:=me (aH ((XS a b).run) fun c =>
  (XT c).run)
theorem aji(b:Nat)(c:Nat){x:rf}(h:z9 b c=some x) :ax prog s7 [] [.flt false b,.flt false c] (Rm x) :=
  Sg.contract false Rm (by kernel_rfl:prog.funcs[s7]? = some (FN s7)) (by kernel_rfl:(FN s7).body=some (bB s7)) (Sg.cut 2 ajh (Sg.seg (C:=C0) ap fB 60 (XQ.take 2) (aT (FN s7) [] [.flt false b,.flt false c]) (XS b c) XR Rl [⟨[],[],[4]⟩,⟨[],[],[4]⟩,⟨[],[],[4]⟩] (by kernel_rfl)) (fun d=>by exact Sg.seg (C:=C0) ap fB 60 (XQ.drop 2) (XR d) (XT d) (fun a:Empty=>a.elim) Rl [⟨[],[],[4]⟩] (by kernel_rfl)))
    (fun x=>by cases x with | r0 e=>exact ⟨.inr rfl,[.bool false e],[],by kernel_rfl,trivial,by kernel_rfl⟩) h
def Gj:Option rf→Bool
  | some _=>true
  | none=>false
def Hp:Option rf→Bool
  | some (.r0 x)=>x
  | _=>false
theorem ajj{x:Option rf}(h:Gj x=true) :x=some (.r0 (Hp x)):=by
  unfold Gj at h
  split at h <;> first | rfl | (cases h;done) | (rename_i y;cases y;rfl)
def abG:aL:=cn s7 (.cons (.flt false) (.cons (.flt false) .nil)) fun t=>[⟨Rm (.r0 (Hp (z9 t.1 t.2.1))),[Gj (z9 t.1 t.2.1)]⟩]
theorem adJ:aV prog abG:=aP fun t=>(aQ (fun h=>aji t.1 t.2.1 (ajj h)) ba)
def abH:List aL:=abG :: lF
theorem vu:bf prog (bi abH):=aw adJ fB
inductive dS where
  | r0 (a:Bool)
def jL:dS→AE×aM
  | .r0 a=>(.ret,⟨an 21 [(2,.bool false a)],[],0⟩)
theorem rg:l9 jL:=by intro x;cases x <;> (intro h;cases h)
theorem Rn(id:Nat) :rL id jL:=by intro x;cases x <;> (intro h;cases h)
def yC:dS→jv
  | .r0 a=>⟨.bool false a,[]⟩
def nQ:List Code:=bS (bB hJ)
def EN(b:Lv)(a:List Nat)(c:Int) :aM:=⟨an 21 [(0,.imm b (.fl a) 1 1 0 (List.length a)),(3,.int .i64 c)],[],0⟩
def EO(a:List Nat) :T ((Int)⊕(dS)) :=
  .need (ej .i64 ((((List.length a):Nat):Int) - (1:Int)))<|.leaf (.inl ((((List.length a):Nat):Int) - (1:Int)))
def kH(b:Lv)(a:List Nat)(c:Int) :aM:=⟨an 21 [(0,.imm b (.fl a) 1 1 0 (List.length a)),(3,.int .i64 c)],[],0⟩
def nR(_:Unit) :aM:=⟨an 21 [],[],0⟩
def uT:List Code:=bS (bW ((((nQ.drop 2).take 1)).headD .skip))
def EP(b:Lv)(a:List Nat)(c:Int)(_:Unit) :aM:=⟨an 21 [(0,.imm b (.fl a) 1 1 0 (List.length a)),(3,.int .i64 c)],[],0⟩
def mb(b:List Nat)(a:Int) :T ((Unit)⊕((Unit)⊕(dS))) :=
  .ask (decide (a > (0:Int)))
    (.need (iC a (List.length b))<|.need (jt (Int.toNat a) (List.length b))<|.need (ej .i64 (a - (1:Int)))<|.need (iC (a - (1:Int)) (List.length b))<|.need (jt (Int.toNat (a - (1:Int))) (List.length b))<|.need (Gj (z9 (List.getD b (Int.toNat a) 0) (List.getD b (Int.toNat (a - (1:Int))) 0)))<|.ask (Hp (z9 (List.getD b (Int.toNat a) 0) (List.getD b (Int.toNat (a - (1:Int))) 0)))
      (.leaf (.inr (.inr (.r0 false))))
      (.leaf (.inl ())))
    (.leaf (.inr (.inl ())))
def CN(a:Int) :T ((Int)⊕((Unit)⊕(dS))) :=
  .need (ej .i64 (a - (1:Int)))<|.leaf (.inl (a - (1:Int)))
def p9(b:List Nat) :Int→Option ((Int)⊕((Unit)⊕(dS))):=fun a =>
  aH ((mb b a).run) fun _ =>
  (CN a).run
theorem NT(d:Lv)(b:List Nat)(c:Int) :Sg prog [] uT (kH d b c) (p9 b c) (kH d b) (aS 0 nR jL):=by
  unfold p9;exact Sg.cut 3 (aN rg) (Sg.seg (C:=C0) ap vu 60 (uT.take 3) (kH d b c) (mb b c) (EP d b c) (aS 0 nR jL) [⟨[],[],[2]⟩,⟨[],[],[0,3]⟩,⟨[],[],[]⟩] (by kernel_rfl)) (fun a=>by cases a;exact Sg.seg (C:=C0) ap vu 60 (uT.drop 3) (EP d b c ()) (CN c) (kH d b) (aS 0 nR jL) [⟨[],[],[0,3]⟩] (by kernel_rfl))
def Ro:Unit→aM:=nR
def CO:T ((Empty)⊕(dS)) :=
  .leaf (.inr (.r0 true))
def lQ(a:List Nat) :Option dS:=me (aH ((EO a).run) fun b =>
  aH (eh (p9 a) b) fun _ =>
  (CO).run)
theorem Rp(c:Lv)(b:List Nat){x:dS}(h:lQ b=some x) :ax prog hJ [] [.imm c (.fl b) 1 1 0 (List.length b)] (yC x) :=
  Sg.contract false yC (by kernel_rfl:prog.funcs[hJ]? = some (FN hJ)) (by kernel_rfl:(FN hJ).body=some (bB hJ)) (Sg.cut 2 rg (Sg.seg (C:=C0) ap vu 60 (nQ.take 2) (aT (FN hJ) [] [.imm c (.fl b) 1 1 0 (List.length b)]) (EO b) (EN c b) jL [⟨[],[],[0,3]⟩] (by kernel_rfl)) (fun d=>by exact Sg.cut 1 rg (Sg.pre ⟨[],[],[0,3]⟩ rfl (by kernel_rfl:NS.on ⟨[],[],[0,3]⟩ (EN c b d)=(kH c b) d) (cw (I:=(kH c b)) (J:=(nR)) (id:=0) (by kernel_rfl:((nQ.drop 2).take 1) = [.block 0 (.loop (bW ((((nQ.drop 2).take 1)).headD .skip)))]) rg (Rn _) (fun s=>by exact NT c b s) d)) (fun a=>by cases a;exact Sg.seg (C:=C0) ap vu 60 ((nQ.drop 2).drop 1) (Ro ()) (CO) (fun a:Empty=>a.elim) jL [⟨[],[],[2]⟩] (by kernel_rfl))))
    (fun x=>by cases x with | r0 e=>exact ⟨.inr rfl,[.bool false e],[],by kernel_rfl,trivial,by kernel_rfl⟩) h
def rh:Option dS→Bool
  | some _=>true
  | none=>false
def tF:Option dS→Bool
  | some (.r0 x)=>x
  | _=>false
theorem Rq{x:Option dS}(h:rh x=true) :x=some (.r0 (tF x)):=by
  unfold rh at h
  split at h <;> first | rfl | (cases h;done) | (rename_i y;cases y;rfl)
def Gk:aL:=cn hJ (.cons .fl .nil) fun t=>[⟨yC (.r0 (tF (lQ t.1.2))),[rh (lQ t.1.2)]⟩]
theorem Mw:aV prog Gk:=aP fun t=>(aQ (fun h=>Rp t.1.1 t.1.2 (Rq h)) ba)
def Gl:List aL:=Gk :: abH
theorem ji:bf prog (bi Gl):=aw Mw vu
inductive ez where
  | r0 (a:Nat) (b:Bool) (c:List Int) (d:Nat) (e:Nat) (f:Int)
def uC:ez→AE×aM
  | .r0 a b c d e f=>(.ret,⟨an 45 [(4,.ptr 0 1 0 0),(5,.int .i64 ((a:Nat):Int))],[(0,.vs [.bool false b,.imm .free (.ns .u64 c) 1 1 d e,.int .i64 f])],1⟩)
theorem Bf:l9 uC:=by intro x;cases x <;> (intro h;cases h)
def JM:ez→jv
  | .r0 a b c d e f=>⟨.tup [.agg [.bool false b,.imm .free (.ns .u64 c) 1 1 d e,.int .i64 f],.int .i64 ((a:Nat):Int)],[]⟩
def vv:List Code:=bS (bB mh)
def PD(a:Int)(b:Int) :Bool×Bool→aM:=fun (c,d)=>⟨an 45 [(0,.int .i64 a),(1,.int .i64 b),(4,.ptr 0 1 0 0),(22,.bool false c)],[(0,.vs [.bool false d,.nsl,.int .i64 (0:Int)])],1⟩
def Hq(a:Int)(b:Int) :T ((Bool×Bool)⊕(ez)) :=
  .ask (decide (a < (0:Int)))
    (.leaf (.inl (true,false)))
    (.ask (decide (a > (512:Int)))
      (.leaf (.inl (true,false)))
      (.ask (decide (b < (0:Int)))
        (.leaf (.inl (true,false)))
        (.leaf (.inl ((decide (b > (512:Int))),false)))))
def PE(a:Bool) :Bool×(List Int)×Nat×Nat×Int→aM:=fun (b,c,d,e,f)=>⟨an 45 [(4,.ptr 0 1 0 0),(6,.ptr 1 1 0 0)],[(0,.vs [.bool false a,.nsl,.int .i64 (0:Int)]),(1,.vs [.bool false b,.imm .free (.ns .u64 c) 1 1 d e,.int .i64 f])],2⟩
def Bg(a:Int)(b:Int)(c:Bool) :T ((Bool×(List Int)×Nat×Nat×Int)⊕(ez)) :=
  .ask c
    (.leaf (.inr (.r0 2 false ([]:List Int) 0 0 (0:Int))))
    (.need (ej .i64 ((64:Int) * (rH a (1:Int))))<|.need (ej .i64 (((64:Int) * (rH a (1:Int))) * (rH b (1:Int))))<|.need (pL (bk (((64:Int) * (rH a (1:Int))) * (rH b (1:Int)))))<|.leaf (.inl ((j8 (bk (((64:Int) * (rH a (1:Int))) * (rH b (1:Int))))),(iK (bk (((64:Int) * (rH a (1:Int))) * (rH b (1:Int))))),(iL (bk (((64:Int) * (rH a (1:Int))) * (rH b (1:Int))))),(iM (bk (((64:Int) * (rH a (1:Int))) * (rH b (1:Int))))),(j9 (bk (((64:Int) * (rH a (1:Int))) * (rH b (1:Int))))))))
def PF(a:Bool) :Nat×Bool×(List Int)×Nat×Nat×Int→aM:=fun (b,c,d,e,f,g)=>⟨an 45 [(4,.ptr 0 1 0 0),(7,.ptr 1 1 0 0),(8,.int .i64 ((b:Nat):Int))],[(0,.vs [.bool false a,.nsl,.int .i64 (0:Int)]),(1,.vs [.bool false c,.imm .free (.ns .u64 d) 1 1 e f,.int .i64 g])],2⟩
def Bh(d:Bool)(a:List Int)(b:Nat)(c:Nat)(e:Int) :T ((Nat×Bool×(List Int)×Nat×Nat×Int)⊕(ez)) :=
  .need (aR b c a)<|.need (aR b c a)<|.need (qE (ay d (aa b c a) e d (aa b c a) e))<|.leaf (.inl ((mW (ay d (aa b c a) e d (aa b c a) e)),(da (ay d (aa b c a) e d (aa b c a) e)),(cT (ay d (aa b c a) e d (aa b c a) e)),(cU (ay d (aa b c a) e d (aa b c a) e)),(cV (ay d (aa b c a) e d (aa b c a) e)),(db (ay d (aa b c a) e d (aa b c a) e))))
def PG:Nat×Bool×(List Int)×Nat×Nat×Int→aM:=fun (a,b,c,d,e,f)=>⟨an 45 [(4,.ptr 0 1 0 0),(5,.int .i64 ((a:Nat):Int))],[(0,.vs [.bool false b,.imm .free (.ns .u64 c) 1 1 d e,.int .i64 f])],1⟩
def Bi(f:Nat)(d:Bool)(a:List Int)(b:Nat)(c:Nat)(e:Int) :T ((Nat×Bool×(List Int)×Nat×Nat×Int)⊕(ez)) :=
  .ask (((f:Nat):Int) != (0:Int))
    (.leaf (.inr (.r0 f false ([]:List Int) 0 0 (0:Int))))
    (.need (aR b c a)<|.need (AF (eZ d (aa b c a) e (-106:Int)))<|.leaf (.inl ((Cb (eZ d (aa b c a) e (-106:Int))),(Cc (eZ d (aa b c a) e (-106:Int))),(Cd (eZ d (aa b c a) e (-106:Int))),(Ce (eZ d (aa b c a) e (-106:Int))),(Cf (eZ d (aa b c a) e (-106:Int))),(Cg (eZ d (aa b c a) e (-106:Int))))))
def Mx(a:Nat)(b:Bool)(c:List Int)(d:Nat)(e:Nat)(f:Int) :T ((Empty)⊕(ez)) :=
  .leaf (.inr (.r0 a b c d e f))
def cQ(a:Int)(b:Int) :Option ez:=me (aH ((Hq a b).run) fun (c,u) =>
  aH ((Bg a b c).run) fun (d,e,f,g,h) =>
  aH ((Bh d e f g h).run) fun (i,j,k,l,m,n) =>
  aH ((Bi i j k l m n).run) fun (o,p,q,r,s,t) =>
  (Mx o p q r s t).run)
theorem adK(b:Int)(c:Int){x:ez}(h:cQ b c=some x) :ax prog mh [] [.int .i64 b,.int .i64 c] (JM x) :=
  Sg.contract true JM (by kernel_rfl:prog.funcs[mh]? = some (FN mh)) (by kernel_rfl:(FN mh).body=some (bB mh)) (Sg.cut 2 Bf (Sg.seg (C:=C0) ap ji 60 (vv.take 2) (aT (FN mh) [] [.int .i64 b,.int .i64 c]) (Hq b c) (PD b c) uC [⟨[],[0],[0,1,4,22]⟩,⟨[],[0],[0,1,4,22]⟩,⟨[],[0],[0,1,4,22]⟩,⟨[],[0],[0,1,4,22]⟩] (by kernel_rfl)) (fun a=>by obtain ⟨e,d⟩:=a;exact Sg.cut 2 Bf (Sg.seg (C:=C0) ap ji 60 ((vv.drop 2).take 2) (PD b c (e,d)) (Bg b c e) (PE d) uC [⟨[(.cell 0 1,.fre 1 1 (.ns .u64 ([]:List Int)))],[0],[4,5]⟩,⟨[],[0,113],[4,6]⟩] (by kernel_rfl)) (fun a=>by obtain ⟨f,g,i,j,k⟩:=a;exact Sg.cut 1 Bf (Sg.seg (C:=C0) ap ji 60 (((vv.drop 2).drop 2).take 1) (PE d (f,g,i,j,k)) (Bh f g i j k) (PF d) uC [⟨[],[0,98],[4,7,8]⟩] (by kernel_rfl)) (fun a=>by obtain ⟨l,m,n,o,p,q⟩:=a;exact Sg.cut 3 Bf (Sg.seg (C:=C0) ap ji 60 ((((vv.drop 2).drop 2).drop 1).take 3) (PF d (l,m,n,o,p,q)) (Bi l m n o p q) PG uC [⟨[(.cell 0 1,.fre 1 1 (.ns .u64 ([]:List Int)))],[0],[4,5]⟩,⟨[],[0],[4,5]⟩] (by kernel_rfl)) (fun a=>by obtain ⟨r,s,t,u,v,w⟩:=a;exact Sg.seg (C:=C0) ap ji 60 ((((vv.drop 2).drop 2).drop 1).drop 3) (PG (r,s,t,u,v,w)) (Mx r s t u v w) (fun a:Empty=>a.elim) uC [⟨[],[0],[4,5]⟩] (by kernel_rfl))))))
    (fun x=>by cases x with | r0 y z A B D E=>exact ⟨.inr rfl,[.agg [.bool false z,.imm .free (.ns .u64 A) 1 1 B D,.int .i64 E],.int .i64 ((y:Nat):Int)],[],by kernel_rfl,trivial,by kernel_rfl⟩) h
def vw:Option ez→Bool
  | some _=>true
  | none=>false
def wj:Option ez→Nat
  | some (.r0 x _ _ _ _ _)=>x
  | _=>0
def wk:Option ez→Bool
  | some (.r0 _ x _ _ _ _)=>x
  | _=>false
def wl:Option ez→List Int
  | some (.r0 _ _ x _ _ _)=>x
  | _=>[]
def wm:Option ez→Nat
  | some (.r0 _ _ _ x _ _)=>x
  | _=>0
def wn:Option ez→Nat
  | some (.r0 _ _ _ _ x _)=>x
  | _=>0
def wo:Option ez→Int
  | some (.r0 _ _ _ _ _ x)=>x
  | _=>0
theorem adL{x:Option ez}(h:vw x=true) :x=some (.r0 (wj x) (wk x) (wl x) (wm x) (wn x) (wo x)):=by
  unfold vw at h
  split at h <;> first | rfl | (cases h;done) | (rename_i y;cases y;rfl)
def T8:aL:=cn mh (.cons (.int .i64) (.cons (.int .i64) .nil)) fun t=>[⟨JM (.r0 (wj (cQ t.1 t.2.1)) (wk (cQ t.1 t.2.1)) (wl (cQ t.1 t.2.1)) (wm (cQ t.1 t.2.1)) (wn (cQ t.1 t.2.1)) (wo (cQ t.1 t.2.1))),[vw (cQ t.1 t.2.1)]⟩]
theorem YI:aV prog T8:=aP fun t=>(aQ (fun h=>adK t.1 t.2.1 (adL h)) ba)
def T9:List aL:=T8 :: Gl
theorem rX:bf prog (bi T9):=aw YI ji
inductive fp where
  | r0 (a:Nat) (b:List Bool) (c:List (List Int)) (d:List Int)
def ri:fp→AE×aM
  | .r0 a b c d=>(.ret,⟨an 26 [(2,.sl 0 3 3 0 a a)],[(0,.cols a [.cb b,.cns .u64 c,.ci .i64 d])],1⟩)
theorem Bj:l9 ri:=by intro x;cases x <;> (intro h;cases h)
theorem adM(id:Nat) :rL id ri:=by intro x;cases x <;> (intro h;cases h)
def JN:fp→jv
  | .r0 a b c d=>⟨.imm .free (.cols a [.cb b,.cns .u64 c,.ci .i64 d]) 3 3 0 a,[]⟩
def vx:List Code:=bS (bB mj)
def PH(b:Lv)(a:List Nat) :(List Bool)×(List (List Int))×(List Int)→aM:=fun (c,d,e)=>⟨an 26 [(3,.sl 0 3 3 0 (List.length a) (List.length a)),(9,.imm b (.fl a) 1 1 0 (List.length a)),(10,.int .i64 (((List.length a):Nat):Int)),(11,.int .i64 (0:Int))],[(0,.cols (List.length a) [.cb c,.cns .u64 d,.ci .i64 e])],1⟩
def Hr(a:List Nat) :T (((List Bool)×(List (List Int))×(List Int))⊕(fp)) :=
  .need (decide ((0:Int)≤(((List.length a):Nat):Int)))<|.need (decide ((((List.length a):Nat):Int)≤(((List.length a):Nat):Int)))<|.need (decide ((40:Int) * (((List.length a):Nat):Int)≤140737488355328))<|.need (ej .i64 (((List.length a):Nat):Int))<|.leaf (.inl ((List.replicate (List.length a) false),(List.replicate (List.length a) []),(List.replicate (List.length a) (0:Int))))
def sI(b:Lv)(a:List Nat) :Nat×(List Bool)×(List (List Int))×(List Int)→aM:=fun (c,d,e,f)=>⟨an 26 [(3,.sl 0 3 3 0 (List.length a) (List.length a)),(9,.imm b (.fl a) 1 1 0 (List.length a)),(10,.int .i64 (((List.length a):Nat):Int)),(11,.int .i64 ((c:Nat):Int))],[(0,.cols (List.length a) [.cb d,.cns .u64 e,.ci .i64 f])],1⟩
def vy(a:List Nat) :(List Bool)×(List (List Int))×(List Int)→aM:=fun (b,c,d)=>⟨an 26 [(3,.sl 0 3 3 0 (List.length a) (List.length a))],[(0,.cols (List.length a) [.cb b,.cns .u64 c,.ci .i64 d])],1⟩
def EQ:List Code:=bS (bW ((((vx.drop 3).take 1)).headD .skip))
def PI(b:Lv)(a:List Nat)(c:Nat) :(List Bool)×(List (List Int))×(List Int)→aM:=fun (d,e,f)=>⟨an 26 [(3,.sl 0 3 3 0 (List.length a) (List.length a)),(9,.imm b (.fl a) 1 1 0 (List.length a)),(10,.int .i64 (((List.length a):Nat):Int)),(11,.int .i64 ((c:Nat):Int))],[(0,.cols (List.length a) [.cb d,.cns .u64 e,.ci .i64 f])],1⟩
def tH(b:List Nat)(a:Nat)(c:List Bool)(d:List (List Int))(e:List Int) :T (((List Bool)×(List (List Int))×(List Int))⊕(((List Bool)×(List (List Int))×(List Int))⊕(fp))) :=
  .ask (decide (((a:Nat):Int) < (((List.length b):Nat):Int)))
    (.need (iC ((a:Nat):Int) (List.length b))<|.need (jt a (List.length b))<|.need (Ep (il (List.getD b a 0)))<|.need (iC ((a:Nat):Int) (List.length b))<|.need (jt a (List.length c))<|.need (jt a (List.length d))<|.need (decide ((yc (il (List.getD b a 0)))+(yd (il (List.getD b a 0)))≤List.length (ya (il (List.getD b a 0)))))<|.need (jt a (List.length e))<|.leaf (.inl ((List.set c a (De (il (List.getD b a 0)))),(List.set d a (List.take (yd (il (List.getD b a 0))) (List.drop (yc (il (List.getD b a 0))) (ya (il (List.getD b a 0)))))),(List.set e a (Df (il (List.getD b a 0)))))))
    (.leaf (.inr (.inl (c,d,e))))
def My(a:Nat)(b:List Bool)(c:List (List Int))(d:List Int) :T ((Nat×(List Bool)×(List (List Int))×(List Int))⊕(((List Bool)×(List (List Int))×(List Int))⊕(fp))) :=
  .need (ej .i64 (((a+1):Nat):Int))<|.leaf (.inl ((a+1),b,c,d))
def ER(b:List Nat) :Nat×(List Bool)×(List (List Int))×(List Int)→Option ((Nat×(List Bool)×(List (List Int))×(List Int))⊕(((List Bool)×(List (List Int))×(List Int))⊕(fp))):=fun (a,c,d,e) =>
  aH ((tH b a c d e).run) fun (f,g,h) =>
  (My a f g h).run
theorem abI(d:Lv)(b:List Nat)(c:Nat)(e:List Bool)(f:List (List Int))(g:List Int) :Sg prog [] EQ (sI d b (c,e,f,g)) (ER b (c,e,f,g)) (sI d b) (aS 0 (vy b) ri):=by
  unfold ER;exact Sg.cut 3 (aN Bj) (Sg.seg (C:=C0) ap rX 60 (EQ.take 3) (sI d b (c,e,f,g)) (tH b c e f g) (PI d b c) (aS 0 (vy b) ri) [⟨[],[0],[3,9,10,11]⟩,⟨[],[0],[3]⟩] (by kernel_rfl)) (fun a=>by obtain ⟨h,i,j⟩:=a;exact Sg.seg (C:=C0) ap rX 60 (EQ.drop 3) (PI d b c (h,i,j)) (My c h i j) (sI d b) (aS 0 (vy b) ri) [⟨[],[0],[3,9,10,11]⟩] (by kernel_rfl))
def adN(a:List Nat) :(List Bool)×(List (List Int))×(List Int)→aM:=vy a
def Mz(a:List Nat)(b:List Bool)(c:List (List Int))(d:List Int) :T ((Empty)⊕(fp)) :=
  .leaf (.inr (.r0 (List.length a) b c d))
def aA(a:List Nat) :Option fp:=me (aH ((Hr a).run) fun (b,c,d) =>
  aH (eh (ER a) (0,b,c,d)) fun (e,f,g) =>
  (Mz a e f g).run)
theorem adO(c:Lv)(b:List Nat){x:fp}(h:aA b=some x) :ax prog mj [] [.imm c (.fl b) 1 1 0 (List.length b)] (JN x) :=
  Sg.contract true JN (by kernel_rfl:prog.funcs[mj]? = some (FN mj)) (by kernel_rfl:(FN mj).body=some (bB mj)) (Sg.cut 3 Bj (Sg.seg (C:=C0) ap rX 60 (vx.take 3) (aT (FN mj) [] [.imm c (.fl b) 1 1 0 (List.length b)]) (Hr b) (PH c b) ri [⟨[],[48],[3,9,10,11]⟩] (by kernel_rfl)) (fun a=>by obtain ⟨d,e,f⟩:=a;exact Sg.cut 1 Bj (Sg.pre ⟨[],[0],[3,9,10,11]⟩ rfl (by kernel_rfl:NS.on ⟨[],[0],[3,9,10,11]⟩ (PH c b (d,e,f))=(sI c b) (0,d,e,f)) (cw (I:=(sI c b)) (J:=(vy b)) (id:=0) (by kernel_rfl:((vx.drop 3).take 1) = [.block 0 (.loop (bW ((((vx.drop 3).take 1)).headD .skip)))]) Bj (adM _) (fun s=>by obtain ⟨l,m,n,o⟩:=s;exact abI c b l m n o) (0,d,e,f))) (fun a=>by obtain ⟨g,i,j⟩:=a;exact Sg.seg (C:=C0) ap rX 60 ((vx.drop 3).drop 1) (adN b (g,i,j)) (Mz b g i j) (fun a:Empty=>a.elim) ri [⟨[],[0],[2]⟩] (by kernel_rfl))))
    (fun x=>by cases x with | r0 k p q r=>exact ⟨.inr rfl,[.sl 0 3 3 0 k k],[],by kernel_rfl,trivial,by kernel_rfl⟩) h
def jA:Option fp→Bool
  | some _=>true
  | none=>false
def aW:Option fp→Nat
  | some (.r0 x _ _ _)=>x
  | _=>0
def dD:Option fp→List Bool
  | some (.r0 _ x _ _)=>x
  | _=>[]
def dE:Option fp→List (List Int)
  | some (.r0 _ _ x _)=>x
  | _=>[]
def dF:Option fp→List Int
  | some (.r0 _ _ _ x)=>x
  | _=>[]
theorem adP{x:Option fp}(h:jA x=true) :x=some (.r0 (aW x) (dD x) (dE x) (dF x)):=by
  unfold jA at h
  split at h <;> first | rfl | (cases h;done) | (rename_i y;cases y;rfl)
def Ua:aL:=cn mj (.cons .fl .nil) fun t=>[⟨JN (.r0 (aW (aA t.1.2)) (dD (aA t.1.2)) (dE (aA t.1.2)) (dF (aA t.1.2))),[jA (aA t.1.2)]⟩]
theorem YJ:aV prog Ua:=aP fun t=>(aQ (fun h=>adO t.1.1 t.1.2 (adP h)) ba)
def Ub:List aL:=Ua :: T9
theorem ow:bf prog (bi Ub):=aw YJ rX
end
end Go.Plb.Seat
namespace Go.Plb.Seat
open Go Go.Plb
set_option linter.unusedSimpArgs false
set_option linter.unusedVariables false
theorem JO{α:Type}{n:Nat}{l:List α}(h:l.length=n) :aR 0 n l=true:=by rw [← h];exact aiB l
theorem ao{α:Type}{b:Bool}{t:T α}{x:Option α}(k:t.run=x)(h:b=true:=by simp only [dh,CM,D2,p8,qT,im,qU,qV,decide_eq_true_eq,decide_eq_false_iff_not,beq_iff_eq,beq_eq_false_iff_ne,bne_iff_ne,bne_eq_false_iff_eq,Bool.not_eq_true',Bool.not_eq_false',List.length_set,ne_eq,ge_iff_le,gt_iff_lt,ma,cH,zr];omega) :(T.need b t).run=x:=di h k
theorem cS{α:Type}{b:Bool}{t f:T α}{x:Option α}(k:t.run=x)(h:b=true:=by simp only [dh,CM,D2,p8,qT,im,qU,qV,decide_eq_true_eq,decide_eq_false_iff_not,beq_iff_eq,beq_eq_false_iff_ne,bne_iff_ne,bne_eq_false_iff_eq,Bool.not_eq_true',Bool.not_eq_false',List.length_set,ne_eq,ge_iff_le,gt_iff_lt,ma,cH,zr];omega) :(T.ask b t f).run=x:=lU h k
theorem dr{α:Type}{b:Bool}{t f:T α}{x:Option α}(k:f.run=x)(h:b=false:=by simp only [dh,CM,D2,p8,qT,im,qU,qV,decide_eq_true_eq,decide_eq_false_iff_not,beq_iff_eq,beq_eq_false_iff_ne,bne_iff_ne,bne_eq_false_iff_eq,Bool.not_eq_true',Bool.not_eq_false',List.length_set,ne_eq,ge_iff_le,gt_iff_lt,ma,cH,zr];omega) :(T.ask b t f).run=x:=cy h k
theorem dY{α:Type}{b:Bool}{t:T α}{x:Option α}(k:t.run=x)(h:b=true:=by exact JO au) :(T.need b t).run=x:=di h k
theorem bo{v n m:Nat}(h:m≤n) :aR 0 m (aC v n)=true:=by rw [im,au];omega
theorem lR{v n:Nat}(h:v < W ^ n)(hn:n≤1000000000) :aF (aC v n)=some (.r0 (aC v n) (nl v)):=by
  have hl:=ju h
  refine aY (ag rfl (ag (a:=nl v) (cD (fun j=>n - j) (n - nl v) (by simp only [au];rfl) (fun j hj=>?_) ?_) rfl))
  · show aH (ud _ _).run _=_
    have e:Int.toNat (((n - j:Nat):Int) - 1)=n - (j+1):=by omega
    have z:(aC v n).getD (n - (j+1)) 0=0:=by
      rw [cN h]
      exact FS (Nat.lt_of_lt_of_le (cZ v) (Nat.pow_le_pow_right (by decide) (by omega)))
    refine ag (a:=true) ?_ ?_
    · unfold ud
      rw [e,z,au]
      exact cS (ao (ao (ao rfl)))
    · unfold IL
      rw [e]
      exact aX (ao (ao (ao rfl)))
  · have e0:n - (n - nl v)=nl v:=by omega
    show aH (ud _ _).run _=_
    rw [e0]
    by_cases h0:v=0
    · have z:=lW.2 h0
      rw [z]
      exact ag (a:=false) (aK rfl) (aK rfl)
    · have hp:=B4 h0
      have e:Int.toNat (((nl v:Nat):Int) - 1)=nl v - 1:=by omega
      refine ag (a:=false) ?_ (aK rfl)
      unfold ud
      rw [e,cN h,au]
      refine cS (ao (ao (ao ?_)))
      show some (Sum.inl _)=_
      congr 2
      rw [beq_eq_false_iff_ne];exact af4 h0
theorem ES{v n:Nat}(h:v < W ^ n)(hn:n≤1000000000) :bG (aC v n) 0 n n=some (.r0 0 (nl v) n (aC v n)):=by
  have hl:=ju h
  refine aY (ag rfl (ag (a:=(0,nl v)) (cD (fun j=>(0,n - j)) (n - nl v) rfl (fun j hj=>?_) ?_) rfl))
  · show aH (oi _ _ _).run _=_
    have e:Int.toNat (((n - j:Nat):Int) - 1)=n - (j+1):=by omega
    have z:(aC v n).getD (n - (j+1)) 0=0:=by
      rw [cN h]
      exact FS (Nat.lt_of_lt_of_le (cZ v) (Nat.pow_le_pow_right (by decide) (by omega)))
    refine ag (a:=true) ?_ ?_
    · unfold oi
      rw [e,p7,Nat.zero_add,z,au]
      exact cS (ao (ao (ao rfl)))
    · unfold B9
      rw [e]
      exact aX (ao (ao (ao rfl)))
  · have e0:n - (n - nl v)=nl v:=by omega
    show aH (oi _ _ _).run _=_
    rw [e0]
    by_cases h0:v=0
    · have z:=lW.2 h0
      rw [z]
      exact ag (a:=false) (aK rfl) (aK rfl)
    · have hp:=B4 h0
      have e:Int.toNat (((nl v:Nat):Int) - 1)=nl v - 1:=by omega
      refine ag (a:=false) ?_ (aK rfl)
      unfold oi
      rw [e,p7,Nat.zero_add,cN h,au]
      refine cS (ao (ao (ao ?_)))
      show some (Sum.inl _)=_
      congr 2
      rw [beq_eq_false_iff_ne];exact af4 h0
theorem afa{v n:Nat}(h:v < W ^ n)(hn:n≤1000000000) :nK (aC v n)=some (if 4096 < nl v then .r0 0 2 [] else .r0 (nl v) 0 (aC v (nl v))):=by
  have hl:=ju h
  have hc:aa 0 (aC v n).length (aC v n)=aC v n:=aq _
  by_cases hb:4096 < nl v
  · rw [if_pos hb]
    refine aY (ag (a:=(2,aC v n,nl v)) ?_ (aX rfl))
    unfold FZ
    rw [hc,lR h hn]
    simp only [c7,be,aO]
    exact aX (ae (aG (ae (cS rfl))))
  · rw [if_neg hb]
    refine aY (ag (a:=(0,aC v n,nl v)) ?_ ?_)
    · unfold FZ
      rw [hc,lR h hn]
      simp only [c7,be,aO]
      exact aX (ae (aG (ae (dr (ae (aK rfl))))))
    · show (F0 _ _ _).run=_
      unfold F0
      rw [ch hl,au]
      exact aK (di (bo hl) (ao rfl))
theorem amf{v:Nat}(h:v < W) :cd (v:Int)=some (.r0 0 (nl v) 1 (aC v 1)):=by
  have e:([(v:Int)]:List Int)=aC v 1:=by
    show [(v:Int)] = [] ++ [lm v 0]
    unfold lm;rw [Nat.pow_zero,Nat.div_one,Nat.mod_eq_of_lt h];rfl
  refine aY (ag (a:=(0,nl v,1,aC v 1)) ?_ rfl)
  unfold Vt
  rw [e,ES (by rw [Nat.pow_one];exact h) (by decide)]
  exact ae rfl
theorem afb{v n:Nat}(h:v < W ^ n)(hn:n≤1000000000) :eG (aC v n) 0 n n=some (if 4096 < nl v then .r0 (aC v n) else .r1 0 (nl v) n (aC v n)):=by
  refine aY (ag (a:=(0,nl v,n,aC v n)) ?_ ?_)
  · unfold Lg
    rw [ES h hn]
    exact ae rfl
  · by_cases hb:4096 < nl v
    · rw [if_pos hb];exact cS rfl
    · rw [if_neg hb];exact dr rfl
end Go.Plb.Seat
namespace Go.Plb.Seat
open Go Go.Plb
set_option linter.unusedSimpArgs false
set_option linter.unusedVariables false
theorem ajk{a b:Nat}(ha:nl a≤1000000)(hb:nl b≤1000000) :xe (aC a (nl a)) (aC b (nl b))=some (.r0 (rM a b)):=by
  refine aY ?_
  by_cases h1:nl a < nl b
  · have:rM a b = -1:=by unfold rM;rw [if_pos (Sj h1)]
    rw [this]
    refine bK ?_
    unfold D7
    rw [au,au]
    exact cS rfl
  by_cases h2:nl b < nl a
  · have hlt:=Sj h2
    have:rM a b=1:=by unfold rM;rw [if_neg (by omega),if_pos hlt]
    rw [this]
    refine bK ?_
    unfold D7
    rw [au,au]
    exact dr (cS rfl)
  have hn:nl b=nl a:=by omega
  have hA:=cZ a
  have hB:=cZ b
  rw [hn] at hB hb ⊢
  generalize nl a=n at *
  refine ag (a:=((n:Int) - 1)) ?_ ?_
  · unfold D7
    rw [au,au]
    exact dr (dr (ao rfl))
  have step:∀ j,j < n→lm a (n - 1 - j)=lm b (n - 1 - j)→F2 (aC a n) (aC b n) ((n:Int) - 1 - j)=some (.inl ((n:Int) - 1 - (j+1:Nat))):=by
    intro j hj he
    show (zK _ _ _).run=_
    unfold zK
    have e:Int.toNat ((n:Int) - 1 - (j:Int))=n - 1 - j:=by omega
    rw [e,cN hA,cN hB,au,au,he]
    refine cS (ao (ao (ao (ao (cy (by simp) (ao (ao (ao (ao (cy (by simp) (ao ?_)))))))))))
    show some (Sum.inl _)=_
    congr 2;omega
  by_cases hall:∀ j,j < n→lm a (n - 1 - j)=lm b (n - 1 - j)
  · have hab:a=b:=by
      have:=K9 hA hB (d:=n) (Nat.le_refl _) fun k _ h2=>by
        have:=hall (n - 1 - k) (by omega)
        rwa [show n - 1 - (n - 1 - k)=k by omega] at this
      simpa using this
    subst hab
    have:rM a a=0:=by unfold rM;rw [if_neg (Nat.lt_irrefl _),if_neg (Nat.lt_irrefl _)]
    rw [this]
    exact ag (cD (fun j=>(n:Int) - 1 - (j:Nat)) n (by omega) (fun j hj=>step j hj (hall j hj)) (dr rfl)) rfl
  · obtain ⟨k,hk,hb',hf⟩:=DM hall
    have hup:a / W ^ (n - 1 - k+1)=b / W ^ (n - 1 - k+1):=by
      have:=K9 hA hB (d:=k) (by omega) fun i h1 h2=>by
        have:=hf (n - 1 - i) (by omega)
        rwa [show n - 1 - (n - 1 - i)=i by omega] at this
      rwa [show n - k=n - 1 - k+1 by omega] at this
    refine bK (cD (fun j=>(n:Int) - 1 - (j:Nat)) k (by omega) (fun j hj=>step j (by omega) (hf j hj)) ?_)
    show (zK _ _ _).run=_
    unfold zK
    have e:Int.toNat ((n:Int) - 1 - (k:Int))=n - 1 - k:=by omega
    rw [e,cN hA,cN hB,au,au]
    refine cS (ao (ao (ao (ao ?_))))
    by_cases hlt:lm a (n - 1 - k) < lm b (n - 1 - k)
    · have:=IJ hup hlt
      have:rM a b = -1:=by unfold rM;rw [if_pos this]
      rw [this]
      exact lU (decide_eq_true hlt) rfl
    · have hgt:lm b (n - 1 - k) < lm a (n - 1 - k):=by omega
      have hlt':=IJ hup.symm hgt
      have:rM a b=1:=by unfold rM;rw [if_neg (by omega),if_pos hlt']
      rw [this]
      exact cy (decide_eq_false hlt) (ao (ao (ao (ao (lU (decide_eq_true hgt) rfl)))))
theorem aoA{x y nx ny:Nat}(hx:x < W ^ nx)(hy:y < W ^ ny)(hn:ny≤nx)(hb:nx≤1000000){lx ly:List Int}(ex:∀ i,i < nx→lx.getD i 0=lm x i)(ey:∀ i,i < ny→ly.getD i 0=lm y i)(hlx:nx≤lx.length)(hly:ny≤ly.length) :
    eh (BO lx nx ly ny (nx+1)) (0,0,aC 0 (nx+1))=some (.inl (H4 x y nx / W ^ nx,aC (H4 x y nx % W ^ nx) (nx+1))):=by
  refine cD (fun j=>(j,H4 x y j / W ^ j,aC (H4 x y j % W ^ j) (nx+1))) nx (by simp [H4,Nat.mod_one]) (fun j hj=>?_) (bK (dr rfl))
  have hc:=Z1 (x:=x) (y:=y) (j:=j)
  have hS:=Nat.mod_lt (H4 x y j) (ia j)
  have hst:=amP x y j
  obtain ⟨d1,d2⟩:=QT (t:=x / W ^ j % W+y / W ^ j % W+H4 x y j / W ^ j) hS
  rw [← hst] at d1 d2
  have ij:=xR (n:=nx+1) hS (Nat.mod_lt (x / W ^ j % W+y / W ^ j % W+H4 x y j / W ^ j) (show W > 0 by decide)) (by omega)
  rw [← d2] at ij
  show aH (F4 _ _ _ _ _ _ _ _).run _=_
  refine ag (a:=(H4 x y (j+1) / W ^ (j+1),aC (H4 x y (j+1) % W ^ (j+1)) (nx+1))) ?_ (ao rfl)
  unfold F4
  rw [ex j hj,au]
  by_cases hyj:j < ny
  · rw [ey j hyj]
    refine cS (cS (ao (ao (ao (ao (ao (ao (ao ?_))))))))
    rw [K8,K8,ij,d1];rfl
  · have y0:y / W ^ j % W=0:=by
      rw [Nat.div_eq_of_lt (Nat.lt_of_lt_of_le hy (Nat.pow_le_pow_right (by decide) (by omega)))];rfl
    rw [y0] at ij d1
    refine cS (dr (ao (ao (ao (ao (ao ?_))))))
    rw [K8,ij,d1];rfl
theorem aoB{a b n m:Nat}(ha:a < W ^ n)(hb:b < W ^ m)(hn:n≤1000000)(hm:m≤1000000)(h1:nl a≤4096)(h2:nl b≤4096)(h3:nl (a+b)≤4096) :
    cu (aC a n) (aC b m)=some (.r0 0 (nl (a+b)) (max (nl a) (nl b)+1) 0 (aC (a+b) (max (nl a) (nl b)+1))):=by
  have la:=ju ha
  have lb:=ju hb
  refine aY (ag (a:=(0,aC a n,nl a,aC b m,nl b)) ?_ ?_)
  · unfold Lh
    rw [aq,aq,lR ha (by omega),lR hb (by omega)]
    simp only [c7,be,aO]
    exact aX (ae (aG (ae (dr (ae (aX (ae (aG (ae (dr (ae (aK rfl))))))))))))
  have xV:∀ {x y nx ny:Nat} {lx ly:List Int},x < W ^ nx→y < W ^ ny→ny≤nx→nx≤4096→(∀ i,i < nx→lx.getD i 0=lm x i)→(∀ i,i < ny→ly.getD i 0=lm y i)→nx≤lx.length→ny≤ly.length→nl (x+y)≤4096 →
      (aH ((F3 nx).run) fun (o10,l11)=>aH (eh (BO lx nx ly ny o10) (0,0,l11)) fun (a19,l20)=>aH ((F5 nx o10 a19 l20).run) fun (a21,a22,a23,a24,l25)=>(Lj a21 a22 a23 a24 l25).run)
        = some (.inr (.r0 0 (nl (x+y)) (nx+1) 0 (aC (x+y) (nx+1)))):=by
    intro x y nx ny lx ly hx hy hle hnx ex ey hlx hly h4
    refine ag (a:=(nx+1,aC 0 (nx+1))) ?_ (ag (aoA hx hy hle (by omega) ex ey hlx hly) (ag (a:=(0,nl (x+y),nx+1,0,aC (x+y) (nx+1))) ?_ rfl))
    · unfold F3
      rw [H3]
      exact ao (ao (ao (ao (ao rfl))))
    · have hyx:y < W ^ nx:=Nat.lt_of_lt_of_le hy (Nat.pow_le_pow_right (by decide) hle)
      have hs:H4 x y nx=x+y:=by unfold H4;rw [Nat.mod_eq_of_lt hx,Nat.mod_eq_of_lt hyx]
      have hc:=Z1 (x:=x) (y:=y) (j:=nx)
      have ij:=xR (u:=(x+y) % W ^ nx) (x:=(x+y) / W ^ nx) (j:=nx) (n:=nx+1) (Nat.mod_lt _ (ia _)) (by rw [hs] at hc;exact Nat.lt_of_le_of_lt hc (by decide)) (by omega)
      have hv:(x+y) % W ^ nx+(x+y) / W ^ nx * W ^ nx=x+y:=by rw [Nat.mul_comm];exact Nat.mod_add_div _ _
      rw [hv] at ij
      have hb2:x+y < W ^ (nx+1):=by
        rw [Nat.pow_succ]
        have h:=ia nx
        generalize W ^ nx=P at *
        have:(2:Nat) * P≤P * W:=by rw [Nat.mul_comm];exact Nat.mul_le_mul_left _ (by decide)
        omega
      unfold F5
      rw [hs,ij,afb hb2 (by omega),if_neg (by omega),au]
      exact ao (ao (aqE (aqF rfl) (ao4 (ae rfl))))
  by_cases hlt:nl a < nl b
  · refine ag (a:=(aC b m,nl b,aC a n,nl a)) (aK (cS rfl)) ?_
    have:=xV (x:=b) (y:=a) (nx:=nl b) (ny:=nl a) (lx:=aC b m) (ly:=aC a n) (cZ b) (cZ a) (by omega) h2 (fun i hi=>cN hb i) (fun i hi=>cN ha i) (by rw [au];exact lb) (by rw [au];exact la) (by rw [Nat.add_comm];exact h3)
    rw [Nat.add_comm b a] at this
    rw [show max (nl a) (nl b)=nl b by omega]
    exact this
  · refine ag (a:=(aC a n,nl a,aC b m,nl b)) (aK (dr rfl)) ?_
    have:=xV (x:=a) (y:=b) (nx:=nl a) (ny:=nl b) (lx:=aC a n) (ly:=aC b m) (cZ a) (cZ b) (by omega) h1 (fun i hi=>cN ha i) (fun i hi=>cN hb i) (by rw [au];exact la) (by rw [au];exact lb) h3
    rw [show max (nl a) (nl b)=nl a by omega]
    exact this
def ajl(a b n j:Nat) :List Int:=kq (fun i=>if i < j then lm (Ys a b j) i else lm a i) n
theorem amX{a b n j:Nat}(hj:j < n) :(ajl a b n j).set j (((a / W ^ j % W+W - b / W ^ j % W - Z2 a b j) % W:Nat):Int)=ajl a b n (j+1):=by
  unfold ajl
  rw [xc hj]
  refine dw fun i hi=>?_
  have hD:=(al4 (a:=a) (b:=b) (j:=j)).1
  have h:=QS hD (Nat.mod_lt (a / W ^ j % W+W - b / W ^ j % W - Z2 a b j) (show W > 0 by decide)) i
  rw [← (aiC a b j).2] at h
  by_cases e:i=j
  · subst e
    rw [if_pos rfl,if_pos (by omega),h,if_pos rfl]
  · rw [if_neg e] at h ⊢
    by_cases q:i < j
    · rw [if_pos q,if_pos (by omega),h]
    · rw [if_neg q,if_neg (by omega)]
theorem HW{a b n m:Nat}(ha:a < W ^ n)(hb:b < W ^ m)(hle:b≤a)(hmn:m≤n)(hn:n≤1000000) :qe (aC a n) (aC b m)=some (.r0 0 (nl (a - b)) n (aC (a - b) n)):=by
  have hbn:b < W ^ n:=Nat.lt_of_lt_of_le hb (Nat.pow_le_pow_right (by decide) hmn)
  refine aY (ag (a:=(n,aC a n)) ?_ (ag (a:=aC (a - b) n) ?_ (ag (a:=(0,nl (a - b),n,aC (a - b) n)) ?_ rfl)))
  · unfold Lk
    rw [aq,au]
    exact di (bo (Nat.le_refl _)) (ao rfl)
  · have e0:aC a n=ajl a b n 0:=dw fun i _=>by rw [if_neg (by omega)]
    have en:ajl a b n n=aC (a - b) n:=by
      refine dw fun i hi=>?_
      have hd:Ys a b n=a - b:=by
        unfold Ys Z2
        rw [Nat.mod_eq_of_lt ha,Nat.mod_eq_of_lt hbn,if_neg (by omega),Nat.zero_mul,Nat.add_zero]
      rw [if_pos hi,hd]
    have b0:Z2 a b 0=0:=by unfold Z2;rw [Nat.pow_zero,Nat.mod_one,Nat.mod_one];rfl
    show eh _ ((0:Int),0,aC a n)=_
    refine cD (fun j=>(((Z2 a b j:Nat):Int),j,ajl a b n j)) n (by rw [b0,← e0];rfl) (fun j hj=>?_) (bK (cy (by rw [au];simp) (by rw [en];rfl)))
    have hbr:Z2 a b j≤1:=by unfold Z2;split <;> omega
    have hl:(ajl a b n j).length=n:=fZ
    obtain ⟨s1,s2⟩:=aiC a b j
    have hst:=amX (a:=a) (b:=b) hj
    show aH (F6 _ _ _ _ _ _).run _=_
    refine ag (a:=(((Z2 a b (j+1):Nat):Int),ajl a b n (j+1))) ?_ (ao rfl)
    unfold F6
    rw [cN ha,au,au,hl,cH,K8]
    have blt:∀ p q:Nat,(bif Nat.blt p q then (1:Int) else 0)=(((if p < q then 1 else 0:Nat)):Int):=by
      intro p q
      by_cases h:p < q
      · rw [if_pos h,show Nat.blt p q=true by rw [Nat.blt_eq];exact h];rfl
      · rw [if_neg h]
        cases e:Nat.blt p q with
        | true=>rw [Nat.blt_eq] at e;exact absurd e h
        | false=>rfl
    by_cases hjm:j < m
    · rw [cN hb,K8,blt,← s1,hst]
      exact cS (cS (ao (ao (ao (ao (ao (ao (ao rfl))))))))
    · have y0:b / W ^ j % W=0:=by
        rw [Nat.div_eq_of_lt (Nat.lt_of_lt_of_le hb (Nat.pow_le_pow_right (by decide) (by omega)))];rfl
      rw [y0] at s1 hst
      refine cS (dr (ao (ao (ao (ao (ao ?_))))))
      rw [blt,← s1,hst];rfl
  · unfold Ln
    rw [ES (Nat.lt_of_le_of_lt (Nat.sub_le _ _) ha) (by omega)]
    exact ae rfl
theorem ajm{a b n m:Nat}(ha:a < W ^ n)(hb:b < W ^ m)(hn:n≤1000000)(hm:m≤1000000)(h1:nl a≤4096)(h2:nl b≤4096)(hle:b≤a) :
    ca (aC a n) (aC b m)=some (.r0 (aC (a - b) (nl a)) 0 (nl (a - b)) 0):=by
  have la:=ju ha
  have lb:=ju hb
  have hnn:nl b≤nl a:=ju (Nat.lt_of_le_of_lt hle (cZ a))
  refine aY (ag (a:=(0,aC a n,nl a,aC b m,nl b)) ?_ (ag (a:=false) ?_ (ag (a:=(aC (a - b) (nl a),0,nl (a - b))) ?_ rfl)))
  · unfold Q8
    rw [aq,aq,lR ha (by omega),lR hb (by omega)]
    simp only [c7,be,aO]
    exact aX (ae (aG (ae (dr (ae (aX (ae (aG (ae (dr (ae (aK rfl))))))))))))
  · unfold Q9
    rw [ch la,ch lb,ajk (by omega) (by omega)]
    refine aK (di (bo la) (di (bo lb) (ae ?_)))
    show some (Sum.inl _)=_
    congr 2
    show decide (rM a b < 0)=false
    unfold rM
    rw [if_neg (by omega)]
    split <;> rfl
  · unfold Ra
    rw [ch la,ch lb,HW (cZ a) (cZ b) hle hnn (by omega)]
    exact aK (di (bo la) (di (bo lb) (ae rfl)))
theorem ajn{a b n m:Nat}(ha:a < W ^ n)(hb:b < W ^ m)(hn:n≤1000000)(hm:m≤1000000)(h1:nl a≤4096)(h2:nl b≤4096) :
    ue (aC a n) (aC b m)=some (.r0 (rM a b) 0):=by
  have la:=ju ha
  have lb:=ju hb
  refine aY (ag (a:=(0,aC a n,nl a,aC b m,nl b)) ?_ (ag (a:=rM a b) ?_ rfl))
  · unfold Q4
    rw [aq,aq,lR ha (by omega),lR hb (by omega)]
    simp only [c7,be,aO]
    exact aX (ae (aG (ae (dr (ae (aX (ae (aG (ae (dr (ae (aK rfl))))))))))))
  · unfold Q5
    rw [ch la,ch lb,ajk (by omega) (by omega)]
    exact aK (di (bo la) (di (bo lb) (ae rfl)))
end Go.Plb.Seat
namespace Go.Plb.Seat
open Go Go.Plb
set_option linter.unusedSimpArgs false
set_option linter.unusedVariables false
theorem alj{x y:Nat}(hx:x < W)(hy:y < W) :ff (x:Int) (y:Int)=some (.r0 ((x * y / W:Nat):Int) ((x * y % W:Nat):Int)):=by
  obtain ⟨h1,h2,h3,h4,h5,h6,h7,h8,h9⟩:=akw hx hy
  have s:∀ z:Nat,Int.fdiv (z:Int) (2 ^ (min (Int.toNat (32:Int)) (IntKind.u64.bits)))=((z / 4294967296:Nat):Int):=fun z=>FU z (k:=32) (by decide)
  refine aY (ag (a:=(((x % 4294967296:Nat):Int),((x / 4294967296:Nat):Int),((y / 4294967296:Nat):Int),((x / 4294967296 * (y % 4294967296)+x % 4294967296 * (y % 4294967296) / 4294967296:Nat):Int))) ?_ ?_)
  · unfold wL
    rw [af6 hx,af6 hy,s,s,BH,BH,Nat.mod_eq_of_lt h2,Nat.mod_eq_of_lt h3,s,qa,Nat.mod_eq_of_lt h1]
    exact ae (ae (ae rfl))
  · show (qX _ _ _ _ _ _).run=_
    unfold qX
    rw [BH,BH,BH,af6 h1,s,qa,qa,Nat.mod_eq_of_lt h4,Nat.mod_eq_of_lt h5,Nat.mod_eq_of_lt h6,Nat.mod_eq_of_lt h7,s,qa,h8,Nat.mod_eq_of_lt h9]
    exact ae (ae rfl)
theorem aoC{O a m k n N:Nat}(hO:O < W ^ (k+n))(ha:a < W ^ n)(hm:m < W)(hN:k+n≤N)(hb:N≤1000000) :
    ug (aC O N) k (N - k) (aC a n) (m:Int)=some (.r0 (((O+a * m * W ^ k) / W ^ (k+n):Nat):Int) (aC ((O+a * m * W ^ k) % W ^ (k+n)) N)):=by
  refine aY (ag rfl (ag (a:=((((O+a * m * W ^ k) / W ^ (k+n):Nat):Int),aC ((O+a * m * W ^ k) % W ^ (k+n)) N)) ?_ rfl))
  have c0:xU O a m k 0 / W ^ (k+0)=0:=by
    have e:xU O a m k 0=O % W ^ k:=by unfold xU;rw [Nat.pow_zero,Nat.mod_one,Nat.zero_mul,Nat.zero_mul,Nat.add_zero,Nat.add_zero]
    rw [e,Nat.add_zero,Nat.div_eq_of_lt (Nat.mod_lt _ (ia _))]
  refine cD (fun i=>(((xU O a m k i / W ^ (k+i):Nat):Int),i,acG O a m k N i)) n (by rw [c0,amQ];rfl) (fun i hi=>?_) ?_
  · have hc:=akx (O:=O) (a:=a) (m:=m) (k:=k) (i:=i)
    have hcW:xU O a m k i / W ^ (k+i) < W:=Nat.lt_of_le_of_lt hc hm
    have hla:=Nat.mod_lt (a / W ^ i) (show W > 0 by decide)
    have hlO:=Nat.mod_lt (O / W ^ (k+i)) (show W > 0 by decide)
    have hl:=aod (O:=O) (a:=a) (m:=m) (k:=k) (n:=N) (i:=i)
    have hat:=ao7 (O:=O) (a:=a) (m:=m) (k:=k) (n:=N) (i:=i) (by omega)
    have hst:=amR (O:=O) (a:=a) (m:=m) (k:=k) (n:=N) (i:=i) (by omega)
    obtain ⟨w1,w2,w3,w4⟩:=aof hla hm hcW hlO
    have hS:=Nat.mod_lt (xU O a m k i) (ia (k+i))
    obtain ⟨d1,_⟩:=QT (t:=O / W ^ (k+i) % W+a / W ^ i % W * m+xU O a m k i / W ^ (k+i)) hS
    rw [← aeB] at d1
    show aH (xh _ _ _ _ _ _ _).run _=_
    refine ag (a:=(((xU O a m k (i+1) / W ^ (k+i+1):Nat):Int),acG O a m k N (i+1))) ?_ (ao rfl)
    unfold xh
    rw [cN ha,xT,alj hla hm]
    simp only [nI,pb,jb,p7]
    rw [hat,xT,au,hl]
    simp only [cH,Nat.add_zero]
    rw [qa,Nat.mod_eq_of_lt w2,qa,w1,w3,Nat.mod_eq_of_lt w4,hst,← d1]
    exact cS (ao (ao (ae (ae (ao (ao (ae (ao (ao rfl)))))))))
  · show aH (xh _ _ _ _ _ _ _).run _=_
    refine bK ?_
    unfold xh
    rw [aiF hO ha,aoe hO,aiF hO ha,au]
    exact cy (by simp) rfl
theorem ahi{a b n m:Nat}(ha:a < W ^ n)(hb:b < W ^ m) :a * b < W ^ (n+m):=by
  rw [Nat.pow_add]
  rcases Nat.eq_zero_or_pos b with h | h
  · rw [h,Nat.mul_zero];exact Nat.mul_pos (ia _) (ia _)
  · exact Nat.mul_lt_mul_of_lt_of_le ha (Nat.le_of_lt hb) (ia _) |> fun q=>q
theorem aoD{a b n m:Nat}(ha:a < W ^ n)(hb:b < W ^ m)(hn:n≤1000000)(hm:m≤1000000)(h1:nl a+nl b≤4096) :
    nA (aC a n) (aC b m)=some (.r0 0 (nl (a * b)) (nl a+nl b) 0 (aC (a * b) (nl a+nl b))):=by
  have la:=ju ha
  have lb:=ju hb
  have hA:=cZ a
  have hB:=cZ b
  have hab:=ahi hA hB
  have hnab:=ju hab
  refine aY (ag (a:=(0,aC a n,nl a,aC b m,nl b)) ?_ (ag (a:=false) (aK (ao (dr rfl))) (ag (a:=(nl a+nl b,aC 0 (nl a+nl b))) ?_ (ag (a:=aC (a * b) (nl a+nl b)) ?_ (ag (a:=(0,nl (a * b),nl a+nl b,0,aC (a * b) (nl a+nl b))) ?_ rfl)))))
  · unfold Lq
    rw [aq,aq,lR ha (by omega),lR hb (by omega)]
    simp only [c7,be,aO]
    exact aX (ae (aG (ae (dr (ae (aX (ae (aG (ae (dr (ae (aK rfl))))))))))))
  · unfold Lr
    rw [H3]
    exact aK (ao (ao (ao (ao (ao rfl)))))
  · refine cD (fun k=>(k,aC (a * (b % W ^ k)) (nl a+nl b))) (nl b) (by simp [Nat.mod_one]) (fun k hk=>?_) (bK (dr (by rw [Nat.mod_eq_of_lt hB];rfl)))
    have hO:a * (b % W ^ k) < W ^ (k+nl a):=by rw [Nat.add_comm];exact ahi hA (Nat.mod_lt _ (ia k))
    have hlb:=Nat.mod_lt (b / W ^ k) (show W > 0 by decide)
    have hs:=aoC (N:=nl a+nl b) hO hA hlb (by omega) (by omega)
    have e:a * (b % W ^ k)+a * (b / W ^ k % W) * W ^ k=a * (b % W ^ (k+1)):=by rw [xS,Nat.mul_add,Nat.mul_assoc]
    rw [e] at hs
    have hO1:a * (b % W ^ (k+1)) < W ^ (k+nl a+1):=by
      rw [show k+nl a+1=nl a+(k+1) by omega];exact ahi hA (Nat.mod_lt _ (ia (k+1)))
    have hcar:a * (b % W ^ (k+1)) / W ^ (k+nl a) < W:=by
      exact Nat.div_lt_of_lt_mul (by rw [← Nat.pow_succ];exact hO1)
    have ij:=xR (u:=a * (b % W ^ (k+1)) % W ^ (k+nl a)) (x:=a * (b % W ^ (k+1)) / W ^ (k+nl a)) (j:=k+nl a) (n:=nl a+nl b) (Nat.mod_lt _ (ia _)) hcar (by omega)
    have hv:a * (b % W ^ (k+1)) % W ^ (k+nl a)+a * (b % W ^ (k+1)) / W ^ (k+nl a) * W ^ (k+nl a)=a * (b % W ^ (k+1)):=by rw [Nat.mul_comm (a * (b % W ^ (k+1)) / W ^ (k+nl a))];exact Nat.mod_add_div _ _
    rw [hv] at ij
    show aH (F7 _ _ _ _ _ _ _).run _=_
    refine ag (a:=aC (a * (b % W ^ (k+1))) (nl a+nl b)) ?_ (ao rfl)
    unfold F7
    rw [ch la,cN hb,xT,hs]
    simp only [Ef,CY,x5]
    rw [ij,au,au]
    exact cS (ao (ao (ao (ao (ao (di (bo la) (ae (ao (ao rfl)))))))))
  · unfold Lu
    rw [afb hab (by omega),if_neg (by omega)]
    exact aqE (aqF rfl) (ao4 (ae rfl))
end Go.Plb.Seat
namespace Go.Plb.Seat
open Go Go.Plb
set_option linter.unusedSimpArgs false
set_option linter.unusedVariables false
theorem aqc:∀ z:Fin 64,List.getD bu (2 ^ z.val * 285870213051353865 % W / 2 ^ 58) 0=(z.val:Int)∧2 ^ z.val * 285870213051353865 % W / 2 ^ 58 < 64:=by decide +kernel
theorem apj:List.length bu=64:=by decide +kernel
theorem aqd{x:Nat}(h0:x ≠ 0)(h:x < W) :fv .and .u64 (x:Int) (IntKind.u64.wrap ((0:Int) - (x:Int)))=((2 ^ tz x:Nat):Int):=by
  rw [aoj h0 h,Sk,Nat.mod_eq_of_lt h,Nat.mod_eq_of_lt (Nat.sub_lt (by decide) (Nat.pos_of_ne_zero h0)),ao9 h0 h]
theorem apk(y:Nat) :Int.fdiv (IntKind.u64.wrap ((y:Int) * (285870213051353865:Int))) (2 ^ (min (Int.toNat (58:Int)) IntKind.u64.bits))=((y * 285870213051353865 % W / 2 ^ 58:Nat):Int):=by
  have e:(285870213051353865:Int)=((285870213051353865:Nat):Int):=by omega
  rw [e,BH]
  exact FU _ (k:=58) (by decide)
theorem aqe{z:Nat}(h:z < 64) :IntKind.i64.wrap ((z:Nat):Int)=((z:Nat):Int):=by
  have:∀ z:Fin 64,IntKind.i64.wrap ((z.val:Nat):Int)=((z.val:Nat):Int):=by decide
  exact this ⟨z,h⟩
theorem aqf{x:Nat}(h0:x ≠ 0)(h:x < W) :∃ y:Nat,Int.fdiv (IntKind.u64.wrap ((fv .and .u64 (x:Int) (IntKind.u64.wrap ((0:Int) - (x:Int)))) * (285870213051353865:Int))) (2 ^ (min (Int.toNat (58:Int)) IntKind.u64.bits))=(y:Int)∧List.getD bu y 0=((tz x:Nat):Int)∧y < 64:=by
  have hz:=aeC (n:=64) h0 h
  obtain ⟨t1,t2⟩:=aqc ⟨tz x,hz⟩
  exact ⟨_,by rw [aqd h0 h,apk],t1,t2⟩
theorem MA{x:Nat}(h0:x ≠ 0)(h:x < W) :dM (x:Int)=some (.r0 ((tz x:Nat):Int)):=by
  have hz:=aeC (n:=64) h0 h
  obtain ⟨y,e,t1,t2⟩:=aqf h0 h
  refine aY ?_
  unfold lZ
  have ix:lL (lL 0 (Zh (Int.toNat (y:Int)) 1)) 0=y:=by simp only [p7,Is,Nat.zero_add,Nat.mul_one,Nat.add_zero,cH]
  rw [e,ix,t1,apj,aqe hz]
  refine cy (by rw [beq_eq_false_iff_ne];omega) (di (by decide) (di ?_ (di ?_ rfl)))
  · rw [CM];omega
  · rw [p8];exact t2
theorem aoE{v:Nat}(h:v ≠ 0) :∃ i,i < nl v∧v % W ^ i=0∧v / W ^ i % W ≠ 0∧tz v=64 * i+tz (v / W ^ i % W):=by
  obtain ⟨h1,h2⟩:=FV v h
  have e:2 ^ tz v=2 ^ (tz v % 64) * W ^ (tz v / 64):=La _
  have h3:v % W ^ (tz v / 64)=0:=by
    have d:W ^ (tz v / 64) ∣ v:=Nat.dvd_trans ⟨2 ^ (tz v % 64),by rw [Nat.mul_comm];exact e⟩ (Nat.dvd_of_mod_eq_zero h1)
    exact Nat.mod_eq_zero_of_dvd d
  have hb:v=v / W ^ (tz v / 64) * W ^ (tz v / 64):=(Nat.div_mul_cancel (Nat.dvd_of_mod_eq_zero h3)).symm
  have h5:v / W ^ (tz v / 64) ≠ 0:=by intro q;rw [q,Nat.zero_mul] at hb;exact h hb
  have key:tz (v / W ^ (tz v / 64))=tz v % 64:=by
    have q:=aky h5 (64 * (tz v / 64))
    have w:2 ^ (64 * (tz v / 64))=W ^ (tz v / 64):=by rw [Nat.pow_mul]
    rw [w,← hb] at q
    omega
  obtain ⟨k1,k2⟩:=FV _ h5
  rw [key] at k1 k2
  have hr:tz v % 64 < 64:=Nat.mod_lt _ (by decide)
  have e64:W=2 ^ (tz v % 64) * 2 ^ (64 - tz v % 64):=by rw [← Nat.pow_add];show 2 ^ 64=_;congr 1;omega
  have l1:(v / W ^ (tz v / 64) % W) % 2 ^ (tz v % 64)=0:=by
    revert k1;generalize v / W ^ (tz v / 64)=y;intro k1;rw [e64,Nat.mod_mul_right_mod];exact k1
  have l2:(v / W ^ (tz v / 64) % W) / 2 ^ (tz v % 64) % 2=1:=by
    have a:2 ^ (64 - tz v % 64)=2 * 2 ^ (63 - tz v % 64):=by rw [show 64 - tz v % 64=(63 - tz v % 64)+1 by omega,Nat.pow_succ,Nat.mul_comm]
    revert k2;generalize v / W ^ (tz v / 64)=y;intro k2;rw [e64,Nat.mod_mul_right_div_self,a,Nat.mod_mul_right_mod];exact k2
  have l3:v / W ^ (tz v / 64) % W ≠ 0:=by intro q;rw [q,Nat.zero_div] at l2;exact absurd l2 (by decide)
  refine ⟨tz v / 64,?_,h3,l3,?_⟩
  · rcases Nat.lt_or_ge (tz v / 64) (nl v) with q | q
    · exact q
    · exfalso;apply l3
      rw [Nat.div_eq_of_lt (Nat.lt_of_lt_of_le (cZ v) (Nat.pow_le_pow_right (by decide) q)),Nat.zero_mod]
  · rw [NG l1 l2];omega
theorem alk{v n:Nat}(hv:v < W ^ n)(h0:v ≠ 0)(hn:nl v≤4096)(hn2:n≤1000000) :tc (aC v n)=some (.r0 ((tz v:Nat):Int) 0):=by
  have hl:=ju hv
  have hp:=B4 h0
  obtain ⟨i,h1,h2,h3,h4⟩:=aoE h0
  have hW:v / W ^ i % W < W:=Nat.mod_lt _ (by decide)
  have hz:=aeC (n:=64) h3 hW
  refine aY (ag (a:=(0,aC v n,nl v)) ?_ (ag (a:=false) (aK (by show some _=_;congr 2;rw [beq_eq_false_iff_ne];omega)) (ag (a:=()) (aK rfl) (ag (a:=i) (cD (fun j=>j) i rfl (fun j hj=>?_) ?_) (ag (a:=((tz v:Nat):Int)) ?_ rfl)))))
  · unfold GO
    rw [aq,lR hv (by omega)]
    simp only [c7,be,aO]
    exact aX (ae (aG (ae (dr (ae (aK rfl))))))
  · have z:lm v j=0:=by
      unfold lm
      obtain ⟨d,rfl⟩:∃ d,i=j+1+d:=⟨i - j - 1,by omega⟩
      have dv:W ^ (j+1+d) ∣ v:=Nat.dvd_of_mod_eq_zero h2
      obtain ⟨c,hc⟩:=dv
      have:v=(W ^ d * c * W) * W ^ j:=by
        rw [hc,Nat.pow_add,Nat.pow_succ];simp only [Nat.mul_assoc,Nat.mul_comm,Nat.mul_left_comm]
      rw [this,Nat.mul_div_cancel _ (ia j),Nat.mul_mod_left];rfl
    show (sd _ _ _).run=_
    unfold sd
    rw [cN hv,z,au]
    exact ao (ao (aX (ao rfl)))
  · show (sd _ _ _).run=_
    unfold sd
    rw [cN hv,xT,au]
    refine ao (ao (cy (by rw [beq_eq_false_iff_ne];omega) rfl))
  · unfold GR
    rw [cN hv,xT,au,MA h3 hW]
    simp only [fw,e8]
    have e:(((64 * i:Nat):Int)+((tz (v / W ^ i % W):Nat):Int))=((tz v:Nat):Int):=by rw [h4,Int.natCast_add]
    rw [e]
    exact ao (ao (ao (ae (di (by rw [dh];omega) rfl))))
theorem VK(k:Nat) :Int.tdiv (k:Int) (64:Int)=((k / 64:Nat):Int):=rfl
theorem VL(k:Nat) :IntKind.u64.wrap (Int.tmod (k:Int) (64:Int))=((k % 64:Nat):Int):=by
  rw [show Int.tmod (k:Int) (64:Int)=((k % 64:Nat):Int) from rfl,kt (Nat.lt_trans (Nat.mod_lt k (by decide:64 > 0)) (by decide))]
theorem aoF{v n k:Nat}(hv:v < W ^ n)(h0:n ≠ 0)(hn:n≤1000000)(hk:k≤1000000) :
    e9 (aC v n) (k:Int)=some (.r0 0 (nl (v * 2 ^ k)) (n+k / 64+1) (aC (v * 2 ^ k) (n+k / 64+1))):=by
  have hr:k % 64 < 64:=Nat.mod_lt _ (by decide)
  have hq:k / 64≤1000000:=by omega
  have hsh:=aom (k:=k) hv
  refine aY (ag (a:=(((k / 64:Nat):Int),((k % 64:Nat):Int),n+k / 64+1,aC 0 (n+k / 64+1))) ?_ (ag (a:=aC (v * 2 ^ k) (n+k / 64+1)) (cD (fun i=>(i,aC (v % W ^ i * 2 ^ (k % 64) * W ^ (k / 64)) (n+k / 64+1))) n (by simp [Nat.mod_one]) (fun i hi=>?_) ?_) (ag (a:=(0,nl (v * 2 ^ k),n+k / 64+1,aC (v * 2 ^ k) (n+k / 64+1))) ?_ rfl)))
  · unfold Lw
    rw [au,VK,VL]
    have e:(((n:Nat):Int)+((k / 64:Nat):Int))+(1:Int)=((n+k / 64+1:Nat):Int):=by omega
    rw [e,cH,H3]
    exact dr (ao (ao (ae (ao (ao (ao (ao (ao (ao rfl)))))))))
  · show aH (BQ _ _ _ _ _ _).run _=_
    refine ag (a:=aC (v % W ^ (i+1) * 2 ^ (k % 64) * W ^ (k / 64)) (n+k / 64+1)) ?_ (ao rfl)
    unfold BQ
    have e1:Int.toNat (((i:Nat):Int)+((k / 64:Nat):Int))=i+k / 64:=rfl
    have e2:Int.toNat ((((i:Nat):Int)+((k / 64:Nat):Int))+(1:Int))=i+k / 64+1:=rfl
    rw [e1,e2,cN hv,xT,Sl _ (by omega),Z3 hr,show (1:Int)=((1:Nat):Int) from rfl,FU _ (by decide),FU _ (by omega),Nat.pow_one,aok hr (by omega),au]
    simp only [List.length_set,au]
    exact cS (ao (ao (ao (ao (ao (ao (ao (ao (ao (ao (ao (ao (ao (ao (ao (ao rfl))))))))))))))))
  · show aH (BQ _ _ _ _ _ _).run _=_
    refine bK (cy (by rw [au];exact (by simp only [dh,CM,D2,p8,qT,im,qU,qV,decide_eq_true_eq,decide_eq_false_iff_not,beq_iff_eq,beq_eq_false_iff_ne,bne_iff_ne,bne_eq_false_iff_eq,Bool.not_eq_true',Bool.not_eq_false',List.length_set,ne_eq,ge_iff_le,gt_iff_lt,ma,cH,zr];omega)) ?_)
    rw [Nat.mod_eq_of_lt hv,Nat.mul_assoc,← La];rfl
  · unfold Lz
    rw [ES hsh (by omega)]
    exact ae rfl
theorem alm{v n:Nat}(h:v < W ^ n)(hn:n≤100000000)(hb:nl v≤4096) :jw (aC v n)=some (.r0 (aC v n) (nl v) 0):=by
  refine aY (ag (a:=(aC v n,nl v)) ?_ (dr rfl))
  unfold Ek
  rw [aq,lR h (by omega)]
  exact aG (ae rfl)
theorem aoG{v n k:Nat}(hv:v < W ^ n)(h0:v ≠ 0)(hn:n≤1000000)(hk:k < 262144)(hl:nl v≤4096)(hb:nl (v * 2 ^ k)≤4096) :
    ik (aC v n) (k:Int)=some (.r0 (aC (v * 2 ^ k) (nl (v * 2 ^ k))) (nl (v * 2 ^ k)) 0):=by
  have hp:=B4 h0
  have hln:=ju hv
  refine aY (ag (a:=(0,aC v n,nl v)) ?_ (ag (a:=()) ?_ (ag (a:=(aC (v * 2 ^ k) (nl (v * 2 ^ k)),nl (v * 2 ^ k),0)) ?_ rfl)))
  · unfold Rc
    rw [aq,lR hv (by omega)]
    simp only [c7,be,aO]
    exact aX (ae (aG (ae (dr (ae (aK rfl))))))
  · exact aK (dr (cS (dr rfl)))
  · have hsl:=aom (k:=k) (cZ v)
    have hls:=ju hsl
    show (I3 _ _ _).run=_
    unfold I3
    rw [ch hln,aoF (cZ v) (by omega) (by omega) (by omega)]
    simp only [Ej,pd,pe,pf]
    rw [ch hls,alm (cZ _) (by omega) hb]
    exact di (bo hln) (ae (di (bo hls) (ae rfl)))
theorem aoH{v n k:Nat}(hv:v < W ^ n)(hn:n≤1000000)(hk:k≤100000000) :
    ∃ b N,nC (aC v n) (k:Int)=some (.r0 0 (nl (v / 2 ^ k)) N b (aC (v / 2 ^ k) N))∧nl (v / 2 ^ k)≤N∧N≤n:=by
  have hr:k % 64 < 64:=Nat.mod_lt _ (by decide)
  have hq:k / 64≤10000000:=by omega
  rcases Nat.lt_or_ge (k / 64) n with hlt | hge
  · have hs:=ap5 (k:=k) hv (Nat.le_of_lt hlt)
    have hls:=ju hs
    let f0:=((fv .and .u64 (List.getD (aC v n) (Int.toNat (Int.tdiv (k:Int) (64:Int))) 0) (IntKind.u64.wrap ((IntKind.u64.wrap ((1:Int) * 2 ^ (min (Int.toNat (IntKind.u64.wrap (Int.tmod (k:Int) (64:Int)))) (IntKind.u64.bits)))) - (1:Int)))) != (0:Int))
    let f:Nat→Bool:=fun j=>Nat.rec (motive:=fun _=>Bool) f0 (fun j b=>b || (lm v j != (0:Int))) j
    refine ⟨f (k / 64),n - k / 64,aY (ag (a:=(((k / 64:Nat):Int),((k % 64:Nat):Int),f0,k / 64,k / 64)) ?_ (ag (a:=f (k / 64)) (cD (fun j=>(f j,j)) (k / 64) rfl (fun j hj=>?_) ?_) (ag (a:=(n - k / 64,n - k / 64,List.replicate (n - k / 64) (0:Int))) ?_ (ag (a:=aC (v / 2 ^ k) (n - k / 64)) (cD (fun i=>(i,kq (fun j=>if j < i then lm (v / 2 ^ k) j else 0) (n - k / 64))) (n - k / 64) (by simp only [vX];congr 1) (fun i hi=>?_) ?_) (ag (a:=(0,nl (v / 2 ^ k),n - k / 64,aC (v / 2 ^ k) (n - k / 64))) ?_ rfl))))),hls,Nat.sub_le _ _⟩
    · unfold F8
      have e:=VK k
      refine ae (di (by rw [e];exact (by simp only [dh,CM,D2,p8,qT,im,qU,qV,decide_eq_true_eq,decide_eq_false_iff_not,beq_iff_eq,beq_eq_false_iff_ne,bne_iff_ne,bne_eq_false_iff_eq,Bool.not_eq_true',Bool.not_eq_false',List.length_set,ne_eq,ge_iff_le,gt_iff_lt,ma,cH,zr];omega)) (ae (cy (by rw [e,au];exact (by simp only [dh,CM,D2,p8,qT,im,qU,qV,decide_eq_true_eq,decide_eq_false_iff_not,beq_iff_eq,beq_eq_false_iff_ne,bne_iff_ne,bne_eq_false_iff_eq,Bool.not_eq_true',Bool.not_eq_false',List.length_set,ne_eq,ge_iff_le,gt_iff_lt,ma,cH,zr];omega)) (di (by rw [e,au];exact (by simp only [dh,CM,D2,p8,qT,im,qU,qV,decide_eq_true_eq,decide_eq_false_iff_not,beq_iff_eq,beq_eq_false_iff_ne,bne_iff_ne,bne_eq_false_iff_eq,Bool.not_eq_true',Bool.not_eq_false',List.length_set,ne_eq,ge_iff_le,gt_iff_lt,ma,cH,zr];omega)) (di (by rw [e,au];exact (by simp only [dh,CM,D2,p8,qT,im,qU,qV,decide_eq_true_eq,decide_eq_false_iff_not,beq_iff_eq,beq_eq_false_iff_ne,bne_iff_ne,bne_eq_false_iff_eq,Bool.not_eq_true',Bool.not_eq_false',List.length_set,ne_eq,ge_iff_le,gt_iff_lt,ma,cH,zr];omega)) (di (by rw [VL];exact (by simp only [dh,CM,D2,p8,qT,im,qU,qV,decide_eq_true_eq,decide_eq_false_iff_not,beq_iff_eq,beq_eq_false_iff_ne,bne_iff_ne,bne_eq_false_iff_eq,Bool.not_eq_true',Bool.not_eq_false',List.length_set,ne_eq,ge_iff_le,gt_iff_lt,ma,cH,zr];omega)) (di (by rw [e,au];exact (by simp only [dh,CM,D2,p8,qT,im,qU,qV,decide_eq_true_eq,decide_eq_false_iff_not,beq_iff_eq,beq_eq_false_iff_ne,bne_iff_ne,bne_eq_false_iff_eq,Bool.not_eq_true',Bool.not_eq_false',List.length_set,ne_eq,ge_iff_le,gt_iff_lt,ma,cH,zr];omega)) (di (by rw [e];exact (by simp only [dh,CM,D2,p8,qT,im,qU,qV,decide_eq_true_eq,decide_eq_false_iff_not,beq_iff_eq,beq_eq_false_iff_ne,bne_iff_ne,bne_eq_false_iff_eq,Bool.not_eq_true',Bool.not_eq_false',List.length_set,ne_eq,ge_iff_le,gt_iff_lt,ma,cH,zr];omega)) ?_))))))))
      show some (Sum.inl (_,IntKind.u64.wrap _,f0,_,_))=_
      rw [VL];rfl
    · show aH (BS _ _ _ _ _).run _=_
      refine ag (a:=f (j+1)) ?_ (ao rfl)
      unfold BS
      rw [cN hv,au]
      refine cS (ao (ao ?_))
      have hf:f (j+1)=(f j || (lm v j != (0:Int))):=rfl
      rw [hf]
      cases f j
      · exact aK rfl
      · exact aX rfl
    · show aH (BS _ _ _ _ _).run _=_
      exact bK (dr rfl)
    · show (F9 _ _).run=_
      unfold F9
      have e:((n:Nat):Int) - ((k / 64:Nat):Int)=((n - k / 64:Nat):Int):=by omega
      rw [au,e]
      exact ao (ao (ao (ao (ao rfl))))
    · show aH (BU _ _ _ _ _ _ _).run _=_
      refine ag (a:=kq (fun j=>if j < i+1 then lm (v / 2 ^ k) j else 0) (n - k / 64)) ?_ (ao rfl)
      have e1:Int.toNat (((i:Nat):Int)+((k / 64:Nat):Int))=i+k / 64:=rfl
      have e2:Int.toNat ((((i:Nat):Int)+((k / 64:Nat):Int))+(1:Int))=i+k / 64+1:=rfl
      obtain ⟨w1,w2⟩:=aoi (V:=v / W ^ (i+k / 64)) hr
      have hV:v / W ^ (i+k / 64) / W=v / W ^ (i+k / 64+1):=by rw [Nat.pow_succ,Nat.div_div_eq_div_mul]
      have xV:∀ x:Int,x=lm (v / 2 ^ k) i→(kq (fun j=>if j < i then lm (v / 2 ^ k) j else 0) (n - k / 64)).set i x=kq (fun j=>if j < i+1 then lm (v / 2 ^ k) j else 0) (n - k / 64):=by
        intro x hx
        rw [xc hi]
        refine dw fun j hj=>?_
        by_cases e:j=i
        · subst e;rw [if_pos rfl,if_pos (Nat.lt_succ_self _),hx]
        · rw [if_neg e]
          by_cases e':j < i
          · rw [if_pos e',if_pos (by omega)]
          · rw [if_neg e',if_neg (by omega)]
      unfold BU
      rw [e1,e2,cN hv,cN hv,xT,xT,FU _ (by omega),Z3 hr,show (1:Int)=((1:Nat):Int) from rfl,Sl _ (by decide),Sl _ (by omega),Nat.pow_one]
      simp only [List.length_set,au,fZ,List.set_set]
      by_cases hlast:i+k / 64+1 < n
      · refine cS (ao (ao (ao (ao (ao (ao (ao (ao (cS (ao (ao (ao (ao (ao (ao (ae (ao (ao (ao ?_)))))))))))))))))))
        show some (Sum.inl _)=_
        congr 2
        refine xV _ ?_
        rw [List.getD_eq_getElem?_getD,List.getElem?_set_self (by rw [fZ];exact hi)]
        show fv .or .u64 _ _=_
        have m1:v / W ^ (i+k / 64) % W / 2 ^ (k % 64) % W=v / W ^ (i+k / 64) % W / 2 ^ (k % 64):=Nat.mod_eq_of_lt (Nat.lt_of_le_of_lt (Nat.div_le_self _ _) (Nat.mod_lt _ (by decide)))
        show fv .or .u64 ((v / W ^ (i+k / 64) % W / 2 ^ (k % 64):Nat):Int) _=_
        rw [af5,m1,Nat.mod_mod,← hV,w2,← w1,aol]
      · refine cS (ao (ao (ao (ao (ao (ao (ao (ao (dr ?_)))))))))
        show some (Sum.inl _)=_
        congr 2
        refine xV _ ?_
        have z:v / W ^ (i+k / 64) / W=0:=by
          rw [hV];exact Nat.div_eq_of_lt (Nat.lt_of_lt_of_le hv (Nat.pow_le_pow_right (by decide) (by omega)))
        rw [z] at w1
        rw [aol,w1]
        simp
    · show aH (BU _ _ _ _ _ _ _).run _=_
      refine bK (dr ?_)
      show some (Sum.inr (Sum.inl _))=_
      congr 3
      exact dw fun j hj=>if_pos hj
    · unfold LH
      rw [ES hs (by omega)]
      exact ae rfl
  · have hz:=aiH hv hge
    refine ⟨decide (((n:Nat):Int) > (0:Int)),0,?_,by rw [hz,fE];exact Nat.le_refl 0,Nat.zero_le _⟩
    refine aY (bK ?_)
    unfold F8
    rw [VK,au,hz,fE]
    exact ae (ao (ae (cS rfl)))
theorem aoI{v n k:Nat}(hv:v < W ^ n)(hn:n≤1000000)(hl:nl v≤4096)(hk:k≤100000000) :
    ∃ b N,ol (aC v n) (k:Int)=some (.r0 (aC (v / 2 ^ k) N) 0 (nl (v / 2 ^ k)) b 0)∧nl (v / 2 ^ k)≤N∧N≤4096:=by
  have hln:=ju hv
  obtain ⟨b,N,h1,h2,h3⟩:=aoH (k:=k) (cZ v) (by omega) hk
  refine ⟨b,N,aY (ag (a:=(0,aC v n,nl v)) ?_ (ag (a:=false) ?_ (ag (a:=(aC (v / 2 ^ k) N,0,nl (v / 2 ^ k),b)) ?_ rfl))),h2,by omega⟩
  · unfold Re
    rw [aq,lR hv (by omega)]
    simp only [c7,be,aO]
    exact aX (ae (aG (ae (dr (ae (aK rfl))))))
  · refine aK ?_
    show some (Sum.inl (decide (((k:Nat):Int) < 0)))=_
    rw [decide_eq_false (by omega)]
  · show (Ja _ _ _ _).run=_
    unfold Ja
    rw [ch hln,h1]
    exact aK (di (bo hln) (ae rfl))
end Go.Plb.Seat
namespace Go.Plb.Seat
open Go Go.Plb
set_option linter.unusedVariables false
set_option maxRecDepth 100000
noncomputable section
inductive fM where
  | r0 (a:Nat) (b:Bool) (c:List Int) (d:Nat) (e:Nat) (f:Int)
def tI:fM→AE×aM
  | .r0 a b c d e f=>(.ret,⟨an 51 [(4,.ptr 0 1 0 0),(5,.int .i64 ((a:Nat):Int))],[(0,.vs [.bool false b,.imm .free (.ns .u64 c) 1 1 d e,.int .i64 f])],1⟩)
theorem xr:l9 tI:=by intro x;cases x <;> (intro h;cases h)
theorem ajo(id:Nat) :rL id tI:=by intro x;cases x <;> (intro h;cases h)
def Rr:fM→jv
  | .r0 a b c d e f=>⟨.tup [.agg [.bool false b,.imm .free (.ns .u64 c) 1 1 d e,.int .i64 f],.int .i64 ((a:Nat):Int)],[]⟩
def Dv:List Code:=bS (bB qL)
def XU(c:Lv)(a:Nat)(d:List Bool)(e:List (List Int))(f:List Int)(g:Lv)(b:Nat)(h:List Bool)(i:List (List Int))(j:List Int)(k:Bool) :aM:=⟨an 51 [(0,.imm c (.cols a [.cb d,.cns .u64 e,.ci .i64 f]) 3 3 0 a),(1,.imm g (.cols b [.cb h,.cns .u64 i,.ci .i64 j]) 3 3 0 b),(4,.ptr 0 1 0 0)],[(0,.vs [.bool false k,.nsl,.int .i64 (0:Int)])],1⟩
def Uc:T ((Bool)⊕(fM)) :=
  .leaf (.inl false)
def yD:List Code:=bS (NF (((Dv.drop 1)).headD .skip))
def XV(c:Lv)(a:Nat)(d:List Bool)(e:List (List Int))(f:List Int)(g:Lv)(b:Nat)(h:List Bool)(i:List (List Int))(j:List Int)(k:Bool)(l:Bool) :aM:=⟨an 51 [(0,.imm c (.cols a [.cb d,.cns .u64 e,.ci .i64 f]) 3 3 0 a),(1,.imm g (.cols b [.cb h,.cns .u64 i,.ci .i64 j]) 3 3 0 b),(4,.ptr 0 1 0 0),(6,.ptr 1 1 0 0),(7,.int .i64 (0:Int)),(18,.int .i64 ((a:Nat):Int)),(19,.int .i64 (0:Int))],[(0,.vs [.bool false k,.nsl,.int .i64 (0:Int)]),(1,.vs [.bool false l,.nsl,.int .i64 (0:Int)])],2⟩
def Ud(a:Nat)(b:Nat) :T ((Bool)⊕(fM)) :=
  .ask (((a:Nat):Int) != ((b:Nat):Int))
    (.leaf (.inr (.r0 2 false ([]:List Int) 0 0 (0:Int))))
    (.leaf (.inl false))
def xt(c:Lv)(a:Nat)(d:List Bool)(e:List (List Int))(f:List Int)(g:Lv)(b:Nat)(h:List Bool)(i:List (List Int))(j:List Int)(k:Bool) :Nat×Nat×Bool×(List Int)×Nat×Nat×Int→aM:=fun (l,m,n,o,p,q,r)=>⟨an 51 [(0,.imm c (.cols a [.cb d,.cns .u64 e,.ci .i64 f]) 3 3 0 a),(1,.imm g (.cols b [.cb h,.cns .u64 i,.ci .i64 j]) 3 3 0 b),(4,.ptr 0 1 0 0),(6,.ptr 1 1 0 0),(7,.int .i64 ((l:Nat):Int)),(18,.int .i64 ((a:Nat):Int)),(19,.int .i64 ((m:Nat):Int))],[(0,.vs [.bool false k,.nsl,.int .i64 (0:Int)]),(1,.vs [.bool false n,.imm .free (.ns .u64 o) 1 1 p q,.int .i64 r])],2⟩
def yE(a:Bool) :Nat×Bool×(List Int)×Nat×Nat×Int→aM:=fun (b,c,d,e,f,g)=>⟨an 51 [(4,.ptr 0 1 0 0),(6,.ptr 1 1 0 0),(7,.int .i64 ((b:Nat):Int))],[(0,.vs [.bool false a,.nsl,.int .i64 (0:Int)]),(1,.vs [.bool false c,.imm .free (.ns .u64 d) 1 1 e f,.int .i64 g])],2⟩
def JP:List Code:=bS (bW ((((yD.drop 5).take 1)).headD .skip))
def Ue(c:Lv)(a:Nat)(d:List Bool)(e:List (List Int))(f:List Int)(g:Lv)(b:Nat)(h:List Bool)(i:List (List Int))(j:List Int)(k:Bool)(l:Nat) :Nat×Bool×(List Int)×Nat×Nat×Int→aM:=fun (m,n,o,p,q,r)=>⟨an 51 [(0,.imm c (.cols a [.cb d,.cns .u64 e,.ci .i64 f]) 3 3 0 a),(1,.imm g (.cols b [.cb h,.cns .u64 i,.ci .i64 j]) 3 3 0 b),(4,.ptr 0 1 0 0),(6,.ptr 1 1 0 0),(7,.int .i64 ((m:Nat):Int)),(18,.int .i64 ((a:Nat):Int)),(19,.int .i64 ((l:Nat):Int))],[(0,.vs [.bool false k,.nsl,.int .i64 (0:Int)]),(1,.vs [.bool false n,.imm .free (.ns .u64 o) 1 1 p q,.int .i64 r])],2⟩
def Dw(m:Nat)(d:List Bool)(b:List (List Int))(e:List Int)(n:Nat)(f:List Bool)(c:List (List Int))(g:List Int)(o:Nat)(a:Nat)(k:Bool)(h:List Int)(i:Nat)(j:Nat)(l:Int) :T ((Nat×Bool×(List Int)×Nat×Nat×Int)⊕((Nat×Bool×(List Int)×Nat×Nat×Int)⊕(fM))) :=
  .ask (decide (((a:Nat):Int) < ((m:Nat):Int)))
    (.need (iC ((a:Nat):Int) m)<|.need (jt a (List.length d))<|.need (jt a (List.length b))<|.need (jt a (List.length e))<|.need (iC ((a:Nat):Int) n)<|.need (jt a (List.length f))<|.need (jt a (List.length c))<|.need (jt a (List.length g))<|.need (aR 0 (List.length (List.getD b a [])) (List.getD b a []))<|.need (aR 0 (List.length (List.getD c a [])) (List.getD c a []))<|.need (qE (ay (List.getD d a false) (aa 0 (List.length (List.getD b a [])) (List.getD b a [])) (List.getD e a 0) (List.getD f a false) (aa 0 (List.length (List.getD c a [])) (List.getD c a [])) (List.getD g a 0)))<|.ask ((((mW (ay (List.getD d a false) (aa 0 (List.length (List.getD b a [])) (List.getD b a [])) (List.getD e a 0) (List.getD f a false) (aa 0 (List.length (List.getD c a [])) (List.getD c a [])) (List.getD g a 0))):Nat):Int) != (0:Int))
      (.leaf (.inr (.inl ((mW (ay (List.getD d a false) (aa 0 (List.length (List.getD b a [])) (List.getD b a [])) (List.getD e a 0) (List.getD f a false) (aa 0 (List.length (List.getD c a [])) (List.getD c a [])) (List.getD g a 0))),k,h,i,j,l))))
      (.need (aR i j h)<|.need (aR (cU (ay (List.getD d a false) (aa 0 (List.length (List.getD b a [])) (List.getD b a [])) (List.getD e a 0) (List.getD f a false) (aa 0 (List.length (List.getD c a [])) (List.getD c a [])) (List.getD g a 0))) (cV (ay (List.getD d a false) (aa 0 (List.length (List.getD b a [])) (List.getD b a [])) (List.getD e a 0) (List.getD f a false) (aa 0 (List.length (List.getD c a [])) (List.getD c a [])) (List.getD g a 0))) (cT (ay (List.getD d a false) (aa 0 (List.length (List.getD b a [])) (List.getD b a [])) (List.getD e a 0) (List.getD f a false) (aa 0 (List.length (List.getD c a [])) (List.getD c a [])) (List.getD g a 0))))<|.need (BW (cI k (aa i j h) l (da (ay (List.getD d a false) (aa 0 (List.length (List.getD b a [])) (List.getD b a [])) (List.getD e a 0) (List.getD f a false) (aa 0 (List.length (List.getD c a [])) (List.getD c a [])) (List.getD g a 0))) (aa (cU (ay (List.getD d a false) (aa 0 (List.length (List.getD b a [])) (List.getD b a [])) (List.getD e a 0) (List.getD f a false) (aa 0 (List.length (List.getD c a [])) (List.getD c a [])) (List.getD g a 0))) (cV (ay (List.getD d a false) (aa 0 (List.length (List.getD b a [])) (List.getD b a [])) (List.getD e a 0) (List.getD f a false) (aa 0 (List.length (List.getD c a [])) (List.getD c a [])) (List.getD g a 0))) (cT (ay (List.getD d a false) (aa 0 (List.length (List.getD b a [])) (List.getD b a [])) (List.getD e a 0) (List.getD f a false) (aa 0 (List.length (List.getD c a [])) (List.getD c a [])) (List.getD g a 0)))) (db (ay (List.getD d a false) (aa 0 (List.length (List.getD b a [])) (List.getD b a [])) (List.getD e a 0) (List.getD f a false) (aa 0 (List.length (List.getD c a [])) (List.getD c a [])) (List.getD g a 0)))))<|.ask ((((sh (cI k (aa i j h) l (da (ay (List.getD d a false) (aa 0 (List.length (List.getD b a [])) (List.getD b a [])) (List.getD e a 0) (List.getD f a false) (aa 0 (List.length (List.getD c a [])) (List.getD c a [])) (List.getD g a 0))) (aa (cU (ay (List.getD d a false) (aa 0 (List.length (List.getD b a [])) (List.getD b a [])) (List.getD e a 0) (List.getD f a false) (aa 0 (List.length (List.getD c a [])) (List.getD c a [])) (List.getD g a 0))) (cV (ay (List.getD d a false) (aa 0 (List.length (List.getD b a [])) (List.getD b a [])) (List.getD e a 0) (List.getD f a false) (aa 0 (List.length (List.getD c a [])) (List.getD c a [])) (List.getD g a 0))) (cT (ay (List.getD d a false) (aa 0 (List.length (List.getD b a [])) (List.getD b a [])) (List.getD e a 0) (List.getD f a false) (aa 0 (List.length (List.getD c a [])) (List.getD c a [])) (List.getD g a 0)))) (db (ay (List.getD d a false) (aa 0 (List.length (List.getD b a [])) (List.getD b a [])) (List.getD e a 0) (List.getD f a false) (aa 0 (List.length (List.getD c a [])) (List.getD c a [])) (List.getD g a 0))))):Nat):Int) != (0:Int))
        (.leaf (.inr (.inl ((sh (cI k (aa i j h) l (da (ay (List.getD d a false) (aa 0 (List.length (List.getD b a [])) (List.getD b a [])) (List.getD e a 0) (List.getD f a false) (aa 0 (List.length (List.getD c a [])) (List.getD c a [])) (List.getD g a 0))) (aa (cU (ay (List.getD d a false) (aa 0 (List.length (List.getD b a [])) (List.getD b a [])) (List.getD e a 0) (List.getD f a false) (aa 0 (List.length (List.getD c a [])) (List.getD c a [])) (List.getD g a 0))) (cV (ay (List.getD d a false) (aa 0 (List.length (List.getD b a [])) (List.getD b a [])) (List.getD e a 0) (List.getD f a false) (aa 0 (List.length (List.getD c a [])) (List.getD c a [])) (List.getD g a 0))) (cT (ay (List.getD d a false) (aa 0 (List.length (List.getD b a [])) (List.getD b a [])) (List.getD e a 0) (List.getD f a false) (aa 0 (List.length (List.getD c a [])) (List.getD c a [])) (List.getD g a 0)))) (db (ay (List.getD d a false) (aa 0 (List.length (List.getD b a [])) (List.getD b a [])) (List.getD e a 0) (List.getD f a false) (aa 0 (List.length (List.getD c a [])) (List.getD c a [])) (List.getD g a 0))))),(u6 (cI k (aa i j h) l (da (ay (List.getD d a false) (aa 0 (List.length (List.getD b a [])) (List.getD b a [])) (List.getD e a 0) (List.getD f a false) (aa 0 (List.length (List.getD c a [])) (List.getD c a [])) (List.getD g a 0))) (aa (cU (ay (List.getD d a false) (aa 0 (List.length (List.getD b a [])) (List.getD b a [])) (List.getD e a 0) (List.getD f a false) (aa 0 (List.length (List.getD c a [])) (List.getD c a [])) (List.getD g a 0))) (cV (ay (List.getD d a false) (aa 0 (List.length (List.getD b a [])) (List.getD b a [])) (List.getD e a 0) (List.getD f a false) (aa 0 (List.length (List.getD c a [])) (List.getD c a [])) (List.getD g a 0))) (cT (ay (List.getD d a false) (aa 0 (List.length (List.getD b a [])) (List.getD b a [])) (List.getD e a 0) (List.getD f a false) (aa 0 (List.length (List.getD c a [])) (List.getD c a [])) (List.getD g a 0)))) (db (ay (List.getD d a false) (aa 0 (List.length (List.getD b a [])) (List.getD b a [])) (List.getD e a 0) (List.getD f a false) (aa 0 (List.length (List.getD c a [])) (List.getD c a [])) (List.getD g a 0))))),(u7 (cI k (aa i j h) l (da (ay (List.getD d a false) (aa 0 (List.length (List.getD b a [])) (List.getD b a [])) (List.getD e a 0) (List.getD f a false) (aa 0 (List.length (List.getD c a [])) (List.getD c a [])) (List.getD g a 0))) (aa (cU (ay (List.getD d a false) (aa 0 (List.length (List.getD b a [])) (List.getD b a [])) (List.getD e a 0) (List.getD f a false) (aa 0 (List.length (List.getD c a [])) (List.getD c a [])) (List.getD g a 0))) (cV (ay (List.getD d a false) (aa 0 (List.length (List.getD b a [])) (List.getD b a [])) (List.getD e a 0) (List.getD f a false) (aa 0 (List.length (List.getD c a [])) (List.getD c a [])) (List.getD g a 0))) (cT (ay (List.getD d a false) (aa 0 (List.length (List.getD b a [])) (List.getD b a [])) (List.getD e a 0) (List.getD f a false) (aa 0 (List.length (List.getD c a [])) (List.getD c a [])) (List.getD g a 0)))) (db (ay (List.getD d a false) (aa 0 (List.length (List.getD b a [])) (List.getD b a [])) (List.getD e a 0) (List.getD f a false) (aa 0 (List.length (List.getD c a [])) (List.getD c a [])) (List.getD g a 0))))),(u9 (cI k (aa i j h) l (da (ay (List.getD d a false) (aa 0 (List.length (List.getD b a [])) (List.getD b a [])) (List.getD e a 0) (List.getD f a false) (aa 0 (List.length (List.getD c a [])) (List.getD c a [])) (List.getD g a 0))) (aa (cU (ay (List.getD d a false) (aa 0 (List.length (List.getD b a [])) (List.getD b a [])) (List.getD e a 0) (List.getD f a false) (aa 0 (List.length (List.getD c a [])) (List.getD c a [])) (List.getD g a 0))) (cV (ay (List.getD d a false) (aa 0 (List.length (List.getD b a [])) (List.getD b a [])) (List.getD e a 0) (List.getD f a false) (aa 0 (List.length (List.getD c a [])) (List.getD c a [])) (List.getD g a 0))) (cT (ay (List.getD d a false) (aa 0 (List.length (List.getD b a [])) (List.getD b a [])) (List.getD e a 0) (List.getD f a false) (aa 0 (List.length (List.getD c a [])) (List.getD c a [])) (List.getD g a 0)))) (db (ay (List.getD d a false) (aa 0 (List.length (List.getD b a [])) (List.getD b a [])) (List.getD e a 0) (List.getD f a false) (aa 0 (List.length (List.getD c a [])) (List.getD c a [])) (List.getD g a 0))))),(va (cI k (aa i j h) l (da (ay (List.getD d a false) (aa 0 (List.length (List.getD b a [])) (List.getD b a [])) (List.getD e a 0) (List.getD f a false) (aa 0 (List.length (List.getD c a [])) (List.getD c a [])) (List.getD g a 0))) (aa (cU (ay (List.getD d a false) (aa 0 (List.length (List.getD b a [])) (List.getD b a [])) (List.getD e a 0) (List.getD f a false) (aa 0 (List.length (List.getD c a [])) (List.getD c a [])) (List.getD g a 0))) (cV (ay (List.getD d a false) (aa 0 (List.length (List.getD b a [])) (List.getD b a [])) (List.getD e a 0) (List.getD f a false) (aa 0 (List.length (List.getD c a [])) (List.getD c a [])) (List.getD g a 0))) (cT (ay (List.getD d a false) (aa 0 (List.length (List.getD b a [])) (List.getD b a [])) (List.getD e a 0) (List.getD f a false) (aa 0 (List.length (List.getD c a [])) (List.getD c a [])) (List.getD g a 0)))) (db (ay (List.getD d a false) (aa 0 (List.length (List.getD b a [])) (List.getD b a [])) (List.getD e a 0) (List.getD f a false) (aa 0 (List.length (List.getD c a [])) (List.getD c a [])) (List.getD g a 0))))),(vb (cI k (aa i j h) l (da (ay (List.getD d a false) (aa 0 (List.length (List.getD b a [])) (List.getD b a [])) (List.getD e a 0) (List.getD f a false) (aa 0 (List.length (List.getD c a [])) (List.getD c a [])) (List.getD g a 0))) (aa (cU (ay (List.getD d a false) (aa 0 (List.length (List.getD b a [])) (List.getD b a [])) (List.getD e a 0) (List.getD f a false) (aa 0 (List.length (List.getD c a [])) (List.getD c a [])) (List.getD g a 0))) (cV (ay (List.getD d a false) (aa 0 (List.length (List.getD b a [])) (List.getD b a [])) (List.getD e a 0) (List.getD f a false) (aa 0 (List.length (List.getD c a [])) (List.getD c a [])) (List.getD g a 0))) (cT (ay (List.getD d a false) (aa 0 (List.length (List.getD b a [])) (List.getD b a [])) (List.getD e a 0) (List.getD f a false) (aa 0 (List.length (List.getD c a [])) (List.getD c a [])) (List.getD g a 0)))) (db (ay (List.getD d a false) (aa 0 (List.length (List.getD b a [])) (List.getD b a [])) (List.getD e a 0) (List.getD f a false) (aa 0 (List.length (List.getD c a [])) (List.getD c a [])) (List.getD g a 0)))))))))
        (.leaf (.inl ((sh (cI k (aa i j h) l (da (ay (List.getD d a false) (aa 0 (List.length (List.getD b a [])) (List.getD b a [])) (List.getD e a 0) (List.getD f a false) (aa 0 (List.length (List.getD c a [])) (List.getD c a [])) (List.getD g a 0))) (aa (cU (ay (List.getD d a false) (aa 0 (List.length (List.getD b a [])) (List.getD b a [])) (List.getD e a 0) (List.getD f a false) (aa 0 (List.length (List.getD c a [])) (List.getD c a [])) (List.getD g a 0))) (cV (ay (List.getD d a false) (aa 0 (List.length (List.getD b a [])) (List.getD b a [])) (List.getD e a 0) (List.getD f a false) (aa 0 (List.length (List.getD c a [])) (List.getD c a [])) (List.getD g a 0))) (cT (ay (List.getD d a false) (aa 0 (List.length (List.getD b a [])) (List.getD b a [])) (List.getD e a 0) (List.getD f a false) (aa 0 (List.length (List.getD c a [])) (List.getD c a [])) (List.getD g a 0)))) (db (ay (List.getD d a false) (aa 0 (List.length (List.getD b a [])) (List.getD b a [])) (List.getD e a 0) (List.getD f a false) (aa 0 (List.length (List.getD c a [])) (List.getD c a [])) (List.getD g a 0))))),(u6 (cI k (aa i j h) l (da (ay (List.getD d a false) (aa 0 (List.length (List.getD b a [])) (List.getD b a [])) (List.getD e a 0) (List.getD f a false) (aa 0 (List.length (List.getD c a [])) (List.getD c a [])) (List.getD g a 0))) (aa (cU (ay (List.getD d a false) (aa 0 (List.length (List.getD b a [])) (List.getD b a [])) (List.getD e a 0) (List.getD f a false) (aa 0 (List.length (List.getD c a [])) (List.getD c a [])) (List.getD g a 0))) (cV (ay (List.getD d a false) (aa 0 (List.length (List.getD b a [])) (List.getD b a [])) (List.getD e a 0) (List.getD f a false) (aa 0 (List.length (List.getD c a [])) (List.getD c a [])) (List.getD g a 0))) (cT (ay (List.getD d a false) (aa 0 (List.length (List.getD b a [])) (List.getD b a [])) (List.getD e a 0) (List.getD f a false) (aa 0 (List.length (List.getD c a [])) (List.getD c a [])) (List.getD g a 0)))) (db (ay (List.getD d a false) (aa 0 (List.length (List.getD b a [])) (List.getD b a [])) (List.getD e a 0) (List.getD f a false) (aa 0 (List.length (List.getD c a [])) (List.getD c a [])) (List.getD g a 0))))),(u7 (cI k (aa i j h) l (da (ay (List.getD d a false) (aa 0 (List.length (List.getD b a [])) (List.getD b a [])) (List.getD e a 0) (List.getD f a false) (aa 0 (List.length (List.getD c a [])) (List.getD c a [])) (List.getD g a 0))) (aa (cU (ay (List.getD d a false) (aa 0 (List.length (List.getD b a [])) (List.getD b a [])) (List.getD e a 0) (List.getD f a false) (aa 0 (List.length (List.getD c a [])) (List.getD c a [])) (List.getD g a 0))) (cV (ay (List.getD d a false) (aa 0 (List.length (List.getD b a [])) (List.getD b a [])) (List.getD e a 0) (List.getD f a false) (aa 0 (List.length (List.getD c a [])) (List.getD c a [])) (List.getD g a 0))) (cT (ay (List.getD d a false) (aa 0 (List.length (List.getD b a [])) (List.getD b a [])) (List.getD e a 0) (List.getD f a false) (aa 0 (List.length (List.getD c a [])) (List.getD c a [])) (List.getD g a 0)))) (db (ay (List.getD d a false) (aa 0 (List.length (List.getD b a [])) (List.getD b a [])) (List.getD e a 0) (List.getD f a false) (aa 0 (List.length (List.getD c a [])) (List.getD c a [])) (List.getD g a 0))))),(u9 (cI k (aa i j h) l (da (ay (List.getD d a false) (aa 0 (List.length (List.getD b a [])) (List.getD b a [])) (List.getD e a 0) (List.getD f a false) (aa 0 (List.length (List.getD c a [])) (List.getD c a [])) (List.getD g a 0))) (aa (cU (ay (List.getD d a false) (aa 0 (List.length (List.getD b a [])) (List.getD b a [])) (List.getD e a 0) (List.getD f a false) (aa 0 (List.length (List.getD c a [])) (List.getD c a [])) (List.getD g a 0))) (cV (ay (List.getD d a false) (aa 0 (List.length (List.getD b a [])) (List.getD b a [])) (List.getD e a 0) (List.getD f a false) (aa 0 (List.length (List.getD c a [])) (List.getD c a [])) (List.getD g a 0))) (cT (ay (List.getD d a false) (aa 0 (List.length (List.getD b a [])) (List.getD b a [])) (List.getD e a 0) (List.getD f a false) (aa 0 (List.length (List.getD c a [])) (List.getD c a [])) (List.getD g a 0)))) (db (ay (List.getD d a false) (aa 0 (List.length (List.getD b a [])) (List.getD b a [])) (List.getD e a 0) (List.getD f a false) (aa 0 (List.length (List.getD c a [])) (List.getD c a [])) (List.getD g a 0))))),(va (cI k (aa i j h) l (da (ay (List.getD d a false) (aa 0 (List.length (List.getD b a [])) (List.getD b a [])) (List.getD e a 0) (List.getD f a false) (aa 0 (List.length (List.getD c a [])) (List.getD c a [])) (List.getD g a 0))) (aa (cU (ay (List.getD d a false) (aa 0 (List.length (List.getD b a [])) (List.getD b a [])) (List.getD e a 0) (List.getD f a false) (aa 0 (List.length (List.getD c a [])) (List.getD c a [])) (List.getD g a 0))) (cV (ay (List.getD d a false) (aa 0 (List.length (List.getD b a [])) (List.getD b a [])) (List.getD e a 0) (List.getD f a false) (aa 0 (List.length (List.getD c a [])) (List.getD c a [])) (List.getD g a 0))) (cT (ay (List.getD d a false) (aa 0 (List.length (List.getD b a [])) (List.getD b a [])) (List.getD e a 0) (List.getD f a false) (aa 0 (List.length (List.getD c a [])) (List.getD c a [])) (List.getD g a 0)))) (db (ay (List.getD d a false) (aa 0 (List.length (List.getD b a [])) (List.getD b a [])) (List.getD e a 0) (List.getD f a false) (aa 0 (List.length (List.getD c a [])) (List.getD c a [])) (List.getD g a 0))))),(vb (cI k (aa i j h) l (da (ay (List.getD d a false) (aa 0 (List.length (List.getD b a [])) (List.getD b a [])) (List.getD e a 0) (List.getD f a false) (aa 0 (List.length (List.getD c a [])) (List.getD c a [])) (List.getD g a 0))) (aa (cU (ay (List.getD d a false) (aa 0 (List.length (List.getD b a [])) (List.getD b a [])) (List.getD e a 0) (List.getD f a false) (aa 0 (List.length (List.getD c a [])) (List.getD c a [])) (List.getD g a 0))) (cV (ay (List.getD d a false) (aa 0 (List.length (List.getD b a [])) (List.getD b a [])) (List.getD e a 0) (List.getD f a false) (aa 0 (List.length (List.getD c a [])) (List.getD c a [])) (List.getD g a 0))) (cT (ay (List.getD d a false) (aa 0 (List.length (List.getD b a [])) (List.getD b a [])) (List.getD e a 0) (List.getD f a false) (aa 0 (List.length (List.getD c a [])) (List.getD c a [])) (List.getD g a 0)))) (db (ay (List.getD d a false) (aa 0 (List.length (List.getD b a [])) (List.getD b a [])) (List.getD e a 0) (List.getD f a false) (aa 0 (List.length (List.getD c a [])) (List.getD c a [])) (List.getD g a 0))))))))))
    (.leaf (.inr (.inl (o,k,h,i,j,l))))
def Uf(a:Nat)(b:Nat)(c:Bool)(d:List Int)(e:Nat)(f:Nat)(g:Int) :T ((Nat×Nat×Bool×(List Int)×Nat×Nat×Int)⊕((Nat×Bool×(List Int)×Nat×Nat×Int)⊕(fM))) :=
  .need (ej .i64 (((a+1):Nat):Int))<|.leaf (.inl (b,(a+1),c,d,e,f,g))
def Dx(b:Nat)(c:List Bool)(d:List (List Int))(e:List Int)(f:Nat)(g:List Bool)(h:List (List Int))(i:List Int) :Nat×Nat×Bool×(List Int)×Nat×Nat×Int→Option ((Nat×Nat×Bool×(List Int)×Nat×Nat×Int)⊕((Nat×Bool×(List Int)×Nat×Nat×Int)⊕(fM))):=fun (j,a,k,l,m,n,o) =>
  aH ((Dw b c d e f g h i j a k l m n o).run) fun (p,q,r,s,t,u) =>
  (Uf a p q r s t u).run
theorem ahj(l:Lv)(c:Nat)(d:List Bool)(e:List (List Int))(f:List Int)(m:Lv)(g:Nat)(h:List Bool)(i:List (List Int))(j:List Int)(b:Bool)(n:Nat)(k:Nat)(o:Bool)(p:List Int)(q:Nat)(r:Nat)(s:Int) :Sg prog [] JP (xt l c d e f m g h i j b (n,k,o,p,q,r,s)) (Dx c d e f g h i j (n,k,o,p,q,r,s)) (xt l c d e f m g h i j b) (aS 0 (yE b) tI):=by
  unfold Dx;exact Sg.cut 3 (aN xr) (Sg.seg (C:=C0) ap ow 60 (JP.take 3) (xt l c d e f m g h i j b (n,k,o,p,q,r,s)) (Dw c d e f g h i j n k o p q r s) (Ue l c d e f m g h i j b k) (aS 0 (yE b) tI) [⟨[],[0,1],[4,6,7]⟩,⟨[],[0,1],[4,6,7]⟩,⟨[],[0,1],[0,1,4,6,7,18,19]⟩,⟨[],[0,1],[4,6,7]⟩] (by kernel_rfl)) (fun a=>by obtain ⟨t,u,v,w,x,y⟩:=a;exact Sg.seg (C:=C0) ap ow 60 (JP.drop 3) (Ue l c d e f m g h i j b k (t,u,v,w,x,y)) (Uf k t u v w x y) (xt l c d e f m g h i j b) (aS 0 (yE b) tI) [⟨[],[0,1],[0,1,4,6,7,18,19]⟩] (by kernel_rfl))
def ahk(a:Bool) :Nat×Bool×(List Int)×Nat×Nat×Int→aM:=yE a
def Ug(a:Nat)(b:Bool)(c:List Int)(d:Nat)(e:Nat)(f:Int) :T ((Empty)⊕(fM)) :=
  .ask (((a:Nat):Int) != (0:Int))
    (.leaf (.inr (.r0 a false ([]:List Int) 0 0 (0:Int))))
    (.leaf (.inr (.r0 0 b c d e f)))
def cR(a:Nat)(c:List Bool)(d:List (List Int))(e:List Int)(b:Nat)(f:List Bool)(g:List (List Int))(h:List Int) :Option fM:=me (aH ((Uc).run) fun p =>
  aH ((Ud a b).run) fun i =>
  aH (eh (Dx a c d e b f g h) (0,0,i,([]:List Int),0,0,(0:Int))) fun (j,k,l,m,n,o) =>
  (Ug j k l m n o).run)
theorem ajp(k:Lv)(b:Nat)(d:List Bool)(e:List (List Int))(f:List Int)(l:Lv)(c:Nat)(g:List Bool)(i:List (List Int))(j:List Int){x:fM}(h:cR b d e f c g i j=some x) :ax prog qL [] [.imm k (.cols b [.cb d,.cns .u64 e,.ci .i64 f]) 3 3 0 b,.imm l (.cols c [.cb g,.cns .u64 i,.ci .i64 j]) 3 3 0 c] (Rr x) :=
  Sg.contract true Rr (by kernel_rfl:prog.funcs[qL]? = some (FN qL)) (by kernel_rfl:(FN qL).body=some (bB qL)) (Sg.cut 1 xr (Sg.seg (C:=C0) ap ow 60 (Dv.take 1) (aT (FN qL) [] [.imm k (.cols b [.cb d,.cns .u64 e,.ci .i64 f]) 3 3 0 b,.imm l (.cols c [.cb g,.cns .u64 i,.ci .i64 j]) 3 3 0 c]) (Uc) (XU k b d e f l c g i j) tI [⟨[],[0],[0,1,4]⟩] (by kernel_rfl)) (fun m=>by exact QP (by kernel_rfl:(Dv.drop 1) = [.scope (NF (((Dv.drop 1)).headD .skip))]) xr (Sg.cut 5 xr (Sg.seg (C:=C0) ap ow 60 (yD.take 5) (XU k b d e f l c g i j m) (Ud b c) (XV k b d e f l c g i j m) tI [⟨[(.cell 0 1,.fre 1 1 (.ns .u64 ([]:List Int)))],[0],[4,5]⟩,⟨[],[0,81],[0,1,4,6,7,18,19]⟩] (by kernel_rfl)) (fun n=>by exact Sg.cut 1 xr (Sg.pre ⟨[(.cell 1 1,.fre 1 1 (.ns .u64 ([]:List Int)))],[0,1],[0,1,4,6,7,18,19]⟩ rfl (by kernel_rfl:NS.on ⟨[(.cell 1 1,.fre 1 1 (.ns .u64 ([]:List Int)))],[0,1],[0,1,4,6,7,18,19]⟩ (XV k b d e f l c g i j m n)=(xt k b d e f l c g i j m) (0,0,n,([]:List Int),0,0,(0:Int))) (cw (I:=(xt k b d e f l c g i j m)) (J:=(yE m)) (id:=0) (by kernel_rfl:((yD.drop 5).take 1) = [.block 0 (.loop (bW ((((yD.drop 5).take 1)).headD .skip)))]) xr (ajo _) (fun s=>by obtain ⟨v,w,y,z,A,B,D⟩:=s;exact ahj k b d e f l c g i j m v w y z A B D) (0,0,n,([]:List Int),0,0,(0:Int)))) (fun a=>by obtain ⟨o,p,q,r,t,u⟩:=a;exact Sg.seg (C:=C0) ap ow 60 ((yD.drop 5).drop 1) (ahk m (o,p,q,r,t,u)) (Ug o p q r t u) (fun a:Empty=>a.elim) tI [⟨[(.cell 0 1,.fre 1 1 (.ns .u64 ([]:List Int)))],[0],[4,5]⟩,⟨[],[0],[4,5]⟩] (by kernel_rfl))))))
    (fun x=>by cases x with | r0 E F G H K L=>exact ⟨.inr rfl,[.agg [.bool false F,.imm .free (.ns .u64 G) 1 1 H K,.int .i64 L],.int .i64 ((E:Nat):Int)],[],by kernel_rfl,trivial,by kernel_rfl⟩) h
def xu:Option fM→Bool
  | some _=>true
  | none=>false
def vz:Option fM→Nat
  | some (.r0 x _ _ _ _ _)=>x
  | _=>0
def vA:Option fM→Bool
  | some (.r0 _ x _ _ _ _)=>x
  | _=>false
def vB:Option fM→List Int
  | some (.r0 _ _ x _ _ _)=>x
  | _=>[]
def vC:Option fM→Nat
  | some (.r0 _ _ _ x _ _)=>x
  | _=>0
def vD:Option fM→Nat
  | some (.r0 _ _ _ _ x _)=>x
  | _=>0
def vE:Option fM→Int
  | some (.r0 _ _ _ _ _ x)=>x
  | _=>0
theorem ajq{x:Option fM}(h:xu x=true) :x=some (.r0 (vz x) (vA x) (vB x) (vC x) (vD x) (vE x)):=by
  unfold xu at h
  split at h <;> first | rfl | (cases h;done) | (rename_i y;cases y;rfl)
def abJ:aL:=cn qL (.cons (.cols [.cb,.cns .u64,.ci .i64]) (.cons (.cols [.cb,.cns .u64,.ci .i64]) .nil)) fun t=>[⟨Rr (.r0 (vz (cR t.1.2.1 t.1.2.2.1 t.1.2.2.2.1 t.1.2.2.2.2.1 t.2.1.2.1 t.2.1.2.2.1 t.2.1.2.2.2.1 t.2.1.2.2.2.2.1)) (vA (cR t.1.2.1 t.1.2.2.1 t.1.2.2.2.1 t.1.2.2.2.2.1 t.2.1.2.1 t.2.1.2.2.1 t.2.1.2.2.2.1 t.2.1.2.2.2.2.1)) (vB (cR t.1.2.1 t.1.2.2.1 t.1.2.2.2.1 t.1.2.2.2.2.1 t.2.1.2.1 t.2.1.2.2.1 t.2.1.2.2.2.1 t.2.1.2.2.2.2.1)) (vC (cR t.1.2.1 t.1.2.2.1 t.1.2.2.2.1 t.1.2.2.2.2.1 t.2.1.2.1 t.2.1.2.2.1 t.2.1.2.2.2.1 t.2.1.2.2.2.2.1)) (vD (cR t.1.2.1 t.1.2.2.1 t.1.2.2.2.1 t.1.2.2.2.2.1 t.2.1.2.1 t.2.1.2.2.1 t.2.1.2.2.2.1 t.2.1.2.2.2.2.1)) (vE (cR t.1.2.1 t.1.2.2.1 t.1.2.2.2.1 t.1.2.2.2.2.1 t.2.1.2.1 t.2.1.2.2.1 t.2.1.2.2.2.1 t.2.1.2.2.2.2.1))),[xu (cR t.1.2.1 t.1.2.2.1 t.1.2.2.2.1 t.1.2.2.2.2.1 t.2.1.2.1 t.2.1.2.2.1 t.2.1.2.2.2.1 t.2.1.2.2.2.2.1)]⟩]
theorem adQ:aV prog abJ:=aP fun t=>(aQ (fun h=>ajp t.1.1 t.1.2.1 t.1.2.2.1 t.1.2.2.2.1 t.1.2.2.2.2.1 t.2.1.1 t.2.1.2.1 t.2.1.2.2.1 t.2.1.2.2.2.1 t.2.1.2.2.2.2.1 (ajq h)) ba)
def abK:List aL:=abJ :: Ub
theorem Hs:bf prog (bi abK):=aw adQ ow
inductive eA where
  | r0 (a:Nat) (b:Bool) (c:List Int) (d:Nat) (e:Nat) (f:Int)
def ET:eA→AE×aM
  | .r0 a b c d e f=>(.ret,⟨an 9 [(2,.ptr 0 1 0 0),(3,.int .i64 ((a:Nat):Int))],[(0,.vs [.bool false b,.imm .free (.ns .u64 c) 1 1 d e,.int .i64 f])],1⟩)
theorem YK:l9 ET:=by intro x;cases x <;> (intro h;cases h)
def EU:eA→jv
  | .r0 a b c d e f=>⟨.tup [.agg [.bool false b,.imm .free (.ns .u64 c) 1 1 d e,.int .i64 f],.int .i64 ((a:Nat):Int)],[]⟩
def Ku:List Code:=bS (bB jE)
def Kv:Nat×Bool×(List Int)×Nat×Nat×Int→aM:=fun (a,b,c,d,e,f)=>⟨an 9 [(2,.ptr 0 1 0 0),(3,.int .i64 ((a:Nat):Int))],[(0,.vs [.bool false b,.imm .free (.ns .u64 c) 1 1 d e,.int .i64 f])],1⟩
def Cq(a:Nat)(b:List Bool)(c:List (List Int))(d:List Int) :T ((Nat×Bool×(List Int)×Nat×Nat×Int)⊕(eA)) :=
  .need (Nat.ble (0+a) a)<|.need (Nat.ble (0+a) a)<|.need (xu (cR a (aa 0 a b) (aa 0 a c) (aa 0 a d) a (aa 0 a b) (aa 0 a c) (aa 0 a d)))<|.leaf (.inl ((vz (cR a (aa 0 a b) (aa 0 a c) (aa 0 a d) a (aa 0 a b) (aa 0 a c) (aa 0 a d))),(vA (cR a (aa 0 a b) (aa 0 a c) (aa 0 a d) a (aa 0 a b) (aa 0 a c) (aa 0 a d))),(vB (cR a (aa 0 a b) (aa 0 a c) (aa 0 a d) a (aa 0 a b) (aa 0 a c) (aa 0 a d))),(vC (cR a (aa 0 a b) (aa 0 a c) (aa 0 a d) a (aa 0 a b) (aa 0 a c) (aa 0 a d))),(vD (cR a (aa 0 a b) (aa 0 a c) (aa 0 a d) a (aa 0 a b) (aa 0 a c) (aa 0 a d))),(vE (cR a (aa 0 a b) (aa 0 a c) (aa 0 a d) a (aa 0 a b) (aa 0 a c) (aa 0 a d)))))
def Kw(a:Nat)(b:Bool)(c:List Int)(d:Nat)(e:Nat)(f:Int) :T ((Empty)⊕(eA)) :=
  .leaf (.inr (.r0 a b c d e f))
def bE(a:Nat)(b:List Bool)(c:List (List Int))(d:List Int) :Option eA:=me (aH ((Cq a b c d).run) fun (e,f,g,h,i,j) =>
  (Kw e f g h i j).run)
theorem YL(f:Lv)(b:Nat)(c:List Bool)(d:List (List Int))(e:List Int){x:eA}(h:bE b c d e=some x) :ax prog jE [] [.imm f (.cols b [.cb c,.cns .u64 d,.ci .i64 e]) 3 3 0 b] (EU x) :=
  Sg.contract true EU (by kernel_rfl:prog.funcs[jE]? = some (FN jE)) (by kernel_rfl:(FN jE).body=some (bB jE)) (Sg.cut 2 YK (Sg.seg (C:=C0) ap Hs 60 (Ku.take 2) (aT (FN jE) [] [.imm f (.cols b [.cb c,.cns .u64 d,.ci .i64 e]) 3 3 0 b]) (Cq b c d e) Kv ET [⟨[],[0],[2,3]⟩] (by kernel_rfl)) (fun a=>by obtain ⟨g,i,j,k,l,m⟩:=a;exact Sg.seg (C:=C0) ap Hs 60 (Ku.drop 2) (Kv (g,i,j,k,l,m)) (Kw g i j k l m) (fun a:Empty=>a.elim) ET [⟨[],[0],[2,3]⟩] (by kernel_rfl)))
    (fun x=>by cases x with | r0 n o p q r s=>exact ⟨.inr rfl,[.agg [.bool false o,.imm .free (.ns .u64 p) 1 1 q r,.int .i64 s],.int .i64 ((n:Nat):Int)],[],by kernel_rfl,trivial,by kernel_rfl⟩) h
def oz:Option eA→Bool
  | some _=>true
  | none=>false
def px:Option eA→Nat
  | some (.r0 x _ _ _ _ _)=>x
  | _=>0
def py:Option eA→Bool
  | some (.r0 _ x _ _ _ _)=>x
  | _=>false
def pz:Option eA→List Int
  | some (.r0 _ _ x _ _ _)=>x
  | _=>[]
def pA:Option eA→Nat
  | some (.r0 _ _ _ x _ _)=>x
  | _=>0
def pB:Option eA→Nat
  | some (.r0 _ _ _ _ x _)=>x
  | _=>0
def pC:Option eA→Int
  | some (.r0 _ _ _ _ _ x)=>x
  | _=>0
theorem YM{x:Option eA}(h:oz x=true) :x=some (.r0 (px x) (py x) (pz x) (pA x) (pB x) (pC x)):=by
  unfold oz at h
  split at h <;> first | rfl | (cases h;done) | (rename_i y;cases y;rfl)
def MB:aL:=cn jE (.cons (.cols [.cb,.cns .u64,.ci .i64]) .nil) fun t=>[⟨EU (.r0 (px (bE t.1.2.1 t.1.2.2.1 t.1.2.2.2.1 t.1.2.2.2.2.1)) (py (bE t.1.2.1 t.1.2.2.1 t.1.2.2.2.1 t.1.2.2.2.2.1)) (pz (bE t.1.2.1 t.1.2.2.1 t.1.2.2.2.1 t.1.2.2.2.2.1)) (pA (bE t.1.2.1 t.1.2.2.1 t.1.2.2.2.1 t.1.2.2.2.2.1)) (pB (bE t.1.2.1 t.1.2.2.1 t.1.2.2.2.1 t.1.2.2.2.2.1)) (pC (bE t.1.2.1 t.1.2.2.1 t.1.2.2.2.1 t.1.2.2.2.2.1))),[oz (bE t.1.2.1 t.1.2.2.1 t.1.2.2.2.1 t.1.2.2.2.2.1)]⟩]
theorem Uh:aV prog MB:=aP fun t=>(aQ (fun h=>YL t.1.1 t.1.2.1 t.1.2.2.1 t.1.2.2.2.1 t.1.2.2.2.2.1 (YM h)) ba)
def MC:List aL:=MB :: abK
theorem sS:bf prog (bi MC):=aw Uh Hs
inductive gA where
  | r0 (a:Nat) (b:Bool) (c:List Int) (d:Nat) (e:Nat) (f:Int)
def Gm:gA→AE×aM
  | .r0 a b c d e f=>(.ret,⟨an 23 [(2,.ptr 0 1 0 0),(3,.int .i64 ((a:Nat):Int))],[(0,.vs [.bool false b,.imm .free (.ns .u64 c) 1 1 d e,.int .i64 f])],1⟩)
theorem Ui:l9 Gm:=by intro x;cases x <;> (intro h;cases h)
def MD:gA→jv
  | .r0 a b c d e f=>⟨.tup [.agg [.bool false b,.imm .free (.ns .u64 c) 1 1 d e,.int .i64 f],.int .i64 ((a:Nat):Int)],[]⟩
def JQ:List Code:=bS (bB oG)
def Uj(b:Int)(c:Int)(d:Lv)(a:List Nat)(e:Bool) :aM:=⟨an 23 [(1,.ptr 0 1 0 0),(2,.ptr 1 1 0 0)],[(0,.vs [.int .i64 b,.int .i64 c,.imm d (.fl a) 1 1 0 (List.length a)]),(1,.vs [.bool false e,.nsl,.int .i64 (0:Int)])],2⟩
def JR(b : Int)(c : Int)(a : List Nat) : T ((Bool) ⊕ (gA)) :=
  .ask (decide ((0:Int) < (1:Int)))
    (.need (iC (0:Int) 1)<|.need (aR 0 (List.length a) a)<|.need (jz (d4 b c (aa 0 (List.length a) a)))<|.ask (iT (d4 b c (aa 0 (List.length a) a)))
      (.ask (!(!(decide ((0:Int) ≥ (0:Int)))))
        (.leaf (.inr (.r0 2 false ([]:List Int) 0 0 (0:Int))))
        (.fail))
      (.need (ej .i64 (1:Int))<|.ask (decide ((1:Int) < (1:Int)))
        (.fail)
        (.ask (!(!(decide ((-1:Int) ≥ (0:Int)))))
          (.fail)
          (.ask (decide ((0:Int) < (1:Int)))
            (.need (iC (0:Int) 1)<|.need (aR 0 (List.length a) a)<|.need (aZ (az (aa 0 (List.length a) a)))<|.ask (decide ((bb (az (aa 0 (List.length a) a))) ≥ (0:Int)))
              (.leaf (.inr (.r0 10 false ([]:List Int) 0 0 (0:Int))))
              (.need (ej .i64 (1:Int))<|.ask (decide ((1:Int) < (1:Int)))
                (.fail)
                (.leaf (.inl false))))
            (.fail)))))
    (.fail)
def Uk:Nat×Bool×(List Int)×Nat×Nat×Int→aM:=fun (a,b,c,d,e,f)=>⟨an 23 [(2,.ptr 0 1 0 0),(3,.int .i64 ((a:Nat):Int))],[(0,.vs [.bool false b,.imm .free (.ns .u64 c) 1 1 d e,.int .i64 f])],1⟩
def JS(a:List Nat) :T ((Nat×Bool×(List Int)×Nat×Nat×Int)⊕(gA)) :=
  .need (aR 0 (List.length a) a)<|.need (jA (aA (aa 0 (List.length a) a)))<|.need (Nat.ble (0+(aW (aA (aa 0 (List.length a) a)))) (aW (aA (aa 0 (List.length a) a))))<|.need (oz (bE (aW (aA (aa 0 (List.length a) a))) (aa 0 (aW (aA (aa 0 (List.length a) a))) (dD (aA (aa 0 (List.length a) a)))) (aa 0 (aW (aA (aa 0 (List.length a) a))) (dE (aA (aa 0 (List.length a) a)))) (aa 0 (aW (aA (aa 0 (List.length a) a))) (dF (aA (aa 0 (List.length a) a))))))<|.leaf (.inl ((px (bE (aW (aA (aa 0 (List.length a) a))) (aa 0 (aW (aA (aa 0 (List.length a) a))) (dD (aA (aa 0 (List.length a) a)))) (aa 0 (aW (aA (aa 0 (List.length a) a))) (dE (aA (aa 0 (List.length a) a)))) (aa 0 (aW (aA (aa 0 (List.length a) a))) (dF (aA (aa 0 (List.length a) a)))))),(py (bE (aW (aA (aa 0 (List.length a) a))) (aa 0 (aW (aA (aa 0 (List.length a) a))) (dD (aA (aa 0 (List.length a) a)))) (aa 0 (aW (aA (aa 0 (List.length a) a))) (dE (aA (aa 0 (List.length a) a)))) (aa 0 (aW (aA (aa 0 (List.length a) a))) (dF (aA (aa 0 (List.length a) a)))))),(pz (bE (aW (aA (aa 0 (List.length a) a))) (aa 0 (aW (aA (aa 0 (List.length a) a))) (dD (aA (aa 0 (List.length a) a)))) (aa 0 (aW (aA (aa 0 (List.length a) a))) (dE (aA (aa 0 (List.length a) a)))) (aa 0 (aW (aA (aa 0 (List.length a) a))) (dF (aA (aa 0 (List.length a) a)))))),(pA (bE (aW (aA (aa 0 (List.length a) a))) (aa 0 (aW (aA (aa 0 (List.length a) a))) (dD (aA (aa 0 (List.length a) a)))) (aa 0 (aW (aA (aa 0 (List.length a) a))) (dE (aA (aa 0 (List.length a) a)))) (aa 0 (aW (aA (aa 0 (List.length a) a))) (dF (aA (aa 0 (List.length a) a)))))),(pB (bE (aW (aA (aa 0 (List.length a) a))) (aa 0 (aW (aA (aa 0 (List.length a) a))) (dD (aA (aa 0 (List.length a) a)))) (aa 0 (aW (aA (aa 0 (List.length a) a))) (dE (aA (aa 0 (List.length a) a)))) (aa 0 (aW (aA (aa 0 (List.length a) a))) (dF (aA (aa 0 (List.length a) a)))))),(pC (bE (aW (aA (aa 0 (List.length a) a))) (aa 0 (aW (aA (aa 0 (List.length a) a))) (dD (aA (aa 0 (List.length a) a)))) (aa 0 (aW (aA (aa 0 (List.length a) a))) (dE (aA (aa 0 (List.length a) a)))) (aa 0 (aW (aA (aa 0 (List.length a) a))) (dF (aA (aa 0 (List.length a) a))))))))
def Ul(a:Nat)(b:Bool)(c:List Int)(d:Nat)(e:Nat)(f:Int) :T ((Empty)⊕(gA)) :=
  .leaf (.inr (.r0 a b c d e f))
def dp(b:Int)(c:Int)(a:List Nat) :Option gA:=me (aH ((JR b c a).run) fun j =>
  aH ((JS a).run) fun (d,e,f,g,h,i) =>
  (Ul d e f g h i).run)
theorem ahl(c:Int)(d:Int)(e:Lv)(b:List Nat){x:gA}(h:dp c d b=some x) :ax prog oG [] [.agg [.int .i64 c,.int .i64 d,.imm e (.fl b) 1 1 0 (List.length b)]] (MD x) :=
  Sg.contract true MD (by kernel_rfl:prog.funcs[oG]? = some (FN oG)) (by kernel_rfl:(FN oG).body=some (bB oG)) (Sg.cut 2 Ui (Sg.seg (C:=C0) ap sS 60 (JQ.take 2) (aT (FN oG) [] [.agg [.int .i64 c,.int .i64 d,.imm e (.fl b) 1 1 0 (List.length b)]]) (JR c d b) (Uj c d e b) Gm [⟨[(.cell 16 1,.fre 1 1 (.ns .u64 ([]:List Int)))],[16],[2,3]⟩,⟨[(.cell 16 1,.fre 1 1 (.ns .u64 ([]:List Int)))],[16],[2,3]⟩,⟨[],[0,16],[1,2]⟩] (by kernel_rfl)) (fun m=>by exact Sg.cut 1 Ui (Sg.seg (C:=C0) ap sS 60 ((JQ.drop 2).take 1) (Uj c d e b m) (JS b) Uk Gm [⟨[],[1],[2,3]⟩] (by kernel_rfl)) (fun a=>by obtain ⟨f,g,i,j,k,l⟩:=a;exact Sg.seg (C:=C0) ap sS 60 ((JQ.drop 2).drop 1) (Uk (f,g,i,j,k,l)) (Ul f g i j k l) (fun a:Empty=>a.elim) Gm [⟨[],[0],[2,3]⟩] (by kernel_rfl))))
    (fun x=>by cases x with | r0 n o p q r s=>exact ⟨.inr rfl,[.agg [.bool false o,.imm .free (.ns .u64 p) 1 1 q r,.int .i64 s],.int .i64 ((n:Nat):Int)],[],by kernel_rfl,trivial,by kernel_rfl⟩) h
def yF:Option gA→Bool
  | some _=>true
  | none=>false
def yG:Option gA→Nat
  | some (.r0 x _ _ _ _ _)=>x
  | _=>0
def yH:Option gA→Bool
  | some (.r0 _ x _ _ _ _)=>x
  | _=>false
def yI:Option gA→List Int
  | some (.r0 _ _ x _ _ _)=>x
  | _=>[]
def yJ:Option gA→Nat
  | some (.r0 _ _ _ x _ _)=>x
  | _=>0
def yK:Option gA→Nat
  | some (.r0 _ _ _ _ x _)=>x
  | _=>0
def yL:Option gA→Int
  | some (.r0 _ _ _ _ _ x)=>x
  | _=>0
theorem ahm{x:Option gA}(h:yF x=true) :x=some (.r0 (yG x) (yH x) (yI x) (yJ x) (yK x) (yL x)):=by
  unfold yF at h
  split at h <;> first | rfl | (cases h;done) | (rename_i y;cases y;rfl)
def XW:aL:=cn oG (.cons (.agg (.cons (.int .i64) (.cons (.int .i64) (.cons .fl .nil)))) .nil) fun t=>[⟨MD (.r0 (yG (dp t.1.1 t.1.2.1 t.1.2.2.1.2)) (yH (dp t.1.1 t.1.2.1 t.1.2.2.1.2)) (yI (dp t.1.1 t.1.2.1 t.1.2.2.1.2)) (yJ (dp t.1.1 t.1.2.1 t.1.2.2.1.2)) (yK (dp t.1.1 t.1.2.1 t.1.2.2.1.2)) (yL (dp t.1.1 t.1.2.1 t.1.2.2.1.2))),[yF (dp t.1.1 t.1.2.1 t.1.2.2.1.2)]⟩]
theorem abL:aV prog XW:=aP fun t=>(aQ (fun h=>ahl t.1.1 t.1.2.1 t.1.2.2.1.1 t.1.2.2.1.2 (ahm h)) ba)
def XX:List aL:=XW :: MC
theorem yM:bf prog (bi XX):=aw abL sS
end
end Go.Plb.Seat
namespace Go.Plb.Seat
open Go Go.Plb
set_option linter.unusedVariables false
set_option maxRecDepth 100000
noncomputable section
inductive ii where
  | r0 (a:Nat) (b:List Bool) (c:List (List Int)) (d:List Int)
def xv:ii→AE×aM
  | .r0 a b c d=>(.ret,⟨an 31 [(8,.sl 0 3 3 0 a a)],[(0,.cols a [.cb b,.cns .u64 c,.ci .i64 d])],1⟩)
theorem JT:l9 xv:=by intro x;cases x <;> (intro h;cases h)
theorem ahn(id:Nat) :rL id xv:=by intro x;cases x <;> (intro h;cases h)
def ME:ii→jv
  | .r0 a b c d=>⟨.imm .free (.cols a [.cb b,.cns .u64 c,.ci .i64 d]) 3 3 0 a,[]⟩
def yN:List Code:=bS (bB oI)
def Um(c:Lv)(b:Nat)(d:List Bool)(e:List (List Int))(f:List Int)(g:Int)(h:Int) :Nat×Nat×(List Bool)×(List (List Int))×(List Int)→aM:=fun (a,i,j,k,l)=>⟨an 31 [(0,.imm c (.cols b [.cb d,.cns .u64 e,.ci .i64 f]) 3 3 0 b),(1,.int .i64 g),(2,.int .i64 h),(9,.sl 0 3 3 0 a a),(14,.int .i64 ((i:Nat):Int)),(15,.int .i64 (0:Int))],[(0,.cols a [.cb j,.cns .u64 k,.ci .i64 l])],1⟩
def JU(a:Int) :T ((Nat×Nat×(List Bool)×(List (List Int))×(List Int))⊕(ii)) :=
  .need (decide ((0:Int)≤a))<|.need (decide (a≤a))<|.need (decide ((40:Int) * a≤140737488355328))<|.need (ej .i64 a)<|.leaf (.inl ((Int.toNat a),(Int.toNat a),(List.replicate (Int.toNat a) false),(List.replicate (Int.toNat a) []),(List.replicate (Int.toNat a) (0:Int))))
def uD(c:Lv)(b:Nat)(d:List Bool)(e:List (List Int))(f:List Int)(g:Int)(h:Int)(a:Nat)(i:Nat) :Nat×(List Bool)×(List (List Int))×(List Int)→aM:=fun (j,k,l,m)=>⟨an 31 [(0,.imm c (.cols b [.cb d,.cns .u64 e,.ci .i64 f]) 3 3 0 b),(1,.int .i64 g),(2,.int .i64 h),(9,.sl 0 3 3 0 a a),(14,.int .i64 ((i:Nat):Int)),(15,.int .i64 ((j:Nat):Int))],[(0,.cols a [.cb k,.cns .u64 l,.ci .i64 m])],1⟩
def Dy(a:Nat) :(List Bool)×(List (List Int))×(List Int)→aM:=fun (b,c,d)=>⟨an 31 [(9,.sl 0 3 3 0 a a)],[(0,.cols a [.cb b,.cns .u64 c,.ci .i64 d])],1⟩
def Un:List Code:=bS (bW ((((yN.drop 3).take 1)).headD .skip))
def yO(j:Nat)(h:List Bool)(d:List (List Int))(i:List Int)(c:Int)(b:Int)(k:Nat)(l:Nat)(a:Nat)(e:List Bool)(f:List (List Int))(g:List Int) :T ((Nat×(List Bool)×(List (List Int))×(List Int))⊕(((List Bool)×(List (List Int))×(List Int))⊕(ii))) :=
  .ask (decide (((a:Nat):Int) < ((l:Nat):Int)))
    (.need (ej .i64 (((a:Nat):Int) * b))<|.need (ej .i64 (c+(((a:Nat):Int) * b)))<|.need (iC (c+(((a:Nat):Int) * b)) j)<|.need (jt (Int.toNat (c+(((a:Nat):Int) * b))) (List.length h))<|.need (jt (Int.toNat (c+(((a:Nat):Int) * b))) (List.length d))<|.need (jt (Int.toNat (c+(((a:Nat):Int) * b))) (List.length i))<|.need (iC ((a:Nat):Int) k)<|.need (jt a (List.length e))<|.need (jt a (List.length f))<|.need (decide (0+(List.length (List.getD d (Int.toNat (c+(((a:Nat):Int) * b))) []))≤List.length (List.getD d (Int.toNat (c+(((a:Nat):Int) * b))) [])))<|.need (jt a (List.length g))<|.need (ej .i64 (((a+1):Nat):Int))<|.leaf (.inl ((a+1),(List.set e a (List.getD h (Int.toNat (c+(((a:Nat):Int) * b))) false)),(List.set f a (List.take (List.length (List.getD d (Int.toNat (c+(((a:Nat):Int) * b))) [])) (List.drop 0 (List.getD d (Int.toNat (c+(((a:Nat):Int) * b))) [])))),(List.set g a (List.getD i (Int.toNat (c+(((a:Nat):Int) * b))) 0)))))
    (.leaf (.inr (.inl (e,f,g))))
def Ht(a:Nat)(b:List Bool)(c:List (List Int))(d:List Int)(e:Int)(f:Int)(g:Nat)(h:Nat) :Nat×(List Bool)×(List (List Int))×(List Int)→Option ((Nat×(List Bool)×(List (List Int))×(List Int))⊕(((List Bool)×(List (List Int))×(List Int))⊕(ii))):=fun (i,j,k,l) =>
  (yO a b c d e f g h i j k l).run
theorem adR(i:Lv)(b:Nat)(c:List Bool)(d:List (List Int))(e:List Int)(f:Int)(g:Int)(a:Nat)(h:Nat)(j:Nat)(k:List Bool)(l:List (List Int))(m:List Int) :Sg prog [] Un (uD i b c d e f g a h (j,k,l,m)) (Ht b c d e f g a h (j,k,l,m)) (uD i b c d e f g a h) (aS 0 (Dy a) xv):=by
  unfold Ht;exact Sg.seg (C:=C0) ap yM 60 Un (uD i b c d e f g a h (j,k,l,m)) (yO b c d e f g a h j k l m) (uD i b c d e f g a h) (aS 0 (Dy a) xv) [⟨[],[0],[0,1,2,9,14,15]⟩,⟨[],[0],[9]⟩] (by kernel_rfl)
def aho(a:Nat) :(List Bool)×(List (List Int))×(List Int)→aM:=Dy a
def PJ(a:Nat)(b:List Bool)(c:List (List Int))(d:List Int) :T ((Empty)⊕(ii)) :=
  .leaf (.inr (.r0 a b c d))
def ac(b:Nat)(c:List Bool)(d:List (List Int))(e:List Int)(f:Int)(g:Int)(h:Int) :Option ii:=me (aH ((JU h).run) fun (a,i,j,k,l) =>
  aH (eh (Ht b c d e f g a i) (0,j,k,l)) fun (m,n,o) =>
  (PJ a m n o).run)
theorem ahp(i:Lv)(b:Nat)(c:List Bool)(d:List (List Int))(e:List Int)(f:Int)(g:Int)(k:Int){x:ii}(h:ac b c d e f g k=some x) :ax prog oI [] [.imm i (.cols b [.cb c,.cns .u64 d,.ci .i64 e]) 3 3 0 b,.int .i64 f,.int .i64 g,.int .i64 k] (ME x) :=
  Sg.contract true ME (by kernel_rfl:prog.funcs[oI]? = some (FN oI)) (by kernel_rfl:(FN oI).body=some (bB oI)) (Sg.cut 3 JT (Sg.seg (C:=C0) ap yM 60 (yN.take 3) (aT (FN oI) [] [.imm i (.cols b [.cb c,.cns .u64 d,.ci .i64 e]) 3 3 0 b,.int .i64 f,.int .i64 g,.int .i64 k]) (JU k) (Um i b c d e f g) xv [⟨[],[32],[0,1,2,9,14,15]⟩] (by kernel_rfl)) (fun a=>by obtain ⟨j,l,m,n,o⟩:=a;exact Sg.cut 1 JT (Sg.pre ⟨[],[0],[0,1,2,9,14,15]⟩ rfl (by kernel_rfl:NS.on ⟨[],[0],[0,1,2,9,14,15]⟩ (Um i b c d e f g (j,l,m,n,o))=(uD i b c d e f g j l) (0,m,n,o)) (cw (I:=(uD i b c d e f g j l)) (J:=(Dy j)) (id:=0) (by kernel_rfl:((yN.drop 3).take 1) = [.block 0 (.loop (bW ((((yN.drop 3).take 1)).headD .skip)))]) JT (ahn _) (fun s=>by obtain ⟨u,v,w,y⟩:=s;exact adR i b c d e f g j l u v w y) (0,m,n,o))) (fun a=>by obtain ⟨p,q,r⟩:=a;exact Sg.seg (C:=C0) ap yM 60 ((yN.drop 3).drop 1) (aho j (p,q,r)) (PJ j p q r) (fun a:Empty=>a.elim) xv [⟨[],[0],[8]⟩] (by kernel_rfl))))
    (fun x=>by cases x with | r0 t z A B=>exact ⟨.inr rfl,[.sl 0 3 3 0 t t],[],by kernel_rfl,trivial,by kernel_rfl⟩) h
def mM:Option ii→Bool
  | some _=>true
  | none=>false
def ah:Option ii→Nat
  | some (.r0 x _ _ _)=>x
  | _=>0
def bv:Option ii→List Bool
  | some (.r0 _ x _ _)=>x
  | _=>[]
def bx:Option ii→List (List Int)
  | some (.r0 _ _ x _)=>x
  | _=>[]
def bz:Option ii→List Int
  | some (.r0 _ _ _ x)=>x
  | _=>[]
theorem ahq{x:Option ii}(h:mM x=true) :x=some (.r0 (ah x) (bv x) (bx x) (bz x)):=by
  unfold mM at h
  split at h <;> first | rfl | (cases h;done) | (rename_i y;cases y;rfl)
def XY:aL:=cn oI (.cons (.cols [.cb,.cns .u64,.ci .i64]) (.cons (.int .i64) (.cons (.int .i64) (.cons (.int .i64) .nil)))) fun t=>[⟨ME (.r0 (ah (ac t.1.2.1 t.1.2.2.1 t.1.2.2.2.1 t.1.2.2.2.2.1 t.2.1 t.2.2.1 t.2.2.2.1)) (bv (ac t.1.2.1 t.1.2.2.1 t.1.2.2.2.1 t.1.2.2.2.2.1 t.2.1 t.2.2.1 t.2.2.2.1)) (bx (ac t.1.2.1 t.1.2.2.1 t.1.2.2.2.1 t.1.2.2.2.2.1 t.2.1 t.2.2.1 t.2.2.2.1)) (bz (ac t.1.2.1 t.1.2.2.1 t.1.2.2.2.1 t.1.2.2.2.2.1 t.2.1 t.2.2.1 t.2.2.2.1))),[mM (ac t.1.2.1 t.1.2.2.1 t.1.2.2.2.1 t.1.2.2.2.2.1 t.2.1 t.2.2.1 t.2.2.2.1)]⟩]
theorem abM:aV prog XY:=aP fun t=>(aQ (fun h=>ahp t.1.1 t.1.2.1 t.1.2.2.1 t.1.2.2.2.1 t.1.2.2.2.2.1 t.2.1 t.2.2.1 t.2.2.2.1 (ahq h)) ba)
def XZ:List aL:=XY :: XX
theorem EV:bf prog (bi XZ):=aw abM yM
inductive jM where
  | r0 (a:Nat) (b:Bool) (c:List Int) (d:Nat) (e:Nat) (f:Int)
def Rs:jM→AE×aM
  | .r0 a b c d e f=>(.ret,⟨an 15 [(4,.ptr 0 1 0 0),(5,.int .i64 ((a:Nat):Int))],[(0,.vs [.bool false b,.imm .free (.ns .u64 c) 1 1 d e,.int .i64 f])],1⟩)
theorem ajr:l9 Rs:=by intro x;cases x <;> (intro h;cases h)
def Rt:jM→jv
  | .r0 a b c d e f=>⟨.tup [.agg [.bool false b,.imm .free (.ns .u64 c) 1 1 d e,.int .i64 f],.int .i64 ((a:Nat):Int)],[]⟩
def X0:List Code:=bS (bB qM)
def X1:Nat×Bool×(List Int)×Nat×Nat×Int→aM:=fun (a,b,c,d,e,f)=>⟨an 15 [(4,.ptr 0 1 0 0),(5,.int .i64 ((a:Nat):Int))],[(0,.vs [.bool false b,.imm .free (.ns .u64 c) 1 1 d e,.int .i64 f])],1⟩
def MF(c:Bool)(a:List Int)(d:Int)(e:Bool)(b:List Int)(f:Int) :T ((Nat×Bool×(List Int)×Nat×Nat×Int)⊕(jM)) :=
  .need (aR 0 (List.length a) a)<|.need (aR 0 (List.length b) b)<|.need (BW (cI c (aa 0 (List.length a) a) d (!e) (aa 0 (List.length b) b) f))<|.leaf (.inl ((sh (cI c (aa 0 (List.length a) a) d (!e) (aa 0 (List.length b) b) f)),(u6 (cI c (aa 0 (List.length a) a) d (!e) (aa 0 (List.length b) b) f)),(u7 (cI c (aa 0 (List.length a) a) d (!e) (aa 0 (List.length b) b) f)),(u9 (cI c (aa 0 (List.length a) a) d (!e) (aa 0 (List.length b) b) f)),(va (cI c (aa 0 (List.length a) a) d (!e) (aa 0 (List.length b) b) f)),(vb (cI c (aa 0 (List.length a) a) d (!e) (aa 0 (List.length b) b) f))))
def X2(a:Nat)(b:Bool)(c:List Int)(d:Nat)(e:Nat)(f:Int) :T ((Empty)⊕(jM)) :=
  .leaf (.inr (.r0 a b c d e f))
def dZ(a:Bool)(b:List Int)(c:Int)(d:Bool)(e:List Int)(f:Int) :Option jM:=me (aH ((MF a b c d e f).run) fun (g,h,i,j,k,l) =>
  (X2 g h i j k l).run)
theorem ajs(d:Bool)(i:Lv)(b:List Int)(e:Int)(f:Bool)(j:Lv)(c:List Int)(g:Int){x:jM}(h:dZ d b e f c g=some x) :ax prog qM [] [.agg [.bool false d,.imm i (.ns .u64 b) 1 1 0 (List.length b),.int .i64 e],.agg [.bool false f,.imm j (.ns .u64 c) 1 1 0 (List.length c),.int .i64 g]] (Rt x) :=
  Sg.contract true Rt (by kernel_rfl:prog.funcs[qM]? = some (FN qM)) (by kernel_rfl:(FN qM).body=some (bB qM)) (Sg.cut 3 ajr (Sg.seg (C:=C0) ap EV 60 (X0.take 3) (aT (FN qM) [] [.agg [.bool false d,.imm i (.ns .u64 b) 1 1 0 (List.length b),.int .i64 e],.agg [.bool false f,.imm j (.ns .u64 c) 1 1 0 (List.length c),.int .i64 g]]) (MF d b e f c g) X1 Rs [⟨[],[32],[4,5]⟩] (by kernel_rfl)) (fun a=>by obtain ⟨k,l,m,n,o,p⟩:=a;exact Sg.seg (C:=C0) ap EV 60 (X0.drop 3) (X1 (k,l,m,n,o,p)) (X2 k l m n o p) (fun a:Empty=>a.elim) Rs [⟨[],[0],[4,5]⟩] (by kernel_rfl)))
    (fun x=>by cases x with | r0 q r s t u v=>exact ⟨.inr rfl,[.agg [.bool false r,.imm .free (.ns .u64 s) 1 1 t u,.int .i64 v],.int .i64 ((q:Nat):Int)],[],by kernel_rfl,trivial,by kernel_rfl⟩) h
def BZ:Option jM→Bool
  | some _=>true
  | none=>false
def Bk:Option jM→Nat
  | some (.r0 x _ _ _ _ _)=>x
  | _=>0
def Bl:Option jM→Bool
  | some (.r0 _ x _ _ _ _)=>x
  | _=>false
def Bm:Option jM→List Int
  | some (.r0 _ _ x _ _ _)=>x
  | _=>[]
def Bn:Option jM→Nat
  | some (.r0 _ _ _ x _ _)=>x
  | _=>0
def Bo:Option jM→Nat
  | some (.r0 _ _ _ _ x _)=>x
  | _=>0
def Bp:Option jM→Int
  | some (.r0 _ _ _ _ _ x)=>x
  | _=>0
theorem ajt{x:Option jM}(h:BZ x=true) :x=some (.r0 (Bk x) (Bl x) (Bm x) (Bn x) (Bo x) (Bp x)):=by
  unfold BZ at h
  split at h <;> first | rfl | (cases h;done) | (rename_i y;cases y;rfl)
def abN:aL:=cn qM (.cons (.agg (.cons .bool (.cons (.ns .u64) (.cons (.int .i64) .nil)))) (.cons (.agg (.cons .bool (.cons (.ns .u64) (.cons (.int .i64) .nil)))) .nil)) fun t=>[⟨Rt (.r0 (Bk (dZ t.1.1 t.1.2.1.2 t.1.2.2.1 t.2.1.1 t.2.1.2.1.2 t.2.1.2.2.1)) (Bl (dZ t.1.1 t.1.2.1.2 t.1.2.2.1 t.2.1.1 t.2.1.2.1.2 t.2.1.2.2.1)) (Bm (dZ t.1.1 t.1.2.1.2 t.1.2.2.1 t.2.1.1 t.2.1.2.1.2 t.2.1.2.2.1)) (Bn (dZ t.1.1 t.1.2.1.2 t.1.2.2.1 t.2.1.1 t.2.1.2.1.2 t.2.1.2.2.1)) (Bo (dZ t.1.1 t.1.2.1.2 t.1.2.2.1 t.2.1.1 t.2.1.2.1.2 t.2.1.2.2.1)) (Bp (dZ t.1.1 t.1.2.1.2 t.1.2.2.1 t.2.1.1 t.2.1.2.1.2 t.2.1.2.2.1))),[BZ (dZ t.1.1 t.1.2.1.2 t.1.2.2.1 t.2.1.1 t.2.1.2.1.2 t.2.1.2.2.1)]⟩]
theorem adS:aV prog abN:=aP fun t=>(aQ (fun h=>ajs t.1.1 t.1.2.1.1 t.1.2.1.2 t.1.2.2.1 t.2.1.1 t.2.1.2.1.1 t.2.1.2.1.2 t.2.1.2.2.1 (ajt h)) ba)
def abO:List aL:=abN :: XZ
theorem vF:bf prog (bi abO):=aw adS EV
inductive ee where
  | r0 (a:Nat) (b:Bool) (c:List Int) (d:Nat) (e:Nat) (f:Int)
def vG:ee→AE×aM
  | .r0 a b c d e f=>(.ret,⟨an 43 [(7,.ptr 0 1 0 0),(8,.int .i64 ((a:Nat):Int))],[(0,.vs [.bool false b,.imm .free (.ns .u64 c) 1 1 d e,.int .i64 f])],1⟩)
theorem EW:l9 vG:=by intro x;cases x <;> (intro h;cases h)
def Hu:ee→jv
  | .r0 a b c d e f=>⟨.tup [.agg [.bool false b,.imm .free (.ns .u64 c) 1 1 d e,.int .i64 f],.int .i64 ((a:Nat):Int)],[]⟩
def yP:List Code:=bS (bB c9)
def MG(b:Int)(c:Int)(d:Lv)(e:Bool)(f:Lv)(a:List Int)(g:Int) :Nat×Bool×Bool×(List Int)×Nat×Nat×Int→aM:=fun (h,i,j,k,l,m,n)=>⟨an 43 [(0,.int .i64 b),(1,.int .i64 c),(4,.iptr d (.vs [.bool false e,.imm f (.ns .u64 a) 1 1 0 (List.length a),.int .i64 g]) 1 0 0),(7,.ptr 0 1 0 0),(9,.ptr 1 1 0 0),(10,.int .i64 ((h:Nat):Int))],[(0,.vs [.bool false i,.nsl,.int .i64 (0:Int)]),(1,.vs [.bool false j,.imm .free (.ns .u64 k) 1 1 l m,.int .i64 n])],2⟩
def yQ(g:Int)(h:Int)(a:Nat)(b:List Bool)(c:List (List Int))(d:List Int)(e:Int)(f:Int) :T ((Nat×Bool×Bool×(List Int)×Nat×Nat×Int)⊕(ee)) :=
  .need (Nat.ble (0+a) a)<|.need (mM (ac a (aa 0 a b) (aa 0 a c) (aa 0 a d) g f e))<|.need (Nat.ble (0+a) a)<|.need (mM (ac a (aa 0 a b) (aa 0 a c) (aa 0 a d) h f e))<|.need (Nat.ble (0+(ah (ac a (aa 0 a b) (aa 0 a c) (aa 0 a d) g f e))) (ah (ac a (aa 0 a b) (aa 0 a c) (aa 0 a d) g f e)))<|.need (Nat.ble (0+(ah (ac a (aa 0 a b) (aa 0 a c) (aa 0 a d) h f e))) (ah (ac a (aa 0 a b) (aa 0 a c) (aa 0 a d) h f e)))<|.need (xu (cR (ah (ac a (aa 0 a b) (aa 0 a c) (aa 0 a d) g f e)) (aa 0 (ah (ac a (aa 0 a b) (aa 0 a c) (aa 0 a d) g f e)) (bv (ac a (aa 0 a b) (aa 0 a c) (aa 0 a d) g f e))) (aa 0 (ah (ac a (aa 0 a b) (aa 0 a c) (aa 0 a d) g f e)) (bx (ac a (aa 0 a b) (aa 0 a c) (aa 0 a d) g f e))) (aa 0 (ah (ac a (aa 0 a b) (aa 0 a c) (aa 0 a d) g f e)) (bz (ac a (aa 0 a b) (aa 0 a c) (aa 0 a d) g f e))) (ah (ac a (aa 0 a b) (aa 0 a c) (aa 0 a d) h f e)) (aa 0 (ah (ac a (aa 0 a b) (aa 0 a c) (aa 0 a d) h f e)) (bv (ac a (aa 0 a b) (aa 0 a c) (aa 0 a d) h f e))) (aa 0 (ah (ac a (aa 0 a b) (aa 0 a c) (aa 0 a d) h f e)) (bx (ac a (aa 0 a b) (aa 0 a c) (aa 0 a d) h f e))) (aa 0 (ah (ac a (aa 0 a b) (aa 0 a c) (aa 0 a d) h f e)) (bz (ac a (aa 0 a b) (aa 0 a c) (aa 0 a d) h f e)))))<|.leaf (.inl ((vz (cR (ah (ac a (aa 0 a b) (aa 0 a c) (aa 0 a d) g f e)) (aa 0 (ah (ac a (aa 0 a b) (aa 0 a c) (aa 0 a d) g f e)) (bv (ac a (aa 0 a b) (aa 0 a c) (aa 0 a d) g f e))) (aa 0 (ah (ac a (aa 0 a b) (aa 0 a c) (aa 0 a d) g f e)) (bx (ac a (aa 0 a b) (aa 0 a c) (aa 0 a d) g f e))) (aa 0 (ah (ac a (aa 0 a b) (aa 0 a c) (aa 0 a d) g f e)) (bz (ac a (aa 0 a b) (aa 0 a c) (aa 0 a d) g f e))) (ah (ac a (aa 0 a b) (aa 0 a c) (aa 0 a d) h f e)) (aa 0 (ah (ac a (aa 0 a b) (aa 0 a c) (aa 0 a d) h f e)) (bv (ac a (aa 0 a b) (aa 0 a c) (aa 0 a d) h f e))) (aa 0 (ah (ac a (aa 0 a b) (aa 0 a c) (aa 0 a d) h f e)) (bx (ac a (aa 0 a b) (aa 0 a c) (aa 0 a d) h f e))) (aa 0 (ah (ac a (aa 0 a b) (aa 0 a c) (aa 0 a d) h f e)) (bz (ac a (aa 0 a b) (aa 0 a c) (aa 0 a d) h f e))))),false,(vA (cR (ah (ac a (aa 0 a b) (aa 0 a c) (aa 0 a d) g f e)) (aa 0 (ah (ac a (aa 0 a b) (aa 0 a c) (aa 0 a d) g f e)) (bv (ac a (aa 0 a b) (aa 0 a c) (aa 0 a d) g f e))) (aa 0 (ah (ac a (aa 0 a b) (aa 0 a c) (aa 0 a d) g f e)) (bx (ac a (aa 0 a b) (aa 0 a c) (aa 0 a d) g f e))) (aa 0 (ah (ac a (aa 0 a b) (aa 0 a c) (aa 0 a d) g f e)) (bz (ac a (aa 0 a b) (aa 0 a c) (aa 0 a d) g f e))) (ah (ac a (aa 0 a b) (aa 0 a c) (aa 0 a d) h f e)) (aa 0 (ah (ac a (aa 0 a b) (aa 0 a c) (aa 0 a d) h f e)) (bv (ac a (aa 0 a b) (aa 0 a c) (aa 0 a d) h f e))) (aa 0 (ah (ac a (aa 0 a b) (aa 0 a c) (aa 0 a d) h f e)) (bx (ac a (aa 0 a b) (aa 0 a c) (aa 0 a d) h f e))) (aa 0 (ah (ac a (aa 0 a b) (aa 0 a c) (aa 0 a d) h f e)) (bz (ac a (aa 0 a b) (aa 0 a c) (aa 0 a d) h f e))))),(vB (cR (ah (ac a (aa 0 a b) (aa 0 a c) (aa 0 a d) g f e)) (aa 0 (ah (ac a (aa 0 a b) (aa 0 a c) (aa 0 a d) g f e)) (bv (ac a (aa 0 a b) (aa 0 a c) (aa 0 a d) g f e))) (aa 0 (ah (ac a (aa 0 a b) (aa 0 a c) (aa 0 a d) g f e)) (bx (ac a (aa 0 a b) (aa 0 a c) (aa 0 a d) g f e))) (aa 0 (ah (ac a (aa 0 a b) (aa 0 a c) (aa 0 a d) g f e)) (bz (ac a (aa 0 a b) (aa 0 a c) (aa 0 a d) g f e))) (ah (ac a (aa 0 a b) (aa 0 a c) (aa 0 a d) h f e)) (aa 0 (ah (ac a (aa 0 a b) (aa 0 a c) (aa 0 a d) h f e)) (bv (ac a (aa 0 a b) (aa 0 a c) (aa 0 a d) h f e))) (aa 0 (ah (ac a (aa 0 a b) (aa 0 a c) (aa 0 a d) h f e)) (bx (ac a (aa 0 a b) (aa 0 a c) (aa 0 a d) h f e))) (aa 0 (ah (ac a (aa 0 a b) (aa 0 a c) (aa 0 a d) h f e)) (bz (ac a (aa 0 a b) (aa 0 a c) (aa 0 a d) h f e))))),(vC (cR (ah (ac a (aa 0 a b) (aa 0 a c) (aa 0 a d) g f e)) (aa 0 (ah (ac a (aa 0 a b) (aa 0 a c) (aa 0 a d) g f e)) (bv (ac a (aa 0 a b) (aa 0 a c) (aa 0 a d) g f e))) (aa 0 (ah (ac a (aa 0 a b) (aa 0 a c) (aa 0 a d) g f e)) (bx (ac a (aa 0 a b) (aa 0 a c) (aa 0 a d) g f e))) (aa 0 (ah (ac a (aa 0 a b) (aa 0 a c) (aa 0 a d) g f e)) (bz (ac a (aa 0 a b) (aa 0 a c) (aa 0 a d) g f e))) (ah (ac a (aa 0 a b) (aa 0 a c) (aa 0 a d) h f e)) (aa 0 (ah (ac a (aa 0 a b) (aa 0 a c) (aa 0 a d) h f e)) (bv (ac a (aa 0 a b) (aa 0 a c) (aa 0 a d) h f e))) (aa 0 (ah (ac a (aa 0 a b) (aa 0 a c) (aa 0 a d) h f e)) (bx (ac a (aa 0 a b) (aa 0 a c) (aa 0 a d) h f e))) (aa 0 (ah (ac a (aa 0 a b) (aa 0 a c) (aa 0 a d) h f e)) (bz (ac a (aa 0 a b) (aa 0 a c) (aa 0 a d) h f e))))),(vD (cR (ah (ac a (aa 0 a b) (aa 0 a c) (aa 0 a d) g f e)) (aa 0 (ah (ac a (aa 0 a b) (aa 0 a c) (aa 0 a d) g f e)) (bv (ac a (aa 0 a b) (aa 0 a c) (aa 0 a d) g f e))) (aa 0 (ah (ac a (aa 0 a b) (aa 0 a c) (aa 0 a d) g f e)) (bx (ac a (aa 0 a b) (aa 0 a c) (aa 0 a d) g f e))) (aa 0 (ah (ac a (aa 0 a b) (aa 0 a c) (aa 0 a d) g f e)) (bz (ac a (aa 0 a b) (aa 0 a c) (aa 0 a d) g f e))) (ah (ac a (aa 0 a b) (aa 0 a c) (aa 0 a d) h f e)) (aa 0 (ah (ac a (aa 0 a b) (aa 0 a c) (aa 0 a d) h f e)) (bv (ac a (aa 0 a b) (aa 0 a c) (aa 0 a d) h f e))) (aa 0 (ah (ac a (aa 0 a b) (aa 0 a c) (aa 0 a d) h f e)) (bx (ac a (aa 0 a b) (aa 0 a c) (aa 0 a d) h f e))) (aa 0 (ah (ac a (aa 0 a b) (aa 0 a c) (aa 0 a d) h f e)) (bz (ac a (aa 0 a b) (aa 0 a c) (aa 0 a d) h f e))))),(vE (cR (ah (ac a (aa 0 a b) (aa 0 a c) (aa 0 a d) g f e)) (aa 0 (ah (ac a (aa 0 a b) (aa 0 a c) (aa 0 a d) g f e)) (bv (ac a (aa 0 a b) (aa 0 a c) (aa 0 a d) g f e))) (aa 0 (ah (ac a (aa 0 a b) (aa 0 a c) (aa 0 a d) g f e)) (bx (ac a (aa 0 a b) (aa 0 a c) (aa 0 a d) g f e))) (aa 0 (ah (ac a (aa 0 a b) (aa 0 a c) (aa 0 a d) g f e)) (bz (ac a (aa 0 a b) (aa 0 a c) (aa 0 a d) g f e))) (ah (ac a (aa 0 a b) (aa 0 a c) (aa 0 a d) h f e)) (aa 0 (ah (ac a (aa 0 a b) (aa 0 a c) (aa 0 a d) h f e)) (bv (ac a (aa 0 a b) (aa 0 a c) (aa 0 a d) h f e))) (aa 0 (ah (ac a (aa 0 a b) (aa 0 a c) (aa 0 a d) h f e)) (bx (ac a (aa 0 a b) (aa 0 a c) (aa 0 a d) h f e))) (aa 0 (ah (ac a (aa 0 a b) (aa 0 a c) (aa 0 a d) h f e)) (bz (ac a (aa 0 a b) (aa 0 a c) (aa 0 a d) h f e)))))))
def MH(b:Lv)(c:Bool)(d:Lv)(a:List Int)(e:Int)(f:Nat)(g:Bool)(h:Bool)(i:List Int)(j:Nat)(k:Nat)(l:Int)(m:Bool) :aM:=⟨an 43 [(4,.iptr b (.vs [.bool false c,.imm d (.ns .u64 a) 1 1 0 (List.length a),.int .i64 e]) 1 0 0),(7,.ptr 0 1 0 0),(9,.ptr 1 1 0 0),(10,.int .i64 ((f:Nat):Int)),(35,.bool false m)],[(0,.vs [.bool false g,.nsl,.int .i64 (0:Int)]),(1,.vs [.bool false h,.imm .free (.ns .u64 i) 1 1 j k,.int .i64 l])],2⟩
def yR(a:Int)(b:Int)(c:Nat) :T ((Bool)⊕(ee)) :=
  .ask (((c:Nat):Int) != (0:Int))
    (.leaf (.inl true))
    (.leaf (.inl (a != b)))
def MI:Nat×Bool×(List Int)×Nat×Nat×Int→aM:=fun (a,b,c,d,e,f)=>⟨an 43 [(7,.ptr 0 1 0 0),(8,.int .i64 ((a:Nat):Int))],[(0,.vs [.bool false b,.imm .free (.ns .u64 c) 1 1 d e,.int .i64 f])],1⟩
def yS(g:Bool)(a:List Int)(h:Int)(i:Nat)(e:Bool)(b:List Int)(c:Nat)(d:Nat)(f:Int)(j:Bool) :T ((Nat×Bool×(List Int)×Nat×Nat×Int)⊕(ee)) :=
  .ask j
    (.leaf (.inr (.r0 i e b c d f)))
    (.need (aR c d b)<|.need (aR 0 (List.length a) a)<|.need (BZ (dZ e (aa c d b) f g (aa 0 (List.length a) a) h))<|.leaf (.inl ((Bk (dZ e (aa c d b) f g (aa 0 (List.length a) a) h)),(Bl (dZ e (aa c d b) f g (aa 0 (List.length a) a) h)),(Bm (dZ e (aa c d b) f g (aa 0 (List.length a) a) h)),(Bn (dZ e (aa c d b) f g (aa 0 (List.length a) a) h)),(Bo (dZ e (aa c d b) f g (aa 0 (List.length a) a) h)),(Bp (dZ e (aa c d b) f g (aa 0 (List.length a) a) h)))))
def MJ(a:Nat)(b:Bool)(c:List Int)(d:Nat)(e:Nat)(f:Int) :T ((Empty)⊕(ee)) :=
  .leaf (.inr (.r0 a b c d e f))
def cW(a:Int)(b:Int)(d:Nat)(e:List Bool)(f:List (List Int))(g:List Int)(h:Int)(i:Int)(j:Bool)(k:List Int)(l:Int) :Option ee:=me (aH ((yQ a b d e f g h i).run) fun (c,y,m,n,o,p,q) =>
  aH ((yR a b c).run) fun r =>
  aH ((yS j k l c m n o p q r).run) fun (s,t,u,v,w,x) =>
  (MJ s t u v w x).run)
theorem abP(e:Int)(f:Int)(y:Lv)(z:Lv)(g:Nat)(l:List Bool)(m:List (List Int))(n:List Int)(A:Lv)(o:Int)(p:Int)(B:Lv)(q:List Nat)(i:Lv)(c:Bool)(j:Lv)(b:List Int)(d:Int){x:ee}(h:cW e f g l m n o p c b d=some x) :ax prog c9 [] [.int .i64 e,.int .i64 f,.iptr y (.vs [.imm z (.cols g [.cb l,.cns .u64 m,.ci .i64 n]) 3 3 0 g]) 1 0 0,.iptr A (.vs [.int .i64 o,.int .i64 p,.imm B (.fl q) 1 1 0 (List.length q)]) 1 0 0,.iptr i (.vs [.bool false c,.imm j (.ns .u64 b) 1 1 0 (List.length b),.int .i64 d]) 1 0 0] (Hu x) :=
  Sg.contract false Hu (by kernel_rfl:prog.funcs[c9]? = some (FN c9)) (by kernel_rfl:(FN c9).body=some (bB c9)) (Sg.cut 2 EW (Sg.seg (C:=C0) ap vF 60 (yP.take 2) (aT (FN c9) [] [.int .i64 e,.int .i64 f,.iptr y (.vs [.imm z (.cols g [.cb l,.cns .u64 m,.ci .i64 n]) 3 3 0 g]) 1 0 0,.iptr A (.vs [.int .i64 o,.int .i64 p,.imm B (.fl q) 1 1 0 (List.length q)]) 1 0 0,.iptr i (.vs [.bool false c,.imm j (.ns .u64 b) 1 1 0 (List.length b),.int .i64 d]) 1 0 0]) (yQ e f g l m n o p) (MG e f i c j b d) vG [⟨[],[0,320],[0,1,4,7,9,10]⟩] (by kernel_rfl)) (fun a=>by obtain ⟨k,w,r,s,t,u,v⟩:=a;exact Sg.cut 1 EW (Sg.seg (C:=C0) ap vF 60 ((yP.drop 2).take 1) (MG e f i c j b d (k,w,r,s,t,u,v)) (yR e f k) (MH i c j b d k w r s t u v) vG [⟨[],[0,1],[4,7,9,10,35]⟩,⟨[],[0,1],[4,7,9,10,35]⟩] (by kernel_rfl)) (fun D=>by exact Sg.cut 2 EW (Sg.seg (C:=C0) ap vF 60 (((yP.drop 2).drop 1).take 2) (MH i c j b d k w r s t u v D) (yS c b d k r s t u v D) MI vG [⟨[],[0],[7,8]⟩,⟨[],[0],[7,8]⟩] (by kernel_rfl)) (fun a=>by obtain ⟨E,F,G,H,I,J⟩:=a;exact Sg.seg (C:=C0) ap vF 60 (((yP.drop 2).drop 1).drop 2) (MI (E,F,G,H,I,J)) (MJ E F G H I J) (fun a:Empty=>a.elim) vG [⟨[],[0],[7,8]⟩] (by kernel_rfl)))))
    (fun x=>by cases x with | r0 K L M N O P=>exact ⟨.inr rfl,[.agg [.bool false L,.imm .free (.ns .u64 M) 1 1 N O,.int .i64 P],.int .i64 ((K:Nat):Int)],[],by kernel_rfl,trivial,by kernel_rfl⟩) h
def tJ:Option ee→Bool
  | some _=>true
  | none=>false
def nF:Option ee→Nat
  | some (.r0 x _ _ _ _ _)=>x
  | _=>0
def uE:Option ee→Bool
  | some (.r0 _ x _ _ _ _)=>x
  | _=>false
def qp:Option ee→List Int
  | some (.r0 _ _ x _ _ _)=>x
  | _=>[]
def qq:Option ee→Nat
  | some (.r0 _ _ _ x _ _)=>x
  | _=>0
def qr:Option ee→Nat
  | some (.r0 _ _ _ _ x _)=>x
  | _=>0
def uF:Option ee→Int
  | some (.r0 _ _ _ _ _ x)=>x
  | _=>0
theorem abQ{x:Option ee}(h:tJ x=true) :x=some (.r0 (nF x) (uE x) (qp x) (qq x) (qr x) (uF x)):=by
  unfold tJ at h
  split at h <;> first | rfl | (cases h;done) | (rename_i y;cases y;rfl)
def PK:aL:=cn c9 (.cons (.int .i64) (.cons (.int .i64) (.cons (.ivs (.cons (.cols [.cb,.cns .u64,.ci .i64]) .nil) 1 0 0) (.cons (.ivs (.cons (.int .i64) (.cons (.int .i64) (.cons .fl .nil))) 1 0 0) (.cons (.ivs (.cons .bool (.cons (.ns .u64) (.cons (.int .i64) .nil))) 1 0 0) .nil))))) fun t=>[⟨Hu (.r0 (nF (cW t.1 t.2.1 t.2.2.1.2.1.2.1 t.2.2.1.2.1.2.2.1 t.2.2.1.2.1.2.2.2.1 t.2.2.1.2.1.2.2.2.2.1 t.2.2.2.1.2.1 t.2.2.2.1.2.2.1 t.2.2.2.2.1.2.1 t.2.2.2.2.1.2.2.1.2 t.2.2.2.2.1.2.2.2.1)) (uE (cW t.1 t.2.1 t.2.2.1.2.1.2.1 t.2.2.1.2.1.2.2.1 t.2.2.1.2.1.2.2.2.1 t.2.2.1.2.1.2.2.2.2.1 t.2.2.2.1.2.1 t.2.2.2.1.2.2.1 t.2.2.2.2.1.2.1 t.2.2.2.2.1.2.2.1.2 t.2.2.2.2.1.2.2.2.1)) (qp (cW t.1 t.2.1 t.2.2.1.2.1.2.1 t.2.2.1.2.1.2.2.1 t.2.2.1.2.1.2.2.2.1 t.2.2.1.2.1.2.2.2.2.1 t.2.2.2.1.2.1 t.2.2.2.1.2.2.1 t.2.2.2.2.1.2.1 t.2.2.2.2.1.2.2.1.2 t.2.2.2.2.1.2.2.2.1)) (qq (cW t.1 t.2.1 t.2.2.1.2.1.2.1 t.2.2.1.2.1.2.2.1 t.2.2.1.2.1.2.2.2.1 t.2.2.1.2.1.2.2.2.2.1 t.2.2.2.1.2.1 t.2.2.2.1.2.2.1 t.2.2.2.2.1.2.1 t.2.2.2.2.1.2.2.1.2 t.2.2.2.2.1.2.2.2.1)) (qr (cW t.1 t.2.1 t.2.2.1.2.1.2.1 t.2.2.1.2.1.2.2.1 t.2.2.1.2.1.2.2.2.1 t.2.2.1.2.1.2.2.2.2.1 t.2.2.2.1.2.1 t.2.2.2.1.2.2.1 t.2.2.2.2.1.2.1 t.2.2.2.2.1.2.2.1.2 t.2.2.2.2.1.2.2.2.1)) (uF (cW t.1 t.2.1 t.2.2.1.2.1.2.1 t.2.2.1.2.1.2.2.1 t.2.2.1.2.1.2.2.2.1 t.2.2.1.2.1.2.2.2.2.1 t.2.2.2.1.2.1 t.2.2.2.1.2.2.1 t.2.2.2.2.1.2.1 t.2.2.2.2.1.2.2.1.2 t.2.2.2.2.1.2.2.2.1))),[tJ (cW t.1 t.2.1 t.2.2.1.2.1.2.1 t.2.2.1.2.1.2.2.1 t.2.2.1.2.1.2.2.2.1 t.2.2.1.2.1.2.2.2.2.1 t.2.2.2.1.2.1 t.2.2.2.1.2.2.1 t.2.2.2.2.1.2.1 t.2.2.2.2.1.2.2.1.2 t.2.2.2.2.1.2.2.2.1)]⟩]
theorem VM:aV prog PK:=aP fun t=>(aQ (fun h=>abP t.1 t.2.1 t.2.2.1.1 t.2.2.1.2.1.1 t.2.2.1.2.1.2.1 t.2.2.1.2.1.2.2.1 t.2.2.1.2.1.2.2.2.1 t.2.2.1.2.1.2.2.2.2.1 t.2.2.2.1.1 t.2.2.2.1.2.1 t.2.2.2.1.2.2.1 t.2.2.2.1.2.2.2.1.1 t.2.2.2.1.2.2.2.1.2 t.2.2.2.2.1.1 t.2.2.2.2.1.2.1 t.2.2.2.2.1.2.2.1.1 t.2.2.2.2.1.2.2.1.2 t.2.2.2.2.1.2.2.2.1 (abQ h)) ba)
def PL:List aL:=PK :: abO
theorem fb:bf prog (bi PL):=aw VM vF
end
end Go.Plb.Seat
namespace Go.Plb.Seat
open Go Go.Plb
set_option linter.unusedVariables false
set_option maxRecDepth 100000
noncomputable section
inductive aJ where
  | r0 (a:Nat) (b:Bool) (c:List Int) (d:Nat) (e:Nat) (f:Int)
def bt:aJ→AE×aM
  | .r0 a b c d e f=>(.ret,⟨an 46 [(4,.ptr 0 1 0 0),(5,.int .i64 ((a:Nat):Int))],[(0,.vs [.bool false b,.imm .free (.ns .u64 c) 1 1 d e,.int .i64 f])],1⟩)
theorem bC:l9 bt:=by intro x;cases x <;> (intro h;cases h)
theorem kJ(id:Nat) :rL id bt:=by intro x;cases x <;> (intro h;cases h)
def lG:aJ→jv
  | .r0 a b c d e f=>⟨.tup [.agg [.bool false b,.imm .free (.ns .u64 c) 1 1 d e,.int .i64 f],.int .i64 ((a:Nat):Int)],[]⟩
def f6:List Code:=bS (bB du)
def qs(d:Int)(e:Int)(f:Lv)(g:Lv)(a:Nat)(h:List Bool)(i:List (List Int))(j:List Int)(k:Lv)(l:Int)(m:Int)(n:Lv)(b:List Nat)(o:Lv)(p:Bool)(q:Lv)(c:List Int)(r:Int)(s:Bool) :aM:=⟨an 46 [(1,.fn (.func c9) [] [.iptr f (.vs [.imm g (.cols a [.cb h,.cns .u64 i,.ci .i64 j]) 3 3 0 a]) 1 0 0,.iptr k (.vs [.int .i64 l,.int .i64 m,.imm n (.fl b) 1 1 0 (List.length b)]) 1 0 0,.iptr o (.vs [.bool false p,.imm q (.ns .u64 c) 1 1 0 (List.length c),.int .i64 r]) 1 0 0]),(2,.ptr 0 1 0 0),(4,.ptr 1 1 0 0)],[(0,.vs [.int .i64 d,.int .i64 e]),(1,.vs [.bool false s,.nsl,.int .i64 (0:Int)])],2⟩
def pR:T ((Bool)⊕(aJ)) :=
  .leaf (.inl false)
def dI:List Code:=bS (NF (((f6.drop 1)).headD .skip))
def qt(a:Int)(e:Int)(f:Lv)(g:Lv)(b:Nat)(h:List Bool)(i:List (List Int))(j:List Int)(k:Lv)(l:Int)(m:Int)(n:Lv)(c:List Nat)(o:Lv)(p:Bool)(q:Lv)(d:List Int)(r:Int)(s:Bool)(_:Unit) :aM:=⟨an 46 [(1,.fn (.func c9) [] [.iptr f (.vs [.imm g (.cols b [.cb h,.cns .u64 i,.ci .i64 j]) 3 3 0 b]) 1 0 0,.iptr k (.vs [.int .i64 l,.int .i64 m,.imm n (.fl c) 1 1 0 (List.length c)]) 1 0 0,.iptr o (.vs [.bool false p,.imm q (.ns .u64 d) 1 1 0 (List.length d),.int .i64 r]) 1 0 0]),(2,.ptr 0 1 0 0),(4,.ptr 1 1 0 0),(6,.nsl),(7,.int .i64 (0:Int)),(13,.int .i64 a),(14,.int .i64 (0:Int))],[(0,.vs [.int .i64 a,.int .i64 e]),(1,.vs [.bool false s,.nsl,.int .i64 (0:Int)])],2⟩
def pS:T ((Unit)⊕(aJ)) :=
  .leaf (.inl ())
def dJ(a:Int)(e:Int)(f:Lv)(g:Lv)(b:Nat)(h:List Bool)(i:List (List Int))(j:List Int)(k:Lv)(l:Int)(m:Int)(n:Lv)(c:List Nat)(o:Lv)(p:Bool)(q:Lv)(d:List Int)(r:Int)(s:Bool) :Nat×Nat×Nat×Nat×Nat×(List Bool)×(List (List Int))×(List Int)→aM:=fun (t,u,v,w,x,y,z,A)=>⟨an 46 [(1,.fn (.func c9) [] [.iptr f (.vs [.imm g (.cols b [.cb h,.cns .u64 i,.ci .i64 j]) 3 3 0 b]) 1 0 0,.iptr k (.vs [.int .i64 l,.int .i64 m,.imm n (.fl c) 1 1 0 (List.length c)]) 1 0 0,.iptr o (.vs [.bool false p,.imm q (.ns .u64 d) 1 1 0 (List.length d),.int .i64 r]) 1 0 0]),(2,.ptr 0 1 0 0),(4,.ptr 1 1 0 0),(6,.sl 2 3 3 0 t u),(7,.int .i64 ((v:Nat):Int)),(13,.int .i64 a),(14,.int .i64 ((w:Nat):Int))],[(0,.vs [.int .i64 a,.int .i64 e]),(1,.vs [.bool false s,.nsl,.int .i64 (0:Int)]),(2,.cols x [.cb y,.cns .u64 z,.ci .i64 A])],3⟩
def bU(a:Bool) :Nat×Nat×Nat×Nat×(List Bool)×(List (List Int))×(List Int)→aM:=fun (b,c,d,e,f,g,h)=>⟨an 46 [(4,.ptr 0 1 0 0),(6,.sl 1 3 3 0 b c),(7,.int .i64 ((d:Nat):Int))],[(0,.vs [.bool false a,.nsl,.int .i64 (0:Int)]),(1,.cols e [.cb f,.cns .u64 g,.ci .i64 h])],2⟩
def dK:List Code:=bS (bW ((((dI.drop 3).take 1)).headD .skip))
def pT(a:Int)(e:Int)(f:Lv)(g:Lv)(b:Nat)(h:List Bool)(i:List (List Int))(j:List Int)(k:Lv)(l:Int)(m:Int)(n:Lv)(c:List Nat)(o:Lv)(p:Bool)(q:Lv)(d:List Int)(r:Int)(s:Bool)(t:Nat)(u:Nat)(v:Nat)(w:Nat)(x:Nat)(y:List Bool)(z:List (List Int))(A:List Int)(_:Unit) :aM:=⟨an 46 [(1,.fn (.func c9) [] [.iptr f (.vs [.imm g (.cols b [.cb h,.cns .u64 i,.ci .i64 j]) 3 3 0 b]) 1 0 0,.iptr k (.vs [.int .i64 l,.int .i64 m,.imm n (.fl c) 1 1 0 (List.length c)]) 1 0 0,.iptr o (.vs [.bool false p,.imm q (.ns .u64 d) 1 1 0 (List.length d),.int .i64 r]) 1 0 0]),(2,.ptr 0 1 0 0),(4,.ptr 1 1 0 0),(6,.sl 2 3 3 0 t u),(7,.int .i64 ((v:Nat):Int)),(13,.int .i64 a),(14,.int .i64 ((w:Nat):Int))],[(0,.vs [.int .i64 a,.int .i64 e]),(1,.vs [.bool false s,.nsl,.int .i64 (0:Int)]),(2,.cols x [.cb y,.cns .u64 z,.ci .i64 A])],3⟩
def f7(a:Int)(b:Nat)(c:Nat)(d:Nat)(e:Nat)(f:Nat)(g:List Bool)(h:List (List Int))(i:List Int) :T ((Unit)⊕((Nat×Nat×Nat×Nat×(List Bool)×(List (List Int))×(List Int))⊕(aJ))) :=
  .ask (decide (((e:Nat):Int) < a))
    (.leaf (.inl ()))
    (.leaf (.inr (.inl (b,c,d,f,g,h,i))))
def cE(a:Int)(e:Int)(f:Lv)(g:Lv)(b:Nat)(h:List Bool)(i:List (List Int))(j:List Int)(k:Lv)(l:Int)(m:Int)(n:Lv)(c:List Nat)(o:Lv)(p:Bool)(q:Lv)(d:List Int)(r:Int)(s:Bool)(t:Nat) :Nat×Nat×Nat×Nat×(List Bool)×(List (List Int))×(List Int)→aM:=fun (u,v,w,x,y,z,A)=>⟨an 46 [(1,.fn (.func c9) [] [.iptr f (.vs [.imm g (.cols b [.cb h,.cns .u64 i,.ci .i64 j]) 3 3 0 b]) 1 0 0,.iptr k (.vs [.int .i64 l,.int .i64 m,.imm n (.fl c) 1 1 0 (List.length c)]) 1 0 0,.iptr o (.vs [.bool false p,.imm q (.ns .u64 d) 1 1 0 (List.length d),.int .i64 r]) 1 0 0]),(2,.ptr 0 1 0 0),(4,.ptr 1 1 0 0),(6,.sl 2 3 3 0 u v),(7,.int .i64 ((w:Nat):Int)),(13,.int .i64 a),(14,.int .i64 ((t:Nat):Int))],[(0,.vs [.int .i64 a,.int .i64 e]),(1,.vs [.bool false s,.nsl,.int .i64 (0:Int)]),(2,.cols x [.cb y,.cns .u64 z,.ci .i64 A])],3⟩
def eN:List Code:=bS (inBlock ((((dK.drop 2).take 1)).headD .skip))
def pU(a:Int)(b:Int)(g:Lv)(h:Lv)(c:Nat)(i:List Bool)(j:List (List Int))(k:List Int)(l:Lv)(m:Int)(n:Int)(o:Lv)(d:List Nat)(p:Lv)(q:Bool)(r:Lv)(e:List Int)(s:Int)(t:Bool)(u:Nat)(v:Nat)(w:Nat)(f:Nat)(x:Nat)(y:List Bool)(z:List (List Int))(A:List Int)(_:Unit) :aM:=⟨an 46 [(1,.fn (.func c9) [] [.iptr g (.vs [.imm h (.cols c [.cb i,.cns .u64 j,.ci .i64 k]) 3 3 0 c]) 1 0 0,.iptr l (.vs [.int .i64 m,.int .i64 n,.imm o (.fl d) 1 1 0 (List.length d)]) 1 0 0,.iptr p (.vs [.bool false q,.imm r (.ns .u64 e) 1 1 0 (List.length e),.int .i64 s]) 1 0 0]),(2,.ptr 0 1 0 0),(4,.ptr 1 1 0 0),(6,.sl 2 3 3 0 u v),(7,.int .i64 ((w:Nat):Int)),(8,.int .i64 ((f:Nat):Int)),(13,.int .i64 a),(14,.int .i64 ((f:Nat):Int)),(18,.int .i64 b),(19,.int .i64 (0:Int))],[(0,.vs [.int .i64 a,.int .i64 b]),(1,.vs [.bool false t,.nsl,.int .i64 (0:Int)]),(2,.cols x [.cb y,.cns .u64 z,.ci .i64 A])],3⟩
def pV:T ((Unit)⊕((Nat×Nat×Nat×Nat×(List Bool)×(List (List Int))×(List Int))⊕((Nat×Nat×Nat×Nat×(List Bool)×(List (List Int))×(List Int))⊕(aJ)))) :=
  .leaf (.inl ())
def dL(a:Int)(b:Int)(g:Lv)(h:Lv)(c:Nat)(i:List Bool)(j:List (List Int))(k:List Int)(l:Lv)(m:Int)(n:Int)(o:Lv)(d:List Nat)(p:Lv)(q:Bool)(r:Lv)(e:List Int)(s:Int)(t:Bool)(f:Nat) :Nat×Nat×Nat×Nat×Nat×(List Bool)×(List (List Int))×(List Int)→aM:=fun (u,v,w,x,y,z,A,B)=>⟨an 46 [(1,.fn (.func c9) [] [.iptr g (.vs [.imm h (.cols c [.cb i,.cns .u64 j,.ci .i64 k]) 3 3 0 c]) 1 0 0,.iptr l (.vs [.int .i64 m,.int .i64 n,.imm o (.fl d) 1 1 0 (List.length d)]) 1 0 0,.iptr p (.vs [.bool false q,.imm r (.ns .u64 e) 1 1 0 (List.length e),.int .i64 s]) 1 0 0]),(2,.ptr 0 1 0 0),(4,.ptr 1 1 0 0),(6,.sl 2 3 3 0 u v),(7,.int .i64 ((w:Nat):Int)),(8,.int .i64 ((f:Nat):Int)),(13,.int .i64 a),(14,.int .i64 ((f:Nat):Int)),(18,.int .i64 b),(19,.int .i64 ((x:Nat):Int))],[(0,.vs [.int .i64 a,.int .i64 b]),(1,.vs [.bool false t,.nsl,.int .i64 (0:Int)]),(2,.cols y [.cb z,.cns .u64 A,.ci .i64 B])],3⟩
def eO(a:Int)(e:Int)(f:Lv)(g:Lv)(b:Nat)(h:List Bool)(i:List (List Int))(j:List Int)(k:Lv)(l:Int)(m:Int)(n:Lv)(c:List Nat)(o:Lv)(p:Bool)(q:Lv)(d:List Int)(r:Int)(s:Bool)(t:Nat) :Nat×Nat×Nat×Nat×(List Bool)×(List (List Int))×(List Int)→aM:=fun (u,v,w,x,y,z,A)=>⟨an 46 [(1,.fn (.func c9) [] [.iptr f (.vs [.imm g (.cols b [.cb h,.cns .u64 i,.ci .i64 j]) 3 3 0 b]) 1 0 0,.iptr k (.vs [.int .i64 l,.int .i64 m,.imm n (.fl c) 1 1 0 (List.length c)]) 1 0 0,.iptr o (.vs [.bool false p,.imm q (.ns .u64 d) 1 1 0 (List.length d),.int .i64 r]) 1 0 0]),(2,.ptr 0 1 0 0),(4,.ptr 1 1 0 0),(6,.sl 2 3 3 0 u v),(7,.int .i64 ((w:Nat):Int)),(13,.int .i64 a),(14,.int .i64 ((t:Nat):Int))],[(0,.vs [.int .i64 a,.int .i64 e]),(1,.vs [.bool false s,.nsl,.int .i64 (0:Int)]),(2,.cols x [.cb y,.cns .u64 z,.ci .i64 A])],3⟩
def kj:List Code:=bS (bW ((((eN.drop 2).take 1)).headD .skip))
def pW(b:Int)(c:Int)(h:Lv)(i:Lv)(d:Nat)(j:List Bool)(k:List (List Int))(l:List Int)(m:Lv)(n:Int)(o:Int)(p:Lv)(e:List Nat)(q:Lv)(r:Bool)(s:Lv)(f:List Int)(t:Int)(u:Bool)(g:Nat)(v:Nat) :Nat×Nat×(List Bool)×(List (List Int))×(List Int)→aM:=fun (a,w,x,y,z)=>⟨an 46 [(1,.fn (.func c9) [] [.iptr h (.vs [.imm i (.cols d [.cb j,.cns .u64 k,.ci .i64 l]) 3 3 0 d]) 1 0 0,.iptr m (.vs [.int .i64 n,.int .i64 o,.imm p (.fl e) 1 1 0 (List.length e)]) 1 0 0,.iptr q (.vs [.bool false r,.imm s (.ns .u64 f) 1 1 0 (List.length f),.int .i64 t]) 1 0 0]),(2,.ptr 0 1 0 0),(4,.ptr 1 1 0 0),(6,.sl 2 3 3 0 a a),(7,.int .i64 ((w:Nat):Int)),(8,.int .i64 ((g:Nat):Int)),(13,.int .i64 b),(14,.int .i64 ((g:Nat):Int)),(18,.int .i64 c),(19,.int .i64 ((v:Nat):Int))],[(0,.vs [.int .i64 b,.int .i64 c]),(1,.vs [.bool false u,.nsl,.int .i64 (0:Int)]),(2,.cols a [.cb x,.cns .u64 y,.ci .i64 z])],3⟩
def eP(s:Int)(a:Nat)(d:List Bool)(e:List (List Int))(f:List Int)(g:Int)(h:Int)(q:List Nat)(i:Bool)(b:List Int)(j:Int)(k:Nat)(l:Nat)(r:Nat)(t:Nat)(c:Nat)(m:Nat)(n:List Bool)(o:List (List Int))(p:List Int) :T ((Nat×Nat×(List Bool)×(List (List Int))×(List Int))⊕((Nat×Nat×Nat×Nat×(List Bool)×(List (List Int))×(List Int))⊕((Nat×Nat×Nat×Nat×(List Bool)×(List (List Int))×(List Int))⊕((Nat×Nat×Nat×Nat×(List Bool)×(List (List Int))×(List Int))⊕(aJ))))) :=
  .ask (decide (((c:Nat):Int) < s))
    (.need (Nat.ble (0+a) a)<|.need (aR 0 (List.length q) q)<|.need (aR 0 (List.length b) b)<|.need (tJ (cW ((k:Nat):Int) ((c:Nat):Int) a (aa 0 a d) (aa 0 a e) (aa 0 a f) g h i (aa 0 (List.length b) b) j))<|.ask ((((nF (cW ((k:Nat):Int) ((c:Nat):Int) a (aa 0 a d) (aa 0 a e) (aa 0 a f) g h i (aa 0 (List.length b) b) j)):Nat):Int) != (0:Int))
      (.leaf (.inr (.inr (.inr (.inl (l,r,(nF (cW ((k:Nat):Int) ((c:Nat):Int) a (aa 0 a d) (aa 0 a e) (aa 0 a f) g h i (aa 0 (List.length b) b) j)),m,n,o,p))))))
      (.need (uP ((l+1) * 40) 140737488355328)<|.need (uP (l+1) 9223372036854775807)<|.need (uP 3 3)<|.need (uP l m)<|.need (decide ((qq (cW ((k:Nat):Int) ((c:Nat):Int) a (aa 0 a d) (aa 0 a e) (aa 0 a f) g h i (aa 0 (List.length b) b) j))+(qr (cW ((k:Nat):Int) ((c:Nat):Int) a (aa 0 a d) (aa 0 a e) (aa 0 a f) g h i (aa 0 (List.length b) b) j))≤List.length (qp (cW ((k:Nat):Int) ((c:Nat):Int) a (aa 0 a d) (aa 0 a e) (aa 0 a f) g h i (aa 0 (List.length b) b) j))))<|.leaf (.inl ((l+1),(nF (cW ((k:Nat):Int) ((c:Nat):Int) a (aa 0 a d) (aa 0 a e) (aa 0 a f) g h i (aa 0 (List.length b) b) j)),((List.take l n) ++ [(uE (cW ((k:Nat):Int) ((c:Nat):Int) a (aa 0 a d) (aa 0 a e) (aa 0 a f) g h i (aa 0 (List.length b) b) j))]),((List.take l o) ++ [(List.take (qr (cW ((k:Nat):Int) ((c:Nat):Int) a (aa 0 a d) (aa 0 a e) (aa 0 a f) g h i (aa 0 (List.length b) b) j)) (List.drop (qq (cW ((k:Nat):Int) ((c:Nat):Int) a (aa 0 a d) (aa 0 a e) (aa 0 a f) g h i (aa 0 (List.length b) b) j)) (qp (cW ((k:Nat):Int) ((c:Nat):Int) a (aa 0 a d) (aa 0 a e) (aa 0 a f) g h i (aa 0 (List.length b) b) j))))]),((List.take l p) ++ [(uF (cW ((k:Nat):Int) ((c:Nat):Int) a (aa 0 a d) (aa 0 a e) (aa 0 a f) g h i (aa 0 (List.length b) b) j))])))))
    (.leaf (.inr (.inl (l,r,t,m,n,o,p))))
def pX(b:Nat)(a:Nat)(c:Nat)(d:List Bool)(e:List (List Int))(f:List Int) :T ((Nat×Nat×Nat×Nat×Nat×(List Bool)×(List (List Int))×(List Int))⊕((Nat×Nat×Nat×Nat×(List Bool)×(List (List Int))×(List Int))⊕((Nat×Nat×Nat×Nat×(List Bool)×(List (List Int))×(List Int))⊕((Nat×Nat×Nat×Nat×(List Bool)×(List (List Int))×(List Int))⊕(aJ))))) :=
  .need (ej .i64 (((b+1):Nat):Int))<|.leaf (.inl (a,a,c,(b+1),a,d,e,f))
def km(b:Int)(c:Nat)(d:List Bool)(e:List (List Int))(f:List Int)(g:Int)(h:Int)(i:List Nat)(j:Bool)(k:List Int)(l:Int)(m:Nat) :Nat×Nat×Nat×Nat×Nat×(List Bool)×(List (List Int))×(List Int)→Option ((Nat×Nat×Nat×Nat×Nat×(List Bool)×(List (List Int))×(List Int))⊕((Nat×Nat×Nat×Nat×(List Bool)×(List (List Int))×(List Int))⊕((Nat×Nat×Nat×Nat×(List Bool)×(List (List Int))×(List Int))⊕((Nat×Nat×Nat×Nat×(List Bool)×(List (List Int))×(List Int))⊕(aJ))))):=fun (n,o,p,a,q,r,s,t) =>
  aH ((eP b c d e f g h i j k l m n o p a q r s t).run) fun (u,v,w,x,y) =>
  (pX a u v w x y).run
theorem zk(o:Int)(c:Int)(p:Lv)(q:Lv)(d:Nat)(e:List Bool)(f:List (List Int))(g:List Int)(r:Lv)(h:Int)(i:Int)(s:Lv)(j:List Nat)(t:Lv)(k:Bool)(u:Lv)(l:List Int)(m:Int)(b:Bool)(n:Nat)(w:Nat)(x:Nat)(y:Nat)(v:Nat)(z:Nat)(A:List Bool)(B:List (List Int))(D:List Int) :Sg prog [] kj (dL o c p q d e f g r h i s j t k u l m b n (w,x,y,v,z,A,B,D)) (km c d e f g h i j k l m n (w,x,y,v,z,A,B,D)) (dL o c p q d e f g r h i s j t k u l m b n) (aS 2 (eO o c p q d e f g r h i s j t k u l m b n) (aS 1 (cE o c p q d e f g r h i s j t k u l m b n) (aS 0 (bU b) bt))):=by
  unfold km;exact Sg.cut 3 (aN (aN (aN bC))) (Sg.seg (C:=C0) ap fb 60 (kj.take 3) (dL o c p q d e f g r h i s j t k u l m b n (w,x,y,v,z,A,B,D)) (eP c d e f g h i j k l m n w x y v z A B D) (pW o c p q d e f g r h i s j t k u l m b n v) (aS 2 (eO o c p q d e f g r h i s j t k u l m b n) (aS 1 (cE o c p q d e f g r h i s j t k u l m b n) (aS 0 (bU b) bt))) [⟨[],[1,2],[4,6,7]⟩,⟨[],[0,1,323],[1,2,4,6,7,8,13,14,18,19]⟩,⟨[],[0,1,2],[1,2,4,6,7,13,14]⟩] (by kernel_rfl)) (fun a=>by obtain ⟨E,F,G,H,I⟩:=a;exact Sg.seg (C:=C0) ap fb 60 (kj.drop 3) (pW o c p q d e f g r h i s j t k u l m b n v (E,F,G,H,I)) (pX v E F G H I) (dL o c p q d e f g r h i s j t k u l m b n) (aS 2 (eO o c p q d e f g r h i s j t k u l m b n) (aS 1 (cE o c p q d e f g r h i s j t k u l m b n) (aS 0 (bU b) bt))) [⟨[],[0,1,2],[1,2,4,6,7,8,13,14,18,19]⟩] (by kernel_rfl))
def zl(a:Int)(b:Int)(c:Lv)(d:Lv)(e:Nat)(f:List Bool)(g:List (List Int))(h:List Int)(i:Lv)(j:Int)(k:Int)(l:Lv)(m:List Nat)(n:Lv)(o:Bool)(p:Lv)(q:List Int)(r:Int)(s:Bool)(t:Nat) :Nat×Nat×Nat×Nat×(List Bool)×(List (List Int))×(List Int)→aM:=eO a b c d e f g h i j k l m n o p q r s t
def pY(a:Nat)(b:Nat)(c:Nat)(d:Nat)(e:List Bool)(f:List (List Int))(g:List Int) :T ((Nat×Nat×Nat×Nat×(List Bool)×(List (List Int))×(List Int))⊕((Nat×Nat×Nat×Nat×(List Bool)×(List (List Int))×(List Int))⊕((Nat×Nat×Nat×Nat×(List Bool)×(List (List Int))×(List Int))⊕(aJ)))) :=
  .leaf (.inl (a,b,c,d,e,f,g))
def zm(a:Int)(b:Int)(c:Lv)(d:Lv)(e:Nat)(f:List Bool)(g:List (List Int))(h:List Int)(i:Lv)(j:Int)(k:Int)(l:Lv)(m:List Nat)(n:Lv)(o:Bool)(p:Lv)(q:List Int)(r:Int)(s:Bool)(t:Nat) :Nat×Nat×Nat×Nat×(List Bool)×(List (List Int))×(List Int)→aM:=cE a b c d e f g h i j k l m n o p q r s t
def pZ(a:Nat)(b:Nat)(c:Nat)(d:Nat)(e:Nat)(f:List Bool)(g:List (List Int))(h:List Int) :T ((Nat×Nat×Nat×Nat×Nat×(List Bool)×(List (List Int))×(List Int))⊕((Nat×Nat×Nat×Nat×(List Bool)×(List (List Int))×(List Int))⊕(aJ))) :=
  .need (ej .i64 (((a+1):Nat):Int))<|.leaf (.inl (b,c,d,(a+1),e,f,g,h))
def ko(i:Int)(j:Int)(k:Nat)(l:List Bool)(m:List (List Int))(n:List Int)(o:Int)(p:Int)(q:List Nat)(r:Bool)(s:List Int)(t:Int) :Nat×Nat×Nat×Nat×Nat×(List Bool)×(List (List Int))×(List Int)→Option ((Nat×Nat×Nat×Nat×Nat×(List Bool)×(List (List Int))×(List Int))⊕((Nat×Nat×Nat×Nat×(List Bool)×(List (List Int))×(List Int))⊕(aJ))):=fun (b,c,d,a,e,f,g,h) =>
  aH ((f7 i b c d a e f g h).run) fun _ =>
  aH (Sf (aH ((pV).run) fun _ =>
  aH (eh (km j k l m n o p q r s t a) (b,c,d,0,e,f,g,h)) fun (u,v,w,x,y,z,A) =>
  (pY u v w x y z A).run)) fun (B,C,D,E,F,G,H) =>
  (pZ a B C D E F G H).run
theorem zo(c:Int)(d:Int)(p:Lv)(q:Lv)(e:Nat)(f:List Bool)(g:List (List Int))(h:List Int)(r:Lv)(i:Int)(j:Int)(t:Lv)(k:List Nat)(u:Lv)(l:Bool)(v:Lv)(m:List Int)(n:Int)(b:Bool)(w:Nat)(x:Nat)(y:Nat)(o:Nat)(z:Nat)(A:List Bool)(B:List (List Int))(D:List Int) :Sg prog [] dK (dJ c d p q e f g h r i j t k u l v m n b (w,x,y,o,z,A,B,D)) (ko c d e f g h i j k l m n (w,x,y,o,z,A,B,D)) (dJ c d p q e f g h r i j t k u l v m n b) (aS 0 (bU b) bt):=by
  unfold ko;exact Sg.cut 2 (aN bC) (Sg.seg (C:=C0) ap fb 60 (dK.take 2) (dJ c d p q e f g h r i j t k u l v m n b (w,x,y,o,z,A,B,D)) (f7 c w x y o z A B D) (pT c d p q e f g h r i j t k u l v m n b w x y o z A B D) (aS 0 (bU b) bt) [⟨[],[0,1,2],[1,2,4,6,7,13,14]⟩,⟨[],[1,2],[4,6,7]⟩] (by kernel_rfl)) (fun a=>by cases a;exact Sg.cut 1 (aN bC) (D1 (id:=1) (K:=(cE c d p q e f g h r i j t k u l v m n b o)) (by kernel_rfl:((dK.drop 2).take 1) = [.block 1 (inBlock ((((dK.drop 2).take 1)).headD .skip))]) (aN bC) (gL (by decide) (kJ _)) (Sg.cut 2 (aN (aN bC)) (Sg.seg (C:=C0) ap fb 60 (eN.take 2) (pT c d p q e f g h r i j t k u l v m n b w x y o z A B D ()) (pV) (pU c d p q e f g h r i j t k u l v m n b w x y o z A B D) (aS 1 (cE c d p q e f g h r i j t k u l v m n b o) (aS 0 (bU b) bt)) [⟨[],[0,1,2],[1,2,4,6,7,8,13,14,18,19]⟩] (by kernel_rfl)) (fun a=>by cases a;exact Sg.cut 1 (aN (aN bC)) (Sg.pre ⟨[],[0,1,2],[1,2,4,6,7,8,13,14,18,19]⟩ rfl (by kernel_rfl:NS.on ⟨[],[0,1,2],[1,2,4,6,7,8,13,14,18,19]⟩ (pU c d p q e f g h r i j t k u l v m n b w x y o z A B D ())=(dL c d p q e f g h r i j t k u l v m n b o) (w,x,y,0,z,A,B,D)) (cw (I:=(dL c d p q e f g h r i j t k u l v m n b o)) (J:=(eO c d p q e f g h r i j t k u l v m n b o)) (id:=2) (by kernel_rfl:((eN.drop 2).take 1) = [.block 2 (.loop (bW ((((eN.drop 2).take 1)).headD .skip)))]) (aN (aN bC)) (gL (by decide) (gL (by decide) (kJ _))) (fun s=>by obtain ⟨V,W,X,Y,Z,a0,a1,a2⟩:=s;exact zk c d p q e f g h r i j t k u l v m n b o V W X Y Z a0 a1 a2) (w,x,y,0,z,A,B,D))) (fun a=>by obtain ⟨E,F,G,H,L,M,N⟩:=a;exact Sg.seg (C:=C0) ap fb 60 ((eN.drop 2).drop 1) (zl c d p q e f g h r i j t k u l v m n b o (E,F,G,H,L,M,N)) (pY E F G H L M N) (cE c d p q e f g h r i j t k u l v m n b o) (aS 1 (cE c d p q e f g h r i j t k u l v m n b o) (aS 0 (bU b) bt)) [⟨[],[0,1,2],[1,2,4,6,7,13,14]⟩] (by kernel_rfl))))) (fun a=>by obtain ⟨O,P,Q,R,S,T,U⟩:=a;exact Sg.seg (C:=C0) ap fb 60 ((dK.drop 2).drop 1) (zm c d p q e f g h r i j t k u l v m n b o (O,P,Q,R,S,T,U)) (pZ o O P Q R S T U) (dJ c d p q e f g h r i j t k u l v m n b) (aS 0 (bU b) bt) [⟨[],[0,1,2],[1,2,4,6,7,13,14]⟩] (by kernel_rfl)))
def zp(a:Bool) :Nat×Nat×Nat×Nat×(List Bool)×(List (List Int))×(List Int)→aM:=bU a
def p5:Nat×Bool×(List Int)×Nat×Nat×Int→aM:=fun (a,b,c,d,e,f)=>⟨an 46 [(4,.ptr 0 1 0 0),(5,.int .i64 ((a:Nat):Int))],[(0,.vs [.bool false b,.imm .free (.ns .u64 c) 1 1 d e,.int .i64 f])],1⟩
def f9(a:Nat)(e:Nat)(f:Nat)(b:List Bool)(c:List (List Int))(d:List Int) :T ((Nat×Bool×(List Int)×Nat×Nat×Int)⊕(aJ)) :=
  .ask (((e:Nat):Int) != (0:Int))
    (.leaf (.inr (.r0 e false ([]:List Int) 0 0 (0:Int))))
    (.need (Nat.ble (0+a) f)<|.need (oz (bE a (aa 0 a b) (aa 0 a c) (aa 0 a d)))<|.leaf (.inl ((px (bE a (aa 0 a b) (aa 0 a c) (aa 0 a d))),(py (bE a (aa 0 a b) (aa 0 a c) (aa 0 a d))),(pz (bE a (aa 0 a b) (aa 0 a c) (aa 0 a d))),(pA (bE a (aa 0 a b) (aa 0 a c) (aa 0 a d))),(pB (bE a (aa 0 a b) (aa 0 a c) (aa 0 a d))),(pC (bE a (aa 0 a b) (aa 0 a c) (aa 0 a d))))))
def p6(a:Nat)(b:Bool)(c:List Int)(d:Nat)(e:Nat)(f:Int) :T ((Empty)⊕(aJ)) :=
  .leaf (.inr (.r0 a b c d e f))
def bd(a:Int)(b:Int)(c:Nat)(d:List Bool)(e:List (List Int))(f:List Int)(g:Int)(h:Int)(i:List Nat)(j:Bool)(k:List Int)(l:Int) :Option aJ:=me (aH ((pR).run) fun y =>
  aH ((pS).run) fun _ =>
  aH (eh (ko a b c d e f g h i j k l) (0,0,0,0,0,([]:List Bool),([]:List (List Int)),([]:List Int))) fun (m,z,n,o,p,q,r) =>
  aH ((f9 m n o p q r).run) fun (s,t,u,v,w,x) =>
  (p6 s t u v w x).run)
theorem Aa(e:Int)(f:Int)(o:Lv)(p:Lv)(b:Nat)(g:List Bool)(i:List (List Int))(j:List Int)(q:Lv)(k:Int)(l:Int)(r:Lv)(c:List Nat)(t:Lv)(m:Bool)(u:Lv)(d:List Int)(n:Int){x:aJ}(h:bd e f b g i j k l c m d n=some x) :ax prog du [] [.agg [.int .i64 e,.int .i64 f],.fn (.func c9) [] [.iptr o (.vs [.imm p (.cols b [.cb g,.cns .u64 i,.ci .i64 j]) 3 3 0 b]) 1 0 0,.iptr q (.vs [.int .i64 k,.int .i64 l,.imm r (.fl c) 1 1 0 (List.length c)]) 1 0 0,.iptr t (.vs [.bool false m,.imm u (.ns .u64 d) 1 1 0 (List.length d),.int .i64 n]) 1 0 0]] (lG x) :=
  Sg.contract true lG (by kernel_rfl:prog.funcs[du]? = some (FN du)) (by kernel_rfl:(FN du).body=some (bB du)) (Sg.cut 1 bC (Sg.seg (C:=C0) ap fb 60 (f6.take 1) (aT (FN du) [] [.agg [.int .i64 e,.int .i64 f],.fn (.func c9) [] [.iptr o (.vs [.imm p (.cols b [.cb g,.cns .u64 i,.ci .i64 j]) 3 3 0 b]) 1 0 0,.iptr q (.vs [.int .i64 k,.int .i64 l,.imm r (.fl c) 1 1 0 (List.length c)]) 1 0 0,.iptr t (.vs [.bool false m,.imm u (.ns .u64 d) 1 1 0 (List.length d),.int .i64 n]) 1 0 0]]) (pR) (qs e f o p b g i j q k l r c t m u d n) bt [⟨[],[0,16],[1,2,4]⟩] (by kernel_rfl)) (fun v=>by exact QP (by kernel_rfl:(f6.drop 1) = [.scope (NF (((f6.drop 1)).headD .skip))]) bC (Sg.cut 3 bC (Sg.seg (C:=C0) ap fb 60 (dI.take 3) (qs e f o p b g i j q k l r c t m u d n v) (pS) (qt e f o p b g i j q k l r c t m u d n v) bt [⟨[],[0,1],[1,2,4,6,7,13,14]⟩] (by kernel_rfl)) (fun a=>by cases a;exact Sg.cut 1 bC (Sg.pre ⟨[(.slot 6,.own 3 3 (.cols 0 [.cb ([]:List Bool),.cns .u64 ([]:List (List Int)),.ci .i64 ([]:List Int)]))],[0,1,2],[1,2,4,6,7,13,14]⟩ rfl (by kernel_rfl:NS.on ⟨[(.slot 6,.own 3 3 (.cols 0 [.cb ([]:List Bool),.cns .u64 ([]:List (List Int)),.ci .i64 ([]:List Int)]))],[0,1,2],[1,2,4,6,7,13,14]⟩ (qt e f o p b g i j q k l r c t m u d n v ())=(dJ e f o p b g i j q k l r c t m u d n v) (0,0,0,0,0,([]:List Bool),([]:List (List Int)),([]:List Int))) (cw (I:=(dJ e f o p b g i j q k l r c t m u d n v)) (J:=(bU v)) (id:=0) (by kernel_rfl:((dI.drop 3).take 1) = [.block 0 (.loop (bW ((((dI.drop 3).take 1)).headD .skip)))]) bC (kJ _) (fun s=>by obtain ⟨M,N,O,P,Q,R,S,T⟩:=s;exact zo e f o p b g i j q k l r c t m u d n v M N O P Q R S T) (0,0,0,0,0,([]:List Bool),([]:List (List Int)),([]:List Int)))) (fun a=>by obtain ⟨w,U,y,z,A,B,D⟩:=a;exact Sg.cut 3 bC (Sg.seg (C:=C0) ap fb 60 (((dI.drop 3).drop 1).take 3) (zp v (w,U,y,z,A,B,D)) (f9 w y z A B D) p5 bt [⟨[(.cell 0 1,.fre 1 1 (.ns .u64 ([]:List Int)))],[0],[4,5]⟩,⟨[],[0],[4,5]⟩] (by kernel_rfl)) (fun a=>by obtain ⟨E,F,G,H,K,L⟩:=a;exact Sg.seg (C:=C0) ap fb 60 (((dI.drop 3).drop 1).drop 3) (p5 (E,F,G,H,K,L)) (p6 E F G H K L) (fun a:Empty=>a.elim) bt [⟨[],[0],[4,5]⟩] (by kernel_rfl)))))))
    (fun x=>by cases x with | r0 V W X Y Z a0=>exact ⟨.inr rfl,[.agg [.bool false W,.imm .free (.ns .u64 X) 1 1 Y Z,.int .i64 a0],.int .i64 ((V:Nat):Int)],[],by kernel_rfl,trivial,by kernel_rfl⟩) h
def gQ:Option aJ→Bool
  | some _=>true
  | none=>false
def jN:Option aJ→Nat
  | some (.r0 x _ _ _ _ _)=>x
  | _=>0
def jO:Option aJ→Bool
  | some (.r0 _ x _ _ _ _)=>x
  | _=>false
def jP:Option aJ→List Int
  | some (.r0 _ _ x _ _ _)=>x
  | _=>[]
def jQ:Option aJ→Nat
  | some (.r0 _ _ _ x _ _)=>x
  | _=>0
def jR:Option aJ→Nat
  | some (.r0 _ _ _ _ x _)=>x
  | _=>0
def jS:Option aJ→Int
  | some (.r0 _ _ _ _ _ x)=>x
  | _=>0
theorem Ab{x:Option aJ}(h:gQ x=true) :x=some (.r0 (jN x) (jO x) (jP x) (jQ x) (jR x) (jS x)):=by
  unfold gQ at h
  split at h <;> first | rfl | (cases h;done) | (rename_i y;cases y;rfl)
def qG:aL:=cn du (.cons (.agg (.cons (.int .i64) (.cons (.int .i64) .nil))) (.cons (.fn c9 .nil (.cons (.ivs (.cons (.cols [.cb,.cns .u64,.ci .i64]) .nil) 1 0 0) (.cons (.ivs (.cons (.int .i64) (.cons (.int .i64) (.cons .fl .nil))) 1 0 0) (.cons (.ivs (.cons .bool (.cons (.ns .u64) (.cons (.int .i64) .nil))) 1 0 0) .nil)))) .nil)) fun t=>[⟨lG (.r0 (jN (bd t.1.1 t.1.2.1 t.2.1.2.1.2.1.2.1 t.2.1.2.1.2.1.2.2.1 t.2.1.2.1.2.1.2.2.2.1 t.2.1.2.1.2.1.2.2.2.2.1 t.2.1.2.2.1.2.1 t.2.1.2.2.1.2.2.1 t.2.1.2.2.1.2.2.2.1.2 t.2.1.2.2.2.1.2.1 t.2.1.2.2.2.1.2.2.1.2 t.2.1.2.2.2.1.2.2.2.1)) (jO (bd t.1.1 t.1.2.1 t.2.1.2.1.2.1.2.1 t.2.1.2.1.2.1.2.2.1 t.2.1.2.1.2.1.2.2.2.1 t.2.1.2.1.2.1.2.2.2.2.1 t.2.1.2.2.1.2.1 t.2.1.2.2.1.2.2.1 t.2.1.2.2.1.2.2.2.1.2 t.2.1.2.2.2.1.2.1 t.2.1.2.2.2.1.2.2.1.2 t.2.1.2.2.2.1.2.2.2.1)) (jP (bd t.1.1 t.1.2.1 t.2.1.2.1.2.1.2.1 t.2.1.2.1.2.1.2.2.1 t.2.1.2.1.2.1.2.2.2.1 t.2.1.2.1.2.1.2.2.2.2.1 t.2.1.2.2.1.2.1 t.2.1.2.2.1.2.2.1 t.2.1.2.2.1.2.2.2.1.2 t.2.1.2.2.2.1.2.1 t.2.1.2.2.2.1.2.2.1.2 t.2.1.2.2.2.1.2.2.2.1)) (jQ (bd t.1.1 t.1.2.1 t.2.1.2.1.2.1.2.1 t.2.1.2.1.2.1.2.2.1 t.2.1.2.1.2.1.2.2.2.1 t.2.1.2.1.2.1.2.2.2.2.1 t.2.1.2.2.1.2.1 t.2.1.2.2.1.2.2.1 t.2.1.2.2.1.2.2.2.1.2 t.2.1.2.2.2.1.2.1 t.2.1.2.2.2.1.2.2.1.2 t.2.1.2.2.2.1.2.2.2.1)) (jR (bd t.1.1 t.1.2.1 t.2.1.2.1.2.1.2.1 t.2.1.2.1.2.1.2.2.1 t.2.1.2.1.2.1.2.2.2.1 t.2.1.2.1.2.1.2.2.2.2.1 t.2.1.2.2.1.2.1 t.2.1.2.2.1.2.2.1 t.2.1.2.2.1.2.2.2.1.2 t.2.1.2.2.2.1.2.1 t.2.1.2.2.2.1.2.2.1.2 t.2.1.2.2.2.1.2.2.2.1)) (jS (bd t.1.1 t.1.2.1 t.2.1.2.1.2.1.2.1 t.2.1.2.1.2.1.2.2.1 t.2.1.2.1.2.1.2.2.2.1 t.2.1.2.1.2.1.2.2.2.2.1 t.2.1.2.2.1.2.1 t.2.1.2.2.1.2.2.1 t.2.1.2.2.1.2.2.2.1.2 t.2.1.2.2.2.1.2.1 t.2.1.2.2.2.1.2.2.1.2 t.2.1.2.2.2.1.2.2.2.1))),[gQ (bd t.1.1 t.1.2.1 t.2.1.2.1.2.1.2.1 t.2.1.2.1.2.1.2.2.1 t.2.1.2.1.2.1.2.2.2.1 t.2.1.2.1.2.1.2.2.2.2.1 t.2.1.2.2.1.2.1 t.2.1.2.2.1.2.2.1 t.2.1.2.2.1.2.2.2.1.2 t.2.1.2.2.2.1.2.1 t.2.1.2.2.2.1.2.2.1.2 t.2.1.2.2.2.1.2.2.2.1)]⟩]
theorem yT:aV prog qG:=aP fun t=>(aQ (fun h=>Aa t.1.1 t.1.2.1 t.2.1.2.1.1 t.2.1.2.1.2.1.1 t.2.1.2.1.2.1.2.1 t.2.1.2.1.2.1.2.2.1 t.2.1.2.1.2.1.2.2.2.1 t.2.1.2.1.2.1.2.2.2.2.1 t.2.1.2.2.1.1 t.2.1.2.2.1.2.1 t.2.1.2.2.1.2.2.1 t.2.1.2.2.1.2.2.2.1.1 t.2.1.2.2.1.2.2.2.1.2 t.2.1.2.2.2.1.1 t.2.1.2.2.2.1.2.1 t.2.1.2.2.2.1.2.2.1.1 t.2.1.2.2.2.1.2.2.1.2 t.2.1.2.2.2.1.2.2.2.1 (Ab h)) ba)
def qH:List aL:=qG :: PL
theorem dC:bf prog (bi qH):=aw yT fb
inductive fk where
  | r0 (a:Nat) (b:Bool) (c:List Int) (d:Nat) (e:Nat) (f:Int)
def xw:fk→AE×aM
  | .r0 a b c d e f=>(.ret,⟨an 32 [(2,.ptr 0 1 0 0),(3,.int .i64 ((a:Nat):Int))],[(0,.vs [.bool false b,.imm .free (.ns .u64 c) 1 1 d e,.int .i64 f])],1⟩)
theorem Dz:l9 xw:=by intro x;cases x <;> (intro h;cases h)
def MK:fk→jv
  | .r0 a b c d e f=>⟨.tup [.agg [.bool false b,.imm .free (.ns .u64 c) 1 1 d e,.int .i64 f],.int .i64 ((a:Nat):Int)],[]⟩
def yU:List Code:=bS (bB oH)
def Uo(b:Int)(c:Int)(d:Lv)(a:List Nat)(e:Bool) :aM:=⟨an 32 [(1,.ptr 0 1 0 0),(2,.ptr 1 1 0 0)],[(0,.vs [.int .i64 b,.int .i64 c,.imm d (.fl a) 1 1 0 (List.length a)]),(1,.vs [.bool false e,.nsl,.int .i64 (0:Int)])],2⟩
def JV(b : Int)(c : Int)(a : List Nat) : T ((Bool) ⊕ (fk)) :=
  .ask (decide ((0:Int) < (1:Int)))
    (.need (iC (0:Int) 1)<|.need (aR 0 (List.length a) a)<|.need (jz (d4 b c (aa 0 (List.length a) a)))<|.ask (iT (d4 b c (aa 0 (List.length a) a)))
      (.ask (!(!(decide ((0:Int) ≥ (0:Int)))))
        (.leaf (.inr (.r0 2 false ([]:List Int) 0 0 (0:Int))))
        (.fail))
      (.need (ej .i64 (1:Int))<|.ask (decide ((1:Int) < (1:Int)))
        (.fail)
        (.ask (!(!(decide ((-1:Int) ≥ (0:Int)))))
          (.fail)
          (.ask (decide ((0:Int) < (1:Int)))
            (.need (iC (0:Int) 1)<|.need (aR 0 (List.length a) a)<|.need (aZ (az (aa 0 (List.length a) a)))<|.ask (decide ((bb (az (aa 0 (List.length a) a))) ≥ (0:Int)))
              (.leaf (.inr (.r0 10 false ([]:List Int) 0 0 (0:Int))))
              (.need (ej .i64 (1:Int))<|.ask (decide ((1:Int) < (1:Int)))
                (.fail)
                (.leaf (.inl false))))
            (.fail)))))
    (.fail)
def Up(c:Int)(d:Int)(e:Lv)(a:List Nat)(f:Bool) :Nat×(List Bool)×(List (List Int))×(List Int)→aM:=fun (b,g,h,i)=>⟨an 32 [(1,.ptr 0 1 0 0),(2,.ptr 1 1 0 0),(4,.ptr 2 1 0 0)],[(0,.vs [.int .i64 c,.int .i64 d,.imm e (.fl a) 1 1 0 (List.length a)]),(1,.vs [.bool false f,.nsl,.int .i64 (0:Int)]),(2,.vs [.imm .free (.cols b [.cb g,.cns .u64 h,.ci .i64 i]) 3 3 0 b])],3⟩
def JW(a:List Nat) :T ((Nat×(List Bool)×(List (List Int))×(List Int))⊕(fk)) :=
  .need (aR 0 (List.length a) a)<|.need (jA (aA (aa 0 (List.length a) a)))<|.leaf (.inl ((aW (aA (aa 0 (List.length a) a))),(dD (aA (aa 0 (List.length a) a))),(dE (aA (aa 0 (List.length a) a))),(dF (aA (aa 0 (List.length a) a)))))
def Uq(c:Int)(d:Int)(e:Lv)(a:List Nat)(f:Bool)(b:Nat)(g:List Bool)(h:List (List Int))(i:List Int) :Bool×(List Int)×Nat×Nat×Int→aM:=fun (j,k,l,m,n)=>⟨an 32 [(1,.ptr 0 1 0 0),(2,.ptr 1 1 0 0),(4,.ptr 2 1 0 0),(5,.ptr 3 1 0 0)],[(0,.vs [.int .i64 c,.int .i64 d,.imm e (.fl a) 1 1 0 (List.length a)]),(1,.vs [.bool false f,.nsl,.int .i64 (0:Int)]),(2,.vs [.imm .free (.cols b [.cb g,.cns .u64 h,.ci .i64 i]) 3 3 0 b]),(3,.vs [.bool false j,.imm .free (.ns .u64 k) 1 1 l m,.int .i64 n])],4⟩
def JX:T ((Bool×(List Int)×Nat×Nat×Int)⊕(fk)) :=
  .need (pL (bk (1:Int)))<|.leaf (.inl ((j8 (bk (1:Int))),(iK (bk (1:Int))),(iL (bk (1:Int))),(iM (bk (1:Int))),(j9 (bk (1:Int)))))
def Ur:Nat×Bool×(List Int)×Nat×Nat×Int→aM:=fun (a,b,c,d,e,f)=>⟨an 32 [(2,.ptr 0 1 0 0),(3,.int .i64 ((a:Nat):Int))],[(0,.vs [.bool false b,.imm .free (.ns .u64 c) 1 1 d e,.int .i64 f])],1⟩
def DA(g:Int)(b:Int)(c:List Nat)(a:Nat)(h:List Bool)(i:List (List Int))(j:List Int)(k:Bool)(d:List Int)(e:Nat)(f:Nat)(l:Int) :T ((Nat×Bool×(List Int)×Nat×Nat×Int)⊕(fk)) :=
  .need (Nat.ble (0+a) a)<|.need (aR 0 (List.length c) c)<|.need (aR e f d)<|.need (gQ (bd b b a (aa 0 a h) (aa 0 a i) (aa 0 a j) g b (aa 0 (List.length c) c) k (aa e f d) l))<|.leaf (.inl ((jN (bd b b a (aa 0 a h) (aa 0 a i) (aa 0 a j) g b (aa 0 (List.length c) c) k (aa e f d) l)),(jO (bd b b a (aa 0 a h) (aa 0 a i) (aa 0 a j) g b (aa 0 (List.length c) c) k (aa e f d) l)),(jP (bd b b a (aa 0 a h) (aa 0 a i) (aa 0 a j) g b (aa 0 (List.length c) c) k (aa e f d) l)),(jQ (bd b b a (aa 0 a h) (aa 0 a i) (aa 0 a j) g b (aa 0 (List.length c) c) k (aa e f d) l)),(jR (bd b b a (aa 0 a h) (aa 0 a i) (aa 0 a j) g b (aa 0 (List.length c) c) k (aa e f d) l)),(jS (bd b b a (aa 0 a h) (aa 0 a i) (aa 0 a j) g b (aa 0 (List.length c) c) k (aa e f d) l))))
def PM(a:Nat)(b:Bool)(c:List Int)(d:Nat)(e:Nat)(f:Int) :T ((Empty)⊕(fk)) :=
  .leaf (.inr (.r0 a b c d e f))
def fK(b:Int)(c:Int)(a:List Nat) :Option fk:=me (aH ((JV b c a).run) fun s =>
  aH ((JW a).run) fun (d,e,f,g) =>
  aH ((JX).run) fun (h,i,j,k,l) =>
  aH ((DA b c a d e f g h i j k l).run) fun (m,n,o,p,q,r) =>
  (PM m n o p q r).run)
theorem ahr(c:Int)(d:Int)(e:Lv)(b:List Nat){x:fk}(h:fK c d b=some x) :ax prog oH [] [.agg [.int .i64 c,.int .i64 d,.imm e (.fl b) 1 1 0 (List.length b)]] (MK x) :=
  Sg.contract true MK (by kernel_rfl:prog.funcs[oH]? = some (FN oH)) (by kernel_rfl:(FN oH).body=some (bB oH)) (Sg.cut 2 Dz (Sg.seg (C:=C0) ap dC 60 (yU.take 2) (aT (FN oH) [] [.agg [.int .i64 c,.int .i64 d,.imm e (.fl b) 1 1 0 (List.length b)]]) (JV c d b) (Uo c d e b) xw [⟨[(.cell 16 1,.fre 1 1 (.ns .u64 ([]:List Int)))],[16],[2,3]⟩,⟨[(.cell 16 1,.fre 1 1 (.ns .u64 ([]:List Int)))],[16],[2,3]⟩,⟨[],[0,16],[1,2]⟩] (by kernel_rfl)) (fun f=>by exact Sg.cut 1 Dz (Sg.seg (C:=C0) ap dC 60 ((yU.drop 2).take 1) (Uo c d e b f) (JW b) (Up c d e b f) xw [⟨[],[0,1,50],[1,2,4]⟩] (by kernel_rfl)) (fun a=>by obtain ⟨g,i,j,k⟩:=a;exact Sg.cut 1 Dz (Sg.seg (C:=C0) ap dC 60 (((yU.drop 2).drop 1).take 1) (Up c d e b f (g,i,j,k)) (JX) (Uq c d e b f g i j k) xw [⟨[],[0,1,2,19],[1,2,4,5]⟩] (by kernel_rfl)) (fun a=>by obtain ⟨l,m,n,o,p⟩:=a;exact Sg.cut 1 Dz (Sg.seg (C:=C0) ap dC 60 ((((yU.drop 2).drop 1).drop 1).take 1) (Uq c d e b f g i j k (l,m,n,o,p)) (DA c d b g i j k l m n o p) Ur xw [⟨[],[1],[2,3]⟩] (by kernel_rfl)) (fun a=>by obtain ⟨q,r,s,t,u,v⟩:=a;exact Sg.seg (C:=C0) ap dC 60 ((((yU.drop 2).drop 1).drop 1).drop 1) (Ur (q,r,s,t,u,v)) (PM q r s t u v) (fun a:Empty=>a.elim) xw [⟨[],[0],[2,3]⟩] (by kernel_rfl))))))
    (fun x=>by cases x with | r0 w y z A B D=>exact ⟨.inr rfl,[.agg [.bool false y,.imm .free (.ns .u64 z) 1 1 A B,.int .i64 D],.int .i64 ((w:Nat):Int)],[],by kernel_rfl,trivial,by kernel_rfl⟩) h
def DB:Option fk→Bool
  | some _=>true
  | none=>false
def EX:Option fk→Nat
  | some (.r0 x _ _ _ _ _)=>x
  | _=>0
def EY:Option fk→Bool
  | some (.r0 _ x _ _ _ _)=>x
  | _=>false
def EZ:Option fk→List Int
  | some (.r0 _ _ x _ _ _)=>x
  | _=>[]
def E1:Option fk→Nat
  | some (.r0 _ _ _ x _ _)=>x
  | _=>0
def E3:Option fk→Nat
  | some (.r0 _ _ _ _ x _)=>x
  | _=>0
def E4:Option fk→Int
  | some (.r0 _ _ _ _ _ x)=>x
  | _=>0
theorem ahs{x:Option fk}(h:DB x=true) :x=some (.r0 (EX x) (EY x) (EZ x) (E1 x) (E3 x) (E4 x)):=by
  unfold DB at h
  split at h <;> first | rfl | (cases h;done) | (rename_i y;cases y;rfl)
def X3:aL:=cn oH (.cons (.agg (.cons (.int .i64) (.cons (.int .i64) (.cons .fl .nil)))) .nil) fun t=>[⟨MK (.r0 (EX (fK t.1.1 t.1.2.1 t.1.2.2.1.2)) (EY (fK t.1.1 t.1.2.1 t.1.2.2.1.2)) (EZ (fK t.1.1 t.1.2.1 t.1.2.2.1.2)) (E1 (fK t.1.1 t.1.2.1 t.1.2.2.1.2)) (E3 (fK t.1.1 t.1.2.1 t.1.2.2.1.2)) (E4 (fK t.1.1 t.1.2.1 t.1.2.2.1.2))),[DB (fK t.1.1 t.1.2.1 t.1.2.2.1.2)]⟩]
theorem abR:aV prog X3:=aP fun t=>(aQ (fun h=>ahr t.1.1 t.1.2.1 t.1.2.2.1.1 t.1.2.2.1.2 (ahs h)) ba)
def X4:List aL:=X3 :: qH
theorem tK:bf prog (bi X4):=aw abR dC
end
end Go.Plb.Seat
namespace Go.Plb.Seat
open Go Go.Plb
set_option linter.unusedVariables false
set_option maxRecDepth 100000
noncomputable section
inductive iU where
  | r0 (a:Bool) (b:Int)
def yV:iU→AE×aM
  | .r0 a b=>(.ret,⟨an 37 [(8,.bool false a),(9,.int .i64 b)],[],0⟩)
theorem Hv:l9 yV:=by intro x;cases x <;> (intro h;cases h)
def JY:iU→jv
  | .r0 a b=>⟨.tup [.bool false a,.int .i64 b],[]⟩
def Bq:List Code:=bS (bB mp)
def PN(b:Bool)(c:Lv)(a:List Int)(d:Int) :Nat×Bool×(List Int)×Nat×Nat×Int→aM:=fun (e,f,g,h,i,j)=>⟨an 37 [(1,.int .i64 ((e:Nat):Int)),(4,.ptr 0 1 0 0),(10,.ptr 1 1 0 0)],[(0,.vs [.bool false b,.imm c (.ns .u64 a) 1 1 0 (List.length a),.int .i64 d]),(1,.vs [.bool false f,.imm .free (.ns .u64 g) 1 1 h i,.int .i64 j])],2⟩
def Hw(g:Int)(c:Bool)(a:List Int)(d:Int)(e:Bool)(b:List Int)(f:Int) :T ((Nat×Bool×(List Int)×Nat×Nat×Int)⊕(iU)) :=
  .ask (g != (0:Int))
    (.leaf (.inr (.r0 false g)))
    (.need (aR 0 (List.length a) a)<|.need (aR 0 (List.length b) b)<|.need (qE (ay c (aa 0 (List.length a) a) d e (aa 0 (List.length b) b) f))<|.leaf (.inl ((mW (ay c (aa 0 (List.length a) a) d e (aa 0 (List.length b) b) f)),(da (ay c (aa 0 (List.length a) a) d e (aa 0 (List.length b) b) f)),(cT (ay c (aa 0 (List.length a) a) d e (aa 0 (List.length b) b) f)),(cU (ay c (aa 0 (List.length a) a) d e (aa 0 (List.length b) b) f)),(cV (ay c (aa 0 (List.length a) a) d e (aa 0 (List.length b) b) f)),(db (ay c (aa 0 (List.length a) a) d e (aa 0 (List.length b) b) f)))))
def PO:Nat×Int→aM:=fun (a,b)=>⟨an 37 [(1,.int .i64 ((a:Nat):Int)),(11,.int .i64 b)],[],0⟩
def Br(e:Bool)(a:List Int)(f:Int)(i:Nat)(g:Bool)(b:List Int)(c:Nat)(d:Nat)(h:Int) :T ((Nat×Int)⊕(iU)) :=
  .ask (((i:Nat):Int) != (0:Int))
    (.leaf (.inr (.r0 false ((i:Nat):Int))))
    (.need (aR 0 (List.length a) a)<|.need (aR c d b)<|.need (Gi (q8 e (aa 0 (List.length a) a) f g (aa c d b) h))<|.leaf (.inl ((GV (q8 e (aa 0 (List.length a) a) f g (aa c d b) h)),(GU (q8 e (aa 0 (List.length a) a) f g (aa c d b) h)))))
def PP(a:Nat)(b:Bool) :aM:=⟨an 37 [(8,.bool false b),(9,.int .i64 ((a:Nat):Int))],[],0⟩
def PQ(a:Nat)(b:Int) :T ((Bool)⊕(iU)) :=
  .ask (((a:Nat):Int) == (0:Int))
    (.leaf (.inl (decide (b≤(0:Int)))))
    (.leaf (.inl false))
def PR(a:Nat)(b:Bool) :T ((Empty)⊕(iU)) :=
  .leaf (.inr (.r0 b ((a:Nat):Int)))
def gS(b:Bool)(c:List Int)(d:Int)(e:Int)(f:Bool)(g:List Int)(h:Int)(i:Bool)(j:List Int)(k:Int) :Option iU:=me (aH ((Hw e f g h i j k).run) fun (l,m,n,o,p,q) =>
  aH ((Br b c d l m n o p q).run) fun (a,r) =>
  aH ((PQ a r).run) fun s =>
  (PR a s).run)
theorem adT(c:Bool)(i:Lv)(b:List Int)(d:Int)(j:Int)(k:Bool)(o:Lv)(e:List Int)(l:Int)(m:Bool)(p:Lv)(f:List Int)(n:Int){x:iU}(h:gS c b d j k e l m f n=some x) :ax prog mp [] [.agg [.bool false c,.imm i (.ns .u64 b) 1 1 0 (List.length b),.int .i64 d],.int .i64 j,.agg [.bool false k,.imm o (.ns .u64 e) 1 1 0 (List.length e),.int .i64 l],.agg [.bool false m,.imm p (.ns .u64 f) 1 1 0 (List.length f),.int .i64 n]] (JY x) :=
  Sg.contract true JY (by kernel_rfl:prog.funcs[mp]? = some (FN mp)) (by kernel_rfl:(FN mp).body=some (bB mp)) (Sg.cut 4 Hv (Sg.seg (C:=C0) ap tK 60 (Bq.take 4) (aT (FN mp) [] [.agg [.bool false c,.imm i (.ns .u64 b) 1 1 0 (List.length b),.int .i64 d],.int .i64 j,.agg [.bool false k,.imm o (.ns .u64 e) 1 1 0 (List.length e),.int .i64 l],.agg [.bool false m,.imm p (.ns .u64 f) 1 1 0 (List.length f),.int .i64 n]]) (Hw j k e l m f n) (PN c i b d) yV [⟨[],[],[8,9]⟩,⟨[],[0,208],[1,4,10]⟩] (by kernel_rfl)) (fun a=>by obtain ⟨q,r,s,t,u,v⟩:=a;exact Sg.cut 3 Hv (Sg.seg (C:=C0) ap tK 60 ((Bq.drop 4).take 3) (PN c i b d (q,r,s,t,u,v)) (Br c b d q r s t u v) PO yV [⟨[],[],[8,9]⟩,⟨[],[],[1,11]⟩] (by kernel_rfl)) (fun a=>by obtain ⟨g,w⟩:=a;exact Sg.cut 1 Hv (Sg.seg (C:=C0) ap tK 60 (((Bq.drop 4).drop 3).take 1) (PO (g,w)) (PQ g w) (PP g) yV [⟨[],[],[8,9]⟩,⟨[],[],[8,9]⟩] (by kernel_rfl)) (fun y=>by exact Sg.seg (C:=C0) ap tK 60 (((Bq.drop 4).drop 3).drop 1) (PP g y) (PR g y) (fun a:Empty=>a.elim) yV [⟨[],[],[8,9]⟩] (by kernel_rfl)))))
    (fun x=>by cases x with | r0 z A=>exact ⟨.inr rfl,[.bool false z,.int .i64 A],[],by kernel_rfl,trivial,by kernel_rfl⟩) h
def vH:Option iU→Bool
  | some _=>true
  | none=>false
def wq:Option iU→Bool
  | some (.r0 x _)=>x
  | _=>false
def ws:Option iU→Int
  | some (.r0 _ x)=>x
  | _=>0
theorem adU{x:Option iU}(h:vH x=true) :x=some (.r0 (wq x) (ws x)):=by
  unfold vH at h
  split at h <;> first | rfl | (cases h;done) | (rename_i y;cases y;rfl)
def Us:aL:=cn mp (.cons (.agg (.cons .bool (.cons (.ns .u64) (.cons (.int .i64) .nil)))) (.cons (.int .i64) (.cons (.agg (.cons .bool (.cons (.ns .u64) (.cons (.int .i64) .nil)))) (.cons (.agg (.cons .bool (.cons (.ns .u64) (.cons (.int .i64) .nil)))) .nil)))) fun t=>[⟨JY (.r0 (wq (gS t.1.1 t.1.2.1.2 t.1.2.2.1 t.2.1 t.2.2.1.1 t.2.2.1.2.1.2 t.2.2.1.2.2.1 t.2.2.2.1.1 t.2.2.2.1.2.1.2 t.2.2.2.1.2.2.1)) (ws (gS t.1.1 t.1.2.1.2 t.1.2.2.1 t.2.1 t.2.2.1.1 t.2.2.1.2.1.2 t.2.2.1.2.2.1 t.2.2.2.1.1 t.2.2.2.1.2.1.2 t.2.2.2.1.2.2.1))),[vH (gS t.1.1 t.1.2.1.2 t.1.2.2.1 t.2.1 t.2.2.1.1 t.2.2.1.2.1.2 t.2.2.1.2.2.1 t.2.2.2.1.1 t.2.2.2.1.2.1.2 t.2.2.2.1.2.2.1)]⟩]
theorem YN:aV prog Us:=aP fun t=>(aQ (fun h=>adT t.1.1 t.1.2.1.1 t.1.2.1.2 t.1.2.2.1 t.2.1 t.2.2.1.1 t.2.2.1.2.1.1 t.2.2.1.2.1.2 t.2.2.1.2.2.1 t.2.2.2.1.1 t.2.2.2.1.2.1.1 t.2.2.2.1.2.1.2 t.2.2.2.1.2.2.1 (adU h)) ba)
def Ut:List aL:=Us :: X4
theorem wt:bf prog (bi Ut):=aw YN tK
inductive jT where
  | r0 (a:Bool) (b:Int)
def DC:jT→AE×aM
  | .r0 a b=>(.ret,⟨an 18 [(2,.bool false a),(3,.int .i64 b)],[],0⟩)
theorem PS:l9 DC:=by intro x;cases x <;> (intro h;cases h)
def JZ:jT→jv
  | .r0 a b=>⟨.tup [.bool false a,.int .i64 b],[]⟩
def Hx:List Code:=bS (bB oK)
def PT(b:Lv)(c:Bool)(d:Lv)(a:List Int)(e:Int) :Nat×Bool×(List Int)×Nat×Nat×Int→aM:=fun (f,g,h,i,j,k)=>⟨an 18 [(1,.iptr b (.vs [.bool false c,.imm d (.ns .u64 a) 1 1 0 (List.length a),.int .i64 e]) 1 0 0),(4,.ptr 0 1 0 0),(5,.int .i64 ((f:Nat):Int))],[(0,.vs [.bool false g,.imm .free (.ns .u64 h) 1 1 i j,.int .i64 k])],1⟩
def Hy(b:Int)(c:Int)(a:List Nat) :T ((Nat×Bool×(List Int)×Nat×Nat×Int)⊕(jT)) :=
  .need (aR 0 (List.length a) a)<|.need (DB (fK b c (aa 0 (List.length a) a)))<|.leaf (.inl ((EX (fK b c (aa 0 (List.length a) a))),(EY (fK b c (aa 0 (List.length a) a))),(EZ (fK b c (aa 0 (List.length a) a))),(E1 (fK b c (aa 0 (List.length a) a))),(E3 (fK b c (aa 0 (List.length a) a))),(E4 (fK b c (aa 0 (List.length a) a)))))
def PU:Bool×Int→aM:=fun (a,b)=>⟨an 18 [(2,.bool false a),(3,.int .i64 b)],[],0⟩
def Bs(e:Bool)(a:List Int)(f:Int)(g:Nat)(h:Bool)(b:List Int)(c:Nat)(d:Nat)(i:Int) :T ((Bool×Int)⊕(jT)) :=
  .need (pL (bk (1:Int)))<|.need (aR c d b)<|.need (aR 0 (List.length a) a)<|.need (aR (iL (bk (1:Int))) (iM (bk (1:Int))) (iK (bk (1:Int))))<|.need (vH (gS h (aa c d b) i ((g:Nat):Int) e (aa 0 (List.length a) a) f (j8 (bk (1:Int))) (aa (iL (bk (1:Int))) (iM (bk (1:Int))) (iK (bk (1:Int)))) (j9 (bk (1:Int)))))<|.leaf (.inl ((wq (gS h (aa c d b) i ((g:Nat):Int) e (aa 0 (List.length a) a) f (j8 (bk (1:Int))) (aa (iL (bk (1:Int))) (iM (bk (1:Int))) (iK (bk (1:Int)))) (j9 (bk (1:Int))))),(ws (gS h (aa c d b) i ((g:Nat):Int) e (aa 0 (List.length a) a) f (j8 (bk (1:Int))) (aa (iL (bk (1:Int))) (iM (bk (1:Int))) (iK (bk (1:Int)))) (j9 (bk (1:Int)))))))
def PV(a:Bool)(b:Int) :T ((Empty)⊕(jT)) :=
  .leaf (.inr (.r0 a b))
def lh(a:Int)(b:Int)(c:List Nat)(d:Bool)(e:List Int)(f:Int) :Option jT:=me (aH ((Hy a b c).run) fun (g,h,i,j,k,l) =>
  aH ((Bs d e f g h i j k l).run) fun (m,n) =>
  (PV m n).run)
theorem adV(k:Lv)(f:Int)(g:Int)(l:Lv)(c:List Nat)(i:Lv)(d:Bool)(j:Lv)(b:List Int)(e:Int){x:jT}(h:lh f g c d b e=some x) :ax prog oK [] [.iptr k (.vs [.int .i64 f,.int .i64 g,.imm l (.fl c) 1 1 0 (List.length c)]) 1 0 0,.iptr i (.vs [.bool false d,.imm j (.ns .u64 b) 1 1 0 (List.length b),.int .i64 e]) 1 0 0] (JZ x) :=
  Sg.contract false JZ (by kernel_rfl:prog.funcs[oK]? = some (FN oK)) (by kernel_rfl:(FN oK).body=some (bB oK)) (Sg.cut 2 PS (Sg.seg (C:=C0) ap wt 60 (Hx.take 2) (aT (FN oK) [] [.iptr k (.vs [.int .i64 f,.int .i64 g,.imm l (.fl c) 1 1 0 (List.length c)]) 1 0 0,.iptr i (.vs [.bool false d,.imm j (.ns .u64 b) 1 1 0 (List.length b),.int .i64 e]) 1 0 0]) (Hy f g c) (PT i d j b e) DC [⟨[],[112],[1,4,5]⟩] (by kernel_rfl)) (fun a=>by obtain ⟨m,n,o,p,q,r⟩:=a;exact Sg.cut 1 PS (Sg.seg (C:=C0) ap wt 60 ((Hx.drop 2).take 1) (PT i d j b e (m,n,o,p,q,r)) (Bs d b e m n o p q r) PU DC [⟨[],[],[2,3]⟩] (by kernel_rfl)) (fun a=>by obtain ⟨s,t⟩:=a;exact Sg.seg (C:=C0) ap wt 60 ((Hx.drop 2).drop 1) (PU (s,t)) (PV s t) (fun a:Empty=>a.elim) DC [⟨[],[],[2,3]⟩] (by kernel_rfl))))
    (fun x=>by cases x with | r0 u v=>exact ⟨.inr rfl,[.bool false u,.int .i64 v],[],by kernel_rfl,trivial,by kernel_rfl⟩) h
def vI:Option jT→Bool
  | some _=>true
  | none=>false
def wu:Option jT→Bool
  | some (.r0 x _)=>x
  | _=>false
def oA:Option jT→Int
  | some (.r0 _ x)=>x
  | _=>0
theorem adW{x:Option jT}(h:vI x=true) :x=some (.r0 (wu x) (oA x)):=by
  unfold vI at h
  split at h <;> first | rfl | (cases h;done) | (rename_i y;cases y;rfl)
def Uu:aL:=cn oK (.cons (.ivs (.cons (.int .i64) (.cons (.int .i64) (.cons .fl .nil))) 1 0 0) (.cons (.ivs (.cons .bool (.cons (.ns .u64) (.cons (.int .i64) .nil))) 1 0 0) .nil)) fun t=>[⟨JZ (.r0 (wu (lh t.1.2.1 t.1.2.2.1 t.1.2.2.2.1.2 t.2.1.2.1 t.2.1.2.2.1.2 t.2.1.2.2.2.1)) (oA (lh t.1.2.1 t.1.2.2.1 t.1.2.2.2.1.2 t.2.1.2.1 t.2.1.2.2.1.2 t.2.1.2.2.2.1))),[vI (lh t.1.2.1 t.1.2.2.1 t.1.2.2.2.1.2 t.2.1.2.1 t.2.1.2.2.1.2 t.2.1.2.2.2.1)]⟩]
theorem YO:aV prog Uu:=aP fun t=>(aQ (fun h=>adV t.1.1 t.1.2.1 t.1.2.2.1 t.1.2.2.2.1.1 t.1.2.2.2.1.2 t.2.1.1 t.2.1.2.1 t.2.1.2.2.1.1 t.2.1.2.2.1.2 t.2.1.2.2.2.1 (adW h)) ba)
def Uv:List aL:=Uu :: Ut
theorem rY:bf prog (bi Uv):=aw YO wt
inductive cK where
  | r0 (a:Nat) (b:Bool) (c:List Int) (d:Nat) (e:Nat) (f:Int)
def pD:cK→AE×aM
  | .r0 a b c d e f=>(.ret,⟨an 65 [(11,.ptr 0 1 0 0),(12,.int .i64 ((a:Nat):Int))],[(0,.vs [.bool false b,.imm .free (.ns .u64 c) 1 1 d e,.int .i64 f])],1⟩)
theorem wP:l9 pD:=by intro x;cases x <;> (intro h;cases h)
def yW:cK→jv
  | .r0 a b c d e f=>⟨.tup [.agg [.bool false b,.imm .free (.ns .u64 c) 1 1 d e,.int .i64 f],.int .i64 ((a:Nat):Int)],[]⟩
def rj:List Code:=bS (bB bZ)
def E5(d:Int)(e:Int)(f:Lv)(g:Lv)(a:Nat)(h:List Bool)(i:List (List Int))(j:List Int)(k:Lv)(l:Int)(m:Int)(n:Lv)(b:List Nat)(o:Lv)(p:Lv)(c:Nat)(q:List Bool)(r:List (List Int))(s:List Int) :Nat×Bool×Bool×(List Int)×Nat×Nat×Int→aM:=fun (t,u,v,w,x,y,z)=>⟨an 65 [(0,.int .i64 d),(1,.int .i64 e),(6,.iptr f (.vs [.imm g (.cols a [.cb h,.cns .u64 i,.ci .i64 j]) 3 3 0 a]) 1 0 0),(7,.iptr k (.vs [.int .i64 l,.int .i64 m,.imm n (.fl b) 1 1 0 (List.length b)]) 1 0 0),(8,.iptr o (.vs [.imm p (.cols c [.cb q,.cns .u64 r,.ci .i64 s]) 3 3 0 c]) 1 0 0),(11,.ptr 0 1 0 0),(13,.ptr 1 1 0 0),(14,.int .i64 ((t:Nat):Int))],[(0,.vs [.bool false u,.nsl,.int .i64 (0:Int)]),(1,.vs [.bool false v,.imm .free (.ns .u64 w) 1 1 x y,.int .i64 z])],2⟩
def wQ(d:Int)(e:Int)(a:Nat)(f:List Bool)(g:List (List Int))(h:List Int)(c:Int)(b:Nat)(i:List Bool)(j:List (List Int))(k:List Int)(l:Int) :T ((Nat×Bool×Bool×(List Int)×Nat×Nat×Int)⊕(cK)) :=
  .need (ej .i64 (d * c))<|.need (Nat.ble (0+a) a)<|.need (mM (ac a (aa 0 a f) (aa 0 a g) (aa 0 a h) (d * c) (1:Int) c))<|.need (Nat.ble (0+b) b)<|.need (mM (ac b (aa 0 b i) (aa 0 b j) (aa 0 b k) e l c))<|.need (Nat.ble (0+(ah (ac a (aa 0 a f) (aa 0 a g) (aa 0 a h) (d * c) (1:Int) c))) (ah (ac a (aa 0 a f) (aa 0 a g) (aa 0 a h) (d * c) (1:Int) c)))<|.need (Nat.ble (0+(ah (ac b (aa 0 b i) (aa 0 b j) (aa 0 b k) e l c))) (ah (ac b (aa 0 b i) (aa 0 b j) (aa 0 b k) e l c)))<|.need (xu (cR (ah (ac a (aa 0 a f) (aa 0 a g) (aa 0 a h) (d * c) (1:Int) c)) (aa 0 (ah (ac a (aa 0 a f) (aa 0 a g) (aa 0 a h) (d * c) (1:Int) c)) (bv (ac a (aa 0 a f) (aa 0 a g) (aa 0 a h) (d * c) (1:Int) c))) (aa 0 (ah (ac a (aa 0 a f) (aa 0 a g) (aa 0 a h) (d * c) (1:Int) c)) (bx (ac a (aa 0 a f) (aa 0 a g) (aa 0 a h) (d * c) (1:Int) c))) (aa 0 (ah (ac a (aa 0 a f) (aa 0 a g) (aa 0 a h) (d * c) (1:Int) c)) (bz (ac a (aa 0 a f) (aa 0 a g) (aa 0 a h) (d * c) (1:Int) c))) (ah (ac b (aa 0 b i) (aa 0 b j) (aa 0 b k) e l c)) (aa 0 (ah (ac b (aa 0 b i) (aa 0 b j) (aa 0 b k) e l c)) (bv (ac b (aa 0 b i) (aa 0 b j) (aa 0 b k) e l c))) (aa 0 (ah (ac b (aa 0 b i) (aa 0 b j) (aa 0 b k) e l c)) (bx (ac b (aa 0 b i) (aa 0 b j) (aa 0 b k) e l c))) (aa 0 (ah (ac b (aa 0 b i) (aa 0 b j) (aa 0 b k) e l c)) (bz (ac b (aa 0 b i) (aa 0 b j) (aa 0 b k) e l c)))))<|.leaf (.inl ((vz (cR (ah (ac a (aa 0 a f) (aa 0 a g) (aa 0 a h) (d * c) (1:Int) c)) (aa 0 (ah (ac a (aa 0 a f) (aa 0 a g) (aa 0 a h) (d * c) (1:Int) c)) (bv (ac a (aa 0 a f) (aa 0 a g) (aa 0 a h) (d * c) (1:Int) c))) (aa 0 (ah (ac a (aa 0 a f) (aa 0 a g) (aa 0 a h) (d * c) (1:Int) c)) (bx (ac a (aa 0 a f) (aa 0 a g) (aa 0 a h) (d * c) (1:Int) c))) (aa 0 (ah (ac a (aa 0 a f) (aa 0 a g) (aa 0 a h) (d * c) (1:Int) c)) (bz (ac a (aa 0 a f) (aa 0 a g) (aa 0 a h) (d * c) (1:Int) c))) (ah (ac b (aa 0 b i) (aa 0 b j) (aa 0 b k) e l c)) (aa 0 (ah (ac b (aa 0 b i) (aa 0 b j) (aa 0 b k) e l c)) (bv (ac b (aa 0 b i) (aa 0 b j) (aa 0 b k) e l c))) (aa 0 (ah (ac b (aa 0 b i) (aa 0 b j) (aa 0 b k) e l c)) (bx (ac b (aa 0 b i) (aa 0 b j) (aa 0 b k) e l c))) (aa 0 (ah (ac b (aa 0 b i) (aa 0 b j) (aa 0 b k) e l c)) (bz (ac b (aa 0 b i) (aa 0 b j) (aa 0 b k) e l c))))),false,(vA (cR (ah (ac a (aa 0 a f) (aa 0 a g) (aa 0 a h) (d * c) (1:Int) c)) (aa 0 (ah (ac a (aa 0 a f) (aa 0 a g) (aa 0 a h) (d * c) (1:Int) c)) (bv (ac a (aa 0 a f) (aa 0 a g) (aa 0 a h) (d * c) (1:Int) c))) (aa 0 (ah (ac a (aa 0 a f) (aa 0 a g) (aa 0 a h) (d * c) (1:Int) c)) (bx (ac a (aa 0 a f) (aa 0 a g) (aa 0 a h) (d * c) (1:Int) c))) (aa 0 (ah (ac a (aa 0 a f) (aa 0 a g) (aa 0 a h) (d * c) (1:Int) c)) (bz (ac a (aa 0 a f) (aa 0 a g) (aa 0 a h) (d * c) (1:Int) c))) (ah (ac b (aa 0 b i) (aa 0 b j) (aa 0 b k) e l c)) (aa 0 (ah (ac b (aa 0 b i) (aa 0 b j) (aa 0 b k) e l c)) (bv (ac b (aa 0 b i) (aa 0 b j) (aa 0 b k) e l c))) (aa 0 (ah (ac b (aa 0 b i) (aa 0 b j) (aa 0 b k) e l c)) (bx (ac b (aa 0 b i) (aa 0 b j) (aa 0 b k) e l c))) (aa 0 (ah (ac b (aa 0 b i) (aa 0 b j) (aa 0 b k) e l c)) (bz (ac b (aa 0 b i) (aa 0 b j) (aa 0 b k) e l c))))),(vB (cR (ah (ac a (aa 0 a f) (aa 0 a g) (aa 0 a h) (d * c) (1:Int) c)) (aa 0 (ah (ac a (aa 0 a f) (aa 0 a g) (aa 0 a h) (d * c) (1:Int) c)) (bv (ac a (aa 0 a f) (aa 0 a g) (aa 0 a h) (d * c) (1:Int) c))) (aa 0 (ah (ac a (aa 0 a f) (aa 0 a g) (aa 0 a h) (d * c) (1:Int) c)) (bx (ac a (aa 0 a f) (aa 0 a g) (aa 0 a h) (d * c) (1:Int) c))) (aa 0 (ah (ac a (aa 0 a f) (aa 0 a g) (aa 0 a h) (d * c) (1:Int) c)) (bz (ac a (aa 0 a f) (aa 0 a g) (aa 0 a h) (d * c) (1:Int) c))) (ah (ac b (aa 0 b i) (aa 0 b j) (aa 0 b k) e l c)) (aa 0 (ah (ac b (aa 0 b i) (aa 0 b j) (aa 0 b k) e l c)) (bv (ac b (aa 0 b i) (aa 0 b j) (aa 0 b k) e l c))) (aa 0 (ah (ac b (aa 0 b i) (aa 0 b j) (aa 0 b k) e l c)) (bx (ac b (aa 0 b i) (aa 0 b j) (aa 0 b k) e l c))) (aa 0 (ah (ac b (aa 0 b i) (aa 0 b j) (aa 0 b k) e l c)) (bz (ac b (aa 0 b i) (aa 0 b j) (aa 0 b k) e l c))))),(vC (cR (ah (ac a (aa 0 a f) (aa 0 a g) (aa 0 a h) (d * c) (1:Int) c)) (aa 0 (ah (ac a (aa 0 a f) (aa 0 a g) (aa 0 a h) (d * c) (1:Int) c)) (bv (ac a (aa 0 a f) (aa 0 a g) (aa 0 a h) (d * c) (1:Int) c))) (aa 0 (ah (ac a (aa 0 a f) (aa 0 a g) (aa 0 a h) (d * c) (1:Int) c)) (bx (ac a (aa 0 a f) (aa 0 a g) (aa 0 a h) (d * c) (1:Int) c))) (aa 0 (ah (ac a (aa 0 a f) (aa 0 a g) (aa 0 a h) (d * c) (1:Int) c)) (bz (ac a (aa 0 a f) (aa 0 a g) (aa 0 a h) (d * c) (1:Int) c))) (ah (ac b (aa 0 b i) (aa 0 b j) (aa 0 b k) e l c)) (aa 0 (ah (ac b (aa 0 b i) (aa 0 b j) (aa 0 b k) e l c)) (bv (ac b (aa 0 b i) (aa 0 b j) (aa 0 b k) e l c))) (aa 0 (ah (ac b (aa 0 b i) (aa 0 b j) (aa 0 b k) e l c)) (bx (ac b (aa 0 b i) (aa 0 b j) (aa 0 b k) e l c))) (aa 0 (ah (ac b (aa 0 b i) (aa 0 b j) (aa 0 b k) e l c)) (bz (ac b (aa 0 b i) (aa 0 b j) (aa 0 b k) e l c))))),(vD (cR (ah (ac a (aa 0 a f) (aa 0 a g) (aa 0 a h) (d * c) (1:Int) c)) (aa 0 (ah (ac a (aa 0 a f) (aa 0 a g) (aa 0 a h) (d * c) (1:Int) c)) (bv (ac a (aa 0 a f) (aa 0 a g) (aa 0 a h) (d * c) (1:Int) c))) (aa 0 (ah (ac a (aa 0 a f) (aa 0 a g) (aa 0 a h) (d * c) (1:Int) c)) (bx (ac a (aa 0 a f) (aa 0 a g) (aa 0 a h) (d * c) (1:Int) c))) (aa 0 (ah (ac a (aa 0 a f) (aa 0 a g) (aa 0 a h) (d * c) (1:Int) c)) (bz (ac a (aa 0 a f) (aa 0 a g) (aa 0 a h) (d * c) (1:Int) c))) (ah (ac b (aa 0 b i) (aa 0 b j) (aa 0 b k) e l c)) (aa 0 (ah (ac b (aa 0 b i) (aa 0 b j) (aa 0 b k) e l c)) (bv (ac b (aa 0 b i) (aa 0 b j) (aa 0 b k) e l c))) (aa 0 (ah (ac b (aa 0 b i) (aa 0 b j) (aa 0 b k) e l c)) (bx (ac b (aa 0 b i) (aa 0 b j) (aa 0 b k) e l c))) (aa 0 (ah (ac b (aa 0 b i) (aa 0 b j) (aa 0 b k) e l c)) (bz (ac b (aa 0 b i) (aa 0 b j) (aa 0 b k) e l c))))),(vE (cR (ah (ac a (aa 0 a f) (aa 0 a g) (aa 0 a h) (d * c) (1:Int) c)) (aa 0 (ah (ac a (aa 0 a f) (aa 0 a g) (aa 0 a h) (d * c) (1:Int) c)) (bv (ac a (aa 0 a f) (aa 0 a g) (aa 0 a h) (d * c) (1:Int) c))) (aa 0 (ah (ac a (aa 0 a f) (aa 0 a g) (aa 0 a h) (d * c) (1:Int) c)) (bx (ac a (aa 0 a f) (aa 0 a g) (aa 0 a h) (d * c) (1:Int) c))) (aa 0 (ah (ac a (aa 0 a f) (aa 0 a g) (aa 0 a h) (d * c) (1:Int) c)) (bz (ac a (aa 0 a f) (aa 0 a g) (aa 0 a h) (d * c) (1:Int) c))) (ah (ac b (aa 0 b i) (aa 0 b j) (aa 0 b k) e l c)) (aa 0 (ah (ac b (aa 0 b i) (aa 0 b j) (aa 0 b k) e l c)) (bv (ac b (aa 0 b i) (aa 0 b j) (aa 0 b k) e l c))) (aa 0 (ah (ac b (aa 0 b i) (aa 0 b j) (aa 0 b k) e l c)) (bx (ac b (aa 0 b i) (aa 0 b j) (aa 0 b k) e l c))) (aa 0 (ah (ac b (aa 0 b i) (aa 0 b j) (aa 0 b k) e l c)) (bz (ac b (aa 0 b i) (aa 0 b j) (aa 0 b k) e l c)))))))
def E6(a:Bool)(b:Bool)(c:List Int)(d:Nat)(e:Nat)(f:Int) :Nat×Bool×(List Int)×Nat×Nat×Int→aM:=fun (g,h,i,j,k,l)=>⟨an 65 [(11,.ptr 0 1 0 0),(13,.ptr 1 1 0 0),(14,.int .i64 ((g:Nat):Int)),(15,.ptr 2 1 0 0)],[(0,.vs [.bool false a,.nsl,.int .i64 (0:Int)]),(1,.vs [.bool false b,.imm .free (.ns .u64 c) 1 1 d e,.int .i64 f]),(2,.vs [.bool false h,.imm .free (.ns .u64 i) 1 1 j k,.int .i64 l])],3⟩
def rl(b:Int)(a:Int)(k:Nat)(f:List Bool)(d:List (List Int))(g:List Int)(c:Int)(l:Nat)(h:List Bool)(e:List (List Int))(i:List Int)(j:Nat) :T ((Nat×Bool×(List Int)×Nat×Nat×Int)⊕(cK)) :=
  .ask (((j:Nat):Int) != (0:Int))
    (.leaf (.inr (.r0 j false ([]:List Int) 0 0 (0:Int))))
    (.need (ej .i64 (b * c))<|.need (ej .i64 ((b * c)+a))<|.need (iC ((b * c)+a) k)<|.need (jt (Int.toNat ((b * c)+a)) (List.length f))<|.need (jt (Int.toNat ((b * c)+a)) (List.length d))<|.need (jt (Int.toNat ((b * c)+a)) (List.length g))<|.need (iC a l)<|.need (jt (Int.toNat a) (List.length h))<|.need (jt (Int.toNat a) (List.length e))<|.need (jt (Int.toNat a) (List.length i))<|.need (aR 0 (List.length (List.getD d (Int.toNat ((b * c)+a)) [])) (List.getD d (Int.toNat ((b * c)+a)) []))<|.need (aR 0 (List.length (List.getD e (Int.toNat a) [])) (List.getD e (Int.toNat a) []))<|.need (qE (ay (List.getD f (Int.toNat ((b * c)+a)) false) (aa 0 (List.length (List.getD d (Int.toNat ((b * c)+a)) [])) (List.getD d (Int.toNat ((b * c)+a)) [])) (List.getD g (Int.toNat ((b * c)+a)) 0) (List.getD h (Int.toNat a) false) (aa 0 (List.length (List.getD e (Int.toNat a) [])) (List.getD e (Int.toNat a) [])) (List.getD i (Int.toNat a) 0)))<|.leaf (.inl ((mW (ay (List.getD f (Int.toNat ((b * c)+a)) false) (aa 0 (List.length (List.getD d (Int.toNat ((b * c)+a)) [])) (List.getD d (Int.toNat ((b * c)+a)) [])) (List.getD g (Int.toNat ((b * c)+a)) 0) (List.getD h (Int.toNat a) false) (aa 0 (List.length (List.getD e (Int.toNat a) [])) (List.getD e (Int.toNat a) [])) (List.getD i (Int.toNat a) 0))),(da (ay (List.getD f (Int.toNat ((b * c)+a)) false) (aa 0 (List.length (List.getD d (Int.toNat ((b * c)+a)) [])) (List.getD d (Int.toNat ((b * c)+a)) [])) (List.getD g (Int.toNat ((b * c)+a)) 0) (List.getD h (Int.toNat a) false) (aa 0 (List.length (List.getD e (Int.toNat a) [])) (List.getD e (Int.toNat a) [])) (List.getD i (Int.toNat a) 0))),(cT (ay (List.getD f (Int.toNat ((b * c)+a)) false) (aa 0 (List.length (List.getD d (Int.toNat ((b * c)+a)) [])) (List.getD d (Int.toNat ((b * c)+a)) [])) (List.getD g (Int.toNat ((b * c)+a)) 0) (List.getD h (Int.toNat a) false) (aa 0 (List.length (List.getD e (Int.toNat a) [])) (List.getD e (Int.toNat a) [])) (List.getD i (Int.toNat a) 0))),(cU (ay (List.getD f (Int.toNat ((b * c)+a)) false) (aa 0 (List.length (List.getD d (Int.toNat ((b * c)+a)) [])) (List.getD d (Int.toNat ((b * c)+a)) [])) (List.getD g (Int.toNat ((b * c)+a)) 0) (List.getD h (Int.toNat a) false) (aa 0 (List.length (List.getD e (Int.toNat a) [])) (List.getD e (Int.toNat a) [])) (List.getD i (Int.toNat a) 0))),(cV (ay (List.getD f (Int.toNat ((b * c)+a)) false) (aa 0 (List.length (List.getD d (Int.toNat ((b * c)+a)) [])) (List.getD d (Int.toNat ((b * c)+a)) [])) (List.getD g (Int.toNat ((b * c)+a)) 0) (List.getD h (Int.toNat a) false) (aa 0 (List.length (List.getD e (Int.toNat a) [])) (List.getD e (Int.toNat a) [])) (List.getD i (Int.toNat a) 0))),(db (ay (List.getD f (Int.toNat ((b * c)+a)) false) (aa 0 (List.length (List.getD d (Int.toNat ((b * c)+a)) [])) (List.getD d (Int.toNat ((b * c)+a)) [])) (List.getD g (Int.toNat ((b * c)+a)) 0) (List.getD h (Int.toNat a) false) (aa 0 (List.length (List.getD e (Int.toNat a) [])) (List.getD e (Int.toNat a) [])) (List.getD i (Int.toNat a) 0))))))
def E7:Nat×Bool×(List Int)×Nat×Nat×Int→aM:=fun (a,b,c,d,e,f)=>⟨an 65 [(11,.ptr 0 1 0 0),(12,.int .i64 ((a:Nat):Int))],[(0,.vs [.bool false b,.imm .free (.ns .u64 c) 1 1 d e,.int .i64 f])],1⟩
def rm(g:Bool)(a:List Int)(b:Nat)(c:Nat)(h:Int)(k:Nat)(i:Bool)(d:List Int)(e:Nat)(f:Nat)(j:Int) :T ((Nat×Bool×(List Int)×Nat×Nat×Int)⊕(cK)) :=
  .ask (((k:Nat):Int) != (0:Int))
    (.leaf (.inr (.r0 k false ([]:List Int) 0 0 (0:Int))))
    (.need (aR b c a)<|.need (aR e f d)<|.need (BZ (dZ g (aa b c a) h i (aa e f d) j))<|.leaf (.inl ((Bk (dZ g (aa b c a) h i (aa e f d) j)),(Bl (dZ g (aa b c a) h i (aa e f d) j)),(Bm (dZ g (aa b c a) h i (aa e f d) j)),(Bn (dZ g (aa b c a) h i (aa e f d) j)),(Bo (dZ g (aa b c a) h i (aa e f d) j)),(Bp (dZ g (aa b c a) h i (aa e f d) j)))))
def E8(a:Nat)(b:Bool)(c:List Int)(d:Nat)(e:Nat)(f:Int) :T ((Empty)⊕(cK)) :=
  .leaf (.inr (.r0 a b c d e f))
def bR(a:Int)(b:Int)(c:Nat)(d:List Bool)(e:List (List Int))(f:List Int)(g:Int)(h:Nat)(i:List Bool)(j:List (List Int))(k:List Int)(l:Int)(m:Nat)(n:List Bool)(o:List (List Int))(p:List Int)(q:Int)(r:Nat)(s:List Bool)(t:List (List Int))(u:List Int) :Option cK:=me (aH ((wQ a b c d e f g h i j k l).run) fun (v,N,w,x,y,z,A) =>
  aH ((rl a b m n o p q r s t u v).run) fun (B,C,D,E,F,G) =>
  aH ((rm w x y z A B C D E F G).run) fun (H,I,J,K,L,M) =>
  (E8 H I J K L M).run)
theorem Ru(d:Int)(e:Int)(P:Lv)(Q:Lv)(f:Nat)(q:List Bool)(r:List (List Int))(s:List Int)(R:Lv)(S:Int)(t:Int)(T:Lv)(u:List Nat)(U:Lv)(V:Lv)(g:Nat)(v:List Bool)(w:List (List Int))(y:List Int)(W:Lv)(X:Int)(z:Int)(Y:Lv)(A:List Nat)(B:Lv)(D:Lv)(b:Nat)(i:List Bool)(j:List (List Int))(k:List Int)(E:Lv)(F:Int)(l:Int)(G:Lv)(m:List Nat)(H:Lv)(I:Lv)(c:Nat)(n:List Bool)(o:List (List Int))(p:List Int){x:cK}(h:bR d e f q r s t g v w y z b i j k l c n o p=some x) :ax prog bZ [] [.int .i64 d,.int .i64 e,.iptr P (.vs [.imm Q (.cols f [.cb q,.cns .u64 r,.ci .i64 s]) 3 3 0 f]) 1 0 0,.iptr R (.vs [.int .i64 S,.int .i64 t,.imm T (.fl u) 1 1 0 (List.length u)]) 1 0 0,.iptr U (.vs [.imm V (.cols g [.cb v,.cns .u64 w,.ci .i64 y]) 3 3 0 g]) 1 0 0,.iptr W (.vs [.int .i64 X,.int .i64 z,.imm Y (.fl A) 1 1 0 (List.length A)]) 1 0 0,.iptr B (.vs [.imm D (.cols b [.cb i,.cns .u64 j,.ci .i64 k]) 3 3 0 b]) 1 0 0,.iptr E (.vs [.int .i64 F,.int .i64 l,.imm G (.fl m) 1 1 0 (List.length m)]) 1 0 0,.iptr H (.vs [.imm I (.cols c [.cb n,.cns .u64 o,.ci .i64 p]) 3 3 0 c]) 1 0 0] (yW x) :=
  Sg.contract false yW (by kernel_rfl:prog.funcs[bZ]? = some (FN bZ)) (by kernel_rfl:(FN bZ).body=some (bB bZ)) (Sg.cut 2 wP (Sg.seg (C:=C0) ap rY 60 (rj.take 2) (aT (FN bZ) [] [.int .i64 d,.int .i64 e,.iptr P (.vs [.imm Q (.cols f [.cb q,.cns .u64 r,.ci .i64 s]) 3 3 0 f]) 1 0 0,.iptr R (.vs [.int .i64 S,.int .i64 t,.imm T (.fl u) 1 1 0 (List.length u)]) 1 0 0,.iptr U (.vs [.imm V (.cols g [.cb v,.cns .u64 w,.ci .i64 y]) 3 3 0 g]) 1 0 0,.iptr W (.vs [.int .i64 X,.int .i64 z,.imm Y (.fl A) 1 1 0 (List.length A)]) 1 0 0,.iptr B (.vs [.imm D (.cols b [.cb i,.cns .u64 j,.ci .i64 k]) 3 3 0 b]) 1 0 0,.iptr E (.vs [.int .i64 F,.int .i64 l,.imm G (.fl m) 1 1 0 (List.length m)]) 1 0 0,.iptr H (.vs [.imm I (.cols c [.cb n,.cns .u64 o,.ci .i64 p]) 3 3 0 c]) 1 0 0]) (wQ d e f q r s t g v w y z) (E5 d e B D b i j k E F l G m H I c n o p) pD [⟨[],[0,336],[0,1,6,7,8,11,13,14]⟩] (by kernel_rfl)) (fun a=>by obtain ⟨Z,O,J,K,L,M,N⟩:=a;exact Sg.cut 3 wP (Sg.seg (C:=C0) ap rY 60 ((rj.drop 2).take 3) (E5 d e B D b i j k E F l G m H I c n o p (Z,O,J,K,L,M,N)) (rl d e b i j k l c n o p Z) (E6 O J K L M N) pD [⟨[(.cell 0 1,.fre 1 1 (.ns .u64 ([]:List Int)))],[0],[11,12]⟩,⟨[],[0,1,306],[11,13,14,15]⟩] (by kernel_rfl)) (fun a=>by obtain ⟨a0,a1,a2,a3,a4,a7⟩:=a;exact Sg.cut 3 wP (Sg.seg (C:=C0) ap rY 60 (((rj.drop 2).drop 3).take 3) (E6 O J K L M N (a0,a1,a2,a3,a4,a7)) (rm J K L M N a0 a1 a2 a3 a4 a7) E7 pD [⟨[(.cell 0 1,.fre 1 1 (.ns .u64 ([]:List Int)))],[0],[11,12]⟩,⟨[],[0],[11,12]⟩] (by kernel_rfl)) (fun a=>by obtain ⟨a8,a9,b0,b1,b4,b5⟩:=a;exact Sg.seg (C:=C0) ap rY 60 (((rj.drop 2).drop 3).drop 3) (E7 (a8,a9,b0,b1,b4,b5)) (E8 a8 a9 b0 b1 b4 b5) (fun a:Empty=>a.elim) pD [⟨[],[0],[11,12]⟩] (by kernel_rfl)))))
    (fun x=>by cases x with | r0 b6 b7 b8 c0 c1 c2=>exact ⟨.inr rfl,[.agg [.bool false b7,.imm .free (.ns .u64 b8) 1 1 c0 c1,.int .i64 c2],.int .i64 ((b6:Nat):Int)],[],by kernel_rfl,trivial,by kernel_rfl⟩) h
def nT:Option cK→Bool
  | some _=>true
  | none=>false
def jj:Option cK→Nat
  | some (.r0 x _ _ _ _ _)=>x
  | _=>0
def pE:Option cK→Bool
  | some (.r0 _ x _ _ _ _)=>x
  | _=>false
def lH:Option cK→List Int
  | some (.r0 _ _ x _ _ _)=>x
  | _=>[]
def lI:Option cK→Nat
  | some (.r0 _ _ _ x _ _)=>x
  | _=>0
def lJ:Option cK→Nat
  | some (.r0 _ _ _ _ x _)=>x
  | _=>0
def pF:Option cK→Int
  | some (.r0 _ _ _ _ _ x)=>x
  | _=>0
theorem Rv{x:Option cK}(h:nT x=true) :x=some (.r0 (jj x) (pE x) (lH x) (lI x) (lJ x) (pF x)):=by
  unfold nT at h
  split at h <;> first | rfl | (cases h;done) | (rename_i y;cases y;rfl)
def Gn:aL:=cn bZ (.cons (.int .i64) (.cons (.int .i64) (.cons (.ivs (.cons (.cols [.cb,.cns .u64,.ci .i64]) .nil) 1 0 0) (.cons (.ivs (.cons (.int .i64) (.cons (.int .i64) (.cons .fl .nil))) 1 0 0) (.cons (.ivs (.cons (.cols [.cb,.cns .u64,.ci .i64]) .nil) 1 0 0) (.cons (.ivs (.cons (.int .i64) (.cons (.int .i64) (.cons .fl .nil))) 1 0 0) (.cons (.ivs (.cons (.cols [.cb,.cns .u64,.ci .i64]) .nil) 1 0 0) (.cons (.ivs (.cons (.int .i64) (.cons (.int .i64) (.cons .fl .nil))) 1 0 0) (.cons (.ivs (.cons (.cols [.cb,.cns .u64,.ci .i64]) .nil) 1 0 0) .nil))))))))) fun t=>[⟨yW (.r0 (jj (bR t.1 t.2.1 t.2.2.1.2.1.2.1 t.2.2.1.2.1.2.2.1 t.2.2.1.2.1.2.2.2.1 t.2.2.1.2.1.2.2.2.2.1 t.2.2.2.1.2.2.1 t.2.2.2.2.1.2.1.2.1 t.2.2.2.2.1.2.1.2.2.1 t.2.2.2.2.1.2.1.2.2.2.1 t.2.2.2.2.1.2.1.2.2.2.2.1 t.2.2.2.2.2.1.2.2.1 t.2.2.2.2.2.2.1.2.1.2.1 t.2.2.2.2.2.2.1.2.1.2.2.1 t.2.2.2.2.2.2.1.2.1.2.2.2.1 t.2.2.2.2.2.2.1.2.1.2.2.2.2.1 t.2.2.2.2.2.2.2.1.2.2.1 t.2.2.2.2.2.2.2.2.1.2.1.2.1 t.2.2.2.2.2.2.2.2.1.2.1.2.2.1 t.2.2.2.2.2.2.2.2.1.2.1.2.2.2.1 t.2.2.2.2.2.2.2.2.1.2.1.2.2.2.2.1)) (pE (bR t.1 t.2.1 t.2.2.1.2.1.2.1 t.2.2.1.2.1.2.2.1 t.2.2.1.2.1.2.2.2.1 t.2.2.1.2.1.2.2.2.2.1 t.2.2.2.1.2.2.1 t.2.2.2.2.1.2.1.2.1 t.2.2.2.2.1.2.1.2.2.1 t.2.2.2.2.1.2.1.2.2.2.1 t.2.2.2.2.1.2.1.2.2.2.2.1 t.2.2.2.2.2.1.2.2.1 t.2.2.2.2.2.2.1.2.1.2.1 t.2.2.2.2.2.2.1.2.1.2.2.1 t.2.2.2.2.2.2.1.2.1.2.2.2.1 t.2.2.2.2.2.2.1.2.1.2.2.2.2.1 t.2.2.2.2.2.2.2.1.2.2.1 t.2.2.2.2.2.2.2.2.1.2.1.2.1 t.2.2.2.2.2.2.2.2.1.2.1.2.2.1 t.2.2.2.2.2.2.2.2.1.2.1.2.2.2.1 t.2.2.2.2.2.2.2.2.1.2.1.2.2.2.2.1)) (lH (bR t.1 t.2.1 t.2.2.1.2.1.2.1 t.2.2.1.2.1.2.2.1 t.2.2.1.2.1.2.2.2.1 t.2.2.1.2.1.2.2.2.2.1 t.2.2.2.1.2.2.1 t.2.2.2.2.1.2.1.2.1 t.2.2.2.2.1.2.1.2.2.1 t.2.2.2.2.1.2.1.2.2.2.1 t.2.2.2.2.1.2.1.2.2.2.2.1 t.2.2.2.2.2.1.2.2.1 t.2.2.2.2.2.2.1.2.1.2.1 t.2.2.2.2.2.2.1.2.1.2.2.1 t.2.2.2.2.2.2.1.2.1.2.2.2.1 t.2.2.2.2.2.2.1.2.1.2.2.2.2.1 t.2.2.2.2.2.2.2.1.2.2.1 t.2.2.2.2.2.2.2.2.1.2.1.2.1 t.2.2.2.2.2.2.2.2.1.2.1.2.2.1 t.2.2.2.2.2.2.2.2.1.2.1.2.2.2.1 t.2.2.2.2.2.2.2.2.1.2.1.2.2.2.2.1)) (lI (bR t.1 t.2.1 t.2.2.1.2.1.2.1 t.2.2.1.2.1.2.2.1 t.2.2.1.2.1.2.2.2.1 t.2.2.1.2.1.2.2.2.2.1 t.2.2.2.1.2.2.1 t.2.2.2.2.1.2.1.2.1 t.2.2.2.2.1.2.1.2.2.1 t.2.2.2.2.1.2.1.2.2.2.1 t.2.2.2.2.1.2.1.2.2.2.2.1 t.2.2.2.2.2.1.2.2.1 t.2.2.2.2.2.2.1.2.1.2.1 t.2.2.2.2.2.2.1.2.1.2.2.1 t.2.2.2.2.2.2.1.2.1.2.2.2.1 t.2.2.2.2.2.2.1.2.1.2.2.2.2.1 t.2.2.2.2.2.2.2.1.2.2.1 t.2.2.2.2.2.2.2.2.1.2.1.2.1 t.2.2.2.2.2.2.2.2.1.2.1.2.2.1 t.2.2.2.2.2.2.2.2.1.2.1.2.2.2.1 t.2.2.2.2.2.2.2.2.1.2.1.2.2.2.2.1)) (lJ (bR t.1 t.2.1 t.2.2.1.2.1.2.1 t.2.2.1.2.1.2.2.1 t.2.2.1.2.1.2.2.2.1 t.2.2.1.2.1.2.2.2.2.1 t.2.2.2.1.2.2.1 t.2.2.2.2.1.2.1.2.1 t.2.2.2.2.1.2.1.2.2.1 t.2.2.2.2.1.2.1.2.2.2.1 t.2.2.2.2.1.2.1.2.2.2.2.1 t.2.2.2.2.2.1.2.2.1 t.2.2.2.2.2.2.1.2.1.2.1 t.2.2.2.2.2.2.1.2.1.2.2.1 t.2.2.2.2.2.2.1.2.1.2.2.2.1 t.2.2.2.2.2.2.1.2.1.2.2.2.2.1 t.2.2.2.2.2.2.2.1.2.2.1 t.2.2.2.2.2.2.2.2.1.2.1.2.1 t.2.2.2.2.2.2.2.2.1.2.1.2.2.1 t.2.2.2.2.2.2.2.2.1.2.1.2.2.2.1 t.2.2.2.2.2.2.2.2.1.2.1.2.2.2.2.1)) (pF (bR t.1 t.2.1 t.2.2.1.2.1.2.1 t.2.2.1.2.1.2.2.1 t.2.2.1.2.1.2.2.2.1 t.2.2.1.2.1.2.2.2.2.1 t.2.2.2.1.2.2.1 t.2.2.2.2.1.2.1.2.1 t.2.2.2.2.1.2.1.2.2.1 t.2.2.2.2.1.2.1.2.2.2.1 t.2.2.2.2.1.2.1.2.2.2.2.1 t.2.2.2.2.2.1.2.2.1 t.2.2.2.2.2.2.1.2.1.2.1 t.2.2.2.2.2.2.1.2.1.2.2.1 t.2.2.2.2.2.2.1.2.1.2.2.2.1 t.2.2.2.2.2.2.1.2.1.2.2.2.2.1 t.2.2.2.2.2.2.2.1.2.2.1 t.2.2.2.2.2.2.2.2.1.2.1.2.1 t.2.2.2.2.2.2.2.2.1.2.1.2.2.1 t.2.2.2.2.2.2.2.2.1.2.1.2.2.2.1 t.2.2.2.2.2.2.2.2.1.2.1.2.2.2.2.1))),[nT (bR t.1 t.2.1 t.2.2.1.2.1.2.1 t.2.2.1.2.1.2.2.1 t.2.2.1.2.1.2.2.2.1 t.2.2.1.2.1.2.2.2.2.1 t.2.2.2.1.2.2.1 t.2.2.2.2.1.2.1.2.1 t.2.2.2.2.1.2.1.2.2.1 t.2.2.2.2.1.2.1.2.2.2.1 t.2.2.2.2.1.2.1.2.2.2.2.1 t.2.2.2.2.2.1.2.2.1 t.2.2.2.2.2.2.1.2.1.2.1 t.2.2.2.2.2.2.1.2.1.2.2.1 t.2.2.2.2.2.2.1.2.1.2.2.2.1 t.2.2.2.2.2.2.1.2.1.2.2.2.2.1 t.2.2.2.2.2.2.2.1.2.2.1 t.2.2.2.2.2.2.2.2.1.2.1.2.1 t.2.2.2.2.2.2.2.2.1.2.1.2.2.1 t.2.2.2.2.2.2.2.2.1.2.1.2.2.2.1 t.2.2.2.2.2.2.2.2.1.2.1.2.2.2.2.1)]⟩]
theorem ML:aV prog Gn:=aP fun t=>(aQ (fun h=>Ru t.1 t.2.1 t.2.2.1.1 t.2.2.1.2.1.1 t.2.2.1.2.1.2.1 t.2.2.1.2.1.2.2.1 t.2.2.1.2.1.2.2.2.1 t.2.2.1.2.1.2.2.2.2.1 t.2.2.2.1.1 t.2.2.2.1.2.1 t.2.2.2.1.2.2.1 t.2.2.2.1.2.2.2.1.1 t.2.2.2.1.2.2.2.1.2 t.2.2.2.2.1.1 t.2.2.2.2.1.2.1.1 t.2.2.2.2.1.2.1.2.1 t.2.2.2.2.1.2.1.2.2.1 t.2.2.2.2.1.2.1.2.2.2.1 t.2.2.2.2.1.2.1.2.2.2.2.1 t.2.2.2.2.2.1.1 t.2.2.2.2.2.1.2.1 t.2.2.2.2.2.1.2.2.1 t.2.2.2.2.2.1.2.2.2.1.1 t.2.2.2.2.2.1.2.2.2.1.2 t.2.2.2.2.2.2.1.1 t.2.2.2.2.2.2.1.2.1.1 t.2.2.2.2.2.2.1.2.1.2.1 t.2.2.2.2.2.2.1.2.1.2.2.1 t.2.2.2.2.2.2.1.2.1.2.2.2.1 t.2.2.2.2.2.2.1.2.1.2.2.2.2.1 t.2.2.2.2.2.2.2.1.1 t.2.2.2.2.2.2.2.1.2.1 t.2.2.2.2.2.2.2.1.2.2.1 t.2.2.2.2.2.2.2.1.2.2.2.1.1 t.2.2.2.2.2.2.2.1.2.2.2.1.2 t.2.2.2.2.2.2.2.2.1.1 t.2.2.2.2.2.2.2.2.1.2.1.1 t.2.2.2.2.2.2.2.2.1.2.1.2.1 t.2.2.2.2.2.2.2.2.1.2.1.2.2.1 t.2.2.2.2.2.2.2.2.1.2.1.2.2.2.1 t.2.2.2.2.2.2.2.2.1.2.1.2.2.2.2.1 (Rv h)) ba)
def Gp:List aL:=Gn :: Uv
theorem dB:bf prog (bi Gp):=aw ML rY
end
end Go.Plb.Seat
namespace Go.Plb.Seat
open Go Go.Plb
set_option linter.unusedVariables false
set_option maxRecDepth 100000
noncomputable section
inductive aD where
  | r0 (a:Nat) (b:Bool) (c:List Int) (d:Nat) (e:Nat) (f:Int)
def bc:aD→AE×aM
  | .r0 a b c d e f=>(.ret,⟨an 46 [(4,.ptr 0 1 0 0),(5,.int .i64 ((a:Nat):Int))],[(0,.vs [.bool false b,.imm .free (.ns .u64 c) 1 1 d e,.int .i64 f])],1⟩)
theorem bg:l9 bc:=by intro x;cases x <;> (intro h;cases h)
theorem i5(id:Nat) :rL id bc:=by intro x;cases x <;> (intro h;cases h)
def js:aD→jv
  | .r0 a b c d e f=>⟨.tup [.agg [.bool false b,.imm .free (.ns .u64 c) 1 1 d e,.int .i64 f],.int .i64 ((a:Nat):Int)],[]⟩
def fg:List Code:=bS (bB du)
def nU(h:Int)(i:Int)(j:Lv)(k:Lv)(a:Nat)(l:List Bool)(m:List (List Int))(n:List Int)(o:Lv)(p:Int)(q:Int)(r:Lv)(b:List Nat)(s:Lv)(t:Lv)(c:Nat)(u:List Bool)(v:List (List Int))(w:List Int)(x:Lv)(y:Int)(z:Int)(A:Lv)(d:List Nat)(B:Lv)(C:Lv)(e:Nat)(D:List Bool)(E:List (List Int))(F:List Int)(G:Lv)(H:Int)(I:Int)(J:Lv)(f:List Nat)(K:Lv)(L:Lv)(g:Nat)(M:List Bool)(N:List (List Int))(O:List Int)(P:Bool) :aM:=⟨an 46 [(1,.fn (.func bZ) [] [.iptr j (.vs [.imm k (.cols a [.cb l,.cns .u64 m,.ci .i64 n]) 3 3 0 a]) 1 0 0,.iptr o (.vs [.int .i64 p,.int .i64 q,.imm r (.fl b) 1 1 0 (List.length b)]) 1 0 0,.iptr s (.vs [.imm t (.cols c [.cb u,.cns .u64 v,.ci .i64 w]) 3 3 0 c]) 1 0 0,.iptr x (.vs [.int .i64 y,.int .i64 z,.imm A (.fl d) 1 1 0 (List.length d)]) 1 0 0,.iptr B (.vs [.imm C (.cols e [.cb D,.cns .u64 E,.ci .i64 F]) 3 3 0 e]) 1 0 0,.iptr G (.vs [.int .i64 H,.int .i64 I,.imm J (.fl f) 1 1 0 (List.length f)]) 1 0 0,.iptr K (.vs [.imm L (.cols g [.cb M,.cns .u64 N,.ci .i64 O]) 3 3 0 g]) 1 0 0]),(2,.ptr 0 1 0 0),(4,.ptr 1 1 0 0)],[(0,.vs [.int .i64 h,.int .i64 i]),(1,.vs [.bool false P,.nsl,.int .i64 (0:Int)])],2⟩
def nc:T ((Bool)⊕(aD)) :=
  .leaf (.inl false)
def dc:List Code:=bS (NF (((fg.drop 1)).headD .skip))
def nV(a:Int)(i:Int)(j:Lv)(k:Lv)(b:Nat)(l:List Bool)(m:List (List Int))(n:List Int)(o:Lv)(p:Int)(q:Int)(r:Lv)(c:List Nat)(s:Lv)(t:Lv)(d:Nat)(u:List Bool)(v:List (List Int))(w:List Int)(x:Lv)(y:Int)(z:Int)(A:Lv)(e:List Nat)(B:Lv)(C:Lv)(f:Nat)(D:List Bool)(E:List (List Int))(F:List Int)(G:Lv)(H:Int)(I:Int)(J:Lv)(g:List Nat)(K:Lv)(L:Lv)(h:Nat)(M:List Bool)(N:List (List Int))(O:List Int)(P:Bool)(_:Unit) :aM:=⟨an 46 [(1,.fn (.func bZ) [] [.iptr j (.vs [.imm k (.cols b [.cb l,.cns .u64 m,.ci .i64 n]) 3 3 0 b]) 1 0 0,.iptr o (.vs [.int .i64 p,.int .i64 q,.imm r (.fl c) 1 1 0 (List.length c)]) 1 0 0,.iptr s (.vs [.imm t (.cols d [.cb u,.cns .u64 v,.ci .i64 w]) 3 3 0 d]) 1 0 0,.iptr x (.vs [.int .i64 y,.int .i64 z,.imm A (.fl e) 1 1 0 (List.length e)]) 1 0 0,.iptr B (.vs [.imm C (.cols f [.cb D,.cns .u64 E,.ci .i64 F]) 3 3 0 f]) 1 0 0,.iptr G (.vs [.int .i64 H,.int .i64 I,.imm J (.fl g) 1 1 0 (List.length g)]) 1 0 0,.iptr K (.vs [.imm L (.cols h [.cb M,.cns .u64 N,.ci .i64 O]) 3 3 0 h]) 1 0 0]),(2,.ptr 0 1 0 0),(4,.ptr 1 1 0 0),(6,.nsl),(7,.int .i64 (0:Int)),(13,.int .i64 a),(14,.int .i64 (0:Int))],[(0,.vs [.int .i64 a,.int .i64 i]),(1,.vs [.bool false P,.nsl,.int .i64 (0:Int)])],2⟩
def ng:T ((Unit)⊕(aD)) :=
  .leaf (.inl ())
def dd(a:Int)(i:Int)(j:Lv)(k:Lv)(b:Nat)(l:List Bool)(m:List (List Int))(n:List Int)(o:Lv)(p:Int)(q:Int)(r:Lv)(c:List Nat)(s:Lv)(t:Lv)(d:Nat)(u:List Bool)(v:List (List Int))(w:List Int)(x:Lv)(y:Int)(z:Int)(A:Lv)(e:List Nat)(B:Lv)(C:Lv)(f:Nat)(D:List Bool)(E:List (List Int))(F:List Int)(G:Lv)(H:Int)(I:Int)(J:Lv)(g:List Nat)(K:Lv)(L:Lv)(h:Nat)(M:List Bool)(N:List (List Int))(O:List Int)(P:Bool) :Nat×Nat×Nat×Nat×Nat×(List Bool)×(List (List Int))×(List Int)→aM:=fun (Q,R,S,T,U,V,W,X)=>⟨an 46 [(1,.fn (.func bZ) [] [.iptr j (.vs [.imm k (.cols b [.cb l,.cns .u64 m,.ci .i64 n]) 3 3 0 b]) 1 0 0,.iptr o (.vs [.int .i64 p,.int .i64 q,.imm r (.fl c) 1 1 0 (List.length c)]) 1 0 0,.iptr s (.vs [.imm t (.cols d [.cb u,.cns .u64 v,.ci .i64 w]) 3 3 0 d]) 1 0 0,.iptr x (.vs [.int .i64 y,.int .i64 z,.imm A (.fl e) 1 1 0 (List.length e)]) 1 0 0,.iptr B (.vs [.imm C (.cols f [.cb D,.cns .u64 E,.ci .i64 F]) 3 3 0 f]) 1 0 0,.iptr G (.vs [.int .i64 H,.int .i64 I,.imm J (.fl g) 1 1 0 (List.length g)]) 1 0 0,.iptr K (.vs [.imm L (.cols h [.cb M,.cns .u64 N,.ci .i64 O]) 3 3 0 h]) 1 0 0]),(2,.ptr 0 1 0 0),(4,.ptr 1 1 0 0),(6,.sl 2 3 3 0 Q R),(7,.int .i64 ((S:Nat):Int)),(13,.int .i64 a),(14,.int .i64 ((T:Nat):Int))],[(0,.vs [.int .i64 a,.int .i64 i]),(1,.vs [.bool false P,.nsl,.int .i64 (0:Int)]),(2,.cols U [.cb V,.cns .u64 W,.ci .i64 X])],3⟩
def bH(a:Bool) :Nat×Nat×Nat×Nat×(List Bool)×(List (List Int))×(List Int)→aM:=fun (b,c,d,e,f,g,h)=>⟨an 46 [(4,.ptr 0 1 0 0),(6,.sl 1 3 3 0 b c),(7,.int .i64 ((d:Nat):Int))],[(0,.vs [.bool false a,.nsl,.int .i64 (0:Int)]),(1,.cols e [.cb f,.cns .u64 g,.ci .i64 h])],2⟩
def de:List Code:=bS (bW ((((dc.drop 3).take 1)).headD .skip))
def nh(a:Int)(i:Int)(j:Lv)(k:Lv)(b:Nat)(l:List Bool)(m:List (List Int))(n:List Int)(o:Lv)(p:Int)(q:Int)(r:Lv)(c:List Nat)(s:Lv)(t:Lv)(d:Nat)(u:List Bool)(v:List (List Int))(w:List Int)(x:Lv)(y:Int)(z:Int)(A:Lv)(e:List Nat)(B:Lv)(C:Lv)(f:Nat)(D:List Bool)(E:List (List Int))(F:List Int)(G:Lv)(H:Int)(I:Int)(J:Lv)(g:List Nat)(K:Lv)(L:Lv)(h:Nat)(M:List Bool)(N:List (List Int))(O:List Int)(P:Bool)(Q:Nat)(R:Nat)(S:Nat)(T:Nat)(U:Nat)(V:List Bool)(W:List (List Int))(X:List Int)(_:Unit) :aM:=⟨an 46 [(1,.fn (.func bZ) [] [.iptr j (.vs [.imm k (.cols b [.cb l,.cns .u64 m,.ci .i64 n]) 3 3 0 b]) 1 0 0,.iptr o (.vs [.int .i64 p,.int .i64 q,.imm r (.fl c) 1 1 0 (List.length c)]) 1 0 0,.iptr s (.vs [.imm t (.cols d [.cb u,.cns .u64 v,.ci .i64 w]) 3 3 0 d]) 1 0 0,.iptr x (.vs [.int .i64 y,.int .i64 z,.imm A (.fl e) 1 1 0 (List.length e)]) 1 0 0,.iptr B (.vs [.imm C (.cols f [.cb D,.cns .u64 E,.ci .i64 F]) 3 3 0 f]) 1 0 0,.iptr G (.vs [.int .i64 H,.int .i64 I,.imm J (.fl g) 1 1 0 (List.length g)]) 1 0 0,.iptr K (.vs [.imm L (.cols h [.cb M,.cns .u64 N,.ci .i64 O]) 3 3 0 h]) 1 0 0]),(2,.ptr 0 1 0 0),(4,.ptr 1 1 0 0),(6,.sl 2 3 3 0 Q R),(7,.int .i64 ((S:Nat):Int)),(13,.int .i64 a),(14,.int .i64 ((T:Nat):Int))],[(0,.vs [.int .i64 a,.int .i64 i]),(1,.vs [.bool false P,.nsl,.int .i64 (0:Int)]),(2,.cols U [.cb V,.cns .u64 W,.ci .i64 X])],3⟩
def fh(a:Int)(b:Nat)(c:Nat)(d:Nat)(e:Nat)(f:Nat)(g:List Bool)(h:List (List Int))(i:List Int) :T ((Unit)⊕((Nat×Nat×Nat×Nat×(List Bool)×(List (List Int))×(List Int))⊕(aD))) :=
  .ask (decide (((e:Nat):Int) < a))
    (.leaf (.inl ()))
    (.leaf (.inr (.inl (b,c,d,f,g,h,i))))
def ck(a:Int)(i:Int)(j:Lv)(k:Lv)(b:Nat)(l:List Bool)(m:List (List Int))(n:List Int)(o:Lv)(p:Int)(q:Int)(r:Lv)(c:List Nat)(s:Lv)(t:Lv)(d:Nat)(u:List Bool)(v:List (List Int))(w:List Int)(x:Lv)(y:Int)(z:Int)(A:Lv)(e:List Nat)(B:Lv)(C:Lv)(f:Nat)(D:List Bool)(E:List (List Int))(F:List Int)(G:Lv)(H:Int)(I:Int)(J:Lv)(g:List Nat)(K:Lv)(L:Lv)(h:Nat)(M:List Bool)(N:List (List Int))(O:List Int)(P:Bool)(Q:Nat) :Nat×Nat×Nat×Nat×(List Bool)×(List (List Int))×(List Int)→aM:=fun (R,S,T,U,V,W,X)=>⟨an 46 [(1,.fn (.func bZ) [] [.iptr j (.vs [.imm k (.cols b [.cb l,.cns .u64 m,.ci .i64 n]) 3 3 0 b]) 1 0 0,.iptr o (.vs [.int .i64 p,.int .i64 q,.imm r (.fl c) 1 1 0 (List.length c)]) 1 0 0,.iptr s (.vs [.imm t (.cols d [.cb u,.cns .u64 v,.ci .i64 w]) 3 3 0 d]) 1 0 0,.iptr x (.vs [.int .i64 y,.int .i64 z,.imm A (.fl e) 1 1 0 (List.length e)]) 1 0 0,.iptr B (.vs [.imm C (.cols f [.cb D,.cns .u64 E,.ci .i64 F]) 3 3 0 f]) 1 0 0,.iptr G (.vs [.int .i64 H,.int .i64 I,.imm J (.fl g) 1 1 0 (List.length g)]) 1 0 0,.iptr K (.vs [.imm L (.cols h [.cb M,.cns .u64 N,.ci .i64 O]) 3 3 0 h]) 1 0 0]),(2,.ptr 0 1 0 0),(4,.ptr 1 1 0 0),(6,.sl 2 3 3 0 R S),(7,.int .i64 ((T:Nat):Int)),(13,.int .i64 a),(14,.int .i64 ((Q:Nat):Int))],[(0,.vs [.int .i64 a,.int .i64 i]),(1,.vs [.bool false P,.nsl,.int .i64 (0:Int)]),(2,.cols U [.cb V,.cns .u64 W,.ci .i64 X])],3⟩
def dO:List Code:=bS (inBlock ((((de.drop 2).take 1)).headD .skip))
def ni(a:Int)(b:Int)(k:Lv)(l:Lv)(c:Nat)(m:List Bool)(n:List (List Int))(o:List Int)(p:Lv)(q:Int)(r:Int)(s:Lv)(d:List Nat)(t:Lv)(u:Lv)(e:Nat)(v:List Bool)(w:List (List Int))(x:List Int)(y:Lv)(z:Int)(A:Int)(B:Lv)(f:List Nat)(C:Lv)(D:Lv)(g:Nat)(E:List Bool)(F:List (List Int))(G:List Int)(H:Lv)(I:Int)(J:Int)(K:Lv)(h:List Nat)(L:Lv)(M:Lv)(i:Nat)(N:List Bool)(O:List (List Int))(P:List Int)(Q:Bool)(R:Nat)(S:Nat)(T:Nat)(j:Nat)(U:Nat)(V:List Bool)(W:List (List Int))(X:List Int)(_:Unit) :aM:=⟨an 46 [(1,.fn (.func bZ) [] [.iptr k (.vs [.imm l (.cols c [.cb m,.cns .u64 n,.ci .i64 o]) 3 3 0 c]) 1 0 0,.iptr p (.vs [.int .i64 q,.int .i64 r,.imm s (.fl d) 1 1 0 (List.length d)]) 1 0 0,.iptr t (.vs [.imm u (.cols e [.cb v,.cns .u64 w,.ci .i64 x]) 3 3 0 e]) 1 0 0,.iptr y (.vs [.int .i64 z,.int .i64 A,.imm B (.fl f) 1 1 0 (List.length f)]) 1 0 0,.iptr C (.vs [.imm D (.cols g [.cb E,.cns .u64 F,.ci .i64 G]) 3 3 0 g]) 1 0 0,.iptr H (.vs [.int .i64 I,.int .i64 J,.imm K (.fl h) 1 1 0 (List.length h)]) 1 0 0,.iptr L (.vs [.imm M (.cols i [.cb N,.cns .u64 O,.ci .i64 P]) 3 3 0 i]) 1 0 0]),(2,.ptr 0 1 0 0),(4,.ptr 1 1 0 0),(6,.sl 2 3 3 0 R S),(7,.int .i64 ((T:Nat):Int)),(8,.int .i64 ((j:Nat):Int)),(13,.int .i64 a),(14,.int .i64 ((j:Nat):Int)),(18,.int .i64 b),(19,.int .i64 (0:Int))],[(0,.vs [.int .i64 a,.int .i64 b]),(1,.vs [.bool false Q,.nsl,.int .i64 (0:Int)]),(2,.cols U [.cb V,.cns .u64 W,.ci .i64 X])],3⟩
def nj:T ((Unit)⊕((Nat×Nat×Nat×Nat×(List Bool)×(List (List Int))×(List Int))⊕((Nat×Nat×Nat×Nat×(List Bool)×(List (List Int))×(List Int))⊕(aD)))) :=
  .leaf (.inl ())
def df(a:Int)(b:Int)(k:Lv)(l:Lv)(c:Nat)(m:List Bool)(n:List (List Int))(o:List Int)(p:Lv)(q:Int)(r:Int)(s:Lv)(d:List Nat)(t:Lv)(u:Lv)(e:Nat)(v:List Bool)(w:List (List Int))(x:List Int)(y:Lv)(z:Int)(A:Int)(B:Lv)(f:List Nat)(C:Lv)(D:Lv)(g:Nat)(E:List Bool)(F:List (List Int))(G:List Int)(H:Lv)(I:Int)(J:Int)(K:Lv)(h:List Nat)(L:Lv)(M:Lv)(i:Nat)(N:List Bool)(O:List (List Int))(P:List Int)(Q:Bool)(j:Nat) :Nat×Nat×Nat×Nat×Nat×(List Bool)×(List (List Int))×(List Int)→aM:=fun (R,S,T,U,V,W,X,Y)=>⟨an 46 [(1,.fn (.func bZ) [] [.iptr k (.vs [.imm l (.cols c [.cb m,.cns .u64 n,.ci .i64 o]) 3 3 0 c]) 1 0 0,.iptr p (.vs [.int .i64 q,.int .i64 r,.imm s (.fl d) 1 1 0 (List.length d)]) 1 0 0,.iptr t (.vs [.imm u (.cols e [.cb v,.cns .u64 w,.ci .i64 x]) 3 3 0 e]) 1 0 0,.iptr y (.vs [.int .i64 z,.int .i64 A,.imm B (.fl f) 1 1 0 (List.length f)]) 1 0 0,.iptr C (.vs [.imm D (.cols g [.cb E,.cns .u64 F,.ci .i64 G]) 3 3 0 g]) 1 0 0,.iptr H (.vs [.int .i64 I,.int .i64 J,.imm K (.fl h) 1 1 0 (List.length h)]) 1 0 0,.iptr L (.vs [.imm M (.cols i [.cb N,.cns .u64 O,.ci .i64 P]) 3 3 0 i]) 1 0 0]),(2,.ptr 0 1 0 0),(4,.ptr 1 1 0 0),(6,.sl 2 3 3 0 R S),(7,.int .i64 ((T:Nat):Int)),(8,.int .i64 ((j:Nat):Int)),(13,.int .i64 a),(14,.int .i64 ((j:Nat):Int)),(18,.int .i64 b),(19,.int .i64 ((U:Nat):Int))],[(0,.vs [.int .i64 a,.int .i64 b]),(1,.vs [.bool false Q,.nsl,.int .i64 (0:Int)]),(2,.cols V [.cb W,.cns .u64 X,.ci .i64 Y])],3⟩
def dP(a:Int)(i:Int)(j:Lv)(k:Lv)(b:Nat)(l:List Bool)(m:List (List Int))(n:List Int)(o:Lv)(p:Int)(q:Int)(r:Lv)(c:List Nat)(s:Lv)(t:Lv)(d:Nat)(u:List Bool)(v:List (List Int))(w:List Int)(x:Lv)(y:Int)(z:Int)(A:Lv)(e:List Nat)(B:Lv)(C:Lv)(f:Nat)(D:List Bool)(E:List (List Int))(F:List Int)(G:Lv)(H:Int)(I:Int)(J:Lv)(g:List Nat)(K:Lv)(L:Lv)(h:Nat)(M:List Bool)(N:List (List Int))(O:List Int)(P:Bool)(Q:Nat) :Nat×Nat×Nat×Nat×(List Bool)×(List (List Int))×(List Int)→aM:=fun (R,S,T,U,V,W,X)=>⟨an 46 [(1,.fn (.func bZ) [] [.iptr j (.vs [.imm k (.cols b [.cb l,.cns .u64 m,.ci .i64 n]) 3 3 0 b]) 1 0 0,.iptr o (.vs [.int .i64 p,.int .i64 q,.imm r (.fl c) 1 1 0 (List.length c)]) 1 0 0,.iptr s (.vs [.imm t (.cols d [.cb u,.cns .u64 v,.ci .i64 w]) 3 3 0 d]) 1 0 0,.iptr x (.vs [.int .i64 y,.int .i64 z,.imm A (.fl e) 1 1 0 (List.length e)]) 1 0 0,.iptr B (.vs [.imm C (.cols f [.cb D,.cns .u64 E,.ci .i64 F]) 3 3 0 f]) 1 0 0,.iptr G (.vs [.int .i64 H,.int .i64 I,.imm J (.fl g) 1 1 0 (List.length g)]) 1 0 0,.iptr K (.vs [.imm L (.cols h [.cb M,.cns .u64 N,.ci .i64 O]) 3 3 0 h]) 1 0 0]),(2,.ptr 0 1 0 0),(4,.ptr 1 1 0 0),(6,.sl 2 3 3 0 R S),(7,.int .i64 ((T:Nat):Int)),(13,.int .i64 a),(14,.int .i64 ((Q:Nat):Int))],[(0,.vs [.int .i64 a,.int .i64 i]),(1,.vs [.bool false P,.nsl,.int .i64 (0:Int)]),(2,.cols U [.cb V,.cns .u64 W,.ci .i64 X])],3⟩
def iz:List Code:=bS (bW ((((dO.drop 2).take 1)).headD .skip))
def nk(b:Int)(c:Int)(l:Lv)(m:Lv)(d:Nat)(n:List Bool)(o:List (List Int))(p:List Int)(q:Lv)(r:Int)(s:Int)(t:Lv)(e:List Nat)(u:Lv)(v:Lv)(f:Nat)(w:List Bool)(x:List (List Int))(y:List Int)(z:Lv)(A:Int)(B:Int)(C:Lv)(g:List Nat)(D:Lv)(E:Lv)(h:Nat)(F:List Bool)(G:List (List Int))(H:List Int)(I:Lv)(J:Int)(K:Int)(L:Lv)(i:List Nat)(M:Lv)(N:Lv)(j:Nat)(O:List Bool)(P:List (List Int))(Q:List Int)(R:Bool)(k:Nat)(S:Nat) :Nat×Nat×(List Bool)×(List (List Int))×(List Int)→aM:=fun (a,T,U,V,W)=>⟨an 46 [(1,.fn (.func bZ) [] [.iptr l (.vs [.imm m (.cols d [.cb n,.cns .u64 o,.ci .i64 p]) 3 3 0 d]) 1 0 0,.iptr q (.vs [.int .i64 r,.int .i64 s,.imm t (.fl e) 1 1 0 (List.length e)]) 1 0 0,.iptr u (.vs [.imm v (.cols f [.cb w,.cns .u64 x,.ci .i64 y]) 3 3 0 f]) 1 0 0,.iptr z (.vs [.int .i64 A,.int .i64 B,.imm C (.fl g) 1 1 0 (List.length g)]) 1 0 0,.iptr D (.vs [.imm E (.cols h [.cb F,.cns .u64 G,.ci .i64 H]) 3 3 0 h]) 1 0 0,.iptr I (.vs [.int .i64 J,.int .i64 K,.imm L (.fl i) 1 1 0 (List.length i)]) 1 0 0,.iptr M (.vs [.imm N (.cols j [.cb O,.cns .u64 P,.ci .i64 Q]) 3 3 0 j]) 1 0 0]),(2,.ptr 0 1 0 0),(4,.ptr 1 1 0 0),(6,.sl 2 3 3 0 a a),(7,.int .i64 ((T:Nat):Int)),(8,.int .i64 ((k:Nat):Int)),(13,.int .i64 b),(14,.int .i64 ((k:Nat):Int)),(18,.int .i64 c),(19,.int .i64 ((S:Nat):Int))],[(0,.vs [.int .i64 b,.int .i64 c]),(1,.vs [.bool false R,.nsl,.int .i64 (0:Int)]),(2,.cols a [.cb U,.cns .u64 V,.ci .i64 W])],3⟩
def dQ(E:Int)(a:Nat)(f:List Bool)(g:List (List Int))(h:List Int)(i:Int)(A:List Nat)(b:Nat)(j:List Bool)(k:List (List Int))(l:List Int)(m:Int)(B:List Nat)(c:Nat)(n:List Bool)(o:List (List Int))(p:List Int)(q:Int)(C:List Nat)(d:Nat)(r:List Bool)(s:List (List Int))(t:List Int)(u:Nat)(v:Nat)(D:Nat)(F:Nat)(e:Nat)(w:Nat)(x:List Bool)(y:List (List Int))(z:List Int) :T ((Nat×Nat×(List Bool)×(List (List Int))×(List Int))⊕((Nat×Nat×Nat×Nat×(List Bool)×(List (List Int))×(List Int))⊕((Nat×Nat×Nat×Nat×(List Bool)×(List (List Int))×(List Int))⊕((Nat×Nat×Nat×Nat×(List Bool)×(List (List Int))×(List Int))⊕(aD))))) :=
  .ask (decide (((e:Nat):Int) < E))
    (.need (Nat.ble (0+a) a)<|.need (aR 0 (List.length A) A)<|.need (Nat.ble (0+b) b)<|.need (aR 0 (List.length B) B)<|.need (Nat.ble (0+c) c)<|.need (aR 0 (List.length C) C)<|.need (Nat.ble (0+d) d)<|.need (nT (bR ((u:Nat):Int) ((e:Nat):Int) a (aa 0 a f) (aa 0 a g) (aa 0 a h) i b (aa 0 b j) (aa 0 b k) (aa 0 b l) m c (aa 0 c n) (aa 0 c o) (aa 0 c p) q d (aa 0 d r) (aa 0 d s) (aa 0 d t)))<|.ask ((((jj (bR ((u:Nat):Int) ((e:Nat):Int) a (aa 0 a f) (aa 0 a g) (aa 0 a h) i b (aa 0 b j) (aa 0 b k) (aa 0 b l) m c (aa 0 c n) (aa 0 c o) (aa 0 c p) q d (aa 0 d r) (aa 0 d s) (aa 0 d t))):Nat):Int) != (0:Int))
      (.leaf (.inr (.inr (.inr (.inl (v,D,(jj (bR ((u:Nat):Int) ((e:Nat):Int) a (aa 0 a f) (aa 0 a g) (aa 0 a h) i b (aa 0 b j) (aa 0 b k) (aa 0 b l) m c (aa 0 c n) (aa 0 c o) (aa 0 c p) q d (aa 0 d r) (aa 0 d s) (aa 0 d t))),w,x,y,z))))))
      (.need (uP ((v+1) * 40) 140737488355328)<|.need (uP (v+1) 9223372036854775807)<|.need (uP 3 3)<|.need (uP v w)<|.need (decide ((lI (bR ((u:Nat):Int) ((e:Nat):Int) a (aa 0 a f) (aa 0 a g) (aa 0 a h) i b (aa 0 b j) (aa 0 b k) (aa 0 b l) m c (aa 0 c n) (aa 0 c o) (aa 0 c p) q d (aa 0 d r) (aa 0 d s) (aa 0 d t)))+(lJ (bR ((u:Nat):Int) ((e:Nat):Int) a (aa 0 a f) (aa 0 a g) (aa 0 a h) i b (aa 0 b j) (aa 0 b k) (aa 0 b l) m c (aa 0 c n) (aa 0 c o) (aa 0 c p) q d (aa 0 d r) (aa 0 d s) (aa 0 d t)))≤List.length (lH (bR ((u:Nat):Int) ((e:Nat):Int) a (aa 0 a f) (aa 0 a g) (aa 0 a h) i b (aa 0 b j) (aa 0 b k) (aa 0 b l) m c (aa 0 c n) (aa 0 c o) (aa 0 c p) q d (aa 0 d r) (aa 0 d s) (aa 0 d t)))))<|.leaf (.inl ((v+1),(jj (bR ((u:Nat):Int) ((e:Nat):Int) a (aa 0 a f) (aa 0 a g) (aa 0 a h) i b (aa 0 b j) (aa 0 b k) (aa 0 b l) m c (aa 0 c n) (aa 0 c o) (aa 0 c p) q d (aa 0 d r) (aa 0 d s) (aa 0 d t))),((List.take v x) ++ [(pE (bR ((u:Nat):Int) ((e:Nat):Int) a (aa 0 a f) (aa 0 a g) (aa 0 a h) i b (aa 0 b j) (aa 0 b k) (aa 0 b l) m c (aa 0 c n) (aa 0 c o) (aa 0 c p) q d (aa 0 d r) (aa 0 d s) (aa 0 d t)))]),((List.take v y) ++ [(List.take (lJ (bR ((u:Nat):Int) ((e:Nat):Int) a (aa 0 a f) (aa 0 a g) (aa 0 a h) i b (aa 0 b j) (aa 0 b k) (aa 0 b l) m c (aa 0 c n) (aa 0 c o) (aa 0 c p) q d (aa 0 d r) (aa 0 d s) (aa 0 d t))) (List.drop (lI (bR ((u:Nat):Int) ((e:Nat):Int) a (aa 0 a f) (aa 0 a g) (aa 0 a h) i b (aa 0 b j) (aa 0 b k) (aa 0 b l) m c (aa 0 c n) (aa 0 c o) (aa 0 c p) q d (aa 0 d r) (aa 0 d s) (aa 0 d t))) (lH (bR ((u:Nat):Int) ((e:Nat):Int) a (aa 0 a f) (aa 0 a g) (aa 0 a h) i b (aa 0 b j) (aa 0 b k) (aa 0 b l) m c (aa 0 c n) (aa 0 c o) (aa 0 c p) q d (aa 0 d r) (aa 0 d s) (aa 0 d t)))))]),((List.take v z) ++ [(pF (bR ((u:Nat):Int) ((e:Nat):Int) a (aa 0 a f) (aa 0 a g) (aa 0 a h) i b (aa 0 b j) (aa 0 b k) (aa 0 b l) m c (aa 0 c n) (aa 0 c o) (aa 0 c p) q d (aa 0 d r) (aa 0 d s) (aa 0 d t)))])))))
    (.leaf (.inr (.inl (v,D,F,w,x,y,z))))
def nm(b:Nat)(a:Nat)(c:Nat)(d:List Bool)(e:List (List Int))(f:List Int) :T ((Nat×Nat×Nat×Nat×Nat×(List Bool)×(List (List Int))×(List Int))⊕((Nat×Nat×Nat×Nat×(List Bool)×(List (List Int))×(List Int))⊕((Nat×Nat×Nat×Nat×(List Bool)×(List (List Int))×(List Int))⊕((Nat×Nat×Nat×Nat×(List Bool)×(List (List Int))×(List Int))⊕(aD))))) :=
  .need (ej .i64 (((b+1):Nat):Int))<|.leaf (.inl (a,a,c,(b+1),a,d,e,f))
def iA(b:Int)(c:Nat)(d:List Bool)(e:List (List Int))(f:List Int)(g:Int)(h:List Nat)(i:Nat)(j:List Bool)(k:List (List Int))(l:List Int)(m:Int)(n:List Nat)(o:Nat)(p:List Bool)(q:List (List Int))(r:List Int)(s:Int)(t:List Nat)(u:Nat)(v:List Bool)(w:List (List Int))(x:List Int)(y:Nat) :Nat×Nat×Nat×Nat×Nat×(List Bool)×(List (List Int))×(List Int)→Option ((Nat×Nat×Nat×Nat×Nat×(List Bool)×(List (List Int))×(List Int))⊕((Nat×Nat×Nat×Nat×(List Bool)×(List (List Int))×(List Int))⊕((Nat×Nat×Nat×Nat×(List Bool)×(List (List Int))×(List Int))⊕((Nat×Nat×Nat×Nat×(List Bool)×(List (List Int))×(List Int))⊕(aD))))):=fun (z,A,B,a,C,D,E,F) =>
  aH ((dQ b c d e f g h i j k l m n o p q r s t u v w x y z A B a C D E F).run) fun (G,H,I,J,K) =>
  (nm a G H I J K).run
theorem vJ(A:Int)(c:Int)(B:Lv)(D:Lv)(d:Nat)(e:List Bool)(f:List (List Int))(g:List Int)(E:Lv)(F:Int)(h:Int)(G:Lv)(i:List Nat)(H:Lv)(I:Lv)(j:Nat)(k:List Bool)(l:List (List Int))(m:List Int)(J:Lv)(K:Int)(n:Int)(L:Lv)(o:List Nat)(M:Lv)(N:Lv)(p:Nat)(q:List Bool)(r:List (List Int))(s:List Int)(O:Lv)(P:Int)(t:Int)(Q:Lv)(u:List Nat)(R:Lv)(S:Lv)(v:Nat)(w:List Bool)(x:List (List Int))(y:List Int)(b:Bool)(z:Nat)(U:Nat)(V:Nat)(W:Nat)(T:Nat)(X:Nat)(Y:List Bool)(Z:List (List Int))(a0:List Int) :Sg prog [] iz (df A c B D d e f g E F h G i H I j k l m J K n L o M N p q r s O P t Q u R S v w x y b z (U,V,W,T,X,Y,Z,a0)) (iA c d e f g h i j k l m n o p q r s t u v w x y z (U,V,W,T,X,Y,Z,a0)) (df A c B D d e f g E F h G i H I j k l m J K n L o M N p q r s O P t Q u R S v w x y b z) (aS 2 (dP A c B D d e f g E F h G i H I j k l m J K n L o M N p q r s O P t Q u R S v w x y b z) (aS 1 (ck A c B D d e f g E F h G i H I j k l m J K n L o M N p q r s O P t Q u R S v w x y b z) (aS 0 (bH b) bc))):=by
  unfold iA;exact Sg.cut 3 (aN (aN (aN bg))) (Sg.seg (C:=C0) ap dB 60 (iz.take 3) (df A c B D d e f g E F h G i H I j k l m J K n L o M N p q r s O P t Q u R S v w x y b z (U,V,W,T,X,Y,Z,a0)) (dQ c d e f g h i j k l m n o p q r s t u v w x y z U V W T X Y Z a0) (nk A c B D d e f g E F h G i H I j k l m J K n L o M N p q r s O P t Q u R S v w x y b z T) (aS 2 (dP A c B D d e f g E F h G i H I j k l m J K n L o M N p q r s O P t Q u R S v w x y b z) (aS 1 (ck A c B D d e f g E F h G i H I j k l m J K n L o M N p q r s O P t Q u R S v w x y b z) (aS 0 (bH b) bc))) [⟨[],[1,2],[4,6,7]⟩,⟨[],[0,1,323],[1,2,4,6,7,8,13,14,18,19]⟩,⟨[],[0,1,2],[1,2,4,6,7,13,14]⟩] (by kernel_rfl)) (fun a=>by obtain ⟨a1,a2,a3,a4,a5⟩:=a;exact Sg.seg (C:=C0) ap dB 60 (iz.drop 3) (nk A c B D d e f g E F h G i H I j k l m J K n L o M N p q r s O P t Q u R S v w x y b z T (a1,a2,a3,a4,a5)) (nm T a1 a2 a3 a4 a5) (df A c B D d e f g E F h G i H I j k l m J K n L o M N p q r s O P t Q u R S v w x y b z) (aS 2 (dP A c B D d e f g E F h G i H I j k l m J K n L o M N p q r s O P t Q u R S v w x y b z) (aS 1 (ck A c B D d e f g E F h G i H I j k l m J K n L o M N p q r s O P t Q u R S v w x y b z) (aS 0 (bH b) bc))) [⟨[],[0,1,2],[1,2,4,6,7,8,13,14,18,19]⟩] (by kernel_rfl))
def vK(a:Int)(b:Int)(c:Lv)(d:Lv)(e:Nat)(f:List Bool)(g:List (List Int))(h:List Int)(i:Lv)(j:Int)(k:Int)(l:Lv)(m:List Nat)(n:Lv)(o:Lv)(p:Nat)(q:List Bool)(r:List (List Int))(s:List Int)(t:Lv)(u:Int)(v:Int)(w:Lv)(x:List Nat)(y:Lv)(z:Lv)(A:Nat)(B:List Bool)(C:List (List Int))(D:List Int)(E:Lv)(F:Int)(G:Int)(H:Lv)(I:List Nat)(J:Lv)(K:Lv)(L:Nat)(M:List Bool)(N:List (List Int))(O:List Int)(P:Bool)(Q:Nat) :Nat×Nat×Nat×Nat×(List Bool)×(List (List Int))×(List Int)→aM:=dP a b c d e f g h i j k l m n o p q r s t u v w x y z A B C D E F G H I J K L M N O P Q
def nn(a:Nat)(b:Nat)(c:Nat)(d:Nat)(e:List Bool)(f:List (List Int))(g:List Int) :T ((Nat×Nat×Nat×Nat×(List Bool)×(List (List Int))×(List Int))⊕((Nat×Nat×Nat×Nat×(List Bool)×(List (List Int))×(List Int))⊕((Nat×Nat×Nat×Nat×(List Bool)×(List (List Int))×(List Int))⊕(aD)))) :=
  .leaf (.inl (a,b,c,d,e,f,g))
def vL(a:Int)(b:Int)(c:Lv)(d:Lv)(e:Nat)(f:List Bool)(g:List (List Int))(h:List Int)(i:Lv)(j:Int)(k:Int)(l:Lv)(m:List Nat)(n:Lv)(o:Lv)(p:Nat)(q:List Bool)(r:List (List Int))(s:List Int)(t:Lv)(u:Int)(v:Int)(w:Lv)(x:List Nat)(y:Lv)(z:Lv)(A:Nat)(B:List Bool)(C:List (List Int))(D:List Int)(E:Lv)(F:Int)(G:Int)(H:Lv)(I:List Nat)(J:Lv)(K:Lv)(L:Nat)(M:List Bool)(N:List (List Int))(O:List Int)(P:Bool)(Q:Nat) :Nat×Nat×Nat×Nat×(List Bool)×(List (List Int))×(List Int)→aM:=ck a b c d e f g h i j k l m n o p q r s t u v w x y z A B C D E F G H I J K L M N O P Q
def np(a:Nat)(b:Nat)(c:Nat)(d:Nat)(e:Nat)(f:List Bool)(g:List (List Int))(h:List Int) :T ((Nat×Nat×Nat×Nat×Nat×(List Bool)×(List (List Int))×(List Int))⊕((Nat×Nat×Nat×Nat×(List Bool)×(List (List Int))×(List Int))⊕(aD))) :=
  .need (ej .i64 (((a+1):Nat):Int))<|.leaf (.inl (b,c,d,(a+1),e,f,g,h))
def iB(i:Int)(j:Int)(k:Nat)(l:List Bool)(m:List (List Int))(n:List Int)(o:Int)(p:List Nat)(q:Nat)(r:List Bool)(s:List (List Int))(t:List Int)(u:Int)(v:List Nat)(w:Nat)(x:List Bool)(y:List (List Int))(z:List Int)(A:Int)(B:List Nat)(C:Nat)(D:List Bool)(E:List (List Int))(F:List Int) :Nat×Nat×Nat×Nat×Nat×(List Bool)×(List (List Int))×(List Int)→Option ((Nat×Nat×Nat×Nat×Nat×(List Bool)×(List (List Int))×(List Int))⊕((Nat×Nat×Nat×Nat×(List Bool)×(List (List Int))×(List Int))⊕(aD))):=fun (b,c,d,a,e,f,g,h) =>
  aH ((fh i b c d a e f g h).run) fun _ =>
  aH (Sf (aH ((nj).run) fun _ =>
  aH (eh (iA j k l m n o p q r s t u v w x y z A B C D E F a) (b,c,d,0,e,f,g,h)) fun (G,H,I,J,K,L,M) =>
  (nn G H I J K L M).run)) fun (N,O,P,Q,R,S,T) =>
  (np a N O P Q R S T).run
theorem vM(c:Int)(d:Int)(D:Lv)(E:Lv)(e:Nat)(f:List Bool)(g:List (List Int))(h:List Int)(F:Lv)(G:Int)(i:Int)(H:Lv)(j:List Nat)(L:Lv)(M:Lv)(k:Nat)(l:List Bool)(m:List (List Int))(n:List Int)(N:Lv)(O:Int)(o:Int)(P:Lv)(p:List Nat)(Q:Lv)(R:Lv)(q:Nat)(r:List Bool)(t:List (List Int))(u:List Int)(S:Lv)(T:Int)(v:Int)(U:Lv)(w:List Nat)(V:Lv)(W:Lv)(x:Nat)(y:List Bool)(z:List (List Int))(A:List Int)(b:Bool)(X:Nat)(Y:Nat)(Z:Nat)(B:Nat)(a0:Nat)(a1:List Bool)(a2:List (List Int))(a3:List Int) :Sg prog [] de (dd c d D E e f g h F G i H j L M k l m n N O o P p Q R q r t u S T v U w V W x y z A b (X,Y,Z,B,a0,a1,a2,a3)) (iB c d e f g h i j k l m n o p q r t u v w x y z A (X,Y,Z,B,a0,a1,a2,a3)) (dd c d D E e f g h F G i H j L M k l m n N O o P p Q R q r t u S T v U w V W x y z A b) (aS 0 (bH b) bc):=by
  unfold iB;exact Sg.cut 2 (aN bg) (Sg.seg (C:=C0) ap dB 60 (de.take 2) (dd c d D E e f g h F G i H j L M k l m n N O o P p Q R q r t u S T v U w V W x y z A b (X,Y,Z,B,a0,a1,a2,a3)) (fh c X Y Z B a0 a1 a2 a3) (nh c d D E e f g h F G i H j L M k l m n N O o P p Q R q r t u S T v U w V W x y z A b X Y Z B a0 a1 a2 a3) (aS 0 (bH b) bc) [⟨[],[0,1,2],[1,2,4,6,7,13,14]⟩,⟨[],[1,2],[4,6,7]⟩] (by kernel_rfl)) (fun a=>by cases a;exact Sg.cut 1 (aN bg) (D1 (id:=1) (K:=(ck c d D E e f g h F G i H j L M k l m n N O o P p Q R q r t u S T v U w V W x y z A b B)) (by kernel_rfl:((de.drop 2).take 1) = [.block 1 (inBlock ((((de.drop 2).take 1)).headD .skip))]) (aN bg) (gL (by decide) (i5 _)) (Sg.cut 2 (aN (aN bg)) (Sg.seg (C:=C0) ap dB 60 (dO.take 2) (nh c d D E e f g h F G i H j L M k l m n N O o P p Q R q r t u S T v U w V W x y z A b X Y Z B a0 a1 a2 a3 ()) (nj) (ni c d D E e f g h F G i H j L M k l m n N O o P p Q R q r t u S T v U w V W x y z A b X Y Z B a0 a1 a2 a3) (aS 1 (ck c d D E e f g h F G i H j L M k l m n N O o P p Q R q r t u S T v U w V W x y z A b B) (aS 0 (bH b) bc)) [⟨[],[0,1,2],[1,2,4,6,7,8,13,14,18,19]⟩] (by kernel_rfl)) (fun a=>by cases a;exact Sg.cut 1 (aN (aN bg)) (Sg.pre ⟨[],[0,1,2],[1,2,4,6,7,8,13,14,18,19]⟩ rfl (by kernel_rfl:NS.on ⟨[],[0,1,2],[1,2,4,6,7,8,13,14,18,19]⟩ (ni c d D E e f g h F G i H j L M k l m n N O o P p Q R q r t u S T v U w V W x y z A b X Y Z B a0 a1 a2 a3 ())=(df c d D E e f g h F G i H j L M k l m n N O o P p Q R q r t u S T v U w V W x y z A b B) (X,Y,Z,0,a0,a1,a2,a3)) (cw (I:=(df c d D E e f g h F G i H j L M k l m n N O o P p Q R q r t u S T v U w V W x y z A b B)) (J:=(dP c d D E e f g h F G i H j L M k l m n N O o P p Q R q r t u S T v U w V W x y z A b B)) (id:=2) (by kernel_rfl:((dO.drop 2).take 1) = [.block 2 (.loop (bW ((((dO.drop 2).take 1)).headD .skip)))]) (aN (aN bg)) (gL (by decide) (gL (by decide) (i5 _))) (fun s=>by obtain ⟨b9,c0,c1,c2,c3,c4,c5,c6⟩:=s;exact vJ c d D E e f g h F G i H j L M k l m n N O o P p Q R q r t u S T v U w V W x y z A b B b9 c0 c1 c2 c3 c4 c5 c6) (X,Y,Z,0,a0,a1,a2,a3))) (fun a=>by obtain ⟨a4,a5,a6,a7,a8,a9,b0⟩:=a;exact Sg.seg (C:=C0) ap dB 60 ((dO.drop 2).drop 1) (vK c d D E e f g h F G i H j L M k l m n N O o P p Q R q r t u S T v U w V W x y z A b B (a4,a5,a6,a7,a8,a9,b0)) (nn a4 a5 a6 a7 a8 a9 b0) (ck c d D E e f g h F G i H j L M k l m n N O o P p Q R q r t u S T v U w V W x y z A b B) (aS 1 (ck c d D E e f g h F G i H j L M k l m n N O o P p Q R q r t u S T v U w V W x y z A b B) (aS 0 (bH b) bc)) [⟨[],[0,1,2],[1,2,4,6,7,13,14]⟩] (by kernel_rfl))))) (fun a=>by obtain ⟨b2,b3,b4,b5,b6,b7,b8⟩:=a;exact Sg.seg (C:=C0) ap dB 60 ((de.drop 2).drop 1) (vL c d D E e f g h F G i H j L M k l m n N O o P p Q R q r t u S T v U w V W x y z A b B (b2,b3,b4,b5,b6,b7,b8)) (np B b2 b3 b4 b5 b6 b7 b8) (dd c d D E e f g h F G i H j L M k l m n N O o P p Q R q r t u S T v U w V W x y z A b) (aS 0 (bH b) bc) [⟨[],[0,1,2],[1,2,4,6,7,13,14]⟩] (by kernel_rfl)))
def vN(a:Bool) :Nat×Nat×Nat×Nat×(List Bool)×(List (List Int))×(List Int)→aM:=bH a
def nq:Nat×Bool×(List Int)×Nat×Nat×Int→aM:=fun (a,b,c,d,e,f)=>⟨an 46 [(4,.ptr 0 1 0 0),(5,.int .i64 ((a:Nat):Int))],[(0,.vs [.bool false b,.imm .free (.ns .u64 c) 1 1 d e,.int .i64 f])],1⟩
def fi(a:Nat)(e:Nat)(f:Nat)(b:List Bool)(c:List (List Int))(d:List Int) :T ((Nat×Bool×(List Int)×Nat×Nat×Int)⊕(aD)) :=
  .ask (((e:Nat):Int) != (0:Int))
    (.leaf (.inr (.r0 e false ([]:List Int) 0 0 (0:Int))))
    (.need (Nat.ble (0+a) f)<|.need (oz (bE a (aa 0 a b) (aa 0 a c) (aa 0 a d)))<|.leaf (.inl ((px (bE a (aa 0 a b) (aa 0 a c) (aa 0 a d))),(py (bE a (aa 0 a b) (aa 0 a c) (aa 0 a d))),(pz (bE a (aa 0 a b) (aa 0 a c) (aa 0 a d))),(pA (bE a (aa 0 a b) (aa 0 a c) (aa 0 a d))),(pB (bE a (aa 0 a b) (aa 0 a c) (aa 0 a d))),(pC (bE a (aa 0 a b) (aa 0 a c) (aa 0 a d))))))
def nr(a:Nat)(b:Bool)(c:List Int)(d:Nat)(e:Nat)(f:Int) :T ((Empty)⊕(aD)) :=
  .leaf (.inr (.r0 a b c d e f))
def aU(a:Int)(b:Int)(c:Nat)(d:List Bool)(e:List (List Int))(f:List Int)(g:Int)(h:List Nat)(i:Nat)(j:List Bool)(k:List (List Int))(l:List Int)(m:Int)(n:List Nat)(o:Nat)(p:List Bool)(q:List (List Int))(r:List Int)(s:Int)(t:List Nat)(u:Nat)(v:List Bool)(w:List (List Int))(x:List Int) :Option aD:=me (aH ((nc).run) fun K =>
  aH ((ng).run) fun _ =>
  aH (eh (iB a b c d e f g h i j k l m n o p q r s t u v w x) (0,0,0,0,0,([]:List Bool),([]:List (List Int)),([]:List Int))) fun (y,L,z,A,B,C,D) =>
  aH ((fi y z A B C D).run) fun (E,F,G,H,I,J) =>
  (nr E F G H I J).run)
theorem wR(j:Int)(k:Int)(D:Lv)(E:Lv)(b:Nat)(l:List Bool)(m:List (List Int))(n:List Int)(F:Lv)(G:Int)(o:Int)(H:Lv)(c:List Nat)(K:Lv)(L:Lv)(d:Nat)(p:List Bool)(q:List (List Int))(r:List Int)(M:Lv)(N:Int)(t:Int)(O:Lv)(e:List Nat)(P:Lv)(Q:Lv)(f:Nat)(u:List Bool)(v:List (List Int))(w:List Int)(R:Lv)(S:Int)(y:Int)(T:Lv)(g:List Nat)(U:Lv)(V:Lv)(i:Nat)(z:List Bool)(A:List (List Int))(B:List Int){x:aD}(h:aU j k b l m n o c d p q r t e f u v w y g i z A B=some x) :ax prog du [] [.agg [.int .i64 j,.int .i64 k],.fn (.func bZ) [] [.iptr D (.vs [.imm E (.cols b [.cb l,.cns .u64 m,.ci .i64 n]) 3 3 0 b]) 1 0 0,.iptr F (.vs [.int .i64 G,.int .i64 o,.imm H (.fl c) 1 1 0 (List.length c)]) 1 0 0,.iptr K (.vs [.imm L (.cols d [.cb p,.cns .u64 q,.ci .i64 r]) 3 3 0 d]) 1 0 0,.iptr M (.vs [.int .i64 N,.int .i64 t,.imm O (.fl e) 1 1 0 (List.length e)]) 1 0 0,.iptr P (.vs [.imm Q (.cols f [.cb u,.cns .u64 v,.ci .i64 w]) 3 3 0 f]) 1 0 0,.iptr R (.vs [.int .i64 S,.int .i64 y,.imm T (.fl g) 1 1 0 (List.length g)]) 1 0 0,.iptr U (.vs [.imm V (.cols i [.cb z,.cns .u64 A,.ci .i64 B]) 3 3 0 i]) 1 0 0]] (js x) :=
  Sg.contract true js (by kernel_rfl:prog.funcs[du]? = some (FN du)) (by kernel_rfl:(FN du).body=some (bB du)) (Sg.cut 1 bg (Sg.seg (C:=C0) ap dB 60 (fg.take 1) (aT (FN du) [] [.agg [.int .i64 j,.int .i64 k],.fn (.func bZ) [] [.iptr D (.vs [.imm E (.cols b [.cb l,.cns .u64 m,.ci .i64 n]) 3 3 0 b]) 1 0 0,.iptr F (.vs [.int .i64 G,.int .i64 o,.imm H (.fl c) 1 1 0 (List.length c)]) 1 0 0,.iptr K (.vs [.imm L (.cols d [.cb p,.cns .u64 q,.ci .i64 r]) 3 3 0 d]) 1 0 0,.iptr M (.vs [.int .i64 N,.int .i64 t,.imm O (.fl e) 1 1 0 (List.length e)]) 1 0 0,.iptr P (.vs [.imm Q (.cols f [.cb u,.cns .u64 v,.ci .i64 w]) 3 3 0 f]) 1 0 0,.iptr R (.vs [.int .i64 S,.int .i64 y,.imm T (.fl g) 1 1 0 (List.length g)]) 1 0 0,.iptr U (.vs [.imm V (.cols i [.cb z,.cns .u64 A,.ci .i64 B]) 3 3 0 i]) 1 0 0]]) (nc) (nU j k D E b l m n F G o H c K L d p q r M N t O e P Q f u v w R S y T g U V i z A B) bc [⟨[],[0,16],[1,2,4]⟩] (by kernel_rfl)) (fun W=>by exact QP (by kernel_rfl:(fg.drop 1) = [.scope (NF (((fg.drop 1)).headD .skip))]) bg (Sg.cut 3 bg (Sg.seg (C:=C0) ap dB 60 (dc.take 3) (nU j k D E b l m n F G o H c K L d p q r M N t O e P Q f u v w R S y T g U V i z A B W) (ng) (nV j k D E b l m n F G o H c K L d p q r M N t O e P Q f u v w R S y T g U V i z A B W) bc [⟨[],[0,1],[1,2,4,6,7,13,14]⟩] (by kernel_rfl)) (fun a=>by cases a;exact Sg.cut 1 bg (Sg.pre ⟨[(.slot 6,.own 3 3 (.cols 0 [.cb ([]:List Bool),.cns .u64 ([]:List (List Int)),.ci .i64 ([]:List Int)]))],[0,1,2],[1,2,4,6,7,13,14]⟩ rfl (by kernel_rfl:NS.on ⟨[(.slot 6,.own 3 3 (.cols 0 [.cb ([]:List Bool),.cns .u64 ([]:List (List Int)),.ci .i64 ([]:List Int)]))],[0,1,2],[1,2,4,6,7,13,14]⟩ (nV j k D E b l m n F G o H c K L d p q r M N t O e P Q f u v w R S y T g U V i z A B W ())=(dd j k D E b l m n F G o H c K L d p q r M N t O e P Q f u v w R S y T g U V i z A B W) (0,0,0,0,0,([]:List Bool),([]:List (List Int)),([]:List Int))) (cw (I:=(dd j k D E b l m n F G o H c K L d p q r M N t O e P Q f u v w R S y T g U V i z A B W)) (J:=(bH W)) (id:=0) (by kernel_rfl:((dc.drop 3).take 1) = [.block 0 (.loop (bW ((((dc.drop 3).take 1)).headD .skip)))]) bg (i5 _) (fun s=>by obtain ⟨a9,b0,b2,b3,b4,b5,b6,b7⟩:=s;exact vM j k D E b l m n F G o H c K L d p q r M N t O e P Q f u v w R S y T g U V i z A B W a9 b0 b2 b3 b4 b5 b6 b7) (0,0,0,0,0,([]:List Bool),([]:List (List Int)),([]:List Int)))) (fun a=>by obtain ⟨X,b8,Y,Z,a0,a1,a2⟩:=a;exact Sg.cut 3 bg (Sg.seg (C:=C0) ap dB 60 (((dc.drop 3).drop 1).take 3) (vN W (X,b8,Y,Z,a0,a1,a2)) (fi X Y Z a0 a1 a2) nq bc [⟨[(.cell 0 1,.fre 1 1 (.ns .u64 ([]:List Int)))],[0],[4,5]⟩,⟨[],[0],[4,5]⟩] (by kernel_rfl)) (fun a=>by obtain ⟨a3,a4,a5,a6,a7,a8⟩:=a;exact Sg.seg (C:=C0) ap dB 60 (((dc.drop 3).drop 1).drop 3) (nq (a3,a4,a5,a6,a7,a8)) (nr a3 a4 a5 a6 a7 a8) (fun a:Empty=>a.elim) bc [⟨[],[0],[4,5]⟩] (by kernel_rfl)))))))
    (fun x=>by cases x with | r0 b9 c0 c1 c2 c3 c4=>exact ⟨.inr rfl,[.agg [.bool false c0,.imm .free (.ns .u64 c1) 1 1 c2 c3,.int .i64 c4],.int .i64 ((b9:Nat):Int)],[],by kernel_rfl,trivial,by kernel_rfl⟩) h
def fq:Option aD→Bool
  | some _=>true
  | none=>false
def gZ:Option aD→Nat
  | some (.r0 x _ _ _ _ _)=>x
  | _=>0
def g5:Option aD→Bool
  | some (.r0 _ x _ _ _ _)=>x
  | _=>false
def g6:Option aD→List Int
  | some (.r0 _ _ x _ _ _)=>x
  | _=>[]
def g7:Option aD→Nat
  | some (.r0 _ _ _ x _ _)=>x
  | _=>0
def g8:Option aD→Nat
  | some (.r0 _ _ _ _ x _)=>x
  | _=>0
def g9:Option aD→Int
  | some (.r0 _ _ _ _ _ x)=>x
  | _=>0
theorem wS{x:Option aD}(h:fq x=true) :x=some (.r0 (gZ x) (g5 x) (g6 x) (g7 x) (g8 x) (g9 x)):=by
  unfold fq at h
  split at h <;> first | rfl | (cases h;done) | (rename_i y;cases y;rfl)
def n8:aL:=cn du (.cons (.agg (.cons (.int .i64) (.cons (.int .i64) .nil))) (.cons (.fn bZ .nil (.cons (.ivs (.cons (.cols [.cb,.cns .u64,.ci .i64]) .nil) 1 0 0) (.cons (.ivs (.cons (.int .i64) (.cons (.int .i64) (.cons .fl .nil))) 1 0 0) (.cons (.ivs (.cons (.cols [.cb,.cns .u64,.ci .i64]) .nil) 1 0 0) (.cons (.ivs (.cons (.int .i64) (.cons (.int .i64) (.cons .fl .nil))) 1 0 0) (.cons (.ivs (.cons (.cols [.cb,.cns .u64,.ci .i64]) .nil) 1 0 0) (.cons (.ivs (.cons (.int .i64) (.cons (.int .i64) (.cons .fl .nil))) 1 0 0) (.cons (.ivs (.cons (.cols [.cb,.cns .u64,.ci .i64]) .nil) 1 0 0) .nil)))))))) .nil)) fun t=>[⟨js (.r0 (gZ (aU t.1.1 t.1.2.1 t.2.1.2.1.2.1.2.1 t.2.1.2.1.2.1.2.2.1 t.2.1.2.1.2.1.2.2.2.1 t.2.1.2.1.2.1.2.2.2.2.1 t.2.1.2.2.1.2.2.1 t.2.1.2.2.1.2.2.2.1.2 t.2.1.2.2.2.1.2.1.2.1 t.2.1.2.2.2.1.2.1.2.2.1 t.2.1.2.2.2.1.2.1.2.2.2.1 t.2.1.2.2.2.1.2.1.2.2.2.2.1 t.2.1.2.2.2.2.1.2.2.1 t.2.1.2.2.2.2.1.2.2.2.1.2 t.2.1.2.2.2.2.2.1.2.1.2.1 t.2.1.2.2.2.2.2.1.2.1.2.2.1 t.2.1.2.2.2.2.2.1.2.1.2.2.2.1 t.2.1.2.2.2.2.2.1.2.1.2.2.2.2.1 t.2.1.2.2.2.2.2.2.1.2.2.1 t.2.1.2.2.2.2.2.2.1.2.2.2.1.2 t.2.1.2.2.2.2.2.2.2.1.2.1.2.1 t.2.1.2.2.2.2.2.2.2.1.2.1.2.2.1 t.2.1.2.2.2.2.2.2.2.1.2.1.2.2.2.1 t.2.1.2.2.2.2.2.2.2.1.2.1.2.2.2.2.1)) (g5 (aU t.1.1 t.1.2.1 t.2.1.2.1.2.1.2.1 t.2.1.2.1.2.1.2.2.1 t.2.1.2.1.2.1.2.2.2.1 t.2.1.2.1.2.1.2.2.2.2.1 t.2.1.2.2.1.2.2.1 t.2.1.2.2.1.2.2.2.1.2 t.2.1.2.2.2.1.2.1.2.1 t.2.1.2.2.2.1.2.1.2.2.1 t.2.1.2.2.2.1.2.1.2.2.2.1 t.2.1.2.2.2.1.2.1.2.2.2.2.1 t.2.1.2.2.2.2.1.2.2.1 t.2.1.2.2.2.2.1.2.2.2.1.2 t.2.1.2.2.2.2.2.1.2.1.2.1 t.2.1.2.2.2.2.2.1.2.1.2.2.1 t.2.1.2.2.2.2.2.1.2.1.2.2.2.1 t.2.1.2.2.2.2.2.1.2.1.2.2.2.2.1 t.2.1.2.2.2.2.2.2.1.2.2.1 t.2.1.2.2.2.2.2.2.1.2.2.2.1.2 t.2.1.2.2.2.2.2.2.2.1.2.1.2.1 t.2.1.2.2.2.2.2.2.2.1.2.1.2.2.1 t.2.1.2.2.2.2.2.2.2.1.2.1.2.2.2.1 t.2.1.2.2.2.2.2.2.2.1.2.1.2.2.2.2.1)) (g6 (aU t.1.1 t.1.2.1 t.2.1.2.1.2.1.2.1 t.2.1.2.1.2.1.2.2.1 t.2.1.2.1.2.1.2.2.2.1 t.2.1.2.1.2.1.2.2.2.2.1 t.2.1.2.2.1.2.2.1 t.2.1.2.2.1.2.2.2.1.2 t.2.1.2.2.2.1.2.1.2.1 t.2.1.2.2.2.1.2.1.2.2.1 t.2.1.2.2.2.1.2.1.2.2.2.1 t.2.1.2.2.2.1.2.1.2.2.2.2.1 t.2.1.2.2.2.2.1.2.2.1 t.2.1.2.2.2.2.1.2.2.2.1.2 t.2.1.2.2.2.2.2.1.2.1.2.1 t.2.1.2.2.2.2.2.1.2.1.2.2.1 t.2.1.2.2.2.2.2.1.2.1.2.2.2.1 t.2.1.2.2.2.2.2.1.2.1.2.2.2.2.1 t.2.1.2.2.2.2.2.2.1.2.2.1 t.2.1.2.2.2.2.2.2.1.2.2.2.1.2 t.2.1.2.2.2.2.2.2.2.1.2.1.2.1 t.2.1.2.2.2.2.2.2.2.1.2.1.2.2.1 t.2.1.2.2.2.2.2.2.2.1.2.1.2.2.2.1 t.2.1.2.2.2.2.2.2.2.1.2.1.2.2.2.2.1)) (g7 (aU t.1.1 t.1.2.1 t.2.1.2.1.2.1.2.1 t.2.1.2.1.2.1.2.2.1 t.2.1.2.1.2.1.2.2.2.1 t.2.1.2.1.2.1.2.2.2.2.1 t.2.1.2.2.1.2.2.1 t.2.1.2.2.1.2.2.2.1.2 t.2.1.2.2.2.1.2.1.2.1 t.2.1.2.2.2.1.2.1.2.2.1 t.2.1.2.2.2.1.2.1.2.2.2.1 t.2.1.2.2.2.1.2.1.2.2.2.2.1 t.2.1.2.2.2.2.1.2.2.1 t.2.1.2.2.2.2.1.2.2.2.1.2 t.2.1.2.2.2.2.2.1.2.1.2.1 t.2.1.2.2.2.2.2.1.2.1.2.2.1 t.2.1.2.2.2.2.2.1.2.1.2.2.2.1 t.2.1.2.2.2.2.2.1.2.1.2.2.2.2.1 t.2.1.2.2.2.2.2.2.1.2.2.1 t.2.1.2.2.2.2.2.2.1.2.2.2.1.2 t.2.1.2.2.2.2.2.2.2.1.2.1.2.1 t.2.1.2.2.2.2.2.2.2.1.2.1.2.2.1 t.2.1.2.2.2.2.2.2.2.1.2.1.2.2.2.1 t.2.1.2.2.2.2.2.2.2.1.2.1.2.2.2.2.1)) (g8 (aU t.1.1 t.1.2.1 t.2.1.2.1.2.1.2.1 t.2.1.2.1.2.1.2.2.1 t.2.1.2.1.2.1.2.2.2.1 t.2.1.2.1.2.1.2.2.2.2.1 t.2.1.2.2.1.2.2.1 t.2.1.2.2.1.2.2.2.1.2 t.2.1.2.2.2.1.2.1.2.1 t.2.1.2.2.2.1.2.1.2.2.1 t.2.1.2.2.2.1.2.1.2.2.2.1 t.2.1.2.2.2.1.2.1.2.2.2.2.1 t.2.1.2.2.2.2.1.2.2.1 t.2.1.2.2.2.2.1.2.2.2.1.2 t.2.1.2.2.2.2.2.1.2.1.2.1 t.2.1.2.2.2.2.2.1.2.1.2.2.1 t.2.1.2.2.2.2.2.1.2.1.2.2.2.1 t.2.1.2.2.2.2.2.1.2.1.2.2.2.2.1 t.2.1.2.2.2.2.2.2.1.2.2.1 t.2.1.2.2.2.2.2.2.1.2.2.2.1.2 t.2.1.2.2.2.2.2.2.2.1.2.1.2.1 t.2.1.2.2.2.2.2.2.2.1.2.1.2.2.1 t.2.1.2.2.2.2.2.2.2.1.2.1.2.2.2.1 t.2.1.2.2.2.2.2.2.2.1.2.1.2.2.2.2.1)) (g9 (aU t.1.1 t.1.2.1 t.2.1.2.1.2.1.2.1 t.2.1.2.1.2.1.2.2.1 t.2.1.2.1.2.1.2.2.2.1 t.2.1.2.1.2.1.2.2.2.2.1 t.2.1.2.2.1.2.2.1 t.2.1.2.2.1.2.2.2.1.2 t.2.1.2.2.2.1.2.1.2.1 t.2.1.2.2.2.1.2.1.2.2.1 t.2.1.2.2.2.1.2.1.2.2.2.1 t.2.1.2.2.2.1.2.1.2.2.2.2.1 t.2.1.2.2.2.2.1.2.2.1 t.2.1.2.2.2.2.1.2.2.2.1.2 t.2.1.2.2.2.2.2.1.2.1.2.1 t.2.1.2.2.2.2.2.1.2.1.2.2.1 t.2.1.2.2.2.2.2.1.2.1.2.2.2.1 t.2.1.2.2.2.2.2.1.2.1.2.2.2.2.1 t.2.1.2.2.2.2.2.2.1.2.2.1 t.2.1.2.2.2.2.2.2.1.2.2.2.1.2 t.2.1.2.2.2.2.2.2.2.1.2.1.2.1 t.2.1.2.2.2.2.2.2.2.1.2.1.2.2.1 t.2.1.2.2.2.2.2.2.2.1.2.1.2.2.2.1 t.2.1.2.2.2.2.2.2.2.1.2.1.2.2.2.2.1))),[fq (aU t.1.1 t.1.2.1 t.2.1.2.1.2.1.2.1 t.2.1.2.1.2.1.2.2.1 t.2.1.2.1.2.1.2.2.2.1 t.2.1.2.1.2.1.2.2.2.2.1 t.2.1.2.2.1.2.2.1 t.2.1.2.2.1.2.2.2.1.2 t.2.1.2.2.2.1.2.1.2.1 t.2.1.2.2.2.1.2.1.2.2.1 t.2.1.2.2.2.1.2.1.2.2.2.1 t.2.1.2.2.2.1.2.1.2.2.2.2.1 t.2.1.2.2.2.2.1.2.2.1 t.2.1.2.2.2.2.1.2.2.2.1.2 t.2.1.2.2.2.2.2.1.2.1.2.1 t.2.1.2.2.2.2.2.1.2.1.2.2.1 t.2.1.2.2.2.2.2.1.2.1.2.2.2.1 t.2.1.2.2.2.2.2.1.2.1.2.2.2.2.1 t.2.1.2.2.2.2.2.2.1.2.2.1 t.2.1.2.2.2.2.2.2.1.2.2.2.1.2 t.2.1.2.2.2.2.2.2.2.1.2.1.2.1 t.2.1.2.2.2.2.2.2.2.1.2.1.2.2.1 t.2.1.2.2.2.2.2.2.2.1.2.1.2.2.2.1 t.2.1.2.2.2.2.2.2.2.1.2.1.2.2.2.2.1)]⟩]
theorem uU:aV prog n8:=aP fun t=>(aQ (fun h=>wR t.1.1 t.1.2.1 t.2.1.2.1.1 t.2.1.2.1.2.1.1 t.2.1.2.1.2.1.2.1 t.2.1.2.1.2.1.2.2.1 t.2.1.2.1.2.1.2.2.2.1 t.2.1.2.1.2.1.2.2.2.2.1 t.2.1.2.2.1.1 t.2.1.2.2.1.2.1 t.2.1.2.2.1.2.2.1 t.2.1.2.2.1.2.2.2.1.1 t.2.1.2.2.1.2.2.2.1.2 t.2.1.2.2.2.1.1 t.2.1.2.2.2.1.2.1.1 t.2.1.2.2.2.1.2.1.2.1 t.2.1.2.2.2.1.2.1.2.2.1 t.2.1.2.2.2.1.2.1.2.2.2.1 t.2.1.2.2.2.1.2.1.2.2.2.2.1 t.2.1.2.2.2.2.1.1 t.2.1.2.2.2.2.1.2.1 t.2.1.2.2.2.2.1.2.2.1 t.2.1.2.2.2.2.1.2.2.2.1.1 t.2.1.2.2.2.2.1.2.2.2.1.2 t.2.1.2.2.2.2.2.1.1 t.2.1.2.2.2.2.2.1.2.1.1 t.2.1.2.2.2.2.2.1.2.1.2.1 t.2.1.2.2.2.2.2.1.2.1.2.2.1 t.2.1.2.2.2.2.2.1.2.1.2.2.2.1 t.2.1.2.2.2.2.2.1.2.1.2.2.2.2.1 t.2.1.2.2.2.2.2.2.1.1 t.2.1.2.2.2.2.2.2.1.2.1 t.2.1.2.2.2.2.2.2.1.2.2.1 t.2.1.2.2.2.2.2.2.1.2.2.2.1.1 t.2.1.2.2.2.2.2.2.1.2.2.2.1.2 t.2.1.2.2.2.2.2.2.2.1.1 t.2.1.2.2.2.2.2.2.2.1.2.1.1 t.2.1.2.2.2.2.2.2.2.1.2.1.2.1 t.2.1.2.2.2.2.2.2.2.1.2.1.2.2.1 t.2.1.2.2.2.2.2.2.2.1.2.1.2.2.2.1 t.2.1.2.2.2.2.2.2.2.1.2.1.2.2.2.2.1 (wS h)) ba)
def n9:List aL:=n8 :: Gp
theorem dH:bf prog (bi n9):=aw uU dB
end
end Go.Plb.Seat
