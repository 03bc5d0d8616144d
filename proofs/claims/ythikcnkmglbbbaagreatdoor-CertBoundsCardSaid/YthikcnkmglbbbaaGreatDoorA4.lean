/-
  Part 4 of what the claim leans on: an evaluator of the model, proved sound; the contracts of the functions.
-/
import Derived.Test.YthikcnkmglbbbaaGreatDoorA3
namespace Go.Plb.Seat
open Go Go.Plb
set_option linter.unusedVariables false
set_option maxRecDepth 100000
noncomputable section
inductive fB where
  | r0 (a:Nat) (b:Bool) (c:List Int) (d:Nat) (e:Int)
def Cx:fB→AE×aC
  | .r0 a b c d e=>(.ret,⟨ag 11 [(2,.ptr 0 1 0 0),(3,.int .i64 ((a:Nat):Int))],[(0,.vs [.bool false b,.imm .free (.ns .u64 c) 1 1 0 d,.int .i64 e])],1⟩)
theorem Ol:lc Cx:=by intro x;cases x <;> (intro h;cases h)
def Io:fB→ju
  | .r0 a b c d e=>⟨.tup [.agg [.bool false b,.imm .free (.ns .u64 c) 1 1 0 d,.int .i64 e],.int .i64 ((a:Nat):Int)],[]⟩
def F0:List Code:=bD (bp lB)
def Om:Bool×(List Int)×Nat×Int×Bool→aC:=fun (a,b,c,d,e)=>⟨ag 11 [(1,.ptr 0 1 0 0),(2,.ptr 1 1 0 0)],[(0,.vs [.bool false a,.imm .free (.ns .u64 b) 1 1 0 c,.int .i64 d]),(1,.vs [.bool false e,.nsl,.int .i64 (0:Int)])],2⟩
def F1(b:Bool)(a:List Int)(c:Int) :T ((Bool×(List Int)×Nat×Int×Bool)⊕(fB)) :=
  .need (aI 0 (List.length a) a)<|.need (f7 (aJ b (aa 0 (List.length a) a) c))<|.leaf (.inl ((eX (aJ b (aa 0 (List.length a) a) c)),(eY (aJ b (aa 0 (List.length a) a) c)),(eZ (aJ b (aa 0 (List.length a) a) c)),(e7 (aJ b (aa 0 (List.length a) a) c)),false))
def On(a:Bool)(b:List Int)(c:Nat)(d:Int)(e:Bool)(f:Bool) :aC:=⟨ag 11 [(1,.ptr 0 1 0 0),(2,.ptr 1 1 0 0),(8,.bool false f)],[(0,.vs [.bool false a,.imm .free (.ns .u64 b) 1 1 0 c,.int .i64 d]),(1,.vs [.bool false e,.nsl,.int .i64 (0:Int)])],2⟩
def Ap(a:List Int)(b:Nat)(c:Int) :T ((Bool)⊕(fB)) :=
  .need (aI 0 b a)<|.need (jg (dr (aa 0 b a) c))<|.leaf (.inl (!(g7 (dr (aa 0 b a) c))))
def Oo(a:Bool)(b:List Int)(c:Nat)(d:Int)(e:Bool) :T ((Empty)⊕(fB)) :=
  .ask e
    (.leaf (.inr (.r0 3 false ([]:List Int) 0 (0:Int))))
    (.leaf (.inr (.r0 0 a b c d)))
def bi(d:Bool)(e:List Int)(f:Int) :Option fB:=l6 (ax ((F1 d e f).run) fun (g,a,b,c,i) =>
  ax ((Ap a b c).run) fun h =>
  (Oo g a b c h).run)
theorem acO(f:Bool)(k:Lv)(b:List Int)(g:Int){x:fB}(h:bi f b g=some x) :ak prog lB [] [.agg [.bool false f,.imm k (.ns .u64 b) 1 1 0 (List.length b),.int .i64 g]] (Io x) :=
  Sg.contract true Io (by kernel_rfl:prog.funcs[lB]? = some (FN lB)) (by kernel_rfl:(FN lB).body=some (bp lB)) (Sg.cut 2 Ol (Sg.seg (C:=C0) ah tW 60 (F0.take 2) (aL (FN lB) [] [.agg [.bool false f,.imm k (.ns .u64 b) 1 1 0 (List.length b),.int .i64 g]]) (F1 f b g) Om Cx [⟨[],[0,16],[1,2]⟩] (by kernel_rfl)) (fun a=>by obtain ⟨i,c,d,e,j⟩:=a;exact Sg.cut 1 Ol (Sg.seg (C:=C0) ah tW 60 ((F0.drop 2).take 1) (Om (i,c,d,e,j)) (Ap c d e) (On i c d e j) Cx [⟨[],[0,1],[1,2,8]⟩] (by kernel_rfl)) (fun l=>by exact Sg.seg (C:=C0) ah tW 60 ((F0.drop 2).drop 1) (On i c d e j l) (Oo i c d e l) (fun a:Empty=>a.elim) Cx [⟨[(.cell 1 1,.fre 1 1 (.ns .u64 ([]:List Int)))],[1],[2,3]⟩,⟨[],[1],[2,3]⟩] (by kernel_rfl))))
    (fun x=>by cases x with | r0 m n o p q=>exact ⟨.inr rfl,[.agg [.bool false n,.imm .free (.ns .u64 o) 1 1 0 p,.int .i64 q],.int .i64 ((m:Nat):Int)],[],by kernel_rfl,trivial,by kernel_rfl⟩) h
def mg:Option fB→Bool
  | some _=>true
  | none=>false
def kX:Option fB→Nat
  | some (.r0 x _ _ _ _)=>x
  | _=>0
def kY:Option fB→Bool
  | some (.r0 _ x _ _ _)=>x
  | _=>false
def kZ:Option fB→List Int
  | some (.r0 _ _ x _ _)=>x
  | _=>[]
def k6:Option fB→Nat
  | some (.r0 _ _ _ x _)=>x
  | _=>0
def k7:Option fB→Int
  | some (.r0 _ _ _ _ x)=>x
  | _=>0
theorem acP{x:Option fB}(h:mg x=true) :x=some (.r0 (kX x) (kY x) (kZ x) (k6 x) (k7 x)):=by
  unfold mg at h
  split at h <;> first | rfl | (cases h;done) | (rename_i y;cases y;rfl)
def SN:aD:=bW lB (.cons (.agg (.cons .bool (.cons (.ns .u64) (.cons (.int .i64) .nil)))) .nil) fun t=>[⟨Io (.r0 (kX (bi t.1.1 t.1.2.1.2 t.1.2.2.1)) (kY (bi t.1.1 t.1.2.1.2 t.1.2.2.1)) (kZ (bi t.1.1 t.1.2.1.2 t.1.2.2.1)) (k6 (bi t.1.1 t.1.2.1.2 t.1.2.2.1)) (k7 (bi t.1.1 t.1.2.1.2 t.1.2.2.1))),[mg (bi t.1.1 t.1.2.1.2 t.1.2.2.1)]⟩]
theorem XO:aM prog SN:=aG fun t=>(aH (fun h=>acO t.1.1 t.1.2.1.1 t.1.2.1.2 t.1.2.2.1 (acP h)) aR)
def SO:List aD:=SN :: Oj
theorem f9:aX prog (aZ SO):=am XO tW
inductive dI where
  | r0 (a:Nat) (b:Bool) (c:List Int) (d:Nat) (e:Int)
def mh:dI→AE×aC
  | .r0 a b c d e=>(.ret,⟨ag 72 [(4,.ptr 0 1 0 0),(5,.int .i64 ((a:Nat):Int))],[(0,.vs [.bool false b,.imm .free (.ns .u64 c) 1 1 0 d,.int .i64 e])],1⟩)
theorem oJ:lc mh:=by intro x;cases x <;> (intro h;cases h)
def K7:dI→ju
  | .r0 a b c d e=>⟨.tup [.agg [.bool false b,.imm .free (.ns .u64 c) 1 1 0 d,.int .i64 e],.int .i64 ((a:Nat):Int)],[]⟩
def lP:List Code:=bD (bp nX)
def SP(c:Bool)(d:Lv)(a:List Int)(e:Int)(f:Bool)(g:Lv)(b:List Int)(h:Int) :Bool×Bool→aC:=fun (i,j)=>⟨ag 72 [(2,.ptr 0 1 0 0),(3,.ptr 1 1 0 0),(4,.ptr 2 1 0 0),(16,.bool false i)],[(0,.vs [.bool false c,.imm d (.ns .u64 a) 1 1 0 (List.length a),.int .i64 e]),(1,.vs [.bool false f,.imm g (.ns .u64 b) 1 1 0 (List.length b),.int .i64 h]),(2,.vs [.bool false j,.nsl,.int .i64 (0:Int)])],3⟩
def Oq(a:List Int)(c:Int)(b:List Int)(d:Int) :T ((Bool×Bool)⊕(dI)) :=
  .need (aI 0 (List.length a) a)<|.need (jg (dr (aa 0 (List.length a) a) c))<|.ask (!(g7 (dr (aa 0 (List.length a) a) c)))
    (.leaf (.inl (true,false)))
    (.need (aI 0 (List.length b) b)<|.need (jg (dr (aa 0 (List.length b) b) d))<|.leaf (.inl ((!(g7 (dr (aa 0 (List.length b) b) d))),false)))
def SQ(a:Bool) :Bool×(List Int)×Nat×Int×Bool×(List Int)×Nat×Int→aC:=fun (b,c,d,e,f,g,h,i)=>⟨ag 72 [(2,.ptr 0 1 0 0),(3,.ptr 1 1 0 0),(4,.ptr 2 1 0 0)],[(0,.vs [.bool false b,.imm .free (.ns .u64 c) 1 1 0 d,.int .i64 e]),(1,.vs [.bool false f,.imm .free (.ns .u64 g) 1 1 0 h,.int .i64 i]),(2,.vs [.bool false a,.nsl,.int .i64 (0:Int)])],3⟩
def Ot(c:Bool)(a:List Int)(d:Int)(e:Bool)(b:List Int)(f:Int)(g:Bool) :T ((Bool×(List Int)×Nat×Int×Bool×(List Int)×Nat×Int)⊕(dI)) :=
  .ask g
    (.leaf (.inr (.r0 2 false ([]:List Int) 0 (0:Int))))
    (.need (aI 0 (List.length a) a)<|.need (f7 (aJ c (aa 0 (List.length a) a) d))<|.need (aI 0 (List.length b) b)<|.need (f7 (aJ e (aa 0 (List.length b) b) f))<|.leaf (.inl ((eX (aJ c (aa 0 (List.length a) a) d)),(eY (aJ c (aa 0 (List.length a) a) d)),(eZ (aJ c (aa 0 (List.length a) a) d)),(e7 (aJ c (aa 0 (List.length a) a) d)),(eX (aJ e (aa 0 (List.length b) b) f)),(eY (aJ e (aa 0 (List.length b) b) f)),(eZ (aJ e (aa 0 (List.length b) b) f)),(e7 (aJ e (aa 0 (List.length b) b) f)))))
def SS(a:Bool)(b:Bool)(c:List Int)(d:Nat)(e:Int)(f:Bool)(g:List Int)(h:Nat)(i:Int)(j:Bool) :aC:=⟨ag 72 [(2,.ptr 0 1 0 0),(3,.ptr 1 1 0 0),(4,.ptr 2 1 0 0),(24,.bool false j)],[(0,.vs [.bool false b,.imm .free (.ns .u64 c) 1 1 0 d,.int .i64 e]),(1,.vs [.bool false f,.imm .free (.ns .u64 g) 1 1 0 h,.int .i64 i]),(2,.vs [.bool false a,.nsl,.int .i64 (0:Int)])],3⟩
def Ou(a:List Int)(b:Nat)(e:Int)(c:List Int)(d:Nat)(f:Int) :T ((Bool)⊕(dI)) :=
  .need (aI 0 b a)<|.need (aI 0 d c)<|.need (xN (sL (aa 0 b a) e (aa 0 d c) f))<|.leaf (.inl (xO (sL (aa 0 b a) e (aa 0 d c) f)))
def ST(a:Bool)(b:Bool)(c:List Int)(d:Nat)(e:Int)(f:Bool)(g:List Int)(h:Nat)(i:Int) :(List Int)×Nat×(List Int)×Nat×Int→aC:=fun (j,k,l,m,n)=>⟨ag 72 [(2,.ptr 0 1 0 0),(3,.ptr 1 1 0 0),(4,.ptr 2 1 0 0),(6,.imm .free (.ns .u64 j) 1 1 0 k),(7,.imm .free (.ns .u64 l) 1 1 0 m),(8,.int .i64 n)],[(0,.vs [.bool false b,.imm .free (.ns .u64 c) 1 1 0 d,.int .i64 e]),(1,.vs [.bool false f,.imm .free (.ns .u64 g) 1 1 0 h,.int .i64 i]),(2,.vs [.bool false a,.nsl,.int .i64 (0:Int)])],3⟩
def Ov(a:List Int)(b:Nat)(e:Int)(c:List Int)(d:Nat)(f:Int)(g:Bool) :T (((List Int)×Nat×(List Int)×Nat×Int)⊕(dI)) :=
  .ask g
    (.leaf (.inr (.r0 3 false ([]:List Int) 0 (0:Int))))
    (.need (aI 0 b a)<|.need (aI 0 d c)<|.need (sN (da (aa 0 b a) e (aa 0 d c) f))<|.leaf (.inl ((tS (da (aa 0 b a) e (aa 0 d c) f)),(tT (da (aa 0 b a) e (aa 0 d c) f)),(tU (da (aa 0 b a) e (aa 0 d c) f)),(tV (da (aa 0 b a) e (aa 0 d c) f)),(zf (da (aa 0 b a) e (aa 0 d c) f)))))
def SU(a:Bool)(b:Bool)(c:List Int)(d:Nat)(e:Int)(f:Bool)(g:List Int)(h:Nat)(i:Int)(j:List Int)(k:Nat)(l:List Int)(m:Nat)(n:Int)(_:Unit) :aC:=⟨ag 72 [(2,.ptr 0 1 0 0),(3,.ptr 1 1 0 0),(4,.ptr 2 1 0 0),(6,.imm .free (.ns .u64 j) 1 1 0 k),(7,.imm .free (.ns .u64 l) 1 1 0 m),(8,.int .i64 n)],[(0,.vs [.bool false b,.imm .free (.ns .u64 c) 1 1 0 d,.int .i64 e]),(1,.vs [.bool false f,.imm .free (.ns .u64 g) 1 1 0 h,.int .i64 i]),(2,.vs [.bool false a,.nsl,.int .i64 (0:Int)])],3⟩
def Ow(e:Bool)(g:Bool)(a:List Int)(b:Nat)(c:List Int)(d:Nat)(f:Int) :T ((Unit)⊕(dI)) :=
  .ask (e == g)
    (.need (aI 0 b a)<|.need (aI 0 d c)<|.need (Cr (dT (aa 0 b a) (aa 0 d c)))<|.need (aI 0 (jd (dT (aa 0 b a) (aa 0 d c))) (jc (dT (aa 0 b a) (aa 0 d c))))<|.need (mg (bi e (aa 0 (jd (dT (aa 0 b a) (aa 0 d c))) (jc (dT (aa 0 b a) (aa 0 d c)))) f))<|.leaf (.inr (.r0 (kX (bi e (aa 0 (jd (dT (aa 0 b a) (aa 0 d c))) (jc (dT (aa 0 b a) (aa 0 d c)))) f)) (kY (bi e (aa 0 (jd (dT (aa 0 b a) (aa 0 d c))) (jc (dT (aa 0 b a) (aa 0 d c)))) f)) (kZ (bi e (aa 0 (jd (dT (aa 0 b a) (aa 0 d c))) (jc (dT (aa 0 b a) (aa 0 d c)))) f)) (k6 (bi e (aa 0 (jd (dT (aa 0 b a) (aa 0 d c))) (jc (dT (aa 0 b a) (aa 0 d c)))) f)) (k7 (bi e (aa 0 (jd (dT (aa 0 b a) (aa 0 d c))) (jc (dT (aa 0 b a) (aa 0 d c)))) f)))))
    (.leaf (.inl ()))
def SV(a:Bool)(b:Bool)(c:List Int)(d:Nat)(e:Int)(f:Bool)(g:List Int)(h:Nat)(i:Int)(j:List Int)(k:Nat)(l:List Int)(m:Nat)(n:Int)(o:Bool) :aC:=⟨ag 72 [(2,.ptr 0 1 0 0),(3,.ptr 1 1 0 0),(4,.ptr 2 1 0 0),(6,.imm .free (.ns .u64 j) 1 1 0 k),(7,.imm .free (.ns .u64 l) 1 1 0 m),(8,.int .i64 n),(51,.bool false o)],[(0,.vs [.bool false b,.imm .free (.ns .u64 c) 1 1 0 d,.int .i64 e]),(1,.vs [.bool false f,.imm .free (.ns .u64 g) 1 1 0 h,.int .i64 i]),(2,.vs [.bool false a,.nsl,.int .i64 (0:Int)])],3⟩
def Ox(a:List Int)(b:Nat)(c:List Int)(d:Nat) :T ((Bool)⊕(dI)) :=
  .need (aI 0 b a)<|.need (aI 0 d c)<|.need (tP (oG (aa 0 b a) (aa 0 d c)))<|.leaf (.inl (decide ((sH (oG (aa 0 b a) (aa 0 d c))) ≥ (0:Int))))
def SW(a:Bool)(b:Bool)(c:List Int)(d:Nat)(e:Int)(f:List Int)(g:Nat)(h:List Int)(i:Nat)(j:Int)(_:Unit) :aC:=⟨ag 72 [(3,.ptr 0 1 0 0),(4,.ptr 1 1 0 0),(6,.imm .free (.ns .u64 f) 1 1 0 g),(7,.imm .free (.ns .u64 h) 1 1 0 i),(8,.int .i64 j)],[(0,.vs [.bool false b,.imm .free (.ns .u64 c) 1 1 0 d,.int .i64 e]),(1,.vs [.bool false a,.nsl,.int .i64 (0:Int)])],2⟩
def Oy(e:Bool)(a:List Int)(b:Nat)(c:List Int)(d:Nat)(f:Int)(g:Bool) :T ((Unit)⊕(dI)) :=
  .ask g
    (.need (aI 0 b a)<|.need (aI 0 d c)<|.need (xG (bL (aa 0 b a) (aa 0 d c)))<|.need (aI 0 (dg (bL (aa 0 b a) (aa 0 d c))) (df (bL (aa 0 b a) (aa 0 d c))))<|.need (mg (bi e (aa 0 (dg (bL (aa 0 b a) (aa 0 d c))) (df (bL (aa 0 b a) (aa 0 d c)))) f))<|.leaf (.inr (.r0 (kX (bi e (aa 0 (dg (bL (aa 0 b a) (aa 0 d c))) (df (bL (aa 0 b a) (aa 0 d c)))) f)) (kY (bi e (aa 0 (dg (bL (aa 0 b a) (aa 0 d c))) (df (bL (aa 0 b a) (aa 0 d c)))) f)) (kZ (bi e (aa 0 (dg (bL (aa 0 b a) (aa 0 d c))) (df (bL (aa 0 b a) (aa 0 d c)))) f)) (k6 (bi e (aa 0 (dg (bL (aa 0 b a) (aa 0 d c))) (df (bL (aa 0 b a) (aa 0 d c)))) f)) (k7 (bi e (aa 0 (dg (bL (aa 0 b a) (aa 0 d c))) (df (bL (aa 0 b a) (aa 0 d c)))) f)))))
    (.leaf (.inl ()))
def SX:Nat×Bool×(List Int)×Nat×Int→aC:=fun (a,b,c,d,e)=>⟨ag 72 [(4,.ptr 0 1 0 0),(5,.int .i64 ((a:Nat):Int))],[(0,.vs [.bool false b,.imm .free (.ns .u64 c) 1 1 0 d,.int .i64 e])],1⟩
def Oz(e:Bool)(a:List Int)(b:Nat)(c:List Int)(d:Nat)(f:Int) :T ((Nat×Bool×(List Int)×Nat×Int)⊕(dI)) :=
  .need (aI 0 d c)<|.need (aI 0 b a)<|.need (xG (bL (aa 0 d c) (aa 0 b a)))<|.need (aI 0 (dg (bL (aa 0 d c) (aa 0 b a))) (df (bL (aa 0 d c) (aa 0 b a))))<|.need (mg (bi e (aa 0 (dg (bL (aa 0 d c) (aa 0 b a))) (df (bL (aa 0 d c) (aa 0 b a)))) f))<|.leaf (.inl ((kX (bi e (aa 0 (dg (bL (aa 0 d c) (aa 0 b a))) (df (bL (aa 0 d c) (aa 0 b a)))) f)),(kY (bi e (aa 0 (dg (bL (aa 0 d c) (aa 0 b a))) (df (bL (aa 0 d c) (aa 0 b a)))) f)),(kZ (bi e (aa 0 (dg (bL (aa 0 d c) (aa 0 b a))) (df (bL (aa 0 d c) (aa 0 b a)))) f)),(k6 (bi e (aa 0 (dg (bL (aa 0 d c) (aa 0 b a))) (df (bL (aa 0 d c) (aa 0 b a)))) f)),(k7 (bi e (aa 0 (dg (bL (aa 0 d c) (aa 0 b a))) (df (bL (aa 0 d c) (aa 0 b a)))) f))))
def OA(a:Nat)(b:Bool)(c:List Int)(d:Nat)(e:Int) :T ((Empty)⊕(dI)) :=
  .leaf (.inr (.r0 a b c d e))
def sO(r:Bool)(f:List Int)(g:Int)(s:Bool)(h:List Int)(i:Int) :Option dI:=l6 (ax ((Oq f g h i).run) fun (t,B) =>
  ax ((Ot r f g s h i t).run) fun (j,k,l,m,n,o,p,q) =>
  ax ((Ou k l m o p q).run) fun u =>
  ax ((Ov k l m o p q u).run) fun (a,b,c,d,e) =>
  ax ((Ow j n a b c d e).run) fun _ =>
  ax ((Ox a b c d).run) fun v =>
  ax ((Oy j a b c d e v).run) fun _ =>
  ax ((Oz n a b c d e).run) fun (w,x,y,z,A) =>
  (OA w x y z A).run)
theorem agb(u:Bool)(w:Lv)(q:List Int)(s:Int)(v:Bool)(y:Lv)(r:List Int)(t:Int){x:dI}(h:sO u q s v r t=some x) :ak prog nX [] [.agg [.bool false u,.imm w (.ns .u64 q) 1 1 0 (List.length q),.int .i64 s],.agg [.bool false v,.imm y (.ns .u64 r) 1 1 0 (List.length r),.int .i64 t]] (K7 x) :=
  Sg.contract true K7 (by kernel_rfl:prog.funcs[nX]? = some (FN nX)) (by kernel_rfl:(FN nX).body=some (bp nX)) (Sg.cut 2 oJ (Sg.seg (C:=C0) ah f9 60 (lP.take 2) (aL (FN nX) [] [.agg [.bool false u,.imm w (.ns .u64 q) 1 1 0 (List.length q),.int .i64 s],.agg [.bool false v,.imm y (.ns .u64 r) 1 1 0 (List.length r),.int .i64 t]]) (Oq q s r t) (SP u w q s v y r t) mh [⟨[],[0,16,32],[2,3,4,16]⟩,⟨[],[0,16,32],[2,3,4,16]⟩] (by kernel_rfl)) (fun a=>by obtain ⟨z,b⟩:=a;exact Sg.cut 2 oJ (Sg.seg (C:=C0) ah f9 60 ((lP.drop 2).take 2) (SP u w q s v y r t (z,b)) (Ot u q s v r t z) (SQ b) mh [⟨[(.cell 2 1,.fre 1 1 (.ns .u64 ([]:List Int)))],[2],[4,5]⟩,⟨[],[0,1,2],[2,3,4]⟩] (by kernel_rfl)) (fun a=>by obtain ⟨g,i,j,k,c,d,e,f⟩:=a;exact Sg.cut 1 oJ (Sg.seg (C:=C0) ah f9 60 (((lP.drop 2).drop 2).take 1) (SQ b (g,i,j,k,c,d,e,f)) (Ou i j k d e f) (SS b g i j k c d e f) mh [⟨[],[0,1,2],[2,3,4,24]⟩] (by kernel_rfl)) (fun A=>by exact Sg.cut 2 oJ (Sg.seg (C:=C0) ah f9 60 ((((lP.drop 2).drop 2).drop 1).take 2) (SS b g i j k c d e f A) (Ov i j k d e f A) (ST b g i j k c d e f) mh [⟨[(.cell 2 1,.fre 1 1 (.ns .u64 ([]:List Int)))],[2],[4,5]⟩,⟨[],[0,1,2],[2,3,4,6,7,8]⟩] (by kernel_rfl)) (fun a=>by obtain ⟨l,m,n,o,p⟩:=a;exact Sg.cut 2 oJ (Sg.seg (C:=C0) ah f9 60 (((((lP.drop 2).drop 2).drop 1).drop 2).take 2) (ST b g i j k c d e f (l,m,n,o,p)) (Ow g c l m n o p) (SU b g i j k c d e f l m n o p) mh [⟨[],[2],[4,5]⟩,⟨[],[0,1,2],[2,3,4,6,7,8]⟩] (by kernel_rfl)) (fun a=>by cases a;exact Sg.cut 1 oJ (Sg.seg (C:=C0) ah f9 60 ((((((lP.drop 2).drop 2).drop 1).drop 2).drop 2).take 1) (SU b g i j k c d e f l m n o p ()) (Ox l m n o) (SV b g i j k c d e f l m n o p) mh [⟨[],[0,1,2],[2,3,4,6,7,8,51]⟩] (by kernel_rfl)) (fun B=>by exact Sg.cut 1 oJ (Sg.seg (C:=C0) ah f9 60 (((((((lP.drop 2).drop 2).drop 1).drop 2).drop 2).drop 1).take 1) (SV b g i j k c d e f l m n o p B) (Oy g l m n o p B) (SW b c d e f l m n o p) mh [⟨[],[2],[4,5]⟩,⟨[],[1,2],[3,4,6,7,8]⟩] (by kernel_rfl)) (fun a=>by cases a;exact Sg.cut 1 oJ (Sg.seg (C:=C0) ah f9 60 ((((((((lP.drop 2).drop 2).drop 1).drop 2).drop 2).drop 1).drop 1).take 1) (SW b c d e f l m n o p ()) (Oz c l m n o p) SX mh [⟨[],[1],[4,5]⟩] (by kernel_rfl)) (fun a=>by obtain ⟨D,E,F,G,H⟩:=a;exact Sg.seg (C:=C0) ah f9 60 ((((((((lP.drop 2).drop 2).drop 1).drop 2).drop 2).drop 1).drop 1).drop 1) (SX (D,E,F,G,H)) (OA D E F G H) (fun a:Empty=>a.elim) mh [⟨[],[0],[4,5]⟩] (by kernel_rfl))))))))))
    (fun x=>by cases x with | r0 I J K L M=>exact ⟨.inr rfl,[.agg [.bool false J,.imm .free (.ns .u64 K) 1 1 0 L,.int .i64 M],.int .i64 ((I:Nat):Int)],[],by kernel_rfl,trivial,by kernel_rfl⟩) h
def Ip:Option dI→Bool
  | some _=>true
  | none=>false
def K8:Option dI→Nat
  | some (.r0 x _ _ _ _)=>x
  | _=>0
def K9:Option dI→Bool
  | some (.r0 _ x _ _ _)=>x
  | _=>false
def La:Option dI→List Int
  | some (.r0 _ _ x _ _)=>x
  | _=>[]
def Lb:Option dI→Nat
  | some (.r0 _ _ _ x _)=>x
  | _=>0
def Lc:Option dI→Int
  | some (.r0 _ _ _ _ x)=>x
  | _=>0
theorem agc{x:Option dI}(h:Ip x=true) :x=some (.r0 (K8 x) (K9 x) (La x) (Lb x) (Lc x)):=by
  unfold Ip at h
  split at h <;> first | rfl | (cases h;done) | (rename_i y;cases y;rfl)
def WT:aD:=bW nX (.cons (.agg (.cons .bool (.cons (.ns .u64) (.cons (.int .i64) .nil)))) (.cons (.agg (.cons .bool (.cons (.ns .u64) (.cons (.int .i64) .nil)))) .nil)) fun t=>[⟨K7 (.r0 (K8 (sO t.1.1 t.1.2.1.2 t.1.2.2.1 t.2.1.1 t.2.1.2.1.2 t.2.1.2.2.1)) (K9 (sO t.1.1 t.1.2.1.2 t.1.2.2.1 t.2.1.1 t.2.1.2.1.2 t.2.1.2.2.1)) (La (sO t.1.1 t.1.2.1.2 t.1.2.2.1 t.2.1.1 t.2.1.2.1.2 t.2.1.2.2.1)) (Lb (sO t.1.1 t.1.2.1.2 t.1.2.2.1 t.2.1.1 t.2.1.2.1.2 t.2.1.2.2.1)) (Lc (sO t.1.1 t.1.2.1.2 t.1.2.2.1 t.2.1.1 t.2.1.2.1.2 t.2.1.2.2.1))),[Ip (sO t.1.1 t.1.2.1.2 t.1.2.2.1 t.2.1.1 t.2.1.2.1.2 t.2.1.2.2.1)]⟩]
theorem aaO:aM prog WT:=aG fun t=>(aH (fun h=>agb t.1.1 t.1.2.1.1 t.1.2.1.2 t.1.2.2.1 t.2.1.1 t.2.1.2.1.1 t.2.1.2.1.2 t.2.1.2.2.1 (agc h)) aR)
def WU:List aD:=WT :: SO
theorem sP:aX prog (aZ WU):=am aaO f9
inductive fT where
  | r0 (a:Nat) (b:Bool) (c:List Int) (d:Nat) (e:Int)
def A6:fT→AE×aC
  | .r0 a b c d e=>(.ret,⟨ag 38 [(4,.ptr 0 1 0 0),(5,.int .i64 ((a:Nat):Int))],[(0,.vs [.bool false b,.imm .free (.ns .u64 c) 1 1 0 d,.int .i64 e])],1⟩)
theorem Iq:lc A6:=by intro x;cases x <;> (intro h;cases h)
def Ld:fT→ju
  | .r0 a b c d e=>⟨.tup [.agg [.bool false b,.imm .free (.ns .u64 c) 1 1 0 d,.int .i64 e],.int .i64 ((a:Nat):Int)],[]⟩
def Cy:List Code:=bD (bp nY)
def SY(c:Bool)(d:Lv)(a:List Int)(e:Int)(f:Bool)(g:Lv)(b:List Int)(h:Int) :Bool×Bool→aC:=fun (i,j)=>⟨ag 38 [(2,.ptr 0 1 0 0),(3,.ptr 1 1 0 0),(4,.ptr 2 1 0 0),(13,.bool false i)],[(0,.vs [.bool false c,.imm d (.ns .u64 a) 1 1 0 (List.length a),.int .i64 e]),(1,.vs [.bool false f,.imm g (.ns .u64 b) 1 1 0 (List.length b),.int .i64 h]),(2,.vs [.bool false j,.nsl,.int .i64 (0:Int)])],3⟩
def Ir(a:List Int)(c:Int)(b:List Int)(d:Int) :T ((Bool×Bool)⊕(fT)) :=
  .need (aI 0 (List.length a) a)<|.need (jg (dr (aa 0 (List.length a) a) c))<|.ask (!(g7 (dr (aa 0 (List.length a) a) c)))
    (.leaf (.inl (true,false)))
    (.need (aI 0 (List.length b) b)<|.need (jg (dr (aa 0 (List.length b) b) d))<|.leaf (.inl ((!(g7 (dr (aa 0 (List.length b) b) d))),false)))
def SZ(a:Bool) :Bool×(List Int)×Nat×Int×Bool×(List Int)×Nat×Int→aC:=fun (b,c,d,e,f,g,h,i)=>⟨ag 38 [(2,.ptr 0 1 0 0),(3,.ptr 1 1 0 0),(4,.ptr 2 1 0 0)],[(0,.vs [.bool false b,.imm .free (.ns .u64 c) 1 1 0 d,.int .i64 e]),(1,.vs [.bool false f,.imm .free (.ns .u64 g) 1 1 0 h,.int .i64 i]),(2,.vs [.bool false a,.nsl,.int .i64 (0:Int)])],3⟩
def Cz(c:Bool)(a:List Int)(d:Int)(e:Bool)(b:List Int)(f:Int)(g:Bool) :T ((Bool×(List Int)×Nat×Int×Bool×(List Int)×Nat×Int)⊕(fT)) :=
  .ask g
    (.leaf (.inr (.r0 2 false ([]:List Int) 0 (0:Int))))
    (.need (aI 0 (List.length a) a)<|.need (f7 (aJ c (aa 0 (List.length a) a) d))<|.need (aI 0 (List.length b) b)<|.need (f7 (aJ e (aa 0 (List.length b) b) f))<|.leaf (.inl ((eX (aJ c (aa 0 (List.length a) a) d)),(eY (aJ c (aa 0 (List.length a) a) d)),(eZ (aJ c (aa 0 (List.length a) a) d)),(e7 (aJ c (aa 0 (List.length a) a) d)),(eX (aJ e (aa 0 (List.length b) b) f)),(eY (aJ e (aa 0 (List.length b) b) f)),(eZ (aJ e (aa 0 (List.length b) b) f)),(e7 (aJ e (aa 0 (List.length b) b) f)))))
def S0:Nat×Bool×(List Int)×Nat×Int→aC:=fun (a,b,c,d,e)=>⟨ag 38 [(4,.ptr 0 1 0 0),(5,.int .i64 ((a:Nat):Int))],[(0,.vs [.bool false b,.imm .free (.ns .u64 c) 1 1 0 d,.int .i64 e])],1⟩
def CA(g:Bool)(a:List Int)(b:Nat)(e:Int)(h:Bool)(c:List Int)(d:Nat)(f:Int) :T ((Nat×Bool×(List Int)×Nat×Int)⊕(fT)) :=
  .need (aI 0 b a)<|.need (aI 0 d c)<|.need (tK (cX (aa 0 b a) (aa 0 d c)))<|.need (dP .i64 (e+f))<|.need (aI 0 (fR (cX (aa 0 b a) (aa 0 d c))) (fQ (cX (aa 0 b a) (aa 0 d c))))<|.need (mg (bi (!(g == h)) (aa 0 (fR (cX (aa 0 b a) (aa 0 d c))) (fQ (cX (aa 0 b a) (aa 0 d c)))) (e+f)))<|.leaf (.inl ((kX (bi (!(g == h)) (aa 0 (fR (cX (aa 0 b a) (aa 0 d c))) (fQ (cX (aa 0 b a) (aa 0 d c)))) (e+f))),(kY (bi (!(g == h)) (aa 0 (fR (cX (aa 0 b a) (aa 0 d c))) (fQ (cX (aa 0 b a) (aa 0 d c)))) (e+f))),(kZ (bi (!(g == h)) (aa 0 (fR (cX (aa 0 b a) (aa 0 d c))) (fQ (cX (aa 0 b a) (aa 0 d c)))) (e+f))),(k6 (bi (!(g == h)) (aa 0 (fR (cX (aa 0 b a) (aa 0 d c))) (fQ (cX (aa 0 b a) (aa 0 d c)))) (e+f))),(k7 (bi (!(g == h)) (aa 0 (fR (cX (aa 0 b a) (aa 0 d c))) (fQ (cX (aa 0 b a) (aa 0 d c)))) (e+f)))))
def S2(a:Nat)(b:Bool)(c:List Int)(d:Nat)(e:Int) :T ((Empty)⊕(fT)) :=
  .leaf (.inr (.r0 a b c d e))
def iL(e:Bool)(a:List Int)(b:Int)(f:Bool)(c:List Int)(d:Int) :Option fT:=l6 (ax ((Ir a b c d).run) fun (g,u) =>
  ax ((Cz e a b f c d g).run) fun (h,i,j,k,l,m,n,o) =>
  ax ((CA h i j k l m n o).run) fun (p,q,r,s,t) =>
  (S2 p q r s t).run)
theorem agd(f:Bool)(i:Lv)(b:List Int)(d:Int)(g:Bool)(j:Lv)(c:List Int)(e:Int){x:fT}(h:iL f b d g c e=some x) :ak prog nY [] [.agg [.bool false f,.imm i (.ns .u64 b) 1 1 0 (List.length b),.int .i64 d],.agg [.bool false g,.imm j (.ns .u64 c) 1 1 0 (List.length c),.int .i64 e]] (Ld x) :=
  Sg.contract true Ld (by kernel_rfl:prog.funcs[nY]? = some (FN nY)) (by kernel_rfl:(FN nY).body=some (bp nY)) (Sg.cut 2 Iq (Sg.seg (C:=C0) ah sP 60 (Cy.take 2) (aL (FN nY) [] [.agg [.bool false f,.imm i (.ns .u64 b) 1 1 0 (List.length b),.int .i64 d],.agg [.bool false g,.imm j (.ns .u64 c) 1 1 0 (List.length c),.int .i64 e]]) (Ir b d c e) (SY f i b d g j c e) A6 [⟨[],[0,16,32],[2,3,4,13]⟩,⟨[],[0,16,32],[2,3,4,13]⟩] (by kernel_rfl)) (fun a=>by obtain ⟨l,k⟩:=a;exact Sg.cut 2 Iq (Sg.seg (C:=C0) ah sP 60 ((Cy.drop 2).take 2) (SY f i b d g j c e (l,k)) (Cz f b d g c e l) (SZ k) A6 [⟨[(.cell 2 1,.fre 1 1 (.ns .u64 ([]:List Int)))],[2],[4,5]⟩,⟨[],[0,1,2],[2,3,4]⟩] (by kernel_rfl)) (fun a=>by obtain ⟨m,n,o,p,q,r,s,t⟩:=a;exact Sg.cut 1 Iq (Sg.seg (C:=C0) ah sP 60 (((Cy.drop 2).drop 2).take 1) (SZ k (m,n,o,p,q,r,s,t)) (CA m n o p q r s t) S0 A6 [⟨[],[2],[4,5]⟩] (by kernel_rfl)) (fun a=>by obtain ⟨u,v,w,y,z⟩:=a;exact Sg.seg (C:=C0) ah sP 60 (((Cy.drop 2).drop 2).drop 1) (S0 (u,v,w,y,z)) (S2 u v w y z) (fun a:Empty=>a.elim) A6 [⟨[],[0],[4,5]⟩] (by kernel_rfl)))))
    (fun x=>by cases x with | r0 A B D E F=>exact ⟨.inr rfl,[.agg [.bool false B,.imm .free (.ns .u64 D) 1 1 0 E,.int .i64 F],.int .i64 ((A:Nat):Int)],[],by kernel_rfl,trivial,by kernel_rfl⟩) h
def CB:Option fT→Bool
  | some _=>true
  | none=>false
def Le:Option fT→Nat
  | some (.r0 x _ _ _ _)=>x
  | _=>0
def DG:Option fT→Bool
  | some (.r0 _ x _ _ _)=>x
  | _=>false
def DH:Option fT→List Int
  | some (.r0 _ _ x _ _)=>x
  | _=>[]
def DI:Option fT→Nat
  | some (.r0 _ _ _ x _)=>x
  | _=>0
def DJ:Option fT→Int
  | some (.r0 _ _ _ _ x)=>x
  | _=>0
theorem age{x:Option fT}(h:CB x=true) :x=some (.r0 (Le x) (DG x) (DH x) (DI x) (DJ x)):=by
  unfold CB at h
  split at h <;> first | rfl | (cases h;done) | (rename_i y;cases y;rfl)
def WV:aD:=bW nY (.cons (.agg (.cons .bool (.cons (.ns .u64) (.cons (.int .i64) .nil)))) (.cons (.agg (.cons .bool (.cons (.ns .u64) (.cons (.int .i64) .nil)))) .nil)) fun t=>[⟨Ld (.r0 (Le (iL t.1.1 t.1.2.1.2 t.1.2.2.1 t.2.1.1 t.2.1.2.1.2 t.2.1.2.2.1)) (DG (iL t.1.1 t.1.2.1.2 t.1.2.2.1 t.2.1.1 t.2.1.2.1.2 t.2.1.2.2.1)) (DH (iL t.1.1 t.1.2.1.2 t.1.2.2.1 t.2.1.1 t.2.1.2.1.2 t.2.1.2.2.1)) (DI (iL t.1.1 t.1.2.1.2 t.1.2.2.1 t.2.1.1 t.2.1.2.1.2 t.2.1.2.2.1)) (DJ (iL t.1.1 t.1.2.1.2 t.1.2.2.1 t.2.1.1 t.2.1.2.1.2 t.2.1.2.2.1))),[CB (iL t.1.1 t.1.2.1.2 t.1.2.2.1 t.2.1.1 t.2.1.2.1.2 t.2.1.2.2.1)]⟩]
theorem aaP:aM prog WV:=aG fun t=>(aH (fun h=>agd t.1.1 t.1.2.1.1 t.1.2.1.2 t.1.2.2.1 t.2.1.1 t.2.1.2.1.1 t.2.1.2.1.2 t.2.1.2.2.1 (age h)) aR)
def WW:List aD:=WV :: WU
theorem Lf:aX prog (aZ WW):=am aaP sP
inductive oK where
  | r0 (a:Int)
def agf:oK→AE×aC
  | .r0 a=>(.ret,⟨ag 9 [(2,.int .i64 a)],[],0⟩)
def Is:oK→ju
  | .r0 a=>⟨.int .i64 a,[]⟩
def acQ:List Code:=bD (bp lE)
def OB(a:Bool)(b:List Int) :T ((Empty)⊕(oK)) :=
  .ask ((((List.length b):Nat):Int) == (0:Int))
    (.leaf (.inr (.r0 (0:Int))))
    (.ask a
      (.leaf (.inr (.r0 (-1:Int))))
      (.leaf (.inr (.r0 (1:Int)))))
def jh(a:Bool)(b:List Int) :Option oK:=l6 ((OB a b).run)
theorem acR(c:Bool)(d:Lv)(b:List Int)(e:Int){x:oK}(h:jh c b=some x) :ak prog lE [] [.agg [.bool false c,.imm d (.ns .u64 b) 1 1 0 (List.length b),.int .i64 e]] (Is x) :=
  Sg.contract true Is (by kernel_rfl:prog.funcs[lE]? = some (FN lE)) (by kernel_rfl:(FN lE).body=some (bp lE)) (Sg.seg (C:=C0) ah Lf 60 acQ (aL (FN lE) [] [.agg [.bool false c,.imm d (.ns .u64 b) 1 1 0 (List.length b),.int .i64 e]]) (OB c b) (fun a:Empty=>a.elim) agf [⟨[],[],[2]⟩,⟨[],[],[2]⟩,⟨[],[],[2]⟩] (by kernel_rfl))
    (fun x=>by cases x with | r0 f=>exact ⟨.inr rfl,[.int .i64 f],[],by kernel_rfl,trivial,by kernel_rfl⟩) h
def pd:Option oK→Bool
  | some _=>true
  | none=>false
def nA:Option oK→Int
  | some (.r0 x)=>x
  | _=>0
theorem acS{x:Option oK}(h:pd x=true) :x=some (.r0 (nA x)):=by
  unfold pd at h
  split at h <;> first | rfl | (cases h;done) | (rename_i y;cases y;rfl)
def S3:aD:=bW lE (.cons (.agg (.cons .bool (.cons (.ns .u64) (.cons (.int .i64) .nil)))) .nil) fun t=>[⟨Is (.r0 (nA (jh t.1.1 t.1.2.1.2))),[pd (jh t.1.1 t.1.2.1.2)]⟩]
theorem XP:aM prog S3:=aG fun t=>(aH (fun h=>acR t.1.1 t.1.2.1.1 t.1.2.1.2 t.1.2.2.1 (acS h)) aR)
def S4:List aD:=S3 :: WW
theorem gd:aX prog (aZ S4):=am XP Lf
inductive eQ where
  | r0 (a:Int) (b:Nat)
def mi:eQ→AE×aC
  | .r0 a b=>(.ret,⟨ag 49 [(4,.int .i64 a),(5,.int .i64 ((b:Nat):Int))],[],0⟩)
theorem oL:lc mi:=by intro x;cases x <;> (intro h;cases h)
def Lg:eQ→ju
  | .r0 a b=>⟨.tup [.int .i64 a,.int .i64 ((b:Nat):Int)],[]⟩
def lQ:List Code:=bD (bp n4)
def S5(c:Bool)(d:Lv)(a:List Int)(e:Int)(f:Bool)(g:Lv)(b:List Int)(h:Int)(i:Bool) :aC:=⟨ag 49 [(2,.ptr 0 1 0 0),(3,.ptr 1 1 0 0),(16,.bool false i)],[(0,.vs [.bool false c,.imm d (.ns .u64 a) 1 1 0 (List.length a),.int .i64 e]),(1,.vs [.bool false f,.imm g (.ns .u64 b) 1 1 0 (List.length b),.int .i64 h])],2⟩
def OC(a:List Int)(c:Int)(b:List Int)(d:Int) :T ((Bool)⊕(eQ)) :=
  .need (aI 0 (List.length a) a)<|.need (jg (dr (aa 0 (List.length a) a) c))<|.ask (!(g7 (dr (aa 0 (List.length a) a) c)))
    (.leaf (.inl true))
    (.need (aI 0 (List.length b) b)<|.need (jg (dr (aa 0 (List.length b) b) d))<|.leaf (.inl (!(g7 (dr (aa 0 (List.length b) b) d)))))
def S6:Bool×(List Int)×Nat×Int×Bool×(List Int)×Nat×Int→aC:=fun (a,b,c,d,e,f,g,h)=>⟨ag 49 [(2,.ptr 0 1 0 0),(3,.ptr 1 1 0 0)],[(0,.vs [.bool false a,.imm .free (.ns .u64 b) 1 1 0 c,.int .i64 d]),(1,.vs [.bool false e,.imm .free (.ns .u64 f) 1 1 0 g,.int .i64 h])],2⟩
def OD(c:Bool)(a:List Int)(d:Int)(e:Bool)(b:List Int)(f:Int)(g:Bool) :T ((Bool×(List Int)×Nat×Int×Bool×(List Int)×Nat×Int)⊕(eQ)) :=
  .ask g
    (.leaf (.inr (.r0 (0:Int) 2)))
    (.need (aI 0 (List.length a) a)<|.need (f7 (aJ c (aa 0 (List.length a) a) d))<|.need (aI 0 (List.length b) b)<|.need (f7 (aJ e (aa 0 (List.length b) b) f))<|.leaf (.inl ((eX (aJ c (aa 0 (List.length a) a) d)),(eY (aJ c (aa 0 (List.length a) a) d)),(eZ (aJ c (aa 0 (List.length a) a) d)),(e7 (aJ c (aa 0 (List.length a) a) d)),(eX (aJ e (aa 0 (List.length b) b) f)),(eY (aJ e (aa 0 (List.length b) b) f)),(eZ (aJ e (aa 0 (List.length b) b) f)),(e7 (aJ e (aa 0 (List.length b) b) f)))))
def S7(a:Bool)(b:List Int)(c:Nat)(d:Int)(e:Bool)(f:List Int)(g:Nat)(h:Int)(i:Bool) :aC:=⟨ag 49 [(2,.ptr 0 1 0 0),(3,.ptr 1 1 0 0),(23,.bool false i)],[(0,.vs [.bool false a,.imm .free (.ns .u64 b) 1 1 0 c,.int .i64 d]),(1,.vs [.bool false e,.imm .free (.ns .u64 f) 1 1 0 g,.int .i64 h])],2⟩
def OE(a:List Int)(b:Nat)(e:Int)(c:List Int)(d:Nat)(f:Int) :T ((Bool)⊕(eQ)) :=
  .need (aI 0 b a)<|.need (aI 0 d c)<|.need (xN (sL (aa 0 b a) e (aa 0 d c) f))<|.leaf (.inl (xO (sL (aa 0 b a) e (aa 0 d c) f)))
def S8(a:Bool)(b:List Int)(c:Nat)(d:Int)(e:Bool)(f:List Int)(g:Nat)(h:Int)(i:Bool) :aC:=⟨ag 49 [(2,.ptr 0 1 0 0),(3,.ptr 1 1 0 0),(28,.bool false i)],[(0,.vs [.bool false a,.imm .free (.ns .u64 b) 1 1 0 c,.int .i64 d]),(1,.vs [.bool false e,.imm .free (.ns .u64 f) 1 1 0 g,.int .i64 h])],2⟩
def OF(e:Bool)(a:List Int)(b:Nat)(f:Bool)(c:List Int)(d:Nat)(g:Bool) :T ((Bool)⊕(eQ)) :=
  .ask g
    (.leaf (.inr (.r0 (0:Int) 3)))
    (.need (aI 0 b a)<|.need (pd (jh e (aa 0 b a)))<|.need (aI 0 d c)<|.need (pd (jh f (aa 0 d c)))<|.leaf (.inl ((nA (jh e (aa 0 b a))) != (nA (jh f (aa 0 d c))))))
def S9(a:Bool)(b:List Int)(c:Nat)(d:Int)(e:Bool)(f:List Int)(g:Nat)(h:Int)(_:Unit) :aC:=⟨ag 49 [(2,.ptr 0 1 0 0),(3,.ptr 1 1 0 0)],[(0,.vs [.bool false a,.imm .free (.ns .u64 b) 1 1 0 c,.int .i64 d]),(1,.vs [.bool false e,.imm .free (.ns .u64 f) 1 1 0 g,.int .i64 h])],2⟩
def OG(e:Bool)(a:List Int)(b:Nat)(f:Bool)(c:List Int)(d:Nat)(g:Bool) :T ((Unit)⊕(eQ)) :=
  .ask g
    (.need (aI 0 b a)<|.need (pd (jh e (aa 0 b a)))<|.need (aI 0 d c)<|.need (pd (jh f (aa 0 d c)))<|.ask (decide ((nA (jh e (aa 0 b a))) < (nA (jh f (aa 0 d c)))))
      (.leaf (.inr (.r0 (-1:Int) 0)))
      (.leaf (.inr (.r0 (1:Int) 0))))
    (.leaf (.inl ()))
def Ta(a:Bool)(b:List Int)(c:Nat)(d:Int) :(List Int)×Nat×(List Int)×Nat→aC:=fun (e,f,g,h)=>⟨ag 49 [(2,.ptr 0 1 0 0),(6,.imm .free (.ns .u64 e) 1 1 0 f),(7,.imm .free (.ns .u64 g) 1 1 0 h)],[(0,.vs [.bool false a,.imm .free (.ns .u64 b) 1 1 0 c,.int .i64 d])],1⟩
def OH(a:List Int)(b:Nat)(e:Int)(c:List Int)(d:Nat)(f:Int) :T (((List Int)×Nat×(List Int)×Nat)⊕(eQ)) :=
  .need (aI 0 b a)<|.need (aI 0 d c)<|.need (sN (da (aa 0 b a) e (aa 0 d c) f))<|.leaf (.inl ((tS (da (aa 0 b a) e (aa 0 d c) f)),(tT (da (aa 0 b a) e (aa 0 d c) f)),(tU (da (aa 0 b a) e (aa 0 d c) f)),(tV (da (aa 0 b a) e (aa 0 d c) f))))
def Tb(a:List Int)(b:Nat)(c:List Int)(d:Nat)(_:Unit) :aC:=⟨ag 49 [(6,.imm .free (.ns .u64 a) 1 1 0 b),(7,.imm .free (.ns .u64 c) 1 1 0 d)],[],0⟩
def OI(e:Bool)(a:List Int)(b:Nat)(c:List Int)(d:Nat) :T ((Unit)⊕(eQ)) :=
  .ask e
    (.need (aI 0 d c)<|.need (aI 0 b a)<|.need (tP (oG (aa 0 d c) (aa 0 b a)))<|.leaf (.inr (.r0 (sH (oG (aa 0 d c) (aa 0 b a))) 0)))
    (.leaf (.inl ()))
def Tc(a:Int) :aC:=⟨ag 49 [(4,.int .i64 a),(5,.int .i64 (0:Int))],[],0⟩
def OJ(a:List Int)(b:Nat)(c:List Int)(d:Nat) :T ((Int)⊕(eQ)) :=
  .need (aI 0 b a)<|.need (aI 0 d c)<|.need (tP (oG (aa 0 b a) (aa 0 d c)))<|.leaf (.inl (sH (oG (aa 0 b a) (aa 0 d c))))
def OK(a:Int) :T ((Empty)⊕(eQ)) :=
  .leaf (.inr (.r0 a 0))
def EZ(q:Bool)(f:List Int)(g:Int)(r:Bool)(h:List Int)(i:Int) :Option eQ:=l6 (ax ((OC f g h i).run) fun s =>
  ax ((OD q f g r h i s).run) fun (e,a,b,j,k,c,d,l) =>
  ax ((OE a b j c d l).run) fun t =>
  ax ((OF e a b k c d t).run) fun u =>
  ax ((OG e a b k c d u).run) fun _ =>
  ax ((OH a b j c d l).run) fun (m,n,o,p) =>
  ax ((OI e m n o p).run) fun _ =>
  ax ((OJ m n o p).run) fun v =>
  (OK v).run)
theorem agh(o:Bool)(u:Lv)(i:List Int)(m:Int)(p:Bool)(v:Lv)(j:List Int)(n:Int){x:eQ}(h:EZ o i m p j n=some x) :ak prog n4 [] [.agg [.bool false o,.imm u (.ns .u64 i) 1 1 0 (List.length i),.int .i64 m],.agg [.bool false p,.imm v (.ns .u64 j) 1 1 0 (List.length j),.int .i64 n]] (Lg x) :=
  Sg.contract true Lg (by kernel_rfl:prog.funcs[n4]? = some (FN n4)) (by kernel_rfl:(FN n4).body=some (bp n4)) (Sg.cut 2 oL (Sg.seg (C:=C0) ah gd 60 (lQ.take 2) (aL (FN n4) [] [.agg [.bool false o,.imm u (.ns .u64 i) 1 1 0 (List.length i),.int .i64 m],.agg [.bool false p,.imm v (.ns .u64 j) 1 1 0 (List.length j),.int .i64 n]]) (OC i m j n) (S5 o u i m p v j n) mi [⟨[],[0,16],[2,3,16]⟩,⟨[],[0,16],[2,3,16]⟩] (by kernel_rfl)) (fun w=>by exact Sg.cut 2 oL (Sg.seg (C:=C0) ah gd 60 ((lQ.drop 2).take 2) (S5 o u i m p v j n w) (OD o i m p j n w) S6 mi [⟨[],[],[4,5]⟩,⟨[],[0,1],[2,3]⟩] (by kernel_rfl)) (fun a=>by obtain ⟨d,b,c,e,k,f,g,l⟩:=a;exact Sg.cut 1 oL (Sg.seg (C:=C0) ah gd 60 (((lQ.drop 2).drop 2).take 1) (S6 (d,b,c,e,k,f,g,l)) (OE b c e f g l) (S7 d b c e k f g l) mi [⟨[],[0,1],[2,3,23]⟩] (by kernel_rfl)) (fun y=>by exact Sg.cut 2 oL (Sg.seg (C:=C0) ah gd 60 ((((lQ.drop 2).drop 2).drop 1).take 2) (S7 d b c e k f g l y) (OF d b c k f g y) (S8 d b c e k f g l) mi [⟨[],[],[4,5]⟩,⟨[],[0,1],[2,3,28]⟩] (by kernel_rfl)) (fun z=>by exact Sg.cut 1 oL (Sg.seg (C:=C0) ah gd 60 (((((lQ.drop 2).drop 2).drop 1).drop 2).take 1) (S8 d b c e k f g l z) (OG d b c k f g z) (S9 d b c e k f g l) mi [⟨[],[],[4,5]⟩,⟨[],[],[4,5]⟩,⟨[],[0,1],[2,3]⟩] (by kernel_rfl)) (fun a=>by cases a;exact Sg.cut 1 oL (Sg.seg (C:=C0) ah gd 60 ((((((lQ.drop 2).drop 2).drop 1).drop 2).drop 1).take 1) (S9 d b c e k f g l ()) (OH b c e f g l) (Ta d b c e) mi [⟨[],[0],[2,6,7]⟩] (by kernel_rfl)) (fun a=>by obtain ⟨q,r,s,t⟩:=a;exact Sg.cut 2 oL (Sg.seg (C:=C0) ah gd 60 (((((((lQ.drop 2).drop 2).drop 1).drop 2).drop 1).drop 1).take 2) (Ta d b c e (q,r,s,t)) (OI d q r s t) (Tb q r s t) mi [⟨[],[],[4,5]⟩,⟨[],[],[6,7]⟩] (by kernel_rfl)) (fun a=>by cases a;exact Sg.cut 1 oL (Sg.seg (C:=C0) ah gd 60 ((((((((lQ.drop 2).drop 2).drop 1).drop 2).drop 1).drop 1).drop 2).take 1) (Tb q r s t ()) (OJ q r s t) Tc mi [⟨[],[],[4,5]⟩] (by kernel_rfl)) (fun A=>by exact Sg.seg (C:=C0) ah gd 60 ((((((((lQ.drop 2).drop 2).drop 1).drop 2).drop 1).drop 1).drop 2).drop 1) (Tc A) (OK A) (fun a:Empty=>a.elim) mi [⟨[],[],[4,5]⟩] (by kernel_rfl))))))))))
    (fun x=>by cases x with | r0 B D=>exact ⟨.inr rfl,[.int .i64 B,.int .i64 ((D:Nat):Int)],[],by kernel_rfl,trivial,by kernel_rfl⟩) h
def It:Option eQ→Bool
  | some _=>true
  | none=>false
def Lh:Option eQ→Int
  | some (.r0 x _)=>x
  | _=>0
def Li:Option eQ→Nat
  | some (.r0 _ x)=>x
  | _=>0
theorem agi{x:Option eQ}(h:It x=true) :x=some (.r0 (Lh x) (Li x)):=by
  unfold It at h
  split at h <;> first | rfl | (cases h;done) | (rename_i y;cases y;rfl)
def WX:aD:=bW n4 (.cons (.agg (.cons .bool (.cons (.ns .u64) (.cons (.int .i64) .nil)))) (.cons (.agg (.cons .bool (.cons (.ns .u64) (.cons (.int .i64) .nil)))) .nil)) fun t=>[⟨Lg (.r0 (Lh (EZ t.1.1 t.1.2.1.2 t.1.2.2.1 t.2.1.1 t.2.1.2.1.2 t.2.1.2.2.1)) (Li (EZ t.1.1 t.1.2.1.2 t.1.2.2.1 t.2.1.1 t.2.1.2.1.2 t.2.1.2.2.1))),[It (EZ t.1.1 t.1.2.1.2 t.1.2.2.1 t.2.1.1 t.2.1.2.1.2 t.2.1.2.2.1)]⟩]
theorem aaQ:aM prog WX:=aG fun t=>(aH (fun h=>agh t.1.1 t.1.2.1.1 t.1.2.1.2 t.1.2.2.1 t.2.1.1 t.2.1.2.1.1 t.2.1.2.1.2 t.2.1.2.2.1 (agi h)) aR)
def WY:List aD:=WX :: S4
theorem sQ:aX prog (aZ WY):=am aaQ gd
inductive d6 where
  | r0 (a:Nat) (b:Bool) (c:List Int) (d:Nat) (e:Int)
def uX:d6→AE×aC
  | .r0 a b c d e=>(.ret,⟨ag 28 [(4,.ptr 0 1 0 0),(5,.int .i64 ((a:Nat):Int))],[(0,.vs [.bool false b,.imm .free (.ns .u64 c) 1 1 0 d,.int .i64 e])],1⟩)
theorem DK:lc uX:=by intro x;cases x <;> (intro h;cases h)
def F2:d6→ju
  | .r0 a b c d e=>⟨.tup [.agg [.bool false b,.imm .free (.ns .u64 c) 1 1 0 d,.int .i64 e],.int .i64 ((a:Nat):Int)],[]⟩
def xQ:List Code:=bD (bp ke)
def Lj(b:Bool)(c:Lv)(a:List Int)(d:Int)(e:Int) :Bool×Bool→aC:=fun (f,g)=>⟨ag 28 [(1,.int .i64 e),(2,.ptr 0 1 0 0),(4,.ptr 1 1 0 0),(8,.bool false f)],[(0,.vs [.bool false b,.imm c (.ns .u64 a) 1 1 0 (List.length a),.int .i64 d]),(1,.vs [.bool false g,.nsl,.int .i64 (0:Int)])],2⟩
def xR(a:List Int)(b:Int) :T ((Bool×Bool)⊕(d6)) :=
  .need (aI 0 (List.length a) a)<|.need (jg (dr (aa 0 (List.length a) a) b))<|.leaf (.inl ((!(g7 (dr (aa 0 (List.length a) a) b))),false))
def Lk(a:Int)(b:Bool) :Bool×(List Int)×Nat×Int→aC:=fun (c,d,e,f)=>⟨ag 28 [(1,.int .i64 a),(2,.ptr 0 1 0 0),(4,.ptr 1 1 0 0)],[(0,.vs [.bool false c,.imm .free (.ns .u64 d) 1 1 0 e,.int .i64 f]),(1,.vs [.bool false b,.nsl,.int .i64 (0:Int)])],2⟩
def xS(b:Bool)(a:List Int)(c:Int)(d:Bool) :T ((Bool×(List Int)×Nat×Int)⊕(d6)) :=
  .ask d
    (.leaf (.inr (.r0 2 false ([]:List Int) 0 (0:Int))))
    (.need (aI 0 (List.length a) a)<|.need (f7 (aJ b (aa 0 (List.length a) a) c))<|.leaf (.inl ((eX (aJ b (aa 0 (List.length a) a) c)),(eY (aJ b (aa 0 (List.length a) a) c)),(eZ (aJ b (aa 0 (List.length a) a) c)),(e7 (aJ b (aa 0 (List.length a) a) c)))))
def Ll:Nat×Bool×(List Int)×Nat×Int→aC:=fun (a,b,c,d,e)=>⟨ag 28 [(4,.ptr 0 1 0 0),(5,.int .i64 ((a:Nat):Int))],[(0,.vs [.bool false b,.imm .free (.ns .u64 c) 1 1 0 d,.int .i64 e])],1⟩
def xT(d:Int)(e:Bool)(b:List Int)(a:Nat)(c:Int) :T ((Nat×Bool×(List Int)×Nat×Int)⊕(d6)) :=
  .ask (((a:Nat):Int) == (0:Int))
    (.leaf (.inr (.r0 0 e b a c)))
    (.need (dP .i64 (c+(na (-1048576:Int) (v9 (1048576:Int) d))))<|.need (aI 0 a b)<|.need (mg (bi e (aa 0 a b) (c+(na (-1048576:Int) (v9 (1048576:Int) d)))))<|.leaf (.inl ((kX (bi e (aa 0 a b) (c+(na (-1048576:Int) (v9 (1048576:Int) d))))),(kY (bi e (aa 0 a b) (c+(na (-1048576:Int) (v9 (1048576:Int) d))))),(kZ (bi e (aa 0 a b) (c+(na (-1048576:Int) (v9 (1048576:Int) d))))),(k6 (bi e (aa 0 a b) (c+(na (-1048576:Int) (v9 (1048576:Int) d))))),(k7 (bi e (aa 0 a b) (c+(na (-1048576:Int) (v9 (1048576:Int) d))))))))
def Lm(a:Nat)(b:Bool)(c:List Int)(d:Nat)(e:Int) :T ((Empty)⊕(d6)) :=
  .leaf (.inr (.r0 a b c d e))
def eL(c:Bool)(a:List Int)(b:Int)(d:Int) :Option d6:=l6 (ax ((xR a b).run) fun (e,o) =>
  ax ((xS c a b e).run) fun (f,g,h,i) =>
  ax ((xT d f g h i).run) fun (j,k,l,m,n) =>
  (Lm j k l m n).run)
theorem aaR(e:Bool)(f:Lv)(b:List Int)(d:Int)(c:Int){x:d6}(h:eL e b d c=some x) :ak prog ke [] [.agg [.bool false e,.imm f (.ns .u64 b) 1 1 0 (List.length b),.int .i64 d],.int .i64 c] (F2 x) :=
  Sg.contract true F2 (by kernel_rfl:prog.funcs[ke]? = some (FN ke)) (by kernel_rfl:(FN ke).body=some (bp ke)) (Sg.cut 2 DK (Sg.seg (C:=C0) ah sQ 60 (xQ.take 2) (aL (FN ke) [] [.agg [.bool false e,.imm f (.ns .u64 b) 1 1 0 (List.length b),.int .i64 d],.int .i64 c]) (xR b d) (Lj e f b d c) uX [⟨[],[0,16],[1,2,4,8]⟩] (by kernel_rfl)) (fun a=>by obtain ⟨i,g⟩:=a;exact Sg.cut 2 DK (Sg.seg (C:=C0) ah sQ 60 ((xQ.drop 2).take 2) (Lj e f b d c (i,g)) (xS e b d i) (Lk c g) uX [⟨[(.cell 1 1,.fre 1 1 (.ns .u64 ([]:List Int)))],[1],[4,5]⟩,⟨[],[0,1],[1,2,4]⟩] (by kernel_rfl)) (fun a=>by obtain ⟨j,k,l,m⟩:=a;exact Sg.cut 4 DK (Sg.seg (C:=C0) ah sQ 60 (((xQ.drop 2).drop 2).take 4) (Lk c g (j,k,l,m)) (xT c j k l m) Ll uX [⟨[],[1],[4,5]⟩,⟨[],[1],[4,5]⟩] (by kernel_rfl)) (fun a=>by obtain ⟨n,o,p,q,r⟩:=a;exact Sg.seg (C:=C0) ah sQ 60 (((xQ.drop 2).drop 2).drop 4) (Ll (n,o,p,q,r)) (Lm n o p q r) (fun a:Empty=>a.elim) uX [⟨[],[0],[4,5]⟩] (by kernel_rfl)))))
    (fun x=>by cases x with | r0 s t u v w=>exact ⟨.inr rfl,[.agg [.bool false t,.imm .free (.ns .u64 u) 1 1 0 v,.int .i64 w],.int .i64 ((s:Nat):Int)],[],by kernel_rfl,trivial,by kernel_rfl⟩) h
def xU:Option d6→Bool
  | some _=>true
  | none=>false
def GQ:Option d6→Nat
  | some (.r0 x _ _ _ _)=>x
  | _=>0
def zg:Option d6→Bool
  | some (.r0 _ x _ _ _)=>x
  | _=>false
def zh:Option d6→List Int
  | some (.r0 _ _ x _ _)=>x
  | _=>[]
def zi:Option d6→Nat
  | some (.r0 _ _ _ x _)=>x
  | _=>0
def zj:Option d6→Int
  | some (.r0 _ _ _ _ x)=>x
  | _=>0
theorem aaS{x:Option d6}(h:xU x=true) :x=some (.r0 (GQ x) (zg x) (zh x) (zi x) (zj x)):=by
  unfold xU at h
  split at h <;> first | rfl | (cases h;done) | (rename_i y;cases y;rfl)
def OL:aD:=bW ke (.cons (.agg (.cons .bool (.cons (.ns .u64) (.cons (.int .i64) .nil)))) (.cons (.int .i64) .nil)) fun t=>[⟨F2 (.r0 (GQ (eL t.1.1 t.1.2.1.2 t.1.2.2.1 t.2.1)) (zg (eL t.1.1 t.1.2.1.2 t.1.2.2.1 t.2.1)) (zh (eL t.1.1 t.1.2.1.2 t.1.2.2.1 t.2.1)) (zi (eL t.1.1 t.1.2.1.2 t.1.2.2.1 t.2.1)) (zj (eL t.1.1 t.1.2.1.2 t.1.2.2.1 t.2.1))),[xU (eL t.1.1 t.1.2.1.2 t.1.2.2.1 t.2.1)]⟩]
theorem UQ:aM prog OL:=aG fun t=>(aH (fun h=>aaR t.1.1 t.1.2.1.1 t.1.2.1.2 t.1.2.2.1 t.2.1 (aaS h)) aR)
def OM:List aD:=OL :: WY
theorem tX:aX prog (aZ OM):=am UQ sQ
end
end Go.Plb.Seat
namespace Go.Plb.Seat
open Go Go.Plb
set_option linter.unusedVariables false
set_option maxRecDepth 100000
noncomputable section
inductive iM where
  | r0 (a:Int) (b:Nat) (c:List Nat)
def wM:iM→AE×aC
  | .r0 a b c=>(.ret,⟨ag 26 [(2,.ptr 0 1 0 0)],[(0,.vs [.int .i64 a,.int .i64 a,.sl 1 1 1 0 b b]),(1,.fl c)],2⟩)
theorem Iu:lc wM:=by intro x;cases x <;> (intro h;cases h)
theorem agj(id:Nat) :qp id wM:=by intro x;cases x <;> (intro h;cases h)
def Ln:iM→ju
  | .r0 a b c=>⟨.agg [.int .i64 a,.int .i64 a,.sl 0 1 1 0 b b],[some (.fl c)]⟩
def xV:List Code:=bD (bp p6)
def Td(a:Int) :Nat×(List Nat)→aC:=fun (b,c)=>⟨ag 26 [(0,.int .i64 a),(2,.ptr 0 1 0 0),(3,.ptr 1 1 0 0),(4,.int .i64 (0:Int))],[(0,.vs [.int .i64 (0:Int),.int .i64 (0:Int),.nsl]),(1,.vs [.int .i64 a,.int .i64 a,.sl 2 1 1 0 b b]),(2,.fl c)],3⟩
def Te(a:Int) :T ((Nat×(List Nat))⊕(iM)) :=
  .need (dP .i64 (a * a))<|.need (decide ((0:Int)≤(a * a)))<|.need (decide ((a * a)≤(a * a)))<|.need (decide ((8:Int) * (a * a)≤140737488355328))<|.need (dP .i64 (a * a))<|.leaf (.inl ((Int.toNat (a * a)),(List.replicate (Int.toNat (a * a)) 0)))
def tY(a:Int)(b:Nat) :Nat×(List Nat)→aC:=fun (c,d)=>⟨ag 26 [(0,.int .i64 a),(2,.ptr 0 1 0 0),(3,.ptr 1 1 0 0),(4,.int .i64 ((c:Nat):Int))],[(0,.vs [.int .i64 (0:Int),.int .i64 (0:Int),.nsl]),(1,.vs [.int .i64 a,.int .i64 a,.sl 2 1 1 0 b b]),(2,.fl d)],3⟩
def CC(a:Int)(b:Nat)(c:(List Nat)) :aC:=⟨ag 26 [(2,.ptr 0 1 0 0),(3,.ptr 1 1 0 0)],[(0,.vs [.int .i64 (0:Int),.int .i64 (0:Int),.nsl]),(1,.vs [.int .i64 a,.int .i64 a,.sl 2 1 1 0 b b]),(2,.fl c)],3⟩
def Tf:List Code:=bD (bE ((((xV.drop 3).take 1)).headD .skip))
def Tg(b:Int)(d:Nat)(a:Nat)(c:List Nat) :T ((Nat×(List Nat))⊕(((List Nat))⊕(iM))) :=
  .ask (decide (((a:Nat):Int) < b))
    (.need (dP .i64 (((a:Nat):Int) * b))<|.need (dP .i64 ((((a:Nat):Int) * b)+((a:Nat):Int)))<|.need (iE ((((a:Nat):Int) * b)+((a:Nat):Int)) d)<|.need (iX (Int.toNat ((((a:Nat):Int) * b)+((a:Nat):Int))) (List.length c))<|.need (dP .i64 (((a+1):Nat):Int))<|.leaf (.inl ((a+1),(List.set c (Int.toNat ((((a:Nat):Int) * b)+((a:Nat):Int))) 4607182418800017408))))
    (.leaf (.inr (.inl c)))
def F3(a:Int)(b:Nat) :Nat×(List Nat)→Option ((Nat×(List Nat))⊕(((List Nat))⊕(iM))):=fun (c,d) =>
  (Tg a b c d).run
theorem acT(a:Int)(b:Nat)(c:Nat)(d:List Nat) :Sg prog [] Tf (tY a b (c,d)) (F3 a b (c,d)) (tY a b) (aO 0 (CC a b) wM):=by
  unfold F3;exact Sg.seg (C:=C0) ah tX 60 Tf (tY a b (c,d)) (Tg a b c d) (tY a b) (aO 0 (CC a b) wM) [⟨[],[0,1,2],[0,2,3,4]⟩,⟨[],[0,1,2],[2,3]⟩] (by kernel_rfl)
def agk(a:Int)(b:Nat) :(List Nat)→aC:=CC a b
def ON(a:Int)(b:Nat)(c:List Nat) :T ((Empty)⊕(iM)) :=
  .leaf (.inr (.r0 a b c))
def mj(a:Int) :Option iM:=l6 (ax ((Te a).run) fun (b,c) =>
  ax (dH (F3 a b) (0,c)) fun d =>
  (ON a b d).run)
theorem agl(b:Int){x:iM}(h:mj b=some x) :ak prog p6 [] [.int .i64 b] (Ln x) :=
  Sg.contract false Ln (by kernel_rfl:prog.funcs[p6]? = some (FN p6)) (by kernel_rfl:(FN p6).body=some (bp p6)) (Sg.cut 3 Iu (Sg.seg (C:=C0) ah tX 60 (xV.take 3) (aL (FN p6) [] [.int .i64 b]) (Te b) (Td b) wM [⟨[],[0,128,96],[0,2,3,4]⟩] (by kernel_rfl)) (fun a=>by obtain ⟨c,d⟩:=a;exact Sg.cut 1 Iu (Sg.pre ⟨[],[0,1,2],[0,2,3,4]⟩ rfl (by kernel_rfl:NS.on ⟨[],[0,1,2],[0,2,3,4]⟩ (Td b (c,d))=(tY b c) (0,d)) (bT (I:=(tY b c)) (J:=(CC b c)) (id:=0) (by kernel_rfl:((xV.drop 3).take 1) = [.block 0 (.loop (bE ((((xV.drop 3).take 1)).headD .skip)))]) Iu (agj _) (fun s=>by obtain ⟨i,j⟩:=s;exact acT b c i j) (0,d))) (fun e=>by exact Sg.seg (C:=C0) ah tX 60 ((xV.drop 3).drop 1) (agk b c e) (ON b c e) (fun a:Empty=>a.elim) wM [⟨[],[0,2],[2]⟩] (by kernel_rfl))))
    (fun x=>by cases x with | r0 f g k=>exact ⟨.inr rfl,[.agg [.int .i64 f,.int .i64 f,.sl 1 1 1 0 g g]],[],by kernel_rfl,trivial,by kernel_rfl⟩) h
def CD:Option iM→Bool
  | some _=>true
  | none=>false
def DL:Option iM→Int
  | some (.r0 x _ _)=>x
  | _=>0
def DM:Option iM→Nat
  | some (.r0 _ x _)=>x
  | _=>0
def DN:Option iM→List Nat
  | some (.r0 _ _ x)=>x
  | _=>[]
theorem agm{x:Option iM}(h:CD x=true) :x=some (.r0 (DL x) (DM x) (DN x)):=by
  unfold CD at h
  split at h <;> first | rfl | (cases h;done) | (rename_i y;cases y;rfl)
def WZ:aD:=bW p6 (.cons (.int .i64) .nil) fun t=>[⟨Ln (.r0 (DL (mj t.1)) (DM (mj t.1)) (DN (mj t.1))),[CD (mj t.1)]⟩]
theorem aaT:aM prog WZ:=aG fun t=>(aH (fun h=>agl t.1 (agm h)) aR)
def W1:List aD:=WZ :: OM
theorem DO:aX prog (aZ W1):=am aaT tX
inductive lR where
  | r0 (a:Bool)
def Iv:lR→AE×aC
  | .r0 a=>(.ret,⟨ag 32 [(2,.bool false a)],[],0⟩)
theorem acU:lc Iv:=by intro x;cases x <;> (intro h;cases h)
def Iw:lR→ju
  | .r0 a=>⟨.bool false a,[]⟩
def OO:List Code:=bD (bp nV)
def OP(a:Bool) :aC:=⟨ag 32 [(2,.bool false a)],[],0⟩
def F4(a:Int)(b:Int)(c:List Nat) :T ((Bool)⊕(lR)) :=
  .ask (decide (a < (0:Int)))
    (.leaf (.inl true))
    (.ask (decide (a > (512:Int)))
      (.leaf (.inl true))
      (.ask (decide (b < (0:Int)))
        (.leaf (.inl true))
        (.ask (decide (b > (512:Int)))
          (.leaf (.inl true))
          (.need (dP .i64 (a * b))<|.leaf (.inl ((((List.length c):Nat):Int) != (a * b)))))))
def OQ(a:Bool) :T ((Empty)⊕(lR)) :=
  .leaf (.inr (.r0 a))
def c8(a:Int)(b:Int)(c:List Nat) :Option lR:=l6 (ax ((F4 a b c).run) fun d =>
  (OQ d).run)
theorem acV(c:Int)(d:Int)(e:Lv)(b:List Nat){x:lR}(h:c8 c d b=some x) :ak prog nV [] [.agg [.int .i64 c,.int .i64 d,.imm e (.fl b) 1 1 0 (List.length b)]] (Iw x) :=
  Sg.contract false Iw (by kernel_rfl:prog.funcs[nV]? = some (FN nV)) (by kernel_rfl:(FN nV).body=some (bp nV)) (Sg.cut 2 acU (Sg.seg (C:=C0) ah DO 60 (OO.take 2) (aL (FN nV) [] [.agg [.int .i64 c,.int .i64 d,.imm e (.fl b) 1 1 0 (List.length b)]]) (F4 c d b) OP Iv [⟨[],[],[2]⟩,⟨[],[],[2]⟩,⟨[],[],[2]⟩,⟨[],[],[2]⟩,⟨[],[],[2]⟩] (by kernel_rfl)) (fun f=>by exact Sg.seg (C:=C0) ah DO 60 (OO.drop 2) (OP f) (OQ f) (fun a:Empty=>a.elim) Iv [⟨[],[],[2]⟩] (by kernel_rfl)))
    (fun x=>by cases x with | r0 g=>exact ⟨.inr rfl,[.bool false g],[],by kernel_rfl,trivial,by kernel_rfl⟩) h
def g8:Option lR→Bool
  | some _=>true
  | none=>false
def gg:Option lR→Bool
  | some (.r0 x)=>x
  | _=>false
theorem acW{x:Option lR}(h:g8 x=true) :x=some (.r0 (gg x)):=by
  unfold g8 at h
  split at h <;> first | rfl | (cases h;done) | (rename_i y;cases y;rfl)
def Th:aD:=bW nV (.cons (.agg (.cons (.int .i64) (.cons (.int .i64) (.cons .fl .nil)))) .nil) fun t=>[⟨Iw (.r0 (gg (c8 t.1.1 t.1.2.1 t.1.2.2.1.2))),[g8 (c8 t.1.1 t.1.2.1 t.1.2.2.1.2)]⟩]
theorem XQ:aM prog Th:=aG fun t=>(aH (fun h=>acV t.1.1 t.1.2.1 t.1.2.2.1.1 t.1.2.2.1.2 (acW h)) aR)
def Ti:List aD:=Th :: W1
theorem vL:aX prog (aZ Ti):=am XQ DO
inductive aY where
  | r0 (a:Int)
def cp:aY→AE×aC
  | .r0 a=>(.ret,⟨ag 19 [(4,.int .i64 a)],[],0⟩)
theorem fD:lc cp:=by intro x;cases x <;> (intro h;cases h)
theorem rX(id:Nat) :qp id cp:=by intro x;cases x <;> (intro h;cases h)
def fU:aY→ju
  | .r0 a=>⟨.int .i64 a,[]⟩
def cS:List Code:=bD (bp ei)
def j4(b:Lv)(a:List Nat)(_:Unit) :aC:=⟨ag 19 [(0,.imm b (.fl a) 1 1 0 (List.length a)),(1,.fn (.func qN) [] []),(7,.int .i64 (((List.length a):Nat):Int)),(8,.int .i64 (0:Int))],[],0⟩
def j5:T ((Unit)⊕(aY)) :=
  .leaf (.inl ())
def ch(b:Lv)(a:List Nat)(c:Nat) :aC:=⟨ag 19 [(0,.imm b (.fl a) 1 1 0 (List.length a)),(1,.fn (.func qN) [] []),(7,.int .i64 (((List.length a):Nat):Int)),(8,.int .i64 ((c:Nat):Int))],[],0⟩
def dO(_:Unit) :aC:=⟨ag 19 [],[],0⟩
def j6:List Code:=bD (bE ((((cS.drop 2).take 1)).headD .skip))
def cj(b:List Nat)(a:Nat) :T ((Nat)⊕((Unit)⊕(aY))) :=
  .ask (decide (((a:Nat):Int) < (((List.length b):Nat):Int)))
    (.need (iE ((a:Nat):Int) (List.length b))<|.need (iX a (List.length b))<|.ask (fne (List.getD b a 0) (List.getD b a 0))
      (.leaf (.inr (.inr (.r0 ((a:Nat):Int)))))
      (.ask ((0:Int) == (0:Int))
        (.ask (fgt (PS (List.getD b a 0)) 9218868437227405311)
          (.leaf (.inr (.inr (.r0 ((a:Nat):Int)))))
          (.need (dP .i64 (((a+1):Nat):Int))<|.leaf (.inl (a+1))))
        (.fail)))
    (.leaf (.inr (.inl ())))
def dG(a:List Nat) :Nat→Option ((Nat)⊕((Unit)⊕(aY))):=fun b =>
  (cj a b).run
theorem rS(b:Lv)(a:List Nat)(c:Nat) :Sg prog [] j6 (ch b a c) (dG a c) (ch b a) (aO 0 dO cp):=by
  unfold dG;exact Sg.seg (C:=C0) ah vL 60 j6 (ch b a c) (cj a c) (ch b a) (aO 0 dO cp) [⟨[],[],[4]⟩,⟨[],[],[4]⟩,⟨[],[],[0,1,7,8]⟩,⟨[],[],[]⟩] (by kernel_rfl)
def rY:Unit→aC:=dO
def jM:T ((Empty)⊕(aY)) :=
  .leaf (.inr (.r0 (-1:Int)))
def ao(a:List Nat) :Option aY:=l6 (ax ((j5).run) fun _ =>
  ax (dH (dG a) 0) fun _ =>
  (jM).run)
theorem rZ(c:Lv)(b:List Nat){x:aY}(h:ao b=some x) :ak prog ei [] [.imm c (.fl b) 1 1 0 (List.length b),.fn (.func qN) [] []] (fU x) :=
  Sg.contract false fU (by kernel_rfl:prog.funcs[ei]? = some (FN ei)) (by kernel_rfl:(FN ei).body=some (bp ei)) (Sg.cut 2 fD (Sg.seg (C:=C0) ah vL 60 (cS.take 2) (aL (FN ei) [] [.imm c (.fl b) 1 1 0 (List.length b),.fn (.func qN) [] []]) (j5) (j4 c b) cp [⟨[],[],[0,1,7,8]⟩] (by kernel_rfl)) (fun a=>by cases a;exact Sg.cut 1 fD (Sg.pre ⟨[],[],[0,1,7,8]⟩ rfl (by kernel_rfl:NS.on ⟨[],[],[0,1,7,8]⟩ (j4 c b ())=(ch c b) 0) (bT (I:=(ch c b)) (J:=(dO)) (id:=0) (by kernel_rfl:((cS.drop 2).take 1) = [.block 0 (.loop (bE ((((cS.drop 2).take 1)).headD .skip)))]) fD (rX _) (fun s=>by exact rS c b s) 0)) (fun a=>by cases a;exact Sg.seg (C:=C0) ah vL 60 ((cS.drop 2).drop 1) (rY ()) (jM) (fun a:Empty=>a.elim) cp [⟨[],[],[4]⟩] (by kernel_rfl))))
    (fun x=>by cases x with | r0 d=>exact ⟨.inr rfl,[.int .i64 d],[],by kernel_rfl,trivial,by kernel_rfl⟩) h
def aP:Option aY→Bool
  | some _=>true
  | none=>false
def aQ:Option aY→Int
  | some (.r0 x)=>x
  | _=>0
theorem r5{x:Option aY}(h:aP x=true) :x=some (.r0 (aQ x)):=by
  unfold aP at h
  split at h <;> first | rfl | (cases h;done) | (rename_i y;cases y;rfl)
def kE:aD:=bW ei (.cons .fl (.cons (.fn qN .nil .nil) .nil)) fun t=>[⟨fU (.r0 (aQ (ao t.1.2))),[aP (ao t.1.2)]⟩]
theorem qY:aM prog kE:=aG fun t=>(aH (fun h=>rZ t.1.1 t.1.2 (r5 h)) aR)
def kF:List aD:=kE :: Ti
theorem e8:aX prog (aZ kF):=am qY vL
inductive qC where
  | r0 (a:Bool)
def Qr:qC→AE×aC
  | .r0 a=>(.ret,⟨ag 17 [(4,.bool false a)],[],0⟩)
theorem aij:lc Qr:=by intro x;cases x <;> (intro h;cases h)
def Qs:qC→ju
  | .r0 a=>⟨.bool false a,[]⟩
def W2:List Code:=bD (bp sd)
def W3(a:Bool) :aC:=⟨ag 17 [(4,.bool false a)],[],0⟩
def W4(a:Nat)(b:Nat) :T ((Bool)⊕(qC)) :=
  .ask (fne a a)
    (.ask (!(fne b b))
      (.leaf (.inl true))
      (.leaf (.inl (flt a b))))
    (.leaf (.inl (flt a b)))
def W5(a:Bool) :T ((Empty)⊕(qC)) :=
  .leaf (.inr (.r0 a))
def zk(a:Nat)(b:Nat) :Option qC:=l6 (ax ((W4 a b).run) fun c =>
  (W5 c).run)
theorem aik(b:Nat)(c:Nat){x:qC}(h:zk b c=some x) :ak prog sd [] [.flt false b,.flt false c] (Qs x) :=
  Sg.contract false Qs (by kernel_rfl:prog.funcs[sd]? = some (FN sd)) (by kernel_rfl:(FN sd).body=some (bp sd)) (Sg.cut 2 aij (Sg.seg (C:=C0) ah e8 60 (W2.take 2) (aL (FN sd) [] [.flt false b,.flt false c]) (W4 b c) W3 Qr [⟨[],[],[4]⟩,⟨[],[],[4]⟩,⟨[],[],[4]⟩] (by kernel_rfl)) (fun d=>by exact Sg.seg (C:=C0) ah e8 60 (W2.drop 2) (W3 d) (W5 d) (fun a:Empty=>a.elim) Qr [⟨[],[],[4]⟩] (by kernel_rfl)))
    (fun x=>by cases x with | r0 e=>exact ⟨.inr rfl,[.bool false e],[],by kernel_rfl,trivial,by kernel_rfl⟩) h
def E1:Option qC→Bool
  | some _=>true
  | none=>false
def F5:Option qC→Bool
  | some (.r0 x)=>x
  | _=>false
theorem ail{x:Option qC}(h:E1 x=true) :x=some (.r0 (F5 x)):=by
  unfold E1 at h
  split at h <;> first | rfl | (cases h;done) | (rename_i y;cases y;rfl)
def aaU:aD:=bW sd (.cons (.flt false) (.cons (.flt false) .nil)) fun t=>[⟨Qs (.r0 (F5 (zk t.1 t.2.1))),[E1 (zk t.1 t.2.1)]⟩]
theorem acX:aM prog aaU:=aG fun t=>(aH (fun h=>aik t.1 t.2.1 (ail h)) aR)
def aaV:List aD:=aaU :: kF
theorem uY:aX prog (aZ aaV):=am acX e8
inductive dz where
  | r0 (a:Bool)
def ji:dz→AE×aC
  | .r0 a=>(.ret,⟨ag 21 [(2,.bool false a)],[],0⟩)
theorem qD:lc ji:=by intro x;cases x <;> (intro h;cases h)
theorem Qt(id:Nat) :qp id ji:=by intro x;cases x <;> (intro h;cases h)
def xW:dz→ju
  | .r0 a=>⟨.bool false a,[]⟩
def mW:List Code:=bD (bp gO)
def DP(b:Lv)(a:List Nat)(c:Int) :aC:=⟨ag 21 [(0,.imm b (.fl a) 1 1 0 (List.length a)),(3,.int .i64 c)],[],0⟩
def DQ(a:List Nat) :T ((Int)⊕(dz)) :=
  .need (dP .i64 ((((List.length a):Nat):Int) - (1:Int)))<|.leaf (.inl ((((List.length a):Nat):Int) - (1:Int)))
def jZ(b:Lv)(a:List Nat)(c:Int) :aC:=⟨ag 21 [(0,.imm b (.fl a) 1 1 0 (List.length a)),(3,.int .i64 c)],[],0⟩
def m4(_:Unit) :aC:=⟨ag 21 [],[],0⟩
def ut:List Code:=bD (bE ((((mW.drop 2).take 1)).headD .skip))
def DR(b:Lv)(a:List Nat)(c:Int)(_:Unit) :aC:=⟨ag 21 [(0,.imm b (.fl a) 1 1 0 (List.length a)),(3,.int .i64 c)],[],0⟩
def lf(b:List Nat)(a:Int) :T ((Unit)⊕((Unit)⊕(dz))) :=
  .ask (decide (a > (0:Int)))
    (.need (iE a (List.length b))<|.need (iX (Int.toNat a) (List.length b))<|.need (dP .i64 (a - (1:Int)))<|.need (iE (a - (1:Int)) (List.length b))<|.need (iX (Int.toNat (a - (1:Int))) (List.length b))<|.need (E1 (zk (List.getD b (Int.toNat a) 0) (List.getD b (Int.toNat (a - (1:Int))) 0)))<|.ask (F5 (zk (List.getD b (Int.toNat a) 0) (List.getD b (Int.toNat (a - (1:Int))) 0)))
      (.leaf (.inr (.inr (.r0 false))))
      (.leaf (.inl ())))
    (.leaf (.inr (.inl ())))
def BO(a:Int) :T ((Int)⊕((Unit)⊕(dz))) :=
  .need (dP .i64 (a - (1:Int)))<|.leaf (.inl (a - (1:Int)))
def px(b:List Nat) :Int→Option ((Int)⊕((Unit)⊕(dz))):=fun a =>
  ax ((lf b a).run) fun _ =>
  (BO a).run
theorem MF(d:Lv)(b:List Nat)(c:Int) :Sg prog [] ut (jZ d b c) (px b c) (jZ d b) (aO 0 m4 ji):=by
  unfold px;exact Sg.cut 3 (aW qD) (Sg.seg (C:=C0) ah uY 60 (ut.take 3) (jZ d b c) (lf b c) (DR d b c) (aO 0 m4 ji) [⟨[],[],[2]⟩,⟨[],[],[0,3]⟩,⟨[],[],[]⟩] (by kernel_rfl)) (fun a=>by cases a;exact Sg.seg (C:=C0) ah uY 60 (ut.drop 3) (DR d b c ()) (BO c) (jZ d b) (aO 0 m4 ji) [⟨[],[],[0,3]⟩] (by kernel_rfl))
def Qu:Unit→aC:=m4
def BP:T ((Empty)⊕(dz)) :=
  .leaf (.inr (.r0 true))
def kR(a:List Nat) :Option dz:=l6 (ax ((DQ a).run) fun b =>
  ax (dH (px a) b) fun _ =>
  (BP).run)
theorem Qv(c:Lv)(b:List Nat){x:dz}(h:kR b=some x) :ak prog gO [] [.imm c (.fl b) 1 1 0 (List.length b)] (xW x) :=
  Sg.contract false xW (by kernel_rfl:prog.funcs[gO]? = some (FN gO)) (by kernel_rfl:(FN gO).body=some (bp gO)) (Sg.cut 2 qD (Sg.seg (C:=C0) ah uY 60 (mW.take 2) (aL (FN gO) [] [.imm c (.fl b) 1 1 0 (List.length b)]) (DQ b) (DP c b) ji [⟨[],[],[0,3]⟩] (by kernel_rfl)) (fun d=>by exact Sg.cut 1 qD (Sg.pre ⟨[],[],[0,3]⟩ rfl (by kernel_rfl:NS.on ⟨[],[],[0,3]⟩ (DP c b d)=(jZ c b) d) (bT (I:=(jZ c b)) (J:=(m4)) (id:=0) (by kernel_rfl:((mW.drop 2).take 1) = [.block 0 (.loop (bE ((((mW.drop 2).take 1)).headD .skip)))]) qD (Qt _) (fun s=>by exact MF c b s) d)) (fun a=>by cases a;exact Sg.seg (C:=C0) ah uY 60 ((mW.drop 2).drop 1) (Qu ()) (BP) (fun a:Empty=>a.elim) ji [⟨[],[],[2]⟩] (by kernel_rfl))))
    (fun x=>by cases x with | r0 e=>exact ⟨.inr rfl,[.bool false e],[],by kernel_rfl,trivial,by kernel_rfl⟩) h
def qE:Option dz→Bool
  | some _=>true
  | none=>false
def sR:Option dz→Bool
  | some (.r0 x)=>x
  | _=>false
theorem Qw{x:Option dz}(h:qE x=true) :x=some (.r0 (sR x)):=by
  unfold qE at h
  split at h <;> first | rfl | (cases h;done) | (rename_i y;cases y;rfl)
def E3:aD:=bW gO (.cons .fl .nil) fun t=>[⟨xW (.r0 (sR (kR t.1.2))),[qE (kR t.1.2)]⟩]
theorem Lo:aM prog E3:=aG fun t=>(aH (fun h=>Qv t.1.1 t.1.2 (Qw h)) aR)
def E4:List aD:=E3 :: aaV
theorem iN:aX prog (aZ E4):=am Lo uY
inductive dV where
  | r0 (a:Nat) (b:Bool) (c:List Int) (d:Nat) (e:Nat) (f:Int)
def tZ:dV→AE×aC
  | .r0 a b c d e f=>(.ret,⟨ag 45 [(4,.ptr 0 1 0 0),(5,.int .i64 ((a:Nat):Int))],[(0,.vs [.bool false b,.imm .free (.ns .u64 c) 1 1 d e,.int .i64 f])],1⟩)
theorem Aq:lc tZ:=by intro x;cases x <;> (intro h;cases h)
def Ix:dV→ju
  | .r0 a b c d e f=>⟨.tup [.agg [.bool false b,.imm .free (.ns .u64 c) 1 1 d e,.int .i64 f],.int .i64 ((a:Nat):Int)],[]⟩
def uZ:List Code:=bD (bp lk)
def OR(a:Int)(b:Int) :Bool×Bool→aC:=fun (c,d)=>⟨ag 45 [(0,.int .i64 a),(1,.int .i64 b),(4,.ptr 0 1 0 0),(22,.bool false c)],[(0,.vs [.bool false d,.nsl,.int .i64 (0:Int)])],1⟩
def u4(a:Int)(b:Int) :T ((Bool×Bool)⊕(dV)) :=
  .ask (decide (a < (0:Int)))
    (.leaf (.inl (true,false)))
    (.ask (decide (a > (512:Int)))
      (.leaf (.inl (true,false)))
      (.ask (decide (b < (0:Int)))
        (.leaf (.inl (true,false)))
        (.leaf (.inl ((decide (b > (512:Int))),false)))))
def OS(a:Bool) :Bool×(List Int)×Nat×Nat×Int→aC:=fun (b,c,d,e,f)=>⟨ag 45 [(4,.ptr 0 1 0 0),(6,.ptr 1 1 0 0)],[(0,.vs [.bool false a,.nsl,.int .i64 (0:Int)]),(1,.vs [.bool false b,.imm .free (.ns .u64 c) 1 1 d e,.int .i64 f])],2⟩
def Ar(a:Int)(b:Int)(c:Bool) :T ((Bool×(List Int)×Nat×Nat×Int)⊕(dV)) :=
  .ask c
    (.leaf (.inr (.r0 2 false ([]:List Int) 0 0 (0:Int))))
    (.need (dP .i64 ((64:Int) * (na a (1:Int))))<|.need (dP .i64 (((64:Int) * (na a (1:Int))) * (na b (1:Int))))<|.need (o8 (ba (((64:Int) * (na a (1:Int))) * (na b (1:Int)))))<|.leaf (.inl ((jy (ba (((64:Int) * (na a (1:Int))) * (na b (1:Int))))),(il (ba (((64:Int) * (na a (1:Int))) * (na b (1:Int))))),(im (ba (((64:Int) * (na a (1:Int))) * (na b (1:Int))))),(io (ba (((64:Int) * (na a (1:Int))) * (na b (1:Int))))),(jz (ba (((64:Int) * (na a (1:Int))) * (na b (1:Int))))))))
def OT(a:Bool) :Nat×Bool×(List Int)×Nat×Nat×Int→aC:=fun (b,c,d,e,f,g)=>⟨ag 45 [(4,.ptr 0 1 0 0),(7,.ptr 1 1 0 0),(8,.int .i64 ((b:Nat):Int))],[(0,.vs [.bool false a,.nsl,.int .i64 (0:Int)]),(1,.vs [.bool false c,.imm .free (.ns .u64 d) 1 1 e f,.int .i64 g])],2⟩
def As(d:Bool)(a:List Int)(b:Nat)(c:Nat)(e:Int) :T ((Nat×Bool×(List Int)×Nat×Nat×Int)⊕(dV)) :=
  .need (aI b c a)<|.need (aI b c a)<|.need (qa (an d (aa b c a) e d (aa b c a) e))<|.leaf (.inl ((l9 (an d (aa b c a) e d (aa b c a) e)),(cF (an d (aa b c a) e d (aa b c a) e)),(ct (an d (aa b c a) e d (aa b c a) e)),(cu (an d (aa b c a) e d (aa b c a) e)),(cv (an d (aa b c a) e d (aa b c a) e)),(cG (an d (aa b c a) e d (aa b c a) e))))
def OU:Nat×Bool×(List Int)×Nat×Nat×Int→aC:=fun (a,b,c,d,e,f)=>⟨ag 45 [(4,.ptr 0 1 0 0),(5,.int .i64 ((a:Nat):Int))],[(0,.vs [.bool false b,.imm .free (.ns .u64 c) 1 1 d e,.int .i64 f])],1⟩
def Au(f:Nat)(d:Bool)(a:List Int)(b:Nat)(c:Nat)(e:Int) :T ((Nat×Bool×(List Int)×Nat×Nat×Int)⊕(dV)) :=
  .ask (((f:Nat):Int) != (0:Int))
    (.leaf (.inr (.r0 f false ([]:List Int) 0 0 (0:Int))))
    (.need (aI b c a)<|.need (zX (ew d (aa b c a) e (-106:Int)))<|.leaf (.inl ((Bj (ew d (aa b c a) e (-106:Int))),(Bk (ew d (aa b c a) e (-106:Int))),(Bl (ew d (aa b c a) e (-106:Int))),(Bm (ew d (aa b c a) e (-106:Int))),(Bn (ew d (aa b c a) e (-106:Int))),(Bo (ew d (aa b c a) e (-106:Int))))))
def Lp(a:Nat)(b:Bool)(c:List Int)(d:Nat)(e:Nat)(f:Int) :T ((Empty)⊕(dV)) :=
  .leaf (.inr (.r0 a b c d e f))
def bB(a:Int)(b:Int) :Option dV:=l6 (ax ((u4 a b).run) fun (c,u) =>
  ax ((Ar a b c).run) fun (d,e,f,g,h) =>
  ax ((As d e f g h).run) fun (i,j,k,l,m,n) =>
  ax ((Au i j k l m n).run) fun (o,p,q,r,s,t) =>
  (Lp o p q r s t).run)
theorem acY(b:Int)(c:Int){x:dV}(h:bB b c=some x) :ak prog lk [] [.int .i64 b,.int .i64 c] (Ix x) :=
  Sg.contract true Ix (by kernel_rfl:prog.funcs[lk]? = some (FN lk)) (by kernel_rfl:(FN lk).body=some (bp lk)) (Sg.cut 2 Aq (Sg.seg (C:=C0) ah iN 60 (uZ.take 2) (aL (FN lk) [] [.int .i64 b,.int .i64 c]) (u4 b c) (OR b c) tZ [⟨[],[0],[0,1,4,22]⟩,⟨[],[0],[0,1,4,22]⟩,⟨[],[0],[0,1,4,22]⟩,⟨[],[0],[0,1,4,22]⟩] (by kernel_rfl)) (fun a=>by obtain ⟨e,d⟩:=a;exact Sg.cut 2 Aq (Sg.seg (C:=C0) ah iN 60 ((uZ.drop 2).take 2) (OR b c (e,d)) (Ar b c e) (OS d) tZ [⟨[(.cell 0 1,.fre 1 1 (.ns .u64 ([]:List Int)))],[0],[4,5]⟩,⟨[],[0,113],[4,6]⟩] (by kernel_rfl)) (fun a=>by obtain ⟨f,g,i,j,k⟩:=a;exact Sg.cut 1 Aq (Sg.seg (C:=C0) ah iN 60 (((uZ.drop 2).drop 2).take 1) (OS d (f,g,i,j,k)) (As f g i j k) (OT d) tZ [⟨[],[0,98],[4,7,8]⟩] (by kernel_rfl)) (fun a=>by obtain ⟨l,m,n,o,p,q⟩:=a;exact Sg.cut 3 Aq (Sg.seg (C:=C0) ah iN 60 ((((uZ.drop 2).drop 2).drop 1).take 3) (OT d (l,m,n,o,p,q)) (Au l m n o p q) OU tZ [⟨[(.cell 0 1,.fre 1 1 (.ns .u64 ([]:List Int)))],[0],[4,5]⟩,⟨[],[0],[4,5]⟩] (by kernel_rfl)) (fun a=>by obtain ⟨r,s,t,u,v,w⟩:=a;exact Sg.seg (C:=C0) ah iN 60 ((((uZ.drop 2).drop 2).drop 1).drop 3) (OU (r,s,t,u,v,w)) (Lp r s t u v w) (fun a:Empty=>a.elim) tZ [⟨[],[0],[4,5]⟩] (by kernel_rfl))))))
    (fun x=>by cases x with | r0 y z A B D E=>exact ⟨.inr rfl,[.agg [.bool false z,.imm .free (.ns .u64 A) 1 1 B D,.int .i64 E],.int .i64 ((y:Nat):Int)],[],by kernel_rfl,trivial,by kernel_rfl⟩) h
def rN:Option dV→Bool
  | some _=>true
  | none=>false
def qZ:Option dV→Nat
  | some (.r0 x _ _ _ _ _)=>x
  | _=>0
def q7:Option dV→Bool
  | some (.r0 _ x _ _ _ _)=>x
  | _=>false
def q8:Option dV→List Int
  | some (.r0 _ _ x _ _ _)=>x
  | _=>[]
def q9:Option dV→Nat
  | some (.r0 _ _ _ x _ _)=>x
  | _=>0
def ra:Option dV→Nat
  | some (.r0 _ _ _ _ x _)=>x
  | _=>0
def rc:Option dV→Int
  | some (.r0 _ _ _ _ _ x)=>x
  | _=>0
theorem acZ{x:Option dV}(h:rN x=true) :x=some (.r0 (qZ x) (q7 x) (q8 x) (q9 x) (ra x) (rc x)):=by
  unfold rN at h
  split at h <;> first | rfl | (cases h;done) | (rename_i y;cases y;rfl)
def Tj:aD:=bW lk (.cons (.int .i64) (.cons (.int .i64) .nil)) fun t=>[⟨Ix (.r0 (qZ (bB t.1 t.2.1)) (q7 (bB t.1 t.2.1)) (q8 (bB t.1 t.2.1)) (q9 (bB t.1 t.2.1)) (ra (bB t.1 t.2.1)) (rc (bB t.1 t.2.1))),[rN (bB t.1 t.2.1)]⟩]
theorem XR:aM prog Tj:=aG fun t=>(aH (fun h=>acY t.1 t.2.1 (acZ h)) aR)
def Tk:List aD:=Tj :: E4
theorem re:aX prog (aZ Tk):=am XR iN
inductive eT where
  | r0 (a:Nat) (b:List Bool) (c:List (List Int)) (d:List Int)
def qF:eT→AE×aC
  | .r0 a b c d=>(.ret,⟨ag 26 [(2,.sl 0 3 3 0 a a)],[(0,.cols a [.cb b,.cns .u64 c,.ci .i64 d])],1⟩)
theorem Av:lc qF:=by intro x;cases x <;> (intro h;cases h)
theorem ac0(id:Nat) :qp id qF:=by intro x;cases x <;> (intro h;cases h)
def Iy:eT→ju
  | .r0 a b c d=>⟨.imm .free (.cols a [.cb b,.cns .u64 c,.ci .i64 d]) 3 3 0 a,[]⟩
def u5:List Code:=bD (bp lp)
def OV(b:Lv)(a:List Nat) :(List Bool)×(List (List Int))×(List Int)→aC:=fun (c,d,e)=>⟨ag 26 [(3,.sl 0 3 3 0 (List.length a) (List.length a)),(9,.imm b (.fl a) 1 1 0 (List.length a)),(10,.int .i64 (((List.length a):Nat):Int)),(11,.int .i64 (0:Int))],[(0,.cols (List.length a) [.cb c,.cns .u64 d,.ci .i64 e])],1⟩
def F6(a:List Nat) :T (((List Bool)×(List (List Int))×(List Int))⊕(eT)) :=
  .need (decide ((0:Int)≤(((List.length a):Nat):Int)))<|.need (decide ((((List.length a):Nat):Int)≤(((List.length a):Nat):Int)))<|.need (decide ((40:Int) * (((List.length a):Nat):Int)≤140737488355328))<|.need (dP .i64 (((List.length a):Nat):Int))<|.leaf (.inl ((List.replicate (List.length a) false),(List.replicate (List.length a) []),(List.replicate (List.length a) (0:Int))))
def rO(b:Lv)(a:List Nat) :Nat×(List Bool)×(List (List Int))×(List Int)→aC:=fun (c,d,e,f)=>⟨ag 26 [(3,.sl 0 3 3 0 (List.length a) (List.length a)),(9,.imm b (.fl a) 1 1 0 (List.length a)),(10,.int .i64 (((List.length a):Nat):Int)),(11,.int .i64 ((c:Nat):Int))],[(0,.cols (List.length a) [.cb d,.cns .u64 e,.ci .i64 f])],1⟩
def u6(a:List Nat) :(List Bool)×(List (List Int))×(List Int)→aC:=fun (b,c,d)=>⟨ag 26 [(3,.sl 0 3 3 0 (List.length a) (List.length a))],[(0,.cols (List.length a) [.cb b,.cns .u64 c,.ci .i64 d])],1⟩
def DS:List Code:=bD (bE ((((u5.drop 3).take 1)).headD .skip))
def OW(b:Lv)(a:List Nat)(c:Nat) :(List Bool)×(List (List Int))×(List Int)→aC:=fun (d,e,f)=>⟨ag 26 [(3,.sl 0 3 3 0 (List.length a) (List.length a)),(9,.imm b (.fl a) 1 1 0 (List.length a)),(10,.int .i64 (((List.length a):Nat):Int)),(11,.int .i64 ((c:Nat):Int))],[(0,.cols (List.length a) [.cb d,.cns .u64 e,.ci .i64 f])],1⟩
def sS(b:List Nat)(a:Nat)(c:List Bool)(d:List (List Int))(e:List Int) :T (((List Bool)×(List (List Int))×(List Int))⊕(((List Bool)×(List (List Int))×(List Int))⊕(eT))) :=
  .ask (decide (((a:Nat):Int) < (((List.length b):Nat):Int)))
    (.need (iE ((a:Nat):Int) (List.length b))<|.need (iX a (List.length b))<|.need (Du (gV (List.getD b a 0)))<|.need (iE ((a:Nat):Int) (List.length b))<|.need (iX a (List.length c))<|.need (iX a (List.length d))<|.need (decide ((xB (gV (List.getD b a 0)))+(xC (gV (List.getD b a 0)))≤List.length (xA (gV (List.getD b a 0)))))<|.need (iX a (List.length e))<|.leaf (.inl ((List.set c a (Co (gV (List.getD b a 0)))),(List.set d a (List.take (xC (gV (List.getD b a 0))) (List.drop (xB (gV (List.getD b a 0))) (xA (gV (List.getD b a 0)))))),(List.set e a (Cp (gV (List.getD b a 0)))))))
    (.leaf (.inr (.inl (c,d,e))))
def Lq(a:Nat)(b:List Bool)(c:List (List Int))(d:List Int) :T ((Nat×(List Bool)×(List (List Int))×(List Int))⊕(((List Bool)×(List (List Int))×(List Int))⊕(eT))) :=
  .need (dP .i64 (((a+1):Nat):Int))<|.leaf (.inl ((a+1),b,c,d))
def DT(b:List Nat) :Nat×(List Bool)×(List (List Int))×(List Int)→Option ((Nat×(List Bool)×(List (List Int))×(List Int))⊕(((List Bool)×(List (List Int))×(List Int))⊕(eT))):=fun (a,c,d,e) =>
  ax ((sS b a c d e).run) fun (f,g,h) =>
  (Lq a f g h).run
theorem aaW(d:Lv)(b:List Nat)(c:Nat)(e:List Bool)(f:List (List Int))(g:List Int) :Sg prog [] DS (rO d b (c,e,f,g)) (DT b (c,e,f,g)) (rO d b) (aO 0 (u6 b) qF):=by
  unfold DT;exact Sg.cut 3 (aW Av) (Sg.seg (C:=C0) ah re 60 (DS.take 3) (rO d b (c,e,f,g)) (sS b c e f g) (OW d b c) (aO 0 (u6 b) qF) [⟨[],[0],[3,9,10,11]⟩,⟨[],[0],[3]⟩] (by kernel_rfl)) (fun a=>by obtain ⟨h,i,j⟩:=a;exact Sg.seg (C:=C0) ah re 60 (DS.drop 3) (OW d b c (h,i,j)) (Lq c h i j) (rO d b) (aO 0 (u6 b) qF) [⟨[],[0],[3,9,10,11]⟩] (by kernel_rfl))
def ac1(a:List Nat) :(List Bool)×(List (List Int))×(List Int)→aC:=u6 a
def Lr(a:List Nat)(b:List Bool)(c:List (List Int))(d:List Int) :T ((Empty)⊕(eT)) :=
  .leaf (.inr (.r0 (List.length a) b c d))
def ap(a:List Nat) :Option eT:=l6 (ax ((F6 a).run) fun (b,c,d) =>
  ax (dH (DT a) (0,b,c,d)) fun (e,f,g) =>
  (Lr a e f g).run)
theorem ac2(c:Lv)(b:List Nat){x:eT}(h:ap b=some x) :ak prog lp [] [.imm c (.fl b) 1 1 0 (List.length b)] (Iy x) :=
  Sg.contract true Iy (by kernel_rfl:prog.funcs[lp]? = some (FN lp)) (by kernel_rfl:(FN lp).body=some (bp lp)) (Sg.cut 3 Av (Sg.seg (C:=C0) ah re 60 (u5.take 3) (aL (FN lp) [] [.imm c (.fl b) 1 1 0 (List.length b)]) (F6 b) (OV c b) qF [⟨[],[48],[3,9,10,11]⟩] (by kernel_rfl)) (fun a=>by obtain ⟨d,e,f⟩:=a;exact Sg.cut 1 Av (Sg.pre ⟨[],[0],[3,9,10,11]⟩ rfl (by kernel_rfl:NS.on ⟨[],[0],[3,9,10,11]⟩ (OV c b (d,e,f))=(rO c b) (0,d,e,f)) (bT (I:=(rO c b)) (J:=(u6 b)) (id:=0) (by kernel_rfl:((u5.drop 3).take 1) = [.block 0 (.loop (bE ((((u5.drop 3).take 1)).headD .skip)))]) Av (ac0 _) (fun s=>by obtain ⟨l,m,n,o⟩:=s;exact aaW c b l m n o) (0,d,e,f))) (fun a=>by obtain ⟨g,i,j⟩:=a;exact Sg.seg (C:=C0) ah re 60 ((u5.drop 3).drop 1) (ac1 b (g,i,j)) (Lr b g i j) (fun a:Empty=>a.elim) qF [⟨[],[0],[2]⟩] (by kernel_rfl))))
    (fun x=>by cases x with | r0 k p q r=>exact ⟨.inr rfl,[.sl 0 3 3 0 k k],[],by kernel_rfl,trivial,by kernel_rfl⟩) h
def i0:Option eT→Bool
  | some _=>true
  | none=>false
def aN:Option eT→Nat
  | some (.r0 x _ _ _)=>x
  | _=>0
def dc:Option eT→List Bool
  | some (.r0 _ x _ _)=>x
  | _=>[]
def dd:Option eT→List (List Int)
  | some (.r0 _ _ x _)=>x
  | _=>[]
def de:Option eT→List Int
  | some (.r0 _ _ _ x)=>x
  | _=>[]
theorem ac3{x:Option eT}(h:i0 x=true) :x=some (.r0 (aN x) (dc x) (dd x) (de x)):=by
  unfold i0 at h
  split at h <;> first | rfl | (cases h;done) | (rename_i y;cases y;rfl)
def Tl:aD:=bW lp (.cons .fl .nil) fun t=>[⟨Iy (.r0 (aN (ap t.1.2)) (dc (ap t.1.2)) (dd (ap t.1.2)) (de (ap t.1.2))),[i0 (ap t.1.2)]⟩]
theorem XS:aM prog Tl:=aG fun t=>(aH (fun h=>ac2 t.1.1 t.1.2 (ac3 h)) aR)
def Tm:List aD:=Tl :: Tk
theorem nB:aX prog (aZ Tm):=am XS re
end
end Go.Plb.Seat
namespace Go.Plb.Seat
open Go Go.Plb
set_option linter.unusedSimpArgs false
set_option linter.unusedVariables false
theorem Yl{α:Type}{n:Nat}{l:List α}(h:l.length=n) :aI 0 n l=true:=by rw [← h];exact ahC l
theorem ai{α:Type}{b:Bool}{t:T α}{x:Option α}(k:t.run=x)(h:b=true:=by simp only [c7,BN,C8,pw,qq,gW,qr,qs,decide_eq_true_eq,decide_eq_false_iff_not,beq_iff_eq,beq_eq_false_iff_ne,bne_iff_ne,bne_eq_false_iff_eq,Bool.not_eq_true',Bool.not_eq_false',List.length_set,ne_eq,ge_iff_le,gt_iff_lt,ld,cy,yH];omega) :(T.need b t).run=x:=cZ h k
theorem dm{α:Type}{b:Bool}{t f:T α}{x:Option α}(k:t.run=x)(h:b=true:=by simp only [c7,BN,C8,pw,qq,gW,qr,qs,decide_eq_true_eq,decide_eq_false_iff_not,beq_iff_eq,beq_eq_false_iff_ne,bne_iff_ne,bne_eq_false_iff_eq,Bool.not_eq_true',Bool.not_eq_false',List.length_set,ne_eq,ge_iff_le,gt_iff_lt,ld,cy,yH];omega) :(T.ask b t f).run=x:=rW h k
theorem dJ{α:Type}{b:Bool}{t f:T α}{x:Option α}(k:f.run=x)(h:b=false:=by simp only [c7,BN,C8,pw,qq,gW,qr,qs,decide_eq_true_eq,decide_eq_false_iff_not,beq_iff_eq,beq_eq_false_iff_ne,bne_iff_ne,bne_eq_false_iff_eq,Bool.not_eq_true',Bool.not_eq_false',List.length_set,ne_eq,ge_iff_le,gt_iff_lt,ld,cy,yH];omega) :(T.ask b t f).run=x:=d9 h k
theorem jN{α:Type}{b:Bool}{t:T α}{x:Option α}(k:t.run=x)(h:b=true:=by exact Yl ay) :(T.need b t).run=x:=cZ h k
theorem bf{v n m:Nat}(h:m≤n) :aI 0 m (aA v n)=true:=by rw [gW,ay];omega
theorem kS{v n:Nat}(h:v < W ^ n)(hn:n≤1000000000) :aw (aA v n)=some (.r0 (aA v n) (nl v)):=by
  have hl:=jL h
  refine bc (ae rfl (ae (a:=nl v) (cx (fun j=>n - j) (n - nl v) (by simp only [ay];rfl) (fun j hj=>?_) ?_) rfl))
  · show ax (tq _ _).run _=_
    have e:Int.toNat (((n - j:Nat):Int) - 1)=n - (j+1):=by omega
    have z:(aA v n).getD (n - (j+1)) 0=0:=by
      rw [cR h]
      exact Ez (Nat.lt_of_lt_of_le (dp v) (Nat.pow_le_pow_right (by decide) (by omega)))
    refine ae (a:=true) ?_ ?_
    · unfold tq
      rw [e,z,ay]
      exact dm (ai (ai (ai rfl)))
    · unfold Ht
      rw [e]
      exact bH (ai (ai (ai rfl)))
  · have e0:n - (n - nl v)=nl v:=by omega
    show ax (tq _ _).run _=_
    rw [e0]
    by_cases h0:v=0
    · have z:=o5.2 h0
      rw [z]
      exact ae (a:=false) (bj rfl) (bj rfl)
    · have hp:=Bc h0
      have e:Int.toNat (((nl v:Nat):Int) - 1)=nl v - 1:=by omega
      refine ae (a:=false) ?_ (bj rfl)
      unfold tq
      rw [e,cR h,ay]
      refine dm (ai (ai (ai ?_)))
      show some (Sum.inl _)=_
      congr 2
      rw [beq_eq_false_iff_ne];exact ae6 h0
theorem DU{v n:Nat}(h:v < W ^ n)(hn:n≤1000000000) :bv (aA v n) 0 n n=some (.r0 0 (nl v) n (aA v n)):=by
  have hl:=jL h
  refine bc (ae rfl (ae (a:=(0,nl v)) (cx (fun j=>(0,n - j)) (n - nl v) rfl (fun j hj=>?_) ?_) rfl))
  · show ax (nq _ _ _).run _=_
    have e:Int.toNat (((n - j:Nat):Int) - 1)=n - (j+1):=by omega
    have z:(aA v n).getD (n - (j+1)) 0=0:=by
      rw [cR h]
      exact Ez (Nat.lt_of_lt_of_le (dp v) (Nat.pow_le_pow_right (by decide) (by omega)))
    refine ae (a:=true) ?_ ?_
    · unfold nq
      rw [e,pv,Nat.zero_add,z,ay]
      exact dm (ai (ai (ai rfl)))
    · unfold Bh
      rw [e]
      exact bH (ai (ai (ai rfl)))
  · have e0:n - (n - nl v)=nl v:=by omega
    show ax (nq _ _ _).run _=_
    rw [e0]
    by_cases h0:v=0
    · have z:=o5.2 h0
      rw [z]
      exact ae (a:=false) (bj rfl) (bj rfl)
    · have hp:=Bc h0
      have e:Int.toNat (((nl v:Nat):Int) - 1)=nl v - 1:=by omega
      refine ae (a:=false) ?_ (bj rfl)
      unfold nq
      rw [e,pv,Nat.zero_add,cR h,ay]
      refine dm (ai (ai (ai ?_)))
      show some (Sum.inl _)=_
      congr 2
      rw [beq_eq_false_iff_ne];exact ae6 h0
theorem aeh{v n:Nat}(h:v < W ^ n)(hn:n≤1000000000) :mU (aA v n)=some (if 4096 < nl v then .r0 0 2 [] else .r0 (nl v) 0 (aA v (nl v))):=by
  have hl:=jL h
  have hc:aa 0 (aA v n).length (aA v n)=aA v n:=aE _
  by_cases hb:4096 < nl v
  · rw [if_pos hb]
    refine bc (ae (a:=(2,aA v n,nl v)) ?_ (bH rfl))
    unfold EF
    rw [hc,kS h hn]
    simp only [cD,aU,aF]
    exact bH (aj (bt (aj (dm rfl))))
  · rw [if_neg hb]
    refine bc (ae (a:=(0,aA v n,nl v)) ?_ ?_)
    · unfold EF
      rw [hc,kS h hn]
      simp only [cD,aU,aF]
      exact bH (aj (bt (aj (dJ (aj (bj rfl))))))
    · show (EG _ _ _).run=_
      unfold EG
      rw [bO hl,ay]
      exact bj (cZ (bf hl) (ai rfl))
theorem ala{v:Nat}(h:v < W) :bM (v:Int)=some (.r0 0 (nl v) 1 (aA v 1)):=by
  have e:([(v:Int)]:List Int)=aA v 1:=by
    show [(v:Int)] = [] ++ [lm v 0]
    unfold lm;rw [Nat.pow_zero,Nat.div_one,Nat.mod_eq_of_lt h];rfl
  refine bc (ae (a:=(0,nl v,1,aA v 1)) ?_ rfl)
  unfold Uz
  rw [e,DU (by rw [Nat.pow_one];exact h) (by decide)]
  exact aj rfl
theorem aei{v n:Nat}(h:v < W ^ n)(hn:n≤1000000000) :dZ (aA v n) 0 n n=some (if 4096 < nl v then .r0 (aA v n) else .r1 0 (nl v) n (aA v n)):=by
  refine bc (ae (a:=(0,nl v,n,aA v n)) ?_ ?_)
  · unfold JU
    rw [DU h hn]
    exact aj rfl
  · by_cases hb:4096 < nl v
    · rw [if_pos hb];exact dm rfl
    · rw [if_neg hb];exact dJ rfl
end Go.Plb.Seat
namespace Go.Plb.Seat
open Go Go.Plb
set_option linter.unusedSimpArgs false
set_option linter.unusedVariables false
theorem aim{a b:Nat}(ha:nl a≤1000000)(hb:nl b≤1000000) :wE (aA a (nl a)) (aA b (nl b))=some (.r0 (Em a b)):=by
  refine bc ?_
  by_cases h1:nl a < nl b
  · have:Em a b = -1:=by unfold Em;rw [if_pos (ahD h1)]
    rw [this]
    refine bR ?_
    unfold Dc
    rw [ay,ay]
    exact dm rfl
  by_cases h2:nl b < nl a
  · have hlt:=ahD h2
    have:Em a b=1:=by unfold Em;rw [if_neg (by omega),if_pos hlt]
    rw [this]
    refine bR ?_
    unfold Dc
    rw [ay,ay]
    exact dJ (dm rfl)
  have hn:nl b=nl a:=by omega
  have hA:=dp a
  have hB:=dp b
  rw [hn] at hB hb ⊢
  generalize nl a=n at *
  refine ae (a:=((n:Int) - 1)) ?_ ?_
  · unfold Dc
    rw [ay,ay]
    exact dJ (dJ (ai rfl))
  have step:∀ j,j < n→lm a (n - 1 - j)=lm b (n - 1 - j)→EI (aA a n) (aA b n) ((n:Int) - 1 - j)=some (.inl ((n:Int) - 1 - (j+1:Nat))):=by
    intro j hj he
    show (yV _ _ _).run=_
    unfold yV
    have e:Int.toNat ((n:Int) - 1 - (j:Int))=n - 1 - j:=by omega
    rw [e,cR hA,cR hB,ay,ay,he]
    refine dm (ai (ai (ai (ai (d9 (by simp) (ai (ai (ai (ai (d9 (by simp) (ai ?_)))))))))))
    show some (Sum.inl _)=_
    congr 2;omega
  by_cases hall:∀ j,j < n→lm a (n - 1 - j)=lm b (n - 1 - j)
  · have hab:a=b:=by
      have:=Zc hA hB (d:=n) (Nat.le_refl _) fun k _ h2=>by
        have:=hall (n - 1 - k) (by omega)
        rwa [show n - 1 - (n - 1 - k)=k by omega] at this
      simpa using this
    subst hab
    have:Em a a=0:=by unfold Em;rw [if_neg (Nat.lt_irrefl _),if_neg (Nat.lt_irrefl _)]
    rw [this]
    exact ae (cx (fun j=>(n:Int) - 1 - (j:Nat)) n (by omega) (fun j hj=>step j hj (hall j hj)) (dJ rfl)) rfl
  · obtain ⟨k,hk,hb',hf⟩:=Mp hall
    have hup:a / W ^ (n - 1 - k+1)=b / W ^ (n - 1 - k+1):=by
      have:=Zc hA hB (d:=k) (by omega) fun i h1 h2=>by
        have:=hf (n - 1 - i) (by omega)
        rwa [show n - 1 - (n - 1 - i)=i by omega] at this
      rwa [show n - k=n - 1 - k+1 by omega] at this
    refine bR (cx (fun j=>(n:Int) - 1 - (j:Nat)) k (by omega) (fun j hj=>step j (by omega) (hf j hj)) ?_)
    show (yV _ _ _).run=_
    unfold yV
    have e:Int.toNat ((n:Int) - 1 - (k:Int))=n - 1 - k:=by omega
    rw [e,cR hA,cR hB,ay,ay]
    refine dm (ai (ai (ai (ai ?_))))
    by_cases hlt:lm a (n - 1 - k) < lm b (n - 1 - k)
    · have:=Zd hup hlt
      have:Em a b = -1:=by unfold Em;rw [if_pos this]
      rw [this]
      exact rW (decide_eq_true hlt) rfl
    · have hgt:lm b (n - 1 - k) < lm a (n - 1 - k):=by omega
      have hlt':=Zd hup.symm hgt
      have:Em a b=1:=by unfold Em;rw [if_neg (by omega),if_pos hlt']
      rw [this]
      exact d9 (decide_eq_false hlt) (ai (ai (ai (ai (rW (decide_eq_true hgt) rfl)))))
theorem anp{x y nx ny:Nat}(hx:x < W ^ nx)(hy:y < W ^ ny)(hn:ny≤nx)(hb:nx≤1000000){lx ly:List Int}(ex:∀ i,i < nx→lx.getD i 0=lm x i)(ey:∀ i,i < ny→ly.getD i 0=lm y i)(hlx:nx≤lx.length)(hly:ny≤ly.length) :
    dH (AX lx nx ly ny (nx+1)) (0,0,aA 0 (nx+1))=some (.inl (GC x y nx / W ^ nx,aA (GC x y nx % W ^ nx) (nx+1))):=by
  refine cx (fun j=>(j,GC x y j / W ^ j,aA (GC x y j % W ^ j) (nx+1))) nx (by simp [GC,Nat.mod_one]) (fun j hj=>?_) (bR (dJ rfl))
  have hc:=Ze (x:=x) (y:=y) (j:=j)
  have hS:=Nat.mod_lt (GC x y j) (iy j)
  have hst:=alM x y j
  obtain ⟨d1,d2⟩:=PY (t:=x / W ^ j % W+y / W ^ j % W+GC x y j / W ^ j) hS
  rw [← hst] at d1 d2
  have iz:=B4 (n:=nx+1) hS (Nat.mod_lt (x / W ^ j % W+y / W ^ j % W+GC x y j / W ^ j) (show W > 0 by decide)) (by omega)
  rw [← d2] at iz
  show ax (EK _ _ _ _ _ _ _ _).run _=_
  refine ae (a:=(GC x y (j+1) / W ^ (j+1),aA (GC x y (j+1) % W ^ (j+1)) (nx+1))) ?_ (ai rfl)
  unfold EK
  rw [ex j hj,ay]
  by_cases hyj:j < ny
  · rw [ey j hyj]
    refine dm (dm (ai (ai (ai (ai (ai (ai (ai ?_))))))))
    rw [JO,JO,iz,d1];rfl
  · have y0:y / W ^ j % W=0:=by
      rw [Nat.div_eq_of_lt (Nat.lt_of_lt_of_le hy (Nat.pow_le_pow_right (by decide) (by omega)))];rfl
    rw [y0] at iz d1
    refine dm (dJ (ai (ai (ai (ai (ai ?_))))))
    rw [JO,iz,d1];rfl
theorem anq{a b n m:Nat}(ha:a < W ^ n)(hb:b < W ^ m)(hn:n≤1000000)(hm:m≤1000000)(h1:nl a≤4096)(h2:nl b≤4096)(h3:nl (a+b)≤4096) :
    bU (aA a n) (aA b m)=some (.r0 0 (nl (a+b)) (max (nl a) (nl b)+1) 0 (aA (a+b) (max (nl a) (nl b)+1))):=by
  have la:=jL ha
  have lb:=jL hb
  refine bc (ae (a:=(0,aA a n,nl a,aA b m,nl b)) ?_ ?_)
  · unfold JV
    rw [aE,aE,kS ha (by omega),kS hb (by omega)]
    simp only [cD,aU,aF]
    exact bH (aj (bt (aj (dJ (aj (bH (aj (bt (aj (dJ (aj (bj rfl))))))))))))
  have Ek:∀ {x y nx ny:Nat} {lx ly:List Int},x < W ^ nx→y < W ^ ny→ny≤nx→nx≤4096→(∀ i,i < nx→lx.getD i 0=lm x i)→(∀ i,i < ny→ly.getD i 0=lm y i)→nx≤lx.length→ny≤ly.length→nl (x+y)≤4096 →
      (ax ((EJ nx).run) fun (o10,l11)=>ax (dH (AX lx nx ly ny o10) (0,0,l11)) fun (a19,l20)=>ax ((EL nx o10 a19 l20).run) fun (a21,a22,a23,a24,l25)=>(JX a21 a22 a23 a24 l25).run)
        = some (.inr (.r0 0 (nl (x+y)) (nx+1) 0 (aA (x+y) (nx+1)))):=by
    intro x y nx ny lx ly hx hy hle hnx ex ey hlx hly h4
    refine ae (a:=(nx+1,aA 0 (nx+1))) ?_ (ae (anp hx hy hle (by omega) ex ey hlx hly) (ae (a:=(0,nl (x+y),nx+1,0,aA (x+y) (nx+1))) ?_ rfl))
    · unfold EJ
      rw [Mq]
      exact ai (ai (ai (ai (ai rfl))))
    · have hyx:y < W ^ nx:=Nat.lt_of_lt_of_le hy (Nat.pow_le_pow_right (by decide) hle)
      have hs:GC x y nx=x+y:=by unfold GC;rw [Nat.mod_eq_of_lt hx,Nat.mod_eq_of_lt hyx]
      have hc:=Ze (x:=x) (y:=y) (j:=nx)
      have iz:=B4 (u:=(x+y) % W ^ nx) (x:=(x+y) / W ^ nx) (j:=nx) (n:=nx+1) (Nat.mod_lt _ (iy _)) (by rw [hs] at hc;exact Nat.lt_of_le_of_lt hc (by decide)) (by omega)
      have hv:(x+y) % W ^ nx+(x+y) / W ^ nx * W ^ nx=x+y:=by rw [Nat.mul_comm];exact Nat.mod_add_div _ _
      rw [hv] at iz
      have hb2:x+y < W ^ (nx+1):=by
        rw [Nat.pow_succ]
        have h:=iy nx
        generalize W ^ nx=P at *
        have:(2:Nat) * P≤P * W:=by rw [Nat.mul_comm];exact Nat.mul_le_mul_left _ (by decide)
        omega
      unfold EL
      rw [hs,iz,aei hb2 (by omega),if_neg (by omega),ay]
      exact ai (ai (apG (apH rfl) (ao1 (aj rfl))))
  by_cases hlt:nl a < nl b
  · refine ae (a:=(aA b m,nl b,aA a n,nl a)) (bj (dm rfl)) ?_
    have:=Ek (x:=b) (y:=a) (nx:=nl b) (ny:=nl a) (lx:=aA b m) (ly:=aA a n) (dp b) (dp a) (by omega) h2 (fun i hi=>cR hb i) (fun i hi=>cR ha i) (by rw [ay];exact lb) (by rw [ay];exact la) (by rw [Nat.add_comm];exact h3)
    rw [Nat.add_comm b a] at this
    rw [show max (nl a) (nl b)=nl b by omega]
    exact this
  · refine ae (a:=(aA a n,nl a,aA b m,nl b)) (bj (dJ rfl)) ?_
    have:=Ek (x:=a) (y:=b) (nx:=nl a) (ny:=nl b) (lx:=aA a n) (ly:=aA b m) (dp a) (dp b) (by omega) h1 (fun i hi=>cR ha i) (fun i hi=>cR hb i) (by rw [ay];exact la) (by rw [ay];exact lb) h3
    rw [show max (nl a) (nl b)=nl a by omega]
    exact this
def ain(a b n j:Nat) :List Int:=fh (fun i=>if i < j then lm (XA a b j) i else lm a i) n
theorem alW{a b n j:Nat}(hj:j < n) :(ain a b n j).set j (((a / W ^ j % W+W - b / W ^ j % W - Zf a b j) % W:Nat):Int)=ain a b n (j+1):=by
  unfold ain
  rw [tn hj]
  refine cr fun i hi=>?_
  have hD:=(ak3 (a:=a) (b:=b) (j:=j)).1
  have h:=PX hD (Nat.mod_lt (a / W ^ j % W+W - b / W ^ j % W - Zf a b j) (show W > 0 by decide)) i
  rw [← (ahE a b j).2] at h
  by_cases e:i=j
  · subst e
    rw [if_pos rfl,if_pos (by omega),h,if_pos rfl]
  · rw [if_neg e] at h ⊢
    by_cases q:i < j
    · rw [if_pos q,if_pos (by omega),h]
    · rw [if_neg q,if_neg (by omega)]
theorem Gw{a b n m:Nat}(ha:a < W ^ n)(hb:b < W ^ m)(hle:b≤a)(hmn:m≤n)(hn:n≤1000000) :pB (aA a n) (aA b m)=some (.r0 0 (nl (a - b)) n (aA (a - b) n)):=by
  have hbn:b < W ^ n:=Nat.lt_of_lt_of_le hb (Nat.pow_le_pow_right (by decide) hmn)
  refine bc (ae (a:=(n,aA a n)) ?_ (ae (a:=aA (a - b) n) ?_ (ae (a:=(0,nl (a - b),n,aA (a - b) n)) ?_ rfl)))
  · unfold JY
    rw [aE,ay]
    exact cZ (bf (Nat.le_refl _)) (ai rfl)
  · have e0:aA a n=ain a b n 0:=cr fun i _=>by rw [if_neg (by omega)]
    have en:ain a b n n=aA (a - b) n:=by
      refine cr fun i hi=>?_
      have hd:XA a b n=a - b:=by
        unfold XA Zf
        rw [Nat.mod_eq_of_lt ha,Nat.mod_eq_of_lt hbn,if_neg (by omega),Nat.zero_mul,Nat.add_zero]
      rw [if_pos hi,hd]
    have b0:Zf a b 0=0:=by unfold Zf;rw [Nat.pow_zero,Nat.mod_one,Nat.mod_one];rfl
    show dH _ ((0:Int),0,aA a n)=_
    refine cx (fun j=>(((Zf a b j:Nat):Int),j,ain a b n j)) n (by rw [b0,← e0];rfl) (fun j hj=>?_) (bR (d9 (by rw [ay];simp) (by rw [en];rfl)))
    have hbr:Zf a b j≤1:=by unfold Zf;split <;> omega
    have hl:(ain a b n j).length=n:=eB
    obtain ⟨s1,s2⟩:=ahE a b j
    have hst:=alW (a:=a) (b:=b) hj
    show ax (EM _ _ _ _ _ _).run _=_
    refine ae (a:=(((Zf a b (j+1):Nat):Int),ain a b n (j+1))) ?_ (ai rfl)
    unfold EM
    rw [cR ha,ay,ay,hl,cy,JO]
    have blt:∀ p q:Nat,(bif Nat.blt p q then (1:Int) else 0)=(((if p < q then 1 else 0:Nat)):Int):=by
      intro p q
      by_cases h:p < q
      · rw [if_pos h,show Nat.blt p q=true by rw [Nat.blt_eq];exact h];rfl
      · rw [if_neg h]
        cases e:Nat.blt p q with
        | true=>rw [Nat.blt_eq] at e;exact absurd e h
        | false=>rfl
    by_cases hjm:j < m
    · rw [cR hb,JO,blt,← s1,hst]
      exact dm (dm (ai (ai (ai (ai (ai (ai (ai rfl))))))))
    · have y0:b / W ^ j % W=0:=by
        rw [Nat.div_eq_of_lt (Nat.lt_of_lt_of_le hb (Nat.pow_le_pow_right (by decide) (by omega)))];rfl
      rw [y0] at s1 hst
      refine dm (dJ (ai (ai (ai (ai (ai ?_))))))
      rw [blt,← s1,hst];rfl
  · unfold J1
    rw [DU (Nat.lt_of_le_of_lt (Nat.sub_le _ _) ha) (by omega)]
    exact aj rfl
theorem aio{a b n m:Nat}(ha:a < W ^ n)(hb:b < W ^ m)(hn:n≤1000000)(hm:m≤1000000)(h1:nl a≤4096)(h2:nl b≤4096)(hle:b≤a) :
    bK (aA a n) (aA b m)=some (.r0 (aA (a - b) (nl a)) 0 (nl (a - b)) 0):=by
  have la:=jL ha
  have lb:=jL hb
  have hnn:nl b≤nl a:=jL (Nat.lt_of_le_of_lt hle (dp a))
  refine bc (ae (a:=(0,aA a n,nl a,aA b m,nl b)) ?_ (ae (a:=false) ?_ (ae (a:=(aA (a - b) (nl a),0,nl (a - b))) ?_ rfl)))
  · unfold Qe
    rw [aE,aE,kS ha (by omega),kS hb (by omega)]
    simp only [cD,aU,aF]
    exact bH (aj (bt (aj (dJ (aj (bH (aj (bt (aj (dJ (aj (bj rfl))))))))))))
  · unfold Qf
    rw [bO la,bO lb,aim (by omega) (by omega)]
    refine bj (cZ (bf la) (cZ (bf lb) (aj ?_)))
    show some (Sum.inl _)=_
    congr 2
    show decide (Em a b < 0)=false
    unfold Em
    rw [if_neg (by omega)]
    split <;> rfl
  · unfold Qg
    rw [bO la,bO lb,Gw (dp a) (dp b) hle hnn (by omega)]
    exact bj (cZ (bf la) (cZ (bf lb) (aj rfl)))
theorem aip{a b n m:Nat}(ha:a < W ^ n)(hb:b < W ^ m)(hn:n≤1000000)(hm:m≤1000000)(h1:nl a≤4096)(h2:nl b≤4096) :
    tr (aA a n) (aA b m)=some (.r0 (Em a b) 0):=by
  have la:=jL ha
  have lb:=jL hb
  refine bc (ae (a:=(0,aA a n,nl a,aA b m,nl b)) ?_ (ae (a:=Em a b) ?_ rfl))
  · unfold Qa
    rw [aE,aE,kS ha (by omega),kS hb (by omega)]
    simp only [cD,aU,aF]
    exact bH (aj (bt (aj (dJ (aj (bH (aj (bt (aj (dJ (aj (bj rfl))))))))))))
  · unfold Qb
    rw [bO la,bO lb,aim (by omega) (by omega)]
    exact bj (cZ (bf la) (cZ (bf lb) (aj rfl)))
end Go.Plb.Seat
namespace Go.Plb.Seat
open Go Go.Plb
set_option linter.unusedSimpArgs false
set_option linter.unusedVariables false
theorem aki{x y:Nat}(hx:x < W)(hy:y < W) :eK (x:Int) (y:Int)=some (.r0 ((x * y / W:Nat):Int) ((x * y % W:Nat):Int)):=by
  obtain ⟨h1,h2,h3,h4,h5,h6,h7,h8,h9⟩:=aju hx hy
  have s:∀ z:Nat,Int.fdiv (z:Int) (2 ^ (min (Int.toNat (32:Int)) (IntKind.u64.bits)))=((z / 4294967296:Nat):Int):=fun z=>EA z (k:=32) (by decide)
  refine bc (ae (a:=(((x % 4294967296:Nat):Int),((x / 4294967296:Nat):Int),((y / 4294967296:Nat):Int),((x / 4294967296 * (y % 4294967296)+x % 4294967296 * (y % 4294967296) / 4294967296:Nat):Int))) ?_ ?_)
  · unfold wd
    rw [ae8 hx,ae8 hy,s,s,AQ,AQ,Nat.mod_eq_of_lt h2,Nat.mod_eq_of_lt h3,s,uz,Nat.mod_eq_of_lt h1]
    exact aj (aj (aj rfl))
  · show (qt _ _ _ _ _ _).run=_
    unfold qt
    rw [AQ,AQ,AQ,ae8 h1,s,uz,uz,Nat.mod_eq_of_lt h4,Nat.mod_eq_of_lt h5,Nat.mod_eq_of_lt h6,Nat.mod_eq_of_lt h7,s,uz,h8,Nat.mod_eq_of_lt h9]
    exact aj (aj rfl)
theorem anr{O a m k n N:Nat}(hO:O < W ^ (k+n))(ha:a < W ^ n)(hm:m < W)(hN:k+n≤N)(hb:N≤1000000) :
    tu (aA O N) k (N - k) (aA a n) (m:Int)=some (.r0 (((O+a * m * W ^ k) / W ^ (k+n):Nat):Int) (aA ((O+a * m * W ^ k) % W ^ (k+n)) N)):=by
  refine bc (ae rfl (ae (a:=((((O+a * m * W ^ k) / W ^ (k+n):Nat):Int),aA ((O+a * m * W ^ k) % W ^ (k+n)) N)) ?_ rfl))
  have c0:xn O a m k 0 / W ^ (k+0)=0:=by
    have e:xn O a m k 0=O % W ^ k:=by unfold xn;rw [Nat.pow_zero,Nat.mod_one,Nat.zero_mul,Nat.zero_mul,Nat.add_zero,Nat.add_zero]
    rw [e,Nat.add_zero,Nat.div_eq_of_lt (Nat.mod_lt _ (iy _))]
  refine cx (fun i=>(((xn O a m k i / W ^ (k+i):Nat):Int),i,abQ O a m k N i)) n (by rw [c0,alN];rfl) (fun i hi=>?_) ?_
  · have hc:=ajv (O:=O) (a:=a) (m:=m) (k:=k) (i:=i)
    have hcW:xn O a m k i / W ^ (k+i) < W:=Nat.lt_of_le_of_lt hc hm
    have hla:=Nat.mod_lt (a / W ^ i) (show W > 0 by decide)
    have hlO:=Nat.mod_lt (O / W ^ (k+i)) (show W > 0 by decide)
    have hl:=am5 (O:=O) (a:=a) (m:=m) (k:=k) (n:=N) (i:=i)
    have hat:=an3 (O:=O) (a:=a) (m:=m) (k:=k) (n:=N) (i:=i) (by omega)
    have hst:=alO (O:=O) (a:=a) (m:=m) (k:=k) (n:=N) (i:=i) (by omega)
    obtain ⟨w1,w2,w3,w4⟩:=am7 hla hm hcW hlO
    have hS:=Nat.mod_lt (xn O a m k i) (iy (k+i))
    obtain ⟨d1,_⟩:=PY (t:=O / W ^ (k+i) % W+a / W ^ i % W * m+xn O a m k i / W ^ (k+i)) hS
    rw [← adJ] at d1
    show ax (wH _ _ _ _ _ _ _).run _=_
    refine ae (a:=(((xn O a m k (i+1) / W ^ (k+i+1):Nat):Int),abQ O a m k N (i+1))) ?_ (ai rfl)
    unfold wH
    rw [cR ha,xk,aki hla hm]
    simp only [mS,oq,iH,pv]
    rw [hat,xk,ay,hl]
    simp only [cy,Nat.add_zero]
    rw [uz,Nat.mod_eq_of_lt w2,uz,w1,w3,Nat.mod_eq_of_lt w4,hst,← d1]
    exact dm (ai (ai (aj (aj (ai (ai (aj (ai (ai rfl)))))))))
  · show ax (wH _ _ _ _ _ _ _).run _=_
    refine bR ?_
    unfold wH
    rw [ahH hO ha,am6 hO,ahH hO ha,ay]
    exact d9 (by simp) rfl
theorem agn{a b n m:Nat}(ha:a < W ^ n)(hb:b < W ^ m) :a * b < W ^ (n+m):=by
  rw [Nat.pow_add]
  rcases Nat.eq_zero_or_pos b with h | h
  · rw [h,Nat.mul_zero];exact Nat.mul_pos (iy _) (iy _)
  · exact Nat.mul_lt_mul_of_lt_of_le ha (Nat.le_of_lt hb) (iy _) |> fun q=>q
theorem ans{a b n m:Nat}(ha:a < W ^ n)(hb:b < W ^ m)(hn:n≤1000000)(hm:m≤1000000)(h1:nl a+nl b≤4096) :
    mD (aA a n) (aA b m)=some (.r0 0 (nl (a * b)) (nl a+nl b) 0 (aA (a * b) (nl a+nl b))):=by
  have la:=jL ha
  have lb:=jL hb
  have hA:=dp a
  have hB:=dp b
  have hab:=agn hA hB
  have hnab:=jL hab
  refine bc (ae (a:=(0,aA a n,nl a,aA b m,nl b)) ?_ (ae (a:=false) (bj (ai (dJ rfl))) (ae (a:=(nl a+nl b,aA 0 (nl a+nl b))) ?_ (ae (a:=aA (a * b) (nl a+nl b)) ?_ (ae (a:=(0,nl (a * b),nl a+nl b,0,aA (a * b) (nl a+nl b))) ?_ rfl)))))
  · unfold J4
    rw [aE,aE,kS ha (by omega),kS hb (by omega)]
    simp only [cD,aU,aF]
    exact bH (aj (bt (aj (dJ (aj (bH (aj (bt (aj (dJ (aj (bj rfl))))))))))))
  · unfold J5
    rw [Mq]
    exact bj (ai (ai (ai (ai (ai rfl)))))
  · refine cx (fun k=>(k,aA (a * (b % W ^ k)) (nl a+nl b))) (nl b) (by simp [Nat.mod_one]) (fun k hk=>?_) (bR (dJ (by rw [Nat.mod_eq_of_lt hB];rfl)))
    have hO:a * (b % W ^ k) < W ^ (k+nl a):=by rw [Nat.add_comm];exact agn hA (Nat.mod_lt _ (iy k))
    have hlb:=Nat.mod_lt (b / W ^ k) (show W > 0 by decide)
    have hs:=anr (N:=nl a+nl b) hO hA hlb (by omega) (by omega)
    have e:a * (b % W ^ k)+a * (b / W ^ k % W) * W ^ k=a * (b % W ^ (k+1)):=by rw [xj,Nat.mul_add,Nat.mul_assoc]
    rw [e] at hs
    have hO1:a * (b % W ^ (k+1)) < W ^ (k+nl a+1):=by
      rw [show k+nl a+1=nl a+(k+1) by omega];exact agn hA (Nat.mod_lt _ (iy (k+1)))
    have hcar:a * (b % W ^ (k+1)) / W ^ (k+nl a) < W:=by
      exact Nat.div_lt_of_lt_mul (by rw [← Nat.pow_succ];exact hO1)
    have iz:=B4 (u:=a * (b % W ^ (k+1)) % W ^ (k+nl a)) (x:=a * (b % W ^ (k+1)) / W ^ (k+nl a)) (j:=k+nl a) (n:=nl a+nl b) (Nat.mod_lt _ (iy _)) hcar (by omega)
    have hv:a * (b % W ^ (k+1)) % W ^ (k+nl a)+a * (b % W ^ (k+1)) / W ^ (k+nl a) * W ^ (k+nl a)=a * (b % W ^ (k+1)):=by rw [Nat.mul_comm (a * (b % W ^ (k+1)) / W ^ (k+nl a))];exact Nat.mod_add_div _ _
    rw [hv] at iz
    show ax (EN _ _ _ _ _ _ _).run _=_
    refine ae (a:=aA (a * (b % W ^ (k+1))) (nl a+nl b)) ?_ (ai rfl)
    unfold EN
    rw [bO la,cR hb,xk,hs]
    simp only [Dk,B9,xv]
    rw [iz,ay,ay]
    exact dm (ai (ai (ai (ai (ai (cZ (bf la) (aj (ai (ai rfl)))))))))
  · unfold J8
    rw [aei hab (by omega),if_neg (by omega)]
    exact apG (apH rfl) (ao1 (aj rfl))
end Go.Plb.Seat
namespace Go.Plb.Seat
open Go Go.Plb
set_option linter.unusedSimpArgs false
set_option linter.unusedVariables false
theorem apf:∀ z:Fin 64,List.getD bh (2 ^ z.val * 285870213051353865 % W / 2 ^ 58) 0=(z.val:Int)∧2 ^ z.val * 285870213051353865 % W / 2 ^ 58 < 64:=by decide +kernel
theorem aoh:List.length bh=64:=by decide +kernel
theorem apg{x:Nat}(h0:x ≠ 0)(h:x < W) :gE .and .u64 (x:Int) (IntKind.u64.wrap ((0:Int) - (x:Int)))=((2 ^ tz x:Nat):Int):=by
  rw [anb h0 h,Rj,Nat.mod_eq_of_lt h,Nat.mod_eq_of_lt (Nat.sub_lt (by decide) (Nat.pos_of_ne_zero h0)),an5 h0 h]
theorem aoi(y:Nat) :Int.fdiv (IntKind.u64.wrap ((y:Int) * (285870213051353865:Int))) (2 ^ (min (Int.toNat (58:Int)) IntKind.u64.bits))=((y * 285870213051353865 % W / 2 ^ 58:Nat):Int):=by
  have e:(285870213051353865:Int)=((285870213051353865:Nat):Int):=by omega
  rw [e,AQ]
  exact EA _ (k:=58) (by decide)
theorem aph{z:Nat}(h:z < 64) :IntKind.i64.wrap ((z:Nat):Int)=((z:Nat):Int):=by
  have:∀ z:Fin 64,IntKind.i64.wrap ((z.val:Nat):Int)=((z.val:Nat):Int):=by decide
  exact this ⟨z,h⟩
theorem api{x:Nat}(h0:x ≠ 0)(h:x < W) :∃ y:Nat,Int.fdiv (IntKind.u64.wrap ((gE .and .u64 (x:Int) (IntKind.u64.wrap ((0:Int) - (x:Int)))) * (285870213051353865:Int))) (2 ^ (min (Int.toNat (58:Int)) IntKind.u64.bits))=(y:Int)∧List.getD bh y 0=((tz x:Nat):Int)∧y < 64:=by
  have hz:=adK (n:=64) h0 h
  obtain ⟨t1,t2⟩:=apf ⟨tz x,hz⟩
  exact ⟨_,by rw [apg h0 h,aoi],t1,t2⟩
theorem Ls{x:Nat}(h0:x ≠ 0)(h:x < W) :dn (x:Int)=some (.r0 ((tz x:Nat):Int)):=by
  have hz:=adK (n:=64) h0 h
  obtain ⟨y,e,t1,t2⟩:=api h0 h
  refine bc ?_
  unfold kW
  have ix:kN (kN 0 (Ys (Int.toNat (y:Int)) 1)) 0=y:=by simp only [pv,Hb,Nat.zero_add,Nat.mul_one,Nat.add_zero,cy]
  rw [e,ix,t1,aoh,aph hz]
  refine d9 (by rw [beq_eq_false_iff_ne];omega) (cZ (by decide) (cZ ?_ (cZ ?_ rfl)))
  · rw [BN];omega
  · rw [pw];exact t2
theorem ant{v:Nat}(h:v ≠ 0) :∃ i,i < nl v∧v % W ^ i=0∧v / W ^ i % W ≠ 0∧tz v=64 * i+tz (v / W ^ i % W):=by
  obtain ⟨h1,h2⟩:=EB v h
  have e:2 ^ tz v=2 ^ (tz v % 64) * W ^ (tz v / 64):=Rk _
  have h3:v % W ^ (tz v / 64)=0:=by
    have d:W ^ (tz v / 64) ∣ v:=Nat.dvd_trans ⟨2 ^ (tz v % 64),by rw [Nat.mul_comm];exact e⟩ (Nat.dvd_of_mod_eq_zero h1)
    exact Nat.mod_eq_zero_of_dvd d
  have hb:v=v / W ^ (tz v / 64) * W ^ (tz v / 64):=(Nat.div_mul_cancel (Nat.dvd_of_mod_eq_zero h3)).symm
  have h5:v / W ^ (tz v / 64) ≠ 0:=by intro q;rw [q,Nat.zero_mul] at hb;exact h hb
  have key:tz (v / W ^ (tz v / 64))=tz v % 64:=by
    have q:=ajw h5 (64 * (tz v / 64))
    have w:2 ^ (64 * (tz v / 64))=W ^ (tz v / 64):=by rw [Nat.pow_mul]
    rw [w,← hb] at q
    omega
  obtain ⟨k1,k2⟩:=EB _ h5
  rw [key] at k1 k2
  have hr:tz v % 64 < 64:=Nat.mod_lt _ (by decide)
  have e64:W=2 ^ (tz v % 64) * 2 ^ (64 - tz v % 64):=by rw [← Nat.pow_add];show 2 ^ 64=_;congr 1;omega
  have l1:(v / W ^ (tz v / 64) % W) % 2 ^ (tz v % 64)=0:=by
    revert k1;generalize v / W ^ (tz v / 64)=y;intro k1;rw [e64,Nat.mod_mul_right_mod];exact k1
  have l2:(v / W ^ (tz v / 64) % W) / 2 ^ (tz v % 64) % 2=1:=by
    have a:2 ^ (64 - tz v % 64)=2 * 2 ^ (63 - tz v % 64):=by rw [show 64 - tz v % 64=(63 - tz v % 64)+1 by omega,Nat.pow_succ,Nat.mul_comm]
    revert k2;generalize v / W ^ (tz v / 64)=y;intro k2;rw [e64,Nat.mod_mul_right_div_self,a,Nat.mod_mul_right_mod];exact k2
  have l3:v / W ^ (tz v / 64) % W ≠ 0:=by intro q;rw [q,Nat.zero_div] at l2;exact absurd l2 (by decide)
  refine ⟨tz v / 64,?_,h3,l3,?_⟩
  · rcases Nat.lt_or_ge (tz v / 64) (nl v) with q | q
    · exact q
    · exfalso;apply l3
      rw [Nat.div_eq_of_lt (Nat.lt_of_lt_of_le (dp v) (Nat.pow_le_pow_right (by decide) q)),Nat.zero_mod]
  · rw [Mr l1 l2];omega
theorem akj{v n:Nat}(hv:v < W ^ n)(h0:v ≠ 0)(hn:nl v≤4096)(hn2:n≤1000000) :si (aA v n)=some (.r0 ((tz v:Nat):Int) 0):=by
  have hl:=jL hv
  have hp:=Bc h0
  obtain ⟨i,h1,h2,h3,h4⟩:=ant h0
  have hW:v / W ^ i % W < W:=Nat.mod_lt _ (by decide)
  have hz:=adK (n:=64) h3 hW
  refine bc (ae (a:=(0,aA v n,nl v)) ?_ (ae (a:=false) (bj (by show some _=_;congr 2;rw [beq_eq_false_iff_ne];omega)) (ae (a:=()) (bj rfl) (ae (a:=i) (cx (fun j=>j) i rfl (fun j hj=>?_) ?_) (ae (a:=((tz v:Nat):Int)) ?_ rfl)))))
  · unfold Fs
    rw [aE,kS hv (by omega)]
    simp only [cD,aU,aF]
    exact bH (aj (bt (aj (dJ (aj (bj rfl))))))
  · have z:lm v j=0:=by
      unfold lm
      obtain ⟨d,rfl⟩:∃ d,i=j+1+d:=⟨i - j - 1,by omega⟩
      have dv:W ^ (j+1+d) ∣ v:=Nat.dvd_of_mod_eq_zero h2
      obtain ⟨c,hc⟩:=dv
      have:v=(W ^ d * c * W) * W ^ j:=by
        rw [hc,Nat.pow_add,Nat.pow_succ];simp only [Nat.mul_assoc,Nat.mul_comm,Nat.mul_left_comm]
      rw [this,Nat.mul_div_cancel _ (iy j),Nat.mul_mod_left];rfl
    show (rt _ _ _).run=_
    unfold rt
    rw [cR hv,z,ay]
    exact ai (ai (bH (ai rfl)))
  · show (rt _ _ _).run=_
    unfold rt
    rw [cR hv,xk,ay]
    refine ai (ai (d9 (by rw [beq_eq_false_iff_ne];omega) rfl))
  · unfold Fu
    rw [cR hv,xk,ay,Ls h3 hW]
    simp only [eV,eC]
    have e:(((64 * i:Nat):Int)+((tz (v / W ^ i % W):Nat):Int))=((tz v:Nat):Int):=by rw [h4,Int.natCast_add]
    rw [e]
    exact ai (ai (ai (aj (cZ (by rw [c7];omega) rfl))))
theorem aaX(k:Nat) :Int.tdiv (k:Int) (64:Int)=((k / 64:Nat):Int):=rfl
theorem aaY(k:Nat) :IntKind.u64.wrap (Int.tmod (k:Int) (64:Int))=((k % 64:Nat):Int):=by
  rw [show Int.tmod (k:Int) (64:Int)=((k % 64:Nat):Int) from rfl,wc (Nat.lt_trans (Nat.mod_lt k (by decide:64 > 0)) (by decide))]
theorem anu{v n k:Nat}(hv:v < W ^ n)(h0:n ≠ 0)(hn:n≤1000000)(hk:k≤1000000) :
    eF (aA v n) (k:Int)=some (.r0 0 (nl (v * 2 ^ k)) (n+k / 64+1) (aA (v * 2 ^ k) (n+k / 64+1))):=by
  have hr:k % 64 < 64:=Nat.mod_lt _ (by decide)
  have hq:k / 64≤1000000:=by omega
  have hsh:=anf (k:=k) hv
  refine bc (ae (a:=(((k / 64:Nat):Int),((k % 64:Nat):Int),n+k / 64+1,aA 0 (n+k / 64+1))) ?_ (ae (a:=aA (v * 2 ^ k) (n+k / 64+1)) (cx (fun i=>(i,aA (v % W ^ i * 2 ^ (k % 64) * W ^ (k / 64)) (n+k / 64+1))) n (by simp [Nat.mod_one]) (fun i hi=>?_) ?_) (ae (a:=(0,nl (v * 2 ^ k),n+k / 64+1,aA (v * 2 ^ k) (n+k / 64+1))) ?_ rfl)))
  · unfold J9
    rw [ay,aaX,aaY]
    have e:(((n:Nat):Int)+((k / 64:Nat):Int))+(1:Int)=((n+k / 64+1:Nat):Int):=by omega
    rw [e,cy,Mq]
    exact dJ (ai (ai (aj (ai (ai (ai (ai (ai (ai rfl)))))))))
  · show ax (AZ _ _ _ _ _ _).run _=_
    refine ae (a:=aA (v % W ^ (i+1) * 2 ^ (k % 64) * W ^ (k / 64)) (n+k / 64+1)) ?_ (ai rfl)
    unfold AZ
    have e1:Int.toNat (((i:Nat):Int)+((k / 64:Nat):Int))=i+k / 64:=rfl
    have e2:Int.toNat ((((i:Nat):Int)+((k / 64:Nat):Int))+(1:Int))=i+k / 64+1:=rfl
    rw [e1,e2,cR hv,xk,Yj _ (by omega),Zg hr,show (1:Int)=((1:Nat):Int) from rfl,EA _ (by decide),EA _ (by omega),Nat.pow_one,anc hr (by omega),ay]
    simp only [List.length_set,ay]
    exact dm (ai (ai (ai (ai (ai (ai (ai (ai (ai (ai (ai (ai (ai (ai (ai (ai rfl))))))))))))))))
  · show ax (AZ _ _ _ _ _ _).run _=_
    refine bR (d9 (by rw [ay];exact (by simp only [c7,BN,C8,pw,qq,gW,qr,qs,decide_eq_true_eq,decide_eq_false_iff_not,beq_iff_eq,beq_eq_false_iff_ne,bne_iff_ne,bne_eq_false_iff_eq,Bool.not_eq_true',Bool.not_eq_false',List.length_set,ne_eq,ge_iff_le,gt_iff_lt,ld,cy,yH];omega)) ?_)
    rw [Nat.mod_eq_of_lt hv,Nat.mul_assoc,← Rk];rfl
  · unfold Kc
    rw [DU hsh (by omega)]
    exact aj rfl
theorem akk{v n:Nat}(h:v < W ^ n)(hn:n≤100000000)(hb:nl v≤4096) :iY (aA v n)=some (.r0 (aA v n) (nl v) 0):=by
  refine bc (ae (a:=(aA v n,nl v)) ?_ (dJ rfl))
  unfold Dp
  rw [aE,kS h (by omega)]
  exact bt (aj rfl)
theorem anv{v n k:Nat}(hv:v < W ^ n)(h0:v ≠ 0)(hn:n≤1000000)(hk:k < 262144)(hl:nl v≤4096)(hb:nl (v * 2 ^ k)≤4096) :
    gU (aA v n) (k:Int)=some (.r0 (aA (v * 2 ^ k) (nl (v * 2 ^ k))) (nl (v * 2 ^ k)) 0):=by
  have hp:=Bc h0
  have hln:=jL hv
  refine bc (ae (a:=(0,aA v n,nl v)) ?_ (ae (a:=()) ?_ (ae (a:=(aA (v * 2 ^ k) (nl (v * 2 ^ k)),nl (v * 2 ^ k),0)) ?_ rfl)))
  · unfold Qi
    rw [aE,kS hv (by omega)]
    simp only [cD,aU,aF]
    exact bH (aj (bt (aj (dJ (aj (bj rfl))))))
  · exact bj (dJ (dm (dJ rfl)))
  · have hsl:=anf (k:=k) (dp v)
    have hls:=jL hsl
    show (HL _ _ _).run=_
    unfold HL
    rw [bO hln,anu (dp v) (by omega) (by omega) (by omega)]
    simp only [Do,ou,ov,ow]
    rw [bO hls,akk (dp _) (by omega) hb]
    exact cZ (bf hln) (aj (cZ (bf hls) (aj rfl)))
theorem anw{v n k:Nat}(hv:v < W ^ n)(hn:n≤1000000)(hk:k≤100000000) :
    ∃ b N,mF (aA v n) (k:Int)=some (.r0 0 (nl (v / 2 ^ k)) N b (aA (v / 2 ^ k) N))∧nl (v / 2 ^ k)≤N∧N≤n:=by
  have hr:k % 64 < 64:=Nat.mod_lt _ (by decide)
  have hq:k / 64≤10000000:=by omega
  rcases Nat.lt_or_ge (k / 64) n with hlt | hge
  · have hs:=ao5 (k:=k) hv (Nat.le_of_lt hlt)
    have hls:=jL hs
    let f0:=((gE .and .u64 (List.getD (aA v n) (Int.toNat (Int.tdiv (k:Int) (64:Int))) 0) (IntKind.u64.wrap ((IntKind.u64.wrap ((1:Int) * 2 ^ (min (Int.toNat (IntKind.u64.wrap (Int.tmod (k:Int) (64:Int)))) (IntKind.u64.bits)))) - (1:Int)))) != (0:Int))
    let f:Nat→Bool:=fun j=>Nat.rec (motive:=fun _=>Bool) f0 (fun j b=>b || (lm v j != (0:Int))) j
    refine ⟨f (k / 64),n - k / 64,bc (ae (a:=(((k / 64:Nat):Int),((k % 64:Nat):Int),f0,k / 64,k / 64)) ?_ (ae (a:=f (k / 64)) (cx (fun j=>(f j,j)) (k / 64) rfl (fun j hj=>?_) ?_) (ae (a:=(n - k / 64,n - k / 64,List.replicate (n - k / 64) (0:Int))) ?_ (ae (a:=aA (v / 2 ^ k) (n - k / 64)) (cx (fun i=>(i,fh (fun j=>if j < i then lm (v / 2 ^ k) j else 0) (n - k / 64))) (n - k / 64) (by simp only [qO];congr 1) (fun i hi=>?_) ?_) (ae (a:=(0,nl (v / 2 ^ k),n - k / 64,aA (v / 2 ^ k) (n - k / 64))) ?_ rfl))))),hls,Nat.sub_le _ _⟩
    · unfold EO
      have e:=aaX k
      refine aj (cZ (by rw [e];exact (by simp only [c7,BN,C8,pw,qq,gW,qr,qs,decide_eq_true_eq,decide_eq_false_iff_not,beq_iff_eq,beq_eq_false_iff_ne,bne_iff_ne,bne_eq_false_iff_eq,Bool.not_eq_true',Bool.not_eq_false',List.length_set,ne_eq,ge_iff_le,gt_iff_lt,ld,cy,yH];omega)) (aj (d9 (by rw [e,ay];exact (by simp only [c7,BN,C8,pw,qq,gW,qr,qs,decide_eq_true_eq,decide_eq_false_iff_not,beq_iff_eq,beq_eq_false_iff_ne,bne_iff_ne,bne_eq_false_iff_eq,Bool.not_eq_true',Bool.not_eq_false',List.length_set,ne_eq,ge_iff_le,gt_iff_lt,ld,cy,yH];omega)) (cZ (by rw [e,ay];exact (by simp only [c7,BN,C8,pw,qq,gW,qr,qs,decide_eq_true_eq,decide_eq_false_iff_not,beq_iff_eq,beq_eq_false_iff_ne,bne_iff_ne,bne_eq_false_iff_eq,Bool.not_eq_true',Bool.not_eq_false',List.length_set,ne_eq,ge_iff_le,gt_iff_lt,ld,cy,yH];omega)) (cZ (by rw [e,ay];exact (by simp only [c7,BN,C8,pw,qq,gW,qr,qs,decide_eq_true_eq,decide_eq_false_iff_not,beq_iff_eq,beq_eq_false_iff_ne,bne_iff_ne,bne_eq_false_iff_eq,Bool.not_eq_true',Bool.not_eq_false',List.length_set,ne_eq,ge_iff_le,gt_iff_lt,ld,cy,yH];omega)) (cZ (by rw [aaY];exact (by simp only [c7,BN,C8,pw,qq,gW,qr,qs,decide_eq_true_eq,decide_eq_false_iff_not,beq_iff_eq,beq_eq_false_iff_ne,bne_iff_ne,bne_eq_false_iff_eq,Bool.not_eq_true',Bool.not_eq_false',List.length_set,ne_eq,ge_iff_le,gt_iff_lt,ld,cy,yH];omega)) (cZ (by rw [e,ay];exact (by simp only [c7,BN,C8,pw,qq,gW,qr,qs,decide_eq_true_eq,decide_eq_false_iff_not,beq_iff_eq,beq_eq_false_iff_ne,bne_iff_ne,bne_eq_false_iff_eq,Bool.not_eq_true',Bool.not_eq_false',List.length_set,ne_eq,ge_iff_le,gt_iff_lt,ld,cy,yH];omega)) (cZ (by rw [e];exact (by simp only [c7,BN,C8,pw,qq,gW,qr,qs,decide_eq_true_eq,decide_eq_false_iff_not,beq_iff_eq,beq_eq_false_iff_ne,bne_iff_ne,bne_eq_false_iff_eq,Bool.not_eq_true',Bool.not_eq_false',List.length_set,ne_eq,ge_iff_le,gt_iff_lt,ld,cy,yH];omega)) ?_))))))))
      show some (Sum.inl (_,IntKind.u64.wrap _,f0,_,_))=_
      rw [aaY];rfl
    · show ax (A0 _ _ _ _ _).run _=_
      refine ae (a:=f (j+1)) ?_ (ai rfl)
      unfold A0
      rw [cR hv,ay]
      refine dm (ai (ai ?_))
      have hf:f (j+1)=(f j || (lm v j != (0:Int))):=rfl
      rw [hf]
      cases f j
      · exact bj rfl
      · exact bH rfl
    · show ax (A0 _ _ _ _ _).run _=_
      exact bR (dJ rfl)
    · show (EP _ _).run=_
      unfold EP
      have e:((n:Nat):Int) - ((k / 64:Nat):Int)=((n - k / 64:Nat):Int):=by omega
      rw [ay,e]
      exact ai (ai (ai (ai (ai rfl))))
    · show ax (A2 _ _ _ _ _ _ _).run _=_
      refine ae (a:=fh (fun j=>if j < i+1 then lm (v / 2 ^ k) j else 0) (n - k / 64)) ?_ (ai rfl)
      have e1:Int.toNat (((i:Nat):Int)+((k / 64:Nat):Int))=i+k / 64:=rfl
      have e2:Int.toNat ((((i:Nat):Int)+((k / 64:Nat):Int))+(1:Int))=i+k / 64+1:=rfl
      obtain ⟨w1,w2⟩:=ana (V:=v / W ^ (i+k / 64)) hr
      have hV:v / W ^ (i+k / 64) / W=v / W ^ (i+k / 64+1):=by rw [Nat.pow_succ,Nat.div_div_eq_div_mul]
      have Ek:∀ x:Int,x=lm (v / 2 ^ k) i→(fh (fun j=>if j < i then lm (v / 2 ^ k) j else 0) (n - k / 64)).set i x=fh (fun j=>if j < i+1 then lm (v / 2 ^ k) j else 0) (n - k / 64):=by
        intro x hx
        rw [tn hi]
        refine cr fun j hj=>?_
        by_cases e:j=i
        · subst e;rw [if_pos rfl,if_pos (Nat.lt_succ_self _),hx]
        · rw [if_neg e]
          by_cases e':j < i
          · rw [if_pos e',if_pos (by omega)]
          · rw [if_neg e',if_neg (by omega)]
      unfold A2
      rw [e1,e2,cR hv,cR hv,xk,xk,EA _ (by omega),Zg hr,show (1:Int)=((1:Nat):Int) from rfl,Yj _ (by decide),Yj _ (by omega),Nat.pow_one]
      simp only [List.length_set,ay,eB,List.set_set]
      by_cases hlast:i+k / 64+1 < n
      · refine dm (ai (ai (ai (ai (ai (ai (ai (ai (dm (ai (ai (ai (ai (ai (ai (aj (ai (ai (ai ?_)))))))))))))))))))
        show some (Sum.inl _)=_
        congr 2
        refine Ek _ ?_
        rw [List.getD_eq_getElem?_getD,List.getElem?_set_self (by rw [eB];exact hi)]
        show gE .or .u64 _ _=_
        have m1:v / W ^ (i+k / 64) % W / 2 ^ (k % 64) % W=v / W ^ (i+k / 64) % W / 2 ^ (k % 64):=Nat.mod_eq_of_lt (Nat.lt_of_le_of_lt (Nat.div_le_self _ _) (Nat.mod_lt _ (by decide)))
        show gE .or .u64 ((v / W ^ (i+k / 64) % W / 2 ^ (k % 64):Nat):Int) _=_
        rw [ae7,m1,Nat.mod_mod,← hV,w2,← w1,ane]
      · refine dm (ai (ai (ai (ai (ai (ai (ai (ai (dJ ?_)))))))))
        show some (Sum.inl _)=_
        congr 2
        refine Ek _ ?_
        have z:v / W ^ (i+k / 64) / W=0:=by
          rw [hV];exact Nat.div_eq_of_lt (Nat.lt_of_lt_of_le hv (Nat.pow_le_pow_right (by decide) (by omega)))
        rw [z] at w1
        rw [ane,w1]
        simp
    · show ax (A2 _ _ _ _ _ _ _).run _=_
      refine bR (dJ ?_)
      show some (Sum.inr (Sum.inl _))=_
      congr 3
      exact cr fun j hj=>if_pos hj
    · unfold Kk
      rw [DU hs (by omega)]
      exact aj rfl
  · have hz:=ahJ hv hge
    refine ⟨decide (((n:Nat):Int) > (0:Int)),0,?_,by rw [hz,iT];exact Nat.le_refl 0,Nat.zero_le _⟩
    refine bc (bR ?_)
    unfold EO
    rw [aaX,ay,hz,iT]
    exact aj (ai (aj (dm rfl)))
theorem anx{v n k:Nat}(hv:v < W ^ n)(hn:n≤1000000)(hl:nl v≤4096)(hk:k≤100000000) :
    ∃ b N,nt (aA v n) (k:Int)=some (.r0 (aA (v / 2 ^ k) N) 0 (nl (v / 2 ^ k)) b 0)∧nl (v / 2 ^ k)≤N∧N≤4096:=by
  have hln:=jL hv
  obtain ⟨b,N,h1,h2,h3⟩:=anw (k:=k) (dp v) (by omega) hk
  refine ⟨b,N,bc (ae (a:=(0,aA v n,nl v)) ?_ (ae (a:=false) ?_ (ae (a:=(aA (v / 2 ^ k) N,0,nl (v / 2 ^ k),b)) ?_ rfl))),h2,by omega⟩
  · unfold Qk
    rw [aE,kS hv (by omega)]
    simp only [cD,aU,aF]
    exact bH (aj (bt (aj (dJ (aj (bj rfl))))))
  · refine bj ?_
    show some (Sum.inl (decide (((k:Nat):Int) < 0)))=_
    rw [decide_eq_false (by omega)]
  · show (HT _ _ _ _).run=_
    unfold HT
    rw [bO hln,h1]
    exact bj (cZ (bf hln) (aj rfl))
end Go.Plb.Seat
namespace Go.Plb.Seat
open Go Go.Plb
set_option linter.unusedVariables false
set_option maxRecDepth 100000
noncomputable section
inductive fo where
  | r0 (a:Nat) (b:Bool) (c:List Int) (d:Nat) (e:Nat) (f:Int)
def sT:fo→AE×aC
  | .r0 a b c d e f=>(.ret,⟨ag 51 [(4,.ptr 0 1 0 0),(5,.int .i64 ((a:Nat):Int))],[(0,.vs [.bool false b,.imm .free (.ns .u64 c) 1 1 d e,.int .i64 f])],1⟩)
theorem wN:lc sT:=by intro x;cases x <;> (intro h;cases h)
theorem aiq(id:Nat) :qp id sT:=by intro x;cases x <;> (intro h;cases h)
def Qx:fo→ju
  | .r0 a b c d e f=>⟨.tup [.agg [.bool false b,.imm .free (.ns .u64 c) 1 1 d e,.int .i64 f],.int .i64 ((a:Nat):Int)],[]⟩
def CE:List Code:=bD (bp qh)
def W6(c:Lv)(a:Nat)(d:List Bool)(e:List (List Int))(f:List Int)(g:Lv)(b:Nat)(h:List Bool)(i:List (List Int))(j:List Int)(k:Bool) :aC:=⟨ag 51 [(0,.imm c (.cols a [.cb d,.cns .u64 e,.ci .i64 f]) 3 3 0 a),(1,.imm g (.cols b [.cb h,.cns .u64 i,.ci .i64 j]) 3 3 0 b),(4,.ptr 0 1 0 0)],[(0,.vs [.bool false k,.nsl,.int .i64 (0:Int)])],1⟩
def Tn:T ((Bool)⊕(fo)) :=
  .leaf (.inl false)
def xX:List Code:=bD (Mo (((CE.drop 1)).headD .skip))
def W7(c:Lv)(a:Nat)(d:List Bool)(e:List (List Int))(f:List Int)(g:Lv)(b:Nat)(h:List Bool)(i:List (List Int))(j:List Int)(k:Bool)(l:Bool) :aC:=⟨ag 51 [(0,.imm c (.cols a [.cb d,.cns .u64 e,.ci .i64 f]) 3 3 0 a),(1,.imm g (.cols b [.cb h,.cns .u64 i,.ci .i64 j]) 3 3 0 b),(4,.ptr 0 1 0 0),(6,.ptr 1 1 0 0),(7,.int .i64 (0:Int)),(18,.int .i64 ((a:Nat):Int)),(19,.int .i64 (0:Int))],[(0,.vs [.bool false k,.nsl,.int .i64 (0:Int)]),(1,.vs [.bool false l,.nsl,.int .i64 (0:Int)])],2⟩
def To(a:Nat)(b:Nat) :T ((Bool)⊕(fo)) :=
  .ask (((a:Nat):Int) != ((b:Nat):Int))
    (.leaf (.inr (.r0 2 false ([]:List Int) 0 0 (0:Int))))
    (.leaf (.inl false))
def wO(c:Lv)(a:Nat)(d:List Bool)(e:List (List Int))(f:List Int)(g:Lv)(b:Nat)(h:List Bool)(i:List (List Int))(j:List Int)(k:Bool) :Nat×Nat×Bool×(List Int)×Nat×Nat×Int→aC:=fun (l,m,n,o,p,q,r)=>⟨ag 51 [(0,.imm c (.cols a [.cb d,.cns .u64 e,.ci .i64 f]) 3 3 0 a),(1,.imm g (.cols b [.cb h,.cns .u64 i,.ci .i64 j]) 3 3 0 b),(4,.ptr 0 1 0 0),(6,.ptr 1 1 0 0),(7,.int .i64 ((l:Nat):Int)),(18,.int .i64 ((a:Nat):Int)),(19,.int .i64 ((m:Nat):Int))],[(0,.vs [.bool false k,.nsl,.int .i64 (0:Int)]),(1,.vs [.bool false n,.imm .free (.ns .u64 o) 1 1 p q,.int .i64 r])],2⟩
def xY(a:Bool) :Nat×Bool×(List Int)×Nat×Nat×Int→aC:=fun (b,c,d,e,f,g)=>⟨ag 51 [(4,.ptr 0 1 0 0),(6,.ptr 1 1 0 0),(7,.int .i64 ((b:Nat):Int))],[(0,.vs [.bool false a,.nsl,.int .i64 (0:Int)]),(1,.vs [.bool false c,.imm .free (.ns .u64 d) 1 1 e f,.int .i64 g])],2⟩
def Iz:List Code:=bD (bE ((((xX.drop 5).take 1)).headD .skip))
def Tp(c:Lv)(a:Nat)(d:List Bool)(e:List (List Int))(f:List Int)(g:Lv)(b:Nat)(h:List Bool)(i:List (List Int))(j:List Int)(k:Bool)(l:Nat) :Nat×Bool×(List Int)×Nat×Nat×Int→aC:=fun (m,n,o,p,q,r)=>⟨ag 51 [(0,.imm c (.cols a [.cb d,.cns .u64 e,.ci .i64 f]) 3 3 0 a),(1,.imm g (.cols b [.cb h,.cns .u64 i,.ci .i64 j]) 3 3 0 b),(4,.ptr 0 1 0 0),(6,.ptr 1 1 0 0),(7,.int .i64 ((m:Nat):Int)),(18,.int .i64 ((a:Nat):Int)),(19,.int .i64 ((l:Nat):Int))],[(0,.vs [.bool false k,.nsl,.int .i64 (0:Int)]),(1,.vs [.bool false n,.imm .free (.ns .u64 o) 1 1 p q,.int .i64 r])],2⟩
def CF(m:Nat)(d:List Bool)(b:List (List Int))(e:List Int)(n:Nat)(f:List Bool)(c:List (List Int))(g:List Int)(o:Nat)(a:Nat)(k:Bool)(h:List Int)(i:Nat)(j:Nat)(l:Int) :T ((Nat×Bool×(List Int)×Nat×Nat×Int)⊕((Nat×Bool×(List Int)×Nat×Nat×Int)⊕(fo))) :=
  .ask (decide (((a:Nat):Int) < ((m:Nat):Int)))
    (.need (iE ((a:Nat):Int) m)<|.need (iX a (List.length d))<|.need (iX a (List.length b))<|.need (iX a (List.length e))<|.need (iE ((a:Nat):Int) n)<|.need (iX a (List.length f))<|.need (iX a (List.length c))<|.need (iX a (List.length g))<|.need (aI 0 (List.length (List.getD b a [])) (List.getD b a []))<|.need (aI 0 (List.length (List.getD c a [])) (List.getD c a []))<|.need (qa (an (List.getD d a false) (aa 0 (List.length (List.getD b a [])) (List.getD b a [])) (List.getD e a 0) (List.getD f a false) (aa 0 (List.length (List.getD c a [])) (List.getD c a [])) (List.getD g a 0)))<|.ask ((((l9 (an (List.getD d a false) (aa 0 (List.length (List.getD b a [])) (List.getD b a [])) (List.getD e a 0) (List.getD f a false) (aa 0 (List.length (List.getD c a [])) (List.getD c a [])) (List.getD g a 0))):Nat):Int) != (0:Int))
      (.leaf (.inr (.inl ((l9 (an (List.getD d a false) (aa 0 (List.length (List.getD b a [])) (List.getD b a [])) (List.getD e a 0) (List.getD f a false) (aa 0 (List.length (List.getD c a [])) (List.getD c a [])) (List.getD g a 0))),k,h,i,j,l))))
      (.need (aI i j h)<|.need (aI (cu (an (List.getD d a false) (aa 0 (List.length (List.getD b a [])) (List.getD b a [])) (List.getD e a 0) (List.getD f a false) (aa 0 (List.length (List.getD c a [])) (List.getD c a [])) (List.getD g a 0))) (cv (an (List.getD d a false) (aa 0 (List.length (List.getD b a [])) (List.getD b a [])) (List.getD e a 0) (List.getD f a false) (aa 0 (List.length (List.getD c a [])) (List.getD c a [])) (List.getD g a 0))) (ct (an (List.getD d a false) (aa 0 (List.length (List.getD b a [])) (List.getD b a [])) (List.getD e a 0) (List.getD f a false) (aa 0 (List.length (List.getD c a [])) (List.getD c a [])) (List.getD g a 0))))<|.need (A4 (ck k (aa i j h) l (cF (an (List.getD d a false) (aa 0 (List.length (List.getD b a [])) (List.getD b a [])) (List.getD e a 0) (List.getD f a false) (aa 0 (List.length (List.getD c a [])) (List.getD c a [])) (List.getD g a 0))) (aa (cu (an (List.getD d a false) (aa 0 (List.length (List.getD b a [])) (List.getD b a [])) (List.getD e a 0) (List.getD f a false) (aa 0 (List.length (List.getD c a [])) (List.getD c a [])) (List.getD g a 0))) (cv (an (List.getD d a false) (aa 0 (List.length (List.getD b a [])) (List.getD b a [])) (List.getD e a 0) (List.getD f a false) (aa 0 (List.length (List.getD c a [])) (List.getD c a [])) (List.getD g a 0))) (ct (an (List.getD d a false) (aa 0 (List.length (List.getD b a [])) (List.getD b a [])) (List.getD e a 0) (List.getD f a false) (aa 0 (List.length (List.getD c a [])) (List.getD c a [])) (List.getD g a 0)))) (cG (an (List.getD d a false) (aa 0 (List.length (List.getD b a [])) (List.getD b a [])) (List.getD e a 0) (List.getD f a false) (aa 0 (List.length (List.getD c a [])) (List.getD c a [])) (List.getD g a 0)))))<|.ask ((((rx (ck k (aa i j h) l (cF (an (List.getD d a false) (aa 0 (List.length (List.getD b a [])) (List.getD b a [])) (List.getD e a 0) (List.getD f a false) (aa 0 (List.length (List.getD c a [])) (List.getD c a [])) (List.getD g a 0))) (aa (cu (an (List.getD d a false) (aa 0 (List.length (List.getD b a [])) (List.getD b a [])) (List.getD e a 0) (List.getD f a false) (aa 0 (List.length (List.getD c a [])) (List.getD c a [])) (List.getD g a 0))) (cv (an (List.getD d a false) (aa 0 (List.length (List.getD b a [])) (List.getD b a [])) (List.getD e a 0) (List.getD f a false) (aa 0 (List.length (List.getD c a [])) (List.getD c a [])) (List.getD g a 0))) (ct (an (List.getD d a false) (aa 0 (List.length (List.getD b a [])) (List.getD b a [])) (List.getD e a 0) (List.getD f a false) (aa 0 (List.length (List.getD c a [])) (List.getD c a [])) (List.getD g a 0)))) (cG (an (List.getD d a false) (aa 0 (List.length (List.getD b a [])) (List.getD b a [])) (List.getD e a 0) (List.getD f a false) (aa 0 (List.length (List.getD c a [])) (List.getD c a [])) (List.getD g a 0))))):Nat):Int) != (0:Int))
        (.leaf (.inr (.inl ((rx (ck k (aa i j h) l (cF (an (List.getD d a false) (aa 0 (List.length (List.getD b a [])) (List.getD b a [])) (List.getD e a 0) (List.getD f a false) (aa 0 (List.length (List.getD c a [])) (List.getD c a [])) (List.getD g a 0))) (aa (cu (an (List.getD d a false) (aa 0 (List.length (List.getD b a [])) (List.getD b a [])) (List.getD e a 0) (List.getD f a false) (aa 0 (List.length (List.getD c a [])) (List.getD c a [])) (List.getD g a 0))) (cv (an (List.getD d a false) (aa 0 (List.length (List.getD b a [])) (List.getD b a [])) (List.getD e a 0) (List.getD f a false) (aa 0 (List.length (List.getD c a [])) (List.getD c a [])) (List.getD g a 0))) (ct (an (List.getD d a false) (aa 0 (List.length (List.getD b a [])) (List.getD b a [])) (List.getD e a 0) (List.getD f a false) (aa 0 (List.length (List.getD c a [])) (List.getD c a [])) (List.getD g a 0)))) (cG (an (List.getD d a false) (aa 0 (List.length (List.getD b a [])) (List.getD b a [])) (List.getD e a 0) (List.getD f a false) (aa 0 (List.length (List.getD c a [])) (List.getD c a [])) (List.getD g a 0))))),(uD (ck k (aa i j h) l (cF (an (List.getD d a false) (aa 0 (List.length (List.getD b a [])) (List.getD b a [])) (List.getD e a 0) (List.getD f a false) (aa 0 (List.length (List.getD c a [])) (List.getD c a [])) (List.getD g a 0))) (aa (cu (an (List.getD d a false) (aa 0 (List.length (List.getD b a [])) (List.getD b a [])) (List.getD e a 0) (List.getD f a false) (aa 0 (List.length (List.getD c a [])) (List.getD c a [])) (List.getD g a 0))) (cv (an (List.getD d a false) (aa 0 (List.length (List.getD b a [])) (List.getD b a [])) (List.getD e a 0) (List.getD f a false) (aa 0 (List.length (List.getD c a [])) (List.getD c a [])) (List.getD g a 0))) (ct (an (List.getD d a false) (aa 0 (List.length (List.getD b a [])) (List.getD b a [])) (List.getD e a 0) (List.getD f a false) (aa 0 (List.length (List.getD c a [])) (List.getD c a [])) (List.getD g a 0)))) (cG (an (List.getD d a false) (aa 0 (List.length (List.getD b a [])) (List.getD b a [])) (List.getD e a 0) (List.getD f a false) (aa 0 (List.length (List.getD c a [])) (List.getD c a [])) (List.getD g a 0))))),(uE (ck k (aa i j h) l (cF (an (List.getD d a false) (aa 0 (List.length (List.getD b a [])) (List.getD b a [])) (List.getD e a 0) (List.getD f a false) (aa 0 (List.length (List.getD c a [])) (List.getD c a [])) (List.getD g a 0))) (aa (cu (an (List.getD d a false) (aa 0 (List.length (List.getD b a [])) (List.getD b a [])) (List.getD e a 0) (List.getD f a false) (aa 0 (List.length (List.getD c a [])) (List.getD c a [])) (List.getD g a 0))) (cv (an (List.getD d a false) (aa 0 (List.length (List.getD b a [])) (List.getD b a [])) (List.getD e a 0) (List.getD f a false) (aa 0 (List.length (List.getD c a [])) (List.getD c a [])) (List.getD g a 0))) (ct (an (List.getD d a false) (aa 0 (List.length (List.getD b a [])) (List.getD b a [])) (List.getD e a 0) (List.getD f a false) (aa 0 (List.length (List.getD c a [])) (List.getD c a [])) (List.getD g a 0)))) (cG (an (List.getD d a false) (aa 0 (List.length (List.getD b a [])) (List.getD b a [])) (List.getD e a 0) (List.getD f a false) (aa 0 (List.length (List.getD c a [])) (List.getD c a [])) (List.getD g a 0))))),(uF (ck k (aa i j h) l (cF (an (List.getD d a false) (aa 0 (List.length (List.getD b a [])) (List.getD b a [])) (List.getD e a 0) (List.getD f a false) (aa 0 (List.length (List.getD c a [])) (List.getD c a [])) (List.getD g a 0))) (aa (cu (an (List.getD d a false) (aa 0 (List.length (List.getD b a [])) (List.getD b a [])) (List.getD e a 0) (List.getD f a false) (aa 0 (List.length (List.getD c a [])) (List.getD c a [])) (List.getD g a 0))) (cv (an (List.getD d a false) (aa 0 (List.length (List.getD b a [])) (List.getD b a [])) (List.getD e a 0) (List.getD f a false) (aa 0 (List.length (List.getD c a [])) (List.getD c a [])) (List.getD g a 0))) (ct (an (List.getD d a false) (aa 0 (List.length (List.getD b a [])) (List.getD b a [])) (List.getD e a 0) (List.getD f a false) (aa 0 (List.length (List.getD c a [])) (List.getD c a [])) (List.getD g a 0)))) (cG (an (List.getD d a false) (aa 0 (List.length (List.getD b a [])) (List.getD b a [])) (List.getD e a 0) (List.getD f a false) (aa 0 (List.length (List.getD c a [])) (List.getD c a [])) (List.getD g a 0))))),(uG (ck k (aa i j h) l (cF (an (List.getD d a false) (aa 0 (List.length (List.getD b a [])) (List.getD b a [])) (List.getD e a 0) (List.getD f a false) (aa 0 (List.length (List.getD c a [])) (List.getD c a [])) (List.getD g a 0))) (aa (cu (an (List.getD d a false) (aa 0 (List.length (List.getD b a [])) (List.getD b a [])) (List.getD e a 0) (List.getD f a false) (aa 0 (List.length (List.getD c a [])) (List.getD c a [])) (List.getD g a 0))) (cv (an (List.getD d a false) (aa 0 (List.length (List.getD b a [])) (List.getD b a [])) (List.getD e a 0) (List.getD f a false) (aa 0 (List.length (List.getD c a [])) (List.getD c a [])) (List.getD g a 0))) (ct (an (List.getD d a false) (aa 0 (List.length (List.getD b a [])) (List.getD b a [])) (List.getD e a 0) (List.getD f a false) (aa 0 (List.length (List.getD c a [])) (List.getD c a [])) (List.getD g a 0)))) (cG (an (List.getD d a false) (aa 0 (List.length (List.getD b a [])) (List.getD b a [])) (List.getD e a 0) (List.getD f a false) (aa 0 (List.length (List.getD c a [])) (List.getD c a [])) (List.getD g a 0))))),(uH (ck k (aa i j h) l (cF (an (List.getD d a false) (aa 0 (List.length (List.getD b a [])) (List.getD b a [])) (List.getD e a 0) (List.getD f a false) (aa 0 (List.length (List.getD c a [])) (List.getD c a [])) (List.getD g a 0))) (aa (cu (an (List.getD d a false) (aa 0 (List.length (List.getD b a [])) (List.getD b a [])) (List.getD e a 0) (List.getD f a false) (aa 0 (List.length (List.getD c a [])) (List.getD c a [])) (List.getD g a 0))) (cv (an (List.getD d a false) (aa 0 (List.length (List.getD b a [])) (List.getD b a [])) (List.getD e a 0) (List.getD f a false) (aa 0 (List.length (List.getD c a [])) (List.getD c a [])) (List.getD g a 0))) (ct (an (List.getD d a false) (aa 0 (List.length (List.getD b a [])) (List.getD b a [])) (List.getD e a 0) (List.getD f a false) (aa 0 (List.length (List.getD c a [])) (List.getD c a [])) (List.getD g a 0)))) (cG (an (List.getD d a false) (aa 0 (List.length (List.getD b a [])) (List.getD b a [])) (List.getD e a 0) (List.getD f a false) (aa 0 (List.length (List.getD c a [])) (List.getD c a [])) (List.getD g a 0)))))))))
        (.leaf (.inl ((rx (ck k (aa i j h) l (cF (an (List.getD d a false) (aa 0 (List.length (List.getD b a [])) (List.getD b a [])) (List.getD e a 0) (List.getD f a false) (aa 0 (List.length (List.getD c a [])) (List.getD c a [])) (List.getD g a 0))) (aa (cu (an (List.getD d a false) (aa 0 (List.length (List.getD b a [])) (List.getD b a [])) (List.getD e a 0) (List.getD f a false) (aa 0 (List.length (List.getD c a [])) (List.getD c a [])) (List.getD g a 0))) (cv (an (List.getD d a false) (aa 0 (List.length (List.getD b a [])) (List.getD b a [])) (List.getD e a 0) (List.getD f a false) (aa 0 (List.length (List.getD c a [])) (List.getD c a [])) (List.getD g a 0))) (ct (an (List.getD d a false) (aa 0 (List.length (List.getD b a [])) (List.getD b a [])) (List.getD e a 0) (List.getD f a false) (aa 0 (List.length (List.getD c a [])) (List.getD c a [])) (List.getD g a 0)))) (cG (an (List.getD d a false) (aa 0 (List.length (List.getD b a [])) (List.getD b a [])) (List.getD e a 0) (List.getD f a false) (aa 0 (List.length (List.getD c a [])) (List.getD c a [])) (List.getD g a 0))))),(uD (ck k (aa i j h) l (cF (an (List.getD d a false) (aa 0 (List.length (List.getD b a [])) (List.getD b a [])) (List.getD e a 0) (List.getD f a false) (aa 0 (List.length (List.getD c a [])) (List.getD c a [])) (List.getD g a 0))) (aa (cu (an (List.getD d a false) (aa 0 (List.length (List.getD b a [])) (List.getD b a [])) (List.getD e a 0) (List.getD f a false) (aa 0 (List.length (List.getD c a [])) (List.getD c a [])) (List.getD g a 0))) (cv (an (List.getD d a false) (aa 0 (List.length (List.getD b a [])) (List.getD b a [])) (List.getD e a 0) (List.getD f a false) (aa 0 (List.length (List.getD c a [])) (List.getD c a [])) (List.getD g a 0))) (ct (an (List.getD d a false) (aa 0 (List.length (List.getD b a [])) (List.getD b a [])) (List.getD e a 0) (List.getD f a false) (aa 0 (List.length (List.getD c a [])) (List.getD c a [])) (List.getD g a 0)))) (cG (an (List.getD d a false) (aa 0 (List.length (List.getD b a [])) (List.getD b a [])) (List.getD e a 0) (List.getD f a false) (aa 0 (List.length (List.getD c a [])) (List.getD c a [])) (List.getD g a 0))))),(uE (ck k (aa i j h) l (cF (an (List.getD d a false) (aa 0 (List.length (List.getD b a [])) (List.getD b a [])) (List.getD e a 0) (List.getD f a false) (aa 0 (List.length (List.getD c a [])) (List.getD c a [])) (List.getD g a 0))) (aa (cu (an (List.getD d a false) (aa 0 (List.length (List.getD b a [])) (List.getD b a [])) (List.getD e a 0) (List.getD f a false) (aa 0 (List.length (List.getD c a [])) (List.getD c a [])) (List.getD g a 0))) (cv (an (List.getD d a false) (aa 0 (List.length (List.getD b a [])) (List.getD b a [])) (List.getD e a 0) (List.getD f a false) (aa 0 (List.length (List.getD c a [])) (List.getD c a [])) (List.getD g a 0))) (ct (an (List.getD d a false) (aa 0 (List.length (List.getD b a [])) (List.getD b a [])) (List.getD e a 0) (List.getD f a false) (aa 0 (List.length (List.getD c a [])) (List.getD c a [])) (List.getD g a 0)))) (cG (an (List.getD d a false) (aa 0 (List.length (List.getD b a [])) (List.getD b a [])) (List.getD e a 0) (List.getD f a false) (aa 0 (List.length (List.getD c a [])) (List.getD c a [])) (List.getD g a 0))))),(uF (ck k (aa i j h) l (cF (an (List.getD d a false) (aa 0 (List.length (List.getD b a [])) (List.getD b a [])) (List.getD e a 0) (List.getD f a false) (aa 0 (List.length (List.getD c a [])) (List.getD c a [])) (List.getD g a 0))) (aa (cu (an (List.getD d a false) (aa 0 (List.length (List.getD b a [])) (List.getD b a [])) (List.getD e a 0) (List.getD f a false) (aa 0 (List.length (List.getD c a [])) (List.getD c a [])) (List.getD g a 0))) (cv (an (List.getD d a false) (aa 0 (List.length (List.getD b a [])) (List.getD b a [])) (List.getD e a 0) (List.getD f a false) (aa 0 (List.length (List.getD c a [])) (List.getD c a [])) (List.getD g a 0))) (ct (an (List.getD d a false) (aa 0 (List.length (List.getD b a [])) (List.getD b a [])) (List.getD e a 0) (List.getD f a false) (aa 0 (List.length (List.getD c a [])) (List.getD c a [])) (List.getD g a 0)))) (cG (an (List.getD d a false) (aa 0 (List.length (List.getD b a [])) (List.getD b a [])) (List.getD e a 0) (List.getD f a false) (aa 0 (List.length (List.getD c a [])) (List.getD c a [])) (List.getD g a 0))))),(uG (ck k (aa i j h) l (cF (an (List.getD d a false) (aa 0 (List.length (List.getD b a [])) (List.getD b a [])) (List.getD e a 0) (List.getD f a false) (aa 0 (List.length (List.getD c a [])) (List.getD c a [])) (List.getD g a 0))) (aa (cu (an (List.getD d a false) (aa 0 (List.length (List.getD b a [])) (List.getD b a [])) (List.getD e a 0) (List.getD f a false) (aa 0 (List.length (List.getD c a [])) (List.getD c a [])) (List.getD g a 0))) (cv (an (List.getD d a false) (aa 0 (List.length (List.getD b a [])) (List.getD b a [])) (List.getD e a 0) (List.getD f a false) (aa 0 (List.length (List.getD c a [])) (List.getD c a [])) (List.getD g a 0))) (ct (an (List.getD d a false) (aa 0 (List.length (List.getD b a [])) (List.getD b a [])) (List.getD e a 0) (List.getD f a false) (aa 0 (List.length (List.getD c a [])) (List.getD c a [])) (List.getD g a 0)))) (cG (an (List.getD d a false) (aa 0 (List.length (List.getD b a [])) (List.getD b a [])) (List.getD e a 0) (List.getD f a false) (aa 0 (List.length (List.getD c a [])) (List.getD c a [])) (List.getD g a 0))))),(uH (ck k (aa i j h) l (cF (an (List.getD d a false) (aa 0 (List.length (List.getD b a [])) (List.getD b a [])) (List.getD e a 0) (List.getD f a false) (aa 0 (List.length (List.getD c a [])) (List.getD c a [])) (List.getD g a 0))) (aa (cu (an (List.getD d a false) (aa 0 (List.length (List.getD b a [])) (List.getD b a [])) (List.getD e a 0) (List.getD f a false) (aa 0 (List.length (List.getD c a [])) (List.getD c a [])) (List.getD g a 0))) (cv (an (List.getD d a false) (aa 0 (List.length (List.getD b a [])) (List.getD b a [])) (List.getD e a 0) (List.getD f a false) (aa 0 (List.length (List.getD c a [])) (List.getD c a [])) (List.getD g a 0))) (ct (an (List.getD d a false) (aa 0 (List.length (List.getD b a [])) (List.getD b a [])) (List.getD e a 0) (List.getD f a false) (aa 0 (List.length (List.getD c a [])) (List.getD c a [])) (List.getD g a 0)))) (cG (an (List.getD d a false) (aa 0 (List.length (List.getD b a [])) (List.getD b a [])) (List.getD e a 0) (List.getD f a false) (aa 0 (List.length (List.getD c a [])) (List.getD c a [])) (List.getD g a 0))))))))))
    (.leaf (.inr (.inl (o,k,h,i,j,l))))
def Tq(a:Nat)(b:Nat)(c:Bool)(d:List Int)(e:Nat)(f:Nat)(g:Int) :T ((Nat×Nat×Bool×(List Int)×Nat×Nat×Int)⊕((Nat×Bool×(List Int)×Nat×Nat×Int)⊕(fo))) :=
  .need (dP .i64 (((a+1):Nat):Int))<|.leaf (.inl (b,(a+1),c,d,e,f,g))
def CG(b:Nat)(c:List Bool)(d:List (List Int))(e:List Int)(f:Nat)(g:List Bool)(h:List (List Int))(i:List Int) :Nat×Nat×Bool×(List Int)×Nat×Nat×Int→Option ((Nat×Nat×Bool×(List Int)×Nat×Nat×Int)⊕((Nat×Bool×(List Int)×Nat×Nat×Int)⊕(fo))):=fun (j,a,k,l,m,n,o) =>
  ax ((CF b c d e f g h i j a k l m n o).run) fun (p,q,r,s,t,u) =>
  (Tq a p q r s t u).run
theorem ago(l:Lv)(c:Nat)(d:List Bool)(e:List (List Int))(f:List Int)(m:Lv)(g:Nat)(h:List Bool)(i:List (List Int))(j:List Int)(b:Bool)(n:Nat)(k:Nat)(o:Bool)(p:List Int)(q:Nat)(r:Nat)(s:Int) :Sg prog [] Iz (wO l c d e f m g h i j b (n,k,o,p,q,r,s)) (CG c d e f g h i j (n,k,o,p,q,r,s)) (wO l c d e f m g h i j b) (aO 0 (xY b) sT):=by
  unfold CG;exact Sg.cut 3 (aW wN) (Sg.seg (C:=C0) ah nB 60 (Iz.take 3) (wO l c d e f m g h i j b (n,k,o,p,q,r,s)) (CF c d e f g h i j n k o p q r s) (Tp l c d e f m g h i j b k) (aO 0 (xY b) sT) [⟨[],[0,1],[4,6,7]⟩,⟨[],[0,1],[4,6,7]⟩,⟨[],[0,1],[0,1,4,6,7,18,19]⟩,⟨[],[0,1],[4,6,7]⟩] (by kernel_rfl)) (fun a=>by obtain ⟨t,u,v,w,x,y⟩:=a;exact Sg.seg (C:=C0) ah nB 60 (Iz.drop 3) (Tp l c d e f m g h i j b k (t,u,v,w,x,y)) (Tq k t u v w x y) (wO l c d e f m g h i j b) (aO 0 (xY b) sT) [⟨[],[0,1],[0,1,4,6,7,18,19]⟩] (by kernel_rfl))
def agp(a:Bool) :Nat×Bool×(List Int)×Nat×Nat×Int→aC:=xY a
def Tr(a:Nat)(b:Bool)(c:List Int)(d:Nat)(e:Nat)(f:Int) :T ((Empty)⊕(fo)) :=
  .ask (((a:Nat):Int) != (0:Int))
    (.leaf (.inr (.r0 a false ([]:List Int) 0 0 (0:Int))))
    (.leaf (.inr (.r0 0 b c d e f)))
def cq(a:Nat)(c:List Bool)(d:List (List Int))(e:List Int)(b:Nat)(f:List Bool)(g:List (List Int))(h:List Int) :Option fo:=l6 (ax ((Tn).run) fun p =>
  ax ((To a b).run) fun i =>
  ax (dH (CG a c d e b f g h) (0,0,i,([]:List Int),0,0,(0:Int))) fun (j,k,l,m,n,o) =>
  (Tr j k l m n o).run)
theorem air(k:Lv)(b:Nat)(d:List Bool)(e:List (List Int))(f:List Int)(l:Lv)(c:Nat)(g:List Bool)(i:List (List Int))(j:List Int){x:fo}(h:cq b d e f c g i j=some x) :ak prog qh [] [.imm k (.cols b [.cb d,.cns .u64 e,.ci .i64 f]) 3 3 0 b,.imm l (.cols c [.cb g,.cns .u64 i,.ci .i64 j]) 3 3 0 c] (Qx x) :=
  Sg.contract true Qx (by kernel_rfl:prog.funcs[qh]? = some (FN qh)) (by kernel_rfl:(FN qh).body=some (bp qh)) (Sg.cut 1 wN (Sg.seg (C:=C0) ah nB 60 (CE.take 1) (aL (FN qh) [] [.imm k (.cols b [.cb d,.cns .u64 e,.ci .i64 f]) 3 3 0 b,.imm l (.cols c [.cb g,.cns .u64 i,.ci .i64 j]) 3 3 0 c]) (Tn) (W6 k b d e f l c g i j) sT [⟨[],[0],[0,1,4]⟩] (by kernel_rfl)) (fun m=>by exact PV (by kernel_rfl:(CE.drop 1) = [.scope (Mo (((CE.drop 1)).headD .skip))]) wN (Sg.cut 5 wN (Sg.seg (C:=C0) ah nB 60 (xX.take 5) (W6 k b d e f l c g i j m) (To b c) (W7 k b d e f l c g i j m) sT [⟨[(.cell 0 1,.fre 1 1 (.ns .u64 ([]:List Int)))],[0],[4,5]⟩,⟨[],[0,81],[0,1,4,6,7,18,19]⟩] (by kernel_rfl)) (fun n=>by exact Sg.cut 1 wN (Sg.pre ⟨[(.cell 1 1,.fre 1 1 (.ns .u64 ([]:List Int)))],[0,1],[0,1,4,6,7,18,19]⟩ rfl (by kernel_rfl:NS.on ⟨[(.cell 1 1,.fre 1 1 (.ns .u64 ([]:List Int)))],[0,1],[0,1,4,6,7,18,19]⟩ (W7 k b d e f l c g i j m n)=(wO k b d e f l c g i j m) (0,0,n,([]:List Int),0,0,(0:Int))) (bT (I:=(wO k b d e f l c g i j m)) (J:=(xY m)) (id:=0) (by kernel_rfl:((xX.drop 5).take 1) = [.block 0 (.loop (bE ((((xX.drop 5).take 1)).headD .skip)))]) wN (aiq _) (fun s=>by obtain ⟨v,w,y,z,A,B,D⟩:=s;exact ago k b d e f l c g i j m v w y z A B D) (0,0,n,([]:List Int),0,0,(0:Int)))) (fun a=>by obtain ⟨o,p,q,r,t,u⟩:=a;exact Sg.seg (C:=C0) ah nB 60 ((xX.drop 5).drop 1) (agp m (o,p,q,r,t,u)) (Tr o p q r t u) (fun a:Empty=>a.elim) sT [⟨[(.cell 0 1,.fre 1 1 (.ns .u64 ([]:List Int)))],[0],[4,5]⟩,⟨[],[0],[4,5]⟩] (by kernel_rfl))))))
    (fun x=>by cases x with | r0 E F G H K L=>exact ⟨.inr rfl,[.agg [.bool false F,.imm .free (.ns .u64 G) 1 1 H K,.int .i64 L],.int .i64 ((E:Nat):Int)],[],by kernel_rfl,trivial,by kernel_rfl⟩) h
def wP:Option fo→Bool
  | some _=>true
  | none=>false
def u7:Option fo→Nat
  | some (.r0 x _ _ _ _ _)=>x
  | _=>0
def u9:Option fo→Bool
  | some (.r0 _ x _ _ _ _)=>x
  | _=>false
def va:Option fo→List Int
  | some (.r0 _ _ x _ _ _)=>x
  | _=>[]
def vb:Option fo→Nat
  | some (.r0 _ _ _ x _ _)=>x
  | _=>0
def vc:Option fo→Nat
  | some (.r0 _ _ _ _ x _)=>x
  | _=>0
def vd:Option fo→Int
  | some (.r0 _ _ _ _ _ x)=>x
  | _=>0
theorem ais{x:Option fo}(h:wP x=true) :x=some (.r0 (u7 x) (u9 x) (va x) (vb x) (vc x) (vd x)):=by
  unfold wP at h
  split at h <;> first | rfl | (cases h;done) | (rename_i y;cases y;rfl)
def aaZ:aD:=bW qh (.cons (.cols [.cb,.cns .u64,.ci .i64]) (.cons (.cols [.cb,.cns .u64,.ci .i64]) .nil)) fun t=>[⟨Qx (.r0 (u7 (cq t.1.2.1 t.1.2.2.1 t.1.2.2.2.1 t.1.2.2.2.2.1 t.2.1.2.1 t.2.1.2.2.1 t.2.1.2.2.2.1 t.2.1.2.2.2.2.1)) (u9 (cq t.1.2.1 t.1.2.2.1 t.1.2.2.2.1 t.1.2.2.2.2.1 t.2.1.2.1 t.2.1.2.2.1 t.2.1.2.2.2.1 t.2.1.2.2.2.2.1)) (va (cq t.1.2.1 t.1.2.2.1 t.1.2.2.2.1 t.1.2.2.2.2.1 t.2.1.2.1 t.2.1.2.2.1 t.2.1.2.2.2.1 t.2.1.2.2.2.2.1)) (vb (cq t.1.2.1 t.1.2.2.1 t.1.2.2.2.1 t.1.2.2.2.2.1 t.2.1.2.1 t.2.1.2.2.1 t.2.1.2.2.2.1 t.2.1.2.2.2.2.1)) (vc (cq t.1.2.1 t.1.2.2.1 t.1.2.2.2.1 t.1.2.2.2.2.1 t.2.1.2.1 t.2.1.2.2.1 t.2.1.2.2.2.1 t.2.1.2.2.2.2.1)) (vd (cq t.1.2.1 t.1.2.2.1 t.1.2.2.2.1 t.1.2.2.2.2.1 t.2.1.2.1 t.2.1.2.2.1 t.2.1.2.2.2.1 t.2.1.2.2.2.2.1))),[wP (cq t.1.2.1 t.1.2.2.1 t.1.2.2.2.1 t.1.2.2.2.2.1 t.2.1.2.1 t.2.1.2.2.1 t.2.1.2.2.2.1 t.2.1.2.2.2.2.1)]⟩]
theorem ac4:aM prog aaZ:=aG fun t=>(aH (fun h=>air t.1.1 t.1.2.1 t.1.2.2.1 t.1.2.2.2.1 t.1.2.2.2.2.1 t.2.1.1 t.2.1.2.1 t.2.1.2.2.1 t.2.1.2.2.2.1 t.2.1.2.2.2.2.1 (ais h)) aR)
def aa0:List aD:=aaZ :: Tm
theorem F7:aX prog (aZ aa0):=am ac4 nB
inductive dW where
  | r0 (a:Nat) (b:Bool) (c:List Int) (d:Nat) (e:Nat) (f:Int)
def DV:dW→AE×aC
  | .r0 a b c d e f=>(.ret,⟨ag 9 [(2,.ptr 0 1 0 0),(3,.int .i64 ((a:Nat):Int))],[(0,.vs [.bool false b,.imm .free (.ns .u64 c) 1 1 d e,.int .i64 f])],1⟩)
theorem XT:lc DV:=by intro x;cases x <;> (intro h;cases h)
def DW:dW→ju
  | .r0 a b c d e f=>⟨.tup [.agg [.bool false b,.imm .free (.ns .u64 c) 1 1 d e,.int .i64 f],.int .i64 ((a:Nat):Int)],[]⟩
def I6:List Code:=bD (bp i7)
def I7:Nat×Bool×(List Int)×Nat×Nat×Int→aC:=fun (a,b,c,d,e,f)=>⟨ag 9 [(2,.ptr 0 1 0 0),(3,.int .i64 ((a:Nat):Int))],[(0,.vs [.bool false b,.imm .free (.ns .u64 c) 1 1 d e,.int .i64 f])],1⟩
def By(a:Nat)(b:List Bool)(c:List (List Int))(d:List Int) :T ((Nat×Bool×(List Int)×Nat×Nat×Int)⊕(dW)) :=
  .need (Nat.ble (0+a) a)<|.need (Nat.ble (0+a) a)<|.need (wP (cq a (aa 0 a b) (aa 0 a c) (aa 0 a d) a (aa 0 a b) (aa 0 a c) (aa 0 a d)))<|.leaf (.inl ((u7 (cq a (aa 0 a b) (aa 0 a c) (aa 0 a d) a (aa 0 a b) (aa 0 a c) (aa 0 a d))),(u9 (cq a (aa 0 a b) (aa 0 a c) (aa 0 a d) a (aa 0 a b) (aa 0 a c) (aa 0 a d))),(va (cq a (aa 0 a b) (aa 0 a c) (aa 0 a d) a (aa 0 a b) (aa 0 a c) (aa 0 a d))),(vb (cq a (aa 0 a b) (aa 0 a c) (aa 0 a d) a (aa 0 a b) (aa 0 a c) (aa 0 a d))),(vc (cq a (aa 0 a b) (aa 0 a c) (aa 0 a d) a (aa 0 a b) (aa 0 a c) (aa 0 a d))),(vd (cq a (aa 0 a b) (aa 0 a c) (aa 0 a d) a (aa 0 a b) (aa 0 a c) (aa 0 a d)))))
def I8(a:Nat)(b:Bool)(c:List Int)(d:Nat)(e:Nat)(f:Int) :T ((Empty)⊕(dW)) :=
  .leaf (.inr (.r0 a b c d e f))
def bu(a:Nat)(b:List Bool)(c:List (List Int))(d:List Int) :Option dW:=l6 (ax ((By a b c d).run) fun (e,f,g,h,i,j) =>
  (I8 e f g h i j).run)
theorem XU(f:Lv)(b:Nat)(c:List Bool)(d:List (List Int))(e:List Int){x:dW}(h:bu b c d e=some x) :ak prog i7 [] [.imm f (.cols b [.cb c,.cns .u64 d,.ci .i64 e]) 3 3 0 b] (DW x) :=
  Sg.contract true DW (by kernel_rfl:prog.funcs[i7]? = some (FN i7)) (by kernel_rfl:(FN i7).body=some (bp i7)) (Sg.cut 2 XT (Sg.seg (C:=C0) ah F7 60 (I6.take 2) (aL (FN i7) [] [.imm f (.cols b [.cb c,.cns .u64 d,.ci .i64 e]) 3 3 0 b]) (By b c d e) I7 DV [⟨[],[0],[2,3]⟩] (by kernel_rfl)) (fun a=>by obtain ⟨g,i,j,k,l,m⟩:=a;exact Sg.seg (C:=C0) ah F7 60 (I6.drop 2) (I7 (g,i,j,k,l,m)) (I8 g i j k l m) (fun a:Empty=>a.elim) DV [⟨[],[0],[2,3]⟩] (by kernel_rfl)))
    (fun x=>by cases x with | r0 n o p q r s=>exact ⟨.inr rfl,[.agg [.bool false o,.imm .free (.ns .u64 p) 1 1 q r,.int .i64 s],.int .i64 ((n:Nat):Int)],[],by kernel_rfl,trivial,by kernel_rfl⟩) h
def nC:Option dW→Bool
  | some _=>true
  | none=>false
def oM:Option dW→Nat
  | some (.r0 x _ _ _ _ _)=>x
  | _=>0
def oN:Option dW→Bool
  | some (.r0 _ x _ _ _ _)=>x
  | _=>false
def oO:Option dW→List Int
  | some (.r0 _ _ x _ _ _)=>x
  | _=>[]
def oP:Option dW→Nat
  | some (.r0 _ _ _ x _ _)=>x
  | _=>0
def oQ:Option dW→Nat
  | some (.r0 _ _ _ _ x _)=>x
  | _=>0
def oR:Option dW→Int
  | some (.r0 _ _ _ _ _ x)=>x
  | _=>0
theorem XV{x:Option dW}(h:nC x=true) :x=some (.r0 (oM x) (oN x) (oO x) (oP x) (oQ x) (oR x)):=by
  unfold nC at h
  split at h <;> first | rfl | (cases h;done) | (rename_i y;cases y;rfl)
def Lt:aD:=bW i7 (.cons (.cols [.cb,.cns .u64,.ci .i64]) .nil) fun t=>[⟨DW (.r0 (oM (bu t.1.2.1 t.1.2.2.1 t.1.2.2.2.1 t.1.2.2.2.2.1)) (oN (bu t.1.2.1 t.1.2.2.1 t.1.2.2.2.1 t.1.2.2.2.2.1)) (oO (bu t.1.2.1 t.1.2.2.1 t.1.2.2.2.1 t.1.2.2.2.2.1)) (oP (bu t.1.2.1 t.1.2.2.1 t.1.2.2.2.1 t.1.2.2.2.2.1)) (oQ (bu t.1.2.1 t.1.2.2.1 t.1.2.2.2.1 t.1.2.2.2.2.1)) (oR (bu t.1.2.1 t.1.2.2.1 t.1.2.2.2.1 t.1.2.2.2.2.1))),[nC (bu t.1.2.1 t.1.2.2.1 t.1.2.2.2.1 t.1.2.2.2.2.1)]⟩]
theorem Ts:aM prog Lt:=aG fun t=>(aH (fun h=>XU t.1.1 t.1.2.1 t.1.2.2.1 t.1.2.2.2.1 t.1.2.2.2.2.1 (XV h)) aR)
def Lu:List aD:=Lt :: aa0
theorem rV:aX prog (aZ Lu):=am Ts F7
inductive fW where
  | r0 (a:Nat) (b:Bool) (c:List Int) (d:Nat) (e:Nat) (f:Int)
def E5:fW→AE×aC
  | .r0 a b c d e f=>(.ret,⟨ag 23 [(2,.ptr 0 1 0 0),(3,.int .i64 ((a:Nat):Int))],[(0,.vs [.bool false b,.imm .free (.ns .u64 c) 1 1 d e,.int .i64 f])],1⟩)
theorem Tt:lc E5:=by intro x;cases x <;> (intro h;cases h)
def Lw:fW→ju
  | .r0 a b c d e f=>⟨.tup [.agg [.bool false b,.imm .free (.ns .u64 c) 1 1 d e,.int .i64 f],.int .i64 ((a:Nat):Int)],[]⟩
def IA:List Code:=bD (bp nO)
def Tu(b:Int)(c:Int)(d:Lv)(a:List Nat)(e:Bool) :aC:=⟨ag 23 [(1,.ptr 0 1 0 0),(2,.ptr 1 1 0 0)],[(0,.vs [.int .i64 b,.int .i64 c,.imm d (.fl a) 1 1 0 (List.length a)]),(1,.vs [.bool false e,.nsl,.int .i64 (0:Int)])],2⟩
def IB(b : Int)(c : Int)(a : List Nat) : T ((Bool) ⊕ (fW)) :=
  .ask (decide ((0:Int) < (1:Int)))
    (.need (iE (0:Int) 1)<|.need (aI 0 (List.length a) a)<|.need (g8 (c8 b c (aa 0 (List.length a) a)))<|.ask (gg (c8 b c (aa 0 (List.length a) a)))
      (.ask (!(!(decide ((0:Int) ≥ (0:Int)))))
        (.leaf (.inr (.r0 2 false ([]:List Int) 0 0 (0:Int))))
        (.fail))
      (.need (dP .i64 (1:Int))<|.ask (decide ((1:Int) < (1:Int)))
        (.fail)
        (.ask (!(!(decide ((-1:Int) ≥ (0:Int)))))
          (.fail)
          (.ask (decide ((0:Int) < (1:Int)))
            (.need (iE (0:Int) 1)<|.need (aI 0 (List.length a) a)<|.need (aP (ao (aa 0 (List.length a) a)))<|.ask (decide ((aQ (ao (aa 0 (List.length a) a))) ≥ (0:Int)))
              (.leaf (.inr (.r0 10 false ([]:List Int) 0 0 (0:Int))))
              (.need (dP .i64 (1:Int))<|.ask (decide ((1:Int) < (1:Int)))
                (.fail)
                (.leaf (.inl false))))
            (.fail)))))
    (.fail)
def Tv:Nat×Bool×(List Int)×Nat×Nat×Int→aC:=fun (a,b,c,d,e,f)=>⟨ag 23 [(2,.ptr 0 1 0 0),(3,.int .i64 ((a:Nat):Int))],[(0,.vs [.bool false b,.imm .free (.ns .u64 c) 1 1 d e,.int .i64 f])],1⟩
def IC(a:List Nat) :T ((Nat×Bool×(List Int)×Nat×Nat×Int)⊕(fW)) :=
  .need (aI 0 (List.length a) a)<|.need (i0 (ap (aa 0 (List.length a) a)))<|.need (Nat.ble (0+(aN (ap (aa 0 (List.length a) a)))) (aN (ap (aa 0 (List.length a) a))))<|.need (nC (bu (aN (ap (aa 0 (List.length a) a))) (aa 0 (aN (ap (aa 0 (List.length a) a))) (dc (ap (aa 0 (List.length a) a)))) (aa 0 (aN (ap (aa 0 (List.length a) a))) (dd (ap (aa 0 (List.length a) a)))) (aa 0 (aN (ap (aa 0 (List.length a) a))) (de (ap (aa 0 (List.length a) a))))))<|.leaf (.inl ((oM (bu (aN (ap (aa 0 (List.length a) a))) (aa 0 (aN (ap (aa 0 (List.length a) a))) (dc (ap (aa 0 (List.length a) a)))) (aa 0 (aN (ap (aa 0 (List.length a) a))) (dd (ap (aa 0 (List.length a) a)))) (aa 0 (aN (ap (aa 0 (List.length a) a))) (de (ap (aa 0 (List.length a) a)))))),(oN (bu (aN (ap (aa 0 (List.length a) a))) (aa 0 (aN (ap (aa 0 (List.length a) a))) (dc (ap (aa 0 (List.length a) a)))) (aa 0 (aN (ap (aa 0 (List.length a) a))) (dd (ap (aa 0 (List.length a) a)))) (aa 0 (aN (ap (aa 0 (List.length a) a))) (de (ap (aa 0 (List.length a) a)))))),(oO (bu (aN (ap (aa 0 (List.length a) a))) (aa 0 (aN (ap (aa 0 (List.length a) a))) (dc (ap (aa 0 (List.length a) a)))) (aa 0 (aN (ap (aa 0 (List.length a) a))) (dd (ap (aa 0 (List.length a) a)))) (aa 0 (aN (ap (aa 0 (List.length a) a))) (de (ap (aa 0 (List.length a) a)))))),(oP (bu (aN (ap (aa 0 (List.length a) a))) (aa 0 (aN (ap (aa 0 (List.length a) a))) (dc (ap (aa 0 (List.length a) a)))) (aa 0 (aN (ap (aa 0 (List.length a) a))) (dd (ap (aa 0 (List.length a) a)))) (aa 0 (aN (ap (aa 0 (List.length a) a))) (de (ap (aa 0 (List.length a) a)))))),(oQ (bu (aN (ap (aa 0 (List.length a) a))) (aa 0 (aN (ap (aa 0 (List.length a) a))) (dc (ap (aa 0 (List.length a) a)))) (aa 0 (aN (ap (aa 0 (List.length a) a))) (dd (ap (aa 0 (List.length a) a)))) (aa 0 (aN (ap (aa 0 (List.length a) a))) (de (ap (aa 0 (List.length a) a)))))),(oR (bu (aN (ap (aa 0 (List.length a) a))) (aa 0 (aN (ap (aa 0 (List.length a) a))) (dc (ap (aa 0 (List.length a) a)))) (aa 0 (aN (ap (aa 0 (List.length a) a))) (dd (ap (aa 0 (List.length a) a)))) (aa 0 (aN (ap (aa 0 (List.length a) a))) (de (ap (aa 0 (List.length a) a))))))))
def Tw(a:Nat)(b:Bool)(c:List Int)(d:Nat)(e:Nat)(f:Int) :T ((Empty)⊕(fW)) :=
  .leaf (.inr (.r0 a b c d e f))
def cQ(b:Int)(c:Int)(a:List Nat) :Option fW:=l6 (ax ((IB b c a).run) fun j =>
  ax ((IC a).run) fun (d,e,f,g,h,i) =>
  (Tw d e f g h i).run)
theorem agq(c:Int)(d:Int)(e:Lv)(b:List Nat){x:fW}(h:cQ c d b=some x) :ak prog nO [] [.agg [.int .i64 c,.int .i64 d,.imm e (.fl b) 1 1 0 (List.length b)]] (Lw x) :=
  Sg.contract true Lw (by kernel_rfl:prog.funcs[nO]? = some (FN nO)) (by kernel_rfl:(FN nO).body=some (bp nO)) (Sg.cut 2 Tt (Sg.seg (C:=C0) ah rV 60 (IA.take 2) (aL (FN nO) [] [.agg [.int .i64 c,.int .i64 d,.imm e (.fl b) 1 1 0 (List.length b)]]) (IB c d b) (Tu c d e b) E5 [⟨[(.cell 16 1,.fre 1 1 (.ns .u64 ([]:List Int)))],[16],[2,3]⟩,⟨[(.cell 16 1,.fre 1 1 (.ns .u64 ([]:List Int)))],[16],[2,3]⟩,⟨[],[0,16],[1,2]⟩] (by kernel_rfl)) (fun m=>by exact Sg.cut 1 Tt (Sg.seg (C:=C0) ah rV 60 ((IA.drop 2).take 1) (Tu c d e b m) (IC b) Tv E5 [⟨[],[1],[2,3]⟩] (by kernel_rfl)) (fun a=>by obtain ⟨f,g,i,j,k,l⟩:=a;exact Sg.seg (C:=C0) ah rV 60 ((IA.drop 2).drop 1) (Tv (f,g,i,j,k,l)) (Tw f g i j k l) (fun a:Empty=>a.elim) E5 [⟨[],[0],[2,3]⟩] (by kernel_rfl))))
    (fun x=>by cases x with | r0 n o p q r s=>exact ⟨.inr rfl,[.agg [.bool false o,.imm .free (.ns .u64 p) 1 1 q r,.int .i64 s],.int .i64 ((n:Nat):Int)],[],by kernel_rfl,trivial,by kernel_rfl⟩) h
def xZ:Option fW→Bool
  | some _=>true
  | none=>false
def x4:Option fW→Nat
  | some (.r0 x _ _ _ _ _)=>x
  | _=>0
def x5:Option fW→Bool
  | some (.r0 _ x _ _ _ _)=>x
  | _=>false
def x6:Option fW→List Int
  | some (.r0 _ _ x _ _ _)=>x
  | _=>[]
def x7:Option fW→Nat
  | some (.r0 _ _ _ x _ _)=>x
  | _=>0
def x8:Option fW→Nat
  | some (.r0 _ _ _ _ x _)=>x
  | _=>0
def x9:Option fW→Int
  | some (.r0 _ _ _ _ _ x)=>x
  | _=>0
theorem agr{x:Option fW}(h:xZ x=true) :x=some (.r0 (x4 x) (x5 x) (x6 x) (x7 x) (x8 x) (x9 x)):=by
  unfold xZ at h
  split at h <;> first | rfl | (cases h;done) | (rename_i y;cases y;rfl)
def W8:aD:=bW nO (.cons (.agg (.cons (.int .i64) (.cons (.int .i64) (.cons .fl .nil)))) .nil) fun t=>[⟨Lw (.r0 (x4 (cQ t.1.1 t.1.2.1 t.1.2.2.1.2)) (x5 (cQ t.1.1 t.1.2.1 t.1.2.2.1.2)) (x6 (cQ t.1.1 t.1.2.1 t.1.2.2.1.2)) (x7 (cQ t.1.1 t.1.2.1 t.1.2.2.1.2)) (x8 (cQ t.1.1 t.1.2.1 t.1.2.2.1.2)) (x9 (cQ t.1.1 t.1.2.1 t.1.2.2.1.2))),[xZ (cQ t.1.1 t.1.2.1 t.1.2.2.1.2)]⟩]
theorem aa1:aM prog W8:=aG fun t=>(aH (fun h=>agq t.1.1 t.1.2.1 t.1.2.2.1.1 t.1.2.2.1.2 (agr h)) aR)
def W9:List aD:=W8 :: Lu
theorem ya:aX prog (aZ W9):=am aa1 rV
end
end Go.Plb.Seat
namespace Go.Plb.Seat
open Go Go.Plb
set_option linter.unusedVariables false
set_option maxRecDepth 100000
noncomputable section
inductive gT where
  | r0 (a:Nat) (b:List Bool) (c:List (List Int)) (d:List Int)
def wQ:gT→AE×aC
  | .r0 a b c d=>(.ret,⟨ag 31 [(8,.sl 0 3 3 0 a a)],[(0,.cols a [.cb b,.cns .u64 c,.ci .i64 d])],1⟩)
theorem ID:lc wQ:=by intro x;cases x <;> (intro h;cases h)
theorem ags(id:Nat) :qp id wQ:=by intro x;cases x <;> (intro h;cases h)
def Lx:gT→ju
  | .r0 a b c d=>⟨.imm .free (.cols a [.cb b,.cns .u64 c,.ci .i64 d]) 3 3 0 a,[]⟩
def yc:List Code:=bD (bp nR)
def Tx(c:Lv)(b:Nat)(d:List Bool)(e:List (List Int))(f:List Int)(g:Int)(h:Int) :Nat×Nat×(List Bool)×(List (List Int))×(List Int)→aC:=fun (a,i,j,k,l)=>⟨ag 31 [(0,.imm c (.cols b [.cb d,.cns .u64 e,.ci .i64 f]) 3 3 0 b),(1,.int .i64 g),(2,.int .i64 h),(9,.sl 0 3 3 0 a a),(14,.int .i64 ((i:Nat):Int)),(15,.int .i64 (0:Int))],[(0,.cols a [.cb j,.cns .u64 k,.ci .i64 l])],1⟩
def IE(a:Int) :T ((Nat×Nat×(List Bool)×(List (List Int))×(List Int))⊕(gT)) :=
  .need (decide ((0:Int)≤a))<|.need (decide (a≤a))<|.need (decide ((40:Int) * a≤140737488355328))<|.need (dP .i64 a)<|.leaf (.inl ((Int.toNat a),(Int.toNat a),(List.replicate (Int.toNat a) false),(List.replicate (Int.toNat a) []),(List.replicate (Int.toNat a) (0:Int))))
def t0(c:Lv)(b:Nat)(d:List Bool)(e:List (List Int))(f:List Int)(g:Int)(h:Int)(a:Nat)(i:Nat) :Nat×(List Bool)×(List (List Int))×(List Int)→aC:=fun (j,k,l,m)=>⟨ag 31 [(0,.imm c (.cols b [.cb d,.cns .u64 e,.ci .i64 f]) 3 3 0 b),(1,.int .i64 g),(2,.int .i64 h),(9,.sl 0 3 3 0 a a),(14,.int .i64 ((i:Nat):Int)),(15,.int .i64 ((j:Nat):Int))],[(0,.cols a [.cb k,.cns .u64 l,.ci .i64 m])],1⟩
def CH(a:Nat) :(List Bool)×(List (List Int))×(List Int)→aC:=fun (b,c,d)=>⟨ag 31 [(9,.sl 0 3 3 0 a a)],[(0,.cols a [.cb b,.cns .u64 c,.ci .i64 d])],1⟩
def Tz:List Code:=bD (bE ((((yc.drop 3).take 1)).headD .skip))
def yd(j:Nat)(h:List Bool)(d:List (List Int))(i:List Int)(c:Int)(b:Int)(k:Nat)(l:Nat)(a:Nat)(e:List Bool)(f:List (List Int))(g:List Int) :T ((Nat×(List Bool)×(List (List Int))×(List Int))⊕(((List Bool)×(List (List Int))×(List Int))⊕(gT))) :=
  .ask (decide (((a:Nat):Int) < ((l:Nat):Int)))
    (.need (dP .i64 (((a:Nat):Int) * b))<|.need (dP .i64 (c+(((a:Nat):Int) * b)))<|.need (iE (c+(((a:Nat):Int) * b)) j)<|.need (iX (Int.toNat (c+(((a:Nat):Int) * b))) (List.length h))<|.need (iX (Int.toNat (c+(((a:Nat):Int) * b))) (List.length d))<|.need (iX (Int.toNat (c+(((a:Nat):Int) * b))) (List.length i))<|.need (iE ((a:Nat):Int) k)<|.need (iX a (List.length e))<|.need (iX a (List.length f))<|.need (decide (0+(List.length (List.getD d (Int.toNat (c+(((a:Nat):Int) * b))) []))≤List.length (List.getD d (Int.toNat (c+(((a:Nat):Int) * b))) [])))<|.need (iX a (List.length g))<|.need (dP .i64 (((a+1):Nat):Int))<|.leaf (.inl ((a+1),(List.set e a (List.getD h (Int.toNat (c+(((a:Nat):Int) * b))) false)),(List.set f a (List.take (List.length (List.getD d (Int.toNat (c+(((a:Nat):Int) * b))) [])) (List.drop 0 (List.getD d (Int.toNat (c+(((a:Nat):Int) * b))) [])))),(List.set g a (List.getD i (Int.toNat (c+(((a:Nat):Int) * b))) 0)))))
    (.leaf (.inr (.inl (e,f,g))))
def F8(a:Nat)(b:List Bool)(c:List (List Int))(d:List Int)(e:Int)(f:Int)(g:Nat)(h:Nat) :Nat×(List Bool)×(List (List Int))×(List Int)→Option ((Nat×(List Bool)×(List (List Int))×(List Int))⊕(((List Bool)×(List (List Int))×(List Int))⊕(gT))):=fun (i,j,k,l) =>
  (yd a b c d e f g h i j k l).run
theorem ac5(i:Lv)(b:Nat)(c:List Bool)(d:List (List Int))(e:List Int)(f:Int)(g:Int)(a:Nat)(h:Nat)(j:Nat)(k:List Bool)(l:List (List Int))(m:List Int) :Sg prog [] Tz (t0 i b c d e f g a h (j,k,l,m)) (F8 b c d e f g a h (j,k,l,m)) (t0 i b c d e f g a h) (aO 0 (CH a) wQ):=by
  unfold F8;exact Sg.seg (C:=C0) ah ya 60 Tz (t0 i b c d e f g a h (j,k,l,m)) (yd b c d e f g a h j k l m) (t0 i b c d e f g a h) (aO 0 (CH a) wQ) [⟨[],[0],[0,1,2,9,14,15]⟩,⟨[],[0],[9]⟩] (by kernel_rfl)
def agt(a:Nat) :(List Bool)×(List (List Int))×(List Int)→aC:=CH a
def OX(a:Nat)(b:List Bool)(c:List (List Int))(d:List Int) :T ((Empty)⊕(gT)) :=
  .leaf (.inr (.r0 a b c d))
def ab(b:Nat)(c:List Bool)(d:List (List Int))(e:List Int)(f:Int)(g:Int)(h:Int) :Option gT:=l6 (ax ((IE h).run) fun (a,i,j,k,l) =>
  ax (dH (F8 b c d e f g a i) (0,j,k,l)) fun (m,n,o) =>
  (OX a m n o).run)
theorem agu(i:Lv)(b:Nat)(c:List Bool)(d:List (List Int))(e:List Int)(f:Int)(g:Int)(k:Int){x:gT}(h:ab b c d e f g k=some x) :ak prog nR [] [.imm i (.cols b [.cb c,.cns .u64 d,.ci .i64 e]) 3 3 0 b,.int .i64 f,.int .i64 g,.int .i64 k] (Lx x) :=
  Sg.contract true Lx (by kernel_rfl:prog.funcs[nR]? = some (FN nR)) (by kernel_rfl:(FN nR).body=some (bp nR)) (Sg.cut 3 ID (Sg.seg (C:=C0) ah ya 60 (yc.take 3) (aL (FN nR) [] [.imm i (.cols b [.cb c,.cns .u64 d,.ci .i64 e]) 3 3 0 b,.int .i64 f,.int .i64 g,.int .i64 k]) (IE k) (Tx i b c d e f g) wQ [⟨[],[32],[0,1,2,9,14,15]⟩] (by kernel_rfl)) (fun a=>by obtain ⟨j,l,m,n,o⟩:=a;exact Sg.cut 1 ID (Sg.pre ⟨[],[0],[0,1,2,9,14,15]⟩ rfl (by kernel_rfl:NS.on ⟨[],[0],[0,1,2,9,14,15]⟩ (Tx i b c d e f g (j,l,m,n,o))=(t0 i b c d e f g j l) (0,m,n,o)) (bT (I:=(t0 i b c d e f g j l)) (J:=(CH j)) (id:=0) (by kernel_rfl:((yc.drop 3).take 1) = [.block 0 (.loop (bE ((((yc.drop 3).take 1)).headD .skip)))]) ID (ags _) (fun s=>by obtain ⟨u,v,w,y⟩:=s;exact ac5 i b c d e f g j l u v w y) (0,m,n,o))) (fun a=>by obtain ⟨p,q,r⟩:=a;exact Sg.seg (C:=C0) ah ya 60 ((yc.drop 3).drop 1) (agt j (p,q,r)) (OX j p q r) (fun a:Empty=>a.elim) wQ [⟨[],[0],[8]⟩] (by kernel_rfl))))
    (fun x=>by cases x with | r0 t z A B=>exact ⟨.inr rfl,[.sl 0 3 3 0 t t],[],by kernel_rfl,trivial,by kernel_rfl⟩) h
def lS:Option gT→Bool
  | some _=>true
  | none=>false
def ac:Option gT→Nat
  | some (.r0 x _ _ _)=>x
  | _=>0
def bk:Option gT→List Bool
  | some (.r0 _ x _ _)=>x
  | _=>[]
def bm:Option gT→List (List Int)
  | some (.r0 _ _ x _)=>x
  | _=>[]
def bn:Option gT→List Int
  | some (.r0 _ _ _ x)=>x
  | _=>[]
theorem agv{x:Option gT}(h:lS x=true) :x=some (.r0 (ac x) (bk x) (bm x) (bn x)):=by
  unfold lS at h
  split at h <;> first | rfl | (cases h;done) | (rename_i y;cases y;rfl)
def Xa:aD:=bW nR (.cons (.cols [.cb,.cns .u64,.ci .i64]) (.cons (.int .i64) (.cons (.int .i64) (.cons (.int .i64) .nil)))) fun t=>[⟨Lx (.r0 (ac (ab t.1.2.1 t.1.2.2.1 t.1.2.2.2.1 t.1.2.2.2.2.1 t.2.1 t.2.2.1 t.2.2.2.1)) (bk (ab t.1.2.1 t.1.2.2.1 t.1.2.2.2.1 t.1.2.2.2.2.1 t.2.1 t.2.2.1 t.2.2.2.1)) (bm (ab t.1.2.1 t.1.2.2.1 t.1.2.2.2.1 t.1.2.2.2.2.1 t.2.1 t.2.2.1 t.2.2.2.1)) (bn (ab t.1.2.1 t.1.2.2.1 t.1.2.2.2.1 t.1.2.2.2.2.1 t.2.1 t.2.2.1 t.2.2.2.1))),[lS (ab t.1.2.1 t.1.2.2.1 t.1.2.2.2.1 t.1.2.2.2.2.1 t.2.1 t.2.2.1 t.2.2.2.1)]⟩]
theorem aa2:aM prog Xa:=aG fun t=>(aH (fun h=>agu t.1.1 t.1.2.1 t.1.2.2.1 t.1.2.2.2.1 t.1.2.2.2.2.1 t.2.1 t.2.2.1 t.2.2.2.1 (agv h)) aR)
def Xb:List aD:=Xa :: W9
theorem DX:aX prog (aZ Xb):=am aa2 ya
inductive jj where
  | r0 (a:Nat) (b:Bool) (c:List Int) (d:Nat) (e:Nat) (f:Int)
def Qy:jj→AE×aC
  | .r0 a b c d e f=>(.ret,⟨ag 15 [(4,.ptr 0 1 0 0),(5,.int .i64 ((a:Nat):Int))],[(0,.vs [.bool false b,.imm .free (.ns .u64 c) 1 1 d e,.int .i64 f])],1⟩)
theorem ait:lc Qy:=by intro x;cases x <;> (intro h;cases h)
def Qz:jj→ju
  | .r0 a b c d e f=>⟨.tup [.agg [.bool false b,.imm .free (.ns .u64 c) 1 1 d e,.int .i64 f],.int .i64 ((a:Nat):Int)],[]⟩
def Xc:List Code:=bD (bp qi)
def Xd:Nat×Bool×(List Int)×Nat×Nat×Int→aC:=fun (a,b,c,d,e,f)=>⟨ag 15 [(4,.ptr 0 1 0 0),(5,.int .i64 ((a:Nat):Int))],[(0,.vs [.bool false b,.imm .free (.ns .u64 c) 1 1 d e,.int .i64 f])],1⟩
def Ly(c:Bool)(a:List Int)(d:Int)(e:Bool)(b:List Int)(f:Int) :T ((Nat×Bool×(List Int)×Nat×Nat×Int)⊕(jj)) :=
  .need (aI 0 (List.length a) a)<|.need (aI 0 (List.length b) b)<|.need (A4 (ck c (aa 0 (List.length a) a) d (!e) (aa 0 (List.length b) b) f))<|.leaf (.inl ((rx (ck c (aa 0 (List.length a) a) d (!e) (aa 0 (List.length b) b) f)),(uD (ck c (aa 0 (List.length a) a) d (!e) (aa 0 (List.length b) b) f)),(uE (ck c (aa 0 (List.length a) a) d (!e) (aa 0 (List.length b) b) f)),(uF (ck c (aa 0 (List.length a) a) d (!e) (aa 0 (List.length b) b) f)),(uG (ck c (aa 0 (List.length a) a) d (!e) (aa 0 (List.length b) b) f)),(uH (ck c (aa 0 (List.length a) a) d (!e) (aa 0 (List.length b) b) f))))
def Xe(a:Nat)(b:Bool)(c:List Int)(d:Nat)(e:Nat)(f:Int) :T ((Empty)⊕(jj)) :=
  .leaf (.inr (.r0 a b c d e f))
def dF(a:Bool)(b:List Int)(c:Int)(d:Bool)(e:List Int)(f:Int) :Option jj:=l6 (ax ((Ly a b c d e f).run) fun (g,h,i,j,k,l) =>
  (Xe g h i j k l).run)
theorem aiu(d:Bool)(i:Lv)(b:List Int)(e:Int)(f:Bool)(j:Lv)(c:List Int)(g:Int){x:jj}(h:dF d b e f c g=some x) :ak prog qi [] [.agg [.bool false d,.imm i (.ns .u64 b) 1 1 0 (List.length b),.int .i64 e],.agg [.bool false f,.imm j (.ns .u64 c) 1 1 0 (List.length c),.int .i64 g]] (Qz x) :=
  Sg.contract true Qz (by kernel_rfl:prog.funcs[qi]? = some (FN qi)) (by kernel_rfl:(FN qi).body=some (bp qi)) (Sg.cut 3 ait (Sg.seg (C:=C0) ah DX 60 (Xc.take 3) (aL (FN qi) [] [.agg [.bool false d,.imm i (.ns .u64 b) 1 1 0 (List.length b),.int .i64 e],.agg [.bool false f,.imm j (.ns .u64 c) 1 1 0 (List.length c),.int .i64 g]]) (Ly d b e f c g) Xd Qy [⟨[],[32],[4,5]⟩] (by kernel_rfl)) (fun a=>by obtain ⟨k,l,m,n,o,p⟩:=a;exact Sg.seg (C:=C0) ah DX 60 (Xc.drop 3) (Xd (k,l,m,n,o,p)) (Xe k l m n o p) (fun a:Empty=>a.elim) Qy [⟨[],[0],[4,5]⟩] (by kernel_rfl)))
    (fun x=>by cases x with | r0 q r s t u v=>exact ⟨.inr rfl,[.agg [.bool false r,.imm .free (.ns .u64 s) 1 1 t u,.int .i64 v],.int .i64 ((q:Nat):Int)],[],by kernel_rfl,trivial,by kernel_rfl⟩) h
def A7:Option jj→Bool
  | some _=>true
  | none=>false
def Aw:Option jj→Nat
  | some (.r0 x _ _ _ _ _)=>x
  | _=>0
def Ax:Option jj→Bool
  | some (.r0 _ x _ _ _ _)=>x
  | _=>false
def Ay:Option jj→List Int
  | some (.r0 _ _ x _ _ _)=>x
  | _=>[]
def Az:Option jj→Nat
  | some (.r0 _ _ _ x _ _)=>x
  | _=>0
def AA:Option jj→Nat
  | some (.r0 _ _ _ _ x _)=>x
  | _=>0
def AB:Option jj→Int
  | some (.r0 _ _ _ _ _ x)=>x
  | _=>0
theorem aiv{x:Option jj}(h:A7 x=true) :x=some (.r0 (Aw x) (Ax x) (Ay x) (Az x) (AA x) (AB x)):=by
  unfold A7 at h
  split at h <;> first | rfl | (cases h;done) | (rename_i y;cases y;rfl)
def aa3:aD:=bW qi (.cons (.agg (.cons .bool (.cons (.ns .u64) (.cons (.int .i64) .nil)))) (.cons (.agg (.cons .bool (.cons (.ns .u64) (.cons (.int .i64) .nil)))) .nil)) fun t=>[⟨Qz (.r0 (Aw (dF t.1.1 t.1.2.1.2 t.1.2.2.1 t.2.1.1 t.2.1.2.1.2 t.2.1.2.2.1)) (Ax (dF t.1.1 t.1.2.1.2 t.1.2.2.1 t.2.1.1 t.2.1.2.1.2 t.2.1.2.2.1)) (Ay (dF t.1.1 t.1.2.1.2 t.1.2.2.1 t.2.1.1 t.2.1.2.1.2 t.2.1.2.2.1)) (Az (dF t.1.1 t.1.2.1.2 t.1.2.2.1 t.2.1.1 t.2.1.2.1.2 t.2.1.2.2.1)) (AA (dF t.1.1 t.1.2.1.2 t.1.2.2.1 t.2.1.1 t.2.1.2.1.2 t.2.1.2.2.1)) (AB (dF t.1.1 t.1.2.1.2 t.1.2.2.1 t.2.1.1 t.2.1.2.1.2 t.2.1.2.2.1))),[A7 (dF t.1.1 t.1.2.1.2 t.1.2.2.1 t.2.1.1 t.2.1.2.1.2 t.2.1.2.2.1)]⟩]
theorem ac6:aM prog aa3:=aG fun t=>(aH (fun h=>aiu t.1.1 t.1.2.1.1 t.1.2.1.2 t.1.2.2.1 t.2.1.1 t.2.1.2.1.1 t.2.1.2.1.2 t.2.1.2.2.1 (aiv h)) aR)
def aa4:List aD:=aa3 :: Xb
theorem ve:aX prog (aZ aa4):=am ac6 DX
inductive dL where
  | r0 (a:Nat) (b:Bool) (c:List Int) (d:Nat) (e:Nat) (f:Int)
def vf:dL→AE×aC
  | .r0 a b c d e f=>(.ret,⟨ag 43 [(7,.ptr 0 1 0 0),(8,.int .i64 ((a:Nat):Int))],[(0,.vs [.bool false b,.imm .free (.ns .u64 c) 1 1 d e,.int .i64 f])],1⟩)
theorem DY:lc vf:=by intro x;cases x <;> (intro h;cases h)
def F9:dL→ju
  | .r0 a b c d e f=>⟨.tup [.agg [.bool false b,.imm .free (.ns .u64 c) 1 1 d e,.int .i64 f],.int .i64 ((a:Nat):Int)],[]⟩
def ye:List Code:=bD (bp cE)
def Lz(b:Int)(c:Int)(d:Lv)(e:Bool)(f:Lv)(a:List Int)(g:Int) :Nat×Bool×Bool×(List Int)×Nat×Nat×Int→aC:=fun (h,i,j,k,l,m,n)=>⟨ag 43 [(0,.int .i64 b),(1,.int .i64 c),(4,.iptr d (.vs [.bool false e,.imm f (.ns .u64 a) 1 1 0 (List.length a),.int .i64 g]) 1 0 0),(7,.ptr 0 1 0 0),(9,.ptr 1 1 0 0),(10,.int .i64 ((h:Nat):Int))],[(0,.vs [.bool false i,.nsl,.int .i64 (0:Int)]),(1,.vs [.bool false j,.imm .free (.ns .u64 k) 1 1 l m,.int .i64 n])],2⟩
def yf(g:Int)(h:Int)(a:Nat)(b:List Bool)(c:List (List Int))(d:List Int)(e:Int)(f:Int) :T ((Nat×Bool×Bool×(List Int)×Nat×Nat×Int)⊕(dL)) :=
  .need (Nat.ble (0+a) a)<|.need (lS (ab a (aa 0 a b) (aa 0 a c) (aa 0 a d) g f e))<|.need (Nat.ble (0+a) a)<|.need (lS (ab a (aa 0 a b) (aa 0 a c) (aa 0 a d) h f e))<|.need (Nat.ble (0+(ac (ab a (aa 0 a b) (aa 0 a c) (aa 0 a d) g f e))) (ac (ab a (aa 0 a b) (aa 0 a c) (aa 0 a d) g f e)))<|.need (Nat.ble (0+(ac (ab a (aa 0 a b) (aa 0 a c) (aa 0 a d) h f e))) (ac (ab a (aa 0 a b) (aa 0 a c) (aa 0 a d) h f e)))<|.need (wP (cq (ac (ab a (aa 0 a b) (aa 0 a c) (aa 0 a d) g f e)) (aa 0 (ac (ab a (aa 0 a b) (aa 0 a c) (aa 0 a d) g f e)) (bk (ab a (aa 0 a b) (aa 0 a c) (aa 0 a d) g f e))) (aa 0 (ac (ab a (aa 0 a b) (aa 0 a c) (aa 0 a d) g f e)) (bm (ab a (aa 0 a b) (aa 0 a c) (aa 0 a d) g f e))) (aa 0 (ac (ab a (aa 0 a b) (aa 0 a c) (aa 0 a d) g f e)) (bn (ab a (aa 0 a b) (aa 0 a c) (aa 0 a d) g f e))) (ac (ab a (aa 0 a b) (aa 0 a c) (aa 0 a d) h f e)) (aa 0 (ac (ab a (aa 0 a b) (aa 0 a c) (aa 0 a d) h f e)) (bk (ab a (aa 0 a b) (aa 0 a c) (aa 0 a d) h f e))) (aa 0 (ac (ab a (aa 0 a b) (aa 0 a c) (aa 0 a d) h f e)) (bm (ab a (aa 0 a b) (aa 0 a c) (aa 0 a d) h f e))) (aa 0 (ac (ab a (aa 0 a b) (aa 0 a c) (aa 0 a d) h f e)) (bn (ab a (aa 0 a b) (aa 0 a c) (aa 0 a d) h f e)))))<|.leaf (.inl ((u7 (cq (ac (ab a (aa 0 a b) (aa 0 a c) (aa 0 a d) g f e)) (aa 0 (ac (ab a (aa 0 a b) (aa 0 a c) (aa 0 a d) g f e)) (bk (ab a (aa 0 a b) (aa 0 a c) (aa 0 a d) g f e))) (aa 0 (ac (ab a (aa 0 a b) (aa 0 a c) (aa 0 a d) g f e)) (bm (ab a (aa 0 a b) (aa 0 a c) (aa 0 a d) g f e))) (aa 0 (ac (ab a (aa 0 a b) (aa 0 a c) (aa 0 a d) g f e)) (bn (ab a (aa 0 a b) (aa 0 a c) (aa 0 a d) g f e))) (ac (ab a (aa 0 a b) (aa 0 a c) (aa 0 a d) h f e)) (aa 0 (ac (ab a (aa 0 a b) (aa 0 a c) (aa 0 a d) h f e)) (bk (ab a (aa 0 a b) (aa 0 a c) (aa 0 a d) h f e))) (aa 0 (ac (ab a (aa 0 a b) (aa 0 a c) (aa 0 a d) h f e)) (bm (ab a (aa 0 a b) (aa 0 a c) (aa 0 a d) h f e))) (aa 0 (ac (ab a (aa 0 a b) (aa 0 a c) (aa 0 a d) h f e)) (bn (ab a (aa 0 a b) (aa 0 a c) (aa 0 a d) h f e))))),false,(u9 (cq (ac (ab a (aa 0 a b) (aa 0 a c) (aa 0 a d) g f e)) (aa 0 (ac (ab a (aa 0 a b) (aa 0 a c) (aa 0 a d) g f e)) (bk (ab a (aa 0 a b) (aa 0 a c) (aa 0 a d) g f e))) (aa 0 (ac (ab a (aa 0 a b) (aa 0 a c) (aa 0 a d) g f e)) (bm (ab a (aa 0 a b) (aa 0 a c) (aa 0 a d) g f e))) (aa 0 (ac (ab a (aa 0 a b) (aa 0 a c) (aa 0 a d) g f e)) (bn (ab a (aa 0 a b) (aa 0 a c) (aa 0 a d) g f e))) (ac (ab a (aa 0 a b) (aa 0 a c) (aa 0 a d) h f e)) (aa 0 (ac (ab a (aa 0 a b) (aa 0 a c) (aa 0 a d) h f e)) (bk (ab a (aa 0 a b) (aa 0 a c) (aa 0 a d) h f e))) (aa 0 (ac (ab a (aa 0 a b) (aa 0 a c) (aa 0 a d) h f e)) (bm (ab a (aa 0 a b) (aa 0 a c) (aa 0 a d) h f e))) (aa 0 (ac (ab a (aa 0 a b) (aa 0 a c) (aa 0 a d) h f e)) (bn (ab a (aa 0 a b) (aa 0 a c) (aa 0 a d) h f e))))),(va (cq (ac (ab a (aa 0 a b) (aa 0 a c) (aa 0 a d) g f e)) (aa 0 (ac (ab a (aa 0 a b) (aa 0 a c) (aa 0 a d) g f e)) (bk (ab a (aa 0 a b) (aa 0 a c) (aa 0 a d) g f e))) (aa 0 (ac (ab a (aa 0 a b) (aa 0 a c) (aa 0 a d) g f e)) (bm (ab a (aa 0 a b) (aa 0 a c) (aa 0 a d) g f e))) (aa 0 (ac (ab a (aa 0 a b) (aa 0 a c) (aa 0 a d) g f e)) (bn (ab a (aa 0 a b) (aa 0 a c) (aa 0 a d) g f e))) (ac (ab a (aa 0 a b) (aa 0 a c) (aa 0 a d) h f e)) (aa 0 (ac (ab a (aa 0 a b) (aa 0 a c) (aa 0 a d) h f e)) (bk (ab a (aa 0 a b) (aa 0 a c) (aa 0 a d) h f e))) (aa 0 (ac (ab a (aa 0 a b) (aa 0 a c) (aa 0 a d) h f e)) (bm (ab a (aa 0 a b) (aa 0 a c) (aa 0 a d) h f e))) (aa 0 (ac (ab a (aa 0 a b) (aa 0 a c) (aa 0 a d) h f e)) (bn (ab a (aa 0 a b) (aa 0 a c) (aa 0 a d) h f e))))),(vb (cq (ac (ab a (aa 0 a b) (aa 0 a c) (aa 0 a d) g f e)) (aa 0 (ac (ab a (aa 0 a b) (aa 0 a c) (aa 0 a d) g f e)) (bk (ab a (aa 0 a b) (aa 0 a c) (aa 0 a d) g f e))) (aa 0 (ac (ab a (aa 0 a b) (aa 0 a c) (aa 0 a d) g f e)) (bm (ab a (aa 0 a b) (aa 0 a c) (aa 0 a d) g f e))) (aa 0 (ac (ab a (aa 0 a b) (aa 0 a c) (aa 0 a d) g f e)) (bn (ab a (aa 0 a b) (aa 0 a c) (aa 0 a d) g f e))) (ac (ab a (aa 0 a b) (aa 0 a c) (aa 0 a d) h f e)) (aa 0 (ac (ab a (aa 0 a b) (aa 0 a c) (aa 0 a d) h f e)) (bk (ab a (aa 0 a b) (aa 0 a c) (aa 0 a d) h f e))) (aa 0 (ac (ab a (aa 0 a b) (aa 0 a c) (aa 0 a d) h f e)) (bm (ab a (aa 0 a b) (aa 0 a c) (aa 0 a d) h f e))) (aa 0 (ac (ab a (aa 0 a b) (aa 0 a c) (aa 0 a d) h f e)) (bn (ab a (aa 0 a b) (aa 0 a c) (aa 0 a d) h f e))))),(vc (cq (ac (ab a (aa 0 a b) (aa 0 a c) (aa 0 a d) g f e)) (aa 0 (ac (ab a (aa 0 a b) (aa 0 a c) (aa 0 a d) g f e)) (bk (ab a (aa 0 a b) (aa 0 a c) (aa 0 a d) g f e))) (aa 0 (ac (ab a (aa 0 a b) (aa 0 a c) (aa 0 a d) g f e)) (bm (ab a (aa 0 a b) (aa 0 a c) (aa 0 a d) g f e))) (aa 0 (ac (ab a (aa 0 a b) (aa 0 a c) (aa 0 a d) g f e)) (bn (ab a (aa 0 a b) (aa 0 a c) (aa 0 a d) g f e))) (ac (ab a (aa 0 a b) (aa 0 a c) (aa 0 a d) h f e)) (aa 0 (ac (ab a (aa 0 a b) (aa 0 a c) (aa 0 a d) h f e)) (bk (ab a (aa 0 a b) (aa 0 a c) (aa 0 a d) h f e))) (aa 0 (ac (ab a (aa 0 a b) (aa 0 a c) (aa 0 a d) h f e)) (bm (ab a (aa 0 a b) (aa 0 a c) (aa 0 a d) h f e))) (aa 0 (ac (ab a (aa 0 a b) (aa 0 a c) (aa 0 a d) h f e)) (bn (ab a (aa 0 a b) (aa 0 a c) (aa 0 a d) h f e))))),(vd (cq (ac (ab a (aa 0 a b) (aa 0 a c) (aa 0 a d) g f e)) (aa 0 (ac (ab a (aa 0 a b) (aa 0 a c) (aa 0 a d) g f e)) (bk (ab a (aa 0 a b) (aa 0 a c) (aa 0 a d) g f e))) (aa 0 (ac (ab a (aa 0 a b) (aa 0 a c) (aa 0 a d) g f e)) (bm (ab a (aa 0 a b) (aa 0 a c) (aa 0 a d) g f e))) (aa 0 (ac (ab a (aa 0 a b) (aa 0 a c) (aa 0 a d) g f e)) (bn (ab a (aa 0 a b) (aa 0 a c) (aa 0 a d) g f e))) (ac (ab a (aa 0 a b) (aa 0 a c) (aa 0 a d) h f e)) (aa 0 (ac (ab a (aa 0 a b) (aa 0 a c) (aa 0 a d) h f e)) (bk (ab a (aa 0 a b) (aa 0 a c) (aa 0 a d) h f e))) (aa 0 (ac (ab a (aa 0 a b) (aa 0 a c) (aa 0 a d) h f e)) (bm (ab a (aa 0 a b) (aa 0 a c) (aa 0 a d) h f e))) (aa 0 (ac (ab a (aa 0 a b) (aa 0 a c) (aa 0 a d) h f e)) (bn (ab a (aa 0 a b) (aa 0 a c) (aa 0 a d) h f e)))))))
def LA(b:Lv)(c:Bool)(d:Lv)(a:List Int)(e:Int)(f:Nat)(g:Bool)(h:Bool)(i:List Int)(j:Nat)(k:Nat)(l:Int)(m:Bool) :aC:=⟨ag 43 [(4,.iptr b (.vs [.bool false c,.imm d (.ns .u64 a) 1 1 0 (List.length a),.int .i64 e]) 1 0 0),(7,.ptr 0 1 0 0),(9,.ptr 1 1 0 0),(10,.int .i64 ((f:Nat):Int)),(35,.bool false m)],[(0,.vs [.bool false g,.nsl,.int .i64 (0:Int)]),(1,.vs [.bool false h,.imm .free (.ns .u64 i) 1 1 j k,.int .i64 l])],2⟩
def yg(a:Int)(b:Int)(c:Nat) :T ((Bool)⊕(dL)) :=
  .ask (((c:Nat):Int) != (0:Int))
    (.leaf (.inl true))
    (.leaf (.inl (a != b)))
def LB:Nat×Bool×(List Int)×Nat×Nat×Int→aC:=fun (a,b,c,d,e,f)=>⟨ag 43 [(7,.ptr 0 1 0 0),(8,.int .i64 ((a:Nat):Int))],[(0,.vs [.bool false b,.imm .free (.ns .u64 c) 1 1 d e,.int .i64 f])],1⟩
def yh(g:Bool)(a:List Int)(h:Int)(i:Nat)(e:Bool)(b:List Int)(c:Nat)(d:Nat)(f:Int)(j:Bool) :T ((Nat×Bool×(List Int)×Nat×Nat×Int)⊕(dL)) :=
  .ask j
    (.leaf (.inr (.r0 i e b c d f)))
    (.need (aI c d b)<|.need (aI 0 (List.length a) a)<|.need (A7 (dF e (aa c d b) f g (aa 0 (List.length a) a) h))<|.leaf (.inl ((Aw (dF e (aa c d b) f g (aa 0 (List.length a) a) h)),(Ax (dF e (aa c d b) f g (aa 0 (List.length a) a) h)),(Ay (dF e (aa c d b) f g (aa 0 (List.length a) a) h)),(Az (dF e (aa c d b) f g (aa 0 (List.length a) a) h)),(AA (dF e (aa c d b) f g (aa 0 (List.length a) a) h)),(AB (dF e (aa c d b) f g (aa 0 (List.length a) a) h)))))
def LC(a:Nat)(b:Bool)(c:List Int)(d:Nat)(e:Nat)(f:Int) :T ((Empty)⊕(dL)) :=
  .leaf (.inr (.r0 a b c d e f))
def cw(a:Int)(b:Int)(d:Nat)(e:List Bool)(f:List (List Int))(g:List Int)(h:Int)(i:Int)(j:Bool)(k:List Int)(l:Int) :Option dL:=l6 (ax ((yf a b d e f g h i).run) fun (c,y,m,n,o,p,q) =>
  ax ((yg a b c).run) fun r =>
  ax ((yh j k l c m n o p q r).run) fun (s,t,u,v,w,x) =>
  (LC s t u v w x).run)
theorem aa5(e:Int)(f:Int)(y:Lv)(z:Lv)(g:Nat)(l:List Bool)(m:List (List Int))(n:List Int)(A:Lv)(o:Int)(p:Int)(B:Lv)(q:List Nat)(i:Lv)(c:Bool)(j:Lv)(b:List Int)(d:Int){x:dL}(h:cw e f g l m n o p c b d=some x) :ak prog cE [] [.int .i64 e,.int .i64 f,.iptr y (.vs [.imm z (.cols g [.cb l,.cns .u64 m,.ci .i64 n]) 3 3 0 g]) 1 0 0,.iptr A (.vs [.int .i64 o,.int .i64 p,.imm B (.fl q) 1 1 0 (List.length q)]) 1 0 0,.iptr i (.vs [.bool false c,.imm j (.ns .u64 b) 1 1 0 (List.length b),.int .i64 d]) 1 0 0] (F9 x) :=
  Sg.contract false F9 (by kernel_rfl:prog.funcs[cE]? = some (FN cE)) (by kernel_rfl:(FN cE).body=some (bp cE)) (Sg.cut 2 DY (Sg.seg (C:=C0) ah ve 60 (ye.take 2) (aL (FN cE) [] [.int .i64 e,.int .i64 f,.iptr y (.vs [.imm z (.cols g [.cb l,.cns .u64 m,.ci .i64 n]) 3 3 0 g]) 1 0 0,.iptr A (.vs [.int .i64 o,.int .i64 p,.imm B (.fl q) 1 1 0 (List.length q)]) 1 0 0,.iptr i (.vs [.bool false c,.imm j (.ns .u64 b) 1 1 0 (List.length b),.int .i64 d]) 1 0 0]) (yf e f g l m n o p) (Lz e f i c j b d) vf [⟨[],[0,320],[0,1,4,7,9,10]⟩] (by kernel_rfl)) (fun a=>by obtain ⟨k,w,r,s,t,u,v⟩:=a;exact Sg.cut 1 DY (Sg.seg (C:=C0) ah ve 60 ((ye.drop 2).take 1) (Lz e f i c j b d (k,w,r,s,t,u,v)) (yg e f k) (LA i c j b d k w r s t u v) vf [⟨[],[0,1],[4,7,9,10,35]⟩,⟨[],[0,1],[4,7,9,10,35]⟩] (by kernel_rfl)) (fun D=>by exact Sg.cut 2 DY (Sg.seg (C:=C0) ah ve 60 (((ye.drop 2).drop 1).take 2) (LA i c j b d k w r s t u v D) (yh c b d k r s t u v D) LB vf [⟨[],[0],[7,8]⟩,⟨[],[0],[7,8]⟩] (by kernel_rfl)) (fun a=>by obtain ⟨E,F,G,H,I,J⟩:=a;exact Sg.seg (C:=C0) ah ve 60 (((ye.drop 2).drop 1).drop 2) (LB (E,F,G,H,I,J)) (LC E F G H I J) (fun a:Empty=>a.elim) vf [⟨[],[0],[7,8]⟩] (by kernel_rfl)))))
    (fun x=>by cases x with | r0 K L M N O P=>exact ⟨.inr rfl,[.agg [.bool false L,.imm .free (.ns .u64 M) 1 1 N O,.int .i64 P],.int .i64 ((K:Nat):Int)],[],by kernel_rfl,trivial,by kernel_rfl⟩) h
def sU:Option dL→Bool
  | some _=>true
  | none=>false
def mH:Option dL→Nat
  | some (.r0 x _ _ _ _ _)=>x
  | _=>0
def t4:Option dL→Bool
  | some (.r0 _ x _ _ _ _)=>x
  | _=>false
def pN:Option dL→List Int
  | some (.r0 _ _ x _ _ _)=>x
  | _=>[]
def pO:Option dL→Nat
  | some (.r0 _ _ _ x _ _)=>x
  | _=>0
def pP:Option dL→Nat
  | some (.r0 _ _ _ _ x _)=>x
  | _=>0
def ua:Option dL→Int
  | some (.r0 _ _ _ _ _ x)=>x
  | _=>0
theorem aa6{x:Option dL}(h:sU x=true) :x=some (.r0 (mH x) (t4 x) (pN x) (pO x) (pP x) (ua x)):=by
  unfold sU at h
  split at h <;> first | rfl | (cases h;done) | (rename_i y;cases y;rfl)
def OY:aD:=bW cE (.cons (.int .i64) (.cons (.int .i64) (.cons (.ivs (.cons (.cols [.cb,.cns .u64,.ci .i64]) .nil) 1 0 0) (.cons (.ivs (.cons (.int .i64) (.cons (.int .i64) (.cons .fl .nil))) 1 0 0) (.cons (.ivs (.cons .bool (.cons (.ns .u64) (.cons (.int .i64) .nil))) 1 0 0) .nil))))) fun t=>[⟨F9 (.r0 (mH (cw t.1 t.2.1 t.2.2.1.2.1.2.1 t.2.2.1.2.1.2.2.1 t.2.2.1.2.1.2.2.2.1 t.2.2.1.2.1.2.2.2.2.1 t.2.2.2.1.2.1 t.2.2.2.1.2.2.1 t.2.2.2.2.1.2.1 t.2.2.2.2.1.2.2.1.2 t.2.2.2.2.1.2.2.2.1)) (t4 (cw t.1 t.2.1 t.2.2.1.2.1.2.1 t.2.2.1.2.1.2.2.1 t.2.2.1.2.1.2.2.2.1 t.2.2.1.2.1.2.2.2.2.1 t.2.2.2.1.2.1 t.2.2.2.1.2.2.1 t.2.2.2.2.1.2.1 t.2.2.2.2.1.2.2.1.2 t.2.2.2.2.1.2.2.2.1)) (pN (cw t.1 t.2.1 t.2.2.1.2.1.2.1 t.2.2.1.2.1.2.2.1 t.2.2.1.2.1.2.2.2.1 t.2.2.1.2.1.2.2.2.2.1 t.2.2.2.1.2.1 t.2.2.2.1.2.2.1 t.2.2.2.2.1.2.1 t.2.2.2.2.1.2.2.1.2 t.2.2.2.2.1.2.2.2.1)) (pO (cw t.1 t.2.1 t.2.2.1.2.1.2.1 t.2.2.1.2.1.2.2.1 t.2.2.1.2.1.2.2.2.1 t.2.2.1.2.1.2.2.2.2.1 t.2.2.2.1.2.1 t.2.2.2.1.2.2.1 t.2.2.2.2.1.2.1 t.2.2.2.2.1.2.2.1.2 t.2.2.2.2.1.2.2.2.1)) (pP (cw t.1 t.2.1 t.2.2.1.2.1.2.1 t.2.2.1.2.1.2.2.1 t.2.2.1.2.1.2.2.2.1 t.2.2.1.2.1.2.2.2.2.1 t.2.2.2.1.2.1 t.2.2.2.1.2.2.1 t.2.2.2.2.1.2.1 t.2.2.2.2.1.2.2.1.2 t.2.2.2.2.1.2.2.2.1)) (ua (cw t.1 t.2.1 t.2.2.1.2.1.2.1 t.2.2.1.2.1.2.2.1 t.2.2.1.2.1.2.2.2.1 t.2.2.1.2.1.2.2.2.2.1 t.2.2.2.1.2.1 t.2.2.2.1.2.2.1 t.2.2.2.2.1.2.1 t.2.2.2.2.1.2.2.1.2 t.2.2.2.2.1.2.2.2.1))),[sU (cw t.1 t.2.1 t.2.2.1.2.1.2.1 t.2.2.1.2.1.2.2.1 t.2.2.1.2.1.2.2.2.1 t.2.2.1.2.1.2.2.2.2.1 t.2.2.2.1.2.1 t.2.2.2.1.2.2.1 t.2.2.2.2.1.2.1 t.2.2.2.2.1.2.2.1.2 t.2.2.2.2.1.2.2.2.1)]⟩]
theorem UR:aM prog OY:=aG fun t=>(aH (fun h=>aa5 t.1 t.2.1 t.2.2.1.1 t.2.2.1.2.1.1 t.2.2.1.2.1.2.1 t.2.2.1.2.1.2.2.1 t.2.2.1.2.1.2.2.2.1 t.2.2.1.2.1.2.2.2.2.1 t.2.2.2.1.1 t.2.2.2.1.2.1 t.2.2.2.1.2.2.1 t.2.2.2.1.2.2.2.1.1 t.2.2.2.1.2.2.2.1.2 t.2.2.2.2.1.1 t.2.2.2.2.1.2.1 t.2.2.2.2.1.2.2.1.1 t.2.2.2.2.1.2.2.1.2 t.2.2.2.2.1.2.2.2.1 (aa6 h)) aR)
def OZ:List aD:=OY :: aa4
theorem eI:aX prog (aZ OZ):=am UR ve
end
end Go.Plb.Seat
namespace Go.Plb.Seat
open Go Go.Plb
set_option linter.unusedVariables false
set_option maxRecDepth 100000
noncomputable section
inductive aB where
  | r0 (a:Nat) (b:Bool) (c:List Int) (d:Nat) (e:Nat) (f:Int)
def bg:aB→AE×aC
  | .r0 a b c d e f=>(.ret,⟨ag 46 [(4,.ptr 0 1 0 0),(5,.int .i64 ((a:Nat):Int))],[(0,.vs [.bool false b,.imm .free (.ns .u64 c) 1 1 d e,.int .i64 f])],1⟩)
theorem bo:lc bg:=by intro x;cases x <;> (intro h;cases h)
theorem j0(id:Nat) :qp id bg:=by intro x;cases x <;> (intro h;cases h)
def kG:aB→ju
  | .r0 a b c d e f=>⟨.tup [.agg [.bool false b,.imm .free (.ns .u64 c) 1 1 d e,.int .i64 f],.int .i64 ((a:Nat):Int)],[]⟩
def fG:List Code:=bD (bp cW)
def pQ(d:Int)(e:Int)(f:Lv)(g:Lv)(a:Nat)(h:List Bool)(i:List (List Int))(j:List Int)(k:Lv)(l:Int)(m:Int)(n:Lv)(b:List Nat)(o:Lv)(p:Bool)(q:Lv)(c:List Int)(r:Int)(s:Bool) :aC:=⟨ag 46 [(1,.fn (.func cE) [] [.iptr f (.vs [.imm g (.cols a [.cb h,.cns .u64 i,.ci .i64 j]) 3 3 0 a]) 1 0 0,.iptr k (.vs [.int .i64 l,.int .i64 m,.imm n (.fl b) 1 1 0 (List.length b)]) 1 0 0,.iptr o (.vs [.bool false p,.imm q (.ns .u64 c) 1 1 0 (List.length c),.int .i64 r]) 1 0 0]),(2,.ptr 0 1 0 0),(4,.ptr 1 1 0 0)],[(0,.vs [.int .i64 d,.int .i64 e]),(1,.vs [.bool false s,.nsl,.int .i64 (0:Int)])],2⟩
def pe:T ((Bool)⊕(aB)) :=
  .leaf (.inl false)
def di:List Code:=bD (Mo (((fG.drop 1)).headD .skip))
def pR(a:Int)(e:Int)(f:Lv)(g:Lv)(b:Nat)(h:List Bool)(i:List (List Int))(j:List Int)(k:Lv)(l:Int)(m:Int)(n:Lv)(c:List Nat)(o:Lv)(p:Bool)(q:Lv)(d:List Int)(r:Int)(s:Bool)(_:Unit) :aC:=⟨ag 46 [(1,.fn (.func cE) [] [.iptr f (.vs [.imm g (.cols b [.cb h,.cns .u64 i,.ci .i64 j]) 3 3 0 b]) 1 0 0,.iptr k (.vs [.int .i64 l,.int .i64 m,.imm n (.fl c) 1 1 0 (List.length c)]) 1 0 0,.iptr o (.vs [.bool false p,.imm q (.ns .u64 d) 1 1 0 (List.length d),.int .i64 r]) 1 0 0]),(2,.ptr 0 1 0 0),(4,.ptr 1 1 0 0),(6,.nsl),(7,.int .i64 (0:Int)),(13,.int .i64 a),(14,.int .i64 (0:Int))],[(0,.vs [.int .i64 a,.int .i64 e]),(1,.vs [.bool false s,.nsl,.int .i64 (0:Int)])],2⟩
def pf:T ((Unit)⊕(aB)) :=
  .leaf (.inl ())
def dj(a:Int)(e:Int)(f:Lv)(g:Lv)(b:Nat)(h:List Bool)(i:List (List Int))(j:List Int)(k:Lv)(l:Int)(m:Int)(n:Lv)(c:List Nat)(o:Lv)(p:Bool)(q:Lv)(d:List Int)(r:Int)(s:Bool) :Nat×Nat×Nat×Nat×Nat×(List Bool)×(List (List Int))×(List Int)→aC:=fun (t,u,v,w,x,y,z,A)=>⟨ag 46 [(1,.fn (.func cE) [] [.iptr f (.vs [.imm g (.cols b [.cb h,.cns .u64 i,.ci .i64 j]) 3 3 0 b]) 1 0 0,.iptr k (.vs [.int .i64 l,.int .i64 m,.imm n (.fl c) 1 1 0 (List.length c)]) 1 0 0,.iptr o (.vs [.bool false p,.imm q (.ns .u64 d) 1 1 0 (List.length d),.int .i64 r]) 1 0 0]),(2,.ptr 0 1 0 0),(4,.ptr 1 1 0 0),(6,.sl 2 3 3 0 t u),(7,.int .i64 ((v:Nat):Int)),(13,.int .i64 a),(14,.int .i64 ((w:Nat):Int))],[(0,.vs [.int .i64 a,.int .i64 e]),(1,.vs [.bool false s,.nsl,.int .i64 (0:Int)]),(2,.cols x [.cb y,.cns .u64 z,.ci .i64 A])],3⟩
def bG(a:Bool) :Nat×Nat×Nat×Nat×(List Bool)×(List (List Int))×(List Int)→aC:=fun (b,c,d,e,f,g,h)=>⟨ag 46 [(4,.ptr 0 1 0 0),(6,.sl 1 3 3 0 b c),(7,.int .i64 ((d:Nat):Int))],[(0,.vs [.bool false a,.nsl,.int .i64 (0:Int)]),(1,.cols e [.cb f,.cns .u64 g,.ci .i64 h])],2⟩
def dk:List Code:=bD (bE ((((di.drop 3).take 1)).headD .skip))
def pg(a:Int)(e:Int)(f:Lv)(g:Lv)(b:Nat)(h:List Bool)(i:List (List Int))(j:List Int)(k:Lv)(l:Int)(m:Int)(n:Lv)(c:List Nat)(o:Lv)(p:Bool)(q:Lv)(d:List Int)(r:Int)(s:Bool)(t:Nat)(u:Nat)(v:Nat)(w:Nat)(x:Nat)(y:List Bool)(z:List (List Int))(A:List Int)(_:Unit) :aC:=⟨ag 46 [(1,.fn (.func cE) [] [.iptr f (.vs [.imm g (.cols b [.cb h,.cns .u64 i,.ci .i64 j]) 3 3 0 b]) 1 0 0,.iptr k (.vs [.int .i64 l,.int .i64 m,.imm n (.fl c) 1 1 0 (List.length c)]) 1 0 0,.iptr o (.vs [.bool false p,.imm q (.ns .u64 d) 1 1 0 (List.length d),.int .i64 r]) 1 0 0]),(2,.ptr 0 1 0 0),(4,.ptr 1 1 0 0),(6,.sl 2 3 3 0 t u),(7,.int .i64 ((v:Nat):Int)),(13,.int .i64 a),(14,.int .i64 ((w:Nat):Int))],[(0,.vs [.int .i64 a,.int .i64 e]),(1,.vs [.bool false s,.nsl,.int .i64 (0:Int)]),(2,.cols x [.cb y,.cns .u64 z,.ci .i64 A])],3⟩
def fH(a:Int)(b:Nat)(c:Nat)(d:Nat)(e:Nat)(f:Nat)(g:List Bool)(h:List (List Int))(i:List Int) :T ((Unit)⊕((Nat×Nat×Nat×Nat×(List Bool)×(List (List Int))×(List Int))⊕(aB))) :=
  .ask (decide (((e:Nat):Int) < a))
    (.leaf (.inl ()))
    (.leaf (.inr (.inl (b,c,d,f,g,h,i))))
def cg(a:Int)(e:Int)(f:Lv)(g:Lv)(b:Nat)(h:List Bool)(i:List (List Int))(j:List Int)(k:Lv)(l:Int)(m:Int)(n:Lv)(c:List Nat)(o:Lv)(p:Bool)(q:Lv)(d:List Int)(r:Int)(s:Bool)(t:Nat) :Nat×Nat×Nat×Nat×(List Bool)×(List (List Int))×(List Int)→aC:=fun (u,v,w,x,y,z,A)=>⟨ag 46 [(1,.fn (.func cE) [] [.iptr f (.vs [.imm g (.cols b [.cb h,.cns .u64 i,.ci .i64 j]) 3 3 0 b]) 1 0 0,.iptr k (.vs [.int .i64 l,.int .i64 m,.imm n (.fl c) 1 1 0 (List.length c)]) 1 0 0,.iptr o (.vs [.bool false p,.imm q (.ns .u64 d) 1 1 0 (List.length d),.int .i64 r]) 1 0 0]),(2,.ptr 0 1 0 0),(4,.ptr 1 1 0 0),(6,.sl 2 3 3 0 u v),(7,.int .i64 ((w:Nat):Int)),(13,.int .i64 a),(14,.int .i64 ((t:Nat):Int))],[(0,.vs [.int .i64 a,.int .i64 e]),(1,.vs [.bool false s,.nsl,.int .i64 (0:Int)]),(2,.cols x [.cb y,.cns .u64 z,.ci .i64 A])],3⟩
def ee:List Code:=bD (inBlock ((((dk.drop 2).take 1)).headD .skip))
def ph(a:Int)(b:Int)(g:Lv)(h:Lv)(c:Nat)(i:List Bool)(j:List (List Int))(k:List Int)(l:Lv)(m:Int)(n:Int)(o:Lv)(d:List Nat)(p:Lv)(q:Bool)(r:Lv)(e:List Int)(s:Int)(t:Bool)(u:Nat)(v:Nat)(w:Nat)(f:Nat)(x:Nat)(y:List Bool)(z:List (List Int))(A:List Int)(_:Unit) :aC:=⟨ag 46 [(1,.fn (.func cE) [] [.iptr g (.vs [.imm h (.cols c [.cb i,.cns .u64 j,.ci .i64 k]) 3 3 0 c]) 1 0 0,.iptr l (.vs [.int .i64 m,.int .i64 n,.imm o (.fl d) 1 1 0 (List.length d)]) 1 0 0,.iptr p (.vs [.bool false q,.imm r (.ns .u64 e) 1 1 0 (List.length e),.int .i64 s]) 1 0 0]),(2,.ptr 0 1 0 0),(4,.ptr 1 1 0 0),(6,.sl 2 3 3 0 u v),(7,.int .i64 ((w:Nat):Int)),(8,.int .i64 ((f:Nat):Int)),(13,.int .i64 a),(14,.int .i64 ((f:Nat):Int)),(18,.int .i64 b),(19,.int .i64 (0:Int))],[(0,.vs [.int .i64 a,.int .i64 b]),(1,.vs [.bool false t,.nsl,.int .i64 (0:Int)]),(2,.cols x [.cb y,.cns .u64 z,.ci .i64 A])],3⟩
def pj:T ((Unit)⊕((Nat×Nat×Nat×Nat×(List Bool)×(List (List Int))×(List Int))⊕((Nat×Nat×Nat×Nat×(List Bool)×(List (List Int))×(List Int))⊕(aB)))) :=
  .leaf (.inl ())
def dl(a:Int)(b:Int)(g:Lv)(h:Lv)(c:Nat)(i:List Bool)(j:List (List Int))(k:List Int)(l:Lv)(m:Int)(n:Int)(o:Lv)(d:List Nat)(p:Lv)(q:Bool)(r:Lv)(e:List Int)(s:Int)(t:Bool)(f:Nat) :Nat×Nat×Nat×Nat×Nat×(List Bool)×(List (List Int))×(List Int)→aC:=fun (u,v,w,x,y,z,A,B)=>⟨ag 46 [(1,.fn (.func cE) [] [.iptr g (.vs [.imm h (.cols c [.cb i,.cns .u64 j,.ci .i64 k]) 3 3 0 c]) 1 0 0,.iptr l (.vs [.int .i64 m,.int .i64 n,.imm o (.fl d) 1 1 0 (List.length d)]) 1 0 0,.iptr p (.vs [.bool false q,.imm r (.ns .u64 e) 1 1 0 (List.length e),.int .i64 s]) 1 0 0]),(2,.ptr 0 1 0 0),(4,.ptr 1 1 0 0),(6,.sl 2 3 3 0 u v),(7,.int .i64 ((w:Nat):Int)),(8,.int .i64 ((f:Nat):Int)),(13,.int .i64 a),(14,.int .i64 ((f:Nat):Int)),(18,.int .i64 b),(19,.int .i64 ((x:Nat):Int))],[(0,.vs [.int .i64 a,.int .i64 b]),(1,.vs [.bool false t,.nsl,.int .i64 (0:Int)]),(2,.cols y [.cb z,.cns .u64 A,.ci .i64 B])],3⟩
def ef(a:Int)(e:Int)(f:Lv)(g:Lv)(b:Nat)(h:List Bool)(i:List (List Int))(j:List Int)(k:Lv)(l:Int)(m:Int)(n:Lv)(c:List Nat)(o:Lv)(p:Bool)(q:Lv)(d:List Int)(r:Int)(s:Bool)(t:Nat) :Nat×Nat×Nat×Nat×(List Bool)×(List (List Int))×(List Int)→aC:=fun (u,v,w,x,y,z,A)=>⟨ag 46 [(1,.fn (.func cE) [] [.iptr f (.vs [.imm g (.cols b [.cb h,.cns .u64 i,.ci .i64 j]) 3 3 0 b]) 1 0 0,.iptr k (.vs [.int .i64 l,.int .i64 m,.imm n (.fl c) 1 1 0 (List.length c)]) 1 0 0,.iptr o (.vs [.bool false p,.imm q (.ns .u64 d) 1 1 0 (List.length d),.int .i64 r]) 1 0 0]),(2,.ptr 0 1 0 0),(4,.ptr 1 1 0 0),(6,.sl 2 3 3 0 u v),(7,.int .i64 ((w:Nat):Int)),(13,.int .i64 a),(14,.int .i64 ((t:Nat):Int))],[(0,.vs [.int .i64 a,.int .i64 e]),(1,.vs [.bool false s,.nsl,.int .i64 (0:Int)]),(2,.cols x [.cb y,.cns .u64 z,.ci .i64 A])],3⟩
def jH:List Code:=bD (bE ((((ee.drop 2).take 1)).headD .skip))
def pk(b:Int)(c:Int)(h:Lv)(i:Lv)(d:Nat)(j:List Bool)(k:List (List Int))(l:List Int)(m:Lv)(n:Int)(o:Int)(p:Lv)(e:List Nat)(q:Lv)(r:Bool)(s:Lv)(f:List Int)(t:Int)(u:Bool)(g:Nat)(v:Nat) :Nat×Nat×(List Bool)×(List (List Int))×(List Int)→aC:=fun (a,w,x,y,z)=>⟨ag 46 [(1,.fn (.func cE) [] [.iptr h (.vs [.imm i (.cols d [.cb j,.cns .u64 k,.ci .i64 l]) 3 3 0 d]) 1 0 0,.iptr m (.vs [.int .i64 n,.int .i64 o,.imm p (.fl e) 1 1 0 (List.length e)]) 1 0 0,.iptr q (.vs [.bool false r,.imm s (.ns .u64 f) 1 1 0 (List.length f),.int .i64 t]) 1 0 0]),(2,.ptr 0 1 0 0),(4,.ptr 1 1 0 0),(6,.sl 2 3 3 0 a a),(7,.int .i64 ((w:Nat):Int)),(8,.int .i64 ((g:Nat):Int)),(13,.int .i64 b),(14,.int .i64 ((g:Nat):Int)),(18,.int .i64 c),(19,.int .i64 ((v:Nat):Int))],[(0,.vs [.int .i64 b,.int .i64 c]),(1,.vs [.bool false u,.nsl,.int .i64 (0:Int)]),(2,.cols a [.cb x,.cns .u64 y,.ci .i64 z])],3⟩
def eh(s:Int)(a:Nat)(d:List Bool)(e:List (List Int))(f:List Int)(g:Int)(h:Int)(q:List Nat)(i:Bool)(b:List Int)(j:Int)(k:Nat)(l:Nat)(r:Nat)(t:Nat)(c:Nat)(m:Nat)(n:List Bool)(o:List (List Int))(p:List Int) :T ((Nat×Nat×(List Bool)×(List (List Int))×(List Int))⊕((Nat×Nat×Nat×Nat×(List Bool)×(List (List Int))×(List Int))⊕((Nat×Nat×Nat×Nat×(List Bool)×(List (List Int))×(List Int))⊕((Nat×Nat×Nat×Nat×(List Bool)×(List (List Int))×(List Int))⊕(aB))))) :=
  .ask (decide (((c:Nat):Int) < s))
    (.need (Nat.ble (0+a) a)<|.need (aI 0 (List.length q) q)<|.need (aI 0 (List.length b) b)<|.need (sU (cw ((k:Nat):Int) ((c:Nat):Int) a (aa 0 a d) (aa 0 a e) (aa 0 a f) g h i (aa 0 (List.length b) b) j))<|.ask ((((mH (cw ((k:Nat):Int) ((c:Nat):Int) a (aa 0 a d) (aa 0 a e) (aa 0 a f) g h i (aa 0 (List.length b) b) j)):Nat):Int) != (0:Int))
      (.leaf (.inr (.inr (.inr (.inl (l,r,(mH (cw ((k:Nat):Int) ((c:Nat):Int) a (aa 0 a d) (aa 0 a e) (aa 0 a f) g h i (aa 0 (List.length b) b) j)),m,n,o,p))))))
      (.need (r6 ((l+1) * 40) 140737488355328)<|.need (r6 (l+1) 9223372036854775807)<|.need (r6 3 3)<|.need (r6 l m)<|.need (decide ((pO (cw ((k:Nat):Int) ((c:Nat):Int) a (aa 0 a d) (aa 0 a e) (aa 0 a f) g h i (aa 0 (List.length b) b) j))+(pP (cw ((k:Nat):Int) ((c:Nat):Int) a (aa 0 a d) (aa 0 a e) (aa 0 a f) g h i (aa 0 (List.length b) b) j))≤List.length (pN (cw ((k:Nat):Int) ((c:Nat):Int) a (aa 0 a d) (aa 0 a e) (aa 0 a f) g h i (aa 0 (List.length b) b) j))))<|.leaf (.inl ((l+1),(mH (cw ((k:Nat):Int) ((c:Nat):Int) a (aa 0 a d) (aa 0 a e) (aa 0 a f) g h i (aa 0 (List.length b) b) j)),((List.take l n) ++ [(t4 (cw ((k:Nat):Int) ((c:Nat):Int) a (aa 0 a d) (aa 0 a e) (aa 0 a f) g h i (aa 0 (List.length b) b) j))]),((List.take l o) ++ [(List.take (pP (cw ((k:Nat):Int) ((c:Nat):Int) a (aa 0 a d) (aa 0 a e) (aa 0 a f) g h i (aa 0 (List.length b) b) j)) (List.drop (pO (cw ((k:Nat):Int) ((c:Nat):Int) a (aa 0 a d) (aa 0 a e) (aa 0 a f) g h i (aa 0 (List.length b) b) j)) (pN (cw ((k:Nat):Int) ((c:Nat):Int) a (aa 0 a d) (aa 0 a e) (aa 0 a f) g h i (aa 0 (List.length b) b) j))))]),((List.take l p) ++ [(ua (cw ((k:Nat):Int) ((c:Nat):Int) a (aa 0 a d) (aa 0 a e) (aa 0 a f) g h i (aa 0 (List.length b) b) j))])))))
    (.leaf (.inr (.inl (l,r,t,m,n,o,p))))
def pm(b:Nat)(a:Nat)(c:Nat)(d:List Bool)(e:List (List Int))(f:List Int) :T ((Nat×Nat×Nat×Nat×Nat×(List Bool)×(List (List Int))×(List Int))⊕((Nat×Nat×Nat×Nat×(List Bool)×(List (List Int))×(List Int))⊕((Nat×Nat×Nat×Nat×(List Bool)×(List (List Int))×(List Int))⊕((Nat×Nat×Nat×Nat×(List Bool)×(List (List Int))×(List Int))⊕(aB))))) :=
  .need (dP .i64 (((b+1):Nat):Int))<|.leaf (.inl (a,a,c,(b+1),a,d,e,f))
def jI(b:Int)(c:Nat)(d:List Bool)(e:List (List Int))(f:List Int)(g:Int)(h:Int)(i:List Nat)(j:Bool)(k:List Int)(l:Int)(m:Nat) :Nat×Nat×Nat×Nat×Nat×(List Bool)×(List (List Int))×(List Int)→Option ((Nat×Nat×Nat×Nat×Nat×(List Bool)×(List (List Int))×(List Int))⊕((Nat×Nat×Nat×Nat×(List Bool)×(List (List Int))×(List Int))⊕((Nat×Nat×Nat×Nat×(List Bool)×(List (List Int))×(List Int))⊕((Nat×Nat×Nat×Nat×(List Bool)×(List (List Int))×(List Int))⊕(aB))))):=fun (n,o,p,a,q,r,s,t) =>
  ax ((eh b c d e f g h i j k l m n o p a q r s t).run) fun (u,v,w,x,y) =>
  (pm a u v w x y).run
theorem yA(o:Int)(c:Int)(p:Lv)(q:Lv)(d:Nat)(e:List Bool)(f:List (List Int))(g:List Int)(r:Lv)(h:Int)(i:Int)(s:Lv)(j:List Nat)(t:Lv)(k:Bool)(u:Lv)(l:List Int)(m:Int)(b:Bool)(n:Nat)(w:Nat)(x:Nat)(y:Nat)(v:Nat)(z:Nat)(A:List Bool)(B:List (List Int))(D:List Int) :Sg prog [] jH (dl o c p q d e f g r h i s j t k u l m b n (w,x,y,v,z,A,B,D)) (jI c d e f g h i j k l m n (w,x,y,v,z,A,B,D)) (dl o c p q d e f g r h i s j t k u l m b n) (aO 2 (ef o c p q d e f g r h i s j t k u l m b n) (aO 1 (cg o c p q d e f g r h i s j t k u l m b n) (aO 0 (bG b) bg))):=by
  unfold jI;exact Sg.cut 3 (aW (aW (aW bo))) (Sg.seg (C:=C0) ah eI 60 (jH.take 3) (dl o c p q d e f g r h i s j t k u l m b n (w,x,y,v,z,A,B,D)) (eh c d e f g h i j k l m n w x y v z A B D) (pk o c p q d e f g r h i s j t k u l m b n v) (aO 2 (ef o c p q d e f g r h i s j t k u l m b n) (aO 1 (cg o c p q d e f g r h i s j t k u l m b n) (aO 0 (bG b) bg))) [⟨[],[1,2],[4,6,7]⟩,⟨[],[0,1,323],[1,2,4,6,7,8,13,14,18,19]⟩,⟨[],[0,1,2],[1,2,4,6,7,13,14]⟩] (by kernel_rfl)) (fun a=>by obtain ⟨E,F,G,H,I⟩:=a;exact Sg.seg (C:=C0) ah eI 60 (jH.drop 3) (pk o c p q d e f g r h i s j t k u l m b n v (E,F,G,H,I)) (pm v E F G H I) (dl o c p q d e f g r h i s j t k u l m b n) (aO 2 (ef o c p q d e f g r h i s j t k u l m b n) (aO 1 (cg o c p q d e f g r h i s j t k u l m b n) (aO 0 (bG b) bg))) [⟨[],[0,1,2],[1,2,4,6,7,8,13,14,18,19]⟩] (by kernel_rfl))
def yB(a:Int)(b:Int)(c:Lv)(d:Lv)(e:Nat)(f:List Bool)(g:List (List Int))(h:List Int)(i:Lv)(j:Int)(k:Int)(l:Lv)(m:List Nat)(n:Lv)(o:Bool)(p:Lv)(q:List Int)(r:Int)(s:Bool)(t:Nat) :Nat×Nat×Nat×Nat×(List Bool)×(List (List Int))×(List Int)→aC:=ef a b c d e f g h i j k l m n o p q r s t
def pn(a:Nat)(b:Nat)(c:Nat)(d:Nat)(e:List Bool)(f:List (List Int))(g:List Int) :T ((Nat×Nat×Nat×Nat×(List Bool)×(List (List Int))×(List Int))⊕((Nat×Nat×Nat×Nat×(List Bool)×(List (List Int))×(List Int))⊕((Nat×Nat×Nat×Nat×(List Bool)×(List (List Int))×(List Int))⊕(aB)))) :=
  .leaf (.inl (a,b,c,d,e,f,g))
def yC(a:Int)(b:Int)(c:Lv)(d:Lv)(e:Nat)(f:List Bool)(g:List (List Int))(h:List Int)(i:Lv)(j:Int)(k:Int)(l:Lv)(m:List Nat)(n:Lv)(o:Bool)(p:Lv)(q:List Int)(r:Int)(s:Bool)(t:Nat) :Nat×Nat×Nat×Nat×(List Bool)×(List (List Int))×(List Int)→aC:=cg a b c d e f g h i j k l m n o p q r s t
def po(a:Nat)(b:Nat)(c:Nat)(d:Nat)(e:Nat)(f:List Bool)(g:List (List Int))(h:List Int) :T ((Nat×Nat×Nat×Nat×Nat×(List Bool)×(List (List Int))×(List Int))⊕((Nat×Nat×Nat×Nat×(List Bool)×(List (List Int))×(List Int))⊕(aB))) :=
  .need (dP .i64 (((a+1):Nat):Int))<|.leaf (.inl (b,c,d,(a+1),e,f,g,h))
def jJ(i:Int)(j:Int)(k:Nat)(l:List Bool)(m:List (List Int))(n:List Int)(o:Int)(p:Int)(q:List Nat)(r:Bool)(s:List Int)(t:Int) :Nat×Nat×Nat×Nat×Nat×(List Bool)×(List (List Int))×(List Int)→Option ((Nat×Nat×Nat×Nat×Nat×(List Bool)×(List (List Int))×(List Int))⊕((Nat×Nat×Nat×Nat×(List Bool)×(List (List Int))×(List Int))⊕(aB))):=fun (b,c,d,a,e,f,g,h) =>
  ax ((fH i b c d a e f g h).run) fun _ =>
  ax (Rg (ax ((pj).run) fun _ =>
  ax (dH (jI j k l m n o p q r s t a) (b,c,d,0,e,f,g,h)) fun (u,v,w,x,y,z,A) =>
  (pn u v w x y z A).run)) fun (B,C,D,E,F,G,H) =>
  (po a B C D E F G H).run
theorem yD(c:Int)(d:Int)(p:Lv)(q:Lv)(e:Nat)(f:List Bool)(g:List (List Int))(h:List Int)(r:Lv)(i:Int)(j:Int)(t:Lv)(k:List Nat)(u:Lv)(l:Bool)(v:Lv)(m:List Int)(n:Int)(b:Bool)(w:Nat)(x:Nat)(y:Nat)(o:Nat)(z:Nat)(A:List Bool)(B:List (List Int))(D:List Int) :Sg prog [] dk (dj c d p q e f g h r i j t k u l v m n b (w,x,y,o,z,A,B,D)) (jJ c d e f g h i j k l m n (w,x,y,o,z,A,B,D)) (dj c d p q e f g h r i j t k u l v m n b) (aO 0 (bG b) bg):=by
  unfold jJ;exact Sg.cut 2 (aW bo) (Sg.seg (C:=C0) ah eI 60 (dk.take 2) (dj c d p q e f g h r i j t k u l v m n b (w,x,y,o,z,A,B,D)) (fH c w x y o z A B D) (pg c d p q e f g h r i j t k u l v m n b w x y o z A B D) (aO 0 (bG b) bg) [⟨[],[0,1,2],[1,2,4,6,7,13,14]⟩,⟨[],[1,2],[4,6,7]⟩] (by kernel_rfl)) (fun a=>by cases a;exact Sg.cut 1 (aW bo) (C7 (id:=1) (K:=(cg c d p q e f g h r i j t k u l v m n b o)) (by kernel_rfl:((dk.drop 2).take 1) = [.block 1 (inBlock ((((dk.drop 2).take 1)).headD .skip))]) (aW bo) (jO (by decide) (j0 _)) (Sg.cut 2 (aW (aW bo)) (Sg.seg (C:=C0) ah eI 60 (ee.take 2) (pg c d p q e f g h r i j t k u l v m n b w x y o z A B D ()) (pj) (ph c d p q e f g h r i j t k u l v m n b w x y o z A B D) (aO 1 (cg c d p q e f g h r i j t k u l v m n b o) (aO 0 (bG b) bg)) [⟨[],[0,1,2],[1,2,4,6,7,8,13,14,18,19]⟩] (by kernel_rfl)) (fun a=>by cases a;exact Sg.cut 1 (aW (aW bo)) (Sg.pre ⟨[],[0,1,2],[1,2,4,6,7,8,13,14,18,19]⟩ rfl (by kernel_rfl:NS.on ⟨[],[0,1,2],[1,2,4,6,7,8,13,14,18,19]⟩ (ph c d p q e f g h r i j t k u l v m n b w x y o z A B D ())=(dl c d p q e f g h r i j t k u l v m n b o) (w,x,y,0,z,A,B,D)) (bT (I:=(dl c d p q e f g h r i j t k u l v m n b o)) (J:=(ef c d p q e f g h r i j t k u l v m n b o)) (id:=2) (by kernel_rfl:((ee.drop 2).take 1) = [.block 2 (.loop (bE ((((ee.drop 2).take 1)).headD .skip)))]) (aW (aW bo)) (jO (by decide) (jO (by decide) (j0 _))) (fun s=>by obtain ⟨V,W,X,Y,Z,a0,a1,a2⟩:=s;exact yA c d p q e f g h r i j t k u l v m n b o V W X Y Z a0 a1 a2) (w,x,y,0,z,A,B,D))) (fun a=>by obtain ⟨E,F,G,H,L,M,N⟩:=a;exact Sg.seg (C:=C0) ah eI 60 ((ee.drop 2).drop 1) (yB c d p q e f g h r i j t k u l v m n b o (E,F,G,H,L,M,N)) (pn E F G H L M N) (cg c d p q e f g h r i j t k u l v m n b o) (aO 1 (cg c d p q e f g h r i j t k u l v m n b o) (aO 0 (bG b) bg)) [⟨[],[0,1,2],[1,2,4,6,7,13,14]⟩] (by kernel_rfl))))) (fun a=>by obtain ⟨O,P,Q,R,S,T,U⟩:=a;exact Sg.seg (C:=C0) ah eI 60 ((dk.drop 2).drop 1) (yC c d p q e f g h r i j t k u l v m n b o (O,P,Q,R,S,T,U)) (po o O P Q R S T U) (dj c d p q e f g h r i j t k u l v m n b) (aO 0 (bG b) bg) [⟨[],[0,1,2],[1,2,4,6,7,13,14]⟩] (by kernel_rfl)))
def yE(a:Bool) :Nat×Nat×Nat×Nat×(List Bool)×(List (List Int))×(List Int)→aC:=bG a
def pt:Nat×Bool×(List Int)×Nat×Nat×Int→aC:=fun (a,b,c,d,e,f)=>⟨ag 46 [(4,.ptr 0 1 0 0),(5,.int .i64 ((a:Nat):Int))],[(0,.vs [.bool false b,.imm .free (.ns .u64 c) 1 1 d e,.int .i64 f])],1⟩
def fI(a:Nat)(e:Nat)(f:Nat)(b:List Bool)(c:List (List Int))(d:List Int) :T ((Nat×Bool×(List Int)×Nat×Nat×Int)⊕(aB)) :=
  .ask (((e:Nat):Int) != (0:Int))
    (.leaf (.inr (.r0 e false ([]:List Int) 0 0 (0:Int))))
    (.need (Nat.ble (0+a) f)<|.need (nC (bu a (aa 0 a b) (aa 0 a c) (aa 0 a d)))<|.leaf (.inl ((oM (bu a (aa 0 a b) (aa 0 a c) (aa 0 a d))),(oN (bu a (aa 0 a b) (aa 0 a c) (aa 0 a d))),(oO (bu a (aa 0 a b) (aa 0 a c) (aa 0 a d))),(oP (bu a (aa 0 a b) (aa 0 a c) (aa 0 a d))),(oQ (bu a (aa 0 a b) (aa 0 a c) (aa 0 a d))),(oR (bu a (aa 0 a b) (aa 0 a c) (aa 0 a d))))))
def pu(a:Nat)(b:Bool)(c:List Int)(d:Nat)(e:Nat)(f:Int) :T ((Empty)⊕(aB)) :=
  .leaf (.inr (.r0 a b c d e f))
def aT(a:Int)(b:Int)(c:Nat)(d:List Bool)(e:List (List Int))(f:List Int)(g:Int)(h:Int)(i:List Nat)(j:Bool)(k:List Int)(l:Int) :Option aB:=l6 (ax ((pe).run) fun y =>
  ax ((pf).run) fun _ =>
  ax (dH (jJ a b c d e f g h i j k l) (0,0,0,0,0,([]:List Bool),([]:List (List Int)),([]:List Int))) fun (m,z,n,o,p,q,r) =>
  ax ((fI m n o p q r).run) fun (s,t,u,v,w,x) =>
  (pu s t u v w x).run)
theorem zl(e:Int)(f:Int)(o:Lv)(p:Lv)(b:Nat)(g:List Bool)(i:List (List Int))(j:List Int)(q:Lv)(k:Int)(l:Int)(r:Lv)(c:List Nat)(t:Lv)(m:Bool)(u:Lv)(d:List Int)(n:Int){x:aB}(h:aT e f b g i j k l c m d n=some x) :ak prog cW [] [.agg [.int .i64 e,.int .i64 f],.fn (.func cE) [] [.iptr o (.vs [.imm p (.cols b [.cb g,.cns .u64 i,.ci .i64 j]) 3 3 0 b]) 1 0 0,.iptr q (.vs [.int .i64 k,.int .i64 l,.imm r (.fl c) 1 1 0 (List.length c)]) 1 0 0,.iptr t (.vs [.bool false m,.imm u (.ns .u64 d) 1 1 0 (List.length d),.int .i64 n]) 1 0 0]] (kG x) :=
  Sg.contract true kG (by kernel_rfl:prog.funcs[cW]? = some (FN cW)) (by kernel_rfl:(FN cW).body=some (bp cW)) (Sg.cut 1 bo (Sg.seg (C:=C0) ah eI 60 (fG.take 1) (aL (FN cW) [] [.agg [.int .i64 e,.int .i64 f],.fn (.func cE) [] [.iptr o (.vs [.imm p (.cols b [.cb g,.cns .u64 i,.ci .i64 j]) 3 3 0 b]) 1 0 0,.iptr q (.vs [.int .i64 k,.int .i64 l,.imm r (.fl c) 1 1 0 (List.length c)]) 1 0 0,.iptr t (.vs [.bool false m,.imm u (.ns .u64 d) 1 1 0 (List.length d),.int .i64 n]) 1 0 0]]) (pe) (pQ e f o p b g i j q k l r c t m u d n) bg [⟨[],[0,16],[1,2,4]⟩] (by kernel_rfl)) (fun v=>by exact PV (by kernel_rfl:(fG.drop 1) = [.scope (Mo (((fG.drop 1)).headD .skip))]) bo (Sg.cut 3 bo (Sg.seg (C:=C0) ah eI 60 (di.take 3) (pQ e f o p b g i j q k l r c t m u d n v) (pf) (pR e f o p b g i j q k l r c t m u d n v) bg [⟨[],[0,1],[1,2,4,6,7,13,14]⟩] (by kernel_rfl)) (fun a=>by cases a;exact Sg.cut 1 bo (Sg.pre ⟨[(.slot 6,.own 3 3 (.cols 0 [.cb ([]:List Bool),.cns .u64 ([]:List (List Int)),.ci .i64 ([]:List Int)]))],[0,1,2],[1,2,4,6,7,13,14]⟩ rfl (by kernel_rfl:NS.on ⟨[(.slot 6,.own 3 3 (.cols 0 [.cb ([]:List Bool),.cns .u64 ([]:List (List Int)),.ci .i64 ([]:List Int)]))],[0,1,2],[1,2,4,6,7,13,14]⟩ (pR e f o p b g i j q k l r c t m u d n v ())=(dj e f o p b g i j q k l r c t m u d n v) (0,0,0,0,0,([]:List Bool),([]:List (List Int)),([]:List Int))) (bT (I:=(dj e f o p b g i j q k l r c t m u d n v)) (J:=(bG v)) (id:=0) (by kernel_rfl:((di.drop 3).take 1) = [.block 0 (.loop (bE ((((di.drop 3).take 1)).headD .skip)))]) bo (j0 _) (fun s=>by obtain ⟨M,N,O,P,Q,R,S,T⟩:=s;exact yD e f o p b g i j q k l r c t m u d n v M N O P Q R S T) (0,0,0,0,0,([]:List Bool),([]:List (List Int)),([]:List Int)))) (fun a=>by obtain ⟨w,U,y,z,A,B,D⟩:=a;exact Sg.cut 3 bo (Sg.seg (C:=C0) ah eI 60 (((di.drop 3).drop 1).take 3) (yE v (w,U,y,z,A,B,D)) (fI w y z A B D) pt bg [⟨[(.cell 0 1,.fre 1 1 (.ns .u64 ([]:List Int)))],[0],[4,5]⟩,⟨[],[0],[4,5]⟩] (by kernel_rfl)) (fun a=>by obtain ⟨E,F,G,H,K,L⟩:=a;exact Sg.seg (C:=C0) ah eI 60 (((di.drop 3).drop 1).drop 3) (pt (E,F,G,H,K,L)) (pu E F G H K L) (fun a:Empty=>a.elim) bg [⟨[],[0],[4,5]⟩] (by kernel_rfl)))))))
    (fun x=>by cases x with | r0 V W X Y Z a0=>exact ⟨.inr rfl,[.agg [.bool false W,.imm .free (.ns .u64 X) 1 1 Y Z,.int .i64 a0],.int .i64 ((V:Nat):Int)],[],by kernel_rfl,trivial,by kernel_rfl⟩) h
def gr:Option aB→Bool
  | some _=>true
  | none=>false
def jk:Option aB→Nat
  | some (.r0 x _ _ _ _ _)=>x
  | _=>0
def jl:Option aB→Bool
  | some (.r0 _ x _ _ _ _)=>x
  | _=>false
def jm:Option aB→List Int
  | some (.r0 _ _ x _ _ _)=>x
  | _=>[]
def jn:Option aB→Nat
  | some (.r0 _ _ _ x _ _)=>x
  | _=>0
def jo:Option aB→Nat
  | some (.r0 _ _ _ _ x _)=>x
  | _=>0
def jp:Option aB→Int
  | some (.r0 _ _ _ _ _ x)=>x
  | _=>0
theorem zm{x:Option aB}(h:gr x=true) :x=some (.r0 (jk x) (jl x) (jm x) (jn x) (jo x) (jp x)):=by
  unfold gr at h
  split at h <;> first | rfl | (cases h;done) | (rename_i y;cases y;rfl)
def qc:aD:=bW cW (.cons (.agg (.cons (.int .i64) (.cons (.int .i64) .nil))) (.cons (.fn cE .nil (.cons (.ivs (.cons (.cols [.cb,.cns .u64,.ci .i64]) .nil) 1 0 0) (.cons (.ivs (.cons (.int .i64) (.cons (.int .i64) (.cons .fl .nil))) 1 0 0) (.cons (.ivs (.cons .bool (.cons (.ns .u64) (.cons (.int .i64) .nil))) 1 0 0) .nil)))) .nil)) fun t=>[⟨kG (.r0 (jk (aT t.1.1 t.1.2.1 t.2.1.2.1.2.1.2.1 t.2.1.2.1.2.1.2.2.1 t.2.1.2.1.2.1.2.2.2.1 t.2.1.2.1.2.1.2.2.2.2.1 t.2.1.2.2.1.2.1 t.2.1.2.2.1.2.2.1 t.2.1.2.2.1.2.2.2.1.2 t.2.1.2.2.2.1.2.1 t.2.1.2.2.2.1.2.2.1.2 t.2.1.2.2.2.1.2.2.2.1)) (jl (aT t.1.1 t.1.2.1 t.2.1.2.1.2.1.2.1 t.2.1.2.1.2.1.2.2.1 t.2.1.2.1.2.1.2.2.2.1 t.2.1.2.1.2.1.2.2.2.2.1 t.2.1.2.2.1.2.1 t.2.1.2.2.1.2.2.1 t.2.1.2.2.1.2.2.2.1.2 t.2.1.2.2.2.1.2.1 t.2.1.2.2.2.1.2.2.1.2 t.2.1.2.2.2.1.2.2.2.1)) (jm (aT t.1.1 t.1.2.1 t.2.1.2.1.2.1.2.1 t.2.1.2.1.2.1.2.2.1 t.2.1.2.1.2.1.2.2.2.1 t.2.1.2.1.2.1.2.2.2.2.1 t.2.1.2.2.1.2.1 t.2.1.2.2.1.2.2.1 t.2.1.2.2.1.2.2.2.1.2 t.2.1.2.2.2.1.2.1 t.2.1.2.2.2.1.2.2.1.2 t.2.1.2.2.2.1.2.2.2.1)) (jn (aT t.1.1 t.1.2.1 t.2.1.2.1.2.1.2.1 t.2.1.2.1.2.1.2.2.1 t.2.1.2.1.2.1.2.2.2.1 t.2.1.2.1.2.1.2.2.2.2.1 t.2.1.2.2.1.2.1 t.2.1.2.2.1.2.2.1 t.2.1.2.2.1.2.2.2.1.2 t.2.1.2.2.2.1.2.1 t.2.1.2.2.2.1.2.2.1.2 t.2.1.2.2.2.1.2.2.2.1)) (jo (aT t.1.1 t.1.2.1 t.2.1.2.1.2.1.2.1 t.2.1.2.1.2.1.2.2.1 t.2.1.2.1.2.1.2.2.2.1 t.2.1.2.1.2.1.2.2.2.2.1 t.2.1.2.2.1.2.1 t.2.1.2.2.1.2.2.1 t.2.1.2.2.1.2.2.2.1.2 t.2.1.2.2.2.1.2.1 t.2.1.2.2.2.1.2.2.1.2 t.2.1.2.2.2.1.2.2.2.1)) (jp (aT t.1.1 t.1.2.1 t.2.1.2.1.2.1.2.1 t.2.1.2.1.2.1.2.2.1 t.2.1.2.1.2.1.2.2.2.1 t.2.1.2.1.2.1.2.2.2.2.1 t.2.1.2.2.1.2.1 t.2.1.2.2.1.2.2.1 t.2.1.2.2.1.2.2.2.1.2 t.2.1.2.2.2.1.2.1 t.2.1.2.2.2.1.2.2.1.2 t.2.1.2.2.2.1.2.2.2.1))),[gr (aT t.1.1 t.1.2.1 t.2.1.2.1.2.1.2.1 t.2.1.2.1.2.1.2.2.1 t.2.1.2.1.2.1.2.2.2.1 t.2.1.2.1.2.1.2.2.2.2.1 t.2.1.2.2.1.2.1 t.2.1.2.2.1.2.2.1 t.2.1.2.2.1.2.2.2.1.2 t.2.1.2.2.2.1.2.1 t.2.1.2.2.2.1.2.2.1.2 t.2.1.2.2.2.1.2.2.2.1)]⟩]
theorem yi:aM prog qc:=aG fun t=>(aH (fun h=>zl t.1.1 t.1.2.1 t.2.1.2.1.1 t.2.1.2.1.2.1.1 t.2.1.2.1.2.1.2.1 t.2.1.2.1.2.1.2.2.1 t.2.1.2.1.2.1.2.2.2.1 t.2.1.2.1.2.1.2.2.2.2.1 t.2.1.2.2.1.1 t.2.1.2.2.1.2.1 t.2.1.2.2.1.2.2.1 t.2.1.2.2.1.2.2.2.1.1 t.2.1.2.2.1.2.2.2.1.2 t.2.1.2.2.2.1.1 t.2.1.2.2.2.1.2.1 t.2.1.2.2.2.1.2.2.1.1 t.2.1.2.2.2.1.2.2.1.2 t.2.1.2.2.2.1.2.2.2.1 (zm h)) aR)
def qd:List aD:=qc :: OZ
theorem c9:aX prog (aZ qd):=am yi eI
inductive eR where
  | r0 (a:Nat) (b:Bool) (c:List Int) (d:Nat) (e:Nat) (f:Int)
def wR:eR→AE×aC
  | .r0 a b c d e f=>(.ret,⟨ag 32 [(2,.ptr 0 1 0 0),(3,.int .i64 ((a:Nat):Int))],[(0,.vs [.bool false b,.imm .free (.ns .u64 c) 1 1 d e,.int .i64 f])],1⟩)
theorem CI:lc wR:=by intro x;cases x <;> (intro h;cases h)
def LD:eR→ju
  | .r0 a b c d e f=>⟨.tup [.agg [.bool false b,.imm .free (.ns .u64 c) 1 1 d e,.int .i64 f],.int .i64 ((a:Nat):Int)],[]⟩
def yj:List Code:=bD (bp nP)
def TA(b:Int)(c:Int)(d:Lv)(a:List Nat)(e:Bool) :aC:=⟨ag 32 [(1,.ptr 0 1 0 0),(2,.ptr 1 1 0 0)],[(0,.vs [.int .i64 b,.int .i64 c,.imm d (.fl a) 1 1 0 (List.length a)]),(1,.vs [.bool false e,.nsl,.int .i64 (0:Int)])],2⟩
def IF(b : Int)(c : Int)(a : List Nat) : T ((Bool) ⊕ (eR)) :=
  .ask (decide ((0:Int) < (1:Int)))
    (.need (iE (0:Int) 1)<|.need (aI 0 (List.length a) a)<|.need (g8 (c8 b c (aa 0 (List.length a) a)))<|.ask (gg (c8 b c (aa 0 (List.length a) a)))
      (.ask (!(!(decide ((0:Int) ≥ (0:Int)))))
        (.leaf (.inr (.r0 2 false ([]:List Int) 0 0 (0:Int))))
        (.fail))
      (.need (dP .i64 (1:Int))<|.ask (decide ((1:Int) < (1:Int)))
        (.fail)
        (.ask (!(!(decide ((-1:Int) ≥ (0:Int)))))
          (.fail)
          (.ask (decide ((0:Int) < (1:Int)))
            (.need (iE (0:Int) 1)<|.need (aI 0 (List.length a) a)<|.need (aP (ao (aa 0 (List.length a) a)))<|.ask (decide ((aQ (ao (aa 0 (List.length a) a))) ≥ (0:Int)))
              (.leaf (.inr (.r0 10 false ([]:List Int) 0 0 (0:Int))))
              (.need (dP .i64 (1:Int))<|.ask (decide ((1:Int) < (1:Int)))
                (.fail)
                (.leaf (.inl false))))
            (.fail)))))
    (.fail)
def TB(c:Int)(d:Int)(e:Lv)(a:List Nat)(f:Bool) :Nat×(List Bool)×(List (List Int))×(List Int)→aC:=fun (b,g,h,i)=>⟨ag 32 [(1,.ptr 0 1 0 0),(2,.ptr 1 1 0 0),(4,.ptr 2 1 0 0)],[(0,.vs [.int .i64 c,.int .i64 d,.imm e (.fl a) 1 1 0 (List.length a)]),(1,.vs [.bool false f,.nsl,.int .i64 (0:Int)]),(2,.vs [.imm .free (.cols b [.cb g,.cns .u64 h,.ci .i64 i]) 3 3 0 b])],3⟩
def IG(a:List Nat) :T ((Nat×(List Bool)×(List (List Int))×(List Int))⊕(eR)) :=
  .need (aI 0 (List.length a) a)<|.need (i0 (ap (aa 0 (List.length a) a)))<|.leaf (.inl ((aN (ap (aa 0 (List.length a) a))),(dc (ap (aa 0 (List.length a) a))),(dd (ap (aa 0 (List.length a) a))),(de (ap (aa 0 (List.length a) a)))))
def TC(c:Int)(d:Int)(e:Lv)(a:List Nat)(f:Bool)(b:Nat)(g:List Bool)(h:List (List Int))(i:List Int) :Bool×(List Int)×Nat×Nat×Int→aC:=fun (j,k,l,m,n)=>⟨ag 32 [(1,.ptr 0 1 0 0),(2,.ptr 1 1 0 0),(4,.ptr 2 1 0 0),(5,.ptr 3 1 0 0)],[(0,.vs [.int .i64 c,.int .i64 d,.imm e (.fl a) 1 1 0 (List.length a)]),(1,.vs [.bool false f,.nsl,.int .i64 (0:Int)]),(2,.vs [.imm .free (.cols b [.cb g,.cns .u64 h,.ci .i64 i]) 3 3 0 b]),(3,.vs [.bool false j,.imm .free (.ns .u64 k) 1 1 l m,.int .i64 n])],4⟩
def IH:T ((Bool×(List Int)×Nat×Nat×Int)⊕(eR)) :=
  .need (o8 (ba (1:Int)))<|.leaf (.inl ((jy (ba (1:Int))),(il (ba (1:Int))),(im (ba (1:Int))),(io (ba (1:Int))),(jz (ba (1:Int)))))
def TD:Nat×Bool×(List Int)×Nat×Nat×Int→aC:=fun (a,b,c,d,e,f)=>⟨ag 32 [(2,.ptr 0 1 0 0),(3,.int .i64 ((a:Nat):Int))],[(0,.vs [.bool false b,.imm .free (.ns .u64 c) 1 1 d e,.int .i64 f])],1⟩
def CJ(g:Int)(b:Int)(c:List Nat)(a:Nat)(h:List Bool)(i:List (List Int))(j:List Int)(k:Bool)(d:List Int)(e:Nat)(f:Nat)(l:Int) :T ((Nat×Bool×(List Int)×Nat×Nat×Int)⊕(eR)) :=
  .need (Nat.ble (0+a) a)<|.need (aI 0 (List.length c) c)<|.need (aI e f d)<|.need (gr (aT b b a (aa 0 a h) (aa 0 a i) (aa 0 a j) g b (aa 0 (List.length c) c) k (aa e f d) l))<|.leaf (.inl ((jk (aT b b a (aa 0 a h) (aa 0 a i) (aa 0 a j) g b (aa 0 (List.length c) c) k (aa e f d) l)),(jl (aT b b a (aa 0 a h) (aa 0 a i) (aa 0 a j) g b (aa 0 (List.length c) c) k (aa e f d) l)),(jm (aT b b a (aa 0 a h) (aa 0 a i) (aa 0 a j) g b (aa 0 (List.length c) c) k (aa e f d) l)),(jn (aT b b a (aa 0 a h) (aa 0 a i) (aa 0 a j) g b (aa 0 (List.length c) c) k (aa e f d) l)),(jo (aT b b a (aa 0 a h) (aa 0 a i) (aa 0 a j) g b (aa 0 (List.length c) c) k (aa e f d) l)),(jp (aT b b a (aa 0 a h) (aa 0 a i) (aa 0 a j) g b (aa 0 (List.length c) c) k (aa e f d) l))))
def O0(a:Nat)(b:Bool)(c:List Int)(d:Nat)(e:Nat)(f:Int) :T ((Empty)⊕(eR)) :=
  .leaf (.inr (.r0 a b c d e f))
def fj(b:Int)(c:Int)(a:List Nat) :Option eR:=l6 (ax ((IF b c a).run) fun s =>
  ax ((IG a).run) fun (d,e,f,g) =>
  ax ((IH).run) fun (h,i,j,k,l) =>
  ax ((CJ b c a d e f g h i j k l).run) fun (m,n,o,p,q,r) =>
  (O0 m n o p q r).run)
theorem agw(c:Int)(d:Int)(e:Lv)(b:List Nat){x:eR}(h:fj c d b=some x) :ak prog nP [] [.agg [.int .i64 c,.int .i64 d,.imm e (.fl b) 1 1 0 (List.length b)]] (LD x) :=
  Sg.contract true LD (by kernel_rfl:prog.funcs[nP]? = some (FN nP)) (by kernel_rfl:(FN nP).body=some (bp nP)) (Sg.cut 2 CI (Sg.seg (C:=C0) ah c9 60 (yj.take 2) (aL (FN nP) [] [.agg [.int .i64 c,.int .i64 d,.imm e (.fl b) 1 1 0 (List.length b)]]) (IF c d b) (TA c d e b) wR [⟨[(.cell 16 1,.fre 1 1 (.ns .u64 ([]:List Int)))],[16],[2,3]⟩,⟨[(.cell 16 1,.fre 1 1 (.ns .u64 ([]:List Int)))],[16],[2,3]⟩,⟨[],[0,16],[1,2]⟩] (by kernel_rfl)) (fun f=>by exact Sg.cut 1 CI (Sg.seg (C:=C0) ah c9 60 ((yj.drop 2).take 1) (TA c d e b f) (IG b) (TB c d e b f) wR [⟨[],[0,1,50],[1,2,4]⟩] (by kernel_rfl)) (fun a=>by obtain ⟨g,i,j,k⟩:=a;exact Sg.cut 1 CI (Sg.seg (C:=C0) ah c9 60 (((yj.drop 2).drop 1).take 1) (TB c d e b f (g,i,j,k)) (IH) (TC c d e b f g i j k) wR [⟨[],[0,1,2,19],[1,2,4,5]⟩] (by kernel_rfl)) (fun a=>by obtain ⟨l,m,n,o,p⟩:=a;exact Sg.cut 1 CI (Sg.seg (C:=C0) ah c9 60 ((((yj.drop 2).drop 1).drop 1).take 1) (TC c d e b f g i j k (l,m,n,o,p)) (CJ c d b g i j k l m n o p) TD wR [⟨[],[1],[2,3]⟩] (by kernel_rfl)) (fun a=>by obtain ⟨q,r,s,t,u,v⟩:=a;exact Sg.seg (C:=C0) ah c9 60 ((((yj.drop 2).drop 1).drop 1).drop 1) (TD (q,r,s,t,u,v)) (O0 q r s t u v) (fun a:Empty=>a.elim) wR [⟨[],[0],[2,3]⟩] (by kernel_rfl))))))
    (fun x=>by cases x with | r0 w y z A B D=>exact ⟨.inr rfl,[.agg [.bool false y,.imm .free (.ns .u64 z) 1 1 A B,.int .i64 D],.int .i64 ((w:Nat):Int)],[],by kernel_rfl,trivial,by kernel_rfl⟩) h
def CL:Option eR→Bool
  | some _=>true
  | none=>false
def DZ:Option eR→Nat
  | some (.r0 x _ _ _ _ _)=>x
  | _=>0
def D0:Option eR→Bool
  | some (.r0 _ x _ _ _ _)=>x
  | _=>false
def D1:Option eR→List Int
  | some (.r0 _ _ x _ _ _)=>x
  | _=>[]
def D2:Option eR→Nat
  | some (.r0 _ _ _ x _ _)=>x
  | _=>0
def D3:Option eR→Nat
  | some (.r0 _ _ _ _ x _)=>x
  | _=>0
def D4:Option eR→Int
  | some (.r0 _ _ _ _ _ x)=>x
  | _=>0
theorem agx{x:Option eR}(h:CL x=true) :x=some (.r0 (DZ x) (D0 x) (D1 x) (D2 x) (D3 x) (D4 x)):=by
  unfold CL at h
  split at h <;> first | rfl | (cases h;done) | (rename_i y;cases y;rfl)
def Xf:aD:=bW nP (.cons (.agg (.cons (.int .i64) (.cons (.int .i64) (.cons .fl .nil)))) .nil) fun t=>[⟨LD (.r0 (DZ (fj t.1.1 t.1.2.1 t.1.2.2.1.2)) (D0 (fj t.1.1 t.1.2.1 t.1.2.2.1.2)) (D1 (fj t.1.1 t.1.2.1 t.1.2.2.1.2)) (D2 (fj t.1.1 t.1.2.1 t.1.2.2.1.2)) (D3 (fj t.1.1 t.1.2.1 t.1.2.2.1.2)) (D4 (fj t.1.1 t.1.2.1 t.1.2.2.1.2))),[CL (fj t.1.1 t.1.2.1 t.1.2.2.1.2)]⟩]
theorem aa7:aM prog Xf:=aG fun t=>(aH (fun h=>agw t.1.1 t.1.2.1 t.1.2.2.1.1 t.1.2.2.1.2 (agx h)) aR)
def Xg:List aD:=Xf :: qd
theorem sV:aX prog (aZ Xg):=am aa7 c9
end
end Go.Plb.Seat
namespace Go.Plb.Seat
open Go Go.Plb
set_option linter.unusedVariables false
set_option maxRecDepth 100000
noncomputable section
inductive ir where
  | r0 (a:Bool) (b:Int)
def yk:ir→AE×aC
  | .r0 a b=>(.ret,⟨ag 37 [(8,.bool false a),(9,.int .i64 b)],[],0⟩)
theorem Ga:lc yk:=by intro x;cases x <;> (intro h;cases h)
def II:ir→ju
  | .r0 a b=>⟨.tup [.bool false a,.int .i64 b],[]⟩
def AC:List Code:=bD (bp lu)
def O1(b:Bool)(c:Lv)(a:List Int)(d:Int) :Nat×Bool×(List Int)×Nat×Nat×Int→aC:=fun (e,f,g,h,i,j)=>⟨ag 37 [(1,.int .i64 ((e:Nat):Int)),(4,.ptr 0 1 0 0),(10,.ptr 1 1 0 0)],[(0,.vs [.bool false b,.imm c (.ns .u64 a) 1 1 0 (List.length a),.int .i64 d]),(1,.vs [.bool false f,.imm .free (.ns .u64 g) 1 1 h i,.int .i64 j])],2⟩
def Gb(g:Int)(c:Bool)(a:List Int)(d:Int)(e:Bool)(b:List Int)(f:Int) :T ((Nat×Bool×(List Int)×Nat×Nat×Int)⊕(ir)) :=
  .ask (g != (0:Int))
    (.leaf (.inr (.r0 false g)))
    (.need (aI 0 (List.length a) a)<|.need (aI 0 (List.length b) b)<|.need (qa (an c (aa 0 (List.length a) a) d e (aa 0 (List.length b) b) f))<|.leaf (.inl ((l9 (an c (aa 0 (List.length a) a) d e (aa 0 (List.length b) b) f)),(cF (an c (aa 0 (List.length a) a) d e (aa 0 (List.length b) b) f)),(ct (an c (aa 0 (List.length a) a) d e (aa 0 (List.length b) b) f)),(cu (an c (aa 0 (List.length a) a) d e (aa 0 (List.length b) b) f)),(cv (an c (aa 0 (List.length a) a) d e (aa 0 (List.length b) b) f)),(cG (an c (aa 0 (List.length a) a) d e (aa 0 (List.length b) b) f)))))
def O2:Nat×Int→aC:=fun (a,b)=>⟨ag 37 [(1,.int .i64 ((a:Nat):Int)),(11,.int .i64 b)],[],0⟩
def AD(e:Bool)(a:List Int)(f:Int)(i:Nat)(g:Bool)(b:List Int)(c:Nat)(d:Nat)(h:Int) :T ((Nat×Int)⊕(ir)) :=
  .ask (((i:Nat):Int) != (0:Int))
    (.leaf (.inr (.r0 false ((i:Nat):Int))))
    (.need (aI 0 (List.length a) a)<|.need (aI c d b)<|.need (EY (qx e (aa 0 (List.length a) a) f g (aa c d b) h))<|.leaf (.inl ((Fy (qx e (aa 0 (List.length a) a) f g (aa c d b) h)),(Fx (qx e (aa 0 (List.length a) a) f g (aa c d b) h)))))
def O3(a:Nat)(b:Bool) :aC:=⟨ag 37 [(8,.bool false b),(9,.int .i64 ((a:Nat):Int))],[],0⟩
def O4(a:Nat)(b:Int) :T ((Bool)⊕(ir)) :=
  .ask (((a:Nat):Int) == (0:Int))
    (.leaf (.inl (decide (b≤(0:Int)))))
    (.leaf (.inl false))
def O5(a:Nat)(b:Bool) :T ((Empty)⊕(ir)) :=
  .leaf (.inr (.r0 b ((a:Nat):Int)))
def gu(b:Bool)(c:List Int)(d:Int)(e:Int)(f:Bool)(g:List Int)(h:Int)(i:Bool)(j:List Int)(k:Int) :Option ir:=l6 (ax ((Gb e f g h i j k).run) fun (l,m,n,o,p,q) =>
  ax ((AD b c d l m n o p q).run) fun (a,r) =>
  ax ((O4 a r).run) fun s =>
  (O5 a s).run)
theorem ac7(c:Bool)(i:Lv)(b:List Int)(d:Int)(j:Int)(k:Bool)(o:Lv)(e:List Int)(l:Int)(m:Bool)(p:Lv)(f:List Int)(n:Int){x:ir}(h:gu c b d j k e l m f n=some x) :ak prog lu [] [.agg [.bool false c,.imm i (.ns .u64 b) 1 1 0 (List.length b),.int .i64 d],.int .i64 j,.agg [.bool false k,.imm o (.ns .u64 e) 1 1 0 (List.length e),.int .i64 l],.agg [.bool false m,.imm p (.ns .u64 f) 1 1 0 (List.length f),.int .i64 n]] (II x) :=
  Sg.contract true II (by kernel_rfl:prog.funcs[lu]? = some (FN lu)) (by kernel_rfl:(FN lu).body=some (bp lu)) (Sg.cut 4 Ga (Sg.seg (C:=C0) ah sV 60 (AC.take 4) (aL (FN lu) [] [.agg [.bool false c,.imm i (.ns .u64 b) 1 1 0 (List.length b),.int .i64 d],.int .i64 j,.agg [.bool false k,.imm o (.ns .u64 e) 1 1 0 (List.length e),.int .i64 l],.agg [.bool false m,.imm p (.ns .u64 f) 1 1 0 (List.length f),.int .i64 n]]) (Gb j k e l m f n) (O1 c i b d) yk [⟨[],[],[8,9]⟩,⟨[],[0,208],[1,4,10]⟩] (by kernel_rfl)) (fun a=>by obtain ⟨q,r,s,t,u,v⟩:=a;exact Sg.cut 3 Ga (Sg.seg (C:=C0) ah sV 60 ((AC.drop 4).take 3) (O1 c i b d (q,r,s,t,u,v)) (AD c b d q r s t u v) O2 yk [⟨[],[],[8,9]⟩,⟨[],[],[1,11]⟩] (by kernel_rfl)) (fun a=>by obtain ⟨g,w⟩:=a;exact Sg.cut 1 Ga (Sg.seg (C:=C0) ah sV 60 (((AC.drop 4).drop 3).take 1) (O2 (g,w)) (O4 g w) (O3 g) yk [⟨[],[],[8,9]⟩,⟨[],[],[8,9]⟩] (by kernel_rfl)) (fun y=>by exact Sg.seg (C:=C0) ah sV 60 (((AC.drop 4).drop 3).drop 1) (O3 g y) (O5 g y) (fun a:Empty=>a.elim) yk [⟨[],[],[8,9]⟩] (by kernel_rfl)))))
    (fun x=>by cases x with | r0 z A=>exact ⟨.inr rfl,[.bool false z,.int .i64 A],[],by kernel_rfl,trivial,by kernel_rfl⟩) h
def vg:Option ir→Bool
  | some _=>true
  | none=>false
def vM:Option ir→Bool
  | some (.r0 x _)=>x
  | _=>false
def vN:Option ir→Int
  | some (.r0 _ x)=>x
  | _=>0
theorem ac8{x:Option ir}(h:vg x=true) :x=some (.r0 (vM x) (vN x)):=by
  unfold vg at h
  split at h <;> first | rfl | (cases h;done) | (rename_i y;cases y;rfl)
def TE:aD:=bW lu (.cons (.agg (.cons .bool (.cons (.ns .u64) (.cons (.int .i64) .nil)))) (.cons (.int .i64) (.cons (.agg (.cons .bool (.cons (.ns .u64) (.cons (.int .i64) .nil)))) (.cons (.agg (.cons .bool (.cons (.ns .u64) (.cons (.int .i64) .nil)))) .nil)))) fun t=>[⟨II (.r0 (vM (gu t.1.1 t.1.2.1.2 t.1.2.2.1 t.2.1 t.2.2.1.1 t.2.2.1.2.1.2 t.2.2.1.2.2.1 t.2.2.2.1.1 t.2.2.2.1.2.1.2 t.2.2.2.1.2.2.1)) (vN (gu t.1.1 t.1.2.1.2 t.1.2.2.1 t.2.1 t.2.2.1.1 t.2.2.1.2.1.2 t.2.2.1.2.2.1 t.2.2.2.1.1 t.2.2.2.1.2.1.2 t.2.2.2.1.2.2.1))),[vg (gu t.1.1 t.1.2.1.2 t.1.2.2.1 t.2.1 t.2.2.1.1 t.2.2.1.2.1.2 t.2.2.1.2.2.1 t.2.2.2.1.1 t.2.2.2.1.2.1.2 t.2.2.2.1.2.2.1)]⟩]
theorem XW:aM prog TE:=aG fun t=>(aH (fun h=>ac7 t.1.1 t.1.2.1.1 t.1.2.1.2 t.1.2.2.1 t.2.1 t.2.2.1.1 t.2.2.1.2.1.1 t.2.2.1.2.1.2 t.2.2.1.2.2.1 t.2.2.2.1.1 t.2.2.2.1.2.1.1 t.2.2.2.1.2.1.2 t.2.2.2.1.2.2.1 (ac8 h)) aR)
def TF:List aD:=TE :: Xg
theorem vO:aX prog (aZ TF):=am XW sV
inductive jq where
  | r0 (a:Bool) (b:Int)
def CM:jq→AE×aC
  | .r0 a b=>(.ret,⟨ag 18 [(2,.bool false a),(3,.int .i64 b)],[],0⟩)
theorem O6:lc CM:=by intro x;cases x <;> (intro h;cases h)
def IJ:jq→ju
  | .r0 a b=>⟨.tup [.bool false a,.int .i64 b],[]⟩
def Gc:List Code:=bD (bp nT)
def O7(b:Lv)(c:Bool)(d:Lv)(a:List Int)(e:Int) :Nat×Bool×(List Int)×Nat×Nat×Int→aC:=fun (f,g,h,i,j,k)=>⟨ag 18 [(1,.iptr b (.vs [.bool false c,.imm d (.ns .u64 a) 1 1 0 (List.length a),.int .i64 e]) 1 0 0),(4,.ptr 0 1 0 0),(5,.int .i64 ((f:Nat):Int))],[(0,.vs [.bool false g,.imm .free (.ns .u64 h) 1 1 i j,.int .i64 k])],1⟩
def Gd(b:Int)(c:Int)(a:List Nat) :T ((Nat×Bool×(List Int)×Nat×Nat×Int)⊕(jq)) :=
  .need (aI 0 (List.length a) a)<|.need (CL (fj b c (aa 0 (List.length a) a)))<|.leaf (.inl ((DZ (fj b c (aa 0 (List.length a) a))),(D0 (fj b c (aa 0 (List.length a) a))),(D1 (fj b c (aa 0 (List.length a) a))),(D2 (fj b c (aa 0 (List.length a) a))),(D3 (fj b c (aa 0 (List.length a) a))),(D4 (fj b c (aa 0 (List.length a) a)))))
def O8:Bool×Int→aC:=fun (a,b)=>⟨ag 18 [(2,.bool false a),(3,.int .i64 b)],[],0⟩
def AF(e:Bool)(a:List Int)(f:Int)(g:Nat)(h:Bool)(b:List Int)(c:Nat)(d:Nat)(i:Int) :T ((Bool×Int)⊕(jq)) :=
  .need (o8 (ba (1:Int)))<|.need (aI c d b)<|.need (aI 0 (List.length a) a)<|.need (aI (im (ba (1:Int))) (io (ba (1:Int))) (il (ba (1:Int))))<|.need (vg (gu h (aa c d b) i ((g:Nat):Int) e (aa 0 (List.length a) a) f (jy (ba (1:Int))) (aa (im (ba (1:Int))) (io (ba (1:Int))) (il (ba (1:Int)))) (jz (ba (1:Int)))))<|.leaf (.inl ((vM (gu h (aa c d b) i ((g:Nat):Int) e (aa 0 (List.length a) a) f (jy (ba (1:Int))) (aa (im (ba (1:Int))) (io (ba (1:Int))) (il (ba (1:Int)))) (jz (ba (1:Int))))),(vN (gu h (aa c d b) i ((g:Nat):Int) e (aa 0 (List.length a) a) f (jy (ba (1:Int))) (aa (im (ba (1:Int))) (io (ba (1:Int))) (il (ba (1:Int)))) (jz (ba (1:Int)))))))
def O9(a:Bool)(b:Int) :T ((Empty)⊕(jq)) :=
  .leaf (.inr (.r0 a b))
def kr(a:Int)(b:Int)(c:List Nat)(d:Bool)(e:List Int)(f:Int) :Option jq:=l6 (ax ((Gd a b c).run) fun (g,h,i,j,k,l) =>
  ax ((AF d e f g h i j k l).run) fun (m,n) =>
  (O9 m n).run)
theorem ac9(k:Lv)(f:Int)(g:Int)(l:Lv)(c:List Nat)(i:Lv)(d:Bool)(j:Lv)(b:List Int)(e:Int){x:jq}(h:kr f g c d b e=some x) :ak prog nT [] [.iptr k (.vs [.int .i64 f,.int .i64 g,.imm l (.fl c) 1 1 0 (List.length c)]) 1 0 0,.iptr i (.vs [.bool false d,.imm j (.ns .u64 b) 1 1 0 (List.length b),.int .i64 e]) 1 0 0] (IJ x) :=
  Sg.contract false IJ (by kernel_rfl:prog.funcs[nT]? = some (FN nT)) (by kernel_rfl:(FN nT).body=some (bp nT)) (Sg.cut 2 O6 (Sg.seg (C:=C0) ah vO 60 (Gc.take 2) (aL (FN nT) [] [.iptr k (.vs [.int .i64 f,.int .i64 g,.imm l (.fl c) 1 1 0 (List.length c)]) 1 0 0,.iptr i (.vs [.bool false d,.imm j (.ns .u64 b) 1 1 0 (List.length b),.int .i64 e]) 1 0 0]) (Gd f g c) (O7 i d j b e) CM [⟨[],[112],[1,4,5]⟩] (by kernel_rfl)) (fun a=>by obtain ⟨m,n,o,p,q,r⟩:=a;exact Sg.cut 1 O6 (Sg.seg (C:=C0) ah vO 60 ((Gc.drop 2).take 1) (O7 i d j b e (m,n,o,p,q,r)) (AF d b e m n o p q r) O8 CM [⟨[],[],[2,3]⟩] (by kernel_rfl)) (fun a=>by obtain ⟨s,t⟩:=a;exact Sg.seg (C:=C0) ah vO 60 ((Gc.drop 2).drop 1) (O8 (s,t)) (O9 s t) (fun a:Empty=>a.elim) CM [⟨[],[],[2,3]⟩] (by kernel_rfl))))
    (fun x=>by cases x with | r0 u v=>exact ⟨.inr rfl,[.bool false u,.int .i64 v],[],by kernel_rfl,trivial,by kernel_rfl⟩) h
def vh:Option jq→Bool
  | some _=>true
  | none=>false
def vP:Option jq→Bool
  | some (.r0 x _)=>x
  | _=>false
def nD:Option jq→Int
  | some (.r0 _ x)=>x
  | _=>0
theorem ada{x:Option jq}(h:vh x=true) :x=some (.r0 (vP x) (nD x)):=by
  unfold vh at h
  split at h <;> first | rfl | (cases h;done) | (rename_i y;cases y;rfl)
def TG:aD:=bW nT (.cons (.ivs (.cons (.int .i64) (.cons (.int .i64) (.cons .fl .nil))) 1 0 0) (.cons (.ivs (.cons .bool (.cons (.ns .u64) (.cons (.int .i64) .nil))) 1 0 0) .nil)) fun t=>[⟨IJ (.r0 (vP (kr t.1.2.1 t.1.2.2.1 t.1.2.2.2.1.2 t.2.1.2.1 t.2.1.2.2.1.2 t.2.1.2.2.2.1)) (nD (kr t.1.2.1 t.1.2.2.1 t.1.2.2.2.1.2 t.2.1.2.1 t.2.1.2.2.1.2 t.2.1.2.2.2.1))),[vh (kr t.1.2.1 t.1.2.2.1 t.1.2.2.2.1.2 t.2.1.2.1 t.2.1.2.2.1.2 t.2.1.2.2.2.1)]⟩]
theorem XX:aM prog TG:=aG fun t=>(aH (fun h=>ac9 t.1.1 t.1.2.1 t.1.2.2.1 t.1.2.2.2.1.1 t.1.2.2.2.1.2 t.2.1.1 t.2.1.2.1 t.2.1.2.2.1.1 t.2.1.2.2.1.2 t.2.1.2.2.2.1 (ada h)) aR)
def TH:List aD:=TG :: TF
theorem rf:aX prog (aZ TH):=am XX vO
inductive cm where
  | r0 (a:Nat) (b:Bool) (c:List Int) (d:Nat) (e:Nat) (f:Int)
def oS:cm→AE×aC
  | .r0 a b c d e f=>(.ret,⟨ag 65 [(11,.ptr 0 1 0 0),(12,.int .i64 ((a:Nat):Int))],[(0,.vs [.bool false b,.imm .free (.ns .u64 c) 1 1 d e,.int .i64 f])],1⟩)
theorem wi:lc oS:=by intro x;cases x <;> (intro h;cases h)
def yn:cm→ju
  | .r0 a b c d e f=>⟨.tup [.agg [.bool false b,.imm .free (.ns .u64 c) 1 1 d e,.int .i64 f],.int .i64 ((a:Nat):Int)],[]⟩
def qG:List Code:=bD (bp bJ)
def D5(d:Int)(e:Int)(f:Lv)(g:Lv)(a:Nat)(h:List Bool)(i:List (List Int))(j:List Int)(k:Lv)(l:Int)(m:Int)(n:Lv)(b:List Nat)(o:Lv)(p:Lv)(c:Nat)(q:List Bool)(r:List (List Int))(s:List Int) :Nat×Bool×Bool×(List Int)×Nat×Nat×Int→aC:=fun (t,u,v,w,x,y,z)=>⟨ag 65 [(0,.int .i64 d),(1,.int .i64 e),(6,.iptr f (.vs [.imm g (.cols a [.cb h,.cns .u64 i,.ci .i64 j]) 3 3 0 a]) 1 0 0),(7,.iptr k (.vs [.int .i64 l,.int .i64 m,.imm n (.fl b) 1 1 0 (List.length b)]) 1 0 0),(8,.iptr o (.vs [.imm p (.cols c [.cb q,.cns .u64 r,.ci .i64 s]) 3 3 0 c]) 1 0 0),(11,.ptr 0 1 0 0),(13,.ptr 1 1 0 0),(14,.int .i64 ((t:Nat):Int))],[(0,.vs [.bool false u,.nsl,.int .i64 (0:Int)]),(1,.vs [.bool false v,.imm .free (.ns .u64 w) 1 1 x y,.int .i64 z])],2⟩
def wj(d:Int)(e:Int)(a:Nat)(f:List Bool)(g:List (List Int))(h:List Int)(c:Int)(b:Nat)(i:List Bool)(j:List (List Int))(k:List Int)(l:Int) :T ((Nat×Bool×Bool×(List Int)×Nat×Nat×Int)⊕(cm)) :=
  .need (dP .i64 (d * c))<|.need (Nat.ble (0+a) a)<|.need (lS (ab a (aa 0 a f) (aa 0 a g) (aa 0 a h) (d * c) (1:Int) c))<|.need (Nat.ble (0+b) b)<|.need (lS (ab b (aa 0 b i) (aa 0 b j) (aa 0 b k) e l c))<|.need (Nat.ble (0+(ac (ab a (aa 0 a f) (aa 0 a g) (aa 0 a h) (d * c) (1:Int) c))) (ac (ab a (aa 0 a f) (aa 0 a g) (aa 0 a h) (d * c) (1:Int) c)))<|.need (Nat.ble (0+(ac (ab b (aa 0 b i) (aa 0 b j) (aa 0 b k) e l c))) (ac (ab b (aa 0 b i) (aa 0 b j) (aa 0 b k) e l c)))<|.need (wP (cq (ac (ab a (aa 0 a f) (aa 0 a g) (aa 0 a h) (d * c) (1:Int) c)) (aa 0 (ac (ab a (aa 0 a f) (aa 0 a g) (aa 0 a h) (d * c) (1:Int) c)) (bk (ab a (aa 0 a f) (aa 0 a g) (aa 0 a h) (d * c) (1:Int) c))) (aa 0 (ac (ab a (aa 0 a f) (aa 0 a g) (aa 0 a h) (d * c) (1:Int) c)) (bm (ab a (aa 0 a f) (aa 0 a g) (aa 0 a h) (d * c) (1:Int) c))) (aa 0 (ac (ab a (aa 0 a f) (aa 0 a g) (aa 0 a h) (d * c) (1:Int) c)) (bn (ab a (aa 0 a f) (aa 0 a g) (aa 0 a h) (d * c) (1:Int) c))) (ac (ab b (aa 0 b i) (aa 0 b j) (aa 0 b k) e l c)) (aa 0 (ac (ab b (aa 0 b i) (aa 0 b j) (aa 0 b k) e l c)) (bk (ab b (aa 0 b i) (aa 0 b j) (aa 0 b k) e l c))) (aa 0 (ac (ab b (aa 0 b i) (aa 0 b j) (aa 0 b k) e l c)) (bm (ab b (aa 0 b i) (aa 0 b j) (aa 0 b k) e l c))) (aa 0 (ac (ab b (aa 0 b i) (aa 0 b j) (aa 0 b k) e l c)) (bn (ab b (aa 0 b i) (aa 0 b j) (aa 0 b k) e l c)))))<|.leaf (.inl ((u7 (cq (ac (ab a (aa 0 a f) (aa 0 a g) (aa 0 a h) (d * c) (1:Int) c)) (aa 0 (ac (ab a (aa 0 a f) (aa 0 a g) (aa 0 a h) (d * c) (1:Int) c)) (bk (ab a (aa 0 a f) (aa 0 a g) (aa 0 a h) (d * c) (1:Int) c))) (aa 0 (ac (ab a (aa 0 a f) (aa 0 a g) (aa 0 a h) (d * c) (1:Int) c)) (bm (ab a (aa 0 a f) (aa 0 a g) (aa 0 a h) (d * c) (1:Int) c))) (aa 0 (ac (ab a (aa 0 a f) (aa 0 a g) (aa 0 a h) (d * c) (1:Int) c)) (bn (ab a (aa 0 a f) (aa 0 a g) (aa 0 a h) (d * c) (1:Int) c))) (ac (ab b (aa 0 b i) (aa 0 b j) (aa 0 b k) e l c)) (aa 0 (ac (ab b (aa 0 b i) (aa 0 b j) (aa 0 b k) e l c)) (bk (ab b (aa 0 b i) (aa 0 b j) (aa 0 b k) e l c))) (aa 0 (ac (ab b (aa 0 b i) (aa 0 b j) (aa 0 b k) e l c)) (bm (ab b (aa 0 b i) (aa 0 b j) (aa 0 b k) e l c))) (aa 0 (ac (ab b (aa 0 b i) (aa 0 b j) (aa 0 b k) e l c)) (bn (ab b (aa 0 b i) (aa 0 b j) (aa 0 b k) e l c))))),false,(u9 (cq (ac (ab a (aa 0 a f) (aa 0 a g) (aa 0 a h) (d * c) (1:Int) c)) (aa 0 (ac (ab a (aa 0 a f) (aa 0 a g) (aa 0 a h) (d * c) (1:Int) c)) (bk (ab a (aa 0 a f) (aa 0 a g) (aa 0 a h) (d * c) (1:Int) c))) (aa 0 (ac (ab a (aa 0 a f) (aa 0 a g) (aa 0 a h) (d * c) (1:Int) c)) (bm (ab a (aa 0 a f) (aa 0 a g) (aa 0 a h) (d * c) (1:Int) c))) (aa 0 (ac (ab a (aa 0 a f) (aa 0 a g) (aa 0 a h) (d * c) (1:Int) c)) (bn (ab a (aa 0 a f) (aa 0 a g) (aa 0 a h) (d * c) (1:Int) c))) (ac (ab b (aa 0 b i) (aa 0 b j) (aa 0 b k) e l c)) (aa 0 (ac (ab b (aa 0 b i) (aa 0 b j) (aa 0 b k) e l c)) (bk (ab b (aa 0 b i) (aa 0 b j) (aa 0 b k) e l c))) (aa 0 (ac (ab b (aa 0 b i) (aa 0 b j) (aa 0 b k) e l c)) (bm (ab b (aa 0 b i) (aa 0 b j) (aa 0 b k) e l c))) (aa 0 (ac (ab b (aa 0 b i) (aa 0 b j) (aa 0 b k) e l c)) (bn (ab b (aa 0 b i) (aa 0 b j) (aa 0 b k) e l c))))),(va (cq (ac (ab a (aa 0 a f) (aa 0 a g) (aa 0 a h) (d * c) (1:Int) c)) (aa 0 (ac (ab a (aa 0 a f) (aa 0 a g) (aa 0 a h) (d * c) (1:Int) c)) (bk (ab a (aa 0 a f) (aa 0 a g) (aa 0 a h) (d * c) (1:Int) c))) (aa 0 (ac (ab a (aa 0 a f) (aa 0 a g) (aa 0 a h) (d * c) (1:Int) c)) (bm (ab a (aa 0 a f) (aa 0 a g) (aa 0 a h) (d * c) (1:Int) c))) (aa 0 (ac (ab a (aa 0 a f) (aa 0 a g) (aa 0 a h) (d * c) (1:Int) c)) (bn (ab a (aa 0 a f) (aa 0 a g) (aa 0 a h) (d * c) (1:Int) c))) (ac (ab b (aa 0 b i) (aa 0 b j) (aa 0 b k) e l c)) (aa 0 (ac (ab b (aa 0 b i) (aa 0 b j) (aa 0 b k) e l c)) (bk (ab b (aa 0 b i) (aa 0 b j) (aa 0 b k) e l c))) (aa 0 (ac (ab b (aa 0 b i) (aa 0 b j) (aa 0 b k) e l c)) (bm (ab b (aa 0 b i) (aa 0 b j) (aa 0 b k) e l c))) (aa 0 (ac (ab b (aa 0 b i) (aa 0 b j) (aa 0 b k) e l c)) (bn (ab b (aa 0 b i) (aa 0 b j) (aa 0 b k) e l c))))),(vb (cq (ac (ab a (aa 0 a f) (aa 0 a g) (aa 0 a h) (d * c) (1:Int) c)) (aa 0 (ac (ab a (aa 0 a f) (aa 0 a g) (aa 0 a h) (d * c) (1:Int) c)) (bk (ab a (aa 0 a f) (aa 0 a g) (aa 0 a h) (d * c) (1:Int) c))) (aa 0 (ac (ab a (aa 0 a f) (aa 0 a g) (aa 0 a h) (d * c) (1:Int) c)) (bm (ab a (aa 0 a f) (aa 0 a g) (aa 0 a h) (d * c) (1:Int) c))) (aa 0 (ac (ab a (aa 0 a f) (aa 0 a g) (aa 0 a h) (d * c) (1:Int) c)) (bn (ab a (aa 0 a f) (aa 0 a g) (aa 0 a h) (d * c) (1:Int) c))) (ac (ab b (aa 0 b i) (aa 0 b j) (aa 0 b k) e l c)) (aa 0 (ac (ab b (aa 0 b i) (aa 0 b j) (aa 0 b k) e l c)) (bk (ab b (aa 0 b i) (aa 0 b j) (aa 0 b k) e l c))) (aa 0 (ac (ab b (aa 0 b i) (aa 0 b j) (aa 0 b k) e l c)) (bm (ab b (aa 0 b i) (aa 0 b j) (aa 0 b k) e l c))) (aa 0 (ac (ab b (aa 0 b i) (aa 0 b j) (aa 0 b k) e l c)) (bn (ab b (aa 0 b i) (aa 0 b j) (aa 0 b k) e l c))))),(vc (cq (ac (ab a (aa 0 a f) (aa 0 a g) (aa 0 a h) (d * c) (1:Int) c)) (aa 0 (ac (ab a (aa 0 a f) (aa 0 a g) (aa 0 a h) (d * c) (1:Int) c)) (bk (ab a (aa 0 a f) (aa 0 a g) (aa 0 a h) (d * c) (1:Int) c))) (aa 0 (ac (ab a (aa 0 a f) (aa 0 a g) (aa 0 a h) (d * c) (1:Int) c)) (bm (ab a (aa 0 a f) (aa 0 a g) (aa 0 a h) (d * c) (1:Int) c))) (aa 0 (ac (ab a (aa 0 a f) (aa 0 a g) (aa 0 a h) (d * c) (1:Int) c)) (bn (ab a (aa 0 a f) (aa 0 a g) (aa 0 a h) (d * c) (1:Int) c))) (ac (ab b (aa 0 b i) (aa 0 b j) (aa 0 b k) e l c)) (aa 0 (ac (ab b (aa 0 b i) (aa 0 b j) (aa 0 b k) e l c)) (bk (ab b (aa 0 b i) (aa 0 b j) (aa 0 b k) e l c))) (aa 0 (ac (ab b (aa 0 b i) (aa 0 b j) (aa 0 b k) e l c)) (bm (ab b (aa 0 b i) (aa 0 b j) (aa 0 b k) e l c))) (aa 0 (ac (ab b (aa 0 b i) (aa 0 b j) (aa 0 b k) e l c)) (bn (ab b (aa 0 b i) (aa 0 b j) (aa 0 b k) e l c))))),(vd (cq (ac (ab a (aa 0 a f) (aa 0 a g) (aa 0 a h) (d * c) (1:Int) c)) (aa 0 (ac (ab a (aa 0 a f) (aa 0 a g) (aa 0 a h) (d * c) (1:Int) c)) (bk (ab a (aa 0 a f) (aa 0 a g) (aa 0 a h) (d * c) (1:Int) c))) (aa 0 (ac (ab a (aa 0 a f) (aa 0 a g) (aa 0 a h) (d * c) (1:Int) c)) (bm (ab a (aa 0 a f) (aa 0 a g) (aa 0 a h) (d * c) (1:Int) c))) (aa 0 (ac (ab a (aa 0 a f) (aa 0 a g) (aa 0 a h) (d * c) (1:Int) c)) (bn (ab a (aa 0 a f) (aa 0 a g) (aa 0 a h) (d * c) (1:Int) c))) (ac (ab b (aa 0 b i) (aa 0 b j) (aa 0 b k) e l c)) (aa 0 (ac (ab b (aa 0 b i) (aa 0 b j) (aa 0 b k) e l c)) (bk (ab b (aa 0 b i) (aa 0 b j) (aa 0 b k) e l c))) (aa 0 (ac (ab b (aa 0 b i) (aa 0 b j) (aa 0 b k) e l c)) (bm (ab b (aa 0 b i) (aa 0 b j) (aa 0 b k) e l c))) (aa 0 (ac (ab b (aa 0 b i) (aa 0 b j) (aa 0 b k) e l c)) (bn (ab b (aa 0 b i) (aa 0 b j) (aa 0 b k) e l c)))))))
def D6(a:Bool)(b:Bool)(c:List Int)(d:Nat)(e:Nat)(f:Int) :Nat×Bool×(List Int)×Nat×Nat×Int→aC:=fun (g,h,i,j,k,l)=>⟨ag 65 [(11,.ptr 0 1 0 0),(13,.ptr 1 1 0 0),(14,.int .i64 ((g:Nat):Int)),(15,.ptr 2 1 0 0)],[(0,.vs [.bool false a,.nsl,.int .i64 (0:Int)]),(1,.vs [.bool false b,.imm .free (.ns .u64 c) 1 1 d e,.int .i64 f]),(2,.vs [.bool false h,.imm .free (.ns .u64 i) 1 1 j k,.int .i64 l])],3⟩
def qH(b:Int)(a:Int)(k:Nat)(f:List Bool)(d:List (List Int))(g:List Int)(c:Int)(l:Nat)(h:List Bool)(e:List (List Int))(i:List Int)(j:Nat) :T ((Nat×Bool×(List Int)×Nat×Nat×Int)⊕(cm)) :=
  .ask (((j:Nat):Int) != (0:Int))
    (.leaf (.inr (.r0 j false ([]:List Int) 0 0 (0:Int))))
    (.need (dP .i64 (b * c))<|.need (dP .i64 ((b * c)+a))<|.need (iE ((b * c)+a) k)<|.need (iX (Int.toNat ((b * c)+a)) (List.length f))<|.need (iX (Int.toNat ((b * c)+a)) (List.length d))<|.need (iX (Int.toNat ((b * c)+a)) (List.length g))<|.need (iE a l)<|.need (iX (Int.toNat a) (List.length h))<|.need (iX (Int.toNat a) (List.length e))<|.need (iX (Int.toNat a) (List.length i))<|.need (aI 0 (List.length (List.getD d (Int.toNat ((b * c)+a)) [])) (List.getD d (Int.toNat ((b * c)+a)) []))<|.need (aI 0 (List.length (List.getD e (Int.toNat a) [])) (List.getD e (Int.toNat a) []))<|.need (qa (an (List.getD f (Int.toNat ((b * c)+a)) false) (aa 0 (List.length (List.getD d (Int.toNat ((b * c)+a)) [])) (List.getD d (Int.toNat ((b * c)+a)) [])) (List.getD g (Int.toNat ((b * c)+a)) 0) (List.getD h (Int.toNat a) false) (aa 0 (List.length (List.getD e (Int.toNat a) [])) (List.getD e (Int.toNat a) [])) (List.getD i (Int.toNat a) 0)))<|.leaf (.inl ((l9 (an (List.getD f (Int.toNat ((b * c)+a)) false) (aa 0 (List.length (List.getD d (Int.toNat ((b * c)+a)) [])) (List.getD d (Int.toNat ((b * c)+a)) [])) (List.getD g (Int.toNat ((b * c)+a)) 0) (List.getD h (Int.toNat a) false) (aa 0 (List.length (List.getD e (Int.toNat a) [])) (List.getD e (Int.toNat a) [])) (List.getD i (Int.toNat a) 0))),(cF (an (List.getD f (Int.toNat ((b * c)+a)) false) (aa 0 (List.length (List.getD d (Int.toNat ((b * c)+a)) [])) (List.getD d (Int.toNat ((b * c)+a)) [])) (List.getD g (Int.toNat ((b * c)+a)) 0) (List.getD h (Int.toNat a) false) (aa 0 (List.length (List.getD e (Int.toNat a) [])) (List.getD e (Int.toNat a) [])) (List.getD i (Int.toNat a) 0))),(ct (an (List.getD f (Int.toNat ((b * c)+a)) false) (aa 0 (List.length (List.getD d (Int.toNat ((b * c)+a)) [])) (List.getD d (Int.toNat ((b * c)+a)) [])) (List.getD g (Int.toNat ((b * c)+a)) 0) (List.getD h (Int.toNat a) false) (aa 0 (List.length (List.getD e (Int.toNat a) [])) (List.getD e (Int.toNat a) [])) (List.getD i (Int.toNat a) 0))),(cu (an (List.getD f (Int.toNat ((b * c)+a)) false) (aa 0 (List.length (List.getD d (Int.toNat ((b * c)+a)) [])) (List.getD d (Int.toNat ((b * c)+a)) [])) (List.getD g (Int.toNat ((b * c)+a)) 0) (List.getD h (Int.toNat a) false) (aa 0 (List.length (List.getD e (Int.toNat a) [])) (List.getD e (Int.toNat a) [])) (List.getD i (Int.toNat a) 0))),(cv (an (List.getD f (Int.toNat ((b * c)+a)) false) (aa 0 (List.length (List.getD d (Int.toNat ((b * c)+a)) [])) (List.getD d (Int.toNat ((b * c)+a)) [])) (List.getD g (Int.toNat ((b * c)+a)) 0) (List.getD h (Int.toNat a) false) (aa 0 (List.length (List.getD e (Int.toNat a) [])) (List.getD e (Int.toNat a) [])) (List.getD i (Int.toNat a) 0))),(cG (an (List.getD f (Int.toNat ((b * c)+a)) false) (aa 0 (List.length (List.getD d (Int.toNat ((b * c)+a)) [])) (List.getD d (Int.toNat ((b * c)+a)) [])) (List.getD g (Int.toNat ((b * c)+a)) 0) (List.getD h (Int.toNat a) false) (aa 0 (List.length (List.getD e (Int.toNat a) [])) (List.getD e (Int.toNat a) [])) (List.getD i (Int.toNat a) 0))))))
def D7:Nat×Bool×(List Int)×Nat×Nat×Int→aC:=fun (a,b,c,d,e,f)=>⟨ag 65 [(11,.ptr 0 1 0 0),(12,.int .i64 ((a:Nat):Int))],[(0,.vs [.bool false b,.imm .free (.ns .u64 c) 1 1 d e,.int .i64 f])],1⟩
def qI(g:Bool)(a:List Int)(b:Nat)(c:Nat)(h:Int)(k:Nat)(i:Bool)(d:List Int)(e:Nat)(f:Nat)(j:Int) :T ((Nat×Bool×(List Int)×Nat×Nat×Int)⊕(cm)) :=
  .ask (((k:Nat):Int) != (0:Int))
    (.leaf (.inr (.r0 k false ([]:List Int) 0 0 (0:Int))))
    (.need (aI b c a)<|.need (aI e f d)<|.need (A7 (dF g (aa b c a) h i (aa e f d) j))<|.leaf (.inl ((Aw (dF g (aa b c a) h i (aa e f d) j)),(Ax (dF g (aa b c a) h i (aa e f d) j)),(Ay (dF g (aa b c a) h i (aa e f d) j)),(Az (dF g (aa b c a) h i (aa e f d) j)),(AA (dF g (aa b c a) h i (aa e f d) j)),(AB (dF g (aa b c a) h i (aa e f d) j)))))
def D8(a:Nat)(b:Bool)(c:List Int)(d:Nat)(e:Nat)(f:Int) :T ((Empty)⊕(cm)) :=
  .leaf (.inr (.r0 a b c d e f))
def bC(a:Int)(b:Int)(c:Nat)(d:List Bool)(e:List (List Int))(f:List Int)(g:Int)(h:Nat)(i:List Bool)(j:List (List Int))(k:List Int)(l:Int)(m:Nat)(n:List Bool)(o:List (List Int))(p:List Int)(q:Int)(r:Nat)(s:List Bool)(t:List (List Int))(u:List Int) :Option cm:=l6 (ax ((wj a b c d e f g h i j k l).run) fun (v,N,w,x,y,z,A) =>
  ax ((qH a b m n o p q r s t u v).run) fun (B,C,D,E,F,G) =>
  ax ((qI w x y z A B C D E F G).run) fun (H,I,J,K,L,M) =>
  (D8 H I J K L M).run)
theorem QA(d:Int)(e:Int)(P:Lv)(Q:Lv)(f:Nat)(q:List Bool)(r:List (List Int))(s:List Int)(R:Lv)(S:Int)(t:Int)(T:Lv)(u:List Nat)(U:Lv)(V:Lv)(g:Nat)(v:List Bool)(w:List (List Int))(y:List Int)(W:Lv)(X:Int)(z:Int)(Y:Lv)(A:List Nat)(B:Lv)(D:Lv)(b:Nat)(i:List Bool)(j:List (List Int))(k:List Int)(E:Lv)(F:Int)(l:Int)(G:Lv)(m:List Nat)(H:Lv)(I:Lv)(c:Nat)(n:List Bool)(o:List (List Int))(p:List Int){x:cm}(h:bC d e f q r s t g v w y z b i j k l c n o p=some x) :ak prog bJ [] [.int .i64 d,.int .i64 e,.iptr P (.vs [.imm Q (.cols f [.cb q,.cns .u64 r,.ci .i64 s]) 3 3 0 f]) 1 0 0,.iptr R (.vs [.int .i64 S,.int .i64 t,.imm T (.fl u) 1 1 0 (List.length u)]) 1 0 0,.iptr U (.vs [.imm V (.cols g [.cb v,.cns .u64 w,.ci .i64 y]) 3 3 0 g]) 1 0 0,.iptr W (.vs [.int .i64 X,.int .i64 z,.imm Y (.fl A) 1 1 0 (List.length A)]) 1 0 0,.iptr B (.vs [.imm D (.cols b [.cb i,.cns .u64 j,.ci .i64 k]) 3 3 0 b]) 1 0 0,.iptr E (.vs [.int .i64 F,.int .i64 l,.imm G (.fl m) 1 1 0 (List.length m)]) 1 0 0,.iptr H (.vs [.imm I (.cols c [.cb n,.cns .u64 o,.ci .i64 p]) 3 3 0 c]) 1 0 0] (yn x) :=
  Sg.contract false yn (by kernel_rfl:prog.funcs[bJ]? = some (FN bJ)) (by kernel_rfl:(FN bJ).body=some (bp bJ)) (Sg.cut 2 wi (Sg.seg (C:=C0) ah rf 60 (qG.take 2) (aL (FN bJ) [] [.int .i64 d,.int .i64 e,.iptr P (.vs [.imm Q (.cols f [.cb q,.cns .u64 r,.ci .i64 s]) 3 3 0 f]) 1 0 0,.iptr R (.vs [.int .i64 S,.int .i64 t,.imm T (.fl u) 1 1 0 (List.length u)]) 1 0 0,.iptr U (.vs [.imm V (.cols g [.cb v,.cns .u64 w,.ci .i64 y]) 3 3 0 g]) 1 0 0,.iptr W (.vs [.int .i64 X,.int .i64 z,.imm Y (.fl A) 1 1 0 (List.length A)]) 1 0 0,.iptr B (.vs [.imm D (.cols b [.cb i,.cns .u64 j,.ci .i64 k]) 3 3 0 b]) 1 0 0,.iptr E (.vs [.int .i64 F,.int .i64 l,.imm G (.fl m) 1 1 0 (List.length m)]) 1 0 0,.iptr H (.vs [.imm I (.cols c [.cb n,.cns .u64 o,.ci .i64 p]) 3 3 0 c]) 1 0 0]) (wj d e f q r s t g v w y z) (D5 d e B D b i j k E F l G m H I c n o p) oS [⟨[],[0,336],[0,1,6,7,8,11,13,14]⟩] (by kernel_rfl)) (fun a=>by obtain ⟨Z,O,J,K,L,M,N⟩:=a;exact Sg.cut 3 wi (Sg.seg (C:=C0) ah rf 60 ((qG.drop 2).take 3) (D5 d e B D b i j k E F l G m H I c n o p (Z,O,J,K,L,M,N)) (qH d e b i j k l c n o p Z) (D6 O J K L M N) oS [⟨[(.cell 0 1,.fre 1 1 (.ns .u64 ([]:List Int)))],[0],[11,12]⟩,⟨[],[0,1,306],[11,13,14,15]⟩] (by kernel_rfl)) (fun a=>by obtain ⟨a0,a1,a2,a3,a4,a7⟩:=a;exact Sg.cut 3 wi (Sg.seg (C:=C0) ah rf 60 (((qG.drop 2).drop 3).take 3) (D6 O J K L M N (a0,a1,a2,a3,a4,a7)) (qI J K L M N a0 a1 a2 a3 a4 a7) D7 oS [⟨[(.cell 0 1,.fre 1 1 (.ns .u64 ([]:List Int)))],[0],[11,12]⟩,⟨[],[0],[11,12]⟩] (by kernel_rfl)) (fun a=>by obtain ⟨a8,a9,b0,b1,b4,b5⟩:=a;exact Sg.seg (C:=C0) ah rf 60 (((qG.drop 2).drop 3).drop 3) (D7 (a8,a9,b0,b1,b4,b5)) (D8 a8 a9 b0 b1 b4 b5) (fun a:Empty=>a.elim) oS [⟨[],[0],[11,12]⟩] (by kernel_rfl)))))
    (fun x=>by cases x with | r0 b6 b7 b8 c0 c1 c2=>exact ⟨.inr rfl,[.agg [.bool false b7,.imm .free (.ns .u64 b8) 1 1 c0 c1,.int .i64 c2],.int .i64 ((b6:Nat):Int)],[],by kernel_rfl,trivial,by kernel_rfl⟩) h
def m5:Option cm→Bool
  | some _=>true
  | none=>false
def iO:Option cm→Nat
  | some (.r0 x _ _ _ _ _)=>x
  | _=>0
def oT:Option cm→Bool
  | some (.r0 _ x _ _ _ _)=>x
  | _=>false
def kH:Option cm→List Int
  | some (.r0 _ _ x _ _ _)=>x
  | _=>[]
def kJ:Option cm→Nat
  | some (.r0 _ _ _ x _ _)=>x
  | _=>0
def kK:Option cm→Nat
  | some (.r0 _ _ _ _ x _)=>x
  | _=>0
def oU:Option cm→Int
  | some (.r0 _ _ _ _ _ x)=>x
  | _=>0
theorem QB{x:Option cm}(h:m5 x=true) :x=some (.r0 (iO x) (oT x) (kH x) (kJ x) (kK x) (oU x)):=by
  unfold m5 at h
  split at h <;> first | rfl | (cases h;done) | (rename_i y;cases y;rfl)
def E6:aD:=bW bJ (.cons (.int .i64) (.cons (.int .i64) (.cons (.ivs (.cons (.cols [.cb,.cns .u64,.ci .i64]) .nil) 1 0 0) (.cons (.ivs (.cons (.int .i64) (.cons (.int .i64) (.cons .fl .nil))) 1 0 0) (.cons (.ivs (.cons (.cols [.cb,.cns .u64,.ci .i64]) .nil) 1 0 0) (.cons (.ivs (.cons (.int .i64) (.cons (.int .i64) (.cons .fl .nil))) 1 0 0) (.cons (.ivs (.cons (.cols [.cb,.cns .u64,.ci .i64]) .nil) 1 0 0) (.cons (.ivs (.cons (.int .i64) (.cons (.int .i64) (.cons .fl .nil))) 1 0 0) (.cons (.ivs (.cons (.cols [.cb,.cns .u64,.ci .i64]) .nil) 1 0 0) .nil))))))))) fun t=>[⟨yn (.r0 (iO (bC t.1 t.2.1 t.2.2.1.2.1.2.1 t.2.2.1.2.1.2.2.1 t.2.2.1.2.1.2.2.2.1 t.2.2.1.2.1.2.2.2.2.1 t.2.2.2.1.2.2.1 t.2.2.2.2.1.2.1.2.1 t.2.2.2.2.1.2.1.2.2.1 t.2.2.2.2.1.2.1.2.2.2.1 t.2.2.2.2.1.2.1.2.2.2.2.1 t.2.2.2.2.2.1.2.2.1 t.2.2.2.2.2.2.1.2.1.2.1 t.2.2.2.2.2.2.1.2.1.2.2.1 t.2.2.2.2.2.2.1.2.1.2.2.2.1 t.2.2.2.2.2.2.1.2.1.2.2.2.2.1 t.2.2.2.2.2.2.2.1.2.2.1 t.2.2.2.2.2.2.2.2.1.2.1.2.1 t.2.2.2.2.2.2.2.2.1.2.1.2.2.1 t.2.2.2.2.2.2.2.2.1.2.1.2.2.2.1 t.2.2.2.2.2.2.2.2.1.2.1.2.2.2.2.1)) (oT (bC t.1 t.2.1 t.2.2.1.2.1.2.1 t.2.2.1.2.1.2.2.1 t.2.2.1.2.1.2.2.2.1 t.2.2.1.2.1.2.2.2.2.1 t.2.2.2.1.2.2.1 t.2.2.2.2.1.2.1.2.1 t.2.2.2.2.1.2.1.2.2.1 t.2.2.2.2.1.2.1.2.2.2.1 t.2.2.2.2.1.2.1.2.2.2.2.1 t.2.2.2.2.2.1.2.2.1 t.2.2.2.2.2.2.1.2.1.2.1 t.2.2.2.2.2.2.1.2.1.2.2.1 t.2.2.2.2.2.2.1.2.1.2.2.2.1 t.2.2.2.2.2.2.1.2.1.2.2.2.2.1 t.2.2.2.2.2.2.2.1.2.2.1 t.2.2.2.2.2.2.2.2.1.2.1.2.1 t.2.2.2.2.2.2.2.2.1.2.1.2.2.1 t.2.2.2.2.2.2.2.2.1.2.1.2.2.2.1 t.2.2.2.2.2.2.2.2.1.2.1.2.2.2.2.1)) (kH (bC t.1 t.2.1 t.2.2.1.2.1.2.1 t.2.2.1.2.1.2.2.1 t.2.2.1.2.1.2.2.2.1 t.2.2.1.2.1.2.2.2.2.1 t.2.2.2.1.2.2.1 t.2.2.2.2.1.2.1.2.1 t.2.2.2.2.1.2.1.2.2.1 t.2.2.2.2.1.2.1.2.2.2.1 t.2.2.2.2.1.2.1.2.2.2.2.1 t.2.2.2.2.2.1.2.2.1 t.2.2.2.2.2.2.1.2.1.2.1 t.2.2.2.2.2.2.1.2.1.2.2.1 t.2.2.2.2.2.2.1.2.1.2.2.2.1 t.2.2.2.2.2.2.1.2.1.2.2.2.2.1 t.2.2.2.2.2.2.2.1.2.2.1 t.2.2.2.2.2.2.2.2.1.2.1.2.1 t.2.2.2.2.2.2.2.2.1.2.1.2.2.1 t.2.2.2.2.2.2.2.2.1.2.1.2.2.2.1 t.2.2.2.2.2.2.2.2.1.2.1.2.2.2.2.1)) (kJ (bC t.1 t.2.1 t.2.2.1.2.1.2.1 t.2.2.1.2.1.2.2.1 t.2.2.1.2.1.2.2.2.1 t.2.2.1.2.1.2.2.2.2.1 t.2.2.2.1.2.2.1 t.2.2.2.2.1.2.1.2.1 t.2.2.2.2.1.2.1.2.2.1 t.2.2.2.2.1.2.1.2.2.2.1 t.2.2.2.2.1.2.1.2.2.2.2.1 t.2.2.2.2.2.1.2.2.1 t.2.2.2.2.2.2.1.2.1.2.1 t.2.2.2.2.2.2.1.2.1.2.2.1 t.2.2.2.2.2.2.1.2.1.2.2.2.1 t.2.2.2.2.2.2.1.2.1.2.2.2.2.1 t.2.2.2.2.2.2.2.1.2.2.1 t.2.2.2.2.2.2.2.2.1.2.1.2.1 t.2.2.2.2.2.2.2.2.1.2.1.2.2.1 t.2.2.2.2.2.2.2.2.1.2.1.2.2.2.1 t.2.2.2.2.2.2.2.2.1.2.1.2.2.2.2.1)) (kK (bC t.1 t.2.1 t.2.2.1.2.1.2.1 t.2.2.1.2.1.2.2.1 t.2.2.1.2.1.2.2.2.1 t.2.2.1.2.1.2.2.2.2.1 t.2.2.2.1.2.2.1 t.2.2.2.2.1.2.1.2.1 t.2.2.2.2.1.2.1.2.2.1 t.2.2.2.2.1.2.1.2.2.2.1 t.2.2.2.2.1.2.1.2.2.2.2.1 t.2.2.2.2.2.1.2.2.1 t.2.2.2.2.2.2.1.2.1.2.1 t.2.2.2.2.2.2.1.2.1.2.2.1 t.2.2.2.2.2.2.1.2.1.2.2.2.1 t.2.2.2.2.2.2.1.2.1.2.2.2.2.1 t.2.2.2.2.2.2.2.1.2.2.1 t.2.2.2.2.2.2.2.2.1.2.1.2.1 t.2.2.2.2.2.2.2.2.1.2.1.2.2.1 t.2.2.2.2.2.2.2.2.1.2.1.2.2.2.1 t.2.2.2.2.2.2.2.2.1.2.1.2.2.2.2.1)) (oU (bC t.1 t.2.1 t.2.2.1.2.1.2.1 t.2.2.1.2.1.2.2.1 t.2.2.1.2.1.2.2.2.1 t.2.2.1.2.1.2.2.2.2.1 t.2.2.2.1.2.2.1 t.2.2.2.2.1.2.1.2.1 t.2.2.2.2.1.2.1.2.2.1 t.2.2.2.2.1.2.1.2.2.2.1 t.2.2.2.2.1.2.1.2.2.2.2.1 t.2.2.2.2.2.1.2.2.1 t.2.2.2.2.2.2.1.2.1.2.1 t.2.2.2.2.2.2.1.2.1.2.2.1 t.2.2.2.2.2.2.1.2.1.2.2.2.1 t.2.2.2.2.2.2.1.2.1.2.2.2.2.1 t.2.2.2.2.2.2.2.1.2.2.1 t.2.2.2.2.2.2.2.2.1.2.1.2.1 t.2.2.2.2.2.2.2.2.1.2.1.2.2.1 t.2.2.2.2.2.2.2.2.1.2.1.2.2.2.1 t.2.2.2.2.2.2.2.2.1.2.1.2.2.2.2.1))),[m5 (bC t.1 t.2.1 t.2.2.1.2.1.2.1 t.2.2.1.2.1.2.2.1 t.2.2.1.2.1.2.2.2.1 t.2.2.1.2.1.2.2.2.2.1 t.2.2.2.1.2.2.1 t.2.2.2.2.1.2.1.2.1 t.2.2.2.2.1.2.1.2.2.1 t.2.2.2.2.1.2.1.2.2.2.1 t.2.2.2.2.1.2.1.2.2.2.2.1 t.2.2.2.2.2.1.2.2.1 t.2.2.2.2.2.2.1.2.1.2.1 t.2.2.2.2.2.2.1.2.1.2.2.1 t.2.2.2.2.2.2.1.2.1.2.2.2.1 t.2.2.2.2.2.2.1.2.1.2.2.2.2.1 t.2.2.2.2.2.2.2.1.2.2.1 t.2.2.2.2.2.2.2.2.1.2.1.2.1 t.2.2.2.2.2.2.2.2.1.2.1.2.2.1 t.2.2.2.2.2.2.2.2.1.2.1.2.2.2.1 t.2.2.2.2.2.2.2.2.1.2.1.2.2.2.2.1)]⟩]
theorem LE:aM prog E6:=aG fun t=>(aH (fun h=>QA t.1 t.2.1 t.2.2.1.1 t.2.2.1.2.1.1 t.2.2.1.2.1.2.1 t.2.2.1.2.1.2.2.1 t.2.2.1.2.1.2.2.2.1 t.2.2.1.2.1.2.2.2.2.1 t.2.2.2.1.1 t.2.2.2.1.2.1 t.2.2.2.1.2.2.1 t.2.2.2.1.2.2.2.1.1 t.2.2.2.1.2.2.2.1.2 t.2.2.2.2.1.1 t.2.2.2.2.1.2.1.1 t.2.2.2.2.1.2.1.2.1 t.2.2.2.2.1.2.1.2.2.1 t.2.2.2.2.1.2.1.2.2.2.1 t.2.2.2.2.1.2.1.2.2.2.2.1 t.2.2.2.2.2.1.1 t.2.2.2.2.2.1.2.1 t.2.2.2.2.2.1.2.2.1 t.2.2.2.2.2.1.2.2.2.1.1 t.2.2.2.2.2.1.2.2.2.1.2 t.2.2.2.2.2.2.1.1 t.2.2.2.2.2.2.1.2.1.1 t.2.2.2.2.2.2.1.2.1.2.1 t.2.2.2.2.2.2.1.2.1.2.2.1 t.2.2.2.2.2.2.1.2.1.2.2.2.1 t.2.2.2.2.2.2.1.2.1.2.2.2.2.1 t.2.2.2.2.2.2.2.1.1 t.2.2.2.2.2.2.2.1.2.1 t.2.2.2.2.2.2.2.1.2.2.1 t.2.2.2.2.2.2.2.1.2.2.2.1.1 t.2.2.2.2.2.2.2.1.2.2.2.1.2 t.2.2.2.2.2.2.2.2.1.1 t.2.2.2.2.2.2.2.2.1.2.1.1 t.2.2.2.2.2.2.2.2.1.2.1.2.1 t.2.2.2.2.2.2.2.2.1.2.1.2.2.1 t.2.2.2.2.2.2.2.2.1.2.1.2.2.2.1 t.2.2.2.2.2.2.2.2.1.2.1.2.2.2.2.1 (QB h)) aR)
def E7:List aD:=E6 :: TH
theorem cY:aX prog (aZ E7):=am LE rf
end
end Go.Plb.Seat
namespace Go.Plb.Seat
open Go Go.Plb
set_option linter.unusedVariables false
set_option maxRecDepth 100000
noncomputable section
inductive aq where
  | r0 (a:Nat) (b:Bool) (c:List Int) (d:Nat) (e:Nat) (f:Int)
def aS:aq→AE×aC
  | .r0 a b c d e f=>(.ret,⟨ag 46 [(4,.ptr 0 1 0 0),(5,.int .i64 ((a:Nat):Int))],[(0,.vs [.bool false b,.imm .free (.ns .u64 c) 1 1 d e,.int .i64 f])],1⟩)
theorem aV:lc aS:=by intro x;cases x <;> (intro h;cases h)
theorem iC(id:Nat) :qp id aS:=by intro x;cases x <;> (intro h;cases h)
def iW:aq→ju
  | .r0 a b c d e f=>⟨.tup [.agg [.bool false b,.imm .free (.ns .u64 c) 1 1 d e,.int .i64 f],.int .i64 ((a:Nat):Int)],[]⟩
def eN:List Code:=bD (bp cW)
def m6(h:Int)(i:Int)(j:Lv)(k:Lv)(a:Nat)(l:List Bool)(m:List (List Int))(n:List Int)(o:Lv)(p:Int)(q:Int)(r:Lv)(b:List Nat)(s:Lv)(t:Lv)(c:Nat)(u:List Bool)(v:List (List Int))(w:List Int)(x:Lv)(y:Int)(z:Int)(A:Lv)(d:List Nat)(B:Lv)(C:Lv)(e:Nat)(D:List Bool)(E:List (List Int))(F:List Int)(G:Lv)(H:Int)(I:Int)(J:Lv)(f:List Nat)(K:Lv)(L:Lv)(g:Nat)(M:List Bool)(N:List (List Int))(O:List Int)(P:Bool) :aC:=⟨ag 46 [(1,.fn (.func bJ) [] [.iptr j (.vs [.imm k (.cols a [.cb l,.cns .u64 m,.ci .i64 n]) 3 3 0 a]) 1 0 0,.iptr o (.vs [.int .i64 p,.int .i64 q,.imm r (.fl b) 1 1 0 (List.length b)]) 1 0 0,.iptr s (.vs [.imm t (.cols c [.cb u,.cns .u64 v,.ci .i64 w]) 3 3 0 c]) 1 0 0,.iptr x (.vs [.int .i64 y,.int .i64 z,.imm A (.fl d) 1 1 0 (List.length d)]) 1 0 0,.iptr B (.vs [.imm C (.cols e [.cb D,.cns .u64 E,.ci .i64 F]) 3 3 0 e]) 1 0 0,.iptr G (.vs [.int .i64 H,.int .i64 I,.imm J (.fl f) 1 1 0 (List.length f)]) 1 0 0,.iptr K (.vs [.imm L (.cols g [.cb M,.cns .u64 N,.ci .i64 O]) 3 3 0 g]) 1 0 0]),(2,.ptr 0 1 0 0),(4,.ptr 1 1 0 0)],[(0,.vs [.int .i64 h,.int .i64 i]),(1,.vs [.bool false P,.nsl,.int .i64 (0:Int)])],2⟩
def ml:T ((Bool)⊕(aq)) :=
  .leaf (.inl false)
def cH:List Code:=bD (Mo (((eN.drop 1)).headD .skip))
def m7(a:Int)(i:Int)(j:Lv)(k:Lv)(b:Nat)(l:List Bool)(m:List (List Int))(n:List Int)(o:Lv)(p:Int)(q:Int)(r:Lv)(c:List Nat)(s:Lv)(t:Lv)(d:Nat)(u:List Bool)(v:List (List Int))(w:List Int)(x:Lv)(y:Int)(z:Int)(A:Lv)(e:List Nat)(B:Lv)(C:Lv)(f:Nat)(D:List Bool)(E:List (List Int))(F:List Int)(G:Lv)(H:Int)(I:Int)(J:Lv)(g:List Nat)(K:Lv)(L:Lv)(h:Nat)(M:List Bool)(N:List (List Int))(O:List Int)(P:Bool)(_:Unit) :aC:=⟨ag 46 [(1,.fn (.func bJ) [] [.iptr j (.vs [.imm k (.cols b [.cb l,.cns .u64 m,.ci .i64 n]) 3 3 0 b]) 1 0 0,.iptr o (.vs [.int .i64 p,.int .i64 q,.imm r (.fl c) 1 1 0 (List.length c)]) 1 0 0,.iptr s (.vs [.imm t (.cols d [.cb u,.cns .u64 v,.ci .i64 w]) 3 3 0 d]) 1 0 0,.iptr x (.vs [.int .i64 y,.int .i64 z,.imm A (.fl e) 1 1 0 (List.length e)]) 1 0 0,.iptr B (.vs [.imm C (.cols f [.cb D,.cns .u64 E,.ci .i64 F]) 3 3 0 f]) 1 0 0,.iptr G (.vs [.int .i64 H,.int .i64 I,.imm J (.fl g) 1 1 0 (List.length g)]) 1 0 0,.iptr K (.vs [.imm L (.cols h [.cb M,.cns .u64 N,.ci .i64 O]) 3 3 0 h]) 1 0 0]),(2,.ptr 0 1 0 0),(4,.ptr 1 1 0 0),(6,.nsl),(7,.int .i64 (0:Int)),(13,.int .i64 a),(14,.int .i64 (0:Int))],[(0,.vs [.int .i64 a,.int .i64 i]),(1,.vs [.bool false P,.nsl,.int .i64 (0:Int)])],2⟩
def mn:T ((Unit)⊕(aq)) :=
  .leaf (.inl ())
def cI(a:Int)(i:Int)(j:Lv)(k:Lv)(b:Nat)(l:List Bool)(m:List (List Int))(n:List Int)(o:Lv)(p:Int)(q:Int)(r:Lv)(c:List Nat)(s:Lv)(t:Lv)(d:Nat)(u:List Bool)(v:List (List Int))(w:List Int)(x:Lv)(y:Int)(z:Int)(A:Lv)(e:List Nat)(B:Lv)(C:Lv)(f:Nat)(D:List Bool)(E:List (List Int))(F:List Int)(G:Lv)(H:Int)(I:Int)(J:Lv)(g:List Nat)(K:Lv)(L:Lv)(h:Nat)(M:List Bool)(N:List (List Int))(O:List Int)(P:Bool) :Nat×Nat×Nat×Nat×Nat×(List Bool)×(List (List Int))×(List Int)→aC:=fun (Q,R,S,T,U,V,W,X)=>⟨ag 46 [(1,.fn (.func bJ) [] [.iptr j (.vs [.imm k (.cols b [.cb l,.cns .u64 m,.ci .i64 n]) 3 3 0 b]) 1 0 0,.iptr o (.vs [.int .i64 p,.int .i64 q,.imm r (.fl c) 1 1 0 (List.length c)]) 1 0 0,.iptr s (.vs [.imm t (.cols d [.cb u,.cns .u64 v,.ci .i64 w]) 3 3 0 d]) 1 0 0,.iptr x (.vs [.int .i64 y,.int .i64 z,.imm A (.fl e) 1 1 0 (List.length e)]) 1 0 0,.iptr B (.vs [.imm C (.cols f [.cb D,.cns .u64 E,.ci .i64 F]) 3 3 0 f]) 1 0 0,.iptr G (.vs [.int .i64 H,.int .i64 I,.imm J (.fl g) 1 1 0 (List.length g)]) 1 0 0,.iptr K (.vs [.imm L (.cols h [.cb M,.cns .u64 N,.ci .i64 O]) 3 3 0 h]) 1 0 0]),(2,.ptr 0 1 0 0),(4,.ptr 1 1 0 0),(6,.sl 2 3 3 0 Q R),(7,.int .i64 ((S:Nat):Int)),(13,.int .i64 a),(14,.int .i64 ((T:Nat):Int))],[(0,.vs [.int .i64 a,.int .i64 i]),(1,.vs [.bool false P,.nsl,.int .i64 (0:Int)]),(2,.cols U [.cb V,.cns .u64 W,.ci .i64 X])],3⟩
def bx(a:Bool) :Nat×Nat×Nat×Nat×(List Bool)×(List (List Int))×(List Int)→aC:=fun (b,c,d,e,f,g,h)=>⟨ag 46 [(4,.ptr 0 1 0 0),(6,.sl 1 3 3 0 b c),(7,.int .i64 ((d:Nat):Int))],[(0,.vs [.bool false a,.nsl,.int .i64 (0:Int)]),(1,.cols e [.cb f,.cns .u64 g,.ci .i64 h])],2⟩
def cJ:List Code:=bD (bE ((((cH.drop 3).take 1)).headD .skip))
def mo(a:Int)(i:Int)(j:Lv)(k:Lv)(b:Nat)(l:List Bool)(m:List (List Int))(n:List Int)(o:Lv)(p:Int)(q:Int)(r:Lv)(c:List Nat)(s:Lv)(t:Lv)(d:Nat)(u:List Bool)(v:List (List Int))(w:List Int)(x:Lv)(y:Int)(z:Int)(A:Lv)(e:List Nat)(B:Lv)(C:Lv)(f:Nat)(D:List Bool)(E:List (List Int))(F:List Int)(G:Lv)(H:Int)(I:Int)(J:Lv)(g:List Nat)(K:Lv)(L:Lv)(h:Nat)(M:List Bool)(N:List (List Int))(O:List Int)(P:Bool)(Q:Nat)(R:Nat)(S:Nat)(T:Nat)(U:Nat)(V:List Bool)(W:List (List Int))(X:List Int)(_:Unit) :aC:=⟨ag 46 [(1,.fn (.func bJ) [] [.iptr j (.vs [.imm k (.cols b [.cb l,.cns .u64 m,.ci .i64 n]) 3 3 0 b]) 1 0 0,.iptr o (.vs [.int .i64 p,.int .i64 q,.imm r (.fl c) 1 1 0 (List.length c)]) 1 0 0,.iptr s (.vs [.imm t (.cols d [.cb u,.cns .u64 v,.ci .i64 w]) 3 3 0 d]) 1 0 0,.iptr x (.vs [.int .i64 y,.int .i64 z,.imm A (.fl e) 1 1 0 (List.length e)]) 1 0 0,.iptr B (.vs [.imm C (.cols f [.cb D,.cns .u64 E,.ci .i64 F]) 3 3 0 f]) 1 0 0,.iptr G (.vs [.int .i64 H,.int .i64 I,.imm J (.fl g) 1 1 0 (List.length g)]) 1 0 0,.iptr K (.vs [.imm L (.cols h [.cb M,.cns .u64 N,.ci .i64 O]) 3 3 0 h]) 1 0 0]),(2,.ptr 0 1 0 0),(4,.ptr 1 1 0 0),(6,.sl 2 3 3 0 Q R),(7,.int .i64 ((S:Nat):Int)),(13,.int .i64 a),(14,.int .i64 ((T:Nat):Int))],[(0,.vs [.int .i64 a,.int .i64 i]),(1,.vs [.bool false P,.nsl,.int .i64 (0:Int)]),(2,.cols U [.cb V,.cns .u64 W,.ci .i64 X])],3⟩
def eO(a:Int)(b:Nat)(c:Nat)(d:Nat)(e:Nat)(f:Nat)(g:List Bool)(h:List (List Int))(i:List Int) :T ((Unit)⊕((Nat×Nat×Nat×Nat×(List Bool)×(List (List Int))×(List Int))⊕(aq))) :=
  .ask (decide (((e:Nat):Int) < a))
    (.leaf (.inl ()))
    (.leaf (.inr (.inl (b,c,d,f,g,h,i))))
def bP(a:Int)(i:Int)(j:Lv)(k:Lv)(b:Nat)(l:List Bool)(m:List (List Int))(n:List Int)(o:Lv)(p:Int)(q:Int)(r:Lv)(c:List Nat)(s:Lv)(t:Lv)(d:Nat)(u:List Bool)(v:List (List Int))(w:List Int)(x:Lv)(y:Int)(z:Int)(A:Lv)(e:List Nat)(B:Lv)(C:Lv)(f:Nat)(D:List Bool)(E:List (List Int))(F:List Int)(G:Lv)(H:Int)(I:Int)(J:Lv)(g:List Nat)(K:Lv)(L:Lv)(h:Nat)(M:List Bool)(N:List (List Int))(O:List Int)(P:Bool)(Q:Nat) :Nat×Nat×Nat×Nat×(List Bool)×(List (List Int))×(List Int)→aC:=fun (R,S,T,U,V,W,X)=>⟨ag 46 [(1,.fn (.func bJ) [] [.iptr j (.vs [.imm k (.cols b [.cb l,.cns .u64 m,.ci .i64 n]) 3 3 0 b]) 1 0 0,.iptr o (.vs [.int .i64 p,.int .i64 q,.imm r (.fl c) 1 1 0 (List.length c)]) 1 0 0,.iptr s (.vs [.imm t (.cols d [.cb u,.cns .u64 v,.ci .i64 w]) 3 3 0 d]) 1 0 0,.iptr x (.vs [.int .i64 y,.int .i64 z,.imm A (.fl e) 1 1 0 (List.length e)]) 1 0 0,.iptr B (.vs [.imm C (.cols f [.cb D,.cns .u64 E,.ci .i64 F]) 3 3 0 f]) 1 0 0,.iptr G (.vs [.int .i64 H,.int .i64 I,.imm J (.fl g) 1 1 0 (List.length g)]) 1 0 0,.iptr K (.vs [.imm L (.cols h [.cb M,.cns .u64 N,.ci .i64 O]) 3 3 0 h]) 1 0 0]),(2,.ptr 0 1 0 0),(4,.ptr 1 1 0 0),(6,.sl 2 3 3 0 R S),(7,.int .i64 ((T:Nat):Int)),(13,.int .i64 a),(14,.int .i64 ((Q:Nat):Int))],[(0,.vs [.int .i64 a,.int .i64 i]),(1,.vs [.bool false P,.nsl,.int .i64 (0:Int)]),(2,.cols U [.cb V,.cns .u64 W,.ci .i64 X])],3⟩
def dt:List Code:=bD (inBlock ((((cJ.drop 2).take 1)).headD .skip))
def mp(a:Int)(b:Int)(k:Lv)(l:Lv)(c:Nat)(m:List Bool)(n:List (List Int))(o:List Int)(p:Lv)(q:Int)(r:Int)(s:Lv)(d:List Nat)(t:Lv)(u:Lv)(e:Nat)(v:List Bool)(w:List (List Int))(x:List Int)(y:Lv)(z:Int)(A:Int)(B:Lv)(f:List Nat)(C:Lv)(D:Lv)(g:Nat)(E:List Bool)(F:List (List Int))(G:List Int)(H:Lv)(I:Int)(J:Int)(K:Lv)(h:List Nat)(L:Lv)(M:Lv)(i:Nat)(N:List Bool)(O:List (List Int))(P:List Int)(Q:Bool)(R:Nat)(S:Nat)(T:Nat)(j:Nat)(U:Nat)(V:List Bool)(W:List (List Int))(X:List Int)(_:Unit) :aC:=⟨ag 46 [(1,.fn (.func bJ) [] [.iptr k (.vs [.imm l (.cols c [.cb m,.cns .u64 n,.ci .i64 o]) 3 3 0 c]) 1 0 0,.iptr p (.vs [.int .i64 q,.int .i64 r,.imm s (.fl d) 1 1 0 (List.length d)]) 1 0 0,.iptr t (.vs [.imm u (.cols e [.cb v,.cns .u64 w,.ci .i64 x]) 3 3 0 e]) 1 0 0,.iptr y (.vs [.int .i64 z,.int .i64 A,.imm B (.fl f) 1 1 0 (List.length f)]) 1 0 0,.iptr C (.vs [.imm D (.cols g [.cb E,.cns .u64 F,.ci .i64 G]) 3 3 0 g]) 1 0 0,.iptr H (.vs [.int .i64 I,.int .i64 J,.imm K (.fl h) 1 1 0 (List.length h)]) 1 0 0,.iptr L (.vs [.imm M (.cols i [.cb N,.cns .u64 O,.ci .i64 P]) 3 3 0 i]) 1 0 0]),(2,.ptr 0 1 0 0),(4,.ptr 1 1 0 0),(6,.sl 2 3 3 0 R S),(7,.int .i64 ((T:Nat):Int)),(8,.int .i64 ((j:Nat):Int)),(13,.int .i64 a),(14,.int .i64 ((j:Nat):Int)),(18,.int .i64 b),(19,.int .i64 (0:Int))],[(0,.vs [.int .i64 a,.int .i64 b]),(1,.vs [.bool false Q,.nsl,.int .i64 (0:Int)]),(2,.cols U [.cb V,.cns .u64 W,.ci .i64 X])],3⟩
def mq:T ((Unit)⊕((Nat×Nat×Nat×Nat×(List Bool)×(List (List Int))×(List Int))⊕((Nat×Nat×Nat×Nat×(List Bool)×(List (List Int))×(List Int))⊕(aq)))) :=
  .leaf (.inl ())
def cK(a:Int)(b:Int)(k:Lv)(l:Lv)(c:Nat)(m:List Bool)(n:List (List Int))(o:List Int)(p:Lv)(q:Int)(r:Int)(s:Lv)(d:List Nat)(t:Lv)(u:Lv)(e:Nat)(v:List Bool)(w:List (List Int))(x:List Int)(y:Lv)(z:Int)(A:Int)(B:Lv)(f:List Nat)(C:Lv)(D:Lv)(g:Nat)(E:List Bool)(F:List (List Int))(G:List Int)(H:Lv)(I:Int)(J:Int)(K:Lv)(h:List Nat)(L:Lv)(M:Lv)(i:Nat)(N:List Bool)(O:List (List Int))(P:List Int)(Q:Bool)(j:Nat) :Nat×Nat×Nat×Nat×Nat×(List Bool)×(List (List Int))×(List Int)→aC:=fun (R,S,T,U,V,W,X,Y)=>⟨ag 46 [(1,.fn (.func bJ) [] [.iptr k (.vs [.imm l (.cols c [.cb m,.cns .u64 n,.ci .i64 o]) 3 3 0 c]) 1 0 0,.iptr p (.vs [.int .i64 q,.int .i64 r,.imm s (.fl d) 1 1 0 (List.length d)]) 1 0 0,.iptr t (.vs [.imm u (.cols e [.cb v,.cns .u64 w,.ci .i64 x]) 3 3 0 e]) 1 0 0,.iptr y (.vs [.int .i64 z,.int .i64 A,.imm B (.fl f) 1 1 0 (List.length f)]) 1 0 0,.iptr C (.vs [.imm D (.cols g [.cb E,.cns .u64 F,.ci .i64 G]) 3 3 0 g]) 1 0 0,.iptr H (.vs [.int .i64 I,.int .i64 J,.imm K (.fl h) 1 1 0 (List.length h)]) 1 0 0,.iptr L (.vs [.imm M (.cols i [.cb N,.cns .u64 O,.ci .i64 P]) 3 3 0 i]) 1 0 0]),(2,.ptr 0 1 0 0),(4,.ptr 1 1 0 0),(6,.sl 2 3 3 0 R S),(7,.int .i64 ((T:Nat):Int)),(8,.int .i64 ((j:Nat):Int)),(13,.int .i64 a),(14,.int .i64 ((j:Nat):Int)),(18,.int .i64 b),(19,.int .i64 ((U:Nat):Int))],[(0,.vs [.int .i64 a,.int .i64 b]),(1,.vs [.bool false Q,.nsl,.int .i64 (0:Int)]),(2,.cols V [.cb W,.cns .u64 X,.ci .i64 Y])],3⟩
def du(a:Int)(i:Int)(j:Lv)(k:Lv)(b:Nat)(l:List Bool)(m:List (List Int))(n:List Int)(o:Lv)(p:Int)(q:Int)(r:Lv)(c:List Nat)(s:Lv)(t:Lv)(d:Nat)(u:List Bool)(v:List (List Int))(w:List Int)(x:Lv)(y:Int)(z:Int)(A:Lv)(e:List Nat)(B:Lv)(C:Lv)(f:Nat)(D:List Bool)(E:List (List Int))(F:List Int)(G:Lv)(H:Int)(I:Int)(J:Lv)(g:List Nat)(K:Lv)(L:Lv)(h:Nat)(M:List Bool)(N:List (List Int))(O:List Int)(P:Bool)(Q:Nat) :Nat×Nat×Nat×Nat×(List Bool)×(List (List Int))×(List Int)→aC:=fun (R,S,T,U,V,W,X)=>⟨ag 46 [(1,.fn (.func bJ) [] [.iptr j (.vs [.imm k (.cols b [.cb l,.cns .u64 m,.ci .i64 n]) 3 3 0 b]) 1 0 0,.iptr o (.vs [.int .i64 p,.int .i64 q,.imm r (.fl c) 1 1 0 (List.length c)]) 1 0 0,.iptr s (.vs [.imm t (.cols d [.cb u,.cns .u64 v,.ci .i64 w]) 3 3 0 d]) 1 0 0,.iptr x (.vs [.int .i64 y,.int .i64 z,.imm A (.fl e) 1 1 0 (List.length e)]) 1 0 0,.iptr B (.vs [.imm C (.cols f [.cb D,.cns .u64 E,.ci .i64 F]) 3 3 0 f]) 1 0 0,.iptr G (.vs [.int .i64 H,.int .i64 I,.imm J (.fl g) 1 1 0 (List.length g)]) 1 0 0,.iptr K (.vs [.imm L (.cols h [.cb M,.cns .u64 N,.ci .i64 O]) 3 3 0 h]) 1 0 0]),(2,.ptr 0 1 0 0),(4,.ptr 1 1 0 0),(6,.sl 2 3 3 0 R S),(7,.int .i64 ((T:Nat):Int)),(13,.int .i64 a),(14,.int .i64 ((Q:Nat):Int))],[(0,.vs [.int .i64 a,.int .i64 i]),(1,.vs [.bool false P,.nsl,.int .i64 (0:Int)]),(2,.cols U [.cb V,.cns .u64 W,.ci .i64 X])],3⟩
def g9:List Code:=bD (bE ((((dt.drop 2).take 1)).headD .skip))
def mr(b:Int)(c:Int)(l:Lv)(m:Lv)(d:Nat)(n:List Bool)(o:List (List Int))(p:List Int)(q:Lv)(r:Int)(s:Int)(t:Lv)(e:List Nat)(u:Lv)(v:Lv)(f:Nat)(w:List Bool)(x:List (List Int))(y:List Int)(z:Lv)(A:Int)(B:Int)(C:Lv)(g:List Nat)(D:Lv)(E:Lv)(h:Nat)(F:List Bool)(G:List (List Int))(H:List Int)(I:Lv)(J:Int)(K:Int)(L:Lv)(i:List Nat)(M:Lv)(N:Lv)(j:Nat)(O:List Bool)(P:List (List Int))(Q:List Int)(R:Bool)(k:Nat)(S:Nat) :Nat×Nat×(List Bool)×(List (List Int))×(List Int)→aC:=fun (a,T,U,V,W)=>⟨ag 46 [(1,.fn (.func bJ) [] [.iptr l (.vs [.imm m (.cols d [.cb n,.cns .u64 o,.ci .i64 p]) 3 3 0 d]) 1 0 0,.iptr q (.vs [.int .i64 r,.int .i64 s,.imm t (.fl e) 1 1 0 (List.length e)]) 1 0 0,.iptr u (.vs [.imm v (.cols f [.cb w,.cns .u64 x,.ci .i64 y]) 3 3 0 f]) 1 0 0,.iptr z (.vs [.int .i64 A,.int .i64 B,.imm C (.fl g) 1 1 0 (List.length g)]) 1 0 0,.iptr D (.vs [.imm E (.cols h [.cb F,.cns .u64 G,.ci .i64 H]) 3 3 0 h]) 1 0 0,.iptr I (.vs [.int .i64 J,.int .i64 K,.imm L (.fl i) 1 1 0 (List.length i)]) 1 0 0,.iptr M (.vs [.imm N (.cols j [.cb O,.cns .u64 P,.ci .i64 Q]) 3 3 0 j]) 1 0 0]),(2,.ptr 0 1 0 0),(4,.ptr 1 1 0 0),(6,.sl 2 3 3 0 a a),(7,.int .i64 ((T:Nat):Int)),(8,.int .i64 ((k:Nat):Int)),(13,.int .i64 b),(14,.int .i64 ((k:Nat):Int)),(18,.int .i64 c),(19,.int .i64 ((S:Nat):Int))],[(0,.vs [.int .i64 b,.int .i64 c]),(1,.vs [.bool false R,.nsl,.int .i64 (0:Int)]),(2,.cols a [.cb U,.cns .u64 V,.ci .i64 W])],3⟩
def dw(E:Int)(a:Nat)(f:List Bool)(g:List (List Int))(h:List Int)(i:Int)(A:List Nat)(b:Nat)(j:List Bool)(k:List (List Int))(l:List Int)(m:Int)(B:List Nat)(c:Nat)(n:List Bool)(o:List (List Int))(p:List Int)(q:Int)(C:List Nat)(d:Nat)(r:List Bool)(s:List (List Int))(t:List Int)(u:Nat)(v:Nat)(D:Nat)(F:Nat)(e:Nat)(w:Nat)(x:List Bool)(y:List (List Int))(z:List Int) :T ((Nat×Nat×(List Bool)×(List (List Int))×(List Int))⊕((Nat×Nat×Nat×Nat×(List Bool)×(List (List Int))×(List Int))⊕((Nat×Nat×Nat×Nat×(List Bool)×(List (List Int))×(List Int))⊕((Nat×Nat×Nat×Nat×(List Bool)×(List (List Int))×(List Int))⊕(aq))))) :=
  .ask (decide (((e:Nat):Int) < E))
    (.need (Nat.ble (0+a) a)<|.need (aI 0 (List.length A) A)<|.need (Nat.ble (0+b) b)<|.need (aI 0 (List.length B) B)<|.need (Nat.ble (0+c) c)<|.need (aI 0 (List.length C) C)<|.need (Nat.ble (0+d) d)<|.need (m5 (bC ((u:Nat):Int) ((e:Nat):Int) a (aa 0 a f) (aa 0 a g) (aa 0 a h) i b (aa 0 b j) (aa 0 b k) (aa 0 b l) m c (aa 0 c n) (aa 0 c o) (aa 0 c p) q d (aa 0 d r) (aa 0 d s) (aa 0 d t)))<|.ask ((((iO (bC ((u:Nat):Int) ((e:Nat):Int) a (aa 0 a f) (aa 0 a g) (aa 0 a h) i b (aa 0 b j) (aa 0 b k) (aa 0 b l) m c (aa 0 c n) (aa 0 c o) (aa 0 c p) q d (aa 0 d r) (aa 0 d s) (aa 0 d t))):Nat):Int) != (0:Int))
      (.leaf (.inr (.inr (.inr (.inl (v,D,(iO (bC ((u:Nat):Int) ((e:Nat):Int) a (aa 0 a f) (aa 0 a g) (aa 0 a h) i b (aa 0 b j) (aa 0 b k) (aa 0 b l) m c (aa 0 c n) (aa 0 c o) (aa 0 c p) q d (aa 0 d r) (aa 0 d s) (aa 0 d t))),w,x,y,z))))))
      (.need (r6 ((v+1) * 40) 140737488355328)<|.need (r6 (v+1) 9223372036854775807)<|.need (r6 3 3)<|.need (r6 v w)<|.need (decide ((kJ (bC ((u:Nat):Int) ((e:Nat):Int) a (aa 0 a f) (aa 0 a g) (aa 0 a h) i b (aa 0 b j) (aa 0 b k) (aa 0 b l) m c (aa 0 c n) (aa 0 c o) (aa 0 c p) q d (aa 0 d r) (aa 0 d s) (aa 0 d t)))+(kK (bC ((u:Nat):Int) ((e:Nat):Int) a (aa 0 a f) (aa 0 a g) (aa 0 a h) i b (aa 0 b j) (aa 0 b k) (aa 0 b l) m c (aa 0 c n) (aa 0 c o) (aa 0 c p) q d (aa 0 d r) (aa 0 d s) (aa 0 d t)))≤List.length (kH (bC ((u:Nat):Int) ((e:Nat):Int) a (aa 0 a f) (aa 0 a g) (aa 0 a h) i b (aa 0 b j) (aa 0 b k) (aa 0 b l) m c (aa 0 c n) (aa 0 c o) (aa 0 c p) q d (aa 0 d r) (aa 0 d s) (aa 0 d t)))))<|.leaf (.inl ((v+1),(iO (bC ((u:Nat):Int) ((e:Nat):Int) a (aa 0 a f) (aa 0 a g) (aa 0 a h) i b (aa 0 b j) (aa 0 b k) (aa 0 b l) m c (aa 0 c n) (aa 0 c o) (aa 0 c p) q d (aa 0 d r) (aa 0 d s) (aa 0 d t))),((List.take v x) ++ [(oT (bC ((u:Nat):Int) ((e:Nat):Int) a (aa 0 a f) (aa 0 a g) (aa 0 a h) i b (aa 0 b j) (aa 0 b k) (aa 0 b l) m c (aa 0 c n) (aa 0 c o) (aa 0 c p) q d (aa 0 d r) (aa 0 d s) (aa 0 d t)))]),((List.take v y) ++ [(List.take (kK (bC ((u:Nat):Int) ((e:Nat):Int) a (aa 0 a f) (aa 0 a g) (aa 0 a h) i b (aa 0 b j) (aa 0 b k) (aa 0 b l) m c (aa 0 c n) (aa 0 c o) (aa 0 c p) q d (aa 0 d r) (aa 0 d s) (aa 0 d t))) (List.drop (kJ (bC ((u:Nat):Int) ((e:Nat):Int) a (aa 0 a f) (aa 0 a g) (aa 0 a h) i b (aa 0 b j) (aa 0 b k) (aa 0 b l) m c (aa 0 c n) (aa 0 c o) (aa 0 c p) q d (aa 0 d r) (aa 0 d s) (aa 0 d t))) (kH (bC ((u:Nat):Int) ((e:Nat):Int) a (aa 0 a f) (aa 0 a g) (aa 0 a h) i b (aa 0 b j) (aa 0 b k) (aa 0 b l) m c (aa 0 c n) (aa 0 c o) (aa 0 c p) q d (aa 0 d r) (aa 0 d s) (aa 0 d t)))))]),((List.take v z) ++ [(oU (bC ((u:Nat):Int) ((e:Nat):Int) a (aa 0 a f) (aa 0 a g) (aa 0 a h) i b (aa 0 b j) (aa 0 b k) (aa 0 b l) m c (aa 0 c n) (aa 0 c o) (aa 0 c p) q d (aa 0 d r) (aa 0 d s) (aa 0 d t)))])))))
    (.leaf (.inr (.inl (v,D,F,w,x,y,z))))
def mt(b:Nat)(a:Nat)(c:Nat)(d:List Bool)(e:List (List Int))(f:List Int) :T ((Nat×Nat×Nat×Nat×Nat×(List Bool)×(List (List Int))×(List Int))⊕((Nat×Nat×Nat×Nat×(List Bool)×(List (List Int))×(List Int))⊕((Nat×Nat×Nat×Nat×(List Bool)×(List (List Int))×(List Int))⊕((Nat×Nat×Nat×Nat×(List Bool)×(List (List Int))×(List Int))⊕(aq))))) :=
  .need (dP .i64 (((b+1):Nat):Int))<|.leaf (.inl (a,a,c,(b+1),a,d,e,f))
def hH(b:Int)(c:Nat)(d:List Bool)(e:List (List Int))(f:List Int)(g:Int)(h:List Nat)(i:Nat)(j:List Bool)(k:List (List Int))(l:List Int)(m:Int)(n:List Nat)(o:Nat)(p:List Bool)(q:List (List Int))(r:List Int)(s:Int)(t:List Nat)(u:Nat)(v:List Bool)(w:List (List Int))(x:List Int)(y:Nat) :Nat×Nat×Nat×Nat×Nat×(List Bool)×(List (List Int))×(List Int)→Option ((Nat×Nat×Nat×Nat×Nat×(List Bool)×(List (List Int))×(List Int))⊕((Nat×Nat×Nat×Nat×(List Bool)×(List (List Int))×(List Int))⊕((Nat×Nat×Nat×Nat×(List Bool)×(List (List Int))×(List Int))⊕((Nat×Nat×Nat×Nat×(List Bool)×(List (List Int))×(List Int))⊕(aq))))):=fun (z,A,B,a,C,D,E,F) =>
  ax ((dw b c d e f g h i j k l m n o p q r s t u v w x y z A B a C D E F).run) fun (G,H,I,J,K) =>
  (mt a G H I J K).run
theorem vi(A:Int)(c:Int)(B:Lv)(D:Lv)(d:Nat)(e:List Bool)(f:List (List Int))(g:List Int)(E:Lv)(F:Int)(h:Int)(G:Lv)(i:List Nat)(H:Lv)(I:Lv)(j:Nat)(k:List Bool)(l:List (List Int))(m:List Int)(J:Lv)(K:Int)(n:Int)(L:Lv)(o:List Nat)(M:Lv)(N:Lv)(p:Nat)(q:List Bool)(r:List (List Int))(s:List Int)(O:Lv)(P:Int)(t:Int)(Q:Lv)(u:List Nat)(R:Lv)(S:Lv)(v:Nat)(w:List Bool)(x:List (List Int))(y:List Int)(b:Bool)(z:Nat)(U:Nat)(V:Nat)(W:Nat)(T:Nat)(X:Nat)(Y:List Bool)(Z:List (List Int))(a0:List Int) :Sg prog [] g9 (cK A c B D d e f g E F h G i H I j k l m J K n L o M N p q r s O P t Q u R S v w x y b z (U,V,W,T,X,Y,Z,a0)) (hH c d e f g h i j k l m n o p q r s t u v w x y z (U,V,W,T,X,Y,Z,a0)) (cK A c B D d e f g E F h G i H I j k l m J K n L o M N p q r s O P t Q u R S v w x y b z) (aO 2 (du A c B D d e f g E F h G i H I j k l m J K n L o M N p q r s O P t Q u R S v w x y b z) (aO 1 (bP A c B D d e f g E F h G i H I j k l m J K n L o M N p q r s O P t Q u R S v w x y b z) (aO 0 (bx b) aS))):=by
  unfold hH;exact Sg.cut 3 (aW (aW (aW aV))) (Sg.seg (C:=C0) ah cY 60 (g9.take 3) (cK A c B D d e f g E F h G i H I j k l m J K n L o M N p q r s O P t Q u R S v w x y b z (U,V,W,T,X,Y,Z,a0)) (dw c d e f g h i j k l m n o p q r s t u v w x y z U V W T X Y Z a0) (mr A c B D d e f g E F h G i H I j k l m J K n L o M N p q r s O P t Q u R S v w x y b z T) (aO 2 (du A c B D d e f g E F h G i H I j k l m J K n L o M N p q r s O P t Q u R S v w x y b z) (aO 1 (bP A c B D d e f g E F h G i H I j k l m J K n L o M N p q r s O P t Q u R S v w x y b z) (aO 0 (bx b) aS))) [⟨[],[1,2],[4,6,7]⟩,⟨[],[0,1,323],[1,2,4,6,7,8,13,14,18,19]⟩,⟨[],[0,1,2],[1,2,4,6,7,13,14]⟩] (by kernel_rfl)) (fun a=>by obtain ⟨a1,a2,a3,a4,a5⟩:=a;exact Sg.seg (C:=C0) ah cY 60 (g9.drop 3) (mr A c B D d e f g E F h G i H I j k l m J K n L o M N p q r s O P t Q u R S v w x y b z T (a1,a2,a3,a4,a5)) (mt T a1 a2 a3 a4 a5) (cK A c B D d e f g E F h G i H I j k l m J K n L o M N p q r s O P t Q u R S v w x y b z) (aO 2 (du A c B D d e f g E F h G i H I j k l m J K n L o M N p q r s O P t Q u R S v w x y b z) (aO 1 (bP A c B D d e f g E F h G i H I j k l m J K n L o M N p q r s O P t Q u R S v w x y b z) (aO 0 (bx b) aS))) [⟨[],[0,1,2],[1,2,4,6,7,8,13,14,18,19]⟩] (by kernel_rfl))
def vj(a:Int)(b:Int)(c:Lv)(d:Lv)(e:Nat)(f:List Bool)(g:List (List Int))(h:List Int)(i:Lv)(j:Int)(k:Int)(l:Lv)(m:List Nat)(n:Lv)(o:Lv)(p:Nat)(q:List Bool)(r:List (List Int))(s:List Int)(t:Lv)(u:Int)(v:Int)(w:Lv)(x:List Nat)(y:Lv)(z:Lv)(A:Nat)(B:List Bool)(C:List (List Int))(D:List Int)(E:Lv)(F:Int)(G:Int)(H:Lv)(I:List Nat)(J:Lv)(K:Lv)(L:Nat)(M:List Bool)(N:List (List Int))(O:List Int)(P:Bool)(Q:Nat) :Nat×Nat×Nat×Nat×(List Bool)×(List (List Int))×(List Int)→aC:=du a b c d e f g h i j k l m n o p q r s t u v w x y z A B C D E F G H I J K L M N O P Q
def mu(a:Nat)(b:Nat)(c:Nat)(d:Nat)(e:List Bool)(f:List (List Int))(g:List Int) :T ((Nat×Nat×Nat×Nat×(List Bool)×(List (List Int))×(List Int))⊕((Nat×Nat×Nat×Nat×(List Bool)×(List (List Int))×(List Int))⊕((Nat×Nat×Nat×Nat×(List Bool)×(List (List Int))×(List Int))⊕(aq)))) :=
  .leaf (.inl (a,b,c,d,e,f,g))
def vk(a:Int)(b:Int)(c:Lv)(d:Lv)(e:Nat)(f:List Bool)(g:List (List Int))(h:List Int)(i:Lv)(j:Int)(k:Int)(l:Lv)(m:List Nat)(n:Lv)(o:Lv)(p:Nat)(q:List Bool)(r:List (List Int))(s:List Int)(t:Lv)(u:Int)(v:Int)(w:Lv)(x:List Nat)(y:Lv)(z:Lv)(A:Nat)(B:List Bool)(C:List (List Int))(D:List Int)(E:Lv)(F:Int)(G:Int)(H:Lv)(I:List Nat)(J:Lv)(K:Lv)(L:Nat)(M:List Bool)(N:List (List Int))(O:List Int)(P:Bool)(Q:Nat) :Nat×Nat×Nat×Nat×(List Bool)×(List (List Int))×(List Int)→aC:=bP a b c d e f g h i j k l m n o p q r s t u v w x y z A B C D E F G H I J K L M N O P Q
def mv(a:Nat)(b:Nat)(c:Nat)(d:Nat)(e:Nat)(f:List Bool)(g:List (List Int))(h:List Int) :T ((Nat×Nat×Nat×Nat×Nat×(List Bool)×(List (List Int))×(List Int))⊕((Nat×Nat×Nat×Nat×(List Bool)×(List (List Int))×(List Int))⊕(aq))) :=
  .need (dP .i64 (((a+1):Nat):Int))<|.leaf (.inl (b,c,d,(a+1),e,f,g,h))
def hJ(i:Int)(j:Int)(k:Nat)(l:List Bool)(m:List (List Int))(n:List Int)(o:Int)(p:List Nat)(q:Nat)(r:List Bool)(s:List (List Int))(t:List Int)(u:Int)(v:List Nat)(w:Nat)(x:List Bool)(y:List (List Int))(z:List Int)(A:Int)(B:List Nat)(C:Nat)(D:List Bool)(E:List (List Int))(F:List Int) :Nat×Nat×Nat×Nat×Nat×(List Bool)×(List (List Int))×(List Int)→Option ((Nat×Nat×Nat×Nat×Nat×(List Bool)×(List (List Int))×(List Int))⊕((Nat×Nat×Nat×Nat×(List Bool)×(List (List Int))×(List Int))⊕(aq))):=fun (b,c,d,a,e,f,g,h) =>
  ax ((eO i b c d a e f g h).run) fun _ =>
  ax (Rg (ax ((mq).run) fun _ =>
  ax (dH (hH j k l m n o p q r s t u v w x y z A B C D E F a) (b,c,d,0,e,f,g,h)) fun (G,H,I,J,K,L,M) =>
  (mu G H I J K L M).run)) fun (N,O,P,Q,R,S,T) =>
  (mv a N O P Q R S T).run
theorem vl(c:Int)(d:Int)(D:Lv)(E:Lv)(e:Nat)(f:List Bool)(g:List (List Int))(h:List Int)(F:Lv)(G:Int)(i:Int)(H:Lv)(j:List Nat)(L:Lv)(M:Lv)(k:Nat)(l:List Bool)(m:List (List Int))(n:List Int)(N:Lv)(O:Int)(o:Int)(P:Lv)(p:List Nat)(Q:Lv)(R:Lv)(q:Nat)(r:List Bool)(t:List (List Int))(u:List Int)(S:Lv)(T:Int)(v:Int)(U:Lv)(w:List Nat)(V:Lv)(W:Lv)(x:Nat)(y:List Bool)(z:List (List Int))(A:List Int)(b:Bool)(X:Nat)(Y:Nat)(Z:Nat)(B:Nat)(a0:Nat)(a1:List Bool)(a2:List (List Int))(a3:List Int) :Sg prog [] cJ (cI c d D E e f g h F G i H j L M k l m n N O o P p Q R q r t u S T v U w V W x y z A b (X,Y,Z,B,a0,a1,a2,a3)) (hJ c d e f g h i j k l m n o p q r t u v w x y z A (X,Y,Z,B,a0,a1,a2,a3)) (cI c d D E e f g h F G i H j L M k l m n N O o P p Q R q r t u S T v U w V W x y z A b) (aO 0 (bx b) aS):=by
  unfold hJ;exact Sg.cut 2 (aW aV) (Sg.seg (C:=C0) ah cY 60 (cJ.take 2) (cI c d D E e f g h F G i H j L M k l m n N O o P p Q R q r t u S T v U w V W x y z A b (X,Y,Z,B,a0,a1,a2,a3)) (eO c X Y Z B a0 a1 a2 a3) (mo c d D E e f g h F G i H j L M k l m n N O o P p Q R q r t u S T v U w V W x y z A b X Y Z B a0 a1 a2 a3) (aO 0 (bx b) aS) [⟨[],[0,1,2],[1,2,4,6,7,13,14]⟩,⟨[],[1,2],[4,6,7]⟩] (by kernel_rfl)) (fun a=>by cases a;exact Sg.cut 1 (aW aV) (C7 (id:=1) (K:=(bP c d D E e f g h F G i H j L M k l m n N O o P p Q R q r t u S T v U w V W x y z A b B)) (by kernel_rfl:((cJ.drop 2).take 1) = [.block 1 (inBlock ((((cJ.drop 2).take 1)).headD .skip))]) (aW aV) (jO (by decide) (iC _)) (Sg.cut 2 (aW (aW aV)) (Sg.seg (C:=C0) ah cY 60 (dt.take 2) (mo c d D E e f g h F G i H j L M k l m n N O o P p Q R q r t u S T v U w V W x y z A b X Y Z B a0 a1 a2 a3 ()) (mq) (mp c d D E e f g h F G i H j L M k l m n N O o P p Q R q r t u S T v U w V W x y z A b X Y Z B a0 a1 a2 a3) (aO 1 (bP c d D E e f g h F G i H j L M k l m n N O o P p Q R q r t u S T v U w V W x y z A b B) (aO 0 (bx b) aS)) [⟨[],[0,1,2],[1,2,4,6,7,8,13,14,18,19]⟩] (by kernel_rfl)) (fun a=>by cases a;exact Sg.cut 1 (aW (aW aV)) (Sg.pre ⟨[],[0,1,2],[1,2,4,6,7,8,13,14,18,19]⟩ rfl (by kernel_rfl:NS.on ⟨[],[0,1,2],[1,2,4,6,7,8,13,14,18,19]⟩ (mp c d D E e f g h F G i H j L M k l m n N O o P p Q R q r t u S T v U w V W x y z A b X Y Z B a0 a1 a2 a3 ())=(cK c d D E e f g h F G i H j L M k l m n N O o P p Q R q r t u S T v U w V W x y z A b B) (X,Y,Z,0,a0,a1,a2,a3)) (bT (I:=(cK c d D E e f g h F G i H j L M k l m n N O o P p Q R q r t u S T v U w V W x y z A b B)) (J:=(du c d D E e f g h F G i H j L M k l m n N O o P p Q R q r t u S T v U w V W x y z A b B)) (id:=2) (by kernel_rfl:((dt.drop 2).take 1) = [.block 2 (.loop (bE ((((dt.drop 2).take 1)).headD .skip)))]) (aW (aW aV)) (jO (by decide) (jO (by decide) (iC _))) (fun s=>by obtain ⟨b9,c0,c1,c2,c3,c4,c5,c6⟩:=s;exact vi c d D E e f g h F G i H j L M k l m n N O o P p Q R q r t u S T v U w V W x y z A b B b9 c0 c1 c2 c3 c4 c5 c6) (X,Y,Z,0,a0,a1,a2,a3))) (fun a=>by obtain ⟨a4,a5,a6,a7,a8,a9,b0⟩:=a;exact Sg.seg (C:=C0) ah cY 60 ((dt.drop 2).drop 1) (vj c d D E e f g h F G i H j L M k l m n N O o P p Q R q r t u S T v U w V W x y z A b B (a4,a5,a6,a7,a8,a9,b0)) (mu a4 a5 a6 a7 a8 a9 b0) (bP c d D E e f g h F G i H j L M k l m n N O o P p Q R q r t u S T v U w V W x y z A b B) (aO 1 (bP c d D E e f g h F G i H j L M k l m n N O o P p Q R q r t u S T v U w V W x y z A b B) (aO 0 (bx b) aS)) [⟨[],[0,1,2],[1,2,4,6,7,13,14]⟩] (by kernel_rfl))))) (fun a=>by obtain ⟨b2,b3,b4,b5,b6,b7,b8⟩:=a;exact Sg.seg (C:=C0) ah cY 60 ((cJ.drop 2).drop 1) (vk c d D E e f g h F G i H j L M k l m n N O o P p Q R q r t u S T v U w V W x y z A b B (b2,b3,b4,b5,b6,b7,b8)) (mv B b2 b3 b4 b5 b6 b7 b8) (cI c d D E e f g h F G i H j L M k l m n N O o P p Q R q r t u S T v U w V W x y z A b) (aO 0 (bx b) aS) [⟨[],[0,1,2],[1,2,4,6,7,13,14]⟩] (by kernel_rfl)))
def vm(a:Bool) :Nat×Nat×Nat×Nat×(List Bool)×(List (List Int))×(List Int)→aC:=bx a
def mw:Nat×Bool×(List Int)×Nat×Nat×Int→aC:=fun (a,b,c,d,e,f)=>⟨ag 46 [(4,.ptr 0 1 0 0),(5,.int .i64 ((a:Nat):Int))],[(0,.vs [.bool false b,.imm .free (.ns .u64 c) 1 1 d e,.int .i64 f])],1⟩
def eP(a:Nat)(e:Nat)(f:Nat)(b:List Bool)(c:List (List Int))(d:List Int) :T ((Nat×Bool×(List Int)×Nat×Nat×Int)⊕(aq)) :=
  .ask (((e:Nat):Int) != (0:Int))
    (.leaf (.inr (.r0 e false ([]:List Int) 0 0 (0:Int))))
    (.need (Nat.ble (0+a) f)<|.need (nC (bu a (aa 0 a b) (aa 0 a c) (aa 0 a d)))<|.leaf (.inl ((oM (bu a (aa 0 a b) (aa 0 a c) (aa 0 a d))),(oN (bu a (aa 0 a b) (aa 0 a c) (aa 0 a d))),(oO (bu a (aa 0 a b) (aa 0 a c) (aa 0 a d))),(oP (bu a (aa 0 a b) (aa 0 a c) (aa 0 a d))),(oQ (bu a (aa 0 a b) (aa 0 a c) (aa 0 a d))),(oR (bu a (aa 0 a b) (aa 0 a c) (aa 0 a d))))))
def mz(a:Nat)(b:Bool)(c:List Int)(d:Nat)(e:Nat)(f:Int) :T ((Empty)⊕(aq)) :=
  .leaf (.inr (.r0 a b c d e f))
def aK(a:Int)(b:Int)(c:Nat)(d:List Bool)(e:List (List Int))(f:List Int)(g:Int)(h:List Nat)(i:Nat)(j:List Bool)(k:List (List Int))(l:List Int)(m:Int)(n:List Nat)(o:Nat)(p:List Bool)(q:List (List Int))(r:List Int)(s:Int)(t:List Nat)(u:Nat)(v:List Bool)(w:List (List Int))(x:List Int) :Option aq:=l6 (ax ((ml).run) fun K =>
  ax ((mn).run) fun _ =>
  ax (dH (hJ a b c d e f g h i j k l m n o p q r s t u v w x) (0,0,0,0,0,([]:List Bool),([]:List (List Int)),([]:List Int))) fun (y,L,z,A,B,C,D) =>
  ax ((eP y z A B C D).run) fun (E,F,G,H,I,J) =>
  (mz E F G H I J).run)
theorem wk(j:Int)(k:Int)(D:Lv)(E:Lv)(b:Nat)(l:List Bool)(m:List (List Int))(n:List Int)(F:Lv)(G:Int)(o:Int)(H:Lv)(c:List Nat)(K:Lv)(L:Lv)(d:Nat)(p:List Bool)(q:List (List Int))(r:List Int)(M:Lv)(N:Int)(t:Int)(O:Lv)(e:List Nat)(P:Lv)(Q:Lv)(f:Nat)(u:List Bool)(v:List (List Int))(w:List Int)(R:Lv)(S:Int)(y:Int)(T:Lv)(g:List Nat)(U:Lv)(V:Lv)(i:Nat)(z:List Bool)(A:List (List Int))(B:List Int){x:aq}(h:aK j k b l m n o c d p q r t e f u v w y g i z A B=some x) :ak prog cW [] [.agg [.int .i64 j,.int .i64 k],.fn (.func bJ) [] [.iptr D (.vs [.imm E (.cols b [.cb l,.cns .u64 m,.ci .i64 n]) 3 3 0 b]) 1 0 0,.iptr F (.vs [.int .i64 G,.int .i64 o,.imm H (.fl c) 1 1 0 (List.length c)]) 1 0 0,.iptr K (.vs [.imm L (.cols d [.cb p,.cns .u64 q,.ci .i64 r]) 3 3 0 d]) 1 0 0,.iptr M (.vs [.int .i64 N,.int .i64 t,.imm O (.fl e) 1 1 0 (List.length e)]) 1 0 0,.iptr P (.vs [.imm Q (.cols f [.cb u,.cns .u64 v,.ci .i64 w]) 3 3 0 f]) 1 0 0,.iptr R (.vs [.int .i64 S,.int .i64 y,.imm T (.fl g) 1 1 0 (List.length g)]) 1 0 0,.iptr U (.vs [.imm V (.cols i [.cb z,.cns .u64 A,.ci .i64 B]) 3 3 0 i]) 1 0 0]] (iW x) :=
  Sg.contract true iW (by kernel_rfl:prog.funcs[cW]? = some (FN cW)) (by kernel_rfl:(FN cW).body=some (bp cW)) (Sg.cut 1 aV (Sg.seg (C:=C0) ah cY 60 (eN.take 1) (aL (FN cW) [] [.agg [.int .i64 j,.int .i64 k],.fn (.func bJ) [] [.iptr D (.vs [.imm E (.cols b [.cb l,.cns .u64 m,.ci .i64 n]) 3 3 0 b]) 1 0 0,.iptr F (.vs [.int .i64 G,.int .i64 o,.imm H (.fl c) 1 1 0 (List.length c)]) 1 0 0,.iptr K (.vs [.imm L (.cols d [.cb p,.cns .u64 q,.ci .i64 r]) 3 3 0 d]) 1 0 0,.iptr M (.vs [.int .i64 N,.int .i64 t,.imm O (.fl e) 1 1 0 (List.length e)]) 1 0 0,.iptr P (.vs [.imm Q (.cols f [.cb u,.cns .u64 v,.ci .i64 w]) 3 3 0 f]) 1 0 0,.iptr R (.vs [.int .i64 S,.int .i64 y,.imm T (.fl g) 1 1 0 (List.length g)]) 1 0 0,.iptr U (.vs [.imm V (.cols i [.cb z,.cns .u64 A,.ci .i64 B]) 3 3 0 i]) 1 0 0]]) (ml) (m6 j k D E b l m n F G o H c K L d p q r M N t O e P Q f u v w R S y T g U V i z A B) aS [⟨[],[0,16],[1,2,4]⟩] (by kernel_rfl)) (fun W=>by exact PV (by kernel_rfl:(eN.drop 1) = [.scope (Mo (((eN.drop 1)).headD .skip))]) aV (Sg.cut 3 aV (Sg.seg (C:=C0) ah cY 60 (cH.take 3) (m6 j k D E b l m n F G o H c K L d p q r M N t O e P Q f u v w R S y T g U V i z A B W) (mn) (m7 j k D E b l m n F G o H c K L d p q r M N t O e P Q f u v w R S y T g U V i z A B W) aS [⟨[],[0,1],[1,2,4,6,7,13,14]⟩] (by kernel_rfl)) (fun a=>by cases a;exact Sg.cut 1 aV (Sg.pre ⟨[(.slot 6,.own 3 3 (.cols 0 [.cb ([]:List Bool),.cns .u64 ([]:List (List Int)),.ci .i64 ([]:List Int)]))],[0,1,2],[1,2,4,6,7,13,14]⟩ rfl (by kernel_rfl:NS.on ⟨[(.slot 6,.own 3 3 (.cols 0 [.cb ([]:List Bool),.cns .u64 ([]:List (List Int)),.ci .i64 ([]:List Int)]))],[0,1,2],[1,2,4,6,7,13,14]⟩ (m7 j k D E b l m n F G o H c K L d p q r M N t O e P Q f u v w R S y T g U V i z A B W ())=(cI j k D E b l m n F G o H c K L d p q r M N t O e P Q f u v w R S y T g U V i z A B W) (0,0,0,0,0,([]:List Bool),([]:List (List Int)),([]:List Int))) (bT (I:=(cI j k D E b l m n F G o H c K L d p q r M N t O e P Q f u v w R S y T g U V i z A B W)) (J:=(bx W)) (id:=0) (by kernel_rfl:((cH.drop 3).take 1) = [.block 0 (.loop (bE ((((cH.drop 3).take 1)).headD .skip)))]) aV (iC _) (fun s=>by obtain ⟨a9,b0,b2,b3,b4,b5,b6,b7⟩:=s;exact vl j k D E b l m n F G o H c K L d p q r M N t O e P Q f u v w R S y T g U V i z A B W a9 b0 b2 b3 b4 b5 b6 b7) (0,0,0,0,0,([]:List Bool),([]:List (List Int)),([]:List Int)))) (fun a=>by obtain ⟨X,b8,Y,Z,a0,a1,a2⟩:=a;exact Sg.cut 3 aV (Sg.seg (C:=C0) ah cY 60 (((cH.drop 3).drop 1).take 3) (vm W (X,b8,Y,Z,a0,a1,a2)) (eP X Y Z a0 a1 a2) mw aS [⟨[(.cell 0 1,.fre 1 1 (.ns .u64 ([]:List Int)))],[0],[4,5]⟩,⟨[],[0],[4,5]⟩] (by kernel_rfl)) (fun a=>by obtain ⟨a3,a4,a5,a6,a7,a8⟩:=a;exact Sg.seg (C:=C0) ah cY 60 (((cH.drop 3).drop 1).drop 3) (mw (a3,a4,a5,a6,a7,a8)) (mz a3 a4 a5 a6 a7 a8) (fun a:Empty=>a.elim) aS [⟨[],[0],[4,5]⟩] (by kernel_rfl)))))))
    (fun x=>by cases x with | r0 b9 c0 c1 c2 c3 c4=>exact ⟨.inr rfl,[.agg [.bool false c0,.imm .free (.ns .u64 c1) 1 1 c2 c3,.int .i64 c4],.int .i64 ((b9:Nat):Int)],[],by kernel_rfl,trivial,by kernel_rfl⟩) h
def eU:Option aq→Bool
  | some _=>true
  | none=>false
def gH:Option aq→Nat
  | some (.r0 x _ _ _ _ _)=>x
  | _=>0
def gI:Option aq→Bool
  | some (.r0 _ x _ _ _ _)=>x
  | _=>false
def gJ:Option aq→List Int
  | some (.r0 _ _ x _ _ _)=>x
  | _=>[]
def gK:Option aq→Nat
  | some (.r0 _ _ _ x _ _)=>x
  | _=>0
def gL:Option aq→Nat
  | some (.r0 _ _ _ _ x _)=>x
  | _=>0
def gM:Option aq→Int
  | some (.r0 _ _ _ _ _ x)=>x
  | _=>0
theorem wl{x:Option aq}(h:eU x=true) :x=some (.r0 (gH x) (gI x) (gJ x) (gK x) (gL x) (gM x)):=by
  unfold eU at h
  split at h <;> first | rfl | (cases h;done) | (rename_i y;cases y;rfl)
def ng:aD:=bW cW (.cons (.agg (.cons (.int .i64) (.cons (.int .i64) .nil))) (.cons (.fn bJ .nil (.cons (.ivs (.cons (.cols [.cb,.cns .u64,.ci .i64]) .nil) 1 0 0) (.cons (.ivs (.cons (.int .i64) (.cons (.int .i64) (.cons .fl .nil))) 1 0 0) (.cons (.ivs (.cons (.cols [.cb,.cns .u64,.ci .i64]) .nil) 1 0 0) (.cons (.ivs (.cons (.int .i64) (.cons (.int .i64) (.cons .fl .nil))) 1 0 0) (.cons (.ivs (.cons (.cols [.cb,.cns .u64,.ci .i64]) .nil) 1 0 0) (.cons (.ivs (.cons (.int .i64) (.cons (.int .i64) (.cons .fl .nil))) 1 0 0) (.cons (.ivs (.cons (.cols [.cb,.cns .u64,.ci .i64]) .nil) 1 0 0) .nil)))))))) .nil)) fun t=>[⟨iW (.r0 (gH (aK t.1.1 t.1.2.1 t.2.1.2.1.2.1.2.1 t.2.1.2.1.2.1.2.2.1 t.2.1.2.1.2.1.2.2.2.1 t.2.1.2.1.2.1.2.2.2.2.1 t.2.1.2.2.1.2.2.1 t.2.1.2.2.1.2.2.2.1.2 t.2.1.2.2.2.1.2.1.2.1 t.2.1.2.2.2.1.2.1.2.2.1 t.2.1.2.2.2.1.2.1.2.2.2.1 t.2.1.2.2.2.1.2.1.2.2.2.2.1 t.2.1.2.2.2.2.1.2.2.1 t.2.1.2.2.2.2.1.2.2.2.1.2 t.2.1.2.2.2.2.2.1.2.1.2.1 t.2.1.2.2.2.2.2.1.2.1.2.2.1 t.2.1.2.2.2.2.2.1.2.1.2.2.2.1 t.2.1.2.2.2.2.2.1.2.1.2.2.2.2.1 t.2.1.2.2.2.2.2.2.1.2.2.1 t.2.1.2.2.2.2.2.2.1.2.2.2.1.2 t.2.1.2.2.2.2.2.2.2.1.2.1.2.1 t.2.1.2.2.2.2.2.2.2.1.2.1.2.2.1 t.2.1.2.2.2.2.2.2.2.1.2.1.2.2.2.1 t.2.1.2.2.2.2.2.2.2.1.2.1.2.2.2.2.1)) (gI (aK t.1.1 t.1.2.1 t.2.1.2.1.2.1.2.1 t.2.1.2.1.2.1.2.2.1 t.2.1.2.1.2.1.2.2.2.1 t.2.1.2.1.2.1.2.2.2.2.1 t.2.1.2.2.1.2.2.1 t.2.1.2.2.1.2.2.2.1.2 t.2.1.2.2.2.1.2.1.2.1 t.2.1.2.2.2.1.2.1.2.2.1 t.2.1.2.2.2.1.2.1.2.2.2.1 t.2.1.2.2.2.1.2.1.2.2.2.2.1 t.2.1.2.2.2.2.1.2.2.1 t.2.1.2.2.2.2.1.2.2.2.1.2 t.2.1.2.2.2.2.2.1.2.1.2.1 t.2.1.2.2.2.2.2.1.2.1.2.2.1 t.2.1.2.2.2.2.2.1.2.1.2.2.2.1 t.2.1.2.2.2.2.2.1.2.1.2.2.2.2.1 t.2.1.2.2.2.2.2.2.1.2.2.1 t.2.1.2.2.2.2.2.2.1.2.2.2.1.2 t.2.1.2.2.2.2.2.2.2.1.2.1.2.1 t.2.1.2.2.2.2.2.2.2.1.2.1.2.2.1 t.2.1.2.2.2.2.2.2.2.1.2.1.2.2.2.1 t.2.1.2.2.2.2.2.2.2.1.2.1.2.2.2.2.1)) (gJ (aK t.1.1 t.1.2.1 t.2.1.2.1.2.1.2.1 t.2.1.2.1.2.1.2.2.1 t.2.1.2.1.2.1.2.2.2.1 t.2.1.2.1.2.1.2.2.2.2.1 t.2.1.2.2.1.2.2.1 t.2.1.2.2.1.2.2.2.1.2 t.2.1.2.2.2.1.2.1.2.1 t.2.1.2.2.2.1.2.1.2.2.1 t.2.1.2.2.2.1.2.1.2.2.2.1 t.2.1.2.2.2.1.2.1.2.2.2.2.1 t.2.1.2.2.2.2.1.2.2.1 t.2.1.2.2.2.2.1.2.2.2.1.2 t.2.1.2.2.2.2.2.1.2.1.2.1 t.2.1.2.2.2.2.2.1.2.1.2.2.1 t.2.1.2.2.2.2.2.1.2.1.2.2.2.1 t.2.1.2.2.2.2.2.1.2.1.2.2.2.2.1 t.2.1.2.2.2.2.2.2.1.2.2.1 t.2.1.2.2.2.2.2.2.1.2.2.2.1.2 t.2.1.2.2.2.2.2.2.2.1.2.1.2.1 t.2.1.2.2.2.2.2.2.2.1.2.1.2.2.1 t.2.1.2.2.2.2.2.2.2.1.2.1.2.2.2.1 t.2.1.2.2.2.2.2.2.2.1.2.1.2.2.2.2.1)) (gK (aK t.1.1 t.1.2.1 t.2.1.2.1.2.1.2.1 t.2.1.2.1.2.1.2.2.1 t.2.1.2.1.2.1.2.2.2.1 t.2.1.2.1.2.1.2.2.2.2.1 t.2.1.2.2.1.2.2.1 t.2.1.2.2.1.2.2.2.1.2 t.2.1.2.2.2.1.2.1.2.1 t.2.1.2.2.2.1.2.1.2.2.1 t.2.1.2.2.2.1.2.1.2.2.2.1 t.2.1.2.2.2.1.2.1.2.2.2.2.1 t.2.1.2.2.2.2.1.2.2.1 t.2.1.2.2.2.2.1.2.2.2.1.2 t.2.1.2.2.2.2.2.1.2.1.2.1 t.2.1.2.2.2.2.2.1.2.1.2.2.1 t.2.1.2.2.2.2.2.1.2.1.2.2.2.1 t.2.1.2.2.2.2.2.1.2.1.2.2.2.2.1 t.2.1.2.2.2.2.2.2.1.2.2.1 t.2.1.2.2.2.2.2.2.1.2.2.2.1.2 t.2.1.2.2.2.2.2.2.2.1.2.1.2.1 t.2.1.2.2.2.2.2.2.2.1.2.1.2.2.1 t.2.1.2.2.2.2.2.2.2.1.2.1.2.2.2.1 t.2.1.2.2.2.2.2.2.2.1.2.1.2.2.2.2.1)) (gL (aK t.1.1 t.1.2.1 t.2.1.2.1.2.1.2.1 t.2.1.2.1.2.1.2.2.1 t.2.1.2.1.2.1.2.2.2.1 t.2.1.2.1.2.1.2.2.2.2.1 t.2.1.2.2.1.2.2.1 t.2.1.2.2.1.2.2.2.1.2 t.2.1.2.2.2.1.2.1.2.1 t.2.1.2.2.2.1.2.1.2.2.1 t.2.1.2.2.2.1.2.1.2.2.2.1 t.2.1.2.2.2.1.2.1.2.2.2.2.1 t.2.1.2.2.2.2.1.2.2.1 t.2.1.2.2.2.2.1.2.2.2.1.2 t.2.1.2.2.2.2.2.1.2.1.2.1 t.2.1.2.2.2.2.2.1.2.1.2.2.1 t.2.1.2.2.2.2.2.1.2.1.2.2.2.1 t.2.1.2.2.2.2.2.1.2.1.2.2.2.2.1 t.2.1.2.2.2.2.2.2.1.2.2.1 t.2.1.2.2.2.2.2.2.1.2.2.2.1.2 t.2.1.2.2.2.2.2.2.2.1.2.1.2.1 t.2.1.2.2.2.2.2.2.2.1.2.1.2.2.1 t.2.1.2.2.2.2.2.2.2.1.2.1.2.2.2.1 t.2.1.2.2.2.2.2.2.2.1.2.1.2.2.2.2.1)) (gM (aK t.1.1 t.1.2.1 t.2.1.2.1.2.1.2.1 t.2.1.2.1.2.1.2.2.1 t.2.1.2.1.2.1.2.2.2.1 t.2.1.2.1.2.1.2.2.2.2.1 t.2.1.2.2.1.2.2.1 t.2.1.2.2.1.2.2.2.1.2 t.2.1.2.2.2.1.2.1.2.1 t.2.1.2.2.2.1.2.1.2.2.1 t.2.1.2.2.2.1.2.1.2.2.2.1 t.2.1.2.2.2.1.2.1.2.2.2.2.1 t.2.1.2.2.2.2.1.2.2.1 t.2.1.2.2.2.2.1.2.2.2.1.2 t.2.1.2.2.2.2.2.1.2.1.2.1 t.2.1.2.2.2.2.2.1.2.1.2.2.1 t.2.1.2.2.2.2.2.1.2.1.2.2.2.1 t.2.1.2.2.2.2.2.1.2.1.2.2.2.2.1 t.2.1.2.2.2.2.2.2.1.2.2.1 t.2.1.2.2.2.2.2.2.1.2.2.2.1.2 t.2.1.2.2.2.2.2.2.2.1.2.1.2.1 t.2.1.2.2.2.2.2.2.2.1.2.1.2.2.1 t.2.1.2.2.2.2.2.2.2.1.2.1.2.2.2.1 t.2.1.2.2.2.2.2.2.2.1.2.1.2.2.2.2.1))),[eU (aK t.1.1 t.1.2.1 t.2.1.2.1.2.1.2.1 t.2.1.2.1.2.1.2.2.1 t.2.1.2.1.2.1.2.2.2.1 t.2.1.2.1.2.1.2.2.2.2.1 t.2.1.2.2.1.2.2.1 t.2.1.2.2.1.2.2.2.1.2 t.2.1.2.2.2.1.2.1.2.1 t.2.1.2.2.2.1.2.1.2.2.1 t.2.1.2.2.2.1.2.1.2.2.2.1 t.2.1.2.2.2.1.2.1.2.2.2.2.1 t.2.1.2.2.2.2.1.2.2.1 t.2.1.2.2.2.2.1.2.2.2.1.2 t.2.1.2.2.2.2.2.1.2.1.2.1 t.2.1.2.2.2.2.2.1.2.1.2.2.1 t.2.1.2.2.2.2.2.1.2.1.2.2.2.1 t.2.1.2.2.2.2.2.1.2.1.2.2.2.2.1 t.2.1.2.2.2.2.2.2.1.2.2.1 t.2.1.2.2.2.2.2.2.1.2.2.2.1.2 t.2.1.2.2.2.2.2.2.2.1.2.1.2.1 t.2.1.2.2.2.2.2.2.2.1.2.1.2.2.1 t.2.1.2.2.2.2.2.2.2.1.2.1.2.2.2.1 t.2.1.2.2.2.2.2.2.2.1.2.1.2.2.2.2.1)]⟩]
theorem uu:aM prog ng:=aG fun t=>(aH (fun h=>wk t.1.1 t.1.2.1 t.2.1.2.1.1 t.2.1.2.1.2.1.1 t.2.1.2.1.2.1.2.1 t.2.1.2.1.2.1.2.2.1 t.2.1.2.1.2.1.2.2.2.1 t.2.1.2.1.2.1.2.2.2.2.1 t.2.1.2.2.1.1 t.2.1.2.2.1.2.1 t.2.1.2.2.1.2.2.1 t.2.1.2.2.1.2.2.2.1.1 t.2.1.2.2.1.2.2.2.1.2 t.2.1.2.2.2.1.1 t.2.1.2.2.2.1.2.1.1 t.2.1.2.2.2.1.2.1.2.1 t.2.1.2.2.2.1.2.1.2.2.1 t.2.1.2.2.2.1.2.1.2.2.2.1 t.2.1.2.2.2.1.2.1.2.2.2.2.1 t.2.1.2.2.2.2.1.1 t.2.1.2.2.2.2.1.2.1 t.2.1.2.2.2.2.1.2.2.1 t.2.1.2.2.2.2.1.2.2.2.1.1 t.2.1.2.2.2.2.1.2.2.2.1.2 t.2.1.2.2.2.2.2.1.1 t.2.1.2.2.2.2.2.1.2.1.1 t.2.1.2.2.2.2.2.1.2.1.2.1 t.2.1.2.2.2.2.2.1.2.1.2.2.1 t.2.1.2.2.2.2.2.1.2.1.2.2.2.1 t.2.1.2.2.2.2.2.1.2.1.2.2.2.2.1 t.2.1.2.2.2.2.2.2.1.1 t.2.1.2.2.2.2.2.2.1.2.1 t.2.1.2.2.2.2.2.2.1.2.2.1 t.2.1.2.2.2.2.2.2.1.2.2.2.1.1 t.2.1.2.2.2.2.2.2.1.2.2.2.1.2 t.2.1.2.2.2.2.2.2.2.1.1 t.2.1.2.2.2.2.2.2.2.1.2.1.1 t.2.1.2.2.2.2.2.2.2.1.2.1.2.1 t.2.1.2.2.2.2.2.2.2.1.2.1.2.2.1 t.2.1.2.2.2.2.2.2.2.1.2.1.2.2.2.1 t.2.1.2.2.2.2.2.2.2.1.2.1.2.2.2.2.1 (wl h)) aR)
def nh:List aD:=ng :: E7
theorem dh:aX prog (aZ nh):=am uu cY
end
end Go.Plb.Seat
