/-
  Part 4 of what the claim leans on: an evaluator of the model, proved sound; the contracts of the functions.
-/
import Derived.Test.YthikcnkmglbbbaaGreatDoorA3
namespace Go.Plb.Seat
open Go Go.Plb
set_option linter.unusedVariables false
set_option maxRecDepth 100000
noncomputable section
inductive gC where
  | r0 (a:Nat) (b:Bool) (c:List Int) (d:Nat) (e:Int)
def Fv:gC→AE×aL
  | .r0 a b c d e=>(.ret,⟨ah 11 [(2,.ptr 0 1 0 0),(3,.int .i64 ((a:Nat):Int))],[(0,.vs [.bool false b,.imm .free (.ns .u64 c) 1 1 0 d,.int .i64 e])],1⟩)
theorem SO:kR Fv:=by intro x;cases x <;> (intro h;cases h)
def L4:gC→jc
  | .r0 a b c d e=>⟨.tup [.agg [.bool false b,.imm .free (.ns .u64 c) 1 1 0 d,.int .i64 e],.int .i64 ((a:Nat):Int)],[]⟩
def Jn:List Code:=bJ (bi mO)
def SP:Bool×(List Int)×Nat×Int×Bool→aL:=fun (a,b,c,d,e)=>⟨ah 11 [(1,.ptr 0 1 0 0),(2,.ptr 1 1 0 0)],[(0,.vs [.bool false a,.imm .free (.ns .u64 b) 1 1 0 c,.int .i64 d]),(1,.vs [.bool false e,.nsl,.int .i64 (0:Int)])],2⟩
def Jo(b:Bool)(a:List Int)(c:Int) :T ((Bool×(List Int)×Nat×Int×Bool)⊕(gC)) :=
  .need (aQ 0 (List.length a) a)<|.need (gg (aR b (aa 0 (List.length a) a) c))<|.leaf (.inl ((fq (aR b (aa 0 (List.length a) a) c)),(fu (aR b (aa 0 (List.length a) a) c)),(fv (aR b (aa 0 (List.length a) a) c)),(fw (aR b (aa 0 (List.length a) a) c)),false))
def SQ(a:Bool)(b:List Int)(c:Nat)(d:Int)(e:Bool)(f:Bool) :aL:=⟨ah 11 [(1,.ptr 0 1 0 0),(2,.ptr 1 1 0 0),(8,.bool false f)],[(0,.vs [.bool false a,.imm .free (.ns .u64 b) 1 1 0 c,.int .i64 d]),(1,.vs [.bool false e,.nsl,.int .i64 (0:Int)])],2⟩
def CU(a:List Int)(b:Nat)(c:Int) :T ((Bool)⊕(gC)) :=
  .need (aQ 0 b a)<|.need (j6 (dW (aa 0 b a) c))<|.leaf (.inl (!(i4 (dW (aa 0 b a) c))))
def SS(a:Bool)(b:List Int)(c:Nat)(d:Int)(e:Bool) :T ((Empty)⊕(gC)) :=
  .ask e
    (.leaf (.inr (.r0 3 false ([]:List Int) 0 (0:Int))))
    (.leaf (.inr (.r0 0 a b c d)))
def bz(d:Bool)(e:List Int)(f:Int) :Option gC:=ld (aC ((Jo d e f).run) fun (g,a,b,c,i) =>
  aC ((CU a b c).run) fun h =>
  (SS g a b c h).run)
theorem ah6(f:Bool)(k:Lv)(b:List Int)(g:Int){x:gC}(h:bz f b g=some x) :aw prog mO [] [.agg [.bool false f,.imm k (.ns .u64 b) 1 1 0 (List.length b),.int .i64 g]] (L4 x) :=
  Sg.contract true L4 (by kernel_rfl:prog.funcs[mO]? = some (FN mO)) (by kernel_rfl:(FN mO).body=some (bi mO)) (Sg.cut 2 SO (Sg.seg (C:=C0) an vS 60 (Jn.take 2) (aT (FN mO) [] [.agg [.bool false f,.imm k (.ns .u64 b) 1 1 0 (List.length b),.int .i64 g]]) (Jo f b g) SP Fv [⟨[],[0,16],[1,2]⟩] (by kernel_rfl)) (fun a=>by obtain ⟨i,c,d,e,j⟩:=a;exact Sg.cut 1 SO (Sg.seg (C:=C0) an vS 60 ((Jn.drop 2).take 1) (SP (i,c,d,e,j)) (CU c d e) (SQ i c d e j) Fv [⟨[],[0,1],[1,2,8]⟩] (by kernel_rfl)) (fun l=>by exact Sg.seg (C:=C0) an vS 60 ((Jn.drop 2).drop 1) (SQ i c d e j l) (SS i c d e l) (fun a:Empty=>a.elim) Fv [⟨[(.cell 1 1,.fre 1 1 (.ns .u64 ([]:List Int)))],[1],[2,3]⟩,⟨[],[1],[2,3]⟩] (by kernel_rfl))))
    (fun x=>by cases x with | r0 m n o p q=>exact ⟨.inr rfl,[.agg [.bool false n,.imm .free (.ns .u64 o) 1 1 0 p,.int .i64 q],.int .i64 ((m:Nat):Int)],[],by kernel_rfl,trivial,by kernel_rfl⟩) h
def nD:Option gC→Bool
  | some _=>true
  | none=>false
def ml:Option gC→Nat
  | some (.r0 x _ _ _ _)=>x
  | _=>0
def mn:Option gC→Bool
  | some (.r0 _ x _ _ _)=>x
  | _=>false
def mo:Option gC→List Int
  | some (.r0 _ _ x _ _)=>x
  | _=>[]
def mp:Option gC→Nat
  | some (.r0 _ _ _ x _)=>x
  | _=>0
def mq:Option gC→Int
  | some (.r0 _ _ _ _ x)=>x
  | _=>0
theorem ah7{x:Option gC}(h:nD x=true) :x=some (.r0 (ml x) (mn x) (mo x) (mp x) (mq x)):=by
  unfold nD at h
  split at h <;> first | rfl | (cases h;done) | (rename_i y;cases y;rfl)
def Xq:aJ:=bW mO (.cons (.agg (.cons .bool (.cons (.ns .u64) (.cons (.int .i64) .nil)))) .nil) fun t=>[⟨L4 (.r0 (ml (bz t.1.1 t.1.2.1.2 t.1.2.2.1)) (mn (bz t.1.1 t.1.2.1.2 t.1.2.2.1)) (mo (bz t.1.1 t.1.2.1.2 t.1.2.2.1)) (mp (bz t.1.1 t.1.2.1.2 t.1.2.2.1)) (mq (bz t.1.1 t.1.2.1.2 t.1.2.2.1))),[nD (bz t.1.1 t.1.2.1.2 t.1.2.2.1)]⟩]
theorem acJ:aU prog Xq:=aO fun t=>(aP (fun h=>ah6 t.1.1 t.1.2.1.1 t.1.2.1.2 t.1.2.2.1 (ah7 h)) aW)
def Xr:List aJ:=Xq :: SN
theorem hJ:aY prog (bb Xr):=au acJ vS
inductive eB where
  | r0 (a:Nat) (b:Bool) (c:List Int) (d:Nat) (e:Int)
def nF:eB→AE×aL
  | .r0 a b c d e=>(.ret,⟨ah 72 [(4,.ptr 0 1 0 0),(5,.int .i64 ((a:Nat):Int))],[(0,.vs [.bool false b,.imm .free (.ns .u64 c) 1 1 0 d,.int .i64 e])],1⟩)
theorem pY:kR nF:=by intro x;cases x <;> (intro h;cases h)
def Pb:eB→jc
  | .r0 a b c d e=>⟨.tup [.agg [.bool false b,.imm .free (.ns .u64 c) 1 1 0 d,.int .i64 e],.int .i64 ((a:Nat):Int)],[]⟩
def m9:List Code:=bJ (bi pk)
def Xs(c:Bool)(d:Lv)(a:List Int)(e:Int)(f:Bool)(g:Lv)(b:List Int)(h:Int) :Bool×Bool→aL:=fun (i,j)=>⟨ah 72 [(2,.ptr 0 1 0 0),(3,.ptr 1 1 0 0),(4,.ptr 2 1 0 0),(16,.bool false i)],[(0,.vs [.bool false c,.imm d (.ns .u64 a) 1 1 0 (List.length a),.int .i64 e]),(1,.vs [.bool false f,.imm g (.ns .u64 b) 1 1 0 (List.length b),.int .i64 h]),(2,.vs [.bool false j,.nsl,.int .i64 (0:Int)])],3⟩
def CV(a:List Int)(c:Int)(b:List Int)(d:Int) :T ((Bool×Bool)⊕(eB)) :=
  .need (aQ 0 (List.length a) a)<|.need (j6 (dW (aa 0 (List.length a) a) c))<|.ask (!(i4 (dW (aa 0 (List.length a) a) c)))
    (.leaf (.inl (true,false)))
    (.need (aQ 0 (List.length b) b)<|.need (j6 (dW (aa 0 (List.length b) b) d))<|.leaf (.inl ((!(i4 (dW (aa 0 (List.length b) b) d))),false)))
def Xt(a:Bool) :Bool×(List Int)×Nat×Int×Bool×(List Int)×Nat×Int→aL:=fun (b,c,d,e,f,g,h,i)=>⟨ah 72 [(2,.ptr 0 1 0 0),(3,.ptr 1 1 0 0),(4,.ptr 2 1 0 0)],[(0,.vs [.bool false b,.imm .free (.ns .u64 c) 1 1 0 d,.int .i64 e]),(1,.vs [.bool false f,.imm .free (.ns .u64 g) 1 1 0 h,.int .i64 i]),(2,.vs [.bool false a,.nsl,.int .i64 (0:Int)])],3⟩
def CW(c:Bool)(a:List Int)(d:Int)(e:Bool)(b:List Int)(f:Int)(g:Bool) :T ((Bool×(List Int)×Nat×Int×Bool×(List Int)×Nat×Int)⊕(eB)) :=
  .ask g
    (.leaf (.inr (.r0 2 false ([]:List Int) 0 (0:Int))))
    (.need (aQ 0 (List.length a) a)<|.need (gg (aR c (aa 0 (List.length a) a) d))<|.need (aQ 0 (List.length b) b)<|.need (gg (aR e (aa 0 (List.length b) b) f))<|.leaf (.inl ((fq (aR c (aa 0 (List.length a) a) d)),(fu (aR c (aa 0 (List.length a) a) d)),(fv (aR c (aa 0 (List.length a) a) d)),(fw (aR c (aa 0 (List.length a) a) d)),(fq (aR e (aa 0 (List.length b) b) f)),(fu (aR e (aa 0 (List.length b) b) f)),(fv (aR e (aa 0 (List.length b) b) f)),(fw (aR e (aa 0 (List.length b) b) f)))))
def Xu(a:Bool)(b:Bool)(c:List Int)(d:Nat)(e:Int)(f:Bool)(g:List Int)(h:Nat)(i:Int)(j:Bool) :aL:=⟨ah 72 [(2,.ptr 0 1 0 0),(3,.ptr 1 1 0 0),(4,.ptr 2 1 0 0),(24,.bool false j)],[(0,.vs [.bool false b,.imm .free (.ns .u64 c) 1 1 0 d,.int .i64 e]),(1,.vs [.bool false f,.imm .free (.ns .u64 g) 1 1 0 h,.int .i64 i]),(2,.vs [.bool false a,.nsl,.int .i64 (0:Int)])],3⟩
def CX(a:List Int)(b:Nat)(e:Int)(c:List Int)(d:Nat)(f:Int) :T ((Bool)⊕(eB)) :=
  .need (aQ 0 b a)<|.need (aQ 0 d c)<|.need (z7 (rI (aa 0 b a) e (aa 0 d c) f))<|.leaf (.inl (z8 (rI (aa 0 b a) e (aa 0 d c) f)))
def Xv(a:Bool)(b:Bool)(c:List Int)(d:Nat)(e:Int)(f:Bool)(g:List Int)(h:Nat)(i:Int) :(List Int)×Nat×(List Int)×Nat×Int→aL:=fun (j,k,l,m,n)=>⟨ah 72 [(2,.ptr 0 1 0 0),(3,.ptr 1 1 0 0),(4,.ptr 2 1 0 0),(6,.imm .free (.ns .u64 j) 1 1 0 k),(7,.imm .free (.ns .u64 l) 1 1 0 m),(8,.int .i64 n)],[(0,.vs [.bool false b,.imm .free (.ns .u64 c) 1 1 0 d,.int .i64 e]),(1,.vs [.bool false f,.imm .free (.ns .u64 g) 1 1 0 h,.int .i64 i]),(2,.vs [.bool false a,.nsl,.int .i64 (0:Int)])],3⟩
def CY(a:List Int)(b:Nat)(e:Int)(c:List Int)(d:Nat)(f:Int)(g:Bool) :T (((List Int)×Nat×(List Int)×Nat×Int)⊕(eB)) :=
  .ask g
    (.leaf (.inr (.r0 3 false ([]:List Int) 0 (0:Int))))
    (.need (aQ 0 b a)<|.need (aQ 0 d c)<|.need (uH (c9 (aa 0 b a) e (aa 0 d c) f))<|.leaf (.inl ((vO (c9 (aa 0 b a) e (aa 0 d c) f)),(vP (c9 (aa 0 b a) e (aa 0 d c) f)),(vQ (c9 (aa 0 b a) e (aa 0 d c) f)),(vR (c9 (aa 0 b a) e (aa 0 d c) f)),(BJ (c9 (aa 0 b a) e (aa 0 d c) f)))))
def Xw(a:Bool)(b:Bool)(c:List Int)(d:Nat)(e:Int)(f:Bool)(g:List Int)(h:Nat)(i:Int)(j:List Int)(k:Nat)(l:List Int)(m:Nat)(n:Int)(_:Unit) :aL:=⟨ah 72 [(2,.ptr 0 1 0 0),(3,.ptr 1 1 0 0),(4,.ptr 2 1 0 0),(6,.imm .free (.ns .u64 j) 1 1 0 k),(7,.imm .free (.ns .u64 l) 1 1 0 m),(8,.int .i64 n)],[(0,.vs [.bool false b,.imm .free (.ns .u64 c) 1 1 0 d,.int .i64 e]),(1,.vs [.bool false f,.imm .free (.ns .u64 g) 1 1 0 h,.int .i64 i]),(2,.vs [.bool false a,.nsl,.int .i64 (0:Int)])],3⟩
def tD(e:Bool)(g:Bool)(a:List Int)(b:Nat)(c:List Int)(d:Nat)(f:Int) :T ((Unit)⊕(eB)) :=
  .ask (e == g)
    (.need (aQ 0 b a)<|.need (aQ 0 d c)<|.need (zW (eA (aa 0 b a) (aa 0 d c)))<|.need (aQ 0 (iZ (eA (aa 0 b a) (aa 0 d c))) (iY (eA (aa 0 b a) (aa 0 d c))))<|.need (nD (bz e (aa 0 (iZ (eA (aa 0 b a) (aa 0 d c))) (iY (eA (aa 0 b a) (aa 0 d c)))) f))<|.leaf (.inr (.r0 (ml (bz e (aa 0 (iZ (eA (aa 0 b a) (aa 0 d c))) (iY (eA (aa 0 b a) (aa 0 d c)))) f)) (mn (bz e (aa 0 (iZ (eA (aa 0 b a) (aa 0 d c))) (iY (eA (aa 0 b a) (aa 0 d c)))) f)) (mo (bz e (aa 0 (iZ (eA (aa 0 b a) (aa 0 d c))) (iY (eA (aa 0 b a) (aa 0 d c)))) f)) (mp (bz e (aa 0 (iZ (eA (aa 0 b a) (aa 0 d c))) (iY (eA (aa 0 b a) (aa 0 d c)))) f)) (mq (bz e (aa 0 (iZ (eA (aa 0 b a) (aa 0 d c))) (iY (eA (aa 0 b a) (aa 0 d c)))) f)))))
    (.leaf (.inl ()))
def Xx(a:Bool)(b:Bool)(c:List Int)(d:Nat)(e:Int)(f:Bool)(g:List Int)(h:Nat)(i:Int)(j:List Int)(k:Nat)(l:List Int)(m:Nat)(n:Int)(o:Bool) :aL:=⟨ah 72 [(2,.ptr 0 1 0 0),(3,.ptr 1 1 0 0),(4,.ptr 2 1 0 0),(6,.imm .free (.ns .u64 j) 1 1 0 k),(7,.imm .free (.ns .u64 l) 1 1 0 m),(8,.int .i64 n),(51,.bool false o)],[(0,.vs [.bool false b,.imm .free (.ns .u64 c) 1 1 0 d,.int .i64 e]),(1,.vs [.bool false f,.imm .free (.ns .u64 g) 1 1 0 h,.int .i64 i]),(2,.vs [.bool false a,.nsl,.int .i64 (0:Int)])],3⟩
def CZ(a:List Int)(b:Nat)(c:List Int)(d:Nat) :T ((Bool)⊕(eB)) :=
  .need (aQ 0 b a)<|.need (aQ 0 d c)<|.need (vM (nC (aa 0 b a) (aa 0 d c)))<|.leaf (.inl (decide ((uA (nC (aa 0 b a) (aa 0 d c))) ≥ (0:Int))))
def Xy(a:Bool)(b:Bool)(c:List Int)(d:Nat)(e:Int)(f:List Int)(g:Nat)(h:List Int)(i:Nat)(j:Int)(_:Unit) :aL:=⟨ah 72 [(3,.ptr 0 1 0 0),(4,.ptr 1 1 0 0),(6,.imm .free (.ns .u64 f) 1 1 0 g),(7,.imm .free (.ns .u64 h) 1 1 0 i),(8,.int .i64 j)],[(0,.vs [.bool false b,.imm .free (.ns .u64 c) 1 1 0 d,.int .i64 e]),(1,.vs [.bool false a,.nsl,.int .i64 (0:Int)])],2⟩
def C1(e:Bool)(a:List Int)(b:Nat)(c:List Int)(d:Nat)(f:Int)(g:Bool) :T ((Unit)⊕(eB)) :=
  .ask g
    (.need (aQ 0 b a)<|.need (aQ 0 d c)<|.need (sc (bT (aa 0 b a) (aa 0 d c)))<|.need (aQ 0 (dh (bT (aa 0 b a) (aa 0 d c))) (dg (bT (aa 0 b a) (aa 0 d c))))<|.need (nD (bz e (aa 0 (dh (bT (aa 0 b a) (aa 0 d c))) (dg (bT (aa 0 b a) (aa 0 d c)))) f))<|.leaf (.inr (.r0 (ml (bz e (aa 0 (dh (bT (aa 0 b a) (aa 0 d c))) (dg (bT (aa 0 b a) (aa 0 d c)))) f)) (mn (bz e (aa 0 (dh (bT (aa 0 b a) (aa 0 d c))) (dg (bT (aa 0 b a) (aa 0 d c)))) f)) (mo (bz e (aa 0 (dh (bT (aa 0 b a) (aa 0 d c))) (dg (bT (aa 0 b a) (aa 0 d c)))) f)) (mp (bz e (aa 0 (dh (bT (aa 0 b a) (aa 0 d c))) (dg (bT (aa 0 b a) (aa 0 d c)))) f)) (mq (bz e (aa 0 (dh (bT (aa 0 b a) (aa 0 d c))) (dg (bT (aa 0 b a) (aa 0 d c)))) f)))))
    (.leaf (.inl ()))
def Xz:Nat×Bool×(List Int)×Nat×Int→aL:=fun (a,b,c,d,e)=>⟨ah 72 [(4,.ptr 0 1 0 0),(5,.int .i64 ((a:Nat):Int))],[(0,.vs [.bool false b,.imm .free (.ns .u64 c) 1 1 0 d,.int .i64 e])],1⟩
def C2(e:Bool)(a:List Int)(b:Nat)(c:List Int)(d:Nat)(f:Int) :T ((Nat×Bool×(List Int)×Nat×Int)⊕(eB)) :=
  .need (aQ 0 d c)<|.need (aQ 0 b a)<|.need (sc (bT (aa 0 d c) (aa 0 b a)))<|.need (aQ 0 (dh (bT (aa 0 d c) (aa 0 b a))) (dg (bT (aa 0 d c) (aa 0 b a))))<|.need (nD (bz e (aa 0 (dh (bT (aa 0 d c) (aa 0 b a))) (dg (bT (aa 0 d c) (aa 0 b a)))) f))<|.leaf (.inl ((ml (bz e (aa 0 (dh (bT (aa 0 d c) (aa 0 b a))) (dg (bT (aa 0 d c) (aa 0 b a)))) f)),(mn (bz e (aa 0 (dh (bT (aa 0 d c) (aa 0 b a))) (dg (bT (aa 0 d c) (aa 0 b a)))) f)),(mo (bz e (aa 0 (dh (bT (aa 0 d c) (aa 0 b a))) (dg (bT (aa 0 d c) (aa 0 b a)))) f)),(mp (bz e (aa 0 (dh (bT (aa 0 d c) (aa 0 b a))) (dg (bT (aa 0 d c) (aa 0 b a)))) f)),(mq (bz e (aa 0 (dh (bT (aa 0 d c) (aa 0 b a))) (dg (bT (aa 0 d c) (aa 0 b a)))) f))))
def ST(a:Nat)(b:Bool)(c:List Int)(d:Nat)(e:Int) :T ((Empty)⊕(eB)) :=
  .leaf (.inr (.r0 a b c d e))
def eP(r:Bool)(f:List Int)(g:Int)(s:Bool)(h:List Int)(i:Int) :Option eB:=ld (aC ((CV f g h i).run) fun (t,B) =>
  aC ((CW r f g s h i t).run) fun (j,k,l,m,n,o,p,q) =>
  aC ((CX k l m o p q).run) fun u =>
  aC ((CY k l m o p q u).run) fun (a,b,c,d,e) =>
  aC ((tD j n a b c d e).run) fun _ =>
  aC ((CZ a b c d).run) fun v =>
  aC ((C1 j a b c d e v).run) fun _ =>
  aC ((C2 n a b c d e).run) fun (w,x,y,z,A) =>
  (ST w x y z A).run)
theorem alH(u:Bool)(w:Lv)(q:List Int)(s:Int)(v:Bool)(y:Lv)(r:List Int)(t:Int){x:eB}(h:eP u q s v r t=some x) :aw prog pk [] [.agg [.bool false u,.imm w (.ns .u64 q) 1 1 0 (List.length q),.int .i64 s],.agg [.bool false v,.imm y (.ns .u64 r) 1 1 0 (List.length r),.int .i64 t]] (Pb x) :=
  Sg.contract true Pb (by kernel_rfl:prog.funcs[pk]? = some (FN pk)) (by kernel_rfl:(FN pk).body=some (bi pk)) (Sg.cut 2 pY (Sg.seg (C:=C0) an hJ 60 (m9.take 2) (aT (FN pk) [] [.agg [.bool false u,.imm w (.ns .u64 q) 1 1 0 (List.length q),.int .i64 s],.agg [.bool false v,.imm y (.ns .u64 r) 1 1 0 (List.length r),.int .i64 t]]) (CV q s r t) (Xs u w q s v y r t) nF [⟨[],[0,16,32],[2,3,4,16]⟩,⟨[],[0,16,32],[2,3,4,16]⟩] (by kernel_rfl)) (fun a=>by obtain ⟨z,b⟩:=a;exact Sg.cut 2 pY (Sg.seg (C:=C0) an hJ 60 ((m9.drop 2).take 2) (Xs u w q s v y r t (z,b)) (CW u q s v r t z) (Xt b) nF [⟨[(.cell 2 1,.fre 1 1 (.ns .u64 ([]:List Int)))],[2],[4,5]⟩,⟨[],[0,1,2],[2,3,4]⟩] (by kernel_rfl)) (fun a=>by obtain ⟨g,i,j,k,c,d,e,f⟩:=a;exact Sg.cut 1 pY (Sg.seg (C:=C0) an hJ 60 (((m9.drop 2).drop 2).take 1) (Xt b (g,i,j,k,c,d,e,f)) (CX i j k d e f) (Xu b g i j k c d e f) nF [⟨[],[0,1,2],[2,3,4,24]⟩] (by kernel_rfl)) (fun A=>by exact Sg.cut 2 pY (Sg.seg (C:=C0) an hJ 60 ((((m9.drop 2).drop 2).drop 1).take 2) (Xu b g i j k c d e f A) (CY i j k d e f A) (Xv b g i j k c d e f) nF [⟨[(.cell 2 1,.fre 1 1 (.ns .u64 ([]:List Int)))],[2],[4,5]⟩,⟨[],[0,1,2],[2,3,4,6,7,8]⟩] (by kernel_rfl)) (fun a=>by obtain ⟨l,m,n,o,p⟩:=a;exact Sg.cut 2 pY (Sg.seg (C:=C0) an hJ 60 (((((m9.drop 2).drop 2).drop 1).drop 2).take 2) (Xv b g i j k c d e f (l,m,n,o,p)) (tD g c l m n o p) (Xw b g i j k c d e f l m n o p) nF [⟨[],[2],[4,5]⟩,⟨[],[0,1,2],[2,3,4,6,7,8]⟩] (by kernel_rfl)) (fun a=>by cases a;exact Sg.cut 1 pY (Sg.seg (C:=C0) an hJ 60 ((((((m9.drop 2).drop 2).drop 1).drop 2).drop 2).take 1) (Xw b g i j k c d e f l m n o p ()) (CZ l m n o) (Xx b g i j k c d e f l m n o p) nF [⟨[],[0,1,2],[2,3,4,6,7,8,51]⟩] (by kernel_rfl)) (fun B=>by exact Sg.cut 1 pY (Sg.seg (C:=C0) an hJ 60 (((((((m9.drop 2).drop 2).drop 1).drop 2).drop 2).drop 1).take 1) (Xx b g i j k c d e f l m n o p B) (C1 g l m n o p B) (Xy b c d e f l m n o p) nF [⟨[],[2],[4,5]⟩,⟨[],[1,2],[3,4,6,7,8]⟩] (by kernel_rfl)) (fun a=>by cases a;exact Sg.cut 1 pY (Sg.seg (C:=C0) an hJ 60 ((((((((m9.drop 2).drop 2).drop 1).drop 2).drop 2).drop 1).drop 1).take 1) (Xy b c d e f l m n o p ()) (C2 c l m n o p) Xz nF [⟨[],[1],[4,5]⟩] (by kernel_rfl)) (fun a=>by obtain ⟨D,E,F,G,H⟩:=a;exact Sg.seg (C:=C0) an hJ 60 ((((((((m9.drop 2).drop 2).drop 1).drop 2).drop 2).drop 1).drop 1).drop 1) (Xz (D,E,F,G,H)) (ST D E F G H) (fun a:Empty=>a.elim) nF [⟨[],[0],[4,5]⟩] (by kernel_rfl))))))))))
    (fun x=>by cases x with | r0 I J K L M=>exact ⟨.inr rfl,[.agg [.bool false J,.imm .free (.ns .u64 K) 1 1 0 L,.int .i64 M],.int .i64 ((I:Nat):Int)],[],by kernel_rfl,trivial,by kernel_rfl⟩) h
def Aa:Option eB→Bool
  | some _=>true
  | none=>false
def GM:Option eB→Nat
  | some (.r0 x _ _ _ _)=>x
  | _=>0
def Ab:Option eB→Bool
  | some (.r0 _ x _ _ _)=>x
  | _=>false
def Ac:Option eB→List Int
  | some (.r0 _ _ x _ _)=>x
  | _=>[]
def Ad:Option eB→Nat
  | some (.r0 _ _ _ x _)=>x
  | _=>0
def Ae:Option eB→Int
  | some (.r0 _ _ _ _ x)=>x
  | _=>0
theorem alI{x:Option eB}(h:Aa x=true) :x=some (.r0 (GM x) (Ab x) (Ac x) (Ad x) (Ae x)):=by
  unfold Aa at h
  split at h <;> first | rfl | (cases h;done) | (rename_i y;cases y;rfl)
def abK:aJ:=bW pk (.cons (.agg (.cons .bool (.cons (.ns .u64) (.cons (.int .i64) .nil)))) (.cons (.agg (.cons .bool (.cons (.ns .u64) (.cons (.int .i64) .nil)))) .nil)) fun t=>[⟨Pb (.r0 (GM (eP t.1.1 t.1.2.1.2 t.1.2.2.1 t.2.1.1 t.2.1.2.1.2 t.2.1.2.2.1)) (Ab (eP t.1.1 t.1.2.1.2 t.1.2.2.1 t.2.1.1 t.2.1.2.1.2 t.2.1.2.2.1)) (Ac (eP t.1.1 t.1.2.1.2 t.1.2.2.1 t.2.1.1 t.2.1.2.1.2 t.2.1.2.2.1)) (Ad (eP t.1.1 t.1.2.1.2 t.1.2.2.1 t.2.1.1 t.2.1.2.1.2 t.2.1.2.2.1)) (Ae (eP t.1.1 t.1.2.1.2 t.1.2.2.1 t.2.1.1 t.2.1.2.1.2 t.2.1.2.2.1))),[Aa (eP t.1.1 t.1.2.1.2 t.1.2.2.1 t.2.1.1 t.2.1.2.1.2 t.2.1.2.2.1)]⟩]
theorem afP:aU prog abK:=aO fun t=>(aP (fun h=>alH t.1.1 t.1.2.1.1 t.1.2.1.2 t.1.2.2.1 t.2.1.1 t.2.1.2.1.1 t.2.1.2.1.2 t.2.1.2.2.1 (alI h)) aW)
def abL:List aJ:=abK :: Xr
theorem uI:aY prog (bb abL):=au afP hJ
inductive gZ where
  | r0 (a:Nat) (b:Bool) (c:List Int) (d:Nat) (e:Int)
def DK:gZ→AE×aL
  | .r0 a b c d e=>(.ret,⟨ah 38 [(4,.ptr 0 1 0 0),(5,.int .i64 ((a:Nat):Int))],[(0,.vs [.bool false b,.imm .free (.ns .u64 c) 1 1 0 d,.int .i64 e])],1⟩)
theorem L5:kR DK:=by intro x;cases x <;> (intro h;cases h)
def Pc:gZ→jc
  | .r0 a b c d e=>⟨.tup [.agg [.bool false b,.imm .free (.ns .u64 c) 1 1 0 d,.int .i64 e],.int .i64 ((a:Nat):Int)],[]⟩
def Fw:List Code:=bJ (bi pm)
def XA(c:Bool)(d:Lv)(a:List Int)(e:Int)(f:Bool)(g:Lv)(b:List Int)(h:Int) :Bool×Bool→aL:=fun (i,j)=>⟨ah 38 [(2,.ptr 0 1 0 0),(3,.ptr 1 1 0 0),(4,.ptr 2 1 0 0),(13,.bool false i)],[(0,.vs [.bool false c,.imm d (.ns .u64 a) 1 1 0 (List.length a),.int .i64 e]),(1,.vs [.bool false f,.imm g (.ns .u64 b) 1 1 0 (List.length b),.int .i64 h]),(2,.vs [.bool false j,.nsl,.int .i64 (0:Int)])],3⟩
def L6(a:List Int)(c:Int)(b:List Int)(d:Int) :T ((Bool×Bool)⊕(gZ)) :=
  .need (aQ 0 (List.length a) a)<|.need (j6 (dW (aa 0 (List.length a) a) c))<|.ask (!(i4 (dW (aa 0 (List.length a) a) c)))
    (.leaf (.inl (true,false)))
    (.need (aQ 0 (List.length b) b)<|.need (j6 (dW (aa 0 (List.length b) b) d))<|.leaf (.inl ((!(i4 (dW (aa 0 (List.length b) b) d))),false)))
def XB(a:Bool) :Bool×(List Int)×Nat×Int×Bool×(List Int)×Nat×Int→aL:=fun (b,c,d,e,f,g,h,i)=>⟨ah 38 [(2,.ptr 0 1 0 0),(3,.ptr 1 1 0 0),(4,.ptr 2 1 0 0)],[(0,.vs [.bool false b,.imm .free (.ns .u64 c) 1 1 0 d,.int .i64 e]),(1,.vs [.bool false f,.imm .free (.ns .u64 g) 1 1 0 h,.int .i64 i]),(2,.vs [.bool false a,.nsl,.int .i64 (0:Int)])],3⟩
def Fx(c:Bool)(a:List Int)(d:Int)(e:Bool)(b:List Int)(f:Int)(g:Bool) :T ((Bool×(List Int)×Nat×Int×Bool×(List Int)×Nat×Int)⊕(gZ)) :=
  .ask g
    (.leaf (.inr (.r0 2 false ([]:List Int) 0 (0:Int))))
    (.need (aQ 0 (List.length a) a)<|.need (gg (aR c (aa 0 (List.length a) a) d))<|.need (aQ 0 (List.length b) b)<|.need (gg (aR e (aa 0 (List.length b) b) f))<|.leaf (.inl ((fq (aR c (aa 0 (List.length a) a) d)),(fu (aR c (aa 0 (List.length a) a) d)),(fv (aR c (aa 0 (List.length a) a) d)),(fw (aR c (aa 0 (List.length a) a) d)),(fq (aR e (aa 0 (List.length b) b) f)),(fu (aR e (aa 0 (List.length b) b) f)),(fv (aR e (aa 0 (List.length b) b) f)),(fw (aR e (aa 0 (List.length b) b) f)))))
def XC:Nat×Bool×(List Int)×Nat×Int→aL:=fun (a,b,c,d,e)=>⟨ah 38 [(4,.ptr 0 1 0 0),(5,.int .i64 ((a:Nat):Int))],[(0,.vs [.bool false b,.imm .free (.ns .u64 c) 1 1 0 d,.int .i64 e])],1⟩
def Fy(g:Bool)(a:List Int)(b:Nat)(e:Int)(h:Bool)(c:List Int)(d:Nat)(f:Int) :T ((Nat×Bool×(List Int)×Nat×Int)⊕(gZ)) :=
  .need (aQ 0 b a)<|.need (aQ 0 d c)<|.need (vH (dC (aa 0 b a) (aa 0 d c)))<|.need (d8 .i64 (e+f))<|.need (aQ 0 (gX (dC (aa 0 b a) (aa 0 d c))) (gW (dC (aa 0 b a) (aa 0 d c))))<|.need (nD (bz (!(g == h)) (aa 0 (gX (dC (aa 0 b a) (aa 0 d c))) (gW (dC (aa 0 b a) (aa 0 d c)))) (e+f)))<|.leaf (.inl ((ml (bz (!(g == h)) (aa 0 (gX (dC (aa 0 b a) (aa 0 d c))) (gW (dC (aa 0 b a) (aa 0 d c)))) (e+f))),(mn (bz (!(g == h)) (aa 0 (gX (dC (aa 0 b a) (aa 0 d c))) (gW (dC (aa 0 b a) (aa 0 d c)))) (e+f))),(mo (bz (!(g == h)) (aa 0 (gX (dC (aa 0 b a) (aa 0 d c))) (gW (dC (aa 0 b a) (aa 0 d c)))) (e+f))),(mp (bz (!(g == h)) (aa 0 (gX (dC (aa 0 b a) (aa 0 d c))) (gW (dC (aa 0 b a) (aa 0 d c)))) (e+f))),(mq (bz (!(g == h)) (aa 0 (gX (dC (aa 0 b a) (aa 0 d c))) (gW (dC (aa 0 b a) (aa 0 d c)))) (e+f)))))
def XD(a:Nat)(b:Bool)(c:List Int)(d:Nat)(e:Int) :T ((Empty)⊕(gZ)) :=
  .leaf (.inr (.r0 a b c d e))
def jJ(e:Bool)(a:List Int)(b:Int)(f:Bool)(c:List Int)(d:Int) :Option gZ:=ld (aC ((L6 a b c d).run) fun (g,u) =>
  aC ((Fx e a b f c d g).run) fun (h,i,j,k,l,m,n,o) =>
  aC ((Fy h i j k l m n o).run) fun (p,q,r,s,t) =>
  (XD p q r s t).run)
theorem alJ(f:Bool)(i:Lv)(b:List Int)(d:Int)(g:Bool)(j:Lv)(c:List Int)(e:Int){x:gZ}(h:jJ f b d g c e=some x) :aw prog pm [] [.agg [.bool false f,.imm i (.ns .u64 b) 1 1 0 (List.length b),.int .i64 d],.agg [.bool false g,.imm j (.ns .u64 c) 1 1 0 (List.length c),.int .i64 e]] (Pc x) :=
  Sg.contract true Pc (by kernel_rfl:prog.funcs[pm]? = some (FN pm)) (by kernel_rfl:(FN pm).body=some (bi pm)) (Sg.cut 2 L5 (Sg.seg (C:=C0) an uI 60 (Fw.take 2) (aT (FN pm) [] [.agg [.bool false f,.imm i (.ns .u64 b) 1 1 0 (List.length b),.int .i64 d],.agg [.bool false g,.imm j (.ns .u64 c) 1 1 0 (List.length c),.int .i64 e]]) (L6 b d c e) (XA f i b d g j c e) DK [⟨[],[0,16,32],[2,3,4,13]⟩,⟨[],[0,16,32],[2,3,4,13]⟩] (by kernel_rfl)) (fun a=>by obtain ⟨l,k⟩:=a;exact Sg.cut 2 L5 (Sg.seg (C:=C0) an uI 60 ((Fw.drop 2).take 2) (XA f i b d g j c e (l,k)) (Fx f b d g c e l) (XB k) DK [⟨[(.cell 2 1,.fre 1 1 (.ns .u64 ([]:List Int)))],[2],[4,5]⟩,⟨[],[0,1,2],[2,3,4]⟩] (by kernel_rfl)) (fun a=>by obtain ⟨m,n,o,p,q,r,s,t⟩:=a;exact Sg.cut 1 L5 (Sg.seg (C:=C0) an uI 60 (((Fw.drop 2).drop 2).take 1) (XB k (m,n,o,p,q,r,s,t)) (Fy m n o p q r s t) XC DK [⟨[],[2],[4,5]⟩] (by kernel_rfl)) (fun a=>by obtain ⟨u,v,w,y,z⟩:=a;exact Sg.seg (C:=C0) an uI 60 (((Fw.drop 2).drop 2).drop 1) (XC (u,v,w,y,z)) (XD u v w y z) (fun a:Empty=>a.elim) DK [⟨[],[0],[4,5]⟩] (by kernel_rfl)))))
    (fun x=>by cases x with | r0 A B D E F=>exact ⟨.inr rfl,[.agg [.bool false B,.imm .free (.ns .u64 D) 1 1 0 E,.int .i64 F],.int .i64 ((A:Nat):Int)],[],by kernel_rfl,trivial,by kernel_rfl⟩) h
def Fz:Option gZ→Bool
  | some _=>true
  | none=>false
def Pd:Option gZ→Nat
  | some (.r0 x _ _ _ _)=>x
  | _=>0
def GN:Option gZ→Bool
  | some (.r0 _ x _ _ _)=>x
  | _=>false
def GO:Option gZ→List Int
  | some (.r0 _ _ x _ _)=>x
  | _=>[]
def GQ:Option gZ→Nat
  | some (.r0 _ _ _ x _)=>x
  | _=>0
def GR:Option gZ→Int
  | some (.r0 _ _ _ _ x)=>x
  | _=>0
theorem alK{x:Option gZ}(h:Fz x=true) :x=some (.r0 (Pd x) (GN x) (GO x) (GQ x) (GR x)):=by
  unfold Fz at h
  split at h <;> first | rfl | (cases h;done) | (rename_i y;cases y;rfl)
def abM:aJ:=bW pm (.cons (.agg (.cons .bool (.cons (.ns .u64) (.cons (.int .i64) .nil)))) (.cons (.agg (.cons .bool (.cons (.ns .u64) (.cons (.int .i64) .nil)))) .nil)) fun t=>[⟨Pc (.r0 (Pd (jJ t.1.1 t.1.2.1.2 t.1.2.2.1 t.2.1.1 t.2.1.2.1.2 t.2.1.2.2.1)) (GN (jJ t.1.1 t.1.2.1.2 t.1.2.2.1 t.2.1.1 t.2.1.2.1.2 t.2.1.2.2.1)) (GO (jJ t.1.1 t.1.2.1.2 t.1.2.2.1 t.2.1.1 t.2.1.2.1.2 t.2.1.2.2.1)) (GQ (jJ t.1.1 t.1.2.1.2 t.1.2.2.1 t.2.1.1 t.2.1.2.1.2 t.2.1.2.2.1)) (GR (jJ t.1.1 t.1.2.1.2 t.1.2.2.1 t.2.1.1 t.2.1.2.1.2 t.2.1.2.2.1))),[Fz (jJ t.1.1 t.1.2.1.2 t.1.2.2.1 t.2.1.1 t.2.1.2.1.2 t.2.1.2.2.1)]⟩]
theorem afQ:aU prog abM:=aO fun t=>(aP (fun h=>alJ t.1.1 t.1.2.1.1 t.1.2.1.2 t.1.2.2.1 t.2.1.1 t.2.1.2.1.1 t.2.1.2.1.2 t.2.1.2.2.1 (alK h)) aW)
def abN:List aJ:=abM :: abL
theorem Pe:aY prog (bb abN):=au afQ uI
inductive pZ where
  | r0 (a:Int)
def alL:pZ→AE×aL
  | .r0 a=>(.ret,⟨ah 9 [(2,.int .i64 a)],[],0⟩)
def L7:pZ→jc
  | .r0 a=>⟨.int .i64 a,[]⟩
def ah8:List Code:=bJ (bi mS)
def SU(a:Bool)(b:List Int) :T ((Empty)⊕(pZ)) :=
  .ask ((((List.length b):Nat):Int) == (0:Int))
    (.leaf (.inr (.r0 (0:Int))))
    (.ask a
      (.leaf (.inr (.r0 (-1:Int))))
      (.leaf (.inr (.r0 (1:Int)))))
def j7(a:Bool)(b:List Int) :Option pZ:=ld ((SU a b).run)
theorem ah9(c:Bool)(d:Lv)(b:List Int)(e:Int){x:pZ}(h:j7 c b=some x) :aw prog mS [] [.agg [.bool false c,.imm d (.ns .u64 b) 1 1 0 (List.length b),.int .i64 e]] (L7 x) :=
  Sg.contract true L7 (by kernel_rfl:prog.funcs[mS]? = some (FN mS)) (by kernel_rfl:(FN mS).body=some (bi mS)) (Sg.seg (C:=C0) an Pe 60 ah8 (aT (FN mS) [] [.agg [.bool false c,.imm d (.ns .u64 b) 1 1 0 (List.length b),.int .i64 e]]) (SU c b) (fun a:Empty=>a.elim) alL [⟨[],[],[2]⟩,⟨[],[],[2]⟩,⟨[],[],[2]⟩] (by kernel_rfl))
    (fun x=>by cases x with | r0 f=>exact ⟨.inr rfl,[.int .i64 f],[],by kernel_rfl,trivial,by kernel_rfl⟩) h
def qr:Option pZ→Bool
  | some _=>true
  | none=>false
def oQ:Option pZ→Int
  | some (.r0 x)=>x
  | _=>0
theorem aia{x:Option pZ}(h:qr x=true) :x=some (.r0 (oQ x)):=by
  unfold qr at h
  split at h <;> first | rfl | (cases h;done) | (rename_i y;cases y;rfl)
def XE:aJ:=bW mS (.cons (.agg (.cons .bool (.cons (.ns .u64) (.cons (.int .i64) .nil)))) .nil) fun t=>[⟨L7 (.r0 (oQ (j7 t.1.1 t.1.2.1.2))),[qr (j7 t.1.1 t.1.2.1.2)]⟩]
theorem acK:aU prog XE:=aO fun t=>(aP (fun h=>ah9 t.1.1 t.1.2.1.1 t.1.2.1.2 t.1.2.2.1 (aia h)) aW)
def XF:List aJ:=XE :: abN
theorem hZ:aY prog (bb XF):=au acK Pe
inductive fO where
  | r0 (a:Int) (b:Nat)
def nG:fO→AE×aL
  | .r0 a b=>(.ret,⟨ah 49 [(4,.int .i64 a),(5,.int .i64 ((b:Nat):Int))],[],0⟩)
theorem p5:kR nG:=by intro x;cases x <;> (intro h;cases h)
def Pf:fO→jc
  | .r0 a b=>⟨.tup [.int .i64 a,.int .i64 ((b:Nat):Int)],[]⟩
def na:List Code:=bJ (bi pt)
def XG(c:Bool)(d:Lv)(a:List Int)(e:Int)(f:Bool)(g:Lv)(b:List Int)(h:Int)(i:Bool) :aL:=⟨ah 49 [(2,.ptr 0 1 0 0),(3,.ptr 1 1 0 0),(16,.bool false i)],[(0,.vs [.bool false c,.imm d (.ns .u64 a) 1 1 0 (List.length a),.int .i64 e]),(1,.vs [.bool false f,.imm g (.ns .u64 b) 1 1 0 (List.length b),.int .i64 h])],2⟩
def SV(a:List Int)(c:Int)(b:List Int)(d:Int) :T ((Bool)⊕(fO)) :=
  .need (aQ 0 (List.length a) a)<|.need (j6 (dW (aa 0 (List.length a) a) c))<|.ask (!(i4 (dW (aa 0 (List.length a) a) c)))
    (.leaf (.inl true))
    (.need (aQ 0 (List.length b) b)<|.need (j6 (dW (aa 0 (List.length b) b) d))<|.leaf (.inl (!(i4 (dW (aa 0 (List.length b) b) d)))))
def XH:Bool×(List Int)×Nat×Int×Bool×(List Int)×Nat×Int→aL:=fun (a,b,c,d,e,f,g,h)=>⟨ah 49 [(2,.ptr 0 1 0 0),(3,.ptr 1 1 0 0)],[(0,.vs [.bool false a,.imm .free (.ns .u64 b) 1 1 0 c,.int .i64 d]),(1,.vs [.bool false e,.imm .free (.ns .u64 f) 1 1 0 g,.int .i64 h])],2⟩
def SW(c:Bool)(a:List Int)(d:Int)(e:Bool)(b:List Int)(f:Int)(g:Bool) :T ((Bool×(List Int)×Nat×Int×Bool×(List Int)×Nat×Int)⊕(fO)) :=
  .ask g
    (.leaf (.inr (.r0 (0:Int) 2)))
    (.need (aQ 0 (List.length a) a)<|.need (gg (aR c (aa 0 (List.length a) a) d))<|.need (aQ 0 (List.length b) b)<|.need (gg (aR e (aa 0 (List.length b) b) f))<|.leaf (.inl ((fq (aR c (aa 0 (List.length a) a) d)),(fu (aR c (aa 0 (List.length a) a) d)),(fv (aR c (aa 0 (List.length a) a) d)),(fw (aR c (aa 0 (List.length a) a) d)),(fq (aR e (aa 0 (List.length b) b) f)),(fu (aR e (aa 0 (List.length b) b) f)),(fv (aR e (aa 0 (List.length b) b) f)),(fw (aR e (aa 0 (List.length b) b) f)))))
def XI(a:Bool)(b:List Int)(c:Nat)(d:Int)(e:Bool)(f:List Int)(g:Nat)(h:Int)(i:Bool) :aL:=⟨ah 49 [(2,.ptr 0 1 0 0),(3,.ptr 1 1 0 0),(23,.bool false i)],[(0,.vs [.bool false a,.imm .free (.ns .u64 b) 1 1 0 c,.int .i64 d]),(1,.vs [.bool false e,.imm .free (.ns .u64 f) 1 1 0 g,.int .i64 h])],2⟩
def SX(a:List Int)(b:Nat)(e:Int)(c:List Int)(d:Nat)(f:Int) :T ((Bool)⊕(fO)) :=
  .need (aQ 0 b a)<|.need (aQ 0 d c)<|.need (z7 (rI (aa 0 b a) e (aa 0 d c) f))<|.leaf (.inl (z8 (rI (aa 0 b a) e (aa 0 d c) f)))
def XJ(a:Bool)(b:List Int)(c:Nat)(d:Int)(e:Bool)(f:List Int)(g:Nat)(h:Int)(i:Bool) :aL:=⟨ah 49 [(2,.ptr 0 1 0 0),(3,.ptr 1 1 0 0),(28,.bool false i)],[(0,.vs [.bool false a,.imm .free (.ns .u64 b) 1 1 0 c,.int .i64 d]),(1,.vs [.bool false e,.imm .free (.ns .u64 f) 1 1 0 g,.int .i64 h])],2⟩
def SY(e:Bool)(a:List Int)(b:Nat)(f:Bool)(c:List Int)(d:Nat)(g:Bool) :T ((Bool)⊕(fO)) :=
  .ask g
    (.leaf (.inr (.r0 (0:Int) 3)))
    (.need (aQ 0 b a)<|.need (qr (j7 e (aa 0 b a)))<|.need (aQ 0 d c)<|.need (qr (j7 f (aa 0 d c)))<|.leaf (.inl ((oQ (j7 e (aa 0 b a))) != (oQ (j7 f (aa 0 d c))))))
def XK(a:Bool)(b:List Int)(c:Nat)(d:Int)(e:Bool)(f:List Int)(g:Nat)(h:Int)(_:Unit) :aL:=⟨ah 49 [(2,.ptr 0 1 0 0),(3,.ptr 1 1 0 0)],[(0,.vs [.bool false a,.imm .free (.ns .u64 b) 1 1 0 c,.int .i64 d]),(1,.vs [.bool false e,.imm .free (.ns .u64 f) 1 1 0 g,.int .i64 h])],2⟩
def SZ(e:Bool)(a:List Int)(b:Nat)(f:Bool)(c:List Int)(d:Nat)(g:Bool) :T ((Unit)⊕(fO)) :=
  .ask g
    (.need (aQ 0 b a)<|.need (qr (j7 e (aa 0 b a)))<|.need (aQ 0 d c)<|.need (qr (j7 f (aa 0 d c)))<|.ask (decide ((oQ (j7 e (aa 0 b a))) < (oQ (j7 f (aa 0 d c)))))
      (.leaf (.inr (.r0 (-1:Int) 0)))
      (.leaf (.inr (.r0 (1:Int) 0))))
    (.leaf (.inl ()))
def XL(a:Bool)(b:List Int)(c:Nat)(d:Int) :(List Int)×Nat×(List Int)×Nat→aL:=fun (e,f,g,h)=>⟨ah 49 [(2,.ptr 0 1 0 0),(6,.imm .free (.ns .u64 e) 1 1 0 f),(7,.imm .free (.ns .u64 g) 1 1 0 h)],[(0,.vs [.bool false a,.imm .free (.ns .u64 b) 1 1 0 c,.int .i64 d])],1⟩
def S0(a:List Int)(b:Nat)(e:Int)(c:List Int)(d:Nat)(f:Int) :T (((List Int)×Nat×(List Int)×Nat)⊕(fO)) :=
  .need (aQ 0 b a)<|.need (aQ 0 d c)<|.need (uH (c9 (aa 0 b a) e (aa 0 d c) f))<|.leaf (.inl ((vO (c9 (aa 0 b a) e (aa 0 d c) f)),(vP (c9 (aa 0 b a) e (aa 0 d c) f)),(vQ (c9 (aa 0 b a) e (aa 0 d c) f)),(vR (c9 (aa 0 b a) e (aa 0 d c) f))))
def XM(a:List Int)(b:Nat)(c:List Int)(d:Nat)(_:Unit) :aL:=⟨ah 49 [(6,.imm .free (.ns .u64 a) 1 1 0 b),(7,.imm .free (.ns .u64 c) 1 1 0 d)],[],0⟩
def S2(e:Bool)(a:List Int)(b:Nat)(c:List Int)(d:Nat) :T ((Unit)⊕(fO)) :=
  .ask e
    (.need (aQ 0 d c)<|.need (aQ 0 b a)<|.need (vM (nC (aa 0 d c) (aa 0 b a)))<|.leaf (.inr (.r0 (uA (nC (aa 0 d c) (aa 0 b a))) 0)))
    (.leaf (.inl ()))
def XN(a:Int) :aL:=⟨ah 49 [(4,.int .i64 a),(5,.int .i64 (0:Int))],[],0⟩
def S3(a:List Int)(b:Nat)(c:List Int)(d:Nat) :T ((Int)⊕(fO)) :=
  .need (aQ 0 b a)<|.need (aQ 0 d c)<|.need (vM (nC (aa 0 b a) (aa 0 d c)))<|.leaf (.inl (uA (nC (aa 0 b a) (aa 0 d c))))
def S4(a:Int) :T ((Empty)⊕(fO)) :=
  .leaf (.inr (.r0 a 0))
def Im(q:Bool)(f:List Int)(g:Int)(r:Bool)(h:List Int)(i:Int) :Option fO:=ld (aC ((SV f g h i).run) fun s =>
  aC ((SW q f g r h i s).run) fun (e,a,b,j,k,c,d,l) =>
  aC ((SX a b j c d l).run) fun t =>
  aC ((SY e a b k c d t).run) fun u =>
  aC ((SZ e a b k c d u).run) fun _ =>
  aC ((S0 a b j c d l).run) fun (m,n,o,p) =>
  aC ((S2 e m n o p).run) fun _ =>
  aC ((S3 m n o p).run) fun v =>
  (S4 v).run)
theorem alM(o:Bool)(u:Lv)(i:List Int)(m:Int)(p:Bool)(v:Lv)(j:List Int)(n:Int){x:fO}(h:Im o i m p j n=some x) :aw prog pt [] [.agg [.bool false o,.imm u (.ns .u64 i) 1 1 0 (List.length i),.int .i64 m],.agg [.bool false p,.imm v (.ns .u64 j) 1 1 0 (List.length j),.int .i64 n]] (Pf x) :=
  Sg.contract true Pf (by kernel_rfl:prog.funcs[pt]? = some (FN pt)) (by kernel_rfl:(FN pt).body=some (bi pt)) (Sg.cut 2 p5 (Sg.seg (C:=C0) an hZ 60 (na.take 2) (aT (FN pt) [] [.agg [.bool false o,.imm u (.ns .u64 i) 1 1 0 (List.length i),.int .i64 m],.agg [.bool false p,.imm v (.ns .u64 j) 1 1 0 (List.length j),.int .i64 n]]) (SV i m j n) (XG o u i m p v j n) nG [⟨[],[0,16],[2,3,16]⟩,⟨[],[0,16],[2,3,16]⟩] (by kernel_rfl)) (fun w=>by exact Sg.cut 2 p5 (Sg.seg (C:=C0) an hZ 60 ((na.drop 2).take 2) (XG o u i m p v j n w) (SW o i m p j n w) XH nG [⟨[],[],[4,5]⟩,⟨[],[0,1],[2,3]⟩] (by kernel_rfl)) (fun a=>by obtain ⟨d,b,c,e,k,f,g,l⟩:=a;exact Sg.cut 1 p5 (Sg.seg (C:=C0) an hZ 60 (((na.drop 2).drop 2).take 1) (XH (d,b,c,e,k,f,g,l)) (SX b c e f g l) (XI d b c e k f g l) nG [⟨[],[0,1],[2,3,23]⟩] (by kernel_rfl)) (fun y=>by exact Sg.cut 2 p5 (Sg.seg (C:=C0) an hZ 60 ((((na.drop 2).drop 2).drop 1).take 2) (XI d b c e k f g l y) (SY d b c k f g y) (XJ d b c e k f g l) nG [⟨[],[],[4,5]⟩,⟨[],[0,1],[2,3,28]⟩] (by kernel_rfl)) (fun z=>by exact Sg.cut 1 p5 (Sg.seg (C:=C0) an hZ 60 (((((na.drop 2).drop 2).drop 1).drop 2).take 1) (XJ d b c e k f g l z) (SZ d b c k f g z) (XK d b c e k f g l) nG [⟨[],[],[4,5]⟩,⟨[],[],[4,5]⟩,⟨[],[0,1],[2,3]⟩] (by kernel_rfl)) (fun a=>by cases a;exact Sg.cut 1 p5 (Sg.seg (C:=C0) an hZ 60 ((((((na.drop 2).drop 2).drop 1).drop 2).drop 1).take 1) (XK d b c e k f g l ()) (S0 b c e f g l) (XL d b c e) nG [⟨[],[0],[2,6,7]⟩] (by kernel_rfl)) (fun a=>by obtain ⟨q,r,s,t⟩:=a;exact Sg.cut 2 p5 (Sg.seg (C:=C0) an hZ 60 (((((((na.drop 2).drop 2).drop 1).drop 2).drop 1).drop 1).take 2) (XL d b c e (q,r,s,t)) (S2 d q r s t) (XM q r s t) nG [⟨[],[],[4,5]⟩,⟨[],[],[6,7]⟩] (by kernel_rfl)) (fun a=>by cases a;exact Sg.cut 1 p5 (Sg.seg (C:=C0) an hZ 60 ((((((((na.drop 2).drop 2).drop 1).drop 2).drop 1).drop 1).drop 2).take 1) (XM q r s t ()) (S3 q r s t) XN nG [⟨[],[],[4,5]⟩] (by kernel_rfl)) (fun A=>by exact Sg.seg (C:=C0) an hZ 60 ((((((((na.drop 2).drop 2).drop 1).drop 2).drop 1).drop 1).drop 2).drop 1) (XN A) (S4 A) (fun a:Empty=>a.elim) nG [⟨[],[],[4,5]⟩] (by kernel_rfl))))))))))
    (fun x=>by cases x with | r0 B D=>exact ⟨.inr rfl,[.int .i64 B,.int .i64 ((D:Nat):Int)],[],by kernel_rfl,trivial,by kernel_rfl⟩) h
def L8:Option fO→Bool
  | some _=>true
  | none=>false
def Pg:Option fO→Int
  | some (.r0 x _)=>x
  | _=>0
def Ph:Option fO→Nat
  | some (.r0 _ x)=>x
  | _=>0
theorem alN{x:Option fO}(h:L8 x=true) :x=some (.r0 (Pg x) (Ph x)):=by
  unfold L8 at h
  split at h <;> first | rfl | (cases h;done) | (rename_i y;cases y;rfl)
def abO:aJ:=bW pt (.cons (.agg (.cons .bool (.cons (.ns .u64) (.cons (.int .i64) .nil)))) (.cons (.agg (.cons .bool (.cons (.ns .u64) (.cons (.int .i64) .nil)))) .nil)) fun t=>[⟨Pf (.r0 (Pg (Im t.1.1 t.1.2.1.2 t.1.2.2.1 t.2.1.1 t.2.1.2.1.2 t.2.1.2.2.1)) (Ph (Im t.1.1 t.1.2.1.2 t.1.2.2.1 t.2.1.1 t.2.1.2.1.2 t.2.1.2.2.1))),[L8 (Im t.1.1 t.1.2.1.2 t.1.2.2.1 t.2.1.1 t.2.1.2.1.2 t.2.1.2.2.1)]⟩]
theorem afR:aU prog abO:=aO fun t=>(aP (fun h=>alM t.1.1 t.1.2.1.1 t.1.2.1.2 t.1.2.2.1 t.2.1.1 t.2.1.2.1.1 t.2.1.2.1.2 t.2.1.2.2.1 (alN h)) aW)
def abP:List aJ:=abO :: XF
theorem uJ:aY prog (bb abP):=au afR hZ
inductive eX where
  | r0 (a:Nat) (b:Bool) (c:List Int) (d:Nat) (e:Int)
def w5:eX→AE×aL
  | .r0 a b c d e=>(.ret,⟨ah 28 [(4,.ptr 0 1 0 0),(5,.int .i64 ((a:Nat):Int))],[(0,.vs [.bool false b,.imm .free (.ns .u64 c) 1 1 0 d,.int .i64 e])],1⟩)
theorem GS:kR w5:=by intro x;cases x <;> (intro h;cases h)
def Jp:eX→jc
  | .r0 a b c d e=>⟨.tup [.agg [.bool false b,.imm .free (.ns .u64 c) 1 1 0 d,.int .i64 e],.int .i64 ((a:Nat):Int)],[]⟩
def Af:List Code:=bJ (bi lz)
def Pi(b:Bool)(c:Lv)(a:List Int)(d:Int)(e:Int) :Bool×Bool→aL:=fun (f,g)=>⟨ah 28 [(1,.int .i64 e),(2,.ptr 0 1 0 0),(4,.ptr 1 1 0 0),(8,.bool false f)],[(0,.vs [.bool false b,.imm c (.ns .u64 a) 1 1 0 (List.length a),.int .i64 d]),(1,.vs [.bool false g,.nsl,.int .i64 (0:Int)])],2⟩
def Pj(a:List Int)(b:Int) :T ((Bool×Bool)⊕(eX)) :=
  .need (aQ 0 (List.length a) a)<|.need (j6 (dW (aa 0 (List.length a) a) b))<|.leaf (.inl ((!(i4 (dW (aa 0 (List.length a) a) b))),false))
def Pk(a:Int)(b:Bool) :Bool×(List Int)×Nat×Int→aL:=fun (c,d,e,f)=>⟨ah 28 [(1,.int .i64 a),(2,.ptr 0 1 0 0),(4,.ptr 1 1 0 0)],[(0,.vs [.bool false c,.imm .free (.ns .u64 d) 1 1 0 e,.int .i64 f]),(1,.vs [.bool false b,.nsl,.int .i64 (0:Int)])],2⟩
def Pm(b:Bool)(a:List Int)(c:Int)(d:Bool) :T ((Bool×(List Int)×Nat×Int)⊕(eX)) :=
  .ask d
    (.leaf (.inr (.r0 2 false ([]:List Int) 0 (0:Int))))
    (.need (aQ 0 (List.length a) a)<|.need (gg (aR b (aa 0 (List.length a) a) c))<|.leaf (.inl ((fq (aR b (aa 0 (List.length a) a) c)),(fu (aR b (aa 0 (List.length a) a) c)),(fv (aR b (aa 0 (List.length a) a) c)),(fw (aR b (aa 0 (List.length a) a) c)))))
def Pn:Nat×Bool×(List Int)×Nat×Int→aL:=fun (a,b,c,d,e)=>⟨ah 28 [(4,.ptr 0 1 0 0),(5,.int .i64 ((a:Nat):Int))],[(0,.vs [.bool false b,.imm .free (.ns .u64 c) 1 1 0 d,.int .i64 e])],1⟩
def Po(d:Int)(e:Bool)(b:List Int)(a:Nat)(c:Int) :T ((Nat×Bool×(List Int)×Nat×Int)⊕(eX)) :=
  .ask (((a:Nat):Int) == (0:Int))
    (.leaf (.inr (.r0 0 e b a c)))
    (.need (d8 .i64 (c+(oF (-1048576:Int) (ws (1048576:Int) d))))<|.need (aQ 0 a b)<|.need (nD (bz e (aa 0 a b) (c+(oF (-1048576:Int) (ws (1048576:Int) d)))))<|.leaf (.inl ((ml (bz e (aa 0 a b) (c+(oF (-1048576:Int) (ws (1048576:Int) d))))),(mn (bz e (aa 0 a b) (c+(oF (-1048576:Int) (ws (1048576:Int) d))))),(mo (bz e (aa 0 a b) (c+(oF (-1048576:Int) (ws (1048576:Int) d))))),(mp (bz e (aa 0 a b) (c+(oF (-1048576:Int) (ws (1048576:Int) d))))),(mq (bz e (aa 0 a b) (c+(oF (-1048576:Int) (ws (1048576:Int) d))))))))
def Pp(a:Nat)(b:Bool)(c:List Int)(d:Nat)(e:Int) :T ((Empty)⊕(eX)) :=
  .leaf (.inr (.r0 a b c d e))
def ia(c:Bool)(a:List Int)(b:Int)(d:Int) :Option eX:=ld (aC ((Pj a b).run) fun (e,o) =>
  aC ((Pm c a b e).run) fun (f,g,h,i) =>
  aC ((Po d f g h i).run) fun (j,k,l,m,n) =>
  (Pp j k l m n).run)
theorem afS(e:Bool)(f:Lv)(b:List Int)(d:Int)(c:Int){x:eX}(h:ia e b d c=some x) :aw prog lz [] [.agg [.bool false e,.imm f (.ns .u64 b) 1 1 0 (List.length b),.int .i64 d],.int .i64 c] (Jp x) :=
  Sg.contract true Jp (by kernel_rfl:prog.funcs[lz]? = some (FN lz)) (by kernel_rfl:(FN lz).body=some (bi lz)) (Sg.cut 2 GS (Sg.seg (C:=C0) an uJ 60 (Af.take 2) (aT (FN lz) [] [.agg [.bool false e,.imm f (.ns .u64 b) 1 1 0 (List.length b),.int .i64 d],.int .i64 c]) (Pj b d) (Pi e f b d c) w5 [⟨[],[0,16],[1,2,4,8]⟩] (by kernel_rfl)) (fun a=>by obtain ⟨i,g⟩:=a;exact Sg.cut 2 GS (Sg.seg (C:=C0) an uJ 60 ((Af.drop 2).take 2) (Pi e f b d c (i,g)) (Pm e b d i) (Pk c g) w5 [⟨[(.cell 1 1,.fre 1 1 (.ns .u64 ([]:List Int)))],[1],[4,5]⟩,⟨[],[0,1],[1,2,4]⟩] (by kernel_rfl)) (fun a=>by obtain ⟨j,k,l,m⟩:=a;exact Sg.cut 4 GS (Sg.seg (C:=C0) an uJ 60 (((Af.drop 2).drop 2).take 4) (Pk c g (j,k,l,m)) (Po c j k l m) Pn w5 [⟨[],[1],[4,5]⟩,⟨[],[1],[4,5]⟩] (by kernel_rfl)) (fun a=>by obtain ⟨n,o,p,q,r⟩:=a;exact Sg.seg (C:=C0) an uJ 60 (((Af.drop 2).drop 2).drop 4) (Pn (n,o,p,q,r)) (Pp n o p q r) (fun a:Empty=>a.elim) w5 [⟨[],[0],[4,5]⟩] (by kernel_rfl)))))
    (fun x=>by cases x with | r0 s t u v w=>exact ⟨.inr rfl,[.agg [.bool false t,.imm .free (.ns .u64 u) 1 1 0 v,.int .i64 w],.int .i64 ((s:Nat):Int)],[],by kernel_rfl,trivial,by kernel_rfl⟩) h
def Ag:Option eX→Bool
  | some _=>true
  | none=>false
def Kh:Option eX→Nat
  | some (.r0 x _ _ _ _)=>x
  | _=>0
def BL:Option eX→Bool
  | some (.r0 _ x _ _ _)=>x
  | _=>false
def BM:Option eX→List Int
  | some (.r0 _ _ x _ _)=>x
  | _=>[]
def BN:Option eX→Nat
  | some (.r0 _ _ _ x _)=>x
  | _=>0
def BO:Option eX→Int
  | some (.r0 _ _ _ _ x)=>x
  | _=>0
theorem afT{x:Option eX}(h:Ag x=true) :x=some (.r0 (Kh x) (BL x) (BM x) (BN x) (BO x)):=by
  unfold Ag at h
  split at h <;> first | rfl | (cases h;done) | (rename_i y;cases y;rfl)
def S5:aJ:=bW lz (.cons (.agg (.cons .bool (.cons (.ns .u64) (.cons (.int .i64) .nil)))) (.cons (.int .i64) .nil)) fun t=>[⟨Jp (.r0 (Kh (ia t.1.1 t.1.2.1.2 t.1.2.2.1 t.2.1)) (BL (ia t.1.1 t.1.2.1.2 t.1.2.2.1 t.2.1)) (BM (ia t.1.1 t.1.2.1.2 t.1.2.2.1 t.2.1)) (BN (ia t.1.1 t.1.2.1.2 t.1.2.2.1 t.2.1)) (BO (ia t.1.1 t.1.2.1.2 t.1.2.2.1 t.2.1))),[Ag (ia t.1.1 t.1.2.1.2 t.1.2.2.1 t.2.1)]⟩]
theorem ZA:aU prog S5:=aO fun t=>(aP (fun h=>afS t.1.1 t.1.2.1.1 t.1.2.1.2 t.1.2.2.1 t.2.1 (afT h)) aW)
def S6:List aJ:=S5 :: abP
theorem vT:aY prog (bb S6):=au ZA uJ
end
end Go.Plb.Seat
namespace Go.Plb.Seat
open Go Go.Plb
set_option linter.unusedVariables false
set_option maxRecDepth 100000
noncomputable section
inductive jK where
  | r0 (a:Int) (b:Nat) (c:List Nat)
def y6:jK→AE×aL
  | .r0 a b c=>(.ret,⟨ah 26 [(2,.ptr 0 1 0 0)],[(0,.vs [.int .i64 a,.int .i64 a,.sl 1 1 1 0 b b]),(1,.fl c)],2⟩)
theorem L9:kR y6:=by intro x;cases x <;> (intro h;cases h)
theorem alO(id:Nat) :qE id y6:=by intro x;cases x <;> (intro h;cases h)
def Pq:jK→jc
  | .r0 a b c=>⟨.agg [.int .i64 a,.int .i64 a,.sl 0 1 1 0 b b],[some (.fl c)]⟩
def Ah:List Code:=bJ (bi rB)
def XO(a:Int) :Nat×(List Nat)→aL:=fun (b,c)=>⟨ah 26 [(0,.int .i64 a),(2,.ptr 0 1 0 0),(3,.ptr 1 1 0 0),(4,.int .i64 (0:Int))],[(0,.vs [.int .i64 (0:Int),.int .i64 (0:Int),.nsl]),(1,.vs [.int .i64 a,.int .i64 a,.sl 2 1 1 0 b b]),(2,.fl c)],3⟩
def XP(a:Int) :T ((Nat×(List Nat))⊕(jK)) :=
  .need (d8 .i64 (a * a))<|.need (decide ((0:Int)≤(a * a)))<|.need (decide ((a * a)≤(a * a)))<|.need (decide ((8:Int) * (a * a)≤140737488355328))<|.need (d8 .i64 (a * a))<|.leaf (.inl ((Int.toNat (a * a)),(List.replicate (Int.toNat (a * a)) 0)))
def vU(a:Int)(b:Nat) :Nat×(List Nat)→aL:=fun (c,d)=>⟨ah 26 [(0,.int .i64 a),(2,.ptr 0 1 0 0),(3,.ptr 1 1 0 0),(4,.int .i64 ((c:Nat):Int))],[(0,.vs [.int .i64 (0:Int),.int .i64 (0:Int),.nsl]),(1,.vs [.int .i64 a,.int .i64 a,.sl 2 1 1 0 b b]),(2,.fl d)],3⟩
def FB(a:Int)(b:Nat)(c:(List Nat)) :aL:=⟨ah 26 [(2,.ptr 0 1 0 0),(3,.ptr 1 1 0 0)],[(0,.vs [.int .i64 (0:Int),.int .i64 (0:Int),.nsl]),(1,.vs [.int .i64 a,.int .i64 a,.sl 2 1 1 0 b b]),(2,.fl c)],3⟩
def XQ:List Code:=bJ (bK ((((Ah.drop 3).take 1)).headD .skip))
def XR(b:Int)(d:Nat)(a:Nat)(c:List Nat) :T ((Nat×(List Nat))⊕(((List Nat))⊕(jK))) :=
  .ask (decide (((a:Nat):Int) < b))
    (.need (d8 .i64 (((a:Nat):Int) * b))<|.need (d8 .i64 ((((a:Nat):Int) * b)+((a:Nat):Int)))<|.need (iS ((((a:Nat):Int) * b)+((a:Nat):Int)) d)<|.need (jC (Int.toNat ((((a:Nat):Int) * b)+((a:Nat):Int))) (List.length c))<|.need (d8 .i64 (((a+1):Nat):Int))<|.leaf (.inl ((a+1),(List.set c (Int.toNat ((((a:Nat):Int) * b)+((a:Nat):Int))) 4607182418800017408))))
    (.leaf (.inr (.inl c)))
def Jq(a:Int)(b:Nat) :Nat×(List Nat)→Option ((Nat×(List Nat))⊕(((List Nat))⊕(jK))):=fun (c,d) =>
  (XR a b c d).run
theorem aib(a:Int)(b:Nat)(c:Nat)(d:List Nat) :Sg prog [] XQ (vU a b (c,d)) (Jq a b (c,d)) (vU a b) (aN 0 (FB a b) y6):=by
  unfold Jq;exact Sg.seg (C:=C0) an vT 60 XQ (vU a b (c,d)) (XR a b c d) (vU a b) (aN 0 (FB a b) y6) [⟨[],[0,1,2],[0,2,3,4]⟩,⟨[],[0,1,2],[2,3]⟩] (by kernel_rfl)
def alP(a:Int)(b:Nat) :(List Nat)→aL:=FB a b
def S7(a:Int)(b:Nat)(c:List Nat) :T ((Empty)⊕(jK)) :=
  .leaf (.inr (.r0 a b c))
def nH(a:Int) :Option jK:=ld (aC ((XP a).run) fun (b,c) =>
  aC (dM (Jq a b) (0,c)) fun d =>
  (S7 a b d).run)
theorem alQ(b:Int){x:jK}(h:nH b=some x) :aw prog rB [] [.int .i64 b] (Pq x) :=
  Sg.contract false Pq (by kernel_rfl:prog.funcs[rB]? = some (FN rB)) (by kernel_rfl:(FN rB).body=some (bi rB)) (Sg.cut 3 L9 (Sg.seg (C:=C0) an vT 60 (Ah.take 3) (aT (FN rB) [] [.int .i64 b]) (XP b) (XO b) y6 [⟨[],[0,128,96],[0,2,3,4]⟩] (by kernel_rfl)) (fun a=>by obtain ⟨c,d⟩:=a;exact Sg.cut 1 L9 (Sg.pre ⟨[],[0,1,2],[0,2,3,4]⟩ rfl (by kernel_rfl:NS.on ⟨[],[0,1,2],[0,2,3,4]⟩ (XO b (c,d))=(vU b c) (0,d)) (bU (I:=(vU b c)) (J:=(FB b c)) (id:=0) (by kernel_rfl:((Ah.drop 3).take 1) = [.block 0 (.loop (bK ((((Ah.drop 3).take 1)).headD .skip)))]) L9 (alO _) (fun s=>by obtain ⟨i,j⟩:=s;exact aib b c i j) (0,d))) (fun e=>by exact Sg.seg (C:=C0) an vT 60 ((Ah.drop 3).drop 1) (alP b c e) (S7 b c e) (fun a:Empty=>a.elim) y6 [⟨[],[0,2],[2]⟩] (by kernel_rfl))))
    (fun x=>by cases x with | r0 f g k=>exact ⟨.inr rfl,[.agg [.int .i64 f,.int .i64 f,.sl 1 1 1 0 g g]],[],by kernel_rfl,trivial,by kernel_rfl⟩) h
def FC:Option jK→Bool
  | some _=>true
  | none=>false
def GT:Option jK→Int
  | some (.r0 x _ _)=>x
  | _=>0
def GU:Option jK→Nat
  | some (.r0 _ x _)=>x
  | _=>0
def GV:Option jK→List Nat
  | some (.r0 _ _ x)=>x
  | _=>[]
theorem alR{x:Option jK}(h:FC x=true) :x=some (.r0 (GT x) (GU x) (GV x)):=by
  unfold FC at h
  split at h <;> first | rfl | (cases h;done) | (rename_i y;cases y;rfl)
def abQ:aJ:=bW rB (.cons (.int .i64) .nil) fun t=>[⟨Pq (.r0 (GT (nH t.1)) (GU (nH t.1)) (GV (nH t.1))),[FC (nH t.1)]⟩]
theorem afU:aU prog abQ:=aO fun t=>(aP (fun h=>alQ t.1 (alR h)) aW)
def abR:List aJ:=abQ :: S6
theorem GW:aY prog (bb abR):=au afU vT
inductive nc where
  | r0 (a:Bool)
def Ma:nc→AE×aL
  | .r0 a=>(.ret,⟨ah 32 [(2,.bool false a)],[],0⟩)
theorem aic:kR Ma:=by intro x;cases x <;> (intro h;cases h)
def Mb:nc→jc
  | .r0 a=>⟨.bool false a,[]⟩
def S8:List Code:=bJ (bi ph)
def S9(a:Bool) :aL:=⟨ah 32 [(2,.bool false a)],[],0⟩
def Jr(a:Int)(b:Int)(c:List Nat) :T ((Bool)⊕(nc)) :=
  .ask (decide (a < (0:Int)))
    (.leaf (.inl true))
    (.ask (decide (a > (512:Int)))
      (.leaf (.inl true))
      (.ask (decide (b < (0:Int)))
        (.leaf (.inl true))
        (.ask (decide (b > (512:Int)))
          (.leaf (.inl true))
          (.need (d8 .i64 (a * b))<|.leaf (.inl ((((List.length c):Nat):Int) != (a * b)))))))
def Ta(a:Bool) :T ((Empty)⊕(nc)) :=
  .leaf (.inr (.r0 a))
def dG(a:Int)(b:Int)(c:List Nat) :Option nc:=ld (aC ((Jr a b c).run) fun d =>
  (Ta d).run)
theorem aid(c:Int)(d:Int)(e:Lv)(b:List Nat){x:nc}(h:dG c d b=some x) :aw prog ph [] [.agg [.int .i64 c,.int .i64 d,.imm e (.fl b) 1 1 0 (List.length b)]] (Mb x) :=
  Sg.contract false Mb (by kernel_rfl:prog.funcs[ph]? = some (FN ph)) (by kernel_rfl:(FN ph).body=some (bi ph)) (Sg.cut 2 aic (Sg.seg (C:=C0) an GW 60 (S8.take 2) (aT (FN ph) [] [.agg [.int .i64 c,.int .i64 d,.imm e (.fl b) 1 1 0 (List.length b)]]) (Jr c d b) S9 Ma [⟨[],[],[2]⟩,⟨[],[],[2]⟩,⟨[],[],[2]⟩,⟨[],[],[2]⟩,⟨[],[],[2]⟩] (by kernel_rfl)) (fun f=>by exact Sg.seg (C:=C0) an GW 60 (S8.drop 2) (S9 f) (Ta f) (fun a:Empty=>a.elim) Ma [⟨[],[],[2]⟩] (by kernel_rfl)))
    (fun x=>by cases x with | r0 g=>exact ⟨.inr rfl,[.bool false g],[],by kernel_rfl,trivial,by kernel_rfl⟩) h
def i5:Option nc→Bool
  | some _=>true
  | none=>false
def ib:Option nc→Bool
  | some (.r0 x)=>x
  | _=>false
theorem aie{x:Option nc}(h:i5 x=true) :x=some (.r0 (ib x)):=by
  unfold i5 at h
  split at h <;> first | rfl | (cases h;done) | (rename_i y;cases y;rfl)
def XS:aJ:=bW ph (.cons (.agg (.cons (.int .i64) (.cons (.int .i64) (.cons .fl .nil)))) .nil) fun t=>[⟨Mb (.r0 (ib (dG t.1.1 t.1.2.1 t.1.2.2.1.2))),[i5 (dG t.1.1 t.1.2.1 t.1.2.2.1.2)]⟩]
theorem acL:aU prog XS:=aO fun t=>(aP (fun h=>aid t.1.1 t.1.2.1 t.1.2.2.1.1 t.1.2.2.1.2 (aie h)) aW)
def XT:List aJ:=XS :: abR
theorem xX:aY prog (bb XT):=au acL GW
inductive bk where
  | r0 (a:Int)
def cF:bk→AE×aL
  | .r0 a=>(.ret,⟨ah 19 [(4,.int .i64 a)],[],0⟩)
theorem gE:kR cF:=by intro x;cases x <;> (intro h;cases h)
theorem tV(id:Nat) :qE id cF:=by intro x;cases x <;> (intro h;cases h)
def g4:bk→jc
  | .r0 a=>⟨.int .i64 a,[]⟩
def dp:List Code:=bJ (bi ff)
def lf(b:Lv)(a:List Nat)(_:Unit) :aL:=⟨ah 19 [(0,.imm b (.fl a) 1 1 0 (List.length a)),(1,.fn (.func sA) [] []),(7,.int .i64 (((List.length a):Nat):Int)),(8,.int .i64 (0:Int))],[],0⟩
def lg:T ((Unit)⊕(bk)) :=
  .leaf (.inl ())
def cy(b:Lv)(a:List Nat)(c:Nat) :aL:=⟨ah 19 [(0,.imm b (.fl a) 1 1 0 (List.length a)),(1,.fn (.func sA) [] []),(7,.int .i64 (((List.length a):Nat):Int)),(8,.int .i64 ((c:Nat):Int))],[],0⟩
def eJ(_:Unit) :aL:=⟨ah 19 [],[],0⟩
def lh:List Code:=bJ (bK ((((dp.drop 2).take 1)).headD .skip))
def cz(b:List Nat)(a:Nat) :T ((Nat)⊕((Unit)⊕(bk))) :=
  .ask (decide (((a:Nat):Int) < (((List.length b):Nat):Int)))
    (.need (iS ((a:Nat):Int) (List.length b))<|.need (jC a (List.length b))<|.ask (fne (List.getD b a 0) (List.getD b a 0))
      (.leaf (.inr (.inr (.r0 ((a:Nat):Int)))))
      (.ask ((0:Int) == (0:Int))
        (.ask (fgt (Uz (List.getD b a 0)) 9218868437227405311)
          (.leaf (.inr (.inr (.r0 ((a:Nat):Int)))))
          (.need (d8 .i64 (((a+1):Nat):Int))<|.leaf (.inl (a+1))))
        (.fail)))
    (.leaf (.inr (.inl ())))
def eu(a:List Nat) :Nat→Option ((Nat)⊕((Unit)⊕(bk))):=fun b =>
  (cz a b).run
theorem tN(b:Lv)(a:List Nat)(c:Nat) :Sg prog [] lh (cy b a c) (eu a c) (cy b a) (aN 0 eJ cF):=by
  unfold eu;exact Sg.seg (C:=C0) an xX 60 lh (cy b a c) (cz a c) (cy b a) (aN 0 eJ cF) [⟨[],[],[4]⟩,⟨[],[],[4]⟩,⟨[],[],[0,1,7,8]⟩,⟨[],[],[]⟩] (by kernel_rfl)
def tW:Unit→aL:=eJ
def kP:T ((Empty)⊕(bk)) :=
  .leaf (.inr (.r0 (-1:Int)))
def az(a:List Nat) :Option bk:=ld (aC ((lg).run) fun _ =>
  aC (dM (eu a) 0) fun _ =>
  (kP).run)
theorem tX(c:Lv)(b:List Nat){x:bk}(h:az b=some x) :aw prog ff [] [.imm c (.fl b) 1 1 0 (List.length b),.fn (.func sA) [] []] (g4 x) :=
  Sg.contract false g4 (by kernel_rfl:prog.funcs[ff]? = some (FN ff)) (by kernel_rfl:(FN ff).body=some (bi ff)) (Sg.cut 2 gE (Sg.seg (C:=C0) an xX 60 (dp.take 2) (aT (FN ff) [] [.imm c (.fl b) 1 1 0 (List.length b),.fn (.func sA) [] []]) (lg) (lf c b) cF [⟨[],[],[0,1,7,8]⟩] (by kernel_rfl)) (fun a=>by cases a;exact Sg.cut 1 gE (Sg.pre ⟨[],[],[0,1,7,8]⟩ rfl (by kernel_rfl:NS.on ⟨[],[],[0,1,7,8]⟩ (lf c b ())=(cy c b) 0) (bU (I:=(cy c b)) (J:=(eJ)) (id:=0) (by kernel_rfl:((dp.drop 2).take 1) = [.block 0 (.loop (bK ((((dp.drop 2).take 1)).headD .skip)))]) gE (tV _) (fun s=>by exact tN c b s) 0)) (fun a=>by cases a;exact Sg.seg (C:=C0) an xX 60 ((dp.drop 2).drop 1) (tW ()) (kP) (fun a:Empty=>a.elim) cF [⟨[],[],[4]⟩] (by kernel_rfl))))
    (fun x=>by cases x with | r0 d=>exact ⟨.inr rfl,[.int .i64 d],[],by kernel_rfl,trivial,by kernel_rfl⟩) h
def ba:Option bk→Bool
  | some _=>true
  | none=>false
def bc:Option bk→Int
  | some (.r0 x)=>x
  | _=>0
theorem tY{x:Option bk}(h:ba x=true) :x=some (.r0 (bc x)):=by
  unfold ba at h
  split at h <;> first | rfl | (cases h;done) | (rename_i y;cases y;rfl)
def lU:aJ:=bW ff (.cons .fl (.cons (.fn sA .nil .nil) .nil)) fun t=>[⟨g4 (.r0 (bc (az t.1.2))),[ba (az t.1.2)]⟩]
theorem sL:aU prog lU:=aO fun t=>(aP (fun h=>tX t.1.1 t.1.2 (tY h)) aW)
def lW:List aJ:=lU :: XT
theorem fW:aY prog (bb lW):=au sL xX
inductive sf where
  | r0 (a:Bool)
def U6:sf→AE×aL
  | .r0 a=>(.ret,⟨ah 17 [(4,.bool false a)],[],0⟩)
theorem anT:kR U6:=by intro x;cases x <;> (intro h;cases h)
def U7:sf→jc
  | .r0 a=>⟨.bool false a,[]⟩
def abS:List Code:=bJ (bi ud)
def abT(a:Bool) :aL:=⟨ah 17 [(4,.bool false a)],[],0⟩
def abU(a:Nat)(b:Nat) :T ((Bool)⊕(sf)) :=
  .ask (fne a a)
    (.ask (!(fne b b))
      (.leaf (.inl true))
      (.leaf (.inl (flt a b))))
    (.leaf (.inl (flt a b)))
def abV(a:Bool) :T ((Empty)⊕(sf)) :=
  .leaf (.inr (.r0 a))
def BP(a:Nat)(b:Nat) :Option sf:=ld (aC ((abU a b).run) fun c =>
  (abV c).run)
theorem anU(b:Nat)(c:Nat){x:sf}(h:BP b c=some x) :aw prog ud [] [.flt false b,.flt false c] (U7 x) :=
  Sg.contract false U7 (by kernel_rfl:prog.funcs[ud]? = some (FN ud)) (by kernel_rfl:(FN ud).body=some (bi ud)) (Sg.cut 2 anT (Sg.seg (C:=C0) an fW 60 (abS.take 2) (aT (FN ud) [] [.flt false b,.flt false c]) (abU b c) abT U6 [⟨[],[],[4]⟩,⟨[],[],[4]⟩,⟨[],[],[4]⟩] (by kernel_rfl)) (fun d=>by exact Sg.seg (C:=C0) an fW 60 (abS.drop 2) (abT d) (abV d) (fun a:Empty=>a.elim) U6 [⟨[],[],[4]⟩] (by kernel_rfl)))
    (fun x=>by cases x with | r0 e=>exact ⟨.inr rfl,[.bool false e],[],by kernel_rfl,trivial,by kernel_rfl⟩) h
def In:Option sf→Bool
  | some _=>true
  | none=>false
def Js:Option sf→Bool
  | some (.r0 x)=>x
  | _=>false
theorem anV{x:Option sf}(h:In x=true) :x=some (.r0 (Js x)):=by
  unfold In at h
  split at h <;> first | rfl | (cases h;done) | (rename_i y;cases y;rfl)
def afV:aJ:=bW ud (.cons (.flt false) (.cons (.flt false) .nil)) fun t=>[⟨U7 (.r0 (Js (BP t.1 t.2.1))),[In (BP t.1 t.2.1)]⟩]
theorem aif:aU prog afV:=aO fun t=>(aP (fun h=>anU t.1 t.2.1 (anV h)) aW)
def afW:List aJ:=afV :: lW
theorem w6:aY prog (bb afW):=au aif fW
inductive d6 where
  | r0 (a:Bool)
def j8:d6→AE×aL
  | .r0 a=>(.ret,⟨ah 21 [(2,.bool false a)],[],0⟩)
theorem sh:kR j8:=by intro x;cases x <;> (intro h;cases h)
theorem U8(id:Nat) :qE id j8:=by intro x;cases x <;> (intro h;cases h)
def Ai:d6→jc
  | .r0 a=>⟨.bool false a,[]⟩
def oq:List Code:=bJ (bi iJ)
def GX(b:Lv)(a:List Nat)(c:Int) :aL:=⟨ah 21 [(0,.imm b (.fl a) 1 1 0 (List.length a)),(3,.int .i64 c)],[],0⟩
def GY(a:List Nat) :T ((Int)⊕(d6)) :=
  .need (d8 .i64 ((((List.length a):Nat):Int) - (1:Int)))<|.leaf (.inl ((((List.length a):Nat):Int) - (1:Int)))
def k8(b:Lv)(a:List Nat)(c:Int) :aL:=⟨ah 21 [(0,.imm b (.fl a) 1 1 0 (List.length a)),(3,.int .i64 c)],[],0⟩
def ot(_:Unit) :aL:=⟨ah 21 [],[],0⟩
def wm:List Code:=bJ (bK ((((oq.drop 2).take 1)).headD .skip))
def GZ(b:Lv)(a:List Nat)(c:Int)(_:Unit) :aL:=⟨ah 21 [(0,.imm b (.fl a) 1 1 0 (List.length a)),(3,.int .i64 c)],[],0⟩
def mv(b:List Nat)(a:Int) :T ((Unit)⊕((Unit)⊕(d6))) :=
  .ask (decide (a > (0:Int)))
    (.need (iS a (List.length b))<|.need (jC (Int.toNat a) (List.length b))<|.need (d8 .i64 (a - (1:Int)))<|.need (iS (a - (1:Int)) (List.length b))<|.need (jC (Int.toNat (a - (1:Int))) (List.length b))<|.need (In (BP (List.getD b (Int.toNat a) 0) (List.getD b (Int.toNat (a - (1:Int))) 0)))<|.ask (Js (BP (List.getD b (Int.toNat a) 0) (List.getD b (Int.toNat (a - (1:Int))) 0)))
      (.leaf (.inr (.inr (.r0 false))))
      (.leaf (.inl ())))
    (.leaf (.inr (.inl ())))
def EJ(a:Int) :T ((Int)⊕((Unit)⊕(d6))) :=
  .need (d8 .i64 (a - (1:Int)))<|.leaf (.inl (a - (1:Int)))
def qH(b:List Nat) :Int→Option ((Int)⊕((Unit)⊕(d6))):=fun a =>
  aC ((mv b a).run) fun _ =>
  (EJ a).run
theorem Rh(d:Lv)(b:List Nat)(c:Int) :Sg prog [] wm (k8 d b c) (qH b c) (k8 d b) (aN 0 ot j8):=by
  unfold qH;exact Sg.cut 3 (aI sh) (Sg.seg (C:=C0) an w6 60 (wm.take 3) (k8 d b c) (mv b c) (GZ d b c) (aN 0 ot j8) [⟨[],[],[2]⟩,⟨[],[],[0,3]⟩,⟨[],[],[]⟩] (by kernel_rfl)) (fun a=>by cases a;exact Sg.seg (C:=C0) an w6 60 (wm.drop 3) (GZ d b c ()) (EJ c) (k8 d b) (aN 0 ot j8) [⟨[],[],[0,3]⟩] (by kernel_rfl))
def U9:Unit→aL:=ot
def EK:T ((Empty)⊕(d6)) :=
  .leaf (.inr (.r0 true))
def md(a:List Nat) :Option d6:=ld (aC ((GY a).run) fun b =>
  aC (dM (qH a) b) fun _ =>
  (EK).run)
theorem Va(c:Lv)(b:List Nat){x:d6}(h:md b=some x) :aw prog iJ [] [.imm c (.fl b) 1 1 0 (List.length b)] (Ai x) :=
  Sg.contract false Ai (by kernel_rfl:prog.funcs[iJ]? = some (FN iJ)) (by kernel_rfl:(FN iJ).body=some (bi iJ)) (Sg.cut 2 sh (Sg.seg (C:=C0) an w6 60 (oq.take 2) (aT (FN iJ) [] [.imm c (.fl b) 1 1 0 (List.length b)]) (GY b) (GX c b) j8 [⟨[],[],[0,3]⟩] (by kernel_rfl)) (fun d=>by exact Sg.cut 1 sh (Sg.pre ⟨[],[],[0,3]⟩ rfl (by kernel_rfl:NS.on ⟨[],[],[0,3]⟩ (GX c b d)=(k8 c b) d) (bU (I:=(k8 c b)) (J:=(ot)) (id:=0) (by kernel_rfl:((oq.drop 2).take 1) = [.block 0 (.loop (bK ((((oq.drop 2).take 1)).headD .skip)))]) sh (U8 _) (fun s=>by exact Rh c b s) d)) (fun a=>by cases a;exact Sg.seg (C:=C0) an w6 60 ((oq.drop 2).drop 1) (U9 ()) (EK) (fun a:Empty=>a.elim) j8 [⟨[],[],[2]⟩] (by kernel_rfl))))
    (fun x=>by cases x with | r0 e=>exact ⟨.inr rfl,[.bool false e],[],by kernel_rfl,trivial,by kernel_rfl⟩) h
def si:Option d6→Bool
  | some _=>true
  | none=>false
def uK:Option d6→Bool
  | some (.r0 x)=>x
  | _=>false
theorem Vb{x:Option d6}(h:si x=true) :x=some (.r0 (uK x)):=by
  unfold si at h
  split at h <;> first | rfl | (cases h;done) | (rename_i y;cases y;rfl)
def Io:aJ:=bW iJ (.cons .fl .nil) fun t=>[⟨Ai (.r0 (uK (md t.1.2))),[si (md t.1.2)]⟩]
theorem Pr:aU prog Io:=aO fun t=>(aP (fun h=>Va t.1.1 t.1.2 (Vb h)) aW)
def Ip:List aJ:=Io :: afW
theorem jL:aY prog (bb Ip):=au Pr w6
inductive eQ where
  | r0 (a:Nat) (b:Bool) (c:List Int) (d:Nat) (e:Nat) (f:Int)
def vV:eQ→AE×aL
  | .r0 a b c d e f=>(.ret,⟨ah 45 [(4,.ptr 0 1 0 0),(5,.int .i64 ((a:Nat):Int))],[(0,.vs [.bool false b,.imm .free (.ns .u64 c) 1 1 d e,.int .i64 f])],1⟩)
theorem C3:kR vV:=by intro x;cases x <;> (intro h;cases h)
def Mc:eQ→jc
  | .r0 a b c d e f=>⟨.tup [.agg [.bool false b,.imm .free (.ns .u64 c) 1 1 d e,.int .i64 f],.int .i64 ((a:Nat):Int)],[]⟩
def w7:List Code:=bJ (bi mE)
def Tb(a:Int)(b:Int) :Bool×Bool→aL:=fun (c,d)=>⟨ah 45 [(0,.int .i64 a),(1,.int .i64 b),(4,.ptr 0 1 0 0),(22,.bool false c)],[(0,.vs [.bool false d,.nsl,.int .i64 (0:Int)])],1⟩
def Jt(a:Int)(b:Int) :T ((Bool×Bool)⊕(eQ)) :=
  .ask (decide (a < (0:Int)))
    (.leaf (.inl (true,false)))
    (.ask (decide (a > (512:Int)))
      (.leaf (.inl (true,false)))
      (.ask (decide (b < (0:Int)))
        (.leaf (.inl (true,false)))
        (.leaf (.inl ((decide (b > (512:Int))),false)))))
def Tc(a:Bool) :Bool×(List Int)×Nat×Nat×Int→aL:=fun (b,c,d,e,f)=>⟨ah 45 [(4,.ptr 0 1 0 0),(6,.ptr 1 1 0 0)],[(0,.vs [.bool false a,.nsl,.int .i64 (0:Int)]),(1,.vs [.bool false b,.imm .free (.ns .u64 c) 1 1 d e,.int .i64 f])],2⟩
def C4(a:Int)(b:Int)(c:Bool) :T ((Bool×(List Int)×Nat×Nat×Int)⊕(eQ)) :=
  .ask c
    (.leaf (.inr (.r0 2 false ([]:List Int) 0 0 (0:Int))))
    (.need (d8 .i64 ((64:Int) * (oF a (1:Int))))<|.need (d8 .i64 (((64:Int) * (oF a (1:Int))) * (oF b (1:Int))))<|.need (qm (bm (((64:Int) * (oF a (1:Int))) * (oF b (1:Int)))))<|.leaf (.inl ((kv (bm (((64:Int) * (oF a (1:Int))) * (oF b (1:Int))))),(jk (bm (((64:Int) * (oF a (1:Int))) * (oF b (1:Int))))),(jl (bm (((64:Int) * (oF a (1:Int))) * (oF b (1:Int))))),(jm (bm (((64:Int) * (oF a (1:Int))) * (oF b (1:Int))))),(kw (bm (((64:Int) * (oF a (1:Int))) * (oF b (1:Int))))))))
def Td(a:Bool) :Nat×Bool×(List Int)×Nat×Nat×Int→aL:=fun (b,c,d,e,f,g)=>⟨ah 45 [(4,.ptr 0 1 0 0),(7,.ptr 1 1 0 0),(8,.int .i64 ((b:Nat):Int))],[(0,.vs [.bool false a,.nsl,.int .i64 (0:Int)]),(1,.vs [.bool false c,.imm .free (.ns .u64 d) 1 1 e f,.int .i64 g])],2⟩
def C5(d:Bool)(a:List Int)(b:Nat)(c:Nat)(e:Int) :T ((Nat×Bool×(List Int)×Nat×Nat×Int)⊕(eQ)) :=
  .need (aQ b c a)<|.need (aQ b c a)<|.need (rG (ay d (aa b c a) e d (aa b c a) e))<|.leaf (.inl ((nt (ay d (aa b c a) e d (aa b c a) e)),(c7 (ay d (aa b c a) e d (aa b c a) e)),(cL (ay d (aa b c a) e d (aa b c a) e)),(cM (ay d (aa b c a) e d (aa b c a) e)),(cN (ay d (aa b c a) e d (aa b c a) e)),(c8 (ay d (aa b c a) e d (aa b c a) e))))
def Te:Nat×Bool×(List Int)×Nat×Nat×Int→aL:=fun (a,b,c,d,e,f)=>⟨ah 45 [(4,.ptr 0 1 0 0),(5,.int .i64 ((a:Nat):Int))],[(0,.vs [.bool false b,.imm .free (.ns .u64 c) 1 1 d e,.int .i64 f])],1⟩
def C6(f:Nat)(d:Bool)(a:List Int)(b:Nat)(c:Nat)(e:Int) :T ((Nat×Bool×(List Int)×Nat×Nat×Int)⊕(eQ)) :=
  .ask (((f:Nat):Int) != (0:Int))
    (.leaf (.inr (.r0 f false ([]:List Int) 0 0 (0:Int))))
    (.need (aQ b c a)<|.need (Cs (fk d (aa b c a) e (-106:Int)))<|.leaf (.inl ((D5 (fk d (aa b c a) e (-106:Int))),(D6 (fk d (aa b c a) e (-106:Int))),(D7 (fk d (aa b c a) e (-106:Int))),(D8 (fk d (aa b c a) e (-106:Int))),(D9 (fk d (aa b c a) e (-106:Int))),(Ea (fk d (aa b c a) e (-106:Int))))))
def Ps(a:Nat)(b:Bool)(c:List Int)(d:Nat)(e:Nat)(f:Int) :T ((Empty)⊕(eQ)) :=
  .leaf (.inr (.r0 a b c d e f))
def bZ(a:Int)(b:Int) :Option eQ:=ld (aC ((Jt a b).run) fun (c,u) =>
  aC ((C4 a b c).run) fun (d,e,f,g,h) =>
  aC ((C5 d e f g h).run) fun (i,j,k,l,m,n) =>
  aC ((C6 i j k l m n).run) fun (o,p,q,r,s,t) =>
  (Ps o p q r s t).run)
theorem aig(b:Int)(c:Int){x:eQ}(h:bZ b c=some x) :aw prog mE [] [.int .i64 b,.int .i64 c] (Mc x) :=
  Sg.contract true Mc (by kernel_rfl:prog.funcs[mE]? = some (FN mE)) (by kernel_rfl:(FN mE).body=some (bi mE)) (Sg.cut 2 C3 (Sg.seg (C:=C0) an jL 60 (w7.take 2) (aT (FN mE) [] [.int .i64 b,.int .i64 c]) (Jt b c) (Tb b c) vV [⟨[],[0],[0,1,4,22]⟩,⟨[],[0],[0,1,4,22]⟩,⟨[],[0],[0,1,4,22]⟩,⟨[],[0],[0,1,4,22]⟩] (by kernel_rfl)) (fun a=>by obtain ⟨e,d⟩:=a;exact Sg.cut 2 C3 (Sg.seg (C:=C0) an jL 60 ((w7.drop 2).take 2) (Tb b c (e,d)) (C4 b c e) (Tc d) vV [⟨[(.cell 0 1,.fre 1 1 (.ns .u64 ([]:List Int)))],[0],[4,5]⟩,⟨[],[0,113],[4,6]⟩] (by kernel_rfl)) (fun a=>by obtain ⟨f,g,i,j,k⟩:=a;exact Sg.cut 1 C3 (Sg.seg (C:=C0) an jL 60 (((w7.drop 2).drop 2).take 1) (Tc d (f,g,i,j,k)) (C5 f g i j k) (Td d) vV [⟨[],[0,98],[4,7,8]⟩] (by kernel_rfl)) (fun a=>by obtain ⟨l,m,n,o,p,q⟩:=a;exact Sg.cut 3 C3 (Sg.seg (C:=C0) an jL 60 ((((w7.drop 2).drop 2).drop 1).take 3) (Td d (l,m,n,o,p,q)) (C6 l m n o p q) Te vV [⟨[(.cell 0 1,.fre 1 1 (.ns .u64 ([]:List Int)))],[0],[4,5]⟩,⟨[],[0],[4,5]⟩] (by kernel_rfl)) (fun a=>by obtain ⟨r,s,t,u,v,w⟩:=a;exact Sg.seg (C:=C0) an jL 60 ((((w7.drop 2).drop 2).drop 1).drop 3) (Te (r,s,t,u,v,w)) (Ps r s t u v w) (fun a:Empty=>a.elim) vV [⟨[],[0],[4,5]⟩] (by kernel_rfl))))))
    (fun x=>by cases x with | r0 y z A B D E=>exact ⟨.inr rfl,[.agg [.bool false z,.imm .free (.ns .u64 A) 1 1 B D,.int .i64 E],.int .i64 ((y:Nat):Int)],[],by kernel_rfl,trivial,by kernel_rfl⟩) h
def tE:Option eQ→Bool
  | some _=>true
  | none=>false
def sM:Option eQ→Nat
  | some (.r0 x _ _ _ _ _)=>x
  | _=>0
def sN:Option eQ→Bool
  | some (.r0 _ x _ _ _ _)=>x
  | _=>false
def sO:Option eQ→List Int
  | some (.r0 _ _ x _ _ _)=>x
  | _=>[]
def sP:Option eQ→Nat
  | some (.r0 _ _ _ x _ _)=>x
  | _=>0
def sQ:Option eQ→Nat
  | some (.r0 _ _ _ _ x _)=>x
  | _=>0
def sR:Option eQ→Int
  | some (.r0 _ _ _ _ _ x)=>x
  | _=>0
theorem aih{x:Option eQ}(h:tE x=true) :x=some (.r0 (sM x) (sN x) (sO x) (sP x) (sQ x) (sR x)):=by
  unfold tE at h
  split at h <;> first | rfl | (cases h;done) | (rename_i y;cases y;rfl)
def XU:aJ:=bW mE (.cons (.int .i64) (.cons (.int .i64) .nil)) fun t=>[⟨Mc (.r0 (sM (bZ t.1 t.2.1)) (sN (bZ t.1 t.2.1)) (sO (bZ t.1 t.2.1)) (sP (bZ t.1 t.2.1)) (sQ (bZ t.1 t.2.1)) (sR (bZ t.1 t.2.1))),[tE (bZ t.1 t.2.1)]⟩]
theorem acM:aU prog XU:=aO fun t=>(aP (fun h=>aig t.1 t.2.1 (aih h)) aW)
def XV:List aJ:=XU :: Ip
theorem sS:aY prog (bb XV):=au acM jL
inductive fR where
  | r0 (a:Nat) (b:List Bool) (c:List (List Int)) (d:List Int)
def sj:fR→AE×aL
  | .r0 a b c d=>(.ret,⟨ah 26 [(2,.sl 0 3 3 0 a a)],[(0,.cols a [.cb b,.cns .u64 c,.ci .i64 d])],1⟩)
theorem C7:kR sj:=by intro x;cases x <;> (intro h;cases h)
theorem aii(id:Nat) :qE id sj:=by intro x;cases x <;> (intro h;cases h)
def Md:fR→jc
  | .r0 a b c d=>⟨.imm .free (.cols a [.cb b,.cns .u64 c,.ci .i64 d]) 3 3 0 a,[]⟩
def w8:List Code:=bJ (bi mG)
def Tf(b:Lv)(a:List Nat) :(List Bool)×(List (List Int))×(List Int)→aL:=fun (c,d,e)=>⟨ah 26 [(3,.sl 0 3 3 0 (List.length a) (List.length a)),(9,.imm b (.fl a) 1 1 0 (List.length a)),(10,.int .i64 (((List.length a):Nat):Int)),(11,.int .i64 (0:Int))],[(0,.cols (List.length a) [.cb c,.cns .u64 d,.ci .i64 e])],1⟩
def Ju(a:List Nat) :T (((List Bool)×(List (List Int))×(List Int))⊕(fR)) :=
  .need (decide ((0:Int)≤(((List.length a):Nat):Int)))<|.need (decide ((((List.length a):Nat):Int)≤(((List.length a):Nat):Int)))<|.need (decide ((40:Int) * (((List.length a):Nat):Int)≤140737488355328))<|.need (d8 .i64 (((List.length a):Nat):Int))<|.leaf (.inl ((List.replicate (List.length a) false),(List.replicate (List.length a) []),(List.replicate (List.length a) (0:Int))))
def tF(b:Lv)(a:List Nat) :Nat×(List Bool)×(List (List Int))×(List Int)→aL:=fun (c,d,e,f)=>⟨ah 26 [(3,.sl 0 3 3 0 (List.length a) (List.length a)),(9,.imm b (.fl a) 1 1 0 (List.length a)),(10,.int .i64 (((List.length a):Nat):Int)),(11,.int .i64 ((c:Nat):Int))],[(0,.cols (List.length a) [.cb d,.cns .u64 e,.ci .i64 f])],1⟩
def w9(a:List Nat) :(List Bool)×(List (List Int))×(List Int)→aL:=fun (b,c,d)=>⟨ah 26 [(3,.sl 0 3 3 0 (List.length a) (List.length a))],[(0,.cols (List.length a) [.cb b,.cns .u64 c,.ci .i64 d])],1⟩
def G0:List Code:=bJ (bK ((((w8.drop 3).take 1)).headD .skip))
def Tg(b:Lv)(a:List Nat)(c:Nat) :(List Bool)×(List (List Int))×(List Int)→aL:=fun (d,e,f)=>⟨ah 26 [(3,.sl 0 3 3 0 (List.length a) (List.length a)),(9,.imm b (.fl a) 1 1 0 (List.length a)),(10,.int .i64 (((List.length a):Nat):Int)),(11,.int .i64 ((c:Nat):Int))],[(0,.cols (List.length a) [.cb d,.cns .u64 e,.ci .i64 f])],1⟩
def uL(b:List Nat)(a:Nat)(c:List Bool)(d:List (List Int))(e:List Int) :T (((List Bool)×(List (List Int))×(List Int))⊕(((List Bool)×(List (List Int))×(List Int))⊕(fR))) :=
  .ask (decide (((a:Nat):Int) < (((List.length b):Nat):Int)))
    (.need (iS ((a:Nat):Int) (List.length b))<|.need (jC a (List.length b))<|.need (Gx (iR (List.getD b a 0)))<|.need (iS ((a:Nat):Int) (List.length b))<|.need (jC a (List.length c))<|.need (jC a (List.length d))<|.need (decide ((zR (iR (List.getD b a 0)))+(zS (iR (List.getD b a 0)))≤List.length (zQ (iR (List.getD b a 0)))))<|.need (jC a (List.length e))<|.leaf (.inl ((List.set c a (Fm (iR (List.getD b a 0)))),(List.set d a (List.take (zS (iR (List.getD b a 0))) (List.drop (zR (iR (List.getD b a 0))) (zQ (iR (List.getD b a 0)))))),(List.set e a (Fo (iR (List.getD b a 0)))))))
    (.leaf (.inr (.inl (c,d,e))))
def Pt(a:Nat)(b:List Bool)(c:List (List Int))(d:List Int) :T ((Nat×(List Bool)×(List (List Int))×(List Int))⊕(((List Bool)×(List (List Int))×(List Int))⊕(fR))) :=
  .need (d8 .i64 (((a+1):Nat):Int))<|.leaf (.inl ((a+1),b,c,d))
def G1(b:List Nat) :Nat×(List Bool)×(List (List Int))×(List Int)→Option ((Nat×(List Bool)×(List (List Int))×(List Int))⊕(((List Bool)×(List (List Int))×(List Int))⊕(fR))):=fun (a,c,d,e) =>
  aC ((uL b a c d e).run) fun (f,g,h) =>
  (Pt a f g h).run
theorem afX(d:Lv)(b:List Nat)(c:Nat)(e:List Bool)(f:List (List Int))(g:List Int) :Sg prog [] G0 (tF d b (c,e,f,g)) (G1 b (c,e,f,g)) (tF d b) (aN 0 (w9 b) sj):=by
  unfold G1;exact Sg.cut 3 (aI C7) (Sg.seg (C:=C0) an sS 60 (G0.take 3) (tF d b (c,e,f,g)) (uL b c e f g) (Tg d b c) (aN 0 (w9 b) sj) [⟨[],[0],[3,9,10,11]⟩,⟨[],[0],[3]⟩] (by kernel_rfl)) (fun a=>by obtain ⟨h,i,j⟩:=a;exact Sg.seg (C:=C0) an sS 60 (G0.drop 3) (Tg d b c (h,i,j)) (Pt c h i j) (tF d b) (aN 0 (w9 b) sj) [⟨[],[0],[3,9,10,11]⟩] (by kernel_rfl))
def aij(a:List Nat) :(List Bool)×(List (List Int))×(List Int)→aL:=w9 a
def Pu(a:List Nat)(b:List Bool)(c:List (List Int))(d:List Int) :T ((Empty)⊕(fR)) :=
  .leaf (.inr (.r0 (List.length a) b c d))
def aB(a:List Nat) :Option fR:=ld (aC ((Ju a).run) fun (b,c,d) =>
  aC (dM (G1 a) (0,b,c,d)) fun (e,f,g) =>
  (Pu a e f g).run)
theorem aik(c:Lv)(b:List Nat){x:fR}(h:aB b=some x) :aw prog mG [] [.imm c (.fl b) 1 1 0 (List.length b)] (Md x) :=
  Sg.contract true Md (by kernel_rfl:prog.funcs[mG]? = some (FN mG)) (by kernel_rfl:(FN mG).body=some (bi mG)) (Sg.cut 3 C7 (Sg.seg (C:=C0) an sS 60 (w8.take 3) (aT (FN mG) [] [.imm c (.fl b) 1 1 0 (List.length b)]) (Ju b) (Tf c b) sj [⟨[],[48],[3,9,10,11]⟩] (by kernel_rfl)) (fun a=>by obtain ⟨d,e,f⟩:=a;exact Sg.cut 1 C7 (Sg.pre ⟨[],[0],[3,9,10,11]⟩ rfl (by kernel_rfl:NS.on ⟨[],[0],[3,9,10,11]⟩ (Tf c b (d,e,f))=(tF c b) (0,d,e,f)) (bU (I:=(tF c b)) (J:=(w9 b)) (id:=0) (by kernel_rfl:((w8.drop 3).take 1) = [.block 0 (.loop (bK ((((w8.drop 3).take 1)).headD .skip)))]) C7 (aii _) (fun s=>by obtain ⟨l,m,n,o⟩:=s;exact afX c b l m n o) (0,d,e,f))) (fun a=>by obtain ⟨g,i,j⟩:=a;exact Sg.seg (C:=C0) an sS 60 ((w8.drop 3).drop 1) (aij b (g,i,j)) (Pu b g i j) (fun a:Empty=>a.elim) sj [⟨[],[0],[2]⟩] (by kernel_rfl))))
    (fun x=>by cases x with | r0 k p q r=>exact ⟨.inr rfl,[.sl 0 3 3 0 k k],[],by kernel_rfl,trivial,by kernel_rfl⟩) h
def jU:Option fR→Bool
  | some _=>true
  | none=>false
def aX:Option fR→Nat
  | some (.r0 x _ _ _)=>x
  | _=>0
def dJ:Option fR→List Bool
  | some (.r0 _ x _ _)=>x
  | _=>[]
def dK:Option fR→List (List Int)
  | some (.r0 _ _ x _)=>x
  | _=>[]
def dL:Option fR→List Int
  | some (.r0 _ _ _ x)=>x
  | _=>[]
theorem ail{x:Option fR}(h:jU x=true) :x=some (.r0 (aX x) (dJ x) (dK x) (dL x)):=by
  unfold jU at h
  split at h <;> first | rfl | (cases h;done) | (rename_i y;cases y;rfl)
def XW:aJ:=bW mG (.cons .fl .nil) fun t=>[⟨Md (.r0 (aX (aB t.1.2)) (dJ (aB t.1.2)) (dK (aB t.1.2)) (dL (aB t.1.2))),[jU (aB t.1.2)]⟩]
theorem acN:aU prog XW:=aO fun t=>(aP (fun h=>aik t.1.1 t.1.2 (ail h)) aW)
def XX:List aJ:=XW :: XV
theorem oR:aY prog (bb XX):=au acN sS
end
end Go.Plb.Seat
namespace Go.Plb.Seat
open Go Go.Plb
set_option linter.unusedSimpArgs false
set_option linter.unusedVariables false
theorem Me{α:Type}{n:Nat}{l:List α}(h:l.length=n) :aQ 0 n l=true:=by rw [← h];exact ana l
theorem ap{α:Type}{b:Bool}{t:T α}{x:Option α}(k:t.run=x)(h:b=true:=by simp only [cV,EI,Ga,qG,rX,iT,rY,rZ,decide_eq_true_eq,decide_eq_false_iff_not,beq_iff_eq,beq_eq_false_iff_ne,bne_iff_ne,bne_eq_false_iff_eq,Bool.not_eq_true',Bool.not_eq_false',List.length_set,ne_eq,ge_iff_le,gt_iff_lt,mu,cI,Be];omega) :(T.need b t).run=x:=cT h k
theorem cK{α:Type}{b:Bool}{t f:T α}{x:Option α}(k:t.run=x)(h:b=true:=by simp only [cV,EI,Ga,qG,rX,iT,rY,rZ,decide_eq_true_eq,decide_eq_false_iff_not,beq_iff_eq,beq_eq_false_iff_ne,bne_iff_ne,bne_eq_false_iff_eq,Bool.not_eq_true',Bool.not_eq_false',List.length_set,ne_eq,ge_iff_le,gt_iff_lt,mu,cI,Be];omega) :(T.ask b t f).run=x:=rz h k
theorem dl{α:Type}{b:Bool}{t f:T α}{x:Option α}(k:f.run=x)(h:b=false:=by simp only [cV,EI,Ga,qG,rX,iT,rY,rZ,decide_eq_true_eq,decide_eq_false_iff_not,beq_iff_eq,beq_eq_false_iff_ne,bne_iff_ne,bne_eq_false_iff_eq,Bool.not_eq_true',Bool.not_eq_false',List.length_set,ne_eq,ge_iff_le,gt_iff_lt,mu,cI,Be];omega) :(T.ask b t f).run=x:=e9 h k
theorem dT{α:Type}{b:Bool}{t:T α}{x:Option α}(k:t.run=x)(h:b=true:=by exact Me ax) :(T.need b t).run=x:=cT h k
theorem bp{v n m:Nat}(h:m≤n) :aQ 0 m (aA v n)=true:=by rw [iT,ax];omega
theorem me{v n:Nat}(h:v < W ^ n)(hn:n≤1000000000) :aH (aA v n)=some (.r0 (aA v n) (nl v)):=by
  have hl:=jR h
  refine aZ (ae rfl (ae (a:=nl v) (cw (fun j=>n - j) (n - nl v) (by simp only [ax];rfl) (fun j hj=>?_) ?_) rfl))
  · show aC (vr _ _).run _=_
    have e:Int.toNat (((n - j:Nat):Int) - 1)=n - (j+1):=by omega
    have z:(aA v n).getD (n - (j+1)) 0=0:=by
      rw [cE h]
      exact HU (Nat.lt_of_lt_of_le (cU v) (Nat.pow_le_pow_right (by decide) (by omega)))
    refine ae (a:=true) ?_ ?_
    · unfold vr
      rw [e,z,ax]
      exact cK (ap (ap (ap rfl)))
    · unfold K5
      rw [e]
      exact bN (ap (ap (ap rfl)))
  · have e0:n - (n - nl v)=nl v:=by omega
    show aC (vr _ _).run _=_
    rw [e0]
    by_cases h0:v=0
    · have z:=mg.2 h0
      rw [z]
      exact ae (a:=false) (bj rfl) (bj rfl)
    · have hp:=DY h0
      have e:Int.toNat (((nl v:Nat):Int) - 1)=nl v - 1:=by omega
      refine ae (a:=false) ?_ (bj rfl)
      unfold vr
      rw [e,cE h,ax]
      refine cK (ap (ap (ap ?_)))
      show some (Sum.inl _)=_
      congr 2
      rw [beq_eq_false_iff_ne];exact akz h0
theorem G2{v n:Nat}(h:v < W ^ n)(hn:n≤1000000000) :bO (aA v n) 0 n n=some (.r0 0 (nl v) n (aA v n)):=by
  have hl:=jR h
  refine aZ (ae rfl (ae (a:=(0,nl v)) (cw (fun j=>(0,n - j)) (n - nl v) rfl (fun j hj=>?_) ?_) rfl))
  · show aC (oM _ _ _).run _=_
    have e:Int.toNat (((n - j:Nat):Int) - 1)=n - (j+1):=by omega
    have z:(aA v n).getD (n - (j+1)) 0=0:=by
      rw [cE h]
      exact HU (Nat.lt_of_lt_of_le (cU v) (Nat.pow_le_pow_right (by decide) (by omega)))
    refine ae (a:=true) ?_ ?_
    · unfold oM
      rw [e,qF,Nat.zero_add,z,ax]
      exact cK (ap (ap (ap rfl)))
    · unfold D3
      rw [e]
      exact bN (ap (ap (ap rfl)))
  · have e0:n - (n - nl v)=nl v:=by omega
    show aC (oM _ _ _).run _=_
    rw [e0]
    by_cases h0:v=0
    · have z:=mg.2 h0
      rw [z]
      exact ae (a:=false) (bj rfl) (bj rfl)
    · have hp:=DY h0
      have e:Int.toNat (((nl v:Nat):Int) - 1)=nl v - 1:=by omega
      refine ae (a:=false) ?_ (bj rfl)
      unfold oM
      rw [e,qF,Nat.zero_add,cE h,ax]
      refine cK (ap (ap (ap ?_)))
      show some (Sum.inl _)=_
      congr 2
      rw [beq_eq_false_iff_ne];exact akz h0
theorem ajM{v n:Nat}(h:v < W ^ n)(hn:n≤1000000000) :oj (aA v n)=some (if 4096 < nl v then .r0 0 2 [] else .r0 (nl v) 0 (aA v (nl v))):=by
  have hl:=jR h
  have hc:aa 0 (aA v n).length (aA v n)=aA v n:=aF _
  by_cases hb:4096 < nl v
  · rw [if_pos hb]
    refine aZ (ae (a:=(2,aA v n,nl v)) ?_ (bN rfl))
    unfold H0
    rw [hc,me h hn]
    simp only [cW,bg,aS]
    exact bN (ao (bf (ao (cK rfl))))
  · rw [if_neg hb]
    refine aZ (ae (a:=(0,aA v n,nl v)) ?_ ?_)
    · unfold H0
      rw [hc,me h hn]
      simp only [cW,bg,aS]
      exact bN (ao (bf (ao (dl (ao (bj rfl))))))
    · show (H3 _ _ _).run=_
      unfold H3
      rw [ck hl,ax]
      exact bj (cT (bp hl) (ap rfl))
theorem aqO{v:Nat}(h:v < W) :ch (v:Int)=some (.r0 0 (nl v) 1 (aA v 1)):=by
  have e:([(v:Int)]:List Int)=aA v 1:=by
    show [(v:Int)] = [] ++ [lm v 0]
    unfold lm;rw [Nat.pow_zero,Nat.div_one,Nat.mod_eq_of_lt h];rfl
  refine aZ (ae (a:=(0,nl v,1,aA v 1)) ?_ rfl)
  unfold Zj
  rw [e,G2 (by rw [Nat.pow_one];exact h) (by decide)]
  exact ao rfl
theorem ajN{v n:Nat}(h:v < W ^ n)(hn:n≤1000000000) :eU (aA v n) 0 n n=some (if 4096 < nl v then .r0 (aA v n) else .r1 0 (nl v) n (aA v n)):=by
  refine aZ (ae (a:=(0,nl v,n,aA v n)) ?_ ?_)
  · unfold NY
    rw [G2 h hn]
    exact ao rfl
  · by_cases hb:4096 < nl v
    · rw [if_pos hb];exact cK rfl
    · rw [if_neg hb];exact dl rfl
end Go.Plb.Seat
namespace Go.Plb.Seat
open Go Go.Plb
set_option linter.unusedSimpArgs false
set_option linter.unusedVariables false
theorem anW{a b:Nat}(ha:nl a≤1000000)(hb:nl b≤1000000) :yU (aA a (nl a)) (aA b (nl b))=some (.r0 (sB a b)):=by
  refine aZ ?_
  by_cases h1:nl a < nl b
  · have:sB a b = -1:=by unfold sB;rw [if_pos (VY h1)]
    rw [this]
    refine bH ?_
    unfold Ge
    rw [ax,ax]
    exact cK rfl
  by_cases h2:nl b < nl a
  · have hlt:=VY h2
    have:sB a b=1:=by unfold sB;rw [if_neg (by omega),if_pos hlt]
    rw [this]
    refine bH ?_
    unfold Ge
    rw [ax,ax]
    exact dl (cK rfl)
  have hn:nl b=nl a:=by omega
  have hA:=cU a
  have hB:=cU b
  rw [hn] at hB hb ⊢
  generalize nl a=n at *
  refine ae (a:=((n:Int) - 1)) ?_ ?_
  · unfold Ge
    rw [ax,ax]
    exact dl (dl (ap rfl))
  have step:∀ j,j < n→lm a (n - 1 - j)=lm b (n - 1 - j)→H5 (aA a n) (aA b n) ((n:Int) - 1 - j)=some (.inl ((n:Int) - 1 - (j+1:Nat))):=by
    intro j hj he
    show (Bt _ _ _).run=_
    unfold Bt
    have e:Int.toNat ((n:Int) - 1 - (j:Int))=n - 1 - j:=by omega
    rw [e,cE hA,cE hB,ax,ax,he]
    refine cK (ap (ap (ap (ap (e9 (by simp) (ap (ap (ap (ap (e9 (by simp) (ap ?_)))))))))))
    show some (Sum.inl _)=_
    congr 2;omega
  by_cases hall:∀ j,j < n→lm a (n - 1 - j)=lm b (n - 1 - j)
  · have hab:a=b:=by
      have:=NQ hA hB (d:=n) (Nat.le_refl _) fun k _ h2=>by
        have:=hall (n - 1 - k) (by omega)
        rwa [show n - 1 - (n - 1 - k)=k by omega] at this
      simpa using this
    subst hab
    have:sB a a=0:=by unfold sB;rw [if_neg (Nat.lt_irrefl _),if_neg (Nat.lt_irrefl _)]
    rw [this]
    exact ae (cw (fun j=>(n:Int) - 1 - (j:Nat)) n (by omega) (fun j hj=>step j hj (hall j hj)) (dl rfl)) rfl
  · obtain ⟨k,hk,hb',hf⟩:=FW hall
    have hup:a / W ^ (n - 1 - k+1)=b / W ^ (n - 1 - k+1):=by
      have:=NQ hA hB (d:=k) (by omega) fun i h1 h2=>by
        have:=hf (n - 1 - i) (by omega)
        rwa [show n - 1 - (n - 1 - i)=i by omega] at this
      rwa [show n - k=n - 1 - k+1 by omega] at this
    refine bH (cw (fun j=>(n:Int) - 1 - (j:Nat)) k (by omega) (fun j hj=>step j (by omega) (hf j hj)) ?_)
    show (Bt _ _ _).run=_
    unfold Bt
    have e:Int.toNat ((n:Int) - 1 - (k:Int))=n - 1 - k:=by omega
    rw [e,cE hA,cE hB,ax,ax]
    refine cK (ap (ap (ap (ap ?_))))
    by_cases hlt:lm a (n - 1 - k) < lm b (n - 1 - k)
    · have:=K2 hup hlt
      have:sB a b = -1:=by unfold sB;rw [if_pos this]
      rw [this]
      exact rz (decide_eq_true hlt) rfl
    · have hgt:lm b (n - 1 - k) < lm a (n - 1 - k):=by omega
      have hlt':=K2 hup.symm hgt
      have:sB a b=1:=by unfold sB;rw [if_neg (by omega),if_pos hlt']
      rw [this]
      exact e9 (decide_eq_false hlt) (ap (ap (ap (ap (rz (decide_eq_true hgt) rfl)))))
theorem as5{x y nx ny:Nat}(hx:x < W ^ nx)(hy:y < W ^ ny)(hn:ny≤nx)(hb:nx≤1000000){lx ly:List Int}(ex:∀ i,i < nx→lx.getD i 0=lm x i)(ey:∀ i,i < ny→ly.getD i 0=lm y i)(hlx:nx≤lx.length)(hly:ny≤ly.length) :
    dM (DB lx nx ly ny (nx+1)) (0,0,aA 0 (nx+1))=some (.inl (J7 x y nx / W ^ nx,aA (J7 x y nx % W ^ nx) (nx+1))):=by
  refine cw (fun j=>(j,J7 x y j / W ^ j,aA (J7 x y j % W ^ j) (nx+1))) nx (by simp [J7,Nat.mod_one]) (fun j hj=>?_) (bH (dl rfl))
  have hc:=aed (x:=x) (y:=y) (j:=j)
  have hS:=Nat.mod_lt (J7 x y j) (iL j)
  have hst:=aro x y j
  obtain ⟨d1,d2⟩:=UF (t:=x / W ^ j % W+y / W ^ j % W+J7 x y j / W ^ j) hS
  rw [← hst] at d1 d2
  have iP:=zB (n:=nx+1) hS (Nat.mod_lt (x / W ^ j % W+y / W ^ j % W+J7 x y j / W ^ j) (show W > 0 by decide)) (by omega)
  rw [← d2] at iP
  show aC (H7 _ _ _ _ _ _ _ _).run _=_
  refine ae (a:=(J7 x y (j+1) / W ^ (j+1),aA (J7 x y (j+1) % W ^ (j+1)) (nx+1))) ?_ (ap rfl)
  unfold H7
  rw [ex j hj,ax]
  by_cases hyj:j < ny
  · rw [ey j hyj]
    refine cK (cK (ap (ap (ap (ap (ap (ap (ap ?_))))))))
    rw [NP,NP,iP,d1];rfl
  · have y0:y / W ^ j % W=0:=by
      rw [Nat.div_eq_of_lt (Nat.lt_of_lt_of_le hy (Nat.pow_le_pow_right (by decide) (by omega)))];rfl
    rw [y0] at iP d1
    refine cK (dl (ap (ap (ap (ap (ap ?_))))))
    rw [NP,iP,d1];rfl
theorem as6{a b n m:Nat}(ha:a < W ^ n)(hb:b < W ^ m)(hn:n≤1000000)(hm:m≤1000000)(h1:nl a≤4096)(h2:nl b≤4096)(h3:nl (a+b)≤4096) :
    cr (aA a n) (aA b m)=some (.r0 0 (nl (a+b)) (max (nl a) (nl b)+1) 0 (aA (a+b) (max (nl a) (nl b)+1))):=by
  have la:=jR ha
  have lb:=jR hb
  refine aZ (ae (a:=(0,aA a n,nl a,aA b m,nl b)) ?_ ?_)
  · unfold NZ
    rw [aF,aF,me ha (by omega),me hb (by omega)]
    simp only [cW,bg,aS]
    exact bN (ao (bf (ao (dl (ao (bN (ao (bf (ao (dl (ao (bj rfl))))))))))))
  have A7:∀ {x y nx ny:Nat} {lx ly:List Int},x < W ^ nx→y < W ^ ny→ny≤nx→nx≤4096→(∀ i,i < nx→lx.getD i 0=lm x i)→(∀ i,i < ny→ly.getD i 0=lm y i)→nx≤lx.length→ny≤ly.length→nl (x+y)≤4096 →
      (aC ((H6 nx).run) fun (o10,l11)=>aC (dM (DB lx nx ly ny o10) (0,0,l11)) fun (a19,l20)=>aC ((H8 nx o10 a19 l20).run) fun (a21,a22,a23,a24,l25)=>(N2 a21 a22 a23 a24 l25).run)
        = some (.inr (.r0 0 (nl (x+y)) (nx+1) 0 (aA (x+y) (nx+1)))):=by
    intro x y nx ny lx ly hx hy hle hnx ex ey hlx hly h4
    refine ae (a:=(nx+1,aA 0 (nx+1))) ?_ (ae (as5 hx hy hle (by omega) ex ey hlx hly) (ae (a:=(0,nl (x+y),nx+1,0,aA (x+y) (nx+1))) ?_ rfl))
    · unfold H6
      rw [J6]
      exact ap (ap (ap (ap (ap rfl))))
    · have hyx:y < W ^ nx:=Nat.lt_of_lt_of_le hy (Nat.pow_le_pow_right (by decide) hle)
      have hs:J7 x y nx=x+y:=by unfold J7;rw [Nat.mod_eq_of_lt hx,Nat.mod_eq_of_lt hyx]
      have hc:=aed (x:=x) (y:=y) (j:=nx)
      have iP:=zB (u:=(x+y) % W ^ nx) (x:=(x+y) / W ^ nx) (j:=nx) (n:=nx+1) (Nat.mod_lt _ (iL _)) (by rw [hs] at hc;exact Nat.lt_of_le_of_lt hc (by decide)) (by omega)
      have hv:(x+y) % W ^ nx+(x+y) / W ^ nx * W ^ nx=x+y:=by rw [Nat.mul_comm];exact Nat.mod_add_div _ _
      rw [hv] at iP
      have hb2:x+y < W ^ (nx+1):=by
        rw [Nat.pow_succ]
        have h:=iL nx
        generalize W ^ nx=P at *
        have:(2:Nat) * P≤P * W:=by rw [Nat.mul_comm];exact Nat.mul_le_mul_left _ (by decide)
        omega
      unfold H8
      rw [hs,iP,ajN hb2 (by omega),if_neg (by omega),ax]
      exact ap (ap (auN (auO rfl) (ao5 (ao rfl))))
  by_cases hlt:nl a < nl b
  · refine ae (a:=(aA b m,nl b,aA a n,nl a)) (bj (cK rfl)) ?_
    have:=A7 (x:=b) (y:=a) (nx:=nl b) (ny:=nl a) (lx:=aA b m) (ly:=aA a n) (cU b) (cU a) (by omega) h2 (fun i hi=>cE hb i) (fun i hi=>cE ha i) (by rw [ax];exact lb) (by rw [ax];exact la) (by rw [Nat.add_comm];exact h3)
    rw [Nat.add_comm b a] at this
    rw [show max (nl a) (nl b)=nl b by omega]
    exact this
  · refine ae (a:=(aA a n,nl a,aA b m,nl b)) (bj (dl rfl)) ?_
    have:=A7 (x:=a) (y:=b) (nx:=nl a) (ny:=nl b) (lx:=aA a n) (ly:=aA b m) (cU a) (cU b) (by omega) h1 (fun i hi=>cE ha i) (fun i hi=>cE hb i) (by rw [ax];exact la) (by rw [ax];exact lb) h3
    rw [show max (nl a) (nl b)=nl a by omega]
    exact this
def anX(a b n j:Nat) :List Int:=kO (fun i=>if i < j then lm (acv a b j) i else lm a i) n
theorem arx{a b n j:Nat}(hj:j < n) :(anX a b n j).set j (((a / W ^ j % W+W - b / W ^ j % W - brw a b j) % W:Nat):Int)=anX a b n (j+1):=by
  unfold anX
  rw [yS hj]
  refine dB fun i hi=>?_
  have hD:=(aqG (a:=a) (b:=b) (j:=j)).1
  have h:=UE hD (Nat.mod_lt (a / W ^ j % W+W - b / W ^ j % W - brw a b j) (show W > 0 by decide)) i
  rw [← (anb a b j).2] at h
  by_cases e:i=j
  · subst e
    rw [if_pos rfl,if_pos (by omega),h,if_pos rfl]
  · rw [if_neg e] at h ⊢
    by_cases q:i < j
    · rw [if_pos q,if_pos (by omega),h]
    · rw [if_neg q,if_neg (by omega)]
theorem J1{a b n m:Nat}(ha:a < W ^ n)(hb:b < W ^ m)(hle:b≤a)(hmn:m≤n)(hn:n≤1000000) :qR (aA a n) (aA b m)=some (.r0 0 (nl (a - b)) n (aA (a - b) n)):=by
  have hbn:b < W ^ n:=Nat.lt_of_lt_of_le hb (Nat.pow_le_pow_right (by decide) hmn)
  refine aZ (ae (a:=(n,aA a n)) ?_ (ae (a:=aA (a - b) n) ?_ (ae (a:=(0,nl (a - b),n,aA (a - b) n)) ?_ rfl)))
  · unfold N3
    rw [aF,ax]
    exact cT (bp (Nat.le_refl _)) (ap rfl)
  · have e0:aA a n=anX a b n 0:=dB fun i _=>by rw [if_neg (by omega)]
    have en:anX a b n n=aA (a - b) n:=by
      refine dB fun i hi=>?_
      have hd:acv a b n=a - b:=by
        unfold acv brw
        rw [Nat.mod_eq_of_lt ha,Nat.mod_eq_of_lt hbn,if_neg (by omega),Nat.zero_mul,Nat.add_zero]
      rw [if_pos hi,hd]
    have b0:brw a b 0=0:=by unfold brw;rw [Nat.pow_zero,Nat.mod_one,Nat.mod_one];rfl
    show dM _ ((0:Int),0,aA a n)=_
    refine cw (fun j=>(((brw a b j:Nat):Int),j,anX a b n j)) n (by rw [b0,← e0];rfl) (fun j hj=>?_) (bH (e9 (by rw [ax];simp) (by rw [en];rfl)))
    have hbr:brw a b j≤1:=by unfold brw;split <;> omega
    have hl:(anX a b n j).length=n:=gH
    obtain ⟨s1,s2⟩:=anb a b j
    have hst:=arx (a:=a) (b:=b) hj
    show aC (H9 _ _ _ _ _ _).run _=_
    refine ae (a:=(((brw a b (j+1):Nat):Int),anX a b n (j+1))) ?_ (ap rfl)
    unfold H9
    rw [cE ha,ax,ax,hl,cI,NP]
    have blt:∀ p q:Nat,(bif Nat.blt p q then (1:Int) else 0)=(((if p < q then 1 else 0:Nat)):Int):=by
      intro p q
      by_cases h:p < q
      · rw [if_pos h,show Nat.blt p q=true by rw [Nat.blt_eq];exact h];rfl
      · rw [if_neg h]
        cases e:Nat.blt p q with
        | true=>rw [Nat.blt_eq] at e;exact absurd e h
        | false=>rfl
    by_cases hjm:j < m
    · rw [cE hb,NP,blt,← s1,hst]
      exact cK (cK (ap (ap (ap (ap (ap (ap (ap rfl))))))))
    · have y0:b / W ^ j % W=0:=by
        rw [Nat.div_eq_of_lt (Nat.lt_of_lt_of_le hb (Nat.pow_le_pow_right (by decide) (by omega)))];rfl
      rw [y0] at s1 hst
      refine cK (dl (ap (ap (ap (ap (ap ?_))))))
      rw [blt,← s1,hst];rfl
  · unfold N6
    rw [G2 (Nat.lt_of_le_of_lt (Nat.sub_le _ _) ha) (by omega)]
    exact ao rfl
theorem anY{a b n m:Nat}(ha:a < W ^ n)(hb:b < W ^ m)(hn:n≤1000000)(hm:m≤1000000)(h1:nl a≤4096)(h2:nl b≤4096)(hle:b≤a) :
    cg (aA a n) (aA b m)=some (.r0 (aA (a - b) (nl a)) 0 (nl (a - b)) 0):=by
  have la:=jR ha
  have lb:=jR hb
  have hnn:nl b≤nl a:=jR (Nat.lt_of_le_of_lt hle (cU a))
  refine aZ (ae (a:=(0,aA a n,nl a,aA b m,nl b)) ?_ (ae (a:=false) ?_ (ae (a:=(aA (a - b) (nl a),0,nl (a - b))) ?_ rfl)))
  · unfold UT
    rw [aF,aF,me ha (by omega),me hb (by omega)]
    simp only [cW,bg,aS]
    exact bN (ao (bf (ao (dl (ao (bN (ao (bf (ao (dl (ao (bj rfl))))))))))))
  · unfold UU
    rw [ck la,ck lb,anW (by omega) (by omega)]
    refine bj (cT (bp la) (cT (bp lb) (ao ?_)))
    show some (Sum.inl _)=_
    congr 2
    show decide (sB a b < 0)=false
    unfold sB
    rw [if_neg (by omega)]
    split <;> rfl
  · unfold UV
    rw [ck la,ck lb,J1 (cU a) (cU b) hle hnn (by omega)]
    exact bj (cT (bp la) (cT (bp lb) (ao rfl)))
theorem anZ{a b n m:Nat}(ha:a < W ^ n)(hb:b < W ^ m)(hn:n≤1000000)(hm:m≤1000000)(h1:nl a≤4096)(h2:nl b≤4096) :
    vt (aA a n) (aA b m)=some (.r0 (sB a b) 0):=by
  have la:=jR ha
  have lb:=jR hb
  refine aZ (ae (a:=(0,aA a n,nl a,aA b m,nl b)) ?_ (ae (a:=sB a b) ?_ rfl))
  · unfold UP
    rw [aF,aF,me ha (by omega),me hb (by omega)]
    simp only [cW,bg,aS]
    exact bN (ao (bf (ao (dl (ao (bN (ao (bf (ao (dl (ao (bj rfl))))))))))))
  · unfold UQ
    rw [ck la,ck lb,anW (by omega) (by omega)]
    exact bj (cT (bp la) (cT (bp lb) (ao rfl)))
end Go.Plb.Seat
namespace Go.Plb.Seat
open Go Go.Plb
set_option linter.unusedSimpArgs false
set_option linter.unusedVariables false
theorem apV{x y:Nat}(hx:x < W)(hy:y < W) :fH (x:Int) (y:Int)=some (.r0 ((x * y / W:Nat):Int) ((x * y % W:Nat):Int)):=by
  obtain ⟨h1,h2,h3,h4,h5,h6,h7,h8,h9⟩:=ao8 hx hy
  have s:∀ z:Nat,Int.fdiv (z:Int) (2 ^ (min (Int.toNat (32:Int)) (IntKind.u64.bits)))=((z / 4294967296:Nat):Int):=fun z=>HV z (k:=32) (by decide)
  refine aZ (ae (a:=(((x % 4294967296:Nat):Int),((x / 4294967296:Nat):Int),((y / 4294967296:Nat):Int),((x / 4294967296 * (y % 4294967296)+x % 4294967296 * (y % 4294967296) / 4294967296:Nat):Int))) ?_ ?_)
  · unfold yr
    rw [akB hx,akB hy,s,s,Dv,Dv,Nat.mod_eq_of_lt h2,Nat.mod_eq_of_lt h3,s,qN,Nat.mod_eq_of_lt h1]
    exact ao (ao (ao rfl))
  · show (r5 _ _ _ _ _ _).run=_
    unfold r5
    rw [Dv,Dv,Dv,akB h1,s,qN,qN,Nat.mod_eq_of_lt h4,Nat.mod_eq_of_lt h5,Nat.mod_eq_of_lt h6,Nat.mod_eq_of_lt h7,s,qN,h8,Nat.mod_eq_of_lt h9]
    exact ao (ao rfl)
theorem as7{O a m k n N:Nat}(hO:O < W ^ (k+n))(ha:a < W ^ n)(hm:m < W)(hN:k+n≤N)(hb:N≤1000000) :
    vv (aA O N) k (N - k) (aA a n) (m:Int)=some (.r0 (((O+a * m * W ^ k) / W ^ (k+n):Nat):Int) (aA ((O+a * m * W ^ k) % W ^ (k+n)) N)):=by
  refine aZ (ae rfl (ae (a:=((((O+a * m * W ^ k) / W ^ (k+n):Nat):Int),aA ((O+a * m * W ^ k) % W ^ (k+n)) N)) ?_ rfl))
  have c0:zE O a m k 0 / W ^ (k+0)=0:=by
    have e:zE O a m k 0=O % W ^ k:=by unfold zE;rw [Nat.pow_zero,Nat.mod_one,Nat.zero_mul,Nat.zero_mul,Nat.add_zero,Nat.add_zero]
    rw [e,Nat.add_zero,Nat.div_eq_of_lt (Nat.mod_lt _ (iL _))]
  refine cw (fun i=>(((zE O a m k i / W ^ (k+i):Nat):Int),i,aha O a m k N i)) n (by rw [c0,arp];rfl) (fun i hi=>?_) ?_
  · have hc:=ao9 (O:=O) (a:=a) (m:=m) (k:=k) (i:=i)
    have hcW:zE O a m k i / W ^ (k+i) < W:=Nat.lt_of_le_of_lt hc hm
    have hla:=Nat.mod_lt (a / W ^ i) (show W > 0 by decide)
    have hlO:=Nat.mod_lt (O / W ^ (k+i)) (show W > 0 by decide)
    have hl:=asL (O:=O) (a:=a) (m:=m) (k:=k) (n:=N) (i:=i)
    have hat:=atP (O:=O) (a:=a) (m:=m) (k:=k) (n:=N) (i:=i) (by omega)
    have hst:=arq (O:=O) (a:=a) (m:=m) (k:=k) (n:=N) (i:=i) (by omega)
    obtain ⟨w1,w2,w3,w4⟩:=asN hla hm hcW hlO
    have hS:=Nat.mod_lt (zE O a m k i) (iL (k+i))
    obtain ⟨d1,_⟩:=UF (t:=O / W ^ (k+i) % W+a / W ^ i % W * m+zE O a m k i / W ^ (k+i)) hS
    rw [← aje] at d1
    show aC (yX _ _ _ _ _ _ _).run _=_
    refine ae (a:=(((zE O a m k (i+1) / W ^ (k+i+1):Nat):Int),aha O a m k N (i+1))) ?_ (ap rfl)
    unfold yX
    rw [cE ha,zD,apV hla hm]
    simp only [oh,pK,jE,qF]
    rw [hat,zD,ax,hl]
    simp only [cI,Nat.add_zero]
    rw [qN,Nat.mod_eq_of_lt w2,qN,w1,w3,Nat.mod_eq_of_lt w4,hst,← d1]
    exact cK (ap (ap (ao (ao (ap (ap (ao (ap (ap rfl)))))))))
  · show aC (yX _ _ _ _ _ _ _).run _=_
    refine bH ?_
    unfold yX
    rw [anf hO ha,asM hO,anf hO ha,ax]
    exact e9 (by simp) rfl
theorem alS{a b n m:Nat}(ha:a < W ^ n)(hb:b < W ^ m) :a * b < W ^ (n+m):=by
  rw [Nat.pow_add]
  rcases Nat.eq_zero_or_pos b with h | h
  · rw [h,Nat.mul_zero];exact Nat.mul_pos (iL _) (iL _)
  · exact Nat.mul_lt_mul_of_lt_of_le ha (Nat.le_of_lt hb) (iL _) |> fun q=>q
theorem as8{a b n m:Nat}(ha:a < W ^ n)(hb:b < W ^ m)(hn:n≤1000000)(hm:m≤1000000)(h1:nl a+nl b≤4096) :
    nZ (aA a n) (aA b m)=some (.r0 0 (nl (a * b)) (nl a+nl b) 0 (aA (a * b) (nl a+nl b))):=by
  have la:=jR ha
  have lb:=jR hb
  have hA:=cU a
  have hB:=cU b
  have hab:=alS hA hB
  have hnab:=jR hab
  refine aZ (ae (a:=(0,aA a n,nl a,aA b m,nl b)) ?_ (ae (a:=false) (bj (ap (dl rfl))) (ae (a:=(nl a+nl b,aA 0 (nl a+nl b))) ?_ (ae (a:=aA (a * b) (nl a+nl b)) ?_ (ae (a:=(0,nl (a * b),nl a+nl b,0,aA (a * b) (nl a+nl b))) ?_ rfl)))))
  · unfold N9
    rw [aF,aF,me ha (by omega),me hb (by omega)]
    simp only [cW,bg,aS]
    exact bN (ao (bf (ao (dl (ao (bN (ao (bf (ao (dl (ao (bj rfl))))))))))))
  · unfold Oa
    rw [J6]
    exact bj (ap (ap (ap (ap (ap rfl)))))
  · refine cw (fun k=>(k,aA (a * (b % W ^ k)) (nl a+nl b))) (nl b) (by simp [Nat.mod_one]) (fun k hk=>?_) (bH (dl (by rw [Nat.mod_eq_of_lt hB];rfl)))
    have hO:a * (b % W ^ k) < W ^ (k+nl a):=by rw [Nat.add_comm];exact alS hA (Nat.mod_lt _ (iL k))
    have hlb:=Nat.mod_lt (b / W ^ k) (show W > 0 by decide)
    have hs:=as7 (N:=nl a+nl b) hO hA hlb (by omega) (by omega)
    have e:a * (b % W ^ k)+a * (b / W ^ k % W) * W ^ k=a * (b % W ^ (k+1)):=by rw [zC,Nat.mul_add,Nat.mul_assoc]
    rw [e] at hs
    have hO1:a * (b % W ^ (k+1)) < W ^ (k+nl a+1):=by
      rw [show k+nl a+1=nl a+(k+1) by omega];exact alS hA (Nat.mod_lt _ (iL (k+1)))
    have hcar:a * (b % W ^ (k+1)) / W ^ (k+nl a) < W:=by
      exact Nat.div_lt_of_lt_mul (by rw [← Nat.pow_succ];exact hO1)
    have iP:=zB (u:=a * (b % W ^ (k+1)) % W ^ (k+nl a)) (x:=a * (b % W ^ (k+1)) / W ^ (k+nl a)) (j:=k+nl a) (n:=nl a+nl b) (Nat.mod_lt _ (iL _)) hcar (by omega)
    have hv:a * (b % W ^ (k+1)) % W ^ (k+nl a)+a * (b % W ^ (k+1)) / W ^ (k+nl a) * W ^ (k+nl a)=a * (b % W ^ (k+1)):=by rw [Nat.mul_comm (a * (b % W ^ (k+1)) / W ^ (k+nl a))];exact Nat.mod_add_div _ _
    rw [hv] at iP
    show aC (Ia _ _ _ _ _ _ _).run _=_
    refine ae (a:=aA (a * (b % W ^ (k+1))) (nl a+nl b)) ?_ (ap rfl)
    unfold Ia
    rw [ck la,cE hb,zD,hs]
    simp only [Gm,E7,zL]
    rw [iP,ax,ax]
    exact cK (ap (ap (ap (ap (ap (cT (bp la) (ao (ap (ap rfl)))))))))
  · unfold Od
    rw [ajN hab (by omega),if_neg (by omega)]
    exact auN (auO rfl) (ao5 (ao rfl))
end Go.Plb.Seat
namespace Go.Plb.Seat
open Go Go.Plb
set_option linter.unusedSimpArgs false
set_option linter.unusedVariables false
theorem auZ:∀ z:Fin 64,List.getD bx (2 ^ z.val * 285870213051353865 % W / 2 ^ 58) 0=(z.val:Int)∧2 ^ z.val * 285870213051353865 % W / 2 ^ 58 < 64:=by decide +kernel
theorem at2:List.length bx=64:=by decide +kernel
theorem au0{x:Nat}(h0:x ≠ 0)(h:x < W) :fT .and .u64 (x:Int) (IntKind.u64.wrap ((0:Int) - (x:Int)))=((2 ^ tz x:Nat):Int):=by
  rw [asR h0 h,VZ,Nat.mod_eq_of_lt h,Nat.mod_eq_of_lt (Nat.sub_lt (by decide) (Nat.pos_of_ne_zero h0)),atR h0 h]
theorem at3(y:Nat) :Int.fdiv (IntKind.u64.wrap ((y:Int) * (285870213051353865:Int))) (2 ^ (min (Int.toNat (58:Int)) IntKind.u64.bits))=((y * 285870213051353865 % W / 2 ^ 58:Nat):Int):=by
  have e:(285870213051353865:Int)=((285870213051353865:Nat):Int):=by omega
  rw [e,Dv]
  exact HV _ (k:=58) (by decide)
theorem au1{z:Nat}(h:z < 64) :IntKind.i64.wrap ((z:Nat):Int)=((z:Nat):Int):=by
  have:∀ z:Fin 64,IntKind.i64.wrap ((z.val:Nat):Int)=((z.val:Nat):Int):=by decide
  exact this ⟨z,h⟩
theorem au2{x:Nat}(h0:x ≠ 0)(h:x < W) :∃ y:Nat,Int.fdiv (IntKind.u64.wrap ((fT .and .u64 (x:Int) (IntKind.u64.wrap ((0:Int) - (x:Int)))) * (285870213051353865:Int))) (2 ^ (min (Int.toNat (58:Int)) IntKind.u64.bits))=(y:Int)∧List.getD bx y 0=((tz x:Nat):Int)∧y < 64:=by
  have hz:=ajf (n:=64) h0 h
  obtain ⟨t1,t2⟩:=auZ ⟨tz x,hz⟩
  exact ⟨_,by rw [au0 h0 h,at3],t1,t2⟩
theorem Pv{x:Nat}(h0:x ≠ 0)(h:x < W) :dU (x:Int)=some (.r0 ((tz x:Nat):Int)):=by
  have hz:=ajf (n:=64) h0 h
  obtain ⟨y,e,t1,t2⟩:=au2 h0 h
  refine aZ ?_
  unfold mh
  have ix:l9 (l9 0 (adu (Int.toNat (y:Int)) 1)) 0=y:=by simp only [qF,KK,Nat.zero_add,Nat.mul_one,Nat.add_zero,cI]
  rw [e,ix,t1,at2,au1 hz]
  refine e9 (by rw [beq_eq_false_iff_ne];omega) (cT (by decide) (cT ?_ (cT ?_ rfl)))
  · rw [EI];omega
  · rw [qG];exact t2
theorem as9{v:Nat}(h:v ≠ 0) :∃ i,i < nl v∧v % W ^ i=0∧v / W ^ i % W ≠ 0∧tz v=64 * i+tz (v / W ^ i % W):=by
  obtain ⟨h1,h2⟩:=HW v h
  have e:2 ^ tz v=2 ^ (tz v % 64) * W ^ (tz v / 64):=NR _
  have h3:v % W ^ (tz v / 64)=0:=by
    have d:W ^ (tz v / 64) ∣ v:=Nat.dvd_trans ⟨2 ^ (tz v % 64),by rw [Nat.mul_comm];exact e⟩ (Nat.dvd_of_mod_eq_zero h1)
    exact Nat.mod_eq_zero_of_dvd d
  have hb:v=v / W ^ (tz v / 64) * W ^ (tz v / 64):=(Nat.div_mul_cancel (Nat.dvd_of_mod_eq_zero h3)).symm
  have h5:v / W ^ (tz v / 64) ≠ 0:=by intro q;rw [q,Nat.zero_mul] at hb;exact h hb
  have key:tz (v / W ^ (tz v / 64))=tz v % 64:=by
    have q:=apa h5 (64 * (tz v / 64))
    have w:2 ^ (64 * (tz v / 64))=W ^ (tz v / 64):=by rw [Nat.pow_mul]
    rw [w,← hb] at q
    omega
  obtain ⟨k1,k2⟩:=HW _ h5
  rw [key] at k1 k2
  have hr:tz v % 64 < 64:=Nat.mod_lt _ (by decide)
  have e64:W=2 ^ (tz v % 64) * 2 ^ (64 - tz v % 64):=by rw [← Nat.pow_add];show 2 ^ 64=_;congr 1;omega
  have l1:(v / W ^ (tz v / 64) % W) % 2 ^ (tz v % 64)=0:=by
    revert k1;generalize v / W ^ (tz v / 64)=y;intro k1;rw [e64,Nat.mod_mul_right_mod];exact k1
  have l2:(v / W ^ (tz v / 64) % W) / 2 ^ (tz v % 64) % 2=1:=by
    have a:2 ^ (64 - tz v % 64)=2 * 2 ^ (63 - tz v % 64):=by rw [show 64 - tz v % 64=(63 - tz v % 64)+1 by omega,Nat.pow_succ,Nat.mul_comm]
    revert k2;generalize v / W ^ (tz v / 64)=y;intro k2;rw [e64,Nat.mod_mul_right_div_self,a,Nat.mod_mul_right_mod];exact k2
  have l3:v / W ^ (tz v / 64) % W ≠ 0:=by intro q;rw [q,Nat.zero_div] at l2;exact absurd l2 (by decide)
  refine ⟨tz v / 64,?_,h3,l3,?_⟩
  · rcases Nat.lt_or_ge (tz v / 64) (nl v) with q | q
    · exact q
    · exfalso;apply l3
      rw [Nat.div_eq_of_lt (Nat.lt_of_lt_of_le (cU v) (Nat.pow_le_pow_right (by decide) q)),Nat.zero_mod]
  · rw [Q4 l1 l2];omega
theorem apW{v n:Nat}(hv:v < W ^ n)(h0:v ≠ 0)(hn:nl v≤4096)(hn2:n≤1000000) :uh (aA v n)=some (.r0 ((tz v:Nat):Int) 0):=by
  have hl:=jR hv
  have hp:=DY h0
  obtain ⟨i,h1,h2,h3,h4⟩:=as9 h0
  have hW:v / W ^ i % W < W:=Nat.mod_lt _ (by decide)
  have hz:=ajf (n:=64) h3 hW
  refine aZ (ae (a:=(0,aA v n,nl v)) ?_ (ae (a:=false) (bj (by show some _=_;congr 2;rw [beq_eq_false_iff_ne];omega)) (ae (a:=()) (bj rfl) (ae (a:=i) (cw (fun j=>j) i rfl (fun j hj=>?_) ?_) (ae (a:=((tz v:Nat):Int)) ?_ rfl)))))
  · unfold IR
    rw [aF,me hv (by omega)]
    simp only [cW,bg,aS]
    exact bN (ao (bf (ao (dl (ao (bj rfl))))))
  · have z:lm v j=0:=by
      unfold lm
      obtain ⟨d,rfl⟩:∃ d,i=j+1+d:=⟨i - j - 1,by omega⟩
      have dv:W ^ (j+1+d) ∣ v:=Nat.dvd_of_mod_eq_zero h2
      obtain ⟨c,hc⟩:=dv
      have:v=(W ^ d * c * W) * W ^ j:=by
        rw [hc,Nat.pow_add,Nat.pow_succ];simp only [Nat.mul_assoc,Nat.mul_comm,Nat.mul_left_comm]
      rw [this,Nat.mul_div_cancel _ (iL j),Nat.mul_mod_left];rfl
    show (td _ _ _).run=_
    unfold td
    rw [cE hv,z,ax]
    exact ap (ap (bN (ap rfl)))
  · show (td _ _ _).run=_
    unfold td
    rw [cE hv,zD,ax]
    refine ap (ap (e9 (by rw [beq_eq_false_iff_ne];omega) rfl))
  · unfold IT
    rw [cE hv,zD,ax,Pv h3 hW]
    simp only [fU,fC]
    have e:(((64 * i:Nat):Int)+((tz (v / W ^ i % W):Nat):Int))=((tz v:Nat):Int):=by rw [h4,Int.natCast_add]
    rw [e]
    exact ap (ap (ap (ao (cT (by rw [cV];omega) rfl))))
theorem ZB(k:Nat) :Int.tdiv (k:Int) (64:Int)=((k / 64:Nat):Int):=rfl
theorem ZC(k:Nat) :IntKind.u64.wrap (Int.tmod (k:Int) (64:Int))=((k % 64:Nat):Int):=by
  rw [show Int.tmod (k:Int) (64:Int)=((k % 64:Nat):Int) from rfl,kS (Nat.lt_trans (Nat.mod_lt k (by decide:64 > 0)) (by decide))]
theorem ata{v n k:Nat}(hv:v < W ^ n)(h0:n ≠ 0)(hn:n≤1000000)(hk:k≤1000000) :
    fD (aA v n) (k:Int)=some (.r0 0 (nl (v * 2 ^ k)) (n+k / 64+1) (aA (v * 2 ^ k) (n+k / 64+1))):=by
  have hr:k % 64 < 64:=Nat.mod_lt _ (by decide)
  have hq:k / 64≤1000000:=by omega
  have hsh:=asU (k:=k) hv
  refine aZ (ae (a:=(((k / 64:Nat):Int),((k % 64:Nat):Int),n+k / 64+1,aA 0 (n+k / 64+1))) ?_ (ae (a:=aA (v * 2 ^ k) (n+k / 64+1)) (cw (fun i=>(i,aA (v % W ^ i * 2 ^ (k % 64) * W ^ (k / 64)) (n+k / 64+1))) n (by simp [Nat.mod_one]) (fun i hi=>?_) ?_) (ae (a:=(0,nl (v * 2 ^ k),n+k / 64+1,aA (v * 2 ^ k) (n+k / 64+1))) ?_ rfl)))
  · unfold Oe
    rw [ax,ZB,ZC]
    have e:(((n:Nat):Int)+((k / 64:Nat):Int))+(1:Int)=((n+k / 64+1:Nat):Int):=by omega
    rw [e,cI,J6]
    exact dl (ap (ap (ao (ap (ap (ap (ap (ap (ap rfl)))))))))
  · show aC (DD _ _ _ _ _ _).run _=_
    refine ae (a:=aA (v % W ^ (i+1) * 2 ^ (k % 64) * W ^ (k / 64)) (n+k / 64+1)) ?_ (ap rfl)
    unfold DD
    have e1:Int.toNat (((i:Nat):Int)+((k / 64:Nat):Int))=i+k / 64:=rfl
    have e2:Int.toNat ((((i:Nat):Int)+((k / 64:Nat):Int))+(1:Int))=i+k / 64+1:=rfl
    rw [e1,e2,cE hv,zD,V0 _ (by omega),aef hr,show (1:Int)=((1:Nat):Int) from rfl,HV _ (by decide),HV _ (by omega),Nat.pow_one,asS hr (by omega),ax]
    simp only [List.length_set,ax]
    exact cK (ap (ap (ap (ap (ap (ap (ap (ap (ap (ap (ap (ap (ap (ap (ap (ap rfl))))))))))))))))
  · show aC (DD _ _ _ _ _ _).run _=_
    refine bH (e9 (by rw [ax];exact (by simp only [cV,EI,Ga,qG,rX,iT,rY,rZ,decide_eq_true_eq,decide_eq_false_iff_not,beq_iff_eq,beq_eq_false_iff_ne,bne_iff_ne,bne_eq_false_iff_eq,Bool.not_eq_true',Bool.not_eq_false',List.length_set,ne_eq,ge_iff_le,gt_iff_lt,mu,cI,Be];omega)) ?_)
    rw [Nat.mod_eq_of_lt hv,Nat.mul_assoc,← NR];rfl
  · unfold Oh
    rw [G2 hsh (by omega)]
    exact ao rfl
theorem apX{v n:Nat}(h:v < W ^ n)(hn:n≤100000000)(hb:nl v≤4096) :jS (aA v n)=some (.r0 (aA v n) (nl v) 0):=by
  refine aZ (ae (a:=(aA v n,nl v)) ?_ (dl rfl))
  unfold Gs
  rw [aF,me h (by omega)]
  exact bf (ao rfl)
theorem atb{v n k:Nat}(hv:v < W ^ n)(h0:v ≠ 0)(hn:n≤1000000)(hk:k < 262144)(hl:nl v≤4096)(hb:nl (v * 2 ^ k)≤4096) :
    iQ (aA v n) (k:Int)=some (.r0 (aA (v * 2 ^ k) (nl (v * 2 ^ k))) (nl (v * 2 ^ k)) 0):=by
  have hp:=DY h0
  have hln:=jR hv
  refine aZ (ae (a:=(0,aA v n,nl v)) ?_ (ae (a:=()) ?_ (ae (a:=(aA (v * 2 ^ k) (nl (v * 2 ^ k)),nl (v * 2 ^ k),0)) ?_ rfl)))
  · unfold UX
    rw [aF,me hv (by omega)]
    simp only [cW,bg,aS]
    exact bN (ao (bf (ao (dl (ao (bj rfl))))))
  · exact bj (dl (cK (dl rfl)))
  · have hsl:=asU (k:=k) (cU v)
    have hls:=jR hsl
    show (Ln _ _ _).run=_
    unfold Ln
    rw [ck hln,ata (cU v) (by omega) (by omega) (by omega)]
    simp only [Gr,pM,pN,pO]
    rw [ck hls,apX (cU _) (by omega) hb]
    exact cT (bp hln) (ao (cT (bp hls) (ao rfl)))
theorem atc{v n k:Nat}(hv:v < W ^ n)(hn:n≤1000000)(hk:k≤100000000) :
    ∃ b N,n5 (aA v n) (k:Int)=some (.r0 0 (nl (v / 2 ^ k)) N b (aA (v / 2 ^ k) N))∧nl (v / 2 ^ k)≤N∧N≤n:=by
  have hr:k % 64 < 64:=Nat.mod_lt _ (by decide)
  have hq:k / 64≤10000000:=by omega
  rcases Nat.lt_or_ge (k / 64) n with hlt | hge
  · have hs:=auS (k:=k) hv (Nat.le_of_lt hlt)
    have hls:=jR hs
    let f0:=((fT .and .u64 (List.getD (aA v n) (Int.toNat (Int.tdiv (k:Int) (64:Int))) 0) (IntKind.u64.wrap ((IntKind.u64.wrap ((1:Int) * 2 ^ (min (Int.toNat (IntKind.u64.wrap (Int.tmod (k:Int) (64:Int)))) (IntKind.u64.bits)))) - (1:Int)))) != (0:Int))
    let f:Nat→Bool:=fun j=>Nat.rec (motive:=fun _=>Bool) f0 (fun j b=>b || (lm v j != (0:Int))) j
    refine ⟨f (k / 64),n - k / 64,aZ (ae (a:=(((k / 64:Nat):Int),((k % 64:Nat):Int),f0,k / 64,k / 64)) ?_ (ae (a:=f (k / 64)) (cw (fun j=>(f j,j)) (k / 64) rfl (fun j hj=>?_) ?_) (ae (a:=(n - k / 64,n - k / 64,List.replicate (n - k / 64) (0:Int))) ?_ (ae (a:=aA (v / 2 ^ k) (n - k / 64)) (cw (fun i=>(i,kO (fun j=>if j < i then lm (v / 2 ^ k) j else 0) (n - k / 64))) (n - k / 64) (by simp only [xH];congr 1) (fun i hi=>?_) ?_) (ae (a:=(0,nl (v / 2 ^ k),n - k / 64,aA (v / 2 ^ k) (n - k / 64))) ?_ rfl))))),hls,Nat.sub_le _ _⟩
    · unfold Ib
      have e:=ZB k
      refine ao (cT (by rw [e];exact (by simp only [cV,EI,Ga,qG,rX,iT,rY,rZ,decide_eq_true_eq,decide_eq_false_iff_not,beq_iff_eq,beq_eq_false_iff_ne,bne_iff_ne,bne_eq_false_iff_eq,Bool.not_eq_true',Bool.not_eq_false',List.length_set,ne_eq,ge_iff_le,gt_iff_lt,mu,cI,Be];omega)) (ao (e9 (by rw [e,ax];exact (by simp only [cV,EI,Ga,qG,rX,iT,rY,rZ,decide_eq_true_eq,decide_eq_false_iff_not,beq_iff_eq,beq_eq_false_iff_ne,bne_iff_ne,bne_eq_false_iff_eq,Bool.not_eq_true',Bool.not_eq_false',List.length_set,ne_eq,ge_iff_le,gt_iff_lt,mu,cI,Be];omega)) (cT (by rw [e,ax];exact (by simp only [cV,EI,Ga,qG,rX,iT,rY,rZ,decide_eq_true_eq,decide_eq_false_iff_not,beq_iff_eq,beq_eq_false_iff_ne,bne_iff_ne,bne_eq_false_iff_eq,Bool.not_eq_true',Bool.not_eq_false',List.length_set,ne_eq,ge_iff_le,gt_iff_lt,mu,cI,Be];omega)) (cT (by rw [e,ax];exact (by simp only [cV,EI,Ga,qG,rX,iT,rY,rZ,decide_eq_true_eq,decide_eq_false_iff_not,beq_iff_eq,beq_eq_false_iff_ne,bne_iff_ne,bne_eq_false_iff_eq,Bool.not_eq_true',Bool.not_eq_false',List.length_set,ne_eq,ge_iff_le,gt_iff_lt,mu,cI,Be];omega)) (cT (by rw [ZC];exact (by simp only [cV,EI,Ga,qG,rX,iT,rY,rZ,decide_eq_true_eq,decide_eq_false_iff_not,beq_iff_eq,beq_eq_false_iff_ne,bne_iff_ne,bne_eq_false_iff_eq,Bool.not_eq_true',Bool.not_eq_false',List.length_set,ne_eq,ge_iff_le,gt_iff_lt,mu,cI,Be];omega)) (cT (by rw [e,ax];exact (by simp only [cV,EI,Ga,qG,rX,iT,rY,rZ,decide_eq_true_eq,decide_eq_false_iff_not,beq_iff_eq,beq_eq_false_iff_ne,bne_iff_ne,bne_eq_false_iff_eq,Bool.not_eq_true',Bool.not_eq_false',List.length_set,ne_eq,ge_iff_le,gt_iff_lt,mu,cI,Be];omega)) (cT (by rw [e];exact (by simp only [cV,EI,Ga,qG,rX,iT,rY,rZ,decide_eq_true_eq,decide_eq_false_iff_not,beq_iff_eq,beq_eq_false_iff_ne,bne_iff_ne,bne_eq_false_iff_eq,Bool.not_eq_true',Bool.not_eq_false',List.length_set,ne_eq,ge_iff_le,gt_iff_lt,mu,cI,Be];omega)) ?_))))))))
      show some (Sum.inl (_,IntKind.u64.wrap _,f0,_,_))=_
      rw [ZC];rfl
    · show aC (DE _ _ _ _ _).run _=_
      refine ae (a:=f (j+1)) ?_ (ap rfl)
      unfold DE
      rw [cE hv,ax]
      refine cK (ap (ap ?_))
      have hf:f (j+1)=(f j || (lm v j != (0:Int))):=rfl
      rw [hf]
      cases f j
      · exact bj rfl
      · exact bN rfl
    · show aC (DE _ _ _ _ _).run _=_
      exact bH (dl rfl)
    · show (Ic _ _).run=_
      unfold Ic
      have e:((n:Nat):Int) - ((k / 64:Nat):Int)=((n - k / 64:Nat):Int):=by omega
      rw [ax,e]
      exact ap (ap (ap (ap (ap rfl))))
    · show aC (DG _ _ _ _ _ _ _).run _=_
      refine ae (a:=kO (fun j=>if j < i+1 then lm (v / 2 ^ k) j else 0) (n - k / 64)) ?_ (ap rfl)
      have e1:Int.toNat (((i:Nat):Int)+((k / 64:Nat):Int))=i+k / 64:=rfl
      have e2:Int.toNat ((((i:Nat):Int)+((k / 64:Nat):Int))+(1:Int))=i+k / 64+1:=rfl
      obtain ⟨w1,w2⟩:=asQ (V:=v / W ^ (i+k / 64)) hr
      have hV:v / W ^ (i+k / 64) / W=v / W ^ (i+k / 64+1):=by rw [Nat.pow_succ,Nat.div_div_eq_div_mul]
      have A7:∀ x:Int,x=lm (v / 2 ^ k) i→(kO (fun j=>if j < i then lm (v / 2 ^ k) j else 0) (n - k / 64)).set i x=kO (fun j=>if j < i+1 then lm (v / 2 ^ k) j else 0) (n - k / 64):=by
        intro x hx
        rw [yS hi]
        refine dB fun j hj=>?_
        by_cases e:j=i
        · subst e;rw [if_pos rfl,if_pos (Nat.lt_succ_self _),hx]
        · rw [if_neg e]
          by_cases e':j < i
          · rw [if_pos e',if_pos (by omega)]
          · rw [if_neg e',if_neg (by omega)]
      unfold DG
      rw [e1,e2,cE hv,cE hv,zD,zD,HV _ (by omega),aef hr,show (1:Int)=((1:Nat):Int) from rfl,V0 _ (by decide),V0 _ (by omega),Nat.pow_one]
      simp only [List.length_set,ax,gH,List.set_set]
      by_cases hlast:i+k / 64+1 < n
      · refine cK (ap (ap (ap (ap (ap (ap (ap (ap (cK (ap (ap (ap (ap (ap (ap (ao (ap (ap (ap ?_)))))))))))))))))))
        show some (Sum.inl _)=_
        congr 2
        refine A7 _ ?_
        rw [List.getD_eq_getElem?_getD,List.getElem?_set_self (by rw [gH];exact hi)]
        show fT .or .u64 _ _=_
        have m1:v / W ^ (i+k / 64) % W / 2 ^ (k % 64) % W=v / W ^ (i+k / 64) % W / 2 ^ (k % 64):=Nat.mod_eq_of_lt (Nat.lt_of_le_of_lt (Nat.div_le_self _ _) (Nat.mod_lt _ (by decide)))
        show fT .or .u64 ((v / W ^ (i+k / 64) % W / 2 ^ (k % 64):Nat):Int) _=_
        rw [akA,m1,Nat.mod_mod,← hV,w2,← w1,asT]
      · refine cK (ap (ap (ap (ap (ap (ap (ap (ap (dl ?_)))))))))
        show some (Sum.inl _)=_
        congr 2
        refine A7 _ ?_
        have z:v / W ^ (i+k / 64) / W=0:=by
          rw [hV];exact Nat.div_eq_of_lt (Nat.lt_of_lt_of_le hv (Nat.pow_le_pow_right (by decide) (by omega)))
        rw [z] at w1
        rw [asT,w1]
        simp
    · show aC (DG _ _ _ _ _ _ _).run _=_
      refine bH (dl ?_)
      show some (Sum.inr (Sum.inl _))=_
      congr 3
      exact dB fun j hj=>if_pos hj
    · unfold Ot
      rw [G2 hs (by omega)]
      exact ao rfl
  · have hz:=anh hv hge
    refine ⟨decide (((n:Nat):Int) > (0:Int)),0,?_,by rw [hz,f7];exact Nat.le_refl 0,Nat.zero_le _⟩
    refine aZ (bH ?_)
    unfold Ib
    rw [ZB,ax,hz,f7]
    exact ao (ap (ao (cK rfl)))
theorem atd{v n k:Nat}(hv:v < W ^ n)(hn:n≤1000000)(hl:nl v≤4096)(hk:k≤100000000) :
    ∃ b N,oO (aA v n) (k:Int)=some (.r0 (aA (v / 2 ^ k) N) 0 (nl (v / 2 ^ k)) b 0)∧nl (v / 2 ^ k)≤N∧N≤4096:=by
  have hln:=jR hv
  obtain ⟨b,N,h1,h2,h3⟩:=atc (k:=k) (cU v) (by omega) hk
  refine ⟨b,N,aZ (ae (a:=(0,aA v n,nl v)) ?_ (ae (a:=false) ?_ (ae (a:=(aA (v / 2 ^ k) N,0,nl (v / 2 ^ k),b)) ?_ rfl))),h2,by omega⟩
  · unfold UZ
    rw [aF,me hv (by omega)]
    simp only [cW,bg,aS]
    exact bN (ao (bf (ao (dl (ao (bj rfl))))))
  · refine bj ?_
    show some (Sum.inl (decide (((k:Nat):Int) < 0)))=_
    rw [decide_eq_false (by omega)]
  · show (Lu _ _ _ _).run=_
    unfold Lu
    rw [ck hln,h1]
    exact bj (cT (bp hln) (ao rfl))
end Go.Plb.Seat
namespace Go.Plb.Seat
open Go Go.Plb
set_option linter.unusedVariables false
set_option maxRecDepth 100000
noncomputable section
inductive gq where
  | r0 (a:Nat) (b:Bool) (c:List Int) (d:Nat) (e:Nat) (f:Int)
def uM:gq→AE×aL
  | .r0 a b c d e f=>(.ret,⟨ah 51 [(4,.ptr 0 1 0 0),(5,.int .i64 ((a:Nat):Int))],[(0,.vs [.bool false b,.imm .free (.ns .u64 c) 1 1 d e,.int .i64 f])],1⟩)
theorem y7:kR uM:=by intro x;cases x <;> (intro h;cases h)
theorem an0(id:Nat) :qE id uM:=by intro x;cases x <;> (intro h;cases h)
def Vc:gq→jc
  | .r0 a b c d e f=>⟨.tup [.agg [.bool false b,.imm .free (.ns .u64 c) 1 1 d e,.int .i64 f],.int .i64 ((a:Nat):Int)],[]⟩
def FD:List Code:=bJ (bi rP)
def abW(c:Lv)(a:Nat)(d:List Bool)(e:List (List Int))(f:List Int)(g:Lv)(b:Nat)(h:List Bool)(i:List (List Int))(j:List Int)(k:Bool) :aL:=⟨ah 51 [(0,.imm c (.cols a [.cb d,.cns .u64 e,.ci .i64 f]) 3 3 0 a),(1,.imm g (.cols b [.cb h,.cns .u64 i,.ci .i64 j]) 3 3 0 b),(4,.ptr 0 1 0 0)],[(0,.vs [.bool false k,.nsl,.int .i64 (0:Int)])],1⟩
def XY:T ((Bool)⊕(gq)) :=
  .leaf (.inl false)
def Aj:List Code:=bJ (Q3 (((FD.drop 1)).headD .skip))
def abX(c:Lv)(a:Nat)(d:List Bool)(e:List (List Int))(f:List Int)(g:Lv)(b:Nat)(h:List Bool)(i:List (List Int))(j:List Int)(k:Bool)(l:Bool) :aL:=⟨ah 51 [(0,.imm c (.cols a [.cb d,.cns .u64 e,.ci .i64 f]) 3 3 0 a),(1,.imm g (.cols b [.cb h,.cns .u64 i,.ci .i64 j]) 3 3 0 b),(4,.ptr 0 1 0 0),(6,.ptr 1 1 0 0),(7,.int .i64 (0:Int)),(18,.int .i64 ((a:Nat):Int)),(19,.int .i64 (0:Int))],[(0,.vs [.bool false k,.nsl,.int .i64 (0:Int)]),(1,.vs [.bool false l,.nsl,.int .i64 (0:Int)])],2⟩
def XZ(a:Nat)(b:Nat) :T ((Bool)⊕(gq)) :=
  .ask (((a:Nat):Int) != ((b:Nat):Int))
    (.leaf (.inr (.r0 2 false ([]:List Int) 0 0 (0:Int))))
    (.leaf (.inl false))
def y8(c:Lv)(a:Nat)(d:List Bool)(e:List (List Int))(f:List Int)(g:Lv)(b:Nat)(h:List Bool)(i:List (List Int))(j:List Int)(k:Bool) :Nat×Nat×Bool×(List Int)×Nat×Nat×Int→aL:=fun (l,m,n,o,p,q,r)=>⟨ah 51 [(0,.imm c (.cols a [.cb d,.cns .u64 e,.ci .i64 f]) 3 3 0 a),(1,.imm g (.cols b [.cb h,.cns .u64 i,.ci .i64 j]) 3 3 0 b),(4,.ptr 0 1 0 0),(6,.ptr 1 1 0 0),(7,.int .i64 ((l:Nat):Int)),(18,.int .i64 ((a:Nat):Int)),(19,.int .i64 ((m:Nat):Int))],[(0,.vs [.bool false k,.nsl,.int .i64 (0:Int)]),(1,.vs [.bool false n,.imm .free (.ns .u64 o) 1 1 p q,.int .i64 r])],2⟩
def Ak(a:Bool) :Nat×Bool×(List Int)×Nat×Nat×Int→aL:=fun (b,c,d,e,f,g)=>⟨ah 51 [(4,.ptr 0 1 0 0),(6,.ptr 1 1 0 0),(7,.int .i64 ((b:Nat):Int))],[(0,.vs [.bool false a,.nsl,.int .i64 (0:Int)]),(1,.vs [.bool false c,.imm .free (.ns .u64 d) 1 1 e f,.int .i64 g])],2⟩
def Mf:List Code:=bJ (bK ((((Aj.drop 5).take 1)).headD .skip))
def X0(c:Lv)(a:Nat)(d:List Bool)(e:List (List Int))(f:List Int)(g:Lv)(b:Nat)(h:List Bool)(i:List (List Int))(j:List Int)(k:Bool)(l:Nat) :Nat×Bool×(List Int)×Nat×Nat×Int→aL:=fun (m,n,o,p,q,r)=>⟨ah 51 [(0,.imm c (.cols a [.cb d,.cns .u64 e,.ci .i64 f]) 3 3 0 a),(1,.imm g (.cols b [.cb h,.cns .u64 i,.ci .i64 j]) 3 3 0 b),(4,.ptr 0 1 0 0),(6,.ptr 1 1 0 0),(7,.int .i64 ((m:Nat):Int)),(18,.int .i64 ((a:Nat):Int)),(19,.int .i64 ((l:Nat):Int))],[(0,.vs [.bool false k,.nsl,.int .i64 (0:Int)]),(1,.vs [.bool false n,.imm .free (.ns .u64 o) 1 1 p q,.int .i64 r])],2⟩
def FE(m:Nat)(d:List Bool)(b:List (List Int))(e:List Int)(n:Nat)(f:List Bool)(c:List (List Int))(g:List Int)(o:Nat)(a:Nat)(k:Bool)(h:List Int)(i:Nat)(j:Nat)(l:Int) :T ((Nat×Bool×(List Int)×Nat×Nat×Int)⊕((Nat×Bool×(List Int)×Nat×Nat×Int)⊕(gq))) :=
  .ask (decide (((a:Nat):Int) < ((m:Nat):Int)))
    (.need (iS ((a:Nat):Int) m)<|.need (jC a (List.length d))<|.need (jC a (List.length b))<|.need (jC a (List.length e))<|.need (iS ((a:Nat):Int) n)<|.need (jC a (List.length f))<|.need (jC a (List.length c))<|.need (jC a (List.length g))<|.need (aQ 0 (List.length (List.getD b a [])) (List.getD b a []))<|.need (aQ 0 (List.length (List.getD c a [])) (List.getD c a []))<|.need (rG (ay (List.getD d a false) (aa 0 (List.length (List.getD b a [])) (List.getD b a [])) (List.getD e a 0) (List.getD f a false) (aa 0 (List.length (List.getD c a [])) (List.getD c a [])) (List.getD g a 0)))<|.ask ((((nt (ay (List.getD d a false) (aa 0 (List.length (List.getD b a [])) (List.getD b a [])) (List.getD e a 0) (List.getD f a false) (aa 0 (List.length (List.getD c a [])) (List.getD c a [])) (List.getD g a 0))):Nat):Int) != (0:Int))
      (.leaf (.inr (.inl ((nt (ay (List.getD d a false) (aa 0 (List.length (List.getD b a [])) (List.getD b a [])) (List.getD e a 0) (List.getD f a false) (aa 0 (List.length (List.getD c a [])) (List.getD c a [])) (List.getD g a 0))),k,h,i,j,l))))
      (.need (aQ i j h)<|.need (aQ (cM (ay (List.getD d a false) (aa 0 (List.length (List.getD b a [])) (List.getD b a [])) (List.getD e a 0) (List.getD f a false) (aa 0 (List.length (List.getD c a [])) (List.getD c a [])) (List.getD g a 0))) (cN (ay (List.getD d a false) (aa 0 (List.length (List.getD b a [])) (List.getD b a [])) (List.getD e a 0) (List.getD f a false) (aa 0 (List.length (List.getD c a [])) (List.getD c a [])) (List.getD g a 0))) (cL (ay (List.getD d a false) (aa 0 (List.length (List.getD b a [])) (List.getD b a [])) (List.getD e a 0) (List.getD f a false) (aa 0 (List.length (List.getD c a [])) (List.getD c a [])) (List.getD g a 0))))<|.need (DI (cA k (aa i j h) l (c7 (ay (List.getD d a false) (aa 0 (List.length (List.getD b a [])) (List.getD b a [])) (List.getD e a 0) (List.getD f a false) (aa 0 (List.length (List.getD c a [])) (List.getD c a [])) (List.getD g a 0))) (aa (cM (ay (List.getD d a false) (aa 0 (List.length (List.getD b a [])) (List.getD b a [])) (List.getD e a 0) (List.getD f a false) (aa 0 (List.length (List.getD c a [])) (List.getD c a [])) (List.getD g a 0))) (cN (ay (List.getD d a false) (aa 0 (List.length (List.getD b a [])) (List.getD b a [])) (List.getD e a 0) (List.getD f a false) (aa 0 (List.length (List.getD c a [])) (List.getD c a [])) (List.getD g a 0))) (cL (ay (List.getD d a false) (aa 0 (List.length (List.getD b a [])) (List.getD b a [])) (List.getD e a 0) (List.getD f a false) (aa 0 (List.length (List.getD c a [])) (List.getD c a [])) (List.getD g a 0)))) (c8 (ay (List.getD d a false) (aa 0 (List.length (List.getD b a [])) (List.getD b a [])) (List.getD e a 0) (List.getD f a false) (aa 0 (List.length (List.getD c a [])) (List.getD c a [])) (List.getD g a 0)))))<|.ask ((((tg (cA k (aa i j h) l (c7 (ay (List.getD d a false) (aa 0 (List.length (List.getD b a [])) (List.getD b a [])) (List.getD e a 0) (List.getD f a false) (aa 0 (List.length (List.getD c a [])) (List.getD c a [])) (List.getD g a 0))) (aa (cM (ay (List.getD d a false) (aa 0 (List.length (List.getD b a [])) (List.getD b a [])) (List.getD e a 0) (List.getD f a false) (aa 0 (List.length (List.getD c a [])) (List.getD c a [])) (List.getD g a 0))) (cN (ay (List.getD d a false) (aa 0 (List.length (List.getD b a [])) (List.getD b a [])) (List.getD e a 0) (List.getD f a false) (aa 0 (List.length (List.getD c a [])) (List.getD c a [])) (List.getD g a 0))) (cL (ay (List.getD d a false) (aa 0 (List.length (List.getD b a [])) (List.getD b a [])) (List.getD e a 0) (List.getD f a false) (aa 0 (List.length (List.getD c a [])) (List.getD c a [])) (List.getD g a 0)))) (c8 (ay (List.getD d a false) (aa 0 (List.length (List.getD b a [])) (List.getD b a [])) (List.getD e a 0) (List.getD f a false) (aa 0 (List.length (List.getD c a [])) (List.getD c a [])) (List.getD g a 0))))):Nat):Int) != (0:Int))
        (.leaf (.inr (.inl ((tg (cA k (aa i j h) l (c7 (ay (List.getD d a false) (aa 0 (List.length (List.getD b a [])) (List.getD b a [])) (List.getD e a 0) (List.getD f a false) (aa 0 (List.length (List.getD c a [])) (List.getD c a [])) (List.getD g a 0))) (aa (cM (ay (List.getD d a false) (aa 0 (List.length (List.getD b a [])) (List.getD b a [])) (List.getD e a 0) (List.getD f a false) (aa 0 (List.length (List.getD c a [])) (List.getD c a [])) (List.getD g a 0))) (cN (ay (List.getD d a false) (aa 0 (List.length (List.getD b a [])) (List.getD b a [])) (List.getD e a 0) (List.getD f a false) (aa 0 (List.length (List.getD c a [])) (List.getD c a [])) (List.getD g a 0))) (cL (ay (List.getD d a false) (aa 0 (List.length (List.getD b a [])) (List.getD b a [])) (List.getD e a 0) (List.getD f a false) (aa 0 (List.length (List.getD c a [])) (List.getD c a [])) (List.getD g a 0)))) (c8 (ay (List.getD d a false) (aa 0 (List.length (List.getD b a [])) (List.getD b a [])) (List.getD e a 0) (List.getD f a false) (aa 0 (List.length (List.getD c a [])) (List.getD c a [])) (List.getD g a 0))))),(wB (cA k (aa i j h) l (c7 (ay (List.getD d a false) (aa 0 (List.length (List.getD b a [])) (List.getD b a [])) (List.getD e a 0) (List.getD f a false) (aa 0 (List.length (List.getD c a [])) (List.getD c a [])) (List.getD g a 0))) (aa (cM (ay (List.getD d a false) (aa 0 (List.length (List.getD b a [])) (List.getD b a [])) (List.getD e a 0) (List.getD f a false) (aa 0 (List.length (List.getD c a [])) (List.getD c a [])) (List.getD g a 0))) (cN (ay (List.getD d a false) (aa 0 (List.length (List.getD b a [])) (List.getD b a [])) (List.getD e a 0) (List.getD f a false) (aa 0 (List.length (List.getD c a [])) (List.getD c a [])) (List.getD g a 0))) (cL (ay (List.getD d a false) (aa 0 (List.length (List.getD b a [])) (List.getD b a [])) (List.getD e a 0) (List.getD f a false) (aa 0 (List.length (List.getD c a [])) (List.getD c a [])) (List.getD g a 0)))) (c8 (ay (List.getD d a false) (aa 0 (List.length (List.getD b a [])) (List.getD b a [])) (List.getD e a 0) (List.getD f a false) (aa 0 (List.length (List.getD c a [])) (List.getD c a [])) (List.getD g a 0))))),(wC (cA k (aa i j h) l (c7 (ay (List.getD d a false) (aa 0 (List.length (List.getD b a [])) (List.getD b a [])) (List.getD e a 0) (List.getD f a false) (aa 0 (List.length (List.getD c a [])) (List.getD c a [])) (List.getD g a 0))) (aa (cM (ay (List.getD d a false) (aa 0 (List.length (List.getD b a [])) (List.getD b a [])) (List.getD e a 0) (List.getD f a false) (aa 0 (List.length (List.getD c a [])) (List.getD c a [])) (List.getD g a 0))) (cN (ay (List.getD d a false) (aa 0 (List.length (List.getD b a [])) (List.getD b a [])) (List.getD e a 0) (List.getD f a false) (aa 0 (List.length (List.getD c a [])) (List.getD c a [])) (List.getD g a 0))) (cL (ay (List.getD d a false) (aa 0 (List.length (List.getD b a [])) (List.getD b a [])) (List.getD e a 0) (List.getD f a false) (aa 0 (List.length (List.getD c a [])) (List.getD c a [])) (List.getD g a 0)))) (c8 (ay (List.getD d a false) (aa 0 (List.length (List.getD b a [])) (List.getD b a [])) (List.getD e a 0) (List.getD f a false) (aa 0 (List.length (List.getD c a [])) (List.getD c a [])) (List.getD g a 0))))),(wD (cA k (aa i j h) l (c7 (ay (List.getD d a false) (aa 0 (List.length (List.getD b a [])) (List.getD b a [])) (List.getD e a 0) (List.getD f a false) (aa 0 (List.length (List.getD c a [])) (List.getD c a [])) (List.getD g a 0))) (aa (cM (ay (List.getD d a false) (aa 0 (List.length (List.getD b a [])) (List.getD b a [])) (List.getD e a 0) (List.getD f a false) (aa 0 (List.length (List.getD c a [])) (List.getD c a [])) (List.getD g a 0))) (cN (ay (List.getD d a false) (aa 0 (List.length (List.getD b a [])) (List.getD b a [])) (List.getD e a 0) (List.getD f a false) (aa 0 (List.length (List.getD c a [])) (List.getD c a [])) (List.getD g a 0))) (cL (ay (List.getD d a false) (aa 0 (List.length (List.getD b a [])) (List.getD b a [])) (List.getD e a 0) (List.getD f a false) (aa 0 (List.length (List.getD c a [])) (List.getD c a [])) (List.getD g a 0)))) (c8 (ay (List.getD d a false) (aa 0 (List.length (List.getD b a [])) (List.getD b a [])) (List.getD e a 0) (List.getD f a false) (aa 0 (List.length (List.getD c a [])) (List.getD c a [])) (List.getD g a 0))))),(wE (cA k (aa i j h) l (c7 (ay (List.getD d a false) (aa 0 (List.length (List.getD b a [])) (List.getD b a [])) (List.getD e a 0) (List.getD f a false) (aa 0 (List.length (List.getD c a [])) (List.getD c a [])) (List.getD g a 0))) (aa (cM (ay (List.getD d a false) (aa 0 (List.length (List.getD b a [])) (List.getD b a [])) (List.getD e a 0) (List.getD f a false) (aa 0 (List.length (List.getD c a [])) (List.getD c a [])) (List.getD g a 0))) (cN (ay (List.getD d a false) (aa 0 (List.length (List.getD b a [])) (List.getD b a [])) (List.getD e a 0) (List.getD f a false) (aa 0 (List.length (List.getD c a [])) (List.getD c a [])) (List.getD g a 0))) (cL (ay (List.getD d a false) (aa 0 (List.length (List.getD b a [])) (List.getD b a [])) (List.getD e a 0) (List.getD f a false) (aa 0 (List.length (List.getD c a [])) (List.getD c a [])) (List.getD g a 0)))) (c8 (ay (List.getD d a false) (aa 0 (List.length (List.getD b a [])) (List.getD b a [])) (List.getD e a 0) (List.getD f a false) (aa 0 (List.length (List.getD c a [])) (List.getD c a [])) (List.getD g a 0))))),(wF (cA k (aa i j h) l (c7 (ay (List.getD d a false) (aa 0 (List.length (List.getD b a [])) (List.getD b a [])) (List.getD e a 0) (List.getD f a false) (aa 0 (List.length (List.getD c a [])) (List.getD c a [])) (List.getD g a 0))) (aa (cM (ay (List.getD d a false) (aa 0 (List.length (List.getD b a [])) (List.getD b a [])) (List.getD e a 0) (List.getD f a false) (aa 0 (List.length (List.getD c a [])) (List.getD c a [])) (List.getD g a 0))) (cN (ay (List.getD d a false) (aa 0 (List.length (List.getD b a [])) (List.getD b a [])) (List.getD e a 0) (List.getD f a false) (aa 0 (List.length (List.getD c a [])) (List.getD c a [])) (List.getD g a 0))) (cL (ay (List.getD d a false) (aa 0 (List.length (List.getD b a [])) (List.getD b a [])) (List.getD e a 0) (List.getD f a false) (aa 0 (List.length (List.getD c a [])) (List.getD c a [])) (List.getD g a 0)))) (c8 (ay (List.getD d a false) (aa 0 (List.length (List.getD b a [])) (List.getD b a [])) (List.getD e a 0) (List.getD f a false) (aa 0 (List.length (List.getD c a [])) (List.getD c a [])) (List.getD g a 0)))))))))
        (.leaf (.inl ((tg (cA k (aa i j h) l (c7 (ay (List.getD d a false) (aa 0 (List.length (List.getD b a [])) (List.getD b a [])) (List.getD e a 0) (List.getD f a false) (aa 0 (List.length (List.getD c a [])) (List.getD c a [])) (List.getD g a 0))) (aa (cM (ay (List.getD d a false) (aa 0 (List.length (List.getD b a [])) (List.getD b a [])) (List.getD e a 0) (List.getD f a false) (aa 0 (List.length (List.getD c a [])) (List.getD c a [])) (List.getD g a 0))) (cN (ay (List.getD d a false) (aa 0 (List.length (List.getD b a [])) (List.getD b a [])) (List.getD e a 0) (List.getD f a false) (aa 0 (List.length (List.getD c a [])) (List.getD c a [])) (List.getD g a 0))) (cL (ay (List.getD d a false) (aa 0 (List.length (List.getD b a [])) (List.getD b a [])) (List.getD e a 0) (List.getD f a false) (aa 0 (List.length (List.getD c a [])) (List.getD c a [])) (List.getD g a 0)))) (c8 (ay (List.getD d a false) (aa 0 (List.length (List.getD b a [])) (List.getD b a [])) (List.getD e a 0) (List.getD f a false) (aa 0 (List.length (List.getD c a [])) (List.getD c a [])) (List.getD g a 0))))),(wB (cA k (aa i j h) l (c7 (ay (List.getD d a false) (aa 0 (List.length (List.getD b a [])) (List.getD b a [])) (List.getD e a 0) (List.getD f a false) (aa 0 (List.length (List.getD c a [])) (List.getD c a [])) (List.getD g a 0))) (aa (cM (ay (List.getD d a false) (aa 0 (List.length (List.getD b a [])) (List.getD b a [])) (List.getD e a 0) (List.getD f a false) (aa 0 (List.length (List.getD c a [])) (List.getD c a [])) (List.getD g a 0))) (cN (ay (List.getD d a false) (aa 0 (List.length (List.getD b a [])) (List.getD b a [])) (List.getD e a 0) (List.getD f a false) (aa 0 (List.length (List.getD c a [])) (List.getD c a [])) (List.getD g a 0))) (cL (ay (List.getD d a false) (aa 0 (List.length (List.getD b a [])) (List.getD b a [])) (List.getD e a 0) (List.getD f a false) (aa 0 (List.length (List.getD c a [])) (List.getD c a [])) (List.getD g a 0)))) (c8 (ay (List.getD d a false) (aa 0 (List.length (List.getD b a [])) (List.getD b a [])) (List.getD e a 0) (List.getD f a false) (aa 0 (List.length (List.getD c a [])) (List.getD c a [])) (List.getD g a 0))))),(wC (cA k (aa i j h) l (c7 (ay (List.getD d a false) (aa 0 (List.length (List.getD b a [])) (List.getD b a [])) (List.getD e a 0) (List.getD f a false) (aa 0 (List.length (List.getD c a [])) (List.getD c a [])) (List.getD g a 0))) (aa (cM (ay (List.getD d a false) (aa 0 (List.length (List.getD b a [])) (List.getD b a [])) (List.getD e a 0) (List.getD f a false) (aa 0 (List.length (List.getD c a [])) (List.getD c a [])) (List.getD g a 0))) (cN (ay (List.getD d a false) (aa 0 (List.length (List.getD b a [])) (List.getD b a [])) (List.getD e a 0) (List.getD f a false) (aa 0 (List.length (List.getD c a [])) (List.getD c a [])) (List.getD g a 0))) (cL (ay (List.getD d a false) (aa 0 (List.length (List.getD b a [])) (List.getD b a [])) (List.getD e a 0) (List.getD f a false) (aa 0 (List.length (List.getD c a [])) (List.getD c a [])) (List.getD g a 0)))) (c8 (ay (List.getD d a false) (aa 0 (List.length (List.getD b a [])) (List.getD b a [])) (List.getD e a 0) (List.getD f a false) (aa 0 (List.length (List.getD c a [])) (List.getD c a [])) (List.getD g a 0))))),(wD (cA k (aa i j h) l (c7 (ay (List.getD d a false) (aa 0 (List.length (List.getD b a [])) (List.getD b a [])) (List.getD e a 0) (List.getD f a false) (aa 0 (List.length (List.getD c a [])) (List.getD c a [])) (List.getD g a 0))) (aa (cM (ay (List.getD d a false) (aa 0 (List.length (List.getD b a [])) (List.getD b a [])) (List.getD e a 0) (List.getD f a false) (aa 0 (List.length (List.getD c a [])) (List.getD c a [])) (List.getD g a 0))) (cN (ay (List.getD d a false) (aa 0 (List.length (List.getD b a [])) (List.getD b a [])) (List.getD e a 0) (List.getD f a false) (aa 0 (List.length (List.getD c a [])) (List.getD c a [])) (List.getD g a 0))) (cL (ay (List.getD d a false) (aa 0 (List.length (List.getD b a [])) (List.getD b a [])) (List.getD e a 0) (List.getD f a false) (aa 0 (List.length (List.getD c a [])) (List.getD c a [])) (List.getD g a 0)))) (c8 (ay (List.getD d a false) (aa 0 (List.length (List.getD b a [])) (List.getD b a [])) (List.getD e a 0) (List.getD f a false) (aa 0 (List.length (List.getD c a [])) (List.getD c a [])) (List.getD g a 0))))),(wE (cA k (aa i j h) l (c7 (ay (List.getD d a false) (aa 0 (List.length (List.getD b a [])) (List.getD b a [])) (List.getD e a 0) (List.getD f a false) (aa 0 (List.length (List.getD c a [])) (List.getD c a [])) (List.getD g a 0))) (aa (cM (ay (List.getD d a false) (aa 0 (List.length (List.getD b a [])) (List.getD b a [])) (List.getD e a 0) (List.getD f a false) (aa 0 (List.length (List.getD c a [])) (List.getD c a [])) (List.getD g a 0))) (cN (ay (List.getD d a false) (aa 0 (List.length (List.getD b a [])) (List.getD b a [])) (List.getD e a 0) (List.getD f a false) (aa 0 (List.length (List.getD c a [])) (List.getD c a [])) (List.getD g a 0))) (cL (ay (List.getD d a false) (aa 0 (List.length (List.getD b a [])) (List.getD b a [])) (List.getD e a 0) (List.getD f a false) (aa 0 (List.length (List.getD c a [])) (List.getD c a [])) (List.getD g a 0)))) (c8 (ay (List.getD d a false) (aa 0 (List.length (List.getD b a [])) (List.getD b a [])) (List.getD e a 0) (List.getD f a false) (aa 0 (List.length (List.getD c a [])) (List.getD c a [])) (List.getD g a 0))))),(wF (cA k (aa i j h) l (c7 (ay (List.getD d a false) (aa 0 (List.length (List.getD b a [])) (List.getD b a [])) (List.getD e a 0) (List.getD f a false) (aa 0 (List.length (List.getD c a [])) (List.getD c a [])) (List.getD g a 0))) (aa (cM (ay (List.getD d a false) (aa 0 (List.length (List.getD b a [])) (List.getD b a [])) (List.getD e a 0) (List.getD f a false) (aa 0 (List.length (List.getD c a [])) (List.getD c a [])) (List.getD g a 0))) (cN (ay (List.getD d a false) (aa 0 (List.length (List.getD b a [])) (List.getD b a [])) (List.getD e a 0) (List.getD f a false) (aa 0 (List.length (List.getD c a [])) (List.getD c a [])) (List.getD g a 0))) (cL (ay (List.getD d a false) (aa 0 (List.length (List.getD b a [])) (List.getD b a [])) (List.getD e a 0) (List.getD f a false) (aa 0 (List.length (List.getD c a [])) (List.getD c a [])) (List.getD g a 0)))) (c8 (ay (List.getD d a false) (aa 0 (List.length (List.getD b a [])) (List.getD b a [])) (List.getD e a 0) (List.getD f a false) (aa 0 (List.length (List.getD c a [])) (List.getD c a [])) (List.getD g a 0))))))))))
    (.leaf (.inr (.inl (o,k,h,i,j,l))))
def X1(a:Nat)(b:Nat)(c:Bool)(d:List Int)(e:Nat)(f:Nat)(g:Int) :T ((Nat×Nat×Bool×(List Int)×Nat×Nat×Int)⊕((Nat×Bool×(List Int)×Nat×Nat×Int)⊕(gq))) :=
  .need (d8 .i64 (((a+1):Nat):Int))<|.leaf (.inl (b,(a+1),c,d,e,f,g))
def FF(b:Nat)(c:List Bool)(d:List (List Int))(e:List Int)(f:Nat)(g:List Bool)(h:List (List Int))(i:List Int) :Nat×Nat×Bool×(List Int)×Nat×Nat×Int→Option ((Nat×Nat×Bool×(List Int)×Nat×Nat×Int)⊕((Nat×Bool×(List Int)×Nat×Nat×Int)⊕(gq))):=fun (j,a,k,l,m,n,o) =>
  aC ((FE b c d e f g h i j a k l m n o).run) fun (p,q,r,s,t,u) =>
  (X1 a p q r s t u).run
theorem alT(l:Lv)(c:Nat)(d:List Bool)(e:List (List Int))(f:List Int)(m:Lv)(g:Nat)(h:List Bool)(i:List (List Int))(j:List Int)(b:Bool)(n:Nat)(k:Nat)(o:Bool)(p:List Int)(q:Nat)(r:Nat)(s:Int) :Sg prog [] Mf (y8 l c d e f m g h i j b (n,k,o,p,q,r,s)) (FF c d e f g h i j (n,k,o,p,q,r,s)) (y8 l c d e f m g h i j b) (aN 0 (Ak b) uM):=by
  unfold FF;exact Sg.cut 3 (aI y7) (Sg.seg (C:=C0) an oR 60 (Mf.take 3) (y8 l c d e f m g h i j b (n,k,o,p,q,r,s)) (FE c d e f g h i j n k o p q r s) (X0 l c d e f m g h i j b k) (aN 0 (Ak b) uM) [⟨[],[0,1],[4,6,7]⟩,⟨[],[0,1],[4,6,7]⟩,⟨[],[0,1],[0,1,4,6,7,18,19]⟩,⟨[],[0,1],[4,6,7]⟩] (by kernel_rfl)) (fun a=>by obtain ⟨t,u,v,w,x,y⟩:=a;exact Sg.seg (C:=C0) an oR 60 (Mf.drop 3) (X0 l c d e f m g h i j b k (t,u,v,w,x,y)) (X1 k t u v w x y) (y8 l c d e f m g h i j b) (aN 0 (Ak b) uM) [⟨[],[0,1],[0,1,4,6,7,18,19]⟩] (by kernel_rfl))
def alU(a:Bool) :Nat×Bool×(List Int)×Nat×Nat×Int→aL:=Ak a
def X2(a:Nat)(b:Bool)(c:List Int)(d:Nat)(e:Nat)(f:Int) :T ((Empty)⊕(gq)) :=
  .ask (((a:Nat):Int) != (0:Int))
    (.leaf (.inr (.r0 a false ([]:List Int) 0 0 (0:Int))))
    (.leaf (.inr (.r0 0 b c d e f)))
def cJ(a:Nat)(c:List Bool)(d:List (List Int))(e:List Int)(b:Nat)(f:List Bool)(g:List (List Int))(h:List Int) :Option gq:=ld (aC ((XY).run) fun p =>
  aC ((XZ a b).run) fun i =>
  aC (dM (FF a c d e b f g h) (0,0,i,([]:List Int),0,0,(0:Int))) fun (j,k,l,m,n,o) =>
  (X2 j k l m n o).run)
theorem an1(k:Lv)(b:Nat)(d:List Bool)(e:List (List Int))(f:List Int)(l:Lv)(c:Nat)(g:List Bool)(i:List (List Int))(j:List Int){x:gq}(h:cJ b d e f c g i j=some x) :aw prog rP [] [.imm k (.cols b [.cb d,.cns .u64 e,.ci .i64 f]) 3 3 0 b,.imm l (.cols c [.cb g,.cns .u64 i,.ci .i64 j]) 3 3 0 c] (Vc x) :=
  Sg.contract true Vc (by kernel_rfl:prog.funcs[rP]? = some (FN rP)) (by kernel_rfl:(FN rP).body=some (bi rP)) (Sg.cut 1 y7 (Sg.seg (C:=C0) an oR 60 (FD.take 1) (aT (FN rP) [] [.imm k (.cols b [.cb d,.cns .u64 e,.ci .i64 f]) 3 3 0 b,.imm l (.cols c [.cb g,.cns .u64 i,.ci .i64 j]) 3 3 0 c]) (XY) (abW k b d e f l c g i j) uM [⟨[],[0],[0,1,4]⟩] (by kernel_rfl)) (fun m=>by exact UC (by kernel_rfl:(FD.drop 1) = [.scope (Q3 (((FD.drop 1)).headD .skip))]) y7 (Sg.cut 5 y7 (Sg.seg (C:=C0) an oR 60 (Aj.take 5) (abW k b d e f l c g i j m) (XZ b c) (abX k b d e f l c g i j m) uM [⟨[(.cell 0 1,.fre 1 1 (.ns .u64 ([]:List Int)))],[0],[4,5]⟩,⟨[],[0,81],[0,1,4,6,7,18,19]⟩] (by kernel_rfl)) (fun n=>by exact Sg.cut 1 y7 (Sg.pre ⟨[(.cell 1 1,.fre 1 1 (.ns .u64 ([]:List Int)))],[0,1],[0,1,4,6,7,18,19]⟩ rfl (by kernel_rfl:NS.on ⟨[(.cell 1 1,.fre 1 1 (.ns .u64 ([]:List Int)))],[0,1],[0,1,4,6,7,18,19]⟩ (abX k b d e f l c g i j m n)=(y8 k b d e f l c g i j m) (0,0,n,([]:List Int),0,0,(0:Int))) (bU (I:=(y8 k b d e f l c g i j m)) (J:=(Ak m)) (id:=0) (by kernel_rfl:((Aj.drop 5).take 1) = [.block 0 (.loop (bK ((((Aj.drop 5).take 1)).headD .skip)))]) y7 (an0 _) (fun s=>by obtain ⟨v,w,y,z,A,B,D⟩:=s;exact alT k b d e f l c g i j m v w y z A B D) (0,0,n,([]:List Int),0,0,(0:Int)))) (fun a=>by obtain ⟨o,p,q,r,t,u⟩:=a;exact Sg.seg (C:=C0) an oR 60 ((Aj.drop 5).drop 1) (alU m (o,p,q,r,t,u)) (X2 o p q r t u) (fun a:Empty=>a.elim) uM [⟨[(.cell 0 1,.fre 1 1 (.ns .u64 ([]:List Int)))],[0],[4,5]⟩,⟨[],[0],[4,5]⟩] (by kernel_rfl))))))
    (fun x=>by cases x with | r0 E F G H K L=>exact ⟨.inr rfl,[.agg [.bool false F,.imm .free (.ns .u64 G) 1 1 H K,.int .i64 L],.int .i64 ((E:Nat):Int)],[],by kernel_rfl,trivial,by kernel_rfl⟩) h
def y9:Option gq→Bool
  | some _=>true
  | none=>false
def xa:Option gq→Nat
  | some (.r0 x _ _ _ _ _)=>x
  | _=>0
def xc:Option gq→Bool
  | some (.r0 _ x _ _ _ _)=>x
  | _=>false
def xd:Option gq→List Int
  | some (.r0 _ _ x _ _ _)=>x
  | _=>[]
def xe:Option gq→Nat
  | some (.r0 _ _ _ x _ _)=>x
  | _=>0
def xf:Option gq→Nat
  | some (.r0 _ _ _ _ x _)=>x
  | _=>0
def xg:Option gq→Int
  | some (.r0 _ _ _ _ _ x)=>x
  | _=>0
theorem an2{x:Option gq}(h:y9 x=true) :x=some (.r0 (xa x) (xc x) (xd x) (xe x) (xf x) (xg x)):=by
  unfold y9 at h
  split at h <;> first | rfl | (cases h;done) | (rename_i y;cases y;rfl)
def afY:aJ:=bW rP (.cons (.cols [.cb,.cns .u64,.ci .i64]) (.cons (.cols [.cb,.cns .u64,.ci .i64]) .nil)) fun t=>[⟨Vc (.r0 (xa (cJ t.1.2.1 t.1.2.2.1 t.1.2.2.2.1 t.1.2.2.2.2.1 t.2.1.2.1 t.2.1.2.2.1 t.2.1.2.2.2.1 t.2.1.2.2.2.2.1)) (xc (cJ t.1.2.1 t.1.2.2.1 t.1.2.2.2.1 t.1.2.2.2.2.1 t.2.1.2.1 t.2.1.2.2.1 t.2.1.2.2.2.1 t.2.1.2.2.2.2.1)) (xd (cJ t.1.2.1 t.1.2.2.1 t.1.2.2.2.1 t.1.2.2.2.2.1 t.2.1.2.1 t.2.1.2.2.1 t.2.1.2.2.2.1 t.2.1.2.2.2.2.1)) (xe (cJ t.1.2.1 t.1.2.2.1 t.1.2.2.2.1 t.1.2.2.2.2.1 t.2.1.2.1 t.2.1.2.2.1 t.2.1.2.2.2.1 t.2.1.2.2.2.2.1)) (xf (cJ t.1.2.1 t.1.2.2.1 t.1.2.2.2.1 t.1.2.2.2.2.1 t.2.1.2.1 t.2.1.2.2.1 t.2.1.2.2.2.1 t.2.1.2.2.2.2.1)) (xg (cJ t.1.2.1 t.1.2.2.1 t.1.2.2.2.1 t.1.2.2.2.2.1 t.2.1.2.1 t.2.1.2.2.1 t.2.1.2.2.2.1 t.2.1.2.2.2.2.1))),[y9 (cJ t.1.2.1 t.1.2.2.1 t.1.2.2.2.1 t.1.2.2.2.2.1 t.2.1.2.1 t.2.1.2.2.1 t.2.1.2.2.2.1 t.2.1.2.2.2.2.1)]⟩]
theorem aim:aU prog afY:=aO fun t=>(aP (fun h=>an1 t.1.1 t.1.2.1 t.1.2.2.1 t.1.2.2.2.1 t.1.2.2.2.2.1 t.2.1.1 t.2.1.2.1 t.2.1.2.2.1 t.2.1.2.2.2.1 t.2.1.2.2.2.2.1 (an2 h)) aW)
def afZ:List aJ:=afY :: XX
theorem Jv:aY prog (bb afZ):=au aim oR
inductive eR where
  | r0 (a:Nat) (b:Bool) (c:List Int) (d:Nat) (e:Nat) (f:Int)
def G3:eR→AE×aL
  | .r0 a b c d e f=>(.ret,⟨ah 9 [(2,.ptr 0 1 0 0),(3,.int .i64 ((a:Nat):Int))],[(0,.vs [.bool false b,.imm .free (.ns .u64 c) 1 1 d e,.int .i64 f])],1⟩)
theorem acO:kR G3:=by intro x;cases x <;> (intro h;cases h)
def G4:eR→jc
  | .r0 a b c d e f=>⟨.tup [.agg [.bool false b,.imm .free (.ns .u64 c) 1 1 d e,.int .i64 f],.int .i64 ((a:Nat):Int)],[]⟩
def MV:List Code:=bJ (bi jZ)
def MW:Nat×Bool×(List Int)×Nat×Nat×Int→aL:=fun (a,b,c,d,e,f)=>⟨ah 9 [(2,.ptr 0 1 0 0),(3,.int .i64 ((a:Nat):Int))],[(0,.vs [.bool false b,.imm .free (.ns .u64 c) 1 1 d e,.int .i64 f])],1⟩
def Ek(a:Nat)(b:List Bool)(c:List (List Int))(d:List Int) :T ((Nat×Bool×(List Int)×Nat×Nat×Int)⊕(eR)) :=
  .need (Nat.ble (0+a) a)<|.need (Nat.ble (0+a) a)<|.need (y9 (cJ a (aa 0 a b) (aa 0 a c) (aa 0 a d) a (aa 0 a b) (aa 0 a c) (aa 0 a d)))<|.leaf (.inl ((xa (cJ a (aa 0 a b) (aa 0 a c) (aa 0 a d) a (aa 0 a b) (aa 0 a c) (aa 0 a d))),(xc (cJ a (aa 0 a b) (aa 0 a c) (aa 0 a d) a (aa 0 a b) (aa 0 a c) (aa 0 a d))),(xd (cJ a (aa 0 a b) (aa 0 a c) (aa 0 a d) a (aa 0 a b) (aa 0 a c) (aa 0 a d))),(xe (cJ a (aa 0 a b) (aa 0 a c) (aa 0 a d) a (aa 0 a b) (aa 0 a c) (aa 0 a d))),(xf (cJ a (aa 0 a b) (aa 0 a c) (aa 0 a d) a (aa 0 a b) (aa 0 a c) (aa 0 a d))),(xg (cJ a (aa 0 a b) (aa 0 a c) (aa 0 a d) a (aa 0 a b) (aa 0 a c) (aa 0 a d)))))
def MX(a:Nat)(b:Bool)(c:List Int)(d:Nat)(e:Nat)(f:Int) :T ((Empty)⊕(eR)) :=
  .leaf (.inr (.r0 a b c d e f))
def bG(a:Nat)(b:List Bool)(c:List (List Int))(d:List Int) :Option eR:=ld (aC ((Ek a b c d).run) fun (e,f,g,h,i,j) =>
  (MX e f g h i j).run)
theorem acP(f:Lv)(b:Nat)(c:List Bool)(d:List (List Int))(e:List Int){x:eR}(h:bG b c d e=some x) :aw prog jZ [] [.imm f (.cols b [.cb c,.cns .u64 d,.ci .i64 e]) 3 3 0 b] (G4 x) :=
  Sg.contract true G4 (by kernel_rfl:prog.funcs[jZ]? = some (FN jZ)) (by kernel_rfl:(FN jZ).body=some (bi jZ)) (Sg.cut 2 acO (Sg.seg (C:=C0) an Jv 60 (MV.take 2) (aT (FN jZ) [] [.imm f (.cols b [.cb c,.cns .u64 d,.ci .i64 e]) 3 3 0 b]) (Ek b c d e) MW G3 [⟨[],[0],[2,3]⟩] (by kernel_rfl)) (fun a=>by obtain ⟨g,i,j,k,l,m⟩:=a;exact Sg.seg (C:=C0) an Jv 60 (MV.drop 2) (MW (g,i,j,k,l,m)) (MX g i j k l m) (fun a:Empty=>a.elim) G3 [⟨[],[0],[2,3]⟩] (by kernel_rfl)))
    (fun x=>by cases x with | r0 n o p q r s=>exact ⟨.inr rfl,[.agg [.bool false o,.imm .free (.ns .u64 p) 1 1 q r,.int .i64 s],.int .i64 ((n:Nat):Int)],[],by kernel_rfl,trivial,by kernel_rfl⟩) h
def oS:Option eR→Bool
  | some _=>true
  | none=>false
def p6:Option eR→Nat
  | some (.r0 x _ _ _ _ _)=>x
  | _=>0
def p7:Option eR→Bool
  | some (.r0 _ x _ _ _ _)=>x
  | _=>false
def p8:Option eR→List Int
  | some (.r0 _ _ x _ _ _)=>x
  | _=>[]
def p9:Option eR→Nat
  | some (.r0 _ _ _ x _ _)=>x
  | _=>0
def qa:Option eR→Nat
  | some (.r0 _ _ _ _ x _)=>x
  | _=>0
def qb:Option eR→Int
  | some (.r0 _ _ _ _ _ x)=>x
  | _=>0
theorem acQ{x:Option eR}(h:oS x=true) :x=some (.r0 (p6 x) (p7 x) (p8 x) (p9 x) (qa x) (qb x)):=by
  unfold oS at h
  split at h <;> first | rfl | (cases h;done) | (rename_i y;cases y;rfl)
def Pw:aJ:=bW jZ (.cons (.cols [.cb,.cns .u64,.ci .i64]) .nil) fun t=>[⟨G4 (.r0 (p6 (bG t.1.2.1 t.1.2.2.1 t.1.2.2.2.1 t.1.2.2.2.2.1)) (p7 (bG t.1.2.1 t.1.2.2.1 t.1.2.2.2.1 t.1.2.2.2.2.1)) (p8 (bG t.1.2.1 t.1.2.2.1 t.1.2.2.2.1 t.1.2.2.2.2.1)) (p9 (bG t.1.2.1 t.1.2.2.1 t.1.2.2.2.1 t.1.2.2.2.2.1)) (qa (bG t.1.2.1 t.1.2.2.1 t.1.2.2.2.1 t.1.2.2.2.2.1)) (qb (bG t.1.2.1 t.1.2.2.1 t.1.2.2.2.1 t.1.2.2.2.2.1))),[oS (bG t.1.2.1 t.1.2.2.1 t.1.2.2.2.1 t.1.2.2.2.2.1)]⟩]
theorem X3:aU prog Pw:=aO fun t=>(aP (fun h=>acP t.1.1 t.1.2.1 t.1.2.2.1 t.1.2.2.2.1 t.1.2.2.2.2.1 (acQ h)) aW)
def Px:List aJ:=Pw :: afZ
theorem tS:aY prog (bb Px):=au X3 Jv
inductive g5 where
  | r0 (a:Nat) (b:Bool) (c:List Int) (d:Nat) (e:Nat) (f:Int)
def Iq:g5→AE×aL
  | .r0 a b c d e f=>(.ret,⟨ah 23 [(2,.ptr 0 1 0 0),(3,.int .i64 ((a:Nat):Int))],[(0,.vs [.bool false b,.imm .free (.ns .u64 c) 1 1 d e,.int .i64 f])],1⟩)
theorem X4:kR Iq:=by intro x;cases x <;> (intro h;cases h)
def Py:g5→jc
  | .r0 a b c d e f=>⟨.tup [.agg [.bool false b,.imm .free (.ns .u64 c) 1 1 d e,.int .i64 f],.int .i64 ((a:Nat):Int)],[]⟩
def Mg:List Code:=bJ (bi pa)
def X5(b:Int)(c:Int)(d:Lv)(a:List Nat)(e:Bool) :aL:=⟨ah 23 [(1,.ptr 0 1 0 0),(2,.ptr 1 1 0 0)],[(0,.vs [.int .i64 b,.int .i64 c,.imm d (.fl a) 1 1 0 (List.length a)]),(1,.vs [.bool false e,.nsl,.int .i64 (0:Int)])],2⟩
def Al(b : Int)(c : Int)(a : List Nat) : T ((Bool) ⊕ (g5)) :=
  .ask (decide ((0:Int) < (1:Int)))
    (.need (iS (0:Int) 1)<|.need (aQ 0 (List.length a) a)<|.need (i5 (dG b c (aa 0 (List.length a) a)))<|.ask (ib (dG b c (aa 0 (List.length a) a)))
      (.ask (!(!(decide ((0:Int) ≥ (0:Int)))))
        (.leaf (.inr (.r0 2 false ([]:List Int) 0 0 (0:Int))))
        (.fail))
      (.need (d8 .i64 (1:Int))<|.ask (decide ((1:Int) < (1:Int)))
        (.fail)
        (.ask (!(!(decide ((-1:Int) ≥ (0:Int)))))
          (.fail)
          (.ask (decide ((0:Int) < (1:Int)))
            (.need (iS (0:Int) 1)<|.need (aQ 0 (List.length a) a)<|.need (ba (az (aa 0 (List.length a) a)))<|.ask (decide ((bc (az (aa 0 (List.length a) a))) ≥ (0:Int)))
              (.leaf (.inr (.r0 10 false ([]:List Int) 0 0 (0:Int))))
              (.need (d8 .i64 (1:Int))<|.ask (decide ((1:Int) < (1:Int)))
                (.fail)
                (.leaf (.inl false))))
            (.fail)))))
    (.fail)
def X6:Nat×Bool×(List Int)×Nat×Nat×Int→aL:=fun (a,b,c,d,e,f)=>⟨ah 23 [(2,.ptr 0 1 0 0),(3,.int .i64 ((a:Nat):Int))],[(0,.vs [.bool false b,.imm .free (.ns .u64 c) 1 1 d e,.int .i64 f])],1⟩
def Mh(a:List Nat) :T ((Nat×Bool×(List Int)×Nat×Nat×Int)⊕(g5)) :=
  .need (aQ 0 (List.length a) a)<|.need (jU (aB (aa 0 (List.length a) a)))<|.need (Nat.ble (0+(aX (aB (aa 0 (List.length a) a)))) (aX (aB (aa 0 (List.length a) a))))<|.need (oS (bG (aX (aB (aa 0 (List.length a) a))) (aa 0 (aX (aB (aa 0 (List.length a) a))) (dJ (aB (aa 0 (List.length a) a)))) (aa 0 (aX (aB (aa 0 (List.length a) a))) (dK (aB (aa 0 (List.length a) a)))) (aa 0 (aX (aB (aa 0 (List.length a) a))) (dL (aB (aa 0 (List.length a) a))))))<|.leaf (.inl ((p6 (bG (aX (aB (aa 0 (List.length a) a))) (aa 0 (aX (aB (aa 0 (List.length a) a))) (dJ (aB (aa 0 (List.length a) a)))) (aa 0 (aX (aB (aa 0 (List.length a) a))) (dK (aB (aa 0 (List.length a) a)))) (aa 0 (aX (aB (aa 0 (List.length a) a))) (dL (aB (aa 0 (List.length a) a)))))),(p7 (bG (aX (aB (aa 0 (List.length a) a))) (aa 0 (aX (aB (aa 0 (List.length a) a))) (dJ (aB (aa 0 (List.length a) a)))) (aa 0 (aX (aB (aa 0 (List.length a) a))) (dK (aB (aa 0 (List.length a) a)))) (aa 0 (aX (aB (aa 0 (List.length a) a))) (dL (aB (aa 0 (List.length a) a)))))),(p8 (bG (aX (aB (aa 0 (List.length a) a))) (aa 0 (aX (aB (aa 0 (List.length a) a))) (dJ (aB (aa 0 (List.length a) a)))) (aa 0 (aX (aB (aa 0 (List.length a) a))) (dK (aB (aa 0 (List.length a) a)))) (aa 0 (aX (aB (aa 0 (List.length a) a))) (dL (aB (aa 0 (List.length a) a)))))),(p9 (bG (aX (aB (aa 0 (List.length a) a))) (aa 0 (aX (aB (aa 0 (List.length a) a))) (dJ (aB (aa 0 (List.length a) a)))) (aa 0 (aX (aB (aa 0 (List.length a) a))) (dK (aB (aa 0 (List.length a) a)))) (aa 0 (aX (aB (aa 0 (List.length a) a))) (dL (aB (aa 0 (List.length a) a)))))),(qa (bG (aX (aB (aa 0 (List.length a) a))) (aa 0 (aX (aB (aa 0 (List.length a) a))) (dJ (aB (aa 0 (List.length a) a)))) (aa 0 (aX (aB (aa 0 (List.length a) a))) (dK (aB (aa 0 (List.length a) a)))) (aa 0 (aX (aB (aa 0 (List.length a) a))) (dL (aB (aa 0 (List.length a) a)))))),(qb (bG (aX (aB (aa 0 (List.length a) a))) (aa 0 (aX (aB (aa 0 (List.length a) a))) (dJ (aB (aa 0 (List.length a) a)))) (aa 0 (aX (aB (aa 0 (List.length a) a))) (dK (aB (aa 0 (List.length a) a)))) (aa 0 (aX (aB (aa 0 (List.length a) a))) (dL (aB (aa 0 (List.length a) a))))))))
def X7(a:Nat)(b:Bool)(c:List Int)(d:Nat)(e:Nat)(f:Int) :T ((Empty)⊕(g5)) :=
  .leaf (.inr (.r0 a b c d e f))
def cm(b:Int)(c:Int)(a:List Nat) :Option g5:=ld (aC ((Al b c a).run) fun j =>
  aC ((Mh a).run) fun (d,e,f,g,h,i) =>
  (X7 d e f g h i).run)
theorem alV(c:Int)(d:Int)(e:Lv)(b:List Nat){x:g5}(h:cm c d b=some x) :aw prog pa [] [.agg [.int .i64 c,.int .i64 d,.imm e (.fl b) 1 1 0 (List.length b)]] (Py x) :=
  Sg.contract true Py (by kernel_rfl:prog.funcs[pa]? = some (FN pa)) (by kernel_rfl:(FN pa).body=some (bi pa)) (Sg.cut 2 X4 (Sg.seg (C:=C0) an tS 60 (Mg.take 2) (aT (FN pa) [] [.agg [.int .i64 c,.int .i64 d,.imm e (.fl b) 1 1 0 (List.length b)]]) (Al c d b) (X5 c d e b) Iq [⟨[(.cell 16 1,.fre 1 1 (.ns .u64 ([]:List Int)))],[16],[2,3]⟩,⟨[(.cell 16 1,.fre 1 1 (.ns .u64 ([]:List Int)))],[16],[2,3]⟩,⟨[],[0,16],[1,2]⟩] (by kernel_rfl)) (fun m=>by exact Sg.cut 1 X4 (Sg.seg (C:=C0) an tS 60 ((Mg.drop 2).take 1) (X5 c d e b m) (Mh b) X6 Iq [⟨[],[1],[2,3]⟩] (by kernel_rfl)) (fun a=>by obtain ⟨f,g,i,j,k,l⟩:=a;exact Sg.seg (C:=C0) an tS 60 ((Mg.drop 2).drop 1) (X6 (f,g,i,j,k,l)) (X7 f g i j k l) (fun a:Empty=>a.elim) Iq [⟨[],[0],[2,3]⟩] (by kernel_rfl))))
    (fun x=>by cases x with | r0 n o p q r s=>exact ⟨.inr rfl,[.agg [.bool false o,.imm .free (.ns .u64 p) 1 1 q r,.int .i64 s],.int .i64 ((n:Nat):Int)],[],by kernel_rfl,trivial,by kernel_rfl⟩) h
def vW:Option g5→Bool
  | some _=>true
  | none=>false
def uN:Option g5→Nat
  | some (.r0 x _ _ _ _ _)=>x
  | _=>0
def uO:Option g5→Bool
  | some (.r0 _ x _ _ _ _)=>x
  | _=>false
def uP:Option g5→List Int
  | some (.r0 _ _ x _ _ _)=>x
  | _=>[]
def uQ:Option g5→Nat
  | some (.r0 _ _ _ x _ _)=>x
  | _=>0
def uR:Option g5→Nat
  | some (.r0 _ _ _ _ x _)=>x
  | _=>0
def uS:Option g5→Int
  | some (.r0 _ _ _ _ _ x)=>x
  | _=>0
theorem alW{x:Option g5}(h:vW x=true) :x=some (.r0 (uN x) (uO x) (uP x) (uQ x) (uR x) (uS x)):=by
  unfold vW at h
  split at h <;> first | rfl | (cases h;done) | (rename_i y;cases y;rfl)
def abY:aJ:=bW pa (.cons (.agg (.cons (.int .i64) (.cons (.int .i64) (.cons .fl .nil)))) .nil) fun t=>[⟨Py (.r0 (uN (cm t.1.1 t.1.2.1 t.1.2.2.1.2)) (uO (cm t.1.1 t.1.2.1 t.1.2.2.1.2)) (uP (cm t.1.1 t.1.2.1 t.1.2.2.1.2)) (uQ (cm t.1.1 t.1.2.1 t.1.2.2.1.2)) (uR (cm t.1.1 t.1.2.1 t.1.2.2.1.2)) (uS (cm t.1.1 t.1.2.1 t.1.2.2.1.2))),[vW (cm t.1.1 t.1.2.1 t.1.2.2.1.2)]⟩]
theorem af0:aU prog abY:=aO fun t=>(aP (fun h=>alV t.1.1 t.1.2.1 t.1.2.2.1.1 t.1.2.2.1.2 (alW h)) aW)
def abZ:List aJ:=abY :: Px
theorem Am:aY prog (bb abZ):=au af0 tS
end
end Go.Plb.Seat
namespace Go.Plb.Seat
open Go Go.Plb
set_option linter.unusedVariables false
set_option maxRecDepth 100000
noncomputable section
inductive iO where
  | r0 (a:Nat) (b:List Bool) (c:List (List Int)) (d:List Int)
def za:iO→AE×aL
  | .r0 a b c d=>(.ret,⟨ah 31 [(8,.sl 0 3 3 0 a a)],[(0,.cols a [.cb b,.cns .u64 c,.ci .i64 d])],1⟩)
theorem Mi:kR za:=by intro x;cases x <;> (intro h;cases h)
theorem alX(id:Nat) :qE id za:=by intro x;cases x <;> (intro h;cases h)
def Pz:iO→jc
  | .r0 a b c d=>⟨.imm .free (.cols a [.cb b,.cns .u64 c,.ci .i64 d]) 3 3 0 a,[]⟩
def An:List Code:=bJ (bi pd)
def X8(c:Lv)(b:Nat)(d:List Bool)(e:List (List Int))(f:List Int)(g:Int)(h:Int) :Nat×Nat×(List Bool)×(List (List Int))×(List Int)→aL:=fun (a,i,j,k,l)=>⟨ah 31 [(0,.imm c (.cols b [.cb d,.cns .u64 e,.ci .i64 f]) 3 3 0 b),(1,.int .i64 g),(2,.int .i64 h),(9,.sl 0 3 3 0 a a),(14,.int .i64 ((i:Nat):Int)),(15,.int .i64 (0:Int))],[(0,.cols a [.cb j,.cns .u64 k,.ci .i64 l])],1⟩
def Mj(a:Int) :T ((Nat×Nat×(List Bool)×(List (List Int))×(List Int))⊕(iO)) :=
  .need (decide ((0:Int)≤a))<|.need (decide (a≤a))<|.need (decide ((40:Int) * a≤140737488355328))<|.need (d8 .i64 a)<|.leaf (.inl ((Int.toNat a),(Int.toNat a),(List.replicate (Int.toNat a) false),(List.replicate (Int.toNat a) []),(List.replicate (Int.toNat a) (0:Int))))
def vX(c:Lv)(b:Nat)(d:List Bool)(e:List (List Int))(f:List Int)(g:Int)(h:Int)(a:Nat)(i:Nat) :Nat×(List Bool)×(List (List Int))×(List Int)→aL:=fun (j,k,l,m)=>⟨ah 31 [(0,.imm c (.cols b [.cb d,.cns .u64 e,.ci .i64 f]) 3 3 0 b),(1,.int .i64 g),(2,.int .i64 h),(9,.sl 0 3 3 0 a a),(14,.int .i64 ((i:Nat):Int)),(15,.int .i64 ((j:Nat):Int))],[(0,.cols a [.cb k,.cns .u64 l,.ci .i64 m])],1⟩
def FG(a:Nat) :(List Bool)×(List (List Int))×(List Int)→aL:=fun (b,c,d)=>⟨ah 31 [(9,.sl 0 3 3 0 a a)],[(0,.cols a [.cb b,.cns .u64 c,.ci .i64 d])],1⟩
def X9:List Code:=bJ (bK ((((An.drop 3).take 1)).headD .skip))
def Ao(j:Nat)(h:List Bool)(d:List (List Int))(i:List Int)(c:Int)(b:Int)(k:Nat)(l:Nat)(a:Nat)(e:List Bool)(f:List (List Int))(g:List Int) :T ((Nat×(List Bool)×(List (List Int))×(List Int))⊕(((List Bool)×(List (List Int))×(List Int))⊕(iO))) :=
  .ask (decide (((a:Nat):Int) < ((l:Nat):Int)))
    (.need (d8 .i64 (((a:Nat):Int) * b))<|.need (d8 .i64 (c+(((a:Nat):Int) * b)))<|.need (iS (c+(((a:Nat):Int) * b)) j)<|.need (jC (Int.toNat (c+(((a:Nat):Int) * b))) (List.length h))<|.need (jC (Int.toNat (c+(((a:Nat):Int) * b))) (List.length d))<|.need (jC (Int.toNat (c+(((a:Nat):Int) * b))) (List.length i))<|.need (iS ((a:Nat):Int) k)<|.need (jC a (List.length e))<|.need (jC a (List.length f))<|.need (decide (0+(List.length (List.getD d (Int.toNat (c+(((a:Nat):Int) * b))) []))≤List.length (List.getD d (Int.toNat (c+(((a:Nat):Int) * b))) [])))<|.need (jC a (List.length g))<|.need (d8 .i64 (((a+1):Nat):Int))<|.leaf (.inl ((a+1),(List.set e a (List.getD h (Int.toNat (c+(((a:Nat):Int) * b))) false)),(List.set f a (List.take (List.length (List.getD d (Int.toNat (c+(((a:Nat):Int) * b))) [])) (List.drop 0 (List.getD d (Int.toNat (c+(((a:Nat):Int) * b))) [])))),(List.set g a (List.getD i (Int.toNat (c+(((a:Nat):Int) * b))) 0)))))
    (.leaf (.inr (.inl (e,f,g))))
def Jw(a:Nat)(b:List Bool)(c:List (List Int))(d:List Int)(e:Int)(f:Int)(g:Nat)(h:Nat) :Nat×(List Bool)×(List (List Int))×(List Int)→Option ((Nat×(List Bool)×(List (List Int))×(List Int))⊕(((List Bool)×(List (List Int))×(List Int))⊕(iO))):=fun (i,j,k,l) =>
  (Ao a b c d e f g h i j k l).run
theorem ain(i:Lv)(b:Nat)(c:List Bool)(d:List (List Int))(e:List Int)(f:Int)(g:Int)(a:Nat)(h:Nat)(j:Nat)(k:List Bool)(l:List (List Int))(m:List Int) :Sg prog [] X9 (vX i b c d e f g a h (j,k,l,m)) (Jw b c d e f g a h (j,k,l,m)) (vX i b c d e f g a h) (aN 0 (FG a) za):=by
  unfold Jw;exact Sg.seg (C:=C0) an Am 60 X9 (vX i b c d e f g a h (j,k,l,m)) (Ao b c d e f g a h j k l m) (vX i b c d e f g a h) (aN 0 (FG a) za) [⟨[],[0],[0,1,2,9,14,15]⟩,⟨[],[0],[9]⟩] (by kernel_rfl)
def alY(a:Nat) :(List Bool)×(List (List Int))×(List Int)→aL:=FG a
def Th(a:Nat)(b:List Bool)(c:List (List Int))(d:List Int) :T ((Empty)⊕(iO)) :=
  .leaf (.inr (.r0 a b c d))
def ac(b:Nat)(c:List Bool)(d:List (List Int))(e:List Int)(f:Int)(g:Int)(h:Int) :Option iO:=ld (aC ((Mj h).run) fun (a,i,j,k,l) =>
  aC (dM (Jw b c d e f g a i) (0,j,k,l)) fun (m,n,o) =>
  (Th a m n o).run)
theorem alZ(i:Lv)(b:Nat)(c:List Bool)(d:List (List Int))(e:List Int)(f:Int)(g:Int)(k:Int){x:iO}(h:ac b c d e f g k=some x) :aw prog pd [] [.imm i (.cols b [.cb c,.cns .u64 d,.ci .i64 e]) 3 3 0 b,.int .i64 f,.int .i64 g,.int .i64 k] (Pz x) :=
  Sg.contract true Pz (by kernel_rfl:prog.funcs[pd]? = some (FN pd)) (by kernel_rfl:(FN pd).body=some (bi pd)) (Sg.cut 3 Mi (Sg.seg (C:=C0) an Am 60 (An.take 3) (aT (FN pd) [] [.imm i (.cols b [.cb c,.cns .u64 d,.ci .i64 e]) 3 3 0 b,.int .i64 f,.int .i64 g,.int .i64 k]) (Mj k) (X8 i b c d e f g) za [⟨[],[32],[0,1,2,9,14,15]⟩] (by kernel_rfl)) (fun a=>by obtain ⟨j,l,m,n,o⟩:=a;exact Sg.cut 1 Mi (Sg.pre ⟨[],[0],[0,1,2,9,14,15]⟩ rfl (by kernel_rfl:NS.on ⟨[],[0],[0,1,2,9,14,15]⟩ (X8 i b c d e f g (j,l,m,n,o))=(vX i b c d e f g j l) (0,m,n,o)) (bU (I:=(vX i b c d e f g j l)) (J:=(FG j)) (id:=0) (by kernel_rfl:((An.drop 3).take 1) = [.block 0 (.loop (bK ((((An.drop 3).take 1)).headD .skip)))]) Mi (alX _) (fun s=>by obtain ⟨u,v,w,y⟩:=s;exact ain i b c d e f g j l u v w y) (0,m,n,o))) (fun a=>by obtain ⟨p,q,r⟩:=a;exact Sg.seg (C:=C0) an Am 60 ((An.drop 3).drop 1) (alY j (p,q,r)) (Th j p q r) (fun a:Empty=>a.elim) za [⟨[],[0],[8]⟩] (by kernel_rfl))))
    (fun x=>by cases x with | r0 t z A B=>exact ⟨.inr rfl,[.sl 0 3 3 0 t t],[],by kernel_rfl,trivial,by kernel_rfl⟩) h
def ng:Option iO→Bool
  | some _=>true
  | none=>false
def ag:Option iO→Nat
  | some (.r0 x _ _ _)=>x
  | _=>0
def bB:Option iO→List Bool
  | some (.r0 _ x _ _)=>x
  | _=>[]
def bC:Option iO→List (List Int)
  | some (.r0 _ _ x _)=>x
  | _=>[]
def bD:Option iO→List Int
  | some (.r0 _ _ _ x)=>x
  | _=>[]
theorem al0{x:Option iO}(h:ng x=true) :x=some (.r0 (ag x) (bB x) (bC x) (bD x)):=by
  unfold ng at h
  split at h <;> first | rfl | (cases h;done) | (rename_i y;cases y;rfl)
def ab0:aJ:=bW pd (.cons (.cols [.cb,.cns .u64,.ci .i64]) (.cons (.int .i64) (.cons (.int .i64) (.cons (.int .i64) .nil)))) fun t=>[⟨Pz (.r0 (ag (ac t.1.2.1 t.1.2.2.1 t.1.2.2.2.1 t.1.2.2.2.2.1 t.2.1 t.2.2.1 t.2.2.2.1)) (bB (ac t.1.2.1 t.1.2.2.1 t.1.2.2.2.1 t.1.2.2.2.2.1 t.2.1 t.2.2.1 t.2.2.2.1)) (bC (ac t.1.2.1 t.1.2.2.1 t.1.2.2.2.1 t.1.2.2.2.2.1 t.2.1 t.2.2.1 t.2.2.2.1)) (bD (ac t.1.2.1 t.1.2.2.1 t.1.2.2.2.1 t.1.2.2.2.2.1 t.2.1 t.2.2.1 t.2.2.2.1))),[ng (ac t.1.2.1 t.1.2.2.1 t.1.2.2.2.1 t.1.2.2.2.2.1 t.2.1 t.2.2.1 t.2.2.2.1)]⟩]
theorem af1:aU prog ab0:=aO fun t=>(aP (fun h=>alZ t.1.1 t.1.2.1 t.1.2.2.1 t.1.2.2.2.1 t.1.2.2.2.2.1 t.2.1 t.2.2.1 t.2.2.2.1 (al0 h)) aW)
def ab1:List aJ:=ab0 :: abZ
theorem G5:aY prog (bb ab1):=au af1 Am
inductive j9 where
  | r0 (a:Nat) (b:Bool) (c:List Int) (d:Nat) (e:Nat) (f:Int)
def Vd:j9→AE×aL
  | .r0 a b c d e f=>(.ret,⟨ah 15 [(4,.ptr 0 1 0 0),(5,.int .i64 ((a:Nat):Int))],[(0,.vs [.bool false b,.imm .free (.ns .u64 c) 1 1 d e,.int .i64 f])],1⟩)
theorem an3:kR Vd:=by intro x;cases x <;> (intro h;cases h)
def Ve:j9→jc
  | .r0 a b c d e f=>⟨.tup [.agg [.bool false b,.imm .free (.ns .u64 c) 1 1 d e,.int .i64 f],.int .i64 ((a:Nat):Int)],[]⟩
def ab2:List Code:=bJ (bi rQ)
def ab3:Nat×Bool×(List Int)×Nat×Nat×Int→aL:=fun (a,b,c,d,e,f)=>⟨ah 15 [(4,.ptr 0 1 0 0),(5,.int .i64 ((a:Nat):Int))],[(0,.vs [.bool false b,.imm .free (.ns .u64 c) 1 1 d e,.int .i64 f])],1⟩
def PA(c:Bool)(a:List Int)(d:Int)(e:Bool)(b:List Int)(f:Int) :T ((Nat×Bool×(List Int)×Nat×Nat×Int)⊕(j9)) :=
  .need (aQ 0 (List.length a) a)<|.need (aQ 0 (List.length b) b)<|.need (DI (cA c (aa 0 (List.length a) a) d (!e) (aa 0 (List.length b) b) f))<|.leaf (.inl ((tg (cA c (aa 0 (List.length a) a) d (!e) (aa 0 (List.length b) b) f)),(wB (cA c (aa 0 (List.length a) a) d (!e) (aa 0 (List.length b) b) f)),(wC (cA c (aa 0 (List.length a) a) d (!e) (aa 0 (List.length b) b) f)),(wD (cA c (aa 0 (List.length a) a) d (!e) (aa 0 (List.length b) b) f)),(wE (cA c (aa 0 (List.length a) a) d (!e) (aa 0 (List.length b) b) f)),(wF (cA c (aa 0 (List.length a) a) d (!e) (aa 0 (List.length b) b) f))))
def ab4(a:Nat)(b:Bool)(c:List Int)(d:Nat)(e:Nat)(f:Int) :T ((Empty)⊕(j9)) :=
  .leaf (.inr (.r0 a b c d e f))
def ej(a:Bool)(b:List Int)(c:Int)(d:Bool)(e:List Int)(f:Int) :Option j9:=ld (aC ((PA a b c d e f).run) fun (g,h,i,j,k,l) =>
  (ab4 g h i j k l).run)
theorem an4(d:Bool)(i:Lv)(b:List Int)(e:Int)(f:Bool)(j:Lv)(c:List Int)(g:Int){x:j9}(h:ej d b e f c g=some x) :aw prog rQ [] [.agg [.bool false d,.imm i (.ns .u64 b) 1 1 0 (List.length b),.int .i64 e],.agg [.bool false f,.imm j (.ns .u64 c) 1 1 0 (List.length c),.int .i64 g]] (Ve x) :=
  Sg.contract true Ve (by kernel_rfl:prog.funcs[rQ]? = some (FN rQ)) (by kernel_rfl:(FN rQ).body=some (bi rQ)) (Sg.cut 3 an3 (Sg.seg (C:=C0) an G5 60 (ab2.take 3) (aT (FN rQ) [] [.agg [.bool false d,.imm i (.ns .u64 b) 1 1 0 (List.length b),.int .i64 e],.agg [.bool false f,.imm j (.ns .u64 c) 1 1 0 (List.length c),.int .i64 g]]) (PA d b e f c g) ab3 Vd [⟨[],[32],[4,5]⟩] (by kernel_rfl)) (fun a=>by obtain ⟨k,l,m,n,o,p⟩:=a;exact Sg.seg (C:=C0) an G5 60 (ab2.drop 3) (ab3 (k,l,m,n,o,p)) (ab4 k l m n o p) (fun a:Empty=>a.elim) Vd [⟨[],[0],[4,5]⟩] (by kernel_rfl)))
    (fun x=>by cases x with | r0 q r s t u v=>exact ⟨.inr rfl,[.agg [.bool false r,.imm .free (.ns .u64 s) 1 1 t u,.int .i64 v],.int .i64 ((q:Nat):Int)],[],by kernel_rfl,trivial,by kernel_rfl⟩) h
def DL:Option j9→Bool
  | some _=>true
  | none=>false
def C8:Option j9→Nat
  | some (.r0 x _ _ _ _ _)=>x
  | _=>0
def C9:Option j9→Bool
  | some (.r0 _ x _ _ _ _)=>x
  | _=>false
def Da:Option j9→List Int
  | some (.r0 _ _ x _ _ _)=>x
  | _=>[]
def Db:Option j9→Nat
  | some (.r0 _ _ _ x _ _)=>x
  | _=>0
def Dc:Option j9→Nat
  | some (.r0 _ _ _ _ x _)=>x
  | _=>0
def Dd:Option j9→Int
  | some (.r0 _ _ _ _ _ x)=>x
  | _=>0
theorem an5{x:Option j9}(h:DL x=true) :x=some (.r0 (C8 x) (C9 x) (Da x) (Db x) (Dc x) (Dd x)):=by
  unfold DL at h
  split at h <;> first | rfl | (cases h;done) | (rename_i y;cases y;rfl)
def af2:aJ:=bW rQ (.cons (.agg (.cons .bool (.cons (.ns .u64) (.cons (.int .i64) .nil)))) (.cons (.agg (.cons .bool (.cons (.ns .u64) (.cons (.int .i64) .nil)))) .nil)) fun t=>[⟨Ve (.r0 (C8 (ej t.1.1 t.1.2.1.2 t.1.2.2.1 t.2.1.1 t.2.1.2.1.2 t.2.1.2.2.1)) (C9 (ej t.1.1 t.1.2.1.2 t.1.2.2.1 t.2.1.1 t.2.1.2.1.2 t.2.1.2.2.1)) (Da (ej t.1.1 t.1.2.1.2 t.1.2.2.1 t.2.1.1 t.2.1.2.1.2 t.2.1.2.2.1)) (Db (ej t.1.1 t.1.2.1.2 t.1.2.2.1 t.2.1.1 t.2.1.2.1.2 t.2.1.2.2.1)) (Dc (ej t.1.1 t.1.2.1.2 t.1.2.2.1 t.2.1.1 t.2.1.2.1.2 t.2.1.2.2.1)) (Dd (ej t.1.1 t.1.2.1.2 t.1.2.2.1 t.2.1.1 t.2.1.2.1.2 t.2.1.2.2.1))),[DL (ej t.1.1 t.1.2.1.2 t.1.2.2.1 t.2.1.1 t.2.1.2.1.2 t.2.1.2.2.1)]⟩]
theorem aio:aU prog af2:=aO fun t=>(aP (fun h=>an4 t.1.1 t.1.2.1.1 t.1.2.1.2 t.1.2.2.1 t.2.1.1 t.2.1.2.1.1 t.2.1.2.1.2 t.2.1.2.2.1 (an5 h)) aW)
def af3:List aJ:=af2 :: ab1
theorem xh:aY prog (bb af3):=au aio G5
inductive eG where
  | r0 (a:Nat) (b:Bool) (c:List Int) (d:Nat) (e:Nat) (f:Int)
def xi:eG→AE×aL
  | .r0 a b c d e f=>(.ret,⟨ah 43 [(7,.ptr 0 1 0 0),(8,.int .i64 ((a:Nat):Int))],[(0,.vs [.bool false b,.imm .free (.ns .u64 c) 1 1 d e,.int .i64 f])],1⟩)
theorem G6:kR xi:=by intro x;cases x <;> (intro h;cases h)
def Jx:eG→jc
  | .r0 a b c d e f=>⟨.tup [.agg [.bool false b,.imm .free (.ns .u64 c) 1 1 d e,.int .i64 f],.int .i64 ((a:Nat):Int)],[]⟩
def Ap:List Code:=bJ (bi cZ)
def PB(b:Int)(c:Int)(d:Lv)(e:Bool)(f:Lv)(a:List Int)(g:Int) :Nat×Bool×Bool×(List Int)×Nat×Nat×Int→aL:=fun (h,i,j,k,l,m,n)=>⟨ah 43 [(0,.int .i64 b),(1,.int .i64 c),(4,.iptr d (.vs [.bool false e,.imm f (.ns .u64 a) 1 1 0 (List.length a),.int .i64 g]) 1 0 0),(7,.ptr 0 1 0 0),(9,.ptr 1 1 0 0),(10,.int .i64 ((h:Nat):Int))],[(0,.vs [.bool false i,.nsl,.int .i64 (0:Int)]),(1,.vs [.bool false j,.imm .free (.ns .u64 k) 1 1 l m,.int .i64 n])],2⟩
def Aq(g:Int)(h:Int)(a:Nat)(b:List Bool)(c:List (List Int))(d:List Int)(e:Int)(f:Int) :T ((Nat×Bool×Bool×(List Int)×Nat×Nat×Int)⊕(eG)) :=
  .need (Nat.ble (0+a) a)<|.need (ng (ac a (aa 0 a b) (aa 0 a c) (aa 0 a d) g f e))<|.need (Nat.ble (0+a) a)<|.need (ng (ac a (aa 0 a b) (aa 0 a c) (aa 0 a d) h f e))<|.need (Nat.ble (0+(ag (ac a (aa 0 a b) (aa 0 a c) (aa 0 a d) g f e))) (ag (ac a (aa 0 a b) (aa 0 a c) (aa 0 a d) g f e)))<|.need (Nat.ble (0+(ag (ac a (aa 0 a b) (aa 0 a c) (aa 0 a d) h f e))) (ag (ac a (aa 0 a b) (aa 0 a c) (aa 0 a d) h f e)))<|.need (y9 (cJ (ag (ac a (aa 0 a b) (aa 0 a c) (aa 0 a d) g f e)) (aa 0 (ag (ac a (aa 0 a b) (aa 0 a c) (aa 0 a d) g f e)) (bB (ac a (aa 0 a b) (aa 0 a c) (aa 0 a d) g f e))) (aa 0 (ag (ac a (aa 0 a b) (aa 0 a c) (aa 0 a d) g f e)) (bC (ac a (aa 0 a b) (aa 0 a c) (aa 0 a d) g f e))) (aa 0 (ag (ac a (aa 0 a b) (aa 0 a c) (aa 0 a d) g f e)) (bD (ac a (aa 0 a b) (aa 0 a c) (aa 0 a d) g f e))) (ag (ac a (aa 0 a b) (aa 0 a c) (aa 0 a d) h f e)) (aa 0 (ag (ac a (aa 0 a b) (aa 0 a c) (aa 0 a d) h f e)) (bB (ac a (aa 0 a b) (aa 0 a c) (aa 0 a d) h f e))) (aa 0 (ag (ac a (aa 0 a b) (aa 0 a c) (aa 0 a d) h f e)) (bC (ac a (aa 0 a b) (aa 0 a c) (aa 0 a d) h f e))) (aa 0 (ag (ac a (aa 0 a b) (aa 0 a c) (aa 0 a d) h f e)) (bD (ac a (aa 0 a b) (aa 0 a c) (aa 0 a d) h f e)))))<|.leaf (.inl ((xa (cJ (ag (ac a (aa 0 a b) (aa 0 a c) (aa 0 a d) g f e)) (aa 0 (ag (ac a (aa 0 a b) (aa 0 a c) (aa 0 a d) g f e)) (bB (ac a (aa 0 a b) (aa 0 a c) (aa 0 a d) g f e))) (aa 0 (ag (ac a (aa 0 a b) (aa 0 a c) (aa 0 a d) g f e)) (bC (ac a (aa 0 a b) (aa 0 a c) (aa 0 a d) g f e))) (aa 0 (ag (ac a (aa 0 a b) (aa 0 a c) (aa 0 a d) g f e)) (bD (ac a (aa 0 a b) (aa 0 a c) (aa 0 a d) g f e))) (ag (ac a (aa 0 a b) (aa 0 a c) (aa 0 a d) h f e)) (aa 0 (ag (ac a (aa 0 a b) (aa 0 a c) (aa 0 a d) h f e)) (bB (ac a (aa 0 a b) (aa 0 a c) (aa 0 a d) h f e))) (aa 0 (ag (ac a (aa 0 a b) (aa 0 a c) (aa 0 a d) h f e)) (bC (ac a (aa 0 a b) (aa 0 a c) (aa 0 a d) h f e))) (aa 0 (ag (ac a (aa 0 a b) (aa 0 a c) (aa 0 a d) h f e)) (bD (ac a (aa 0 a b) (aa 0 a c) (aa 0 a d) h f e))))),false,(xc (cJ (ag (ac a (aa 0 a b) (aa 0 a c) (aa 0 a d) g f e)) (aa 0 (ag (ac a (aa 0 a b) (aa 0 a c) (aa 0 a d) g f e)) (bB (ac a (aa 0 a b) (aa 0 a c) (aa 0 a d) g f e))) (aa 0 (ag (ac a (aa 0 a b) (aa 0 a c) (aa 0 a d) g f e)) (bC (ac a (aa 0 a b) (aa 0 a c) (aa 0 a d) g f e))) (aa 0 (ag (ac a (aa 0 a b) (aa 0 a c) (aa 0 a d) g f e)) (bD (ac a (aa 0 a b) (aa 0 a c) (aa 0 a d) g f e))) (ag (ac a (aa 0 a b) (aa 0 a c) (aa 0 a d) h f e)) (aa 0 (ag (ac a (aa 0 a b) (aa 0 a c) (aa 0 a d) h f e)) (bB (ac a (aa 0 a b) (aa 0 a c) (aa 0 a d) h f e))) (aa 0 (ag (ac a (aa 0 a b) (aa 0 a c) (aa 0 a d) h f e)) (bC (ac a (aa 0 a b) (aa 0 a c) (aa 0 a d) h f e))) (aa 0 (ag (ac a (aa 0 a b) (aa 0 a c) (aa 0 a d) h f e)) (bD (ac a (aa 0 a b) (aa 0 a c) (aa 0 a d) h f e))))),(xd (cJ (ag (ac a (aa 0 a b) (aa 0 a c) (aa 0 a d) g f e)) (aa 0 (ag (ac a (aa 0 a b) (aa 0 a c) (aa 0 a d) g f e)) (bB (ac a (aa 0 a b) (aa 0 a c) (aa 0 a d) g f e))) (aa 0 (ag (ac a (aa 0 a b) (aa 0 a c) (aa 0 a d) g f e)) (bC (ac a (aa 0 a b) (aa 0 a c) (aa 0 a d) g f e))) (aa 0 (ag (ac a (aa 0 a b) (aa 0 a c) (aa 0 a d) g f e)) (bD (ac a (aa 0 a b) (aa 0 a c) (aa 0 a d) g f e))) (ag (ac a (aa 0 a b) (aa 0 a c) (aa 0 a d) h f e)) (aa 0 (ag (ac a (aa 0 a b) (aa 0 a c) (aa 0 a d) h f e)) (bB (ac a (aa 0 a b) (aa 0 a c) (aa 0 a d) h f e))) (aa 0 (ag (ac a (aa 0 a b) (aa 0 a c) (aa 0 a d) h f e)) (bC (ac a (aa 0 a b) (aa 0 a c) (aa 0 a d) h f e))) (aa 0 (ag (ac a (aa 0 a b) (aa 0 a c) (aa 0 a d) h f e)) (bD (ac a (aa 0 a b) (aa 0 a c) (aa 0 a d) h f e))))),(xe (cJ (ag (ac a (aa 0 a b) (aa 0 a c) (aa 0 a d) g f e)) (aa 0 (ag (ac a (aa 0 a b) (aa 0 a c) (aa 0 a d) g f e)) (bB (ac a (aa 0 a b) (aa 0 a c) (aa 0 a d) g f e))) (aa 0 (ag (ac a (aa 0 a b) (aa 0 a c) (aa 0 a d) g f e)) (bC (ac a (aa 0 a b) (aa 0 a c) (aa 0 a d) g f e))) (aa 0 (ag (ac a (aa 0 a b) (aa 0 a c) (aa 0 a d) g f e)) (bD (ac a (aa 0 a b) (aa 0 a c) (aa 0 a d) g f e))) (ag (ac a (aa 0 a b) (aa 0 a c) (aa 0 a d) h f e)) (aa 0 (ag (ac a (aa 0 a b) (aa 0 a c) (aa 0 a d) h f e)) (bB (ac a (aa 0 a b) (aa 0 a c) (aa 0 a d) h f e))) (aa 0 (ag (ac a (aa 0 a b) (aa 0 a c) (aa 0 a d) h f e)) (bC (ac a (aa 0 a b) (aa 0 a c) (aa 0 a d) h f e))) (aa 0 (ag (ac a (aa 0 a b) (aa 0 a c) (aa 0 a d) h f e)) (bD (ac a (aa 0 a b) (aa 0 a c) (aa 0 a d) h f e))))),(xf (cJ (ag (ac a (aa 0 a b) (aa 0 a c) (aa 0 a d) g f e)) (aa 0 (ag (ac a (aa 0 a b) (aa 0 a c) (aa 0 a d) g f e)) (bB (ac a (aa 0 a b) (aa 0 a c) (aa 0 a d) g f e))) (aa 0 (ag (ac a (aa 0 a b) (aa 0 a c) (aa 0 a d) g f e)) (bC (ac a (aa 0 a b) (aa 0 a c) (aa 0 a d) g f e))) (aa 0 (ag (ac a (aa 0 a b) (aa 0 a c) (aa 0 a d) g f e)) (bD (ac a (aa 0 a b) (aa 0 a c) (aa 0 a d) g f e))) (ag (ac a (aa 0 a b) (aa 0 a c) (aa 0 a d) h f e)) (aa 0 (ag (ac a (aa 0 a b) (aa 0 a c) (aa 0 a d) h f e)) (bB (ac a (aa 0 a b) (aa 0 a c) (aa 0 a d) h f e))) (aa 0 (ag (ac a (aa 0 a b) (aa 0 a c) (aa 0 a d) h f e)) (bC (ac a (aa 0 a b) (aa 0 a c) (aa 0 a d) h f e))) (aa 0 (ag (ac a (aa 0 a b) (aa 0 a c) (aa 0 a d) h f e)) (bD (ac a (aa 0 a b) (aa 0 a c) (aa 0 a d) h f e))))),(xg (cJ (ag (ac a (aa 0 a b) (aa 0 a c) (aa 0 a d) g f e)) (aa 0 (ag (ac a (aa 0 a b) (aa 0 a c) (aa 0 a d) g f e)) (bB (ac a (aa 0 a b) (aa 0 a c) (aa 0 a d) g f e))) (aa 0 (ag (ac a (aa 0 a b) (aa 0 a c) (aa 0 a d) g f e)) (bC (ac a (aa 0 a b) (aa 0 a c) (aa 0 a d) g f e))) (aa 0 (ag (ac a (aa 0 a b) (aa 0 a c) (aa 0 a d) g f e)) (bD (ac a (aa 0 a b) (aa 0 a c) (aa 0 a d) g f e))) (ag (ac a (aa 0 a b) (aa 0 a c) (aa 0 a d) h f e)) (aa 0 (ag (ac a (aa 0 a b) (aa 0 a c) (aa 0 a d) h f e)) (bB (ac a (aa 0 a b) (aa 0 a c) (aa 0 a d) h f e))) (aa 0 (ag (ac a (aa 0 a b) (aa 0 a c) (aa 0 a d) h f e)) (bC (ac a (aa 0 a b) (aa 0 a c) (aa 0 a d) h f e))) (aa 0 (ag (ac a (aa 0 a b) (aa 0 a c) (aa 0 a d) h f e)) (bD (ac a (aa 0 a b) (aa 0 a c) (aa 0 a d) h f e)))))))
def PC(b:Lv)(c:Bool)(d:Lv)(a:List Int)(e:Int)(f:Nat)(g:Bool)(h:Bool)(i:List Int)(j:Nat)(k:Nat)(l:Int)(m:Bool) :aL:=⟨ah 43 [(4,.iptr b (.vs [.bool false c,.imm d (.ns .u64 a) 1 1 0 (List.length a),.int .i64 e]) 1 0 0),(7,.ptr 0 1 0 0),(9,.ptr 1 1 0 0),(10,.int .i64 ((f:Nat):Int)),(35,.bool false m)],[(0,.vs [.bool false g,.nsl,.int .i64 (0:Int)]),(1,.vs [.bool false h,.imm .free (.ns .u64 i) 1 1 j k,.int .i64 l])],2⟩
def Ar(a:Int)(b:Int)(c:Nat) :T ((Bool)⊕(eG)) :=
  .ask (((c:Nat):Int) != (0:Int))
    (.leaf (.inl true))
    (.leaf (.inl (a != b)))
def PD:Nat×Bool×(List Int)×Nat×Nat×Int→aL:=fun (a,b,c,d,e,f)=>⟨ah 43 [(7,.ptr 0 1 0 0),(8,.int .i64 ((a:Nat):Int))],[(0,.vs [.bool false b,.imm .free (.ns .u64 c) 1 1 d e,.int .i64 f])],1⟩
def As(g:Bool)(a:List Int)(h:Int)(i:Nat)(e:Bool)(b:List Int)(c:Nat)(d:Nat)(f:Int)(j:Bool) :T ((Nat×Bool×(List Int)×Nat×Nat×Int)⊕(eG)) :=
  .ask j
    (.leaf (.inr (.r0 i e b c d f)))
    (.need (aQ c d b)<|.need (aQ 0 (List.length a) a)<|.need (DL (ej e (aa c d b) f g (aa 0 (List.length a) a) h))<|.leaf (.inl ((C8 (ej e (aa c d b) f g (aa 0 (List.length a) a) h)),(C9 (ej e (aa c d b) f g (aa 0 (List.length a) a) h)),(Da (ej e (aa c d b) f g (aa 0 (List.length a) a) h)),(Db (ej e (aa c d b) f g (aa 0 (List.length a) a) h)),(Dc (ej e (aa c d b) f g (aa 0 (List.length a) a) h)),(Dd (ej e (aa c d b) f g (aa 0 (List.length a) a) h)))))
def PE(a:Nat)(b:Bool)(c:List Int)(d:Nat)(e:Nat)(f:Int) :T ((Empty)⊕(eG)) :=
  .leaf (.inr (.r0 a b c d e f))
def cO(a:Int)(b:Int)(d:Nat)(e:List Bool)(f:List (List Int))(g:List Int)(h:Int)(i:Int)(j:Bool)(k:List Int)(l:Int) :Option eG:=ld (aC ((Aq a b d e f g h i).run) fun (c,y,m,n,o,p,q) =>
  aC ((Ar a b c).run) fun r =>
  aC ((As j k l c m n o p q r).run) fun (s,t,u,v,w,x) =>
  (PE s t u v w x).run)
theorem af4(e:Int)(f:Int)(y:Lv)(z:Lv)(g:Nat)(l:List Bool)(m:List (List Int))(n:List Int)(A:Lv)(o:Int)(p:Int)(B:Lv)(q:List Nat)(i:Lv)(c:Bool)(j:Lv)(b:List Int)(d:Int){x:eG}(h:cO e f g l m n o p c b d=some x) :aw prog cZ [] [.int .i64 e,.int .i64 f,.iptr y (.vs [.imm z (.cols g [.cb l,.cns .u64 m,.ci .i64 n]) 3 3 0 g]) 1 0 0,.iptr A (.vs [.int .i64 o,.int .i64 p,.imm B (.fl q) 1 1 0 (List.length q)]) 1 0 0,.iptr i (.vs [.bool false c,.imm j (.ns .u64 b) 1 1 0 (List.length b),.int .i64 d]) 1 0 0] (Jx x) :=
  Sg.contract false Jx (by kernel_rfl:prog.funcs[cZ]? = some (FN cZ)) (by kernel_rfl:(FN cZ).body=some (bi cZ)) (Sg.cut 2 G6 (Sg.seg (C:=C0) an xh 60 (Ap.take 2) (aT (FN cZ) [] [.int .i64 e,.int .i64 f,.iptr y (.vs [.imm z (.cols g [.cb l,.cns .u64 m,.ci .i64 n]) 3 3 0 g]) 1 0 0,.iptr A (.vs [.int .i64 o,.int .i64 p,.imm B (.fl q) 1 1 0 (List.length q)]) 1 0 0,.iptr i (.vs [.bool false c,.imm j (.ns .u64 b) 1 1 0 (List.length b),.int .i64 d]) 1 0 0]) (Aq e f g l m n o p) (PB e f i c j b d) xi [⟨[],[0,320],[0,1,4,7,9,10]⟩] (by kernel_rfl)) (fun a=>by obtain ⟨k,w,r,s,t,u,v⟩:=a;exact Sg.cut 1 G6 (Sg.seg (C:=C0) an xh 60 ((Ap.drop 2).take 1) (PB e f i c j b d (k,w,r,s,t,u,v)) (Ar e f k) (PC i c j b d k w r s t u v) xi [⟨[],[0,1],[4,7,9,10,35]⟩,⟨[],[0,1],[4,7,9,10,35]⟩] (by kernel_rfl)) (fun D=>by exact Sg.cut 2 G6 (Sg.seg (C:=C0) an xh 60 (((Ap.drop 2).drop 1).take 2) (PC i c j b d k w r s t u v D) (As c b d k r s t u v D) PD xi [⟨[],[0],[7,8]⟩,⟨[],[0],[7,8]⟩] (by kernel_rfl)) (fun a=>by obtain ⟨E,F,G,H,I,J⟩:=a;exact Sg.seg (C:=C0) an xh 60 (((Ap.drop 2).drop 1).drop 2) (PD (E,F,G,H,I,J)) (PE E F G H I J) (fun a:Empty=>a.elim) xi [⟨[],[0],[7,8]⟩] (by kernel_rfl)))))
    (fun x=>by cases x with | r0 K L M N O P=>exact ⟨.inr rfl,[.agg [.bool false L,.imm .free (.ns .u64 M) 1 1 N O,.int .i64 P],.int .i64 ((K:Nat):Int)],[],by kernel_rfl,trivial,by kernel_rfl⟩) h
def uT:Option eG→Bool
  | some _=>true
  | none=>false
def n7:Option eG→Nat
  | some (.r0 x _ _ _ _ _)=>x
  | _=>0
def vY:Option eG→Bool
  | some (.r0 _ x _ _ _ _)=>x
  | _=>false
def q9:Option eG→List Int
  | some (.r0 _ _ x _ _ _)=>x
  | _=>[]
def ra:Option eG→Nat
  | some (.r0 _ _ _ x _ _)=>x
  | _=>0
def rb:Option eG→Nat
  | some (.r0 _ _ _ _ x _)=>x
  | _=>0
def vZ:Option eG→Int
  | some (.r0 _ _ _ _ _ x)=>x
  | _=>0
theorem af5{x:Option eG}(h:uT x=true) :x=some (.r0 (n7 x) (vY x) (q9 x) (ra x) (rb x) (vZ x)):=by
  unfold uT at h
  split at h <;> first | rfl | (cases h;done) | (rename_i y;cases y;rfl)
def Ti:aJ:=bW cZ (.cons (.int .i64) (.cons (.int .i64) (.cons (.ivs (.cons (.cols [.cb,.cns .u64,.ci .i64]) .nil) 1 0 0) (.cons (.ivs (.cons (.int .i64) (.cons (.int .i64) (.cons .fl .nil))) 1 0 0) (.cons (.ivs (.cons .bool (.cons (.ns .u64) (.cons (.int .i64) .nil))) 1 0 0) .nil))))) fun t=>[⟨Jx (.r0 (n7 (cO t.1 t.2.1 t.2.2.1.2.1.2.1 t.2.2.1.2.1.2.2.1 t.2.2.1.2.1.2.2.2.1 t.2.2.1.2.1.2.2.2.2.1 t.2.2.2.1.2.1 t.2.2.2.1.2.2.1 t.2.2.2.2.1.2.1 t.2.2.2.2.1.2.2.1.2 t.2.2.2.2.1.2.2.2.1)) (vY (cO t.1 t.2.1 t.2.2.1.2.1.2.1 t.2.2.1.2.1.2.2.1 t.2.2.1.2.1.2.2.2.1 t.2.2.1.2.1.2.2.2.2.1 t.2.2.2.1.2.1 t.2.2.2.1.2.2.1 t.2.2.2.2.1.2.1 t.2.2.2.2.1.2.2.1.2 t.2.2.2.2.1.2.2.2.1)) (q9 (cO t.1 t.2.1 t.2.2.1.2.1.2.1 t.2.2.1.2.1.2.2.1 t.2.2.1.2.1.2.2.2.1 t.2.2.1.2.1.2.2.2.2.1 t.2.2.2.1.2.1 t.2.2.2.1.2.2.1 t.2.2.2.2.1.2.1 t.2.2.2.2.1.2.2.1.2 t.2.2.2.2.1.2.2.2.1)) (ra (cO t.1 t.2.1 t.2.2.1.2.1.2.1 t.2.2.1.2.1.2.2.1 t.2.2.1.2.1.2.2.2.1 t.2.2.1.2.1.2.2.2.2.1 t.2.2.2.1.2.1 t.2.2.2.1.2.2.1 t.2.2.2.2.1.2.1 t.2.2.2.2.1.2.2.1.2 t.2.2.2.2.1.2.2.2.1)) (rb (cO t.1 t.2.1 t.2.2.1.2.1.2.1 t.2.2.1.2.1.2.2.1 t.2.2.1.2.1.2.2.2.1 t.2.2.1.2.1.2.2.2.2.1 t.2.2.2.1.2.1 t.2.2.2.1.2.2.1 t.2.2.2.2.1.2.1 t.2.2.2.2.1.2.2.1.2 t.2.2.2.2.1.2.2.2.1)) (vZ (cO t.1 t.2.1 t.2.2.1.2.1.2.1 t.2.2.1.2.1.2.2.1 t.2.2.1.2.1.2.2.2.1 t.2.2.1.2.1.2.2.2.2.1 t.2.2.2.1.2.1 t.2.2.2.1.2.2.1 t.2.2.2.2.1.2.1 t.2.2.2.2.1.2.2.1.2 t.2.2.2.2.1.2.2.2.1))),[uT (cO t.1 t.2.1 t.2.2.1.2.1.2.1 t.2.2.1.2.1.2.2.1 t.2.2.1.2.1.2.2.2.1 t.2.2.1.2.1.2.2.2.2.1 t.2.2.2.1.2.1 t.2.2.2.1.2.2.1 t.2.2.2.2.1.2.1 t.2.2.2.2.1.2.2.1.2 t.2.2.2.2.1.2.2.2.1)]⟩]
theorem ZD:aU prog Ti:=aO fun t=>(aP (fun h=>af4 t.1 t.2.1 t.2.2.1.1 t.2.2.1.2.1.1 t.2.2.1.2.1.2.1 t.2.2.1.2.1.2.2.1 t.2.2.1.2.1.2.2.2.1 t.2.2.1.2.1.2.2.2.2.1 t.2.2.2.1.1 t.2.2.2.1.2.1 t.2.2.2.1.2.2.1 t.2.2.2.1.2.2.2.1.1 t.2.2.2.1.2.2.2.1.2 t.2.2.2.2.1.1 t.2.2.2.2.1.2.1 t.2.2.2.2.1.2.2.1.1 t.2.2.2.2.1.2.2.1.2 t.2.2.2.2.1.2.2.2.1 (af5 h)) aW)
def Tj:List aJ:=Ti :: af3
theorem fF:aY prog (bb Tj):=au ZD xh
end
end Go.Plb.Seat
namespace Go.Plb.Seat
open Go Go.Plb
set_option linter.unusedVariables false
set_option maxRecDepth 100000
noncomputable section
inductive aM where
  | r0 (a:Nat) (b:Bool) (c:List Int) (d:Nat) (e:Nat) (f:Int)
def bv:aM→AE×aL
  | .r0 a b c d e f=>(.ret,⟨ah 46 [(4,.ptr 0 1 0 0),(5,.int .i64 ((a:Nat):Int))],[(0,.vs [.bool false b,.imm .free (.ns .u64 c) 1 1 d e,.int .i64 f])],1⟩)
theorem bE:kR bv:=by intro x;cases x <;> (intro h;cases h)
theorem k9(id:Nat) :qE id bv:=by intro x;cases x <;> (intro h;cases h)
def lZ:aM→jc
  | .r0 a b c d e f=>⟨.tup [.agg [.bool false b,.imm .free (.ns .u64 c) 1 1 d e,.int .i64 f],.int .i64 ((a:Nat):Int)],[]⟩
def gK:List Code:=bJ (bi dA)
def rc(d:Int)(e:Int)(f:Lv)(g:Lv)(a:Nat)(h:List Bool)(i:List (List Int))(j:List Int)(k:Lv)(l:Int)(m:Int)(n:Lv)(b:List Nat)(o:Lv)(p:Bool)(q:Lv)(c:List Int)(r:Int)(s:Bool) :aL:=⟨ah 46 [(1,.fn (.func cZ) [] [.iptr f (.vs [.imm g (.cols a [.cb h,.cns .u64 i,.ci .i64 j]) 3 3 0 a]) 1 0 0,.iptr k (.vs [.int .i64 l,.int .i64 m,.imm n (.fl b) 1 1 0 (List.length b)]) 1 0 0,.iptr o (.vs [.bool false p,.imm q (.ns .u64 c) 1 1 0 (List.length c),.int .i64 r]) 1 0 0]),(2,.ptr 0 1 0 0),(4,.ptr 1 1 0 0)],[(0,.vs [.int .i64 d,.int .i64 e]),(1,.vs [.bool false s,.nsl,.int .i64 (0:Int)])],2⟩
def qt:T ((Bool)⊕(aM)) :=
  .leaf (.inl false)
def dP:List Code:=bJ (Q3 (((gK.drop 1)).headD .skip))
def re(a:Int)(e:Int)(f:Lv)(g:Lv)(b:Nat)(h:List Bool)(i:List (List Int))(j:List Int)(k:Lv)(l:Int)(m:Int)(n:Lv)(c:List Nat)(o:Lv)(p:Bool)(q:Lv)(d:List Int)(r:Int)(s:Bool)(_:Unit) :aL:=⟨ah 46 [(1,.fn (.func cZ) [] [.iptr f (.vs [.imm g (.cols b [.cb h,.cns .u64 i,.ci .i64 j]) 3 3 0 b]) 1 0 0,.iptr k (.vs [.int .i64 l,.int .i64 m,.imm n (.fl c) 1 1 0 (List.length c)]) 1 0 0,.iptr o (.vs [.bool false p,.imm q (.ns .u64 d) 1 1 0 (List.length d),.int .i64 r]) 1 0 0]),(2,.ptr 0 1 0 0),(4,.ptr 1 1 0 0),(6,.nsl),(7,.int .i64 (0:Int)),(13,.int .i64 a),(14,.int .i64 (0:Int))],[(0,.vs [.int .i64 a,.int .i64 e]),(1,.vs [.bool false s,.nsl,.int .i64 (0:Int)])],2⟩
def qu:T ((Unit)⊕(aM)) :=
  .leaf (.inl ())
def dQ(a:Int)(e:Int)(f:Lv)(g:Lv)(b:Nat)(h:List Bool)(i:List (List Int))(j:List Int)(k:Lv)(l:Int)(m:Int)(n:Lv)(c:List Nat)(o:Lv)(p:Bool)(q:Lv)(d:List Int)(r:Int)(s:Bool) :Nat×Nat×Nat×Nat×Nat×(List Bool)×(List (List Int))×(List Int)→aL:=fun (t,u,v,w,x,y,z,A)=>⟨ah 46 [(1,.fn (.func cZ) [] [.iptr f (.vs [.imm g (.cols b [.cb h,.cns .u64 i,.ci .i64 j]) 3 3 0 b]) 1 0 0,.iptr k (.vs [.int .i64 l,.int .i64 m,.imm n (.fl c) 1 1 0 (List.length c)]) 1 0 0,.iptr o (.vs [.bool false p,.imm q (.ns .u64 d) 1 1 0 (List.length d),.int .i64 r]) 1 0 0]),(2,.ptr 0 1 0 0),(4,.ptr 1 1 0 0),(6,.sl 2 3 3 0 t u),(7,.int .i64 ((v:Nat):Int)),(13,.int .i64 a),(14,.int .i64 ((w:Nat):Int))],[(0,.vs [.int .i64 a,.int .i64 e]),(1,.vs [.bool false s,.nsl,.int .i64 (0:Int)]),(2,.cols x [.cb y,.cns .u64 z,.ci .i64 A])],3⟩
def ca(a:Bool) :Nat×Nat×Nat×Nat×(List Bool)×(List (List Int))×(List Int)→aL:=fun (b,c,d,e,f,g,h)=>⟨ah 46 [(4,.ptr 0 1 0 0),(6,.sl 1 3 3 0 b c),(7,.int .i64 ((d:Nat):Int))],[(0,.vs [.bool false a,.nsl,.int .i64 (0:Int)]),(1,.cols e [.cb f,.cns .u64 g,.ci .i64 h])],2⟩
def dR:List Code:=bJ (bK ((((dP.drop 3).take 1)).headD .skip))
def qv(a:Int)(e:Int)(f:Lv)(g:Lv)(b:Nat)(h:List Bool)(i:List (List Int))(j:List Int)(k:Lv)(l:Int)(m:Int)(n:Lv)(c:List Nat)(o:Lv)(p:Bool)(q:Lv)(d:List Int)(r:Int)(s:Bool)(t:Nat)(u:Nat)(v:Nat)(w:Nat)(x:Nat)(y:List Bool)(z:List (List Int))(A:List Int)(_:Unit) :aL:=⟨ah 46 [(1,.fn (.func cZ) [] [.iptr f (.vs [.imm g (.cols b [.cb h,.cns .u64 i,.ci .i64 j]) 3 3 0 b]) 1 0 0,.iptr k (.vs [.int .i64 l,.int .i64 m,.imm n (.fl c) 1 1 0 (List.length c)]) 1 0 0,.iptr o (.vs [.bool false p,.imm q (.ns .u64 d) 1 1 0 (List.length d),.int .i64 r]) 1 0 0]),(2,.ptr 0 1 0 0),(4,.ptr 1 1 0 0),(6,.sl 2 3 3 0 t u),(7,.int .i64 ((v:Nat):Int)),(13,.int .i64 a),(14,.int .i64 ((w:Nat):Int))],[(0,.vs [.int .i64 a,.int .i64 e]),(1,.vs [.bool false s,.nsl,.int .i64 (0:Int)]),(2,.cols x [.cb y,.cns .u64 z,.ci .i64 A])],3⟩
def gL(a:Int)(b:Nat)(c:Nat)(d:Nat)(e:Nat)(f:Nat)(g:List Bool)(h:List (List Int))(i:List Int) :T ((Unit)⊕((Nat×Nat×Nat×Nat×(List Bool)×(List (List Int))×(List Int))⊕(aM))) :=
  .ask (decide (((e:Nat):Int) < a))
    (.leaf (.inl ()))
    (.leaf (.inr (.inl (b,c,d,f,g,h,i))))
def cx(a:Int)(e:Int)(f:Lv)(g:Lv)(b:Nat)(h:List Bool)(i:List (List Int))(j:List Int)(k:Lv)(l:Int)(m:Int)(n:Lv)(c:List Nat)(o:Lv)(p:Bool)(q:Lv)(d:List Int)(r:Int)(s:Bool)(t:Nat) :Nat×Nat×Nat×Nat×(List Bool)×(List (List Int))×(List Int)→aL:=fun (u,v,w,x,y,z,A)=>⟨ah 46 [(1,.fn (.func cZ) [] [.iptr f (.vs [.imm g (.cols b [.cb h,.cns .u64 i,.ci .i64 j]) 3 3 0 b]) 1 0 0,.iptr k (.vs [.int .i64 l,.int .i64 m,.imm n (.fl c) 1 1 0 (List.length c)]) 1 0 0,.iptr o (.vs [.bool false p,.imm q (.ns .u64 d) 1 1 0 (List.length d),.int .i64 r]) 1 0 0]),(2,.ptr 0 1 0 0),(4,.ptr 1 1 0 0),(6,.sl 2 3 3 0 u v),(7,.int .i64 ((w:Nat):Int)),(13,.int .i64 a),(14,.int .i64 ((t:Nat):Int))],[(0,.vs [.int .i64 a,.int .i64 e]),(1,.vs [.bool false s,.nsl,.int .i64 (0:Int)]),(2,.cols x [.cb y,.cns .u64 z,.ci .i64 A])],3⟩
def fa:List Code:=bJ (inBlock ((((dR.drop 2).take 1)).headD .skip))
def qw(a:Int)(b:Int)(g:Lv)(h:Lv)(c:Nat)(i:List Bool)(j:List (List Int))(k:List Int)(l:Lv)(m:Int)(n:Int)(o:Lv)(d:List Nat)(p:Lv)(q:Bool)(r:Lv)(e:List Int)(s:Int)(t:Bool)(u:Nat)(v:Nat)(w:Nat)(f:Nat)(x:Nat)(y:List Bool)(z:List (List Int))(A:List Int)(_:Unit) :aL:=⟨ah 46 [(1,.fn (.func cZ) [] [.iptr g (.vs [.imm h (.cols c [.cb i,.cns .u64 j,.ci .i64 k]) 3 3 0 c]) 1 0 0,.iptr l (.vs [.int .i64 m,.int .i64 n,.imm o (.fl d) 1 1 0 (List.length d)]) 1 0 0,.iptr p (.vs [.bool false q,.imm r (.ns .u64 e) 1 1 0 (List.length e),.int .i64 s]) 1 0 0]),(2,.ptr 0 1 0 0),(4,.ptr 1 1 0 0),(6,.sl 2 3 3 0 u v),(7,.int .i64 ((w:Nat):Int)),(8,.int .i64 ((f:Nat):Int)),(13,.int .i64 a),(14,.int .i64 ((f:Nat):Int)),(18,.int .i64 b),(19,.int .i64 (0:Int))],[(0,.vs [.int .i64 a,.int .i64 b]),(1,.vs [.bool false t,.nsl,.int .i64 (0:Int)]),(2,.cols x [.cb y,.cns .u64 z,.ci .i64 A])],3⟩
def qx:T ((Unit)⊕((Nat×Nat×Nat×Nat×(List Bool)×(List (List Int))×(List Int))⊕((Nat×Nat×Nat×Nat×(List Bool)×(List (List Int))×(List Int))⊕(aM)))) :=
  .leaf (.inl ())
def dS(a:Int)(b:Int)(g:Lv)(h:Lv)(c:Nat)(i:List Bool)(j:List (List Int))(k:List Int)(l:Lv)(m:Int)(n:Int)(o:Lv)(d:List Nat)(p:Lv)(q:Bool)(r:Lv)(e:List Int)(s:Int)(t:Bool)(f:Nat) :Nat×Nat×Nat×Nat×Nat×(List Bool)×(List (List Int))×(List Int)→aL:=fun (u,v,w,x,y,z,A,B)=>⟨ah 46 [(1,.fn (.func cZ) [] [.iptr g (.vs [.imm h (.cols c [.cb i,.cns .u64 j,.ci .i64 k]) 3 3 0 c]) 1 0 0,.iptr l (.vs [.int .i64 m,.int .i64 n,.imm o (.fl d) 1 1 0 (List.length d)]) 1 0 0,.iptr p (.vs [.bool false q,.imm r (.ns .u64 e) 1 1 0 (List.length e),.int .i64 s]) 1 0 0]),(2,.ptr 0 1 0 0),(4,.ptr 1 1 0 0),(6,.sl 2 3 3 0 u v),(7,.int .i64 ((w:Nat):Int)),(8,.int .i64 ((f:Nat):Int)),(13,.int .i64 a),(14,.int .i64 ((f:Nat):Int)),(18,.int .i64 b),(19,.int .i64 ((x:Nat):Int))],[(0,.vs [.int .i64 a,.int .i64 b]),(1,.vs [.bool false t,.nsl,.int .i64 (0:Int)]),(2,.cols y [.cb z,.cns .u64 A,.ci .i64 B])],3⟩
def fb(a:Int)(e:Int)(f:Lv)(g:Lv)(b:Nat)(h:List Bool)(i:List (List Int))(j:List Int)(k:Lv)(l:Int)(m:Int)(n:Lv)(c:List Nat)(o:Lv)(p:Bool)(q:Lv)(d:List Int)(r:Int)(s:Bool)(t:Nat) :Nat×Nat×Nat×Nat×(List Bool)×(List (List Int))×(List Int)→aL:=fun (u,v,w,x,y,z,A)=>⟨ah 46 [(1,.fn (.func cZ) [] [.iptr f (.vs [.imm g (.cols b [.cb h,.cns .u64 i,.ci .i64 j]) 3 3 0 b]) 1 0 0,.iptr k (.vs [.int .i64 l,.int .i64 m,.imm n (.fl c) 1 1 0 (List.length c)]) 1 0 0,.iptr o (.vs [.bool false p,.imm q (.ns .u64 d) 1 1 0 (List.length d),.int .i64 r]) 1 0 0]),(2,.ptr 0 1 0 0),(4,.ptr 1 1 0 0),(6,.sl 2 3 3 0 u v),(7,.int .i64 ((w:Nat):Int)),(13,.int .i64 a),(14,.int .i64 ((t:Nat):Int))],[(0,.vs [.int .i64 a,.int .i64 e]),(1,.vs [.bool false s,.nsl,.int .i64 (0:Int)]),(2,.cols x [.cb y,.cns .u64 z,.ci .i64 A])],3⟩
def kK:List Code:=bJ (bK ((((fa.drop 2).take 1)).headD .skip))
def qy(b:Int)(c:Int)(h:Lv)(i:Lv)(d:Nat)(j:List Bool)(k:List (List Int))(l:List Int)(m:Lv)(n:Int)(o:Int)(p:Lv)(e:List Nat)(q:Lv)(r:Bool)(s:Lv)(f:List Int)(t:Int)(u:Bool)(g:Nat)(v:Nat) :Nat×Nat×(List Bool)×(List (List Int))×(List Int)→aL:=fun (a,w,x,y,z)=>⟨ah 46 [(1,.fn (.func cZ) [] [.iptr h (.vs [.imm i (.cols d [.cb j,.cns .u64 k,.ci .i64 l]) 3 3 0 d]) 1 0 0,.iptr m (.vs [.int .i64 n,.int .i64 o,.imm p (.fl e) 1 1 0 (List.length e)]) 1 0 0,.iptr q (.vs [.bool false r,.imm s (.ns .u64 f) 1 1 0 (List.length f),.int .i64 t]) 1 0 0]),(2,.ptr 0 1 0 0),(4,.ptr 1 1 0 0),(6,.sl 2 3 3 0 a a),(7,.int .i64 ((w:Nat):Int)),(8,.int .i64 ((g:Nat):Int)),(13,.int .i64 b),(14,.int .i64 ((g:Nat):Int)),(18,.int .i64 c),(19,.int .i64 ((v:Nat):Int))],[(0,.vs [.int .i64 b,.int .i64 c]),(1,.vs [.bool false u,.nsl,.int .i64 (0:Int)]),(2,.cols a [.cb x,.cns .u64 y,.ci .i64 z])],3⟩
def fc(s:Int)(a:Nat)(d:List Bool)(e:List (List Int))(f:List Int)(g:Int)(h:Int)(q:List Nat)(i:Bool)(b:List Int)(j:Int)(k:Nat)(l:Nat)(r:Nat)(t:Nat)(c:Nat)(m:Nat)(n:List Bool)(o:List (List Int))(p:List Int) :T ((Nat×Nat×(List Bool)×(List (List Int))×(List Int))⊕((Nat×Nat×Nat×Nat×(List Bool)×(List (List Int))×(List Int))⊕((Nat×Nat×Nat×Nat×(List Bool)×(List (List Int))×(List Int))⊕((Nat×Nat×Nat×Nat×(List Bool)×(List (List Int))×(List Int))⊕(aM))))) :=
  .ask (decide (((c:Nat):Int) < s))
    (.need (Nat.ble (0+a) a)<|.need (aQ 0 (List.length q) q)<|.need (aQ 0 (List.length b) b)<|.need (uT (cO ((k:Nat):Int) ((c:Nat):Int) a (aa 0 a d) (aa 0 a e) (aa 0 a f) g h i (aa 0 (List.length b) b) j))<|.ask ((((n7 (cO ((k:Nat):Int) ((c:Nat):Int) a (aa 0 a d) (aa 0 a e) (aa 0 a f) g h i (aa 0 (List.length b) b) j)):Nat):Int) != (0:Int))
      (.leaf (.inr (.inr (.inr (.inl (l,r,(n7 (cO ((k:Nat):Int) ((c:Nat):Int) a (aa 0 a d) (aa 0 a e) (aa 0 a f) g h i (aa 0 (List.length b) b) j)),m,n,o,p))))))
      (.need (tZ ((l+1) * 40) 140737488355328)<|.need (tZ (l+1) 9223372036854775807)<|.need (tZ 3 3)<|.need (tZ l m)<|.need (decide ((ra (cO ((k:Nat):Int) ((c:Nat):Int) a (aa 0 a d) (aa 0 a e) (aa 0 a f) g h i (aa 0 (List.length b) b) j))+(rb (cO ((k:Nat):Int) ((c:Nat):Int) a (aa 0 a d) (aa 0 a e) (aa 0 a f) g h i (aa 0 (List.length b) b) j))≤List.length (q9 (cO ((k:Nat):Int) ((c:Nat):Int) a (aa 0 a d) (aa 0 a e) (aa 0 a f) g h i (aa 0 (List.length b) b) j))))<|.leaf (.inl ((l+1),(n7 (cO ((k:Nat):Int) ((c:Nat):Int) a (aa 0 a d) (aa 0 a e) (aa 0 a f) g h i (aa 0 (List.length b) b) j)),((List.take l n) ++ [(vY (cO ((k:Nat):Int) ((c:Nat):Int) a (aa 0 a d) (aa 0 a e) (aa 0 a f) g h i (aa 0 (List.length b) b) j))]),((List.take l o) ++ [(List.take (rb (cO ((k:Nat):Int) ((c:Nat):Int) a (aa 0 a d) (aa 0 a e) (aa 0 a f) g h i (aa 0 (List.length b) b) j)) (List.drop (ra (cO ((k:Nat):Int) ((c:Nat):Int) a (aa 0 a d) (aa 0 a e) (aa 0 a f) g h i (aa 0 (List.length b) b) j)) (q9 (cO ((k:Nat):Int) ((c:Nat):Int) a (aa 0 a d) (aa 0 a e) (aa 0 a f) g h i (aa 0 (List.length b) b) j))))]),((List.take l p) ++ [(vZ (cO ((k:Nat):Int) ((c:Nat):Int) a (aa 0 a d) (aa 0 a e) (aa 0 a f) g h i (aa 0 (List.length b) b) j))])))))
    (.leaf (.inr (.inl (l,r,t,m,n,o,p))))
def qz(b:Nat)(a:Nat)(c:Nat)(d:List Bool)(e:List (List Int))(f:List Int) :T ((Nat×Nat×Nat×Nat×Nat×(List Bool)×(List (List Int))×(List Int))⊕((Nat×Nat×Nat×Nat×(List Bool)×(List (List Int))×(List Int))⊕((Nat×Nat×Nat×Nat×(List Bool)×(List (List Int))×(List Int))⊕((Nat×Nat×Nat×Nat×(List Bool)×(List (List Int))×(List Int))⊕(aM))))) :=
  .need (d8 .i64 (((b+1):Nat):Int))<|.leaf (.inl (a,a,c,(b+1),a,d,e,f))
def kL(b:Int)(c:Nat)(d:List Bool)(e:List (List Int))(f:List Int)(g:Int)(h:Int)(i:List Nat)(j:Bool)(k:List Int)(l:Int)(m:Nat) :Nat×Nat×Nat×Nat×Nat×(List Bool)×(List (List Int))×(List Int)→Option ((Nat×Nat×Nat×Nat×Nat×(List Bool)×(List (List Int))×(List Int))⊕((Nat×Nat×Nat×Nat×(List Bool)×(List (List Int))×(List Int))⊕((Nat×Nat×Nat×Nat×(List Bool)×(List (List Int))×(List Int))⊕((Nat×Nat×Nat×Nat×(List Bool)×(List (List Int))×(List Int))⊕(aM))))):=fun (n,o,p,a,q,r,s,t) =>
  aC ((fc b c d e f g h i j k l m n o p a q r s t).run) fun (u,v,w,x,y) =>
  (qz a u v w x y).run
theorem A8(o:Int)(c:Int)(p:Lv)(q:Lv)(d:Nat)(e:List Bool)(f:List (List Int))(g:List Int)(r:Lv)(h:Int)(i:Int)(s:Lv)(j:List Nat)(t:Lv)(k:Bool)(u:Lv)(l:List Int)(m:Int)(b:Bool)(n:Nat)(w:Nat)(x:Nat)(y:Nat)(v:Nat)(z:Nat)(A:List Bool)(B:List (List Int))(D:List Int) :Sg prog [] kK (dS o c p q d e f g r h i s j t k u l m b n (w,x,y,v,z,A,B,D)) (kL c d e f g h i j k l m n (w,x,y,v,z,A,B,D)) (dS o c p q d e f g r h i s j t k u l m b n) (aN 2 (fb o c p q d e f g r h i s j t k u l m b n) (aN 1 (cx o c p q d e f g r h i s j t k u l m b n) (aN 0 (ca b) bv))):=by
  unfold kL;exact Sg.cut 3 (aI (aI (aI bE))) (Sg.seg (C:=C0) an fF 60 (kK.take 3) (dS o c p q d e f g r h i s j t k u l m b n (w,x,y,v,z,A,B,D)) (fc c d e f g h i j k l m n w x y v z A B D) (qy o c p q d e f g r h i s j t k u l m b n v) (aN 2 (fb o c p q d e f g r h i s j t k u l m b n) (aN 1 (cx o c p q d e f g r h i s j t k u l m b n) (aN 0 (ca b) bv))) [⟨[],[1,2],[4,6,7]⟩,⟨[],[0,1,323],[1,2,4,6,7,8,13,14,18,19]⟩,⟨[],[0,1,2],[1,2,4,6,7,13,14]⟩] (by kernel_rfl)) (fun a=>by obtain ⟨E,F,G,H,I⟩:=a;exact Sg.seg (C:=C0) an fF 60 (kK.drop 3) (qy o c p q d e f g r h i s j t k u l m b n v (E,F,G,H,I)) (qz v E F G H I) (dS o c p q d e f g r h i s j t k u l m b n) (aN 2 (fb o c p q d e f g r h i s j t k u l m b n) (aN 1 (cx o c p q d e f g r h i s j t k u l m b n) (aN 0 (ca b) bv))) [⟨[],[0,1,2],[1,2,4,6,7,8,13,14,18,19]⟩] (by kernel_rfl))
def A9(a:Int)(b:Int)(c:Lv)(d:Lv)(e:Nat)(f:List Bool)(g:List (List Int))(h:List Int)(i:Lv)(j:Int)(k:Int)(l:Lv)(m:List Nat)(n:Lv)(o:Bool)(p:Lv)(q:List Int)(r:Int)(s:Bool)(t:Nat) :Nat×Nat×Nat×Nat×(List Bool)×(List (List Int))×(List Int)→aL:=fb a b c d e f g h i j k l m n o p q r s t
def qA(a:Nat)(b:Nat)(c:Nat)(d:Nat)(e:List Bool)(f:List (List Int))(g:List Int) :T ((Nat×Nat×Nat×Nat×(List Bool)×(List (List Int))×(List Int))⊕((Nat×Nat×Nat×Nat×(List Bool)×(List (List Int))×(List Int))⊕((Nat×Nat×Nat×Nat×(List Bool)×(List (List Int))×(List Int))⊕(aM)))) :=
  .leaf (.inl (a,b,c,d,e,f,g))
def Ba(a:Int)(b:Int)(c:Lv)(d:Lv)(e:Nat)(f:List Bool)(g:List (List Int))(h:List Int)(i:Lv)(j:Int)(k:Int)(l:Lv)(m:List Nat)(n:Lv)(o:Bool)(p:Lv)(q:List Int)(r:Int)(s:Bool)(t:Nat) :Nat×Nat×Nat×Nat×(List Bool)×(List (List Int))×(List Int)→aL:=cx a b c d e f g h i j k l m n o p q r s t
def qB(a:Nat)(b:Nat)(c:Nat)(d:Nat)(e:Nat)(f:List Bool)(g:List (List Int))(h:List Int) :T ((Nat×Nat×Nat×Nat×Nat×(List Bool)×(List (List Int))×(List Int))⊕((Nat×Nat×Nat×Nat×(List Bool)×(List (List Int))×(List Int))⊕(aM))) :=
  .need (d8 .i64 (((a+1):Nat):Int))<|.leaf (.inl (b,c,d,(a+1),e,f,g,h))
def kM(i:Int)(j:Int)(k:Nat)(l:List Bool)(m:List (List Int))(n:List Int)(o:Int)(p:Int)(q:List Nat)(r:Bool)(s:List Int)(t:Int) :Nat×Nat×Nat×Nat×Nat×(List Bool)×(List (List Int))×(List Int)→Option ((Nat×Nat×Nat×Nat×Nat×(List Bool)×(List (List Int))×(List Int))⊕((Nat×Nat×Nat×Nat×(List Bool)×(List (List Int))×(List Int))⊕(aM))):=fun (b,c,d,a,e,f,g,h) =>
  aC ((gL i b c d a e f g h).run) fun _ =>
  aC (NN (aC ((qx).run) fun _ =>
  aC (dM (kL j k l m n o p q r s t a) (b,c,d,0,e,f,g,h)) fun (u,v,w,x,y,z,A) =>
  (qA u v w x y z A).run)) fun (B,C,D,E,F,G,H) =>
  (qB a B C D E F G H).run
theorem Bb(c:Int)(d:Int)(p:Lv)(q:Lv)(e:Nat)(f:List Bool)(g:List (List Int))(h:List Int)(r:Lv)(i:Int)(j:Int)(t:Lv)(k:List Nat)(u:Lv)(l:Bool)(v:Lv)(m:List Int)(n:Int)(b:Bool)(w:Nat)(x:Nat)(y:Nat)(o:Nat)(z:Nat)(A:List Bool)(B:List (List Int))(D:List Int) :Sg prog [] dR (dQ c d p q e f g h r i j t k u l v m n b (w,x,y,o,z,A,B,D)) (kM c d e f g h i j k l m n (w,x,y,o,z,A,B,D)) (dQ c d p q e f g h r i j t k u l v m n b) (aN 0 (ca b) bv):=by
  unfold kM;exact Sg.cut 2 (aI bE) (Sg.seg (C:=C0) an fF 60 (dR.take 2) (dQ c d p q e f g h r i j t k u l v m n b (w,x,y,o,z,A,B,D)) (gL c w x y o z A B D) (qv c d p q e f g h r i j t k u l v m n b w x y o z A B D) (aN 0 (ca b) bv) [⟨[],[0,1,2],[1,2,4,6,7,13,14]⟩,⟨[],[1,2],[4,6,7]⟩] (by kernel_rfl)) (fun a=>by cases a;exact Sg.cut 1 (aI bE) (yp (id:=1) (K:=(cx c d p q e f g h r i j t k u l v m n b o)) (by kernel_rfl:((dR.drop 2).take 1) = [.block 1 (inBlock ((((dR.drop 2).take 1)).headD .skip))]) (aI bE) (eK (by decide) (k9 _)) (Sg.cut 2 (aI (aI bE)) (Sg.seg (C:=C0) an fF 60 (fa.take 2) (qv c d p q e f g h r i j t k u l v m n b w x y o z A B D ()) (qx) (qw c d p q e f g h r i j t k u l v m n b w x y o z A B D) (aN 1 (cx c d p q e f g h r i j t k u l v m n b o) (aN 0 (ca b) bv)) [⟨[],[0,1,2],[1,2,4,6,7,8,13,14,18,19]⟩] (by kernel_rfl)) (fun a=>by cases a;exact Sg.cut 1 (aI (aI bE)) (Sg.pre ⟨[],[0,1,2],[1,2,4,6,7,8,13,14,18,19]⟩ rfl (by kernel_rfl:NS.on ⟨[],[0,1,2],[1,2,4,6,7,8,13,14,18,19]⟩ (qw c d p q e f g h r i j t k u l v m n b w x y o z A B D ())=(dS c d p q e f g h r i j t k u l v m n b o) (w,x,y,0,z,A,B,D)) (bU (I:=(dS c d p q e f g h r i j t k u l v m n b o)) (J:=(fb c d p q e f g h r i j t k u l v m n b o)) (id:=2) (by kernel_rfl:((fa.drop 2).take 1) = [.block 2 (.loop (bK ((((fa.drop 2).take 1)).headD .skip)))]) (aI (aI bE)) (eK (by decide) (eK (by decide) (k9 _))) (fun s=>by obtain ⟨V,W,X,Y,Z,a0,a1,a2⟩:=s;exact A8 c d p q e f g h r i j t k u l v m n b o V W X Y Z a0 a1 a2) (w,x,y,0,z,A,B,D))) (fun a=>by obtain ⟨E,F,G,H,L,M,N⟩:=a;exact Sg.seg (C:=C0) an fF 60 ((fa.drop 2).drop 1) (A9 c d p q e f g h r i j t k u l v m n b o (E,F,G,H,L,M,N)) (qA E F G H L M N) (cx c d p q e f g h r i j t k u l v m n b o) (aN 1 (cx c d p q e f g h r i j t k u l v m n b o) (aN 0 (ca b) bv)) [⟨[],[0,1,2],[1,2,4,6,7,13,14]⟩] (by kernel_rfl))))) (fun a=>by obtain ⟨O,P,Q,R,S,T,U⟩:=a;exact Sg.seg (C:=C0) an fF 60 ((dR.drop 2).drop 1) (Ba c d p q e f g h r i j t k u l v m n b o (O,P,Q,R,S,T,U)) (qB o O P Q R S T U) (dQ c d p q e f g h r i j t k u l v m n b) (aN 0 (ca b) bv) [⟨[],[0,1,2],[1,2,4,6,7,13,14]⟩] (by kernel_rfl)))
def Bc(a:Bool) :Nat×Nat×Nat×Nat×(List Bool)×(List (List Int))×(List Int)→aL:=ca a
def qC:Nat×Bool×(List Int)×Nat×Nat×Int→aL:=fun (a,b,c,d,e,f)=>⟨ah 46 [(4,.ptr 0 1 0 0),(5,.int .i64 ((a:Nat):Int))],[(0,.vs [.bool false b,.imm .free (.ns .u64 c) 1 1 d e,.int .i64 f])],1⟩
def gM(a:Nat)(e:Nat)(f:Nat)(b:List Bool)(c:List (List Int))(d:List Int) :T ((Nat×Bool×(List Int)×Nat×Nat×Int)⊕(aM)) :=
  .ask (((e:Nat):Int) != (0:Int))
    (.leaf (.inr (.r0 e false ([]:List Int) 0 0 (0:Int))))
    (.need (Nat.ble (0+a) f)<|.need (oS (bG a (aa 0 a b) (aa 0 a c) (aa 0 a d)))<|.leaf (.inl ((p6 (bG a (aa 0 a b) (aa 0 a c) (aa 0 a d))),(p7 (bG a (aa 0 a b) (aa 0 a c) (aa 0 a d))),(p8 (bG a (aa 0 a b) (aa 0 a c) (aa 0 a d))),(p9 (bG a (aa 0 a b) (aa 0 a c) (aa 0 a d))),(qa (bG a (aa 0 a b) (aa 0 a c) (aa 0 a d))),(qb (bG a (aa 0 a b) (aa 0 a c) (aa 0 a d))))))
def qD(a:Nat)(b:Bool)(c:List Int)(d:Nat)(e:Nat)(f:Int) :T ((Empty)⊕(aM)) :=
  .leaf (.inr (.r0 a b c d e f))
def be(a:Int)(b:Int)(c:Nat)(d:List Bool)(e:List (List Int))(f:List Int)(g:Int)(h:Int)(i:List Nat)(j:Bool)(k:List Int)(l:Int) :Option aM:=ld (aC ((qt).run) fun y =>
  aC ((qu).run) fun _ =>
  aC (dM (kM a b c d e f g h i j k l) (0,0,0,0,0,([]:List Bool),([]:List (List Int)),([]:List Int))) fun (m,z,n,o,p,q,r) =>
  aC ((gM m n o p q r).run) fun (s,t,u,v,w,x) =>
  (qD s t u v w x).run)
theorem BQ(e:Int)(f:Int)(o:Lv)(p:Lv)(b:Nat)(g:List Bool)(i:List (List Int))(j:List Int)(q:Lv)(k:Int)(l:Int)(r:Lv)(c:List Nat)(t:Lv)(m:Bool)(u:Lv)(d:List Int)(n:Int){x:aM}(h:be e f b g i j k l c m d n=some x) :aw prog dA [] [.agg [.int .i64 e,.int .i64 f],.fn (.func cZ) [] [.iptr o (.vs [.imm p (.cols b [.cb g,.cns .u64 i,.ci .i64 j]) 3 3 0 b]) 1 0 0,.iptr q (.vs [.int .i64 k,.int .i64 l,.imm r (.fl c) 1 1 0 (List.length c)]) 1 0 0,.iptr t (.vs [.bool false m,.imm u (.ns .u64 d) 1 1 0 (List.length d),.int .i64 n]) 1 0 0]] (lZ x) :=
  Sg.contract true lZ (by kernel_rfl:prog.funcs[dA]? = some (FN dA)) (by kernel_rfl:(FN dA).body=some (bi dA)) (Sg.cut 1 bE (Sg.seg (C:=C0) an fF 60 (gK.take 1) (aT (FN dA) [] [.agg [.int .i64 e,.int .i64 f],.fn (.func cZ) [] [.iptr o (.vs [.imm p (.cols b [.cb g,.cns .u64 i,.ci .i64 j]) 3 3 0 b]) 1 0 0,.iptr q (.vs [.int .i64 k,.int .i64 l,.imm r (.fl c) 1 1 0 (List.length c)]) 1 0 0,.iptr t (.vs [.bool false m,.imm u (.ns .u64 d) 1 1 0 (List.length d),.int .i64 n]) 1 0 0]]) (qt) (rc e f o p b g i j q k l r c t m u d n) bv [⟨[],[0,16],[1,2,4]⟩] (by kernel_rfl)) (fun v=>by exact UC (by kernel_rfl:(gK.drop 1) = [.scope (Q3 (((gK.drop 1)).headD .skip))]) bE (Sg.cut 3 bE (Sg.seg (C:=C0) an fF 60 (dP.take 3) (rc e f o p b g i j q k l r c t m u d n v) (qu) (re e f o p b g i j q k l r c t m u d n v) bv [⟨[],[0,1],[1,2,4,6,7,13,14]⟩] (by kernel_rfl)) (fun a=>by cases a;exact Sg.cut 1 bE (Sg.pre ⟨[(.slot 6,.own 3 3 (.cols 0 [.cb ([]:List Bool),.cns .u64 ([]:List (List Int)),.ci .i64 ([]:List Int)]))],[0,1,2],[1,2,4,6,7,13,14]⟩ rfl (by kernel_rfl:NS.on ⟨[(.slot 6,.own 3 3 (.cols 0 [.cb ([]:List Bool),.cns .u64 ([]:List (List Int)),.ci .i64 ([]:List Int)]))],[0,1,2],[1,2,4,6,7,13,14]⟩ (re e f o p b g i j q k l r c t m u d n v ())=(dQ e f o p b g i j q k l r c t m u d n v) (0,0,0,0,0,([]:List Bool),([]:List (List Int)),([]:List Int))) (bU (I:=(dQ e f o p b g i j q k l r c t m u d n v)) (J:=(ca v)) (id:=0) (by kernel_rfl:((dP.drop 3).take 1) = [.block 0 (.loop (bK ((((dP.drop 3).take 1)).headD .skip)))]) bE (k9 _) (fun s=>by obtain ⟨M,N,O,P,Q,R,S,T⟩:=s;exact Bb e f o p b g i j q k l r c t m u d n v M N O P Q R S T) (0,0,0,0,0,([]:List Bool),([]:List (List Int)),([]:List Int)))) (fun a=>by obtain ⟨w,U,y,z,A,B,D⟩:=a;exact Sg.cut 3 bE (Sg.seg (C:=C0) an fF 60 (((dP.drop 3).drop 1).take 3) (Bc v (w,U,y,z,A,B,D)) (gM w y z A B D) qC bv [⟨[(.cell 0 1,.fre 1 1 (.ns .u64 ([]:List Int)))],[0],[4,5]⟩,⟨[],[0],[4,5]⟩] (by kernel_rfl)) (fun a=>by obtain ⟨E,F,G,H,K,L⟩:=a;exact Sg.seg (C:=C0) an fF 60 (((dP.drop 3).drop 1).drop 3) (qC (E,F,G,H,K,L)) (qD E F G H K L) (fun a:Empty=>a.elim) bv [⟨[],[0],[4,5]⟩] (by kernel_rfl)))))))
    (fun x=>by cases x with | r0 V W X Y Z a0=>exact ⟨.inr rfl,[.agg [.bool false W,.imm .free (.ns .u64 X) 1 1 Y Z,.int .i64 a0],.int .i64 ((V:Nat):Int)],[],by kernel_rfl,trivial,by kernel_rfl⟩) h
def ir:Option aM→Bool
  | some _=>true
  | none=>false
def ka:Option aM→Nat
  | some (.r0 x _ _ _ _ _)=>x
  | _=>0
def kd:Option aM→Bool
  | some (.r0 _ x _ _ _ _)=>x
  | _=>false
def ke:Option aM→List Int
  | some (.r0 _ _ x _ _ _)=>x
  | _=>[]
def kf:Option aM→Nat
  | some (.r0 _ _ _ x _ _)=>x
  | _=>0
def kg:Option aM→Nat
  | some (.r0 _ _ _ _ x _)=>x
  | _=>0
def kh:Option aM→Int
  | some (.r0 _ _ _ _ _ x)=>x
  | _=>0
theorem BS{x:Option aM}(h:ir x=true) :x=some (.r0 (ka x) (kd x) (ke x) (kf x) (kg x) (kh x)):=by
  unfold ir at h
  split at h <;> first | rfl | (cases h;done) | (rename_i y;cases y;rfl)
def rJ:aJ:=bW dA (.cons (.agg (.cons (.int .i64) (.cons (.int .i64) .nil))) (.cons (.fn cZ .nil (.cons (.ivs (.cons (.cols [.cb,.cns .u64,.ci .i64]) .nil) 1 0 0) (.cons (.ivs (.cons (.int .i64) (.cons (.int .i64) (.cons .fl .nil))) 1 0 0) (.cons (.ivs (.cons .bool (.cons (.ns .u64) (.cons (.int .i64) .nil))) 1 0 0) .nil)))) .nil)) fun t=>[⟨lZ (.r0 (ka (be t.1.1 t.1.2.1 t.2.1.2.1.2.1.2.1 t.2.1.2.1.2.1.2.2.1 t.2.1.2.1.2.1.2.2.2.1 t.2.1.2.1.2.1.2.2.2.2.1 t.2.1.2.2.1.2.1 t.2.1.2.2.1.2.2.1 t.2.1.2.2.1.2.2.2.1.2 t.2.1.2.2.2.1.2.1 t.2.1.2.2.2.1.2.2.1.2 t.2.1.2.2.2.1.2.2.2.1)) (kd (be t.1.1 t.1.2.1 t.2.1.2.1.2.1.2.1 t.2.1.2.1.2.1.2.2.1 t.2.1.2.1.2.1.2.2.2.1 t.2.1.2.1.2.1.2.2.2.2.1 t.2.1.2.2.1.2.1 t.2.1.2.2.1.2.2.1 t.2.1.2.2.1.2.2.2.1.2 t.2.1.2.2.2.1.2.1 t.2.1.2.2.2.1.2.2.1.2 t.2.1.2.2.2.1.2.2.2.1)) (ke (be t.1.1 t.1.2.1 t.2.1.2.1.2.1.2.1 t.2.1.2.1.2.1.2.2.1 t.2.1.2.1.2.1.2.2.2.1 t.2.1.2.1.2.1.2.2.2.2.1 t.2.1.2.2.1.2.1 t.2.1.2.2.1.2.2.1 t.2.1.2.2.1.2.2.2.1.2 t.2.1.2.2.2.1.2.1 t.2.1.2.2.2.1.2.2.1.2 t.2.1.2.2.2.1.2.2.2.1)) (kf (be t.1.1 t.1.2.1 t.2.1.2.1.2.1.2.1 t.2.1.2.1.2.1.2.2.1 t.2.1.2.1.2.1.2.2.2.1 t.2.1.2.1.2.1.2.2.2.2.1 t.2.1.2.2.1.2.1 t.2.1.2.2.1.2.2.1 t.2.1.2.2.1.2.2.2.1.2 t.2.1.2.2.2.1.2.1 t.2.1.2.2.2.1.2.2.1.2 t.2.1.2.2.2.1.2.2.2.1)) (kg (be t.1.1 t.1.2.1 t.2.1.2.1.2.1.2.1 t.2.1.2.1.2.1.2.2.1 t.2.1.2.1.2.1.2.2.2.1 t.2.1.2.1.2.1.2.2.2.2.1 t.2.1.2.2.1.2.1 t.2.1.2.2.1.2.2.1 t.2.1.2.2.1.2.2.2.1.2 t.2.1.2.2.2.1.2.1 t.2.1.2.2.2.1.2.2.1.2 t.2.1.2.2.2.1.2.2.2.1)) (kh (be t.1.1 t.1.2.1 t.2.1.2.1.2.1.2.1 t.2.1.2.1.2.1.2.2.1 t.2.1.2.1.2.1.2.2.2.1 t.2.1.2.1.2.1.2.2.2.2.1 t.2.1.2.2.1.2.1 t.2.1.2.2.1.2.2.1 t.2.1.2.2.1.2.2.2.1.2 t.2.1.2.2.2.1.2.1 t.2.1.2.2.2.1.2.2.1.2 t.2.1.2.2.2.1.2.2.2.1))),[ir (be t.1.1 t.1.2.1 t.2.1.2.1.2.1.2.1 t.2.1.2.1.2.1.2.2.1 t.2.1.2.1.2.1.2.2.2.1 t.2.1.2.1.2.1.2.2.2.2.1 t.2.1.2.2.1.2.1 t.2.1.2.2.1.2.2.1 t.2.1.2.2.1.2.2.2.1.2 t.2.1.2.2.2.1.2.1 t.2.1.2.2.2.1.2.2.1.2 t.2.1.2.2.2.1.2.2.2.1)]⟩]
theorem Au:aU prog rJ:=aO fun t=>(aP (fun h=>BQ t.1.1 t.1.2.1 t.2.1.2.1.1 t.2.1.2.1.2.1.1 t.2.1.2.1.2.1.2.1 t.2.1.2.1.2.1.2.2.1 t.2.1.2.1.2.1.2.2.2.1 t.2.1.2.1.2.1.2.2.2.2.1 t.2.1.2.2.1.1 t.2.1.2.2.1.2.1 t.2.1.2.2.1.2.2.1 t.2.1.2.2.1.2.2.2.1.1 t.2.1.2.2.1.2.2.2.1.2 t.2.1.2.2.2.1.1 t.2.1.2.2.2.1.2.1 t.2.1.2.2.2.1.2.2.1.1 t.2.1.2.2.2.1.2.2.1.2 t.2.1.2.2.2.1.2.2.2.1 (BS h)) aW)
def rK:List aJ:=rJ :: Tj
theorem dH:aY prog (bb rK):=au Au fF
inductive fP where
  | r0 (a:Nat) (b:Bool) (c:List Int) (d:Nat) (e:Nat) (f:Int)
def zb:fP→AE×aL
  | .r0 a b c d e f=>(.ret,⟨ah 32 [(2,.ptr 0 1 0 0),(3,.int .i64 ((a:Nat):Int))],[(0,.vs [.bool false b,.imm .free (.ns .u64 c) 1 1 d e,.int .i64 f])],1⟩)
theorem FH:kR zb:=by intro x;cases x <;> (intro h;cases h)
def PF:fP→jc
  | .r0 a b c d e f=>⟨.tup [.agg [.bool false b,.imm .free (.ns .u64 c) 1 1 d e,.int .i64 f],.int .i64 ((a:Nat):Int)],[]⟩
def Av:List Code:=bJ (bi pb)
def Ya(b:Int)(c:Int)(d:Lv)(a:List Nat)(e:Bool) :aL:=⟨ah 32 [(1,.ptr 0 1 0 0),(2,.ptr 1 1 0 0)],[(0,.vs [.int .i64 b,.int .i64 c,.imm d (.fl a) 1 1 0 (List.length a)]),(1,.vs [.bool false e,.nsl,.int .i64 (0:Int)])],2⟩
def Aw(b : Int)(c : Int)(a : List Nat) : T ((Bool) ⊕ (fP)) :=
  .ask (decide ((0:Int) < (1:Int)))
    (.need (iS (0:Int) 1)<|.need (aQ 0 (List.length a) a)<|.need (i5 (dG b c (aa 0 (List.length a) a)))<|.ask (ib (dG b c (aa 0 (List.length a) a)))
      (.ask (!(!(decide ((0:Int) ≥ (0:Int)))))
        (.leaf (.inr (.r0 2 false ([]:List Int) 0 0 (0:Int))))
        (.fail))
      (.need (d8 .i64 (1:Int))<|.ask (decide ((1:Int) < (1:Int)))
        (.fail)
        (.ask (!(!(decide ((-1:Int) ≥ (0:Int)))))
          (.fail)
          (.ask (decide ((0:Int) < (1:Int)))
            (.need (iS (0:Int) 1)<|.need (aQ 0 (List.length a) a)<|.need (ba (az (aa 0 (List.length a) a)))<|.ask (decide ((bc (az (aa 0 (List.length a) a))) ≥ (0:Int)))
              (.leaf (.inr (.r0 10 false ([]:List Int) 0 0 (0:Int))))
              (.need (d8 .i64 (1:Int))<|.ask (decide ((1:Int) < (1:Int)))
                (.fail)
                (.leaf (.inl false))))
            (.fail)))))
    (.fail)
def Yb(c:Int)(d:Int)(e:Lv)(a:List Nat)(f:Bool) :Nat×(List Bool)×(List (List Int))×(List Int)→aL:=fun (b,g,h,i)=>⟨ah 32 [(1,.ptr 0 1 0 0),(2,.ptr 1 1 0 0),(4,.ptr 2 1 0 0)],[(0,.vs [.int .i64 c,.int .i64 d,.imm e (.fl a) 1 1 0 (List.length a)]),(1,.vs [.bool false f,.nsl,.int .i64 (0:Int)]),(2,.vs [.imm .free (.cols b [.cb g,.cns .u64 h,.ci .i64 i]) 3 3 0 b])],3⟩
def Mk(a:List Nat) :T ((Nat×(List Bool)×(List (List Int))×(List Int))⊕(fP)) :=
  .need (aQ 0 (List.length a) a)<|.need (jU (aB (aa 0 (List.length a) a)))<|.leaf (.inl ((aX (aB (aa 0 (List.length a) a))),(dJ (aB (aa 0 (List.length a) a))),(dK (aB (aa 0 (List.length a) a))),(dL (aB (aa 0 (List.length a) a)))))
def Yc(c:Int)(d:Int)(e:Lv)(a:List Nat)(f:Bool)(b:Nat)(g:List Bool)(h:List (List Int))(i:List Int) :Bool×(List Int)×Nat×Nat×Int→aL:=fun (j,k,l,m,n)=>⟨ah 32 [(1,.ptr 0 1 0 0),(2,.ptr 1 1 0 0),(4,.ptr 2 1 0 0),(5,.ptr 3 1 0 0)],[(0,.vs [.int .i64 c,.int .i64 d,.imm e (.fl a) 1 1 0 (List.length a)]),(1,.vs [.bool false f,.nsl,.int .i64 (0:Int)]),(2,.vs [.imm .free (.cols b [.cb g,.cns .u64 h,.ci .i64 i]) 3 3 0 b]),(3,.vs [.bool false j,.imm .free (.ns .u64 k) 1 1 l m,.int .i64 n])],4⟩
def Ml:T ((Bool×(List Int)×Nat×Nat×Int)⊕(fP)) :=
  .need (qm (bm (1:Int)))<|.leaf (.inl ((kv (bm (1:Int))),(jk (bm (1:Int))),(jl (bm (1:Int))),(jm (bm (1:Int))),(kw (bm (1:Int)))))
def Yd:Nat×Bool×(List Int)×Nat×Nat×Int→aL:=fun (a,b,c,d,e,f)=>⟨ah 32 [(2,.ptr 0 1 0 0),(3,.int .i64 ((a:Nat):Int))],[(0,.vs [.bool false b,.imm .free (.ns .u64 c) 1 1 d e,.int .i64 f])],1⟩
def FI(g:Int)(b:Int)(c:List Nat)(a:Nat)(h:List Bool)(i:List (List Int))(j:List Int)(k:Bool)(d:List Int)(e:Nat)(f:Nat)(l:Int) :T ((Nat×Bool×(List Int)×Nat×Nat×Int)⊕(fP)) :=
  .need (Nat.ble (0+a) a)<|.need (aQ 0 (List.length c) c)<|.need (aQ e f d)<|.need (ir (be b b a (aa 0 a h) (aa 0 a i) (aa 0 a j) g b (aa 0 (List.length c) c) k (aa e f d) l))<|.leaf (.inl ((ka (be b b a (aa 0 a h) (aa 0 a i) (aa 0 a j) g b (aa 0 (List.length c) c) k (aa e f d) l)),(kd (be b b a (aa 0 a h) (aa 0 a i) (aa 0 a j) g b (aa 0 (List.length c) c) k (aa e f d) l)),(ke (be b b a (aa 0 a h) (aa 0 a i) (aa 0 a j) g b (aa 0 (List.length c) c) k (aa e f d) l)),(kf (be b b a (aa 0 a h) (aa 0 a i) (aa 0 a j) g b (aa 0 (List.length c) c) k (aa e f d) l)),(kg (be b b a (aa 0 a h) (aa 0 a i) (aa 0 a j) g b (aa 0 (List.length c) c) k (aa e f d) l)),(kh (be b b a (aa 0 a h) (aa 0 a i) (aa 0 a j) g b (aa 0 (List.length c) c) k (aa e f d) l))))
def Tk(a:Nat)(b:Bool)(c:List Int)(d:Nat)(e:Nat)(f:Int) :T ((Empty)⊕(fP)) :=
  .leaf (.inr (.r0 a b c d e f))
def cX(b:Int)(c:Int)(a:List Nat) :Option fP:=ld (aC ((Aw b c a).run) fun s =>
  aC ((Mk a).run) fun (d,e,f,g) =>
  aC ((Ml).run) fun (h,i,j,k,l) =>
  aC ((FI b c a d e f g h i j k l).run) fun (m,n,o,p,q,r) =>
  (Tk m n o p q r).run)
theorem al1(c:Int)(d:Int)(e:Lv)(b:List Nat){x:fP}(h:cX c d b=some x) :aw prog pb [] [.agg [.int .i64 c,.int .i64 d,.imm e (.fl b) 1 1 0 (List.length b)]] (PF x) :=
  Sg.contract true PF (by kernel_rfl:prog.funcs[pb]? = some (FN pb)) (by kernel_rfl:(FN pb).body=some (bi pb)) (Sg.cut 2 FH (Sg.seg (C:=C0) an dH 60 (Av.take 2) (aT (FN pb) [] [.agg [.int .i64 c,.int .i64 d,.imm e (.fl b) 1 1 0 (List.length b)]]) (Aw c d b) (Ya c d e b) zb [⟨[(.cell 16 1,.fre 1 1 (.ns .u64 ([]:List Int)))],[16],[2,3]⟩,⟨[(.cell 16 1,.fre 1 1 (.ns .u64 ([]:List Int)))],[16],[2,3]⟩,⟨[],[0,16],[1,2]⟩] (by kernel_rfl)) (fun f=>by exact Sg.cut 1 FH (Sg.seg (C:=C0) an dH 60 ((Av.drop 2).take 1) (Ya c d e b f) (Mk b) (Yb c d e b f) zb [⟨[],[0,1,50],[1,2,4]⟩] (by kernel_rfl)) (fun a=>by obtain ⟨g,i,j,k⟩:=a;exact Sg.cut 1 FH (Sg.seg (C:=C0) an dH 60 (((Av.drop 2).drop 1).take 1) (Yb c d e b f (g,i,j,k)) (Ml) (Yc c d e b f g i j k) zb [⟨[],[0,1,2,19],[1,2,4,5]⟩] (by kernel_rfl)) (fun a=>by obtain ⟨l,m,n,o,p⟩:=a;exact Sg.cut 1 FH (Sg.seg (C:=C0) an dH 60 ((((Av.drop 2).drop 1).drop 1).take 1) (Yc c d e b f g i j k (l,m,n,o,p)) (FI c d b g i j k l m n o p) Yd zb [⟨[],[1],[2,3]⟩] (by kernel_rfl)) (fun a=>by obtain ⟨q,r,s,t,u,v⟩:=a;exact Sg.seg (C:=C0) an dH 60 ((((Av.drop 2).drop 1).drop 1).drop 1) (Yd (q,r,s,t,u,v)) (Tk q r s t u v) (fun a:Empty=>a.elim) zb [⟨[],[0],[2,3]⟩] (by kernel_rfl))))))
    (fun x=>by cases x with | r0 w y z A B D=>exact ⟨.inr rfl,[.agg [.bool false y,.imm .free (.ns .u64 z) 1 1 A B,.int .i64 D],.int .i64 ((w:Nat):Int)],[],by kernel_rfl,trivial,by kernel_rfl⟩) h
def Ax:Option fP→Bool
  | some _=>true
  | none=>false
def Ay:Option fP→Nat
  | some (.r0 x _ _ _ _ _)=>x
  | _=>0
def Az:Option fP→Bool
  | some (.r0 _ x _ _ _ _)=>x
  | _=>false
def AA:Option fP→List Int
  | some (.r0 _ _ x _ _ _)=>x
  | _=>[]
def AB:Option fP→Nat
  | some (.r0 _ _ _ x _ _)=>x
  | _=>0
def AC:Option fP→Nat
  | some (.r0 _ _ _ _ x _)=>x
  | _=>0
def AD:Option fP→Int
  | some (.r0 _ _ _ _ _ x)=>x
  | _=>0
theorem al2{x:Option fP}(h:Ax x=true) :x=some (.r0 (Ay x) (Az x) (AA x) (AB x) (AC x) (AD x)):=by
  unfold Ax at h
  split at h <;> first | rfl | (cases h;done) | (rename_i y;cases y;rfl)
def ab5:aJ:=bW pb (.cons (.agg (.cons (.int .i64) (.cons (.int .i64) (.cons .fl .nil)))) .nil) fun t=>[⟨PF (.r0 (Ay (cX t.1.1 t.1.2.1 t.1.2.2.1.2)) (Az (cX t.1.1 t.1.2.1 t.1.2.2.1.2)) (AA (cX t.1.1 t.1.2.1 t.1.2.2.1.2)) (AB (cX t.1.1 t.1.2.1 t.1.2.2.1.2)) (AC (cX t.1.1 t.1.2.1 t.1.2.2.1.2)) (AD (cX t.1.1 t.1.2.1 t.1.2.2.1.2))),[Ax (cX t.1.1 t.1.2.1 t.1.2.2.1.2)]⟩]
theorem af6:aU prog ab5:=aO fun t=>(aP (fun h=>al1 t.1.1 t.1.2.1 t.1.2.2.1.1 t.1.2.2.1.2 (al2 h)) aW)
def ab6:List aJ:=ab5 :: rK
theorem uU:aY prog (bb ab6):=au af6 dH
end
end Go.Plb.Seat
namespace Go.Plb.Seat
open Go Go.Plb
set_option linter.unusedVariables false
set_option maxRecDepth 100000
noncomputable section
inductive jp where
  | r0 (a:Bool) (b:Int)
def AF:jp→AE×aL
  | .r0 a b=>(.ret,⟨ah 37 [(8,.bool false a),(9,.int .i64 b)],[],0⟩)
theorem Jy:kR AF:=by intro x;cases x <;> (intro h;cases h)
def Mm:jp→jc
  | .r0 a b=>⟨.tup [.bool false a,.int .i64 b],[]⟩
def De:List Code:=bJ (bi mK)
def Tl(b:Bool)(c:Lv)(a:List Int)(d:Int) :Nat×Bool×(List Int)×Nat×Nat×Int→aL:=fun (e,f,g,h,i,j)=>⟨ah 37 [(1,.int .i64 ((e:Nat):Int)),(4,.ptr 0 1 0 0),(10,.ptr 1 1 0 0)],[(0,.vs [.bool false b,.imm c (.ns .u64 a) 1 1 0 (List.length a),.int .i64 d]),(1,.vs [.bool false f,.imm .free (.ns .u64 g) 1 1 h i,.int .i64 j])],2⟩
def Jz(g:Int)(c:Bool)(a:List Int)(d:Int)(e:Bool)(b:List Int)(f:Int) :T ((Nat×Bool×(List Int)×Nat×Nat×Int)⊕(jp)) :=
  .ask (g != (0:Int))
    (.leaf (.inr (.r0 false g)))
    (.need (aQ 0 (List.length a) a)<|.need (aQ 0 (List.length b) b)<|.need (rG (ay c (aa 0 (List.length a) a) d e (aa 0 (List.length b) b) f))<|.leaf (.inl ((nt (ay c (aa 0 (List.length a) a) d e (aa 0 (List.length b) b) f)),(c7 (ay c (aa 0 (List.length a) a) d e (aa 0 (List.length b) b) f)),(cL (ay c (aa 0 (List.length a) a) d e (aa 0 (List.length b) b) f)),(cM (ay c (aa 0 (List.length a) a) d e (aa 0 (List.length b) b) f)),(cN (ay c (aa 0 (List.length a) a) d e (aa 0 (List.length b) b) f)),(c8 (ay c (aa 0 (List.length a) a) d e (aa 0 (List.length b) b) f)))))
def Tm:Nat×Int→aL:=fun (a,b)=>⟨ah 37 [(1,.int .i64 ((a:Nat):Int)),(11,.int .i64 b)],[],0⟩
def Df(e:Bool)(a:List Int)(f:Int)(i:Nat)(g:Bool)(b:List Int)(c:Nat)(d:Nat)(h:Int) :T ((Nat×Int)⊕(jp)) :=
  .ask (((i:Nat):Int) != (0:Int))
    (.leaf (.inr (.r0 false ((i:Nat):Int))))
    (.need (aQ 0 (List.length a) a)<|.need (aQ c d b)<|.need (Il (r9 e (aa 0 (List.length a) a) f g (aa c d b) h))<|.leaf (.inl ((IX (r9 e (aa 0 (List.length a) a) f g (aa c d b) h)),(IW (r9 e (aa 0 (List.length a) a) f g (aa c d b) h)))))
def Tn(a:Nat)(b:Bool) :aL:=⟨ah 37 [(8,.bool false b),(9,.int .i64 ((a:Nat):Int))],[],0⟩
def To(a:Nat)(b:Int) :T ((Bool)⊕(jp)) :=
  .ask (((a:Nat):Int) == (0:Int))
    (.leaf (.inl (decide (b≤(0:Int)))))
    (.leaf (.inl false))
def Tp(a:Nat)(b:Bool) :T ((Empty)⊕(jp)) :=
  .leaf (.inr (.r0 b ((a:Nat):Int)))
def iu(b:Bool)(c:List Int)(d:Int)(e:Int)(f:Bool)(g:List Int)(h:Int)(i:Bool)(j:List Int)(k:Int) :Option jp:=ld (aC ((Jz e f g h i j k).run) fun (l,m,n,o,p,q) =>
  aC ((Df b c d l m n o p q).run) fun (a,r) =>
  aC ((To a r).run) fun s =>
  (Tp a s).run)
theorem aip(c:Bool)(i:Lv)(b:List Int)(d:Int)(j:Int)(k:Bool)(o:Lv)(e:List Int)(l:Int)(m:Bool)(p:Lv)(f:List Int)(n:Int){x:jp}(h:iu c b d j k e l m f n=some x) :aw prog mK [] [.agg [.bool false c,.imm i (.ns .u64 b) 1 1 0 (List.length b),.int .i64 d],.int .i64 j,.agg [.bool false k,.imm o (.ns .u64 e) 1 1 0 (List.length e),.int .i64 l],.agg [.bool false m,.imm p (.ns .u64 f) 1 1 0 (List.length f),.int .i64 n]] (Mm x) :=
  Sg.contract true Mm (by kernel_rfl:prog.funcs[mK]? = some (FN mK)) (by kernel_rfl:(FN mK).body=some (bi mK)) (Sg.cut 4 Jy (Sg.seg (C:=C0) an uU 60 (De.take 4) (aT (FN mK) [] [.agg [.bool false c,.imm i (.ns .u64 b) 1 1 0 (List.length b),.int .i64 d],.int .i64 j,.agg [.bool false k,.imm o (.ns .u64 e) 1 1 0 (List.length e),.int .i64 l],.agg [.bool false m,.imm p (.ns .u64 f) 1 1 0 (List.length f),.int .i64 n]]) (Jz j k e l m f n) (Tl c i b d) AF [⟨[],[],[8,9]⟩,⟨[],[0,208],[1,4,10]⟩] (by kernel_rfl)) (fun a=>by obtain ⟨q,r,s,t,u,v⟩:=a;exact Sg.cut 3 Jy (Sg.seg (C:=C0) an uU 60 ((De.drop 4).take 3) (Tl c i b d (q,r,s,t,u,v)) (Df c b d q r s t u v) Tm AF [⟨[],[],[8,9]⟩,⟨[],[],[1,11]⟩] (by kernel_rfl)) (fun a=>by obtain ⟨g,w⟩:=a;exact Sg.cut 1 Jy (Sg.seg (C:=C0) an uU 60 (((De.drop 4).drop 3).take 1) (Tm (g,w)) (To g w) (Tn g) AF [⟨[],[],[8,9]⟩,⟨[],[],[8,9]⟩] (by kernel_rfl)) (fun y=>by exact Sg.seg (C:=C0) an uU 60 (((De.drop 4).drop 3).drop 1) (Tn g y) (Tp g y) (fun a:Empty=>a.elim) AF [⟨[],[],[8,9]⟩] (by kernel_rfl)))))
    (fun x=>by cases x with | r0 z A=>exact ⟨.inr rfl,[.bool false z,.int .i64 A],[],by kernel_rfl,trivial,by kernel_rfl⟩) h
def xj:Option jp→Bool
  | some _=>true
  | none=>false
def xY:Option jp→Bool
  | some (.r0 x _)=>x
  | _=>false
def xZ:Option jp→Int
  | some (.r0 _ x)=>x
  | _=>0
theorem aiq{x:Option jp}(h:xj x=true) :x=some (.r0 (xY x) (xZ x)):=by
  unfold xj at h
  split at h <;> first | rfl | (cases h;done) | (rename_i y;cases y;rfl)
def Ye:aJ:=bW mK (.cons (.agg (.cons .bool (.cons (.ns .u64) (.cons (.int .i64) .nil)))) (.cons (.int .i64) (.cons (.agg (.cons .bool (.cons (.ns .u64) (.cons (.int .i64) .nil)))) (.cons (.agg (.cons .bool (.cons (.ns .u64) (.cons (.int .i64) .nil)))) .nil)))) fun t=>[⟨Mm (.r0 (xY (iu t.1.1 t.1.2.1.2 t.1.2.2.1 t.2.1 t.2.2.1.1 t.2.2.1.2.1.2 t.2.2.1.2.2.1 t.2.2.2.1.1 t.2.2.2.1.2.1.2 t.2.2.2.1.2.2.1)) (xZ (iu t.1.1 t.1.2.1.2 t.1.2.2.1 t.2.1 t.2.2.1.1 t.2.2.1.2.1.2 t.2.2.1.2.2.1 t.2.2.2.1.1 t.2.2.2.1.2.1.2 t.2.2.2.1.2.2.1))),[xj (iu t.1.1 t.1.2.1.2 t.1.2.2.1 t.2.1 t.2.2.1.1 t.2.2.1.2.1.2 t.2.2.1.2.2.1 t.2.2.2.1.1 t.2.2.2.1.2.1.2 t.2.2.2.1.2.2.1)]⟩]
theorem acR:aU prog Ye:=aO fun t=>(aP (fun h=>aip t.1.1 t.1.2.1.1 t.1.2.1.2 t.1.2.2.1 t.2.1 t.2.2.1.1 t.2.2.1.2.1.1 t.2.2.1.2.1.2 t.2.2.1.2.2.1 t.2.2.2.1.1 t.2.2.2.1.2.1.1 t.2.2.2.1.2.1.2 t.2.2.2.1.2.2.1 (aiq h)) aW)
def Yf:List aJ:=Ye :: ab6
theorem x4:aY prog (bb Yf):=au acR uU
inductive ki where
  | r0 (a:Bool) (b:Int)
def FJ:ki→AE×aL
  | .r0 a b=>(.ret,⟨ah 18 [(2,.bool false a),(3,.int .i64 b)],[],0⟩)
theorem Tq:kR FJ:=by intro x;cases x <;> (intro h;cases h)
def Mn:ki→jc
  | .r0 a b=>⟨.tup [.bool false a,.int .i64 b],[]⟩
def JA:List Code:=bJ (bi pf)
def Tr(b:Lv)(c:Bool)(d:Lv)(a:List Int)(e:Int) :Nat×Bool×(List Int)×Nat×Nat×Int→aL:=fun (f,g,h,i,j,k)=>⟨ah 18 [(1,.iptr b (.vs [.bool false c,.imm d (.ns .u64 a) 1 1 0 (List.length a),.int .i64 e]) 1 0 0),(4,.ptr 0 1 0 0),(5,.int .i64 ((f:Nat):Int))],[(0,.vs [.bool false g,.imm .free (.ns .u64 h) 1 1 i j,.int .i64 k])],1⟩
def JB(b:Int)(c:Int)(a:List Nat) :T ((Nat×Bool×(List Int)×Nat×Nat×Int)⊕(ki)) :=
  .need (aQ 0 (List.length a) a)<|.need (Ax (cX b c (aa 0 (List.length a) a)))<|.leaf (.inl ((Ay (cX b c (aa 0 (List.length a) a))),(Az (cX b c (aa 0 (List.length a) a))),(AA (cX b c (aa 0 (List.length a) a))),(AB (cX b c (aa 0 (List.length a) a))),(AC (cX b c (aa 0 (List.length a) a))),(AD (cX b c (aa 0 (List.length a) a)))))
def Ts:Bool×Int→aL:=fun (a,b)=>⟨ah 18 [(2,.bool false a),(3,.int .i64 b)],[],0⟩
def Dg(e:Bool)(a:List Int)(f:Int)(g:Nat)(h:Bool)(b:List Int)(c:Nat)(d:Nat)(i:Int) :T ((Bool×Int)⊕(ki)) :=
  .need (qm (bm (1:Int)))<|.need (aQ c d b)<|.need (aQ 0 (List.length a) a)<|.need (aQ (jl (bm (1:Int))) (jm (bm (1:Int))) (jk (bm (1:Int))))<|.need (xj (iu h (aa c d b) i ((g:Nat):Int) e (aa 0 (List.length a) a) f (kv (bm (1:Int))) (aa (jl (bm (1:Int))) (jm (bm (1:Int))) (jk (bm (1:Int)))) (kw (bm (1:Int)))))<|.leaf (.inl ((xY (iu h (aa c d b) i ((g:Nat):Int) e (aa 0 (List.length a) a) f (kv (bm (1:Int))) (aa (jl (bm (1:Int))) (jm (bm (1:Int))) (jk (bm (1:Int)))) (kw (bm (1:Int))))),(xZ (iu h (aa c d b) i ((g:Nat):Int) e (aa 0 (List.length a) a) f (kv (bm (1:Int))) (aa (jl (bm (1:Int))) (jm (bm (1:Int))) (jk (bm (1:Int)))) (kw (bm (1:Int)))))))
def Tt(a:Bool)(b:Int) :T ((Empty)⊕(ki)) :=
  .leaf (.inr (.r0 a b))
def lK(a:Int)(b:Int)(c:List Nat)(d:Bool)(e:List Int)(f:Int) :Option ki:=ld (aC ((JB a b c).run) fun (g,h,i,j,k,l) =>
  aC ((Dg d e f g h i j k l).run) fun (m,n) =>
  (Tt m n).run)
theorem air(k:Lv)(f:Int)(g:Int)(l:Lv)(c:List Nat)(i:Lv)(d:Bool)(j:Lv)(b:List Int)(e:Int){x:ki}(h:lK f g c d b e=some x) :aw prog pf [] [.iptr k (.vs [.int .i64 f,.int .i64 g,.imm l (.fl c) 1 1 0 (List.length c)]) 1 0 0,.iptr i (.vs [.bool false d,.imm j (.ns .u64 b) 1 1 0 (List.length b),.int .i64 e]) 1 0 0] (Mn x) :=
  Sg.contract false Mn (by kernel_rfl:prog.funcs[pf]? = some (FN pf)) (by kernel_rfl:(FN pf).body=some (bi pf)) (Sg.cut 2 Tq (Sg.seg (C:=C0) an x4 60 (JA.take 2) (aT (FN pf) [] [.iptr k (.vs [.int .i64 f,.int .i64 g,.imm l (.fl c) 1 1 0 (List.length c)]) 1 0 0,.iptr i (.vs [.bool false d,.imm j (.ns .u64 b) 1 1 0 (List.length b),.int .i64 e]) 1 0 0]) (JB f g c) (Tr i d j b e) FJ [⟨[],[112],[1,4,5]⟩] (by kernel_rfl)) (fun a=>by obtain ⟨m,n,o,p,q,r⟩:=a;exact Sg.cut 1 Tq (Sg.seg (C:=C0) an x4 60 ((JA.drop 2).take 1) (Tr i d j b e (m,n,o,p,q,r)) (Dg d b e m n o p q r) Ts FJ [⟨[],[],[2,3]⟩] (by kernel_rfl)) (fun a=>by obtain ⟨s,t⟩:=a;exact Sg.seg (C:=C0) an x4 60 ((JA.drop 2).drop 1) (Ts (s,t)) (Tt s t) (fun a:Empty=>a.elim) FJ [⟨[],[],[2,3]⟩] (by kernel_rfl))))
    (fun x=>by cases x with | r0 u v=>exact ⟨.inr rfl,[.bool false u,.int .i64 v],[],by kernel_rfl,trivial,by kernel_rfl⟩) h
def xk:Option ki→Bool
  | some _=>true
  | none=>false
def x5:Option ki→Bool
  | some (.r0 x _)=>x
  | _=>false
def oT:Option ki→Int
  | some (.r0 _ x)=>x
  | _=>0
theorem ais{x:Option ki}(h:xk x=true) :x=some (.r0 (x5 x) (oT x)):=by
  unfold xk at h
  split at h <;> first | rfl | (cases h;done) | (rename_i y;cases y;rfl)
def Yg:aJ:=bW pf (.cons (.ivs (.cons (.int .i64) (.cons (.int .i64) (.cons .fl .nil))) 1 0 0) (.cons (.ivs (.cons .bool (.cons (.ns .u64) (.cons (.int .i64) .nil))) 1 0 0) .nil)) fun t=>[⟨Mn (.r0 (x5 (lK t.1.2.1 t.1.2.2.1 t.1.2.2.2.1.2 t.2.1.2.1 t.2.1.2.2.1.2 t.2.1.2.2.2.1)) (oT (lK t.1.2.1 t.1.2.2.1 t.1.2.2.2.1.2 t.2.1.2.1 t.2.1.2.2.1.2 t.2.1.2.2.2.1))),[xk (lK t.1.2.1 t.1.2.2.1 t.1.2.2.2.1.2 t.2.1.2.1 t.2.1.2.2.1.2 t.2.1.2.2.2.1)]⟩]
theorem acS:aU prog Yg:=aO fun t=>(aP (fun h=>air t.1.1 t.1.2.1 t.1.2.2.1 t.1.2.2.2.1.1 t.1.2.2.2.1.2 t.2.1.1 t.2.1.2.1 t.2.1.2.2.1.1 t.2.1.2.2.1.2 t.2.1.2.2.2.1 (ais h)) aW)
def Yh:List aJ:=Yg :: Yf
theorem sT:aY prog (bb Yh):=au acS x4
inductive cB where
  | r0 (a:Nat) (b:Bool) (c:List Int) (d:Nat) (e:Nat) (f:Int)
def qc:cB→AE×aL
  | .r0 a b c d e f=>(.ret,⟨ah 65 [(11,.ptr 0 1 0 0),(12,.int .i64 ((a:Nat):Int))],[(0,.vs [.bool false b,.imm .free (.ns .u64 c) 1 1 d e,.int .i64 f])],1⟩)
theorem yy:kR qc:=by intro x;cases x <;> (intro h;cases h)
def AG:cB→jc
  | .r0 a b c d e f=>⟨.tup [.agg [.bool false b,.imm .free (.ns .u64 c) 1 1 d e,.int .i64 f],.int .i64 ((a:Nat):Int)],[]⟩
def sk:List Code:=bJ (bi cd)
def G7(d:Int)(e:Int)(f:Lv)(g:Lv)(a:Nat)(h:List Bool)(i:List (List Int))(j:List Int)(k:Lv)(l:Int)(m:Int)(n:Lv)(b:List Nat)(o:Lv)(p:Lv)(c:Nat)(q:List Bool)(r:List (List Int))(s:List Int) :Nat×Bool×Bool×(List Int)×Nat×Nat×Int→aL:=fun (t,u,v,w,x,y,z)=>⟨ah 65 [(0,.int .i64 d),(1,.int .i64 e),(6,.iptr f (.vs [.imm g (.cols a [.cb h,.cns .u64 i,.ci .i64 j]) 3 3 0 a]) 1 0 0),(7,.iptr k (.vs [.int .i64 l,.int .i64 m,.imm n (.fl b) 1 1 0 (List.length b)]) 1 0 0),(8,.iptr o (.vs [.imm p (.cols c [.cb q,.cns .u64 r,.ci .i64 s]) 3 3 0 c]) 1 0 0),(11,.ptr 0 1 0 0),(13,.ptr 1 1 0 0),(14,.int .i64 ((t:Nat):Int))],[(0,.vs [.bool false u,.nsl,.int .i64 (0:Int)]),(1,.vs [.bool false v,.imm .free (.ns .u64 w) 1 1 x y,.int .i64 z])],2⟩
def yz(d:Int)(e:Int)(a:Nat)(f:List Bool)(g:List (List Int))(h:List Int)(c:Int)(b:Nat)(i:List Bool)(j:List (List Int))(k:List Int)(l:Int) :T ((Nat×Bool×Bool×(List Int)×Nat×Nat×Int)⊕(cB)) :=
  .need (d8 .i64 (d * c))<|.need (Nat.ble (0+a) a)<|.need (ng (ac a (aa 0 a f) (aa 0 a g) (aa 0 a h) (d * c) (1:Int) c))<|.need (Nat.ble (0+b) b)<|.need (ng (ac b (aa 0 b i) (aa 0 b j) (aa 0 b k) e l c))<|.need (Nat.ble (0+(ag (ac a (aa 0 a f) (aa 0 a g) (aa 0 a h) (d * c) (1:Int) c))) (ag (ac a (aa 0 a f) (aa 0 a g) (aa 0 a h) (d * c) (1:Int) c)))<|.need (Nat.ble (0+(ag (ac b (aa 0 b i) (aa 0 b j) (aa 0 b k) e l c))) (ag (ac b (aa 0 b i) (aa 0 b j) (aa 0 b k) e l c)))<|.need (y9 (cJ (ag (ac a (aa 0 a f) (aa 0 a g) (aa 0 a h) (d * c) (1:Int) c)) (aa 0 (ag (ac a (aa 0 a f) (aa 0 a g) (aa 0 a h) (d * c) (1:Int) c)) (bB (ac a (aa 0 a f) (aa 0 a g) (aa 0 a h) (d * c) (1:Int) c))) (aa 0 (ag (ac a (aa 0 a f) (aa 0 a g) (aa 0 a h) (d * c) (1:Int) c)) (bC (ac a (aa 0 a f) (aa 0 a g) (aa 0 a h) (d * c) (1:Int) c))) (aa 0 (ag (ac a (aa 0 a f) (aa 0 a g) (aa 0 a h) (d * c) (1:Int) c)) (bD (ac a (aa 0 a f) (aa 0 a g) (aa 0 a h) (d * c) (1:Int) c))) (ag (ac b (aa 0 b i) (aa 0 b j) (aa 0 b k) e l c)) (aa 0 (ag (ac b (aa 0 b i) (aa 0 b j) (aa 0 b k) e l c)) (bB (ac b (aa 0 b i) (aa 0 b j) (aa 0 b k) e l c))) (aa 0 (ag (ac b (aa 0 b i) (aa 0 b j) (aa 0 b k) e l c)) (bC (ac b (aa 0 b i) (aa 0 b j) (aa 0 b k) e l c))) (aa 0 (ag (ac b (aa 0 b i) (aa 0 b j) (aa 0 b k) e l c)) (bD (ac b (aa 0 b i) (aa 0 b j) (aa 0 b k) e l c)))))<|.leaf (.inl ((xa (cJ (ag (ac a (aa 0 a f) (aa 0 a g) (aa 0 a h) (d * c) (1:Int) c)) (aa 0 (ag (ac a (aa 0 a f) (aa 0 a g) (aa 0 a h) (d * c) (1:Int) c)) (bB (ac a (aa 0 a f) (aa 0 a g) (aa 0 a h) (d * c) (1:Int) c))) (aa 0 (ag (ac a (aa 0 a f) (aa 0 a g) (aa 0 a h) (d * c) (1:Int) c)) (bC (ac a (aa 0 a f) (aa 0 a g) (aa 0 a h) (d * c) (1:Int) c))) (aa 0 (ag (ac a (aa 0 a f) (aa 0 a g) (aa 0 a h) (d * c) (1:Int) c)) (bD (ac a (aa 0 a f) (aa 0 a g) (aa 0 a h) (d * c) (1:Int) c))) (ag (ac b (aa 0 b i) (aa 0 b j) (aa 0 b k) e l c)) (aa 0 (ag (ac b (aa 0 b i) (aa 0 b j) (aa 0 b k) e l c)) (bB (ac b (aa 0 b i) (aa 0 b j) (aa 0 b k) e l c))) (aa 0 (ag (ac b (aa 0 b i) (aa 0 b j) (aa 0 b k) e l c)) (bC (ac b (aa 0 b i) (aa 0 b j) (aa 0 b k) e l c))) (aa 0 (ag (ac b (aa 0 b i) (aa 0 b j) (aa 0 b k) e l c)) (bD (ac b (aa 0 b i) (aa 0 b j) (aa 0 b k) e l c))))),false,(xc (cJ (ag (ac a (aa 0 a f) (aa 0 a g) (aa 0 a h) (d * c) (1:Int) c)) (aa 0 (ag (ac a (aa 0 a f) (aa 0 a g) (aa 0 a h) (d * c) (1:Int) c)) (bB (ac a (aa 0 a f) (aa 0 a g) (aa 0 a h) (d * c) (1:Int) c))) (aa 0 (ag (ac a (aa 0 a f) (aa 0 a g) (aa 0 a h) (d * c) (1:Int) c)) (bC (ac a (aa 0 a f) (aa 0 a g) (aa 0 a h) (d * c) (1:Int) c))) (aa 0 (ag (ac a (aa 0 a f) (aa 0 a g) (aa 0 a h) (d * c) (1:Int) c)) (bD (ac a (aa 0 a f) (aa 0 a g) (aa 0 a h) (d * c) (1:Int) c))) (ag (ac b (aa 0 b i) (aa 0 b j) (aa 0 b k) e l c)) (aa 0 (ag (ac b (aa 0 b i) (aa 0 b j) (aa 0 b k) e l c)) (bB (ac b (aa 0 b i) (aa 0 b j) (aa 0 b k) e l c))) (aa 0 (ag (ac b (aa 0 b i) (aa 0 b j) (aa 0 b k) e l c)) (bC (ac b (aa 0 b i) (aa 0 b j) (aa 0 b k) e l c))) (aa 0 (ag (ac b (aa 0 b i) (aa 0 b j) (aa 0 b k) e l c)) (bD (ac b (aa 0 b i) (aa 0 b j) (aa 0 b k) e l c))))),(xd (cJ (ag (ac a (aa 0 a f) (aa 0 a g) (aa 0 a h) (d * c) (1:Int) c)) (aa 0 (ag (ac a (aa 0 a f) (aa 0 a g) (aa 0 a h) (d * c) (1:Int) c)) (bB (ac a (aa 0 a f) (aa 0 a g) (aa 0 a h) (d * c) (1:Int) c))) (aa 0 (ag (ac a (aa 0 a f) (aa 0 a g) (aa 0 a h) (d * c) (1:Int) c)) (bC (ac a (aa 0 a f) (aa 0 a g) (aa 0 a h) (d * c) (1:Int) c))) (aa 0 (ag (ac a (aa 0 a f) (aa 0 a g) (aa 0 a h) (d * c) (1:Int) c)) (bD (ac a (aa 0 a f) (aa 0 a g) (aa 0 a h) (d * c) (1:Int) c))) (ag (ac b (aa 0 b i) (aa 0 b j) (aa 0 b k) e l c)) (aa 0 (ag (ac b (aa 0 b i) (aa 0 b j) (aa 0 b k) e l c)) (bB (ac b (aa 0 b i) (aa 0 b j) (aa 0 b k) e l c))) (aa 0 (ag (ac b (aa 0 b i) (aa 0 b j) (aa 0 b k) e l c)) (bC (ac b (aa 0 b i) (aa 0 b j) (aa 0 b k) e l c))) (aa 0 (ag (ac b (aa 0 b i) (aa 0 b j) (aa 0 b k) e l c)) (bD (ac b (aa 0 b i) (aa 0 b j) (aa 0 b k) e l c))))),(xe (cJ (ag (ac a (aa 0 a f) (aa 0 a g) (aa 0 a h) (d * c) (1:Int) c)) (aa 0 (ag (ac a (aa 0 a f) (aa 0 a g) (aa 0 a h) (d * c) (1:Int) c)) (bB (ac a (aa 0 a f) (aa 0 a g) (aa 0 a h) (d * c) (1:Int) c))) (aa 0 (ag (ac a (aa 0 a f) (aa 0 a g) (aa 0 a h) (d * c) (1:Int) c)) (bC (ac a (aa 0 a f) (aa 0 a g) (aa 0 a h) (d * c) (1:Int) c))) (aa 0 (ag (ac a (aa 0 a f) (aa 0 a g) (aa 0 a h) (d * c) (1:Int) c)) (bD (ac a (aa 0 a f) (aa 0 a g) (aa 0 a h) (d * c) (1:Int) c))) (ag (ac b (aa 0 b i) (aa 0 b j) (aa 0 b k) e l c)) (aa 0 (ag (ac b (aa 0 b i) (aa 0 b j) (aa 0 b k) e l c)) (bB (ac b (aa 0 b i) (aa 0 b j) (aa 0 b k) e l c))) (aa 0 (ag (ac b (aa 0 b i) (aa 0 b j) (aa 0 b k) e l c)) (bC (ac b (aa 0 b i) (aa 0 b j) (aa 0 b k) e l c))) (aa 0 (ag (ac b (aa 0 b i) (aa 0 b j) (aa 0 b k) e l c)) (bD (ac b (aa 0 b i) (aa 0 b j) (aa 0 b k) e l c))))),(xf (cJ (ag (ac a (aa 0 a f) (aa 0 a g) (aa 0 a h) (d * c) (1:Int) c)) (aa 0 (ag (ac a (aa 0 a f) (aa 0 a g) (aa 0 a h) (d * c) (1:Int) c)) (bB (ac a (aa 0 a f) (aa 0 a g) (aa 0 a h) (d * c) (1:Int) c))) (aa 0 (ag (ac a (aa 0 a f) (aa 0 a g) (aa 0 a h) (d * c) (1:Int) c)) (bC (ac a (aa 0 a f) (aa 0 a g) (aa 0 a h) (d * c) (1:Int) c))) (aa 0 (ag (ac a (aa 0 a f) (aa 0 a g) (aa 0 a h) (d * c) (1:Int) c)) (bD (ac a (aa 0 a f) (aa 0 a g) (aa 0 a h) (d * c) (1:Int) c))) (ag (ac b (aa 0 b i) (aa 0 b j) (aa 0 b k) e l c)) (aa 0 (ag (ac b (aa 0 b i) (aa 0 b j) (aa 0 b k) e l c)) (bB (ac b (aa 0 b i) (aa 0 b j) (aa 0 b k) e l c))) (aa 0 (ag (ac b (aa 0 b i) (aa 0 b j) (aa 0 b k) e l c)) (bC (ac b (aa 0 b i) (aa 0 b j) (aa 0 b k) e l c))) (aa 0 (ag (ac b (aa 0 b i) (aa 0 b j) (aa 0 b k) e l c)) (bD (ac b (aa 0 b i) (aa 0 b j) (aa 0 b k) e l c))))),(xg (cJ (ag (ac a (aa 0 a f) (aa 0 a g) (aa 0 a h) (d * c) (1:Int) c)) (aa 0 (ag (ac a (aa 0 a f) (aa 0 a g) (aa 0 a h) (d * c) (1:Int) c)) (bB (ac a (aa 0 a f) (aa 0 a g) (aa 0 a h) (d * c) (1:Int) c))) (aa 0 (ag (ac a (aa 0 a f) (aa 0 a g) (aa 0 a h) (d * c) (1:Int) c)) (bC (ac a (aa 0 a f) (aa 0 a g) (aa 0 a h) (d * c) (1:Int) c))) (aa 0 (ag (ac a (aa 0 a f) (aa 0 a g) (aa 0 a h) (d * c) (1:Int) c)) (bD (ac a (aa 0 a f) (aa 0 a g) (aa 0 a h) (d * c) (1:Int) c))) (ag (ac b (aa 0 b i) (aa 0 b j) (aa 0 b k) e l c)) (aa 0 (ag (ac b (aa 0 b i) (aa 0 b j) (aa 0 b k) e l c)) (bB (ac b (aa 0 b i) (aa 0 b j) (aa 0 b k) e l c))) (aa 0 (ag (ac b (aa 0 b i) (aa 0 b j) (aa 0 b k) e l c)) (bC (ac b (aa 0 b i) (aa 0 b j) (aa 0 b k) e l c))) (aa 0 (ag (ac b (aa 0 b i) (aa 0 b j) (aa 0 b k) e l c)) (bD (ac b (aa 0 b i) (aa 0 b j) (aa 0 b k) e l c)))))))
def G8(a:Bool)(b:Bool)(c:List Int)(d:Nat)(e:Nat)(f:Int) :Nat×Bool×(List Int)×Nat×Nat×Int→aL:=fun (g,h,i,j,k,l)=>⟨ah 65 [(11,.ptr 0 1 0 0),(13,.ptr 1 1 0 0),(14,.int .i64 ((g:Nat):Int)),(15,.ptr 2 1 0 0)],[(0,.vs [.bool false a,.nsl,.int .i64 (0:Int)]),(1,.vs [.bool false b,.imm .free (.ns .u64 c) 1 1 d e,.int .i64 f]),(2,.vs [.bool false h,.imm .free (.ns .u64 i) 1 1 j k,.int .i64 l])],3⟩
def sm(b:Int)(a:Int)(k:Nat)(f:List Bool)(d:List (List Int))(g:List Int)(c:Int)(l:Nat)(h:List Bool)(e:List (List Int))(i:List Int)(j:Nat) :T ((Nat×Bool×(List Int)×Nat×Nat×Int)⊕(cB)) :=
  .ask (((j:Nat):Int) != (0:Int))
    (.leaf (.inr (.r0 j false ([]:List Int) 0 0 (0:Int))))
    (.need (d8 .i64 (b * c))<|.need (d8 .i64 ((b * c)+a))<|.need (iS ((b * c)+a) k)<|.need (jC (Int.toNat ((b * c)+a)) (List.length f))<|.need (jC (Int.toNat ((b * c)+a)) (List.length d))<|.need (jC (Int.toNat ((b * c)+a)) (List.length g))<|.need (iS a l)<|.need (jC (Int.toNat a) (List.length h))<|.need (jC (Int.toNat a) (List.length e))<|.need (jC (Int.toNat a) (List.length i))<|.need (aQ 0 (List.length (List.getD d (Int.toNat ((b * c)+a)) [])) (List.getD d (Int.toNat ((b * c)+a)) []))<|.need (aQ 0 (List.length (List.getD e (Int.toNat a) [])) (List.getD e (Int.toNat a) []))<|.need (rG (ay (List.getD f (Int.toNat ((b * c)+a)) false) (aa 0 (List.length (List.getD d (Int.toNat ((b * c)+a)) [])) (List.getD d (Int.toNat ((b * c)+a)) [])) (List.getD g (Int.toNat ((b * c)+a)) 0) (List.getD h (Int.toNat a) false) (aa 0 (List.length (List.getD e (Int.toNat a) [])) (List.getD e (Int.toNat a) [])) (List.getD i (Int.toNat a) 0)))<|.leaf (.inl ((nt (ay (List.getD f (Int.toNat ((b * c)+a)) false) (aa 0 (List.length (List.getD d (Int.toNat ((b * c)+a)) [])) (List.getD d (Int.toNat ((b * c)+a)) [])) (List.getD g (Int.toNat ((b * c)+a)) 0) (List.getD h (Int.toNat a) false) (aa 0 (List.length (List.getD e (Int.toNat a) [])) (List.getD e (Int.toNat a) [])) (List.getD i (Int.toNat a) 0))),(c7 (ay (List.getD f (Int.toNat ((b * c)+a)) false) (aa 0 (List.length (List.getD d (Int.toNat ((b * c)+a)) [])) (List.getD d (Int.toNat ((b * c)+a)) [])) (List.getD g (Int.toNat ((b * c)+a)) 0) (List.getD h (Int.toNat a) false) (aa 0 (List.length (List.getD e (Int.toNat a) [])) (List.getD e (Int.toNat a) [])) (List.getD i (Int.toNat a) 0))),(cL (ay (List.getD f (Int.toNat ((b * c)+a)) false) (aa 0 (List.length (List.getD d (Int.toNat ((b * c)+a)) [])) (List.getD d (Int.toNat ((b * c)+a)) [])) (List.getD g (Int.toNat ((b * c)+a)) 0) (List.getD h (Int.toNat a) false) (aa 0 (List.length (List.getD e (Int.toNat a) [])) (List.getD e (Int.toNat a) [])) (List.getD i (Int.toNat a) 0))),(cM (ay (List.getD f (Int.toNat ((b * c)+a)) false) (aa 0 (List.length (List.getD d (Int.toNat ((b * c)+a)) [])) (List.getD d (Int.toNat ((b * c)+a)) [])) (List.getD g (Int.toNat ((b * c)+a)) 0) (List.getD h (Int.toNat a) false) (aa 0 (List.length (List.getD e (Int.toNat a) [])) (List.getD e (Int.toNat a) [])) (List.getD i (Int.toNat a) 0))),(cN (ay (List.getD f (Int.toNat ((b * c)+a)) false) (aa 0 (List.length (List.getD d (Int.toNat ((b * c)+a)) [])) (List.getD d (Int.toNat ((b * c)+a)) [])) (List.getD g (Int.toNat ((b * c)+a)) 0) (List.getD h (Int.toNat a) false) (aa 0 (List.length (List.getD e (Int.toNat a) [])) (List.getD e (Int.toNat a) [])) (List.getD i (Int.toNat a) 0))),(c8 (ay (List.getD f (Int.toNat ((b * c)+a)) false) (aa 0 (List.length (List.getD d (Int.toNat ((b * c)+a)) [])) (List.getD d (Int.toNat ((b * c)+a)) [])) (List.getD g (Int.toNat ((b * c)+a)) 0) (List.getD h (Int.toNat a) false) (aa 0 (List.length (List.getD e (Int.toNat a) [])) (List.getD e (Int.toNat a) [])) (List.getD i (Int.toNat a) 0))))))
def G9:Nat×Bool×(List Int)×Nat×Nat×Int→aL:=fun (a,b,c,d,e,f)=>⟨ah 65 [(11,.ptr 0 1 0 0),(12,.int .i64 ((a:Nat):Int))],[(0,.vs [.bool false b,.imm .free (.ns .u64 c) 1 1 d e,.int .i64 f])],1⟩
def sn(g:Bool)(a:List Int)(b:Nat)(c:Nat)(h:Int)(k:Nat)(i:Bool)(d:List Int)(e:Nat)(f:Nat)(j:Int) :T ((Nat×Bool×(List Int)×Nat×Nat×Int)⊕(cB)) :=
  .ask (((k:Nat):Int) != (0:Int))
    (.leaf (.inr (.r0 k false ([]:List Int) 0 0 (0:Int))))
    (.need (aQ b c a)<|.need (aQ e f d)<|.need (DL (ej g (aa b c a) h i (aa e f d) j))<|.leaf (.inl ((C8 (ej g (aa b c a) h i (aa e f d) j)),(C9 (ej g (aa b c a) h i (aa e f d) j)),(Da (ej g (aa b c a) h i (aa e f d) j)),(Db (ej g (aa b c a) h i (aa e f d) j)),(Dc (ej g (aa b c a) h i (aa e f d) j)),(Dd (ej g (aa b c a) h i (aa e f d) j)))))
def Ha(a:Nat)(b:Bool)(c:List Int)(d:Nat)(e:Nat)(f:Int) :T ((Empty)⊕(cB)) :=
  .leaf (.inr (.r0 a b c d e f))
def bS(a:Int)(b:Int)(c:Nat)(d:List Bool)(e:List (List Int))(f:List Int)(g:Int)(h:Nat)(i:List Bool)(j:List (List Int))(k:List Int)(l:Int)(m:Nat)(n:List Bool)(o:List (List Int))(p:List Int)(q:Int)(r:Nat)(s:List Bool)(t:List (List Int))(u:List Int) :Option cB:=ld (aC ((yz a b c d e f g h i j k l).run) fun (v,N,w,x,y,z,A) =>
  aC ((sm a b m n o p q r s t u v).run) fun (B,C,D,E,F,G) =>
  aC ((sn w x y z A B C D E F G).run) fun (H,I,J,K,L,M) =>
  (Ha H I J K L M).run)
theorem Vf(d:Int)(e:Int)(P:Lv)(Q:Lv)(f:Nat)(q:List Bool)(r:List (List Int))(s:List Int)(R:Lv)(S:Int)(t:Int)(T:Lv)(u:List Nat)(U:Lv)(V:Lv)(g:Nat)(v:List Bool)(w:List (List Int))(y:List Int)(W:Lv)(X:Int)(z:Int)(Y:Lv)(A:List Nat)(B:Lv)(D:Lv)(b:Nat)(i:List Bool)(j:List (List Int))(k:List Int)(E:Lv)(F:Int)(l:Int)(G:Lv)(m:List Nat)(H:Lv)(I:Lv)(c:Nat)(n:List Bool)(o:List (List Int))(p:List Int){x:cB}(h:bS d e f q r s t g v w y z b i j k l c n o p=some x) :aw prog cd [] [.int .i64 d,.int .i64 e,.iptr P (.vs [.imm Q (.cols f [.cb q,.cns .u64 r,.ci .i64 s]) 3 3 0 f]) 1 0 0,.iptr R (.vs [.int .i64 S,.int .i64 t,.imm T (.fl u) 1 1 0 (List.length u)]) 1 0 0,.iptr U (.vs [.imm V (.cols g [.cb v,.cns .u64 w,.ci .i64 y]) 3 3 0 g]) 1 0 0,.iptr W (.vs [.int .i64 X,.int .i64 z,.imm Y (.fl A) 1 1 0 (List.length A)]) 1 0 0,.iptr B (.vs [.imm D (.cols b [.cb i,.cns .u64 j,.ci .i64 k]) 3 3 0 b]) 1 0 0,.iptr E (.vs [.int .i64 F,.int .i64 l,.imm G (.fl m) 1 1 0 (List.length m)]) 1 0 0,.iptr H (.vs [.imm I (.cols c [.cb n,.cns .u64 o,.ci .i64 p]) 3 3 0 c]) 1 0 0] (AG x) :=
  Sg.contract false AG (by kernel_rfl:prog.funcs[cd]? = some (FN cd)) (by kernel_rfl:(FN cd).body=some (bi cd)) (Sg.cut 2 yy (Sg.seg (C:=C0) an sT 60 (sk.take 2) (aT (FN cd) [] [.int .i64 d,.int .i64 e,.iptr P (.vs [.imm Q (.cols f [.cb q,.cns .u64 r,.ci .i64 s]) 3 3 0 f]) 1 0 0,.iptr R (.vs [.int .i64 S,.int .i64 t,.imm T (.fl u) 1 1 0 (List.length u)]) 1 0 0,.iptr U (.vs [.imm V (.cols g [.cb v,.cns .u64 w,.ci .i64 y]) 3 3 0 g]) 1 0 0,.iptr W (.vs [.int .i64 X,.int .i64 z,.imm Y (.fl A) 1 1 0 (List.length A)]) 1 0 0,.iptr B (.vs [.imm D (.cols b [.cb i,.cns .u64 j,.ci .i64 k]) 3 3 0 b]) 1 0 0,.iptr E (.vs [.int .i64 F,.int .i64 l,.imm G (.fl m) 1 1 0 (List.length m)]) 1 0 0,.iptr H (.vs [.imm I (.cols c [.cb n,.cns .u64 o,.ci .i64 p]) 3 3 0 c]) 1 0 0]) (yz d e f q r s t g v w y z) (G7 d e B D b i j k E F l G m H I c n o p) qc [⟨[],[0,336],[0,1,6,7,8,11,13,14]⟩] (by kernel_rfl)) (fun a=>by obtain ⟨Z,O,J,K,L,M,N⟩:=a;exact Sg.cut 3 yy (Sg.seg (C:=C0) an sT 60 ((sk.drop 2).take 3) (G7 d e B D b i j k E F l G m H I c n o p (Z,O,J,K,L,M,N)) (sm d e b i j k l c n o p Z) (G8 O J K L M N) qc [⟨[(.cell 0 1,.fre 1 1 (.ns .u64 ([]:List Int)))],[0],[11,12]⟩,⟨[],[0,1,306],[11,13,14,15]⟩] (by kernel_rfl)) (fun a=>by obtain ⟨a0,a1,a2,a3,a4,a7⟩:=a;exact Sg.cut 3 yy (Sg.seg (C:=C0) an sT 60 (((sk.drop 2).drop 3).take 3) (G8 O J K L M N (a0,a1,a2,a3,a4,a7)) (sn J K L M N a0 a1 a2 a3 a4 a7) G9 qc [⟨[(.cell 0 1,.fre 1 1 (.ns .u64 ([]:List Int)))],[0],[11,12]⟩,⟨[],[0],[11,12]⟩] (by kernel_rfl)) (fun a=>by obtain ⟨a8,a9,b0,b1,b4,b5⟩:=a;exact Sg.seg (C:=C0) an sT 60 (((sk.drop 2).drop 3).drop 3) (G9 (a8,a9,b0,b1,b4,b5)) (Ha a8 a9 b0 b1 b4 b5) (fun a:Empty=>a.elim) qc [⟨[],[0],[11,12]⟩] (by kernel_rfl)))))
    (fun x=>by cases x with | r0 b6 b7 b8 c0 c1 c2=>exact ⟨.inr rfl,[.agg [.bool false b7,.imm .free (.ns .u64 b8) 1 1 c0 c1,.int .i64 c2],.int .i64 ((b6:Nat):Int)],[],by kernel_rfl,trivial,by kernel_rfl⟩) h
def ou:Option cB→Bool
  | some _=>true
  | none=>false
def jM:Option cB→Nat
  | some (.r0 x _ _ _ _ _)=>x
  | _=>0
def qd:Option cB→Bool
  | some (.r0 _ x _ _ _ _)=>x
  | _=>false
def l4:Option cB→List Int
  | some (.r0 _ _ x _ _ _)=>x
  | _=>[]
def l5:Option cB→Nat
  | some (.r0 _ _ _ x _ _)=>x
  | _=>0
def l6:Option cB→Nat
  | some (.r0 _ _ _ _ x _)=>x
  | _=>0
def qe:Option cB→Int
  | some (.r0 _ _ _ _ _ x)=>x
  | _=>0
theorem Vg{x:Option cB}(h:ou x=true) :x=some (.r0 (jM x) (qd x) (l4 x) (l5 x) (l6 x) (qe x)):=by
  unfold ou at h
  split at h <;> first | rfl | (cases h;done) | (rename_i y;cases y;rfl)
def Ir:aJ:=bW cd (.cons (.int .i64) (.cons (.int .i64) (.cons (.ivs (.cons (.cols [.cb,.cns .u64,.ci .i64]) .nil) 1 0 0) (.cons (.ivs (.cons (.int .i64) (.cons (.int .i64) (.cons .fl .nil))) 1 0 0) (.cons (.ivs (.cons (.cols [.cb,.cns .u64,.ci .i64]) .nil) 1 0 0) (.cons (.ivs (.cons (.int .i64) (.cons (.int .i64) (.cons .fl .nil))) 1 0 0) (.cons (.ivs (.cons (.cols [.cb,.cns .u64,.ci .i64]) .nil) 1 0 0) (.cons (.ivs (.cons (.int .i64) (.cons (.int .i64) (.cons .fl .nil))) 1 0 0) (.cons (.ivs (.cons (.cols [.cb,.cns .u64,.ci .i64]) .nil) 1 0 0) .nil))))))))) fun t=>[⟨AG (.r0 (jM (bS t.1 t.2.1 t.2.2.1.2.1.2.1 t.2.2.1.2.1.2.2.1 t.2.2.1.2.1.2.2.2.1 t.2.2.1.2.1.2.2.2.2.1 t.2.2.2.1.2.2.1 t.2.2.2.2.1.2.1.2.1 t.2.2.2.2.1.2.1.2.2.1 t.2.2.2.2.1.2.1.2.2.2.1 t.2.2.2.2.1.2.1.2.2.2.2.1 t.2.2.2.2.2.1.2.2.1 t.2.2.2.2.2.2.1.2.1.2.1 t.2.2.2.2.2.2.1.2.1.2.2.1 t.2.2.2.2.2.2.1.2.1.2.2.2.1 t.2.2.2.2.2.2.1.2.1.2.2.2.2.1 t.2.2.2.2.2.2.2.1.2.2.1 t.2.2.2.2.2.2.2.2.1.2.1.2.1 t.2.2.2.2.2.2.2.2.1.2.1.2.2.1 t.2.2.2.2.2.2.2.2.1.2.1.2.2.2.1 t.2.2.2.2.2.2.2.2.1.2.1.2.2.2.2.1)) (qd (bS t.1 t.2.1 t.2.2.1.2.1.2.1 t.2.2.1.2.1.2.2.1 t.2.2.1.2.1.2.2.2.1 t.2.2.1.2.1.2.2.2.2.1 t.2.2.2.1.2.2.1 t.2.2.2.2.1.2.1.2.1 t.2.2.2.2.1.2.1.2.2.1 t.2.2.2.2.1.2.1.2.2.2.1 t.2.2.2.2.1.2.1.2.2.2.2.1 t.2.2.2.2.2.1.2.2.1 t.2.2.2.2.2.2.1.2.1.2.1 t.2.2.2.2.2.2.1.2.1.2.2.1 t.2.2.2.2.2.2.1.2.1.2.2.2.1 t.2.2.2.2.2.2.1.2.1.2.2.2.2.1 t.2.2.2.2.2.2.2.1.2.2.1 t.2.2.2.2.2.2.2.2.1.2.1.2.1 t.2.2.2.2.2.2.2.2.1.2.1.2.2.1 t.2.2.2.2.2.2.2.2.1.2.1.2.2.2.1 t.2.2.2.2.2.2.2.2.1.2.1.2.2.2.2.1)) (l4 (bS t.1 t.2.1 t.2.2.1.2.1.2.1 t.2.2.1.2.1.2.2.1 t.2.2.1.2.1.2.2.2.1 t.2.2.1.2.1.2.2.2.2.1 t.2.2.2.1.2.2.1 t.2.2.2.2.1.2.1.2.1 t.2.2.2.2.1.2.1.2.2.1 t.2.2.2.2.1.2.1.2.2.2.1 t.2.2.2.2.1.2.1.2.2.2.2.1 t.2.2.2.2.2.1.2.2.1 t.2.2.2.2.2.2.1.2.1.2.1 t.2.2.2.2.2.2.1.2.1.2.2.1 t.2.2.2.2.2.2.1.2.1.2.2.2.1 t.2.2.2.2.2.2.1.2.1.2.2.2.2.1 t.2.2.2.2.2.2.2.1.2.2.1 t.2.2.2.2.2.2.2.2.1.2.1.2.1 t.2.2.2.2.2.2.2.2.1.2.1.2.2.1 t.2.2.2.2.2.2.2.2.1.2.1.2.2.2.1 t.2.2.2.2.2.2.2.2.1.2.1.2.2.2.2.1)) (l5 (bS t.1 t.2.1 t.2.2.1.2.1.2.1 t.2.2.1.2.1.2.2.1 t.2.2.1.2.1.2.2.2.1 t.2.2.1.2.1.2.2.2.2.1 t.2.2.2.1.2.2.1 t.2.2.2.2.1.2.1.2.1 t.2.2.2.2.1.2.1.2.2.1 t.2.2.2.2.1.2.1.2.2.2.1 t.2.2.2.2.1.2.1.2.2.2.2.1 t.2.2.2.2.2.1.2.2.1 t.2.2.2.2.2.2.1.2.1.2.1 t.2.2.2.2.2.2.1.2.1.2.2.1 t.2.2.2.2.2.2.1.2.1.2.2.2.1 t.2.2.2.2.2.2.1.2.1.2.2.2.2.1 t.2.2.2.2.2.2.2.1.2.2.1 t.2.2.2.2.2.2.2.2.1.2.1.2.1 t.2.2.2.2.2.2.2.2.1.2.1.2.2.1 t.2.2.2.2.2.2.2.2.1.2.1.2.2.2.1 t.2.2.2.2.2.2.2.2.1.2.1.2.2.2.2.1)) (l6 (bS t.1 t.2.1 t.2.2.1.2.1.2.1 t.2.2.1.2.1.2.2.1 t.2.2.1.2.1.2.2.2.1 t.2.2.1.2.1.2.2.2.2.1 t.2.2.2.1.2.2.1 t.2.2.2.2.1.2.1.2.1 t.2.2.2.2.1.2.1.2.2.1 t.2.2.2.2.1.2.1.2.2.2.1 t.2.2.2.2.1.2.1.2.2.2.2.1 t.2.2.2.2.2.1.2.2.1 t.2.2.2.2.2.2.1.2.1.2.1 t.2.2.2.2.2.2.1.2.1.2.2.1 t.2.2.2.2.2.2.1.2.1.2.2.2.1 t.2.2.2.2.2.2.1.2.1.2.2.2.2.1 t.2.2.2.2.2.2.2.1.2.2.1 t.2.2.2.2.2.2.2.2.1.2.1.2.1 t.2.2.2.2.2.2.2.2.1.2.1.2.2.1 t.2.2.2.2.2.2.2.2.1.2.1.2.2.2.1 t.2.2.2.2.2.2.2.2.1.2.1.2.2.2.2.1)) (qe (bS t.1 t.2.1 t.2.2.1.2.1.2.1 t.2.2.1.2.1.2.2.1 t.2.2.1.2.1.2.2.2.1 t.2.2.1.2.1.2.2.2.2.1 t.2.2.2.1.2.2.1 t.2.2.2.2.1.2.1.2.1 t.2.2.2.2.1.2.1.2.2.1 t.2.2.2.2.1.2.1.2.2.2.1 t.2.2.2.2.1.2.1.2.2.2.2.1 t.2.2.2.2.2.1.2.2.1 t.2.2.2.2.2.2.1.2.1.2.1 t.2.2.2.2.2.2.1.2.1.2.2.1 t.2.2.2.2.2.2.1.2.1.2.2.2.1 t.2.2.2.2.2.2.1.2.1.2.2.2.2.1 t.2.2.2.2.2.2.2.1.2.2.1 t.2.2.2.2.2.2.2.2.1.2.1.2.1 t.2.2.2.2.2.2.2.2.1.2.1.2.2.1 t.2.2.2.2.2.2.2.2.1.2.1.2.2.2.1 t.2.2.2.2.2.2.2.2.1.2.1.2.2.2.2.1))),[ou (bS t.1 t.2.1 t.2.2.1.2.1.2.1 t.2.2.1.2.1.2.2.1 t.2.2.1.2.1.2.2.2.1 t.2.2.1.2.1.2.2.2.2.1 t.2.2.2.1.2.2.1 t.2.2.2.2.1.2.1.2.1 t.2.2.2.2.1.2.1.2.2.1 t.2.2.2.2.1.2.1.2.2.2.1 t.2.2.2.2.1.2.1.2.2.2.2.1 t.2.2.2.2.2.1.2.2.1 t.2.2.2.2.2.2.1.2.1.2.1 t.2.2.2.2.2.2.1.2.1.2.2.1 t.2.2.2.2.2.2.1.2.1.2.2.2.1 t.2.2.2.2.2.2.1.2.1.2.2.2.2.1 t.2.2.2.2.2.2.2.1.2.2.1 t.2.2.2.2.2.2.2.2.1.2.1.2.1 t.2.2.2.2.2.2.2.2.1.2.1.2.2.1 t.2.2.2.2.2.2.2.2.1.2.1.2.2.2.1 t.2.2.2.2.2.2.2.2.1.2.1.2.2.2.2.1)]⟩]
theorem PG:aU prog Ir:=aO fun t=>(aP (fun h=>Vf t.1 t.2.1 t.2.2.1.1 t.2.2.1.2.1.1 t.2.2.1.2.1.2.1 t.2.2.1.2.1.2.2.1 t.2.2.1.2.1.2.2.2.1 t.2.2.1.2.1.2.2.2.2.1 t.2.2.2.1.1 t.2.2.2.1.2.1 t.2.2.2.1.2.2.1 t.2.2.2.1.2.2.2.1.1 t.2.2.2.1.2.2.2.1.2 t.2.2.2.2.1.1 t.2.2.2.2.1.2.1.1 t.2.2.2.2.1.2.1.2.1 t.2.2.2.2.1.2.1.2.2.1 t.2.2.2.2.1.2.1.2.2.2.1 t.2.2.2.2.1.2.1.2.2.2.2.1 t.2.2.2.2.2.1.1 t.2.2.2.2.2.1.2.1 t.2.2.2.2.2.1.2.2.1 t.2.2.2.2.2.1.2.2.2.1.1 t.2.2.2.2.2.1.2.2.2.1.2 t.2.2.2.2.2.2.1.1 t.2.2.2.2.2.2.1.2.1.1 t.2.2.2.2.2.2.1.2.1.2.1 t.2.2.2.2.2.2.1.2.1.2.2.1 t.2.2.2.2.2.2.1.2.1.2.2.2.1 t.2.2.2.2.2.2.1.2.1.2.2.2.2.1 t.2.2.2.2.2.2.2.1.1 t.2.2.2.2.2.2.2.1.2.1 t.2.2.2.2.2.2.2.1.2.2.1 t.2.2.2.2.2.2.2.1.2.2.2.1.1 t.2.2.2.2.2.2.2.1.2.2.2.1.2 t.2.2.2.2.2.2.2.2.1.1 t.2.2.2.2.2.2.2.2.1.2.1.1 t.2.2.2.2.2.2.2.2.1.2.1.2.1 t.2.2.2.2.2.2.2.2.1.2.1.2.2.1 t.2.2.2.2.2.2.2.2.1.2.1.2.2.2.1 t.2.2.2.2.2.2.2.2.1.2.1.2.2.2.2.1 (Vg h)) aW)
def Is:List aJ:=Ir :: Yh
theorem dD:aY prog (bb Is):=au PG sT
end
end Go.Plb.Seat
namespace Go.Plb.Seat
open Go Go.Plb
set_option linter.unusedVariables false
set_option maxRecDepth 100000
noncomputable section
inductive aD where
  | r0 (a:Nat) (b:Bool) (c:List Int) (d:Nat) (e:Nat) (f:Int)
def bd:aD→AE×aL
  | .r0 a b c d e f=>(.ret,⟨ah 46 [(4,.ptr 0 1 0 0),(5,.int .i64 ((a:Nat):Int))],[(0,.vs [.bool false b,.imm .free (.ns .u64 c) 1 1 d e,.int .i64 f])],1⟩)
theorem bh:kR bd:=by intro x;cases x <;> (intro h;cases h)
theorem jz(id:Nat) :qE id bd:=by intro x;cases x <;> (intro h;cases h)
def jQ:aD→jc
  | .r0 a b c d e f=>⟨.tup [.agg [.bool false b,.imm .free (.ns .u64 c) 1 1 d e,.int .i64 f],.int .i64 ((a:Nat):Int)],[]⟩
def fI:List Code:=bJ (bi dA)
def ov(h:Int)(i:Int)(j:Lv)(k:Lv)(a:Nat)(l:List Bool)(m:List (List Int))(n:List Int)(o:Lv)(p:Int)(q:Int)(r:Lv)(b:List Nat)(s:Lv)(t:Lv)(c:Nat)(u:List Bool)(v:List (List Int))(w:List Int)(x:Lv)(y:Int)(z:Int)(A:Lv)(d:List Nat)(B:Lv)(C:Lv)(e:Nat)(D:List Bool)(E:List (List Int))(F:List Int)(G:Lv)(H:Int)(I:Int)(J:Lv)(f:List Nat)(K:Lv)(L:Lv)(g:Nat)(M:List Bool)(N:List (List Int))(O:List Int)(P:Bool) :aL:=⟨ah 46 [(1,.fn (.func cd) [] [.iptr j (.vs [.imm k (.cols a [.cb l,.cns .u64 m,.ci .i64 n]) 3 3 0 a]) 1 0 0,.iptr o (.vs [.int .i64 p,.int .i64 q,.imm r (.fl b) 1 1 0 (List.length b)]) 1 0 0,.iptr s (.vs [.imm t (.cols c [.cb u,.cns .u64 v,.ci .i64 w]) 3 3 0 c]) 1 0 0,.iptr x (.vs [.int .i64 y,.int .i64 z,.imm A (.fl d) 1 1 0 (List.length d)]) 1 0 0,.iptr B (.vs [.imm C (.cols e [.cb D,.cns .u64 E,.ci .i64 F]) 3 3 0 e]) 1 0 0,.iptr G (.vs [.int .i64 H,.int .i64 I,.imm J (.fl f) 1 1 0 (List.length f)]) 1 0 0,.iptr K (.vs [.imm L (.cols g [.cb M,.cns .u64 N,.ci .i64 O]) 3 3 0 g]) 1 0 0]),(2,.ptr 0 1 0 0),(4,.ptr 1 1 0 0)],[(0,.vs [.int .i64 h,.int .i64 i]),(1,.vs [.bool false P,.nsl,.int .i64 (0:Int)])],2⟩
def nI:T ((Bool)⊕(aD)) :=
  .leaf (.inl false)
def da:List Code:=bJ (Q3 (((fI.drop 1)).headD .skip))
def ow(a:Int)(i:Int)(j:Lv)(k:Lv)(b:Nat)(l:List Bool)(m:List (List Int))(n:List Int)(o:Lv)(p:Int)(q:Int)(r:Lv)(c:List Nat)(s:Lv)(t:Lv)(d:Nat)(u:List Bool)(v:List (List Int))(w:List Int)(x:Lv)(y:Int)(z:Int)(A:Lv)(e:List Nat)(B:Lv)(C:Lv)(f:Nat)(D:List Bool)(E:List (List Int))(F:List Int)(G:Lv)(H:Int)(I:Int)(J:Lv)(g:List Nat)(K:Lv)(L:Lv)(h:Nat)(M:List Bool)(N:List (List Int))(O:List Int)(P:Bool)(_:Unit) :aL:=⟨ah 46 [(1,.fn (.func cd) [] [.iptr j (.vs [.imm k (.cols b [.cb l,.cns .u64 m,.ci .i64 n]) 3 3 0 b]) 1 0 0,.iptr o (.vs [.int .i64 p,.int .i64 q,.imm r (.fl c) 1 1 0 (List.length c)]) 1 0 0,.iptr s (.vs [.imm t (.cols d [.cb u,.cns .u64 v,.ci .i64 w]) 3 3 0 d]) 1 0 0,.iptr x (.vs [.int .i64 y,.int .i64 z,.imm A (.fl e) 1 1 0 (List.length e)]) 1 0 0,.iptr B (.vs [.imm C (.cols f [.cb D,.cns .u64 E,.ci .i64 F]) 3 3 0 f]) 1 0 0,.iptr G (.vs [.int .i64 H,.int .i64 I,.imm J (.fl g) 1 1 0 (List.length g)]) 1 0 0,.iptr K (.vs [.imm L (.cols h [.cb M,.cns .u64 N,.ci .i64 O]) 3 3 0 h]) 1 0 0]),(2,.ptr 0 1 0 0),(4,.ptr 1 1 0 0),(6,.nsl),(7,.int .i64 (0:Int)),(13,.int .i64 a),(14,.int .i64 (0:Int))],[(0,.vs [.int .i64 a,.int .i64 i]),(1,.vs [.bool false P,.nsl,.int .i64 (0:Int)])],2⟩
def nJ:T ((Unit)⊕(aD)) :=
  .leaf (.inl ())
def db(a:Int)(i:Int)(j:Lv)(k:Lv)(b:Nat)(l:List Bool)(m:List (List Int))(n:List Int)(o:Lv)(p:Int)(q:Int)(r:Lv)(c:List Nat)(s:Lv)(t:Lv)(d:Nat)(u:List Bool)(v:List (List Int))(w:List Int)(x:Lv)(y:Int)(z:Int)(A:Lv)(e:List Nat)(B:Lv)(C:Lv)(f:Nat)(D:List Bool)(E:List (List Int))(F:List Int)(G:Lv)(H:Int)(I:Int)(J:Lv)(g:List Nat)(K:Lv)(L:Lv)(h:Nat)(M:List Bool)(N:List (List Int))(O:List Int)(P:Bool) :Nat×Nat×Nat×Nat×Nat×(List Bool)×(List (List Int))×(List Int)→aL:=fun (Q,R,S,T,U,V,W,X)=>⟨ah 46 [(1,.fn (.func cd) [] [.iptr j (.vs [.imm k (.cols b [.cb l,.cns .u64 m,.ci .i64 n]) 3 3 0 b]) 1 0 0,.iptr o (.vs [.int .i64 p,.int .i64 q,.imm r (.fl c) 1 1 0 (List.length c)]) 1 0 0,.iptr s (.vs [.imm t (.cols d [.cb u,.cns .u64 v,.ci .i64 w]) 3 3 0 d]) 1 0 0,.iptr x (.vs [.int .i64 y,.int .i64 z,.imm A (.fl e) 1 1 0 (List.length e)]) 1 0 0,.iptr B (.vs [.imm C (.cols f [.cb D,.cns .u64 E,.ci .i64 F]) 3 3 0 f]) 1 0 0,.iptr G (.vs [.int .i64 H,.int .i64 I,.imm J (.fl g) 1 1 0 (List.length g)]) 1 0 0,.iptr K (.vs [.imm L (.cols h [.cb M,.cns .u64 N,.ci .i64 O]) 3 3 0 h]) 1 0 0]),(2,.ptr 0 1 0 0),(4,.ptr 1 1 0 0),(6,.sl 2 3 3 0 Q R),(7,.int .i64 ((S:Nat):Int)),(13,.int .i64 a),(14,.int .i64 ((T:Nat):Int))],[(0,.vs [.int .i64 a,.int .i64 i]),(1,.vs [.bool false P,.nsl,.int .i64 (0:Int)]),(2,.cols U [.cb V,.cns .u64 W,.ci .i64 X])],3⟩
def bP(a:Bool) :Nat×Nat×Nat×Nat×(List Bool)×(List (List Int))×(List Int)→aL:=fun (b,c,d,e,f,g,h)=>⟨ah 46 [(4,.ptr 0 1 0 0),(6,.sl 1 3 3 0 b c),(7,.int .i64 ((d:Nat):Int))],[(0,.vs [.bool false a,.nsl,.int .i64 (0:Int)]),(1,.cols e [.cb f,.cns .u64 g,.ci .i64 h])],2⟩
def dc:List Code:=bJ (bK ((((da.drop 3).take 1)).headD .skip))
def nK(a:Int)(i:Int)(j:Lv)(k:Lv)(b:Nat)(l:List Bool)(m:List (List Int))(n:List Int)(o:Lv)(p:Int)(q:Int)(r:Lv)(c:List Nat)(s:Lv)(t:Lv)(d:Nat)(u:List Bool)(v:List (List Int))(w:List Int)(x:Lv)(y:Int)(z:Int)(A:Lv)(e:List Nat)(B:Lv)(C:Lv)(f:Nat)(D:List Bool)(E:List (List Int))(F:List Int)(G:Lv)(H:Int)(I:Int)(J:Lv)(g:List Nat)(K:Lv)(L:Lv)(h:Nat)(M:List Bool)(N:List (List Int))(O:List Int)(P:Bool)(Q:Nat)(R:Nat)(S:Nat)(T:Nat)(U:Nat)(V:List Bool)(W:List (List Int))(X:List Int)(_:Unit) :aL:=⟨ah 46 [(1,.fn (.func cd) [] [.iptr j (.vs [.imm k (.cols b [.cb l,.cns .u64 m,.ci .i64 n]) 3 3 0 b]) 1 0 0,.iptr o (.vs [.int .i64 p,.int .i64 q,.imm r (.fl c) 1 1 0 (List.length c)]) 1 0 0,.iptr s (.vs [.imm t (.cols d [.cb u,.cns .u64 v,.ci .i64 w]) 3 3 0 d]) 1 0 0,.iptr x (.vs [.int .i64 y,.int .i64 z,.imm A (.fl e) 1 1 0 (List.length e)]) 1 0 0,.iptr B (.vs [.imm C (.cols f [.cb D,.cns .u64 E,.ci .i64 F]) 3 3 0 f]) 1 0 0,.iptr G (.vs [.int .i64 H,.int .i64 I,.imm J (.fl g) 1 1 0 (List.length g)]) 1 0 0,.iptr K (.vs [.imm L (.cols h [.cb M,.cns .u64 N,.ci .i64 O]) 3 3 0 h]) 1 0 0]),(2,.ptr 0 1 0 0),(4,.ptr 1 1 0 0),(6,.sl 2 3 3 0 Q R),(7,.int .i64 ((S:Nat):Int)),(13,.int .i64 a),(14,.int .i64 ((T:Nat):Int))],[(0,.vs [.int .i64 a,.int .i64 i]),(1,.vs [.bool false P,.nsl,.int .i64 (0:Int)]),(2,.cols U [.cb V,.cns .u64 W,.ci .i64 X])],3⟩
def fJ(a:Int)(b:Nat)(c:Nat)(d:Nat)(e:Nat)(f:Nat)(g:List Bool)(h:List (List Int))(i:List Int) :T ((Unit)⊕((Nat×Nat×Nat×Nat×(List Bool)×(List (List Int))×(List Int))⊕(aD))) :=
  .ask (decide (((e:Nat):Int) < a))
    (.leaf (.inl ()))
    (.leaf (.inr (.inl (b,c,d,f,g,h,i))))
def cn(a:Int)(i:Int)(j:Lv)(k:Lv)(b:Nat)(l:List Bool)(m:List (List Int))(n:List Int)(o:Lv)(p:Int)(q:Int)(r:Lv)(c:List Nat)(s:Lv)(t:Lv)(d:Nat)(u:List Bool)(v:List (List Int))(w:List Int)(x:Lv)(y:Int)(z:Int)(A:Lv)(e:List Nat)(B:Lv)(C:Lv)(f:Nat)(D:List Bool)(E:List (List Int))(F:List Int)(G:Lv)(H:Int)(I:Int)(J:Lv)(g:List Nat)(K:Lv)(L:Lv)(h:Nat)(M:List Bool)(N:List (List Int))(O:List Int)(P:Bool)(Q:Nat) :Nat×Nat×Nat×Nat×(List Bool)×(List (List Int))×(List Int)→aL:=fun (R,S,T,U,V,W,X)=>⟨ah 46 [(1,.fn (.func cd) [] [.iptr j (.vs [.imm k (.cols b [.cb l,.cns .u64 m,.ci .i64 n]) 3 3 0 b]) 1 0 0,.iptr o (.vs [.int .i64 p,.int .i64 q,.imm r (.fl c) 1 1 0 (List.length c)]) 1 0 0,.iptr s (.vs [.imm t (.cols d [.cb u,.cns .u64 v,.ci .i64 w]) 3 3 0 d]) 1 0 0,.iptr x (.vs [.int .i64 y,.int .i64 z,.imm A (.fl e) 1 1 0 (List.length e)]) 1 0 0,.iptr B (.vs [.imm C (.cols f [.cb D,.cns .u64 E,.ci .i64 F]) 3 3 0 f]) 1 0 0,.iptr G (.vs [.int .i64 H,.int .i64 I,.imm J (.fl g) 1 1 0 (List.length g)]) 1 0 0,.iptr K (.vs [.imm L (.cols h [.cb M,.cns .u64 N,.ci .i64 O]) 3 3 0 h]) 1 0 0]),(2,.ptr 0 1 0 0),(4,.ptr 1 1 0 0),(6,.sl 2 3 3 0 R S),(7,.int .i64 ((T:Nat):Int)),(13,.int .i64 a),(14,.int .i64 ((Q:Nat):Int))],[(0,.vs [.int .i64 a,.int .i64 i]),(1,.vs [.bool false P,.nsl,.int .i64 (0:Int)]),(2,.cols U [.cb V,.cns .u64 W,.ci .i64 X])],3⟩
def dX:List Code:=bJ (inBlock ((((dc.drop 2).take 1)).headD .skip))
def nL(a:Int)(b:Int)(k:Lv)(l:Lv)(c:Nat)(m:List Bool)(n:List (List Int))(o:List Int)(p:Lv)(q:Int)(r:Int)(s:Lv)(d:List Nat)(t:Lv)(u:Lv)(e:Nat)(v:List Bool)(w:List (List Int))(x:List Int)(y:Lv)(z:Int)(A:Int)(B:Lv)(f:List Nat)(C:Lv)(D:Lv)(g:Nat)(E:List Bool)(F:List (List Int))(G:List Int)(H:Lv)(I:Int)(J:Int)(K:Lv)(h:List Nat)(L:Lv)(M:Lv)(i:Nat)(N:List Bool)(O:List (List Int))(P:List Int)(Q:Bool)(R:Nat)(S:Nat)(T:Nat)(j:Nat)(U:Nat)(V:List Bool)(W:List (List Int))(X:List Int)(_:Unit) :aL:=⟨ah 46 [(1,.fn (.func cd) [] [.iptr k (.vs [.imm l (.cols c [.cb m,.cns .u64 n,.ci .i64 o]) 3 3 0 c]) 1 0 0,.iptr p (.vs [.int .i64 q,.int .i64 r,.imm s (.fl d) 1 1 0 (List.length d)]) 1 0 0,.iptr t (.vs [.imm u (.cols e [.cb v,.cns .u64 w,.ci .i64 x]) 3 3 0 e]) 1 0 0,.iptr y (.vs [.int .i64 z,.int .i64 A,.imm B (.fl f) 1 1 0 (List.length f)]) 1 0 0,.iptr C (.vs [.imm D (.cols g [.cb E,.cns .u64 F,.ci .i64 G]) 3 3 0 g]) 1 0 0,.iptr H (.vs [.int .i64 I,.int .i64 J,.imm K (.fl h) 1 1 0 (List.length h)]) 1 0 0,.iptr L (.vs [.imm M (.cols i [.cb N,.cns .u64 O,.ci .i64 P]) 3 3 0 i]) 1 0 0]),(2,.ptr 0 1 0 0),(4,.ptr 1 1 0 0),(6,.sl 2 3 3 0 R S),(7,.int .i64 ((T:Nat):Int)),(8,.int .i64 ((j:Nat):Int)),(13,.int .i64 a),(14,.int .i64 ((j:Nat):Int)),(18,.int .i64 b),(19,.int .i64 (0:Int))],[(0,.vs [.int .i64 a,.int .i64 b]),(1,.vs [.bool false Q,.nsl,.int .i64 (0:Int)]),(2,.cols U [.cb V,.cns .u64 W,.ci .i64 X])],3⟩
def nN:T ((Unit)⊕((Nat×Nat×Nat×Nat×(List Bool)×(List (List Int))×(List Int))⊕((Nat×Nat×Nat×Nat×(List Bool)×(List (List Int))×(List Int))⊕(aD)))) :=
  .leaf (.inl ())
def dd(a:Int)(b:Int)(k:Lv)(l:Lv)(c:Nat)(m:List Bool)(n:List (List Int))(o:List Int)(p:Lv)(q:Int)(r:Int)(s:Lv)(d:List Nat)(t:Lv)(u:Lv)(e:Nat)(v:List Bool)(w:List (List Int))(x:List Int)(y:Lv)(z:Int)(A:Int)(B:Lv)(f:List Nat)(C:Lv)(D:Lv)(g:Nat)(E:List Bool)(F:List (List Int))(G:List Int)(H:Lv)(I:Int)(J:Int)(K:Lv)(h:List Nat)(L:Lv)(M:Lv)(i:Nat)(N:List Bool)(O:List (List Int))(P:List Int)(Q:Bool)(j:Nat) :Nat×Nat×Nat×Nat×Nat×(List Bool)×(List (List Int))×(List Int)→aL:=fun (R,S,T,U,V,W,X,Y)=>⟨ah 46 [(1,.fn (.func cd) [] [.iptr k (.vs [.imm l (.cols c [.cb m,.cns .u64 n,.ci .i64 o]) 3 3 0 c]) 1 0 0,.iptr p (.vs [.int .i64 q,.int .i64 r,.imm s (.fl d) 1 1 0 (List.length d)]) 1 0 0,.iptr t (.vs [.imm u (.cols e [.cb v,.cns .u64 w,.ci .i64 x]) 3 3 0 e]) 1 0 0,.iptr y (.vs [.int .i64 z,.int .i64 A,.imm B (.fl f) 1 1 0 (List.length f)]) 1 0 0,.iptr C (.vs [.imm D (.cols g [.cb E,.cns .u64 F,.ci .i64 G]) 3 3 0 g]) 1 0 0,.iptr H (.vs [.int .i64 I,.int .i64 J,.imm K (.fl h) 1 1 0 (List.length h)]) 1 0 0,.iptr L (.vs [.imm M (.cols i [.cb N,.cns .u64 O,.ci .i64 P]) 3 3 0 i]) 1 0 0]),(2,.ptr 0 1 0 0),(4,.ptr 1 1 0 0),(6,.sl 2 3 3 0 R S),(7,.int .i64 ((T:Nat):Int)),(8,.int .i64 ((j:Nat):Int)),(13,.int .i64 a),(14,.int .i64 ((j:Nat):Int)),(18,.int .i64 b),(19,.int .i64 ((U:Nat):Int))],[(0,.vs [.int .i64 a,.int .i64 b]),(1,.vs [.bool false Q,.nsl,.int .i64 (0:Int)]),(2,.cols V [.cb W,.cns .u64 X,.ci .i64 Y])],3⟩
def dY(a:Int)(i:Int)(j:Lv)(k:Lv)(b:Nat)(l:List Bool)(m:List (List Int))(n:List Int)(o:Lv)(p:Int)(q:Int)(r:Lv)(c:List Nat)(s:Lv)(t:Lv)(d:Nat)(u:List Bool)(v:List (List Int))(w:List Int)(x:Lv)(y:Int)(z:Int)(A:Lv)(e:List Nat)(B:Lv)(C:Lv)(f:Nat)(D:List Bool)(E:List (List Int))(F:List Int)(G:Lv)(H:Int)(I:Int)(J:Lv)(g:List Nat)(K:Lv)(L:Lv)(h:Nat)(M:List Bool)(N:List (List Int))(O:List Int)(P:Bool)(Q:Nat) :Nat×Nat×Nat×Nat×(List Bool)×(List (List Int))×(List Int)→aL:=fun (R,S,T,U,V,W,X)=>⟨ah 46 [(1,.fn (.func cd) [] [.iptr j (.vs [.imm k (.cols b [.cb l,.cns .u64 m,.ci .i64 n]) 3 3 0 b]) 1 0 0,.iptr o (.vs [.int .i64 p,.int .i64 q,.imm r (.fl c) 1 1 0 (List.length c)]) 1 0 0,.iptr s (.vs [.imm t (.cols d [.cb u,.cns .u64 v,.ci .i64 w]) 3 3 0 d]) 1 0 0,.iptr x (.vs [.int .i64 y,.int .i64 z,.imm A (.fl e) 1 1 0 (List.length e)]) 1 0 0,.iptr B (.vs [.imm C (.cols f [.cb D,.cns .u64 E,.ci .i64 F]) 3 3 0 f]) 1 0 0,.iptr G (.vs [.int .i64 H,.int .i64 I,.imm J (.fl g) 1 1 0 (List.length g)]) 1 0 0,.iptr K (.vs [.imm L (.cols h [.cb M,.cns .u64 N,.ci .i64 O]) 3 3 0 h]) 1 0 0]),(2,.ptr 0 1 0 0),(4,.ptr 1 1 0 0),(6,.sl 2 3 3 0 R S),(7,.int .i64 ((T:Nat):Int)),(13,.int .i64 a),(14,.int .i64 ((Q:Nat):Int))],[(0,.vs [.int .i64 a,.int .i64 i]),(1,.vs [.bool false P,.nsl,.int .i64 (0:Int)]),(2,.cols U [.cb V,.cns .u64 W,.ci .i64 X])],3⟩
def i6:List Code:=bJ (bK ((((dX.drop 2).take 1)).headD .skip))
def nO(b:Int)(c:Int)(l:Lv)(m:Lv)(d:Nat)(n:List Bool)(o:List (List Int))(p:List Int)(q:Lv)(r:Int)(s:Int)(t:Lv)(e:List Nat)(u:Lv)(v:Lv)(f:Nat)(w:List Bool)(x:List (List Int))(y:List Int)(z:Lv)(A:Int)(B:Int)(C:Lv)(g:List Nat)(D:Lv)(E:Lv)(h:Nat)(F:List Bool)(G:List (List Int))(H:List Int)(I:Lv)(J:Int)(K:Int)(L:Lv)(i:List Nat)(M:Lv)(N:Lv)(j:Nat)(O:List Bool)(P:List (List Int))(Q:List Int)(R:Bool)(k:Nat)(S:Nat) :Nat×Nat×(List Bool)×(List (List Int))×(List Int)→aL:=fun (a,T,U,V,W)=>⟨ah 46 [(1,.fn (.func cd) [] [.iptr l (.vs [.imm m (.cols d [.cb n,.cns .u64 o,.ci .i64 p]) 3 3 0 d]) 1 0 0,.iptr q (.vs [.int .i64 r,.int .i64 s,.imm t (.fl e) 1 1 0 (List.length e)]) 1 0 0,.iptr u (.vs [.imm v (.cols f [.cb w,.cns .u64 x,.ci .i64 y]) 3 3 0 f]) 1 0 0,.iptr z (.vs [.int .i64 A,.int .i64 B,.imm C (.fl g) 1 1 0 (List.length g)]) 1 0 0,.iptr D (.vs [.imm E (.cols h [.cb F,.cns .u64 G,.ci .i64 H]) 3 3 0 h]) 1 0 0,.iptr I (.vs [.int .i64 J,.int .i64 K,.imm L (.fl i) 1 1 0 (List.length i)]) 1 0 0,.iptr M (.vs [.imm N (.cols j [.cb O,.cns .u64 P,.ci .i64 Q]) 3 3 0 j]) 1 0 0]),(2,.ptr 0 1 0 0),(4,.ptr 1 1 0 0),(6,.sl 2 3 3 0 a a),(7,.int .i64 ((T:Nat):Int)),(8,.int .i64 ((k:Nat):Int)),(13,.int .i64 b),(14,.int .i64 ((k:Nat):Int)),(18,.int .i64 c),(19,.int .i64 ((S:Nat):Int))],[(0,.vs [.int .i64 b,.int .i64 c]),(1,.vs [.bool false R,.nsl,.int .i64 (0:Int)]),(2,.cols a [.cb U,.cns .u64 V,.ci .i64 W])],3⟩
def dZ(E:Int)(a:Nat)(f:List Bool)(g:List (List Int))(h:List Int)(i:Int)(A:List Nat)(b:Nat)(j:List Bool)(k:List (List Int))(l:List Int)(m:Int)(B:List Nat)(c:Nat)(n:List Bool)(o:List (List Int))(p:List Int)(q:Int)(C:List Nat)(d:Nat)(r:List Bool)(s:List (List Int))(t:List Int)(u:Nat)(v:Nat)(D:Nat)(F:Nat)(e:Nat)(w:Nat)(x:List Bool)(y:List (List Int))(z:List Int) :T ((Nat×Nat×(List Bool)×(List (List Int))×(List Int))⊕((Nat×Nat×Nat×Nat×(List Bool)×(List (List Int))×(List Int))⊕((Nat×Nat×Nat×Nat×(List Bool)×(List (List Int))×(List Int))⊕((Nat×Nat×Nat×Nat×(List Bool)×(List (List Int))×(List Int))⊕(aD))))) :=
  .ask (decide (((e:Nat):Int) < E))
    (.need (Nat.ble (0+a) a)<|.need (aQ 0 (List.length A) A)<|.need (Nat.ble (0+b) b)<|.need (aQ 0 (List.length B) B)<|.need (Nat.ble (0+c) c)<|.need (aQ 0 (List.length C) C)<|.need (Nat.ble (0+d) d)<|.need (ou (bS ((u:Nat):Int) ((e:Nat):Int) a (aa 0 a f) (aa 0 a g) (aa 0 a h) i b (aa 0 b j) (aa 0 b k) (aa 0 b l) m c (aa 0 c n) (aa 0 c o) (aa 0 c p) q d (aa 0 d r) (aa 0 d s) (aa 0 d t)))<|.ask ((((jM (bS ((u:Nat):Int) ((e:Nat):Int) a (aa 0 a f) (aa 0 a g) (aa 0 a h) i b (aa 0 b j) (aa 0 b k) (aa 0 b l) m c (aa 0 c n) (aa 0 c o) (aa 0 c p) q d (aa 0 d r) (aa 0 d s) (aa 0 d t))):Nat):Int) != (0:Int))
      (.leaf (.inr (.inr (.inr (.inl (v,D,(jM (bS ((u:Nat):Int) ((e:Nat):Int) a (aa 0 a f) (aa 0 a g) (aa 0 a h) i b (aa 0 b j) (aa 0 b k) (aa 0 b l) m c (aa 0 c n) (aa 0 c o) (aa 0 c p) q d (aa 0 d r) (aa 0 d s) (aa 0 d t))),w,x,y,z))))))
      (.need (tZ ((v+1) * 40) 140737488355328)<|.need (tZ (v+1) 9223372036854775807)<|.need (tZ 3 3)<|.need (tZ v w)<|.need (decide ((l5 (bS ((u:Nat):Int) ((e:Nat):Int) a (aa 0 a f) (aa 0 a g) (aa 0 a h) i b (aa 0 b j) (aa 0 b k) (aa 0 b l) m c (aa 0 c n) (aa 0 c o) (aa 0 c p) q d (aa 0 d r) (aa 0 d s) (aa 0 d t)))+(l6 (bS ((u:Nat):Int) ((e:Nat):Int) a (aa 0 a f) (aa 0 a g) (aa 0 a h) i b (aa 0 b j) (aa 0 b k) (aa 0 b l) m c (aa 0 c n) (aa 0 c o) (aa 0 c p) q d (aa 0 d r) (aa 0 d s) (aa 0 d t)))≤List.length (l4 (bS ((u:Nat):Int) ((e:Nat):Int) a (aa 0 a f) (aa 0 a g) (aa 0 a h) i b (aa 0 b j) (aa 0 b k) (aa 0 b l) m c (aa 0 c n) (aa 0 c o) (aa 0 c p) q d (aa 0 d r) (aa 0 d s) (aa 0 d t)))))<|.leaf (.inl ((v+1),(jM (bS ((u:Nat):Int) ((e:Nat):Int) a (aa 0 a f) (aa 0 a g) (aa 0 a h) i b (aa 0 b j) (aa 0 b k) (aa 0 b l) m c (aa 0 c n) (aa 0 c o) (aa 0 c p) q d (aa 0 d r) (aa 0 d s) (aa 0 d t))),((List.take v x) ++ [(qd (bS ((u:Nat):Int) ((e:Nat):Int) a (aa 0 a f) (aa 0 a g) (aa 0 a h) i b (aa 0 b j) (aa 0 b k) (aa 0 b l) m c (aa 0 c n) (aa 0 c o) (aa 0 c p) q d (aa 0 d r) (aa 0 d s) (aa 0 d t)))]),((List.take v y) ++ [(List.take (l6 (bS ((u:Nat):Int) ((e:Nat):Int) a (aa 0 a f) (aa 0 a g) (aa 0 a h) i b (aa 0 b j) (aa 0 b k) (aa 0 b l) m c (aa 0 c n) (aa 0 c o) (aa 0 c p) q d (aa 0 d r) (aa 0 d s) (aa 0 d t))) (List.drop (l5 (bS ((u:Nat):Int) ((e:Nat):Int) a (aa 0 a f) (aa 0 a g) (aa 0 a h) i b (aa 0 b j) (aa 0 b k) (aa 0 b l) m c (aa 0 c n) (aa 0 c o) (aa 0 c p) q d (aa 0 d r) (aa 0 d s) (aa 0 d t))) (l4 (bS ((u:Nat):Int) ((e:Nat):Int) a (aa 0 a f) (aa 0 a g) (aa 0 a h) i b (aa 0 b j) (aa 0 b k) (aa 0 b l) m c (aa 0 c n) (aa 0 c o) (aa 0 c p) q d (aa 0 d r) (aa 0 d s) (aa 0 d t)))))]),((List.take v z) ++ [(qe (bS ((u:Nat):Int) ((e:Nat):Int) a (aa 0 a f) (aa 0 a g) (aa 0 a h) i b (aa 0 b j) (aa 0 b k) (aa 0 b l) m c (aa 0 c n) (aa 0 c o) (aa 0 c p) q d (aa 0 d r) (aa 0 d s) (aa 0 d t)))])))))
    (.leaf (.inr (.inl (v,D,F,w,x,y,z))))
def nP(b:Nat)(a:Nat)(c:Nat)(d:List Bool)(e:List (List Int))(f:List Int) :T ((Nat×Nat×Nat×Nat×Nat×(List Bool)×(List (List Int))×(List Int))⊕((Nat×Nat×Nat×Nat×(List Bool)×(List (List Int))×(List Int))⊕((Nat×Nat×Nat×Nat×(List Bool)×(List (List Int))×(List Int))⊕((Nat×Nat×Nat×Nat×(List Bool)×(List (List Int))×(List Int))⊕(aD))))) :=
  .need (d8 .i64 (((b+1):Nat):Int))<|.leaf (.inl (a,a,c,(b+1),a,d,e,f))
def i7(b:Int)(c:Nat)(d:List Bool)(e:List (List Int))(f:List Int)(g:Int)(h:List Nat)(i:Nat)(j:List Bool)(k:List (List Int))(l:List Int)(m:Int)(n:List Nat)(o:Nat)(p:List Bool)(q:List (List Int))(r:List Int)(s:Int)(t:List Nat)(u:Nat)(v:List Bool)(w:List (List Int))(x:List Int)(y:Nat) :Nat×Nat×Nat×Nat×Nat×(List Bool)×(List (List Int))×(List Int)→Option ((Nat×Nat×Nat×Nat×Nat×(List Bool)×(List (List Int))×(List Int))⊕((Nat×Nat×Nat×Nat×(List Bool)×(List (List Int))×(List Int))⊕((Nat×Nat×Nat×Nat×(List Bool)×(List (List Int))×(List Int))⊕((Nat×Nat×Nat×Nat×(List Bool)×(List (List Int))×(List Int))⊕(aD))))):=fun (z,A,B,a,C,D,E,F) =>
  aC ((dZ b c d e f g h i j k l m n o p q r s t u v w x y z A B a C D E F).run) fun (G,H,I,J,K) =>
  (nP a G H I J K).run
theorem xn(A:Int)(c:Int)(B:Lv)(D:Lv)(d:Nat)(e:List Bool)(f:List (List Int))(g:List Int)(E:Lv)(F:Int)(h:Int)(G:Lv)(i:List Nat)(H:Lv)(I:Lv)(j:Nat)(k:List Bool)(l:List (List Int))(m:List Int)(J:Lv)(K:Int)(n:Int)(L:Lv)(o:List Nat)(M:Lv)(N:Lv)(p:Nat)(q:List Bool)(r:List (List Int))(s:List Int)(O:Lv)(P:Int)(t:Int)(Q:Lv)(u:List Nat)(R:Lv)(S:Lv)(v:Nat)(w:List Bool)(x:List (List Int))(y:List Int)(b:Bool)(z:Nat)(U:Nat)(V:Nat)(W:Nat)(T:Nat)(X:Nat)(Y:List Bool)(Z:List (List Int))(a0:List Int) :Sg prog [] i6 (dd A c B D d e f g E F h G i H I j k l m J K n L o M N p q r s O P t Q u R S v w x y b z (U,V,W,T,X,Y,Z,a0)) (i7 c d e f g h i j k l m n o p q r s t u v w x y z (U,V,W,T,X,Y,Z,a0)) (dd A c B D d e f g E F h G i H I j k l m J K n L o M N p q r s O P t Q u R S v w x y b z) (aN 2 (dY A c B D d e f g E F h G i H I j k l m J K n L o M N p q r s O P t Q u R S v w x y b z) (aN 1 (cn A c B D d e f g E F h G i H I j k l m J K n L o M N p q r s O P t Q u R S v w x y b z) (aN 0 (bP b) bd))):=by
  unfold i7;exact Sg.cut 3 (aI (aI (aI bh))) (Sg.seg (C:=C0) an dD 60 (i6.take 3) (dd A c B D d e f g E F h G i H I j k l m J K n L o M N p q r s O P t Q u R S v w x y b z (U,V,W,T,X,Y,Z,a0)) (dZ c d e f g h i j k l m n o p q r s t u v w x y z U V W T X Y Z a0) (nO A c B D d e f g E F h G i H I j k l m J K n L o M N p q r s O P t Q u R S v w x y b z T) (aN 2 (dY A c B D d e f g E F h G i H I j k l m J K n L o M N p q r s O P t Q u R S v w x y b z) (aN 1 (cn A c B D d e f g E F h G i H I j k l m J K n L o M N p q r s O P t Q u R S v w x y b z) (aN 0 (bP b) bd))) [⟨[],[1,2],[4,6,7]⟩,⟨[],[0,1,323],[1,2,4,6,7,8,13,14,18,19]⟩,⟨[],[0,1,2],[1,2,4,6,7,13,14]⟩] (by kernel_rfl)) (fun a=>by obtain ⟨a1,a2,a3,a4,a5⟩:=a;exact Sg.seg (C:=C0) an dD 60 (i6.drop 3) (nO A c B D d e f g E F h G i H I j k l m J K n L o M N p q r s O P t Q u R S v w x y b z T (a1,a2,a3,a4,a5)) (nP T a1 a2 a3 a4 a5) (dd A c B D d e f g E F h G i H I j k l m J K n L o M N p q r s O P t Q u R S v w x y b z) (aN 2 (dY A c B D d e f g E F h G i H I j k l m J K n L o M N p q r s O P t Q u R S v w x y b z) (aN 1 (cn A c B D d e f g E F h G i H I j k l m J K n L o M N p q r s O P t Q u R S v w x y b z) (aN 0 (bP b) bd))) [⟨[],[0,1,2],[1,2,4,6,7,8,13,14,18,19]⟩] (by kernel_rfl))
def xo(a:Int)(b:Int)(c:Lv)(d:Lv)(e:Nat)(f:List Bool)(g:List (List Int))(h:List Int)(i:Lv)(j:Int)(k:Int)(l:Lv)(m:List Nat)(n:Lv)(o:Lv)(p:Nat)(q:List Bool)(r:List (List Int))(s:List Int)(t:Lv)(u:Int)(v:Int)(w:Lv)(x:List Nat)(y:Lv)(z:Lv)(A:Nat)(B:List Bool)(C:List (List Int))(D:List Int)(E:Lv)(F:Int)(G:Int)(H:Lv)(I:List Nat)(J:Lv)(K:Lv)(L:Nat)(M:List Bool)(N:List (List Int))(O:List Int)(P:Bool)(Q:Nat) :Nat×Nat×Nat×Nat×(List Bool)×(List (List Int))×(List Int)→aL:=dY a b c d e f g h i j k l m n o p q r s t u v w x y z A B C D E F G H I J K L M N O P Q
def nQ(a:Nat)(b:Nat)(c:Nat)(d:Nat)(e:List Bool)(f:List (List Int))(g:List Int) :T ((Nat×Nat×Nat×Nat×(List Bool)×(List (List Int))×(List Int))⊕((Nat×Nat×Nat×Nat×(List Bool)×(List (List Int))×(List Int))⊕((Nat×Nat×Nat×Nat×(List Bool)×(List (List Int))×(List Int))⊕(aD)))) :=
  .leaf (.inl (a,b,c,d,e,f,g))
def xp(a:Int)(b:Int)(c:Lv)(d:Lv)(e:Nat)(f:List Bool)(g:List (List Int))(h:List Int)(i:Lv)(j:Int)(k:Int)(l:Lv)(m:List Nat)(n:Lv)(o:Lv)(p:Nat)(q:List Bool)(r:List (List Int))(s:List Int)(t:Lv)(u:Int)(v:Int)(w:Lv)(x:List Nat)(y:Lv)(z:Lv)(A:Nat)(B:List Bool)(C:List (List Int))(D:List Int)(E:Lv)(F:Int)(G:Int)(H:Lv)(I:List Nat)(J:Lv)(K:Lv)(L:Nat)(M:List Bool)(N:List (List Int))(O:List Int)(P:Bool)(Q:Nat) :Nat×Nat×Nat×Nat×(List Bool)×(List (List Int))×(List Int)→aL:=cn a b c d e f g h i j k l m n o p q r s t u v w x y z A B C D E F G H I J K L M N O P Q
def nR(a:Nat)(b:Nat)(c:Nat)(d:Nat)(e:Nat)(f:List Bool)(g:List (List Int))(h:List Int) :T ((Nat×Nat×Nat×Nat×Nat×(List Bool)×(List (List Int))×(List Int))⊕((Nat×Nat×Nat×Nat×(List Bool)×(List (List Int))×(List Int))⊕(aD))) :=
  .need (d8 .i64 (((a+1):Nat):Int))<|.leaf (.inl (b,c,d,(a+1),e,f,g,h))
def i8(i:Int)(j:Int)(k:Nat)(l:List Bool)(m:List (List Int))(n:List Int)(o:Int)(p:List Nat)(q:Nat)(r:List Bool)(s:List (List Int))(t:List Int)(u:Int)(v:List Nat)(w:Nat)(x:List Bool)(y:List (List Int))(z:List Int)(A:Int)(B:List Nat)(C:Nat)(D:List Bool)(E:List (List Int))(F:List Int) :Nat×Nat×Nat×Nat×Nat×(List Bool)×(List (List Int))×(List Int)→Option ((Nat×Nat×Nat×Nat×Nat×(List Bool)×(List (List Int))×(List Int))⊕((Nat×Nat×Nat×Nat×(List Bool)×(List (List Int))×(List Int))⊕(aD))):=fun (b,c,d,a,e,f,g,h) =>
  aC ((fJ i b c d a e f g h).run) fun _ =>
  aC (NN (aC ((nN).run) fun _ =>
  aC (dM (i7 j k l m n o p q r s t u v w x y z A B C D E F a) (b,c,d,0,e,f,g,h)) fun (G,H,I,J,K,L,M) =>
  (nQ G H I J K L M).run)) fun (N,O,P,Q,R,S,T) =>
  (nR a N O P Q R S T).run
theorem xq(c:Int)(d:Int)(D:Lv)(E:Lv)(e:Nat)(f:List Bool)(g:List (List Int))(h:List Int)(F:Lv)(G:Int)(i:Int)(H:Lv)(j:List Nat)(L:Lv)(M:Lv)(k:Nat)(l:List Bool)(m:List (List Int))(n:List Int)(N:Lv)(O:Int)(o:Int)(P:Lv)(p:List Nat)(Q:Lv)(R:Lv)(q:Nat)(r:List Bool)(t:List (List Int))(u:List Int)(S:Lv)(T:Int)(v:Int)(U:Lv)(w:List Nat)(V:Lv)(W:Lv)(x:Nat)(y:List Bool)(z:List (List Int))(A:List Int)(b:Bool)(X:Nat)(Y:Nat)(Z:Nat)(B:Nat)(a0:Nat)(a1:List Bool)(a2:List (List Int))(a3:List Int) :Sg prog [] dc (db c d D E e f g h F G i H j L M k l m n N O o P p Q R q r t u S T v U w V W x y z A b (X,Y,Z,B,a0,a1,a2,a3)) (i8 c d e f g h i j k l m n o p q r t u v w x y z A (X,Y,Z,B,a0,a1,a2,a3)) (db c d D E e f g h F G i H j L M k l m n N O o P p Q R q r t u S T v U w V W x y z A b) (aN 0 (bP b) bd):=by
  unfold i8;exact Sg.cut 2 (aI bh) (Sg.seg (C:=C0) an dD 60 (dc.take 2) (db c d D E e f g h F G i H j L M k l m n N O o P p Q R q r t u S T v U w V W x y z A b (X,Y,Z,B,a0,a1,a2,a3)) (fJ c X Y Z B a0 a1 a2 a3) (nK c d D E e f g h F G i H j L M k l m n N O o P p Q R q r t u S T v U w V W x y z A b X Y Z B a0 a1 a2 a3) (aN 0 (bP b) bd) [⟨[],[0,1,2],[1,2,4,6,7,13,14]⟩,⟨[],[1,2],[4,6,7]⟩] (by kernel_rfl)) (fun a=>by cases a;exact Sg.cut 1 (aI bh) (yp (id:=1) (K:=(cn c d D E e f g h F G i H j L M k l m n N O o P p Q R q r t u S T v U w V W x y z A b B)) (by kernel_rfl:((dc.drop 2).take 1) = [.block 1 (inBlock ((((dc.drop 2).take 1)).headD .skip))]) (aI bh) (eK (by decide) (jz _)) (Sg.cut 2 (aI (aI bh)) (Sg.seg (C:=C0) an dD 60 (dX.take 2) (nK c d D E e f g h F G i H j L M k l m n N O o P p Q R q r t u S T v U w V W x y z A b X Y Z B a0 a1 a2 a3 ()) (nN) (nL c d D E e f g h F G i H j L M k l m n N O o P p Q R q r t u S T v U w V W x y z A b X Y Z B a0 a1 a2 a3) (aN 1 (cn c d D E e f g h F G i H j L M k l m n N O o P p Q R q r t u S T v U w V W x y z A b B) (aN 0 (bP b) bd)) [⟨[],[0,1,2],[1,2,4,6,7,8,13,14,18,19]⟩] (by kernel_rfl)) (fun a=>by cases a;exact Sg.cut 1 (aI (aI bh)) (Sg.pre ⟨[],[0,1,2],[1,2,4,6,7,8,13,14,18,19]⟩ rfl (by kernel_rfl:NS.on ⟨[],[0,1,2],[1,2,4,6,7,8,13,14,18,19]⟩ (nL c d D E e f g h F G i H j L M k l m n N O o P p Q R q r t u S T v U w V W x y z A b X Y Z B a0 a1 a2 a3 ())=(dd c d D E e f g h F G i H j L M k l m n N O o P p Q R q r t u S T v U w V W x y z A b B) (X,Y,Z,0,a0,a1,a2,a3)) (bU (I:=(dd c d D E e f g h F G i H j L M k l m n N O o P p Q R q r t u S T v U w V W x y z A b B)) (J:=(dY c d D E e f g h F G i H j L M k l m n N O o P p Q R q r t u S T v U w V W x y z A b B)) (id:=2) (by kernel_rfl:((dX.drop 2).take 1) = [.block 2 (.loop (bK ((((dX.drop 2).take 1)).headD .skip)))]) (aI (aI bh)) (eK (by decide) (eK (by decide) (jz _))) (fun s=>by obtain ⟨b9,c0,c1,c2,c3,c4,c5,c6⟩:=s;exact xn c d D E e f g h F G i H j L M k l m n N O o P p Q R q r t u S T v U w V W x y z A b B b9 c0 c1 c2 c3 c4 c5 c6) (X,Y,Z,0,a0,a1,a2,a3))) (fun a=>by obtain ⟨a4,a5,a6,a7,a8,a9,b0⟩:=a;exact Sg.seg (C:=C0) an dD 60 ((dX.drop 2).drop 1) (xo c d D E e f g h F G i H j L M k l m n N O o P p Q R q r t u S T v U w V W x y z A b B (a4,a5,a6,a7,a8,a9,b0)) (nQ a4 a5 a6 a7 a8 a9 b0) (cn c d D E e f g h F G i H j L M k l m n N O o P p Q R q r t u S T v U w V W x y z A b B) (aN 1 (cn c d D E e f g h F G i H j L M k l m n N O o P p Q R q r t u S T v U w V W x y z A b B) (aN 0 (bP b) bd)) [⟨[],[0,1,2],[1,2,4,6,7,13,14]⟩] (by kernel_rfl))))) (fun a=>by obtain ⟨b2,b3,b4,b5,b6,b7,b8⟩:=a;exact Sg.seg (C:=C0) an dD 60 ((dc.drop 2).drop 1) (xp c d D E e f g h F G i H j L M k l m n N O o P p Q R q r t u S T v U w V W x y z A b B (b2,b3,b4,b5,b6,b7,b8)) (nR B b2 b3 b4 b5 b6 b7 b8) (db c d D E e f g h F G i H j L M k l m n N O o P p Q R q r t u S T v U w V W x y z A b) (aN 0 (bP b) bd) [⟨[],[0,1,2],[1,2,4,6,7,13,14]⟩] (by kernel_rfl)))
def xr(a:Bool) :Nat×Nat×Nat×Nat×(List Bool)×(List (List Int))×(List Int)→aL:=bP a
def nT:Nat×Bool×(List Int)×Nat×Nat×Int→aL:=fun (a,b,c,d,e,f)=>⟨ah 46 [(4,.ptr 0 1 0 0),(5,.int .i64 ((a:Nat):Int))],[(0,.vs [.bool false b,.imm .free (.ns .u64 c) 1 1 d e,.int .i64 f])],1⟩
def fK(a:Nat)(e:Nat)(f:Nat)(b:List Bool)(c:List (List Int))(d:List Int) :T ((Nat×Bool×(List Int)×Nat×Nat×Int)⊕(aD)) :=
  .ask (((e:Nat):Int) != (0:Int))
    (.leaf (.inr (.r0 e false ([]:List Int) 0 0 (0:Int))))
    (.need (Nat.ble (0+a) f)<|.need (oS (bG a (aa 0 a b) (aa 0 a c) (aa 0 a d)))<|.leaf (.inl ((p6 (bG a (aa 0 a b) (aa 0 a c) (aa 0 a d))),(p7 (bG a (aa 0 a b) (aa 0 a c) (aa 0 a d))),(p8 (bG a (aa 0 a b) (aa 0 a c) (aa 0 a d))),(p9 (bG a (aa 0 a b) (aa 0 a c) (aa 0 a d))),(qa (bG a (aa 0 a b) (aa 0 a c) (aa 0 a d))),(qb (bG a (aa 0 a b) (aa 0 a c) (aa 0 a d))))))
def nU(a:Nat)(b:Bool)(c:List Int)(d:Nat)(e:Nat)(f:Int) :T ((Empty)⊕(aD)) :=
  .leaf (.inr (.r0 a b c d e f))
def aV(a:Int)(b:Int)(c:Nat)(d:List Bool)(e:List (List Int))(f:List Int)(g:Int)(h:List Nat)(i:Nat)(j:List Bool)(k:List (List Int))(l:List Int)(m:Int)(n:List Nat)(o:Nat)(p:List Bool)(q:List (List Int))(r:List Int)(s:Int)(t:List Nat)(u:Nat)(v:List Bool)(w:List (List Int))(x:List Int) :Option aD:=ld (aC ((nI).run) fun K =>
  aC ((nJ).run) fun _ =>
  aC (dM (i8 a b c d e f g h i j k l m n o p q r s t u v w x) (0,0,0,0,0,([]:List Bool),([]:List (List Int)),([]:List Int))) fun (y,L,z,A,B,C,D) =>
  aC ((fK y z A B C D).run) fun (E,F,G,H,I,J) =>
  (nU E F G H I J).run)
theorem yA(j:Int)(k:Int)(D:Lv)(E:Lv)(b:Nat)(l:List Bool)(m:List (List Int))(n:List Int)(F:Lv)(G:Int)(o:Int)(H:Lv)(c:List Nat)(K:Lv)(L:Lv)(d:Nat)(p:List Bool)(q:List (List Int))(r:List Int)(M:Lv)(N:Int)(t:Int)(O:Lv)(e:List Nat)(P:Lv)(Q:Lv)(f:Nat)(u:List Bool)(v:List (List Int))(w:List Int)(R:Lv)(S:Int)(y:Int)(T:Lv)(g:List Nat)(U:Lv)(V:Lv)(i:Nat)(z:List Bool)(A:List (List Int))(B:List Int){x:aD}(h:aV j k b l m n o c d p q r t e f u v w y g i z A B=some x) :aw prog dA [] [.agg [.int .i64 j,.int .i64 k],.fn (.func cd) [] [.iptr D (.vs [.imm E (.cols b [.cb l,.cns .u64 m,.ci .i64 n]) 3 3 0 b]) 1 0 0,.iptr F (.vs [.int .i64 G,.int .i64 o,.imm H (.fl c) 1 1 0 (List.length c)]) 1 0 0,.iptr K (.vs [.imm L (.cols d [.cb p,.cns .u64 q,.ci .i64 r]) 3 3 0 d]) 1 0 0,.iptr M (.vs [.int .i64 N,.int .i64 t,.imm O (.fl e) 1 1 0 (List.length e)]) 1 0 0,.iptr P (.vs [.imm Q (.cols f [.cb u,.cns .u64 v,.ci .i64 w]) 3 3 0 f]) 1 0 0,.iptr R (.vs [.int .i64 S,.int .i64 y,.imm T (.fl g) 1 1 0 (List.length g)]) 1 0 0,.iptr U (.vs [.imm V (.cols i [.cb z,.cns .u64 A,.ci .i64 B]) 3 3 0 i]) 1 0 0]] (jQ x) :=
  Sg.contract true jQ (by kernel_rfl:prog.funcs[dA]? = some (FN dA)) (by kernel_rfl:(FN dA).body=some (bi dA)) (Sg.cut 1 bh (Sg.seg (C:=C0) an dD 60 (fI.take 1) (aT (FN dA) [] [.agg [.int .i64 j,.int .i64 k],.fn (.func cd) [] [.iptr D (.vs [.imm E (.cols b [.cb l,.cns .u64 m,.ci .i64 n]) 3 3 0 b]) 1 0 0,.iptr F (.vs [.int .i64 G,.int .i64 o,.imm H (.fl c) 1 1 0 (List.length c)]) 1 0 0,.iptr K (.vs [.imm L (.cols d [.cb p,.cns .u64 q,.ci .i64 r]) 3 3 0 d]) 1 0 0,.iptr M (.vs [.int .i64 N,.int .i64 t,.imm O (.fl e) 1 1 0 (List.length e)]) 1 0 0,.iptr P (.vs [.imm Q (.cols f [.cb u,.cns .u64 v,.ci .i64 w]) 3 3 0 f]) 1 0 0,.iptr R (.vs [.int .i64 S,.int .i64 y,.imm T (.fl g) 1 1 0 (List.length g)]) 1 0 0,.iptr U (.vs [.imm V (.cols i [.cb z,.cns .u64 A,.ci .i64 B]) 3 3 0 i]) 1 0 0]]) (nI) (ov j k D E b l m n F G o H c K L d p q r M N t O e P Q f u v w R S y T g U V i z A B) bd [⟨[],[0,16],[1,2,4]⟩] (by kernel_rfl)) (fun W=>by exact UC (by kernel_rfl:(fI.drop 1) = [.scope (Q3 (((fI.drop 1)).headD .skip))]) bh (Sg.cut 3 bh (Sg.seg (C:=C0) an dD 60 (da.take 3) (ov j k D E b l m n F G o H c K L d p q r M N t O e P Q f u v w R S y T g U V i z A B W) (nJ) (ow j k D E b l m n F G o H c K L d p q r M N t O e P Q f u v w R S y T g U V i z A B W) bd [⟨[],[0,1],[1,2,4,6,7,13,14]⟩] (by kernel_rfl)) (fun a=>by cases a;exact Sg.cut 1 bh (Sg.pre ⟨[(.slot 6,.own 3 3 (.cols 0 [.cb ([]:List Bool),.cns .u64 ([]:List (List Int)),.ci .i64 ([]:List Int)]))],[0,1,2],[1,2,4,6,7,13,14]⟩ rfl (by kernel_rfl:NS.on ⟨[(.slot 6,.own 3 3 (.cols 0 [.cb ([]:List Bool),.cns .u64 ([]:List (List Int)),.ci .i64 ([]:List Int)]))],[0,1,2],[1,2,4,6,7,13,14]⟩ (ow j k D E b l m n F G o H c K L d p q r M N t O e P Q f u v w R S y T g U V i z A B W ())=(db j k D E b l m n F G o H c K L d p q r M N t O e P Q f u v w R S y T g U V i z A B W) (0,0,0,0,0,([]:List Bool),([]:List (List Int)),([]:List Int))) (bU (I:=(db j k D E b l m n F G o H c K L d p q r M N t O e P Q f u v w R S y T g U V i z A B W)) (J:=(bP W)) (id:=0) (by kernel_rfl:((da.drop 3).take 1) = [.block 0 (.loop (bK ((((da.drop 3).take 1)).headD .skip)))]) bh (jz _) (fun s=>by obtain ⟨a9,b0,b2,b3,b4,b5,b6,b7⟩:=s;exact xq j k D E b l m n F G o H c K L d p q r M N t O e P Q f u v w R S y T g U V i z A B W a9 b0 b2 b3 b4 b5 b6 b7) (0,0,0,0,0,([]:List Bool),([]:List (List Int)),([]:List Int)))) (fun a=>by obtain ⟨X,b8,Y,Z,a0,a1,a2⟩:=a;exact Sg.cut 3 bh (Sg.seg (C:=C0) an dD 60 (((da.drop 3).drop 1).take 3) (xr W (X,b8,Y,Z,a0,a1,a2)) (fK X Y Z a0 a1 a2) nT bd [⟨[(.cell 0 1,.fre 1 1 (.ns .u64 ([]:List Int)))],[0],[4,5]⟩,⟨[],[0],[4,5]⟩] (by kernel_rfl)) (fun a=>by obtain ⟨a3,a4,a5,a6,a7,a8⟩:=a;exact Sg.seg (C:=C0) an dD 60 (((da.drop 3).drop 1).drop 3) (nT (a3,a4,a5,a6,a7,a8)) (nU a3 a4 a5 a6 a7 a8) (fun a:Empty=>a.elim) bd [⟨[],[0],[4,5]⟩] (by kernel_rfl)))))))
    (fun x=>by cases x with | r0 b9 c0 c1 c2 c3 c4=>exact ⟨.inr rfl,[.agg [.bool false c0,.imm .free (.ns .u64 c1) 1 1 c2 c3,.int .i64 c4],.int .i64 ((b9:Nat):Int)],[],by kernel_rfl,trivial,by kernel_rfl⟩) h
def fS:Option aD→Bool
  | some _=>true
  | none=>false
def iC:Option aD→Nat
  | some (.r0 x _ _ _ _ _)=>x
  | _=>0
def iD:Option aD→Bool
  | some (.r0 _ x _ _ _ _)=>x
  | _=>false
def iE:Option aD→List Int
  | some (.r0 _ _ x _ _ _)=>x
  | _=>[]
def iF:Option aD→Nat
  | some (.r0 _ _ _ x _ _)=>x
  | _=>0
def iG:Option aD→Nat
  | some (.r0 _ _ _ _ x _)=>x
  | _=>0
def iH:Option aD→Int
  | some (.r0 _ _ _ _ _ x)=>x
  | _=>0
theorem yB{x:Option aD}(h:fS x=true) :x=some (.r0 (iC x) (iD x) (iE x) (iF x) (iG x) (iH x)):=by
  unfold fS at h
  split at h <;> first | rfl | (cases h;done) | (rename_i y;cases y;rfl)
def oD:aJ:=bW dA (.cons (.agg (.cons (.int .i64) (.cons (.int .i64) .nil))) (.cons (.fn cd .nil (.cons (.ivs (.cons (.cols [.cb,.cns .u64,.ci .i64]) .nil) 1 0 0) (.cons (.ivs (.cons (.int .i64) (.cons (.int .i64) (.cons .fl .nil))) 1 0 0) (.cons (.ivs (.cons (.cols [.cb,.cns .u64,.ci .i64]) .nil) 1 0 0) (.cons (.ivs (.cons (.int .i64) (.cons (.int .i64) (.cons .fl .nil))) 1 0 0) (.cons (.ivs (.cons (.cols [.cb,.cns .u64,.ci .i64]) .nil) 1 0 0) (.cons (.ivs (.cons (.int .i64) (.cons (.int .i64) (.cons .fl .nil))) 1 0 0) (.cons (.ivs (.cons (.cols [.cb,.cns .u64,.ci .i64]) .nil) 1 0 0) .nil)))))))) .nil)) fun t=>[⟨jQ (.r0 (iC (aV t.1.1 t.1.2.1 t.2.1.2.1.2.1.2.1 t.2.1.2.1.2.1.2.2.1 t.2.1.2.1.2.1.2.2.2.1 t.2.1.2.1.2.1.2.2.2.2.1 t.2.1.2.2.1.2.2.1 t.2.1.2.2.1.2.2.2.1.2 t.2.1.2.2.2.1.2.1.2.1 t.2.1.2.2.2.1.2.1.2.2.1 t.2.1.2.2.2.1.2.1.2.2.2.1 t.2.1.2.2.2.1.2.1.2.2.2.2.1 t.2.1.2.2.2.2.1.2.2.1 t.2.1.2.2.2.2.1.2.2.2.1.2 t.2.1.2.2.2.2.2.1.2.1.2.1 t.2.1.2.2.2.2.2.1.2.1.2.2.1 t.2.1.2.2.2.2.2.1.2.1.2.2.2.1 t.2.1.2.2.2.2.2.1.2.1.2.2.2.2.1 t.2.1.2.2.2.2.2.2.1.2.2.1 t.2.1.2.2.2.2.2.2.1.2.2.2.1.2 t.2.1.2.2.2.2.2.2.2.1.2.1.2.1 t.2.1.2.2.2.2.2.2.2.1.2.1.2.2.1 t.2.1.2.2.2.2.2.2.2.1.2.1.2.2.2.1 t.2.1.2.2.2.2.2.2.2.1.2.1.2.2.2.2.1)) (iD (aV t.1.1 t.1.2.1 t.2.1.2.1.2.1.2.1 t.2.1.2.1.2.1.2.2.1 t.2.1.2.1.2.1.2.2.2.1 t.2.1.2.1.2.1.2.2.2.2.1 t.2.1.2.2.1.2.2.1 t.2.1.2.2.1.2.2.2.1.2 t.2.1.2.2.2.1.2.1.2.1 t.2.1.2.2.2.1.2.1.2.2.1 t.2.1.2.2.2.1.2.1.2.2.2.1 t.2.1.2.2.2.1.2.1.2.2.2.2.1 t.2.1.2.2.2.2.1.2.2.1 t.2.1.2.2.2.2.1.2.2.2.1.2 t.2.1.2.2.2.2.2.1.2.1.2.1 t.2.1.2.2.2.2.2.1.2.1.2.2.1 t.2.1.2.2.2.2.2.1.2.1.2.2.2.1 t.2.1.2.2.2.2.2.1.2.1.2.2.2.2.1 t.2.1.2.2.2.2.2.2.1.2.2.1 t.2.1.2.2.2.2.2.2.1.2.2.2.1.2 t.2.1.2.2.2.2.2.2.2.1.2.1.2.1 t.2.1.2.2.2.2.2.2.2.1.2.1.2.2.1 t.2.1.2.2.2.2.2.2.2.1.2.1.2.2.2.1 t.2.1.2.2.2.2.2.2.2.1.2.1.2.2.2.2.1)) (iE (aV t.1.1 t.1.2.1 t.2.1.2.1.2.1.2.1 t.2.1.2.1.2.1.2.2.1 t.2.1.2.1.2.1.2.2.2.1 t.2.1.2.1.2.1.2.2.2.2.1 t.2.1.2.2.1.2.2.1 t.2.1.2.2.1.2.2.2.1.2 t.2.1.2.2.2.1.2.1.2.1 t.2.1.2.2.2.1.2.1.2.2.1 t.2.1.2.2.2.1.2.1.2.2.2.1 t.2.1.2.2.2.1.2.1.2.2.2.2.1 t.2.1.2.2.2.2.1.2.2.1 t.2.1.2.2.2.2.1.2.2.2.1.2 t.2.1.2.2.2.2.2.1.2.1.2.1 t.2.1.2.2.2.2.2.1.2.1.2.2.1 t.2.1.2.2.2.2.2.1.2.1.2.2.2.1 t.2.1.2.2.2.2.2.1.2.1.2.2.2.2.1 t.2.1.2.2.2.2.2.2.1.2.2.1 t.2.1.2.2.2.2.2.2.1.2.2.2.1.2 t.2.1.2.2.2.2.2.2.2.1.2.1.2.1 t.2.1.2.2.2.2.2.2.2.1.2.1.2.2.1 t.2.1.2.2.2.2.2.2.2.1.2.1.2.2.2.1 t.2.1.2.2.2.2.2.2.2.1.2.1.2.2.2.2.1)) (iF (aV t.1.1 t.1.2.1 t.2.1.2.1.2.1.2.1 t.2.1.2.1.2.1.2.2.1 t.2.1.2.1.2.1.2.2.2.1 t.2.1.2.1.2.1.2.2.2.2.1 t.2.1.2.2.1.2.2.1 t.2.1.2.2.1.2.2.2.1.2 t.2.1.2.2.2.1.2.1.2.1 t.2.1.2.2.2.1.2.1.2.2.1 t.2.1.2.2.2.1.2.1.2.2.2.1 t.2.1.2.2.2.1.2.1.2.2.2.2.1 t.2.1.2.2.2.2.1.2.2.1 t.2.1.2.2.2.2.1.2.2.2.1.2 t.2.1.2.2.2.2.2.1.2.1.2.1 t.2.1.2.2.2.2.2.1.2.1.2.2.1 t.2.1.2.2.2.2.2.1.2.1.2.2.2.1 t.2.1.2.2.2.2.2.1.2.1.2.2.2.2.1 t.2.1.2.2.2.2.2.2.1.2.2.1 t.2.1.2.2.2.2.2.2.1.2.2.2.1.2 t.2.1.2.2.2.2.2.2.2.1.2.1.2.1 t.2.1.2.2.2.2.2.2.2.1.2.1.2.2.1 t.2.1.2.2.2.2.2.2.2.1.2.1.2.2.2.1 t.2.1.2.2.2.2.2.2.2.1.2.1.2.2.2.2.1)) (iG (aV t.1.1 t.1.2.1 t.2.1.2.1.2.1.2.1 t.2.1.2.1.2.1.2.2.1 t.2.1.2.1.2.1.2.2.2.1 t.2.1.2.1.2.1.2.2.2.2.1 t.2.1.2.2.1.2.2.1 t.2.1.2.2.1.2.2.2.1.2 t.2.1.2.2.2.1.2.1.2.1 t.2.1.2.2.2.1.2.1.2.2.1 t.2.1.2.2.2.1.2.1.2.2.2.1 t.2.1.2.2.2.1.2.1.2.2.2.2.1 t.2.1.2.2.2.2.1.2.2.1 t.2.1.2.2.2.2.1.2.2.2.1.2 t.2.1.2.2.2.2.2.1.2.1.2.1 t.2.1.2.2.2.2.2.1.2.1.2.2.1 t.2.1.2.2.2.2.2.1.2.1.2.2.2.1 t.2.1.2.2.2.2.2.1.2.1.2.2.2.2.1 t.2.1.2.2.2.2.2.2.1.2.2.1 t.2.1.2.2.2.2.2.2.1.2.2.2.1.2 t.2.1.2.2.2.2.2.2.2.1.2.1.2.1 t.2.1.2.2.2.2.2.2.2.1.2.1.2.2.1 t.2.1.2.2.2.2.2.2.2.1.2.1.2.2.2.1 t.2.1.2.2.2.2.2.2.2.1.2.1.2.2.2.2.1)) (iH (aV t.1.1 t.1.2.1 t.2.1.2.1.2.1.2.1 t.2.1.2.1.2.1.2.2.1 t.2.1.2.1.2.1.2.2.2.1 t.2.1.2.1.2.1.2.2.2.2.1 t.2.1.2.2.1.2.2.1 t.2.1.2.2.1.2.2.2.1.2 t.2.1.2.2.2.1.2.1.2.1 t.2.1.2.2.2.1.2.1.2.2.1 t.2.1.2.2.2.1.2.1.2.2.2.1 t.2.1.2.2.2.1.2.1.2.2.2.2.1 t.2.1.2.2.2.2.1.2.2.1 t.2.1.2.2.2.2.1.2.2.2.1.2 t.2.1.2.2.2.2.2.1.2.1.2.1 t.2.1.2.2.2.2.2.1.2.1.2.2.1 t.2.1.2.2.2.2.2.1.2.1.2.2.2.1 t.2.1.2.2.2.2.2.1.2.1.2.2.2.2.1 t.2.1.2.2.2.2.2.2.1.2.2.1 t.2.1.2.2.2.2.2.2.1.2.2.2.1.2 t.2.1.2.2.2.2.2.2.2.1.2.1.2.1 t.2.1.2.2.2.2.2.2.2.1.2.1.2.2.1 t.2.1.2.2.2.2.2.2.2.1.2.1.2.2.2.1 t.2.1.2.2.2.2.2.2.2.1.2.1.2.2.2.2.1))),[fS (aV t.1.1 t.1.2.1 t.2.1.2.1.2.1.2.1 t.2.1.2.1.2.1.2.2.1 t.2.1.2.1.2.1.2.2.2.1 t.2.1.2.1.2.1.2.2.2.2.1 t.2.1.2.2.1.2.2.1 t.2.1.2.2.1.2.2.2.1.2 t.2.1.2.2.2.1.2.1.2.1 t.2.1.2.2.2.1.2.1.2.2.1 t.2.1.2.2.2.1.2.1.2.2.2.1 t.2.1.2.2.2.1.2.1.2.2.2.2.1 t.2.1.2.2.2.2.1.2.2.1 t.2.1.2.2.2.2.1.2.2.2.1.2 t.2.1.2.2.2.2.2.1.2.1.2.1 t.2.1.2.2.2.2.2.1.2.1.2.2.1 t.2.1.2.2.2.2.2.1.2.1.2.2.2.1 t.2.1.2.2.2.2.2.1.2.1.2.2.2.2.1 t.2.1.2.2.2.2.2.2.1.2.2.1 t.2.1.2.2.2.2.2.2.1.2.2.2.1.2 t.2.1.2.2.2.2.2.2.2.1.2.1.2.1 t.2.1.2.2.2.2.2.2.2.1.2.1.2.2.1 t.2.1.2.2.2.2.2.2.2.1.2.1.2.2.2.1 t.2.1.2.2.2.2.2.2.2.1.2.1.2.2.2.2.1)]⟩]
theorem wn:aU prog oD:=aO fun t=>(aP (fun h=>yA t.1.1 t.1.2.1 t.2.1.2.1.1 t.2.1.2.1.2.1.1 t.2.1.2.1.2.1.2.1 t.2.1.2.1.2.1.2.2.1 t.2.1.2.1.2.1.2.2.2.1 t.2.1.2.1.2.1.2.2.2.2.1 t.2.1.2.2.1.1 t.2.1.2.2.1.2.1 t.2.1.2.2.1.2.2.1 t.2.1.2.2.1.2.2.2.1.1 t.2.1.2.2.1.2.2.2.1.2 t.2.1.2.2.2.1.1 t.2.1.2.2.2.1.2.1.1 t.2.1.2.2.2.1.2.1.2.1 t.2.1.2.2.2.1.2.1.2.2.1 t.2.1.2.2.2.1.2.1.2.2.2.1 t.2.1.2.2.2.1.2.1.2.2.2.2.1 t.2.1.2.2.2.2.1.1 t.2.1.2.2.2.2.1.2.1 t.2.1.2.2.2.2.1.2.2.1 t.2.1.2.2.2.2.1.2.2.2.1.1 t.2.1.2.2.2.2.1.2.2.2.1.2 t.2.1.2.2.2.2.2.1.1 t.2.1.2.2.2.2.2.1.2.1.1 t.2.1.2.2.2.2.2.1.2.1.2.1 t.2.1.2.2.2.2.2.1.2.1.2.2.1 t.2.1.2.2.2.2.2.1.2.1.2.2.2.1 t.2.1.2.2.2.2.2.1.2.1.2.2.2.2.1 t.2.1.2.2.2.2.2.2.1.1 t.2.1.2.2.2.2.2.2.1.2.1 t.2.1.2.2.2.2.2.2.1.2.2.1 t.2.1.2.2.2.2.2.2.1.2.2.2.1.1 t.2.1.2.2.2.2.2.2.1.2.2.2.1.2 t.2.1.2.2.2.2.2.2.2.1.1 t.2.1.2.2.2.2.2.2.2.1.2.1.1 t.2.1.2.2.2.2.2.2.2.1.2.1.2.1 t.2.1.2.2.2.2.2.2.2.1.2.1.2.2.1 t.2.1.2.2.2.2.2.2.2.1.2.1.2.2.2.1 t.2.1.2.2.2.2.2.2.2.1.2.1.2.2.2.2.1 (yB h)) aW)
def oE:List aJ:=oD :: Is
theorem dN:aY prog (bb oE):=au wn dD
end
end Go.Plb.Seat
