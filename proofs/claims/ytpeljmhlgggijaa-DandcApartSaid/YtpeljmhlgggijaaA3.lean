/-
  Part 3 of what the claim leans on: an evaluator of the model, proved sound; the contracts of the functions.
-/
import Derived.Test.YtpeljmhlgggijaaA2
namespace Go.Plb.Seat
open Go Go.Plb
set_option linter.unusedVariables false
set_option maxRecDepth 100000
noncomputable section
inductive dZ where
  | r0 (a:Nat) (b:Nat) (c:Nat) (d:Nat) (e:Int) (f:Int) (g:Nat) (h:Nat) (i:List Nat) (j:List Nat) (k:List Nat)
inductive bJ where
  | r0 (a:Nat) (b:Nat) (c:Nat) (d:Nat) (e:Int) (f:Int) (g:Nat) (h:Nat) (i:List Nat) (j:List Nat) (k:List Nat)
def qx:dZ→AE×aW
  | .r0 a b c d e f g h i j k=>(.ret,⟨aw 162 [],[(0,.vs [.sl 1 1 1 0 a b,.sl 2 1 1 0 c d,.int .i64 e,.int .i64 f,.sl 3 1 1 0 g h]),(1,.fl i),(2,.fl j),(3,.fl k)],4⟩)
theorem fm:ye qx:=by intro x;cases x<;>(intro h;cases h)
theorem yG(id:Nat) :rB id qx:=by intro x;cases x<;>(intro h;cases h)
def uw:bJ→rU
  | .r0 a b c d e f g h i j k=>⟨.tup [],[some (.vs [.sl 1 1 1 0 a b,.sl 2 1 1 0 c d,.int .i64 e,.int .i64 f,.sl 3 1 1 0 g h]),some (.fl i),some (.fl j),some (.fl k)]⟩
def xd:Nat×Nat×Nat×Nat×Int×Int×Nat×Nat×(List Nat)×(List Nat)×(List Nat)→aW:=fun (a,b,c,d,e,f,g,h,i,j,k)=>⟨aw 162 [],[(0,.vs [.sl 1 1 1 0 a b,.sl 2 1 1 0 c d,.int .i64 e,.int .i64 f,.sl 3 1 1 0 g h]),(1,.fl i),(2,.fl j),(3,.fl k)],4⟩
def Fb:List Code:=cS (ri qs)
def FO(a:Nat)(b:Nat)(c:Nat)(d:Nat)(e:Int)(f:Int)(g:Nat)(h:Nat)(i:List Nat)(j:List Nat)(k:List Nat)(l:Int)(m:Int) :Nat×Nat→aW:=fun (n,r2)=>⟨aw 162 [(0,.ptr 0 1 0 0),(1,.int .i64 l),(2,.int .i64 m),(6,.sl 1 1 1 0 a b),(7,.sl 2 1 1 0 c d),(8,.flt false n),(9,.flt false r2)],[(0,.vs [.sl 1 1 1 0 a b,.sl 2 1 1 0 c d,.int .i64 e,.int .i64 f,.sl 3 1 1 0 g h]),(1,.fl i),(2,.fl j),(3,.fl k)],4⟩
def xe(d:Nat)(e:Nat)(b:List Nat)(c:List Nat)(a:Int) :T ((Nat×Nat)⊕(dZ)) :=
  .need (fq .i64 (a+(1:Int)))<|.need (fU (a+(1:Int)) d)<|.need (fi (Int.toNat (a+(1:Int))) (List.length b))<|.need (fU a d)<|.need (fi (Int.toNat a) (List.length b))<|.need (fU a e)<|.need (fi (Int.toNat a) (List.length c))<|.ask (KT (eY 4607182418800017408) (eY (fdiv (kZ (List.getD b (Int.toNat (a+(1:Int))) 0) (List.getD b (Int.toNat a) 0)) (cY 4611686018427387904 (List.getD c (Int.toNat a) 0)))))
    (.ask (UE (eY 4607182418800017408) 0)
      (.leaf (.inl ((fdiv (kZ (List.getD b (Int.toNat (a+(1:Int))) 0) (List.getD b (Int.toNat a) 0)) (cY 4611686018427387904 (List.getD c (Int.toNat a) 0))),(eY 4607182418800017408))))
      (.leaf (.inl ((fdiv (kZ (List.getD b (Int.toNat (a+(1:Int))) 0) (List.getD b (Int.toNat a) 0)) (cY 4611686018427387904 (List.getD c (Int.toNat a) 0))),(cY (eY 4607182418800017408) (Eh (v3 4607182418800017408 (cY (fdiv (eY (fdiv (kZ (List.getD b (Int.toNat (a+(1:Int))) 0) (List.getD b (Int.toNat a) 0)) (cY 4611686018427387904 (List.getD c (Int.toNat a) 0)))) (eY 4607182418800017408)) (fdiv (eY (fdiv (kZ (List.getD b (Int.toNat (a+(1:Int))) 0) (List.getD b (Int.toNat a) 0)) (cY 4611686018427387904 (List.getD c (Int.toNat a) 0)))) (eY 4607182418800017408))))))))))
    (.ask (UE (eY (fdiv (kZ (List.getD b (Int.toNat (a+(1:Int))) 0) (List.getD b (Int.toNat a) 0)) (cY 4611686018427387904 (List.getD c (Int.toNat a) 0)))) 0)
      (.leaf (.inl ((fdiv (kZ (List.getD b (Int.toNat (a+(1:Int))) 0) (List.getD b (Int.toNat a) 0)) (cY 4611686018427387904 (List.getD c (Int.toNat a) 0))),(eY (fdiv (kZ (List.getD b (Int.toNat (a+(1:Int))) 0) (List.getD b (Int.toNat a) 0)) (cY 4611686018427387904 (List.getD c (Int.toNat a) 0)))))))
      (.leaf (.inl ((fdiv (kZ (List.getD b (Int.toNat (a+(1:Int))) 0) (List.getD b (Int.toNat a) 0)) (cY 4611686018427387904 (List.getD c (Int.toNat a) 0))),(cY (eY (fdiv (kZ (List.getD b (Int.toNat (a+(1:Int))) 0) (List.getD b (Int.toNat a) 0)) (cY 4611686018427387904 (List.getD c (Int.toNat a) 0)))) (Eh (v3 4607182418800017408 (cY (fdiv (eY 4607182418800017408) (eY (fdiv (kZ (List.getD b (Int.toNat (a+(1:Int))) 0) (List.getD b (Int.toNat a) 0)) (cY 4611686018427387904 (List.getD c (Int.toNat a) 0))))) (fdiv (eY 4607182418800017408) (eY (fdiv (kZ (List.getD b (Int.toNat (a+(1:Int))) 0) (List.getD b (Int.toNat a) 0)) (cY 4611686018427387904 (List.getD c (Int.toNat a) 0)))))))))))))
def FP(a:Nat)(b:Nat)(c:Nat)(d:Nat)(e:Int)(f:Int)(g:Nat)(h:Nat)(i:List Nat)(j:List Nat)(k:List Nat)(l:Int)(m:Int) :Nat×Int→aW:=fun (n,o)=>⟨aw 162 [(0,.ptr 0 1 0 0),(1,.int .i64 l),(2,.int .i64 m),(6,.sl 1 1 1 0 a b),(7,.sl 2 1 1 0 c d),(8,.flt false n),(10,.flt false 4607182418800017408),(11,.flt false 4607182418800017408),(12,.flt false 0),(13,.int .i64 o)],[(0,.vs [.sl 1 1 1 0 a b,.sl 2 1 1 0 c d,.int .i64 e,.int .i64 f,.sl 3 1 1 0 g h]),(1,.fl i),(2,.fl j),(3,.fl k)],4⟩
def xf(e:Nat)(g:Nat)(c:List Nat)(f:List Nat)(a:Int)(b:Int)(d:Nat)(r2:Nat) :T ((Nat×Int)⊕(dZ)) :=
  .need (fU b e)<|.need (fi (Int.toNat b) (List.length c))<|.need (fU a e)<|.need (fi (Int.toNat a) (List.length c))<|.need (fU a g)<|.need (fi (Int.toNat a) (List.length f))<|.need (!isNaN d||isNaN r2)<|.need (fq .i64 (b-(1:Int)))<|.leaf (.inl ((v3 (kZ (List.getD c (Int.toNat b) 0) (List.getD c (Int.toNat a) 0)) (fdiv (List.getD f (Int.toNat a) 0) (v3 d (xc r2 d)))),(b-(1:Int))))
def pW(a:Nat)(b:Nat)(c:Nat)(d:Nat)(e:Int)(f:Int) :Nat×Nat×Nat×Nat×Int×Nat×Nat×Nat×Nat×Int×Int×Nat×Nat×(List Nat)×(List Nat)×(List Nat)→aW:=fun (g,h,i,j,k,l,m,n,o,p,q,r,s,t,u,v)=>⟨aw 162 [(0,.ptr 0 1 0 0),(1,.int .i64 e),(2,.int .i64 f),(6,.sl 1 1 1 0 a b),(7,.sl 2 1 1 0 c d),(8,.flt false g),(10,.flt false h),(11,.flt false i),(12,.flt false j),(13,.int .i64 k)],[(0,.vs [.sl 1 1 1 0 l m,.sl 2 1 1 0 n o,.int .i64 p,.int .i64 q,.sl 3 1 1 0 r s]),(1,.fl t),(2,.fl u),(3,.fl v)],4⟩
def xg(a:Nat)(b:Nat)(c:Nat)(d:Nat)(e:Int)(f:Int) :Nat×Nat×Nat×Nat×Nat×Nat×Int×Int×Nat×Nat×(List Nat)×(List Nat)×(List Nat)→aW:=fun (g,h,i,j,k,l,m,n,o,p,q,r,s)=>⟨aw 162 [(1,.int .i64 e),(2,.int .i64 f),(6,.sl 1 1 1 0 a b),(7,.sl 2 1 1 0 c d),(8,.flt false g),(12,.flt false h)],[(0,.vs [.sl 1 1 1 0 i j,.sl 2 1 1 0 k l,.int .i64 m,.int .i64 n,.sl 3 1 1 0 o p]),(1,.fl q),(2,.fl r),(3,.fl s)],4⟩
def Fc:List Code:=cS (dh (((((Fb.drop 3).drop 3).take 1)).headD .skip))
def FQ(a:Nat)(b:Nat)(c:Nat)(d:Nat)(e:Int)(f:Int)(g:Nat)(h:Nat)(i:Nat)(j:Nat)(k:Int)(l:Nat)(m:Nat)(n:Nat)(o:Nat)(p:Int)(q:Int)(r:Nat)(s:Nat)(t:List Nat)(u:List Nat)(v:List Nat)(_:Unit) :aW:=⟨aw 162 [(0,.ptr 0 1 0 0),(1,.int .i64 e),(2,.int .i64 f),(6,.sl 1 1 1 0 a b),(7,.sl 2 1 1 0 c d),(8,.flt false g),(10,.flt false h),(11,.flt false i),(12,.flt false j),(13,.int .i64 k)],[(0,.vs [.sl 1 1 1 0 l m,.sl 2 1 1 0 n o,.int .i64 p,.int .i64 q,.sl 3 1 1 0 r s]),(1,.fl t),(2,.fl u),(3,.fl v)],4⟩
def xh(a:Int)(b:Nat)(c:Nat)(d:Int)(e:Nat)(f:Nat)(g:Nat)(h:Nat)(i:Int)(j:Int)(k:Nat)(l:Nat)(m:List Nat)(n:List Nat)(o:List Nat) :T ((Unit)⊕((Nat×Nat×Nat×Nat×Nat×Nat×Int×Int×Nat×Nat×(List Nat)×(List Nat)×(List Nat))⊕(dZ))) :=
  .ask (decide (d≥a))
    (.leaf (.inl ()))
    (.leaf (.inr (.inl (b,c,e,f,g,h,i,j,k,l,m,n,o))))
def xi(a:Nat)(b:Nat)(c:Nat)(d:Nat)(e:Int)(f:Int)(g:Int) :Nat×Nat×Nat×Nat×Nat×Nat×Nat×Nat×Int×Int×Nat×Nat×(List Nat)×(List Nat)×(List Nat)→aW:=fun (h,i,j,k,l,m,n,o,p,q,r,s,t,u,v)=>⟨aw 162 [(0,.ptr 0 1 0 0),(1,.int .i64 e),(2,.int .i64 f),(6,.sl 1 1 1 0 a b),(7,.sl 2 1 1 0 c d),(8,.flt false h),(10,.flt false i),(11,.flt false j),(12,.flt false k),(13,.int .i64 g)],[(0,.vs [.sl 1 1 1 0 l m,.sl 2 1 1 0 n o,.int .i64 p,.int .i64 q,.sl 3 1 1 0 r s]),(1,.fl t),(2,.fl u),(3,.fl v)],4⟩
def Fd(a:Nat)(b:Nat)(c:Nat)(d:Nat)(e:Int)(f:Int)(g:Nat)(h:Nat)(i:Int)(j:Nat)(k:Nat)(l:Nat)(m:Nat)(n:Int)(o:Int)(p:Nat)(q:Nat)(r:List Nat)(s:List Nat)(t:List Nat) :Nat×Nat×Nat→aW:=fun (r40,u,v)=>⟨aw 162 [(0,.ptr 0 1 0 0),(1,.int .i64 e),(2,.int .i64 f),(6,.sl 1 1 1 0 a b),(7,.sl 2 1 1 0 c d),(8,.flt false g),(9,.flt false r40),(12,.flt false h),(13,.int .i64 i),(14,.flt false u),(15,.flt false v)],[(0,.vs [.sl 1 1 1 0 j k,.sl 2 1 1 0 l m,.int .i64 n,.int .i64 o,.sl 3 1 1 0 p q]),(1,.fl r),(2,.fl s),(3,.fl t)],4⟩
def xj(f:Nat)(d:Nat)(c:Nat)(e:Nat)(a:Int)(b:List Nat) :T ((Nat×Nat×Nat)⊕((Nat×Nat×Nat×Nat×Nat×Nat×Nat×Nat×Int×Int×Nat×Nat×(List Nat)×(List Nat)×(List Nat))⊕((Nat×Nat×Nat×Nat×Nat×Nat×Int×Int×Nat×Nat×(List Nat)×(List Nat)×(List Nat))⊕(dZ)))) :=
  .need (fU a f)<|.need (fi (Int.toNat a) (List.length b))<|.need (fU a f)<|.need (fi (Int.toNat a) (List.length b))<|.ask (KT (eY d) (eY (cY c (List.getD b (Int.toNat a) 0))))
    (.ask (UE (eY d) 0)
      (.leaf (.inl ((eY d),(cY c (List.getD b (Int.toNat a) 0)),(cY e (List.getD b (Int.toNat a) 0)))))
      (.leaf (.inl ((cY (eY d) (Eh (v3 4607182418800017408 (cY (fdiv (eY (cY c (List.getD b (Int.toNat a) 0))) (eY d)) (fdiv (eY (cY c (List.getD b (Int.toNat a) 0))) (eY d)))))),(cY c (List.getD b (Int.toNat a) 0)),(cY e (List.getD b (Int.toNat a) 0))))))
    (.ask (UE (eY (cY c (List.getD b (Int.toNat a) 0))) 0)
      (.leaf (.inl ((eY (cY c (List.getD b (Int.toNat a) 0))),(cY c (List.getD b (Int.toNat a) 0)),(cY e (List.getD b (Int.toNat a) 0)))))
      (.leaf (.inl ((cY (eY (cY c (List.getD b (Int.toNat a) 0))) (Eh (v3 4607182418800017408 (cY (fdiv (eY d) (eY (cY c (List.getD b (Int.toNat a) 0)))) (fdiv (eY d) (eY (cY c (List.getD b (Int.toNat a) 0)))))))),(cY c (List.getD b (Int.toNat a) 0)),(cY e (List.getD b (Int.toNat a) 0))))))
def Fe(a:Nat)(b:Nat)(c:Nat)(d:Nat)(e:Int)(f:Int)(g:Int)(h:Nat)(i:Nat)(j:Nat)(k:Nat)(l:Int)(m:Int)(n:Nat)(o:Nat)(p:List Nat)(q:Nat) :Nat×Nat×Nat×Nat×(List Nat)×(List Nat)→aW:=fun (r43,r,s,t,u,v)=>⟨aw 162 [(0,.ptr 0 1 0 0),(1,.int .i64 e),(2,.int .i64 f),(6,.sl 1 1 1 0 a b),(7,.sl 2 1 1 0 c d),(9,.flt false r43),(10,.flt false r),(11,.flt false s),(12,.flt false t),(13,.int .i64 g),(15,.flt false q)],[(0,.vs [.sl 1 1 1 0 h i,.sl 2 1 1 0 j k,.int .i64 l,.int .i64 m,.sl 3 1 1 0 n o]),(1,.fl u),(2,.fl v),(3,.fl p)],4⟩
def xk(d:Nat)(j:Nat)(h:Int)(f:Nat)(e:Nat)(a:Int)(k:Nat)(l:Nat)(m:Nat)(n:Nat)(o:Int)(p:Int)(q:Nat)(r:Nat)(b:List Nat)(g:List Nat)(s:List Nat)(r40:Nat)(c:Nat)(i:Nat) :T ((Nat×Nat×Nat×Nat×(List Nat)×(List Nat))⊕((Nat×Nat×Nat×Nat×Nat×Nat×Nat×Nat×Int×Int×Nat×Nat×(List Nat)×(List Nat)×(List Nat))⊕((Nat×Nat×Nat×Nat×Nat×Nat×Int×Int×Nat×Nat×(List Nat)×(List Nat)×(List Nat))⊕(dZ)))) :=
  .need (fq .i64 (a+(1:Int)))<|.need (fU (a+(1:Int)) j)<|.need (fi (Int.toNat (a+(1:Int))) (List.length g))<|.ask (UE r40 0)
    (.need (fq .i64 (a+(1:Int)))<|.need (fU (a+(1:Int)) d)<|.need (fi (Int.toNat (a+(1:Int))) (List.length b))<|.need (fU (a+(1:Int)) d)<|.need (fi (Int.toNat (a+(1:Int))) (List.length b))<|.need (fU h j)<|.need (fi (Int.toNat h) (List.length (List.set g (Int.toNat (a+(1:Int))) r40)))<|.leaf (.inr (.inr (.inr (.r0 k l m n o p q r (List.set b (Int.toNat (a+(1:Int))) (kZ (List.getD b (Int.toNat (a+(1:Int))) 0) e)) (List.set (List.set g (Int.toNat (a+(1:Int))) r40) (Int.toNat h) 0) s)))))
    (.need (fq .i64 (a+(1:Int)))<|.need (fU (a+(1:Int)) d)<|.need (fi (Int.toNat (a+(1:Int))) (List.length b))<|.need (fU a d)<|.need (fi (Int.toNat a) (List.length b))<|.need (fq .i64 (a+(1:Int)))<|.need (fU (a+(1:Int)) d)<|.need (fi (Int.toNat (a+(1:Int))) (List.length b))<|.leaf (.inl ((v3 (cY (kZ (List.getD b (Int.toNat a) 0) (kZ (List.getD b (Int.toNat (a+(1:Int))) 0) e)) (fdiv c r40)) (cY (cY 4611686018427387904 (fdiv f r40)) i)),(fdiv c r40),(fdiv f r40),(cY (fdiv c r40) (v3 (cY (kZ (List.getD b (Int.toNat a) 0) (kZ (List.getD b (Int.toNat (a+(1:Int))) 0) e)) (fdiv c r40)) (cY (cY 4611686018427387904 (fdiv f r40)) i))),(List.set b (Int.toNat (a+(1:Int))) (v3 (kZ (List.getD b (Int.toNat (a+(1:Int))) 0) e) (cY (fdiv c r40) (v3 (cY (kZ (List.getD b (Int.toNat a) 0) (kZ (List.getD b (Int.toNat (a+(1:Int))) 0) e)) (fdiv c r40)) (cY (cY 4611686018427387904 (fdiv f r40)) i))))),(List.set g (Int.toNat (a+(1:Int))) r40))))
def xl(c:Int)(d:Nat)(e:Nat)(f:Nat)(g:Nat)(h:Int)(i:Int)(j:Nat)(k:Nat)(l:List Nat)(o:Nat)(r43:Nat)(b:Nat)(a:Nat)(p:Nat)(m:List Nat)(n:List Nat) :T ((Nat×Nat×Nat×Nat×Nat×Nat×Nat×Nat×Int×Int×Nat×Nat×(List Nat)×(List Nat)×(List Nat))⊕((Nat×Nat×Nat×Nat×Nat×Nat×Nat×Nat×Int×Int×Nat×Nat×(List Nat)×(List Nat)×(List Nat))⊕((Nat×Nat×Nat×Nat×Nat×Nat×Int×Int×Nat×Nat×(List Nat)×(List Nat)×(List Nat))⊕(dZ)))) :=
  .need (qw (cw d e f g h i j k m n l c a b))<|.leaf (.inl ((kZ (cY a r43) o),b,a,p,(rC (cw d e f g h i j k m n l c a b)),(rD (cw d e f g h i j k m n l c a b)),(rE (cw d e f g h i j k m n l c a b)),(rF (cw d e f g h i j k m n l c a b)),(rG (cw d e f g h i j k m n l c a b)),(rH (cw d e f g h i j k m n l c a b)),(rI (cw d e f g h i j k m n l c a b)),(rJ (cw d e f g h i j k m n l c a b)),(rK (cw d e f g h i j k m n l c a b)),(rL (cw d e f g h i j k m n l c a b)),(qU (cw d e f g h i j k m n l c a b))))
def xm(a:Int)(b:Nat)(c:Nat)(d:Nat)(e:Nat)(f:Nat)(g:Nat)(h:Nat)(i:Nat)(j:Int)(k:Int)(l:Nat)(m:Nat)(n:List Nat)(o:List Nat)(p:List Nat) :T ((Nat×Nat×Nat×Nat×Int×Nat×Nat×Nat×Nat×Int×Int×Nat×Nat×(List Nat)×(List Nat)×(List Nat))⊕((Nat×Nat×Nat×Nat×Nat×Nat×Int×Int×Nat×Nat×(List Nat)×(List Nat)×(List Nat))⊕(dZ))) :=
  .need (fq .i64 (a-(1:Int)))<|.leaf (.inl (b,c,d,e,(a-(1:Int)),f,g,h,i,j,k,l,m,n,o,p))
def pc(q:Nat)(m:Nat)(r:Int)(s:Int) :Nat×Nat×Nat×Nat×Int×Nat×Nat×Nat×Nat×Int×Int×Nat×Nat×(List Nat)×(List Nat)×(List Nat)→Option ((Nat×Nat×Nat×Nat×Int×Nat×Nat×Nat×Nat×Int×Int×Nat×Nat×(List Nat)×(List Nat)×(List Nat))⊕((Nat×Nat×Nat×Nat×Nat×Nat×Int×Int×Nat×Nat×(List Nat)×(List Nat)×(List Nat))⊕(dZ))):=fun (b,t,u,n,a,c,d,e,f,g,h,i,j,o,k,l) =>
  bd ((xh r b n a c d e f g h i j o k l).run) fun _ =>
  bd (vO (bd ((xj m b t u a k).run) fun (r40,v,p) =>
  bd ((xk q m s b n a c d e f g h i j o k l r40 v p).run) fun (r43,w,x,y,z,A) =>
  (xl a c d e f g h i j l p r43 w x y z A).run)) fun (B,C,D,E,F,G,H,I,J,K,L,M,N,O,P) =>
  (xm a B C D E F G H I J K L M N O P).run
theorem Ff(a:Nat)(c:Nat)(b:Nat)(d:Nat)(w:Int)(x:Int)(y:Nat)(z:Nat)(A:List Nat)(B:List Nat)(C:List Nat)(e:Int)(f:Int)(q:Nat)(u:Nat)(v:Nat)(r:Nat)(g:Int)(h:Nat)(i:Nat)(j:Nat)(k:Nat)(l:Int)(m:Int)(n:Nat)(o:Nat)(s:List Nat)(t:List Nat)(p:List Nat) :Sg prog [.vs [.sl 1 1 1 0 a c,.sl 2 1 1 0 b d,.int .i64 w,.int .i64 x,.sl 3 1 1 0 y z],.fl A,.fl B,.fl C] Fc (pW a c b d e f (q,u,v,r,g,h,i,j,k,l,m,n,o,s,t,p)) (pc a b e f (q,u,v,r,g,h,i,j,k,l,m,n,o,s,t,p)) (pW a c b d e f) (bW 0 (xg a c b d e f) qx):=by
  unfold pc;exact Sg.cut 2 (ao fm) (cy fc (FQ a c b d e f q u v r g h i j k l m n o s t p) [⟨[],[0,1,2,3],[0,1,2,6,7,8,10,11,12,13]⟩,⟨[],[0,1,2,3],[1,2,6,7,8,12]⟩]) (fun _=>Sg.cut 1 (ao fm) (UG (xi a c b d e f g) 1 (ao fm) (bY (by decide) (yG _)) (Sg.cut 2 (ao (ao fm)) (cy fc (Fd a c b d e f q r g h i j k l m n o s t p) [⟨[],[0,1,2,3],[0,1,2,6,7,8,9,12,13,14,15]⟩,⟨[],[0,1,2,3],[0,1,2,6,7,8,9,12,13,14,15]⟩,⟨[],[0,1,2,3],[0,1,2,6,7,8,9,12,13,14,15]⟩,⟨[],[0,1,2,3],[0,1,2,6,7,8,9,12,13,14,15]⟩]) (fun ⟨r40,E,D⟩=>Sg.cut 8 (ao (ao fm)) (cy fc (Fe a c b d e f g h i j k l m n o p D) [⟨[],[0,1,2,3],[]⟩,⟨[],[0,1,2,3],[0,1,2,6,7,9,10,11,12,13,15]⟩]) (fun ⟨r43,F,G,H,I,J⟩=>cy fc (xi a c b d e f g) [⟨[],[0,1,2,3],[0,1,2,6,7,8,10,11,12,13]⟩])))) (fun ⟨K,L,M,N,O,P,Q,R,S,T,U,V,W,X,Y⟩=>cy fc (pW a c b d e f) [⟨[],[0,1,2,3],[0,1,2,6,7,8,10,11,12,13]⟩]))
def xn(e:Nat)(f:Nat)(a:Int)(c:Int)(g:Nat)(h:Nat)(i:Nat)(j:Nat)(k:Nat)(l:Nat)(m:Int)(n:Int)(o:Nat)(p:Nat)(b:List Nat)(d:List Nat)(q:List Nat) :T ((Nat×Nat×Nat×Nat×Int×Int×Nat×Nat×(List Nat)×(List Nat)×(List Nat))⊕(dZ)) :=
  .need (fU a e)<|.need (fi (Int.toNat a) (List.length b))<|.need (fU a e)<|.need (fi (Int.toNat a) (List.length b))<|.need (fU a f)<|.need (fi (Int.toNat a) (List.length d))<|.need (fU c f)<|.need (fi (Int.toNat c) (List.length (List.set d (Int.toNat a) g)))<|.leaf (.inl (i,j,k,l,m,n,o,p,(List.set b (Int.toNat a) (kZ (List.getD b (Int.toNat a) 0) h)),(List.set (List.set d (Int.toNat a) g) (Int.toNat c) 0),q))
def zl:(Nat×Nat×Nat×Nat×Int×Int×Nat×Nat×(List Nat)×(List Nat)×(List Nat))⊕(dZ)→bJ
  | .inl (a,b,c,d,e,f,g,h,i,j,k)=>(.r0 a b c d e f g h i j k)
  | .inr (.r0 l m n o p q r s t u v)=>(.r0 l m n o p q r s t u v)
def cd(a:Nat)(g:Nat)(b:Nat)(h:Nat)(i:Int)(j:Int)(k:Nat)(l:Nat)(d:List Nat)(e:List Nat)(m:List Nat)(c:Int)(f:Int) :Option bJ:=Option.map zl (bd ((xe a b d e c).run) fun (n,r2) =>
  bd ((xf a b d e c f n r2).run) fun (o,p) =>
  bd (cm (pc a b c f) (o,4607182418800017408,4607182418800017408,0,p,a,g,b,h,i,j,k,l,d,e,m)) fun (q,r,s,t,u,v,w,x,y,z,A,B,C) =>
  (xn a b c f q r s t u v w x y z A B C).run)
theorem FS(a:Nat)(b:Nat)(c:Nat)(d:Nat)(g:Int)(i:Int)(j:Nat)(k:Nat)(l:List Nat)(m:List Nat)(n:List Nat)(e:Int)(f:Int){x:bJ}(h:cd a b c d g i j k l m n e f=some x) :aI prog qs [.vs [.sl 1 1 1 0 a b,.sl 2 1 1 0 c d,.int .i64 g,.int .i64 i,.sl 3 1 1 0 j k],.fl l,.fl m,.fl n] [.ptr 0 1 0 0,.int .i64 e,.int .i64 f] (uw x) :=
  LC false uw xd qx zl h (Sg.cut 3 fm (cy fc (FO a b c d g i j k l m n e f) [⟨[],[0,1,2,3],[0,1,2,6,7,8,9]⟩,⟨[],[0,1,2,3],[0,1,2,6,7,8,9]⟩,⟨[],[0,1,2,3],[0,1,2,6,7,8,9]⟩,⟨[],[0,1,2,3],[0,1,2,6,7,8,9]⟩]) (fun ⟨F,r2⟩=>Sg.cut 3 fm (cy fc (FP a b c d g i j k l m n e f) [⟨[],[0,1,2,3],[0,1,2,6,7,8,10,11,12,13]⟩]) (fun ⟨G,H⟩=>Sg.cut 1 fm (yB ⟨[],[0,1,2,3],[0,1,2,6,7,8,10,11,12,13]⟩ (pW a b c d e f) (xg a b c d e f) 0 fm (yG _) (fun ⟨o,p,q,r,s,t,u,v,w,y,z,A,B,C,D,E⟩=>Ff a b c d g i j k l m n e f o p q r s t u v w y z A B C D E)) (fun ⟨I,J,K,L,M,N,O,P,Q,R,S,T,U⟩=>cy fc xd [⟨[],[0,1,2,3],[]⟩]))))
    (fun ⟨V,W,X,Y,Z,a0,a1,a2,a3,a4,a5⟩=>LB []) (fun x=>by cases x with | r0 a6 a7 a8 a9 b0 b1 b2 b3 b4 b5 b6=>exact Fi [])
def lc:Option bJ→Bool
  | some _=>true
  | none=>false
def lW:Option bJ→Nat
  | some (.r0 x _ _ _ _ _ _ _ _ _ _)=>x
  | _=>0
def lX:Option bJ→Nat
  | some (.r0 _ x _ _ _ _ _ _ _ _ _)=>x
  | _=>0
def lY:Option bJ→Nat
  | some (.r0 _ _ x _ _ _ _ _ _ _ _)=>x
  | _=>0
def lZ:Option bJ→Nat
  | some (.r0 _ _ _ x _ _ _ _ _ _ _)=>x
  | _=>0
def l7:Option bJ→Int
  | some (.r0 _ _ _ _ x _ _ _ _ _ _)=>x
  | _=>0
def ma:Option bJ→Int
  | some (.r0 _ _ _ _ _ x _ _ _ _ _)=>x
  | _=>0
def mb:Option bJ→Nat
  | some (.r0 _ _ _ _ _ _ x _ _ _ _)=>x
  | _=>0
def mc:Option bJ→Nat
  | some (.r0 _ _ _ _ _ _ _ x _ _ _)=>x
  | _=>0
def md:Option bJ→List Nat
  | some (.r0 _ _ _ _ _ _ _ _ x _ _)=>x
  | _=>[]
def me:Option bJ→List Nat
  | some (.r0 _ _ _ _ _ _ _ _ _ x _)=>x
  | _=>[]
def lr:Option bJ→List Nat
  | some (.r0 _ _ _ _ _ _ _ _ _ _ x)=>x
  | _=>[]
theorem FU{x:Option bJ}(h:lc x=true) :x=some (.r0 (lW x) (lX x) (lY x) (lZ x) (l7 x) (ma x) (mb x) (mc x) (md x) (me x) (lr x)):=by
  unfold lc at h
  split at h<;>first | rfl | (cases h;done) | (rename_i y;cases y;rfl)
def zm:bC:=yz qs [.vs [.lsl0 1,.lsl0 2,.int .i64,.int .i64,.lsl0 3],.fl,.fl,.fl] (.cons (.lptr 0 1 0 0) (.cons (.int .i64) (.cons (.int .i64) .nil))) fun x t=>(fun q=>[⟨uw (.r0 (lW q) (lX q) (lY q) (lZ q) (l7 q) (ma q) (mb q) (mc q) (md q) (me q) (lr q)),[lc q]⟩]) (cd x.1.1.1 x.1.1.2 x.1.2.1.1 x.1.2.1.2 x.1.2.2.1 x.1.2.2.2.1 x.1.2.2.2.2.1.1 x.1.2.2.2.2.1.2 x.2.1 x.2.2.1 x.2.2.2.1 t.2.1 t.2.2.1)
theorem Ea:cg prog zm:=nR fun x t=>(jG (fun h=>FS x.1.1.1 x.1.1.2 x.1.2.1.1 x.1.2.1.2 x.1.2.2.1 x.1.2.2.2.1 x.1.2.2.2.2.1.1 x.1.2.2.2.2.1.2 x.2.1 x.2.2.1 x.2.2.2.1 t.2.1 t.2.2.1 (FU h)) nS)
def zn:List bC:=zm::Ae
theorem cr:cR prog (cX zn):=aZ Ea fc
inductive cB where
  | r0 (a:Nat) (b:Nat) (c:List Nat) (d:Int) (e:Int) (f:Nat) (g:List Nat)
def vP:cB→AE×aW
  | .r0 a c d e f b g=>(.ret,⟨aw 103 [(4,.sl 0 1 1 0 a a),(5,.ptr 1 1 0 0),(6,.int .i64 ((c:Nat):Int))],[(0,.fl d),(1,.vs [.int .i64 e,.int .i64 f,.sl 2 1 1 0 b b]),(2,.fl g)],3⟩)
theorem gB:ye vP:=by intro x;cases x<;>(intro h;cases h)
theorem zA(id:Nat) :rB id vP:=by intro x;cases x<;>(intro h;cases h)
def FV:cB→rU
  | .r0 a c d e f b g=>⟨.tup [.sl 0 1 1 0 a a,.agg [.int .i64 e,.int .i64 f,.sl 1 1 1 0 b b],.int .i64 ((c:Nat):Int)],[some (.fl d),some (.fl g)]⟩
def OP:List Code:=cS (ri Fz)
def QB(c:Lv)(a:List Nat)(d:Int)(e:Int)(f:Lv)(b:List Nat)(_:Unit) :aW:=⟨aw 103 [(0,.imm c (.fl a) 1 1 0 (List.length a)),(3,.ptr 0 1 0 0),(5,.ptr 1 1 0 0)],[(0,.vs [.int .i64 d,.int .i64 e,.imm f (.fl b) 1 1 0 (List.length b)]),(1,.vs [.int .i64 (0:Int),.int .i64 (0:Int),.nsl])],2⟩
def HG(a:List Nat)(d:Int)(c:Int)(b:List Nat) :T ((Unit)⊕(cB)) :=
  .need (dg 0 (List.length b) b)<|.need (C8 (z9 d c (az 0 (List.length b) b)))<|.ask (!(Bx (z9 d c (az 0 (List.length b) b))))
    (.leaf (.inr (.r0 0 2 ([]:List Nat) (0:Int) (0:Int) 0 ([]:List Nat))))
    (.ask (c != (((List.length a):Nat):Int))
      (.leaf (.inr (.r0 0 8 ([]:List Nat) (0:Int) (0:Int) 0 ([]:List Nat))))
      (.need (dg 0 (List.length a) a)<|.need (cv (bn (az 0 (List.length a) a)))<|.ask (!(!(decide ((bH (bn (az 0 (List.length a) a)))≥(0:Int)))))
        (.leaf (.inr (.r0 0 10 ([]:List Nat) (0:Int) (0:Int) 0 ([]:List Nat))))
        (.leaf (.inl ()))))
def QC(c:Int)(d:Int) :Nat×Nat×(List Nat)×Nat×(List Nat)→aW:=fun (a,e,f,b,g)=>⟨aw 103 [(0,.sl 0 1 1 0 a a),(3,.ptr 1 1 0 0),(5,.ptr 2 1 0 0),(36,.int .i64 ((e:Nat):Int)),(37,.int .i64 (0:Int))],[(0,.fl f),(1,.vs [.int .i64 c,.int .i64 d,.sl 3 1 1 0 b b]),(2,.vs [.int .i64 (0:Int),.int .i64 (0:Int),.nsl]),(3,.fl g)],4⟩
def HH(a:List Nat)(b:List Nat) :T ((Nat×Nat×(List Nat)×Nat×(List Nat))⊕(cB)) :=
  .need (dg 0 (List.length a) a)<|.need (fw (List.length (az 0 (List.length a) a)))<|.need (dg 0 (List.length b) b)<|.need (fw (List.length (az 0 (List.length b) b)))<|.leaf (.inl ((List.length (az 0 (List.length a) a)),(List.length (az 0 (List.length a) a)),(az 0 (List.length a) a),(List.length (az 0 (List.length b) b)),(az 0 (List.length b) b)))
def yf(c:Int)(d:Int)(a:Nat)(e:Nat)(b:Nat) :Nat×(List Nat)×(List Nat)→aW:=fun (f,g,h)=>⟨aw 103 [(0,.sl 0 1 1 0 a a),(3,.ptr 1 1 0 0),(5,.ptr 2 1 0 0),(36,.int .i64 ((e:Nat):Int)),(37,.int .i64 ((f:Nat):Int))],[(0,.fl g),(1,.vs [.int .i64 c,.int .i64 d,.sl 3 1 1 0 b b]),(2,.vs [.int .i64 (0:Int),.int .i64 (0:Int),.nsl]),(3,.fl h)],4⟩
def yg(c:Int)(d:Int)(a:Nat)(b:Nat) :(List Nat)×(List Nat)→aW:=fun (e,f)=>⟨aw 103 [(0,.sl 0 1 1 0 a a),(3,.ptr 1 1 0 0),(5,.ptr 2 1 0 0)],[(0,.fl e),(1,.vs [.int .i64 c,.int .i64 d,.sl 3 1 1 0 b b]),(2,.vs [.int .i64 (0:Int),.int .i64 (0:Int),.nsl]),(3,.fl f)],4⟩
def HI:List Code:=cS (dh (((((OP.drop 2).drop 3).take 1)).headD .skip))
def OQ(c:Int)(d:Int)(a:Nat)(e:Nat)(b:Nat)(f:Nat)(g:List Nat)(h:List Nat)(_:Unit) :aW:=⟨aw 103 [(0,.sl 0 1 1 0 a a),(3,.ptr 1 1 0 0),(5,.ptr 2 1 0 0),(36,.int .i64 ((e:Nat):Int)),(37,.int .i64 ((f:Nat):Int))],[(0,.fl g),(1,.vs [.int .i64 c,.int .i64 d,.sl 3 1 1 0 b b]),(2,.vs [.int .i64 (0:Int),.int .i64 (0:Int),.nsl]),(3,.fl h)],4⟩
def HJ(a:Nat)(b:Nat)(c:List Nat)(d:List Nat) :T ((Unit)⊕(((List Nat)×(List Nat))⊕(cB))) :=
  .ask (decide (((b:Nat):Int)<((a:Nat):Int)))
    (.leaf (.inl ()))
    (.leaf (.inr (.inl (c,d))))
def yh(c:Int)(d:Int)(a:Nat)(e:Nat)(b:Nat)(f:Nat) :(List Nat)×(List Nat)→aW:=fun (g,h)=>⟨aw 103 [(0,.sl 0 1 1 0 a a),(3,.ptr 1 1 0 0),(5,.ptr 2 1 0 0),(36,.int .i64 ((e:Nat):Int)),(37,.int .i64 ((f:Nat):Int))],[(0,.fl g),(1,.vs [.int .i64 c,.int .i64 d,.sl 3 1 1 0 b b]),(2,.vs [.int .i64 (0:Int),.int .i64 (0:Int),.nsl]),(3,.fl h)],4⟩
def HK:List Code:=cS (inBlock ((((HI.drop 2).take 1)).headD .skip))
def OR(d:Int)(e:Int)(b:Nat)(f:Nat)(c:Nat)(a:Nat)(g:List Nat)(h:List Nat)(i:Nat) :aW:=⟨aw 103 [(0,.sl 0 1 1 0 b b),(3,.ptr 1 1 0 0),(5,.ptr 2 1 0 0),(7,.int .i64 ((a:Nat):Int)),(8,.int .i64 ((a:Nat):Int)),(9,.int .i64 ((i:Nat):Int)),(36,.int .i64 ((f:Nat):Int)),(37,.int .i64 ((a:Nat):Int))],[(0,.fl g),(1,.vs [.int .i64 d,.int .i64 e,.sl 3 1 1 0 c c]),(2,.vs [.int .i64 (0:Int),.int .i64 (0:Int),.nsl]),(3,.fl h)],4⟩
def HL(a:Nat) :T ((Nat)⊕(((List Nat)×(List Nat))⊕(((List Nat)×(List Nat))⊕(cB)))) :=
  .need (fq .i64 (((a+1):Nat):Int))<|.leaf (.inl (a+1))
def yi(d:Int)(e:Int)(a:Nat)(f:Nat)(b:Nat)(c:Nat)(g:List Nat)(h:List Nat) :Nat×Nat→aW:=fun (i,j)=>⟨aw 103 [(0,.sl 0 1 1 0 a a),(3,.ptr 1 1 0 0),(5,.ptr 2 1 0 0),(7,.int .i64 ((c:Nat):Int)),(8,.int .i64 ((i:Nat):Int)),(9,.int .i64 ((j:Nat):Int)),(36,.int .i64 ((f:Nat):Int)),(37,.int .i64 ((c:Nat):Int))],[(0,.fl g),(1,.vs [.int .i64 d,.int .i64 e,.sl 3 1 1 0 b b]),(2,.vs [.int .i64 (0:Int),.int .i64 (0:Int),.nsl]),(3,.fl h)],4⟩
def HM(d:Int)(e:Int)(a:Nat)(f:Nat)(b:Nat)(c:Nat)(g:List Nat)(h:List Nat)(i:Nat) :aW:=⟨aw 103 [(0,.sl 0 1 1 0 a a),(3,.ptr 1 1 0 0),(5,.ptr 2 1 0 0),(7,.int .i64 ((c:Nat):Int)),(8,.int .i64 ((i:Nat):Int)),(36,.int .i64 ((f:Nat):Int)),(37,.int .i64 ((c:Nat):Int))],[(0,.fl g),(1,.vs [.int .i64 d,.int .i64 e,.sl 3 1 1 0 b b]),(2,.vs [.int .i64 (0:Int),.int .i64 (0:Int),.nsl]),(3,.fl h)],4⟩
def OS:List Code:=cS (dh ((((HK.drop 3).take 1)).headD .skip))
def OT(d:Int)(e:Int)(a:Nat)(f:Nat)(b:Nat)(c:Nat)(g:List Nat)(h:List Nat)(i:Nat)(j:Nat) :aW:=⟨aw 103 [(0,.sl 0 1 1 0 a a),(3,.ptr 1 1 0 0),(5,.ptr 2 1 0 0),(7,.int .i64 ((c:Nat):Int)),(8,.int .i64 ((j:Nat):Int)),(9,.int .i64 ((i:Nat):Int)),(36,.int .i64 ((f:Nat):Int)),(37,.int .i64 ((c:Nat):Int))],[(0,.fl g),(1,.vs [.int .i64 d,.int .i64 e,.sl 3 1 1 0 b b]),(2,.vs [.int .i64 (0:Int),.int .i64 (0:Int),.nsl]),(3,.fl h)],4⟩
def HN(d:Nat)(c:List Nat)(a:Nat)(b:Nat) :T ((Nat)⊕((Nat)⊕(((List Nat)×(List Nat))⊕(((List Nat)×(List Nat))⊕(cB))))) :=
  .ask (decide (((b:Nat):Int)<((d:Nat):Int)))
    (.need (fU ((b:Nat):Int) d)<|.need (fi b (List.length c))<|.need (fU ((a:Nat):Int) d)<|.need (fi a (List.length c))<|.ask (flt (List.getD c b 0) (List.getD c a 0))
      (.leaf (.inl b))
      (.leaf (.inl a)))
    (.leaf (.inr (.inl a)))
def HO(a:Nat)(b:Nat) :T ((Nat×Nat)⊕((Nat)⊕(((List Nat)×(List Nat))⊕(((List Nat)×(List Nat))⊕(cB))))) :=
  .need (fq .i64 (((a+1):Nat):Int))<|.leaf (.inl (b,(a+1)))
def uE(b:Nat)(c:List Nat) :Nat×Nat→Option ((Nat×Nat)⊕((Nat)⊕(((List Nat)×(List Nat))⊕(((List Nat)×(List Nat))⊕(cB))))):=fun (d,a) =>
  bd ((HN b c d a).run) fun e =>
  (HO a e).run
theorem OU(b:Int)(c:Int)(a:Nat)(e:Nat)(d:Nat)(f:Nat)(g:List Nat)(h:List Nat)(j:Nat)(i:Nat) :Sg prog [] OS (yi b c a e d f g h (j,i)) (uE a g (j,i)) (yi b c a e d f g h) (bW 3 (HM b c a e d f g h) (bW 2 (yh b c a e d f) (bW 1 (yg b c a d) vP))):=by
  unfold uE;exact Sg.cut 3 (ao (ao (ao gB))) (cy cr (OT b c a e d f g h i) [⟨[],[0,1,2,3],[0,3,5,7,8,9,36,37]⟩,⟨[],[0,1,2,3],[0,3,5,7,8,9,36,37]⟩,⟨[],[0,1,2,3],[0,3,5,7,8,36,37]⟩]) (fun k=>cy cr (yi b c a e d f g h) [⟨[],[0,1,2,3],[0,3,5,7,8,9,36,37]⟩])
def OV(a:Int)(e:Int)(b:Nat)(f:Nat)(c:Nat)(d:Nat)(g:List Nat)(h:Nat)(i:(List Nat)) :aW:=⟨aw 103 [(0,.sl 0 1 1 0 b b),(3,.ptr 1 1 0 0),(5,.ptr 2 1 0 0),(7,.int .i64 ((d:Nat):Int)),(8,.int .i64 ((h:Nat):Int)),(36,.int .i64 ((f:Nat):Int)),(37,.int .i64 ((d:Nat):Int)),(74,.int .i64 a),(75,.int .i64 (0:Int))],[(0,.fl i),(1,.vs [.int .i64 a,.int .i64 e,.sl 3 1 1 0 c c]),(2,.vs [.int .i64 (0:Int),.int .i64 (0:Int),.nsl]),(3,.fl g)],4⟩
def HP(d:Nat)(b:Nat)(a:List Nat)(c:Nat) :T (((List Nat))⊕(((List Nat)×(List Nat))⊕(((List Nat)×(List Nat))⊕(cB)))) :=
  .need (fU ((c:Nat):Int) d)<|.need (fi c (List.length a))<|.need (fU ((b:Nat):Int) d)<|.need (fi b (List.length a))<|.need (fU ((b:Nat):Int) d)<|.need (fi b (List.length a))<|.need (fU ((c:Nat):Int) d)<|.need (fi c (List.length (List.set a b (List.getD a c 0))))<|.leaf (.inl (List.set (List.set a b (List.getD a c 0)) c (List.getD a b 0)))
def yj(a:Int)(e:Int)(b:Nat)(f:Nat)(c:Nat)(d:Nat)(g:Nat)(h:List Nat) :Nat×(List Nat)→aW:=fun (i,j)=>⟨aw 103 [(0,.sl 0 1 1 0 b b),(3,.ptr 1 1 0 0),(5,.ptr 2 1 0 0),(7,.int .i64 ((d:Nat):Int)),(8,.int .i64 ((g:Nat):Int)),(36,.int .i64 ((f:Nat):Int)),(37,.int .i64 ((d:Nat):Int)),(74,.int .i64 a),(75,.int .i64 ((i:Nat):Int))],[(0,.fl h),(1,.vs [.int .i64 a,.int .i64 e,.sl 3 1 1 0 c c]),(2,.vs [.int .i64 (0:Int),.int .i64 (0:Int),.nsl]),(3,.fl j)],4⟩
def HQ(c:Int)(d:Int)(a:Nat)(e:Nat)(b:Nat)(f:Nat)(g:List Nat)(h:(List Nat)) :aW:=⟨aw 103 [(0,.sl 0 1 1 0 a a),(3,.ptr 1 1 0 0),(5,.ptr 2 1 0 0),(36,.int .i64 ((e:Nat):Int)),(37,.int .i64 ((f:Nat):Int))],[(0,.fl g),(1,.vs [.int .i64 c,.int .i64 d,.sl 3 1 1 0 b b]),(2,.vs [.int .i64 (0:Int),.int .i64 (0:Int),.nsl]),(3,.fl h)],4⟩
def OW:List Code:=cS (dh ((((((HK.drop 3).drop 1).drop 2).take 1)).headD .skip))
def HS(g:Int)(b:Int)(d:Nat)(e:Nat)(f:Nat)(a:Nat)(c:List Nat) :T ((Nat×(List Nat))⊕(((List Nat))⊕(((List Nat)×(List Nat))⊕(((List Nat)×(List Nat))⊕(cB))))) :=
  .ask (decide (((a:Nat):Int)<g))
    (.need (fq .i64 (((a:Nat):Int)*b))<|.need (AL ((d:Nat):Int) d)<|.need (AL (((a:Nat):Int)*b) d)<|.need (fU ((f:Nat):Int) (d-(Int.toNat (((a:Nat):Int)*b))))<|.need (fi (bV (Int.toNat (((a:Nat):Int)*b)) f) (List.length c))<|.need (fU ((e:Nat):Int) (d-(Int.toNat (((a:Nat):Int)*b))))<|.need (fi (bV (Int.toNat (((a:Nat):Int)*b)) e) (List.length c))<|.need (fU ((e:Nat):Int) (d-(Int.toNat (((a:Nat):Int)*b))))<|.need (fi (bV (Int.toNat (((a:Nat):Int)*b)) e) (List.length c))<|.need (fU ((f:Nat):Int) (d-(Int.toNat (((a:Nat):Int)*b))))<|.need (fi (bV (Int.toNat (((a:Nat):Int)*b)) f) (List.length (List.set c (bV (Int.toNat (((a:Nat):Int)*b)) e) (List.getD c (bV (Int.toNat (((a:Nat):Int)*b)) f) 0))))<|.need (fq .i64 (((a+1):Nat):Int))<|.leaf (.inl ((a+1),(List.set (List.set c (bV (Int.toNat (((a:Nat):Int)*b)) e) (List.getD c (bV (Int.toNat (((a:Nat):Int)*b)) f) 0)) (bV (Int.toNat (((a:Nat):Int)*b)) f) (List.getD c (bV (Int.toNat (((a:Nat):Int)*b)) e) 0)))))
    (.leaf (.inr (.inl c)))
def uF(a:Int)(b:Int)(c:Nat)(d:Nat)(e:Nat) :Nat×(List Nat)→Option ((Nat×(List Nat))⊕(((List Nat))⊕(((List Nat)×(List Nat))⊕(((List Nat)×(List Nat))⊕(cB))))):=fun (f,g) =>
  (HS a b c d e f g).run
theorem OX(a:Int)(b:Int)(d:Nat)(f:Nat)(c:Nat)(e:Nat)(g:Nat)(h:List Nat)(i:Nat)(j:List Nat) :Sg prog [] OW (yj a b d f c e g h (i,j)) (uF a b c e g (i,j)) (yj a b d f c e g h) (bW 5 (HQ a b d f c e h) (bW 2 (yh a b d f c e) (bW 1 (yg a b d c) vP))):=by
  unfold uF;exact cy cr (yj a b d f c e g h) [⟨[],[0,1,2,3],[0,3,5,7,8,36,37,74,75]⟩,⟨[],[0,1,2,3],[0,3,5,36,37]⟩]
def HT(a:List Nat)(b:List Nat) :T (((List Nat)×(List Nat))⊕(((List Nat)×(List Nat))⊕(((List Nat)×(List Nat))⊕(cB)))) :=
  .leaf (.inl (a,b))
def HU(a:Nat)(b:List Nat)(c:List Nat) :T ((Nat×(List Nat)×(List Nat))⊕(((List Nat)×(List Nat))⊕(cB))) :=
  .need (fq .i64 (((a+1):Nat):Int))<|.leaf (.inl ((a+1),b,c))
def yk(f:Int)(g:Int)(c:Nat)(h:Nat)(i:Nat) :Nat×(List Nat)×(List Nat)→Option ((Nat×(List Nat)×(List Nat))⊕(((List Nat)×(List Nat))⊕(cB))):=fun (a,b,d) =>
  bd ((HJ h a b d).run) fun _ =>
  bd (vO (bd ((HL a).run) fun j =>
  bd (cm (uE c b) (a,j)) fun e =>
  bd ((HP c a b e).run) fun k =>
  bd (cm (uF f g i a e) (0,d)) fun l =>
  (HT k l).run)) fun (m,n) =>
  (HU a m n).run
theorem OY(a:Int)(b:Int)(c:Nat)(e:Nat)(d:Nat)(f:Nat)(h:List Nat)(g:List Nat) :Sg prog [] HI (yf a b c e d (f,h,g)) (yk a b c e d (f,h,g)) (yf a b c e d) (bW 1 (yg a b c d) vP):=by
  unfold yk;exact Sg.cut 2 (ao gB) (cy cr (OQ a b c e d f h g) [⟨[],[0,1,2,3],[0,3,5,36,37]⟩,⟨[],[0,1,2,3],[0,3,5]⟩]) (fun _=>Sg.cut 1 (ao gB) (UG (yh a b c e d f) 2 (ao gB) (bY (by decide) (zA _)) (Sg.cut 3 (ao (ao gB)) (cy cr (OR a b c e d f h g) [⟨[],[0,1,2,3],[0,3,5,7,8,9,36,37]⟩]) (fun o=>Sg.cut 1 (ao (ao gB)) (yB ⟨[],[0,1,2,3],[0,3,5,7,8,9,36,37]⟩ (yi a b c e d f h g) (HM a b c e d f h g) 3 (ao (ao gB)) (bY (by decide) (bY (by decide) (zA _))) (fun ⟨k,l⟩=>OU a b c e d f h g k l)) (fun i=>Sg.cut 2 (ao (ao gB)) (cy cr (OV a b c e d f g i) [⟨[],[0,1,2,3],[0,3,5,7,8,36,37,74,75]⟩]) (fun j=>Sg.cut 1 (ao (ao gB)) (yB ⟨[],[0,1,2,3],[0,3,5,7,8,36,37,74,75]⟩ (yj a b c e d f i j) (HQ a b c e d f j) 5 (ao (ao gB)) (bY (by decide) (bY (by decide) (zA _))) (fun ⟨m,n⟩=>OX a b c e d f i j m n)) (fun p=>cy cr (yh a b c e d f) [⟨[],[0,1,2,3],[0,3,5,36,37]⟩])))))) (fun ⟨q,r⟩=>cy cr (yf a b c e d) [⟨[],[0,1,2,3],[0,3,5,36,37]⟩]))
def HV(a:Int)(b:Int)(c:Nat)(d:Nat)(e:List Nat)(f:List Nat) :T ((Empty)⊕(cB)) :=
  .leaf (.inr (.r0 c 0 e a b d f))
def fo(c:List Nat)(a:Int)(b:Int)(d:List Nat) :Option cB:=toX (bd ((HG c a b d).run) fun _ =>
  bd ((HH c d).run) fun (e,g,h,f,i) =>
  bd (cm (yk a b e g f) (0,h,i)) fun (j,k) =>
  (HV a b e f j k).run)
theorem QD(g:Lv)(c:List Nat)(a:Int)(b:Int)(i:Lv)(d:List Nat){x:cB}(h:fo c a b d=some x) :aI prog Fz [] [.imm g (.fl c) 1 1 0 (List.length c),.agg [.int .i64 a,.int .i64 b,.imm i (.fl d) 1 1 0 (List.length d)]] (FV x) :=
  IB false FV vP h (Sg.cut 2 gB (cy cr (QB g c a b i d) [⟨[(.slot 4,.own 1 1 (.fl ([]:List Nat))),(.cell 32 2,.own 1 1 (.fl ([]:List Nat)))],[192,32,193],[4,5,6]⟩,⟨[(.slot 4,.own 1 1 (.fl ([]:List Nat))),(.cell 32 2,.own 1 1 (.fl ([]:List Nat)))],[288,32,289],[4,5,6]⟩,⟨[(.slot 4,.own 1 1 (.fl ([]:List Nat))),(.cell 32 2,.own 1 1 (.fl ([]:List Nat)))],[352,32,353],[4,5,6]⟩,⟨[],[0,32],[0,3,5]⟩]) (fun _=>Sg.cut 3 gB (cy cr (QC a b) [⟨[],[18,0,1,82],[0,3,5,36,37]⟩]) (fun ⟨e,j,s,f,t⟩=>Sg.cut 1 gB (yB ⟨[],[0,1,2,3],[0,3,5,36,37]⟩ (yf a b e j f) (yg a b e f) 1 gB (zA _) (fun ⟨m,n,o⟩=>OY a b e j f m n o)) (fun ⟨u,v⟩=>cy cr G3 [⟨[],[0,2,3],[4,5,6]⟩]))))
    (fun x=>by cases x with | r0 k p w q r l y=>exact Fi [.sl 0 1 1 0 k k,.agg [.int .i64 q,.int .i64 r,.sl 2 1 1 0 l l],.int .i64 ((p:Nat):Int)])
def wq:Option cB→Bool
  | some _=>true
  | none=>false
def ws:Option cB→Nat
  | some (.r0 x _ _ _ _ _ _)=>x
  | _=>0
def wt:Option cB→Nat
  | some (.r0 _ x _ _ _ _ _)=>x
  | _=>0
def wu:Option cB→List Nat
  | some (.r0 _ _ x _ _ _ _)=>x
  | _=>[]
def wv:Option cB→Int
  | some (.r0 _ _ _ x _ _ _)=>x
  | _=>0
def ww:Option cB→Int
  | some (.r0 _ _ _ _ x _ _)=>x
  | _=>0
def wx:Option cB→Nat
  | some (.r0 _ _ _ _ _ x _)=>x
  | _=>0
def wy:Option cB→List Nat
  | some (.r0 _ _ _ _ _ _ x)=>x
  | _=>[]
theorem QE{x:Option cB}(h:wq x=true) :x=some (.r0 (ws x) (wt x) (wu x) (wv x) (ww x) (wx x) (wy x)):=by
  unfold wq at h
  split at h<;>first | rfl | (cases h;done) | (rename_i y;cases y;rfl)
def Lo:bC:=mW Fz (.cons .fl (.cons (.agg (.cons (.int .i64) (.cons (.int .i64) (.cons .fl .nil)))) .nil)) fun t=>(fun q=>[⟨FV (.r0 (ws q) (wt q) (wu q) (wv q) (ww q) (wx q) (wy q)),[wq q]⟩]) (fo t.1.2 t.2.1.1 t.2.1.2.1 t.2.1.2.2.1.2)
theorem NE:cg prog Lo:=ff fun t=>(fg (fun h=>QD t.1.1 t.1.2 t.2.1.1 t.2.1.2.1 t.2.1.2.2.1.1 t.2.1.2.2.1.2 (QE h)) gr)
def Lp:List bC:=Lo::zn
theorem ip:cR prog (cX Lp):=aZ NE cr
inductive cT where
  | r0 (a:Nat) (b:Nat) (c:Nat) (d:List Nat) (e:Int) (f:Int) (g:Nat) (h:List Nat)
def Af:cT→AE×aW
  | .r0 a c d e f g b h=>(.ret,⟨aw 114 [(4,.sl 0 1 1 0 a a),(5,.ptr 1 1 0 0),(6,.int .i64 ((c:Nat):Int)),(7,.int .i64 ((d:Nat):Int))],[(0,.fl e),(1,.vs [.int .i64 f,.int .i64 g,.sl 2 1 1 0 b b]),(2,.fl h)],3⟩)
theorem jJ:ye Af:=by intro x;cases x<;>(intro h;cases h)
theorem FW(id:Nat) :rB id Af:=by intro x;cases x<;>(intro h;cases h)
def II:cT→rU
  | .r0 a c d e f g b h=>⟨.tup [.sl 0 1 1 0 a a,.agg [.int .i64 f,.int .i64 g,.sl 1 1 1 0 b b],.int .i64 ((c:Nat):Int),.int .i64 ((d:Nat):Int)],[some (.fl e),some (.fl h)]⟩
def QF:List Code:=cS (ri Iy)
def RP(d:Lv)(a:List Nat)(e:Lv)(b:List Nat)(f:Int)(g:Int)(h:Lv)(c:List Nat)(_:Unit) :aW:=⟨aw 114 [(2,.ptr 0 1 0 0),(3,.ptr 1 1 0 0),(5,.ptr 2 1 0 0),(8,.int .i64 (((List.length a):Nat):Int))],[(0,.vs [.imm d (.fl a) 1 1 0 (List.length a),.imm e (.fl b) 1 1 0 (List.length b)]),(1,.vs [.int .i64 f,.int .i64 g,.imm h (.fl c) 1 1 0 (List.length c)]),(2,.vs [.int .i64 (0:Int),.int .i64 (0:Int),.nsl])],3⟩
def Jm(a : List Nat)(b : List Nat)(e : Int)(d : Int)(c : List Nat) : T ((Unit) ⊕ (cT)) :=
  .need (dg 0 (List.length a) a)<|.need (dg 0 (List.length b) b)<|.need (sc (qd (az 0 (List.length a) a) (az 0 (List.length b) b)))<|.ask (!(sW (qd (az 0 (List.length a) a) (az 0 (List.length b) b))))
    (.leaf (.inr (.r0 0 0 2 ([]:List Nat) (0:Int) (0:Int) 0 ([]:List Nat))))
    (.need (dg 0 (List.length c) c)<|.need (C8 (z9 e d (az 0 (List.length c) c)))<|.ask (!(Bx (z9 e d (az 0 (List.length c) c))))
      (.leaf (.inr (.r0 0 0 2 ([]:List Nat) (0:Int) (0:Int) 0 ([]:List Nat))))
      (.ask (d != (((List.length a):Nat):Int))
        (.leaf (.inr (.r0 0 0 8 ([]:List Nat) (0:Int) (0:Int) 0 ([]:List Nat))))
        (.need (dg 0 (List.length a) a)<|.need (cv (bn (az 0 (List.length a) a)))<|.ask (!(!(decide ((bH (bn (az 0 (List.length a) a)))≥(0:Int)))))
          (.leaf (.inr (.r0 0 0 10 ([]:List Nat) (0:Int) (0:Int) 0 ([]:List Nat))))
          (.need (dg 0 (List.length b) b)<|.need (cv (bn (az 0 (List.length b) b)))<|.ask (!(!(decide ((bH (bn (az 0 (List.length b) b)))≥(0:Int)))))
            (.leaf (.inr (.r0 0 0 10 ([]:List Nat) (0:Int) (0:Int) 0 ([]:List Nat))))
            (.need (dg 0 (List.length c) c)<|.need (cv (bn (az 0 (List.length c) c)))<|.ask (!(!(decide ((bH (bn (az 0 (List.length c) c)))≥(0:Int)))))
              (.leaf (.inr (.r0 0 0 10 ([]:List Nat) (0:Int) (0:Int) 0 ([]:List Nat))))
              (.leaf (.inl ())))))))
def RQ(g:List Nat)(a:Int)(b:Int)(h:Lv)(c:List Nat) :Nat×Nat×Nat×(List Nat)×(List Nat)×(List Nat)→aW:=fun (d,e,f,i,j,k)=>⟨aw 114 [(3,.ptr 0 1 0 0),(5,.ptr 1 1 0 0),(9,.ptr 2 1 0 0),(10,.int .i64 (0:Int)),(71,.int .i64 (((List.length g):Nat):Int)),(72,.int .i64 (0:Int))],[(0,.vs [.int .i64 a,.int .i64 b,.imm h (.fl c) 1 1 0 (List.length c)]),(1,.vs [.int .i64 (0:Int),.int .i64 (0:Int),.nsl]),(2,.vs [.sl 3 1 1 0 d d,.sl 4 1 1 0 e e,.int .i64 a,.int .i64 b,.sl 5 1 1 0 f f]),(3,.fl i),(4,.fl j),(5,.fl k)],6⟩
def Jn(b:List Nat)(a:List Nat)(c:List Nat) :T ((Nat×Nat×Nat×(List Nat)×(List Nat)×(List Nat))⊕(cT)) :=
  .need (dg 0 (List.length b) b)<|.need (fw (List.length (az 0 (List.length b) b)))<|.need (dg 0 (List.length a) a)<|.need (fw (List.length (az 0 (List.length a) a)))<|.need (kj (((List.length (az 0 (List.length a) a))+1)*8) 140737488355328)<|.need (kj ((List.length (az 0 (List.length a) a))+1) 9223372036854775807)<|.need (kj 1 (List.length [0]))<|.need (kj (List.length (az 0 (List.length a) a)) (List.length (az 0 (List.length a) a)))<|.need (dg 0 (List.length c) c)<|.need (fw (List.length (az 0 (List.length c) c)))<|.leaf (.inl ((List.length (az 0 (List.length b) b)),((List.length (az 0 (List.length a) a))+1),(List.length (az 0 (List.length c) c)),(az 0 (List.length b) b),((List.take (List.length (az 0 (List.length a) a)) (az 0 (List.length a) a))++(List.take 1 [0])),(az 0 (List.length c) c)))
def zB(b:List Nat)(c:Int)(d:Int)(e:Lv)(a:List Nat) :Nat×Nat×Nat×Nat×Nat×Nat×Int×Int×Nat×Nat×(List Nat)×(List Nat)×(List Nat)→aW:=fun (f,g,h,i,j,k,l,m,n,o,p,q,r)=>⟨aw 114 [(3,.ptr 0 1 0 0),(5,.ptr 1 1 0 0),(9,.ptr 2 1 0 0),(10,.int .i64 ((f:Nat):Int)),(71,.int .i64 (((List.length b):Nat):Int)),(72,.int .i64 ((g:Nat):Int))],[(0,.vs [.int .i64 c,.int .i64 d,.imm e (.fl a) 1 1 0 (List.length a)]),(1,.vs [.int .i64 (0:Int),.int .i64 (0:Int),.nsl]),(2,.vs [.sl 3 1 1 0 h i,.sl 4 1 1 0 j k,.int .i64 l,.int .i64 m,.sl 5 1 1 0 n o]),(3,.fl p),(4,.fl q),(5,.fl r)],6⟩
def Eb(b:Int)(c:Int)(d:Lv)(a:List Nat) :Nat×Nat×Nat×Nat×Nat×Int×Int×Nat×Nat×(List Nat)×(List Nat)×(List Nat)→aW:=fun (e,f,g,h,i,j,k,l,m,n,o,p)=>⟨aw 114 [(3,.ptr 0 1 0 0),(5,.ptr 1 1 0 0),(9,.ptr 2 1 0 0),(10,.int .i64 ((e:Nat):Int))],[(0,.vs [.int .i64 b,.int .i64 c,.imm d (.fl a) 1 1 0 (List.length a)]),(1,.vs [.int .i64 (0:Int),.int .i64 (0:Int),.nsl]),(2,.vs [.sl 3 1 1 0 f g,.sl 4 1 1 0 h i,.int .i64 j,.int .i64 k,.sl 5 1 1 0 l m]),(3,.fl n),(4,.fl o),(5,.fl p)],6⟩
def Jo:List Code:=cS (dh (((((QF.drop 3).drop 3).take 1)).headD .skip))
def QG(b:List Nat)(c:Int)(d:Int)(e:Lv)(a:List Nat)(f:Nat)(g:Nat)(h:Nat)(i:Nat)(j:Nat)(k:Nat)(l:Int)(m:Int)(n:Nat)(o:Nat)(p:List Nat)(q:List Nat)(r:List Nat)(_:Unit) :aW:=⟨aw 114 [(3,.ptr 0 1 0 0),(5,.ptr 1 1 0 0),(9,.ptr 2 1 0 0),(10,.int .i64 ((f:Nat):Int)),(71,.int .i64 (((List.length b):Nat):Int)),(72,.int .i64 ((g:Nat):Int))],[(0,.vs [.int .i64 c,.int .i64 d,.imm e (.fl a) 1 1 0 (List.length a)]),(1,.vs [.int .i64 (0:Int),.int .i64 (0:Int),.nsl]),(2,.vs [.sl 3 1 1 0 h i,.sl 4 1 1 0 j k,.int .i64 l,.int .i64 m,.sl 5 1 1 0 n o]),(3,.fl p),(4,.fl q),(5,.fl r)],6⟩
def Jp(a:List Nat)(b:Nat)(c:Nat)(d:Nat)(e:Nat)(f:Nat)(g:Nat)(h:Int)(i:Int)(j:Nat)(k:Nat)(l:List Nat)(m:List Nat)(n:List Nat) :T ((Unit)⊕((Nat×Nat×Nat×Nat×Nat×Int×Int×Nat×Nat×(List Nat)×(List Nat)×(List Nat))⊕(cT))) :=
  .ask (decide (((c:Nat):Int)<(((List.length a):Nat):Int)))
    (.leaf (.inl ()))
    (.leaf (.inr (.inl (b,d,e,f,g,h,i,j,k,l,m,n))))
def Ec(b:List Nat)(c:Int)(d:Int)(e:Lv)(a:List Nat)(f:Nat) :Nat×Nat×Nat×Nat×Nat×Int×Int×Nat×Nat×(List Nat)×(List Nat)×(List Nat)→aW:=fun (g,h,i,j,k,l,m,n,o,p,q,r)=>⟨aw 114 [(3,.ptr 0 1 0 0),(5,.ptr 1 1 0 0),(9,.ptr 2 1 0 0),(10,.int .i64 ((g:Nat):Int)),(71,.int .i64 (((List.length b):Nat):Int)),(72,.int .i64 ((f:Nat):Int))],[(0,.vs [.int .i64 c,.int .i64 d,.imm e (.fl a) 1 1 0 (List.length a)]),(1,.vs [.int .i64 (0:Int),.int .i64 (0:Int),.nsl]),(2,.vs [.sl 3 1 1 0 h i,.sl 4 1 1 0 j k,.int .i64 l,.int .i64 m,.sl 5 1 1 0 n o]),(3,.fl p),(4,.fl q),(5,.fl r)],6⟩
def QH:List Code:=cS (inBlock ((((Jo.drop 2).take 1)).headD .skip))
def QJ(c:List Nat)(d:Int)(e:Int)(f:Lv)(a:List Nat)(g:Nat)(b:Nat)(h:Nat)(i:Nat)(j:Nat)(k:Nat)(l:Int)(m:Int)(n:Nat)(o:Nat)(p:List Nat)(q:List Nat)(r:List Nat)(_:Unit) :aW:=⟨aw 114 [(3,.ptr 0 1 0 0),(5,.ptr 1 1 0 0),(9,.ptr 2 1 0 0),(10,.int .i64 ((g:Nat):Int)),(11,.int .i64 ((b:Nat):Int)),(12,.int .i64 (0:Int)),(71,.int .i64 (((List.length c):Nat):Int)),(72,.int .i64 ((b:Nat):Int))],[(0,.vs [.int .i64 d,.int .i64 e,.imm f (.fl a) 1 1 0 (List.length a)]),(1,.vs [.int .i64 (0:Int),.int .i64 (0:Int),.nsl]),(2,.vs [.sl 3 1 1 0 h i,.sl 4 1 1 0 j k,.int .i64 l,.int .i64 m,.sl 5 1 1 0 n o]),(3,.fl p),(4,.fl q),(5,.fl r)],6⟩
def Jq:T ((Unit)⊕((Nat×Nat×Nat×Nat×Nat×Int×Int×Nat×Nat×(List Nat)×(List Nat)×(List Nat))⊕((Nat×Nat×Nat×Nat×Nat×Int×Int×Nat×Nat×(List Nat)×(List Nat)×(List Nat))⊕(cT)))) :=
  .leaf (.inl ())
def zC(c:List Nat)(d:Int)(e:Int)(f:Lv)(a:List Nat)(b:Nat) :Nat×Nat×Nat×Nat×Nat×Nat×Int×Int×Nat×Nat×(List Nat)×(List Nat)×(List Nat)→aW:=fun (g,h,i,j,k,l,m,n,o,p,q,r,s)=>⟨aw 114 [(3,.ptr 0 1 0 0),(5,.ptr 1 1 0 0),(9,.ptr 2 1 0 0),(10,.int .i64 ((g:Nat):Int)),(11,.int .i64 ((b:Nat):Int)),(12,.int .i64 ((h:Nat):Int)),(71,.int .i64 (((List.length c):Nat):Int)),(72,.int .i64 ((b:Nat):Int))],[(0,.vs [.int .i64 d,.int .i64 e,.imm f (.fl a) 1 1 0 (List.length a)]),(1,.vs [.int .i64 (0:Int),.int .i64 (0:Int),.nsl]),(2,.vs [.sl 3 1 1 0 i j,.sl 4 1 1 0 k l,.int .i64 m,.int .i64 n,.sl 5 1 1 0 o p]),(3,.fl q),(4,.fl r),(5,.fl s)],6⟩
def Jr(b:List Nat)(c:Int)(d:Int)(e:Lv)(a:List Nat)(f:Nat) :Nat×Nat×Nat×Nat×Nat×Int×Int×Nat×Nat×(List Nat)×(List Nat)×(List Nat)→aW:=fun (g,h,i,j,k,l,m,n,o,p,q,r)=>⟨aw 114 [(3,.ptr 0 1 0 0),(5,.ptr 1 1 0 0),(9,.ptr 2 1 0 0),(10,.int .i64 ((g:Nat):Int)),(71,.int .i64 (((List.length b):Nat):Int)),(72,.int .i64 ((f:Nat):Int))],[(0,.vs [.int .i64 c,.int .i64 d,.imm e (.fl a) 1 1 0 (List.length a)]),(1,.vs [.int .i64 (0:Int),.int .i64 (0:Int),.nsl]),(2,.vs [.sl 3 1 1 0 h i,.sl 4 1 1 0 j k,.int .i64 l,.int .i64 m,.sl 5 1 1 0 n o]),(3,.fl p),(4,.fl q),(5,.fl r)],6⟩
def QK:List Code:=cS (dh ((((QH.drop 2).take 1)).headD .skip))
def QL(c:List Nat)(d:Int)(e:Int)(f:Lv)(a:List Nat)(b:Nat)(g:Nat) :Nat×Nat×Nat×Nat×Nat×Int×Int×Nat×Nat×(List Nat)×(List Nat)×(List Nat)→aW:=fun (h,i,j,k,l,m,n,o,p,q,r,s)=>⟨aw 114 [(3,.ptr 0 1 0 0),(5,.ptr 1 1 0 0),(9,.ptr 2 1 0 0),(10,.int .i64 ((h:Nat):Int)),(11,.int .i64 ((b:Nat):Int)),(12,.int .i64 ((g:Nat):Int)),(71,.int .i64 (((List.length c):Nat):Int)),(72,.int .i64 ((b:Nat):Int))],[(0,.vs [.int .i64 d,.int .i64 e,.imm f (.fl a) 1 1 0 (List.length a)]),(1,.vs [.int .i64 (0:Int),.int .i64 (0:Int),.nsl]),(2,.vs [.sl 3 1 1 0 i j,.sl 4 1 1 0 k l,.int .i64 m,.int .i64 n,.sl 5 1 1 0 o p]),(3,.fl q),(4,.fl r),(5,.fl s)],6⟩
def Js(e:Nat)(m:Nat)(n:Nat)(a:Nat)(h:Nat)(b:Nat)(i:Nat)(j:Int)(k:Int)(f:Nat)(l:Nat)(c:List Nat)(d:List Nat)(g:List Nat) :T ((Nat×Nat×Nat×Nat×Nat×Int×Int×Nat×Nat×(List Nat)×(List Nat)×(List Nat))⊕((Nat×Nat×Nat×Nat×Nat×Int×Int×Nat×Nat×(List Nat)×(List Nat)×(List Nat))⊕((Nat×Nat×Nat×Nat×Nat×Int×Int×Nat×Nat×(List Nat)×(List Nat)×(List Nat))⊕((Nat×Nat×Nat×Nat×Nat×Int×Int×Nat×Nat×(List Nat)×(List Nat)×(List Nat))⊕(cT))))) :=
  .need (dg 0 a c)<|.need (dg 0 b d)<|.need (dg 0 f g)<|.need (nX (ch (az 0 a c) (az 0 b d) ((e:Nat):Int)))<|.ask ((bI (ch (az 0 a c) (az 0 b d) ((e:Nat):Int)))==((e:Nat):Int))
    (.leaf (.inr (.inl (m,a,h,b,i,j,k,f,l,c,d,g))))
    (.ask (((n:Nat):Int)==(30:Int))
      (.leaf (.inr (.inr (.inr (.inr (.r0 0 m 7 ([]:List Nat) (0:Int) (0:Int) 0 ([]:List Nat)))))))
      (.need (lc (cd a h b i j k f l c d g ((e:Nat):Int) (bI (ch (az 0 a c) (az 0 b d) ((e:Nat):Int)))))<|.need (fq .i64 (((m+1):Nat):Int))<|.leaf (.inl ((m+1),(lW (cd a h b i j k f l c d g ((e:Nat):Int) (bI (ch (az 0 a c) (az 0 b d) ((e:Nat):Int))))),(lX (cd a h b i j k f l c d g ((e:Nat):Int) (bI (ch (az 0 a c) (az 0 b d) ((e:Nat):Int))))),(lY (cd a h b i j k f l c d g ((e:Nat):Int) (bI (ch (az 0 a c) (az 0 b d) ((e:Nat):Int))))),(lZ (cd a h b i j k f l c d g ((e:Nat):Int) (bI (ch (az 0 a c) (az 0 b d) ((e:Nat):Int))))),(l7 (cd a h b i j k f l c d g ((e:Nat):Int) (bI (ch (az 0 a c) (az 0 b d) ((e:Nat):Int))))),(ma (cd a h b i j k f l c d g ((e:Nat):Int) (bI (ch (az 0 a c) (az 0 b d) ((e:Nat):Int))))),(mb (cd a h b i j k f l c d g ((e:Nat):Int) (bI (ch (az 0 a c) (az 0 b d) ((e:Nat):Int))))),(mc (cd a h b i j k f l c d g ((e:Nat):Int) (bI (ch (az 0 a c) (az 0 b d) ((e:Nat):Int))))),(md (cd a h b i j k f l c d g ((e:Nat):Int) (bI (ch (az 0 a c) (az 0 b d) ((e:Nat):Int))))),(me (cd a h b i j k f l c d g ((e:Nat):Int) (bI (ch (az 0 a c) (az 0 b d) ((e:Nat):Int))))),(lr (cd a h b i j k f l c d g ((e:Nat):Int) (bI (ch (az 0 a c) (az 0 b d) ((e:Nat):Int)))))))))
def Jt(a:Nat)(b:Nat)(c:Nat)(d:Nat)(e:Nat)(f:Nat)(g:Int)(h:Int)(i:Nat)(j:Nat)(k:List Nat)(l:List Nat)(m:List Nat) :T ((Nat×Nat×Nat×Nat×Nat×Nat×Int×Int×Nat×Nat×(List Nat)×(List Nat)×(List Nat))⊕((Nat×Nat×Nat×Nat×Nat×Int×Int×Nat×Nat×(List Nat)×(List Nat)×(List Nat))⊕((Nat×Nat×Nat×Nat×Nat×Int×Int×Nat×Nat×(List Nat)×(List Nat)×(List Nat))⊕((Nat×Nat×Nat×Nat×Nat×Int×Int×Nat×Nat×(List Nat)×(List Nat)×(List Nat))⊕(cT))))) :=
  .need (fq .i64 (((a+1):Nat):Int))<|.leaf (.inl (b,(a+1),c,d,e,f,g,h,i,j,k,l,m))
def zD(b:Nat) :Nat×Nat×Nat×Nat×Nat×Nat×Int×Int×Nat×Nat×(List Nat)×(List Nat)×(List Nat)→Option ((Nat×Nat×Nat×Nat×Nat×Nat×Int×Int×Nat×Nat×(List Nat)×(List Nat)×(List Nat))⊕((Nat×Nat×Nat×Nat×Nat×Int×Int×Nat×Nat×(List Nat)×(List Nat)×(List Nat))⊕((Nat×Nat×Nat×Nat×Nat×Int×Int×Nat×Nat×(List Nat)×(List Nat)×(List Nat))⊕((Nat×Nat×Nat×Nat×Nat×Int×Int×Nat×Nat×(List Nat)×(List Nat)×(List Nat))⊕(cT))))):=fun (c,a,d,e,f,g,h,i,j,k,l,m,n) =>
  bd ((Js b c a d e f g h i j k l m n).run) fun (o,p,q,r,s,t,u,v,w,x,y,z) =>
  (Jt a o p q r s t u v w x y z).run
theorem QM(f:List Nat)(a:Int)(b:Int)(c:Lv)(d:List Nat)(e:Nat)(h:Nat)(g:Nat)(i:Nat)(j:Nat)(k:Nat)(l:Nat)(m:Int)(n:Int)(o:Nat)(p:Nat)(q:List Nat)(r:List Nat)(s:List Nat) :Sg prog [] QK (zC f a b c d e (h,g,i,j,k,l,m,n,o,p,q,r,s)) (zD e (h,g,i,j,k,l,m,n,o,p,q,r,s)) (zC f a b c d e) (bW 3 (Jr f a b c d e) (bW 2 (Ec f a b c d e) (bW 1 (Eb a b c d) Af))):=by
  unfold zD;exact Sg.cut 1 (ao (ao (ao jJ))) (cy ip (QL f a b c d e g) [⟨[],[0,1,2,3,4,5],[3,5,9,10,71,72]⟩,⟨[(.slot 4,.own 1 1 (.fl ([]:List Nat))),(.cell 1 2,.own 1 1 (.fl ([]:List Nat)))],[246,1,247],[4,5,6,7]⟩,⟨[],[0,1,2,3,4,5],[3,5,9,10,11,12,71,72]⟩]) (fun ⟨t,u,v,w,x,y,z,A,B,C,D,E⟩=>cy ip (zC f a b c d e) [⟨[],[0,1,2,3,4,5],[3,5,9,10,11,12,71,72]⟩])
def Ju(a:Nat)(b:Nat)(c:Nat)(d:Nat)(e:Nat)(f:Int)(g:Int)(h:Nat)(i:Nat)(j:List Nat)(k:List Nat)(l:List Nat) :T ((Nat×Nat×Nat×Nat×Nat×Int×Int×Nat×Nat×(List Nat)×(List Nat)×(List Nat))⊕((Nat×Nat×Nat×Nat×Nat×Int×Int×Nat×Nat×(List Nat)×(List Nat)×(List Nat))⊕((Nat×Nat×Nat×Nat×Nat×Int×Int×Nat×Nat×(List Nat)×(List Nat)×(List Nat))⊕(cT)))) :=
  .leaf (.inl (a,b,c,d,e,f,g,h,i,j,k,l))
def Jv(a:Nat)(b:Nat)(c:Nat)(d:Nat)(e:Nat)(f:Nat)(g:Int)(h:Int)(i:Nat)(j:Nat)(k:List Nat)(l:List Nat)(m:List Nat) :T ((Nat×Nat×Nat×Nat×Nat×Nat×Int×Int×Nat×Nat×(List Nat)×(List Nat)×(List Nat))⊕((Nat×Nat×Nat×Nat×Nat×Int×Int×Nat×Nat×(List Nat)×(List Nat)×(List Nat))⊕(cT))) :=
  .need (fq .i64 (((a+1):Nat):Int))<|.leaf (.inl (b,(a+1),c,d,e,f,g,h,i,j,k,l,m))
def zE(n:List Nat) :Nat×Nat×Nat×Nat×Nat×Nat×Int×Int×Nat×Nat×(List Nat)×(List Nat)×(List Nat)→Option ((Nat×Nat×Nat×Nat×Nat×Nat×Int×Int×Nat×Nat×(List Nat)×(List Nat)×(List Nat))⊕((Nat×Nat×Nat×Nat×Nat×Int×Int×Nat×Nat×(List Nat)×(List Nat)×(List Nat))⊕(cT))):=fun (b,a,c,d,e,f,g,h,i,j,k,l,m) =>
  bd ((Jp n b a c d e f g h i j k l m).run) fun _ =>
  bd (vO (bd ((Jq).run) fun _ =>
  bd (cm (zD a) (b,0,c,d,e,f,g,h,i,j,k,l,m)) fun (o,p,q,r,s,t,u,v,w,x,y,z) =>
  (Ju o p q r s t u v w x y z).run)) fun (A,B,C,D,E,F,G,H,I,J,K,L) =>
  (Jv a A B C D E F G H I J K L).run
theorem QN(a:List Nat)(b:Int)(c:Int)(d:Lv)(e:List Nat)(g:Nat)(f:Nat)(h:Nat)(i:Nat)(j:Nat)(k:Nat)(l:Int)(m:Int)(n:Nat)(o:Nat)(p:List Nat)(q:List Nat)(r:List Nat) :Sg prog [] Jo (zB a b c d e (g,f,h,i,j,k,l,m,n,o,p,q,r)) (zE a (g,f,h,i,j,k,l,m,n,o,p,q,r)) (zB a b c d e) (bW 1 (Eb b c d e) Af):=by
  unfold zE;exact Sg.cut 2 (ao jJ) (cy ip (QG a b c d e g f h i j k l m n o p q r) [⟨[],[0,1,2,3,4,5],[3,5,9,10,71,72]⟩,⟨[],[0,1,2,3,4,5],[3,5,9,10]⟩]) (fun _=>Sg.cut 1 (ao jJ) (UG (Ec a b c d e f) 2 (ao jJ) (bY (by decide) (FW _)) (Sg.cut 2 (ao (ao jJ)) (cy ip (QJ a b c d e g f h i j k l m n o p q r) [⟨[],[0,1,2,3,4,5],[3,5,9,10,11,12,71,72]⟩]) (fun _=>Sg.cut 1 (ao (ao jJ)) (yB ⟨[],[0,1,2,3,4,5],[3,5,9,10,11,12,71,72]⟩ (zC a b c d e f) (Jr a b c d e f) 3 (ao (ao jJ)) (bY (by decide) (bY (by decide) (FW _))) (fun ⟨s,t,u,v,w,x,y,z,A,B,C,D,E⟩=>QM a b c d e f s t u v w x y z A B C D E)) (fun ⟨F,G,H,I,J,K,L,M,N,O,P,Q⟩=>cy ip (Ec a b c d e f) [⟨[],[0,1,2,3,4,5],[3,5,9,10,71,72]⟩])))) (fun ⟨R,S,T,U,V,W,X,Y,Z,a0,a1,a2⟩=>cy ip (zB a b c d e) [⟨[],[0,1,2,3,4,5],[3,5,9,10,71,72]⟩]))
def QO(c:Nat) :Nat×Nat×Int×Int×Nat×(List Nat)×(List Nat)→aW:=fun (a,d,e,f,b,g,h)=>⟨aw 114 [(3,.ptr 0 1 0 0),(5,.ptr 1 1 0 0),(10,.int .i64 ((c:Nat):Int)),(14,.sl 2 1 1 0 a a),(15,.int .i64 ((d:Nat):Int))],[(0,.vs [.int .i64 e,.int .i64 f,.sl 3 1 1 0 b b]),(1,.vs [.int .i64 (0:Int),.int .i64 (0:Int),.nsl]),(2,.fl g),(3,.fl h)],4⟩
def Jw(a:Nat)(e:Int)(f:Int)(b:Nat)(c:List Nat)(d:List Nat) :T ((Nat×Nat×Int×Int×Nat×(List Nat)×(List Nat))⊕(cT)) :=
  .need (dg 0 a c)<|.need (dg 0 b d)<|.need (wq (fo (az 0 a c) e f (az 0 b d)))<|.leaf (.inl ((ws (fo (az 0 a c) e f (az 0 b d))),(wt (fo (az 0 a c) e f (az 0 b d))),(wv (fo (az 0 a c) e f (az 0 b d))),(ww (fo (az 0 a c) e f (az 0 b d))),(wx (fo (az 0 a c) e f (az 0 b d))),(wu (fo (az 0 a c) e f (az 0 b d))),(wy (fo (az 0 a c) e f (az 0 b d)))))
def Jx(a:Nat)(b:Nat)(c:Nat)(d:Int)(e:Int)(f:Nat)(g:List Nat)(h:List Nat) :T ((Empty)⊕(cT)) :=
  .ask (((c:Nat):Int) != (0:Int))
    (.leaf (.inr (.r0 0 a 7 ([]:List Nat) (0:Int) (0:Int) 0 ([]:List Nat))))
    (.leaf (.inr (.r0 b a 0 g d e f h)))
def km(a:List Nat)(b:List Nat)(c:Int)(d:Int)(e:List Nat) :Option cT:=toX (bd ((Jm a b c d e).run) fun _ =>
  bd ((Jn a b e).run) fun (f,g,h,i,j,k) =>
  bd (cm (zE a) (0,0,f,f,g,g,c,d,h,h,i,j,k)) fun (l,m,z,A,B,n,o,p,C,q,D,r) =>
  bd ((Jw m n o p q r).run) fun (s,t,u,v,w,x,y) =>
  (Jx l s t u v w x y).run)
theorem RR(g:Lv)(b:List Nat)(i:Lv)(f:List Nat)(c:Int)(d:Int)(e:Lv)(a:List Nat){x:cT}(h:km b f c d a=some x) :aI prog Iy [] [.agg [.imm g (.fl b) 1 1 0 (List.length b),.imm i (.fl f) 1 1 0 (List.length f)],.agg [.int .i64 c,.int .i64 d,.imm e (.fl a) 1 1 0 (List.length a)]] (II x) :=
  IB false II Af h (Sg.cut 3 jJ (cy ip (RP g b i f c d e a) [⟨[(.slot 4,.own 1 1 (.fl ([]:List Nat))),(.cell 48 2,.own 1 1 (.fl ([]:List Nat)))],[384,48,385],[4,5,6,7]⟩,⟨[(.slot 4,.own 1 1 (.fl ([]:List Nat))),(.cell 48 2,.own 1 1 (.fl ([]:List Nat)))],[384,48,385],[4,5,6,7]⟩,⟨[(.slot 4,.own 1 1 (.fl ([]:List Nat))),(.cell 48 2,.own 1 1 (.fl ([]:List Nat)))],[464,48,465],[4,5,6,7]⟩,⟨[(.slot 4,.own 1 1 (.fl ([]:List Nat))),(.cell 48 2,.own 1 1 (.fl ([]:List Nat)))],[736,48,737],[4,5,6,7]⟩,⟨[(.slot 4,.own 1 1 (.fl ([]:List Nat))),(.cell 48 2,.own 1 1 (.fl ([]:List Nat)))],[736,48,737],[4,5,6,7]⟩,⟨[(.slot 4,.own 1 1 (.fl ([]:List Nat))),(.cell 48 2,.own 1 1 (.fl ([]:List Nat)))],[736,48,737],[4,5,6,7]⟩,⟨[],[0,16,48],[2,3,5,8]⟩]) (fun _=>Sg.cut 3 jJ (cy ip (RQ b c d e a) [⟨[],[1,2,275,35,115,227],[3,5,9,10,71,72]⟩]) (fun ⟨E,F,G,H,I,J⟩=>Sg.cut 1 jJ (yB ⟨[],[0,1,2,3,4,5],[3,5,9,10,71,72]⟩ (zB b c d e a) (Eb c d e a) 1 jJ (FW _) (fun ⟨l,m,n,o,p,q,r,s,t,u,v,w,y⟩=>QN b c d e a l m n o p q r s t u v w y)) (fun ⟨z,K,L,M,N,O,P,Q,R,S,T,U⟩=>Sg.cut 1 jJ (cy ip (QO z) [⟨[],[0,1,134,135],[3,5,10,14,15]⟩]) (fun ⟨V,W,X,Y,Z,a0,a4⟩=>cy ip G3 [⟨[(.slot 4,.own 1 1 (.fl ([]:List Nat))),(.cell 1 2,.own 1 1 (.fl ([]:List Nat)))],[132,1,133],[4,5,6,7]⟩,⟨[],[2,1,3],[4,5,6,7]⟩])))))
    (fun x=>by cases x with | r0 j A B a5 C D k a6=>exact Fi [.sl 0 1 1 0 j j,.agg [.int .i64 C,.int .i64 D,.sl 2 1 1 0 k k],.int .i64 ((A:Nat):Int),.int .i64 ((B:Nat):Int)])
def BB:Option cT→Bool
  | some _=>true
  | none=>false
def BZ:Option cT→Nat
  | some (.r0 x _ _ _ _ _ _ _)=>x
  | _=>0
def B0:Option cT→Nat
  | some (.r0 _ x _ _ _ _ _ _)=>x
  | _=>0
def B2:Option cT→Nat
  | some (.r0 _ _ x _ _ _ _ _)=>x
  | _=>0
def B5:Option cT→List Nat
  | some (.r0 _ _ _ x _ _ _ _)=>x
  | _=>[]
def B6:Option cT→Int
  | some (.r0 _ _ _ _ x _ _ _)=>x
  | _=>0
def B7:Option cT→Int
  | some (.r0 _ _ _ _ _ x _ _)=>x
  | _=>0
def B8:Option cT→Nat
  | some (.r0 _ _ _ _ _ _ x _)=>x
  | _=>0
def B9:Option cT→List Nat
  | some (.r0 _ _ _ _ _ _ _ x)=>x
  | _=>[]
theorem RS{x:Option cT}(h:BB x=true) :x=some (.r0 (BZ x) (B0 x) (B2 x) (B5 x) (B6 x) (B7 x) (B8 x) (B9 x)):=by
  unfold BB at h
  split at h<;>first | rfl | (cases h;done) | (rename_i y;cases y;rfl)
def NF:bC:=mW Iy (.cons (.agg (.cons .fl (.cons .fl .nil))) (.cons (.agg (.cons (.int .i64) (.cons (.int .i64) (.cons .fl .nil)))) .nil)) fun t=>(fun q=>[⟨II (.r0 (BZ q) (B0 q) (B2 q) (B5 q) (B6 q) (B7 q) (B8 q) (B9 q)),[BB q]⟩]) (km t.1.1.2 t.1.2.1.2 t.2.1.1 t.2.1.2.1 t.2.1.2.2.1.2)
theorem OZ:cg prog NF:=ff fun t=>(fg (fun h=>RR t.1.1.1 t.1.1.2 t.1.2.1.1 t.1.2.1.2 t.2.1.1 t.2.1.2.1 t.2.1.2.2.1.1 t.2.1.2.2.1.2 (RS h)) gr)
def NG:List bC:=NF::Lp
theorem uG:cR prog (cX NG):=aZ OZ ip
inductive eK where
  | r0 (a:Nat) (b:Nat) (c:Nat) (d:Nat) (e:Nat) (f:List Nat) (g:List Nat) (h:List Nat) (i:List Nat)
def Jy:eK→AE×aW
  | .r0 e a b c d f g h i=>(.ret,⟨aw 65 [(2,.ptr 0 1 0 0),(3,.ptr 1 1 0 0),(4,.flt false e)],[(0,.vs [.sl 2 1 1 0 a a,.sl 3 1 1 0 b b]),(1,.vs [.sl 4 1 1 0 c c,.sl 5 1 1 0 d d]),(2,.fl f),(3,.fl g),(4,.fl h),(5,.fl i)],6⟩)
theorem Ca:ye Jy:=by intro x;cases x<;>(intro h;cases h)
def Ed:eK→rU
  | .r0 e a b c d f g h i=>⟨.tup [.agg [.sl 0 1 1 0 a a,.sl 1 1 1 0 b b],.agg [.sl 2 1 1 0 c c,.sl 3 1 1 0 d d],.flt false e],[some (.fl f),some (.fl g),some (.fl h),some (.fl i)]⟩
def Cb:List Code:=cS (ri D0)
def O0:Int×Nat×Bool×Nat×Nat×Nat×Nat×(List Nat)×(List Nat)×(List Nat)×(List Nat)→aW:=fun (e,f,g,a,b,c,d,h,i,j,k)=>⟨aw 65 [(2,.ptr 0 1 0 0),(3,.ptr 1 1 0 0),(5,.int .i64 e),(6,.flt false f),(7,.ptr 2 1 0 0),(8,.ptr 3 1 0 0),(43,.bool false g)],[(0,.vs [.nsl,.nsl]),(1,.vs [.nsl,.nsl]),(2,.vs [.sl 4 1 1 0 a a,.sl 5 1 1 0 b b]),(3,.vs [.sl 6 1 1 0 c c,.sl 7 1 1 0 d d]),(4,.fl h),(5,.fl i),(6,.fl j),(7,.fl k)],8⟩
def HW(a:List Nat)(b:List Nat) :T ((Int×Nat×Bool×Nat×Nat×Nat×Nat×(List Nat)×(List Nat)×(List Nat)×(List Nat))⊕(eK)) :=
  .need ((2:Int) != (0:Int))<|.need (fq .i64 (Int.tdiv (((List.length a):Nat):Int) (2:Int)))<|.need (fq .i64 ((Int.tdiv (((List.length a):Nat):Int) (2:Int))-(1:Int)))<|.need (fU ((Int.tdiv (((List.length a):Nat):Int) (2:Int))-(1:Int)) (List.length b))<|.need (fi (Int.toNat ((Int.tdiv (((List.length a):Nat):Int) (2:Int))-(1:Int))) (List.length b))<|.need (AL (Int.tdiv (((List.length a):Nat):Int) (2:Int)) (List.length a))<|.need (AL (0:Int) (Int.toNat (Int.tdiv (((List.length a):Nat):Int) (2:Int))))<|.need (dg 0 (Int.toNat (Int.tdiv (((List.length a):Nat):Int) (2:Int))) a)<|.need (fw (List.length (az 0 (Int.toNat (Int.tdiv (((List.length a):Nat):Int) (2:Int))) a)))<|.need (fq .i64 ((Int.tdiv (((List.length a):Nat):Int) (2:Int))-(1:Int)))<|.need (AL ((Int.tdiv (((List.length a):Nat):Int) (2:Int))-(1:Int)) (List.length b))<|.need (AL (0:Int) (Int.toNat ((Int.tdiv (((List.length a):Nat):Int) (2:Int))-(1:Int))))<|.need (dg 0 (Int.toNat ((Int.tdiv (((List.length a):Nat):Int) (2:Int))-(1:Int))) b)<|.need (fw (List.length (az 0 (Int.toNat ((Int.tdiv (((List.length a):Nat):Int) (2:Int))-(1:Int))) b)))<|.need (AL (((List.length a):Nat):Int) (List.length a))<|.need (AL (Int.tdiv (((List.length a):Nat):Int) (2:Int)) (List.length a))<|.need (dg (Int.toNat (Int.tdiv (((List.length a):Nat):Int) (2:Int))) ((List.length a)-(Int.toNat (Int.tdiv (((List.length a):Nat):Int) (2:Int)))) a)<|.need (fw (List.length (az (Int.toNat (Int.tdiv (((List.length a):Nat):Int) (2:Int))) ((List.length a)-(Int.toNat (Int.tdiv (((List.length a):Nat):Int) (2:Int)))) a)))<|.need (AL (((List.length b):Nat):Int) (List.length b))<|.need (AL (Int.tdiv (((List.length a):Nat):Int) (2:Int)) (List.length b))<|.need (dg (Int.toNat (Int.tdiv (((List.length a):Nat):Int) (2:Int))) ((List.length b)-(Int.toNat (Int.tdiv (((List.length a):Nat):Int) (2:Int)))) b)<|.need (fw (List.length (az (Int.toNat (Int.tdiv (((List.length a):Nat):Int) (2:Int))) ((List.length b)-(Int.toNat (Int.tdiv (((List.length a):Nat):Int) (2:Int)))) b)))<|.leaf (.inl ((Int.tdiv (((List.length a):Nat):Int) (2:Int)),(List.getD b (Int.toNat ((Int.tdiv (((List.length a):Nat):Int) (2:Int))-(1:Int))) 0),(zI (List.getD b (Int.toNat ((Int.tdiv (((List.length a):Nat):Int) (2:Int))-(1:Int))) 0) 0),(List.length (az 0 (Int.toNat (Int.tdiv (((List.length a):Nat):Int) (2:Int))) a)),(List.length (az 0 (Int.toNat ((Int.tdiv (((List.length a):Nat):Int) (2:Int))-(1:Int))) b)),(List.length (az (Int.toNat (Int.tdiv (((List.length a):Nat):Int) (2:Int))) ((List.length a)-(Int.toNat (Int.tdiv (((List.length a):Nat):Int) (2:Int)))) a)),(List.length (az (Int.toNat (Int.tdiv (((List.length a):Nat):Int) (2:Int))) ((List.length b)-(Int.toNat (Int.tdiv (((List.length a):Nat):Int) (2:Int)))) b)),(az 0 (Int.toNat (Int.tdiv (((List.length a):Nat):Int) (2:Int))) a),(az 0 (Int.toNat ((Int.tdiv (((List.length a):Nat):Int) (2:Int))-(1:Int))) b),(az (Int.toNat (Int.tdiv (((List.length a):Nat):Int) (2:Int))) ((List.length a)-(Int.toNat (Int.tdiv (((List.length a):Nat):Int) (2:Int)))) a),(az (Int.toNat (Int.tdiv (((List.length a):Nat):Int) (2:Int))) ((List.length b)-(Int.toNat (Int.tdiv (((List.length a):Nat):Int) (2:Int)))) b)))
def HX(e:Nat)(a:Nat)(b:Nat)(c:Nat)(d:Nat)(f:List Nat)(g:List Nat) :(List Nat)×(List Nat)→aW:=fun (h,i)=>⟨aw 65 [(2,.ptr 0 1 0 0),(3,.ptr 1 1 0 0),(6,.flt false e),(7,.ptr 2 1 0 0),(8,.ptr 3 1 0 0)],[(0,.vs [.nsl,.nsl]),(1,.vs [.nsl,.nsl]),(2,.vs [.sl 4 1 1 0 a a,.sl 5 1 1 0 b b]),(3,.vs [.sl 6 1 1 0 c c,.sl 7 1 1 0 d d]),(4,.fl h),(5,.fl f),(6,.fl i),(7,.fl g)],8⟩
def HY(a:Int)(d:Nat)(e:Nat)(f:Nat)(b:List Nat)(c:List Nat) :T (((List Nat)×(List Nat))⊕(eK)) :=
  .need (fq .i64 (a-(1:Int)))<|.need (fU (a-(1:Int)) e)<|.need (fi (Int.toNat (a-(1:Int))) (List.length b))<|.need (fU (a-(1:Int)) e)<|.need (fi (Int.toNat (a-(1:Int))) (List.length b))<|.need (fU (0:Int) f)<|.need (fi 0 (List.length c))<|.need (fU (0:Int) f)<|.need (fi 0 (List.length c))<|.leaf (.inl ((List.set b (Int.toNat (a-(1:Int))) (kZ (List.getD b (Int.toNat (a-(1:Int))) 0) (eY d))),(List.set c 0 (kZ (List.getD c 0 0) (eY d)))))
def HZ(a:List Nat)(b:List Nat) :T (((List Nat)×(List Nat))⊕(eK)) :=
  .leaf (.inl (a,b))
def H0(a:Nat)(b:Nat)(c:Nat)(d:Nat)(e:Nat)(f:List Nat)(g:List Nat)(h:List Nat)(i:List Nat) :T ((Empty)⊕(eK)) :=
  .leaf (.inr (.r0 a b c d e h f i g))
def gC(f:List Nat)(g:List Nat) :Option eK:=toX (bd ((HW f g).run) fun (h,a,i,b,j,c,k,d,l,e,m) =>
  bd ((bif i then (HY h a b c d e).run else (HZ d e).run)) fun (n,o) =>
  (H0 a b j c k l m n o).run)
theorem O1(q:Lv)(a:List Nat)(r:Lv)(d:List Nat){x:eK}(h:gC a d=some x) :aI prog D0 [] [.agg [.imm q (.fl a) 1 1 0 (List.length a),.imm r (.fl d) 1 1 0 (List.length d)]] (Ed x) :=
  IB false Ed Jy h (Sg.cut 6 Ca (cy uG O0 [⟨[],[16,32,448,656,320,416,544,624],[2,3,5,6,7,8,43]⟩]) (fun ⟨u,e,s,f,g,i,j,v,k,w,l⟩=>Sg.cut 1 Ca (C7 (c:=.tmp 43) (kn:=false) (b:=s) (by kernel_rfl:((Cb.drop 6).take 1)=[.cond (.tmp 43) (IA ((((Cb.drop 6).take 1)).headD .skip)) (No ((((Cb.drop 6).take 1)).headD .skip))]) Ca (by kernel_rfl) (cy uG (HX e f g i j k l) [⟨[],[0,1,2,3,4,5,6,7],[2,3,6,7,8]⟩]) (cy uG (HX e f g i j k l) [⟨[],[0,1,2,3,4,5,6,7],[2,3,6,7,8]⟩])) (fun ⟨y,z⟩=>cy uG G3 [⟨[],[0,1,4,5,6,7],[2,3,4]⟩])))
    (fun x=>by cases x with | r0 t m n o p A B C D=>exact Fi [.agg [.sl 2 1 1 0 m m,.sl 3 1 1 0 n n],.agg [.sl 4 1 1 0 o o,.sl 5 1 1 0 p p],.flt false t])
def yl:Option eK→Bool
  | some _=>true
  | none=>false
def yO:Option eK→Nat
  | some (.r0 x _ _ _ _ _ _ _ _)=>x
  | _=>0
def yP:Option eK→Nat
  | some (.r0 _ x _ _ _ _ _ _ _)=>x
  | _=>0
def yQ:Option eK→Nat
  | some (.r0 _ _ x _ _ _ _ _ _)=>x
  | _=>0
def yR:Option eK→Nat
  | some (.r0 _ _ _ x _ _ _ _ _)=>x
  | _=>0
def yS:Option eK→Nat
  | some (.r0 _ _ _ _ x _ _ _ _)=>x
  | _=>0
def yT:Option eK→List Nat
  | some (.r0 _ _ _ _ _ x _ _ _)=>x
  | _=>[]
def yU:Option eK→List Nat
  | some (.r0 _ _ _ _ _ _ x _ _)=>x
  | _=>[]
def yV:Option eK→List Nat
  | some (.r0 _ _ _ _ _ _ _ x _)=>x
  | _=>[]
def yW:Option eK→List Nat
  | some (.r0 _ _ _ _ _ _ _ _ x)=>x
  | _=>[]
theorem O2{x:Option eK}(h:yl x=true) :x=some (.r0 (yO x) (yP x) (yQ x) (yR x) (yS x) (yT x) (yU x) (yV x) (yW x)):=by
  unfold yl at h
  split at h<;>first | rfl | (cases h;done) | (rename_i y;cases y;rfl)
def Jz:bC:=mW D0 (.cons (.agg (.cons .fl (.cons .fl .nil))) .nil) fun t=>(fun q=>[⟨Ed (.r0 (yO q) (yP q) (yQ q) (yR q) (yS q) (yT q) (yU q) (yV q) (yW q)),[yl q]⟩]) (gC t.1.1.2 t.1.2.1.2)
theorem LK:cg prog Jz:=ff fun t=>(fg (fun h=>O1 t.1.1.1 t.1.1.2 t.1.2.1.1 t.1.2.1.2 (O2 h)) gr)
def JA:List bC:=Jz::NG
theorem Eq:cR prog (cX JA):=aZ LK uG
inductive mY where
  | r0 (a:Int)
def O3:mY→AE×aW
  | .r0 a=>(.ret,⟨aw 20 [(4,.int .i64 a)],[],0⟩)
def Cc:mY→rU
  | .r0 a=>⟨.int .i64 a,[]⟩
def FX(b:Nat)(a:Nat) :T ((Empty)⊕(mY)) :=
  .ask (zI b b)
    (.ask (zI a a)
      (.leaf (.inr (.r0 (0:Int))))
      (.leaf (.inr (.r0 (-1:Int)))))
    (.ask (zI a a)
      (.leaf (.inr (.r0 (1:Int))))
      (.ask (flt b a)
        (.leaf (.inr (.r0 (-1:Int))))
        (.ask (KT b a)
          (.leaf (.inr (.r0 (1:Int))))
          (.leaf (.inr (.r0 (0:Int)))))))
def rz(a:Nat)(b:Nat) :Option mY:=toX ((FX a b).run)
theorem NH(a:Nat)(b:Nat){x:mY}(h:rz a b=some x) :aI prog Hy [] [.flt false a,.flt false b] (Cc x) :=
  IB false Cc O3 h (cy Eq G3 [⟨[],[],[4]⟩,⟨[],[],[4]⟩,⟨[],[],[4]⟩,⟨[],[],[4]⟩,⟨[],[],[4]⟩,⟨[],[],[4]⟩])
    (fun x=>by cases x with | r0 c=>exact Fi [.int .i64 c])
def wz:Option mY→Bool
  | some _=>true
  | none=>false
def xG:Option mY→Int
  | some (.r0 x)=>x
  | _=>0
theorem NI{x:Option mY}(h:wz x=true) :x=some (.r0 (xG x)):=by
  unfold wz at h
  split at h<;>first | rfl | (cases h;done) | (rename_i y;cases y;rfl)
def H2:bC:=mW Hy (.cons (.flt false) (.cons (.flt false) .nil)) fun t=>(fun q=>[⟨Cc (.r0 (xG q)),[wz q]⟩]) (rz t.1 t.2.1)
theorem Ke:cg prog H2:=ff fun t=>(fg (fun h=>NH t.1 t.2.1 (NI h)) gr)
def H3:List bC:=H2::JA
theorem iG:cR prog (cX H3):=aZ Ke Eq
inductive aD where
inductive bc where
  | r0 (a:List Int)
def bB:aD→AE×aW:=fun x=>nomatch x
theorem aM:ye bB:=by intro x;cases x<;>(intro h;cases h)
theorem di(id:Nat) :rB id bB:=by intro x;cases x<;>(intro h;cases h)
def dk:bc→rU
  | .r0 a=>⟨.tup [],[some (.ns .i64 a)]⟩
def fx(a:(List Int)) :aW:=⟨aw 53 [],[(0,.ns .i64 a)],1⟩
def jX:List Code:=cS (ri iS)
def ko(c:List Int)(d:Nat)(e:Nat)(f:Nat)(g:Int)(h:Int)(i:Lv)(j:Lv)(k:Int)(l:Lv)(a:List Nat)(m:Int)(n:Int)(o:Lv)(b:List Nat)(p:Nat)(q:Int) :aW:=⟨aw 53 [(0,.sl 0 1 1 d e f),(1,.int .i64 g),(2,.int .i64 h),(3,.fn (.func aN) [] [.iptr i (.vs [.iptr j (.vs [.int .i64 k,.imm l (.fl a) 1 1 0 (List.length a),.nsl,.int .i64 m,.int .i64 n,.imm o (.fl b) 1 1 0 (List.length b),.flt false p,.nsl,.nsl]) 1 0 0]) 1 0 0]),(8,.int .i64 q)],[(0,.ns .i64 c)],1⟩
def fy(a:Int) :T ((Int)⊕(aD)) :=
  .need (fq .i64 (a+(1:Int)))<|.leaf (.inl (a+(1:Int)))
def bR(c:Nat)(d:Nat)(e:Nat)(f:Int)(g:Int)(h:Lv)(i:Lv)(j:Int)(k:Lv)(a:List Nat)(l:Int)(m:Int)(n:Lv)(b:List Nat)(o:Nat) :Int×(List Int)→aW:=fun (p,q)=>⟨aw 53 [(0,.sl 0 1 1 c d e),(1,.int .i64 f),(2,.int .i64 g),(3,.fn (.func aN) [] [.iptr h (.vs [.iptr i (.vs [.int .i64 j,.imm k (.fl a) 1 1 0 (List.length a),.nsl,.int .i64 l,.int .i64 m,.imm n (.fl b) 1 1 0 (List.length b),.flt false o,.nsl,.nsl]) 1 0 0]) 1 0 0]),(8,.int .i64 p)],[(0,.ns .i64 q)],1⟩
def de(a:(List Int)) :aW:=⟨aw 53 [],[(0,.ns .i64 a)],1⟩
def fA:List Code:=cS (dh ((((jX.drop 1).take 1)).headD .skip))
def jY(c:Nat)(d:Nat)(e:Nat)(f:Int)(g:Int)(h:Lv)(i:Lv)(j:Int)(k:Lv)(a:List Nat)(l:Int)(m:Int)(n:Lv)(b:List Nat)(o:Nat)(p:Int)(q:List Int)(_:Unit) :aW:=⟨aw 53 [(0,.sl 0 1 1 c d e),(1,.int .i64 f),(2,.int .i64 g),(3,.fn (.func aN) [] [.iptr h (.vs [.iptr i (.vs [.int .i64 j,.imm k (.fl a) 1 1 0 (List.length a),.nsl,.int .i64 l,.int .i64 m,.imm n (.fl b) 1 1 0 (List.length b),.flt false o,.nsl,.nsl]) 1 0 0]) 1 0 0]),(8,.int .i64 p)],[(0,.ns .i64 q)],1⟩
def fB(a:Int)(b:Int)(c:List Int) :T ((Unit)⊕(((List Int))⊕(aD))) :=
  .ask (decide (b<a))
    (.leaf (.inl ()))
    (.leaf (.inr (.inl c)))
def df(c:Nat)(d:Nat)(e:Nat)(f:Int)(g:Int)(h:Lv)(i:Lv)(j:Int)(k:Lv)(a:List Nat)(l:Int)(m:Int)(n:Lv)(b:List Nat)(o:Nat)(p:Int)(q:(List Int)) :aW:=⟨aw 53 [(0,.sl 0 1 1 c d e),(1,.int .i64 f),(2,.int .i64 g),(3,.fn (.func aN) [] [.iptr h (.vs [.iptr i (.vs [.int .i64 j,.imm k (.fl a) 1 1 0 (List.length a),.nsl,.int .i64 l,.int .i64 m,.imm n (.fl b) 1 1 0 (List.length b),.flt false o,.nsl,.nsl]) 1 0 0]) 1 0 0]),(8,.int .i64 p)],[(0,.ns .i64 q)],1⟩
def jZ:List Code:=cS (inBlock ((((fA.drop 2).take 1)).headD .skip))
def ka(d:Nat)(e:Nat)(f:Nat)(g:Int)(h:Int)(i:Lv)(j:Lv)(k:Int)(l:Lv)(a:List Nat)(m:Int)(n:Int)(o:Lv)(b:List Nat)(p:Nat)(c:Int)(q:List Int)(_:Unit) :aW:=⟨aw 53 [(0,.sl 0 1 1 d e f),(1,.int .i64 g),(2,.int .i64 h),(3,.fn (.func aN) [] [.iptr i (.vs [.iptr j (.vs [.int .i64 k,.imm l (.fl a) 1 1 0 (List.length a),.nsl,.int .i64 m,.int .i64 n,.imm o (.fl b) 1 1 0 (List.length b),.flt false p,.nsl,.nsl]) 1 0 0]) 1 0 0]),(8,.int .i64 c),(9,.int .i64 c)],[(0,.ns .i64 q)],1⟩
def fC:T ((Unit)⊕(((List Int))⊕(((List Int))⊕(aD)))) :=
  .leaf (.inl ())
def bS(c:Nat)(d:Nat)(e:Nat)(f:Int)(g:Int)(h:Lv)(i:Lv)(j:Int)(k:Lv)(a:List Nat)(l:Int)(m:Int)(n:Lv)(b:List Nat)(o:Nat)(p:Int) :Int×(List Int)→aW:=fun (q,r)=>⟨aw 53 [(0,.sl 0 1 1 c d e),(1,.int .i64 f),(2,.int .i64 g),(3,.fn (.func aN) [] [.iptr h (.vs [.iptr i (.vs [.int .i64 j,.imm k (.fl a) 1 1 0 (List.length a),.nsl,.int .i64 l,.int .i64 m,.imm n (.fl b) 1 1 0 (List.length b),.flt false o,.nsl,.nsl]) 1 0 0]) 1 0 0]),(8,.int .i64 p),(9,.int .i64 q)],[(0,.ns .i64 r)],1⟩
def fD(c:Nat)(d:Nat)(e:Nat)(f:Int)(g:Int)(h:Lv)(i:Lv)(j:Int)(k:Lv)(a:List Nat)(l:Int)(m:Int)(n:Lv)(b:List Nat)(o:Nat)(p:Int)(q:(List Int)) :aW:=⟨aw 53 [(0,.sl 0 1 1 c d e),(1,.int .i64 f),(2,.int .i64 g),(3,.fn (.func aN) [] [.iptr h (.vs [.iptr i (.vs [.int .i64 j,.imm k (.fl a) 1 1 0 (List.length a),.nsl,.int .i64 l,.int .i64 m,.imm n (.fl b) 1 1 0 (List.length b),.flt false o,.nsl,.nsl]) 1 0 0]) 1 0 0]),(8,.int .i64 p)],[(0,.ns .i64 q)],1⟩
def kb:List Code:=cS (dh ((((jZ.drop 1).take 1)).headD .skip))
def ke(c:Nat)(d:Nat)(e:Nat)(f:Int)(g:Int)(h:Lv)(i:Lv)(j:Int)(k:Lv)(a:List Nat)(l:Int)(m:Int)(n:Lv)(b:List Nat)(o:Nat)(p:Int)(q:Int)(r:List Int)(s:Bool) :aW:=⟨aw 53 [(0,.sl 0 1 1 c d e),(1,.int .i64 f),(2,.int .i64 g),(3,.fn (.func aN) [] [.iptr h (.vs [.iptr i (.vs [.int .i64 j,.imm k (.fl a) 1 1 0 (List.length a),.nsl,.int .i64 l,.int .i64 m,.imm n (.fl b) 1 1 0 (List.length b),.flt false o,.nsl,.nsl]) 1 0 0]) 1 0 0]),(8,.int .i64 p),(9,.int .i64 q),(34,.bool false s)],[(0,.ns .i64 r)],1⟩
def fE(b:Nat)(e:Nat)(f:Int)(d:List Nat)(a:Int)(c:List Int) :T ((Bool)⊕(((List Int))⊕(((List Int))⊕(((List Int))⊕(aD))))) :=
  .ask (decide (a>f))
    (.need (fU a e)<|.need (fi (bV b (Int.toNat a)) (List.length c))<|.need (fq .i64 (a-(1:Int)))<|.need (fU (a-(1:Int)) e)<|.need (fi (bV b (Int.toNat (a-(1:Int)))) (List.length c))<|.need (fU (List.getD c (bV b (Int.toNat a)) 0) (List.length d))<|.need (fi (Int.toNat (List.getD c (bV b (Int.toNat a)) 0)) (List.length d))<|.need (fU (List.getD c (bV b (Int.toNat (a-(1:Int)))) 0) (List.length d))<|.need (fi (Int.toNat (List.getD c (bV b (Int.toNat (a-(1:Int)))) 0)) (List.length d))<|.need (wz (rz (List.getD d (Int.toNat (List.getD c (bV b (Int.toNat a)) 0)) 0) (List.getD d (Int.toNat (List.getD c (bV b (Int.toNat (a-(1:Int)))) 0)) 0)))<|.leaf (.inl (decide ((xG (rz (List.getD d (Int.toNat (List.getD c (bV b (Int.toNat a)) 0)) 0) (List.getD d (Int.toNat (List.getD c (bV b (Int.toNat (a-(1:Int)))) 0)) 0)))<(0:Int)))))
    (.leaf (.inl false))
def fF(b:Nat)(d:Nat)(a:Int)(c:List Int)(e:Bool) :T ((Int×(List Int))⊕(((List Int))⊕(((List Int))⊕(((List Int))⊕(aD))))) :=
  .ask e
    (.need (fq .i64 (a-(1:Int)))<|.need (fq .i64 (a-(1:Int)))<|.need (fU (a-(1:Int)) d)<|.need (fi (bV b (Int.toNat (a-(1:Int)))) (List.length c))<|.need (fU a d)<|.need (fi (bV b (Int.toNat a)) (List.length c))<|.need (fU a d)<|.need (fi (bV b (Int.toNat a)) (List.length c))<|.need (fU (a-(1:Int)) d)<|.need (fi (bV b (Int.toNat (a-(1:Int)))) (List.length (List.set c (bV b (Int.toNat a)) (List.getD c (bV b (Int.toNat (a-(1:Int)))) 0))))<|.need (fq .i64 (a-(1:Int)))<|.leaf (.inl ((a-(1:Int)),(List.set (List.set c (bV b (Int.toNat a)) (List.getD c (bV b (Int.toNat (a-(1:Int)))) 0)) (bV b (Int.toNat (a-(1:Int)))) (List.getD c (bV b (Int.toNat a)) 0)))))
    (.leaf (.inr (.inl c)))
def bT(a:Nat)(b:Nat)(e:Int)(f:List Nat) :Int×(List Int)→Option ((Int×(List Int))⊕(((List Int))⊕(((List Int))⊕(((List Int))⊕(aD))))):=fun (c,d) =>
  bd ((fE a b e f c d).run) fun g =>
  (fF a b c d g).run
theorem kf(s:List Int)(a:Nat)(b:Nat)(e:Nat)(c:Int)(f:Int)(g:Lv)(h:Lv)(i:Int)(j:Lv)(d:List Nat)(k:Int)(l:Int)(m:Lv)(n:List Nat)(o:Nat)(p:Int)(q:Int)(r:List Int) :Sg prog [.ns .i64 s] kb (bS a b e c f g h i j d k l m n o p (q,r)) (bT a b c d (q,r)) (bS a b e c f g h i j d k l m n o p) (bW 2 (fD a b e c f g h i j d k l m n o p) (bW 1 (df a b e c f g h i j d k l m n o p) (bW 0 de bB))):=by
  unfold bT;exact Sg.cut 1 (ao (ao (ao aM))) (cy iG (ke a b e c f g h i j d k l m n o p q r) [⟨[],[0],[0,1,2,3,8,9,34]⟩,⟨[],[0],[0,1,2,3,8,9,34]⟩]) (fun t=>cy iG (bS a b e c f g h i j d k l m n o p) [⟨[],[0],[0,1,2,3,8,9]⟩,⟨[],[0],[0,1,2,3,8]⟩])
def fG(a:List Int) :T (((List Int))⊕(((List Int))⊕(((List Int))⊕(aD)))) :=
  .leaf (.inl a)
def fH(a:Int)(b:List Int) :T ((Int×(List Int))⊕(((List Int))⊕(aD))) :=
  .need (fq .i64 (a+(1:Int)))<|.leaf (.inl ((a+(1:Int)),b))
def bU(c:Nat)(d:Nat)(e:Int)(f:Int)(g:List Nat) :Int×(List Int)→Option ((Int×(List Int))⊕(((List Int))⊕(aD))):=fun (a,b) =>
  bd ((fB f a b).run) fun _ =>
  bd (vO (bd ((fC).run) fun _ =>
  bd (cm (bT c d e g) (a,b)) fun h =>
  (fG h).run)) fun i =>
  (fH a i).run
theorem kh(r:List Int)(a:Nat)(b:Nat)(f:Nat)(c:Int)(d:Int)(g:Lv)(h:Lv)(i:Int)(j:Lv)(e:List Nat)(k:Int)(l:Int)(m:Lv)(n:List Nat)(o:Nat)(p:Int)(q:List Int) :Sg prog [.ns .i64 r] fA (bR a b f c d g h i j e k l m n o (p,q)) (bU a b c d e (p,q)) (bR a b f c d g h i j e k l m n o) (bW 0 de bB):=by
  unfold bU;exact Sg.cut 2 (ao aM) (cy iG (jY a b f c d g h i j e k l m n o p q) [⟨[],[0],[0,1,2,3,8]⟩,⟨[],[0],[]⟩]) (fun _=>Sg.cut 1 (ao aM) (UG (df a b f c d g h i j e k l m n o p) 1 (ao aM) (bY (by decide) (di _)) (Sg.cut 1 (ao (ao aM)) (cy iG (ka a b f c d g h i j e k l m n o p q) [⟨[],[0],[0,1,2,3,8,9]⟩]) (fun _=>Sg.cut 1 (ao (ao aM)) (yB ⟨[],[0],[0,1,2,3,8,9]⟩ (bS a b f c d g h i j e k l m n o p) (fD a b f c d g h i j e k l m n o p) 2 (ao (ao aM)) (bY (by decide) (bY (by decide) (di _))) (fun ⟨s,t⟩=>kf r a b f c d g h i j e k l m n o p s t)) (fun u=>cy iG (df a b f c d g h i j e k l m n o p) [⟨[],[0],[0,1,2,3,8]⟩])))) (fun v=>cy iG (bR a b f c d g h i j e k l m n o) [⟨[],[0],[0,1,2,3,8]⟩]))
def fI(a:List Int) :T (((List Int))⊕(aD)) :=
  .leaf (.inl a)
def fQ:((List Int))⊕(aD)→bc
  | .inl a=>(.r0 a)
def aR(b:List Int)(c:Nat)(d:Nat)(a:Int)(e:Int)(f:List Nat) :Option bc:=Option.map fQ (bd ((fy a).run) fun g =>
  bd (cm (bU c d a e f) (g,b)) fun h =>
  (fI h).run)
theorem kp(g:List Int)(b:Nat)(c:Nat)(i:Nat)(d:Int)(e:Int)(j:Lv)(k:Lv)(l:Int)(m:Lv)(a:List Nat)(n:Int)(o:Int)(p:Lv)(f:List Nat)(q:Nat){x:bc}(h:aR g b c d e a=some x) :aI prog iS [.ns .i64 g] [.sl 0 1 1 b c i,.int .i64 d,.int .i64 e,.fn (.func aN) [] [.iptr j (.vs [.iptr k (.vs [.int .i64 l,.imm m (.fl a) 1 1 0 (List.length a),.nsl,.int .i64 n,.int .i64 o,.imm p (.fl f) 1 1 0 (List.length f),.flt false q,.nsl,.nsl]) 1 0 0]) 1 0 0]] (dk x) :=
  LC false dk fx bB fQ h (Sg.cut 1 aM (cy iG (ko g b c i d e j k l m a n o p f q) [⟨[],[0],[0,1,2,3,8]⟩]) (fun t=>Sg.cut 1 aM (yB ⟨[],[0],[0,1,2,3,8]⟩ (bR b c i d e j k l m a n o p f q) (de) 0 aM (di _) (fun ⟨r,s⟩=>kh g b c i d e j k l m a n o p f q r s)) (fun u=>cy iG fx [⟨[],[0],[]⟩])))
    (fun x=>LB []) (fun x=>by cases x)
def bg:Option bc→Bool
  | some _=>true
  | none=>false
def bu:Option bc→List Int
  | some (.r0 x)=>x
  | _=>[]
theorem kq{x:Option bc}(h:bg x=true) :x=some (.r0 (bu x)):=by
  unfold bg at h
  split at h<;>first | rfl | (cases h;done) | (rename_i y;cases y;rfl)
def fR:bC:=yz iS [.ns .i64] (.cons (.lsl 0) (.cons (.int .i64) (.cons (.int .i64) (.cons (.fn aN .nil (.cons (.ivs (.cons (.ivs (.cons (.int .i64) (.cons .fl (.cons .nsl (.cons (.int .i64) (.cons (.int .i64) (.cons .fl (.cons (.flt false) (.cons .nsl (.cons .nsl .nil))))))))) 1 0 0) .nil) 1 0 0) .nil)) .nil)))) fun x t=>(fun q=>[⟨dk (.r0 (bu q)),[bg q]⟩]) (aR x.1 t.1.1 t.1.2.1 t.2.1 t.2.2.1 t.2.2.2.1.2.1.2.1.2.2.1.2)
theorem jM:cg prog fR:=nR fun x t=>(jG (fun h=>kp x.1 t.1.1 t.1.2.1 t.1.2.2 t.2.1 t.2.2.1 t.2.2.2.1.2.1.1 t.2.2.2.1.2.1.2.1.1 t.2.2.2.1.2.1.2.1.2.1 t.2.2.2.1.2.1.2.1.2.2.1.1 t.2.2.2.1.2.1.2.1.2.2.1.2 t.2.2.2.1.2.1.2.1.2.2.2.2.1 t.2.2.2.1.2.1.2.1.2.2.2.2.2.1 t.2.2.2.1.2.1.2.1.2.2.2.2.2.2.1.1 t.2.2.2.1.2.1.2.1.2.2.2.2.2.2.1.2 t.2.2.2.1.2.1.2.1.2.2.2.2.2.2.2.1 (kq h)) nS)
def fS:List bC:=fR::H3
theorem aK:cR prog (cX fS):=aZ jM iG
inductive aC where
inductive bj where
  | r0 (a:List Int)
def bv:aC→AE×aW:=fun x=>nomatch x
theorem aL:ye bv:=by intro x;cases x<;>(intro h;cases h)
theorem cJ(id:Nat) :rB id bv:=by intro x;cases x<;>(intro h;cases h)
def eZ:bj→rU
  | .r0 a=>⟨.tup [],[some (.ns .i64 a)]⟩
def gD(a:(List Int)) :aW:=⟨aw 63 [],[(0,.ns .i64 a)],1⟩
def gE:List Code:=cS (ri lV)
def na(c:List Int)(d:Nat)(e:Nat)(f:Nat)(g:Int)(h:Lv)(i:Lv)(j:Int)(k:Lv)(a:List Nat)(l:Int)(m:Int)(n:Lv)(b:List Nat)(o:Nat)(_:Unit) :aW:=⟨aw 63 [(0,.sl 0 1 1 d e f),(1,.int .i64 g),(2,.fn (.func aN) [] [.iptr h (.vs [.iptr i (.vs [.int .i64 j,.imm k (.fl a) 1 1 0 (List.length a),.nsl,.int .i64 l,.int .i64 m,.imm n (.fl b) 1 1 0 (List.length b),.flt false o,.nsl,.nsl]) 1 0 0]) 1 0 0]),(6,.int .i64 (20:Int)),(7,.int .i64 (0:Int)),(8,.int .i64 (20:Int))],[(0,.ns .i64 c)],1⟩
def gF:T ((Unit)⊕(aC)) :=
  .leaf (.inl ())
def cK(c:Nat)(d:Nat)(e:Nat)(f:Int)(g:Lv)(h:Lv)(i:Int)(j:Lv)(a:List Nat)(k:Int)(l:Int)(m:Lv)(b:List Nat)(n:Nat) :Nat×Nat×(List Int)→aW:=fun (o,p,q)=>⟨aw 63 [(0,.sl 0 1 1 c d e),(1,.int .i64 f),(2,.fn (.func aN) [] [.iptr g (.vs [.iptr h (.vs [.int .i64 i,.imm j (.fl a) 1 1 0 (List.length a),.nsl,.int .i64 k,.int .i64 l,.imm m (.fl b) 1 1 0 (List.length b),.flt false n,.nsl,.nsl]) 1 0 0]) 1 0 0]),(6,.int .i64 (20:Int)),(7,.int .i64 ((o:Nat):Int)),(8,.int .i64 ((p:Nat):Int))],[(0,.ns .i64 q)],1⟩
def gX(c:Nat)(d:Nat)(e:Nat)(f:Int)(g:Lv)(h:Lv)(i:Int)(j:Lv)(a:List Nat)(k:Int)(l:Int)(m:Lv)(b:List Nat)(n:Nat) :Nat×(List Int)→aW:=fun (o,p)=>⟨aw 63 [(0,.sl 0 1 1 c d e),(1,.int .i64 f),(2,.fn (.func aN) [] [.iptr g (.vs [.iptr h (.vs [.int .i64 i,.imm j (.fl a) 1 1 0 (List.length a),.nsl,.int .i64 k,.int .i64 l,.imm m (.fl b) 1 1 0 (List.length b),.flt false n,.nsl,.nsl]) 1 0 0]) 1 0 0]),(6,.int .i64 (20:Int)),(7,.int .i64 ((o:Nat):Int))],[(0,.ns .i64 p)],1⟩
def mf:List Code:=cS (dh ((((gE.drop 2).take 1)).headD .skip))
def eL(e:Nat)(f:Nat)(h:Int)(a:List Nat)(g:List Nat)(c:Nat)(b:Nat)(d:List Int) :T ((Nat×Nat×(List Int))⊕((Nat×(List Int))⊕(aC))) :=
  .ask (decide (((b:Nat):Int)≤h))
    (.need (dg 0 (List.length a) a)<|.need (dg 0 (List.length g) g)<|.need (bg (aR d e f ((c:Nat):Int) ((b:Nat):Int) (az 0 (List.length a) a)))<|.need (fq .i64 (((b+20):Nat):Int))<|.leaf (.inl (b,(b+20),(bu (aR d e f ((c:Nat):Int) ((b:Nat):Int) (az 0 (List.length a) a))))))
    (.leaf (.inr (.inl (c,d))))
def cD(a:Nat)(b:Nat)(c:Int)(d:List Nat)(e:List Nat) :Nat×Nat×(List Int)→Option ((Nat×Nat×(List Int))⊕((Nat×(List Int))⊕(aC))):=fun (f,g,h) =>
  (eL a b c d e f g h).run
theorem mg(r:List Int)(a:Nat)(b:Nat)(f:Nat)(c:Int)(g:Lv)(h:Lv)(i:Int)(j:Lv)(d:List Nat)(k:Int)(l:Int)(m:Lv)(e:List Nat)(n:Nat)(o:Nat)(p:Nat)(q:List Int) :Sg prog [.ns .i64 r] mf (cK a b f c g h i j d k l m e n (o,p,q)) (cD a b c d e (o,p,q)) (cK a b f c g h i j d k l m e n) (bW 0 (gX a b f c g h i j d k l m e n) bv):=by
  unfold cD;exact cy aK (cK a b f c g h i j d k l m e n) [⟨[],[0],[0,1,2,6,7,8]⟩,⟨[],[0],[0,1,2,6,7]⟩]
def nc(c:Nat)(d:Nat)(e:Nat)(f:Int)(g:Lv)(h:Lv)(i:Int)(j:Lv)(a:List Nat)(k:Int)(l:Int)(m:Lv)(b:List Nat)(n:Nat)(o:(List Int)) :aW:=⟨aw 63 [(0,.sl 0 1 1 c d e),(1,.int .i64 f),(2,.fn (.func aN) [] [.iptr g (.vs [.iptr h (.vs [.int .i64 i,.imm j (.fl a) 1 1 0 (List.length a),.nsl,.int .i64 k,.int .i64 l,.imm m (.fl b) 1 1 0 (List.length b),.flt false n,.nsl,.nsl]) 1 0 0]) 1 0 0]),(6,.int .i64 (20:Int))],[(0,.ns .i64 o)],1⟩
def eM(b:Nat)(c:Nat)(d:Int)(a:List Nat)(e:List Nat)(f:Nat)(g:List Int) :T (((List Int))⊕(aC)) :=
  .need (dg 0 (List.length a) a)<|.need (dg 0 (List.length e) e)<|.need (bg (aR g b c ((f:Nat):Int) d (az 0 (List.length a) a)))<|.leaf (.inl (bu (aR g b c ((f:Nat):Int) d (az 0 (List.length a) a))))
def cE(c:Nat)(d:Nat)(e:Nat)(f:Int)(g:Lv)(h:Lv)(i:Int)(j:Lv)(a:List Nat)(k:Int)(l:Int)(m:Lv)(b:List Nat)(n:Nat)(o:List Int)(p:Nat) :aW:=⟨aw 63 [(0,.sl 0 1 1 c d e),(1,.int .i64 f),(2,.fn (.func aN) [] [.iptr g (.vs [.iptr h (.vs [.int .i64 i,.imm j (.fl a) 1 1 0 (List.length a),.nsl,.int .i64 k,.int .i64 l,.imm m (.fl b) 1 1 0 (List.length b),.flt false n,.nsl,.nsl]) 1 0 0]) 1 0 0]),(6,.int .i64 ((p:Nat):Int))],[(0,.ns .i64 o)],1⟩
def eN(a:List Int)(_:Unit) :aW:=⟨aw 63 [],[(0,.ns .i64 a)],1⟩
def gG:List Code:=cS (dh ((((((gE.drop 2).drop 1).drop 1).take 1)).headD .skip))
def mh(c:Nat)(d:Nat)(e:Nat)(f:Int)(g:Lv)(h:Lv)(i:Int)(j:Lv)(a:List Nat)(k:Int)(l:Int)(m:Lv)(b:List Nat)(n:Nat)(o:List Int)(p:Nat)(_:Unit) :aW:=⟨aw 63 [(0,.sl 0 1 1 c d e),(1,.int .i64 f),(2,.fn (.func aN) [] [.iptr g (.vs [.iptr h (.vs [.int .i64 i,.imm j (.fl a) 1 1 0 (List.length a),.nsl,.int .i64 k,.int .i64 l,.imm m (.fl b) 1 1 0 (List.length b),.flt false n,.nsl,.nsl]) 1 0 0]) 1 0 0]),(6,.int .i64 ((p:Nat):Int))],[(0,.ns .i64 o)],1⟩
def gH(a:Int)(b:Nat) :T ((Unit)⊕((Unit)⊕(aC))) :=
  .ask (decide (((b:Nat):Int)<a))
    (.leaf (.inl ()))
    (.leaf (.inr (.inl ())))
def eO(c:Nat)(d:Nat)(e:Nat)(f:Int)(g:Lv)(h:Lv)(i:Int)(j:Lv)(a:List Nat)(k:Int)(l:Int)(m:Lv)(b:List Nat)(n:Nat)(o:List Int)(p:Nat) :aW:=⟨aw 63 [(0,.sl 0 1 1 c d e),(1,.int .i64 f),(2,.fn (.func aN) [] [.iptr g (.vs [.iptr h (.vs [.int .i64 i,.imm j (.fl a) 1 1 0 (List.length a),.nsl,.int .i64 k,.int .i64 l,.imm m (.fl b) 1 1 0 (List.length b),.flt false n,.nsl,.nsl]) 1 0 0]) 1 0 0]),(6,.int .i64 ((p:Nat):Int))],[(0,.ns .i64 o)],1⟩
def mi:List Code:=cS (inBlock ((((gG.drop 2).take 1)).headD .skip))
def mj(c:Nat)(d:Nat)(e:Nat)(f:Int)(g:Lv)(h:Lv)(i:Int)(j:Lv)(a:List Nat)(k:Int)(l:Int)(m:Lv)(b:List Nat)(n:Nat)(o:List Int)(p:Nat)(q:Nat) :aW:=⟨aw 63 [(0,.sl 0 1 1 c d e),(1,.int .i64 f),(2,.fn (.func aN) [] [.iptr g (.vs [.iptr h (.vs [.int .i64 i,.imm j (.fl a) 1 1 0 (List.length a),.nsl,.int .i64 k,.int .i64 l,.imm m (.fl b) 1 1 0 (List.length b),.flt false n,.nsl,.nsl]) 1 0 0]) 1 0 0]),(6,.int .i64 ((p:Nat):Int)),(7,.int .i64 (0:Int)),(8,.int .i64 ((q:Nat):Int))],[(0,.ns .i64 o)],1⟩
def ml(a:Nat) :T ((Nat)⊕((Nat)⊕((Unit)⊕(aC)))) :=
  .need (fq .i64 (((2*a):Nat):Int))<|.leaf (.inl (2*a))
def cF(c:Nat)(d:Nat)(e:Nat)(f:Int)(g:Lv)(h:Lv)(i:Int)(j:Lv)(a:List Nat)(k:Int)(l:Int)(m:Lv)(b:List Nat)(n:Nat)(o:List Int)(p:Nat)(q:Nat)(_:Unit) :aW:=⟨aw 63 [(0,.sl 0 1 1 c d e),(1,.int .i64 f),(2,.fn (.func aN) [] [.iptr g (.vs [.iptr h (.vs [.int .i64 i,.imm j (.fl a) 1 1 0 (List.length a),.nsl,.int .i64 k,.int .i64 l,.imm m (.fl b) 1 1 0 (List.length b),.flt false n,.nsl,.nsl]) 1 0 0]) 1 0 0]),(6,.int .i64 ((p:Nat):Int)),(7,.int .i64 (0:Int)),(8,.int .i64 ((q:Nat):Int))],[(0,.ns .i64 o)],1⟩
def gI(c:Nat)(d:Nat)(e:Nat)(f:Int)(g:Lv)(h:Lv)(i:Int)(j:Lv)(a:List Nat)(k:Int)(l:Int)(m:Lv)(b:List Nat)(n:Nat)(o:List Int)(p:Nat)(_:Unit) :aW:=⟨aw 63 [(0,.sl 0 1 1 c d e),(1,.int .i64 f),(2,.fn (.func aN) [] [.iptr g (.vs [.iptr h (.vs [.int .i64 i,.imm j (.fl a) 1 1 0 (List.length a),.nsl,.int .i64 k,.int .i64 l,.imm m (.fl b) 1 1 0 (List.length b),.flt false n,.nsl,.nsl]) 1 0 0]) 1 0 0]),(6,.int .i64 ((p:Nat):Int)),(7,.int .i64 (0:Int))],[(0,.ns .i64 o)],1⟩
def mo:List Code:=cS (dh ((((mi.drop 1).take 1)).headD .skip))
def mp(a:Int)(b:Nat)(c:Nat) :T ((Unit)⊕((Unit)⊕((Nat)⊕((Unit)⊕(aC))))) :=
  .ask (decide (((c:Nat):Int)≤a))
    (.need (fq .i64 (((0+b):Nat):Int))<|.fail)
    (.leaf (.inr (.inl ())))
def eP(a:Int)(b:Nat)(c:Nat) :Unit→Option ((Unit)⊕((Unit)⊕((Nat)⊕((Unit)⊕(aC))))):=fun _ =>
  (mp a b c).run
theorem mq(r:List Int)(c:Nat)(d:Nat)(e:Nat)(a:Int)(f:Lv)(g:Lv)(h:Int)(i:Lv)(j:List Nat)(k:Int)(l:Int)(m:Lv)(n:List Nat)(o:Nat)(b:List Int)(p:Nat)(q:Nat) :Sg prog [.ns .i64 r] mo (cF c d e a f g h i j k l m n o b p q ()) (eP a p q ()) (cF c d e a f g h i j k l m n o b p q) (bW 4 (gI c d e a f g h i j k l m n o b p) (bW 3 (eO c d e a f g h i j k l m n o b) (bW 2 (eN b) bv))):=by
  unfold eP;exact cy aK (cF c d e a f g h i j k l m n o b p q) [⟨[],[0],[0,1,2,6,7]⟩]
def mr(b:Int)(a:Nat) :T ((Nat)⊕((Nat)⊕((Unit)⊕(aC)))) :=
  .need (fq .i64 (((0+a):Nat):Int))<|.ask (decide ((((0+a):Nat):Int)<b))
    (.fail)
    (.need (fq .i64 (((a*2):Nat):Int))<|.leaf (.inl (a*2)))
def mt(a:Nat) :T ((Nat)⊕((Unit)⊕(aC))) :=
  .leaf (.inl a)
def bt(b:Int) :Nat→Option ((Nat)⊕((Unit)⊕(aC))):=fun a =>
  bd ((gH b a).run) fun _ =>
  bd (vO (bd ((ml a).run) fun c =>
  bd (cm (eP b a c) ()) fun _ =>
  (mr b a).run)) fun d =>
  (mt d).run
theorem mu(q:List Int)(c:Nat)(d:Nat)(e:Nat)(a:Int)(f:Lv)(g:Lv)(h:Int)(i:Lv)(j:List Nat)(k:Int)(l:Int)(m:Lv)(n:List Nat)(o:Nat)(b:List Int)(p:Nat) :Sg prog [.ns .i64 q] gG (cE c d e a f g h i j k l m n o b p) (bt a p) (cE c d e a f g h i j k l m n o b) (bW 2 (eN b) bv):=by
  unfold bt;exact Sg.cut 2 (ao aL) (cy aK (mh c d e a f g h i j k l m n o b p) [⟨[],[0],[0,1,2,6]⟩,⟨[],[0],[]⟩]) (fun _=>Sg.cut 1 (ao aL) (UG (eO c d e a f g h i j k l m n o b) 3 (ao aL) (bY (by decide) (cJ _)) (Sg.cut 1 (ao (ao aL)) (cy aK (mj c d e a f g h i j k l m n o b p) [⟨[],[0],[0,1,2,6,7,8]⟩]) (fun r=>Sg.cut 1 (ao (ao aL)) (yB ⟨[],[0],[0,1,2,6,7,8]⟩ (cF c d e a f g h i j k l m n o b p r) (gI c d e a f g h i j k l m n o b p) 4 (ao (ao aL)) (bY (by decide) (bY (by decide) (cJ _))) (fun _=>mq q c d e a f g h i j k l m n o b p r)) (fun _=>cy aK (eO c d e a f g h i j k l m n o b) [⟨[],[0],[0,1,2,6]⟩])))) (fun s=>cy aK (cE c d e a f g h i j k l m n o b) [⟨[],[0],[0,1,2,6]⟩]))
def gJ(a:List Int) :T (((List Int))⊕(aC)) :=
  .leaf (.inl a)
def iq:((List Int))⊕(aC)→bj
  | .inl a=>(.r0 a)
def bx(f:List Int)(b:Nat)(c:Nat)(a:Int)(d:List Nat)(e:List Nat) :Option bj:=Option.map iq (bd ((gF).run) fun _ =>
  bd (cm (cD b c a d e) (0,20,f)) fun (g,h) =>
  bd ((eM b c a d e g h).run) fun i =>
  bd (cm (bt a) 20) fun _ =>
  (gJ i).run)
theorem ng(p:List Int)(c:Nat)(d:Nat)(f:Nat)(e:Int)(g:Lv)(i:Lv)(j:Int)(k:Lv)(a:List Nat)(l:Int)(m:Int)(n:Lv)(b:List Nat)(o:Nat){x:bj}(h:bx p c d e a b=some x) :aI prog lV [.ns .i64 p] [.sl 0 1 1 c d f,.int .i64 e,.fn (.func aN) [] [.iptr g (.vs [.iptr i (.vs [.int .i64 j,.imm k (.fl a) 1 1 0 (List.length a),.nsl,.int .i64 l,.int .i64 m,.imm n (.fl b) 1 1 0 (List.length b),.flt false o,.nsl,.nsl]) 1 0 0]) 1 0 0]] (eZ x) :=
  LC false eZ gD bv iq h (Sg.cut 2 aL (cy aK (na p c d f e g i j k a l m n b o) [⟨[],[0],[0,1,2,6,7,8]⟩]) (fun _=>Sg.cut 1 aL (yB ⟨[],[0],[0,1,2,6,7,8]⟩ (cK c d f e g i j k a l m n b o) (gX c d f e g i j k a l m n b o) 0 aL (cJ _) (fun ⟨r,s,t⟩=>mg p c d f e g i j k a l m n b o r s t)) (fun ⟨v,w⟩=>Sg.cut 1 aL (cy aK (nc c d f e g i j k a l m n b o) [⟨[],[0],[0,1,2,6]⟩]) (fun q=>Sg.cut 1 aL (yB ⟨[],[0],[0,1,2,6]⟩ (cE c d f e g i j k a l m n b o q) (eN q) 2 aL (cJ _) (fun u=>mu p c d f e g i j k a l m n b o q u)) (fun _=>cy aK gD [⟨[],[0],[]⟩])))))
    (fun x=>LB []) (fun x=>by cases x)
def cL:Option bj→Bool
  | some _=>true
  | none=>false
def ef:Option bj→List Int
  | some (.r0 x)=>x
  | _=>[]
theorem nh{x:Option bj}(h:cL x=true) :x=some (.r0 (ef x)):=by
  unfold cL at h
  split at h<;>first | rfl | (cases h;done) | (rename_i y;cases y;rfl)
def ir:bC:=yz lV [.ns .i64] (.cons (.lsl 0) (.cons (.int .i64) (.cons (.fn aN .nil (.cons (.ivs (.cons (.ivs (.cons (.int .i64) (.cons .fl (.cons .nsl (.cons (.int .i64) (.cons (.int .i64) (.cons .fl (.cons (.flt false) (.cons .nsl (.cons .nsl .nil))))))))) 1 0 0) .nil) 1 0 0) .nil)) .nil))) fun x t=>(fun q=>[⟨eZ (.r0 (ef q)),[cL q]⟩]) (bx x.1 t.1.1 t.1.2.1 t.2.1 t.2.2.1.2.1.2.1.2.2.1.2 t.2.2.1.2.1.2.1.2.2.2.2.2.2.1.2)
theorem lM:cg prog ir:=nR fun x t=>(jG (fun h=>ng x.1 t.1.1 t.1.2.1 t.1.2.2 t.2.1 t.2.2.1.2.1.1 t.2.2.1.2.1.2.1.1 t.2.2.1.2.1.2.1.2.1 t.2.2.1.2.1.2.1.2.2.1.1 t.2.2.1.2.1.2.1.2.2.1.2 t.2.2.1.2.1.2.1.2.2.2.2.1 t.2.2.1.2.1.2.1.2.2.2.2.2.1 t.2.2.1.2.1.2.1.2.2.2.2.2.2.1.1 t.2.2.1.2.1.2.1.2.2.2.2.2.2.1.2 t.2.2.1.2.1.2.1.2.2.2.2.2.2.2.1 (nh h)) nS)
def iu:List bC:=ir::fS
theorem gA:cR prog (cX iu):=aZ lM aK
inductive eT where
inductive bh where
  | r0 (a:List Int)
def ni:eT→AE×aW:=fun x=>nomatch x
def eU:bh→rU
  | .r0 a=>⟨.tup [],[some (.ns .i64 a)]⟩
def gK(a:(List Int)) :aW:=⟨aw 9 [],[(0,.ns .i64 a)],1⟩
def gL(d:List Int)(e:Nat)(c:Nat)(a:List Nat)(b:List Nat) :T (((List Int))⊕(eT)) :=
  .need (dg 0 (List.length a) a)<|.need (dg 0 (List.length b) b)<|.need (cL (bx d e c ((c:Nat):Int) (az 0 (List.length a) a) (az 0 (List.length b) b)))<|.leaf (.inl (ef (bx d e c ((c:Nat):Int) (az 0 (List.length a) a) (az 0 (List.length b) b))))
def gY:((List Int))⊕(eT)→bh
  | .inl a=>(.r0 a)
def bM(a:List Int)(b:Nat)(c:Nat)(d:List Nat)(e:List Nat) :Option bh:=Option.map gY ((gL a b c d e).run)
theorem mv(c:List Int)(d:Nat)(e:Nat)(f:Nat)(g:Lv)(i:Lv)(j:Int)(k:Lv)(a:List Nat)(l:Int)(m:Int)(n:Lv)(b:List Nat)(o:Nat){x:bh}(h:bM c d e a b=some x) :aI prog qA [.ns .i64 c] [.sl 0 1 1 d e f,.fn (.func aN) [] [.iptr g (.vs [.iptr i (.vs [.int .i64 j,.imm k (.fl a) 1 1 0 (List.length a),.nsl,.int .i64 l,.int .i64 m,.imm n (.fl b) 1 1 0 (List.length b),.flt false o,.nsl,.nsl]) 1 0 0]) 1 0 0]] (eU x) :=
  LC false eU gK ni gY h (cy gA gK [⟨[],[0],[]⟩])
    (fun x=>LB []) (fun x=>by cases x)
def cG:Option bh→Bool
  | some _=>true
  | none=>false
def du:Option bh→List Int
  | some (.r0 x)=>x
  | _=>[]
theorem mw{x:Option bh}(h:cG x=true) :x=some (.r0 (du x)):=by
  unfold cG at h
  split at h<;>first | rfl | (cases h;done) | (rename_i y;cases y;rfl)
def gZ:bC:=yz qA [.ns .i64] (.cons (.lsl 0) (.cons (.fn aN .nil (.cons (.ivs (.cons (.ivs (.cons (.int .i64) (.cons .fl (.cons .nsl (.cons (.int .i64) (.cons (.int .i64) (.cons .fl (.cons (.flt false) (.cons .nsl (.cons .nsl .nil))))))))) 1 0 0) .nil) 1 0 0) .nil)) .nil)) fun x t=>(fun q=>[⟨eU (.r0 (du q)),[cG q]⟩]) (bM x.1 t.1.1 t.1.2.1 t.2.1.2.1.2.1.2.2.1.2 t.2.1.2.1.2.1.2.2.2.2.2.2.1.2)
theorem lH:cg prog gZ:=nR fun x t=>(jG (fun h=>mv x.1 t.1.1 t.1.2.1 t.1.2.2 t.2.1.2.1.1 t.2.1.2.1.2.1.1 t.2.1.2.1.2.1.2.1 t.2.1.2.1.2.1.2.2.1.1 t.2.1.2.1.2.1.2.2.1.2 t.2.1.2.1.2.1.2.2.2.2.1 t.2.1.2.1.2.1.2.2.2.2.2.1 t.2.1.2.1.2.1.2.2.2.2.2.2.1.1 t.2.1.2.1.2.1.2.2.2.2.2.2.1.2 t.2.1.2.1.2.1.2.2.2.2.2.2.2.1 (mw h)) nS)
def hJ:List bC:=gZ::iu
theorem bD:cR prog (cX hJ):=aZ lH gA
inductive je where
  | r0 (a:Nat)
def zF:je→AE×aW
  | .r0 a=>(.ret,⟨aw 48 [(2,.flt false a)],[],0⟩)
theorem ym:ye zF:=by intro x;cases x<;>(intro h;cases h)
theorem O4(id:Nat) :rB id zF:=by intro x;cases x<;>(intro h;cases h)
def Ee:je→rU
  | .r0 a=>⟨.flt false a,[]⟩
def O5:List Code:=cS (ri D4)
def O6(b:Lv)(a:List Nat)(_:Unit) :aW:=⟨aw 48 [(3,.flt false 0),(4,.flt false 4607182418800017408),(11,.imm b (.fl a) 1 1 0 (List.length a)),(12,.int .i64 (((List.length a):Nat):Int)),(13,.int .i64 (0:Int))],[],0⟩
def H4:T ((Unit)⊕(je)) :=
  .leaf (.inl ())
def yn(b:Lv)(a:List Nat) :Nat×Nat×Nat→aW:=fun (c,d,e)=>⟨aw 48 [(3,.flt false c),(4,.flt false d),(11,.imm b (.fl a) 1 1 0 (List.length a)),(12,.int .i64 (((List.length a):Nat):Int)),(13,.int .i64 ((e:Nat):Int))],[],0⟩
def H5:Nat×Nat→aW:=fun (a,b)=>⟨aw 48 [(3,.flt false a),(4,.flt false b)],[],0⟩
def NJ:List Code:=cS (dh ((((O5.drop 3).take 1)).headD .skip))
def O7(b:Lv)(a:List Nat)(c:Nat) :Nat×Nat→aW:=fun (d,e)=>⟨aw 48 [(3,.flt false d),(4,.flt false e),(11,.imm b (.fl a) 1 1 0 (List.length a)),(12,.int .i64 (((List.length a):Nat):Int)),(13,.int .i64 ((c:Nat):Int))],[],0⟩
def FY(a:List Nat)(c:Nat)(d:Nat)(b:Nat) :T ((Nat×Nat)⊕((Nat×Nat)⊕(je))) :=
  .ask (decide (((b:Nat):Int)<(((List.length a):Nat):Int)))
    (.need (fU ((b:Nat):Int) (List.length a))<|.need (fi b (List.length a))<|.ask (UE (List.getD a b 0) 0)
      (.leaf (.inl (c,d)))
      (.ask (flt c (eY (List.getD a b 0)))
        (.leaf (.inl ((eY (List.getD a b 0)),(v3 4607182418800017408 (cY (cY d (fdiv c (eY (List.getD a b 0)))) (fdiv c (eY (List.getD a b 0))))))))
        (.leaf (.inl (c,(v3 d (cY (fdiv (eY (List.getD a b 0)) c) (fdiv (eY (List.getD a b 0)) c))))))))
    (.leaf (.inr (.inl (c,d))))
def FZ(a:Nat)(b:Nat)(c:Nat) :T ((Nat×Nat×Nat)⊕((Nat×Nat)⊕(je))) :=
  .need (fq .i64 (((a+1):Nat):Int))<|.leaf (.inl (b,c,(a+1)))
def wA(b:List Nat) :Nat×Nat×Nat→Option ((Nat×Nat×Nat)⊕((Nat×Nat)⊕(je))):=fun (c,d,a) =>
  bd ((FY b c d a).run) fun (e,f) =>
  (FZ a e f).run
theorem NK(b:Lv)(a:List Nat)(d:Nat)(e:Nat)(c:Nat) :Sg prog [] NJ (yn b a (d,e,c)) (wA a (d,e,c)) (yn b a) (bW 0 H5 zF):=by
  unfold wA;exact Sg.cut 3 (ao ym) (cy bD (O7 b a c) [⟨[],[],[3,4,11,12,13]⟩,⟨[],[],[3,4,11,12,13]⟩,⟨[],[],[3,4,11,12,13]⟩,⟨[],[],[3,4]⟩]) (fun ⟨f,g⟩=>cy bD (yn b a) [⟨[],[],[3,4,11,12,13]⟩])
def F0(a:Nat)(b:Nat) :T ((Empty)⊕(je)) :=
  .leaf (.inr (.r0 (cY a (Eh b))))
def pX(a:List Nat) :Option je:=toX (bd ((H4).run) fun _ =>
  bd (cm (wA a) (0,4607182418800017408,0)) fun (b,c) =>
  (F0 b c).run)
theorem O8(b:Lv)(a:List Nat){x:je}(h:pX a=some x) :aI prog D4 [] [.imm b (.fl a) 1 1 0 (List.length a)] (Ee x) :=
  IB false Ee zF h (Sg.cut 3 ym (cy bD (O6 b a) [⟨[],[],[3,4,11,12,13]⟩]) (fun _=>Sg.cut 1 ym (yB ⟨[],[],[3,4,11,12,13]⟩ (yn b a) (H5) 0 ym (O4 _) (fun ⟨c,d,e⟩=>NK b a c d e)) (fun ⟨g,i⟩=>cy bD G3 [⟨[],[],[2]⟩])))
    (fun x=>by cases x with | r0 f=>exact Fi [.flt false f])
def uH:Option je→Bool
  | some _=>true
  | none=>false
def vo:Option je→Nat
  | some (.r0 x)=>x
  | _=>0
theorem O9{x:Option je}(h:uH x=true) :x=some (.r0 (vo x)):=by
  unfold uH at h
  split at h<;>first | rfl | (cases h;done) | (rename_i y;cases y;rfl)
def JB:bC:=mW D4 (.cons .fl .nil) fun t=>(fun q=>[⟨Ee (.r0 (vo q)),[uH q]⟩]) (pX t.1.2)
theorem LL:cg prog JB:=ff fun t=>(fg (fun h=>O8 t.1.1 t.1.2 (O9 h)) gr)
def JC:List bC:=JB::hJ
theorem cZ:cR prog (cX JC):=aZ LL bD
inductive aS where
inductive bp where
  | r0 (a:Int) (b:Nat) (c:Nat) (d:Nat) (e:List Nat) (f:List Nat) (g:List Nat) (h:List Nat) (i:List Nat)
def eR:aS→AE×aW:=fun x=>nomatch x
theorem aV:ye eR:=by intro x;cases x<;>(intro h;cases h)
theorem fX(id:Nat) :rB id eR:=by intro x;cases x<;>(intro h;cases h)
def qe:bp→rU
  | .r0 b a c d e f g h i=>⟨.tup [],[some (.vs [.int .i64 b,.sl 3 1 1 0 a a,.sl 4 1 1 0 a a,.int .i64 b,.int .i64 b,.sl 5 1 1 0 c c,.flt false d,.nsl,.nsl]),some (.fl e),some (.fl f),some (.fl g),some (.fl h),some (.fl i)]⟩
def sf:Int×Nat×Nat×Nat×(List Nat)×(List Nat)×(List Nat)×(List Nat)×(List Nat)→aW:=fun (b,a,c,d,e,f,g,h,i)=>⟨aw 186 [],[(0,.vs [.int .i64 b,.sl 3 1 1 0 a a,.sl 4 1 1 0 a a,.int .i64 b,.int .i64 b,.sl 5 1 1 0 c c,.flt false d,.nsl,.nsl]),(1,.fl e),(2,.fl f),(3,.fl g),(4,.fl h),(5,.fl i)],6⟩
def jt:List Code:=cS (ri kA)
def AO(a:Int)(c:Nat)(d:Nat)(e:Int)(f:Int)(g:Nat)(h:Nat)(i:Nat)(j:List Nat)(k:List Nat)(l:Int)(m:Nat) :Nat×Nat×(List Nat)→aW:=fun (b,n,o)=>⟨aw 186 [(1,.int .i64 l),(2,.flt false m),(3,.ptr 3 1 0 0),(6,.int .i64 a),(7,.sl 4 1 1 0 b b),(8,.flt false n),(27,.int .i64 a),(28,.int .i64 (0:Int))],[(0,.vs [.int .i64 a,.sl 1 1 1 0 c d,.nsl,.int .i64 e,.int .i64 f,.sl 2 1 1 0 g h,.flt false i,.nsl,.nsl]),(1,.fl j),(2,.fl k),(3,.vs [.ptr 0 1 0 0]),(4,.fl o)],5⟩
def sh(a:Int)(b:Nat) :T ((Nat×Nat×(List Nat))⊕(aS)) :=
  .need (decide ((0:Int)≤a))<|.need (decide (a≤a))<|.need (decide ((8:Int)*a≤140737488355328))<|.need (fq .i64 a)<|.need (!isNaN b||isNaN 4607182418800017408)<|.leaf (.inl ((Int.toNat a),(xc 4607182418800017408 b),(List.replicate (Int.toNat a) 0)))
def jQ(a:Int)(c:Nat)(d:Nat)(e:Int)(f:Int)(g:Nat)(h:Nat)(i:Nat)(j:List Nat)(k:List Nat)(l:Int)(m:Nat)(b:Nat)(n:Nat) :Nat×(List Nat)→aW:=fun (o,p)=>⟨aw 186 [(1,.int .i64 l),(2,.flt false m),(3,.ptr 3 1 0 0),(6,.int .i64 a),(7,.sl 4 1 1 0 b b),(8,.flt false n),(27,.int .i64 a),(28,.int .i64 ((o:Nat):Int))],[(0,.vs [.int .i64 a,.sl 1 1 1 0 c d,.nsl,.int .i64 e,.int .i64 f,.sl 2 1 1 0 g h,.flt false i,.nsl,.nsl]),(1,.fl j),(2,.fl k),(3,.vs [.ptr 0 1 0 0]),(4,.fl p)],5⟩
def tB(a:Int)(c:Nat)(d:Nat)(e:Int)(f:Int)(g:Nat)(h:Nat)(i:Nat)(j:List Nat)(k:List Nat)(l:Nat)(b:Nat)(m:(List Nat)) :aW:=⟨aw 186 [(2,.flt false l),(3,.ptr 3 1 0 0),(6,.int .i64 a),(7,.sl 4 1 1 0 b b)],[(0,.vs [.int .i64 a,.sl 1 1 1 0 c d,.nsl,.int .i64 e,.int .i64 f,.sl 2 1 1 0 g h,.flt false i,.nsl,.nsl]),(1,.fl j),(2,.fl k),(3,.vs [.ptr 0 1 0 0]),(4,.fl m)],5⟩
def Ag:List Code:=cS (dh ((((jt.drop 5).take 1)).headD .skip))
def AP(a:Int)(c:Nat)(d:Nat)(e:Int)(f:Int)(g:Nat)(h:Nat)(i:Nat)(j:List Nat)(k:List Nat)(l:Int)(m:Nat)(b:Nat)(n:Nat)(o:Nat)(p:(List Nat)) :aW:=⟨aw 186 [(1,.int .i64 l),(2,.flt false m),(3,.ptr 3 1 0 0),(6,.int .i64 a),(7,.sl 4 1 1 0 b b),(8,.flt false n),(27,.int .i64 a),(28,.int .i64 ((o:Nat):Int))],[(0,.vs [.int .i64 a,.sl 1 1 1 0 c d,.nsl,.int .i64 e,.int .i64 f,.sl 2 1 1 0 g h,.flt false i,.nsl,.nsl]),(1,.fl j),(2,.fl k),(3,.vs [.ptr 0 1 0 0]),(4,.fl p)],5⟩
def si(c:Int)(f:Nat)(e:List Nat)(b:Int)(g:Nat)(h:Nat)(a:Nat)(d:List Nat) :T (((List Nat))⊕(((List Nat))⊕(aS))) :=
  .ask (decide (((a:Nat):Int)<c))
    (.ask (decide (((a:Nat):Int)<b))
      (.need (fq .i64 (b-(1:Int)))<|.need (fq .i64 ((b-(1:Int))*c))<|.need (fq .i64 (((b-(1:Int))*c)+((a:Nat):Int)))<|.need (fU (((b-(1:Int))*c)+((a:Nat):Int)) f)<|.need (fi (Int.toNat (((b-(1:Int))*c)+((a:Nat):Int))) (List.length e))<|.need (fU ((a:Nat):Int) g)<|.need (fi a (List.length d))<|.leaf (.inl (List.set d a (List.getD e (Int.toNat (((b-(1:Int))*c)+((a:Nat):Int))) 0))))
      (.need (fq .i64 (b*c))<|.need (fq .i64 ((b*c)+((a:Nat):Int)))<|.need (fU ((b*c)+((a:Nat):Int)) f)<|.need (fi (Int.toNat ((b*c)+((a:Nat):Int))) (List.length e))<|.need (fU ((a:Nat):Int) g)<|.need (fi a (List.length d))<|.leaf (.inl (List.set d a (cY (List.getD e (Int.toNat ((b*c)+((a:Nat):Int))) 0) h)))))
    (.leaf (.inr (.inl d)))
def sj(a:Nat)(b:List Nat) :T ((Nat×(List Nat))⊕(((List Nat))⊕(aS))) :=
  .need (fq .i64 (((a+1):Nat):Int))<|.leaf (.inl ((a+1),b))
def ju(b:Int)(c:Nat)(d:List Nat)(e:Int)(f:Nat)(g:Nat) :Nat×(List Nat)→Option ((Nat×(List Nat))⊕(((List Nat))⊕(aS))):=fun (a,h) =>
  bd ((si b c d e f g a h).run) fun i =>
  (sj a i).run
theorem Ah(a:Int)(d:Nat)(e:Nat)(f:Int)(g:Int)(b:Nat)(h:Nat)(i:Nat)(j:List Nat)(c:List Nat)(l:Int)(m:Nat)(k:Nat)(n:Nat)(o:Nat)(p:List Nat) :Sg prog [.vs [.int .i64 a,.sl 1 1 1 0 d e,.nsl,.int .i64 f,.int .i64 g,.sl 2 1 1 0 b h,.flt false i,.nsl,.nsl],.fl j,.fl c] Ag (jQ a d e f g b h i j c l m k n (o,p)) (ju a b c l k n (o,p)) (jQ a d e f g b h i j c l m k n) (bW 0 (tB a d e f g b h i j c m k) eR):=by
  unfold ju;exact Sg.cut 3 (ao aV) (cy cZ (AP a d e f g b h i j c l m k n o) [⟨[],[0,1,2,3,4],[1,2,3,6,7,8,27,28]⟩,⟨[],[0,1,2,3,4],[1,2,3,6,7,8,27,28]⟩,⟨[],[0,1,2,3,4],[2,3,6,7]⟩]) (fun q=>cy cZ (jQ a d e f g b h i j c l m k n) [⟨[],[0,1,2,3,4],[1,2,3,6,7,8,27,28]⟩])
def AQ(a:Int)(d:Nat)(e:Nat)(f:Int)(g:Int)(h:Nat)(i:Nat)(j:Nat)(k:List Nat)(l:List Nat)(m:Nat)(b:Nat)(n:List Nat) :Nat×Nat×(List Int)→aW:=fun (c,o,p)=>⟨aw 186 [(2,.flt false m),(3,.ptr 3 1 0 0),(6,.int .i64 a),(7,.sl 4 1 1 0 b b),(10,.sl 5 1 1 0 c c),(71,.int .i64 ((o:Nat):Int)),(72,.int .i64 (0:Int))],[(0,.vs [.int .i64 a,.sl 1 1 1 0 d e,.nsl,.int .i64 f,.int .i64 g,.sl 2 1 1 0 h i,.flt false j,.nsl,.nsl]),(1,.fl k),(2,.fl l),(3,.vs [.ptr 0 1 0 0]),(4,.fl n),(5,.ns .i64 p)],6⟩
def sk(a:Int) :T ((Nat×Nat×(List Int))⊕(aS)) :=
  .need (decide ((0:Int)≤a))<|.need (decide (a≤a))<|.need (decide ((8:Int)*a≤140737488355328))<|.need (fq .i64 a)<|.leaf (.inl ((Int.toNat a),(Int.toNat a),(List.replicate (Int.toNat a) (0:Int))))
def jv(a:Int)(d:Nat)(e:Nat)(f:Int)(g:Int)(h:Nat)(i:Nat)(j:Nat)(k:List Nat)(l:List Nat)(m:Nat)(b:Nat)(n:List Nat)(c:Nat)(o:Nat) :Nat×(List Int)→aW:=fun (p,q)=>⟨aw 186 [(2,.flt false m),(3,.ptr 3 1 0 0),(6,.int .i64 a),(7,.sl 4 1 1 0 b b),(10,.sl 5 1 1 0 c c),(71,.int .i64 ((o:Nat):Int)),(72,.int .i64 ((p:Nat):Int))],[(0,.vs [.int .i64 a,.sl 1 1 1 0 d e,.nsl,.int .i64 f,.int .i64 g,.sl 2 1 1 0 h i,.flt false j,.nsl,.nsl]),(1,.fl k),(2,.fl l),(3,.vs [.ptr 0 1 0 0]),(4,.fl n),(5,.ns .i64 q)],6⟩
def sm(a:Int)(d:Nat)(e:Nat)(f:Int)(g:Int)(h:Nat)(i:Nat)(j:Nat)(k:List Nat)(l:List Nat)(m:Nat)(b:Nat)(n:List Nat)(c:Nat)(o:(List Int)) :aW:=⟨aw 186 [(2,.flt false m),(3,.ptr 3 1 0 0),(6,.int .i64 a),(7,.sl 4 1 1 0 b b),(10,.sl 5 1 1 0 c c)],[(0,.vs [.int .i64 a,.sl 1 1 1 0 d e,.nsl,.int .i64 f,.int .i64 g,.sl 2 1 1 0 h i,.flt false j,.nsl,.nsl]),(1,.fl k),(2,.fl l),(3,.vs [.ptr 0 1 0 0]),(4,.fl n),(5,.ns .i64 o)],6⟩
def Ai:List Code:=cS (dh ((((((jt.drop 5).drop 1).drop 2).take 1)).headD .skip))
def sn(c:Nat)(d:Nat)(a:Nat)(b:List Int) :T ((Nat×(List Int))⊕(((List Int))⊕(aS))) :=
  .ask (decide (((a:Nat):Int)<((d:Nat):Int)))
    (.need (fU ((a:Nat):Int) c)<|.need (fi a (List.length b))<|.need (fq .i64 (((a+1):Nat):Int))<|.leaf (.inl ((a+1),(List.set b a ((a:Nat):Int)))))
    (.leaf (.inr (.inl b)))
def jw(a:Nat)(b:Nat) :Nat×(List Int)→Option ((Nat×(List Int))⊕(((List Int))⊕(aS))):=fun (c,d) =>
  (sn a b c d).run
theorem Aj(a:Int)(b:Nat)(c:Nat)(d:Int)(e:Int)(f:Nat)(g:Nat)(h:Nat)(i:List Nat)(j:List Nat)(l:Nat)(m:Nat)(n:List Nat)(k:Nat)(o:Nat)(p:Nat)(q:List Int) :Sg prog [.vs [.int .i64 a,.sl 1 1 1 0 b c,.nsl,.int .i64 d,.int .i64 e,.sl 2 1 1 0 f g,.flt false h,.nsl,.nsl],.fl i,.fl j] Ai (jv a b c d e f g h i j l m n k o (p,q)) (jw k o (p,q)) (jv a b c d e f g h i j l m n k o) (bW 2 (sm a b c d e f g h i j l m n k) eR):=by
  unfold jw;exact cy cZ (jv a b c d e f g h i j l m n k o) [⟨[],[0,1,2,3,4,5],[2,3,6,7,10,71,72]⟩,⟨[],[0,1,2,3,4,5],[2,3,6,7,10]⟩]
def Ak(a:Int)(d:Nat)(e:Nat)(f:Int)(g:Int)(h:Nat)(i:Nat)(j:Nat)(k:List Nat)(l:List Nat)(m:Nat)(b:Nat)(n:List Nat)(c:Nat)(o:(List Int)) :aW:=⟨aw 186 [(2,.flt false m),(3,.ptr 3 1 0 0),(6,.int .i64 a),(7,.sl 4 1 1 0 b b),(10,.sl 5 1 1 0 c c)],[(0,.vs [.int .i64 a,.sl 1 1 1 0 d e,.nsl,.int .i64 f,.int .i64 g,.sl 2 1 1 0 h i,.flt false j,.nsl,.nsl]),(1,.fl k),(2,.fl l),(3,.vs [.ptr 0 1 0 0]),(4,.fl n),(5,.ns .i64 o)],6⟩
def so(a:Nat)(b:Nat)(c:List Nat)(d:List Nat)(e:Nat)(f:List Int) :T (((List Int))⊕(aS)) :=
  .need (dg 0 a c)<|.need (dg 0 b d)<|.need (cG (bM f 0 e (az 0 a c) (az 0 b d)))<|.leaf (.inl (du (bM f 0 e (az 0 a c) (az 0 b d))))
def Al(a:Int)(g:Nat)(h:Nat)(i:Int)(j:Int)(k:Nat)(l:Nat)(m:Nat)(n:List Nat)(o:List Nat)(p:Nat)(d:Nat)(q:List Nat)(c:Nat)(r:List Int) :Nat×(List Nat)×Nat×(List Nat)→aW:=fun (b,e,f,s)=>⟨aw 186 [(2,.flt false p),(3,.ptr 3 1 0 0),(6,.int .i64 a),(7,.sl 4 1 1 0 d d),(12,.sl 5 1 1 0 b b),(13,.ptr 6 1 0 0),(92,.sl 7 1 1 0 c c),(93,.int .i64 ((c:Nat):Int)),(94,.int .i64 (0:Int))],[(0,.vs [.int .i64 a,.sl 1 1 1 0 g h,.sl 8 1 1 0 b b,.int .i64 i,.int .i64 j,.sl 2 1 1 0 k l,.flt false m,.nsl,.nsl]),(1,.fl n),(2,.fl o),(3,.vs [.ptr 0 1 0 0]),(4,.fl q),(5,.fl e),(6,.vs [.int .i64 a,.int .i64 a,.sl 9 1 1 0 f f]),(7,.ns .i64 r),(8,.fl e),(9,.fl s)],10⟩
def sq(a:Int) :T ((Nat×(List Nat)×Nat×(List Nat))⊕(aS)) :=
  .need (decide ((0:Int)≤a))<|.need (decide (a≤a))<|.need (decide ((8:Int)*a≤140737488355328))<|.need (fq .i64 a)<|.need (fq .i64 (a*a))<|.need (decide ((0:Int)≤(a*a)))<|.need (decide ((a*a)≤(a*a)))<|.need (decide ((8:Int)*(a*a)≤140737488355328))<|.need (fq .i64 (a*a))<|.need (decide ((0:Int)≤a))<|.need (decide (a≤a))<|.need (decide ((8:Int)*a≤140737488355328))<|.need (fq .i64 a)<|.leaf (.inl ((Int.toNat a),(List.replicate (Int.toNat a) 0),(Int.toNat (a*a)),(List.replicate (Int.toNat (a*a)) 0)))
def jx(a:Int)(f:Nat)(g:Nat)(h:Int)(i:Int)(j:Nat)(k:Nat)(l:Nat)(m:List Nat)(n:List Nat)(o:Nat)(d:Nat)(p:List Nat)(c:Nat)(q:List Int)(b:Nat)(e:Nat) :Nat×(List Nat)×(List Nat)×(List Nat)→aW:=fun (r,s,t,u)=>⟨aw 186 [(2,.flt false o),(3,.ptr 3 1 0 0),(6,.int .i64 a),(7,.sl 4 1 1 0 d d),(12,.sl 5 1 1 0 b b),(13,.ptr 6 1 0 0),(92,.sl 7 1 1 0 c c),(93,.int .i64 ((c:Nat):Int)),(94,.int .i64 ((r:Nat):Int))],[(0,.vs [.int .i64 a,.sl 1 1 1 0 f g,.sl 8 1 1 0 b b,.int .i64 h,.int .i64 i,.sl 2 1 1 0 j k,.flt false l,.nsl,.nsl]),(1,.fl m),(2,.fl n),(3,.vs [.ptr 0 1 0 0]),(4,.fl p),(5,.fl s),(6,.vs [.int .i64 a,.int .i64 a,.sl 9 1 1 0 e e]),(7,.ns .i64 q),(8,.fl t),(9,.fl u)],10⟩
def nY(b:Int)(d:Nat)(e:Nat)(f:Int)(g:Int)(h:Nat)(i:Nat)(j:Nat)(k:List Nat)(l:List Nat)(m:Nat)(a:Nat)(c:Nat) :(List Nat)×(List Nat)×(List Nat)→aW:=fun (n,o,p)=>⟨aw 186 [(2,.flt false m),(3,.ptr 3 1 0 0),(12,.sl 4 1 1 0 a a),(13,.ptr 5 1 0 0)],[(0,.vs [.int .i64 b,.sl 1 1 1 0 d e,.sl 6 1 1 0 a a,.int .i64 f,.int .i64 g,.sl 2 1 1 0 h i,.flt false j,.nsl,.nsl]),(1,.fl k),(2,.fl l),(3,.vs [.ptr 0 1 0 0]),(4,.fl n),(5,.vs [.int .i64 b,.int .i64 b,.sl 7 1 1 0 c c]),(6,.fl o),(7,.fl p)],8⟩
def su:List Code:=cS (dh (((((((((jt.drop 5).drop 1).drop 2).drop 1).drop 1).drop 3).take 1)).headD .skip))
def Am(a:Int)(f:Nat)(g:Nat)(h:Int)(i:Int)(j:Nat)(k:Nat)(l:Nat)(m:List Nat)(n:List Nat)(o:Nat)(d:Nat)(p:List Nat)(c:Nat)(q:List Int)(b:Nat)(e:Nat)(r:Nat)(s:List Nat)(t:List Nat)(u:List Nat)(_:Unit) :aW:=⟨aw 186 [(2,.flt false o),(3,.ptr 3 1 0 0),(6,.int .i64 a),(7,.sl 4 1 1 0 d d),(12,.sl 5 1 1 0 b b),(13,.ptr 6 1 0 0),(92,.sl 7 1 1 0 c c),(93,.int .i64 ((c:Nat):Int)),(94,.int .i64 ((r:Nat):Int))],[(0,.vs [.int .i64 a,.sl 1 1 1 0 f g,.sl 8 1 1 0 b b,.int .i64 h,.int .i64 i,.sl 2 1 1 0 j k,.flt false l,.nsl,.nsl]),(1,.fl m),(2,.fl n),(3,.vs [.ptr 0 1 0 0]),(4,.fl p),(5,.fl s),(6,.vs [.int .i64 a,.int .i64 a,.sl 9 1 1 0 e e]),(7,.ns .i64 q),(8,.fl t),(9,.fl u)],10⟩
def sv(a:Nat)(b:Nat)(c:List Nat)(d:List Nat)(e:List Nat) :T ((Unit)⊕(((List Nat)×(List Nat)×(List Nat))⊕(aS))) :=
  .ask (decide (((b:Nat):Int)<((a:Nat):Int)))
    (.leaf (.inl ()))
    (.leaf (.inr (.inl (c,d,e))))
def nZ(a:Int)(f:Nat)(g:Nat)(h:Int)(i:Int)(j:Nat)(k:Nat)(l:Nat)(m:List Nat)(n:List Nat)(o:Nat)(d:Nat)(p:List Nat)(c:Nat)(q:List Int)(b:Nat)(e:Nat)(r:Nat) :(List Nat)×(List Nat)×(List Nat)→aW:=fun (s,t,u)=>⟨aw 186 [(2,.flt false o),(3,.ptr 3 1 0 0),(6,.int .i64 a),(7,.sl 4 1 1 0 d d),(12,.sl 5 1 1 0 b b),(13,.ptr 6 1 0 0),(92,.sl 7 1 1 0 c c),(93,.int .i64 ((c:Nat):Int)),(94,.int .i64 ((r:Nat):Int))],[(0,.vs [.int .i64 a,.sl 1 1 1 0 f g,.sl 8 1 1 0 b b,.int .i64 h,.int .i64 i,.sl 2 1 1 0 j k,.flt false l,.nsl,.nsl]),(1,.fl m),(2,.fl n),(3,.vs [.ptr 0 1 0 0]),(4,.fl p),(5,.fl s),(6,.vs [.int .i64 a,.int .i64 a,.sl 9 1 1 0 e e]),(7,.ns .i64 q),(8,.fl t),(9,.fl u)],10⟩
def An:List Code:=cS (inBlock ((((su.drop 2).take 1)).headD .skip))
def Ao(a:Int)(g:Nat)(h:Nat)(i:Int)(j:Int)(k:Nat)(l:Nat)(m:Nat)(n:List Nat)(o:List Nat)(p:Nat)(d:Nat)(q:List Nat)(c:Nat)(r:List Int)(b:Nat)(e:Nat)(f:Nat)(s:List Nat) :Int×(List Nat)×(List Nat)→aW:=fun (t,u,v)=>⟨aw 186 [(2,.flt false p),(3,.ptr 3 1 0 0),(6,.int .i64 a),(7,.sl 4 1 1 0 d d),(12,.sl 5 1 1 0 b b),(13,.ptr 6 1 0 0),(14,.int .i64 ((f:Nat):Int)),(15,.int .i64 t),(92,.sl 7 1 1 0 c c),(93,.int .i64 ((c:Nat):Int)),(94,.int .i64 ((f:Nat):Int)),(119,.int .i64 a),(120,.int .i64 (0:Int))],[(0,.vs [.int .i64 a,.sl 1 1 1 0 g h,.sl 8 1 1 0 b b,.int .i64 i,.int .i64 j,.sl 2 1 1 0 k l,.flt false m,.nsl,.nsl]),(1,.fl n),(2,.fl o),(3,.vs [.ptr 0 1 0 0]),(4,.fl q),(5,.fl u),(6,.vs [.int .i64 a,.int .i64 a,.sl 9 1 1 0 e e]),(7,.ns .i64 r),(8,.fl v),(9,.fl s)],10⟩
def sx(h:Nat)(c:List Nat)(i:Nat)(d:List Nat)(j:Nat)(b:List Int)(e:Nat)(a:Nat)(f:List Nat)(g:List Nat) :T ((Int×(List Nat)×(List Nat))⊕(((List Nat)×(List Nat)×(List Nat))⊕(((List Nat)×(List Nat)×(List Nat))⊕(aS)))) :=
  .need (fU ((a:Nat):Int) j)<|.need (fi a (List.length b))<|.need (fU (List.getD b a 0) h)<|.need (fi (Int.toNat (List.getD b a 0)) (List.length c))<|.need (fU (List.getD b a 0) i)<|.need (fi (Int.toNat (List.getD b a 0)) (List.length d))<|.need (fU ((a:Nat):Int) e)<|.need (fi a (List.length f))<|.need (fU ((a:Nat):Int) e)<|.need (fi a (List.length g))<|.leaf (.inl ((List.getD b a 0),(List.set f a (List.getD c (Int.toNat (List.getD b a 0)) 0)),(List.set g a (List.getD d (Int.toNat (List.getD b a 0)) 0))))
def jy(a:Int)(g:Nat)(h:Nat)(i:Int)(j:Int)(k:Nat)(l:Nat)(m:Nat)(n:List Nat)(o:List Nat)(p:Nat)(d:Nat)(q:List Nat)(c:Nat)(r:List Int)(b:Nat)(e:Nat)(f:Nat)(s:Int)(t:List Nat)(u:List Nat) :Nat×(List Nat)→aW:=fun (v,w)=>⟨aw 186 [(2,.flt false p),(3,.ptr 3 1 0 0),(6,.int .i64 a),(7,.sl 4 1 1 0 d d),(12,.sl 5 1 1 0 b b),(13,.ptr 6 1 0 0),(14,.int .i64 ((f:Nat):Int)),(15,.int .i64 s),(92,.sl 7 1 1 0 c c),(93,.int .i64 ((c:Nat):Int)),(94,.int .i64 ((f:Nat):Int)),(119,.int .i64 a),(120,.int .i64 ((v:Nat):Int))],[(0,.vs [.int .i64 a,.sl 1 1 1 0 g h,.sl 8 1 1 0 b b,.int .i64 i,.int .i64 j,.sl 2 1 1 0 k l,.flt false m,.nsl,.nsl]),(1,.fl n),(2,.fl o),(3,.vs [.ptr 0 1 0 0]),(4,.fl q),(5,.fl t),(6,.vs [.int .i64 a,.int .i64 a,.sl 9 1 1 0 e e]),(7,.ns .i64 r),(8,.fl u),(9,.fl w)],10⟩
def sy(a:Int)(f:Nat)(g:Nat)(h:Int)(i:Int)(j:Nat)(k:Nat)(l:Nat)(m:List Nat)(n:List Nat)(o:Nat)(d:Nat)(p:List Nat)(c:Nat)(q:List Int)(b:Nat)(e:Nat)(r:Nat)(s:List Nat)(t:List Nat)(u:(List Nat)) :aW:=⟨aw 186 [(2,.flt false o),(3,.ptr 3 1 0 0),(6,.int .i64 a),(7,.sl 4 1 1 0 d d),(12,.sl 5 1 1 0 b b),(13,.ptr 6 1 0 0),(92,.sl 7 1 1 0 c c),(93,.int .i64 ((c:Nat):Int)),(94,.int .i64 ((r:Nat):Int))],[(0,.vs [.int .i64 a,.sl 1 1 1 0 f g,.sl 8 1 1 0 b b,.int .i64 h,.int .i64 i,.sl 2 1 1 0 j k,.flt false l,.nsl,.nsl]),(1,.fl m),(2,.fl n),(3,.vs [.ptr 0 1 0 0]),(4,.fl p),(5,.fl s),(6,.vs [.int .i64 a,.int .i64 a,.sl 9 1 1 0 e e]),(7,.ns .i64 q),(8,.fl t),(9,.fl u)],10⟩
def Ap:List Code:=cS (dh ((((An.drop 3).take 1)).headD .skip))
def sz(b:Int)(g:Nat)(f:List Nat)(h:Nat)(c:Nat)(d:Int)(a:Nat)(e:List Nat) :T ((Nat×(List Nat))⊕(((List Nat))⊕(((List Nat)×(List Nat)×(List Nat))⊕(((List Nat)×(List Nat)×(List Nat))⊕(aS))))) :=
  .ask (decide (((a:Nat):Int)<b))
    (.need (fq .i64 (((a:Nat):Int)*b))<|.need (fq .i64 ((((a:Nat):Int)*b)+((c:Nat):Int)))<|.need (fq .i64 (((a:Nat):Int)*b))<|.need (fq .i64 ((((a:Nat):Int)*b)+d))<|.need (fU ((((a:Nat):Int)*b)+d) g)<|.need (fi (Int.toNat ((((a:Nat):Int)*b)+d)) (List.length f))<|.need (fU ((((a:Nat):Int)*b)+((c:Nat):Int)) h)<|.need (fi (Int.toNat ((((a:Nat):Int)*b)+((c:Nat):Int))) (List.length e))<|.need (fq .i64 (((a+1):Nat):Int))<|.leaf (.inl ((a+1),(List.set e (Int.toNat ((((a:Nat):Int)*b)+((c:Nat):Int))) (List.getD f (Int.toNat ((((a:Nat):Int)*b)+d)) 0)))))
    (.leaf (.inr (.inl e)))
def jz(a:Int)(b:Nat)(c:List Nat)(d:Nat)(e:Nat)(f:Int) :Nat×(List Nat)→Option ((Nat×(List Nat))⊕(((List Nat))⊕(((List Nat)×(List Nat)×(List Nat))⊕(((List Nat)×(List Nat)×(List Nat))⊕(aS))))):=fun (g,h) =>
  (sz a b c d e f g h).run
theorem Aq(a:Int)(d:Nat)(e:Nat)(f:Int)(g:Int)(b:Nat)(h:Nat)(i:Nat)(j:List Nat)(c:List Nat)(l:Nat)(o:Nat)(p:List Nat)(q:Nat)(r:List Int)(m:Nat)(k:Nat)(n:Nat)(s:Int)(t:List Nat)(u:List Nat)(v:Nat)(w:List Nat) :Sg prog [.vs [.int .i64 a,.sl 1 1 1 0 d e,.nsl,.int .i64 f,.int .i64 g,.sl 2 1 1 0 b h,.flt false i,.nsl,.nsl],.fl j,.fl c] Ap (jy a d e f g b h i j c l o p q r m k n s t u (v,w)) (jz a b c k n s (v,w)) (jy a d e f g b h i j c l o p q r m k n s t u) (bW 6 (sy a d e f g b h i j c l o p q r m k n t u) (bW 5 (nZ a d e f g b h i j c l o p q r m k n) (bW 4 (nY a d e f g b h i j c l m k) eR))):=by
  unfold jz;exact cy cZ (jy a d e f g b h i j c l o p q r m k n s t u) [⟨[],[0,1,2,3,4,5,6,7,8,9],[2,3,6,7,12,13,14,15,92,93,94,119,120]⟩,⟨[],[0,1,2,3,4,5,6,7,8,9],[2,3,6,7,12,13,92,93,94]⟩]
def sA(a:List Nat)(b:List Nat)(c:List Nat) :T (((List Nat)×(List Nat)×(List Nat))⊕(((List Nat)×(List Nat)×(List Nat))⊕(((List Nat)×(List Nat)×(List Nat))⊕(aS)))) :=
  .leaf (.inl (a,b,c))
def sB(a:Nat)(b:List Nat)(c:List Nat)(d:List Nat) :T ((Nat×(List Nat)×(List Nat)×(List Nat))⊕(((List Nat)×(List Nat)×(List Nat))⊕(aS))) :=
  .need (fq .i64 (((a+1):Nat):Int))<|.leaf (.inl ((a+1),b,c,d))
def jA(f:Int)(g:Nat)(h:Nat)(i:List Nat)(j:List Nat)(k:Nat)(l:List Nat)(b:Nat)(m:List Int)(n:Nat)(o:Nat) :Nat×(List Nat)×(List Nat)×(List Nat)→Option ((Nat×(List Nat)×(List Nat)×(List Nat))⊕(((List Nat)×(List Nat)×(List Nat))⊕(aS))):=fun (a,c,d,e) =>
  bd ((sv b a c d e).run) fun _ =>
  bd (vO (bd ((sx g i k l b m n a c d).run) fun (p,q,r) =>
  bd (cm (jz f h j o a p) (0,e)) fun s =>
  (sA q r s).run)) fun (t,u,v) =>
  (sB a t u v).run
theorem Ar(a:Int)(b:Nat)(f:Nat)(g:Int)(h:Int)(c:Nat)(i:Nat)(j:Nat)(d:List Nat)(e:List Nat)(m:Nat)(n:Nat)(o:List Nat)(p:Nat)(q:List Int)(k:Nat)(l:Nat)(r:Nat)(t:List Nat)(u:List Nat)(s:List Nat) :Sg prog [.vs [.int .i64 a,.sl 1 1 1 0 b f,.nsl,.int .i64 g,.int .i64 h,.sl 2 1 1 0 c i,.flt false j,.nsl,.nsl],.fl d,.fl e] su (jx a b f g h c i j d e m n o p q k l (r,t,u,s)) (jA a b c d e n o p q k l (r,t,u,s)) (jx a b f g h c i j d e m n o p q k l) (bW 4 (nY a b f g h c i j d e m k l) eR):=by
  unfold jA;exact Sg.cut 2 (ao aV) (cy cZ (Am a b f g h c i j d e m n o p q k l r t u s) [⟨[],[0,1,2,3,4,5,6,7,8,9],[2,3,6,7,12,13,92,93,94]⟩,⟨[],[0,1,2,3,5,6,8,9],[2,3,12,13]⟩]) (fun _=>Sg.cut 1 (ao aV) (UG (nZ a b f g h c i j d e m n o p q k l r) 5 (ao aV) (bY (by decide) (fX _)) (Sg.cut 3 (ao (ao aV)) (cy cZ (Ao a b f g h c i j d e m n o p q k l r s) [⟨[],[0,1,2,3,4,5,6,7,8,9],[2,3,6,7,12,13,14,15,92,93,94,119,120]⟩]) (fun ⟨x,v,w⟩=>Sg.cut 1 (ao (ao aV)) (yB ⟨[],[0,1,2,3,4,5,6,7,8,9],[2,3,6,7,12,13,14,15,92,93,94,119,120]⟩ (jy a b f g h c i j d e m n o p q k l r x v w) (sy a b f g h c i j d e m n o p q k l r v w) 6 (ao (ao aV)) (bY (by decide) (bY (by decide) (fX _))) (fun ⟨y,z⟩=>Aq a b f g h c i j d e m n o p q k l r x v w y z)) (fun A=>cy cZ (nZ a b f g h c i j d e m n o p q k l r) [⟨[],[0,1,2,3,4,5,6,7,8,9],[2,3,6,7,12,13,92,93,94]⟩])))) (fun ⟨B,C,D⟩=>cy cZ (jx a b f g h c i j d e m n o p q k l) [⟨[],[0,1,2,3,4,5,6,7,8,9],[2,3,6,7,12,13,92,93,94]⟩]))
def As(b:Int)(d:Nat)(e:List Nat)(f:List Nat)(g:Nat)(a:Nat)(c:Nat)(h:List Nat)(i:List Nat)(j:List Nat)(k:Nat) :aW:=⟨aw 186 [(2,.flt false g),(3,.ptr 3 1 0 0),(17,.flt false k)],[(0,.vs [.int .i64 b,.sl 4 1 1 0 a a,.sl 5 1 1 0 a a,.int .i64 b,.int .i64 b,.sl 6 1 1 0 c c,.flt false d,.nsl,.nsl]),(1,.fl e),(2,.fl f),(3,.vs [.ptr 0 1 0 0]),(4,.fl h),(5,.fl i),(6,.fl j)],7⟩
def sC(a:Nat)(b:List Nat) :T ((Nat)⊕(aS)) :=
  .need (dg 0 a b)<|.need (uH (pX (az 0 a b)))<|.leaf (.inl (vo (pX (az 0 a b))))
def Au(b:Int)(d:Nat)(e:List Nat)(f:List Nat)(g:Nat)(a:Nat)(c:Nat)(h:List Nat)(i:List Nat)(j:List Nat)(k:Nat)(_:Unit) :aW:=⟨aw 186 [(2,.flt false g),(3,.ptr 3 1 0 0),(17,.flt false k),(162,.int .i64 ((a:Nat):Int)),(163,.int .i64 (0:Int))],[(0,.vs [.int .i64 b,.sl 4 1 1 0 a a,.sl 5 1 1 0 a a,.int .i64 b,.int .i64 b,.sl 6 1 1 0 c c,.flt false d,.nsl,.nsl]),(1,.fl e),(2,.fl f),(3,.vs [.ptr 0 1 0 0]),(4,.fl h),(5,.fl i),(6,.fl j)],7⟩
def sD:T ((Unit)⊕(aS)) :=
  .leaf (.inl ())
def jB(b:Int)(d:Nat)(e:List Nat)(f:List Nat)(g:Nat)(a:Nat)(c:Nat)(h:List Nat)(i:List Nat)(j:Nat) :Nat×(List Nat)→aW:=fun (k,l)=>⟨aw 186 [(2,.flt false g),(3,.ptr 3 1 0 0),(17,.flt false j),(162,.int .i64 ((a:Nat):Int)),(163,.int .i64 ((k:Nat):Int))],[(0,.vs [.int .i64 b,.sl 4 1 1 0 a a,.sl 5 1 1 0 a a,.int .i64 b,.int .i64 b,.sl 6 1 1 0 c c,.flt false d,.nsl,.nsl]),(1,.fl e),(2,.fl f),(3,.vs [.ptr 0 1 0 0]),(4,.fl h),(5,.fl l),(6,.fl i)],7⟩
def sE(b:Int)(d:Nat)(e:List Nat)(f:List Nat)(g:Nat)(a:Nat)(c:Nat)(h:List Nat)(i:List Nat)(j:Nat)(k:(List Nat)) :aW:=⟨aw 186 [(2,.flt false g),(3,.ptr 3 1 0 0),(17,.flt false j)],[(0,.vs [.int .i64 b,.sl 4 1 1 0 a a,.sl 5 1 1 0 a a,.int .i64 b,.int .i64 b,.sl 6 1 1 0 c c,.flt false d,.nsl,.nsl]),(1,.fl e),(2,.fl f),(3,.vs [.ptr 0 1 0 0]),(4,.fl h),(5,.fl k),(6,.fl i)],7⟩
def Av:List Code:=cS (dh ((((((((((((jt.drop 5).drop 1).drop 2).drop 1).drop 1).drop 3).drop 1).drop 2).drop 1).take 1)).headD .skip))
def sF(c:Nat)(d:Nat)(a:Nat)(b:List Nat) :T ((Nat×(List Nat))⊕(((List Nat))⊕(aS))) :=
  .ask (decide (((a:Nat):Int)<((c:Nat):Int)))
    (.need (fU ((a:Nat):Int) c)<|.need (fi a (List.length b))<|.need (fU ((a:Nat):Int) c)<|.need (fi a (List.length b))<|.need (fq .i64 (((a+1):Nat):Int))<|.leaf (.inl ((a+1),(List.set b a (fdiv (List.getD b a 0) d)))))
    (.leaf (.inr (.inl b)))
def jC(a:Nat)(b:Nat) :Nat×(List Nat)→Option ((Nat×(List Nat))⊕(((List Nat))⊕(aS))):=fun (c,d) =>
  (sF a b c d).run
theorem Aw(a:Int)(m:Nat)(n:Nat)(o:Int)(p:Int)(q:Nat)(r:Nat)(b:Nat)(c:List Nat)(d:List Nat)(g:Nat)(e:Nat)(h:Nat)(i:List Nat)(j:List Nat)(f:Nat)(k:Nat)(l:List Nat) :Sg prog [.vs [.int .i64 a,.sl 1 1 1 0 m n,.nsl,.int .i64 o,.int .i64 p,.sl 2 1 1 0 q r,.flt false b,.nsl,.nsl],.fl c,.fl d] Av (jB a b c d g e h i j f (k,l)) (jC e f (k,l)) (jB a b c d g e h i j f) (bW 8 (sE a b c d g e h i j f) eR):=by
  unfold jC;exact cy cZ (jB a b c d g e h i j f) [⟨[],[0,1,2,3,4,5,6],[2,3,17,162,163]⟩,⟨[],[0,1,2,3,4,5,6],[2,3,17]⟩]
def sG(b:Int)(c:List Nat)(d:List Nat)(e:Nat)(f:Nat)(g:Nat)(h:List Nat)(i:List Nat)(a:Nat)(j:List Nat) :T ((Int×Nat×Nat×Nat×(List Nat)×(List Nat)×(List Nat)×(List Nat)×(List Nat))⊕(aS)) :=
  .leaf (.inl (b,f,g,(cY (eY e) (cY a a)),c,d,h,j,i))
def uI:(Int×Nat×Nat×Nat×(List Nat)×(List Nat)×(List Nat)×(List Nat)×(List Nat))⊕(aS)→bp
  | .inl (a,b,c,d,e,f,g,h,i)=>(.r0 a b c d e f g h i)
def co(a:Int)(g:Nat)(d:Nat)(e:List Nat)(b:List Nat)(n:Int)(h:Nat) :Option bp:=Option.map uI (bd ((sh a h).run) fun (i,o,p) =>
  bd (cm (ju a d b n i o) (0,p)) fun q =>
  bd ((sk a).run) fun (f,r,s) =>
  bd (cm (jw f r) (0,s)) fun t =>
  bd ((so g d e b f t).run) fun u =>
  bd ((sq a).run) fun (c,j,k,v) =>
  bd (cm (jA a g d e b i q f u c k) (0,j,j,v)) fun (w,l,x) =>
  bd ((sC c l).run) fun m =>
  bd ((sD).run) fun _ =>
  bd (cm (jC c m) (0,l)) fun y =>
  (sG a e b h c k w x m y).run)
theorem AR(a:Int)(f:Nat)(i:Nat)(j:Int)(k:Int)(g:Nat)(l:Nat)(e:Nat)(b:List Nat)(c:List Nat)(r:Int)(d:Nat){x:bp}(h:co a f g b c r d=some x) :aI prog kA [.vs [.int .i64 a,.sl 1 1 1 0 f i,.nsl,.int .i64 j,.int .i64 k,.sl 2 1 1 0 g l,.flt false e,.nsl,.nsl],.fl b,.fl c] [.ptr 0 1 0 0,.int .i64 r,.flt false d] (qe x) :=
  LC false qe sf eR uI h (Sg.cut 5 aV (cy cZ (AO a f i j k g l e b c r d) [⟨[],[0,1,2,3,115],[1,2,3,6,7,8,27,28]⟩]) (fun ⟨m,w,K⟩=>Sg.cut 1 aV (yB ⟨[],[0,1,2,3,4],[1,2,3,6,7,8,27,28]⟩ (jQ a f i j k g l e b c r d m w) (tB a f i j k g l e b c d m) 0 aV (fX _) (fun ⟨A,B⟩=>Ah a f i j k g l e b c r d m w A B)) (fun n=>Sg.cut 2 aV (cy cZ (AQ a f i j k g l e b c d m n) [⟨[],[0,1,2,3,4,21],[2,3,6,7,10,71,72]⟩]) (fun ⟨q,y,L⟩=>Sg.cut 1 aV (yB ⟨[],[0,1,2,3,4,5],[2,3,6,7,10,71,72]⟩ (jv a f i j k g l e b c d m n q y) (sm a f i j k g l e b c d m n q) 2 aV (fX _) (fun ⟨C,D⟩=>Aj a f i j k g l e b c d m n q y C D)) (fun M=>Sg.cut 1 aV (cy cZ (Ak a f i j k g l e b c d m n q) [⟨[],[0,1,2,3,4,5],[2,3,6,7,10]⟩]) (fun v=>Sg.cut 3 aV (cy cZ (Al a f i j k g l e b c d m n q v) [⟨[],[0,1,2,3,4,22,70,5,150,54],[2,3,6,7,12,13,92,93,94]⟩]) (fun ⟨o,N,p,O⟩=>Sg.cut 1 aV (yB ⟨[],[0,1,2,3,4,5,6,7,8,9],[2,3,6,7,12,13,92,93,94]⟩ (jx a f i j k g l e b c d m n q v o p) (nY a f i j k g l e b c d o p) 4 aV (fX _) (fun ⟨E,F,G,H⟩=>Ar a f i j k g l e b c d m n q v o p E F G H)) (fun ⟨s,z,t⟩=>Sg.cut 2 aV (cy cZ (As a e b c d o p s z t) [⟨[],[0,1,2,3,4,6,7],[2,3,17]⟩]) (fun u=>Sg.cut 1 aV (cy cZ (Au a e b c d o p s z t u) [⟨[],[0,1,2,3,4,5,6],[2,3,17,162,163]⟩]) (fun _=>Sg.cut 1 aV (yB ⟨[],[0,1,2,3,4,5,6],[2,3,17,162,163]⟩ (jB a e b c d o p s t u) (sE a e b c d o p s t u) 8 aV (fX _) (fun ⟨I,J⟩=>Aw a f i j k g l e b c d o p s t u I J)) (fun P=>cy cZ sf [⟨[],[0,1,2,4,5,6],[]⟩])))))))))))
    (fun ⟨Q,R,S,T,U,V,W,X,Y⟩=>LB []) (fun x=>by cases x)
def jR:Option bp→Bool
  | some _=>true
  | none=>false
def my:Option bp→Int
  | some (.r0 x _ _ _ _ _ _ _ _)=>x
  | _=>0
def mz:Option bp→Nat
  | some (.r0 _ x _ _ _ _ _ _ _)=>x
  | _=>0
def mA:Option bp→Nat
  | some (.r0 _ _ x _ _ _ _ _ _)=>x
  | _=>0
def mB:Option bp→Nat
  | some (.r0 _ _ _ x _ _ _ _ _)=>x
  | _=>0
def rP:Option bp→List Nat
  | some (.r0 _ _ _ _ x _ _ _ _)=>x
  | _=>[]
def rQ:Option bp→List Nat
  | some (.r0 _ _ _ _ _ x _ _ _)=>x
  | _=>[]
def mC:Option bp→List Nat
  | some (.r0 _ _ _ _ _ _ x _ _)=>x
  | _=>[]
def mD:Option bp→List Nat
  | some (.r0 _ _ _ _ _ _ _ x _)=>x
  | _=>[]
def mE:Option bp→List Nat
  | some (.r0 _ _ _ _ _ _ _ _ x)=>x
  | _=>[]
theorem AS{x:Option bp}(h:jR x=true) :x=some (.r0 (my x) (mz x) (mA x) (mB x) (rP x) (rQ x) (mC x) (mD x) (mE x)):=by
  unfold jR at h
  split at h<;>first | rfl | (cases h;done) | (rename_i y;cases y;rfl)
def uJ:bC:=yz kA [.vs [.int .i64,.lsl0 1,.nsl,.int .i64,.int .i64,.lsl0 2,.flt,.nsl,.nsl],.fl,.fl] (.cons (.lptr 0 1 0 0) (.cons (.int .i64) (.cons (.flt false) .nil))) fun x t=>(fun q=>[⟨qe (.r0 (my q) (mz q) (mA q) (mB q) (rP q) (rQ q) (mC q) (mD q) (mE q)),[jR q]⟩]) (co x.1.1 x.1.2.1.1 x.1.2.2.2.2.2.1.1 x.2.1 x.2.2.1 t.2.1 t.2.2.1)
theorem zG:cg prog uJ:=nR fun x t=>(jG (fun h=>AR x.1.1 x.1.2.1.1 x.1.2.1.2 x.1.2.2.2.1 x.1.2.2.2.2.1 x.1.2.2.2.2.2.1.1 x.1.2.2.2.2.2.1.2 x.1.2.2.2.2.2.2.1 x.2.1 x.2.2.1 t.2.1 t.2.2.1 (AS h)) nS)
def uK:List bC:=uJ::JC
theorem fv:cR prog (cX uK):=aZ zG cZ
inductive aG where
  | r0 (a:Bool) (b:Int) (c:Nat) (d:Nat) (e:Nat) (f:Nat) (g:Int) (h:Int) (i:Nat) (j:Nat) (k:Nat) (l:Nat) (m:Nat) (n:Nat) (o:Nat) (p:List Nat) (q:List Nat) (r:List Nat) (s:List Int) (t:List Int)
def lu:aG→AE×aW
  | .r0 a b c d e f g h i j k l m n o p q r s t=>(.ret,⟨aw 183 [(8,.bool false a)],[(0,.vs [.int .i64 b,.sl 1 1 1 0 c d,.sl 2 1 1 0 e f,.int .i64 g,.int .i64 h,.sl 3 1 1 0 i j,.flt false k,.sl 4 1 1 0 l m,.sl 5 1 1 0 n o]),(1,.fl p),(2,.fl q),(3,.fl r),(4,.ns .i64 s),(5,.ns .i64 t)],6⟩)
theorem iX:ye lu:=by intro x;cases x<;>(intro h;cases h)
theorem Cd(id:Nat) :rB id lu:=by intro x;cases x<;>(intro h;cases h)
def qC:aG→rU
  | .r0 a b c d e f g h i j k l m n o p q r s t=>⟨.bool false a,[some (.vs [.int .i64 b,.sl 1 1 1 0 c d,.sl 2 1 1 0 e f,.int .i64 g,.int .i64 h,.sl 3 1 1 0 i j,.flt false k,.sl 4 1 1 0 l m,.sl 5 1 1 0 n o]),some (.fl p),some (.fl q),some (.fl r),some (.ns .i64 s),some (.ns .i64 t)]⟩
def Ce:List Code:=cS (ri ln)
def Cf(a:Int)(b:Nat)(c:Nat)(d:Nat)(e:Nat)(f:Int)(g:Int)(h:Nat)(i:Nat)(j:Nat)(k:Nat)(l:Nat)(m:Nat)(n:Nat)(o:List Nat)(p:List Nat)(q:List Nat)(r:List Int)(s:List Int)(t:Int)(u:Int)(v:Nat)(w:Nat) :aW:=⟨aw 183 [(0,.ptr 0 1 0 0),(1,.int .i64 t),(2,.int .i64 u),(3,.flt false v),(9,.flt false w)],[(0,.vs [.int .i64 a,.sl 1 1 1 0 b c,.sl 2 1 1 0 d e,.int .i64 f,.int .i64 g,.sl 3 1 1 0 h i,.flt false j,.sl 4 1 1 0 k l,.sl 5 1 1 0 m n]),(1,.fl o),(2,.fl p),(3,.fl q),(4,.ns .i64 r),(5,.ns .i64 s)],6⟩
def tC(d:Nat)(a:List Nat)(b:Int)(c:Int) :T ((Nat)⊕(aG)) :=
  .need (fU b d)<|.need (fi (Int.toNat b) (List.length a))<|.need (fU c d)<|.need (fi (Int.toNat c) (List.length a))<|.ask (KT (eY (List.getD a (Int.toNat c) 0)) (eY (List.getD a (Int.toNat b) 0)))
    (.ask (UE (eY (List.getD a (Int.toNat c) 0)) 0)
      (.leaf (.inl (eY (List.getD a (Int.toNat c) 0))))
      (.leaf (.inl (cY (eY (List.getD a (Int.toNat c) 0)) (Eh (v3 4607182418800017408 (cY (fdiv (eY (List.getD a (Int.toNat b) 0)) (eY (List.getD a (Int.toNat c) 0))) (fdiv (eY (List.getD a (Int.toNat b) 0)) (eY (List.getD a (Int.toNat c) 0))))))))))
    (.ask (UE (eY (List.getD a (Int.toNat b) 0)) 0)
      (.leaf (.inl (eY (List.getD a (Int.toNat b) 0))))
      (.leaf (.inl (cY (eY (List.getD a (Int.toNat b) 0)) (Eh (v3 4607182418800017408 (cY (fdiv (eY (List.getD a (Int.toNat c) 0)) (eY (List.getD a (Int.toNat b) 0))) (fdiv (eY (List.getD a (Int.toNat c) 0)) (eY (List.getD a (Int.toNat b) 0))))))))))
def Cg(a:Int)(b:Nat)(c:Nat)(d:Nat)(e:Nat)(f:Int)(g:Int)(h:Nat)(i:Nat)(j:Nat)(k:Nat)(l:Nat)(m:Nat)(n:Nat)(o:List Nat)(p:List Nat)(q:List Int)(r:List Int)(s:Int)(t:Int) :Nat×Nat×(List Nat)→aW:=fun (u,v,w)=>⟨aw 183 [(0,.ptr 0 1 0 0),(1,.int .i64 s),(2,.int .i64 t),(10,.flt false u),(11,.flt false v),(90,.int .i64 a),(91,.int .i64 (0:Int))],[(0,.vs [.int .i64 a,.sl 1 1 1 0 b c,.sl 2 1 1 0 d e,.int .i64 f,.int .i64 g,.sl 3 1 1 0 h i,.flt false j,.sl 4 1 1 0 k l,.sl 5 1 1 0 m n]),(1,.fl o),(2,.fl w),(3,.fl p),(4,.ns .i64 q),(5,.ns .i64 r)],6⟩
def tD(h:Int)(g:Nat)(i:Nat)(e:Nat)(j:Nat)(k:Int)(l:Int)(m:Nat)(n:Nat)(o:Nat)(p:Nat)(q:Nat)(r:Nat)(s:Nat)(f:List Nat)(b:List Nat)(t:List Nat)(u:List Int)(v:List Int)(c:Int)(a:Int)(w:Nat)(d:Nat) :T ((Nat×Nat×(List Nat))⊕(aG)) :=
  .need (fU a e)<|.need (fi (Int.toNat a) (List.length b))<|.need (fU c e)<|.need (fi (Int.toNat c) (List.length b))<|.need (fU a g)<|.need (fi (Int.toNat a) (List.length f))<|.need (fU c g)<|.need (fi (Int.toNat c) (List.length f))<|.ask (!(Xg (eY (cY (cY (kZ (List.getD f (Int.toNat a) 0) (List.getD f (Int.toNat c) 0)) (fdiv (List.getD b (Int.toNat a) 0) d)) (fdiv (List.getD b (Int.toNat c) 0) d))) w))
    (.leaf (.inr (.r0 false h g i e j k l m n o p q r s f b t u v)))
    (.need (fU a e)<|.need (fi (Int.toNat a) (List.length b))<|.need (fU c e)<|.need (fi (Int.toNat c) (List.length (List.set b (Int.toNat a) d)))<|.leaf (.inl ((fdiv (List.getD b (Int.toNat a) 0) d),(fdiv (List.getD b (Int.toNat c) 0) d),(List.set (List.set b (Int.toNat a) d) (Int.toNat c) 0))))
def kE(a:Int)(b:Nat)(c:Nat)(d:Nat)(e:Nat)(f:Int)(g:Int)(h:Nat)(i:Nat)(j:Nat)(k:Nat)(l:Nat)(m:Nat)(n:Nat)(o:List Nat)(p:List Int)(q:List Int)(r:Int)(s:Int)(t:Nat)(u:Nat)(v:List Nat) :Nat×(List Nat)→aW:=fun (w,x)=>⟨aw 183 [(0,.ptr 0 1 0 0),(1,.int .i64 r),(2,.int .i64 s),(10,.flt false t),(11,.flt false u),(90,.int .i64 a),(91,.int .i64 ((w:Nat):Int))],[(0,.vs [.int .i64 a,.sl 1 1 1 0 b c,.sl 2 1 1 0 d e,.int .i64 f,.int .i64 g,.sl 3 1 1 0 h i,.flt false j,.sl 4 1 1 0 k l,.sl 5 1 1 0 m n]),(1,.fl o),(2,.fl v),(3,.fl x),(4,.ns .i64 p),(5,.ns .i64 q)],6⟩
def uL(a:Int)(b:Nat)(c:Nat)(d:Nat)(e:Nat)(f:Int)(g:Int)(h:Nat)(i:Nat)(j:Nat)(k:Nat)(l:Nat)(m:Nat)(n:Nat)(o:List Nat)(p:List Int)(q:List Int)(r:Int)(s:Int)(t:Nat)(u:Nat)(v:List Nat)(w:(List Nat)) :aW:=⟨aw 183 [(0,.ptr 0 1 0 0),(1,.int .i64 r),(2,.int .i64 s),(10,.flt false t),(11,.flt false u)],[(0,.vs [.int .i64 a,.sl 1 1 1 0 b c,.sl 2 1 1 0 d e,.int .i64 f,.int .i64 g,.sl 3 1 1 0 h i,.flt false j,.sl 4 1 1 0 k l,.sl 5 1 1 0 m n]),(1,.fl o),(2,.fl v),(3,.fl w),(4,.ns .i64 p),(5,.ns .i64 q)],6⟩
def AT:List Code:=cS (dh (((((Ce.drop 2).drop 5).take 1)).headD .skip))
def Ch(a:Int)(b:Nat)(c:Nat)(d:Nat)(e:Nat)(f:Int)(g:Int)(h:Nat)(i:Nat)(j:Nat)(k:Nat)(l:Nat)(m:Nat)(n:Nat)(o:List Nat)(p:List Int)(q:List Int)(r:Int)(s:Int)(t:Nat)(u:Nat)(v:List Nat)(w:Nat)(x:(List Nat)) :aW:=⟨aw 183 [(0,.ptr 0 1 0 0),(1,.int .i64 r),(2,.int .i64 s),(10,.flt false t),(11,.flt false u),(90,.int .i64 a),(91,.int .i64 ((w:Nat):Int))],[(0,.vs [.int .i64 a,.sl 1 1 1 0 b c,.sl 2 1 1 0 d e,.int .i64 f,.int .i64 g,.sl 3 1 1 0 h i,.flt false j,.sl 4 1 1 0 k l,.sl 5 1 1 0 m n]),(1,.fl o),(2,.fl v),(3,.fl x),(4,.ns .i64 p),(5,.ns .i64 q)],6⟩
def tE(a:Int)(f:Nat)(i:Nat)(d:Int)(e:Int)(g:Nat)(h:Nat)(b:Nat)(c:List Nat) :T (((List Nat))⊕(((List Nat))⊕(aG))) :=
  .ask (decide (((b:Nat):Int)<a))
    (.need (fq .i64 (((b:Nat):Int)*a))<|.need (AL ((f:Nat):Int) i)<|.need (AL (((b:Nat):Int)*a) f)<|.need (fU d (f-(Int.toNat (((b:Nat):Int)*a))))<|.need (fi (bV (Int.toNat (((b:Nat):Int)*a)) (Int.toNat d)) (List.length c))<|.need (fU e (f-(Int.toNat (((b:Nat):Int)*a))))<|.need (fi (bV (Int.toNat (((b:Nat):Int)*a)) (Int.toNat e)) (List.length c))<|.need (fU d (f-(Int.toNat (((b:Nat):Int)*a))))<|.need (fi (bV (Int.toNat (((b:Nat):Int)*a)) (Int.toNat d)) (List.length c))<|.need (fU e (f-(Int.toNat (((b:Nat):Int)*a))))<|.need (fi (bV (Int.toNat (((b:Nat):Int)*a)) (Int.toNat e)) (List.length (List.set c (bV (Int.toNat (((b:Nat):Int)*a)) (Int.toNat d)) (kZ (cY g (List.getD c (bV (Int.toNat (((b:Nat):Int)*a)) (Int.toNat d)) 0)) (cY h (List.getD c (bV (Int.toNat (((b:Nat):Int)*a)) (Int.toNat e)) 0))))))<|.leaf (.inl (List.set (List.set c (bV (Int.toNat (((b:Nat):Int)*a)) (Int.toNat d)) (kZ (cY g (List.getD c (bV (Int.toNat (((b:Nat):Int)*a)) (Int.toNat d)) 0)) (cY h (List.getD c (bV (Int.toNat (((b:Nat):Int)*a)) (Int.toNat e)) 0)))) (bV (Int.toNat (((b:Nat):Int)*a)) (Int.toNat e)) (v3 (cY h (List.getD c (bV (Int.toNat (((b:Nat):Int)*a)) (Int.toNat d)) 0)) (cY g (List.getD c (bV (Int.toNat (((b:Nat):Int)*a)) (Int.toNat e)) 0))))))
    (.leaf (.inr (.inl c)))
def tF(a:Nat)(b:List Nat) :T ((Nat×(List Nat))⊕(((List Nat))⊕(aG))) :=
  .need (fq .i64 (((a+1):Nat):Int))<|.leaf (.inl ((a+1),b))
def jS(b:Int)(c:Nat)(d:Nat)(e:Int)(f:Int)(g:Nat)(h:Nat) :Nat×(List Nat)→Option ((Nat×(List Nat))⊕(((List Nat))⊕(aG))):=fun (a,i) =>
  bd ((tE b c d e f g h a i).run) fun j =>
  (tF a j).run
theorem AU(a:Int)(d:Nat)(e:Nat)(f:Nat)(g:Nat)(h:Int)(i:Int)(b:Nat)(c:Nat)(j:Nat)(k:Nat)(l:Nat)(m:Nat)(n:Nat)(o:List Nat)(y:List Nat)(z:List Nat)(p:List Int)(q:List Int)(r:Int)(s:Int)(t:Nat)(u:Nat)(v:List Nat)(w:Nat)(x:List Nat) :Sg prog [.vs [.int .i64 a,.sl 1 1 1 0 d e,.sl 2 1 1 0 f g,.int .i64 h,.int .i64 i,.sl 3 1 1 0 b c,.flt false j,.sl 4 1 1 0 k l,.sl 5 1 1 0 m n],.fl o,.fl y,.fl z,.ns .i64 p,.ns .i64 q] AT (kE a d e f g h i b c j k l m n o p q r s t u v (w,x)) (jS a b c r s t u (w,x)) (kE a d e f g h i b c j k l m n o p q r s t u v) (bW 0 (uL a d e f g h i b c j k l m n o p q r s t u v) lu):=by
  unfold jS;exact Sg.cut 3 (ao iX) (cy fv (Ch a d e f g h i b c j k l m n o p q r s t u v w) [⟨[],[0,1,2,3,4,5],[0,1,2,10,11,90,91]⟩,⟨[],[0,1,2,3,4,5],[0,1,2,10,11]⟩]) (fun A=>cy fv (kE a d e f g h i b c j k l m n o p q r s t u v) [⟨[],[0,1,2,3,4,5],[0,1,2,10,11,90,91]⟩])
def tG(g:Int)(f:Nat)(h:Nat)(i:Nat)(j:Nat)(k:Int)(l:Int)(m:Nat)(n:Nat)(o:Nat)(p:Nat)(q:Nat)(r:Nat)(s:Nat)(a:List Nat)(t:List Int)(u:List Int)(b:Int)(c:Int)(d:Nat)(e:Nat)(v:List Nat)(w:List Nat) :T ((Empty)⊕(aG)) :=
  .need (fU b f)<|.need (fi (Int.toNat b) (List.length a))<|.need (fU c f)<|.need (fi (Int.toNat c) (List.length a))<|.need (fU b f)<|.need (fi (Int.toNat b) (List.length a))<|.need (fU c f)<|.need (fi (Int.toNat c) (List.length (List.set a (Int.toNat b) (v3 (cY (List.getD a (Int.toNat b) 0) (cY d d)) (cY (List.getD a (Int.toNat c) 0) (cY e e))))))<|.leaf (.inr (.r0 true g f h i j k l m n o p q r s (List.set (List.set a (Int.toNat b) (v3 (cY (List.getD a (Int.toNat b) 0) (cY d d)) (cY (List.getD a (Int.toNat c) 0) (cY e e)))) (Int.toNat c) (v3 (cY (List.getD a (Int.toNat b) 0) (cY e e)) (cY (List.getD a (Int.toNat c) 0) (cY d d)))) v w t u))
def aT(c:Int)(g:Nat)(h:Nat)(d:Nat)(i:Nat)(j:Int)(k:Int)(e:Nat)(f:Nat)(l:Nat)(m:Nat)(n:Nat)(o:Nat)(p:Nat)(q:List Nat)(r:List Nat)(s:List Nat)(t:List Int)(u:List Int)(a:Int)(b:Int)(x:Nat) :Option aG:=toX (bd ((tC d r a b).run) fun y =>
  bd ((tD c g h d i j k e f l m n o p q r s t u a b x y).run) fun (v,w,z) =>
  bd (cm (jS c e f a b v w) (0,s)) fun A =>
  (tG c g h d i j k e f l m n o p q t u a b v w z A).run)
theorem Ci(a:Int)(b:Nat)(c:Nat)(d:Nat)(e:Nat)(f:Int)(g:Int)(i:Nat)(j:Nat)(k:Nat)(l:Nat)(m:Nat)(n:Nat)(o:Nat)(p:List Nat)(v:List Nat)(u:List Nat)(q:List Int)(r:List Int)(s:Int)(t:Int)(w:Nat){x:aG}(h:aT a b c d e f g i j k l m n o p v u q r s t w=some x) :aI prog ln [.vs [.int .i64 a,.sl 1 1 1 0 b c,.sl 2 1 1 0 d e,.int .i64 f,.int .i64 g,.sl 3 1 1 0 i j,.flt false k,.sl 4 1 1 0 l m,.sl 5 1 1 0 n o],.fl p,.fl v,.fl u,.ns .i64 q,.ns .i64 r] [.ptr 0 1 0 0,.int .i64 s,.int .i64 t,.flt false w] (qC x) :=
  IB false qC lu h (Sg.cut 2 iX (cy fv (Cf a b c d e f g i j k l m n o p v u q r s t w) [⟨[],[0,1,2,3,4,5],[0,1,2,3,9]⟩,⟨[],[0,1,2,3,4,5],[0,1,2,3,9]⟩,⟨[],[0,1,2,3,4,5],[0,1,2,3,9]⟩,⟨[],[0,1,2,3,4,5],[0,1,2,3,9]⟩]) (fun E=>Sg.cut 5 iX (cy fv (Cg a b c d e f g i j k l m n o p u q r s t) [⟨[],[0,1,2,3,4,5],[8]⟩,⟨[],[0,1,2,3,4,5],[0,1,2,10,11,90,91]⟩]) (fun ⟨y,z,A⟩=>Sg.cut 1 iX (yB ⟨[],[0,1,2,3,4,5],[0,1,2,10,11,90,91]⟩ (kE a b c d e f g i j k l m n o p q r s t y z A) (uL a b c d e f g i j k l m n o p q r s t y z A) 0 iX (Cd _) (fun ⟨B,C⟩=>AU a b c d e f g i j k l m n o p v u q r s t y z A B C)) (fun F=>cy fv G3 [⟨[],[0,1,2,3,4,5],[8]⟩]))))
    (fun x=>by cases x with | r0 D G H I J K L M N O P Q R S T U V W X Y=>exact Fi [.bool false D])
def kF:Option aG→Bool
  | some _=>true
  | none=>false
def oa:Option aG→Bool
  | some (.r0 x _ _ _ _ _ _ _ _ _ _ _ _ _ _ _ _ _ _ _)=>x
  | _=>false
def oc:Option aG→Int
  | some (.r0 _ x _ _ _ _ _ _ _ _ _ _ _ _ _ _ _ _ _ _)=>x
  | _=>0
def od:Option aG→Nat
  | some (.r0 _ _ x _ _ _ _ _ _ _ _ _ _ _ _ _ _ _ _ _)=>x
  | _=>0
def oe:Option aG→Nat
  | some (.r0 _ _ _ x _ _ _ _ _ _ _ _ _ _ _ _ _ _ _ _)=>x
  | _=>0
def og:Option aG→Nat
  | some (.r0 _ _ _ _ x _ _ _ _ _ _ _ _ _ _ _ _ _ _ _)=>x
  | _=>0
def oh:Option aG→Nat
  | some (.r0 _ _ _ _ _ x _ _ _ _ _ _ _ _ _ _ _ _ _ _)=>x
  | _=>0
def oi:Option aG→Int
  | some (.r0 _ _ _ _ _ _ x _ _ _ _ _ _ _ _ _ _ _ _ _)=>x
  | _=>0
def oj:Option aG→Int
  | some (.r0 _ _ _ _ _ _ _ x _ _ _ _ _ _ _ _ _ _ _ _)=>x
  | _=>0
def ol:Option aG→Nat
  | some (.r0 _ _ _ _ _ _ _ _ x _ _ _ _ _ _ _ _ _ _ _)=>x
  | _=>0
def om:Option aG→Nat
  | some (.r0 _ _ _ _ _ _ _ _ _ x _ _ _ _ _ _ _ _ _ _)=>x
  | _=>0
def mF:Option aG→Nat
  | some (.r0 _ _ _ _ _ _ _ _ _ _ x _ _ _ _ _ _ _ _ _)=>x
  | _=>0
def mG:Option aG→Nat
  | some (.r0 _ _ _ _ _ _ _ _ _ _ _ x _ _ _ _ _ _ _ _)=>x
  | _=>0
def mH:Option aG→Nat
  | some (.r0 _ _ _ _ _ _ _ _ _ _ _ _ x _ _ _ _ _ _ _)=>x
  | _=>0
def mI:Option aG→Nat
  | some (.r0 _ _ _ _ _ _ _ _ _ _ _ _ _ x _ _ _ _ _ _)=>x
  | _=>0
def mJ:Option aG→Nat
  | some (.r0 _ _ _ _ _ _ _ _ _ _ _ _ _ _ x _ _ _ _ _)=>x
  | _=>0
def mK:Option aG→List Nat
  | some (.r0 _ _ _ _ _ _ _ _ _ _ _ _ _ _ _ x _ _ _ _)=>x
  | _=>[]
def mL:Option aG→List Nat
  | some (.r0 _ _ _ _ _ _ _ _ _ _ _ _ _ _ _ _ x _ _ _)=>x
  | _=>[]
def mM:Option aG→List Nat
  | some (.r0 _ _ _ _ _ _ _ _ _ _ _ _ _ _ _ _ _ x _ _)=>x
  | _=>[]
def mN:Option aG→List Int
  | some (.r0 _ _ _ _ _ _ _ _ _ _ _ _ _ _ _ _ _ _ x _)=>x
  | _=>[]
def mO:Option aG→List Int
  | some (.r0 _ _ _ _ _ _ _ _ _ _ _ _ _ _ _ _ _ _ _ x)=>x
  | _=>[]
theorem Cj{x:Option aG}(h:kF x=true) :x=some (.r0 (oa x) (oc x) (od x) (oe x) (og x) (oh x) (oi x) (oj x) (ol x) (om x) (mF x) (mG x) (mH x) (mI x) (mJ x) (mK x) (mL x) (mM x) (mN x) (mO x)):=by
  unfold kF at h
  split at h<;>first | rfl | (cases h;done) | (rename_i y;cases y;rfl)
def vQ:bC:=yz ln [.vs [.int .i64,.lsl0 1,.lsl0 2,.int .i64,.int .i64,.lsl0 3,.flt,.lsl0 4,.lsl0 5],.fl,.fl,.fl,.ns .i64,.ns .i64] (.cons (.lptr 0 1 0 0) (.cons (.int .i64) (.cons (.int .i64) (.cons (.flt false) .nil)))) fun x t=>(fun q=>[⟨qC (.r0 (oa q) (oc q) (od q) (oe q) (og q) (oh q) (oi q) (oj q) (ol q) (om q) (mF q) (mG q) (mH q) (mI q) (mJ q) (mK q) (mL q) (mM q) (mN q) (mO q)),[kF q]⟩]) (aT x.1.1 x.1.2.1.1 x.1.2.1.2 x.1.2.2.1.1 x.1.2.2.1.2 x.1.2.2.2.1 x.1.2.2.2.2.1 x.1.2.2.2.2.2.1.1 x.1.2.2.2.2.2.1.2 x.1.2.2.2.2.2.2.1 x.1.2.2.2.2.2.2.2.1.1 x.1.2.2.2.2.2.2.2.1.2 x.1.2.2.2.2.2.2.2.2.1.1 x.1.2.2.2.2.2.2.2.2.1.2 x.2.1 x.2.2.1 x.2.2.2.1 x.2.2.2.2.1 x.2.2.2.2.2.1 t.2.1 t.2.2.1 t.2.2.2.1)
theorem Ax:cg prog vQ:=nR fun x t=>(jG (fun h=>Ci x.1.1 x.1.2.1.1 x.1.2.1.2 x.1.2.2.1.1 x.1.2.2.1.2 x.1.2.2.2.1 x.1.2.2.2.2.1 x.1.2.2.2.2.2.1.1 x.1.2.2.2.2.2.1.2 x.1.2.2.2.2.2.2.1 x.1.2.2.2.2.2.2.2.1.1 x.1.2.2.2.2.2.2.2.1.2 x.1.2.2.2.2.2.2.2.2.1.1 x.1.2.2.2.2.2.2.2.2.1.2 x.2.1 x.2.2.1 x.2.2.2.1 x.2.2.2.2.1 x.2.2.2.2.2.1 t.2.1 t.2.2.1 t.2.2.2.1 (Cj h)) nS)
def vR:List bC:=vQ::uK
theorem oo:cR prog (cX vR):=aZ Ax fv
inductive jf where
  | r0 (a:Int)
def Er:jf→AE×aW
  | .r0 a=>(.ret,⟨aw 8 [(2,.int .i64 a)],[],0⟩)
theorem Kf:ye Er:=by intro x;cases x<;>(intro h;cases h)
def yX:jf→rU
  | .r0 a=>⟨.int .i64 a,[]⟩
def Kg(a:Int) :aW:=⟨aw 8 [(2,.int .i64 a)],[],0⟩
def Kh(a:Int) :T ((Int)⊕(jf)) :=
  .ask (decide (a≥(4294967296:Int)))
    (.need (decide ((0:Int)≤(32:Int)))<|.ask (decide ((Int.fdiv a (2^(min (Int.toNat (32:Int)) (IntKind.u64.bits))))≥(65536:Int)))
      (.need (decide ((0:Int)≤(16:Int)))<|.need (fq .i64 (48:Int))<|.ask (decide ((Int.fdiv (Int.fdiv a (2^(min (Int.toNat (32:Int)) (IntKind.u64.bits)))) (2^(min (Int.toNat (16:Int)) (IntKind.u64.bits))))≥(256:Int)))
        (.need (decide ((0:Int)≤(8:Int)))<|.need (fq .i64 (56:Int))<|.need (fU (IntKind.u8.wrap (Int.fdiv (Int.fdiv (Int.fdiv a (2^(min (Int.toNat (32:Int)) (IntKind.u64.bits)))) (2^(min (Int.toNat (16:Int)) (IntKind.u64.bits)))) (2^(min (Int.toNat (8:Int)) (IntKind.u64.bits))))) (ByteArray.mk #[0,1,2,2,3,3,3,3,4,4,4,4,4,4,4,4,5,5,5,5,5,5,5,5,5,5,5,5,5,5,5,5,6,6,6,6,6,6,6,6,6,6,6,6,6,6,6,6,6,6,6,6,6,6,6,6,6,6,6,6,6,6,6,6,7,7,7,7,7,7,7,7,7,7,7,7,7,7,7,7,7,7,7,7,7,7,7,7,7,7,7,7,7,7,7,7,7,7,7,7,7,7,7,7,7,7,7,7,7,7,7,7,7,7,7,7,7,7,7,7,7,7,7,7,7,7,7,7,8,8,8,8,8,8,8,8,8,8,8,8,8,8,8,8,8,8,8,8,8,8,8,8,8,8,8,8,8,8,8,8,8,8,8,8,8,8,8,8,8,8,8,8,8,8,8,8,8,8,8,8,8,8,8,8,8,8,8,8,8,8,8,8,8,8,8,8,8,8,8,8,8,8,8,8,8,8,8,8,8,8,8,8,8,8,8,8,8,8,8,8,8,8,8,8,8,8,8,8,8,8,8,8,8,8,8,8,8,8,8,8,8,8,8,8,8,8,8,8,8,8,8,8,8,8,8,8]).size)<|.need (fq .i64 ((56:Int)+(IntKind.i64.wrap (qN (ByteArray.mk #[0,1,2,2,3,3,3,3,4,4,4,4,4,4,4,4,5,5,5,5,5,5,5,5,5,5,5,5,5,5,5,5,6,6,6,6,6,6,6,6,6,6,6,6,6,6,6,6,6,6,6,6,6,6,6,6,6,6,6,6,6,6,6,6,7,7,7,7,7,7,7,7,7,7,7,7,7,7,7,7,7,7,7,7,7,7,7,7,7,7,7,7,7,7,7,7,7,7,7,7,7,7,7,7,7,7,7,7,7,7,7,7,7,7,7,7,7,7,7,7,7,7,7,7,7,7,7,7,8,8,8,8,8,8,8,8,8,8,8,8,8,8,8,8,8,8,8,8,8,8,8,8,8,8,8,8,8,8,8,8,8,8,8,8,8,8,8,8,8,8,8,8,8,8,8,8,8,8,8,8,8,8,8,8,8,8,8,8,8,8,8,8,8,8,8,8,8,8,8,8,8,8,8,8,8,8,8,8,8,8,8,8,8,8,8,8,8,8,8,8,8,8,8,8,8,8,8,8,8,8,8,8,8,8,8,8,8,8,8,8,8,8,8,8,8,8,8,8,8,8,8,8,8,8,8,8]) (Int.toNat (IntKind.u8.wrap (Int.fdiv (Int.fdiv (Int.fdiv a (2^(min (Int.toNat (32:Int)) (IntKind.u64.bits)))) (2^(min (Int.toNat (16:Int)) (IntKind.u64.bits)))) (2^(min (Int.toNat (8:Int)) (IntKind.u64.bits))))))))))<|.leaf (.inl ((56:Int)+(IntKind.i64.wrap (qN (ByteArray.mk #[0,1,2,2,3,3,3,3,4,4,4,4,4,4,4,4,5,5,5,5,5,5,5,5,5,5,5,5,5,5,5,5,6,6,6,6,6,6,6,6,6,6,6,6,6,6,6,6,6,6,6,6,6,6,6,6,6,6,6,6,6,6,6,6,7,7,7,7,7,7,7,7,7,7,7,7,7,7,7,7,7,7,7,7,7,7,7,7,7,7,7,7,7,7,7,7,7,7,7,7,7,7,7,7,7,7,7,7,7,7,7,7,7,7,7,7,7,7,7,7,7,7,7,7,7,7,7,7,8,8,8,8,8,8,8,8,8,8,8,8,8,8,8,8,8,8,8,8,8,8,8,8,8,8,8,8,8,8,8,8,8,8,8,8,8,8,8,8,8,8,8,8,8,8,8,8,8,8,8,8,8,8,8,8,8,8,8,8,8,8,8,8,8,8,8,8,8,8,8,8,8,8,8,8,8,8,8,8,8,8,8,8,8,8,8,8,8,8,8,8,8,8,8,8,8,8,8,8,8,8,8,8,8,8,8,8,8,8,8,8,8,8,8,8,8,8,8,8,8,8,8,8,8,8,8,8]) (Int.toNat (IntKind.u8.wrap (Int.fdiv (Int.fdiv (Int.fdiv a (2^(min (Int.toNat (32:Int)) (IntKind.u64.bits)))) (2^(min (Int.toNat (16:Int)) (IntKind.u64.bits)))) (2^(min (Int.toNat (8:Int)) (IntKind.u64.bits)))))))))))
        (.need (fU (IntKind.u8.wrap (Int.fdiv (Int.fdiv a (2^(min (Int.toNat (32:Int)) (IntKind.u64.bits)))) (2^(min (Int.toNat (16:Int)) (IntKind.u64.bits))))) (ByteArray.mk #[0,1,2,2,3,3,3,3,4,4,4,4,4,4,4,4,5,5,5,5,5,5,5,5,5,5,5,5,5,5,5,5,6,6,6,6,6,6,6,6,6,6,6,6,6,6,6,6,6,6,6,6,6,6,6,6,6,6,6,6,6,6,6,6,7,7,7,7,7,7,7,7,7,7,7,7,7,7,7,7,7,7,7,7,7,7,7,7,7,7,7,7,7,7,7,7,7,7,7,7,7,7,7,7,7,7,7,7,7,7,7,7,7,7,7,7,7,7,7,7,7,7,7,7,7,7,7,7,8,8,8,8,8,8,8,8,8,8,8,8,8,8,8,8,8,8,8,8,8,8,8,8,8,8,8,8,8,8,8,8,8,8,8,8,8,8,8,8,8,8,8,8,8,8,8,8,8,8,8,8,8,8,8,8,8,8,8,8,8,8,8,8,8,8,8,8,8,8,8,8,8,8,8,8,8,8,8,8,8,8,8,8,8,8,8,8,8,8,8,8,8,8,8,8,8,8,8,8,8,8,8,8,8,8,8,8,8,8,8,8,8,8,8,8,8,8,8,8,8,8,8,8,8,8,8,8]).size)<|.need (fq .i64 ((48:Int)+(IntKind.i64.wrap (qN (ByteArray.mk #[0,1,2,2,3,3,3,3,4,4,4,4,4,4,4,4,5,5,5,5,5,5,5,5,5,5,5,5,5,5,5,5,6,6,6,6,6,6,6,6,6,6,6,6,6,6,6,6,6,6,6,6,6,6,6,6,6,6,6,6,6,6,6,6,7,7,7,7,7,7,7,7,7,7,7,7,7,7,7,7,7,7,7,7,7,7,7,7,7,7,7,7,7,7,7,7,7,7,7,7,7,7,7,7,7,7,7,7,7,7,7,7,7,7,7,7,7,7,7,7,7,7,7,7,7,7,7,7,8,8,8,8,8,8,8,8,8,8,8,8,8,8,8,8,8,8,8,8,8,8,8,8,8,8,8,8,8,8,8,8,8,8,8,8,8,8,8,8,8,8,8,8,8,8,8,8,8,8,8,8,8,8,8,8,8,8,8,8,8,8,8,8,8,8,8,8,8,8,8,8,8,8,8,8,8,8,8,8,8,8,8,8,8,8,8,8,8,8,8,8,8,8,8,8,8,8,8,8,8,8,8,8,8,8,8,8,8,8,8,8,8,8,8,8,8,8,8,8,8,8,8,8,8,8,8,8]) (Int.toNat (IntKind.u8.wrap (Int.fdiv (Int.fdiv a (2^(min (Int.toNat (32:Int)) (IntKind.u64.bits)))) (2^(min (Int.toNat (16:Int)) (IntKind.u64.bits))))))))))<|.leaf (.inl ((48:Int)+(IntKind.i64.wrap (qN (ByteArray.mk #[0,1,2,2,3,3,3,3,4,4,4,4,4,4,4,4,5,5,5,5,5,5,5,5,5,5,5,5,5,5,5,5,6,6,6,6,6,6,6,6,6,6,6,6,6,6,6,6,6,6,6,6,6,6,6,6,6,6,6,6,6,6,6,6,7,7,7,7,7,7,7,7,7,7,7,7,7,7,7,7,7,7,7,7,7,7,7,7,7,7,7,7,7,7,7,7,7,7,7,7,7,7,7,7,7,7,7,7,7,7,7,7,7,7,7,7,7,7,7,7,7,7,7,7,7,7,7,7,8,8,8,8,8,8,8,8,8,8,8,8,8,8,8,8,8,8,8,8,8,8,8,8,8,8,8,8,8,8,8,8,8,8,8,8,8,8,8,8,8,8,8,8,8,8,8,8,8,8,8,8,8,8,8,8,8,8,8,8,8,8,8,8,8,8,8,8,8,8,8,8,8,8,8,8,8,8,8,8,8,8,8,8,8,8,8,8,8,8,8,8,8,8,8,8,8,8,8,8,8,8,8,8,8,8,8,8,8,8,8,8,8,8,8,8,8,8,8,8,8,8,8,8,8,8,8,8]) (Int.toNat (IntKind.u8.wrap (Int.fdiv (Int.fdiv a (2^(min (Int.toNat (32:Int)) (IntKind.u64.bits)))) (2^(min (Int.toNat (16:Int)) (IntKind.u64.bits))))))))))))
      (.ask (decide ((Int.fdiv a (2^(min (Int.toNat (32:Int)) (IntKind.u64.bits))))≥(256:Int)))
        (.need (decide ((0:Int)≤(8:Int)))<|.need (fq .i64 (40:Int))<|.need (fU (IntKind.u8.wrap (Int.fdiv (Int.fdiv a (2^(min (Int.toNat (32:Int)) (IntKind.u64.bits)))) (2^(min (Int.toNat (8:Int)) (IntKind.u64.bits))))) (ByteArray.mk #[0,1,2,2,3,3,3,3,4,4,4,4,4,4,4,4,5,5,5,5,5,5,5,5,5,5,5,5,5,5,5,5,6,6,6,6,6,6,6,6,6,6,6,6,6,6,6,6,6,6,6,6,6,6,6,6,6,6,6,6,6,6,6,6,7,7,7,7,7,7,7,7,7,7,7,7,7,7,7,7,7,7,7,7,7,7,7,7,7,7,7,7,7,7,7,7,7,7,7,7,7,7,7,7,7,7,7,7,7,7,7,7,7,7,7,7,7,7,7,7,7,7,7,7,7,7,7,7,8,8,8,8,8,8,8,8,8,8,8,8,8,8,8,8,8,8,8,8,8,8,8,8,8,8,8,8,8,8,8,8,8,8,8,8,8,8,8,8,8,8,8,8,8,8,8,8,8,8,8,8,8,8,8,8,8,8,8,8,8,8,8,8,8,8,8,8,8,8,8,8,8,8,8,8,8,8,8,8,8,8,8,8,8,8,8,8,8,8,8,8,8,8,8,8,8,8,8,8,8,8,8,8,8,8,8,8,8,8,8,8,8,8,8,8,8,8,8,8,8,8,8,8,8,8,8,8]).size)<|.need (fq .i64 ((40:Int)+(IntKind.i64.wrap (qN (ByteArray.mk #[0,1,2,2,3,3,3,3,4,4,4,4,4,4,4,4,5,5,5,5,5,5,5,5,5,5,5,5,5,5,5,5,6,6,6,6,6,6,6,6,6,6,6,6,6,6,6,6,6,6,6,6,6,6,6,6,6,6,6,6,6,6,6,6,7,7,7,7,7,7,7,7,7,7,7,7,7,7,7,7,7,7,7,7,7,7,7,7,7,7,7,7,7,7,7,7,7,7,7,7,7,7,7,7,7,7,7,7,7,7,7,7,7,7,7,7,7,7,7,7,7,7,7,7,7,7,7,7,8,8,8,8,8,8,8,8,8,8,8,8,8,8,8,8,8,8,8,8,8,8,8,8,8,8,8,8,8,8,8,8,8,8,8,8,8,8,8,8,8,8,8,8,8,8,8,8,8,8,8,8,8,8,8,8,8,8,8,8,8,8,8,8,8,8,8,8,8,8,8,8,8,8,8,8,8,8,8,8,8,8,8,8,8,8,8,8,8,8,8,8,8,8,8,8,8,8,8,8,8,8,8,8,8,8,8,8,8,8,8,8,8,8,8,8,8,8,8,8,8,8,8,8,8,8,8,8]) (Int.toNat (IntKind.u8.wrap (Int.fdiv (Int.fdiv a (2^(min (Int.toNat (32:Int)) (IntKind.u64.bits)))) (2^(min (Int.toNat (8:Int)) (IntKind.u64.bits))))))))))<|.leaf (.inl ((40:Int)+(IntKind.i64.wrap (qN (ByteArray.mk #[0,1,2,2,3,3,3,3,4,4,4,4,4,4,4,4,5,5,5,5,5,5,5,5,5,5,5,5,5,5,5,5,6,6,6,6,6,6,6,6,6,6,6,6,6,6,6,6,6,6,6,6,6,6,6,6,6,6,6,6,6,6,6,6,7,7,7,7,7,7,7,7,7,7,7,7,7,7,7,7,7,7,7,7,7,7,7,7,7,7,7,7,7,7,7,7,7,7,7,7,7,7,7,7,7,7,7,7,7,7,7,7,7,7,7,7,7,7,7,7,7,7,7,7,7,7,7,7,8,8,8,8,8,8,8,8,8,8,8,8,8,8,8,8,8,8,8,8,8,8,8,8,8,8,8,8,8,8,8,8,8,8,8,8,8,8,8,8,8,8,8,8,8,8,8,8,8,8,8,8,8,8,8,8,8,8,8,8,8,8,8,8,8,8,8,8,8,8,8,8,8,8,8,8,8,8,8,8,8,8,8,8,8,8,8,8,8,8,8,8,8,8,8,8,8,8,8,8,8,8,8,8,8,8,8,8,8,8,8,8,8,8,8,8,8,8,8,8,8,8,8,8,8,8,8,8]) (Int.toNat (IntKind.u8.wrap (Int.fdiv (Int.fdiv a (2^(min (Int.toNat (32:Int)) (IntKind.u64.bits)))) (2^(min (Int.toNat (8:Int)) (IntKind.u64.bits)))))))))))
        (.need (fU (IntKind.u8.wrap (Int.fdiv a (2^(min (Int.toNat (32:Int)) (IntKind.u64.bits))))) (ByteArray.mk #[0,1,2,2,3,3,3,3,4,4,4,4,4,4,4,4,5,5,5,5,5,5,5,5,5,5,5,5,5,5,5,5,6,6,6,6,6,6,6,6,6,6,6,6,6,6,6,6,6,6,6,6,6,6,6,6,6,6,6,6,6,6,6,6,7,7,7,7,7,7,7,7,7,7,7,7,7,7,7,7,7,7,7,7,7,7,7,7,7,7,7,7,7,7,7,7,7,7,7,7,7,7,7,7,7,7,7,7,7,7,7,7,7,7,7,7,7,7,7,7,7,7,7,7,7,7,7,7,8,8,8,8,8,8,8,8,8,8,8,8,8,8,8,8,8,8,8,8,8,8,8,8,8,8,8,8,8,8,8,8,8,8,8,8,8,8,8,8,8,8,8,8,8,8,8,8,8,8,8,8,8,8,8,8,8,8,8,8,8,8,8,8,8,8,8,8,8,8,8,8,8,8,8,8,8,8,8,8,8,8,8,8,8,8,8,8,8,8,8,8,8,8,8,8,8,8,8,8,8,8,8,8,8,8,8,8,8,8,8,8,8,8,8,8,8,8,8,8,8,8,8,8,8,8,8,8]).size)<|.need (fq .i64 ((32:Int)+(IntKind.i64.wrap (qN (ByteArray.mk #[0,1,2,2,3,3,3,3,4,4,4,4,4,4,4,4,5,5,5,5,5,5,5,5,5,5,5,5,5,5,5,5,6,6,6,6,6,6,6,6,6,6,6,6,6,6,6,6,6,6,6,6,6,6,6,6,6,6,6,6,6,6,6,6,7,7,7,7,7,7,7,7,7,7,7,7,7,7,7,7,7,7,7,7,7,7,7,7,7,7,7,7,7,7,7,7,7,7,7,7,7,7,7,7,7,7,7,7,7,7,7,7,7,7,7,7,7,7,7,7,7,7,7,7,7,7,7,7,8,8,8,8,8,8,8,8,8,8,8,8,8,8,8,8,8,8,8,8,8,8,8,8,8,8,8,8,8,8,8,8,8,8,8,8,8,8,8,8,8,8,8,8,8,8,8,8,8,8,8,8,8,8,8,8,8,8,8,8,8,8,8,8,8,8,8,8,8,8,8,8,8,8,8,8,8,8,8,8,8,8,8,8,8,8,8,8,8,8,8,8,8,8,8,8,8,8,8,8,8,8,8,8,8,8,8,8,8,8,8,8,8,8,8,8,8,8,8,8,8,8,8,8,8,8,8,8]) (Int.toNat (IntKind.u8.wrap (Int.fdiv a (2^(min (Int.toNat (32:Int)) (IntKind.u64.bits))))))))))<|.leaf (.inl ((32:Int)+(IntKind.i64.wrap (qN (ByteArray.mk #[0,1,2,2,3,3,3,3,4,4,4,4,4,4,4,4,5,5,5,5,5,5,5,5,5,5,5,5,5,5,5,5,6,6,6,6,6,6,6,6,6,6,6,6,6,6,6,6,6,6,6,6,6,6,6,6,6,6,6,6,6,6,6,6,7,7,7,7,7,7,7,7,7,7,7,7,7,7,7,7,7,7,7,7,7,7,7,7,7,7,7,7,7,7,7,7,7,7,7,7,7,7,7,7,7,7,7,7,7,7,7,7,7,7,7,7,7,7,7,7,7,7,7,7,7,7,7,7,8,8,8,8,8,8,8,8,8,8,8,8,8,8,8,8,8,8,8,8,8,8,8,8,8,8,8,8,8,8,8,8,8,8,8,8,8,8,8,8,8,8,8,8,8,8,8,8,8,8,8,8,8,8,8,8,8,8,8,8,8,8,8,8,8,8,8,8,8,8,8,8,8,8,8,8,8,8,8,8,8,8,8,8,8,8,8,8,8,8,8,8,8,8,8,8,8,8,8,8,8,8,8,8,8,8,8,8,8,8,8,8,8,8,8,8,8,8,8,8,8,8,8,8,8,8,8,8]) (Int.toNat (IntKind.u8.wrap (Int.fdiv a (2^(min (Int.toNat (32:Int)) (IntKind.u64.bits)))))))))))))
    (.ask (decide (a≥(65536:Int)))
      (.need (decide ((0:Int)≤(16:Int)))<|.need (fq .i64 (16:Int))<|.ask (decide ((Int.fdiv a (2^(min (Int.toNat (16:Int)) (IntKind.u64.bits))))≥(256:Int)))
        (.need (decide ((0:Int)≤(8:Int)))<|.need (fq .i64 (24:Int))<|.need (fU (IntKind.u8.wrap (Int.fdiv (Int.fdiv a (2^(min (Int.toNat (16:Int)) (IntKind.u64.bits)))) (2^(min (Int.toNat (8:Int)) (IntKind.u64.bits))))) (ByteArray.mk #[0,1,2,2,3,3,3,3,4,4,4,4,4,4,4,4,5,5,5,5,5,5,5,5,5,5,5,5,5,5,5,5,6,6,6,6,6,6,6,6,6,6,6,6,6,6,6,6,6,6,6,6,6,6,6,6,6,6,6,6,6,6,6,6,7,7,7,7,7,7,7,7,7,7,7,7,7,7,7,7,7,7,7,7,7,7,7,7,7,7,7,7,7,7,7,7,7,7,7,7,7,7,7,7,7,7,7,7,7,7,7,7,7,7,7,7,7,7,7,7,7,7,7,7,7,7,7,7,8,8,8,8,8,8,8,8,8,8,8,8,8,8,8,8,8,8,8,8,8,8,8,8,8,8,8,8,8,8,8,8,8,8,8,8,8,8,8,8,8,8,8,8,8,8,8,8,8,8,8,8,8,8,8,8,8,8,8,8,8,8,8,8,8,8,8,8,8,8,8,8,8,8,8,8,8,8,8,8,8,8,8,8,8,8,8,8,8,8,8,8,8,8,8,8,8,8,8,8,8,8,8,8,8,8,8,8,8,8,8,8,8,8,8,8,8,8,8,8,8,8,8,8,8,8,8,8]).size)<|.need (fq .i64 ((24:Int)+(IntKind.i64.wrap (qN (ByteArray.mk #[0,1,2,2,3,3,3,3,4,4,4,4,4,4,4,4,5,5,5,5,5,5,5,5,5,5,5,5,5,5,5,5,6,6,6,6,6,6,6,6,6,6,6,6,6,6,6,6,6,6,6,6,6,6,6,6,6,6,6,6,6,6,6,6,7,7,7,7,7,7,7,7,7,7,7,7,7,7,7,7,7,7,7,7,7,7,7,7,7,7,7,7,7,7,7,7,7,7,7,7,7,7,7,7,7,7,7,7,7,7,7,7,7,7,7,7,7,7,7,7,7,7,7,7,7,7,7,7,8,8,8,8,8,8,8,8,8,8,8,8,8,8,8,8,8,8,8,8,8,8,8,8,8,8,8,8,8,8,8,8,8,8,8,8,8,8,8,8,8,8,8,8,8,8,8,8,8,8,8,8,8,8,8,8,8,8,8,8,8,8,8,8,8,8,8,8,8,8,8,8,8,8,8,8,8,8,8,8,8,8,8,8,8,8,8,8,8,8,8,8,8,8,8,8,8,8,8,8,8,8,8,8,8,8,8,8,8,8,8,8,8,8,8,8,8,8,8,8,8,8,8,8,8,8,8,8]) (Int.toNat (IntKind.u8.wrap (Int.fdiv (Int.fdiv a (2^(min (Int.toNat (16:Int)) (IntKind.u64.bits)))) (2^(min (Int.toNat (8:Int)) (IntKind.u64.bits))))))))))<|.leaf (.inl ((24:Int)+(IntKind.i64.wrap (qN (ByteArray.mk #[0,1,2,2,3,3,3,3,4,4,4,4,4,4,4,4,5,5,5,5,5,5,5,5,5,5,5,5,5,5,5,5,6,6,6,6,6,6,6,6,6,6,6,6,6,6,6,6,6,6,6,6,6,6,6,6,6,6,6,6,6,6,6,6,7,7,7,7,7,7,7,7,7,7,7,7,7,7,7,7,7,7,7,7,7,7,7,7,7,7,7,7,7,7,7,7,7,7,7,7,7,7,7,7,7,7,7,7,7,7,7,7,7,7,7,7,7,7,7,7,7,7,7,7,7,7,7,7,8,8,8,8,8,8,8,8,8,8,8,8,8,8,8,8,8,8,8,8,8,8,8,8,8,8,8,8,8,8,8,8,8,8,8,8,8,8,8,8,8,8,8,8,8,8,8,8,8,8,8,8,8,8,8,8,8,8,8,8,8,8,8,8,8,8,8,8,8,8,8,8,8,8,8,8,8,8,8,8,8,8,8,8,8,8,8,8,8,8,8,8,8,8,8,8,8,8,8,8,8,8,8,8,8,8,8,8,8,8,8,8,8,8,8,8,8,8,8,8,8,8,8,8,8,8,8,8]) (Int.toNat (IntKind.u8.wrap (Int.fdiv (Int.fdiv a (2^(min (Int.toNat (16:Int)) (IntKind.u64.bits)))) (2^(min (Int.toNat (8:Int)) (IntKind.u64.bits)))))))))))
        (.need (fU (IntKind.u8.wrap (Int.fdiv a (2^(min (Int.toNat (16:Int)) (IntKind.u64.bits))))) (ByteArray.mk #[0,1,2,2,3,3,3,3,4,4,4,4,4,4,4,4,5,5,5,5,5,5,5,5,5,5,5,5,5,5,5,5,6,6,6,6,6,6,6,6,6,6,6,6,6,6,6,6,6,6,6,6,6,6,6,6,6,6,6,6,6,6,6,6,7,7,7,7,7,7,7,7,7,7,7,7,7,7,7,7,7,7,7,7,7,7,7,7,7,7,7,7,7,7,7,7,7,7,7,7,7,7,7,7,7,7,7,7,7,7,7,7,7,7,7,7,7,7,7,7,7,7,7,7,7,7,7,7,8,8,8,8,8,8,8,8,8,8,8,8,8,8,8,8,8,8,8,8,8,8,8,8,8,8,8,8,8,8,8,8,8,8,8,8,8,8,8,8,8,8,8,8,8,8,8,8,8,8,8,8,8,8,8,8,8,8,8,8,8,8,8,8,8,8,8,8,8,8,8,8,8,8,8,8,8,8,8,8,8,8,8,8,8,8,8,8,8,8,8,8,8,8,8,8,8,8,8,8,8,8,8,8,8,8,8,8,8,8,8,8,8,8,8,8,8,8,8,8,8,8,8,8,8,8,8,8]).size)<|.need (fq .i64 ((16:Int)+(IntKind.i64.wrap (qN (ByteArray.mk #[0,1,2,2,3,3,3,3,4,4,4,4,4,4,4,4,5,5,5,5,5,5,5,5,5,5,5,5,5,5,5,5,6,6,6,6,6,6,6,6,6,6,6,6,6,6,6,6,6,6,6,6,6,6,6,6,6,6,6,6,6,6,6,6,7,7,7,7,7,7,7,7,7,7,7,7,7,7,7,7,7,7,7,7,7,7,7,7,7,7,7,7,7,7,7,7,7,7,7,7,7,7,7,7,7,7,7,7,7,7,7,7,7,7,7,7,7,7,7,7,7,7,7,7,7,7,7,7,8,8,8,8,8,8,8,8,8,8,8,8,8,8,8,8,8,8,8,8,8,8,8,8,8,8,8,8,8,8,8,8,8,8,8,8,8,8,8,8,8,8,8,8,8,8,8,8,8,8,8,8,8,8,8,8,8,8,8,8,8,8,8,8,8,8,8,8,8,8,8,8,8,8,8,8,8,8,8,8,8,8,8,8,8,8,8,8,8,8,8,8,8,8,8,8,8,8,8,8,8,8,8,8,8,8,8,8,8,8,8,8,8,8,8,8,8,8,8,8,8,8,8,8,8,8,8,8]) (Int.toNat (IntKind.u8.wrap (Int.fdiv a (2^(min (Int.toNat (16:Int)) (IntKind.u64.bits))))))))))<|.leaf (.inl ((16:Int)+(IntKind.i64.wrap (qN (ByteArray.mk #[0,1,2,2,3,3,3,3,4,4,4,4,4,4,4,4,5,5,5,5,5,5,5,5,5,5,5,5,5,5,5,5,6,6,6,6,6,6,6,6,6,6,6,6,6,6,6,6,6,6,6,6,6,6,6,6,6,6,6,6,6,6,6,6,7,7,7,7,7,7,7,7,7,7,7,7,7,7,7,7,7,7,7,7,7,7,7,7,7,7,7,7,7,7,7,7,7,7,7,7,7,7,7,7,7,7,7,7,7,7,7,7,7,7,7,7,7,7,7,7,7,7,7,7,7,7,7,7,8,8,8,8,8,8,8,8,8,8,8,8,8,8,8,8,8,8,8,8,8,8,8,8,8,8,8,8,8,8,8,8,8,8,8,8,8,8,8,8,8,8,8,8,8,8,8,8,8,8,8,8,8,8,8,8,8,8,8,8,8,8,8,8,8,8,8,8,8,8,8,8,8,8,8,8,8,8,8,8,8,8,8,8,8,8,8,8,8,8,8,8,8,8,8,8,8,8,8,8,8,8,8,8,8,8,8,8,8,8,8,8,8,8,8,8,8,8,8,8,8,8,8,8,8,8,8,8]) (Int.toNat (IntKind.u8.wrap (Int.fdiv a (2^(min (Int.toNat (16:Int)) (IntKind.u64.bits))))))))))))
      (.ask (decide (a≥(256:Int)))
        (.need (decide ((0:Int)≤(8:Int)))<|.need (fq .i64 (8:Int))<|.need (fU (IntKind.u8.wrap (Int.fdiv a (2^(min (Int.toNat (8:Int)) (IntKind.u64.bits))))) (ByteArray.mk #[0,1,2,2,3,3,3,3,4,4,4,4,4,4,4,4,5,5,5,5,5,5,5,5,5,5,5,5,5,5,5,5,6,6,6,6,6,6,6,6,6,6,6,6,6,6,6,6,6,6,6,6,6,6,6,6,6,6,6,6,6,6,6,6,7,7,7,7,7,7,7,7,7,7,7,7,7,7,7,7,7,7,7,7,7,7,7,7,7,7,7,7,7,7,7,7,7,7,7,7,7,7,7,7,7,7,7,7,7,7,7,7,7,7,7,7,7,7,7,7,7,7,7,7,7,7,7,7,8,8,8,8,8,8,8,8,8,8,8,8,8,8,8,8,8,8,8,8,8,8,8,8,8,8,8,8,8,8,8,8,8,8,8,8,8,8,8,8,8,8,8,8,8,8,8,8,8,8,8,8,8,8,8,8,8,8,8,8,8,8,8,8,8,8,8,8,8,8,8,8,8,8,8,8,8,8,8,8,8,8,8,8,8,8,8,8,8,8,8,8,8,8,8,8,8,8,8,8,8,8,8,8,8,8,8,8,8,8,8,8,8,8,8,8,8,8,8,8,8,8,8,8,8,8,8,8]).size)<|.need (fq .i64 ((8:Int)+(IntKind.i64.wrap (qN (ByteArray.mk #[0,1,2,2,3,3,3,3,4,4,4,4,4,4,4,4,5,5,5,5,5,5,5,5,5,5,5,5,5,5,5,5,6,6,6,6,6,6,6,6,6,6,6,6,6,6,6,6,6,6,6,6,6,6,6,6,6,6,6,6,6,6,6,6,7,7,7,7,7,7,7,7,7,7,7,7,7,7,7,7,7,7,7,7,7,7,7,7,7,7,7,7,7,7,7,7,7,7,7,7,7,7,7,7,7,7,7,7,7,7,7,7,7,7,7,7,7,7,7,7,7,7,7,7,7,7,7,7,8,8,8,8,8,8,8,8,8,8,8,8,8,8,8,8,8,8,8,8,8,8,8,8,8,8,8,8,8,8,8,8,8,8,8,8,8,8,8,8,8,8,8,8,8,8,8,8,8,8,8,8,8,8,8,8,8,8,8,8,8,8,8,8,8,8,8,8,8,8,8,8,8,8,8,8,8,8,8,8,8,8,8,8,8,8,8,8,8,8,8,8,8,8,8,8,8,8,8,8,8,8,8,8,8,8,8,8,8,8,8,8,8,8,8,8,8,8,8,8,8,8,8,8,8,8,8,8]) (Int.toNat (IntKind.u8.wrap (Int.fdiv a (2^(min (Int.toNat (8:Int)) (IntKind.u64.bits))))))))))<|.leaf (.inl ((8:Int)+(IntKind.i64.wrap (qN (ByteArray.mk #[0,1,2,2,3,3,3,3,4,4,4,4,4,4,4,4,5,5,5,5,5,5,5,5,5,5,5,5,5,5,5,5,6,6,6,6,6,6,6,6,6,6,6,6,6,6,6,6,6,6,6,6,6,6,6,6,6,6,6,6,6,6,6,6,7,7,7,7,7,7,7,7,7,7,7,7,7,7,7,7,7,7,7,7,7,7,7,7,7,7,7,7,7,7,7,7,7,7,7,7,7,7,7,7,7,7,7,7,7,7,7,7,7,7,7,7,7,7,7,7,7,7,7,7,7,7,7,7,8,8,8,8,8,8,8,8,8,8,8,8,8,8,8,8,8,8,8,8,8,8,8,8,8,8,8,8,8,8,8,8,8,8,8,8,8,8,8,8,8,8,8,8,8,8,8,8,8,8,8,8,8,8,8,8,8,8,8,8,8,8,8,8,8,8,8,8,8,8,8,8,8,8,8,8,8,8,8,8,8,8,8,8,8,8,8,8,8,8,8,8,8,8,8,8,8,8,8,8,8,8,8,8,8,8,8,8,8,8,8,8,8,8,8,8,8,8,8,8,8,8,8,8,8,8,8,8]) (Int.toNat (IntKind.u8.wrap (Int.fdiv a (2^(min (Int.toNat (8:Int)) (IntKind.u64.bits)))))))))))
        (.need (fU (IntKind.u8.wrap a) (ByteArray.mk #[0,1,2,2,3,3,3,3,4,4,4,4,4,4,4,4,5,5,5,5,5,5,5,5,5,5,5,5,5,5,5,5,6,6,6,6,6,6,6,6,6,6,6,6,6,6,6,6,6,6,6,6,6,6,6,6,6,6,6,6,6,6,6,6,7,7,7,7,7,7,7,7,7,7,7,7,7,7,7,7,7,7,7,7,7,7,7,7,7,7,7,7,7,7,7,7,7,7,7,7,7,7,7,7,7,7,7,7,7,7,7,7,7,7,7,7,7,7,7,7,7,7,7,7,7,7,7,7,8,8,8,8,8,8,8,8,8,8,8,8,8,8,8,8,8,8,8,8,8,8,8,8,8,8,8,8,8,8,8,8,8,8,8,8,8,8,8,8,8,8,8,8,8,8,8,8,8,8,8,8,8,8,8,8,8,8,8,8,8,8,8,8,8,8,8,8,8,8,8,8,8,8,8,8,8,8,8,8,8,8,8,8,8,8,8,8,8,8,8,8,8,8,8,8,8,8,8,8,8,8,8,8,8,8,8,8,8,8,8,8,8,8,8,8,8,8,8,8,8,8,8,8,8,8,8,8]).size)<|.need (fq .i64 ((0:Int)+(IntKind.i64.wrap (qN (ByteArray.mk #[0,1,2,2,3,3,3,3,4,4,4,4,4,4,4,4,5,5,5,5,5,5,5,5,5,5,5,5,5,5,5,5,6,6,6,6,6,6,6,6,6,6,6,6,6,6,6,6,6,6,6,6,6,6,6,6,6,6,6,6,6,6,6,6,7,7,7,7,7,7,7,7,7,7,7,7,7,7,7,7,7,7,7,7,7,7,7,7,7,7,7,7,7,7,7,7,7,7,7,7,7,7,7,7,7,7,7,7,7,7,7,7,7,7,7,7,7,7,7,7,7,7,7,7,7,7,7,7,8,8,8,8,8,8,8,8,8,8,8,8,8,8,8,8,8,8,8,8,8,8,8,8,8,8,8,8,8,8,8,8,8,8,8,8,8,8,8,8,8,8,8,8,8,8,8,8,8,8,8,8,8,8,8,8,8,8,8,8,8,8,8,8,8,8,8,8,8,8,8,8,8,8,8,8,8,8,8,8,8,8,8,8,8,8,8,8,8,8,8,8,8,8,8,8,8,8,8,8,8,8,8,8,8,8,8,8,8,8,8,8,8,8,8,8,8,8,8,8,8,8,8,8,8,8,8,8]) (Int.toNat (IntKind.u8.wrap a))))))<|.leaf (.inl ((0:Int)+(IntKind.i64.wrap (qN (ByteArray.mk #[0,1,2,2,3,3,3,3,4,4,4,4,4,4,4,4,5,5,5,5,5,5,5,5,5,5,5,5,5,5,5,5,6,6,6,6,6,6,6,6,6,6,6,6,6,6,6,6,6,6,6,6,6,6,6,6,6,6,6,6,6,6,6,6,7,7,7,7,7,7,7,7,7,7,7,7,7,7,7,7,7,7,7,7,7,7,7,7,7,7,7,7,7,7,7,7,7,7,7,7,7,7,7,7,7,7,7,7,7,7,7,7,7,7,7,7,7,7,7,7,7,7,7,7,7,7,7,7,8,8,8,8,8,8,8,8,8,8,8,8,8,8,8,8,8,8,8,8,8,8,8,8,8,8,8,8,8,8,8,8,8,8,8,8,8,8,8,8,8,8,8,8,8,8,8,8,8,8,8,8,8,8,8,8,8,8,8,8,8,8,8,8,8,8,8,8,8,8,8,8,8,8,8,8,8,8,8,8,8,8,8,8,8,8,8,8,8,8,8,8,8,8,8,8,8,8,8,8,8,8,8,8,8,8,8,8,8,8,8,8,8,8,8,8,8,8,8,8,8,8,8,8,8,8,8,8]) (Int.toNat (IntKind.u8.wrap a)))))))))
def Ki(a:Int) :T ((Empty)⊕(jf)) :=
  .leaf (.inr (.r0 a))
def pQ(a:Int) :Option jf:=toX (bd ((Kh a).run) fun b =>
  (Ki b).run)
theorem Kj(a:Int){x:jf}(h:pQ a=some x) :aI prog En [] [.int .u64 a] (yX x) :=
  IB false yX Er h (Sg.cut 3 Kf (cy oo Kg [⟨[],[],[2]⟩,⟨[],[],[2]⟩,⟨[],[],[2]⟩,⟨[],[],[2]⟩,⟨[],[],[2]⟩,⟨[],[],[2]⟩,⟨[],[],[2]⟩,⟨[],[],[2]⟩]) (fun c=>cy oo G3 [⟨[],[],[2]⟩]))
    (fun x=>by cases x with | r0 b=>exact Fi [.int .i64 b])
def qD:Option jf→Bool
  | some _=>true
  | none=>false
def oq:Option jf→Int
  | some (.r0 x)=>x
  | _=>0
theorem Kk{x:Option jf}(h:qD x=true) :x=some (.r0 (oq x)):=by
  unfold qD at h
  split at h<;>first | rfl | (cases h;done) | (rename_i y;cases y;rfl)
def Es:bC:=mW En (.cons (.int .u64) .nil) fun t=>(fun q=>[⟨yX (.r0 (oq q)),[qD q]⟩]) (pQ t.1)
theorem IJ:cg prog Es:=ff fun t=>(fg (fun h=>Kj t.1 (Kk h)) gr)
def Et:List bC:=Es::vR
theorem vJ:cR prog (cX Et):=aZ IJ oo
inductive qV where
  | r0 (a:Bool)
def NL:qV→AE×aW
  | .r0 a=>(.ret,⟨aw 17 [(4,.bool false a)],[],0⟩)
theorem RT:ye NL:=by intro x;cases x<;>(intro h;cases h)
def IK:qV→rU
  | .r0 a=>⟨.bool false a,[]⟩
def RU(a:Bool) :aW:=⟨aw 17 [(4,.bool false a)],[],0⟩
def Lq(a:Int)(b:Int) :T ((Bool)⊕(qV)) :=
  .ask (a != a)
    (.ask (!(b != b))
      (.leaf (.inl true))
      (.leaf (.inl (decide (a<b)))))
    (.leaf (.inl (decide (a<b))))
def Lr(a:Bool) :T ((Empty)⊕(qV)) :=
  .leaf (.inr (.r0 a))
def xH(a:Int)(b:Int) :Option qV:=toX (bd ((Lq a b).run) fun c =>
  (Lr c).run)
theorem RV(a:Int)(b:Int){x:qV}(h:xH a b=some x) :aI prog Nm [] [.int .i64 a,.int .i64 b] (IK x) :=
  IB false IK NL h (Sg.cut 2 RT (cy vJ RU [⟨[],[],[4]⟩,⟨[],[],[4]⟩,⟨[],[],[4]⟩]) (fun d=>cy vJ G3 [⟨[],[],[4]⟩]))
    (fun x=>by cases x with | r0 c=>exact Fi [.bool false c])
def BC:Option qV→Bool
  | some _=>true
  | none=>false
def Ck:Option qV→Bool
  | some (.r0 x)=>x
  | _=>false
theorem RW{x:Option qV}(h:BC x=true) :x=some (.r0 (Ck x)):=by
  unfold BC at h
  split at h<;>first | rfl | (cases h;done) | (rename_i y;cases y;rfl)
def NM:bC:=mW Nm (.cons (.int .i64) (.cons (.int .i64) .nil)) fun t=>(fun q=>[⟨IK (.r0 (Ck q)),[BC q]⟩]) (xH t.1 t.2.1)
theorem Pa:cg prog NM:=ff fun t=>(fg (fun h=>RV t.1 t.2.1 (RW h)) gr)
def NO:List bC:=NM::Et
theorem kG:cR prog (cX NO):=aZ Pa vJ
inductive br where
inductive dn where
  | r0 (a:List Int)
def fV:br→AE×aW:=fun x=>nomatch x
theorem bG:ye fV:=by intro x;cases x<;>(intro h;cases h)
theorem kr(id:Nat) :rB id fV:=by intro x;cases x<;>(intro h;cases h)
def ld:dn→rU
  | .r0 a=>⟨.tup [],[some (.ns .i64 a)]⟩
def qh(a:(List Int)) :aW:=⟨aw 49 [],[(0,.ns .i64 a)],1⟩
def wY:List Code:=cS (ri iT)
def xI(a:List Int)(b:Nat)(c:Nat)(d:Nat)(e:Int)(f:Int)(g:Int) :aW:=⟨aw 49 [(0,.sl 0 1 1 b c d),(1,.int .i64 e),(2,.int .i64 f),(6,.int .i64 g)],[(0,.ns .i64 a)],1⟩
def qi(a:Int) :T ((Int)⊕(br)) :=
  .need (fq .i64 (a+(1:Int)))<|.leaf (.inl (a+(1:Int)))
def ic(a:Nat)(b:Nat)(c:Nat)(d:Int)(e:Int) :Int×(List Int)→aW:=fun (f,g)=>⟨aw 49 [(0,.sl 0 1 1 a b c),(1,.int .i64 d),(2,.int .i64 e),(6,.int .i64 f)],[(0,.ns .i64 g)],1⟩
def jN(a:(List Int)) :aW:=⟨aw 49 [],[(0,.ns .i64 a)],1⟩
def qj:List Code:=cS (dh ((((wY.drop 1).take 1)).headD .skip))
def wZ(a:Nat)(b:Nat)(c:Nat)(d:Int)(e:Int)(f:Int)(g:List Int)(_:Unit) :aW:=⟨aw 49 [(0,.sl 0 1 1 a b c),(1,.int .i64 d),(2,.int .i64 e),(6,.int .i64 f)],[(0,.ns .i64 g)],1⟩
def qk(a:Int)(b:Int)(c:List Int) :T ((Unit)⊕(((List Int))⊕(br))) :=
  .ask (decide (b<a))
    (.leaf (.inl ()))
    (.leaf (.inr (.inl c)))
def jO(a:Nat)(b:Nat)(c:Nat)(d:Int)(e:Int)(f:Int)(g:(List Int)) :aW:=⟨aw 49 [(0,.sl 0 1 1 a b c),(1,.int .i64 d),(2,.int .i64 e),(6,.int .i64 f)],[(0,.ns .i64 g)],1⟩
def w4:List Code:=cS (inBlock ((((qj.drop 2).take 1)).headD .skip))
def w5(b:Nat)(c:Nat)(d:Nat)(e:Int)(f:Int)(a:Int)(g:List Int)(_:Unit) :aW:=⟨aw 49 [(0,.sl 0 1 1 b c d),(1,.int .i64 e),(2,.int .i64 f),(6,.int .i64 a),(7,.int .i64 a)],[(0,.ns .i64 g)],1⟩
def ql:T ((Unit)⊕(((List Int))⊕(((List Int))⊕(br)))) :=
  .leaf (.inl ())
def ii(a:Nat)(b:Nat)(c:Nat)(d:Int)(e:Int)(f:Int) :Int×(List Int)→aW:=fun (g,h)=>⟨aw 49 [(0,.sl 0 1 1 a b c),(1,.int .i64 d),(2,.int .i64 e),(6,.int .i64 f),(7,.int .i64 g)],[(0,.ns .i64 h)],1⟩
def qm(a:Nat)(b:Nat)(c:Nat)(d:Int)(e:Int)(f:Int)(g:(List Int)) :aW:=⟨aw 49 [(0,.sl 0 1 1 a b c),(1,.int .i64 d),(2,.int .i64 e),(6,.int .i64 f)],[(0,.ns .i64 g)],1⟩
def w6:List Code:=cS (dh ((((w4.drop 1).take 1)).headD .skip))
def w7(a:Nat)(b:Nat)(c:Nat)(d:Int)(e:Int)(f:Int)(g:Int)(h:List Int)(i:Bool) :aW:=⟨aw 49 [(0,.sl 0 1 1 a b c),(1,.int .i64 d),(2,.int .i64 e),(6,.int .i64 f),(7,.int .i64 g),(30,.bool false i)],[(0,.ns .i64 h)],1⟩
def qn(b:Nat)(d:Nat)(e:Int)(a:Int)(c:List Int) :T ((Bool)⊕(((List Int))⊕(((List Int))⊕(((List Int))⊕(br))))) :=
  .ask (decide (a>e))
    (.need (fU a d)<|.need (fi (bV b (Int.toNat a)) (List.length c))<|.need (fq .i64 (a-(1:Int)))<|.need (fU (a-(1:Int)) d)<|.need (fi (bV b (Int.toNat (a-(1:Int)))) (List.length c))<|.need (BC (xH (List.getD c (bV b (Int.toNat a)) 0) (List.getD c (bV b (Int.toNat (a-(1:Int)))) 0)))<|.leaf (.inl (Ck (xH (List.getD c (bV b (Int.toNat a)) 0) (List.getD c (bV b (Int.toNat (a-(1:Int)))) 0)))))
    (.leaf (.inl false))
def qo(b:Nat)(d:Nat)(a:Int)(c:List Int)(e:Bool) :T ((Int×(List Int))⊕(((List Int))⊕(((List Int))⊕(((List Int))⊕(br))))) :=
  .ask e
    (.need (fq .i64 (a-(1:Int)))<|.need (fq .i64 (a-(1:Int)))<|.need (fU (a-(1:Int)) d)<|.need (fi (bV b (Int.toNat (a-(1:Int)))) (List.length c))<|.need (fU a d)<|.need (fi (bV b (Int.toNat a)) (List.length c))<|.need (fU a d)<|.need (fi (bV b (Int.toNat a)) (List.length c))<|.need (fU (a-(1:Int)) d)<|.need (fi (bV b (Int.toNat (a-(1:Int)))) (List.length (List.set c (bV b (Int.toNat a)) (List.getD c (bV b (Int.toNat (a-(1:Int)))) 0))))<|.need (fq .i64 (a-(1:Int)))<|.leaf (.inl ((a-(1:Int)),(List.set (List.set c (bV b (Int.toNat a)) (List.getD c (bV b (Int.toNat (a-(1:Int)))) 0)) (bV b (Int.toNat (a-(1:Int)))) (List.getD c (bV b (Int.toNat a)) 0)))))
    (.leaf (.inr (.inl c)))
def ij(a:Nat)(b:Nat)(e:Int) :Int×(List Int)→Option ((Int×(List Int))⊕(((List Int))⊕(((List Int))⊕(((List Int))⊕(br))))):=fun (c,d) =>
  bd ((qn a b e c d).run) fun f =>
  (qo a b c d f).run
theorem w8(i:List Int)(a:Nat)(b:Nat)(d:Nat)(c:Int)(e:Int)(f:Int)(g:Int)(h:List Int) :Sg prog [.ns .i64 i] w6 (ii a b d c e f (g,h)) (ij a b c (g,h)) (ii a b d c e f) (bW 2 (qm a b d c e f) (bW 1 (jO a b d c e f) (bW 0 jN fV))):=by
  unfold ij;exact Sg.cut 1 (ao (ao (ao bG))) (cy kG (w7 a b d c e f g h) [⟨[],[0],[0,1,2,6,7,30]⟩,⟨[],[0],[0,1,2,6,7,30]⟩]) (fun j=>cy kG (ii a b d c e f) [⟨[],[0],[0,1,2,6,7]⟩,⟨[],[0],[0,1,2,6]⟩])
def qp(a:List Int) :T (((List Int))⊕(((List Int))⊕(((List Int))⊕(br)))) :=
  .leaf (.inl a)
def qq(a:Int)(b:List Int) :T ((Int×(List Int))⊕(((List Int))⊕(br))) :=
  .need (fq .i64 (a+(1:Int)))<|.leaf (.inl ((a+(1:Int)),b))
def ik(c:Nat)(d:Nat)(e:Int)(f:Int) :Int×(List Int)→Option ((Int×(List Int))⊕(((List Int))⊕(br))):=fun (a,b) =>
  bd ((qk f a b).run) fun _ =>
  bd (vO (bd ((ql).run) fun _ =>
  bd (cm (ij c d e) (a,b)) fun g =>
  (qp g).run)) fun h =>
  (qq a h).run
theorem w9(h:List Int)(a:Nat)(b:Nat)(e:Nat)(c:Int)(d:Int)(f:Int)(g:List Int) :Sg prog [.ns .i64 h] qj (ic a b e c d (f,g)) (ik a b c d (f,g)) (ic a b e c d) (bW 0 jN fV):=by
  unfold ik;exact Sg.cut 2 (ao bG) (cy kG (wZ a b e c d f g) [⟨[],[0],[0,1,2,6]⟩,⟨[],[0],[]⟩]) (fun _=>Sg.cut 1 (ao bG) (UG (jO a b e c d f) 1 (ao bG) (bY (by decide) (kr _)) (Sg.cut 1 (ao (ao bG)) (cy kG (w5 a b e c d f g) [⟨[],[0],[0,1,2,6,7]⟩]) (fun _=>Sg.cut 1 (ao (ao bG)) (yB ⟨[],[0],[0,1,2,6,7]⟩ (ii a b e c d f) (qm a b e c d f) 2 (ao (ao bG)) (bY (by decide) (bY (by decide) (kr _))) (fun ⟨i,j⟩=>w8 h a b e c d f i j)) (fun k=>cy kG (jO a b e c d f) [⟨[],[0],[0,1,2,6]⟩])))) (fun l=>cy kG (ic a b e c d) [⟨[],[0],[0,1,2,6]⟩]))
def qr(a:List Int) :T (((List Int))⊕(br)) :=
  .leaf (.inl a)
def qK:((List Int))⊕(br)→dn
  | .inl a=>(.r0 a)
def fW(b:List Int)(c:Nat)(d:Nat)(a:Int)(e:Int) :Option dn:=Option.map qK (bd ((qi a).run) fun f =>
  bd (cm (ik c d a e) (f,b)) fun g =>
  (qr g).run)
theorem xJ(e:List Int)(a:Nat)(b:Nat)(f:Nat)(c:Int)(d:Int){x:dn}(h:fW e a b c d=some x) :aI prog iT [.ns .i64 e] [.sl 0 1 1 a b f,.int .i64 c,.int .i64 d] (ld x) :=
  LC false ld qh fV qK h (Sg.cut 1 bG (cy kG (xI e a b f c d) [⟨[],[0],[0,1,2,6]⟩]) (fun j=>Sg.cut 1 bG (yB ⟨[],[0],[0,1,2,6]⟩ (ic a b f c d) (jN) 0 bG (kr _) (fun ⟨g,i⟩=>w9 e a b f c d g i)) (fun k=>cy kG qh [⟨[],[0],[]⟩])))
    (fun x=>LB []) (fun x=>by cases x)
def iH:Option dn→Bool
  | some _=>true
  | none=>false
def jD:Option dn→List Int
  | some (.r0 x)=>x
  | _=>[]
theorem xK{x:Option dn}(h:iH x=true) :x=some (.r0 (jD x)):=by
  unfold iH at h
  split at h<;>first | rfl | (cases h;done) | (rename_i y;cases y;rfl)
def qL:bC:=yz iT [.ns .i64] (.cons (.lsl 0) (.cons (.int .i64) (.cons (.int .i64) .nil))) fun x t=>(fun q=>[⟨ld (.r0 (jD q)),[iH q]⟩]) (fW x.1 t.1.1 t.1.2.1 t.2.1 t.2.2.1)
theorem wB:cg prog qL:=nR fun x t=>(jG (fun h=>xJ x.1 t.1.1 t.1.2.1 t.1.2.2 t.2.1 t.2.2.1 (xK h)) nS)
def qM:List bC:=qL::NO
theorem gM:cR prog (cX qM):=aZ wB kG
inductive cC where
  | r0 (a:List Int)
def lw:cC→AE×aW
  | .r0 a=>(.ret,⟨aw 134 [],[(0,.ns .i64 a)],1⟩)
theorem kH:ye lw:=by intro x;cases x<;>(intro h;cases h)
theorem uM(id:Nat) :rB id lw:=by intro x;cases x<;>(intro h;cases h)
def qE:cC→rU
  | .r0 a=>⟨.tup [],[some (.ns .i64 a)]⟩
def Cl:List Code:=cS (ri lp)
def Cm(b:List Int)(c:Nat)(d:Nat)(e:Nat)(f:Int)(g:Int)(h:Int)(a:Bool) :aW:=⟨aw 134 [(0,.sl 0 1 1 c d e),(1,.int .i64 f),(2,.int .i64 g),(3,.int .i64 h),(8,.bool false a),(9,.bool false a)],[(0,.ns .i64 b)],1⟩
def Cn:T ((Bool)⊕(cC)) :=
  .leaf (.inl true)
def iY(b:List Int)(c:Nat)(d:Nat)(e:Nat)(f:Int)(g:Int)(h:Int)(a:Bool)(_:Unit) :aW:=⟨aw 134 [(0,.sl 0 1 1 c d e),(1,.int .i64 f),(2,.int .i64 g),(3,.int .i64 h),(8,.bool false a),(9,.bool false a)],[(0,.ns .i64 b)],1⟩
def Co:List Code:=cS (dh (((Cl.drop 2)).headD .skip))
def Cp(b:List Int)(c:Nat)(d:Nat)(e:Nat)(f:Int)(g:Int)(h:Int)(a:Bool)(i:Int) :aW:=⟨aw 134 [(0,.sl 0 1 1 c d e),(1,.int .i64 f),(2,.int .i64 g),(3,.int .i64 h),(8,.bool false a),(9,.bool false a),(10,.int .i64 i)],[(0,.ns .i64 b)],1⟩
def uN(c:List Int)(d:Nat)(e:Nat)(a:Int)(b:Int) :T ((Int)⊕((Unit)⊕((Empty)⊕(cC)))) :=
  .need (fq .i64 (b-a))<|.ask (decide ((b-a)≤(12:Int)))
    (.need (iH (fW c d e a b))<|.leaf (.inr (.inr (.inr (.r0 (jD (fW c d e a b)))))))
    (.leaf (.inl (b-a)))
def AW(a:Int)(b:Bool) :T ((Unit)⊕((Unit)⊕((Empty)⊕(cC)))) :=
  .ask (a==(0:Int))
    (.fail)
    (.ask (!b)
      (.fail)
      (.fail))
def jT(a:List Int)(b:Nat)(c:Nat)(d:Int)(e:Int)(f:Int)(g:Bool) :Unit→Option ((Unit)⊕((Empty)⊕(cC))):=fun _ =>
  vO (bd ((uN a b c d e).run) fun h =>
  (AW f g).run)
theorem AX(b:List Int)(c:Nat)(d:Nat)(i:Nat)(e:Int)(f:Int)(g:Int)(h:Bool) :Sg prog [.ns .i64 b] Co (iY b c d i e f g h ()) (jT b c d e f g h ()) (iY b c d i e f g h) (bW (ρ:=Empty) 0 (fun a=>a.elim) lw):=by
  unfold jT;exact UG (iY b c d i e f g h) 1 (ao kH) (bY (by decide) (uM _)) (Sg.cut 3 (ao (ao kH)) (cy gM (Cp b c d i e f g h) [⟨[],[0],[]⟩,⟨[],[0],[0,1,2,3,8,9,10]⟩]) (fun j=>cy gM (iY b c d i e f g h) []))
def jo(a:List Int)(b:Nat)(c:Nat)(d:Int)(e:Int)(f:Int) :Option cC:=toX (bd ((Cn).run) fun g =>
  cm (jT a b c d e f g) ())
theorem Cq(b:List Int)(c:Nat)(d:Nat)(i:Nat)(e:Int)(f:Int)(g:Int){x:cC}(h:jo b c d e f g=some x) :aI prog lp [.ns .i64 b] [.sl 0 1 1 c d i,.int .i64 e,.int .i64 f,.int .i64 g] (qE x) :=
  IB false qE lw h (Sg.cut 2 kH (cy gM (Cm b c d i e f g) [⟨[],[0],[0,1,2,3,8,9]⟩]) (fun j=>yB ⟨[],[0],[0,1,2,3,8,9]⟩ (iY b c d i e f g j) (fun a:Empty=>a.elim) 0 kH (uM _) (fun _=>AX b c d i e f g j)))
    (fun x=>by cases x with | r0 k=>exact Fi [])
def kI:Option cC→Bool
  | some _=>true
  | none=>false
def ot:Option cC→List Int
  | some (.r0 x)=>x
  | _=>[]
theorem Cr{x:Option cC}(h:kI x=true) :x=some (.r0 (ot x)):=by
  unfold kI at h
  split at h<;>first | rfl | (cases h;done) | (rename_i y;cases y;rfl)
def vS:bC:=yz lp [.ns .i64] (.cons (.lsl 0) (.cons (.int .i64) (.cons (.int .i64) (.cons (.int .i64) .nil)))) fun x t=>(fun q=>[⟨qE (.r0 (ot q)),[kI q]⟩]) (jo x.1 t.1.1 t.1.2.1 t.2.1 t.2.2.1 t.2.2.2.1)
theorem Ay:cg prog vS:=nR fun x t=>(jG (fun h=>Cq x.1 t.1.1 t.1.2.1 t.1.2.2 t.2.1 t.2.2.1 t.2.2.2.1 (Cr h)) nS)
def vT:List bC:=vS::qM
theorem sH:cR prog (cX vT):=aZ Ay gM
inductive Cs where
inductive qf where
  | r0 (a:List Int)
def Pb:Cs→AE×aW:=fun x=>nomatch x
def Ct:qf→rU
  | .r0 a=>⟨.tup [],[some (.ns .i64 a)]⟩
def F1(a:(List Int)) :aW:=⟨aw 11 [],[(0,.ns .i64 a)],1⟩
def F2(b:List Int)(c:Nat)(a:Nat) :T (((List Int))⊕(Cs)) :=
  .need (qD (pQ (IntKind.u64.wrap ((a:Nat):Int))))<|.need (kI (jo b c a (0:Int) ((a:Nat):Int) (oq (pQ (IntKind.u64.wrap ((a:Nat):Int))))))<|.leaf (.inl (ot (jo b c a (0:Int) ((a:Nat):Int) (oq (pQ (IntKind.u64.wrap ((a:Nat):Int)))))))
def H6:((List Int))⊕(Cs)→qf
  | .inl a=>(.r0 a)
def uO(a:List Int)(b:Nat)(c:Nat) :Option qf:=Option.map H6 ((F2 a b c).run)
theorem NP(a:List Int)(b:Nat)(c:Nat)(d:Nat){x:qf}(h:uO a b c=some x) :aI prog BO [.ns .i64 a] [.sl 0 1 1 b c d] (Ct x) :=
  LC false Ct F1 Pb H6 h (cy sH F1 [⟨[],[0],[]⟩])
    (fun x=>LB []) (fun x=>by cases x)
def wC:Option qf→Bool
  | some _=>true
  | none=>false
def xL:Option qf→List Int
  | some (.r0 x)=>x
  | _=>[]
theorem NQ{x:Option qf}(h:wC x=true) :x=some (.r0 (xL x)):=by
  unfold wC at h
  split at h<;>first | rfl | (cases h;done) | (rename_i y;cases y;rfl)
def H7:bC:=yz BO [.ns .i64] (.cons (.lsl 0) .nil) fun x t=>(fun q=>[⟨Ct (.r0 (xL q)),[wC q]⟩]) (uO x.1 t.1.1 t.1.2.1)
theorem Kl:cg prog H7:=nR fun x t=>(jG (fun h=>NP x.1 t.1.1 t.1.2.1 t.1.2.2 (NQ h)) nS)
def H8:List bC:=H7::vT
theorem fN:cR prog (cX H8):=aZ Kl sH
inductive bK where
inductive aU where
  | r0 (a:Int) (b:Nat) (c:Nat) (d:Nat) (e:Nat) (f:Int) (g:Int) (h:Nat) (i:Nat) (j:Nat) (k:Nat) (l:Nat) (m:Nat) (n:Nat) (o:List Nat) (p:List Nat) (q:List Nat) (r:List Int) (s:List Int)
def jE:bK→AE×aW:=fun x=>nomatch x
theorem bZ:ye jE:=by intro x;cases x<;>(intro h;cases h)
theorem qF(id:Nat) :rB id jE:=by intro x;cases x<;>(intro h;cases h)
def qW:aU→rU
  | .r0 a b c d e f g h i j k l m n o p q r s=>⟨.tup [],[some (.vs [.int .i64 a,.sl 1 1 1 0 b c,.sl 2 1 1 0 d e,.int .i64 f,.int .i64 g,.sl 3 1 1 0 h i,.flt false j,.sl 4 1 1 0 k l,.sl 5 1 1 0 m n]),some (.fl o),some (.fl p),some (.fl q),some (.ns .i64 r),some (.ns .i64 s)]⟩
def uP:Int×Nat×Nat×Nat×Nat×Int×Int×Nat×Nat×Nat×Nat×Nat×Nat×Nat×(List Nat)×(List Nat)×(List Nat)×(List Int)×(List Int)→aW:=fun (a,b,c,d,e,f,g,h,i,j,k,l,m,n,o,p,q,r,s)=>⟨aw 128 [],[(0,.vs [.int .i64 a,.sl 1 1 1 0 b c,.sl 2 1 1 0 d e,.int .i64 f,.int .i64 g,.sl 3 1 1 0 h i,.flt false j,.sl 4 1 1 0 k l,.sl 5 1 1 0 m n]),(1,.fl o),(2,.fl p),(3,.fl q),(4,.ns .i64 r),(5,.ns .i64 s)],6⟩
def uQ:List Code:=cS (ri lT)
def C9(b:Int)(c:Nat)(d:Nat)(e:Nat)(f:Nat)(g:Int)(h:Int)(i:Nat)(j:Nat)(k:Nat)(l:List Nat)(m:List Nat)(n:List Nat) :Nat×Nat×(List Nat)→aW:=fun (a,o,p)=>⟨aw 128 [(0,.ptr 0 1 0 0),(2,.flt false 0),(17,.sl 4 1 1 0 a a),(18,.int .i64 ((o:Nat):Int)),(19,.int .i64 (0:Int))],[(0,.vs [.int .i64 b,.sl 1 1 1 0 c d,.sl 2 1 1 0 e f,.int .i64 g,.int .i64 h,.sl 3 1 1 0 i j,.flt false k,.nsl,.nsl]),(1,.fl l),(2,.fl m),(3,.fl n),(4,.fl p)],5⟩
def uR(a:Nat)(b:Nat)(c:List Nat) :T ((Nat×Nat×(List Nat))⊕(bK)) :=
  .need (kj ((1+a)*8) 140737488355328)<|.need (kj (1+a) 9223372036854775807)<|.need (kj a (List.length c))<|.need (kj 1 (List.length [b]))<|.leaf (.inl ((1+a),(1+a),((List.take 1 [b])++(List.take a c))))
def ly(b:Int)(c:Nat)(d:Nat)(e:Nat)(f:Nat)(g:Int)(h:Int)(i:Nat)(j:Nat)(k:Nat)(l:List Nat)(m:List Nat)(n:List Nat)(a:Nat)(o:Nat)(p:List Nat) :Nat×Nat→aW:=fun (q,r)=>⟨aw 128 [(0,.ptr 0 1 0 0),(2,.flt false q),(17,.sl 4 1 1 0 a a),(18,.int .i64 ((o:Nat):Int)),(19,.int .i64 ((r:Nat):Int))],[(0,.vs [.int .i64 b,.sl 1 1 1 0 c d,.sl 2 1 1 0 e f,.int .i64 g,.int .i64 h,.sl 3 1 1 0 i j,.flt false k,.nsl,.nsl]),(1,.fl l),(2,.fl m),(3,.fl n),(4,.fl p)],5⟩
def vU(a:Int)(b:Nat)(c:Nat)(d:Nat)(e:Nat)(f:Int)(g:Int)(h:Nat)(i:Nat)(j:Nat)(k:List Nat)(l:List Nat)(m:List Nat)(n:Nat) :aW:=⟨aw 128 [(0,.ptr 0 1 0 0),(2,.flt false n)],[(0,.vs [.int .i64 a,.sl 1 1 1 0 b c,.sl 2 1 1 0 d e,.int .i64 f,.int .i64 g,.sl 3 1 1 0 h i,.flt false j,.nsl,.nsl]),(1,.fl k),(2,.fl l),(3,.fl m)],4⟩
def Cu:List Code:=cS (dh ((((uQ.drop 2).take 1)).headD .skip))
def Da(b:Int)(c:Nat)(d:Nat)(e:Nat)(f:Nat)(g:Int)(h:Int)(i:Nat)(j:Nat)(k:Nat)(l:List Nat)(m:List Nat)(n:List Nat)(a:Nat)(o:Nat)(p:List Nat)(q:Nat)(r:Nat) :aW:=⟨aw 128 [(0,.ptr 0 1 0 0),(2,.flt false r),(17,.sl 4 1 1 0 a a),(18,.int .i64 ((o:Nat):Int)),(19,.int .i64 ((q:Nat):Int))],[(0,.vs [.int .i64 b,.sl 1 1 1 0 c d,.sl 2 1 1 0 e f,.int .i64 g,.int .i64 h,.sl 3 1 1 0 i j,.flt false k,.nsl,.nsl]),(1,.fl l),(2,.fl m),(3,.fl n),(4,.fl p)],5⟩
def uS(d:Nat)(e:Nat)(b:List Nat)(c:Nat)(a:Nat) :T ((Nat)⊕((Nat)⊕(bK))) :=
  .ask (decide (((a:Nat):Int)<((e:Nat):Int)))
    (.need (fU ((a:Nat):Int) d)<|.need (fi a (List.length b))<|.ask (KT (eY (List.getD b a 0)) c)
      (.leaf (.inl (eY (List.getD b a 0))))
      (.leaf (.inl c)))
    (.leaf (.inr (.inl c)))
def uT(a:Nat)(b:Nat) :T ((Nat×Nat)⊕((Nat)⊕(bK))) :=
  .need (fq .i64 (((a+1):Nat):Int))<|.leaf (.inl (b,(a+1)))
def kJ(b:Nat)(c:Nat)(d:List Nat) :Nat×Nat→Option ((Nat×Nat)⊕((Nat)⊕(bK))):=fun (e,a) =>
  bd ((uS b c d e a).run) fun f =>
  (uT a f).run
theorem Cv(a:Int)(b:Nat)(c:Nat)(d:Nat)(e:Nat)(f:Int)(g:Int)(h:Nat)(i:Nat)(j:Nat)(k:List Nat)(l:List Nat)(m:List Nat)(n:Nat)(o:Nat)(p:List Nat)(r:Nat)(q:Nat) :Sg prog [.vs [.int .i64 a,.sl 1 1 1 0 b c,.sl 2 1 1 0 d e,.int .i64 f,.int .i64 g,.sl 3 1 1 0 h i,.flt false j,.nsl,.nsl],.fl k,.fl l,.fl m] Cu (ly a b c d e f g h i j k l m n o p (r,q)) (kJ n o p (r,q)) (ly a b c d e f g h i j k l m n o p) (bW 0 (vU a b c d e f g h i j k l m) jE):=by
  unfold kJ;exact Sg.cut 3 (ao bZ) (cy fN (Da a b c d e f g h i j k l m n o p q) [⟨[],[0,1,2,3,4],[0,2,17,18,19]⟩,⟨[],[0,1,2,3,4],[0,2,17,18,19]⟩,⟨[],[0,1,2,3],[0,2]⟩]) (fun s=>cy fN (ly a b c d e f g h i j k l m n o p) [⟨[],[0,1,2,3,4],[0,2,17,18,19]⟩])
def Db(a:Int)(b:Nat)(c:Nat)(d:Nat)(e:Nat)(f:Int)(g:Int)(h:Nat)(i:Nat)(j:Nat)(k:List Nat)(l:List Nat)(m:List Nat)(n:Nat) :aW:=⟨aw 128 [(0,.ptr 0 1 0 0),(5,.flt false n),(35,.int .i64 a),(36,.int .i64 (0:Int))],[(0,.vs [.int .i64 a,.sl 1 1 1 0 b c,.sl 2 1 1 0 d e,.int .i64 f,.int .i64 g,.sl 3 1 1 0 h i,.flt false j,.nsl,.nsl]),(1,.fl k),(2,.fl l),(3,.fl m)],4⟩
def uU(a:Nat) :T ((Nat)⊕(bK)) :=
  .leaf (.inl (cY 4386506037058863104 a))
def kK(a:Int)(b:Nat) :Nat×Int×Nat×Nat×Nat×Nat×Int×Int×Nat×Nat×Nat×Nat×Nat×Nat×Nat×(List Nat)×(List Nat)×(List Nat)×(List Int)×(List Int)→aW:=fun (c,d,e,f,g,h,i,j,k,l,m,n,o,p,q,r,s,t,u,v)=>⟨aw 128 [(0,.ptr 0 1 0 0),(5,.flt false b),(35,.int .i64 a),(36,.int .i64 ((c:Nat):Int))],[(0,.vs [.int .i64 d,.sl 1 1 1 0 e f,.sl 2 1 1 0 g h,.int .i64 i,.int .i64 j,.sl 3 1 1 0 k l,.flt false m,.sl 4 1 1 0 n o,.sl 5 1 1 0 p q]),(1,.fl r),(2,.fl s),(3,.fl t),(4,.ns .i64 u),(5,.ns .i64 v)],6⟩
def uV:Int×Nat×Nat×Nat×Nat×Int×Int×Nat×Nat×Nat×Nat×Nat×Nat×Nat×(List Nat)×(List Nat)×(List Nat)×(List Int)×(List Int)→aW:=fun (a,b,c,d,e,f,g,h,i,j,k,l,m,n,o,p,q,r,s)=>⟨aw 128 [(0,.ptr 0 1 0 0)],[(0,.vs [.int .i64 a,.sl 1 1 1 0 b c,.sl 2 1 1 0 d e,.int .i64 f,.int .i64 g,.sl 3 1 1 0 h i,.flt false j,.sl 4 1 1 0 k l,.sl 5 1 1 0 m n]),(1,.fl o),(2,.fl p),(3,.fl q),(4,.ns .i64 r),(5,.ns .i64 s)],6⟩
def Cw:List Code:=cS (dh ((((((uQ.drop 2).drop 1).drop 2).take 1)).headD .skip))
def Cx(a:Int)(b:Nat)(c:Nat)(d:Int)(e:Nat)(f:Nat)(g:Nat)(h:Nat)(i:Int)(j:Int)(k:Nat)(l:Nat)(m:Nat)(n:Nat)(o:Nat)(p:Nat)(q:Nat)(r:List Nat)(s:List Nat)(t:List Nat)(u:List Int)(v:List Int)(_:Unit) :aW:=⟨aw 128 [(0,.ptr 0 1 0 0),(5,.flt false b),(35,.int .i64 a),(36,.int .i64 ((c:Nat):Int))],[(0,.vs [.int .i64 d,.sl 1 1 1 0 e f,.sl 2 1 1 0 g h,.int .i64 i,.int .i64 j,.sl 3 1 1 0 k l,.flt false m,.sl 4 1 1 0 n o,.sl 5 1 1 0 p q]),(1,.fl r),(2,.fl s),(3,.fl t),(4,.ns .i64 u),(5,.ns .i64 v)],6⟩
def uW(a:Int)(b:Nat)(c:Int)(d:Nat)(e:Nat)(f:Nat)(g:Nat)(h:Int)(i:Int)(j:Nat)(k:Nat)(l:Nat)(m:Nat)(n:Nat)(o:Nat)(p:Nat)(q:List Nat)(r:List Nat)(s:List Nat)(t:List Int)(u:List Int) :T ((Unit)⊕((Int×Nat×Nat×Nat×Nat×Int×Int×Nat×Nat×Nat×Nat×Nat×Nat×Nat×(List Nat)×(List Nat)×(List Nat)×(List Int)×(List Int))⊕(bK))) :=
  .ask (decide (((b:Nat):Int)<a))
    (.leaf (.inl ()))
    (.leaf (.inr (.inl (c,d,e,f,g,h,i,j,k,l,m,n,o,p,q,r,s,t,u))))
def uX(a:Int)(b:Nat)(c:Nat) :Int×Nat×Nat×Nat×Nat×Int×Int×Nat×Nat×Nat×Nat×Nat×Nat×Nat×(List Nat)×(List Nat)×(List Nat)×(List Int)×(List Int)→aW:=fun (d,e,f,g,h,i,j,k,l,m,n,o,p,q,r,s,t,u,v)=>⟨aw 128 [(0,.ptr 0 1 0 0),(5,.flt false b),(35,.int .i64 a),(36,.int .i64 ((c:Nat):Int))],[(0,.vs [.int .i64 d,.sl 1 1 1 0 e f,.sl 2 1 1 0 g h,.int .i64 i,.int .i64 j,.sl 3 1 1 0 k l,.flt false m,.sl 4 1 1 0 n o,.sl 5 1 1 0 p q]),(1,.fl r),(2,.fl s),(3,.fl t),(4,.ns .i64 u),(5,.ns .i64 v)],6⟩
def Cy(b:Int)(c:Nat)(a:Nat)(d:Nat) :Bool×Int×Nat×Nat×Nat×Nat×Int×Int×Nat×Nat×Nat×Nat×Nat×Nat×Nat×(List Nat)×(List Nat)×(List Nat)×(List Int)×(List Int)→aW:=fun (e,f,g,h,i,j,k,l,m,n,o,p,q,r,s,t,u,v,w,x)=>⟨aw 128 [(0,.ptr 0 1 0 0),(5,.flt false c),(6,.int .i64 ((a:Nat):Int)),(7,.int .i64 ((d:Nat):Int)),(35,.int .i64 b),(36,.int .i64 ((a:Nat):Int)),(84,.bool false e)],[(0,.vs [.int .i64 f,.sl 1 1 1 0 g h,.sl 2 1 1 0 i j,.int .i64 k,.int .i64 l,.sl 3 1 1 0 m n,.flt false o,.sl 4 1 1 0 p q,.sl 5 1 1 0 r s]),(1,.fl t),(2,.fl u),(3,.fl v),(4,.ns .i64 w),(5,.ns .i64 x)],6⟩
def uY(t:Nat)(d:Nat)(i:Int)(j:Nat)(k:Nat)(f:Nat)(l:Nat)(m:Int)(n:Int)(o:Nat)(p:Nat)(g:Nat)(a:Nat)(q:Nat)(c:Nat)(u:Nat)(r:List Nat)(e:List Nat)(s:List Nat)(b:List Int)(h:List Int) :T ((Bool×Int×Nat×Nat×Nat×Nat×Int×Int×Nat×Nat×Nat×Nat×Nat×Nat×Nat×(List Nat)×(List Nat)×(List Nat)×(List Int)×(List Int))⊕((Int×Nat×Nat×Nat×Nat×Int×Int×Nat×Nat×Nat×Nat×Nat×Nat×Nat×(List Nat)×(List Nat)×(List Nat)×(List Int)×(List Int))⊕((Int×Nat×Nat×Nat×Nat×Int×Int×Nat×Nat×Nat×Nat×Nat×Nat×Nat×(List Nat)×(List Nat)×(List Nat)×(List Int)×(List Int))⊕(bK)))) :=
  .need (fU ((d:Nat):Int) f)<|.need (fi d (List.length e))<|.ask (Xg (cY g (eY (List.getD e d 0))) t)
    (.need (kj ((c+1)*8) 140737488355328)<|.need (kj (c+1) 9223372036854775807)<|.need (kj 1 (List.length [((d:Nat):Int)]))<|.need (kj c (List.length h))<|.leaf (.inr (.inl (i,j,k,f,l,m,n,o,p,g,a,q,(c+1),(c+1),r,e,s,b,((List.take c h)++(List.take 1 [((d:Nat):Int)]))))))
    (.ask (decide (((a:Nat):Int)>(0:Int)))
      (.need (fq .i64 (((a:Nat):Int)-(1:Int)))<|.need (fU (((a:Nat):Int)-(1:Int)) a)<|.need (fi (Int.toNat (((a:Nat):Int)-(1:Int))) (List.length b))<|.need (kF (aT i j k f l m n o p g a q c u r e s b h (List.getD b (Int.toNat (((a:Nat):Int)-(1:Int))) 0) ((d:Nat):Int) t))<|.leaf (.inl ((oa (aT i j k f l m n o p g a q c u r e s b h (List.getD b (Int.toNat (((a:Nat):Int)-(1:Int))) 0) ((d:Nat):Int) t)),(oc (aT i j k f l m n o p g a q c u r e s b h (List.getD b (Int.toNat (((a:Nat):Int)-(1:Int))) 0) ((d:Nat):Int) t)),(od (aT i j k f l m n o p g a q c u r e s b h (List.getD b (Int.toNat (((a:Nat):Int)-(1:Int))) 0) ((d:Nat):Int) t)),(oe (aT i j k f l m n o p g a q c u r e s b h (List.getD b (Int.toNat (((a:Nat):Int)-(1:Int))) 0) ((d:Nat):Int) t)),(og (aT i j k f l m n o p g a q c u r e s b h (List.getD b (Int.toNat (((a:Nat):Int)-(1:Int))) 0) ((d:Nat):Int) t)),(oh (aT i j k f l m n o p g a q c u r e s b h (List.getD b (Int.toNat (((a:Nat):Int)-(1:Int))) 0) ((d:Nat):Int) t)),(oi (aT i j k f l m n o p g a q c u r e s b h (List.getD b (Int.toNat (((a:Nat):Int)-(1:Int))) 0) ((d:Nat):Int) t)),(oj (aT i j k f l m n o p g a q c u r e s b h (List.getD b (Int.toNat (((a:Nat):Int)-(1:Int))) 0) ((d:Nat):Int) t)),(ol (aT i j k f l m n o p g a q c u r e s b h (List.getD b (Int.toNat (((a:Nat):Int)-(1:Int))) 0) ((d:Nat):Int) t)),(om (aT i j k f l m n o p g a q c u r e s b h (List.getD b (Int.toNat (((a:Nat):Int)-(1:Int))) 0) ((d:Nat):Int) t)),(mF (aT i j k f l m n o p g a q c u r e s b h (List.getD b (Int.toNat (((a:Nat):Int)-(1:Int))) 0) ((d:Nat):Int) t)),(mG (aT i j k f l m n o p g a q c u r e s b h (List.getD b (Int.toNat (((a:Nat):Int)-(1:Int))) 0) ((d:Nat):Int) t)),(mH (aT i j k f l m n o p g a q c u r e s b h (List.getD b (Int.toNat (((a:Nat):Int)-(1:Int))) 0) ((d:Nat):Int) t)),(mI (aT i j k f l m n o p g a q c u r e s b h (List.getD b (Int.toNat (((a:Nat):Int)-(1:Int))) 0) ((d:Nat):Int) t)),(mJ (aT i j k f l m n o p g a q c u r e s b h (List.getD b (Int.toNat (((a:Nat):Int)-(1:Int))) 0) ((d:Nat):Int) t)),(mK (aT i j k f l m n o p g a q c u r e s b h (List.getD b (Int.toNat (((a:Nat):Int)-(1:Int))) 0) ((d:Nat):Int) t)),(mL (aT i j k f l m n o p g a q c u r e s b h (List.getD b (Int.toNat (((a:Nat):Int)-(1:Int))) 0) ((d:Nat):Int) t)),(mM (aT i j k f l m n o p g a q c u r e s b h (List.getD b (Int.toNat (((a:Nat):Int)-(1:Int))) 0) ((d:Nat):Int) t)),(mN (aT i j k f l m n o p g a q c u r e s b h (List.getD b (Int.toNat (((a:Nat):Int)-(1:Int))) 0) ((d:Nat):Int) t)),(mO (aT i j k f l m n o p g a q c u r e s b h (List.getD b (Int.toNat (((a:Nat):Int)-(1:Int))) 0) ((d:Nat):Int) t)))))
      (.leaf (.inl (false,i,j,k,f,l,m,n,o,p,g,a,q,c,u,r,e,s,b,h))))
def Cz(b:Int)(c:Nat)(a:Nat)(d:Int)(e:Nat)(f:Nat)(g:Nat)(h:Nat)(i:Int)(j:Int)(k:Nat)(l:Nat)(m:Nat)(n:Nat)(o:List Nat)(p:List Nat)(q:List Nat)(r:List Int) :Nat×Nat×Nat×(List Int)→aW:=fun (s,t,u,v)=>⟨aw 128 [(0,.ptr 0 1 0 0),(5,.flt false c),(6,.int .i64 ((a:Nat):Int)),(35,.int .i64 b),(36,.int .i64 ((a:Nat):Int))],[(0,.vs [.int .i64 d,.sl 1 1 1 0 e f,.sl 2 1 1 0 g h,.int .i64 i,.int .i64 j,.sl 3 1 1 0 k l,.flt false m,.sl 4 1 1 0 s n,.sl 5 1 1 0 t u]),(1,.fl o),(2,.fl p),(3,.fl q),(4,.ns .i64 r),(5,.ns .i64 v)],6⟩
def uZ(a:Nat)(f:Bool)(e:Nat)(g:Nat)(b:Nat)(h:Nat)(c:List Int)(d:List Int) :T ((Nat×Nat×Nat×(List Int))⊕((Int×Nat×Nat×Nat×Nat×Int×Int×Nat×Nat×Nat×Nat×Nat×Nat×Nat×(List Nat)×(List Nat)×(List Nat)×(List Int)×(List Int))⊕((Int×Nat×Nat×Nat×Nat×Int×Int×Nat×Nat×Nat×Nat×Nat×Nat×Nat×(List Nat)×(List Nat)×(List Nat)×(List Int)×(List Int))⊕(bK)))) :=
  .ask f
    (.need (fq .i64 (((a:Nat):Int)-(1:Int)))<|.need (fU (((a:Nat):Int)-(1:Int)) e)<|.need (fi (Int.toNat (((a:Nat):Int)-(1:Int))) (List.length c))<|.need (kj ((b+1)*8) 140737488355328)<|.need (kj (b+1) 9223372036854775807)<|.need (kj 1 (List.length [(List.getD c (Int.toNat (((a:Nat):Int)-(1:Int))) 0)]))<|.need (kj b (List.length d))<|.need (fq .i64 (((a:Nat):Int)-(1:Int)))<|.need (AL (((a:Nat):Int)-(1:Int)) g)<|.need (AL (0:Int) (Int.toNat (((a:Nat):Int)-(1:Int))))<|.leaf (.inl ((Int.toNat (((a:Nat):Int)-(1:Int))),(b+1),(b+1),((List.take b d)++(List.take 1 [(List.getD c (Int.toNat (((a:Nat):Int)-(1:Int))) 0)])))))
    (.leaf (.inl (e,b,h,d)))
def u4(b:Nat)(d:Int)(e:Nat)(f:Nat)(g:Nat)(h:Nat)(i:Int)(j:Int)(k:Nat)(l:Nat)(m:Nat)(n:List Nat)(o:List Nat)(p:List Nat)(c:List Int)(a:Nat)(q:Nat)(r:Nat)(s:List Int) :T ((Int×Nat×Nat×Nat×Nat×Int×Int×Nat×Nat×Nat×Nat×Nat×Nat×Nat×(List Nat)×(List Nat)×(List Nat)×(List Int)×(List Int))⊕((Int×Nat×Nat×Nat×Nat×Int×Int×Nat×Nat×Nat×Nat×Nat×Nat×Nat×(List Nat)×(List Nat)×(List Nat)×(List Int)×(List Int))⊕((Int×Nat×Nat×Nat×Nat×Int×Int×Nat×Nat×Nat×Nat×Nat×Nat×Nat×(List Nat)×(List Nat)×(List Nat)×(List Int)×(List Int))⊕(bK)))) :=
  .need (kj ((a+1)*8) 140737488355328)<|.need (kj (a+1) 9223372036854775807)<|.need (kj 1 (List.length [((b:Nat):Int)]))<|.need (kj a (List.length c))<|.leaf (.inl (d,e,f,g,h,i,j,k,l,m,(a+1),(a+1),q,r,n,o,p,((List.take a c)++(List.take 1 [((b:Nat):Int)])),s))
def u5(a:Nat)(b:Int)(c:Nat)(d:Nat)(e:Nat)(f:Nat)(g:Int)(h:Int)(i:Nat)(j:Nat)(k:Nat)(l:Nat)(m:Nat)(n:Nat)(o:Nat)(p:List Nat)(q:List Nat)(r:List Nat)(s:List Int)(t:List Int) :T ((Nat×Int×Nat×Nat×Nat×Nat×Int×Int×Nat×Nat×Nat×Nat×Nat×Nat×Nat×(List Nat)×(List Nat)×(List Nat)×(List Int)×(List Int))⊕((Int×Nat×Nat×Nat×Nat×Int×Int×Nat×Nat×Nat×Nat×Nat×Nat×Nat×(List Nat)×(List Nat)×(List Nat)×(List Int)×(List Int))⊕(bK))) :=
  .need (fq .i64 (((a+1):Nat):Int))<|.leaf (.inl ((a+1),b,c,d,e,f,g,h,i,j,k,l,m,n,o,p,q,r,s,t))
def kL(v:Int)(w:Nat) :Nat×Int×Nat×Nat×Nat×Nat×Int×Int×Nat×Nat×Nat×Nat×Nat×Nat×Nat×(List Nat)×(List Nat)×(List Nat)×(List Int)×(List Int)→Option ((Nat×Int×Nat×Nat×Nat×Nat×Int×Int×Nat×Nat×Nat×Nat×Nat×Nat×Nat×(List Nat)×(List Nat)×(List Nat)×(List Int)×(List Int))⊕((Int×Nat×Nat×Nat×Nat×Int×Int×Nat×Nat×Nat×Nat×Nat×Nat×Nat×(List Nat)×(List Nat)×(List Nat)×(List Int)×(List Int))⊕(bK))):=fun (a,c,d,e,f,g,h,i,j,k,l,b,m,n,o,p,q,r,s,t) =>
  bd ((uW v a c d e f g h i j k l b m n o p q r s t).run) fun _ =>
  bd (vO (bd ((uY w a c d e f g h i j k l b m n o p q r s t).run) fun (x,y,z,A,B,C,D,E,F,G,H,I,J,K,L,M,N,O,u,P) =>
  bd ((uZ b x I J K L u P).run) fun (Q,R,S,T) =>
  (u4 a y z A B C D E F G H M N O u Q R S T).run)) fun (U,V,W,X,Y,Z,a0,a1,a2,a3,a4,a5,a6,a7,a8,a9,b0,b1,b2) =>
  (u5 a U V W X Y Z a0 a1 a2 a3 a4 a5 a6 a7 a8 a9 b0 b1 b2).run
theorem CA(a:Int)(w:Nat)(x:Nat)(y:Nat)(z:Nat)(A:Int)(B:Int)(C:Nat)(D:Nat)(E:Nat)(F:List Nat)(G:List Nat)(H:List Nat)(b:Nat)(c:Nat)(e:Int)(f:Nat)(g:Nat)(h:Nat)(i:Nat)(j:Int)(k:Int)(l:Nat)(m:Nat)(n:Nat)(d:Nat)(o:Nat)(p:Nat)(q:Nat)(r:List Nat)(s:List Nat)(t:List Nat)(u:List Int)(v:List Int) :Sg prog [.vs [.int .i64 a,.sl 1 1 1 0 w x,.sl 2 1 1 0 y z,.int .i64 A,.int .i64 B,.sl 3 1 1 0 C D,.flt false E,.nsl,.nsl],.fl F,.fl G,.fl H] Cw (kK a b (c,e,f,g,h,i,j,k,l,m,n,d,o,p,q,r,s,t,u,v)) (kL a b (c,e,f,g,h,i,j,k,l,m,n,d,o,p,q,r,s,t,u,v)) (kK a b) (bW 2 uV jE):=by
  unfold kL;exact Sg.cut 2 (ao bZ) (cy fN (Cx a b c e f g h i j k l m n d o p q r s t u v) [⟨[],[0,1,2,3,4,5],[0,5,35,36]⟩,⟨[],[0,1,2,3,4,5],[0]⟩]) (fun _=>Sg.cut 1 (ao bZ) (UG (uX a b c) 3 (ao bZ) (bY (by decide) (qF _)) (Sg.cut 5 (ao (ao bZ)) (cy fN (Cy a b c d) [⟨[],[0,1,2,3,4,390],[0,5,35,36]⟩,⟨[],[0,1,2,3,4,5],[0,5,6,7,35,36,84]⟩,⟨[],[0,1,2,3,4,5],[0,5,6,7,35,36,84]⟩]) (fun ⟨X,I,J,K,L,M,N,O,P,Q,R,Y,S,Z,a0,T,U,V,W,a1⟩=>Sg.cut 1 (ao (ao bZ)) (cy fN (Cz a b c I J K L M N O P Q R S T U V W) [⟨[],[0,1,2,3,4,230],[0,5,6,35,36]⟩,⟨[],[0,1,2,3,4,5],[0,5,6,35,36]⟩]) (fun ⟨a2,a3,a4,a5⟩=>cy fN (uX a b c) [⟨[],[0,1,2,3,118,5],[0,5,35,36]⟩])))) (fun ⟨a6,a7,a8,a9,b0,b1,b2,b3,b4,b5,b6,b7,b8,b9,c0,c1,c2,c3,c4⟩=>cy fN (kK a b) [⟨[],[0,1,2,3,4,5],[0,5,35,36]⟩]))
def u6(c:Int)(d:Nat)(e:Nat)(f:Nat)(g:Nat)(h:Int)(i:Int)(j:Nat)(k:Nat)(l:Nat)(m:Nat)(n:Nat)(a:Nat)(o:Nat)(p:List Nat)(q:List Nat)(r:List Nat)(s:List Int)(b:List Int) :T ((Int×Nat×Nat×Nat×Nat×Int×Int×Nat×Nat×Nat×Nat×Nat×Nat×Nat×(List Nat)×(List Nat)×(List Nat)×(List Int)×(List Int))⊕(bK)) :=
  .need (wC (uO b 0 a))<|.leaf (.inl (c,d,e,f,g,h,i,j,k,l,m,n,a,o,p,q,r,s,(xL (uO b 0 a))))
def wF:(Int×Nat×Nat×Nat×Nat×Int×Int×Nat×Nat×Nat×Nat×Nat×Nat×Nat×(List Nat)×(List Nat)×(List Nat)×(List Int)×(List Int))⊕(bK)→aU
  | .inl (a,b,c,d,e,f,g,h,i,j,k,l,m,n,o,p,q,r,s)=>(.r0 a b c d e f g h i j k l m n o p q r s)
def aX(a:Int)(b:Nat)(e:Nat)(f:Nat)(g:Nat)(h:Int)(i:Int)(j:Nat)(k:Nat)(c:Nat)(d:List Nat)(l:List Nat)(m:List Nat) :Option aU:=Option.map wF (bd ((uR b c d).run) fun (n,o,p) =>
  bd (cm (kJ n o p) (0,0)) fun q =>
  bd ((uU q).run) fun r =>
  bd (cm (kL a r) (0,a,b,e,f,g,h,i,j,k,c,0,0,0,0,d,l,m,([]:List Int),([]:List Int))) fun (s,t,u,v,w,x,y,z,A,B,C,D,E,F,G,H,I,J,K) =>
  (u6 s t u v w x y z A B C D E F G H I J K).run)
theorem Dc(a:Int)(b:Nat)(c:Nat)(d:Nat)(e:Nat)(f:Int)(g:Int)(i:Nat)(j:Nat)(k:Nat)(l:List Nat)(m:List Nat)(n:List Nat){x:aU}(h:aX a b c d e f g i j k l m n=some x) :aI prog lT [.vs [.int .i64 a,.sl 1 1 1 0 b c,.sl 2 1 1 0 d e,.int .i64 f,.int .i64 g,.sl 3 1 1 0 i j,.flt false k,.nsl,.nsl],.fl l,.fl m,.fl n] [.ptr 0 1 0 0] (qW x) :=
  LC false qW uP jE wF h (Sg.cut 2 bZ (cy fN (C9 a b c d e f g i j k l m n) [⟨[],[0,1,2,3,164],[0,2,17,18,19]⟩]) (fun ⟨o,p,q⟩=>Sg.cut 1 bZ (yB ⟨[],[0,1,2,3,4],[0,2,17,18,19]⟩ (ly a b c d e f g i j k l m n o p q) (vU a b c d e f g i j k l m n) 0 bZ (qF _) (fun ⟨s,t⟩=>Cv a b c d e f g i j k l m n o p q s t)) (fun P=>Sg.cut 2 bZ (cy fN (Db a b c d e f g i j k l m n) [⟨[],[0,1,2,3],[0,5,35,36]⟩]) (fun r=>Sg.cut 1 bZ (yB ⟨[(.cell 0 7,.own 1 1 (.ns .i64 ([]:List Int))),(.cell 0 8,.own 1 1 (.ns .i64 ([]:List Int)))],[0,1,2,3,4,5],[0,5,35,36]⟩ (kK a r) (uV) 2 bZ (qF _) (fun ⟨u,v,w,y,z,A,B,C,D,E,F,G,H,I,J,K,L,M,N,O⟩=>CA a b c d e f g i j k l m n r u v w y z A B C D E F G H I J K L M N O)) (fun ⟨Q,R,S,T,U,V,W,X,Y,Z,a0,a3,a4,a5,a7,a8,a9,b0,b1⟩=>cy fN uP [⟨[],[0,1,2,3,4,5],[]⟩])))))
    (fun ⟨b2,b3,b4,b5,b6,b7,b8,b9,c0,c1,c2,c3,c4,c5,c6,c7,c8,c9,d0⟩=>LB []) (fun x=>by cases x)
def lA:Option aU→Bool
  | some _=>true
  | none=>false
def pf:Option aU→Int
  | some (.r0 x _ _ _ _ _ _ _ _ _ _ _ _ _ _ _ _ _ _)=>x
  | _=>0
def pg:Option aU→Nat
  | some (.r0 _ x _ _ _ _ _ _ _ _ _ _ _ _ _ _ _ _ _)=>x
  | _=>0
def ph:Option aU→Nat
  | some (.r0 _ _ x _ _ _ _ _ _ _ _ _ _ _ _ _ _ _ _)=>x
  | _=>0
def pj:Option aU→Nat
  | some (.r0 _ _ _ x _ _ _ _ _ _ _ _ _ _ _ _ _ _ _)=>x
  | _=>0
def pk:Option aU→Nat
  | some (.r0 _ _ _ _ x _ _ _ _ _ _ _ _ _ _ _ _ _ _)=>x
  | _=>0
def pm:Option aU→Int
  | some (.r0 _ _ _ _ _ x _ _ _ _ _ _ _ _ _ _ _ _ _)=>x
  | _=>0
def pn:Option aU→Int
  | some (.r0 _ _ _ _ _ _ x _ _ _ _ _ _ _ _ _ _ _ _)=>x
  | _=>0
def po:Option aU→Nat
  | some (.r0 _ _ _ _ _ _ _ x _ _ _ _ _ _ _ _ _ _ _)=>x
  | _=>0
def pq:Option aU→Nat
  | some (.r0 _ _ _ _ _ _ _ _ x _ _ _ _ _ _ _ _ _ _)=>x
  | _=>0
def pr:Option aU→Nat
  | some (.r0 _ _ _ _ _ _ _ _ _ x _ _ _ _ _ _ _ _ _)=>x
  | _=>0
def ou:Option aU→Nat
  | some (.r0 _ _ _ _ _ _ _ _ _ _ x _ _ _ _ _ _ _ _)=>x
  | _=>0
def ov:Option aU→Nat
  | some (.r0 _ _ _ _ _ _ _ _ _ _ _ x _ _ _ _ _ _ _)=>x
  | _=>0
def ow:Option aU→Nat
  | some (.r0 _ _ _ _ _ _ _ _ _ _ _ _ x _ _ _ _ _ _)=>x
  | _=>0
def ox:Option aU→Nat
  | some (.r0 _ _ _ _ _ _ _ _ _ _ _ _ _ x _ _ _ _ _)=>x
  | _=>0
def oy:Option aU→List Nat
  | some (.r0 _ _ _ _ _ _ _ _ _ _ _ _ _ _ x _ _ _ _)=>x
  | _=>[]
def oz:Option aU→List Nat
  | some (.r0 _ _ _ _ _ _ _ _ _ _ _ _ _ _ _ x _ _ _)=>x
  | _=>[]
def oD:Option aU→List Nat
  | some (.r0 _ _ _ _ _ _ _ _ _ _ _ _ _ _ _ _ x _ _)=>x
  | _=>[]
def oE:Option aU→List Int
  | some (.r0 _ _ _ _ _ _ _ _ _ _ _ _ _ _ _ _ _ x _)=>x
  | _=>[]
def oF:Option aU→List Int
  | some (.r0 _ _ _ _ _ _ _ _ _ _ _ _ _ _ _ _ _ _ x)=>x
  | _=>[]
theorem Dd{x:Option aU}(h:lA x=true) :x=some (.r0 (pf x) (pg x) (ph x) (pj x) (pk x) (pm x) (pn x) (po x) (pq x) (pr x) (ou x) (ov x) (ow x) (ox x) (oy x) (oz x) (oD x) (oE x) (oF x)):=by
  unfold lA at h
  split at h<;>first | rfl | (cases h;done) | (rename_i y;cases y;rfl)
def wG:bC:=yz lT [.vs [.int .i64,.lsl0 1,.lsl0 2,.int .i64,.int .i64,.lsl0 3,.flt,.nsl,.nsl],.fl,.fl,.fl] (.cons (.lptr 0 1 0 0) .nil) fun x t=>(fun q=>[⟨qW (.r0 (pf q) (pg q) (ph q) (pj q) (pk q) (pm q) (pn q) (po q) (pq q) (pr q) (ou q) (ov q) (ow q) (ox q) (oy q) (oz q) (oD q) (oE q) (oF q)),[lA q]⟩]) (aX x.1.1 x.1.2.1.1 x.1.2.1.2 x.1.2.2.1.1 x.1.2.2.1.2 x.1.2.2.2.1 x.1.2.2.2.2.1 x.1.2.2.2.2.2.1.1 x.1.2.2.2.2.2.1.2 x.1.2.2.2.2.2.2.1 x.2.1 x.2.2.1 x.2.2.2.1)
theorem AY:cg prog wG:=nR fun x t=>(jG (fun h=>Dc x.1.1 x.1.2.1.1 x.1.2.1.2 x.1.2.2.1.1 x.1.2.2.1.2 x.1.2.2.2.1 x.1.2.2.2.2.1 x.1.2.2.2.2.2.1.1 x.1.2.2.2.2.2.1.2 x.1.2.2.2.2.2.2.1 x.2.1 x.2.2.1 x.2.2.2.1 (Dd h)) nS)
def wH:List bC:=wG::H8
theorem jU:cR prog (cX wH):=aZ AY fN
inductive bz where
inductive ag where
  | r0 (a:Int) (b:Nat) (c:Nat) (d:Nat) (e:Nat) (f:Int) (g:Int) (h:Nat) (i:Nat) (j:Nat) (k:Nat) (l:Nat) (m:Nat) (n:Nat) (o:List Nat) (p:List Nat) (q:List Nat) (r:List Int) (s:List Int) (t:Int) (u:Int) (v:Int) (w:Nat) (x:Nat) (y:List Nat)
def cU:bz→AE×aW:=fun x=>nomatch x
theorem eV:ye cU:=by intro x;cases x<;>(intro h;cases h)
theorem nj(id:Nat) :rB id cU:=by intro x;cases x<;>(intro h;cases h)
def fa:ag→rU
  | .r0 a b c d e f g h i j k l m n o p q r s t u v w x y=>⟨.tup [],[some (.vs [.ptr 1 1 0 0]),some (.vs [.int .i64 a,.sl 2 1 1 0 b c,.sl 3 1 1 0 d e,.int .i64 f,.int .i64 g,.sl 4 1 1 0 h i,.flt false j,.sl 5 1 1 0 k l,.sl 6 1 1 0 m n]),some (.fl o),some (.fl p),some (.fl q),some (.ns .i64 r),some (.ns .i64 s),some (.vs [.int .i64 t]),some (.vs [.int .i64 u,.int .i64 v,.sl 9 1 1 0 w x]),some (.fl y)]⟩
def hP:Int×Nat×Nat×Nat×Nat×Int×Int×Nat×Nat×Nat×Nat×Nat×Nat×Nat×(List Nat)×(List Nat)×(List Nat)×(List Int)×(List Int)×Int×Int×Int×Nat×Nat×(List Nat)→aW:=fun (a,b,c,d,e,f,g,h,i,j,k,l,m,n,o,p,q,r,s,t,u,v,w,x,y)=>⟨aw 29 [],[(0,.vs [.ptr 1 1 0 0]),(1,.vs [.int .i64 a,.sl 2 1 1 0 b c,.sl 3 1 1 0 d e,.int .i64 f,.int .i64 g,.sl 4 1 1 0 h i,.flt false j,.sl 5 1 1 0 k l,.sl 6 1 1 0 m n]),(2,.fl o),(3,.fl p),(4,.fl q),(5,.ns .i64 r),(6,.ns .i64 s),(7,.vs [.int .i64 t]),(8,.vs [.int .i64 u,.int .i64 v,.sl 9 1 1 0 w x]),(9,.fl y)],10⟩
def nk:List Code:=cS (ri aq)
def nm(a:Int)(b:Nat)(c:Nat)(d:Nat)(e:Nat)(f:Int)(g:Int)(h:Nat)(i:Nat)(j:Nat)(k:Nat)(l:Nat)(m:Nat)(n:Nat)(o:List Nat)(p:List Nat)(q:List Nat)(r:List Int)(s:List Int)(t:Int)(u:Int)(v:Int)(w:Nat)(x:Nat)(y:List Nat)(z:Int)(_:Unit) :aW:=⟨aw 29 [(0,.int .i64 z),(1,.fn (.func kB) [] [.ptr 0 1 0 0,.ptr 7 1 0 0]),(2,.ptr 0 1 0 0),(3,.ptr 8 1 0 0),(10,.int .i64 a),(11,.int .i64 (0:Int))],[(0,.vs [.ptr 1 1 0 0]),(1,.vs [.int .i64 a,.sl 2 1 1 0 b c,.sl 3 1 1 0 d e,.int .i64 f,.int .i64 g,.sl 4 1 1 0 h i,.flt false j,.sl 5 1 1 0 k l,.sl 6 1 1 0 m n]),(2,.fl o),(3,.fl p),(4,.fl q),(5,.ns .i64 r),(6,.ns .i64 s),(7,.vs [.int .i64 t]),(8,.vs [.int .i64 u,.int .i64 v,.sl 9 1 1 0 w x]),(9,.fl y)],10⟩
def hU:T ((Unit)⊕(bz)) :=
  .leaf (.inl ())
def cM(a:Int)(b:Nat)(c:Nat)(d:Nat)(e:Nat)(f:Int)(g:Int)(h:Nat)(i:Nat)(j:Nat)(k:Nat)(l:Nat)(m:Nat)(n:Nat)(o:List Nat)(p:List Nat)(q:List Nat)(r:List Int)(s:List Int)(t:Int)(u:Int)(v:Int)(w:Nat)(x:Nat)(y:Int) :Nat×(List Nat)→aW:=fun (z,A)=>⟨aw 29 [(0,.int .i64 y),(1,.fn (.func kB) [] [.ptr 0 1 0 0,.ptr 7 1 0 0]),(2,.ptr 0 1 0 0),(3,.ptr 8 1 0 0),(10,.int .i64 a),(11,.int .i64 ((z:Nat):Int))],[(0,.vs [.ptr 1 1 0 0]),(1,.vs [.int .i64 a,.sl 2 1 1 0 b c,.sl 3 1 1 0 d e,.int .i64 f,.int .i64 g,.sl 4 1 1 0 h i,.flt false j,.sl 5 1 1 0 k l,.sl 6 1 1 0 m n]),(2,.fl o),(3,.fl p),(4,.fl q),(5,.ns .i64 r),(6,.ns .i64 s),(7,.vs [.int .i64 t]),(8,.vs [.int .i64 u,.int .i64 v,.sl 9 1 1 0 w x]),(9,.fl A)],10⟩
def hX(a:Int)(b:Nat)(c:Nat)(d:Nat)(e:Nat)(f:Int)(g:Int)(h:Nat)(i:Nat)(j:Nat)(k:Nat)(l:Nat)(m:Nat)(n:Nat)(o:List Nat)(p:List Nat)(q:List Nat)(r:List Int)(s:List Int)(t:Int)(u:Int)(v:Int)(w:Nat)(x:Nat)(y:(List Nat)) :aW:=⟨aw 29 [],[(0,.vs [.ptr 1 1 0 0]),(1,.vs [.int .i64 a,.sl 2 1 1 0 b c,.sl 3 1 1 0 d e,.int .i64 f,.int .i64 g,.sl 4 1 1 0 h i,.flt false j,.sl 5 1 1 0 k l,.sl 6 1 1 0 m n]),(2,.fl o),(3,.fl p),(4,.fl q),(5,.ns .i64 r),(6,.ns .i64 s),(7,.vs [.int .i64 t]),(8,.vs [.int .i64 u,.int .i64 v,.sl 9 1 1 0 w x]),(9,.fl y)],10⟩
def nn:List Code:=cS (dh ((((nk.drop 1).take 1)).headD .skip))
def gN(b:Int)(g:Nat)(f:List Nat)(c:Int)(h:Nat)(d:Int)(a:Nat)(e:List Nat) :T ((Nat×(List Nat))⊕(((List Nat))⊕(bz))) :=
  .ask (decide (((a:Nat):Int)<b))
    (.need (fq .i64 (((a:Nat):Int)*b))<|.need (fq .i64 ((((a:Nat):Int)*b)+d))<|.need (fq .i64 (((a:Nat):Int)*b))<|.need (fq .i64 ((((a:Nat):Int)*b)+c))<|.need (fU ((((a:Nat):Int)*b)+c) g)<|.need (fi (Int.toNat ((((a:Nat):Int)*b)+c)) (List.length f))<|.need (fU ((((a:Nat):Int)*b)+d) h)<|.need (fi (Int.toNat ((((a:Nat):Int)*b)+d)) (List.length e))<|.need (fq .i64 (((a+1):Nat):Int))<|.leaf (.inl ((a+1),(List.set e (Int.toNat ((((a:Nat):Int)*b)+d)) (List.getD f (Int.toNat ((((a:Nat):Int)*b)+c)) 0)))))
    (.leaf (.inr (.inl e)))
def cH(a:Int)(b:Nat)(c:List Nat)(d:Int)(e:Nat)(f:Int) :Nat×(List Nat)→Option ((Nat×(List Nat))⊕(((List Nat))⊕(bz))):=fun (g,h) =>
  (gN a b c d e f g h).run
theorem mP(a:Int)(f:Nat)(g:Nat)(h:Nat)(i:Nat)(j:Int)(k:Int)(b:Nat)(l:Nat)(m:Nat)(n:Nat)(o:Nat)(p:Nat)(q:Nat)(r:List Nat)(s:List Nat)(c:List Nat)(t:List Int)(u:List Int)(d:Int)(v:Int)(w:Int)(e:Nat)(x:Nat)(B:List Nat)(y:Int)(z:Nat)(A:List Nat) :Sg prog [.vs [.ptr 1 1 0 0],.vs [.int .i64 a,.sl 2 1 1 0 f g,.sl 3 1 1 0 h i,.int .i64 j,.int .i64 k,.sl 4 1 1 0 b l,.flt false m,.sl 5 1 1 0 n o,.sl 6 1 1 0 p q],.fl r,.fl s,.fl c,.ns .i64 t,.ns .i64 u,.vs [.int .i64 d],.vs [.int .i64 v,.int .i64 w,.sl 9 1 1 0 e x],.fl B] nn (cM a f g h i j k b l m n o p q r s c t u d v w e x y (z,A)) (cH a b c d e y (z,A)) (cM a f g h i j k b l m n o p q r s c t u d v w e x y) (bW 0 (hX a f g h i j k b l m n o p q r s c t u d v w e x) cU):=by
  unfold cH;exact cy jU (cM a f g h i j k b l m n o p q r s c t u d v w e x y) [⟨[],[0,1,2,3,4,5,6,7,8,9],[0,1,2,3,10,11]⟩,⟨[],[0,1,2,3,4,5,6,7,8,9],[]⟩]
def gO(a:Int)(b:Nat)(c:Nat)(d:Nat)(e:Nat)(f:Int)(g:Int)(h:Nat)(i:Nat)(j:Nat)(k:Nat)(l:Nat)(m:Nat)(n:Nat)(o:List Nat)(p:List Nat)(q:List Nat)(r:List Int)(s:List Int)(t:Int)(u:Int)(v:Int)(w:Nat)(x:Nat)(y:List Nat) :T ((Int×Nat×Nat×Nat×Nat×Int×Int×Nat×Nat×Nat×Nat×Nat×Nat×Nat×(List Nat)×(List Nat)×(List Nat)×(List Int)×(List Int)×Int×Int×Int×Nat×Nat×(List Nat))⊕(bz)) :=
  .leaf (.inl (a,b,c,d,e,f,g,h,i,j,k,l,m,n,o,p,q,r,s,t,u,v,w,x,y))
def iv:(Int×Nat×Nat×Nat×Nat×Int×Int×Nat×Nat×Nat×Nat×Nat×Nat×Nat×(List Nat)×(List Nat)×(List Nat)×(List Int)×(List Int)×Int×Int×Int×Nat×Nat×(List Nat))⊕(bz)→ag
  | .inl (a,b,c,d,e,f,g,h,i,j,k,l,m,n,o,p,q,r,s,t,u,v,w,x,y)=>(.r0 a b c d e f g h i j k l m n o p q r s t u v w x y)
def ai(a:Int)(f:Nat)(g:Nat)(h:Nat)(i:Nat)(j:Int)(k:Int)(b:Nat)(l:Nat)(m:Nat)(n:Nat)(o:Nat)(p:Nat)(q:Nat)(r:List Nat)(s:List Nat)(c:List Nat)(t:List Int)(u:List Int)(d:Int)(v:Int)(w:Int)(e:Nat)(x:Nat)(y:List Nat)(z:Int) :Option ag:=Option.map iv (bd ((hU).run) fun _ =>
  bd (cm (cH a b c d e z) (0,y)) fun A =>
  (gO a f g h i j k b l m n o p q r s c t u d v w e x A).run)
theorem np(a:Int)(b:Nat)(c:Nat)(d:Nat)(e:Nat)(f:Int)(g:Int)(i:Nat)(j:Nat)(k:Nat)(l:Nat)(m:Nat)(n:Nat)(o:Nat)(p:List Nat)(q:List Nat)(r:List Nat)(s:List Int)(t:List Int)(u:Int)(v:Int)(w:Int)(y:Nat)(z:Nat)(B:List Nat)(A:Int){x:ag}(h:ai a b c d e f g i j k l m n o p q r s t u v w y z B A=some x) :aI prog aq [.vs [.ptr 1 1 0 0],.vs [.int .i64 a,.sl 2 1 1 0 b c,.sl 3 1 1 0 d e,.int .i64 f,.int .i64 g,.sl 4 1 1 0 i j,.flt false k,.sl 5 1 1 0 l m,.sl 6 1 1 0 n o],.fl p,.fl q,.fl r,.ns .i64 s,.ns .i64 t,.vs [.int .i64 u],.vs [.int .i64 v,.int .i64 w,.sl 9 1 1 0 y z],.fl B] [.int .i64 A,.fn (.func kB) [] [.ptr 0 1 0 0,.ptr 7 1 0 0],.ptr 0 1 0 0,.ptr 8 1 0 0] (fa x) :=
  LC false fa hP cU iv h (Sg.cut 1 eV (cy jU (nm a b c d e f g i j k l m n o p q r s t u v w y z B A) [⟨[],[0,1,2,3,4,5,6,7,8,9],[0,1,2,3,10,11]⟩]) (fun _=>Sg.cut 1 eV (yB ⟨[],[0,1,2,3,4,5,6,7,8,9],[0,1,2,3,10,11]⟩ (cM a b c d e f g i j k l m n o p q r s t u v w y z A) (hX a b c d e f g i j k l m n o p q r s t u v w y z) 0 eV (nj _) (fun ⟨C,D⟩=>mP a b c d e f g i j k l m n o p q r s t u v w y z B A C D)) (fun E=>cy jU hP [⟨[],[0,1,2,3,4,5,6,7,8,9],[]⟩])))
    (fun ⟨F,G,H,I,J,K,L,M,N,O,P,Q,R,S,T,U,V,W,X,Y,Z,a0,a2,a3,a4⟩=>LB []) (fun x=>by cases x)
def cN:Option ag→Bool
  | some _=>true
  | none=>false
def eg:Option ag→Int
  | some (.r0 x _ _ _ _ _ _ _ _ _ _ _ _ _ _ _ _ _ _ _ _ _ _ _ _)=>x
  | _=>0
def eh:Option ag→Nat
  | some (.r0 _ x _ _ _ _ _ _ _ _ _ _ _ _ _ _ _ _ _ _ _ _ _ _ _)=>x
  | _=>0
def ei:Option ag→Nat
  | some (.r0 _ _ x _ _ _ _ _ _ _ _ _ _ _ _ _ _ _ _ _ _ _ _ _ _)=>x
  | _=>0
def ej:Option ag→Nat
  | some (.r0 _ _ _ x _ _ _ _ _ _ _ _ _ _ _ _ _ _ _ _ _ _ _ _ _)=>x
  | _=>0
def ek:Option ag→Nat
  | some (.r0 _ _ _ _ x _ _ _ _ _ _ _ _ _ _ _ _ _ _ _ _ _ _ _ _)=>x
  | _=>0
def em:Option ag→Int
  | some (.r0 _ _ _ _ _ x _ _ _ _ _ _ _ _ _ _ _ _ _ _ _ _ _ _ _)=>x
  | _=>0
def en:Option ag→Int
  | some (.r0 _ _ _ _ _ _ x _ _ _ _ _ _ _ _ _ _ _ _ _ _ _ _ _ _)=>x
  | _=>0
def ep:Option ag→Nat
  | some (.r0 _ _ _ _ _ _ _ x _ _ _ _ _ _ _ _ _ _ _ _ _ _ _ _ _)=>x
  | _=>0
def er:Option ag→Nat
  | some (.r0 _ _ _ _ _ _ _ _ x _ _ _ _ _ _ _ _ _ _ _ _ _ _ _ _)=>x
  | _=>0
def eu:Option ag→Nat
  | some (.r0 _ _ _ _ _ _ _ _ _ x _ _ _ _ _ _ _ _ _ _ _ _ _ _ _)=>x
  | _=>0
def dv:Option ag→Nat
  | some (.r0 _ _ _ _ _ _ _ _ _ _ x _ _ _ _ _ _ _ _ _ _ _ _ _ _)=>x
  | _=>0
def dw:Option ag→Nat
  | some (.r0 _ _ _ _ _ _ _ _ _ _ _ x _ _ _ _ _ _ _ _ _ _ _ _ _)=>x
  | _=>0
def dx:Option ag→Nat
  | some (.r0 _ _ _ _ _ _ _ _ _ _ _ _ x _ _ _ _ _ _ _ _ _ _ _ _)=>x
  | _=>0
def dy:Option ag→Nat
  | some (.r0 _ _ _ _ _ _ _ _ _ _ _ _ _ x _ _ _ _ _ _ _ _ _ _ _)=>x
  | _=>0
def dz:Option ag→List Nat
  | some (.r0 _ _ _ _ _ _ _ _ _ _ _ _ _ _ x _ _ _ _ _ _ _ _ _ _)=>x
  | _=>[]
def dA:Option ag→List Nat
  | some (.r0 _ _ _ _ _ _ _ _ _ _ _ _ _ _ _ x _ _ _ _ _ _ _ _ _)=>x
  | _=>[]
def dB:Option ag→List Nat
  | some (.r0 _ _ _ _ _ _ _ _ _ _ _ _ _ _ _ _ x _ _ _ _ _ _ _ _)=>x
  | _=>[]
def dC:Option ag→List Int
  | some (.r0 _ _ _ _ _ _ _ _ _ _ _ _ _ _ _ _ _ x _ _ _ _ _ _ _)=>x
  | _=>[]
def dD:Option ag→List Int
  | some (.r0 _ _ _ _ _ _ _ _ _ _ _ _ _ _ _ _ _ _ x _ _ _ _ _ _)=>x
  | _=>[]
def gi:Option ag→Int
  | some (.r0 _ _ _ _ _ _ _ _ _ _ _ _ _ _ _ _ _ _ _ x _ _ _ _ _)=>x
  | _=>0
def dE:Option ag→Int
  | some (.r0 _ _ _ _ _ _ _ _ _ _ _ _ _ _ _ _ _ _ _ _ x _ _ _ _)=>x
  | _=>0
def dF:Option ag→Int
  | some (.r0 _ _ _ _ _ _ _ _ _ _ _ _ _ _ _ _ _ _ _ _ _ x _ _ _)=>x
  | _=>0
def dG:Option ag→Nat
  | some (.r0 _ _ _ _ _ _ _ _ _ _ _ _ _ _ _ _ _ _ _ _ _ _ x _ _)=>x
  | _=>0
def dH:Option ag→Nat
  | some (.r0 _ _ _ _ _ _ _ _ _ _ _ _ _ _ _ _ _ _ _ _ _ _ _ x _)=>x
  | _=>0
def dI:Option ag→List Nat
  | some (.r0 _ _ _ _ _ _ _ _ _ _ _ _ _ _ _ _ _ _ _ _ _ _ _ _ x)=>x
  | _=>[]
theorem nq{x:Option ag}(h:cN x=true) :x=some (.r0 (eg x) (eh x) (ei x) (ej x) (ek x) (em x) (en x) (ep x) (er x) (eu x) (dv x) (dw x) (dx x) (dy x) (dz x) (dA x) (dB x) (dC x) (dD x) (gi x) (dE x) (dF x) (dG x) (dH x) (dI x)):=by
  unfold cN at h
  split at h<;>first | rfl | (cases h;done) | (rename_i y;cases y;rfl)
def iw:bC:=yz aq [.vs [.lptr 1 1 0 0],.vs [.int .i64,.lsl0 2,.lsl0 3,.int .i64,.int .i64,.lsl0 4,.flt,.lsl0 5,.lsl0 6],.fl,.fl,.fl,.ns .i64,.ns .i64,.vs [.int .i64],.vs [.int .i64,.int .i64,.lsl0 9],.fl] (.cons (.int .i64) (.cons (.fn kB .nil (.cons (.lptr 0 1 0 0) (.cons (.lptr 7 1 0 0) .nil))) (.cons (.lptr 0 1 0 0) (.cons (.lptr 8 1 0 0) .nil)))) fun x t=>(fun q=>[⟨fa (.r0 (eg q) (eh q) (ei q) (ej q) (ek q) (em q) (en q) (ep q) (er q) (eu q) (dv q) (dw q) (dx q) (dy q) (dz q) (dA q) (dB q) (dC q) (dD q) (gi q) (dE q) (dF q) (dG q) (dH q) (dI q)),[cN q]⟩]) (ai x.2.1.1 x.2.1.2.1.1 x.2.1.2.1.2 x.2.1.2.2.1.1 x.2.1.2.2.1.2 x.2.1.2.2.2.1 x.2.1.2.2.2.2.1 x.2.1.2.2.2.2.2.1.1 x.2.1.2.2.2.2.2.1.2 x.2.1.2.2.2.2.2.2.1 x.2.1.2.2.2.2.2.2.2.1.1 x.2.1.2.2.2.2.2.2.2.1.2 x.2.1.2.2.2.2.2.2.2.2.1.1 x.2.1.2.2.2.2.2.2.2.2.1.2 x.2.2.1 x.2.2.2.1 x.2.2.2.2.1 x.2.2.2.2.2.1 x.2.2.2.2.2.2.1 x.2.2.2.2.2.2.2.1.1 x.2.2.2.2.2.2.2.2.1.1 x.2.2.2.2.2.2.2.2.1.2.1 x.2.2.2.2.2.2.2.2.1.2.2.1.1 x.2.2.2.2.2.2.2.2.1.2.2.1.2 x.2.2.2.2.2.2.2.2.2.1 t.1)
theorem lN:cg prog iw:=nR fun x t=>(jG (fun h=>np x.2.1.1 x.2.1.2.1.1 x.2.1.2.1.2 x.2.1.2.2.1.1 x.2.1.2.2.1.2 x.2.1.2.2.2.1 x.2.1.2.2.2.2.1 x.2.1.2.2.2.2.2.1.1 x.2.1.2.2.2.2.2.1.2 x.2.1.2.2.2.2.2.2.1 x.2.1.2.2.2.2.2.2.2.1.1 x.2.1.2.2.2.2.2.2.2.1.2 x.2.1.2.2.2.2.2.2.2.2.1.1 x.2.1.2.2.2.2.2.2.2.2.1.2 x.2.2.1 x.2.2.2.1 x.2.2.2.2.1 x.2.2.2.2.2.1 x.2.2.2.2.2.2.1 x.2.2.2.2.2.2.2.1.1 x.2.2.2.2.2.2.2.2.1.1 x.2.2.2.2.2.2.2.2.1.2.1 x.2.2.2.2.2.2.2.2.1.2.2.1.1 x.2.2.2.2.2.2.2.2.1.2.2.1.2 x.2.2.2.2.2.2.2.2.2.1 t.1 (nq h)) nS)
def iy:List bC:=iw::wH
theorem cz:cR prog (cX iy):=aZ lN jU
inductive be where
  | r0 (a:Int)
def fp:be→AE×aW
  | .r0 a=>(.ret,⟨aw 19 [(4,.int .i64 a)],[],0⟩)
theorem gV:ye fp:=by intro x;cases x<;>(intro h;cases h)
theorem rW(id:Nat) :rB id fp:=by intro x;cases x<;>(intro h;cases h)
def iz:be→rU
  | .r0 a=>⟨.int .i64 a,[]⟩
def rX:List Code:=cS (ri fY)
def rY(b:Lv)(a:List Nat)(_:Unit) :aW:=⟨aw 19 [(0,.imm b (.fl a) 1 1 0 (List.length a)),(1,.fn (.func qR) [] []),(7,.int .i64 (((List.length a):Nat):Int)),(8,.int .i64 (0:Int))],[],0⟩
def kt:T ((Unit)⊕(be)) :=
  .leaf (.inl ())
def fh(b:Lv)(a:List Nat)(c:Nat) :aW:=⟨aw 19 [(0,.imm b (.fl a) 1 1 0 (List.length a)),(1,.fn (.func qR) [] []),(7,.int .i64 (((List.length a):Nat):Int)),(8,.int .i64 ((c:Nat):Int))],[],0⟩
def ku(_:Unit) :aW:=⟨aw 19 [],[],0⟩
def rZ:List Code:=cS (dh ((((rX.drop 2).take 1)).headD .skip))
def kw(b:List Nat)(a:Nat) :T ((Nat)⊕((Unit)⊕(be))) :=
  .ask (decide (((a:Nat):Int)<(((List.length b):Nat):Int)))
    (.need (fU ((a:Nat):Int) (List.length b))<|.need (fi a (List.length b))<|.ask (zI (List.getD b a 0) (List.getD b a 0))
      (.leaf (.inr (.inr (.r0 ((a:Nat):Int)))))
      (.ask ((0:Int)==(0:Int))
        (.ask (KT (eY (List.getD b a 0)) 9218868437227405311)
          (.leaf (.inr (.inr (.r0 ((a:Nat):Int)))))
          (.need (fq .i64 (((a+1):Nat):Int))<|.leaf (.inl (a+1))))
        (.fail)))
    (.leaf (.inr (.inl ())))
def fe(a:List Nat) :Nat→Option ((Nat)⊕((Unit)⊕(be))):=fun b =>
  (kw a b).run
theorem rM(b:Lv)(a:List Nat)(c:Nat) :Sg prog [] rZ (fh b a c) (fe a c) (fh b a) (bW 0 ku fp):=by
  unfold fe;exact cy cz (fh b a) [⟨[],[],[4]⟩,⟨[],[],[4]⟩,⟨[],[],[0,1,7,8]⟩,⟨[],[],[]⟩]
def ki:T ((Empty)⊕(be)) :=
  .leaf (.inr (.r0 (-1:Int)))
def bP(a:List Nat) :Option be:=toX (bd ((kt).run) fun _ =>
  bd (cm (fe a) 0) fun _ =>
  (ki).run)
theorem r5(b:Lv)(a:List Nat){x:be}(h:bP a=some x) :aI prog fY [] [.imm b (.fl a) 1 1 0 (List.length a),.fn (.func qR) [] []] (iz x) :=
  IB false iz fp h (Sg.cut 2 gV (cy cz (rY b a) [⟨[],[],[0,1,7,8]⟩]) (fun _=>Sg.cut 1 gV (yB ⟨[],[],[0,1,7,8]⟩ (fh b a) (ku) 0 gV (rW _) (fun c=>rM b a c)) (fun _=>cy cz G3 [⟨[],[],[4]⟩])))
    (fun x=>by cases x with | r0 d=>exact Fi [.int .i64 d])
def dj:Option be→Bool
  | some _=>true
  | none=>false
def eX:Option be→Int
  | some (.r0 x)=>x
  | _=>0
theorem r6{x:Option be}(h:dj x=true) :x=some (.r0 (eX x)):=by
  unfold dj at h
  split at h<;>first | rfl | (cases h;done) | (rename_i y;cases y;rfl)
def lf:bC:=mW fY (.cons .fl (.cons (.fn qR .nil .nil) .nil)) fun t=>(fun q=>[⟨iz (.r0 (eX q)),[dj q]⟩]) (bP t.1.2)
theorem rl:cg prog lf:=ff fun t=>(fg (fun h=>r5 t.1.1 t.1.2 (r6 h)) gr)
def lh:List bC:=lf::iy
theorem bF:cR prog (cX lh):=aZ rl cz
inductive fT where
  | r0 (a:Nat)
def yo:fT→AE×aW
  | .r0 a=>(.ret,⟨aw 85 [(2,.int .i64 ((a:Nat):Int))],[],0⟩)
theorem qG:ye yo:=by intro x;cases x<;>(intro h;cases h)
theorem NR(id:Nat) :rB id yo:=by intro x;cases x<;>(intro h;cases h)
def CB:fT→rU
  | .r0 a=>⟨.int .i64 ((a:Nat):Int),[]⟩
def LM:List Code:=cS (ri BQ)
def NT(c:Lv)(a:List Nat)(d:Lv)(b:List Nat)(e:Nat)(f:Bool) :aW:=⟨aw 85 [(1,.ptr 0 1 0 0),(36,.bool false f)],[(0,.vs [.imm c (.fl a) 1 1 0 (List.length a),.imm d (.fl b) 1 1 0 (List.length b),.flt false e])],1⟩
def Eu(a:List Nat)(c:List Nat)(b:Nat) :T ((Bool)⊕(fT)) :=
  .ask ((((List.length a):Nat):Int)==(0:Int))
    (.leaf (.inl true))
    (.ask (decide ((((List.length a):Nat):Int)>(512:Int)))
      (.leaf (.inl true))
      (.ask ((((List.length c):Nat):Int) != (((List.length a):Nat):Int))
        (.leaf (.inl true))
        (.ask (!(KT b 0))
          (.leaf (.inl (!(zI b b))))
          (.leaf (.inl false)))))
def NU(d:Lv)(b:List Nat)(c:Lv)(a:List Nat)(e:Nat)(f:Bool) :aW:=⟨aw 85 [(1,.ptr 0 1 0 0),(3,.bool false f),(38,.imm c (.fl a) 1 1 0 (List.length a)),(39,.int .i64 (((List.length a):Nat):Int)),(40,.int .i64 (0:Int))],[(0,.vs [.imm d (.fl b) 1 1 0 (List.length b),.imm c (.fl a) 1 1 0 (List.length a),.flt false e])],1⟩
def Ev(a:Bool) :T ((Bool)⊕(fT)) :=
  .ask a
    (.leaf (.inr (.r0 2)))
    (.leaf (.inl false))
def wI(d:Lv)(b:List Nat)(c:Lv)(a:List Nat)(e:Nat) :Bool×Nat→aW:=fun (f,g)=>⟨aw 85 [(1,.ptr 0 1 0 0),(3,.bool false f),(38,.imm c (.fl a) 1 1 0 (List.length a)),(39,.int .i64 (((List.length a):Nat):Int)),(40,.int .i64 ((g:Nat):Int))],[(0,.vs [.imm d (.fl b) 1 1 0 (List.length b),.imm c (.fl a) 1 1 0 (List.length a),.flt false e])],1⟩
def F3(c:Lv)(a:List Nat)(d:Lv)(b:List Nat)(e:Nat)(f:Bool) :aW:=⟨aw 85 [(1,.ptr 0 1 0 0),(3,.bool false f)],[(0,.vs [.imm c (.fl a) 1 1 0 (List.length a),.imm d (.fl b) 1 1 0 (List.length b),.flt false e])],1⟩
def LN:List Code:=cS (dh (((((LM.drop 2).drop 3).take 1)).headD .skip))
def NV(d:Lv)(b:List Nat)(c:Lv)(a:List Nat)(e:Nat)(f:Nat)(g:Bool) :aW:=⟨aw 85 [(1,.ptr 0 1 0 0),(3,.bool false g),(38,.imm c (.fl a) 1 1 0 (List.length a)),(39,.int .i64 (((List.length a):Nat):Int)),(40,.int .i64 ((f:Nat):Int))],[(0,.vs [.imm d (.fl b) 1 1 0 (List.length b),.imm c (.fl a) 1 1 0 (List.length a),.flt false e])],1⟩
def Ew(b:List Nat)(c:List Nat)(d:Bool)(a:Nat) :T ((Bool)⊕((Bool)⊕(fT))) :=
  .ask (decide (((a:Nat):Int)<(((List.length c):Nat):Int)))
    (.need (fU ((a:Nat):Int) (List.length c))<|.need (fi a (List.length c))<|.ask d
      (.leaf (.inl true))
      (.ask (UE (List.getD c a 0) 0)
        (.leaf (.inl true))
        (.ask (decide (((a:Nat):Int)>(0:Int)))
          (.need (fU ((a:Nat):Int) (List.length b))<|.need (fi a (List.length b))<|.need (fq .i64 (((a:Nat):Int)-(1:Int)))<|.need (fU (((a:Nat):Int)-(1:Int)) (List.length b))<|.need (fi (Int.toNat (((a:Nat):Int)-(1:Int))) (List.length b))<|.leaf (.inl (Xg (List.getD b a 0) (List.getD b (Int.toNat (((a:Nat):Int)-(1:Int))) 0))))
          (.leaf (.inl false)))))
    (.leaf (.inr (.inl d)))
def Ex(a:Nat)(b:Bool) :T ((Bool×Nat)⊕((Bool)⊕(fT))) :=
  .need (fq .i64 (((a+1):Nat):Int))<|.leaf (.inl (b,(a+1)))
def vp(b:List Nat)(c:List Nat) :Bool×Nat→Option ((Bool×Nat)⊕((Bool)⊕(fT))):=fun (d,a) =>
  bd ((Ew b c d a).run) fun e =>
  (Ex a e).run
theorem LO(c:Lv)(a:List Nat)(d:Lv)(b:List Nat)(e:Nat)(g:Bool)(f:Nat) :Sg prog [] LN (wI c a d b e (g,f)) (vp a b (g,f)) (wI c a d b e) (bW 0 (F3 c a d b e) yo):=by
  unfold vp;exact Sg.cut 3 (ao qG) (cy bF (NV c a d b e f) [⟨[],[0],[1,3,38,39,40]⟩,⟨[],[0],[1,3,38,39,40]⟩,⟨[],[0],[1,3,38,39,40]⟩,⟨[],[0],[1,3,38,39,40]⟩,⟨[],[0],[1,3]⟩]) (fun h=>cy bF (wI c a d b e) [⟨[],[0],[1,3,38,39,40]⟩])
def NW(_:Unit) :aW:=⟨aw 85 [],[],0⟩
def Ey(a : List Nat)(b : List Nat)(c : Nat)(d : Bool) : T ((Unit) ⊕ (fT)) :=
  .ask d
    (.leaf (.inr (.r0 2)))
    (.ask (zI c c)
      (.leaf (.inr (.r0 10)))
      (.ask ((0:Int)==(0:Int))
        (.ask (KT (eY c) 9218868437227405311)
          (.leaf (.inr (.r0 10)))
          (.need (dg 0 (List.length a) a)<|.need (dj (bP (az 0 (List.length a) a)))<|.ask (decide ((eX (bP (az 0 (List.length a) a)))≥(0:Int)))
            (.leaf (.inr (.r0 10)))
            (.need (dg 0 (List.length b) b)<|.need (dj (bP (az 0 (List.length b) b)))<|.ask (decide ((eX (bP (az 0 (List.length b) b)))≥(0:Int)))
              (.leaf (.inr (.r0 10)))
              (.leaf (.inl ())))))
        (.fail)))
def Ez:T ((Empty)⊕(fT)) :=
  .leaf (.inr (.r0 0))
def mZ(a:List Nat)(b:List Nat)(c:Nat) :Option fT:=toX (bd ((Eu a b c).run) fun d =>
  bd ((Ev d).run) fun e =>
  bd (cm (vp a b) (e,0)) fun f =>
  bd ((Ey a b c f).run) fun _ =>
  (Ez).run)
theorem NX(d:Lv)(a:List Nat)(e:Lv)(b:List Nat)(c:Nat){x:fT}(h:mZ a b c=some x) :aI prog BQ [] [.agg [.imm d (.fl a) 1 1 0 (List.length a),.imm e (.fl b) 1 1 0 (List.length b),.flt false c]] (CB x) :=
  IB false CB yo h (Sg.cut 2 qG (cy bF (NT d a e b c) [⟨[],[0],[1,36]⟩,⟨[],[0],[1,36]⟩,⟨[],[0],[1,36]⟩,⟨[],[0],[1,36]⟩,⟨[],[0],[1,36]⟩]) (fun j=>Sg.cut 3 qG (cy bF (NU d a e b c) [⟨[],[],[2]⟩,⟨[],[0],[1,3,38,39,40]⟩]) (fun k=>Sg.cut 1 qG (yB ⟨[],[0],[1,3,38,39,40]⟩ (wI d a e b c) (F3 d a e b c) 0 qG (NR _) (fun ⟨f,g⟩=>LO d a e b c f g)) (fun l=>Sg.cut 1 qG (cy bF NW [⟨[],[],[2]⟩,⟨[],[],[2]⟩,⟨[],[],[2]⟩,⟨[],[],[2]⟩,⟨[],[],[2]⟩,⟨[],[],[]⟩]) (fun _=>cy bF G3 [⟨[],[],[2]⟩])))))
    (fun x=>by cases x with | r0 i=>exact Fi [.int .i64 ((i:Nat):Int)])
def sI:Option fT→Bool
  | some _=>true
  | none=>false
def th:Option fT→Nat
  | some (.r0 x)=>x
  | _=>0
theorem NY{x:Option fT}(h:sI x=true) :x=some (.r0 (th x)):=by
  unfold sI at h
  split at h<;>first | rfl | (cases h;done) | (rename_i y;cases y;rfl)
def H9:bC:=mW BQ (.cons (.agg (.cons .fl (.cons .fl (.cons (.flt false) .nil)))) .nil) fun t=>(fun q=>[⟨CB (.r0 (th q)),[sI q]⟩]) (mZ t.1.1.2 t.1.2.1.2 t.1.2.2.1)
theorem Km:cg prog H9:=ff fun t=>(fg (fun h=>NX t.1.1.1 t.1.1.2 t.1.2.1.1 t.1.2.1.2 t.1.2.2.1 (NY h)) gr)
def Ia:List bC:=H9::lh
theorem ti:cR prog (cX Ia):=aZ Km bF
inductive iA where
  | r0 (a:Nat)
def wJ:iA→AE×aW
  | .r0 a=>(.ret,⟨aw 32 [(4,.flt false a)],[],0⟩)
theorem yY:ye wJ:=by intro x;cases x<;>(intro h;cases h)
theorem LP(id:Nat) :rB id wJ:=by intro x;cases x<;>(intro h;cases h)
def Az:iA→rU
  | .r0 a=>⟨.flt false a,[]⟩
def LQ:List Code:=cS (ri z5)
def LR(d:Lv)(b:List Nat)(c:Lv)(a:List Nat)(e:Nat)(f:Int)(g:Nat)(_:Unit) :aW:=⟨aw 32 [(2,.ptr 0 1 0 0),(3,.ptr 1 1 0 0),(5,.flt false 0),(9,.imm c (.fl a) 1 1 0 (List.length a)),(10,.int .i64 (((List.length a):Nat):Int)),(11,.int .i64 (0:Int))],[(0,.vs [.imm d (.fl b) 1 1 0 (List.length b),.imm c (.fl a) 1 1 0 (List.length a),.flt false e]),(1,.vs [.int .i64 f,.flt false g])],2⟩
def EA:T ((Unit)⊕(iA)) :=
  .leaf (.inl ())
def vq(d:Lv)(b:List Nat)(c:Lv)(a:List Nat)(e:Nat)(f:Int)(g:Nat) :Nat×Nat→aW:=fun (h,i)=>⟨aw 32 [(2,.ptr 0 1 0 0),(3,.ptr 1 1 0 0),(5,.flt false h),(9,.imm c (.fl a) 1 1 0 (List.length a)),(10,.int .i64 (((List.length a):Nat):Int)),(11,.int .i64 ((i:Nat):Int))],[(0,.vs [.imm d (.fl b) 1 1 0 (List.length b),.imm c (.fl a) 1 1 0 (List.length a),.flt false e]),(1,.vs [.int .i64 f,.flt false g])],2⟩
def EB(c:Lv)(a:List Nat)(d:Lv)(b:List Nat)(e:Nat)(f:Nat) :aW:=⟨aw 32 [(2,.ptr 0 1 0 0),(5,.flt false f)],[(0,.vs [.imm c (.fl a) 1 1 0 (List.length a),.imm d (.fl b) 1 1 0 (List.length b),.flt false e])],1⟩
def LS:List Code:=cS (dh ((((LQ.drop 3).take 1)).headD .skip))
def EC(b:List Nat)(c:List Nat)(d:Int)(f:Nat)(e:Nat)(a:Nat) :T ((Nat×Nat)⊕((Nat)⊕(iA))) :=
  .ask (decide (((a:Nat):Int)<(((List.length c):Nat):Int)))
    (.need (fU ((a:Nat):Int) (List.length c))<|.need (fi a (List.length c))<|.need (fU ((a:Nat):Int) (List.length b))<|.need (fi a (List.length b))<|.need (fU d (List.length b))<|.need (fi (Int.toNat d) (List.length b))<|.need (fq .i64 (((a+1):Nat):Int))<|.leaf (.inl ((v3 e (fdiv (cY (List.getD c a 0) (List.getD c a 0)) (kZ (kZ (List.getD b a 0) (List.getD b (Int.toNat d) 0)) f))),(a+1))))
    (.leaf (.inr (.inl e)))
def tj(a:List Nat)(b:List Nat)(c:Int)(d:Nat) :Nat×Nat→Option ((Nat×Nat)⊕((Nat)⊕(iA))):=fun (e,f) =>
  (EC a b c d e f).run
theorem Kn(c:Lv)(a:List Nat)(d:Lv)(b:List Nat)(e:Nat)(f:Int)(g:Nat)(h:Nat)(i:Nat) :Sg prog [] LS (vq c a d b e f g (h,i)) (tj a b f g (h,i)) (vq c a d b e f g) (bW 0 (EB c a d b e) wJ):=by
  unfold tj;exact cy ti (vq c a d b e f g) [⟨[],[0,1],[2,3,5,9,10,11]⟩,⟨[],[0],[2,5]⟩]
def De(a:Nat)(b:Nat) :T ((Empty)⊕(iA)) :=
  .leaf (.inr (.r0 (v3 4607182418800017408 (cY a b))))
def iZ(a:List Nat)(b:List Nat)(c:Nat)(d:Int)(e:Nat) :Option iA:=toX (bd ((EA).run) fun _ =>
  bd (cm (tj a b d e) (0,0)) fun f =>
  (De c f).run)
theorem LT(d:Lv)(a:List Nat)(e:Lv)(b:List Nat)(c:Nat)(f:Int)(g:Nat){x:iA}(h:iZ a b c f g=some x) :aI prog z5 [] [.agg [.imm d (.fl a) 1 1 0 (List.length a),.imm e (.fl b) 1 1 0 (List.length b),.flt false c],.agg [.int .i64 f,.flt false g]] (Az x) :=
  IB false Az wJ h (Sg.cut 3 yY (cy ti (LR d a e b c f g) [⟨[],[0,16],[2,3,5,9,10,11]⟩]) (fun _=>Sg.cut 1 yY (yB ⟨[],[0,1],[2,3,5,9,10,11]⟩ (vq d a e b c f g) (EB d a e b c) 0 yY (LP _) (fun ⟨i,j⟩=>Kn d a e b c f g i j)) (fun l=>cy ti G3 [⟨[],[],[4]⟩])))
    (fun x=>by cases x with | r0 k=>exact Fi [.flt false k])
def pR:Option iA→Bool
  | some _=>true
  | none=>false
def pY:Option iA→Nat
  | some (.r0 x)=>x
  | _=>0
theorem LU{x:Option iA}(h:pR x=true) :x=some (.r0 (pY x)):=by
  unfold pR at h
  split at h<;>first | rfl | (cases h;done) | (rename_i y;cases y;rfl)
def F4:bC:=mW z5 (.cons (.agg (.cons .fl (.cons .fl (.cons (.flt false) .nil)))) (.cons (.agg (.cons (.int .i64) (.cons (.flt false) .nil))) .nil)) fun t=>(fun q=>[⟨Az (.r0 (pY q)),[pR q]⟩]) (iZ t.1.1.2 t.1.2.1.2 t.1.2.2.1 t.2.1.1 t.2.1.2.1)
theorem JD:cg prog F4:=ff fun t=>(fg (fun h=>LT t.1.1.1 t.1.1.2 t.1.2.1.1 t.1.2.1.2 t.1.2.2.1 t.2.1.1 t.2.1.2.1 (LU h)) gr)
def F5:List bC:=F4::Ia
theorem cj:cR prog (cX F5):=aZ JD ti
inductive bo where
  | r0 (a:Nat) (b:Nat) (c:Int) (d:Nat)
def qH:bo→AE×aW
  | .r0 a b c d=>(.ret,⟨aw 115 [(4,.ptr 0 1 0 0),(5,.int .i64 ((a:Nat):Int)),(6,.int .i64 ((b:Nat):Int))],[(0,.vs [.int .i64 c,.flt false d])],1⟩)
theorem da:ye qH:=by intro x;cases x<;>(intro h;cases h)
theorem yZ(id:Nat) :rB id qH:=by intro x;cases x<;>(intro h;cases h)
def AA:bo→rU
  | .r0 a b c d=>⟨.tup [.agg [.int .i64 c,.flt false d],.int .i64 ((a:Nat):Int),.int .i64 ((b:Nat):Int)],[]⟩
def nr:List Code:=cS (ri z4)
def LV(d:Lv)(a:List Nat)(e:Lv)(b:List Nat)(f:Nat)(c:Int)(g:Bool) :aW:=⟨aw 115 [(1,.int .i64 c),(2,.ptr 0 1 0 0),(4,.ptr 1 1 0 0),(9,.ptr 2 1 0 0),(10,.fn (.func gv) [] []),(11,.flt false 4607182418800017408),(27,.bool false g)],[(0,.vs [.imm d (.fl a) 1 1 0 (List.length a),.imm e (.fl b) 1 1 0 (List.length b),.flt false f]),(1,.vs [.int .i64 (0:Int),.flt false 0]),(2,.vs [.int .i64 c,.flt false 0])],3⟩
def Df(a:List Nat)(b:Int) :T ((Bool)⊕(bo)) :=
  .need (fq .i64 ((((List.length a):Nat):Int)-(1:Int)))<|.leaf (.inl (b==((((List.length a):Nat):Int)-(1:Int))))
def ED(c:Lv)(a:List Nat)(d:Lv)(b:List Nat)(e:Nat)(f:Int)(g:Nat) :aW:=⟨aw 115 [(2,.ptr 0 1 0 0),(4,.ptr 1 1 0 0),(8,.flt false g),(9,.ptr 2 1 0 0),(10,.fn (.func gv) [] []),(11,.flt false 4607182418800017408)],[(0,.vs [.imm c (.fl a) 1 1 0 (List.length a),.imm d (.fl b) 1 1 0 (List.length b),.flt false e]),(1,.vs [.int .i64 (0:Int),.flt false 0]),(2,.vs [.int .i64 f,.flt false 0])],3⟩
def EE(c:Lv)(a:List Nat)(d:Lv)(b:List Nat)(e:Nat) :Nat×Int→aW:=fun (f,g)=>⟨aw 115 [(2,.ptr 0 1 0 0),(4,.ptr 1 1 0 0),(8,.flt false f),(9,.ptr 2 1 0 0),(10,.fn (.func qB) [] []),(11,.flt false 13830554455654793216)],[(0,.vs [.imm c (.fl a) 1 1 0 (List.length a),.imm d (.fl b) 1 1 0 (List.length b),.flt false e]),(1,.vs [.int .i64 (0:Int),.flt false 0]),(2,.vs [.int .i64 g,.flt false 0])],3⟩
def Ko:List Code:=cS (IA ((((nr.drop 7).take 1)).headD .skip))
def LW(d:Lv)(b:List Nat)(c:Lv)(a:List Nat)(e:Nat)(f:Int)(_:Unit) :aW:=⟨aw 115 [(2,.ptr 0 1 0 0),(4,.ptr 1 1 0 0),(9,.ptr 2 1 0 0),(10,.fn (.func gv) [] []),(11,.flt false 4607182418800017408),(12,.flt false 0),(29,.imm c (.fl a) 1 1 0 (List.length a)),(30,.int .i64 (((List.length a):Nat):Int)),(31,.int .i64 (0:Int))],[(0,.vs [.imm d (.fl b) 1 1 0 (List.length b),.imm c (.fl a) 1 1 0 (List.length a),.flt false e]),(1,.vs [.int .i64 (0:Int),.flt false 0]),(2,.vs [.int .i64 f,.flt false 0])],3⟩
def Dg:T ((Unit)⊕(bo)) :=
  .leaf (.inl ())
def vr(d:Lv)(b:List Nat)(c:Lv)(a:List Nat)(e:Nat)(f:Int) :Nat×Nat→aW:=fun (g,h)=>⟨aw 115 [(2,.ptr 0 1 0 0),(4,.ptr 1 1 0 0),(9,.ptr 2 1 0 0),(10,.fn (.func gv) [] []),(11,.flt false 4607182418800017408),(12,.flt false g),(29,.imm c (.fl a) 1 1 0 (List.length a)),(30,.int .i64 (((List.length a):Nat):Int)),(31,.int .i64 ((h:Nat):Int))],[(0,.vs [.imm d (.fl b) 1 1 0 (List.length b),.imm c (.fl a) 1 1 0 (List.length a),.flt false e]),(1,.vs [.int .i64 (0:Int),.flt false 0]),(2,.vs [.int .i64 f,.flt false 0])],3⟩
def EF(c:Lv)(a:List Nat)(d:Lv)(b:List Nat)(e:Nat)(f:Int)(g:Nat) :aW:=⟨aw 115 [(2,.ptr 0 1 0 0),(4,.ptr 1 1 0 0),(9,.ptr 2 1 0 0),(10,.fn (.func gv) [] []),(11,.flt false 4607182418800017408),(12,.flt false g)],[(0,.vs [.imm c (.fl a) 1 1 0 (List.length a),.imm d (.fl b) 1 1 0 (List.length b),.flt false e]),(1,.vs [.int .i64 (0:Int),.flt false 0]),(2,.vs [.int .i64 f,.flt false 0])],3⟩
def Kp:List Code:=cS (dh ((((Ko.drop 2).take 1)).headD .skip))
def Dh(b:List Nat)(c:Nat)(a:Nat) :T ((Nat×Nat)⊕((Nat)⊕(bo))) :=
  .ask (decide (((a:Nat):Int)<(((List.length b):Nat):Int)))
    (.need (fU ((a:Nat):Int) (List.length b))<|.need (fi a (List.length b))<|.need (fq .i64 (((a+1):Nat):Int))<|.leaf (.inl ((v3 c (cY (List.getD b a 0) (List.getD b a 0))),(a+1))))
    (.leaf (.inr (.inl c)))
def tk(a:List Nat) :Nat×Nat→Option ((Nat×Nat)⊕((Nat)⊕(bo))):=fun (b,c) =>
  (Dh a b c).run
theorem Kq(b:Lv)(c:List Nat)(d:Lv)(a:List Nat)(e:Nat)(f:Int)(g:Nat)(h:Nat) :Sg prog [] Kp (vr b c d a e f (g,h)) (tk a (g,h)) (vr b c d a e f) (bW 0 (EF b c d a e f) qH):=by
  unfold tk;exact cy cj (vr b c d a e f) [⟨[],[0,1,2],[2,4,9,10,11,12,29,30,31]⟩,⟨[],[0,1,2],[2,4,9,10,11,12]⟩]
def Di(a:Nat)(b:Nat) :T (((Nat)⊕((Nat×Int)))⊕(bo)) :=
  .leaf (.inl (.inl (cY a b)))
def LX(d:Lv)(a:List Nat)(e:Lv)(b:List Nat)(f:Nat)(c:Int) :Nat×Bool→aW:=fun (g,h)=>⟨aw 115 [(1,.int .i64 c),(2,.ptr 0 1 0 0),(4,.ptr 1 1 0 0),(8,.flt false g),(9,.ptr 2 1 0 0),(10,.fn (.func gv) [] []),(11,.flt false 4607182418800017408),(69,.bool false h)],[(0,.vs [.imm d (.fl a) 1 1 0 (List.length a),.imm e (.fl b) 1 1 0 (List.length b),.flt false f]),(1,.vs [.int .i64 (0:Int),.flt false 0]),(2,.vs [.int .i64 c,.flt false 0])],3⟩
def Dj(a:List Nat)(c:List Nat)(d:Nat)(b:Int) :T ((Nat×Bool)⊕(bo)) :=
  .need (fq .i64 (b+(1:Int)))<|.need (fU (b+(1:Int)) (List.length a))<|.need (fi (Int.toNat (b+(1:Int))) (List.length a))<|.need (fU b (List.length a))<|.need (fi (Int.toNat b) (List.length a))<|.ask (zI (cY (kZ (List.getD a (Int.toNat (b+(1:Int))) 0) (List.getD a (Int.toNat b) 0)) 4602678819172646912) (cY (kZ (List.getD a (Int.toNat (b+(1:Int))) 0) (List.getD a (Int.toNat b) 0)) 4602678819172646912))
    (.leaf (.inl ((cY (kZ (List.getD a (Int.toNat (b+(1:Int))) 0) (List.getD a (Int.toNat b) 0)) 4602678819172646912),false)))
    (.ask ((0:Int)==(0:Int))
      (.ask (!(KT (eY (cY (kZ (List.getD a (Int.toNat (b+(1:Int))) 0) (List.getD a (Int.toNat b) 0)) 4602678819172646912)) 9218868437227405311))
        (.need (dg 0 (List.length a) a)<|.need (dg 0 (List.length c) c)<|.need (pR (iZ (az 0 (List.length a) a) (az 0 (List.length c) c) d b (cY (kZ (List.getD a (Int.toNat (b+(1:Int))) 0) (List.getD a (Int.toNat b) 0)) 4602678819172646912)))<|.leaf (.inl ((cY (kZ (List.getD a (Int.toNat (b+(1:Int))) 0) (List.getD a (Int.toNat b) 0)) 4602678819172646912),(!(XG (pY (iZ (az 0 (List.length a) a) (az 0 (List.length c) c) d b (cY (kZ (List.getD a (Int.toNat (b+(1:Int))) 0) (List.getD a (Int.toNat b) 0)) 4602678819172646912))) 0)))))
        (.leaf (.inl ((cY (kZ (List.getD a (Int.toNat (b+(1:Int))) 0) (List.getD a (Int.toNat b) 0)) 4602678819172646912),false))))
      (.fail))
def Dk(a:Int)(b:Nat)(c:Bool) :T (((Nat)⊕((Nat×Int)))⊕(bo)) :=
  .ask c
    (.need (fq .i64 (a+(1:Int)))<|.leaf (.inl (.inr (b,(a+(1:Int))))))
    (.leaf (.inl (.inl b)))
def Kr:List Code:=((nr.drop 7).drop 1)
def Ks(c:Lv)(a:List Nat)(d:Lv)(b:List Nat)(e:Nat)(f:Int)(g:Nat)(h:Bool) :aW:=⟨aw 115 [(2,.ptr 0 1 0 0),(4,.ptr 1 1 0 0),(8,.flt false g),(9,.ptr 2 1 0 0),(10,.fn (.func gv) [] []),(11,.flt false 4607182418800017408),(74,.bool false h)],[(0,.vs [.imm c (.fl a) 1 1 0 (List.length a),.imm d (.fl b) 1 1 0 (List.length b),.flt false e]),(1,.vs [.int .i64 (0:Int),.flt false 0]),(2,.vs [.int .i64 f,.flt false 0])],3⟩
def Dl(a:Nat) :T ((Bool)⊕(bo)) :=
  .ask (zI a a)
    (.leaf (.inl true))
    (.ask ((0:Int)==(0:Int))
      (.leaf (.inl (KT (eY a) 9218868437227405311)))
      (.fail))
def Kt(c:Lv)(a:List Nat)(d:Lv)(b:List Nat)(e:Nat)(f:Int)(g:Nat)(_:Unit) :aW:=⟨aw 115 [(2,.ptr 0 1 0 0),(4,.ptr 1 1 0 0),(9,.ptr 2 1 0 0),(10,.fn (.func gv) [] []),(11,.flt false 4607182418800017408),(15,.int .u64 (0:Int)),(16,.int .u64 ((g:Nat):Int)),(17,.int .i64 (0:Int))],[(0,.vs [.imm c (.fl a) 1 1 0 (List.length a),.imm d (.fl b) 1 1 0 (List.length b),.flt false e]),(1,.vs [.int .i64 (0:Int),.flt false 0]),(2,.vs [.int .i64 f,.flt false 0])],3⟩
def Dm(a:Nat)(b:Bool) :T (((Unit))⊕(bo)) :=
  .ask b
    (.leaf (.inr (.r0 0 10 (0:Int) 0)))
    (.alt 0
      (.need (!isNaN a)<|.leaf (.inl ()))
      (.alt 1
        (.need (isNaN a)<|.fail)
        (.fail)))
def Ku:List Code:=((Kr.drop 1).drop 3)
def tl(c:Lv)(a:List Nat)(d:Lv)(b:List Nat)(e:Nat)(f:Int) :Int×Int×Nat→aW:=fun (g,h,i)=>⟨aw 115 [(2,.ptr 0 1 0 0),(4,.ptr 1 1 0 0),(9,.ptr 2 1 0 0),(10,.fn (.func gv) [] []),(11,.flt false 4607182418800017408),(15,.int .u64 g),(16,.int .u64 h),(17,.int .i64 ((i:Nat):Int))],[(0,.vs [.imm c (.fl a) 1 1 0 (List.length a),.imm d (.fl b) 1 1 0 (List.length b),.flt false e]),(1,.vs [.int .i64 (0:Int),.flt false 0]),(2,.vs [.int .i64 f,.flt false 0])],3⟩
def Dn(a:Int) :Int×Nat→aW:=fun (b,c)=>⟨aw 115 [(4,.ptr 0 1 0 0),(9,.ptr 1 1 0 0),(11,.flt false 4607182418800017408),(16,.int .u64 b),(17,.int .i64 ((c:Nat):Int))],[(0,.vs [.int .i64 (0:Int),.flt false 0]),(1,.vs [.int .i64 a,.flt false 0])],2⟩
def Kv:List Code:=cS (dh (((Ku.take 1)).headD .skip))
def Kw(c:Lv)(a:List Nat)(d:Lv)(b:List Nat)(e:Nat)(f:Int)(g:Int)(h:Int)(i:Nat)(j:Bool) :aW:=⟨aw 115 [(2,.ptr 0 1 0 0),(4,.ptr 1 1 0 0),(9,.ptr 2 1 0 0),(10,.fn (.func gv) [] []),(11,.flt false 4607182418800017408),(15,.int .u64 g),(16,.int .u64 h),(17,.int .i64 ((i:Nat):Int)),(86,.bool false j)],[(0,.vs [.imm c (.fl a) 1 1 0 (List.length a),.imm d (.fl b) 1 1 0 (List.length b),.flt false e]),(1,.vs [.int .i64 (0:Int),.flt false 0]),(2,.vs [.int .i64 f,.flt false 0])],3⟩
def Do(a:Int)(b:Int) :T ((Bool)⊕((Int×Nat)⊕(bo))) :=
  .ask (decide (b>a))
    (.leaf (.inl (decide ((IntKind.u64.wrap (b-a))>(1:Int)))))
    (.leaf (.inl false))
def Dp(b:List Nat)(c:List Nat)(f:Nat)(g:Int)(a:Int)(d:Int)(e:Nat)(h:Bool) :T ((Int×Int×Nat)⊕((Int×Nat)⊕(bo))) :=
  .ask h
    (.need (decide ((0:Int)≤(1:Int)))<|.need (dg 0 (List.length b) b)<|.need (dg 0 (List.length c) c)<|.need (pR (iZ (az 0 (List.length b) b) (az 0 (List.length c) c) f g (cY 4607182418800017408 (Int.toNat (IntKind.u64.wrap (a+(Int.fdiv (IntKind.u64.wrap (d-a)) (2^(min (Int.toNat (1:Int)) (IntKind.u64.bits))))))))))<|.ask (XG (pY (iZ (az 0 (List.length b) b) (az 0 (List.length c) c) f g (cY 4607182418800017408 (Int.toNat (IntKind.u64.wrap (a+(Int.fdiv (IntKind.u64.wrap (d-a)) (2^(min (Int.toNat (1:Int)) (IntKind.u64.bits)))))))))) 0)
      (.need (fq .i64 (((e+1):Nat):Int))<|.leaf (.inl (a,(IntKind.u64.wrap (a+(Int.fdiv (IntKind.u64.wrap (d-a)) (2^(min (Int.toNat (1:Int)) (IntKind.u64.bits)))))),(e+1))))
      (.need (fq .i64 (((e+1):Nat):Int))<|.leaf (.inl ((IntKind.u64.wrap (a+(Int.fdiv (IntKind.u64.wrap (d-a)) (2^(min (Int.toNat (1:Int)) (IntKind.u64.bits)))))),d,(e+1)))))
    (.leaf (.inr (.inl (d,e))))
def tm(c:List Nat)(d:List Nat)(e:Nat)(f:Int) :Int×Int×Nat→Option ((Int×Int×Nat)⊕((Int×Nat)⊕(bo))):=fun (a,b,g) =>
  bd ((Do a b).run) fun h =>
  (Dp c d e f a b g h).run
theorem Kx(e:Lv)(b:List Nat)(f:Lv)(c:List Nat)(d:Nat)(a:Int)(g:Int)(h:Int)(i:Nat) :Sg prog [] Kv (tl e b f c d a (g,h,i)) (tm b c d a (g,h,i)) (tl e b f c d a) (bW 2 (Dn a) qH):=by
  unfold tm;exact Sg.cut 1 (ao da) (cy cj (Kw e b f c d a g h i) [⟨[],[0,1,2],[2,4,9,10,11,15,16,17,86]⟩,⟨[],[0,1,2],[2,4,9,10,11,15,16,17,86]⟩]) (fun j=>cy cj (tl e b f c d a) [⟨[],[0,1,2],[2,4,9,10,11,15,16,17]⟩,⟨[],[0,1,2],[2,4,9,10,11,15,16,17]⟩,⟨[],[1,2],[4,9,11,16,17]⟩])
def Dq(a:Int)(b:Int)(c:Nat) :T ((Empty)⊕(bo)) :=
  .leaf (.inr (.r0 c 0 a (cY 4607182418800017408 (Int.toNat b))))
def Ky:List Code:=((nr.drop 7).drop 1)
def Kz(c:Lv)(a:List Nat)(d:Lv)(b:List Nat)(e:Nat)(f:Nat)(g:Int)(h:Bool) :aW:=⟨aw 115 [(2,.ptr 0 1 0 0),(4,.ptr 1 1 0 0),(8,.flt false f),(9,.ptr 2 1 0 0),(10,.fn (.func qB) [] []),(11,.flt false 13830554455654793216),(74,.bool false h)],[(0,.vs [.imm c (.fl a) 1 1 0 (List.length a),.imm d (.fl b) 1 1 0 (List.length b),.flt false e]),(1,.vs [.int .i64 (0:Int),.flt false 0]),(2,.vs [.int .i64 g,.flt false 0])],3⟩
def Dr(a:Nat) :T ((Bool)⊕(bo)) :=
  .ask (zI a a)
    (.leaf (.inl true))
    (.ask ((0:Int)==(0:Int))
      (.leaf (.inl (KT (eY a) 9218868437227405311)))
      (.fail))
def KA(c:Lv)(a:List Nat)(d:Lv)(b:List Nat)(e:Nat)(f:Nat)(g:Int)(_:Unit) :aW:=⟨aw 115 [(2,.ptr 0 1 0 0),(4,.ptr 1 1 0 0),(9,.ptr 2 1 0 0),(10,.fn (.func qB) [] []),(11,.flt false 13830554455654793216),(15,.int .u64 (0:Int)),(16,.int .u64 ((f:Nat):Int)),(17,.int .i64 (0:Int))],[(0,.vs [.imm c (.fl a) 1 1 0 (List.length a),.imm d (.fl b) 1 1 0 (List.length b),.flt false e]),(1,.vs [.int .i64 (0:Int),.flt false 0]),(2,.vs [.int .i64 g,.flt false 0])],3⟩
def Ds(a:Nat)(b:Bool) :T (((Unit))⊕(bo)) :=
  .ask b
    (.leaf (.inr (.r0 0 10 (0:Int) 0)))
    (.alt 0
      (.need (!isNaN a)<|.leaf (.inl ()))
      (.alt 1
        (.need (isNaN a)<|.fail)
        (.fail)))
def KB:List Code:=((Ky.drop 1).drop 3)
def tn(c:Lv)(a:List Nat)(d:Lv)(b:List Nat)(e:Nat)(f:Int) :Int×Int×Nat→aW:=fun (g,h,i)=>⟨aw 115 [(2,.ptr 0 1 0 0),(4,.ptr 1 1 0 0),(9,.ptr 2 1 0 0),(10,.fn (.func qB) [] []),(11,.flt false 13830554455654793216),(15,.int .u64 g),(16,.int .u64 h),(17,.int .i64 ((i:Nat):Int))],[(0,.vs [.imm c (.fl a) 1 1 0 (List.length a),.imm d (.fl b) 1 1 0 (List.length b),.flt false e]),(1,.vs [.int .i64 (0:Int),.flt false 0]),(2,.vs [.int .i64 f,.flt false 0])],3⟩
def Dt(a:Int) :Int×Nat→aW:=fun (b,c)=>⟨aw 115 [(4,.ptr 0 1 0 0),(9,.ptr 1 1 0 0),(11,.flt false 13830554455654793216),(16,.int .u64 b),(17,.int .i64 ((c:Nat):Int))],[(0,.vs [.int .i64 (0:Int),.flt false 0]),(1,.vs [.int .i64 a,.flt false 0])],2⟩
def KC:List Code:=cS (dh (((KB.take 1)).headD .skip))
def KD(c:Lv)(a:List Nat)(d:Lv)(b:List Nat)(e:Nat)(f:Int)(g:Int)(h:Int)(i:Nat)(j:Bool) :aW:=⟨aw 115 [(2,.ptr 0 1 0 0),(4,.ptr 1 1 0 0),(9,.ptr 2 1 0 0),(10,.fn (.func qB) [] []),(11,.flt false 13830554455654793216),(15,.int .u64 g),(16,.int .u64 h),(17,.int .i64 ((i:Nat):Int)),(86,.bool false j)],[(0,.vs [.imm c (.fl a) 1 1 0 (List.length a),.imm d (.fl b) 1 1 0 (List.length b),.flt false e]),(1,.vs [.int .i64 (0:Int),.flt false 0]),(2,.vs [.int .i64 f,.flt false 0])],3⟩
def Du(a:Int)(b:Int) :T ((Bool)⊕((Int×Nat)⊕(bo))) :=
  .ask (decide (b>a))
    (.leaf (.inl (decide ((IntKind.u64.wrap (b-a))>(1:Int)))))
    (.leaf (.inl false))
def Dv(b:List Nat)(c:List Nat)(f:Nat)(g:Int)(a:Int)(d:Int)(e:Nat)(h:Bool) :T ((Int×Int×Nat)⊕((Int×Nat)⊕(bo))) :=
  .ask h
    (.need (decide ((0:Int)≤(1:Int)))<|.need (dg 0 (List.length b) b)<|.need (dg 0 (List.length c) c)<|.need (pR (iZ (az 0 (List.length b) b) (az 0 (List.length c) c) f g (cY 13830554455654793216 (Int.toNat (IntKind.u64.wrap (a+(Int.fdiv (IntKind.u64.wrap (d-a)) (2^(min (Int.toNat (1:Int)) (IntKind.u64.bits))))))))))<|.ask (Xg (pY (iZ (az 0 (List.length b) b) (az 0 (List.length c) c) f g (cY 13830554455654793216 (Int.toNat (IntKind.u64.wrap (a+(Int.fdiv (IntKind.u64.wrap (d-a)) (2^(min (Int.toNat (1:Int)) (IntKind.u64.bits)))))))))) 0)
      (.need (fq .i64 (((e+1):Nat):Int))<|.leaf (.inl (a,(IntKind.u64.wrap (a+(Int.fdiv (IntKind.u64.wrap (d-a)) (2^(min (Int.toNat (1:Int)) (IntKind.u64.bits)))))),(e+1))))
      (.need (fq .i64 (((e+1):Nat):Int))<|.leaf (.inl ((IntKind.u64.wrap (a+(Int.fdiv (IntKind.u64.wrap (d-a)) (2^(min (Int.toNat (1:Int)) (IntKind.u64.bits)))))),d,(e+1)))))
    (.leaf (.inr (.inl (d,e))))
def tp(c:List Nat)(d:List Nat)(e:Nat)(f:Int) :Int×Int×Nat→Option ((Int×Int×Nat)⊕((Int×Nat)⊕(bo))):=fun (a,b,g) =>
  bd ((Du a b).run) fun h =>
  (Dv c d e f a b g h).run
theorem KE(e:Lv)(b:List Nat)(f:Lv)(c:List Nat)(d:Nat)(a:Int)(g:Int)(h:Int)(i:Nat) :Sg prog [] KC (tn e b f c d a (g,h,i)) (tp b c d a (g,h,i)) (tn e b f c d a) (bW 2 (Dt a) qH):=by
  unfold tp;exact Sg.cut 1 (ao da) (cy cj (KD e b f c d a g h i) [⟨[],[0,1,2],[2,4,9,10,11,15,16,17,86]⟩,⟨[],[0,1,2],[2,4,9,10,11,15,16,17,86]⟩]) (fun j=>cy cj (tn e b f c d a) [⟨[],[0,1,2],[2,4,9,10,11,15,16,17]⟩,⟨[],[0,1,2],[2,4,9,10,11,15,16,17]⟩,⟨[],[1,2],[4,9,11,16,17]⟩])
def Dw(a:Int)(b:Int)(c:Nat) :T ((Empty)⊕(bo)) :=
  .leaf (.inr (.r0 c 0 a (cY 13830554455654793216 (Int.toNat b))))
def i8(b:List Nat)(c:List Nat)(d:Nat)(a:Int) :Option bo:=toX (bd ((Df b a).run) fun h =>
  bd ((bif h then bd ((Dg).run) fun _ =>
  bd (cm (tk c) (0,0)) fun i =>
  (Di d i).run else bd ((Dj b c d a).run) fun (j,k) =>
  (Dk a j k).run)) (Sum.elim (fun e =>
  bd ((Dl e).run) fun l =>
  bd ((Dm e l).run) (fun _ =>
  bd (cm (tm b c d a) ((0:Int),((e:Nat):Int),0)) fun (m,n) =>
  (Dq a m n).run)) (fun (f,g) =>
  bd ((Dr f).run) fun o =>
  bd ((Ds f o).run) (fun _ =>
  bd (cm (tp b c d g) ((0:Int),((f:Nat):Int),0)) fun (p,q) =>
  (Dw g p q).run))))
theorem LY(f:Lv)(a:List Nat)(g:Lv)(d:List Nat)(e:Nat)(i:Int){x:bo}(h:i8 a d e i=some x) :aI prog z4 [] [.agg [.imm f (.fl a) 1 1 0 (List.length a),.imm g (.fl d) 1 1 0 (List.length d),.flt false e],.int .i64 i] (AA x) :=
  IB false AA qH h (Sg.cut 7 da (cy cj (LV f a g d e i) [⟨[],[0,16,192],[1,2,4,9,10,11,27]⟩]) (fun m=>Sg.cut 1 da (C7 (c:=.tmp 27) (kn:=false) (b:=m) (by kernel_rfl:((nr.drop 7).take 1)=[.cond (.tmp 27) (IA ((((nr.drop 7).take 1)).headD .skip)) (No ((((nr.drop 7).take 1)).headD .skip))]) da (by kernel_rfl) (Sg.cut 2 da (cy cj (LW f a g d e i) [⟨[],[0,1,2],[2,4,9,10,11,12,29,30,31]⟩]) (fun _=>Sg.cut 1 da (yB ⟨[],[0,1,2],[2,4,9,10,11,12,29,30,31]⟩ (vr f a g d e i) (EF f a g d e i) 0 da (yZ _) (fun ⟨n,o⟩=>Kq f a g d e i n o)) (fun A=>cy cj (Sum.elim (ED f a g d e i) (EE f a g d e)) [⟨[],[0,1,2],[2,4,8,9,10,11]⟩]))) (Sg.cut 2 da (cy cj (LX f a g d e i) [⟨[],[0,1,2],[1,2,4,8,9,10,11,69]⟩,⟨[],[0,1,2],[1,2,4,8,9,10,11,69]⟩,⟨[],[0,1,2],[1,2,4,8,9,10,11,69]⟩]) (fun ⟨B,C⟩=>cy cj (Sum.elim (ED f a g d e i) (EE f a g d e)) [⟨[],[0,1,2],[2,4,8,9,10,11]⟩,⟨[],[0,1,2],[2,4,8,9,10,11]⟩]))) (X0 (fun k=>Sg.cut 1 da (cy cj (Ks f a g d e i k) [⟨[],[0,1,2],[2,4,8,9,10,11,74]⟩,⟨[],[0,1,2],[2,4,8,9,10,11,74]⟩]) (fun D=>Sg.cut 3 da (cy cj (Kt f a g d e i k) [⟨[],[1],[4,5,6]⟩,⟨[],[0,1,2],[2,4,9,10,11,15,16,17]⟩]) (fun _=>Sg.cut 1 da (yB ⟨[],[0,1,2],[2,4,9,10,11,15,16,17]⟩ (tl f a g d e i) (Dn i) 2 da (yZ _) (fun ⟨p,q,r⟩=>Kx f a g d e i p q r)) (fun ⟨E,F⟩=>cy cj G3 [⟨[],[0],[4,5,6]⟩])))) (fun ⟨l,j⟩=>Sg.cut 1 da (cy cj (Kz f a g d e l j) [⟨[],[0,1,2],[2,4,8,9,10,11,74]⟩,⟨[],[0,1,2],[2,4,8,9,10,11,74]⟩]) (fun G=>Sg.cut 3 da (cy cj (KA f a g d e l j) [⟨[],[1],[4,5,6]⟩,⟨[],[0,1,2],[2,4,9,10,11,15,16,17]⟩]) (fun _=>Sg.cut 1 da (yB ⟨[],[0,1,2],[2,4,9,10,11,15,16,17]⟩ (tn f a g d e j) (Dt j) 2 da (yZ _) (fun ⟨s,t,u⟩=>KE f a g d e j s t u)) (fun ⟨H,I⟩=>cy cj G3 [⟨[],[0],[4,5,6]⟩])))))))
    (fun x=>by cases x with | r0 v w y z=>exact Fi [.agg [.int .i64 y,.flt false z],.int .i64 ((v:Nat):Int),.int .i64 ((w:Nat):Int)])
def rm:Option bo→Bool
  | some _=>true
  | none=>false
def pZ:Option bo→Nat
  | some (.r0 x _ _ _)=>x
  | _=>0
def qa:Option bo→Nat
  | some (.r0 _ x _ _)=>x
  | _=>0
def rR:Option bo→Int
  | some (.r0 _ _ x _)=>x
  | _=>0
def rS:Option bo→Nat
  | some (.r0 _ _ _ x)=>x
  | _=>0
theorem LZ{x:Option bo}(h:rm x=true) :x=some (.r0 (pZ x) (qa x) (rR x) (rS x)):=by
  unfold rm at h
  split at h<;>first | rfl | (cases h;done) | (rename_i y;cases y;rfl)
def F6:bC:=mW z4 (.cons (.agg (.cons .fl (.cons .fl (.cons (.flt false) .nil)))) (.cons (.int .i64) .nil)) fun t=>(fun q=>[⟨AA (.r0 (pZ q) (qa q) (rR q) (rS q)),[rm q]⟩]) (i8 t.1.1.2 t.1.2.1.2 t.1.2.2.1 t.2.1)
theorem JE:cg prog F6:=ff fun t=>(fg (fun h=>LY t.1.1.1 t.1.1.2 t.1.2.1.1 t.1.2.1.2 t.1.2.2.1 t.2.1 (LZ h)) gr)
def F7:List bC:=F6::F5
theorem lB:cR prog (cX F7):=aZ JE cj
inductive dl where
  | r0 (a:Nat) (b:Nat) (c:Nat) (d:Nat) (e:Nat) (f:List Int) (g:List Nat)
def yp:dl→AE×aW
  | .r0 a b c d e f g=>(.ret,⟨aw 43 [(2,.sl 0 2 2 0 a b),(3,.int .i64 ((c:Nat):Int)),(4,.int .i64 ((d:Nat):Int))],[(0,.cols e [.ci .i64 f,.cf g])],1⟩)
theorem sJ:ye yp:=by intro x;cases x<;>(intro h;cases h)
theorem NZ(id:Nat) :rB id yp:=by intro x;cases x<;>(intro h;cases h)
def CC:dl→rU
  | .r0 a b c d e f g=>⟨.tup [.sl 0 2 2 0 a b,.int .i64 ((c:Nat):Int),.int .i64 ((d:Nat):Int)],[some (.cols e [.ci .i64 f,.cf g])]⟩
def L0:List Code:=cS (ri BP)
def N2(c:Lv)(a:List Nat)(d:Lv)(b:List Nat)(e:Nat)(f:Nat) :aW:=⟨aw 43 [(1,.ptr 0 1 0 0),(5,.int .i64 ((f:Nat):Int))],[(0,.vs [.imm c (.fl a) 1 1 0 (List.length a),.imm d (.fl b) 1 1 0 (List.length b),.flt false e])],1⟩
def EG(a:List Nat)(b:List Nat)(c:Nat) :T ((Nat)⊕(dl)) :=
  .need (dg 0 (List.length a) a)<|.need (dg 0 (List.length b) b)<|.need (sI (mZ (az 0 (List.length a) a) (az 0 (List.length b) b) c))<|.leaf (.inl (th (mZ (az 0 (List.length a) a) (az 0 (List.length b) b) c)))
def N3(c:Lv)(a:List Nat)(d:Lv)(b:List Nat)(e:Nat)(_:Unit) :aW:=⟨aw 43 [(1,.ptr 0 1 0 0),(6,.nsl),(7,.int .i64 (0:Int)),(19,.int .i64 (((List.length a):Nat):Int)),(20,.int .i64 (0:Int))],[(0,.vs [.imm c (.fl a) 1 1 0 (List.length a),.imm d (.fl b) 1 1 0 (List.length b),.flt false e])],1⟩
def EH(a:Nat) :T ((Unit)⊕(dl)) :=
  .ask (((a:Nat):Int) != (0:Int))
    (.leaf (.inr (.r0 0 0 0 a 0 ([]:List Int) ([]:List Nat))))
    (.leaf (.inl ()))
def wK(c:Lv)(a:List Nat)(d:Lv)(b:List Nat)(e:Nat) :Nat×Nat×Nat×Nat×Nat×(List Int)×(List Nat)→aW:=fun (f,g,h,i,j,k,l)=>⟨aw 43 [(1,.ptr 0 1 0 0),(6,.sl 1 2 2 0 f g),(7,.int .i64 ((h:Nat):Int)),(19,.int .i64 (((List.length a):Nat):Int)),(20,.int .i64 ((i:Nat):Int))],[(0,.vs [.imm c (.fl a) 1 1 0 (List.length a),.imm d (.fl b) 1 1 0 (List.length b),.flt false e]),(1,.cols j [.ci .i64 k,.cf l])],2⟩
def F8:Nat×Nat×Nat×Nat×(List Int)×(List Nat)→aW:=fun (a,b,c,d,e,f)=>⟨aw 43 [(6,.sl 0 2 2 0 a b),(7,.int .i64 ((c:Nat):Int))],[(0,.cols d [.ci .i64 e,.cf f])],1⟩
def L4:List Code:=cS (dh (((((L0.drop 2).drop 5).take 1)).headD .skip))
def N4(d:Lv)(a:List Nat)(e:Lv)(c:List Nat)(f:Nat)(g:Nat) :Nat×Nat×(List Int)×(List Nat)→aW:=fun (b,h,i,j)=>⟨aw 43 [(1,.ptr 0 1 0 0),(6,.sl 1 2 2 0 b b),(7,.int .i64 ((h:Nat):Int)),(19,.int .i64 (((List.length a):Nat):Int)),(20,.int .i64 ((g:Nat):Int))],[(0,.vs [.imm d (.fl a) 1 1 0 (List.length a),.imm e (.fl c) 1 1 0 (List.length c),.flt false f]),(1,.cols b [.ci .i64 i,.cf j])],2⟩
def EI(a:List Nat)(b:List Nat)(d:Nat)(e:Nat)(j:Nat)(f:Nat)(c:Nat)(g:Nat)(h:List Int)(i:List Nat) :T ((Nat×Nat×(List Int)×(List Nat))⊕((Nat×Nat×Nat×Nat×(List Int)×(List Nat))⊕(dl))) :=
  .ask (decide (((c:Nat):Int)<(((List.length a):Nat):Int)))
    (.need (dg 0 (List.length a) a)<|.need (dg 0 (List.length b) b)<|.need (rm (i8 (az 0 (List.length a) a) (az 0 (List.length b) b) d ((c:Nat):Int)))<|.ask ((((qa (i8 (az 0 (List.length a) a) (az 0 (List.length b) b) d ((c:Nat):Int))):Nat):Int) != (0:Int))
      (.leaf (.inr (.inr (.r0 0 0 0 (qa (i8 (az 0 (List.length a) a) (az 0 (List.length b) b) d ((c:Nat):Int))) 0 ([]:List Int) ([]:List Nat)))))
      (.need (kj ((e+1)*16) 140737488355328)<|.need (kj (e+1) 9223372036854775807)<|.need (kj 2 2)<|.need (kj e g)<|.need (fq .i64 (((f+(pZ (i8 (az 0 (List.length a) a) (az 0 (List.length b) b) d ((c:Nat):Int)))):Nat):Int))<|.leaf (.inl ((e+1),(f+(pZ (i8 (az 0 (List.length a) a) (az 0 (List.length b) b) d ((c:Nat):Int)))),((List.take e h)++[(rR (i8 (az 0 (List.length a) a) (az 0 (List.length b) b) d ((c:Nat):Int)))]),((List.take e i)++[(rS (i8 (az 0 (List.length a) a) (az 0 (List.length b) b) d ((c:Nat):Int)))])))))
    (.leaf (.inr (.inl (e,j,f,g,h,i))))
def EJ(b:Nat)(a:Nat)(c:Nat)(d:List Int)(e:List Nat) :T ((Nat×Nat×Nat×Nat×Nat×(List Int)×(List Nat))⊕((Nat×Nat×Nat×Nat×(List Int)×(List Nat))⊕(dl))) :=
  .need (fq .i64 (((b+1):Nat):Int))<|.leaf (.inl (a,a,c,(b+1),a,d,e))
def vt(b:List Nat)(c:List Nat)(d:Nat) :Nat×Nat×Nat×Nat×Nat×(List Int)×(List Nat)→Option ((Nat×Nat×Nat×Nat×Nat×(List Int)×(List Nat))⊕((Nat×Nat×Nat×Nat×(List Int)×(List Nat))⊕(dl))):=fun (e,f,g,a,h,i,j) =>
  bd ((EI b c d e f g a h i j).run) fun (k,l,m,n) =>
  (EJ a k l m n).run
theorem L5(d:Lv)(a:List Nat)(e:Lv)(b:List Nat)(c:Nat)(g:Nat)(h:Nat)(i:Nat)(f:Nat)(j:Nat)(k:List Int)(l:List Nat) :Sg prog [] L4 (wK d a e b c (g,h,i,f,j,k,l)) (vt a b c (g,h,i,f,j,k,l)) (wK d a e b c) (bW 0 F8 yp):=by
  unfold vt;exact Sg.cut 3 (ao sJ) (cy lB (N4 d a e b c f) [⟨[(.slot 2,.own 2 2 (.cols 0 [.ci .i64 ([]:List Int),.cf ([]:List Nat)]))],[322],[2,3,4]⟩,⟨[],[0,306],[1,6,7,19,20]⟩,⟨[],[1],[6,7]⟩]) (fun ⟨m,n,o,p⟩=>cy lB (wK d a e b c) [⟨[],[0,1],[1,6,7,19,20]⟩])
def EK(a:Nat)(b:Nat)(c:Nat)(d:Nat)(e:List Int)(f:List Nat) :T ((Empty)⊕(dl)) :=
  .leaf (.inr (.r0 a b c 0 d e f))
def ja(a:List Nat)(b:List Nat)(c:Nat) :Option dl:=toX (bd ((EG a b c).run) fun d =>
  bd ((EH d).run) fun _ =>
  bd (cm (vt a b c) (0,0,0,0,0,([]:List Int),([]:List Nat))) fun (e,f,g,h,i,j) =>
  (EK e f g h i j).run)
theorem N5(d:Lv)(a:List Nat)(e:Lv)(b:List Nat)(c:Nat){x:dl}(h:ja a b c=some x) :aI prog BP [] [.agg [.imm d (.fl a) 1 1 0 (List.length a),.imm e (.fl b) 1 1 0 (List.length b),.flt false c]] (CC x) :=
  IB false CC yp h (Sg.cut 2 sJ (cy lB (N2 d a e b c) [⟨[],[0],[1,5]⟩]) (fun r=>Sg.cut 5 sJ (cy lB (N3 d a e b c) [⟨[(.slot 2,.own 2 2 (.cols 0 [.ci .i64 ([]:List Int),.cf ([]:List Nat)]))],[97],[2,3,4]⟩,⟨[],[0],[1,6,7,19,20]⟩]) (fun _=>Sg.cut 1 sJ (yB ⟨[(.slot 6,.own 2 2 (.cols 0 [.ci .i64 ([]:List Int),.cf ([]:List Nat)]))],[0,1],[1,6,7,19,20]⟩ (wK d a e b c) (F8) 0 sJ (NZ _) (fun ⟨f,g,i,j,k,l,m⟩=>L5 d a e b c f g i j k l m)) (fun ⟨s,t,u,v,w,y⟩=>cy lB G3 [⟨[],[0],[2,3,4]⟩]))))
    (fun x=>by cases x with | r0 n o p q z A B=>exact Fi [.sl 0 2 2 0 n o,.int .i64 ((p:Nat):Int),.int .i64 ((q:Nat):Int)])
def wL:Option dl→Bool
  | some _=>true
  | none=>false
def xM:Option dl→Nat
  | some (.r0 x _ _ _ _ _ _)=>x
  | _=>0
def xN:Option dl→Nat
  | some (.r0 _ x _ _ _ _ _)=>x
  | _=>0
def xO:Option dl→Nat
  | some (.r0 _ _ x _ _ _ _)=>x
  | _=>0
def xP:Option dl→Nat
  | some (.r0 _ _ _ x _ _ _)=>x
  | _=>0
def xQ:Option dl→Nat
  | some (.r0 _ _ _ _ x _ _)=>x
  | _=>0
def xR:Option dl→List Int
  | some (.r0 _ _ _ _ _ x _)=>x
  | _=>[]
def xS:Option dl→List Nat
  | some (.r0 _ _ _ _ _ _ x)=>x
  | _=>[]
theorem N6{x:Option dl}(h:wL x=true) :x=some (.r0 (xM x) (xN x) (xO x) (xP x) (xQ x) (xR x) (xS x)):=by
  unfold wL at h
  split at h<;>first | rfl | (cases h;done) | (rename_i y;cases y;rfl)
def Ib:bC:=mW BP (.cons (.agg (.cons .fl (.cons .fl (.cons (.flt false) .nil)))) .nil) fun t=>(fun q=>[⟨CC (.r0 (xM q) (xN q) (xO q) (xP q) (xQ q) (xR q) (xS q)),[wL q]⟩]) (ja t.1.1.2 t.1.2.1.2 t.1.2.2.1)
theorem KF:cg prog Ib:=ff fun t=>(fg (fun h=>N5 t.1.1.1 t.1.1.2 t.1.2.1.1 t.1.2.1.2 t.1.2.2.1 (N6 h)) gr)
def Ic:List bC:=Ib::F7
theorem xT:cR prog (cX Ic):=aZ KF lB
inductive mQ where
  | r0 (a:Bool)
def JF:mQ→AE×aW
  | .r0 a=>(.ret,⟨aw 14 [(4,.bool false a)],[],0⟩)
theorem Pc:ye JF:=by intro x;cases x<;>(intro h;cases h)
def Ef:mQ→rU
  | .r0 a=>⟨.bool false a,[]⟩
def Pd(a:Bool) :aW:=⟨aw 14 [(4,.bool false a)],[],0⟩
def Id(b:List Nat)(a:Int) :T ((Bool)⊕(mQ)) :=
  .ask (decide (a≥(0:Int)))
    (.leaf (.inl (decide (a<(((List.length b):Nat):Int)))))
    (.leaf (.inl false))
def Pe(a:Bool) :T ((Empty)⊕(mQ)) :=
  .leaf (.inr (.r0 a))
def qX(a:List Nat)(b:Int) :Option mQ:=toX (bd ((Id a b).run) fun c =>
  (Pe c).run)
theorem Pf(d:Lv)(a:List Nat)(e:Lv)(b:List Nat)(f:Nat)(c:Int){x:mQ}(h:qX a c=some x) :aI prog Jh [] [.agg [.imm d (.fl a) 1 1 0 (List.length a),.imm e (.fl b) 1 1 0 (List.length b),.flt false f],.int .i64 c] (Ef x) :=
  IB false Ef JF h (Sg.cut 2 Pc (cy xT Pd [⟨[],[],[4]⟩,⟨[],[],[4]⟩]) (fun i=>cy xT G3 [⟨[],[],[4]⟩]))
    (fun x=>by cases x with | r0 g=>exact Fi [.bool false g])
def rA:Option mQ→Bool
  | some _=>true
  | none=>false
def rn:Option mQ→Bool
  | some (.r0 x)=>x
  | _=>false
theorem Pg{x:Option mQ}(h:rA x=true) :x=some (.r0 (rn x)):=by
  unfold rA at h
  split at h<;>first | rfl | (cases h;done) | (rename_i y;cases y;rfl)
def JG:bC:=mW Jh (.cons (.agg (.cons .fl (.cons .fl (.cons (.flt false) .nil)))) (.cons (.int .i64) .nil)) fun t=>(fun q=>[⟨Ef (.r0 (rn q)),[rA q]⟩]) (qX t.1.1.2 t.2.1)
theorem L6:cg prog JG:=ff fun t=>(fg (fun h=>Pf t.1.1.1 t.1.1.2 t.1.2.1.1 t.1.2.1.2 t.1.2.2.1 t.2.1 (Pg h)) gr)
def JH:List bC:=JG::Ic
theorem vu:cR prog (cX JH):=aZ L6 xT
inductive iB where
  | r0 (a:Nat) (b:Nat)
def F9:iB→AE×aW
  | .r0 a b=>(.ret,⟨aw 29 [(6,.flt false a),(7,.int .i64 ((b:Nat):Int))],[],0⟩)
theorem EL:ye F9:=by intro x;cases x<;>(intro h;cases h)
def AB:iB→rU
  | .r0 a b=>⟨.tup [.flt false a,.int .i64 ((b:Nat):Int)],[]⟩
def L7(c:Lv)(a:List Nat)(d:Lv)(b:List Nat)(e:Nat)(f:Int)(g:Int)(h:Nat)(i:Nat) :aW:=⟨aw 29 [(1,.int .i64 f),(3,.ptr 0 1 0 0),(5,.ptr 1 1 0 0),(8,.int .i64 ((i:Nat):Int))],[(0,.vs [.imm c (.fl a) 1 1 0 (List.length a),.imm d (.fl b) 1 1 0 (List.length b),.flt false e]),(1,.vs [.int .i64 g,.flt false h])],2⟩
def EM(a:List Nat)(b:List Nat)(c:Nat) :T ((Nat)⊕(iB)) :=
  .need (dg 0 (List.length a) a)<|.need (dg 0 (List.length b) b)<|.need (sI (mZ (az 0 (List.length a) a) (az 0 (List.length b) b) c))<|.leaf (.inl (th (mZ (az 0 (List.length a) a) (az 0 (List.length b) b) c)))
def L8(c:Lv)(a:List Nat)(d:Lv)(b:List Nat)(e:Nat)(f:Int)(g:Int)(h:Nat)(i:Bool) :aW:=⟨aw 29 [(1,.int .i64 f),(3,.ptr 0 1 0 0),(5,.ptr 1 1 0 0),(24,.bool false i)],[(0,.vs [.imm c (.fl a) 1 1 0 (List.length a),.imm d (.fl b) 1 1 0 (List.length b),.flt false e]),(1,.vs [.int .i64 g,.flt false h])],2⟩
def EN(a:List Nat)(b:List Nat)(c:Int)(d:Int)(e:Nat) :T ((Bool)⊕(iB)) :=
  .ask (((e:Nat):Int) != (0:Int))
    (.leaf (.inr (.r0 0 e)))
    (.need (dg 0 (List.length a) a)<|.need (dg 0 (List.length b) b)<|.need (rA (qX (az 0 (List.length a) a) d))<|.ask (!(rn (qX (az 0 (List.length a) a) d)))
      (.leaf (.inl true))
      (.need (dg 0 (List.length a) a)<|.need (dg 0 (List.length b) b)<|.need (rA (qX (az 0 (List.length a) a) c))<|.leaf (.inl (!(rn (qX (az 0 (List.length a) a) c))))))
def EO(a:List Nat)(b:Int)(c:Int)(d:Nat)(e:Bool) :T ((Empty)⊕(iB)) :=
  .ask e
    (.leaf (.inr (.r0 0 2)))
    (.need (fU b (List.length a))<|.need (fi (Int.toNat b) (List.length a))<|.need (fU c (List.length a))<|.need (fi (Int.toNat c) (List.length a))<|.leaf (.inr (.r0 (kZ (kZ (List.getD a (Int.toNat b) 0) (List.getD a (Int.toNat c) 0)) d) 0)))
def gj(a:List Nat)(b:List Nat)(e:Nat)(c:Int)(d:Int)(f:Nat) :Option iB:=toX (bd ((EM a b e).run) fun g =>
  bd ((EN a b c d g).run) fun h =>
  (EO a c d f h).run)
theorem L9(g:Lv)(a:List Nat)(i:Lv)(b:List Nat)(c:Nat)(d:Int)(e:Int)(f:Nat){x:iB}(h:gj a b c d e f=some x) :aI prog FC [] [.agg [.imm g (.fl a) 1 1 0 (List.length a),.imm i (.fl b) 1 1 0 (List.length b),.flt false c],.int .i64 d,.agg [.int .i64 e,.flt false f]] (AB x) :=
  IB false AB F9 h (Sg.cut 2 EL (cy vu (L7 g a i b c d e f) [⟨[],[0,16],[1,3,5,8]⟩]) (fun l=>Sg.cut 3 EL (cy vu (L8 g a i b c d e f) [⟨[],[],[6,7]⟩,⟨[],[0,1],[1,3,5,24]⟩,⟨[],[0,1],[1,3,5,24]⟩]) (fun m=>cy vu G3 [⟨[],[],[6,7]⟩,⟨[],[],[6,7]⟩])))
    (fun x=>by cases x with | r0 j k=>exact Fi [.flt false j,.int .i64 ((k:Nat):Int)])
def lI:Option iB→Bool
  | some _=>true
  | none=>false
def lC:Option iB→Nat
  | some (.r0 x _)=>x
  | _=>0
def BD:Option iB→Nat
  | some (.r0 _ x)=>x
  | _=>0
theorem Ma{x:Option iB}(h:lI x=true) :x=some (.r0 (lC x) (BD x)):=by
  unfold lI at h
  split at h<;>first | rfl | (cases h;done) | (rename_i y;cases y;rfl)
def Ga:bC:=mW FC (.cons (.agg (.cons .fl (.cons .fl (.cons (.flt false) .nil)))) (.cons (.int .i64) (.cons (.agg (.cons (.int .i64) (.cons (.flt false) .nil))) .nil))) fun t=>(fun q=>[⟨AB (.r0 (lC q) (BD q)),[lI q]⟩]) (gj t.1.1.2 t.1.2.1.2 t.1.2.2.1 t.2.1 t.2.2.1.1 t.2.2.1.2.1)
theorem JI:cg prog Ga:=ff fun t=>(fg (fun h=>L9 t.1.1.1 t.1.1.2 t.1.2.1.1 t.1.2.1.2 t.1.2.2.1 t.2.1 t.2.2.1.1 t.2.2.1.2.1 (Ma h)) gr)
def Gb:List bC:=Ga::JH
theorem rT:cR prog (cX Gb):=aZ JI vu
inductive cp where
  | r0 (a:Nat)
def kM:cp→AE×aW
  | .r0 a=>(.ret,⟨aw 42 [(4,.flt false a)],[],0⟩)
theorem pt:ye kM:=by intro x;cases x<;>(intro h;cases h)
theorem AZ(id:Nat) :rB id kM:=by intro x;cases x<;>(intro h;cases h)
def qg:cp→rU
  | .r0 a=>⟨.flt false a,[]⟩
def A0:List Code:=cS (ri eQ)
def A2(h:Int)(i:Lv)(j:Lv)(k:Int)(l:Lv)(b:List Nat)(m:Lv)(c:List Nat)(n:Int)(o:Int)(p:Lv)(d:List Nat)(q:Nat)(e:Lv)(a:List Int)(r:Lv)(f:List Int)(s:Lv)(t:Lv)(g:List Nat)(_:Unit) :aW:=⟨aw 42 [(0,.int .i64 h),(1,.iptr i (.vs [.iptr j (.vs [.int .i64 k,.imm l (.fl b) 1 1 0 (List.length b),.imm m (.fl c) 1 1 0 (List.length c),.int .i64 n,.int .i64 o,.imm p (.fl d) 1 1 0 (List.length d),.flt false q,.imm e (.ns .i64 a) 1 1 0 (List.length a),.imm r (.ns .i64 f) 1 1 0 (List.length f)]) 1 0 0]) 1 0 0),(2,.iptr s (.vs [.imm t (.fl g) 1 1 0 (List.length g)]) 1 0 0),(5,.flt false 0),(11,.imm e (.ns .i64 a) 1 1 0 (List.length a)),(12,.int .i64 (((List.length a):Nat):Int)),(13,.int .i64 (0:Int))],[],0⟩
def tH:T ((Unit)⊕(cp)) :=
  .leaf (.inl ())
def jV(h:Int)(i:Lv)(j:Lv)(k:Int)(l:Lv)(b:List Nat)(m:Lv)(c:List Nat)(n:Int)(o:Int)(p:Lv)(d:List Nat)(q:Nat)(e:Lv)(a:List Int)(r:Lv)(f:List Int)(s:Lv)(t:Lv)(g:List Nat) :Nat×Nat→aW:=fun (u,v)=>⟨aw 42 [(0,.int .i64 h),(1,.iptr i (.vs [.iptr j (.vs [.int .i64 k,.imm l (.fl b) 1 1 0 (List.length b),.imm m (.fl c) 1 1 0 (List.length c),.int .i64 n,.int .i64 o,.imm p (.fl d) 1 1 0 (List.length d),.flt false q,.imm e (.ns .i64 a) 1 1 0 (List.length a),.imm r (.ns .i64 f) 1 1 0 (List.length f)]) 1 0 0]) 1 0 0),(2,.iptr s (.vs [.imm t (.fl g) 1 1 0 (List.length g)]) 1 0 0),(5,.flt false u),(11,.imm e (.ns .i64 a) 1 1 0 (List.length a)),(12,.int .i64 (((List.length a):Nat):Int)),(13,.int .i64 ((v:Nat):Int))],[],0⟩
def tI(a:Nat) :aW:=⟨aw 42 [(5,.flt false a)],[],0⟩
def A4:List Code:=cS (dh ((((A0.drop 3).take 1)).headD .skip))
def tJ(c:Int)(d:Int)(e:List Nat)(b:List Int)(f:List Nat)(g:Nat)(a:Nat) :T ((Nat×Nat)⊕((Nat)⊕(cp))) :=
  .ask (decide (((a:Nat):Int)<(((List.length b):Nat):Int)))
    (.need (fU ((a:Nat):Int) (List.length b))<|.need (fi a (List.length b))<|.need (fq .i64 (c*d))<|.need (fq .i64 ((c*d)+(List.getD b a 0)))<|.need (fU ((c*d)+(List.getD b a 0)) (List.length e))<|.need (fi (Int.toNat ((c*d)+(List.getD b a 0))) (List.length e))<|.need (fU ((a:Nat):Int) (List.length f))<|.need (fi a (List.length f))<|.need (fq .i64 (((a+1):Nat):Int))<|.leaf (.inl ((v3 g (cY (List.getD e (Int.toNat ((c*d)+(List.getD b a 0))) 0) (List.getD f a 0))),(a+1))))
    (.leaf (.inr (.inl g)))
def jF(a:Int)(b:Int)(c:List Nat)(d:List Int)(e:List Nat) :Nat×Nat→Option ((Nat×Nat)⊕((Nat)⊕(cp))):=fun (f,g) =>
  (tJ a b c d e f g).run
theorem AC(a:Int)(f:Lv)(g:Lv)(b:Int)(h:Lv)(i:List Nat)(j:Lv)(k:List Nat)(l:Int)(m:Int)(n:Lv)(c:List Nat)(o:Nat)(p:Lv)(d:List Int)(q:Lv)(r:List Int)(s:Lv)(t:Lv)(e:List Nat)(u:Nat)(v:Nat) :Sg prog [] A4 (jV a f g b h i j k l m n c o p d q r s t e (u,v)) (jF a b c d e (u,v)) (jV a f g b h i j k l m n c o p d q r s t e) (bW 0 tI kM):=by
  unfold jF;exact cy rT (jV a f g b h i j k l m n c o p d q r s t e) [⟨[],[],[0,1,2,5,11,12,13]⟩,⟨[],[],[5]⟩]
def sK(a:Nat) :T ((Empty)⊕(cp)) :=
  .leaf (.inr (.r0 a))
def gw(a:Int)(b:Int)(c:List Nat)(d:List Int)(e:List Nat) :Option cp:=toX (bd ((tH).run) fun _ =>
  bd (cm (jF a b c d e) (0,0)) fun f =>
  (sK f).run)
theorem A5(d:Int)(j:Lv)(k:Lv)(e:Int)(l:Lv)(f:List Nat)(m:Lv)(g:List Nat)(n:Int)(o:Int)(p:Lv)(a:List Nat)(q:Nat)(r:Lv)(b:List Int)(s:Lv)(i:List Int)(t:Lv)(u:Lv)(c:List Nat){x:cp}(h:gw d e a b c=some x) :aI prog eQ [] [.int .i64 d,.iptr j (.vs [.iptr k (.vs [.int .i64 e,.imm l (.fl f) 1 1 0 (List.length f),.imm m (.fl g) 1 1 0 (List.length g),.int .i64 n,.int .i64 o,.imm p (.fl a) 1 1 0 (List.length a),.flt false q,.imm r (.ns .i64 b) 1 1 0 (List.length b),.imm s (.ns .i64 i) 1 1 0 (List.length i)]) 1 0 0]) 1 0 0,.iptr t (.vs [.imm u (.fl c) 1 1 0 (List.length c)]) 1 0 0] (qg x) :=
  IB false qg kM h (Sg.cut 3 pt (cy rT (A2 d j k e l f m g n o p a q r b s i t u c) [⟨[],[],[0,1,2,5,11,12,13]⟩]) (fun _=>Sg.cut 1 pt (yB ⟨[],[],[0,1,2,5,11,12,13]⟩ (jV d j k e l f m g n o p a q r b s i t u c) (tI) 0 pt (AZ _) (fun ⟨v,w⟩=>AC d j k e l f m g n o p a q r b s i t u c v w)) (fun z=>cy rT G3 [⟨[],[],[4]⟩])))
    (fun x=>by cases x with | r0 y=>exact Fi [.flt false y])
def jW:Option cp→Bool
  | some _=>true
  | none=>false
def mR:Option cp→Nat
  | some (.r0 x)=>x
  | _=>0
theorem A6{x:Option cp}(h:jW x=true) :x=some (.r0 (mR x)):=by
  unfold jW at h
  split at h<;>first | rfl | (cases h;done) | (rename_i y;cases y;rfl)
def u7:bC:=mW eQ (.cons (.int .i64) (.cons (.ivs (.cons (.ivs (.cons (.int .i64) (.cons .fl (.cons .fl (.cons (.int .i64) (.cons (.int .i64) (.cons .fl (.cons (.flt false) (.cons (.ns .i64) (.cons (.ns .i64) .nil))))))))) 1 0 0) .nil) 1 0 0) (.cons (.ivs (.cons .fl .nil) 1 0 0) .nil))) fun t=>(fun q=>[⟨qg (.r0 (mR q)),[jW q]⟩]) (gw t.1 t.2.1.2.1.2.1 t.2.1.2.1.2.2.2.2.2.2.1.2 t.2.1.2.1.2.2.2.2.2.2.2.2.1.2 t.2.2.1.2.1.2)
theorem zH:cg prog u7:=ff fun t=>(fg (fun h=>A5 t.1 t.2.1.1 t.2.1.2.1.1 t.2.1.2.1.2.1 t.2.1.2.1.2.2.1.1 t.2.1.2.1.2.2.1.2 t.2.1.2.1.2.2.2.1.1 t.2.1.2.1.2.2.2.1.2 t.2.1.2.1.2.2.2.2.1 t.2.1.2.1.2.2.2.2.2.1 t.2.1.2.1.2.2.2.2.2.2.1.1 t.2.1.2.1.2.2.2.2.2.2.1.2 t.2.1.2.1.2.2.2.2.2.2.2.1 t.2.1.2.1.2.2.2.2.2.2.2.2.1.1 t.2.1.2.1.2.2.2.2.2.2.2.2.1.2 t.2.1.2.1.2.2.2.2.2.2.2.2.2.1.1 t.2.1.2.1.2.2.2.2.2.2.2.2.2.1.2 t.2.2.1.1 t.2.2.1.2.1.1 t.2.2.1.2.1.2 (A6 h)) gr)
def u9:List bC:=u7::Gb
theorem gP:cR prog (cX u9):=aZ zH rT
inductive bk where
inductive ae where
  | r0 (a:Int) (b:Nat) (c:Nat) (d:Nat) (e:Nat) (f:Int) (g:Int) (h:Nat) (i:Nat) (j:Nat) (k:Nat) (l:Nat) (m:Nat) (n:Nat) (o:List Nat) (p:List Nat) (q:List Nat) (r:List Int) (s:List Int) (t:Nat) (u:Nat) (v:List Nat) (w:Int) (x:Int) (y:Nat) (z:Nat) (A:List Nat)
def cV:bk→AE×aW:=fun x=>nomatch x
theorem cO:ye cV:=by intro x;cases x<;>(intro h;cases h)
theorem nt(id:Nat) :rB id cV:=by intro x;cases x<;>(intro h;cases h)
def fb:ae→rU
  | .r0 a b c d e f g h i j k l m n o p q r s t u v w x y z A=>⟨.tup [],[some (.vs [.ptr 1 1 0 0]),some (.vs [.int .i64 a,.sl 2 1 1 0 b c,.sl 3 1 1 0 d e,.int .i64 f,.int .i64 g,.sl 4 1 1 0 h i,.flt false j,.sl 5 1 1 0 k l,.sl 6 1 1 0 m n]),some (.fl o),some (.fl p),some (.fl q),some (.ns .i64 r),some (.ns .i64 s),some (.vs [.sl 8 1 1 0 t u]),some (.fl v),some (.vs [.int .i64 w,.int .i64 x,.sl 10 1 1 0 y z]),some (.fl A)]⟩
def hY:Int×Nat×Nat×Nat×Nat×Int×Int×Nat×Nat×Nat×Nat×Nat×Nat×Nat×(List Nat)×(List Nat)×(List Nat)×(List Int)×(List Int)×Nat×Nat×(List Nat)×Int×Int×Nat×Nat×(List Nat)→aW:=fun (a,b,c,d,e,f,g,h,i,j,k,l,m,n,o,p,q,r,s,t,u,v,w,x,y,z,A)=>⟨aw 29 [],[(0,.vs [.ptr 1 1 0 0]),(1,.vs [.int .i64 a,.sl 2 1 1 0 b c,.sl 3 1 1 0 d e,.int .i64 f,.int .i64 g,.sl 4 1 1 0 h i,.flt false j,.sl 5 1 1 0 k l,.sl 6 1 1 0 m n]),(2,.fl o),(3,.fl p),(4,.fl q),(5,.ns .i64 r),(6,.ns .i64 s),(7,.vs [.sl 8 1 1 0 t u]),(8,.fl v),(9,.vs [.int .i64 w,.int .i64 x,.sl 10 1 1 0 y z]),(10,.fl A)],11⟩
def nu:List Code:=cS (ri aq)
def nv(a:Int)(b:Nat)(c:Nat)(d:Nat)(e:Nat)(f:Int)(g:Int)(h:Nat)(i:Nat)(j:Nat)(k:Nat)(l:Nat)(m:Nat)(n:Nat)(o:List Nat)(p:List Nat)(q:List Nat)(r:List Int)(s:List Int)(t:Nat)(u:Nat)(v:List Nat)(w:Int)(x:Int)(y:Nat)(z:Nat)(A:List Nat)(B:Int)(_:Unit) :aW:=⟨aw 29 [(0,.int .i64 B),(1,.fn (.func eQ) [] [.ptr 0 1 0 0,.ptr 7 1 0 0]),(2,.ptr 0 1 0 0),(3,.ptr 9 1 0 0),(10,.int .i64 a),(11,.int .i64 (0:Int))],[(0,.vs [.ptr 1 1 0 0]),(1,.vs [.int .i64 a,.sl 2 1 1 0 b c,.sl 3 1 1 0 d e,.int .i64 f,.int .i64 g,.sl 4 1 1 0 h i,.flt false j,.sl 5 1 1 0 k l,.sl 6 1 1 0 m n]),(2,.fl o),(3,.fl p),(4,.fl q),(5,.ns .i64 r),(6,.ns .i64 s),(7,.vs [.sl 8 1 1 0 t u]),(8,.fl v),(9,.vs [.int .i64 w,.int .i64 x,.sl 10 1 1 0 y z]),(10,.fl A)],11⟩
def gQ:T ((Unit)⊕(bk)) :=
  .leaf (.inl ())
def cP(a:Int)(b:Nat)(c:Nat)(d:Nat)(e:Nat)(f:Int)(g:Int)(h:Nat)(i:Nat)(j:Nat)(k:Nat)(l:Nat)(m:Nat)(n:Nat)(o:List Nat)(p:List Nat)(q:List Nat)(r:List Int)(s:List Int)(t:Nat)(u:Nat)(v:List Nat)(w:Int)(x:Int)(y:Nat)(z:Nat)(A:Int) :Nat×(List Nat)→aW:=fun (B,C)=>⟨aw 29 [(0,.int .i64 A),(1,.fn (.func eQ) [] [.ptr 0 1 0 0,.ptr 7 1 0 0]),(2,.ptr 0 1 0 0),(3,.ptr 9 1 0 0),(10,.int .i64 a),(11,.int .i64 ((B:Nat):Int))],[(0,.vs [.ptr 1 1 0 0]),(1,.vs [.int .i64 a,.sl 2 1 1 0 b c,.sl 3 1 1 0 d e,.int .i64 f,.int .i64 g,.sl 4 1 1 0 h i,.flt false j,.sl 5 1 1 0 k l,.sl 6 1 1 0 m n]),(2,.fl o),(3,.fl p),(4,.fl q),(5,.ns .i64 r),(6,.ns .i64 s),(7,.vs [.sl 8 1 1 0 t u]),(8,.fl v),(9,.vs [.int .i64 w,.int .i64 x,.sl 10 1 1 0 y z]),(10,.fl C)],11⟩
def ia(a:Int)(b:Nat)(c:Nat)(d:Nat)(e:Nat)(f:Int)(g:Int)(h:Nat)(i:Nat)(j:Nat)(k:Nat)(l:Nat)(m:Nat)(n:Nat)(o:List Nat)(p:List Nat)(q:List Nat)(r:List Int)(s:List Int)(t:Nat)(u:Nat)(v:List Nat)(w:Int)(x:Int)(y:Nat)(z:Nat)(A:(List Nat)) :aW:=⟨aw 29 [],[(0,.vs [.ptr 1 1 0 0]),(1,.vs [.int .i64 a,.sl 2 1 1 0 b c,.sl 3 1 1 0 d e,.int .i64 f,.int .i64 g,.sl 4 1 1 0 h i,.flt false j,.sl 5 1 1 0 k l,.sl 6 1 1 0 m n]),(2,.fl o),(3,.fl p),(4,.fl q),(5,.ns .i64 r),(6,.ns .i64 s),(7,.vs [.sl 8 1 1 0 t u]),(8,.fl v),(9,.vs [.int .i64 w,.int .i64 x,.sl 10 1 1 0 y z]),(10,.fl A)],11⟩
def mS:List Code:=cS (dh ((((nu.drop 1).take 1)).headD .skip))
def nw(a:Int)(b:Nat)(c:Nat)(d:Nat)(e:Nat)(f:Int)(g:Int)(h:Nat)(i:Nat)(j:Nat)(k:Nat)(l:Nat)(m:Nat)(n:Nat)(o:List Nat)(p:List Nat)(q:List Nat)(r:List Int)(s:List Int)(t:Nat)(u:Nat)(v:List Nat)(w:Int)(x:Int)(y:Nat)(z:Nat)(A:Int)(B:Nat)(C:(List Nat)) :aW:=⟨aw 29 [(0,.int .i64 A),(1,.fn (.func eQ) [] [.ptr 0 1 0 0,.ptr 7 1 0 0]),(2,.ptr 0 1 0 0),(3,.ptr 9 1 0 0),(10,.int .i64 a),(11,.int .i64 ((B:Nat):Int))],[(0,.vs [.ptr 1 1 0 0]),(1,.vs [.int .i64 a,.sl 2 1 1 0 b c,.sl 3 1 1 0 d e,.int .i64 f,.int .i64 g,.sl 4 1 1 0 h i,.flt false j,.sl 5 1 1 0 k l,.sl 6 1 1 0 m n]),(2,.fl o),(3,.fl p),(4,.fl q),(5,.ns .i64 r),(6,.ns .i64 s),(7,.vs [.sl 8 1 1 0 t u]),(8,.fl v),(9,.vs [.int .i64 w,.int .i64 x,.sl 10 1 1 0 y z]),(10,.fl C)],11⟩
def gR(a:Int)(k:Nat)(l:Nat)(d:Nat)(e:Nat)(m:Nat)(n:List Nat)(o:List Nat)(f:List Nat)(g:List Int)(p:List Int)(h:Nat)(i:List Nat)(q:Nat)(c:Int)(b:Nat)(j:List Nat) :T (((List Nat))⊕(((List Nat))⊕(bk))) :=
  .ask (decide (((b:Nat):Int)<a))
    (.need (fq .i64 (((b:Nat):Int)*a))<|.need (fq .i64 ((((b:Nat):Int)*a)+c))<|.need (dg 0 k n)<|.need (dg 0 l o)<|.need (dg 0 d f)<|.need (dg 0 e g)<|.need (dg 0 m p)<|.need (dg 0 h i)<|.need (jW (gw ((b:Nat):Int) a (az 0 d f) (az 0 e g) (az 0 h i)))<|.need (fU ((((b:Nat):Int)*a)+c) q)<|.need (fi (Int.toNat ((((b:Nat):Int)*a)+c)) (List.length j))<|.leaf (.inl (List.set j (Int.toNat ((((b:Nat):Int)*a)+c)) (mR (gw ((b:Nat):Int) a (az 0 d f) (az 0 e g) (az 0 h i))))))
    (.leaf (.inr (.inl j)))
def gS(a:Nat)(b:List Nat) :T ((Nat×(List Nat))⊕(((List Nat))⊕(bk))) :=
  .need (fq .i64 (((a+1):Nat):Int))<|.leaf (.inl ((a+1),b))
def cI(b:Int)(c:Nat)(d:Nat)(e:Nat)(f:Nat)(g:Nat)(h:List Nat)(i:List Nat)(j:List Nat)(k:List Int)(l:List Int)(m:Nat)(n:List Nat)(o:Nat)(p:Int) :Nat×(List Nat)→Option ((Nat×(List Nat))⊕(((List Nat))⊕(bk))):=fun (a,q) =>
  bd ((gR b c d e f g h i j k l m n o p a q).run) fun r =>
  (gS a r).run
theorem mT(a:Int)(b:Nat)(o:Nat)(c:Nat)(p:Nat)(q:Int)(r:Int)(d:Nat)(s:Nat)(t:Nat)(e:Nat)(u:Nat)(f:Nat)(v:Nat)(g:List Nat)(h:List Nat)(i:List Nat)(j:List Int)(k:List Int)(l:Nat)(w:Nat)(m:List Nat)(x:Int)(y:Int)(n:Nat)(z:Nat)(D:List Nat)(A:Int)(B:Nat)(C:List Nat) :Sg prog [.vs [.ptr 1 1 0 0],.vs [.int .i64 a,.sl 2 1 1 0 b o,.sl 3 1 1 0 c p,.int .i64 q,.int .i64 r,.sl 4 1 1 0 d s,.flt false t,.sl 5 1 1 0 e u,.sl 6 1 1 0 f v],.fl g,.fl h,.fl i,.ns .i64 j,.ns .i64 k,.vs [.sl 8 1 1 0 l w],.fl m,.vs [.int .i64 x,.int .i64 y,.sl 10 1 1 0 n z],.fl D] mS (cP a b o c p q r d s t e u f v g h i j k l w m x y n z A (B,C)) (cI a b c d e f g h i j k l m n A (B,C)) (cP a b o c p q r d s t e u f v g h i j k l w m x y n z A) (bW 0 (ia a b o c p q r d s t e u f v g h i j k l w m x y n z) cV):=by
  unfold cI;exact Sg.cut 3 (ao cO) (cy gP (nw a b o c p q r d s t e u f v g h i j k l w m x y n z A B) [⟨[],[0,1,2,3,4,5,6,7,8,9,10],[0,1,2,3,10,11]⟩,⟨[],[0,1,2,3,4,5,6,7,8,9,10],[]⟩]) (fun E=>cy gP (cP a b o c p q r d s t e u f v g h i j k l w m x y n z A) [⟨[],[0,1,2,3,4,5,6,7,8,9,10],[0,1,2,3,10,11]⟩])
def gT(a:Int)(b:Nat)(c:Nat)(d:Nat)(e:Nat)(f:Int)(g:Int)(h:Nat)(i:Nat)(j:Nat)(k:Nat)(l:Nat)(m:Nat)(n:Nat)(o:List Nat)(p:List Nat)(q:List Nat)(r:List Int)(s:List Int)(t:Nat)(u:Nat)(v:List Nat)(w:Int)(x:Int)(y:Nat)(z:Nat)(A:List Nat) :T ((Int×Nat×Nat×Nat×Nat×Int×Int×Nat×Nat×Nat×Nat×Nat×Nat×Nat×(List Nat)×(List Nat)×(List Nat)×(List Int)×(List Int)×Nat×Nat×(List Nat)×Int×Int×Nat×Nat×(List Nat))⊕(bk)) :=
  .leaf (.inl (a,b,c,d,e,f,g,h,i,j,k,l,m,n,o,p,q,r,s,t,u,v,w,x,y,z,A))
def iC:(Int×Nat×Nat×Nat×Nat×Int×Int×Nat×Nat×Nat×Nat×Nat×Nat×Nat×(List Nat)×(List Nat)×(List Nat)×(List Int)×(List Int)×Nat×Nat×(List Nat)×Int×Int×Nat×Nat×(List Nat))⊕(bk)→ae
  | .inl (a,b,c,d,e,f,g,h,i,j,k,l,m,n,o,p,q,r,s,t,u,v,w,x,y,z,A)=>(.r0 a b c d e f g h i j k l m n o p q r s t u v w x y z A)
def aj(a:Int)(b:Nat)(o:Nat)(c:Nat)(p:Nat)(q:Int)(r:Int)(d:Nat)(s:Nat)(t:Nat)(e:Nat)(u:Nat)(f:Nat)(v:Nat)(g:List Nat)(h:List Nat)(i:List Nat)(j:List Int)(k:List Int)(l:Nat)(w:Nat)(m:List Nat)(x:Int)(y:Int)(n:Nat)(z:Nat)(A:List Nat)(B:Int) :Option ae:=Option.map iC (bd ((gQ).run) fun _ =>
  bd (cm (cI a b c d e f g h i j k l m n B) (0,A)) fun C =>
  (gT a b o c p q r d s t e u f v g h i j k l w m x y n z C).run)
theorem nx(a:Int)(b:Nat)(c:Nat)(d:Nat)(e:Nat)(f:Int)(g:Int)(i:Nat)(j:Nat)(k:Nat)(l:Nat)(m:Nat)(n:Nat)(o:Nat)(p:List Nat)(q:List Nat)(r:List Nat)(s:List Int)(t:List Int)(u:Nat)(v:Nat)(w:List Nat)(y:Int)(z:Int)(A:Nat)(B:Nat)(D:List Nat)(C:Int){x:ae}(h:aj a b c d e f g i j k l m n o p q r s t u v w y z A B D C=some x) :aI prog aq [.vs [.ptr 1 1 0 0],.vs [.int .i64 a,.sl 2 1 1 0 b c,.sl 3 1 1 0 d e,.int .i64 f,.int .i64 g,.sl 4 1 1 0 i j,.flt false k,.sl 5 1 1 0 l m,.sl 6 1 1 0 n o],.fl p,.fl q,.fl r,.ns .i64 s,.ns .i64 t,.vs [.sl 8 1 1 0 u v],.fl w,.vs [.int .i64 y,.int .i64 z,.sl 10 1 1 0 A B],.fl D] [.int .i64 C,.fn (.func eQ) [] [.ptr 0 1 0 0,.ptr 7 1 0 0],.ptr 0 1 0 0,.ptr 9 1 0 0] (fb x) :=
  LC false fb hY cV iC h (Sg.cut 1 cO (cy gP (nv a b c d e f g i j k l m n o p q r s t u v w y z A B D C) [⟨[],[0,1,2,3,4,5,6,7,8,9,10],[0,1,2,3,10,11]⟩]) (fun _=>Sg.cut 1 cO (yB ⟨[],[0,1,2,3,4,5,6,7,8,9,10],[0,1,2,3,10,11]⟩ (cP a b c d e f g i j k l m n o p q r s t u v w y z A B C) (ia a b c d e f g i j k l m n o p q r s t u v w y z A B) 0 cO (nt _) (fun ⟨E,F⟩=>mT a b c d e f g i j k l m n o p q r s t u v w y z A B D C E F)) (fun G=>cy gP hY [⟨[],[0,1,2,3,4,5,6,7,8,9,10],[]⟩])))
    (fun ⟨H,I,J,K,L,M,N,O,P,Q,R,S,T,U,V,W,X,Y,Z,a0,a1,a3,a4,a5,a6,b0,b1⟩=>LB []) (fun x=>by cases x)
def cQ:Option ae→Bool
  | some _=>true
  | none=>false
def ev:Option ae→Int
  | some (.r0 x _ _ _ _ _ _ _ _ _ _ _ _ _ _ _ _ _ _ _ _ _ _ _ _ _ _)=>x
  | _=>0
def ew:Option ae→Nat
  | some (.r0 _ x _ _ _ _ _ _ _ _ _ _ _ _ _ _ _ _ _ _ _ _ _ _ _ _ _)=>x
  | _=>0
def ez:Option ae→Nat
  | some (.r0 _ _ x _ _ _ _ _ _ _ _ _ _ _ _ _ _ _ _ _ _ _ _ _ _ _ _)=>x
  | _=>0
def eD:Option ae→Nat
  | some (.r0 _ _ _ x _ _ _ _ _ _ _ _ _ _ _ _ _ _ _ _ _ _ _ _ _ _ _)=>x
  | _=>0
def eE:Option ae→Nat
  | some (.r0 _ _ _ _ x _ _ _ _ _ _ _ _ _ _ _ _ _ _ _ _ _ _ _ _ _ _)=>x
  | _=>0
def eF:Option ae→Int
  | some (.r0 _ _ _ _ _ x _ _ _ _ _ _ _ _ _ _ _ _ _ _ _ _ _ _ _ _ _)=>x
  | _=>0
def eG:Option ae→Int
  | some (.r0 _ _ _ _ _ _ x _ _ _ _ _ _ _ _ _ _ _ _ _ _ _ _ _ _ _ _)=>x
  | _=>0
def eH:Option ae→Nat
  | some (.r0 _ _ _ _ _ _ _ x _ _ _ _ _ _ _ _ _ _ _ _ _ _ _ _ _ _ _)=>x
  | _=>0
def eI:Option ae→Nat
  | some (.r0 _ _ _ _ _ _ _ _ x _ _ _ _ _ _ _ _ _ _ _ _ _ _ _ _ _ _)=>x
  | _=>0
def eJ:Option ae→Nat
  | some (.r0 _ _ _ _ _ _ _ _ _ x _ _ _ _ _ _ _ _ _ _ _ _ _ _ _ _ _)=>x
  | _=>0
def dJ:Option ae→Nat
  | some (.r0 _ _ _ _ _ _ _ _ _ _ x _ _ _ _ _ _ _ _ _ _ _ _ _ _ _ _)=>x
  | _=>0
def dK:Option ae→Nat
  | some (.r0 _ _ _ _ _ _ _ _ _ _ _ x _ _ _ _ _ _ _ _ _ _ _ _ _ _ _)=>x
  | _=>0
def dL:Option ae→Nat
  | some (.r0 _ _ _ _ _ _ _ _ _ _ _ _ x _ _ _ _ _ _ _ _ _ _ _ _ _ _)=>x
  | _=>0
def dM:Option ae→Nat
  | some (.r0 _ _ _ _ _ _ _ _ _ _ _ _ _ x _ _ _ _ _ _ _ _ _ _ _ _ _)=>x
  | _=>0
def dN:Option ae→List Nat
  | some (.r0 _ _ _ _ _ _ _ _ _ _ _ _ _ _ x _ _ _ _ _ _ _ _ _ _ _ _)=>x
  | _=>[]
def dO:Option ae→List Nat
  | some (.r0 _ _ _ _ _ _ _ _ _ _ _ _ _ _ _ x _ _ _ _ _ _ _ _ _ _ _)=>x
  | _=>[]
def dP:Option ae→List Nat
  | some (.r0 _ _ _ _ _ _ _ _ _ _ _ _ _ _ _ _ x _ _ _ _ _ _ _ _ _ _)=>x
  | _=>[]
def dQ:Option ae→List Int
  | some (.r0 _ _ _ _ _ _ _ _ _ _ _ _ _ _ _ _ _ x _ _ _ _ _ _ _ _ _)=>x
  | _=>[]
def dR:Option ae→List Int
  | some (.r0 _ _ _ _ _ _ _ _ _ _ _ _ _ _ _ _ _ _ x _ _ _ _ _ _ _ _)=>x
  | _=>[]
def gk:Option ae→Nat
  | some (.r0 _ _ _ _ _ _ _ _ _ _ _ _ _ _ _ _ _ _ _ x _ _ _ _ _ _ _)=>x
  | _=>0
def gl:Option ae→Nat
  | some (.r0 _ _ _ _ _ _ _ _ _ _ _ _ _ _ _ _ _ _ _ _ x _ _ _ _ _ _)=>x
  | _=>0
def gn:Option ae→List Nat
  | some (.r0 _ _ _ _ _ _ _ _ _ _ _ _ _ _ _ _ _ _ _ _ _ x _ _ _ _ _)=>x
  | _=>[]
def dS:Option ae→Int
  | some (.r0 _ _ _ _ _ _ _ _ _ _ _ _ _ _ _ _ _ _ _ _ _ _ x _ _ _ _)=>x
  | _=>0
def dT:Option ae→Int
  | some (.r0 _ _ _ _ _ _ _ _ _ _ _ _ _ _ _ _ _ _ _ _ _ _ _ x _ _ _)=>x
  | _=>0
def dU:Option ae→Nat
  | some (.r0 _ _ _ _ _ _ _ _ _ _ _ _ _ _ _ _ _ _ _ _ _ _ _ _ x _ _)=>x
  | _=>0
def dV:Option ae→Nat
  | some (.r0 _ _ _ _ _ _ _ _ _ _ _ _ _ _ _ _ _ _ _ _ _ _ _ _ _ x _)=>x
  | _=>0
def dW:Option ae→List Nat
  | some (.r0 _ _ _ _ _ _ _ _ _ _ _ _ _ _ _ _ _ _ _ _ _ _ _ _ _ _ x)=>x
  | _=>[]
theorem ny{x:Option ae}(h:cQ x=true) :x=some (.r0 (ev x) (ew x) (ez x) (eD x) (eE x) (eF x) (eG x) (eH x) (eI x) (eJ x) (dJ x) (dK x) (dL x) (dM x) (dN x) (dO x) (dP x) (dQ x) (dR x) (gk x) (gl x) (gn x) (dS x) (dT x) (dU x) (dV x) (dW x)):=by
  unfold cQ at h
  split at h<;>first | rfl | (cases h;done) | (rename_i y;cases y;rfl)
def iD:bC:=yz aq [.vs [.lptr 1 1 0 0],.vs [.int .i64,.lsl0 2,.lsl0 3,.int .i64,.int .i64,.lsl0 4,.flt,.lsl0 5,.lsl0 6],.fl,.fl,.fl,.ns .i64,.ns .i64,.vs [.lsl0 8],.fl,.vs [.int .i64,.int .i64,.lsl0 10],.fl] (.cons (.int .i64) (.cons (.fn eQ .nil (.cons (.lptr 0 1 0 0) (.cons (.lptr 7 1 0 0) .nil))) (.cons (.lptr 0 1 0 0) (.cons (.lptr 9 1 0 0) .nil)))) fun x t=>(fun q=>[⟨fb (.r0 (ev q) (ew q) (ez q) (eD q) (eE q) (eF q) (eG q) (eH q) (eI q) (eJ q) (dJ q) (dK q) (dL q) (dM q) (dN q) (dO q) (dP q) (dQ q) (dR q) (gk q) (gl q) (gn q) (dS q) (dT q) (dU q) (dV q) (dW q)),[cQ q]⟩]) (aj x.2.1.1 x.2.1.2.1.1 x.2.1.2.1.2 x.2.1.2.2.1.1 x.2.1.2.2.1.2 x.2.1.2.2.2.1 x.2.1.2.2.2.2.1 x.2.1.2.2.2.2.2.1.1 x.2.1.2.2.2.2.2.1.2 x.2.1.2.2.2.2.2.2.1 x.2.1.2.2.2.2.2.2.2.1.1 x.2.1.2.2.2.2.2.2.2.1.2 x.2.1.2.2.2.2.2.2.2.2.1.1 x.2.1.2.2.2.2.2.2.2.2.1.2 x.2.2.1 x.2.2.2.1 x.2.2.2.2.1 x.2.2.2.2.2.1 x.2.2.2.2.2.2.1 x.2.2.2.2.2.2.2.1.1.1 x.2.2.2.2.2.2.2.1.1.2 x.2.2.2.2.2.2.2.2.1 x.2.2.2.2.2.2.2.2.2.1.1 x.2.2.2.2.2.2.2.2.2.1.2.1 x.2.2.2.2.2.2.2.2.2.1.2.2.1.1 x.2.2.2.2.2.2.2.2.2.1.2.2.1.2 x.2.2.2.2.2.2.2.2.2.2.1 t.1)
theorem lO:cg prog iD:=nR fun x t=>(jG (fun h=>nx x.2.1.1 x.2.1.2.1.1 x.2.1.2.1.2 x.2.1.2.2.1.1 x.2.1.2.2.1.2 x.2.1.2.2.2.1 x.2.1.2.2.2.2.1 x.2.1.2.2.2.2.2.1.1 x.2.1.2.2.2.2.2.1.2 x.2.1.2.2.2.2.2.2.1 x.2.1.2.2.2.2.2.2.2.1.1 x.2.1.2.2.2.2.2.2.2.1.2 x.2.1.2.2.2.2.2.2.2.2.1.1 x.2.1.2.2.2.2.2.2.2.2.1.2 x.2.2.1 x.2.2.2.1 x.2.2.2.2.1 x.2.2.2.2.2.1 x.2.2.2.2.2.2.1 x.2.2.2.2.2.2.2.1.1.1 x.2.2.2.2.2.2.2.1.1.2 x.2.2.2.2.2.2.2.2.1 x.2.2.2.2.2.2.2.2.2.1.1 x.2.2.2.2.2.2.2.2.2.1.2.1 x.2.2.2.2.2.2.2.2.2.1.2.2.1.1 x.2.2.2.2.2.2.2.2.2.1.2.2.1.2 x.2.2.2.2.2.2.2.2.2.2.1 t.1 (ny h)) nS)
def iE:List bC:=iD::u9
theorem ac:cR prog (cX iE):=aZ lO gP
end
end Go.Plb.Seat
