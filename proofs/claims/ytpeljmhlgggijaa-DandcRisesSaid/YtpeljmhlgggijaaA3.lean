/-
  Part 3 of what the claim leans on: an evaluator of the model, proved sound; the contracts of the functions.
-/
import Derived.Test.YtpeljmhlgggijaaA2
namespace Go.Plb.Seat
open Go Go.Plb
set_option linter.unusedVariables false
set_option maxRecDepth 100000
noncomputable section
inductive dW where
  | r0 (a:Nat) (b:Nat) (c:Nat) (d:Nat) (e:Int) (f:Int) (g:Nat) (h:Nat) (i:List Nat) (j:List Nat) (k:List Nat)
inductive bI where
  | r0 (a:Nat) (b:Nat) (c:Nat) (d:Nat) (e:Int) (f:Int) (g:Nat) (h:Nat) (i:List Nat) (j:List Nat) (k:List Nat)
def qj:dW→AE×aW
  | .r0 a b c d e f g h i j k=>(.ret,⟨ax 162 [],[(0,.vs [.sl 1 1 1 0 a b,.sl 2 1 1 0 c d,.int .i64 e,.int .i64 f,.sl 3 1 1 0 g h]),(1,.fl i),(2,.fl j),(3,.fl k)],4⟩)
theorem fj:xN qj:=by intro x;cases x<;>(intro h;cases h)
theorem yu(id:Nat) :rh id qj:=by intro x;cases x<;>(intro h;cases h)
def tZ:bI→rF
  | .r0 a b c d e f g h i j k=>⟨.tup [],[some (.vs [.sl 1 1 1 0 a b,.sl 2 1 1 0 c d,.int .i64 e,.int .i64 f,.sl 3 1 1 0 g h]),some (.fl i),some (.fl j),some (.fl k)]⟩
def wJ:Nat×Nat×Nat×Nat×Int×Int×Nat×Nat×(List Nat)×(List Nat)×(List Nat)→aW:=fun (a,b,c,d,e,f,g,h,i,j,k)=>⟨ax 162 [],[(0,.vs [.sl 1 1 1 0 a b,.sl 2 1 1 0 c d,.int .i64 e,.int .i64 f,.sl 3 1 1 0 g h]),(1,.fl i),(2,.fl j),(3,.fl k)],4⟩
def EK:List Code:=cV (qT qe)
def Fi(a:Nat)(b:Nat)(c:Nat)(d:Nat)(e:Int)(f:Int)(g:Nat)(h:Nat)(i:List Nat)(j:List Nat)(k:List Nat)(l:Int)(m:Int) :Nat×Nat→aW:=fun (n,r2)=>⟨ax 162 [(0,.ptr 0 1 0 0),(1,.int .i64 l),(2,.int .i64 m),(6,.sl 1 1 1 0 a b),(7,.sl 2 1 1 0 c d),(8,.flt false n),(9,.flt false r2)],[(0,.vs [.sl 1 1 1 0 a b,.sl 2 1 1 0 c d,.int .i64 e,.int .i64 f,.sl 3 1 1 0 g h]),(1,.fl i),(2,.fl j),(3,.fl k)],4⟩
def wK(d:Nat)(e:Nat)(b:List Nat)(c:List Nat)(a:Int) :T ((Nat×Nat)⊕(dW)) :=
  .need (fI .i64 (a+(1:Int)))<|.need (gg (a+(1:Int)) d)<|.need (fo (Int.toNat (a+(1:Int))) (List.length b))<|.need (gg a d)<|.need (fo (Int.toNat a) (List.length b))<|.need (gg a e)<|.need (fo (Int.toNat a) (List.length c))<|.ask (Kh (eE 4607182418800017408) (eE (fdiv (oN (List.getD b (Int.toNat (a+(1:Int))) 0) (List.getD b (Int.toNat a) 0)) (cY 4611686018427387904 (List.getD c (Int.toNat a) 0)))))
    (.ask (TX (eE 4607182418800017408) 0)
      (.leaf (.inl ((fdiv (oN (List.getD b (Int.toNat (a+(1:Int))) 0) (List.getD b (Int.toNat a) 0)) (cY 4611686018427387904 (List.getD c (Int.toNat a) 0))),(eE 4607182418800017408))))
      (.leaf (.inl ((fdiv (oN (List.getD b (Int.toNat (a+(1:Int))) 0) (List.getD b (Int.toNat a) 0)) (cY 4611686018427387904 (List.getD c (Int.toNat a) 0))),(cY (eE 4607182418800017408) (DQ (vC 4607182418800017408 (cY (fdiv (eE (fdiv (oN (List.getD b (Int.toNat (a+(1:Int))) 0) (List.getD b (Int.toNat a) 0)) (cY 4611686018427387904 (List.getD c (Int.toNat a) 0)))) (eE 4607182418800017408)) (fdiv (eE (fdiv (oN (List.getD b (Int.toNat (a+(1:Int))) 0) (List.getD b (Int.toNat a) 0)) (cY 4611686018427387904 (List.getD c (Int.toNat a) 0)))) (eE 4607182418800017408))))))))))
    (.ask (TX (eE (fdiv (oN (List.getD b (Int.toNat (a+(1:Int))) 0) (List.getD b (Int.toNat a) 0)) (cY 4611686018427387904 (List.getD c (Int.toNat a) 0)))) 0)
      (.leaf (.inl ((fdiv (oN (List.getD b (Int.toNat (a+(1:Int))) 0) (List.getD b (Int.toNat a) 0)) (cY 4611686018427387904 (List.getD c (Int.toNat a) 0))),(eE (fdiv (oN (List.getD b (Int.toNat (a+(1:Int))) 0) (List.getD b (Int.toNat a) 0)) (cY 4611686018427387904 (List.getD c (Int.toNat a) 0)))))))
      (.leaf (.inl ((fdiv (oN (List.getD b (Int.toNat (a+(1:Int))) 0) (List.getD b (Int.toNat a) 0)) (cY 4611686018427387904 (List.getD c (Int.toNat a) 0))),(cY (eE (fdiv (oN (List.getD b (Int.toNat (a+(1:Int))) 0) (List.getD b (Int.toNat a) 0)) (cY 4611686018427387904 (List.getD c (Int.toNat a) 0)))) (DQ (vC 4607182418800017408 (cY (fdiv (eE 4607182418800017408) (eE (fdiv (oN (List.getD b (Int.toNat (a+(1:Int))) 0) (List.getD b (Int.toNat a) 0)) (cY 4611686018427387904 (List.getD c (Int.toNat a) 0))))) (fdiv (eE 4607182418800017408) (eE (fdiv (oN (List.getD b (Int.toNat (a+(1:Int))) 0) (List.getD b (Int.toNat a) 0)) (cY 4611686018427387904 (List.getD c (Int.toNat a) 0)))))))))))))
def Fj(a:Nat)(b:Nat)(c:Nat)(d:Nat)(e:Int)(f:Int)(g:Nat)(h:Nat)(i:List Nat)(j:List Nat)(k:List Nat)(l:Int)(m:Int) :Nat×Int→aW:=fun (n,o)=>⟨ax 162 [(0,.ptr 0 1 0 0),(1,.int .i64 l),(2,.int .i64 m),(6,.sl 1 1 1 0 a b),(7,.sl 2 1 1 0 c d),(8,.flt false n),(10,.flt false 4607182418800017408),(11,.flt false 4607182418800017408),(12,.flt false 0),(13,.int .i64 o)],[(0,.vs [.sl 1 1 1 0 a b,.sl 2 1 1 0 c d,.int .i64 e,.int .i64 f,.sl 3 1 1 0 g h]),(1,.fl i),(2,.fl j),(3,.fl k)],4⟩
def wL(e:Nat)(g:Nat)(c:List Nat)(f:List Nat)(a:Int)(b:Int)(d:Nat)(r2:Nat) :T ((Nat×Int)⊕(dW)) :=
  .need (gg b e)<|.need (fo (Int.toNat b) (List.length c))<|.need (gg a e)<|.need (fo (Int.toNat a) (List.length c))<|.need (gg a g)<|.need (fo (Int.toNat a) (List.length f))<|.need (!isNaN d||isNaN r2)<|.need (fI .i64 (b-(1:Int)))<|.leaf (.inl ((vC (oN (List.getD c (Int.toNat b) 0) (List.getD c (Int.toNat a) 0)) (fdiv (List.getD f (Int.toNat a) 0) (vC d (wI r2 d)))),(b-(1:Int))))
def pH(a:Nat)(b:Nat)(c:Nat)(d:Nat)(e:Int)(f:Int) :Nat×Nat×Nat×Nat×Int×Nat×Nat×Nat×Nat×Int×Int×Nat×Nat×(List Nat)×(List Nat)×(List Nat)→aW:=fun (g,h,i,j,k,l,m,n,o,p,q,r,s,t,u,v)=>⟨ax 162 [(0,.ptr 0 1 0 0),(1,.int .i64 e),(2,.int .i64 f),(6,.sl 1 1 1 0 a b),(7,.sl 2 1 1 0 c d),(8,.flt false g),(10,.flt false h),(11,.flt false i),(12,.flt false j),(13,.int .i64 k)],[(0,.vs [.sl 1 1 1 0 l m,.sl 2 1 1 0 n o,.int .i64 p,.int .i64 q,.sl 3 1 1 0 r s]),(1,.fl t),(2,.fl u),(3,.fl v)],4⟩
def wM(a:Nat)(b:Nat)(c:Nat)(d:Nat)(e:Int)(f:Int) :Nat×Nat×Nat×Nat×Nat×Nat×Int×Int×Nat×Nat×(List Nat)×(List Nat)×(List Nat)→aW:=fun (g,h,i,j,k,l,m,n,o,p,q,r,s)=>⟨ax 162 [(1,.int .i64 e),(2,.int .i64 f),(6,.sl 1 1 1 0 a b),(7,.sl 2 1 1 0 c d),(8,.flt false g),(12,.flt false h)],[(0,.vs [.sl 1 1 1 0 i j,.sl 2 1 1 0 k l,.int .i64 m,.int .i64 n,.sl 3 1 1 0 o p]),(1,.fl q),(2,.fl r),(3,.fl s)],4⟩
def EL:List Code:=cV (dm (((((EK.drop 3).drop 3).take 1)).headD .skip))
def Fk(a:Nat)(b:Nat)(c:Nat)(d:Nat)(e:Int)(f:Int)(g:Nat)(h:Nat)(i:Nat)(j:Nat)(k:Int)(l:Nat)(m:Nat)(n:Nat)(o:Nat)(p:Int)(q:Int)(r:Nat)(s:Nat)(t:List Nat)(u:List Nat)(v:List Nat)(_:Unit) :aW:=⟨ax 162 [(0,.ptr 0 1 0 0),(1,.int .i64 e),(2,.int .i64 f),(6,.sl 1 1 1 0 a b),(7,.sl 2 1 1 0 c d),(8,.flt false g),(10,.flt false h),(11,.flt false i),(12,.flt false j),(13,.int .i64 k)],[(0,.vs [.sl 1 1 1 0 l m,.sl 2 1 1 0 n o,.int .i64 p,.int .i64 q,.sl 3 1 1 0 r s]),(1,.fl t),(2,.fl u),(3,.fl v)],4⟩
def wN(a:Int)(b:Nat)(c:Nat)(d:Int)(e:Nat)(f:Nat)(g:Nat)(h:Nat)(i:Int)(j:Int)(k:Nat)(l:Nat)(m:List Nat)(n:List Nat)(o:List Nat) :T ((Unit)⊕((Nat×Nat×Nat×Nat×Nat×Nat×Int×Int×Nat×Nat×(List Nat)×(List Nat)×(List Nat))⊕(dW))) :=
  .ask (decide (d≥a))
    (.leaf (.inl ()))
    (.leaf (.inr (.inl (b,c,e,f,g,h,i,j,k,l,m,n,o))))
def wO(a:Nat)(b:Nat)(c:Nat)(d:Nat)(e:Int)(f:Int)(g:Int) :Nat×Nat×Nat×Nat×Nat×Nat×Nat×Nat×Int×Int×Nat×Nat×(List Nat)×(List Nat)×(List Nat)→aW:=fun (h,i,j,k,l,m,n,o,p,q,r,s,t,u,v)=>⟨ax 162 [(0,.ptr 0 1 0 0),(1,.int .i64 e),(2,.int .i64 f),(6,.sl 1 1 1 0 a b),(7,.sl 2 1 1 0 c d),(8,.flt false h),(10,.flt false i),(11,.flt false j),(12,.flt false k),(13,.int .i64 g)],[(0,.vs [.sl 1 1 1 0 l m,.sl 2 1 1 0 n o,.int .i64 p,.int .i64 q,.sl 3 1 1 0 r s]),(1,.fl t),(2,.fl u),(3,.fl v)],4⟩
def EM(a:Nat)(b:Nat)(c:Nat)(d:Nat)(e:Int)(f:Int)(g:Nat)(h:Nat)(i:Int)(j:Nat)(k:Nat)(l:Nat)(m:Nat)(n:Int)(o:Int)(p:Nat)(q:Nat)(r:List Nat)(s:List Nat)(t:List Nat) :Nat×Nat×Nat→aW:=fun (r40,u,v)=>⟨ax 162 [(0,.ptr 0 1 0 0),(1,.int .i64 e),(2,.int .i64 f),(6,.sl 1 1 1 0 a b),(7,.sl 2 1 1 0 c d),(8,.flt false g),(9,.flt false r40),(12,.flt false h),(13,.int .i64 i),(14,.flt false u),(15,.flt false v)],[(0,.vs [.sl 1 1 1 0 j k,.sl 2 1 1 0 l m,.int .i64 n,.int .i64 o,.sl 3 1 1 0 p q]),(1,.fl r),(2,.fl s),(3,.fl t)],4⟩
def wP(f:Nat)(d:Nat)(c:Nat)(e:Nat)(a:Int)(b:List Nat) :T ((Nat×Nat×Nat)⊕((Nat×Nat×Nat×Nat×Nat×Nat×Nat×Nat×Int×Int×Nat×Nat×(List Nat)×(List Nat)×(List Nat))⊕((Nat×Nat×Nat×Nat×Nat×Nat×Int×Int×Nat×Nat×(List Nat)×(List Nat)×(List Nat))⊕(dW)))) :=
  .need (gg a f)<|.need (fo (Int.toNat a) (List.length b))<|.need (gg a f)<|.need (fo (Int.toNat a) (List.length b))<|.ask (Kh (eE d) (eE (cY c (List.getD b (Int.toNat a) 0))))
    (.ask (TX (eE d) 0)
      (.leaf (.inl ((eE d),(cY c (List.getD b (Int.toNat a) 0)),(cY e (List.getD b (Int.toNat a) 0)))))
      (.leaf (.inl ((cY (eE d) (DQ (vC 4607182418800017408 (cY (fdiv (eE (cY c (List.getD b (Int.toNat a) 0))) (eE d)) (fdiv (eE (cY c (List.getD b (Int.toNat a) 0))) (eE d)))))),(cY c (List.getD b (Int.toNat a) 0)),(cY e (List.getD b (Int.toNat a) 0))))))
    (.ask (TX (eE (cY c (List.getD b (Int.toNat a) 0))) 0)
      (.leaf (.inl ((eE (cY c (List.getD b (Int.toNat a) 0))),(cY c (List.getD b (Int.toNat a) 0)),(cY e (List.getD b (Int.toNat a) 0)))))
      (.leaf (.inl ((cY (eE (cY c (List.getD b (Int.toNat a) 0))) (DQ (vC 4607182418800017408 (cY (fdiv (eE d) (eE (cY c (List.getD b (Int.toNat a) 0)))) (fdiv (eE d) (eE (cY c (List.getD b (Int.toNat a) 0)))))))),(cY c (List.getD b (Int.toNat a) 0)),(cY e (List.getD b (Int.toNat a) 0))))))
def EN(a:Nat)(b:Nat)(c:Nat)(d:Nat)(e:Int)(f:Int)(g:Int)(h:Nat)(i:Nat)(j:Nat)(k:Nat)(l:Int)(m:Int)(n:Nat)(o:Nat)(p:List Nat)(q:Nat) :Nat×Nat×Nat×Nat×(List Nat)×(List Nat)→aW:=fun (r43,r,s,t,u,v)=>⟨ax 162 [(0,.ptr 0 1 0 0),(1,.int .i64 e),(2,.int .i64 f),(6,.sl 1 1 1 0 a b),(7,.sl 2 1 1 0 c d),(9,.flt false r43),(10,.flt false r),(11,.flt false s),(12,.flt false t),(13,.int .i64 g),(15,.flt false q)],[(0,.vs [.sl 1 1 1 0 h i,.sl 2 1 1 0 j k,.int .i64 l,.int .i64 m,.sl 3 1 1 0 n o]),(1,.fl u),(2,.fl v),(3,.fl p)],4⟩
def wQ(d:Nat)(j:Nat)(h:Int)(f:Nat)(e:Nat)(a:Int)(k:Nat)(l:Nat)(m:Nat)(n:Nat)(o:Int)(p:Int)(q:Nat)(r:Nat)(b:List Nat)(g:List Nat)(s:List Nat)(r40:Nat)(c:Nat)(i:Nat) :T ((Nat×Nat×Nat×Nat×(List Nat)×(List Nat))⊕((Nat×Nat×Nat×Nat×Nat×Nat×Nat×Nat×Int×Int×Nat×Nat×(List Nat)×(List Nat)×(List Nat))⊕((Nat×Nat×Nat×Nat×Nat×Nat×Int×Int×Nat×Nat×(List Nat)×(List Nat)×(List Nat))⊕(dW)))) :=
  .need (fI .i64 (a+(1:Int)))<|.need (gg (a+(1:Int)) j)<|.need (fo (Int.toNat (a+(1:Int))) (List.length g))<|.ask (TX r40 0)
    (.need (fI .i64 (a+(1:Int)))<|.need (gg (a+(1:Int)) d)<|.need (fo (Int.toNat (a+(1:Int))) (List.length b))<|.need (gg (a+(1:Int)) d)<|.need (fo (Int.toNat (a+(1:Int))) (List.length b))<|.need (gg h j)<|.need (fo (Int.toNat h) (List.length (List.set g (Int.toNat (a+(1:Int))) r40)))<|.leaf (.inr (.inr (.inr (.r0 k l m n o p q r (List.set b (Int.toNat (a+(1:Int))) (oN (List.getD b (Int.toNat (a+(1:Int))) 0) e)) (List.set (List.set g (Int.toNat (a+(1:Int))) r40) (Int.toNat h) 0) s)))))
    (.need (fI .i64 (a+(1:Int)))<|.need (gg (a+(1:Int)) d)<|.need (fo (Int.toNat (a+(1:Int))) (List.length b))<|.need (gg a d)<|.need (fo (Int.toNat a) (List.length b))<|.need (fI .i64 (a+(1:Int)))<|.need (gg (a+(1:Int)) d)<|.need (fo (Int.toNat (a+(1:Int))) (List.length b))<|.leaf (.inl ((vC (cY (oN (List.getD b (Int.toNat a) 0) (oN (List.getD b (Int.toNat (a+(1:Int))) 0) e)) (fdiv c r40)) (cY (cY 4611686018427387904 (fdiv f r40)) i)),(fdiv c r40),(fdiv f r40),(cY (fdiv c r40) (vC (cY (oN (List.getD b (Int.toNat a) 0) (oN (List.getD b (Int.toNat (a+(1:Int))) 0) e)) (fdiv c r40)) (cY (cY 4611686018427387904 (fdiv f r40)) i))),(List.set b (Int.toNat (a+(1:Int))) (vC (oN (List.getD b (Int.toNat (a+(1:Int))) 0) e) (cY (fdiv c r40) (vC (cY (oN (List.getD b (Int.toNat a) 0) (oN (List.getD b (Int.toNat (a+(1:Int))) 0) e)) (fdiv c r40)) (cY (cY 4611686018427387904 (fdiv f r40)) i))))),(List.set g (Int.toNat (a+(1:Int))) r40))))
def wR(c:Int)(d:Nat)(e:Nat)(f:Nat)(g:Nat)(h:Int)(i:Int)(j:Nat)(k:Nat)(l:List Nat)(o:Nat)(r43:Nat)(b:Nat)(a:Nat)(p:Nat)(m:List Nat)(n:List Nat) :T ((Nat×Nat×Nat×Nat×Nat×Nat×Nat×Nat×Int×Int×Nat×Nat×(List Nat)×(List Nat)×(List Nat))⊕((Nat×Nat×Nat×Nat×Nat×Nat×Nat×Nat×Int×Int×Nat×Nat×(List Nat)×(List Nat)×(List Nat))⊕((Nat×Nat×Nat×Nat×Nat×Nat×Int×Int×Nat×Nat×(List Nat)×(List Nat)×(List Nat))⊕(dW)))) :=
  .need (qi (ct d e f g h i j k m n l c a b))<|.leaf (.inl ((oN (cY a r43) o),b,a,p,(ri (ct d e f g h i j k m n l c a b)),(rj (ct d e f g h i j k m n l c a b)),(rl (ct d e f g h i j k m n l c a b)),(rm (ct d e f g h i j k m n l c a b)),(rn (ct d e f g h i j k m n l c a b)),(rp (ct d e f g h i j k m n l c a b)),(rq (ct d e f g h i j k m n l c a b)),(rt (ct d e f g h i j k m n l c a b)),(ru (ct d e f g h i j k m n l c a b)),(rv (ct d e f g h i j k m n l c a b)),(qH (ct d e f g h i j k m n l c a b))))
def wS(a:Int)(b:Nat)(c:Nat)(d:Nat)(e:Nat)(f:Nat)(g:Nat)(h:Nat)(i:Nat)(j:Int)(k:Int)(l:Nat)(m:Nat)(n:List Nat)(o:List Nat)(p:List Nat) :T ((Nat×Nat×Nat×Nat×Int×Nat×Nat×Nat×Nat×Int×Int×Nat×Nat×(List Nat)×(List Nat)×(List Nat))⊕((Nat×Nat×Nat×Nat×Nat×Nat×Int×Int×Nat×Nat×(List Nat)×(List Nat)×(List Nat))⊕(dW))) :=
  .need (fI .i64 (a-(1:Int)))<|.leaf (.inl (b,c,d,e,(a-(1:Int)),f,g,h,i,j,k,l,m,n,o,p))
def oM(q:Nat)(m:Nat)(r:Int)(s:Int) :Nat×Nat×Nat×Nat×Int×Nat×Nat×Nat×Nat×Int×Int×Nat×Nat×(List Nat)×(List Nat)×(List Nat)→Option ((Nat×Nat×Nat×Nat×Int×Nat×Nat×Nat×Nat×Int×Int×Nat×Nat×(List Nat)×(List Nat)×(List Nat))⊕((Nat×Nat×Nat×Nat×Nat×Nat×Int×Int×Nat×Nat×(List Nat)×(List Nat)×(List Nat))⊕(dW))):=fun (b,t,u,n,a,c,d,e,f,g,h,i,j,o,k,l) =>
  bd ((wN r b n a c d e f g h i j o k l).run) fun _ =>
  bd (vO (bd ((wP m b t u a k).run) fun (r40,v,p) =>
  bd ((wQ q m s b n a c d e f g h i j o k l r40 v p).run) fun (r43,w,x,y,z,A) =>
  (wR a c d e f g h i j l p r43 w x y z A).run)) fun (B,C,D,E,F,G,H,I,J,K,L,M,N,O,P) =>
  (wS a B C D E F G H I J K L M N O P).run
theorem EO(a:Nat)(c:Nat)(b:Nat)(d:Nat)(w:Int)(x:Int)(y:Nat)(z:Nat)(A:List Nat)(B:List Nat)(C:List Nat)(e:Int)(f:Int)(q:Nat)(u:Nat)(v:Nat)(r:Nat)(g:Int)(h:Nat)(i:Nat)(j:Nat)(k:Nat)(l:Int)(m:Int)(n:Nat)(o:Nat)(s:List Nat)(t:List Nat)(p:List Nat) :Sg prog [.vs [.sl 1 1 1 0 a c,.sl 2 1 1 0 b d,.int .i64 w,.int .i64 x,.sl 3 1 1 0 y z],.fl A,.fl B,.fl C] EL (pH a c b d e f (q,u,v,r,g,h,i,j,k,l,m,n,o,s,t,p)) (oM a b e f (q,u,v,r,g,h,i,j,k,l,m,n,o,s,t,p)) (pH a c b d e f) (co 0 (wM a c b d e f) qj):=by
  unfold oM;exact Sg.cut 2 (az fj) (cF fb (Fk a c b d e f q u v r g h i j k l m n o s t p) [⟨[],[0,1,2,3],[0,1,2,6,7,8,10,11,12,13]⟩,⟨[],[0,1,2,3],[1,2,6,7,8,12]⟩]) (fun _=>Sg.cut 1 (az fj) (UR (wO a c b d e f g) 1 (az fj) (cW (by decide) (yu _)) (Sg.cut 2 (az (az fj)) (cF fb (EM a c b d e f q r g h i j k l m n o s t p) [⟨[],[0,1,2,3],[0,1,2,6,7,8,9,12,13,14,15]⟩,⟨[],[0,1,2,3],[0,1,2,6,7,8,9,12,13,14,15]⟩,⟨[],[0,1,2,3],[0,1,2,6,7,8,9,12,13,14,15]⟩,⟨[],[0,1,2,3],[0,1,2,6,7,8,9,12,13,14,15]⟩]) (fun ⟨r40,E,D⟩=>Sg.cut 8 (az (az fj)) (cF fb (EN a c b d e f g h i j k l m n o p D) [⟨[],[0,1,2,3],[]⟩,⟨[],[0,1,2,3],[0,1,2,6,7,9,10,11,12,13,15]⟩]) (fun ⟨r43,F,G,H,I,J⟩=>cF fb (wO a c b d e f g) [⟨[],[0,1,2,3],[0,1,2,6,7,8,10,11,12,13]⟩])))) (fun ⟨K,L,M,N,O,P,Q,R,S,T,U,V,W,X,Y⟩=>cF fb (pH a c b d e f) [⟨[],[0,1,2,3],[0,1,2,6,7,8,10,11,12,13]⟩]))
def wT(e:Nat)(f:Nat)(a:Int)(c:Int)(g:Nat)(h:Nat)(i:Nat)(j:Nat)(k:Nat)(l:Nat)(m:Int)(n:Int)(o:Nat)(p:Nat)(b:List Nat)(d:List Nat)(q:List Nat) :T ((Nat×Nat×Nat×Nat×Int×Int×Nat×Nat×(List Nat)×(List Nat)×(List Nat))⊕(dW)) :=
  .need (gg a e)<|.need (fo (Int.toNat a) (List.length b))<|.need (gg a e)<|.need (fo (Int.toNat a) (List.length b))<|.need (gg a f)<|.need (fo (Int.toNat a) (List.length d))<|.need (gg c f)<|.need (fo (Int.toNat c) (List.length (List.set d (Int.toNat a) g)))<|.leaf (.inl (i,j,k,l,m,n,o,p,(List.set b (Int.toNat a) (oN (List.getD b (Int.toNat a) 0) h)),(List.set (List.set d (Int.toNat a) g) (Int.toNat c) 0),q))
def zf:(Nat×Nat×Nat×Nat×Int×Int×Nat×Nat×(List Nat)×(List Nat)×(List Nat))⊕(dW)→bI
  | .inl (a,b,c,d,e,f,g,h,i,j,k)=>(.r0 a b c d e f g h i j k)
  | .inr (.r0 l m n o p q r s t u v)=>(.r0 l m n o p q r s t u v)
def bX(a:Nat)(g:Nat)(b:Nat)(h:Nat)(i:Int)(j:Int)(k:Nat)(l:Nat)(d:List Nat)(e:List Nat)(m:List Nat)(c:Int)(f:Int) :Option bI:=Option.map zf (bd ((wK a b d e c).run) fun (n,r2) =>
  bd ((wL a b d e c f n r2).run) fun (o,p) =>
  bd (cu (oM a b c f) (o,4607182418800017408,4607182418800017408,0,p,a,g,b,h,i,j,k,l,d,e,m)) fun (q,r,s,t,u,v,w,x,y,z,A,B,C) =>
  (wT a b c f q r s t u v w x y z A B C).run)
theorem Fl(a:Nat)(b:Nat)(c:Nat)(d:Nat)(g:Int)(i:Int)(j:Nat)(k:Nat)(l:List Nat)(m:List Nat)(n:List Nat)(e:Int)(f:Int){x:bI}(h:bX a b c d g i j k l m n e f=some x) :aH prog qe [.vs [.sl 1 1 1 0 a b,.sl 2 1 1 0 c d,.int .i64 g,.int .i64 i,.sl 3 1 1 0 j k],.fl l,.fl m,.fl n] [.ptr 0 1 0 0,.int .i64 e,.int .i64 f] (tZ x) :=
  MH false tZ wJ qj zf h (Sg.cut 3 fj (cF fb (Fi a b c d g i j k l m n e f) [⟨[],[0,1,2,3],[0,1,2,6,7,8,9]⟩,⟨[],[0,1,2,3],[0,1,2,6,7,8,9]⟩,⟨[],[0,1,2,3],[0,1,2,6,7,8,9]⟩,⟨[],[0,1,2,3],[0,1,2,6,7,8,9]⟩]) (fun ⟨F,r2⟩=>Sg.cut 3 fj (cF fb (Fj a b c d g i j k l m n e f) [⟨[],[0,1,2,3],[0,1,2,6,7,8,10,11,12,13]⟩]) (fun ⟨G,H⟩=>Sg.cut 1 fj (yE ⟨[],[0,1,2,3],[0,1,2,6,7,8,10,11,12,13]⟩ (pH a b c d e f) (wM a b c d e f) 0 fj (yu _) (fun ⟨o,p,q,r,s,t,u,v,w,y,z,A,B,C,D,E⟩=>EO a b c d g i j k l m n e f o p q r s t u v w y z A B C D E)) (fun ⟨I,J,K,L,M,N,O,P,Q,R,S,T,U⟩=>cF fb wJ [⟨[],[0,1,2,3],[]⟩]))))
    (fun ⟨V,W,X,Y,Z,a0,a1,a2,a3,a4,a5⟩=>MG []) (fun x=>by cases x with | r0 a6 a7 a8 a9 b0 b1 b2 b3 b4 b5 b6=>exact EI [])
def kR:Option bI→Bool
  | some _=>true
  | none=>false
def lO:Option bI→Nat
  | some (.r0 x _ _ _ _ _ _ _ _ _ _)=>x
  | _=>0
def lP:Option bI→Nat
  | some (.r0 _ x _ _ _ _ _ _ _ _ _)=>x
  | _=>0
def lQ:Option bI→Nat
  | some (.r0 _ _ x _ _ _ _ _ _ _ _)=>x
  | _=>0
def lR:Option bI→Nat
  | some (.r0 _ _ _ x _ _ _ _ _ _ _)=>x
  | _=>0
def lS:Option bI→Int
  | some (.r0 _ _ _ _ x _ _ _ _ _ _)=>x
  | _=>0
def lT:Option bI→Int
  | some (.r0 _ _ _ _ _ x _ _ _ _ _)=>x
  | _=>0
def lU:Option bI→Nat
  | some (.r0 _ _ _ _ _ _ x _ _ _ _)=>x
  | _=>0
def lV:Option bI→Nat
  | some (.r0 _ _ _ _ _ _ _ x _ _ _)=>x
  | _=>0
def lW:Option bI→List Nat
  | some (.r0 _ _ _ _ _ _ _ _ x _ _)=>x
  | _=>[]
def lX:Option bI→List Nat
  | some (.r0 _ _ _ _ _ _ _ _ _ x _)=>x
  | _=>[]
def ld:Option bI→List Nat
  | some (.r0 _ _ _ _ _ _ _ _ _ _ x)=>x
  | _=>[]
theorem Fm{x:Option bI}(h:kR x=true) :x=some (.r0 (lO x) (lP x) (lQ x) (lR x) (lS x) (lT x) (lU x) (lV x) (lW x) (lX x) (ld x)):=by
  unfold kR at h
  split at h<;>first | rfl | (cases h;done) | (rename_i y;cases y;rfl)
def zg:bC:=yZ qe [.vs [.lsl0 1,.lsl0 2,.int .i64,.int .i64,.lsl0 3],.fl,.fl,.fl] (.cons (.lptr 0 1 0 0) (.cons (.int .i64) (.cons (.int .i64) .nil))) fun x t=>(fun q=>[⟨tZ (.r0 (lO q) (lP q) (lQ q) (lR q) (lS q) (lT q) (lU q) (lV q) (lW q) (lX q) (ld q)),[kR q]⟩]) (bX x.1.1.1 x.1.1.2 x.1.2.1.1 x.1.2.1.2 x.1.2.2.1 x.1.2.2.2.1 x.1.2.2.2.2.1.1 x.1.2.2.2.2.1.2 x.2.1 x.2.2.1 x.2.2.2.1 t.2.1 t.2.2.1)
theorem DG:bZ prog zg:=pE fun x t=>(jZ (fun h=>Fl x.1.1.1 x.1.1.2 x.1.2.1.1 x.1.2.1.2 x.1.2.2.1 x.1.2.2.2.1 x.1.2.2.2.2.1.1 x.1.2.2.2.2.1.2 x.2.1 x.2.2.1 x.2.2.2.1 t.2.1 t.2.2.1 (Fm h)) pF)
def zh:List bC:=zg::z5
theorem cp:cQ prog (cX zh):=aY DG fb
inductive cx where
  | r0 (a:Nat) (b:Nat) (c:List Nat) (d:Int) (e:Int) (f:Nat) (g:List Nat)
def vq:cx→AE×aW
  | .r0 a c d e f b g=>(.ret,⟨ax 103 [(4,.sl 0 1 1 0 a a),(5,.ptr 1 1 0 0),(6,.int .i64 ((c:Nat):Int))],[(0,.fl d),(1,.vs [.int .i64 e,.int .i64 f,.sl 2 1 1 0 b b]),(2,.fl g)],3⟩)
theorem gz:xN vq:=by intro x;cases x<;>(intro h;cases h)
theorem zt(id:Nat) :rh id vq:=by intro x;cases x<;>(intro h;cases h)
def Fo:cx→rF
  | .r0 a c d e f b g=>⟨.tup [.sl 0 1 1 0 a a,.agg [.int .i64 e,.int .i64 f,.sl 1 1 1 0 b b],.int .i64 ((c:Nat):Int)],[some (.fl d),some (.fl g)]⟩
def NR:List Code:=cV (qT E8)
def PM(c:Lv)(a:List Nat)(d:Int)(e:Int)(f:Lv)(b:List Nat)(_:Unit) :aW:=⟨ax 103 [(0,.imm c (.fl a) 1 1 0 (List.length a)),(3,.ptr 0 1 0 0),(5,.ptr 1 1 0 0)],[(0,.vs [.int .i64 d,.int .i64 e,.imm f (.fl b) 1 1 0 (List.length b)]),(1,.vs [.int .i64 (0:Int),.int .i64 (0:Int),.nsl])],2⟩
def GZ(a:List Nat)(d:Int)(c:Int)(b:List Nat) :T ((Unit)⊕(cx)) :=
  .need (di 0 (List.length b) b)<|.need (CI (zX d c (ay 0 (List.length b) b)))<|.ask (!(Bj (zX d c (ay 0 (List.length b) b))))
    (.leaf (.inr (.r0 0 2 ([]:List Nat) (0:Int) (0:Int) 0 ([]:List Nat))))
    (.ask (c != (((List.length a):Nat):Int))
      (.leaf (.inr (.r0 0 8 ([]:List Nat) (0:Int) (0:Int) 0 ([]:List Nat))))
      (.need (di 0 (List.length a) a)<|.need (cr (bn (ay 0 (List.length a) a)))<|.ask (!(!(decide ((bG (bn (ay 0 (List.length a) a)))≥(0:Int)))))
        (.leaf (.inr (.r0 0 10 ([]:List Nat) (0:Int) (0:Int) 0 ([]:List Nat))))
        (.leaf (.inl ()))))
def PN(c:Int)(d:Int) :Nat×Nat×(List Nat)×Nat×(List Nat)→aW:=fun (a,e,f,b,g)=>⟨ax 103 [(0,.sl 0 1 1 0 a a),(3,.ptr 1 1 0 0),(5,.ptr 2 1 0 0),(36,.int .i64 ((e:Nat):Int)),(37,.int .i64 (0:Int))],[(0,.fl f),(1,.vs [.int .i64 c,.int .i64 d,.sl 3 1 1 0 b b]),(2,.vs [.int .i64 (0:Int),.int .i64 (0:Int),.nsl]),(3,.fl g)],4⟩
def G0(a:List Nat)(b:List Nat) :T ((Nat×Nat×(List Nat)×Nat×(List Nat))⊕(cx)) :=
  .need (di 0 (List.length a) a)<|.need (eX (List.length (ay 0 (List.length a) a)))<|.need (di 0 (List.length b) b)<|.need (eX (List.length (ay 0 (List.length b) b)))<|.leaf (.inl ((List.length (ay 0 (List.length a) a)),(List.length (ay 0 (List.length a) a)),(ay 0 (List.length a) a),(List.length (ay 0 (List.length b) b)),(ay 0 (List.length b) b)))
def xO(c:Int)(d:Int)(a:Nat)(e:Nat)(b:Nat) :Nat×(List Nat)×(List Nat)→aW:=fun (f,g,h)=>⟨ax 103 [(0,.sl 0 1 1 0 a a),(3,.ptr 1 1 0 0),(5,.ptr 2 1 0 0),(36,.int .i64 ((e:Nat):Int)),(37,.int .i64 ((f:Nat):Int))],[(0,.fl g),(1,.vs [.int .i64 c,.int .i64 d,.sl 3 1 1 0 b b]),(2,.vs [.int .i64 (0:Int),.int .i64 (0:Int),.nsl]),(3,.fl h)],4⟩
def xP(c:Int)(d:Int)(a:Nat)(b:Nat) :(List Nat)×(List Nat)→aW:=fun (e,f)=>⟨ax 103 [(0,.sl 0 1 1 0 a a),(3,.ptr 1 1 0 0),(5,.ptr 2 1 0 0)],[(0,.fl e),(1,.vs [.int .i64 c,.int .i64 d,.sl 3 1 1 0 b b]),(2,.vs [.int .i64 (0:Int),.int .i64 (0:Int),.nsl]),(3,.fl f)],4⟩
def G1:List Code:=cV (dm (((((NR.drop 2).drop 3).take 1)).headD .skip))
def NT(c:Int)(d:Int)(a:Nat)(e:Nat)(b:Nat)(f:Nat)(g:List Nat)(h:List Nat)(_:Unit) :aW:=⟨ax 103 [(0,.sl 0 1 1 0 a a),(3,.ptr 1 1 0 0),(5,.ptr 2 1 0 0),(36,.int .i64 ((e:Nat):Int)),(37,.int .i64 ((f:Nat):Int))],[(0,.fl g),(1,.vs [.int .i64 c,.int .i64 d,.sl 3 1 1 0 b b]),(2,.vs [.int .i64 (0:Int),.int .i64 (0:Int),.nsl]),(3,.fl h)],4⟩
def G2(a:Nat)(b:Nat)(c:List Nat)(d:List Nat) :T ((Unit)⊕(((List Nat)×(List Nat))⊕(cx))) :=
  .ask (decide (((b:Nat):Int)<((a:Nat):Int)))
    (.leaf (.inl ()))
    (.leaf (.inr (.inl (c,d))))
def xQ(c:Int)(d:Int)(a:Nat)(e:Nat)(b:Nat)(f:Nat) :(List Nat)×(List Nat)→aW:=fun (g,h)=>⟨ax 103 [(0,.sl 0 1 1 0 a a),(3,.ptr 1 1 0 0),(5,.ptr 2 1 0 0),(36,.int .i64 ((e:Nat):Int)),(37,.int .i64 ((f:Nat):Int))],[(0,.fl g),(1,.vs [.int .i64 c,.int .i64 d,.sl 3 1 1 0 b b]),(2,.vs [.int .i64 (0:Int),.int .i64 (0:Int),.nsl]),(3,.fl h)],4⟩
def G3:List Code:=cV (inBlock ((((G1.drop 2).take 1)).headD .skip))
def NU(d:Int)(e:Int)(b:Nat)(f:Nat)(c:Nat)(a:Nat)(g:List Nat)(h:List Nat)(i:Nat) :aW:=⟨ax 103 [(0,.sl 0 1 1 0 b b),(3,.ptr 1 1 0 0),(5,.ptr 2 1 0 0),(7,.int .i64 ((a:Nat):Int)),(8,.int .i64 ((a:Nat):Int)),(9,.int .i64 ((i:Nat):Int)),(36,.int .i64 ((f:Nat):Int)),(37,.int .i64 ((a:Nat):Int))],[(0,.fl g),(1,.vs [.int .i64 d,.int .i64 e,.sl 3 1 1 0 c c]),(2,.vs [.int .i64 (0:Int),.int .i64 (0:Int),.nsl]),(3,.fl h)],4⟩
def G4(a:Nat) :T ((Nat)⊕(((List Nat)×(List Nat))⊕(((List Nat)×(List Nat))⊕(cx)))) :=
  .need (fI .i64 (((a+1):Nat):Int))<|.leaf (.inl (a+1))
def xR(d:Int)(e:Int)(a:Nat)(f:Nat)(b:Nat)(c:Nat)(g:List Nat)(h:List Nat) :Nat×Nat→aW:=fun (i,j)=>⟨ax 103 [(0,.sl 0 1 1 0 a a),(3,.ptr 1 1 0 0),(5,.ptr 2 1 0 0),(7,.int .i64 ((c:Nat):Int)),(8,.int .i64 ((i:Nat):Int)),(9,.int .i64 ((j:Nat):Int)),(36,.int .i64 ((f:Nat):Int)),(37,.int .i64 ((c:Nat):Int))],[(0,.fl g),(1,.vs [.int .i64 d,.int .i64 e,.sl 3 1 1 0 b b]),(2,.vs [.int .i64 (0:Int),.int .i64 (0:Int),.nsl]),(3,.fl h)],4⟩
def G5(d:Int)(e:Int)(a:Nat)(f:Nat)(b:Nat)(c:Nat)(g:List Nat)(h:List Nat)(i:Nat) :aW:=⟨ax 103 [(0,.sl 0 1 1 0 a a),(3,.ptr 1 1 0 0),(5,.ptr 2 1 0 0),(7,.int .i64 ((c:Nat):Int)),(8,.int .i64 ((i:Nat):Int)),(36,.int .i64 ((f:Nat):Int)),(37,.int .i64 ((c:Nat):Int))],[(0,.fl g),(1,.vs [.int .i64 d,.int .i64 e,.sl 3 1 1 0 b b]),(2,.vs [.int .i64 (0:Int),.int .i64 (0:Int),.nsl]),(3,.fl h)],4⟩
def NV:List Code:=cV (dm ((((G3.drop 3).take 1)).headD .skip))
def NW(d:Int)(e:Int)(a:Nat)(f:Nat)(b:Nat)(c:Nat)(g:List Nat)(h:List Nat)(i:Nat)(j:Nat) :aW:=⟨ax 103 [(0,.sl 0 1 1 0 a a),(3,.ptr 1 1 0 0),(5,.ptr 2 1 0 0),(7,.int .i64 ((c:Nat):Int)),(8,.int .i64 ((j:Nat):Int)),(9,.int .i64 ((i:Nat):Int)),(36,.int .i64 ((f:Nat):Int)),(37,.int .i64 ((c:Nat):Int))],[(0,.fl g),(1,.vs [.int .i64 d,.int .i64 e,.sl 3 1 1 0 b b]),(2,.vs [.int .i64 (0:Int),.int .i64 (0:Int),.nsl]),(3,.fl h)],4⟩
def G6(d:Nat)(c:List Nat)(a:Nat)(b:Nat) :T ((Nat)⊕((Nat)⊕(((List Nat)×(List Nat))⊕(((List Nat)×(List Nat))⊕(cx))))) :=
  .ask (decide (((b:Nat):Int)<((d:Nat):Int)))
    (.need (gg ((b:Nat):Int) d)<|.need (fo b (List.length c))<|.need (gg ((a:Nat):Int) d)<|.need (fo a (List.length c))<|.ask (flt (List.getD c b 0) (List.getD c a 0))
      (.leaf (.inl b))
      (.leaf (.inl a)))
    (.leaf (.inr (.inl a)))
def G7(a:Nat)(b:Nat) :T ((Nat×Nat)⊕((Nat)⊕(((List Nat)×(List Nat))⊕(((List Nat)×(List Nat))⊕(cx))))) :=
  .need (fI .i64 (((a+1):Nat):Int))<|.leaf (.inl (b,(a+1)))
def ug(b:Nat)(c:List Nat) :Nat×Nat→Option ((Nat×Nat)⊕((Nat)⊕(((List Nat)×(List Nat))⊕(((List Nat)×(List Nat))⊕(cx))))):=fun (d,a) =>
  bd ((G6 b c d a).run) fun e =>
  (G7 a e).run
theorem NX(b:Int)(c:Int)(a:Nat)(e:Nat)(d:Nat)(f:Nat)(g:List Nat)(h:List Nat)(j:Nat)(i:Nat) :Sg prog [] NV (xR b c a e d f g h (j,i)) (ug a g (j,i)) (xR b c a e d f g h) (co 3 (G5 b c a e d f g h) (co 2 (xQ b c a e d f) (co 1 (xP b c a d) vq))):=by
  unfold ug;exact Sg.cut 3 (az (az (az gz))) (cF cp (NW b c a e d f g h i) [⟨[],[0,1,2,3],[0,3,5,7,8,9,36,37]⟩,⟨[],[0,1,2,3],[0,3,5,7,8,9,36,37]⟩,⟨[],[0,1,2,3],[0,3,5,7,8,36,37]⟩]) (fun k=>cF cp (xR b c a e d f g h) [⟨[],[0,1,2,3],[0,3,5,7,8,9,36,37]⟩])
def NY(a:Int)(e:Int)(b:Nat)(f:Nat)(c:Nat)(d:Nat)(g:List Nat)(h:Nat)(i:(List Nat)) :aW:=⟨ax 103 [(0,.sl 0 1 1 0 b b),(3,.ptr 1 1 0 0),(5,.ptr 2 1 0 0),(7,.int .i64 ((d:Nat):Int)),(8,.int .i64 ((h:Nat):Int)),(36,.int .i64 ((f:Nat):Int)),(37,.int .i64 ((d:Nat):Int)),(74,.int .i64 a),(75,.int .i64 (0:Int))],[(0,.fl i),(1,.vs [.int .i64 a,.int .i64 e,.sl 3 1 1 0 c c]),(2,.vs [.int .i64 (0:Int),.int .i64 (0:Int),.nsl]),(3,.fl g)],4⟩
def G8(d:Nat)(b:Nat)(a:List Nat)(c:Nat) :T (((List Nat))⊕(((List Nat)×(List Nat))⊕(((List Nat)×(List Nat))⊕(cx)))) :=
  .need (gg ((c:Nat):Int) d)<|.need (fo c (List.length a))<|.need (gg ((b:Nat):Int) d)<|.need (fo b (List.length a))<|.need (gg ((b:Nat):Int) d)<|.need (fo b (List.length a))<|.need (gg ((c:Nat):Int) d)<|.need (fo c (List.length (List.set a b (List.getD a c 0))))<|.leaf (.inl (List.set (List.set a b (List.getD a c 0)) c (List.getD a b 0)))
def xS(a:Int)(e:Int)(b:Nat)(f:Nat)(c:Nat)(d:Nat)(g:Nat)(h:List Nat) :Nat×(List Nat)→aW:=fun (i,j)=>⟨ax 103 [(0,.sl 0 1 1 0 b b),(3,.ptr 1 1 0 0),(5,.ptr 2 1 0 0),(7,.int .i64 ((d:Nat):Int)),(8,.int .i64 ((g:Nat):Int)),(36,.int .i64 ((f:Nat):Int)),(37,.int .i64 ((d:Nat):Int)),(74,.int .i64 a),(75,.int .i64 ((i:Nat):Int))],[(0,.fl h),(1,.vs [.int .i64 a,.int .i64 e,.sl 3 1 1 0 c c]),(2,.vs [.int .i64 (0:Int),.int .i64 (0:Int),.nsl]),(3,.fl j)],4⟩
def G9(c:Int)(d:Int)(a:Nat)(e:Nat)(b:Nat)(f:Nat)(g:List Nat)(h:(List Nat)) :aW:=⟨ax 103 [(0,.sl 0 1 1 0 a a),(3,.ptr 1 1 0 0),(5,.ptr 2 1 0 0),(36,.int .i64 ((e:Nat):Int)),(37,.int .i64 ((f:Nat):Int))],[(0,.fl g),(1,.vs [.int .i64 c,.int .i64 d,.sl 3 1 1 0 b b]),(2,.vs [.int .i64 (0:Int),.int .i64 (0:Int),.nsl]),(3,.fl h)],4⟩
def NZ:List Code:=cV (dm ((((((G3.drop 3).drop 1).drop 2).take 1)).headD .skip))
def Ha(g:Int)(b:Int)(d:Nat)(e:Nat)(f:Nat)(a:Nat)(c:List Nat) :T ((Nat×(List Nat))⊕(((List Nat))⊕(((List Nat)×(List Nat))⊕(((List Nat)×(List Nat))⊕(cx))))) :=
  .ask (decide (((a:Nat):Int)<g))
    (.need (fI .i64 (((a:Nat):Int)*b))<|.need (Ay ((d:Nat):Int) d)<|.need (Ay (((a:Nat):Int)*b) d)<|.need (gg ((f:Nat):Int) (d-(Int.toNat (((a:Nat):Int)*b))))<|.need (fo (cw (Int.toNat (((a:Nat):Int)*b)) f) (List.length c))<|.need (gg ((e:Nat):Int) (d-(Int.toNat (((a:Nat):Int)*b))))<|.need (fo (cw (Int.toNat (((a:Nat):Int)*b)) e) (List.length c))<|.need (gg ((e:Nat):Int) (d-(Int.toNat (((a:Nat):Int)*b))))<|.need (fo (cw (Int.toNat (((a:Nat):Int)*b)) e) (List.length c))<|.need (gg ((f:Nat):Int) (d-(Int.toNat (((a:Nat):Int)*b))))<|.need (fo (cw (Int.toNat (((a:Nat):Int)*b)) f) (List.length (List.set c (cw (Int.toNat (((a:Nat):Int)*b)) e) (List.getD c (cw (Int.toNat (((a:Nat):Int)*b)) f) 0))))<|.need (fI .i64 (((a+1):Nat):Int))<|.leaf (.inl ((a+1),(List.set (List.set c (cw (Int.toNat (((a:Nat):Int)*b)) e) (List.getD c (cw (Int.toNat (((a:Nat):Int)*b)) f) 0)) (cw (Int.toNat (((a:Nat):Int)*b)) f) (List.getD c (cw (Int.toNat (((a:Nat):Int)*b)) e) 0)))))
    (.leaf (.inr (.inl c)))
def uh(a:Int)(b:Int)(c:Nat)(d:Nat)(e:Nat) :Nat×(List Nat)→Option ((Nat×(List Nat))⊕(((List Nat))⊕(((List Nat)×(List Nat))⊕(((List Nat)×(List Nat))⊕(cx))))):=fun (f,g) =>
  (Ha a b c d e f g).run
theorem N2(a:Int)(b:Int)(d:Nat)(f:Nat)(c:Nat)(e:Nat)(g:Nat)(h:List Nat)(i:Nat)(j:List Nat) :Sg prog [] NZ (xS a b d f c e g h (i,j)) (uh a b c e g (i,j)) (xS a b d f c e g h) (co 5 (G9 a b d f c e h) (co 2 (xQ a b d f c e) (co 1 (xP a b d c) vq))):=by
  unfold uh;exact cF cp (xS a b d f c e g h) [⟨[],[0,1,2,3],[0,3,5,7,8,36,37,74,75]⟩,⟨[],[0,1,2,3],[0,3,5,36,37]⟩]
def Hb(a:List Nat)(b:List Nat) :T (((List Nat)×(List Nat))⊕(((List Nat)×(List Nat))⊕(((List Nat)×(List Nat))⊕(cx)))) :=
  .leaf (.inl (a,b))
def Hc(a:Nat)(b:List Nat)(c:List Nat) :T ((Nat×(List Nat)×(List Nat))⊕(((List Nat)×(List Nat))⊕(cx))) :=
  .need (fI .i64 (((a+1):Nat):Int))<|.leaf (.inl ((a+1),b,c))
def xT(f:Int)(g:Int)(c:Nat)(h:Nat)(i:Nat) :Nat×(List Nat)×(List Nat)→Option ((Nat×(List Nat)×(List Nat))⊕(((List Nat)×(List Nat))⊕(cx))):=fun (a,b,d) =>
  bd ((G2 h a b d).run) fun _ =>
  bd (vO (bd ((G4 a).run) fun j =>
  bd (cu (ug c b) (a,j)) fun e =>
  bd ((G8 c a b e).run) fun k =>
  bd (cu (uh f g i a e) (0,d)) fun l =>
  (Hb k l).run)) fun (m,n) =>
  (Hc a m n).run
theorem N3(a:Int)(b:Int)(c:Nat)(e:Nat)(d:Nat)(f:Nat)(h:List Nat)(g:List Nat) :Sg prog [] G1 (xO a b c e d (f,h,g)) (xT a b c e d (f,h,g)) (xO a b c e d) (co 1 (xP a b c d) vq):=by
  unfold xT;exact Sg.cut 2 (az gz) (cF cp (NT a b c e d f h g) [⟨[],[0,1,2,3],[0,3,5,36,37]⟩,⟨[],[0,1,2,3],[0,3,5]⟩]) (fun _=>Sg.cut 1 (az gz) (UR (xQ a b c e d f) 2 (az gz) (cW (by decide) (zt _)) (Sg.cut 3 (az (az gz)) (cF cp (NU a b c e d f h g) [⟨[],[0,1,2,3],[0,3,5,7,8,9,36,37]⟩]) (fun o=>Sg.cut 1 (az (az gz)) (yE ⟨[],[0,1,2,3],[0,3,5,7,8,9,36,37]⟩ (xR a b c e d f h g) (G5 a b c e d f h g) 3 (az (az gz)) (cW (by decide) (cW (by decide) (zt _))) (fun ⟨k,l⟩=>NX a b c e d f h g k l)) (fun i=>Sg.cut 2 (az (az gz)) (cF cp (NY a b c e d f g i) [⟨[],[0,1,2,3],[0,3,5,7,8,36,37,74,75]⟩]) (fun j=>Sg.cut 1 (az (az gz)) (yE ⟨[],[0,1,2,3],[0,3,5,7,8,36,37,74,75]⟩ (xS a b c e d f i j) (G9 a b c e d f j) 5 (az (az gz)) (cW (by decide) (cW (by decide) (zt _))) (fun ⟨m,n⟩=>N2 a b c e d f i j m n)) (fun p=>cF cp (xQ a b c e d f) [⟨[],[0,1,2,3],[0,3,5,36,37]⟩])))))) (fun ⟨q,r⟩=>cF cp (xO a b c e d) [⟨[],[0,1,2,3],[0,3,5,36,37]⟩]))
def Hd(a:Int)(b:Int)(c:Nat)(d:Nat)(e:List Nat)(f:List Nat) :T ((Empty)⊕(cx)) :=
  .leaf (.inr (.r0 c 0 e a b d f))
def fk(c:List Nat)(a:Int)(b:Int)(d:List Nat) :Option cx:=toX (bd ((GZ c a b d).run) fun _ =>
  bd ((G0 c d).run) fun (e,g,h,f,i) =>
  bd (cu (xT a b e g f) (0,h,i)) fun (j,k) =>
  (Hd a b e f j k).run)
theorem PO(g:Lv)(c:List Nat)(a:Int)(b:Int)(i:Lv)(d:List Nat){x:cx}(h:fk c a b d=some x) :aH prog E8 [] [.imm g (.fl c) 1 1 0 (List.length c),.agg [.int .i64 a,.int .i64 b,.imm i (.fl d) 1 1 0 (List.length d)]] (Fo x) :=
  GS false Fo vq h (Sg.cut 2 gz (cF cp (PM g c a b i d) [⟨[(.slot 4,.own 1 1 (.fl ([]:List Nat))),(.cell 32 2,.own 1 1 (.fl ([]:List Nat)))],[192,32,193],[4,5,6]⟩,⟨[(.slot 4,.own 1 1 (.fl ([]:List Nat))),(.cell 32 2,.own 1 1 (.fl ([]:List Nat)))],[288,32,289],[4,5,6]⟩,⟨[(.slot 4,.own 1 1 (.fl ([]:List Nat))),(.cell 32 2,.own 1 1 (.fl ([]:List Nat)))],[352,32,353],[4,5,6]⟩,⟨[],[0,32],[0,3,5]⟩]) (fun _=>Sg.cut 3 gz (cF cp (PN a b) [⟨[],[18,0,1,82],[0,3,5,36,37]⟩]) (fun ⟨e,j,s,f,t⟩=>Sg.cut 1 gz (yE ⟨[],[0,1,2,3],[0,3,5,36,37]⟩ (xO a b e j f) (xP a b e f) 1 gz (zt _) (fun ⟨m,n,o⟩=>N3 a b e j f m n o)) (fun ⟨u,v⟩=>cF cp Gd [⟨[],[0,2,3],[4,5,6]⟩]))))
    (fun x=>by cases x with | r0 k p w q r l y=>exact EI [.sl 0 1 1 0 k k,.agg [.int .i64 q,.int .i64 r,.sl 2 1 1 0 l l],.int .i64 ((p:Nat):Int)])
def vV:Option cx→Bool
  | some _=>true
  | none=>false
def vW:Option cx→Nat
  | some (.r0 x _ _ _ _ _ _)=>x
  | _=>0
def vX:Option cx→Nat
  | some (.r0 _ x _ _ _ _ _)=>x
  | _=>0
def vY:Option cx→List Nat
  | some (.r0 _ _ x _ _ _ _)=>x
  | _=>[]
def vZ:Option cx→Int
  | some (.r0 _ _ _ x _ _ _)=>x
  | _=>0
def v3:Option cx→Int
  | some (.r0 _ _ _ _ x _ _)=>x
  | _=>0
def v4:Option cx→Nat
  | some (.r0 _ _ _ _ _ x _)=>x
  | _=>0
def v5:Option cx→List Nat
  | some (.r0 _ _ _ _ _ _ x)=>x
  | _=>[]
theorem PP{x:Option cx}(h:vV x=true) :x=some (.r0 (vW x) (vX x) (vY x) (vZ x) (v3 x) (v4 x) (v5 x)):=by
  unfold vV at h
  split at h<;>first | rfl | (cases h;done) | (rename_i y;cases y;rfl)
def KI:bC:=lC E8 (.cons .fl (.cons (.agg (.cons (.int .i64) (.cons (.int .i64) (.cons .fl .nil)))) .nil)) fun t=>(fun q=>[⟨Fo (.r0 (vW q) (vX q) (vY q) (vZ q) (v3 q) (v4 q) (v5 q)),[vV q]⟩]) (fk t.1.2 t.2.1.1 t.2.1.2.1 t.2.1.2.2.1.2)
theorem MV:bZ prog KI:=eV fun t=>(eW (fun h=>PO t.1.1 t.1.2 t.2.1.1 t.2.1.2.1 t.2.1.2.2.1.1 t.2.1.2.2.1.2 (PP h)) fY)
def KJ:List bC:=KI::zh
theorem ii:cQ prog (cX KJ):=aY MV cp
inductive cR where
  | r0 (a:Nat) (b:Nat) (c:Nat) (d:List Nat) (e:Int) (f:Int) (g:Nat) (h:List Nat)
def z6:cR→AE×aW
  | .r0 a c d e f g b h=>(.ret,⟨ax 114 [(4,.sl 0 1 1 0 a a),(5,.ptr 1 1 0 0),(6,.int .i64 ((c:Nat):Int)),(7,.int .i64 ((d:Nat):Int))],[(0,.fl e),(1,.vs [.int .i64 f,.int .i64 g,.sl 2 1 1 0 b b]),(2,.fl h)],3⟩)
theorem jD:xN z6:=by intro x;cases x<;>(intro h;cases h)
theorem Fp(id:Nat) :rh id z6:=by intro x;cases x<;>(intro h;cases h)
def H2:cR→rF
  | .r0 a c d e f g b h=>⟨.tup [.sl 0 1 1 0 a a,.agg [.int .i64 f,.int .i64 g,.sl 1 1 1 0 b b],.int .i64 ((c:Nat):Int),.int .i64 ((d:Nat):Int)],[some (.fl e),some (.fl h)]⟩
def PQ:List Code:=cV (qT HS)
def Q9(d:Lv)(a:List Nat)(e:Lv)(b:List Nat)(f:Int)(g:Int)(h:Lv)(c:List Nat)(_:Unit) :aW:=⟨ax 114 [(2,.ptr 0 1 0 0),(3,.ptr 1 1 0 0),(5,.ptr 2 1 0 0),(8,.int .i64 (((List.length a):Nat):Int))],[(0,.vs [.imm d (.fl a) 1 1 0 (List.length a),.imm e (.fl b) 1 1 0 (List.length b)]),(1,.vs [.int .i64 f,.int .i64 g,.imm h (.fl c) 1 1 0 (List.length c)]),(2,.vs [.int .i64 (0:Int),.int .i64 (0:Int),.nsl])],3⟩
def IH(a : List Nat)(b : List Nat)(e : Int)(d : Int)(c : List Nat) : T ((Unit) ⊕ (cR)) :=
  .need (di 0 (List.length a) a)<|.need (di 0 (List.length b) b)<|.need (rR (pO (ay 0 (List.length a) a) (ay 0 (List.length b) b)))<|.ask (!(sE (pO (ay 0 (List.length a) a) (ay 0 (List.length b) b))))
    (.leaf (.inr (.r0 0 0 2 ([]:List Nat) (0:Int) (0:Int) 0 ([]:List Nat))))
    (.need (di 0 (List.length c) c)<|.need (CI (zX e d (ay 0 (List.length c) c)))<|.ask (!(Bj (zX e d (ay 0 (List.length c) c))))
      (.leaf (.inr (.r0 0 0 2 ([]:List Nat) (0:Int) (0:Int) 0 ([]:List Nat))))
      (.ask (d != (((List.length a):Nat):Int))
        (.leaf (.inr (.r0 0 0 8 ([]:List Nat) (0:Int) (0:Int) 0 ([]:List Nat))))
        (.need (di 0 (List.length a) a)<|.need (cr (bn (ay 0 (List.length a) a)))<|.ask (!(!(decide ((bG (bn (ay 0 (List.length a) a)))≥(0:Int)))))
          (.leaf (.inr (.r0 0 0 10 ([]:List Nat) (0:Int) (0:Int) 0 ([]:List Nat))))
          (.need (di 0 (List.length b) b)<|.need (cr (bn (ay 0 (List.length b) b)))<|.ask (!(!(decide ((bG (bn (ay 0 (List.length b) b)))≥(0:Int)))))
            (.leaf (.inr (.r0 0 0 10 ([]:List Nat) (0:Int) (0:Int) 0 ([]:List Nat))))
            (.need (di 0 (List.length c) c)<|.need (cr (bn (ay 0 (List.length c) c)))<|.ask (!(!(decide ((bG (bn (ay 0 (List.length c) c)))≥(0:Int)))))
              (.leaf (.inr (.r0 0 0 10 ([]:List Nat) (0:Int) (0:Int) 0 ([]:List Nat))))
              (.leaf (.inl ())))))))
def Ra(g:List Nat)(a:Int)(b:Int)(h:Lv)(c:List Nat) :Nat×Nat×Nat×(List Nat)×(List Nat)×(List Nat)→aW:=fun (d,e,f,i,j,k)=>⟨ax 114 [(3,.ptr 0 1 0 0),(5,.ptr 1 1 0 0),(9,.ptr 2 1 0 0),(10,.int .i64 (0:Int)),(71,.int .i64 (((List.length g):Nat):Int)),(72,.int .i64 (0:Int))],[(0,.vs [.int .i64 a,.int .i64 b,.imm h (.fl c) 1 1 0 (List.length c)]),(1,.vs [.int .i64 (0:Int),.int .i64 (0:Int),.nsl]),(2,.vs [.sl 3 1 1 0 d d,.sl 4 1 1 0 e e,.int .i64 a,.int .i64 b,.sl 5 1 1 0 f f]),(3,.fl i),(4,.fl j),(5,.fl k)],6⟩
def II(b:List Nat)(a:List Nat)(c:List Nat) :T ((Nat×Nat×Nat×(List Nat)×(List Nat)×(List Nat))⊕(cR)) :=
  .need (di 0 (List.length b) b)<|.need (eX (List.length (ay 0 (List.length b) b)))<|.need (di 0 (List.length a) a)<|.need (eX (List.length (ay 0 (List.length a) a)))<|.need (pS (((List.length (ay 0 (List.length a) a))+1)*8) 140737488355328)<|.need (pS ((List.length (ay 0 (List.length a) a))+1) 9223372036854775807)<|.need (pS 1 (List.length [0]))<|.need (pS (List.length (ay 0 (List.length a) a)) (List.length (ay 0 (List.length a) a)))<|.need (di 0 (List.length c) c)<|.need (eX (List.length (ay 0 (List.length c) c)))<|.leaf (.inl ((List.length (ay 0 (List.length b) b)),((List.length (ay 0 (List.length a) a))+1),(List.length (ay 0 (List.length c) c)),(ay 0 (List.length b) b),((List.take (List.length (ay 0 (List.length a) a)) (ay 0 (List.length a) a))++(List.take 1 [0])),(ay 0 (List.length c) c)))
def zu(b:List Nat)(c:Int)(d:Int)(e:Lv)(a:List Nat) :Nat×Nat×Nat×Nat×Nat×Nat×Int×Int×Nat×Nat×(List Nat)×(List Nat)×(List Nat)→aW:=fun (f,g,h,i,j,k,l,m,n,o,p,q,r)=>⟨ax 114 [(3,.ptr 0 1 0 0),(5,.ptr 1 1 0 0),(9,.ptr 2 1 0 0),(10,.int .i64 ((f:Nat):Int)),(71,.int .i64 (((List.length b):Nat):Int)),(72,.int .i64 ((g:Nat):Int))],[(0,.vs [.int .i64 c,.int .i64 d,.imm e (.fl a) 1 1 0 (List.length a)]),(1,.vs [.int .i64 (0:Int),.int .i64 (0:Int),.nsl]),(2,.vs [.sl 3 1 1 0 h i,.sl 4 1 1 0 j k,.int .i64 l,.int .i64 m,.sl 5 1 1 0 n o]),(3,.fl p),(4,.fl q),(5,.fl r)],6⟩
def DH(b:Int)(c:Int)(d:Lv)(a:List Nat) :Nat×Nat×Nat×Nat×Nat×Int×Int×Nat×Nat×(List Nat)×(List Nat)×(List Nat)→aW:=fun (e,f,g,h,i,j,k,l,m,n,o,p)=>⟨ax 114 [(3,.ptr 0 1 0 0),(5,.ptr 1 1 0 0),(9,.ptr 2 1 0 0),(10,.int .i64 ((e:Nat):Int))],[(0,.vs [.int .i64 b,.int .i64 c,.imm d (.fl a) 1 1 0 (List.length a)]),(1,.vs [.int .i64 (0:Int),.int .i64 (0:Int),.nsl]),(2,.vs [.sl 3 1 1 0 f g,.sl 4 1 1 0 h i,.int .i64 j,.int .i64 k,.sl 5 1 1 0 l m]),(3,.fl n),(4,.fl o),(5,.fl p)],6⟩
def IJ:List Code:=cV (dm (((((PQ.drop 3).drop 3).take 1)).headD .skip))
def PR(b:List Nat)(c:Int)(d:Int)(e:Lv)(a:List Nat)(f:Nat)(g:Nat)(h:Nat)(i:Nat)(j:Nat)(k:Nat)(l:Int)(m:Int)(n:Nat)(o:Nat)(p:List Nat)(q:List Nat)(r:List Nat)(_:Unit) :aW:=⟨ax 114 [(3,.ptr 0 1 0 0),(5,.ptr 1 1 0 0),(9,.ptr 2 1 0 0),(10,.int .i64 ((f:Nat):Int)),(71,.int .i64 (((List.length b):Nat):Int)),(72,.int .i64 ((g:Nat):Int))],[(0,.vs [.int .i64 c,.int .i64 d,.imm e (.fl a) 1 1 0 (List.length a)]),(1,.vs [.int .i64 (0:Int),.int .i64 (0:Int),.nsl]),(2,.vs [.sl 3 1 1 0 h i,.sl 4 1 1 0 j k,.int .i64 l,.int .i64 m,.sl 5 1 1 0 n o]),(3,.fl p),(4,.fl q),(5,.fl r)],6⟩
def IK(a:List Nat)(b:Nat)(c:Nat)(d:Nat)(e:Nat)(f:Nat)(g:Nat)(h:Int)(i:Int)(j:Nat)(k:Nat)(l:List Nat)(m:List Nat)(n:List Nat) :T ((Unit)⊕((Nat×Nat×Nat×Nat×Nat×Int×Int×Nat×Nat×(List Nat)×(List Nat)×(List Nat))⊕(cR))) :=
  .ask (decide (((c:Nat):Int)<(((List.length a):Nat):Int)))
    (.leaf (.inl ()))
    (.leaf (.inr (.inl (b,d,e,f,g,h,i,j,k,l,m,n))))
def DI(b:List Nat)(c:Int)(d:Int)(e:Lv)(a:List Nat)(f:Nat) :Nat×Nat×Nat×Nat×Nat×Int×Int×Nat×Nat×(List Nat)×(List Nat)×(List Nat)→aW:=fun (g,h,i,j,k,l,m,n,o,p,q,r)=>⟨ax 114 [(3,.ptr 0 1 0 0),(5,.ptr 1 1 0 0),(9,.ptr 2 1 0 0),(10,.int .i64 ((g:Nat):Int)),(71,.int .i64 (((List.length b):Nat):Int)),(72,.int .i64 ((f:Nat):Int))],[(0,.vs [.int .i64 c,.int .i64 d,.imm e (.fl a) 1 1 0 (List.length a)]),(1,.vs [.int .i64 (0:Int),.int .i64 (0:Int),.nsl]),(2,.vs [.sl 3 1 1 0 h i,.sl 4 1 1 0 j k,.int .i64 l,.int .i64 m,.sl 5 1 1 0 n o]),(3,.fl p),(4,.fl q),(5,.fl r)],6⟩
def PS:List Code:=cV (inBlock ((((IJ.drop 2).take 1)).headD .skip))
def PT(c:List Nat)(d:Int)(e:Int)(f:Lv)(a:List Nat)(g:Nat)(b:Nat)(h:Nat)(i:Nat)(j:Nat)(k:Nat)(l:Int)(m:Int)(n:Nat)(o:Nat)(p:List Nat)(q:List Nat)(r:List Nat)(_:Unit) :aW:=⟨ax 114 [(3,.ptr 0 1 0 0),(5,.ptr 1 1 0 0),(9,.ptr 2 1 0 0),(10,.int .i64 ((g:Nat):Int)),(11,.int .i64 ((b:Nat):Int)),(12,.int .i64 (0:Int)),(71,.int .i64 (((List.length c):Nat):Int)),(72,.int .i64 ((b:Nat):Int))],[(0,.vs [.int .i64 d,.int .i64 e,.imm f (.fl a) 1 1 0 (List.length a)]),(1,.vs [.int .i64 (0:Int),.int .i64 (0:Int),.nsl]),(2,.vs [.sl 3 1 1 0 h i,.sl 4 1 1 0 j k,.int .i64 l,.int .i64 m,.sl 5 1 1 0 n o]),(3,.fl p),(4,.fl q),(5,.fl r)],6⟩
def IL:T ((Unit)⊕((Nat×Nat×Nat×Nat×Nat×Int×Int×Nat×Nat×(List Nat)×(List Nat)×(List Nat))⊕((Nat×Nat×Nat×Nat×Nat×Int×Int×Nat×Nat×(List Nat)×(List Nat)×(List Nat))⊕(cR)))) :=
  .leaf (.inl ())
def zw(c:List Nat)(d:Int)(e:Int)(f:Lv)(a:List Nat)(b:Nat) :Nat×Nat×Nat×Nat×Nat×Nat×Int×Int×Nat×Nat×(List Nat)×(List Nat)×(List Nat)→aW:=fun (g,h,i,j,k,l,m,n,o,p,q,r,s)=>⟨ax 114 [(3,.ptr 0 1 0 0),(5,.ptr 1 1 0 0),(9,.ptr 2 1 0 0),(10,.int .i64 ((g:Nat):Int)),(11,.int .i64 ((b:Nat):Int)),(12,.int .i64 ((h:Nat):Int)),(71,.int .i64 (((List.length c):Nat):Int)),(72,.int .i64 ((b:Nat):Int))],[(0,.vs [.int .i64 d,.int .i64 e,.imm f (.fl a) 1 1 0 (List.length a)]),(1,.vs [.int .i64 (0:Int),.int .i64 (0:Int),.nsl]),(2,.vs [.sl 3 1 1 0 i j,.sl 4 1 1 0 k l,.int .i64 m,.int .i64 n,.sl 5 1 1 0 o p]),(3,.fl q),(4,.fl r),(5,.fl s)],6⟩
def IM(b:List Nat)(c:Int)(d:Int)(e:Lv)(a:List Nat)(f:Nat) :Nat×Nat×Nat×Nat×Nat×Int×Int×Nat×Nat×(List Nat)×(List Nat)×(List Nat)→aW:=fun (g,h,i,j,k,l,m,n,o,p,q,r)=>⟨ax 114 [(3,.ptr 0 1 0 0),(5,.ptr 1 1 0 0),(9,.ptr 2 1 0 0),(10,.int .i64 ((g:Nat):Int)),(71,.int .i64 (((List.length b):Nat):Int)),(72,.int .i64 ((f:Nat):Int))],[(0,.vs [.int .i64 c,.int .i64 d,.imm e (.fl a) 1 1 0 (List.length a)]),(1,.vs [.int .i64 (0:Int),.int .i64 (0:Int),.nsl]),(2,.vs [.sl 3 1 1 0 h i,.sl 4 1 1 0 j k,.int .i64 l,.int .i64 m,.sl 5 1 1 0 n o]),(3,.fl p),(4,.fl q),(5,.fl r)],6⟩
def PU:List Code:=cV (dm ((((PS.drop 2).take 1)).headD .skip))
def PV(c:List Nat)(d:Int)(e:Int)(f:Lv)(a:List Nat)(b:Nat)(g:Nat) :Nat×Nat×Nat×Nat×Nat×Int×Int×Nat×Nat×(List Nat)×(List Nat)×(List Nat)→aW:=fun (h,i,j,k,l,m,n,o,p,q,r,s)=>⟨ax 114 [(3,.ptr 0 1 0 0),(5,.ptr 1 1 0 0),(9,.ptr 2 1 0 0),(10,.int .i64 ((h:Nat):Int)),(11,.int .i64 ((b:Nat):Int)),(12,.int .i64 ((g:Nat):Int)),(71,.int .i64 (((List.length c):Nat):Int)),(72,.int .i64 ((b:Nat):Int))],[(0,.vs [.int .i64 d,.int .i64 e,.imm f (.fl a) 1 1 0 (List.length a)]),(1,.vs [.int .i64 (0:Int),.int .i64 (0:Int),.nsl]),(2,.vs [.sl 3 1 1 0 i j,.sl 4 1 1 0 k l,.int .i64 m,.int .i64 n,.sl 5 1 1 0 o p]),(3,.fl q),(4,.fl r),(5,.fl s)],6⟩
def IN(e:Nat)(m:Nat)(n:Nat)(a:Nat)(h:Nat)(b:Nat)(i:Nat)(j:Int)(k:Int)(f:Nat)(l:Nat)(c:List Nat)(d:List Nat)(g:List Nat) :T ((Nat×Nat×Nat×Nat×Nat×Int×Int×Nat×Nat×(List Nat)×(List Nat)×(List Nat))⊕((Nat×Nat×Nat×Nat×Nat×Int×Int×Nat×Nat×(List Nat)×(List Nat)×(List Nat))⊕((Nat×Nat×Nat×Nat×Nat×Int×Int×Nat×Nat×(List Nat)×(List Nat)×(List Nat))⊕((Nat×Nat×Nat×Nat×Nat×Int×Int×Nat×Nat×(List Nat)×(List Nat)×(List Nat))⊕(cR))))) :=
  .need (di 0 a c)<|.need (di 0 b d)<|.need (di 0 f g)<|.need (nK (ca (ay 0 a c) (ay 0 b d) ((e:Nat):Int)))<|.ask ((bH (ca (ay 0 a c) (ay 0 b d) ((e:Nat):Int)))==((e:Nat):Int))
    (.leaf (.inr (.inl (m,a,h,b,i,j,k,f,l,c,d,g))))
    (.ask (((n:Nat):Int)==(30:Int))
      (.leaf (.inr (.inr (.inr (.inr (.r0 0 m 7 ([]:List Nat) (0:Int) (0:Int) 0 ([]:List Nat)))))))
      (.need (kR (bX a h b i j k f l c d g ((e:Nat):Int) (bH (ca (ay 0 a c) (ay 0 b d) ((e:Nat):Int)))))<|.need (fI .i64 (((m+1):Nat):Int))<|.leaf (.inl ((m+1),(lO (bX a h b i j k f l c d g ((e:Nat):Int) (bH (ca (ay 0 a c) (ay 0 b d) ((e:Nat):Int))))),(lP (bX a h b i j k f l c d g ((e:Nat):Int) (bH (ca (ay 0 a c) (ay 0 b d) ((e:Nat):Int))))),(lQ (bX a h b i j k f l c d g ((e:Nat):Int) (bH (ca (ay 0 a c) (ay 0 b d) ((e:Nat):Int))))),(lR (bX a h b i j k f l c d g ((e:Nat):Int) (bH (ca (ay 0 a c) (ay 0 b d) ((e:Nat):Int))))),(lS (bX a h b i j k f l c d g ((e:Nat):Int) (bH (ca (ay 0 a c) (ay 0 b d) ((e:Nat):Int))))),(lT (bX a h b i j k f l c d g ((e:Nat):Int) (bH (ca (ay 0 a c) (ay 0 b d) ((e:Nat):Int))))),(lU (bX a h b i j k f l c d g ((e:Nat):Int) (bH (ca (ay 0 a c) (ay 0 b d) ((e:Nat):Int))))),(lV (bX a h b i j k f l c d g ((e:Nat):Int) (bH (ca (ay 0 a c) (ay 0 b d) ((e:Nat):Int))))),(lW (bX a h b i j k f l c d g ((e:Nat):Int) (bH (ca (ay 0 a c) (ay 0 b d) ((e:Nat):Int))))),(lX (bX a h b i j k f l c d g ((e:Nat):Int) (bH (ca (ay 0 a c) (ay 0 b d) ((e:Nat):Int))))),(ld (bX a h b i j k f l c d g ((e:Nat):Int) (bH (ca (ay 0 a c) (ay 0 b d) ((e:Nat):Int)))))))))
def IO(a:Nat)(b:Nat)(c:Nat)(d:Nat)(e:Nat)(f:Nat)(g:Int)(h:Int)(i:Nat)(j:Nat)(k:List Nat)(l:List Nat)(m:List Nat) :T ((Nat×Nat×Nat×Nat×Nat×Nat×Int×Int×Nat×Nat×(List Nat)×(List Nat)×(List Nat))⊕((Nat×Nat×Nat×Nat×Nat×Int×Int×Nat×Nat×(List Nat)×(List Nat)×(List Nat))⊕((Nat×Nat×Nat×Nat×Nat×Int×Int×Nat×Nat×(List Nat)×(List Nat)×(List Nat))⊕((Nat×Nat×Nat×Nat×Nat×Int×Int×Nat×Nat×(List Nat)×(List Nat)×(List Nat))⊕(cR))))) :=
  .need (fI .i64 (((a+1):Nat):Int))<|.leaf (.inl (b,(a+1),c,d,e,f,g,h,i,j,k,l,m))
def zx(b:Nat) :Nat×Nat×Nat×Nat×Nat×Nat×Int×Int×Nat×Nat×(List Nat)×(List Nat)×(List Nat)→Option ((Nat×Nat×Nat×Nat×Nat×Nat×Int×Int×Nat×Nat×(List Nat)×(List Nat)×(List Nat))⊕((Nat×Nat×Nat×Nat×Nat×Int×Int×Nat×Nat×(List Nat)×(List Nat)×(List Nat))⊕((Nat×Nat×Nat×Nat×Nat×Int×Int×Nat×Nat×(List Nat)×(List Nat)×(List Nat))⊕((Nat×Nat×Nat×Nat×Nat×Int×Int×Nat×Nat×(List Nat)×(List Nat)×(List Nat))⊕(cR))))):=fun (c,a,d,e,f,g,h,i,j,k,l,m,n) =>
  bd ((IN b c a d e f g h i j k l m n).run) fun (o,p,q,r,s,t,u,v,w,x,y,z) =>
  (IO a o p q r s t u v w x y z).run
theorem PW(f:List Nat)(a:Int)(b:Int)(c:Lv)(d:List Nat)(e:Nat)(h:Nat)(g:Nat)(i:Nat)(j:Nat)(k:Nat)(l:Nat)(m:Int)(n:Int)(o:Nat)(p:Nat)(q:List Nat)(r:List Nat)(s:List Nat) :Sg prog [] PU (zw f a b c d e (h,g,i,j,k,l,m,n,o,p,q,r,s)) (zx e (h,g,i,j,k,l,m,n,o,p,q,r,s)) (zw f a b c d e) (co 3 (IM f a b c d e) (co 2 (DI f a b c d e) (co 1 (DH a b c d) z6))):=by
  unfold zx;exact Sg.cut 1 (az (az (az jD))) (cF ii (PV f a b c d e g) [⟨[],[0,1,2,3,4,5],[3,5,9,10,71,72]⟩,⟨[(.slot 4,.own 1 1 (.fl ([]:List Nat))),(.cell 1 2,.own 1 1 (.fl ([]:List Nat)))],[246,1,247],[4,5,6,7]⟩,⟨[],[0,1,2,3,4,5],[3,5,9,10,11,12,71,72]⟩]) (fun ⟨t,u,v,w,x,y,z,A,B,C,D,E⟩=>cF ii (zw f a b c d e) [⟨[],[0,1,2,3,4,5],[3,5,9,10,11,12,71,72]⟩])
def IP(a:Nat)(b:Nat)(c:Nat)(d:Nat)(e:Nat)(f:Int)(g:Int)(h:Nat)(i:Nat)(j:List Nat)(k:List Nat)(l:List Nat) :T ((Nat×Nat×Nat×Nat×Nat×Int×Int×Nat×Nat×(List Nat)×(List Nat)×(List Nat))⊕((Nat×Nat×Nat×Nat×Nat×Int×Int×Nat×Nat×(List Nat)×(List Nat)×(List Nat))⊕((Nat×Nat×Nat×Nat×Nat×Int×Int×Nat×Nat×(List Nat)×(List Nat)×(List Nat))⊕(cR)))) :=
  .leaf (.inl (a,b,c,d,e,f,g,h,i,j,k,l))
def IQ(a:Nat)(b:Nat)(c:Nat)(d:Nat)(e:Nat)(f:Nat)(g:Int)(h:Int)(i:Nat)(j:Nat)(k:List Nat)(l:List Nat)(m:List Nat) :T ((Nat×Nat×Nat×Nat×Nat×Nat×Int×Int×Nat×Nat×(List Nat)×(List Nat)×(List Nat))⊕((Nat×Nat×Nat×Nat×Nat×Int×Int×Nat×Nat×(List Nat)×(List Nat)×(List Nat))⊕(cR))) :=
  .need (fI .i64 (((a+1):Nat):Int))<|.leaf (.inl (b,(a+1),c,d,e,f,g,h,i,j,k,l,m))
def zy(n:List Nat) :Nat×Nat×Nat×Nat×Nat×Nat×Int×Int×Nat×Nat×(List Nat)×(List Nat)×(List Nat)→Option ((Nat×Nat×Nat×Nat×Nat×Nat×Int×Int×Nat×Nat×(List Nat)×(List Nat)×(List Nat))⊕((Nat×Nat×Nat×Nat×Nat×Int×Int×Nat×Nat×(List Nat)×(List Nat)×(List Nat))⊕(cR))):=fun (b,a,c,d,e,f,g,h,i,j,k,l,m) =>
  bd ((IK n b a c d e f g h i j k l m).run) fun _ =>
  bd (vO (bd ((IL).run) fun _ =>
  bd (cu (zx a) (b,0,c,d,e,f,g,h,i,j,k,l,m)) fun (o,p,q,r,s,t,u,v,w,x,y,z) =>
  (IP o p q r s t u v w x y z).run)) fun (A,B,C,D,E,F,G,H,I,J,K,L) =>
  (IQ a A B C D E F G H I J K L).run
theorem PX(a:List Nat)(b:Int)(c:Int)(d:Lv)(e:List Nat)(g:Nat)(f:Nat)(h:Nat)(i:Nat)(j:Nat)(k:Nat)(l:Int)(m:Int)(n:Nat)(o:Nat)(p:List Nat)(q:List Nat)(r:List Nat) :Sg prog [] IJ (zu a b c d e (g,f,h,i,j,k,l,m,n,o,p,q,r)) (zy a (g,f,h,i,j,k,l,m,n,o,p,q,r)) (zu a b c d e) (co 1 (DH b c d e) z6):=by
  unfold zy;exact Sg.cut 2 (az jD) (cF ii (PR a b c d e g f h i j k l m n o p q r) [⟨[],[0,1,2,3,4,5],[3,5,9,10,71,72]⟩,⟨[],[0,1,2,3,4,5],[3,5,9,10]⟩]) (fun _=>Sg.cut 1 (az jD) (UR (DI a b c d e f) 2 (az jD) (cW (by decide) (Fp _)) (Sg.cut 2 (az (az jD)) (cF ii (PT a b c d e g f h i j k l m n o p q r) [⟨[],[0,1,2,3,4,5],[3,5,9,10,11,12,71,72]⟩]) (fun _=>Sg.cut 1 (az (az jD)) (yE ⟨[],[0,1,2,3,4,5],[3,5,9,10,11,12,71,72]⟩ (zw a b c d e f) (IM a b c d e f) 3 (az (az jD)) (cW (by decide) (cW (by decide) (Fp _))) (fun ⟨s,t,u,v,w,x,y,z,A,B,C,D,E⟩=>PW a b c d e f s t u v w x y z A B C D E)) (fun ⟨F,G,H,I,J,K,L,M,N,O,P,Q⟩=>cF ii (DI a b c d e f) [⟨[],[0,1,2,3,4,5],[3,5,9,10,71,72]⟩])))) (fun ⟨R,S,T,U,V,W,X,Y,Z,a0,a1,a2⟩=>cF ii (zu a b c d e) [⟨[],[0,1,2,3,4,5],[3,5,9,10,71,72]⟩]))
def PY(c:Nat) :Nat×Nat×Int×Int×Nat×(List Nat)×(List Nat)→aW:=fun (a,d,e,f,b,g,h)=>⟨ax 114 [(3,.ptr 0 1 0 0),(5,.ptr 1 1 0 0),(10,.int .i64 ((c:Nat):Int)),(14,.sl 2 1 1 0 a a),(15,.int .i64 ((d:Nat):Int))],[(0,.vs [.int .i64 e,.int .i64 f,.sl 3 1 1 0 b b]),(1,.vs [.int .i64 (0:Int),.int .i64 (0:Int),.nsl]),(2,.fl g),(3,.fl h)],4⟩
def IR(a:Nat)(e:Int)(f:Int)(b:Nat)(c:List Nat)(d:List Nat) :T ((Nat×Nat×Int×Int×Nat×(List Nat)×(List Nat))⊕(cR)) :=
  .need (di 0 a c)<|.need (di 0 b d)<|.need (vV (fk (ay 0 a c) e f (ay 0 b d)))<|.leaf (.inl ((vW (fk (ay 0 a c) e f (ay 0 b d))),(vX (fk (ay 0 a c) e f (ay 0 b d))),(vZ (fk (ay 0 a c) e f (ay 0 b d))),(v3 (fk (ay 0 a c) e f (ay 0 b d))),(v4 (fk (ay 0 a c) e f (ay 0 b d))),(vY (fk (ay 0 a c) e f (ay 0 b d))),(v5 (fk (ay 0 a c) e f (ay 0 b d)))))
def IS(a:Nat)(b:Nat)(c:Nat)(d:Int)(e:Int)(f:Nat)(g:List Nat)(h:List Nat) :T ((Empty)⊕(cR)) :=
  .ask (((c:Nat):Int) != (0:Int))
    (.leaf (.inr (.r0 0 a 7 ([]:List Nat) (0:Int) (0:Int) 0 ([]:List Nat))))
    (.leaf (.inr (.r0 b a 0 g d e f h)))
def fg(a:List Nat)(b:List Nat)(c:Int)(d:Int)(e:List Nat) :Option cR:=toX (bd ((IH a b c d e).run) fun _ =>
  bd ((II a b e).run) fun (f,g,h,i,j,k) =>
  bd (cu (zy a) (0,0,f,f,g,g,c,d,h,h,i,j,k)) fun (l,m,z,A,B,n,o,p,C,q,D,r) =>
  bd ((IR m n o p q r).run) fun (s,t,u,v,w,x,y) =>
  (IS l s t u v w x y).run)
theorem Rb(g:Lv)(b:List Nat)(i:Lv)(f:List Nat)(c:Int)(d:Int)(e:Lv)(a:List Nat){x:cR}(h:fg b f c d a=some x) :aH prog HS [] [.agg [.imm g (.fl b) 1 1 0 (List.length b),.imm i (.fl f) 1 1 0 (List.length f)],.agg [.int .i64 c,.int .i64 d,.imm e (.fl a) 1 1 0 (List.length a)]] (H2 x) :=
  GS false H2 z6 h (Sg.cut 3 jD (cF ii (Q9 g b i f c d e a) [⟨[(.slot 4,.own 1 1 (.fl ([]:List Nat))),(.cell 48 2,.own 1 1 (.fl ([]:List Nat)))],[384,48,385],[4,5,6,7]⟩,⟨[(.slot 4,.own 1 1 (.fl ([]:List Nat))),(.cell 48 2,.own 1 1 (.fl ([]:List Nat)))],[384,48,385],[4,5,6,7]⟩,⟨[(.slot 4,.own 1 1 (.fl ([]:List Nat))),(.cell 48 2,.own 1 1 (.fl ([]:List Nat)))],[464,48,465],[4,5,6,7]⟩,⟨[(.slot 4,.own 1 1 (.fl ([]:List Nat))),(.cell 48 2,.own 1 1 (.fl ([]:List Nat)))],[736,48,737],[4,5,6,7]⟩,⟨[(.slot 4,.own 1 1 (.fl ([]:List Nat))),(.cell 48 2,.own 1 1 (.fl ([]:List Nat)))],[736,48,737],[4,5,6,7]⟩,⟨[(.slot 4,.own 1 1 (.fl ([]:List Nat))),(.cell 48 2,.own 1 1 (.fl ([]:List Nat)))],[736,48,737],[4,5,6,7]⟩,⟨[],[0,16,48],[2,3,5,8]⟩]) (fun _=>Sg.cut 3 jD (cF ii (Ra b c d e a) [⟨[],[1,2,275,35,115,227],[3,5,9,10,71,72]⟩]) (fun ⟨E,F,G,H,I,J⟩=>Sg.cut 1 jD (yE ⟨[],[0,1,2,3,4,5],[3,5,9,10,71,72]⟩ (zu b c d e a) (DH c d e a) 1 jD (Fp _) (fun ⟨l,m,n,o,p,q,r,s,t,u,v,w,y⟩=>PX b c d e a l m n o p q r s t u v w y)) (fun ⟨z,K,L,M,N,O,P,Q,R,S,T,U⟩=>Sg.cut 1 jD (cF ii (PY z) [⟨[],[0,1,134,135],[3,5,10,14,15]⟩]) (fun ⟨V,W,X,Y,Z,a0,a4⟩=>cF ii Gd [⟨[(.slot 4,.own 1 1 (.fl ([]:List Nat))),(.cell 1 2,.own 1 1 (.fl ([]:List Nat)))],[132,1,133],[4,5,6,7]⟩,⟨[],[2,1,3],[4,5,6,7]⟩])))))
    (fun x=>by cases x with | r0 j A B a5 C D k a6=>exact EI [.sl 0 1 1 0 j j,.agg [.int .i64 C,.int .i64 D,.sl 2 1 1 0 k k],.int .i64 ((A:Nat):Int),.int .i64 ((B:Nat):Int)])
def yv:Option cR→Bool
  | some _=>true
  | none=>false
def xU:Option cR→Nat
  | some (.r0 x _ _ _ _ _ _ _)=>x
  | _=>0
def xV:Option cR→Nat
  | some (.r0 _ x _ _ _ _ _ _)=>x
  | _=>0
def xW:Option cR→Nat
  | some (.r0 _ _ x _ _ _ _ _)=>x
  | _=>0
def xX:Option cR→List Nat
  | some (.r0 _ _ _ x _ _ _ _)=>x
  | _=>[]
def xY:Option cR→Int
  | some (.r0 _ _ _ _ x _ _ _)=>x
  | _=>0
def xZ:Option cR→Int
  | some (.r0 _ _ _ _ _ x _ _)=>x
  | _=>0
def ya:Option cR→Nat
  | some (.r0 _ _ _ _ _ _ x _)=>x
  | _=>0
def yb:Option cR→List Nat
  | some (.r0 _ _ _ _ _ _ _ x)=>x
  | _=>[]
theorem Rc{x:Option cR}(h:yv x=true) :x=some (.r0 (xU x) (xV x) (xW x) (xX x) (xY x) (xZ x) (ya x) (yb x)):=by
  unfold yv at h
  split at h<;>first | rfl | (cases h;done) | (rename_i y;cases y;rfl)
def MW:bC:=lC HS (.cons (.agg (.cons .fl (.cons .fl .nil))) (.cons (.agg (.cons (.int .i64) (.cons (.int .i64) (.cons .fl .nil)))) .nil)) fun t=>(fun q=>[⟨H2 (.r0 (xU q) (xV q) (xW q) (xX q) (xY q) (xZ q) (ya q) (yb q)),[yv q]⟩]) (fg t.1.1.2 t.1.2.1.2 t.2.1.1 t.2.1.2.1 t.2.1.2.2.1.2)
theorem N4:bZ prog MW:=eV fun t=>(eW (fun h=>Rb t.1.1.1 t.1.1.2 t.1.2.1.1 t.1.2.1.2 t.2.1.1 t.2.1.2.1 t.2.1.2.2.1.1 t.2.1.2.2.1.2 (Rc h)) fY)
def MX:List bC:=MW::KJ
theorem ui:cQ prog (cX MX):=aY N4 ii
inductive eF where
  | r0 (a:Nat) (b:Nat) (c:Nat) (d:Nat) (e:Nat) (f:List Nat) (g:List Nat) (h:List Nat) (i:List Nat)
def IT:eF→AE×aW
  | .r0 e a b c d f g h i=>(.ret,⟨ax 65 [(2,.ptr 0 1 0 0),(3,.ptr 1 1 0 0),(4,.flt false e)],[(0,.vs [.sl 2 1 1 0 a a,.sl 3 1 1 0 b b]),(1,.vs [.sl 4 1 1 0 c c,.sl 5 1 1 0 d d]),(2,.fl f),(3,.fl g),(4,.fl h),(5,.fl i)],6⟩)
theorem BM:xN IT:=by intro x;cases x<;>(intro h;cases h)
def DJ:eF→rF
  | .r0 e a b c d f g h i=>⟨.tup [.agg [.sl 0 1 1 0 a a,.sl 1 1 1 0 b b],.agg [.sl 2 1 1 0 c c,.sl 3 1 1 0 d d],.flt false e],[some (.fl f),some (.fl g),some (.fl h),some (.fl i)]⟩
def BN:List Code:=cV (qT Dy)
def N5:Int×Nat×Bool×Nat×Nat×Nat×Nat×(List Nat)×(List Nat)×(List Nat)×(List Nat)→aW:=fun (e,f,g,a,b,c,d,h,i,j,k)=>⟨ax 65 [(2,.ptr 0 1 0 0),(3,.ptr 1 1 0 0),(5,.int .i64 e),(6,.flt false f),(7,.ptr 2 1 0 0),(8,.ptr 3 1 0 0),(43,.bool false g)],[(0,.vs [.nsl,.nsl]),(1,.vs [.nsl,.nsl]),(2,.vs [.sl 4 1 1 0 a a,.sl 5 1 1 0 b b]),(3,.vs [.sl 6 1 1 0 c c,.sl 7 1 1 0 d d]),(4,.fl h),(5,.fl i),(6,.fl j),(7,.fl k)],8⟩
def He(a:List Nat)(b:List Nat) :T ((Int×Nat×Bool×Nat×Nat×Nat×Nat×(List Nat)×(List Nat)×(List Nat)×(List Nat))⊕(eF)) :=
  .need ((2:Int) != (0:Int))<|.need (fI .i64 (Int.tdiv (((List.length a):Nat):Int) (2:Int)))<|.need (fI .i64 ((Int.tdiv (((List.length a):Nat):Int) (2:Int))-(1:Int)))<|.need (gg ((Int.tdiv (((List.length a):Nat):Int) (2:Int))-(1:Int)) (List.length b))<|.need (fo (Int.toNat ((Int.tdiv (((List.length a):Nat):Int) (2:Int))-(1:Int))) (List.length b))<|.need (Ay (Int.tdiv (((List.length a):Nat):Int) (2:Int)) (List.length a))<|.need (Ay (0:Int) (Int.toNat (Int.tdiv (((List.length a):Nat):Int) (2:Int))))<|.need (di 0 (Int.toNat (Int.tdiv (((List.length a):Nat):Int) (2:Int))) a)<|.need (eX (List.length (ay 0 (Int.toNat (Int.tdiv (((List.length a):Nat):Int) (2:Int))) a)))<|.need (fI .i64 ((Int.tdiv (((List.length a):Nat):Int) (2:Int))-(1:Int)))<|.need (Ay ((Int.tdiv (((List.length a):Nat):Int) (2:Int))-(1:Int)) (List.length b))<|.need (Ay (0:Int) (Int.toNat ((Int.tdiv (((List.length a):Nat):Int) (2:Int))-(1:Int))))<|.need (di 0 (Int.toNat ((Int.tdiv (((List.length a):Nat):Int) (2:Int))-(1:Int))) b)<|.need (eX (List.length (ay 0 (Int.toNat ((Int.tdiv (((List.length a):Nat):Int) (2:Int))-(1:Int))) b)))<|.need (Ay (((List.length a):Nat):Int) (List.length a))<|.need (Ay (Int.tdiv (((List.length a):Nat):Int) (2:Int)) (List.length a))<|.need (di (Int.toNat (Int.tdiv (((List.length a):Nat):Int) (2:Int))) ((List.length a)-(Int.toNat (Int.tdiv (((List.length a):Nat):Int) (2:Int)))) a)<|.need (eX (List.length (ay (Int.toNat (Int.tdiv (((List.length a):Nat):Int) (2:Int))) ((List.length a)-(Int.toNat (Int.tdiv (((List.length a):Nat):Int) (2:Int)))) a)))<|.need (Ay (((List.length b):Nat):Int) (List.length b))<|.need (Ay (Int.tdiv (((List.length a):Nat):Int) (2:Int)) (List.length b))<|.need (di (Int.toNat (Int.tdiv (((List.length a):Nat):Int) (2:Int))) ((List.length b)-(Int.toNat (Int.tdiv (((List.length a):Nat):Int) (2:Int)))) b)<|.need (eX (List.length (ay (Int.toNat (Int.tdiv (((List.length a):Nat):Int) (2:Int))) ((List.length b)-(Int.toNat (Int.tdiv (((List.length a):Nat):Int) (2:Int)))) b)))<|.leaf (.inl ((Int.tdiv (((List.length a):Nat):Int) (2:Int)),(List.getD b (Int.toNat ((Int.tdiv (((List.length a):Nat):Int) (2:Int))-(1:Int))) 0),(Az (List.getD b (Int.toNat ((Int.tdiv (((List.length a):Nat):Int) (2:Int))-(1:Int))) 0) 0),(List.length (ay 0 (Int.toNat (Int.tdiv (((List.length a):Nat):Int) (2:Int))) a)),(List.length (ay 0 (Int.toNat ((Int.tdiv (((List.length a):Nat):Int) (2:Int))-(1:Int))) b)),(List.length (ay (Int.toNat (Int.tdiv (((List.length a):Nat):Int) (2:Int))) ((List.length a)-(Int.toNat (Int.tdiv (((List.length a):Nat):Int) (2:Int)))) a)),(List.length (ay (Int.toNat (Int.tdiv (((List.length a):Nat):Int) (2:Int))) ((List.length b)-(Int.toNat (Int.tdiv (((List.length a):Nat):Int) (2:Int)))) b)),(ay 0 (Int.toNat (Int.tdiv (((List.length a):Nat):Int) (2:Int))) a),(ay 0 (Int.toNat ((Int.tdiv (((List.length a):Nat):Int) (2:Int))-(1:Int))) b),(ay (Int.toNat (Int.tdiv (((List.length a):Nat):Int) (2:Int))) ((List.length a)-(Int.toNat (Int.tdiv (((List.length a):Nat):Int) (2:Int)))) a),(ay (Int.toNat (Int.tdiv (((List.length a):Nat):Int) (2:Int))) ((List.length b)-(Int.toNat (Int.tdiv (((List.length a):Nat):Int) (2:Int)))) b)))
def Hf(e:Nat)(a:Nat)(b:Nat)(c:Nat)(d:Nat)(f:List Nat)(g:List Nat) :(List Nat)×(List Nat)→aW:=fun (h,i)=>⟨ax 65 [(2,.ptr 0 1 0 0),(3,.ptr 1 1 0 0),(6,.flt false e),(7,.ptr 2 1 0 0),(8,.ptr 3 1 0 0)],[(0,.vs [.nsl,.nsl]),(1,.vs [.nsl,.nsl]),(2,.vs [.sl 4 1 1 0 a a,.sl 5 1 1 0 b b]),(3,.vs [.sl 6 1 1 0 c c,.sl 7 1 1 0 d d]),(4,.fl h),(5,.fl f),(6,.fl i),(7,.fl g)],8⟩
def Hg(a:Int)(d:Nat)(e:Nat)(f:Nat)(b:List Nat)(c:List Nat) :T (((List Nat)×(List Nat))⊕(eF)) :=
  .need (fI .i64 (a-(1:Int)))<|.need (gg (a-(1:Int)) e)<|.need (fo (Int.toNat (a-(1:Int))) (List.length b))<|.need (gg (a-(1:Int)) e)<|.need (fo (Int.toNat (a-(1:Int))) (List.length b))<|.need (gg (0:Int) f)<|.need (fo 0 (List.length c))<|.need (gg (0:Int) f)<|.need (fo 0 (List.length c))<|.leaf (.inl ((List.set b (Int.toNat (a-(1:Int))) (oN (List.getD b (Int.toNat (a-(1:Int))) 0) (eE d))),(List.set c 0 (oN (List.getD c 0 0) (eE d)))))
def Hh(a:List Nat)(b:List Nat) :T (((List Nat)×(List Nat))⊕(eF)) :=
  .leaf (.inl (a,b))
def Hi(a:Nat)(b:Nat)(c:Nat)(d:Nat)(e:Nat)(f:List Nat)(g:List Nat)(h:List Nat)(i:List Nat) :T ((Empty)⊕(eF)) :=
  .leaf (.inr (.r0 a b c d e h f i g))
def iC(f:List Nat)(g:List Nat) :Option eF:=toX (bd ((He f g).run) fun (h,a,i,b,j,c,k,d,l,e,m) =>
  bd ((bif i then (Hg h a b c d e).run else (Hh d e).run)) fun (n,o) =>
  (Hi a b j c k l m n o).run)
theorem N6(q:Lv)(a:List Nat)(r:Lv)(d:List Nat){x:eF}(h:iC a d=some x) :aH prog Dy [] [.agg [.imm q (.fl a) 1 1 0 (List.length a),.imm r (.fl d) 1 1 0 (List.length d)]] (DJ x) :=
  GS false DJ IT h (Sg.cut 6 BM (cF ui N5 [⟨[],[16,32,448,656,320,416,544,624],[2,3,5,6,7,8,43]⟩]) (fun ⟨u,e,s,f,g,i,j,v,k,w,l⟩=>Sg.cut 1 BM (CH (c:=.tmp 43) (kn:=false) (b:=s) (by kernel_rfl:((BN.drop 6).take 1)=[.cond (.tmp 43) (HU ((((BN.drop 6).take 1)).headD .skip)) (ME ((((BN.drop 6).take 1)).headD .skip))]) BM (by kernel_rfl) (cF ui (Hf e f g i j k l) [⟨[],[0,1,2,3,4,5,6,7],[2,3,6,7,8]⟩]) (cF ui (Hf e f g i j k l) [⟨[],[0,1,2,3,4,5,6,7],[2,3,6,7,8]⟩])) (fun ⟨y,z⟩=>cF ui Gd [⟨[],[0,1,4,5,6,7],[2,3,4]⟩])))
    (fun x=>by cases x with | r0 t m n o p A B C D=>exact EI [.agg [.sl 2 1 1 0 m m,.sl 3 1 1 0 n n],.agg [.sl 4 1 1 0 o o,.sl 5 1 1 0 p p],.flt false t])
def yc:Option eF→Bool
  | some _=>true
  | none=>false
def yF:Option eF→Nat
  | some (.r0 x _ _ _ _ _ _ _ _)=>x
  | _=>0
def yG:Option eF→Nat
  | some (.r0 _ x _ _ _ _ _ _ _)=>x
  | _=>0
def yH:Option eF→Nat
  | some (.r0 _ _ x _ _ _ _ _ _)=>x
  | _=>0
def yI:Option eF→Nat
  | some (.r0 _ _ _ x _ _ _ _ _)=>x
  | _=>0
def yJ:Option eF→Nat
  | some (.r0 _ _ _ _ x _ _ _ _)=>x
  | _=>0
def yK:Option eF→List Nat
  | some (.r0 _ _ _ _ _ x _ _ _)=>x
  | _=>[]
def yL:Option eF→List Nat
  | some (.r0 _ _ _ _ _ _ x _ _)=>x
  | _=>[]
def yM:Option eF→List Nat
  | some (.r0 _ _ _ _ _ _ _ x _)=>x
  | _=>[]
def yN:Option eF→List Nat
  | some (.r0 _ _ _ _ _ _ _ _ x)=>x
  | _=>[]
theorem N7{x:Option eF}(h:yc x=true) :x=some (.r0 (yF x) (yG x) (yH x) (yI x) (yJ x) (yK x) (yL x) (yM x) (yN x)):=by
  unfold yc at h
  split at h<;>first | rfl | (cases h;done) | (rename_i y;cases y;rfl)
def IU:bC:=lC Dy (.cons (.agg (.cons .fl (.cons .fl .nil))) .nil) fun t=>(fun q=>[⟨DJ (.r0 (yF q) (yG q) (yH q) (yI q) (yJ q) (yK q) (yL q) (yM q) (yN q)),[yc q]⟩]) (iC t.1.1.2 t.1.2.1.2)
theorem K0:bZ prog IU:=eV fun t=>(eW (fun h=>N6 t.1.1.1 t.1.1.2 t.1.2.1.1 t.1.2.1.2 (N7 h)) fY)
def IV:List bC:=IU::MX
theorem DY:cQ prog (cX IV):=aY K0 ui
inductive mR where
  | r0 (a:Int)
def N8:mR→AE×aW
  | .r0 a=>(.ret,⟨ax 20 [(4,.int .i64 a)],[],0⟩)
def BO:mR→rF
  | .r0 a=>⟨.int .i64 a,[]⟩
def Fq(b:Nat)(a:Nat) :T ((Empty)⊕(mR)) :=
  .ask (Az b b)
    (.ask (Az a a)
      (.leaf (.inr (.r0 (0:Int))))
      (.leaf (.inr (.r0 (-1:Int)))))
    (.ask (Az a a)
      (.leaf (.inr (.r0 (1:Int))))
      (.ask (flt b a)
        (.leaf (.inr (.r0 (-1:Int))))
        (.ask (Kh b a)
          (.leaf (.inr (.r0 (1:Int))))
          (.leaf (.inr (.r0 (0:Int)))))))
def rf(a:Nat)(b:Nat) :Option mR:=toX ((Fq a b).run)
theorem MY(a:Nat)(b:Nat){x:mR}(h:rf a b=some x) :aH prog GQ [] [.flt false a,.flt false b] (BO x) :=
  GS false BO N8 h (cF DY Gd [⟨[],[],[4]⟩,⟨[],[],[4]⟩,⟨[],[],[4]⟩,⟨[],[],[4]⟩,⟨[],[],[4]⟩,⟨[],[],[4]⟩])
    (fun x=>by cases x with | r0 c=>exact EI [.int .i64 c])
def v6:Option mR→Bool
  | some _=>true
  | none=>false
def xc:Option mR→Int
  | some (.r0 x)=>x
  | _=>0
theorem MZ{x:Option mR}(h:v6 x=true) :x=some (.r0 (xc x)):=by
  unfold v6 at h
  split at h<;>first | rfl | (cases h;done) | (rename_i y;cases y;rfl)
def Hj:bC:=lC GQ (.cons (.flt false) (.cons (.flt false) .nil)) fun t=>(fun q=>[⟨BO (.r0 (xc q)),[v6 q]⟩]) (rf t.1 t.2.1)
theorem JC:bZ prog Hj:=eV fun t=>(eW (fun h=>MY t.1 t.2.1 (MZ h)) fY)
def Hk:List bC:=Hj::IV
theorem iD:cQ prog (cX Hk):=aY JC DY
inductive aD where
inductive ba where
  | r0 (a:List Int)
def bB:aD→AE×aW:=fun x=>nomatch x
theorem aK:xN bB:=by intro x;cases x<;>(intro h;cases h)
theorem dg(id:Nat) :rh id bB:=by intro x;cases x<;>(intro h;cases h)
def dj:ba→rF
  | .r0 a=>⟨.tup [],[some (.ns .i64 a)]⟩
def fu(a:(List Int)) :aW:=⟨ax 53 [],[(0,.ns .i64 a)],1⟩
def jQ:List Code:=cV (qT iO)
def ka(c:List Int)(d:Nat)(e:Nat)(f:Nat)(g:Int)(h:Int)(i:Lv)(j:Lv)(k:Int)(l:Lv)(a:List Nat)(m:Int)(n:Int)(o:Lv)(b:List Nat)(p:Nat)(q:Int) :aW:=⟨ax 53 [(0,.sl 0 1 1 d e f),(1,.int .i64 g),(2,.int .i64 h),(3,.fn (.func aM) [] [.iptr i (.vs [.iptr j (.vs [.int .i64 k,.imm l (.fl a) 1 1 0 (List.length a),.nsl,.int .i64 m,.int .i64 n,.imm o (.fl b) 1 1 0 (List.length b),.flt false p,.nsl,.nsl]) 1 0 0]) 1 0 0]),(8,.int .i64 q)],[(0,.ns .i64 c)],1⟩
def fv(a:Int) :T ((Int)⊕(aD)) :=
  .need (fI .i64 (a+(1:Int)))<|.leaf (.inl (a+(1:Int)))
def bQ(c:Nat)(d:Nat)(e:Nat)(f:Int)(g:Int)(h:Lv)(i:Lv)(j:Int)(k:Lv)(a:List Nat)(l:Int)(m:Int)(n:Lv)(b:List Nat)(o:Nat) :Int×(List Int)→aW:=fun (p,q)=>⟨ax 53 [(0,.sl 0 1 1 c d e),(1,.int .i64 f),(2,.int .i64 g),(3,.fn (.func aM) [] [.iptr h (.vs [.iptr i (.vs [.int .i64 j,.imm k (.fl a) 1 1 0 (List.length a),.nsl,.int .i64 l,.int .i64 m,.imm n (.fl b) 1 1 0 (List.length b),.flt false o,.nsl,.nsl]) 1 0 0]) 1 0 0]),(8,.int .i64 p)],[(0,.ns .i64 q)],1⟩
def dd(a:(List Int)) :aW:=⟨ax 53 [],[(0,.ns .i64 a)],1⟩
def fw:List Code:=cV (dm ((((jQ.drop 1).take 1)).headD .skip))
def jR(c:Nat)(d:Nat)(e:Nat)(f:Int)(g:Int)(h:Lv)(i:Lv)(j:Int)(k:Lv)(a:List Nat)(l:Int)(m:Int)(n:Lv)(b:List Nat)(o:Nat)(p:Int)(q:List Int)(_:Unit) :aW:=⟨ax 53 [(0,.sl 0 1 1 c d e),(1,.int .i64 f),(2,.int .i64 g),(3,.fn (.func aM) [] [.iptr h (.vs [.iptr i (.vs [.int .i64 j,.imm k (.fl a) 1 1 0 (List.length a),.nsl,.int .i64 l,.int .i64 m,.imm n (.fl b) 1 1 0 (List.length b),.flt false o,.nsl,.nsl]) 1 0 0]) 1 0 0]),(8,.int .i64 p)],[(0,.ns .i64 q)],1⟩
def fA(a:Int)(b:Int)(c:List Int) :T ((Unit)⊕(((List Int))⊕(aD))) :=
  .ask (decide (b<a))
    (.leaf (.inl ()))
    (.leaf (.inr (.inl c)))
def de(c:Nat)(d:Nat)(e:Nat)(f:Int)(g:Int)(h:Lv)(i:Lv)(j:Int)(k:Lv)(a:List Nat)(l:Int)(m:Int)(n:Lv)(b:List Nat)(o:Nat)(p:Int)(q:(List Int)) :aW:=⟨ax 53 [(0,.sl 0 1 1 c d e),(1,.int .i64 f),(2,.int .i64 g),(3,.fn (.func aM) [] [.iptr h (.vs [.iptr i (.vs [.int .i64 j,.imm k (.fl a) 1 1 0 (List.length a),.nsl,.int .i64 l,.int .i64 m,.imm n (.fl b) 1 1 0 (List.length b),.flt false o,.nsl,.nsl]) 1 0 0]) 1 0 0]),(8,.int .i64 p)],[(0,.ns .i64 q)],1⟩
def jS:List Code:=cV (inBlock ((((fw.drop 2).take 1)).headD .skip))
def jT(d:Nat)(e:Nat)(f:Nat)(g:Int)(h:Int)(i:Lv)(j:Lv)(k:Int)(l:Lv)(a:List Nat)(m:Int)(n:Int)(o:Lv)(b:List Nat)(p:Nat)(c:Int)(q:List Int)(_:Unit) :aW:=⟨ax 53 [(0,.sl 0 1 1 d e f),(1,.int .i64 g),(2,.int .i64 h),(3,.fn (.func aM) [] [.iptr i (.vs [.iptr j (.vs [.int .i64 k,.imm l (.fl a) 1 1 0 (List.length a),.nsl,.int .i64 m,.int .i64 n,.imm o (.fl b) 1 1 0 (List.length b),.flt false p,.nsl,.nsl]) 1 0 0]) 1 0 0]),(8,.int .i64 c),(9,.int .i64 c)],[(0,.ns .i64 q)],1⟩
def fB:T ((Unit)⊕(((List Int))⊕(((List Int))⊕(aD)))) :=
  .leaf (.inl ())
def bR(c:Nat)(d:Nat)(e:Nat)(f:Int)(g:Int)(h:Lv)(i:Lv)(j:Int)(k:Lv)(a:List Nat)(l:Int)(m:Int)(n:Lv)(b:List Nat)(o:Nat)(p:Int) :Int×(List Int)→aW:=fun (q,r)=>⟨ax 53 [(0,.sl 0 1 1 c d e),(1,.int .i64 f),(2,.int .i64 g),(3,.fn (.func aM) [] [.iptr h (.vs [.iptr i (.vs [.int .i64 j,.imm k (.fl a) 1 1 0 (List.length a),.nsl,.int .i64 l,.int .i64 m,.imm n (.fl b) 1 1 0 (List.length b),.flt false o,.nsl,.nsl]) 1 0 0]) 1 0 0]),(8,.int .i64 p),(9,.int .i64 q)],[(0,.ns .i64 r)],1⟩
def fC(c:Nat)(d:Nat)(e:Nat)(f:Int)(g:Int)(h:Lv)(i:Lv)(j:Int)(k:Lv)(a:List Nat)(l:Int)(m:Int)(n:Lv)(b:List Nat)(o:Nat)(p:Int)(q:(List Int)) :aW:=⟨ax 53 [(0,.sl 0 1 1 c d e),(1,.int .i64 f),(2,.int .i64 g),(3,.fn (.func aM) [] [.iptr h (.vs [.iptr i (.vs [.int .i64 j,.imm k (.fl a) 1 1 0 (List.length a),.nsl,.int .i64 l,.int .i64 m,.imm n (.fl b) 1 1 0 (List.length b),.flt false o,.nsl,.nsl]) 1 0 0]) 1 0 0]),(8,.int .i64 p)],[(0,.ns .i64 q)],1⟩
def jU:List Code:=cV (dm ((((jS.drop 1).take 1)).headD .skip))
def jV(c:Nat)(d:Nat)(e:Nat)(f:Int)(g:Int)(h:Lv)(i:Lv)(j:Int)(k:Lv)(a:List Nat)(l:Int)(m:Int)(n:Lv)(b:List Nat)(o:Nat)(p:Int)(q:Int)(r:List Int)(s:Bool) :aW:=⟨ax 53 [(0,.sl 0 1 1 c d e),(1,.int .i64 f),(2,.int .i64 g),(3,.fn (.func aM) [] [.iptr h (.vs [.iptr i (.vs [.int .i64 j,.imm k (.fl a) 1 1 0 (List.length a),.nsl,.int .i64 l,.int .i64 m,.imm n (.fl b) 1 1 0 (List.length b),.flt false o,.nsl,.nsl]) 1 0 0]) 1 0 0]),(8,.int .i64 p),(9,.int .i64 q),(34,.bool false s)],[(0,.ns .i64 r)],1⟩
def fD(b:Nat)(e:Nat)(f:Int)(d:List Nat)(a:Int)(c:List Int) :T ((Bool)⊕(((List Int))⊕(((List Int))⊕(((List Int))⊕(aD))))) :=
  .ask (decide (a>f))
    (.need (gg a e)<|.need (fo (cw b (Int.toNat a)) (List.length c))<|.need (fI .i64 (a-(1:Int)))<|.need (gg (a-(1:Int)) e)<|.need (fo (cw b (Int.toNat (a-(1:Int)))) (List.length c))<|.need (gg (List.getD c (cw b (Int.toNat a)) 0) (List.length d))<|.need (fo (Int.toNat (List.getD c (cw b (Int.toNat a)) 0)) (List.length d))<|.need (gg (List.getD c (cw b (Int.toNat (a-(1:Int)))) 0) (List.length d))<|.need (fo (Int.toNat (List.getD c (cw b (Int.toNat (a-(1:Int)))) 0)) (List.length d))<|.need (v6 (rf (List.getD d (Int.toNat (List.getD c (cw b (Int.toNat a)) 0)) 0) (List.getD d (Int.toNat (List.getD c (cw b (Int.toNat (a-(1:Int)))) 0)) 0)))<|.leaf (.inl (decide ((xc (rf (List.getD d (Int.toNat (List.getD c (cw b (Int.toNat a)) 0)) 0) (List.getD d (Int.toNat (List.getD c (cw b (Int.toNat (a-(1:Int)))) 0)) 0)))<(0:Int)))))
    (.leaf (.inl false))
def fE(b:Nat)(d:Nat)(a:Int)(c:List Int)(e:Bool) :T ((Int×(List Int))⊕(((List Int))⊕(((List Int))⊕(((List Int))⊕(aD))))) :=
  .ask e
    (.need (fI .i64 (a-(1:Int)))<|.need (fI .i64 (a-(1:Int)))<|.need (gg (a-(1:Int)) d)<|.need (fo (cw b (Int.toNat (a-(1:Int)))) (List.length c))<|.need (gg a d)<|.need (fo (cw b (Int.toNat a)) (List.length c))<|.need (gg a d)<|.need (fo (cw b (Int.toNat a)) (List.length c))<|.need (gg (a-(1:Int)) d)<|.need (fo (cw b (Int.toNat (a-(1:Int)))) (List.length (List.set c (cw b (Int.toNat a)) (List.getD c (cw b (Int.toNat (a-(1:Int)))) 0))))<|.need (fI .i64 (a-(1:Int)))<|.leaf (.inl ((a-(1:Int)),(List.set (List.set c (cw b (Int.toNat a)) (List.getD c (cw b (Int.toNat (a-(1:Int)))) 0)) (cw b (Int.toNat (a-(1:Int)))) (List.getD c (cw b (Int.toNat a)) 0)))))
    (.leaf (.inr (.inl c)))
def bS(a:Nat)(b:Nat)(e:Int)(f:List Nat) :Int×(List Int)→Option ((Int×(List Int))⊕(((List Int))⊕(((List Int))⊕(((List Int))⊕(aD))))):=fun (c,d) =>
  bd ((fD a b e f c d).run) fun g =>
  (fE a b c d g).run
theorem jW(s:List Int)(a:Nat)(b:Nat)(e:Nat)(c:Int)(f:Int)(g:Lv)(h:Lv)(i:Int)(j:Lv)(d:List Nat)(k:Int)(l:Int)(m:Lv)(n:List Nat)(o:Nat)(p:Int)(q:Int)(r:List Int) :Sg prog [.ns .i64 s] jU (bR a b e c f g h i j d k l m n o p (q,r)) (bS a b c d (q,r)) (bR a b e c f g h i j d k l m n o p) (co 2 (fC a b e c f g h i j d k l m n o p) (co 1 (de a b e c f g h i j d k l m n o p) (co 0 dd bB))):=by
  unfold bS;exact Sg.cut 1 (az (az (az aK))) (cF iD (jV a b e c f g h i j d k l m n o p q r) [⟨[],[0],[0,1,2,3,8,9,34]⟩,⟨[],[0],[0,1,2,3,8,9,34]⟩]) (fun t=>cF iD (bR a b e c f g h i j d k l m n o p) [⟨[],[0],[0,1,2,3,8,9]⟩,⟨[],[0],[0,1,2,3,8]⟩])
def fF(a:List Int) :T (((List Int))⊕(((List Int))⊕(((List Int))⊕(aD)))) :=
  .leaf (.inl a)
def fG(a:Int)(b:List Int) :T ((Int×(List Int))⊕(((List Int))⊕(aD))) :=
  .need (fI .i64 (a+(1:Int)))<|.leaf (.inl ((a+(1:Int)),b))
def bT(c:Nat)(d:Nat)(e:Int)(f:Int)(g:List Nat) :Int×(List Int)→Option ((Int×(List Int))⊕(((List Int))⊕(aD))):=fun (a,b) =>
  bd ((fA f a b).run) fun _ =>
  bd (vO (bd ((fB).run) fun _ =>
  bd (cu (bS c d e g) (a,b)) fun h =>
  (fF h).run)) fun i =>
  (fG a i).run
theorem jX(r:List Int)(a:Nat)(b:Nat)(f:Nat)(c:Int)(d:Int)(g:Lv)(h:Lv)(i:Int)(j:Lv)(e:List Nat)(k:Int)(l:Int)(m:Lv)(n:List Nat)(o:Nat)(p:Int)(q:List Int) :Sg prog [.ns .i64 r] fw (bQ a b f c d g h i j e k l m n o (p,q)) (bT a b c d e (p,q)) (bQ a b f c d g h i j e k l m n o) (co 0 dd bB):=by
  unfold bT;exact Sg.cut 2 (az aK) (cF iD (jR a b f c d g h i j e k l m n o p q) [⟨[],[0],[0,1,2,3,8]⟩,⟨[],[0],[]⟩]) (fun _=>Sg.cut 1 (az aK) (UR (de a b f c d g h i j e k l m n o p) 1 (az aK) (cW (by decide) (dg _)) (Sg.cut 1 (az (az aK)) (cF iD (jT a b f c d g h i j e k l m n o p q) [⟨[],[0],[0,1,2,3,8,9]⟩]) (fun _=>Sg.cut 1 (az (az aK)) (yE ⟨[],[0],[0,1,2,3,8,9]⟩ (bR a b f c d g h i j e k l m n o p) (fC a b f c d g h i j e k l m n o p) 2 (az (az aK)) (cW (by decide) (cW (by decide) (dg _))) (fun ⟨s,t⟩=>jW r a b f c d g h i j e k l m n o p s t)) (fun u=>cF iD (de a b f c d g h i j e k l m n o p) [⟨[],[0],[0,1,2,3,8]⟩])))) (fun v=>cF iD (bQ a b f c d g h i j e k l m n o) [⟨[],[0],[0,1,2,3,8]⟩]))
def fH(a:List Int) :T (((List Int))⊕(aD)) :=
  .leaf (.inl a)
def fR:((List Int))⊕(aD)→ba
  | .inl a=>(.r0 a)
def aQ(b:List Int)(c:Nat)(d:Nat)(a:Int)(e:Int)(f:List Nat) :Option ba:=Option.map fR (bd ((fv a).run) fun g =>
  bd (cu (bT c d a e f) (g,b)) fun h =>
  (fH h).run)
theorem kb(g:List Int)(b:Nat)(c:Nat)(i:Nat)(d:Int)(e:Int)(j:Lv)(k:Lv)(l:Int)(m:Lv)(a:List Nat)(n:Int)(o:Int)(p:Lv)(f:List Nat)(q:Nat){x:ba}(h:aQ g b c d e a=some x) :aH prog iO [.ns .i64 g] [.sl 0 1 1 b c i,.int .i64 d,.int .i64 e,.fn (.func aM) [] [.iptr j (.vs [.iptr k (.vs [.int .i64 l,.imm m (.fl a) 1 1 0 (List.length a),.nsl,.int .i64 n,.int .i64 o,.imm p (.fl f) 1 1 0 (List.length f),.flt false q,.nsl,.nsl]) 1 0 0]) 1 0 0]] (dj x) :=
  MH false dj fu bB fR h (Sg.cut 1 aK (cF iD (ka g b c i d e j k l m a n o p f q) [⟨[],[0],[0,1,2,3,8]⟩]) (fun t=>Sg.cut 1 aK (yE ⟨[],[0],[0,1,2,3,8]⟩ (bQ b c i d e j k l m a n o p f q) (dd) 0 aK (dg _) (fun ⟨r,s⟩=>jX g b c i d e j k l m a n o p f q r s)) (fun u=>cF iD fu [⟨[],[0],[]⟩])))
    (fun x=>MG []) (fun x=>by cases x)
def bf:Option ba→Bool
  | some _=>true
  | none=>false
def bu:Option ba→List Int
  | some (.r0 x)=>x
  | _=>[]
theorem ke{x:Option ba}(h:bf x=true) :x=some (.r0 (bu x)):=by
  unfold bf at h
  split at h<;>first | rfl | (cases h;done) | (rename_i y;cases y;rfl)
def fS:bC:=yZ iO [.ns .i64] (.cons (.lsl 0) (.cons (.int .i64) (.cons (.int .i64) (.cons (.fn aM .nil (.cons (.ivs (.cons (.ivs (.cons (.int .i64) (.cons .fl (.cons .nsl (.cons (.int .i64) (.cons (.int .i64) (.cons .fl (.cons (.flt false) (.cons .nsl (.cons .nsl .nil))))))))) 1 0 0) .nil) 1 0 0) .nil)) .nil)))) fun x t=>(fun q=>[⟨dj (.r0 (bu q)),[bf q]⟩]) (aQ x.1 t.1.1 t.1.2.1 t.2.1 t.2.2.1 t.2.2.2.1.2.1.2.1.2.2.1.2)
theorem jG:bZ prog fS:=pE fun x t=>(jZ (fun h=>kb x.1 t.1.1 t.1.2.1 t.1.2.2 t.2.1 t.2.2.1 t.2.2.2.1.2.1.1 t.2.2.2.1.2.1.2.1.1 t.2.2.2.1.2.1.2.1.2.1 t.2.2.2.1.2.1.2.1.2.2.1.1 t.2.2.2.1.2.1.2.1.2.2.1.2 t.2.2.2.1.2.1.2.1.2.2.2.2.1 t.2.2.2.1.2.1.2.1.2.2.2.2.2.1 t.2.2.2.1.2.1.2.1.2.2.2.2.2.2.1.1 t.2.2.2.1.2.1.2.1.2.2.2.2.2.2.1.2 t.2.2.2.1.2.1.2.1.2.2.2.2.2.2.2.1 (ke h)) pF)
def fT:List bC:=fS::Hk
theorem aI:cQ prog (cX fT):=aY jG iD
inductive aC where
inductive bj where
  | r0 (a:List Int)
def bv:aC→AE×aW:=fun x=>nomatch x
theorem aJ:xN bv:=by intro x;cases x<;>(intro h;cases h)
theorem cG(id:Nat) :rh id bv:=by intro x;cases x<;>(intro h;cases h)
def eY:bj→rF
  | .r0 a=>⟨.tup [],[some (.ns .i64 a)]⟩
def gA(a:(List Int)) :aW:=⟨ax 63 [],[(0,.ns .i64 a)],1⟩
def gB:List Code:=cV (qT lN)
def mT(c:List Int)(d:Nat)(e:Nat)(f:Nat)(g:Int)(h:Lv)(i:Lv)(j:Int)(k:Lv)(a:List Nat)(l:Int)(m:Int)(n:Lv)(b:List Nat)(o:Nat)(_:Unit) :aW:=⟨ax 63 [(0,.sl 0 1 1 d e f),(1,.int .i64 g),(2,.fn (.func aM) [] [.iptr h (.vs [.iptr i (.vs [.int .i64 j,.imm k (.fl a) 1 1 0 (List.length a),.nsl,.int .i64 l,.int .i64 m,.imm n (.fl b) 1 1 0 (List.length b),.flt false o,.nsl,.nsl]) 1 0 0]) 1 0 0]),(6,.int .i64 (20:Int)),(7,.int .i64 (0:Int)),(8,.int .i64 (20:Int))],[(0,.ns .i64 c)],1⟩
def gC:T ((Unit)⊕(aC)) :=
  .leaf (.inl ())
def cH(c:Nat)(d:Nat)(e:Nat)(f:Int)(g:Lv)(h:Lv)(i:Int)(j:Lv)(a:List Nat)(k:Int)(l:Int)(m:Lv)(b:List Nat)(n:Nat) :Nat×Nat×(List Int)→aW:=fun (o,p,q)=>⟨ax 63 [(0,.sl 0 1 1 c d e),(1,.int .i64 f),(2,.fn (.func aM) [] [.iptr g (.vs [.iptr h (.vs [.int .i64 i,.imm j (.fl a) 1 1 0 (List.length a),.nsl,.int .i64 k,.int .i64 l,.imm m (.fl b) 1 1 0 (List.length b),.flt false n,.nsl,.nsl]) 1 0 0]) 1 0 0]),(6,.int .i64 (20:Int)),(7,.int .i64 ((o:Nat):Int)),(8,.int .i64 ((p:Nat):Int))],[(0,.ns .i64 q)],1⟩
def gU(c:Nat)(d:Nat)(e:Nat)(f:Int)(g:Lv)(h:Lv)(i:Int)(j:Lv)(a:List Nat)(k:Int)(l:Int)(m:Lv)(b:List Nat)(n:Nat) :Nat×(List Int)→aW:=fun (o,p)=>⟨ax 63 [(0,.sl 0 1 1 c d e),(1,.int .i64 f),(2,.fn (.func aM) [] [.iptr g (.vs [.iptr h (.vs [.int .i64 i,.imm j (.fl a) 1 1 0 (List.length a),.nsl,.int .i64 k,.int .i64 l,.imm m (.fl b) 1 1 0 (List.length b),.flt false n,.nsl,.nsl]) 1 0 0]) 1 0 0]),(6,.int .i64 (20:Int)),(7,.int .i64 ((o:Nat):Int))],[(0,.ns .i64 p)],1⟩
def lY:List Code:=cV (dm ((((gB.drop 2).take 1)).headD .skip))
def eG(e:Nat)(f:Nat)(h:Int)(a:List Nat)(g:List Nat)(c:Nat)(b:Nat)(d:List Int) :T ((Nat×Nat×(List Int))⊕((Nat×(List Int))⊕(aC))) :=
  .ask (decide (((b:Nat):Int)≤h))
    (.need (di 0 (List.length a) a)<|.need (di 0 (List.length g) g)<|.need (bf (aQ d e f ((c:Nat):Int) ((b:Nat):Int) (ay 0 (List.length a) a)))<|.need (fI .i64 (((b+20):Nat):Int))<|.leaf (.inl (b,(b+20),(bu (aQ d e f ((c:Nat):Int) ((b:Nat):Int) (ay 0 (List.length a) a))))))
    (.leaf (.inr (.inl (c,d))))
def cz(a:Nat)(b:Nat)(c:Int)(d:List Nat)(e:List Nat) :Nat×Nat×(List Int)→Option ((Nat×Nat×(List Int))⊕((Nat×(List Int))⊕(aC))):=fun (f,g,h) =>
  (eG a b c d e f g h).run
theorem lZ(r:List Int)(a:Nat)(b:Nat)(f:Nat)(c:Int)(g:Lv)(h:Lv)(i:Int)(j:Lv)(d:List Nat)(k:Int)(l:Int)(m:Lv)(e:List Nat)(n:Nat)(o:Nat)(p:Nat)(q:List Int) :Sg prog [.ns .i64 r] lY (cH a b f c g h i j d k l m e n (o,p,q)) (cz a b c d e (o,p,q)) (cH a b f c g h i j d k l m e n) (co 0 (gU a b f c g h i j d k l m e n) bv):=by
  unfold cz;exact cF aI (cH a b f c g h i j d k l m e n) [⟨[],[0],[0,1,2,6,7,8]⟩,⟨[],[0],[0,1,2,6,7]⟩]
def mU(c:Nat)(d:Nat)(e:Nat)(f:Int)(g:Lv)(h:Lv)(i:Int)(j:Lv)(a:List Nat)(k:Int)(l:Int)(m:Lv)(b:List Nat)(n:Nat)(o:(List Int)) :aW:=⟨ax 63 [(0,.sl 0 1 1 c d e),(1,.int .i64 f),(2,.fn (.func aM) [] [.iptr g (.vs [.iptr h (.vs [.int .i64 i,.imm j (.fl a) 1 1 0 (List.length a),.nsl,.int .i64 k,.int .i64 l,.imm m (.fl b) 1 1 0 (List.length b),.flt false n,.nsl,.nsl]) 1 0 0]) 1 0 0]),(6,.int .i64 (20:Int))],[(0,.ns .i64 o)],1⟩
def eH(b:Nat)(c:Nat)(d:Int)(a:List Nat)(e:List Nat)(f:Nat)(g:List Int) :T (((List Int))⊕(aC)) :=
  .need (di 0 (List.length a) a)<|.need (di 0 (List.length e) e)<|.need (bf (aQ g b c ((f:Nat):Int) d (ay 0 (List.length a) a)))<|.leaf (.inl (bu (aQ g b c ((f:Nat):Int) d (ay 0 (List.length a) a))))
def cA(c:Nat)(d:Nat)(e:Nat)(f:Int)(g:Lv)(h:Lv)(i:Int)(j:Lv)(a:List Nat)(k:Int)(l:Int)(m:Lv)(b:List Nat)(n:Nat)(o:List Int)(p:Nat) :aW:=⟨ax 63 [(0,.sl 0 1 1 c d e),(1,.int .i64 f),(2,.fn (.func aM) [] [.iptr g (.vs [.iptr h (.vs [.int .i64 i,.imm j (.fl a) 1 1 0 (List.length a),.nsl,.int .i64 k,.int .i64 l,.imm m (.fl b) 1 1 0 (List.length b),.flt false n,.nsl,.nsl]) 1 0 0]) 1 0 0]),(6,.int .i64 ((p:Nat):Int))],[(0,.ns .i64 o)],1⟩
def eI(a:List Int)(_:Unit) :aW:=⟨ax 63 [],[(0,.ns .i64 a)],1⟩
def gD:List Code:=cV (dm ((((((gB.drop 2).drop 1).drop 1).take 1)).headD .skip))
def l7(c:Nat)(d:Nat)(e:Nat)(f:Int)(g:Lv)(h:Lv)(i:Int)(j:Lv)(a:List Nat)(k:Int)(l:Int)(m:Lv)(b:List Nat)(n:Nat)(o:List Int)(p:Nat)(_:Unit) :aW:=⟨ax 63 [(0,.sl 0 1 1 c d e),(1,.int .i64 f),(2,.fn (.func aM) [] [.iptr g (.vs [.iptr h (.vs [.int .i64 i,.imm j (.fl a) 1 1 0 (List.length a),.nsl,.int .i64 k,.int .i64 l,.imm m (.fl b) 1 1 0 (List.length b),.flt false n,.nsl,.nsl]) 1 0 0]) 1 0 0]),(6,.int .i64 ((p:Nat):Int))],[(0,.ns .i64 o)],1⟩
def gE(a:Int)(b:Nat) :T ((Unit)⊕((Unit)⊕(aC))) :=
  .ask (decide (((b:Nat):Int)<a))
    (.leaf (.inl ()))
    (.leaf (.inr (.inl ())))
def eJ(c:Nat)(d:Nat)(e:Nat)(f:Int)(g:Lv)(h:Lv)(i:Int)(j:Lv)(a:List Nat)(k:Int)(l:Int)(m:Lv)(b:List Nat)(n:Nat)(o:List Int)(p:Nat) :aW:=⟨ax 63 [(0,.sl 0 1 1 c d e),(1,.int .i64 f),(2,.fn (.func aM) [] [.iptr g (.vs [.iptr h (.vs [.int .i64 i,.imm j (.fl a) 1 1 0 (List.length a),.nsl,.int .i64 k,.int .i64 l,.imm m (.fl b) 1 1 0 (List.length b),.flt false n,.nsl,.nsl]) 1 0 0]) 1 0 0]),(6,.int .i64 ((p:Nat):Int))],[(0,.ns .i64 o)],1⟩
def ma:List Code:=cV (inBlock ((((gD.drop 2).take 1)).headD .skip))
def mb(c:Nat)(d:Nat)(e:Nat)(f:Int)(g:Lv)(h:Lv)(i:Int)(j:Lv)(a:List Nat)(k:Int)(l:Int)(m:Lv)(b:List Nat)(n:Nat)(o:List Int)(p:Nat)(q:Nat) :aW:=⟨ax 63 [(0,.sl 0 1 1 c d e),(1,.int .i64 f),(2,.fn (.func aM) [] [.iptr g (.vs [.iptr h (.vs [.int .i64 i,.imm j (.fl a) 1 1 0 (List.length a),.nsl,.int .i64 k,.int .i64 l,.imm m (.fl b) 1 1 0 (List.length b),.flt false n,.nsl,.nsl]) 1 0 0]) 1 0 0]),(6,.int .i64 ((p:Nat):Int)),(7,.int .i64 (0:Int)),(8,.int .i64 ((q:Nat):Int))],[(0,.ns .i64 o)],1⟩
def mc(a:Nat) :T ((Nat)⊕((Nat)⊕((Unit)⊕(aC)))) :=
  .need (fI .i64 (((2*a):Nat):Int))<|.leaf (.inl (2*a))
def cB(c:Nat)(d:Nat)(e:Nat)(f:Int)(g:Lv)(h:Lv)(i:Int)(j:Lv)(a:List Nat)(k:Int)(l:Int)(m:Lv)(b:List Nat)(n:Nat)(o:List Int)(p:Nat)(q:Nat)(_:Unit) :aW:=⟨ax 63 [(0,.sl 0 1 1 c d e),(1,.int .i64 f),(2,.fn (.func aM) [] [.iptr g (.vs [.iptr h (.vs [.int .i64 i,.imm j (.fl a) 1 1 0 (List.length a),.nsl,.int .i64 k,.int .i64 l,.imm m (.fl b) 1 1 0 (List.length b),.flt false n,.nsl,.nsl]) 1 0 0]) 1 0 0]),(6,.int .i64 ((p:Nat):Int)),(7,.int .i64 (0:Int)),(8,.int .i64 ((q:Nat):Int))],[(0,.ns .i64 o)],1⟩
def gF(c:Nat)(d:Nat)(e:Nat)(f:Int)(g:Lv)(h:Lv)(i:Int)(j:Lv)(a:List Nat)(k:Int)(l:Int)(m:Lv)(b:List Nat)(n:Nat)(o:List Int)(p:Nat)(_:Unit) :aW:=⟨ax 63 [(0,.sl 0 1 1 c d e),(1,.int .i64 f),(2,.fn (.func aM) [] [.iptr g (.vs [.iptr h (.vs [.int .i64 i,.imm j (.fl a) 1 1 0 (List.length a),.nsl,.int .i64 k,.int .i64 l,.imm m (.fl b) 1 1 0 (List.length b),.flt false n,.nsl,.nsl]) 1 0 0]) 1 0 0]),(6,.int .i64 ((p:Nat):Int)),(7,.int .i64 (0:Int))],[(0,.ns .i64 o)],1⟩
def md:List Code:=cV (dm ((((ma.drop 1).take 1)).headD .skip))
def me(a:Int)(b:Nat)(c:Nat) :T ((Unit)⊕((Unit)⊕((Nat)⊕((Unit)⊕(aC))))) :=
  .ask (decide (((c:Nat):Int)≤a))
    (.need (fI .i64 (((0+b):Nat):Int))<|.fail)
    (.leaf (.inr (.inl ())))
def eK(a:Int)(b:Nat)(c:Nat) :Unit→Option ((Unit)⊕((Unit)⊕((Nat)⊕((Unit)⊕(aC))))):=fun _ =>
  (me a b c).run
theorem mf(r:List Int)(c:Nat)(d:Nat)(e:Nat)(a:Int)(f:Lv)(g:Lv)(h:Int)(i:Lv)(j:List Nat)(k:Int)(l:Int)(m:Lv)(n:List Nat)(o:Nat)(b:List Int)(p:Nat)(q:Nat) :Sg prog [.ns .i64 r] md (cB c d e a f g h i j k l m n o b p q ()) (eK a p q ()) (cB c d e a f g h i j k l m n o b p q) (co 4 (gF c d e a f g h i j k l m n o b p) (co 3 (eJ c d e a f g h i j k l m n o b) (co 2 (eI b) bv))):=by
  unfold eK;exact cF aI (cB c d e a f g h i j k l m n o b p q) [⟨[],[0],[0,1,2,6,7]⟩]
def mg(b:Int)(a:Nat) :T ((Nat)⊕((Nat)⊕((Unit)⊕(aC)))) :=
  .need (fI .i64 (((0+a):Nat):Int))<|.ask (decide ((((0+a):Nat):Int)<b))
    (.fail)
    (.need (fI .i64 (((a*2):Nat):Int))<|.leaf (.inl (a*2)))
def mh(a:Nat) :T ((Nat)⊕((Unit)⊕(aC))) :=
  .leaf (.inl a)
def bt(b:Int) :Nat→Option ((Nat)⊕((Unit)⊕(aC))):=fun a =>
  bd ((gE b a).run) fun _ =>
  bd (vO (bd ((mc a).run) fun c =>
  bd (cu (eK b a c) ()) fun _ =>
  (mg b a).run)) fun d =>
  (mh d).run
theorem mi(q:List Int)(c:Nat)(d:Nat)(e:Nat)(a:Int)(f:Lv)(g:Lv)(h:Int)(i:Lv)(j:List Nat)(k:Int)(l:Int)(m:Lv)(n:List Nat)(o:Nat)(b:List Int)(p:Nat) :Sg prog [.ns .i64 q] gD (cA c d e a f g h i j k l m n o b p) (bt a p) (cA c d e a f g h i j k l m n o b) (co 2 (eI b) bv):=by
  unfold bt;exact Sg.cut 2 (az aJ) (cF aI (l7 c d e a f g h i j k l m n o b p) [⟨[],[0],[0,1,2,6]⟩,⟨[],[0],[]⟩]) (fun _=>Sg.cut 1 (az aJ) (UR (eJ c d e a f g h i j k l m n o b) 3 (az aJ) (cW (by decide) (cG _)) (Sg.cut 1 (az (az aJ)) (cF aI (mb c d e a f g h i j k l m n o b p) [⟨[],[0],[0,1,2,6,7,8]⟩]) (fun r=>Sg.cut 1 (az (az aJ)) (yE ⟨[],[0],[0,1,2,6,7,8]⟩ (cB c d e a f g h i j k l m n o b p r) (gF c d e a f g h i j k l m n o b p) 4 (az (az aJ)) (cW (by decide) (cW (by decide) (cG _))) (fun _=>mf q c d e a f g h i j k l m n o b p r)) (fun _=>cF aI (eJ c d e a f g h i j k l m n o b) [⟨[],[0],[0,1,2,6]⟩])))) (fun s=>cF aI (cA c d e a f g h i j k l m n o b) [⟨[],[0],[0,1,2,6]⟩]))
def gG(a:List Int) :T (((List Int))⊕(aC)) :=
  .leaf (.inl a)
def ij:((List Int))⊕(aC)→bj
  | .inl a=>(.r0 a)
def bx(f:List Int)(b:Nat)(c:Nat)(a:Int)(d:List Nat)(e:List Nat) :Option bj:=Option.map ij (bd ((gC).run) fun _ =>
  bd (cu (cz b c a d e) (0,20,f)) fun (g,h) =>
  bd ((eH b c a d e g h).run) fun i =>
  bd (cu (bt a) 20) fun _ =>
  (gG i).run)
theorem mV(p:List Int)(c:Nat)(d:Nat)(f:Nat)(e:Int)(g:Lv)(i:Lv)(j:Int)(k:Lv)(a:List Nat)(l:Int)(m:Int)(n:Lv)(b:List Nat)(o:Nat){x:bj}(h:bx p c d e a b=some x) :aH prog lN [.ns .i64 p] [.sl 0 1 1 c d f,.int .i64 e,.fn (.func aM) [] [.iptr g (.vs [.iptr i (.vs [.int .i64 j,.imm k (.fl a) 1 1 0 (List.length a),.nsl,.int .i64 l,.int .i64 m,.imm n (.fl b) 1 1 0 (List.length b),.flt false o,.nsl,.nsl]) 1 0 0]) 1 0 0]] (eY x) :=
  MH false eY gA bv ij h (Sg.cut 2 aJ (cF aI (mT p c d f e g i j k a l m n b o) [⟨[],[0],[0,1,2,6,7,8]⟩]) (fun _=>Sg.cut 1 aJ (yE ⟨[],[0],[0,1,2,6,7,8]⟩ (cH c d f e g i j k a l m n b o) (gU c d f e g i j k a l m n b o) 0 aJ (cG _) (fun ⟨r,s,t⟩=>lZ p c d f e g i j k a l m n b o r s t)) (fun ⟨v,w⟩=>Sg.cut 1 aJ (cF aI (mU c d f e g i j k a l m n b o) [⟨[],[0],[0,1,2,6]⟩]) (fun q=>Sg.cut 1 aJ (yE ⟨[],[0],[0,1,2,6]⟩ (cA c d f e g i j k a l m n b o q) (eI q) 2 aJ (cG _) (fun u=>mi p c d f e g i j k a l m n b o q u)) (fun _=>cF aI gA [⟨[],[0],[]⟩])))))
    (fun x=>MG []) (fun x=>by cases x)
def cI:Option bj→Bool
  | some _=>true
  | none=>false
def dX:Option bj→List Int
  | some (.r0 x)=>x
  | _=>[]
theorem mW{x:Option bj}(h:cI x=true) :x=some (.r0 (dX x)):=by
  unfold cI at h
  split at h<;>first | rfl | (cases h;done) | (rename_i y;cases y;rfl)
def ik:bC:=yZ lN [.ns .i64] (.cons (.lsl 0) (.cons (.int .i64) (.cons (.fn aM .nil (.cons (.ivs (.cons (.ivs (.cons (.int .i64) (.cons .fl (.cons .nsl (.cons (.int .i64) (.cons (.int .i64) (.cons .fl (.cons (.flt false) (.cons .nsl (.cons .nsl .nil))))))))) 1 0 0) .nil) 1 0 0) .nil)) .nil))) fun x t=>(fun q=>[⟨eY (.r0 (dX q)),[cI q]⟩]) (bx x.1 t.1.1 t.1.2.1 t.2.1 t.2.2.1.2.1.2.1.2.2.1.2 t.2.2.1.2.1.2.1.2.2.2.2.2.2.1.2)
theorem lF:bZ prog ik:=pE fun x t=>(jZ (fun h=>mV x.1 t.1.1 t.1.2.1 t.1.2.2 t.2.1 t.2.2.1.2.1.1 t.2.2.1.2.1.2.1.1 t.2.2.1.2.1.2.1.2.1 t.2.2.1.2.1.2.1.2.2.1.1 t.2.2.1.2.1.2.1.2.2.1.2 t.2.2.1.2.1.2.1.2.2.2.2.1 t.2.2.1.2.1.2.1.2.2.2.2.2.1 t.2.2.1.2.1.2.1.2.2.2.2.2.2.1.1 t.2.2.1.2.1.2.1.2.2.2.2.2.2.1.2 t.2.2.1.2.1.2.1.2.2.2.2.2.2.2.1 (mW h)) pF)
def im:List bC:=ik::fT
theorem gv:cQ prog (cX im):=aY lF aI
inductive eQ where
inductive bg where
  | r0 (a:List Int)
def mX:eQ→AE×aW:=fun x=>nomatch x
def eR:bg→rF
  | .r0 a=>⟨.tup [],[some (.ns .i64 a)]⟩
def gH(a:(List Int)) :aW:=⟨ax 9 [],[(0,.ns .i64 a)],1⟩
def gI(d:List Int)(e:Nat)(c:Nat)(a:List Nat)(b:List Nat) :T (((List Int))⊕(eQ)) :=
  .need (di 0 (List.length a) a)<|.need (di 0 (List.length b) b)<|.need (cI (bx d e c ((c:Nat):Int) (ay 0 (List.length a) a) (ay 0 (List.length b) b)))<|.leaf (.inl (dX (bx d e c ((c:Nat):Int) (ay 0 (List.length a) a) (ay 0 (List.length b) b))))
def gV:((List Int))⊕(eQ)→bg
  | .inl a=>(.r0 a)
def bM(a:List Int)(b:Nat)(c:Nat)(d:List Nat)(e:List Nat) :Option bg:=Option.map gV ((gI a b c d e).run)
theorem mj(c:List Int)(d:Nat)(e:Nat)(f:Nat)(g:Lv)(i:Lv)(j:Int)(k:Lv)(a:List Nat)(l:Int)(m:Int)(n:Lv)(b:List Nat)(o:Nat){x:bg}(h:bM c d e a b=some x) :aH prog qn [.ns .i64 c] [.sl 0 1 1 d e f,.fn (.func aM) [] [.iptr g (.vs [.iptr i (.vs [.int .i64 j,.imm k (.fl a) 1 1 0 (List.length a),.nsl,.int .i64 l,.int .i64 m,.imm n (.fl b) 1 1 0 (List.length b),.flt false o,.nsl,.nsl]) 1 0 0]) 1 0 0]] (eR x) :=
  MH false eR gH mX gV h (cF gv gH [⟨[],[0],[]⟩])
    (fun x=>MG []) (fun x=>by cases x)
def cC:Option bg→Bool
  | some _=>true
  | none=>false
def dr:Option bg→List Int
  | some (.r0 x)=>x
  | _=>[]
theorem ml{x:Option bg}(h:cC x=true) :x=some (.r0 (dr x)):=by
  unfold cC at h
  split at h<;>first | rfl | (cases h;done) | (rename_i y;cases y;rfl)
def gW:bC:=yZ qn [.ns .i64] (.cons (.lsl 0) (.cons (.fn aM .nil (.cons (.ivs (.cons (.ivs (.cons (.int .i64) (.cons .fl (.cons .nsl (.cons (.int .i64) (.cons (.int .i64) (.cons .fl (.cons (.flt false) (.cons .nsl (.cons .nsl .nil))))))))) 1 0 0) .nil) 1 0 0) .nil)) .nil)) fun x t=>(fun q=>[⟨eR (.r0 (dr q)),[cC q]⟩]) (bM x.1 t.1.1 t.1.2.1 t.2.1.2.1.2.1.2.2.1.2 t.2.1.2.1.2.1.2.2.2.2.2.2.1.2)
theorem ly:bZ prog gW:=pE fun x t=>(jZ (fun h=>mj x.1 t.1.1 t.1.2.1 t.1.2.2 t.2.1.2.1.1 t.2.1.2.1.2.1.1 t.2.1.2.1.2.1.2.1 t.2.1.2.1.2.1.2.2.1.1 t.2.1.2.1.2.1.2.2.1.2 t.2.1.2.1.2.1.2.2.2.2.1 t.2.1.2.1.2.1.2.2.2.2.2.1 t.2.1.2.1.2.1.2.2.2.2.2.2.1.1 t.2.1.2.1.2.1.2.2.2.2.2.2.1.2 t.2.1.2.1.2.1.2.2.2.2.2.2.2.1 (ml h)) pF)
def gX:List bC:=gW::im
theorem bD:cQ prog (cX gX):=aY ly gv
inductive iZ where
  | r0 (a:Nat)
def zz:iZ→AE×aW
  | .r0 a=>(.ret,⟨ax 48 [(2,.flt false a)],[],0⟩)
theorem yd:xN zz:=by intro x;cases x<;>(intro h;cases h)
theorem N9(id:Nat) :rh id zz:=by intro x;cases x<;>(intro h;cases h)
def DK:iZ→rF
  | .r0 a=>⟨.flt false a,[]⟩
def Oa:List Code:=cV (qT DA)
def Ob(b:Lv)(a:List Nat)(_:Unit) :aW:=⟨ax 48 [(3,.flt false 0),(4,.flt false 4607182418800017408),(11,.imm b (.fl a) 1 1 0 (List.length a)),(12,.int .i64 (((List.length a):Nat):Int)),(13,.int .i64 (0:Int))],[],0⟩
def Hl:T ((Unit)⊕(iZ)) :=
  .leaf (.inl ())
def ye(b:Lv)(a:List Nat) :Nat×Nat×Nat→aW:=fun (c,d,e)=>⟨ax 48 [(3,.flt false c),(4,.flt false d),(11,.imm b (.fl a) 1 1 0 (List.length a)),(12,.int .i64 (((List.length a):Nat):Int)),(13,.int .i64 ((e:Nat):Int))],[],0⟩
def Hm:Nat×Nat→aW:=fun (a,b)=>⟨ax 48 [(3,.flt false a),(4,.flt false b)],[],0⟩
def M0:List Code:=cV (dm ((((Oa.drop 3).take 1)).headD .skip))
def Oc(b:Lv)(a:List Nat)(c:Nat) :Nat×Nat→aW:=fun (d,e)=>⟨ax 48 [(3,.flt false d),(4,.flt false e),(11,.imm b (.fl a) 1 1 0 (List.length a)),(12,.int .i64 (((List.length a):Nat):Int)),(13,.int .i64 ((c:Nat):Int))],[],0⟩
def Fr(a:List Nat)(c:Nat)(d:Nat)(b:Nat) :T ((Nat×Nat)⊕((Nat×Nat)⊕(iZ))) :=
  .ask (decide (((b:Nat):Int)<(((List.length a):Nat):Int)))
    (.need (gg ((b:Nat):Int) (List.length a))<|.need (fo b (List.length a))<|.ask (TX (List.getD a b 0) 0)
      (.leaf (.inl (c,d)))
      (.ask (flt c (eE (List.getD a b 0)))
        (.leaf (.inl ((eE (List.getD a b 0)),(vC 4607182418800017408 (cY (cY d (fdiv c (eE (List.getD a b 0)))) (fdiv c (eE (List.getD a b 0))))))))
        (.leaf (.inl (c,(vC d (cY (fdiv (eE (List.getD a b 0)) c) (fdiv (eE (List.getD a b 0)) c))))))))
    (.leaf (.inr (.inl (c,d))))
def Fs(a:Nat)(b:Nat)(c:Nat) :T ((Nat×Nat×Nat)⊕((Nat×Nat)⊕(iZ))) :=
  .need (fI .i64 (((a+1):Nat):Int))<|.leaf (.inl (b,c,(a+1)))
def v7(b:List Nat) :Nat×Nat×Nat→Option ((Nat×Nat×Nat)⊕((Nat×Nat)⊕(iZ))):=fun (c,d,a) =>
  bd ((Fr b c d a).run) fun (e,f) =>
  (Fs a e f).run
theorem M1(b:Lv)(a:List Nat)(d:Nat)(e:Nat)(c:Nat) :Sg prog [] M0 (ye b a (d,e,c)) (v7 a (d,e,c)) (ye b a) (co 0 Hm zz):=by
  unfold v7;exact Sg.cut 3 (az yd) (cF bD (Oc b a c) [⟨[],[],[3,4,11,12,13]⟩,⟨[],[],[3,4,11,12,13]⟩,⟨[],[],[3,4,11,12,13]⟩,⟨[],[],[3,4]⟩]) (fun ⟨f,g⟩=>cF bD (ye b a) [⟨[],[],[3,4,11,12,13]⟩])
def Ft(a:Nat)(b:Nat) :T ((Empty)⊕(iZ)) :=
  .leaf (.inr (.r0 (cY a (DQ b))))
def pI(a:List Nat) :Option iZ:=toX (bd ((Hl).run) fun _ =>
  bd (cu (v7 a) (0,4607182418800017408,0)) fun (b,c) =>
  (Ft b c).run)
theorem Od(b:Lv)(a:List Nat){x:iZ}(h:pI a=some x) :aH prog DA [] [.imm b (.fl a) 1 1 0 (List.length a)] (DK x) :=
  GS false DK zz h (Sg.cut 3 yd (cF bD (Ob b a) [⟨[],[],[3,4,11,12,13]⟩]) (fun _=>Sg.cut 1 yd (yE ⟨[],[],[3,4,11,12,13]⟩ (ye b a) (Hm) 0 yd (N9 _) (fun ⟨c,d,e⟩=>M1 b a c d e)) (fun ⟨g,i⟩=>cF bD Gd [⟨[],[],[2]⟩])))
    (fun x=>by cases x with | r0 f=>exact EI [.flt false f])
def uj:Option iZ→Bool
  | some _=>true
  | none=>false
def uX:Option iZ→Nat
  | some (.r0 x)=>x
  | _=>0
theorem Oe{x:Option iZ}(h:uj x=true) :x=some (.r0 (uX x)):=by
  unfold uj at h
  split at h<;>first | rfl | (cases h;done) | (rename_i y;cases y;rfl)
def IW:bC:=lC DA (.cons .fl .nil) fun t=>(fun q=>[⟨DK (.r0 (uX q)),[uj q]⟩]) (pI t.1.2)
theorem K1:bZ prog IW:=eV fun t=>(eW (fun h=>Od t.1.1 t.1.2 (Oe h)) fY)
def IX:List bC:=IW::gX
theorem cZ:cQ prog (cX IX):=aY K1 bD
inductive aR where
inductive bp where
  | r0 (a:Int) (b:Nat) (c:Nat) (d:Nat) (e:List Nat) (f:List Nat) (g:List Nat) (h:List Nat) (i:List Nat)
def eM:aR→AE×aW:=fun x=>nomatch x
theorem aU:xN eM:=by intro x;cases x<;>(intro h;cases h)
theorem fX(id:Nat) :rh id eM:=by intro x;cases x<;>(intro h;cases h)
def pP:bp→rF
  | .r0 b a c d e f g h i=>⟨.tup [],[some (.vs [.int .i64 b,.sl 3 1 1 0 a a,.sl 4 1 1 0 a a,.int .i64 b,.int .i64 b,.sl 5 1 1 0 c c,.flt false d,.nsl,.nsl]),some (.fl e),some (.fl f),some (.fl g),some (.fl h),some (.fl i)]⟩
def rU:Int×Nat×Nat×Nat×(List Nat)×(List Nat)×(List Nat)×(List Nat)×(List Nat)→aW:=fun (b,a,c,d,e,f,g,h,i)=>⟨ax 186 [],[(0,.vs [.int .i64 b,.sl 3 1 1 0 a a,.sl 4 1 1 0 a a,.int .i64 b,.int .i64 b,.sl 5 1 1 0 c c,.flt false d,.nsl,.nsl]),(1,.fl e),(2,.fl f),(3,.fl g),(4,.fl h),(5,.fl i)],6⟩
def jq:List Code:=cV (qT kp)
def AC(a:Int)(c:Nat)(d:Nat)(e:Int)(f:Int)(g:Nat)(h:Nat)(i:Nat)(j:List Nat)(k:List Nat)(l:Int)(m:Nat) :Nat×Nat×(List Nat)→aW:=fun (b,n,o)=>⟨ax 186 [(1,.int .i64 l),(2,.flt false m),(3,.ptr 3 1 0 0),(6,.int .i64 a),(7,.sl 4 1 1 0 b b),(8,.flt false n),(27,.int .i64 a),(28,.int .i64 (0:Int))],[(0,.vs [.int .i64 a,.sl 1 1 1 0 c d,.nsl,.int .i64 e,.int .i64 f,.sl 2 1 1 0 g h,.flt false i,.nsl,.nsl]),(1,.fl j),(2,.fl k),(3,.vs [.ptr 0 1 0 0]),(4,.fl o)],5⟩
def rV(a:Int)(b:Nat) :T ((Nat×Nat×(List Nat))⊕(aR)) :=
  .need (decide ((0:Int)≤a))<|.need (decide (a≤a))<|.need (decide ((8:Int)*a≤140737488355328))<|.need (fI .i64 a)<|.need (!isNaN b||isNaN 4607182418800017408)<|.leaf (.inl ((Int.toNat a),(wI 4607182418800017408 b),(List.replicate (Int.toNat a) 0)))
def jJ(a:Int)(c:Nat)(d:Nat)(e:Int)(f:Int)(g:Nat)(h:Nat)(i:Nat)(j:List Nat)(k:List Nat)(l:Int)(m:Nat)(b:Nat)(n:Nat) :Nat×(List Nat)→aW:=fun (o,p)=>⟨ax 186 [(1,.int .i64 l),(2,.flt false m),(3,.ptr 3 1 0 0),(6,.int .i64 a),(7,.sl 4 1 1 0 b b),(8,.flt false n),(27,.int .i64 a),(28,.int .i64 ((o:Nat):Int))],[(0,.vs [.int .i64 a,.sl 1 1 1 0 c d,.nsl,.int .i64 e,.int .i64 f,.sl 2 1 1 0 g h,.flt false i,.nsl,.nsl]),(1,.fl j),(2,.fl k),(3,.vs [.ptr 0 1 0 0]),(4,.fl p)],5⟩
def ta(a:Int)(c:Nat)(d:Nat)(e:Int)(f:Int)(g:Nat)(h:Nat)(i:Nat)(j:List Nat)(k:List Nat)(l:Nat)(b:Nat)(m:(List Nat)) :aW:=⟨ax 186 [(2,.flt false l),(3,.ptr 3 1 0 0),(6,.int .i64 a),(7,.sl 4 1 1 0 b b)],[(0,.vs [.int .i64 a,.sl 1 1 1 0 c d,.nsl,.int .i64 e,.int .i64 f,.sl 2 1 1 0 g h,.flt false i,.nsl,.nsl]),(1,.fl j),(2,.fl k),(3,.vs [.ptr 0 1 0 0]),(4,.fl m)],5⟩
def z7:List Code:=cV (dm ((((jq.drop 5).take 1)).headD .skip))
def AD(a:Int)(c:Nat)(d:Nat)(e:Int)(f:Int)(g:Nat)(h:Nat)(i:Nat)(j:List Nat)(k:List Nat)(l:Int)(m:Nat)(b:Nat)(n:Nat)(o:Nat)(p:(List Nat)) :aW:=⟨ax 186 [(1,.int .i64 l),(2,.flt false m),(3,.ptr 3 1 0 0),(6,.int .i64 a),(7,.sl 4 1 1 0 b b),(8,.flt false n),(27,.int .i64 a),(28,.int .i64 ((o:Nat):Int))],[(0,.vs [.int .i64 a,.sl 1 1 1 0 c d,.nsl,.int .i64 e,.int .i64 f,.sl 2 1 1 0 g h,.flt false i,.nsl,.nsl]),(1,.fl j),(2,.fl k),(3,.vs [.ptr 0 1 0 0]),(4,.fl p)],5⟩
def rW(c:Int)(f:Nat)(e:List Nat)(b:Int)(g:Nat)(h:Nat)(a:Nat)(d:List Nat) :T (((List Nat))⊕(((List Nat))⊕(aR))) :=
  .ask (decide (((a:Nat):Int)<c))
    (.ask (decide (((a:Nat):Int)<b))
      (.need (fI .i64 (b-(1:Int)))<|.need (fI .i64 ((b-(1:Int))*c))<|.need (fI .i64 (((b-(1:Int))*c)+((a:Nat):Int)))<|.need (gg (((b-(1:Int))*c)+((a:Nat):Int)) f)<|.need (fo (Int.toNat (((b-(1:Int))*c)+((a:Nat):Int))) (List.length e))<|.need (gg ((a:Nat):Int) g)<|.need (fo a (List.length d))<|.leaf (.inl (List.set d a (List.getD e (Int.toNat (((b-(1:Int))*c)+((a:Nat):Int))) 0))))
      (.need (fI .i64 (b*c))<|.need (fI .i64 ((b*c)+((a:Nat):Int)))<|.need (gg ((b*c)+((a:Nat):Int)) f)<|.need (fo (Int.toNat ((b*c)+((a:Nat):Int))) (List.length e))<|.need (gg ((a:Nat):Int) g)<|.need (fo a (List.length d))<|.leaf (.inl (List.set d a (cY (List.getD e (Int.toNat ((b*c)+((a:Nat):Int))) 0) h)))))
    (.leaf (.inr (.inl d)))
def rX(a:Nat)(b:List Nat) :T ((Nat×(List Nat))⊕(((List Nat))⊕(aR))) :=
  .need (fI .i64 (((a+1):Nat):Int))<|.leaf (.inl ((a+1),b))
def jr(b:Int)(c:Nat)(d:List Nat)(e:Int)(f:Nat)(g:Nat) :Nat×(List Nat)→Option ((Nat×(List Nat))⊕(((List Nat))⊕(aR))):=fun (a,h) =>
  bd ((rW b c d e f g a h).run) fun i =>
  (rX a i).run
theorem z8(a:Int)(d:Nat)(e:Nat)(f:Int)(g:Int)(b:Nat)(h:Nat)(i:Nat)(j:List Nat)(c:List Nat)(l:Int)(m:Nat)(k:Nat)(n:Nat)(o:Nat)(p:List Nat) :Sg prog [.vs [.int .i64 a,.sl 1 1 1 0 d e,.nsl,.int .i64 f,.int .i64 g,.sl 2 1 1 0 b h,.flt false i,.nsl,.nsl],.fl j,.fl c] z7 (jJ a d e f g b h i j c l m k n (o,p)) (jr a b c l k n (o,p)) (jJ a d e f g b h i j c l m k n) (co 0 (ta a d e f g b h i j c m k) eM):=by
  unfold jr;exact Sg.cut 3 (az aU) (cF cZ (AD a d e f g b h i j c l m k n o) [⟨[],[0,1,2,3,4],[1,2,3,6,7,8,27,28]⟩,⟨[],[0,1,2,3,4],[1,2,3,6,7,8,27,28]⟩,⟨[],[0,1,2,3,4],[2,3,6,7]⟩]) (fun q=>cF cZ (jJ a d e f g b h i j c l m k n) [⟨[],[0,1,2,3,4],[1,2,3,6,7,8,27,28]⟩])
def AF(a:Int)(d:Nat)(e:Nat)(f:Int)(g:Int)(h:Nat)(i:Nat)(j:Nat)(k:List Nat)(l:List Nat)(m:Nat)(b:Nat)(n:List Nat) :Nat×Nat×(List Int)→aW:=fun (c,o,p)=>⟨ax 186 [(2,.flt false m),(3,.ptr 3 1 0 0),(6,.int .i64 a),(7,.sl 4 1 1 0 b b),(10,.sl 5 1 1 0 c c),(71,.int .i64 ((o:Nat):Int)),(72,.int .i64 (0:Int))],[(0,.vs [.int .i64 a,.sl 1 1 1 0 d e,.nsl,.int .i64 f,.int .i64 g,.sl 2 1 1 0 h i,.flt false j,.nsl,.nsl]),(1,.fl k),(2,.fl l),(3,.vs [.ptr 0 1 0 0]),(4,.fl n),(5,.ns .i64 p)],6⟩
def rY(a:Int) :T ((Nat×Nat×(List Int))⊕(aR)) :=
  .need (decide ((0:Int)≤a))<|.need (decide (a≤a))<|.need (decide ((8:Int)*a≤140737488355328))<|.need (fI .i64 a)<|.leaf (.inl ((Int.toNat a),(Int.toNat a),(List.replicate (Int.toNat a) (0:Int))))
def js(a:Int)(d:Nat)(e:Nat)(f:Int)(g:Int)(h:Nat)(i:Nat)(j:Nat)(k:List Nat)(l:List Nat)(m:Nat)(b:Nat)(n:List Nat)(c:Nat)(o:Nat) :Nat×(List Int)→aW:=fun (p,q)=>⟨ax 186 [(2,.flt false m),(3,.ptr 3 1 0 0),(6,.int .i64 a),(7,.sl 4 1 1 0 b b),(10,.sl 5 1 1 0 c c),(71,.int .i64 ((o:Nat):Int)),(72,.int .i64 ((p:Nat):Int))],[(0,.vs [.int .i64 a,.sl 1 1 1 0 d e,.nsl,.int .i64 f,.int .i64 g,.sl 2 1 1 0 h i,.flt false j,.nsl,.nsl]),(1,.fl k),(2,.fl l),(3,.vs [.ptr 0 1 0 0]),(4,.fl n),(5,.ns .i64 q)],6⟩
def rZ(a:Int)(d:Nat)(e:Nat)(f:Int)(g:Int)(h:Nat)(i:Nat)(j:Nat)(k:List Nat)(l:List Nat)(m:Nat)(b:Nat)(n:List Nat)(c:Nat)(o:(List Int)) :aW:=⟨ax 186 [(2,.flt false m),(3,.ptr 3 1 0 0),(6,.int .i64 a),(7,.sl 4 1 1 0 b b),(10,.sl 5 1 1 0 c c)],[(0,.vs [.int .i64 a,.sl 1 1 1 0 d e,.nsl,.int .i64 f,.int .i64 g,.sl 2 1 1 0 h i,.flt false j,.nsl,.nsl]),(1,.fl k),(2,.fl l),(3,.vs [.ptr 0 1 0 0]),(4,.fl n),(5,.ns .i64 o)],6⟩
def z9:List Code:=cV (dm ((((((jq.drop 5).drop 1).drop 2).take 1)).headD .skip))
def r5(c:Nat)(d:Nat)(a:Nat)(b:List Int) :T ((Nat×(List Int))⊕(((List Int))⊕(aR))) :=
  .ask (decide (((a:Nat):Int)<((d:Nat):Int)))
    (.need (gg ((a:Nat):Int) c)<|.need (fo a (List.length b))<|.need (fI .i64 (((a+1):Nat):Int))<|.leaf (.inl ((a+1),(List.set b a ((a:Nat):Int)))))
    (.leaf (.inr (.inl b)))
def jt(a:Nat)(b:Nat) :Nat×(List Int)→Option ((Nat×(List Int))⊕(((List Int))⊕(aR))):=fun (c,d) =>
  (r5 a b c d).run
theorem Aa(a:Int)(b:Nat)(c:Nat)(d:Int)(e:Int)(f:Nat)(g:Nat)(h:Nat)(i:List Nat)(j:List Nat)(l:Nat)(m:Nat)(n:List Nat)(k:Nat)(o:Nat)(p:Nat)(q:List Int) :Sg prog [.vs [.int .i64 a,.sl 1 1 1 0 b c,.nsl,.int .i64 d,.int .i64 e,.sl 2 1 1 0 f g,.flt false h,.nsl,.nsl],.fl i,.fl j] z9 (js a b c d e f g h i j l m n k o (p,q)) (jt k o (p,q)) (js a b c d e f g h i j l m n k o) (co 2 (rZ a b c d e f g h i j l m n k) eM):=by
  unfold jt;exact cF cZ (js a b c d e f g h i j l m n k o) [⟨[],[0,1,2,3,4,5],[2,3,6,7,10,71,72]⟩,⟨[],[0,1,2,3,4,5],[2,3,6,7,10]⟩]
def Ab(a:Int)(d:Nat)(e:Nat)(f:Int)(g:Int)(h:Nat)(i:Nat)(j:Nat)(k:List Nat)(l:List Nat)(m:Nat)(b:Nat)(n:List Nat)(c:Nat)(o:(List Int)) :aW:=⟨ax 186 [(2,.flt false m),(3,.ptr 3 1 0 0),(6,.int .i64 a),(7,.sl 4 1 1 0 b b),(10,.sl 5 1 1 0 c c)],[(0,.vs [.int .i64 a,.sl 1 1 1 0 d e,.nsl,.int .i64 f,.int .i64 g,.sl 2 1 1 0 h i,.flt false j,.nsl,.nsl]),(1,.fl k),(2,.fl l),(3,.vs [.ptr 0 1 0 0]),(4,.fl n),(5,.ns .i64 o)],6⟩
def r6(a:Nat)(b:Nat)(c:List Nat)(d:List Nat)(e:Nat)(f:List Int) :T (((List Int))⊕(aR)) :=
  .need (di 0 a c)<|.need (di 0 b d)<|.need (cC (bM f 0 e (ay 0 a c) (ay 0 b d)))<|.leaf (.inl (dr (bM f 0 e (ay 0 a c) (ay 0 b d))))
def Ac(a:Int)(g:Nat)(h:Nat)(i:Int)(j:Int)(k:Nat)(l:Nat)(m:Nat)(n:List Nat)(o:List Nat)(p:Nat)(d:Nat)(q:List Nat)(c:Nat)(r:List Int) :Nat×(List Nat)×Nat×(List Nat)→aW:=fun (b,e,f,s)=>⟨ax 186 [(2,.flt false p),(3,.ptr 3 1 0 0),(6,.int .i64 a),(7,.sl 4 1 1 0 d d),(12,.sl 5 1 1 0 b b),(13,.ptr 6 1 0 0),(92,.sl 7 1 1 0 c c),(93,.int .i64 ((c:Nat):Int)),(94,.int .i64 (0:Int))],[(0,.vs [.int .i64 a,.sl 1 1 1 0 g h,.sl 8 1 1 0 b b,.int .i64 i,.int .i64 j,.sl 2 1 1 0 k l,.flt false m,.nsl,.nsl]),(1,.fl n),(2,.fl o),(3,.vs [.ptr 0 1 0 0]),(4,.fl q),(5,.fl e),(6,.vs [.int .i64 a,.int .i64 a,.sl 9 1 1 0 f f]),(7,.ns .i64 r),(8,.fl e),(9,.fl s)],10⟩
def r7(a:Int) :T ((Nat×(List Nat)×Nat×(List Nat))⊕(aR)) :=
  .need (decide ((0:Int)≤a))<|.need (decide (a≤a))<|.need (decide ((8:Int)*a≤140737488355328))<|.need (fI .i64 a)<|.need (fI .i64 (a*a))<|.need (decide ((0:Int)≤(a*a)))<|.need (decide ((a*a)≤(a*a)))<|.need (decide ((8:Int)*(a*a)≤140737488355328))<|.need (fI .i64 (a*a))<|.need (decide ((0:Int)≤a))<|.need (decide (a≤a))<|.need (decide ((8:Int)*a≤140737488355328))<|.need (fI .i64 a)<|.leaf (.inl ((Int.toNat a),(List.replicate (Int.toNat a) 0),(Int.toNat (a*a)),(List.replicate (Int.toNat (a*a)) 0)))
def ju(a:Int)(f:Nat)(g:Nat)(h:Int)(i:Int)(j:Nat)(k:Nat)(l:Nat)(m:List Nat)(n:List Nat)(o:Nat)(d:Nat)(p:List Nat)(c:Nat)(q:List Int)(b:Nat)(e:Nat) :Nat×(List Nat)×(List Nat)×(List Nat)→aW:=fun (r,s,t,u)=>⟨ax 186 [(2,.flt false o),(3,.ptr 3 1 0 0),(6,.int .i64 a),(7,.sl 4 1 1 0 d d),(12,.sl 5 1 1 0 b b),(13,.ptr 6 1 0 0),(92,.sl 7 1 1 0 c c),(93,.int .i64 ((c:Nat):Int)),(94,.int .i64 ((r:Nat):Int))],[(0,.vs [.int .i64 a,.sl 1 1 1 0 f g,.sl 8 1 1 0 b b,.int .i64 h,.int .i64 i,.sl 2 1 1 0 j k,.flt false l,.nsl,.nsl]),(1,.fl m),(2,.fl n),(3,.vs [.ptr 0 1 0 0]),(4,.fl p),(5,.fl s),(6,.vs [.int .i64 a,.int .i64 a,.sl 9 1 1 0 e e]),(7,.ns .i64 q),(8,.fl t),(9,.fl u)],10⟩
def nL(b:Int)(d:Nat)(e:Nat)(f:Int)(g:Int)(h:Nat)(i:Nat)(j:Nat)(k:List Nat)(l:List Nat)(m:Nat)(a:Nat)(c:Nat) :(List Nat)×(List Nat)×(List Nat)→aW:=fun (n,o,p)=>⟨ax 186 [(2,.flt false m),(3,.ptr 3 1 0 0),(12,.sl 4 1 1 0 a a),(13,.ptr 5 1 0 0)],[(0,.vs [.int .i64 b,.sl 1 1 1 0 d e,.sl 6 1 1 0 a a,.int .i64 f,.int .i64 g,.sl 2 1 1 0 h i,.flt false j,.nsl,.nsl]),(1,.fl k),(2,.fl l),(3,.vs [.ptr 0 1 0 0]),(4,.fl n),(5,.vs [.int .i64 b,.int .i64 b,.sl 7 1 1 0 c c]),(6,.fl o),(7,.fl p)],8⟩
def r8:List Code:=cV (dm (((((((((jq.drop 5).drop 1).drop 2).drop 1).drop 1).drop 3).take 1)).headD .skip))
def Ad(a:Int)(f:Nat)(g:Nat)(h:Int)(i:Int)(j:Nat)(k:Nat)(l:Nat)(m:List Nat)(n:List Nat)(o:Nat)(d:Nat)(p:List Nat)(c:Nat)(q:List Int)(b:Nat)(e:Nat)(r:Nat)(s:List Nat)(t:List Nat)(u:List Nat)(_:Unit) :aW:=⟨ax 186 [(2,.flt false o),(3,.ptr 3 1 0 0),(6,.int .i64 a),(7,.sl 4 1 1 0 d d),(12,.sl 5 1 1 0 b b),(13,.ptr 6 1 0 0),(92,.sl 7 1 1 0 c c),(93,.int .i64 ((c:Nat):Int)),(94,.int .i64 ((r:Nat):Int))],[(0,.vs [.int .i64 a,.sl 1 1 1 0 f g,.sl 8 1 1 0 b b,.int .i64 h,.int .i64 i,.sl 2 1 1 0 j k,.flt false l,.nsl,.nsl]),(1,.fl m),(2,.fl n),(3,.vs [.ptr 0 1 0 0]),(4,.fl p),(5,.fl s),(6,.vs [.int .i64 a,.int .i64 a,.sl 9 1 1 0 e e]),(7,.ns .i64 q),(8,.fl t),(9,.fl u)],10⟩
def r9(a:Nat)(b:Nat)(c:List Nat)(d:List Nat)(e:List Nat) :T ((Unit)⊕(((List Nat)×(List Nat)×(List Nat))⊕(aR))) :=
  .ask (decide (((b:Nat):Int)<((a:Nat):Int)))
    (.leaf (.inl ()))
    (.leaf (.inr (.inl (c,d,e))))
def nM(a:Int)(f:Nat)(g:Nat)(h:Int)(i:Int)(j:Nat)(k:Nat)(l:Nat)(m:List Nat)(n:List Nat)(o:Nat)(d:Nat)(p:List Nat)(c:Nat)(q:List Int)(b:Nat)(e:Nat)(r:Nat) :(List Nat)×(List Nat)×(List Nat)→aW:=fun (s,t,u)=>⟨ax 186 [(2,.flt false o),(3,.ptr 3 1 0 0),(6,.int .i64 a),(7,.sl 4 1 1 0 d d),(12,.sl 5 1 1 0 b b),(13,.ptr 6 1 0 0),(92,.sl 7 1 1 0 c c),(93,.int .i64 ((c:Nat):Int)),(94,.int .i64 ((r:Nat):Int))],[(0,.vs [.int .i64 a,.sl 1 1 1 0 f g,.sl 8 1 1 0 b b,.int .i64 h,.int .i64 i,.sl 2 1 1 0 j k,.flt false l,.nsl,.nsl]),(1,.fl m),(2,.fl n),(3,.vs [.ptr 0 1 0 0]),(4,.fl p),(5,.fl s),(6,.vs [.int .i64 a,.int .i64 a,.sl 9 1 1 0 e e]),(7,.ns .i64 q),(8,.fl t),(9,.fl u)],10⟩
def Ae:List Code:=cV (inBlock ((((r8.drop 2).take 1)).headD .skip))
def Af(a:Int)(g:Nat)(h:Nat)(i:Int)(j:Int)(k:Nat)(l:Nat)(m:Nat)(n:List Nat)(o:List Nat)(p:Nat)(d:Nat)(q:List Nat)(c:Nat)(r:List Int)(b:Nat)(e:Nat)(f:Nat)(s:List Nat) :Int×(List Nat)×(List Nat)→aW:=fun (t,u,v)=>⟨ax 186 [(2,.flt false p),(3,.ptr 3 1 0 0),(6,.int .i64 a),(7,.sl 4 1 1 0 d d),(12,.sl 5 1 1 0 b b),(13,.ptr 6 1 0 0),(14,.int .i64 ((f:Nat):Int)),(15,.int .i64 t),(92,.sl 7 1 1 0 c c),(93,.int .i64 ((c:Nat):Int)),(94,.int .i64 ((f:Nat):Int)),(119,.int .i64 a),(120,.int .i64 (0:Int))],[(0,.vs [.int .i64 a,.sl 1 1 1 0 g h,.sl 8 1 1 0 b b,.int .i64 i,.int .i64 j,.sl 2 1 1 0 k l,.flt false m,.nsl,.nsl]),(1,.fl n),(2,.fl o),(3,.vs [.ptr 0 1 0 0]),(4,.fl q),(5,.fl u),(6,.vs [.int .i64 a,.int .i64 a,.sl 9 1 1 0 e e]),(7,.ns .i64 r),(8,.fl v),(9,.fl s)],10⟩
def sa(h:Nat)(c:List Nat)(i:Nat)(d:List Nat)(j:Nat)(b:List Int)(e:Nat)(a:Nat)(f:List Nat)(g:List Nat) :T ((Int×(List Nat)×(List Nat))⊕(((List Nat)×(List Nat)×(List Nat))⊕(((List Nat)×(List Nat)×(List Nat))⊕(aR)))) :=
  .need (gg ((a:Nat):Int) j)<|.need (fo a (List.length b))<|.need (gg (List.getD b a 0) h)<|.need (fo (Int.toNat (List.getD b a 0)) (List.length c))<|.need (gg (List.getD b a 0) i)<|.need (fo (Int.toNat (List.getD b a 0)) (List.length d))<|.need (gg ((a:Nat):Int) e)<|.need (fo a (List.length f))<|.need (gg ((a:Nat):Int) e)<|.need (fo a (List.length g))<|.leaf (.inl ((List.getD b a 0),(List.set f a (List.getD c (Int.toNat (List.getD b a 0)) 0)),(List.set g a (List.getD d (Int.toNat (List.getD b a 0)) 0))))
def jv(a:Int)(g:Nat)(h:Nat)(i:Int)(j:Int)(k:Nat)(l:Nat)(m:Nat)(n:List Nat)(o:List Nat)(p:Nat)(d:Nat)(q:List Nat)(c:Nat)(r:List Int)(b:Nat)(e:Nat)(f:Nat)(s:Int)(t:List Nat)(u:List Nat) :Nat×(List Nat)→aW:=fun (v,w)=>⟨ax 186 [(2,.flt false p),(3,.ptr 3 1 0 0),(6,.int .i64 a),(7,.sl 4 1 1 0 d d),(12,.sl 5 1 1 0 b b),(13,.ptr 6 1 0 0),(14,.int .i64 ((f:Nat):Int)),(15,.int .i64 s),(92,.sl 7 1 1 0 c c),(93,.int .i64 ((c:Nat):Int)),(94,.int .i64 ((f:Nat):Int)),(119,.int .i64 a),(120,.int .i64 ((v:Nat):Int))],[(0,.vs [.int .i64 a,.sl 1 1 1 0 g h,.sl 8 1 1 0 b b,.int .i64 i,.int .i64 j,.sl 2 1 1 0 k l,.flt false m,.nsl,.nsl]),(1,.fl n),(2,.fl o),(3,.vs [.ptr 0 1 0 0]),(4,.fl q),(5,.fl t),(6,.vs [.int .i64 a,.int .i64 a,.sl 9 1 1 0 e e]),(7,.ns .i64 r),(8,.fl u),(9,.fl w)],10⟩
def sb(a:Int)(f:Nat)(g:Nat)(h:Int)(i:Int)(j:Nat)(k:Nat)(l:Nat)(m:List Nat)(n:List Nat)(o:Nat)(d:Nat)(p:List Nat)(c:Nat)(q:List Int)(b:Nat)(e:Nat)(r:Nat)(s:List Nat)(t:List Nat)(u:(List Nat)) :aW:=⟨ax 186 [(2,.flt false o),(3,.ptr 3 1 0 0),(6,.int .i64 a),(7,.sl 4 1 1 0 d d),(12,.sl 5 1 1 0 b b),(13,.ptr 6 1 0 0),(92,.sl 7 1 1 0 c c),(93,.int .i64 ((c:Nat):Int)),(94,.int .i64 ((r:Nat):Int))],[(0,.vs [.int .i64 a,.sl 1 1 1 0 f g,.sl 8 1 1 0 b b,.int .i64 h,.int .i64 i,.sl 2 1 1 0 j k,.flt false l,.nsl,.nsl]),(1,.fl m),(2,.fl n),(3,.vs [.ptr 0 1 0 0]),(4,.fl p),(5,.fl s),(6,.vs [.int .i64 a,.int .i64 a,.sl 9 1 1 0 e e]),(7,.ns .i64 q),(8,.fl t),(9,.fl u)],10⟩
def Ag:List Code:=cV (dm ((((Ae.drop 3).take 1)).headD .skip))
def sc(b:Int)(g:Nat)(f:List Nat)(h:Nat)(c:Nat)(d:Int)(a:Nat)(e:List Nat) :T ((Nat×(List Nat))⊕(((List Nat))⊕(((List Nat)×(List Nat)×(List Nat))⊕(((List Nat)×(List Nat)×(List Nat))⊕(aR))))) :=
  .ask (decide (((a:Nat):Int)<b))
    (.need (fI .i64 (((a:Nat):Int)*b))<|.need (fI .i64 ((((a:Nat):Int)*b)+((c:Nat):Int)))<|.need (fI .i64 (((a:Nat):Int)*b))<|.need (fI .i64 ((((a:Nat):Int)*b)+d))<|.need (gg ((((a:Nat):Int)*b)+d) g)<|.need (fo (Int.toNat ((((a:Nat):Int)*b)+d)) (List.length f))<|.need (gg ((((a:Nat):Int)*b)+((c:Nat):Int)) h)<|.need (fo (Int.toNat ((((a:Nat):Int)*b)+((c:Nat):Int))) (List.length e))<|.need (fI .i64 (((a+1):Nat):Int))<|.leaf (.inl ((a+1),(List.set e (Int.toNat ((((a:Nat):Int)*b)+((c:Nat):Int))) (List.getD f (Int.toNat ((((a:Nat):Int)*b)+d)) 0)))))
    (.leaf (.inr (.inl e)))
def jw(a:Int)(b:Nat)(c:List Nat)(d:Nat)(e:Nat)(f:Int) :Nat×(List Nat)→Option ((Nat×(List Nat))⊕(((List Nat))⊕(((List Nat)×(List Nat)×(List Nat))⊕(((List Nat)×(List Nat)×(List Nat))⊕(aR))))):=fun (g,h) =>
  (sc a b c d e f g h).run
theorem Ah(a:Int)(d:Nat)(e:Nat)(f:Int)(g:Int)(b:Nat)(h:Nat)(i:Nat)(j:List Nat)(c:List Nat)(l:Nat)(o:Nat)(p:List Nat)(q:Nat)(r:List Int)(m:Nat)(k:Nat)(n:Nat)(s:Int)(t:List Nat)(u:List Nat)(v:Nat)(w:List Nat) :Sg prog [.vs [.int .i64 a,.sl 1 1 1 0 d e,.nsl,.int .i64 f,.int .i64 g,.sl 2 1 1 0 b h,.flt false i,.nsl,.nsl],.fl j,.fl c] Ag (jv a d e f g b h i j c l o p q r m k n s t u (v,w)) (jw a b c k n s (v,w)) (jv a d e f g b h i j c l o p q r m k n s t u) (co 6 (sb a d e f g b h i j c l o p q r m k n t u) (co 5 (nM a d e f g b h i j c l o p q r m k n) (co 4 (nL a d e f g b h i j c l m k) eM))):=by
  unfold jw;exact cF cZ (jv a d e f g b h i j c l o p q r m k n s t u) [⟨[],[0,1,2,3,4,5,6,7,8,9],[2,3,6,7,12,13,14,15,92,93,94,119,120]⟩,⟨[],[0,1,2,3,4,5,6,7,8,9],[2,3,6,7,12,13,92,93,94]⟩]
def sd(a:List Nat)(b:List Nat)(c:List Nat) :T (((List Nat)×(List Nat)×(List Nat))⊕(((List Nat)×(List Nat)×(List Nat))⊕(((List Nat)×(List Nat)×(List Nat))⊕(aR)))) :=
  .leaf (.inl (a,b,c))
def se(a:Nat)(b:List Nat)(c:List Nat)(d:List Nat) :T ((Nat×(List Nat)×(List Nat)×(List Nat))⊕(((List Nat)×(List Nat)×(List Nat))⊕(aR))) :=
  .need (fI .i64 (((a+1):Nat):Int))<|.leaf (.inl ((a+1),b,c,d))
def jx(f:Int)(g:Nat)(h:Nat)(i:List Nat)(j:List Nat)(k:Nat)(l:List Nat)(b:Nat)(m:List Int)(n:Nat)(o:Nat) :Nat×(List Nat)×(List Nat)×(List Nat)→Option ((Nat×(List Nat)×(List Nat)×(List Nat))⊕(((List Nat)×(List Nat)×(List Nat))⊕(aR))):=fun (a,c,d,e) =>
  bd ((r9 b a c d e).run) fun _ =>
  bd (vO (bd ((sa g i k l b m n a c d).run) fun (p,q,r) =>
  bd (cu (jw f h j o a p) (0,e)) fun s =>
  (sd q r s).run)) fun (t,u,v) =>
  (se a t u v).run
theorem Ai(a:Int)(b:Nat)(f:Nat)(g:Int)(h:Int)(c:Nat)(i:Nat)(j:Nat)(d:List Nat)(e:List Nat)(m:Nat)(n:Nat)(o:List Nat)(p:Nat)(q:List Int)(k:Nat)(l:Nat)(r:Nat)(t:List Nat)(u:List Nat)(s:List Nat) :Sg prog [.vs [.int .i64 a,.sl 1 1 1 0 b f,.nsl,.int .i64 g,.int .i64 h,.sl 2 1 1 0 c i,.flt false j,.nsl,.nsl],.fl d,.fl e] r8 (ju a b f g h c i j d e m n o p q k l (r,t,u,s)) (jx a b c d e n o p q k l (r,t,u,s)) (ju a b f g h c i j d e m n o p q k l) (co 4 (nL a b f g h c i j d e m k l) eM):=by
  unfold jx;exact Sg.cut 2 (az aU) (cF cZ (Ad a b f g h c i j d e m n o p q k l r t u s) [⟨[],[0,1,2,3,4,5,6,7,8,9],[2,3,6,7,12,13,92,93,94]⟩,⟨[],[0,1,2,3,5,6,8,9],[2,3,12,13]⟩]) (fun _=>Sg.cut 1 (az aU) (UR (nM a b f g h c i j d e m n o p q k l r) 5 (az aU) (cW (by decide) (fX _)) (Sg.cut 3 (az (az aU)) (cF cZ (Af a b f g h c i j d e m n o p q k l r s) [⟨[],[0,1,2,3,4,5,6,7,8,9],[2,3,6,7,12,13,14,15,92,93,94,119,120]⟩]) (fun ⟨x,v,w⟩=>Sg.cut 1 (az (az aU)) (yE ⟨[],[0,1,2,3,4,5,6,7,8,9],[2,3,6,7,12,13,14,15,92,93,94,119,120]⟩ (jv a b f g h c i j d e m n o p q k l r x v w) (sb a b f g h c i j d e m n o p q k l r v w) 6 (az (az aU)) (cW (by decide) (cW (by decide) (fX _))) (fun ⟨y,z⟩=>Ah a b f g h c i j d e m n o p q k l r x v w y z)) (fun A=>cF cZ (nM a b f g h c i j d e m n o p q k l r) [⟨[],[0,1,2,3,4,5,6,7,8,9],[2,3,6,7,12,13,92,93,94]⟩])))) (fun ⟨B,C,D⟩=>cF cZ (ju a b f g h c i j d e m n o p q k l) [⟨[],[0,1,2,3,4,5,6,7,8,9],[2,3,6,7,12,13,92,93,94]⟩]))
def Aj(b:Int)(d:Nat)(e:List Nat)(f:List Nat)(g:Nat)(a:Nat)(c:Nat)(h:List Nat)(i:List Nat)(j:List Nat)(k:Nat) :aW:=⟨ax 186 [(2,.flt false g),(3,.ptr 3 1 0 0),(17,.flt false k)],[(0,.vs [.int .i64 b,.sl 4 1 1 0 a a,.sl 5 1 1 0 a a,.int .i64 b,.int .i64 b,.sl 6 1 1 0 c c,.flt false d,.nsl,.nsl]),(1,.fl e),(2,.fl f),(3,.vs [.ptr 0 1 0 0]),(4,.fl h),(5,.fl i),(6,.fl j)],7⟩
def sf(a:Nat)(b:List Nat) :T ((Nat)⊕(aR)) :=
  .need (di 0 a b)<|.need (uj (pI (ay 0 a b)))<|.leaf (.inl (uX (pI (ay 0 a b))))
def Ak(b:Int)(d:Nat)(e:List Nat)(f:List Nat)(g:Nat)(a:Nat)(c:Nat)(h:List Nat)(i:List Nat)(j:List Nat)(k:Nat)(_:Unit) :aW:=⟨ax 186 [(2,.flt false g),(3,.ptr 3 1 0 0),(17,.flt false k),(162,.int .i64 ((a:Nat):Int)),(163,.int .i64 (0:Int))],[(0,.vs [.int .i64 b,.sl 4 1 1 0 a a,.sl 5 1 1 0 a a,.int .i64 b,.int .i64 b,.sl 6 1 1 0 c c,.flt false d,.nsl,.nsl]),(1,.fl e),(2,.fl f),(3,.vs [.ptr 0 1 0 0]),(4,.fl h),(5,.fl i),(6,.fl j)],7⟩
def sh:T ((Unit)⊕(aR)) :=
  .leaf (.inl ())
def jy(b:Int)(d:Nat)(e:List Nat)(f:List Nat)(g:Nat)(a:Nat)(c:Nat)(h:List Nat)(i:List Nat)(j:Nat) :Nat×(List Nat)→aW:=fun (k,l)=>⟨ax 186 [(2,.flt false g),(3,.ptr 3 1 0 0),(17,.flt false j),(162,.int .i64 ((a:Nat):Int)),(163,.int .i64 ((k:Nat):Int))],[(0,.vs [.int .i64 b,.sl 4 1 1 0 a a,.sl 5 1 1 0 a a,.int .i64 b,.int .i64 b,.sl 6 1 1 0 c c,.flt false d,.nsl,.nsl]),(1,.fl e),(2,.fl f),(3,.vs [.ptr 0 1 0 0]),(4,.fl h),(5,.fl l),(6,.fl i)],7⟩
def si(b:Int)(d:Nat)(e:List Nat)(f:List Nat)(g:Nat)(a:Nat)(c:Nat)(h:List Nat)(i:List Nat)(j:Nat)(k:(List Nat)) :aW:=⟨ax 186 [(2,.flt false g),(3,.ptr 3 1 0 0),(17,.flt false j)],[(0,.vs [.int .i64 b,.sl 4 1 1 0 a a,.sl 5 1 1 0 a a,.int .i64 b,.int .i64 b,.sl 6 1 1 0 c c,.flt false d,.nsl,.nsl]),(1,.fl e),(2,.fl f),(3,.vs [.ptr 0 1 0 0]),(4,.fl h),(5,.fl k),(6,.fl i)],7⟩
def Al:List Code:=cV (dm ((((((((((((jq.drop 5).drop 1).drop 2).drop 1).drop 1).drop 3).drop 1).drop 2).drop 1).take 1)).headD .skip))
def sj(c:Nat)(d:Nat)(a:Nat)(b:List Nat) :T ((Nat×(List Nat))⊕(((List Nat))⊕(aR))) :=
  .ask (decide (((a:Nat):Int)<((c:Nat):Int)))
    (.need (gg ((a:Nat):Int) c)<|.need (fo a (List.length b))<|.need (gg ((a:Nat):Int) c)<|.need (fo a (List.length b))<|.need (fI .i64 (((a+1):Nat):Int))<|.leaf (.inl ((a+1),(List.set b a (fdiv (List.getD b a 0) d)))))
    (.leaf (.inr (.inl b)))
def jz(a:Nat)(b:Nat) :Nat×(List Nat)→Option ((Nat×(List Nat))⊕(((List Nat))⊕(aR))):=fun (c,d) =>
  (sj a b c d).run
theorem Am(a:Int)(m:Nat)(n:Nat)(o:Int)(p:Int)(q:Nat)(r:Nat)(b:Nat)(c:List Nat)(d:List Nat)(g:Nat)(e:Nat)(h:Nat)(i:List Nat)(j:List Nat)(f:Nat)(k:Nat)(l:List Nat) :Sg prog [.vs [.int .i64 a,.sl 1 1 1 0 m n,.nsl,.int .i64 o,.int .i64 p,.sl 2 1 1 0 q r,.flt false b,.nsl,.nsl],.fl c,.fl d] Al (jy a b c d g e h i j f (k,l)) (jz e f (k,l)) (jy a b c d g e h i j f) (co 8 (si a b c d g e h i j f) eM):=by
  unfold jz;exact cF cZ (jy a b c d g e h i j f) [⟨[],[0,1,2,3,4,5,6],[2,3,17,162,163]⟩,⟨[],[0,1,2,3,4,5,6],[2,3,17]⟩]
def sk(b:Int)(c:List Nat)(d:List Nat)(e:Nat)(f:Nat)(g:Nat)(h:List Nat)(i:List Nat)(a:Nat)(j:List Nat) :T ((Int×Nat×Nat×Nat×(List Nat)×(List Nat)×(List Nat)×(List Nat)×(List Nat))⊕(aR)) :=
  .leaf (.inl (b,f,g,(cY (eE e) (cY a a)),c,d,h,j,i))
def uk:(Int×Nat×Nat×Nat×(List Nat)×(List Nat)×(List Nat)×(List Nat)×(List Nat))⊕(aR)→bp
  | .inl (a,b,c,d,e,f,g,h,i)=>(.r0 a b c d e f g h i)
def cj(a:Int)(g:Nat)(d:Nat)(e:List Nat)(b:List Nat)(n:Int)(h:Nat) :Option bp:=Option.map uk (bd ((rV a h).run) fun (i,o,p) =>
  bd (cu (jr a d b n i o) (0,p)) fun q =>
  bd ((rY a).run) fun (f,r,s) =>
  bd (cu (jt f r) (0,s)) fun t =>
  bd ((r6 g d e b f t).run) fun u =>
  bd ((r7 a).run) fun (c,j,k,v) =>
  bd (cu (jx a g d e b i q f u c k) (0,j,j,v)) fun (w,l,x) =>
  bd ((sf c l).run) fun m =>
  bd ((sh).run) fun _ =>
  bd (cu (jz c m) (0,l)) fun y =>
  (sk a e b h c k w x m y).run)
theorem AG(a:Int)(f:Nat)(i:Nat)(j:Int)(k:Int)(g:Nat)(l:Nat)(e:Nat)(b:List Nat)(c:List Nat)(r:Int)(d:Nat){x:bp}(h:cj a f g b c r d=some x) :aH prog kp [.vs [.int .i64 a,.sl 1 1 1 0 f i,.nsl,.int .i64 j,.int .i64 k,.sl 2 1 1 0 g l,.flt false e,.nsl,.nsl],.fl b,.fl c] [.ptr 0 1 0 0,.int .i64 r,.flt false d] (pP x) :=
  MH false pP rU eM uk h (Sg.cut 5 aU (cF cZ (AC a f i j k g l e b c r d) [⟨[],[0,1,2,3,115],[1,2,3,6,7,8,27,28]⟩]) (fun ⟨m,w,K⟩=>Sg.cut 1 aU (yE ⟨[],[0,1,2,3,4],[1,2,3,6,7,8,27,28]⟩ (jJ a f i j k g l e b c r d m w) (ta a f i j k g l e b c d m) 0 aU (fX _) (fun ⟨A,B⟩=>z8 a f i j k g l e b c r d m w A B)) (fun n=>Sg.cut 2 aU (cF cZ (AF a f i j k g l e b c d m n) [⟨[],[0,1,2,3,4,21],[2,3,6,7,10,71,72]⟩]) (fun ⟨q,y,L⟩=>Sg.cut 1 aU (yE ⟨[],[0,1,2,3,4,5],[2,3,6,7,10,71,72]⟩ (js a f i j k g l e b c d m n q y) (rZ a f i j k g l e b c d m n q) 2 aU (fX _) (fun ⟨C,D⟩=>Aa a f i j k g l e b c d m n q y C D)) (fun M=>Sg.cut 1 aU (cF cZ (Ab a f i j k g l e b c d m n q) [⟨[],[0,1,2,3,4,5],[2,3,6,7,10]⟩]) (fun v=>Sg.cut 3 aU (cF cZ (Ac a f i j k g l e b c d m n q v) [⟨[],[0,1,2,3,4,22,70,5,150,54],[2,3,6,7,12,13,92,93,94]⟩]) (fun ⟨o,N,p,O⟩=>Sg.cut 1 aU (yE ⟨[],[0,1,2,3,4,5,6,7,8,9],[2,3,6,7,12,13,92,93,94]⟩ (ju a f i j k g l e b c d m n q v o p) (nL a f i j k g l e b c d o p) 4 aU (fX _) (fun ⟨E,F,G,H⟩=>Ai a f i j k g l e b c d m n q v o p E F G H)) (fun ⟨s,z,t⟩=>Sg.cut 2 aU (cF cZ (Aj a e b c d o p s z t) [⟨[],[0,1,2,3,4,6,7],[2,3,17]⟩]) (fun u=>Sg.cut 1 aU (cF cZ (Ak a e b c d o p s z t u) [⟨[],[0,1,2,3,4,5,6],[2,3,17,162,163]⟩]) (fun _=>Sg.cut 1 aU (yE ⟨[],[0,1,2,3,4,5,6],[2,3,17,162,163]⟩ (jy a e b c d o p s t u) (si a e b c d o p s t u) 8 aU (fX _) (fun ⟨I,J⟩=>Am a f i j k g l e b c d o p s t u I J)) (fun P=>cF cZ rU [⟨[],[0,1,2,4,5,6],[]⟩])))))))))))
    (fun ⟨Q,R,S,T,U,V,W,X,Y⟩=>MG []) (fun x=>by cases x)
def jK:Option bp→Bool
  | some _=>true
  | none=>false
def mo:Option bp→Int
  | some (.r0 x _ _ _ _ _ _ _ _)=>x
  | _=>0
def mp:Option bp→Nat
  | some (.r0 _ x _ _ _ _ _ _ _)=>x
  | _=>0
def mq:Option bp→Nat
  | some (.r0 _ _ x _ _ _ _ _ _)=>x
  | _=>0
def mr:Option bp→Nat
  | some (.r0 _ _ _ x _ _ _ _ _)=>x
  | _=>0
def rA:Option bp→List Nat
  | some (.r0 _ _ _ _ x _ _ _ _)=>x
  | _=>[]
def rB:Option bp→List Nat
  | some (.r0 _ _ _ _ _ x _ _ _)=>x
  | _=>[]
def mt:Option bp→List Nat
  | some (.r0 _ _ _ _ _ _ x _ _)=>x
  | _=>[]
def mu:Option bp→List Nat
  | some (.r0 _ _ _ _ _ _ _ x _)=>x
  | _=>[]
def mv:Option bp→List Nat
  | some (.r0 _ _ _ _ _ _ _ _ x)=>x
  | _=>[]
theorem AH{x:Option bp}(h:jK x=true) :x=some (.r0 (mo x) (mp x) (mq x) (mr x) (rA x) (rB x) (mt x) (mu x) (mv x)):=by
  unfold jK at h
  split at h<;>first | rfl | (cases h;done) | (rename_i y;cases y;rfl)
def ul:bC:=yZ kp [.vs [.int .i64,.lsl0 1,.nsl,.int .i64,.int .i64,.lsl0 2,.flt,.nsl,.nsl],.fl,.fl] (.cons (.lptr 0 1 0 0) (.cons (.int .i64) (.cons (.flt false) .nil))) fun x t=>(fun q=>[⟨pP (.r0 (mo q) (mp q) (mq q) (mr q) (rA q) (rB q) (mt q) (mu q) (mv q)),[jK q]⟩]) (cj x.1.1 x.1.2.1.1 x.1.2.2.2.2.2.1.1 x.2.1 x.2.2.1 t.2.1 t.2.2.1)
theorem zA:bZ prog ul:=pE fun x t=>(jZ (fun h=>AG x.1.1 x.1.2.1.1 x.1.2.1.2 x.1.2.2.2.1 x.1.2.2.2.2.1 x.1.2.2.2.2.2.1.1 x.1.2.2.2.2.2.1.2 x.1.2.2.2.2.2.2.1 x.2.1 x.2.2.1 t.2.1 t.2.2.1 (AH h)) pF)
def um:List bC:=ul::IX
theorem fq:cQ prog (cX um):=aY zA cZ
inductive aE where
  | r0 (a:Bool) (b:Int) (c:Nat) (d:Nat) (e:Nat) (f:Nat) (g:Int) (h:Int) (i:Nat) (j:Nat) (k:Nat) (l:Nat) (m:Nat) (n:Nat) (o:Nat) (p:List Nat) (q:List Nat) (r:List Nat) (s:List Int) (t:List Int)
def lf:aE→AE×aW
  | .r0 a b c d e f g h i j k l m n o p q r s t=>(.ret,⟨ax 183 [(8,.bool false a)],[(0,.vs [.int .i64 b,.sl 1 1 1 0 c d,.sl 2 1 1 0 e f,.int .i64 g,.int .i64 h,.sl 3 1 1 0 i j,.flt false k,.sl 4 1 1 0 l m,.sl 5 1 1 0 n o]),(1,.fl p),(2,.fl q),(3,.fl r),(4,.ns .i64 s),(5,.ns .i64 t)],6⟩)
theorem iR:xN lf:=by intro x;cases x<;>(intro h;cases h)
theorem BP(id:Nat) :rh id lf:=by intro x;cases x<;>(intro h;cases h)
def qp:aE→rF
  | .r0 a b c d e f g h i j k l m n o p q r s t=>⟨.bool false a,[some (.vs [.int .i64 b,.sl 1 1 1 0 c d,.sl 2 1 1 0 e f,.int .i64 g,.int .i64 h,.sl 3 1 1 0 i j,.flt false k,.sl 4 1 1 0 l m,.sl 5 1 1 0 n o]),some (.fl p),some (.fl q),some (.fl r),some (.ns .i64 s),some (.ns .i64 t)]⟩
def BQ:List Code:=cV (qT kZ)
def BS(a:Int)(b:Nat)(c:Nat)(d:Nat)(e:Nat)(f:Int)(g:Int)(h:Nat)(i:Nat)(j:Nat)(k:Nat)(l:Nat)(m:Nat)(n:Nat)(o:List Nat)(p:List Nat)(q:List Nat)(r:List Int)(s:List Int)(t:Int)(u:Int)(v:Nat)(w:Nat) :aW:=⟨ax 183 [(0,.ptr 0 1 0 0),(1,.int .i64 t),(2,.int .i64 u),(3,.flt false v),(9,.flt false w)],[(0,.vs [.int .i64 a,.sl 1 1 1 0 b c,.sl 2 1 1 0 d e,.int .i64 f,.int .i64 g,.sl 3 1 1 0 h i,.flt false j,.sl 4 1 1 0 k l,.sl 5 1 1 0 m n]),(1,.fl o),(2,.fl p),(3,.fl q),(4,.ns .i64 r),(5,.ns .i64 s)],6⟩
def tc(d:Nat)(a:List Nat)(b:Int)(c:Int) :T ((Nat)⊕(aE)) :=
  .need (gg b d)<|.need (fo (Int.toNat b) (List.length a))<|.need (gg c d)<|.need (fo (Int.toNat c) (List.length a))<|.ask (Kh (eE (List.getD a (Int.toNat c) 0)) (eE (List.getD a (Int.toNat b) 0)))
    (.ask (TX (eE (List.getD a (Int.toNat c) 0)) 0)
      (.leaf (.inl (eE (List.getD a (Int.toNat c) 0))))
      (.leaf (.inl (cY (eE (List.getD a (Int.toNat c) 0)) (DQ (vC 4607182418800017408 (cY (fdiv (eE (List.getD a (Int.toNat b) 0)) (eE (List.getD a (Int.toNat c) 0))) (fdiv (eE (List.getD a (Int.toNat b) 0)) (eE (List.getD a (Int.toNat c) 0))))))))))
    (.ask (TX (eE (List.getD a (Int.toNat b) 0)) 0)
      (.leaf (.inl (eE (List.getD a (Int.toNat b) 0))))
      (.leaf (.inl (cY (eE (List.getD a (Int.toNat b) 0)) (DQ (vC 4607182418800017408 (cY (fdiv (eE (List.getD a (Int.toNat c) 0)) (eE (List.getD a (Int.toNat b) 0))) (fdiv (eE (List.getD a (Int.toNat c) 0)) (eE (List.getD a (Int.toNat b) 0))))))))))
def BT(a:Int)(b:Nat)(c:Nat)(d:Nat)(e:Nat)(f:Int)(g:Int)(h:Nat)(i:Nat)(j:Nat)(k:Nat)(l:Nat)(m:Nat)(n:Nat)(o:List Nat)(p:List Nat)(q:List Int)(r:List Int)(s:Int)(t:Int) :Nat×Nat×(List Nat)→aW:=fun (u,v,w)=>⟨ax 183 [(0,.ptr 0 1 0 0),(1,.int .i64 s),(2,.int .i64 t),(10,.flt false u),(11,.flt false v),(90,.int .i64 a),(91,.int .i64 (0:Int))],[(0,.vs [.int .i64 a,.sl 1 1 1 0 b c,.sl 2 1 1 0 d e,.int .i64 f,.int .i64 g,.sl 3 1 1 0 h i,.flt false j,.sl 4 1 1 0 k l,.sl 5 1 1 0 m n]),(1,.fl o),(2,.fl w),(3,.fl p),(4,.ns .i64 q),(5,.ns .i64 r)],6⟩
def td(h:Int)(g:Nat)(i:Nat)(e:Nat)(j:Nat)(k:Int)(l:Int)(m:Nat)(n:Nat)(o:Nat)(p:Nat)(q:Nat)(r:Nat)(s:Nat)(f:List Nat)(b:List Nat)(t:List Nat)(u:List Int)(v:List Int)(c:Int)(a:Int)(w:Nat)(d:Nat) :T ((Nat×Nat×(List Nat))⊕(aE)) :=
  .need (gg a e)<|.need (fo (Int.toNat a) (List.length b))<|.need (gg c e)<|.need (fo (Int.toNat c) (List.length b))<|.need (gg a g)<|.need (fo (Int.toNat a) (List.length f))<|.need (gg c g)<|.need (fo (Int.toNat c) (List.length f))<|.ask (!(WA (eE (cY (cY (oN (List.getD f (Int.toNat a) 0) (List.getD f (Int.toNat c) 0)) (fdiv (List.getD b (Int.toNat a) 0) d)) (fdiv (List.getD b (Int.toNat c) 0) d))) w))
    (.leaf (.inr (.r0 false h g i e j k l m n o p q r s f b t u v)))
    (.need (gg a e)<|.need (fo (Int.toNat a) (List.length b))<|.need (gg c e)<|.need (fo (Int.toNat c) (List.length (List.set b (Int.toNat a) d)))<|.leaf (.inl ((fdiv (List.getD b (Int.toNat a) 0) d),(fdiv (List.getD b (Int.toNat c) 0) d),(List.set (List.set b (Int.toNat a) d) (Int.toNat c) 0))))
def ku(a:Int)(b:Nat)(c:Nat)(d:Nat)(e:Nat)(f:Int)(g:Int)(h:Nat)(i:Nat)(j:Nat)(k:Nat)(l:Nat)(m:Nat)(n:Nat)(o:List Nat)(p:List Int)(q:List Int)(r:Int)(s:Int)(t:Nat)(u:Nat)(v:List Nat) :Nat×(List Nat)→aW:=fun (w,x)=>⟨ax 183 [(0,.ptr 0 1 0 0),(1,.int .i64 r),(2,.int .i64 s),(10,.flt false t),(11,.flt false u),(90,.int .i64 a),(91,.int .i64 ((w:Nat):Int))],[(0,.vs [.int .i64 a,.sl 1 1 1 0 b c,.sl 2 1 1 0 d e,.int .i64 f,.int .i64 g,.sl 3 1 1 0 h i,.flt false j,.sl 4 1 1 0 k l,.sl 5 1 1 0 m n]),(1,.fl o),(2,.fl v),(3,.fl x),(4,.ns .i64 p),(5,.ns .i64 q)],6⟩
def un(a:Int)(b:Nat)(c:Nat)(d:Nat)(e:Nat)(f:Int)(g:Int)(h:Nat)(i:Nat)(j:Nat)(k:Nat)(l:Nat)(m:Nat)(n:Nat)(o:List Nat)(p:List Int)(q:List Int)(r:Int)(s:Int)(t:Nat)(u:Nat)(v:List Nat)(w:(List Nat)) :aW:=⟨ax 183 [(0,.ptr 0 1 0 0),(1,.int .i64 r),(2,.int .i64 s),(10,.flt false t),(11,.flt false u)],[(0,.vs [.int .i64 a,.sl 1 1 1 0 b c,.sl 2 1 1 0 d e,.int .i64 f,.int .i64 g,.sl 3 1 1 0 h i,.flt false j,.sl 4 1 1 0 k l,.sl 5 1 1 0 m n]),(1,.fl o),(2,.fl v),(3,.fl w),(4,.ns .i64 p),(5,.ns .i64 q)],6⟩
def AI:List Code:=cV (dm (((((BQ.drop 2).drop 5).take 1)).headD .skip))
def BU(a:Int)(b:Nat)(c:Nat)(d:Nat)(e:Nat)(f:Int)(g:Int)(h:Nat)(i:Nat)(j:Nat)(k:Nat)(l:Nat)(m:Nat)(n:Nat)(o:List Nat)(p:List Int)(q:List Int)(r:Int)(s:Int)(t:Nat)(u:Nat)(v:List Nat)(w:Nat)(x:(List Nat)) :aW:=⟨ax 183 [(0,.ptr 0 1 0 0),(1,.int .i64 r),(2,.int .i64 s),(10,.flt false t),(11,.flt false u),(90,.int .i64 a),(91,.int .i64 ((w:Nat):Int))],[(0,.vs [.int .i64 a,.sl 1 1 1 0 b c,.sl 2 1 1 0 d e,.int .i64 f,.int .i64 g,.sl 3 1 1 0 h i,.flt false j,.sl 4 1 1 0 k l,.sl 5 1 1 0 m n]),(1,.fl o),(2,.fl v),(3,.fl x),(4,.ns .i64 p),(5,.ns .i64 q)],6⟩
def te(a:Int)(f:Nat)(i:Nat)(d:Int)(e:Int)(g:Nat)(h:Nat)(b:Nat)(c:List Nat) :T (((List Nat))⊕(((List Nat))⊕(aE))) :=
  .ask (decide (((b:Nat):Int)<a))
    (.need (fI .i64 (((b:Nat):Int)*a))<|.need (Ay ((f:Nat):Int) i)<|.need (Ay (((b:Nat):Int)*a) f)<|.need (gg d (f-(Int.toNat (((b:Nat):Int)*a))))<|.need (fo (cw (Int.toNat (((b:Nat):Int)*a)) (Int.toNat d)) (List.length c))<|.need (gg e (f-(Int.toNat (((b:Nat):Int)*a))))<|.need (fo (cw (Int.toNat (((b:Nat):Int)*a)) (Int.toNat e)) (List.length c))<|.need (gg d (f-(Int.toNat (((b:Nat):Int)*a))))<|.need (fo (cw (Int.toNat (((b:Nat):Int)*a)) (Int.toNat d)) (List.length c))<|.need (gg e (f-(Int.toNat (((b:Nat):Int)*a))))<|.need (fo (cw (Int.toNat (((b:Nat):Int)*a)) (Int.toNat e)) (List.length (List.set c (cw (Int.toNat (((b:Nat):Int)*a)) (Int.toNat d)) (oN (cY g (List.getD c (cw (Int.toNat (((b:Nat):Int)*a)) (Int.toNat d)) 0)) (cY h (List.getD c (cw (Int.toNat (((b:Nat):Int)*a)) (Int.toNat e)) 0))))))<|.leaf (.inl (List.set (List.set c (cw (Int.toNat (((b:Nat):Int)*a)) (Int.toNat d)) (oN (cY g (List.getD c (cw (Int.toNat (((b:Nat):Int)*a)) (Int.toNat d)) 0)) (cY h (List.getD c (cw (Int.toNat (((b:Nat):Int)*a)) (Int.toNat e)) 0)))) (cw (Int.toNat (((b:Nat):Int)*a)) (Int.toNat e)) (vC (cY h (List.getD c (cw (Int.toNat (((b:Nat):Int)*a)) (Int.toNat d)) 0)) (cY g (List.getD c (cw (Int.toNat (((b:Nat):Int)*a)) (Int.toNat e)) 0))))))
    (.leaf (.inr (.inl c)))
def tf(a:Nat)(b:List Nat) :T ((Nat×(List Nat))⊕(((List Nat))⊕(aE))) :=
  .need (fI .i64 (((a+1):Nat):Int))<|.leaf (.inl ((a+1),b))
def jL(b:Int)(c:Nat)(d:Nat)(e:Int)(f:Int)(g:Nat)(h:Nat) :Nat×(List Nat)→Option ((Nat×(List Nat))⊕(((List Nat))⊕(aE))):=fun (a,i) =>
  bd ((te b c d e f g h a i).run) fun j =>
  (tf a j).run
theorem AJ(a:Int)(d:Nat)(e:Nat)(f:Nat)(g:Nat)(h:Int)(i:Int)(b:Nat)(c:Nat)(j:Nat)(k:Nat)(l:Nat)(m:Nat)(n:Nat)(o:List Nat)(y:List Nat)(z:List Nat)(p:List Int)(q:List Int)(r:Int)(s:Int)(t:Nat)(u:Nat)(v:List Nat)(w:Nat)(x:List Nat) :Sg prog [.vs [.int .i64 a,.sl 1 1 1 0 d e,.sl 2 1 1 0 f g,.int .i64 h,.int .i64 i,.sl 3 1 1 0 b c,.flt false j,.sl 4 1 1 0 k l,.sl 5 1 1 0 m n],.fl o,.fl y,.fl z,.ns .i64 p,.ns .i64 q] AI (ku a d e f g h i b c j k l m n o p q r s t u v (w,x)) (jL a b c r s t u (w,x)) (ku a d e f g h i b c j k l m n o p q r s t u v) (co 0 (un a d e f g h i b c j k l m n o p q r s t u v) lf):=by
  unfold jL;exact Sg.cut 3 (az iR) (cF fq (BU a d e f g h i b c j k l m n o p q r s t u v w) [⟨[],[0,1,2,3,4,5],[0,1,2,10,11,90,91]⟩,⟨[],[0,1,2,3,4,5],[0,1,2,10,11]⟩]) (fun A=>cF fq (ku a d e f g h i b c j k l m n o p q r s t u v) [⟨[],[0,1,2,3,4,5],[0,1,2,10,11,90,91]⟩])
def tg(g:Int)(f:Nat)(h:Nat)(i:Nat)(j:Nat)(k:Int)(l:Int)(m:Nat)(n:Nat)(o:Nat)(p:Nat)(q:Nat)(r:Nat)(s:Nat)(a:List Nat)(t:List Int)(u:List Int)(b:Int)(c:Int)(d:Nat)(e:Nat)(v:List Nat)(w:List Nat) :T ((Empty)⊕(aE)) :=
  .need (gg b f)<|.need (fo (Int.toNat b) (List.length a))<|.need (gg c f)<|.need (fo (Int.toNat c) (List.length a))<|.need (gg b f)<|.need (fo (Int.toNat b) (List.length a))<|.need (gg c f)<|.need (fo (Int.toNat c) (List.length (List.set a (Int.toNat b) (vC (cY (List.getD a (Int.toNat b) 0) (cY d d)) (cY (List.getD a (Int.toNat c) 0) (cY e e))))))<|.leaf (.inr (.r0 true g f h i j k l m n o p q r s (List.set (List.set a (Int.toNat b) (vC (cY (List.getD a (Int.toNat b) 0) (cY d d)) (cY (List.getD a (Int.toNat c) 0) (cY e e)))) (Int.toNat c) (vC (cY (List.getD a (Int.toNat b) 0) (cY e e)) (cY (List.getD a (Int.toNat c) 0) (cY d d)))) v w t u))
def aS(c:Int)(g:Nat)(h:Nat)(d:Nat)(i:Nat)(j:Int)(k:Int)(e:Nat)(f:Nat)(l:Nat)(m:Nat)(n:Nat)(o:Nat)(p:Nat)(q:List Nat)(r:List Nat)(s:List Nat)(t:List Int)(u:List Int)(a:Int)(b:Int)(x:Nat) :Option aE:=toX (bd ((tc d r a b).run) fun y =>
  bd ((td c g h d i j k e f l m n o p q r s t u a b x y).run) fun (v,w,z) =>
  bd (cu (jL c e f a b v w) (0,s)) fun A =>
  (tg c g h d i j k e f l m n o p q t u a b v w z A).run)
theorem BV(a:Int)(b:Nat)(c:Nat)(d:Nat)(e:Nat)(f:Int)(g:Int)(i:Nat)(j:Nat)(k:Nat)(l:Nat)(m:Nat)(n:Nat)(o:Nat)(p:List Nat)(v:List Nat)(u:List Nat)(q:List Int)(r:List Int)(s:Int)(t:Int)(w:Nat){x:aE}(h:aS a b c d e f g i j k l m n o p v u q r s t w=some x) :aH prog kZ [.vs [.int .i64 a,.sl 1 1 1 0 b c,.sl 2 1 1 0 d e,.int .i64 f,.int .i64 g,.sl 3 1 1 0 i j,.flt false k,.sl 4 1 1 0 l m,.sl 5 1 1 0 n o],.fl p,.fl v,.fl u,.ns .i64 q,.ns .i64 r] [.ptr 0 1 0 0,.int .i64 s,.int .i64 t,.flt false w] (qp x) :=
  GS false qp lf h (Sg.cut 2 iR (cF fq (BS a b c d e f g i j k l m n o p v u q r s t w) [⟨[],[0,1,2,3,4,5],[0,1,2,3,9]⟩,⟨[],[0,1,2,3,4,5],[0,1,2,3,9]⟩,⟨[],[0,1,2,3,4,5],[0,1,2,3,9]⟩,⟨[],[0,1,2,3,4,5],[0,1,2,3,9]⟩]) (fun E=>Sg.cut 5 iR (cF fq (BT a b c d e f g i j k l m n o p u q r s t) [⟨[],[0,1,2,3,4,5],[8]⟩,⟨[],[0,1,2,3,4,5],[0,1,2,10,11,90,91]⟩]) (fun ⟨y,z,A⟩=>Sg.cut 1 iR (yE ⟨[],[0,1,2,3,4,5],[0,1,2,10,11,90,91]⟩ (ku a b c d e f g i j k l m n o p q r s t y z A) (un a b c d e f g i j k l m n o p q r s t y z A) 0 iR (BP _) (fun ⟨B,C⟩=>AJ a b c d e f g i j k l m n o p v u q r s t y z A B C)) (fun F=>cF fq Gd [⟨[],[0,1,2,3,4,5],[8]⟩]))))
    (fun x=>by cases x with | r0 D G H I J K L M N O P Q R S T U V W X Y=>exact EI [.bool false D])
def kw:Option aE→Bool
  | some _=>true
  | none=>false
def nN:Option aE→Bool
  | some (.r0 x _ _ _ _ _ _ _ _ _ _ _ _ _ _ _ _ _ _ _)=>x
  | _=>false
def nO:Option aE→Int
  | some (.r0 _ x _ _ _ _ _ _ _ _ _ _ _ _ _ _ _ _ _ _)=>x
  | _=>0
def nP:Option aE→Nat
  | some (.r0 _ _ x _ _ _ _ _ _ _ _ _ _ _ _ _ _ _ _ _)=>x
  | _=>0
def nQ:Option aE→Nat
  | some (.r0 _ _ _ x _ _ _ _ _ _ _ _ _ _ _ _ _ _ _ _)=>x
  | _=>0
def nR:Option aE→Nat
  | some (.r0 _ _ _ _ x _ _ _ _ _ _ _ _ _ _ _ _ _ _ _)=>x
  | _=>0
def nS:Option aE→Nat
  | some (.r0 _ _ _ _ _ x _ _ _ _ _ _ _ _ _ _ _ _ _ _)=>x
  | _=>0
def nT:Option aE→Int
  | some (.r0 _ _ _ _ _ _ x _ _ _ _ _ _ _ _ _ _ _ _ _)=>x
  | _=>0
def nU:Option aE→Int
  | some (.r0 _ _ _ _ _ _ _ x _ _ _ _ _ _ _ _ _ _ _ _)=>x
  | _=>0
def nV:Option aE→Nat
  | some (.r0 _ _ _ _ _ _ _ _ x _ _ _ _ _ _ _ _ _ _ _)=>x
  | _=>0
def nW:Option aE→Nat
  | some (.r0 _ _ _ _ _ _ _ _ _ x _ _ _ _ _ _ _ _ _ _)=>x
  | _=>0
def mw:Option aE→Nat
  | some (.r0 _ _ _ _ _ _ _ _ _ _ x _ _ _ _ _ _ _ _ _)=>x
  | _=>0
def my:Option aE→Nat
  | some (.r0 _ _ _ _ _ _ _ _ _ _ _ x _ _ _ _ _ _ _ _)=>x
  | _=>0
def mz:Option aE→Nat
  | some (.r0 _ _ _ _ _ _ _ _ _ _ _ _ x _ _ _ _ _ _ _)=>x
  | _=>0
def mA:Option aE→Nat
  | some (.r0 _ _ _ _ _ _ _ _ _ _ _ _ _ x _ _ _ _ _ _)=>x
  | _=>0
def mB:Option aE→Nat
  | some (.r0 _ _ _ _ _ _ _ _ _ _ _ _ _ _ x _ _ _ _ _)=>x
  | _=>0
def mC:Option aE→List Nat
  | some (.r0 _ _ _ _ _ _ _ _ _ _ _ _ _ _ _ x _ _ _ _)=>x
  | _=>[]
def mD:Option aE→List Nat
  | some (.r0 _ _ _ _ _ _ _ _ _ _ _ _ _ _ _ _ x _ _ _)=>x
  | _=>[]
def mE:Option aE→List Nat
  | some (.r0 _ _ _ _ _ _ _ _ _ _ _ _ _ _ _ _ _ x _ _)=>x
  | _=>[]
def mF:Option aE→List Int
  | some (.r0 _ _ _ _ _ _ _ _ _ _ _ _ _ _ _ _ _ _ x _)=>x
  | _=>[]
def mG:Option aE→List Int
  | some (.r0 _ _ _ _ _ _ _ _ _ _ _ _ _ _ _ _ _ _ _ x)=>x
  | _=>[]
theorem BW{x:Option aE}(h:kw x=true) :x=some (.r0 (nN x) (nO x) (nP x) (nQ x) (nR x) (nS x) (nT x) (nU x) (nV x) (nW x) (mw x) (my x) (mz x) (mA x) (mB x) (mC x) (mD x) (mE x) (mF x) (mG x)):=by
  unfold kw at h
  split at h<;>first | rfl | (cases h;done) | (rename_i y;cases y;rfl)
def vr:bC:=yZ kZ [.vs [.int .i64,.lsl0 1,.lsl0 2,.int .i64,.int .i64,.lsl0 3,.flt,.lsl0 4,.lsl0 5],.fl,.fl,.fl,.ns .i64,.ns .i64] (.cons (.lptr 0 1 0 0) (.cons (.int .i64) (.cons (.int .i64) (.cons (.flt false) .nil)))) fun x t=>(fun q=>[⟨qp (.r0 (nN q) (nO q) (nP q) (nQ q) (nR q) (nS q) (nT q) (nU q) (nV q) (nW q) (mw q) (my q) (mz q) (mA q) (mB q) (mC q) (mD q) (mE q) (mF q) (mG q)),[kw q]⟩]) (aS x.1.1 x.1.2.1.1 x.1.2.1.2 x.1.2.2.1.1 x.1.2.2.1.2 x.1.2.2.2.1 x.1.2.2.2.2.1 x.1.2.2.2.2.2.1.1 x.1.2.2.2.2.2.1.2 x.1.2.2.2.2.2.2.1 x.1.2.2.2.2.2.2.2.1.1 x.1.2.2.2.2.2.2.2.1.2 x.1.2.2.2.2.2.2.2.2.1.1 x.1.2.2.2.2.2.2.2.2.1.2 x.2.1 x.2.2.1 x.2.2.2.1 x.2.2.2.2.1 x.2.2.2.2.2.1 t.2.1 t.2.2.1 t.2.2.2.1)
theorem An:bZ prog vr:=pE fun x t=>(jZ (fun h=>BV x.1.1 x.1.2.1.1 x.1.2.1.2 x.1.2.2.1.1 x.1.2.2.1.2 x.1.2.2.2.1 x.1.2.2.2.2.1 x.1.2.2.2.2.2.1.1 x.1.2.2.2.2.2.1.2 x.1.2.2.2.2.2.2.1 x.1.2.2.2.2.2.2.2.1.1 x.1.2.2.2.2.2.2.2.1.2 x.1.2.2.2.2.2.2.2.2.1.1 x.1.2.2.2.2.2.2.2.2.1.2 x.2.1 x.2.2.1 x.2.2.2.1 x.2.2.2.2.1 x.2.2.2.2.2.1 t.2.1 t.2.2.1 t.2.2.2.1 (BW h)) pF)
def vt:List bC:=vr::um
theorem nX:cQ prog (cX vt):=aY An fq
inductive i8 where
  | r0 (a:Int)
def DZ:i8→AE×aW
  | .r0 a=>(.ret,⟨ax 8 [(2,.int .i64 a)],[],0⟩)
theorem JD:xN DZ:=by intro x;cases x<;>(intro h;cases h)
def yO:i8→rF
  | .r0 a=>⟨.int .i64 a,[]⟩
def JE(a:Int) :aW:=⟨ax 8 [(2,.int .i64 a)],[],0⟩
def JF(a:Int) :T ((Int)⊕(i8)) :=
  .ask (decide (a≥(4294967296:Int)))
    (.need (decide ((0:Int)≤(32:Int)))<|.ask (decide ((Int.fdiv a (2^(min (Int.toNat (32:Int)) (IntKind.u64.bits))))≥(65536:Int)))
      (.need (decide ((0:Int)≤(16:Int)))<|.need (fI .i64 (48:Int))<|.ask (decide ((Int.fdiv (Int.fdiv a (2^(min (Int.toNat (32:Int)) (IntKind.u64.bits)))) (2^(min (Int.toNat (16:Int)) (IntKind.u64.bits))))≥(256:Int)))
        (.need (decide ((0:Int)≤(8:Int)))<|.need (fI .i64 (56:Int))<|.need (gg (IntKind.u8.wrap (Int.fdiv (Int.fdiv (Int.fdiv a (2^(min (Int.toNat (32:Int)) (IntKind.u64.bits)))) (2^(min (Int.toNat (16:Int)) (IntKind.u64.bits)))) (2^(min (Int.toNat (8:Int)) (IntKind.u64.bits))))) (ByteArray.mk #[0,1,2,2,3,3,3,3,4,4,4,4,4,4,4,4,5,5,5,5,5,5,5,5,5,5,5,5,5,5,5,5,6,6,6,6,6,6,6,6,6,6,6,6,6,6,6,6,6,6,6,6,6,6,6,6,6,6,6,6,6,6,6,6,7,7,7,7,7,7,7,7,7,7,7,7,7,7,7,7,7,7,7,7,7,7,7,7,7,7,7,7,7,7,7,7,7,7,7,7,7,7,7,7,7,7,7,7,7,7,7,7,7,7,7,7,7,7,7,7,7,7,7,7,7,7,7,7,8,8,8,8,8,8,8,8,8,8,8,8,8,8,8,8,8,8,8,8,8,8,8,8,8,8,8,8,8,8,8,8,8,8,8,8,8,8,8,8,8,8,8,8,8,8,8,8,8,8,8,8,8,8,8,8,8,8,8,8,8,8,8,8,8,8,8,8,8,8,8,8,8,8,8,8,8,8,8,8,8,8,8,8,8,8,8,8,8,8,8,8,8,8,8,8,8,8,8,8,8,8,8,8,8,8,8,8,8,8,8,8,8,8,8,8,8,8,8,8,8,8,8,8,8,8,8,8]).size)<|.need (fI .i64 ((56:Int)+(IntKind.i64.wrap (qA (ByteArray.mk #[0,1,2,2,3,3,3,3,4,4,4,4,4,4,4,4,5,5,5,5,5,5,5,5,5,5,5,5,5,5,5,5,6,6,6,6,6,6,6,6,6,6,6,6,6,6,6,6,6,6,6,6,6,6,6,6,6,6,6,6,6,6,6,6,7,7,7,7,7,7,7,7,7,7,7,7,7,7,7,7,7,7,7,7,7,7,7,7,7,7,7,7,7,7,7,7,7,7,7,7,7,7,7,7,7,7,7,7,7,7,7,7,7,7,7,7,7,7,7,7,7,7,7,7,7,7,7,7,8,8,8,8,8,8,8,8,8,8,8,8,8,8,8,8,8,8,8,8,8,8,8,8,8,8,8,8,8,8,8,8,8,8,8,8,8,8,8,8,8,8,8,8,8,8,8,8,8,8,8,8,8,8,8,8,8,8,8,8,8,8,8,8,8,8,8,8,8,8,8,8,8,8,8,8,8,8,8,8,8,8,8,8,8,8,8,8,8,8,8,8,8,8,8,8,8,8,8,8,8,8,8,8,8,8,8,8,8,8,8,8,8,8,8,8,8,8,8,8,8,8,8,8,8,8,8,8]) (Int.toNat (IntKind.u8.wrap (Int.fdiv (Int.fdiv (Int.fdiv a (2^(min (Int.toNat (32:Int)) (IntKind.u64.bits)))) (2^(min (Int.toNat (16:Int)) (IntKind.u64.bits)))) (2^(min (Int.toNat (8:Int)) (IntKind.u64.bits))))))))))<|.leaf (.inl ((56:Int)+(IntKind.i64.wrap (qA (ByteArray.mk #[0,1,2,2,3,3,3,3,4,4,4,4,4,4,4,4,5,5,5,5,5,5,5,5,5,5,5,5,5,5,5,5,6,6,6,6,6,6,6,6,6,6,6,6,6,6,6,6,6,6,6,6,6,6,6,6,6,6,6,6,6,6,6,6,7,7,7,7,7,7,7,7,7,7,7,7,7,7,7,7,7,7,7,7,7,7,7,7,7,7,7,7,7,7,7,7,7,7,7,7,7,7,7,7,7,7,7,7,7,7,7,7,7,7,7,7,7,7,7,7,7,7,7,7,7,7,7,7,8,8,8,8,8,8,8,8,8,8,8,8,8,8,8,8,8,8,8,8,8,8,8,8,8,8,8,8,8,8,8,8,8,8,8,8,8,8,8,8,8,8,8,8,8,8,8,8,8,8,8,8,8,8,8,8,8,8,8,8,8,8,8,8,8,8,8,8,8,8,8,8,8,8,8,8,8,8,8,8,8,8,8,8,8,8,8,8,8,8,8,8,8,8,8,8,8,8,8,8,8,8,8,8,8,8,8,8,8,8,8,8,8,8,8,8,8,8,8,8,8,8,8,8,8,8,8,8]) (Int.toNat (IntKind.u8.wrap (Int.fdiv (Int.fdiv (Int.fdiv a (2^(min (Int.toNat (32:Int)) (IntKind.u64.bits)))) (2^(min (Int.toNat (16:Int)) (IntKind.u64.bits)))) (2^(min (Int.toNat (8:Int)) (IntKind.u64.bits)))))))))))
        (.need (gg (IntKind.u8.wrap (Int.fdiv (Int.fdiv a (2^(min (Int.toNat (32:Int)) (IntKind.u64.bits)))) (2^(min (Int.toNat (16:Int)) (IntKind.u64.bits))))) (ByteArray.mk #[0,1,2,2,3,3,3,3,4,4,4,4,4,4,4,4,5,5,5,5,5,5,5,5,5,5,5,5,5,5,5,5,6,6,6,6,6,6,6,6,6,6,6,6,6,6,6,6,6,6,6,6,6,6,6,6,6,6,6,6,6,6,6,6,7,7,7,7,7,7,7,7,7,7,7,7,7,7,7,7,7,7,7,7,7,7,7,7,7,7,7,7,7,7,7,7,7,7,7,7,7,7,7,7,7,7,7,7,7,7,7,7,7,7,7,7,7,7,7,7,7,7,7,7,7,7,7,7,8,8,8,8,8,8,8,8,8,8,8,8,8,8,8,8,8,8,8,8,8,8,8,8,8,8,8,8,8,8,8,8,8,8,8,8,8,8,8,8,8,8,8,8,8,8,8,8,8,8,8,8,8,8,8,8,8,8,8,8,8,8,8,8,8,8,8,8,8,8,8,8,8,8,8,8,8,8,8,8,8,8,8,8,8,8,8,8,8,8,8,8,8,8,8,8,8,8,8,8,8,8,8,8,8,8,8,8,8,8,8,8,8,8,8,8,8,8,8,8,8,8,8,8,8,8,8,8]).size)<|.need (fI .i64 ((48:Int)+(IntKind.i64.wrap (qA (ByteArray.mk #[0,1,2,2,3,3,3,3,4,4,4,4,4,4,4,4,5,5,5,5,5,5,5,5,5,5,5,5,5,5,5,5,6,6,6,6,6,6,6,6,6,6,6,6,6,6,6,6,6,6,6,6,6,6,6,6,6,6,6,6,6,6,6,6,7,7,7,7,7,7,7,7,7,7,7,7,7,7,7,7,7,7,7,7,7,7,7,7,7,7,7,7,7,7,7,7,7,7,7,7,7,7,7,7,7,7,7,7,7,7,7,7,7,7,7,7,7,7,7,7,7,7,7,7,7,7,7,7,8,8,8,8,8,8,8,8,8,8,8,8,8,8,8,8,8,8,8,8,8,8,8,8,8,8,8,8,8,8,8,8,8,8,8,8,8,8,8,8,8,8,8,8,8,8,8,8,8,8,8,8,8,8,8,8,8,8,8,8,8,8,8,8,8,8,8,8,8,8,8,8,8,8,8,8,8,8,8,8,8,8,8,8,8,8,8,8,8,8,8,8,8,8,8,8,8,8,8,8,8,8,8,8,8,8,8,8,8,8,8,8,8,8,8,8,8,8,8,8,8,8,8,8,8,8,8,8]) (Int.toNat (IntKind.u8.wrap (Int.fdiv (Int.fdiv a (2^(min (Int.toNat (32:Int)) (IntKind.u64.bits)))) (2^(min (Int.toNat (16:Int)) (IntKind.u64.bits))))))))))<|.leaf (.inl ((48:Int)+(IntKind.i64.wrap (qA (ByteArray.mk #[0,1,2,2,3,3,3,3,4,4,4,4,4,4,4,4,5,5,5,5,5,5,5,5,5,5,5,5,5,5,5,5,6,6,6,6,6,6,6,6,6,6,6,6,6,6,6,6,6,6,6,6,6,6,6,6,6,6,6,6,6,6,6,6,7,7,7,7,7,7,7,7,7,7,7,7,7,7,7,7,7,7,7,7,7,7,7,7,7,7,7,7,7,7,7,7,7,7,7,7,7,7,7,7,7,7,7,7,7,7,7,7,7,7,7,7,7,7,7,7,7,7,7,7,7,7,7,7,8,8,8,8,8,8,8,8,8,8,8,8,8,8,8,8,8,8,8,8,8,8,8,8,8,8,8,8,8,8,8,8,8,8,8,8,8,8,8,8,8,8,8,8,8,8,8,8,8,8,8,8,8,8,8,8,8,8,8,8,8,8,8,8,8,8,8,8,8,8,8,8,8,8,8,8,8,8,8,8,8,8,8,8,8,8,8,8,8,8,8,8,8,8,8,8,8,8,8,8,8,8,8,8,8,8,8,8,8,8,8,8,8,8,8,8,8,8,8,8,8,8,8,8,8,8,8,8]) (Int.toNat (IntKind.u8.wrap (Int.fdiv (Int.fdiv a (2^(min (Int.toNat (32:Int)) (IntKind.u64.bits)))) (2^(min (Int.toNat (16:Int)) (IntKind.u64.bits))))))))))))
      (.ask (decide ((Int.fdiv a (2^(min (Int.toNat (32:Int)) (IntKind.u64.bits))))≥(256:Int)))
        (.need (decide ((0:Int)≤(8:Int)))<|.need (fI .i64 (40:Int))<|.need (gg (IntKind.u8.wrap (Int.fdiv (Int.fdiv a (2^(min (Int.toNat (32:Int)) (IntKind.u64.bits)))) (2^(min (Int.toNat (8:Int)) (IntKind.u64.bits))))) (ByteArray.mk #[0,1,2,2,3,3,3,3,4,4,4,4,4,4,4,4,5,5,5,5,5,5,5,5,5,5,5,5,5,5,5,5,6,6,6,6,6,6,6,6,6,6,6,6,6,6,6,6,6,6,6,6,6,6,6,6,6,6,6,6,6,6,6,6,7,7,7,7,7,7,7,7,7,7,7,7,7,7,7,7,7,7,7,7,7,7,7,7,7,7,7,7,7,7,7,7,7,7,7,7,7,7,7,7,7,7,7,7,7,7,7,7,7,7,7,7,7,7,7,7,7,7,7,7,7,7,7,7,8,8,8,8,8,8,8,8,8,8,8,8,8,8,8,8,8,8,8,8,8,8,8,8,8,8,8,8,8,8,8,8,8,8,8,8,8,8,8,8,8,8,8,8,8,8,8,8,8,8,8,8,8,8,8,8,8,8,8,8,8,8,8,8,8,8,8,8,8,8,8,8,8,8,8,8,8,8,8,8,8,8,8,8,8,8,8,8,8,8,8,8,8,8,8,8,8,8,8,8,8,8,8,8,8,8,8,8,8,8,8,8,8,8,8,8,8,8,8,8,8,8,8,8,8,8,8,8]).size)<|.need (fI .i64 ((40:Int)+(IntKind.i64.wrap (qA (ByteArray.mk #[0,1,2,2,3,3,3,3,4,4,4,4,4,4,4,4,5,5,5,5,5,5,5,5,5,5,5,5,5,5,5,5,6,6,6,6,6,6,6,6,6,6,6,6,6,6,6,6,6,6,6,6,6,6,6,6,6,6,6,6,6,6,6,6,7,7,7,7,7,7,7,7,7,7,7,7,7,7,7,7,7,7,7,7,7,7,7,7,7,7,7,7,7,7,7,7,7,7,7,7,7,7,7,7,7,7,7,7,7,7,7,7,7,7,7,7,7,7,7,7,7,7,7,7,7,7,7,7,8,8,8,8,8,8,8,8,8,8,8,8,8,8,8,8,8,8,8,8,8,8,8,8,8,8,8,8,8,8,8,8,8,8,8,8,8,8,8,8,8,8,8,8,8,8,8,8,8,8,8,8,8,8,8,8,8,8,8,8,8,8,8,8,8,8,8,8,8,8,8,8,8,8,8,8,8,8,8,8,8,8,8,8,8,8,8,8,8,8,8,8,8,8,8,8,8,8,8,8,8,8,8,8,8,8,8,8,8,8,8,8,8,8,8,8,8,8,8,8,8,8,8,8,8,8,8,8]) (Int.toNat (IntKind.u8.wrap (Int.fdiv (Int.fdiv a (2^(min (Int.toNat (32:Int)) (IntKind.u64.bits)))) (2^(min (Int.toNat (8:Int)) (IntKind.u64.bits))))))))))<|.leaf (.inl ((40:Int)+(IntKind.i64.wrap (qA (ByteArray.mk #[0,1,2,2,3,3,3,3,4,4,4,4,4,4,4,4,5,5,5,5,5,5,5,5,5,5,5,5,5,5,5,5,6,6,6,6,6,6,6,6,6,6,6,6,6,6,6,6,6,6,6,6,6,6,6,6,6,6,6,6,6,6,6,6,7,7,7,7,7,7,7,7,7,7,7,7,7,7,7,7,7,7,7,7,7,7,7,7,7,7,7,7,7,7,7,7,7,7,7,7,7,7,7,7,7,7,7,7,7,7,7,7,7,7,7,7,7,7,7,7,7,7,7,7,7,7,7,7,8,8,8,8,8,8,8,8,8,8,8,8,8,8,8,8,8,8,8,8,8,8,8,8,8,8,8,8,8,8,8,8,8,8,8,8,8,8,8,8,8,8,8,8,8,8,8,8,8,8,8,8,8,8,8,8,8,8,8,8,8,8,8,8,8,8,8,8,8,8,8,8,8,8,8,8,8,8,8,8,8,8,8,8,8,8,8,8,8,8,8,8,8,8,8,8,8,8,8,8,8,8,8,8,8,8,8,8,8,8,8,8,8,8,8,8,8,8,8,8,8,8,8,8,8,8,8,8]) (Int.toNat (IntKind.u8.wrap (Int.fdiv (Int.fdiv a (2^(min (Int.toNat (32:Int)) (IntKind.u64.bits)))) (2^(min (Int.toNat (8:Int)) (IntKind.u64.bits)))))))))))
        (.need (gg (IntKind.u8.wrap (Int.fdiv a (2^(min (Int.toNat (32:Int)) (IntKind.u64.bits))))) (ByteArray.mk #[0,1,2,2,3,3,3,3,4,4,4,4,4,4,4,4,5,5,5,5,5,5,5,5,5,5,5,5,5,5,5,5,6,6,6,6,6,6,6,6,6,6,6,6,6,6,6,6,6,6,6,6,6,6,6,6,6,6,6,6,6,6,6,6,7,7,7,7,7,7,7,7,7,7,7,7,7,7,7,7,7,7,7,7,7,7,7,7,7,7,7,7,7,7,7,7,7,7,7,7,7,7,7,7,7,7,7,7,7,7,7,7,7,7,7,7,7,7,7,7,7,7,7,7,7,7,7,7,8,8,8,8,8,8,8,8,8,8,8,8,8,8,8,8,8,8,8,8,8,8,8,8,8,8,8,8,8,8,8,8,8,8,8,8,8,8,8,8,8,8,8,8,8,8,8,8,8,8,8,8,8,8,8,8,8,8,8,8,8,8,8,8,8,8,8,8,8,8,8,8,8,8,8,8,8,8,8,8,8,8,8,8,8,8,8,8,8,8,8,8,8,8,8,8,8,8,8,8,8,8,8,8,8,8,8,8,8,8,8,8,8,8,8,8,8,8,8,8,8,8,8,8,8,8,8,8]).size)<|.need (fI .i64 ((32:Int)+(IntKind.i64.wrap (qA (ByteArray.mk #[0,1,2,2,3,3,3,3,4,4,4,4,4,4,4,4,5,5,5,5,5,5,5,5,5,5,5,5,5,5,5,5,6,6,6,6,6,6,6,6,6,6,6,6,6,6,6,6,6,6,6,6,6,6,6,6,6,6,6,6,6,6,6,6,7,7,7,7,7,7,7,7,7,7,7,7,7,7,7,7,7,7,7,7,7,7,7,7,7,7,7,7,7,7,7,7,7,7,7,7,7,7,7,7,7,7,7,7,7,7,7,7,7,7,7,7,7,7,7,7,7,7,7,7,7,7,7,7,8,8,8,8,8,8,8,8,8,8,8,8,8,8,8,8,8,8,8,8,8,8,8,8,8,8,8,8,8,8,8,8,8,8,8,8,8,8,8,8,8,8,8,8,8,8,8,8,8,8,8,8,8,8,8,8,8,8,8,8,8,8,8,8,8,8,8,8,8,8,8,8,8,8,8,8,8,8,8,8,8,8,8,8,8,8,8,8,8,8,8,8,8,8,8,8,8,8,8,8,8,8,8,8,8,8,8,8,8,8,8,8,8,8,8,8,8,8,8,8,8,8,8,8,8,8,8,8]) (Int.toNat (IntKind.u8.wrap (Int.fdiv a (2^(min (Int.toNat (32:Int)) (IntKind.u64.bits))))))))))<|.leaf (.inl ((32:Int)+(IntKind.i64.wrap (qA (ByteArray.mk #[0,1,2,2,3,3,3,3,4,4,4,4,4,4,4,4,5,5,5,5,5,5,5,5,5,5,5,5,5,5,5,5,6,6,6,6,6,6,6,6,6,6,6,6,6,6,6,6,6,6,6,6,6,6,6,6,6,6,6,6,6,6,6,6,7,7,7,7,7,7,7,7,7,7,7,7,7,7,7,7,7,7,7,7,7,7,7,7,7,7,7,7,7,7,7,7,7,7,7,7,7,7,7,7,7,7,7,7,7,7,7,7,7,7,7,7,7,7,7,7,7,7,7,7,7,7,7,7,8,8,8,8,8,8,8,8,8,8,8,8,8,8,8,8,8,8,8,8,8,8,8,8,8,8,8,8,8,8,8,8,8,8,8,8,8,8,8,8,8,8,8,8,8,8,8,8,8,8,8,8,8,8,8,8,8,8,8,8,8,8,8,8,8,8,8,8,8,8,8,8,8,8,8,8,8,8,8,8,8,8,8,8,8,8,8,8,8,8,8,8,8,8,8,8,8,8,8,8,8,8,8,8,8,8,8,8,8,8,8,8,8,8,8,8,8,8,8,8,8,8,8,8,8,8,8,8]) (Int.toNat (IntKind.u8.wrap (Int.fdiv a (2^(min (Int.toNat (32:Int)) (IntKind.u64.bits)))))))))))))
    (.ask (decide (a≥(65536:Int)))
      (.need (decide ((0:Int)≤(16:Int)))<|.need (fI .i64 (16:Int))<|.ask (decide ((Int.fdiv a (2^(min (Int.toNat (16:Int)) (IntKind.u64.bits))))≥(256:Int)))
        (.need (decide ((0:Int)≤(8:Int)))<|.need (fI .i64 (24:Int))<|.need (gg (IntKind.u8.wrap (Int.fdiv (Int.fdiv a (2^(min (Int.toNat (16:Int)) (IntKind.u64.bits)))) (2^(min (Int.toNat (8:Int)) (IntKind.u64.bits))))) (ByteArray.mk #[0,1,2,2,3,3,3,3,4,4,4,4,4,4,4,4,5,5,5,5,5,5,5,5,5,5,5,5,5,5,5,5,6,6,6,6,6,6,6,6,6,6,6,6,6,6,6,6,6,6,6,6,6,6,6,6,6,6,6,6,6,6,6,6,7,7,7,7,7,7,7,7,7,7,7,7,7,7,7,7,7,7,7,7,7,7,7,7,7,7,7,7,7,7,7,7,7,7,7,7,7,7,7,7,7,7,7,7,7,7,7,7,7,7,7,7,7,7,7,7,7,7,7,7,7,7,7,7,8,8,8,8,8,8,8,8,8,8,8,8,8,8,8,8,8,8,8,8,8,8,8,8,8,8,8,8,8,8,8,8,8,8,8,8,8,8,8,8,8,8,8,8,8,8,8,8,8,8,8,8,8,8,8,8,8,8,8,8,8,8,8,8,8,8,8,8,8,8,8,8,8,8,8,8,8,8,8,8,8,8,8,8,8,8,8,8,8,8,8,8,8,8,8,8,8,8,8,8,8,8,8,8,8,8,8,8,8,8,8,8,8,8,8,8,8,8,8,8,8,8,8,8,8,8,8,8]).size)<|.need (fI .i64 ((24:Int)+(IntKind.i64.wrap (qA (ByteArray.mk #[0,1,2,2,3,3,3,3,4,4,4,4,4,4,4,4,5,5,5,5,5,5,5,5,5,5,5,5,5,5,5,5,6,6,6,6,6,6,6,6,6,6,6,6,6,6,6,6,6,6,6,6,6,6,6,6,6,6,6,6,6,6,6,6,7,7,7,7,7,7,7,7,7,7,7,7,7,7,7,7,7,7,7,7,7,7,7,7,7,7,7,7,7,7,7,7,7,7,7,7,7,7,7,7,7,7,7,7,7,7,7,7,7,7,7,7,7,7,7,7,7,7,7,7,7,7,7,7,8,8,8,8,8,8,8,8,8,8,8,8,8,8,8,8,8,8,8,8,8,8,8,8,8,8,8,8,8,8,8,8,8,8,8,8,8,8,8,8,8,8,8,8,8,8,8,8,8,8,8,8,8,8,8,8,8,8,8,8,8,8,8,8,8,8,8,8,8,8,8,8,8,8,8,8,8,8,8,8,8,8,8,8,8,8,8,8,8,8,8,8,8,8,8,8,8,8,8,8,8,8,8,8,8,8,8,8,8,8,8,8,8,8,8,8,8,8,8,8,8,8,8,8,8,8,8,8]) (Int.toNat (IntKind.u8.wrap (Int.fdiv (Int.fdiv a (2^(min (Int.toNat (16:Int)) (IntKind.u64.bits)))) (2^(min (Int.toNat (8:Int)) (IntKind.u64.bits))))))))))<|.leaf (.inl ((24:Int)+(IntKind.i64.wrap (qA (ByteArray.mk #[0,1,2,2,3,3,3,3,4,4,4,4,4,4,4,4,5,5,5,5,5,5,5,5,5,5,5,5,5,5,5,5,6,6,6,6,6,6,6,6,6,6,6,6,6,6,6,6,6,6,6,6,6,6,6,6,6,6,6,6,6,6,6,6,7,7,7,7,7,7,7,7,7,7,7,7,7,7,7,7,7,7,7,7,7,7,7,7,7,7,7,7,7,7,7,7,7,7,7,7,7,7,7,7,7,7,7,7,7,7,7,7,7,7,7,7,7,7,7,7,7,7,7,7,7,7,7,7,8,8,8,8,8,8,8,8,8,8,8,8,8,8,8,8,8,8,8,8,8,8,8,8,8,8,8,8,8,8,8,8,8,8,8,8,8,8,8,8,8,8,8,8,8,8,8,8,8,8,8,8,8,8,8,8,8,8,8,8,8,8,8,8,8,8,8,8,8,8,8,8,8,8,8,8,8,8,8,8,8,8,8,8,8,8,8,8,8,8,8,8,8,8,8,8,8,8,8,8,8,8,8,8,8,8,8,8,8,8,8,8,8,8,8,8,8,8,8,8,8,8,8,8,8,8,8,8]) (Int.toNat (IntKind.u8.wrap (Int.fdiv (Int.fdiv a (2^(min (Int.toNat (16:Int)) (IntKind.u64.bits)))) (2^(min (Int.toNat (8:Int)) (IntKind.u64.bits)))))))))))
        (.need (gg (IntKind.u8.wrap (Int.fdiv a (2^(min (Int.toNat (16:Int)) (IntKind.u64.bits))))) (ByteArray.mk #[0,1,2,2,3,3,3,3,4,4,4,4,4,4,4,4,5,5,5,5,5,5,5,5,5,5,5,5,5,5,5,5,6,6,6,6,6,6,6,6,6,6,6,6,6,6,6,6,6,6,6,6,6,6,6,6,6,6,6,6,6,6,6,6,7,7,7,7,7,7,7,7,7,7,7,7,7,7,7,7,7,7,7,7,7,7,7,7,7,7,7,7,7,7,7,7,7,7,7,7,7,7,7,7,7,7,7,7,7,7,7,7,7,7,7,7,7,7,7,7,7,7,7,7,7,7,7,7,8,8,8,8,8,8,8,8,8,8,8,8,8,8,8,8,8,8,8,8,8,8,8,8,8,8,8,8,8,8,8,8,8,8,8,8,8,8,8,8,8,8,8,8,8,8,8,8,8,8,8,8,8,8,8,8,8,8,8,8,8,8,8,8,8,8,8,8,8,8,8,8,8,8,8,8,8,8,8,8,8,8,8,8,8,8,8,8,8,8,8,8,8,8,8,8,8,8,8,8,8,8,8,8,8,8,8,8,8,8,8,8,8,8,8,8,8,8,8,8,8,8,8,8,8,8,8,8]).size)<|.need (fI .i64 ((16:Int)+(IntKind.i64.wrap (qA (ByteArray.mk #[0,1,2,2,3,3,3,3,4,4,4,4,4,4,4,4,5,5,5,5,5,5,5,5,5,5,5,5,5,5,5,5,6,6,6,6,6,6,6,6,6,6,6,6,6,6,6,6,6,6,6,6,6,6,6,6,6,6,6,6,6,6,6,6,7,7,7,7,7,7,7,7,7,7,7,7,7,7,7,7,7,7,7,7,7,7,7,7,7,7,7,7,7,7,7,7,7,7,7,7,7,7,7,7,7,7,7,7,7,7,7,7,7,7,7,7,7,7,7,7,7,7,7,7,7,7,7,7,8,8,8,8,8,8,8,8,8,8,8,8,8,8,8,8,8,8,8,8,8,8,8,8,8,8,8,8,8,8,8,8,8,8,8,8,8,8,8,8,8,8,8,8,8,8,8,8,8,8,8,8,8,8,8,8,8,8,8,8,8,8,8,8,8,8,8,8,8,8,8,8,8,8,8,8,8,8,8,8,8,8,8,8,8,8,8,8,8,8,8,8,8,8,8,8,8,8,8,8,8,8,8,8,8,8,8,8,8,8,8,8,8,8,8,8,8,8,8,8,8,8,8,8,8,8,8,8]) (Int.toNat (IntKind.u8.wrap (Int.fdiv a (2^(min (Int.toNat (16:Int)) (IntKind.u64.bits))))))))))<|.leaf (.inl ((16:Int)+(IntKind.i64.wrap (qA (ByteArray.mk #[0,1,2,2,3,3,3,3,4,4,4,4,4,4,4,4,5,5,5,5,5,5,5,5,5,5,5,5,5,5,5,5,6,6,6,6,6,6,6,6,6,6,6,6,6,6,6,6,6,6,6,6,6,6,6,6,6,6,6,6,6,6,6,6,7,7,7,7,7,7,7,7,7,7,7,7,7,7,7,7,7,7,7,7,7,7,7,7,7,7,7,7,7,7,7,7,7,7,7,7,7,7,7,7,7,7,7,7,7,7,7,7,7,7,7,7,7,7,7,7,7,7,7,7,7,7,7,7,8,8,8,8,8,8,8,8,8,8,8,8,8,8,8,8,8,8,8,8,8,8,8,8,8,8,8,8,8,8,8,8,8,8,8,8,8,8,8,8,8,8,8,8,8,8,8,8,8,8,8,8,8,8,8,8,8,8,8,8,8,8,8,8,8,8,8,8,8,8,8,8,8,8,8,8,8,8,8,8,8,8,8,8,8,8,8,8,8,8,8,8,8,8,8,8,8,8,8,8,8,8,8,8,8,8,8,8,8,8,8,8,8,8,8,8,8,8,8,8,8,8,8,8,8,8,8,8]) (Int.toNat (IntKind.u8.wrap (Int.fdiv a (2^(min (Int.toNat (16:Int)) (IntKind.u64.bits))))))))))))
      (.ask (decide (a≥(256:Int)))
        (.need (decide ((0:Int)≤(8:Int)))<|.need (fI .i64 (8:Int))<|.need (gg (IntKind.u8.wrap (Int.fdiv a (2^(min (Int.toNat (8:Int)) (IntKind.u64.bits))))) (ByteArray.mk #[0,1,2,2,3,3,3,3,4,4,4,4,4,4,4,4,5,5,5,5,5,5,5,5,5,5,5,5,5,5,5,5,6,6,6,6,6,6,6,6,6,6,6,6,6,6,6,6,6,6,6,6,6,6,6,6,6,6,6,6,6,6,6,6,7,7,7,7,7,7,7,7,7,7,7,7,7,7,7,7,7,7,7,7,7,7,7,7,7,7,7,7,7,7,7,7,7,7,7,7,7,7,7,7,7,7,7,7,7,7,7,7,7,7,7,7,7,7,7,7,7,7,7,7,7,7,7,7,8,8,8,8,8,8,8,8,8,8,8,8,8,8,8,8,8,8,8,8,8,8,8,8,8,8,8,8,8,8,8,8,8,8,8,8,8,8,8,8,8,8,8,8,8,8,8,8,8,8,8,8,8,8,8,8,8,8,8,8,8,8,8,8,8,8,8,8,8,8,8,8,8,8,8,8,8,8,8,8,8,8,8,8,8,8,8,8,8,8,8,8,8,8,8,8,8,8,8,8,8,8,8,8,8,8,8,8,8,8,8,8,8,8,8,8,8,8,8,8,8,8,8,8,8,8,8,8]).size)<|.need (fI .i64 ((8:Int)+(IntKind.i64.wrap (qA (ByteArray.mk #[0,1,2,2,3,3,3,3,4,4,4,4,4,4,4,4,5,5,5,5,5,5,5,5,5,5,5,5,5,5,5,5,6,6,6,6,6,6,6,6,6,6,6,6,6,6,6,6,6,6,6,6,6,6,6,6,6,6,6,6,6,6,6,6,7,7,7,7,7,7,7,7,7,7,7,7,7,7,7,7,7,7,7,7,7,7,7,7,7,7,7,7,7,7,7,7,7,7,7,7,7,7,7,7,7,7,7,7,7,7,7,7,7,7,7,7,7,7,7,7,7,7,7,7,7,7,7,7,8,8,8,8,8,8,8,8,8,8,8,8,8,8,8,8,8,8,8,8,8,8,8,8,8,8,8,8,8,8,8,8,8,8,8,8,8,8,8,8,8,8,8,8,8,8,8,8,8,8,8,8,8,8,8,8,8,8,8,8,8,8,8,8,8,8,8,8,8,8,8,8,8,8,8,8,8,8,8,8,8,8,8,8,8,8,8,8,8,8,8,8,8,8,8,8,8,8,8,8,8,8,8,8,8,8,8,8,8,8,8,8,8,8,8,8,8,8,8,8,8,8,8,8,8,8,8,8]) (Int.toNat (IntKind.u8.wrap (Int.fdiv a (2^(min (Int.toNat (8:Int)) (IntKind.u64.bits))))))))))<|.leaf (.inl ((8:Int)+(IntKind.i64.wrap (qA (ByteArray.mk #[0,1,2,2,3,3,3,3,4,4,4,4,4,4,4,4,5,5,5,5,5,5,5,5,5,5,5,5,5,5,5,5,6,6,6,6,6,6,6,6,6,6,6,6,6,6,6,6,6,6,6,6,6,6,6,6,6,6,6,6,6,6,6,6,7,7,7,7,7,7,7,7,7,7,7,7,7,7,7,7,7,7,7,7,7,7,7,7,7,7,7,7,7,7,7,7,7,7,7,7,7,7,7,7,7,7,7,7,7,7,7,7,7,7,7,7,7,7,7,7,7,7,7,7,7,7,7,7,8,8,8,8,8,8,8,8,8,8,8,8,8,8,8,8,8,8,8,8,8,8,8,8,8,8,8,8,8,8,8,8,8,8,8,8,8,8,8,8,8,8,8,8,8,8,8,8,8,8,8,8,8,8,8,8,8,8,8,8,8,8,8,8,8,8,8,8,8,8,8,8,8,8,8,8,8,8,8,8,8,8,8,8,8,8,8,8,8,8,8,8,8,8,8,8,8,8,8,8,8,8,8,8,8,8,8,8,8,8,8,8,8,8,8,8,8,8,8,8,8,8,8,8,8,8,8,8]) (Int.toNat (IntKind.u8.wrap (Int.fdiv a (2^(min (Int.toNat (8:Int)) (IntKind.u64.bits)))))))))))
        (.need (gg (IntKind.u8.wrap a) (ByteArray.mk #[0,1,2,2,3,3,3,3,4,4,4,4,4,4,4,4,5,5,5,5,5,5,5,5,5,5,5,5,5,5,5,5,6,6,6,6,6,6,6,6,6,6,6,6,6,6,6,6,6,6,6,6,6,6,6,6,6,6,6,6,6,6,6,6,7,7,7,7,7,7,7,7,7,7,7,7,7,7,7,7,7,7,7,7,7,7,7,7,7,7,7,7,7,7,7,7,7,7,7,7,7,7,7,7,7,7,7,7,7,7,7,7,7,7,7,7,7,7,7,7,7,7,7,7,7,7,7,7,8,8,8,8,8,8,8,8,8,8,8,8,8,8,8,8,8,8,8,8,8,8,8,8,8,8,8,8,8,8,8,8,8,8,8,8,8,8,8,8,8,8,8,8,8,8,8,8,8,8,8,8,8,8,8,8,8,8,8,8,8,8,8,8,8,8,8,8,8,8,8,8,8,8,8,8,8,8,8,8,8,8,8,8,8,8,8,8,8,8,8,8,8,8,8,8,8,8,8,8,8,8,8,8,8,8,8,8,8,8,8,8,8,8,8,8,8,8,8,8,8,8,8,8,8,8,8,8]).size)<|.need (fI .i64 ((0:Int)+(IntKind.i64.wrap (qA (ByteArray.mk #[0,1,2,2,3,3,3,3,4,4,4,4,4,4,4,4,5,5,5,5,5,5,5,5,5,5,5,5,5,5,5,5,6,6,6,6,6,6,6,6,6,6,6,6,6,6,6,6,6,6,6,6,6,6,6,6,6,6,6,6,6,6,6,6,7,7,7,7,7,7,7,7,7,7,7,7,7,7,7,7,7,7,7,7,7,7,7,7,7,7,7,7,7,7,7,7,7,7,7,7,7,7,7,7,7,7,7,7,7,7,7,7,7,7,7,7,7,7,7,7,7,7,7,7,7,7,7,7,8,8,8,8,8,8,8,8,8,8,8,8,8,8,8,8,8,8,8,8,8,8,8,8,8,8,8,8,8,8,8,8,8,8,8,8,8,8,8,8,8,8,8,8,8,8,8,8,8,8,8,8,8,8,8,8,8,8,8,8,8,8,8,8,8,8,8,8,8,8,8,8,8,8,8,8,8,8,8,8,8,8,8,8,8,8,8,8,8,8,8,8,8,8,8,8,8,8,8,8,8,8,8,8,8,8,8,8,8,8,8,8,8,8,8,8,8,8,8,8,8,8,8,8,8,8,8,8]) (Int.toNat (IntKind.u8.wrap a))))))<|.leaf (.inl ((0:Int)+(IntKind.i64.wrap (qA (ByteArray.mk #[0,1,2,2,3,3,3,3,4,4,4,4,4,4,4,4,5,5,5,5,5,5,5,5,5,5,5,5,5,5,5,5,6,6,6,6,6,6,6,6,6,6,6,6,6,6,6,6,6,6,6,6,6,6,6,6,6,6,6,6,6,6,6,6,7,7,7,7,7,7,7,7,7,7,7,7,7,7,7,7,7,7,7,7,7,7,7,7,7,7,7,7,7,7,7,7,7,7,7,7,7,7,7,7,7,7,7,7,7,7,7,7,7,7,7,7,7,7,7,7,7,7,7,7,7,7,7,7,8,8,8,8,8,8,8,8,8,8,8,8,8,8,8,8,8,8,8,8,8,8,8,8,8,8,8,8,8,8,8,8,8,8,8,8,8,8,8,8,8,8,8,8,8,8,8,8,8,8,8,8,8,8,8,8,8,8,8,8,8,8,8,8,8,8,8,8,8,8,8,8,8,8,8,8,8,8,8,8,8,8,8,8,8,8,8,8,8,8,8,8,8,8,8,8,8,8,8,8,8,8,8,8,8,8,8,8,8,8,8,8,8,8,8,8,8,8,8,8,8,8,8,8,8,8,8,8]) (Int.toNat (IntKind.u8.wrap a)))))))))
def JG(a:Int) :T ((Empty)⊕(i8)) :=
  .leaf (.inr (.r0 a))
def pB(a:Int) :Option i8:=toX (bd ((JF a).run) fun b =>
  (JG b).run)
theorem JH(a:Int){x:i8}(h:pB a=some x) :aH prog DW [] [.int .u64 a] (yO x) :=
  GS false yO DZ h (Sg.cut 3 JD (cF nX JE [⟨[],[],[2]⟩,⟨[],[],[2]⟩,⟨[],[],[2]⟩,⟨[],[],[2]⟩,⟨[],[],[2]⟩,⟨[],[],[2]⟩,⟨[],[],[2]⟩,⟨[],[],[2]⟩]) (fun c=>cF nX Gd [⟨[],[],[2]⟩]))
    (fun x=>by cases x with | r0 b=>exact EI [.int .i64 b])
def qq:Option i8→Bool
  | some _=>true
  | none=>false
def nY:Option i8→Int
  | some (.r0 x)=>x
  | _=>0
theorem JI{x:Option i8}(h:qq x=true) :x=some (.r0 (nY x)):=by
  unfold qq at h
  split at h<;>first | rfl | (cases h;done) | (rename_i y;cases y;rfl)
def D0:bC:=lC DW (.cons (.int .u64) .nil) fun t=>(fun q=>[⟨yO (.r0 (nY q)),[qq q]⟩]) (pB t.1)
theorem H3:bZ prog D0:=eV fun t=>(eW (fun h=>JH t.1 (JI h)) fY)
def D3:List bC:=D0::vt
theorem vl:cQ prog (cX D3):=aY H3 nX
inductive qI where
  | r0 (a:Bool)
def M2:qI→AE×aW
  | .r0 a=>(.ret,⟨ax 17 [(4,.bool false a)],[],0⟩)
theorem Rd:xN M2:=by intro x;cases x<;>(intro h;cases h)
def H4:qI→rF
  | .r0 a=>⟨.bool false a,[]⟩
def Re(a:Bool) :aW:=⟨ax 17 [(4,.bool false a)],[],0⟩
def KK(a:Int)(b:Int) :T ((Bool)⊕(qI)) :=
  .ask (a != a)
    (.ask (!(b != b))
      (.leaf (.inl true))
      (.leaf (.inl (decide (a<b)))))
    (.leaf (.inl (decide (a<b))))
def KL(a:Bool) :T ((Empty)⊕(qI)) :=
  .leaf (.inr (.r0 a))
def xd(a:Int)(b:Int) :Option qI:=toX (bd ((KK a b).run) fun c =>
  (KL c).run)
theorem Rf(a:Int)(b:Int){x:qI}(h:xd a b=some x) :aH prog MC [] [.int .i64 a,.int .i64 b] (H4 x) :=
  GS false H4 M2 h (Sg.cut 2 Rd (cF vl Re [⟨[],[],[4]⟩,⟨[],[],[4]⟩,⟨[],[],[4]⟩]) (fun d=>cF vl Gd [⟨[],[],[4]⟩]))
    (fun x=>by cases x with | r0 c=>exact EI [.bool false c])
def Bo:Option qI→Bool
  | some _=>true
  | none=>false
def BX:Option qI→Bool
  | some (.r0 x)=>x
  | _=>false
theorem Rg{x:Option qI}(h:Bo x=true) :x=some (.r0 (BX x)):=by
  unfold Bo at h
  split at h<;>first | rfl | (cases h;done) | (rename_i y;cases y;rfl)
def M3:bC:=lC MC (.cons (.int .i64) (.cons (.int .i64) .nil)) fun t=>(fun q=>[⟨H4 (.r0 (BX q)),[Bo q]⟩]) (xd t.1 t.2.1)
theorem Of:bZ prog M3:=eV fun t=>(eW (fun h=>Rf t.1 t.2.1 (Rg h)) fY)
def M4:List bC:=M3::D3
theorem kx:cQ prog (cX M4):=aY Of vl
inductive br where
inductive dn where
  | r0 (a:List Int)
def fV:br→AE×aW:=fun x=>nomatch x
theorem bF:xN fV:=by intro x;cases x<;>(intro h;cases h)
theorem kf(id:Nat) :rh id fV:=by intro x;cases x<;>(intro h;cases h)
def kS:dn→rF
  | .r0 a=>⟨.tup [],[some (.ns .i64 a)]⟩
def pT(a:(List Int)) :aW:=⟨ax 49 [],[(0,.ns .i64 a)],1⟩
def wx:List Code:=cV (qT iP)
def xe(a:List Int)(b:Nat)(c:Nat)(d:Nat)(e:Int)(f:Int)(g:Int) :aW:=⟨ax 49 [(0,.sl 0 1 1 b c d),(1,.int .i64 e),(2,.int .i64 f),(6,.int .i64 g)],[(0,.ns .i64 a)],1⟩
def pU(a:Int) :T ((Int)⊕(br)) :=
  .need (fI .i64 (a+(1:Int)))<|.leaf (.inl (a+(1:Int)))
def hY(a:Nat)(b:Nat)(c:Nat)(d:Int)(e:Int) :Int×(List Int)→aW:=fun (f,g)=>⟨ax 49 [(0,.sl 0 1 1 a b c),(1,.int .i64 d),(2,.int .i64 e),(6,.int .i64 f)],[(0,.ns .i64 g)],1⟩
def jH(a:(List Int)) :aW:=⟨ax 49 [],[(0,.ns .i64 a)],1⟩
def pV:List Code:=cV (dm ((((wx.drop 1).take 1)).headD .skip))
def wy(a:Nat)(b:Nat)(c:Nat)(d:Int)(e:Int)(f:Int)(g:List Int)(_:Unit) :aW:=⟨ax 49 [(0,.sl 0 1 1 a b c),(1,.int .i64 d),(2,.int .i64 e),(6,.int .i64 f)],[(0,.ns .i64 g)],1⟩
def pW(a:Int)(b:Int)(c:List Int) :T ((Unit)⊕(((List Int))⊕(br))) :=
  .ask (decide (b<a))
    (.leaf (.inl ()))
    (.leaf (.inr (.inl c)))
def jI(a:Nat)(b:Nat)(c:Nat)(d:Int)(e:Int)(f:Int)(g:(List Int)) :aW:=⟨ax 49 [(0,.sl 0 1 1 a b c),(1,.int .i64 d),(2,.int .i64 e),(6,.int .i64 f)],[(0,.ns .i64 g)],1⟩
def wz:List Code:=cV (inBlock ((((pV.drop 2).take 1)).headD .skip))
def wA(b:Nat)(c:Nat)(d:Nat)(e:Int)(f:Int)(a:Int)(g:List Int)(_:Unit) :aW:=⟨ax 49 [(0,.sl 0 1 1 b c d),(1,.int .i64 e),(2,.int .i64 f),(6,.int .i64 a),(7,.int .i64 a)],[(0,.ns .i64 g)],1⟩
def pX:T ((Unit)⊕(((List Int))⊕(((List Int))⊕(br)))) :=
  .leaf (.inl ())
def ia(a:Nat)(b:Nat)(c:Nat)(d:Int)(e:Int)(f:Int) :Int×(List Int)→aW:=fun (g,h)=>⟨ax 49 [(0,.sl 0 1 1 a b c),(1,.int .i64 d),(2,.int .i64 e),(6,.int .i64 f),(7,.int .i64 g)],[(0,.ns .i64 h)],1⟩
def pY(a:Nat)(b:Nat)(c:Nat)(d:Int)(e:Int)(f:Int)(g:(List Int)) :aW:=⟨ax 49 [(0,.sl 0 1 1 a b c),(1,.int .i64 d),(2,.int .i64 e),(6,.int .i64 f)],[(0,.ns .i64 g)],1⟩
def wB:List Code:=cV (dm ((((wz.drop 1).take 1)).headD .skip))
def wC(a:Nat)(b:Nat)(c:Nat)(d:Int)(e:Int)(f:Int)(g:Int)(h:List Int)(i:Bool) :aW:=⟨ax 49 [(0,.sl 0 1 1 a b c),(1,.int .i64 d),(2,.int .i64 e),(6,.int .i64 f),(7,.int .i64 g),(30,.bool false i)],[(0,.ns .i64 h)],1⟩
def pZ(b:Nat)(d:Nat)(e:Int)(a:Int)(c:List Int) :T ((Bool)⊕(((List Int))⊕(((List Int))⊕(((List Int))⊕(br))))) :=
  .ask (decide (a>e))
    (.need (gg a d)<|.need (fo (cw b (Int.toNat a)) (List.length c))<|.need (fI .i64 (a-(1:Int)))<|.need (gg (a-(1:Int)) d)<|.need (fo (cw b (Int.toNat (a-(1:Int)))) (List.length c))<|.need (Bo (xd (List.getD c (cw b (Int.toNat a)) 0) (List.getD c (cw b (Int.toNat (a-(1:Int)))) 0)))<|.leaf (.inl (BX (xd (List.getD c (cw b (Int.toNat a)) 0) (List.getD c (cw b (Int.toNat (a-(1:Int)))) 0)))))
    (.leaf (.inl false))
def qa(b:Nat)(d:Nat)(a:Int)(c:List Int)(e:Bool) :T ((Int×(List Int))⊕(((List Int))⊕(((List Int))⊕(((List Int))⊕(br))))) :=
  .ask e
    (.need (fI .i64 (a-(1:Int)))<|.need (fI .i64 (a-(1:Int)))<|.need (gg (a-(1:Int)) d)<|.need (fo (cw b (Int.toNat (a-(1:Int)))) (List.length c))<|.need (gg a d)<|.need (fo (cw b (Int.toNat a)) (List.length c))<|.need (gg a d)<|.need (fo (cw b (Int.toNat a)) (List.length c))<|.need (gg (a-(1:Int)) d)<|.need (fo (cw b (Int.toNat (a-(1:Int)))) (List.length (List.set c (cw b (Int.toNat a)) (List.getD c (cw b (Int.toNat (a-(1:Int)))) 0))))<|.need (fI .i64 (a-(1:Int)))<|.leaf (.inl ((a-(1:Int)),(List.set (List.set c (cw b (Int.toNat a)) (List.getD c (cw b (Int.toNat (a-(1:Int)))) 0)) (cw b (Int.toNat (a-(1:Int)))) (List.getD c (cw b (Int.toNat a)) 0)))))
    (.leaf (.inr (.inl c)))
def ib(a:Nat)(b:Nat)(e:Int) :Int×(List Int)→Option ((Int×(List Int))⊕(((List Int))⊕(((List Int))⊕(((List Int))⊕(br))))):=fun (c,d) =>
  bd ((pZ a b e c d).run) fun f =>
  (qa a b c d f).run
theorem wF(i:List Int)(a:Nat)(b:Nat)(d:Nat)(c:Int)(e:Int)(f:Int)(g:Int)(h:List Int) :Sg prog [.ns .i64 i] wB (ia a b d c e f (g,h)) (ib a b c (g,h)) (ia a b d c e f) (co 2 (pY a b d c e f) (co 1 (jI a b d c e f) (co 0 jH fV))):=by
  unfold ib;exact Sg.cut 1 (az (az (az bF))) (cF kx (wC a b d c e f g h) [⟨[],[0],[0,1,2,6,7,30]⟩,⟨[],[0],[0,1,2,6,7,30]⟩]) (fun j=>cF kx (ia a b d c e f) [⟨[],[0],[0,1,2,6,7]⟩,⟨[],[0],[0,1,2,6]⟩])
def qb(a:List Int) :T (((List Int))⊕(((List Int))⊕(((List Int))⊕(br)))) :=
  .leaf (.inl a)
def qc(a:Int)(b:List Int) :T ((Int×(List Int))⊕(((List Int))⊕(br))) :=
  .need (fI .i64 (a+(1:Int)))<|.leaf (.inl ((a+(1:Int)),b))
def ic(c:Nat)(d:Nat)(e:Int)(f:Int) :Int×(List Int)→Option ((Int×(List Int))⊕(((List Int))⊕(br))):=fun (a,b) =>
  bd ((pW f a b).run) fun _ =>
  bd (vO (bd ((pX).run) fun _ =>
  bd (cu (ib c d e) (a,b)) fun g =>
  (qb g).run)) fun h =>
  (qc a h).run
theorem wG(h:List Int)(a:Nat)(b:Nat)(e:Nat)(c:Int)(d:Int)(f:Int)(g:List Int) :Sg prog [.ns .i64 h] pV (hY a b e c d (f,g)) (ic a b c d (f,g)) (hY a b e c d) (co 0 jH fV):=by
  unfold ic;exact Sg.cut 2 (az bF) (cF kx (wy a b e c d f g) [⟨[],[0],[0,1,2,6]⟩,⟨[],[0],[]⟩]) (fun _=>Sg.cut 1 (az bF) (UR (jI a b e c d f) 1 (az bF) (cW (by decide) (kf _)) (Sg.cut 1 (az (az bF)) (cF kx (wA a b e c d f g) [⟨[],[0],[0,1,2,6,7]⟩]) (fun _=>Sg.cut 1 (az (az bF)) (yE ⟨[],[0],[0,1,2,6,7]⟩ (ia a b e c d f) (pY a b e c d f) 2 (az (az bF)) (cW (by decide) (cW (by decide) (kf _))) (fun ⟨i,j⟩=>wF h a b e c d f i j)) (fun k=>cF kx (jI a b e c d f) [⟨[],[0],[0,1,2,6]⟩])))) (fun l=>cF kx (hY a b e c d) [⟨[],[0],[0,1,2,6]⟩]))
def qd(a:List Int) :T (((List Int))⊕(br)) :=
  .leaf (.inl a)
def qx:((List Int))⊕(br)→dn
  | .inl a=>(.r0 a)
def fW(b:List Int)(c:Nat)(d:Nat)(a:Int)(e:Int) :Option dn:=Option.map qx (bd ((pU a).run) fun f =>
  bd (cu (ic c d a e) (f,b)) fun g =>
  (qd g).run)
theorem xf(e:List Int)(a:Nat)(b:Nat)(f:Nat)(c:Int)(d:Int){x:dn}(h:fW e a b c d=some x) :aH prog iP [.ns .i64 e] [.sl 0 1 1 a b f,.int .i64 c,.int .i64 d] (kS x) :=
  MH false kS pT fV qx h (Sg.cut 1 bF (cF kx (xe e a b f c d) [⟨[],[0],[0,1,2,6]⟩]) (fun j=>Sg.cut 1 bF (yE ⟨[],[0],[0,1,2,6]⟩ (hY a b f c d) (jH) 0 bF (kf _) (fun ⟨g,i⟩=>wG e a b f c d g i)) (fun k=>cF kx pT [⟨[],[0],[]⟩])))
    (fun x=>MG []) (fun x=>by cases x)
def iE:Option dn→Bool
  | some _=>true
  | none=>false
def jA:Option dn→List Int
  | some (.r0 x)=>x
  | _=>[]
theorem xg{x:Option dn}(h:iE x=true) :x=some (.r0 (jA x)):=by
  unfold iE at h
  split at h<;>first | rfl | (cases h;done) | (rename_i y;cases y;rfl)
def qy:bC:=yZ iP [.ns .i64] (.cons (.lsl 0) (.cons (.int .i64) (.cons (.int .i64) .nil))) fun x t=>(fun q=>[⟨kS (.r0 (jA q)),[iE q]⟩]) (fW x.1 t.1.1 t.1.2.1 t.2.1 t.2.2.1)
theorem v8:bZ prog qy:=pE fun x t=>(jZ (fun h=>xf x.1 t.1.1 t.1.2.1 t.1.2.2 t.2.1 t.2.2.1 (xg h)) pF)
def qz:List bC:=qy::M4
theorem gJ:cQ prog (cX qz):=aY v8 kx
inductive cy where
  | r0 (a:List Int)
def lh:cy→AE×aW
  | .r0 a=>(.ret,⟨ax 134 [],[(0,.ns .i64 a)],1⟩)
theorem ky:xN lh:=by intro x;cases x<;>(intro h;cases h)
theorem uo(id:Nat) :rh id lh:=by intro x;cases x<;>(intro h;cases h)
def qr:cy→rF
  | .r0 a=>⟨.tup [],[some (.ns .i64 a)]⟩
def BY:List Code:=cV (qT lb)
def BZ(b:List Int)(c:Nat)(d:Nat)(e:Nat)(f:Int)(g:Int)(h:Int)(a:Bool) :aW:=⟨ax 134 [(0,.sl 0 1 1 c d e),(1,.int .i64 f),(2,.int .i64 g),(3,.int .i64 h),(8,.bool false a),(9,.bool false a)],[(0,.ns .i64 b)],1⟩
def B0:T ((Bool)⊕(cy)) :=
  .leaf (.inl true)
def iS(b:List Int)(c:Nat)(d:Nat)(e:Nat)(f:Int)(g:Int)(h:Int)(a:Bool)(_:Unit) :aW:=⟨ax 134 [(0,.sl 0 1 1 c d e),(1,.int .i64 f),(2,.int .i64 g),(3,.int .i64 h),(8,.bool false a),(9,.bool false a)],[(0,.ns .i64 b)],1⟩
def B1:List Code:=cV (dm (((BY.drop 2)).headD .skip))
def B2(b:List Int)(c:Nat)(d:Nat)(e:Nat)(f:Int)(g:Int)(h:Int)(a:Bool)(i:Int) :aW:=⟨ax 134 [(0,.sl 0 1 1 c d e),(1,.int .i64 f),(2,.int .i64 g),(3,.int .i64 h),(8,.bool false a),(9,.bool false a),(10,.int .i64 i)],[(0,.ns .i64 b)],1⟩
def uq(c:List Int)(d:Nat)(e:Nat)(a:Int)(b:Int) :T ((Int)⊕((Unit)⊕((Empty)⊕(cy)))) :=
  .need (fI .i64 (b-a))<|.ask (decide ((b-a)≤(12:Int)))
    (.need (iE (fW c d e a b))<|.leaf (.inr (.inr (.inr (.r0 (jA (fW c d e a b)))))))
    (.leaf (.inl (b-a)))
def AK(a:Int)(b:Bool) :T ((Unit)⊕((Unit)⊕((Empty)⊕(cy)))) :=
  .ask (a==(0:Int))
    (.fail)
    (.ask (!b)
      (.fail)
      (.fail))
def jM(a:List Int)(b:Nat)(c:Nat)(d:Int)(e:Int)(f:Int)(g:Bool) :Unit→Option ((Unit)⊕((Empty)⊕(cy))):=fun _ =>
  vO (bd ((uq a b c d e).run) fun h =>
  (AK f g).run)
theorem AL(b:List Int)(c:Nat)(d:Nat)(i:Nat)(e:Int)(f:Int)(g:Int)(h:Bool) :Sg prog [.ns .i64 b] B1 (iS b c d i e f g h ()) (jM b c d e f g h ()) (iS b c d i e f g h) (co (ρ:=Empty) 0 (fun a=>a.elim) lh):=by
  unfold jM;exact UR (iS b c d i e f g h) 1 (az ky) (cW (by decide) (uo _)) (Sg.cut 3 (az (az ky)) (cF gJ (B2 b c d i e f g h) [⟨[],[0],[]⟩,⟨[],[0],[0,1,2,3,8,9,10]⟩]) (fun j=>cF gJ (iS b c d i e f g h) []))
def ji(a:List Int)(b:Nat)(c:Nat)(d:Int)(e:Int)(f:Int) :Option cy:=toX (bd ((B0).run) fun g =>
  cu (jM a b c d e f g) ())
theorem B3(b:List Int)(c:Nat)(d:Nat)(i:Nat)(e:Int)(f:Int)(g:Int){x:cy}(h:ji b c d e f g=some x) :aH prog lb [.ns .i64 b] [.sl 0 1 1 c d i,.int .i64 e,.int .i64 f,.int .i64 g] (qr x) :=
  GS false qr lh h (Sg.cut 2 ky (cF gJ (BZ b c d i e f g) [⟨[],[0],[0,1,2,3,8,9]⟩]) (fun j=>yE ⟨[],[0],[0,1,2,3,8,9]⟩ (iS b c d i e f g j) (fun a:Empty=>a.elim) 0 ky (uo _) (fun _=>AL b c d i e f g j)))
    (fun x=>by cases x with | r0 k=>exact EI [])
def kA:Option cy→Bool
  | some _=>true
  | none=>false
def nZ:Option cy→List Int
  | some (.r0 x)=>x
  | _=>[]
theorem B4{x:Option cy}(h:kA x=true) :x=some (.r0 (nZ x)):=by
  unfold kA at h
  split at h<;>first | rfl | (cases h;done) | (rename_i y;cases y;rfl)
def vu:bC:=yZ lb [.ns .i64] (.cons (.lsl 0) (.cons (.int .i64) (.cons (.int .i64) (.cons (.int .i64) .nil)))) fun x t=>(fun q=>[⟨qr (.r0 (nZ q)),[kA q]⟩]) (ji x.1 t.1.1 t.1.2.1 t.2.1 t.2.2.1 t.2.2.2.1)
theorem Ao:bZ prog vu:=pE fun x t=>(jZ (fun h=>B3 x.1 t.1.1 t.1.2.1 t.1.2.2 t.2.1 t.2.2.1 t.2.2.2.1 (B4 h)) pF)
def vv:List bC:=vu::qz
theorem sm:cQ prog (cX vv):=aY Ao gJ
inductive B5 where
inductive pQ where
  | r0 (a:List Int)
def Og:B5→AE×aW:=fun x=>nomatch x
def B6:pQ→rF
  | .r0 a=>⟨.tup [],[some (.ns .i64 a)]⟩
def Fu(a:(List Int)) :aW:=⟨ax 11 [],[(0,.ns .i64 a)],1⟩
def Fv(b:List Int)(c:Nat)(a:Nat) :T (((List Int))⊕(B5)) :=
  .need (qq (pB (IntKind.u64.wrap ((a:Nat):Int))))<|.need (kA (ji b c a (0:Int) ((a:Nat):Int) (nY (pB (IntKind.u64.wrap ((a:Nat):Int))))))<|.leaf (.inl (nZ (ji b c a (0:Int) ((a:Nat):Int) (nY (pB (IntKind.u64.wrap ((a:Nat):Int)))))))
def Hn:((List Int))⊕(B5)→pQ
  | .inl a=>(.r0 a)
def ur(a:List Int)(b:Nat)(c:Nat) :Option pQ:=Option.map Hn ((Fv a b c).run)
theorem M5(a:List Int)(b:Nat)(c:Nat)(d:Nat){x:pQ}(h:ur a b c=some x) :aH prog BA [.ns .i64 a] [.sl 0 1 1 b c d] (B6 x) :=
  MH false B6 Fu Og Hn h (cF sm Fu [⟨[],[0],[]⟩])
    (fun x=>MG []) (fun x=>by cases x)
def v9:Option pQ→Bool
  | some _=>true
  | none=>false
def xh:Option pQ→List Int
  | some (.r0 x)=>x
  | _=>[]
theorem M6{x:Option pQ}(h:v9 x=true) :x=some (.r0 (xh x)):=by
  unfold v9 at h
  split at h<;>first | rfl | (cases h;done) | (rename_i y;cases y;rfl)
def Ho:bC:=yZ BA [.ns .i64] (.cons (.lsl 0) .nil) fun x t=>(fun q=>[⟨B6 (.r0 (xh q)),[v9 q]⟩]) (ur x.1 t.1.1 t.1.2.1)
theorem JJ:bZ prog Ho:=pE fun x t=>(jZ (fun h=>M5 x.1 t.1.1 t.1.2.1 t.1.2.2 (M6 h)) pF)
def Hp:List bC:=Ho::vv
theorem fN:cQ prog (cX Hp):=aY JJ sm
inductive bJ where
inductive aT where
  | r0 (a:Int) (b:Nat) (c:Nat) (d:Nat) (e:Nat) (f:Int) (g:Int) (h:Nat) (i:Nat) (j:Nat) (k:Nat) (l:Nat) (m:Nat) (n:Nat) (o:List Nat) (p:List Nat) (q:List Nat) (r:List Int) (s:List Int)
def jB:bJ→AE×aW:=fun x=>nomatch x
theorem bV:xN jB:=by intro x;cases x<;>(intro h;cases h)
theorem qs(id:Nat) :rh id jB:=by intro x;cases x<;>(intro h;cases h)
def qJ:aT→rF
  | .r0 a b c d e f g h i j k l m n o p q r s=>⟨.tup [],[some (.vs [.int .i64 a,.sl 1 1 1 0 b c,.sl 2 1 1 0 d e,.int .i64 f,.int .i64 g,.sl 3 1 1 0 h i,.flt false j,.sl 4 1 1 0 k l,.sl 5 1 1 0 m n]),some (.fl o),some (.fl p),some (.fl q),some (.ns .i64 r),some (.ns .i64 s)]⟩
def ut:Int×Nat×Nat×Nat×Nat×Int×Int×Nat×Nat×Nat×Nat×Nat×Nat×Nat×(List Nat)×(List Nat)×(List Nat)×(List Int)×(List Int)→aW:=fun (a,b,c,d,e,f,g,h,i,j,k,l,m,n,o,p,q,r,s)=>⟨ax 128 [],[(0,.vs [.int .i64 a,.sl 1 1 1 0 b c,.sl 2 1 1 0 d e,.int .i64 f,.int .i64 g,.sl 3 1 1 0 h i,.flt false j,.sl 4 1 1 0 k l,.sl 5 1 1 0 m n]),(1,.fl o),(2,.fl p),(3,.fl q),(4,.ns .i64 r),(5,.ns .i64 s)],6⟩
def uu:List Code:=cV (qT lL)
def CJ(b:Int)(c:Nat)(d:Nat)(e:Nat)(f:Nat)(g:Int)(h:Int)(i:Nat)(j:Nat)(k:Nat)(l:List Nat)(m:List Nat)(n:List Nat) :Nat×Nat×(List Nat)→aW:=fun (a,o,p)=>⟨ax 128 [(0,.ptr 0 1 0 0),(2,.flt false 0),(17,.sl 4 1 1 0 a a),(18,.int .i64 ((o:Nat):Int)),(19,.int .i64 (0:Int))],[(0,.vs [.int .i64 b,.sl 1 1 1 0 c d,.sl 2 1 1 0 e f,.int .i64 g,.int .i64 h,.sl 3 1 1 0 i j,.flt false k,.nsl,.nsl]),(1,.fl l),(2,.fl m),(3,.fl n),(4,.fl p)],5⟩
def uv(a:Nat)(b:Nat)(c:List Nat) :T ((Nat×Nat×(List Nat))⊕(bJ)) :=
  .need (pS ((1+a)*8) 140737488355328)<|.need (pS (1+a) 9223372036854775807)<|.need (pS a (List.length c))<|.need (pS 1 (List.length [b]))<|.leaf (.inl ((1+a),(1+a),((List.take 1 [b])++(List.take a c))))
def lk(b:Int)(c:Nat)(d:Nat)(e:Nat)(f:Nat)(g:Int)(h:Int)(i:Nat)(j:Nat)(k:Nat)(l:List Nat)(m:List Nat)(n:List Nat)(a:Nat)(o:Nat)(p:List Nat) :Nat×Nat→aW:=fun (q,r)=>⟨ax 128 [(0,.ptr 0 1 0 0),(2,.flt false q),(17,.sl 4 1 1 0 a a),(18,.int .i64 ((o:Nat):Int)),(19,.int .i64 ((r:Nat):Int))],[(0,.vs [.int .i64 b,.sl 1 1 1 0 c d,.sl 2 1 1 0 e f,.int .i64 g,.int .i64 h,.sl 3 1 1 0 i j,.flt false k,.nsl,.nsl]),(1,.fl l),(2,.fl m),(3,.fl n),(4,.fl p)],5⟩
def vw(a:Int)(b:Nat)(c:Nat)(d:Nat)(e:Nat)(f:Int)(g:Int)(h:Nat)(i:Nat)(j:Nat)(k:List Nat)(l:List Nat)(m:List Nat)(n:Nat) :aW:=⟨ax 128 [(0,.ptr 0 1 0 0),(2,.flt false n)],[(0,.vs [.int .i64 a,.sl 1 1 1 0 b c,.sl 2 1 1 0 d e,.int .i64 f,.int .i64 g,.sl 3 1 1 0 h i,.flt false j,.nsl,.nsl]),(1,.fl k),(2,.fl l),(3,.fl m)],4⟩
def B7:List Code:=cV (dm ((((uu.drop 2).take 1)).headD .skip))
def CL(b:Int)(c:Nat)(d:Nat)(e:Nat)(f:Nat)(g:Int)(h:Int)(i:Nat)(j:Nat)(k:Nat)(l:List Nat)(m:List Nat)(n:List Nat)(a:Nat)(o:Nat)(p:List Nat)(q:Nat)(r:Nat) :aW:=⟨ax 128 [(0,.ptr 0 1 0 0),(2,.flt false r),(17,.sl 4 1 1 0 a a),(18,.int .i64 ((o:Nat):Int)),(19,.int .i64 ((q:Nat):Int))],[(0,.vs [.int .i64 b,.sl 1 1 1 0 c d,.sl 2 1 1 0 e f,.int .i64 g,.int .i64 h,.sl 3 1 1 0 i j,.flt false k,.nsl,.nsl]),(1,.fl l),(2,.fl m),(3,.fl n),(4,.fl p)],5⟩
def uw(d:Nat)(e:Nat)(b:List Nat)(c:Nat)(a:Nat) :T ((Nat)⊕((Nat)⊕(bJ))) :=
  .ask (decide (((a:Nat):Int)<((e:Nat):Int)))
    (.need (gg ((a:Nat):Int) d)<|.need (fo a (List.length b))<|.ask (Kh (eE (List.getD b a 0)) c)
      (.leaf (.inl (eE (List.getD b a 0))))
      (.leaf (.inl c)))
    (.leaf (.inr (.inl c)))
def ux(a:Nat)(b:Nat) :T ((Nat×Nat)⊕((Nat)⊕(bJ))) :=
  .need (fI .i64 (((a+1):Nat):Int))<|.leaf (.inl (b,(a+1)))
def kB(b:Nat)(c:Nat)(d:List Nat) :Nat×Nat→Option ((Nat×Nat)⊕((Nat)⊕(bJ))):=fun (e,a) =>
  bd ((uw b c d e a).run) fun f =>
  (ux a f).run
theorem B8(a:Int)(b:Nat)(c:Nat)(d:Nat)(e:Nat)(f:Int)(g:Int)(h:Nat)(i:Nat)(j:Nat)(k:List Nat)(l:List Nat)(m:List Nat)(n:Nat)(o:Nat)(p:List Nat)(r:Nat)(q:Nat) :Sg prog [.vs [.int .i64 a,.sl 1 1 1 0 b c,.sl 2 1 1 0 d e,.int .i64 f,.int .i64 g,.sl 3 1 1 0 h i,.flt false j,.nsl,.nsl],.fl k,.fl l,.fl m] B7 (lk a b c d e f g h i j k l m n o p (r,q)) (kB n o p (r,q)) (lk a b c d e f g h i j k l m n o p) (co 0 (vw a b c d e f g h i j k l m) jB):=by
  unfold kB;exact Sg.cut 3 (az bV) (cF fN (CL a b c d e f g h i j k l m n o p q) [⟨[],[0,1,2,3,4],[0,2,17,18,19]⟩,⟨[],[0,1,2,3,4],[0,2,17,18,19]⟩,⟨[],[0,1,2,3],[0,2]⟩]) (fun s=>cF fN (lk a b c d e f g h i j k l m n o p) [⟨[],[0,1,2,3,4],[0,2,17,18,19]⟩])
def CM(a:Int)(b:Nat)(c:Nat)(d:Nat)(e:Nat)(f:Int)(g:Int)(h:Nat)(i:Nat)(j:Nat)(k:List Nat)(l:List Nat)(m:List Nat)(n:Nat) :aW:=⟨ax 128 [(0,.ptr 0 1 0 0),(5,.flt false n),(35,.int .i64 a),(36,.int .i64 (0:Int))],[(0,.vs [.int .i64 a,.sl 1 1 1 0 b c,.sl 2 1 1 0 d e,.int .i64 f,.int .i64 g,.sl 3 1 1 0 h i,.flt false j,.nsl,.nsl]),(1,.fl k),(2,.fl l),(3,.fl m)],4⟩
def uy(a:Nat) :T ((Nat)⊕(bJ)) :=
  .leaf (.inl (cY 4386506037058863104 a))
def kC(a:Int)(b:Nat) :Nat×Int×Nat×Nat×Nat×Nat×Int×Int×Nat×Nat×Nat×Nat×Nat×Nat×Nat×(List Nat)×(List Nat)×(List Nat)×(List Int)×(List Int)→aW:=fun (c,d,e,f,g,h,i,j,k,l,m,n,o,p,q,r,s,t,u,v)=>⟨ax 128 [(0,.ptr 0 1 0 0),(5,.flt false b),(35,.int .i64 a),(36,.int .i64 ((c:Nat):Int))],[(0,.vs [.int .i64 d,.sl 1 1 1 0 e f,.sl 2 1 1 0 g h,.int .i64 i,.int .i64 j,.sl 3 1 1 0 k l,.flt false m,.sl 4 1 1 0 n o,.sl 5 1 1 0 p q]),(1,.fl r),(2,.fl s),(3,.fl t),(4,.ns .i64 u),(5,.ns .i64 v)],6⟩
def uz:Int×Nat×Nat×Nat×Nat×Int×Int×Nat×Nat×Nat×Nat×Nat×Nat×Nat×(List Nat)×(List Nat)×(List Nat)×(List Int)×(List Int)→aW:=fun (a,b,c,d,e,f,g,h,i,j,k,l,m,n,o,p,q,r,s)=>⟨ax 128 [(0,.ptr 0 1 0 0)],[(0,.vs [.int .i64 a,.sl 1 1 1 0 b c,.sl 2 1 1 0 d e,.int .i64 f,.int .i64 g,.sl 3 1 1 0 h i,.flt false j,.sl 4 1 1 0 k l,.sl 5 1 1 0 m n]),(1,.fl o),(2,.fl p),(3,.fl q),(4,.ns .i64 r),(5,.ns .i64 s)],6⟩
def B9:List Code:=cV (dm ((((((uu.drop 2).drop 1).drop 2).take 1)).headD .skip))
def Ca(a:Int)(b:Nat)(c:Nat)(d:Int)(e:Nat)(f:Nat)(g:Nat)(h:Nat)(i:Int)(j:Int)(k:Nat)(l:Nat)(m:Nat)(n:Nat)(o:Nat)(p:Nat)(q:Nat)(r:List Nat)(s:List Nat)(t:List Nat)(u:List Int)(v:List Int)(_:Unit) :aW:=⟨ax 128 [(0,.ptr 0 1 0 0),(5,.flt false b),(35,.int .i64 a),(36,.int .i64 ((c:Nat):Int))],[(0,.vs [.int .i64 d,.sl 1 1 1 0 e f,.sl 2 1 1 0 g h,.int .i64 i,.int .i64 j,.sl 3 1 1 0 k l,.flt false m,.sl 4 1 1 0 n o,.sl 5 1 1 0 p q]),(1,.fl r),(2,.fl s),(3,.fl t),(4,.ns .i64 u),(5,.ns .i64 v)],6⟩
def uA(a:Int)(b:Nat)(c:Int)(d:Nat)(e:Nat)(f:Nat)(g:Nat)(h:Int)(i:Int)(j:Nat)(k:Nat)(l:Nat)(m:Nat)(n:Nat)(o:Nat)(p:Nat)(q:List Nat)(r:List Nat)(s:List Nat)(t:List Int)(u:List Int) :T ((Unit)⊕((Int×Nat×Nat×Nat×Nat×Int×Int×Nat×Nat×Nat×Nat×Nat×Nat×Nat×(List Nat)×(List Nat)×(List Nat)×(List Int)×(List Int))⊕(bJ))) :=
  .ask (decide (((b:Nat):Int)<a))
    (.leaf (.inl ()))
    (.leaf (.inr (.inl (c,d,e,f,g,h,i,j,k,l,m,n,o,p,q,r,s,t,u))))
def uB(a:Int)(b:Nat)(c:Nat) :Int×Nat×Nat×Nat×Nat×Int×Int×Nat×Nat×Nat×Nat×Nat×Nat×Nat×(List Nat)×(List Nat)×(List Nat)×(List Int)×(List Int)→aW:=fun (d,e,f,g,h,i,j,k,l,m,n,o,p,q,r,s,t,u,v)=>⟨ax 128 [(0,.ptr 0 1 0 0),(5,.flt false b),(35,.int .i64 a),(36,.int .i64 ((c:Nat):Int))],[(0,.vs [.int .i64 d,.sl 1 1 1 0 e f,.sl 2 1 1 0 g h,.int .i64 i,.int .i64 j,.sl 3 1 1 0 k l,.flt false m,.sl 4 1 1 0 n o,.sl 5 1 1 0 p q]),(1,.fl r),(2,.fl s),(3,.fl t),(4,.ns .i64 u),(5,.ns .i64 v)],6⟩
def Cb(b:Int)(c:Nat)(a:Nat)(d:Nat) :Bool×Int×Nat×Nat×Nat×Nat×Int×Int×Nat×Nat×Nat×Nat×Nat×Nat×Nat×(List Nat)×(List Nat)×(List Nat)×(List Int)×(List Int)→aW:=fun (e,f,g,h,i,j,k,l,m,n,o,p,q,r,s,t,u,v,w,x)=>⟨ax 128 [(0,.ptr 0 1 0 0),(5,.flt false c),(6,.int .i64 ((a:Nat):Int)),(7,.int .i64 ((d:Nat):Int)),(35,.int .i64 b),(36,.int .i64 ((a:Nat):Int)),(84,.bool false e)],[(0,.vs [.int .i64 f,.sl 1 1 1 0 g h,.sl 2 1 1 0 i j,.int .i64 k,.int .i64 l,.sl 3 1 1 0 m n,.flt false o,.sl 4 1 1 0 p q,.sl 5 1 1 0 r s]),(1,.fl t),(2,.fl u),(3,.fl v),(4,.ns .i64 w),(5,.ns .i64 x)],6⟩
def uC(t:Nat)(d:Nat)(i:Int)(j:Nat)(k:Nat)(f:Nat)(l:Nat)(m:Int)(n:Int)(o:Nat)(p:Nat)(g:Nat)(a:Nat)(q:Nat)(c:Nat)(u:Nat)(r:List Nat)(e:List Nat)(s:List Nat)(b:List Int)(h:List Int) :T ((Bool×Int×Nat×Nat×Nat×Nat×Int×Int×Nat×Nat×Nat×Nat×Nat×Nat×Nat×(List Nat)×(List Nat)×(List Nat)×(List Int)×(List Int))⊕((Int×Nat×Nat×Nat×Nat×Int×Int×Nat×Nat×Nat×Nat×Nat×Nat×Nat×(List Nat)×(List Nat)×(List Nat)×(List Int)×(List Int))⊕((Int×Nat×Nat×Nat×Nat×Int×Int×Nat×Nat×Nat×Nat×Nat×Nat×Nat×(List Nat)×(List Nat)×(List Nat)×(List Int)×(List Int))⊕(bJ)))) :=
  .need (gg ((d:Nat):Int) f)<|.need (fo d (List.length e))<|.ask (WA (cY g (eE (List.getD e d 0))) t)
    (.need (pS ((c+1)*8) 140737488355328)<|.need (pS (c+1) 9223372036854775807)<|.need (pS 1 (List.length [((d:Nat):Int)]))<|.need (pS c (List.length h))<|.leaf (.inr (.inl (i,j,k,f,l,m,n,o,p,g,a,q,(c+1),(c+1),r,e,s,b,((List.take c h)++(List.take 1 [((d:Nat):Int)]))))))
    (.ask (decide (((a:Nat):Int)>(0:Int)))
      (.need (fI .i64 (((a:Nat):Int)-(1:Int)))<|.need (gg (((a:Nat):Int)-(1:Int)) a)<|.need (fo (Int.toNat (((a:Nat):Int)-(1:Int))) (List.length b))<|.need (kw (aS i j k f l m n o p g a q c u r e s b h (List.getD b (Int.toNat (((a:Nat):Int)-(1:Int))) 0) ((d:Nat):Int) t))<|.leaf (.inl ((nN (aS i j k f l m n o p g a q c u r e s b h (List.getD b (Int.toNat (((a:Nat):Int)-(1:Int))) 0) ((d:Nat):Int) t)),(nO (aS i j k f l m n o p g a q c u r e s b h (List.getD b (Int.toNat (((a:Nat):Int)-(1:Int))) 0) ((d:Nat):Int) t)),(nP (aS i j k f l m n o p g a q c u r e s b h (List.getD b (Int.toNat (((a:Nat):Int)-(1:Int))) 0) ((d:Nat):Int) t)),(nQ (aS i j k f l m n o p g a q c u r e s b h (List.getD b (Int.toNat (((a:Nat):Int)-(1:Int))) 0) ((d:Nat):Int) t)),(nR (aS i j k f l m n o p g a q c u r e s b h (List.getD b (Int.toNat (((a:Nat):Int)-(1:Int))) 0) ((d:Nat):Int) t)),(nS (aS i j k f l m n o p g a q c u r e s b h (List.getD b (Int.toNat (((a:Nat):Int)-(1:Int))) 0) ((d:Nat):Int) t)),(nT (aS i j k f l m n o p g a q c u r e s b h (List.getD b (Int.toNat (((a:Nat):Int)-(1:Int))) 0) ((d:Nat):Int) t)),(nU (aS i j k f l m n o p g a q c u r e s b h (List.getD b (Int.toNat (((a:Nat):Int)-(1:Int))) 0) ((d:Nat):Int) t)),(nV (aS i j k f l m n o p g a q c u r e s b h (List.getD b (Int.toNat (((a:Nat):Int)-(1:Int))) 0) ((d:Nat):Int) t)),(nW (aS i j k f l m n o p g a q c u r e s b h (List.getD b (Int.toNat (((a:Nat):Int)-(1:Int))) 0) ((d:Nat):Int) t)),(mw (aS i j k f l m n o p g a q c u r e s b h (List.getD b (Int.toNat (((a:Nat):Int)-(1:Int))) 0) ((d:Nat):Int) t)),(my (aS i j k f l m n o p g a q c u r e s b h (List.getD b (Int.toNat (((a:Nat):Int)-(1:Int))) 0) ((d:Nat):Int) t)),(mz (aS i j k f l m n o p g a q c u r e s b h (List.getD b (Int.toNat (((a:Nat):Int)-(1:Int))) 0) ((d:Nat):Int) t)),(mA (aS i j k f l m n o p g a q c u r e s b h (List.getD b (Int.toNat (((a:Nat):Int)-(1:Int))) 0) ((d:Nat):Int) t)),(mB (aS i j k f l m n o p g a q c u r e s b h (List.getD b (Int.toNat (((a:Nat):Int)-(1:Int))) 0) ((d:Nat):Int) t)),(mC (aS i j k f l m n o p g a q c u r e s b h (List.getD b (Int.toNat (((a:Nat):Int)-(1:Int))) 0) ((d:Nat):Int) t)),(mD (aS i j k f l m n o p g a q c u r e s b h (List.getD b (Int.toNat (((a:Nat):Int)-(1:Int))) 0) ((d:Nat):Int) t)),(mE (aS i j k f l m n o p g a q c u r e s b h (List.getD b (Int.toNat (((a:Nat):Int)-(1:Int))) 0) ((d:Nat):Int) t)),(mF (aS i j k f l m n o p g a q c u r e s b h (List.getD b (Int.toNat (((a:Nat):Int)-(1:Int))) 0) ((d:Nat):Int) t)),(mG (aS i j k f l m n o p g a q c u r e s b h (List.getD b (Int.toNat (((a:Nat):Int)-(1:Int))) 0) ((d:Nat):Int) t)))))
      (.leaf (.inl (false,i,j,k,f,l,m,n,o,p,g,a,q,c,u,r,e,s,b,h))))
def Cc(b:Int)(c:Nat)(a:Nat)(d:Int)(e:Nat)(f:Nat)(g:Nat)(h:Nat)(i:Int)(j:Int)(k:Nat)(l:Nat)(m:Nat)(n:Nat)(o:List Nat)(p:List Nat)(q:List Nat)(r:List Int) :Nat×Nat×Nat×(List Int)→aW:=fun (s,t,u,v)=>⟨ax 128 [(0,.ptr 0 1 0 0),(5,.flt false c),(6,.int .i64 ((a:Nat):Int)),(35,.int .i64 b),(36,.int .i64 ((a:Nat):Int))],[(0,.vs [.int .i64 d,.sl 1 1 1 0 e f,.sl 2 1 1 0 g h,.int .i64 i,.int .i64 j,.sl 3 1 1 0 k l,.flt false m,.sl 4 1 1 0 s n,.sl 5 1 1 0 t u]),(1,.fl o),(2,.fl p),(3,.fl q),(4,.ns .i64 r),(5,.ns .i64 v)],6⟩
def uD(a:Nat)(f:Bool)(e:Nat)(g:Nat)(b:Nat)(h:Nat)(c:List Int)(d:List Int) :T ((Nat×Nat×Nat×(List Int))⊕((Int×Nat×Nat×Nat×Nat×Int×Int×Nat×Nat×Nat×Nat×Nat×Nat×Nat×(List Nat)×(List Nat)×(List Nat)×(List Int)×(List Int))⊕((Int×Nat×Nat×Nat×Nat×Int×Int×Nat×Nat×Nat×Nat×Nat×Nat×Nat×(List Nat)×(List Nat)×(List Nat)×(List Int)×(List Int))⊕(bJ)))) :=
  .ask f
    (.need (fI .i64 (((a:Nat):Int)-(1:Int)))<|.need (gg (((a:Nat):Int)-(1:Int)) e)<|.need (fo (Int.toNat (((a:Nat):Int)-(1:Int))) (List.length c))<|.need (pS ((b+1)*8) 140737488355328)<|.need (pS (b+1) 9223372036854775807)<|.need (pS 1 (List.length [(List.getD c (Int.toNat (((a:Nat):Int)-(1:Int))) 0)]))<|.need (pS b (List.length d))<|.need (fI .i64 (((a:Nat):Int)-(1:Int)))<|.need (Ay (((a:Nat):Int)-(1:Int)) g)<|.need (Ay (0:Int) (Int.toNat (((a:Nat):Int)-(1:Int))))<|.leaf (.inl ((Int.toNat (((a:Nat):Int)-(1:Int))),(b+1),(b+1),((List.take b d)++(List.take 1 [(List.getD c (Int.toNat (((a:Nat):Int)-(1:Int))) 0)])))))
    (.leaf (.inl (e,b,h,d)))
def uE(b:Nat)(d:Int)(e:Nat)(f:Nat)(g:Nat)(h:Nat)(i:Int)(j:Int)(k:Nat)(l:Nat)(m:Nat)(n:List Nat)(o:List Nat)(p:List Nat)(c:List Int)(a:Nat)(q:Nat)(r:Nat)(s:List Int) :T ((Int×Nat×Nat×Nat×Nat×Int×Int×Nat×Nat×Nat×Nat×Nat×Nat×Nat×(List Nat)×(List Nat)×(List Nat)×(List Int)×(List Int))⊕((Int×Nat×Nat×Nat×Nat×Int×Int×Nat×Nat×Nat×Nat×Nat×Nat×Nat×(List Nat)×(List Nat)×(List Nat)×(List Int)×(List Int))⊕((Int×Nat×Nat×Nat×Nat×Int×Int×Nat×Nat×Nat×Nat×Nat×Nat×Nat×(List Nat)×(List Nat)×(List Nat)×(List Int)×(List Int))⊕(bJ)))) :=
  .need (pS ((a+1)*8) 140737488355328)<|.need (pS (a+1) 9223372036854775807)<|.need (pS 1 (List.length [((b:Nat):Int)]))<|.need (pS a (List.length c))<|.leaf (.inl (d,e,f,g,h,i,j,k,l,m,(a+1),(a+1),q,r,n,o,p,((List.take a c)++(List.take 1 [((b:Nat):Int)])),s))
def uF(a:Nat)(b:Int)(c:Nat)(d:Nat)(e:Nat)(f:Nat)(g:Int)(h:Int)(i:Nat)(j:Nat)(k:Nat)(l:Nat)(m:Nat)(n:Nat)(o:Nat)(p:List Nat)(q:List Nat)(r:List Nat)(s:List Int)(t:List Int) :T ((Nat×Int×Nat×Nat×Nat×Nat×Int×Int×Nat×Nat×Nat×Nat×Nat×Nat×Nat×(List Nat)×(List Nat)×(List Nat)×(List Int)×(List Int))⊕((Int×Nat×Nat×Nat×Nat×Int×Int×Nat×Nat×Nat×Nat×Nat×Nat×Nat×(List Nat)×(List Nat)×(List Nat)×(List Int)×(List Int))⊕(bJ))) :=
  .need (fI .i64 (((a+1):Nat):Int))<|.leaf (.inl ((a+1),b,c,d,e,f,g,h,i,j,k,l,m,n,o,p,q,r,s,t))
def kD(v:Int)(w:Nat) :Nat×Int×Nat×Nat×Nat×Nat×Int×Int×Nat×Nat×Nat×Nat×Nat×Nat×Nat×(List Nat)×(List Nat)×(List Nat)×(List Int)×(List Int)→Option ((Nat×Int×Nat×Nat×Nat×Nat×Int×Int×Nat×Nat×Nat×Nat×Nat×Nat×Nat×(List Nat)×(List Nat)×(List Nat)×(List Int)×(List Int))⊕((Int×Nat×Nat×Nat×Nat×Int×Int×Nat×Nat×Nat×Nat×Nat×Nat×Nat×(List Nat)×(List Nat)×(List Nat)×(List Int)×(List Int))⊕(bJ))):=fun (a,c,d,e,f,g,h,i,j,k,l,b,m,n,o,p,q,r,s,t) =>
  bd ((uA v a c d e f g h i j k l b m n o p q r s t).run) fun _ =>
  bd (vO (bd ((uC w a c d e f g h i j k l b m n o p q r s t).run) fun (x,y,z,A,B,C,D,E,F,G,H,I,J,K,L,M,N,O,u,P) =>
  bd ((uD b x I J K L u P).run) fun (Q,R,S,T) =>
  (uE a y z A B C D E F G H M N O u Q R S T).run)) fun (U,V,W,X,Y,Z,a0,a1,a2,a3,a4,a5,a6,a7,a8,a9,b0,b1,b2) =>
  (uF a U V W X Y Z a0 a1 a2 a3 a4 a5 a6 a7 a8 a9 b0 b1 b2).run
theorem Cd(a:Int)(w:Nat)(x:Nat)(y:Nat)(z:Nat)(A:Int)(B:Int)(C:Nat)(D:Nat)(E:Nat)(F:List Nat)(G:List Nat)(H:List Nat)(b:Nat)(c:Nat)(e:Int)(f:Nat)(g:Nat)(h:Nat)(i:Nat)(j:Int)(k:Int)(l:Nat)(m:Nat)(n:Nat)(d:Nat)(o:Nat)(p:Nat)(q:Nat)(r:List Nat)(s:List Nat)(t:List Nat)(u:List Int)(v:List Int) :Sg prog [.vs [.int .i64 a,.sl 1 1 1 0 w x,.sl 2 1 1 0 y z,.int .i64 A,.int .i64 B,.sl 3 1 1 0 C D,.flt false E,.nsl,.nsl],.fl F,.fl G,.fl H] B9 (kC a b (c,e,f,g,h,i,j,k,l,m,n,d,o,p,q,r,s,t,u,v)) (kD a b (c,e,f,g,h,i,j,k,l,m,n,d,o,p,q,r,s,t,u,v)) (kC a b) (co 2 uz jB):=by
  unfold kD;exact Sg.cut 2 (az bV) (cF fN (Ca a b c e f g h i j k l m n d o p q r s t u v) [⟨[],[0,1,2,3,4,5],[0,5,35,36]⟩,⟨[],[0,1,2,3,4,5],[0]⟩]) (fun _=>Sg.cut 1 (az bV) (UR (uB a b c) 3 (az bV) (cW (by decide) (qs _)) (Sg.cut 5 (az (az bV)) (cF fN (Cb a b c d) [⟨[],[0,1,2,3,4,390],[0,5,35,36]⟩,⟨[],[0,1,2,3,4,5],[0,5,6,7,35,36,84]⟩,⟨[],[0,1,2,3,4,5],[0,5,6,7,35,36,84]⟩]) (fun ⟨X,I,J,K,L,M,N,O,P,Q,R,Y,S,Z,a0,T,U,V,W,a1⟩=>Sg.cut 1 (az (az bV)) (cF fN (Cc a b c I J K L M N O P Q R S T U V W) [⟨[],[0,1,2,3,4,230],[0,5,6,35,36]⟩,⟨[],[0,1,2,3,4,5],[0,5,6,35,36]⟩]) (fun ⟨a2,a3,a4,a5⟩=>cF fN (uB a b c) [⟨[],[0,1,2,3,118,5],[0,5,35,36]⟩])))) (fun ⟨a6,a7,a8,a9,b0,b1,b2,b3,b4,b5,b6,b7,b8,b9,c0,c1,c2,c3,c4⟩=>cF fN (kC a b) [⟨[],[0,1,2,3,4,5],[0,5,35,36]⟩]))
def uG(c:Int)(d:Nat)(e:Nat)(f:Nat)(g:Nat)(h:Int)(i:Int)(j:Nat)(k:Nat)(l:Nat)(m:Nat)(n:Nat)(a:Nat)(o:Nat)(p:List Nat)(q:List Nat)(r:List Nat)(s:List Int)(b:List Int) :T ((Int×Nat×Nat×Nat×Nat×Int×Int×Nat×Nat×Nat×Nat×Nat×Nat×Nat×(List Nat)×(List Nat)×(List Nat)×(List Int)×(List Int))⊕(bJ)) :=
  .need (v9 (ur b 0 a))<|.leaf (.inl (c,d,e,f,g,h,i,j,k,l,m,n,a,o,p,q,r,s,(xh (ur b 0 a))))
def wa:(Int×Nat×Nat×Nat×Nat×Int×Int×Nat×Nat×Nat×Nat×Nat×Nat×Nat×(List Nat)×(List Nat)×(List Nat)×(List Int)×(List Int))⊕(bJ)→aT
  | .inl (a,b,c,d,e,f,g,h,i,j,k,l,m,n,o,p,q,r,s)=>(.r0 a b c d e f g h i j k l m n o p q r s)
def aV(a:Int)(b:Nat)(e:Nat)(f:Nat)(g:Nat)(h:Int)(i:Int)(j:Nat)(k:Nat)(c:Nat)(d:List Nat)(l:List Nat)(m:List Nat) :Option aT:=Option.map wa (bd ((uv b c d).run) fun (n,o,p) =>
  bd (cu (kB n o p) (0,0)) fun q =>
  bd ((uy q).run) fun r =>
  bd (cu (kD a r) (0,a,b,e,f,g,h,i,j,k,c,0,0,0,0,d,l,m,([]:List Int),([]:List Int))) fun (s,t,u,v,w,x,y,z,A,B,C,D,E,F,G,H,I,J,K) =>
  (uG s t u v w x y z A B C D E F G H I J K).run)
theorem CN(a:Int)(b:Nat)(c:Nat)(d:Nat)(e:Nat)(f:Int)(g:Int)(i:Nat)(j:Nat)(k:Nat)(l:List Nat)(m:List Nat)(n:List Nat){x:aT}(h:aV a b c d e f g i j k l m n=some x) :aH prog lL [.vs [.int .i64 a,.sl 1 1 1 0 b c,.sl 2 1 1 0 d e,.int .i64 f,.int .i64 g,.sl 3 1 1 0 i j,.flt false k,.nsl,.nsl],.fl l,.fl m,.fl n] [.ptr 0 1 0 0] (qJ x) :=
  MH false qJ ut jB wa h (Sg.cut 2 bV (cF fN (CJ a b c d e f g i j k l m n) [⟨[],[0,1,2,3,164],[0,2,17,18,19]⟩]) (fun ⟨o,p,q⟩=>Sg.cut 1 bV (yE ⟨[],[0,1,2,3,4],[0,2,17,18,19]⟩ (lk a b c d e f g i j k l m n o p q) (vw a b c d e f g i j k l m n) 0 bV (qs _) (fun ⟨s,t⟩=>B8 a b c d e f g i j k l m n o p q s t)) (fun P=>Sg.cut 2 bV (cF fN (CM a b c d e f g i j k l m n) [⟨[],[0,1,2,3],[0,5,35,36]⟩]) (fun r=>Sg.cut 1 bV (yE ⟨[(.cell 0 7,.own 1 1 (.ns .i64 ([]:List Int))),(.cell 0 8,.own 1 1 (.ns .i64 ([]:List Int)))],[0,1,2,3,4,5],[0,5,35,36]⟩ (kC a r) (uz) 2 bV (qs _) (fun ⟨u,v,w,y,z,A,B,C,D,E,F,G,H,I,J,K,L,M,N,O⟩=>Cd a b c d e f g i j k l m n r u v w y z A B C D E F G H I J K L M N O)) (fun ⟨Q,R,S,T,U,V,W,X,Y,Z,a0,a3,a4,a5,a7,a8,a9,b0,b1⟩=>cF fN ut [⟨[],[0,1,2,3,4,5],[]⟩])))))
    (fun ⟨b2,b3,b4,b5,b6,b7,b8,b9,c0,c1,c2,c3,c4,c5,c6,c7,c8,c9,d0⟩=>MG []) (fun x=>by cases x)
def lm:Option aT→Bool
  | some _=>true
  | none=>false
def oQ:Option aT→Int
  | some (.r0 x _ _ _ _ _ _ _ _ _ _ _ _ _ _ _ _ _ _)=>x
  | _=>0
def oR:Option aT→Nat
  | some (.r0 _ x _ _ _ _ _ _ _ _ _ _ _ _ _ _ _ _ _)=>x
  | _=>0
def oS:Option aT→Nat
  | some (.r0 _ _ x _ _ _ _ _ _ _ _ _ _ _ _ _ _ _ _)=>x
  | _=>0
def oT:Option aT→Nat
  | some (.r0 _ _ _ x _ _ _ _ _ _ _ _ _ _ _ _ _ _ _)=>x
  | _=>0
def oU:Option aT→Nat
  | some (.r0 _ _ _ _ x _ _ _ _ _ _ _ _ _ _ _ _ _ _)=>x
  | _=>0
def oV:Option aT→Int
  | some (.r0 _ _ _ _ _ x _ _ _ _ _ _ _ _ _ _ _ _ _)=>x
  | _=>0
def oW:Option aT→Int
  | some (.r0 _ _ _ _ _ _ x _ _ _ _ _ _ _ _ _ _ _ _)=>x
  | _=>0
def oX:Option aT→Nat
  | some (.r0 _ _ _ _ _ _ _ x _ _ _ _ _ _ _ _ _ _ _)=>x
  | _=>0
def oY:Option aT→Nat
  | some (.r0 _ _ _ _ _ _ _ _ x _ _ _ _ _ _ _ _ _ _)=>x
  | _=>0
def oZ:Option aT→Nat
  | some (.r0 _ _ _ _ _ _ _ _ _ x _ _ _ _ _ _ _ _ _)=>x
  | _=>0
def oa:Option aT→Nat
  | some (.r0 _ _ _ _ _ _ _ _ _ _ x _ _ _ _ _ _ _ _)=>x
  | _=>0
def oc:Option aT→Nat
  | some (.r0 _ _ _ _ _ _ _ _ _ _ _ x _ _ _ _ _ _ _)=>x
  | _=>0
def od:Option aT→Nat
  | some (.r0 _ _ _ _ _ _ _ _ _ _ _ _ x _ _ _ _ _ _)=>x
  | _=>0
def oe:Option aT→Nat
  | some (.r0 _ _ _ _ _ _ _ _ _ _ _ _ _ x _ _ _ _ _)=>x
  | _=>0
def og:Option aT→List Nat
  | some (.r0 _ _ _ _ _ _ _ _ _ _ _ _ _ _ x _ _ _ _)=>x
  | _=>[]
def oh:Option aT→List Nat
  | some (.r0 _ _ _ _ _ _ _ _ _ _ _ _ _ _ _ x _ _ _)=>x
  | _=>[]
def oi:Option aT→List Nat
  | some (.r0 _ _ _ _ _ _ _ _ _ _ _ _ _ _ _ _ x _ _)=>x
  | _=>[]
def oj:Option aT→List Int
  | some (.r0 _ _ _ _ _ _ _ _ _ _ _ _ _ _ _ _ _ x _)=>x
  | _=>[]
def ol:Option aT→List Int
  | some (.r0 _ _ _ _ _ _ _ _ _ _ _ _ _ _ _ _ _ _ x)=>x
  | _=>[]
theorem CO{x:Option aT}(h:lm x=true) :x=some (.r0 (oQ x) (oR x) (oS x) (oT x) (oU x) (oV x) (oW x) (oX x) (oY x) (oZ x) (oa x) (oc x) (od x) (oe x) (og x) (oh x) (oi x) (oj x) (ol x)):=by
  unfold lm at h
  split at h<;>first | rfl | (cases h;done) | (rename_i y;cases y;rfl)
def wb:bC:=yZ lL [.vs [.int .i64,.lsl0 1,.lsl0 2,.int .i64,.int .i64,.lsl0 3,.flt,.nsl,.nsl],.fl,.fl,.fl] (.cons (.lptr 0 1 0 0) .nil) fun x t=>(fun q=>[⟨qJ (.r0 (oQ q) (oR q) (oS q) (oT q) (oU q) (oV q) (oW q) (oX q) (oY q) (oZ q) (oa q) (oc q) (od q) (oe q) (og q) (oh q) (oi q) (oj q) (ol q)),[lm q]⟩]) (aV x.1.1 x.1.2.1.1 x.1.2.1.2 x.1.2.2.1.1 x.1.2.2.1.2 x.1.2.2.2.1 x.1.2.2.2.2.1 x.1.2.2.2.2.2.1.1 x.1.2.2.2.2.2.1.2 x.1.2.2.2.2.2.2.1 x.2.1 x.2.2.1 x.2.2.2.1)
theorem AM:bZ prog wb:=pE fun x t=>(jZ (fun h=>CN x.1.1 x.1.2.1.1 x.1.2.1.2 x.1.2.2.1.1 x.1.2.2.1.2 x.1.2.2.2.1 x.1.2.2.2.2.1 x.1.2.2.2.2.2.1.1 x.1.2.2.2.2.2.1.2 x.1.2.2.2.2.2.2.1 x.2.1 x.2.2.1 x.2.2.2.1 (CO h)) pF)
def wc:List bC:=wb::Hp
theorem jN:cQ prog (cX wc):=aY AM fN
inductive bz where
inductive ag where
  | r0 (a:Int) (b:Nat) (c:Nat) (d:Nat) (e:Nat) (f:Int) (g:Int) (h:Nat) (i:Nat) (j:Nat) (k:Nat) (l:Nat) (m:Nat) (n:Nat) (o:List Nat) (p:List Nat) (q:List Nat) (r:List Int) (s:List Int) (t:Int) (u:Int) (v:Int) (w:Nat) (x:Nat) (y:List Nat)
def cS:bz→AE×aW:=fun x=>nomatch x
theorem eS:xN cS:=by intro x;cases x<;>(intro h;cases h)
theorem mY(id:Nat) :rh id cS:=by intro x;cases x<;>(intro h;cases h)
def eZ:ag→rF
  | .r0 a b c d e f g h i j k l m n o p q r s t u v w x y=>⟨.tup [],[some (.vs [.ptr 1 1 0 0]),some (.vs [.int .i64 a,.sl 2 1 1 0 b c,.sl 3 1 1 0 d e,.int .i64 f,.int .i64 g,.sl 4 1 1 0 h i,.flt false j,.sl 5 1 1 0 k l,.sl 6 1 1 0 m n]),some (.fl o),some (.fl p),some (.fl q),some (.ns .i64 r),some (.ns .i64 s),some (.vs [.int .i64 t]),some (.vs [.int .i64 u,.int .i64 v,.sl 9 1 1 0 w x]),some (.fl y)]⟩
def gY:Int×Nat×Nat×Nat×Nat×Int×Int×Nat×Nat×Nat×Nat×Nat×Nat×Nat×(List Nat)×(List Nat)×(List Nat)×(List Int)×(List Int)×Int×Int×Int×Nat×Nat×(List Nat)→aW:=fun (a,b,c,d,e,f,g,h,i,j,k,l,m,n,o,p,q,r,s,t,u,v,w,x,y)=>⟨ax 29 [],[(0,.vs [.ptr 1 1 0 0]),(1,.vs [.int .i64 a,.sl 2 1 1 0 b c,.sl 3 1 1 0 d e,.int .i64 f,.int .i64 g,.sl 4 1 1 0 h i,.flt false j,.sl 5 1 1 0 k l,.sl 6 1 1 0 m n]),(2,.fl o),(3,.fl p),(4,.fl q),(5,.ns .i64 r),(6,.ns .i64 s),(7,.vs [.int .i64 t]),(8,.vs [.int .i64 u,.int .i64 v,.sl 9 1 1 0 w x]),(9,.fl y)],10⟩
def mZ:List Code:=cV (qT ap)
def na(a:Int)(b:Nat)(c:Nat)(d:Nat)(e:Nat)(f:Int)(g:Int)(h:Nat)(i:Nat)(j:Nat)(k:Nat)(l:Nat)(m:Nat)(n:Nat)(o:List Nat)(p:List Nat)(q:List Nat)(r:List Int)(s:List Int)(t:Int)(u:Int)(v:Int)(w:Nat)(x:Nat)(y:List Nat)(z:Int)(_:Unit) :aW:=⟨ax 29 [(0,.int .i64 z),(1,.fn (.func kq) [] [.ptr 0 1 0 0,.ptr 7 1 0 0]),(2,.ptr 0 1 0 0),(3,.ptr 8 1 0 0),(10,.int .i64 a),(11,.int .i64 (0:Int))],[(0,.vs [.ptr 1 1 0 0]),(1,.vs [.int .i64 a,.sl 2 1 1 0 b c,.sl 3 1 1 0 d e,.int .i64 f,.int .i64 g,.sl 4 1 1 0 h i,.flt false j,.sl 5 1 1 0 k l,.sl 6 1 1 0 m n]),(2,.fl o),(3,.fl p),(4,.fl q),(5,.ns .i64 r),(6,.ns .i64 s),(7,.vs [.int .i64 t]),(8,.vs [.int .i64 u,.int .i64 v,.sl 9 1 1 0 w x]),(9,.fl y)],10⟩
def gZ:T ((Unit)⊕(bz)) :=
  .leaf (.inl ())
def cJ(a:Int)(b:Nat)(c:Nat)(d:Nat)(e:Nat)(f:Int)(g:Int)(h:Nat)(i:Nat)(j:Nat)(k:Nat)(l:Nat)(m:Nat)(n:Nat)(o:List Nat)(p:List Nat)(q:List Nat)(r:List Int)(s:List Int)(t:Int)(u:Int)(v:Int)(w:Nat)(x:Nat)(y:Int) :Nat×(List Nat)→aW:=fun (z,A)=>⟨ax 29 [(0,.int .i64 y),(1,.fn (.func kq) [] [.ptr 0 1 0 0,.ptr 7 1 0 0]),(2,.ptr 0 1 0 0),(3,.ptr 8 1 0 0),(10,.int .i64 a),(11,.int .i64 ((z:Nat):Int))],[(0,.vs [.ptr 1 1 0 0]),(1,.vs [.int .i64 a,.sl 2 1 1 0 b c,.sl 3 1 1 0 d e,.int .i64 f,.int .i64 g,.sl 4 1 1 0 h i,.flt false j,.sl 5 1 1 0 k l,.sl 6 1 1 0 m n]),(2,.fl o),(3,.fl p),(4,.fl q),(5,.ns .i64 r),(6,.ns .i64 s),(7,.vs [.int .i64 t]),(8,.vs [.int .i64 u,.int .i64 v,.sl 9 1 1 0 w x]),(9,.fl A)],10⟩
def hJ(a:Int)(b:Nat)(c:Nat)(d:Nat)(e:Nat)(f:Int)(g:Int)(h:Nat)(i:Nat)(j:Nat)(k:Nat)(l:Nat)(m:Nat)(n:Nat)(o:List Nat)(p:List Nat)(q:List Nat)(r:List Int)(s:List Int)(t:Int)(u:Int)(v:Int)(w:Nat)(x:Nat)(y:(List Nat)) :aW:=⟨ax 29 [],[(0,.vs [.ptr 1 1 0 0]),(1,.vs [.int .i64 a,.sl 2 1 1 0 b c,.sl 3 1 1 0 d e,.int .i64 f,.int .i64 g,.sl 4 1 1 0 h i,.flt false j,.sl 5 1 1 0 k l,.sl 6 1 1 0 m n]),(2,.fl o),(3,.fl p),(4,.fl q),(5,.ns .i64 r),(6,.ns .i64 s),(7,.vs [.int .i64 t]),(8,.vs [.int .i64 u,.int .i64 v,.sl 9 1 1 0 w x]),(9,.fl y)],10⟩
def nc:List Code:=cV (dm ((((mZ.drop 1).take 1)).headD .skip))
def gK(b:Int)(g:Nat)(f:List Nat)(c:Int)(h:Nat)(d:Int)(a:Nat)(e:List Nat) :T ((Nat×(List Nat))⊕(((List Nat))⊕(bz))) :=
  .ask (decide (((a:Nat):Int)<b))
    (.need (fI .i64 (((a:Nat):Int)*b))<|.need (fI .i64 ((((a:Nat):Int)*b)+d))<|.need (fI .i64 (((a:Nat):Int)*b))<|.need (fI .i64 ((((a:Nat):Int)*b)+c))<|.need (gg ((((a:Nat):Int)*b)+c) g)<|.need (fo (Int.toNat ((((a:Nat):Int)*b)+c)) (List.length f))<|.need (gg ((((a:Nat):Int)*b)+d) h)<|.need (fo (Int.toNat ((((a:Nat):Int)*b)+d)) (List.length e))<|.need (fI .i64 (((a+1):Nat):Int))<|.leaf (.inl ((a+1),(List.set e (Int.toNat ((((a:Nat):Int)*b)+d)) (List.getD f (Int.toNat ((((a:Nat):Int)*b)+c)) 0)))))
    (.leaf (.inr (.inl e)))
def cD(a:Int)(b:Nat)(c:List Nat)(d:Int)(e:Nat)(f:Int) :Nat×(List Nat)→Option ((Nat×(List Nat))⊕(((List Nat))⊕(bz))):=fun (g,h) =>
  (gK a b c d e f g h).run
theorem mH(a:Int)(f:Nat)(g:Nat)(h:Nat)(i:Nat)(j:Int)(k:Int)(b:Nat)(l:Nat)(m:Nat)(n:Nat)(o:Nat)(p:Nat)(q:Nat)(r:List Nat)(s:List Nat)(c:List Nat)(t:List Int)(u:List Int)(d:Int)(v:Int)(w:Int)(e:Nat)(x:Nat)(B:List Nat)(y:Int)(z:Nat)(A:List Nat) :Sg prog [.vs [.ptr 1 1 0 0],.vs [.int .i64 a,.sl 2 1 1 0 f g,.sl 3 1 1 0 h i,.int .i64 j,.int .i64 k,.sl 4 1 1 0 b l,.flt false m,.sl 5 1 1 0 n o,.sl 6 1 1 0 p q],.fl r,.fl s,.fl c,.ns .i64 t,.ns .i64 u,.vs [.int .i64 d],.vs [.int .i64 v,.int .i64 w,.sl 9 1 1 0 e x],.fl B] nc (cJ a f g h i j k b l m n o p q r s c t u d v w e x y (z,A)) (cD a b c d e y (z,A)) (cJ a f g h i j k b l m n o p q r s c t u d v w e x y) (co 0 (hJ a f g h i j k b l m n o p q r s c t u d v w e x) cS):=by
  unfold cD;exact cF jN (cJ a f g h i j k b l m n o p q r s c t u d v w e x y) [⟨[],[0,1,2,3,4,5,6,7,8,9],[0,1,2,3,10,11]⟩,⟨[],[0,1,2,3,4,5,6,7,8,9],[]⟩]
def gL(a:Int)(b:Nat)(c:Nat)(d:Nat)(e:Nat)(f:Int)(g:Int)(h:Nat)(i:Nat)(j:Nat)(k:Nat)(l:Nat)(m:Nat)(n:Nat)(o:List Nat)(p:List Nat)(q:List Nat)(r:List Int)(s:List Int)(t:Int)(u:Int)(v:Int)(w:Nat)(x:Nat)(y:List Nat) :T ((Int×Nat×Nat×Nat×Nat×Int×Int×Nat×Nat×Nat×Nat×Nat×Nat×Nat×(List Nat)×(List Nat)×(List Nat)×(List Int)×(List Int)×Int×Int×Int×Nat×Nat×(List Nat))⊕(bz)) :=
  .leaf (.inl (a,b,c,d,e,f,g,h,i,j,k,l,m,n,o,p,q,r,s,t,u,v,w,x,y))
def io:(Int×Nat×Nat×Nat×Nat×Int×Int×Nat×Nat×Nat×Nat×Nat×Nat×Nat×(List Nat)×(List Nat)×(List Nat)×(List Int)×(List Int)×Int×Int×Int×Nat×Nat×(List Nat))⊕(bz)→ag
  | .inl (a,b,c,d,e,f,g,h,i,j,k,l,m,n,o,p,q,r,s,t,u,v,w,x,y)=>(.r0 a b c d e f g h i j k l m n o p q r s t u v w x y)
def ai(a:Int)(f:Nat)(g:Nat)(h:Nat)(i:Nat)(j:Int)(k:Int)(b:Nat)(l:Nat)(m:Nat)(n:Nat)(o:Nat)(p:Nat)(q:Nat)(r:List Nat)(s:List Nat)(c:List Nat)(t:List Int)(u:List Int)(d:Int)(v:Int)(w:Int)(e:Nat)(x:Nat)(y:List Nat)(z:Int) :Option ag:=Option.map io (bd ((gZ).run) fun _ =>
  bd (cu (cD a b c d e z) (0,y)) fun A =>
  (gL a f g h i j k b l m n o p q r s c t u d v w e x A).run)
theorem ng(a:Int)(b:Nat)(c:Nat)(d:Nat)(e:Nat)(f:Int)(g:Int)(i:Nat)(j:Nat)(k:Nat)(l:Nat)(m:Nat)(n:Nat)(o:Nat)(p:List Nat)(q:List Nat)(r:List Nat)(s:List Int)(t:List Int)(u:Int)(v:Int)(w:Int)(y:Nat)(z:Nat)(B:List Nat)(A:Int){x:ag}(h:ai a b c d e f g i j k l m n o p q r s t u v w y z B A=some x) :aH prog ap [.vs [.ptr 1 1 0 0],.vs [.int .i64 a,.sl 2 1 1 0 b c,.sl 3 1 1 0 d e,.int .i64 f,.int .i64 g,.sl 4 1 1 0 i j,.flt false k,.sl 5 1 1 0 l m,.sl 6 1 1 0 n o],.fl p,.fl q,.fl r,.ns .i64 s,.ns .i64 t,.vs [.int .i64 u],.vs [.int .i64 v,.int .i64 w,.sl 9 1 1 0 y z],.fl B] [.int .i64 A,.fn (.func kq) [] [.ptr 0 1 0 0,.ptr 7 1 0 0],.ptr 0 1 0 0,.ptr 8 1 0 0] (eZ x) :=
  MH false eZ gY cS io h (Sg.cut 1 eS (cF jN (na a b c d e f g i j k l m n o p q r s t u v w y z B A) [⟨[],[0,1,2,3,4,5,6,7,8,9],[0,1,2,3,10,11]⟩]) (fun _=>Sg.cut 1 eS (yE ⟨[],[0,1,2,3,4,5,6,7,8,9],[0,1,2,3,10,11]⟩ (cJ a b c d e f g i j k l m n o p q r s t u v w y z A) (hJ a b c d e f g i j k l m n o p q r s t u v w y z) 0 eS (mY _) (fun ⟨C,D⟩=>mH a b c d e f g i j k l m n o p q r s t u v w y z B A C D)) (fun E=>cF jN gY [⟨[],[0,1,2,3,4,5,6,7,8,9],[]⟩])))
    (fun ⟨F,G,H,I,J,K,L,M,N,O,P,Q,R,S,T,U,V,W,X,Y,Z,a0,a2,a3,a4⟩=>MG []) (fun x=>by cases x)
def cK:Option ag→Bool
  | some _=>true
  | none=>false
def dY:Option ag→Int
  | some (.r0 x _ _ _ _ _ _ _ _ _ _ _ _ _ _ _ _ _ _ _ _ _ _ _ _)=>x
  | _=>0
def dZ:Option ag→Nat
  | some (.r0 _ x _ _ _ _ _ _ _ _ _ _ _ _ _ _ _ _ _ _ _ _ _ _ _)=>x
  | _=>0
def ef:Option ag→Nat
  | some (.r0 _ _ x _ _ _ _ _ _ _ _ _ _ _ _ _ _ _ _ _ _ _ _ _ _)=>x
  | _=>0
def eg:Option ag→Nat
  | some (.r0 _ _ _ x _ _ _ _ _ _ _ _ _ _ _ _ _ _ _ _ _ _ _ _ _)=>x
  | _=>0
def eh:Option ag→Nat
  | some (.r0 _ _ _ _ x _ _ _ _ _ _ _ _ _ _ _ _ _ _ _ _ _ _ _ _)=>x
  | _=>0
def ei:Option ag→Int
  | some (.r0 _ _ _ _ _ x _ _ _ _ _ _ _ _ _ _ _ _ _ _ _ _ _ _ _)=>x
  | _=>0
def ej:Option ag→Int
  | some (.r0 _ _ _ _ _ _ x _ _ _ _ _ _ _ _ _ _ _ _ _ _ _ _ _ _)=>x
  | _=>0
def ek:Option ag→Nat
  | some (.r0 _ _ _ _ _ _ _ x _ _ _ _ _ _ _ _ _ _ _ _ _ _ _ _ _)=>x
  | _=>0
def em:Option ag→Nat
  | some (.r0 _ _ _ _ _ _ _ _ x _ _ _ _ _ _ _ _ _ _ _ _ _ _ _ _)=>x
  | _=>0
def en:Option ag→Nat
  | some (.r0 _ _ _ _ _ _ _ _ _ x _ _ _ _ _ _ _ _ _ _ _ _ _ _ _)=>x
  | _=>0
def dt:Option ag→Nat
  | some (.r0 _ _ _ _ _ _ _ _ _ _ x _ _ _ _ _ _ _ _ _ _ _ _ _ _)=>x
  | _=>0
def du:Option ag→Nat
  | some (.r0 _ _ _ _ _ _ _ _ _ _ _ x _ _ _ _ _ _ _ _ _ _ _ _ _)=>x
  | _=>0
def dv:Option ag→Nat
  | some (.r0 _ _ _ _ _ _ _ _ _ _ _ _ x _ _ _ _ _ _ _ _ _ _ _ _)=>x
  | _=>0
def dw:Option ag→Nat
  | some (.r0 _ _ _ _ _ _ _ _ _ _ _ _ _ x _ _ _ _ _ _ _ _ _ _ _)=>x
  | _=>0
def dx:Option ag→List Nat
  | some (.r0 _ _ _ _ _ _ _ _ _ _ _ _ _ _ x _ _ _ _ _ _ _ _ _ _)=>x
  | _=>[]
def dy:Option ag→List Nat
  | some (.r0 _ _ _ _ _ _ _ _ _ _ _ _ _ _ _ x _ _ _ _ _ _ _ _ _)=>x
  | _=>[]
def dz:Option ag→List Nat
  | some (.r0 _ _ _ _ _ _ _ _ _ _ _ _ _ _ _ _ x _ _ _ _ _ _ _ _)=>x
  | _=>[]
def dA:Option ag→List Int
  | some (.r0 _ _ _ _ _ _ _ _ _ _ _ _ _ _ _ _ _ x _ _ _ _ _ _ _)=>x
  | _=>[]
def dB:Option ag→List Int
  | some (.r0 _ _ _ _ _ _ _ _ _ _ _ _ _ _ _ _ _ _ x _ _ _ _ _ _)=>x
  | _=>[]
def gh:Option ag→Int
  | some (.r0 _ _ _ _ _ _ _ _ _ _ _ _ _ _ _ _ _ _ _ x _ _ _ _ _)=>x
  | _=>0
def dC:Option ag→Int
  | some (.r0 _ _ _ _ _ _ _ _ _ _ _ _ _ _ _ _ _ _ _ _ x _ _ _ _)=>x
  | _=>0
def dD:Option ag→Int
  | some (.r0 _ _ _ _ _ _ _ _ _ _ _ _ _ _ _ _ _ _ _ _ _ x _ _ _)=>x
  | _=>0
def dE:Option ag→Nat
  | some (.r0 _ _ _ _ _ _ _ _ _ _ _ _ _ _ _ _ _ _ _ _ _ _ x _ _)=>x
  | _=>0
def dF:Option ag→Nat
  | some (.r0 _ _ _ _ _ _ _ _ _ _ _ _ _ _ _ _ _ _ _ _ _ _ _ x _)=>x
  | _=>0
def dG:Option ag→List Nat
  | some (.r0 _ _ _ _ _ _ _ _ _ _ _ _ _ _ _ _ _ _ _ _ _ _ _ _ x)=>x
  | _=>[]
theorem nh{x:Option ag}(h:cK x=true) :x=some (.r0 (dY x) (dZ x) (ef x) (eg x) (eh x) (ei x) (ej x) (ek x) (em x) (en x) (dt x) (du x) (dv x) (dw x) (dx x) (dy x) (dz x) (dA x) (dB x) (gh x) (dC x) (dD x) (dE x) (dF x) (dG x)):=by
  unfold cK at h
  split at h<;>first | rfl | (cases h;done) | (rename_i y;cases y;rfl)
def ip:bC:=yZ ap [.vs [.lptr 1 1 0 0],.vs [.int .i64,.lsl0 2,.lsl0 3,.int .i64,.int .i64,.lsl0 4,.flt,.lsl0 5,.lsl0 6],.fl,.fl,.fl,.ns .i64,.ns .i64,.vs [.int .i64],.vs [.int .i64,.int .i64,.lsl0 9],.fl] (.cons (.int .i64) (.cons (.fn kq .nil (.cons (.lptr 0 1 0 0) (.cons (.lptr 7 1 0 0) .nil))) (.cons (.lptr 0 1 0 0) (.cons (.lptr 8 1 0 0) .nil)))) fun x t=>(fun q=>[⟨eZ (.r0 (dY q) (dZ q) (ef q) (eg q) (eh q) (ei q) (ej q) (ek q) (em q) (en q) (dt q) (du q) (dv q) (dw q) (dx q) (dy q) (dz q) (dA q) (dB q) (gh q) (dC q) (dD q) (dE q) (dF q) (dG q)),[cK q]⟩]) (ai x.2.1.1 x.2.1.2.1.1 x.2.1.2.1.2 x.2.1.2.2.1.1 x.2.1.2.2.1.2 x.2.1.2.2.2.1 x.2.1.2.2.2.2.1 x.2.1.2.2.2.2.2.1.1 x.2.1.2.2.2.2.2.1.2 x.2.1.2.2.2.2.2.2.1 x.2.1.2.2.2.2.2.2.2.1.1 x.2.1.2.2.2.2.2.2.2.1.2 x.2.1.2.2.2.2.2.2.2.2.1.1 x.2.1.2.2.2.2.2.2.2.2.1.2 x.2.2.1 x.2.2.2.1 x.2.2.2.2.1 x.2.2.2.2.2.1 x.2.2.2.2.2.2.1 x.2.2.2.2.2.2.2.1.1 x.2.2.2.2.2.2.2.2.1.1 x.2.2.2.2.2.2.2.2.1.2.1 x.2.2.2.2.2.2.2.2.1.2.2.1.1 x.2.2.2.2.2.2.2.2.1.2.2.1.2 x.2.2.2.2.2.2.2.2.2.1 t.1)
theorem lG:bZ prog ip:=pE fun x t=>(jZ (fun h=>ng x.2.1.1 x.2.1.2.1.1 x.2.1.2.1.2 x.2.1.2.2.1.1 x.2.1.2.2.1.2 x.2.1.2.2.2.1 x.2.1.2.2.2.2.1 x.2.1.2.2.2.2.2.1.1 x.2.1.2.2.2.2.2.1.2 x.2.1.2.2.2.2.2.2.1 x.2.1.2.2.2.2.2.2.2.1.1 x.2.1.2.2.2.2.2.2.2.1.2 x.2.1.2.2.2.2.2.2.2.2.1.1 x.2.1.2.2.2.2.2.2.2.2.1.2 x.2.2.1 x.2.2.2.1 x.2.2.2.2.1 x.2.2.2.2.2.1 x.2.2.2.2.2.2.1 x.2.2.2.2.2.2.2.1.1 x.2.2.2.2.2.2.2.2.1.1 x.2.2.2.2.2.2.2.2.1.2.1 x.2.2.2.2.2.2.2.2.1.2.2.1.1 x.2.2.2.2.2.2.2.2.1.2.2.1.2 x.2.2.2.2.2.2.2.2.2.1 t.1 (nh h)) pF)
def iq:List bC:=ip::wc
theorem cv:cQ prog (cX iq):=aY lG jN
inductive bc where
  | r0 (a:Int)
def fm:bc→AE×aW
  | .r0 a=>(.ret,⟨ax 19 [(4,.int .i64 a)],[],0⟩)
theorem gS:xN fm:=by intro x;cases x<;>(intro h;cases h)
theorem rH(id:Nat) :rh id fm:=by intro x;cases x<;>(intro h;cases h)
def ir:bc→rF
  | .r0 a=>⟨.int .i64 a,[]⟩
def rI:List Code:=cV (qT fZ)
def rJ(b:Lv)(a:List Nat)(_:Unit) :aW:=⟨ax 19 [(0,.imm b (.fl a) 1 1 0 (List.length a)),(1,.fn (.func qE) [] []),(7,.int .i64 (((List.length a):Nat):Int)),(8,.int .i64 (0:Int))],[],0⟩
def ki:T ((Unit)⊕(bc)) :=
  .leaf (.inl ())
def fe(b:Lv)(a:List Nat)(c:Nat) :aW:=⟨ax 19 [(0,.imm b (.fl a) 1 1 0 (List.length a)),(1,.fn (.func qE) [] []),(7,.int .i64 (((List.length a):Nat):Int)),(8,.int .i64 ((c:Nat):Int))],[],0⟩
def kj(_:Unit) :aW:=⟨ax 19 [],[],0⟩
def rK:List Code:=cV (dm ((((rI.drop 2).take 1)).headD .skip))
def km(b:List Nat)(a:Nat) :T ((Nat)⊕((Unit)⊕(bc))) :=
  .ask (decide (((a:Nat):Int)<(((List.length b):Nat):Int)))
    (.need (gg ((a:Nat):Int) (List.length b))<|.need (fo a (List.length b))<|.ask (Az (List.getD b a 0) (List.getD b a 0))
      (.leaf (.inr (.inr (.r0 ((a:Nat):Int)))))
      (.ask ((0:Int)==(0:Int))
        (.ask (Kh (eE (List.getD b a 0)) 9218868437227405311)
          (.leaf (.inr (.inr (.r0 ((a:Nat):Int)))))
          (.need (fI .i64 (((a+1):Nat):Int))<|.leaf (.inl (a+1))))
        (.fail)))
    (.leaf (.inr (.inl ())))
def fc(a:List Nat) :Nat→Option ((Nat)⊕((Unit)⊕(bc))):=fun b =>
  (km a b).run
theorem rx(b:Lv)(a:List Nat)(c:Nat) :Sg prog [] rK (fe b a c) (fc a c) (fe b a) (co 0 kj fm):=by
  unfold fc;exact cF cv (fe b a) [⟨[],[],[4]⟩,⟨[],[],[4]⟩,⟨[],[],[0,1,7,8]⟩,⟨[],[],[]⟩]
def jY:T ((Empty)⊕(bc)) :=
  .leaf (.inr (.r0 (-1:Int)))
def bO(a:List Nat) :Option bc:=toX (bd ((ki).run) fun _ =>
  bd (cu (fc a) 0) fun _ =>
  (jY).run)
theorem rL(b:Lv)(a:List Nat){x:bc}(h:bO a=some x) :aH prog fZ [] [.imm b (.fl a) 1 1 0 (List.length a),.fn (.func qE) [] []] (ir x) :=
  GS false ir fm h (Sg.cut 2 gS (cF cv (rJ b a) [⟨[],[],[0,1,7,8]⟩]) (fun _=>Sg.cut 1 gS (yE ⟨[],[],[0,1,7,8]⟩ (fe b a) (kj) 0 gS (rH _) (fun c=>rx b a c)) (fun _=>cF cv Gd [⟨[],[],[4]⟩])))
    (fun x=>by cases x with | r0 d=>exact EI [.int .i64 d])
def dh:Option bc→Bool
  | some _=>true
  | none=>false
def eU:Option bc→Int
  | some (.r0 x)=>x
  | _=>0
theorem rM{x:Option bc}(h:dh x=true) :x=some (.r0 (eU x)):=by
  unfold dh at h
  split at h<;>first | rfl | (cases h;done) | (rename_i y;cases y;rfl)
def kT:bC:=lC fZ (.cons .fl (.cons (.fn qE .nil .nil) .nil)) fun t=>(fun q=>[⟨ir (.r0 (eU q)),[dh q]⟩]) (bO t.1.2)
theorem qU:bZ prog kT:=eV fun t=>(eW (fun h=>rL t.1.1 t.1.2 (rM h)) fY)
def kU:List bC:=kT::iq
theorem bE:cQ prog (cX kU):=aY qU cv
inductive fU where
  | r0 (a:Nat)
def yf:fU→AE×aW
  | .r0 a=>(.ret,⟨ax 85 [(2,.int .i64 ((a:Nat):Int))],[],0⟩)
theorem qt:xN yf:=by intro x;cases x<;>(intro h;cases h)
theorem M7(id:Nat) :rh id yf:=by intro x;cases x<;>(intro h;cases h)
def Ce:fU→rF
  | .r0 a=>⟨.int .i64 ((a:Nat):Int),[]⟩
def K2:List Code:=cV (qT BC)
def M8(c:Lv)(a:List Nat)(d:Lv)(b:List Nat)(e:Nat)(f:Bool) :aW:=⟨ax 85 [(1,.ptr 0 1 0 0),(36,.bool false f)],[(0,.vs [.imm c (.fl a) 1 1 0 (List.length a),.imm d (.fl b) 1 1 0 (List.length b),.flt false e])],1⟩
def D4(a:List Nat)(c:List Nat)(b:Nat) :T ((Bool)⊕(fU)) :=
  .ask ((((List.length a):Nat):Int)==(0:Int))
    (.leaf (.inl true))
    (.ask (decide ((((List.length a):Nat):Int)>(512:Int)))
      (.leaf (.inl true))
      (.ask ((((List.length c):Nat):Int) != (((List.length a):Nat):Int))
        (.leaf (.inl true))
        (.ask (!(Kh b 0))
          (.leaf (.inl (!(Az b b))))
          (.leaf (.inl false)))))
def M9(d:Lv)(b:List Nat)(c:Lv)(a:List Nat)(e:Nat)(f:Bool) :aW:=⟨ax 85 [(1,.ptr 0 1 0 0),(3,.bool false f),(38,.imm c (.fl a) 1 1 0 (List.length a)),(39,.int .i64 (((List.length a):Nat):Int)),(40,.int .i64 (0:Int))],[(0,.vs [.imm d (.fl b) 1 1 0 (List.length b),.imm c (.fl a) 1 1 0 (List.length a),.flt false e])],1⟩
def D5(a:Bool) :T ((Bool)⊕(fU)) :=
  .ask a
    (.leaf (.inr (.r0 2)))
    (.leaf (.inl false))
def wd(d:Lv)(b:List Nat)(c:Lv)(a:List Nat)(e:Nat) :Bool×Nat→aW:=fun (f,g)=>⟨ax 85 [(1,.ptr 0 1 0 0),(3,.bool false f),(38,.imm c (.fl a) 1 1 0 (List.length a)),(39,.int .i64 (((List.length a):Nat):Int)),(40,.int .i64 ((g:Nat):Int))],[(0,.vs [.imm d (.fl b) 1 1 0 (List.length b),.imm c (.fl a) 1 1 0 (List.length a),.flt false e])],1⟩
def Fw(c:Lv)(a:List Nat)(d:Lv)(b:List Nat)(e:Nat)(f:Bool) :aW:=⟨ax 85 [(1,.ptr 0 1 0 0),(3,.bool false f)],[(0,.vs [.imm c (.fl a) 1 1 0 (List.length a),.imm d (.fl b) 1 1 0 (List.length b),.flt false e])],1⟩
def K3:List Code:=cV (dm (((((K2.drop 2).drop 3).take 1)).headD .skip))
def Na(d:Lv)(b:List Nat)(c:Lv)(a:List Nat)(e:Nat)(f:Nat)(g:Bool) :aW:=⟨ax 85 [(1,.ptr 0 1 0 0),(3,.bool false g),(38,.imm c (.fl a) 1 1 0 (List.length a)),(39,.int .i64 (((List.length a):Nat):Int)),(40,.int .i64 ((f:Nat):Int))],[(0,.vs [.imm d (.fl b) 1 1 0 (List.length b),.imm c (.fl a) 1 1 0 (List.length a),.flt false e])],1⟩
def D6(b:List Nat)(c:List Nat)(d:Bool)(a:Nat) :T ((Bool)⊕((Bool)⊕(fU))) :=
  .ask (decide (((a:Nat):Int)<(((List.length c):Nat):Int)))
    (.need (gg ((a:Nat):Int) (List.length c))<|.need (fo a (List.length c))<|.ask d
      (.leaf (.inl true))
      (.ask (TX (List.getD c a 0) 0)
        (.leaf (.inl true))
        (.ask (decide (((a:Nat):Int)>(0:Int)))
          (.need (gg ((a:Nat):Int) (List.length b))<|.need (fo a (List.length b))<|.need (fI .i64 (((a:Nat):Int)-(1:Int)))<|.need (gg (((a:Nat):Int)-(1:Int)) (List.length b))<|.need (fo (Int.toNat (((a:Nat):Int)-(1:Int))) (List.length b))<|.leaf (.inl (WA (List.getD b a 0) (List.getD b (Int.toNat (((a:Nat):Int)-(1:Int))) 0))))
          (.leaf (.inl false)))))
    (.leaf (.inr (.inl d)))
def D7(a:Nat)(b:Bool) :T ((Bool×Nat)⊕((Bool)⊕(fU))) :=
  .need (fI .i64 (((a+1):Nat):Int))<|.leaf (.inl (b,(a+1)))
def uY(b:List Nat)(c:List Nat) :Bool×Nat→Option ((Bool×Nat)⊕((Bool)⊕(fU))):=fun (d,a) =>
  bd ((D6 b c d a).run) fun e =>
  (D7 a e).run
theorem K4(c:Lv)(a:List Nat)(d:Lv)(b:List Nat)(e:Nat)(g:Bool)(f:Nat) :Sg prog [] K3 (wd c a d b e (g,f)) (uY a b (g,f)) (wd c a d b e) (co 0 (Fw c a d b e) yf):=by
  unfold uY;exact Sg.cut 3 (az qt) (cF bE (Na c a d b e f) [⟨[],[0],[1,3,38,39,40]⟩,⟨[],[0],[1,3,38,39,40]⟩,⟨[],[0],[1,3,38,39,40]⟩,⟨[],[0],[1,3,38,39,40]⟩,⟨[],[0],[1,3]⟩]) (fun h=>cF bE (wd c a d b e) [⟨[],[0],[1,3,38,39,40]⟩])
def Nb(_:Unit) :aW:=⟨ax 85 [],[],0⟩
def D8(a : List Nat)(b : List Nat)(c : Nat)(d : Bool) : T ((Unit) ⊕ (fU)) :=
  .ask d
    (.leaf (.inr (.r0 2)))
    (.ask (Az c c)
      (.leaf (.inr (.r0 10)))
      (.ask ((0:Int)==(0:Int))
        (.ask (Kh (eE c) 9218868437227405311)
          (.leaf (.inr (.r0 10)))
          (.need (di 0 (List.length a) a)<|.need (dh (bO (ay 0 (List.length a) a)))<|.ask (decide ((eU (bO (ay 0 (List.length a) a)))≥(0:Int)))
            (.leaf (.inr (.r0 10)))
            (.need (di 0 (List.length b) b)<|.need (dh (bO (ay 0 (List.length b) b)))<|.ask (decide ((eU (bO (ay 0 (List.length b) b)))≥(0:Int)))
              (.leaf (.inr (.r0 10)))
              (.leaf (.inl ())))))
        (.fail)))
def D9:T ((Empty)⊕(fU)) :=
  .leaf (.inr (.r0 0))
def mS(a:List Nat)(b:List Nat)(c:Nat) :Option fU:=toX (bd ((D4 a b c).run) fun d =>
  bd ((D5 d).run) fun e =>
  bd (cu (uY a b) (e,0)) fun f =>
  bd ((D8 a b c f).run) fun _ =>
  (D9).run)
theorem Nc(d:Lv)(a:List Nat)(e:Lv)(b:List Nat)(c:Nat){x:fU}(h:mS a b c=some x) :aH prog BC [] [.agg [.imm d (.fl a) 1 1 0 (List.length a),.imm e (.fl b) 1 1 0 (List.length b),.flt false c]] (Ce x) :=
  GS false Ce yf h (Sg.cut 2 qt (cF bE (M8 d a e b c) [⟨[],[0],[1,36]⟩,⟨[],[0],[1,36]⟩,⟨[],[0],[1,36]⟩,⟨[],[0],[1,36]⟩,⟨[],[0],[1,36]⟩]) (fun j=>Sg.cut 3 qt (cF bE (M9 d a e b c) [⟨[],[],[2]⟩,⟨[],[0],[1,3,38,39,40]⟩]) (fun k=>Sg.cut 1 qt (yE ⟨[],[0],[1,3,38,39,40]⟩ (wd d a e b c) (Fw d a e b c) 0 qt (M7 _) (fun ⟨f,g⟩=>K4 d a e b c f g)) (fun l=>Sg.cut 1 qt (cF bE Nb [⟨[],[],[2]⟩,⟨[],[],[2]⟩,⟨[],[],[2]⟩,⟨[],[],[2]⟩,⟨[],[],[2]⟩,⟨[],[],[]⟩]) (fun _=>cF bE Gd [⟨[],[],[2]⟩])))))
    (fun x=>by cases x with | r0 i=>exact EI [.int .i64 ((i:Nat):Int)])
def sn:Option fU→Bool
  | some _=>true
  | none=>false
def sO:Option fU→Nat
  | some (.r0 x)=>x
  | _=>0
theorem Nd{x:Option fU}(h:sn x=true) :x=some (.r0 (sO x)):=by
  unfold sn at h
  split at h<;>first | rfl | (cases h;done) | (rename_i y;cases y;rfl)
def Hq:bC:=lC BC (.cons (.agg (.cons .fl (.cons .fl (.cons (.flt false) .nil)))) .nil) fun t=>(fun q=>[⟨Ce (.r0 (sO q)),[sn q]⟩]) (mS t.1.1.2 t.1.2.1.2 t.1.2.2.1)
theorem JK:bZ prog Hq:=eV fun t=>(eW (fun h=>Nc t.1.1.1 t.1.1.2 t.1.2.1.1 t.1.2.1.2 t.1.2.2.1 (Nd h)) fY)
def Hr:List bC:=Hq::kU
theorem sP:cQ prog (cX Hr):=aY JK bE
inductive iu where
  | r0 (a:Nat)
def we:iu→AE×aW
  | .r0 a=>(.ret,⟨ax 32 [(4,.flt false a)],[],0⟩)
theorem yP:xN we:=by intro x;cases x<;>(intro h;cases h)
theorem K5(id:Nat) :rh id we:=by intro x;cases x<;>(intro h;cases h)
def Ap:iu→rF
  | .r0 a=>⟨.flt false a,[]⟩
def K6:List Code:=cV (qT zV)
def K7(d:Lv)(b:List Nat)(c:Lv)(a:List Nat)(e:Nat)(f:Int)(g:Nat)(_:Unit) :aW:=⟨ax 32 [(2,.ptr 0 1 0 0),(3,.ptr 1 1 0 0),(5,.flt false 0),(9,.imm c (.fl a) 1 1 0 (List.length a)),(10,.int .i64 (((List.length a):Nat):Int)),(11,.int .i64 (0:Int))],[(0,.vs [.imm d (.fl b) 1 1 0 (List.length b),.imm c (.fl a) 1 1 0 (List.length a),.flt false e]),(1,.vs [.int .i64 f,.flt false g])],2⟩
def Ea:T ((Unit)⊕(iu)) :=
  .leaf (.inl ())
def uZ(d:Lv)(b:List Nat)(c:Lv)(a:List Nat)(e:Nat)(f:Int)(g:Nat) :Nat×Nat→aW:=fun (h,i)=>⟨ax 32 [(2,.ptr 0 1 0 0),(3,.ptr 1 1 0 0),(5,.flt false h),(9,.imm c (.fl a) 1 1 0 (List.length a)),(10,.int .i64 (((List.length a):Nat):Int)),(11,.int .i64 ((i:Nat):Int))],[(0,.vs [.imm d (.fl b) 1 1 0 (List.length b),.imm c (.fl a) 1 1 0 (List.length a),.flt false e]),(1,.vs [.int .i64 f,.flt false g])],2⟩
def Eb(c:Lv)(a:List Nat)(d:Lv)(b:List Nat)(e:Nat)(f:Nat) :aW:=⟨ax 32 [(2,.ptr 0 1 0 0),(5,.flt false f)],[(0,.vs [.imm c (.fl a) 1 1 0 (List.length a),.imm d (.fl b) 1 1 0 (List.length b),.flt false e])],1⟩
def K8:List Code:=cV (dm ((((K6.drop 3).take 1)).headD .skip))
def Ec(b:List Nat)(c:List Nat)(d:Int)(f:Nat)(e:Nat)(a:Nat) :T ((Nat×Nat)⊕((Nat)⊕(iu))) :=
  .ask (decide (((a:Nat):Int)<(((List.length c):Nat):Int)))
    (.need (gg ((a:Nat):Int) (List.length c))<|.need (fo a (List.length c))<|.need (gg ((a:Nat):Int) (List.length b))<|.need (fo a (List.length b))<|.need (gg d (List.length b))<|.need (fo (Int.toNat d) (List.length b))<|.need (fI .i64 (((a+1):Nat):Int))<|.leaf (.inl ((vC e (fdiv (cY (List.getD c a 0) (List.getD c a 0)) (oN (oN (List.getD b a 0) (List.getD b (Int.toNat d) 0)) f))),(a+1))))
    (.leaf (.inr (.inl e)))
def sQ(a:List Nat)(b:List Nat)(c:Int)(d:Nat) :Nat×Nat→Option ((Nat×Nat)⊕((Nat)⊕(iu))):=fun (e,f) =>
  (Ec a b c d e f).run
theorem JL(c:Lv)(a:List Nat)(d:Lv)(b:List Nat)(e:Nat)(f:Int)(g:Nat)(h:Nat)(i:Nat) :Sg prog [] K8 (uZ c a d b e f g (h,i)) (sQ a b f g (h,i)) (uZ c a d b e f g) (co 0 (Eb c a d b e) we):=by
  unfold sQ;exact cF sP (uZ c a d b e f g) [⟨[],[0,1],[2,3,5,9,10,11]⟩,⟨[],[0],[2,5]⟩]
def CQ(a:Nat)(b:Nat) :T ((Empty)⊕(iu)) :=
  .leaf (.inr (.r0 (vC 4607182418800017408 (cY a b))))
def iT(a:List Nat)(b:List Nat)(c:Nat)(d:Int)(e:Nat) :Option iu:=toX (bd ((Ea).run) fun _ =>
  bd (cu (sQ a b d e) (0,0)) fun f =>
  (CQ c f).run)
theorem K9(d:Lv)(a:List Nat)(e:Lv)(b:List Nat)(c:Nat)(f:Int)(g:Nat){x:iu}(h:iT a b c f g=some x) :aH prog zV [] [.agg [.imm d (.fl a) 1 1 0 (List.length a),.imm e (.fl b) 1 1 0 (List.length b),.flt false c],.agg [.int .i64 f,.flt false g]] (Ap x) :=
  GS false Ap we h (Sg.cut 3 yP (cF sP (K7 d a e b c f g) [⟨[],[0,16],[2,3,5,9,10,11]⟩]) (fun _=>Sg.cut 1 yP (yE ⟨[],[0,1],[2,3,5,9,10,11]⟩ (uZ d a e b c f g) (Eb d a e b c) 0 yP (K5 _) (fun ⟨i,j⟩=>JL d a e b c f g i j)) (fun l=>cF sP Gd [⟨[],[],[4]⟩])))
    (fun x=>by cases x with | r0 k=>exact EI [.flt false k])
def pC:Option iu→Bool
  | some _=>true
  | none=>false
def pJ:Option iu→Nat
  | some (.r0 x)=>x
  | _=>0
theorem La{x:Option iu}(h:pC x=true) :x=some (.r0 (pJ x)):=by
  unfold pC at h
  split at h<;>first | rfl | (cases h;done) | (rename_i y;cases y;rfl)
def Fx:bC:=lC zV (.cons (.agg (.cons .fl (.cons .fl (.cons (.flt false) .nil)))) (.cons (.agg (.cons (.int .i64) (.cons (.flt false) .nil))) .nil)) fun t=>(fun q=>[⟨Ap (.r0 (pJ q)),[pC q]⟩]) (iT t.1.1.2 t.1.2.1.2 t.1.2.2.1 t.2.1.1 t.2.1.2.1)
theorem IY:bZ prog Fx:=eV fun t=>(eW (fun h=>K9 t.1.1.1 t.1.1.2 t.1.2.1.1 t.1.2.1.2 t.1.2.2.1 t.2.1.1 t.2.1.2.1 (La h)) fY)
def Fy:List bC:=Fx::Hr
theorem cd:cQ prog (cX Fy):=aY IY sP
inductive bo where
  | r0 (a:Nat) (b:Nat) (c:Int) (d:Nat)
def qu:bo→AE×aW
  | .r0 a b c d=>(.ret,⟨ax 115 [(4,.ptr 0 1 0 0),(5,.int .i64 ((a:Nat):Int)),(6,.int .i64 ((b:Nat):Int))],[(0,.vs [.int .i64 c,.flt false d])],1⟩)
theorem da:xN qu:=by intro x;cases x<;>(intro h;cases h)
theorem yQ(id:Nat) :rh id qu:=by intro x;cases x<;>(intro h;cases h)
def Aq:bo→rF
  | .r0 a b c d=>⟨.tup [.agg [.int .i64 c,.flt false d],.int .i64 ((a:Nat):Int),.int .i64 ((b:Nat):Int)],[]⟩
def ni:List Code:=cV (qT zU)
def Lb(d:Lv)(a:List Nat)(e:Lv)(b:List Nat)(f:Nat)(c:Int)(g:Bool) :aW:=⟨ax 115 [(1,.int .i64 c),(2,.ptr 0 1 0 0),(4,.ptr 1 1 0 0),(9,.ptr 2 1 0 0),(10,.fn (.func gr) [] []),(11,.flt false 4607182418800017408),(27,.bool false g)],[(0,.vs [.imm d (.fl a) 1 1 0 (List.length a),.imm e (.fl b) 1 1 0 (List.length b),.flt false f]),(1,.vs [.int .i64 (0:Int),.flt false 0]),(2,.vs [.int .i64 c,.flt false 0])],3⟩
def CR(a:List Nat)(b:Int) :T ((Bool)⊕(bo)) :=
  .need (fI .i64 ((((List.length a):Nat):Int)-(1:Int)))<|.leaf (.inl (b==((((List.length a):Nat):Int)-(1:Int))))
def Ed(c:Lv)(a:List Nat)(d:Lv)(b:List Nat)(e:Nat)(f:Int)(g:Nat) :aW:=⟨ax 115 [(2,.ptr 0 1 0 0),(4,.ptr 1 1 0 0),(8,.flt false g),(9,.ptr 2 1 0 0),(10,.fn (.func gr) [] []),(11,.flt false 4607182418800017408)],[(0,.vs [.imm c (.fl a) 1 1 0 (List.length a),.imm d (.fl b) 1 1 0 (List.length b),.flt false e]),(1,.vs [.int .i64 (0:Int),.flt false 0]),(2,.vs [.int .i64 f,.flt false 0])],3⟩
def Ee(c:Lv)(a:List Nat)(d:Lv)(b:List Nat)(e:Nat) :Nat×Int→aW:=fun (f,g)=>⟨ax 115 [(2,.ptr 0 1 0 0),(4,.ptr 1 1 0 0),(8,.flt false f),(9,.ptr 2 1 0 0),(10,.fn (.func qo) [] []),(11,.flt false 13830554455654793216)],[(0,.vs [.imm c (.fl a) 1 1 0 (List.length a),.imm d (.fl b) 1 1 0 (List.length b),.flt false e]),(1,.vs [.int .i64 (0:Int),.flt false 0]),(2,.vs [.int .i64 g,.flt false 0])],3⟩
def JM:List Code:=cV (HU ((((ni.drop 7).take 1)).headD .skip))
def Lc(d:Lv)(b:List Nat)(c:Lv)(a:List Nat)(e:Nat)(f:Int)(_:Unit) :aW:=⟨ax 115 [(2,.ptr 0 1 0 0),(4,.ptr 1 1 0 0),(9,.ptr 2 1 0 0),(10,.fn (.func gr) [] []),(11,.flt false 4607182418800017408),(12,.flt false 0),(29,.imm c (.fl a) 1 1 0 (List.length a)),(30,.int .i64 (((List.length a):Nat):Int)),(31,.int .i64 (0:Int))],[(0,.vs [.imm d (.fl b) 1 1 0 (List.length b),.imm c (.fl a) 1 1 0 (List.length a),.flt false e]),(1,.vs [.int .i64 (0:Int),.flt false 0]),(2,.vs [.int .i64 f,.flt false 0])],3⟩
def CS:T ((Unit)⊕(bo)) :=
  .leaf (.inl ())
def u4(d:Lv)(b:List Nat)(c:Lv)(a:List Nat)(e:Nat)(f:Int) :Nat×Nat→aW:=fun (g,h)=>⟨ax 115 [(2,.ptr 0 1 0 0),(4,.ptr 1 1 0 0),(9,.ptr 2 1 0 0),(10,.fn (.func gr) [] []),(11,.flt false 4607182418800017408),(12,.flt false g),(29,.imm c (.fl a) 1 1 0 (List.length a)),(30,.int .i64 (((List.length a):Nat):Int)),(31,.int .i64 ((h:Nat):Int))],[(0,.vs [.imm d (.fl b) 1 1 0 (List.length b),.imm c (.fl a) 1 1 0 (List.length a),.flt false e]),(1,.vs [.int .i64 (0:Int),.flt false 0]),(2,.vs [.int .i64 f,.flt false 0])],3⟩
def Ef(c:Lv)(a:List Nat)(d:Lv)(b:List Nat)(e:Nat)(f:Int)(g:Nat) :aW:=⟨ax 115 [(2,.ptr 0 1 0 0),(4,.ptr 1 1 0 0),(9,.ptr 2 1 0 0),(10,.fn (.func gr) [] []),(11,.flt false 4607182418800017408),(12,.flt false g)],[(0,.vs [.imm c (.fl a) 1 1 0 (List.length a),.imm d (.fl b) 1 1 0 (List.length b),.flt false e]),(1,.vs [.int .i64 (0:Int),.flt false 0]),(2,.vs [.int .i64 f,.flt false 0])],3⟩
def JN:List Code:=cV (dm ((((JM.drop 2).take 1)).headD .skip))
def CT(b:List Nat)(c:Nat)(a:Nat) :T ((Nat×Nat)⊕((Nat)⊕(bo))) :=
  .ask (decide (((a:Nat):Int)<(((List.length b):Nat):Int)))
    (.need (gg ((a:Nat):Int) (List.length b))<|.need (fo a (List.length b))<|.need (fI .i64 (((a+1):Nat):Int))<|.leaf (.inl ((vC c (cY (List.getD b a 0) (List.getD b a 0))),(a+1))))
    (.leaf (.inr (.inl c)))
def sR(a:List Nat) :Nat×Nat→Option ((Nat×Nat)⊕((Nat)⊕(bo))):=fun (b,c) =>
  (CT a b c).run
theorem JO(b:Lv)(c:List Nat)(d:Lv)(a:List Nat)(e:Nat)(f:Int)(g:Nat)(h:Nat) :Sg prog [] JN (u4 b c d a e f (g,h)) (sR a (g,h)) (u4 b c d a e f) (co 0 (Ef b c d a e f) qu):=by
  unfold sR;exact cF cd (u4 b c d a e f) [⟨[],[0,1,2],[2,4,9,10,11,12,29,30,31]⟩,⟨[],[0,1,2],[2,4,9,10,11,12]⟩]
def CU(a:Nat)(b:Nat) :T (((Nat)⊕((Nat×Int)))⊕(bo)) :=
  .leaf (.inl (.inl (cY a b)))
def Ld(d:Lv)(a:List Nat)(e:Lv)(b:List Nat)(f:Nat)(c:Int) :Nat×Bool→aW:=fun (g,h)=>⟨ax 115 [(1,.int .i64 c),(2,.ptr 0 1 0 0),(4,.ptr 1 1 0 0),(8,.flt false g),(9,.ptr 2 1 0 0),(10,.fn (.func gr) [] []),(11,.flt false 4607182418800017408),(69,.bool false h)],[(0,.vs [.imm d (.fl a) 1 1 0 (List.length a),.imm e (.fl b) 1 1 0 (List.length b),.flt false f]),(1,.vs [.int .i64 (0:Int),.flt false 0]),(2,.vs [.int .i64 c,.flt false 0])],3⟩
def CV(a:List Nat)(c:List Nat)(d:Nat)(b:Int) :T ((Nat×Bool)⊕(bo)) :=
  .need (fI .i64 (b+(1:Int)))<|.need (gg (b+(1:Int)) (List.length a))<|.need (fo (Int.toNat (b+(1:Int))) (List.length a))<|.need (gg b (List.length a))<|.need (fo (Int.toNat b) (List.length a))<|.ask (Az (cY (oN (List.getD a (Int.toNat (b+(1:Int))) 0) (List.getD a (Int.toNat b) 0)) 4602678819172646912) (cY (oN (List.getD a (Int.toNat (b+(1:Int))) 0) (List.getD a (Int.toNat b) 0)) 4602678819172646912))
    (.leaf (.inl ((cY (oN (List.getD a (Int.toNat (b+(1:Int))) 0) (List.getD a (Int.toNat b) 0)) 4602678819172646912),false)))
    (.ask ((0:Int)==(0:Int))
      (.ask (!(Kh (eE (cY (oN (List.getD a (Int.toNat (b+(1:Int))) 0) (List.getD a (Int.toNat b) 0)) 4602678819172646912)) 9218868437227405311))
        (.need (di 0 (List.length a) a)<|.need (di 0 (List.length c) c)<|.need (pC (iT (ay 0 (List.length a) a) (ay 0 (List.length c) c) d b (cY (oN (List.getD a (Int.toNat (b+(1:Int))) 0) (List.getD a (Int.toNat b) 0)) 4602678819172646912)))<|.leaf (.inl ((cY (oN (List.getD a (Int.toNat (b+(1:Int))) 0) (List.getD a (Int.toNat b) 0)) 4602678819172646912),(!(WZ (pJ (iT (ay 0 (List.length a) a) (ay 0 (List.length c) c) d b (cY (oN (List.getD a (Int.toNat (b+(1:Int))) 0) (List.getD a (Int.toNat b) 0)) 4602678819172646912))) 0)))))
        (.leaf (.inl ((cY (oN (List.getD a (Int.toNat (b+(1:Int))) 0) (List.getD a (Int.toNat b) 0)) 4602678819172646912),false))))
      (.fail))
def CW(a:Int)(b:Nat)(c:Bool) :T (((Nat)⊕((Nat×Int)))⊕(bo)) :=
  .ask c
    (.need (fI .i64 (a+(1:Int)))<|.leaf (.inl (.inr (b,(a+(1:Int))))))
    (.leaf (.inl (.inl b)))
def JP:List Code:=((ni.drop 7).drop 1)
def JQ(c:Lv)(a:List Nat)(d:Lv)(b:List Nat)(e:Nat)(f:Int)(g:Nat)(h:Bool) :aW:=⟨ax 115 [(2,.ptr 0 1 0 0),(4,.ptr 1 1 0 0),(8,.flt false g),(9,.ptr 2 1 0 0),(10,.fn (.func gr) [] []),(11,.flt false 4607182418800017408),(74,.bool false h)],[(0,.vs [.imm c (.fl a) 1 1 0 (List.length a),.imm d (.fl b) 1 1 0 (List.length b),.flt false e]),(1,.vs [.int .i64 (0:Int),.flt false 0]),(2,.vs [.int .i64 f,.flt false 0])],3⟩
def CX(a:Nat) :T ((Bool)⊕(bo)) :=
  .ask (Az a a)
    (.leaf (.inl true))
    (.ask ((0:Int)==(0:Int))
      (.leaf (.inl (Kh (eE a) 9218868437227405311)))
      (.fail))
def JR(c:Lv)(a:List Nat)(d:Lv)(b:List Nat)(e:Nat)(f:Int)(g:Nat)(_:Unit) :aW:=⟨ax 115 [(2,.ptr 0 1 0 0),(4,.ptr 1 1 0 0),(9,.ptr 2 1 0 0),(10,.fn (.func gr) [] []),(11,.flt false 4607182418800017408),(15,.int .u64 (0:Int)),(16,.int .u64 ((g:Nat):Int)),(17,.int .i64 (0:Int))],[(0,.vs [.imm c (.fl a) 1 1 0 (List.length a),.imm d (.fl b) 1 1 0 (List.length b),.flt false e]),(1,.vs [.int .i64 (0:Int),.flt false 0]),(2,.vs [.int .i64 f,.flt false 0])],3⟩
def CY(a:Nat)(b:Bool) :T (((Unit))⊕(bo)) :=
  .ask b
    (.leaf (.inr (.r0 0 10 (0:Int) 0)))
    (.alt 0
      (.need (!isNaN a)<|.leaf (.inl ()))
      (.alt 1
        (.need (isNaN a)<|.fail)
        (.fail)))
def JS:List Code:=((JP.drop 1).drop 3)
def sS(c:Lv)(a:List Nat)(d:Lv)(b:List Nat)(e:Nat)(f:Int) :Int×Int×Nat→aW:=fun (g,h,i)=>⟨ax 115 [(2,.ptr 0 1 0 0),(4,.ptr 1 1 0 0),(9,.ptr 2 1 0 0),(10,.fn (.func gr) [] []),(11,.flt false 4607182418800017408),(15,.int .u64 g),(16,.int .u64 h),(17,.int .i64 ((i:Nat):Int))],[(0,.vs [.imm c (.fl a) 1 1 0 (List.length a),.imm d (.fl b) 1 1 0 (List.length b),.flt false e]),(1,.vs [.int .i64 (0:Int),.flt false 0]),(2,.vs [.int .i64 f,.flt false 0])],3⟩
def CZ(a:Int) :Int×Nat→aW:=fun (b,c)=>⟨ax 115 [(4,.ptr 0 1 0 0),(9,.ptr 1 1 0 0),(11,.flt false 4607182418800017408),(16,.int .u64 b),(17,.int .i64 ((c:Nat):Int))],[(0,.vs [.int .i64 (0:Int),.flt false 0]),(1,.vs [.int .i64 a,.flt false 0])],2⟩
def JT:List Code:=cV (dm (((JS.take 1)).headD .skip))
def JU(c:Lv)(a:List Nat)(d:Lv)(b:List Nat)(e:Nat)(f:Int)(g:Int)(h:Int)(i:Nat)(j:Bool) :aW:=⟨ax 115 [(2,.ptr 0 1 0 0),(4,.ptr 1 1 0 0),(9,.ptr 2 1 0 0),(10,.fn (.func gr) [] []),(11,.flt false 4607182418800017408),(15,.int .u64 g),(16,.int .u64 h),(17,.int .i64 ((i:Nat):Int)),(86,.bool false j)],[(0,.vs [.imm c (.fl a) 1 1 0 (List.length a),.imm d (.fl b) 1 1 0 (List.length b),.flt false e]),(1,.vs [.int .i64 (0:Int),.flt false 0]),(2,.vs [.int .i64 f,.flt false 0])],3⟩
def C1(a:Int)(b:Int) :T ((Bool)⊕((Int×Nat)⊕(bo))) :=
  .ask (decide (b>a))
    (.leaf (.inl (decide ((IntKind.u64.wrap (b-a))>(1:Int)))))
    (.leaf (.inl false))
def C2(b:List Nat)(c:List Nat)(f:Nat)(g:Int)(a:Int)(d:Int)(e:Nat)(h:Bool) :T ((Int×Int×Nat)⊕((Int×Nat)⊕(bo))) :=
  .ask h
    (.need (decide ((0:Int)≤(1:Int)))<|.need (di 0 (List.length b) b)<|.need (di 0 (List.length c) c)<|.need (pC (iT (ay 0 (List.length b) b) (ay 0 (List.length c) c) f g (cY 4607182418800017408 (Int.toNat (IntKind.u64.wrap (a+(Int.fdiv (IntKind.u64.wrap (d-a)) (2^(min (Int.toNat (1:Int)) (IntKind.u64.bits))))))))))<|.ask (WZ (pJ (iT (ay 0 (List.length b) b) (ay 0 (List.length c) c) f g (cY 4607182418800017408 (Int.toNat (IntKind.u64.wrap (a+(Int.fdiv (IntKind.u64.wrap (d-a)) (2^(min (Int.toNat (1:Int)) (IntKind.u64.bits)))))))))) 0)
      (.need (fI .i64 (((e+1):Nat):Int))<|.leaf (.inl (a,(IntKind.u64.wrap (a+(Int.fdiv (IntKind.u64.wrap (d-a)) (2^(min (Int.toNat (1:Int)) (IntKind.u64.bits)))))),(e+1))))
      (.need (fI .i64 (((e+1):Nat):Int))<|.leaf (.inl ((IntKind.u64.wrap (a+(Int.fdiv (IntKind.u64.wrap (d-a)) (2^(min (Int.toNat (1:Int)) (IntKind.u64.bits)))))),d,(e+1)))))
    (.leaf (.inr (.inl (d,e))))
def sT(c:List Nat)(d:List Nat)(e:Nat)(f:Int) :Int×Int×Nat→Option ((Int×Int×Nat)⊕((Int×Nat)⊕(bo))):=fun (a,b,g) =>
  bd ((C1 a b).run) fun h =>
  (C2 c d e f a b g h).run
theorem JV(e:Lv)(b:List Nat)(f:Lv)(c:List Nat)(d:Nat)(a:Int)(g:Int)(h:Int)(i:Nat) :Sg prog [] JT (sS e b f c d a (g,h,i)) (sT b c d a (g,h,i)) (sS e b f c d a) (co 2 (CZ a) qu):=by
  unfold sT;exact Sg.cut 1 (az da) (cF cd (JU e b f c d a g h i) [⟨[],[0,1,2],[2,4,9,10,11,15,16,17,86]⟩,⟨[],[0,1,2],[2,4,9,10,11,15,16,17,86]⟩]) (fun j=>cF cd (sS e b f c d a) [⟨[],[0,1,2],[2,4,9,10,11,15,16,17]⟩,⟨[],[0,1,2],[2,4,9,10,11,15,16,17]⟩,⟨[],[1,2],[4,9,11,16,17]⟩])
def C3(a:Int)(b:Int)(c:Nat) :T ((Empty)⊕(bo)) :=
  .leaf (.inr (.r0 c 0 a (cY 4607182418800017408 (Int.toNat b))))
def JW:List Code:=((ni.drop 7).drop 1)
def JX(c:Lv)(a:List Nat)(d:Lv)(b:List Nat)(e:Nat)(f:Nat)(g:Int)(h:Bool) :aW:=⟨ax 115 [(2,.ptr 0 1 0 0),(4,.ptr 1 1 0 0),(8,.flt false f),(9,.ptr 2 1 0 0),(10,.fn (.func qo) [] []),(11,.flt false 13830554455654793216),(74,.bool false h)],[(0,.vs [.imm c (.fl a) 1 1 0 (List.length a),.imm d (.fl b) 1 1 0 (List.length b),.flt false e]),(1,.vs [.int .i64 (0:Int),.flt false 0]),(2,.vs [.int .i64 g,.flt false 0])],3⟩
def C4(a:Nat) :T ((Bool)⊕(bo)) :=
  .ask (Az a a)
    (.leaf (.inl true))
    (.ask ((0:Int)==(0:Int))
      (.leaf (.inl (Kh (eE a) 9218868437227405311)))
      (.fail))
def JY(c:Lv)(a:List Nat)(d:Lv)(b:List Nat)(e:Nat)(f:Nat)(g:Int)(_:Unit) :aW:=⟨ax 115 [(2,.ptr 0 1 0 0),(4,.ptr 1 1 0 0),(9,.ptr 2 1 0 0),(10,.fn (.func qo) [] []),(11,.flt false 13830554455654793216),(15,.int .u64 (0:Int)),(16,.int .u64 ((f:Nat):Int)),(17,.int .i64 (0:Int))],[(0,.vs [.imm c (.fl a) 1 1 0 (List.length a),.imm d (.fl b) 1 1 0 (List.length b),.flt false e]),(1,.vs [.int .i64 (0:Int),.flt false 0]),(2,.vs [.int .i64 g,.flt false 0])],3⟩
def C5(a:Nat)(b:Bool) :T (((Unit))⊕(bo)) :=
  .ask b
    (.leaf (.inr (.r0 0 10 (0:Int) 0)))
    (.alt 0
      (.need (!isNaN a)<|.leaf (.inl ()))
      (.alt 1
        (.need (isNaN a)<|.fail)
        (.fail)))
def JZ:List Code:=((JW.drop 1).drop 3)
def sU(c:Lv)(a:List Nat)(d:Lv)(b:List Nat)(e:Nat)(f:Int) :Int×Int×Nat→aW:=fun (g,h,i)=>⟨ax 115 [(2,.ptr 0 1 0 0),(4,.ptr 1 1 0 0),(9,.ptr 2 1 0 0),(10,.fn (.func qo) [] []),(11,.flt false 13830554455654793216),(15,.int .u64 g),(16,.int .u64 h),(17,.int .i64 ((i:Nat):Int))],[(0,.vs [.imm c (.fl a) 1 1 0 (List.length a),.imm d (.fl b) 1 1 0 (List.length b),.flt false e]),(1,.vs [.int .i64 (0:Int),.flt false 0]),(2,.vs [.int .i64 f,.flt false 0])],3⟩
def C6(a:Int) :Int×Nat→aW:=fun (b,c)=>⟨ax 115 [(4,.ptr 0 1 0 0),(9,.ptr 1 1 0 0),(11,.flt false 13830554455654793216),(16,.int .u64 b),(17,.int .i64 ((c:Nat):Int))],[(0,.vs [.int .i64 (0:Int),.flt false 0]),(1,.vs [.int .i64 a,.flt false 0])],2⟩
def J0:List Code:=cV (dm (((JZ.take 1)).headD .skip))
def J1(c:Lv)(a:List Nat)(d:Lv)(b:List Nat)(e:Nat)(f:Int)(g:Int)(h:Int)(i:Nat)(j:Bool) :aW:=⟨ax 115 [(2,.ptr 0 1 0 0),(4,.ptr 1 1 0 0),(9,.ptr 2 1 0 0),(10,.fn (.func qo) [] []),(11,.flt false 13830554455654793216),(15,.int .u64 g),(16,.int .u64 h),(17,.int .i64 ((i:Nat):Int)),(86,.bool false j)],[(0,.vs [.imm c (.fl a) 1 1 0 (List.length a),.imm d (.fl b) 1 1 0 (List.length b),.flt false e]),(1,.vs [.int .i64 (0:Int),.flt false 0]),(2,.vs [.int .i64 f,.flt false 0])],3⟩
def C7(a:Int)(b:Int) :T ((Bool)⊕((Int×Nat)⊕(bo))) :=
  .ask (decide (b>a))
    (.leaf (.inl (decide ((IntKind.u64.wrap (b-a))>(1:Int)))))
    (.leaf (.inl false))
def C8(b:List Nat)(c:List Nat)(f:Nat)(g:Int)(a:Int)(d:Int)(e:Nat)(h:Bool) :T ((Int×Int×Nat)⊕((Int×Nat)⊕(bo))) :=
  .ask h
    (.need (decide ((0:Int)≤(1:Int)))<|.need (di 0 (List.length b) b)<|.need (di 0 (List.length c) c)<|.need (pC (iT (ay 0 (List.length b) b) (ay 0 (List.length c) c) f g (cY 13830554455654793216 (Int.toNat (IntKind.u64.wrap (a+(Int.fdiv (IntKind.u64.wrap (d-a)) (2^(min (Int.toNat (1:Int)) (IntKind.u64.bits))))))))))<|.ask (WA (pJ (iT (ay 0 (List.length b) b) (ay 0 (List.length c) c) f g (cY 13830554455654793216 (Int.toNat (IntKind.u64.wrap (a+(Int.fdiv (IntKind.u64.wrap (d-a)) (2^(min (Int.toNat (1:Int)) (IntKind.u64.bits)))))))))) 0)
      (.need (fI .i64 (((e+1):Nat):Int))<|.leaf (.inl (a,(IntKind.u64.wrap (a+(Int.fdiv (IntKind.u64.wrap (d-a)) (2^(min (Int.toNat (1:Int)) (IntKind.u64.bits)))))),(e+1))))
      (.need (fI .i64 (((e+1):Nat):Int))<|.leaf (.inl ((IntKind.u64.wrap (a+(Int.fdiv (IntKind.u64.wrap (d-a)) (2^(min (Int.toNat (1:Int)) (IntKind.u64.bits)))))),d,(e+1)))))
    (.leaf (.inr (.inl (d,e))))
def sV(c:List Nat)(d:List Nat)(e:Nat)(f:Int) :Int×Int×Nat→Option ((Int×Int×Nat)⊕((Int×Nat)⊕(bo))):=fun (a,b,g) =>
  bd ((C7 a b).run) fun h =>
  (C8 c d e f a b g h).run
theorem J2(e:Lv)(b:List Nat)(f:Lv)(c:List Nat)(d:Nat)(a:Int)(g:Int)(h:Int)(i:Nat) :Sg prog [] J0 (sU e b f c d a (g,h,i)) (sV b c d a (g,h,i)) (sU e b f c d a) (co 2 (C6 a) qu):=by
  unfold sV;exact Sg.cut 1 (az da) (cF cd (J1 e b f c d a g h i) [⟨[],[0,1,2],[2,4,9,10,11,15,16,17,86]⟩,⟨[],[0,1,2],[2,4,9,10,11,15,16,17,86]⟩]) (fun j=>cF cd (sU e b f c d a) [⟨[],[0,1,2],[2,4,9,10,11,15,16,17]⟩,⟨[],[0,1,2],[2,4,9,10,11,15,16,17]⟩,⟨[],[1,2],[4,9,11,16,17]⟩])
def C9(a:Int)(b:Int)(c:Nat) :T ((Empty)⊕(bo)) :=
  .leaf (.inr (.r0 c 0 a (cY 13830554455654793216 (Int.toNat b))))
def iU(b:List Nat)(c:List Nat)(d:Nat)(a:Int) :Option bo:=toX (bd ((CR b a).run) fun h =>
  bd ((bif h then bd ((CS).run) fun _ =>
  bd (cu (sR c) (0,0)) fun i =>
  (CU d i).run else bd ((CV b c d a).run) fun (j,k) =>
  (CW a j k).run)) (Sum.elim (fun e =>
  bd ((CX e).run) fun l =>
  bd ((CY e l).run) (fun _ =>
  bd (cu (sT b c d a) ((0:Int),((e:Nat):Int),0)) fun (m,n) =>
  (C3 a m n).run)) (fun (f,g) =>
  bd ((C4 f).run) fun o =>
  bd ((C5 f o).run) (fun _ =>
  bd (cu (sV b c d g) ((0:Int),((f:Nat):Int),0)) fun (p,q) =>
  (C9 g p q).run))))
theorem Le(f:Lv)(a:List Nat)(g:Lv)(d:List Nat)(e:Nat)(i:Int){x:bo}(h:iU a d e i=some x) :aH prog zU [] [.agg [.imm f (.fl a) 1 1 0 (List.length a),.imm g (.fl d) 1 1 0 (List.length d),.flt false e],.int .i64 i] (Aq x) :=
  GS false Aq qu h (Sg.cut 7 da (cF cd (Lb f a g d e i) [⟨[],[0,16,192],[1,2,4,9,10,11,27]⟩]) (fun m=>Sg.cut 1 da (CH (c:=.tmp 27) (kn:=false) (b:=m) (by kernel_rfl:((ni.drop 7).take 1)=[.cond (.tmp 27) (HU ((((ni.drop 7).take 1)).headD .skip)) (ME ((((ni.drop 7).take 1)).headD .skip))]) da (by kernel_rfl) (Sg.cut 2 da (cF cd (Lc f a g d e i) [⟨[],[0,1,2],[2,4,9,10,11,12,29,30,31]⟩]) (fun _=>Sg.cut 1 da (yE ⟨[],[0,1,2],[2,4,9,10,11,12,29,30,31]⟩ (u4 f a g d e i) (Ef f a g d e i) 0 da (yQ _) (fun ⟨n,o⟩=>JO f a g d e i n o)) (fun A=>cF cd (Sum.elim (Ed f a g d e i) (Ee f a g d e)) [⟨[],[0,1,2],[2,4,8,9,10,11]⟩]))) (Sg.cut 2 da (cF cd (Ld f a g d e i) [⟨[],[0,1,2],[1,2,4,8,9,10,11,69]⟩,⟨[],[0,1,2],[1,2,4,8,9,10,11,69]⟩,⟨[],[0,1,2],[1,2,4,8,9,10,11,69]⟩]) (fun ⟨B,C⟩=>cF cd (Sum.elim (Ed f a g d e i) (Ee f a g d e)) [⟨[],[0,1,2],[2,4,8,9,10,11]⟩,⟨[],[0,1,2],[2,4,8,9,10,11]⟩]))) (Xk (fun k=>Sg.cut 1 da (cF cd (JQ f a g d e i k) [⟨[],[0,1,2],[2,4,8,9,10,11,74]⟩,⟨[],[0,1,2],[2,4,8,9,10,11,74]⟩]) (fun D=>Sg.cut 3 da (cF cd (JR f a g d e i k) [⟨[],[1],[4,5,6]⟩,⟨[],[0,1,2],[2,4,9,10,11,15,16,17]⟩]) (fun _=>Sg.cut 1 da (yE ⟨[],[0,1,2],[2,4,9,10,11,15,16,17]⟩ (sS f a g d e i) (CZ i) 2 da (yQ _) (fun ⟨p,q,r⟩=>JV f a g d e i p q r)) (fun ⟨E,F⟩=>cF cd Gd [⟨[],[0],[4,5,6]⟩])))) (fun ⟨l,j⟩=>Sg.cut 1 da (cF cd (JX f a g d e l j) [⟨[],[0,1,2],[2,4,8,9,10,11,74]⟩,⟨[],[0,1,2],[2,4,8,9,10,11,74]⟩]) (fun G=>Sg.cut 3 da (cF cd (JY f a g d e l j) [⟨[],[1],[4,5,6]⟩,⟨[],[0,1,2],[2,4,9,10,11,15,16,17]⟩]) (fun _=>Sg.cut 1 da (yE ⟨[],[0,1,2],[2,4,9,10,11,15,16,17]⟩ (sU f a g d e j) (C6 j) 2 da (yQ _) (fun ⟨s,t,u⟩=>J2 f a g d e j s t u)) (fun ⟨H,I⟩=>cF cd Gd [⟨[],[0],[4,5,6]⟩])))))))
    (fun x=>by cases x with | r0 v w y z=>exact EI [.agg [.int .i64 y,.flt false z],.int .i64 ((v:Nat):Int),.int .i64 ((w:Nat):Int)])
def qV:Option bo→Bool
  | some _=>true
  | none=>false
def pK:Option bo→Nat
  | some (.r0 x _ _ _)=>x
  | _=>0
def pL:Option bo→Nat
  | some (.r0 _ x _ _)=>x
  | _=>0
def rC:Option bo→Int
  | some (.r0 _ _ x _)=>x
  | _=>0
def rD:Option bo→Nat
  | some (.r0 _ _ _ x)=>x
  | _=>0
theorem Lf{x:Option bo}(h:qV x=true) :x=some (.r0 (pK x) (pL x) (rC x) (rD x)):=by
  unfold qV at h
  split at h<;>first | rfl | (cases h;done) | (rename_i y;cases y;rfl)
def Fz:bC:=lC zU (.cons (.agg (.cons .fl (.cons .fl (.cons (.flt false) .nil)))) (.cons (.int .i64) .nil)) fun t=>(fun q=>[⟨Aq (.r0 (pK q) (pL q) (rC q) (rD q)),[qV q]⟩]) (iU t.1.1.2 t.1.2.1.2 t.1.2.2.1 t.2.1)
theorem IZ:bZ prog Fz:=eV fun t=>(eW (fun h=>Le t.1.1.1 t.1.1.2 t.1.2.1.1 t.1.2.1.2 t.1.2.2.1 t.2.1 (Lf h)) fY)
def FB:List bC:=Fz::Fy
theorem ln:cQ prog (cX FB):=aY IZ cd
inductive dk where
  | r0 (a:Nat) (b:Nat) (c:Nat) (d:Nat) (e:Nat) (f:List Int) (g:List Nat)
def yg:dk→AE×aW
  | .r0 a b c d e f g=>(.ret,⟨ax 43 [(2,.sl 0 2 2 0 a b),(3,.int .i64 ((c:Nat):Int)),(4,.int .i64 ((d:Nat):Int))],[(0,.cols e [.ci .i64 f,.cf g])],1⟩)
theorem so:xN yg:=by intro x;cases x<;>(intro h;cases h)
theorem Ne(id:Nat) :rh id yg:=by intro x;cases x<;>(intro h;cases h)
def Cf:dk→rF
  | .r0 a b c d e f g=>⟨.tup [.sl 0 2 2 0 a b,.int .i64 ((c:Nat):Int),.int .i64 ((d:Nat):Int)],[some (.cols e [.ci .i64 f,.cf g])]⟩
def Lg:List Code:=cV (qT BB)
def Nf(c:Lv)(a:List Nat)(d:Lv)(b:List Nat)(e:Nat)(f:Nat) :aW:=⟨ax 43 [(1,.ptr 0 1 0 0),(5,.int .i64 ((f:Nat):Int))],[(0,.vs [.imm c (.fl a) 1 1 0 (List.length a),.imm d (.fl b) 1 1 0 (List.length b),.flt false e])],1⟩
def Eg(a:List Nat)(b:List Nat)(c:Nat) :T ((Nat)⊕(dk)) :=
  .need (di 0 (List.length a) a)<|.need (di 0 (List.length b) b)<|.need (sn (mS (ay 0 (List.length a) a) (ay 0 (List.length b) b) c))<|.leaf (.inl (sO (mS (ay 0 (List.length a) a) (ay 0 (List.length b) b) c)))
def Ng(c:Lv)(a:List Nat)(d:Lv)(b:List Nat)(e:Nat)(_:Unit) :aW:=⟨ax 43 [(1,.ptr 0 1 0 0),(6,.nsl),(7,.int .i64 (0:Int)),(19,.int .i64 (((List.length a):Nat):Int)),(20,.int .i64 (0:Int))],[(0,.vs [.imm c (.fl a) 1 1 0 (List.length a),.imm d (.fl b) 1 1 0 (List.length b),.flt false e])],1⟩
def Eh(a:Nat) :T ((Unit)⊕(dk)) :=
  .ask (((a:Nat):Int) != (0:Int))
    (.leaf (.inr (.r0 0 0 0 a 0 ([]:List Int) ([]:List Nat))))
    (.leaf (.inl ()))
def wg(c:Lv)(a:List Nat)(d:Lv)(b:List Nat)(e:Nat) :Nat×Nat×Nat×Nat×Nat×(List Int)×(List Nat)→aW:=fun (f,g,h,i,j,k,l)=>⟨ax 43 [(1,.ptr 0 1 0 0),(6,.sl 1 2 2 0 f g),(7,.int .i64 ((h:Nat):Int)),(19,.int .i64 (((List.length a):Nat):Int)),(20,.int .i64 ((i:Nat):Int))],[(0,.vs [.imm c (.fl a) 1 1 0 (List.length a),.imm d (.fl b) 1 1 0 (List.length b),.flt false e]),(1,.cols j [.ci .i64 k,.cf l])],2⟩
def FC:Nat×Nat×Nat×Nat×(List Int)×(List Nat)→aW:=fun (a,b,c,d,e,f)=>⟨ax 43 [(6,.sl 0 2 2 0 a b),(7,.int .i64 ((c:Nat):Int))],[(0,.cols d [.ci .i64 e,.cf f])],1⟩
def Lh:List Code:=cV (dm (((((Lg.drop 2).drop 5).take 1)).headD .skip))
def Nh(d:Lv)(a:List Nat)(e:Lv)(c:List Nat)(f:Nat)(g:Nat) :Nat×Nat×(List Int)×(List Nat)→aW:=fun (b,h,i,j)=>⟨ax 43 [(1,.ptr 0 1 0 0),(6,.sl 1 2 2 0 b b),(7,.int .i64 ((h:Nat):Int)),(19,.int .i64 (((List.length a):Nat):Int)),(20,.int .i64 ((g:Nat):Int))],[(0,.vs [.imm d (.fl a) 1 1 0 (List.length a),.imm e (.fl c) 1 1 0 (List.length c),.flt false f]),(1,.cols b [.ci .i64 i,.cf j])],2⟩
def Ei(a:List Nat)(b:List Nat)(d:Nat)(e:Nat)(j:Nat)(f:Nat)(c:Nat)(g:Nat)(h:List Int)(i:List Nat) :T ((Nat×Nat×(List Int)×(List Nat))⊕((Nat×Nat×Nat×Nat×(List Int)×(List Nat))⊕(dk))) :=
  .ask (decide (((c:Nat):Int)<(((List.length a):Nat):Int)))
    (.need (di 0 (List.length a) a)<|.need (di 0 (List.length b) b)<|.need (qV (iU (ay 0 (List.length a) a) (ay 0 (List.length b) b) d ((c:Nat):Int)))<|.ask ((((pL (iU (ay 0 (List.length a) a) (ay 0 (List.length b) b) d ((c:Nat):Int))):Nat):Int) != (0:Int))
      (.leaf (.inr (.inr (.r0 0 0 0 (pL (iU (ay 0 (List.length a) a) (ay 0 (List.length b) b) d ((c:Nat):Int))) 0 ([]:List Int) ([]:List Nat)))))
      (.need (pS ((e+1)*16) 140737488355328)<|.need (pS (e+1) 9223372036854775807)<|.need (pS 2 2)<|.need (pS e g)<|.need (fI .i64 (((f+(pK (iU (ay 0 (List.length a) a) (ay 0 (List.length b) b) d ((c:Nat):Int)))):Nat):Int))<|.leaf (.inl ((e+1),(f+(pK (iU (ay 0 (List.length a) a) (ay 0 (List.length b) b) d ((c:Nat):Int)))),((List.take e h)++[(rC (iU (ay 0 (List.length a) a) (ay 0 (List.length b) b) d ((c:Nat):Int)))]),((List.take e i)++[(rD (iU (ay 0 (List.length a) a) (ay 0 (List.length b) b) d ((c:Nat):Int)))])))))
    (.leaf (.inr (.inl (e,j,f,g,h,i))))
def Ej(b:Nat)(a:Nat)(c:Nat)(d:List Int)(e:List Nat) :T ((Nat×Nat×Nat×Nat×Nat×(List Int)×(List Nat))⊕((Nat×Nat×Nat×Nat×(List Int)×(List Nat))⊕(dk))) :=
  .need (fI .i64 (((b+1):Nat):Int))<|.leaf (.inl (a,a,c,(b+1),a,d,e))
def u5(b:List Nat)(c:List Nat)(d:Nat) :Nat×Nat×Nat×Nat×Nat×(List Int)×(List Nat)→Option ((Nat×Nat×Nat×Nat×Nat×(List Int)×(List Nat))⊕((Nat×Nat×Nat×Nat×(List Int)×(List Nat))⊕(dk))):=fun (e,f,g,a,h,i,j) =>
  bd ((Ei b c d e f g a h i j).run) fun (k,l,m,n) =>
  (Ej a k l m n).run
theorem Li(d:Lv)(a:List Nat)(e:Lv)(b:List Nat)(c:Nat)(g:Nat)(h:Nat)(i:Nat)(f:Nat)(j:Nat)(k:List Int)(l:List Nat) :Sg prog [] Lh (wg d a e b c (g,h,i,f,j,k,l)) (u5 a b c (g,h,i,f,j,k,l)) (wg d a e b c) (co 0 FC yg):=by
  unfold u5;exact Sg.cut 3 (az so) (cF ln (Nh d a e b c f) [⟨[(.slot 2,.own 2 2 (.cols 0 [.ci .i64 ([]:List Int),.cf ([]:List Nat)]))],[322],[2,3,4]⟩,⟨[],[0,306],[1,6,7,19,20]⟩,⟨[],[1],[6,7]⟩]) (fun ⟨m,n,o,p⟩=>cF ln (wg d a e b c) [⟨[],[0,1],[1,6,7,19,20]⟩])
def Ek(a:Nat)(b:Nat)(c:Nat)(d:Nat)(e:List Int)(f:List Nat) :T ((Empty)⊕(dk)) :=
  .leaf (.inr (.r0 a b c 0 d e f))
def iV(a:List Nat)(b:List Nat)(c:Nat) :Option dk:=toX (bd ((Eg a b c).run) fun d =>
  bd ((Eh d).run) fun _ =>
  bd (cu (u5 a b c) (0,0,0,0,0,([]:List Int),([]:List Nat))) fun (e,f,g,h,i,j) =>
  (Ek e f g h i j).run)
theorem Ni(d:Lv)(a:List Nat)(e:Lv)(b:List Nat)(c:Nat){x:dk}(h:iV a b c=some x) :aH prog BB [] [.agg [.imm d (.fl a) 1 1 0 (List.length a),.imm e (.fl b) 1 1 0 (List.length b),.flt false c]] (Cf x) :=
  GS false Cf yg h (Sg.cut 2 so (cF ln (Nf d a e b c) [⟨[],[0],[1,5]⟩]) (fun r=>Sg.cut 5 so (cF ln (Ng d a e b c) [⟨[(.slot 2,.own 2 2 (.cols 0 [.ci .i64 ([]:List Int),.cf ([]:List Nat)]))],[97],[2,3,4]⟩,⟨[],[0],[1,6,7,19,20]⟩]) (fun _=>Sg.cut 1 so (yE ⟨[(.slot 6,.own 2 2 (.cols 0 [.ci .i64 ([]:List Int),.cf ([]:List Nat)]))],[0,1],[1,6,7,19,20]⟩ (wg d a e b c) (FC) 0 so (Ne _) (fun ⟨f,g,i,j,k,l,m⟩=>Li d a e b c f g i j k l m)) (fun ⟨s,t,u,v,w,y⟩=>cF ln Gd [⟨[],[0],[2,3,4]⟩]))))
    (fun x=>by cases x with | r0 n o p q z A B=>exact EI [.sl 0 2 2 0 n o,.int .i64 ((p:Nat):Int),.int .i64 ((q:Nat):Int)])
def wh:Option dk→Bool
  | some _=>true
  | none=>false
def xi:Option dk→Nat
  | some (.r0 x _ _ _ _ _ _)=>x
  | _=>0
def xj:Option dk→Nat
  | some (.r0 _ x _ _ _ _ _)=>x
  | _=>0
def xk:Option dk→Nat
  | some (.r0 _ _ x _ _ _ _)=>x
  | _=>0
def xl:Option dk→Nat
  | some (.r0 _ _ _ x _ _ _)=>x
  | _=>0
def xm:Option dk→Nat
  | some (.r0 _ _ _ _ x _ _)=>x
  | _=>0
def xn:Option dk→List Int
  | some (.r0 _ _ _ _ _ x _)=>x
  | _=>[]
def xo:Option dk→List Nat
  | some (.r0 _ _ _ _ _ _ x)=>x
  | _=>[]
theorem Nj{x:Option dk}(h:wh x=true) :x=some (.r0 (xi x) (xj x) (xk x) (xl x) (xm x) (xn x) (xo x)):=by
  unfold wh at h
  split at h<;>first | rfl | (cases h;done) | (rename_i y;cases y;rfl)
def Hs:bC:=lC BB (.cons (.agg (.cons .fl (.cons .fl (.cons (.flt false) .nil)))) .nil) fun t=>(fun q=>[⟨Cf (.r0 (xi q) (xj q) (xk q) (xl q) (xm q) (xn q) (xo q)),[wh q]⟩]) (iV t.1.1.2 t.1.2.1.2 t.1.2.2.1)
theorem J3:bZ prog Hs:=eV fun t=>(eW (fun h=>Ni t.1.1.1 t.1.1.2 t.1.2.1.1 t.1.2.1.2 t.1.2.2.1 (Nj h)) fY)
def Ht:List bC:=Hs::FB
theorem xp:cQ prog (cX Ht):=aY J3 ln
inductive mI where
  | r0 (a:Bool)
def I0:mI→AE×aW
  | .r0 a=>(.ret,⟨ax 14 [(4,.bool false a)],[],0⟩)
theorem Oh:xN I0:=by intro x;cases x<;>(intro h;cases h)
def DL:mI→rF
  | .r0 a=>⟨.bool false a,[]⟩
def Oi(a:Bool) :aW:=⟨ax 14 [(4,.bool false a)],[],0⟩
def Hu(b:List Nat)(a:Int) :T ((Bool)⊕(mI)) :=
  .ask (decide (a≥(0:Int)))
    (.leaf (.inl (decide (a<(((List.length b):Nat):Int)))))
    (.leaf (.inl false))
def Oj(a:Bool) :T ((Empty)⊕(mI)) :=
  .leaf (.inr (.r0 a))
def qK(a:List Nat)(b:Int) :Option mI:=toX (bd ((Hu a b).run) fun c =>
  (Oj c).run)
theorem Ol(d:Lv)(a:List Nat)(e:Lv)(b:List Nat)(f:Nat)(c:Int){x:mI}(h:qK a c=some x) :aH prog IE [] [.agg [.imm d (.fl a) 1 1 0 (List.length a),.imm e (.fl b) 1 1 0 (List.length b),.flt false f],.int .i64 c] (DL x) :=
  GS false DL I0 h (Sg.cut 2 Oh (cF xp Oi [⟨[],[],[4]⟩,⟨[],[],[4]⟩]) (fun i=>cF xp Gd [⟨[],[],[4]⟩]))
    (fun x=>by cases x with | r0 g=>exact EI [.bool false g])
def rg:Option mI→Bool
  | some _=>true
  | none=>false
def qW:Option mI→Bool
  | some (.r0 x)=>x
  | _=>false
theorem Om{x:Option mI}(h:rg x=true) :x=some (.r0 (qW x)):=by
  unfold rg at h
  split at h<;>first | rfl | (cases h;done) | (rename_i y;cases y;rfl)
def I1:bC:=lC IE (.cons (.agg (.cons .fl (.cons .fl (.cons (.flt false) .nil)))) (.cons (.int .i64) .nil)) fun t=>(fun q=>[⟨DL (.r0 (qW q)),[rg q]⟩]) (qK t.1.1.2 t.2.1)
theorem Lj:bZ prog I1:=eV fun t=>(eW (fun h=>Ol t.1.1.1 t.1.1.2 t.1.2.1.1 t.1.2.1.2 t.1.2.2.1 t.2.1 (Om h)) fY)
def I2:List bC:=I1::Ht
theorem u6:cQ prog (cX I2):=aY Lj xp
inductive iv where
  | r0 (a:Nat) (b:Nat)
def FD:iv→AE×aW
  | .r0 a b=>(.ret,⟨ax 29 [(6,.flt false a),(7,.int .i64 ((b:Nat):Int))],[],0⟩)
theorem El:xN FD:=by intro x;cases x<;>(intro h;cases h)
def Ar:iv→rF
  | .r0 a b=>⟨.tup [.flt false a,.int .i64 ((b:Nat):Int)],[]⟩
def Lk(c:Lv)(a:List Nat)(d:Lv)(b:List Nat)(e:Nat)(f:Int)(g:Int)(h:Nat)(i:Nat) :aW:=⟨ax 29 [(1,.int .i64 f),(3,.ptr 0 1 0 0),(5,.ptr 1 1 0 0),(8,.int .i64 ((i:Nat):Int))],[(0,.vs [.imm c (.fl a) 1 1 0 (List.length a),.imm d (.fl b) 1 1 0 (List.length b),.flt false e]),(1,.vs [.int .i64 g,.flt false h])],2⟩
def Em(a:List Nat)(b:List Nat)(c:Nat) :T ((Nat)⊕(iv)) :=
  .need (di 0 (List.length a) a)<|.need (di 0 (List.length b) b)<|.need (sn (mS (ay 0 (List.length a) a) (ay 0 (List.length b) b) c))<|.leaf (.inl (sO (mS (ay 0 (List.length a) a) (ay 0 (List.length b) b) c)))
def Ll(c:Lv)(a:List Nat)(d:Lv)(b:List Nat)(e:Nat)(f:Int)(g:Int)(h:Nat)(i:Bool) :aW:=⟨ax 29 [(1,.int .i64 f),(3,.ptr 0 1 0 0),(5,.ptr 1 1 0 0),(24,.bool false i)],[(0,.vs [.imm c (.fl a) 1 1 0 (List.length a),.imm d (.fl b) 1 1 0 (List.length b),.flt false e]),(1,.vs [.int .i64 g,.flt false h])],2⟩
def En(a:List Nat)(b:List Nat)(c:Int)(d:Int)(e:Nat) :T ((Bool)⊕(iv)) :=
  .ask (((e:Nat):Int) != (0:Int))
    (.leaf (.inr (.r0 0 e)))
    (.need (di 0 (List.length a) a)<|.need (di 0 (List.length b) b)<|.need (rg (qK (ay 0 (List.length a) a) d))<|.ask (!(qW (qK (ay 0 (List.length a) a) d)))
      (.leaf (.inl true))
      (.need (di 0 (List.length a) a)<|.need (di 0 (List.length b) b)<|.need (rg (qK (ay 0 (List.length a) a) c))<|.leaf (.inl (!(qW (qK (ay 0 (List.length a) a) c))))))
def Eo(a:List Nat)(b:Int)(c:Int)(d:Nat)(e:Bool) :T ((Empty)⊕(iv)) :=
  .ask e
    (.leaf (.inr (.r0 0 2)))
    (.need (gg b (List.length a))<|.need (fo (Int.toNat b) (List.length a))<|.need (gg c (List.length a))<|.need (fo (Int.toNat c) (List.length a))<|.leaf (.inr (.r0 (oN (oN (List.getD a (Int.toNat b) 0) (List.getD a (Int.toNat c) 0)) d) 0)))
def gi(a:List Nat)(b:List Nat)(e:Nat)(c:Int)(d:Int)(f:Nat) :Option iv:=toX (bd ((Em a b e).run) fun g =>
  bd ((En a b c d g).run) fun h =>
  (Eo a c d f h).run)
theorem Lm(g:Lv)(a:List Nat)(i:Lv)(b:List Nat)(c:Nat)(d:Int)(e:Int)(f:Nat){x:iv}(h:gi a b c d e f=some x) :aH prog Fa [] [.agg [.imm g (.fl a) 1 1 0 (List.length a),.imm i (.fl b) 1 1 0 (List.length b),.flt false c],.int .i64 d,.agg [.int .i64 e,.flt false f]] (Ar x) :=
  GS false Ar FD h (Sg.cut 2 El (cF u6 (Lk g a i b c d e f) [⟨[],[0,16],[1,3,5,8]⟩]) (fun l=>Sg.cut 3 El (cF u6 (Ll g a i b c d e f) [⟨[],[],[6,7]⟩,⟨[],[0,1],[1,3,5,24]⟩,⟨[],[0,1],[1,3,5,24]⟩]) (fun m=>cF u6 Gd [⟨[],[],[6,7]⟩,⟨[],[],[6,7]⟩])))
    (fun x=>by cases x with | r0 j k=>exact EI [.flt false j,.int .i64 ((k:Nat):Int)])
def lA:Option iv→Bool
  | some _=>true
  | none=>false
def lp:Option iv→Nat
  | some (.r0 x _)=>x
  | _=>0
def Bp:Option iv→Nat
  | some (.r0 _ x)=>x
  | _=>0
theorem Ln{x:Option iv}(h:lA x=true) :x=some (.r0 (lp x) (Bp x)):=by
  unfold lA at h
  split at h<;>first | rfl | (cases h;done) | (rename_i y;cases y;rfl)
def FE:bC:=lC Fa (.cons (.agg (.cons .fl (.cons .fl (.cons (.flt false) .nil)))) (.cons (.int .i64) (.cons (.agg (.cons (.int .i64) (.cons (.flt false) .nil))) .nil))) fun t=>(fun q=>[⟨Ar (.r0 (lp q) (Bp q)),[lA q]⟩]) (gi t.1.1.2 t.1.2.1.2 t.1.2.2.1 t.2.1 t.2.2.1.1 t.2.2.1.2.1)
theorem I3:bZ prog FE:=eV fun t=>(eW (fun h=>Lm t.1.1.1 t.1.1.2 t.1.2.1.1 t.1.2.1.2 t.1.2.2.1 t.2.1 t.2.2.1.1 t.2.2.1.2.1 (Ln h)) fY)
def FF:List bC:=FE::I2
theorem rE:cQ prog (cX FF):=aY I3 u6
inductive ck where
  | r0 (a:Nat)
def kE:ck→AE×aW
  | .r0 a=>(.ret,⟨ax 42 [(4,.flt false a)],[],0⟩)
theorem pa:xN kE:=by intro x;cases x<;>(intro h;cases h)
theorem AN(id:Nat) :rh id kE:=by intro x;cases x<;>(intro h;cases h)
def pR:ck→rF
  | .r0 a=>⟨.flt false a,[]⟩
def AO:List Code:=cV (qT eL)
def AP(h:Int)(i:Lv)(j:Lv)(k:Int)(l:Lv)(b:List Nat)(m:Lv)(c:List Nat)(n:Int)(o:Int)(p:Lv)(d:List Nat)(q:Nat)(e:Lv)(a:List Int)(r:Lv)(f:List Int)(s:Lv)(t:Lv)(g:List Nat)(_:Unit) :aW:=⟨ax 42 [(0,.int .i64 h),(1,.iptr i (.vs [.iptr j (.vs [.int .i64 k,.imm l (.fl b) 1 1 0 (List.length b),.imm m (.fl c) 1 1 0 (List.length c),.int .i64 n,.int .i64 o,.imm p (.fl d) 1 1 0 (List.length d),.flt false q,.imm e (.ns .i64 a) 1 1 0 (List.length a),.imm r (.ns .i64 f) 1 1 0 (List.length f)]) 1 0 0]) 1 0 0),(2,.iptr s (.vs [.imm t (.fl g) 1 1 0 (List.length g)]) 1 0 0),(5,.flt false 0),(11,.imm e (.ns .i64 a) 1 1 0 (List.length a)),(12,.int .i64 (((List.length a):Nat):Int)),(13,.int .i64 (0:Int))],[],0⟩
def th:T ((Unit)⊕(ck)) :=
  .leaf (.inl ())
def jO(h:Int)(i:Lv)(j:Lv)(k:Int)(l:Lv)(b:List Nat)(m:Lv)(c:List Nat)(n:Int)(o:Int)(p:Lv)(d:List Nat)(q:Nat)(e:Lv)(a:List Int)(r:Lv)(f:List Int)(s:Lv)(t:Lv)(g:List Nat) :Nat×Nat→aW:=fun (u,v)=>⟨ax 42 [(0,.int .i64 h),(1,.iptr i (.vs [.iptr j (.vs [.int .i64 k,.imm l (.fl b) 1 1 0 (List.length b),.imm m (.fl c) 1 1 0 (List.length c),.int .i64 n,.int .i64 o,.imm p (.fl d) 1 1 0 (List.length d),.flt false q,.imm e (.ns .i64 a) 1 1 0 (List.length a),.imm r (.ns .i64 f) 1 1 0 (List.length f)]) 1 0 0]) 1 0 0),(2,.iptr s (.vs [.imm t (.fl g) 1 1 0 (List.length g)]) 1 0 0),(5,.flt false u),(11,.imm e (.ns .i64 a) 1 1 0 (List.length a)),(12,.int .i64 (((List.length a):Nat):Int)),(13,.int .i64 ((v:Nat):Int))],[],0⟩
def ti(a:Nat) :aW:=⟨ax 42 [(5,.flt false a)],[],0⟩
def AQ:List Code:=cV (dm ((((AO.drop 3).take 1)).headD .skip))
def tj(c:Int)(d:Int)(e:List Nat)(b:List Int)(f:List Nat)(g:Nat)(a:Nat) :T ((Nat×Nat)⊕((Nat)⊕(ck))) :=
  .ask (decide (((a:Nat):Int)<(((List.length b):Nat):Int)))
    (.need (gg ((a:Nat):Int) (List.length b))<|.need (fo a (List.length b))<|.need (fI .i64 (c*d))<|.need (fI .i64 ((c*d)+(List.getD b a 0)))<|.need (gg ((c*d)+(List.getD b a 0)) (List.length e))<|.need (fo (Int.toNat ((c*d)+(List.getD b a 0))) (List.length e))<|.need (gg ((a:Nat):Int) (List.length f))<|.need (fo a (List.length f))<|.need (fI .i64 (((a+1):Nat):Int))<|.leaf (.inl ((vC g (cY (List.getD e (Int.toNat ((c*d)+(List.getD b a 0))) 0) (List.getD f a 0))),(a+1))))
    (.leaf (.inr (.inl g)))
def jC(a:Int)(b:Int)(c:List Nat)(d:List Int)(e:List Nat) :Nat×Nat→Option ((Nat×Nat)⊕((Nat)⊕(ck))):=fun (f,g) =>
  (tj a b c d e f g).run
theorem As(a:Int)(f:Lv)(g:Lv)(b:Int)(h:Lv)(i:List Nat)(j:Lv)(k:List Nat)(l:Int)(m:Int)(n:Lv)(c:List Nat)(o:Nat)(p:Lv)(d:List Int)(q:Lv)(r:List Int)(s:Lv)(t:Lv)(e:List Nat)(u:Nat)(v:Nat) :Sg prog [] AQ (jO a f g b h i j k l m n c o p d q r s t e (u,v)) (jC a b c d e (u,v)) (jO a f g b h i j k l m n c o p d q r s t e) (co 0 ti kE):=by
  unfold jC;exact cF rE (jO a f g b h i j k l m n c o p d q r s t e) [⟨[],[],[0,1,2,5,11,12,13]⟩,⟨[],[],[5]⟩]
def sq(a:Nat) :T ((Empty)⊕(ck)) :=
  .leaf (.inr (.r0 a))
def gu(a:Int)(b:Int)(c:List Nat)(d:List Int)(e:List Nat) :Option ck:=toX (bd ((th).run) fun _ =>
  bd (cu (jC a b c d e) (0,0)) fun f =>
  (sq f).run)
theorem AR(d:Int)(j:Lv)(k:Lv)(e:Int)(l:Lv)(f:List Nat)(m:Lv)(g:List Nat)(n:Int)(o:Int)(p:Lv)(a:List Nat)(q:Nat)(r:Lv)(b:List Int)(s:Lv)(i:List Int)(t:Lv)(u:Lv)(c:List Nat){x:ck}(h:gu d e a b c=some x) :aH prog eL [] [.int .i64 d,.iptr j (.vs [.iptr k (.vs [.int .i64 e,.imm l (.fl f) 1 1 0 (List.length f),.imm m (.fl g) 1 1 0 (List.length g),.int .i64 n,.int .i64 o,.imm p (.fl a) 1 1 0 (List.length a),.flt false q,.imm r (.ns .i64 b) 1 1 0 (List.length b),.imm s (.ns .i64 i) 1 1 0 (List.length i)]) 1 0 0]) 1 0 0,.iptr t (.vs [.imm u (.fl c) 1 1 0 (List.length c)]) 1 0 0] (pR x) :=
  GS false pR kE h (Sg.cut 3 pa (cF rE (AP d j k e l f m g n o p a q r b s i t u c) [⟨[],[],[0,1,2,5,11,12,13]⟩]) (fun _=>Sg.cut 1 pa (yE ⟨[],[],[0,1,2,5,11,12,13]⟩ (jO d j k e l f m g n o p a q r b s i t u c) (ti) 0 pa (AN _) (fun ⟨v,w⟩=>As d j k e l f m g n o p a q r b s i t u c v w)) (fun z=>cF rE Gd [⟨[],[],[4]⟩])))
    (fun x=>by cases x with | r0 y=>exact EI [.flt false y])
def jP:Option ck→Bool
  | some _=>true
  | none=>false
def mJ:Option ck→Nat
  | some (.r0 x)=>x
  | _=>0
theorem AS{x:Option ck}(h:jP x=true) :x=some (.r0 (mJ x)):=by
  unfold jP at h
  split at h<;>first | rfl | (cases h;done) | (rename_i y;cases y;rfl)
def uH:bC:=lC eL (.cons (.int .i64) (.cons (.ivs (.cons (.ivs (.cons (.int .i64) (.cons .fl (.cons .fl (.cons (.int .i64) (.cons (.int .i64) (.cons .fl (.cons (.flt false) (.cons (.ns .i64) (.cons (.ns .i64) .nil))))))))) 1 0 0) .nil) 1 0 0) (.cons (.ivs (.cons .fl .nil) 1 0 0) .nil))) fun t=>(fun q=>[⟨pR (.r0 (mJ q)),[jP q]⟩]) (gu t.1 t.2.1.2.1.2.1 t.2.1.2.1.2.2.2.2.2.2.1.2 t.2.1.2.1.2.2.2.2.2.2.2.2.1.2 t.2.2.1.2.1.2)
theorem zB:bZ prog uH:=eV fun t=>(eW (fun h=>AR t.1 t.2.1.1 t.2.1.2.1.1 t.2.1.2.1.2.1 t.2.1.2.1.2.2.1.1 t.2.1.2.1.2.2.1.2 t.2.1.2.1.2.2.2.1.1 t.2.1.2.1.2.2.2.1.2 t.2.1.2.1.2.2.2.2.1 t.2.1.2.1.2.2.2.2.2.1 t.2.1.2.1.2.2.2.2.2.2.1.1 t.2.1.2.1.2.2.2.2.2.2.1.2 t.2.1.2.1.2.2.2.2.2.2.2.1 t.2.1.2.1.2.2.2.2.2.2.2.2.1.1 t.2.1.2.1.2.2.2.2.2.2.2.2.1.2 t.2.1.2.1.2.2.2.2.2.2.2.2.2.1.1 t.2.1.2.1.2.2.2.2.2.2.2.2.2.1.2 t.2.2.1.1 t.2.2.1.2.1.1 t.2.2.1.2.1.2 (AS h)) fY)
def uI:List bC:=uH::FF
theorem gM:cQ prog (cX uI):=aY zB rE
inductive bk where
inductive ae where
  | r0 (a:Int) (b:Nat) (c:Nat) (d:Nat) (e:Nat) (f:Int) (g:Int) (h:Nat) (i:Nat) (j:Nat) (k:Nat) (l:Nat) (m:Nat) (n:Nat) (o:List Nat) (p:List Nat) (q:List Nat) (r:List Int) (s:List Int) (t:Nat) (u:Nat) (v:List Nat) (w:Int) (x:Int) (y:Nat) (z:Nat) (A:List Nat)
def cT:bk→AE×aW:=fun x=>nomatch x
theorem cL:xN cT:=by intro x;cases x<;>(intro h;cases h)
theorem nj(id:Nat) :rh id cT:=by intro x;cases x<;>(intro h;cases h)
def fa:ae→rF
  | .r0 a b c d e f g h i j k l m n o p q r s t u v w x y z A=>⟨.tup [],[some (.vs [.ptr 1 1 0 0]),some (.vs [.int .i64 a,.sl 2 1 1 0 b c,.sl 3 1 1 0 d e,.int .i64 f,.int .i64 g,.sl 4 1 1 0 h i,.flt false j,.sl 5 1 1 0 k l,.sl 6 1 1 0 m n]),some (.fl o),some (.fl p),some (.fl q),some (.ns .i64 r),some (.ns .i64 s),some (.vs [.sl 8 1 1 0 t u]),some (.fl v),some (.vs [.int .i64 w,.int .i64 x,.sl 10 1 1 0 y z]),some (.fl A)]⟩
def hP:Int×Nat×Nat×Nat×Nat×Int×Int×Nat×Nat×Nat×Nat×Nat×Nat×Nat×(List Nat)×(List Nat)×(List Nat)×(List Int)×(List Int)×Nat×Nat×(List Nat)×Int×Int×Nat×Nat×(List Nat)→aW:=fun (a,b,c,d,e,f,g,h,i,j,k,l,m,n,o,p,q,r,s,t,u,v,w,x,y,z,A)=>⟨ax 29 [],[(0,.vs [.ptr 1 1 0 0]),(1,.vs [.int .i64 a,.sl 2 1 1 0 b c,.sl 3 1 1 0 d e,.int .i64 f,.int .i64 g,.sl 4 1 1 0 h i,.flt false j,.sl 5 1 1 0 k l,.sl 6 1 1 0 m n]),(2,.fl o),(3,.fl p),(4,.fl q),(5,.ns .i64 r),(6,.ns .i64 s),(7,.vs [.sl 8 1 1 0 t u]),(8,.fl v),(9,.vs [.int .i64 w,.int .i64 x,.sl 10 1 1 0 y z]),(10,.fl A)],11⟩
def nk:List Code:=cV (qT ap)
def nm(a:Int)(b:Nat)(c:Nat)(d:Nat)(e:Nat)(f:Int)(g:Int)(h:Nat)(i:Nat)(j:Nat)(k:Nat)(l:Nat)(m:Nat)(n:Nat)(o:List Nat)(p:List Nat)(q:List Nat)(r:List Int)(s:List Int)(t:Nat)(u:Nat)(v:List Nat)(w:Int)(x:Int)(y:Nat)(z:Nat)(A:List Nat)(B:Int)(_:Unit) :aW:=⟨ax 29 [(0,.int .i64 B),(1,.fn (.func eL) [] [.ptr 0 1 0 0,.ptr 7 1 0 0]),(2,.ptr 0 1 0 0),(3,.ptr 9 1 0 0),(10,.int .i64 a),(11,.int .i64 (0:Int))],[(0,.vs [.ptr 1 1 0 0]),(1,.vs [.int .i64 a,.sl 2 1 1 0 b c,.sl 3 1 1 0 d e,.int .i64 f,.int .i64 g,.sl 4 1 1 0 h i,.flt false j,.sl 5 1 1 0 k l,.sl 6 1 1 0 m n]),(2,.fl o),(3,.fl p),(4,.fl q),(5,.ns .i64 r),(6,.ns .i64 s),(7,.vs [.sl 8 1 1 0 t u]),(8,.fl v),(9,.vs [.int .i64 w,.int .i64 x,.sl 10 1 1 0 y z]),(10,.fl A)],11⟩
def gN:T ((Unit)⊕(bk)) :=
  .leaf (.inl ())
def cM(a:Int)(b:Nat)(c:Nat)(d:Nat)(e:Nat)(f:Int)(g:Int)(h:Nat)(i:Nat)(j:Nat)(k:Nat)(l:Nat)(m:Nat)(n:Nat)(o:List Nat)(p:List Nat)(q:List Nat)(r:List Int)(s:List Int)(t:Nat)(u:Nat)(v:List Nat)(w:Int)(x:Int)(y:Nat)(z:Nat)(A:Int) :Nat×(List Nat)→aW:=fun (B,C)=>⟨ax 29 [(0,.int .i64 A),(1,.fn (.func eL) [] [.ptr 0 1 0 0,.ptr 7 1 0 0]),(2,.ptr 0 1 0 0),(3,.ptr 9 1 0 0),(10,.int .i64 a),(11,.int .i64 ((B:Nat):Int))],[(0,.vs [.ptr 1 1 0 0]),(1,.vs [.int .i64 a,.sl 2 1 1 0 b c,.sl 3 1 1 0 d e,.int .i64 f,.int .i64 g,.sl 4 1 1 0 h i,.flt false j,.sl 5 1 1 0 k l,.sl 6 1 1 0 m n]),(2,.fl o),(3,.fl p),(4,.fl q),(5,.ns .i64 r),(6,.ns .i64 s),(7,.vs [.sl 8 1 1 0 t u]),(8,.fl v),(9,.vs [.int .i64 w,.int .i64 x,.sl 10 1 1 0 y z]),(10,.fl C)],11⟩
def hU(a:Int)(b:Nat)(c:Nat)(d:Nat)(e:Nat)(f:Int)(g:Int)(h:Nat)(i:Nat)(j:Nat)(k:Nat)(l:Nat)(m:Nat)(n:Nat)(o:List Nat)(p:List Nat)(q:List Nat)(r:List Int)(s:List Int)(t:Nat)(u:Nat)(v:List Nat)(w:Int)(x:Int)(y:Nat)(z:Nat)(A:(List Nat)) :aW:=⟨ax 29 [],[(0,.vs [.ptr 1 1 0 0]),(1,.vs [.int .i64 a,.sl 2 1 1 0 b c,.sl 3 1 1 0 d e,.int .i64 f,.int .i64 g,.sl 4 1 1 0 h i,.flt false j,.sl 5 1 1 0 k l,.sl 6 1 1 0 m n]),(2,.fl o),(3,.fl p),(4,.fl q),(5,.ns .i64 r),(6,.ns .i64 s),(7,.vs [.sl 8 1 1 0 t u]),(8,.fl v),(9,.vs [.int .i64 w,.int .i64 x,.sl 10 1 1 0 y z]),(10,.fl A)],11⟩
def mK:List Code:=cV (dm ((((nk.drop 1).take 1)).headD .skip))
def nn(a:Int)(b:Nat)(c:Nat)(d:Nat)(e:Nat)(f:Int)(g:Int)(h:Nat)(i:Nat)(j:Nat)(k:Nat)(l:Nat)(m:Nat)(n:Nat)(o:List Nat)(p:List Nat)(q:List Nat)(r:List Int)(s:List Int)(t:Nat)(u:Nat)(v:List Nat)(w:Int)(x:Int)(y:Nat)(z:Nat)(A:Int)(B:Nat)(C:(List Nat)) :aW:=⟨ax 29 [(0,.int .i64 A),(1,.fn (.func eL) [] [.ptr 0 1 0 0,.ptr 7 1 0 0]),(2,.ptr 0 1 0 0),(3,.ptr 9 1 0 0),(10,.int .i64 a),(11,.int .i64 ((B:Nat):Int))],[(0,.vs [.ptr 1 1 0 0]),(1,.vs [.int .i64 a,.sl 2 1 1 0 b c,.sl 3 1 1 0 d e,.int .i64 f,.int .i64 g,.sl 4 1 1 0 h i,.flt false j,.sl 5 1 1 0 k l,.sl 6 1 1 0 m n]),(2,.fl o),(3,.fl p),(4,.fl q),(5,.ns .i64 r),(6,.ns .i64 s),(7,.vs [.sl 8 1 1 0 t u]),(8,.fl v),(9,.vs [.int .i64 w,.int .i64 x,.sl 10 1 1 0 y z]),(10,.fl C)],11⟩
def gO(a:Int)(k:Nat)(l:Nat)(d:Nat)(e:Nat)(m:Nat)(n:List Nat)(o:List Nat)(f:List Nat)(g:List Int)(p:List Int)(h:Nat)(i:List Nat)(q:Nat)(c:Int)(b:Nat)(j:List Nat) :T (((List Nat))⊕(((List Nat))⊕(bk))) :=
  .ask (decide (((b:Nat):Int)<a))
    (.need (fI .i64 (((b:Nat):Int)*a))<|.need (fI .i64 ((((b:Nat):Int)*a)+c))<|.need (di 0 k n)<|.need (di 0 l o)<|.need (di 0 d f)<|.need (di 0 e g)<|.need (di 0 m p)<|.need (di 0 h i)<|.need (jP (gu ((b:Nat):Int) a (ay 0 d f) (ay 0 e g) (ay 0 h i)))<|.need (gg ((((b:Nat):Int)*a)+c) q)<|.need (fo (Int.toNat ((((b:Nat):Int)*a)+c)) (List.length j))<|.leaf (.inl (List.set j (Int.toNat ((((b:Nat):Int)*a)+c)) (mJ (gu ((b:Nat):Int) a (ay 0 d f) (ay 0 e g) (ay 0 h i))))))
    (.leaf (.inr (.inl j)))
def gP(a:Nat)(b:List Nat) :T ((Nat×(List Nat))⊕(((List Nat))⊕(bk))) :=
  .need (fI .i64 (((a+1):Nat):Int))<|.leaf (.inl ((a+1),b))
def cE(b:Int)(c:Nat)(d:Nat)(e:Nat)(f:Nat)(g:Nat)(h:List Nat)(i:List Nat)(j:List Nat)(k:List Int)(l:List Int)(m:Nat)(n:List Nat)(o:Nat)(p:Int) :Nat×(List Nat)→Option ((Nat×(List Nat))⊕(((List Nat))⊕(bk))):=fun (a,q) =>
  bd ((gO b c d e f g h i j k l m n o p a q).run) fun r =>
  (gP a r).run
theorem mL(a:Int)(b:Nat)(o:Nat)(c:Nat)(p:Nat)(q:Int)(r:Int)(d:Nat)(s:Nat)(t:Nat)(e:Nat)(u:Nat)(f:Nat)(v:Nat)(g:List Nat)(h:List Nat)(i:List Nat)(j:List Int)(k:List Int)(l:Nat)(w:Nat)(m:List Nat)(x:Int)(y:Int)(n:Nat)(z:Nat)(D:List Nat)(A:Int)(B:Nat)(C:List Nat) :Sg prog [.vs [.ptr 1 1 0 0],.vs [.int .i64 a,.sl 2 1 1 0 b o,.sl 3 1 1 0 c p,.int .i64 q,.int .i64 r,.sl 4 1 1 0 d s,.flt false t,.sl 5 1 1 0 e u,.sl 6 1 1 0 f v],.fl g,.fl h,.fl i,.ns .i64 j,.ns .i64 k,.vs [.sl 8 1 1 0 l w],.fl m,.vs [.int .i64 x,.int .i64 y,.sl 10 1 1 0 n z],.fl D] mK (cM a b o c p q r d s t e u f v g h i j k l w m x y n z A (B,C)) (cE a b c d e f g h i j k l m n A (B,C)) (cM a b o c p q r d s t e u f v g h i j k l w m x y n z A) (co 0 (hU a b o c p q r d s t e u f v g h i j k l w m x y n z) cT):=by
  unfold cE;exact Sg.cut 3 (az cL) (cF gM (nn a b o c p q r d s t e u f v g h i j k l w m x y n z A B) [⟨[],[0,1,2,3,4,5,6,7,8,9,10],[0,1,2,3,10,11]⟩,⟨[],[0,1,2,3,4,5,6,7,8,9,10],[]⟩]) (fun E=>cF gM (cM a b o c p q r d s t e u f v g h i j k l w m x y n z A) [⟨[],[0,1,2,3,4,5,6,7,8,9,10],[0,1,2,3,10,11]⟩])
def gQ(a:Int)(b:Nat)(c:Nat)(d:Nat)(e:Nat)(f:Int)(g:Int)(h:Nat)(i:Nat)(j:Nat)(k:Nat)(l:Nat)(m:Nat)(n:Nat)(o:List Nat)(p:List Nat)(q:List Nat)(r:List Int)(s:List Int)(t:Nat)(u:Nat)(v:List Nat)(w:Int)(x:Int)(y:Nat)(z:Nat)(A:List Nat) :T ((Int×Nat×Nat×Nat×Nat×Int×Int×Nat×Nat×Nat×Nat×Nat×Nat×Nat×(List Nat)×(List Nat)×(List Nat)×(List Int)×(List Int)×Nat×Nat×(List Nat)×Int×Int×Nat×Nat×(List Nat))⊕(bk)) :=
  .leaf (.inl (a,b,c,d,e,f,g,h,i,j,k,l,m,n,o,p,q,r,s,t,u,v,w,x,y,z,A))
def iw:(Int×Nat×Nat×Nat×Nat×Int×Int×Nat×Nat×Nat×Nat×Nat×Nat×Nat×(List Nat)×(List Nat)×(List Nat)×(List Int)×(List Int)×Nat×Nat×(List Nat)×Int×Int×Nat×Nat×(List Nat))⊕(bk)→ae
  | .inl (a,b,c,d,e,f,g,h,i,j,k,l,m,n,o,p,q,r,s,t,u,v,w,x,y,z,A)=>(.r0 a b c d e f g h i j k l m n o p q r s t u v w x y z A)
def aj(a:Int)(b:Nat)(o:Nat)(c:Nat)(p:Nat)(q:Int)(r:Int)(d:Nat)(s:Nat)(t:Nat)(e:Nat)(u:Nat)(f:Nat)(v:Nat)(g:List Nat)(h:List Nat)(i:List Nat)(j:List Int)(k:List Int)(l:Nat)(w:Nat)(m:List Nat)(x:Int)(y:Int)(n:Nat)(z:Nat)(A:List Nat)(B:Int) :Option ae:=Option.map iw (bd ((gN).run) fun _ =>
  bd (cu (cE a b c d e f g h i j k l m n B) (0,A)) fun C =>
  (gQ a b o c p q r d s t e u f v g h i j k l w m x y n z C).run)
theorem np(a:Int)(b:Nat)(c:Nat)(d:Nat)(e:Nat)(f:Int)(g:Int)(i:Nat)(j:Nat)(k:Nat)(l:Nat)(m:Nat)(n:Nat)(o:Nat)(p:List Nat)(q:List Nat)(r:List Nat)(s:List Int)(t:List Int)(u:Nat)(v:Nat)(w:List Nat)(y:Int)(z:Int)(A:Nat)(B:Nat)(D:List Nat)(C:Int){x:ae}(h:aj a b c d e f g i j k l m n o p q r s t u v w y z A B D C=some x) :aH prog ap [.vs [.ptr 1 1 0 0],.vs [.int .i64 a,.sl 2 1 1 0 b c,.sl 3 1 1 0 d e,.int .i64 f,.int .i64 g,.sl 4 1 1 0 i j,.flt false k,.sl 5 1 1 0 l m,.sl 6 1 1 0 n o],.fl p,.fl q,.fl r,.ns .i64 s,.ns .i64 t,.vs [.sl 8 1 1 0 u v],.fl w,.vs [.int .i64 y,.int .i64 z,.sl 10 1 1 0 A B],.fl D] [.int .i64 C,.fn (.func eL) [] [.ptr 0 1 0 0,.ptr 7 1 0 0],.ptr 0 1 0 0,.ptr 9 1 0 0] (fa x) :=
  MH false fa hP cT iw h (Sg.cut 1 cL (cF gM (nm a b c d e f g i j k l m n o p q r s t u v w y z A B D C) [⟨[],[0,1,2,3,4,5,6,7,8,9,10],[0,1,2,3,10,11]⟩]) (fun _=>Sg.cut 1 cL (yE ⟨[],[0,1,2,3,4,5,6,7,8,9,10],[0,1,2,3,10,11]⟩ (cM a b c d e f g i j k l m n o p q r s t u v w y z A B C) (hU a b c d e f g i j k l m n o p q r s t u v w y z A B) 0 cL (nj _) (fun ⟨E,F⟩=>mL a b c d e f g i j k l m n o p q r s t u v w y z A B D C E F)) (fun G=>cF gM hP [⟨[],[0,1,2,3,4,5,6,7,8,9,10],[]⟩])))
    (fun ⟨H,I,J,K,L,M,N,O,P,Q,R,S,T,U,V,W,X,Y,Z,a0,a1,a3,a4,a5,a6,b0,b1⟩=>MG []) (fun x=>by cases x)
def cN:Option ae→Bool
  | some _=>true
  | none=>false
def ep:Option ae→Int
  | some (.r0 x _ _ _ _ _ _ _ _ _ _ _ _ _ _ _ _ _ _ _ _ _ _ _ _ _ _)=>x
  | _=>0
def er:Option ae→Nat
  | some (.r0 _ x _ _ _ _ _ _ _ _ _ _ _ _ _ _ _ _ _ _ _ _ _ _ _ _ _)=>x
  | _=>0
def eu:Option ae→Nat
  | some (.r0 _ _ x _ _ _ _ _ _ _ _ _ _ _ _ _ _ _ _ _ _ _ _ _ _ _ _)=>x
  | _=>0
def ev:Option ae→Nat
  | some (.r0 _ _ _ x _ _ _ _ _ _ _ _ _ _ _ _ _ _ _ _ _ _ _ _ _ _ _)=>x
  | _=>0
def ew:Option ae→Nat
  | some (.r0 _ _ _ _ x _ _ _ _ _ _ _ _ _ _ _ _ _ _ _ _ _ _ _ _ _ _)=>x
  | _=>0
def ez:Option ae→Int
  | some (.r0 _ _ _ _ _ x _ _ _ _ _ _ _ _ _ _ _ _ _ _ _ _ _ _ _ _ _)=>x
  | _=>0
def eA:Option ae→Int
  | some (.r0 _ _ _ _ _ _ x _ _ _ _ _ _ _ _ _ _ _ _ _ _ _ _ _ _ _ _)=>x
  | _=>0
def eB:Option ae→Nat
  | some (.r0 _ _ _ _ _ _ _ x _ _ _ _ _ _ _ _ _ _ _ _ _ _ _ _ _ _ _)=>x
  | _=>0
def eC:Option ae→Nat
  | some (.r0 _ _ _ _ _ _ _ _ x _ _ _ _ _ _ _ _ _ _ _ _ _ _ _ _ _ _)=>x
  | _=>0
def eD:Option ae→Nat
  | some (.r0 _ _ _ _ _ _ _ _ _ x _ _ _ _ _ _ _ _ _ _ _ _ _ _ _ _ _)=>x
  | _=>0
def dH:Option ae→Nat
  | some (.r0 _ _ _ _ _ _ _ _ _ _ x _ _ _ _ _ _ _ _ _ _ _ _ _ _ _ _)=>x
  | _=>0
def dI:Option ae→Nat
  | some (.r0 _ _ _ _ _ _ _ _ _ _ _ x _ _ _ _ _ _ _ _ _ _ _ _ _ _ _)=>x
  | _=>0
def dJ:Option ae→Nat
  | some (.r0 _ _ _ _ _ _ _ _ _ _ _ _ x _ _ _ _ _ _ _ _ _ _ _ _ _ _)=>x
  | _=>0
def dK:Option ae→Nat
  | some (.r0 _ _ _ _ _ _ _ _ _ _ _ _ _ x _ _ _ _ _ _ _ _ _ _ _ _ _)=>x
  | _=>0
def dL:Option ae→List Nat
  | some (.r0 _ _ _ _ _ _ _ _ _ _ _ _ _ _ x _ _ _ _ _ _ _ _ _ _ _ _)=>x
  | _=>[]
def dM:Option ae→List Nat
  | some (.r0 _ _ _ _ _ _ _ _ _ _ _ _ _ _ _ x _ _ _ _ _ _ _ _ _ _ _)=>x
  | _=>[]
def dN:Option ae→List Nat
  | some (.r0 _ _ _ _ _ _ _ _ _ _ _ _ _ _ _ _ x _ _ _ _ _ _ _ _ _ _)=>x
  | _=>[]
def dO:Option ae→List Int
  | some (.r0 _ _ _ _ _ _ _ _ _ _ _ _ _ _ _ _ _ x _ _ _ _ _ _ _ _ _)=>x
  | _=>[]
def dP:Option ae→List Int
  | some (.r0 _ _ _ _ _ _ _ _ _ _ _ _ _ _ _ _ _ _ x _ _ _ _ _ _ _ _)=>x
  | _=>[]
def gj:Option ae→Nat
  | some (.r0 _ _ _ _ _ _ _ _ _ _ _ _ _ _ _ _ _ _ _ x _ _ _ _ _ _ _)=>x
  | _=>0
def gk:Option ae→Nat
  | some (.r0 _ _ _ _ _ _ _ _ _ _ _ _ _ _ _ _ _ _ _ _ x _ _ _ _ _ _)=>x
  | _=>0
def gl:Option ae→List Nat
  | some (.r0 _ _ _ _ _ _ _ _ _ _ _ _ _ _ _ _ _ _ _ _ _ x _ _ _ _ _)=>x
  | _=>[]
def dQ:Option ae→Int
  | some (.r0 _ _ _ _ _ _ _ _ _ _ _ _ _ _ _ _ _ _ _ _ _ _ x _ _ _ _)=>x
  | _=>0
def dR:Option ae→Int
  | some (.r0 _ _ _ _ _ _ _ _ _ _ _ _ _ _ _ _ _ _ _ _ _ _ _ x _ _ _)=>x
  | _=>0
def dS:Option ae→Nat
  | some (.r0 _ _ _ _ _ _ _ _ _ _ _ _ _ _ _ _ _ _ _ _ _ _ _ _ x _ _)=>x
  | _=>0
def dT:Option ae→Nat
  | some (.r0 _ _ _ _ _ _ _ _ _ _ _ _ _ _ _ _ _ _ _ _ _ _ _ _ _ x _)=>x
  | _=>0
def dU:Option ae→List Nat
  | some (.r0 _ _ _ _ _ _ _ _ _ _ _ _ _ _ _ _ _ _ _ _ _ _ _ _ _ _ x)=>x
  | _=>[]
theorem nq{x:Option ae}(h:cN x=true) :x=some (.r0 (ep x) (er x) (eu x) (ev x) (ew x) (ez x) (eA x) (eB x) (eC x) (eD x) (dH x) (dI x) (dJ x) (dK x) (dL x) (dM x) (dN x) (dO x) (dP x) (gj x) (gk x) (gl x) (dQ x) (dR x) (dS x) (dT x) (dU x)):=by
  unfold cN at h
  split at h<;>first | rfl | (cases h;done) | (rename_i y;cases y;rfl)
def iy:bC:=yZ ap [.vs [.lptr 1 1 0 0],.vs [.int .i64,.lsl0 2,.lsl0 3,.int .i64,.int .i64,.lsl0 4,.flt,.lsl0 5,.lsl0 6],.fl,.fl,.fl,.ns .i64,.ns .i64,.vs [.lsl0 8],.fl,.vs [.int .i64,.int .i64,.lsl0 10],.fl] (.cons (.int .i64) (.cons (.fn eL .nil (.cons (.lptr 0 1 0 0) (.cons (.lptr 7 1 0 0) .nil))) (.cons (.lptr 0 1 0 0) (.cons (.lptr 9 1 0 0) .nil)))) fun x t=>(fun q=>[⟨fa (.r0 (ep q) (er q) (eu q) (ev q) (ew q) (ez q) (eA q) (eB q) (eC q) (eD q) (dH q) (dI q) (dJ q) (dK q) (dL q) (dM q) (dN q) (dO q) (dP q) (gj q) (gk q) (gl q) (dQ q) (dR q) (dS q) (dT q) (dU q)),[cN q]⟩]) (aj x.2.1.1 x.2.1.2.1.1 x.2.1.2.1.2 x.2.1.2.2.1.1 x.2.1.2.2.1.2 x.2.1.2.2.2.1 x.2.1.2.2.2.2.1 x.2.1.2.2.2.2.2.1.1 x.2.1.2.2.2.2.2.1.2 x.2.1.2.2.2.2.2.2.1 x.2.1.2.2.2.2.2.2.2.1.1 x.2.1.2.2.2.2.2.2.2.1.2 x.2.1.2.2.2.2.2.2.2.2.1.1 x.2.1.2.2.2.2.2.2.2.2.1.2 x.2.2.1 x.2.2.2.1 x.2.2.2.2.1 x.2.2.2.2.2.1 x.2.2.2.2.2.2.1 x.2.2.2.2.2.2.2.1.1.1 x.2.2.2.2.2.2.2.1.1.2 x.2.2.2.2.2.2.2.2.1 x.2.2.2.2.2.2.2.2.2.1.1 x.2.2.2.2.2.2.2.2.2.1.2.1 x.2.2.2.2.2.2.2.2.2.1.2.2.1.1 x.2.2.2.2.2.2.2.2.2.1.2.2.1.2 x.2.2.2.2.2.2.2.2.2.2.1 t.1)
theorem lH:bZ prog iy:=pE fun x t=>(jZ (fun h=>np x.2.1.1 x.2.1.2.1.1 x.2.1.2.1.2 x.2.1.2.2.1.1 x.2.1.2.2.1.2 x.2.1.2.2.2.1 x.2.1.2.2.2.2.1 x.2.1.2.2.2.2.2.1.1 x.2.1.2.2.2.2.2.1.2 x.2.1.2.2.2.2.2.2.1 x.2.1.2.2.2.2.2.2.2.1.1 x.2.1.2.2.2.2.2.2.2.1.2 x.2.1.2.2.2.2.2.2.2.2.1.1 x.2.1.2.2.2.2.2.2.2.2.1.2 x.2.2.1 x.2.2.2.1 x.2.2.2.2.1 x.2.2.2.2.2.1 x.2.2.2.2.2.2.1 x.2.2.2.2.2.2.2.1.1.1 x.2.2.2.2.2.2.2.1.1.2 x.2.2.2.2.2.2.2.2.1 x.2.2.2.2.2.2.2.2.2.1.1 x.2.2.2.2.2.2.2.2.2.1.2.1 x.2.2.2.2.2.2.2.2.2.1.2.2.1.1 x.2.2.2.2.2.2.2.2.2.1.2.2.1.2 x.2.2.2.2.2.2.2.2.2.2.1 t.1 (nq h)) pF)
def iz:List bC:=iy::uI
theorem ac:cQ prog (cX iz):=aY lH gM
end
end Go.Plb.Seat
