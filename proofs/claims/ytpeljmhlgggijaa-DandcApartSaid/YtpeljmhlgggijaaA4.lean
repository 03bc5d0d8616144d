/-
  Part 4 of what the claim leans on: an evaluator of the model, proved sound; the contracts of the functions.
-/
import Derived.Test.YtpeljmhlgggijaaA3
namespace Go.Plb.Seat
open Go Go.Plb
set_option linter.unusedVariables false
set_option maxRecDepth 100000
noncomputable section
inductive ab where
  | r0 (a:Int) (b:Nat) (c:Nat) (d:Nat) (e:Nat) (f:Int) (g:Int) (h:Nat) (i:Nat) (j:Nat) (k:Nat) (l:Nat) (m:Nat) (n:Nat) (o:List Nat) (p:List Nat) (q:List Nat) (r:List Int) (s:List Int)
  | r1 (t:Nat) (u:Int) (v:Nat) (w:Nat) (x:Nat) (y:Nat) (z:Int) (A:Int) (B:Nat) (C:Nat) (D:Nat) (E:Nat) (F:Nat) (G:Nat) (H:Nat) (I:List Nat) (J:List Nat) (K:List Nat) (L:List Int) (M:List Int) (N:List Nat) (O:List Nat)
def cW:ab→AE×aW
  | .r0 a b c d e f g h i j k l m n o p q r s=>(.ret,⟨aw 263 [(2,.int .i64 (0:Int)),(3,.int .i64 (7:Int))],[(0,.vs [.int .i64 a,.sl 1 1 1 0 b c,.sl 2 1 1 0 d e,.int .i64 f,.int .i64 g,.sl 3 1 1 0 h i,.flt false j,.sl 4 1 1 0 k l,.sl 5 1 1 0 m n]),(1,.fl o),(2,.fl p),(3,.fl q),(4,.ns .i64 r),(5,.ns .i64 s)],6⟩)
  | .r1 t u v w x y z A B C D E F G H I J K L M N O=>(.ret,⟨aw 263 [(2,.int .i64 ((t:Nat):Int)),(3,.int .i64 (0:Int))],[(0,.vs [.int .i64 u,.sl 6 1 1 0 v w,.sl 2 1 1 0 x y,.int .i64 z,.int .i64 A,.sl 7 1 1 0 B C,.flt false D,.sl 4 1 1 0 E F,.sl 5 1 1 0 G H]),(1,.fl I),(2,.fl J),(3,.fl K),(4,.ns .i64 L),(5,.ns .i64 M),(6,.fl N),(7,.fl O)],8⟩)
theorem aA:ye cW:=by intro x;cases x<;>(intro h;cases h)
theorem db(id:Nat) :rB id cW:=by intro x;cases x<;>(intro h;cases h)
def mU:ab→rU
  | .r0 a b c d e f g h i j k l m n o p q r s=>⟨.tup [.int .i64 (0:Int),.int .i64 (7:Int)],[some (.vs [.int .i64 a,.sl 1 1 1 0 b c,.sl 2 1 1 0 d e,.int .i64 f,.int .i64 g,.sl 3 1 1 0 h i,.flt false j,.sl 4 1 1 0 k l,.sl 5 1 1 0 m n]),some (.fl o),some (.fl p),some (.fl q),some (.ns .i64 r),some (.ns .i64 s)]⟩
  | .r1 t u v w x y z A B C D E F G H I J K L M N O=>⟨.tup [.int .i64 ((t:Nat):Int),.int .i64 (0:Int)],[some (.vs [.int .i64 u,.sl 6 1 1 0 v w,.sl 2 1 1 0 x y,.int .i64 z,.int .i64 A,.sl 7 1 1 0 B C,.flt false D,.sl 4 1 1 0 E F,.sl 5 1 1 0 G H]),some (.fl I),some (.fl J),some (.fl K),some (.ns .i64 L),some (.ns .i64 M),some (.fl N),some (.fl O)]⟩
def jb:List Code:=cS (ri lU)
def Dx(a:Int)(f:Nat)(g:Nat)(h:Nat)(i:Nat)(j:Int)(k:Int)(l:Nat)(m:Nat)(n:Nat)(c:Nat)(o:Nat)(b:Nat)(d:Nat)(p:List Nat)(q:List Nat)(r:List Nat)(s:List Int)(t:List Int) :Nat×(List Nat)→aW:=fun (e,u)=>⟨aw 263 [(1,.ptr 6 1 0 0),(4,.int .i64 ((c:Nat):Int)),(5,.nsl),(6,.ptr 7 1 0 0),(7,.fn (.func aq) [] [.ptr 6 1 0 0,.ptr 7 1 0 0]),(43,.sl 5 1 1 0 b d),(44,.int .i64 ((b:Nat):Int)),(45,.int .i64 (0:Int))],[(0,.vs [.int .i64 a,.sl 1 1 1 0 f g,.sl 2 1 1 0 h i,.int .i64 j,.int .i64 k,.sl 3 1 1 0 l m,.flt false n,.sl 4 1 1 0 c o,.sl 5 1 1 0 b d]),(1,.fl p),(2,.fl q),(3,.fl r),(4,.ns .i64 s),(5,.ns .i64 t),(6,.vs [.ptr 0 1 0 0]),(7,.vs [.int .i64 a,.int .i64 a,.sl 8 1 1 0 e e]),(8,.fl u)],9⟩
def va(a:Int) :T ((Nat×(List Nat))⊕(ab)) :=
  .need (fq .i64 (a*a))<|.need (decide ((0:Int)≤(a*a)))<|.need (decide ((a*a)≤(a*a)))<|.need (decide ((8:Int)*(a*a)≤140737488355328))<|.need (fq .i64 (a*a))<|.leaf (.inl ((Int.toNat (a*a)),(List.replicate (Int.toNat (a*a)) 0)))
def lD(b:Nat)(a:Nat)(c:Nat) :Nat×Nat×Nat×Int×Nat×Nat×Nat×Nat×Int×Int×Nat×Nat×Nat×Nat×Nat×Nat×Nat×(List Nat)×(List Nat)×(List Nat)×(List Int)×(List Int)×(List Nat)×Int×Int×Nat×Nat×(List Nat)→aW:=fun (d,e,f,g,h,i,j,k,l,m,n,o,p,q,r,s,t,u,v,w,x,y,z,A,B,C,D,E)=>⟨aw 263 [(1,.ptr 6 1 0 0),(4,.int .i64 ((b:Nat):Int)),(5,.sl 7 1 1 0 d e),(6,.ptr 8 1 0 0),(7,.fn (.func aq) [] [.ptr 6 1 0 0,.ptr 8 1 0 0]),(43,.sl 5 1 1 0 a c),(44,.int .i64 ((a:Nat):Int)),(45,.int .i64 ((f:Nat):Int))],[(0,.vs [.int .i64 g,.sl 1 1 1 0 h i,.sl 2 1 1 0 j k,.int .i64 l,.int .i64 m,.sl 3 1 1 0 n o,.flt false p,.sl 4 1 1 0 q r,.sl 5 1 1 0 s t]),(1,.fl u),(2,.fl v),(3,.fl w),(4,.ns .i64 x),(5,.ns .i64 y),(6,.vs [.ptr 0 1 0 0]),(7,.fl z),(8,.vs [.int .i64 A,.int .i64 B,.sl 9 1 1 0 C D]),(9,.fl E)],10⟩
def vV(a:Nat) :Nat×Nat×Int×Nat×Nat×Nat×Nat×Int×Int×Nat×Nat×Nat×Nat×Nat×Nat×Nat×(List Nat)×(List Nat)×(List Nat)×(List Int)×(List Int)×(List Nat)×Int×Int×Nat×Nat×(List Nat)→aW:=fun (b,c,d,e,f,g,h,i,j,k,l,m,n,o,p,q,r,s,t,u,v,w,x,y,z,A,B)=>⟨aw 263 [(1,.ptr 6 1 0 0),(4,.int .i64 ((a:Nat):Int)),(5,.sl 7 1 1 0 b c),(6,.ptr 8 1 0 0),(7,.fn (.func aq) [] [.ptr 6 1 0 0,.ptr 8 1 0 0])],[(0,.vs [.int .i64 d,.sl 1 1 1 0 e f,.sl 2 1 1 0 g h,.int .i64 i,.int .i64 j,.sl 3 1 1 0 k l,.flt false m,.sl 4 1 1 0 n o,.sl 5 1 1 0 p q]),(1,.fl r),(2,.fl s),(3,.fl t),(4,.ns .i64 u),(5,.ns .i64 v),(6,.vs [.ptr 0 1 0 0]),(7,.fl w),(8,.vs [.int .i64 x,.int .i64 y,.sl 9 1 1 0 z A]),(9,.fl B)],10⟩
def CD:List Code:=cS (dh ((((jb.drop 5).take 1)).headD .skip))
def Dy(c:Nat)(a:Nat)(d:Nat)(e:Nat) :Nat×Int×Nat×Nat×Nat×Nat×Int×Int×Nat×Nat×Nat×Nat×Nat×Nat×Nat×(List Nat)×(List Nat)×(List Nat)×(List Int)×(List Int)×(List Nat)×Int×Int×Nat×Nat×(List Nat)→aW:=fun (b,f,g,h,i,j,k,l,m,n,o,p,q,r,s,t,u,v,w,x,y,z,A,B,C,D)=>⟨aw 263 [(1,.ptr 6 1 0 0),(4,.int .i64 ((c:Nat):Int)),(5,.sl 7 1 1 0 b b),(6,.ptr 8 1 0 0),(7,.fn (.func aq) [] [.ptr 6 1 0 0,.ptr 8 1 0 0]),(43,.sl 5 1 1 0 a d),(44,.int .i64 ((a:Nat):Int)),(45,.int .i64 ((e:Nat):Int))],[(0,.vs [.int .i64 f,.sl 1 1 1 0 g h,.sl 2 1 1 0 i j,.int .i64 k,.int .i64 l,.sl 3 1 1 0 m n,.flt false o,.sl 4 1 1 0 p q,.sl 5 1 1 0 r s]),(1,.fl t),(2,.fl u),(3,.fl v),(4,.ns .i64 w),(5,.ns .i64 x),(6,.vs [.ptr 0 1 0 0]),(7,.fl y),(8,.vs [.int .i64 z,.int .i64 A,.sl 9 1 1 0 B C]),(9,.fl D)],10⟩
def vb(B:Nat)(z:Nat)(C:Nat)(a:Nat)(e:Int)(d:Nat)(f:Nat)(g:Nat)(h:Nat)(i:Int)(j:Int)(k:Nat)(l:Nat)(m:Nat)(n:Nat)(o:Nat)(p:Nat)(q:Nat)(c:List Nat)(r:List Nat)(s:List Nat)(t:List Int)(b:List Int)(A:List Nat)(u:Int)(v:Int)(w:Nat)(x:Nat)(y:List Nat) :T ((Nat×Int×Nat×Nat×Nat×Nat×Int×Int×Nat×Nat×Nat×Nat×Nat×Nat×Nat×(List Nat)×(List Nat)×(List Nat)×(List Int)×(List Int)×(List Nat)×Int×Int×Nat×Nat×(List Nat))⊕((Nat×Nat×Int×Nat×Nat×Nat×Nat×Int×Int×Nat×Nat×Nat×Nat×Nat×Nat×Nat×(List Nat)×(List Nat)×(List Nat)×(List Int)×(List Int)×(List Nat)×Int×Int×Nat×Nat×(List Nat))⊕(ab))) :=
  .ask (decide (((a:Nat):Int)<((B:Nat):Int)))
    (.need (fU ((a:Nat):Int) B)<|.need (fi a (List.length b))<|.need (fU (List.getD b a 0) d)<|.need (fi (Int.toNat (List.getD b a 0)) (List.length c))<|.need (kj ((z+1)*8) 140737488355328)<|.need (kj (z+1) 9223372036854775807)<|.need (kj 1 (List.length [(List.getD c (Int.toNat (List.getD b a 0)) 0)]))<|.need (kj z (List.length A))<|.need (cN (ai e d f g h i j k l m n o p q c r s t b (List.getD b a 0) u v w x y ((a:Nat):Int)))<|.leaf (.inl ((z+1),(eg (ai e d f g h i j k l m n o p q c r s t b (List.getD b a 0) u v w x y ((a:Nat):Int))),(eh (ai e d f g h i j k l m n o p q c r s t b (List.getD b a 0) u v w x y ((a:Nat):Int))),(ei (ai e d f g h i j k l m n o p q c r s t b (List.getD b a 0) u v w x y ((a:Nat):Int))),(ej (ai e d f g h i j k l m n o p q c r s t b (List.getD b a 0) u v w x y ((a:Nat):Int))),(ek (ai e d f g h i j k l m n o p q c r s t b (List.getD b a 0) u v w x y ((a:Nat):Int))),(em (ai e d f g h i j k l m n o p q c r s t b (List.getD b a 0) u v w x y ((a:Nat):Int))),(en (ai e d f g h i j k l m n o p q c r s t b (List.getD b a 0) u v w x y ((a:Nat):Int))),(ep (ai e d f g h i j k l m n o p q c r s t b (List.getD b a 0) u v w x y ((a:Nat):Int))),(er (ai e d f g h i j k l m n o p q c r s t b (List.getD b a 0) u v w x y ((a:Nat):Int))),(eu (ai e d f g h i j k l m n o p q c r s t b (List.getD b a 0) u v w x y ((a:Nat):Int))),(dv (ai e d f g h i j k l m n o p q c r s t b (List.getD b a 0) u v w x y ((a:Nat):Int))),(dw (ai e d f g h i j k l m n o p q c r s t b (List.getD b a 0) u v w x y ((a:Nat):Int))),(dx (ai e d f g h i j k l m n o p q c r s t b (List.getD b a 0) u v w x y ((a:Nat):Int))),(dy (ai e d f g h i j k l m n o p q c r s t b (List.getD b a 0) u v w x y ((a:Nat):Int))),(dz (ai e d f g h i j k l m n o p q c r s t b (List.getD b a 0) u v w x y ((a:Nat):Int))),(dA (ai e d f g h i j k l m n o p q c r s t b (List.getD b a 0) u v w x y ((a:Nat):Int))),(dB (ai e d f g h i j k l m n o p q c r s t b (List.getD b a 0) u v w x y ((a:Nat):Int))),(dC (ai e d f g h i j k l m n o p q c r s t b (List.getD b a 0) u v w x y ((a:Nat):Int))),(dD (ai e d f g h i j k l m n o p q c r s t b (List.getD b a 0) u v w x y ((a:Nat):Int))),((List.take z A)++(List.take 1 [(List.getD c (Int.toNat (List.getD b a 0)) 0)])),(dE (ai e d f g h i j k l m n o p q c r s t b (List.getD b a 0) u v w x y ((a:Nat):Int))),(dF (ai e d f g h i j k l m n o p q c r s t b (List.getD b a 0) u v w x y ((a:Nat):Int))),(dG (ai e d f g h i j k l m n o p q c r s t b (List.getD b a 0) u v w x y ((a:Nat):Int))),(dH (ai e d f g h i j k l m n o p q c r s t b (List.getD b a 0) u v w x y ((a:Nat):Int))),(dI (ai e d f g h i j k l m n o p q c r s t b (List.getD b a 0) u v w x y ((a:Nat):Int))))))
    (.leaf (.inr (.inl (z,C,e,d,f,g,h,i,j,k,l,m,n,o,p,q,c,r,s,t,b,A,u,v,w,x,y))))
def vc(a:Nat)(b:Nat)(c:Int)(d:Nat)(e:Nat)(f:Nat)(g:Nat)(h:Int)(i:Int)(j:Nat)(k:Nat)(l:Nat)(m:Nat)(n:Nat)(o:Nat)(p:Nat)(q:List Nat)(r:List Nat)(s:List Nat)(t:List Int)(u:List Int)(v:List Nat)(w:Int)(x:Int)(y:Nat)(z:Nat)(A:List Nat) :T ((Nat×Nat×Nat×Int×Nat×Nat×Nat×Nat×Int×Int×Nat×Nat×Nat×Nat×Nat×Nat×Nat×(List Nat)×(List Nat)×(List Nat)×(List Int)×(List Int)×(List Nat)×Int×Int×Nat×Nat×(List Nat))⊕((Nat×Nat×Int×Nat×Nat×Nat×Nat×Int×Int×Nat×Nat×Nat×Nat×Nat×Nat×Nat×(List Nat)×(List Nat)×(List Nat)×(List Int)×(List Int)×(List Nat)×Int×Int×Nat×Nat×(List Nat))⊕(ab))) :=
  .need (fq .i64 (((a+1):Nat):Int))<|.leaf (.inl (b,b,(a+1),c,d,e,f,g,h,i,j,k,l,m,n,o,p,q,r,s,t,u,v,w,x,y,z,A))
def jc(b:Nat) :Nat×Nat×Nat×Int×Nat×Nat×Nat×Nat×Int×Int×Nat×Nat×Nat×Nat×Nat×Nat×Nat×(List Nat)×(List Nat)×(List Nat)×(List Int)×(List Int)×(List Nat)×Int×Int×Nat×Nat×(List Nat)→Option ((Nat×Nat×Nat×Int×Nat×Nat×Nat×Nat×Int×Int×Nat×Nat×Nat×Nat×Nat×Nat×Nat×(List Nat)×(List Nat)×(List Nat)×(List Int)×(List Int)×(List Nat)×Int×Int×Nat×Nat×(List Nat))⊕((Nat×Nat×Int×Nat×Nat×Nat×Nat×Int×Int×Nat×Nat×Nat×Nat×Nat×Nat×Nat×(List Nat)×(List Nat)×(List Nat)×(List Int)×(List Int)×(List Nat)×Int×Int×Nat×Nat×(List Nat))⊕(ab))):=fun (c,d,a,e,f,g,h,i,j,k,l,m,n,o,p,q,r,s,t,u,v,w,x,y,z,A,B,C) =>
  bd ((vb b c d a e f g h i j k l m n o p q r s t u v w x y z A B C).run) fun (D,E,F,G,H,I,J,K,L,M,N,O,P,Q,R,S,T,U,V,W,X,Y,Z,a0,a1,a2) =>
  (vc a D E F G H I J K L M N O P Q R S T U V W X Y Z a0 a1 a2).run
theorem CE(F:Int)(G:Nat)(H:Nat)(I:Nat)(J:Nat)(K:Int)(L:Int)(M:Nat)(N:Nat)(O:Nat)(a:Nat)(P:Nat)(b:Nat)(c:Nat)(Q:List Nat)(R:List Nat)(S:List Nat)(T:List Int)(U:List Int)(e:Nat)(f:Nat)(d:Nat)(g:Int)(h:Nat)(i:Nat)(j:Nat)(k:Nat)(l:Int)(m:Int)(n:Nat)(o:Nat)(p:Nat)(q:Nat)(r:Nat)(s:Nat)(t:Nat)(u:List Nat)(v:List Nat)(w:List Nat)(x:List Int)(y:List Int)(z:List Nat)(A:Int)(B:Int)(C:Nat)(D:Nat)(E:List Nat) :Sg prog [.vs [.int .i64 F,.sl 1 1 1 0 G H,.sl 2 1 1 0 I J,.int .i64 K,.int .i64 L,.sl 3 1 1 0 M N,.flt false O,.sl 4 1 1 0 a P,.sl 5 1 1 0 b c],.fl Q,.fl R,.fl S,.ns .i64 T,.ns .i64 U] CD (lD a b c (e,f,d,g,h,i,j,k,l,m,n,o,p,q,r,s,t,u,v,w,x,y,z,A,B,C,D,E)) (jc b (e,f,d,g,h,i,j,k,l,m,n,o,p,q,r,s,t,u,v,w,x,y,z,A,B,C,D,E)) (lD a b c) (bW 0 (vV a) cW):=by
  unfold jc;exact Sg.cut 3 (ao aA) (cy ac (Dy a b c d) [⟨[],[0,1,2,3,4,5,6,266,8,9],[1,4,5,6,7,43,44,45]⟩,⟨[],[0,1,2,3,4,5,6,7,8,9],[1,4,5,6,7]⟩]) (fun ⟨V,W,X,Y,Z,a0,a1,a2,a3,a4,a5,a6,a7,a8,a9,b0,b1,b2,b3,b4,b5,b6,b7,b8,b9,c0⟩=>cy ac (lD a b c) [⟨[],[0,1,2,3,4,5,6,7,8,9],[1,4,5,6,7,43,44,45]⟩])
def CF(a:Nat)(b:Nat)(c:Nat)(d:Int)(e:Nat)(f:Nat)(g:Nat)(h:Nat)(i:Int)(j:Int)(k:Nat)(l:Nat)(m:Nat)(n:Nat)(o:Nat)(p:Nat)(q:Nat)(r:List Nat)(s:List Nat)(t:List Nat)(u:List Int)(v:List Int)(w:List Nat)(x:Int)(y:Int)(z:Nat)(A:Nat)(B:List Nat)(C:Bool) :aW:=⟨aw 263 [(1,.ptr 6 1 0 0),(4,.int .i64 ((a:Nat):Int)),(5,.sl 7 1 1 0 b c),(6,.ptr 8 1 0 0),(7,.fn (.func aq) [] [.ptr 6 1 0 0,.ptr 8 1 0 0]),(10,.int .i64 (0:Int)),(66,.bool false C)],[(0,.vs [.int .i64 d,.sl 1 1 1 0 e f,.sl 2 1 1 0 g h,.int .i64 i,.int .i64 j,.sl 3 1 1 0 k l,.flt false m,.sl 4 1 1 0 n o,.sl 5 1 1 0 p q]),(1,.fl r),(2,.fl s),(3,.fl t),(4,.ns .i64 u),(5,.ns .i64 v),(6,.vs [.ptr 0 1 0 0]),(7,.fl w),(8,.vs [.int .i64 x,.int .i64 y,.sl 9 1 1 0 z A]),(9,.fl B)],10⟩
def tK(a:Nat) :T ((Bool)⊕(ab)) :=
  .leaf (.inl (decide (((a:Nat):Int)>(0:Int))))
def vd:Nat×Nat×Nat×Int×Nat×Nat×Nat×Nat×Int×Int×Nat×Nat×Nat×Nat×Nat×Nat×Nat×(List Nat)×(List Nat)×(List Nat)×(List Int)×(List Int)×(List Nat)×Int×Int×Nat×Nat×(List Nat)→aW:=fun (a,b,c,d,e,f,g,h,i,j,k,l,m,n,o,p,q,r,s,t,u,v,w,x,y,z,A,B)=>⟨aw 263 [(1,.ptr 6 1 0 0),(5,.sl 7 1 1 0 a b),(6,.ptr 8 1 0 0),(10,.int .i64 ((c:Nat):Int))],[(0,.vs [.int .i64 d,.sl 1 1 1 0 e f,.sl 2 1 1 0 g h,.int .i64 i,.int .i64 j,.sl 3 1 1 0 k l,.flt false m,.sl 4 1 1 0 n o,.sl 5 1 1 0 p q]),(1,.fl r),(2,.fl s),(3,.fl t),(4,.ns .i64 u),(5,.ns .i64 v),(6,.vs [.ptr 0 1 0 0]),(7,.fl w),(8,.vs [.int .i64 x,.int .i64 y,.sl 9 1 1 0 z A]),(9,.fl B)],10⟩
def pu:List Code:=cS (IA ((((((jb.drop 5).drop 1).drop 2).take 1)).headD .skip))
def CG(d:Nat)(e:Nat)(f:Nat)(g:Int)(h:Nat)(i:Nat)(j:Nat)(k:Nat)(l:Int)(m:Int)(n:Nat)(o:Nat)(b:Nat)(a:Nat)(c:Nat)(p:Nat)(q:Nat)(r:List Nat)(s:List Nat)(t:List Nat)(u:List Int)(v:List Int)(w:List Nat)(x:Int)(y:Int)(z:Nat)(A:Nat)(B:List Nat)(_:Unit) :aW:=⟨aw 263 [(1,.ptr 6 1 0 0),(4,.int .i64 ((d:Nat):Int)),(5,.sl 7 1 1 0 e f),(6,.ptr 8 1 0 0),(7,.fn (.func aq) [] [.ptr 6 1 0 0,.ptr 8 1 0 0]),(11,.ptr 9 1 0 0),(75,.sl 4 1 1 0 a c),(76,.int .i64 ((a:Nat):Int)),(77,.int .i64 (0:Int))],[(0,.vs [.int .i64 g,.sl 1 1 1 0 h i,.sl 2 1 1 0 j k,.int .i64 l,.int .i64 m,.sl 3 1 1 0 n o,.flt false b,.sl 4 1 1 0 a c,.sl 5 1 1 0 p q]),(1,.fl r),(2,.fl s),(3,.fl t),(4,.ns .i64 u),(5,.ns .i64 v),(6,.vs [.ptr 0 1 0 0]),(7,.fl w),(8,.vs [.int .i64 x,.int .i64 y,.sl 10 1 1 0 z A]),(9,.vs [.nsl,.nsl,.flt false b]),(10,.fl B)],11⟩
def tL:T ((Unit)⊕(ab)) :=
  .leaf (.inl ())
def kN(d:Nat)(e:Nat)(f:Nat)(g:Int)(h:Nat)(i:Nat)(j:Nat)(k:Nat)(l:Int)(m:Int)(n:Nat)(o:Nat)(b:Nat)(a:Nat)(c:Nat)(p:Nat)(q:Nat)(r:List Nat)(s:List Nat)(t:List Nat)(u:List Int)(v:List Int)(w:List Nat)(x:Int)(y:Int)(z:Nat)(A:Nat)(B:List Nat) :Nat×Nat×Nat×Nat×Nat×(List Nat)×(List Nat)→aW:=fun (C,D,E,F,G,H,I)=>⟨aw 263 [(1,.ptr 6 1 0 0),(4,.int .i64 ((d:Nat):Int)),(5,.sl 7 1 1 0 e f),(6,.ptr 8 1 0 0),(7,.fn (.func aq) [] [.ptr 6 1 0 0,.ptr 8 1 0 0]),(11,.ptr 9 1 0 0),(75,.sl 4 1 1 0 a c),(76,.int .i64 ((a:Nat):Int)),(77,.int .i64 ((C:Nat):Int))],[(0,.vs [.int .i64 g,.sl 1 1 1 0 h i,.sl 2 1 1 0 j k,.int .i64 l,.int .i64 m,.sl 3 1 1 0 n o,.flt false b,.sl 4 1 1 0 a c,.sl 5 1 1 0 p q]),(1,.fl r),(2,.fl s),(3,.fl t),(4,.ns .i64 u),(5,.ns .i64 v),(6,.vs [.ptr 0 1 0 0]),(7,.fl w),(8,.vs [.int .i64 x,.int .i64 y,.sl 10 1 1 0 z A]),(9,.vs [.sl 11 1 1 0 D E,.sl 12 1 1 0 F G,.flt false b]),(10,.fl B),(11,.fl H),(12,.fl I)],13⟩
def ve(b:Nat)(c:Nat)(d:Nat)(e:Int)(f:Nat)(g:Nat)(h:Nat)(i:Nat)(j:Int)(k:Int)(l:Nat)(m:Nat)(a:Nat)(n:Nat)(o:Nat)(p:Nat)(q:Nat)(r:List Nat)(s:List Nat)(t:List Nat)(u:List Int)(v:List Int)(w:List Nat)(x:Int)(y:Int)(z:Nat)(A:Nat)(B:List Nat) :Nat×Nat×Nat×Nat×(List Nat)×(List Nat)→aW:=fun (C,D,E,F,G,H)=>⟨aw 263 [(1,.ptr 6 1 0 0),(4,.int .i64 ((b:Nat):Int)),(5,.sl 7 1 1 0 c d),(6,.ptr 8 1 0 0),(7,.fn (.func aq) [] [.ptr 6 1 0 0,.ptr 8 1 0 0]),(11,.ptr 9 1 0 0)],[(0,.vs [.int .i64 e,.sl 1 1 1 0 f g,.sl 2 1 1 0 h i,.int .i64 j,.int .i64 k,.sl 3 1 1 0 l m,.flt false a,.sl 4 1 1 0 n o,.sl 5 1 1 0 p q]),(1,.fl r),(2,.fl s),(3,.fl t),(4,.ns .i64 u),(5,.ns .i64 v),(6,.vs [.ptr 0 1 0 0]),(7,.fl w),(8,.vs [.int .i64 x,.int .i64 y,.sl 10 1 1 0 z A]),(9,.vs [.sl 11 1 1 0 C D,.sl 12 1 1 0 E F,.flt false a]),(10,.fl B),(11,.fl G),(12,.fl H)],13⟩
def A7:List Code:=cS (dh ((((pu.drop 2).take 1)).headD .skip))
def tM(j:Nat)(k:Nat)(i:Nat)(e:List Nat)(f:List Nat)(b:List Int)(a:Nat)(c:Nat)(l:Nat)(d:Nat)(m:Nat)(g:List Nat)(h:List Nat) :T ((Nat×Nat×Nat×Nat×Nat×(List Nat)×(List Nat))⊕((Nat×Nat×Nat×Nat×(List Nat)×(List Nat))⊕(ab))) :=
  .ask (decide (((a:Nat):Int)<((i:Nat):Int)))
    (.need (fU ((a:Nat):Int) i)<|.need (fi a (List.length b))<|.need (fU (List.getD b a 0) j)<|.need (fi (Int.toNat (List.getD b a 0)) (List.length e))<|.need (kj ((c+1)*8) 140737488355328)<|.need (kj (c+1) 9223372036854775807)<|.need (kj 1 (List.length [(List.getD e (Int.toNat (List.getD b a 0)) 0)]))<|.need (kj c (List.length g))<|.need (fU (List.getD b a 0) k)<|.need (fi (Int.toNat (List.getD b a 0)) (List.length f))<|.need (kj ((d+1)*8) 140737488355328)<|.need (kj (d+1) 9223372036854775807)<|.need (kj 1 (List.length [(List.getD f (Int.toNat (List.getD b a 0)) 0)]))<|.need (kj d (List.length h))<|.need (fq .i64 (((a+1):Nat):Int))<|.leaf (.inl ((a+1),(c+1),(c+1),(d+1),(d+1),((List.take c g)++(List.take 1 [(List.getD e (Int.toNat (List.getD b a 0)) 0)])),((List.take d h)++(List.take 1 [(List.getD f (Int.toNat (List.getD b a 0)) 0)])))))
    (.leaf (.inr (.inl (c,l,d,m,g,h))))
def iI(a:Nat)(b:Nat)(c:Nat)(d:List Nat)(e:List Nat)(f:List Int) :Nat×Nat×Nat×Nat×Nat×(List Nat)×(List Nat)→Option ((Nat×Nat×Nat×Nat×Nat×(List Nat)×(List Nat))⊕((Nat×Nat×Nat×Nat×(List Nat)×(List Nat))⊕(ab))):=fun (g,h,i,j,k,l,m) =>
  (tM a b c d e f g h i j k l m).run
theorem A8(J:Int)(K:Nat)(L:Nat)(M:Nat)(N:Nat)(O:Int)(P:Int)(Q:Nat)(R:Nat)(S:Nat)(a:Nat)(T:Nat)(U:Nat)(V:Nat)(W:List Nat)(X:List Nat)(Y:List Nat)(Z:List Int)(a0:List Int)(h:Nat)(i:Nat)(j:Int)(b:Nat)(k:Nat)(c:Nat)(l:Nat)(m:Int)(n:Int)(o:Nat)(p:Nat)(q:Nat)(d:Nat)(r:Nat)(s:Nat)(t:Nat)(e:List Nat)(f:List Nat)(u:List Nat)(g:List Int)(v:List Int)(w:List Nat)(x:Int)(y:Int)(z:Nat)(A:Nat)(B:List Nat)(C:Nat)(D:Nat)(E:Nat)(F:Nat)(G:Nat)(H:List Nat)(I:List Nat) :Sg prog [.vs [.int .i64 J,.sl 1 1 1 0 K L,.sl 2 1 1 0 M N,.int .i64 O,.int .i64 P,.sl 3 1 1 0 Q R,.flt false S,.sl 4 1 1 0 a T,.sl 5 1 1 0 U V],.fl W,.fl X,.fl Y,.ns .i64 Z,.ns .i64 a0] A7 (kN a h i j b k c l m n o p q d r s t e f u g v w x y z A B (C,D,E,F,G,H,I)) (iI b c d e f g (C,D,E,F,G,H,I)) (kN a h i j b k c l m n o p q d r s t e f u g v w x y z A B) (bW 2 (ve a h i j b k c l m n o p q d r s t e f u g v w x y z A B) cW):=by
  unfold iI;exact cy ac (kN a h i j b k c l m n o p q d r s t e f u g v w x y z A B) [⟨[],[0,1,2,3,4,5,6,7,8,9,10,237,413],[1,4,5,6,7,11,75,76,77]⟩,⟨[],[0,1,2,3,4,5,6,7,8,9,10,11,12],[1,4,5,6,7,11]⟩]
def CH(b:Nat)(c:Nat)(d:Nat)(e:Int)(f:Nat)(g:Nat)(h:Nat)(i:Nat)(j:Int)(k:Int)(l:Nat)(m:Nat)(a:Nat)(n:Nat)(o:Nat)(p:Nat)(q:Nat)(r:List Nat)(s:List Nat)(t:List Nat)(u:List Int)(v:List Int)(w:List Nat)(x:Int)(y:Int)(z:Nat)(A:Nat)(B:List Nat)(C:Nat)(D:Nat)(E:Nat)(F:Nat)(G:List Nat)(H:List Nat) :Nat×Nat×Nat×Nat×Nat×(List Int)×(List Nat)→aW:=fun (I,J,K,L,M,N,O)=>⟨aw 263 [(1,.ptr 6 1 0 0),(4,.int .i64 ((b:Nat):Int)),(5,.sl 7 1 1 0 c d),(6,.ptr 8 1 0 0),(7,.fn (.func aq) [] [.ptr 6 1 0 0,.ptr 8 1 0 0]),(11,.ptr 9 1 0 0),(14,.ptr 10 1 0 0),(15,.int .i64 ((I:Nat):Int)),(16,.int .i64 ((J:Nat):Int))],[(0,.vs [.int .i64 e,.sl 1 1 1 0 f g,.sl 2 1 1 0 h i,.int .i64 j,.int .i64 k,.sl 3 1 1 0 l m,.flt false a,.sl 4 1 1 0 n o,.sl 5 1 1 0 p q]),(1,.fl r),(2,.fl s),(3,.fl t),(4,.ns .i64 u),(5,.ns .i64 v),(6,.vs [.ptr 0 1 0 0]),(7,.fl w),(8,.vs [.int .i64 x,.int .i64 y,.sl 11 1 1 0 z A]),(9,.vs [.sl 12 1 1 0 C D,.sl 13 1 1 0 E F,.flt false a]),(10,.vs [.sl 14 2 2 0 K L]),(11,.fl B),(12,.fl G),(13,.fl H),(14,.cols M [.ci .i64 N,.cf O])],15⟩
def tN(e:Nat)(a:Nat)(b:Nat)(c:List Nat)(d:List Nat) :T ((Nat×Nat×Nat×Nat×Nat×(List Int)×(List Nat))⊕(ab)) :=
  .need (dg 0 a c)<|.need (dg 0 b d)<|.need (wL (ja (az 0 a c) (az 0 b d) e))<|.leaf (.inl ((xO (ja (az 0 a c) (az 0 b d) e)),(xP (ja (az 0 a c) (az 0 b d) e)),(xM (ja (az 0 a c) (az 0 b d) e)),(xN (ja (az 0 a c) (az 0 b d) e)),(xQ (ja (az 0 a c) (az 0 b d) e)),(xR (ja (az 0 a c) (az 0 b d) e)),(xS (ja (az 0 a c) (az 0 b d) e))))
def CI(a:Nat)(c:Nat)(d:Nat)(e:Int)(f:Nat)(g:Nat)(h:Nat)(i:Nat)(j:Int)(k:Int)(l:Nat)(m:Nat)(b:Nat)(n:Nat)(o:Nat)(p:Nat)(q:Nat)(r:List Nat)(s:List Nat)(t:List Nat)(u:List Int)(v:List Int)(w:List Nat)(x:Int)(y:Int)(z:Nat)(A:Nat)(B:List Nat)(C:Nat)(D:Nat)(E:Nat)(F:Nat)(G:List Nat)(H:List Nat)(I:Nat)(J:Nat)(K:Nat)(L:Nat)(M:List Int)(N:List Nat)(O:(List Nat)) :aW:=⟨aw 263 [(1,.ptr 6 1 0 0),(4,.int .i64 ((a:Nat):Int)),(5,.sl 7 1 1 0 c d),(6,.ptr 8 1 0 0),(7,.fn (.func aq) [] [.ptr 6 1 0 0,.ptr 8 1 0 0]),(10,.int .i64 ((I:Nat):Int)),(11,.ptr 9 1 0 0),(14,.ptr 10 1 0 0),(17,.fn (.func aO) [] [.ptr 9 1 0 0,.ptr 10 1 0 0]),(18,.sl 11 1 1 0 a a),(118,.int .i64 ((a:Nat):Int)),(119,.int .i64 (0:Int))],[(0,.vs [.int .i64 e,.sl 1 1 1 0 f g,.sl 2 1 1 0 h i,.int .i64 j,.int .i64 k,.sl 3 1 1 0 l m,.flt false b,.sl 4 1 1 0 n o,.sl 5 1 1 0 p q]),(1,.fl r),(2,.fl s),(3,.fl t),(4,.ns .i64 u),(5,.ns .i64 v),(6,.vs [.ptr 0 1 0 0]),(7,.fl w),(8,.vs [.int .i64 x,.int .i64 y,.sl 12 1 1 0 z A]),(9,.vs [.sl 13 1 1 0 C D,.sl 14 1 1 0 E F,.flt false b]),(10,.vs [.sl 15 2 2 0 J K]),(11,.fl O),(12,.fl B),(13,.fl G),(14,.fl H),(15,.cols L [.ci .i64 M,.cf N])],16⟩
def tO(a:Nat)(b:Int)(c:Nat)(d:Nat)(e:Nat)(f:Nat)(g:Int)(h:Int)(i:Nat)(j:Nat)(k:Nat)(l:Nat)(m:Nat)(n:Nat)(o:Nat)(p:List Nat)(q:List Nat)(r:List Nat)(s:List Int)(t:List Int)(u:Nat) :T (((List Nat))⊕(ab)) :=
  .ask (((u:Nat):Int) != (0:Int))
    (.leaf (.inr (.r0 b c d e f g h i j k l m n o p q r s t)))
    (.need (decide ((0:Int)≤((a:Nat):Int)))<|.need (decide (((a:Nat):Int)≤((a:Nat):Int)))<|.need (decide ((8:Int)*((a:Nat):Int)≤140737488355328))<|.need (fq .i64 ((a:Nat):Int))<|.leaf (.inl (List.replicate a 0)))
def kO(a:Nat)(c:Nat)(d:Nat)(e:Int)(f:Nat)(g:Nat)(h:Nat)(i:Nat)(j:Int)(k:Int)(l:Nat)(m:Nat)(b:Nat)(n:Nat)(o:Nat)(p:Nat)(q:Nat)(r:List Nat)(s:List Nat)(t:List Nat)(u:List Int)(v:List Int)(w:List Nat)(x:Int)(y:Int)(z:Nat)(A:Nat)(B:List Nat)(C:Nat)(D:Nat)(E:Nat)(F:Nat)(G:List Nat)(H:List Nat)(I:Nat)(J:Nat)(K:Nat)(L:Nat)(M:List Int)(N:List Nat) :Nat×(List Nat)→aW:=fun (O,P)=>⟨aw 263 [(1,.ptr 6 1 0 0),(4,.int .i64 ((a:Nat):Int)),(5,.sl 7 1 1 0 c d),(6,.ptr 8 1 0 0),(7,.fn (.func aq) [] [.ptr 6 1 0 0,.ptr 8 1 0 0]),(10,.int .i64 ((I:Nat):Int)),(11,.ptr 9 1 0 0),(14,.ptr 10 1 0 0),(17,.fn (.func aO) [] [.ptr 9 1 0 0,.ptr 10 1 0 0]),(18,.sl 11 1 1 0 a a),(118,.int .i64 ((a:Nat):Int)),(119,.int .i64 ((O:Nat):Int))],[(0,.vs [.int .i64 e,.sl 1 1 1 0 f g,.sl 2 1 1 0 h i,.int .i64 j,.int .i64 k,.sl 3 1 1 0 l m,.flt false b,.sl 4 1 1 0 n o,.sl 5 1 1 0 p q]),(1,.fl r),(2,.fl s),(3,.fl t),(4,.ns .i64 u),(5,.ns .i64 v),(6,.vs [.ptr 0 1 0 0]),(7,.fl w),(8,.vs [.int .i64 x,.int .i64 y,.sl 12 1 1 0 z A]),(9,.vs [.sl 13 1 1 0 C D,.sl 14 1 1 0 E F,.flt false b]),(10,.vs [.sl 15 2 2 0 J K]),(11,.fl P),(12,.fl B),(13,.fl G),(14,.fl H),(15,.cols L [.ci .i64 M,.cf N])],16⟩
def kP(a:Nat)(c:Nat)(d:Nat)(e:Int)(f:Nat)(g:Nat)(h:Nat)(i:Nat)(j:Int)(k:Int)(l:Nat)(m:Nat)(b:Nat)(n:Nat)(o:Nat)(p:Nat)(q:Nat)(r:List Nat)(s:List Nat)(t:List Nat)(u:List Int)(v:List Int)(w:List Nat)(x:Int)(y:Int)(z:Nat)(A:Nat)(B:List Nat)(C:Nat)(D:Nat)(E:Nat)(F:Nat)(G:List Nat)(H:List Nat)(I:Nat)(J:Nat)(K:Nat)(L:Nat)(M:List Int)(N:List Nat)(O:(List Nat)) :aW:=⟨aw 263 [(1,.ptr 6 1 0 0),(4,.int .i64 ((a:Nat):Int)),(5,.sl 7 1 1 0 c d),(6,.ptr 8 1 0 0),(7,.fn (.func aq) [] [.ptr 6 1 0 0,.ptr 8 1 0 0]),(10,.int .i64 ((I:Nat):Int)),(11,.ptr 9 1 0 0),(14,.ptr 10 1 0 0),(17,.fn (.func aO) [] [.ptr 9 1 0 0,.ptr 10 1 0 0]),(18,.sl 11 1 1 0 a a)],[(0,.vs [.int .i64 e,.sl 1 1 1 0 f g,.sl 2 1 1 0 h i,.int .i64 j,.int .i64 k,.sl 3 1 1 0 l m,.flt false b,.sl 4 1 1 0 n o,.sl 5 1 1 0 p q]),(1,.fl r),(2,.fl s),(3,.fl t),(4,.ns .i64 u),(5,.ns .i64 v),(6,.vs [.ptr 0 1 0 0]),(7,.fl w),(8,.vs [.int .i64 x,.int .i64 y,.sl 12 1 1 0 z A]),(9,.vs [.sl 13 1 1 0 C D,.sl 14 1 1 0 E F,.flt false b]),(10,.vs [.sl 15 2 2 0 J K]),(11,.fl O),(12,.fl B),(13,.fl G),(14,.fl H),(15,.cols L [.ci .i64 M,.cf N])],16⟩
def tP:List Code:=cS (dh (((((((pu.drop 2).drop 1).drop 1).drop 6).take 1)).headD .skip))
def CJ(a:Nat)(c:Nat)(d:Nat)(e:Int)(f:Nat)(g:Nat)(h:Nat)(i:Nat)(j:Int)(k:Int)(l:Nat)(m:Nat)(b:Nat)(n:Nat)(o:Nat)(p:Nat)(q:Nat)(r:List Nat)(s:List Nat)(t:List Nat)(u:List Int)(v:List Int)(w:List Nat)(x:Int)(y:Int)(z:Nat)(A:Nat)(B:List Nat)(C:Nat)(D:Nat)(E:Nat)(F:Nat)(G:List Nat)(H:List Nat)(I:Nat)(J:Nat)(K:Nat)(L:Nat)(M:List Int)(N:List Nat)(O:Nat)(P:List Nat)(_:Unit) :aW:=⟨aw 263 [(1,.ptr 6 1 0 0),(4,.int .i64 ((a:Nat):Int)),(5,.sl 7 1 1 0 c d),(6,.ptr 8 1 0 0),(7,.fn (.func aq) [] [.ptr 6 1 0 0,.ptr 8 1 0 0]),(10,.int .i64 ((I:Nat):Int)),(11,.ptr 9 1 0 0),(14,.ptr 10 1 0 0),(17,.fn (.func aO) [] [.ptr 9 1 0 0,.ptr 10 1 0 0]),(18,.sl 11 1 1 0 a a),(118,.int .i64 ((a:Nat):Int)),(119,.int .i64 ((O:Nat):Int))],[(0,.vs [.int .i64 e,.sl 1 1 1 0 f g,.sl 2 1 1 0 h i,.int .i64 j,.int .i64 k,.sl 3 1 1 0 l m,.flt false b,.sl 4 1 1 0 n o,.sl 5 1 1 0 p q]),(1,.fl r),(2,.fl s),(3,.fl t),(4,.ns .i64 u),(5,.ns .i64 v),(6,.vs [.ptr 0 1 0 0]),(7,.fl w),(8,.vs [.int .i64 x,.int .i64 y,.sl 12 1 1 0 z A]),(9,.vs [.sl 13 1 1 0 C D,.sl 14 1 1 0 E F,.flt false b]),(10,.vs [.sl 15 2 2 0 J K]),(11,.fl P),(12,.fl B),(13,.fl G),(14,.fl H),(15,.cols L [.ci .i64 M,.cf N])],16⟩
def tQ(a:Nat)(b:Nat)(c:List Nat) :T ((Unit)⊕(((List Nat))⊕(ab))) :=
  .ask (decide (((b:Nat):Int)<((a:Nat):Int)))
    (.leaf (.inl ()))
    (.leaf (.inr (.inl c)))
def kQ(a:Nat)(c:Nat)(d:Nat)(e:Int)(f:Nat)(g:Nat)(h:Nat)(i:Nat)(j:Int)(k:Int)(l:Nat)(m:Nat)(b:Nat)(n:Nat)(o:Nat)(p:Nat)(q:Nat)(r:List Nat)(s:List Nat)(t:List Nat)(u:List Int)(v:List Int)(w:List Nat)(x:Int)(y:Int)(z:Nat)(A:Nat)(B:List Nat)(C:Nat)(D:Nat)(E:Nat)(F:Nat)(G:List Nat)(H:List Nat)(I:Nat)(J:Nat)(K:Nat)(L:Nat)(M:List Int)(N:List Nat)(O:Nat)(P:(List Nat)) :aW:=⟨aw 263 [(1,.ptr 6 1 0 0),(4,.int .i64 ((a:Nat):Int)),(5,.sl 7 1 1 0 c d),(6,.ptr 8 1 0 0),(7,.fn (.func aq) [] [.ptr 6 1 0 0,.ptr 8 1 0 0]),(10,.int .i64 ((I:Nat):Int)),(11,.ptr 9 1 0 0),(14,.ptr 10 1 0 0),(17,.fn (.func aO) [] [.ptr 9 1 0 0,.ptr 10 1 0 0]),(18,.sl 11 1 1 0 a a),(118,.int .i64 ((a:Nat):Int)),(119,.int .i64 ((O:Nat):Int))],[(0,.vs [.int .i64 e,.sl 1 1 1 0 f g,.sl 2 1 1 0 h i,.int .i64 j,.int .i64 k,.sl 3 1 1 0 l m,.flt false b,.sl 4 1 1 0 n o,.sl 5 1 1 0 p q]),(1,.fl r),(2,.fl s),(3,.fl t),(4,.ns .i64 u),(5,.ns .i64 v),(6,.vs [.ptr 0 1 0 0]),(7,.fl w),(8,.vs [.int .i64 x,.int .i64 y,.sl 12 1 1 0 z A]),(9,.vs [.sl 13 1 1 0 C D,.sl 14 1 1 0 E F,.flt false b]),(10,.vs [.sl 15 2 2 0 J K]),(11,.fl P),(12,.fl B),(13,.fl G),(14,.fl H),(15,.cols L [.ci .i64 M,.cf N])],16⟩
def tR:List Code:=cS (inBlock ((((tP.drop 2).take 1)).headD .skip))
def CL(a:Nat)(d:Nat)(e:Nat)(f:Int)(g:Nat)(h:Nat)(i:Nat)(j:Nat)(k:Int)(l:Int)(m:Nat)(n:Nat)(b:Nat)(o:Nat)(p:Nat)(q:Nat)(r:Nat)(s:List Nat)(t:List Nat)(u:List Nat)(v:List Int)(w:List Int)(x:List Nat)(y:Int)(z:Int)(A:Nat)(B:Nat)(C:List Nat)(D:Nat)(E:Nat)(F:Nat)(G:Nat)(H:List Nat)(I:List Nat)(J:Nat)(K:Nat)(L:Nat)(M:Nat)(N:List Int)(O:List Nat)(c:Nat)(P:List Nat)(Q:Nat) :aW:=⟨aw 263 [(1,.ptr 6 1 0 0),(4,.int .i64 ((a:Nat):Int)),(5,.sl 7 1 1 0 d e),(6,.ptr 8 1 0 0),(7,.fn (.func aq) [] [.ptr 6 1 0 0,.ptr 8 1 0 0]),(10,.int .i64 ((J:Nat):Int)),(11,.ptr 9 1 0 0),(14,.ptr 10 1 0 0),(17,.fn (.func aO) [] [.ptr 9 1 0 0,.ptr 10 1 0 0]),(18,.sl 11 1 1 0 a a),(19,.int .i64 ((c:Nat):Int)),(20,.flt false Q),(118,.int .i64 ((a:Nat):Int)),(119,.int .i64 ((c:Nat):Int))],[(0,.vs [.int .i64 f,.sl 1 1 1 0 g h,.sl 2 1 1 0 i j,.int .i64 k,.int .i64 l,.sl 3 1 1 0 m n,.flt false b,.sl 4 1 1 0 o p,.sl 5 1 1 0 q r]),(1,.fl s),(2,.fl t),(3,.fl u),(4,.ns .i64 v),(5,.ns .i64 w),(6,.vs [.ptr 0 1 0 0]),(7,.fl x),(8,.vs [.int .i64 y,.int .i64 z,.sl 12 1 1 0 A B]),(9,.vs [.sl 13 1 1 0 D E,.sl 14 1 1 0 F G,.flt false b]),(10,.vs [.sl 15 2 2 0 K L]),(11,.fl P),(12,.fl C),(13,.fl H),(14,.fl I),(15,.cols M [.ci .i64 N,.cf O])],16⟩
def tS(a:Nat)(h:Nat)(b:Nat)(c:Nat)(d:List Nat)(e:List Nat)(j:Nat)(f:List Int)(g:List Nat)(i:Nat) :T ((Nat)⊕(((List Nat))⊕(((List Nat))⊕(ab)))) :=
  .need (fq .i64 (((a:Nat):Int)-(1:Int)))<|.need (fU (((a:Nat):Int)-(1:Int)) j)<|.need (fi (Int.toNat (((a:Nat):Int)-(1:Int))) (List.length f))<|.need (fi (Int.toNat (((a:Nat):Int)-(1:Int))) (List.length g))<|.need (dg 0 b d)<|.need (dg 0 c e)<|.need (lI (gj (az 0 b d) (az 0 c e) h ((i:Nat):Int) (List.getD f (Int.toNat (((a:Nat):Int)-(1:Int))) 0) (List.getD g (Int.toNat (((a:Nat):Int)-(1:Int))) 0)))<|.leaf (.inl (TH (lC (gj (az 0 b d) (az 0 c e) h ((i:Nat):Int) (List.getD f (Int.toNat (((a:Nat):Int)-(1:Int))) 0) (List.getD g (Int.toNat (((a:Nat):Int)-(1:Int))) 0)))))
def CM(a:Nat)(d:Nat)(e:Nat)(f:Int)(g:Nat)(h:Nat)(i:Nat)(j:Nat)(k:Int)(l:Int)(m:Nat)(n:Nat)(c:Nat)(o:Nat)(p:Nat)(q:Nat)(r:Nat)(s:List Nat)(t:List Nat)(u:List Nat)(v:List Int)(w:List Int)(x:List Nat)(y:Int)(z:Int)(A:Nat)(B:Nat)(C:List Nat)(D:Nat)(E:Nat)(F:Nat)(G:Nat)(H:List Nat)(I:List Nat)(J:Nat)(K:Nat)(L:Nat)(M:Nat)(N:List Int)(O:List Nat)(b:Nat)(P:List Nat)(Q:Nat)(_:Unit) :aW:=⟨aw 263 [(1,.ptr 6 1 0 0),(4,.int .i64 ((a:Nat):Int)),(5,.sl 7 1 1 0 d e),(6,.ptr 8 1 0 0),(7,.fn (.func aq) [] [.ptr 6 1 0 0,.ptr 8 1 0 0]),(10,.int .i64 ((J:Nat):Int)),(11,.ptr 9 1 0 0),(14,.ptr 10 1 0 0),(17,.fn (.func aO) [] [.ptr 9 1 0 0,.ptr 10 1 0 0]),(18,.sl 11 1 1 0 a a),(19,.int .i64 ((b:Nat):Int)),(20,.flt false Q),(118,.int .i64 ((a:Nat):Int)),(119,.int .i64 ((b:Nat):Int)),(128,.int .i64 ((b:Nat):Int)),(129,.int .i64 (0:Int))],[(0,.vs [.int .i64 f,.sl 1 1 1 0 g h,.sl 2 1 1 0 i j,.int .i64 k,.int .i64 l,.sl 3 1 1 0 m n,.flt false c,.sl 4 1 1 0 o p,.sl 5 1 1 0 q r]),(1,.fl s),(2,.fl t),(3,.fl u),(4,.ns .i64 v),(5,.ns .i64 w),(6,.vs [.ptr 0 1 0 0]),(7,.fl x),(8,.vs [.int .i64 y,.int .i64 z,.sl 12 1 1 0 A B]),(9,.vs [.sl 13 1 1 0 D E,.sl 14 1 1 0 F G,.flt false c]),(10,.vs [.sl 15 2 2 0 K L]),(11,.fl P),(12,.fl C),(13,.fl H),(14,.fl I),(15,.cols M [.ci .i64 N,.cf O])],16⟩
def tT:T ((Unit)⊕(((List Nat))⊕(((List Nat))⊕(ab)))) :=
  .leaf (.inl ())
def kR(a:Nat)(d:Nat)(e:Nat)(f:Int)(g:Nat)(h:Nat)(i:Nat)(j:Nat)(k:Int)(l:Int)(m:Nat)(n:Nat)(c:Nat)(o:Nat)(p:Nat)(q:Nat)(r:Nat)(s:List Nat)(t:List Nat)(u:List Nat)(v:List Int)(w:List Int)(x:List Nat)(y:Int)(z:Int)(A:Nat)(B:Nat)(C:List Nat)(D:Nat)(E:Nat)(F:Nat)(G:Nat)(H:List Nat)(I:List Nat)(J:Nat)(K:Nat)(L:Nat)(M:Nat)(N:List Int)(O:List Nat)(b:Nat)(P:List Nat) :Nat×Nat→aW:=fun (Q,R)=>⟨aw 263 [(1,.ptr 6 1 0 0),(4,.int .i64 ((a:Nat):Int)),(5,.sl 7 1 1 0 d e),(6,.ptr 8 1 0 0),(7,.fn (.func aq) [] [.ptr 6 1 0 0,.ptr 8 1 0 0]),(10,.int .i64 ((J:Nat):Int)),(11,.ptr 9 1 0 0),(14,.ptr 10 1 0 0),(17,.fn (.func aO) [] [.ptr 9 1 0 0,.ptr 10 1 0 0]),(18,.sl 11 1 1 0 a a),(19,.int .i64 ((b:Nat):Int)),(20,.flt false Q),(118,.int .i64 ((a:Nat):Int)),(119,.int .i64 ((b:Nat):Int)),(128,.int .i64 ((b:Nat):Int)),(129,.int .i64 ((R:Nat):Int))],[(0,.vs [.int .i64 f,.sl 1 1 1 0 g h,.sl 2 1 1 0 i j,.int .i64 k,.int .i64 l,.sl 3 1 1 0 m n,.flt false c,.sl 4 1 1 0 o p,.sl 5 1 1 0 q r]),(1,.fl s),(2,.fl t),(3,.fl u),(4,.ns .i64 v),(5,.ns .i64 w),(6,.vs [.ptr 0 1 0 0]),(7,.fl x),(8,.vs [.int .i64 y,.int .i64 z,.sl 12 1 1 0 A B]),(9,.vs [.sl 13 1 1 0 D E,.sl 14 1 1 0 F G,.flt false c]),(10,.vs [.sl 15 2 2 0 K L]),(11,.fl P),(12,.fl C),(13,.fl H),(14,.fl I),(15,.cols M [.ci .i64 N,.cf O])],16⟩
def vf(a:Nat)(d:Nat)(e:Nat)(f:Int)(g:Nat)(h:Nat)(i:Nat)(j:Nat)(k:Int)(l:Int)(m:Nat)(n:Nat)(b:Nat)(o:Nat)(p:Nat)(q:Nat)(r:Nat)(s:List Nat)(t:List Nat)(u:List Nat)(v:List Int)(w:List Int)(x:List Nat)(y:Int)(z:Int)(A:Nat)(B:Nat)(C:List Nat)(D:Nat)(E:Nat)(F:Nat)(G:Nat)(H:List Nat)(I:List Nat)(J:Nat)(K:Nat)(L:Nat)(M:Nat)(N:List Int)(O:List Nat)(c:Nat)(P:List Nat)(Q:Nat) :aW:=⟨aw 263 [(1,.ptr 6 1 0 0),(4,.int .i64 ((a:Nat):Int)),(5,.sl 7 1 1 0 d e),(6,.ptr 8 1 0 0),(7,.fn (.func aq) [] [.ptr 6 1 0 0,.ptr 8 1 0 0]),(10,.int .i64 ((J:Nat):Int)),(11,.ptr 9 1 0 0),(14,.ptr 10 1 0 0),(17,.fn (.func aO) [] [.ptr 9 1 0 0,.ptr 10 1 0 0]),(18,.sl 11 1 1 0 a a),(19,.int .i64 ((c:Nat):Int)),(20,.flt false Q),(118,.int .i64 ((a:Nat):Int)),(119,.int .i64 ((c:Nat):Int))],[(0,.vs [.int .i64 f,.sl 1 1 1 0 g h,.sl 2 1 1 0 i j,.int .i64 k,.int .i64 l,.sl 3 1 1 0 m n,.flt false b,.sl 4 1 1 0 o p,.sl 5 1 1 0 q r]),(1,.fl s),(2,.fl t),(3,.fl u),(4,.ns .i64 v),(5,.ns .i64 w),(6,.vs [.ptr 0 1 0 0]),(7,.fl x),(8,.vs [.int .i64 y,.int .i64 z,.sl 12 1 1 0 A B]),(9,.vs [.sl 13 1 1 0 D E,.sl 14 1 1 0 F G,.flt false b]),(10,.vs [.sl 15 2 2 0 K L]),(11,.fl P),(12,.fl C),(13,.fl H),(14,.fl I),(15,.cols M [.ci .i64 N,.cf O])],16⟩
def A9:List Code:=cS (dh (((((tR.drop 2).drop 1).take 1)).headD .skip))
def CN(a:Nat)(d:Nat)(e:Nat)(f:Int)(g:Nat)(h:Nat)(i:Nat)(j:Nat)(k:Int)(l:Int)(m:Nat)(n:Nat)(c:Nat)(o:Nat)(p:Nat)(q:Nat)(r:Nat)(s:List Nat)(t:List Nat)(u:List Nat)(v:List Int)(w:List Int)(x:List Nat)(y:Int)(z:Int)(A:Nat)(B:Nat)(C:List Nat)(D:Nat)(E:Nat)(F:Nat)(G:Nat)(H:List Nat)(I:List Nat)(J:Nat)(K:Nat)(L:Nat)(M:Nat)(N:List Int)(O:List Nat)(b:Nat)(P:List Nat)(Q:Nat)(R:Nat) :aW:=⟨aw 263 [(1,.ptr 6 1 0 0),(4,.int .i64 ((a:Nat):Int)),(5,.sl 7 1 1 0 d e),(6,.ptr 8 1 0 0),(7,.fn (.func aq) [] [.ptr 6 1 0 0,.ptr 8 1 0 0]),(10,.int .i64 ((J:Nat):Int)),(11,.ptr 9 1 0 0),(14,.ptr 10 1 0 0),(17,.fn (.func aO) [] [.ptr 9 1 0 0,.ptr 10 1 0 0]),(18,.sl 11 1 1 0 a a),(19,.int .i64 ((b:Nat):Int)),(20,.flt false R),(118,.int .i64 ((a:Nat):Int)),(119,.int .i64 ((b:Nat):Int)),(128,.int .i64 ((b:Nat):Int)),(129,.int .i64 ((Q:Nat):Int))],[(0,.vs [.int .i64 f,.sl 1 1 1 0 g h,.sl 2 1 1 0 i j,.int .i64 k,.int .i64 l,.sl 3 1 1 0 m n,.flt false c,.sl 4 1 1 0 o p,.sl 5 1 1 0 q r]),(1,.fl s),(2,.fl t),(3,.fl u),(4,.ns .i64 v),(5,.ns .i64 w),(6,.vs [.ptr 0 1 0 0]),(7,.fl x),(8,.vs [.int .i64 y,.int .i64 z,.sl 12 1 1 0 A B]),(9,.vs [.sl 13 1 1 0 D E,.sl 14 1 1 0 F G,.flt false c]),(10,.vs [.sl 15 2 2 0 K L]),(11,.fl P),(12,.fl C),(13,.fl H),(14,.fl I),(15,.cols M [.ci .i64 N,.cf O])],16⟩
def tU(i:Nat)(d:Nat)(e:Nat)(b:List Nat)(f:List Nat)(k:Nat)(g:List Int)(h:List Nat)(c:Nat)(j:Nat)(a:Nat) :T ((Nat)⊕((Nat)⊕(((List Nat))⊕(((List Nat))⊕(ab))))) :=
  .ask (decide (((a:Nat):Int)<((c:Nat):Int)))
    (.need (fU ((a:Nat):Int) k)<|.need (fi a (List.length g))<|.need (fi a (List.length h))<|.need (dg 0 d b)<|.need (dg 0 e f)<|.need (lI (gj (az 0 d b) (az 0 e f) i ((c:Nat):Int) (List.getD g a 0) (List.getD h a 0)))<|.need (fU ((c:Nat):Int) d)<|.need (fi c (List.length b))<|.need (fU ((a:Nat):Int) d)<|.need (fi a (List.length b))<|.leaf (.inl (cY j (fdiv (lC (gj (az 0 d b) (az 0 e f) i ((c:Nat):Int) (List.getD g a 0) (List.getD h a 0))) (kZ (List.getD b c 0) (List.getD b a 0))))))
    (.leaf (.inr (.inl j)))
def tV(a:Nat)(b:Nat) :T ((Nat×Nat)⊕((Nat)⊕(((List Nat))⊕(((List Nat))⊕(ab))))) :=
  .need (fq .i64 (((a+1):Nat):Int))<|.leaf (.inl (b,(a+1)))
def iJ(b:Nat)(c:Nat)(d:Nat)(e:List Nat)(f:List Nat)(g:Nat)(h:List Int)(i:List Nat)(j:Nat) :Nat×Nat→Option ((Nat×Nat)⊕((Nat)⊕(((List Nat))⊕(((List Nat))⊕(ab))))):=fun (k,a) =>
  bd ((tU b c d e f g h i j k a).run) fun l =>
  (tV a l).run
theorem Ba(S:Int)(T:Nat)(U:Nat)(V:Nat)(W:Nat)(X:Int)(Y:Int)(Z:Nat)(a0:Nat)(a1:Nat)(a:Nat)(a2:Nat)(a3:Nat)(a4:Nat)(a5:List Nat)(a6:List Nat)(a7:List Nat)(a8:List Int)(a9:List Int)(j:Nat)(k:Nat)(l:Int)(m:Nat)(n:Nat)(o:Nat)(p:Nat)(q:Int)(r:Int)(s:Nat)(t:Nat)(b:Nat)(u:Nat)(v:Nat)(w:Nat)(x:Nat)(y:List Nat)(z:List Nat)(A:List Nat)(B:List Int)(C:List Int)(D:List Nat)(E:Int)(F:Int)(G:Nat)(H:Nat)(I:List Nat)(c:Nat)(J:Nat)(d:Nat)(K:Nat)(e:List Nat)(f:List Nat)(L:Nat)(g:Nat)(M:Nat)(N:Nat)(h:List Int)(i:List Nat)(O:Nat)(P:List Nat)(R:Nat)(Q:Nat) :Sg prog [.vs [.int .i64 S,.sl 1 1 1 0 T U,.sl 2 1 1 0 V W,.int .i64 X,.int .i64 Y,.sl 3 1 1 0 Z a0,.flt false a1,.sl 4 1 1 0 a a2,.sl 5 1 1 0 a3 a4],.fl a5,.fl a6,.fl a7,.ns .i64 a8,.ns .i64 a9] A9 (kR a j k l m n o p q r s t b u v w x y z A B C D E F G H I c J d K e f L g M N h i O P (R,Q)) (iJ b c d e f g h i O (R,Q)) (kR a j k l m n o p q r s t b u v w x y z A B C D E F G H I c J d K e f L g M N h i O P) (bW 6 (vf a j k l m n o p q r s t b u v w x y z A B C D E F G H I c J d K e f L g M N h i O P) (bW 5 (kQ a j k l m n o p q r s t b u v w x y z A B C D E F G H I c J d K e f L g M N h i O) (bW 4 (kP a j k l m n o p q r s t b u v w x y z A B C D E F G H I c J d K e f L g M N h i) cW))):=by
  unfold iJ;exact Sg.cut 3 (ao (ao (ao aA))) (cy ac (CN a j k l m n o p q r s t b u v w x y z A B C D E F G H I c J d K e f L g M N h i O P Q) [⟨[],[0,1,2,3,4,5,6,7,8,9,10,11,12,13,14,15],[1,4,5,6,7,10,11,14,17,18,19,20,118,119,128,129]⟩,⟨[],[0,1,2,3,4,5,6,7,8,9,10,11,12,13,14,15],[1,4,5,6,7,10,11,14,17,18,19,20,118,119]⟩]) (fun b0=>cy ac (kR a j k l m n o p q r s t b u v w x y z A B C D E F G H I c J d K e f L g M N h i O P) [⟨[],[0,1,2,3,4,5,6,7,8,9,10,11,12,13,14,15],[1,4,5,6,7,10,11,14,17,18,19,20,118,119,128,129]⟩])
def CO(a:Nat)(d:Nat)(e:Nat)(f:Int)(g:Nat)(h:Nat)(i:Nat)(j:Nat)(k:Int)(l:Int)(m:Nat)(n:Nat)(c:Nat)(o:Nat)(p:Nat)(q:Nat)(r:Nat)(s:List Nat)(t:List Nat)(u:List Nat)(v:List Int)(w:List Int)(x:List Nat)(y:Int)(z:Int)(A:Nat)(B:Nat)(C:List Nat)(D:Nat)(E:Nat)(F:Nat)(G:Nat)(H:List Nat)(I:List Nat)(J:Nat)(K:Nat)(L:Nat)(M:Nat)(N:List Int)(O:List Nat)(b:Nat)(P:List Nat)(Q:Nat)(_:Unit) :aW:=⟨aw 263 [(1,.ptr 6 1 0 0),(4,.int .i64 ((a:Nat):Int)),(5,.sl 7 1 1 0 d e),(6,.ptr 8 1 0 0),(7,.fn (.func aq) [] [.ptr 6 1 0 0,.ptr 8 1 0 0]),(10,.int .i64 ((J:Nat):Int)),(11,.ptr 9 1 0 0),(14,.ptr 10 1 0 0),(17,.fn (.func aO) [] [.ptr 9 1 0 0,.ptr 10 1 0 0]),(18,.sl 11 1 1 0 a a),(19,.int .i64 ((b:Nat):Int)),(20,.flt false Q),(22,.int .i64 ((b:Nat):Int)),(118,.int .i64 ((a:Nat):Int)),(119,.int .i64 ((b:Nat):Int))],[(0,.vs [.int .i64 f,.sl 1 1 1 0 g h,.sl 2 1 1 0 i j,.int .i64 k,.int .i64 l,.sl 3 1 1 0 m n,.flt false c,.sl 4 1 1 0 o p,.sl 5 1 1 0 q r]),(1,.fl s),(2,.fl t),(3,.fl u),(4,.ns .i64 v),(5,.ns .i64 w),(6,.vs [.ptr 0 1 0 0]),(7,.fl x),(8,.vs [.int .i64 y,.int .i64 z,.sl 12 1 1 0 A B]),(9,.vs [.sl 13 1 1 0 D E,.sl 14 1 1 0 F G,.flt false c]),(10,.vs [.sl 15 2 2 0 K L]),(11,.fl P),(12,.fl C),(13,.fl H),(14,.fl I),(15,.cols M [.ci .i64 N,.cf O])],16⟩
def tW:T ((Unit)⊕(((List Nat))⊕(((List Nat))⊕(ab)))) :=
  .leaf (.inl ())
def kS(a:Nat)(d:Nat)(e:Nat)(f:Int)(g:Nat)(h:Nat)(i:Nat)(j:Nat)(k:Int)(l:Int)(m:Nat)(n:Nat)(b:Nat)(o:Nat)(p:Nat)(q:Nat)(r:Nat)(s:List Nat)(t:List Nat)(u:List Nat)(v:List Int)(w:List Int)(x:List Nat)(y:Int)(z:Int)(A:Nat)(B:Nat)(C:List Nat)(D:Nat)(E:Nat)(F:Nat)(G:Nat)(H:List Nat)(I:List Nat)(J:Nat)(K:Nat)(L:Nat)(M:Nat)(N:List Int)(O:List Nat)(c:Nat)(P:List Nat) :Nat×Nat→aW:=fun (Q,R)=>⟨aw 263 [(1,.ptr 6 1 0 0),(4,.int .i64 ((a:Nat):Int)),(5,.sl 7 1 1 0 d e),(6,.ptr 8 1 0 0),(7,.fn (.func aq) [] [.ptr 6 1 0 0,.ptr 8 1 0 0]),(10,.int .i64 ((J:Nat):Int)),(11,.ptr 9 1 0 0),(14,.ptr 10 1 0 0),(17,.fn (.func aO) [] [.ptr 9 1 0 0,.ptr 10 1 0 0]),(18,.sl 11 1 1 0 a a),(19,.int .i64 ((c:Nat):Int)),(20,.flt false Q),(22,.int .i64 ((R:Nat):Int)),(118,.int .i64 ((a:Nat):Int)),(119,.int .i64 ((c:Nat):Int))],[(0,.vs [.int .i64 f,.sl 1 1 1 0 g h,.sl 2 1 1 0 i j,.int .i64 k,.int .i64 l,.sl 3 1 1 0 m n,.flt false b,.sl 4 1 1 0 o p,.sl 5 1 1 0 q r]),(1,.fl s),(2,.fl t),(3,.fl u),(4,.ns .i64 v),(5,.ns .i64 w),(6,.vs [.ptr 0 1 0 0]),(7,.fl x),(8,.vs [.int .i64 y,.int .i64 z,.sl 12 1 1 0 A B]),(9,.vs [.sl 13 1 1 0 D E,.sl 14 1 1 0 F G,.flt false b]),(10,.vs [.sl 15 2 2 0 K L]),(11,.fl P),(12,.fl C),(13,.fl H),(14,.fl I),(15,.cols M [.ci .i64 N,.cf O])],16⟩
def vg(a:Nat)(d:Nat)(e:Nat)(f:Int)(g:Nat)(h:Nat)(i:Nat)(j:Nat)(k:Int)(l:Int)(m:Nat)(n:Nat)(b:Nat)(o:Nat)(p:Nat)(q:Nat)(r:Nat)(s:List Nat)(t:List Nat)(u:List Nat)(v:List Int)(w:List Int)(x:List Nat)(y:Int)(z:Int)(A:Nat)(B:Nat)(C:List Nat)(D:Nat)(E:Nat)(F:Nat)(G:Nat)(H:List Nat)(I:List Nat)(J:Nat)(K:Nat)(L:Nat)(M:Nat)(N:List Int)(O:List Nat)(c:Nat)(P:List Nat)(Q:Nat) :aW:=⟨aw 263 [(1,.ptr 6 1 0 0),(4,.int .i64 ((a:Nat):Int)),(5,.sl 7 1 1 0 d e),(6,.ptr 8 1 0 0),(7,.fn (.func aq) [] [.ptr 6 1 0 0,.ptr 8 1 0 0]),(10,.int .i64 ((J:Nat):Int)),(11,.ptr 9 1 0 0),(14,.ptr 10 1 0 0),(17,.fn (.func aO) [] [.ptr 9 1 0 0,.ptr 10 1 0 0]),(18,.sl 11 1 1 0 a a),(19,.int .i64 ((c:Nat):Int)),(20,.flt false Q),(118,.int .i64 ((a:Nat):Int)),(119,.int .i64 ((c:Nat):Int))],[(0,.vs [.int .i64 f,.sl 1 1 1 0 g h,.sl 2 1 1 0 i j,.int .i64 k,.int .i64 l,.sl 3 1 1 0 m n,.flt false b,.sl 4 1 1 0 o p,.sl 5 1 1 0 q r]),(1,.fl s),(2,.fl t),(3,.fl u),(4,.ns .i64 v),(5,.ns .i64 w),(6,.vs [.ptr 0 1 0 0]),(7,.fl x),(8,.vs [.int .i64 y,.int .i64 z,.sl 12 1 1 0 A B]),(9,.vs [.sl 13 1 1 0 D E,.sl 14 1 1 0 F G,.flt false b]),(10,.vs [.sl 15 2 2 0 K L]),(11,.fl P),(12,.fl C),(13,.fl H),(14,.fl I),(15,.cols M [.ci .i64 N,.cf O])],16⟩
def Bb:List Code:=cS (dh (((((((tR.drop 2).drop 1).drop 1).drop 1).take 1)).headD .skip))
def CQ(a:Nat)(d:Nat)(e:Nat)(f:Int)(g:Nat)(h:Nat)(i:Nat)(j:Nat)(k:Int)(l:Int)(m:Nat)(n:Nat)(b:Nat)(o:Nat)(p:Nat)(q:Nat)(r:Nat)(s:List Nat)(t:List Nat)(u:List Nat)(v:List Int)(w:List Int)(x:List Nat)(y:Int)(z:Int)(A:Nat)(B:Nat)(C:List Nat)(D:Nat)(E:Nat)(F:Nat)(G:Nat)(H:List Nat)(I:List Nat)(J:Nat)(K:Nat)(L:Nat)(M:Nat)(N:List Int)(O:List Nat)(c:Nat)(P:List Nat)(Q:Nat)(R:Nat) :aW:=⟨aw 263 [(1,.ptr 6 1 0 0),(4,.int .i64 ((a:Nat):Int)),(5,.sl 7 1 1 0 d e),(6,.ptr 8 1 0 0),(7,.fn (.func aq) [] [.ptr 6 1 0 0,.ptr 8 1 0 0]),(10,.int .i64 ((J:Nat):Int)),(11,.ptr 9 1 0 0),(14,.ptr 10 1 0 0),(17,.fn (.func aO) [] [.ptr 9 1 0 0,.ptr 10 1 0 0]),(18,.sl 11 1 1 0 a a),(19,.int .i64 ((c:Nat):Int)),(20,.flt false R),(22,.int .i64 ((Q:Nat):Int)),(118,.int .i64 ((a:Nat):Int)),(119,.int .i64 ((c:Nat):Int))],[(0,.vs [.int .i64 f,.sl 1 1 1 0 g h,.sl 2 1 1 0 i j,.int .i64 k,.int .i64 l,.sl 3 1 1 0 m n,.flt false b,.sl 4 1 1 0 o p,.sl 5 1 1 0 q r]),(1,.fl s),(2,.fl t),(3,.fl u),(4,.ns .i64 v),(5,.ns .i64 w),(6,.vs [.ptr 0 1 0 0]),(7,.fl x),(8,.vs [.int .i64 y,.int .i64 z,.sl 12 1 1 0 A B]),(9,.vs [.sl 13 1 1 0 D E,.sl 14 1 1 0 F G,.flt false b]),(10,.vs [.sl 15 2 2 0 K L]),(11,.fl P),(12,.fl C),(13,.fl H),(14,.fl I),(15,.cols M [.ci .i64 N,.cf O])],16⟩
def tX(i:Nat)(j:Nat)(c:Nat)(e:Nat)(b:List Nat)(f:List Nat)(l:Nat)(g:List Int)(h:List Nat)(d:Nat)(k:Nat)(a:Nat) :T ((Nat)⊕((Nat)⊕(((List Nat))⊕(((List Nat))⊕(ab))))) :=
  .need (fq .i64 (((i:Nat):Int)-(1:Int)))<|.ask (decide (((a:Nat):Int)<(((i:Nat):Int)-(1:Int))))
    (.need (fU ((a:Nat):Int) l)<|.need (fi a (List.length g))<|.need (fi a (List.length h))<|.need (dg 0 c b)<|.need (dg 0 e f)<|.need (lI (gj (az 0 c b) (az 0 e f) j ((d:Nat):Int) (List.getD g a 0) (List.getD h a 0)))<|.need (fU ((d:Nat):Int) c)<|.need (fi d (List.length b))<|.need (fq .i64 (((a+1):Nat):Int))<|.need (fU (((a+1):Nat):Int) c)<|.need (fi (a+1) (List.length b))<|.leaf (.inl (cY k (fdiv (lC (gj (az 0 c b) (az 0 e f) j ((d:Nat):Int) (List.getD g a 0) (List.getD h a 0))) (kZ (List.getD b d 0) (List.getD b (a+1) 0))))))
    (.leaf (.inr (.inl k)))
def tY(a:Nat)(b:Nat) :T ((Nat×Nat)⊕((Nat)⊕(((List Nat))⊕(((List Nat))⊕(ab))))) :=
  .need (fq .i64 (((a+1):Nat):Int))<|.leaf (.inl (b,(a+1)))
def iK(b:Nat)(c:Nat)(d:Nat)(e:Nat)(f:List Nat)(g:List Nat)(h:Nat)(i:List Int)(j:List Nat)(k:Nat) :Nat×Nat→Option ((Nat×Nat)⊕((Nat)⊕(((List Nat))⊕(((List Nat))⊕(ab))))):=fun (l,a) =>
  bd ((tX b c d e f g h i j k l a).run) fun m =>
  (tY a m).run
theorem Bc(S:Int)(T:Nat)(U:Nat)(V:Nat)(W:Nat)(X:Int)(Y:Int)(Z:Nat)(a0:Nat)(a1:Nat)(a:Nat)(a2:Nat)(a3:Nat)(a4:Nat)(a5:List Nat)(a6:List Nat)(a7:List Nat)(a8:List Int)(a9:List Int)(j:Nat)(k:Nat)(l:Int)(m:Nat)(n:Nat)(o:Nat)(p:Nat)(q:Int)(r:Int)(s:Nat)(t:Nat)(b:Nat)(u:Nat)(v:Nat)(w:Nat)(x:Nat)(y:List Nat)(z:List Nat)(A:List Nat)(B:List Int)(C:List Int)(D:List Nat)(E:Int)(F:Int)(G:Nat)(H:Nat)(I:List Nat)(c:Nat)(J:Nat)(d:Nat)(K:Nat)(e:List Nat)(f:List Nat)(L:Nat)(g:Nat)(M:Nat)(N:Nat)(h:List Int)(i:List Nat)(O:Nat)(P:List Nat)(R:Nat)(Q:Nat) :Sg prog [.vs [.int .i64 S,.sl 1 1 1 0 T U,.sl 2 1 1 0 V W,.int .i64 X,.int .i64 Y,.sl 3 1 1 0 Z a0,.flt false a1,.sl 4 1 1 0 a a2,.sl 5 1 1 0 a3 a4],.fl a5,.fl a6,.fl a7,.ns .i64 a8,.ns .i64 a9] Bb (kS a j k l m n o p q r s t b u v w x y z A B C D E F G H I c J d K e f L g M N h i O P (R,Q)) (iK a b c d e f g h i O (R,Q)) (kS a j k l m n o p q r s t b u v w x y z A B C D E F G H I c J d K e f L g M N h i O P) (bW 8 (vg a j k l m n o p q r s t b u v w x y z A B C D E F G H I c J d K e f L g M N h i O P) (bW 5 (kQ a j k l m n o p q r s t b u v w x y z A B C D E F G H I c J d K e f L g M N h i O) (bW 4 (kP a j k l m n o p q r s t b u v w x y z A B C D E F G H I c J d K e f L g M N h i) cW))):=by
  unfold iK;exact Sg.cut 3 (ao (ao (ao aA))) (cy ac (CQ a j k l m n o p q r s t b u v w x y z A B C D E F G H I c J d K e f L g M N h i O P Q) [⟨[],[0,1,2,3,4,5,6,7,8,9,10,11,12,13,14,15],[1,4,5,6,7,10,11,14,17,18,19,20,22,118,119]⟩,⟨[],[0,1,2,3,4,5,6,7,8,9,10,11,12,13,14,15],[1,4,5,6,7,10,11,14,17,18,19,20,118,119]⟩]) (fun b0=>cy ac (kS a j k l m n o p q r s t b u v w x y z A B C D E F G H I c J d K e f L g M N h i O P) [⟨[],[0,1,2,3,4,5,6,7,8,9,10,11,12,13,14,15],[1,4,5,6,7,10,11,14,17,18,19,20,22,118,119]⟩])
def tZ(e:Nat)(f:Nat)(b:List Nat)(a:Nat)(c:List Nat)(d:Nat) :T (((List Nat))⊕(((List Nat))⊕(((List Nat))⊕(ab)))) :=
  .need (fU ((a:Nat):Int) f)<|.need (fi a (List.length b))<|.need (!isNaN (List.getD b a 0)||isNaN (Eh (eY d)))<|.need (fU ((a:Nat):Int) e)<|.need (fi a (List.length c))<|.leaf (.inl (List.set c a (xc (Eh (eY d)) (List.getD b a 0))))
def ua(a:Nat)(b:List Nat) :T ((Nat×(List Nat))⊕(((List Nat))⊕(ab))) :=
  .need (fq .i64 (((a+1):Nat):Int))<|.leaf (.inl ((a+1),b))
def iL(b:Nat)(e:Nat)(f:Nat)(c:Nat)(g:List Nat)(d:List Nat)(h:Nat)(i:List Int)(j:List Nat) :Nat×(List Nat)→Option ((Nat×(List Nat))⊕(((List Nat))⊕(ab))):=fun (a,k) =>
  bd ((tQ b a k).run) fun _ =>
  bd (vO (bd ((tS b e f c g d h i j a).run) fun l =>
  bd ((tT).run) fun _ =>
  bd (cm (iJ e f c g d h i j a) (l,0)) fun m =>
  bd ((tW).run) fun _ =>
  bd (cm (iK b e f c g d h i j a) (m,a)) fun n =>
  (tZ b c d a k n).run)) fun o =>
  (ua a o).run
theorem Bd(Q:Int)(R:Nat)(S:Nat)(T:Nat)(U:Nat)(V:Int)(W:Int)(X:Nat)(Y:Nat)(Z:Nat)(a:Nat)(a0:Nat)(a1:Nat)(a2:Nat)(a3:List Nat)(a4:List Nat)(a5:List Nat)(a6:List Int)(a7:List Int)(j:Nat)(k:Nat)(l:Int)(m:Nat)(n:Nat)(o:Nat)(p:Nat)(q:Int)(r:Int)(s:Nat)(t:Nat)(b:Nat)(u:Nat)(v:Nat)(w:Nat)(x:Nat)(y:List Nat)(z:List Nat)(A:List Nat)(B:List Int)(C:List Int)(D:List Nat)(E:Int)(F:Int)(G:Nat)(H:Nat)(I:List Nat)(c:Nat)(J:Nat)(d:Nat)(K:Nat)(e:List Nat)(f:List Nat)(L:Nat)(g:Nat)(M:Nat)(N:Nat)(h:List Int)(i:List Nat)(O:Nat)(P:List Nat) :Sg prog [.vs [.int .i64 Q,.sl 1 1 1 0 R S,.sl 2 1 1 0 T U,.int .i64 V,.int .i64 W,.sl 3 1 1 0 X Y,.flt false Z,.sl 4 1 1 0 a a0,.sl 5 1 1 0 a1 a2],.fl a3,.fl a4,.fl a5,.ns .i64 a6,.ns .i64 a7] tP (kO a j k l m n o p q r s t b u v w x y z A B C D E F G H I c J d K e f L g M N h i (O,P)) (iL a b c d e f g h i (O,P)) (kO a j k l m n o p q r s t b u v w x y z A B C D E F G H I c J d K e f L g M N h i) (bW 4 (kP a j k l m n o p q r s t b u v w x y z A B C D E F G H I c J d K e f L g M N h i) cW):=by
  unfold iL;exact Sg.cut 2 (ao aA) (cy ac (CJ a j k l m n o p q r s t b u v w x y z A B C D E F G H I c J d K e f L g M N h i O P) [⟨[],[0,1,2,3,4,5,6,7,8,9,10,11,12,13,14,15],[1,4,5,6,7,10,11,14,17,18,118,119]⟩,⟨[],[0,1,2,3,4,5,6,7,8,9,10,11,12,13,14,15],[1,4,5,6,7,10,11,14,17,18]⟩]) (fun _=>Sg.cut 1 (ao aA) (UG (kQ a j k l m n o p q r s t b u v w x y z A B C D E F G H I c J d K e f L g M N h i O) 5 (ao aA) (bY (by decide) (db _)) (Sg.cut 2 (ao (ao aA)) (cy ac (CL a j k l m n o p q r s t b u v w x y z A B C D E F G H I c J d K e f L g M N h i O P) [⟨[],[0,1,2,3,4,5,6,7,8,9,10,11,12,13,14,15],[1,4,5,6,7,10,11,14,17,18,19,20,118,119]⟩]) (fun a8=>Sg.cut 1 (ao (ao aA)) (cy ac (CM a j k l m n o p q r s t b u v w x y z A B C D E F G H I c J d K e f L g M N h i O P a8) [⟨[],[0,1,2,3,4,5,6,7,8,9,10,11,12,13,14,15],[1,4,5,6,7,10,11,14,17,18,19,20,118,119,128,129]⟩]) (fun _=>Sg.cut 1 (ao (ao aA)) (yB ⟨[],[0,1,2,3,4,5,6,7,8,9,10,11,12,13,14,15],[1,4,5,6,7,10,11,14,17,18,19,20,118,119,128,129]⟩ (kR a j k l m n o p q r s t b u v w x y z A B C D E F G H I c J d K e f L g M N h i O P) (vf a j k l m n o p q r s t b u v w x y z A B C D E F G H I c J d K e f L g M N h i O P) 6 (ao (ao aA)) (bY (by decide) (bY (by decide) (db _))) (fun ⟨a9,b0⟩=>Ba Q R S T U V W X Y Z a a0 a1 a2 a3 a4 a5 a6 a7 j k l m n o p q r s t b u v w x y z A B C D E F G H I c J d K e f L g M N h i O P a9 b0)) (fun b1=>Sg.cut 1 (ao (ao aA)) (cy ac (CO a j k l m n o p q r s t b u v w x y z A B C D E F G H I c J d K e f L g M N h i O P b1) [⟨[],[0,1,2,3,4,5,6,7,8,9,10,11,12,13,14,15],[1,4,5,6,7,10,11,14,17,18,19,20,22,118,119]⟩]) (fun _=>Sg.cut 1 (ao (ao aA)) (yB ⟨[],[0,1,2,3,4,5,6,7,8,9,10,11,12,13,14,15],[1,4,5,6,7,10,11,14,17,18,19,20,22,118,119]⟩ (kS a j k l m n o p q r s t b u v w x y z A B C D E F G H I c J d K e f L g M N h i O P) (vg a j k l m n o p q r s t b u v w x y z A B C D E F G H I c J d K e f L g M N h i O P) 8 (ao (ao aA)) (bY (by decide) (bY (by decide) (db _))) (fun ⟨b2,b3⟩=>Bc Q R S T U V W X Y Z a a0 a1 a2 a3 a4 a5 a6 a7 j k l m n o p q r s t b u v w x y z A B C D E F G H I c J d K e f L g M N h i O P b2 b3)) (fun b4=>cy ac (kQ a j k l m n o p q r s t b u v w x y z A B C D E F G H I c J d K e f L g M N h i O) [⟨[],[0,1,2,3,4,5,6,7,8,9,10,11,12,13,14,15],[1,4,5,6,7,10,11,14,17,18,118,119]⟩]))))))) (fun b5=>cy ac (kO a j k l m n o p q r s t b u v w x y z A B C D E F G H I c J d K e f L g M N h i) [⟨[],[0,1,2,3,4,5,6,7,8,9,10,11,12,13,14,15],[1,4,5,6,7,10,11,14,17,18,118,119]⟩]))
def CR(a:Nat)(e:Nat)(f:Nat)(g:Int)(h:Nat)(i:Nat)(j:Nat)(k:Nat)(l:Int)(m:Int)(n:Nat)(o:Nat)(c:Nat)(p:Nat)(q:Nat)(r:Nat)(s:Nat)(t:List Nat)(u:List Nat)(v:List Nat)(w:List Int)(x:List Int)(y:List Nat)(z:Int)(A:Int)(B:Nat)(C:Nat)(D:List Nat)(E:Nat)(F:Nat)(G:Nat)(H:Nat)(I:List Nat)(J:List Nat)(K:Nat)(b:Nat)(d:Nat)(L:Nat)(M:List Int)(N:List Nat)(O:List Nat)(_:Unit) :aW:=⟨aw 263 [(1,.ptr 6 1 0 0),(4,.int .i64 ((a:Nat):Int)),(5,.sl 7 1 1 0 e f),(6,.ptr 8 1 0 0),(7,.fn (.func aq) [] [.ptr 6 1 0 0,.ptr 8 1 0 0]),(10,.int .i64 ((K:Nat):Int)),(11,.ptr 9 1 0 0),(17,.fn (.func aO) [] [.ptr 9 1 0 0,.ptr 10 1 0 0]),(18,.sl 11 1 1 0 a a),(190,.sl 12 2 2 0 b d),(191,.int .i64 ((b:Nat):Int)),(192,.int .i64 (0:Int))],[(0,.vs [.int .i64 g,.sl 1 1 1 0 h i,.sl 2 1 1 0 j k,.int .i64 l,.int .i64 m,.sl 3 1 1 0 n o,.flt false c,.sl 4 1 1 0 p q,.sl 5 1 1 0 r s]),(1,.fl t),(2,.fl u),(3,.fl v),(4,.ns .i64 w),(5,.ns .i64 x),(6,.vs [.ptr 0 1 0 0]),(7,.fl y),(8,.vs [.int .i64 z,.int .i64 A,.sl 13 1 1 0 B C]),(9,.vs [.sl 14 1 1 0 E F,.sl 15 1 1 0 G H,.flt false c]),(10,.vs [.sl 12 2 2 0 b d]),(11,.fl O),(12,.cols L [.ci .i64 M,.cf N]),(13,.fl D),(14,.fl I),(15,.fl J)],16⟩
def ub:T ((Unit)⊕(ab)) :=
  .leaf (.inl ())
def kT(a:Nat)(d:Nat)(e:Nat)(f:Nat)(g:Nat)(h:Nat)(i:List Nat)(j:List Nat)(k:Nat)(b:Nat)(c:Nat)(l:Nat)(m:List Int)(n:List Nat)(o:List Nat) :Nat×Nat×Nat×Int×Nat×Nat×Nat×Nat×Int×Int×Nat×Nat×Nat×Nat×Nat×Nat×Nat×(List Nat)×(List Nat)×(List Nat)×(List Int)×(List Int)×(List Nat)×Int×Int×Nat×Nat×(List Nat)→aW:=fun (p,q,r,s,t,u,v,w,x,y,z,A,B,C,D,E,F,G,H,I,J,K,L,M,N,O,P,Q)=>⟨aw 263 [(1,.ptr 6 1 0 0),(4,.int .i64 ((a:Nat):Int)),(5,.sl 7 1 1 0 p q),(6,.ptr 8 1 0 0),(7,.fn (.func aq) [] [.ptr 6 1 0 0,.ptr 8 1 0 0]),(10,.int .i64 ((k:Nat):Int)),(11,.ptr 9 1 0 0),(17,.fn (.func aO) [] [.ptr 9 1 0 0,.ptr 10 1 0 0]),(18,.sl 11 1 1 0 a a),(190,.sl 12 2 2 0 b c),(191,.int .i64 ((b:Nat):Int)),(192,.int .i64 ((r:Nat):Int))],[(0,.vs [.int .i64 s,.sl 1 1 1 0 t u,.sl 2 1 1 0 v w,.int .i64 x,.int .i64 y,.sl 3 1 1 0 z A,.flt false B,.sl 4 1 1 0 C D,.sl 5 1 1 0 E F]),(1,.fl G),(2,.fl H),(3,.fl I),(4,.ns .i64 J),(5,.ns .i64 K),(6,.vs [.ptr 0 1 0 0]),(7,.fl L),(8,.vs [.int .i64 M,.int .i64 N,.sl 13 1 1 0 O P]),(9,.vs [.sl 14 1 1 0 e f,.sl 15 1 1 0 g h,.flt false d]),(10,.vs [.sl 12 2 2 0 b c]),(11,.fl o),(12,.cols l [.ci .i64 m,.cf n]),(13,.fl Q),(14,.fl i),(15,.fl j)],16⟩
def kU(a:Nat) :Nat×Nat×Int×Nat×Nat×Nat×Nat×Int×Int×Nat×Nat×Nat×Nat×Nat×Nat×Nat×(List Nat)×(List Nat)×(List Nat)×(List Int)×(List Int)×(List Nat)×Int×Int×Nat×Nat×(List Nat)→aW:=fun (b,c,d,e,f,g,h,i,j,k,l,m,n,o,p,q,r,s,t,u,v,w,x,y,z,A,B)=>⟨aw 263 [(1,.ptr 6 1 0 0),(5,.sl 7 1 1 0 b c),(6,.ptr 8 1 0 0),(10,.int .i64 ((a:Nat):Int))],[(0,.vs [.int .i64 d,.sl 1 1 1 0 e f,.sl 2 1 1 0 g h,.int .i64 i,.int .i64 j,.sl 3 1 1 0 k l,.flt false m,.sl 4 1 1 0 n o,.sl 5 1 1 0 p q]),(1,.fl r),(2,.fl s),(3,.fl t),(4,.ns .i64 u),(5,.ns .i64 v),(6,.vs [.ptr 0 1 0 0]),(7,.fl w),(8,.vs [.int .i64 x,.int .i64 y,.sl 9 1 1 0 z A]),(9,.fl B)],10⟩
def uc:List Code:=cS (dh (((((((((pu.drop 2).drop 1).drop 1).drop 6).drop 1).drop 1).take 1)).headD .skip))
def CS(a:Nat)(d:Nat)(e:Nat)(f:Nat)(g:Nat)(h:Nat)(i:List Nat)(j:List Nat)(k:Nat)(b:Nat)(c:Nat)(l:Nat)(m:List Int)(n:List Nat)(o:List Nat)(p:Nat)(q:Nat)(r:Nat)(s:Int)(t:Nat)(u:Nat)(v:Nat)(w:Nat)(x:Int)(y:Int)(z:Nat)(A:Nat)(B:Nat)(C:Nat)(D:Nat)(E:Nat)(F:Nat)(G:List Nat)(H:List Nat)(I:List Nat)(J:List Int)(K:List Int)(L:List Nat)(M:Int)(N:Int)(O:Nat)(P:Nat)(Q:List Nat)(_:Unit) :aW:=⟨aw 263 [(1,.ptr 6 1 0 0),(4,.int .i64 ((a:Nat):Int)),(5,.sl 7 1 1 0 p q),(6,.ptr 8 1 0 0),(7,.fn (.func aq) [] [.ptr 6 1 0 0,.ptr 8 1 0 0]),(10,.int .i64 ((k:Nat):Int)),(11,.ptr 9 1 0 0),(17,.fn (.func aO) [] [.ptr 9 1 0 0,.ptr 10 1 0 0]),(18,.sl 11 1 1 0 a a),(190,.sl 12 2 2 0 b c),(191,.int .i64 ((b:Nat):Int)),(192,.int .i64 ((r:Nat):Int))],[(0,.vs [.int .i64 s,.sl 1 1 1 0 t u,.sl 2 1 1 0 v w,.int .i64 x,.int .i64 y,.sl 3 1 1 0 z A,.flt false B,.sl 4 1 1 0 C D,.sl 5 1 1 0 E F]),(1,.fl G),(2,.fl H),(3,.fl I),(4,.ns .i64 J),(5,.ns .i64 K),(6,.vs [.ptr 0 1 0 0]),(7,.fl L),(8,.vs [.int .i64 M,.int .i64 N,.sl 13 1 1 0 O P]),(9,.vs [.sl 14 1 1 0 e f,.sl 15 1 1 0 g h,.flt false d]),(10,.vs [.sl 12 2 2 0 b c]),(11,.fl o),(12,.cols l [.ci .i64 m,.cf n]),(13,.fl Q),(14,.fl i),(15,.fl j)],16⟩
def ud(a:Nat)(b:Nat)(c:Nat)(d:Nat)(e:Int)(f:Nat)(g:Nat)(h:Nat)(i:Nat)(j:Int)(k:Int)(l:Nat)(m:Nat)(n:Nat)(o:Nat)(p:Nat)(q:Nat)(r:Nat)(s:List Nat)(t:List Nat)(u:List Nat)(v:List Int)(w:List Int)(x:List Nat)(y:Int)(z:Int)(A:Nat)(B:Nat)(C:List Nat) :T ((Unit)⊕((Nat×Nat×Int×Nat×Nat×Nat×Nat×Int×Int×Nat×Nat×Nat×Nat×Nat×Nat×Nat×(List Nat)×(List Nat)×(List Nat)×(List Int)×(List Int)×(List Nat)×Int×Int×Nat×Nat×(List Nat))⊕(ab))) :=
  .ask (decide (((d:Nat):Int)<((a:Nat):Int)))
    (.leaf (.inl ()))
    (.leaf (.inr (.inl (b,c,e,f,g,h,i,j,k,l,m,n,o,p,q,r,s,t,u,v,w,x,y,z,A,B,C))))
def kV(a:Nat)(e:Nat)(f:Nat)(g:Nat)(h:Nat)(i:Nat)(j:List Nat)(k:List Nat)(l:Nat)(b:Nat)(c:Nat)(m:Nat)(n:List Int)(o:List Nat)(p:List Nat)(q:Nat) :Nat×Int×Nat×Nat×Nat×Nat×Int×Int×Nat×Nat×Nat×Nat×Nat×Nat×Nat×(List Nat)×(List Nat)×(List Nat)×(List Int)×(List Int)×(List Nat)×Int×Int×Nat×Nat×(List Nat)→aW:=fun (d,r,s,t,u,v,w,x,y,z,A,B,C,D,E,F,G,H,I,J,K,L,M,N,O,P)=>⟨aw 263 [(1,.ptr 6 1 0 0),(4,.int .i64 ((a:Nat):Int)),(5,.sl 7 1 1 0 d d),(6,.ptr 8 1 0 0),(7,.fn (.func aq) [] [.ptr 6 1 0 0,.ptr 8 1 0 0]),(10,.int .i64 ((l:Nat):Int)),(11,.ptr 9 1 0 0),(17,.fn (.func aO) [] [.ptr 9 1 0 0,.ptr 10 1 0 0]),(18,.sl 11 1 1 0 a a),(190,.sl 12 2 2 0 b c),(191,.int .i64 ((b:Nat):Int)),(192,.int .i64 ((q:Nat):Int))],[(0,.vs [.int .i64 r,.sl 1 1 1 0 s t,.sl 2 1 1 0 u v,.int .i64 w,.int .i64 x,.sl 3 1 1 0 y z,.flt false A,.sl 4 1 1 0 B C,.sl 5 1 1 0 D E]),(1,.fl F),(2,.fl G),(3,.fl H),(4,.ns .i64 I),(5,.ns .i64 J),(6,.vs [.ptr 0 1 0 0]),(7,.fl K),(8,.vs [.int .i64 L,.int .i64 M,.sl 13 1 1 0 N O]),(9,.vs [.sl 14 1 1 0 f g,.sl 15 1 1 0 h i,.flt false e]),(10,.vs [.sl 12 2 2 0 b c]),(11,.fl p),(12,.cols m [.ci .i64 n,.cf o]),(13,.fl P),(14,.fl j),(15,.fl k)],16⟩
def ue:List Code:=cS (inBlock ((((uc.drop 2).take 1)).headD .skip))
def CT(a:Nat)(e:Nat)(f:Nat)(g:Nat)(h:Nat)(i:Nat)(j:List Nat)(k:List Nat)(l:Nat)(b:Nat)(c:Nat)(m:Nat)(n:List Int)(o:List Nat)(p:List Nat)(q:Nat)(r:Nat)(d:Nat)(s:Int)(t:Nat)(u:Nat)(v:Nat)(w:Nat)(x:Int)(y:Int)(z:Nat)(A:Nat)(B:Nat)(C:Nat)(D:Nat)(E:Nat)(F:Nat)(G:List Nat)(H:List Nat)(I:List Nat)(J:List Int)(K:List Int)(L:List Nat)(M:Int)(N:Int)(O:Nat)(P:Nat)(Q:List Nat) :Int×Nat×(List Nat)→aW:=fun (R,S,T)=>⟨aw 263 [(1,.ptr 6 1 0 0),(4,.int .i64 ((a:Nat):Int)),(5,.sl 7 1 1 0 q r),(6,.ptr 8 1 0 0),(7,.fn (.func aq) [] [.ptr 6 1 0 0,.ptr 8 1 0 0]),(10,.int .i64 ((l:Nat):Int)),(11,.ptr 9 1 0 0),(17,.fn (.func aO) [] [.ptr 9 1 0 0,.ptr 10 1 0 0]),(18,.sl 11 1 1 0 a a),(23,.int .i64 ((d:Nat):Int)),(24,.ptr 12 1 0 0),(25,.ptr 13 1 0 0),(190,.sl 14 2 2 0 b c),(191,.int .i64 ((b:Nat):Int)),(192,.int .i64 ((d:Nat):Int)),(199,.int .i64 ((a:Nat):Int)),(200,.int .i64 (0:Int))],[(0,.vs [.int .i64 s,.sl 1 1 1 0 t u,.sl 2 1 1 0 v w,.int .i64 x,.int .i64 y,.sl 3 1 1 0 z A,.flt false B,.sl 4 1 1 0 C D,.sl 5 1 1 0 E F]),(1,.fl G),(2,.fl H),(3,.fl I),(4,.ns .i64 J),(5,.ns .i64 K),(6,.vs [.ptr 0 1 0 0]),(7,.fl L),(8,.vs [.int .i64 M,.int .i64 N,.sl 15 1 1 0 O P]),(9,.vs [.sl 16 1 1 0 f g,.sl 17 1 1 0 h i,.flt false e]),(10,.vs [.sl 14 2 2 0 b c]),(11,.fl p),(12,.vs [.int .i64 R,.flt false S]),(13,.vs [.sl 18 1 1 0 a a]),(14,.cols m [.ci .i64 n,.cf o]),(15,.fl Q),(16,.fl j),(17,.fl k),(18,.fl T)],19⟩
def uf(a:Nat)(e:Nat)(c:List Int)(d:List Nat)(b:Nat) :T ((Int×Nat×(List Nat))⊕((Nat×Int×Nat×Nat×Nat×Nat×Int×Int×Nat×Nat×Nat×Nat×Nat×Nat×Nat×(List Nat)×(List Nat)×(List Nat)×(List Int)×(List Int)×(List Nat)×Int×Int×Nat×Nat×(List Nat))⊕((Nat×Nat×Int×Nat×Nat×Nat×Nat×Int×Int×Nat×Nat×Nat×Nat×Nat×Nat×Nat×(List Nat)×(List Nat)×(List Nat)×(List Int)×(List Int)×(List Nat)×Int×Int×Nat×Nat×(List Nat))⊕(ab)))) :=
  .need (fU ((b:Nat):Int) e)<|.need (fi b (List.length c))<|.need (fi b (List.length d))<|.need (decide ((0:Int)≤((a:Nat):Int)))<|.need (decide (((a:Nat):Int)≤((a:Nat):Int)))<|.need (decide ((8:Int)*((a:Nat):Int)≤140737488355328))<|.need (fq .i64 ((a:Nat):Int))<|.leaf (.inl ((List.getD c b 0),(List.getD d b 0),(List.replicate a 0)))
def kW(a:Nat)(e:Nat)(f:Nat)(g:Nat)(h:Nat)(i:Nat)(j:List Nat)(k:List Nat)(l:Nat)(b:Nat)(c:Nat)(m:Nat)(n:List Int)(o:List Nat)(p:List Nat)(q:Nat)(r:Nat)(d:Nat)(s:Int)(t:Nat)(u:Nat)(v:Nat)(w:Nat)(x:Int)(y:Int)(z:Nat)(A:Nat)(B:Nat)(C:Nat)(D:Nat)(E:Nat)(F:Nat)(G:List Nat)(H:List Nat)(I:List Nat)(J:List Int)(K:List Int)(L:List Nat)(M:Int)(N:Int)(O:Nat)(P:Nat)(Q:List Nat)(R:Int)(S:Nat) :Nat×(List Nat)→aW:=fun (T,U)=>⟨aw 263 [(1,.ptr 6 1 0 0),(4,.int .i64 ((a:Nat):Int)),(5,.sl 7 1 1 0 q r),(6,.ptr 8 1 0 0),(7,.fn (.func aq) [] [.ptr 6 1 0 0,.ptr 8 1 0 0]),(10,.int .i64 ((l:Nat):Int)),(11,.ptr 9 1 0 0),(17,.fn (.func aO) [] [.ptr 9 1 0 0,.ptr 10 1 0 0]),(18,.sl 11 1 1 0 a a),(23,.int .i64 ((d:Nat):Int)),(24,.ptr 12 1 0 0),(25,.ptr 13 1 0 0),(190,.sl 14 2 2 0 b c),(191,.int .i64 ((b:Nat):Int)),(192,.int .i64 ((d:Nat):Int)),(199,.int .i64 ((a:Nat):Int)),(200,.int .i64 ((T:Nat):Int))],[(0,.vs [.int .i64 s,.sl 1 1 1 0 t u,.sl 2 1 1 0 v w,.int .i64 x,.int .i64 y,.sl 3 1 1 0 z A,.flt false B,.sl 4 1 1 0 C D,.sl 5 1 1 0 E F]),(1,.fl G),(2,.fl H),(3,.fl I),(4,.ns .i64 J),(5,.ns .i64 K),(6,.vs [.ptr 0 1 0 0]),(7,.fl L),(8,.vs [.int .i64 M,.int .i64 N,.sl 15 1 1 0 O P]),(9,.vs [.sl 16 1 1 0 f g,.sl 17 1 1 0 h i,.flt false e]),(10,.vs [.sl 14 2 2 0 b c]),(11,.fl p),(12,.vs [.int .i64 R,.flt false S]),(13,.vs [.sl 18 1 1 0 a a]),(14,.cols m [.ci .i64 n,.cf o]),(15,.fl Q),(16,.fl j),(17,.fl k),(18,.fl U)],19⟩
def vh(a:Nat)(e:Nat)(f:Nat)(g:Nat)(h:Nat)(i:Nat)(j:List Nat)(k:List Nat)(l:Nat)(b:Nat)(c:Nat)(m:Nat)(n:List Int)(o:List Nat)(p:List Nat)(q:Nat)(r:Nat)(d:Nat)(s:Int)(t:Nat)(u:Nat)(v:Nat)(w:Nat)(x:Int)(y:Int)(z:Nat)(A:Nat)(B:Nat)(C:Nat)(D:Nat)(E:Nat)(F:Nat)(G:List Nat)(H:List Nat)(I:List Nat)(J:List Int)(K:List Int)(L:List Nat)(M:Int)(N:Int)(O:Nat)(P:Nat)(Q:List Nat)(R:Int)(S:Nat)(T:(List Nat)) :aW:=⟨aw 263 [(1,.ptr 6 1 0 0),(4,.int .i64 ((a:Nat):Int)),(5,.sl 7 1 1 0 q r),(6,.ptr 8 1 0 0),(7,.fn (.func aq) [] [.ptr 6 1 0 0,.ptr 8 1 0 0]),(10,.int .i64 ((l:Nat):Int)),(11,.ptr 9 1 0 0),(17,.fn (.func aO) [] [.ptr 9 1 0 0,.ptr 10 1 0 0]),(18,.sl 11 1 1 0 a a),(23,.int .i64 ((d:Nat):Int)),(24,.ptr 12 1 0 0),(25,.ptr 13 1 0 0),(190,.sl 14 2 2 0 b c),(191,.int .i64 ((b:Nat):Int)),(192,.int .i64 ((d:Nat):Int))],[(0,.vs [.int .i64 s,.sl 1 1 1 0 t u,.sl 2 1 1 0 v w,.int .i64 x,.int .i64 y,.sl 3 1 1 0 z A,.flt false B,.sl 4 1 1 0 C D,.sl 5 1 1 0 E F]),(1,.fl G),(2,.fl H),(3,.fl I),(4,.ns .i64 J),(5,.ns .i64 K),(6,.vs [.ptr 0 1 0 0]),(7,.fl L),(8,.vs [.int .i64 M,.int .i64 N,.sl 15 1 1 0 O P]),(9,.vs [.sl 16 1 1 0 f g,.sl 17 1 1 0 h i,.flt false e]),(10,.vs [.sl 14 2 2 0 b c]),(11,.fl p),(12,.vs [.int .i64 R,.flt false S]),(13,.vs [.sl 18 1 1 0 a a]),(14,.cols m [.ci .i64 n,.cf o]),(15,.fl Q),(16,.fl j),(17,.fl k),(18,.fl T)],19⟩
def Be:List Code:=cS (dh ((((ue.drop 3).take 1)).headD .skip))
def CU(a:Nat)(e:Nat)(f:Nat)(g:Nat)(h:Nat)(i:Nat)(j:List Nat)(k:List Nat)(l:Nat)(b:Nat)(c:Nat)(m:Nat)(n:List Int)(o:List Nat)(p:List Nat)(q:Nat)(r:Nat)(d:Nat)(s:Int)(t:Nat)(u:Nat)(v:Nat)(w:Nat)(x:Int)(y:Int)(z:Nat)(A:Nat)(B:Nat)(C:Nat)(D:Nat)(E:Nat)(F:Nat)(G:List Nat)(H:List Nat)(I:List Nat)(J:List Int)(K:List Int)(L:List Nat)(M:Int)(N:Int)(O:Nat)(P:Nat)(Q:List Nat)(R:Int)(S:Nat)(T:Nat)(U:(List Nat)) :aW:=⟨aw 263 [(1,.ptr 6 1 0 0),(4,.int .i64 ((a:Nat):Int)),(5,.sl 7 1 1 0 q r),(6,.ptr 8 1 0 0),(7,.fn (.func aq) [] [.ptr 6 1 0 0,.ptr 8 1 0 0]),(10,.int .i64 ((l:Nat):Int)),(11,.ptr 9 1 0 0),(17,.fn (.func aO) [] [.ptr 9 1 0 0,.ptr 10 1 0 0]),(18,.sl 11 1 1 0 a a),(23,.int .i64 ((d:Nat):Int)),(24,.ptr 12 1 0 0),(25,.ptr 13 1 0 0),(190,.sl 14 2 2 0 b c),(191,.int .i64 ((b:Nat):Int)),(192,.int .i64 ((d:Nat):Int)),(199,.int .i64 ((a:Nat):Int)),(200,.int .i64 ((T:Nat):Int))],[(0,.vs [.int .i64 s,.sl 1 1 1 0 t u,.sl 2 1 1 0 v w,.int .i64 x,.int .i64 y,.sl 3 1 1 0 z A,.flt false B,.sl 4 1 1 0 C D,.sl 5 1 1 0 E F]),(1,.fl G),(2,.fl H),(3,.fl I),(4,.ns .i64 J),(5,.ns .i64 K),(6,.vs [.ptr 0 1 0 0]),(7,.fl L),(8,.vs [.int .i64 M,.int .i64 N,.sl 15 1 1 0 O P]),(9,.vs [.sl 16 1 1 0 f g,.sl 17 1 1 0 h i,.flt false e]),(10,.vs [.sl 14 2 2 0 b c]),(11,.fl p),(12,.vs [.int .i64 R,.flt false S]),(13,.vs [.sl 18 1 1 0 a a]),(14,.cols m [.ci .i64 n,.cf o]),(15,.fl Q),(16,.fl j),(17,.fl k),(18,.fl U)],19⟩
def ug(c:Nat)(k:Nat)(d:Nat)(e:Nat)(f:List Nat)(g:List Nat)(m:Nat)(h:List Int)(i:List Nat)(l:List Nat)(b:Nat)(a:Nat)(j:List Nat) :T (((List Nat))⊕(((List Nat))⊕((Nat×Int×Nat×Nat×Nat×Nat×Int×Int×Nat×Nat×Nat×Nat×Nat×Nat×Nat×(List Nat)×(List Nat)×(List Nat)×(List Int)×(List Int)×(List Nat)×Int×Int×Nat×Nat×(List Nat))⊕((Nat×Nat×Int×Nat×Nat×Nat×Nat×Int×Int×Nat×Nat×Nat×Nat×Nat×Nat×Nat×(List Nat)×(List Nat)×(List Nat)×(List Int)×(List Int)×(List Nat)×Int×Int×Nat×Nat×(List Nat))⊕(ab))))) :=
  .ask (decide (((a:Nat):Int)<((c:Nat):Int)))
    (.need (fU ((a:Nat):Int) c)<|.need (fi a (List.length l))<|.need (fU ((b:Nat):Int) m)<|.need (fi b (List.length h))<|.need (fi b (List.length i))<|.need (dg 0 d f)<|.need (dg 0 e g)<|.need (lI (gj (az 0 d f) (az 0 e g) k ((a:Nat):Int) (List.getD h b 0) (List.getD i b 0)))<|.need (fU ((a:Nat):Int) c)<|.need (fi a (List.length j))<|.leaf (.inl (List.set j a (fdiv (List.getD l a 0) (lC (gj (az 0 d f) (az 0 e g) k ((a:Nat):Int) (List.getD h b 0) (List.getD i b 0)))))))
    (.leaf (.inr (.inl j)))
def uh(a:Nat)(b:List Nat) :T ((Nat×(List Nat))⊕(((List Nat))⊕((Nat×Int×Nat×Nat×Nat×Nat×Int×Int×Nat×Nat×Nat×Nat×Nat×Nat×Nat×(List Nat)×(List Nat)×(List Nat)×(List Int)×(List Int)×(List Nat)×Int×Int×Nat×Nat×(List Nat))⊕((Nat×Nat×Int×Nat×Nat×Nat×Nat×Int×Int×Nat×Nat×Nat×Nat×Nat×Nat×Nat×(List Nat)×(List Nat)×(List Nat)×(List Int)×(List Int)×(List Nat)×Int×Int×Nat×Nat×(List Nat))⊕(ab))))) :=
  .need (fq .i64 (((a+1):Nat):Int))<|.leaf (.inl ((a+1),b))
def iM(b:Nat)(c:Nat)(d:Nat)(e:Nat)(f:List Nat)(g:List Nat)(h:Nat)(i:List Int)(j:List Nat)(k:List Nat)(l:Nat) :Nat×(List Nat)→Option ((Nat×(List Nat))⊕(((List Nat))⊕((Nat×Int×Nat×Nat×Nat×Nat×Int×Int×Nat×Nat×Nat×Nat×Nat×Nat×Nat×(List Nat)×(List Nat)×(List Nat)×(List Int)×(List Int)×(List Nat)×Int×Int×Nat×Nat×(List Nat))⊕((Nat×Nat×Int×Nat×Nat×Nat×Nat×Int×Int×Nat×Nat×Nat×Nat×Nat×Nat×Nat×(List Nat)×(List Nat)×(List Nat)×(List Int)×(List Int)×(List Nat)×Int×Int×Nat×Nat×(List Nat))⊕(ab))))):=fun (a,m) =>
  bd ((ug b c d e f g h i j k l a m).run) fun n =>
  (uh a n).run
theorem Bf(V:Int)(W:Nat)(X:Nat)(Y:Nat)(Z:Nat)(a0:Int)(a1:Int)(a2:Nat)(a3:Nat)(a4:Nat)(a:Nat)(a5:Nat)(a6:Nat)(a7:Nat)(a8:List Nat)(a9:List Nat)(b0:List Nat)(b1:List Int)(b2:List Int)(b:Nat)(c:Nat)(m:Nat)(d:Nat)(n:Nat)(e:List Nat)(f:List Nat)(g:Nat)(h:Nat)(o:Nat)(p:Nat)(i:List Int)(j:List Nat)(k:List Nat)(q:Nat)(r:Nat)(l:Nat)(s:Int)(t:Nat)(u:Nat)(v:Nat)(w:Nat)(x:Int)(y:Int)(z:Nat)(A:Nat)(B:Nat)(C:Nat)(D:Nat)(E:Nat)(F:Nat)(G:List Nat)(H:List Nat)(I:List Nat)(J:List Int)(K:List Int)(L:List Nat)(M:Int)(N:Int)(O:Nat)(P:Nat)(Q:List Nat)(R:Int)(S:Nat)(T:Nat)(U:List Nat) :Sg prog [.vs [.int .i64 V,.sl 1 1 1 0 W X,.sl 2 1 1 0 Y Z,.int .i64 a0,.int .i64 a1,.sl 3 1 1 0 a2 a3,.flt false a4,.sl 4 1 1 0 a a5,.sl 5 1 1 0 a6 a7],.fl a8,.fl a9,.fl b0,.ns .i64 b1,.ns .i64 b2] Be (kW a b c m d n e f g h o p i j k q r l s t u v w x y z A B C D E F G H I J K L M N O P Q R S (T,U)) (iM a b c d e f h i j k l (T,U)) (kW a b c m d n e f g h o p i j k q r l s t u v w x y z A B C D E F G H I J K L M N O P Q R S) (bW 12 (vh a b c m d n e f g h o p i j k q r l s t u v w x y z A B C D E F G H I J K L M N O P Q R S) (bW 11 (kV a b c m d n e f g h o p i j k l) (bW 10 (kU g) cW))):=by
  unfold iM;exact Sg.cut 3 (ao (ao (ao aA))) (cy ac (CU a b c m d n e f g h o p i j k q r l s t u v w x y z A B C D E F G H I J K L M N O P Q R S T) [⟨[],[0,1,2,3,4,5,6,7,8,9,10,11,12,13,14,15,16,17,18],[1,4,5,6,7,10,11,17,18,23,24,25,190,191,192,199,200]⟩,⟨[],[0,1,2,3,4,5,6,7,8,9,10,11,12,13,14,15,16,17,18],[1,4,5,6,7,10,11,17,18,23,24,25,190,191,192]⟩]) (fun b3=>cy ac (kW a b c m d n e f g h o p i j k q r l s t u v w x y z A B C D E F G H I J K L M N O P Q R S) [⟨[],[0,1,2,3,4,5,6,7,8,9,10,11,12,13,14,15,16,17,18],[1,4,5,6,7,10,11,17,18,23,24,25,190,191,192,199,200]⟩])
def CV(a:Nat)(e:Nat)(f:Nat)(g:Nat)(h:Nat)(i:Nat)(j:List Nat)(k:List Nat)(l:Nat)(b:Nat)(c:Nat)(m:Nat)(n:List Int)(o:List Nat)(p:List Nat)(q:Nat)(r:Nat)(d:Nat)(s:Int)(t:Nat)(u:Nat)(v:Nat)(w:Nat)(x:Int)(y:Int)(z:Nat)(A:Nat)(B:Nat)(C:Nat)(D:Nat)(E:Nat)(F:Nat)(G:List Nat)(H:List Nat)(I:List Nat)(J:List Int)(K:List Int)(L:List Nat)(M:Int)(N:Int)(O:Nat)(P:Nat)(Q:List Nat)(R:Int)(S:Nat)(T:List Nat)(U:Nat) :aW:=⟨aw 263 [(1,.ptr 6 1 0 0),(4,.int .i64 ((a:Nat):Int)),(5,.sl 7 1 1 0 q r),(6,.ptr 8 1 0 0),(7,.fn (.func aq) [] [.ptr 6 1 0 0,.ptr 8 1 0 0]),(10,.int .i64 ((l:Nat):Int)),(11,.ptr 9 1 0 0),(17,.fn (.func aO) [] [.ptr 9 1 0 0,.ptr 10 1 0 0]),(18,.sl 11 1 1 0 a a),(23,.int .i64 ((d:Nat):Int)),(24,.ptr 12 1 0 0),(25,.ptr 13 1 0 0),(27,.flt false U),(190,.sl 14 2 2 0 b c),(191,.int .i64 ((b:Nat):Int)),(192,.int .i64 ((d:Nat):Int))],[(0,.vs [.int .i64 s,.sl 1 1 1 0 t u,.sl 2 1 1 0 v w,.int .i64 x,.int .i64 y,.sl 3 1 1 0 z A,.flt false B,.sl 4 1 1 0 C D,.sl 5 1 1 0 E F]),(1,.fl G),(2,.fl H),(3,.fl I),(4,.ns .i64 J),(5,.ns .i64 K),(6,.vs [.ptr 0 1 0 0]),(7,.fl L),(8,.vs [.int .i64 M,.int .i64 N,.sl 15 1 1 0 O P]),(9,.vs [.sl 16 1 1 0 f g,.sl 17 1 1 0 h i,.flt false e]),(10,.vs [.sl 14 2 2 0 b c]),(11,.fl p),(12,.vs [.int .i64 R,.flt false S]),(13,.vs [.sl 18 1 1 0 a a]),(14,.cols m [.ci .i64 n,.cf o]),(15,.fl Q),(16,.fl j),(17,.fl k),(18,.fl T)],19⟩
def ui(a:Nat)(b:List Nat) :T ((Nat)⊕((Nat×Int×Nat×Nat×Nat×Nat×Int×Int×Nat×Nat×Nat×Nat×Nat×Nat×Nat×(List Nat)×(List Nat)×(List Nat)×(List Int)×(List Int)×(List Nat)×Int×Int×Nat×Nat×(List Nat))⊕((Nat×Nat×Int×Nat×Nat×Nat×Nat×Int×Int×Nat×Nat×Nat×Nat×Nat×Nat×Nat×(List Nat)×(List Nat)×(List Nat)×(List Int)×(List Int)×(List Nat)×Int×Int×Nat×Nat×(List Nat))⊕(ab)))) :=
  .need (dg 0 a b)<|.need (uH (pX (az 0 a b)))<|.leaf (.inl (vo (pX (az 0 a b))))
def CW(a:Nat)(e:Nat)(f:Nat)(g:Nat)(h:Nat)(i:Nat)(j:List Nat)(k:List Nat)(l:Nat)(b:Nat)(c:Nat)(m:Nat)(n:List Int)(o:List Nat)(p:List Nat)(q:Nat)(r:Nat)(d:Nat)(s:Int)(t:Nat)(u:Nat)(v:Nat)(w:Nat)(x:Int)(y:Int)(z:Nat)(A:Nat)(B:Nat)(C:Nat)(D:Nat)(E:Nat)(F:Nat)(G:List Nat)(H:List Nat)(I:List Nat)(J:List Int)(K:List Int)(L:List Nat)(M:Int)(N:Int)(O:Nat)(P:Nat)(Q:List Nat)(R:Int)(S:Nat)(T:List Nat)(U:Nat)(_:Unit) :aW:=⟨aw 263 [(1,.ptr 6 1 0 0),(4,.int .i64 ((a:Nat):Int)),(5,.sl 7 1 1 0 q r),(6,.ptr 8 1 0 0),(7,.fn (.func aq) [] [.ptr 6 1 0 0,.ptr 8 1 0 0]),(10,.int .i64 ((l:Nat):Int)),(11,.ptr 9 1 0 0),(17,.fn (.func aO) [] [.ptr 9 1 0 0,.ptr 10 1 0 0]),(18,.sl 11 1 1 0 a a),(23,.int .i64 ((d:Nat):Int)),(24,.ptr 12 1 0 0),(25,.ptr 13 1 0 0),(27,.flt false U),(190,.sl 14 2 2 0 b c),(191,.int .i64 ((b:Nat):Int)),(192,.int .i64 ((d:Nat):Int)),(219,.int .i64 ((a:Nat):Int)),(220,.int .i64 (0:Int))],[(0,.vs [.int .i64 s,.sl 1 1 1 0 t u,.sl 2 1 1 0 v w,.int .i64 x,.int .i64 y,.sl 3 1 1 0 z A,.flt false B,.sl 4 1 1 0 C D,.sl 5 1 1 0 E F]),(1,.fl G),(2,.fl H),(3,.fl I),(4,.ns .i64 J),(5,.ns .i64 K),(6,.vs [.ptr 0 1 0 0]),(7,.fl L),(8,.vs [.int .i64 M,.int .i64 N,.sl 15 1 1 0 O P]),(9,.vs [.sl 16 1 1 0 f g,.sl 17 1 1 0 h i,.flt false e]),(10,.vs [.sl 14 2 2 0 b c]),(11,.fl p),(12,.vs [.int .i64 R,.flt false S]),(13,.vs [.sl 18 1 1 0 a a]),(14,.cols m [.ci .i64 n,.cf o]),(15,.fl Q),(16,.fl j),(17,.fl k),(18,.fl T)],19⟩
def uj:T ((Unit)⊕((Nat×Int×Nat×Nat×Nat×Nat×Int×Int×Nat×Nat×Nat×Nat×Nat×Nat×Nat×(List Nat)×(List Nat)×(List Nat)×(List Int)×(List Int)×(List Nat)×Int×Int×Nat×Nat×(List Nat))⊕((Nat×Nat×Int×Nat×Nat×Nat×Nat×Int×Int×Nat×Nat×Nat×Nat×Nat×Nat×Nat×(List Nat)×(List Nat)×(List Nat)×(List Int)×(List Int)×(List Nat)×Int×Int×Nat×Nat×(List Nat))⊕(ab)))) :=
  .leaf (.inl ())
def kX(a:Nat)(e:Nat)(f:Nat)(g:Nat)(h:Nat)(i:Nat)(j:List Nat)(k:List Nat)(l:Nat)(b:Nat)(c:Nat)(m:Nat)(n:List Int)(o:List Nat)(p:List Nat)(q:Nat)(r:Nat)(d:Nat)(s:Int)(t:Nat)(u:Nat)(v:Nat)(w:Nat)(x:Int)(y:Int)(z:Nat)(A:Nat)(B:Nat)(C:Nat)(D:Nat)(E:Nat)(F:Nat)(G:List Nat)(H:List Nat)(I:List Nat)(J:List Int)(K:List Int)(L:List Nat)(M:Int)(N:Int)(O:Nat)(P:Nat)(Q:List Nat)(R:Int)(S:Nat)(T:Nat) :Nat×(List Nat)→aW:=fun (U,V)=>⟨aw 263 [(1,.ptr 6 1 0 0),(4,.int .i64 ((a:Nat):Int)),(5,.sl 7 1 1 0 q r),(6,.ptr 8 1 0 0),(7,.fn (.func aq) [] [.ptr 6 1 0 0,.ptr 8 1 0 0]),(10,.int .i64 ((l:Nat):Int)),(11,.ptr 9 1 0 0),(17,.fn (.func aO) [] [.ptr 9 1 0 0,.ptr 10 1 0 0]),(18,.sl 11 1 1 0 a a),(23,.int .i64 ((d:Nat):Int)),(24,.ptr 12 1 0 0),(25,.ptr 13 1 0 0),(27,.flt false T),(190,.sl 14 2 2 0 b c),(191,.int .i64 ((b:Nat):Int)),(192,.int .i64 ((d:Nat):Int)),(219,.int .i64 ((a:Nat):Int)),(220,.int .i64 ((U:Nat):Int))],[(0,.vs [.int .i64 s,.sl 1 1 1 0 t u,.sl 2 1 1 0 v w,.int .i64 x,.int .i64 y,.sl 3 1 1 0 z A,.flt false B,.sl 4 1 1 0 C D,.sl 5 1 1 0 E F]),(1,.fl G),(2,.fl H),(3,.fl I),(4,.ns .i64 J),(5,.ns .i64 K),(6,.vs [.ptr 0 1 0 0]),(7,.fl L),(8,.vs [.int .i64 M,.int .i64 N,.sl 15 1 1 0 O P]),(9,.vs [.sl 16 1 1 0 f g,.sl 17 1 1 0 h i,.flt false e]),(10,.vs [.sl 14 2 2 0 b c]),(11,.fl p),(12,.vs [.int .i64 R,.flt false S]),(13,.vs [.sl 18 1 1 0 a a]),(14,.cols m [.ci .i64 n,.cf o]),(15,.fl Q),(16,.fl j),(17,.fl k),(18,.fl V)],19⟩
def vi(a:Nat)(e:Nat)(f:Nat)(g:Nat)(h:Nat)(i:Nat)(j:List Nat)(k:List Nat)(l:Nat)(b:Nat)(c:Nat)(m:Nat)(n:List Int)(o:List Nat)(p:List Nat)(q:Nat)(r:Nat)(d:Nat)(s:Int)(t:Nat)(u:Nat)(v:Nat)(w:Nat)(x:Int)(y:Int)(z:Nat)(A:Nat)(B:Nat)(C:Nat)(D:Nat)(E:Nat)(F:Nat)(G:List Nat)(H:List Nat)(I:List Nat)(J:List Int)(K:List Int)(L:List Nat)(M:Int)(N:Int)(O:Nat)(P:Nat)(Q:List Nat)(R:Int)(S:Nat)(T:(List Nat)) :aW:=⟨aw 263 [(1,.ptr 6 1 0 0),(4,.int .i64 ((a:Nat):Int)),(5,.sl 7 1 1 0 q r),(6,.ptr 8 1 0 0),(7,.fn (.func aq) [] [.ptr 6 1 0 0,.ptr 8 1 0 0]),(10,.int .i64 ((l:Nat):Int)),(11,.ptr 9 1 0 0),(17,.fn (.func aO) [] [.ptr 9 1 0 0,.ptr 10 1 0 0]),(18,.sl 11 1 1 0 a a),(23,.int .i64 ((d:Nat):Int)),(24,.ptr 12 1 0 0),(25,.ptr 13 1 0 0),(190,.sl 14 2 2 0 b c),(191,.int .i64 ((b:Nat):Int)),(192,.int .i64 ((d:Nat):Int))],[(0,.vs [.int .i64 s,.sl 1 1 1 0 t u,.sl 2 1 1 0 v w,.int .i64 x,.int .i64 y,.sl 3 1 1 0 z A,.flt false B,.sl 4 1 1 0 C D,.sl 5 1 1 0 E F]),(1,.fl G),(2,.fl H),(3,.fl I),(4,.ns .i64 J),(5,.ns .i64 K),(6,.vs [.ptr 0 1 0 0]),(7,.fl L),(8,.vs [.int .i64 M,.int .i64 N,.sl 15 1 1 0 O P]),(9,.vs [.sl 16 1 1 0 f g,.sl 17 1 1 0 h i,.flt false e]),(10,.vs [.sl 14 2 2 0 b c]),(11,.fl p),(12,.vs [.int .i64 R,.flt false S]),(13,.vs [.sl 18 1 1 0 a a]),(14,.cols m [.ci .i64 n,.cf o]),(15,.fl Q),(16,.fl j),(17,.fl k),(18,.fl T)],19⟩
def Bg:List Code:=cS (dh (((((((ue.drop 3).drop 1).drop 1).drop 1).take 1)).headD .skip))
def uk(c:Nat)(d:Nat)(a:Nat)(b:List Nat) :T ((Nat×(List Nat))⊕(((List Nat))⊕((Nat×Int×Nat×Nat×Nat×Nat×Int×Int×Nat×Nat×Nat×Nat×Nat×Nat×Nat×(List Nat)×(List Nat)×(List Nat)×(List Int)×(List Int)×(List Nat)×Int×Int×Nat×Nat×(List Nat))⊕((Nat×Nat×Int×Nat×Nat×Nat×Nat×Int×Int×Nat×Nat×Nat×Nat×Nat×Nat×Nat×(List Nat)×(List Nat)×(List Nat)×(List Int)×(List Int)×(List Nat)×Int×Int×Nat×Nat×(List Nat))⊕(ab))))) :=
  .ask (decide (((a:Nat):Int)<((c:Nat):Int)))
    (.need (fU ((a:Nat):Int) c)<|.need (fi a (List.length b))<|.need (fU ((a:Nat):Int) c)<|.need (fi a (List.length b))<|.need (fq .i64 (((a+1):Nat):Int))<|.leaf (.inl ((a+1),(List.set b a (fdiv (List.getD b a 0) d)))))
    (.leaf (.inr (.inl b)))
def iN(a:Nat)(b:Nat) :Nat×(List Nat)→Option ((Nat×(List Nat))⊕(((List Nat))⊕((Nat×Int×Nat×Nat×Nat×Nat×Int×Int×Nat×Nat×Nat×Nat×Nat×Nat×Nat×(List Nat)×(List Nat)×(List Nat)×(List Int)×(List Int)×(List Nat)×Int×Int×Nat×Nat×(List Nat))⊕((Nat×Nat×Int×Nat×Nat×Nat×Nat×Int×Int×Nat×Nat×Nat×Nat×Nat×Nat×Nat×(List Nat)×(List Nat)×(List Nat)×(List Int)×(List Int)×(List Nat)×Int×Int×Nat×Nat×(List Nat))⊕(ab))))):=fun (c,d) =>
  (uk a b c d).run
theorem Bh(W:Int)(X:Nat)(Y:Nat)(Z:Nat)(a0:Nat)(a1:Int)(a2:Int)(a3:Nat)(a4:Nat)(a5:Nat)(a:Nat)(a6:Nat)(a7:Nat)(a8:Nat)(a9:List Nat)(b0:List Nat)(b1:List Nat)(b2:List Int)(b3:List Int)(c:Nat)(d:Nat)(e:Nat)(f:Nat)(g:Nat)(h:List Nat)(i:List Nat)(b:Nat)(j:Nat)(k:Nat)(l:Nat)(m:List Int)(n:List Nat)(o:List Nat)(q:Nat)(r:Nat)(p:Nat)(s:Int)(t:Nat)(u:Nat)(v:Nat)(w:Nat)(x:Int)(y:Int)(z:Nat)(A:Nat)(B:Nat)(C:Nat)(D:Nat)(E:Nat)(F:Nat)(G:List Nat)(H:List Nat)(I:List Nat)(J:List Int)(K:List Int)(L:List Nat)(M:Int)(N:Int)(O:Nat)(P:Nat)(Q:List Nat)(R:Int)(S:Nat)(T:Nat)(U:Nat)(V:List Nat) :Sg prog [.vs [.int .i64 W,.sl 1 1 1 0 X Y,.sl 2 1 1 0 Z a0,.int .i64 a1,.int .i64 a2,.sl 3 1 1 0 a3 a4,.flt false a5,.sl 4 1 1 0 a a6,.sl 5 1 1 0 a7 a8],.fl a9,.fl b0,.fl b1,.ns .i64 b2,.ns .i64 b3] Bg (kX a c d e f g h i b j k l m n o q r p s t u v w x y z A B C D E F G H I J K L M N O P Q R S T (U,V)) (iN a T (U,V)) (kX a c d e f g h i b j k l m n o q r p s t u v w x y z A B C D E F G H I J K L M N O P Q R S T) (bW 14 (vi a c d e f g h i b j k l m n o q r p s t u v w x y z A B C D E F G H I J K L M N O P Q R S) (bW 11 (kV a c d e f g h i b j k l m n o p) (bW 10 (kU b) cW))):=by
  unfold iN;exact cy ac (kX a c d e f g h i b j k l m n o q r p s t u v w x y z A B C D E F G H I J K L M N O P Q R S T) [⟨[],[0,1,2,3,4,5,6,7,8,9,10,11,12,13,14,15,16,17,18],[1,4,5,6,7,10,11,17,18,23,24,25,27,190,191,192,219,220]⟩,⟨[],[0,1,2,3,4,5,6,7,8,9,10,11,12,13,14,15,16,17,18],[1,4,5,6,7,10,11,17,18,23,24,25,190,191,192]⟩]
def ul(b:Nat)(G:Nat)(D:List Nat)(B:Nat)(c:Nat)(d:Int)(e:Nat)(f:Nat)(g:Nat)(h:Nat)(i:Int)(j:Int)(k:Nat)(l:Nat)(m:Nat)(n:Nat)(o:Nat)(a:Nat)(p:Nat)(q:List Nat)(r:List Nat)(s:List Nat)(t:List Int)(u:List Int)(E:List Nat)(v:Int)(w:Int)(x:Nat)(y:Nat)(z:List Nat)(C:Int)(F:Nat)(A:List Nat) :T ((Nat×Int×Nat×Nat×Nat×Nat×Int×Int×Nat×Nat×Nat×Nat×Nat×Nat×Nat×(List Nat)×(List Nat)×(List Nat)×(List Int)×(List Int)×(List Nat)×Int×Int×Nat×Nat×(List Nat))⊕((Nat×Int×Nat×Nat×Nat×Nat×Int×Int×Nat×Nat×Nat×Nat×Nat×Nat×Nat×(List Nat)×(List Nat)×(List Nat)×(List Int)×(List Int)×(List Nat)×Int×Int×Nat×Nat×(List Nat))⊕((Nat×Nat×Int×Nat×Nat×Nat×Nat×Int×Int×Nat×Nat×Nat×Nat×Nat×Nat×Nat×(List Nat)×(List Nat)×(List Nat)×(List Int)×(List Int)×(List Nat)×Int×Int×Nat×Nat×(List Nat))⊕(ab)))) :=
  .need (fU C G)<|.need (fi (Int.toNat C) (List.length D))<|.need (kj ((B+1)*8) 140737488355328)<|.need (kj (B+1) 9223372036854775807)<|.need (kj 1 (List.length [(v3 (List.getD D (Int.toNat C) 0) F)]))<|.need (kj B (List.length E))<|.need (fq .i64 (((a+c):Nat):Int))<|.need (cQ (aj d e f g h i j k l m n o a p q r s t u b b A v w x y z (((a+c):Nat):Int)))<|.leaf (.inl ((B+1),(ev (aj d e f g h i j k l m n o a p q r s t u b b A v w x y z (((a+c):Nat):Int))),(ew (aj d e f g h i j k l m n o a p q r s t u b b A v w x y z (((a+c):Nat):Int))),(ez (aj d e f g h i j k l m n o a p q r s t u b b A v w x y z (((a+c):Nat):Int))),(eD (aj d e f g h i j k l m n o a p q r s t u b b A v w x y z (((a+c):Nat):Int))),(eE (aj d e f g h i j k l m n o a p q r s t u b b A v w x y z (((a+c):Nat):Int))),(eF (aj d e f g h i j k l m n o a p q r s t u b b A v w x y z (((a+c):Nat):Int))),(eG (aj d e f g h i j k l m n o a p q r s t u b b A v w x y z (((a+c):Nat):Int))),(eH (aj d e f g h i j k l m n o a p q r s t u b b A v w x y z (((a+c):Nat):Int))),(eI (aj d e f g h i j k l m n o a p q r s t u b b A v w x y z (((a+c):Nat):Int))),(eJ (aj d e f g h i j k l m n o a p q r s t u b b A v w x y z (((a+c):Nat):Int))),(dJ (aj d e f g h i j k l m n o a p q r s t u b b A v w x y z (((a+c):Nat):Int))),(dK (aj d e f g h i j k l m n o a p q r s t u b b A v w x y z (((a+c):Nat):Int))),(dL (aj d e f g h i j k l m n o a p q r s t u b b A v w x y z (((a+c):Nat):Int))),(dM (aj d e f g h i j k l m n o a p q r s t u b b A v w x y z (((a+c):Nat):Int))),(dN (aj d e f g h i j k l m n o a p q r s t u b b A v w x y z (((a+c):Nat):Int))),(dO (aj d e f g h i j k l m n o a p q r s t u b b A v w x y z (((a+c):Nat):Int))),(dP (aj d e f g h i j k l m n o a p q r s t u b b A v w x y z (((a+c):Nat):Int))),(dQ (aj d e f g h i j k l m n o a p q r s t u b b A v w x y z (((a+c):Nat):Int))),(dR (aj d e f g h i j k l m n o a p q r s t u b b A v w x y z (((a+c):Nat):Int))),((List.take B E)++(List.take 1 [(v3 (List.getD D (Int.toNat C) 0) F)])),(dS (aj d e f g h i j k l m n o a p q r s t u b b A v w x y z (((a+c):Nat):Int))),(dT (aj d e f g h i j k l m n o a p q r s t u b b A v w x y z (((a+c):Nat):Int))),(dU (aj d e f g h i j k l m n o a p q r s t u b b A v w x y z (((a+c):Nat):Int))),(dV (aj d e f g h i j k l m n o a p q r s t u b b A v w x y z (((a+c):Nat):Int))),(dW (aj d e f g h i j k l m n o a p q r s t u b b A v w x y z (((a+c):Nat):Int)))))
def um(a:Nat)(b:Nat)(c:Int)(d:Nat)(e:Nat)(f:Nat)(g:Nat)(h:Int)(i:Int)(j:Nat)(k:Nat)(l:Nat)(m:Nat)(n:Nat)(o:Nat)(p:Nat)(q:List Nat)(r:List Nat)(s:List Nat)(t:List Int)(u:List Int)(v:List Nat)(w:Int)(x:Int)(y:Nat)(z:Nat)(A:List Nat) :T ((Nat×Nat×Nat×Int×Nat×Nat×Nat×Nat×Int×Int×Nat×Nat×Nat×Nat×Nat×Nat×Nat×(List Nat)×(List Nat)×(List Nat)×(List Int)×(List Int)×(List Nat)×Int×Int×Nat×Nat×(List Nat))⊕((Nat×Nat×Int×Nat×Nat×Nat×Nat×Int×Int×Nat×Nat×Nat×Nat×Nat×Nat×Nat×(List Nat)×(List Nat)×(List Nat)×(List Int)×(List Int)×(List Nat)×Int×Int×Nat×Nat×(List Nat))⊕(ab))) :=
  .need (fq .i64 (((a+1):Nat):Int))<|.leaf (.inl (b,b,(a+1),c,d,e,f,g,h,i,j,k,l,m,n,o,p,q,r,s,t,u,v,w,x,y,z,A))
def iO(a:Nat)(I:Nat)(d:Nat)(J:Nat)(e:List Nat)(K:List Nat)(c:Nat)(f:List Int)(g:List Nat)(L:List Nat) :Nat×Nat×Nat×Int×Nat×Nat×Nat×Nat×Int×Int×Nat×Nat×Nat×Nat×Nat×Nat×Nat×(List Nat)×(List Nat)×(List Nat)×(List Int)×(List Int)×(List Nat)×Int×Int×Nat×Nat×(List Nat)→Option ((Nat×Nat×Nat×Int×Nat×Nat×Nat×Nat×Int×Int×Nat×Nat×Nat×Nat×Nat×Nat×Nat×(List Nat)×(List Nat)×(List Nat)×(List Int)×(List Int)×(List Nat)×Int×Int×Nat×Nat×(List Nat))⊕((Nat×Nat×Int×Nat×Nat×Nat×Nat×Int×Int×Nat×Nat×Nat×Nat×Nat×Nat×Nat×(List Nat)×(List Nat)×(List Nat)×(List Int)×(List Int)×(List Nat)×Int×Int×Nat×Nat×(List Nat))⊕(ab))):=fun (h,M,b,i,j,k,l,m,n,o,p,q,r,s,t,u,v,w,x,y,z,A,B,C,D,E,F,G) =>
  bd ((ud c h M b i j k l m n o p q r s t u v w x y z A B C D E F G).run) fun _ =>
  bd (vO (bd ((uf a c f g b).run) fun (N,O,P) =>
  bd (cm (iM a I d J e K c f g L b) (0,P)) fun H =>
  bd ((ui a H).run) fun Q =>
  bd ((uj).run) fun _ =>
  bd (cm (iN a Q) (0,H)) fun R =>
  (ul a d e h b i j k l m n o p q r s t u v w x y z A B C D E F G N O R).run)) fun (S,T,U,V,W,X,Y,Z,a0,a1,a2,a3,a4,a5,a6,a7,a8,a9,b0,b1,b2,b3,b4,b5,b6,b7) =>
  (um b S T U V W X Y Z a0 a1 a2 a3 a4 a5 a6 a7 a8 a9 b0 b1 b2 b3 b4 b5 b6 b7).run
theorem Bi(T:Int)(U:Nat)(V:Nat)(W:Nat)(X:Nat)(Y:Int)(Z:Int)(a0:Nat)(a1:Nat)(a2:Nat)(a:Nat)(a3:Nat)(a4:Nat)(a5:Nat)(a6:List Nat)(a7:List Nat)(a8:List Nat)(a9:List Int)(b0:List Int)(b:Nat)(c:Nat)(l:Nat)(d:Nat)(m:Nat)(e:List Nat)(f:List Nat)(g:Nat)(h:Nat)(n:Nat)(o:Nat)(i:List Int)(j:List Nat)(k:List Nat)(q:Nat)(r:Nat)(p:Nat)(s:Int)(t:Nat)(u:Nat)(v:Nat)(w:Nat)(x:Int)(y:Int)(z:Nat)(A:Nat)(B:Nat)(C:Nat)(D:Nat)(E:Nat)(F:Nat)(G:List Nat)(H:List Nat)(I:List Nat)(J:List Int)(K:List Int)(L:List Nat)(M:Int)(N:Int)(O:Nat)(P:Nat)(Q:List Nat) :Sg prog [.vs [.int .i64 T,.sl 1 1 1 0 U V,.sl 2 1 1 0 W X,.int .i64 Y,.int .i64 Z,.sl 3 1 1 0 a0 a1,.flt false a2,.sl 4 1 1 0 a a3,.sl 5 1 1 0 a4 a5],.fl a6,.fl a7,.fl a8,.ns .i64 a9,.ns .i64 b0] uc (kT a b c l d m e f g h n o i j k (q,r,p,s,t,u,v,w,x,y,z,A,B,C,D,E,F,G,H,I,J,K,L,M,N,O,P,Q)) (iO a b c d e f h i j k (q,r,p,s,t,u,v,w,x,y,z,A,B,C,D,E,F,G,H,I,J,K,L,M,N,O,P,Q)) (kT a b c l d m e f g h n o i j k) (bW 10 (kU g) cW):=by
  unfold iO;exact Sg.cut 2 (ao aA) (cy ac (CS a b c l d m e f g h n o i j k q r p s t u v w x y z A B C D E F G H I J K L M N O P Q) [⟨[],[0,1,2,3,4,5,6,7,8,9,10,11,12,13,14,15],[1,4,5,6,7,10,11,17,18,190,191,192]⟩,⟨[],[0,1,2,3,4,5,6,7,8,13],[1,5,6,10]⟩]) (fun _=>Sg.cut 1 (ao aA) (UG (kV a b c l d m e f g h n o i j k p) 11 (ao aA) (bY (by decide) (db _)) (Sg.cut 3 (ao (ao aA)) (cy ac (CT a b c l d m e f g h n o i j k q r p s t u v w x y z A B C D E F G H I J K L M N O P Q) [⟨[],[0,1,2,3,4,5,6,7,8,9,10,11,64,144,12,13,14,15,128],[1,4,5,6,7,10,11,17,18,23,24,25,190,191,192,199,200]⟩]) (fun ⟨R,S,b7⟩=>Sg.cut 1 (ao (ao aA)) (yB ⟨[],[0,1,2,3,4,5,6,7,8,9,10,11,12,13,14,15,16,17,18],[1,4,5,6,7,10,11,17,18,23,24,25,190,191,192,199,200]⟩ (kW a b c l d m e f g h n o i j k q r p s t u v w x y z A B C D E F G H I J K L M N O P Q R S) (vh a b c l d m e f g h n o i j k q r p s t u v w x y z A B C D E F G H I J K L M N O P Q R S) 12 (ao (ao aA)) (bY (by decide) (bY (by decide) (db _))) (fun ⟨b3,b4⟩=>Bf T U V W X Y Z a0 a1 a2 a a3 a4 a5 a6 a7 a8 a9 b0 b c l d m e f g h n o i j k q r p s t u v w x y z A B C D E F G H I J K L M N O P Q R S b3 b4)) (fun b2=>Sg.cut 1 (ao (ao aA)) (cy ac (CV a b c l d m e f g h n o i j k q r p s t u v w x y z A B C D E F G H I J K L M N O P Q R S b2) [⟨[],[0,1,2,3,4,5,6,7,8,9,10,11,12,13,14,15,16,17,18],[1,4,5,6,7,10,11,17,18,23,24,25,27,190,191,192]⟩]) (fun b1=>Sg.cut 1 (ao (ao aA)) (cy ac (CW a b c l d m e f g h n o i j k q r p s t u v w x y z A B C D E F G H I J K L M N O P Q R S b2 b1) [⟨[],[0,1,2,3,4,5,6,7,8,9,10,11,12,13,14,15,16,17,18],[1,4,5,6,7,10,11,17,18,23,24,25,27,190,191,192,219,220]⟩]) (fun _=>Sg.cut 1 (ao (ao aA)) (yB ⟨[],[0,1,2,3,4,5,6,7,8,9,10,11,12,13,14,15,16,17,18],[1,4,5,6,7,10,11,17,18,23,24,25,27,190,191,192,219,220]⟩ (kX a b c l d m e f g h n o i j k q r p s t u v w x y z A B C D E F G H I J K L M N O P Q R S b1) (vi a b c l d m e f g h n o i j k q r p s t u v w x y z A B C D E F G H I J K L M N O P Q R S) 14 (ao (ao aA)) (bY (by decide) (bY (by decide) (db _))) (fun ⟨b5,b6⟩=>Bh T U V W X Y Z a0 a1 a2 a a3 a4 a5 a6 a7 a8 a9 b0 b c l d m e f g h n o i j k q r p s t u v w x y z A B C D E F G H I J K L M N O P Q R S b1 b5 b6)) (fun b8=>cy ac (kV a b c l d m e f g h n o i j k p) [⟨[],[0,1,2,3,4,5,6,195,8,9,10,11,14,15,16,17],[1,4,5,6,7,10,11,17,18,190,191,192]⟩]))))))) (fun ⟨b9,c0,c1,c2,c3,c4,c5,c6,c7,c8,c9,d0,d1,d2,d3,d4,d5,d6,d7,d8,d9,e0,e1,e2,e3,e4⟩=>cy ac (kT a b c l d m e f g h n o i j k) [⟨[],[0,1,2,3,4,5,6,7,8,9,10,11,12,13,14,15],[1,4,5,6,7,10,11,17,18,190,191,192]⟩]))
def un(a:Nat)(b:Nat)(c:Nat)(d:Int)(e:Nat)(f:Nat)(g:Nat)(h:Nat)(i:Int)(j:Int)(k:Nat)(l:Nat)(m:Nat)(n:Nat)(o:Nat)(p:Nat)(q:Nat)(r:List Nat)(s:List Nat)(t:List Nat)(u:List Int)(v:List Int)(w:List Nat)(x:Int)(y:Int)(z:Nat)(A:Nat)(B:List Nat) :T ((Nat×Nat×Nat×Int×Nat×Nat×Nat×Nat×Int×Int×Nat×Nat×Nat×Nat×Nat×Nat×Nat×(List Nat)×(List Nat)×(List Nat)×(List Int)×(List Int)×(List Nat)×Int×Int×Nat×Nat×(List Nat))⊕(ab)) :=
  .leaf (.inl (b,c,a,d,e,f,g,h,i,j,k,l,m,n,o,p,q,r,s,t,u,v,w,x,y,z,A,B))
def uo(a:Nat)(b:Nat)(c:Int)(d:Nat)(e:Nat)(f:Nat)(g:Nat)(h:Int)(i:Int)(j:Nat)(k:Nat)(l:Nat)(m:Nat)(n:Nat)(o:Nat)(p:Nat)(q:List Nat)(r:List Nat)(s:List Nat)(t:List Int)(u:List Int)(v:List Nat)(w:Int)(x:Int)(y:Nat)(z:Nat)(A:List Nat) :T ((Nat×Nat×Nat×Int×Nat×Nat×Nat×Nat×Int×Int×Nat×Nat×Nat×Nat×Nat×Nat×Nat×(List Nat)×(List Nat)×(List Nat)×(List Int)×(List Int)×(List Nat)×Int×Int×Nat×Nat×(List Nat))⊕(ab)) :=
  .leaf (.inl (a,b,0,c,d,e,f,g,h,i,j,k,l,m,n,o,p,q,r,s,t,u,v,w,x,y,z,A))
def uq(a:Nat)(b:Nat)(c:Nat)(d:Int)(e:Nat)(f:Nat)(g:Nat)(h:Nat)(i:Nat)(j:Nat)(k:Nat)(l:List Nat)(m:List Nat)(n:List Nat)(o:List Int)(p:List Int)(q:List Nat)(r:Int)(s:Int)(t:Nat)(u:Nat)(v:List Nat) :T ((Empty)⊕(ab)) :=
  .leaf (.inr (.r1 c d a b e f r s t u g h i j k l m n o p q v))
def ay(c:Int)(M:Nat)(N:Nat)(O:Nat)(P:Nat)(Q:Int)(R:Int)(S:Nat)(T:Nat)(U:Nat)(b:Nat)(V:Nat)(z:Nat)(W:Nat)(X:List Nat)(Y:List Nat)(Z:List Nat)(a0:List Int)(a2:List Int) :Option ab:=toX (bd ((va c).run) fun (A,a3) =>
  bd (cm (jc z) (0,0,0,c,M,N,O,P,Q,R,S,T,U,b,V,z,W,X,Y,Z,a0,a2,([]:List Nat),c,c,A,A,a3)) fun (B,C,j,d,k,e,l,m,n,o,p,a,f,q,r,s,g,h,t,i,u,D,E,F,G,H,I) =>
  bd ((tK b).run) fun a4 =>
  bd ((bif a4 then bd ((tL).run) fun _ =>
  bd (cm (iI d e f g h i) (0,0,0,0,0,([]:List Nat),([]:List Nat))) fun (v,f9,w,g0,x,y) =>
  bd ((tN a v w x y).run) fun (a5,a6,J,g1,g2,K,L) =>
  bd ((tO b j d k e l m n o p a f q r s g h t i u a6).run) fun a7 =>
  bd (cm (iL b a v w x y J K L) (0,a7)) fun a8 =>
  bd ((ub).run) fun _ =>
  bd (cm (iO b a v w x y J K L a8) (B,C,0,j,d,k,e,l,m,n,o,p,a,f,q,r,s,g,h,t,i,u,D,E,F,G,H,I)) fun (a9,b0,b1,b2,b3,b4,b5,b6,b7,b8,b9,c0,c1,c2,c3,c4,c5,c6,c7,c8,c9,d0,d1,d2,d3,d4,d5) =>
  (un a5 a9 b0 b1 b2 b3 b4 b5 b6 b7 b8 b9 c0 c1 c2 c3 c4 c5 c6 c7 c8 c9 d0 d1 d2 d3 d4 d5).run else (uo B C j d k e l m n o p a f q r s g h t i u D E F G H I).run)) fun (d6,d7,d8,d9,g3,g4,e0,e1,g5,g6,g7,g8,e2,e3,e4,e5,e6,e7,e8,e9,f0,f1,f2,f3,f4,f5,f6,f7) =>
  (uq d6 d7 d8 d9 e0 e1 e2 e3 e4 e5 e6 e7 e8 e9 f0 f1 f2 f3 f4 f5 f6 f7).run)
theorem vW(P:Int)(Q:Nat)(R:Nat)(S:Nat)(T:Nat)(U:Int)(V:Int)(W:Nat)(X:Nat)(Y:Nat)(a:Nat)(Z:Nat)(G:Nat)(H:Nat)(a0:List Nat)(a2:List Nat)(a3:List Nat)(a4:List Int)(a5:List Int){x:ab}(h:ay P Q R S T U V W X Y a Z G H a0 a2 a3 a4 a5=some x) :aI prog lU [.vs [.int .i64 P,.sl 1 1 1 0 Q R,.sl 2 1 1 0 S T,.int .i64 U,.int .i64 V,.sl 3 1 1 0 W X,.flt false Y,.sl 4 1 1 0 a Z,.sl 5 1 1 0 G H],.fl a0,.fl a2,.fl a3,.ns .i64 a4,.ns .i64 a5] [.ptr 0 1 0 0] (mU x) :=
  IB false mU cW h (Sg.cut 5 aA (cy ac (Dx P Q R S T U V W X Y a Z G H a0 a2 a3 a4 a5) [⟨[],[0,1,2,3,4,5,6,230,214],[1,4,5,6,7,43,44,45]⟩]) (fun ⟨i0,i1⟩=>Sg.cut 1 aA (yB ⟨[(.slot 5,.own 1 1 (.fl ([]:List Nat)))],[0,1,2,3,4,5,6,9,7,8],[1,4,5,6,7,43,44,45]⟩ (lD a G H) (vV a) 0 aA (db _) (fun ⟨b2,b3,b4,b5,b6,b7,b8,b9,c0,c1,c2,c3,c4,c5,c6,c7,c8,c9,d0,d1,d2,d3,d4,d5,d6,d7,d8,d9⟩=>CE P Q R S T U V W X Y a Z G H a0 a2 a3 a4 a5 b2 b3 b4 b5 b6 b7 b8 b9 c0 c1 c2 c3 c4 c5 c6 c7 c8 c9 d0 d1 d2 d3 d4 d5 d6 d7 d8 d9)) (fun ⟨e,f,g,i,j,k,l,m,n,o,p,d,q,r,s,t,u,v,w,y,z,A,B,C,D,E,F⟩=>Sg.cut 2 aA (cy ac (CF a e f g i j k l m n o p d q r s t u v w y z A B C D E F) [⟨[],[0,1,2,3,4,5,6,7,8,9],[1,4,5,6,7,10,66]⟩]) (fun e0=>Sg.cut 1 aA (C7 (c:=.tmp 66) (kn:=false) (b:=e0) (by kernel_rfl:((((jb.drop 5).drop 1).drop 2).take 1)=[.cond (.tmp 66) (IA ((((((jb.drop 5).drop 1).drop 2).take 1)).headD .skip)) (No ((((((jb.drop 5).drop 1).drop 2).take 1)).headD .skip))]) aA (by kernel_rfl) (Sg.cut 2 aA (cy ac (CG a e f g i j k l m n o p d q r s t u v w y z A B C D E F) [⟨[],[0,1,2,3,4,5,6,7,8,90,9],[1,4,5,6,7,11,75,76,77]⟩]) (fun _=>Sg.cut 1 aA (yB ⟨[(.cell 9 0,.own 1 1 (.fl ([]:List Nat))),(.cell 9 1,.own 1 1 (.fl ([]:List Nat)))],[0,1,2,3,4,5,6,7,8,9,10,11,12],[1,4,5,6,7,11,75,76,77]⟩ (kN a e f g i j k l m n o p d q r s t u v w y z A B C D E F) (ve a e f g i j k l m n o p d q r s t u v w y z A B C D E F) 2 aA (db _) (fun ⟨e1,e2,e3,e4,e5,e6,e7⟩=>A8 P Q R S T U V W X Y a Z G H a0 a2 a3 a4 a5 e f g i j k l m n o p d q r s t u v w y z A B C D E F e1 e2 e3 e4 e5 e6 e7)) (fun ⟨I,J,K,L,M,N⟩=>Sg.cut 1 aA (cy ac (CH a e f g i j k l m n o p d q r s t u v w y z A B C D E F I J K L M N) [⟨[],[0,1,2,3,4,5,6,7,8,9,109,10,11,12,29],[1,4,5,6,7,11,14,15,16]⟩]) (fun ⟨O,i2,a6,a7,a8,a9,b0⟩=>Sg.cut 6 aA (cy ac (CI a e f g i j k l m n o p d q r s t u v w y z A B C D E F I J K L M N O a6 a7 a8 a9 b0) [⟨[],[0,1,2,3,4,5],[2,3]⟩,⟨[],[0,1,2,3,4,5,6,7,8,9,10,127,11,12,13,14],[1,4,5,6,7,10,11,14,17,18,118,119]⟩]) (fun i3=>Sg.cut 1 aA (yB ⟨[],[0,1,2,3,4,5,6,7,8,9,10,11,12,13,14,15],[1,4,5,6,7,10,11,14,17,18,118,119]⟩ (kO a e f g i j k l m n o p d q r s t u v w y z A B C D E F I J K L M N O a6 a7 a8 a9 b0) (kP a e f g i j k l m n o p d q r s t u v w y z A B C D E F I J K L M N O a6 a7 a8 a9 b0) 4 aA (db _) (fun ⟨e8,e9⟩=>Bd P Q R S T U V W X Y a Z G H a0 a2 a3 a4 a5 e f g i j k l m n o p d q r s t u v w y z A B C D E F I J K L M N O a6 a7 a8 a9 b0 e8 e9)) (fun b1=>Sg.cut 1 aA (cy ac (CR a e f g i j k l m n o p d q r s t u v w y z A B C D E F I J K L M N O a6 a7 a8 a9 b0 b1) [⟨[],[0,1,2,3,4,5,6,7,8,9,10,11,15,12,13,14],[1,4,5,6,7,10,11,17,18,190,191,192]⟩]) (fun _=>Sg.cut 1 aA (yB ⟨[],[0,1,2,3,4,5,6,7,8,9,10,11,12,13,14,15],[1,4,5,6,7,10,11,17,18,190,191,192]⟩ (kT a d I J K L M N O a6 a7 a8 a9 b0 b1) (kU O) 10 aA (db _) (fun ⟨f0,f1,f2,f3,f4,f5,f6,f7,f9,g0,g1,g2,g3,g4,g5,g6,g7,g8,g9,h0,h1,h2,h3,h4,h5,h6,h7,h8⟩=>Bi P Q R S T U V W X Y a Z G H a0 a2 a3 a4 a5 d I J K L M N O a6 a7 a8 a9 b0 b1 f0 f1 f2 f3 f4 f5 f6 f7 f9 g0 g1 g2 g3 g4 g5 g6 g7 g8 g9 h0 h1 h2 h3 h4 h5 h6 h7 h8)) (fun ⟨i4,i5,i6,i7,i9,j0,j1,j2,j3,j4,j5,j6,j7,j8,j9,k0,k1,k2,k3,k4,k5,k6,k7,k8,k9,m0,m1⟩=>cy ac vd [⟨[],[0,1,2,3,4,5,6,7,8,9],[1,5,6,10]⟩])))))))) (cy ac vd [⟨[],[0,1,2,3,4,5,6,7,8,9],[1,5,6,10]⟩])) (fun ⟨m2,m3,m4,m5,m6,m7,m8,m9,n0,n1,n2,n3,n4,n5,n6,n7,n8,n9,o0,o1,o2,o3,o4,o5,o6,o7,o8,o9⟩=>cy ac G3 [⟨[],[0,1,2,3,4,5,7,9],[2,3]⟩])))))
    (fun x=>by cases x with | r0 p0 p1 p2 p3 p4 p5 p6 p7 p8 p9 q0 q1 q2 q3 q4 q5 q6 q7 q8=>exact Fi [.int .i64 (0:Int),.int .i64 (7:Int)] | r1 h9 q9 s0 s1 s2 s3 s4 s5 s6 s7 s8 s9 t0 t1 t2 t3 t4 t5 t6 t7 t8 t9=>exact Fi [.int .i64 ((h9:Nat):Int),.int .i64 (0:Int)])
def lE:Option ab→Bool
  | some (.r0 _ _ _ _ _ _ _ _ _ _ _ _ _ _ _ _ _ _ _)=>true
  | _=>false
def pv:Option ab→Int
  | some (.r0 x _ _ _ _ _ _ _ _ _ _ _ _ _ _ _ _ _ _)=>x
  | _=>0
def pw:Option ab→Nat
  | some (.r0 _ x _ _ _ _ _ _ _ _ _ _ _ _ _ _ _ _ _)=>x
  | _=>0
def px:Option ab→Nat
  | some (.r0 _ _ x _ _ _ _ _ _ _ _ _ _ _ _ _ _ _ _)=>x
  | _=>0
def py:Option ab→Nat
  | some (.r0 _ _ _ x _ _ _ _ _ _ _ _ _ _ _ _ _ _ _)=>x
  | _=>0
def pz:Option ab→Nat
  | some (.r0 _ _ _ _ x _ _ _ _ _ _ _ _ _ _ _ _ _ _)=>x
  | _=>0
def pA:Option ab→Int
  | some (.r0 _ _ _ _ _ x _ _ _ _ _ _ _ _ _ _ _ _ _)=>x
  | _=>0
def pB:Option ab→Int
  | some (.r0 _ _ _ _ _ _ x _ _ _ _ _ _ _ _ _ _ _ _)=>x
  | _=>0
def pC:Option ab→Nat
  | some (.r0 _ _ _ _ _ _ _ x _ _ _ _ _ _ _ _ _ _ _)=>x
  | _=>0
def pD:Option ab→Nat
  | some (.r0 _ _ _ _ _ _ _ _ x _ _ _ _ _ _ _ _ _ _)=>x
  | _=>0
def pE:Option ab→Nat
  | some (.r0 _ _ _ _ _ _ _ _ _ x _ _ _ _ _ _ _ _ _)=>x
  | _=>0
def oG:Option ab→Nat
  | some (.r0 _ _ _ _ _ _ _ _ _ _ x _ _ _ _ _ _ _ _)=>x
  | _=>0
def oH:Option ab→Nat
  | some (.r0 _ _ _ _ _ _ _ _ _ _ _ x _ _ _ _ _ _ _)=>x
  | _=>0
def oI:Option ab→Nat
  | some (.r0 _ _ _ _ _ _ _ _ _ _ _ _ x _ _ _ _ _ _)=>x
  | _=>0
def oJ:Option ab→Nat
  | some (.r0 _ _ _ _ _ _ _ _ _ _ _ _ _ x _ _ _ _ _)=>x
  | _=>0
def oK:Option ab→List Nat
  | some (.r0 _ _ _ _ _ _ _ _ _ _ _ _ _ _ x _ _ _ _)=>x
  | _=>[]
def oL:Option ab→List Nat
  | some (.r0 _ _ _ _ _ _ _ _ _ _ _ _ _ _ _ x _ _ _)=>x
  | _=>[]
def oM:Option ab→List Nat
  | some (.r0 _ _ _ _ _ _ _ _ _ _ _ _ _ _ _ _ x _ _)=>x
  | _=>[]
def oN:Option ab→List Int
  | some (.r0 _ _ _ _ _ _ _ _ _ _ _ _ _ _ _ _ _ x _)=>x
  | _=>[]
def oO:Option ab→List Int
  | some (.r0 _ _ _ _ _ _ _ _ _ _ _ _ _ _ _ _ _ _ x)=>x
  | _=>[]
theorem Dz{x:Option ab}(h:lE x=true) :x=some (.r0 (pv x) (pw x) (px x) (py x) (pz x) (pA x) (pB x) (pC x) (pD x) (pE x) (oG x) (oH x) (oI x) (oJ x) (oK x) (oL x) (oM x) (oN x) (oO x)):=by
  unfold lE at h
  split at h<;>first | rfl | (cases h;done) | (rename_i y;cases y;rfl)
def lF:Option ab→Bool
  | some (.r1 _ _ _ _ _ _ _ _ _ _ _ _ _ _ _ _ _ _ _ _ _ _)=>true
  | _=>false
def pF:Option ab→Nat
  | some (.r1 x _ _ _ _ _ _ _ _ _ _ _ _ _ _ _ _ _ _ _ _ _)=>x
  | _=>0
def pG:Option ab→Int
  | some (.r1 _ x _ _ _ _ _ _ _ _ _ _ _ _ _ _ _ _ _ _ _ _)=>x
  | _=>0
def pH:Option ab→Nat
  | some (.r1 _ _ x _ _ _ _ _ _ _ _ _ _ _ _ _ _ _ _ _ _ _)=>x
  | _=>0
def pI:Option ab→Nat
  | some (.r1 _ _ _ x _ _ _ _ _ _ _ _ _ _ _ _ _ _ _ _ _ _)=>x
  | _=>0
def pJ:Option ab→Nat
  | some (.r1 _ _ _ _ x _ _ _ _ _ _ _ _ _ _ _ _ _ _ _ _ _)=>x
  | _=>0
def pK:Option ab→Nat
  | some (.r1 _ _ _ _ _ x _ _ _ _ _ _ _ _ _ _ _ _ _ _ _ _)=>x
  | _=>0
def pL:Option ab→Int
  | some (.r1 _ _ _ _ _ _ x _ _ _ _ _ _ _ _ _ _ _ _ _ _ _)=>x
  | _=>0
def pM:Option ab→Int
  | some (.r1 _ _ _ _ _ _ _ x _ _ _ _ _ _ _ _ _ _ _ _ _ _)=>x
  | _=>0
def pN:Option ab→Nat
  | some (.r1 _ _ _ _ _ _ _ _ x _ _ _ _ _ _ _ _ _ _ _ _ _)=>x
  | _=>0
def pO:Option ab→Nat
  | some (.r1 _ _ _ _ _ _ _ _ _ x _ _ _ _ _ _ _ _ _ _ _ _)=>x
  | _=>0
def oP:Option ab→Nat
  | some (.r1 _ _ _ _ _ _ _ _ _ _ x _ _ _ _ _ _ _ _ _ _ _)=>x
  | _=>0
def oQ:Option ab→Nat
  | some (.r1 _ _ _ _ _ _ _ _ _ _ _ x _ _ _ _ _ _ _ _ _ _)=>x
  | _=>0
def oR:Option ab→Nat
  | some (.r1 _ _ _ _ _ _ _ _ _ _ _ _ x _ _ _ _ _ _ _ _ _)=>x
  | _=>0
def oS:Option ab→Nat
  | some (.r1 _ _ _ _ _ _ _ _ _ _ _ _ _ x _ _ _ _ _ _ _ _)=>x
  | _=>0
def oT:Option ab→Nat
  | some (.r1 _ _ _ _ _ _ _ _ _ _ _ _ _ _ x _ _ _ _ _ _ _)=>x
  | _=>0
def sL:Option ab→List Nat
  | some (.r1 _ _ _ _ _ _ _ _ _ _ _ _ _ _ _ x _ _ _ _ _ _)=>x
  | _=>[]
def oU:Option ab→List Nat
  | some (.r1 _ _ _ _ _ _ _ _ _ _ _ _ _ _ _ _ x _ _ _ _ _)=>x
  | _=>[]
def sM:Option ab→List Nat
  | some (.r1 _ _ _ _ _ _ _ _ _ _ _ _ _ _ _ _ _ x _ _ _ _)=>x
  | _=>[]
def oV:Option ab→List Int
  | some (.r1 _ _ _ _ _ _ _ _ _ _ _ _ _ _ _ _ _ _ x _ _ _)=>x
  | _=>[]
def oW:Option ab→List Int
  | some (.r1 _ _ _ _ _ _ _ _ _ _ _ _ _ _ _ _ _ _ _ x _ _)=>x
  | _=>[]
def oX:Option ab→List Nat
  | some (.r1 _ _ _ _ _ _ _ _ _ _ _ _ _ _ _ _ _ _ _ _ x _)=>x
  | _=>[]
def oY:Option ab→List Nat
  | some (.r1 _ _ _ _ _ _ _ _ _ _ _ _ _ _ _ _ _ _ _ _ _ x)=>x
  | _=>[]
theorem DA{x:Option ab}(h:lF x=true) :x=some (.r1 (pF x) (pG x) (pH x) (pI x) (pJ x) (pK x) (pL x) (pM x) (pN x) (pO x) (oP x) (oQ x) (oR x) (oS x) (oT x) (sL x) (oU x) (sM x) (oV x) (oW x) (oX x) (oY x)):=by
  unfold lF at h
  split at h<;>first | rfl | (cases h;done) | (rename_i y;cases y;rfl)
def wM:bC:=yz lU [.vs [.int .i64,.lsl0 1,.lsl0 2,.int .i64,.int .i64,.lsl0 3,.flt,.lsl0 4,.lsl0 5],.fl,.fl,.fl,.ns .i64,.ns .i64] (.cons (.lptr 0 1 0 0) .nil) fun x t=>(fun q=>[⟨mU (.r0 (pv q) (pw q) (px q) (py q) (pz q) (pA q) (pB q) (pC q) (pD q) (pE q) (oG q) (oH q) (oI q) (oJ q) (oK q) (oL q) (oM q) (oN q) (oO q)),[lE q]⟩,⟨mU (.r1 (pF q) (pG q) (pH q) (pI q) (pJ q) (pK q) (pL q) (pM q) (pN q) (pO q) (oP q) (oQ q) (oR q) (oS q) (oT q) (sL q) (oU q) (sM q) (oV q) (oW q) (oX q) (oY q)),[lF q]⟩]) (ay x.1.1 x.1.2.1.1 x.1.2.1.2 x.1.2.2.1.1 x.1.2.2.1.2 x.1.2.2.2.1 x.1.2.2.2.2.1 x.1.2.2.2.2.2.1.1 x.1.2.2.2.2.2.1.2 x.1.2.2.2.2.2.2.1 x.1.2.2.2.2.2.2.2.1.1 x.1.2.2.2.2.2.2.2.1.2 x.1.2.2.2.2.2.2.2.2.1.1 x.1.2.2.2.2.2.2.2.2.1.2 x.2.1 x.2.2.1 x.2.2.2.1 x.2.2.2.2.1 x.2.2.2.2.2.1)
theorem Bj:cg prog wM:=nR fun x t=>(jG (fun h=>vW x.1.1 x.1.2.1.1 x.1.2.1.2 x.1.2.2.1.1 x.1.2.2.1.2 x.1.2.2.2.1 x.1.2.2.2.2.1 x.1.2.2.2.2.2.1.1 x.1.2.2.2.2.2.1.2 x.1.2.2.2.2.2.2.1 x.1.2.2.2.2.2.2.2.1.1 x.1.2.2.2.2.2.2.2.1.2 x.1.2.2.2.2.2.2.2.2.1.1 x.1.2.2.2.2.2.2.2.2.1.2 x.2.1 x.2.2.1 x.2.2.2.1 x.2.2.2.2.1 x.2.2.2.2.2.1 (Dz h)) (jG (fun h=>vW x.1.1 x.1.2.1.1 x.1.2.1.2 x.1.2.2.1.1 x.1.2.2.1.2 x.1.2.2.2.1 x.1.2.2.2.2.1 x.1.2.2.2.2.2.1.1 x.1.2.2.2.2.2.1.2 x.1.2.2.2.2.2.2.1 x.1.2.2.2.2.2.2.2.1.1 x.1.2.2.2.2.2.2.2.1.2 x.1.2.2.2.2.2.2.2.2.1.1 x.1.2.2.2.2.2.2.2.2.1.2 x.2.1 x.2.2.1 x.2.2.2.1 x.2.2.2.2.1 x.2.2.2.2.2.1 (DA h)) nS))
def qY:List bC:=wM::iE
theorem ur:cR prog (cX qY):=aZ Bj ac
inductive aF where
  | r0 (a:Nat) (b:Nat) (c:Nat) (d:List Nat) (e:Int) (f:Int) (g:Nat) (h:List Nat)
def vj:aF→AE×aW
  | .r0 a c d e f g b h=>(.ret,⟨aw 167 [(2,.sl 0 1 1 0 a a),(3,.ptr 1 1 0 0),(4,.int .i64 ((c:Nat):Int)),(5,.int .i64 ((d:Nat):Int))],[(0,.fl e),(1,.vs [.int .i64 f,.int .i64 g,.sl 2 1 1 0 b b]),(2,.fl h)],3⟩)
theorem cq:ye vj:=by intro x;cases x<;>(intro h;cases h)
theorem Gc(id:Nat) :rB id vj:=by intro x;cases x<;>(intro h;cases h)
def jr:aF→rU
  | .r0 a c d e f g b h=>⟨.tup [.sl 0 1 1 0 a a,.agg [.int .i64 f,.int .i64 g,.sl 1 1 1 0 b b],.int .i64 ((c:Nat):Int),.int .i64 ((d:Nat):Int)],[some (.fl e),some (.fl h)]⟩
def oZ:Option aF→Bool
  | some _=>true
  | none=>false
def nA:Option aF→Nat
  | some (.r0 x _ _ _ _ _ _ _)=>x
  | _=>0
def nB:Option aF→Nat
  | some (.r0 _ x _ _ _ _ _ _)=>x
  | _=>0
def nC:Option aF→Nat
  | some (.r0 _ _ x _ _ _ _ _)=>x
  | _=>0
def nD:Option aF→List Nat
  | some (.r0 _ _ _ x _ _ _ _)=>x
  | _=>[]
def nF:Option aF→Int
  | some (.r0 _ _ _ _ x _ _ _)=>x
  | _=>0
def nG:Option aF→Int
  | some (.r0 _ _ _ _ _ x _ _)=>x
  | _=>0
def nH:Option aF→Nat
  | some (.r0 _ _ _ _ _ _ x _)=>x
  | _=>0
def nI:Option aF→List Nat
  | some (.r0 _ _ _ _ _ _ _ x)=>x
  | _=>[]
theorem Gd{x:Option aF}(h:oZ x=true) :x=some (.r0 (nA x) (nB x) (nC x) (nD x) (nF x) (nG x) (nH x) (nI x)):=by
  unfold oZ at h
  split at h<;>first | rfl | (cases h;done) | (rename_i y;cases y;rfl)
def EP(R:(List Nat)→(List Nat)→Option aF) :bC:=mW jq (.cons (.agg (.cons .fl (.cons .fl .nil))) .nil) fun t=>(fun q=>[⟨jr (.r0 (nA q) (nB q) (nC q) (nD q) (nF q) (nG q) (nH q) (nI q)),[oZ q]⟩]) (R t.1.1.2 t.1.2.1.2)
theorem IL{R:(List Nat)→(List Nat)→Option aF}(hR:∀  (c:Lv) (a:List Nat) (d:Lv) (b:List Nat) {x:aF},R a b=some x→aI prog jq [] [.agg [.imm c (.fl a) 1 1 0 (List.length a),.imm d (.fl b) 1 1 0 (List.length b)]] (jr x)) :cg prog (EP R):=ff fun t=>(fg (fun h=>hR t.1.1.1 t.1.1.2 t.1.2.1.1 t.1.2.1.2 (Gd h)) gr)
def Mb(R:(List Nat)→(List Nat)→Option aF) :List bC:=EP R::qY
theorem bA{R:(List Nat)→(List Nat)→Option aF}(hR:∀  (c:Lv) (a:List Nat) (d:Lv) (b:List Nat) {x:aF},R a b=some x→aI prog jq [] [.agg [.imm c (.fl a) 1 1 0 (List.length a),.imm d (.fl b) 1 1 0 (List.length b)]] (jr x)) :cR prog (cX (Mb R)):=aZ (IL hR) ur
def jK:List Code:=cS (ri jq)
def N7(c:Lv)(a:List Nat)(d:Lv)(b:List Nat)(e:Bool) :aW:=⟨aw 167 [(1,.ptr 0 1 0 0),(3,.ptr 1 1 0 0),(4,.int .i64 (0:Int)),(6,.int .i64 (((List.length a):Nat):Int)),(27,.bool false e)],[(0,.vs [.imm c (.fl a) 1 1 0 (List.length a),.imm d (.fl b) 1 1 0 (List.length b)]),(1,.vs [.int .i64 (0:Int),.int .i64 (0:Int),.nsl])],2⟩
def za(a:List Nat) :T ((Bool)⊕(aF)) :=
  .leaf (.inl (decide ((((List.length a):Nat):Int)≤(2:Int))))
def Ge(c:Lv)(a:List Nat)(d:Lv)(b:List Nat)(_:Unit) :aW:=⟨aw 167 [(1,.ptr 0 1 0 0),(3,.ptr 1 1 0 0),(4,.int .i64 (0:Int)),(6,.int .i64 (((List.length a):Nat):Int))],[(0,.vs [.imm c (.fl a) 1 1 0 (List.length a),.imm d (.fl b) 1 1 0 (List.length b)]),(1,.vs [.int .i64 (0:Int),.int .i64 (0:Int),.nsl])],2⟩
def N8:Nat×Nat×Nat×(List Nat)×Int×Int×Nat×(List Nat)→aW:=fun (a,c,d,e,f,g,b,h)=>⟨aw 167 [(2,.sl 0 1 1 0 a a),(3,.ptr 1 1 0 0),(4,.int .i64 ((c:Nat):Int)),(5,.int .i64 ((d:Nat):Int))],[(0,.fl e),(1,.vs [.int .i64 f,.int .i64 g,.sl 2 1 1 0 b b]),(2,.fl h)],3⟩
def EQ(a:List Nat)(b:List Nat) :T ((Nat×Nat×Nat×(List Nat)×Int×Int×Nat×(List Nat))⊕(aF)) :=
  .need (wm (bi (((List.length a):Nat):Int)))<|.need (dg 0 (List.length a) a)<|.need (dg 0 (List.length b) b)<|.need (dg 0 (fL (bi (((List.length a):Nat):Int))) (fM (bi (((List.length a):Nat):Int))))<|.need (BB (km (az 0 (List.length a) a) (az 0 (List.length b) b) (cn (bi (((List.length a):Nat):Int))) (cn (bi (((List.length a):Nat):Int))) (az 0 (fL (bi (((List.length a):Nat):Int))) (fM (bi (((List.length a):Nat):Int))))))<|.leaf (.inl ((BZ (km (az 0 (List.length a) a) (az 0 (List.length b) b) (cn (bi (((List.length a):Nat):Int))) (cn (bi (((List.length a):Nat):Int))) (az 0 (fL (bi (((List.length a):Nat):Int))) (fM (bi (((List.length a):Nat):Int)))))),(B0 (km (az 0 (List.length a) a) (az 0 (List.length b) b) (cn (bi (((List.length a):Nat):Int))) (cn (bi (((List.length a):Nat):Int))) (az 0 (fL (bi (((List.length a):Nat):Int))) (fM (bi (((List.length a):Nat):Int)))))),(B2 (km (az 0 (List.length a) a) (az 0 (List.length b) b) (cn (bi (((List.length a):Nat):Int))) (cn (bi (((List.length a):Nat):Int))) (az 0 (fL (bi (((List.length a):Nat):Int))) (fM (bi (((List.length a):Nat):Int)))))),(B5 (km (az 0 (List.length a) a) (az 0 (List.length b) b) (cn (bi (((List.length a):Nat):Int))) (cn (bi (((List.length a):Nat):Int))) (az 0 (fL (bi (((List.length a):Nat):Int))) (fM (bi (((List.length a):Nat):Int)))))),(B6 (km (az 0 (List.length a) a) (az 0 (List.length b) b) (cn (bi (((List.length a):Nat):Int))) (cn (bi (((List.length a):Nat):Int))) (az 0 (fL (bi (((List.length a):Nat):Int))) (fM (bi (((List.length a):Nat):Int)))))),(B7 (km (az 0 (List.length a) a) (az 0 (List.length b) b) (cn (bi (((List.length a):Nat):Int))) (cn (bi (((List.length a):Nat):Int))) (az 0 (fL (bi (((List.length a):Nat):Int))) (fM (bi (((List.length a):Nat):Int)))))),(B8 (km (az 0 (List.length a) a) (az 0 (List.length b) b) (cn (bi (((List.length a):Nat):Int))) (cn (bi (((List.length a):Nat):Int))) (az 0 (fL (bi (((List.length a):Nat):Int))) (fM (bi (((List.length a):Nat):Int)))))),(B9 (km (az 0 (List.length a) a) (az 0 (List.length b) b) (cn (bi (((List.length a):Nat):Int))) (cn (bi (((List.length a):Nat):Int))) (az 0 (fL (bi (((List.length a):Nat):Int))) (fM (bi (((List.length a):Nat):Int))))))))
def Mc(a:Nat)(b:Nat)(c:Nat)(d:List Nat)(e:Int)(f:Int)(g:Nat)(h:List Nat) :T ((Unit)⊕(aF)) :=
  .leaf (.inr (.r0 a b c d e f g h))
def ER:T ((Unit)⊕(aF)) :=
  .leaf (.inl ())
def N9(e:List Nat) :Nat×Nat×Nat×Nat×Nat×(List Nat)×(List Nat)×(List Nat)×(List Nat)→aW:=fun (f,a,b,c,d,g,h,i,j)=>⟨aw 167 [(3,.ptr 0 1 0 0),(4,.int .i64 (0:Int)),(6,.int .i64 (((List.length e):Nat):Int)),(7,.ptr 1 1 0 0),(8,.ptr 2 1 0 0),(9,.flt false f)],[(0,.vs [.int .i64 (0:Int),.int .i64 (0:Int),.nsl]),(1,.vs [.sl 3 1 1 0 a a,.sl 4 1 1 0 b b]),(2,.vs [.sl 5 1 1 0 c c,.sl 6 1 1 0 d d]),(3,.fl g),(4,.fl h),(5,.fl i),(6,.fl j)],7⟩
def vv(a:List Nat)(b:List Nat) :T ((Nat×Nat×Nat×Nat×Nat×(List Nat)×(List Nat)×(List Nat)×(List Nat))⊕(aF)) :=
  .need (dg 0 (List.length a) a)<|.need (dg 0 (List.length b) b)<|.need (yl (gC (az 0 (List.length a) a) (az 0 (List.length b) b)))<|.leaf (.inl ((yO (gC (az 0 (List.length a) a) (az 0 (List.length b) b))),(yP (gC (az 0 (List.length a) a) (az 0 (List.length b) b))),(yQ (gC (az 0 (List.length a) a) (az 0 (List.length b) b))),(yR (gC (az 0 (List.length a) a) (az 0 (List.length b) b))),(yS (gC (az 0 (List.length a) a) (az 0 (List.length b) b))),(yT (gC (az 0 (List.length a) a) (az 0 (List.length b) b))),(yU (gC (az 0 (List.length a) a) (az 0 (List.length b) b))),(yV (gC (az 0 (List.length a) a) (az 0 (List.length b) b))),(yW (gC (az 0 (List.length a) a) (az 0 (List.length b) b)))))
def Oa(e:List Nat)(f:Nat)(a:Nat)(b:Nat)(g:List Nat)(h:List Nat) :Nat×Nat×Nat×(List Nat)×Int×Int×Nat×(List Nat)→aW:=fun (i,c,j,k,l,m,d,n)=>⟨aw 167 [(3,.ptr 0 1 0 0),(4,.int .i64 (0:Int)),(5,.int .i64 ((i:Nat):Int)),(6,.int .i64 (((List.length e):Nat):Int)),(8,.ptr 1 1 0 0),(9,.flt false f),(10,.sl 2 1 1 0 c c),(11,.ptr 3 1 0 0),(12,.int .i64 ((j:Nat):Int))],[(0,.vs [.int .i64 (0:Int),.int .i64 (0:Int),.nsl]),(1,.vs [.sl 4 1 1 0 a a,.sl 5 1 1 0 b b]),(2,.fl k),(3,.vs [.int .i64 l,.int .i64 m,.sl 6 1 1 0 d d]),(4,.fl g),(5,.fl h),(6,.fl n)],7⟩
def pS(R:(List Nat)→(List Nat)→Option aF)(a:Nat)(b:Nat)(c:List Nat)(d:List Nat) :T ((Nat×Nat×Nat×(List Nat)×Int×Int×Nat×(List Nat))⊕(aF)) :=
  .need (dg 0 a c)<|.need (dg 0 b d)<|.need (oZ (R (az 0 a c) (az 0 b d)))<|.leaf (.inl ((nC (R (az 0 a c) (az 0 b d))),(nA (R (az 0 a c) (az 0 b d))),(nB (R (az 0 a c) (az 0 b d))),(nD (R (az 0 a c) (az 0 b d))),(nF (R (az 0 a c) (az 0 b d))),(nG (R (az 0 a c) (az 0 b d))),(nH (R (az 0 a c) (az 0 b d))),(nI (R (az 0 a c) (az 0 b d)))))
def Ob(e:List Nat)(f:Nat)(a:Nat)(g:Nat)(h:List Nat)(i:Int)(j:Int)(b:Nat)(k:List Nat) :Nat×Nat×Nat×(List Nat)×Int×Int×Nat×(List Nat)→aW:=fun (l,c,m,n,o,p,d,q)=>⟨aw 167 [(3,.ptr 0 1 0 0),(4,.int .i64 (0:Int)),(5,.int .i64 ((l:Nat):Int)),(6,.int .i64 (((List.length e):Nat):Int)),(9,.flt false f),(10,.sl 1 1 1 0 a a),(11,.ptr 2 1 0 0),(12,.int .i64 ((g:Nat):Int)),(13,.sl 3 1 1 0 c c),(14,.ptr 4 1 0 0),(15,.int .i64 ((m:Nat):Int))],[(0,.vs [.int .i64 (0:Int),.int .i64 (0:Int),.nsl]),(1,.fl h),(2,.vs [.int .i64 i,.int .i64 j,.sl 5 1 1 0 b b]),(3,.fl n),(4,.vs [.int .i64 o,.int .i64 p,.sl 6 1 1 0 d d]),(5,.fl k),(6,.fl q)],7⟩
def lJ(R:(List Nat)→(List Nat)→Option aF)(a:Nat)(b:Nat)(c:List Nat)(d:List Nat)(e:Nat) :T ((Nat×Nat×Nat×(List Nat)×Int×Int×Nat×(List Nat))⊕(aF)) :=
  .ask (((e:Nat):Int) != (0:Int))
    (.leaf (.inr (.r0 0 0 e ([]:List Nat) (0:Int) (0:Int) 0 ([]:List Nat))))
    (.need (dg 0 a c)<|.need (dg 0 b d)<|.need (oZ (R (az 0 a c) (az 0 b d)))<|.leaf (.inl ((nC (R (az 0 a c) (az 0 b d))),(nA (R (az 0 a c) (az 0 b d))),(nB (R (az 0 a c) (az 0 b d))),(nD (R (az 0 a c) (az 0 b d))),(nF (R (az 0 a c) (az 0 b d))),(nG (R (az 0 a c) (az 0 b d))),(nH (R (az 0 a c) (az 0 b d))),(nI (R (az 0 a c) (az 0 b d))))))
def Oc(b:List Nat)(g:Nat)(a:Nat)(h:Nat)(i:List Nat)(j:Int)(k:Int)(c:Nat)(l:List Nat)(d:Nat)(m:Nat)(n:List Nat)(o:Int)(p:Int)(e:Nat)(q:List Nat) :Nat×(List Nat)→aW:=fun (f,r)=>⟨aw 167 [(3,.ptr 0 1 0 0),(4,.int .i64 (0:Int)),(6,.int .i64 (((List.length b):Nat):Int)),(9,.flt false g),(10,.sl 1 1 1 0 a a),(11,.ptr 2 1 0 0),(12,.int .i64 ((h:Nat):Int)),(13,.sl 3 1 1 0 d d),(14,.ptr 4 1 0 0),(15,.int .i64 ((m:Nat):Int)),(16,.int .i64 ((a:Nat):Int)),(17,.ptr 5 1 0 0),(68,.int .i64 ((a:Nat):Int)),(69,.int .i64 (0:Int))],[(0,.vs [.int .i64 (0:Int),.int .i64 (0:Int),.nsl]),(1,.fl i),(2,.vs [.int .i64 j,.int .i64 k,.sl 6 1 1 0 c c]),(3,.fl n),(4,.vs [.int .i64 o,.int .i64 p,.sl 7 1 1 0 e e]),(5,.vs [.int .i64 (((List.length b):Nat):Int),.int .i64 (((List.length b):Nat):Int),.sl 8 1 1 0 f f]),(6,.fl l),(7,.fl q),(8,.fl r)],9⟩
def zb(a:List Nat)(b:Nat) :T ((Nat×(List Nat))⊕(aF)) :=
  .ask (((b:Nat):Int) != (0:Int))
    (.leaf (.inr (.r0 0 0 b ([]:List Nat) (0:Int) (0:Int) 0 ([]:List Nat))))
    (.need (fq .i64 ((((List.length a)*(List.length a)):Nat):Int))<|.need (decide ((0:Int)≤((((List.length a)*(List.length a)):Nat):Int)))<|.need (decide (((((List.length a)*(List.length a)):Nat):Int)≤((((List.length a)*(List.length a)):Nat):Int)))<|.need (decide ((8:Int)*((((List.length a)*(List.length a)):Nat):Int)≤140737488355328))<|.need (fq .i64 ((((List.length a)*(List.length a)):Nat):Int))<|.leaf (.inl (((List.length a)*(List.length a)),(List.replicate ((List.length a)*(List.length a)) 0))))
def wN(b:List Nat)(g:Nat)(a:Nat)(h:Nat)(i:List Nat)(j:Int)(k:Int)(c:Nat)(l:List Nat)(d:Nat)(m:Nat)(n:List Nat)(o:Int)(p:Int)(e:Nat)(q:List Nat)(f:Nat) :Nat×(List Nat)→aW:=fun (r,s)=>⟨aw 167 [(3,.ptr 0 1 0 0),(4,.int .i64 (0:Int)),(6,.int .i64 (((List.length b):Nat):Int)),(9,.flt false g),(10,.sl 1 1 1 0 a a),(11,.ptr 2 1 0 0),(12,.int .i64 ((h:Nat):Int)),(13,.sl 3 1 1 0 d d),(14,.ptr 4 1 0 0),(15,.int .i64 ((m:Nat):Int)),(16,.int .i64 ((a:Nat):Int)),(17,.ptr 5 1 0 0),(68,.int .i64 ((a:Nat):Int)),(69,.int .i64 ((r:Nat):Int))],[(0,.vs [.int .i64 (0:Int),.int .i64 (0:Int),.nsl]),(1,.fl i),(2,.vs [.int .i64 j,.int .i64 k,.sl 6 1 1 0 c c]),(3,.fl n),(4,.vs [.int .i64 o,.int .i64 p,.sl 7 1 1 0 e e]),(5,.vs [.int .i64 (((List.length b):Nat):Int),.int .i64 (((List.length b):Nat):Int),.sl 8 1 1 0 f f]),(6,.fl l),(7,.fl q),(8,.fl s)],9⟩
def ES(a:List Nat)(f:Nat)(b:Nat)(g:Nat)(h:List Nat)(c:Nat)(i:Nat)(j:List Nat)(k:Int)(l:Int)(d:Nat)(m:List Nat)(e:Nat)(n:(List Nat)) :aW:=⟨aw 167 [(3,.ptr 0 1 0 0),(4,.int .i64 (0:Int)),(6,.int .i64 (((List.length a):Nat):Int)),(9,.flt false f),(10,.sl 1 1 1 0 b b),(12,.int .i64 ((g:Nat):Int)),(13,.sl 2 1 1 0 c c),(14,.ptr 3 1 0 0),(15,.int .i64 ((i:Nat):Int)),(16,.int .i64 ((b:Nat):Int)),(17,.ptr 4 1 0 0)],[(0,.vs [.int .i64 (0:Int),.int .i64 (0:Int),.nsl]),(1,.fl h),(2,.fl j),(3,.vs [.int .i64 k,.int .i64 l,.sl 5 1 1 0 d d]),(4,.vs [.int .i64 (((List.length a):Nat):Int),.int .i64 (((List.length a):Nat):Int),.sl 6 1 1 0 e e]),(5,.fl m),(6,.fl n)],7⟩
def Md:List Code:=cS (dh (((((((((jK.drop 3).drop 1).drop 1).drop 1).drop 3).drop 5).take 1)).headD .skip))
def ET(c:List Nat)(b:Nat)(d:Nat)(e:List Nat)(g:Nat)(a:Nat)(f:List Nat) :T ((Nat×(List Nat))⊕(((List Nat))⊕(aF))) :=
  .ask (decide (((a:Nat):Int)<((b:Nat):Int)))
    (.need (fq .i64 (((a*(List.length c)):Nat):Int))<|.need (fq .i64 (((a*(List.length c)):Nat):Int))<|.need (fq .i64 ((((a*(List.length c))+b):Nat):Int))<|.need (AL ((((a*(List.length c))+b):Nat):Int) g)<|.need (AL (((a*(List.length c)):Nat):Int) ((a*(List.length c))+b))<|.need (fq .i64 (((a*b):Nat):Int))<|.need (AL ((d:Nat):Int) d)<|.need (AL (((a*b):Nat):Int) d)<|.need (kj (bV (a*b) (d-(a*b))) (List.length e))<|.need (kj ((a*(List.length c))+(Nat.min (d-(a*b)) (((a*(List.length c))+b)-(a*(List.length c))))) (List.length f))<|.need (kj (Nat.min (d-(a*b)) (((a*(List.length c))+b)-(a*(List.length c)))) (List.length (List.take (d-(a*b)) (r9 (a*b) e))))<|.need (fq .i64 (((a+1):Nat):Int))<|.leaf (.inl ((a+1),(WB f (a*(List.length c)) (Nat.min (d-(a*b)) (((a*(List.length c))+b)-(a*(List.length c)))) (List.take (d-(a*b)) (r9 (a*b) e))))))
    (.leaf (.inr (.inl f)))
def rp(a:List Nat)(b:Nat)(c:Nat)(d:List Nat)(e:Nat) :Nat×(List Nat)→Option ((Nat×(List Nat))⊕(((List Nat))⊕(aF))):=fun (f,g) =>
  (ET a b c d e f g).run
theorem Me(a:List Nat)(R:(List Nat)→(List Nat)→Option aF)(hR:∀  (u:Lv) (a:List Nat) (v:Lv) (p:List Nat) {x:aF},R a p=some x→aI prog jq [] [.agg [.imm u (.fl a) 1 1 0 (List.length a),.imm v (.fl p) 1 1 0 (List.length p)]] (jr x))(d:Nat)(b:Nat)(e:Nat)(f:List Nat)(q:Int)(r:Int)(g:Nat)(h:List Nat)(i:Nat)(j:Nat)(k:List Nat)(l:Int)(m:Int)(n:Nat)(o:List Nat)(c:Nat)(s:Nat)(t:List Nat) :Sg prog [] Md (wN a d b e f q r g h i j k l m n o c (s,t)) (rp a b g h c (s,t)) (wN a d b e f q r g h i j k l m n o c) (bW 0 (ES a d b e f i j k l m n o c) vj):=by
  unfold rp;exact cy (bA hR) (wN a d b e f q r g h i j k l m n o c) [⟨[],[0,1,2,3,4,5,6,7,8],[3,4,6,9,10,11,12,13,14,15,16,17,68,69]⟩,⟨[],[0,1,3,4,5,7,8],[3,4,6,9,10,12,13,14,15,16,17]⟩]
def Mf(b:List Nat)(f:Nat)(a:Nat)(g:Nat)(h:List Nat)(c:Nat)(i:Nat)(j:List Nat)(k:Int)(l:Int)(d:Nat)(m:List Nat)(e:Nat)(n:List Nat)(_:Unit) :aW:=⟨aw 167 [(3,.ptr 0 1 0 0),(4,.int .i64 (0:Int)),(6,.int .i64 (((List.length b):Nat):Int)),(9,.flt false f),(10,.sl 1 1 1 0 a a),(12,.int .i64 ((g:Nat):Int)),(13,.sl 2 1 1 0 c c),(14,.ptr 3 1 0 0),(15,.int .i64 ((i:Nat):Int)),(16,.int .i64 ((a:Nat):Int)),(17,.ptr 4 1 0 0),(19,.int .i64 ((a:Nat):Int))],[(0,.vs [.int .i64 (0:Int),.int .i64 (0:Int),.nsl]),(1,.fl h),(2,.fl j),(3,.vs [.int .i64 k,.int .i64 l,.sl 5 1 1 0 d d]),(4,.vs [.int .i64 (((List.length b):Nat):Int),.int .i64 (((List.length b):Nat):Int),.sl 6 1 1 0 e e]),(5,.fl m),(6,.fl n)],7⟩
def EU:T ((Unit)⊕(aF)) :=
  .leaf (.inl ())
def vw(a:List Nat)(f:Nat)(b:Nat)(g:Nat)(h:List Nat)(c:Nat)(i:Nat)(j:List Nat)(k:Int)(l:Int)(d:Nat)(m:List Nat)(e:Nat) :Nat×(List Nat)→aW:=fun (n,o)=>⟨aw 167 [(3,.ptr 0 1 0 0),(4,.int .i64 (0:Int)),(6,.int .i64 (((List.length a):Nat):Int)),(9,.flt false f),(10,.sl 1 1 1 0 b b),(12,.int .i64 ((g:Nat):Int)),(13,.sl 2 1 1 0 c c),(14,.ptr 3 1 0 0),(15,.int .i64 ((i:Nat):Int)),(16,.int .i64 ((b:Nat):Int)),(17,.ptr 4 1 0 0),(19,.int .i64 ((n:Nat):Int))],[(0,.vs [.int .i64 (0:Int),.int .i64 (0:Int),.nsl]),(1,.fl h),(2,.fl j),(3,.vs [.int .i64 k,.int .i64 l,.sl 5 1 1 0 d d]),(4,.vs [.int .i64 (((List.length a):Nat):Int),.int .i64 (((List.length a):Nat):Int),.sl 6 1 1 0 e e]),(5,.fl m),(6,.fl o)],7⟩
def EV(a:List Nat)(e:Nat)(b:Nat)(f:Nat)(g:List Nat)(c:Nat)(h:Nat)(i:List Nat)(d:Nat)(j:(List Nat)) :aW:=⟨aw 167 [(3,.ptr 0 1 0 0),(4,.int .i64 (0:Int)),(6,.int .i64 (((List.length a):Nat):Int)),(9,.flt false e),(10,.sl 1 1 1 0 b b),(12,.int .i64 ((f:Nat):Int)),(13,.sl 2 1 1 0 c c),(15,.int .i64 ((h:Nat):Int)),(16,.int .i64 ((b:Nat):Int)),(17,.ptr 3 1 0 0)],[(0,.vs [.int .i64 (0:Int),.int .i64 (0:Int),.nsl]),(1,.fl g),(2,.fl i),(3,.vs [.int .i64 (((List.length a):Nat):Int),.int .i64 (((List.length a):Nat):Int),.sl 4 1 1 0 d d]),(4,.fl j)],5⟩
def Mg:List Code:=cS (dh (((((((((((jK.drop 3).drop 1).drop 1).drop 1).drop 3).drop 5).drop 1).drop 1).take 1)).headD .skip))
def Mh(a:List Nat)(f:Nat)(b:Nat)(g:Nat)(h:List Nat)(c:Nat)(i:Nat)(j:List Nat)(k:Int)(l:Int)(d:Nat)(m:List Nat)(e:Nat)(n:Nat)(o:(List Nat)) :aW:=⟨aw 167 [(3,.ptr 0 1 0 0),(4,.int .i64 (0:Int)),(6,.int .i64 (((List.length a):Nat):Int)),(9,.flt false f),(10,.sl 1 1 1 0 b b),(12,.int .i64 ((g:Nat):Int)),(13,.sl 2 1 1 0 c c),(14,.ptr 3 1 0 0),(15,.int .i64 ((i:Nat):Int)),(16,.int .i64 ((b:Nat):Int)),(17,.ptr 4 1 0 0),(19,.int .i64 ((n:Nat):Int))],[(0,.vs [.int .i64 (0:Int),.int .i64 (0:Int),.nsl]),(1,.fl h),(2,.fl j),(3,.vs [.int .i64 k,.int .i64 l,.sl 5 1 1 0 d d]),(4,.vs [.int .i64 (((List.length a):Nat):Int),.int .i64 (((List.length a):Nat):Int),.sl 6 1 1 0 e e]),(5,.fl m),(6,.fl o)],7⟩
def EW(c:List Nat)(a:Nat)(d:Nat)(e:List Nat)(g:Nat)(b:Nat)(f:List Nat) :T (((List Nat))⊕(((List Nat))⊕(aF))) :=
  .ask (decide (((b:Nat):Int)<(((List.length c):Nat):Int)))
    (.need (fq .i64 (((b*(List.length c)):Nat):Int))<|.need (fq .i64 ((((b*(List.length c))+a):Nat):Int))<|.need (fq .i64 (((b+1):Nat):Int))<|.need (fq .i64 ((((b+1)*(List.length c)):Nat):Int))<|.need (AL ((((b+1)*(List.length c)):Nat):Int) g)<|.need (AL ((((b*(List.length c))+a):Nat):Int) ((b+1)*(List.length c)))<|.need (fq .i64 (((b:Nat):Int)-((a:Nat):Int)))<|.need (fq .i64 ((((List.length c):Nat):Int)-((a:Nat):Int)))<|.need (fq .i64 ((((b:Nat):Int)-((a:Nat):Int))*((((List.length c):Nat):Int)-((a:Nat):Int))))<|.need (AL ((d:Nat):Int) d)<|.need (AL ((((b:Nat):Int)-((a:Nat):Int))*((((List.length c):Nat):Int)-((a:Nat):Int))) d)<|.need (kj (bV (Int.toNat ((((b:Nat):Int)-((a:Nat):Int))*((((List.length c):Nat):Int)-((a:Nat):Int)))) (d-(Int.toNat ((((b:Nat):Int)-((a:Nat):Int))*((((List.length c):Nat):Int)-((a:Nat):Int)))))) (List.length e))<|.need (kj (((b*(List.length c))+a)+(Nat.min (d-(Int.toNat ((((b:Nat):Int)-((a:Nat):Int))*((((List.length c):Nat):Int)-((a:Nat):Int))))) (((b+1)*(List.length c))-((b*(List.length c))+a)))) (List.length f))<|.need (kj (Nat.min (d-(Int.toNat ((((b:Nat):Int)-((a:Nat):Int))*((((List.length c):Nat):Int)-((a:Nat):Int))))) (((b+1)*(List.length c))-((b*(List.length c))+a))) (List.length (List.take (d-(Int.toNat ((((b:Nat):Int)-((a:Nat):Int))*((((List.length c):Nat):Int)-((a:Nat):Int))))) (r9 (Int.toNat ((((b:Nat):Int)-((a:Nat):Int))*((((List.length c):Nat):Int)-((a:Nat):Int)))) e))))<|.leaf (.inl (WB f ((b*(List.length c))+a) (Nat.min (d-(Int.toNat ((((b:Nat):Int)-((a:Nat):Int))*((((List.length c):Nat):Int)-((a:Nat):Int))))) (((b+1)*(List.length c))-((b*(List.length c))+a))) (List.take (d-(Int.toNat ((((b:Nat):Int)-((a:Nat):Int))*((((List.length c):Nat):Int)-((a:Nat):Int))))) (r9 (Int.toNat ((((b:Nat):Int)-((a:Nat):Int))*((((List.length c):Nat):Int)-((a:Nat):Int)))) e)))))
    (.leaf (.inr (.inl f)))
def EX(a:Nat)(b:List Nat) :T ((Nat×(List Nat))⊕(((List Nat))⊕(aF))) :=
  .need (fq .i64 (((a+1):Nat):Int))<|.leaf (.inl ((a+1),b))
def rq(b:List Nat)(c:Nat)(d:Nat)(e:List Nat)(f:Nat) :Nat×(List Nat)→Option ((Nat×(List Nat))⊕(((List Nat))⊕(aF))):=fun (a,g) =>
  bd ((EW b c d e f a g).run) fun h =>
  (EX a h).run
theorem Mi(a:List Nat)(R:(List Nat)→(List Nat)→Option aF)(hR:∀  (q:Lv) (a:List Nat) (r:Lv) (n:List Nat) {x:aF},R a n=some x→aI prog jq [] [.agg [.imm q (.fl a) 1 1 0 (List.length a),.imm r (.fl n) 1 1 0 (List.length n)]] (jr x))(d:Nat)(b:Nat)(e:Nat)(f:List Nat)(g:Nat)(h:Nat)(i:List Nat)(l:Int)(m:Int)(j:Nat)(k:List Nat)(c:Nat)(o:Nat)(p:List Nat) :Sg prog [] Mg (vw a d b e f g h i l m j k c (o,p)) (rq a b j k c (o,p)) (vw a d b e f g h i l m j k c) (bW 2 (EV a d b e f g h i c) vj):=by
  unfold rq;exact Sg.cut 3 (ao cq) (cy (bA hR) (Mh a d b e f g h i l m j k c o) [⟨[],[0,1,2,3,4,5,6],[3,4,6,9,10,12,13,14,15,16,17,19]⟩,⟨[],[0,1,2,4,6],[3,4,6,9,10,12,13,15,16,17]⟩]) (fun s=>cy (bA hR) (vw a d b e f g h i l m j k c) [⟨[],[0,1,2,3,4,5,6],[3,4,6,9,10,12,13,14,15,16,17,19]⟩])
def Mj(a:List Nat)(d:Nat)(e:Nat)(f:Nat)(g:Nat)(b:Nat)(h:List Nat) :Bool×Nat×(List Nat)→aW:=fun (i,c,j)=>⟨aw 167 [(3,.ptr 0 1 0 0),(4,.int .i64 (0:Int)),(9,.flt false d),(12,.int .i64 ((f:Nat):Int)),(15,.int .i64 ((g:Nat):Int)),(16,.int .i64 ((e:Nat):Int)),(20,.ptr 1 1 0 0),(129,.bool false i)],[(0,.vs [.int .i64 (0:Int),.int .i64 (0:Int),.nsl]),(1,.vs [.int .i64 (((List.length a):Nat):Int),.sl 2 1 1 0 c c,.nsl,.int .i64 (((List.length a):Nat):Int),.int .i64 (((List.length a):Nat):Int),.sl 3 1 1 0 b b,.flt false 0,.nsl,.nsl]),(2,.fl j),(3,.fl h)],4⟩
def EY(e:Nat)(a:Nat)(b:List Nat)(c:Nat)(d:List Nat) :T ((Bool×Nat×(List Nat))⊕(aF)) :=
  .need (dg 0 a b)<|.need (fw (List.length (az 0 a b)))<|.need (kj (((List.length (az 0 a b))+c)*8) 140737488355328)<|.need (kj ((List.length (az 0 a b))+c) 9223372036854775807)<|.need (kj c (List.length d))<|.need (kj (List.length (az 0 a b)) (List.length (az 0 a b)))<|.leaf (.inl ((zI e 0),((List.length (az 0 a b))+c),((List.take (List.length (az 0 a b)) (az 0 a b))++(List.take c d))))
def EZ(a:Nat)(b:Nat) :Nat×Int×Nat×Nat×Nat×Nat×Int×Int×Nat×Nat×Nat×Nat×Nat×Nat×Nat×(List Nat)×(List Nat)×(List Nat)×(List Int)×(List Int)→aW:=fun (c,d,e,f,g,h,i,j,k,l,m,n,o,p,q,r,s,t,u,v)=>⟨aw 167 [(3,.ptr 0 1 0 0),(4,.int .i64 ((c:Nat):Int)),(12,.int .i64 ((a:Nat):Int)),(15,.int .i64 ((b:Nat):Int)),(20,.ptr 1 1 0 0)],[(0,.vs [.int .i64 (0:Int),.int .i64 (0:Int),.nsl]),(1,.vs [.int .i64 d,.sl 2 1 1 0 e f,.sl 3 1 1 0 g h,.int .i64 i,.int .i64 j,.sl 4 1 1 0 k l,.flt false m,.sl 5 1 1 0 n o,.sl 6 1 1 0 p q]),(2,.fl r),(3,.fl s),(4,.fl t),(5,.ns .i64 u),(6,.ns .i64 v)],7⟩
def Mk(d:Nat)(e:Nat) :Int×Nat×Nat×Nat×(List Nat)×(List Nat)×(List Nat)→aW:=fun (b,a,c,f,g,h,i)=>⟨aw 167 [(3,.ptr 0 1 0 0),(12,.int .i64 ((d:Nat):Int)),(15,.int .i64 ((e:Nat):Int)),(20,.ptr 1 1 0 0)],[(0,.vs [.int .i64 (0:Int),.int .i64 (0:Int),.nsl]),(1,.vs [.int .i64 b,.sl 2 1 1 0 a a,.sl 3 1 1 0 a a,.int .i64 b,.int .i64 b,.sl 4 1 1 0 c c,.flt false f,.nsl,.nsl]),(2,.fl g),(3,.fl h),(4,.fl i)],5⟩
def E3(a:List Nat)(b:Nat)(c:Nat)(d:Nat)(e:List Nat)(f:Nat)(g:List Nat) :T ((Int×Nat×Nat×Nat×(List Nat)×(List Nat)×(List Nat))⊕(aF)) :=
  .need (jR (co (((List.length a):Nat):Int) f d g e ((c:Nat):Int) b))<|.leaf (.inl ((my (co (((List.length a):Nat):Int) f d g e ((c:Nat):Int) b)),(mz (co (((List.length a):Nat):Int) f d g e ((c:Nat):Int) b)),(mA (co (((List.length a):Nat):Int) f d g e ((c:Nat):Int) b)),(mB (co (((List.length a):Nat):Int) f d g e ((c:Nat):Int) b)),(mC (co (((List.length a):Nat):Int) f d g e ((c:Nat):Int) b)),(mD (co (((List.length a):Nat):Int) f d g e ((c:Nat):Int) b)),(mE (co (((List.length a):Nat):Int) f d g e ((c:Nat):Int) b))))
def Ml(a:Nat)(b:Nat) :Int×Nat×Nat×Nat×Nat×Int×Int×Nat×Nat×Nat×Nat×Nat×Nat×Nat×(List Nat)×(List Nat)×(List Nat)×(List Int)×(List Int)→aW:=fun (c,d,e,f,g,h,i,j,k,l,m,n,o,p,q,r,s,t,u)=>⟨aw 167 [(3,.ptr 0 1 0 0),(12,.int .i64 ((a:Nat):Int)),(15,.int .i64 ((b:Nat):Int)),(20,.ptr 1 1 0 0)],[(0,.vs [.int .i64 (0:Int),.int .i64 (0:Int),.nsl]),(1,.vs [.int .i64 c,.sl 2 1 1 0 d e,.sl 3 1 1 0 f g,.int .i64 h,.int .i64 i,.sl 4 1 1 0 j k,.flt false l,.sl 5 1 1 0 m n,.sl 6 1 1 0 o p]),(2,.fl q),(3,.fl r),(4,.fl s),(5,.ns .i64 t),(6,.ns .i64 u)],7⟩
def E4(b:Int)(a:Nat)(c:Nat)(d:Nat)(e:List Nat)(f:List Nat)(g:List Nat) :T ((Int×Nat×Nat×Nat×Nat×Int×Int×Nat×Nat×Nat×Nat×Nat×Nat×Nat×(List Nat)×(List Nat)×(List Nat)×(List Int)×(List Int))⊕(aF)) :=
  .need (lA (aX b a a a a b b c c d e f g))<|.leaf (.inl ((pf (aX b a a a a b b c c d e f g)),(pg (aX b a a a a b b c c d e f g)),(ph (aX b a a a a b b c c d e f g)),(pj (aX b a a a a b b c c d e f g)),(pk (aX b a a a a b b c c d e f g)),(pm (aX b a a a a b b c c d e f g)),(pn (aX b a a a a b b c c d e f g)),(po (aX b a a a a b b c c d e f g)),(pq (aX b a a a a b b c c d e f g)),(pr (aX b a a a a b b c c d e f g)),(ou (aX b a a a a b b c c d e f g)),(ov (aX b a a a a b b c c d e f g)),(ow (aX b a a a a b b c c d e f g)),(ox (aX b a a a a b b c c d e f g)),(oy (aX b a a a a b b c c d e f g)),(oz (aX b a a a a b b c c d e f g)),(oD (aX b a a a a b b c c d e f g)),(oE (aX b a a a a b b c c d e f g)),(oF (aX b a a a a b b c c d e f g))))
def Mm(a:Nat)(b:Nat) :Nat×Nat×Int×Nat×Nat×Nat×Nat×Int×Int×Nat×Nat×Nat×Nat×Nat×Nat×Nat×(List Nat)×(List Nat)×(List Nat)×(List Int)×(List Int)→aW:=fun (c,d,e,f,g,h,i,j,k,l,m,n,o,p,q,r,s,t,u,v,w)=>⟨aw 167 [(3,.ptr 0 1 0 0),(12,.int .i64 ((a:Nat):Int)),(15,.int .i64 ((b:Nat):Int)),(20,.ptr 1 1 0 0),(21,.int .i64 ((c:Nat):Int)),(22,.int .i64 ((d:Nat):Int))],[(0,.vs [.int .i64 (0:Int),.int .i64 (0:Int),.nsl]),(1,.vs [.int .i64 e,.sl 2 1 1 0 f g,.sl 3 1 1 0 h i,.int .i64 j,.int .i64 k,.sl 4 1 1 0 l m,.flt false n,.sl 5 1 1 0 o p,.sl 6 1 1 0 q r]),(2,.fl s),(3,.fl t),(4,.fl u),(5,.ns .i64 v),(6,.ns .i64 w)],7⟩
def zc(a:Int)(b:Nat)(c:Nat)(d:Nat)(e:Nat)(f:Int)(g:Int)(h:Nat)(i:Nat)(j:Nat)(k:Nat)(l:Nat)(m:Nat)(n:Nat)(o:List Nat)(p:List Nat)(q:List Nat)(r:List Int)(s:List Int) :T ((Nat×Nat×Int×Nat×Nat×Nat×Nat×Int×Int×Nat×Nat×Nat×Nat×Nat×Nat×Nat×(List Nat)×(List Nat)×(List Nat)×(List Int)×(List Int))⊕(aF)) :=
  .alt 0
    (.need (lE (ay a b c d e f g h i j k l m n o p q r s))<|.leaf (.inl (0,7,(pv (ay a b c d e f g h i j k l m n o p q r s)),(pw (ay a b c d e f g h i j k l m n o p q r s)),(px (ay a b c d e f g h i j k l m n o p q r s)),(py (ay a b c d e f g h i j k l m n o p q r s)),(pz (ay a b c d e f g h i j k l m n o p q r s)),(pA (ay a b c d e f g h i j k l m n o p q r s)),(pB (ay a b c d e f g h i j k l m n o p q r s)),(pC (ay a b c d e f g h i j k l m n o p q r s)),(pD (ay a b c d e f g h i j k l m n o p q r s)),(pE (ay a b c d e f g h i j k l m n o p q r s)),(oG (ay a b c d e f g h i j k l m n o p q r s)),(oH (ay a b c d e f g h i j k l m n o p q r s)),(oI (ay a b c d e f g h i j k l m n o p q r s)),(oJ (ay a b c d e f g h i j k l m n o p q r s)),(oK (ay a b c d e f g h i j k l m n o p q r s)),(oL (ay a b c d e f g h i j k l m n o p q r s)),(oM (ay a b c d e f g h i j k l m n o p q r s)),(oN (ay a b c d e f g h i j k l m n o p q r s)),(oO (ay a b c d e f g h i j k l m n o p q r s)))))
    (.alt 1
      (.need (lF (ay a b c d e f g h i j k l m n o p q r s))<|.leaf (.inl ((pF (ay a b c d e f g h i j k l m n o p q r s)),0,(pG (ay a b c d e f g h i j k l m n o p q r s)),(pH (ay a b c d e f g h i j k l m n o p q r s)),(pI (ay a b c d e f g h i j k l m n o p q r s)),(pJ (ay a b c d e f g h i j k l m n o p q r s)),(pK (ay a b c d e f g h i j k l m n o p q r s)),(pL (ay a b c d e f g h i j k l m n o p q r s)),(pM (ay a b c d e f g h i j k l m n o p q r s)),(pN (ay a b c d e f g h i j k l m n o p q r s)),(pO (ay a b c d e f g h i j k l m n o p q r s)),(oP (ay a b c d e f g h i j k l m n o p q r s)),(oQ (ay a b c d e f g h i j k l m n o p q r s)),(oR (ay a b c d e f g h i j k l m n o p q r s)),(oS (ay a b c d e f g h i j k l m n o p q r s)),(oT (ay a b c d e f g h i j k l m n o p q r s)),(oX (ay a b c d e f g h i j k l m n o p q r s)),(oU (ay a b c d e f g h i j k l m n o p q r s)),(oY (ay a b c d e f g h i j k l m n o p q r s)),(oV (ay a b c d e f g h i j k l m n o p q r s)),(oW (ay a b c d e f g h i j k l m n o p q r s)))))
      (.fail))
def zd(b:Nat)(a:Nat)(c:Int)(d:Nat)(e:Nat)(f:Nat)(g:Nat)(h:Int)(i:Int)(j:Nat)(k:Nat)(l:Nat)(m:Nat)(n:Nat)(o:Nat)(p:Nat)(q:List Nat)(r:List Nat)(s:List Nat)(t:List Int)(u:List Int) :T ((Nat×Int×Nat×Nat×Nat×Nat×Int×Int×Nat×Nat×Nat×Nat×Nat×Nat×Nat×(List Nat)×(List Nat)×(List Nat)×(List Int)×(List Int))⊕(aF)) :=
  .ask (((a:Nat):Int) != (0:Int))
    (.leaf (.inr (.r0 0 0 a ([]:List Nat) (0:Int) (0:Int) 0 ([]:List Nat))))
    (.leaf (.inl (b,c,d,e,f,g,h,i,j,k,l,m,n,o,p,q,r,s,t,u)))
def E5(a:List Nat)(b:Nat)(d:List Nat)(c:Nat)(e:List Nat) :T ((Nat×Int×Nat×Nat×Nat×Nat×Int×Int×Nat×Nat×Nat×Nat×Nat×Nat×Nat×(List Nat)×(List Nat)×(List Nat)×(List Int)×(List Int))⊕(aF)) :=
  .leaf (.inl (0,(((List.length a):Nat):Int),c,c,0,0,(((List.length a):Nat):Int),(((List.length a):Nat):Int),b,b,0,0,0,0,0,e,([]:List Nat),d,([]:List Int),([]:List Int)))
def Mn(c:Nat)(d:Nat)(e:Nat) :Nat×Nat×(List Nat)×Int×Int×Nat×(List Nat)→aW:=fun (a,f,g,h,i,b,j)=>⟨aw 167 [(2,.sl 0 1 1 0 a a),(3,.ptr 1 1 0 0),(4,.int .i64 ((e:Nat):Int)),(5,.int .i64 ((f:Nat):Int)),(12,.int .i64 ((c:Nat):Int)),(15,.int .i64 ((d:Nat):Int))],[(0,.fl g),(1,.vs [.int .i64 h,.int .i64 i,.sl 2 1 1 0 b b]),(2,.fl j)],3⟩
def E6(a:Nat)(e:Int)(f:Int)(b:Nat)(c:List Nat)(d:List Nat) :T ((Nat×Nat×(List Nat)×Int×Int×Nat×(List Nat))⊕(aF)) :=
  .need (dg 0 a c)<|.need (dg 0 b d)<|.need (wq (fo (az 0 a c) e f (az 0 b d)))<|.leaf (.inl ((ws (fo (az 0 a c) e f (az 0 b d))),(wt (fo (az 0 a c) e f (az 0 b d))),(wu (fo (az 0 a c) e f (az 0 b d))),(wv (fo (az 0 a c) e f (az 0 b d))),(ww (fo (az 0 a c) e f (az 0 b d))),(wx (fo (az 0 a c) e f (az 0 b d))),(wy (fo (az 0 a c) e f (az 0 b d)))))
def ze(a:Nat)(c:Nat)(b:Nat)(d:Nat)(e:Nat)(f:List Nat)(g:Int)(h:Int)(i:Nat)(j:List Nat) :T ((Empty)⊕(aF)) :=
  .need (fq .i64 (((b+a):Nat):Int))<|.need (fq .i64 ((((b+a)+c):Nat):Int))<|.leaf (.inr (.r0 d ((b+a)+c) e f g h i j))
def kY(R:(List Nat)→(List Nat)→Option aF)(a:List Nat)(d:List Nat) :Option aF:=toX (bd ((za a).run) fun i =>
  bd ((bif i then bd ((EQ a d).run) fun (j,k,l,m,n,o,p,q) =>
  (Mc j k l m n o p q).run else (ER).run)) fun _ =>
  bd ((vv a d).run) fun (e,r,s,t,u,v,w,x,y) =>
  bd ((pS R r s v w).run) fun (z,b,A,B,f2,f3,C,D) =>
  bd ((lJ R t u x y z).run) fun (E,F,G,H,f4,f5,I,J) =>
  bd ((zb a E).run) fun (c,K) =>
  bd (cm (rp a b C D c) (0,K)) fun L =>
  bd ((EU).run) fun _ =>
  bd (cm (rq a b I J c) (b,L)) fun f =>
  bd ((EY e b B F H).run) fun (M,g,h) =>
  bd ((bif M then bd ((E3 a e b c f g h).run) fun (N,O,P,Q,S,T,U) =>
  bd ((E4 N O P Q S T U).run) fun (V,W,X,Y,Z,a0,a1,a2,a3,a4,a5,a6,a7,a9,b0,b2,b3,b4,b5) =>
  bd ((zc V W X Y Z a0 a1 a2 a3 a4 a5 a6 a7 a9 b0 b2 b3 b4 b5).run) fun (b6,b7,b8,b9,c0,c1,c2,c3,c4,c5,c6,c7,c8,c9,d0,d1,d2,d3,d4,d5,d6) =>
  (zd b6 b7 b8 b9 c0 c1 c2 c3 c4 c5 c6 c7 c8 c9 d0 d1 d2 d3 d4 d5 d6).run else (E5 a c f g h).run)) fun (d7,f6,d8,f7,f9,g0,d9,e0,e1,g1,g2,g3,g4,g5,g6,e2,g7,e3,g8,g9) =>
  bd ((E6 d8 d9 e0 e1 e2 e3).run) fun (e5,e6,e7,e8,e9,f0,f1) =>
  (ze A G d7 e5 e6 e7 e8 e9 f0 f1).run)
def dc:Nat→(List Nat)→(List Nat)→Option aF
  | 0,_,_=>none
  | k+1,a,b=>kY (dc k) a b
theorem Mo{R:(List Nat)→(List Nat)→Option aF}(hR:∀  (r:Lv) (a:List Nat) (s:Lv) (g:List Nat) {x:aF},R a g=some x→aI prog jq [] [.agg [.imm r (.fl a) 1 1 0 (List.length a),.imm s (.fl g) 1 1 0 (List.length g)]] (jr x))(r:Lv)(a:List Nat)(s:Lv)(g:List Nat){x:aF}(h:kY R a g=some x) :aI prog jq [] [.agg [.imm r (.fl a) 1 1 0 (List.length a),.imm s (.fl g) 1 1 0 (List.length g)]] (jr x) :=
  IB false jr vj h (Sg.cut 3 cq (cy (bA hR) (N7 r a s g) [⟨[],[0,32],[1,3,4,6,27]⟩]) (fun A=>Sg.cut 1 cq (C7 (c:=.tmp 27) (kn:=false) (b:=A) (by kernel_rfl:((jK.drop 3).take 1)=[.cond (.tmp 27) (IA ((((jK.drop 3).take 1)).headD .skip)) (No ((((jK.drop 3).take 1)).headD .skip))]) cq (by kernel_rfl) (Sg.cut 1 cq (cy (bA hR) N8 [⟨[],[50,1,51],[2,3,4,5]⟩]) (fun ⟨S,T,U,V,W,X,Y,Z⟩=>cy (bA hR) (Ge r a s g) [⟨[],[0,1,2],[2,3,4,5]⟩])) (cy (bA hR) (Ge r a s g) [⟨[],[0,1],[1,3,4,6]⟩])) (fun _=>Sg.cut 1 cq (cy (bA hR) (N9 a) [⟨[],[1,98,114,18,19,20,21],[3,4,6,7,8,9]⟩]) (fun ⟨f,a0,a1,B,C,a2,a3,D,E⟩=>Sg.cut 1 cq (cy (bA hR) (Oa a f B C D E) [⟨[],[0,2,23,119,5,6,24],[3,4,5,6,8,9,10,11,12]⟩]) (fun ⟨a4,i,d,j,t,u,v,w⟩=>Sg.cut 3 cq (cy (bA hR) (Ob a f i d j t u v w) [⟨[(.slot 2,.own 1 1 (.fl ([]:List Nat))),(.cell 0 2,.own 1 1 (.fl ([]:List Nat)))],[135,0,136],[2,3,4,5]⟩,⟨[],[0,2,3,55,151,6,56],[3,4,5,6,9,10,11,12,13,14,15]⟩]) (fun ⟨a5,k,e,l,n,o,p,q⟩=>Sg.cut 5 cq (cy (bA hR) (Oc a f i d j t u v w k e l n o p q) [⟨[(.slot 2,.own 1 1 (.fl ([]:List Nat))),(.cell 0 2,.own 1 1 (.fl ([]:List Nat)))],[135,0,136],[2,3,4,5]⟩,⟨[],[0,1,2,3,4,119,5,6,103],[3,4,6,9,10,11,12,13,14,15,16,17,68,69]⟩]) (fun ⟨m,a6⟩=>Sg.cut 1 cq (yB ⟨[],[0,1,2,3,4,5,6,7,8],[3,4,6,9,10,11,12,13,14,15,16,17,68,69]⟩ (wN a f i d j t u v w k e l n o p q m) (ES a f i d j k e l n o p q m) 0 cq (Gc _) (fun ⟨F,G⟩=>Me a R hR f i d j t u v w k e l n o p q m F G)) (fun H=>Sg.cut 1 cq (cy (bA hR) (Mf a f i d j k e l n o p q m H) [⟨[],[0,1,2,3,4,5,6],[3,4,6,9,10,12,13,14,15,16,17,19]⟩]) (fun _=>Sg.cut 1 cq (yB ⟨[],[0,1,2,3,4,5,6],[3,4,6,9,10,12,13,14,15,16,17,19]⟩ (vw a f i d j k e l n o p q m) (EV a f i d j k e l m) 2 cq (Gc _) (fun ⟨I,J⟩=>Mi a R hR f i d j k e l n o p q m I J)) (fun K=>Sg.cut 2 cq (cy (bA hR) (Mj a f i d e m K) [⟨[],[0,117,69,4],[3,4,9,12,15,16,20,129]⟩]) (fun ⟨L,a7,a9⟩=>Sg.cut 1 cq (C7 (c:=.tmp 129) (kn:=false) (b:=L) (by kernel_rfl:(((((((((((jK.drop 3).drop 1).drop 1).drop 1).drop 3).drop 5).drop 1).drop 1).drop 1).drop 2).take 1)=[.cond (.tmp 129) (IA (((((((((((((jK.drop 3).drop 1).drop 1).drop 1).drop 3).drop 5).drop 1).drop 1).drop 1).drop 2).take 1)).headD .skip)) (No (((((((((((((jK.drop 3).drop 1).drop 1).drop 1).drop 3).drop 5).drop 1).drop 1).drop 1).drop 2).take 1)).headD .skip))]) cq (by kernel_rfl) (Sg.cut 1 cq (cy (bA hR) (Mk d e) [⟨[],[0,1,52,53,54],[3,12,15,20]⟩]) (fun ⟨b0,b2,b3,b4,b5,b6,b7⟩=>Sg.cut 1 cq (cy (bA hR) (Ml d e) [⟨[],[0,1,2,3,4,21,22],[3,12,15,20]⟩]) (fun ⟨b8,b9,c0,c1,c2,c3,c4,c5,c6,c7,c8,c9,d0,d1,d2,d3,d4,d5,d6⟩=>Sg.cut 1 cq (cy (bA hR) (Mm d e) [⟨[],[0,1,2,3,4,5,6],[3,12,15,20,21,22]⟩,⟨[],[0,1,23,3,24,5,6],[3,12,15,20,21,22]⟩]) (fun ⟨d7,d8,d9,e0,e1,e2,e3,e5,e6,e7,e8,e9,f0,f1,f2,f3,f4,f5,f6,f7,f9⟩=>cy (bA hR) (EZ d e) [⟨[(.slot 2,.own 1 1 (.fl ([]:List Nat))),(.cell 0 2,.own 1 1 (.fl ([]:List Nat)))],[135,0,136],[2,3,4,5]⟩,⟨[],[0,1,2,3,4,5,6],[3,4,12,15,20]⟩])))) (cy (bA hR) (EZ d e) [⟨[(.cell 1 2,.own 1 1 (.fl ([]:List Nat))),(.cell 1 7,.own 1 1 (.ns .i64 ([]:List Int))),(.cell 1 8,.own 1 1 (.ns .i64 ([]:List Int)))],[0,1,2,4,3,5,6],[3,4,12,15,20]⟩])) (fun ⟨M,g0,g1,g2,g3,g4,g5,g6,g7,g8,g9,h0,h1,h2,h3,h4,h5,h6,h7,h8⟩=>Sg.cut 1 cq (cy (bA hR) (Mn d e M) [⟨[],[135,0,136],[2,3,4,5,12,15]⟩]) (fun ⟨h9,i0,i1,i2,i3,i4,i5⟩=>cy (bA hR) G3 [⟨[],[0,1,2],[2,3,4,5]⟩])))))))))))))
    (fun x=>by cases x with | r0 y N O i9 P Q z j0=>exact Fi [.sl 0 1 1 0 y y,.agg [.int .i64 P,.int .i64 Q,.sl 2 1 1 0 z z],.int .i64 ((N:Nat):Int),.int .i64 ((O:Nat):Int)])
theorem Gf:∀ (k:Nat) (c:Lv) (a:List Nat) (d:Lv) (b:List Nat) {x:aF},dc k a b=some x→aI prog jq [] [.agg [.imm c (.fl a) 1 1 0 (List.length a),.imm d (.fl b) 1 1 0 (List.length b)]] (jr x)
  | 0,_,_,_,_,_,h=>by cases h
  | k+1,c,a,d,b,_,h=>Mo (Gf k) c a d b h
def Ie(k:Nat) :bC:=mW jq (.cons (.agg (.cons .fl (.cons .fl .nil))) .nil) fun t=>(fun q=>[⟨jr (.r0 (nA q) (nB q) (nC q) (nD q) (nF q) (nG q) (nH q) (nI q)),[oZ q]⟩]) (dc k t.1.1.2 t.1.2.1.2)
theorem KG(k:Nat) :cg prog (Ie k):=ff fun t=>(fg (fun h=>Gf k t.1.1.1 t.1.1.2 t.1.2.1.1 t.1.2.1.2 (Gd h)) gr)
def If:List bC:=Ie 5::qY
theorem tq:cR prog (cX If):=aZ (KG 5) ur
inductive eS where
  | r0 (a:Nat) (b:Nat) (c:Nat) (d:List Nat) (e:Int) (f:Int) (g:Nat) (h:List Nat)
def Ig:eS→AE×aW
  | .r0 a c d e f g b h=>(.ret,⟨aw 30 [(2,.sl 0 1 1 0 a a),(3,.ptr 1 1 0 0),(4,.int .i64 ((c:Nat):Int)),(5,.int .i64 ((d:Nat):Int))],[(0,.fl e),(1,.vs [.int .i64 f,.int .i64 g,.sl 2 1 1 0 b b]),(2,.fl h)],3⟩)
theorem Gg:ye Ig:=by intro x;cases x<;>(intro h;cases h)
def CX:eS→rU
  | .r0 a c d e f g b h=>⟨.tup [.sl 0 1 1 0 a a,.agg [.int .i64 f,.int .i64 g,.sl 1 1 1 0 b b],.int .i64 ((c:Nat):Int),.int .i64 ((d:Nat):Int)],[some (.fl e),some (.fl h)]⟩
def Od(c:Lv)(a:List Nat)(d:Lv)(b:List Nat)(e:Nat) :aW:=⟨aw 30 [(1,.ptr 0 1 0 0),(3,.ptr 1 1 0 0),(6,.int .i64 ((e:Nat):Int))],[(0,.vs [.imm c (.fl a) 1 1 0 (List.length a),.imm d (.fl b) 1 1 0 (List.length b)]),(1,.vs [.int .i64 (0:Int),.int .i64 (0:Int),.nsl])],2⟩
def AD(a:List Nat)(b:List Nat) :T ((Nat)⊕(eS)) :=
  .need (dg 0 (List.length a) a)<|.need (dg 0 (List.length b) b)<|.need (wk (uC (az 0 (List.length a) a) (az 0 (List.length b) b)))<|.leaf (.inl (xF (uC (az 0 (List.length a) a) (az 0 (List.length b) b))))
def Oe:Nat×Nat×Nat×(List Nat)×Int×Int×Nat×(List Nat)→aW:=fun (a,c,d,e,f,g,b,h)=>⟨aw 30 [(3,.ptr 0 1 0 0),(7,.sl 1 1 1 0 a a),(8,.ptr 2 1 0 0),(9,.int .i64 ((c:Nat):Int)),(10,.int .i64 ((d:Nat):Int))],[(0,.vs [.int .i64 (0:Int),.int .i64 (0:Int),.nsl]),(1,.fl e),(2,.vs [.int .i64 f,.int .i64 g,.sl 3 1 1 0 b b]),(3,.fl h)],4⟩
def AF(a:List Nat)(b:List Nat)(c:Nat) :T ((Nat×Nat×Nat×(List Nat)×Int×Int×Nat×(List Nat))⊕(eS)) :=
  .ask (((c:Nat):Int) != (0:Int))
    (.leaf (.inr (.r0 0 0 c ([]:List Nat) (0:Int) (0:Int) 0 ([]:List Nat))))
    (.need (dg 0 (List.length a) a)<|.need (dg 0 (List.length b) b)<|.need (oZ (dc 5 (az 0 (List.length a) a) (az 0 (List.length b) b)))<|.leaf (.inl ((nA (dc 5 (az 0 (List.length a) a) (az 0 (List.length b) b))),(nB (dc 5 (az 0 (List.length a) a) (az 0 (List.length b) b))),(nC (dc 5 (az 0 (List.length a) a) (az 0 (List.length b) b))),(nD (dc 5 (az 0 (List.length a) a) (az 0 (List.length b) b))),(nF (dc 5 (az 0 (List.length a) a) (az 0 (List.length b) b))),(nG (dc 5 (az 0 (List.length a) a) (az 0 (List.length b) b))),(nH (dc 5 (az 0 (List.length a) a) (az 0 (List.length b) b))),(nI (dc 5 (az 0 (List.length a) a) (az 0 (List.length b) b))))))
def AG(a:Nat)(b:Nat)(c:Nat)(d:List Nat)(e:Int)(f:Int)(g:Nat)(h:List Nat) :T ((Empty)⊕(eS)) :=
  .ask (((c:Nat):Int) != (0:Int))
    (.leaf (.inr (.r0 0 0 7 ([]:List Nat) (0:Int) (0:Int) 0 ([]:List Nat))))
    (.leaf (.inr (.r0 a b 0 d e f g h)))
def cA(a:List Nat)(b:List Nat) :Option eS:=toX (bd ((AD a b).run) fun c =>
  bd ((AF a b c).run) fun (d,e,f,g,h,i,j,k) =>
  (AG d e f g h i j k).run)
theorem Of(c:Lv)(a:List Nat)(d:Lv)(b:List Nat){x:eS}(h:cA a b=some x) :aI prog Hv [] [.agg [.imm c (.fl a) 1 1 0 (List.length a),.imm d (.fl b) 1 1 0 (List.length b)]] (CX x) :=
  IB false CX Ig h (Sg.cut 2 Gg (cy tq (Od c a d b) [⟨[],[0,32],[1,3,6]⟩]) (fun l=>Sg.cut 3 Gg (cy tq Oe [⟨[(.slot 2,.own 1 1 (.fl ([]:List Nat))),(.cell 1 2,.own 1 1 (.fl ([]:List Nat)))],[130,1,131],[2,3,4,5]⟩,⟨[],[1,50,146,51],[3,7,8,9,10]⟩]) (fun ⟨m,n,o,p,q,r,s,t⟩=>cy tq G3 [⟨[(.slot 2,.own 1 1 (.fl ([]:List Nat))),(.cell 0 2,.own 1 1 (.fl ([]:List Nat)))],[116,0,117],[2,3,4,5]⟩,⟨[],[1,0,3],[2,3,4,5]⟩])))
    (fun x=>by cases x with | r0 e g i u j k f v=>exact Fi [.sl 0 1 1 0 e e,.agg [.int .i64 j,.int .i64 k,.sl 2 1 1 0 f f],.int .i64 ((g:Nat):Int),.int .i64 ((i:Nat):Int)])
def pa:Option eS→Bool
  | some _=>true
  | none=>false
def nJ:Option eS→Nat
  | some (.r0 x _ _ _ _ _ _ _)=>x
  | _=>0
def nK:Option eS→Nat
  | some (.r0 _ x _ _ _ _ _ _)=>x
  | _=>0
def nL:Option eS→Nat
  | some (.r0 _ _ x _ _ _ _ _)=>x
  | _=>0
def nM:Option eS→List Nat
  | some (.r0 _ _ _ x _ _ _ _)=>x
  | _=>[]
def DB:Option eS→Int
  | some (.r0 _ _ _ _ x _ _ _)=>x
  | _=>0
def DC:Option eS→Int
  | some (.r0 _ _ _ _ _ x _ _)=>x
  | _=>0
def DD:Option eS→Nat
  | some (.r0 _ _ _ _ _ _ x _)=>x
  | _=>0
def DE:Option eS→List Nat
  | some (.r0 _ _ _ _ _ _ _ x)=>x
  | _=>[]
theorem Og{x:Option eS}(h:pa x=true) :x=some (.r0 (nJ x) (nK x) (nL x) (nM x) (DB x) (DC x) (DD x) (DE x)):=by
  unfold pa at h
  split at h<;>first | rfl | (cases h;done) | (rename_i y;cases y;rfl)
def Ih:bC:=mW Hv (.cons (.agg (.cons .fl (.cons .fl .nil))) .nil) fun t=>(fun q=>[⟨CX (.r0 (nJ q) (nK q) (nL q) (nM q) (DB q) (DC q) (DD q) (DE q)),[pa q]⟩]) (cA t.1.1.2 t.1.2.1.2)
theorem KH:cg prog Ih:=ff fun t=>(fg (fun h=>Of t.1.1.1 t.1.1.2 t.1.2.1.1 t.1.2.1.2 (Og h)) gr)
def Ii:List bC:=Ih::If
theorem fO:cR prog (cX Ii):=aZ KH tq
inductive gg where
inductive qZ where
  | r0 (a:List Nat)
def tr:gg→AE×aW:=fun x=>nomatch x
theorem gz:ye tr:=by intro x;cases x<;>(intro h;cases h)
theorem yq(id:Nat) :rB id tr:=by intro x;cases x<;>(intro h;cases h)
def Eg:qZ→rU
  | .r0 a=>⟨.tup [],[some (.fl a)]⟩
def Gh(a:(List Nat)) :aW:=⟨aw 92 [],[(0,.fl a)],1⟩
def Oh:List Code:=cS (ri zx)
def Ph(c:List Nat)(d:Nat)(a:Nat)(e:Nat)(f:Int)(g:Int)(h:Lv)(b:List Nat)(_:Unit) :aW:=⟨aw 92 [(0,.sl 0 1 1 d a e),(3,.ptr 1 1 0 0),(4,.int .i64 ((a:Nat):Int)),(5,.int .i64 (0:Int))],[(0,.fl c),(1,.vs [.int .i64 f,.int .i64 g,.imm h (.fl b) 1 1 0 (List.length b)])],2⟩
def Gi:T ((Unit)⊕(gg)) :=
  .leaf (.inl ())
def wO(c:Nat)(a:Nat)(d:Nat)(e:Int)(f:Int)(g:Lv)(b:List Nat) :Nat×(List Nat)→aW:=fun (h,i)=>⟨aw 92 [(0,.sl 0 1 1 c a d),(3,.ptr 1 1 0 0),(4,.int .i64 ((a:Nat):Int)),(5,.int .i64 ((h:Nat):Int))],[(0,.fl i),(1,.vs [.int .i64 e,.int .i64 f,.imm g (.fl b) 1 1 0 (List.length b)])],2⟩
def wP(a:(List Nat)) :aW:=⟨aw 92 [],[(0,.fl a)],1⟩
def Gj:List Code:=cS (dh ((((Oh.drop 3).take 1)).headD .skip))
def Oi(c:Nat)(a:Nat)(d:Nat)(e:Int)(f:Int)(g:Lv)(b:List Nat)(h:Nat)(i:List Nat)(_:Unit) :aW:=⟨aw 92 [(0,.sl 0 1 1 c a d),(3,.ptr 1 1 0 0),(4,.int .i64 ((a:Nat):Int)),(5,.int .i64 ((h:Nat):Int))],[(0,.fl i),(1,.vs [.int .i64 e,.int .i64 f,.imm g (.fl b) 1 1 0 (List.length b)])],2⟩
def Gk(a:Nat)(b:Nat)(c:List Nat) :T ((Unit)⊕(((List Nat))⊕(gg))) :=
  .ask (decide (((b:Nat):Int)<((a:Nat):Int)))
    (.leaf (.inl ()))
    (.leaf (.inr (.inl c)))
def wQ(c:Nat)(a:Nat)(d:Nat)(e:Int)(f:Int)(g:Lv)(b:List Nat)(h:Nat)(i:(List Nat)) :aW:=⟨aw 92 [(0,.sl 0 1 1 c a d),(3,.ptr 1 1 0 0),(4,.int .i64 ((a:Nat):Int)),(5,.int .i64 ((h:Nat):Int))],[(0,.fl i),(1,.vs [.int .i64 e,.int .i64 f,.imm g (.fl b) 1 1 0 (List.length b)])],2⟩
def Gl:List Code:=cS (inBlock ((((Gj.drop 2).take 1)).headD .skip))
def Oj(d:Nat)(a:Nat)(e:Nat)(f:Int)(g:Int)(h:Lv)(b:List Nat)(c:Nat)(i:List Nat)(j:Nat) :aW:=⟨aw 92 [(0,.sl 0 1 1 d a e),(3,.ptr 1 1 0 0),(4,.int .i64 ((a:Nat):Int)),(5,.int .i64 ((c:Nat):Int)),(6,.int .i64 ((c:Nat):Int)),(7,.int .i64 ((j:Nat):Int))],[(0,.fl i),(1,.vs [.int .i64 f,.int .i64 g,.imm h (.fl b) 1 1 0 (List.length b)])],2⟩
def Gm(a:Nat) :T ((Nat)⊕(((List Nat))⊕(((List Nat))⊕(gg)))) :=
  .need (fq .i64 (((a+1):Nat):Int))<|.leaf (.inl (a+1))
def wR(c:Nat)(a:Nat)(d:Nat)(e:Int)(f:Int)(g:Lv)(b:List Nat)(h:Nat)(i:List Nat) :Nat×Nat→aW:=fun (j,k)=>⟨aw 92 [(0,.sl 0 1 1 c a d),(3,.ptr 1 1 0 0),(4,.int .i64 ((a:Nat):Int)),(5,.int .i64 ((h:Nat):Int)),(6,.int .i64 ((j:Nat):Int)),(7,.int .i64 ((k:Nat):Int))],[(0,.fl i),(1,.vs [.int .i64 e,.int .i64 f,.imm g (.fl b) 1 1 0 (List.length b)])],2⟩
def Gn(c:Nat)(a:Nat)(d:Nat)(e:Int)(f:Int)(g:Lv)(b:List Nat)(h:Nat)(i:List Nat)(j:Nat) :aW:=⟨aw 92 [(0,.sl 0 1 1 c a d),(3,.ptr 1 1 0 0),(4,.int .i64 ((a:Nat):Int)),(5,.int .i64 ((h:Nat):Int)),(6,.int .i64 ((j:Nat):Int))],[(0,.fl i),(1,.vs [.int .i64 e,.int .i64 f,.imm g (.fl b) 1 1 0 (List.length b)])],2⟩
def Ol:List Code:=cS (dh ((((Gl.drop 2).take 1)).headD .skip))
def Om(c:Nat)(a:Nat)(d:Nat)(e:Int)(f:Int)(g:Lv)(b:List Nat)(h:Nat)(i:List Nat)(j:Nat)(k:Nat) :aW:=⟨aw 92 [(0,.sl 0 1 1 c a d),(3,.ptr 1 1 0 0),(4,.int .i64 ((a:Nat):Int)),(5,.int .i64 ((h:Nat):Int)),(6,.int .i64 ((k:Nat):Int)),(7,.int .i64 ((j:Nat):Int))],[(0,.fl i),(1,.vs [.int .i64 e,.int .i64 f,.imm g (.fl b) 1 1 0 (List.length b)])],2⟩
def Gp(c:Nat)(e:Nat)(d:List Nat)(a:Nat)(b:Nat) :T ((Nat)⊕((Nat)⊕(((List Nat))⊕(((List Nat))⊕(gg))))) :=
  .ask (decide (((b:Nat):Int)<((e:Nat):Int)))
    (.need (fU ((b:Nat):Int) e)<|.need (fi (bV c b) (List.length d))<|.need (fU ((a:Nat):Int) e)<|.need (fi (bV c a) (List.length d))<|.ask (flt (List.getD d (bV c b) 0) (List.getD d (bV c a) 0))
      (.leaf (.inl b))
      (.leaf (.inl a)))
    (.leaf (.inr (.inl a)))
def Gq(a:Nat)(b:Nat) :T ((Nat×Nat)⊕((Nat)⊕(((List Nat))⊕(((List Nat))⊕(gg))))) :=
  .need (fq .i64 (((a+1):Nat):Int))<|.leaf (.inl (b,(a+1)))
def sN(b:Nat)(c:Nat)(d:List Nat) :Nat×Nat→Option ((Nat×Nat)⊕((Nat)⊕(((List Nat))⊕(((List Nat))⊕(gg))))):=fun (e,a) =>
  bd ((Gp b c d e a).run) fun f =>
  (Gq a f).run
theorem On(l:List Nat)(a:Nat)(b:Nat)(c:Nat)(d:Int)(e:Int)(f:Lv)(g:List Nat)(h:Nat)(i:List Nat)(k:Nat)(j:Nat) :Sg prog [.fl l] Ol (wR a b c d e f g h i (k,j)) (sN a b i (k,j)) (wR a b c d e f g h i) (bW 2 (Gn a b c d e f g h i) (bW 1 (wQ a b c d e f g h) (bW 0 wP tr))):=by
  unfold sN;exact Sg.cut 3 (ao (ao (ao gz))) (cy fO (Om a b c d e f g h i j) [⟨[],[0,1],[0,3,4,5,6,7]⟩,⟨[],[0,1],[0,3,4,5,6,7]⟩,⟨[],[0,1],[0,3,4,5,6]⟩]) (fun m=>cy fO (wR a b c d e f g h i) [⟨[],[0,1],[0,3,4,5,6,7]⟩])
def Oo(c:Nat)(a:Nat)(d:Nat)(e:Int)(f:Int)(g:Lv)(b:List Nat)(h:Nat)(i:Nat)(j:(List Nat)) :aW:=⟨aw 92 [(0,.sl 0 1 1 c a d),(3,.ptr 1 1 0 0),(4,.int .i64 ((a:Nat):Int)),(5,.int .i64 ((h:Nat):Int)),(6,.int .i64 ((i:Nat):Int)),(9,.int .i64 (0:Int))],[(0,.fl j),(1,.vs [.int .i64 e,.int .i64 f,.imm g (.fl b) 1 1 0 (List.length b)])],2⟩
def Gr(a:Nat)(e:Nat)(c:Nat)(b:List Nat)(d:Nat) :T (((List Nat))⊕(((List Nat))⊕(((List Nat))⊕(gg)))) :=
  .need (fU ((c:Nat):Int) e)<|.need (fi (bV a c) (List.length b))<|.need (fU ((d:Nat):Int) e)<|.need (fi (bV a d) (List.length b))<|.need (fU ((c:Nat):Int) e)<|.need (fi (bV a c) (List.length b))<|.need (fU ((d:Nat):Int) e)<|.need (fi (bV a d) (List.length (List.set b (bV a c) (List.getD b (bV a d) 0))))<|.leaf (.inl (List.set (List.set b (bV a c) (List.getD b (bV a d) 0)) (bV a d) (List.getD b (bV a c) 0)))
def wS(c:Nat)(a:Nat)(d:Nat)(e:Int)(f:Int)(g:Lv)(b:List Nat)(h:Nat)(i:Nat)(j:List Nat)(_:Unit) :aW:=⟨aw 92 [(0,.sl 0 1 1 c a d),(3,.ptr 1 1 0 0),(4,.int .i64 ((a:Nat):Int)),(5,.int .i64 ((h:Nat):Int)),(6,.int .i64 ((i:Nat):Int)),(9,.int .i64 (0:Int))],[(0,.fl j),(1,.vs [.int .i64 e,.int .i64 f,.imm g (.fl b) 1 1 0 (List.length b)])],2⟩
def Gs(c:Nat)(a:Nat)(d:Nat)(e:Int)(f:Int)(g:Lv)(b:List Nat)(h:Nat)(i:List Nat)(_:Unit) :aW:=⟨aw 92 [(0,.sl 0 1 1 c a d),(3,.ptr 1 1 0 0),(4,.int .i64 ((a:Nat):Int)),(5,.int .i64 ((h:Nat):Int))],[(0,.fl i),(1,.vs [.int .i64 e,.int .i64 f,.imm g (.fl b) 1 1 0 (List.length b)])],2⟩
def Oq:List Code:=cS (dh ((((((Gl.drop 2).drop 1).drop 4).take 1)).headD .skip))
def Gt(a:Nat)(e:Int)(b:List Nat)(c:Nat)(d:Nat) :T ((Unit)⊕((Unit)⊕(((List Nat))⊕(((List Nat))⊕(gg))))) :=
  .ask (decide ((0:Int)<e))
    (.need (fq .i64 (((0*a):Nat):Int))<|.need (fq .i64 ((((0*a)+c):Nat):Int))<|.need (fU ((((0*a)+c):Nat):Int) (List.length b))<|.need (fi ((0*a)+c) (List.length b))<|.need (fq .i64 (((0*a):Nat):Int))<|.need (fq .i64 ((((0*a)+c):Nat):Int))<|.need (fq .i64 (((0*a):Nat):Int))<|.need (fq .i64 ((((0*a)+d):Nat):Int))<|.need (fU ((((0*a)+d):Nat):Int) (List.length b))<|.need (fi ((0*a)+d) (List.length b))<|.need (fU ((((0*a)+c):Nat):Int) (List.length b))<|.fail)
    (.leaf (.inr (.inl ())))
def wT(a:Nat)(b:Int)(c:List Nat)(d:Nat)(e:Nat) :Unit→Option ((Unit)⊕((Unit)⊕(((List Nat))⊕(((List Nat))⊕(gg))))):=fun _ =>
  (Gt a b c d e).run
theorem Ot(k:List Nat)(e:Nat)(a:Nat)(f:Nat)(b:Int)(g:Int)(h:Lv)(c:List Nat)(d:Nat)(i:Nat)(j:List Nat) :Sg prog [.fl k] Oq (wS e a f b g h c d i j ()) (wT a b c d i ()) (wS e a f b g h c d i j) (bW 4 (Gs e a f b g h c d j) (bW 1 (wQ e a f b g h c d) (bW 0 wP tr))):=by
  unfold wT;exact cy fO (wS e a f b g h c d i j) [⟨[],[0,1],[0,3,4,5]⟩]
def Gu(a:List Nat) :T (((List Nat))⊕(((List Nat))⊕(((List Nat))⊕(gg)))) :=
  .leaf (.inl a)
def Gv(a:Nat)(b:List Nat) :T ((Nat×(List Nat))⊕(((List Nat))⊕(gg))) :=
  .need (fq .i64 (((a+1):Nat):Int))<|.leaf (.inl ((a+1),b))
def wU(d:Nat)(b:Nat)(f:Int)(g:List Nat) :Nat×(List Nat)→Option ((Nat×(List Nat))⊕(((List Nat))⊕(gg))):=fun (a,c) =>
  bd ((Gk b a c).run) fun _ =>
  bd (vO (bd ((Gm a).run) fun h =>
  bd (cm (sN d b c) (a,h)) fun e =>
  bd ((Gr d b a c e).run) fun i =>
  bd (cm (wT b f g a e) ()) fun _ =>
  (Gu i).run)) fun j =>
  (Gv a j).run
theorem Ou(j:List Nat)(a:Nat)(b:Nat)(e:Nat)(c:Int)(f:Int)(g:Lv)(d:List Nat)(h:Nat)(i:List Nat) :Sg prog [.fl j] Gj (wO a b e c f g d (h,i)) (wU a b c d (h,i)) (wO a b e c f g d) (bW 0 wP tr):=by
  unfold wU;exact Sg.cut 2 (ao gz) (cy fO (Oi a b e c f g d h i) [⟨[],[0,1],[0,3,4,5]⟩,⟨[],[0],[]⟩]) (fun _=>Sg.cut 1 (ao gz) (UG (wQ a b e c f g d h) 1 (ao gz) (bY (by decide) (yq _)) (Sg.cut 2 (ao (ao gz)) (cy fO (Oj a b e c f g d h i) [⟨[],[0,1],[0,3,4,5,6,7]⟩]) (fun o=>Sg.cut 1 (ao (ao gz)) (yB ⟨[],[0,1],[0,3,4,5,6,7]⟩ (wR a b e c f g d h i) (Gn a b e c f g d h i) 2 (ao (ao gz)) (bY (by decide) (bY (by decide) (yq _))) (fun ⟨m,n⟩=>On j a b e c f g d h i m n)) (fun k=>Sg.cut 4 (ao (ao gz)) (cy fO (Oo a b e c f g d h k) [⟨[],[0,1],[0,3,4,5,6,9]⟩]) (fun l=>Sg.cut 1 (ao (ao gz)) (yB ⟨[],[0,1],[0,3,4,5,6,9]⟩ (wS a b e c f g d h k l) (Gs a b e c f g d h l) 4 (ao (ao gz)) (bY (by decide) (bY (by decide) (yq _))) (fun _=>Ot j a b e c f g d h k l)) (fun _=>cy fO (wQ a b e c f g d h) [⟨[],[0,1],[0,3,4,5]⟩])))))) (fun p=>cy fO (wO a b e c f g d) [⟨[],[0,1],[0,3,4,5]⟩]))
def Gw(a:List Nat) :T (((List Nat))⊕(gg)) :=
  .leaf (.inl a)
def JJ:((List Nat))⊕(gg)→qZ
  | .inl a=>(.r0 a)
def tt(a:List Nat)(b:Nat)(c:Nat)(d:Int)(e:List Nat) :Option qZ:=Option.map JJ (bd ((Gi).run) fun _ =>
  bd (cm (wU b c d e) (0,a)) fun f =>
  (Gw f).run)
theorem Pi(e:List Nat)(b:Nat)(c:Nat)(f:Nat)(d:Int)(g:Int)(i:Lv)(a:List Nat){x:qZ}(h:tt e b c d a=some x) :aI prog zx [.fl e] [.sl 0 1 1 b c f,.agg [.int .i64 d,.int .i64 g,.imm i (.fl a) 1 1 0 (List.length a)]] (Eg x) :=
  LC false Eg Gh tr JJ h (Sg.cut 3 gz (cy fO (Ph e b c f d g i a) [⟨[],[0,1],[0,3,4,5]⟩]) (fun _=>Sg.cut 1 gz (yB ⟨[],[0,1],[0,3,4,5]⟩ (wO b c f d g i a) (wP) 0 gz (yq _) (fun ⟨j,k⟩=>Ou e b c f d g i a j k)) (fun l=>cy fO Gh [⟨[],[0],[]⟩])))
    (fun x=>LB []) (fun x=>by cases x)
def vk:Option qZ→Bool
  | some _=>true
  | none=>false
def vx:Option qZ→List Nat
  | some (.r0 x)=>x
  | _=>[]
theorem Pj{x:Option qZ}(h:vk x=true) :x=some (.r0 (vx x)):=by
  unfold vk at h
  split at h<;>first | rfl | (cases h;done) | (rename_i y;cases y;rfl)
def JK:bC:=yz zx [.fl] (.cons (.lsl 0) (.cons (.agg (.cons (.int .i64) (.cons (.int .i64) (.cons .fl .nil)))) .nil)) fun x t=>(fun q=>[⟨Eg (.r0 (vx q)),[vk q]⟩]) (tt x.1 t.1.1 t.1.2.1 t.2.1.1 t.2.1.2.2.1.2)
theorem Mp:cg prog JK:=nR fun x t=>(jG (fun h=>Pi x.1 t.1.1 t.1.2.1 t.1.2.2 t.2.1.1 t.2.1.2.1 t.2.1.2.2.1.1 t.2.1.2.2.1.2 (Pj h)) nS)
def JL:List bC:=JK::Ii
theorem vy:cR prog (cX JL):=aZ Mp fO
inductive gp where
  | r0 (a:Bool)
def vz:gp→AE×aW
  | .r0 a=>(.ret,⟨aw 27 [(4,.bool false a)],[],0⟩)
theorem xU:ye vz:=by intro x;cases x<;>(intro h;cases h)
theorem KI(id:Nat) :rB id vz:=by intro x;cases x<;>(intro h;cases h)
def zf:gp→rU
  | .r0 a=>⟨.bool false a,[]⟩
def KJ:List Code:=cS (ri yL)
def KK(c:Lv)(a:List Nat)(d:Lv)(b:List Nat)(_:Unit) :aW:=⟨aw 27 [(0,.imm c (.fl a) 1 1 0 (List.length a)),(1,.imm d (.fl b) 1 1 0 (List.length b)),(5,.int .i64 (0:Int))],[],0⟩
def KL(a:List Nat)(b:List Nat) :T ((Unit)⊕(gp)) :=
  .ask ((((List.length a):Nat):Int) != (((List.length b):Nat):Int))
    (.leaf (.inr (.r0 false)))
    (.leaf (.inl ()))
def tu(c:Lv)(a:List Nat)(d:Lv)(b:List Nat)(e:Nat) :aW:=⟨aw 27 [(0,.imm c (.fl a) 1 1 0 (List.length a)),(1,.imm d (.fl b) 1 1 0 (List.length b)),(5,.int .i64 ((e:Nat):Int))],[],0⟩
def DF(_:Unit) :aW:=⟨aw 27 [],[],0⟩
def KM:List Code:=cS (dh ((((KJ.drop 4).take 1)).headD .skip))
def xV(b:List Nat)(c:List Nat)(a:Nat) :T ((Nat)⊕((Unit)⊕(gp))) :=
  .ask (decide (((a:Nat):Int)<(((List.length b):Nat):Int)))
    (.need (fU ((a:Nat):Int) (List.length b))<|.need (fi a (List.length b))<|.need (fU ((a:Nat):Int) (List.length c))<|.need (fi a (List.length c))<|.ask (!(C4 (List.getD b a 0) (List.getD c a 0)))
      (.leaf (.inr (.inr (.r0 false))))
      (.need (fq .i64 (((a+1):Nat):Int))<|.leaf (.inl (a+1))))
    (.leaf (.inr (.inl ())))
def wV(a:List Nat)(b:List Nat) :Nat→Option ((Nat)⊕((Unit)⊕(gp))):=fun c =>
  (xV a b c).run
theorem JM(c:Lv)(a:List Nat)(d:Lv)(b:List Nat)(e:Nat) :Sg prog [] KM (tu c a d b e) (wV a b e) (tu c a d b) (bW 0 DF vz):=by
  unfold wV;exact cy vy (tu c a d b) [⟨[],[],[4]⟩,⟨[],[],[0,1,5]⟩,⟨[],[],[]⟩]
def JN:T ((Empty)⊕(gp)) :=
  .leaf (.inr (.r0 true))
def rt(a:List Nat)(b:List Nat) :Option gp:=toX (bd ((KL a b).run) fun _ =>
  bd (cm (wV a b) 0) fun _ =>
  (JN).run)
theorem KN(c:Lv)(a:List Nat)(d:Lv)(b:List Nat){x:gp}(h:rt a b=some x) :aI prog yL [] [.imm c (.fl a) 1 1 0 (List.length a),.imm d (.fl b) 1 1 0 (List.length b)] (zf x) :=
  IB false zf vz h (Sg.cut 4 xU (cy vy (KK c a d b) [⟨[],[],[4]⟩,⟨[],[],[0,1,5]⟩]) (fun _=>Sg.cut 1 xU (yB ⟨[],[],[0,1,5]⟩ (tu c a d b) (DF) 0 xU (KI _) (fun e=>JM c a d b e)) (fun _=>cy vy G3 [⟨[],[],[4]⟩])))
    (fun x=>by cases x with | r0 f=>exact Fi [.bool false f])
def tw:Option gp→Bool
  | some _=>true
  | none=>false
def vK:Option gp→Bool
  | some (.r0 x)=>x
  | _=>false
theorem KO{x:Option gp}(h:tw x=true) :x=some (.r0 (vK x)):=by
  unfold tw at h
  split at h<;>first | rfl | (cases h;done) | (rename_i y;cases y;rfl)
def E7:bC:=mW yL (.cons .fl (.cons .fl .nil)) fun t=>(fun q=>[⟨zf (.r0 (vK q)),[tw q]⟩]) (rt t.1.2 t.2.1.2)
theorem IM:cg prog E7:=ff fun t=>(fg (fun h=>KN t.1.1 t.1.2 t.2.1.1 t.2.1.2 (KO h)) gr)
def E8:List bC:=E7::JL
theorem gh:cR prog (cX E8):=aZ IM vy
inductive cx where
  | r0 (a:Bool)
def AH:cx→AE×aW
  | .r0 a=>(.ret,⟨aw 144 [(4,.bool false a)],[],0⟩)
theorem iQ:ye AH:=by intro x;cases x<;>(intro h;cases h)
def vL:cx→rU
  | .r0 a=>⟨.bool false a,[]⟩
def Hc(e:Lv)(a:List Nat)(f:Lv)(b:List Nat)(g:Lv)(c:List Nat)(h:Lv)(d:List Nat)(i:Bool) :aW:=⟨aw 144 [(2,.ptr 0 1 0 0),(3,.ptr 1 1 0 0),(69,.bool false i)],[(0,.vs [.imm e (.fl a) 1 1 0 (List.length a),.imm f (.fl b) 1 1 0 (List.length b)]),(1,.vs [.imm g (.fl c) 1 1 0 (List.length c),.imm h (.fl d) 1 1 0 (List.length d)])],2⟩
def jH(a : List Nat)(c : List Nat)(b : List Nat)(d : List Nat) : T ((Bool) ⊕ (cx)) :=
  .need (dg 0 (List.length a) a)<|.need (dg 0 (List.length c) c)<|.need (sU (qJ (az 0 (List.length a) a) (az 0 (List.length c) c)))<|.ask (!(sb (qJ (az 0 (List.length a) a) (az 0 (List.length c) c))))
    (.leaf (.inl true))
    (.need (dg 0 (List.length b) b)<|.need (dg 0 (List.length d) d)<|.need (sU (qJ (az 0 (List.length b) b) (az 0 (List.length d) d)))<|.ask (!(sb (qJ (az 0 (List.length b) b) (az 0 (List.length d) d))))
      (.leaf (.inl true))
      (.need (dg 0 (List.length a) a)<|.need (jI (io (az 0 (List.length a) a)))<|.ask (js (io (az 0 (List.length a) a)))
        (.need (dg 0 (List.length c) c)<|.need (jI (io (az 0 (List.length c) c)))<|.ask (!(js (io (az 0 (List.length c) c))))
          (.leaf (.inl true))
          (.need (dg 0 (List.length b) b)<|.need (jI (io (az 0 (List.length b) b)))<|.ask (js (io (az 0 (List.length b) b)))
            (.need (dg 0 (List.length d) d)<|.need (jI (io (az 0 (List.length d) d)))<|.ask (!(js (io (az 0 (List.length d) d))))
              (.leaf (.inl true))
              (.ask (decide ((((List.length a):Nat):Int)<(1:Int)))
                (.leaf (.inl true))
                (.ask (decide ((((List.length a):Nat):Int)>(6:Int)))
                  (.leaf (.inl true))
                  (.ask ((((List.length b):Nat):Int) != (((List.length a):Nat):Int))
                    (.need (fq .i64 ((((List.length a)+1):Nat):Int))<|.ask ((((List.length b):Nat):Int) != ((((List.length a)+1):Nat):Int))
                      (.leaf (.inl true))
                      (.need (fq .i64 ((((List.length b)+(List.length a)):Nat):Int))<|.leaf (.inl (decide (((((List.length b)+(List.length a)):Nat):Int)<(3:Int))))))
                    (.need (fq .i64 ((((List.length b)+(List.length a)):Nat):Int))<|.leaf (.inl (decide (((((List.length b)+(List.length a)):Nat):Int)<(3:Int)))))))))
            (.leaf (.inl true))))
        (.leaf (.inl true))))
def Hd(f:Lv)(a:List Nat)(g:Lv)(b:List Nat)(h:Lv)(c:List Nat)(i:Lv)(d:List Nat) :Nat×Nat×Nat×(List Nat)→aW:=fun (e,j,k,l)=>⟨aw 144 [(2,.ptr 0 1 0 0),(3,.ptr 1 1 0 0),(8,.sl 2 1 1 0 e e),(10,.int .i64 ((j:Nat):Int)),(11,.int .i64 ((k:Nat):Int))],[(0,.vs [.imm f (.fl a) 1 1 0 (List.length a),.imm g (.fl b) 1 1 0 (List.length b)]),(1,.vs [.imm h (.fl c) 1 1 0 (List.length c),.imm i (.fl d) 1 1 0 (List.length d)]),(2,.fl l)],3⟩
def qb(b:List Nat)(a:List Nat)(c:List Nat)(d:List Nat)(e:Bool) :T ((Nat×Nat×Nat×(List Nat))⊕(cx)) :=
  .ask e
    (.leaf (.inr (.r0 true)))
    (.need (kj ((List.length b)*8) 140737488355328)<|.need (kj (List.length b) 9223372036854775807)<|.need (kj (List.length b) (List.length b))<|.need (kj (((List.length b)+(List.length c))*8) 140737488355328)<|.need (kj ((List.length b)+(List.length c)) 9223372036854775807)<|.need (kj (List.length c) (List.length c))<|.need (kj (List.length b) (List.length (List.take (List.length b) b)))<|.need (kj ((List.length a)*8) 140737488355328)<|.need (kj (List.length a) 9223372036854775807)<|.need (kj (List.length a) (List.length a))<|.need (kj (((List.length a)+1)*8) 140737488355328)<|.need (kj ((List.length a)+1) 9223372036854775807)<|.need (kj 1 (List.length [0]))<|.need (kj (List.length a) (List.length (List.take (List.length a) a)))<|.need (kj ((((List.length a)+1)+(List.length d))*8) 140737488355328)<|.need (kj (((List.length a)+1)+(List.length d)) 9223372036854775807)<|.need (kj (List.length d) (List.length d))<|.need (kj ((List.length a)+1) (List.length ((List.take (List.length a) (List.take (List.length a) a))++(List.take 1 [0]))))<|.need (dg 0 ((List.length b)+(List.length c)) ((List.take (List.length b) (List.take (List.length b) b))++(List.take (List.length c) c)))<|.need (dg 0 (((List.length a)+1)+(List.length d)) ((List.take ((List.length a)+1) ((List.take (List.length a) (List.take (List.length a) a))++(List.take 1 [0])))++(List.take (List.length d) d)))<|.need (pa (cA (az 0 ((List.length b)+(List.length c)) ((List.take (List.length b) (List.take (List.length b) b))++(List.take (List.length c) c))) (az 0 (((List.length a)+1)+(List.length d)) ((List.take ((List.length a)+1) ((List.take (List.length a) (List.take (List.length a) a))++(List.take 1 [0])))++(List.take (List.length d) d)))))<|.leaf (.inl ((nJ (cA (az 0 ((List.length b)+(List.length c)) ((List.take (List.length b) (List.take (List.length b) b))++(List.take (List.length c) c))) (az 0 (((List.length a)+1)+(List.length d)) ((List.take ((List.length a)+1) ((List.take (List.length a) (List.take (List.length a) a))++(List.take 1 [0])))++(List.take (List.length d) d))))),(nK (cA (az 0 ((List.length b)+(List.length c)) ((List.take (List.length b) (List.take (List.length b) b))++(List.take (List.length c) c))) (az 0 (((List.length a)+1)+(List.length d)) ((List.take ((List.length a)+1) ((List.take (List.length a) (List.take (List.length a) a))++(List.take 1 [0])))++(List.take (List.length d) d))))),(nL (cA (az 0 ((List.length b)+(List.length c)) ((List.take (List.length b) (List.take (List.length b) b))++(List.take (List.length c) c))) (az 0 (((List.length a)+1)+(List.length d)) ((List.take ((List.length a)+1) ((List.take (List.length a) (List.take (List.length a) a))++(List.take 1 [0])))++(List.take (List.length d) d))))),(nM (cA (az 0 ((List.length b)+(List.length c)) ((List.take (List.length b) (List.take (List.length b) b))++(List.take (List.length c) c))) (az 0 (((List.length a)+1)+(List.length d)) ((List.take ((List.length a)+1) ((List.take (List.length a) (List.take (List.length a) a))++(List.take 1 [0])))++(List.take (List.length d) d))))))))
def He(e:Lv)(a:List Nat)(f:Lv)(b:List Nat)(c:Nat)(g:Nat)(h:Nat)(i:List Nat) :Nat×Nat×Nat×(List Nat)→aW:=fun (d,j,f8,k)=>⟨aw 144 [(3,.ptr 0 1 0 0),(8,.sl 1 1 1 0 c c),(10,.int .i64 ((g:Nat):Int)),(11,.int .i64 ((h:Nat):Int)),(12,.sl 2 1 1 0 d d),(14,.int .i64 ((j:Nat):Int)),(15,.int .i64 ((f8:Nat):Int))],[(0,.vs [.imm e (.fl a) 1 1 0 (List.length a),.imm f (.fl b) 1 1 0 (List.length b)]),(1,.fl i),(2,.fl k)],3⟩
def sO(a:List Nat)(b:List Nat) :T ((Nat×Nat×Nat×(List Nat))⊕(cx)) :=
  .need (dg 0 (List.length a) a)<|.need (dg 0 (List.length b) b)<|.need (pa (cA (az 0 (List.length a) a) (az 0 (List.length b) b)))<|.leaf (.inl ((nJ (cA (az 0 (List.length a) a) (az 0 (List.length b) b))),(nK (cA (az 0 (List.length a) a) (az 0 (List.length b) b))),(nL (cA (az 0 (List.length a) a) (az 0 (List.length b) b))),(nM (cA (az 0 (List.length a) a) (az 0 (List.length b) b)))))
def Hf(a:Nat)(d:Nat)(e:Nat)(f:List Nat)(b:Nat)(g:Nat)(f8:Nat)(h:List Nat) :Nat×Nat×Nat×(List Nat)→aW:=fun (c,i,j,k)=>⟨aw 144 [(8,.sl 0 1 1 0 a a),(10,.int .i64 ((d:Nat):Int)),(11,.int .i64 ((e:Nat):Int)),(12,.sl 1 1 1 0 b b),(14,.int .i64 ((g:Nat):Int)),(15,.int .i64 ((f8:Nat):Int)),(16,.sl 2 1 1 0 c c),(18,.int .i64 ((i:Nat):Int)),(19,.int .i64 ((j:Nat):Int))],[(0,.fl f),(1,.fl h),(2,.fl k)],3⟩
def sP(a:List Nat)(b:List Nat) :T ((Nat×Nat×Nat×(List Nat))⊕(cx)) :=
  .need (dg 0 (List.length a) a)<|.need (dg 0 (List.length b) b)<|.need (pa (cA (az 0 (List.length a) a) (az 0 (List.length b) b)))<|.leaf (.inl ((nJ (cA (az 0 (List.length a) a) (az 0 (List.length b) b))),(nK (cA (az 0 (List.length a) a) (az 0 (List.length b) b))),(nL (cA (az 0 (List.length a) a) (az 0 (List.length b) b))),(nM (cA (az 0 (List.length a) a) (az 0 (List.length b) b)))))
def Hg(a:Nat)(d:Nat)(e:Nat)(f:List Nat)(b:Nat)(g:Nat)(h:List Nat)(c:Nat)(i:Nat)(j:List Nat)(k:Bool) :aW:=⟨aw 144 [(8,.sl 0 1 1 0 a a),(10,.int .i64 ((d:Nat):Int)),(11,.int .i64 ((e:Nat):Int)),(12,.sl 1 1 1 0 b b),(14,.int .i64 ((g:Nat):Int)),(16,.sl 2 1 1 0 c c),(18,.int .i64 ((i:Nat):Int)),(112,.bool false k)],[(0,.fl f),(1,.fl h),(2,.fl j)],3⟩
def Gx(f8:Nat)(a:Nat) :T ((Bool)⊕(cx)) :=
  .ask (((f8:Nat):Int) != (0:Int))
    (.leaf (.inl true))
    (.leaf (.inl (((a:Nat):Int) != (0:Int))))
def Hh(a:Nat)(c:Nat)(d:Nat)(e:List Nat)(f:Nat)(g:Nat) :Nat×(List Nat)→aW:=fun (b,h)=>⟨aw 144 [(8,.sl 0 1 1 0 a a),(10,.int .i64 ((c:Nat):Int)),(11,.int .i64 ((d:Nat):Int)),(14,.int .i64 ((f:Nat):Int)),(18,.int .i64 ((g:Nat):Int)),(20,.sl 1 1 1 0 b b)],[(0,.fl e),(1,.fl h)],2⟩
def qc(e:Nat)(a:Nat)(c:List Nat)(b:Nat)(d:List Nat)(f:Bool) :T ((Nat×(List Nat))⊕(cx)) :=
  .ask f
    (.ask (((e:Nat):Int)==(7:Int))
      (.leaf (.inr (.r0 true)))
      (.leaf (.inr (.r0 false))))
    (.need (kj (a*8) 140737488355328)<|.need (kj a 9223372036854775807)<|.need (kj a (List.length c))<|.need (kj ((a+b)*8) 140737488355328)<|.need (kj (a+b) 9223372036854775807)<|.need (kj b (List.length d))<|.need (kj a (List.length (List.take a c)))<|.need (vk (tt ((List.take a (List.take a c))++(List.take b d)) 0 (a+b) (0:Int) ([]:List Nat)))<|.leaf (.inl ((a+b),(vx (tt ((List.take a (List.take a c))++(List.take b d)) 0 (a+b) (0:Int) ([]:List Nat))))))
def Hi(a:Bool) :aW:=⟨aw 144 [(4,.bool false a)],[],0⟩
def sQ(a:Nat)(g:Nat)(h:Nat)(b:List Nat)(e:Nat)(f:Nat)(c:Nat)(d:List Nat) :T ((Bool)⊕(cx)) :=
  .ask (((h:Nat):Int)==(0:Int))
    (.need (fq .i64 (((e+f):Nat):Int))<|.ask (((g:Nat):Int)==(((e+f):Nat):Int))
      (.need (dg 0 a b)<|.need (dg 0 c d)<|.need (tw (rt (az 0 a b) (az 0 c d)))<|.ask (vK (rt (az 0 a b) (az 0 c d)))
        (.leaf (.inl true))
        (.leaf (.inl false)))
      (.leaf (.inl false)))
    (.leaf (.inl false))
def Gy(a:Bool) :T ((Empty)⊕(cx)) :=
  .leaf (.inr (.r0 a))
def ra(a:List Nat)(b:List Nat)(c:List Nat)(d:List Nat) :Option cx:=toX (bd ((jH a b c d).run) fun f =>
  bd ((qb a b c d f).run) fun (g,h,e,i) =>
  bd ((sO a b).run) fun (j,k,f8,l) =>
  bd ((sP c d).run) fun (m,n,o,p) =>
  bd ((Gx f8 o).run) fun q =>
  bd ((qc e j l m p q).run) fun (r,s) =>
  bd ((sQ g h e i k n r s).run) fun t =>
  (Gy t).run)
theorem zo(l:Lv)(c:List Nat)(m:Lv)(d:List Nat)(e:Lv)(a:List Nat)(f:Lv)(b:List Nat){x:cx}(h:ra c d a b=some x) :aI prog zY [] [.agg [.imm l (.fl c) 1 1 0 (List.length c),.imm m (.fl d) 1 1 0 (List.length d)],.agg [.imm e (.fl a) 1 1 0 (List.length a),.imm f (.fl b) 1 1 0 (List.length b)]] (vL x) :=
  IB false vL AH h (Sg.cut 3 iQ (cy gh (Hc l c m d e a f b) [⟨[],[0,16],[2,3,69]⟩,⟨[],[0,16],[2,3,69]⟩,⟨[],[0,16],[2,3,69]⟩,⟨[],[0,16],[2,3,69]⟩,⟨[],[0,16],[2,3,69]⟩,⟨[],[0,16],[2,3,69]⟩,⟨[],[0,16],[2,3,69]⟩,⟨[],[0,16],[2,3,69]⟩,⟨[],[0,16],[2,3,69]⟩,⟨[],[0,16],[2,3,69]⟩,⟨[],[0,16],[2,3,69]⟩]) (fun u=>Sg.cut 3 iQ (cy gh (Hd l c m d e a f b) [⟨[],[],[4]⟩,⟨[],[0,1,290],[2,3,8,10,11]⟩]) (fun ⟨g,i,j,k⟩=>Sg.cut 1 iQ (cy gh (He e a f b g i j k) [⟨[],[1,2,19],[3,8,10,11,12,14,15]⟩]) (fun ⟨o,n,f8,p⟩=>Sg.cut 1 iQ (cy gh (Hf g i j k o n f8 p) [⟨[],[1,2,19],[8,10,11,12,14,15,16,18,19]⟩]) (fun ⟨r,q,v,s⟩=>Sg.cut 1 iQ (cy gh (Hg g i j k o n p r q s) [⟨[],[0,1,2],[8,10,11,12,14,16,18,112]⟩,⟨[],[0,1,2],[8,10,11,12,14,16,18,112]⟩]) (fun w=>Sg.cut 3 iQ (cy gh (Hh g i j k n q) [⟨[],[],[4]⟩,⟨[],[],[4]⟩,⟨[],[0,51],[8,10,11,14,18,20]⟩]) (fun ⟨y,z⟩=>Sg.cut 1 iQ (cy gh Hi [⟨[],[],[4]⟩,⟨[],[],[4]⟩,⟨[],[],[4]⟩,⟨[],[],[4]⟩]) (fun A=>cy gh G3 [⟨[],[],[4]⟩]))))))))
    (fun x=>by cases x with | r0 t=>exact Fi [.bool false t])
def ux:Option cx→Bool
  | some _=>true
  | none=>false
def xo:Option cx→Bool
  | some (.r0 x)=>x
  | _=>false
theorem Hj{x:Option cx}(h:ux x=true) :x=some (.r0 (xo x)):=by
  unfold ux at h
  split at h<;>first | rfl | (cases h;done) | (rename_i y;cases y;rfl)
def AI:bC:=mW zY (.cons (.agg (.cons .fl (.cons .fl .nil))) (.cons (.agg (.cons .fl (.cons .fl .nil))) .nil)) fun t=>(fun q=>[⟨vL (.r0 (xo q)),[ux q]⟩]) (ra t.1.1.2 t.1.2.1.2 t.2.1.1.2 t.2.1.2.1.2)
theorem Fg:cg prog AI:=ff fun t=>(fg (fun h=>zo t.1.1.1 t.1.1.2 t.1.2.1.1 t.1.2.1.2 t.2.1.1.1 t.2.1.1.2 t.2.1.2.1.1 t.2.1.2.1.2 (Hj h)) gr)
def IN:List bC:=AI::E8
theorem QU:cR prog (cX IN):=aZ Fg gh
end
end Go.Plb.Seat
namespace Go.Plb
set_option linter.unusedSimpArgs false
set_option linter.unusedVariables false
set_option linter.unusedSectionVars false
variable [Rom]
theorem qI{α:Type}{b:Bool}{t:T α}{x:Option α}(h:b=true)(k:t.run=x) :(T.need b t).run=x:=by subst h;exact k
theorem T.at{α:Type}{b:Bool}{t f:T α}{x:Option α}(h:b=true)(k:t.run=x) :(T.ask b t f).run=x:=by subst h;exact k
theorem AJ{α:Type}{b:Bool}{t f:T α}{x:Option α}(h:b=false)(k:f.run=x) :(T.ask b t f).run=x:=by subst h;exact k
theorem XP{α:Type}{k:Nat}{t f:T α}{a:α}(h:t.run=some a) :(T.alt k t f).run=some a:=by simp only [T.run,h]
theorem XQ{α:Type}{b:Bool}{t:T α}(h:b=false) :(T.need b t).run=none:=by subst h;rfl
theorem vX{α:Type}{b:Bool}{t:T α}{x:Option α}(k:t.run=x)(h:b=true:=by exact rfl) :(T.need b t).run=x:=qI h k
theorem JO{α:Type}{b:Bool}{t f:T α}{x:Option α}(k:t.run=x)(h:b=true:=by exact rfl) :(T.ask b t f).run=x:=T.at h k
theorem Gz{α:Type}{b:Bool}{t f:T α}{x:Option α}(k:f.run=x)(h:b=false:=by exact rfl) :(T.ask b t f).run=x:=AJ h k
theorem bN{α β X:Type}{m:Option (α⊕X)}{k:α→Option (β⊕X)}{a:α}{x:Option (β⊕X)}(h:m=some (.inl a))(q:k a=x) :bd m k=x:=by subst h;exact q
theorem ru{α β X:Type}{m:Option (α⊕X)}{k:α→Option (β⊕X)}{y:X}(h:m=some (.inr y)) :bd m k=some (.inr y):=by subst h;rfl
theorem Vx{κ X:Type}{m:Option (κ⊕(κ⊕X))}{a:κ}(h:m=some (.inl a)) :vO m=some (.inl a):=by subst h;rfl
theorem Ui{κ X:Type}{m:Option (κ⊕(κ⊕X))}{a:κ}(h:m=some (.inr (.inl a))) :vO m=some (.inl a):=by subst h;rfl
theorem PA{κ X:Type}{m:Option (κ⊕(κ⊕X))}{a:X}(h:m=some (.inr (.inr a))) :vO m=some (.inr a):=by subst h;rfl
theorem jP{X:Type}{m:Option (Empty⊕X)}{x:X}(h:m=some (.inr x)) :toX m=some x:=by subst h;rfl
theorem Uj{σ Y:Type}{B:σ→Option (σ⊕Y)}(st:Nat→σ)(n:Nat){y:Y}(i:Nat)(hi:i≤n)(step:∀ j,i≤j→j<n→B (st j)=some (.inl (st (j+1))))(done:B (st n)=some (.inr y)) :cm B (st i)=some y:=by
  obtain ⟨d,rfl⟩:∃ d,n=i+d:=⟨n-i,by omega⟩
  clear hi
  induction d generalizing i with
  | zero=>exact Py done
  | succ d ih =>
    rw [RJ (step i (Nat.le_refl _) (by omega))]
    have e:i+(d+1)=i+1+d:=by omega
    rw [e] at step done
    exact ih (i+1) (fun j h1 h2=>step j (by omega) h2) done
theorem wW{σ Y:Type}{B:σ→Option (σ⊕Y)}(st:Nat→σ)(n:Nat){y:Y}{s0:σ}(h0:s0=st 0)(step:∀ j,j<n→B (st j)=some (.inl (st (j+1))))(done:B (st n)=some (.inr y)) :cm B s0=some y:=by
  rw [h0];exact Uj st n 0 (Nat.zero_le _) (fun j _=>step j) done
theorem ap{n:Int} :fq .i64 n=true↔-9223372036854775808≤n∧n≤9223372036854775807:=by
  have e1:IntKind.i64.min = -9223372036854775808:=by decide
  have e2:IntKind.i64.max=9223372036854775807:=by decide
  simp only [fq,e1,e2,Bool.and_eq_true,decide_eq_true_eq]
theorem aP{k:Int}{n:Nat} :fU k n=true↔0≤k∧k<n:=by simp only [fU,Bool.and_eq_true,decide_eq_true_eq]
theorem aQ{k:Int}{n:Nat} :AL k n=true↔0≤k∧k≤n:=by simp only [AL,Bool.and_eq_true,decide_eq_true_eq]
theorem au{k n:Nat} :fi k n=true↔k<n:=by simp [fi]
theorem ax{k n:Nat} :kj k n=true↔k≤n:=by simp [kj]
theorem dr{k n:Nat} :Nat.ble k n=true↔k≤n:=by rw [Nat.ble_eq]
theorem dt{k n:Nat} :Nat.blt k n=true↔k<n:=by rw [Nat.blt_eq]
def W8{α:Type}(pos:Nat→Nat)(val:Nat→α)(l:List α) :Nat→List α
  | 0=>l
  | n+1=>(W8 pos val l n).set (pos n) (val n)
theorem cu{α:Type}{pos:Nat→Nat}{val:Nat→α}{l:List α} :∀ {n:Nat},(W8 pos val l n).length=l.length
  | 0=>rfl
  | n+1=>by simp only [W8,List.length_set];exact cu
theorem RX{α:Type}(l:List α) :dg 0 l.length l=true:=by rw [am];omega
theorem lP{α:Type}{b:Bool}{t:T α}{x:Option α}(k:t.run=x)(h:b=true:=by exact RX _) :(T.need b t).run=x:=qI h k
theorem dX{α:Type}{n:Nat}{l:List α}(h:l.length=n) :az 0 n l=l:=by rw [←h];exact ak l
theorem KP{p:Nat→Prop} [DecidablePred p]:∀ {n:Nat},(¬ ∀ i,i<n→p i)→∃ k,k<n∧¬ p k∧∀ j,j<k→p j
  | 0,h=>(h fun i hi=>absurd hi (Nat.not_lt_zero _)).elim
  | n+1,h=>by
    by_cases q:∀ i,i<n→p i
    · refine ⟨n,Nat.lt_succ_self _,fun r=>h fun i hi=>?_,q⟩
      rcases Nat.lt_succ_iff_lt_or_eq.1 hi with a | rfl
      · exact q i a
      · exact r
    · obtain ⟨k,h1,h2,h3⟩:=KP q
      exact ⟨k,by omega,h2,h3⟩
theorem ah(n:Nat) :Int.toNat (n:Int)=n:=rfl
def GA(x:Nat) :Nat:=if x<4503599627370496 then x else 4503599627370496+x%4503599627370496
def rb(x:Nat) :Nat:=x/4503599627370496-1
theorem Ov{x:Nat}(h:x<9218868437227405312) :FloatKind.f64.format.read x=.number false (GA x) (-1074+(rb x:Int)):=by
  have e1:Ieee.double.signWeight=9223372036854775808:=by decide
  have e2:Ieee.double.binade=4503599627370496:=by decide
  have e3:Ieee.double.infRung=9218868437227405312:=by decide
  have e4:Ieee.double.leastPlace = -1074:=by decide
  show Ieee.double.read x=_
  unfold Ieee.Format.read
  simp only [e1,e2,e3,e4]
  have h1:x/9223372036854775808%2=0:=by omega
  have h2:x%9223372036854775808=x:=by omega
  rw [h1,h2]
  by_cases h3:x<4503599627370496
  · rw [if_pos h3]
    have:rb x=0:=by unfold rb;omega
    simp only [GA,if_pos h3,this];rfl
  · rw [if_neg h3,if_pos h]
    simp only [GA,if_neg h3,rb];rfl
theorem Wf(x:Nat) :GA x<9007199254740992:=by unfold GA;split<;>omega
theorem Wg{x:Nat}(h:0<rb x) :4503599627370496≤GA x:=by unfold rb at h;unfold GA;rw [if_neg (by omega)];omega
theorem JP{x y:Nat}(hx:x<9218868437227405312)(hy:y<9218868437227405312) :
    yr x y=some (compare ((GA x*2^(rb x-min (rb x) (rb y)):Nat):Int) ((GA y*2^(rb y-min (rb x) (rb y)):Nat):Int)):=by
  unfold yr Ieee.Format.order
  rw [Ov hx,Ov hy]
  simp only [Ieee.Datum.order,Ieee.signed,Bool.false_eq_true,if_false,Nat.shiftLeft_eq]
  have e1:((-1074+(rb x:Int))-min (-1074+(rb x:Int)) (-1074+(rb y:Int))).toNat=rb x-min (rb x) (rb y):=by omega
  have e2:((-1074+(rb y:Int))-min (-1074+(rb x:Int)) (-1074+(rb y:Int))).toNat=rb y-min (rb x) (rb y):=by omega
  rw [e1,e2]
theorem Wh{x y:Nat}(hx:x<9218868437227405312)(hy:y<9218868437227405312) :yr x y=some .gt↔yr y x=some .lt:=by
  rw [JP hx hy,JP hy hx,Nat.min_comm]
  simp only [Option.some.injEq]
  rw [Int.compare_eq_gt,Int.compare_eq_lt]
theorem TB{x y:Nat}(hx:x<9218868437227405312)(hy:y<9218868437227405312)(h:x<y) :yr x y=some .lt:=by
  rw [JP hx hy]
  have hle:rb x≤rb y:=by unfold rb;omega
  rw [Nat.min_eq_left hle,Nat.sub_self,Nat.pow_zero,Nat.mul_one]
  have yH:GA x<GA y*2^(rb y-rb x):=by
    rcases Nat.eq_or_lt_of_le hle with h1 | h1
    · rw [h1,Nat.sub_self,Nat.pow_zero,Nat.mul_one]
      unfold rb at h1;unfold GA
      split<;>split<;>omega
    · have a:=Wg (x:=y) (by omega)
      have b:=Wf x
      have c:2^1≤2^(rb y-rb x):=Nat.pow_le_pow_right (by decide) (by omega)
      have d:4503599627370496*2≤GA y*2^(rb y-rb x):=Nat.mul_le_mul a c
      omega
  rw [Int.compare_eq_lt.2 (by exact_mod_cast yH)]
theorem Vy{x y:Nat}(hx:x<9218868437227405312)(hy:y<9218868437227405312) :yr x y=some (compare x y):=by
  rcases Nat.lt_trichotomy x y with h | rfl | h
  · rw [TB hx hy h,Nat.compare_eq_lt.2 h]
  · rw [JP hx hx];simp
  · rw [(Wh hx hy).2 (TB hy hx h),Nat.compare_eq_gt.2 h]
theorem Vz:FloatKind.f64.format.read 9218868437227405312=.infinity false:=by decide
theorem SX{y:Nat}(hy:y<9218868437227405312) :yr 9218868437227405312 y=some .gt:=by
  unfold yr Ieee.Format.order;rw [Vz,Ov hy];rfl
abbrev W:Nat:=18446744073709551616
def nl(v:Nat) :Nat:=if h:v=0 then 0 else nl (v/W)+1
termination_by v
decreasing_by exact Nat.div_lt_self (Nat.pos_of_ne_zero h) (by decide)
theorem XB:∀ (v:Nat),v<W^nl v:=by
  intro v
  induction v using Nat.strongRecOn with
  | _ v ih =>
    rw [nl]
    split
    · rename_i h;subst h;decide
    · rename_i h
      have:=ih (v/W) (Nat.div_lt_self (Nat.pos_of_ne_zero h) (by decide))
      rw [Nat.pow_succ]
      exact (Nat.div_lt_iff_lt_mul (by decide)).1 this
def tz(v:Nat) :Nat:=if h:v%2=1∨v=0 then 0 else tz (v/2)+1
termination_by v
decreasing_by omega
theorem Wi:∀ (v:Nat),v≠0→v%2^tz v=0∧v/2^tz v%2=1:=by
  intro v
  induction v using Nat.strongRecOn with
  | _ v ih =>
    intro h
    rw [tz]
    split
    · rename_i q;rw [Nat.pow_zero,Nat.mod_one,Nat.div_one];omega
    · rename_i q
      obtain ⟨h1,h2⟩:=ih (v/2) (by omega) (by omega)
      rw [Nat.pow_succ,Nat.mul_comm (2^_),Nat.mod_mul,←Nat.div_div_eq_div_mul,h1,h2]
      omega
theorem Wj:tz 0=0:=by rw [tz,dif_pos (.inr rfl)]
theorem XC{v n:Nat}(h:v≠0)(hv:v<2^n) :tz v<n:=by
  obtain ⟨h1,h2⟩:=Wi v h
  rcases Nat.lt_or_ge (tz v) n with q | q
  · exact q
  · rw [Nat.div_eq_of_lt (Nat.lt_of_lt_of_le hv (Nat.pow_le_pow_right (by decide) q))] at h2;omega
def sg(s:Bool)(v:Nat) :Int:=if s then -(v:Int) else (v:Int)
def nE(z e:Int) :Int:=if z=0 then 0 else e+(tz z.natAbs:Nat)
theorem XD{v:Nat} :tz v≤64*nl v:=by
  by_cases h:v=0
  · subst h;rw [Wj];exact Nat.zero_le _
  · have:=XB v
    have e:W^nl v=2^(64*nl v):=by rw [Nat.pow_mul]
    rw [e] at this
    exact Nat.le_of_lt (XC h this)
def Sm(z e:Int) :Prop:=nl z.natAbs≤300∧-30000≤e∧e≤30000
theorem Sm.l{z e:Int}(h:Sm z e) :nl z.natAbs≤300:=h.1
theorem XR{z e:Int}(h:Sm z e) :tz z.natAbs≤19200:=Nat.le_trans XD (by have:=h.1;omega)
theorem Sm.b{z e:Int}(h:Sm z e) : -30000≤nE z e∧nE z e≤49200:=by
  have ht:=XR h
  obtain ⟨_,h2,h3⟩:=h
  unfold nE
  split<;>omega
abbrev Sb:Nat:=18446744073709551616
def XJ(x:Nat) :Nat:=x/4503599627370496%2048
def Fh(x:Nat) :Bool:=XJ x != 2047
theorem Ow{x:Nat}(hx:x<Sb)(h:Fh x=true) :FloatKind.f64.format.read x=.number (x/9223372036854775808%2==1) (GA (x%9223372036854775808)) (-1074+(rb (x%9223372036854775808):Int)):=by
  have e1:Ieee.double.signWeight=9223372036854775808:=by decide
  have e2:Ieee.double.binade=4503599627370496:=by decide
  have e3:Ieee.double.infRung=9218868437227405312:=by decide
  have e4:Ieee.double.leastPlace = -1074:=by decide
  have hx:x<18446744073709551616:=hx
  have h':x%9223372036854775808<9218868437227405312:=by
    unfold Fh XJ at h;simp only [bne_iff_ne,ne_eq] at h;omega
  show Ieee.double.read x=_
  unfold Ieee.Format.read
  simp only [e1,e2,e3,e4]
  by_cases h3:x%9223372036854775808<4503599627370496
  · rw [if_pos h3]
    have:rb (x%9223372036854775808)=0:=by unfold rb;omega
    simp only [GA,if_pos h3,this];rfl
  · rw [if_neg h3,if_pos h']
    simp only [GA,if_neg h3,rb]
theorem PB{x:Nat}(hx:x<Sb)(h:x%9223372036854775808=9218868437227405312) :FloatKind.f64.format.read x=.infinity (x/9223372036854775808%2==1):=by
  have e1:Ieee.double.signWeight=9223372036854775808:=by decide
  have e2:Ieee.double.binade=4503599627370496:=by decide
  have e3:Ieee.double.infRung=9218868437227405312:=by decide
  have e4:Ieee.double.leastPlace = -1074:=by decide
  show Ieee.double.read x=_
  unfold Ieee.Format.read
  simp only [e1,e2,e3,e4]
  rw [h,if_neg (by decide),if_neg (by decide),if_pos rfl]
theorem Uk{x:Nat}(hx:x<Sb)(h:9218868437227405312<x%9223372036854775808) :isNaN x=true:=by
  have e1:Ieee.double.signWeight=9223372036854775808:=by decide
  have e2:Ieee.double.binade=4503599627370496:=by decide
  have e3:Ieee.double.infRung=9218868437227405312:=by decide
  have e4:Ieee.double.leastPlace = -1074:=by decide
  show (Ieee.double.read x).isNaN=true
  unfold Ieee.Format.read
  simp only [e1,e2,e3,e4]
  rw [if_neg (by omega),if_neg (by omega),if_neg (by omega)];rfl
theorem Wl{x:Nat}(hx:x<Sb)(h:Fh x=true) :isNaN x=false:=by
  show (Ieee.double.read x).isNaN=false
  have e:=Ow hx h
  have e':Ieee.double.read x=_:=e
  rw [e'];rfl
theorem Wm{x:Nat}(hx:x<Sb)(h:Fh x=true) :zI x x=false:=by
  unfold zI yr Ieee.Format.order
  rw [Ow hx h]
  simp [Ieee.Datum.order,Int.min_self]
theorem TC{x y:Nat}(h:isNaN x=true) :zI x y=true:=by
  obtain ⟨s,t,e⟩:=yu h
  unfold zI yr Ieee.Format.order
  rw [e];rfl
theorem PC{x:Nat}(hx:x<Sb)(h:Fh x=false) :isNaN x=true∨(isNaN x=false∧x%9223372036854775808=9218868437227405312∧zI x x=false):=by
  have hx':x<18446744073709551616:=hx
  have h':9218868437227405312≤x%9223372036854775808:=by
    unfold Fh XJ at h;simp only [bne_eq_false_iff_eq] at h;omega
  rcases Nat.lt_or_ge 9218868437227405312 (x%9223372036854775808) with q | q
  · exact .inl (Uk hx q)
  · have e:x%9223372036854775808=9218868437227405312:=by omega
    have r:=PB hx e
    refine .inr ⟨?_,e,?_⟩
    · show (Ieee.double.read x).isNaN=false
      have r':Ieee.double.read x=_:=r
      rw [r'];rfl
    · unfold zI yr Ieee.Format.order
      rw [r]
      simp [Ieee.Datum.order]
theorem RY{x:Nat}(hx:x<Sb) :eY x=x%9223372036854775808:=by
  unfold eY;rfl
theorem Wn{x:Nat}(hx:x<Sb)(h:Fh x=true) :KT (eY x) 9218868437227405311=false:=by
  have hx':x<18446744073709551616:=hx
  have h':x%9223372036854775808<9218868437227405312:=by
    unfold Fh XJ at h;simp only [bne_iff_ne,ne_eq] at h;omega
  unfold KT
  rw [RY hx,Vy h' (by decide)]
  rcases Nat.lt_trichotomy (x%9223372036854775808) 9218868437227405311 with q | q | q
  · rw [Nat.compare_eq_lt.2 q];rfl
  · rw [q];rfl
  · omega
theorem Wo{x:Nat}(hx:x<Sb)(h:x%9223372036854775808=9218868437227405312) :KT (eY x) 9218868437227405311=true:=by
  unfold KT
  rw [RY hx,h,SX (by decide)];rfl
theorem SY(s:Bool)(m k:Nat) :Ieee.signed s m k+Ieee.signed (!s) m k=0:=by
  cases s<;>simp [Ieee.signed]<;>omega
theorem VA{x:Nat}(hx:x<Sb)(h:Fh x=true) :kZ x x=0:=by
  unfold kZ Ieee.Format.sub
  rw [Ow hx h]
  simp only [Ieee.Datum.opposite,Ieee.Datum.sum,Int.min_self,Int.sub_self,SY,if_true]
  cases (x/9223372036854775808%2==1)<;>rfl
theorem VB{x:Nat}(hx:x<Sb)(h:Fh x=false) :zI (kZ x x) 0=true:=by
  have q:kZ x x=QV:=by
    unfold kZ Ieee.Format.sub
    rcases PC hx h with h1 | ⟨_,h1,_⟩
    · obtain ⟨s,t,e⟩:=yu h1
      rw [e];rfl
    · rw [PB hx h1]
      cases (x/9223372036854775808%2==1)<;>rfl
  rw [q]
  exact TC DH
theorem RZ{x:Nat}(hx:x<Sb) :zI (kZ x x) 0 = !(Fh x):=by
  cases h:Fh x
  · rw [VB hx h];rfl
  · rw [VA hx h];decide +kernel
def fz(x:Nat) :Int:=sg (x/9223372036854775808==1) (GA (x%9223372036854775808)*2^rb (x%9223372036854775808))
def Wd(l:List Nat) :Prop:=∀ i,l.getD i 0<Sb
def Fn(l:List Nat) :Prop:=∀ i,i<l.length→Fh (l.getD i 0)=true
end Go.Plb
namespace Go.Plb.Seat
open Go Go.Plb
set_option linter.unusedSimpArgs false
set_option linter.unusedVariables false
theorem QP{α:Type}{n:Nat}{l:List α}(h:l.length=n) :dg 0 n l=true:=by rw [←h];exact RX l
noncomputable def AK(l:List Nat) :Bool:=@decide (Fn l) (Classical.propDecidable _)
theorem tx{l:List Nat} :AK l=true↔Fn l:=@decide_eq_true_iff _ (Classical.propDecidable _)
theorem Ox{l:List Nat} :AK l=false↔¬ Fn l:=@decide_eq_false_iff_not _ (Classical.propDecidable _)
theorem R0{l:List Nat}(hw:Wd l)(hn:l.length≤1000000000) :∃ k:Int,ca l=some (.r0 k)∧decide (k≥0) = !(AK l):=by
  have step:∀ j,j<l.length→Fh (l.getD j 0)=true→fk l j=some (.inl (j+1)):=by
    intro j hj hf
    show (dp _ _).run=_
    unfold dp
    exact T.at (by simp only [ap,aP,aQ,au,ax,am,dr,dt,decide_eq_true_eq,decide_eq_false_iff_not,beq_iff_eq,beq_eq_false_iff_ne,bne_iff_ne,bne_eq_false_iff_eq,Bool.not_eq_true',Bool.not_eq_false',List.length_set,ne_eq,ge_iff_le,gt_iff_lt,cu,ah,fw];omega) (qI (by simp only [ap,aP,aQ,au,ax,am,dr,dt,decide_eq_true_eq,decide_eq_false_iff_not,beq_iff_eq,beq_eq_false_iff_ne,bne_iff_ne,bne_eq_false_iff_eq,Bool.not_eq_true',Bool.not_eq_false',List.length_set,ne_eq,ge_iff_le,gt_iff_lt,cu,ah,fw];omega) (qI (by simp only [ap,aP,aQ,au,ax,am,dr,dt,decide_eq_true_eq,decide_eq_false_iff_not,beq_iff_eq,beq_eq_false_iff_ne,bne_iff_ne,bne_eq_false_iff_eq,Bool.not_eq_true',Bool.not_eq_false',List.length_set,ne_eq,ge_iff_le,gt_iff_lt,cu,ah,fw];omega) (AJ (Wm (hw j) hf) (JO (AJ (Wn (hw j) hf) (qI (by simp only [ap,aP,aQ,au,ax,am,dr,dt,decide_eq_true_eq,decide_eq_false_iff_not,beq_iff_eq,beq_eq_false_iff_ne,bne_iff_ne,bne_eq_false_iff_eq,Bool.not_eq_true',Bool.not_eq_false',List.length_set,ne_eq,ge_iff_le,gt_iff_lt,cu,ah,fw];omega) rfl))))))
  by_cases h:Fn l
  · refine ⟨-1,jP (bN (a:=()) rfl (bN (a:=()) (wW (fun j=>j) l.length rfl (fun j hj=>step j hj (h j hj)) (AJ (by simp only [ap,aP,aQ,au,ax,am,dr,dt,decide_eq_true_eq,decide_eq_false_iff_not,beq_iff_eq,beq_eq_false_iff_ne,bne_iff_ne,bne_eq_false_iff_eq,Bool.not_eq_true',Bool.not_eq_false',List.length_set,ne_eq,ge_iff_le,gt_iff_lt,cu,ah,fw];omega) rfl)) rfl)),?_⟩
    rw [tx.2 h];rfl
  · obtain ⟨k,hk,hb,hf⟩:=KP (p:=fun i=>Fh (l.getD i 0)=true) h
    have hbf:Fh (l.getD k 0)=false:=by cases q:Fh (l.getD k 0) with | true=>exact absurd q hb | false=>rfl
    refine ⟨(k:Int),jP (bN (a:=()) rfl (ru (wW (fun j=>j) k rfl (fun j hj=>step j (by omega) (hf j hj)) ?_))),?_⟩
    · show (dp _ _).run=_
      unfold dp
      refine T.at (by simp only [ap,aP,aQ,au,ax,am,dr,dt,decide_eq_true_eq,decide_eq_false_iff_not,beq_iff_eq,beq_eq_false_iff_ne,bne_iff_ne,bne_eq_false_iff_eq,Bool.not_eq_true',Bool.not_eq_false',List.length_set,ne_eq,ge_iff_le,gt_iff_lt,cu,ah,fw];omega) (qI (by simp only [ap,aP,aQ,au,ax,am,dr,dt,decide_eq_true_eq,decide_eq_false_iff_not,beq_iff_eq,beq_eq_false_iff_ne,bne_iff_ne,bne_eq_false_iff_eq,Bool.not_eq_true',Bool.not_eq_false',List.length_set,ne_eq,ge_iff_le,gt_iff_lt,cu,ah,fw];omega) (qI (by simp only [ap,aP,aQ,au,ax,am,dr,dt,decide_eq_true_eq,decide_eq_false_iff_not,beq_iff_eq,beq_eq_false_iff_ne,bne_iff_ne,bne_eq_false_iff_eq,Bool.not_eq_true',Bool.not_eq_false',List.length_set,ne_eq,ge_iff_le,gt_iff_lt,cu,ah,fw];omega) ?_))
      rcases PC (hw k) hbf with q | ⟨q1,q2,q3⟩
      · exact T.at (TC q) rfl
      · exact AJ q3 (JO (T.at (Wo (hw k) q2) rfl))
    · rw [Ox.2 h,decide_eq_true (by omega)];rfl
theorem GY{l:List Nat}(hw:Wd l)(hn:l.length≤1000000000) :io l=some (.r0 (AK l)):=by
  have step:∀ j,j<l.length→Fh (l.getD j 0)=true→sV l j=some (.inl (j+1)):=by
    intro j hj hf
    show (rj _ _).run=_
    unfold rj
    exact T.at (by simp only [ap,aP,aQ,au,ax,am,dr,dt,decide_eq_true_eq,decide_eq_false_iff_not,beq_iff_eq,beq_eq_false_iff_ne,bne_iff_ne,bne_eq_false_iff_eq,Bool.not_eq_true',Bool.not_eq_false',List.length_set,ne_eq,ge_iff_le,gt_iff_lt,cu,ah,fw];omega) (qI (by simp only [ap,aP,aQ,au,ax,am,dr,dt,decide_eq_true_eq,decide_eq_false_iff_not,beq_iff_eq,beq_eq_false_iff_ne,bne_iff_ne,bne_eq_false_iff_eq,Bool.not_eq_true',Bool.not_eq_false',List.length_set,ne_eq,ge_iff_le,gt_iff_lt,cu,ah,fw];omega) (qI (by simp only [ap,aP,aQ,au,ax,am,dr,dt,decide_eq_true_eq,decide_eq_false_iff_not,beq_iff_eq,beq_eq_false_iff_ne,bne_iff_ne,bne_eq_false_iff_eq,Bool.not_eq_true',Bool.not_eq_false',List.length_set,ne_eq,ge_iff_le,gt_iff_lt,cu,ah,fw];omega) (qI (by simp only [ap,aP,aQ,au,ax,am,dr,dt,decide_eq_true_eq,decide_eq_false_iff_not,beq_iff_eq,beq_eq_false_iff_ne,bne_iff_ne,bne_eq_false_iff_eq,Bool.not_eq_true',Bool.not_eq_false',List.length_set,ne_eq,ge_iff_le,gt_iff_lt,cu,ah,fw];omega) (qI (by simp only [ap,aP,aQ,au,ax,am,dr,dt,decide_eq_true_eq,decide_eq_false_iff_not,beq_iff_eq,beq_eq_false_iff_ne,bne_iff_ne,bne_eq_false_iff_eq,Bool.not_eq_true',Bool.not_eq_false',List.length_set,ne_eq,ge_iff_le,gt_iff_lt,cu,ah,fw];omega) (AJ (by rw [RZ (hw j),hf];rfl) (qI (by simp only [ap,aP,aQ,au,ax,am,dr,dt,decide_eq_true_eq,decide_eq_false_iff_not,beq_iff_eq,beq_eq_false_iff_ne,bne_iff_ne,bne_eq_false_iff_eq,Bool.not_eq_true',Bool.not_eq_false',List.length_set,ne_eq,ge_iff_le,gt_iff_lt,cu,ah,fw];omega) rfl))))))
  by_cases h:Fn l
  · rw [tx.2 h]
    exact jP (bN (a:=()) rfl (bN (a:=()) (wW (fun j=>j) l.length rfl (fun j hj=>step j hj (h j hj)) (AJ (by simp only [ap,aP,aQ,au,ax,am,dr,dt,decide_eq_true_eq,decide_eq_false_iff_not,beq_iff_eq,beq_eq_false_iff_ne,bne_iff_ne,bne_eq_false_iff_eq,Bool.not_eq_true',Bool.not_eq_false',List.length_set,ne_eq,ge_iff_le,gt_iff_lt,cu,ah,fw];omega) rfl)) rfl))
  · obtain ⟨k,hk,hb,hf⟩:=KP (p:=fun i=>Fh (l.getD i 0)=true) h
    have hbf:Fh (l.getD k 0)=false:=by cases q:Fh (l.getD k 0) with | true=>exact absurd q hb | false=>rfl
    rw [Ox.2 h]
    refine jP (bN (a:=()) rfl (ru (wW (fun j=>j) k rfl (fun j hj=>step j (by omega) (hf j hj)) ?_)))
    show (rj _ _).run=_
    unfold rj
    exact T.at (by simp only [ap,aP,aQ,au,ax,am,dr,dt,decide_eq_true_eq,decide_eq_false_iff_not,beq_iff_eq,beq_eq_false_iff_ne,bne_iff_ne,bne_eq_false_iff_eq,Bool.not_eq_true',Bool.not_eq_false',List.length_set,ne_eq,ge_iff_le,gt_iff_lt,cu,ah,fw];omega) (qI (by simp only [ap,aP,aQ,au,ax,am,dr,dt,decide_eq_true_eq,decide_eq_false_iff_not,beq_iff_eq,beq_eq_false_iff_ne,bne_iff_ne,bne_eq_false_iff_eq,Bool.not_eq_true',Bool.not_eq_false',List.length_set,ne_eq,ge_iff_le,gt_iff_lt,cu,ah,fw];omega) (qI (by simp only [ap,aP,aQ,au,ax,am,dr,dt,decide_eq_true_eq,decide_eq_false_iff_not,beq_iff_eq,beq_eq_false_iff_ne,bne_iff_ne,bne_eq_false_iff_eq,Bool.not_eq_true',Bool.not_eq_false',List.length_set,ne_eq,ge_iff_le,gt_iff_lt,cu,ah,fw];omega) (qI (by simp only [ap,aP,aQ,au,ax,am,dr,dt,decide_eq_true_eq,decide_eq_false_iff_not,beq_iff_eq,beq_eq_false_iff_ne,bne_iff_ne,bne_eq_false_iff_eq,Bool.not_eq_true',Bool.not_eq_false',List.length_set,ne_eq,ge_iff_le,gt_iff_lt,cu,ah,fw];omega) (qI (by simp only [ap,aP,aQ,au,ax,am,dr,dt,decide_eq_true_eq,decide_eq_false_iff_not,beq_iff_eq,beq_eq_false_iff_ne,bne_iff_ne,bne_eq_false_iff_eq,Bool.not_eq_true',Bool.not_eq_false',List.length_set,ne_eq,ge_iff_le,gt_iff_lt,cu,ah,fw];omega) (T.at (by rw [RZ (hw k),hbf];rfl) rfl)))))
theorem QQ{l:List Nat}(h:l.length≤1000000) :rt l l=some (.r0 true):=by
  refine jP (bN (a:=()) (AJ (by simp) rfl) (bN (a:=()) (wW (fun i=>i) l.length rfl (fun j hj=>?_) ?_) rfl))
  · show (xV _ _ _).run=_
    unfold xV
    rw [SM]
    exact (T.at (by simp only [ap,aP,aQ,au,ax,am,dr,dt,decide_eq_true_eq,decide_eq_false_iff_not,beq_iff_eq,beq_eq_false_iff_ne,bne_iff_ne,bne_eq_false_iff_eq,Bool.not_eq_true',Bool.not_eq_false',List.length_set,ne_eq,ge_iff_le,gt_iff_lt,cu,ah,fw];omega) (qI (by simp only [ap,aP,aQ,au,ax,am,dr,dt,decide_eq_true_eq,decide_eq_false_iff_not,beq_iff_eq,beq_eq_false_iff_ne,bne_iff_ne,bne_eq_false_iff_eq,Bool.not_eq_true',Bool.not_eq_false',List.length_set,ne_eq,ge_iff_le,gt_iff_lt,cu,ah,fw];omega) (qI (by simp only [ap,aP,aQ,au,ax,am,dr,dt,decide_eq_true_eq,decide_eq_false_iff_not,beq_iff_eq,beq_eq_false_iff_ne,bne_iff_ne,bne_eq_false_iff_eq,Bool.not_eq_true',Bool.not_eq_false',List.length_set,ne_eq,ge_iff_le,gt_iff_lt,cu,ah,fw];omega) (qI (by simp only [ap,aP,aQ,au,ax,am,dr,dt,decide_eq_true_eq,decide_eq_false_iff_not,beq_iff_eq,beq_eq_false_iff_ne,bne_iff_ne,bne_eq_false_iff_eq,Bool.not_eq_true',Bool.not_eq_false',List.length_set,ne_eq,ge_iff_le,gt_iff_lt,cu,ah,fw];omega) (qI (by simp only [ap,aP,aQ,au,ax,am,dr,dt,decide_eq_true_eq,decide_eq_false_iff_not,beq_iff_eq,beq_eq_false_iff_ne,bne_iff_ne,bne_eq_false_iff_eq,Bool.not_eq_true',Bool.not_eq_false',List.length_set,ne_eq,ge_iff_le,gt_iff_lt,cu,ah,fw];omega) (Gz (qI (by simp only [ap,aP,aQ,au,ax,am,dr,dt,decide_eq_true_eq,decide_eq_false_iff_not,beq_iff_eq,beq_eq_false_iff_ne,bne_iff_ne,bne_eq_false_iff_eq,Bool.not_eq_true',Bool.not_eq_false',List.length_set,ne_eq,ge_iff_le,gt_iff_lt,cu,ah,fw];omega) rfl)))))))
  · exact AJ (by simp only [ap,aP,aQ,au,ax,am,dr,dt,decide_eq_true_eq,decide_eq_false_iff_not,beq_iff_eq,beq_eq_false_iff_ne,bne_iff_ne,bne_eq_false_iff_eq,Bool.not_eq_true',Bool.not_eq_false',List.length_set,ne_eq,ge_iff_le,gt_iff_lt,cu,ah,fw];omega) rfl
def QR(D E:List Nat) :Bool:=decide (D.length≤512∧E.length=D.length-1)
theorem R1{D E:List Nat}(hD:D.length≤1000000) :qd D E=some (.r0 (QR D E)):=by
  refine jP (bN (a:=QR D E) ?_ rfl)
  unfold FI
  by_cases h:D.length≤512
  · refine T.at (by rw [decide_eq_true_eq];omega) (qI (by simp only [ap,aP,aQ,au,ax,am,dr,dt,decide_eq_true_eq,decide_eq_false_iff_not,beq_iff_eq,beq_eq_false_iff_ne,bne_iff_ne,bne_eq_false_iff_eq,Bool.not_eq_true',Bool.not_eq_false',List.length_set,ne_eq,ge_iff_le,gt_iff_lt,cu,ah,fw];omega) ?_)
    show some (Sum.inl (_==_))=_
    congr 2
    unfold QR V1
    by_cases h2:E.length=D.length-1
    · rw [decide_eq_true ⟨h,h2⟩,beq_iff_eq]
      split<;>omega
    · rw [decide_eq_false (fun q=>h2 q.2),beq_eq_false_iff_ne]
      split<;>omega
  · have:QR D E=false:=decide_eq_false fun q=>h q.1
    rw [this]
    exact AJ (by rw [decide_eq_false_iff_not];omega) rfl
theorem Ul{D E:List Nat}(hD:D.length≤1000000) :qJ D E=some (.r0 (QR D E)):=by
  refine jP (bN (a:=QR D E) ?_ rfl)
  unfold Ji
  by_cases h:D.length≤512
  · refine T.at (by rw [decide_eq_true_eq];omega) ?_
    by_cases h0:D.length=0
    · refine T.at (by rw [beq_iff_eq];omega) ?_
      by_cases h1:E.length=0
      · have:QR D E=true:=decide_eq_true ⟨h,by omega⟩
        rw [this]
        exact T.at (by rw [beq_iff_eq];omega) rfl
      · have:QR D E=false:=decide_eq_false fun q=>h1 (by omega)
        rw [this]
        exact AJ (by rw [beq_eq_false_iff_ne];omega) (AJ (by rw [decide_eq_false_iff_not];omega) rfl)
    · refine AJ (by rw [beq_eq_false_iff_ne];omega) (T.at (by rw [decide_eq_true_eq];omega) (qI (by simp only [ap,aP,aQ,au,ax,am,dr,dt,decide_eq_true_eq,decide_eq_false_iff_not,beq_iff_eq,beq_eq_false_iff_ne,bne_iff_ne,bne_eq_false_iff_eq,Bool.not_eq_true',Bool.not_eq_false',List.length_set,ne_eq,ge_iff_le,gt_iff_lt,cu,ah,fw];omega) ?_))
      show some (Sum.inl (_==_))=_
      congr 2
      unfold QR
      by_cases h2:E.length=D.length-1
      · rw [decide_eq_true ⟨h,h2⟩,beq_iff_eq];omega
      · rw [decide_eq_false (fun q=>h2 q.2),beq_eq_false_iff_ne];omega
  · have:QR D E=false:=decide_eq_false fun q=>h q.1
    rw [this]
    exact AJ (by rw [decide_eq_false_iff_not];omega) rfl
theorem R2{D E:List Nat}(wD:Wd D)(wE:Wd E)(hD:D.length≤1000000)(hE:E.length≤1000000)(h:QR D E=true) :uC D E=some (.r0 (bif AK D&&AK E then 0 else 10)):=by
  obtain ⟨k1,i1,j1⟩:=R0 wD (by omega)
  obtain ⟨k2,i2,j2⟩:=R0 wE (by omega)
  have t3:(z7 D E).run=some (bif AK D&&AK E then .inl () else .inr (.r0 10)):=by
    unfold z7
    rw [ak,ak,R1 hD,h,i1,i2]
    have n1:(!(!(decide (ct (some (.r0 k1))≥(0:Int))))) = !(AK D):=by rw [Bool.not_not];exact j1
    have n2:(!(!(decide (ct (some (.r0 k2))≥(0:Int))))) = !(AK E):=by rw [Bool.not_not];exact j2
    rw [n1,n2]
    cases AK D
    · exact (lP (lP (vX (Gz (lP (vX (JO rfl)))))))
    cases AK E
    · exact (lP (lP (vX (Gz (lP (vX (Gz (lP (vX (JO rfl))))))))))
    · exact (lP (lP (vX (Gz (lP (vX (Gz (lP (vX (Gz rfl))))))))))
  cases q:(AK D&&AK E)
  · rw [q] at t3
    exact jP (ru t3)
  · rw [q] at t3
    exact jP (bN t3 rfl)
end Go.Plb.Seat
namespace Go.Plb
set_option linter.unusedSimpArgs false
set_option linter.unusedVariables false
set_option linter.unusedSectionVars false
variable [Rom]
def iU{α:Type}(m:Option α)(Q:α→Prop) :Prop:=∃ r,m=some r∧Q r
theorem iU.mono{α:Type}{m:Option α}{Q R:α→Prop}(h:iU m Q)(k:∀ r,Q r→R r) :iU m R:=by
  obtain ⟨r,a,b⟩:=h
  exact ⟨r,a,k r b⟩
def T.wp{α:Type}(Q:α→Prop) :T α→Prop
  | .fail=>False
  | .leaf a=>Q a
  | .ask b t f=>(b=true→t.wp Q)∧(b=false→f.wp Q)
  | .need b t=>b=true∧t.wp Q
  | .alt _ t e=>t.wp Q∨(t.run=none∧e.wp Q)
theorem aJ{α:Type}{Q:α→Prop} :∀ {t:T α},t.wp Q→iU t.run Q
  | .fail,h=>h.elim
  | .leaf a,h=>⟨a,rfl,h⟩
  | .ask b t f,h=>by
    cases b
    · obtain ⟨r,a,b⟩:=aJ (h.2 rfl)
      exact ⟨r,a,b⟩
    · obtain ⟨r,a,b⟩:=aJ (h.1 rfl)
      exact ⟨r,a,b⟩
  | .need b t,h=>by
    obtain ⟨q,h⟩:=h
    obtain ⟨r,a,b⟩:=aJ h
    exact ⟨r,qI q a,b⟩
  | .alt k t e,h=>by
    rcases h with h | ⟨h1,h2⟩
    · obtain ⟨r,a,b⟩:=aJ h
      exact ⟨r,XP a,b⟩
    · obtain ⟨r,a,b⟩:=aJ h2
      exact ⟨r,by simp only [T.run,h1];exact a,b⟩
theorem iU.seq{α β X:Type}{m:Option (α⊕X)}{k:α→Option (β⊕X)}{N:β→Prop}{E:X→Prop}(h:iU m (Sum.elim (fun a=>iU (k a) (Sum.elim N E)) E)) :iU (bd m k) (Sum.elim N E):=by
  obtain ⟨r,a,b⟩:=h
  cases r with
  | inl x =>
    obtain ⟨r',a',b'⟩:=b
    exact ⟨r',bN a a',b'⟩
  | inr x=>exact ⟨.inr x,ru a,b⟩
theorem an{α β X:Type}{m:Option (α⊕X)}{k:α→Option (β⊕X)}(M:α→Prop){N:β→Prop}{E:X→Prop}(h:iU m (Sum.elim M E))(q:∀ a,M a→iU (k a) (Sum.elim N E)) :iU (bd m k) (Sum.elim N E):=by
  obtain ⟨r,a,b⟩:=h
  cases r with
  | inl x =>
    obtain ⟨r',a',b'⟩:=q x b
    exact ⟨r',bN a a',b'⟩
  | inr x=>exact ⟨.inr x,ru a,b⟩
theorem iU.join{κ X:Type}{m:Option (κ⊕(κ⊕X))}{N:κ→Prop}{E:X→Prop}(h:iU m (Sum.elim N (Sum.elim N E))) :iU (vO m) (Sum.elim N E):=by
  obtain ⟨r,a,b⟩:=h
  rcases r with x | x | x
  · exact ⟨.inl x,Vx a,b⟩
  · exact ⟨.inl x,Ui a,b⟩
  · exact ⟨.inr x,PA a,b⟩
theorem iU.loop{σ Y:Type}{B:σ→Option (σ⊕Y)}(I:σ→Prop)(m:σ→Nat){Q:Y→Prop}{s:σ}(h0:I s)(h:∀ s,I s→iU (B s) (Sum.elim (fun s'=>I s'∧m s'<m s) Q)) :iU (cm B s) Q:=by
  obtain ⟨y,a,b⟩:=Ua I m Q (fun s hs=>by
    obtain ⟨r,a,b⟩:=h s hs
    cases r with
    | inl x=>exact .inl ⟨x,a,b.1,b.2⟩
    | inr y=>exact .inr ⟨y,a,b⟩) s h0
  exact ⟨y,a,b⟩
theorem qy{X:Type}{m:Option (Empty⊕X)}{E:X→Prop}(h:iU m (Sum.elim (fun _=>True) E)) :iU (toX m) E:=by
  obtain ⟨r,a,b⟩:=h
  cases r with
  | inl x=>exact x.elim
  | inr x=>exact ⟨x,jP a,b⟩
theorem iU.map{α R:Type}{m:Option α}{g:α→R}{E:R→Prop}(h:iU m fun a=>E (g a)) :iU (Option.map g m) E:=by
  obtain ⟨r,a,b⟩:=h
  exact ⟨g r,by rw [a];rfl,b⟩
theorem sR{α X R:Type}{m:Option (α⊕X)}{g:α⊕X→R}{E:R→Prop}(h:iU m (Sum.elim (fun a=>E (g (.inl a))) fun x=>E (g (.inr x)))) :iU (Option.map g m) E:=by
  obtain ⟨r,a,b⟩:=h
  refine ⟨g r,by rw [a];rfl,?_⟩
  cases r<;>exact b
theorem iU.some{α:Type}{a:α}{Q:α→Prop}(h:Q a) :iU (some a) Q:=⟨a,rfl,h⟩
end Go.Plb
namespace Go.Plb.Seat
open Go Go.Plb
set_option linter.unusedSimpArgs false
set_option linter.unusedVariables false
theorem VC{n0 c1 n2 c3 R C:Nat}{l8 l9 l10:List Nat}{i:Int}{c s:Nat}(hl:l10.length=R*C)(hR:R≤512)(hC:C≤512)(h0:0≤i)(h1:i+1<C) :
    iU (cw n0 c1 n2 c3 R C (R*C) (R*C) l8 l9 l10 i c s) fun x=>∃ l,x=.r0 n0 c1 n2 c3 R C (R*C) (R*C) l8 l9 l∧l.length=l10.length:=by
  have hRC:R*C≤262144:=Nat.mul_le_mul hR hC
  refine sR (an (fun _=>True) (aJ ?_) fun _ _=>?_)
  · unfold yC
    trivial
  refine an (fun l=>l.length=l10.length) (iU.loop (fun p=>p.1≤R∧p.2.length=l10.length) (fun p=>R-p.1) ⟨Nat.zero_le _,rfl⟩ ?_) fun l hl'=>aJ ?_
  · rintro ⟨a,l⟩ ⟨ha,hll⟩
    unfold pV
    dsimp only at ha hll ⊢
    refine an (fun l'=>l'.length=l10.length∧a<R) (aJ ?_) fun l' hl'=>aJ ?_
    · unfold yD
      have e:((a:Int))*(C:Int)=((a*C:Nat):Int):=by rw [Int.natCast_mul]
      rw [e]
      simp only [T.wp,Sum.elim_inl,Sum.elim_inr,decide_eq_true_eq,decide_eq_false_iff_not,ap,aP,aQ,au,aB,List.length_set,ah]
      refine ⟨fun h=>?_,fun h=>?_⟩
      · have q:(a+1)*C≤R*C:=Nat.mul_le_mul_right C (by omega)
        rw [Nat.add_mul,Nat.one_mul] at q
        generalize a*C=p at *
        generalize R*C=z at *
        omega
      · exact hll
    · unfold yE
      simp only [T.wp,Sum.elim_inl,ap]
      omega
  · unfold yF
    simp only [T.wp,Sum.elim_inl]
    exact ⟨l,rfl,hl'⟩
theorem W9{a b:Nat}(h:KT a b=true) :isNaN a=false∧isNaN b=false:=by
  refine ⟨?_,?_⟩
  · cases q:isNaN a
    · rfl
    · unfold KT at h;rw [DI (.inl q)] at h;cases h
  · cases q:isNaN b
    · rfl
    · unfold KT at h;rw [DI (.inr q)] at h;cases h
theorem Um{a b:Nat}(h:isNaN a=true) :isNaN (cY a b)=true:=by
  obtain ⟨s,t,e⟩:=yu h
  unfold cY Ieee.Format.mul
  rw [e,Hl]
  exact DH
theorem Xa{a b:Bool}(h:a=true→b=true) :(!a||b)=true:=by cases a<;>simp_all
abbrev X1:=Nat×Nat×Nat×Nat×Int×Nat×Nat×Nat×Nat×Int×Int×Nat×Nat×List Nat×List Nat×List Nat
structure XS (n0 c1 n2 c3 R C N:Nat) (a28 a29 a30 a31:Nat) (i33 i34:Int) (a35 a36:Nat) (l37 l38 l39:List Nat):Prop where
  e1:n0=a28
  e2:c1=a29
  e3:n2=a30
  e4:c3=a31
  e5:(R:Int)=i33
  e6:(C:Int)=i34
  e7:R*C=a35
  e8:R*C=a36
  d:l37.length=N
  e:l38.length=N
  z:l39.length=R*C
theorem Un{N c1 c3 R:Nat}{l8 l9 l10:List Nat}{l m:Int}(h8:l8.length=N)(h9:l9.length=N)(h10:l10.length=R*N)(hR:R≤512)(hN:N≤512)(h0:0≤l)(h1:l<m)(h2:m+1≤N) :
    iU (cd N c1 N c3 R N (R*N) (R*N) l8 l9 l10 l m) fun x=>∃ d e z,x=.r0 N c1 N c3 R N (R*N) (R*N) d e z∧d.length=N∧e.length=N∧z.length=R*N:=by
  refine sR (an (fun p=>isNaN p.1=true→isNaN p.2=true) (aJ ?_) ?_)
  · unfold xe
    simp only [T.wp,Sum.elim_inl,Sum.elim_inr,decide_eq_true_eq,decide_eq_false_iff_not,ap,aP,aQ,au,h8,h9]
    refine ⟨by omega,by omega,by omega,by omega,by omega,by omega,by omega,fun h=>?_,fun h=>?_⟩
    · have:=(W9 h).2
      rw [zX] at this
      exact ⟨fun _ q=>(by rw [this] at q;cases q),fun _ q=>(by rw [this] at q;cases q)⟩
    · exact ⟨fun _ q=>(by rw [zX];exact q),fun _ q=>Um (by rw [zX];exact q)⟩
  rintro ⟨g1,r2⟩ hg
  refine an (fun p=>p.2=m-1) (aJ ?_) ?_
  · unfold xf
    simp only [T.wp,Sum.elim_inl,Sum.elim_inr,decide_eq_true_eq,decide_eq_false_iff_not,ap,aP,aQ,au,h8,h9]
    exact ⟨by omega,by omega,by omega,by omega,by omega,by omega,Xa hg,by omega,trivial⟩
  rintro ⟨g3,i4⟩ hi4
  dsimp only at hi4 ⊢
  subst hi4
  refine an (fun (p:Nat×Nat×Nat×Nat×Nat×Nat×Int×Int×Nat×Nat×List Nat×List Nat×List Nat)=>XS N c1 N c3 R N N p.2.2.1 p.2.2.2.1 p.2.2.2.2.1 p.2.2.2.2.2.1 p.2.2.2.2.2.2.1 p.2.2.2.2.2.2.2.1 p.2.2.2.2.2.2.2.2.1 p.2.2.2.2.2.2.2.2.2.1 p.2.2.2.2.2.2.2.2.2.2.1 p.2.2.2.2.2.2.2.2.2.2.2.1 p.2.2.2.2.2.2.2.2.2.2.2.2)
    (iU.loop (fun (p:X1)=>XS N c1 N c3 R N N p.2.2.2.2.2.1 p.2.2.2.2.2.2.1 p.2.2.2.2.2.2.2.1 p.2.2.2.2.2.2.2.2.1 p.2.2.2.2.2.2.2.2.2.1 p.2.2.2.2.2.2.2.2.2.2.1 p.2.2.2.2.2.2.2.2.2.2.2.1 p.2.2.2.2.2.2.2.2.2.2.2.2.1 p.2.2.2.2.2.2.2.2.2.2.2.2.2.1 p.2.2.2.2.2.2.2.2.2.2.2.2.2.2.1 p.2.2.2.2.2.2.2.2.2.2.2.2.2.2.2∧l-1≤p.2.2.2.2.1∧p.2.2.2.2.1≤m-1) (fun p=>(p.2.2.2.2.1-l+1).toNat) ⟨⟨rfl,rfl,rfl,rfl,rfl,rfl,rfl,rfl,h8,h9,h10⟩,by dsimp only;omega,by dsimp only;omega⟩ ?_) ?_
  · rintro ⟨g,s,c,p,i,a28,a29,a30,a31,i33,i34,a35,a36,l37,l38,l39⟩ ⟨⟨e1,e2,e3,e4,e5,e6,e7,e8,hd,he,hz⟩,b1,b2⟩
    dsimp only at e1 e2 e3 e4 e5 e6 e7 e8 hd he hz b1 b2 ⊢
    subst e1 e2 e3 e4 e5 e6 e7 e8
    unfold pc
    dsimp only
    refine an (fun _=>l≤i) (aJ ?_) fun _ hli=>?_
    · unfold xh
      simp only [T.wp,Sum.elim_inl,Sum.elim_inr,decide_eq_true_eq,decide_eq_false_iff_not]
      exact ⟨fun h=>h,fun _=>⟨rfl,rfl,rfl,rfl,rfl,rfl,rfl,rfl,hd,he,hz⟩⟩
    refine an (fun (p:Nat×Nat×Nat×Nat×Nat×Nat×Nat×Nat×Int×Int×Nat×Nat×List Nat×List Nat×List Nat)=>XS N c1 N c3 R N N p.2.2.2.2.1 p.2.2.2.2.2.1 p.2.2.2.2.2.2.1 p.2.2.2.2.2.2.2.1 p.2.2.2.2.2.2.2.2.1 p.2.2.2.2.2.2.2.2.2.1 p.2.2.2.2.2.2.2.2.2.2.1 p.2.2.2.2.2.2.2.2.2.2.2.1 p.2.2.2.2.2.2.2.2.2.2.2.2.1 p.2.2.2.2.2.2.2.2.2.2.2.2.2.1 p.2.2.2.2.2.2.2.2.2.2.2.2.2.2) (iU.join (an (fun _=>True) (aJ ?_) fun q _=>?_)) ?_
    · unfold xj
      simp only [T.wp,Sum.elim_inl,Sum.elim_inr,decide_eq_true_eq,decide_eq_false_iff_not,ap,aP,aQ,au,he]
      exact ⟨by omega,by omega,by omega,by omega,fun _=>⟨fun _=>trivial,fun _=>trivial⟩,fun _=>⟨fun _=>trivial,fun _=>trivial⟩⟩
    · obtain ⟨r40,f41,b42⟩:=q
      refine an (fun p=>p.2.2.2.2.1.length=N∧p.2.2.2.2.2.length=N) (aJ ?_) ?_
      · unfold xk
        simp only [T.wp,Sum.elim_inl,Sum.elim_inr,decide_eq_true_eq,decide_eq_false_iff_not,ap,aP,aQ,au,List.length_set,he,hd]
        exact ⟨by omega,by omega,by omega,fun _=>⟨by omega,by omega,by omega,by omega,by omega,by omega,by omega,⟨_,_,_,rfl,by rw [List.length_set,hd],by rw [List.length_set,List.length_set,he],hz⟩⟩,fun _=>⟨by omega,by omega,by omega,by omega,by omega,by omega,by omega,by omega,trivial,trivial⟩⟩
      · rintro ⟨r43,s44,c45,p46,l47,l48⟩ ⟨h47,h48⟩
        dsimp only at h47 h48 ⊢
        obtain ⟨x,hx,lz,rfl,hlz⟩:=VC (n0:=N) (c1:=c1) (n2:=N) (c3:=c3) (R:=R) (C:=N) (l8:=l47) (l9:=l48) (l10:=l39) (i:=i) (c:=c45) (s:=s44) hz hR hN (by omega) (by omega)
        refine aJ ?_
        unfold xl
        rw [hx]
        exact ⟨rfl,rfl,rfl,rfl,rfl,rfl,rfl,rfl,rfl,h47,h48,by rw [←hz];exact hlz⟩
    · rintro ⟨x1,x2,x3,x4,x5,x6,x7,x8,x9,x10,x11,x12,x13,x14,x15⟩ hs
      refine aJ ?_
      unfold xm
      simp only [T.wp,Sum.elim_inl,ap]
      exact ⟨by omega,⟨hs,by omega,by omega⟩,by omega⟩
  · rintro ⟨g64,p65,a66,a67,a68,a69,i70,i71,a72,a73,l74,l75,l76⟩ ⟨e1,e2,e3,e4,e5,e6,e7,e8,hd,he,hz⟩
    dsimp only at e1 e2 e3 e4 e5 e6 e7 e8 hd he hz ⊢
    subst e1 e2 e3 e4 e5 e6 e7 e8
    refine aJ ?_
    unfold xn
    simp only [T.wp,Sum.elim_inl,Sum.elim_inr,aP,au,List.length_set,he,hd]
    exact ⟨by omega,by omega,by omega,by omega,by omega,by omega,by omega,by omega,_,_,_,rfl,by rw [List.length_set,hd],by rw [List.length_set,List.length_set,he],hz⟩
def gd(x:Nat) :Bool:=!(zI x x) && !(KT (eY x) 9218868437227405311)
def GD(l:List Nat) :Prop:=∀ i,i<l.length→gd (l.getD i 0)=true
theorem VD{x:Nat}(h:gd x=true) :zI x x=false∧KT (eY x) 9218868437227405311=false:=by
  unfold gd at h
  cases a:zI x x<;>cases b:KT (eY x) 9218868437227405311<;>rw [a,b] at h<;>first | exact ⟨rfl,rfl⟩ | cases h
theorem JQ(l:List Nat)(hn:l.length≤1000000) :iU (bn l) fun x=>∃ k:Int,x=.r0 k∧((k≥0∧¬ GD l)∨(k<0∧GD l)):=by
  refine qy (an (fun _=>True) (aJ ?_) fun _ _=>?_)
  · unfold nT
    trivial
  refine an (fun _=>GD l) (iU.loop (fun a=>a≤l.length∧∀ i,i<a→gd (l.getD i 0)=true) (fun a=>l.length-a) ⟨by omega,fun i hi=>by omega⟩ ?_) fun _ hg=>aJ ?_
  · rintro a ⟨ha,hg⟩
    unfold fP
    refine aJ ?_
    unfold nV
    simp only [T.wp,Sum.elim_inl,Sum.elim_inr,decide_eq_true_eq,decide_eq_false_iff_not,ap,aP,aQ,au,ax,am,aB,ah,List.length_set,List.length_replicate,beq_iff_eq,beq_eq_false_iff_ne,bne_iff_ne,bne_eq_false_iff_eq,Bool.not_eq_true',Bool.not_eq_false',ne_eq,ak,Int.toNat_natCast]
    refine ⟨fun h=>⟨by omega,by omega,fun h1=>⟨_,rfl,.inl ⟨by omega,fun z=>?_⟩⟩,fun h1=>⟨fun _=>⟨fun h2=>⟨_,rfl,.inl ⟨by omega,fun z=>?_⟩⟩,fun h2=>⟨by omega,⟨by omega,fun i hi=>?_⟩,by omega⟩⟩,fun q=>absurd trivial (by simp at q)⟩⟩,fun h i hi=>hg i (by omega)⟩
    · have:=VD (z a (by omega))
      rw [h1] at this
      cases this.1
    · have:=VD (z a (by omega))
      rw [h2] at this
      cases this.2
    by_cases q:i<a
    · exact hg i q
    · have:i=a:=by omega
      subst this
      unfold gd
      rw [h1,h2];rfl
  · unfold mX
    exact ⟨_,rfl,.inr ⟨by omega,hg⟩⟩
theorem PD{r c:Int}{l:List Nat} :z9 r c l=some (.r0 (decide (0≤r∧r≤512∧0≤c∧c≤512∧(l.length:Int)=r*c))):=by
  by_cases h1:0≤r
  · by_cases h2:r≤512
    · by_cases h3:0≤c
      · by_cases h4:c≤512
        · have:0≤r*c∧r*c≤262144:=by
            obtain ⟨a,rfl⟩:=Int.eq_ofNat_of_zero_le h1
            obtain ⟨b,rfl⟩:=Int.eq_ofNat_of_zero_le h3
            have:=Nat.mul_le_mul (show a≤512 by omega) (show b≤512 by omega)
            omega
          refine jP (bN (a:=decide (0≤r∧r≤512∧0≤c∧c≤512∧(l.length:Int)=r*c)) ?_ rfl)
          unfold Pz
          refine T.at (decide_eq_true h1) (T.at (decide_eq_true h2) (T.at (decide_eq_true h3) (T.at (decide_eq_true h4) (qI (ap.2 (by omega)) ?_))))
          show some _=some _
          congr 2
          by_cases q:(l.length:Int)=r*c
          · rw [decide_eq_true ⟨h1,h2,h3,h4,q⟩,q];simp
          · rw [decide_eq_false fun z=>q z.2.2.2.2];simpa using q
        · rw [decide_eq_false fun z=>h4 z.2.2.2.1]
          refine jP (bN (a:=false) ?_ rfl)
          exact T.at (decide_eq_true h1) (T.at (decide_eq_true h2) (T.at (decide_eq_true h3) (AJ (decide_eq_false h4) rfl)))
      · rw [decide_eq_false fun z=>h3 z.2.2.1]
        refine jP (bN (a:=false) ?_ rfl)
        exact T.at (decide_eq_true h1) (T.at (decide_eq_true h2) (AJ (decide_eq_false h3) rfl))
    · rw [decide_eq_false fun z=>h2 z.2.1]
      refine jP (bN (a:=false) ?_ rfl)
      exact T.at (decide_eq_true h1) (AJ (decide_eq_false h2) rfl)
  · rw [decide_eq_false fun z=>h1 z.1]
    refine jP (bN (a:=false) ?_ rfl)
    exact AJ (decide_eq_false h1) rfl
def CY(l:List Nat)(i:Nat) :Nat→Nat
  | 0=>i
  | d+1=>bif flt (l.getD (i+1+d) 0) (l.getD (CY l i d) 0) then i+1+d else CY l i d
theorem GZ(l:List Nat)(i:Nat) :∀ d,i≤CY l i d∧CY l i d≤i+d
  | 0=>⟨Nat.le_refl _,Nat.le_refl _⟩
  | d+1=>by
    have:=GZ l i d
    unfold CY
    cases flt (l.getD (i+1+d) 0) (l.getD (CY l i d) 0)<;>simp only [cond_true,cond_false]<;>omega
def XE(l:List Nat)(i k:Nat) :List Nat:=(l.set i (l.getD k 0)).set k (l.getD i 0)
theorem Wp(l:List Nat)(i k:Nat) :(XE l i k).length=l.length:=by unfold XE;rw [List.length_set,List.length_set]
def KQ(l:List Nat) :Nat→List Nat
  | 0=>l
  | i+1=>XE (KQ l i) i (CY (KQ l i) i (l.length-(i+1)))
theorem G0(l:List Nat) :∀ i,(KQ l i).length=l.length
  | 0=>rfl
  | i+1=>by unfold KQ;rw [Wp,G0 l i]
theorem Uo{n i:Nat}{l:List Nat}(hn:n≤1000000)(hl:l.length=n)(hi:i<n) :iU (cm (uE n l) (i,i+1)) (Sum.elim (fun k=>k=CY l i (n-(i+1))) fun _=>False):=by
  refine iU.loop (fun p=>i<p.2∧p.2≤n∧p.1=CY l i (p.2-(i+1))) (fun p=>n-p.2) ⟨by dsimp only;omega,by dsimp only;omega,by show i=CY l i (i+1-(i+1));rw [Nat.sub_self];rfl⟩ ?_
  rintro ⟨k,j⟩ ⟨h1,h2,h3⟩
  dsimp only at h1 h2 h3
  unfold uE
  dsimp only
  have hk:=GZ l i (j-(i+1))
  rw [←h3] at hk
  refine an (fun x=>j<n∧x=CY l i (j+1-(i+1))) (aJ ?_) fun x hx=>aJ ?_
  · unfold HN
    simp only [T.wp,Sum.elim_inl,Sum.elim_inr,decide_eq_true_eq,decide_eq_false_iff_not,ap,aP,aQ,au,ax,am,aB,ah,List.length_set,List.length_replicate,beq_iff_eq,beq_eq_false_iff_ne,bne_iff_ne,bne_eq_false_iff_eq,Bool.not_eq_true',Bool.not_eq_false',ne_eq,ak,Int.toNat_natCast]
    have e:CY l i (j+1-(i+1))=bif flt (l.getD j 0) (l.getD k 0) then j else k:=by
      rw [show j+1-(i+1)=(j-(i+1))+1 by omega]
      unfold CY
      rw [show i+1+(j-(i+1))=j by omega,←h3]
    refine ⟨fun h=>⟨by omega,by omega,by omega,by omega,fun q=>⟨by omega,?_⟩,fun q=>⟨by omega,?_⟩⟩,fun h=>?_⟩
    · rw [e,q];rfl
    · rw [e,q];rfl
    · rw [h3];congr 1;omega
  · unfold HO
    simp only [T.wp,Sum.elim_inl,Sum.elim_inr,decide_eq_true_eq,decide_eq_false_iff_not,ap,aP,aQ,au,ax,am,aB,ah,List.length_set,List.length_replicate,beq_iff_eq,beq_eq_false_iff_ne,bne_iff_ne,bne_eq_false_iff_eq,Bool.not_eq_true',Bool.not_eq_false',ne_eq,ak,Int.toNat_natCast]
    refine ⟨by omega,⟨by omega,by omega,hx.2⟩,by omega⟩
theorem Up{R n i k:Nat}{z:List Nat}(hR:R≤512)(hn:n≤512)(hz:z.length=R*n)(hi:i<n)(hk:k<n) :iU (cm (uF (R:Int) (n:Int) (R*n) i k) (0,z)) (Sum.elim (fun z'=>z'.length=R*n) fun _=>False):=by
  have hRC:R*n≤262144:=Nat.mul_le_mul hR hn
  refine iU.loop (fun p=>p.1≤R∧p.2.length=R*n) (fun p=>R-p.1) ⟨Nat.zero_le _,hz⟩ ?_
  rintro ⟨a,l⟩ ⟨ha,hl⟩
  dsimp only at ha hl
  unfold uF
  refine aJ ?_
  unfold HS
  have e:((a:Int))*(n:Int)=((a*n:Nat):Int):=by rw [Int.natCast_mul]
  rw [e]
  simp only [T.wp,Sum.elim_inl,Sum.elim_inr,decide_eq_true_eq,decide_eq_false_iff_not,ap,aP,aQ,au,ax,am,aB,ah,List.length_set,List.length_replicate,beq_iff_eq,beq_eq_false_iff_ne,bne_iff_ne,bne_eq_false_iff_eq,Bool.not_eq_true',Bool.not_eq_false',ne_eq,ak,Int.toNat_natCast]
  refine ⟨fun h=>?_,fun h=>hl⟩
  have q:(a+1)*n≤R*n:=Nat.mul_le_mul_right n (by omega)
  rw [Nat.add_mul,Nat.one_mul] at q
  generalize a*n=p at *
  generalize R*n=y at *
  omega
theorem Oy{w z:List Nat}{R:Nat}(hw:w.length≤512)(hR:R≤512)(hz:z.length=R*w.length) :
    iU (fo w (R:Int) (w.length:Int) z) fun x=>(x=.r0 0 10 [] 0 0 0 []∧¬ GD w)∨(GD w∧∃ z',x=.r0 w.length 0 (KQ w w.length) (R:Int) (w.length:Int) (R*w.length) z'∧z'.length=R*w.length):=by
  have hRC:R*w.length≤262144:=Nat.mul_le_mul hR hw
  refine qy (an (fun _=>GD w) (aJ ?_) fun _ hg=>?_)
  · unfold HG
    rw [ak,ak,PD]
    obtain ⟨x,hx,k,rfl,hk⟩:=JQ w (by omega)
    rw [hx,decide_eq_true (show 0≤(R:Int)∧(R:Int)≤512∧0≤(w.length:Int)∧(w.length:Int)≤512∧(z.length:Int)=(R:Int)*(w.length:Int) by rw [hz,Int.natCast_mul];omega)]
    simp only [T.wp,Sum.elim_inl,Sum.elim_inr,decide_eq_true_eq,decide_eq_false_iff_not,ap,aP,aQ,au,ax,am,aB,ah,List.length_set,List.length_replicate,beq_iff_eq,beq_eq_false_iff_ne,bne_iff_ne,bne_eq_false_iff_eq,Bool.not_eq_true',Bool.not_eq_false',ne_eq,ak,Int.toNat_natCast]
    refine ⟨by omega,rfl,fun h=>(by cases h),fun _=>⟨fun h=>absurd trivial h,fun _=>⟨by omega,rfl,fun h=>.inl ⟨trivial,?_⟩,fun h=>?_⟩⟩⟩
    · rcases hk with hk | hk
      · exact hk.2
      · exact absurd hk.1 (by simpa [bH] using h)
    · rcases hk with hk | hk
      · exact absurd hk.1 (by simpa [bH] using h)
      · exact hk.2
  refine an (fun p=>p=(w.length,w.length,w,R*w.length,z)) (aJ ?_) ?_
  · unfold HH
    rw [ak,ak,hz]
    simp only [T.wp,Sum.elim_inl,Sum.elim_inr,decide_eq_true_eq,decide_eq_false_iff_not,ap,aP,aQ,au,ax,am,aB,ah,List.length_set,List.length_replicate,beq_iff_eq,beq_eq_false_iff_ne,bne_iff_ne,bne_eq_false_iff_eq,Bool.not_eq_true',Bool.not_eq_false',ne_eq,ak,Int.toNat_natCast]
    simp only [fw,Nat.ble_eq]
    refine ⟨by omega,by omega,by omega,by omega,trivial⟩
  rintro ⟨w1,a2,l3,a4,l5⟩ h
  injection h with h1 h;injection h with h2 h;injection h with h3 h;injection h with h4 h5
  replace h3:=h3.symm
  replace h5:=h5.symm
  subst h1 h2 h3 h4 h5
  refine an (fun p=>p.1=KQ w w.length∧p.2.length=R*w.length) (iU.loop (fun p=>p.1≤w.length∧p.2.1=KQ w p.1∧p.2.2.length=R*w.length) (fun p=>w.length-p.1) ⟨Nat.zero_le _,rfl,hz⟩ ?_) ?_
  · rintro ⟨a,l,y⟩ ⟨h1,h2,h3⟩
    dsimp only at h1 h2 h3
    have hll:l.length=w.length:=by rw [h2];exact G0 w a
    unfold yk
    dsimp only
    refine an (fun _=>a<w.length) (aJ ?_) fun _ ha=>?_
    · unfold HJ
      simp only [T.wp,Sum.elim_inl,Sum.elim_inr,decide_eq_true_eq,decide_eq_false_iff_not,ap,aP,aQ,au,ax,am,aB,ah,List.length_set,List.length_replicate,beq_iff_eq,beq_eq_false_iff_ne,bne_iff_ne,bne_eq_false_iff_eq,Bool.not_eq_true',Bool.not_eq_false',ne_eq,ak,Int.toNat_natCast]
      refine ⟨fun h=>by omega,fun h=>?_⟩
      have:a=w.length:=by omega
      subst this
      exact ⟨h2,h3⟩
    refine an (fun p=>p.1=KQ w (a+1)∧p.2.length=R*w.length) (iU.join (an (fun j=>j=a+1) (aJ ?_) ?_)) fun p hp=>aJ ?_
    · unfold HL
      simp only [T.wp,Sum.elim_inl,Sum.elim_inr,decide_eq_true_eq,decide_eq_false_iff_not,ap,aP,aQ,au,ax,am,aB,ah,List.length_set,List.length_replicate,beq_iff_eq,beq_eq_false_iff_ne,bne_iff_ne,bne_eq_false_iff_eq,Bool.not_eq_true',Bool.not_eq_false',ne_eq,ak,Int.toNat_natCast]
      exact ⟨by omega,trivial⟩
    · rintro j rfl
      refine an (fun k=>k=CY l a (w.length-(a+1))) (iU.mono (Uo (by omega) hll ha) fun r hr=>?_) ?_
      · cases r with
        | inl x=>exact hr
        | inr x=>exact hr.elim
      rintro k rfl
      have hk:=GZ l a (w.length-(a+1))
      refine an (fun m=>m=KQ w (a+1)) (aJ ?_) ?_
      · unfold HP
        simp only [T.wp,Sum.elim_inl,Sum.elim_inr,decide_eq_true_eq,decide_eq_false_iff_not,ap,aP,aQ,au,ax,am,aB,ah,List.length_set,List.length_replicate,beq_iff_eq,beq_eq_false_iff_ne,bne_iff_ne,bne_eq_false_iff_eq,Bool.not_eq_true',Bool.not_eq_false',ne_eq,ak,Int.toNat_natCast]
        refine ⟨by omega,by omega,by omega,by omega,by omega,by omega,by omega,by omega,?_⟩
        subst h2
        rfl
      rintro m rfl
      refine an (fun y=>y.length=R*w.length) (iU.mono (Up hR hw h3 ha (by omega)) fun r hr=>?_) fun y hy=>aJ ?_
      · cases r with
        | inl x=>exact hr
        | inr x=>exact hr.elim
      · unfold HT
        exact ⟨rfl,hy⟩
    · obtain ⟨p1,p2⟩:=p
      unfold HU
      simp only [T.wp,Sum.elim_inl,Sum.elim_inr,decide_eq_true_eq,decide_eq_false_iff_not,ap,aP,aQ,au,ax,am,aB,ah,List.length_set,List.length_replicate,beq_iff_eq,beq_eq_false_iff_ne,bne_iff_ne,bne_eq_false_iff_eq,Bool.not_eq_true',Bool.not_eq_false',ne_eq,ak,Int.toNat_natCast]
      exact ⟨by omega,⟨by omega,hp.1,hp.2⟩,by omega⟩
  · rintro ⟨l,y⟩ ⟨h1,h2⟩
    dsimp only at h1 h2
    subst h1
    refine aJ ?_
    unfold HV
    exact .inr ⟨hg,y,rfl,h2⟩
theorem Wq{d e:List Nat}{a N:Nat}(hd:d.length=N)(he:e.length=N)(hN:N≤512)(ha:a<N) :iU (ch d e (a:Int)) fun x=>∃ m:Nat,x=.r0 (m:Int)∧a≤m∧m<N:=by
  refine qy (an (fun _=>True) (aJ ?_) fun _ _=>an (fun _=>True) (aJ ?_) fun _ _=>?_)
  · unfold Aa;trivial
  · unfold zg;trivial
  refine an (fun i=>(a:Int)≤i∧i<N) (iU.loop (fun i=>(a:Int)≤i∧i<N) (fun i=>(N-i).toNat) ⟨by omega,by omega⟩ ?_) fun i hi=>aJ ?_
  · rintro i ⟨h1,h2⟩
    unfold qt
    refine aJ ?_
    unfold zh
    simp only [T.wp,Sum.elim_inl,Sum.elim_inr,decide_eq_true_eq,decide_eq_false_iff_not,ap,aP,aQ,au,ax,am,aB,ah,List.length_set,List.length_replicate,beq_iff_eq,beq_eq_false_iff_ne,bne_iff_ne,bne_eq_false_iff_eq,Bool.not_eq_true',Bool.not_eq_false',ne_eq,ak,Int.toNat_natCast]
    rw [hd,he]
    refine ⟨by omega,fun h=>⟨by omega,by omega,by omega,by omega,by omega,by omega,by omega,fun _=>⟨by omega,by omega⟩,fun _=>⟨by omega,⟨by omega,by omega⟩,by omega⟩⟩,fun h=>⟨by omega,by omega⟩⟩
  · unfold zi
    exact ⟨i.toNat,by rw [Int.toNat_of_nonneg (by omega)],by omega,by omega⟩
abbrev XV:=Nat×Nat×Nat×Nat×Nat×Nat×Int×Int×Nat×Nat×List Nat×List Nat×List Nat
structure QI (N M R:Nat) (a69 a70 a71 a72:Nat) (i73 i74:Int) (a75 a76:Nat) (l77 l78 l79:List Nat):Prop where
  e1:N=a69
  e2:N=a70
  e3:M=a71
  e4:M=a72
  e5:(R:Int)=i73
  e6:(N:Int)=i74
  e7:R*N=a75
  e8:R*N=a76
  d:l77.length=N
  e:l78.length=M
  z:l79.length=R*N
def Wr(N R:Nat)(x:cT) :Prop :=
  (∃ s e,x=.r0 0 s e [] 0 0 0 []∧(e=7∨e=10))∨∃ s w z,x=.r0 N s 0 (KQ w N) (R:Int) (N:Int) (R*N) z∧s≤31*N∧w.length=N∧GD w∧z.length=R*N
theorem SZ{D E Z:List Nat}{R N:Nat}(hD:D.length=N)(hM:QR D E=true)(hR:R≤512)(hN:N≤512)(hZ:Z.length=R*N) :
    iU (km D E (R:Int) (N:Int) Z) (Wr N R):=by
  have hRC:R*N≤262144:=Nat.mul_le_mul hR hN
  have hE:E.length=N-1:=by
    have:=of_decide_eq_true hM
    omega
  obtain ⟨M,hMe⟩:∃ M,M=E.length+1:=⟨_,rfl⟩
  refine qy (an (fun _=>True) (aJ ?_) fun _ _=>?_)
  · unfold Jm
    rw [ak,ak,ak,PD,R1 (by omega),hM]
    obtain ⟨x,hx,k,rfl,hk⟩:=JQ D (by omega)
    obtain ⟨y,hy,k2,rfl,hk2⟩:=JQ E (by omega)
    obtain ⟨y3,hy3,k3,rfl,hk3⟩:=JQ Z (by omega)
    rw [hx,hy,hy3,decide_eq_true (show 0≤(R:Int)∧(R:Int)≤512∧0≤(N:Int)∧(N:Int)≤512∧(Z.length:Int)=(R:Int)*(N:Int) by rw [hZ,Int.natCast_mul];omega)]
    simp only [T.wp,Sum.elim_inl,Sum.elim_inr,decide_eq_true_eq,decide_eq_false_iff_not,ap,aP,aQ,au,ax,am,aB,ah,List.length_set,List.length_replicate,beq_iff_eq,beq_eq_false_iff_ne,bne_iff_ne,bne_eq_false_iff_eq,Bool.not_eq_true',Bool.not_eq_false',ne_eq,ak,Int.toNat_natCast]
    refine ⟨by omega,by omega,rfl,fun h=>(by cases h),fun _=>⟨by omega,rfl,fun h=>(by cases h),fun _=>⟨fun h=>absurd (by omega) h,fun _=>⟨by omega,rfl,fun _=>.inl ⟨_,_,rfl,.inr rfl⟩,fun _=>⟨by omega,rfl,fun _=>.inl ⟨_,_,rfl,.inr rfl⟩,fun _=>⟨by omega,rfl,fun _=>.inl ⟨_,_,rfl,.inr rfl⟩,fun _=>trivial⟩⟩⟩⟩⟩⟩
  refine an (fun (p:Nat×Nat×Nat×List Nat×List Nat×List Nat)=>p.1=N∧p.2.1=M∧p.2.2.1=R*N∧p.2.2.2.1.length=N∧p.2.2.2.2.1.length=M∧p.2.2.2.2.2.length=R*N) (aJ ?_) ?_
  · unfold Jn
    rw [ak,ak,ak]
    simp only [T.wp,Sum.elim_inl,Sum.elim_inr,decide_eq_true_eq,decide_eq_false_iff_not,ap,aP,aQ,au,ax,am,aB,ah,List.length_set,List.length_replicate,beq_iff_eq,beq_eq_false_iff_ne,bne_iff_ne,bne_eq_false_iff_eq,Bool.not_eq_true',Bool.not_eq_false',ne_eq,ak,Int.toNat_natCast]
    simp only [fw,Nat.ble_eq,List.length_append,List.length_take,List.length_cons,List.length_nil]
    refine ⟨by omega,by omega,by omega,by omega,by omega,by omega,by omega,by omega,by omega,by omega,by omega,by omega,by omega,by omega,by omega,by omega⟩
  rintro ⟨a1,a2,a3,l4,l5,l6⟩ ⟨h1,h2,h3,h4,h5,h6⟩
  dsimp only at h1 h2 h3 h4 h5 h6
  subst h1 h2 h3
  refine an (fun (p:Nat×Nat×Nat×Nat×Nat×Int×Int×Nat×Nat×List Nat×List Nat×List Nat)=>p.1≤31*a1∧QI a1 a2 R p.2.1 p.2.2.1 p.2.2.2.1 p.2.2.2.2.1 p.2.2.2.2.2.1 p.2.2.2.2.2.2.1 p.2.2.2.2.2.2.2.1 p.2.2.2.2.2.2.2.2.1 p.2.2.2.2.2.2.2.2.2.1 p.2.2.2.2.2.2.2.2.2.2.1 p.2.2.2.2.2.2.2.2.2.2.2)
    (iU.loop (fun (p:XV)=>p.1≤31*p.2.1∧p.2.1≤a1∧QI a1 a2 R p.2.2.1 p.2.2.2.1 p.2.2.2.2.1 p.2.2.2.2.2.1 p.2.2.2.2.2.2.1 p.2.2.2.2.2.2.2.1 p.2.2.2.2.2.2.2.2.1 p.2.2.2.2.2.2.2.2.2.1 p.2.2.2.2.2.2.2.2.2.2.1 p.2.2.2.2.2.2.2.2.2.2.2.1 p.2.2.2.2.2.2.2.2.2.2.2.2) (fun p=>a1-p.2.1) ⟨by dsimp only;omega,by dsimp only;omega,⟨rfl,rfl,rfl,rfl,rfl,rfl,rfl,rfl,h4,h5,h6⟩⟩ ?_) ?_
  · rintro ⟨sw,a,a69,a70,a71,a72,i73,i74,a75,a76,l77,l78,l79⟩ ⟨b1,b2,⟨e1,e2,e3,e4,e5,e6,e7,e8,hd,he,hz⟩⟩
    dsimp only at b1 b2 e1 e2 e3 e4 e5 e6 e7 e8 hd he hz
    subst e3 e4 e5 e6 e7 e8
    unfold zE
    dsimp only
    refine an (fun _=>a<a1) (aJ ?_) fun _ ha=>?_
    · unfold Jp
      simp only [T.wp,Sum.elim_inl,Sum.elim_inr,decide_eq_true_eq,decide_eq_false_iff_not,ap,aP,aQ,au,ax,am,aB,ah,List.length_set,List.length_replicate,beq_iff_eq,beq_eq_false_iff_ne,bne_iff_ne,bne_eq_false_iff_eq,Bool.not_eq_true',Bool.not_eq_false',ne_eq,ak,Int.toNat_natCast]
      refine ⟨fun h=>by omega,fun h=>⟨by omega,⟨e1,e2,rfl,rfl,rfl,rfl,rfl,rfl,hd,he,hz⟩⟩⟩
    subst e1 e2
    have hMN:a2=a1:=by omega
    subst hMN
    refine an (fun (p:Nat×Nat×Nat×Nat×Nat×Int×Int×Nat×Nat×List Nat×List Nat×List Nat)=>p.1≤31*(a+1)∧QI a2 a2 R p.2.1 p.2.2.1 p.2.2.2.1 p.2.2.2.2.1 p.2.2.2.2.2.1 p.2.2.2.2.2.2.1 p.2.2.2.2.2.2.2.1 p.2.2.2.2.2.2.2.2.1 p.2.2.2.2.2.2.2.2.2.1 p.2.2.2.2.2.2.2.2.2.2.1 p.2.2.2.2.2.2.2.2.2.2.2) (iU.join (an (fun _=>True) (aJ ?_) fun _ _=>?_)) ?_
    · unfold Jq;trivial
    · refine an (fun (p:Nat×Nat×Nat×Nat×Nat×Int×Int×Nat×Nat×List Nat×List Nat×List Nat)=>p.1≤31*(a+1)∧QI a2 a2 R p.2.1 p.2.2.1 p.2.2.2.1 p.2.2.2.2.1 p.2.2.2.2.2.1 p.2.2.2.2.2.2.1 p.2.2.2.2.2.2.2.1 p.2.2.2.2.2.2.2.2.1 p.2.2.2.2.2.2.2.2.2.1 p.2.2.2.2.2.2.2.2.2.2.1 p.2.2.2.2.2.2.2.2.2.2.2)
        (iU.loop (fun (p:XV)=>p.1≤31*a+p.2.1∧p.2.1≤30∧QI a2 a2 R p.2.2.1 p.2.2.2.1 p.2.2.2.2.1 p.2.2.2.2.2.1 p.2.2.2.2.2.2.1 p.2.2.2.2.2.2.2.1 p.2.2.2.2.2.2.2.2.1 p.2.2.2.2.2.2.2.2.2.1 p.2.2.2.2.2.2.2.2.2.2.1 p.2.2.2.2.2.2.2.2.2.2.2.1 p.2.2.2.2.2.2.2.2.2.2.2.2) (fun p=>31-p.2.1) ⟨by dsimp only;omega,by dsimp only;omega,⟨rfl,rfl,rfl,rfl,rfl,rfl,rfl,rfl,hd,he,hz⟩⟩ ?_) ?_
      · rintro ⟨sw,mn,a69,a70,a71,a72,i73,i74,a75,a76,d,e,z⟩ ⟨c1,c2,⟨e1,e2,e3,e4,e5,e6,e7,e8,hd,he,hz⟩⟩
        dsimp only at c1 c2 e1 e2 e3 e4 e5 e6 e7 e8 hd he hz
        subst e1 e2 e3 e4 e5 e6 e7 e8
        unfold zD
        dsimp only
        refine an (fun (p:Nat×Nat×Nat×Nat×Nat×Int×Int×Nat×Nat×List Nat×List Nat×List Nat)=>mn<30∧p.1≤31*a+(mn+1)∧QI a2 a2 R p.2.1 p.2.2.1 p.2.2.2.1 p.2.2.2.2.1 p.2.2.2.2.2.1 p.2.2.2.2.2.2.1 p.2.2.2.2.2.2.2.1 p.2.2.2.2.2.2.2.2.1 p.2.2.2.2.2.2.2.2.2.1 p.2.2.2.2.2.2.2.2.2.2.1 p.2.2.2.2.2.2.2.2.2.2.2) (aJ ?_) ?_
        · unfold Js
          rw [dX hd,dX he]
          obtain ⟨x,hx,m,rfl,hm1,hm2⟩:=Wq hd he hN ha
          rw [hx]
          simp only [nX,bI]
          simp only [T.wp,Sum.elim_inl,Sum.elim_inr,decide_eq_true_eq,decide_eq_false_iff_not,ap,aP,aQ,au,ax,am,aB,ah,List.length_set,List.length_replicate,beq_iff_eq,beq_eq_false_iff_ne,bne_iff_ne,bne_eq_false_iff_eq,Bool.not_eq_true',Bool.not_eq_false',ne_eq,ak,Int.toNat_natCast]
          refine ⟨by omega,by omega,by omega,trivial,fun h=>⟨by omega,rfl,rfl,rfl,rfl,rfl,rfl,rfl,rfl,hd,he,hz⟩,fun h=>⟨fun h2=>.inl ⟨_,_,rfl,.inl rfl⟩,fun h2=>?_⟩⟩
          obtain ⟨y,hy,d',e',z',rfl,hd',he',hz'⟩:=Un (c1:=a2) (c3:=a2) (R:=R) (l:=(a:Int)) (m:=(m:Int)) hd he hz hR hN (by omega) (by omega) (by omega)
          rw [hy]
          simp only [lc,lW,lX,lY,lZ,l7,ma,mb,mc,md,me,lr]
          exact ⟨trivial,by omega,by omega,by omega,rfl,rfl,rfl,rfl,rfl,rfl,rfl,rfl,hd',he',hz'⟩
        · rintro ⟨sw',x1,x2,x3,x4,x5,x6,x7,x8,d',e',z'⟩ ⟨hlt,hs,hq⟩
          refine aJ ?_
          unfold Jt
          dsimp only at hlt hs
          simp only [T.wp,Sum.elim_inl,Sum.elim_inr,decide_eq_true_eq,decide_eq_false_iff_not,ap,aP,aQ,au,ax,am,aB,ah,List.length_set,List.length_replicate,beq_iff_eq,beq_eq_false_iff_ne,bne_iff_ne,bne_eq_false_iff_eq,Bool.not_eq_true',Bool.not_eq_false',ne_eq,ak,Int.toNat_natCast]
          exact ⟨by omega,⟨hs,by omega,hq⟩,by omega⟩
      · rintro ⟨sw',x1,x2,x3,x4,x5,x6,x7,x8,d',e',z'⟩ h
        refine aJ ?_
        unfold Ju
        exact h
    · rintro ⟨sw',x1,x2,x3,x4,x5,x6,x7,x8,d',e',z'⟩ ⟨hs,hq⟩
      refine aJ ?_
      unfold Jv
      dsimp only at hs
      simp only [T.wp,Sum.elim_inl,Sum.elim_inr,decide_eq_true_eq,decide_eq_false_iff_not,ap,aP,aQ,au,ax,am,aB,ah,List.length_set,List.length_replicate,beq_iff_eq,beq_eq_false_iff_ne,bne_iff_ne,bne_eq_false_iff_eq,Bool.not_eq_true',Bool.not_eq_false',ne_eq,ak,Int.toNat_natCast]
      exact ⟨by omega,⟨hs,by omega,hq⟩,by omega⟩
  · rintro ⟨sw,x1,x2,x3,x4,x5,x6,x7,x8,d,e,z⟩ ⟨hs,⟨e1,e2,e3,e4,e5,e6,e7,e8,hd,he,hz⟩⟩
    dsimp only at hs e1 e2 e3 e4 e5 e6 e7 e8 hd he hz
    subst e1 e2 e3 e4 e5 e6 e7 e8
    have hS:=Oy (w:=d) (z:=z) (R:=R) (by omega) hR (by rw [hd];exact hz)
    rw [hd] at hS
    obtain ⟨x,hx,hxx⟩:=hS
    refine an (fun (p:Nat×Nat×Int×Int×Nat×List Nat×List Nat)=>p.2.1=10∨(GD d∧∃ z',z'.length=R*a1∧p=(a1,0,(R:Int),(a1:Int),R*a1,KQ d a1,z'))) (aJ ?_) ?_
    · unfold Jw
      rw [dX hd,dX hz,hx]
      simp only [T.wp,Sum.elim_inl,Sum.elim_inr,decide_eq_true_eq,decide_eq_false_iff_not,ap,aP,aQ,au,ax,am,aB,ah,List.length_set,List.length_replicate,beq_iff_eq,beq_eq_false_iff_ne,bne_iff_ne,bne_eq_false_iff_eq,Bool.not_eq_true',Bool.not_eq_false',ne_eq,ak,Int.toNat_natCast]
      refine ⟨by omega,by omega,?_⟩
      rcases hxx with ⟨rfl,_⟩ | ⟨hg,z',rfl,hz'⟩
      · exact ⟨rfl,.inl rfl⟩
      · exact ⟨rfl,.inr ⟨hg,z',hz',rfl⟩⟩
    · rintro ⟨w,ee,i,i',aa,l,l'⟩ h
      refine aJ ?_
      unfold Jx
      rcases h with h | ⟨hg,z',hz',h⟩
      · dsimp only at h
        subst h
        simp only [T.wp,Sum.elim_inl,Sum.elim_inr,decide_eq_true_eq,decide_eq_false_iff_not,ap,aP,aQ,au,ax,am,aB,ah,List.length_set,List.length_replicate,beq_iff_eq,beq_eq_false_iff_ne,bne_iff_ne,bne_eq_false_iff_eq,Bool.not_eq_true',Bool.not_eq_false',ne_eq,ak,Int.toNat_natCast]
        exact ⟨fun _=>.inl ⟨_,_,rfl,.inl rfl⟩,fun q=>absurd q (by decide)⟩
      · injection h with h1 h;injection h with h2 h;injection h with h3 h;injection h with h4 h;injection h with h5 h;injection h with h6 h7
        subst h1 h2 h3 h4 h5 h6 h7
        simp only [T.wp,Sum.elim_inl,Sum.elim_inr,decide_eq_true_eq,decide_eq_false_iff_not,ap,aP,aQ,au,ax,am,aB,ah,List.length_set,List.length_replicate,beq_iff_eq,beq_eq_false_iff_ne,bne_iff_ne,bne_eq_false_iff_eq,Bool.not_eq_true',Bool.not_eq_false',ne_eq,ak,Int.toNat_natCast]
        exact ⟨fun q=>absurd rfl q,fun _=>.inr ⟨_,d,_,rfl,hs,hd,hg,hz'⟩⟩
def In(K:Nat)(l:List Int) :Prop:=∀ x,x∈l→0≤x∧x<K
theorem GB{α:Type}{l:List α}{i:Nat}{d:α}(h:i<l.length) :l.getD i d∈l:=by
  rw [List.getD_eq_getElem?_getD,List.getElem?_eq_getElem h]
  exact List.getElem_mem h
theorem In.at{K:Nat}{l:List Int}(h:In K l){i:Nat}(hi:i<l.length) :0≤l.getD i 0∧l.getD i 0<K:=h _ (GB hi)
theorem In.set{K:Nat}{l:List Int}(h:In K l){i:Nat}{x:Int}(hx:0≤x∧x<K) :In K (l.set i x):=by
  intro y hy
  rcases List.mem_or_eq_of_mem_set hy with q | q
  · exact h _ q
  · rw [q];exact hx
theorem In.push{K:Nat}{l:List Int}(h:In K l){i:Nat}{x:Int}(hx:0≤x∧x<K) :In K (l.take i++[x]):=by
  intro y hy
  rcases List.mem_append.1 hy with q | q
  · exact h _ (List.mem_of_mem_take q)
  · rw [List.mem_singleton.1 q];exact hx
theorem In.nil{K:Nat} :In K []:=fun x h=>by cases h
theorem R3(x y:Nat) :∃ k,rz x y=some (.r0 k):=by
  unfold rz FX
  cases h1:zI x x<;>cases h2:zI y y<;>cases h3:flt x y<;>cases h4:KT x y<;>simp only [T.run,toX]<;>exact ⟨_,rfl⟩
theorem Uq{l0:List Int}{cmp:List Nat}{N:Nat}(hl:l0.length=N)(hN:N≤1000)(hI:In cmp.length l0) :
    iU (aR l0 0 N 0 (N:Int) cmp) fun x=>∃ l,x=.r0 l∧l.length=N∧In cmp.length l:=by
  refine sR (an (fun i=>i=1) (aJ ?_) ?_)
  · unfold fy
    simp only [T.wp,Sum.elim_inl,Sum.elim_inr,decide_eq_true_eq,decide_eq_false_iff_not,ap,aP,aQ,au,ax,am,aB,ah,List.length_set,List.length_replicate,beq_iff_eq,beq_eq_false_iff_ne,bne_iff_ne,bne_eq_false_iff_eq,Bool.not_eq_true',Bool.not_eq_false',ne_eq,ak,Int.toNat_natCast]
    exact ⟨by omega,by omega⟩
  rintro i rfl
  refine an (fun l=>l.length=N∧In cmp.length l) (iU.loop (fun (p:Int×List Int)=>1≤p.1∧p.2.length=N∧In cmp.length p.2) (fun p=>((N:Int)-p.1).toNat) ⟨by dsimp only;omega,hl,hI⟩ ?_) fun l hl=>aJ ?_
  · rintro ⟨i,l⟩ ⟨h1,h2,h3⟩
    dsimp only at h1 h2 h3
    unfold bU
    dsimp only
    refine an (fun _=>i<N) (aJ ?_) fun _ hi=>?_
    · unfold fB
      simp only [T.wp,Sum.elim_inl,Sum.elim_inr,decide_eq_true_eq,decide_eq_false_iff_not,ap,aP,aQ,au,ax,am,aB,ah,List.length_set,List.length_replicate,beq_iff_eq,beq_eq_false_iff_ne,bne_iff_ne,bne_eq_false_iff_eq,Bool.not_eq_true',Bool.not_eq_false',ne_eq,ak,Int.toNat_natCast]
      exact ⟨fun h=>h,fun h=>⟨h2,h3⟩⟩
    refine an (fun l=>l.length=N∧In cmp.length l) (iU.join (an (fun _=>True) (aJ ?_) fun _ _=>an (fun l=>l.length=N∧In cmp.length l) (iU.loop (fun (p:Int×List Int)=>0≤p.1∧p.1≤i∧p.2.length=N∧In cmp.length p.2) (fun p=>p.1.toNat) ⟨by dsimp only;omega,by dsimp only;omega,h2,h3⟩ ?_) fun l' hl'=>aJ ?_)) fun l' hl'=>aJ ?_
    · unfold fC;trivial
    · rintro ⟨j,y⟩ ⟨g1,g2,g3,g4⟩
      dsimp only at g1 g2 g3 g4
      unfold bT
      dsimp only
      refine an (fun b=>b=true→0<j) (aJ ?_) fun b hb=>aJ ?_
      · unfold fE
        simp only [T.wp,Sum.elim_inl,Sum.elim_inr,decide_eq_true_eq,decide_eq_false_iff_not,ap,aP,aQ,au,ax,am,aB,ah,List.length_set,List.length_replicate,beq_iff_eq,beq_eq_false_iff_ne,bne_iff_ne,bne_eq_false_iff_eq,Bool.not_eq_true',Bool.not_eq_false',ne_eq,ak,Int.toNat_natCast]
        refine ⟨fun h=>?_,fun h q=>by cases q⟩
        have a1:=g4.at (i:=bV 0 j.toNat) (by rw [aB];omega)
        have a2:=g4.at (i:=bV 0 (j-1).toNat) (by rw [aB];omega)
        simp only [aB] at a1 a2
        obtain ⟨k,hk⟩:=R3 (cmp.getD (y.getD (0+j.toNat) 0).toNat 0) (cmp.getD (y.getD (0+(j-1).toNat) 0).toNat 0)
        rw [hk]
        exact ⟨by omega,by omega,by omega,by omega,by omega,by omega,by omega,by omega,by omega,rfl,fun _=>by omega⟩
      · unfold fF
        simp only [T.wp,Sum.elim_inl,Sum.elim_inr,decide_eq_true_eq,decide_eq_false_iff_not,ap,aP,aQ,au,ax,am,aB,ah,List.length_set,List.length_replicate,beq_iff_eq,beq_eq_false_iff_ne,bne_iff_ne,bne_eq_false_iff_eq,Bool.not_eq_true',Bool.not_eq_false',ne_eq,ak,Int.toNat_natCast]
        refine ⟨fun h=>?_,fun h=>⟨g3,g4⟩⟩
        have hj:=hb h
        have a1:=g4.at (i:=bV 0 j.toNat) (by rw [aB];omega)
        have a2:=g4.at (i:=bV 0 (j-1).toNat) (by rw [aB];omega)
        simp only [aB] at a1 a2
        exact ⟨by omega,by omega,by omega,by omega,by omega,by omega,by omega,by omega,by omega,by omega,by omega,⟨by omega,by omega,by omega,(g4.set a2).set a1⟩,by omega⟩
    · unfold fG
      exact hl'
    · unfold fH
      simp only [T.wp,Sum.elim_inl,Sum.elim_inr,decide_eq_true_eq,decide_eq_false_iff_not,ap,aP,aQ,au,ax,am,aB,ah,List.length_set,List.length_replicate,beq_iff_eq,beq_eq_false_iff_ne,bne_iff_ne,bne_eq_false_iff_eq,Bool.not_eq_true',Bool.not_eq_false',ne_eq,ak,Int.toNat_natCast]
      exact ⟨by omega,⟨by omega,hl'⟩,by omega⟩
  · unfold fI
    exact ⟨_,rfl,hl⟩
theorem Ur{l0:List Int}{cmp c2:List Nat}{N:Nat}(hl:l0.length=N)(hN:N≤12)(hI:In cmp.length l0) :
    iU (bM l0 0 N cmp c2) fun x=>∃ l,x=.r0 l∧l.length=N∧In cmp.length l:=by
  obtain ⟨x,hx,l,rfl,h1,h2⟩:=Uq hl (by omega) hI
  have h:bx l0 0 N (N:Int) cmp c2=some (.r0 l):=by
    unfold bx
    have e:bd ((gF).run) (fun _ =>
        bd (cm (cD 0 N (N:Int) cmp c2) (0,20,l0)) fun (a4,l5) =>
        bd ((eM 0 N (N:Int) cmp c2 a4 l5).run) fun l6 =>
        bd (cm (bt (N:Int)) 20) fun _ =>
        (gJ l6).run)=some (.inl l):=by
      refine bN (a:=()) rfl (bN (a:=(0,l0)) (wW (fun _=>(0,20,l0)) 0 rfl (fun j hj=>absurd hj (by omega)) ?_) ?_)
      · show (eL _ _ _ _ _ _ _ _).run=_
        unfold eL
        exact AJ (by simp only [ap,aP,aQ,au,ax,am,dr,dt,decide_eq_true_eq,decide_eq_false_iff_not,beq_iff_eq,beq_eq_false_iff_ne,bne_iff_ne,bne_eq_false_iff_eq,Bool.not_eq_true',Bool.not_eq_false',List.length_set,ne_eq,ge_iff_le,gt_iff_lt,cu,ah,fw];omega) rfl
      · refine bN (a:=l) ?_ (bN (a:=()) (wW (fun _=>20) 0 rfl (fun j hj=>absurd hj (by omega)) ?_) rfl)
        · unfold eM
          refine lP (lP ?_)
          rw [ak]
          show (T.need (bg (aR l0 0 N 0 (N:Int) cmp)) (T.leaf (Sum.inl (bu (aR l0 0 N 0 (N:Int) cmp))))).run=_
          rw [hx]
          rfl
        · show bt (N:Int) 20=_
          unfold bt
          refine ru ?_
          unfold gH
          exact AJ (by simp only [ap,aP,aQ,au,ax,am,dr,dt,decide_eq_true_eq,decide_eq_false_iff_not,beq_iff_eq,beq_eq_false_iff_ne,bne_iff_ne,bne_eq_false_iff_eq,Bool.not_eq_true',Bool.not_eq_false',List.length_set,ne_eq,ge_iff_le,gt_iff_lt,cu,ah,fw];omega) rfl
    rw [e];rfl
  refine sR (aJ ?_)
  unfold gL
  rw [ak,ak,h]
  simp only [T.wp,Sum.elim_inl,Sum.elim_inr,decide_eq_true_eq,decide_eq_false_iff_not,ap,aP,aQ,au,ax,am,aB,ah,List.length_set,List.length_replicate,beq_iff_eq,beq_eq_false_iff_ne,bne_iff_ne,bne_eq_false_iff_eq,Bool.not_eq_true',Bool.not_eq_false',ne_eq,ak,Int.toNat_natCast]
  exact ⟨by omega,by omega,rfl,l,rfl,h1,h2⟩
theorem R4(l:List Nat)(hl:l.length≤1000000) :∃ k,pX l=some (.r0 k):=by
  have:iU (pX l) fun x=>∃ k,x=.r0 k:=by
    refine qy (an (fun _=>True) (aJ ?_) fun _ _=>an (fun _=>True) (iU.loop (fun p=>p.2.2≤l.length) (fun p=>l.length-p.2.2) (Nat.zero_le _) ?_) fun p _=>aJ ?_)
    · unfold H4;trivial
    · rintro ⟨s,t,a⟩ ha
      dsimp only at ha
      unfold wA
      dsimp only
      refine an (fun _=>a<l.length) (aJ ?_) fun p hp=>aJ ?_
      · unfold FY
        simp only [T.wp,Sum.elim_inl,Sum.elim_inr,decide_eq_true_eq,decide_eq_false_iff_not,ap,aP,aQ,au,ax,am,aB,ah,List.length_set,List.length_replicate,beq_iff_eq,beq_eq_false_iff_ne,bne_iff_ne,bne_eq_false_iff_eq,Bool.not_eq_true',Bool.not_eq_false',ne_eq,ak,Int.toNat_natCast]
        exact ⟨fun h=>⟨by omega,by omega,fun _=>by omega,fun _=>⟨fun _=>by omega,fun _=>by omega⟩⟩,fun _=>trivial⟩
      · unfold FZ
        simp only [T.wp,Sum.elim_inl,Sum.elim_inr,decide_eq_true_eq,decide_eq_false_iff_not,ap,aP,aQ,au,ax,am,aB,ah,List.length_set,List.length_replicate,beq_iff_eq,beq_eq_false_iff_ne,bne_iff_ne,bne_eq_false_iff_eq,Bool.not_eq_true',Bool.not_eq_false',ne_eq,ak,Int.toNat_natCast]
        exact ⟨by omega,by omega,by omega⟩
    · unfold F0
      exact ⟨_,rfl⟩
  obtain ⟨x,hx,k,rfl⟩:=this
  exact ⟨k,hx⟩
set_option maxHeartbeats 2000000 in
theorem R5 {N m rho : Nat} {d v : List Nat} (hd : d.length = N) (hv : v.length = N * N) (hN : N ≤ 12) (hm : 1 ≤ m) (hm2 : m < N) (hr : isNaN rho = false) :
    iU (co (N : Int) N (N * N) d v (m : Int) rho) fun x => ∃ r d' z' v', x = .r0 (N : Int) N (N * N) r d v d' z' v' ∧ d'.length = N ∧ z'.length = N ∧ v'.length = N * N := by
  have hNN : N * N ≤ 144 := Nat.mul_le_mul hN hN
  have e0 : (N : Int) * (N : Int) = ((N * N : Nat) : Int) := by rw [Int.natCast_mul]
  refine sR (an (fun p => p.1 = N ∧ p.2.2.length = N) (aJ ?_) ?_)
  · unfold sh
    simp only [T.wp, Sum.elim_inl, Sum.elim_inr, decide_eq_true_eq, decide_eq_false_iff_not, ap, aP, aQ, au, ax, am, aB, ah, List.length_set, List.length_replicate, beq_iff_eq, beq_eq_false_iff_ne, bne_iff_ne, bne_eq_false_iff_eq, Bool.not_eq_true', Bool.not_eq_false', ne_eq, ak, Int.toNat_natCast]
    ((repeat' (first | assumption | (refine And.intro ?_ ?_) | intro _)) <;> (try (first | omega | assumption | exact rfl | exact True.intro)))
    all_goals (rw [hr]; rfl)
  rintro ⟨z1, sg, l3⟩ ⟨h1, h2⟩
  dsimp only at h1 h2
  subst h1
  refine an (fun l => l.length = z1) (iU.loop (fun p => p.1 ≤ z1 ∧ p.2.length = z1) (fun p => z1 - p.1) ⟨Nat.zero_le _, h2⟩ ?_) fun l8 h8 => ?_
  · rintro ⟨a, l⟩ ⟨ha, hl⟩
    dsimp only at ha hl
    unfold ju
    dsimp only
    refine an (fun l => a < z1 ∧ l.length = z1) (aJ ?_) fun l' hl' => aJ ?_
    · unfold si
      have e1 : ((m : Int) - 1) * (z1 : Int) = (((m - 1) * z1 : Nat) : Int) := by rw [show (m : Int) - 1 = ((m - 1 : Nat) : Int) by omega, Int.natCast_mul]
      have e2 : (m : Int) * (z1 : Int) = ((m * z1 : Nat) : Int) := by rw [Int.natCast_mul]
      rw [e1, e2]
      simp only [T.wp, Sum.elim_inl, Sum.elim_inr, decide_eq_true_eq, decide_eq_false_iff_not, ap, aP, aQ, au, ax, am, aB, ah, List.length_set, List.length_replicate, beq_iff_eq, beq_eq_false_iff_ne, bne_iff_ne, bne_eq_false_iff_eq, Bool.not_eq_true', Bool.not_eq_false', ne_eq, ak, Int.toNat_natCast]
      have q1 : (m - 1 + 1) * z1 ≤ z1 * z1 := Nat.mul_le_mul_right z1 (by omega)
      have q2 : (m + 1) * z1 ≤ z1 * z1 := Nat.mul_le_mul_right z1 (by omega)
      rw [Nat.add_mul, Nat.one_mul] at q1 q2
      generalize (m - 1) * z1 = p1 at *
      generalize m * z1 = p2 at *
      rw [hv]
      generalize z1 * z1 = y at *
      refine ⟨fun h => ⟨fun h' => ?_, fun h' => ?_⟩, fun h => hl⟩ <;> omega
    · unfold sj
      simp only [T.wp, Sum.elim_inl, Sum.elim_inr, decide_eq_true_eq, decide_eq_false_iff_not, ap, aP, aQ, au, ax, am, aB, ah, List.length_set, List.length_replicate, beq_iff_eq, beq_eq_false_iff_ne, bne_iff_ne, bne_eq_false_iff_eq, Bool.not_eq_true', Bool.not_eq_false', ne_eq, ak, Int.toNat_natCast]
      exact ⟨by omega, ⟨by omega, hl'.2⟩, by omega⟩
  refine an (fun p => p.1 = z1 ∧ p.2.1 = z1 ∧ p.2.2.length = z1 ∧ In z1 p.2.2) (aJ ?_) ?_
  · unfold sk
    simp only [T.wp, Sum.elim_inl, Sum.elim_inr, decide_eq_true_eq, decide_eq_false_iff_not, ap, aP, aQ, au, ax, am, aB, ah, List.length_set, List.length_replicate, beq_iff_eq, beq_eq_false_iff_ne, bne_iff_ne, bne_eq_false_iff_eq, Bool.not_eq_true', Bool.not_eq_false', ne_eq, ak, Int.toNat_natCast]
    have hz : In z1 (List.replicate z1 (0 : Int)) := by
      intro x hx
      have := List.eq_of_mem_replicate hx
      omega
    ((repeat' (first | assumption | (refine And.intro ?_ ?_) | intro _)) <;> (try (first | omega | assumption | exact rfl | exact True.intro)))
  rintro ⟨or, a10, l11⟩ ⟨g1, g2, g3, g4⟩
  dsimp only at g1 g2 g3 g4
  subst g1 g2
  refine an (fun l => l.length = a10 ∧ In a10 l) (iU.loop (fun p => p.1 ≤ a10 ∧ p.2.length = a10 ∧ In a10 p.2) (fun p => a10 - p.1) ⟨Nat.zero_le _, g3, g4⟩ ?_) ?_
  · rintro ⟨a, l⟩ ⟨ha, hl, hi⟩
    dsimp only at ha hl hi
    unfold jw
    refine aJ ?_
    unfold sn
    simp only [T.wp, Sum.elim_inl, Sum.elim_inr, decide_eq_true_eq, decide_eq_false_iff_not, ap, aP, aQ, au, ax, am, aB, ah, List.length_set, List.length_replicate, beq_iff_eq, beq_eq_false_iff_ne, bne_iff_ne, bne_eq_false_iff_eq, Bool.not_eq_true', Bool.not_eq_false', ne_eq, ak, Int.toNat_natCast]
    exact ⟨fun h => ⟨by omega, by omega, by omega, ⟨by omega, by omega, hi.set (by omega)⟩, by omega⟩, fun h => ⟨hl, hi⟩⟩
  rintro l14 ⟨g5, g6⟩
  refine an (fun l => l.length = a10 ∧ In a10 l) (aJ ?_) ?_
  · unfold so
    rw [dX hd, dX hv]
    obtain ⟨x, hx, l, rfl, q1, q2⟩ := Ur (cmp := d) (c2 := v) g5 hN (by rw [hd]; exact g6)
    rw [hx]
    simp only [T.wp, Sum.elim_inl, Sum.elim_inr, decide_eq_true_eq, decide_eq_false_iff_not, ap, aP, aQ, au, ax, am, aB, ah, List.length_set, List.length_replicate, beq_iff_eq, beq_eq_false_iff_ne, bne_iff_ne, bne_eq_false_iff_eq, Bool.not_eq_true', Bool.not_eq_false', ne_eq, ak, Int.toNat_natCast]
    rw [hd] at q2
    exact ⟨by omega, by omega, rfl, q1, q2⟩
  rintro l15 ⟨g7, g8⟩
  refine an (fun p => p.1 = a10 ∧ p.2.1.length = a10 ∧ p.2.2.1 = a10 * a10 ∧ p.2.2.2.length = a10 * a10) (aJ ?_) ?_
  · unfold sq
    rw [e0]
    simp only [T.wp, Sum.elim_inl, Sum.elim_inr, decide_eq_true_eq, decide_eq_false_iff_not, ap, aP, aQ, au, ax, am, aB, ah, List.length_set, List.length_replicate, beq_iff_eq, beq_eq_false_iff_ne, bne_iff_ne, bne_eq_false_iff_eq, Bool.not_eq_true', Bool.not_eq_false', ne_eq, ak, Int.toNat_natCast]
    generalize a10 * a10 = y at *
    ((repeat' (first | assumption | (refine And.intro ?_ ?_) | intro _)) <;> (try (first | omega | assumption | exact rfl | exact True.intro)))
  rintro ⟨d16, l17, a18, l19⟩ ⟨k1, k2, k3, k4⟩
  dsimp only at k1 k2 k3 k4
  subst k1 k3
  refine an (fun p => p.1.length = d16 ∧ p.2.1.length = d16 ∧ p.2.2.length = d16 * d16) (iU.loop (fun p => p.1 ≤ d16 ∧ p.2.1.length = d16 ∧ p.2.2.1.length = d16 ∧ p.2.2.2.length = d16 * d16) (fun p => d16 - p.1) ⟨Nat.zero_le _, k2, k2, k4⟩ ?_) ?_
  · rintro ⟨a, x, y, z⟩ ⟨ha, hx, hy, hz⟩
    dsimp only at ha hx hy hz
    unfold jA
    dsimp only
    refine an (fun _ => a < d16) (aJ ?_) fun _ ha' => ?_
    · unfold sv
      simp only [T.wp, Sum.elim_inl, Sum.elim_inr, decide_eq_true_eq, decide_eq_false_iff_not, ap, aP, aQ, au, ax, am, aB, ah, List.length_set, List.length_replicate, beq_iff_eq, beq_eq_false_iff_ne, bne_iff_ne, bne_eq_false_iff_eq, Bool.not_eq_true', Bool.not_eq_false', ne_eq, ak, Int.toNat_natCast]
      exact ⟨fun h => by omega, fun h => ⟨hx, hy, hz⟩⟩
    refine an (fun p => p.1.length = d16 ∧ p.2.1.length = d16 ∧ p.2.2.length = d16 * d16) (iU.join (an (fun (p : Int × List Nat × List Nat) => (0 ≤ p.1 ∧ p.1 < d16) ∧ p.2.1.length = d16 ∧ p.2.2.length = d16) (aJ ?_) ?_)) ?_
    · unfold sx
      simp only [T.wp, Sum.elim_inl, Sum.elim_inr, decide_eq_true_eq, decide_eq_false_iff_not, ap, aP, aQ, au, ax, am, aB, ah, List.length_set, List.length_replicate, beq_iff_eq, beq_eq_false_iff_ne, bne_iff_ne, bne_eq_false_iff_eq, Bool.not_eq_true', Bool.not_eq_false', ne_eq, ak, Int.toNat_natCast]
      have b := g8.at (i := a) (by omega)
      exact ⟨by omega, by omega, by omega, by omega, by omega, by omega, by omega, by omega, by omega, by omega, b, hx, hy⟩
    · rintro ⟨i, x', y'⟩ ⟨hi, hx', hy'⟩
      dsimp only at hi hx' hy'
      refine an (fun l => l.length = d16 * d16) (iU.loop (fun p => p.1 ≤ d16 ∧ p.2.length = d16 * d16) (fun p => d16 - p.1) ⟨Nat.zero_le _, hz⟩ ?_) fun l hl => aJ ?_
      · rintro ⟨b, l⟩ ⟨hb, hl⟩
        dsimp only at hb hl
        unfold jz
        refine aJ ?_
        unfold sz
        have e1 : (b : Int) * (d16 : Int) = ((b * d16 : Nat) : Int) := by rw [Int.natCast_mul]
        rw [e1]
        simp only [T.wp, Sum.elim_inl, Sum.elim_inr, decide_eq_true_eq, decide_eq_false_iff_not, ap, aP, aQ, au, ax, am, aB, ah, List.length_set, List.length_replicate, beq_iff_eq, beq_eq_false_iff_ne, bne_iff_ne, bne_eq_false_iff_eq, Bool.not_eq_true', Bool.not_eq_false', ne_eq, ak, Int.toNat_natCast]
        refine ⟨fun h => ?_, fun h => hl⟩
        have q1 : (b + 1) * d16 ≤ d16 * d16 := Nat.mul_le_mul_right d16 (by omega)
        rw [Nat.add_mul, Nat.one_mul] at q1
        generalize b * d16 = p1 at *
        rw [hv]
        generalize d16 * d16 = y at *
        omega
      · unfold sA
        exact ⟨hx', hy', hl⟩
    · rintro ⟨x', y', z'⟩ h
      refine aJ ?_
      unfold sB
      simp only [T.wp, Sum.elim_inl, Sum.elim_inr, decide_eq_true_eq, decide_eq_false_iff_not, ap, aP, aQ, au, ax, am, aB, ah, List.length_set, List.length_replicate, beq_iff_eq, beq_eq_false_iff_ne, bne_iff_ne, bne_eq_false_iff_eq, Bool.not_eq_true', Bool.not_eq_false', ne_eq, ak, Int.toNat_natCast]
      exact ⟨by omega, ⟨by omega, h⟩, by omega⟩
  rintro ⟨l42, l43, l44⟩ ⟨m1, m2, m3⟩
  dsimp only at m1 m2 m3
  refine an (fun _ => True) (aJ ?_) fun lg _ => an (fun _ => True) (aJ ?_) fun _ _ => ?_
  · unfold sC
    rw [dX m2]
    obtain ⟨k, hk⟩ := R4 l43 (by omega)
    rw [hk]
    simp only [T.wp, Sum.elim_inl, Sum.elim_inr, decide_eq_true_eq, decide_eq_false_iff_not, ap, aP, aQ, au, ax, am, aB, ah, List.length_set, List.length_replicate, beq_iff_eq, beq_eq_false_iff_ne, bne_iff_ne, bne_eq_false_iff_eq, Bool.not_eq_true', Bool.not_eq_false', ne_eq, ak, Int.toNat_natCast]
    exact ⟨by omega, rfl, trivial⟩
  · unfold sD; trivial
  refine an (fun l => l.length = d16) (iU.loop (fun p => p.1 ≤ d16 ∧ p.2.length = d16) (fun p => d16 - p.1) ⟨Nat.zero_le _, m2⟩ ?_) fun l48 hl => aJ ?_
  · rintro ⟨a, l⟩ ⟨ha, hl⟩
    dsimp only at ha hl
    unfold jC
    refine aJ ?_
    unfold sF
    simp only [T.wp, Sum.elim_inl, Sum.elim_inr, decide_eq_true_eq, decide_eq_false_iff_not, ap, aP, aQ, au, ax, am, aB, ah, List.length_set, List.length_replicate, beq_iff_eq, beq_eq_false_iff_ne, bne_iff_ne, bne_eq_false_iff_eq, Bool.not_eq_true', Bool.not_eq_false', ne_eq, ak, Int.toNat_natCast]
    exact ⟨fun h => by omega, fun h => hl⟩
  · unfold sG
    exact ⟨_, _, _, _, rfl, m1, hl, m3⟩
theorem S0{N x9 n10 c11 n12 c13:Nat}{d z v:List Nat}{l g:List Int}{j i:Int}{tol:Nat}(hd:d.length=N)(hz:z.length=N)(hv:v.length=N*N)(hN:N≤12)(hj:0≤j∧j<N)(hi:0≤i∧i<N) :
    iU (aT (N:Int) N N N N (N:Int) (N:Int) (N*N) (N*N) x9 n10 c11 n12 c13 d z v l g j i tol) fun x=>∃ b d' z' v',x=.r0 b (N:Int) N N N N (N:Int) (N:Int) (N*N) (N*N) x9 n10 c11 n12 c13 d' z' v' l g∧d'.length=N∧z'.length=N∧v'.length=N*N:=by
  have hNN:N*N≤144:=Nat.mul_le_mul hN hN
  refine qy (an (fun _=>True) (aJ ?_) fun h1 _=>?_)
  · unfold tC
    simp only [T.wp,Sum.elim_inl,Sum.elim_inr,decide_eq_true_eq,decide_eq_false_iff_not,ap,aP,aQ,au,ax,am,aB,ah,List.length_set,List.length_replicate,beq_iff_eq,beq_eq_false_iff_ne,bne_iff_ne,bne_eq_false_iff_eq,Bool.not_eq_true',Bool.not_eq_false',ne_eq,ak,Int.toNat_natCast]
    ((repeat' (first | assumption | (refine And.intro ?_ ?_) | intro _))<;>(try (first | omega | assumption | exact rfl | exact True.intro)))
  refine an (fun (p:Nat×Nat×List Nat)=>p.2.2.length=N) (aJ ?_) ?_
  · unfold tD
    simp only [T.wp,Sum.elim_inl,Sum.elim_inr,decide_eq_true_eq,decide_eq_false_iff_not,ap,aP,aQ,au,ax,am,aB,ah,List.length_set,List.length_replicate,beq_iff_eq,beq_eq_false_iff_ne,bne_iff_ne,bne_eq_false_iff_eq,Bool.not_eq_true',Bool.not_eq_false',ne_eq,ak,Int.toNat_natCast]
    refine ⟨by omega,by omega,by omega,by omega,by omega,by omega,by omega,by omega,fun _=>⟨_,_,_,_,rfl,hd,hz,hv⟩,fun _=>by omega⟩
  rintro ⟨c,s,l4⟩ h4
  dsimp only at h4
  refine an (fun (l:List Nat)=>l.length=N*N) (iU.loop (fun (p:Nat×List Nat)=>p.1≤N∧p.2.length=N*N) (fun p=>N-p.1) ⟨Nat.zero_le _,hv⟩ ?_) fun l9 h9=>aJ ?_
  · rintro ⟨a,y⟩ ⟨ha,hy⟩
    dsimp only at ha hy
    unfold jS
    dsimp only
    refine an (fun (l:List Nat)=>a<N∧l.length=N*N) (aJ ?_) fun y' hy'=>aJ ?_
    · unfold tE
      have e1:(a:Int)*(N:Int)=((a*N:Nat):Int):=by rw [Int.natCast_mul]
      rw [e1]
      simp only [T.wp,Sum.elim_inl,Sum.elim_inr,decide_eq_true_eq,decide_eq_false_iff_not,ap,aP,aQ,au,ax,am,aB,ah,List.length_set,List.length_replicate,beq_iff_eq,beq_eq_false_iff_ne,bne_iff_ne,bne_eq_false_iff_eq,Bool.not_eq_true',Bool.not_eq_false',ne_eq,ak,Int.toNat_natCast]
      refine ⟨fun h=>?_,fun h=>hy⟩
      have q1:(a+1)*N≤N*N:=Nat.mul_le_mul_right N (by omega)
      rw [Nat.add_mul,Nat.one_mul] at q1
      generalize a*N=p1 at *
      generalize N*N=w at *
      omega
    · unfold tF
      simp only [T.wp,Sum.elim_inl,Sum.elim_inr,decide_eq_true_eq,decide_eq_false_iff_not,ap,aP,aQ,au,ax,am,aB,ah,List.length_set,List.length_replicate,beq_iff_eq,beq_eq_false_iff_ne,bne_iff_ne,bne_eq_false_iff_eq,Bool.not_eq_true',Bool.not_eq_false',ne_eq,ak,Int.toNat_natCast]
      exact ⟨by omega,⟨by omega,hy'.2⟩,by omega⟩
  · unfold tG
    simp only [T.wp,Sum.elim_inl,Sum.elim_inr,decide_eq_true_eq,decide_eq_false_iff_not,ap,aP,aQ,au,ax,am,aB,ah,List.length_set,List.length_replicate,beq_iff_eq,beq_eq_false_iff_ne,bne_iff_ne,bne_eq_false_iff_eq,Bool.not_eq_true',Bool.not_eq_false',ne_eq,ak,Int.toNat_natCast]
    exact ⟨by omega,by omega,by omega,by omega,by omega,by omega,by omega,by omega,_,_,_,_,rfl,by rw [List.length_set,List.length_set,hd],h4,h9⟩
theorem VE(x y:Int) :∃ k,xH x y=some (.r0 k):=by
  unfold xH Lq Lr
  cases h1:x != x<;>cases h2:y != y<;>simp only [T.run,toX,bd,Bool.not_true,Bool.not_false]<;>exact ⟨_,rfl⟩
theorem Us{l0:List Int}{K N:Nat}(hl:l0.length=N)(hN:N≤1000)(hI:In K l0) :
    iU (fW l0 0 N 0 (N:Int)) fun x=>∃ l,x=.r0 l∧l.length=N∧In K l:=by
  refine sR (an (fun i=>i=1) (aJ ?_) ?_)
  · unfold qi
    simp only [T.wp,Sum.elim_inl,Sum.elim_inr,decide_eq_true_eq,decide_eq_false_iff_not,ap,aP,aQ,au,ax,am,aB,ah,List.length_set,List.length_replicate,beq_iff_eq,beq_eq_false_iff_ne,bne_iff_ne,bne_eq_false_iff_eq,Bool.not_eq_true',Bool.not_eq_false',ne_eq,ak,Int.toNat_natCast]
    exact ⟨by omega,by omega⟩
  rintro i rfl
  refine an (fun l=>l.length=N∧In K l) (iU.loop (fun (p:Int×List Int)=>1≤p.1∧p.2.length=N∧In K p.2) (fun p=>((N:Int)-p.1).toNat) ⟨by dsimp only;omega,hl,hI⟩ ?_) fun l hl=>aJ ?_
  · rintro ⟨i,l⟩ ⟨h1,h2,h3⟩
    dsimp only at h1 h2 h3
    unfold ik
    dsimp only
    refine an (fun _=>i<N) (aJ ?_) fun _ hi=>?_
    · unfold qk
      simp only [T.wp,Sum.elim_inl,Sum.elim_inr,decide_eq_true_eq,decide_eq_false_iff_not,ap,aP,aQ,au,ax,am,aB,ah,List.length_set,List.length_replicate,beq_iff_eq,beq_eq_false_iff_ne,bne_iff_ne,bne_eq_false_iff_eq,Bool.not_eq_true',Bool.not_eq_false',ne_eq,ak,Int.toNat_natCast]
      exact ⟨fun h=>h,fun h=>⟨h2,h3⟩⟩
    refine an (fun l=>l.length=N∧In K l) (iU.join (an (fun _=>True) (aJ ?_) fun _ _=>an (fun l=>l.length=N∧In K l) (iU.loop (fun (p:Int×List Int)=>0≤p.1∧p.1≤i∧p.2.length=N∧In K p.2) (fun p=>p.1.toNat) ⟨by dsimp only;omega,by dsimp only;omega,h2,h3⟩ ?_) fun l' hl'=>aJ ?_)) fun l' hl'=>aJ ?_
    · unfold ql;trivial
    · rintro ⟨j,y⟩ ⟨g1,g2,g3,g4⟩
      dsimp only at g1 g2 g3 g4
      unfold ij
      dsimp only
      refine an (fun b=>b=true→0<j) (aJ ?_) fun b hb=>aJ ?_
      · unfold qn
        simp only [T.wp,Sum.elim_inl,Sum.elim_inr,decide_eq_true_eq,decide_eq_false_iff_not,ap,aP,aQ,au,ax,am,aB,ah,List.length_set,List.length_replicate,beq_iff_eq,beq_eq_false_iff_ne,bne_iff_ne,bne_eq_false_iff_eq,Bool.not_eq_true',Bool.not_eq_false',ne_eq,ak,Int.toNat_natCast]
        refine ⟨fun h=>?_,fun h q=>by cases q⟩
        obtain ⟨k,hk⟩:=VE (y.getD (0+j.toNat) 0) (y.getD (0+(j-1).toNat) 0)
        rw [hk]
        exact ⟨by omega,by omega,by omega,by omega,by omega,rfl,fun _=>by omega⟩
      · unfold qo
        simp only [T.wp,Sum.elim_inl,Sum.elim_inr,decide_eq_true_eq,decide_eq_false_iff_not,ap,aP,aQ,au,ax,am,aB,ah,List.length_set,List.length_replicate,beq_iff_eq,beq_eq_false_iff_ne,bne_iff_ne,bne_eq_false_iff_eq,Bool.not_eq_true',Bool.not_eq_false',ne_eq,ak,Int.toNat_natCast]
        refine ⟨fun h=>?_,fun h=>⟨g3,g4⟩⟩
        have hj:=hb h
        have a1:=g4.at (i:=bV 0 j.toNat) (by rw [aB];omega)
        have a2:=g4.at (i:=bV 0 (j-1).toNat) (by rw [aB];omega)
        simp only [aB] at a1 a2
        exact ⟨by omega,by omega,by omega,by omega,by omega,by omega,by omega,by omega,by omega,by omega,by omega,⟨by omega,by omega,by omega,(g4.set a2).set a1⟩,by omega⟩
    · unfold qp
      exact hl'
    · unfold qq
      simp only [T.wp,Sum.elim_inl,Sum.elim_inr,decide_eq_true_eq,decide_eq_false_iff_not,ap,aP,aQ,au,ax,am,aB,ah,List.length_set,List.length_replicate,beq_iff_eq,beq_eq_false_iff_ne,bne_iff_ne,bne_eq_false_iff_eq,Bool.not_eq_true',Bool.not_eq_false',ne_eq,ak,Int.toNat_natCast]
      exact ⟨by omega,⟨by omega,hl'⟩,by omega⟩
  · unfold qr
    exact ⟨_,rfl,hl⟩
set_option maxRecDepth 100000 in
theorem VF {n : Nat} (h : n ≤ 12) : ∃ k, pQ (IntKind.u64.wrap (n : Int)) = some (.r0 k) := by
  have : n = 0 ∨ n = 1 ∨ n = 2 ∨ n = 3 ∨ n = 4 ∨ n = 5 ∨ n = 6 ∨ n = 7 ∨ n = 8 ∨ n = 9 ∨ n = 10 ∨ n = 11 ∨ n = 12 := by omega
  rcases this with rfl | rfl | rfl | rfl | rfl | rfl | rfl | rfl | rfl | rfl | rfl | rfl | rfl <;> exact ⟨_, rfl⟩
theorem S2{l0:List Int}{K N:Nat}(hl:l0.length=N)(hN:N≤12)(hI:In K l0) :
    iU (uO l0 0 N) fun x=>∃ l,x=.r0 l∧l.length=N∧In K l:=by
  obtain ⟨x,hx,l,rfl,h1,h2⟩:=Us hl (by omega) hI
  obtain ⟨k,hk⟩:=VF hN
  have h:jo l0 0 N 0 (N:Int) k=some (.r0 l):=by
    refine jP (bN (a:=true) rfl (wW (fun _=>()) 0 rfl (fun j hj=>absurd hj (by omega)) ?_))
    unfold jT
    refine PA (ru ?_)
    unfold uN
    refine qI (by simp only [ap,aP,aQ,au,ax,am,dr,dt,decide_eq_true_eq,decide_eq_false_iff_not,beq_iff_eq,beq_eq_false_iff_ne,bne_iff_ne,bne_eq_false_iff_eq,Bool.not_eq_true',Bool.not_eq_false',List.length_set,ne_eq,ge_iff_le,gt_iff_lt,cu,ah,fw];omega) (T.at (by simp only [ap,aP,aQ,au,ax,am,dr,dt,decide_eq_true_eq,decide_eq_false_iff_not,beq_iff_eq,beq_eq_false_iff_ne,bne_iff_ne,bne_eq_false_iff_eq,Bool.not_eq_true',Bool.not_eq_false',List.length_set,ne_eq,ge_iff_le,gt_iff_lt,cu,ah,fw];omega) ?_)
    rw [hx]
    rfl
  refine sR (aJ ?_)
  unfold F2
  rw [hk]
  simp only [qD,oq]
  rw [h]
  exact ⟨rfl,rfl,l,rfl,h1,h2⟩
structure MS (N:Nat) (i71:Int) (a72 a73 a74 a75:Nat) (i76 i77:Int) (a78 a79 a81 a82 a83 a84:Nat) (l85 l86 l87:List Nat) (l88 l89:List Int):Prop where
  e1:(N:Int)=i71
  e2:N=a72
  e3:N=a73
  e4:N=a74
  e5:N=a75
  e6:(N:Int)=i76
  e7:(N:Int)=i77
  e8:N*N=a78
  e9:N*N=a79
  e10:a81=a82
  e11:a83=a84
  d:l85.length=N
  z:l86.length=N
  v:l87.length=N*N
  l:l88.length=a81
  g:l89.length=a83
  il:In N l88
  ig:In N l89
abbrev X2:=Nat×Int×Nat×Nat×Nat×Nat×Int×Int×Nat×Nat×Nat×Nat×Nat×Nat×Nat×List Nat×List Nat×List Nat×List Int×List Int
abbrev XW:=Int×Nat×Nat×Nat×Nat×Int×Int×Nat×Nat×Nat×Nat×Nat×Nat×Nat×List Nat×List Nat×List Nat×List Int×List Int
def XK(N a:Nat)(p:XW) :Prop:=MS N p.1 p.2.1 p.2.2.1 p.2.2.2.1 p.2.2.2.2.1 p.2.2.2.2.2.1 p.2.2.2.2.2.2.1 p.2.2.2.2.2.2.2.1 p.2.2.2.2.2.2.2.2.1 p.2.2.2.2.2.2.2.2.2.2.1 p.2.2.2.2.2.2.2.2.2.2.2.1 p.2.2.2.2.2.2.2.2.2.2.2.2.1 p.2.2.2.2.2.2.2.2.2.2.2.2.2.1 p.2.2.2.2.2.2.2.2.2.2.2.2.2.2.1 p.2.2.2.2.2.2.2.2.2.2.2.2.2.2.2.1 p.2.2.2.2.2.2.2.2.2.2.2.2.2.2.2.2.1 p.2.2.2.2.2.2.2.2.2.2.2.2.2.2.2.2.2.1 p.2.2.2.2.2.2.2.2.2.2.2.2.2.2.2.2.2.2∧p.2.2.2.2.2.2.2.2.2.2.1+p.2.2.2.2.2.2.2.2.2.2.2.2.1=a
theorem XF{α:Type}(x:α) :List.take 1 [x]=[x]:=rfl
theorem R6{l:List Int}{n:Nat}(h:l.length=n)(x:Int) :(l.take n++[x]).length=n+1:=by
  rw [List.length_append,List.length_take,h,Nat.min_self];rfl
set_option maxHeartbeats 2000000 in
theorem Ut {N x9 : Nat} {d z v : List Nat} (hd : d.length = N) (hz : z.length = N) (hv : v.length = N * N) (hN : N ≤ 12) :
    iU (aX (N : Int) N N N N (N : Int) (N : Int) (N * N) (N * N) x9 d z v) fun x => ∃ a80 a81 a82 a83 a84 l85 l86 l87 l88 l89, x = .r0 (N : Int) N N N N (N : Int) (N : Int) (N * N) (N * N) a80 a81 a82 a83 a84 l85 l86 l87 l88 l89 ∧ MS N (N : Int) N N N N (N : Int) (N : Int) (N * N) (N * N) a81 a82 a83 a84 l85 l86 l87 l88 l89 ∧ a81 + a83 = N := by
  have hNN : N * N ≤ 144 := Nat.mul_le_mul hN hN
  refine sR (an (fun p => p.1 = 1 + N ∧ p.2.1 = 1 + N ∧ p.2.2.length = 1 + N) (aJ ?_) ?_)
  · unfold uR
    simp only [T.wp, Sum.elim_inl, Sum.elim_inr, decide_eq_true_eq, decide_eq_false_iff_not, ap, aP, aQ, au, ax, am, aB, ah, List.length_set, List.length_replicate, beq_iff_eq, beq_eq_false_iff_ne, bne_iff_ne, bne_eq_false_iff_eq, Bool.not_eq_true', Bool.not_eq_false', ne_eq, ak, Int.toNat_natCast]
    simp only [List.length_append, List.length_take, List.length_cons, List.length_nil]
    ((repeat' (first | assumption | (refine And.intro ?_ ?_) | intro _)) <;> (try (first | omega | assumption | exact rfl | exact True.intro)))
  rintro ⟨a1, a2, l3⟩ ⟨h1, h2, h3⟩
  dsimp only at h1 h2 h3
  refine an (fun _ => True) (iU.loop (fun (p : Nat × Nat) => p.2 ≤ 1 + N) (fun p => 1 + N - p.2) (by dsimp only; omega) ?_) fun b _ => an (fun _ => True) (aJ ?_) fun tol _ => ?_
  · rintro ⟨b, a⟩ ha
    dsimp only at ha
    unfold kJ
    dsimp only
    refine an (fun _ => a < 1 + N) (aJ ?_) fun y hy => aJ ?_
    · unfold uS
      simp only [T.wp, Sum.elim_inl, Sum.elim_inr, decide_eq_true_eq, decide_eq_false_iff_not, ap, aP, aQ, au, ax, am, aB, ah, List.length_set, List.length_replicate, beq_iff_eq, beq_eq_false_iff_ne, bne_iff_ne, bne_eq_false_iff_eq, Bool.not_eq_true', Bool.not_eq_false', ne_eq, ak, Int.toNat_natCast]
      ((repeat' (first | assumption | (refine And.intro ?_ ?_) | intro _)) <;> (try (first | omega | assumption | exact rfl | exact True.intro)))
    · unfold uT
      simp only [T.wp, Sum.elim_inl, Sum.elim_inr, decide_eq_true_eq, decide_eq_false_iff_not, ap, aP, aQ, au, ax, am, aB, ah, List.length_set, List.length_replicate, beq_iff_eq, beq_eq_false_iff_ne, bne_iff_ne, bne_eq_false_iff_eq, Bool.not_eq_true', Bool.not_eq_false', ne_eq, ak, Int.toNat_natCast]
      ((repeat' (first | assumption | (refine And.intro ?_ ?_) | intro _)) <;> (try (first | omega | assumption | exact rfl | exact True.intro)))
  · unfold uU; trivial
  refine an (XK N N) (iU.loop (fun (p : X2) => p.1 ≤ N ∧ XK N p.1 p.2) (fun p => N - p.1) ⟨Nat.zero_le _, ⟨rfl, rfl, rfl, rfl, rfl, rfl, rfl, rfl, rfl, rfl, rfl, hd, hz, hv, rfl, rfl, In.nil, In.nil⟩, rfl⟩ ?_) ?_
  · rintro ⟨a, i71, a72, a73, a74, a75, i76, i77, a78, a79, a80, a81, a82, a83, a84, l85, l86, l87, l88, l89⟩ ⟨ha, ⟨e1, e2, e3, e4, e5, e6, e7, e8, e9, e10, e11, hd, hz, hv, hl, hg, il, ig⟩, hs⟩
    dsimp only at ha e1 e2 e3 e4 e5 e6 e7 e8 e9 e10 e11 hd hz hv hl hg il ig hs
    subst e1 e2 e3 e4 e5 e6 e7 e8 e9 e10 e11
    unfold kL
    dsimp only
    refine an (fun _ => a < N) (aJ ?_) fun _ ha' => ?_
    · unfold uW
      simp only [T.wp, Sum.elim_inl, Sum.elim_inr, decide_eq_true_eq, decide_eq_false_iff_not, ap, aP, aQ, au, ax, am, aB, ah, List.length_set, List.length_replicate, beq_iff_eq, beq_eq_false_iff_ne, bne_iff_ne, bne_eq_false_iff_eq, Bool.not_eq_true', Bool.not_eq_false', ne_eq, ak, Int.toNat_natCast]
      refine ⟨fun h => by omega, fun h => ⟨⟨rfl, rfl, rfl, rfl, rfl, rfl, rfl, rfl, rfl, rfl, rfl, hd, hz, hv, hl, hg, il, ig⟩, ?_⟩⟩
      dsimp only
      omega
    refine an (XK N (a + 1)) (iU.join (an (fun (p : Bool × XW) => XK N a p.2 ∧ p.2.2.2.2.2.2.2.2.2.2.2.1 = a81 ∧ (p.1 = true → 0 < a81)) (aJ ?_) ?_)) ?_
    · unfold uY
      simp only [T.wp, Sum.elim_inl, Sum.elim_inr, decide_eq_true_eq, decide_eq_false_iff_not, ap, aP, aQ, au, ax, am, aB, ah, List.length_set, List.length_replicate, beq_iff_eq, beq_eq_false_iff_ne, bne_iff_ne, bne_eq_false_iff_eq, Bool.not_eq_true', Bool.not_eq_false', ne_eq, ak, Int.toNat_natCast]
      refine ⟨by omega, by omega, fun _ => ⟨by omega, by omega, by simp only [List.length_cons, List.length_nil]; omega, by omega, ⟨rfl, rfl, rfl, rfl, rfl, rfl, rfl, rfl, rfl, rfl, rfl, hd, hz, hv, hl, R6 hg _, il, ig.push ⟨by omega, by omega⟩⟩, by dsimp only; omega⟩, fun _ => ⟨fun hp => ?_, fun hp => ⟨⟨⟨rfl, rfl, rfl, rfl, rfl, rfl, rfl, rfl, rfl, rfl, rfl, hd, hz, hv, hl, hg, il, ig⟩, hs⟩, trivial, fun q => by cases q⟩⟩⟩
      have b := il.at (i := ((a81 : Int) - 1).toNat) (by omega)
      obtain ⟨x, hx, bb, d', z', v', rfl, k1, k2, k3⟩ := S0 (x9 := a80) (n10 := a81) (c11 := a81) (n12 := a83) (c13 := a83) (l := l88) (g := l89) (j := l88.getD ((a81 : Int) - 1).toNat 0) (i := (a : Int)) (tol := tol) hd hz hv hN b ⟨by omega, by omega⟩
      rw [hx]
      exact ⟨by omega, by omega, by omega, rfl, ⟨⟨rfl, rfl, rfl, rfl, rfl, rfl, rfl, rfl, rfl, rfl, rfl, k1, k2, k3, hl, hg, il, ig⟩, hs⟩, rfl, fun _ => by omega⟩
    · rintro ⟨b, j71, b72, b73, b74, b75, j76, j77, b78, b79, b80, b81, b82, b83, b84, m85, m86, m87, m88, m89⟩ ⟨⟨⟨e1, e2, e3, e4, e5, e6, e7, e8, e9, e10, e11, kd, kz, kv, kl, kg, jl, jg⟩, ks⟩, hc, hb⟩
      dsimp only at e1 e2 e3 e4 e5 e6 e7 e8 e9 e10 e11 kd kz kv kl kg jl jg ks hc hb
      subst e1 e2 e3 e4 e5 e6 e7 e8 e9 e10 e11
      subst hc
      refine an (fun (p : Nat × Nat × Nat × List Int) => p.1 ≤ b81 ∧ p.2.1 = p.2.2.1 ∧ p.2.2.2.length = p.2.1 ∧ p.1 + p.2.1 = a ∧ In N p.2.2.2) (aJ ?_) ?_
      · unfold uZ
        simp only [T.wp, Sum.elim_inl, Sum.elim_inr, decide_eq_true_eq, decide_eq_false_iff_not, ap, aP, aQ, au, ax, am, aB, ah, List.length_set, List.length_replicate, beq_iff_eq, beq_eq_false_iff_ne, bne_iff_ne, bne_eq_false_iff_eq, Bool.not_eq_true', Bool.not_eq_false', ne_eq, ak, Int.toNat_natCast]
        refine ⟨fun h => ?_, fun h => ⟨by omega, trivial, kg, ks, jg⟩⟩
        have hp := hb h
        have b := jl.at (i := ((b81 : Int) - 1).toNat) (by omega)
        exact ⟨by omega, by omega, by omega, by omega, by omega, by simp only [List.length_cons, List.length_nil]; omega, by omega, by omega, by omega, by omega, by omega, trivial, R6 kg _, by omega, jg.push b⟩
      · rintro ⟨c110, c111, c112, m113⟩ ⟨q1, q2, q3, q4, q5⟩
        dsimp only at q1 q2 q3 q4 q5
        refine aJ ?_
        unfold u4
        simp only [T.wp, Sum.elim_inl, Sum.elim_inr, decide_eq_true_eq, decide_eq_false_iff_not, ap, aP, aQ, au, ax, am, aB, ah, List.length_set, List.length_replicate, beq_iff_eq, beq_eq_false_iff_ne, bne_iff_ne, bne_eq_false_iff_eq, Bool.not_eq_true', Bool.not_eq_false', ne_eq, ak, Int.toNat_natCast]
        refine ⟨by omega, by omega, by simp only [List.length_cons, List.length_nil]; omega, by omega, ⟨rfl, rfl, rfl, rfl, rfl, rfl, rfl, rfl, rfl, rfl, q2, kd, kz, kv, ?_, q3, jl.push ⟨by omega, by omega⟩, q5⟩, by dsimp only; omega⟩
        rw [List.length_append, List.length_take, kl, Nat.min_eq_left q1]; rfl
    · rintro ⟨j71, b72, b73, b74, b75, j76, j77, b78, b79, b80, b81, b82, b83, b84, m85, m86, m87, m88, m89⟩ h
      refine aJ ?_
      unfold u5
      simp only [T.wp, Sum.elim_inl, Sum.elim_inr, decide_eq_true_eq, decide_eq_false_iff_not, ap, aP, aQ, au, ax, am, aB, ah, List.length_set, List.length_replicate, beq_iff_eq, beq_eq_false_iff_ne, bne_iff_ne, bne_eq_false_iff_eq, Bool.not_eq_true', Bool.not_eq_false', ne_eq, ak, Int.toNat_natCast]
      exact ⟨by omega, ⟨by omega, h⟩, by omega⟩
  · rintro ⟨i71, a72, a73, a74, a75, i76, i77, a78, a79, a80, a81, a82, a83, a84, l85, l86, l87, l88, l89⟩ ⟨⟨e1, e2, e3, e4, e5, e6, e7, e8, e9, e10, e11, hd, hz, hv, hl, hg, il, ig⟩, hs⟩
    dsimp only at e1 e2 e3 e4 e5 e6 e7 e8 e9 e10 e11 hd hz hv hl hg il ig hs
    subst e1 e2 e3 e4 e5 e6 e7 e8 e9 e10 e11
    refine aJ ?_
    unfold u6
    obtain ⟨x, hx, l, rfl, k1, k2⟩ := S2 hg (by omega) ig
    rw [hx]
    exact ⟨rfl, _, _, _, _, _, _, _, _, _, _, rfl, ⟨rfl, rfl, rfl, rfl, rfl, rfl, rfl, rfl, rfl, rfl, rfl, hd, hz, hv, hl, k1, il, k2⟩, hs⟩
theorem R7(l:List Nat)(hn:l.length≤1000000) :iU (bP l) fun x=>∃ k:Int,x=.r0 k∧(k≥0∨(k<0∧GD l)):=by
  refine qy (an (fun _=>True) (aJ ?_) fun _ _=>?_)
  · unfold kt
    trivial
  refine an (fun _=>GD l) (iU.loop (fun a=>a≤l.length∧∀ i,i<a→gd (l.getD i 0)=true) (fun a=>l.length-a) ⟨by omega,fun i hi=>by omega⟩ ?_) fun _ hg=>aJ ?_
  · rintro a ⟨ha,hg⟩
    unfold fe
    refine aJ ?_
    unfold kw
    simp only [T.wp,Sum.elim_inl,Sum.elim_inr,decide_eq_true_eq,decide_eq_false_iff_not,ap,aP,aQ,au,ax,am,aB,ah,List.length_set,List.length_replicate,beq_iff_eq,beq_eq_false_iff_ne,bne_iff_ne,bne_eq_false_iff_eq,Bool.not_eq_true',Bool.not_eq_false',ne_eq,ak,Int.toNat_natCast]
    refine ⟨fun h=>⟨by omega,by omega,fun h1=>⟨_,rfl,.inl (by omega)⟩,fun h1=>⟨fun _=>⟨fun h2=>⟨_,rfl,.inl (by omega)⟩,fun h2=>⟨by omega,⟨by omega,fun i hi=>?_⟩,by omega⟩⟩,fun q=>absurd trivial (by simp at q)⟩⟩,fun h i hi=>hg i (by omega)⟩
    by_cases q:i<a
    · exact hg i q
    · have:i=a:=by omega
      subst this
      unfold gd
      rw [h1,h2];rfl
  · unfold ki
    exact ⟨_,rfl,.inr ⟨by omega,hg⟩⟩
theorem R8(D Z:List Nat)(rho k:Nat)(hD:D.length=k)(hZ:Z.length=k)(hk:k≤512) :∃ e,mZ D Z rho=some (.r0 e)∧(e=0→GD Z):=by
  have:iU (mZ D Z rho) fun x=>∃ e,x=.r0 e∧(e=0→GD Z):=by
    refine qy (an (fun _=>True) (aJ ?_) fun b _=>an (fun _=>True) (aJ ?_) fun w _=>an (fun _=>True) (iU.loop (fun (p:Bool×Nat)=>p.2≤k) (fun p=>k-p.2) (Nat.zero_le _) ?_) fun w _=>an (fun _=>GD Z) (aJ ?_) fun _ hg=>aJ ?_)
    · unfold Eu
      simp only [T.wp,Sum.elim_inl,Sum.elim_inr,decide_eq_true_eq,decide_eq_false_iff_not,ap,aP,aQ,au,ax,am,aB,ah,List.length_set,List.length_replicate,beq_iff_eq,beq_eq_false_iff_ne,bne_iff_ne,bne_eq_false_iff_eq,Bool.not_eq_true',Bool.not_eq_false',ne_eq,ak,Int.toNat_natCast]
      ((repeat' (first | with_reducible assumption | (refine And.intro ?_ ?_) | intro _))<;>(try (first | omega | with_reducible assumption | exact rfl | exact True.intro)))
    · unfold Ev
      simp only [T.wp,Sum.elim_inl,Sum.elim_inr,decide_eq_true_eq,decide_eq_false_iff_not,ap,aP,aQ,au,ax,am,aB,ah,List.length_set,List.length_replicate,beq_iff_eq,beq_eq_false_iff_ne,bne_iff_ne,bne_eq_false_iff_eq,Bool.not_eq_true',Bool.not_eq_false',ne_eq,ak,Int.toNat_natCast]
      exact ⟨fun _=>⟨_,rfl,fun q=>(by cases q)⟩,fun _=>trivial⟩
    · rintro ⟨w,a⟩ ha
      dsimp only at ha
      unfold vp
      dsimp only
      refine an (fun _=>a<k) (aJ ?_) fun y hy=>aJ ?_
      · unfold Ew
        simp only [T.wp,Sum.elim_inl,Sum.elim_inr,decide_eq_true_eq,decide_eq_false_iff_not,ap,aP,aQ,au,ax,am,aB,ah,List.length_set,List.length_replicate,beq_iff_eq,beq_eq_false_iff_ne,bne_iff_ne,bne_eq_false_iff_eq,Bool.not_eq_true',Bool.not_eq_false',ne_eq,ak,Int.toNat_natCast]
        ((repeat' (first | with_reducible assumption | (refine And.intro ?_ ?_) | intro _))<;>(try (first | omega | with_reducible assumption | exact rfl | exact True.intro)))
      · unfold Ex
        simp only [T.wp,Sum.elim_inl,Sum.elim_inr,decide_eq_true_eq,decide_eq_false_iff_not,ap,aP,aQ,au,ax,am,aB,ah,List.length_set,List.length_replicate,beq_iff_eq,beq_eq_false_iff_ne,bne_iff_ne,bne_eq_false_iff_eq,Bool.not_eq_true',Bool.not_eq_false',ne_eq,ak,Int.toNat_natCast]
        ((repeat' (first | with_reducible assumption | (refine And.intro ?_ ?_) | intro _))<;>(try (first | omega | with_reducible assumption | exact rfl | exact True.intro)))
    · unfold Ey
      obtain ⟨x,hx,k1,rfl,hk1⟩:=R7 D (by omega)
      obtain ⟨y,hy,k2,rfl,hk2⟩:=R7 Z (by omega)
      rw [ak,ak,hx,hy]
      simp only [T.wp,Sum.elim_inl,Sum.elim_inr,decide_eq_true_eq,decide_eq_false_iff_not,ap,aP,aQ,au,ax,am,aB,ah,List.length_set,List.length_replicate,beq_iff_eq,beq_eq_false_iff_ne,bne_iff_ne,bne_eq_false_iff_eq,Bool.not_eq_true',Bool.not_eq_false',ne_eq,ak,Int.toNat_natCast]
      exact ⟨fun _=>⟨_,rfl,fun q=>(by cases q)⟩,fun _=>⟨fun _=>⟨_,rfl,fun q=>(by cases q)⟩,fun _=>⟨fun _=>⟨fun _=>⟨_,rfl,fun q=>(by cases q)⟩,fun _=>⟨by omega,rfl,fun _=>⟨_,rfl,fun q=>(by cases q)⟩,fun _=>⟨by omega,rfl,fun _=>⟨_,rfl,fun q=>(by cases q)⟩,fun q=>hk2.resolve_left (fun z=>q z) |>.2⟩⟩⟩,fun q=>absurd trivial (by simp at q)⟩⟩⟩
    · unfold Ez
      exact ⟨_,rfl,fun _=>hg⟩
  obtain ⟨x,hx,e,rfl,q⟩:=this
  exact ⟨e,hx,q⟩
theorem KR(D Z:List Nat)(rho k:Nat){r:Int}{x:Nat}(hD:D.length=k)(hZ:Z.length=k)(hk:k≤512)(hr:0≤r∧r<k) :∃ y,iZ D Z rho r x=some (.r0 y):=by
  have:iU (iZ D Z rho r x) fun x=>∃ e,x=.r0 e:=by
    refine qy (an (fun _=>True) (aJ ?_) fun b _=>an (fun _=>True) (iU.loop (fun (p:Nat×Nat)=>p.2≤k) (fun p=>k-p.2) (Nat.zero_le _) ?_) fun w _=>aJ ?_)
    · unfold EA;trivial
    · rintro ⟨w,a⟩ ha
      dsimp only at ha
      unfold tj
      refine aJ ?_
      unfold EC
      simp only [T.wp,Sum.elim_inl,Sum.elim_inr,decide_eq_true_eq,decide_eq_false_iff_not,ap,aP,aQ,au,ax,am,aB,ah,List.length_set,List.length_replicate,beq_iff_eq,beq_eq_false_iff_ne,bne_iff_ne,bne_eq_false_iff_eq,Bool.not_eq_true',Bool.not_eq_false',ne_eq,ak,Int.toNat_natCast]
      ((repeat' (first | with_reducible assumption | (refine And.intro ?_ ?_) | intro _))<;>(try (first | omega | with_reducible assumption | exact rfl | exact True.intro)))
    · unfold De
      exact ⟨_,rfl⟩
  obtain ⟨x,hx,e,rfl⟩:=this
  exact ⟨e,hx⟩
theorem My(x y:Nat) :cY x y<18446744073709551616:=by
  unfold cY
  cases h:FloatKind.f64.format.mul x y with
  | none=>decide
  | some r =>
    have a:=Ieee.Format.mul_lt _ h
    have e:FloatKind.f64.format.width=64:=by decide
    rw [e] at a
    exact a
theorem VG{L H:Nat}(h:L≤H)(hH:H<18446744073709551616) :
    IntKind.u64.wrap ((H:Int)-(L:Int))=((H-L:Nat):Int) ∧
    IntKind.u64.wrap ((L:Int)+Int.fdiv (IntKind.u64.wrap ((H:Int)-(L:Int))) (2^(min (Int.toNat (1:Int)) (IntKind.u64.bits))))=((L+(H-L)/2:Nat):Int):=by
  have a:IntKind.u64.wrap ((H:Int)-(L:Int))=((H-L:Nat):Int):=by
    rw [show (H:Int)-(L:Int)=((H-L:Nat):Int) by omega,wb,Nat.mod_eq_of_lt (by omega)]
  refine ⟨a,?_⟩
  rw [a]
  have h1:min (Int.toNat 1) IntKind.u64.bits=1:=by decide
  have h2:(2:Int)^1=2:=by decide
  rw [h1,h2,Int.fdiv_eq_ediv_of_nonneg _ (by decide:(0:Int)≤2)]
  rw [show (L:Int)+((H-L:Nat):Int)/2=((L+(H-L)/2:Nat):Int) by omega,wb,Nat.mod_eq_of_lt (by omega)]
def BI(p:Int×Int×Nat) :Prop:=∃ L H P:Nat,p.1=(L:Int)∧p.2.1=(H:Int)∧L≤H∧H<18446744073709551616∧P=2^p.2.2∧(H-L-1)*P≤18446744073709551616∧p.2.2≤65
theorem Mz{L H n:Nat}(h:2≤H-L)(hp:(H-L-1)*2^n≤18446744073709551616){d:Nat}(hd:d≤(H-L+1)/2) :(d-1)*2^(n+1)≤18446744073709551616∧n+1≤65:=by
  refine ⟨?_,?_⟩
  · have q:2*(d-1)≤H-L-1:=by omega
    have:=Nat.mul_le_mul_right (2^n) q
    rw [Nat.pow_succ,Nat.mul_comm (2^n) 2,←Nat.mul_assoc,Nat.mul_comm (d-1) 2]
    omega
  · have q:1≤H-L-1:=by omega
    have:=Nat.mul_le_mul_right (2^n) q
    have q2:2^n≤2^64:=by
      have e:(2:Nat)^64=18446744073709551616:=by decide
      omega
    have:=(Nat.pow_le_pow_iff_right (by decide:1<2)).1 q2
    omega
set_option maxHeartbeats 2000000 in
theorem VH (D Z : List Nat) (rho k : Nat) {at_ : Int} (hD : D.length = k) (hZ : Z.length = k) (hk : k ≤ 512) (hr : 0 ≤ at_ ∧ at_ < k) :
    iU (i8 D Z rho at_) fun x => ∃ many e i y, x = .r0 many e i y ∧ many ≤ 65 ∧ (e = 0 → 0 ≤ i ∧ i < k) := by
  refine qy (an (fun b => b = decide (at_ = (k : Int) - 1)) (aJ ?_) fun b hb => ?_)
  · unfold Df
    simp only [T.wp, Sum.elim_inl, Sum.elim_inr, decide_eq_true_eq, decide_eq_false_iff_not, ap, aP, aQ, au, ax, am, aB, ah, List.length_set, List.length_replicate, beq_iff_eq, beq_eq_false_iff_ne, bne_iff_ne, bne_eq_false_iff_eq, Bool.not_eq_true', Bool.not_eq_false', ne_eq, ak, Int.toNat_natCast]
    rw [hD]
    refine ⟨by omega, ?_⟩
    rfl
  refine an (fun (p : Nat ⊕ (Nat × Int)) => Sum.elim (fun (g : Nat) => g < 18446744073709551616) (fun (q : Nat × Int) => q.1 < 18446744073709551616 ∧ 0 ≤ q.2 ∧ q.2 < k) p) ?_ ?_
  · cases hbb : b
    · have hne : at_ ≠ (k : Int) - 1 := by
        rw [hbb] at hb
        exact of_decide_eq_false hb.symm
      simp only [cond_false]
      refine an (fun p => p.1 < 18446744073709551616) (aJ ?_) ?_
      · unfold Dj
        rw [ak, ak]
        obtain ⟨y, hy⟩ := KR D Z rho k (x := cY (kZ (D.getD (at_ + 1).toNat 0) (D.getD at_.toNat 0)) 4602678819172646912) hD hZ hk hr
        rw [hy]
        simp only [T.wp, Sum.elim_inl, Sum.elim_inr, decide_eq_true_eq, decide_eq_false_iff_not, ap, aP, aQ, au, ax, am, aB, ah, List.length_set, List.length_replicate, beq_iff_eq, beq_eq_false_iff_ne, bne_iff_ne, bne_eq_false_iff_eq, Bool.not_eq_true', Bool.not_eq_false', ne_eq, ak, Int.toNat_natCast]
        refine ⟨by omega, by omega, by omega, by omega, by omega, fun _ => My _ _, fun _ => ⟨fun _ => ⟨fun _ => ⟨by omega, by omega, rfl, My _ _⟩, fun _ => My _ _⟩, fun q => absurd trivial (by simp at q)⟩⟩
      · rintro ⟨g, b6⟩ hg
        dsimp only at hg
        refine aJ ?_
        unfold Dk
        simp only [T.wp, Sum.elim_inl, Sum.elim_inr, decide_eq_true_eq, decide_eq_false_iff_not, ap, aP, aQ, au, ax, am, aB, ah, List.length_set, List.length_replicate, beq_iff_eq, beq_eq_false_iff_ne, bne_iff_ne, bne_eq_false_iff_eq, Bool.not_eq_true', Bool.not_eq_false', ne_eq, ak, Int.toNat_natCast]
        exact ⟨fun _ => ⟨by omega, hg, by omega, by omega⟩, fun _ => hg⟩
    · simp only [cond_true]
      refine an (fun _ => True) (aJ ?_) fun _ _ => an (fun _ => True) (iU.loop (fun (p : Nat × Nat) => p.2 ≤ k) (fun p => k - p.2) (Nat.zero_le _) ?_) fun w _ => aJ ?_
      · unfold Dg; trivial
      · rintro ⟨w, a⟩ ha
        dsimp only at ha
        unfold tk
        refine aJ ?_
        unfold Dh
        simp only [T.wp, Sum.elim_inl, Sum.elim_inr, decide_eq_true_eq, decide_eq_false_iff_not, ap, aP, aQ, au, ax, am, aB, ah, List.length_set, List.length_replicate, beq_iff_eq, beq_eq_false_iff_ne, bne_iff_ne, bne_eq_false_iff_eq, Bool.not_eq_true', Bool.not_eq_false', ne_eq, ak, Int.toNat_natCast]
        ((repeat' (first | with_reducible assumption | (refine And.intro ?_ ?_) | intro _)) <;> (try (first | omega | with_reducible assumption | exact rfl | exact True.intro)))
      · unfold Di
        exact My _ _
  rintro (g | ⟨g, i9⟩) hg
  · dsimp only [Sum.elim_inl] at hg ⊢
    refine an (fun b => b = false → isNaN g = false) (aJ ?_) fun b10 hb => an (fun _ => True) (aJ ?_) fun _ _ => ?_
    · unfold Dl
      simp only [T.wp, Sum.elim_inl, Sum.elim_inr, decide_eq_true_eq, decide_eq_false_iff_not, ap, aP, aQ, au, ax, am, aB, ah, List.length_set, List.length_replicate, beq_iff_eq, beq_eq_false_iff_ne, bne_iff_ne, bne_eq_false_iff_eq, Bool.not_eq_true', Bool.not_eq_false', ne_eq, ak, Int.toNat_natCast]
      exact ⟨fun _ q => (by cases q), fun h => ⟨fun _ _ => (by rw [← wc]; exact h), fun q => absurd trivial (by simp at q)⟩⟩
    · unfold Dm
      simp only [T.wp, Sum.elim_inl, Sum.elim_inr, decide_eq_true_eq, decide_eq_false_iff_not, ap, aP, aQ, au, ax, am, aB, ah, List.length_set, List.length_replicate, beq_iff_eq, beq_eq_false_iff_ne, bne_iff_ne, bne_eq_false_iff_eq, Bool.not_eq_true', Bool.not_eq_false', ne_eq, ak, Int.toNat_natCast]
      exact ⟨fun _ => ⟨_, _, _, _, rfl, by omega, fun q => (by cases q)⟩, fun h => .inl ⟨hb h, trivial⟩⟩
    refine an (fun (p : Int × Nat) => p.2 ≤ 65) (iU.loop BI (fun p => (p.2.1 - p.1).toNat) ⟨0, g, 1, rfl, rfl, by omega, hg, rfl, by omega, by dsimp only; omega⟩ ?_) ?_
    · rintro ⟨lo, hi, n⟩ ⟨L, H, P, h1, h2, h3, h4, h5, h6, h7⟩
      dsimp only at h1 h2 h5 h7
      subst h1 h2 h5
      unfold tm
      dsimp only
      obtain ⟨m1, m2⟩ := VG h3 h4
      refine an (fun b => b = true → 2 ≤ H - L) (aJ ?_) fun b hb => aJ ?_
      · unfold Do
        rw [m1]
        simp only [T.wp, Sum.elim_inl, Sum.elim_inr, decide_eq_true_eq, decide_eq_false_iff_not, ap, aP, aQ, au, ax, am, aB, ah, List.length_set, List.length_replicate, beq_iff_eq, beq_eq_false_iff_ne, bne_iff_ne, bne_eq_false_iff_eq, Bool.not_eq_true', Bool.not_eq_false', ne_eq, ak, Int.toNat_natCast]
        exact ⟨fun _ h => by omega, fun _ q => by cases q⟩
      · unfold Dp
        rw [m2, ak, ak]
        simp only [T.wp, Sum.elim_inl, Sum.elim_inr, decide_eq_true_eq, decide_eq_false_iff_not, ap, aP, aQ, au, ax, am, aB, ah, List.length_set, List.length_replicate, beq_iff_eq, beq_eq_false_iff_ne, bne_iff_ne, bne_eq_false_iff_eq, Bool.not_eq_true', Bool.not_eq_false', ne_eq, ak, Int.toNat_natCast]
        obtain ⟨y, hy⟩ := KR D Z rho k (x := cY 4607182418800017408 (L + (H - L) / 2)) hD hZ hk hr
        rw [hy]
        refine ⟨fun hbt => ⟨by omega, by omega, by omega, rfl, fun _ => ?_, fun _ => ?_⟩, fun _ => h7⟩
        · have h2 := hb hbt
          obtain ⟨s1, s2⟩ := Mz h2 h6 (d := (H - L) / 2) (by omega)
          refine ⟨by omega, ⟨L, L + (H - L) / 2, _, rfl, rfl, by omega, by omega, rfl, ?_, s2⟩, by omega⟩
          rw [show L + (H - L) / 2 - L - 1 = (H - L) / 2 - 1 by omega]
          exact s1
        · have h2 := hb hbt
          obtain ⟨s1, s2⟩ := Mz h2 h6 (d := H - (L + (H - L) / 2)) (by omega)
          exact ⟨by omega, ⟨L + (H - L) / 2, H, _, rfl, rfl, by omega, by omega, rfl, s1, s2⟩, by omega⟩
    · rintro ⟨hi, n⟩ hn
      dsimp only at hn
      refine aJ ?_
      unfold Dq
      exact ⟨_, _, _, _, rfl, hn, fun _ => hr⟩
  · dsimp only [Sum.elim_inr] at hg ⊢
    obtain ⟨hg, hi9⟩ := hg
    refine an (fun b => b = false → isNaN g = false) (aJ ?_) fun b10 hb => an (fun _ => True) (aJ ?_) fun _ _ => ?_
    · unfold Dr
      simp only [T.wp, Sum.elim_inl, Sum.elim_inr, decide_eq_true_eq, decide_eq_false_iff_not, ap, aP, aQ, au, ax, am, aB, ah, List.length_set, List.length_replicate, beq_iff_eq, beq_eq_false_iff_ne, bne_iff_ne, bne_eq_false_iff_eq, Bool.not_eq_true', Bool.not_eq_false', ne_eq, ak, Int.toNat_natCast]
      exact ⟨fun _ q => (by cases q), fun h => ⟨fun _ _ => (by rw [← wc]; exact h), fun q => absurd trivial (by simp at q)⟩⟩
    · unfold Ds
      simp only [T.wp, Sum.elim_inl, Sum.elim_inr, decide_eq_true_eq, decide_eq_false_iff_not, ap, aP, aQ, au, ax, am, aB, ah, List.length_set, List.length_replicate, beq_iff_eq, beq_eq_false_iff_ne, bne_iff_ne, bne_eq_false_iff_eq, Bool.not_eq_true', Bool.not_eq_false', ne_eq, ak, Int.toNat_natCast]
      exact ⟨fun _ => ⟨_, _, _, _, rfl, by omega, fun q => (by cases q)⟩, fun h => .inl ⟨hb h, trivial⟩⟩
    refine an (fun (p : Int × Nat) => p.2 ≤ 65) (iU.loop BI (fun p => (p.2.1 - p.1).toNat) ⟨0, g, 1, rfl, rfl, by omega, hg, rfl, by omega, by dsimp only; omega⟩ ?_) ?_
    · rintro ⟨lo, hi, n⟩ ⟨L, H, P, h1, h2, h3, h4, h5, h6, h7⟩
      dsimp only at h1 h2 h5 h7
      subst h1 h2 h5
      unfold tp
      dsimp only
      obtain ⟨m1, m2⟩ := VG h3 h4
      refine an (fun b => b = true → 2 ≤ H - L) (aJ ?_) fun b hb => aJ ?_
      · unfold Du
        rw [m1]
        simp only [T.wp, Sum.elim_inl, Sum.elim_inr, decide_eq_true_eq, decide_eq_false_iff_not, ap, aP, aQ, au, ax, am, aB, ah, List.length_set, List.length_replicate, beq_iff_eq, beq_eq_false_iff_ne, bne_iff_ne, bne_eq_false_iff_eq, Bool.not_eq_true', Bool.not_eq_false', ne_eq, ak, Int.toNat_natCast]
        exact ⟨fun _ h => by omega, fun _ q => by cases q⟩
      · unfold Dv
        rw [m2, ak, ak]
        simp only [T.wp, Sum.elim_inl, Sum.elim_inr, decide_eq_true_eq, decide_eq_false_iff_not, ap, aP, aQ, au, ax, am, aB, ah, List.length_set, List.length_replicate, beq_iff_eq, beq_eq_false_iff_ne, bne_iff_ne, bne_eq_false_iff_eq, Bool.not_eq_true', Bool.not_eq_false', ne_eq, ak, Int.toNat_natCast]
        obtain ⟨y, hy⟩ := KR D Z rho k (x := cY 13830554455654793216 (L + (H - L) / 2)) hD hZ hk hi9
        rw [hy]
        refine ⟨fun hbt => ⟨by omega, by omega, by omega, rfl, fun _ => ?_, fun _ => ?_⟩, fun _ => h7⟩
        · have h2 := hb hbt
          obtain ⟨s1, s2⟩ := Mz h2 h6 (d := (H - L) / 2) (by omega)
          refine ⟨by omega, ⟨L, L + (H - L) / 2, _, rfl, rfl, by omega, by omega, rfl, ?_, s2⟩, by omega⟩
          rw [show L + (H - L) / 2 - L - 1 = (H - L) / 2 - 1 by omega]
          exact s1
        · have h2 := hb hbt
          obtain ⟨s1, s2⟩ := Mz h2 h6 (d := H - (L + (H - L) / 2)) (by omega)
          exact ⟨by omega, ⟨L + (H - L) / 2, H, _, rfl, rfl, by omega, by omega, rfl, s1, s2⟩, by omega⟩
    · rintro ⟨hi, n⟩ hn
      dsimp only at hn
      refine aJ ?_
      unfold Dw
      exact ⟨_, _, _, _, rfl, hn, fun _ => hi9⟩
theorem PE{α:Type}{l:List α}{n:Nat}(h:l.length=n)(x:α) :(l.take n++[x]).length=n+1:=by
  rw [List.length_append,List.length_take,h,Nat.min_self];rfl
theorem Ws(D Z:List Nat)(rho k:Nat)(hD:D.length=k)(hZ:Z.length=k)(hk:k≤512) :
    iU (ja D Z rho) fun x=>(∃ e,e≠0∧x=.r0 0 0 0 e 0 [] [])∨∃ a b m c l y,x=.r0 a b m 0 c l y∧a=k∧l.length=k∧y.length=k∧In k l∧m≤65*k∧GD Z:=by
  obtain ⟨e,he,hgz⟩:=R8 D Z rho k hD hZ hk
  refine qy (an (fun p=>p=e) (aJ ?_) ?_)
  · unfold EG
    rw [ak,ak,he]
    simp only [T.wp,Sum.elim_inl,Sum.elim_inr,decide_eq_true_eq,decide_eq_false_iff_not,ap,aP,aQ,au,ax,am,aB,ah,List.length_set,List.length_replicate,beq_iff_eq,beq_eq_false_iff_ne,bne_iff_ne,bne_eq_false_iff_eq,Bool.not_eq_true',Bool.not_eq_false',ne_eq,ak,Int.toNat_natCast]
    exact ⟨by omega,by omega,rfl,rfl⟩
  rintro _ rfl
  refine an (fun _=>GD Z) (aJ ?_) fun _ hg=>?_
  · unfold EH
    simp only [T.wp,Sum.elim_inl,Sum.elim_inr,decide_eq_true_eq,decide_eq_false_iff_not,ap,aP,aQ,au,ax,am,aB,ah,List.length_set,List.length_replicate,beq_iff_eq,beq_eq_false_iff_ne,bne_iff_ne,bne_eq_false_iff_eq,Bool.not_eq_true',Bool.not_eq_false',ne_eq,ak,Int.toNat_natCast]
    exact ⟨fun h=>.inl ⟨_,by omega,rfl⟩,fun h=>hgz (by omega)⟩
  refine an (fun (p:Nat×Nat×Nat×Nat×List Int×List Nat)=>p.1=k∧p.2.2.1≤65*k∧p.2.2.2.2.1.length=k∧p.2.2.2.2.2.length=k∧In k p.2.2.2.2.1) (iU.loop (fun (p:Nat×Nat×Nat×Nat×Nat×List Int×List Nat)=>p.2.2.2.1≤k∧p.1=p.2.2.2.1∧p.2.2.2.2.1=p.2.2.2.1∧p.2.2.1≤65*p.2.2.2.1∧p.2.2.2.2.2.1.length=p.2.2.2.1∧p.2.2.2.2.2.2.length=p.2.2.2.1∧In k p.2.2.2.2.2.1) (fun p=>k-p.2.2.2.1) ⟨Nat.zero_le _,rfl,rfl,Nat.le_refl _,rfl,rfl,In.nil⟩ ?_) ?_
  · rintro ⟨l10,l11,all12,a13,a14,l15,l16⟩ ⟨h1,h2,h3,h4,h5,h6,h7⟩
    dsimp only at h1 h2 h3 h4 h5 h6 h7
    replace h2:=h2.symm
    replace h3:=h3.symm
    subst h2 h3
    unfold vt
    dsimp only
    refine an (fun (p:Nat×Nat×List Int×List Nat)=>a13<k∧p.1=a13+1∧p.2.1≤65*(a13+1)∧p.2.2.1.length=a13+1∧p.2.2.2.length=a13+1∧In k p.2.2.1) (aJ ?_) ?_
    · unfold EI
      rw [ak,ak]
      simp only [T.wp,Sum.elim_inl,Sum.elim_inr,decide_eq_true_eq,decide_eq_false_iff_not,ap,aP,aQ,au,ax,am,aB,ah,List.length_set,List.length_replicate,beq_iff_eq,beq_eq_false_iff_ne,bne_iff_ne,bne_eq_false_iff_eq,Bool.not_eq_true',Bool.not_eq_false',ne_eq,ak,Int.toNat_natCast]
      refine ⟨fun h=>?_,fun h=>?_⟩
      · obtain ⟨x,hx,many,e,i,y,rfl,g1,g2⟩:=VH D Z rho k (at_:=(a13:Int)) hD hZ hk ⟨by omega,by omega⟩
        rw [hx]
        simp only [rm,pZ,qa,rR,rS]
        refine ⟨by omega,by omega,trivial,fun h=>.inl ⟨_,by omega,rfl⟩,fun h=>⟨by omega,by omega,by omega,by omega,by omega,by omega,trivial,by omega,PE h5 _,PE h6 _,h7.push (g2 (by omega))⟩⟩
      · have:a13=k:=by omega
        subst this
        exact ⟨rfl,h4,h5,h6,h7⟩
    · rintro ⟨l17,all18,l19,l20⟩ ⟨g1,g2,g3,g4,g5,g6⟩
      dsimp only at g2 g3 g4 g5 g6
      refine aJ ?_
      unfold EJ
      simp only [T.wp,Sum.elim_inl,Sum.elim_inr,decide_eq_true_eq,decide_eq_false_iff_not,ap,aP,aQ,au,ax,am,aB,ah,List.length_set,List.length_replicate,beq_iff_eq,beq_eq_false_iff_ne,bne_iff_ne,bne_eq_false_iff_eq,Bool.not_eq_true',Bool.not_eq_false',ne_eq,ak,Int.toNat_natCast]
      exact ⟨by omega,⟨by omega,g2,g2,g3,g4,g5,g6⟩,by omega⟩
  · rintro ⟨l21,l22,all23,a24,l25,l26⟩ ⟨h1,h2,h3,h4,h5⟩
    dsimp only at h1 h2 h3 h4 h5
    refine aJ ?_
    unfold EK
    exact .inr ⟨_,_,_,_,_,_,rfl,h1,h3,h4,h5,h2,hg⟩
theorem TD(D:List Nat)(i:Int) :qX D i=some (.r0 (decide (0≤i∧i<D.length))):=by
  by_cases h:0≤i
  · refine jP (bN (a:=decide (0≤i∧i<D.length)) ?_ rfl)
    unfold Id
    refine T.at (decide_eq_true h) ?_
    show some _=some _
    congr 2
    by_cases q:i<(D.length:Int)
    · rw [decide_eq_true q,decide_eq_true ⟨h,q⟩]
    · rw [decide_eq_false q,decide_eq_false fun z=>q z.2]
  · rw [decide_eq_false fun z=>h z.1]
    refine jP (bN (a:=false) ?_ rfl)
    exact AJ (decide_eq_false h) rfl
theorem G1(D Z:List Nat)(rho k:Nat)(i r:Int)(x:Nat)(hD:D.length=k)(hZ:Z.length=k)(hk:k≤512) :∃ a e,gj D Z rho i r x=some (.r0 a e):=by
  have:iU (gj D Z rho i r x) fun x=>∃ a e,x=.r0 a e:=by
    obtain ⟨e,he,_⟩:=R8 D Z rho k hD hZ hk
    refine qy (an (fun p=>True) (aJ ?_) fun e1 _=>an (fun b=>b=false→(0≤r∧r<k)∧0≤i∧i<k) (aJ ?_) fun b hb=>aJ ?_)
    · unfold EM
      rw [ak,ak,he]
      simp only [T.wp,Sum.elim_inl,Sum.elim_inr,decide_eq_true_eq,decide_eq_false_iff_not,ap,aP,aQ,au,ax,am,aB,ah,List.length_set,List.length_replicate,beq_iff_eq,beq_eq_false_iff_ne,bne_iff_ne,bne_eq_false_iff_eq,Bool.not_eq_true',Bool.not_eq_false',ne_eq,ak,Int.toNat_natCast]
      exact ⟨by omega,by omega,rfl,trivial⟩
    · unfold EN
      rw [ak,TD,TD,hD]
      simp only [T.wp,Sum.elim_inl,Sum.elim_inr,decide_eq_true_eq,decide_eq_false_iff_not,ap,aP,aQ,au,ax,am,aB,ah,List.length_set,List.length_replicate,beq_iff_eq,beq_eq_false_iff_ne,bne_iff_ne,bne_eq_false_iff_eq,Bool.not_eq_true',Bool.not_eq_false',ne_eq,ak,Int.toNat_natCast]
      simp only [rA,rn,decide_eq_true_eq,decide_eq_false_iff_not]
      refine ⟨fun _=>⟨_,_,rfl⟩,fun _=>⟨by omega,by omega,trivial,fun _ q=>(by cases q),fun h1=>⟨by omega,by omega,trivial,fun h2=>⟨h1,?_⟩⟩⟩⟩
      simpa using h2
    · unfold EO
      simp only [T.wp,Sum.elim_inl,Sum.elim_inr,decide_eq_true_eq,decide_eq_false_iff_not,ap,aP,aQ,au,ax,am,aB,ah,List.length_set,List.length_replicate,beq_iff_eq,beq_eq_false_iff_ne,bne_iff_ne,bne_eq_false_iff_eq,Bool.not_eq_true',Bool.not_eq_false',ne_eq,ak,Int.toNat_natCast]
      refine ⟨fun _=>⟨_,_,rfl⟩,fun h=>?_⟩
      obtain ⟨h1,h2⟩:=hb h
      exact ⟨by omega,by omega,by omega,by omega,_,_,rfl⟩
  obtain ⟨x,hx,a,e,rfl⟩:=this
  exact ⟨a,e,hx⟩
end Go.Plb.Seat
