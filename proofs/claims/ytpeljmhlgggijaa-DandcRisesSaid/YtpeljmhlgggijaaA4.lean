/-
  Part 4 of what the claim leans on: an evaluator of the model, proved sound; the contracts of the functions.
-/
import Derived.Test.YtpeljmhlgggijaaA3
namespace Go.Plb.Seat
open Go Go.Plb
set_option linter.unusedVariables false
set_option maxRecDepth 100000
noncomputable section
inductive ab where
  | r0 (a:Int) (b:Nat) (c:Nat) (d:Nat) (e:Nat) (f:Int) (g:Int) (h:Nat) (i:Nat) (j:Nat) (k:Nat) (l:Nat) (m:Nat) (n:Nat) (o:List Nat) (p:List Nat) (q:List Nat) (r:List Int) (s:List Int)
  | r1 (t:Nat) (u:Int) (v:Nat) (w:Nat) (x:Nat) (y:Nat) (z:Int) (A:Int) (B:Nat) (C:Nat) (D:Nat) (E:Nat) (F:Nat) (G:Nat) (H:Nat) (I:List Nat) (J:List Nat) (K:List Nat) (L:List Int) (M:List Int) (N:List Nat) (O:List Nat)
def cU:ab→AE×aW
  | .r0 a b c d e f g h i j k l m n o p q r s=>(.ret,⟨ax 263 [(2,.int .i64 (0:Int)),(3,.int .i64 (7:Int))],[(0,.vs [.int .i64 a,.sl 1 1 1 0 b c,.sl 2 1 1 0 d e,.int .i64 f,.int .i64 g,.sl 3 1 1 0 h i,.flt false j,.sl 4 1 1 0 k l,.sl 5 1 1 0 m n]),(1,.fl o),(2,.fl p),(3,.fl q),(4,.ns .i64 r),(5,.ns .i64 s)],6⟩)
  | .r1 t u v w x y z A B C D E F G H I J K L M N O=>(.ret,⟨ax 263 [(2,.int .i64 ((t:Nat):Int)),(3,.int .i64 (0:Int))],[(0,.vs [.int .i64 u,.sl 6 1 1 0 v w,.sl 2 1 1 0 x y,.int .i64 z,.int .i64 A,.sl 7 1 1 0 B C,.flt false D,.sl 4 1 1 0 E F,.sl 5 1 1 0 G H]),(1,.fl I),(2,.fl J),(3,.fl K),(4,.ns .i64 L),(5,.ns .i64 M),(6,.fl N),(7,.fl O)],8⟩)
theorem aA:xN cU:=by intro x;cases x<;>(intro h;cases h)
theorem db(id:Nat) :rh id cU:=by intro x;cases x<;>(intro h;cases h)
def mM:ab→rF
  | .r0 a b c d e f g h i j k l m n o p q r s=>⟨.tup [.int .i64 (0:Int),.int .i64 (7:Int)],[some (.vs [.int .i64 a,.sl 1 1 1 0 b c,.sl 2 1 1 0 d e,.int .i64 f,.int .i64 g,.sl 3 1 1 0 h i,.flt false j,.sl 4 1 1 0 k l,.sl 5 1 1 0 m n]),some (.fl o),some (.fl p),some (.fl q),some (.ns .i64 r),some (.ns .i64 s)]⟩
  | .r1 t u v w x y z A B C D E F G H I J K L M N O=>⟨.tup [.int .i64 ((t:Nat):Int),.int .i64 (0:Int)],[some (.vs [.int .i64 u,.sl 6 1 1 0 v w,.sl 2 1 1 0 x y,.int .i64 z,.int .i64 A,.sl 7 1 1 0 B C,.flt false D,.sl 4 1 1 0 E F,.sl 5 1 1 0 G H]),some (.fl I),some (.fl J),some (.fl K),some (.ns .i64 L),some (.ns .i64 M),some (.fl N),some (.fl O)]⟩
def iW:List Code:=cV (qT lM)
def Da(a:Int)(f:Nat)(g:Nat)(h:Nat)(i:Nat)(j:Int)(k:Int)(l:Nat)(m:Nat)(n:Nat)(c:Nat)(o:Nat)(b:Nat)(d:Nat)(p:List Nat)(q:List Nat)(r:List Nat)(s:List Int)(t:List Int) :Nat×(List Nat)→aW:=fun (e,u)=>⟨ax 263 [(1,.ptr 6 1 0 0),(4,.int .i64 ((c:Nat):Int)),(5,.nsl),(6,.ptr 7 1 0 0),(7,.fn (.func ap) [] [.ptr 6 1 0 0,.ptr 7 1 0 0]),(43,.sl 5 1 1 0 b d),(44,.int .i64 ((b:Nat):Int)),(45,.int .i64 (0:Int))],[(0,.vs [.int .i64 a,.sl 1 1 1 0 f g,.sl 2 1 1 0 h i,.int .i64 j,.int .i64 k,.sl 3 1 1 0 l m,.flt false n,.sl 4 1 1 0 c o,.sl 5 1 1 0 b d]),(1,.fl p),(2,.fl q),(3,.fl r),(4,.ns .i64 s),(5,.ns .i64 t),(6,.vs [.ptr 0 1 0 0]),(7,.vs [.int .i64 a,.int .i64 a,.sl 8 1 1 0 e e]),(8,.fl u)],9⟩
def uJ(a:Int) :T ((Nat×(List Nat))⊕(ab)) :=
  .need (fI .i64 (a*a))<|.need (decide ((0:Int)≤(a*a)))<|.need (decide ((a*a)≤(a*a)))<|.need (decide ((8:Int)*(a*a)≤140737488355328))<|.need (fI .i64 (a*a))<|.leaf (.inl ((Int.toNat (a*a)),(List.replicate (Int.toNat (a*a)) 0)))
def lq(b:Nat)(a:Nat)(c:Nat) :Nat×Nat×Nat×Int×Nat×Nat×Nat×Nat×Int×Int×Nat×Nat×Nat×Nat×Nat×Nat×Nat×(List Nat)×(List Nat)×(List Nat)×(List Int)×(List Int)×(List Nat)×Int×Int×Nat×Nat×(List Nat)→aW:=fun (d,e,f,g,h,i,j,k,l,m,n,o,p,q,r,s,t,u,v,w,x,y,z,A,B,C,D,E)=>⟨ax 263 [(1,.ptr 6 1 0 0),(4,.int .i64 ((b:Nat):Int)),(5,.sl 7 1 1 0 d e),(6,.ptr 8 1 0 0),(7,.fn (.func ap) [] [.ptr 6 1 0 0,.ptr 8 1 0 0]),(43,.sl 5 1 1 0 a c),(44,.int .i64 ((a:Nat):Int)),(45,.int .i64 ((f:Nat):Int))],[(0,.vs [.int .i64 g,.sl 1 1 1 0 h i,.sl 2 1 1 0 j k,.int .i64 l,.int .i64 m,.sl 3 1 1 0 n o,.flt false p,.sl 4 1 1 0 q r,.sl 5 1 1 0 s t]),(1,.fl u),(2,.fl v),(3,.fl w),(4,.ns .i64 x),(5,.ns .i64 y),(6,.vs [.ptr 0 1 0 0]),(7,.fl z),(8,.vs [.int .i64 A,.int .i64 B,.sl 9 1 1 0 C D]),(9,.fl E)],10⟩
def vx(a:Nat) :Nat×Nat×Int×Nat×Nat×Nat×Nat×Int×Int×Nat×Nat×Nat×Nat×Nat×Nat×Nat×(List Nat)×(List Nat)×(List Nat)×(List Int)×(List Int)×(List Nat)×Int×Int×Nat×Nat×(List Nat)→aW:=fun (b,c,d,e,f,g,h,i,j,k,l,m,n,o,p,q,r,s,t,u,v,w,x,y,z,A,B)=>⟨ax 263 [(1,.ptr 6 1 0 0),(4,.int .i64 ((a:Nat):Int)),(5,.sl 7 1 1 0 b c),(6,.ptr 8 1 0 0),(7,.fn (.func ap) [] [.ptr 6 1 0 0,.ptr 8 1 0 0])],[(0,.vs [.int .i64 d,.sl 1 1 1 0 e f,.sl 2 1 1 0 g h,.int .i64 i,.int .i64 j,.sl 3 1 1 0 k l,.flt false m,.sl 4 1 1 0 n o,.sl 5 1 1 0 p q]),(1,.fl r),(2,.fl s),(3,.fl t),(4,.ns .i64 u),(5,.ns .i64 v),(6,.vs [.ptr 0 1 0 0]),(7,.fl w),(8,.vs [.int .i64 x,.int .i64 y,.sl 9 1 1 0 z A]),(9,.fl B)],10⟩
def Cg:List Code:=cV (dm ((((iW.drop 5).take 1)).headD .skip))
def Db(c:Nat)(a:Nat)(d:Nat)(e:Nat) :Nat×Int×Nat×Nat×Nat×Nat×Int×Int×Nat×Nat×Nat×Nat×Nat×Nat×Nat×(List Nat)×(List Nat)×(List Nat)×(List Int)×(List Int)×(List Nat)×Int×Int×Nat×Nat×(List Nat)→aW:=fun (b,f,g,h,i,j,k,l,m,n,o,p,q,r,s,t,u,v,w,x,y,z,A,B,C,D)=>⟨ax 263 [(1,.ptr 6 1 0 0),(4,.int .i64 ((c:Nat):Int)),(5,.sl 7 1 1 0 b b),(6,.ptr 8 1 0 0),(7,.fn (.func ap) [] [.ptr 6 1 0 0,.ptr 8 1 0 0]),(43,.sl 5 1 1 0 a d),(44,.int .i64 ((a:Nat):Int)),(45,.int .i64 ((e:Nat):Int))],[(0,.vs [.int .i64 f,.sl 1 1 1 0 g h,.sl 2 1 1 0 i j,.int .i64 k,.int .i64 l,.sl 3 1 1 0 m n,.flt false o,.sl 4 1 1 0 p q,.sl 5 1 1 0 r s]),(1,.fl t),(2,.fl u),(3,.fl v),(4,.ns .i64 w),(5,.ns .i64 x),(6,.vs [.ptr 0 1 0 0]),(7,.fl y),(8,.vs [.int .i64 z,.int .i64 A,.sl 9 1 1 0 B C]),(9,.fl D)],10⟩
def uK(B:Nat)(z:Nat)(C:Nat)(a:Nat)(e:Int)(d:Nat)(f:Nat)(g:Nat)(h:Nat)(i:Int)(j:Int)(k:Nat)(l:Nat)(m:Nat)(n:Nat)(o:Nat)(p:Nat)(q:Nat)(c:List Nat)(r:List Nat)(s:List Nat)(t:List Int)(b:List Int)(A:List Nat)(u:Int)(v:Int)(w:Nat)(x:Nat)(y:List Nat) :T ((Nat×Int×Nat×Nat×Nat×Nat×Int×Int×Nat×Nat×Nat×Nat×Nat×Nat×Nat×(List Nat)×(List Nat)×(List Nat)×(List Int)×(List Int)×(List Nat)×Int×Int×Nat×Nat×(List Nat))⊕((Nat×Nat×Int×Nat×Nat×Nat×Nat×Int×Int×Nat×Nat×Nat×Nat×Nat×Nat×Nat×(List Nat)×(List Nat)×(List Nat)×(List Int)×(List Int)×(List Nat)×Int×Int×Nat×Nat×(List Nat))⊕(ab))) :=
  .ask (decide (((a:Nat):Int)<((B:Nat):Int)))
    (.need (gg ((a:Nat):Int) B)<|.need (fo a (List.length b))<|.need (gg (List.getD b a 0) d)<|.need (fo (Int.toNat (List.getD b a 0)) (List.length c))<|.need (pS ((z+1)*8) 140737488355328)<|.need (pS (z+1) 9223372036854775807)<|.need (pS 1 (List.length [(List.getD c (Int.toNat (List.getD b a 0)) 0)]))<|.need (pS z (List.length A))<|.need (cK (ai e d f g h i j k l m n o p q c r s t b (List.getD b a 0) u v w x y ((a:Nat):Int)))<|.leaf (.inl ((z+1),(dY (ai e d f g h i j k l m n o p q c r s t b (List.getD b a 0) u v w x y ((a:Nat):Int))),(dZ (ai e d f g h i j k l m n o p q c r s t b (List.getD b a 0) u v w x y ((a:Nat):Int))),(ef (ai e d f g h i j k l m n o p q c r s t b (List.getD b a 0) u v w x y ((a:Nat):Int))),(eg (ai e d f g h i j k l m n o p q c r s t b (List.getD b a 0) u v w x y ((a:Nat):Int))),(eh (ai e d f g h i j k l m n o p q c r s t b (List.getD b a 0) u v w x y ((a:Nat):Int))),(ei (ai e d f g h i j k l m n o p q c r s t b (List.getD b a 0) u v w x y ((a:Nat):Int))),(ej (ai e d f g h i j k l m n o p q c r s t b (List.getD b a 0) u v w x y ((a:Nat):Int))),(ek (ai e d f g h i j k l m n o p q c r s t b (List.getD b a 0) u v w x y ((a:Nat):Int))),(em (ai e d f g h i j k l m n o p q c r s t b (List.getD b a 0) u v w x y ((a:Nat):Int))),(en (ai e d f g h i j k l m n o p q c r s t b (List.getD b a 0) u v w x y ((a:Nat):Int))),(dt (ai e d f g h i j k l m n o p q c r s t b (List.getD b a 0) u v w x y ((a:Nat):Int))),(du (ai e d f g h i j k l m n o p q c r s t b (List.getD b a 0) u v w x y ((a:Nat):Int))),(dv (ai e d f g h i j k l m n o p q c r s t b (List.getD b a 0) u v w x y ((a:Nat):Int))),(dw (ai e d f g h i j k l m n o p q c r s t b (List.getD b a 0) u v w x y ((a:Nat):Int))),(dx (ai e d f g h i j k l m n o p q c r s t b (List.getD b a 0) u v w x y ((a:Nat):Int))),(dy (ai e d f g h i j k l m n o p q c r s t b (List.getD b a 0) u v w x y ((a:Nat):Int))),(dz (ai e d f g h i j k l m n o p q c r s t b (List.getD b a 0) u v w x y ((a:Nat):Int))),(dA (ai e d f g h i j k l m n o p q c r s t b (List.getD b a 0) u v w x y ((a:Nat):Int))),(dB (ai e d f g h i j k l m n o p q c r s t b (List.getD b a 0) u v w x y ((a:Nat):Int))),((List.take z A)++(List.take 1 [(List.getD c (Int.toNat (List.getD b a 0)) 0)])),(dC (ai e d f g h i j k l m n o p q c r s t b (List.getD b a 0) u v w x y ((a:Nat):Int))),(dD (ai e d f g h i j k l m n o p q c r s t b (List.getD b a 0) u v w x y ((a:Nat):Int))),(dE (ai e d f g h i j k l m n o p q c r s t b (List.getD b a 0) u v w x y ((a:Nat):Int))),(dF (ai e d f g h i j k l m n o p q c r s t b (List.getD b a 0) u v w x y ((a:Nat):Int))),(dG (ai e d f g h i j k l m n o p q c r s t b (List.getD b a 0) u v w x y ((a:Nat):Int))))))
    (.leaf (.inr (.inl (z,C,e,d,f,g,h,i,j,k,l,m,n,o,p,q,c,r,s,t,b,A,u,v,w,x,y))))
def uL(a:Nat)(b:Nat)(c:Int)(d:Nat)(e:Nat)(f:Nat)(g:Nat)(h:Int)(i:Int)(j:Nat)(k:Nat)(l:Nat)(m:Nat)(n:Nat)(o:Nat)(p:Nat)(q:List Nat)(r:List Nat)(s:List Nat)(t:List Int)(u:List Int)(v:List Nat)(w:Int)(x:Int)(y:Nat)(z:Nat)(A:List Nat) :T ((Nat×Nat×Nat×Int×Nat×Nat×Nat×Nat×Int×Int×Nat×Nat×Nat×Nat×Nat×Nat×Nat×(List Nat)×(List Nat)×(List Nat)×(List Int)×(List Int)×(List Nat)×Int×Int×Nat×Nat×(List Nat))⊕((Nat×Nat×Int×Nat×Nat×Nat×Nat×Int×Int×Nat×Nat×Nat×Nat×Nat×Nat×Nat×(List Nat)×(List Nat)×(List Nat)×(List Int)×(List Int)×(List Nat)×Int×Int×Nat×Nat×(List Nat))⊕(ab))) :=
  .need (fI .i64 (((a+1):Nat):Int))<|.leaf (.inl (b,b,(a+1),c,d,e,f,g,h,i,j,k,l,m,n,o,p,q,r,s,t,u,v,w,x,y,z,A))
def iX(b:Nat) :Nat×Nat×Nat×Int×Nat×Nat×Nat×Nat×Int×Int×Nat×Nat×Nat×Nat×Nat×Nat×Nat×(List Nat)×(List Nat)×(List Nat)×(List Int)×(List Int)×(List Nat)×Int×Int×Nat×Nat×(List Nat)→Option ((Nat×Nat×Nat×Int×Nat×Nat×Nat×Nat×Int×Int×Nat×Nat×Nat×Nat×Nat×Nat×Nat×(List Nat)×(List Nat)×(List Nat)×(List Int)×(List Int)×(List Nat)×Int×Int×Nat×Nat×(List Nat))⊕((Nat×Nat×Int×Nat×Nat×Nat×Nat×Int×Int×Nat×Nat×Nat×Nat×Nat×Nat×Nat×(List Nat)×(List Nat)×(List Nat)×(List Int)×(List Int)×(List Nat)×Int×Int×Nat×Nat×(List Nat))⊕(ab))):=fun (c,d,a,e,f,g,h,i,j,k,l,m,n,o,p,q,r,s,t,u,v,w,x,y,z,A,B,C) =>
  bd ((uK b c d a e f g h i j k l m n o p q r s t u v w x y z A B C).run) fun (D,E,F,G,H,I,J,K,L,M,N,O,P,Q,R,S,T,U,V,W,X,Y,Z,a0,a1,a2) =>
  (uL a D E F G H I J K L M N O P Q R S T U V W X Y Z a0 a1 a2).run
theorem Ch(F:Int)(G:Nat)(H:Nat)(I:Nat)(J:Nat)(K:Int)(L:Int)(M:Nat)(N:Nat)(O:Nat)(a:Nat)(P:Nat)(b:Nat)(c:Nat)(Q:List Nat)(R:List Nat)(S:List Nat)(T:List Int)(U:List Int)(e:Nat)(f:Nat)(d:Nat)(g:Int)(h:Nat)(i:Nat)(j:Nat)(k:Nat)(l:Int)(m:Int)(n:Nat)(o:Nat)(p:Nat)(q:Nat)(r:Nat)(s:Nat)(t:Nat)(u:List Nat)(v:List Nat)(w:List Nat)(x:List Int)(y:List Int)(z:List Nat)(A:Int)(B:Int)(C:Nat)(D:Nat)(E:List Nat) :Sg prog [.vs [.int .i64 F,.sl 1 1 1 0 G H,.sl 2 1 1 0 I J,.int .i64 K,.int .i64 L,.sl 3 1 1 0 M N,.flt false O,.sl 4 1 1 0 a P,.sl 5 1 1 0 b c],.fl Q,.fl R,.fl S,.ns .i64 T,.ns .i64 U] Cg (lq a b c (e,f,d,g,h,i,j,k,l,m,n,o,p,q,r,s,t,u,v,w,x,y,z,A,B,C,D,E)) (iX b (e,f,d,g,h,i,j,k,l,m,n,o,p,q,r,s,t,u,v,w,x,y,z,A,B,C,D,E)) (lq a b c) (co 0 (vx a) cU):=by
  unfold iX;exact Sg.cut 3 (az aA) (cF ac (Db a b c d) [⟨[],[0,1,2,3,4,5,6,266,8,9],[1,4,5,6,7,43,44,45]⟩,⟨[],[0,1,2,3,4,5,6,7,8,9],[1,4,5,6,7]⟩]) (fun ⟨V,W,X,Y,Z,a0,a1,a2,a3,a4,a5,a6,a7,a8,a9,b0,b1,b2,b3,b4,b5,b6,b7,b8,b9,c0⟩=>cF ac (lq a b c) [⟨[],[0,1,2,3,4,5,6,7,8,9],[1,4,5,6,7,43,44,45]⟩])
def Ci(a:Nat)(b:Nat)(c:Nat)(d:Int)(e:Nat)(f:Nat)(g:Nat)(h:Nat)(i:Int)(j:Int)(k:Nat)(l:Nat)(m:Nat)(n:Nat)(o:Nat)(p:Nat)(q:Nat)(r:List Nat)(s:List Nat)(t:List Nat)(u:List Int)(v:List Int)(w:List Nat)(x:Int)(y:Int)(z:Nat)(A:Nat)(B:List Nat)(C:Bool) :aW:=⟨ax 263 [(1,.ptr 6 1 0 0),(4,.int .i64 ((a:Nat):Int)),(5,.sl 7 1 1 0 b c),(6,.ptr 8 1 0 0),(7,.fn (.func ap) [] [.ptr 6 1 0 0,.ptr 8 1 0 0]),(10,.int .i64 (0:Int)),(66,.bool false C)],[(0,.vs [.int .i64 d,.sl 1 1 1 0 e f,.sl 2 1 1 0 g h,.int .i64 i,.int .i64 j,.sl 3 1 1 0 k l,.flt false m,.sl 4 1 1 0 n o,.sl 5 1 1 0 p q]),(1,.fl r),(2,.fl s),(3,.fl t),(4,.ns .i64 u),(5,.ns .i64 v),(6,.vs [.ptr 0 1 0 0]),(7,.fl w),(8,.vs [.int .i64 x,.int .i64 y,.sl 9 1 1 0 z A]),(9,.fl B)],10⟩
def tk(a:Nat) :T ((Bool)⊕(ab)) :=
  .leaf (.inl (decide (((a:Nat):Int)>(0:Int))))
def uM:Nat×Nat×Nat×Int×Nat×Nat×Nat×Nat×Int×Int×Nat×Nat×Nat×Nat×Nat×Nat×Nat×(List Nat)×(List Nat)×(List Nat)×(List Int)×(List Int)×(List Nat)×Int×Int×Nat×Nat×(List Nat)→aW:=fun (a,b,c,d,e,f,g,h,i,j,k,l,m,n,o,p,q,r,s,t,u,v,w,x,y,z,A,B)=>⟨ax 263 [(1,.ptr 6 1 0 0),(5,.sl 7 1 1 0 a b),(6,.ptr 8 1 0 0),(10,.int .i64 ((c:Nat):Int))],[(0,.vs [.int .i64 d,.sl 1 1 1 0 e f,.sl 2 1 1 0 g h,.int .i64 i,.int .i64 j,.sl 3 1 1 0 k l,.flt false m,.sl 4 1 1 0 n o,.sl 5 1 1 0 p q]),(1,.fl r),(2,.fl s),(3,.fl t),(4,.ns .i64 u),(5,.ns .i64 v),(6,.vs [.ptr 0 1 0 0]),(7,.fl w),(8,.vs [.int .i64 x,.int .i64 y,.sl 9 1 1 0 z A]),(9,.fl B)],10⟩
def pb:List Code:=cV (HU ((((((iW.drop 5).drop 1).drop 2).take 1)).headD .skip))
def Cj(d:Nat)(e:Nat)(f:Nat)(g:Int)(h:Nat)(i:Nat)(j:Nat)(k:Nat)(l:Int)(m:Int)(n:Nat)(o:Nat)(b:Nat)(a:Nat)(c:Nat)(p:Nat)(q:Nat)(r:List Nat)(s:List Nat)(t:List Nat)(u:List Int)(v:List Int)(w:List Nat)(x:Int)(y:Int)(z:Nat)(A:Nat)(B:List Nat)(_:Unit) :aW:=⟨ax 263 [(1,.ptr 6 1 0 0),(4,.int .i64 ((d:Nat):Int)),(5,.sl 7 1 1 0 e f),(6,.ptr 8 1 0 0),(7,.fn (.func ap) [] [.ptr 6 1 0 0,.ptr 8 1 0 0]),(11,.ptr 9 1 0 0),(75,.sl 4 1 1 0 a c),(76,.int .i64 ((a:Nat):Int)),(77,.int .i64 (0:Int))],[(0,.vs [.int .i64 g,.sl 1 1 1 0 h i,.sl 2 1 1 0 j k,.int .i64 l,.int .i64 m,.sl 3 1 1 0 n o,.flt false b,.sl 4 1 1 0 a c,.sl 5 1 1 0 p q]),(1,.fl r),(2,.fl s),(3,.fl t),(4,.ns .i64 u),(5,.ns .i64 v),(6,.vs [.ptr 0 1 0 0]),(7,.fl w),(8,.vs [.int .i64 x,.int .i64 y,.sl 10 1 1 0 z A]),(9,.vs [.nsl,.nsl,.flt false b]),(10,.fl B)],11⟩
def tl:T ((Unit)⊕(ab)) :=
  .leaf (.inl ())
def kF(d:Nat)(e:Nat)(f:Nat)(g:Int)(h:Nat)(i:Nat)(j:Nat)(k:Nat)(l:Int)(m:Int)(n:Nat)(o:Nat)(b:Nat)(a:Nat)(c:Nat)(p:Nat)(q:Nat)(r:List Nat)(s:List Nat)(t:List Nat)(u:List Int)(v:List Int)(w:List Nat)(x:Int)(y:Int)(z:Nat)(A:Nat)(B:List Nat) :Nat×Nat×Nat×Nat×Nat×(List Nat)×(List Nat)→aW:=fun (C,D,E,F,G,H,I)=>⟨ax 263 [(1,.ptr 6 1 0 0),(4,.int .i64 ((d:Nat):Int)),(5,.sl 7 1 1 0 e f),(6,.ptr 8 1 0 0),(7,.fn (.func ap) [] [.ptr 6 1 0 0,.ptr 8 1 0 0]),(11,.ptr 9 1 0 0),(75,.sl 4 1 1 0 a c),(76,.int .i64 ((a:Nat):Int)),(77,.int .i64 ((C:Nat):Int))],[(0,.vs [.int .i64 g,.sl 1 1 1 0 h i,.sl 2 1 1 0 j k,.int .i64 l,.int .i64 m,.sl 3 1 1 0 n o,.flt false b,.sl 4 1 1 0 a c,.sl 5 1 1 0 p q]),(1,.fl r),(2,.fl s),(3,.fl t),(4,.ns .i64 u),(5,.ns .i64 v),(6,.vs [.ptr 0 1 0 0]),(7,.fl w),(8,.vs [.int .i64 x,.int .i64 y,.sl 10 1 1 0 z A]),(9,.vs [.sl 11 1 1 0 D E,.sl 12 1 1 0 F G,.flt false b]),(10,.fl B),(11,.fl H),(12,.fl I)],13⟩
def uN(b:Nat)(c:Nat)(d:Nat)(e:Int)(f:Nat)(g:Nat)(h:Nat)(i:Nat)(j:Int)(k:Int)(l:Nat)(m:Nat)(a:Nat)(n:Nat)(o:Nat)(p:Nat)(q:Nat)(r:List Nat)(s:List Nat)(t:List Nat)(u:List Int)(v:List Int)(w:List Nat)(x:Int)(y:Int)(z:Nat)(A:Nat)(B:List Nat) :Nat×Nat×Nat×Nat×(List Nat)×(List Nat)→aW:=fun (C,D,E,F,G,H)=>⟨ax 263 [(1,.ptr 6 1 0 0),(4,.int .i64 ((b:Nat):Int)),(5,.sl 7 1 1 0 c d),(6,.ptr 8 1 0 0),(7,.fn (.func ap) [] [.ptr 6 1 0 0,.ptr 8 1 0 0]),(11,.ptr 9 1 0 0)],[(0,.vs [.int .i64 e,.sl 1 1 1 0 f g,.sl 2 1 1 0 h i,.int .i64 j,.int .i64 k,.sl 3 1 1 0 l m,.flt false a,.sl 4 1 1 0 n o,.sl 5 1 1 0 p q]),(1,.fl r),(2,.fl s),(3,.fl t),(4,.ns .i64 u),(5,.ns .i64 v),(6,.vs [.ptr 0 1 0 0]),(7,.fl w),(8,.vs [.int .i64 x,.int .i64 y,.sl 10 1 1 0 z A]),(9,.vs [.sl 11 1 1 0 C D,.sl 12 1 1 0 E F,.flt false a]),(10,.fl B),(11,.fl G),(12,.fl H)],13⟩
def AT:List Code:=cV (dm ((((pb.drop 2).take 1)).headD .skip))
def tm(j:Nat)(k:Nat)(i:Nat)(e:List Nat)(f:List Nat)(b:List Int)(a:Nat)(c:Nat)(l:Nat)(d:Nat)(m:Nat)(g:List Nat)(h:List Nat) :T ((Nat×Nat×Nat×Nat×Nat×(List Nat)×(List Nat))⊕((Nat×Nat×Nat×Nat×(List Nat)×(List Nat))⊕(ab))) :=
  .ask (decide (((a:Nat):Int)<((i:Nat):Int)))
    (.need (gg ((a:Nat):Int) i)<|.need (fo a (List.length b))<|.need (gg (List.getD b a 0) j)<|.need (fo (Int.toNat (List.getD b a 0)) (List.length e))<|.need (pS ((c+1)*8) 140737488355328)<|.need (pS (c+1) 9223372036854775807)<|.need (pS 1 (List.length [(List.getD e (Int.toNat (List.getD b a 0)) 0)]))<|.need (pS c (List.length g))<|.need (gg (List.getD b a 0) k)<|.need (fo (Int.toNat (List.getD b a 0)) (List.length f))<|.need (pS ((d+1)*8) 140737488355328)<|.need (pS (d+1) 9223372036854775807)<|.need (pS 1 (List.length [(List.getD f (Int.toNat (List.getD b a 0)) 0)]))<|.need (pS d (List.length h))<|.need (fI .i64 (((a+1):Nat):Int))<|.leaf (.inl ((a+1),(c+1),(c+1),(d+1),(d+1),((List.take c g)++(List.take 1 [(List.getD e (Int.toNat (List.getD b a 0)) 0)])),((List.take d h)++(List.take 1 [(List.getD f (Int.toNat (List.getD b a 0)) 0)])))))
    (.leaf (.inr (.inl (c,l,d,m,g,h))))
def iF(a:Nat)(b:Nat)(c:Nat)(d:List Nat)(e:List Nat)(f:List Int) :Nat×Nat×Nat×Nat×Nat×(List Nat)×(List Nat)→Option ((Nat×Nat×Nat×Nat×Nat×(List Nat)×(List Nat))⊕((Nat×Nat×Nat×Nat×(List Nat)×(List Nat))⊕(ab))):=fun (g,h,i,j,k,l,m) =>
  (tm a b c d e f g h i j k l m).run
theorem AU(J:Int)(K:Nat)(L:Nat)(M:Nat)(N:Nat)(O:Int)(P:Int)(Q:Nat)(R:Nat)(S:Nat)(a:Nat)(T:Nat)(U:Nat)(V:Nat)(W:List Nat)(X:List Nat)(Y:List Nat)(Z:List Int)(a0:List Int)(h:Nat)(i:Nat)(j:Int)(b:Nat)(k:Nat)(c:Nat)(l:Nat)(m:Int)(n:Int)(o:Nat)(p:Nat)(q:Nat)(d:Nat)(r:Nat)(s:Nat)(t:Nat)(e:List Nat)(f:List Nat)(u:List Nat)(g:List Int)(v:List Int)(w:List Nat)(x:Int)(y:Int)(z:Nat)(A:Nat)(B:List Nat)(C:Nat)(D:Nat)(E:Nat)(F:Nat)(G:Nat)(H:List Nat)(I:List Nat) :Sg prog [.vs [.int .i64 J,.sl 1 1 1 0 K L,.sl 2 1 1 0 M N,.int .i64 O,.int .i64 P,.sl 3 1 1 0 Q R,.flt false S,.sl 4 1 1 0 a T,.sl 5 1 1 0 U V],.fl W,.fl X,.fl Y,.ns .i64 Z,.ns .i64 a0] AT (kF a h i j b k c l m n o p q d r s t e f u g v w x y z A B (C,D,E,F,G,H,I)) (iF b c d e f g (C,D,E,F,G,H,I)) (kF a h i j b k c l m n o p q d r s t e f u g v w x y z A B) (co 2 (uN a h i j b k c l m n o p q d r s t e f u g v w x y z A B) cU):=by
  unfold iF;exact cF ac (kF a h i j b k c l m n o p q d r s t e f u g v w x y z A B) [⟨[],[0,1,2,3,4,5,6,7,8,9,10,237,413],[1,4,5,6,7,11,75,76,77]⟩,⟨[],[0,1,2,3,4,5,6,7,8,9,10,11,12],[1,4,5,6,7,11]⟩]
def Ck(b:Nat)(c:Nat)(d:Nat)(e:Int)(f:Nat)(g:Nat)(h:Nat)(i:Nat)(j:Int)(k:Int)(l:Nat)(m:Nat)(a:Nat)(n:Nat)(o:Nat)(p:Nat)(q:Nat)(r:List Nat)(s:List Nat)(t:List Nat)(u:List Int)(v:List Int)(w:List Nat)(x:Int)(y:Int)(z:Nat)(A:Nat)(B:List Nat)(C:Nat)(D:Nat)(E:Nat)(F:Nat)(G:List Nat)(H:List Nat) :Nat×Nat×Nat×Nat×Nat×(List Int)×(List Nat)→aW:=fun (I,J,K,L,M,N,O)=>⟨ax 263 [(1,.ptr 6 1 0 0),(4,.int .i64 ((b:Nat):Int)),(5,.sl 7 1 1 0 c d),(6,.ptr 8 1 0 0),(7,.fn (.func ap) [] [.ptr 6 1 0 0,.ptr 8 1 0 0]),(11,.ptr 9 1 0 0),(14,.ptr 10 1 0 0),(15,.int .i64 ((I:Nat):Int)),(16,.int .i64 ((J:Nat):Int))],[(0,.vs [.int .i64 e,.sl 1 1 1 0 f g,.sl 2 1 1 0 h i,.int .i64 j,.int .i64 k,.sl 3 1 1 0 l m,.flt false a,.sl 4 1 1 0 n o,.sl 5 1 1 0 p q]),(1,.fl r),(2,.fl s),(3,.fl t),(4,.ns .i64 u),(5,.ns .i64 v),(6,.vs [.ptr 0 1 0 0]),(7,.fl w),(8,.vs [.int .i64 x,.int .i64 y,.sl 11 1 1 0 z A]),(9,.vs [.sl 12 1 1 0 C D,.sl 13 1 1 0 E F,.flt false a]),(10,.vs [.sl 14 2 2 0 K L]),(11,.fl B),(12,.fl G),(13,.fl H),(14,.cols M [.ci .i64 N,.cf O])],15⟩
def tn(e:Nat)(a:Nat)(b:Nat)(c:List Nat)(d:List Nat) :T ((Nat×Nat×Nat×Nat×Nat×(List Int)×(List Nat))⊕(ab)) :=
  .need (di 0 a c)<|.need (di 0 b d)<|.need (wh (iV (ay 0 a c) (ay 0 b d) e))<|.leaf (.inl ((xk (iV (ay 0 a c) (ay 0 b d) e)),(xl (iV (ay 0 a c) (ay 0 b d) e)),(xi (iV (ay 0 a c) (ay 0 b d) e)),(xj (iV (ay 0 a c) (ay 0 b d) e)),(xm (iV (ay 0 a c) (ay 0 b d) e)),(xn (iV (ay 0 a c) (ay 0 b d) e)),(xo (iV (ay 0 a c) (ay 0 b d) e))))
def Cl(a:Nat)(c:Nat)(d:Nat)(e:Int)(f:Nat)(g:Nat)(h:Nat)(i:Nat)(j:Int)(k:Int)(l:Nat)(m:Nat)(b:Nat)(n:Nat)(o:Nat)(p:Nat)(q:Nat)(r:List Nat)(s:List Nat)(t:List Nat)(u:List Int)(v:List Int)(w:List Nat)(x:Int)(y:Int)(z:Nat)(A:Nat)(B:List Nat)(C:Nat)(D:Nat)(E:Nat)(F:Nat)(G:List Nat)(H:List Nat)(I:Nat)(J:Nat)(K:Nat)(L:Nat)(M:List Int)(N:List Nat)(O:(List Nat)) :aW:=⟨ax 263 [(1,.ptr 6 1 0 0),(4,.int .i64 ((a:Nat):Int)),(5,.sl 7 1 1 0 c d),(6,.ptr 8 1 0 0),(7,.fn (.func ap) [] [.ptr 6 1 0 0,.ptr 8 1 0 0]),(10,.int .i64 ((I:Nat):Int)),(11,.ptr 9 1 0 0),(14,.ptr 10 1 0 0),(17,.fn (.func aN) [] [.ptr 9 1 0 0,.ptr 10 1 0 0]),(18,.sl 11 1 1 0 a a),(118,.int .i64 ((a:Nat):Int)),(119,.int .i64 (0:Int))],[(0,.vs [.int .i64 e,.sl 1 1 1 0 f g,.sl 2 1 1 0 h i,.int .i64 j,.int .i64 k,.sl 3 1 1 0 l m,.flt false b,.sl 4 1 1 0 n o,.sl 5 1 1 0 p q]),(1,.fl r),(2,.fl s),(3,.fl t),(4,.ns .i64 u),(5,.ns .i64 v),(6,.vs [.ptr 0 1 0 0]),(7,.fl w),(8,.vs [.int .i64 x,.int .i64 y,.sl 12 1 1 0 z A]),(9,.vs [.sl 13 1 1 0 C D,.sl 14 1 1 0 E F,.flt false b]),(10,.vs [.sl 15 2 2 0 J K]),(11,.fl O),(12,.fl B),(13,.fl G),(14,.fl H),(15,.cols L [.ci .i64 M,.cf N])],16⟩
def tp(a:Nat)(b:Int)(c:Nat)(d:Nat)(e:Nat)(f:Nat)(g:Int)(h:Int)(i:Nat)(j:Nat)(k:Nat)(l:Nat)(m:Nat)(n:Nat)(o:Nat)(p:List Nat)(q:List Nat)(r:List Nat)(s:List Int)(t:List Int)(u:Nat) :T (((List Nat))⊕(ab)) :=
  .ask (((u:Nat):Int) != (0:Int))
    (.leaf (.inr (.r0 b c d e f g h i j k l m n o p q r s t)))
    (.need (decide ((0:Int)≤((a:Nat):Int)))<|.need (decide (((a:Nat):Int)≤((a:Nat):Int)))<|.need (decide ((8:Int)*((a:Nat):Int)≤140737488355328))<|.need (fI .i64 ((a:Nat):Int))<|.leaf (.inl (List.replicate a 0)))
def kG(a:Nat)(c:Nat)(d:Nat)(e:Int)(f:Nat)(g:Nat)(h:Nat)(i:Nat)(j:Int)(k:Int)(l:Nat)(m:Nat)(b:Nat)(n:Nat)(o:Nat)(p:Nat)(q:Nat)(r:List Nat)(s:List Nat)(t:List Nat)(u:List Int)(v:List Int)(w:List Nat)(x:Int)(y:Int)(z:Nat)(A:Nat)(B:List Nat)(C:Nat)(D:Nat)(E:Nat)(F:Nat)(G:List Nat)(H:List Nat)(I:Nat)(J:Nat)(K:Nat)(L:Nat)(M:List Int)(N:List Nat) :Nat×(List Nat)→aW:=fun (O,P)=>⟨ax 263 [(1,.ptr 6 1 0 0),(4,.int .i64 ((a:Nat):Int)),(5,.sl 7 1 1 0 c d),(6,.ptr 8 1 0 0),(7,.fn (.func ap) [] [.ptr 6 1 0 0,.ptr 8 1 0 0]),(10,.int .i64 ((I:Nat):Int)),(11,.ptr 9 1 0 0),(14,.ptr 10 1 0 0),(17,.fn (.func aN) [] [.ptr 9 1 0 0,.ptr 10 1 0 0]),(18,.sl 11 1 1 0 a a),(118,.int .i64 ((a:Nat):Int)),(119,.int .i64 ((O:Nat):Int))],[(0,.vs [.int .i64 e,.sl 1 1 1 0 f g,.sl 2 1 1 0 h i,.int .i64 j,.int .i64 k,.sl 3 1 1 0 l m,.flt false b,.sl 4 1 1 0 n o,.sl 5 1 1 0 p q]),(1,.fl r),(2,.fl s),(3,.fl t),(4,.ns .i64 u),(5,.ns .i64 v),(6,.vs [.ptr 0 1 0 0]),(7,.fl w),(8,.vs [.int .i64 x,.int .i64 y,.sl 12 1 1 0 z A]),(9,.vs [.sl 13 1 1 0 C D,.sl 14 1 1 0 E F,.flt false b]),(10,.vs [.sl 15 2 2 0 J K]),(11,.fl P),(12,.fl B),(13,.fl G),(14,.fl H),(15,.cols L [.ci .i64 M,.cf N])],16⟩
def kH(a:Nat)(c:Nat)(d:Nat)(e:Int)(f:Nat)(g:Nat)(h:Nat)(i:Nat)(j:Int)(k:Int)(l:Nat)(m:Nat)(b:Nat)(n:Nat)(o:Nat)(p:Nat)(q:Nat)(r:List Nat)(s:List Nat)(t:List Nat)(u:List Int)(v:List Int)(w:List Nat)(x:Int)(y:Int)(z:Nat)(A:Nat)(B:List Nat)(C:Nat)(D:Nat)(E:Nat)(F:Nat)(G:List Nat)(H:List Nat)(I:Nat)(J:Nat)(K:Nat)(L:Nat)(M:List Int)(N:List Nat)(O:(List Nat)) :aW:=⟨ax 263 [(1,.ptr 6 1 0 0),(4,.int .i64 ((a:Nat):Int)),(5,.sl 7 1 1 0 c d),(6,.ptr 8 1 0 0),(7,.fn (.func ap) [] [.ptr 6 1 0 0,.ptr 8 1 0 0]),(10,.int .i64 ((I:Nat):Int)),(11,.ptr 9 1 0 0),(14,.ptr 10 1 0 0),(17,.fn (.func aN) [] [.ptr 9 1 0 0,.ptr 10 1 0 0]),(18,.sl 11 1 1 0 a a)],[(0,.vs [.int .i64 e,.sl 1 1 1 0 f g,.sl 2 1 1 0 h i,.int .i64 j,.int .i64 k,.sl 3 1 1 0 l m,.flt false b,.sl 4 1 1 0 n o,.sl 5 1 1 0 p q]),(1,.fl r),(2,.fl s),(3,.fl t),(4,.ns .i64 u),(5,.ns .i64 v),(6,.vs [.ptr 0 1 0 0]),(7,.fl w),(8,.vs [.int .i64 x,.int .i64 y,.sl 12 1 1 0 z A]),(9,.vs [.sl 13 1 1 0 C D,.sl 14 1 1 0 E F,.flt false b]),(10,.vs [.sl 15 2 2 0 J K]),(11,.fl O),(12,.fl B),(13,.fl G),(14,.fl H),(15,.cols L [.ci .i64 M,.cf N])],16⟩
def tq:List Code:=cV (dm (((((((pb.drop 2).drop 1).drop 1).drop 6).take 1)).headD .skip))
def Cm(a:Nat)(c:Nat)(d:Nat)(e:Int)(f:Nat)(g:Nat)(h:Nat)(i:Nat)(j:Int)(k:Int)(l:Nat)(m:Nat)(b:Nat)(n:Nat)(o:Nat)(p:Nat)(q:Nat)(r:List Nat)(s:List Nat)(t:List Nat)(u:List Int)(v:List Int)(w:List Nat)(x:Int)(y:Int)(z:Nat)(A:Nat)(B:List Nat)(C:Nat)(D:Nat)(E:Nat)(F:Nat)(G:List Nat)(H:List Nat)(I:Nat)(J:Nat)(K:Nat)(L:Nat)(M:List Int)(N:List Nat)(O:Nat)(P:List Nat)(_:Unit) :aW:=⟨ax 263 [(1,.ptr 6 1 0 0),(4,.int .i64 ((a:Nat):Int)),(5,.sl 7 1 1 0 c d),(6,.ptr 8 1 0 0),(7,.fn (.func ap) [] [.ptr 6 1 0 0,.ptr 8 1 0 0]),(10,.int .i64 ((I:Nat):Int)),(11,.ptr 9 1 0 0),(14,.ptr 10 1 0 0),(17,.fn (.func aN) [] [.ptr 9 1 0 0,.ptr 10 1 0 0]),(18,.sl 11 1 1 0 a a),(118,.int .i64 ((a:Nat):Int)),(119,.int .i64 ((O:Nat):Int))],[(0,.vs [.int .i64 e,.sl 1 1 1 0 f g,.sl 2 1 1 0 h i,.int .i64 j,.int .i64 k,.sl 3 1 1 0 l m,.flt false b,.sl 4 1 1 0 n o,.sl 5 1 1 0 p q]),(1,.fl r),(2,.fl s),(3,.fl t),(4,.ns .i64 u),(5,.ns .i64 v),(6,.vs [.ptr 0 1 0 0]),(7,.fl w),(8,.vs [.int .i64 x,.int .i64 y,.sl 12 1 1 0 z A]),(9,.vs [.sl 13 1 1 0 C D,.sl 14 1 1 0 E F,.flt false b]),(10,.vs [.sl 15 2 2 0 J K]),(11,.fl P),(12,.fl B),(13,.fl G),(14,.fl H),(15,.cols L [.ci .i64 M,.cf N])],16⟩
def tr(a:Nat)(b:Nat)(c:List Nat) :T ((Unit)⊕(((List Nat))⊕(ab))) :=
  .ask (decide (((b:Nat):Int)<((a:Nat):Int)))
    (.leaf (.inl ()))
    (.leaf (.inr (.inl c)))
def kI(a:Nat)(c:Nat)(d:Nat)(e:Int)(f:Nat)(g:Nat)(h:Nat)(i:Nat)(j:Int)(k:Int)(l:Nat)(m:Nat)(b:Nat)(n:Nat)(o:Nat)(p:Nat)(q:Nat)(r:List Nat)(s:List Nat)(t:List Nat)(u:List Int)(v:List Int)(w:List Nat)(x:Int)(y:Int)(z:Nat)(A:Nat)(B:List Nat)(C:Nat)(D:Nat)(E:Nat)(F:Nat)(G:List Nat)(H:List Nat)(I:Nat)(J:Nat)(K:Nat)(L:Nat)(M:List Int)(N:List Nat)(O:Nat)(P:(List Nat)) :aW:=⟨ax 263 [(1,.ptr 6 1 0 0),(4,.int .i64 ((a:Nat):Int)),(5,.sl 7 1 1 0 c d),(6,.ptr 8 1 0 0),(7,.fn (.func ap) [] [.ptr 6 1 0 0,.ptr 8 1 0 0]),(10,.int .i64 ((I:Nat):Int)),(11,.ptr 9 1 0 0),(14,.ptr 10 1 0 0),(17,.fn (.func aN) [] [.ptr 9 1 0 0,.ptr 10 1 0 0]),(18,.sl 11 1 1 0 a a),(118,.int .i64 ((a:Nat):Int)),(119,.int .i64 ((O:Nat):Int))],[(0,.vs [.int .i64 e,.sl 1 1 1 0 f g,.sl 2 1 1 0 h i,.int .i64 j,.int .i64 k,.sl 3 1 1 0 l m,.flt false b,.sl 4 1 1 0 n o,.sl 5 1 1 0 p q]),(1,.fl r),(2,.fl s),(3,.fl t),(4,.ns .i64 u),(5,.ns .i64 v),(6,.vs [.ptr 0 1 0 0]),(7,.fl w),(8,.vs [.int .i64 x,.int .i64 y,.sl 12 1 1 0 z A]),(9,.vs [.sl 13 1 1 0 C D,.sl 14 1 1 0 E F,.flt false b]),(10,.vs [.sl 15 2 2 0 J K]),(11,.fl P),(12,.fl B),(13,.fl G),(14,.fl H),(15,.cols L [.ci .i64 M,.cf N])],16⟩
def tt:List Code:=cV (inBlock ((((tq.drop 2).take 1)).headD .skip))
def Cn(a:Nat)(d:Nat)(e:Nat)(f:Int)(g:Nat)(h:Nat)(i:Nat)(j:Nat)(k:Int)(l:Int)(m:Nat)(n:Nat)(b:Nat)(o:Nat)(p:Nat)(q:Nat)(r:Nat)(s:List Nat)(t:List Nat)(u:List Nat)(v:List Int)(w:List Int)(x:List Nat)(y:Int)(z:Int)(A:Nat)(B:Nat)(C:List Nat)(D:Nat)(E:Nat)(F:Nat)(G:Nat)(H:List Nat)(I:List Nat)(J:Nat)(K:Nat)(L:Nat)(M:Nat)(N:List Int)(O:List Nat)(c:Nat)(P:List Nat)(Q:Nat) :aW:=⟨ax 263 [(1,.ptr 6 1 0 0),(4,.int .i64 ((a:Nat):Int)),(5,.sl 7 1 1 0 d e),(6,.ptr 8 1 0 0),(7,.fn (.func ap) [] [.ptr 6 1 0 0,.ptr 8 1 0 0]),(10,.int .i64 ((J:Nat):Int)),(11,.ptr 9 1 0 0),(14,.ptr 10 1 0 0),(17,.fn (.func aN) [] [.ptr 9 1 0 0,.ptr 10 1 0 0]),(18,.sl 11 1 1 0 a a),(19,.int .i64 ((c:Nat):Int)),(20,.flt false Q),(118,.int .i64 ((a:Nat):Int)),(119,.int .i64 ((c:Nat):Int))],[(0,.vs [.int .i64 f,.sl 1 1 1 0 g h,.sl 2 1 1 0 i j,.int .i64 k,.int .i64 l,.sl 3 1 1 0 m n,.flt false b,.sl 4 1 1 0 o p,.sl 5 1 1 0 q r]),(1,.fl s),(2,.fl t),(3,.fl u),(4,.ns .i64 v),(5,.ns .i64 w),(6,.vs [.ptr 0 1 0 0]),(7,.fl x),(8,.vs [.int .i64 y,.int .i64 z,.sl 12 1 1 0 A B]),(9,.vs [.sl 13 1 1 0 D E,.sl 14 1 1 0 F G,.flt false b]),(10,.vs [.sl 15 2 2 0 K L]),(11,.fl P),(12,.fl C),(13,.fl H),(14,.fl I),(15,.cols M [.ci .i64 N,.cf O])],16⟩
def tu(a:Nat)(h:Nat)(b:Nat)(c:Nat)(d:List Nat)(e:List Nat)(j:Nat)(f:List Int)(g:List Nat)(i:Nat) :T ((Nat)⊕(((List Nat))⊕(((List Nat))⊕(ab)))) :=
  .need (fI .i64 (((a:Nat):Int)-(1:Int)))<|.need (gg (((a:Nat):Int)-(1:Int)) j)<|.need (fo (Int.toNat (((a:Nat):Int)-(1:Int))) (List.length f))<|.need (fo (Int.toNat (((a:Nat):Int)-(1:Int))) (List.length g))<|.need (di 0 b d)<|.need (di 0 c e)<|.need (lA (gi (ay 0 b d) (ay 0 c e) h ((i:Nat):Int) (List.getD f (Int.toNat (((a:Nat):Int)-(1:Int))) 0) (List.getD g (Int.toNat (((a:Nat):Int)-(1:Int))) 0)))<|.leaf (.inl (S2 (lp (gi (ay 0 b d) (ay 0 c e) h ((i:Nat):Int) (List.getD f (Int.toNat (((a:Nat):Int)-(1:Int))) 0) (List.getD g (Int.toNat (((a:Nat):Int)-(1:Int))) 0)))))
def Co(a:Nat)(d:Nat)(e:Nat)(f:Int)(g:Nat)(h:Nat)(i:Nat)(j:Nat)(k:Int)(l:Int)(m:Nat)(n:Nat)(c:Nat)(o:Nat)(p:Nat)(q:Nat)(r:Nat)(s:List Nat)(t:List Nat)(u:List Nat)(v:List Int)(w:List Int)(x:List Nat)(y:Int)(z:Int)(A:Nat)(B:Nat)(C:List Nat)(D:Nat)(E:Nat)(F:Nat)(G:Nat)(H:List Nat)(I:List Nat)(J:Nat)(K:Nat)(L:Nat)(M:Nat)(N:List Int)(O:List Nat)(b:Nat)(P:List Nat)(Q:Nat)(_:Unit) :aW:=⟨ax 263 [(1,.ptr 6 1 0 0),(4,.int .i64 ((a:Nat):Int)),(5,.sl 7 1 1 0 d e),(6,.ptr 8 1 0 0),(7,.fn (.func ap) [] [.ptr 6 1 0 0,.ptr 8 1 0 0]),(10,.int .i64 ((J:Nat):Int)),(11,.ptr 9 1 0 0),(14,.ptr 10 1 0 0),(17,.fn (.func aN) [] [.ptr 9 1 0 0,.ptr 10 1 0 0]),(18,.sl 11 1 1 0 a a),(19,.int .i64 ((b:Nat):Int)),(20,.flt false Q),(118,.int .i64 ((a:Nat):Int)),(119,.int .i64 ((b:Nat):Int)),(128,.int .i64 ((b:Nat):Int)),(129,.int .i64 (0:Int))],[(0,.vs [.int .i64 f,.sl 1 1 1 0 g h,.sl 2 1 1 0 i j,.int .i64 k,.int .i64 l,.sl 3 1 1 0 m n,.flt false c,.sl 4 1 1 0 o p,.sl 5 1 1 0 q r]),(1,.fl s),(2,.fl t),(3,.fl u),(4,.ns .i64 v),(5,.ns .i64 w),(6,.vs [.ptr 0 1 0 0]),(7,.fl x),(8,.vs [.int .i64 y,.int .i64 z,.sl 12 1 1 0 A B]),(9,.vs [.sl 13 1 1 0 D E,.sl 14 1 1 0 F G,.flt false c]),(10,.vs [.sl 15 2 2 0 K L]),(11,.fl P),(12,.fl C),(13,.fl H),(14,.fl I),(15,.cols M [.ci .i64 N,.cf O])],16⟩
def tw:T ((Unit)⊕(((List Nat))⊕(((List Nat))⊕(ab)))) :=
  .leaf (.inl ())
def kJ(a:Nat)(d:Nat)(e:Nat)(f:Int)(g:Nat)(h:Nat)(i:Nat)(j:Nat)(k:Int)(l:Int)(m:Nat)(n:Nat)(c:Nat)(o:Nat)(p:Nat)(q:Nat)(r:Nat)(s:List Nat)(t:List Nat)(u:List Nat)(v:List Int)(w:List Int)(x:List Nat)(y:Int)(z:Int)(A:Nat)(B:Nat)(C:List Nat)(D:Nat)(E:Nat)(F:Nat)(G:Nat)(H:List Nat)(I:List Nat)(J:Nat)(K:Nat)(L:Nat)(M:Nat)(N:List Int)(O:List Nat)(b:Nat)(P:List Nat) :Nat×Nat→aW:=fun (Q,R)=>⟨ax 263 [(1,.ptr 6 1 0 0),(4,.int .i64 ((a:Nat):Int)),(5,.sl 7 1 1 0 d e),(6,.ptr 8 1 0 0),(7,.fn (.func ap) [] [.ptr 6 1 0 0,.ptr 8 1 0 0]),(10,.int .i64 ((J:Nat):Int)),(11,.ptr 9 1 0 0),(14,.ptr 10 1 0 0),(17,.fn (.func aN) [] [.ptr 9 1 0 0,.ptr 10 1 0 0]),(18,.sl 11 1 1 0 a a),(19,.int .i64 ((b:Nat):Int)),(20,.flt false Q),(118,.int .i64 ((a:Nat):Int)),(119,.int .i64 ((b:Nat):Int)),(128,.int .i64 ((b:Nat):Int)),(129,.int .i64 ((R:Nat):Int))],[(0,.vs [.int .i64 f,.sl 1 1 1 0 g h,.sl 2 1 1 0 i j,.int .i64 k,.int .i64 l,.sl 3 1 1 0 m n,.flt false c,.sl 4 1 1 0 o p,.sl 5 1 1 0 q r]),(1,.fl s),(2,.fl t),(3,.fl u),(4,.ns .i64 v),(5,.ns .i64 w),(6,.vs [.ptr 0 1 0 0]),(7,.fl x),(8,.vs [.int .i64 y,.int .i64 z,.sl 12 1 1 0 A B]),(9,.vs [.sl 13 1 1 0 D E,.sl 14 1 1 0 F G,.flt false c]),(10,.vs [.sl 15 2 2 0 K L]),(11,.fl P),(12,.fl C),(13,.fl H),(14,.fl I),(15,.cols M [.ci .i64 N,.cf O])],16⟩
def uO(a:Nat)(d:Nat)(e:Nat)(f:Int)(g:Nat)(h:Nat)(i:Nat)(j:Nat)(k:Int)(l:Int)(m:Nat)(n:Nat)(b:Nat)(o:Nat)(p:Nat)(q:Nat)(r:Nat)(s:List Nat)(t:List Nat)(u:List Nat)(v:List Int)(w:List Int)(x:List Nat)(y:Int)(z:Int)(A:Nat)(B:Nat)(C:List Nat)(D:Nat)(E:Nat)(F:Nat)(G:Nat)(H:List Nat)(I:List Nat)(J:Nat)(K:Nat)(L:Nat)(M:Nat)(N:List Int)(O:List Nat)(c:Nat)(P:List Nat)(Q:Nat) :aW:=⟨ax 263 [(1,.ptr 6 1 0 0),(4,.int .i64 ((a:Nat):Int)),(5,.sl 7 1 1 0 d e),(6,.ptr 8 1 0 0),(7,.fn (.func ap) [] [.ptr 6 1 0 0,.ptr 8 1 0 0]),(10,.int .i64 ((J:Nat):Int)),(11,.ptr 9 1 0 0),(14,.ptr 10 1 0 0),(17,.fn (.func aN) [] [.ptr 9 1 0 0,.ptr 10 1 0 0]),(18,.sl 11 1 1 0 a a),(19,.int .i64 ((c:Nat):Int)),(20,.flt false Q),(118,.int .i64 ((a:Nat):Int)),(119,.int .i64 ((c:Nat):Int))],[(0,.vs [.int .i64 f,.sl 1 1 1 0 g h,.sl 2 1 1 0 i j,.int .i64 k,.int .i64 l,.sl 3 1 1 0 m n,.flt false b,.sl 4 1 1 0 o p,.sl 5 1 1 0 q r]),(1,.fl s),(2,.fl t),(3,.fl u),(4,.ns .i64 v),(5,.ns .i64 w),(6,.vs [.ptr 0 1 0 0]),(7,.fl x),(8,.vs [.int .i64 y,.int .i64 z,.sl 12 1 1 0 A B]),(9,.vs [.sl 13 1 1 0 D E,.sl 14 1 1 0 F G,.flt false b]),(10,.vs [.sl 15 2 2 0 K L]),(11,.fl P),(12,.fl C),(13,.fl H),(14,.fl I),(15,.cols M [.ci .i64 N,.cf O])],16⟩
def AW:List Code:=cV (dm (((((tt.drop 2).drop 1).take 1)).headD .skip))
def Cp(a:Nat)(d:Nat)(e:Nat)(f:Int)(g:Nat)(h:Nat)(i:Nat)(j:Nat)(k:Int)(l:Int)(m:Nat)(n:Nat)(c:Nat)(o:Nat)(p:Nat)(q:Nat)(r:Nat)(s:List Nat)(t:List Nat)(u:List Nat)(v:List Int)(w:List Int)(x:List Nat)(y:Int)(z:Int)(A:Nat)(B:Nat)(C:List Nat)(D:Nat)(E:Nat)(F:Nat)(G:Nat)(H:List Nat)(I:List Nat)(J:Nat)(K:Nat)(L:Nat)(M:Nat)(N:List Int)(O:List Nat)(b:Nat)(P:List Nat)(Q:Nat)(R:Nat) :aW:=⟨ax 263 [(1,.ptr 6 1 0 0),(4,.int .i64 ((a:Nat):Int)),(5,.sl 7 1 1 0 d e),(6,.ptr 8 1 0 0),(7,.fn (.func ap) [] [.ptr 6 1 0 0,.ptr 8 1 0 0]),(10,.int .i64 ((J:Nat):Int)),(11,.ptr 9 1 0 0),(14,.ptr 10 1 0 0),(17,.fn (.func aN) [] [.ptr 9 1 0 0,.ptr 10 1 0 0]),(18,.sl 11 1 1 0 a a),(19,.int .i64 ((b:Nat):Int)),(20,.flt false R),(118,.int .i64 ((a:Nat):Int)),(119,.int .i64 ((b:Nat):Int)),(128,.int .i64 ((b:Nat):Int)),(129,.int .i64 ((Q:Nat):Int))],[(0,.vs [.int .i64 f,.sl 1 1 1 0 g h,.sl 2 1 1 0 i j,.int .i64 k,.int .i64 l,.sl 3 1 1 0 m n,.flt false c,.sl 4 1 1 0 o p,.sl 5 1 1 0 q r]),(1,.fl s),(2,.fl t),(3,.fl u),(4,.ns .i64 v),(5,.ns .i64 w),(6,.vs [.ptr 0 1 0 0]),(7,.fl x),(8,.vs [.int .i64 y,.int .i64 z,.sl 12 1 1 0 A B]),(9,.vs [.sl 13 1 1 0 D E,.sl 14 1 1 0 F G,.flt false c]),(10,.vs [.sl 15 2 2 0 K L]),(11,.fl P),(12,.fl C),(13,.fl H),(14,.fl I),(15,.cols M [.ci .i64 N,.cf O])],16⟩
def tx(i:Nat)(d:Nat)(e:Nat)(b:List Nat)(f:List Nat)(k:Nat)(g:List Int)(h:List Nat)(c:Nat)(j:Nat)(a:Nat) :T ((Nat)⊕((Nat)⊕(((List Nat))⊕(((List Nat))⊕(ab))))) :=
  .ask (decide (((a:Nat):Int)<((c:Nat):Int)))
    (.need (gg ((a:Nat):Int) k)<|.need (fo a (List.length g))<|.need (fo a (List.length h))<|.need (di 0 d b)<|.need (di 0 e f)<|.need (lA (gi (ay 0 d b) (ay 0 e f) i ((c:Nat):Int) (List.getD g a 0) (List.getD h a 0)))<|.need (gg ((c:Nat):Int) d)<|.need (fo c (List.length b))<|.need (gg ((a:Nat):Int) d)<|.need (fo a (List.length b))<|.leaf (.inl (cY j (fdiv (lp (gi (ay 0 d b) (ay 0 e f) i ((c:Nat):Int) (List.getD g a 0) (List.getD h a 0))) (oN (List.getD b c 0) (List.getD b a 0))))))
    (.leaf (.inr (.inl j)))
def tA(a:Nat)(b:Nat) :T ((Nat×Nat)⊕((Nat)⊕(((List Nat))⊕(((List Nat))⊕(ab))))) :=
  .need (fI .i64 (((a+1):Nat):Int))<|.leaf (.inl (b,(a+1)))
def iG(b:Nat)(c:Nat)(d:Nat)(e:List Nat)(f:List Nat)(g:Nat)(h:List Int)(i:List Nat)(j:Nat) :Nat×Nat→Option ((Nat×Nat)⊕((Nat)⊕(((List Nat))⊕(((List Nat))⊕(ab))))):=fun (k,a) =>
  bd ((tx b c d e f g h i j k a).run) fun l =>
  (tA a l).run
theorem AX(S:Int)(T:Nat)(U:Nat)(V:Nat)(W:Nat)(X:Int)(Y:Int)(Z:Nat)(a0:Nat)(a1:Nat)(a:Nat)(a2:Nat)(a3:Nat)(a4:Nat)(a5:List Nat)(a6:List Nat)(a7:List Nat)(a8:List Int)(a9:List Int)(j:Nat)(k:Nat)(l:Int)(m:Nat)(n:Nat)(o:Nat)(p:Nat)(q:Int)(r:Int)(s:Nat)(t:Nat)(b:Nat)(u:Nat)(v:Nat)(w:Nat)(x:Nat)(y:List Nat)(z:List Nat)(A:List Nat)(B:List Int)(C:List Int)(D:List Nat)(E:Int)(F:Int)(G:Nat)(H:Nat)(I:List Nat)(c:Nat)(J:Nat)(d:Nat)(K:Nat)(e:List Nat)(f:List Nat)(L:Nat)(g:Nat)(M:Nat)(N:Nat)(h:List Int)(i:List Nat)(O:Nat)(P:List Nat)(R:Nat)(Q:Nat) :Sg prog [.vs [.int .i64 S,.sl 1 1 1 0 T U,.sl 2 1 1 0 V W,.int .i64 X,.int .i64 Y,.sl 3 1 1 0 Z a0,.flt false a1,.sl 4 1 1 0 a a2,.sl 5 1 1 0 a3 a4],.fl a5,.fl a6,.fl a7,.ns .i64 a8,.ns .i64 a9] AW (kJ a j k l m n o p q r s t b u v w x y z A B C D E F G H I c J d K e f L g M N h i O P (R,Q)) (iG b c d e f g h i O (R,Q)) (kJ a j k l m n o p q r s t b u v w x y z A B C D E F G H I c J d K e f L g M N h i O P) (co 6 (uO a j k l m n o p q r s t b u v w x y z A B C D E F G H I c J d K e f L g M N h i O P) (co 5 (kI a j k l m n o p q r s t b u v w x y z A B C D E F G H I c J d K e f L g M N h i O) (co 4 (kH a j k l m n o p q r s t b u v w x y z A B C D E F G H I c J d K e f L g M N h i) cU))):=by
  unfold iG;exact Sg.cut 3 (az (az (az aA))) (cF ac (Cp a j k l m n o p q r s t b u v w x y z A B C D E F G H I c J d K e f L g M N h i O P Q) [⟨[],[0,1,2,3,4,5,6,7,8,9,10,11,12,13,14,15],[1,4,5,6,7,10,11,14,17,18,19,20,118,119,128,129]⟩,⟨[],[0,1,2,3,4,5,6,7,8,9,10,11,12,13,14,15],[1,4,5,6,7,10,11,14,17,18,19,20,118,119]⟩]) (fun b0=>cF ac (kJ a j k l m n o p q r s t b u v w x y z A B C D E F G H I c J d K e f L g M N h i O P) [⟨[],[0,1,2,3,4,5,6,7,8,9,10,11,12,13,14,15],[1,4,5,6,7,10,11,14,17,18,19,20,118,119,128,129]⟩])
def Cq(a:Nat)(d:Nat)(e:Nat)(f:Int)(g:Nat)(h:Nat)(i:Nat)(j:Nat)(k:Int)(l:Int)(m:Nat)(n:Nat)(c:Nat)(o:Nat)(p:Nat)(q:Nat)(r:Nat)(s:List Nat)(t:List Nat)(u:List Nat)(v:List Int)(w:List Int)(x:List Nat)(y:Int)(z:Int)(A:Nat)(B:Nat)(C:List Nat)(D:Nat)(E:Nat)(F:Nat)(G:Nat)(H:List Nat)(I:List Nat)(J:Nat)(K:Nat)(L:Nat)(M:Nat)(N:List Int)(O:List Nat)(b:Nat)(P:List Nat)(Q:Nat)(_:Unit) :aW:=⟨ax 263 [(1,.ptr 6 1 0 0),(4,.int .i64 ((a:Nat):Int)),(5,.sl 7 1 1 0 d e),(6,.ptr 8 1 0 0),(7,.fn (.func ap) [] [.ptr 6 1 0 0,.ptr 8 1 0 0]),(10,.int .i64 ((J:Nat):Int)),(11,.ptr 9 1 0 0),(14,.ptr 10 1 0 0),(17,.fn (.func aN) [] [.ptr 9 1 0 0,.ptr 10 1 0 0]),(18,.sl 11 1 1 0 a a),(19,.int .i64 ((b:Nat):Int)),(20,.flt false Q),(22,.int .i64 ((b:Nat):Int)),(118,.int .i64 ((a:Nat):Int)),(119,.int .i64 ((b:Nat):Int))],[(0,.vs [.int .i64 f,.sl 1 1 1 0 g h,.sl 2 1 1 0 i j,.int .i64 k,.int .i64 l,.sl 3 1 1 0 m n,.flt false c,.sl 4 1 1 0 o p,.sl 5 1 1 0 q r]),(1,.fl s),(2,.fl t),(3,.fl u),(4,.ns .i64 v),(5,.ns .i64 w),(6,.vs [.ptr 0 1 0 0]),(7,.fl x),(8,.vs [.int .i64 y,.int .i64 z,.sl 12 1 1 0 A B]),(9,.vs [.sl 13 1 1 0 D E,.sl 14 1 1 0 F G,.flt false c]),(10,.vs [.sl 15 2 2 0 K L]),(11,.fl P),(12,.fl C),(13,.fl H),(14,.fl I),(15,.cols M [.ci .i64 N,.cf O])],16⟩
def tB:T ((Unit)⊕(((List Nat))⊕(((List Nat))⊕(ab)))) :=
  .leaf (.inl ())
def kK(a:Nat)(d:Nat)(e:Nat)(f:Int)(g:Nat)(h:Nat)(i:Nat)(j:Nat)(k:Int)(l:Int)(m:Nat)(n:Nat)(b:Nat)(o:Nat)(p:Nat)(q:Nat)(r:Nat)(s:List Nat)(t:List Nat)(u:List Nat)(v:List Int)(w:List Int)(x:List Nat)(y:Int)(z:Int)(A:Nat)(B:Nat)(C:List Nat)(D:Nat)(E:Nat)(F:Nat)(G:Nat)(H:List Nat)(I:List Nat)(J:Nat)(K:Nat)(L:Nat)(M:Nat)(N:List Int)(O:List Nat)(c:Nat)(P:List Nat) :Nat×Nat→aW:=fun (Q,R)=>⟨ax 263 [(1,.ptr 6 1 0 0),(4,.int .i64 ((a:Nat):Int)),(5,.sl 7 1 1 0 d e),(6,.ptr 8 1 0 0),(7,.fn (.func ap) [] [.ptr 6 1 0 0,.ptr 8 1 0 0]),(10,.int .i64 ((J:Nat):Int)),(11,.ptr 9 1 0 0),(14,.ptr 10 1 0 0),(17,.fn (.func aN) [] [.ptr 9 1 0 0,.ptr 10 1 0 0]),(18,.sl 11 1 1 0 a a),(19,.int .i64 ((c:Nat):Int)),(20,.flt false Q),(22,.int .i64 ((R:Nat):Int)),(118,.int .i64 ((a:Nat):Int)),(119,.int .i64 ((c:Nat):Int))],[(0,.vs [.int .i64 f,.sl 1 1 1 0 g h,.sl 2 1 1 0 i j,.int .i64 k,.int .i64 l,.sl 3 1 1 0 m n,.flt false b,.sl 4 1 1 0 o p,.sl 5 1 1 0 q r]),(1,.fl s),(2,.fl t),(3,.fl u),(4,.ns .i64 v),(5,.ns .i64 w),(6,.vs [.ptr 0 1 0 0]),(7,.fl x),(8,.vs [.int .i64 y,.int .i64 z,.sl 12 1 1 0 A B]),(9,.vs [.sl 13 1 1 0 D E,.sl 14 1 1 0 F G,.flt false b]),(10,.vs [.sl 15 2 2 0 K L]),(11,.fl P),(12,.fl C),(13,.fl H),(14,.fl I),(15,.cols M [.ci .i64 N,.cf O])],16⟩
def uP(a:Nat)(d:Nat)(e:Nat)(f:Int)(g:Nat)(h:Nat)(i:Nat)(j:Nat)(k:Int)(l:Int)(m:Nat)(n:Nat)(b:Nat)(o:Nat)(p:Nat)(q:Nat)(r:Nat)(s:List Nat)(t:List Nat)(u:List Nat)(v:List Int)(w:List Int)(x:List Nat)(y:Int)(z:Int)(A:Nat)(B:Nat)(C:List Nat)(D:Nat)(E:Nat)(F:Nat)(G:Nat)(H:List Nat)(I:List Nat)(J:Nat)(K:Nat)(L:Nat)(M:Nat)(N:List Int)(O:List Nat)(c:Nat)(P:List Nat)(Q:Nat) :aW:=⟨ax 263 [(1,.ptr 6 1 0 0),(4,.int .i64 ((a:Nat):Int)),(5,.sl 7 1 1 0 d e),(6,.ptr 8 1 0 0),(7,.fn (.func ap) [] [.ptr 6 1 0 0,.ptr 8 1 0 0]),(10,.int .i64 ((J:Nat):Int)),(11,.ptr 9 1 0 0),(14,.ptr 10 1 0 0),(17,.fn (.func aN) [] [.ptr 9 1 0 0,.ptr 10 1 0 0]),(18,.sl 11 1 1 0 a a),(19,.int .i64 ((c:Nat):Int)),(20,.flt false Q),(118,.int .i64 ((a:Nat):Int)),(119,.int .i64 ((c:Nat):Int))],[(0,.vs [.int .i64 f,.sl 1 1 1 0 g h,.sl 2 1 1 0 i j,.int .i64 k,.int .i64 l,.sl 3 1 1 0 m n,.flt false b,.sl 4 1 1 0 o p,.sl 5 1 1 0 q r]),(1,.fl s),(2,.fl t),(3,.fl u),(4,.ns .i64 v),(5,.ns .i64 w),(6,.vs [.ptr 0 1 0 0]),(7,.fl x),(8,.vs [.int .i64 y,.int .i64 z,.sl 12 1 1 0 A B]),(9,.vs [.sl 13 1 1 0 D E,.sl 14 1 1 0 F G,.flt false b]),(10,.vs [.sl 15 2 2 0 K L]),(11,.fl P),(12,.fl C),(13,.fl H),(14,.fl I),(15,.cols M [.ci .i64 N,.cf O])],16⟩
def AY:List Code:=cV (dm (((((((tt.drop 2).drop 1).drop 1).drop 1).take 1)).headD .skip))
def Cr(a:Nat)(d:Nat)(e:Nat)(f:Int)(g:Nat)(h:Nat)(i:Nat)(j:Nat)(k:Int)(l:Int)(m:Nat)(n:Nat)(b:Nat)(o:Nat)(p:Nat)(q:Nat)(r:Nat)(s:List Nat)(t:List Nat)(u:List Nat)(v:List Int)(w:List Int)(x:List Nat)(y:Int)(z:Int)(A:Nat)(B:Nat)(C:List Nat)(D:Nat)(E:Nat)(F:Nat)(G:Nat)(H:List Nat)(I:List Nat)(J:Nat)(K:Nat)(L:Nat)(M:Nat)(N:List Int)(O:List Nat)(c:Nat)(P:List Nat)(Q:Nat)(R:Nat) :aW:=⟨ax 263 [(1,.ptr 6 1 0 0),(4,.int .i64 ((a:Nat):Int)),(5,.sl 7 1 1 0 d e),(6,.ptr 8 1 0 0),(7,.fn (.func ap) [] [.ptr 6 1 0 0,.ptr 8 1 0 0]),(10,.int .i64 ((J:Nat):Int)),(11,.ptr 9 1 0 0),(14,.ptr 10 1 0 0),(17,.fn (.func aN) [] [.ptr 9 1 0 0,.ptr 10 1 0 0]),(18,.sl 11 1 1 0 a a),(19,.int .i64 ((c:Nat):Int)),(20,.flt false R),(22,.int .i64 ((Q:Nat):Int)),(118,.int .i64 ((a:Nat):Int)),(119,.int .i64 ((c:Nat):Int))],[(0,.vs [.int .i64 f,.sl 1 1 1 0 g h,.sl 2 1 1 0 i j,.int .i64 k,.int .i64 l,.sl 3 1 1 0 m n,.flt false b,.sl 4 1 1 0 o p,.sl 5 1 1 0 q r]),(1,.fl s),(2,.fl t),(3,.fl u),(4,.ns .i64 v),(5,.ns .i64 w),(6,.vs [.ptr 0 1 0 0]),(7,.fl x),(8,.vs [.int .i64 y,.int .i64 z,.sl 12 1 1 0 A B]),(9,.vs [.sl 13 1 1 0 D E,.sl 14 1 1 0 F G,.flt false b]),(10,.vs [.sl 15 2 2 0 K L]),(11,.fl P),(12,.fl C),(13,.fl H),(14,.fl I),(15,.cols M [.ci .i64 N,.cf O])],16⟩
def tC(i:Nat)(j:Nat)(c:Nat)(e:Nat)(b:List Nat)(f:List Nat)(l:Nat)(g:List Int)(h:List Nat)(d:Nat)(k:Nat)(a:Nat) :T ((Nat)⊕((Nat)⊕(((List Nat))⊕(((List Nat))⊕(ab))))) :=
  .need (fI .i64 (((i:Nat):Int)-(1:Int)))<|.ask (decide (((a:Nat):Int)<(((i:Nat):Int)-(1:Int))))
    (.need (gg ((a:Nat):Int) l)<|.need (fo a (List.length g))<|.need (fo a (List.length h))<|.need (di 0 c b)<|.need (di 0 e f)<|.need (lA (gi (ay 0 c b) (ay 0 e f) j ((d:Nat):Int) (List.getD g a 0) (List.getD h a 0)))<|.need (gg ((d:Nat):Int) c)<|.need (fo d (List.length b))<|.need (fI .i64 (((a+1):Nat):Int))<|.need (gg (((a+1):Nat):Int) c)<|.need (fo (a+1) (List.length b))<|.leaf (.inl (cY k (fdiv (lp (gi (ay 0 c b) (ay 0 e f) j ((d:Nat):Int) (List.getD g a 0) (List.getD h a 0))) (oN (List.getD b d 0) (List.getD b (a+1) 0))))))
    (.leaf (.inr (.inl k)))
def tD(a:Nat)(b:Nat) :T ((Nat×Nat)⊕((Nat)⊕(((List Nat))⊕(((List Nat))⊕(ab))))) :=
  .need (fI .i64 (((a+1):Nat):Int))<|.leaf (.inl (b,(a+1)))
def iH(b:Nat)(c:Nat)(d:Nat)(e:Nat)(f:List Nat)(g:List Nat)(h:Nat)(i:List Int)(j:List Nat)(k:Nat) :Nat×Nat→Option ((Nat×Nat)⊕((Nat)⊕(((List Nat))⊕(((List Nat))⊕(ab))))):=fun (l,a) =>
  bd ((tC b c d e f g h i j k l a).run) fun m =>
  (tD a m).run
theorem AZ(S:Int)(T:Nat)(U:Nat)(V:Nat)(W:Nat)(X:Int)(Y:Int)(Z:Nat)(a0:Nat)(a1:Nat)(a:Nat)(a2:Nat)(a3:Nat)(a4:Nat)(a5:List Nat)(a6:List Nat)(a7:List Nat)(a8:List Int)(a9:List Int)(j:Nat)(k:Nat)(l:Int)(m:Nat)(n:Nat)(o:Nat)(p:Nat)(q:Int)(r:Int)(s:Nat)(t:Nat)(b:Nat)(u:Nat)(v:Nat)(w:Nat)(x:Nat)(y:List Nat)(z:List Nat)(A:List Nat)(B:List Int)(C:List Int)(D:List Nat)(E:Int)(F:Int)(G:Nat)(H:Nat)(I:List Nat)(c:Nat)(J:Nat)(d:Nat)(K:Nat)(e:List Nat)(f:List Nat)(L:Nat)(g:Nat)(M:Nat)(N:Nat)(h:List Int)(i:List Nat)(O:Nat)(P:List Nat)(R:Nat)(Q:Nat) :Sg prog [.vs [.int .i64 S,.sl 1 1 1 0 T U,.sl 2 1 1 0 V W,.int .i64 X,.int .i64 Y,.sl 3 1 1 0 Z a0,.flt false a1,.sl 4 1 1 0 a a2,.sl 5 1 1 0 a3 a4],.fl a5,.fl a6,.fl a7,.ns .i64 a8,.ns .i64 a9] AY (kK a j k l m n o p q r s t b u v w x y z A B C D E F G H I c J d K e f L g M N h i O P (R,Q)) (iH a b c d e f g h i O (R,Q)) (kK a j k l m n o p q r s t b u v w x y z A B C D E F G H I c J d K e f L g M N h i O P) (co 8 (uP a j k l m n o p q r s t b u v w x y z A B C D E F G H I c J d K e f L g M N h i O P) (co 5 (kI a j k l m n o p q r s t b u v w x y z A B C D E F G H I c J d K e f L g M N h i O) (co 4 (kH a j k l m n o p q r s t b u v w x y z A B C D E F G H I c J d K e f L g M N h i) cU))):=by
  unfold iH;exact Sg.cut 3 (az (az (az aA))) (cF ac (Cr a j k l m n o p q r s t b u v w x y z A B C D E F G H I c J d K e f L g M N h i O P Q) [⟨[],[0,1,2,3,4,5,6,7,8,9,10,11,12,13,14,15],[1,4,5,6,7,10,11,14,17,18,19,20,22,118,119]⟩,⟨[],[0,1,2,3,4,5,6,7,8,9,10,11,12,13,14,15],[1,4,5,6,7,10,11,14,17,18,19,20,118,119]⟩]) (fun b0=>cF ac (kK a j k l m n o p q r s t b u v w x y z A B C D E F G H I c J d K e f L g M N h i O P) [⟨[],[0,1,2,3,4,5,6,7,8,9,10,11,12,13,14,15],[1,4,5,6,7,10,11,14,17,18,19,20,22,118,119]⟩])
def tE(e:Nat)(f:Nat)(b:List Nat)(a:Nat)(c:List Nat)(d:Nat) :T (((List Nat))⊕(((List Nat))⊕(((List Nat))⊕(ab)))) :=
  .need (gg ((a:Nat):Int) f)<|.need (fo a (List.length b))<|.need (!isNaN (List.getD b a 0)||isNaN (DQ (eE d)))<|.need (gg ((a:Nat):Int) e)<|.need (fo a (List.length c))<|.leaf (.inl (List.set c a (wI (DQ (eE d)) (List.getD b a 0))))
def tF(a:Nat)(b:List Nat) :T ((Nat×(List Nat))⊕(((List Nat))⊕(ab))) :=
  .need (fI .i64 (((a+1):Nat):Int))<|.leaf (.inl ((a+1),b))
def iI(b:Nat)(e:Nat)(f:Nat)(c:Nat)(g:List Nat)(d:List Nat)(h:Nat)(i:List Int)(j:List Nat) :Nat×(List Nat)→Option ((Nat×(List Nat))⊕(((List Nat))⊕(ab))):=fun (a,k) =>
  bd ((tr b a k).run) fun _ =>
  bd (vO (bd ((tu b e f c g d h i j a).run) fun l =>
  bd ((tw).run) fun _ =>
  bd (cu (iG e f c g d h i j a) (l,0)) fun m =>
  bd ((tB).run) fun _ =>
  bd (cu (iH b e f c g d h i j a) (m,a)) fun n =>
  (tE b c d a k n).run)) fun o =>
  (tF a o).run
theorem A0(Q:Int)(R:Nat)(S:Nat)(T:Nat)(U:Nat)(V:Int)(W:Int)(X:Nat)(Y:Nat)(Z:Nat)(a:Nat)(a0:Nat)(a1:Nat)(a2:Nat)(a3:List Nat)(a4:List Nat)(a5:List Nat)(a6:List Int)(a7:List Int)(j:Nat)(k:Nat)(l:Int)(m:Nat)(n:Nat)(o:Nat)(p:Nat)(q:Int)(r:Int)(s:Nat)(t:Nat)(b:Nat)(u:Nat)(v:Nat)(w:Nat)(x:Nat)(y:List Nat)(z:List Nat)(A:List Nat)(B:List Int)(C:List Int)(D:List Nat)(E:Int)(F:Int)(G:Nat)(H:Nat)(I:List Nat)(c:Nat)(J:Nat)(d:Nat)(K:Nat)(e:List Nat)(f:List Nat)(L:Nat)(g:Nat)(M:Nat)(N:Nat)(h:List Int)(i:List Nat)(O:Nat)(P:List Nat) :Sg prog [.vs [.int .i64 Q,.sl 1 1 1 0 R S,.sl 2 1 1 0 T U,.int .i64 V,.int .i64 W,.sl 3 1 1 0 X Y,.flt false Z,.sl 4 1 1 0 a a0,.sl 5 1 1 0 a1 a2],.fl a3,.fl a4,.fl a5,.ns .i64 a6,.ns .i64 a7] tq (kG a j k l m n o p q r s t b u v w x y z A B C D E F G H I c J d K e f L g M N h i (O,P)) (iI a b c d e f g h i (O,P)) (kG a j k l m n o p q r s t b u v w x y z A B C D E F G H I c J d K e f L g M N h i) (co 4 (kH a j k l m n o p q r s t b u v w x y z A B C D E F G H I c J d K e f L g M N h i) cU):=by
  unfold iI;exact Sg.cut 2 (az aA) (cF ac (Cm a j k l m n o p q r s t b u v w x y z A B C D E F G H I c J d K e f L g M N h i O P) [⟨[],[0,1,2,3,4,5,6,7,8,9,10,11,12,13,14,15],[1,4,5,6,7,10,11,14,17,18,118,119]⟩,⟨[],[0,1,2,3,4,5,6,7,8,9,10,11,12,13,14,15],[1,4,5,6,7,10,11,14,17,18]⟩]) (fun _=>Sg.cut 1 (az aA) (UR (kI a j k l m n o p q r s t b u v w x y z A B C D E F G H I c J d K e f L g M N h i O) 5 (az aA) (cW (by decide) (db _)) (Sg.cut 2 (az (az aA)) (cF ac (Cn a j k l m n o p q r s t b u v w x y z A B C D E F G H I c J d K e f L g M N h i O P) [⟨[],[0,1,2,3,4,5,6,7,8,9,10,11,12,13,14,15],[1,4,5,6,7,10,11,14,17,18,19,20,118,119]⟩]) (fun a8=>Sg.cut 1 (az (az aA)) (cF ac (Co a j k l m n o p q r s t b u v w x y z A B C D E F G H I c J d K e f L g M N h i O P a8) [⟨[],[0,1,2,3,4,5,6,7,8,9,10,11,12,13,14,15],[1,4,5,6,7,10,11,14,17,18,19,20,118,119,128,129]⟩]) (fun _=>Sg.cut 1 (az (az aA)) (yE ⟨[],[0,1,2,3,4,5,6,7,8,9,10,11,12,13,14,15],[1,4,5,6,7,10,11,14,17,18,19,20,118,119,128,129]⟩ (kJ a j k l m n o p q r s t b u v w x y z A B C D E F G H I c J d K e f L g M N h i O P) (uO a j k l m n o p q r s t b u v w x y z A B C D E F G H I c J d K e f L g M N h i O P) 6 (az (az aA)) (cW (by decide) (cW (by decide) (db _))) (fun ⟨a9,b0⟩=>AX Q R S T U V W X Y Z a a0 a1 a2 a3 a4 a5 a6 a7 j k l m n o p q r s t b u v w x y z A B C D E F G H I c J d K e f L g M N h i O P a9 b0)) (fun b1=>Sg.cut 1 (az (az aA)) (cF ac (Cq a j k l m n o p q r s t b u v w x y z A B C D E F G H I c J d K e f L g M N h i O P b1) [⟨[],[0,1,2,3,4,5,6,7,8,9,10,11,12,13,14,15],[1,4,5,6,7,10,11,14,17,18,19,20,22,118,119]⟩]) (fun _=>Sg.cut 1 (az (az aA)) (yE ⟨[],[0,1,2,3,4,5,6,7,8,9,10,11,12,13,14,15],[1,4,5,6,7,10,11,14,17,18,19,20,22,118,119]⟩ (kK a j k l m n o p q r s t b u v w x y z A B C D E F G H I c J d K e f L g M N h i O P) (uP a j k l m n o p q r s t b u v w x y z A B C D E F G H I c J d K e f L g M N h i O P) 8 (az (az aA)) (cW (by decide) (cW (by decide) (db _))) (fun ⟨b2,b3⟩=>AZ Q R S T U V W X Y Z a a0 a1 a2 a3 a4 a5 a6 a7 j k l m n o p q r s t b u v w x y z A B C D E F G H I c J d K e f L g M N h i O P b2 b3)) (fun b4=>cF ac (kI a j k l m n o p q r s t b u v w x y z A B C D E F G H I c J d K e f L g M N h i O) [⟨[],[0,1,2,3,4,5,6,7,8,9,10,11,12,13,14,15],[1,4,5,6,7,10,11,14,17,18,118,119]⟩]))))))) (fun b5=>cF ac (kG a j k l m n o p q r s t b u v w x y z A B C D E F G H I c J d K e f L g M N h i) [⟨[],[0,1,2,3,4,5,6,7,8,9,10,11,12,13,14,15],[1,4,5,6,7,10,11,14,17,18,118,119]⟩]))
def Cs(a:Nat)(e:Nat)(f:Nat)(g:Int)(h:Nat)(i:Nat)(j:Nat)(k:Nat)(l:Int)(m:Int)(n:Nat)(o:Nat)(c:Nat)(p:Nat)(q:Nat)(r:Nat)(s:Nat)(t:List Nat)(u:List Nat)(v:List Nat)(w:List Int)(x:List Int)(y:List Nat)(z:Int)(A:Int)(B:Nat)(C:Nat)(D:List Nat)(E:Nat)(F:Nat)(G:Nat)(H:Nat)(I:List Nat)(J:List Nat)(K:Nat)(b:Nat)(d:Nat)(L:Nat)(M:List Int)(N:List Nat)(O:List Nat)(_:Unit) :aW:=⟨ax 263 [(1,.ptr 6 1 0 0),(4,.int .i64 ((a:Nat):Int)),(5,.sl 7 1 1 0 e f),(6,.ptr 8 1 0 0),(7,.fn (.func ap) [] [.ptr 6 1 0 0,.ptr 8 1 0 0]),(10,.int .i64 ((K:Nat):Int)),(11,.ptr 9 1 0 0),(17,.fn (.func aN) [] [.ptr 9 1 0 0,.ptr 10 1 0 0]),(18,.sl 11 1 1 0 a a),(190,.sl 12 2 2 0 b d),(191,.int .i64 ((b:Nat):Int)),(192,.int .i64 (0:Int))],[(0,.vs [.int .i64 g,.sl 1 1 1 0 h i,.sl 2 1 1 0 j k,.int .i64 l,.int .i64 m,.sl 3 1 1 0 n o,.flt false c,.sl 4 1 1 0 p q,.sl 5 1 1 0 r s]),(1,.fl t),(2,.fl u),(3,.fl v),(4,.ns .i64 w),(5,.ns .i64 x),(6,.vs [.ptr 0 1 0 0]),(7,.fl y),(8,.vs [.int .i64 z,.int .i64 A,.sl 13 1 1 0 B C]),(9,.vs [.sl 14 1 1 0 E F,.sl 15 1 1 0 G H,.flt false c]),(10,.vs [.sl 12 2 2 0 b d]),(11,.fl O),(12,.cols L [.ci .i64 M,.cf N]),(13,.fl D),(14,.fl I),(15,.fl J)],16⟩
def tG:T ((Unit)⊕(ab)) :=
  .leaf (.inl ())
def kL(a:Nat)(d:Nat)(e:Nat)(f:Nat)(g:Nat)(h:Nat)(i:List Nat)(j:List Nat)(k:Nat)(b:Nat)(c:Nat)(l:Nat)(m:List Int)(n:List Nat)(o:List Nat) :Nat×Nat×Nat×Int×Nat×Nat×Nat×Nat×Int×Int×Nat×Nat×Nat×Nat×Nat×Nat×Nat×(List Nat)×(List Nat)×(List Nat)×(List Int)×(List Int)×(List Nat)×Int×Int×Nat×Nat×(List Nat)→aW:=fun (p,q,r,s,t,u,v,w,x,y,z,A,B,C,D,E,F,G,H,I,J,K,L,M,N,O,P,Q)=>⟨ax 263 [(1,.ptr 6 1 0 0),(4,.int .i64 ((a:Nat):Int)),(5,.sl 7 1 1 0 p q),(6,.ptr 8 1 0 0),(7,.fn (.func ap) [] [.ptr 6 1 0 0,.ptr 8 1 0 0]),(10,.int .i64 ((k:Nat):Int)),(11,.ptr 9 1 0 0),(17,.fn (.func aN) [] [.ptr 9 1 0 0,.ptr 10 1 0 0]),(18,.sl 11 1 1 0 a a),(190,.sl 12 2 2 0 b c),(191,.int .i64 ((b:Nat):Int)),(192,.int .i64 ((r:Nat):Int))],[(0,.vs [.int .i64 s,.sl 1 1 1 0 t u,.sl 2 1 1 0 v w,.int .i64 x,.int .i64 y,.sl 3 1 1 0 z A,.flt false B,.sl 4 1 1 0 C D,.sl 5 1 1 0 E F]),(1,.fl G),(2,.fl H),(3,.fl I),(4,.ns .i64 J),(5,.ns .i64 K),(6,.vs [.ptr 0 1 0 0]),(7,.fl L),(8,.vs [.int .i64 M,.int .i64 N,.sl 13 1 1 0 O P]),(9,.vs [.sl 14 1 1 0 e f,.sl 15 1 1 0 g h,.flt false d]),(10,.vs [.sl 12 2 2 0 b c]),(11,.fl o),(12,.cols l [.ci .i64 m,.cf n]),(13,.fl Q),(14,.fl i),(15,.fl j)],16⟩
def kM(a:Nat) :Nat×Nat×Int×Nat×Nat×Nat×Nat×Int×Int×Nat×Nat×Nat×Nat×Nat×Nat×Nat×(List Nat)×(List Nat)×(List Nat)×(List Int)×(List Int)×(List Nat)×Int×Int×Nat×Nat×(List Nat)→aW:=fun (b,c,d,e,f,g,h,i,j,k,l,m,n,o,p,q,r,s,t,u,v,w,x,y,z,A,B)=>⟨ax 263 [(1,.ptr 6 1 0 0),(5,.sl 7 1 1 0 b c),(6,.ptr 8 1 0 0),(10,.int .i64 ((a:Nat):Int))],[(0,.vs [.int .i64 d,.sl 1 1 1 0 e f,.sl 2 1 1 0 g h,.int .i64 i,.int .i64 j,.sl 3 1 1 0 k l,.flt false m,.sl 4 1 1 0 n o,.sl 5 1 1 0 p q]),(1,.fl r),(2,.fl s),(3,.fl t),(4,.ns .i64 u),(5,.ns .i64 v),(6,.vs [.ptr 0 1 0 0]),(7,.fl w),(8,.vs [.int .i64 x,.int .i64 y,.sl 9 1 1 0 z A]),(9,.fl B)],10⟩
def tH:List Code:=cV (dm (((((((((pb.drop 2).drop 1).drop 1).drop 6).drop 1).drop 1).take 1)).headD .skip))
def Ct(a:Nat)(d:Nat)(e:Nat)(f:Nat)(g:Nat)(h:Nat)(i:List Nat)(j:List Nat)(k:Nat)(b:Nat)(c:Nat)(l:Nat)(m:List Int)(n:List Nat)(o:List Nat)(p:Nat)(q:Nat)(r:Nat)(s:Int)(t:Nat)(u:Nat)(v:Nat)(w:Nat)(x:Int)(y:Int)(z:Nat)(A:Nat)(B:Nat)(C:Nat)(D:Nat)(E:Nat)(F:Nat)(G:List Nat)(H:List Nat)(I:List Nat)(J:List Int)(K:List Int)(L:List Nat)(M:Int)(N:Int)(O:Nat)(P:Nat)(Q:List Nat)(_:Unit) :aW:=⟨ax 263 [(1,.ptr 6 1 0 0),(4,.int .i64 ((a:Nat):Int)),(5,.sl 7 1 1 0 p q),(6,.ptr 8 1 0 0),(7,.fn (.func ap) [] [.ptr 6 1 0 0,.ptr 8 1 0 0]),(10,.int .i64 ((k:Nat):Int)),(11,.ptr 9 1 0 0),(17,.fn (.func aN) [] [.ptr 9 1 0 0,.ptr 10 1 0 0]),(18,.sl 11 1 1 0 a a),(190,.sl 12 2 2 0 b c),(191,.int .i64 ((b:Nat):Int)),(192,.int .i64 ((r:Nat):Int))],[(0,.vs [.int .i64 s,.sl 1 1 1 0 t u,.sl 2 1 1 0 v w,.int .i64 x,.int .i64 y,.sl 3 1 1 0 z A,.flt false B,.sl 4 1 1 0 C D,.sl 5 1 1 0 E F]),(1,.fl G),(2,.fl H),(3,.fl I),(4,.ns .i64 J),(5,.ns .i64 K),(6,.vs [.ptr 0 1 0 0]),(7,.fl L),(8,.vs [.int .i64 M,.int .i64 N,.sl 13 1 1 0 O P]),(9,.vs [.sl 14 1 1 0 e f,.sl 15 1 1 0 g h,.flt false d]),(10,.vs [.sl 12 2 2 0 b c]),(11,.fl o),(12,.cols l [.ci .i64 m,.cf n]),(13,.fl Q),(14,.fl i),(15,.fl j)],16⟩
def tI(a:Nat)(b:Nat)(c:Nat)(d:Nat)(e:Int)(f:Nat)(g:Nat)(h:Nat)(i:Nat)(j:Int)(k:Int)(l:Nat)(m:Nat)(n:Nat)(o:Nat)(p:Nat)(q:Nat)(r:Nat)(s:List Nat)(t:List Nat)(u:List Nat)(v:List Int)(w:List Int)(x:List Nat)(y:Int)(z:Int)(A:Nat)(B:Nat)(C:List Nat) :T ((Unit)⊕((Nat×Nat×Int×Nat×Nat×Nat×Nat×Int×Int×Nat×Nat×Nat×Nat×Nat×Nat×Nat×(List Nat)×(List Nat)×(List Nat)×(List Int)×(List Int)×(List Nat)×Int×Int×Nat×Nat×(List Nat))⊕(ab))) :=
  .ask (decide (((d:Nat):Int)<((a:Nat):Int)))
    (.leaf (.inl ()))
    (.leaf (.inr (.inl (b,c,e,f,g,h,i,j,k,l,m,n,o,p,q,r,s,t,u,v,w,x,y,z,A,B,C))))
def kN(a:Nat)(e:Nat)(f:Nat)(g:Nat)(h:Nat)(i:Nat)(j:List Nat)(k:List Nat)(l:Nat)(b:Nat)(c:Nat)(m:Nat)(n:List Int)(o:List Nat)(p:List Nat)(q:Nat) :Nat×Int×Nat×Nat×Nat×Nat×Int×Int×Nat×Nat×Nat×Nat×Nat×Nat×Nat×(List Nat)×(List Nat)×(List Nat)×(List Int)×(List Int)×(List Nat)×Int×Int×Nat×Nat×(List Nat)→aW:=fun (d,r,s,t,u,v,w,x,y,z,A,B,C,D,E,F,G,H,I,J,K,L,M,N,O,P)=>⟨ax 263 [(1,.ptr 6 1 0 0),(4,.int .i64 ((a:Nat):Int)),(5,.sl 7 1 1 0 d d),(6,.ptr 8 1 0 0),(7,.fn (.func ap) [] [.ptr 6 1 0 0,.ptr 8 1 0 0]),(10,.int .i64 ((l:Nat):Int)),(11,.ptr 9 1 0 0),(17,.fn (.func aN) [] [.ptr 9 1 0 0,.ptr 10 1 0 0]),(18,.sl 11 1 1 0 a a),(190,.sl 12 2 2 0 b c),(191,.int .i64 ((b:Nat):Int)),(192,.int .i64 ((q:Nat):Int))],[(0,.vs [.int .i64 r,.sl 1 1 1 0 s t,.sl 2 1 1 0 u v,.int .i64 w,.int .i64 x,.sl 3 1 1 0 y z,.flt false A,.sl 4 1 1 0 B C,.sl 5 1 1 0 D E]),(1,.fl F),(2,.fl G),(3,.fl H),(4,.ns .i64 I),(5,.ns .i64 J),(6,.vs [.ptr 0 1 0 0]),(7,.fl K),(8,.vs [.int .i64 L,.int .i64 M,.sl 13 1 1 0 N O]),(9,.vs [.sl 14 1 1 0 f g,.sl 15 1 1 0 h i,.flt false e]),(10,.vs [.sl 12 2 2 0 b c]),(11,.fl p),(12,.cols m [.ci .i64 n,.cf o]),(13,.fl P),(14,.fl j),(15,.fl k)],16⟩
def tJ:List Code:=cV (inBlock ((((tH.drop 2).take 1)).headD .skip))
def Cu(a:Nat)(e:Nat)(f:Nat)(g:Nat)(h:Nat)(i:Nat)(j:List Nat)(k:List Nat)(l:Nat)(b:Nat)(c:Nat)(m:Nat)(n:List Int)(o:List Nat)(p:List Nat)(q:Nat)(r:Nat)(d:Nat)(s:Int)(t:Nat)(u:Nat)(v:Nat)(w:Nat)(x:Int)(y:Int)(z:Nat)(A:Nat)(B:Nat)(C:Nat)(D:Nat)(E:Nat)(F:Nat)(G:List Nat)(H:List Nat)(I:List Nat)(J:List Int)(K:List Int)(L:List Nat)(M:Int)(N:Int)(O:Nat)(P:Nat)(Q:List Nat) :Int×Nat×(List Nat)→aW:=fun (R,S,T)=>⟨ax 263 [(1,.ptr 6 1 0 0),(4,.int .i64 ((a:Nat):Int)),(5,.sl 7 1 1 0 q r),(6,.ptr 8 1 0 0),(7,.fn (.func ap) [] [.ptr 6 1 0 0,.ptr 8 1 0 0]),(10,.int .i64 ((l:Nat):Int)),(11,.ptr 9 1 0 0),(17,.fn (.func aN) [] [.ptr 9 1 0 0,.ptr 10 1 0 0]),(18,.sl 11 1 1 0 a a),(23,.int .i64 ((d:Nat):Int)),(24,.ptr 12 1 0 0),(25,.ptr 13 1 0 0),(190,.sl 14 2 2 0 b c),(191,.int .i64 ((b:Nat):Int)),(192,.int .i64 ((d:Nat):Int)),(199,.int .i64 ((a:Nat):Int)),(200,.int .i64 (0:Int))],[(0,.vs [.int .i64 s,.sl 1 1 1 0 t u,.sl 2 1 1 0 v w,.int .i64 x,.int .i64 y,.sl 3 1 1 0 z A,.flt false B,.sl 4 1 1 0 C D,.sl 5 1 1 0 E F]),(1,.fl G),(2,.fl H),(3,.fl I),(4,.ns .i64 J),(5,.ns .i64 K),(6,.vs [.ptr 0 1 0 0]),(7,.fl L),(8,.vs [.int .i64 M,.int .i64 N,.sl 15 1 1 0 O P]),(9,.vs [.sl 16 1 1 0 f g,.sl 17 1 1 0 h i,.flt false e]),(10,.vs [.sl 14 2 2 0 b c]),(11,.fl p),(12,.vs [.int .i64 R,.flt false S]),(13,.vs [.sl 18 1 1 0 a a]),(14,.cols m [.ci .i64 n,.cf o]),(15,.fl Q),(16,.fl j),(17,.fl k),(18,.fl T)],19⟩
def tK(a:Nat)(e:Nat)(c:List Int)(d:List Nat)(b:Nat) :T ((Int×Nat×(List Nat))⊕((Nat×Int×Nat×Nat×Nat×Nat×Int×Int×Nat×Nat×Nat×Nat×Nat×Nat×Nat×(List Nat)×(List Nat)×(List Nat)×(List Int)×(List Int)×(List Nat)×Int×Int×Nat×Nat×(List Nat))⊕((Nat×Nat×Int×Nat×Nat×Nat×Nat×Int×Int×Nat×Nat×Nat×Nat×Nat×Nat×Nat×(List Nat)×(List Nat)×(List Nat)×(List Int)×(List Int)×(List Nat)×Int×Int×Nat×Nat×(List Nat))⊕(ab)))) :=
  .need (gg ((b:Nat):Int) e)<|.need (fo b (List.length c))<|.need (fo b (List.length d))<|.need (decide ((0:Int)≤((a:Nat):Int)))<|.need (decide (((a:Nat):Int)≤((a:Nat):Int)))<|.need (decide ((8:Int)*((a:Nat):Int)≤140737488355328))<|.need (fI .i64 ((a:Nat):Int))<|.leaf (.inl ((List.getD c b 0),(List.getD d b 0),(List.replicate a 0)))
def kO(a:Nat)(e:Nat)(f:Nat)(g:Nat)(h:Nat)(i:Nat)(j:List Nat)(k:List Nat)(l:Nat)(b:Nat)(c:Nat)(m:Nat)(n:List Int)(o:List Nat)(p:List Nat)(q:Nat)(r:Nat)(d:Nat)(s:Int)(t:Nat)(u:Nat)(v:Nat)(w:Nat)(x:Int)(y:Int)(z:Nat)(A:Nat)(B:Nat)(C:Nat)(D:Nat)(E:Nat)(F:Nat)(G:List Nat)(H:List Nat)(I:List Nat)(J:List Int)(K:List Int)(L:List Nat)(M:Int)(N:Int)(O:Nat)(P:Nat)(Q:List Nat)(R:Int)(S:Nat) :Nat×(List Nat)→aW:=fun (T,U)=>⟨ax 263 [(1,.ptr 6 1 0 0),(4,.int .i64 ((a:Nat):Int)),(5,.sl 7 1 1 0 q r),(6,.ptr 8 1 0 0),(7,.fn (.func ap) [] [.ptr 6 1 0 0,.ptr 8 1 0 0]),(10,.int .i64 ((l:Nat):Int)),(11,.ptr 9 1 0 0),(17,.fn (.func aN) [] [.ptr 9 1 0 0,.ptr 10 1 0 0]),(18,.sl 11 1 1 0 a a),(23,.int .i64 ((d:Nat):Int)),(24,.ptr 12 1 0 0),(25,.ptr 13 1 0 0),(190,.sl 14 2 2 0 b c),(191,.int .i64 ((b:Nat):Int)),(192,.int .i64 ((d:Nat):Int)),(199,.int .i64 ((a:Nat):Int)),(200,.int .i64 ((T:Nat):Int))],[(0,.vs [.int .i64 s,.sl 1 1 1 0 t u,.sl 2 1 1 0 v w,.int .i64 x,.int .i64 y,.sl 3 1 1 0 z A,.flt false B,.sl 4 1 1 0 C D,.sl 5 1 1 0 E F]),(1,.fl G),(2,.fl H),(3,.fl I),(4,.ns .i64 J),(5,.ns .i64 K),(6,.vs [.ptr 0 1 0 0]),(7,.fl L),(8,.vs [.int .i64 M,.int .i64 N,.sl 15 1 1 0 O P]),(9,.vs [.sl 16 1 1 0 f g,.sl 17 1 1 0 h i,.flt false e]),(10,.vs [.sl 14 2 2 0 b c]),(11,.fl p),(12,.vs [.int .i64 R,.flt false S]),(13,.vs [.sl 18 1 1 0 a a]),(14,.cols m [.ci .i64 n,.cf o]),(15,.fl Q),(16,.fl j),(17,.fl k),(18,.fl U)],19⟩
def uQ(a:Nat)(e:Nat)(f:Nat)(g:Nat)(h:Nat)(i:Nat)(j:List Nat)(k:List Nat)(l:Nat)(b:Nat)(c:Nat)(m:Nat)(n:List Int)(o:List Nat)(p:List Nat)(q:Nat)(r:Nat)(d:Nat)(s:Int)(t:Nat)(u:Nat)(v:Nat)(w:Nat)(x:Int)(y:Int)(z:Nat)(A:Nat)(B:Nat)(C:Nat)(D:Nat)(E:Nat)(F:Nat)(G:List Nat)(H:List Nat)(I:List Nat)(J:List Int)(K:List Int)(L:List Nat)(M:Int)(N:Int)(O:Nat)(P:Nat)(Q:List Nat)(R:Int)(S:Nat)(T:(List Nat)) :aW:=⟨ax 263 [(1,.ptr 6 1 0 0),(4,.int .i64 ((a:Nat):Int)),(5,.sl 7 1 1 0 q r),(6,.ptr 8 1 0 0),(7,.fn (.func ap) [] [.ptr 6 1 0 0,.ptr 8 1 0 0]),(10,.int .i64 ((l:Nat):Int)),(11,.ptr 9 1 0 0),(17,.fn (.func aN) [] [.ptr 9 1 0 0,.ptr 10 1 0 0]),(18,.sl 11 1 1 0 a a),(23,.int .i64 ((d:Nat):Int)),(24,.ptr 12 1 0 0),(25,.ptr 13 1 0 0),(190,.sl 14 2 2 0 b c),(191,.int .i64 ((b:Nat):Int)),(192,.int .i64 ((d:Nat):Int))],[(0,.vs [.int .i64 s,.sl 1 1 1 0 t u,.sl 2 1 1 0 v w,.int .i64 x,.int .i64 y,.sl 3 1 1 0 z A,.flt false B,.sl 4 1 1 0 C D,.sl 5 1 1 0 E F]),(1,.fl G),(2,.fl H),(3,.fl I),(4,.ns .i64 J),(5,.ns .i64 K),(6,.vs [.ptr 0 1 0 0]),(7,.fl L),(8,.vs [.int .i64 M,.int .i64 N,.sl 15 1 1 0 O P]),(9,.vs [.sl 16 1 1 0 f g,.sl 17 1 1 0 h i,.flt false e]),(10,.vs [.sl 14 2 2 0 b c]),(11,.fl p),(12,.vs [.int .i64 R,.flt false S]),(13,.vs [.sl 18 1 1 0 a a]),(14,.cols m [.ci .i64 n,.cf o]),(15,.fl Q),(16,.fl j),(17,.fl k),(18,.fl T)],19⟩
def A1:List Code:=cV (dm ((((tJ.drop 3).take 1)).headD .skip))
def Cv(a:Nat)(e:Nat)(f:Nat)(g:Nat)(h:Nat)(i:Nat)(j:List Nat)(k:List Nat)(l:Nat)(b:Nat)(c:Nat)(m:Nat)(n:List Int)(o:List Nat)(p:List Nat)(q:Nat)(r:Nat)(d:Nat)(s:Int)(t:Nat)(u:Nat)(v:Nat)(w:Nat)(x:Int)(y:Int)(z:Nat)(A:Nat)(B:Nat)(C:Nat)(D:Nat)(E:Nat)(F:Nat)(G:List Nat)(H:List Nat)(I:List Nat)(J:List Int)(K:List Int)(L:List Nat)(M:Int)(N:Int)(O:Nat)(P:Nat)(Q:List Nat)(R:Int)(S:Nat)(T:Nat)(U:(List Nat)) :aW:=⟨ax 263 [(1,.ptr 6 1 0 0),(4,.int .i64 ((a:Nat):Int)),(5,.sl 7 1 1 0 q r),(6,.ptr 8 1 0 0),(7,.fn (.func ap) [] [.ptr 6 1 0 0,.ptr 8 1 0 0]),(10,.int .i64 ((l:Nat):Int)),(11,.ptr 9 1 0 0),(17,.fn (.func aN) [] [.ptr 9 1 0 0,.ptr 10 1 0 0]),(18,.sl 11 1 1 0 a a),(23,.int .i64 ((d:Nat):Int)),(24,.ptr 12 1 0 0),(25,.ptr 13 1 0 0),(190,.sl 14 2 2 0 b c),(191,.int .i64 ((b:Nat):Int)),(192,.int .i64 ((d:Nat):Int)),(199,.int .i64 ((a:Nat):Int)),(200,.int .i64 ((T:Nat):Int))],[(0,.vs [.int .i64 s,.sl 1 1 1 0 t u,.sl 2 1 1 0 v w,.int .i64 x,.int .i64 y,.sl 3 1 1 0 z A,.flt false B,.sl 4 1 1 0 C D,.sl 5 1 1 0 E F]),(1,.fl G),(2,.fl H),(3,.fl I),(4,.ns .i64 J),(5,.ns .i64 K),(6,.vs [.ptr 0 1 0 0]),(7,.fl L),(8,.vs [.int .i64 M,.int .i64 N,.sl 15 1 1 0 O P]),(9,.vs [.sl 16 1 1 0 f g,.sl 17 1 1 0 h i,.flt false e]),(10,.vs [.sl 14 2 2 0 b c]),(11,.fl p),(12,.vs [.int .i64 R,.flt false S]),(13,.vs [.sl 18 1 1 0 a a]),(14,.cols m [.ci .i64 n,.cf o]),(15,.fl Q),(16,.fl j),(17,.fl k),(18,.fl U)],19⟩
def tL(c:Nat)(k:Nat)(d:Nat)(e:Nat)(f:List Nat)(g:List Nat)(m:Nat)(h:List Int)(i:List Nat)(l:List Nat)(b:Nat)(a:Nat)(j:List Nat) :T (((List Nat))⊕(((List Nat))⊕((Nat×Int×Nat×Nat×Nat×Nat×Int×Int×Nat×Nat×Nat×Nat×Nat×Nat×Nat×(List Nat)×(List Nat)×(List Nat)×(List Int)×(List Int)×(List Nat)×Int×Int×Nat×Nat×(List Nat))⊕((Nat×Nat×Int×Nat×Nat×Nat×Nat×Int×Int×Nat×Nat×Nat×Nat×Nat×Nat×Nat×(List Nat)×(List Nat)×(List Nat)×(List Int)×(List Int)×(List Nat)×Int×Int×Nat×Nat×(List Nat))⊕(ab))))) :=
  .ask (decide (((a:Nat):Int)<((c:Nat):Int)))
    (.need (gg ((a:Nat):Int) c)<|.need (fo a (List.length l))<|.need (gg ((b:Nat):Int) m)<|.need (fo b (List.length h))<|.need (fo b (List.length i))<|.need (di 0 d f)<|.need (di 0 e g)<|.need (lA (gi (ay 0 d f) (ay 0 e g) k ((a:Nat):Int) (List.getD h b 0) (List.getD i b 0)))<|.need (gg ((a:Nat):Int) c)<|.need (fo a (List.length j))<|.leaf (.inl (List.set j a (fdiv (List.getD l a 0) (lp (gi (ay 0 d f) (ay 0 e g) k ((a:Nat):Int) (List.getD h b 0) (List.getD i b 0)))))))
    (.leaf (.inr (.inl j)))
def tM(a:Nat)(b:List Nat) :T ((Nat×(List Nat))⊕(((List Nat))⊕((Nat×Int×Nat×Nat×Nat×Nat×Int×Int×Nat×Nat×Nat×Nat×Nat×Nat×Nat×(List Nat)×(List Nat)×(List Nat)×(List Int)×(List Int)×(List Nat)×Int×Int×Nat×Nat×(List Nat))⊕((Nat×Nat×Int×Nat×Nat×Nat×Nat×Int×Int×Nat×Nat×Nat×Nat×Nat×Nat×Nat×(List Nat)×(List Nat)×(List Nat)×(List Int)×(List Int)×(List Nat)×Int×Int×Nat×Nat×(List Nat))⊕(ab))))) :=
  .need (fI .i64 (((a+1):Nat):Int))<|.leaf (.inl ((a+1),b))
def iJ(b:Nat)(c:Nat)(d:Nat)(e:Nat)(f:List Nat)(g:List Nat)(h:Nat)(i:List Int)(j:List Nat)(k:List Nat)(l:Nat) :Nat×(List Nat)→Option ((Nat×(List Nat))⊕(((List Nat))⊕((Nat×Int×Nat×Nat×Nat×Nat×Int×Int×Nat×Nat×Nat×Nat×Nat×Nat×Nat×(List Nat)×(List Nat)×(List Nat)×(List Int)×(List Int)×(List Nat)×Int×Int×Nat×Nat×(List Nat))⊕((Nat×Nat×Int×Nat×Nat×Nat×Nat×Int×Int×Nat×Nat×Nat×Nat×Nat×Nat×Nat×(List Nat)×(List Nat)×(List Nat)×(List Int)×(List Int)×(List Nat)×Int×Int×Nat×Nat×(List Nat))⊕(ab))))):=fun (a,m) =>
  bd ((tL b c d e f g h i j k l a m).run) fun n =>
  (tM a n).run
theorem A2(V:Int)(W:Nat)(X:Nat)(Y:Nat)(Z:Nat)(a0:Int)(a1:Int)(a2:Nat)(a3:Nat)(a4:Nat)(a:Nat)(a5:Nat)(a6:Nat)(a7:Nat)(a8:List Nat)(a9:List Nat)(b0:List Nat)(b1:List Int)(b2:List Int)(b:Nat)(c:Nat)(m:Nat)(d:Nat)(n:Nat)(e:List Nat)(f:List Nat)(g:Nat)(h:Nat)(o:Nat)(p:Nat)(i:List Int)(j:List Nat)(k:List Nat)(q:Nat)(r:Nat)(l:Nat)(s:Int)(t:Nat)(u:Nat)(v:Nat)(w:Nat)(x:Int)(y:Int)(z:Nat)(A:Nat)(B:Nat)(C:Nat)(D:Nat)(E:Nat)(F:Nat)(G:List Nat)(H:List Nat)(I:List Nat)(J:List Int)(K:List Int)(L:List Nat)(M:Int)(N:Int)(O:Nat)(P:Nat)(Q:List Nat)(R:Int)(S:Nat)(T:Nat)(U:List Nat) :Sg prog [.vs [.int .i64 V,.sl 1 1 1 0 W X,.sl 2 1 1 0 Y Z,.int .i64 a0,.int .i64 a1,.sl 3 1 1 0 a2 a3,.flt false a4,.sl 4 1 1 0 a a5,.sl 5 1 1 0 a6 a7],.fl a8,.fl a9,.fl b0,.ns .i64 b1,.ns .i64 b2] A1 (kO a b c m d n e f g h o p i j k q r l s t u v w x y z A B C D E F G H I J K L M N O P Q R S (T,U)) (iJ a b c d e f h i j k l (T,U)) (kO a b c m d n e f g h o p i j k q r l s t u v w x y z A B C D E F G H I J K L M N O P Q R S) (co 12 (uQ a b c m d n e f g h o p i j k q r l s t u v w x y z A B C D E F G H I J K L M N O P Q R S) (co 11 (kN a b c m d n e f g h o p i j k l) (co 10 (kM g) cU))):=by
  unfold iJ;exact Sg.cut 3 (az (az (az aA))) (cF ac (Cv a b c m d n e f g h o p i j k q r l s t u v w x y z A B C D E F G H I J K L M N O P Q R S T) [⟨[],[0,1,2,3,4,5,6,7,8,9,10,11,12,13,14,15,16,17,18],[1,4,5,6,7,10,11,17,18,23,24,25,190,191,192,199,200]⟩,⟨[],[0,1,2,3,4,5,6,7,8,9,10,11,12,13,14,15,16,17,18],[1,4,5,6,7,10,11,17,18,23,24,25,190,191,192]⟩]) (fun b3=>cF ac (kO a b c m d n e f g h o p i j k q r l s t u v w x y z A B C D E F G H I J K L M N O P Q R S) [⟨[],[0,1,2,3,4,5,6,7,8,9,10,11,12,13,14,15,16,17,18],[1,4,5,6,7,10,11,17,18,23,24,25,190,191,192,199,200]⟩])
def Cw(a:Nat)(e:Nat)(f:Nat)(g:Nat)(h:Nat)(i:Nat)(j:List Nat)(k:List Nat)(l:Nat)(b:Nat)(c:Nat)(m:Nat)(n:List Int)(o:List Nat)(p:List Nat)(q:Nat)(r:Nat)(d:Nat)(s:Int)(t:Nat)(u:Nat)(v:Nat)(w:Nat)(x:Int)(y:Int)(z:Nat)(A:Nat)(B:Nat)(C:Nat)(D:Nat)(E:Nat)(F:Nat)(G:List Nat)(H:List Nat)(I:List Nat)(J:List Int)(K:List Int)(L:List Nat)(M:Int)(N:Int)(O:Nat)(P:Nat)(Q:List Nat)(R:Int)(S:Nat)(T:List Nat)(U:Nat) :aW:=⟨ax 263 [(1,.ptr 6 1 0 0),(4,.int .i64 ((a:Nat):Int)),(5,.sl 7 1 1 0 q r),(6,.ptr 8 1 0 0),(7,.fn (.func ap) [] [.ptr 6 1 0 0,.ptr 8 1 0 0]),(10,.int .i64 ((l:Nat):Int)),(11,.ptr 9 1 0 0),(17,.fn (.func aN) [] [.ptr 9 1 0 0,.ptr 10 1 0 0]),(18,.sl 11 1 1 0 a a),(23,.int .i64 ((d:Nat):Int)),(24,.ptr 12 1 0 0),(25,.ptr 13 1 0 0),(27,.flt false U),(190,.sl 14 2 2 0 b c),(191,.int .i64 ((b:Nat):Int)),(192,.int .i64 ((d:Nat):Int))],[(0,.vs [.int .i64 s,.sl 1 1 1 0 t u,.sl 2 1 1 0 v w,.int .i64 x,.int .i64 y,.sl 3 1 1 0 z A,.flt false B,.sl 4 1 1 0 C D,.sl 5 1 1 0 E F]),(1,.fl G),(2,.fl H),(3,.fl I),(4,.ns .i64 J),(5,.ns .i64 K),(6,.vs [.ptr 0 1 0 0]),(7,.fl L),(8,.vs [.int .i64 M,.int .i64 N,.sl 15 1 1 0 O P]),(9,.vs [.sl 16 1 1 0 f g,.sl 17 1 1 0 h i,.flt false e]),(10,.vs [.sl 14 2 2 0 b c]),(11,.fl p),(12,.vs [.int .i64 R,.flt false S]),(13,.vs [.sl 18 1 1 0 a a]),(14,.cols m [.ci .i64 n,.cf o]),(15,.fl Q),(16,.fl j),(17,.fl k),(18,.fl T)],19⟩
def tN(a:Nat)(b:List Nat) :T ((Nat)⊕((Nat×Int×Nat×Nat×Nat×Nat×Int×Int×Nat×Nat×Nat×Nat×Nat×Nat×Nat×(List Nat)×(List Nat)×(List Nat)×(List Int)×(List Int)×(List Nat)×Int×Int×Nat×Nat×(List Nat))⊕((Nat×Nat×Int×Nat×Nat×Nat×Nat×Int×Int×Nat×Nat×Nat×Nat×Nat×Nat×Nat×(List Nat)×(List Nat)×(List Nat)×(List Int)×(List Int)×(List Nat)×Int×Int×Nat×Nat×(List Nat))⊕(ab)))) :=
  .need (di 0 a b)<|.need (uj (pI (ay 0 a b)))<|.leaf (.inl (uX (pI (ay 0 a b))))
def Cx(a:Nat)(e:Nat)(f:Nat)(g:Nat)(h:Nat)(i:Nat)(j:List Nat)(k:List Nat)(l:Nat)(b:Nat)(c:Nat)(m:Nat)(n:List Int)(o:List Nat)(p:List Nat)(q:Nat)(r:Nat)(d:Nat)(s:Int)(t:Nat)(u:Nat)(v:Nat)(w:Nat)(x:Int)(y:Int)(z:Nat)(A:Nat)(B:Nat)(C:Nat)(D:Nat)(E:Nat)(F:Nat)(G:List Nat)(H:List Nat)(I:List Nat)(J:List Int)(K:List Int)(L:List Nat)(M:Int)(N:Int)(O:Nat)(P:Nat)(Q:List Nat)(R:Int)(S:Nat)(T:List Nat)(U:Nat)(_:Unit) :aW:=⟨ax 263 [(1,.ptr 6 1 0 0),(4,.int .i64 ((a:Nat):Int)),(5,.sl 7 1 1 0 q r),(6,.ptr 8 1 0 0),(7,.fn (.func ap) [] [.ptr 6 1 0 0,.ptr 8 1 0 0]),(10,.int .i64 ((l:Nat):Int)),(11,.ptr 9 1 0 0),(17,.fn (.func aN) [] [.ptr 9 1 0 0,.ptr 10 1 0 0]),(18,.sl 11 1 1 0 a a),(23,.int .i64 ((d:Nat):Int)),(24,.ptr 12 1 0 0),(25,.ptr 13 1 0 0),(27,.flt false U),(190,.sl 14 2 2 0 b c),(191,.int .i64 ((b:Nat):Int)),(192,.int .i64 ((d:Nat):Int)),(219,.int .i64 ((a:Nat):Int)),(220,.int .i64 (0:Int))],[(0,.vs [.int .i64 s,.sl 1 1 1 0 t u,.sl 2 1 1 0 v w,.int .i64 x,.int .i64 y,.sl 3 1 1 0 z A,.flt false B,.sl 4 1 1 0 C D,.sl 5 1 1 0 E F]),(1,.fl G),(2,.fl H),(3,.fl I),(4,.ns .i64 J),(5,.ns .i64 K),(6,.vs [.ptr 0 1 0 0]),(7,.fl L),(8,.vs [.int .i64 M,.int .i64 N,.sl 15 1 1 0 O P]),(9,.vs [.sl 16 1 1 0 f g,.sl 17 1 1 0 h i,.flt false e]),(10,.vs [.sl 14 2 2 0 b c]),(11,.fl p),(12,.vs [.int .i64 R,.flt false S]),(13,.vs [.sl 18 1 1 0 a a]),(14,.cols m [.ci .i64 n,.cf o]),(15,.fl Q),(16,.fl j),(17,.fl k),(18,.fl T)],19⟩
def tO:T ((Unit)⊕((Nat×Int×Nat×Nat×Nat×Nat×Int×Int×Nat×Nat×Nat×Nat×Nat×Nat×Nat×(List Nat)×(List Nat)×(List Nat)×(List Int)×(List Int)×(List Nat)×Int×Int×Nat×Nat×(List Nat))⊕((Nat×Nat×Int×Nat×Nat×Nat×Nat×Int×Int×Nat×Nat×Nat×Nat×Nat×Nat×Nat×(List Nat)×(List Nat)×(List Nat)×(List Int)×(List Int)×(List Nat)×Int×Int×Nat×Nat×(List Nat))⊕(ab)))) :=
  .leaf (.inl ())
def kP(a:Nat)(e:Nat)(f:Nat)(g:Nat)(h:Nat)(i:Nat)(j:List Nat)(k:List Nat)(l:Nat)(b:Nat)(c:Nat)(m:Nat)(n:List Int)(o:List Nat)(p:List Nat)(q:Nat)(r:Nat)(d:Nat)(s:Int)(t:Nat)(u:Nat)(v:Nat)(w:Nat)(x:Int)(y:Int)(z:Nat)(A:Nat)(B:Nat)(C:Nat)(D:Nat)(E:Nat)(F:Nat)(G:List Nat)(H:List Nat)(I:List Nat)(J:List Int)(K:List Int)(L:List Nat)(M:Int)(N:Int)(O:Nat)(P:Nat)(Q:List Nat)(R:Int)(S:Nat)(T:Nat) :Nat×(List Nat)→aW:=fun (U,V)=>⟨ax 263 [(1,.ptr 6 1 0 0),(4,.int .i64 ((a:Nat):Int)),(5,.sl 7 1 1 0 q r),(6,.ptr 8 1 0 0),(7,.fn (.func ap) [] [.ptr 6 1 0 0,.ptr 8 1 0 0]),(10,.int .i64 ((l:Nat):Int)),(11,.ptr 9 1 0 0),(17,.fn (.func aN) [] [.ptr 9 1 0 0,.ptr 10 1 0 0]),(18,.sl 11 1 1 0 a a),(23,.int .i64 ((d:Nat):Int)),(24,.ptr 12 1 0 0),(25,.ptr 13 1 0 0),(27,.flt false T),(190,.sl 14 2 2 0 b c),(191,.int .i64 ((b:Nat):Int)),(192,.int .i64 ((d:Nat):Int)),(219,.int .i64 ((a:Nat):Int)),(220,.int .i64 ((U:Nat):Int))],[(0,.vs [.int .i64 s,.sl 1 1 1 0 t u,.sl 2 1 1 0 v w,.int .i64 x,.int .i64 y,.sl 3 1 1 0 z A,.flt false B,.sl 4 1 1 0 C D,.sl 5 1 1 0 E F]),(1,.fl G),(2,.fl H),(3,.fl I),(4,.ns .i64 J),(5,.ns .i64 K),(6,.vs [.ptr 0 1 0 0]),(7,.fl L),(8,.vs [.int .i64 M,.int .i64 N,.sl 15 1 1 0 O P]),(9,.vs [.sl 16 1 1 0 f g,.sl 17 1 1 0 h i,.flt false e]),(10,.vs [.sl 14 2 2 0 b c]),(11,.fl p),(12,.vs [.int .i64 R,.flt false S]),(13,.vs [.sl 18 1 1 0 a a]),(14,.cols m [.ci .i64 n,.cf o]),(15,.fl Q),(16,.fl j),(17,.fl k),(18,.fl V)],19⟩
def uR(a:Nat)(e:Nat)(f:Nat)(g:Nat)(h:Nat)(i:Nat)(j:List Nat)(k:List Nat)(l:Nat)(b:Nat)(c:Nat)(m:Nat)(n:List Int)(o:List Nat)(p:List Nat)(q:Nat)(r:Nat)(d:Nat)(s:Int)(t:Nat)(u:Nat)(v:Nat)(w:Nat)(x:Int)(y:Int)(z:Nat)(A:Nat)(B:Nat)(C:Nat)(D:Nat)(E:Nat)(F:Nat)(G:List Nat)(H:List Nat)(I:List Nat)(J:List Int)(K:List Int)(L:List Nat)(M:Int)(N:Int)(O:Nat)(P:Nat)(Q:List Nat)(R:Int)(S:Nat)(T:(List Nat)) :aW:=⟨ax 263 [(1,.ptr 6 1 0 0),(4,.int .i64 ((a:Nat):Int)),(5,.sl 7 1 1 0 q r),(6,.ptr 8 1 0 0),(7,.fn (.func ap) [] [.ptr 6 1 0 0,.ptr 8 1 0 0]),(10,.int .i64 ((l:Nat):Int)),(11,.ptr 9 1 0 0),(17,.fn (.func aN) [] [.ptr 9 1 0 0,.ptr 10 1 0 0]),(18,.sl 11 1 1 0 a a),(23,.int .i64 ((d:Nat):Int)),(24,.ptr 12 1 0 0),(25,.ptr 13 1 0 0),(190,.sl 14 2 2 0 b c),(191,.int .i64 ((b:Nat):Int)),(192,.int .i64 ((d:Nat):Int))],[(0,.vs [.int .i64 s,.sl 1 1 1 0 t u,.sl 2 1 1 0 v w,.int .i64 x,.int .i64 y,.sl 3 1 1 0 z A,.flt false B,.sl 4 1 1 0 C D,.sl 5 1 1 0 E F]),(1,.fl G),(2,.fl H),(3,.fl I),(4,.ns .i64 J),(5,.ns .i64 K),(6,.vs [.ptr 0 1 0 0]),(7,.fl L),(8,.vs [.int .i64 M,.int .i64 N,.sl 15 1 1 0 O P]),(9,.vs [.sl 16 1 1 0 f g,.sl 17 1 1 0 h i,.flt false e]),(10,.vs [.sl 14 2 2 0 b c]),(11,.fl p),(12,.vs [.int .i64 R,.flt false S]),(13,.vs [.sl 18 1 1 0 a a]),(14,.cols m [.ci .i64 n,.cf o]),(15,.fl Q),(16,.fl j),(17,.fl k),(18,.fl T)],19⟩
def A3:List Code:=cV (dm (((((((tJ.drop 3).drop 1).drop 1).drop 1).take 1)).headD .skip))
def tP(c:Nat)(d:Nat)(a:Nat)(b:List Nat) :T ((Nat×(List Nat))⊕(((List Nat))⊕((Nat×Int×Nat×Nat×Nat×Nat×Int×Int×Nat×Nat×Nat×Nat×Nat×Nat×Nat×(List Nat)×(List Nat)×(List Nat)×(List Int)×(List Int)×(List Nat)×Int×Int×Nat×Nat×(List Nat))⊕((Nat×Nat×Int×Nat×Nat×Nat×Nat×Int×Int×Nat×Nat×Nat×Nat×Nat×Nat×Nat×(List Nat)×(List Nat)×(List Nat)×(List Int)×(List Int)×(List Nat)×Int×Int×Nat×Nat×(List Nat))⊕(ab))))) :=
  .ask (decide (((a:Nat):Int)<((c:Nat):Int)))
    (.need (gg ((a:Nat):Int) c)<|.need (fo a (List.length b))<|.need (gg ((a:Nat):Int) c)<|.need (fo a (List.length b))<|.need (fI .i64 (((a+1):Nat):Int))<|.leaf (.inl ((a+1),(List.set b a (fdiv (List.getD b a 0) d)))))
    (.leaf (.inr (.inl b)))
def iK(a:Nat)(b:Nat) :Nat×(List Nat)→Option ((Nat×(List Nat))⊕(((List Nat))⊕((Nat×Int×Nat×Nat×Nat×Nat×Int×Int×Nat×Nat×Nat×Nat×Nat×Nat×Nat×(List Nat)×(List Nat)×(List Nat)×(List Int)×(List Int)×(List Nat)×Int×Int×Nat×Nat×(List Nat))⊕((Nat×Nat×Int×Nat×Nat×Nat×Nat×Int×Int×Nat×Nat×Nat×Nat×Nat×Nat×Nat×(List Nat)×(List Nat)×(List Nat)×(List Int)×(List Int)×(List Nat)×Int×Int×Nat×Nat×(List Nat))⊕(ab))))):=fun (c,d) =>
  (tP a b c d).run
theorem A4(W:Int)(X:Nat)(Y:Nat)(Z:Nat)(a0:Nat)(a1:Int)(a2:Int)(a3:Nat)(a4:Nat)(a5:Nat)(a:Nat)(a6:Nat)(a7:Nat)(a8:Nat)(a9:List Nat)(b0:List Nat)(b1:List Nat)(b2:List Int)(b3:List Int)(c:Nat)(d:Nat)(e:Nat)(f:Nat)(g:Nat)(h:List Nat)(i:List Nat)(b:Nat)(j:Nat)(k:Nat)(l:Nat)(m:List Int)(n:List Nat)(o:List Nat)(q:Nat)(r:Nat)(p:Nat)(s:Int)(t:Nat)(u:Nat)(v:Nat)(w:Nat)(x:Int)(y:Int)(z:Nat)(A:Nat)(B:Nat)(C:Nat)(D:Nat)(E:Nat)(F:Nat)(G:List Nat)(H:List Nat)(I:List Nat)(J:List Int)(K:List Int)(L:List Nat)(M:Int)(N:Int)(O:Nat)(P:Nat)(Q:List Nat)(R:Int)(S:Nat)(T:Nat)(U:Nat)(V:List Nat) :Sg prog [.vs [.int .i64 W,.sl 1 1 1 0 X Y,.sl 2 1 1 0 Z a0,.int .i64 a1,.int .i64 a2,.sl 3 1 1 0 a3 a4,.flt false a5,.sl 4 1 1 0 a a6,.sl 5 1 1 0 a7 a8],.fl a9,.fl b0,.fl b1,.ns .i64 b2,.ns .i64 b3] A3 (kP a c d e f g h i b j k l m n o q r p s t u v w x y z A B C D E F G H I J K L M N O P Q R S T (U,V)) (iK a T (U,V)) (kP a c d e f g h i b j k l m n o q r p s t u v w x y z A B C D E F G H I J K L M N O P Q R S T) (co 14 (uR a c d e f g h i b j k l m n o q r p s t u v w x y z A B C D E F G H I J K L M N O P Q R S) (co 11 (kN a c d e f g h i b j k l m n o p) (co 10 (kM b) cU))):=by
  unfold iK;exact cF ac (kP a c d e f g h i b j k l m n o q r p s t u v w x y z A B C D E F G H I J K L M N O P Q R S T) [⟨[],[0,1,2,3,4,5,6,7,8,9,10,11,12,13,14,15,16,17,18],[1,4,5,6,7,10,11,17,18,23,24,25,27,190,191,192,219,220]⟩,⟨[],[0,1,2,3,4,5,6,7,8,9,10,11,12,13,14,15,16,17,18],[1,4,5,6,7,10,11,17,18,23,24,25,190,191,192]⟩]
def tQ(b:Nat)(G:Nat)(D:List Nat)(B:Nat)(c:Nat)(d:Int)(e:Nat)(f:Nat)(g:Nat)(h:Nat)(i:Int)(j:Int)(k:Nat)(l:Nat)(m:Nat)(n:Nat)(o:Nat)(a:Nat)(p:Nat)(q:List Nat)(r:List Nat)(s:List Nat)(t:List Int)(u:List Int)(E:List Nat)(v:Int)(w:Int)(x:Nat)(y:Nat)(z:List Nat)(C:Int)(F:Nat)(A:List Nat) :T ((Nat×Int×Nat×Nat×Nat×Nat×Int×Int×Nat×Nat×Nat×Nat×Nat×Nat×Nat×(List Nat)×(List Nat)×(List Nat)×(List Int)×(List Int)×(List Nat)×Int×Int×Nat×Nat×(List Nat))⊕((Nat×Int×Nat×Nat×Nat×Nat×Int×Int×Nat×Nat×Nat×Nat×Nat×Nat×Nat×(List Nat)×(List Nat)×(List Nat)×(List Int)×(List Int)×(List Nat)×Int×Int×Nat×Nat×(List Nat))⊕((Nat×Nat×Int×Nat×Nat×Nat×Nat×Int×Int×Nat×Nat×Nat×Nat×Nat×Nat×Nat×(List Nat)×(List Nat)×(List Nat)×(List Int)×(List Int)×(List Nat)×Int×Int×Nat×Nat×(List Nat))⊕(ab)))) :=
  .need (gg C G)<|.need (fo (Int.toNat C) (List.length D))<|.need (pS ((B+1)*8) 140737488355328)<|.need (pS (B+1) 9223372036854775807)<|.need (pS 1 (List.length [(vC (List.getD D (Int.toNat C) 0) F)]))<|.need (pS B (List.length E))<|.need (fI .i64 (((a+c):Nat):Int))<|.need (cN (aj d e f g h i j k l m n o a p q r s t u b b A v w x y z (((a+c):Nat):Int)))<|.leaf (.inl ((B+1),(ep (aj d e f g h i j k l m n o a p q r s t u b b A v w x y z (((a+c):Nat):Int))),(er (aj d e f g h i j k l m n o a p q r s t u b b A v w x y z (((a+c):Nat):Int))),(eu (aj d e f g h i j k l m n o a p q r s t u b b A v w x y z (((a+c):Nat):Int))),(ev (aj d e f g h i j k l m n o a p q r s t u b b A v w x y z (((a+c):Nat):Int))),(ew (aj d e f g h i j k l m n o a p q r s t u b b A v w x y z (((a+c):Nat):Int))),(ez (aj d e f g h i j k l m n o a p q r s t u b b A v w x y z (((a+c):Nat):Int))),(eA (aj d e f g h i j k l m n o a p q r s t u b b A v w x y z (((a+c):Nat):Int))),(eB (aj d e f g h i j k l m n o a p q r s t u b b A v w x y z (((a+c):Nat):Int))),(eC (aj d e f g h i j k l m n o a p q r s t u b b A v w x y z (((a+c):Nat):Int))),(eD (aj d e f g h i j k l m n o a p q r s t u b b A v w x y z (((a+c):Nat):Int))),(dH (aj d e f g h i j k l m n o a p q r s t u b b A v w x y z (((a+c):Nat):Int))),(dI (aj d e f g h i j k l m n o a p q r s t u b b A v w x y z (((a+c):Nat):Int))),(dJ (aj d e f g h i j k l m n o a p q r s t u b b A v w x y z (((a+c):Nat):Int))),(dK (aj d e f g h i j k l m n o a p q r s t u b b A v w x y z (((a+c):Nat):Int))),(dL (aj d e f g h i j k l m n o a p q r s t u b b A v w x y z (((a+c):Nat):Int))),(dM (aj d e f g h i j k l m n o a p q r s t u b b A v w x y z (((a+c):Nat):Int))),(dN (aj d e f g h i j k l m n o a p q r s t u b b A v w x y z (((a+c):Nat):Int))),(dO (aj d e f g h i j k l m n o a p q r s t u b b A v w x y z (((a+c):Nat):Int))),(dP (aj d e f g h i j k l m n o a p q r s t u b b A v w x y z (((a+c):Nat):Int))),((List.take B E)++(List.take 1 [(vC (List.getD D (Int.toNat C) 0) F)])),(dQ (aj d e f g h i j k l m n o a p q r s t u b b A v w x y z (((a+c):Nat):Int))),(dR (aj d e f g h i j k l m n o a p q r s t u b b A v w x y z (((a+c):Nat):Int))),(dS (aj d e f g h i j k l m n o a p q r s t u b b A v w x y z (((a+c):Nat):Int))),(dT (aj d e f g h i j k l m n o a p q r s t u b b A v w x y z (((a+c):Nat):Int))),(dU (aj d e f g h i j k l m n o a p q r s t u b b A v w x y z (((a+c):Nat):Int)))))
def tR(a:Nat)(b:Nat)(c:Int)(d:Nat)(e:Nat)(f:Nat)(g:Nat)(h:Int)(i:Int)(j:Nat)(k:Nat)(l:Nat)(m:Nat)(n:Nat)(o:Nat)(p:Nat)(q:List Nat)(r:List Nat)(s:List Nat)(t:List Int)(u:List Int)(v:List Nat)(w:Int)(x:Int)(y:Nat)(z:Nat)(A:List Nat) :T ((Nat×Nat×Nat×Int×Nat×Nat×Nat×Nat×Int×Int×Nat×Nat×Nat×Nat×Nat×Nat×Nat×(List Nat)×(List Nat)×(List Nat)×(List Int)×(List Int)×(List Nat)×Int×Int×Nat×Nat×(List Nat))⊕((Nat×Nat×Int×Nat×Nat×Nat×Nat×Int×Int×Nat×Nat×Nat×Nat×Nat×Nat×Nat×(List Nat)×(List Nat)×(List Nat)×(List Int)×(List Int)×(List Nat)×Int×Int×Nat×Nat×(List Nat))⊕(ab))) :=
  .need (fI .i64 (((a+1):Nat):Int))<|.leaf (.inl (b,b,(a+1),c,d,e,f,g,h,i,j,k,l,m,n,o,p,q,r,s,t,u,v,w,x,y,z,A))
def iL(a:Nat)(I:Nat)(d:Nat)(J:Nat)(e:List Nat)(K:List Nat)(c:Nat)(f:List Int)(g:List Nat)(L:List Nat) :Nat×Nat×Nat×Int×Nat×Nat×Nat×Nat×Int×Int×Nat×Nat×Nat×Nat×Nat×Nat×Nat×(List Nat)×(List Nat)×(List Nat)×(List Int)×(List Int)×(List Nat)×Int×Int×Nat×Nat×(List Nat)→Option ((Nat×Nat×Nat×Int×Nat×Nat×Nat×Nat×Int×Int×Nat×Nat×Nat×Nat×Nat×Nat×Nat×(List Nat)×(List Nat)×(List Nat)×(List Int)×(List Int)×(List Nat)×Int×Int×Nat×Nat×(List Nat))⊕((Nat×Nat×Int×Nat×Nat×Nat×Nat×Int×Int×Nat×Nat×Nat×Nat×Nat×Nat×Nat×(List Nat)×(List Nat)×(List Nat)×(List Int)×(List Int)×(List Nat)×Int×Int×Nat×Nat×(List Nat))⊕(ab))):=fun (h,M,b,i,j,k,l,m,n,o,p,q,r,s,t,u,v,w,x,y,z,A,B,C,D,E,F,G) =>
  bd ((tI c h M b i j k l m n o p q r s t u v w x y z A B C D E F G).run) fun _ =>
  bd (vO (bd ((tK a c f g b).run) fun (N,O,P) =>
  bd (cu (iJ a I d J e K c f g L b) (0,P)) fun H =>
  bd ((tN a H).run) fun Q =>
  bd ((tO).run) fun _ =>
  bd (cu (iK a Q) (0,H)) fun R =>
  (tQ a d e h b i j k l m n o p q r s t u v w x y z A B C D E F G N O R).run)) fun (S,T,U,V,W,X,Y,Z,a0,a1,a2,a3,a4,a5,a6,a7,a8,a9,b0,b1,b2,b3,b4,b5,b6,b7) =>
  (tR b S T U V W X Y Z a0 a1 a2 a3 a4 a5 a6 a7 a8 a9 b0 b1 b2 b3 b4 b5 b6 b7).run
theorem A5(T:Int)(U:Nat)(V:Nat)(W:Nat)(X:Nat)(Y:Int)(Z:Int)(a0:Nat)(a1:Nat)(a2:Nat)(a:Nat)(a3:Nat)(a4:Nat)(a5:Nat)(a6:List Nat)(a7:List Nat)(a8:List Nat)(a9:List Int)(b0:List Int)(b:Nat)(c:Nat)(l:Nat)(d:Nat)(m:Nat)(e:List Nat)(f:List Nat)(g:Nat)(h:Nat)(n:Nat)(o:Nat)(i:List Int)(j:List Nat)(k:List Nat)(q:Nat)(r:Nat)(p:Nat)(s:Int)(t:Nat)(u:Nat)(v:Nat)(w:Nat)(x:Int)(y:Int)(z:Nat)(A:Nat)(B:Nat)(C:Nat)(D:Nat)(E:Nat)(F:Nat)(G:List Nat)(H:List Nat)(I:List Nat)(J:List Int)(K:List Int)(L:List Nat)(M:Int)(N:Int)(O:Nat)(P:Nat)(Q:List Nat) :Sg prog [.vs [.int .i64 T,.sl 1 1 1 0 U V,.sl 2 1 1 0 W X,.int .i64 Y,.int .i64 Z,.sl 3 1 1 0 a0 a1,.flt false a2,.sl 4 1 1 0 a a3,.sl 5 1 1 0 a4 a5],.fl a6,.fl a7,.fl a8,.ns .i64 a9,.ns .i64 b0] tH (kL a b c l d m e f g h n o i j k (q,r,p,s,t,u,v,w,x,y,z,A,B,C,D,E,F,G,H,I,J,K,L,M,N,O,P,Q)) (iL a b c d e f h i j k (q,r,p,s,t,u,v,w,x,y,z,A,B,C,D,E,F,G,H,I,J,K,L,M,N,O,P,Q)) (kL a b c l d m e f g h n o i j k) (co 10 (kM g) cU):=by
  unfold iL;exact Sg.cut 2 (az aA) (cF ac (Ct a b c l d m e f g h n o i j k q r p s t u v w x y z A B C D E F G H I J K L M N O P Q) [⟨[],[0,1,2,3,4,5,6,7,8,9,10,11,12,13,14,15],[1,4,5,6,7,10,11,17,18,190,191,192]⟩,⟨[],[0,1,2,3,4,5,6,7,8,13],[1,5,6,10]⟩]) (fun _=>Sg.cut 1 (az aA) (UR (kN a b c l d m e f g h n o i j k p) 11 (az aA) (cW (by decide) (db _)) (Sg.cut 3 (az (az aA)) (cF ac (Cu a b c l d m e f g h n o i j k q r p s t u v w x y z A B C D E F G H I J K L M N O P Q) [⟨[],[0,1,2,3,4,5,6,7,8,9,10,11,64,144,12,13,14,15,128],[1,4,5,6,7,10,11,17,18,23,24,25,190,191,192,199,200]⟩]) (fun ⟨R,S,b7⟩=>Sg.cut 1 (az (az aA)) (yE ⟨[],[0,1,2,3,4,5,6,7,8,9,10,11,12,13,14,15,16,17,18],[1,4,5,6,7,10,11,17,18,23,24,25,190,191,192,199,200]⟩ (kO a b c l d m e f g h n o i j k q r p s t u v w x y z A B C D E F G H I J K L M N O P Q R S) (uQ a b c l d m e f g h n o i j k q r p s t u v w x y z A B C D E F G H I J K L M N O P Q R S) 12 (az (az aA)) (cW (by decide) (cW (by decide) (db _))) (fun ⟨b3,b4⟩=>A2 T U V W X Y Z a0 a1 a2 a a3 a4 a5 a6 a7 a8 a9 b0 b c l d m e f g h n o i j k q r p s t u v w x y z A B C D E F G H I J K L M N O P Q R S b3 b4)) (fun b2=>Sg.cut 1 (az (az aA)) (cF ac (Cw a b c l d m e f g h n o i j k q r p s t u v w x y z A B C D E F G H I J K L M N O P Q R S b2) [⟨[],[0,1,2,3,4,5,6,7,8,9,10,11,12,13,14,15,16,17,18],[1,4,5,6,7,10,11,17,18,23,24,25,27,190,191,192]⟩]) (fun b1=>Sg.cut 1 (az (az aA)) (cF ac (Cx a b c l d m e f g h n o i j k q r p s t u v w x y z A B C D E F G H I J K L M N O P Q R S b2 b1) [⟨[],[0,1,2,3,4,5,6,7,8,9,10,11,12,13,14,15,16,17,18],[1,4,5,6,7,10,11,17,18,23,24,25,27,190,191,192,219,220]⟩]) (fun _=>Sg.cut 1 (az (az aA)) (yE ⟨[],[0,1,2,3,4,5,6,7,8,9,10,11,12,13,14,15,16,17,18],[1,4,5,6,7,10,11,17,18,23,24,25,27,190,191,192,219,220]⟩ (kP a b c l d m e f g h n o i j k q r p s t u v w x y z A B C D E F G H I J K L M N O P Q R S b1) (uR a b c l d m e f g h n o i j k q r p s t u v w x y z A B C D E F G H I J K L M N O P Q R S) 14 (az (az aA)) (cW (by decide) (cW (by decide) (db _))) (fun ⟨b5,b6⟩=>A4 T U V W X Y Z a0 a1 a2 a a3 a4 a5 a6 a7 a8 a9 b0 b c l d m e f g h n o i j k q r p s t u v w x y z A B C D E F G H I J K L M N O P Q R S b1 b5 b6)) (fun b8=>cF ac (kN a b c l d m e f g h n o i j k p) [⟨[],[0,1,2,3,4,5,6,195,8,9,10,11,14,15,16,17],[1,4,5,6,7,10,11,17,18,190,191,192]⟩]))))))) (fun ⟨b9,c0,c1,c2,c3,c4,c5,c6,c7,c8,c9,d0,d1,d2,d3,d4,d5,d6,d7,d8,d9,e0,e1,e2,e3,e4⟩=>cF ac (kL a b c l d m e f g h n o i j k) [⟨[],[0,1,2,3,4,5,6,7,8,9,10,11,12,13,14,15],[1,4,5,6,7,10,11,17,18,190,191,192]⟩]))
def tS(a:Nat)(b:Nat)(c:Nat)(d:Int)(e:Nat)(f:Nat)(g:Nat)(h:Nat)(i:Int)(j:Int)(k:Nat)(l:Nat)(m:Nat)(n:Nat)(o:Nat)(p:Nat)(q:Nat)(r:List Nat)(s:List Nat)(t:List Nat)(u:List Int)(v:List Int)(w:List Nat)(x:Int)(y:Int)(z:Nat)(A:Nat)(B:List Nat) :T ((Nat×Nat×Nat×Int×Nat×Nat×Nat×Nat×Int×Int×Nat×Nat×Nat×Nat×Nat×Nat×Nat×(List Nat)×(List Nat)×(List Nat)×(List Int)×(List Int)×(List Nat)×Int×Int×Nat×Nat×(List Nat))⊕(ab)) :=
  .leaf (.inl (b,c,a,d,e,f,g,h,i,j,k,l,m,n,o,p,q,r,s,t,u,v,w,x,y,z,A,B))
def tT(a:Nat)(b:Nat)(c:Int)(d:Nat)(e:Nat)(f:Nat)(g:Nat)(h:Int)(i:Int)(j:Nat)(k:Nat)(l:Nat)(m:Nat)(n:Nat)(o:Nat)(p:Nat)(q:List Nat)(r:List Nat)(s:List Nat)(t:List Int)(u:List Int)(v:List Nat)(w:Int)(x:Int)(y:Nat)(z:Nat)(A:List Nat) :T ((Nat×Nat×Nat×Int×Nat×Nat×Nat×Nat×Int×Int×Nat×Nat×Nat×Nat×Nat×Nat×Nat×(List Nat)×(List Nat)×(List Nat)×(List Int)×(List Int)×(List Nat)×Int×Int×Nat×Nat×(List Nat))⊕(ab)) :=
  .leaf (.inl (a,b,0,c,d,e,f,g,h,i,j,k,l,m,n,o,p,q,r,s,t,u,v,w,x,y,z,A))
def tU(a:Nat)(b:Nat)(c:Nat)(d:Int)(e:Nat)(f:Nat)(g:Nat)(h:Nat)(i:Nat)(j:Nat)(k:Nat)(l:List Nat)(m:List Nat)(n:List Nat)(o:List Int)(p:List Int)(q:List Nat)(r:Int)(s:Int)(t:Nat)(u:Nat)(v:List Nat) :T ((Empty)⊕(ab)) :=
  .leaf (.inr (.r1 c d a b e f r s t u g h i j k l m n o p q v))
def au(c:Int)(M:Nat)(N:Nat)(O:Nat)(P:Nat)(Q:Int)(R:Int)(S:Nat)(T:Nat)(U:Nat)(b:Nat)(V:Nat)(z:Nat)(W:Nat)(X:List Nat)(Y:List Nat)(Z:List Nat)(a0:List Int)(a2:List Int) :Option ab:=toX (bd ((uJ c).run) fun (A,a3) =>
  bd (cu (iX z) (0,0,0,c,M,N,O,P,Q,R,S,T,U,b,V,z,W,X,Y,Z,a0,a2,([]:List Nat),c,c,A,A,a3)) fun (B,C,j,d,k,e,l,m,n,o,p,a,f,q,r,s,g,h,t,i,u,D,E,F,G,H,I) =>
  bd ((tk b).run) fun a4 =>
  bd ((bif a4 then bd ((tl).run) fun _ =>
  bd (cu (iF d e f g h i) (0,0,0,0,0,([]:List Nat),([]:List Nat))) fun (v,f9,w,g0,x,y) =>
  bd ((tn a v w x y).run) fun (a5,a6,J,g1,g2,K,L) =>
  bd ((tp b j d k e l m n o p a f q r s g h t i u a6).run) fun a7 =>
  bd (cu (iI b a v w x y J K L) (0,a7)) fun a8 =>
  bd ((tG).run) fun _ =>
  bd (cu (iL b a v w x y J K L a8) (B,C,0,j,d,k,e,l,m,n,o,p,a,f,q,r,s,g,h,t,i,u,D,E,F,G,H,I)) fun (a9,b0,b1,b2,b3,b4,b5,b6,b7,b8,b9,c0,c1,c2,c3,c4,c5,c6,c7,c8,c9,d0,d1,d2,d3,d4,d5) =>
  (tS a5 a9 b0 b1 b2 b3 b4 b5 b6 b7 b8 b9 c0 c1 c2 c3 c4 c5 c6 c7 c8 c9 d0 d1 d2 d3 d4 d5).run else (tT B C j d k e l m n o p a f q r s g h t i u D E F G H I).run)) fun (d6,d7,d8,d9,g3,g4,e0,e1,g5,g6,g7,g8,e2,e3,e4,e5,e6,e7,e8,e9,f0,f1,f2,f3,f4,f5,f6,f7) =>
  (tU d6 d7 d8 d9 e0 e1 e2 e3 e4 e5 e6 e7 e8 e9 f0 f1 f2 f3 f4 f5 f6 f7).run)
theorem vy(P:Int)(Q:Nat)(R:Nat)(S:Nat)(T:Nat)(U:Int)(V:Int)(W:Nat)(X:Nat)(Y:Nat)(a:Nat)(Z:Nat)(G:Nat)(H:Nat)(a0:List Nat)(a2:List Nat)(a3:List Nat)(a4:List Int)(a5:List Int){x:ab}(h:au P Q R S T U V W X Y a Z G H a0 a2 a3 a4 a5=some x) :aH prog lM [.vs [.int .i64 P,.sl 1 1 1 0 Q R,.sl 2 1 1 0 S T,.int .i64 U,.int .i64 V,.sl 3 1 1 0 W X,.flt false Y,.sl 4 1 1 0 a Z,.sl 5 1 1 0 G H],.fl a0,.fl a2,.fl a3,.ns .i64 a4,.ns .i64 a5] [.ptr 0 1 0 0] (mM x) :=
  GS false mM cU h (Sg.cut 5 aA (cF ac (Da P Q R S T U V W X Y a Z G H a0 a2 a3 a4 a5) [⟨[],[0,1,2,3,4,5,6,230,214],[1,4,5,6,7,43,44,45]⟩]) (fun ⟨i0,i1⟩=>Sg.cut 1 aA (yE ⟨[(.slot 5,.own 1 1 (.fl ([]:List Nat)))],[0,1,2,3,4,5,6,9,7,8],[1,4,5,6,7,43,44,45]⟩ (lq a G H) (vx a) 0 aA (db _) (fun ⟨b2,b3,b4,b5,b6,b7,b8,b9,c0,c1,c2,c3,c4,c5,c6,c7,c8,c9,d0,d1,d2,d3,d4,d5,d6,d7,d8,d9⟩=>Ch P Q R S T U V W X Y a Z G H a0 a2 a3 a4 a5 b2 b3 b4 b5 b6 b7 b8 b9 c0 c1 c2 c3 c4 c5 c6 c7 c8 c9 d0 d1 d2 d3 d4 d5 d6 d7 d8 d9)) (fun ⟨e,f,g,i,j,k,l,m,n,o,p,d,q,r,s,t,u,v,w,y,z,A,B,C,D,E,F⟩=>Sg.cut 2 aA (cF ac (Ci a e f g i j k l m n o p d q r s t u v w y z A B C D E F) [⟨[],[0,1,2,3,4,5,6,7,8,9],[1,4,5,6,7,10,66]⟩]) (fun e0=>Sg.cut 1 aA (CH (c:=.tmp 66) (kn:=false) (b:=e0) (by kernel_rfl:((((iW.drop 5).drop 1).drop 2).take 1)=[.cond (.tmp 66) (HU ((((((iW.drop 5).drop 1).drop 2).take 1)).headD .skip)) (ME ((((((iW.drop 5).drop 1).drop 2).take 1)).headD .skip))]) aA (by kernel_rfl) (Sg.cut 2 aA (cF ac (Cj a e f g i j k l m n o p d q r s t u v w y z A B C D E F) [⟨[],[0,1,2,3,4,5,6,7,8,90,9],[1,4,5,6,7,11,75,76,77]⟩]) (fun _=>Sg.cut 1 aA (yE ⟨[(.cell 9 0,.own 1 1 (.fl ([]:List Nat))),(.cell 9 1,.own 1 1 (.fl ([]:List Nat)))],[0,1,2,3,4,5,6,7,8,9,10,11,12],[1,4,5,6,7,11,75,76,77]⟩ (kF a e f g i j k l m n o p d q r s t u v w y z A B C D E F) (uN a e f g i j k l m n o p d q r s t u v w y z A B C D E F) 2 aA (db _) (fun ⟨e1,e2,e3,e4,e5,e6,e7⟩=>AU P Q R S T U V W X Y a Z G H a0 a2 a3 a4 a5 e f g i j k l m n o p d q r s t u v w y z A B C D E F e1 e2 e3 e4 e5 e6 e7)) (fun ⟨I,J,K,L,M,N⟩=>Sg.cut 1 aA (cF ac (Ck a e f g i j k l m n o p d q r s t u v w y z A B C D E F I J K L M N) [⟨[],[0,1,2,3,4,5,6,7,8,9,109,10,11,12,29],[1,4,5,6,7,11,14,15,16]⟩]) (fun ⟨O,i2,a6,a7,a8,a9,b0⟩=>Sg.cut 6 aA (cF ac (Cl a e f g i j k l m n o p d q r s t u v w y z A B C D E F I J K L M N O a6 a7 a8 a9 b0) [⟨[],[0,1,2,3,4,5],[2,3]⟩,⟨[],[0,1,2,3,4,5,6,7,8,9,10,127,11,12,13,14],[1,4,5,6,7,10,11,14,17,18,118,119]⟩]) (fun i3=>Sg.cut 1 aA (yE ⟨[],[0,1,2,3,4,5,6,7,8,9,10,11,12,13,14,15],[1,4,5,6,7,10,11,14,17,18,118,119]⟩ (kG a e f g i j k l m n o p d q r s t u v w y z A B C D E F I J K L M N O a6 a7 a8 a9 b0) (kH a e f g i j k l m n o p d q r s t u v w y z A B C D E F I J K L M N O a6 a7 a8 a9 b0) 4 aA (db _) (fun ⟨e8,e9⟩=>A0 P Q R S T U V W X Y a Z G H a0 a2 a3 a4 a5 e f g i j k l m n o p d q r s t u v w y z A B C D E F I J K L M N O a6 a7 a8 a9 b0 e8 e9)) (fun b1=>Sg.cut 1 aA (cF ac (Cs a e f g i j k l m n o p d q r s t u v w y z A B C D E F I J K L M N O a6 a7 a8 a9 b0 b1) [⟨[],[0,1,2,3,4,5,6,7,8,9,10,11,15,12,13,14],[1,4,5,6,7,10,11,17,18,190,191,192]⟩]) (fun _=>Sg.cut 1 aA (yE ⟨[],[0,1,2,3,4,5,6,7,8,9,10,11,12,13,14,15],[1,4,5,6,7,10,11,17,18,190,191,192]⟩ (kL a d I J K L M N O a6 a7 a8 a9 b0 b1) (kM O) 10 aA (db _) (fun ⟨f0,f1,f2,f3,f4,f5,f6,f7,f9,g0,g1,g2,g3,g4,g5,g6,g7,g8,g9,h0,h1,h2,h3,h4,h5,h6,h7,h8⟩=>A5 P Q R S T U V W X Y a Z G H a0 a2 a3 a4 a5 d I J K L M N O a6 a7 a8 a9 b0 b1 f0 f1 f2 f3 f4 f5 f6 f7 f9 g0 g1 g2 g3 g4 g5 g6 g7 g8 g9 h0 h1 h2 h3 h4 h5 h6 h7 h8)) (fun ⟨i4,i5,i6,i7,i9,j0,j1,j2,j3,j4,j5,j6,j7,j8,j9,k0,k1,k2,k3,k4,k5,k6,k7,k8,k9,m0,m1⟩=>cF ac uM [⟨[],[0,1,2,3,4,5,6,7,8,9],[1,5,6,10]⟩])))))))) (cF ac uM [⟨[],[0,1,2,3,4,5,6,7,8,9],[1,5,6,10]⟩])) (fun ⟨m2,m3,m4,m5,m6,m7,m8,m9,n0,n1,n2,n3,n4,n5,n6,n7,n8,n9,o0,o1,o2,o3,o4,o5,o6,o7,o8,o9⟩=>cF ac Gd [⟨[],[0,1,2,3,4,5,7,9],[2,3]⟩])))))
    (fun x=>by cases x with | r0 p0 p1 p2 p3 p4 p5 p6 p7 p8 p9 q0 q1 q2 q3 q4 q5 q6 q7 q8=>exact EI [.int .i64 (0:Int),.int .i64 (7:Int)] | r1 h9 q9 s0 s1 s2 s3 s4 s5 s6 s7 s8 s9 t0 t1 t2 t3 t4 t5 t6 t7 t8 t9=>exact EI [.int .i64 ((h9:Nat):Int),.int .i64 (0:Int)])
def lr:Option ab→Bool
  | some (.r0 _ _ _ _ _ _ _ _ _ _ _ _ _ _ _ _ _ _ _)=>true
  | _=>false
def pc:Option ab→Int
  | some (.r0 x _ _ _ _ _ _ _ _ _ _ _ _ _ _ _ _ _ _)=>x
  | _=>0
def pd:Option ab→Nat
  | some (.r0 _ x _ _ _ _ _ _ _ _ _ _ _ _ _ _ _ _ _)=>x
  | _=>0
def pe:Option ab→Nat
  | some (.r0 _ _ x _ _ _ _ _ _ _ _ _ _ _ _ _ _ _ _)=>x
  | _=>0
def pf:Option ab→Nat
  | some (.r0 _ _ _ x _ _ _ _ _ _ _ _ _ _ _ _ _ _ _)=>x
  | _=>0
def pg:Option ab→Nat
  | some (.r0 _ _ _ _ x _ _ _ _ _ _ _ _ _ _ _ _ _ _)=>x
  | _=>0
def ph:Option ab→Int
  | some (.r0 _ _ _ _ _ x _ _ _ _ _ _ _ _ _ _ _ _ _)=>x
  | _=>0
def pj:Option ab→Int
  | some (.r0 _ _ _ _ _ _ x _ _ _ _ _ _ _ _ _ _ _ _)=>x
  | _=>0
def pk:Option ab→Nat
  | some (.r0 _ _ _ _ _ _ _ x _ _ _ _ _ _ _ _ _ _ _)=>x
  | _=>0
def pm:Option ab→Nat
  | some (.r0 _ _ _ _ _ _ _ _ x _ _ _ _ _ _ _ _ _ _)=>x
  | _=>0
def pn:Option ab→Nat
  | some (.r0 _ _ _ _ _ _ _ _ _ x _ _ _ _ _ _ _ _ _)=>x
  | _=>0
def om:Option ab→Nat
  | some (.r0 _ _ _ _ _ _ _ _ _ _ x _ _ _ _ _ _ _ _)=>x
  | _=>0
def oo:Option ab→Nat
  | some (.r0 _ _ _ _ _ _ _ _ _ _ _ x _ _ _ _ _ _ _)=>x
  | _=>0
def oq:Option ab→Nat
  | some (.r0 _ _ _ _ _ _ _ _ _ _ _ _ x _ _ _ _ _ _)=>x
  | _=>0
def ot:Option ab→Nat
  | some (.r0 _ _ _ _ _ _ _ _ _ _ _ _ _ x _ _ _ _ _)=>x
  | _=>0
def ou:Option ab→List Nat
  | some (.r0 _ _ _ _ _ _ _ _ _ _ _ _ _ _ x _ _ _ _)=>x
  | _=>[]
def ov:Option ab→List Nat
  | some (.r0 _ _ _ _ _ _ _ _ _ _ _ _ _ _ _ x _ _ _)=>x
  | _=>[]
def ow:Option ab→List Nat
  | some (.r0 _ _ _ _ _ _ _ _ _ _ _ _ _ _ _ _ x _ _)=>x
  | _=>[]
def ox:Option ab→List Int
  | some (.r0 _ _ _ _ _ _ _ _ _ _ _ _ _ _ _ _ _ x _)=>x
  | _=>[]
def oy:Option ab→List Int
  | some (.r0 _ _ _ _ _ _ _ _ _ _ _ _ _ _ _ _ _ _ x)=>x
  | _=>[]
theorem Dc{x:Option ab}(h:lr x=true) :x=some (.r0 (pc x) (pd x) (pe x) (pf x) (pg x) (ph x) (pj x) (pk x) (pm x) (pn x) (om x) (oo x) (oq x) (ot x) (ou x) (ov x) (ow x) (ox x) (oy x)):=by
  unfold lr at h
  split at h<;>first | rfl | (cases h;done) | (rename_i y;cases y;rfl)
def lu:Option ab→Bool
  | some (.r1 _ _ _ _ _ _ _ _ _ _ _ _ _ _ _ _ _ _ _ _ _ _)=>true
  | _=>false
def po:Option ab→Nat
  | some (.r1 x _ _ _ _ _ _ _ _ _ _ _ _ _ _ _ _ _ _ _ _ _)=>x
  | _=>0
def pq:Option ab→Int
  | some (.r1 _ x _ _ _ _ _ _ _ _ _ _ _ _ _ _ _ _ _ _ _ _)=>x
  | _=>0
def pr:Option ab→Nat
  | some (.r1 _ _ x _ _ _ _ _ _ _ _ _ _ _ _ _ _ _ _ _ _ _)=>x
  | _=>0
def pt:Option ab→Nat
  | some (.r1 _ _ _ x _ _ _ _ _ _ _ _ _ _ _ _ _ _ _ _ _ _)=>x
  | _=>0
def pu:Option ab→Nat
  | some (.r1 _ _ _ _ x _ _ _ _ _ _ _ _ _ _ _ _ _ _ _ _ _)=>x
  | _=>0
def pv:Option ab→Nat
  | some (.r1 _ _ _ _ _ x _ _ _ _ _ _ _ _ _ _ _ _ _ _ _ _)=>x
  | _=>0
def pw:Option ab→Int
  | some (.r1 _ _ _ _ _ _ x _ _ _ _ _ _ _ _ _ _ _ _ _ _ _)=>x
  | _=>0
def px:Option ab→Int
  | some (.r1 _ _ _ _ _ _ _ x _ _ _ _ _ _ _ _ _ _ _ _ _ _)=>x
  | _=>0
def py:Option ab→Nat
  | some (.r1 _ _ _ _ _ _ _ _ x _ _ _ _ _ _ _ _ _ _ _ _ _)=>x
  | _=>0
def pz:Option ab→Nat
  | some (.r1 _ _ _ _ _ _ _ _ _ x _ _ _ _ _ _ _ _ _ _ _ _)=>x
  | _=>0
def oz:Option ab→Nat
  | some (.r1 _ _ _ _ _ _ _ _ _ _ x _ _ _ _ _ _ _ _ _ _ _)=>x
  | _=>0
def oA:Option ab→Nat
  | some (.r1 _ _ _ _ _ _ _ _ _ _ _ x _ _ _ _ _ _ _ _ _ _)=>x
  | _=>0
def oB:Option ab→Nat
  | some (.r1 _ _ _ _ _ _ _ _ _ _ _ _ x _ _ _ _ _ _ _ _ _)=>x
  | _=>0
def oC:Option ab→Nat
  | some (.r1 _ _ _ _ _ _ _ _ _ _ _ _ _ x _ _ _ _ _ _ _ _)=>x
  | _=>0
def oD:Option ab→Nat
  | some (.r1 _ _ _ _ _ _ _ _ _ _ _ _ _ _ x _ _ _ _ _ _ _)=>x
  | _=>0
def su:Option ab→List Nat
  | some (.r1 _ _ _ _ _ _ _ _ _ _ _ _ _ _ _ x _ _ _ _ _ _)=>x
  | _=>[]
def oE:Option ab→List Nat
  | some (.r1 _ _ _ _ _ _ _ _ _ _ _ _ _ _ _ _ x _ _ _ _ _)=>x
  | _=>[]
def sv:Option ab→List Nat
  | some (.r1 _ _ _ _ _ _ _ _ _ _ _ _ _ _ _ _ _ x _ _ _ _)=>x
  | _=>[]
def oF:Option ab→List Int
  | some (.r1 _ _ _ _ _ _ _ _ _ _ _ _ _ _ _ _ _ _ x _ _ _)=>x
  | _=>[]
def oG:Option ab→List Int
  | some (.r1 _ _ _ _ _ _ _ _ _ _ _ _ _ _ _ _ _ _ _ x _ _)=>x
  | _=>[]
def oH:Option ab→List Nat
  | some (.r1 _ _ _ _ _ _ _ _ _ _ _ _ _ _ _ _ _ _ _ _ x _)=>x
  | _=>[]
def oI:Option ab→List Nat
  | some (.r1 _ _ _ _ _ _ _ _ _ _ _ _ _ _ _ _ _ _ _ _ _ x)=>x
  | _=>[]
theorem Dd{x:Option ab}(h:lu x=true) :x=some (.r1 (po x) (pq x) (pr x) (pt x) (pu x) (pv x) (pw x) (px x) (py x) (pz x) (oz x) (oA x) (oB x) (oC x) (oD x) (su x) (oE x) (sv x) (oF x) (oG x) (oH x) (oI x)):=by
  unfold lu at h
  split at h<;>first | rfl | (cases h;done) | (rename_i y;cases y;rfl)
def wi:bC:=yZ lM [.vs [.int .i64,.lsl0 1,.lsl0 2,.int .i64,.int .i64,.lsl0 3,.flt,.lsl0 4,.lsl0 5],.fl,.fl,.fl,.ns .i64,.ns .i64] (.cons (.lptr 0 1 0 0) .nil) fun x t=>(fun q=>[⟨mM (.r0 (pc q) (pd q) (pe q) (pf q) (pg q) (ph q) (pj q) (pk q) (pm q) (pn q) (om q) (oo q) (oq q) (ot q) (ou q) (ov q) (ow q) (ox q) (oy q)),[lr q]⟩,⟨mM (.r1 (po q) (pq q) (pr q) (pt q) (pu q) (pv q) (pw q) (px q) (py q) (pz q) (oz q) (oA q) (oB q) (oC q) (oD q) (su q) (oE q) (sv q) (oF q) (oG q) (oH q) (oI q)),[lu q]⟩]) (au x.1.1 x.1.2.1.1 x.1.2.1.2 x.1.2.2.1.1 x.1.2.2.1.2 x.1.2.2.2.1 x.1.2.2.2.2.1 x.1.2.2.2.2.2.1.1 x.1.2.2.2.2.2.1.2 x.1.2.2.2.2.2.2.1 x.1.2.2.2.2.2.2.2.1.1 x.1.2.2.2.2.2.2.2.1.2 x.1.2.2.2.2.2.2.2.2.1.1 x.1.2.2.2.2.2.2.2.2.1.2 x.2.1 x.2.2.1 x.2.2.2.1 x.2.2.2.2.1 x.2.2.2.2.2.1)
theorem A6:bZ prog wi:=pE fun x t=>(jZ (fun h=>vy x.1.1 x.1.2.1.1 x.1.2.1.2 x.1.2.2.1.1 x.1.2.2.1.2 x.1.2.2.2.1 x.1.2.2.2.2.1 x.1.2.2.2.2.2.1.1 x.1.2.2.2.2.2.1.2 x.1.2.2.2.2.2.2.1 x.1.2.2.2.2.2.2.2.1.1 x.1.2.2.2.2.2.2.2.1.2 x.1.2.2.2.2.2.2.2.2.1.1 x.1.2.2.2.2.2.2.2.2.1.2 x.2.1 x.2.2.1 x.2.2.2.1 x.2.2.2.2.1 x.2.2.2.2.2.1 (Dc h)) (jZ (fun h=>vy x.1.1 x.1.2.1.1 x.1.2.1.2 x.1.2.2.1.1 x.1.2.2.1.2 x.1.2.2.2.1 x.1.2.2.2.2.1 x.1.2.2.2.2.2.1.1 x.1.2.2.2.2.2.1.2 x.1.2.2.2.2.2.2.1 x.1.2.2.2.2.2.2.2.1.1 x.1.2.2.2.2.2.2.2.1.2 x.1.2.2.2.2.2.2.2.2.1.1 x.1.2.2.2.2.2.2.2.2.1.2 x.2.1 x.2.2.1 x.2.2.2.1 x.2.2.2.2.1 x.2.2.2.2.2.1 (Dd h)) pF))
def qL:List bC:=wi::iz
theorem tV:cQ prog (cX qL):=aY A6 ac
inductive aF where
  | r0 (a:Nat) (b:Nat) (c:Nat) (d:List Nat) (e:Int) (f:Int) (g:Nat) (h:List Nat)
def uS:aF→AE×aW
  | .r0 a c d e f g b h=>(.ret,⟨ax 167 [(2,.sl 0 1 1 0 a a),(3,.ptr 1 1 0 0),(4,.int .i64 ((c:Nat):Int)),(5,.int .i64 ((d:Nat):Int))],[(0,.fl e),(1,.vs [.int .i64 f,.int .i64 g,.sl 2 1 1 0 b b]),(2,.fl h)],3⟩)
theorem cm:xN uS:=by intro x;cases x<;>(intro h;cases h)
theorem FG(id:Nat) :rh id uS:=by intro x;cases x<;>(intro h;cases h)
def jo:aF→rF
  | .r0 a c d e f g b h=>⟨.tup [.sl 0 1 1 0 a a,.agg [.int .i64 f,.int .i64 g,.sl 1 1 1 0 b b],.int .i64 ((c:Nat):Int),.int .i64 ((d:Nat):Int)],[some (.fl e),some (.fl h)]⟩
def oJ:Option aF→Bool
  | some _=>true
  | none=>false
def nr:Option aF→Nat
  | some (.r0 x _ _ _ _ _ _ _)=>x
  | _=>0
def nt:Option aF→Nat
  | some (.r0 _ x _ _ _ _ _ _)=>x
  | _=>0
def nu:Option aF→Nat
  | some (.r0 _ _ x _ _ _ _ _)=>x
  | _=>0
def nv:Option aF→List Nat
  | some (.r0 _ _ _ x _ _ _ _)=>x
  | _=>[]
def nw:Option aF→Int
  | some (.r0 _ _ _ _ x _ _ _)=>x
  | _=>0
def nx:Option aF→Int
  | some (.r0 _ _ _ _ _ x _ _)=>x
  | _=>0
def ny:Option aF→Nat
  | some (.r0 _ _ _ _ _ _ x _)=>x
  | _=>0
def nA:Option aF→List Nat
  | some (.r0 _ _ _ _ _ _ _ x)=>x
  | _=>[]
theorem FH{x:Option aF}(h:oJ x=true) :x=some (.r0 (nr x) (nt x) (nu x) (nv x) (nw x) (nx x) (ny x) (nA x)):=by
  unfold oJ at h
  split at h<;>first | rfl | (cases h;done) | (rename_i y;cases y;rfl)
def Ep(R:(List Nat)→(List Nat)→Option aF) :bC:=lC jn (.cons (.agg (.cons .fl (.cons .fl .nil))) .nil) fun t=>(fun q=>[⟨jo (.r0 (nr q) (nt q) (nu q) (nv q) (nw q) (nx q) (ny q) (nA q)),[oJ q]⟩]) (R t.1.1.2 t.1.2.1.2)
theorem H5{R:(List Nat)→(List Nat)→Option aF}(hR:∀  (c:Lv) (a:List Nat) (d:Lv) (b:List Nat) {x:aF},R a b=some x→aH prog jn [] [.agg [.imm c (.fl a) 1 1 0 (List.length a),.imm d (.fl b) 1 1 0 (List.length b)]] (jo x)) :bZ prog (Ep R):=eV fun t=>(eW (fun h=>hR t.1.1.1 t.1.1.2 t.1.2.1.1 t.1.2.1.2 (FH h)) fY)
def Lo(R:(List Nat)→(List Nat)→Option aF) :List bC:=Ep R::qL
theorem bA{R:(List Nat)→(List Nat)→Option aF}(hR:∀  (c:Lv) (a:List Nat) (d:Lv) (b:List Nat) {x:aF},R a b=some x→aH prog jn [] [.agg [.imm c (.fl a) 1 1 0 (List.length a),.imm d (.fl b) 1 1 0 (List.length b)]] (jo x)) :cQ prog (cX (Lo R)):=aY (H5 hR) tV
def jE:List Code:=cV (qT jn)
def Nk(c:Lv)(a:List Nat)(d:Lv)(b:List Nat)(e:Bool) :aW:=⟨ax 167 [(1,.ptr 0 1 0 0),(3,.ptr 1 1 0 0),(4,.int .i64 (0:Int)),(6,.int .i64 (((List.length a):Nat):Int)),(27,.bool false e)],[(0,.vs [.imm c (.fl a) 1 1 0 (List.length a),.imm d (.fl b) 1 1 0 (List.length b)]),(1,.vs [.int .i64 (0:Int),.int .i64 (0:Int),.nsl])],2⟩
def yR(a:List Nat) :T ((Bool)⊕(aF)) :=
  .leaf (.inl (decide ((((List.length a):Nat):Int)≤(2:Int))))
def FI(c:Lv)(a:List Nat)(d:Lv)(b:List Nat)(_:Unit) :aW:=⟨ax 167 [(1,.ptr 0 1 0 0),(3,.ptr 1 1 0 0),(4,.int .i64 (0:Int)),(6,.int .i64 (((List.length a):Nat):Int))],[(0,.vs [.imm c (.fl a) 1 1 0 (List.length a),.imm d (.fl b) 1 1 0 (List.length b)]),(1,.vs [.int .i64 (0:Int),.int .i64 (0:Int),.nsl])],2⟩
def Nl:Nat×Nat×Nat×(List Nat)×Int×Int×Nat×(List Nat)→aW:=fun (a,c,d,e,f,g,b,h)=>⟨ax 167 [(2,.sl 0 1 1 0 a a),(3,.ptr 1 1 0 0),(4,.int .i64 ((c:Nat):Int)),(5,.int .i64 ((d:Nat):Int))],[(0,.fl e),(1,.vs [.int .i64 f,.int .i64 g,.sl 2 1 1 0 b b]),(2,.fl h)],3⟩
def Eq(a:List Nat)(b:List Nat) :T ((Nat×Nat×Nat×(List Nat)×Int×Int×Nat×(List Nat))⊕(aF)) :=
  .need (vS (bh (((List.length a):Nat):Int)))<|.need (di 0 (List.length a) a)<|.need (di 0 (List.length b) b)<|.need (di 0 (fL (bh (((List.length a):Nat):Int))) (fM (bh (((List.length a):Nat):Int))))<|.need (yv (fg (ay 0 (List.length a) a) (ay 0 (List.length b) b) (ch (bh (((List.length a):Nat):Int))) (ch (bh (((List.length a):Nat):Int))) (ay 0 (fL (bh (((List.length a):Nat):Int))) (fM (bh (((List.length a):Nat):Int))))))<|.leaf (.inl ((xU (fg (ay 0 (List.length a) a) (ay 0 (List.length b) b) (ch (bh (((List.length a):Nat):Int))) (ch (bh (((List.length a):Nat):Int))) (ay 0 (fL (bh (((List.length a):Nat):Int))) (fM (bh (((List.length a):Nat):Int)))))),(xV (fg (ay 0 (List.length a) a) (ay 0 (List.length b) b) (ch (bh (((List.length a):Nat):Int))) (ch (bh (((List.length a):Nat):Int))) (ay 0 (fL (bh (((List.length a):Nat):Int))) (fM (bh (((List.length a):Nat):Int)))))),(xW (fg (ay 0 (List.length a) a) (ay 0 (List.length b) b) (ch (bh (((List.length a):Nat):Int))) (ch (bh (((List.length a):Nat):Int))) (ay 0 (fL (bh (((List.length a):Nat):Int))) (fM (bh (((List.length a):Nat):Int)))))),(xX (fg (ay 0 (List.length a) a) (ay 0 (List.length b) b) (ch (bh (((List.length a):Nat):Int))) (ch (bh (((List.length a):Nat):Int))) (ay 0 (fL (bh (((List.length a):Nat):Int))) (fM (bh (((List.length a):Nat):Int)))))),(xY (fg (ay 0 (List.length a) a) (ay 0 (List.length b) b) (ch (bh (((List.length a):Nat):Int))) (ch (bh (((List.length a):Nat):Int))) (ay 0 (fL (bh (((List.length a):Nat):Int))) (fM (bh (((List.length a):Nat):Int)))))),(xZ (fg (ay 0 (List.length a) a) (ay 0 (List.length b) b) (ch (bh (((List.length a):Nat):Int))) (ch (bh (((List.length a):Nat):Int))) (ay 0 (fL (bh (((List.length a):Nat):Int))) (fM (bh (((List.length a):Nat):Int)))))),(ya (fg (ay 0 (List.length a) a) (ay 0 (List.length b) b) (ch (bh (((List.length a):Nat):Int))) (ch (bh (((List.length a):Nat):Int))) (ay 0 (fL (bh (((List.length a):Nat):Int))) (fM (bh (((List.length a):Nat):Int)))))),(yb (fg (ay 0 (List.length a) a) (ay 0 (List.length b) b) (ch (bh (((List.length a):Nat):Int))) (ch (bh (((List.length a):Nat):Int))) (ay 0 (fL (bh (((List.length a):Nat):Int))) (fM (bh (((List.length a):Nat):Int))))))))
def Lp(a:Nat)(b:Nat)(c:Nat)(d:List Nat)(e:Int)(f:Int)(g:Nat)(h:List Nat) :T ((Unit)⊕(aF)) :=
  .leaf (.inr (.r0 a b c d e f g h))
def Er:T ((Unit)⊕(aF)) :=
  .leaf (.inl ())
def Nm(e:List Nat) :Nat×Nat×Nat×Nat×Nat×(List Nat)×(List Nat)×(List Nat)×(List Nat)→aW:=fun (f,a,b,c,d,g,h,i,j)=>⟨ax 167 [(3,.ptr 0 1 0 0),(4,.int .i64 (0:Int)),(6,.int .i64 (((List.length e):Nat):Int)),(7,.ptr 1 1 0 0),(8,.ptr 2 1 0 0),(9,.flt false f)],[(0,.vs [.int .i64 (0:Int),.int .i64 (0:Int),.nsl]),(1,.vs [.sl 3 1 1 0 a a,.sl 4 1 1 0 b b]),(2,.vs [.sl 5 1 1 0 c c,.sl 6 1 1 0 d d]),(3,.fl g),(4,.fl h),(5,.fl i),(6,.fl j)],7⟩
def Es(a:List Nat)(b:List Nat) :T ((Nat×Nat×Nat×Nat×Nat×(List Nat)×(List Nat)×(List Nat)×(List Nat))⊕(aF)) :=
  .need (di 0 (List.length a) a)<|.need (di 0 (List.length b) b)<|.need (yc (iC (ay 0 (List.length a) a) (ay 0 (List.length b) b)))<|.leaf (.inl ((yF (iC (ay 0 (List.length a) a) (ay 0 (List.length b) b))),(yG (iC (ay 0 (List.length a) a) (ay 0 (List.length b) b))),(yH (iC (ay 0 (List.length a) a) (ay 0 (List.length b) b))),(yI (iC (ay 0 (List.length a) a) (ay 0 (List.length b) b))),(yJ (iC (ay 0 (List.length a) a) (ay 0 (List.length b) b))),(yK (iC (ay 0 (List.length a) a) (ay 0 (List.length b) b))),(yL (iC (ay 0 (List.length a) a) (ay 0 (List.length b) b))),(yM (iC (ay 0 (List.length a) a) (ay 0 (List.length b) b))),(yN (iC (ay 0 (List.length a) a) (ay 0 (List.length b) b)))))
def Nn(e:List Nat)(f:Nat)(a:Nat)(b:Nat)(g:List Nat)(h:List Nat) :Nat×Nat×Nat×(List Nat)×Int×Int×Nat×(List Nat)→aW:=fun (i,c,j,k,l,m,d,n)=>⟨ax 167 [(3,.ptr 0 1 0 0),(4,.int .i64 (0:Int)),(5,.int .i64 ((i:Nat):Int)),(6,.int .i64 (((List.length e):Nat):Int)),(8,.ptr 1 1 0 0),(9,.flt false f),(10,.sl 2 1 1 0 c c),(11,.ptr 3 1 0 0),(12,.int .i64 ((j:Nat):Int))],[(0,.vs [.int .i64 (0:Int),.int .i64 (0:Int),.nsl]),(1,.vs [.sl 4 1 1 0 a a,.sl 5 1 1 0 b b]),(2,.fl k),(3,.vs [.int .i64 l,.int .i64 m,.sl 6 1 1 0 d d]),(4,.fl g),(5,.fl h),(6,.fl n)],7⟩
def yS(R:(List Nat)→(List Nat)→Option aF)(a:Nat)(b:Nat)(c:List Nat)(d:List Nat) :T ((Nat×Nat×Nat×(List Nat)×Int×Int×Nat×(List Nat))⊕(aF)) :=
  .need (di 0 a c)<|.need (di 0 b d)<|.need (oJ (R (ay 0 a c) (ay 0 b d)))<|.leaf (.inl ((nu (R (ay 0 a c) (ay 0 b d))),(nr (R (ay 0 a c) (ay 0 b d))),(nt (R (ay 0 a c) (ay 0 b d))),(nv (R (ay 0 a c) (ay 0 b d))),(nw (R (ay 0 a c) (ay 0 b d))),(nx (R (ay 0 a c) (ay 0 b d))),(ny (R (ay 0 a c) (ay 0 b d))),(nA (R (ay 0 a c) (ay 0 b d)))))
def No(e:List Nat)(f:Nat)(a:Nat)(g:Nat)(h:List Nat)(i:Int)(j:Int)(b:Nat)(k:List Nat) :Nat×Nat×Nat×(List Nat)×Int×Int×Nat×(List Nat)→aW:=fun (l,c,m,n,o,p,d,q)=>⟨ax 167 [(3,.ptr 0 1 0 0),(4,.int .i64 (0:Int)),(5,.int .i64 ((l:Nat):Int)),(6,.int .i64 (((List.length e):Nat):Int)),(9,.flt false f),(10,.sl 1 1 1 0 a a),(11,.ptr 2 1 0 0),(12,.int .i64 ((g:Nat):Int)),(13,.sl 3 1 1 0 c c),(14,.ptr 4 1 0 0),(15,.int .i64 ((m:Nat):Int))],[(0,.vs [.int .i64 (0:Int),.int .i64 (0:Int),.nsl]),(1,.fl h),(2,.vs [.int .i64 i,.int .i64 j,.sl 5 1 1 0 b b]),(3,.fl n),(4,.vs [.int .i64 o,.int .i64 p,.sl 6 1 1 0 d d]),(5,.fl k),(6,.fl q)],7⟩
def u7(R:(List Nat)→(List Nat)→Option aF)(a:Nat)(b:Nat)(c:List Nat)(d:List Nat)(e:Nat) :T ((Nat×Nat×Nat×(List Nat)×Int×Int×Nat×(List Nat))⊕(aF)) :=
  .ask (((e:Nat):Int) != (0:Int))
    (.leaf (.inr (.r0 0 0 e ([]:List Nat) (0:Int) (0:Int) 0 ([]:List Nat))))
    (.need (di 0 a c)<|.need (di 0 b d)<|.need (oJ (R (ay 0 a c) (ay 0 b d)))<|.leaf (.inl ((nu (R (ay 0 a c) (ay 0 b d))),(nr (R (ay 0 a c) (ay 0 b d))),(nt (R (ay 0 a c) (ay 0 b d))),(nv (R (ay 0 a c) (ay 0 b d))),(nw (R (ay 0 a c) (ay 0 b d))),(nx (R (ay 0 a c) (ay 0 b d))),(ny (R (ay 0 a c) (ay 0 b d))),(nA (R (ay 0 a c) (ay 0 b d))))))
def Np(b:List Nat)(g:Nat)(a:Nat)(h:Nat)(i:List Nat)(j:Int)(k:Int)(c:Nat)(l:List Nat)(d:Nat)(m:Nat)(n:List Nat)(o:Int)(p:Int)(e:Nat)(q:List Nat) :Nat×(List Nat)→aW:=fun (f,r)=>⟨ax 167 [(3,.ptr 0 1 0 0),(4,.int .i64 (0:Int)),(6,.int .i64 (((List.length b):Nat):Int)),(9,.flt false g),(10,.sl 1 1 1 0 a a),(11,.ptr 2 1 0 0),(12,.int .i64 ((h:Nat):Int)),(13,.sl 3 1 1 0 d d),(14,.ptr 4 1 0 0),(15,.int .i64 ((m:Nat):Int)),(16,.int .i64 ((a:Nat):Int)),(17,.ptr 5 1 0 0),(68,.int .i64 ((a:Nat):Int)),(69,.int .i64 (0:Int))],[(0,.vs [.int .i64 (0:Int),.int .i64 (0:Int),.nsl]),(1,.fl i),(2,.vs [.int .i64 j,.int .i64 k,.sl 6 1 1 0 c c]),(3,.fl n),(4,.vs [.int .i64 o,.int .i64 p,.sl 7 1 1 0 e e]),(5,.vs [.int .i64 (((List.length b):Nat):Int),.int .i64 (((List.length b):Nat):Int),.sl 8 1 1 0 f f]),(6,.fl l),(7,.fl q),(8,.fl r)],9⟩
def yT(a:List Nat)(b:Nat) :T ((Nat×(List Nat))⊕(aF)) :=
  .ask (((b:Nat):Int) != (0:Int))
    (.leaf (.inr (.r0 0 0 b ([]:List Nat) (0:Int) (0:Int) 0 ([]:List Nat))))
    (.need (fI .i64 ((((List.length a)*(List.length a)):Nat):Int))<|.need (decide ((0:Int)≤((((List.length a)*(List.length a)):Nat):Int)))<|.need (decide (((((List.length a)*(List.length a)):Nat):Int)≤((((List.length a)*(List.length a)):Nat):Int)))<|.need (decide ((8:Int)*((((List.length a)*(List.length a)):Nat):Int)≤140737488355328))<|.need (fI .i64 ((((List.length a)*(List.length a)):Nat):Int))<|.leaf (.inl (((List.length a)*(List.length a)),(List.replicate ((List.length a)*(List.length a)) 0))))
def wj(b:List Nat)(g:Nat)(a:Nat)(h:Nat)(i:List Nat)(j:Int)(k:Int)(c:Nat)(l:List Nat)(d:Nat)(m:Nat)(n:List Nat)(o:Int)(p:Int)(e:Nat)(q:List Nat)(f:Nat) :Nat×(List Nat)→aW:=fun (r,s)=>⟨ax 167 [(3,.ptr 0 1 0 0),(4,.int .i64 (0:Int)),(6,.int .i64 (((List.length b):Nat):Int)),(9,.flt false g),(10,.sl 1 1 1 0 a a),(11,.ptr 2 1 0 0),(12,.int .i64 ((h:Nat):Int)),(13,.sl 3 1 1 0 d d),(14,.ptr 4 1 0 0),(15,.int .i64 ((m:Nat):Int)),(16,.int .i64 ((a:Nat):Int)),(17,.ptr 5 1 0 0),(68,.int .i64 ((a:Nat):Int)),(69,.int .i64 ((r:Nat):Int))],[(0,.vs [.int .i64 (0:Int),.int .i64 (0:Int),.nsl]),(1,.fl i),(2,.vs [.int .i64 j,.int .i64 k,.sl 6 1 1 0 c c]),(3,.fl n),(4,.vs [.int .i64 o,.int .i64 p,.sl 7 1 1 0 e e]),(5,.vs [.int .i64 (((List.length b):Nat):Int),.int .i64 (((List.length b):Nat):Int),.sl 8 1 1 0 f f]),(6,.fl l),(7,.fl q),(8,.fl s)],9⟩
def Et(a:List Nat)(f:Nat)(b:Nat)(g:Nat)(h:List Nat)(c:Nat)(i:Nat)(j:List Nat)(k:Int)(l:Int)(d:Nat)(m:List Nat)(e:Nat)(n:(List Nat)) :aW:=⟨ax 167 [(3,.ptr 0 1 0 0),(4,.int .i64 (0:Int)),(6,.int .i64 (((List.length a):Nat):Int)),(9,.flt false f),(10,.sl 1 1 1 0 b b),(12,.int .i64 ((g:Nat):Int)),(13,.sl 2 1 1 0 c c),(14,.ptr 3 1 0 0),(15,.int .i64 ((i:Nat):Int)),(16,.int .i64 ((b:Nat):Int)),(17,.ptr 4 1 0 0)],[(0,.vs [.int .i64 (0:Int),.int .i64 (0:Int),.nsl]),(1,.fl h),(2,.fl j),(3,.vs [.int .i64 k,.int .i64 l,.sl 5 1 1 0 d d]),(4,.vs [.int .i64 (((List.length a):Nat):Int),.int .i64 (((List.length a):Nat):Int),.sl 6 1 1 0 e e]),(5,.fl m),(6,.fl n)],7⟩
def Lq:List Code:=cV (dm (((((((((jE.drop 3).drop 1).drop 1).drop 1).drop 3).drop 5).take 1)).headD .skip))
def Eu(c:List Nat)(b:Nat)(d:Nat)(e:List Nat)(g:Nat)(a:Nat)(f:List Nat) :T ((Nat×(List Nat))⊕(((List Nat))⊕(aF))) :=
  .ask (decide (((a:Nat):Int)<((b:Nat):Int)))
    (.need (fI .i64 (((a*(List.length c)):Nat):Int))<|.need (fI .i64 (((a*(List.length c)):Nat):Int))<|.need (fI .i64 ((((a*(List.length c))+b):Nat):Int))<|.need (Ay ((((a*(List.length c))+b):Nat):Int) g)<|.need (Ay (((a*(List.length c)):Nat):Int) ((a*(List.length c))+b))<|.need (fI .i64 (((a*b):Nat):Int))<|.need (Ay ((d:Nat):Int) d)<|.need (Ay (((a*b):Nat):Int) d)<|.need (pS (cw (a*b) (d-(a*b))) (List.length e))<|.need (pS ((a*(List.length c))+(Nat.min (d-(a*b)) (((a*(List.length c))+b)-(a*(List.length c))))) (List.length f))<|.need (pS (Nat.min (d-(a*b)) (((a*(List.length c))+b)-(a*(List.length c)))) (List.length (List.take (d-(a*b)) (rP (a*b) e))))<|.need (fI .i64 (((a+1):Nat):Int))<|.leaf (.inl ((a+1),(VO f (a*(List.length c)) (Nat.min (d-(a*b)) (((a*(List.length c))+b)-(a*(List.length c)))) (List.take (d-(a*b)) (rP (a*b) e))))))
    (.leaf (.inr (.inl f)))
def qX(a:List Nat)(b:Nat)(c:Nat)(d:List Nat)(e:Nat) :Nat×(List Nat)→Option ((Nat×(List Nat))⊕(((List Nat))⊕(aF))):=fun (f,g) =>
  (Eu a b c d e f g).run
theorem Lr(a:List Nat)(R:(List Nat)→(List Nat)→Option aF)(hR:∀  (u:Lv) (a:List Nat) (v:Lv) (p:List Nat) {x:aF},R a p=some x→aH prog jn [] [.agg [.imm u (.fl a) 1 1 0 (List.length a),.imm v (.fl p) 1 1 0 (List.length p)]] (jo x))(d:Nat)(b:Nat)(e:Nat)(f:List Nat)(q:Int)(r:Int)(g:Nat)(h:List Nat)(i:Nat)(j:Nat)(k:List Nat)(l:Int)(m:Int)(n:Nat)(o:List Nat)(c:Nat)(s:Nat)(t:List Nat) :Sg prog [] Lq (wj a d b e f q r g h i j k l m n o c (s,t)) (qX a b g h c (s,t)) (wj a d b e f q r g h i j k l m n o c) (co 0 (Et a d b e f i j k l m n o c) uS):=by
  unfold qX;exact cF (bA hR) (wj a d b e f q r g h i j k l m n o c) [⟨[],[0,1,2,3,4,5,6,7,8],[3,4,6,9,10,11,12,13,14,15,16,17,68,69]⟩,⟨[],[0,1,3,4,5,7,8],[3,4,6,9,10,12,13,14,15,16,17]⟩]
def Ls(b:List Nat)(f:Nat)(a:Nat)(g:Nat)(h:List Nat)(c:Nat)(i:Nat)(j:List Nat)(k:Int)(l:Int)(d:Nat)(m:List Nat)(e:Nat)(n:List Nat)(_:Unit) :aW:=⟨ax 167 [(3,.ptr 0 1 0 0),(4,.int .i64 (0:Int)),(6,.int .i64 (((List.length b):Nat):Int)),(9,.flt false f),(10,.sl 1 1 1 0 a a),(12,.int .i64 ((g:Nat):Int)),(13,.sl 2 1 1 0 c c),(14,.ptr 3 1 0 0),(15,.int .i64 ((i:Nat):Int)),(16,.int .i64 ((a:Nat):Int)),(17,.ptr 4 1 0 0),(19,.int .i64 ((a:Nat):Int))],[(0,.vs [.int .i64 (0:Int),.int .i64 (0:Int),.nsl]),(1,.fl h),(2,.fl j),(3,.vs [.int .i64 k,.int .i64 l,.sl 5 1 1 0 d d]),(4,.vs [.int .i64 (((List.length b):Nat):Int),.int .i64 (((List.length b):Nat):Int),.sl 6 1 1 0 e e]),(5,.fl m),(6,.fl n)],7⟩
def Ev:T ((Unit)⊕(aF)) :=
  .leaf (.inl ())
def u9(a:List Nat)(f:Nat)(b:Nat)(g:Nat)(h:List Nat)(c:Nat)(i:Nat)(j:List Nat)(k:Int)(l:Int)(d:Nat)(m:List Nat)(e:Nat) :Nat×(List Nat)→aW:=fun (n,o)=>⟨ax 167 [(3,.ptr 0 1 0 0),(4,.int .i64 (0:Int)),(6,.int .i64 (((List.length a):Nat):Int)),(9,.flt false f),(10,.sl 1 1 1 0 b b),(12,.int .i64 ((g:Nat):Int)),(13,.sl 2 1 1 0 c c),(14,.ptr 3 1 0 0),(15,.int .i64 ((i:Nat):Int)),(16,.int .i64 ((b:Nat):Int)),(17,.ptr 4 1 0 0),(19,.int .i64 ((n:Nat):Int))],[(0,.vs [.int .i64 (0:Int),.int .i64 (0:Int),.nsl]),(1,.fl h),(2,.fl j),(3,.vs [.int .i64 k,.int .i64 l,.sl 5 1 1 0 d d]),(4,.vs [.int .i64 (((List.length a):Nat):Int),.int .i64 (((List.length a):Nat):Int),.sl 6 1 1 0 e e]),(5,.fl m),(6,.fl o)],7⟩
def Ew(a:List Nat)(e:Nat)(b:Nat)(f:Nat)(g:List Nat)(c:Nat)(h:Nat)(i:List Nat)(d:Nat)(j:(List Nat)) :aW:=⟨ax 167 [(3,.ptr 0 1 0 0),(4,.int .i64 (0:Int)),(6,.int .i64 (((List.length a):Nat):Int)),(9,.flt false e),(10,.sl 1 1 1 0 b b),(12,.int .i64 ((f:Nat):Int)),(13,.sl 2 1 1 0 c c),(15,.int .i64 ((h:Nat):Int)),(16,.int .i64 ((b:Nat):Int)),(17,.ptr 3 1 0 0)],[(0,.vs [.int .i64 (0:Int),.int .i64 (0:Int),.nsl]),(1,.fl g),(2,.fl i),(3,.vs [.int .i64 (((List.length a):Nat):Int),.int .i64 (((List.length a):Nat):Int),.sl 4 1 1 0 d d]),(4,.fl j)],5⟩
def Lt:List Code:=cV (dm (((((((((((jE.drop 3).drop 1).drop 1).drop 1).drop 3).drop 5).drop 1).drop 1).take 1)).headD .skip))
def Lu(a:List Nat)(f:Nat)(b:Nat)(g:Nat)(h:List Nat)(c:Nat)(i:Nat)(j:List Nat)(k:Int)(l:Int)(d:Nat)(m:List Nat)(e:Nat)(n:Nat)(o:(List Nat)) :aW:=⟨ax 167 [(3,.ptr 0 1 0 0),(4,.int .i64 (0:Int)),(6,.int .i64 (((List.length a):Nat):Int)),(9,.flt false f),(10,.sl 1 1 1 0 b b),(12,.int .i64 ((g:Nat):Int)),(13,.sl 2 1 1 0 c c),(14,.ptr 3 1 0 0),(15,.int .i64 ((i:Nat):Int)),(16,.int .i64 ((b:Nat):Int)),(17,.ptr 4 1 0 0),(19,.int .i64 ((n:Nat):Int))],[(0,.vs [.int .i64 (0:Int),.int .i64 (0:Int),.nsl]),(1,.fl h),(2,.fl j),(3,.vs [.int .i64 k,.int .i64 l,.sl 5 1 1 0 d d]),(4,.vs [.int .i64 (((List.length a):Nat):Int),.int .i64 (((List.length a):Nat):Int),.sl 6 1 1 0 e e]),(5,.fl m),(6,.fl o)],7⟩
def Ex(c:List Nat)(a:Nat)(d:Nat)(e:List Nat)(g:Nat)(b:Nat)(f:List Nat) :T (((List Nat))⊕(((List Nat))⊕(aF))) :=
  .ask (decide (((b:Nat):Int)<(((List.length c):Nat):Int)))
    (.need (fI .i64 (((b*(List.length c)):Nat):Int))<|.need (fI .i64 ((((b*(List.length c))+a):Nat):Int))<|.need (fI .i64 (((b+1):Nat):Int))<|.need (fI .i64 ((((b+1)*(List.length c)):Nat):Int))<|.need (Ay ((((b+1)*(List.length c)):Nat):Int) g)<|.need (Ay ((((b*(List.length c))+a):Nat):Int) ((b+1)*(List.length c)))<|.need (fI .i64 (((b:Nat):Int)-((a:Nat):Int)))<|.need (fI .i64 ((((List.length c):Nat):Int)-((a:Nat):Int)))<|.need (fI .i64 ((((b:Nat):Int)-((a:Nat):Int))*((((List.length c):Nat):Int)-((a:Nat):Int))))<|.need (Ay ((d:Nat):Int) d)<|.need (Ay ((((b:Nat):Int)-((a:Nat):Int))*((((List.length c):Nat):Int)-((a:Nat):Int))) d)<|.need (pS (cw (Int.toNat ((((b:Nat):Int)-((a:Nat):Int))*((((List.length c):Nat):Int)-((a:Nat):Int)))) (d-(Int.toNat ((((b:Nat):Int)-((a:Nat):Int))*((((List.length c):Nat):Int)-((a:Nat):Int)))))) (List.length e))<|.need (pS (((b*(List.length c))+a)+(Nat.min (d-(Int.toNat ((((b:Nat):Int)-((a:Nat):Int))*((((List.length c):Nat):Int)-((a:Nat):Int))))) (((b+1)*(List.length c))-((b*(List.length c))+a)))) (List.length f))<|.need (pS (Nat.min (d-(Int.toNat ((((b:Nat):Int)-((a:Nat):Int))*((((List.length c):Nat):Int)-((a:Nat):Int))))) (((b+1)*(List.length c))-((b*(List.length c))+a))) (List.length (List.take (d-(Int.toNat ((((b:Nat):Int)-((a:Nat):Int))*((((List.length c):Nat):Int)-((a:Nat):Int))))) (rP (Int.toNat ((((b:Nat):Int)-((a:Nat):Int))*((((List.length c):Nat):Int)-((a:Nat):Int)))) e))))<|.leaf (.inl (VO f ((b*(List.length c))+a) (Nat.min (d-(Int.toNat ((((b:Nat):Int)-((a:Nat):Int))*((((List.length c):Nat):Int)-((a:Nat):Int))))) (((b+1)*(List.length c))-((b*(List.length c))+a))) (List.take (d-(Int.toNat ((((b:Nat):Int)-((a:Nat):Int))*((((List.length c):Nat):Int)-((a:Nat):Int))))) (rP (Int.toNat ((((b:Nat):Int)-((a:Nat):Int))*((((List.length c):Nat):Int)-((a:Nat):Int)))) e)))))
    (.leaf (.inr (.inl f)))
def Ey(a:Nat)(b:List Nat) :T ((Nat×(List Nat))⊕(((List Nat))⊕(aF))) :=
  .need (fI .i64 (((a+1):Nat):Int))<|.leaf (.inl ((a+1),b))
def qY(b:List Nat)(c:Nat)(d:Nat)(e:List Nat)(f:Nat) :Nat×(List Nat)→Option ((Nat×(List Nat))⊕(((List Nat))⊕(aF))):=fun (a,g) =>
  bd ((Ex b c d e f a g).run) fun h =>
  (Ey a h).run
theorem Lw(a:List Nat)(R:(List Nat)→(List Nat)→Option aF)(hR:∀  (q:Lv) (a:List Nat) (r:Lv) (n:List Nat) {x:aF},R a n=some x→aH prog jn [] [.agg [.imm q (.fl a) 1 1 0 (List.length a),.imm r (.fl n) 1 1 0 (List.length n)]] (jo x))(d:Nat)(b:Nat)(e:Nat)(f:List Nat)(g:Nat)(h:Nat)(i:List Nat)(l:Int)(m:Int)(j:Nat)(k:List Nat)(c:Nat)(o:Nat)(p:List Nat) :Sg prog [] Lt (u9 a d b e f g h i l m j k c (o,p)) (qY a b j k c (o,p)) (u9 a d b e f g h i l m j k c) (co 2 (Ew a d b e f g h i c) uS):=by
  unfold qY;exact Sg.cut 3 (az cm) (cF (bA hR) (Lu a d b e f g h i l m j k c o) [⟨[],[0,1,2,3,4,5,6],[3,4,6,9,10,12,13,14,15,16,17,19]⟩,⟨[],[0,1,2,4,6],[3,4,6,9,10,12,13,15,16,17]⟩]) (fun s=>cF (bA hR) (u9 a d b e f g h i l m j k c) [⟨[],[0,1,2,3,4,5,6],[3,4,6,9,10,12,13,14,15,16,17,19]⟩])
def Lx(a:List Nat)(d:Nat)(e:Nat)(f:Nat)(g:Nat)(b:Nat)(h:List Nat) :Bool×Nat×(List Nat)→aW:=fun (i,c,j)=>⟨ax 167 [(3,.ptr 0 1 0 0),(4,.int .i64 (0:Int)),(9,.flt false d),(12,.int .i64 ((f:Nat):Int)),(15,.int .i64 ((g:Nat):Int)),(16,.int .i64 ((e:Nat):Int)),(20,.ptr 1 1 0 0),(129,.bool false i)],[(0,.vs [.int .i64 (0:Int),.int .i64 (0:Int),.nsl]),(1,.vs [.int .i64 (((List.length a):Nat):Int),.sl 2 1 1 0 c c,.nsl,.int .i64 (((List.length a):Nat):Int),.int .i64 (((List.length a):Nat):Int),.sl 3 1 1 0 b b,.flt false 0,.nsl,.nsl]),(2,.fl j),(3,.fl h)],4⟩
def Ez(e:Nat)(a:Nat)(b:List Nat)(c:Nat)(d:List Nat) :T ((Bool×Nat×(List Nat))⊕(aF)) :=
  .need (di 0 a b)<|.need (eX (List.length (ay 0 a b)))<|.need (pS (((List.length (ay 0 a b))+c)*8) 140737488355328)<|.need (pS ((List.length (ay 0 a b))+c) 9223372036854775807)<|.need (pS c (List.length d))<|.need (pS (List.length (ay 0 a b)) (List.length (ay 0 a b)))<|.leaf (.inl ((Az e 0),((List.length (ay 0 a b))+c),((List.take (List.length (ay 0 a b)) (ay 0 a b))++(List.take c d))))
def EA(a:Nat)(b:Nat) :Nat×Int×Nat×Nat×Nat×Nat×Int×Int×Nat×Nat×Nat×Nat×Nat×Nat×Nat×(List Nat)×(List Nat)×(List Nat)×(List Int)×(List Int)→aW:=fun (c,d,e,f,g,h,i,j,k,l,m,n,o,p,q,r,s,t,u,v)=>⟨ax 167 [(3,.ptr 0 1 0 0),(4,.int .i64 ((c:Nat):Int)),(12,.int .i64 ((a:Nat):Int)),(15,.int .i64 ((b:Nat):Int)),(20,.ptr 1 1 0 0)],[(0,.vs [.int .i64 (0:Int),.int .i64 (0:Int),.nsl]),(1,.vs [.int .i64 d,.sl 2 1 1 0 e f,.sl 3 1 1 0 g h,.int .i64 i,.int .i64 j,.sl 4 1 1 0 k l,.flt false m,.sl 5 1 1 0 n o,.sl 6 1 1 0 p q]),(2,.fl r),(3,.fl s),(4,.fl t),(5,.ns .i64 u),(6,.ns .i64 v)],7⟩
def Ly(d:Nat)(e:Nat) :Int×Nat×Nat×Nat×(List Nat)×(List Nat)×(List Nat)→aW:=fun (b,a,c,f,g,h,i)=>⟨ax 167 [(3,.ptr 0 1 0 0),(12,.int .i64 ((d:Nat):Int)),(15,.int .i64 ((e:Nat):Int)),(20,.ptr 1 1 0 0)],[(0,.vs [.int .i64 (0:Int),.int .i64 (0:Int),.nsl]),(1,.vs [.int .i64 b,.sl 2 1 1 0 a a,.sl 3 1 1 0 a a,.int .i64 b,.int .i64 b,.sl 4 1 1 0 c c,.flt false f,.nsl,.nsl]),(2,.fl g),(3,.fl h),(4,.fl i)],5⟩
def EB(a:List Nat)(b:Nat)(c:Nat)(d:Nat)(e:List Nat)(f:Nat)(g:List Nat) :T ((Int×Nat×Nat×Nat×(List Nat)×(List Nat)×(List Nat))⊕(aF)) :=
  .need (jK (cj (((List.length a):Nat):Int) f d g e ((c:Nat):Int) b))<|.leaf (.inl ((mo (cj (((List.length a):Nat):Int) f d g e ((c:Nat):Int) b)),(mp (cj (((List.length a):Nat):Int) f d g e ((c:Nat):Int) b)),(mq (cj (((List.length a):Nat):Int) f d g e ((c:Nat):Int) b)),(mr (cj (((List.length a):Nat):Int) f d g e ((c:Nat):Int) b)),(mt (cj (((List.length a):Nat):Int) f d g e ((c:Nat):Int) b)),(mu (cj (((List.length a):Nat):Int) f d g e ((c:Nat):Int) b)),(mv (cj (((List.length a):Nat):Int) f d g e ((c:Nat):Int) b))))
def Lz(a:Nat)(b:Nat) :Int×Nat×Nat×Nat×Nat×Int×Int×Nat×Nat×Nat×Nat×Nat×Nat×Nat×(List Nat)×(List Nat)×(List Nat)×(List Int)×(List Int)→aW:=fun (c,d,e,f,g,h,i,j,k,l,m,n,o,p,q,r,s,t,u)=>⟨ax 167 [(3,.ptr 0 1 0 0),(12,.int .i64 ((a:Nat):Int)),(15,.int .i64 ((b:Nat):Int)),(20,.ptr 1 1 0 0)],[(0,.vs [.int .i64 (0:Int),.int .i64 (0:Int),.nsl]),(1,.vs [.int .i64 c,.sl 2 1 1 0 d e,.sl 3 1 1 0 f g,.int .i64 h,.int .i64 i,.sl 4 1 1 0 j k,.flt false l,.sl 5 1 1 0 m n,.sl 6 1 1 0 o p]),(2,.fl q),(3,.fl r),(4,.fl s),(5,.ns .i64 t),(6,.ns .i64 u)],7⟩
def EC(b:Int)(a:Nat)(c:Nat)(d:Nat)(e:List Nat)(f:List Nat)(g:List Nat) :T ((Int×Nat×Nat×Nat×Nat×Int×Int×Nat×Nat×Nat×Nat×Nat×Nat×Nat×(List Nat)×(List Nat)×(List Nat)×(List Int)×(List Int))⊕(aF)) :=
  .need (lm (aV b a a a a b b c c d e f g))<|.leaf (.inl ((oQ (aV b a a a a b b c c d e f g)),(oR (aV b a a a a b b c c d e f g)),(oS (aV b a a a a b b c c d e f g)),(oT (aV b a a a a b b c c d e f g)),(oU (aV b a a a a b b c c d e f g)),(oV (aV b a a a a b b c c d e f g)),(oW (aV b a a a a b b c c d e f g)),(oX (aV b a a a a b b c c d e f g)),(oY (aV b a a a a b b c c d e f g)),(oZ (aV b a a a a b b c c d e f g)),(oa (aV b a a a a b b c c d e f g)),(oc (aV b a a a a b b c c d e f g)),(od (aV b a a a a b b c c d e f g)),(oe (aV b a a a a b b c c d e f g)),(og (aV b a a a a b b c c d e f g)),(oh (aV b a a a a b b c c d e f g)),(oi (aV b a a a a b b c c d e f g)),(oj (aV b a a a a b b c c d e f g)),(ol (aV b a a a a b b c c d e f g))))
def LA(a:Nat)(b:Nat) :Nat×Nat×Int×Nat×Nat×Nat×Nat×Int×Int×Nat×Nat×Nat×Nat×Nat×Nat×Nat×(List Nat)×(List Nat)×(List Nat)×(List Int)×(List Int)→aW:=fun (c,d,e,f,g,h,i,j,k,l,m,n,o,p,q,r,s,t,u,v,w)=>⟨ax 167 [(3,.ptr 0 1 0 0),(12,.int .i64 ((a:Nat):Int)),(15,.int .i64 ((b:Nat):Int)),(20,.ptr 1 1 0 0),(21,.int .i64 ((c:Nat):Int)),(22,.int .i64 ((d:Nat):Int))],[(0,.vs [.int .i64 (0:Int),.int .i64 (0:Int),.nsl]),(1,.vs [.int .i64 e,.sl 2 1 1 0 f g,.sl 3 1 1 0 h i,.int .i64 j,.int .i64 k,.sl 4 1 1 0 l m,.flt false n,.sl 5 1 1 0 o p,.sl 6 1 1 0 q r]),(2,.fl s),(3,.fl t),(4,.fl u),(5,.ns .i64 v),(6,.ns .i64 w)],7⟩
def yU(a:Int)(b:Nat)(c:Nat)(d:Nat)(e:Nat)(f:Int)(g:Int)(h:Nat)(i:Nat)(j:Nat)(k:Nat)(l:Nat)(m:Nat)(n:Nat)(o:List Nat)(p:List Nat)(q:List Nat)(r:List Int)(s:List Int) :T ((Nat×Nat×Int×Nat×Nat×Nat×Nat×Int×Int×Nat×Nat×Nat×Nat×Nat×Nat×Nat×(List Nat)×(List Nat)×(List Nat)×(List Int)×(List Int))⊕(aF)) :=
  .alt 0
    (.need (lr (au a b c d e f g h i j k l m n o p q r s))<|.leaf (.inl (0,7,(pc (au a b c d e f g h i j k l m n o p q r s)),(pd (au a b c d e f g h i j k l m n o p q r s)),(pe (au a b c d e f g h i j k l m n o p q r s)),(pf (au a b c d e f g h i j k l m n o p q r s)),(pg (au a b c d e f g h i j k l m n o p q r s)),(ph (au a b c d e f g h i j k l m n o p q r s)),(pj (au a b c d e f g h i j k l m n o p q r s)),(pk (au a b c d e f g h i j k l m n o p q r s)),(pm (au a b c d e f g h i j k l m n o p q r s)),(pn (au a b c d e f g h i j k l m n o p q r s)),(om (au a b c d e f g h i j k l m n o p q r s)),(oo (au a b c d e f g h i j k l m n o p q r s)),(oq (au a b c d e f g h i j k l m n o p q r s)),(ot (au a b c d e f g h i j k l m n o p q r s)),(ou (au a b c d e f g h i j k l m n o p q r s)),(ov (au a b c d e f g h i j k l m n o p q r s)),(ow (au a b c d e f g h i j k l m n o p q r s)),(ox (au a b c d e f g h i j k l m n o p q r s)),(oy (au a b c d e f g h i j k l m n o p q r s)))))
    (.alt 1
      (.need (lu (au a b c d e f g h i j k l m n o p q r s))<|.leaf (.inl ((po (au a b c d e f g h i j k l m n o p q r s)),0,(pq (au a b c d e f g h i j k l m n o p q r s)),(pr (au a b c d e f g h i j k l m n o p q r s)),(pt (au a b c d e f g h i j k l m n o p q r s)),(pu (au a b c d e f g h i j k l m n o p q r s)),(pv (au a b c d e f g h i j k l m n o p q r s)),(pw (au a b c d e f g h i j k l m n o p q r s)),(px (au a b c d e f g h i j k l m n o p q r s)),(py (au a b c d e f g h i j k l m n o p q r s)),(pz (au a b c d e f g h i j k l m n o p q r s)),(oz (au a b c d e f g h i j k l m n o p q r s)),(oA (au a b c d e f g h i j k l m n o p q r s)),(oB (au a b c d e f g h i j k l m n o p q r s)),(oC (au a b c d e f g h i j k l m n o p q r s)),(oD (au a b c d e f g h i j k l m n o p q r s)),(oH (au a b c d e f g h i j k l m n o p q r s)),(oE (au a b c d e f g h i j k l m n o p q r s)),(oI (au a b c d e f g h i j k l m n o p q r s)),(oF (au a b c d e f g h i j k l m n o p q r s)),(oG (au a b c d e f g h i j k l m n o p q r s)))))
      (.fail))
def yV(b:Nat)(a:Nat)(c:Int)(d:Nat)(e:Nat)(f:Nat)(g:Nat)(h:Int)(i:Int)(j:Nat)(k:Nat)(l:Nat)(m:Nat)(n:Nat)(o:Nat)(p:Nat)(q:List Nat)(r:List Nat)(s:List Nat)(t:List Int)(u:List Int) :T ((Nat×Int×Nat×Nat×Nat×Nat×Int×Int×Nat×Nat×Nat×Nat×Nat×Nat×Nat×(List Nat)×(List Nat)×(List Nat)×(List Int)×(List Int))⊕(aF)) :=
  .ask (((a:Nat):Int) != (0:Int))
    (.leaf (.inr (.r0 0 0 a ([]:List Nat) (0:Int) (0:Int) 0 ([]:List Nat))))
    (.leaf (.inl (b,c,d,e,f,g,h,i,j,k,l,m,n,o,p,q,r,s,t,u)))
def ED(a:List Nat)(b:Nat)(d:List Nat)(c:Nat)(e:List Nat) :T ((Nat×Int×Nat×Nat×Nat×Nat×Int×Int×Nat×Nat×Nat×Nat×Nat×Nat×Nat×(List Nat)×(List Nat)×(List Nat)×(List Int)×(List Int))⊕(aF)) :=
  .leaf (.inl (0,(((List.length a):Nat):Int),c,c,0,0,(((List.length a):Nat):Int),(((List.length a):Nat):Int),b,b,0,0,0,0,0,e,([]:List Nat),d,([]:List Int),([]:List Int)))
def LB(c:Nat)(d:Nat)(e:Nat) :Nat×Nat×(List Nat)×Int×Int×Nat×(List Nat)→aW:=fun (a,f,g,h,i,b,j)=>⟨ax 167 [(2,.sl 0 1 1 0 a a),(3,.ptr 1 1 0 0),(4,.int .i64 ((e:Nat):Int)),(5,.int .i64 ((f:Nat):Int)),(12,.int .i64 ((c:Nat):Int)),(15,.int .i64 ((d:Nat):Int))],[(0,.fl g),(1,.vs [.int .i64 h,.int .i64 i,.sl 2 1 1 0 b b]),(2,.fl j)],3⟩
def EE(a:Nat)(e:Int)(f:Int)(b:Nat)(c:List Nat)(d:List Nat) :T ((Nat×Nat×(List Nat)×Int×Int×Nat×(List Nat))⊕(aF)) :=
  .need (di 0 a c)<|.need (di 0 b d)<|.need (vV (fk (ay 0 a c) e f (ay 0 b d)))<|.leaf (.inl ((vW (fk (ay 0 a c) e f (ay 0 b d))),(vX (fk (ay 0 a c) e f (ay 0 b d))),(vY (fk (ay 0 a c) e f (ay 0 b d))),(vZ (fk (ay 0 a c) e f (ay 0 b d))),(v3 (fk (ay 0 a c) e f (ay 0 b d))),(v4 (fk (ay 0 a c) e f (ay 0 b d))),(v5 (fk (ay 0 a c) e f (ay 0 b d)))))
def yW(a:Nat)(c:Nat)(b:Nat)(d:Nat)(e:Nat)(f:List Nat)(g:Int)(h:Int)(i:Nat)(j:List Nat) :T ((Empty)⊕(aF)) :=
  .need (fI .i64 (((b+a):Nat):Int))<|.need (fI .i64 ((((b+a)+c):Nat):Int))<|.leaf (.inr (.r0 d ((b+a)+c) e f g h i j))
def uT(R:(List Nat)→(List Nat)→Option aF)(a:List Nat)(d:List Nat) :Option aF:=toX (bd ((yR a).run) fun i =>
  bd ((bif i then bd ((Eq a d).run) fun (j,k,l,m,n,o,p,q) =>
  (Lp j k l m n o p q).run else (Er).run)) fun _ =>
  bd ((Es a d).run) fun (e,r,s,t,u,v,w,x,y) =>
  bd ((yS R r s v w).run) fun (z,b,A,B,f2,f3,C,D) =>
  bd ((u7 R t u x y z).run) fun (E,F,G,H,f4,f5,I,J) =>
  bd ((yT a E).run) fun (c,K) =>
  bd (cu (qX a b C D c) (0,K)) fun L =>
  bd ((Ev).run) fun _ =>
  bd (cu (qY a b I J c) (b,L)) fun f =>
  bd ((Ez e b B F H).run) fun (M,g,h) =>
  bd ((bif M then bd ((EB a e b c f g h).run) fun (N,O,P,Q,S,T,U) =>
  bd ((EC N O P Q S T U).run) fun (V,W,X,Y,Z,a0,a1,a2,a3,a4,a5,a6,a7,a9,b0,b2,b3,b4,b5) =>
  bd ((yU V W X Y Z a0 a1 a2 a3 a4 a5 a6 a7 a9 b0 b2 b3 b4 b5).run) fun (b6,b7,b8,b9,c0,c1,c2,c3,c4,c5,c6,c7,c8,c9,d0,d1,d2,d3,d4,d5,d6) =>
  (yV b6 b7 b8 b9 c0 c1 c2 c3 c4 c5 c6 c7 c8 c9 d0 d1 d2 d3 d4 d5 d6).run else (ED a c f g h).run)) fun (d7,f6,d8,f7,f9,g0,d9,e0,e1,g1,g2,g3,g4,g5,g6,e2,g7,e3,g8,g9) =>
  bd ((EE d8 d9 e0 e1 e2 e3).run) fun (e5,e6,e7,e8,e9,f0,f1) =>
  (yW A G d7 e5 e6 e7 e8 e9 f0 f1).run)
def eN:Nat→(List Nat)→(List Nat)→Option aF
  | 0,_,_=>none
  | k+1,a,b=>uT (eN k) a b
theorem LC{R:(List Nat)→(List Nat)→Option aF}(hR:∀  (r:Lv) (a:List Nat) (s:Lv) (g:List Nat) {x:aF},R a g=some x→aH prog jn [] [.agg [.imm r (.fl a) 1 1 0 (List.length a),.imm s (.fl g) 1 1 0 (List.length g)]] (jo x))(r:Lv)(a:List Nat)(s:Lv)(g:List Nat){x:aF}(h:uT R a g=some x) :aH prog jn [] [.agg [.imm r (.fl a) 1 1 0 (List.length a),.imm s (.fl g) 1 1 0 (List.length g)]] (jo x) :=
  GS false jo uS h (Sg.cut 3 cm (cF (bA hR) (Nk r a s g) [⟨[],[0,32],[1,3,4,6,27]⟩]) (fun A=>Sg.cut 1 cm (CH (c:=.tmp 27) (kn:=false) (b:=A) (by kernel_rfl:((jE.drop 3).take 1)=[.cond (.tmp 27) (HU ((((jE.drop 3).take 1)).headD .skip)) (ME ((((jE.drop 3).take 1)).headD .skip))]) cm (by kernel_rfl) (Sg.cut 1 cm (cF (bA hR) Nl [⟨[],[50,1,51],[2,3,4,5]⟩]) (fun ⟨S,T,U,V,W,X,Y,Z⟩=>cF (bA hR) (FI r a s g) [⟨[],[0,1,2],[2,3,4,5]⟩])) (cF (bA hR) (FI r a s g) [⟨[],[0,1],[1,3,4,6]⟩])) (fun _=>Sg.cut 1 cm (cF (bA hR) (Nm a) [⟨[],[1,98,114,18,19,20,21],[3,4,6,7,8,9]⟩]) (fun ⟨f,a0,a1,B,C,a2,a3,D,E⟩=>Sg.cut 1 cm (cF (bA hR) (Nn a f B C D E) [⟨[],[0,2,23,119,5,6,24],[3,4,5,6,8,9,10,11,12]⟩]) (fun ⟨a4,i,d,j,t,u,v,w⟩=>Sg.cut 3 cm (cF (bA hR) (No a f i d j t u v w) [⟨[(.slot 2,.own 1 1 (.fl ([]:List Nat))),(.cell 0 2,.own 1 1 (.fl ([]:List Nat)))],[135,0,136],[2,3,4,5]⟩,⟨[],[0,2,3,55,151,6,56],[3,4,5,6,9,10,11,12,13,14,15]⟩]) (fun ⟨a5,k,e,l,n,o,p,q⟩=>Sg.cut 5 cm (cF (bA hR) (Np a f i d j t u v w k e l n o p q) [⟨[(.slot 2,.own 1 1 (.fl ([]:List Nat))),(.cell 0 2,.own 1 1 (.fl ([]:List Nat)))],[135,0,136],[2,3,4,5]⟩,⟨[],[0,1,2,3,4,119,5,6,103],[3,4,6,9,10,11,12,13,14,15,16,17,68,69]⟩]) (fun ⟨m,a6⟩=>Sg.cut 1 cm (yE ⟨[],[0,1,2,3,4,5,6,7,8],[3,4,6,9,10,11,12,13,14,15,16,17,68,69]⟩ (wj a f i d j t u v w k e l n o p q m) (Et a f i d j k e l n o p q m) 0 cm (FG _) (fun ⟨F,G⟩=>Lr a R hR f i d j t u v w k e l n o p q m F G)) (fun H=>Sg.cut 1 cm (cF (bA hR) (Ls a f i d j k e l n o p q m H) [⟨[],[0,1,2,3,4,5,6],[3,4,6,9,10,12,13,14,15,16,17,19]⟩]) (fun _=>Sg.cut 1 cm (yE ⟨[],[0,1,2,3,4,5,6],[3,4,6,9,10,12,13,14,15,16,17,19]⟩ (u9 a f i d j k e l n o p q m) (Ew a f i d j k e l m) 2 cm (FG _) (fun ⟨I,J⟩=>Lw a R hR f i d j k e l n o p q m I J)) (fun K=>Sg.cut 2 cm (cF (bA hR) (Lx a f i d e m K) [⟨[],[0,117,69,4],[3,4,9,12,15,16,20,129]⟩]) (fun ⟨L,a7,a9⟩=>Sg.cut 1 cm (CH (c:=.tmp 129) (kn:=false) (b:=L) (by kernel_rfl:(((((((((((jE.drop 3).drop 1).drop 1).drop 1).drop 3).drop 5).drop 1).drop 1).drop 1).drop 2).take 1)=[.cond (.tmp 129) (HU (((((((((((((jE.drop 3).drop 1).drop 1).drop 1).drop 3).drop 5).drop 1).drop 1).drop 1).drop 2).take 1)).headD .skip)) (ME (((((((((((((jE.drop 3).drop 1).drop 1).drop 1).drop 3).drop 5).drop 1).drop 1).drop 1).drop 2).take 1)).headD .skip))]) cm (by kernel_rfl) (Sg.cut 1 cm (cF (bA hR) (Ly d e) [⟨[],[0,1,52,53,54],[3,12,15,20]⟩]) (fun ⟨b0,b2,b3,b4,b5,b6,b7⟩=>Sg.cut 1 cm (cF (bA hR) (Lz d e) [⟨[],[0,1,2,3,4,21,22],[3,12,15,20]⟩]) (fun ⟨b8,b9,c0,c1,c2,c3,c4,c5,c6,c7,c8,c9,d0,d1,d2,d3,d4,d5,d6⟩=>Sg.cut 1 cm (cF (bA hR) (LA d e) [⟨[],[0,1,2,3,4,5,6],[3,12,15,20,21,22]⟩,⟨[],[0,1,23,3,24,5,6],[3,12,15,20,21,22]⟩]) (fun ⟨d7,d8,d9,e0,e1,e2,e3,e5,e6,e7,e8,e9,f0,f1,f2,f3,f4,f5,f6,f7,f9⟩=>cF (bA hR) (EA d e) [⟨[(.slot 2,.own 1 1 (.fl ([]:List Nat))),(.cell 0 2,.own 1 1 (.fl ([]:List Nat)))],[135,0,136],[2,3,4,5]⟩,⟨[],[0,1,2,3,4,5,6],[3,4,12,15,20]⟩])))) (cF (bA hR) (EA d e) [⟨[(.cell 1 2,.own 1 1 (.fl ([]:List Nat))),(.cell 1 7,.own 1 1 (.ns .i64 ([]:List Int))),(.cell 1 8,.own 1 1 (.ns .i64 ([]:List Int)))],[0,1,2,4,3,5,6],[3,4,12,15,20]⟩])) (fun ⟨M,g0,g1,g2,g3,g4,g5,g6,g7,g8,g9,h0,h1,h2,h3,h4,h5,h6,h7,h8⟩=>Sg.cut 1 cm (cF (bA hR) (LB d e M) [⟨[],[135,0,136],[2,3,4,5,12,15]⟩]) (fun ⟨h9,i0,i1,i2,i3,i4,i5⟩=>cF (bA hR) Gd [⟨[],[0,1,2],[2,3,4,5]⟩])))))))))))))
    (fun x=>by cases x with | r0 y N O i9 P Q z j0=>exact EI [.sl 0 1 1 0 y y,.agg [.int .i64 P,.int .i64 Q,.sl 2 1 1 0 z z],.int .i64 ((N:Nat):Int),.int .i64 ((O:Nat):Int)])
theorem FJ:∀ (k:Nat) (c:Lv) (a:List Nat) (d:Lv) (b:List Nat) {x:aF},eN k a b=some x→aH prog jn [] [.agg [.imm c (.fl a) 1 1 0 (List.length a),.imm d (.fl b) 1 1 0 (List.length b)]] (jo x)
  | 0,_,_,_,_,_,h=>by cases h
  | k+1,c,a,d,b,_,h=>LC (FJ k) c a d b h
def Hv(k:Nat) :bC:=lC jn (.cons (.agg (.cons .fl (.cons .fl .nil))) .nil) fun t=>(fun q=>[⟨jo (.r0 (nr q) (nt q) (nu q) (nv q) (nw q) (nx q) (ny q) (nA q)),[oJ q]⟩]) (eN k t.1.1.2 t.1.2.1.2)
theorem J4(k:Nat) :bZ prog (Hv k):=eV fun t=>(eW (fun h=>FJ k t.1.1.1 t.1.1.2 t.1.2.1.1 t.1.2.1.2 (FH h)) fY)
def Hw:List bC:=Hv 5::qL
theorem sW:cQ prog (cX Hw):=aY (J4 5) tV
inductive eO where
  | r0 (a:Nat) (b:Nat) (c:Nat) (d:List Nat) (e:Int) (f:Int) (g:Nat) (h:List Nat)
def Hx:eO→AE×aW
  | .r0 a c d e f g b h=>(.ret,⟨ax 30 [(2,.sl 0 1 1 0 a a),(3,.ptr 1 1 0 0),(4,.int .i64 ((c:Nat):Int)),(5,.int .i64 ((d:Nat):Int))],[(0,.fl e),(1,.vs [.int .i64 f,.int .i64 g,.sl 2 1 1 0 b b]),(2,.fl h)],3⟩)
theorem FK:xN Hx:=by intro x;cases x<;>(intro h;cases h)
def Cy:eO→rF
  | .r0 a c d e f g b h=>⟨.tup [.sl 0 1 1 0 a a,.agg [.int .i64 f,.int .i64 g,.sl 1 1 1 0 b b],.int .i64 ((c:Nat):Int),.int .i64 ((d:Nat):Int)],[some (.fl e),some (.fl h)]⟩
def Nq(c:Lv)(a:List Nat)(d:Lv)(b:List Nat)(e:Nat) :aW:=⟨ax 30 [(1,.ptr 0 1 0 0),(3,.ptr 1 1 0 0),(6,.int .i64 ((e:Nat):Int))],[(0,.vs [.imm c (.fl a) 1 1 0 (List.length a),.imm d (.fl b) 1 1 0 (List.length b)]),(1,.vs [.int .i64 (0:Int),.int .i64 (0:Int),.nsl])],2⟩
def wk(a:List Nat)(b:List Nat) :T ((Nat)⊕(eO)) :=
  .need (di 0 (List.length a) a)<|.need (di 0 (List.length b) b)<|.need (vQ (re (ay 0 (List.length a) a) (ay 0 (List.length b) b)))<|.leaf (.inl (xb (re (ay 0 (List.length a) a) (ay 0 (List.length b) b))))
def Nr:Nat×Nat×Nat×(List Nat)×Int×Int×Nat×(List Nat)→aW:=fun (a,c,d,e,f,g,b,h)=>⟨ax 30 [(3,.ptr 0 1 0 0),(7,.sl 1 1 1 0 a a),(8,.ptr 2 1 0 0),(9,.int .i64 ((c:Nat):Int)),(10,.int .i64 ((d:Nat):Int))],[(0,.vs [.int .i64 (0:Int),.int .i64 (0:Int),.nsl]),(1,.fl e),(2,.vs [.int .i64 f,.int .i64 g,.sl 3 1 1 0 b b]),(3,.fl h)],4⟩
def wl(a:List Nat)(b:List Nat)(c:Nat) :T ((Nat×Nat×Nat×(List Nat)×Int×Int×Nat×(List Nat))⊕(eO)) :=
  .ask (((c:Nat):Int) != (0:Int))
    (.leaf (.inr (.r0 0 0 c ([]:List Nat) (0:Int) (0:Int) 0 ([]:List Nat))))
    (.need (di 0 (List.length a) a)<|.need (di 0 (List.length b) b)<|.need (oJ (eN 5 (ay 0 (List.length a) a) (ay 0 (List.length b) b)))<|.leaf (.inl ((nr (eN 5 (ay 0 (List.length a) a) (ay 0 (List.length b) b))),(nt (eN 5 (ay 0 (List.length a) a) (ay 0 (List.length b) b))),(nu (eN 5 (ay 0 (List.length a) a) (ay 0 (List.length b) b))),(nv (eN 5 (ay 0 (List.length a) a) (ay 0 (List.length b) b))),(nw (eN 5 (ay 0 (List.length a) a) (ay 0 (List.length b) b))),(nx (eN 5 (ay 0 (List.length a) a) (ay 0 (List.length b) b))),(ny (eN 5 (ay 0 (List.length a) a) (ay 0 (List.length b) b))),(nA (eN 5 (ay 0 (List.length a) a) (ay 0 (List.length b) b))))))
def Au(a:Nat)(b:Nat)(c:Nat)(d:List Nat)(e:Int)(f:Int)(g:Nat)(h:List Nat) :T ((Empty)⊕(eO)) :=
  .ask (((c:Nat):Int) != (0:Int))
    (.leaf (.inr (.r0 0 0 7 ([]:List Nat) (0:Int) (0:Int) 0 ([]:List Nat))))
    (.leaf (.inr (.r0 a b 0 d e f g h)))
def eP(a:List Nat)(b:List Nat) :Option eO:=toX (bd ((wk a b).run) fun c =>
  bd ((wl a b c).run) fun (d,e,f,g,h,i,j,k) =>
  (Au d e f g h i j k).run)
theorem Ns(c:Lv)(a:List Nat)(d:Lv)(b:List Nat){x:eO}(h:eP a b=some x) :aH prog GM [] [.agg [.imm c (.fl a) 1 1 0 (List.length a),.imm d (.fl b) 1 1 0 (List.length b)]] (Cy x) :=
  GS false Cy Hx h (Sg.cut 2 FK (cF sW (Nq c a d b) [⟨[],[0,32],[1,3,6]⟩]) (fun l=>Sg.cut 3 FK (cF sW Nr [⟨[(.slot 2,.own 1 1 (.fl ([]:List Nat))),(.cell 1 2,.own 1 1 (.fl ([]:List Nat)))],[130,1,131],[2,3,4,5]⟩,⟨[],[1,50,146,51],[3,7,8,9,10]⟩]) (fun ⟨m,n,o,p,q,r,s,t⟩=>cF sW Gd [⟨[(.slot 2,.own 1 1 (.fl ([]:List Nat))),(.cell 0 2,.own 1 1 (.fl ([]:List Nat)))],[116,0,117],[2,3,4,5]⟩,⟨[],[1,0,3],[2,3,4,5]⟩])))
    (fun x=>by cases x with | r0 e g i u j k f v=>exact EI [.sl 0 1 1 0 e e,.agg [.int .i64 j,.int .i64 k,.sl 2 1 1 0 f f],.int .i64 ((g:Nat):Int),.int .i64 ((i:Nat):Int)])
def wm:Option eO→Bool
  | some _=>true
  | none=>false
def xq:Option eO→Nat
  | some (.r0 x _ _ _ _ _ _ _)=>x
  | _=>0
def xu:Option eO→Nat
  | some (.r0 _ x _ _ _ _ _ _)=>x
  | _=>0
def xv:Option eO→Nat
  | some (.r0 _ _ x _ _ _ _ _)=>x
  | _=>0
def xy:Option eO→List Nat
  | some (.r0 _ _ _ x _ _ _ _)=>x
  | _=>[]
def xz:Option eO→Int
  | some (.r0 _ _ _ _ x _ _ _)=>x
  | _=>0
def xA:Option eO→Int
  | some (.r0 _ _ _ _ _ x _ _)=>x
  | _=>0
def xB:Option eO→Nat
  | some (.r0 _ _ _ _ _ _ x _)=>x
  | _=>0
def xC:Option eO→List Nat
  | some (.r0 _ _ _ _ _ _ _ x)=>x
  | _=>[]
theorem Nt{x:Option eO}(h:wm x=true) :x=some (.r0 (xq x) (xu x) (xv x) (xy x) (xz x) (xA x) (xB x) (xC x)):=by
  unfold wm at h
  split at h<;>first | rfl | (cases h;done) | (rename_i y;cases y;rfl)
def Hy:bC:=lC GM (.cons (.agg (.cons .fl (.cons .fl .nil))) .nil) fun t=>(fun q=>[⟨Cy (.r0 (xq q) (xu q) (xv q) (xy q) (xz q) (xA q) (xB q) (xC q)),[wm q]⟩]) (eP t.1.1.2 t.1.2.1.2)
theorem J5:bZ prog Hy:=eV fun t=>(eW (fun h=>Ns t.1.1.1 t.1.1.2 t.1.2.1.1 t.1.2.1.2 (Nt h)) fY)
def Hz:List bC:=Hy::Hw
theorem sX:cQ prog (cX Hz):=aY J5 sW
inductive gn where
  | r0 (a:Bool)
def va:gn→AE×aW
  | .r0 a=>(.ret,⟨ax 27 [(4,.bool false a)],[],0⟩)
theorem xD:xN va:=by intro x;cases x<;>(intro h;cases h)
theorem J6(id:Nat) :rh id va:=by intro x;cases x<;>(intro h;cases h)
def yX:gn→rF
  | .r0 a=>⟨.bool false a,[]⟩
def J7:List Code:=cV (qT yC)
def J8(c:Lv)(a:List Nat)(d:Lv)(b:List Nat)(_:Unit) :aW:=⟨ax 27 [(0,.imm c (.fl a) 1 1 0 (List.length a)),(1,.imm d (.fl b) 1 1 0 (List.length b)),(5,.int .i64 (0:Int))],[],0⟩
def J9(a:List Nat)(b:List Nat) :T ((Unit)⊕(gn)) :=
  .ask ((((List.length a):Nat):Int) != (((List.length b):Nat):Int))
    (.leaf (.inr (.r0 false)))
    (.leaf (.inl ()))
def sY(c:Lv)(a:List Nat)(d:Lv)(b:List Nat)(e:Nat) :aW:=⟨ax 27 [(0,.imm c (.fl a) 1 1 0 (List.length a)),(1,.imm d (.fl b) 1 1 0 (List.length b)),(5,.int .i64 ((e:Nat):Int))],[],0⟩
def De(_:Unit) :aW:=⟨ax 27 [],[],0⟩
def Ka:List Code:=cV (dm ((((J7.drop 4).take 1)).headD .skip))
def xE(b:List Nat)(c:List Nat)(a:Nat) :T ((Nat)⊕((Unit)⊕(gn))) :=
  .ask (decide (((a:Nat):Int)<(((List.length b):Nat):Int)))
    (.need (gg ((a:Nat):Int) (List.length b))<|.need (fo a (List.length b))<|.need (gg ((a:Nat):Int) (List.length c))<|.need (fo a (List.length c))<|.ask (!(CE (List.getD b a 0) (List.getD c a 0)))
      (.leaf (.inr (.inr (.r0 false))))
      (.need (fI .i64 (((a+1):Nat):Int))<|.leaf (.inl (a+1))))
    (.leaf (.inr (.inl ())))
def wn(a:List Nat)(b:List Nat) :Nat→Option ((Nat)⊕((Unit)⊕(gn))):=fun c =>
  (xE a b c).run
theorem I4(c:Lv)(a:List Nat)(d:Lv)(b:List Nat)(e:Nat) :Sg prog [] Ka (sY c a d b e) (wn a b e) (sY c a d b) (co 0 De va):=by
  unfold wn;exact cF sX (sY c a d b) [⟨[],[],[4]⟩,⟨[],[],[0,1,5]⟩,⟨[],[],[]⟩]
def I5:T ((Empty)⊕(gn)) :=
  .leaf (.inr (.r0 true))
def lB(a:List Nat)(b:List Nat) :Option gn:=toX (bd ((J9 a b).run) fun _ =>
  bd (cu (wn a b) 0) fun _ =>
  (I5).run)
theorem Kb(c:Lv)(a:List Nat)(d:Lv)(b:List Nat){x:gn}(h:lB a b=some x) :aH prog yC [] [.imm c (.fl a) 1 1 0 (List.length a),.imm d (.fl b) 1 1 0 (List.length b)] (yX x) :=
  GS false yX va h (Sg.cut 4 xD (cF sX (J8 c a d b) [⟨[],[],[4]⟩,⟨[],[],[0,1,5]⟩]) (fun _=>Sg.cut 1 xD (yE ⟨[],[],[0,1,5]⟩ (sY c a d b) (De) 0 xD (J6 _) (fun e=>I4 c a d b e)) (fun _=>cF sX Gd [⟨[],[],[4]⟩])))
    (fun x=>by cases x with | r0 f=>exact EI [.bool false f])
def qv:Option gn→Bool
  | some _=>true
  | none=>false
def qM:Option gn→Bool
  | some (.r0 x)=>x
  | _=>false
theorem Kc{x:Option gn}(h:qv x=true) :x=some (.r0 (qM x)):=by
  unfold qv at h
  split at h<;>first | rfl | (cases h;done) | (rename_i y;cases y;rfl)
def EF:bC:=lC yC (.cons .fl (.cons .fl .nil)) fun t=>(fun q=>[⟨yX (.r0 (qM q)),[qv q]⟩]) (lB t.1.2 t.2.1.2)
theorem H6:bZ prog EF:=eV fun t=>(eW (fun h=>Kb t.1.1 t.1.2 t.2.1.1 t.2.1.2 (Kc h)) fY)
def EG:List bC:=EF::Hz
theorem vm:cQ prog (cX EG):=aY H6 sX
inductive pM where
  | r0 (a:Bool)
def KM:pM→AE×aW
  | .r0 a=>(.ret,⟨ax 17 [(4,.bool false a)],[],0⟩)
theorem PZ:xN KM:=by intro x;cases x<;>(intro h;cases h)
def FL:pM→rF
  | .r0 a=>⟨.bool false a,[]⟩
def P0(a:Bool) :aW:=⟨ax 17 [(4,.bool false a)],[],0⟩
def I6(b:List Nat)(c:List Nat)(a:Int) :T ((Bool)⊕(pM)) :=
  .ask (decide ((((List.length b):Nat):Int)≤a))
    (.leaf (.inl (decide ((((List.length c):Nat):Int)≤a))))
    (.leaf (.inl false))
def P3(a:Bool) :T ((Empty)⊕(pM)) :=
  .leaf (.inr (.r0 a))
def yw(a:List Nat)(b:List Nat)(c:Int) :Option pM:=toX (bd ((I6 a b c).run) fun d =>
  (P3 d).run)
theorem P4(d:Lv)(a:List Nat)(e:Lv)(b:List Nat)(c:Int){x:pM}(h:yw a b c=some x) :aH prog KD [] [.agg [.imm d (.fl a) 1 1 0 (List.length a),.imm e (.fl b) 1 1 0 (List.length b)],.int .i64 c] (FL x) :=
  GS false FL KM h (Sg.cut 2 PZ (cF vm P0 [⟨[],[],[4]⟩,⟨[],[],[4]⟩]) (fun g=>cF vm Gd [⟨[],[],[4]⟩]))
    (fun x=>by cases x with | r0 f=>exact EI [.bool false f])
def zC:Option pM→Bool
  | some _=>true
  | none=>false
def Av:Option pM→Bool
  | some (.r0 x)=>x
  | _=>false
theorem P5{x:Option pM}(h:zC x=true) :x=some (.r0 (Av x)):=by
  unfold zC at h
  split at h<;>first | rfl | (cases h;done) | (rename_i y;cases y;rfl)
def KN:bC:=lC KD (.cons (.agg (.cons .fl (.cons .fl .nil))) (.cons (.int .i64) .nil)) fun t=>(fun q=>[⟨FL (.r0 (Av q)),[zC q]⟩]) (yw t.1.1.2 t.1.2.1.2 t.2.1)
theorem Nu:bZ prog KN:=eV fun t=>(eW (fun h=>P4 t.1.1.1 t.1.1.2 t.1.2.1.1 t.1.2.1.2 t.2.1 (P5 h)) fY)
def KO:List bC:=KN::EG
theorem wo:cQ prog (cX KO):=aY Nu vm
inductive jj where
  | r0 (a:Int) (b:Nat) (c:List Nat)
def Bq:jj→AE×aW
  | .r0 a b c=>(.ret,⟨ax 26 [(2,.ptr 0 1 0 0)],[(0,.vs [.int .i64 a,.int .i64 a,.sl 1 1 1 0 b b]),(1,.fl c)],2⟩)
theorem DM:xN Bq:=by intro x;cases x<;>(intro h;cases h)
theorem P6(id:Nat) :rh id Bq:=by intro x;cases x<;>(intro h;cases h)
def FM:jj→rF
  | .r0 a b c=>⟨.agg [.int .i64 a,.int .i64 a,.sl 0 1 1 0 b b],[some (.fl c)]⟩
def P7:List Code:=cV (qT E7)
def P8(a:Int) :Nat×(List Nat)→aW:=fun (b,c)=>⟨ax 26 [(0,.int .i64 a),(2,.ptr 0 1 0 0),(3,.ptr 1 1 0 0),(4,.int .i64 (0:Int))],[(0,.vs [.int .i64 (0:Int),.int .i64 (0:Int),.nsl]),(1,.vs [.int .i64 a,.int .i64 a,.sl 2 1 1 0 b b]),(2,.fl c)],3⟩
def I7(a:Int) :T ((Nat×(List Nat))⊕(jj)) :=
  .need (fI .i64 (a*a))<|.need (decide ((0:Int)≤(a*a)))<|.need (decide ((a*a)≤(a*a)))<|.need (decide ((8:Int)*(a*a)≤140737488355328))<|.need (fI .i64 (a*a))<|.leaf (.inl ((Int.toNat (a*a)),(List.replicate (Int.toNat (a*a)) 0)))
def zD(a:Int)(b:Nat) :Nat×(List Nat)→aW:=fun (c,d)=>⟨ax 26 [(0,.int .i64 a),(2,.ptr 0 1 0 0),(3,.ptr 1 1 0 0),(4,.int .i64 ((c:Nat):Int))],[(0,.vs [.int .i64 (0:Int),.int .i64 (0:Int),.nsl]),(1,.vs [.int .i64 a,.int .i64 a,.sl 2 1 1 0 b b]),(2,.fl d)],3⟩
def I8(a:Int)(b:Nat)(c:(List Nat)) :aW:=⟨ax 26 [(2,.ptr 0 1 0 0),(3,.ptr 1 1 0 0)],[(0,.vs [.int .i64 (0:Int),.int .i64 (0:Int),.nsl]),(1,.vs [.int .i64 a,.int .i64 a,.sl 2 1 1 0 b b]),(2,.fl c)],3⟩
def P9:List Code:=cV (dm ((((P7.drop 3).take 1)).headD .skip))
def wq(b:Int)(d:Nat)(a:Nat)(c:List Nat) :T ((Nat×(List Nat))⊕(((List Nat))⊕(jj))) :=
  .ask (decide (((a:Nat):Int)<b))
    (.need (fI .i64 (((a:Nat):Int)*b))<|.need (fI .i64 ((((a:Nat):Int)*b)+((a:Nat):Int)))<|.need (gg ((((a:Nat):Int)*b)+((a:Nat):Int)) d)<|.need (fo (Int.toNat ((((a:Nat):Int)*b)+((a:Nat):Int))) (List.length c))<|.need (fI .i64 (((a+1):Nat):Int))<|.leaf (.inl ((a+1),(List.set c (Int.toNat ((((a:Nat):Int)*b)+((a:Nat):Int))) 4607182418800017408))))
    (.leaf (.inr (.inl c)))
def Cz(a:Int)(b:Nat) :Nat×(List Nat)→Option ((Nat×(List Nat))⊕(((List Nat))⊕(jj))):=fun (c,d) =>
  (wq a b c d).run
theorem On(a:Int)(b:Nat)(c:Nat)(d:List Nat) :Sg prog [] P9 (zD a b (c,d)) (Cz a b (c,d)) (zD a b) (co 0 (I8 a b) Bq):=by
  unfold Cz;exact cF wo (zD a b) [⟨[],[0,1,2],[0,2,3,4]⟩,⟨[],[0,1,2],[2,3]⟩]
def Oo(a:Int)(b:Nat)(c:List Nat) :T ((Empty)⊕(jj)) :=
  .leaf (.inr (.r0 a b c))
def bi(a:Int) :Option jj:=toX (bd ((I7 a).run) fun (b,c) =>
  bd (cu (Cz a b) (0,c)) fun d =>
  (Oo a b d).run)
theorem Qa(a:Int){x:jj}(h:bi a=some x) :aH prog E7 [] [.int .i64 a] (FM x) :=
  GS false FM Bq h (Sg.cut 3 DM (cF wo (P8 a) [⟨[],[0,128,96],[0,2,3,4]⟩]) (fun ⟨b,g⟩=>Sg.cut 1 DM (yE ⟨[],[0,1,2],[0,2,3,4]⟩ (zD a b) (I8 a b) 0 DM (P6 _) (fun ⟨e,f⟩=>On a b e f)) (fun i=>cF wo Gd [⟨[],[0,2],[2]⟩])))
    (fun x=>by cases x with | r0 c d j=>exact EI [.agg [.int .i64 c,.int .i64 c,.sl 1 1 1 0 d d]])
def ws:Option jj→Bool
  | some _=>true
  | none=>false
def cn:Option jj→Int
  | some (.r0 x _ _)=>x
  | _=>0
def fO:Option jj→Nat
  | some (.r0 _ x _)=>x
  | _=>0
def fP:Option jj→List Nat
  | some (.r0 _ _ x)=>x
  | _=>[]
theorem Qb{x:Option jj}(h:ws x=true) :x=some (.r0 (cn x) (fO x) (fP x)):=by
  unfold ws at h
  split at h<;>first | rfl | (cases h;done) | (rename_i y;cases y;rfl)
def KP:bC:=lC E7 (.cons (.int .i64) .nil) fun t=>(fun q=>[⟨FM (.r0 (cn q) (fO q) (fP q)),[ws q]⟩]) (bi t.1)
theorem Nv:bZ prog KP:=eV fun t=>(eW (fun h=>Qa t.1 (Qb h)) fY)
def KQ:List bC:=KP::KO
theorem Aw:cQ prog (cX KQ):=aY Nv wo
inductive mN where
  | r0 (a:Bool)
def I9:mN→AE×aW
  | .r0 a=>(.ret,⟨ax 24 [(4,.bool false a)],[],0⟩)
theorem Oq:xN I9:=by intro x;cases x<;>(intro h;cases h)
def DN:mN→rF
  | .r0 a=>⟨.bool false a,[]⟩
def Ot(a:Bool) :aW:=⟨ax 24 [(4,.bool false a)],[],0⟩
def HA(c:Int)(d:Int)(a:List Nat)(e:Int)(f:Int)(b:List Nat) :T ((Bool)⊕(mN)) :=
  .ask (c==e)
    (.ask (d==f)
      (.need (di 0 (List.length a) a)<|.need (di 0 (List.length b) b)<|.need (qv (lB (ay 0 (List.length a) a) (ay 0 (List.length b) b)))<|.leaf (.inl (qM (lB (ay 0 (List.length a) a) (ay 0 (List.length b) b)))))
      (.leaf (.inl false)))
    (.leaf (.inl false))
def Ou(a:Bool) :T ((Empty)⊕(mN)) :=
  .leaf (.inr (.r0 a))
def wt(a:Int)(b:Int)(c:List Nat)(d:Int)(e:Int)(f:List Nat) :Option mN:=toX (bd ((HA a b c d e f).run) fun g =>
  (Ou g).run)
theorem Ov(c:Int)(d:Int)(g:Lv)(a:List Nat)(e:Int)(f:Int)(i:Lv)(b:List Nat){x:mN}(h:wt c d a e f b=some x) :aH prog ID [] [.agg [.int .i64 c,.int .i64 d,.imm g (.fl a) 1 1 0 (List.length a)],.agg [.int .i64 e,.int .i64 f,.imm i (.fl b) 1 1 0 (List.length b)]] (DN x) :=
  GS false DN I9 h (Sg.cut 2 Oq (cF Aw Ot [⟨[],[],[4]⟩,⟨[],[],[4]⟩,⟨[],[],[4]⟩]) (fun k=>cF Aw Gd [⟨[],[],[4]⟩]))
    (fun x=>by cases x with | r0 j=>exact EI [.bool false j])
def yh:Option mN→Bool
  | some _=>true
  | none=>false
def yY:Option mN→Bool
  | some (.r0 x)=>x
  | _=>false
theorem Ow{x:Option mN}(h:yh x=true) :x=some (.r0 (yY x)):=by
  unfold yh at h
  split at h<;>first | rfl | (cases h;done) | (rename_i y;cases y;rfl)
def Ja:bC:=lC ID (.cons (.agg (.cons (.int .i64) (.cons (.int .i64) (.cons .fl .nil)))) (.cons (.agg (.cons (.int .i64) (.cons (.int .i64) (.cons .fl .nil)))) .nil)) fun t=>(fun q=>[⟨DN (.r0 (yY q)),[yh q]⟩]) (wt t.1.1 t.1.2.1 t.1.2.2.1.2 t.2.1.1 t.2.1.2.1 t.2.1.2.2.1.2)
theorem LD:bZ prog Ja:=eV fun t=>(eW (fun h=>Ov t.1.1 t.1.2.1 t.1.2.2.1.1 t.1.2.2.1.2 t.2.1.1 t.2.1.2.1 t.2.1.2.2.1.1 t.2.1.2.2.1.2 (Ow h)) fY)
def Jb:List bC:=Ja::KQ
theorem ja:cQ prog (cX Jb):=aY LD Aw
inductive bY where
  | r0 (a:Bool)
def qN:bY→AE×aW
  | .r0 a=>(.ret,⟨ax 116 [(2,.bool false a)],[],0⟩)
theorem gw:xN qN:=by intro x;cases x<;>(intro h;cases h)
theorem Gr(id:Nat) :rh id qN:=by intro x;cases x<;>(intro h;cases h)
def vn:bY→rF
  | .r0 a=>⟨.bool false a,[]⟩
def FO:List Code:=cV (qT vb)
def Gs(c:Lv)(a:List Nat)(d:Lv)(b:List Nat)(e:Bool) :aW:=⟨ax 116 [(1,.ptr 0 1 0 0),(14,.bool false e)],[(0,.vs [.imm c (.fl a) 1 1 0 (List.length a),.imm d (.fl b) 1 1 0 (List.length b)])],1⟩
def sx(a:List Nat)(b:List Nat) :T ((Bool)⊕(bY)) :=
  .need (di 0 (List.length a) a)<|.need (di 0 (List.length b) b)<|.need (zC (yw (ay 0 (List.length a) a) (ay 0 (List.length b) b) (12:Int)))<|.leaf (.inl (!(Av (yw (ay 0 (List.length a) a) (ay 0 (List.length b) b) (12:Int)))))
def Gt(e:Lv)(a:List Nat)(f:Lv)(b:List Nat) :Nat×Nat×Nat×(List Nat)×Int×Int×Nat×(List Nat)→aW:=fun (c,g,h,i,j,k,d,l)=>⟨ax 116 [(1,.ptr 0 1 0 0),(3,.sl 1 1 1 0 c c),(4,.ptr 2 1 0 0),(5,.int .i64 ((g:Nat):Int)),(6,.int .i64 ((h:Nat):Int))],[(0,.vs [.imm e (.fl a) 1 1 0 (List.length a),.imm f (.fl b) 1 1 0 (List.length b)]),(1,.fl i),(2,.vs [.int .i64 j,.int .i64 k,.sl 3 1 1 0 d d]),(3,.fl l)],4⟩
def sy(a:List Nat)(b:List Nat)(c:Bool) :T ((Nat×Nat×Nat×(List Nat)×Int×Int×Nat×(List Nat))⊕(bY)) :=
  .ask c
    (.leaf (.inr (.r0 true)))
    (.need (di 0 (List.length a) a)<|.need (di 0 (List.length b) b)<|.need (wm (eP (ay 0 (List.length a) a) (ay 0 (List.length b) b)))<|.leaf (.inl ((xq (eP (ay 0 (List.length a) a) (ay 0 (List.length b) b))),(xu (eP (ay 0 (List.length a) a) (ay 0 (List.length b) b))),(xv (eP (ay 0 (List.length a) a) (ay 0 (List.length b) b))),(xy (eP (ay 0 (List.length a) a) (ay 0 (List.length b) b))),(xz (eP (ay 0 (List.length a) a) (ay 0 (List.length b) b))),(xA (eP (ay 0 (List.length a) a) (ay 0 (List.length b) b))),(xB (eP (ay 0 (List.length a) a) (ay 0 (List.length b) b))),(xC (eP (ay 0 (List.length a) a) (ay 0 (List.length b) b))))))
def Gu(e:Lv)(a:List Nat)(f:Lv)(b:List Nat)(c:Nat)(g:Nat)(h:List Nat)(i:Int)(j:Int)(d:Nat)(k:List Nat)(l:Bool) :aW:=⟨ax 116 [(1,.ptr 0 1 0 0),(3,.sl 1 1 1 0 c c),(4,.ptr 2 1 0 0),(5,.int .i64 ((g:Nat):Int)),(65,.bool false l)],[(0,.vs [.imm e (.fl a) 1 1 0 (List.length a),.imm f (.fl b) 1 1 0 (List.length b)]),(1,.fl h),(2,.vs [.int .i64 i,.int .i64 j,.sl 3 1 1 0 d d]),(3,.fl k)],4⟩
def kV(b:List Nat)(a:Nat)(c:Nat)(d:Nat)(e:Int)(f:Int)(g:Nat) :T ((Bool)⊕(bY)) :=
  .ask (((d:Nat):Int) != (0:Int))
    (.ask (((a:Nat):Int)==(0:Int))
      (.ask (((c:Nat):Int)==(0:Int))
        (.leaf (.inr (.r0 true)))
        (.leaf (.inr (.r0 false))))
      (.leaf (.inr (.r0 false))))
    (.ask (((a:Nat):Int) != (((List.length b):Nat):Int))
      (.leaf (.inl true))
      (.ask (e != ((a:Nat):Int))
        (.leaf (.inl true))
        (.ask (f != ((a:Nat):Int))
          (.leaf (.inl true))
          (.need (fI .i64 (((a*a):Nat):Int))<|.leaf (.inl (((g:Nat):Int) != (((a*a):Nat):Int)))))))
def Gv(e:Lv)(a:List Nat)(f:Lv)(b:List Nat)(c:Nat)(g:Nat)(h:List Nat)(i:Int)(j:Int)(d:Nat)(k:List Nat)(_:Unit) :aW:=⟨ax 116 [(1,.ptr 0 1 0 0),(3,.sl 1 1 1 0 c c),(4,.ptr 2 1 0 0),(5,.int .i64 ((g:Nat):Int)),(7,.int .i64 (1:Int))],[(0,.vs [.imm e (.fl a) 1 1 0 (List.length a),.imm f (.fl b) 1 1 0 (List.length b)]),(1,.fl h),(2,.vs [.int .i64 i,.int .i64 j,.sl 3 1 1 0 d d]),(3,.fl k)],4⟩
def FP(a:Bool) :T ((Unit)⊕(bY)) :=
  .ask a
    (.leaf (.inr (.r0 false)))
    (.leaf (.inl ()))
def qk(e:Lv)(a:List Nat)(f:Lv)(b:List Nat)(c:Nat)(g:Nat)(h:List Nat)(i:Int)(j:Int)(d:Nat)(k:List Nat)(l:Nat) :aW:=⟨ax 116 [(1,.ptr 0 1 0 0),(3,.sl 1 1 1 0 c c),(4,.ptr 2 1 0 0),(5,.int .i64 ((g:Nat):Int)),(7,.int .i64 ((l:Nat):Int))],[(0,.vs [.imm e (.fl a) 1 1 0 (List.length a),.imm f (.fl b) 1 1 0 (List.length b)]),(1,.fl h),(2,.vs [.int .i64 i,.int .i64 j,.sl 3 1 1 0 d d]),(3,.fl k)],4⟩
def zi(e:Lv)(a:List Nat)(f:Lv)(b:List Nat)(c:Nat)(g:Nat)(h:List Nat)(i:Int)(j:Int)(d:Nat)(k:List Nat)(_:Unit) :aW:=⟨ax 116 [(1,.ptr 0 1 0 0),(3,.sl 1 1 1 0 c c),(4,.ptr 2 1 0 0),(5,.int .i64 ((g:Nat):Int))],[(0,.vs [.imm e (.fl a) 1 1 0 (List.length a),.imm f (.fl b) 1 1 0 (List.length b)]),(1,.fl h),(2,.vs [.int .i64 i,.int .i64 j,.sl 3 1 1 0 d d]),(3,.fl k)],4⟩
def FQ:List Code:=cV (dm (((((((FO.drop 2).drop 2).drop 3).drop 2).take 1)).headD .skip))
def iA(c:Nat)(b:List Nat)(a:Nat) :T ((Nat)⊕((Unit)⊕(bY))) :=
  .ask (decide (((a:Nat):Int)<((c:Nat):Int)))
    (.need (gg ((a:Nat):Int) c)<|.need (fo a (List.length b))<|.need (fI .i64 (((a:Nat):Int)-(1:Int)))<|.need (gg (((a:Nat):Int)-(1:Int)) c)<|.need (fo (Int.toNat (((a:Nat):Int)-(1:Int))) (List.length b))<|.ask (flt (List.getD b a 0) (List.getD b (Int.toNat (((a:Nat):Int)-(1:Int))) 0))
      (.leaf (.inr (.inr (.r0 false))))
      (.need (fI .i64 (((a+1):Nat):Int))<|.leaf (.inl (a+1))))
    (.leaf (.inr (.inl ())))
def sz(a:Nat)(b:List Nat) :Nat→Option ((Nat)⊕((Unit)⊕(bY))):=fun c =>
  (iA a b c).run
theorem FS(c:Lv)(d:List Nat)(e:Lv)(f:List Nat)(a:Nat)(g:Nat)(b:List Nat)(h:Int)(i:Int)(j:Nat)(k:List Nat)(l:Nat) :Sg prog [] FQ (qk c d e f a g b h i j k l) (sz a b l) (qk c d e f a g b h i j k) (co 0 (zi c d e f a g b h i j k) qN):=by
  unfold sz;exact cF ja (qk c d e f a g b h i j k) [⟨[],[],[2]⟩,⟨[],[0,1,2,3],[1,3,4,5,7]⟩,⟨[],[0,1,2,3],[1,3,4,5]⟩]
def Gw(a:Nat)(e:Nat)(f:List Nat)(g:Int)(h:Int)(b:Nat)(i:List Nat) :Nat×Nat×Nat×(List Nat)×Int×Int×Nat×(List Nat)→aW:=fun (c,j,k,l,m,n,d,o)=>⟨ax 116 [(3,.sl 0 1 1 0 a a),(4,.ptr 1 1 0 0),(5,.int .i64 ((e:Nat):Int)),(8,.sl 2 1 1 0 c c),(9,.ptr 3 1 0 0),(10,.int .i64 ((j:Nat):Int)),(11,.int .i64 ((k:Nat):Int))],[(0,.fl f),(1,.vs [.int .i64 g,.int .i64 h,.sl 4 1 1 0 b b]),(2,.fl l),(3,.vs [.int .i64 m,.int .i64 n,.sl 5 1 1 0 d d]),(4,.fl i),(5,.fl o)],6⟩
def sA(b:List Nat)(c:List Nat)(a:Nat) :T ((Nat×Nat×Nat×(List Nat)×Int×Int×Nat×(List Nat))⊕(bY)) :=
  .ask (decide (((a:Nat):Int)>(2:Int)))
    (.leaf (.inr (.r0 true)))
    (.need (ws (bi ((a:Nat):Int)))<|.need (di 0 (List.length b) b)<|.need (di 0 (List.length c) c)<|.need (di 0 (fO (bi ((a:Nat):Int))) (fP (bi ((a:Nat):Int))))<|.need (yv (fg (ay 0 (List.length b) b) (ay 0 (List.length c) c) (cn (bi ((a:Nat):Int))) (cn (bi ((a:Nat):Int))) (ay 0 (fO (bi ((a:Nat):Int))) (fP (bi ((a:Nat):Int))))))<|.leaf (.inl ((xU (fg (ay 0 (List.length b) b) (ay 0 (List.length c) c) (cn (bi ((a:Nat):Int))) (cn (bi ((a:Nat):Int))) (ay 0 (fO (bi ((a:Nat):Int))) (fP (bi ((a:Nat):Int)))))),(xV (fg (ay 0 (List.length b) b) (ay 0 (List.length c) c) (cn (bi ((a:Nat):Int))) (cn (bi ((a:Nat):Int))) (ay 0 (fO (bi ((a:Nat):Int))) (fP (bi ((a:Nat):Int)))))),(xW (fg (ay 0 (List.length b) b) (ay 0 (List.length c) c) (cn (bi ((a:Nat):Int))) (cn (bi ((a:Nat):Int))) (ay 0 (fO (bi ((a:Nat):Int))) (fP (bi ((a:Nat):Int)))))),(xX (fg (ay 0 (List.length b) b) (ay 0 (List.length c) c) (cn (bi ((a:Nat):Int))) (cn (bi ((a:Nat):Int))) (ay 0 (fO (bi ((a:Nat):Int))) (fP (bi ((a:Nat):Int)))))),(xY (fg (ay 0 (List.length b) b) (ay 0 (List.length c) c) (cn (bi ((a:Nat):Int))) (cn (bi ((a:Nat):Int))) (ay 0 (fO (bi ((a:Nat):Int))) (fP (bi ((a:Nat):Int)))))),(xZ (fg (ay 0 (List.length b) b) (ay 0 (List.length c) c) (cn (bi ((a:Nat):Int))) (cn (bi ((a:Nat):Int))) (ay 0 (fO (bi ((a:Nat):Int))) (fP (bi ((a:Nat):Int)))))),(ya (fg (ay 0 (List.length b) b) (ay 0 (List.length c) c) (cn (bi ((a:Nat):Int))) (cn (bi ((a:Nat):Int))) (ay 0 (fO (bi ((a:Nat):Int))) (fP (bi ((a:Nat):Int)))))),(yb (fg (ay 0 (List.length b) b) (ay 0 (List.length c) c) (cn (bi ((a:Nat):Int))) (cn (bi ((a:Nat):Int))) (ay 0 (fO (bi ((a:Nat):Int))) (fP (bi ((a:Nat):Int)))))))))
def FU(a:Bool) :aW:=⟨ax 116 [(2,.bool false a)],[],0⟩
def pN(a:Nat)(m:Nat)(b:List Nat)(i:Int)(j:Int)(c:Nat)(d:List Nat)(e:Nat)(n:Nat)(o:Nat)(f:List Nat)(k:Int)(l:Int)(g:Nat)(h:List Nat) :T ((Bool)⊕(bY)) :=
  .ask (((o:Nat):Int)==(0:Int))
    (.ask (((n:Nat):Int)==((m:Nat):Int))
      (.need (di 0 e f)<|.need (di 0 a b)<|.need (qv (lB (ay 0 e f) (ay 0 a b)))<|.ask (qM (lB (ay 0 e f) (ay 0 a b)))
        (.need (di 0 g h)<|.need (di 0 c d)<|.need (yh (wt k l (ay 0 g h) i j (ay 0 c d)))<|.ask (yY (wt k l (ay 0 g h) i j (ay 0 c d)))
          (.leaf (.inl true))
          (.leaf (.inl false)))
        (.leaf (.inl false)))
      (.leaf (.inl false)))
    (.leaf (.inl false))
def yx(a:Bool) :T ((Empty)⊕(bY)) :=
  .leaf (.inr (.r0 a))
def oK(a:List Nat)(c:List Nat) :Option bY:=toX (bd ((sx a c).run) fun i =>
  bd ((sy a c i).run) fun (b,d,j,e,f,g,h,k) =>
  bd ((kV a b d j f g h).run) fun l =>
  bd ((FP l).run) fun _ =>
  bd (cu (sz b e) 1) fun _ =>
  bd ((sA a c b).run) fun (m,n,o,p,q,r,s,t) =>
  bd ((pN b d e f g h k m n o p q r s t).run) fun u =>
  (yx u).run)
theorem zj(c:Lv)(a:List Nat)(d:Lv)(b:List Nat){x:bY}(h:oK a b=some x) :aH prog vb [] [.agg [.imm c (.fl a) 1 1 0 (List.length a),.imm d (.fl b) 1 1 0 (List.length b)]] (vn x) :=
  GS false vn qN h (Sg.cut 2 gw (cF ja (Gs c a d b) [⟨[],[0],[1,14]⟩]) (fun o=>Sg.cut 2 gw (cF ja (Gt c a d b) [⟨[],[],[2]⟩,⟨[],[0,17,113,18],[1,3,4,5,6]⟩]) (fun ⟨e,f,p,g,i,j,k,l⟩=>Sg.cut 3 gw (cF ja (Gu c a d b e f g i j k l) [⟨[],[],[2]⟩,⟨[],[],[2]⟩,⟨[],[],[2]⟩,⟨[],[0,1,2,3],[1,3,4,5,65]⟩,⟨[],[0,1,2,3],[1,3,4,5,65]⟩,⟨[],[0,1,2,3],[1,3,4,5,65]⟩,⟨[],[0,1,2,3],[1,3,4,5,65]⟩]) (fun q=>Sg.cut 2 gw (cF ja (Gv c a d b e f g i j k l) [⟨[],[],[2]⟩,⟨[],[0,1,2,3],[1,3,4,5,7]⟩]) (fun _=>Sg.cut 1 gw (yE ⟨[],[0,1,2,3],[1,3,4,5,7]⟩ (qk c a d b e f g i j k l) (zi c a d b e f g i j k l) 0 gw (Gr _) (fun m=>FS c a d b e f g i j k l m)) (fun _=>Sg.cut 3 gw (cF ja (Gw e f g i j k l) [⟨[],[],[2]⟩,⟨[],[1,2,116,212,3,117],[3,4,5,8,9,10,11]⟩]) (fun ⟨r,s,t,u,v,w,y,z⟩=>Sg.cut 1 gw (cF ja FU [⟨[],[],[2]⟩,⟨[],[],[2]⟩,⟨[],[],[2]⟩,⟨[],[],[2]⟩,⟨[],[],[2]⟩]) (fun A=>cF ja Gd [⟨[],[],[2]⟩]))))))))
    (fun x=>by cases x with | r0 n=>exact EI [.bool false n])
def ua:Option bY→Bool
  | some _=>true
  | none=>false
def wU:Option bY→Bool
  | some (.r0 x)=>x
  | _=>false
theorem Gx{x:Option bY}(h:ua x=true) :x=some (.r0 (wU x)):=by
  unfold ua at h
  split at h<;>first | rfl | (cases h;done) | (rename_i y;cases y;rfl)
def Ax:bC:=lC vb (.cons (.agg (.cons .fl (.cons .fl .nil))) .nil) fun t=>(fun q=>[⟨vn (.r0 (wU q)),[ua q]⟩]) (oK t.1.1.2 t.1.2.1.2)
theorem EP:bZ prog Ax:=eV fun t=>(eW (fun h=>zj t.1.1.1 t.1.1.2 t.1.2.1.1 t.1.2.1.2 (Gx h)) fY)
def H7:List bC:=Ax::Jb
theorem Qe:cQ prog (cX H7):=aY EP ja
end
end Go.Plb.Seat
namespace Go.Plb
set_option linter.unusedSimpArgs false
set_option linter.unusedVariables false
set_option linter.unusedSectionVars false
variable [Rom]
theorem mO{α:Type}{b:Bool}{t:T α}{x:Option α}(h:b=true)(k:t.run=x) :(T.need b t).run=x:=by subst h;exact k
theorem T.at{α:Type}{b:Bool}{t f:T α}{x:Option α}(h:b=true)(k:t.run=x) :(T.ask b t f).run=x:=by subst h;exact k
theorem zE{α:Type}{b:Bool}{t f:T α}{x:Option α}(h:b=false)(k:f.run=x) :(T.ask b t f).run=x:=by subst h;exact k
theorem W9{α:Type}{k:Nat}{t f:T α}{a:α}(h:t.run=some a) :(T.alt k t f).run=some a:=by simp only [T.run,h]
theorem Xa{α:Type}{b:Bool}{t:T α}(h:b=false) :(T.need b t).run=none:=by subst h;rfl
theorem sB{α:Type}{b:Bool}{t:T α}{x:Option α}(k:t.run=x)(h:b=true:=by exact rfl) :(T.need b t).run=x:=mO h k
theorem FV{α:Type}{b:Bool}{t f:T α}{x:Option α}(k:t.run=x)(h:b=true:=by exact rfl) :(T.ask b t f).run=x:=T.at h k
theorem Br{α:Type}{b:Bool}{t f:T α}{x:Option α}(k:f.run=x)(h:b=false:=by exact rfl) :(T.ask b t f).run=x:=zE h k
theorem df{α β X:Type}{m:Option (α⊕X)}{k:α→Option (β⊕X)}{a:α}{x:Option (β⊕X)}(h:m=some (.inl a))(q:k a=x) :bd m k=x:=by subst h;exact q
theorem qZ{α β X:Type}{m:Option (α⊕X)}{k:α→Option (β⊕X)}{y:X}(h:m=some (.inr y)) :bd m k=some (.inr y):=by subst h;rfl
theorem UT{κ X:Type}{m:Option (κ⊕(κ⊕X))}{a:κ}(h:m=some (.inl a)) :vO m=some (.inl a):=by subst h;rfl
theorem TC{κ X:Type}{m:Option (κ⊕(κ⊕X))}{a:κ}(h:m=some (.inr (.inl a))) :vO m=some (.inl a):=by subst h;rfl
theorem OM{κ X:Type}{m:Option (κ⊕(κ⊕X))}{a:X}(h:m=some (.inr (.inr a))) :vO m=some (.inr a):=by subst h;rfl
theorem kh{X:Type}{m:Option (Empty⊕X)}{x:X}(h:m=some (.inr x)) :toX m=some x:=by subst h;rfl
theorem ON{σ Y:Type}{B:σ→Option (σ⊕Y)}(st:Nat→σ)(n:Nat){y:Y}(i:Nat)(hi:i≤n)(step:∀ j,i≤j→j<n→B (st j)=some (.inl (st (j+1))))(done:B (st n)=some (.inr y)) :cu B (st i)=some y:=by
  obtain ⟨d,rfl⟩:∃ d,n=i+d:=⟨n-i,by omega⟩
  clear hi
  induction d generalizing i with
  | zero=>exact OK done
  | succ d ih =>
    rw [Q3 (step i (Nat.le_refl _) (by omega))]
    have e:i+(d+1)=i+1+d:=by omega
    rw [e] at step done
    exact ih (i+1) (fun j h1 h2=>step j (by omega) h2) done
theorem wu{σ Y:Type}{B:σ→Option (σ⊕Y)}(st:Nat→σ)(n:Nat){y:Y}{s0:σ}(h0:s0=st 0)(step:∀ j,j<n→B (st j)=some (.inl (st (j+1))))(done:B (st n)=some (.inr y)) :cu B s0=some y:=by
  rw [h0];exact ON st n 0 (Nat.zero_le _) (fun j _=>step j) done
theorem ao{n:Int} :fI .i64 n=true↔-9223372036854775808≤n∧n≤9223372036854775807:=by
  have e1:IntKind.i64.min = -9223372036854775808:=by decide
  have e2:IntKind.i64.max=9223372036854775807:=by decide
  simp only [fI,e1,e2,Bool.and_eq_true,decide_eq_true_eq]
theorem aO{k:Int}{n:Nat} :gg k n=true↔0≤k∧k<n:=by simp only [gg,Bool.and_eq_true,decide_eq_true_eq]
theorem aP{k:Int}{n:Nat} :Ay k n=true↔0≤k∧k≤n:=by simp only [Ay,Bool.and_eq_true,decide_eq_true_eq]
theorem aq{k n:Nat} :fo k n=true↔k<n:=by simp [fo]
theorem aw{k n:Nat} :pS k n=true↔k≤n:=by simp [pS]
theorem cO{k n:Nat} :Nat.ble k n=true↔k≤n:=by rw [Nat.ble_eq]
theorem cP{k n:Nat} :Nat.blt k n=true↔k<n:=by rw [Nat.blt_eq]
def Wo{α:Type}(pos:Nat→Nat)(val:Nat→α)(l:List α) :Nat→List α
  | 0=>l
  | n+1=>(Wo pos val l n).set (pos n) (val n)
theorem bK{α:Type}{pos:Nat→Nat}{val:Nat→α}{l:List α} :∀ {n:Nat},(Wo pos val l n).length=l.length
  | 0=>rfl
  | n+1=>by simp only [Wo,List.length_set];exact bK
theorem Rh{α:Type}(l:List α) :di 0 l.length l=true:=by rw [am];omega
theorem kW{α:Type}{b:Bool}{t:T α}{x:Option α}(k:t.run=x)(h:b=true:=by exact Rh _) :(T.need b t).run=x:=mO h k
theorem ff{α:Type}{n:Nat}{l:List α}(h:l.length=n) :ay 0 n l=l:=by rw [←h];exact ak l
theorem OO{p:Nat→Prop} [DecidablePred p]:∀ {n:Nat},(¬ ∀ i,i<n→p i)→∃ k,k<n∧¬ p k∧∀ j,j<k→p j
  | 0,h=>(h fun i hi=>absurd hi (Nat.not_lt_zero _)).elim
  | n+1,h=>by
    by_cases q:∀ i,i<n→p i
    · refine ⟨n,Nat.lt_succ_self _,fun r=>h fun i hi=>?_,q⟩
      rcases Nat.lt_succ_iff_lt_or_eq.1 hi with a | rfl
      · exact q i a
      · exact r
    · obtain ⟨k,h1,h2,h3⟩:=OO q
      exact ⟨k,by omega,h2,h3⟩
theorem ah(n:Nat) :Int.toNat (n:Int)=n:=rfl
def DO(x:Nat) :Nat:=if x<4503599627370496 then x else 4503599627370496+x%4503599627370496
def qw(x:Nat) :Nat:=x/4503599627370496-1
theorem Nw{x:Nat}(h:x<9218868437227405312) :FloatKind.f64.format.read x=.number false (DO x) (-1074+(qw x:Int)):=by
  have e1:Ieee.double.signWeight=9223372036854775808:=by decide
  have e2:Ieee.double.binade=4503599627370496:=by decide
  have e3:Ieee.double.infRung=9218868437227405312:=by decide
  have e4:Ieee.double.leastPlace = -1074:=by decide
  show Ieee.double.read x=_
  unfold Ieee.Format.read
  simp only [e1,e2,e3,e4]
  have h1:x/9223372036854775808%2=0:=by omega
  have h2:x%9223372036854775808=x:=by omega
  rw [h1,h2]
  by_cases h3:x<4503599627370496
  · rw [if_pos h3]
    have:qw x=0:=by unfold qw;omega
    simp only [DO,if_pos h3,this];rfl
  · rw [if_neg h3,if_pos h]
    simp only [DO,if_neg h3,qw];rfl
theorem Vu(x:Nat) :DO x<9007199254740992:=by unfold DO;split<;>omega
theorem Vv{x:Nat}(h:0<qw x) :4503599627370496≤DO x:=by unfold qw at h;unfold DO;rw [if_neg (by omega)];omega
theorem Jc{x y:Nat}(hx:x<9218868437227405312)(hy:y<9218868437227405312) :
    vA x y=some (compare ((DO x*2^(qw x-min (qw x) (qw y)):Nat):Int) ((DO y*2^(qw y-min (qw x) (qw y)):Nat):Int)):=by
  unfold vA Ieee.Format.order
  rw [Nw hx,Nw hy]
  simp only [Ieee.Datum.order,Ieee.signed,Bool.false_eq_true,if_false,Nat.shiftLeft_eq]
  have e1:((-1074+(qw x:Int))-min (-1074+(qw x:Int)) (-1074+(qw y:Int))).toNat=qw x-min (qw x) (qw y):=by omega
  have e2:((-1074+(qw y:Int))-min (-1074+(qw x:Int)) (-1074+(qw y:Int))).toNat=qw y-min (qw x) (qw y):=by omega
  rw [e1,e2]
theorem Vw{x y:Nat}(hx:x<9218868437227405312)(hy:y<9218868437227405312) :vA x y=some .gt↔vA y x=some .lt:=by
  rw [Jc hx hy,Jc hy hx,Nat.min_comm]
  simp only [Option.some.injEq]
  rw [Int.compare_eq_gt,Int.compare_eq_lt]
theorem SU{x y:Nat}(hx:x<9218868437227405312)(hy:y<9218868437227405312)(h:x<y) :vA x y=some .lt:=by
  rw [Jc hx hy]
  have hle:qw x≤qw y:=by unfold qw;omega
  rw [Nat.min_eq_left hle,Nat.sub_self,Nat.pow_zero,Nat.mul_one]
  have wv:DO x<DO y*2^(qw y-qw x):=by
    rcases Nat.eq_or_lt_of_le hle with h1 | h1
    · rw [h1,Nat.sub_self,Nat.pow_zero,Nat.mul_one]
      unfold qw at h1;unfold DO
      split<;>split<;>omega
    · have a:=Vv (x:=y) (by omega)
      have b:=Vu x
      have c:2^1≤2^(qw y-qw x):=Nat.pow_le_pow_right (by decide) (by omega)
      have d:4503599627370496*2≤DO y*2^(qw y-qw x):=Nat.mul_le_mul a c
      omega
  rw [Int.compare_eq_lt.2 (by exact_mod_cast wv)]
theorem UU{x y:Nat}(hx:x<9218868437227405312)(hy:y<9218868437227405312) :vA x y=some (compare x y):=by
  rcases Nat.lt_trichotomy x y with h | rfl | h
  · rw [SU hx hy h,Nat.compare_eq_lt.2 h]
  · rw [Jc hx hx];simp
  · rw [(Vw hx hy).2 (SU hy hx h),Nat.compare_eq_gt.2 h]
theorem UV:FloatKind.f64.format.read 9218868437227405312=.infinity false:=by decide
theorem Sf{y:Nat}(hy:y<9218868437227405312) :vA 9218868437227405312 y=some .gt:=by
  unfold vA Ieee.Format.order;rw [UV,Nw hy];rfl
abbrev W:Nat:=18446744073709551616
def nl(v:Nat) :Nat:=if h:v=0 then 0 else nl (v/W)+1
termination_by v
decreasing_by exact Nat.div_lt_self (Nat.pos_of_ne_zero h) (by decide)
theorem WU:∀ (v:Nat),v<W^nl v:=by
  intro v
  induction v using Nat.strongRecOn with
  | _ v ih =>
    rw [nl]
    split
    · rename_i h;subst h;decide
    · rename_i h
      have:=ih (v/W) (Nat.div_lt_self (Nat.pos_of_ne_zero h) (by decide))
      rw [Nat.pow_succ]
      exact (Nat.div_lt_iff_lt_mul (by decide)).1 this
def tz(v:Nat) :Nat:=if h:v%2=1∨v=0 then 0 else tz (v/2)+1
termination_by v
decreasing_by omega
theorem Vx:∀ (v:Nat),v≠0→v%2^tz v=0∧v/2^tz v%2=1:=by
  intro v
  induction v using Nat.strongRecOn with
  | _ v ih =>
    intro h
    rw [tz]
    split
    · rename_i q;rw [Nat.pow_zero,Nat.mod_one,Nat.div_one];omega
    · rename_i q
      obtain ⟨h1,h2⟩:=ih (v/2) (by omega) (by omega)
      rw [Nat.pow_succ,Nat.mul_comm (2^_),Nat.mod_mul,←Nat.div_div_eq_div_mul,h1,h2]
      omega
theorem Vy:tz 0=0:=by rw [tz,dif_pos (.inr rfl)]
theorem WV{v n:Nat}(h:v≠0)(hv:v<2^n) :tz v<n:=by
  obtain ⟨h1,h2⟩:=Vx v h
  rcases Nat.lt_or_ge (tz v) n with q | q
  · exact q
  · rw [Nat.div_eq_of_lt (Nat.lt_of_lt_of_le hv (Nat.pow_le_pow_right (by decide) q))] at h2;omega
def sg(s:Bool)(v:Nat) :Int:=if s then -(v:Int) else (v:Int)
def nE(z e:Int) :Int:=if z=0 then 0 else e+(tz z.natAbs:Nat)
theorem WW{v:Nat} :tz v≤64*nl v:=by
  by_cases h:v=0
  · subst h;rw [Vy];exact Nat.zero_le _
  · have:=WU v
    have e:W^nl v=2^(64*nl v):=by rw [Nat.pow_mul]
    rw [e] at this
    exact Nat.le_of_lt (WV h this)
def Sm(z e:Int) :Prop:=nl z.natAbs≤300∧-30000≤e∧e≤30000
theorem Sm.l{z e:Int}(h:Sm z e) :nl z.natAbs≤300:=h.1
theorem Xb{z e:Int}(h:Sm z e) :tz z.natAbs≤19200:=Nat.le_trans WW (by have:=h.1;omega)
theorem Sm.b{z e:Int}(h:Sm z e) : -30000≤nE z e∧nE z e≤49200:=by
  have ht:=Xb h
  obtain ⟨_,h2,h3⟩:=h
  unfold nE
  split<;>omega
abbrev Kd:Nat:=18446744073709551616
def W3(x:Nat) :Nat:=x/4503599627370496%2048
def HB(x:Nat) :Bool:=W3 x != 2047
theorem Jd{x:Nat}(hx:x<Kd)(h:HB x=true) :FloatKind.f64.format.read x=.number (x/9223372036854775808%2==1) (DO (x%9223372036854775808)) (-1074+(qw (x%9223372036854775808):Int)):=by
  have e1:Ieee.double.signWeight=9223372036854775808:=by decide
  have e2:Ieee.double.binade=4503599627370496:=by decide
  have e3:Ieee.double.infRung=9218868437227405312:=by decide
  have e4:Ieee.double.leastPlace = -1074:=by decide
  have hx:x<18446744073709551616:=hx
  have h':x%9223372036854775808<9218868437227405312:=by
    unfold HB W3 at h;simp only [bne_iff_ne,ne_eq] at h;omega
  show Ieee.double.read x=_
  unfold Ieee.Format.read
  simp only [e1,e2,e3,e4]
  by_cases h3:x%9223372036854775808<4503599627370496
  · rw [if_pos h3]
    have:qw (x%9223372036854775808)=0:=by unfold qw;omega
    simp only [DO,if_pos h3,this];rfl
  · rw [if_neg h3,if_pos h']
    simp only [DO,if_neg h3,qw]
theorem TD{x:Nat}(hx:x<Kd)(h:x%9223372036854775808=9218868437227405312) :FloatKind.f64.format.read x=.infinity (x/9223372036854775808%2==1):=by
  have e1:Ieee.double.signWeight=9223372036854775808:=by decide
  have e2:Ieee.double.binade=4503599627370496:=by decide
  have e3:Ieee.double.infRung=9218868437227405312:=by decide
  have e4:Ieee.double.leastPlace = -1074:=by decide
  show Ieee.double.read x=_
  unfold Ieee.Format.read
  simp only [e1,e2,e3,e4]
  rw [h,if_neg (by decide),if_neg (by decide),if_pos rfl]
theorem TE{x:Nat}(hx:x<Kd)(h:9218868437227405312<x%9223372036854775808) :isNaN x=true:=by
  have e1:Ieee.double.signWeight=9223372036854775808:=by decide
  have e2:Ieee.double.binade=4503599627370496:=by decide
  have e3:Ieee.double.infRung=9218868437227405312:=by decide
  have e4:Ieee.double.leastPlace = -1074:=by decide
  show (Ieee.double.read x).isNaN=true
  unfold Ieee.Format.read
  simp only [e1,e2,e3,e4]
  rw [if_neg (by omega),if_neg (by omega),if_neg (by omega)];rfl
theorem Vz{x:Nat}(hx:x<Kd)(h:HB x=true) :isNaN x=false:=by
  show (Ieee.double.read x).isNaN=false
  have e:=Jd hx h
  have e':Ieee.double.read x=_:=e
  rw [e'];rfl
theorem VA{x:Nat}(hx:x<Kd)(h:HB x=true) :Az x x=false:=by
  unfold Az vA Ieee.Format.order
  rw [Jd hx h]
  simp [Ieee.Datum.order,Int.min_self]
theorem SV{x y:Nat}(h:isNaN x=true) :Az x y=true:=by
  obtain ⟨s,t,e⟩:=zK h
  unfold Az vA Ieee.Format.order
  rw [e];rfl
theorem OP{x:Nat}(hx:x<Kd)(h:HB x=false) :isNaN x=true∨(isNaN x=false∧x%9223372036854775808=9218868437227405312∧Az x x=false):=by
  have hx':x<18446744073709551616:=hx
  have h':9218868437227405312≤x%9223372036854775808:=by
    unfold HB W3 at h;simp only [bne_eq_false_iff_eq] at h;omega
  rcases Nat.lt_or_ge 9218868437227405312 (x%9223372036854775808) with q | q
  · exact .inl (TE hx q)
  · have e:x%9223372036854775808=9218868437227405312:=by omega
    have r:=TD hx e
    refine .inr ⟨?_,e,?_⟩
    · show (Ieee.double.read x).isNaN=false
      have r':Ieee.double.read x=_:=r
      rw [r'];rfl
    · unfold Az vA Ieee.Format.order
      rw [r]
      simp [Ieee.Datum.order]
theorem Ri{x:Nat}(hx:x<Kd) :eE x=x%9223372036854775808:=by
  unfold eE;rfl
theorem VB{x:Nat}(hx:x<Kd)(h:HB x=true) :Kh (eE x) 9218868437227405311=false:=by
  have hx':x<18446744073709551616:=hx
  have h':x%9223372036854775808<9218868437227405312:=by
    unfold HB W3 at h;simp only [bne_iff_ne,ne_eq] at h;omega
  unfold Kh
  rw [Ri hx,UU h' (by decide)]
  rcases Nat.lt_trichotomy (x%9223372036854775808) 9218868437227405311 with q | q | q
  · rw [Nat.compare_eq_lt.2 q];rfl
  · rw [q];rfl
  · omega
theorem SW{x:Nat}(hx:x<Kd)(h:x%9223372036854775808=9218868437227405312) :Kh (eE x) 9218868437227405311=true:=by
  unfold Kh
  rw [Ri hx,h,Sf (by decide)];rfl
def fz(x:Nat) :Int:=sg (x/9223372036854775808==1) (DO (x%9223372036854775808)*2^qw (x%9223372036854775808))
def Wd(l:List Nat) :Prop:=∀ i,l.getD i 0<Kd
def Fn(l:List Nat) :Prop:=∀ i,i<l.length→HB (l.getD i 0)=true
end Go.Plb
namespace Go.Plb.Seat
open Go Go.Plb
set_option linter.unusedSimpArgs false
set_option linter.unusedVariables false
theorem Ge{α:Type}{n:Nat}{l:List α}(h:l.length=n) :di 0 n l=true:=by rw [←h];exact Rh l
noncomputable def Df(l:List Nat) :Bool:=@decide (Fn l) (Classical.propDecidable _)
theorem OQ{l:List Nat} :Df l=true↔Fn l:=@decide_eq_true_iff _ (Classical.propDecidable _)
theorem Sh{l:List Nat} :Df l=false↔¬ Fn l:=@decide_eq_false_iff_not _ (Classical.propDecidable _)
theorem Rj{l:List Nat}(hw:Wd l)(hn:l.length≤1000000000) :∃ k:Int,bW l=some (.r0 k)∧decide (k≥0) = !(Df l):=by
  have step:∀ j,j<l.length→HB (l.getD j 0)=true→fi l j=some (.inl (j+1)):=by
    intro j hj hf
    show (dp _ _).run=_
    unfold dp
    exact T.at (by simp only [ao,aO,aP,aq,aw,am,cO,cP,decide_eq_true_eq,decide_eq_false_iff_not,beq_iff_eq,beq_eq_false_iff_ne,bne_iff_ne,bne_eq_false_iff_eq,Bool.not_eq_true',Bool.not_eq_false',List.length_set,ne_eq,ge_iff_le,gt_iff_lt,bK,ah,eX];omega) (mO (by simp only [ao,aO,aP,aq,aw,am,cO,cP,decide_eq_true_eq,decide_eq_false_iff_not,beq_iff_eq,beq_eq_false_iff_ne,bne_iff_ne,bne_eq_false_iff_eq,Bool.not_eq_true',Bool.not_eq_false',List.length_set,ne_eq,ge_iff_le,gt_iff_lt,bK,ah,eX];omega) (mO (by simp only [ao,aO,aP,aq,aw,am,cO,cP,decide_eq_true_eq,decide_eq_false_iff_not,beq_iff_eq,beq_eq_false_iff_ne,bne_iff_ne,bne_eq_false_iff_eq,Bool.not_eq_true',Bool.not_eq_false',List.length_set,ne_eq,ge_iff_le,gt_iff_lt,bK,ah,eX];omega) (zE (VA (hw j) hf) (FV (zE (VB (hw j) hf) (mO (by simp only [ao,aO,aP,aq,aw,am,cO,cP,decide_eq_true_eq,decide_eq_false_iff_not,beq_iff_eq,beq_eq_false_iff_ne,bne_iff_ne,bne_eq_false_iff_eq,Bool.not_eq_true',Bool.not_eq_false',List.length_set,ne_eq,ge_iff_le,gt_iff_lt,bK,ah,eX];omega) rfl))))))
  by_cases h:Fn l
  · refine ⟨-1,kh (df (a:=()) rfl (df (a:=()) (wu (fun j=>j) l.length rfl (fun j hj=>step j hj (h j hj)) (zE (by simp only [ao,aO,aP,aq,aw,am,cO,cP,decide_eq_true_eq,decide_eq_false_iff_not,beq_iff_eq,beq_eq_false_iff_ne,bne_iff_ne,bne_eq_false_iff_eq,Bool.not_eq_true',Bool.not_eq_false',List.length_set,ne_eq,ge_iff_le,gt_iff_lt,bK,ah,eX];omega) rfl)) rfl)),?_⟩
    rw [OQ.2 h];rfl
  · obtain ⟨k,hk,hb,hf⟩:=OO (p:=fun i=>HB (l.getD i 0)=true) h
    have hbf:HB (l.getD k 0)=false:=by cases q:HB (l.getD k 0) with | true=>exact absurd q hb | false=>rfl
    refine ⟨(k:Int),kh (df (a:=()) rfl (qZ (wu (fun j=>j) k rfl (fun j hj=>step j (by omega) (hf j hj)) ?_))),?_⟩
    · show (dp _ _).run=_
      unfold dp
      refine T.at (by simp only [ao,aO,aP,aq,aw,am,cO,cP,decide_eq_true_eq,decide_eq_false_iff_not,beq_iff_eq,beq_eq_false_iff_ne,bne_iff_ne,bne_eq_false_iff_eq,Bool.not_eq_true',Bool.not_eq_false',List.length_set,ne_eq,ge_iff_le,gt_iff_lt,bK,ah,eX];omega) (mO (by simp only [ao,aO,aP,aq,aw,am,cO,cP,decide_eq_true_eq,decide_eq_false_iff_not,beq_iff_eq,beq_eq_false_iff_ne,bne_iff_ne,bne_eq_false_iff_eq,Bool.not_eq_true',Bool.not_eq_false',List.length_set,ne_eq,ge_iff_le,gt_iff_lt,bK,ah,eX];omega) (mO (by simp only [ao,aO,aP,aq,aw,am,cO,cP,decide_eq_true_eq,decide_eq_false_iff_not,beq_iff_eq,beq_eq_false_iff_ne,bne_iff_ne,bne_eq_false_iff_eq,Bool.not_eq_true',Bool.not_eq_false',List.length_set,ne_eq,ge_iff_le,gt_iff_lt,bK,ah,eX];omega) ?_))
      rcases OP (hw k) hbf with q | ⟨q1,q2,q3⟩
      · exact T.at (SV q) rfl
      · exact zE q3 (FV (T.at (SW (hw k) q2) rfl))
    · rw [Sh.2 h,decide_eq_true (by omega)];rfl
theorem Je{l:List Nat}(h:l.length≤1000000) :lB l l=some (.r0 true):=by
  refine kh (df (a:=()) (zE (by simp) rfl) (df (a:=()) (wu (fun i=>i) l.length rfl (fun j hj=>?_) ?_) rfl))
  · show (xE _ _ _).run=_
    unfold xE
    rw [R5]
    exact (T.at (by simp only [ao,aO,aP,aq,aw,am,cO,cP,decide_eq_true_eq,decide_eq_false_iff_not,beq_iff_eq,beq_eq_false_iff_ne,bne_iff_ne,bne_eq_false_iff_eq,Bool.not_eq_true',Bool.not_eq_false',List.length_set,ne_eq,ge_iff_le,gt_iff_lt,bK,ah,eX];omega) (mO (by simp only [ao,aO,aP,aq,aw,am,cO,cP,decide_eq_true_eq,decide_eq_false_iff_not,beq_iff_eq,beq_eq_false_iff_ne,bne_iff_ne,bne_eq_false_iff_eq,Bool.not_eq_true',Bool.not_eq_false',List.length_set,ne_eq,ge_iff_le,gt_iff_lt,bK,ah,eX];omega) (mO (by simp only [ao,aO,aP,aq,aw,am,cO,cP,decide_eq_true_eq,decide_eq_false_iff_not,beq_iff_eq,beq_eq_false_iff_ne,bne_iff_ne,bne_eq_false_iff_eq,Bool.not_eq_true',Bool.not_eq_false',List.length_set,ne_eq,ge_iff_le,gt_iff_lt,bK,ah,eX];omega) (mO (by simp only [ao,aO,aP,aq,aw,am,cO,cP,decide_eq_true_eq,decide_eq_false_iff_not,beq_iff_eq,beq_eq_false_iff_ne,bne_iff_ne,bne_eq_false_iff_eq,Bool.not_eq_true',Bool.not_eq_false',List.length_set,ne_eq,ge_iff_le,gt_iff_lt,bK,ah,eX];omega) (mO (by simp only [ao,aO,aP,aq,aw,am,cO,cP,decide_eq_true_eq,decide_eq_false_iff_not,beq_iff_eq,beq_eq_false_iff_ne,bne_iff_ne,bne_eq_false_iff_eq,Bool.not_eq_true',Bool.not_eq_false',List.length_set,ne_eq,ge_iff_le,gt_iff_lt,bK,ah,eX];omega) (Br (mO (by simp only [ao,aO,aP,aq,aw,am,cO,cP,decide_eq_true_eq,decide_eq_false_iff_not,beq_iff_eq,beq_eq_false_iff_ne,bne_iff_ne,bne_eq_false_iff_eq,Bool.not_eq_true',Bool.not_eq_false',List.length_set,ne_eq,ge_iff_le,gt_iff_lt,bK,ah,eX];omega) rfl)))))))
  · exact zE (by simp only [ao,aO,aP,aq,aw,am,cO,cP,decide_eq_true_eq,decide_eq_false_iff_not,beq_iff_eq,beq_eq_false_iff_ne,bne_iff_ne,bne_eq_false_iff_eq,Bool.not_eq_true',Bool.not_eq_false',List.length_set,ne_eq,ge_iff_le,gt_iff_lt,bK,ah,eX];omega) rfl
def UW(D E:List Nat) :Bool:=decide (D.length≤512∧E.length=D.length-1)
theorem Nx{D E:List Nat}(hD:D.length≤1000000) :pO D E=some (.r0 (UW D E)):=by
  refine kh (df (a:=UW D E) ?_ rfl)
  unfold Fd
  by_cases h:D.length≤512
  · refine T.at (by rw [decide_eq_true_eq];omega) (mO (by simp only [ao,aO,aP,aq,aw,am,cO,cP,decide_eq_true_eq,decide_eq_false_iff_not,beq_iff_eq,beq_eq_false_iff_ne,bne_iff_ne,bne_eq_false_iff_eq,Bool.not_eq_true',Bool.not_eq_false',List.length_set,ne_eq,ge_iff_le,gt_iff_lt,bK,ah,eX];omega) ?_)
    show some (Sum.inl (_==_))=_
    congr 2
    unfold UW Vh
    by_cases h2:E.length=D.length-1
    · rw [decide_eq_true ⟨h,h2⟩,beq_iff_eq]
      split<;>omega
    · rw [decide_eq_false (fun q=>h2 q.2),beq_eq_false_iff_ne]
      split<;>omega
  · have:UW D E=false:=decide_eq_false fun q=>h q.1
    rw [this]
    exact zE (by rw [decide_eq_false_iff_not];omega) rfl
theorem KR{D E:List Nat}(wD:Wd D)(wE:Wd E)(hD:D.length≤1000000)(hE:E.length≤1000000)(h:UW D E=true) :re D E=some (.r0 (bif Df D&&Df E then 0 else 10)):=by
  obtain ⟨k1,i1,j1⟩:=Rj wD (by omega)
  obtain ⟨k2,i2,j2⟩:=Rj wE (by omega)
  have t3:(vP D E).run=some (bif Df D&&Df E then .inl () else .inr (.r0 10)):=by
    unfold vP
    rw [ak,ak,Nx hD,h,i1,i2]
    have n1:(!(!(decide (cq (some (.r0 k1))≥(0:Int))))) = !(Df D):=by rw [Bool.not_not];exact j1
    have n2:(!(!(decide (cq (some (.r0 k2))≥(0:Int))))) = !(Df E):=by rw [Bool.not_not];exact j2
    rw [n1,n2]
    cases Df D
    · exact (kW (kW (sB (Br (kW (sB (FV rfl)))))))
    cases Df E
    · exact (kW (kW (sB (Br (kW (sB (Br (kW (sB (FV rfl))))))))))
    · exact (kW (kW (sB (Br (kW (sB (Br (kW (sB (Br rfl))))))))))
  cases q:(Df D&&Df E)
  · rw [q] at t3
    exact kh (qZ t3)
  · rw [q] at t3
    exact kh (df t3 rfl)
end Go.Plb.Seat
namespace Go.Plb
set_option linter.unusedSimpArgs false
set_option linter.unusedVariables false
set_option linter.unusedSectionVars false
variable [Rom]
def jk{α:Type}(m:Option α)(Q:α→Prop) :Prop:=∃ r,m=some r∧Q r
theorem jk.mono{α:Type}{m:Option α}{Q R:α→Prop}(h:jk m Q)(k:∀ r,Q r→R r) :jk m R:=by
  obtain ⟨r,a,b⟩:=h
  exact ⟨r,a,k r b⟩
def T.wp{α:Type}(Q:α→Prop) :T α→Prop
  | .fail=>False
  | .leaf a=>Q a
  | .ask b t f=>(b=true→t.wp Q)∧(b=false→f.wp Q)
  | .need b t=>b=true∧t.wp Q
  | .alt _ t e=>t.wp Q∨(t.run=none∧e.wp Q)
theorem aL{α:Type}{Q:α→Prop} :∀ {t:T α},t.wp Q→jk t.run Q
  | .fail,h=>h.elim
  | .leaf a,h=>⟨a,rfl,h⟩
  | .ask b t f,h=>by
    cases b
    · obtain ⟨r,a,b⟩:=aL (h.2 rfl)
      exact ⟨r,a,b⟩
    · obtain ⟨r,a,b⟩:=aL (h.1 rfl)
      exact ⟨r,a,b⟩
  | .need b t,h=>by
    obtain ⟨q,h⟩:=h
    obtain ⟨r,a,b⟩:=aL h
    exact ⟨r,mO q a,b⟩
  | .alt k t e,h=>by
    rcases h with h | ⟨h1,h2⟩
    · obtain ⟨r,a,b⟩:=aL h
      exact ⟨r,W9 a,b⟩
    · obtain ⟨r,a,b⟩:=aL h2
      exact ⟨r,by simp only [T.run,h1];exact a,b⟩
theorem jk.seq{α β X:Type}{m:Option (α⊕X)}{k:α→Option (β⊕X)}{N:β→Prop}{E:X→Prop}(h:jk m (Sum.elim (fun a=>jk (k a) (Sum.elim N E)) E)) :jk (bd m k) (Sum.elim N E):=by
  obtain ⟨r,a,b⟩:=h
  cases r with
  | inl x =>
    obtain ⟨r',a',b'⟩:=b
    exact ⟨r',df a a',b'⟩
  | inr x=>exact ⟨.inr x,qZ a,b⟩
theorem an{α β X:Type}{m:Option (α⊕X)}{k:α→Option (β⊕X)}(M:α→Prop){N:β→Prop}{E:X→Prop}(h:jk m (Sum.elim M E))(q:∀ a,M a→jk (k a) (Sum.elim N E)) :jk (bd m k) (Sum.elim N E):=by
  obtain ⟨r,a,b⟩:=h
  cases r with
  | inl x =>
    obtain ⟨r',a',b'⟩:=q x b
    exact ⟨r',df a a',b'⟩
  | inr x=>exact ⟨.inr x,qZ a,b⟩
theorem jk.join{κ X:Type}{m:Option (κ⊕(κ⊕X))}{N:κ→Prop}{E:X→Prop}(h:jk m (Sum.elim N (Sum.elim N E))) :jk (vO m) (Sum.elim N E):=by
  obtain ⟨r,a,b⟩:=h
  rcases r with x | x | x
  · exact ⟨.inl x,UT a,b⟩
  · exact ⟨.inl x,TC a,b⟩
  · exact ⟨.inr x,OM a,b⟩
theorem jk.loop{σ Y:Type}{B:σ→Option (σ⊕Y)}(I:σ→Prop)(m:σ→Nat){Q:Y→Prop}{s:σ}(h0:I s)(h:∀ s,I s→jk (B s) (Sum.elim (fun s'=>I s'∧m s'<m s) Q)) :jk (cu B s) Q:=by
  obtain ⟨y,a,b⟩:=Tt I m Q (fun s hs=>by
    obtain ⟨r,a,b⟩:=h s hs
    cases r with
    | inl x=>exact .inl ⟨x,a,b.1,b.2⟩
    | inr y=>exact .inr ⟨y,a,b⟩) s h0
  exact ⟨y,a,b⟩
theorem ql{X:Type}{m:Option (Empty⊕X)}{E:X→Prop}(h:jk m (Sum.elim (fun _=>True) E)) :jk (toX m) E:=by
  obtain ⟨r,a,b⟩:=h
  cases r with
  | inl x=>exact x.elim
  | inr x=>exact ⟨x,kh a,b⟩
theorem jk.map{α R:Type}{m:Option α}{g:α→R}{E:R→Prop}(h:jk m fun a=>E (g a)) :jk (Option.map g m) E:=by
  obtain ⟨r,a,b⟩:=h
  exact ⟨g r,by rw [a];rfl,b⟩
theorem uU{α X R:Type}{m:Option (α⊕X)}{g:α⊕X→R}{E:R→Prop}(h:jk m (Sum.elim (fun a=>E (g (.inl a))) fun x=>E (g (.inr x)))) :jk (Option.map g m) E:=by
  obtain ⟨r,a,b⟩:=h
  refine ⟨g r,by rw [a];rfl,?_⟩
  cases r<;>exact b
theorem jk.some{α:Type}{a:α}{Q:α→Prop}(h:Q a) :jk (some a) Q:=⟨a,rfl,h⟩
end Go.Plb
namespace Go.Plb.Seat
open Go Go.Plb
set_option linter.unusedSimpArgs false
set_option linter.unusedVariables false
theorem UX{n0 c1 n2 c3 R C:Nat}{l8 l9 l10:List Nat}{i:Int}{c s:Nat}(hl:l10.length=R*C)(hR:R≤512)(hC:C≤512)(h0:0≤i)(h1:i+1<C) :
    jk (ct n0 c1 n2 c3 R C (R*C) (R*C) l8 l9 l10 i c s) fun x=>∃ l,x=.r0 n0 c1 n2 c3 R C (R*C) (R*C) l8 l9 l∧l.length=l10.length:=by
  have hRC:R*C≤262144:=Nat.mul_le_mul hR hC
  refine uU (an (fun _=>True) (aL ?_) fun _ _=>?_)
  · unfold yo
    trivial
  refine an (fun l=>l.length=l10.length) (jk.loop (fun p=>p.1≤R∧p.2.length=l10.length) (fun p=>R-p.1) ⟨Nat.zero_le _,rfl⟩ ?_) fun l hl'=>aL ?_
  · rintro ⟨a,l⟩ ⟨ha,hll⟩
    unfold pG
    dsimp only at ha hll ⊢
    refine an (fun l'=>l'.length=l10.length∧a<R) (aL ?_) fun l' hl'=>aL ?_
    · unfold yp
      have e:((a:Int))*(C:Int)=((a*C:Nat):Int):=by rw [Int.natCast_mul]
      rw [e]
      simp only [T.wp,Sum.elim_inl,Sum.elim_inr,decide_eq_true_eq,decide_eq_false_iff_not,ao,aO,aP,aq,aB,List.length_set,ah]
      refine ⟨fun h=>?_,fun h=>?_⟩
      · have q:(a+1)*C≤R*C:=Nat.mul_le_mul_right C (by omega)
        rw [Nat.add_mul,Nat.one_mul] at q
        generalize a*C=p at *
        generalize R*C=z at *
        omega
      · exact hll
    · unfold yq
      simp only [T.wp,Sum.elim_inl,ao]
      omega
  · unfold yr
    simp only [T.wp,Sum.elim_inl]
    exact ⟨l,rfl,hl'⟩
theorem Wp{a b:Nat}(h:Kh a b=true) :isNaN a=false∧isNaN b=false:=by
  refine ⟨?_,?_⟩
  · cases q:isNaN a
    · rfl
    · unfold Kh at h;rw [Dh (.inl q)] at h;cases h
  · cases q:isNaN b
    · rfl
    · unfold Kh at h;rw [Dh (.inr q)] at h;cases h
theorem TF{a b:Nat}(h:isNaN a=true) :isNaN (cY a b)=true:=by
  obtain ⟨s,t,e⟩:=zK h
  unfold cY Ieee.Format.mul
  rw [e,Gz]
  exact HD
theorem Wq{a b:Bool}(h:a=true→b=true) :(!a||b)=true:=by cases a<;>simp_all
abbrev Xl:=Nat×Nat×Nat×Nat×Int×Nat×Nat×Nat×Nat×Int×Int×Nat×Nat×List Nat×List Nat×List Nat
structure Xc (n0 c1 n2 c3 R C N:Nat) (a28 a29 a30 a31:Nat) (i33 i34:Int) (a35 a36:Nat) (l37 l38 l39:List Nat):Prop where
  e1:n0=a28
  e2:c1=a29
  e3:n2=a30
  e4:c3=a31
  e5:(R:Int)=i33
  e6:(C:Int)=i34
  e7:R*C=a35
  e8:R*C=a36
  d:l37.length=N
  e:l38.length=N
  z:l39.length=R*C
theorem TG{N c1 c3 R:Nat}{l8 l9 l10:List Nat}{l m:Int}(h8:l8.length=N)(h9:l9.length=N)(h10:l10.length=R*N)(hR:R≤512)(hN:N≤512)(h0:0≤l)(h1:l<m)(h2:m+1≤N) :
    jk (bX N c1 N c3 R N (R*N) (R*N) l8 l9 l10 l m) fun x=>∃ d e z,x=.r0 N c1 N c3 R N (R*N) (R*N) d e z∧d.length=N∧e.length=N∧z.length=R*N:=by
  refine uU (an (fun p=>isNaN p.1=true→isNaN p.2=true) (aL ?_) ?_)
  · unfold wK
    simp only [T.wp,Sum.elim_inl,Sum.elim_inr,decide_eq_true_eq,decide_eq_false_iff_not,ao,aO,aP,aq,h8,h9]
    refine ⟨by omega,by omega,by omega,by omega,by omega,by omega,by omega,fun h=>?_,fun h=>?_⟩
    · have:=(Wp h).2
      rw [zT] at this
      exact ⟨fun _ q=>(by rw [this] at q;cases q),fun _ q=>(by rw [this] at q;cases q)⟩
    · exact ⟨fun _ q=>(by rw [zT];exact q),fun _ q=>TF (by rw [zT];exact q)⟩
  rintro ⟨g1,r2⟩ hg
  refine an (fun p=>p.2=m-1) (aL ?_) ?_
  · unfold wL
    simp only [T.wp,Sum.elim_inl,Sum.elim_inr,decide_eq_true_eq,decide_eq_false_iff_not,ao,aO,aP,aq,h8,h9]
    exact ⟨by omega,by omega,by omega,by omega,by omega,by omega,Wq hg,by omega,trivial⟩
  rintro ⟨g3,i4⟩ hi4
  dsimp only at hi4 ⊢
  subst hi4
  refine an (fun (p:Nat×Nat×Nat×Nat×Nat×Nat×Int×Int×Nat×Nat×List Nat×List Nat×List Nat)=>Xc N c1 N c3 R N N p.2.2.1 p.2.2.2.1 p.2.2.2.2.1 p.2.2.2.2.2.1 p.2.2.2.2.2.2.1 p.2.2.2.2.2.2.2.1 p.2.2.2.2.2.2.2.2.1 p.2.2.2.2.2.2.2.2.2.1 p.2.2.2.2.2.2.2.2.2.2.1 p.2.2.2.2.2.2.2.2.2.2.2.1 p.2.2.2.2.2.2.2.2.2.2.2.2)
    (jk.loop (fun (p:Xl)=>Xc N c1 N c3 R N N p.2.2.2.2.2.1 p.2.2.2.2.2.2.1 p.2.2.2.2.2.2.2.1 p.2.2.2.2.2.2.2.2.1 p.2.2.2.2.2.2.2.2.2.1 p.2.2.2.2.2.2.2.2.2.2.1 p.2.2.2.2.2.2.2.2.2.2.2.1 p.2.2.2.2.2.2.2.2.2.2.2.2.1 p.2.2.2.2.2.2.2.2.2.2.2.2.2.1 p.2.2.2.2.2.2.2.2.2.2.2.2.2.2.1 p.2.2.2.2.2.2.2.2.2.2.2.2.2.2.2∧l-1≤p.2.2.2.2.1∧p.2.2.2.2.1≤m-1) (fun p=>(p.2.2.2.2.1-l+1).toNat) ⟨⟨rfl,rfl,rfl,rfl,rfl,rfl,rfl,rfl,h8,h9,h10⟩,by dsimp only;omega,by dsimp only;omega⟩ ?_) ?_
  · rintro ⟨g,s,c,p,i,a28,a29,a30,a31,i33,i34,a35,a36,l37,l38,l39⟩ ⟨⟨e1,e2,e3,e4,e5,e6,e7,e8,hd,he,hz⟩,b1,b2⟩
    dsimp only at e1 e2 e3 e4 e5 e6 e7 e8 hd he hz b1 b2 ⊢
    subst e1 e2 e3 e4 e5 e6 e7 e8
    unfold oM
    dsimp only
    refine an (fun _=>l≤i) (aL ?_) fun _ hli=>?_
    · unfold wN
      simp only [T.wp,Sum.elim_inl,Sum.elim_inr,decide_eq_true_eq,decide_eq_false_iff_not]
      exact ⟨fun h=>h,fun _=>⟨rfl,rfl,rfl,rfl,rfl,rfl,rfl,rfl,hd,he,hz⟩⟩
    refine an (fun (p:Nat×Nat×Nat×Nat×Nat×Nat×Nat×Nat×Int×Int×Nat×Nat×List Nat×List Nat×List Nat)=>Xc N c1 N c3 R N N p.2.2.2.2.1 p.2.2.2.2.2.1 p.2.2.2.2.2.2.1 p.2.2.2.2.2.2.2.1 p.2.2.2.2.2.2.2.2.1 p.2.2.2.2.2.2.2.2.2.1 p.2.2.2.2.2.2.2.2.2.2.1 p.2.2.2.2.2.2.2.2.2.2.2.1 p.2.2.2.2.2.2.2.2.2.2.2.2.1 p.2.2.2.2.2.2.2.2.2.2.2.2.2.1 p.2.2.2.2.2.2.2.2.2.2.2.2.2.2) (jk.join (an (fun _=>True) (aL ?_) fun q _=>?_)) ?_
    · unfold wP
      simp only [T.wp,Sum.elim_inl,Sum.elim_inr,decide_eq_true_eq,decide_eq_false_iff_not,ao,aO,aP,aq,he]
      exact ⟨by omega,by omega,by omega,by omega,fun _=>⟨fun _=>trivial,fun _=>trivial⟩,fun _=>⟨fun _=>trivial,fun _=>trivial⟩⟩
    · obtain ⟨r40,f41,b42⟩:=q
      refine an (fun p=>p.2.2.2.2.1.length=N∧p.2.2.2.2.2.length=N) (aL ?_) ?_
      · unfold wQ
        simp only [T.wp,Sum.elim_inl,Sum.elim_inr,decide_eq_true_eq,decide_eq_false_iff_not,ao,aO,aP,aq,List.length_set,he,hd]
        exact ⟨by omega,by omega,by omega,fun _=>⟨by omega,by omega,by omega,by omega,by omega,by omega,by omega,⟨_,_,_,rfl,by rw [List.length_set,hd],by rw [List.length_set,List.length_set,he],hz⟩⟩,fun _=>⟨by omega,by omega,by omega,by omega,by omega,by omega,by omega,by omega,trivial,trivial⟩⟩
      · rintro ⟨r43,s44,c45,p46,l47,l48⟩ ⟨h47,h48⟩
        dsimp only at h47 h48 ⊢
        obtain ⟨x,hx,lz,rfl,hlz⟩:=UX (n0:=N) (c1:=c1) (n2:=N) (c3:=c3) (R:=R) (C:=N) (l8:=l47) (l9:=l48) (l10:=l39) (i:=i) (c:=c45) (s:=s44) hz hR hN (by omega) (by omega)
        refine aL ?_
        unfold wR
        rw [hx]
        exact ⟨rfl,rfl,rfl,rfl,rfl,rfl,rfl,rfl,rfl,h47,h48,by rw [←hz];exact hlz⟩
    · rintro ⟨x1,x2,x3,x4,x5,x6,x7,x8,x9,x10,x11,x12,x13,x14,x15⟩ hs
      refine aL ?_
      unfold wS
      simp only [T.wp,Sum.elim_inl,ao]
      exact ⟨by omega,⟨hs,by omega,by omega⟩,by omega⟩
  · rintro ⟨g64,p65,a66,a67,a68,a69,i70,i71,a72,a73,l74,l75,l76⟩ ⟨e1,e2,e3,e4,e5,e6,e7,e8,hd,he,hz⟩
    dsimp only at e1 e2 e3 e4 e5 e6 e7 e8 hd he hz ⊢
    subst e1 e2 e3 e4 e5 e6 e7 e8
    refine aL ?_
    unfold wT
    simp only [T.wp,Sum.elim_inl,Sum.elim_inr,aO,aq,List.length_set,he,hd]
    exact ⟨by omega,by omega,by omega,by omega,by omega,by omega,by omega,by omega,_,_,_,rfl,by rw [List.length_set,hd],by rw [List.length_set,List.length_set,he],hz⟩
def gd(x:Nat) :Bool:=!(Az x x) && !(Kh (eE x) 9218868437227405311)
def GD(l:List Nat) :Prop:=∀ i,i<l.length→gd (l.getD i 0)=true
theorem SX{x:Nat}(h:gd x=true) :Az x x=false∧Kh (eE x) 9218868437227405311=false:=by
  unfold gd at h
  cases a:Az x x<;>cases b:Kh (eE x) 9218868437227405311<;>rw [a,b] at h<;>first | exact ⟨rfl,rfl⟩ | cases h
theorem Jf(l:List Nat)(hn:l.length≤1000000) :jk (bn l) fun x=>∃ k:Int,x=.r0 k∧((k≥0∧¬ GD l)∨(k<0∧GD l)):=by
  refine ql (an (fun _=>True) (aL ?_) fun _ _=>?_)
  · unfold nG
    trivial
  refine an (fun _=>GD l) (jk.loop (fun a=>a≤l.length∧∀ i,i<a→gd (l.getD i 0)=true) (fun a=>l.length-a) ⟨by omega,fun i hi=>by omega⟩ ?_) fun _ hg=>aL ?_
  · rintro a ⟨ha,hg⟩
    unfold fQ
    refine aL ?_
    unfold nI
    simp only [T.wp,Sum.elim_inl,Sum.elim_inr,decide_eq_true_eq,decide_eq_false_iff_not,ao,aO,aP,aq,aw,am,aB,ah,List.length_set,List.length_replicate,beq_iff_eq,beq_eq_false_iff_ne,bne_iff_ne,bne_eq_false_iff_eq,Bool.not_eq_true',Bool.not_eq_false',ne_eq,ak,Int.toNat_natCast]
    refine ⟨fun h=>⟨by omega,by omega,fun h1=>⟨_,rfl,.inl ⟨by omega,fun z=>?_⟩⟩,fun h1=>⟨fun _=>⟨fun h2=>⟨_,rfl,.inl ⟨by omega,fun z=>?_⟩⟩,fun h2=>⟨by omega,⟨by omega,fun i hi=>?_⟩,by omega⟩⟩,fun q=>absurd trivial (by simp at q)⟩⟩,fun h i hi=>hg i (by omega)⟩
    · have:=SX (z a (by omega))
      rw [h1] at this
      cases this.1
    · have:=SX (z a (by omega))
      rw [h2] at this
      cases this.2
    by_cases q:i<a
    · exact hg i q
    · have:i=a:=by omega
      subst this
      unfold gd
      rw [h1,h2];rfl
  · unfold mQ
    exact ⟨_,rfl,.inr ⟨by omega,hg⟩⟩
theorem OR{r c:Int}{l:List Nat} :zX r c l=some (.r0 (decide (0≤r∧r≤512∧0≤c∧c≤512∧(l.length:Int)=r*c))):=by
  by_cases h1:0≤r
  · by_cases h2:r≤512
    · by_cases h3:0≤c
      · by_cases h4:c≤512
        · have:0≤r*c∧r*c≤262144:=by
            obtain ⟨a,rfl⟩:=Int.eq_ofNat_of_zero_le h1
            obtain ⟨b,rfl⟩:=Int.eq_ofNat_of_zero_le h3
            have:=Nat.mul_le_mul (show a≤512 by omega) (show b≤512 by omega)
            omega
          refine kh (df (a:=decide (0≤r∧r≤512∧0≤c∧c≤512∧(l.length:Int)=r*c)) ?_ rfl)
          unfold OL
          refine T.at (decide_eq_true h1) (T.at (decide_eq_true h2) (T.at (decide_eq_true h3) (T.at (decide_eq_true h4) (mO (ao.2 (by omega)) ?_))))
          show some _=some _
          congr 2
          by_cases q:(l.length:Int)=r*c
          · rw [decide_eq_true ⟨h1,h2,h3,h4,q⟩,q];simp
          · rw [decide_eq_false fun z=>q z.2.2.2.2];simpa using q
        · rw [decide_eq_false fun z=>h4 z.2.2.2.1]
          refine kh (df (a:=false) ?_ rfl)
          exact T.at (decide_eq_true h1) (T.at (decide_eq_true h2) (T.at (decide_eq_true h3) (zE (decide_eq_false h4) rfl)))
      · rw [decide_eq_false fun z=>h3 z.2.2.1]
        refine kh (df (a:=false) ?_ rfl)
        exact T.at (decide_eq_true h1) (T.at (decide_eq_true h2) (zE (decide_eq_false h3) rfl))
    · rw [decide_eq_false fun z=>h2 z.2.1]
      refine kh (df (a:=false) ?_ rfl)
      exact T.at (decide_eq_true h1) (zE (decide_eq_false h2) rfl)
  · rw [decide_eq_false fun z=>h1 z.1]
    refine kh (df (a:=false) ?_ rfl)
    exact zE (decide_eq_false h1) rfl
def DP(l:List Nat)(i:Nat) :Nat→Nat
  | 0=>i
  | d+1=>bif flt (l.getD (i+1+d) 0) (l.getD (DP l i d) 0) then i+1+d else DP l i d
theorem Gf(l:List Nat)(i:Nat) :∀ d,i≤DP l i d∧DP l i d≤i+d
  | 0=>⟨Nat.le_refl _,Nat.le_refl _⟩
  | d+1=>by
    have:=Gf l i d
    unfold DP
    cases flt (l.getD (i+1+d) 0) (l.getD (DP l i d) 0)<;>simp only [cond_true,cond_false]<;>omega
def Wr(l:List Nat)(i k:Nat) :List Nat:=(l.set i (l.getD k 0)).set k (l.getD i 0)
theorem VC(l:List Nat)(i k:Nat) :(Wr l i k).length=l.length:=by unfold Wr;rw [List.length_set,List.length_set]
def LE(l:List Nat) :Nat→List Nat
  | 0=>l
  | i+1=>Wr (LE l i) i (DP (LE l i) i (l.length-(i+1)))
theorem Jg(l:List Nat) :∀ i,(LE l i).length=l.length
  | 0=>rfl
  | i+1=>by unfold LE;rw [VC,Jg l i]
theorem TH{n i:Nat}{l:List Nat}(hn:n≤1000000)(hl:l.length=n)(hi:i<n) :jk (cu (ug n l) (i,i+1)) (Sum.elim (fun k=>k=DP l i (n-(i+1))) fun _=>False):=by
  refine jk.loop (fun p=>i<p.2∧p.2≤n∧p.1=DP l i (p.2-(i+1))) (fun p=>n-p.2) ⟨by dsimp only;omega,by dsimp only;omega,by show i=DP l i (i+1-(i+1));rw [Nat.sub_self];rfl⟩ ?_
  rintro ⟨k,j⟩ ⟨h1,h2,h3⟩
  dsimp only at h1 h2 h3
  unfold ug
  dsimp only
  have hk:=Gf l i (j-(i+1))
  rw [←h3] at hk
  refine an (fun x=>j<n∧x=DP l i (j+1-(i+1))) (aL ?_) fun x hx=>aL ?_
  · unfold G6
    simp only [T.wp,Sum.elim_inl,Sum.elim_inr,decide_eq_true_eq,decide_eq_false_iff_not,ao,aO,aP,aq,aw,am,aB,ah,List.length_set,List.length_replicate,beq_iff_eq,beq_eq_false_iff_ne,bne_iff_ne,bne_eq_false_iff_eq,Bool.not_eq_true',Bool.not_eq_false',ne_eq,ak,Int.toNat_natCast]
    have e:DP l i (j+1-(i+1))=bif flt (l.getD j 0) (l.getD k 0) then j else k:=by
      rw [show j+1-(i+1)=(j-(i+1))+1 by omega]
      unfold DP
      rw [show i+1+(j-(i+1))=j by omega,←h3]
    refine ⟨fun h=>⟨by omega,by omega,by omega,by omega,fun q=>⟨by omega,?_⟩,fun q=>⟨by omega,?_⟩⟩,fun h=>?_⟩
    · rw [e,q];rfl
    · rw [e,q];rfl
    · rw [h3];congr 1;omega
  · unfold G7
    simp only [T.wp,Sum.elim_inl,Sum.elim_inr,decide_eq_true_eq,decide_eq_false_iff_not,ao,aO,aP,aq,aw,am,aB,ah,List.length_set,List.length_replicate,beq_iff_eq,beq_eq_false_iff_ne,bne_iff_ne,bne_eq_false_iff_eq,Bool.not_eq_true',Bool.not_eq_false',ne_eq,ak,Int.toNat_natCast]
    refine ⟨by omega,⟨by omega,by omega,hx.2⟩,by omega⟩
theorem TI{R n i k:Nat}{z:List Nat}(hR:R≤512)(hn:n≤512)(hz:z.length=R*n)(hi:i<n)(hk:k<n) :jk (cu (uh (R:Int) (n:Int) (R*n) i k) (0,z)) (Sum.elim (fun z'=>z'.length=R*n) fun _=>False):=by
  have hRC:R*n≤262144:=Nat.mul_le_mul hR hn
  refine jk.loop (fun p=>p.1≤R∧p.2.length=R*n) (fun p=>R-p.1) ⟨Nat.zero_le _,hz⟩ ?_
  rintro ⟨a,l⟩ ⟨ha,hl⟩
  dsimp only at ha hl
  unfold uh
  refine aL ?_
  unfold Ha
  have e:((a:Int))*(n:Int)=((a*n:Nat):Int):=by rw [Int.natCast_mul]
  rw [e]
  simp only [T.wp,Sum.elim_inl,Sum.elim_inr,decide_eq_true_eq,decide_eq_false_iff_not,ao,aO,aP,aq,aw,am,aB,ah,List.length_set,List.length_replicate,beq_iff_eq,beq_eq_false_iff_ne,bne_iff_ne,bne_eq_false_iff_eq,Bool.not_eq_true',Bool.not_eq_false',ne_eq,ak,Int.toNat_natCast]
  refine ⟨fun h=>?_,fun h=>hl⟩
  have q:(a+1)*n≤R*n:=Nat.mul_le_mul_right n (by omega)
  rw [Nat.add_mul,Nat.one_mul] at q
  generalize a*n=p at *
  generalize R*n=y at *
  omega
theorem Ny{w z:List Nat}{R:Nat}(hw:w.length≤512)(hR:R≤512)(hz:z.length=R*w.length) :
    jk (fk w (R:Int) (w.length:Int) z) fun x=>(x=.r0 0 10 [] 0 0 0 []∧¬ GD w)∨(GD w∧∃ z',x=.r0 w.length 0 (LE w w.length) (R:Int) (w.length:Int) (R*w.length) z'∧z'.length=R*w.length):=by
  have hRC:R*w.length≤262144:=Nat.mul_le_mul hR hw
  refine ql (an (fun _=>GD w) (aL ?_) fun _ hg=>?_)
  · unfold GZ
    rw [ak,ak,OR]
    obtain ⟨x,hx,k,rfl,hk⟩:=Jf w (by omega)
    rw [hx,decide_eq_true (show 0≤(R:Int)∧(R:Int)≤512∧0≤(w.length:Int)∧(w.length:Int)≤512∧(z.length:Int)=(R:Int)*(w.length:Int) by rw [hz,Int.natCast_mul];omega)]
    simp only [T.wp,Sum.elim_inl,Sum.elim_inr,decide_eq_true_eq,decide_eq_false_iff_not,ao,aO,aP,aq,aw,am,aB,ah,List.length_set,List.length_replicate,beq_iff_eq,beq_eq_false_iff_ne,bne_iff_ne,bne_eq_false_iff_eq,Bool.not_eq_true',Bool.not_eq_false',ne_eq,ak,Int.toNat_natCast]
    refine ⟨by omega,rfl,fun h=>(by cases h),fun _=>⟨fun h=>absurd trivial h,fun _=>⟨by omega,rfl,fun h=>.inl ⟨trivial,?_⟩,fun h=>?_⟩⟩⟩
    · rcases hk with hk | hk
      · exact hk.2
      · exact absurd hk.1 (by simpa [bG] using h)
    · rcases hk with hk | hk
      · exact absurd hk.1 (by simpa [bG] using h)
      · exact hk.2
  refine an (fun p=>p=(w.length,w.length,w,R*w.length,z)) (aL ?_) ?_
  · unfold G0
    rw [ak,ak,hz]
    simp only [T.wp,Sum.elim_inl,Sum.elim_inr,decide_eq_true_eq,decide_eq_false_iff_not,ao,aO,aP,aq,aw,am,aB,ah,List.length_set,List.length_replicate,beq_iff_eq,beq_eq_false_iff_ne,bne_iff_ne,bne_eq_false_iff_eq,Bool.not_eq_true',Bool.not_eq_false',ne_eq,ak,Int.toNat_natCast]
    simp only [eX,Nat.ble_eq]
    refine ⟨by omega,by omega,by omega,by omega,trivial⟩
  rintro ⟨w1,a2,l3,a4,l5⟩ h
  injection h with h1 h;injection h with h2 h;injection h with h3 h;injection h with h4 h5
  replace h3:=h3.symm
  replace h5:=h5.symm
  subst h1 h2 h3 h4 h5
  refine an (fun p=>p.1=LE w w.length∧p.2.length=R*w.length) (jk.loop (fun p=>p.1≤w.length∧p.2.1=LE w p.1∧p.2.2.length=R*w.length) (fun p=>w.length-p.1) ⟨Nat.zero_le _,rfl,hz⟩ ?_) ?_
  · rintro ⟨a,l,y⟩ ⟨h1,h2,h3⟩
    dsimp only at h1 h2 h3
    have hll:l.length=w.length:=by rw [h2];exact Jg w a
    unfold xT
    dsimp only
    refine an (fun _=>a<w.length) (aL ?_) fun _ ha=>?_
    · unfold G2
      simp only [T.wp,Sum.elim_inl,Sum.elim_inr,decide_eq_true_eq,decide_eq_false_iff_not,ao,aO,aP,aq,aw,am,aB,ah,List.length_set,List.length_replicate,beq_iff_eq,beq_eq_false_iff_ne,bne_iff_ne,bne_eq_false_iff_eq,Bool.not_eq_true',Bool.not_eq_false',ne_eq,ak,Int.toNat_natCast]
      refine ⟨fun h=>by omega,fun h=>?_⟩
      have:a=w.length:=by omega
      subst this
      exact ⟨h2,h3⟩
    refine an (fun p=>p.1=LE w (a+1)∧p.2.length=R*w.length) (jk.join (an (fun j=>j=a+1) (aL ?_) ?_)) fun p hp=>aL ?_
    · unfold G4
      simp only [T.wp,Sum.elim_inl,Sum.elim_inr,decide_eq_true_eq,decide_eq_false_iff_not,ao,aO,aP,aq,aw,am,aB,ah,List.length_set,List.length_replicate,beq_iff_eq,beq_eq_false_iff_ne,bne_iff_ne,bne_eq_false_iff_eq,Bool.not_eq_true',Bool.not_eq_false',ne_eq,ak,Int.toNat_natCast]
      exact ⟨by omega,trivial⟩
    · rintro j rfl
      refine an (fun k=>k=DP l a (w.length-(a+1))) (jk.mono (TH (by omega) hll ha) fun r hr=>?_) ?_
      · cases r with
        | inl x=>exact hr
        | inr x=>exact hr.elim
      rintro k rfl
      have hk:=Gf l a (w.length-(a+1))
      refine an (fun m=>m=LE w (a+1)) (aL ?_) ?_
      · unfold G8
        simp only [T.wp,Sum.elim_inl,Sum.elim_inr,decide_eq_true_eq,decide_eq_false_iff_not,ao,aO,aP,aq,aw,am,aB,ah,List.length_set,List.length_replicate,beq_iff_eq,beq_eq_false_iff_ne,bne_iff_ne,bne_eq_false_iff_eq,Bool.not_eq_true',Bool.not_eq_false',ne_eq,ak,Int.toNat_natCast]
        refine ⟨by omega,by omega,by omega,by omega,by omega,by omega,by omega,by omega,?_⟩
        subst h2
        rfl
      rintro m rfl
      refine an (fun y=>y.length=R*w.length) (jk.mono (TI hR hw h3 ha (by omega)) fun r hr=>?_) fun y hy=>aL ?_
      · cases r with
        | inl x=>exact hr
        | inr x=>exact hr.elim
      · unfold Hb
        exact ⟨rfl,hy⟩
    · obtain ⟨p1,p2⟩:=p
      unfold Hc
      simp only [T.wp,Sum.elim_inl,Sum.elim_inr,decide_eq_true_eq,decide_eq_false_iff_not,ao,aO,aP,aq,aw,am,aB,ah,List.length_set,List.length_replicate,beq_iff_eq,beq_eq_false_iff_ne,bne_iff_ne,bne_eq_false_iff_eq,Bool.not_eq_true',Bool.not_eq_false',ne_eq,ak,Int.toNat_natCast]
      exact ⟨by omega,⟨by omega,hp.1,hp.2⟩,by omega⟩
  · rintro ⟨l,y⟩ ⟨h1,h2⟩
    dsimp only at h1 h2
    subst h1
    refine aL ?_
    unfold Hd
    exact .inr ⟨hg,y,rfl,h2⟩
theorem VD{d e:List Nat}{a N:Nat}(hd:d.length=N)(he:e.length=N)(hN:N≤512)(ha:a<N) :jk (ca d e (a:Int)) fun x=>∃ m:Nat,x=.r0 (m:Int)∧a≤m∧m<N:=by
  refine ql (an (fun _=>True) (aL ?_) fun _ _=>an (fun _=>True) (aL ?_) fun _ _=>?_)
  · unfold zY;trivial
  · unfold za;trivial
  refine an (fun i=>(a:Int)≤i∧i<N) (jk.loop (fun i=>(a:Int)≤i∧i<N) (fun i=>(N-i).toNat) ⟨by omega,by omega⟩ ?_) fun i hi=>aL ?_
  · rintro i ⟨h1,h2⟩
    unfold qf
    refine aL ?_
    unfold zb
    simp only [T.wp,Sum.elim_inl,Sum.elim_inr,decide_eq_true_eq,decide_eq_false_iff_not,ao,aO,aP,aq,aw,am,aB,ah,List.length_set,List.length_replicate,beq_iff_eq,beq_eq_false_iff_ne,bne_iff_ne,bne_eq_false_iff_eq,Bool.not_eq_true',Bool.not_eq_false',ne_eq,ak,Int.toNat_natCast]
    rw [hd,he]
    refine ⟨by omega,fun h=>⟨by omega,by omega,by omega,by omega,by omega,by omega,by omega,fun _=>⟨by omega,by omega⟩,fun _=>⟨by omega,⟨by omega,by omega⟩,by omega⟩⟩,fun h=>⟨by omega,by omega⟩⟩
  · unfold zc
    exact ⟨i.toNat,by rw [Int.toNat_of_nonneg (by omega)],by omega,by omega⟩
abbrev Xf:=Nat×Nat×Nat×Nat×Nat×Nat×Int×Int×Nat×Nat×List Nat×List Nat×List Nat
structure QI (N M R:Nat) (a69 a70 a71 a72:Nat) (i73 i74:Int) (a75 a76:Nat) (l77 l78 l79:List Nat):Prop where
  e1:N=a69
  e2:N=a70
  e3:M=a71
  e4:M=a72
  e5:(R:Int)=i73
  e6:(N:Int)=i74
  e7:R*N=a75
  e8:R*N=a76
  d:l77.length=N
  e:l78.length=M
  z:l79.length=R*N
def VE(N R:Nat)(x:cR) :Prop :=
  (∃ s e,x=.r0 0 s e [] 0 0 0 []∧(e=7∨e=10))∨∃ s w z,x=.r0 N s 0 (LE w N) (R:Int) (N:Int) (R*N) z∧s≤31*N∧w.length=N∧GD w∧z.length=R*N
theorem Si{D E Z:List Nat}{R N:Nat}(hD:D.length=N)(hM:UW D E=true)(hR:R≤512)(hN:N≤512)(hZ:Z.length=R*N) :
    jk (fg D E (R:Int) (N:Int) Z) (VE N R):=by
  have hRC:R*N≤262144:=Nat.mul_le_mul hR hN
  have hE:E.length=N-1:=by
    have:=of_decide_eq_true hM
    omega
  obtain ⟨M,hMe⟩:∃ M,M=E.length+1:=⟨_,rfl⟩
  refine ql (an (fun _=>True) (aL ?_) fun _ _=>?_)
  · unfold IH
    rw [ak,ak,ak,OR,Nx (by omega),hM]
    obtain ⟨x,hx,k,rfl,hk⟩:=Jf D (by omega)
    obtain ⟨y,hy,k2,rfl,hk2⟩:=Jf E (by omega)
    obtain ⟨y3,hy3,k3,rfl,hk3⟩:=Jf Z (by omega)
    rw [hx,hy,hy3,decide_eq_true (show 0≤(R:Int)∧(R:Int)≤512∧0≤(N:Int)∧(N:Int)≤512∧(Z.length:Int)=(R:Int)*(N:Int) by rw [hZ,Int.natCast_mul];omega)]
    simp only [T.wp,Sum.elim_inl,Sum.elim_inr,decide_eq_true_eq,decide_eq_false_iff_not,ao,aO,aP,aq,aw,am,aB,ah,List.length_set,List.length_replicate,beq_iff_eq,beq_eq_false_iff_ne,bne_iff_ne,bne_eq_false_iff_eq,Bool.not_eq_true',Bool.not_eq_false',ne_eq,ak,Int.toNat_natCast]
    refine ⟨by omega,by omega,rfl,fun h=>(by cases h),fun _=>⟨by omega,rfl,fun h=>(by cases h),fun _=>⟨fun h=>absurd (by omega) h,fun _=>⟨by omega,rfl,fun _=>.inl ⟨_,_,rfl,.inr rfl⟩,fun _=>⟨by omega,rfl,fun _=>.inl ⟨_,_,rfl,.inr rfl⟩,fun _=>⟨by omega,rfl,fun _=>.inl ⟨_,_,rfl,.inr rfl⟩,fun _=>trivial⟩⟩⟩⟩⟩⟩
  refine an (fun (p:Nat×Nat×Nat×List Nat×List Nat×List Nat)=>p.1=N∧p.2.1=M∧p.2.2.1=R*N∧p.2.2.2.1.length=N∧p.2.2.2.2.1.length=M∧p.2.2.2.2.2.length=R*N) (aL ?_) ?_
  · unfold II
    rw [ak,ak,ak]
    simp only [T.wp,Sum.elim_inl,Sum.elim_inr,decide_eq_true_eq,decide_eq_false_iff_not,ao,aO,aP,aq,aw,am,aB,ah,List.length_set,List.length_replicate,beq_iff_eq,beq_eq_false_iff_ne,bne_iff_ne,bne_eq_false_iff_eq,Bool.not_eq_true',Bool.not_eq_false',ne_eq,ak,Int.toNat_natCast]
    simp only [eX,Nat.ble_eq,List.length_append,List.length_take,List.length_cons,List.length_nil]
    refine ⟨by omega,by omega,by omega,by omega,by omega,by omega,by omega,by omega,by omega,by omega,by omega,by omega,by omega,by omega,by omega,by omega⟩
  rintro ⟨a1,a2,a3,l4,l5,l6⟩ ⟨h1,h2,h3,h4,h5,h6⟩
  dsimp only at h1 h2 h3 h4 h5 h6
  subst h1 h2 h3
  refine an (fun (p:Nat×Nat×Nat×Nat×Nat×Int×Int×Nat×Nat×List Nat×List Nat×List Nat)=>p.1≤31*a1∧QI a1 a2 R p.2.1 p.2.2.1 p.2.2.2.1 p.2.2.2.2.1 p.2.2.2.2.2.1 p.2.2.2.2.2.2.1 p.2.2.2.2.2.2.2.1 p.2.2.2.2.2.2.2.2.1 p.2.2.2.2.2.2.2.2.2.1 p.2.2.2.2.2.2.2.2.2.2.1 p.2.2.2.2.2.2.2.2.2.2.2)
    (jk.loop (fun (p:Xf)=>p.1≤31*p.2.1∧p.2.1≤a1∧QI a1 a2 R p.2.2.1 p.2.2.2.1 p.2.2.2.2.1 p.2.2.2.2.2.1 p.2.2.2.2.2.2.1 p.2.2.2.2.2.2.2.1 p.2.2.2.2.2.2.2.2.1 p.2.2.2.2.2.2.2.2.2.1 p.2.2.2.2.2.2.2.2.2.2.1 p.2.2.2.2.2.2.2.2.2.2.2.1 p.2.2.2.2.2.2.2.2.2.2.2.2) (fun p=>a1-p.2.1) ⟨by dsimp only;omega,by dsimp only;omega,⟨rfl,rfl,rfl,rfl,rfl,rfl,rfl,rfl,h4,h5,h6⟩⟩ ?_) ?_
  · rintro ⟨sw,a,a69,a70,a71,a72,i73,i74,a75,a76,l77,l78,l79⟩ ⟨b1,b2,⟨e1,e2,e3,e4,e5,e6,e7,e8,hd,he,hz⟩⟩
    dsimp only at b1 b2 e1 e2 e3 e4 e5 e6 e7 e8 hd he hz
    subst e3 e4 e5 e6 e7 e8
    unfold zy
    dsimp only
    refine an (fun _=>a<a1) (aL ?_) fun _ ha=>?_
    · unfold IK
      simp only [T.wp,Sum.elim_inl,Sum.elim_inr,decide_eq_true_eq,decide_eq_false_iff_not,ao,aO,aP,aq,aw,am,aB,ah,List.length_set,List.length_replicate,beq_iff_eq,beq_eq_false_iff_ne,bne_iff_ne,bne_eq_false_iff_eq,Bool.not_eq_true',Bool.not_eq_false',ne_eq,ak,Int.toNat_natCast]
      refine ⟨fun h=>by omega,fun h=>⟨by omega,⟨e1,e2,rfl,rfl,rfl,rfl,rfl,rfl,hd,he,hz⟩⟩⟩
    subst e1 e2
    have hMN:a2=a1:=by omega
    subst hMN
    refine an (fun (p:Nat×Nat×Nat×Nat×Nat×Int×Int×Nat×Nat×List Nat×List Nat×List Nat)=>p.1≤31*(a+1)∧QI a2 a2 R p.2.1 p.2.2.1 p.2.2.2.1 p.2.2.2.2.1 p.2.2.2.2.2.1 p.2.2.2.2.2.2.1 p.2.2.2.2.2.2.2.1 p.2.2.2.2.2.2.2.2.1 p.2.2.2.2.2.2.2.2.2.1 p.2.2.2.2.2.2.2.2.2.2.1 p.2.2.2.2.2.2.2.2.2.2.2) (jk.join (an (fun _=>True) (aL ?_) fun _ _=>?_)) ?_
    · unfold IL;trivial
    · refine an (fun (p:Nat×Nat×Nat×Nat×Nat×Int×Int×Nat×Nat×List Nat×List Nat×List Nat)=>p.1≤31*(a+1)∧QI a2 a2 R p.2.1 p.2.2.1 p.2.2.2.1 p.2.2.2.2.1 p.2.2.2.2.2.1 p.2.2.2.2.2.2.1 p.2.2.2.2.2.2.2.1 p.2.2.2.2.2.2.2.2.1 p.2.2.2.2.2.2.2.2.2.1 p.2.2.2.2.2.2.2.2.2.2.1 p.2.2.2.2.2.2.2.2.2.2.2)
        (jk.loop (fun (p:Xf)=>p.1≤31*a+p.2.1∧p.2.1≤30∧QI a2 a2 R p.2.2.1 p.2.2.2.1 p.2.2.2.2.1 p.2.2.2.2.2.1 p.2.2.2.2.2.2.1 p.2.2.2.2.2.2.2.1 p.2.2.2.2.2.2.2.2.1 p.2.2.2.2.2.2.2.2.2.1 p.2.2.2.2.2.2.2.2.2.2.1 p.2.2.2.2.2.2.2.2.2.2.2.1 p.2.2.2.2.2.2.2.2.2.2.2.2) (fun p=>31-p.2.1) ⟨by dsimp only;omega,by dsimp only;omega,⟨rfl,rfl,rfl,rfl,rfl,rfl,rfl,rfl,hd,he,hz⟩⟩ ?_) ?_
      · rintro ⟨sw,mn,a69,a70,a71,a72,i73,i74,a75,a76,d,e,z⟩ ⟨c1,c2,⟨e1,e2,e3,e4,e5,e6,e7,e8,hd,he,hz⟩⟩
        dsimp only at c1 c2 e1 e2 e3 e4 e5 e6 e7 e8 hd he hz
        subst e1 e2 e3 e4 e5 e6 e7 e8
        unfold zx
        dsimp only
        refine an (fun (p:Nat×Nat×Nat×Nat×Nat×Int×Int×Nat×Nat×List Nat×List Nat×List Nat)=>mn<30∧p.1≤31*a+(mn+1)∧QI a2 a2 R p.2.1 p.2.2.1 p.2.2.2.1 p.2.2.2.2.1 p.2.2.2.2.2.1 p.2.2.2.2.2.2.1 p.2.2.2.2.2.2.2.1 p.2.2.2.2.2.2.2.2.1 p.2.2.2.2.2.2.2.2.2.1 p.2.2.2.2.2.2.2.2.2.2.1 p.2.2.2.2.2.2.2.2.2.2.2) (aL ?_) ?_
        · unfold IN
          rw [ff hd,ff he]
          obtain ⟨x,hx,m,rfl,hm1,hm2⟩:=VD hd he hN ha
          rw [hx]
          simp only [nK,bH]
          simp only [T.wp,Sum.elim_inl,Sum.elim_inr,decide_eq_true_eq,decide_eq_false_iff_not,ao,aO,aP,aq,aw,am,aB,ah,List.length_set,List.length_replicate,beq_iff_eq,beq_eq_false_iff_ne,bne_iff_ne,bne_eq_false_iff_eq,Bool.not_eq_true',Bool.not_eq_false',ne_eq,ak,Int.toNat_natCast]
          refine ⟨by omega,by omega,by omega,trivial,fun h=>⟨by omega,rfl,rfl,rfl,rfl,rfl,rfl,rfl,rfl,hd,he,hz⟩,fun h=>⟨fun h2=>.inl ⟨_,_,rfl,.inl rfl⟩,fun h2=>?_⟩⟩
          obtain ⟨y,hy,d',e',z',rfl,hd',he',hz'⟩:=TG (c1:=a2) (c3:=a2) (R:=R) (l:=(a:Int)) (m:=(m:Int)) hd he hz hR hN (by omega) (by omega) (by omega)
          rw [hy]
          simp only [kR,lO,lP,lQ,lR,lS,lT,lU,lV,lW,lX,ld]
          exact ⟨trivial,by omega,by omega,by omega,rfl,rfl,rfl,rfl,rfl,rfl,rfl,rfl,hd',he',hz'⟩
        · rintro ⟨sw',x1,x2,x3,x4,x5,x6,x7,x8,d',e',z'⟩ ⟨hlt,hs,hq⟩
          refine aL ?_
          unfold IO
          dsimp only at hlt hs
          simp only [T.wp,Sum.elim_inl,Sum.elim_inr,decide_eq_true_eq,decide_eq_false_iff_not,ao,aO,aP,aq,aw,am,aB,ah,List.length_set,List.length_replicate,beq_iff_eq,beq_eq_false_iff_ne,bne_iff_ne,bne_eq_false_iff_eq,Bool.not_eq_true',Bool.not_eq_false',ne_eq,ak,Int.toNat_natCast]
          exact ⟨by omega,⟨hs,by omega,hq⟩,by omega⟩
      · rintro ⟨sw',x1,x2,x3,x4,x5,x6,x7,x8,d',e',z'⟩ h
        refine aL ?_
        unfold IP
        exact h
    · rintro ⟨sw',x1,x2,x3,x4,x5,x6,x7,x8,d',e',z'⟩ ⟨hs,hq⟩
      refine aL ?_
      unfold IQ
      dsimp only at hs
      simp only [T.wp,Sum.elim_inl,Sum.elim_inr,decide_eq_true_eq,decide_eq_false_iff_not,ao,aO,aP,aq,aw,am,aB,ah,List.length_set,List.length_replicate,beq_iff_eq,beq_eq_false_iff_ne,bne_iff_ne,bne_eq_false_iff_eq,Bool.not_eq_true',Bool.not_eq_false',ne_eq,ak,Int.toNat_natCast]
      exact ⟨by omega,⟨hs,by omega,hq⟩,by omega⟩
  · rintro ⟨sw,x1,x2,x3,x4,x5,x6,x7,x8,d,e,z⟩ ⟨hs,⟨e1,e2,e3,e4,e5,e6,e7,e8,hd,he,hz⟩⟩
    dsimp only at hs e1 e2 e3 e4 e5 e6 e7 e8 hd he hz
    subst e1 e2 e3 e4 e5 e6 e7 e8
    have hS:=Ny (w:=d) (z:=z) (R:=R) (by omega) hR (by rw [hd];exact hz)
    rw [hd] at hS
    obtain ⟨x,hx,hxx⟩:=hS
    refine an (fun (p:Nat×Nat×Int×Int×Nat×List Nat×List Nat)=>p.2.1=10∨(GD d∧∃ z',z'.length=R*a1∧p=(a1,0,(R:Int),(a1:Int),R*a1,LE d a1,z'))) (aL ?_) ?_
    · unfold IR
      rw [ff hd,ff hz,hx]
      simp only [T.wp,Sum.elim_inl,Sum.elim_inr,decide_eq_true_eq,decide_eq_false_iff_not,ao,aO,aP,aq,aw,am,aB,ah,List.length_set,List.length_replicate,beq_iff_eq,beq_eq_false_iff_ne,bne_iff_ne,bne_eq_false_iff_eq,Bool.not_eq_true',Bool.not_eq_false',ne_eq,ak,Int.toNat_natCast]
      refine ⟨by omega,by omega,?_⟩
      rcases hxx with ⟨rfl,_⟩ | ⟨hg,z',rfl,hz'⟩
      · exact ⟨rfl,.inl rfl⟩
      · exact ⟨rfl,.inr ⟨hg,z',hz',rfl⟩⟩
    · rintro ⟨w,ee,i,i',aa,l,l'⟩ h
      refine aL ?_
      unfold IS
      rcases h with h | ⟨hg,z',hz',h⟩
      · dsimp only at h
        subst h
        simp only [T.wp,Sum.elim_inl,Sum.elim_inr,decide_eq_true_eq,decide_eq_false_iff_not,ao,aO,aP,aq,aw,am,aB,ah,List.length_set,List.length_replicate,beq_iff_eq,beq_eq_false_iff_ne,bne_iff_ne,bne_eq_false_iff_eq,Bool.not_eq_true',Bool.not_eq_false',ne_eq,ak,Int.toNat_natCast]
        exact ⟨fun _=>.inl ⟨_,_,rfl,.inl rfl⟩,fun q=>absurd q (by decide)⟩
      · injection h with h1 h;injection h with h2 h;injection h with h3 h;injection h with h4 h;injection h with h5 h;injection h with h6 h7
        subst h1 h2 h3 h4 h5 h6 h7
        simp only [T.wp,Sum.elim_inl,Sum.elim_inr,decide_eq_true_eq,decide_eq_false_iff_not,ao,aO,aP,aq,aw,am,aB,ah,List.length_set,List.length_replicate,beq_iff_eq,beq_eq_false_iff_ne,bne_iff_ne,bne_eq_false_iff_eq,Bool.not_eq_true',Bool.not_eq_false',ne_eq,ak,Int.toNat_natCast]
        exact ⟨fun q=>absurd rfl q,fun _=>.inr ⟨_,d,_,rfl,hs,hd,hg,hz'⟩⟩
def In(K:Nat)(l:List Int) :Prop:=∀ x,x∈l→0≤x∧x<K
theorem FW{α:Type}{l:List α}{i:Nat}{d:α}(h:i<l.length) :l.getD i d∈l:=by
  rw [List.getD_eq_getElem?_getD,List.getElem?_eq_getElem h]
  exact List.getElem_mem h
theorem In.at{K:Nat}{l:List Int}(h:In K l){i:Nat}(hi:i<l.length) :0≤l.getD i 0∧l.getD i 0<K:=h _ (FW hi)
theorem In.set{K:Nat}{l:List Int}(h:In K l){i:Nat}{x:Int}(hx:0≤x∧x<K) :In K (l.set i x):=by
  intro y hy
  rcases List.mem_or_eq_of_mem_set hy with q | q
  · exact h _ q
  · rw [q];exact hx
theorem In.push{K:Nat}{l:List Int}(h:In K l){i:Nat}{x:Int}(hx:0≤x∧x<K) :In K (l.take i++[x]):=by
  intro y hy
  rcases List.mem_append.1 hy with q | q
  · exact h _ (List.mem_of_mem_take q)
  · rw [List.mem_singleton.1 q];exact hx
theorem In.nil{K:Nat} :In K []:=fun x h=>by cases h
theorem Rk(x y:Nat) :∃ k,rf x y=some (.r0 k):=by
  unfold rf Fq
  cases h1:Az x x<;>cases h2:Az y y<;>cases h3:flt x y<;>cases h4:Kh x y<;>simp only [T.run,toX]<;>exact ⟨_,rfl⟩
theorem TJ{l0:List Int}{cmp:List Nat}{N:Nat}(hl:l0.length=N)(hN:N≤1000)(hI:In cmp.length l0) :
    jk (aQ l0 0 N 0 (N:Int) cmp) fun x=>∃ l,x=.r0 l∧l.length=N∧In cmp.length l:=by
  refine uU (an (fun i=>i=1) (aL ?_) ?_)
  · unfold fv
    simp only [T.wp,Sum.elim_inl,Sum.elim_inr,decide_eq_true_eq,decide_eq_false_iff_not,ao,aO,aP,aq,aw,am,aB,ah,List.length_set,List.length_replicate,beq_iff_eq,beq_eq_false_iff_ne,bne_iff_ne,bne_eq_false_iff_eq,Bool.not_eq_true',Bool.not_eq_false',ne_eq,ak,Int.toNat_natCast]
    exact ⟨by omega,by omega⟩
  rintro i rfl
  refine an (fun l=>l.length=N∧In cmp.length l) (jk.loop (fun (p:Int×List Int)=>1≤p.1∧p.2.length=N∧In cmp.length p.2) (fun p=>((N:Int)-p.1).toNat) ⟨by dsimp only;omega,hl,hI⟩ ?_) fun l hl=>aL ?_
  · rintro ⟨i,l⟩ ⟨h1,h2,h3⟩
    dsimp only at h1 h2 h3
    unfold bT
    dsimp only
    refine an (fun _=>i<N) (aL ?_) fun _ hi=>?_
    · unfold fA
      simp only [T.wp,Sum.elim_inl,Sum.elim_inr,decide_eq_true_eq,decide_eq_false_iff_not,ao,aO,aP,aq,aw,am,aB,ah,List.length_set,List.length_replicate,beq_iff_eq,beq_eq_false_iff_ne,bne_iff_ne,bne_eq_false_iff_eq,Bool.not_eq_true',Bool.not_eq_false',ne_eq,ak,Int.toNat_natCast]
      exact ⟨fun h=>h,fun h=>⟨h2,h3⟩⟩
    refine an (fun l=>l.length=N∧In cmp.length l) (jk.join (an (fun _=>True) (aL ?_) fun _ _=>an (fun l=>l.length=N∧In cmp.length l) (jk.loop (fun (p:Int×List Int)=>0≤p.1∧p.1≤i∧p.2.length=N∧In cmp.length p.2) (fun p=>p.1.toNat) ⟨by dsimp only;omega,by dsimp only;omega,h2,h3⟩ ?_) fun l' hl'=>aL ?_)) fun l' hl'=>aL ?_
    · unfold fB;trivial
    · rintro ⟨j,y⟩ ⟨g1,g2,g3,g4⟩
      dsimp only at g1 g2 g3 g4
      unfold bS
      dsimp only
      refine an (fun b=>b=true→0<j) (aL ?_) fun b hb=>aL ?_
      · unfold fD
        simp only [T.wp,Sum.elim_inl,Sum.elim_inr,decide_eq_true_eq,decide_eq_false_iff_not,ao,aO,aP,aq,aw,am,aB,ah,List.length_set,List.length_replicate,beq_iff_eq,beq_eq_false_iff_ne,bne_iff_ne,bne_eq_false_iff_eq,Bool.not_eq_true',Bool.not_eq_false',ne_eq,ak,Int.toNat_natCast]
        refine ⟨fun h=>?_,fun h q=>by cases q⟩
        have a1:=g4.at (i:=cw 0 j.toNat) (by rw [aB];omega)
        have a2:=g4.at (i:=cw 0 (j-1).toNat) (by rw [aB];omega)
        simp only [aB] at a1 a2
        obtain ⟨k,hk⟩:=Rk (cmp.getD (y.getD (0+j.toNat) 0).toNat 0) (cmp.getD (y.getD (0+(j-1).toNat) 0).toNat 0)
        rw [hk]
        exact ⟨by omega,by omega,by omega,by omega,by omega,by omega,by omega,by omega,by omega,rfl,fun _=>by omega⟩
      · unfold fE
        simp only [T.wp,Sum.elim_inl,Sum.elim_inr,decide_eq_true_eq,decide_eq_false_iff_not,ao,aO,aP,aq,aw,am,aB,ah,List.length_set,List.length_replicate,beq_iff_eq,beq_eq_false_iff_ne,bne_iff_ne,bne_eq_false_iff_eq,Bool.not_eq_true',Bool.not_eq_false',ne_eq,ak,Int.toNat_natCast]
        refine ⟨fun h=>?_,fun h=>⟨g3,g4⟩⟩
        have hj:=hb h
        have a1:=g4.at (i:=cw 0 j.toNat) (by rw [aB];omega)
        have a2:=g4.at (i:=cw 0 (j-1).toNat) (by rw [aB];omega)
        simp only [aB] at a1 a2
        exact ⟨by omega,by omega,by omega,by omega,by omega,by omega,by omega,by omega,by omega,by omega,by omega,⟨by omega,by omega,by omega,(g4.set a2).set a1⟩,by omega⟩
    · unfold fF
      exact hl'
    · unfold fG
      simp only [T.wp,Sum.elim_inl,Sum.elim_inr,decide_eq_true_eq,decide_eq_false_iff_not,ao,aO,aP,aq,aw,am,aB,ah,List.length_set,List.length_replicate,beq_iff_eq,beq_eq_false_iff_ne,bne_iff_ne,bne_eq_false_iff_eq,Bool.not_eq_true',Bool.not_eq_false',ne_eq,ak,Int.toNat_natCast]
      exact ⟨by omega,⟨by omega,hl'⟩,by omega⟩
  · unfold fH
    exact ⟨_,rfl,hl⟩
theorem TK{l0:List Int}{cmp c2:List Nat}{N:Nat}(hl:l0.length=N)(hN:N≤12)(hI:In cmp.length l0) :
    jk (bM l0 0 N cmp c2) fun x=>∃ l,x=.r0 l∧l.length=N∧In cmp.length l:=by
  obtain ⟨x,hx,l,rfl,h1,h2⟩:=TJ hl (by omega) hI
  have h:bx l0 0 N (N:Int) cmp c2=some (.r0 l):=by
    unfold bx
    have e:bd ((gC).run) (fun _ =>
        bd (cu (cz 0 N (N:Int) cmp c2) (0,20,l0)) fun (a4,l5) =>
        bd ((eH 0 N (N:Int) cmp c2 a4 l5).run) fun l6 =>
        bd (cu (bt (N:Int)) 20) fun _ =>
        (gG l6).run)=some (.inl l):=by
      refine df (a:=()) rfl (df (a:=(0,l0)) (wu (fun _=>(0,20,l0)) 0 rfl (fun j hj=>absurd hj (by omega)) ?_) ?_)
      · show (eG _ _ _ _ _ _ _ _).run=_
        unfold eG
        exact zE (by simp only [ao,aO,aP,aq,aw,am,cO,cP,decide_eq_true_eq,decide_eq_false_iff_not,beq_iff_eq,beq_eq_false_iff_ne,bne_iff_ne,bne_eq_false_iff_eq,Bool.not_eq_true',Bool.not_eq_false',List.length_set,ne_eq,ge_iff_le,gt_iff_lt,bK,ah,eX];omega) rfl
      · refine df (a:=l) ?_ (df (a:=()) (wu (fun _=>20) 0 rfl (fun j hj=>absurd hj (by omega)) ?_) rfl)
        · unfold eH
          refine kW (kW ?_)
          rw [ak]
          show (T.need (bf (aQ l0 0 N 0 (N:Int) cmp)) (T.leaf (Sum.inl (bu (aQ l0 0 N 0 (N:Int) cmp))))).run=_
          rw [hx]
          rfl
        · show bt (N:Int) 20=_
          unfold bt
          refine qZ ?_
          unfold gE
          exact zE (by simp only [ao,aO,aP,aq,aw,am,cO,cP,decide_eq_true_eq,decide_eq_false_iff_not,beq_iff_eq,beq_eq_false_iff_ne,bne_iff_ne,bne_eq_false_iff_eq,Bool.not_eq_true',Bool.not_eq_false',List.length_set,ne_eq,ge_iff_le,gt_iff_lt,bK,ah,eX];omega) rfl
    rw [e];rfl
  refine uU (aL ?_)
  unfold gI
  rw [ak,ak,h]
  simp only [T.wp,Sum.elim_inl,Sum.elim_inr,decide_eq_true_eq,decide_eq_false_iff_not,ao,aO,aP,aq,aw,am,aB,ah,List.length_set,List.length_replicate,beq_iff_eq,beq_eq_false_iff_ne,bne_iff_ne,bne_eq_false_iff_eq,Bool.not_eq_true',Bool.not_eq_false',ne_eq,ak,Int.toNat_natCast]
  exact ⟨by omega,by omega,rfl,l,rfl,h1,h2⟩
theorem Rl(l:List Nat)(hl:l.length≤1000000) :∃ k,pI l=some (.r0 k):=by
  have:jk (pI l) fun x=>∃ k,x=.r0 k:=by
    refine ql (an (fun _=>True) (aL ?_) fun _ _=>an (fun _=>True) (jk.loop (fun p=>p.2.2≤l.length) (fun p=>l.length-p.2.2) (Nat.zero_le _) ?_) fun p _=>aL ?_)
    · unfold Hl;trivial
    · rintro ⟨s,t,a⟩ ha
      dsimp only at ha
      unfold v7
      dsimp only
      refine an (fun _=>a<l.length) (aL ?_) fun p hp=>aL ?_
      · unfold Fr
        simp only [T.wp,Sum.elim_inl,Sum.elim_inr,decide_eq_true_eq,decide_eq_false_iff_not,ao,aO,aP,aq,aw,am,aB,ah,List.length_set,List.length_replicate,beq_iff_eq,beq_eq_false_iff_ne,bne_iff_ne,bne_eq_false_iff_eq,Bool.not_eq_true',Bool.not_eq_false',ne_eq,ak,Int.toNat_natCast]
        exact ⟨fun h=>⟨by omega,by omega,fun _=>by omega,fun _=>⟨fun _=>by omega,fun _=>by omega⟩⟩,fun _=>trivial⟩
      · unfold Fs
        simp only [T.wp,Sum.elim_inl,Sum.elim_inr,decide_eq_true_eq,decide_eq_false_iff_not,ao,aO,aP,aq,aw,am,aB,ah,List.length_set,List.length_replicate,beq_iff_eq,beq_eq_false_iff_ne,bne_iff_ne,bne_eq_false_iff_eq,Bool.not_eq_true',Bool.not_eq_false',ne_eq,ak,Int.toNat_natCast]
        exact ⟨by omega,by omega,by omega⟩
    · unfold Ft
      exact ⟨_,rfl⟩
  obtain ⟨x,hx,k,rfl⟩:=this
  exact ⟨k,hx⟩
set_option maxHeartbeats 2000000 in
theorem Rm {N m rho : Nat} {d v : List Nat} (hd : d.length = N) (hv : v.length = N * N) (hN : N ≤ 12) (hm : 1 ≤ m) (hm2 : m < N) (hr : isNaN rho = false) :
    jk (cj (N : Int) N (N * N) d v (m : Int) rho) fun x => ∃ r d' z' v', x = .r0 (N : Int) N (N * N) r d v d' z' v' ∧ d'.length = N ∧ z'.length = N ∧ v'.length = N * N := by
  have hNN : N * N ≤ 144 := Nat.mul_le_mul hN hN
  have e0 : (N : Int) * (N : Int) = ((N * N : Nat) : Int) := by rw [Int.natCast_mul]
  refine uU (an (fun p => p.1 = N ∧ p.2.2.length = N) (aL ?_) ?_)
  · unfold rV
    simp only [T.wp, Sum.elim_inl, Sum.elim_inr, decide_eq_true_eq, decide_eq_false_iff_not, ao, aO, aP, aq, aw, am, aB, ah, List.length_set, List.length_replicate, beq_iff_eq, beq_eq_false_iff_ne, bne_iff_ne, bne_eq_false_iff_eq, Bool.not_eq_true', Bool.not_eq_false', ne_eq, ak, Int.toNat_natCast]
    ((repeat' (first | assumption | (refine And.intro ?_ ?_) | intro _)) <;> (try (first | omega | assumption | exact rfl | exact True.intro)))
    all_goals (rw [hr]; rfl)
  rintro ⟨z1, sg, l3⟩ ⟨h1, h2⟩
  dsimp only at h1 h2
  subst h1
  refine an (fun l => l.length = z1) (jk.loop (fun p => p.1 ≤ z1 ∧ p.2.length = z1) (fun p => z1 - p.1) ⟨Nat.zero_le _, h2⟩ ?_) fun l8 h8 => ?_
  · rintro ⟨a, l⟩ ⟨ha, hl⟩
    dsimp only at ha hl
    unfold jr
    dsimp only
    refine an (fun l => a < z1 ∧ l.length = z1) (aL ?_) fun l' hl' => aL ?_
    · unfold rW
      have e1 : ((m : Int) - 1) * (z1 : Int) = (((m - 1) * z1 : Nat) : Int) := by rw [show (m : Int) - 1 = ((m - 1 : Nat) : Int) by omega, Int.natCast_mul]
      have e2 : (m : Int) * (z1 : Int) = ((m * z1 : Nat) : Int) := by rw [Int.natCast_mul]
      rw [e1, e2]
      simp only [T.wp, Sum.elim_inl, Sum.elim_inr, decide_eq_true_eq, decide_eq_false_iff_not, ao, aO, aP, aq, aw, am, aB, ah, List.length_set, List.length_replicate, beq_iff_eq, beq_eq_false_iff_ne, bne_iff_ne, bne_eq_false_iff_eq, Bool.not_eq_true', Bool.not_eq_false', ne_eq, ak, Int.toNat_natCast]
      have q1 : (m - 1 + 1) * z1 ≤ z1 * z1 := Nat.mul_le_mul_right z1 (by omega)
      have q2 : (m + 1) * z1 ≤ z1 * z1 := Nat.mul_le_mul_right z1 (by omega)
      rw [Nat.add_mul, Nat.one_mul] at q1 q2
      generalize (m - 1) * z1 = p1 at *
      generalize m * z1 = p2 at *
      rw [hv]
      generalize z1 * z1 = y at *
      refine ⟨fun h => ⟨fun h' => ?_, fun h' => ?_⟩, fun h => hl⟩ <;> omega
    · unfold rX
      simp only [T.wp, Sum.elim_inl, Sum.elim_inr, decide_eq_true_eq, decide_eq_false_iff_not, ao, aO, aP, aq, aw, am, aB, ah, List.length_set, List.length_replicate, beq_iff_eq, beq_eq_false_iff_ne, bne_iff_ne, bne_eq_false_iff_eq, Bool.not_eq_true', Bool.not_eq_false', ne_eq, ak, Int.toNat_natCast]
      exact ⟨by omega, ⟨by omega, hl'.2⟩, by omega⟩
  refine an (fun p => p.1 = z1 ∧ p.2.1 = z1 ∧ p.2.2.length = z1 ∧ In z1 p.2.2) (aL ?_) ?_
  · unfold rY
    simp only [T.wp, Sum.elim_inl, Sum.elim_inr, decide_eq_true_eq, decide_eq_false_iff_not, ao, aO, aP, aq, aw, am, aB, ah, List.length_set, List.length_replicate, beq_iff_eq, beq_eq_false_iff_ne, bne_iff_ne, bne_eq_false_iff_eq, Bool.not_eq_true', Bool.not_eq_false', ne_eq, ak, Int.toNat_natCast]
    have hz : In z1 (List.replicate z1 (0 : Int)) := by
      intro x hx
      have := List.eq_of_mem_replicate hx
      omega
    ((repeat' (first | assumption | (refine And.intro ?_ ?_) | intro _)) <;> (try (first | omega | assumption | exact rfl | exact True.intro)))
  rintro ⟨or, a10, l11⟩ ⟨g1, g2, g3, g4⟩
  dsimp only at g1 g2 g3 g4
  subst g1 g2
  refine an (fun l => l.length = a10 ∧ In a10 l) (jk.loop (fun p => p.1 ≤ a10 ∧ p.2.length = a10 ∧ In a10 p.2) (fun p => a10 - p.1) ⟨Nat.zero_le _, g3, g4⟩ ?_) ?_
  · rintro ⟨a, l⟩ ⟨ha, hl, hi⟩
    dsimp only at ha hl hi
    unfold jt
    refine aL ?_
    unfold r5
    simp only [T.wp, Sum.elim_inl, Sum.elim_inr, decide_eq_true_eq, decide_eq_false_iff_not, ao, aO, aP, aq, aw, am, aB, ah, List.length_set, List.length_replicate, beq_iff_eq, beq_eq_false_iff_ne, bne_iff_ne, bne_eq_false_iff_eq, Bool.not_eq_true', Bool.not_eq_false', ne_eq, ak, Int.toNat_natCast]
    exact ⟨fun h => ⟨by omega, by omega, by omega, ⟨by omega, by omega, hi.set (by omega)⟩, by omega⟩, fun h => ⟨hl, hi⟩⟩
  rintro l14 ⟨g5, g6⟩
  refine an (fun l => l.length = a10 ∧ In a10 l) (aL ?_) ?_
  · unfold r6
    rw [ff hd, ff hv]
    obtain ⟨x, hx, l, rfl, q1, q2⟩ := TK (cmp := d) (c2 := v) g5 hN (by rw [hd]; exact g6)
    rw [hx]
    simp only [T.wp, Sum.elim_inl, Sum.elim_inr, decide_eq_true_eq, decide_eq_false_iff_not, ao, aO, aP, aq, aw, am, aB, ah, List.length_set, List.length_replicate, beq_iff_eq, beq_eq_false_iff_ne, bne_iff_ne, bne_eq_false_iff_eq, Bool.not_eq_true', Bool.not_eq_false', ne_eq, ak, Int.toNat_natCast]
    rw [hd] at q2
    exact ⟨by omega, by omega, rfl, q1, q2⟩
  rintro l15 ⟨g7, g8⟩
  refine an (fun p => p.1 = a10 ∧ p.2.1.length = a10 ∧ p.2.2.1 = a10 * a10 ∧ p.2.2.2.length = a10 * a10) (aL ?_) ?_
  · unfold r7
    rw [e0]
    simp only [T.wp, Sum.elim_inl, Sum.elim_inr, decide_eq_true_eq, decide_eq_false_iff_not, ao, aO, aP, aq, aw, am, aB, ah, List.length_set, List.length_replicate, beq_iff_eq, beq_eq_false_iff_ne, bne_iff_ne, bne_eq_false_iff_eq, Bool.not_eq_true', Bool.not_eq_false', ne_eq, ak, Int.toNat_natCast]
    generalize a10 * a10 = y at *
    ((repeat' (first | assumption | (refine And.intro ?_ ?_) | intro _)) <;> (try (first | omega | assumption | exact rfl | exact True.intro)))
  rintro ⟨d16, l17, a18, l19⟩ ⟨k1, k2, k3, k4⟩
  dsimp only at k1 k2 k3 k4
  subst k1 k3
  refine an (fun p => p.1.length = d16 ∧ p.2.1.length = d16 ∧ p.2.2.length = d16 * d16) (jk.loop (fun p => p.1 ≤ d16 ∧ p.2.1.length = d16 ∧ p.2.2.1.length = d16 ∧ p.2.2.2.length = d16 * d16) (fun p => d16 - p.1) ⟨Nat.zero_le _, k2, k2, k4⟩ ?_) ?_
  · rintro ⟨a, x, y, z⟩ ⟨ha, hx, hy, hz⟩
    dsimp only at ha hx hy hz
    unfold jx
    dsimp only
    refine an (fun _ => a < d16) (aL ?_) fun _ ha' => ?_
    · unfold r9
      simp only [T.wp, Sum.elim_inl, Sum.elim_inr, decide_eq_true_eq, decide_eq_false_iff_not, ao, aO, aP, aq, aw, am, aB, ah, List.length_set, List.length_replicate, beq_iff_eq, beq_eq_false_iff_ne, bne_iff_ne, bne_eq_false_iff_eq, Bool.not_eq_true', Bool.not_eq_false', ne_eq, ak, Int.toNat_natCast]
      exact ⟨fun h => by omega, fun h => ⟨hx, hy, hz⟩⟩
    refine an (fun p => p.1.length = d16 ∧ p.2.1.length = d16 ∧ p.2.2.length = d16 * d16) (jk.join (an (fun (p : Int × List Nat × List Nat) => (0 ≤ p.1 ∧ p.1 < d16) ∧ p.2.1.length = d16 ∧ p.2.2.length = d16) (aL ?_) ?_)) ?_
    · unfold sa
      simp only [T.wp, Sum.elim_inl, Sum.elim_inr, decide_eq_true_eq, decide_eq_false_iff_not, ao, aO, aP, aq, aw, am, aB, ah, List.length_set, List.length_replicate, beq_iff_eq, beq_eq_false_iff_ne, bne_iff_ne, bne_eq_false_iff_eq, Bool.not_eq_true', Bool.not_eq_false', ne_eq, ak, Int.toNat_natCast]
      have b := g8.at (i := a) (by omega)
      exact ⟨by omega, by omega, by omega, by omega, by omega, by omega, by omega, by omega, by omega, by omega, b, hx, hy⟩
    · rintro ⟨i, x', y'⟩ ⟨hi, hx', hy'⟩
      dsimp only at hi hx' hy'
      refine an (fun l => l.length = d16 * d16) (jk.loop (fun p => p.1 ≤ d16 ∧ p.2.length = d16 * d16) (fun p => d16 - p.1) ⟨Nat.zero_le _, hz⟩ ?_) fun l hl => aL ?_
      · rintro ⟨b, l⟩ ⟨hb, hl⟩
        dsimp only at hb hl
        unfold jw
        refine aL ?_
        unfold sc
        have e1 : (b : Int) * (d16 : Int) = ((b * d16 : Nat) : Int) := by rw [Int.natCast_mul]
        rw [e1]
        simp only [T.wp, Sum.elim_inl, Sum.elim_inr, decide_eq_true_eq, decide_eq_false_iff_not, ao, aO, aP, aq, aw, am, aB, ah, List.length_set, List.length_replicate, beq_iff_eq, beq_eq_false_iff_ne, bne_iff_ne, bne_eq_false_iff_eq, Bool.not_eq_true', Bool.not_eq_false', ne_eq, ak, Int.toNat_natCast]
        refine ⟨fun h => ?_, fun h => hl⟩
        have q1 : (b + 1) * d16 ≤ d16 * d16 := Nat.mul_le_mul_right d16 (by omega)
        rw [Nat.add_mul, Nat.one_mul] at q1
        generalize b * d16 = p1 at *
        rw [hv]
        generalize d16 * d16 = y at *
        omega
      · unfold sd
        exact ⟨hx', hy', hl⟩
    · rintro ⟨x', y', z'⟩ h
      refine aL ?_
      unfold se
      simp only [T.wp, Sum.elim_inl, Sum.elim_inr, decide_eq_true_eq, decide_eq_false_iff_not, ao, aO, aP, aq, aw, am, aB, ah, List.length_set, List.length_replicate, beq_iff_eq, beq_eq_false_iff_ne, bne_iff_ne, bne_eq_false_iff_eq, Bool.not_eq_true', Bool.not_eq_false', ne_eq, ak, Int.toNat_natCast]
      exact ⟨by omega, ⟨by omega, h⟩, by omega⟩
  rintro ⟨l42, l43, l44⟩ ⟨m1, m2, m3⟩
  dsimp only at m1 m2 m3
  refine an (fun _ => True) (aL ?_) fun lg _ => an (fun _ => True) (aL ?_) fun _ _ => ?_
  · unfold sf
    rw [ff m2]
    obtain ⟨k, hk⟩ := Rl l43 (by omega)
    rw [hk]
    simp only [T.wp, Sum.elim_inl, Sum.elim_inr, decide_eq_true_eq, decide_eq_false_iff_not, ao, aO, aP, aq, aw, am, aB, ah, List.length_set, List.length_replicate, beq_iff_eq, beq_eq_false_iff_ne, bne_iff_ne, bne_eq_false_iff_eq, Bool.not_eq_true', Bool.not_eq_false', ne_eq, ak, Int.toNat_natCast]
    exact ⟨by omega, rfl, trivial⟩
  · unfold sh; trivial
  refine an (fun l => l.length = d16) (jk.loop (fun p => p.1 ≤ d16 ∧ p.2.length = d16) (fun p => d16 - p.1) ⟨Nat.zero_le _, m2⟩ ?_) fun l48 hl => aL ?_
  · rintro ⟨a, l⟩ ⟨ha, hl⟩
    dsimp only at ha hl
    unfold jz
    refine aL ?_
    unfold sj
    simp only [T.wp, Sum.elim_inl, Sum.elim_inr, decide_eq_true_eq, decide_eq_false_iff_not, ao, aO, aP, aq, aw, am, aB, ah, List.length_set, List.length_replicate, beq_iff_eq, beq_eq_false_iff_ne, bne_iff_ne, bne_eq_false_iff_eq, Bool.not_eq_true', Bool.not_eq_false', ne_eq, ak, Int.toNat_natCast]
    exact ⟨fun h => by omega, fun h => hl⟩
  · unfold sk
    exact ⟨_, _, _, _, rfl, m1, hl, m3⟩
theorem Sj{N x9 n10 c11 n12 c13:Nat}{d z v:List Nat}{l g:List Int}{j i:Int}{tol:Nat}(hd:d.length=N)(hz:z.length=N)(hv:v.length=N*N)(hN:N≤12)(hj:0≤j∧j<N)(hi:0≤i∧i<N) :
    jk (aS (N:Int) N N N N (N:Int) (N:Int) (N*N) (N*N) x9 n10 c11 n12 c13 d z v l g j i tol) fun x=>∃ b d' z' v',x=.r0 b (N:Int) N N N N (N:Int) (N:Int) (N*N) (N*N) x9 n10 c11 n12 c13 d' z' v' l g∧d'.length=N∧z'.length=N∧v'.length=N*N:=by
  have hNN:N*N≤144:=Nat.mul_le_mul hN hN
  refine ql (an (fun _=>True) (aL ?_) fun h1 _=>?_)
  · unfold tc
    simp only [T.wp,Sum.elim_inl,Sum.elim_inr,decide_eq_true_eq,decide_eq_false_iff_not,ao,aO,aP,aq,aw,am,aB,ah,List.length_set,List.length_replicate,beq_iff_eq,beq_eq_false_iff_ne,bne_iff_ne,bne_eq_false_iff_eq,Bool.not_eq_true',Bool.not_eq_false',ne_eq,ak,Int.toNat_natCast]
    ((repeat' (first | assumption | (refine And.intro ?_ ?_) | intro _))<;>(try (first | omega | assumption | exact rfl | exact True.intro)))
  refine an (fun (p:Nat×Nat×List Nat)=>p.2.2.length=N) (aL ?_) ?_
  · unfold td
    simp only [T.wp,Sum.elim_inl,Sum.elim_inr,decide_eq_true_eq,decide_eq_false_iff_not,ao,aO,aP,aq,aw,am,aB,ah,List.length_set,List.length_replicate,beq_iff_eq,beq_eq_false_iff_ne,bne_iff_ne,bne_eq_false_iff_eq,Bool.not_eq_true',Bool.not_eq_false',ne_eq,ak,Int.toNat_natCast]
    refine ⟨by omega,by omega,by omega,by omega,by omega,by omega,by omega,by omega,fun _=>⟨_,_,_,_,rfl,hd,hz,hv⟩,fun _=>by omega⟩
  rintro ⟨c,s,l4⟩ h4
  dsimp only at h4
  refine an (fun (l:List Nat)=>l.length=N*N) (jk.loop (fun (p:Nat×List Nat)=>p.1≤N∧p.2.length=N*N) (fun p=>N-p.1) ⟨Nat.zero_le _,hv⟩ ?_) fun l9 h9=>aL ?_
  · rintro ⟨a,y⟩ ⟨ha,hy⟩
    dsimp only at ha hy
    unfold jL
    dsimp only
    refine an (fun (l:List Nat)=>a<N∧l.length=N*N) (aL ?_) fun y' hy'=>aL ?_
    · unfold te
      have e1:(a:Int)*(N:Int)=((a*N:Nat):Int):=by rw [Int.natCast_mul]
      rw [e1]
      simp only [T.wp,Sum.elim_inl,Sum.elim_inr,decide_eq_true_eq,decide_eq_false_iff_not,ao,aO,aP,aq,aw,am,aB,ah,List.length_set,List.length_replicate,beq_iff_eq,beq_eq_false_iff_ne,bne_iff_ne,bne_eq_false_iff_eq,Bool.not_eq_true',Bool.not_eq_false',ne_eq,ak,Int.toNat_natCast]
      refine ⟨fun h=>?_,fun h=>hy⟩
      have q1:(a+1)*N≤N*N:=Nat.mul_le_mul_right N (by omega)
      rw [Nat.add_mul,Nat.one_mul] at q1
      generalize a*N=p1 at *
      generalize N*N=w at *
      omega
    · unfold tf
      simp only [T.wp,Sum.elim_inl,Sum.elim_inr,decide_eq_true_eq,decide_eq_false_iff_not,ao,aO,aP,aq,aw,am,aB,ah,List.length_set,List.length_replicate,beq_iff_eq,beq_eq_false_iff_ne,bne_iff_ne,bne_eq_false_iff_eq,Bool.not_eq_true',Bool.not_eq_false',ne_eq,ak,Int.toNat_natCast]
      exact ⟨by omega,⟨by omega,hy'.2⟩,by omega⟩
  · unfold tg
    simp only [T.wp,Sum.elim_inl,Sum.elim_inr,decide_eq_true_eq,decide_eq_false_iff_not,ao,aO,aP,aq,aw,am,aB,ah,List.length_set,List.length_replicate,beq_iff_eq,beq_eq_false_iff_ne,bne_iff_ne,bne_eq_false_iff_eq,Bool.not_eq_true',Bool.not_eq_false',ne_eq,ak,Int.toNat_natCast]
    exact ⟨by omega,by omega,by omega,by omega,by omega,by omega,by omega,by omega,_,_,_,_,rfl,by rw [List.length_set,List.length_set,hd],h4,h9⟩
theorem UY(x y:Int) :∃ k,xd x y=some (.r0 k):=by
  unfold xd KK KL
  cases h1:x != x<;>cases h2:y != y<;>simp only [T.run,toX,bd,Bool.not_true,Bool.not_false]<;>exact ⟨_,rfl⟩
theorem TL{l0:List Int}{K N:Nat}(hl:l0.length=N)(hN:N≤1000)(hI:In K l0) :
    jk (fW l0 0 N 0 (N:Int)) fun x=>∃ l,x=.r0 l∧l.length=N∧In K l:=by
  refine uU (an (fun i=>i=1) (aL ?_) ?_)
  · unfold pU
    simp only [T.wp,Sum.elim_inl,Sum.elim_inr,decide_eq_true_eq,decide_eq_false_iff_not,ao,aO,aP,aq,aw,am,aB,ah,List.length_set,List.length_replicate,beq_iff_eq,beq_eq_false_iff_ne,bne_iff_ne,bne_eq_false_iff_eq,Bool.not_eq_true',Bool.not_eq_false',ne_eq,ak,Int.toNat_natCast]
    exact ⟨by omega,by omega⟩
  rintro i rfl
  refine an (fun l=>l.length=N∧In K l) (jk.loop (fun (p:Int×List Int)=>1≤p.1∧p.2.length=N∧In K p.2) (fun p=>((N:Int)-p.1).toNat) ⟨by dsimp only;omega,hl,hI⟩ ?_) fun l hl=>aL ?_
  · rintro ⟨i,l⟩ ⟨h1,h2,h3⟩
    dsimp only at h1 h2 h3
    unfold ic
    dsimp only
    refine an (fun _=>i<N) (aL ?_) fun _ hi=>?_
    · unfold pW
      simp only [T.wp,Sum.elim_inl,Sum.elim_inr,decide_eq_true_eq,decide_eq_false_iff_not,ao,aO,aP,aq,aw,am,aB,ah,List.length_set,List.length_replicate,beq_iff_eq,beq_eq_false_iff_ne,bne_iff_ne,bne_eq_false_iff_eq,Bool.not_eq_true',Bool.not_eq_false',ne_eq,ak,Int.toNat_natCast]
      exact ⟨fun h=>h,fun h=>⟨h2,h3⟩⟩
    refine an (fun l=>l.length=N∧In K l) (jk.join (an (fun _=>True) (aL ?_) fun _ _=>an (fun l=>l.length=N∧In K l) (jk.loop (fun (p:Int×List Int)=>0≤p.1∧p.1≤i∧p.2.length=N∧In K p.2) (fun p=>p.1.toNat) ⟨by dsimp only;omega,by dsimp only;omega,h2,h3⟩ ?_) fun l' hl'=>aL ?_)) fun l' hl'=>aL ?_
    · unfold pX;trivial
    · rintro ⟨j,y⟩ ⟨g1,g2,g3,g4⟩
      dsimp only at g1 g2 g3 g4
      unfold ib
      dsimp only
      refine an (fun b=>b=true→0<j) (aL ?_) fun b hb=>aL ?_
      · unfold pZ
        simp only [T.wp,Sum.elim_inl,Sum.elim_inr,decide_eq_true_eq,decide_eq_false_iff_not,ao,aO,aP,aq,aw,am,aB,ah,List.length_set,List.length_replicate,beq_iff_eq,beq_eq_false_iff_ne,bne_iff_ne,bne_eq_false_iff_eq,Bool.not_eq_true',Bool.not_eq_false',ne_eq,ak,Int.toNat_natCast]
        refine ⟨fun h=>?_,fun h q=>by cases q⟩
        obtain ⟨k,hk⟩:=UY (y.getD (0+j.toNat) 0) (y.getD (0+(j-1).toNat) 0)
        rw [hk]
        exact ⟨by omega,by omega,by omega,by omega,by omega,rfl,fun _=>by omega⟩
      · unfold qa
        simp only [T.wp,Sum.elim_inl,Sum.elim_inr,decide_eq_true_eq,decide_eq_false_iff_not,ao,aO,aP,aq,aw,am,aB,ah,List.length_set,List.length_replicate,beq_iff_eq,beq_eq_false_iff_ne,bne_iff_ne,bne_eq_false_iff_eq,Bool.not_eq_true',Bool.not_eq_false',ne_eq,ak,Int.toNat_natCast]
        refine ⟨fun h=>?_,fun h=>⟨g3,g4⟩⟩
        have hj:=hb h
        have a1:=g4.at (i:=cw 0 j.toNat) (by rw [aB];omega)
        have a2:=g4.at (i:=cw 0 (j-1).toNat) (by rw [aB];omega)
        simp only [aB] at a1 a2
        exact ⟨by omega,by omega,by omega,by omega,by omega,by omega,by omega,by omega,by omega,by omega,by omega,⟨by omega,by omega,by omega,(g4.set a2).set a1⟩,by omega⟩
    · unfold qb
      exact hl'
    · unfold qc
      simp only [T.wp,Sum.elim_inl,Sum.elim_inr,decide_eq_true_eq,decide_eq_false_iff_not,ao,aO,aP,aq,aw,am,aB,ah,List.length_set,List.length_replicate,beq_iff_eq,beq_eq_false_iff_ne,bne_iff_ne,bne_eq_false_iff_eq,Bool.not_eq_true',Bool.not_eq_false',ne_eq,ak,Int.toNat_natCast]
      exact ⟨by omega,⟨by omega,hl'⟩,by omega⟩
  · unfold qd
    exact ⟨_,rfl,hl⟩
set_option maxRecDepth 100000 in
theorem UZ {n : Nat} (h : n ≤ 12) : ∃ k, pB (IntKind.u64.wrap (n : Int)) = some (.r0 k) := by
  have : n = 0 ∨ n = 1 ∨ n = 2 ∨ n = 3 ∨ n = 4 ∨ n = 5 ∨ n = 6 ∨ n = 7 ∨ n = 8 ∨ n = 9 ∨ n = 10 ∨ n = 11 ∨ n = 12 := by omega
  rcases this with rfl | rfl | rfl | rfl | rfl | rfl | rfl | rfl | rfl | rfl | rfl | rfl | rfl <;> exact ⟨_, rfl⟩
theorem Sk{l0:List Int}{K N:Nat}(hl:l0.length=N)(hN:N≤12)(hI:In K l0) :
    jk (ur l0 0 N) fun x=>∃ l,x=.r0 l∧l.length=N∧In K l:=by
  obtain ⟨x,hx,l,rfl,h1,h2⟩:=TL hl (by omega) hI
  obtain ⟨k,hk⟩:=UZ hN
  have h:ji l0 0 N 0 (N:Int) k=some (.r0 l):=by
    refine kh (df (a:=true) rfl (wu (fun _=>()) 0 rfl (fun j hj=>absurd hj (by omega)) ?_))
    unfold jM
    refine OM (qZ ?_)
    unfold uq
    refine mO (by simp only [ao,aO,aP,aq,aw,am,cO,cP,decide_eq_true_eq,decide_eq_false_iff_not,beq_iff_eq,beq_eq_false_iff_ne,bne_iff_ne,bne_eq_false_iff_eq,Bool.not_eq_true',Bool.not_eq_false',List.length_set,ne_eq,ge_iff_le,gt_iff_lt,bK,ah,eX];omega) (T.at (by simp only [ao,aO,aP,aq,aw,am,cO,cP,decide_eq_true_eq,decide_eq_false_iff_not,beq_iff_eq,beq_eq_false_iff_ne,bne_iff_ne,bne_eq_false_iff_eq,Bool.not_eq_true',Bool.not_eq_false',List.length_set,ne_eq,ge_iff_le,gt_iff_lt,bK,ah,eX];omega) ?_)
    rw [hx]
    rfl
  refine uU (aL ?_)
  unfold Fv
  rw [hk]
  simp only [qq,nY]
  rw [h]
  exact ⟨rfl,rfl,l,rfl,h1,h2⟩
structure MS (N:Nat) (i71:Int) (a72 a73 a74 a75:Nat) (i76 i77:Int) (a78 a79 a81 a82 a83 a84:Nat) (l85 l86 l87:List Nat) (l88 l89:List Int):Prop where
  e1:(N:Int)=i71
  e2:N=a72
  e3:N=a73
  e4:N=a74
  e5:N=a75
  e6:(N:Int)=i76
  e7:(N:Int)=i77
  e8:N*N=a78
  e9:N*N=a79
  e10:a81=a82
  e11:a83=a84
  d:l85.length=N
  z:l86.length=N
  v:l87.length=N*N
  l:l88.length=a81
  g:l89.length=a83
  il:In N l88
  ig:In N l89
abbrev Xm:=Nat×Int×Nat×Nat×Nat×Nat×Int×Int×Nat×Nat×Nat×Nat×Nat×Nat×Nat×List Nat×List Nat×List Nat×List Int×List Int
abbrev Xg:=Int×Nat×Nat×Nat×Nat×Int×Int×Nat×Nat×Nat×Nat×Nat×Nat×Nat×List Nat×List Nat×List Nat×List Int×List Int
def W4(N a:Nat)(p:Xg) :Prop:=MS N p.1 p.2.1 p.2.2.1 p.2.2.2.1 p.2.2.2.2.1 p.2.2.2.2.2.1 p.2.2.2.2.2.2.1 p.2.2.2.2.2.2.2.1 p.2.2.2.2.2.2.2.2.1 p.2.2.2.2.2.2.2.2.2.2.1 p.2.2.2.2.2.2.2.2.2.2.2.1 p.2.2.2.2.2.2.2.2.2.2.2.2.1 p.2.2.2.2.2.2.2.2.2.2.2.2.2.1 p.2.2.2.2.2.2.2.2.2.2.2.2.2.2.1 p.2.2.2.2.2.2.2.2.2.2.2.2.2.2.2.1 p.2.2.2.2.2.2.2.2.2.2.2.2.2.2.2.2.1 p.2.2.2.2.2.2.2.2.2.2.2.2.2.2.2.2.2.1 p.2.2.2.2.2.2.2.2.2.2.2.2.2.2.2.2.2.2∧p.2.2.2.2.2.2.2.2.2.2.1+p.2.2.2.2.2.2.2.2.2.2.2.2.1=a
theorem Rn{l:List Int}{n:Nat}(h:l.length=n)(x:Int) :(l.take n++[x]).length=n+1:=by
  rw [List.length_append,List.length_take,h,Nat.min_self];rfl
set_option maxHeartbeats 2000000 in
theorem TM {N x9 : Nat} {d z v : List Nat} (hd : d.length = N) (hz : z.length = N) (hv : v.length = N * N) (hN : N ≤ 12) :
    jk (aV (N : Int) N N N N (N : Int) (N : Int) (N * N) (N * N) x9 d z v) fun x => ∃ a80 a81 a82 a83 a84 l85 l86 l87 l88 l89, x = .r0 (N : Int) N N N N (N : Int) (N : Int) (N * N) (N * N) a80 a81 a82 a83 a84 l85 l86 l87 l88 l89 ∧ MS N (N : Int) N N N N (N : Int) (N : Int) (N * N) (N * N) a81 a82 a83 a84 l85 l86 l87 l88 l89 ∧ a81 + a83 = N := by
  have hNN : N * N ≤ 144 := Nat.mul_le_mul hN hN
  refine uU (an (fun p => p.1 = 1 + N ∧ p.2.1 = 1 + N ∧ p.2.2.length = 1 + N) (aL ?_) ?_)
  · unfold uv
    simp only [T.wp, Sum.elim_inl, Sum.elim_inr, decide_eq_true_eq, decide_eq_false_iff_not, ao, aO, aP, aq, aw, am, aB, ah, List.length_set, List.length_replicate, beq_iff_eq, beq_eq_false_iff_ne, bne_iff_ne, bne_eq_false_iff_eq, Bool.not_eq_true', Bool.not_eq_false', ne_eq, ak, Int.toNat_natCast]
    simp only [List.length_append, List.length_take, List.length_cons, List.length_nil]
    ((repeat' (first | assumption | (refine And.intro ?_ ?_) | intro _)) <;> (try (first | omega | assumption | exact rfl | exact True.intro)))
  rintro ⟨a1, a2, l3⟩ ⟨h1, h2, h3⟩
  dsimp only at h1 h2 h3
  refine an (fun _ => True) (jk.loop (fun (p : Nat × Nat) => p.2 ≤ 1 + N) (fun p => 1 + N - p.2) (by dsimp only; omega) ?_) fun b _ => an (fun _ => True) (aL ?_) fun tol _ => ?_
  · rintro ⟨b, a⟩ ha
    dsimp only at ha
    unfold kB
    dsimp only
    refine an (fun _ => a < 1 + N) (aL ?_) fun y hy => aL ?_
    · unfold uw
      simp only [T.wp, Sum.elim_inl, Sum.elim_inr, decide_eq_true_eq, decide_eq_false_iff_not, ao, aO, aP, aq, aw, am, aB, ah, List.length_set, List.length_replicate, beq_iff_eq, beq_eq_false_iff_ne, bne_iff_ne, bne_eq_false_iff_eq, Bool.not_eq_true', Bool.not_eq_false', ne_eq, ak, Int.toNat_natCast]
      ((repeat' (first | assumption | (refine And.intro ?_ ?_) | intro _)) <;> (try (first | omega | assumption | exact rfl | exact True.intro)))
    · unfold ux
      simp only [T.wp, Sum.elim_inl, Sum.elim_inr, decide_eq_true_eq, decide_eq_false_iff_not, ao, aO, aP, aq, aw, am, aB, ah, List.length_set, List.length_replicate, beq_iff_eq, beq_eq_false_iff_ne, bne_iff_ne, bne_eq_false_iff_eq, Bool.not_eq_true', Bool.not_eq_false', ne_eq, ak, Int.toNat_natCast]
      ((repeat' (first | assumption | (refine And.intro ?_ ?_) | intro _)) <;> (try (first | omega | assumption | exact rfl | exact True.intro)))
  · unfold uy; trivial
  refine an (W4 N N) (jk.loop (fun (p : Xm) => p.1 ≤ N ∧ W4 N p.1 p.2) (fun p => N - p.1) ⟨Nat.zero_le _, ⟨rfl, rfl, rfl, rfl, rfl, rfl, rfl, rfl, rfl, rfl, rfl, hd, hz, hv, rfl, rfl, In.nil, In.nil⟩, rfl⟩ ?_) ?_
  · rintro ⟨a, i71, a72, a73, a74, a75, i76, i77, a78, a79, a80, a81, a82, a83, a84, l85, l86, l87, l88, l89⟩ ⟨ha, ⟨e1, e2, e3, e4, e5, e6, e7, e8, e9, e10, e11, hd, hz, hv, hl, hg, il, ig⟩, hs⟩
    dsimp only at ha e1 e2 e3 e4 e5 e6 e7 e8 e9 e10 e11 hd hz hv hl hg il ig hs
    subst e1 e2 e3 e4 e5 e6 e7 e8 e9 e10 e11
    unfold kD
    dsimp only
    refine an (fun _ => a < N) (aL ?_) fun _ ha' => ?_
    · unfold uA
      simp only [T.wp, Sum.elim_inl, Sum.elim_inr, decide_eq_true_eq, decide_eq_false_iff_not, ao, aO, aP, aq, aw, am, aB, ah, List.length_set, List.length_replicate, beq_iff_eq, beq_eq_false_iff_ne, bne_iff_ne, bne_eq_false_iff_eq, Bool.not_eq_true', Bool.not_eq_false', ne_eq, ak, Int.toNat_natCast]
      refine ⟨fun h => by omega, fun h => ⟨⟨rfl, rfl, rfl, rfl, rfl, rfl, rfl, rfl, rfl, rfl, rfl, hd, hz, hv, hl, hg, il, ig⟩, ?_⟩⟩
      dsimp only
      omega
    refine an (W4 N (a + 1)) (jk.join (an (fun (p : Bool × Xg) => W4 N a p.2 ∧ p.2.2.2.2.2.2.2.2.2.2.2.1 = a81 ∧ (p.1 = true → 0 < a81)) (aL ?_) ?_)) ?_
    · unfold uC
      simp only [T.wp, Sum.elim_inl, Sum.elim_inr, decide_eq_true_eq, decide_eq_false_iff_not, ao, aO, aP, aq, aw, am, aB, ah, List.length_set, List.length_replicate, beq_iff_eq, beq_eq_false_iff_ne, bne_iff_ne, bne_eq_false_iff_eq, Bool.not_eq_true', Bool.not_eq_false', ne_eq, ak, Int.toNat_natCast]
      refine ⟨by omega, by omega, fun _ => ⟨by omega, by omega, by simp only [List.length_cons, List.length_nil]; omega, by omega, ⟨rfl, rfl, rfl, rfl, rfl, rfl, rfl, rfl, rfl, rfl, rfl, hd, hz, hv, hl, Rn hg _, il, ig.push ⟨by omega, by omega⟩⟩, by dsimp only; omega⟩, fun _ => ⟨fun hp => ?_, fun hp => ⟨⟨⟨rfl, rfl, rfl, rfl, rfl, rfl, rfl, rfl, rfl, rfl, rfl, hd, hz, hv, hl, hg, il, ig⟩, hs⟩, trivial, fun q => by cases q⟩⟩⟩
      have b := il.at (i := ((a81 : Int) - 1).toNat) (by omega)
      obtain ⟨x, hx, bb, d', z', v', rfl, k1, k2, k3⟩ := Sj (x9 := a80) (n10 := a81) (c11 := a81) (n12 := a83) (c13 := a83) (l := l88) (g := l89) (j := l88.getD ((a81 : Int) - 1).toNat 0) (i := (a : Int)) (tol := tol) hd hz hv hN b ⟨by omega, by omega⟩
      rw [hx]
      exact ⟨by omega, by omega, by omega, rfl, ⟨⟨rfl, rfl, rfl, rfl, rfl, rfl, rfl, rfl, rfl, rfl, rfl, k1, k2, k3, hl, hg, il, ig⟩, hs⟩, rfl, fun _ => by omega⟩
    · rintro ⟨b, j71, b72, b73, b74, b75, j76, j77, b78, b79, b80, b81, b82, b83, b84, m85, m86, m87, m88, m89⟩ ⟨⟨⟨e1, e2, e3, e4, e5, e6, e7, e8, e9, e10, e11, kd, kz, kv, kl, kg, jl, jg⟩, ks⟩, hc, hb⟩
      dsimp only at e1 e2 e3 e4 e5 e6 e7 e8 e9 e10 e11 kd kz kv kl kg jl jg ks hc hb
      subst e1 e2 e3 e4 e5 e6 e7 e8 e9 e10 e11
      subst hc
      refine an (fun (p : Nat × Nat × Nat × List Int) => p.1 ≤ b81 ∧ p.2.1 = p.2.2.1 ∧ p.2.2.2.length = p.2.1 ∧ p.1 + p.2.1 = a ∧ In N p.2.2.2) (aL ?_) ?_
      · unfold uD
        simp only [T.wp, Sum.elim_inl, Sum.elim_inr, decide_eq_true_eq, decide_eq_false_iff_not, ao, aO, aP, aq, aw, am, aB, ah, List.length_set, List.length_replicate, beq_iff_eq, beq_eq_false_iff_ne, bne_iff_ne, bne_eq_false_iff_eq, Bool.not_eq_true', Bool.not_eq_false', ne_eq, ak, Int.toNat_natCast]
        refine ⟨fun h => ?_, fun h => ⟨by omega, trivial, kg, ks, jg⟩⟩
        have hp := hb h
        have b := jl.at (i := ((b81 : Int) - 1).toNat) (by omega)
        exact ⟨by omega, by omega, by omega, by omega, by omega, by simp only [List.length_cons, List.length_nil]; omega, by omega, by omega, by omega, by omega, by omega, trivial, Rn kg _, by omega, jg.push b⟩
      · rintro ⟨c110, c111, c112, m113⟩ ⟨q1, q2, q3, q4, q5⟩
        dsimp only at q1 q2 q3 q4 q5
        refine aL ?_
        unfold uE
        simp only [T.wp, Sum.elim_inl, Sum.elim_inr, decide_eq_true_eq, decide_eq_false_iff_not, ao, aO, aP, aq, aw, am, aB, ah, List.length_set, List.length_replicate, beq_iff_eq, beq_eq_false_iff_ne, bne_iff_ne, bne_eq_false_iff_eq, Bool.not_eq_true', Bool.not_eq_false', ne_eq, ak, Int.toNat_natCast]
        refine ⟨by omega, by omega, by simp only [List.length_cons, List.length_nil]; omega, by omega, ⟨rfl, rfl, rfl, rfl, rfl, rfl, rfl, rfl, rfl, rfl, q2, kd, kz, kv, ?_, q3, jl.push ⟨by omega, by omega⟩, q5⟩, by dsimp only; omega⟩
        rw [List.length_append, List.length_take, kl, Nat.min_eq_left q1]; rfl
    · rintro ⟨j71, b72, b73, b74, b75, j76, j77, b78, b79, b80, b81, b82, b83, b84, m85, m86, m87, m88, m89⟩ h
      refine aL ?_
      unfold uF
      simp only [T.wp, Sum.elim_inl, Sum.elim_inr, decide_eq_true_eq, decide_eq_false_iff_not, ao, aO, aP, aq, aw, am, aB, ah, List.length_set, List.length_replicate, beq_iff_eq, beq_eq_false_iff_ne, bne_iff_ne, bne_eq_false_iff_eq, Bool.not_eq_true', Bool.not_eq_false', ne_eq, ak, Int.toNat_natCast]
      exact ⟨by omega, ⟨by omega, h⟩, by omega⟩
  · rintro ⟨i71, a72, a73, a74, a75, i76, i77, a78, a79, a80, a81, a82, a83, a84, l85, l86, l87, l88, l89⟩ ⟨⟨e1, e2, e3, e4, e5, e6, e7, e8, e9, e10, e11, hd, hz, hv, hl, hg, il, ig⟩, hs⟩
    dsimp only at e1 e2 e3 e4 e5 e6 e7 e8 e9 e10 e11 hd hz hv hl hg il ig hs
    subst e1 e2 e3 e4 e5 e6 e7 e8 e9 e10 e11
    refine aL ?_
    unfold uG
    obtain ⟨x, hx, l, rfl, k1, k2⟩ := Sk hg (by omega) ig
    rw [hx]
    exact ⟨rfl, _, _, _, _, _, _, _, _, _, _, rfl, ⟨rfl, rfl, rfl, rfl, rfl, rfl, rfl, rfl, rfl, rfl, rfl, hd, hz, hv, hl, k1, il, k2⟩, hs⟩
theorem Ro(l:List Nat)(hn:l.length≤1000000) :jk (bO l) fun x=>∃ k:Int,x=.r0 k∧(k≥0∨(k<0∧GD l)):=by
  refine ql (an (fun _=>True) (aL ?_) fun _ _=>?_)
  · unfold ki
    trivial
  refine an (fun _=>GD l) (jk.loop (fun a=>a≤l.length∧∀ i,i<a→gd (l.getD i 0)=true) (fun a=>l.length-a) ⟨by omega,fun i hi=>by omega⟩ ?_) fun _ hg=>aL ?_
  · rintro a ⟨ha,hg⟩
    unfold fc
    refine aL ?_
    unfold km
    simp only [T.wp,Sum.elim_inl,Sum.elim_inr,decide_eq_true_eq,decide_eq_false_iff_not,ao,aO,aP,aq,aw,am,aB,ah,List.length_set,List.length_replicate,beq_iff_eq,beq_eq_false_iff_ne,bne_iff_ne,bne_eq_false_iff_eq,Bool.not_eq_true',Bool.not_eq_false',ne_eq,ak,Int.toNat_natCast]
    refine ⟨fun h=>⟨by omega,by omega,fun h1=>⟨_,rfl,.inl (by omega)⟩,fun h1=>⟨fun _=>⟨fun h2=>⟨_,rfl,.inl (by omega)⟩,fun h2=>⟨by omega,⟨by omega,fun i hi=>?_⟩,by omega⟩⟩,fun q=>absurd trivial (by simp at q)⟩⟩,fun h i hi=>hg i (by omega)⟩
    by_cases q:i<a
    · exact hg i q
    · have:i=a:=by omega
      subst this
      unfold gd
      rw [h1,h2];rfl
  · unfold jY
    exact ⟨_,rfl,.inr ⟨by omega,hg⟩⟩
theorem Rp(D Z:List Nat)(rho k:Nat)(hD:D.length=k)(hZ:Z.length=k)(hk:k≤512) :∃ e,mS D Z rho=some (.r0 e)∧(e=0→GD Z):=by
  have:jk (mS D Z rho) fun x=>∃ e,x=.r0 e∧(e=0→GD Z):=by
    refine ql (an (fun _=>True) (aL ?_) fun b _=>an (fun _=>True) (aL ?_) fun w _=>an (fun _=>True) (jk.loop (fun (p:Bool×Nat)=>p.2≤k) (fun p=>k-p.2) (Nat.zero_le _) ?_) fun w _=>an (fun _=>GD Z) (aL ?_) fun _ hg=>aL ?_)
    · unfold D4
      simp only [T.wp,Sum.elim_inl,Sum.elim_inr,decide_eq_true_eq,decide_eq_false_iff_not,ao,aO,aP,aq,aw,am,aB,ah,List.length_set,List.length_replicate,beq_iff_eq,beq_eq_false_iff_ne,bne_iff_ne,bne_eq_false_iff_eq,Bool.not_eq_true',Bool.not_eq_false',ne_eq,ak,Int.toNat_natCast]
      ((repeat' (first | with_reducible assumption | (refine And.intro ?_ ?_) | intro _))<;>(try (first | omega | with_reducible assumption | exact rfl | exact True.intro)))
    · unfold D5
      simp only [T.wp,Sum.elim_inl,Sum.elim_inr,decide_eq_true_eq,decide_eq_false_iff_not,ao,aO,aP,aq,aw,am,aB,ah,List.length_set,List.length_replicate,beq_iff_eq,beq_eq_false_iff_ne,bne_iff_ne,bne_eq_false_iff_eq,Bool.not_eq_true',Bool.not_eq_false',ne_eq,ak,Int.toNat_natCast]
      exact ⟨fun _=>⟨_,rfl,fun q=>(by cases q)⟩,fun _=>trivial⟩
    · rintro ⟨w,a⟩ ha
      dsimp only at ha
      unfold uY
      dsimp only
      refine an (fun _=>a<k) (aL ?_) fun y hy=>aL ?_
      · unfold D6
        simp only [T.wp,Sum.elim_inl,Sum.elim_inr,decide_eq_true_eq,decide_eq_false_iff_not,ao,aO,aP,aq,aw,am,aB,ah,List.length_set,List.length_replicate,beq_iff_eq,beq_eq_false_iff_ne,bne_iff_ne,bne_eq_false_iff_eq,Bool.not_eq_true',Bool.not_eq_false',ne_eq,ak,Int.toNat_natCast]
        ((repeat' (first | with_reducible assumption | (refine And.intro ?_ ?_) | intro _))<;>(try (first | omega | with_reducible assumption | exact rfl | exact True.intro)))
      · unfold D7
        simp only [T.wp,Sum.elim_inl,Sum.elim_inr,decide_eq_true_eq,decide_eq_false_iff_not,ao,aO,aP,aq,aw,am,aB,ah,List.length_set,List.length_replicate,beq_iff_eq,beq_eq_false_iff_ne,bne_iff_ne,bne_eq_false_iff_eq,Bool.not_eq_true',Bool.not_eq_false',ne_eq,ak,Int.toNat_natCast]
        ((repeat' (first | with_reducible assumption | (refine And.intro ?_ ?_) | intro _))<;>(try (first | omega | with_reducible assumption | exact rfl | exact True.intro)))
    · unfold D8
      obtain ⟨x,hx,k1,rfl,hk1⟩:=Ro D (by omega)
      obtain ⟨y,hy,k2,rfl,hk2⟩:=Ro Z (by omega)
      rw [ak,ak,hx,hy]
      simp only [T.wp,Sum.elim_inl,Sum.elim_inr,decide_eq_true_eq,decide_eq_false_iff_not,ao,aO,aP,aq,aw,am,aB,ah,List.length_set,List.length_replicate,beq_iff_eq,beq_eq_false_iff_ne,bne_iff_ne,bne_eq_false_iff_eq,Bool.not_eq_true',Bool.not_eq_false',ne_eq,ak,Int.toNat_natCast]
      exact ⟨fun _=>⟨_,rfl,fun q=>(by cases q)⟩,fun _=>⟨fun _=>⟨_,rfl,fun q=>(by cases q)⟩,fun _=>⟨fun _=>⟨fun _=>⟨_,rfl,fun q=>(by cases q)⟩,fun _=>⟨by omega,rfl,fun _=>⟨_,rfl,fun q=>(by cases q)⟩,fun _=>⟨by omega,rfl,fun _=>⟨_,rfl,fun q=>(by cases q)⟩,fun q=>hk2.resolve_left (fun z=>q z) |>.2⟩⟩⟩,fun q=>absurd trivial (by simp at q)⟩⟩⟩
    · unfold D9
      exact ⟨_,rfl,fun _=>hg⟩
  obtain ⟨x,hx,e,rfl,q⟩:=this
  exact ⟨e,hx,q⟩
theorem Ke(D Z:List Nat)(rho k:Nat){r:Int}{x:Nat}(hD:D.length=k)(hZ:Z.length=k)(hk:k≤512)(hr:0≤r∧r<k) :∃ y,iT D Z rho r x=some (.r0 y):=by
  have:jk (iT D Z rho r x) fun x=>∃ e,x=.r0 e:=by
    refine ql (an (fun _=>True) (aL ?_) fun b _=>an (fun _=>True) (jk.loop (fun (p:Nat×Nat)=>p.2≤k) (fun p=>k-p.2) (Nat.zero_le _) ?_) fun w _=>aL ?_)
    · unfold Ea;trivial
    · rintro ⟨w,a⟩ ha
      dsimp only at ha
      unfold sQ
      refine aL ?_
      unfold Ec
      simp only [T.wp,Sum.elim_inl,Sum.elim_inr,decide_eq_true_eq,decide_eq_false_iff_not,ao,aO,aP,aq,aw,am,aB,ah,List.length_set,List.length_replicate,beq_iff_eq,beq_eq_false_iff_ne,bne_iff_ne,bne_eq_false_iff_eq,Bool.not_eq_true',Bool.not_eq_false',ne_eq,ak,Int.toNat_natCast]
      ((repeat' (first | with_reducible assumption | (refine And.intro ?_ ?_) | intro _))<;>(try (first | omega | with_reducible assumption | exact rfl | exact True.intro)))
    · unfold CQ
      exact ⟨_,rfl⟩
  obtain ⟨x,hx,e,rfl⟩:=this
  exact ⟨e,hx⟩
theorem LN(x y:Nat) :cY x y<18446744073709551616:=by
  unfold cY
  cases h:FloatKind.f64.format.mul x y with
  | none=>decide
  | some r =>
    have a:=Ieee.Format.mul_lt _ h
    have e:FloatKind.f64.format.width=64:=by decide
    rw [e] at a
    exact a
theorem U0{L H:Nat}(h:L≤H)(hH:H<18446744073709551616) :
    IntKind.u64.wrap ((H:Int)-(L:Int))=((H-L:Nat):Int) ∧
    IntKind.u64.wrap ((L:Int)+Int.fdiv (IntKind.u64.wrap ((H:Int)-(L:Int))) (2^(min (Int.toNat (1:Int)) (IntKind.u64.bits))))=((L+(H-L)/2:Nat):Int):=by
  have a:IntKind.u64.wrap ((H:Int)-(L:Int))=((H-L:Nat):Int):=by
    rw [show (H:Int)-(L:Int)=((H-L:Nat):Int) by omega,vK,Nat.mod_eq_of_lt (by omega)]
  refine ⟨a,?_⟩
  rw [a]
  have h1:min (Int.toNat 1) IntKind.u64.bits=1:=by decide
  have h2:(2:Int)^1=2:=by decide
  rw [h1,h2,Int.fdiv_eq_ediv_of_nonneg _ (by decide:(0:Int)≤2)]
  rw [show (L:Int)+((H-L:Nat):Int)/2=((L+(H-L)/2:Nat):Int) by omega,vK,Nat.mod_eq_of_lt (by omega)]
def BI(p:Int×Int×Nat) :Prop:=∃ L H P:Nat,p.1=(L:Int)∧p.2.1=(H:Int)∧L≤H∧H<18446744073709551616∧P=2^p.2.2∧(H-L-1)*P≤18446744073709551616∧p.2.2≤65
theorem LO{L H n:Nat}(h:2≤H-L)(hp:(H-L-1)*2^n≤18446744073709551616){d:Nat}(hd:d≤(H-L+1)/2) :(d-1)*2^(n+1)≤18446744073709551616∧n+1≤65:=by
  refine ⟨?_,?_⟩
  · have q:2*(d-1)≤H-L-1:=by omega
    have:=Nat.mul_le_mul_right (2^n) q
    rw [Nat.pow_succ,Nat.mul_comm (2^n) 2,←Nat.mul_assoc,Nat.mul_comm (d-1) 2]
    omega
  · have q:1≤H-L-1:=by omega
    have:=Nat.mul_le_mul_right (2^n) q
    have q2:2^n≤2^64:=by
      have e:(2:Nat)^64=18446744073709551616:=by decide
      omega
    have:=(Nat.pow_le_pow_iff_right (by decide:1<2)).1 q2
    omega
set_option maxHeartbeats 2000000 in
theorem U1 (D Z : List Nat) (rho k : Nat) {at_ : Int} (hD : D.length = k) (hZ : Z.length = k) (hk : k ≤ 512) (hr : 0 ≤ at_ ∧ at_ < k) :
    jk (iU D Z rho at_) fun x => ∃ many e i y, x = .r0 many e i y ∧ many ≤ 65 ∧ (e = 0 → 0 ≤ i ∧ i < k) := by
  refine ql (an (fun b => b = decide (at_ = (k : Int) - 1)) (aL ?_) fun b hb => ?_)
  · unfold CR
    simp only [T.wp, Sum.elim_inl, Sum.elim_inr, decide_eq_true_eq, decide_eq_false_iff_not, ao, aO, aP, aq, aw, am, aB, ah, List.length_set, List.length_replicate, beq_iff_eq, beq_eq_false_iff_ne, bne_iff_ne, bne_eq_false_iff_eq, Bool.not_eq_true', Bool.not_eq_false', ne_eq, ak, Int.toNat_natCast]
    rw [hD]
    refine ⟨by omega, ?_⟩
    rfl
  refine an (fun (p : Nat ⊕ (Nat × Int)) => Sum.elim (fun (g : Nat) => g < 18446744073709551616) (fun (q : Nat × Int) => q.1 < 18446744073709551616 ∧ 0 ≤ q.2 ∧ q.2 < k) p) ?_ ?_
  · cases hbb : b
    · have hne : at_ ≠ (k : Int) - 1 := by
        rw [hbb] at hb
        exact of_decide_eq_false hb.symm
      simp only [cond_false]
      refine an (fun p => p.1 < 18446744073709551616) (aL ?_) ?_
      · unfold CV
        rw [ak, ak]
        obtain ⟨y, hy⟩ := Ke D Z rho k (x := cY (oN (D.getD (at_ + 1).toNat 0) (D.getD at_.toNat 0)) 4602678819172646912) hD hZ hk hr
        rw [hy]
        simp only [T.wp, Sum.elim_inl, Sum.elim_inr, decide_eq_true_eq, decide_eq_false_iff_not, ao, aO, aP, aq, aw, am, aB, ah, List.length_set, List.length_replicate, beq_iff_eq, beq_eq_false_iff_ne, bne_iff_ne, bne_eq_false_iff_eq, Bool.not_eq_true', Bool.not_eq_false', ne_eq, ak, Int.toNat_natCast]
        refine ⟨by omega, by omega, by omega, by omega, by omega, fun _ => LN _ _, fun _ => ⟨fun _ => ⟨fun _ => ⟨by omega, by omega, rfl, LN _ _⟩, fun _ => LN _ _⟩, fun q => absurd trivial (by simp at q)⟩⟩
      · rintro ⟨g, b6⟩ hg
        dsimp only at hg
        refine aL ?_
        unfold CW
        simp only [T.wp, Sum.elim_inl, Sum.elim_inr, decide_eq_true_eq, decide_eq_false_iff_not, ao, aO, aP, aq, aw, am, aB, ah, List.length_set, List.length_replicate, beq_iff_eq, beq_eq_false_iff_ne, bne_iff_ne, bne_eq_false_iff_eq, Bool.not_eq_true', Bool.not_eq_false', ne_eq, ak, Int.toNat_natCast]
        exact ⟨fun _ => ⟨by omega, hg, by omega, by omega⟩, fun _ => hg⟩
    · simp only [cond_true]
      refine an (fun _ => True) (aL ?_) fun _ _ => an (fun _ => True) (jk.loop (fun (p : Nat × Nat) => p.2 ≤ k) (fun p => k - p.2) (Nat.zero_le _) ?_) fun w _ => aL ?_
      · unfold CS; trivial
      · rintro ⟨w, a⟩ ha
        dsimp only at ha
        unfold sR
        refine aL ?_
        unfold CT
        simp only [T.wp, Sum.elim_inl, Sum.elim_inr, decide_eq_true_eq, decide_eq_false_iff_not, ao, aO, aP, aq, aw, am, aB, ah, List.length_set, List.length_replicate, beq_iff_eq, beq_eq_false_iff_ne, bne_iff_ne, bne_eq_false_iff_eq, Bool.not_eq_true', Bool.not_eq_false', ne_eq, ak, Int.toNat_natCast]
        ((repeat' (first | with_reducible assumption | (refine And.intro ?_ ?_) | intro _)) <;> (try (first | omega | with_reducible assumption | exact rfl | exact True.intro)))
      · unfold CU
        exact LN _ _
  rintro (g | ⟨g, i9⟩) hg
  · dsimp only [Sum.elim_inl] at hg ⊢
    refine an (fun b => b = false → isNaN g = false) (aL ?_) fun b10 hb => an (fun _ => True) (aL ?_) fun _ _ => ?_
    · unfold CX
      simp only [T.wp, Sum.elim_inl, Sum.elim_inr, decide_eq_true_eq, decide_eq_false_iff_not, ao, aO, aP, aq, aw, am, aB, ah, List.length_set, List.length_replicate, beq_iff_eq, beq_eq_false_iff_ne, bne_iff_ne, bne_eq_false_iff_eq, Bool.not_eq_true', Bool.not_eq_false', ne_eq, ak, Int.toNat_natCast]
      exact ⟨fun _ q => (by cases q), fun h => ⟨fun _ _ => (by rw [← ym]; exact h), fun q => absurd trivial (by simp at q)⟩⟩
    · unfold CY
      simp only [T.wp, Sum.elim_inl, Sum.elim_inr, decide_eq_true_eq, decide_eq_false_iff_not, ao, aO, aP, aq, aw, am, aB, ah, List.length_set, List.length_replicate, beq_iff_eq, beq_eq_false_iff_ne, bne_iff_ne, bne_eq_false_iff_eq, Bool.not_eq_true', Bool.not_eq_false', ne_eq, ak, Int.toNat_natCast]
      exact ⟨fun _ => ⟨_, _, _, _, rfl, by omega, fun q => (by cases q)⟩, fun h => .inl ⟨hb h, trivial⟩⟩
    refine an (fun (p : Int × Nat) => p.2 ≤ 65) (jk.loop BI (fun p => (p.2.1 - p.1).toNat) ⟨0, g, 1, rfl, rfl, by omega, hg, rfl, by omega, by dsimp only; omega⟩ ?_) ?_
    · rintro ⟨lo, hi, n⟩ ⟨L, H, P, h1, h2, h3, h4, h5, h6, h7⟩
      dsimp only at h1 h2 h5 h7
      subst h1 h2 h5
      unfold sT
      dsimp only
      obtain ⟨m1, m2⟩ := U0 h3 h4
      refine an (fun b => b = true → 2 ≤ H - L) (aL ?_) fun b hb => aL ?_
      · unfold C1
        rw [m1]
        simp only [T.wp, Sum.elim_inl, Sum.elim_inr, decide_eq_true_eq, decide_eq_false_iff_not, ao, aO, aP, aq, aw, am, aB, ah, List.length_set, List.length_replicate, beq_iff_eq, beq_eq_false_iff_ne, bne_iff_ne, bne_eq_false_iff_eq, Bool.not_eq_true', Bool.not_eq_false', ne_eq, ak, Int.toNat_natCast]
        exact ⟨fun _ h => by omega, fun _ q => by cases q⟩
      · unfold C2
        rw [m2, ak, ak]
        simp only [T.wp, Sum.elim_inl, Sum.elim_inr, decide_eq_true_eq, decide_eq_false_iff_not, ao, aO, aP, aq, aw, am, aB, ah, List.length_set, List.length_replicate, beq_iff_eq, beq_eq_false_iff_ne, bne_iff_ne, bne_eq_false_iff_eq, Bool.not_eq_true', Bool.not_eq_false', ne_eq, ak, Int.toNat_natCast]
        obtain ⟨y, hy⟩ := Ke D Z rho k (x := cY 4607182418800017408 (L + (H - L) / 2)) hD hZ hk hr
        rw [hy]
        refine ⟨fun hbt => ⟨by omega, by omega, by omega, rfl, fun _ => ?_, fun _ => ?_⟩, fun _ => h7⟩
        · have h2 := hb hbt
          obtain ⟨s1, s2⟩ := LO h2 h6 (d := (H - L) / 2) (by omega)
          refine ⟨by omega, ⟨L, L + (H - L) / 2, _, rfl, rfl, by omega, by omega, rfl, ?_, s2⟩, by omega⟩
          rw [show L + (H - L) / 2 - L - 1 = (H - L) / 2 - 1 by omega]
          exact s1
        · have h2 := hb hbt
          obtain ⟨s1, s2⟩ := LO h2 h6 (d := H - (L + (H - L) / 2)) (by omega)
          exact ⟨by omega, ⟨L + (H - L) / 2, H, _, rfl, rfl, by omega, by omega, rfl, s1, s2⟩, by omega⟩
    · rintro ⟨hi, n⟩ hn
      dsimp only at hn
      refine aL ?_
      unfold C3
      exact ⟨_, _, _, _, rfl, hn, fun _ => hr⟩
  · dsimp only [Sum.elim_inr] at hg ⊢
    obtain ⟨hg, hi9⟩ := hg
    refine an (fun b => b = false → isNaN g = false) (aL ?_) fun b10 hb => an (fun _ => True) (aL ?_) fun _ _ => ?_
    · unfold C4
      simp only [T.wp, Sum.elim_inl, Sum.elim_inr, decide_eq_true_eq, decide_eq_false_iff_not, ao, aO, aP, aq, aw, am, aB, ah, List.length_set, List.length_replicate, beq_iff_eq, beq_eq_false_iff_ne, bne_iff_ne, bne_eq_false_iff_eq, Bool.not_eq_true', Bool.not_eq_false', ne_eq, ak, Int.toNat_natCast]
      exact ⟨fun _ q => (by cases q), fun h => ⟨fun _ _ => (by rw [← ym]; exact h), fun q => absurd trivial (by simp at q)⟩⟩
    · unfold C5
      simp only [T.wp, Sum.elim_inl, Sum.elim_inr, decide_eq_true_eq, decide_eq_false_iff_not, ao, aO, aP, aq, aw, am, aB, ah, List.length_set, List.length_replicate, beq_iff_eq, beq_eq_false_iff_ne, bne_iff_ne, bne_eq_false_iff_eq, Bool.not_eq_true', Bool.not_eq_false', ne_eq, ak, Int.toNat_natCast]
      exact ⟨fun _ => ⟨_, _, _, _, rfl, by omega, fun q => (by cases q)⟩, fun h => .inl ⟨hb h, trivial⟩⟩
    refine an (fun (p : Int × Nat) => p.2 ≤ 65) (jk.loop BI (fun p => (p.2.1 - p.1).toNat) ⟨0, g, 1, rfl, rfl, by omega, hg, rfl, by omega, by dsimp only; omega⟩ ?_) ?_
    · rintro ⟨lo, hi, n⟩ ⟨L, H, P, h1, h2, h3, h4, h5, h6, h7⟩
      dsimp only at h1 h2 h5 h7
      subst h1 h2 h5
      unfold sV
      dsimp only
      obtain ⟨m1, m2⟩ := U0 h3 h4
      refine an (fun b => b = true → 2 ≤ H - L) (aL ?_) fun b hb => aL ?_
      · unfold C7
        rw [m1]
        simp only [T.wp, Sum.elim_inl, Sum.elim_inr, decide_eq_true_eq, decide_eq_false_iff_not, ao, aO, aP, aq, aw, am, aB, ah, List.length_set, List.length_replicate, beq_iff_eq, beq_eq_false_iff_ne, bne_iff_ne, bne_eq_false_iff_eq, Bool.not_eq_true', Bool.not_eq_false', ne_eq, ak, Int.toNat_natCast]
        exact ⟨fun _ h => by omega, fun _ q => by cases q⟩
      · unfold C8
        rw [m2, ak, ak]
        simp only [T.wp, Sum.elim_inl, Sum.elim_inr, decide_eq_true_eq, decide_eq_false_iff_not, ao, aO, aP, aq, aw, am, aB, ah, List.length_set, List.length_replicate, beq_iff_eq, beq_eq_false_iff_ne, bne_iff_ne, bne_eq_false_iff_eq, Bool.not_eq_true', Bool.not_eq_false', ne_eq, ak, Int.toNat_natCast]
        obtain ⟨y, hy⟩ := Ke D Z rho k (x := cY 13830554455654793216 (L + (H - L) / 2)) hD hZ hk hi9
        rw [hy]
        refine ⟨fun hbt => ⟨by omega, by omega, by omega, rfl, fun _ => ?_, fun _ => ?_⟩, fun _ => h7⟩
        · have h2 := hb hbt
          obtain ⟨s1, s2⟩ := LO h2 h6 (d := (H - L) / 2) (by omega)
          refine ⟨by omega, ⟨L, L + (H - L) / 2, _, rfl, rfl, by omega, by omega, rfl, ?_, s2⟩, by omega⟩
          rw [show L + (H - L) / 2 - L - 1 = (H - L) / 2 - 1 by omega]
          exact s1
        · have h2 := hb hbt
          obtain ⟨s1, s2⟩ := LO h2 h6 (d := H - (L + (H - L) / 2)) (by omega)
          exact ⟨by omega, ⟨L + (H - L) / 2, H, _, rfl, rfl, by omega, by omega, rfl, s1, s2⟩, by omega⟩
    · rintro ⟨hi, n⟩ hn
      dsimp only at hn
      refine aL ?_
      unfold C9
      exact ⟨_, _, _, _, rfl, hn, fun _ => hi9⟩
theorem OS{α:Type}{l:List α}{n:Nat}(h:l.length=n)(x:α) :(l.take n++[x]).length=n+1:=by
  rw [List.length_append,List.length_take,h,Nat.min_self];rfl
theorem VF(D Z:List Nat)(rho k:Nat)(hD:D.length=k)(hZ:Z.length=k)(hk:k≤512) :
    jk (iV D Z rho) fun x=>(∃ e,e≠0∧x=.r0 0 0 0 e 0 [] [])∨∃ a b m c l y,x=.r0 a b m 0 c l y∧a=k∧l.length=k∧y.length=k∧In k l∧m≤65*k∧GD Z:=by
  obtain ⟨e,he,hgz⟩:=Rp D Z rho k hD hZ hk
  refine ql (an (fun p=>p=e) (aL ?_) ?_)
  · unfold Eg
    rw [ak,ak,he]
    simp only [T.wp,Sum.elim_inl,Sum.elim_inr,decide_eq_true_eq,decide_eq_false_iff_not,ao,aO,aP,aq,aw,am,aB,ah,List.length_set,List.length_replicate,beq_iff_eq,beq_eq_false_iff_ne,bne_iff_ne,bne_eq_false_iff_eq,Bool.not_eq_true',Bool.not_eq_false',ne_eq,ak,Int.toNat_natCast]
    exact ⟨by omega,by omega,rfl,rfl⟩
  rintro _ rfl
  refine an (fun _=>GD Z) (aL ?_) fun _ hg=>?_
  · unfold Eh
    simp only [T.wp,Sum.elim_inl,Sum.elim_inr,decide_eq_true_eq,decide_eq_false_iff_not,ao,aO,aP,aq,aw,am,aB,ah,List.length_set,List.length_replicate,beq_iff_eq,beq_eq_false_iff_ne,bne_iff_ne,bne_eq_false_iff_eq,Bool.not_eq_true',Bool.not_eq_false',ne_eq,ak,Int.toNat_natCast]
    exact ⟨fun h=>.inl ⟨_,by omega,rfl⟩,fun h=>hgz (by omega)⟩
  refine an (fun (p:Nat×Nat×Nat×Nat×List Int×List Nat)=>p.1=k∧p.2.2.1≤65*k∧p.2.2.2.2.1.length=k∧p.2.2.2.2.2.length=k∧In k p.2.2.2.2.1) (jk.loop (fun (p:Nat×Nat×Nat×Nat×Nat×List Int×List Nat)=>p.2.2.2.1≤k∧p.1=p.2.2.2.1∧p.2.2.2.2.1=p.2.2.2.1∧p.2.2.1≤65*p.2.2.2.1∧p.2.2.2.2.2.1.length=p.2.2.2.1∧p.2.2.2.2.2.2.length=p.2.2.2.1∧In k p.2.2.2.2.2.1) (fun p=>k-p.2.2.2.1) ⟨Nat.zero_le _,rfl,rfl,Nat.le_refl _,rfl,rfl,In.nil⟩ ?_) ?_
  · rintro ⟨l10,l11,all12,a13,a14,l15,l16⟩ ⟨h1,h2,h3,h4,h5,h6,h7⟩
    dsimp only at h1 h2 h3 h4 h5 h6 h7
    replace h2:=h2.symm
    replace h3:=h3.symm
    subst h2 h3
    unfold u5
    dsimp only
    refine an (fun (p:Nat×Nat×List Int×List Nat)=>a13<k∧p.1=a13+1∧p.2.1≤65*(a13+1)∧p.2.2.1.length=a13+1∧p.2.2.2.length=a13+1∧In k p.2.2.1) (aL ?_) ?_
    · unfold Ei
      rw [ak,ak]
      simp only [T.wp,Sum.elim_inl,Sum.elim_inr,decide_eq_true_eq,decide_eq_false_iff_not,ao,aO,aP,aq,aw,am,aB,ah,List.length_set,List.length_replicate,beq_iff_eq,beq_eq_false_iff_ne,bne_iff_ne,bne_eq_false_iff_eq,Bool.not_eq_true',Bool.not_eq_false',ne_eq,ak,Int.toNat_natCast]
      refine ⟨fun h=>?_,fun h=>?_⟩
      · obtain ⟨x,hx,many,e,i,y,rfl,g1,g2⟩:=U1 D Z rho k (at_:=(a13:Int)) hD hZ hk ⟨by omega,by omega⟩
        rw [hx]
        simp only [qV,pK,pL,rC,rD]
        refine ⟨by omega,by omega,trivial,fun h=>.inl ⟨_,by omega,rfl⟩,fun h=>⟨by omega,by omega,by omega,by omega,by omega,by omega,trivial,by omega,OS h5 _,OS h6 _,h7.push (g2 (by omega))⟩⟩
      · have:a13=k:=by omega
        subst this
        exact ⟨rfl,h4,h5,h6,h7⟩
    · rintro ⟨l17,all18,l19,l20⟩ ⟨g1,g2,g3,g4,g5,g6⟩
      dsimp only at g2 g3 g4 g5 g6
      refine aL ?_
      unfold Ej
      simp only [T.wp,Sum.elim_inl,Sum.elim_inr,decide_eq_true_eq,decide_eq_false_iff_not,ao,aO,aP,aq,aw,am,aB,ah,List.length_set,List.length_replicate,beq_iff_eq,beq_eq_false_iff_ne,bne_iff_ne,bne_eq_false_iff_eq,Bool.not_eq_true',Bool.not_eq_false',ne_eq,ak,Int.toNat_natCast]
      exact ⟨by omega,⟨by omega,g2,g2,g3,g4,g5,g6⟩,by omega⟩
  · rintro ⟨l21,l22,all23,a24,l25,l26⟩ ⟨h1,h2,h3,h4,h5⟩
    dsimp only at h1 h2 h3 h4 h5
    refine aL ?_
    unfold Ek
    exact .inr ⟨_,_,_,_,_,_,rfl,h1,h3,h4,h5,h2,hg⟩
theorem SY(D:List Nat)(i:Int) :qK D i=some (.r0 (decide (0≤i∧i<D.length))):=by
  by_cases h:0≤i
  · refine kh (df (a:=decide (0≤i∧i<D.length)) ?_ rfl)
    unfold Hu
    refine T.at (decide_eq_true h) ?_
    show some _=some _
    congr 2
    by_cases q:i<(D.length:Int)
    · rw [decide_eq_true q,decide_eq_true ⟨h,q⟩]
    · rw [decide_eq_false q,decide_eq_false fun z=>q z.2]
  · rw [decide_eq_false fun z=>h z.1]
    refine kh (df (a:=false) ?_ rfl)
    exact zE (decide_eq_false h) rfl
theorem Gg(D Z:List Nat)(rho k:Nat)(i r:Int)(x:Nat)(hD:D.length=k)(hZ:Z.length=k)(hk:k≤512) :∃ a e,gi D Z rho i r x=some (.r0 a e):=by
  have:jk (gi D Z rho i r x) fun x=>∃ a e,x=.r0 a e:=by
    obtain ⟨e,he,_⟩:=Rp D Z rho k hD hZ hk
    refine ql (an (fun p=>True) (aL ?_) fun e1 _=>an (fun b=>b=false→(0≤r∧r<k)∧0≤i∧i<k) (aL ?_) fun b hb=>aL ?_)
    · unfold Em
      rw [ak,ak,he]
      simp only [T.wp,Sum.elim_inl,Sum.elim_inr,decide_eq_true_eq,decide_eq_false_iff_not,ao,aO,aP,aq,aw,am,aB,ah,List.length_set,List.length_replicate,beq_iff_eq,beq_eq_false_iff_ne,bne_iff_ne,bne_eq_false_iff_eq,Bool.not_eq_true',Bool.not_eq_false',ne_eq,ak,Int.toNat_natCast]
      exact ⟨by omega,by omega,rfl,trivial⟩
    · unfold En
      rw [ak,SY,SY,hD]
      simp only [T.wp,Sum.elim_inl,Sum.elim_inr,decide_eq_true_eq,decide_eq_false_iff_not,ao,aO,aP,aq,aw,am,aB,ah,List.length_set,List.length_replicate,beq_iff_eq,beq_eq_false_iff_ne,bne_iff_ne,bne_eq_false_iff_eq,Bool.not_eq_true',Bool.not_eq_false',ne_eq,ak,Int.toNat_natCast]
      simp only [rg,qW,decide_eq_true_eq,decide_eq_false_iff_not]
      refine ⟨fun _=>⟨_,_,rfl⟩,fun _=>⟨by omega,by omega,trivial,fun _ q=>(by cases q),fun h1=>⟨by omega,by omega,trivial,fun h2=>⟨h1,?_⟩⟩⟩⟩
      simpa using h2
    · unfold Eo
      simp only [T.wp,Sum.elim_inl,Sum.elim_inr,decide_eq_true_eq,decide_eq_false_iff_not,ao,aO,aP,aq,aw,am,aB,ah,List.length_set,List.length_replicate,beq_iff_eq,beq_eq_false_iff_ne,bne_iff_ne,bne_eq_false_iff_eq,Bool.not_eq_true',Bool.not_eq_false',ne_eq,ak,Int.toNat_natCast]
      refine ⟨fun _=>⟨_,_,rfl⟩,fun h=>?_⟩
      obtain ⟨h1,h2⟩:=hb h
      exact ⟨by omega,by omega,by omega,by omega,_,_,rfl⟩
  obtain ⟨x,hx,a,e,rfl⟩:=this
  exact ⟨a,e,hx⟩
theorem U2{N n10 c11 n12 c13 x9:Nat}{d z v w:List Nat}{l g:List Int}{i at_ j k:Int}(hv:v.length=N*N)(hw:w.length=N*N)(hN:N≤12)(hi:0≤i∧i<N)(ha:0≤at_∧at_<N) :
    jk (ai (N:Int) N N N N (N:Int) (N:Int) (N*N) (N*N) x9 n10 c11 n12 c13 d z v l g i j k (N*N) (N*N) w at_) fun x=>∃ w',x=.r0 (N:Int) N N N N (N:Int) (N:Int) (N*N) (N*N) x9 n10 c11 n12 c13 d z v l g i j k (N*N) (N*N) w'∧w'.length=N*N:=by
  have hNN:N*N≤144:=Nat.mul_le_mul hN hN
  refine uU (an (fun _=>True) (aL ?_) fun _ _=>an (fun (l:List Nat)=>l.length=N*N) (jk.loop (fun (p:Nat×List Nat)=>p.1≤N∧p.2.length=N*N) (fun p=>N-p.1) ⟨Nat.zero_le _,hw⟩ ?_) fun y hy=>aL ?_)
  · unfold gZ;trivial
  · rintro ⟨a,y⟩ ⟨ha',hy⟩
    dsimp only at ha' hy
    unfold cD
    refine aL ?_
    unfold gK
    have e1:(a:Int)*(N:Int)=((a*N:Nat):Int):=by rw [Int.natCast_mul]
    rw [e1]
    simp only [T.wp,Sum.elim_inl,Sum.elim_inr,decide_eq_true_eq,decide_eq_false_iff_not,ao,aO,aP,aq,aw,am,aB,ah,List.length_set,List.length_replicate,beq_iff_eq,beq_eq_false_iff_ne,bne_iff_ne,bne_eq_false_iff_eq,Bool.not_eq_true',Bool.not_eq_false',ne_eq,ak,Int.toNat_natCast]
    refine ⟨fun h=>?_,fun h=>hy⟩
    have q1:(a+1)*N≤N*N:=Nat.mul_le_mul_right N (by omega)
    rw [Nat.add_mul,Nat.one_mul] at q1
    rw [hv]
    generalize a*N=p1 at *
    generalize N*N=u at *
    omega
  · unfold gL
    exact ⟨_,rfl,hy⟩
theorem TN{N:Nat}{v t:List Nat}{l:List Int}{r:Int}(hv:v.length=N*N)(hN:N≤12)(hr:0≤r∧r<N)(hl:In N l)(hl2:l.length≤12)(ht:t.length=l.length) :
    ∃ y,gu r (N:Int) v l t=some (.r0 y):=by
  have hNN:N*N≤144:=Nat.mul_le_mul hN hN
  have:jk (gu r (N:Int) v l t) fun x=>∃ y,x=.r0 y:=by
    refine ql (an (fun _=>True) (aL ?_) fun _ _=>an (fun _=>True) (jk.loop (fun (p:Nat×Nat)=>p.2≤l.length) (fun p=>l.length-p.2) (Nat.zero_le _) ?_) fun y _=>aL ?_)
    · unfold th;trivial
    · rintro ⟨s,a⟩ ha
      dsimp only at ha
      unfold jC
      refine aL ?_
      unfold tj
      obtain ⟨q,rfl⟩:=Int.eq_ofNat_of_zero_le hr.1
      have e1:(q:Int)*(N:Int)=((q*N:Nat):Int):=by rw [Int.natCast_mul]
      rw [e1]
      simp only [T.wp,Sum.elim_inl,Sum.elim_inr,decide_eq_true_eq,decide_eq_false_iff_not,ao,aO,aP,aq,aw,am,aB,ah,List.length_set,List.length_replicate,beq_iff_eq,beq_eq_false_iff_ne,bne_iff_ne,bne_eq_false_iff_eq,Bool.not_eq_true',Bool.not_eq_false',ne_eq,ak,Int.toNat_natCast]
      refine ⟨fun h=>?_,fun h=>trivial⟩
      have b:=hl.at (i:=a) (by omega)
      have q1:(q+1)*N≤N*N:=Nat.mul_le_mul_right N (by omega)
      rw [Nat.add_mul,Nat.one_mul] at q1
      rw [hv]
      generalize q*N=p1 at *
      generalize N*N=u at *
      omega
    · unfold sq
      exact ⟨_,rfl⟩
  obtain ⟨x,hx,y,rfl⟩:=this
  exact ⟨y,hx⟩
theorem U3{N n10 c11 n12 c13 x9:Nat}{d z v w t:List Nat}{l g:List Int}{at_ j k:Int}(hd:d.length=N)(hz:z.length=N)(hv:v.length=N*N)(hw:w.length=N*N)(hN:N≤12)(hl:In N l)(hl2:l.length=n10)(hg2:g.length=n12)(hn:n10≤12)(ht:t.length=n10)(ha:0≤at_∧at_<N) :
    jk (aj (N:Int) N N N N (N:Int) (N:Int) (N*N) (N*N) x9 n10 c11 n12 c13 d z v l g n10 n10 t j k (N*N) (N*N) w at_) fun x=>∃ w',x=.r0 (N:Int) N N N N (N:Int) (N:Int) (N*N) (N*N) x9 n10 c11 n12 c13 d z v l g n10 n10 t j k (N*N) (N*N) w'∧w'.length=N*N:=by
  have hNN:N*N≤144:=Nat.mul_le_mul hN hN
  refine uU (an (fun _=>True) (aL ?_) fun _ _=>an (fun (l:List Nat)=>l.length=N*N) (jk.loop (fun (p:Nat×List Nat)=>p.1≤N∧p.2.length=N*N) (fun p=>N-p.1) ⟨Nat.zero_le _,hw⟩ ?_) fun y hy=>aL ?_)
  · unfold gN;trivial
  · rintro ⟨a,y⟩ ⟨ha',hy⟩
    dsimp only at ha' hy
    unfold cE
    dsimp only
    refine an (fun (l:List Nat)=>a<N∧l.length=N*N) (aL ?_) fun y' hy'=>aL ?_
    · unfold gO
      have e1:(a:Int)*(N:Int)=((a*N:Nat):Int):=by rw [Int.natCast_mul]
      rw [e1,ff hv,ff hl2,ff ht]
      simp only [T.wp,Sum.elim_inl,Sum.elim_inr,decide_eq_true_eq,decide_eq_false_iff_not,ao,aO,aP,aq,aw,am,aB,ah,List.length_set,List.length_replicate,beq_iff_eq,beq_eq_false_iff_ne,bne_iff_ne,bne_eq_false_iff_eq,Bool.not_eq_true',Bool.not_eq_false',ne_eq,ak,Int.toNat_natCast]
      refine ⟨fun h=>?_,fun h=>hy⟩
      obtain ⟨u,hu⟩:=TN (t:=t) (r:=(a:Int)) hv hN ⟨by omega,by omega⟩ hl (by omega) (by omega)
      rw [hu]
      have q1:(a+1)*N≤N*N:=Nat.mul_le_mul_right N (by omega)
      rw [Nat.add_mul,Nat.one_mul] at q1
      generalize a*N=p1 at *
      generalize N*N=u at *
      exact ⟨by omega,by omega,by omega,by omega,by omega,by omega,by omega,by omega,rfl,by omega,by omega,by omega,by omega⟩
    · unfold gP
      simp only [T.wp,Sum.elim_inl,Sum.elim_inr,decide_eq_true_eq,decide_eq_false_iff_not,ao,aO,aP,aq,aw,am,aB,ah,List.length_set,List.length_replicate,beq_iff_eq,beq_eq_false_iff_ne,bne_iff_ne,bne_eq_false_iff_eq,Bool.not_eq_true',Bool.not_eq_false',ne_eq,ak,Int.toNat_natCast]
      exact ⟨by omega,⟨by omega,hy'.2⟩,by omega⟩
  · unfold gQ
    exact ⟨_,rfl,hy⟩
end Go.Plb.Seat
