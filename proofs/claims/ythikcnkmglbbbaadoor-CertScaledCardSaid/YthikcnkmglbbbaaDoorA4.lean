/-
  Part 4 of what the claim leans on: an evaluator of the model, proved sound; the contracts of the functions.
-/
import Derived.Test.YthikcnkmglbbbaaDoorA3
namespace Go.Plb.Seat
open Go Go.Plb
set_option linter.unusedVariables false
set_option maxRecDepth 100000
noncomputable section
inductive ax where
  | r0 (a:Nat) (b:Bool) (c:List Int) (d:Nat) (e:Nat) (f:Int)
def dj:ax→AE×aF
  | .r0 a b c d e f=>(.ret,⟨ah 46 [(4,.ptr 0 1 0 0),(5,.int .i64 ((a:Nat):Int))],[(0,.vs [.bool false b,.imm .free (.ns .u64 c) 1 1 d e,.int .i64 f])],1⟩)
theorem aY:j9 dj:=by intro x;cases x<;>(intro h;cases h)
theorem gY(id:Nat) :mB id dj:=by intro x;cases x<;>(intro h;cases h)
def ib:ax→iK
  | .r0 a b c d e f=>⟨.tup [.agg [.bool false b,.imm .free (.ns .u64 c) 1 1 d e,.int .i64 f],.int .i64 ((a:Nat):Int)],[]⟩
def gC:List Code:=cY (mV i4)
def rF(d:Int)(e:Int)(f:Lv)(g:Lv)(a:Nat)(h:List Bool)(i:List (List Int))(j:List Int)(k:Lv)(l:Int)(m:Int)(n:Lv)(b:List Nat)(o:Lv)(p:Bool)(q:Lv)(c:List Int)(r:Int)(s:Bool) :aF:=⟨ah 46 [(1,.fn (.func dt) [] [.iptr f (.vs [.imm g (.cols a [.cb h,.cns .u64 i,.ci .i64 j]) 3 3 0 a]) 1 0 0,.iptr k (.vs [.int .i64 l,.int .i64 m,.imm n (.fl b) 1 1 0 (List.length b)]) 1 0 0,.iptr o (.vs [.bool false p,.imm q (.ns .u64 c) 1 1 0 (List.length c),.int .i64 r]) 1 0 0]),(2,.ptr 0 1 0 0),(4,.ptr 1 1 0 0)],[(0,.vs [.int .i64 d,.int .i64 e]),(1,.vs [.bool false s,.nsl,.int .i64 (0:Int)])],2⟩
def qJ:T ((Bool)⊕(ax)) :=
  .leaf (.inl false)
def qK:List Code:=cY (Co (((gC.drop 1)).headD .skip))
def rG(a:Int)(e:Int)(f:Lv)(g:Lv)(b:Nat)(h:List Bool)(i:List (List Int))(j:List Int)(k:Lv)(l:Int)(m:Int)(n:Lv)(c:List Nat)(o:Lv)(p:Bool)(q:Lv)(d:List Int)(r:Int)(s:Bool)(_:Unit) :aF:=⟨ah 46 [(1,.fn (.func dt) [] [.iptr f (.vs [.imm g (.cols b [.cb h,.cns .u64 i,.ci .i64 j]) 3 3 0 b]) 1 0 0,.iptr k (.vs [.int .i64 l,.int .i64 m,.imm n (.fl c) 1 1 0 (List.length c)]) 1 0 0,.iptr o (.vs [.bool false p,.imm q (.ns .u64 d) 1 1 0 (List.length d),.int .i64 r]) 1 0 0]),(2,.ptr 0 1 0 0),(4,.ptr 1 1 0 0),(6,.nsl),(7,.int .i64 (0:Int)),(13,.int .i64 a),(14,.int .i64 (0:Int))],[(0,.vs [.int .i64 a,.int .i64 e]),(1,.vs [.bool false s,.nsl,.int .i64 (0:Int)])],2⟩
def qL:T ((Unit)⊕(ax)) :=
  .leaf (.inl ())
def gD(a:Int)(e:Int)(f:Lv)(g:Lv)(b:Nat)(h:List Bool)(i:List (List Int))(j:List Int)(k:Lv)(l:Int)(m:Int)(n:Lv)(c:List Nat)(o:Lv)(p:Bool)(q:Lv)(d:List Int)(r:Int)(s:Bool) :Nat×Nat×Nat×Nat×Nat×(List Bool)×(List (List Int))×(List Int)→aF:=fun (t,u,v,w,x,y,z,A)=>⟨ah 46 [(1,.fn (.func dt) [] [.iptr f (.vs [.imm g (.cols b [.cb h,.cns .u64 i,.ci .i64 j]) 3 3 0 b]) 1 0 0,.iptr k (.vs [.int .i64 l,.int .i64 m,.imm n (.fl c) 1 1 0 (List.length c)]) 1 0 0,.iptr o (.vs [.bool false p,.imm q (.ns .u64 d) 1 1 0 (List.length d),.int .i64 r]) 1 0 0]),(2,.ptr 0 1 0 0),(4,.ptr 1 1 0 0),(6,.sl 2 3 3 0 t u),(7,.int .i64 ((v:Nat):Int)),(13,.int .i64 a),(14,.int .i64 ((w:Nat):Int))],[(0,.vs [.int .i64 a,.int .i64 e]),(1,.vs [.bool false s,.nsl,.int .i64 (0:Int)]),(2,.cols x [.cb y,.cns .u64 z,.ci .i64 A])],3⟩
def gE(a:Bool) :Nat×Nat×Nat×Nat×(List Bool)×(List (List Int))×(List Int)→aF:=fun (b,c,d,e,f,g,h)=>⟨ah 46 [(4,.ptr 0 1 0 0),(6,.sl 1 3 3 0 b c),(7,.int .i64 ((d:Nat):Int))],[(0,.vs [.bool false a,.nsl,.int .i64 (0:Int)]),(1,.cols e [.cb f,.cns .u64 g,.ci .i64 h])],2⟩
def jZ:List Code:=cY (d7 ((((qK.drop 3).take 1)).headD .skip))
def qM(a:Int)(e:Int)(f:Lv)(g:Lv)(b:Nat)(h:List Bool)(i:List (List Int))(j:List Int)(k:Lv)(l:Int)(m:Int)(n:Lv)(c:List Nat)(o:Lv)(p:Bool)(q:Lv)(d:List Int)(r:Int)(s:Bool)(t:Nat)(u:Nat)(v:Nat)(w:Nat)(x:Nat)(y:List Bool)(z:List (List Int))(A:List Int)(_:Unit) :aF:=⟨ah 46 [(1,.fn (.func dt) [] [.iptr f (.vs [.imm g (.cols b [.cb h,.cns .u64 i,.ci .i64 j]) 3 3 0 b]) 1 0 0,.iptr k (.vs [.int .i64 l,.int .i64 m,.imm n (.fl c) 1 1 0 (List.length c)]) 1 0 0,.iptr o (.vs [.bool false p,.imm q (.ns .u64 d) 1 1 0 (List.length d),.int .i64 r]) 1 0 0]),(2,.ptr 0 1 0 0),(4,.ptr 1 1 0 0),(6,.sl 2 3 3 0 t u),(7,.int .i64 ((v:Nat):Int)),(13,.int .i64 a),(14,.int .i64 ((w:Nat):Int))],[(0,.vs [.int .i64 a,.int .i64 e]),(1,.vs [.bool false s,.nsl,.int .i64 (0:Int)]),(2,.cols x [.cb y,.cns .u64 z,.ci .i64 A])],3⟩
def gF(a:Int)(b:Nat)(c:Nat)(d:Nat)(e:Nat)(f:Nat)(g:List Bool)(h:List (List Int))(i:List Int) :T ((Unit)⊕((Nat×Nat×Nat×Nat×(List Bool)×(List (List Int))×(List Int))⊕(ax))) :=
  .ask (decide (((e:Nat):Int)<a))
    (.leaf (.inl ()))
    (.leaf (.inr (.inl (b,c,d,f,g,h,i))))
def j0(a:Int)(e:Int)(f:Lv)(g:Lv)(b:Nat)(h:List Bool)(i:List (List Int))(j:List Int)(k:Lv)(l:Int)(m:Int)(n:Lv)(c:List Nat)(o:Lv)(p:Bool)(q:Lv)(d:List Int)(r:Int)(s:Bool)(t:Nat) :Nat×Nat×Nat×Nat×(List Bool)×(List (List Int))×(List Int)→aF:=fun (u,v,w,x,y,z,A)=>⟨ah 46 [(1,.fn (.func dt) [] [.iptr f (.vs [.imm g (.cols b [.cb h,.cns .u64 i,.ci .i64 j]) 3 3 0 b]) 1 0 0,.iptr k (.vs [.int .i64 l,.int .i64 m,.imm n (.fl c) 1 1 0 (List.length c)]) 1 0 0,.iptr o (.vs [.bool false p,.imm q (.ns .u64 d) 1 1 0 (List.length d),.int .i64 r]) 1 0 0]),(2,.ptr 0 1 0 0),(4,.ptr 1 1 0 0),(6,.sl 2 3 3 0 u v),(7,.int .i64 ((w:Nat):Int)),(13,.int .i64 a),(14,.int .i64 ((t:Nat):Int))],[(0,.vs [.int .i64 a,.int .i64 e]),(1,.vs [.bool false s,.nsl,.int .i64 (0:Int)]),(2,.cols x [.cb y,.cns .u64 z,.ci .i64 A])],3⟩
def qN:List Code:=cY (inBlock ((((jZ.drop 2).take 1)).headD .skip))
def qO(a:Int)(b:Int)(g:Lv)(h:Lv)(c:Nat)(i:List Bool)(j:List (List Int))(k:List Int)(l:Lv)(m:Int)(n:Int)(o:Lv)(d:List Nat)(p:Lv)(q:Bool)(r:Lv)(e:List Int)(s:Int)(t:Bool)(u:Nat)(v:Nat)(w:Nat)(f:Nat)(x:Nat)(y:List Bool)(z:List (List Int))(A:List Int)(_:Unit) :aF:=⟨ah 46 [(1,.fn (.func dt) [] [.iptr g (.vs [.imm h (.cols c [.cb i,.cns .u64 j,.ci .i64 k]) 3 3 0 c]) 1 0 0,.iptr l (.vs [.int .i64 m,.int .i64 n,.imm o (.fl d) 1 1 0 (List.length d)]) 1 0 0,.iptr p (.vs [.bool false q,.imm r (.ns .u64 e) 1 1 0 (List.length e),.int .i64 s]) 1 0 0]),(2,.ptr 0 1 0 0),(4,.ptr 1 1 0 0),(6,.sl 2 3 3 0 u v),(7,.int .i64 ((w:Nat):Int)),(8,.int .i64 ((f:Nat):Int)),(13,.int .i64 a),(14,.int .i64 ((f:Nat):Int)),(18,.int .i64 b),(19,.int .i64 (0:Int))],[(0,.vs [.int .i64 a,.int .i64 b]),(1,.vs [.bool false t,.nsl,.int .i64 (0:Int)]),(2,.cols x [.cb y,.cns .u64 z,.ci .i64 A])],3⟩
def qP:T ((Unit)⊕((Nat×Nat×Nat×Nat×(List Bool)×(List (List Int))×(List Int))⊕((Nat×Nat×Nat×Nat×(List Bool)×(List (List Int))×(List Int))⊕(ax)))) :=
  .leaf (.inl ())
def gH(a:Int)(b:Int)(g:Lv)(h:Lv)(c:Nat)(i:List Bool)(j:List (List Int))(k:List Int)(l:Lv)(m:Int)(n:Int)(o:Lv)(d:List Nat)(p:Lv)(q:Bool)(r:Lv)(e:List Int)(s:Int)(t:Bool)(f:Nat) :Nat×Nat×Nat×Nat×Nat×(List Bool)×(List (List Int))×(List Int)→aF:=fun (u,v,w,x,y,z,A,B)=>⟨ah 46 [(1,.fn (.func dt) [] [.iptr g (.vs [.imm h (.cols c [.cb i,.cns .u64 j,.ci .i64 k]) 3 3 0 c]) 1 0 0,.iptr l (.vs [.int .i64 m,.int .i64 n,.imm o (.fl d) 1 1 0 (List.length d)]) 1 0 0,.iptr p (.vs [.bool false q,.imm r (.ns .u64 e) 1 1 0 (List.length e),.int .i64 s]) 1 0 0]),(2,.ptr 0 1 0 0),(4,.ptr 1 1 0 0),(6,.sl 2 3 3 0 u v),(7,.int .i64 ((w:Nat):Int)),(8,.int .i64 ((f:Nat):Int)),(13,.int .i64 a),(14,.int .i64 ((f:Nat):Int)),(18,.int .i64 b),(19,.int .i64 ((x:Nat):Int))],[(0,.vs [.int .i64 a,.int .i64 b]),(1,.vs [.bool false t,.nsl,.int .i64 (0:Int)]),(2,.cols y [.cb z,.cns .u64 A,.ci .i64 B])],3⟩
def j1(a:Int)(e:Int)(f:Lv)(g:Lv)(b:Nat)(h:List Bool)(i:List (List Int))(j:List Int)(k:Lv)(l:Int)(m:Int)(n:Lv)(c:List Nat)(o:Lv)(p:Bool)(q:Lv)(d:List Int)(r:Int)(s:Bool)(t:Nat) :Nat×Nat×Nat×Nat×(List Bool)×(List (List Int))×(List Int)→aF:=fun (u,v,w,x,y,z,A)=>⟨ah 46 [(1,.fn (.func dt) [] [.iptr f (.vs [.imm g (.cols b [.cb h,.cns .u64 i,.ci .i64 j]) 3 3 0 b]) 1 0 0,.iptr k (.vs [.int .i64 l,.int .i64 m,.imm n (.fl c) 1 1 0 (List.length c)]) 1 0 0,.iptr o (.vs [.bool false p,.imm q (.ns .u64 d) 1 1 0 (List.length d),.int .i64 r]) 1 0 0]),(2,.ptr 0 1 0 0),(4,.ptr 1 1 0 0),(6,.sl 2 3 3 0 u v),(7,.int .i64 ((w:Nat):Int)),(13,.int .i64 a),(14,.int .i64 ((t:Nat):Int))],[(0,.vs [.int .i64 a,.int .i64 e]),(1,.vs [.bool false s,.nsl,.int .i64 (0:Int)]),(2,.cols x [.cb y,.cns .u64 z,.ci .i64 A])],3⟩
def qQ:List Code:=cY (d7 ((((qN.drop 2).take 1)).headD .skip))
def qR(b:Int)(c:Int)(h:Lv)(i:Lv)(d:Nat)(j:List Bool)(k:List (List Int))(l:List Int)(m:Lv)(n:Int)(o:Int)(p:Lv)(e:List Nat)(q:Lv)(r:Bool)(s:Lv)(f:List Int)(t:Int)(u:Bool)(g:Nat)(v:Nat) :Nat×Nat×(List Bool)×(List (List Int))×(List Int)→aF:=fun (a,w,x,y,z)=>⟨ah 46 [(1,.fn (.func dt) [] [.iptr h (.vs [.imm i (.cols d [.cb j,.cns .u64 k,.ci .i64 l]) 3 3 0 d]) 1 0 0,.iptr m (.vs [.int .i64 n,.int .i64 o,.imm p (.fl e) 1 1 0 (List.length e)]) 1 0 0,.iptr q (.vs [.bool false r,.imm s (.ns .u64 f) 1 1 0 (List.length f),.int .i64 t]) 1 0 0]),(2,.ptr 0 1 0 0),(4,.ptr 1 1 0 0),(6,.sl 2 3 3 0 a a),(7,.int .i64 ((w:Nat):Int)),(8,.int .i64 ((g:Nat):Int)),(13,.int .i64 b),(14,.int .i64 ((g:Nat):Int)),(18,.int .i64 c),(19,.int .i64 ((v:Nat):Int))],[(0,.vs [.int .i64 b,.int .i64 c]),(1,.vs [.bool false u,.nsl,.int .i64 (0:Int)]),(2,.cols a [.cb x,.cns .u64 y,.ci .i64 z])],3⟩
def dK(s:Int)(a:Nat)(d:List Bool)(e:List (List Int))(f:List Int)(g:Int)(h:Int)(q:List Nat)(i:Bool)(b:List Int)(j:Int)(k:Nat)(l:Nat)(r:Nat)(t:Nat)(c:Nat)(m:Nat)(n:List Bool)(o:List (List Int))(p:List Int) :T ((Nat×Nat×(List Bool)×(List (List Int))×(List Int))⊕((Nat×Nat×Nat×Nat×(List Bool)×(List (List Int))×(List Int))⊕((Nat×Nat×Nat×Nat×(List Bool)×(List (List Int))×(List Int))⊕((Nat×Nat×Nat×Nat×(List Bool)×(List (List Int))×(List Int))⊕(ax))))) :=
  .ask (decide (((c:Nat):Int)<s))
    (.need (Nat.ble (0+a) a)<|.need (aP 0 (List.length q) q)<|.need (aP 0 (List.length b) b)<|.need (mj (cR ((k:Nat):Int) ((c:Nat):Int) a (aa 0 a d) (aa 0 a e) (aa 0 a f) g h i (aa 0 (List.length b) b) j))<|.ask ((((iX (cR ((k:Nat):Int) ((c:Nat):Int) a (aa 0 a d) (aa 0 a e) (aa 0 a f) g h i (aa 0 (List.length b) b) j)):Nat):Int) != (0:Int))
      (.leaf (.inr (.inr (.inr (.inl (l,r,(iX (cR ((k:Nat):Int) ((c:Nat):Int) a (aa 0 a d) (aa 0 a e) (aa 0 a f) g h i (aa 0 (List.length b) b) j)),m,n,o,p))))))
      (.need (qG ((l+1)*40) 140737488355328)<|.need (qG (l+1) 9223372036854775807)<|.need (qG 3 3)<|.need (qG l m)<|.need (decide ((ko (cR ((k:Nat):Int) ((c:Nat):Int) a (aa 0 a d) (aa 0 a e) (aa 0 a f) g h i (aa 0 (List.length b) b) j))+(kp (cR ((k:Nat):Int) ((c:Nat):Int) a (aa 0 a d) (aa 0 a e) (aa 0 a f) g h i (aa 0 (List.length b) b) j))≤List.length (km (cR ((k:Nat):Int) ((c:Nat):Int) a (aa 0 a d) (aa 0 a e) (aa 0 a f) g h i (aa 0 (List.length b) b) j))))<|.leaf (.inl ((l+1),(iX (cR ((k:Nat):Int) ((c:Nat):Int) a (aa 0 a d) (aa 0 a e) (aa 0 a f) g h i (aa 0 (List.length b) b) j)),((List.take l n)++[(mQ (cR ((k:Nat):Int) ((c:Nat):Int) a (aa 0 a d) (aa 0 a e) (aa 0 a f) g h i (aa 0 (List.length b) b) j))]),((List.take l o)++[(List.take (kp (cR ((k:Nat):Int) ((c:Nat):Int) a (aa 0 a d) (aa 0 a e) (aa 0 a f) g h i (aa 0 (List.length b) b) j)) (List.drop (ko (cR ((k:Nat):Int) ((c:Nat):Int) a (aa 0 a d) (aa 0 a e) (aa 0 a f) g h i (aa 0 (List.length b) b) j)) (km (cR ((k:Nat):Int) ((c:Nat):Int) a (aa 0 a d) (aa 0 a e) (aa 0 a f) g h i (aa 0 (List.length b) b) j))))]),((List.take l p)++[(mR (cR ((k:Nat):Int) ((c:Nat):Int) a (aa 0 a d) (aa 0 a e) (aa 0 a f) g h i (aa 0 (List.length b) b) j))])))))
    (.leaf (.inr (.inl (l,r,t,m,n,o,p))))
def qS(b:Nat)(a:Nat)(c:Nat)(d:List Bool)(e:List (List Int))(f:List Int) :T ((Nat×Nat×Nat×Nat×Nat×(List Bool)×(List (List Int))×(List Int))⊕((Nat×Nat×Nat×Nat×(List Bool)×(List (List Int))×(List Int))⊕((Nat×Nat×Nat×Nat×(List Bool)×(List (List Int))×(List Int))⊕((Nat×Nat×Nat×Nat×(List Bool)×(List (List Int))×(List Int))⊕(ax))))) :=
  .need (dI .i64 (((b+1):Nat):Int))<|.leaf (.inl (a,a,c,(b+1),a,d,e,f))
def gI(b:Int)(c:Nat)(d:List Bool)(e:List (List Int))(f:List Int)(g:Int)(h:Int)(i:List Nat)(j:Bool)(k:List Int)(l:Int)(m:Nat) :Nat×Nat×Nat×Nat×Nat×(List Bool)×(List (List Int))×(List Int)→Option ((Nat×Nat×Nat×Nat×Nat×(List Bool)×(List (List Int))×(List Int))⊕((Nat×Nat×Nat×Nat×(List Bool)×(List (List Int))×(List Int))⊕((Nat×Nat×Nat×Nat×(List Bool)×(List (List Int))×(List Int))⊕((Nat×Nat×Nat×Nat×(List Bool)×(List (List Int))×(List Int))⊕(ax))))):=fun (n,o,p,a,q,r,s,t) =>
  aC ((dK b c d e f g h i j k l m n o p a q r s t).run) fun (u,v,w,x,y) =>
  (qS a u v w x y).run
theorem qT(n:Int)(a:Int)(o:Lv)(p:Lv)(b:Nat)(c:List Bool)(d:List (List Int))(e:List Int)(q:Lv)(f:Int)(g:Int)(r:Lv)(h:List Nat)(s:Lv)(i:Bool)(t:Lv)(j:List Int)(k:Int)(l:Bool)(m:Nat)(v:Nat)(w:Nat)(x:Nat)(u:Nat)(y:Nat)(z:List Bool)(A:List (List Int))(B:List Int) :Sg prog [] qQ (gH n a o p b c d e q f g r h s i t j k l m (v,w,x,u,y,z,A,B)) (gI a b c d e f g h i j k m (v,w,x,u,y,z,A,B)) (gH n a o p b c d e q f g r h s i t j k l m) (dH 2 (j1 n a o p b c d e q f g r h s i t j k l m) (dH 1 (j0 n a o p b c d e q f g r h s i t j k l m) (dH 0 (gE l) dj))):=by
  unfold gI;exact Sg.cut 3 (bB (bB (bB aY))) (bo de (qR n a o p b c d e q f g r h s i t j k l m u) [⟨[],[1,2],[4,6,7]⟩,⟨[],[0,1,323],[1,2,4,6,7,8,13,14,18,19]⟩,⟨[],[0,1,2],[1,2,4,6,7,13,14]⟩]) (fun ⟨C,D,E,F,G⟩=>bo de _ [⟨[],[0,1,2],[1,2,4,6,7,8,13,14,18,19]⟩])
def qU(a:Nat)(b:Nat)(c:Nat)(d:Nat)(e:List Bool)(f:List (List Int))(g:List Int) :T ((Nat×Nat×Nat×Nat×(List Bool)×(List (List Int))×(List Int))⊕((Nat×Nat×Nat×Nat×(List Bool)×(List (List Int))×(List Int))⊕((Nat×Nat×Nat×Nat×(List Bool)×(List (List Int))×(List Int))⊕(ax)))) :=
  .leaf (.inl (a,b,c,d,e,f,g))
def qV(a:Nat)(b:Nat)(c:Nat)(d:Nat)(e:Nat)(f:List Bool)(g:List (List Int))(h:List Int) :T ((Nat×Nat×Nat×Nat×Nat×(List Bool)×(List (List Int))×(List Int))⊕((Nat×Nat×Nat×Nat×(List Bool)×(List (List Int))×(List Int))⊕(ax))) :=
  .need (dI .i64 (((a+1):Nat):Int))<|.leaf (.inl (b,c,d,(a+1),e,f,g,h))
def gJ(i:Int)(j:Int)(k:Nat)(l:List Bool)(m:List (List Int))(n:List Int)(o:Int)(p:Int)(q:List Nat)(r:Bool)(s:List Int)(t:Int) :Nat×Nat×Nat×Nat×Nat×(List Bool)×(List (List Int))×(List Int)→Option ((Nat×Nat×Nat×Nat×Nat×(List Bool)×(List (List Int))×(List Int))⊕((Nat×Nat×Nat×Nat×(List Bool)×(List (List Int))×(List Int))⊕(ax))):=fun (b,c,d,a,e,f,g,h) =>
  aC ((gF i b c d a e f g h).run) fun _ =>
  aC (LA (aC ((qP).run) fun _ =>
  aC (df (gI j k l m n o p q r s t a) (b,c,d,0,e,f,g,h)) fun (u,v,w,x,y,z,A) =>
  (qU u v w x y z A).run)) fun (B,C,D,E,F,G,H) =>
  (qV a B C D E F G H).run
theorem qW(a:Int)(b:Int)(n:Lv)(o:Lv)(c:Nat)(d:List Bool)(e:List (List Int))(f:List Int)(p:Lv)(g:Int)(h:Int)(q:Lv)(i:List Nat)(r:Lv)(j:Bool)(s:Lv)(k:List Int)(l:Int)(m:Bool)(u:Nat)(v:Nat)(w:Nat)(t:Nat)(x:Nat)(y:List Bool)(z:List (List Int))(A:List Int) :Sg prog [] jZ (gD a b n o c d e f p g h q i r j s k l m (u,v,w,t,x,y,z,A)) (gJ a b c d e f g h i j k l (u,v,w,t,x,y,z,A)) (gD a b n o c d e f p g h q i r j s k l m) (dH 0 (gE m) dj):=by
  unfold gJ;exact Sg.cut 2 (bB aY) (bo de (qM a b n o c d e f p g h q i r j s k l m u v w t x y z A) [⟨[],[0,1,2],[1,2,4,6,7,13,14]⟩,⟨[],[1,2],[4,6,7]⟩]) (fun _=>Sg.cut 1 (bB aY) (sgb (j0 a b n o c d e f p g h q i r j s k l m t) 1 (bB aY) (ux (by decide) (gY _)) (Sg.cut 2 (bB (bB aY)) (bo de (qO a b n o c d e f p g h q i r j s k l m u v w t x y z A) [⟨[],[0,1,2],[1,2,4,6,7,8,13,14,18,19]⟩]) (fun _=>Sg.cut 1 (bB (bB aY)) (Ej ⟨[],[0,1,2],[1,2,4,6,7,8,13,14,18,19]⟩ (gH a b n o c d e f p g h q i r j s k l m t) (j1 a b n o c d e f p g h q i r j s k l m t) 2 (bB (bB aY)) (ux (by decide) (ux (by decide) (gY _))) (fun ⟨B,C,D,E,F,G,H,I⟩=>qT a b n o c d e f p g h q i r j s k l m t B C D E F G H I)) (fun ⟨J,K,L,M,N,O,P⟩=>bo de _ [⟨[],[0,1,2],[1,2,4,6,7,13,14]⟩])))) (fun ⟨Q,R,S,T,U,V,W⟩=>bo de _ [⟨[],[0,1,2],[1,2,4,6,7,13,14]⟩]))
def qX:Nat×Bool×(List Int)×Nat×Nat×Int→aF:=fun (a,b,c,d,e,f)=>⟨ah 46 [(4,.ptr 0 1 0 0),(5,.int .i64 ((a:Nat):Int))],[(0,.vs [.bool false b,.imm .free (.ns .u64 c) 1 1 d e,.int .i64 f])],1⟩
def gK(a:Nat)(e:Nat)(f:Nat)(b:List Bool)(c:List (List Int))(d:List Int) :T ((Nat×Bool×(List Int)×Nat×Nat×Int)⊕(ax)) :=
  .ask (((e:Nat):Int) != (0:Int))
    (.leaf (.inr (.r0 e false ([]:List Int) 0 0 (0:Int))))
    (.need (Nat.ble (0+a) f)<|.need (jp (bk a (aa 0 a b) (aa 0 a c) (aa 0 a d)))<|.leaf (.inl ((jG (bk a (aa 0 a b) (aa 0 a c) (aa 0 a d))),(jH (bk a (aa 0 a b) (aa 0 a c) (aa 0 a d))),(jI (bk a (aa 0 a b) (aa 0 a c) (aa 0 a d))),(jJ (bk a (aa 0 a b) (aa 0 a c) (aa 0 a d))),(jK (bk a (aa 0 a b) (aa 0 a c) (aa 0 a d))),(jL (bk a (aa 0 a b) (aa 0 a c) (aa 0 a d))))))
def qY(a:Nat)(b:Bool)(c:List Int)(d:Nat)(e:Nat)(f:Int) :T ((Empty)⊕(ax)) :=
  .leaf (.inr (.r0 a b c d e f))
def bm(a:Int)(b:Int)(c:Nat)(d:List Bool)(e:List (List Int))(f:List Int)(g:Int)(h:Int)(i:List Nat)(j:Bool)(k:List Int)(l:Int) :Option ax:=lB (aC ((qJ).run) fun y =>
  aC ((qL).run) fun _ =>
  aC (df (gJ a b c d e f g h i j k l) (0,0,0,0,0,([]:List Bool),([]:List (List Int)),([]:List Int))) fun (m,z,n,o,p,q,r) =>
  aC ((gK m n o p q r).run) fun (s,t,u,v,w,x) =>
  (qY s t u v w x).run)
theorem rH(d:Int)(e:Int)(n:Lv)(o:Lv)(a:Nat)(f:List Bool)(g:List (List Int))(i:List Int)(p:Lv)(j:Int)(k:Int)(q:Lv)(b:List Nat)(r:Lv)(l:Bool)(s:Lv)(c:List Int)(m:Int){x:ax}(h:bm d e a f g i j k b l c m=some x) :aj prog i4 [] [.agg [.int .i64 d,.int .i64 e],.fn (.func dt) [] [.iptr n (.vs [.imm o (.cols a [.cb f,.cns .u64 g,.ci .i64 i]) 3 3 0 a]) 1 0 0,.iptr p (.vs [.int .i64 j,.int .i64 k,.imm q (.fl b) 1 1 0 (List.length b)]) 1 0 0,.iptr r (.vs [.bool false l,.imm s (.ns .u64 c) 1 1 0 (List.length c),.int .i64 m]) 1 0 0]] (ib x) :=
  lO true ib dj h (Sg.cut 1 aY (bo de (rF d e n o a f g i p j k q b r l s c m) [⟨[],[0,16],[1,2,4]⟩]) (fun t=>Ee (by kernel_rfl:(gC.drop 1)=[.scope (Co (((gC.drop 1)).headD .skip))]) aY (Sg.cut 3 aY (bo de (rG d e n o a f g i p j k q b r l s c m t) [⟨[],[0,1],[1,2,4,6,7,13,14]⟩]) (fun _=>Sg.cut 1 aY (Ej ⟨[(.slot 6,.own 3 3 (.cols 0 [.cb ([]:List Bool),.cns .u64 ([]:List (List Int)),.ci .i64 ([]:List Int)]))],[0,1,2],[1,2,4,6,7,13,14]⟩ (gD d e n o a f g i p j k q b r l s c m t) (gE t) 0 aY (gY _) (fun ⟨u,v,w,y,z,A,B,C⟩=>qW d e n o a f g i p j k q b r l s c m t u v w y z A B C)) (fun ⟨J,K,L,M,N,O,P⟩=>Sg.cut 3 aY (bo de qX [⟨[(.cell 0 1,.fre 1 1 (.ns .u64 ([]:List Int)))],[0],[4,5]⟩,⟨[],[0],[4,5]⟩]) (fun ⟨Q,R,S,T,U,V⟩=>bo de _ [⟨[],[0],[4,5]⟩]))))))
    (fun x=>by cases x with | r0 D E F G H I=>exact lC [.agg [.bool false E,.imm .free (.ns .u64 F) 1 1 G H,.int .i64 I],.int .i64 ((D:Nat):Int)])
def d5:Option ax→Bool
  | some _=>true
  | none=>false
def f5:Option ax→Nat
  | some (.r0 x _ _ _ _ _)=>x
  | _=>0
def f6:Option ax→Bool
  | some (.r0 _ x _ _ _ _)=>x
  | _=>false
def f7:Option ax→List Int
  | some (.r0 _ _ x _ _ _)=>x
  | _=>[]
def f9:Option ax→Nat
  | some (.r0 _ _ _ x _ _)=>x
  | _=>0
def gd:Option ax→Nat
  | some (.r0 _ _ _ _ x _)=>x
  | _=>0
def gg:Option ax→Int
  | some (.r0 _ _ _ _ _ x)=>x
  | _=>0
theorem rI{x:Option ax}(h:d5 x=true) :x=some (.r0 (f5 x) (f6 x) (f7 x) (f9 x) (gd x) (gg x)):=by
  unfold d5 at h
  split at h<;>first | rfl | (cases h;done) | (rename_i y;cases y;rfl)
def kw:aE:=bT i4 (.cons (.agg (.cons (.int .i64) (.cons (.int .i64) .nil))) (.cons (.fn dt .nil (.cons (.ivs (.cons (.cols [.cb,.cns .u64,.ci .i64]) .nil) 1 0 0) (.cons (.ivs (.cons (.int .i64) (.cons (.int .i64) (.cons .fl .nil))) 1 0 0) (.cons (.ivs (.cons .bool (.cons (.ns .u64) (.cons (.int .i64) .nil))) 1 0 0) .nil)))) .nil)) fun t=>(fun q=>[⟨ib (.r0 (f5 q) (f6 q) (f7 q) (f9 q) (gd q) (gg q)),[d5 q]⟩]) (bm t.1.1 t.1.2.1 t.2.1.2.1.2.1.2.1 t.2.1.2.1.2.1.2.2.1 t.2.1.2.1.2.1.2.2.2.1 t.2.1.2.1.2.1.2.2.2.2.1 t.2.1.2.2.1.2.1 t.2.1.2.2.1.2.2.1 t.2.1.2.2.1.2.2.2.1.2 t.2.1.2.2.2.1.2.1 t.2.1.2.2.2.1.2.2.1.2 t.2.1.2.2.2.1.2.2.2.1)
theorem qC:aO prog kw:=aJ fun t=>(aK (fun h=>rH t.1.1 t.1.2.1 t.2.1.2.1.1 t.2.1.2.1.2.1.1 t.2.1.2.1.2.1.2.1 t.2.1.2.1.2.1.2.2.1 t.2.1.2.1.2.1.2.2.2.1 t.2.1.2.1.2.1.2.2.2.2.1 t.2.1.2.2.1.1 t.2.1.2.2.1.2.1 t.2.1.2.2.1.2.2.1 t.2.1.2.2.1.2.2.2.1.1 t.2.1.2.2.1.2.2.2.1.2 t.2.1.2.2.2.1.1 t.2.1.2.2.2.1.2.1 t.2.1.2.2.2.1.2.2.1.1 t.2.1.2.2.2.1.2.2.1.2 t.2.1.2.2.2.1.2.2.2.1 (rI h)) bb)
def kB:List aE:=kw::DA
theorem cg:bc prog (bh kB):=ap qC de
inductive dk where
  | r0 (a:Nat) (b:Bool) (c:List Int) (d:Nat) (e:Nat) (f:Int)
def JD:dk→AE×aF
  | .r0 a b c d e f=>(.ret,⟨ah 32 [(2,.ptr 0 1 0 0),(3,.int .i64 ((a:Nat):Int))],[(0,.vs [.bool false b,.imm .free (.ns .u64 c) 1 1 d e,.int .i64 f])],1⟩)
theorem uo:j9 JD:=by intro x;cases x<;>(intro h;cases h)
def BF:dk→iK
  | .r0 a b c d e f=>⟨.tup [.agg [.bool false b,.imm .free (.ns .u64 c) 1 1 d e,.int .i64 f],.int .i64 ((a:Nat):Int)],[]⟩
def TL(b:Int)(c:Int)(d:Lv)(a:List Nat)(e:Bool) :aF:=⟨ah 32 [(1,.ptr 0 1 0 0),(2,.ptr 1 1 0 0)],[(0,.vs [.int .i64 b,.int .i64 c,.imm d (.fl a) 1 1 0 (List.length a)]),(1,.vs [.bool false e,.nsl,.int .i64 (0:Int)])],2⟩
def G3(b : Int)(c : Int)(a : List Nat) : T ((Bool) ⊕ (dk)) :=
  .ask (decide ((0:Int)<(1:Int)))
    (.need (gA (0:Int) 1)<|.need (aP 0 (List.length a) a)<|.need (fK (cM b c (aa 0 (List.length a) a)))<|.ask (fg (cM b c (aa 0 (List.length a) a)))
      (.ask (!(!(decide ((0:Int)≥(0:Int)))))
        (.leaf (.inr (.r0 2 false ([]:List Int) 0 0 (0:Int))))
        (.fail))
      (.need (dI .i64 (1:Int))<|.ask (decide ((1:Int)<(1:Int)))
        (.fail)
        (.ask (!(!(decide ((-1:Int)≥(0:Int)))))
          (.fail)
          (.ask (decide ((0:Int)<(1:Int)))
            (.need (gA (0:Int) 1)<|.need (aP 0 (List.length a) a)<|.need (aI (ao (aa 0 (List.length a) a)))<|.ask (decide ((aL (ao (aa 0 (List.length a) a)))≥(0:Int)))
              (.leaf (.inr (.r0 10 false ([]:List Int) 0 0 (0:Int))))
              (.need (dI .i64 (1:Int))<|.ask (decide ((1:Int)<(1:Int)))
                (.fail)
                (.leaf (.inl false))))
            (.fail)))))
    (.fail)
def TM(c:Int)(d:Int)(e:Lv)(a:List Nat)(f:Bool) :Nat×(List Bool)×(List (List Int))×(List Int)→aF:=fun (b,g,h,i)=>⟨ah 32 [(1,.ptr 0 1 0 0),(2,.ptr 1 1 0 0),(4,.ptr 2 1 0 0)],[(0,.vs [.int .i64 c,.int .i64 d,.imm e (.fl a) 1 1 0 (List.length a)]),(1,.vs [.bool false f,.nsl,.int .i64 (0:Int)]),(2,.vs [.imm .free (.cols b [.cb g,.cns .u64 h,.ci .i64 i]) 3 3 0 b])],3⟩
def G4(a:List Nat) :T ((Nat×(List Bool)×(List (List Int))×(List Int))⊕(dk)) :=
  .need (aP 0 (List.length a) a)<|.need (fL (am (aa 0 (List.length a) a)))<|.leaf (.inl ((aD (am (aa 0 (List.length a) a))),(cj (am (aa 0 (List.length a) a))),(ck (am (aa 0 (List.length a) a))),(cm (am (aa 0 (List.length a) a)))))
def TN(c:Int)(d:Int)(e:Lv)(a:List Nat)(f:Bool)(b:Nat)(g:List Bool)(h:List (List Int))(i:List Int) :Bool×(List Int)×Nat×Nat×Int→aF:=fun (j,k,l,m,n)=>⟨ah 32 [(1,.ptr 0 1 0 0),(2,.ptr 1 1 0 0),(4,.ptr 2 1 0 0),(5,.ptr 3 1 0 0)],[(0,.vs [.int .i64 c,.int .i64 d,.imm e (.fl a) 1 1 0 (List.length a)]),(1,.vs [.bool false f,.nsl,.int .i64 (0:Int)]),(2,.vs [.imm .free (.cols b [.cb g,.cns .u64 h,.ci .i64 i]) 3 3 0 b]),(3,.vs [.bool false j,.imm .free (.ns .u64 k) 1 1 l m,.int .i64 n])],4⟩
def G5:T ((Bool×(List Int)×Nat×Nat×Int)⊕(dk)) :=
  .need (jW (aZ (1:Int)))<|.leaf (.inl ((gu (aZ (1:Int))),(e8 (aZ (1:Int))),(e9 (aZ (1:Int))),(fa (aZ (1:Int))),(gv (aZ (1:Int)))))
def TO:Nat×Bool×(List Int)×Nat×Nat×Int→aF:=fun (a,b,c,d,e,f)=>⟨ah 32 [(2,.ptr 0 1 0 0),(3,.int .i64 ((a:Nat):Int))],[(0,.vs [.bool false b,.imm .free (.ns .u64 c) 1 1 d e,.int .i64 f])],1⟩
def zM(g:Int)(b:Int)(c:List Nat)(a:Nat)(h:List Bool)(i:List (List Int))(j:List Int)(k:Bool)(d:List Int)(e:Nat)(f:Nat)(l:Int) :T ((Nat×Bool×(List Int)×Nat×Nat×Int)⊕(dk)) :=
  .need (Nat.ble (0+a) a)<|.need (aP 0 (List.length c) c)<|.need (aP e f d)<|.need (d5 (bm b b a (aa 0 a h) (aa 0 a i) (aa 0 a j) g b (aa 0 (List.length c) c) k (aa e f d) l))<|.leaf (.inl ((f5 (bm b b a (aa 0 a h) (aa 0 a i) (aa 0 a j) g b (aa 0 (List.length c) c) k (aa e f d) l)),(f6 (bm b b a (aa 0 a h) (aa 0 a i) (aa 0 a j) g b (aa 0 (List.length c) c) k (aa e f d) l)),(f7 (bm b b a (aa 0 a h) (aa 0 a i) (aa 0 a j) g b (aa 0 (List.length c) c) k (aa e f d) l)),(f9 (bm b b a (aa 0 a h) (aa 0 a i) (aa 0 a j) g b (aa 0 (List.length c) c) k (aa e f d) l)),(gd (bm b b a (aa 0 a h) (aa 0 a i) (aa 0 a j) g b (aa 0 (List.length c) c) k (aa e f d) l)),(gg (bm b b a (aa 0 a h) (aa 0 a i) (aa 0 a j) g b (aa 0 (List.length c) c) k (aa e f d) l))))
def PU(a:Nat)(b:Bool)(c:List Int)(d:Nat)(e:Nat)(f:Int) :T ((Empty)⊕(dk)) :=
  .leaf (.inr (.r0 a b c d e f))
def iQ(b:Int)(c:Int)(a:List Nat) :Option dk:=lB (aC ((G3 b c a).run) fun s =>
  aC ((G4 a).run) fun (d,e,f,g) =>
  aC ((G5).run) fun (h,i,j,k,l) =>
  aC ((zM b c a d e f g h i j k l).run) fun (m,n,o,p,q,r) =>
  (PU m n o p q r).run)
theorem TP(b:Int)(c:Int)(d:Lv)(a:List Nat){x:dk}(h:iQ b c a=some x) :aj prog AK [] [.agg [.int .i64 b,.int .i64 c,.imm d (.fl a) 1 1 0 (List.length a)]] (BF x) :=
  lO true BF JD h (Sg.cut 2 uo (bo cg (TL b c d a) [⟨[(.cell 16 1,.fre 1 1 (.ns .u64 ([]:List Int)))],[16],[2,3]⟩,⟨[(.cell 16 1,.fre 1 1 (.ns .u64 ([]:List Int)))],[16],[2,3]⟩,⟨[],[0,16],[1,2]⟩]) (fun e=>Sg.cut 1 uo (bo cg (TM b c d a e) [⟨[],[0,1,50],[1,2,4]⟩]) (fun ⟨f,g,i,j⟩=>Sg.cut 1 uo (bo cg (TN b c d a e f g i j) [⟨[],[0,1,2,19],[1,2,4,5]⟩]) (fun ⟨q,r,s,t,u⟩=>Sg.cut 1 uo (bo cg TO [⟨[],[1],[2,3]⟩]) (fun ⟨v,w,y,z,A,B⟩=>bo cg _ [⟨[],[0],[2,3]⟩])))))
    (fun x=>by cases x with | r0 k l m n o p=>exact lC [.agg [.bool false l,.imm .free (.ns .u64 m) 1 1 n o,.int .i64 p],.int .i64 ((k:Nat):Int)])
def uq:Option dk→Bool
  | some _=>true
  | none=>false
def vu:Option dk→Nat
  | some (.r0 x _ _ _ _ _)=>x
  | _=>0
def vv:Option dk→Bool
  | some (.r0 _ x _ _ _ _)=>x
  | _=>false
def vw:Option dk→List Int
  | some (.r0 _ _ x _ _ _)=>x
  | _=>[]
def vx:Option dk→Nat
  | some (.r0 _ _ _ x _ _)=>x
  | _=>0
def vy:Option dk→Nat
  | some (.r0 _ _ _ _ x _)=>x
  | _=>0
def vz:Option dk→Int
  | some (.r0 _ _ _ _ _ x)=>x
  | _=>0
theorem TQ{x:Option dk}(h:uq x=true) :x=some (.r0 (vu x) (vv x) (vw x) (vx x) (vy x) (vz x)):=by
  unfold uq at h
  split at h<;>first | rfl | (cases h;done) | (rename_i y;cases y;rfl)
def JE:aE:=bT AK (.cons (.agg (.cons (.int .i64) (.cons (.int .i64) (.cons .fl .nil)))) .nil) fun t=>(fun q=>[⟨BF (.r0 (vu q) (vv q) (vw q) (vx q) (vy q) (vz q)),[uq q]⟩]) (iQ t.1.1 t.1.2.1 t.1.2.2.1.2)
theorem Nm:aO prog JE:=aJ fun t=>(aK (fun h=>TP t.1.1 t.1.2.1 t.1.2.2.1.1 t.1.2.2.1.2 (TQ h)) bb)
def JF:List aE:=JE::kB
theorem ml:bc prog (bh JF):=ap Nm cg
inductive fh where
  | r0 (a:Bool) (b:Int)
def G6:fh→AE×aF
  | .r0 a b=>(.ret,⟨ah 37 [(8,.bool false a),(9,.int .i64 b)],[],0⟩)
theorem xv:j9 G6:=by intro x;cases x<;>(intro h;cases h)
def zN:fh→iK
  | .r0 a b=>⟨.tup [.bool false a,.int .i64 b],[]⟩
def PV(b:Bool)(c:Lv)(a:List Int)(d:Int) :Nat×Bool×(List Int)×Nat×Nat×Int→aF:=fun (e,f,g,h,i,j)=>⟨ah 37 [(1,.int .i64 ((e:Nat):Int)),(4,.ptr 0 1 0 0),(10,.ptr 1 1 0 0)],[(0,.vs [.bool false b,.imm c (.ns .u64 a) 1 1 0 (List.length a),.int .i64 d]),(1,.vs [.bool false f,.imm .free (.ns .u64 g) 1 1 h i,.int .i64 j])],2⟩
def DB(g:Int)(c:Bool)(a:List Int)(d:Int)(e:Bool)(b:List Int)(f:Int) :T ((Nat×Bool×(List Int)×Nat×Nat×Int)⊕(fh)) :=
  .ask (g != (0:Int))
    (.leaf (.inr (.r0 false g)))
    (.need (aP 0 (List.length a) a)<|.need (aP 0 (List.length b) b)<|.need (ku (ak c (aa 0 (List.length a) a) d e (aa 0 (List.length b) b) f))<|.leaf (.inl ((iN (ak c (aa 0 (List.length a) a) d e (aa 0 (List.length b) b) f)),(bO (ak c (aa 0 (List.length a) a) d e (aa 0 (List.length b) b) f)),(bG (ak c (aa 0 (List.length a) a) d e (aa 0 (List.length b) b) f)),(bH (ak c (aa 0 (List.length a) a) d e (aa 0 (List.length b) b) f)),(bJ (ak c (aa 0 (List.length a) a) d e (aa 0 (List.length b) b) f)),(bP (ak c (aa 0 (List.length a) a) d e (aa 0 (List.length b) b) f)))))
def PW:Nat×Int→aF:=fun (a,b)=>⟨ah 37 [(1,.int .i64 ((a:Nat):Int)),(11,.int .i64 b)],[],0⟩
def xw(e:Bool)(a:List Int)(f:Int)(i:Nat)(g:Bool)(b:List Int)(c:Nat)(d:Nat)(h:Int) :T ((Nat×Int)⊕(fh)) :=
  .ask (((i:Nat):Int) != (0:Int))
    (.leaf (.inr (.r0 false ((i:Nat):Int))))
    (.need (aP 0 (List.length a) a)<|.need (aP c d b)<|.need (wl (pa e (aa 0 (List.length a) a) f g (aa c d b) h))<|.leaf (.inl ((wR (pa e (aa 0 (List.length a) a) f g (aa c d b) h)),(wQ (pa e (aa 0 (List.length a) a) f g (aa c d b) h)))))
def PX(a:Nat)(b:Bool) :aF:=⟨ah 37 [(8,.bool false b),(9,.int .i64 ((a:Nat):Int))],[],0⟩
def PY(a:Nat)(b:Int) :T ((Bool)⊕(fh)) :=
  .ask (((a:Nat):Int)==(0:Int))
    (.leaf (.inl (decide (b≤(0:Int)))))
    (.leaf (.inl false))
def PZ(a:Nat)(b:Bool) :T ((Empty)⊕(fh)) :=
  .leaf (.inr (.r0 b ((a:Nat):Int)))
def gh(b:Bool)(c:List Int)(d:Int)(e:Int)(f:Bool)(g:List Int)(h:Int)(i:Bool)(j:List Int)(k:Int) :Option fh:=lB (aC ((DB e f g h i j k).run) fun (l,m,n,o,p,q) =>
  aC ((xw b c d l m n o p q).run) fun (a,r) =>
  aC ((PY a r).run) fun s =>
  (PZ a s).run)
theorem P0(b:Bool)(f:Lv)(a:List Int)(c:Int)(g:Int)(i:Bool)(m:Lv)(d:List Int)(j:Int)(k:Bool)(n:Lv)(e:List Int)(l:Int){x:fh}(h:gh b a c g i d j k e l=some x) :aj prog yG [] [.agg [.bool false b,.imm f (.ns .u64 a) 1 1 0 (List.length a),.int .i64 c],.int .i64 g,.agg [.bool false i,.imm m (.ns .u64 d) 1 1 0 (List.length d),.int .i64 j],.agg [.bool false k,.imm n (.ns .u64 e) 1 1 0 (List.length e),.int .i64 l]] (zN x) :=
  lO true zN G6 h (Sg.cut 4 xv (bo ml (PV b f a c) [⟨[],[],[8,9]⟩,⟨[],[0,208],[1,4,10]⟩]) (fun ⟨r,s,t,u,v,w⟩=>Sg.cut 3 xv (bo ml PW [⟨[],[],[8,9]⟩,⟨[],[],[1,11]⟩]) (fun ⟨o,y⟩=>Sg.cut 1 xv (bo ml (PX o) [⟨[],[],[8,9]⟩,⟨[],[],[8,9]⟩]) (fun z=>bo ml _ [⟨[],[],[8,9]⟩]))))
    (fun x=>by cases x with | r0 p q=>exact lC [.bool false p,.int .i64 q])
def nV:Option fh→Bool
  | some _=>true
  | none=>false
def oQ:Option fh→Bool
  | some (.r0 x _)=>x
  | _=>false
def oR:Option fh→Int
  | some (.r0 _ x)=>x
  | _=>0
theorem P3{x:Option fh}(h:nV x=true) :x=some (.r0 (oQ x) (oR x)):=by
  unfold nV at h
  split at h<;>first | rfl | (cases h;done) | (rename_i y;cases y;rfl)
def G7:aE:=bT yG (.cons (.agg (.cons .bool (.cons (.ns .u64) (.cons (.int .i64) .nil)))) (.cons (.int .i64) (.cons (.agg (.cons .bool (.cons (.ns .u64) (.cons (.int .i64) .nil)))) (.cons (.agg (.cons .bool (.cons (.ns .u64) (.cons (.int .i64) .nil)))) .nil)))) fun t=>(fun q=>[⟨zN (.r0 (oQ q) (oR q)),[nV q]⟩]) (gh t.1.1 t.1.2.1.2 t.1.2.2.1 t.2.1 t.2.2.1.1 t.2.2.1.2.1.2 t.2.2.1.2.2.1 t.2.2.2.1.1 t.2.2.2.1.2.1.2 t.2.2.2.1.2.2.1)
theorem Kj:aO prog G7:=aJ fun t=>(aK (fun h=>P0 t.1.1 t.1.2.1.1 t.1.2.1.2 t.1.2.2.1 t.2.1 t.2.2.1.1 t.2.2.1.2.1.1 t.2.2.1.2.1.2 t.2.2.1.2.2.1 t.2.2.2.1.1 t.2.2.2.1.2.1.1 t.2.2.2.1.2.1.2 t.2.2.2.1.2.2.1 (P3 h)) bb)
def G8:List aE:=G7::JF
theorem oS:bc prog (bh G8):=ap Kj ml
inductive gi where
  | r0 (a:Bool) (b:Int)
def G9:gi→AE×aF
  | .r0 a b=>(.ret,⟨ah 18 [(2,.bool false a),(3,.int .i64 b)],[],0⟩)
theorem DC:j9 G9:=by intro x;cases x<;>(intro h;cases h)
def zO:gi→iK
  | .r0 a b=>⟨.tup [.bool false a,.int .i64 b],[]⟩
def P4(b:Lv)(c:Bool)(d:Lv)(a:List Int)(e:Int) :Nat×Bool×(List Int)×Nat×Nat×Int→aF:=fun (f,g,h,i,j,k)=>⟨ah 18 [(1,.iptr b (.vs [.bool false c,.imm d (.ns .u64 a) 1 1 0 (List.length a),.int .i64 e]) 1 0 0),(4,.ptr 0 1 0 0),(5,.int .i64 ((f:Nat):Int))],[(0,.vs [.bool false g,.imm .free (.ns .u64 h) 1 1 i j,.int .i64 k])],1⟩
def DD(b:Int)(c:Int)(a:List Nat) :T ((Nat×Bool×(List Int)×Nat×Nat×Int)⊕(gi)) :=
  .need (aP 0 (List.length a) a)<|.need (uq (iQ b c (aa 0 (List.length a) a)))<|.leaf (.inl ((vu (iQ b c (aa 0 (List.length a) a))),(vv (iQ b c (aa 0 (List.length a) a))),(vw (iQ b c (aa 0 (List.length a) a))),(vx (iQ b c (aa 0 (List.length a) a))),(vy (iQ b c (aa 0 (List.length a) a))),(vz (iQ b c (aa 0 (List.length a) a)))))
def P5:Bool×Int→aF:=fun (a,b)=>⟨ah 18 [(2,.bool false a),(3,.int .i64 b)],[],0⟩
def xx(e:Bool)(a:List Int)(f:Int)(g:Nat)(h:Bool)(b:List Int)(c:Nat)(d:Nat)(i:Int) :T ((Bool×Int)⊕(gi)) :=
  .need (jW (aZ (1:Int)))<|.need (aP c d b)<|.need (aP 0 (List.length a) a)<|.need (aP (e9 (aZ (1:Int))) (fa (aZ (1:Int))) (e8 (aZ (1:Int))))<|.need (nV (gh h (aa c d b) i ((g:Nat):Int) e (aa 0 (List.length a) a) f (gu (aZ (1:Int))) (aa (e9 (aZ (1:Int))) (fa (aZ (1:Int))) (e8 (aZ (1:Int)))) (gv (aZ (1:Int)))))<|.leaf (.inl ((oQ (gh h (aa c d b) i ((g:Nat):Int) e (aa 0 (List.length a) a) f (gu (aZ (1:Int))) (aa (e9 (aZ (1:Int))) (fa (aZ (1:Int))) (e8 (aZ (1:Int)))) (gv (aZ (1:Int))))),(oR (gh h (aa c d b) i ((g:Nat):Int) e (aa 0 (List.length a) a) f (gu (aZ (1:Int))) (aa (e9 (aZ (1:Int))) (fa (aZ (1:Int))) (e8 (aZ (1:Int)))) (gv (aZ (1:Int)))))))
def P6(a:Bool)(b:Int) :T ((Empty)⊕(gi)) :=
  .leaf (.inr (.r0 a b))
def jM(a:Int)(b:Int)(c:List Nat)(d:Bool)(e:List Int)(f:Int) :Option gi:=lB (aC ((DD a b c).run) fun (g,h,i,j,k,l) =>
  aC ((xx d e f g h i j k l).run) fun (m,n) =>
  (P6 m n).run)
theorem P7(j:Lv)(e:Int)(f:Int)(k:Lv)(b:List Nat)(g:Lv)(c:Bool)(i:Lv)(a:List Int)(d:Int){x:gi}(h:jM e f b c a d=some x) :aj prog FH [] [.iptr j (.vs [.int .i64 e,.int .i64 f,.imm k (.fl b) 1 1 0 (List.length b)]) 1 0 0,.iptr g (.vs [.bool false c,.imm i (.ns .u64 a) 1 1 0 (List.length a),.int .i64 d]) 1 0 0] (zO x) :=
  lO false zO G9 h (Sg.cut 2 DC (bo oS (P4 g c i a d) [⟨[],[112],[1,4,5]⟩]) (fun ⟨n,o,p,q,r,s⟩=>Sg.cut 1 DC (bo oS P5 [⟨[],[],[2,3]⟩]) (fun ⟨t,u⟩=>bo oS _ [⟨[],[],[2,3]⟩])))
    (fun x=>by cases x with | r0 l m=>exact lC [.bool false l,.int .i64 m])
def nW:Option gi→Bool
  | some _=>true
  | none=>false
def oT:Option gi→Bool
  | some (.r0 x _)=>x
  | _=>false
def jq:Option gi→Int
  | some (.r0 _ x)=>x
  | _=>0
theorem P8{x:Option gi}(h:nW x=true) :x=some (.r0 (oT x) (jq x)):=by
  unfold nW at h
  split at h<;>first | rfl | (cases h;done) | (rename_i y;cases y;rfl)
def Ha:aE:=bT FH (.cons (.ivs (.cons (.int .i64) (.cons (.int .i64) (.cons .fl .nil))) 1 0 0) (.cons (.ivs (.cons .bool (.cons (.ns .u64) (.cons (.int .i64) .nil))) 1 0 0) .nil)) fun t=>(fun q=>[⟨zO (.r0 (oT q) (jq q)),[nW q]⟩]) (jM t.1.2.1 t.1.2.2.1 t.1.2.2.2.1.2 t.2.1.2.1 t.2.1.2.2.1.2 t.2.1.2.2.2.1)
theorem Kk:aO prog Ha:=aJ fun t=>(aK (fun h=>P7 t.1.1 t.1.2.1 t.1.2.2.1 t.1.2.2.2.1.1 t.1.2.2.2.1.2 t.2.1.1 t.2.1.2.1 t.2.1.2.2.1.1 t.2.1.2.2.1.2 t.2.1.2.2.2.1 (P8 h)) bb)
def Hb:List aE:=Ha::G8
theorem lp:bc prog (bh Hb):=ap Kk oS
inductive bC where
  | r0 (a:Nat) (b:Bool) (c:List Int) (d:Nat) (e:Nat) (f:Int)
def wu:bC→AE×aF
  | .r0 a b c d e f=>(.ret,⟨ah 65 [(11,.ptr 0 1 0 0),(12,.int .i64 ((a:Nat):Int))],[(0,.vs [.bool false b,.imm .free (.ns .u64 c) 1 1 d e,.int .i64 f])],1⟩)
theorem pc:j9 wu:=by intro x;cases x<;>(intro h;cases h)
def qD:bC→iK
  | .r0 a b c d e f=>⟨.tup [.agg [.bool false b,.imm .free (.ns .u64 c) 1 1 d e,.int .i64 f],.int .i64 ((a:Nat):Int)],[]⟩
def ES(d:Int)(e:Int)(f:Lv)(g:Lv)(a:Nat)(h:List Bool)(i:List (List Int))(j:List Int)(k:Lv)(l:Int)(m:Int)(n:Lv)(b:List Nat)(o:Lv)(p:Lv)(c:Nat)(q:List Bool)(r:List (List Int))(s:List Int) :Nat×Bool×Bool×(List Int)×Nat×Nat×Int→aF:=fun (t,u,v,w,x,y,z)=>⟨ah 65 [(0,.int .i64 d),(1,.int .i64 e),(6,.iptr f (.vs [.imm g (.cols a [.cb h,.cns .u64 i,.ci .i64 j]) 3 3 0 a]) 1 0 0),(7,.iptr k (.vs [.int .i64 l,.int .i64 m,.imm n (.fl b) 1 1 0 (List.length b)]) 1 0 0),(8,.iptr o (.vs [.imm p (.cols c [.cb q,.cns .u64 r,.ci .i64 s]) 3 3 0 c]) 1 0 0),(11,.ptr 0 1 0 0),(13,.ptr 1 1 0 0),(14,.int .i64 ((t:Nat):Int))],[(0,.vs [.bool false u,.nsl,.int .i64 (0:Int)]),(1,.vs [.bool false v,.imm .free (.ns .u64 w) 1 1 x y,.int .i64 z])],2⟩
def vA(d:Int)(e:Int)(a:Nat)(f:List Bool)(g:List (List Int))(h:List Int)(c:Int)(b:Nat)(i:List Bool)(j:List (List Int))(k:List Int)(l:Int) :T ((Nat×Bool×Bool×(List Int)×Nat×Nat×Int)⊕(bC)) :=
  .need (dI .i64 (d*c))<|.need (Nat.ble (0+a) a)<|.need (iH (ab a (aa 0 a f) (aa 0 a g) (aa 0 a h) (d*c) (1:Int) c))<|.need (Nat.ble (0+b) b)<|.need (iH (ab b (aa 0 b i) (aa 0 b j) (aa 0 b k) e l c))<|.need (Nat.ble (0+(ac (ab a (aa 0 a f) (aa 0 a g) (aa 0 a h) (d*c) (1:Int) c))) (ac (ab a (aa 0 a f) (aa 0 a g) (aa 0 a h) (d*c) (1:Int) c)))<|.need (Nat.ble (0+(ac (ab b (aa 0 b i) (aa 0 b j) (aa 0 b k) e l c))) (ac (ab b (aa 0 b i) (aa 0 b j) (aa 0 b k) e l c)))<|.need (pG (cu (ac (ab a (aa 0 a f) (aa 0 a g) (aa 0 a h) (d*c) (1:Int) c)) (aa 0 (ac (ab a (aa 0 a f) (aa 0 a g) (aa 0 a h) (d*c) (1:Int) c)) (aV (ab a (aa 0 a f) (aa 0 a g) (aa 0 a h) (d*c) (1:Int) c))) (aa 0 (ac (ab a (aa 0 a f) (aa 0 a g) (aa 0 a h) (d*c) (1:Int) c)) (aW (ab a (aa 0 a f) (aa 0 a g) (aa 0 a h) (d*c) (1:Int) c))) (aa 0 (ac (ab a (aa 0 a f) (aa 0 a g) (aa 0 a h) (d*c) (1:Int) c)) (aX (ab a (aa 0 a f) (aa 0 a g) (aa 0 a h) (d*c) (1:Int) c))) (ac (ab b (aa 0 b i) (aa 0 b j) (aa 0 b k) e l c)) (aa 0 (ac (ab b (aa 0 b i) (aa 0 b j) (aa 0 b k) e l c)) (aV (ab b (aa 0 b i) (aa 0 b j) (aa 0 b k) e l c))) (aa 0 (ac (ab b (aa 0 b i) (aa 0 b j) (aa 0 b k) e l c)) (aW (ab b (aa 0 b i) (aa 0 b j) (aa 0 b k) e l c))) (aa 0 (ac (ab b (aa 0 b i) (aa 0 b j) (aa 0 b k) e l c)) (aX (ab b (aa 0 b i) (aa 0 b j) (aa 0 b k) e l c)))))<|.leaf (.inl ((nN (cu (ac (ab a (aa 0 a f) (aa 0 a g) (aa 0 a h) (d*c) (1:Int) c)) (aa 0 (ac (ab a (aa 0 a f) (aa 0 a g) (aa 0 a h) (d*c) (1:Int) c)) (aV (ab a (aa 0 a f) (aa 0 a g) (aa 0 a h) (d*c) (1:Int) c))) (aa 0 (ac (ab a (aa 0 a f) (aa 0 a g) (aa 0 a h) (d*c) (1:Int) c)) (aW (ab a (aa 0 a f) (aa 0 a g) (aa 0 a h) (d*c) (1:Int) c))) (aa 0 (ac (ab a (aa 0 a f) (aa 0 a g) (aa 0 a h) (d*c) (1:Int) c)) (aX (ab a (aa 0 a f) (aa 0 a g) (aa 0 a h) (d*c) (1:Int) c))) (ac (ab b (aa 0 b i) (aa 0 b j) (aa 0 b k) e l c)) (aa 0 (ac (ab b (aa 0 b i) (aa 0 b j) (aa 0 b k) e l c)) (aV (ab b (aa 0 b i) (aa 0 b j) (aa 0 b k) e l c))) (aa 0 (ac (ab b (aa 0 b i) (aa 0 b j) (aa 0 b k) e l c)) (aW (ab b (aa 0 b i) (aa 0 b j) (aa 0 b k) e l c))) (aa 0 (ac (ab b (aa 0 b i) (aa 0 b j) (aa 0 b k) e l c)) (aX (ab b (aa 0 b i) (aa 0 b j) (aa 0 b k) e l c))))),false,(nO (cu (ac (ab a (aa 0 a f) (aa 0 a g) (aa 0 a h) (d*c) (1:Int) c)) (aa 0 (ac (ab a (aa 0 a f) (aa 0 a g) (aa 0 a h) (d*c) (1:Int) c)) (aV (ab a (aa 0 a f) (aa 0 a g) (aa 0 a h) (d*c) (1:Int) c))) (aa 0 (ac (ab a (aa 0 a f) (aa 0 a g) (aa 0 a h) (d*c) (1:Int) c)) (aW (ab a (aa 0 a f) (aa 0 a g) (aa 0 a h) (d*c) (1:Int) c))) (aa 0 (ac (ab a (aa 0 a f) (aa 0 a g) (aa 0 a h) (d*c) (1:Int) c)) (aX (ab a (aa 0 a f) (aa 0 a g) (aa 0 a h) (d*c) (1:Int) c))) (ac (ab b (aa 0 b i) (aa 0 b j) (aa 0 b k) e l c)) (aa 0 (ac (ab b (aa 0 b i) (aa 0 b j) (aa 0 b k) e l c)) (aV (ab b (aa 0 b i) (aa 0 b j) (aa 0 b k) e l c))) (aa 0 (ac (ab b (aa 0 b i) (aa 0 b j) (aa 0 b k) e l c)) (aW (ab b (aa 0 b i) (aa 0 b j) (aa 0 b k) e l c))) (aa 0 (ac (ab b (aa 0 b i) (aa 0 b j) (aa 0 b k) e l c)) (aX (ab b (aa 0 b i) (aa 0 b j) (aa 0 b k) e l c))))),(nP (cu (ac (ab a (aa 0 a f) (aa 0 a g) (aa 0 a h) (d*c) (1:Int) c)) (aa 0 (ac (ab a (aa 0 a f) (aa 0 a g) (aa 0 a h) (d*c) (1:Int) c)) (aV (ab a (aa 0 a f) (aa 0 a g) (aa 0 a h) (d*c) (1:Int) c))) (aa 0 (ac (ab a (aa 0 a f) (aa 0 a g) (aa 0 a h) (d*c) (1:Int) c)) (aW (ab a (aa 0 a f) (aa 0 a g) (aa 0 a h) (d*c) (1:Int) c))) (aa 0 (ac (ab a (aa 0 a f) (aa 0 a g) (aa 0 a h) (d*c) (1:Int) c)) (aX (ab a (aa 0 a f) (aa 0 a g) (aa 0 a h) (d*c) (1:Int) c))) (ac (ab b (aa 0 b i) (aa 0 b j) (aa 0 b k) e l c)) (aa 0 (ac (ab b (aa 0 b i) (aa 0 b j) (aa 0 b k) e l c)) (aV (ab b (aa 0 b i) (aa 0 b j) (aa 0 b k) e l c))) (aa 0 (ac (ab b (aa 0 b i) (aa 0 b j) (aa 0 b k) e l c)) (aW (ab b (aa 0 b i) (aa 0 b j) (aa 0 b k) e l c))) (aa 0 (ac (ab b (aa 0 b i) (aa 0 b j) (aa 0 b k) e l c)) (aX (ab b (aa 0 b i) (aa 0 b j) (aa 0 b k) e l c))))),(nQ (cu (ac (ab a (aa 0 a f) (aa 0 a g) (aa 0 a h) (d*c) (1:Int) c)) (aa 0 (ac (ab a (aa 0 a f) (aa 0 a g) (aa 0 a h) (d*c) (1:Int) c)) (aV (ab a (aa 0 a f) (aa 0 a g) (aa 0 a h) (d*c) (1:Int) c))) (aa 0 (ac (ab a (aa 0 a f) (aa 0 a g) (aa 0 a h) (d*c) (1:Int) c)) (aW (ab a (aa 0 a f) (aa 0 a g) (aa 0 a h) (d*c) (1:Int) c))) (aa 0 (ac (ab a (aa 0 a f) (aa 0 a g) (aa 0 a h) (d*c) (1:Int) c)) (aX (ab a (aa 0 a f) (aa 0 a g) (aa 0 a h) (d*c) (1:Int) c))) (ac (ab b (aa 0 b i) (aa 0 b j) (aa 0 b k) e l c)) (aa 0 (ac (ab b (aa 0 b i) (aa 0 b j) (aa 0 b k) e l c)) (aV (ab b (aa 0 b i) (aa 0 b j) (aa 0 b k) e l c))) (aa 0 (ac (ab b (aa 0 b i) (aa 0 b j) (aa 0 b k) e l c)) (aW (ab b (aa 0 b i) (aa 0 b j) (aa 0 b k) e l c))) (aa 0 (ac (ab b (aa 0 b i) (aa 0 b j) (aa 0 b k) e l c)) (aX (ab b (aa 0 b i) (aa 0 b j) (aa 0 b k) e l c))))),(nR (cu (ac (ab a (aa 0 a f) (aa 0 a g) (aa 0 a h) (d*c) (1:Int) c)) (aa 0 (ac (ab a (aa 0 a f) (aa 0 a g) (aa 0 a h) (d*c) (1:Int) c)) (aV (ab a (aa 0 a f) (aa 0 a g) (aa 0 a h) (d*c) (1:Int) c))) (aa 0 (ac (ab a (aa 0 a f) (aa 0 a g) (aa 0 a h) (d*c) (1:Int) c)) (aW (ab a (aa 0 a f) (aa 0 a g) (aa 0 a h) (d*c) (1:Int) c))) (aa 0 (ac (ab a (aa 0 a f) (aa 0 a g) (aa 0 a h) (d*c) (1:Int) c)) (aX (ab a (aa 0 a f) (aa 0 a g) (aa 0 a h) (d*c) (1:Int) c))) (ac (ab b (aa 0 b i) (aa 0 b j) (aa 0 b k) e l c)) (aa 0 (ac (ab b (aa 0 b i) (aa 0 b j) (aa 0 b k) e l c)) (aV (ab b (aa 0 b i) (aa 0 b j) (aa 0 b k) e l c))) (aa 0 (ac (ab b (aa 0 b i) (aa 0 b j) (aa 0 b k) e l c)) (aW (ab b (aa 0 b i) (aa 0 b j) (aa 0 b k) e l c))) (aa 0 (ac (ab b (aa 0 b i) (aa 0 b j) (aa 0 b k) e l c)) (aX (ab b (aa 0 b i) (aa 0 b j) (aa 0 b k) e l c))))),(nT (cu (ac (ab a (aa 0 a f) (aa 0 a g) (aa 0 a h) (d*c) (1:Int) c)) (aa 0 (ac (ab a (aa 0 a f) (aa 0 a g) (aa 0 a h) (d*c) (1:Int) c)) (aV (ab a (aa 0 a f) (aa 0 a g) (aa 0 a h) (d*c) (1:Int) c))) (aa 0 (ac (ab a (aa 0 a f) (aa 0 a g) (aa 0 a h) (d*c) (1:Int) c)) (aW (ab a (aa 0 a f) (aa 0 a g) (aa 0 a h) (d*c) (1:Int) c))) (aa 0 (ac (ab a (aa 0 a f) (aa 0 a g) (aa 0 a h) (d*c) (1:Int) c)) (aX (ab a (aa 0 a f) (aa 0 a g) (aa 0 a h) (d*c) (1:Int) c))) (ac (ab b (aa 0 b i) (aa 0 b j) (aa 0 b k) e l c)) (aa 0 (ac (ab b (aa 0 b i) (aa 0 b j) (aa 0 b k) e l c)) (aV (ab b (aa 0 b i) (aa 0 b j) (aa 0 b k) e l c))) (aa 0 (ac (ab b (aa 0 b i) (aa 0 b j) (aa 0 b k) e l c)) (aW (ab b (aa 0 b i) (aa 0 b j) (aa 0 b k) e l c))) (aa 0 (ac (ab b (aa 0 b i) (aa 0 b j) (aa 0 b k) e l c)) (aX (ab b (aa 0 b i) (aa 0 b j) (aa 0 b k) e l c)))))))
def ET(a:Bool)(b:Bool)(c:List Int)(d:Nat)(e:Nat)(f:Int) :Nat×Bool×(List Int)×Nat×Nat×Int→aF:=fun (g,h,i,j,k,l)=>⟨ah 65 [(11,.ptr 0 1 0 0),(13,.ptr 1 1 0 0),(14,.int .i64 ((g:Nat):Int)),(15,.ptr 2 1 0 0)],[(0,.vs [.bool false a,.nsl,.int .i64 (0:Int)]),(1,.vs [.bool false b,.imm .free (.ns .u64 c) 1 1 d e,.int .i64 f]),(2,.vs [.bool false h,.imm .free (.ns .u64 i) 1 1 j k,.int .i64 l])],3⟩
def pd(b:Int)(a:Int)(k:Nat)(f:List Bool)(d:List (List Int))(g:List Int)(c:Int)(l:Nat)(h:List Bool)(e:List (List Int))(i:List Int)(j:Nat) :T ((Nat×Bool×(List Int)×Nat×Nat×Int)⊕(bC)) :=
  .ask (((j:Nat):Int) != (0:Int))
    (.leaf (.inr (.r0 j false ([]:List Int) 0 0 (0:Int))))
    (.need (dI .i64 (b*c))<|.need (dI .i64 ((b*c)+a))<|.need (gA ((b*c)+a) k)<|.need (gM (Int.toNat ((b*c)+a)) (List.length f))<|.need (gM (Int.toNat ((b*c)+a)) (List.length d))<|.need (gM (Int.toNat ((b*c)+a)) (List.length g))<|.need (gA a l)<|.need (gM (Int.toNat a) (List.length h))<|.need (gM (Int.toNat a) (List.length e))<|.need (gM (Int.toNat a) (List.length i))<|.need (aP 0 (List.length (List.getD d (Int.toNat ((b*c)+a)) [])) (List.getD d (Int.toNat ((b*c)+a)) []))<|.need (aP 0 (List.length (List.getD e (Int.toNat a) [])) (List.getD e (Int.toNat a) []))<|.need (ku (ak (List.getD f (Int.toNat ((b*c)+a)) false) (aa 0 (List.length (List.getD d (Int.toNat ((b*c)+a)) [])) (List.getD d (Int.toNat ((b*c)+a)) [])) (List.getD g (Int.toNat ((b*c)+a)) 0) (List.getD h (Int.toNat a) false) (aa 0 (List.length (List.getD e (Int.toNat a) [])) (List.getD e (Int.toNat a) [])) (List.getD i (Int.toNat a) 0)))<|.leaf (.inl ((iN (ak (List.getD f (Int.toNat ((b*c)+a)) false) (aa 0 (List.length (List.getD d (Int.toNat ((b*c)+a)) [])) (List.getD d (Int.toNat ((b*c)+a)) [])) (List.getD g (Int.toNat ((b*c)+a)) 0) (List.getD h (Int.toNat a) false) (aa 0 (List.length (List.getD e (Int.toNat a) [])) (List.getD e (Int.toNat a) [])) (List.getD i (Int.toNat a) 0))),(bO (ak (List.getD f (Int.toNat ((b*c)+a)) false) (aa 0 (List.length (List.getD d (Int.toNat ((b*c)+a)) [])) (List.getD d (Int.toNat ((b*c)+a)) [])) (List.getD g (Int.toNat ((b*c)+a)) 0) (List.getD h (Int.toNat a) false) (aa 0 (List.length (List.getD e (Int.toNat a) [])) (List.getD e (Int.toNat a) [])) (List.getD i (Int.toNat a) 0))),(bG (ak (List.getD f (Int.toNat ((b*c)+a)) false) (aa 0 (List.length (List.getD d (Int.toNat ((b*c)+a)) [])) (List.getD d (Int.toNat ((b*c)+a)) [])) (List.getD g (Int.toNat ((b*c)+a)) 0) (List.getD h (Int.toNat a) false) (aa 0 (List.length (List.getD e (Int.toNat a) [])) (List.getD e (Int.toNat a) [])) (List.getD i (Int.toNat a) 0))),(bH (ak (List.getD f (Int.toNat ((b*c)+a)) false) (aa 0 (List.length (List.getD d (Int.toNat ((b*c)+a)) [])) (List.getD d (Int.toNat ((b*c)+a)) [])) (List.getD g (Int.toNat ((b*c)+a)) 0) (List.getD h (Int.toNat a) false) (aa 0 (List.length (List.getD e (Int.toNat a) [])) (List.getD e (Int.toNat a) [])) (List.getD i (Int.toNat a) 0))),(bJ (ak (List.getD f (Int.toNat ((b*c)+a)) false) (aa 0 (List.length (List.getD d (Int.toNat ((b*c)+a)) [])) (List.getD d (Int.toNat ((b*c)+a)) [])) (List.getD g (Int.toNat ((b*c)+a)) 0) (List.getD h (Int.toNat a) false) (aa 0 (List.length (List.getD e (Int.toNat a) [])) (List.getD e (Int.toNat a) [])) (List.getD i (Int.toNat a) 0))),(bP (ak (List.getD f (Int.toNat ((b*c)+a)) false) (aa 0 (List.length (List.getD d (Int.toNat ((b*c)+a)) [])) (List.getD d (Int.toNat ((b*c)+a)) [])) (List.getD g (Int.toNat ((b*c)+a)) 0) (List.getD h (Int.toNat a) false) (aa 0 (List.length (List.getD e (Int.toNat a) [])) (List.getD e (Int.toNat a) [])) (List.getD i (Int.toNat a) 0))))))
def EU:Nat×Bool×(List Int)×Nat×Nat×Int→aF:=fun (a,b,c,d,e,f)=>⟨ah 65 [(11,.ptr 0 1 0 0),(12,.int .i64 ((a:Nat):Int))],[(0,.vs [.bool false b,.imm .free (.ns .u64 c) 1 1 d e,.int .i64 f])],1⟩
def pe(g:Bool)(a:List Int)(b:Nat)(c:Nat)(h:Int)(k:Nat)(i:Bool)(d:List Int)(e:Nat)(f:Nat)(j:Int) :T ((Nat×Bool×(List Int)×Nat×Nat×Int)⊕(bC)) :=
  .ask (((k:Nat):Int) != (0:Int))
    (.leaf (.inr (.r0 k false ([]:List Int) 0 0 (0:Int))))
    (.need (aP b c a)<|.need (aP e f d)<|.need (sP (dT g (aa b c a) h i (aa e f d) j))<|.leaf (.inl ((si (dT g (aa b c a) h i (aa e f d) j)),(sj (dT g (aa b c a) h i (aa e f d) j)),(sk (dT g (aa b c a) h i (aa e f d) j)),(sm (dT g (aa b c a) h i (aa e f d) j)),(sn (dT g (aa b c a) h i (aa e f d) j)),(so (dT g (aa b c a) h i (aa e f d) j)))))
def EV(a:Nat)(b:Bool)(c:List Int)(d:Nat)(e:Nat)(f:Int) :T ((Empty)⊕(bC)) :=
  .leaf (.inr (.r0 a b c d e f))
def bK(a:Int)(b:Int)(c:Nat)(d:List Bool)(e:List (List Int))(f:List Int)(g:Int)(h:Nat)(i:List Bool)(j:List (List Int))(k:List Int)(l:Int)(m:Nat)(n:List Bool)(o:List (List Int))(p:List Int)(q:Int)(r:Nat)(s:List Bool)(t:List (List Int))(u:List Int) :Option bC:=lB (aC ((vA a b c d e f g h i j k l).run) fun (v,N,w,x,y,z,A) =>
  aC ((pd a b m n o p q r s t u v).run) fun (B,C,D,E,F,G) =>
  aC ((pe w x y z A B C D E F G).run) fun (H,I,J,K,L,M) =>
  (EV H I J K L M).run)
theorem EW(c:Int)(d:Int)(H:Lv)(I:Lv)(e:Nat)(p:List Bool)(q:List (List Int))(r:List Int)(J:Lv)(K:Int)(s:Int)(L:Lv)(t:List Nat)(M:Lv)(N:Lv)(f:Nat)(u:List Bool)(v:List (List Int))(w:List Int)(O:Lv)(P:Int)(y:Int)(Q:Lv)(z:List Nat)(A:Lv)(B:Lv)(a:Nat)(g:List Bool)(i:List (List Int))(j:List Int)(C:Lv)(D:Int)(k:Int)(E:Lv)(l:List Nat)(F:Lv)(G:Lv)(b:Nat)(m:List Bool)(n:List (List Int))(o:List Int){x:bC}(h:bK c d e p q r s f u v w y a g i j k b m n o=some x) :aj prog cd [] [.int .i64 c,.int .i64 d,.iptr H (.vs [.imm I (.cols e [.cb p,.cns .u64 q,.ci .i64 r]) 3 3 0 e]) 1 0 0,.iptr J (.vs [.int .i64 K,.int .i64 s,.imm L (.fl t) 1 1 0 (List.length t)]) 1 0 0,.iptr M (.vs [.imm N (.cols f [.cb u,.cns .u64 v,.ci .i64 w]) 3 3 0 f]) 1 0 0,.iptr O (.vs [.int .i64 P,.int .i64 y,.imm Q (.fl z) 1 1 0 (List.length z)]) 1 0 0,.iptr A (.vs [.imm B (.cols a [.cb g,.cns .u64 i,.ci .i64 j]) 3 3 0 a]) 1 0 0,.iptr C (.vs [.int .i64 D,.int .i64 k,.imm E (.fl l) 1 1 0 (List.length l)]) 1 0 0,.iptr F (.vs [.imm G (.cols b [.cb m,.cns .u64 n,.ci .i64 o]) 3 3 0 b]) 1 0 0] (qD x) :=
  lO false qD wu h (Sg.cut 2 pc (bo lp (ES c d A B a g i j C D k E l F G b m n o) [⟨[],[0,336],[0,1,6,7,8,11,13,14]⟩]) (fun ⟨a3,R,S,T,U,V,W⟩=>Sg.cut 3 pc (bo lp (ET R S T U V W) [⟨[(.cell 0 1,.fre 1 1 (.ns .u64 ([]:List Int)))],[0],[11,12]⟩,⟨[],[0,1,306],[11,13,14,15]⟩]) (fun ⟨a4,a7,a8,a9,b0,b1⟩=>Sg.cut 3 pc (bo lp EU [⟨[(.cell 0 1,.fre 1 1 (.ns .u64 ([]:List Int)))],[0],[11,12]⟩,⟨[],[0],[11,12]⟩]) (fun ⟨b4,b5,b6,b7,b8,c0⟩=>bo lp _ [⟨[],[0],[11,12]⟩]))))
    (fun x=>by cases x with | r0 X Y Z a0 a1 a2=>exact lC [.agg [.bool false Y,.imm .free (.ns .u64 Z) 1 1 a0 a1,.int .i64 a2],.int .i64 ((X:Nat):Int)])
def i8:Option bC→Bool
  | some _=>true
  | none=>false
def fF:Option bC→Nat
  | some (.r0 x _ _ _ _ _)=>x
  | _=>0
def jN:Option bC→Bool
  | some (.r0 _ x _ _ _ _)=>x
  | _=>false
def ic:Option bC→List Int
  | some (.r0 _ _ x _ _ _)=>x
  | _=>[]
def ig:Option bC→Nat
  | some (.r0 _ _ _ x _ _)=>x
  | _=>0
def ii:Option bC→Nat
  | some (.r0 _ _ _ _ x _)=>x
  | _=>0
def jO:Option bC→Int
  | some (.r0 _ _ _ _ _ x)=>x
  | _=>0
theorem EX{x:Option bC}(h:i8 x=true) :x=some (.r0 (fF x) (jN x) (ic x) (ig x) (ii x) (jO x)):=by
  unfold i8 at h
  split at h<;>first | rfl | (cases h;done) | (rename_i y;cases y;rfl)
def wv:aE:=bT cd (.cons (.int .i64) (.cons (.int .i64) (.cons (.ivs (.cons (.cols [.cb,.cns .u64,.ci .i64]) .nil) 1 0 0) (.cons (.ivs (.cons (.int .i64) (.cons (.int .i64) (.cons .fl .nil))) 1 0 0) (.cons (.ivs (.cons (.cols [.cb,.cns .u64,.ci .i64]) .nil) 1 0 0) (.cons (.ivs (.cons (.int .i64) (.cons (.int .i64) (.cons .fl .nil))) 1 0 0) (.cons (.ivs (.cons (.cols [.cb,.cns .u64,.ci .i64]) .nil) 1 0 0) (.cons (.ivs (.cons (.int .i64) (.cons (.int .i64) (.cons .fl .nil))) 1 0 0) (.cons (.ivs (.cons (.cols [.cb,.cns .u64,.ci .i64]) .nil) 1 0 0) .nil))))))))) fun t=>(fun q=>[⟨qD (.r0 (fF q) (jN q) (ic q) (ig q) (ii q) (jO q)),[i8 q]⟩]) (bK t.1 t.2.1 t.2.2.1.2.1.2.1 t.2.2.1.2.1.2.2.1 t.2.2.1.2.1.2.2.2.1 t.2.2.1.2.1.2.2.2.2.1 t.2.2.2.1.2.2.1 t.2.2.2.2.1.2.1.2.1 t.2.2.2.2.1.2.1.2.2.1 t.2.2.2.2.1.2.1.2.2.2.1 t.2.2.2.2.1.2.1.2.2.2.2.1 t.2.2.2.2.2.1.2.2.1 t.2.2.2.2.2.2.1.2.1.2.1 t.2.2.2.2.2.2.1.2.1.2.2.1 t.2.2.2.2.2.2.1.2.1.2.2.2.1 t.2.2.2.2.2.2.1.2.1.2.2.2.2.1 t.2.2.2.2.2.2.2.1.2.2.1 t.2.2.2.2.2.2.2.2.1.2.1.2.1 t.2.2.2.2.2.2.2.2.1.2.1.2.2.1 t.2.2.2.2.2.2.2.2.1.2.1.2.2.2.1 t.2.2.2.2.2.2.2.2.1.2.1.2.2.2.2.1)
theorem BG:aO prog wv:=aJ fun t=>(aK (fun h=>EW t.1 t.2.1 t.2.2.1.1 t.2.2.1.2.1.1 t.2.2.1.2.1.2.1 t.2.2.1.2.1.2.2.1 t.2.2.1.2.1.2.2.2.1 t.2.2.1.2.1.2.2.2.2.1 t.2.2.2.1.1 t.2.2.2.1.2.1 t.2.2.2.1.2.2.1 t.2.2.2.1.2.2.2.1.1 t.2.2.2.1.2.2.2.1.2 t.2.2.2.2.1.1 t.2.2.2.2.1.2.1.1 t.2.2.2.2.1.2.1.2.1 t.2.2.2.2.1.2.1.2.2.1 t.2.2.2.2.1.2.1.2.2.2.1 t.2.2.2.2.1.2.1.2.2.2.2.1 t.2.2.2.2.2.1.1 t.2.2.2.2.2.1.2.1 t.2.2.2.2.2.1.2.2.1 t.2.2.2.2.2.1.2.2.2.1.1 t.2.2.2.2.2.1.2.2.2.1.2 t.2.2.2.2.2.2.1.1 t.2.2.2.2.2.2.1.2.1.1 t.2.2.2.2.2.2.1.2.1.2.1 t.2.2.2.2.2.2.1.2.1.2.2.1 t.2.2.2.2.2.2.1.2.1.2.2.2.1 t.2.2.2.2.2.2.1.2.1.2.2.2.2.1 t.2.2.2.2.2.2.2.1.1 t.2.2.2.2.2.2.2.1.2.1 t.2.2.2.2.2.2.2.1.2.2.1 t.2.2.2.2.2.2.2.1.2.2.2.1.1 t.2.2.2.2.2.2.2.1.2.2.2.1.2 t.2.2.2.2.2.2.2.2.1.1 t.2.2.2.2.2.2.2.2.1.2.1.1 t.2.2.2.2.2.2.2.2.1.2.1.2.1 t.2.2.2.2.2.2.2.2.1.2.1.2.2.1 t.2.2.2.2.2.2.2.2.1.2.1.2.2.2.1 t.2.2.2.2.2.2.2.2.1.2.1.2.2.2.2.1 (EX h)) bb)
def ww:List aE:=wv::Hb
theorem ca:bc prog (bh ww):=ap BG lp
inductive an where
  | r0 (a:Nat) (b:Bool) (c:List Int) (d:Nat) (e:Nat) (f:Int)
def cI:an→AE×aF
  | .r0 a b c d e f=>(.ret,⟨ah 46 [(4,.ptr 0 1 0 0),(5,.int .i64 ((a:Nat):Int))],[(0,.vs [.bool false b,.imm .free (.ns .u64 c) 1 1 d e,.int .i64 f])],1⟩)
theorem aH:j9 cI:=by intro x;cases x<;>(intro h;cases h)
theorem fp(id:Nat) :mB id cI:=by intro x;cases x<;>(intro h;cases h)
def fI:an→iK
  | .r0 a b c d e f=>⟨.tup [.agg [.bool false b,.imm .free (.ns .u64 c) 1 1 d e,.int .i64 f],.int .i64 ((a:Nat):Int)],[]⟩
def eL:List Code:=cY (mV i4)
def pf(h:Int)(i:Int)(j:Lv)(k:Lv)(a:Nat)(l:List Bool)(m:List (List Int))(n:List Int)(o:Lv)(p:Int)(q:Int)(r:Lv)(b:List Nat)(s:Lv)(t:Lv)(c:Nat)(u:List Bool)(v:List (List Int))(w:List Int)(x:Lv)(y:Int)(z:Int)(A:Lv)(d:List Nat)(B:Lv)(C:Lv)(e:Nat)(D:List Bool)(E:List (List Int))(F:List Int)(G:Lv)(H:Int)(I:Int)(J:Lv)(f:List Nat)(K:Lv)(L:Lv)(g:Nat)(M:List Bool)(N:List (List Int))(O:List Int)(P:Bool) :aF:=⟨ah 46 [(1,.fn (.func cd) [] [.iptr j (.vs [.imm k (.cols a [.cb l,.cns .u64 m,.ci .i64 n]) 3 3 0 a]) 1 0 0,.iptr o (.vs [.int .i64 p,.int .i64 q,.imm r (.fl b) 1 1 0 (List.length b)]) 1 0 0,.iptr s (.vs [.imm t (.cols c [.cb u,.cns .u64 v,.ci .i64 w]) 3 3 0 c]) 1 0 0,.iptr x (.vs [.int .i64 y,.int .i64 z,.imm A (.fl d) 1 1 0 (List.length d)]) 1 0 0,.iptr B (.vs [.imm C (.cols e [.cb D,.cns .u64 E,.ci .i64 F]) 3 3 0 e]) 1 0 0,.iptr G (.vs [.int .i64 H,.int .i64 I,.imm J (.fl f) 1 1 0 (List.length f)]) 1 0 0,.iptr K (.vs [.imm L (.cols g [.cb M,.cns .u64 N,.ci .i64 O]) 3 3 0 g]) 1 0 0]),(2,.ptr 0 1 0 0),(4,.ptr 1 1 0 0)],[(0,.vs [.int .i64 h,.int .i64 i]),(1,.vs [.bool false P,.nsl,.int .i64 (0:Int)])],2⟩
def nX:T ((Bool)⊕(an)) :=
  .leaf (.inl false)
def nY:List Code:=cY (Co (((eL.drop 1)).headD .skip))
def pg(a:Int)(i:Int)(j:Lv)(k:Lv)(b:Nat)(l:List Bool)(m:List (List Int))(n:List Int)(o:Lv)(p:Int)(q:Int)(r:Lv)(c:List Nat)(s:Lv)(t:Lv)(d:Nat)(u:List Bool)(v:List (List Int))(w:List Int)(x:Lv)(y:Int)(z:Int)(A:Lv)(e:List Nat)(B:Lv)(C:Lv)(f:Nat)(D:List Bool)(E:List (List Int))(F:List Int)(G:Lv)(H:Int)(I:Int)(J:Lv)(g:List Nat)(K:Lv)(L:Lv)(h:Nat)(M:List Bool)(N:List (List Int))(O:List Int)(P:Bool)(_:Unit) :aF:=⟨ah 46 [(1,.fn (.func cd) [] [.iptr j (.vs [.imm k (.cols b [.cb l,.cns .u64 m,.ci .i64 n]) 3 3 0 b]) 1 0 0,.iptr o (.vs [.int .i64 p,.int .i64 q,.imm r (.fl c) 1 1 0 (List.length c)]) 1 0 0,.iptr s (.vs [.imm t (.cols d [.cb u,.cns .u64 v,.ci .i64 w]) 3 3 0 d]) 1 0 0,.iptr x (.vs [.int .i64 y,.int .i64 z,.imm A (.fl e) 1 1 0 (List.length e)]) 1 0 0,.iptr B (.vs [.imm C (.cols f [.cb D,.cns .u64 E,.ci .i64 F]) 3 3 0 f]) 1 0 0,.iptr G (.vs [.int .i64 H,.int .i64 I,.imm J (.fl g) 1 1 0 (List.length g)]) 1 0 0,.iptr K (.vs [.imm L (.cols h [.cb M,.cns .u64 N,.ci .i64 O]) 3 3 0 h]) 1 0 0]),(2,.ptr 0 1 0 0),(4,.ptr 1 1 0 0),(6,.nsl),(7,.int .i64 (0:Int)),(13,.int .i64 a),(14,.int .i64 (0:Int))],[(0,.vs [.int .i64 a,.int .i64 i]),(1,.vs [.bool false P,.nsl,.int .i64 (0:Int)])],2⟩
def nZ:T ((Unit)⊕(an)) :=
  .leaf (.inl ())
def eN(a:Int)(i:Int)(j:Lv)(k:Lv)(b:Nat)(l:List Bool)(m:List (List Int))(n:List Int)(o:Lv)(p:Int)(q:Int)(r:Lv)(c:List Nat)(s:Lv)(t:Lv)(d:Nat)(u:List Bool)(v:List (List Int))(w:List Int)(x:Lv)(y:Int)(z:Int)(A:Lv)(e:List Nat)(B:Lv)(C:Lv)(f:Nat)(D:List Bool)(E:List (List Int))(F:List Int)(G:Lv)(H:Int)(I:Int)(J:Lv)(g:List Nat)(K:Lv)(L:Lv)(h:Nat)(M:List Bool)(N:List (List Int))(O:List Int)(P:Bool) :Nat×Nat×Nat×Nat×Nat×(List Bool)×(List (List Int))×(List Int)→aF:=fun (Q,R,S,T,U,V,W,X)=>⟨ah 46 [(1,.fn (.func cd) [] [.iptr j (.vs [.imm k (.cols b [.cb l,.cns .u64 m,.ci .i64 n]) 3 3 0 b]) 1 0 0,.iptr o (.vs [.int .i64 p,.int .i64 q,.imm r (.fl c) 1 1 0 (List.length c)]) 1 0 0,.iptr s (.vs [.imm t (.cols d [.cb u,.cns .u64 v,.ci .i64 w]) 3 3 0 d]) 1 0 0,.iptr x (.vs [.int .i64 y,.int .i64 z,.imm A (.fl e) 1 1 0 (List.length e)]) 1 0 0,.iptr B (.vs [.imm C (.cols f [.cb D,.cns .u64 E,.ci .i64 F]) 3 3 0 f]) 1 0 0,.iptr G (.vs [.int .i64 H,.int .i64 I,.imm J (.fl g) 1 1 0 (List.length g)]) 1 0 0,.iptr K (.vs [.imm L (.cols h [.cb M,.cns .u64 N,.ci .i64 O]) 3 3 0 h]) 1 0 0]),(2,.ptr 0 1 0 0),(4,.ptr 1 1 0 0),(6,.sl 2 3 3 0 Q R),(7,.int .i64 ((S:Nat):Int)),(13,.int .i64 a),(14,.int .i64 ((T:Nat):Int))],[(0,.vs [.int .i64 a,.int .i64 i]),(1,.vs [.bool false P,.nsl,.int .i64 (0:Int)]),(2,.cols U [.cb V,.cns .u64 W,.ci .i64 X])],3⟩
def eO(a:Bool) :Nat×Nat×Nat×Nat×(List Bool)×(List (List Int))×(List Int)→aF:=fun (b,c,d,e,f,g,h)=>⟨ah 46 [(4,.ptr 0 1 0 0),(6,.sl 1 3 3 0 b c),(7,.int .i64 ((d:Nat):Int))],[(0,.vs [.bool false a,.nsl,.int .i64 (0:Int)]),(1,.cols e [.cb f,.cns .u64 g,.ci .i64 h])],2⟩
def iR:List Code:=cY (d7 ((((nY.drop 3).take 1)).headD .skip))
def n4(a:Int)(i:Int)(j:Lv)(k:Lv)(b:Nat)(l:List Bool)(m:List (List Int))(n:List Int)(o:Lv)(p:Int)(q:Int)(r:Lv)(c:List Nat)(s:Lv)(t:Lv)(d:Nat)(u:List Bool)(v:List (List Int))(w:List Int)(x:Lv)(y:Int)(z:Int)(A:Lv)(e:List Nat)(B:Lv)(C:Lv)(f:Nat)(D:List Bool)(E:List (List Int))(F:List Int)(G:Lv)(H:Int)(I:Int)(J:Lv)(g:List Nat)(K:Lv)(L:Lv)(h:Nat)(M:List Bool)(N:List (List Int))(O:List Int)(P:Bool)(Q:Nat)(R:Nat)(S:Nat)(T:Nat)(U:Nat)(V:List Bool)(W:List (List Int))(X:List Int)(_:Unit) :aF:=⟨ah 46 [(1,.fn (.func cd) [] [.iptr j (.vs [.imm k (.cols b [.cb l,.cns .u64 m,.ci .i64 n]) 3 3 0 b]) 1 0 0,.iptr o (.vs [.int .i64 p,.int .i64 q,.imm r (.fl c) 1 1 0 (List.length c)]) 1 0 0,.iptr s (.vs [.imm t (.cols d [.cb u,.cns .u64 v,.ci .i64 w]) 3 3 0 d]) 1 0 0,.iptr x (.vs [.int .i64 y,.int .i64 z,.imm A (.fl e) 1 1 0 (List.length e)]) 1 0 0,.iptr B (.vs [.imm C (.cols f [.cb D,.cns .u64 E,.ci .i64 F]) 3 3 0 f]) 1 0 0,.iptr G (.vs [.int .i64 H,.int .i64 I,.imm J (.fl g) 1 1 0 (List.length g)]) 1 0 0,.iptr K (.vs [.imm L (.cols h [.cb M,.cns .u64 N,.ci .i64 O]) 3 3 0 h]) 1 0 0]),(2,.ptr 0 1 0 0),(4,.ptr 1 1 0 0),(6,.sl 2 3 3 0 Q R),(7,.int .i64 ((S:Nat):Int)),(13,.int .i64 a),(14,.int .i64 ((T:Nat):Int))],[(0,.vs [.int .i64 a,.int .i64 i]),(1,.vs [.bool false P,.nsl,.int .i64 (0:Int)]),(2,.cols U [.cb V,.cns .u64 W,.ci .i64 X])],3⟩
def eP(a:Int)(b:Nat)(c:Nat)(d:Nat)(e:Nat)(f:Nat)(g:List Bool)(h:List (List Int))(i:List Int) :T ((Unit)⊕((Nat×Nat×Nat×Nat×(List Bool)×(List (List Int))×(List Int))⊕(an))) :=
  .ask (decide (((e:Nat):Int)<a))
    (.leaf (.inl ()))
    (.leaf (.inr (.inl (b,c,d,f,g,h,i))))
def iS(a:Int)(i:Int)(j:Lv)(k:Lv)(b:Nat)(l:List Bool)(m:List (List Int))(n:List Int)(o:Lv)(p:Int)(q:Int)(r:Lv)(c:List Nat)(s:Lv)(t:Lv)(d:Nat)(u:List Bool)(v:List (List Int))(w:List Int)(x:Lv)(y:Int)(z:Int)(A:Lv)(e:List Nat)(B:Lv)(C:Lv)(f:Nat)(D:List Bool)(E:List (List Int))(F:List Int)(G:Lv)(H:Int)(I:Int)(J:Lv)(g:List Nat)(K:Lv)(L:Lv)(h:Nat)(M:List Bool)(N:List (List Int))(O:List Int)(P:Bool)(Q:Nat) :Nat×Nat×Nat×Nat×(List Bool)×(List (List Int))×(List Int)→aF:=fun (R,S,T,U,V,W,X)=>⟨ah 46 [(1,.fn (.func cd) [] [.iptr j (.vs [.imm k (.cols b [.cb l,.cns .u64 m,.ci .i64 n]) 3 3 0 b]) 1 0 0,.iptr o (.vs [.int .i64 p,.int .i64 q,.imm r (.fl c) 1 1 0 (List.length c)]) 1 0 0,.iptr s (.vs [.imm t (.cols d [.cb u,.cns .u64 v,.ci .i64 w]) 3 3 0 d]) 1 0 0,.iptr x (.vs [.int .i64 y,.int .i64 z,.imm A (.fl e) 1 1 0 (List.length e)]) 1 0 0,.iptr B (.vs [.imm C (.cols f [.cb D,.cns .u64 E,.ci .i64 F]) 3 3 0 f]) 1 0 0,.iptr G (.vs [.int .i64 H,.int .i64 I,.imm J (.fl g) 1 1 0 (List.length g)]) 1 0 0,.iptr K (.vs [.imm L (.cols h [.cb M,.cns .u64 N,.ci .i64 O]) 3 3 0 h]) 1 0 0]),(2,.ptr 0 1 0 0),(4,.ptr 1 1 0 0),(6,.sl 2 3 3 0 R S),(7,.int .i64 ((T:Nat):Int)),(13,.int .i64 a),(14,.int .i64 ((Q:Nat):Int))],[(0,.vs [.int .i64 a,.int .i64 i]),(1,.vs [.bool false P,.nsl,.int .i64 (0:Int)]),(2,.cols U [.cb V,.cns .u64 W,.ci .i64 X])],3⟩
def n5:List Code:=cY (inBlock ((((iR.drop 2).take 1)).headD .skip))
def n6(a:Int)(b:Int)(k:Lv)(l:Lv)(c:Nat)(m:List Bool)(n:List (List Int))(o:List Int)(p:Lv)(q:Int)(r:Int)(s:Lv)(d:List Nat)(t:Lv)(u:Lv)(e:Nat)(v:List Bool)(w:List (List Int))(x:List Int)(y:Lv)(z:Int)(A:Int)(B:Lv)(f:List Nat)(C:Lv)(D:Lv)(g:Nat)(E:List Bool)(F:List (List Int))(G:List Int)(H:Lv)(I:Int)(J:Int)(K:Lv)(h:List Nat)(L:Lv)(M:Lv)(i:Nat)(N:List Bool)(O:List (List Int))(P:List Int)(Q:Bool)(R:Nat)(S:Nat)(T:Nat)(j:Nat)(U:Nat)(V:List Bool)(W:List (List Int))(X:List Int)(_:Unit) :aF:=⟨ah 46 [(1,.fn (.func cd) [] [.iptr k (.vs [.imm l (.cols c [.cb m,.cns .u64 n,.ci .i64 o]) 3 3 0 c]) 1 0 0,.iptr p (.vs [.int .i64 q,.int .i64 r,.imm s (.fl d) 1 1 0 (List.length d)]) 1 0 0,.iptr t (.vs [.imm u (.cols e [.cb v,.cns .u64 w,.ci .i64 x]) 3 3 0 e]) 1 0 0,.iptr y (.vs [.int .i64 z,.int .i64 A,.imm B (.fl f) 1 1 0 (List.length f)]) 1 0 0,.iptr C (.vs [.imm D (.cols g [.cb E,.cns .u64 F,.ci .i64 G]) 3 3 0 g]) 1 0 0,.iptr H (.vs [.int .i64 I,.int .i64 J,.imm K (.fl h) 1 1 0 (List.length h)]) 1 0 0,.iptr L (.vs [.imm M (.cols i [.cb N,.cns .u64 O,.ci .i64 P]) 3 3 0 i]) 1 0 0]),(2,.ptr 0 1 0 0),(4,.ptr 1 1 0 0),(6,.sl 2 3 3 0 R S),(7,.int .i64 ((T:Nat):Int)),(8,.int .i64 ((j:Nat):Int)),(13,.int .i64 a),(14,.int .i64 ((j:Nat):Int)),(18,.int .i64 b),(19,.int .i64 (0:Int))],[(0,.vs [.int .i64 a,.int .i64 b]),(1,.vs [.bool false Q,.nsl,.int .i64 (0:Int)]),(2,.cols U [.cb V,.cns .u64 W,.ci .i64 X])],3⟩
def n7:T ((Unit)⊕((Nat×Nat×Nat×Nat×(List Bool)×(List (List Int))×(List Int))⊕((Nat×Nat×Nat×Nat×(List Bool)×(List (List Int))×(List Int))⊕(an)))) :=
  .leaf (.inl ())
def eQ(a:Int)(b:Int)(k:Lv)(l:Lv)(c:Nat)(m:List Bool)(n:List (List Int))(o:List Int)(p:Lv)(q:Int)(r:Int)(s:Lv)(d:List Nat)(t:Lv)(u:Lv)(e:Nat)(v:List Bool)(w:List (List Int))(x:List Int)(y:Lv)(z:Int)(A:Int)(B:Lv)(f:List Nat)(C:Lv)(D:Lv)(g:Nat)(E:List Bool)(F:List (List Int))(G:List Int)(H:Lv)(I:Int)(J:Int)(K:Lv)(h:List Nat)(L:Lv)(M:Lv)(i:Nat)(N:List Bool)(O:List (List Int))(P:List Int)(Q:Bool)(j:Nat) :Nat×Nat×Nat×Nat×Nat×(List Bool)×(List (List Int))×(List Int)→aF:=fun (R,S,T,U,V,W,X,Y)=>⟨ah 46 [(1,.fn (.func cd) [] [.iptr k (.vs [.imm l (.cols c [.cb m,.cns .u64 n,.ci .i64 o]) 3 3 0 c]) 1 0 0,.iptr p (.vs [.int .i64 q,.int .i64 r,.imm s (.fl d) 1 1 0 (List.length d)]) 1 0 0,.iptr t (.vs [.imm u (.cols e [.cb v,.cns .u64 w,.ci .i64 x]) 3 3 0 e]) 1 0 0,.iptr y (.vs [.int .i64 z,.int .i64 A,.imm B (.fl f) 1 1 0 (List.length f)]) 1 0 0,.iptr C (.vs [.imm D (.cols g [.cb E,.cns .u64 F,.ci .i64 G]) 3 3 0 g]) 1 0 0,.iptr H (.vs [.int .i64 I,.int .i64 J,.imm K (.fl h) 1 1 0 (List.length h)]) 1 0 0,.iptr L (.vs [.imm M (.cols i [.cb N,.cns .u64 O,.ci .i64 P]) 3 3 0 i]) 1 0 0]),(2,.ptr 0 1 0 0),(4,.ptr 1 1 0 0),(6,.sl 2 3 3 0 R S),(7,.int .i64 ((T:Nat):Int)),(8,.int .i64 ((j:Nat):Int)),(13,.int .i64 a),(14,.int .i64 ((j:Nat):Int)),(18,.int .i64 b),(19,.int .i64 ((U:Nat):Int))],[(0,.vs [.int .i64 a,.int .i64 b]),(1,.vs [.bool false Q,.nsl,.int .i64 (0:Int)]),(2,.cols V [.cb W,.cns .u64 X,.ci .i64 Y])],3⟩
def iT(a:Int)(i:Int)(j:Lv)(k:Lv)(b:Nat)(l:List Bool)(m:List (List Int))(n:List Int)(o:Lv)(p:Int)(q:Int)(r:Lv)(c:List Nat)(s:Lv)(t:Lv)(d:Nat)(u:List Bool)(v:List (List Int))(w:List Int)(x:Lv)(y:Int)(z:Int)(A:Lv)(e:List Nat)(B:Lv)(C:Lv)(f:Nat)(D:List Bool)(E:List (List Int))(F:List Int)(G:Lv)(H:Int)(I:Int)(J:Lv)(g:List Nat)(K:Lv)(L:Lv)(h:Nat)(M:List Bool)(N:List (List Int))(O:List Int)(P:Bool)(Q:Nat) :Nat×Nat×Nat×Nat×(List Bool)×(List (List Int))×(List Int)→aF:=fun (R,S,T,U,V,W,X)=>⟨ah 46 [(1,.fn (.func cd) [] [.iptr j (.vs [.imm k (.cols b [.cb l,.cns .u64 m,.ci .i64 n]) 3 3 0 b]) 1 0 0,.iptr o (.vs [.int .i64 p,.int .i64 q,.imm r (.fl c) 1 1 0 (List.length c)]) 1 0 0,.iptr s (.vs [.imm t (.cols d [.cb u,.cns .u64 v,.ci .i64 w]) 3 3 0 d]) 1 0 0,.iptr x (.vs [.int .i64 y,.int .i64 z,.imm A (.fl e) 1 1 0 (List.length e)]) 1 0 0,.iptr B (.vs [.imm C (.cols f [.cb D,.cns .u64 E,.ci .i64 F]) 3 3 0 f]) 1 0 0,.iptr G (.vs [.int .i64 H,.int .i64 I,.imm J (.fl g) 1 1 0 (List.length g)]) 1 0 0,.iptr K (.vs [.imm L (.cols h [.cb M,.cns .u64 N,.ci .i64 O]) 3 3 0 h]) 1 0 0]),(2,.ptr 0 1 0 0),(4,.ptr 1 1 0 0),(6,.sl 2 3 3 0 R S),(7,.int .i64 ((T:Nat):Int)),(13,.int .i64 a),(14,.int .i64 ((Q:Nat):Int))],[(0,.vs [.int .i64 a,.int .i64 i]),(1,.vs [.bool false P,.nsl,.int .i64 (0:Int)]),(2,.cols U [.cb V,.cns .u64 W,.ci .i64 X])],3⟩
def n8:List Code:=cY (d7 ((((n5.drop 2).take 1)).headD .skip))
def n9(b:Int)(c:Int)(l:Lv)(m:Lv)(d:Nat)(n:List Bool)(o:List (List Int))(p:List Int)(q:Lv)(r:Int)(s:Int)(t:Lv)(e:List Nat)(u:Lv)(v:Lv)(f:Nat)(w:List Bool)(x:List (List Int))(y:List Int)(z:Lv)(A:Int)(B:Int)(C:Lv)(g:List Nat)(D:Lv)(E:Lv)(h:Nat)(F:List Bool)(G:List (List Int))(H:List Int)(I:Lv)(J:Int)(K:Int)(L:Lv)(i:List Nat)(M:Lv)(N:Lv)(j:Nat)(O:List Bool)(P:List (List Int))(Q:List Int)(R:Bool)(k:Nat)(S:Nat) :Nat×Nat×(List Bool)×(List (List Int))×(List Int)→aF:=fun (a,T,U,V,W)=>⟨ah 46 [(1,.fn (.func cd) [] [.iptr l (.vs [.imm m (.cols d [.cb n,.cns .u64 o,.ci .i64 p]) 3 3 0 d]) 1 0 0,.iptr q (.vs [.int .i64 r,.int .i64 s,.imm t (.fl e) 1 1 0 (List.length e)]) 1 0 0,.iptr u (.vs [.imm v (.cols f [.cb w,.cns .u64 x,.ci .i64 y]) 3 3 0 f]) 1 0 0,.iptr z (.vs [.int .i64 A,.int .i64 B,.imm C (.fl g) 1 1 0 (List.length g)]) 1 0 0,.iptr D (.vs [.imm E (.cols h [.cb F,.cns .u64 G,.ci .i64 H]) 3 3 0 h]) 1 0 0,.iptr I (.vs [.int .i64 J,.int .i64 K,.imm L (.fl i) 1 1 0 (List.length i)]) 1 0 0,.iptr M (.vs [.imm N (.cols j [.cb O,.cns .u64 P,.ci .i64 Q]) 3 3 0 j]) 1 0 0]),(2,.ptr 0 1 0 0),(4,.ptr 1 1 0 0),(6,.sl 2 3 3 0 a a),(7,.int .i64 ((T:Nat):Int)),(8,.int .i64 ((k:Nat):Int)),(13,.int .i64 b),(14,.int .i64 ((k:Nat):Int)),(18,.int .i64 c),(19,.int .i64 ((S:Nat):Int))],[(0,.vs [.int .i64 b,.int .i64 c]),(1,.vs [.bool false R,.nsl,.int .i64 (0:Int)]),(2,.cols a [.cb U,.cns .u64 V,.ci .i64 W])],3⟩
def di(E:Int)(a:Nat)(f:List Bool)(g:List (List Int))(h:List Int)(i:Int)(A:List Nat)(b:Nat)(j:List Bool)(k:List (List Int))(l:List Int)(m:Int)(B:List Nat)(c:Nat)(n:List Bool)(o:List (List Int))(p:List Int)(q:Int)(C:List Nat)(d:Nat)(r:List Bool)(s:List (List Int))(t:List Int)(u:Nat)(v:Nat)(D:Nat)(F:Nat)(e:Nat)(w:Nat)(x:List Bool)(y:List (List Int))(z:List Int) :T ((Nat×Nat×(List Bool)×(List (List Int))×(List Int))⊕((Nat×Nat×Nat×Nat×(List Bool)×(List (List Int))×(List Int))⊕((Nat×Nat×Nat×Nat×(List Bool)×(List (List Int))×(List Int))⊕((Nat×Nat×Nat×Nat×(List Bool)×(List (List Int))×(List Int))⊕(an))))) :=
  .ask (decide (((e:Nat):Int)<E))
    (.need (Nat.ble (0+a) a)<|.need (aP 0 (List.length A) A)<|.need (Nat.ble (0+b) b)<|.need (aP 0 (List.length B) B)<|.need (Nat.ble (0+c) c)<|.need (aP 0 (List.length C) C)<|.need (Nat.ble (0+d) d)<|.need (i8 (bK ((u:Nat):Int) ((e:Nat):Int) a (aa 0 a f) (aa 0 a g) (aa 0 a h) i b (aa 0 b j) (aa 0 b k) (aa 0 b l) m c (aa 0 c n) (aa 0 c o) (aa 0 c p) q d (aa 0 d r) (aa 0 d s) (aa 0 d t)))<|.ask ((((fF (bK ((u:Nat):Int) ((e:Nat):Int) a (aa 0 a f) (aa 0 a g) (aa 0 a h) i b (aa 0 b j) (aa 0 b k) (aa 0 b l) m c (aa 0 c n) (aa 0 c o) (aa 0 c p) q d (aa 0 d r) (aa 0 d s) (aa 0 d t))):Nat):Int) != (0:Int))
      (.leaf (.inr (.inr (.inr (.inl (v,D,(fF (bK ((u:Nat):Int) ((e:Nat):Int) a (aa 0 a f) (aa 0 a g) (aa 0 a h) i b (aa 0 b j) (aa 0 b k) (aa 0 b l) m c (aa 0 c n) (aa 0 c o) (aa 0 c p) q d (aa 0 d r) (aa 0 d s) (aa 0 d t))),w,x,y,z))))))
      (.need (qG ((v+1)*40) 140737488355328)<|.need (qG (v+1) 9223372036854775807)<|.need (qG 3 3)<|.need (qG v w)<|.need (decide ((ig (bK ((u:Nat):Int) ((e:Nat):Int) a (aa 0 a f) (aa 0 a g) (aa 0 a h) i b (aa 0 b j) (aa 0 b k) (aa 0 b l) m c (aa 0 c n) (aa 0 c o) (aa 0 c p) q d (aa 0 d r) (aa 0 d s) (aa 0 d t)))+(ii (bK ((u:Nat):Int) ((e:Nat):Int) a (aa 0 a f) (aa 0 a g) (aa 0 a h) i b (aa 0 b j) (aa 0 b k) (aa 0 b l) m c (aa 0 c n) (aa 0 c o) (aa 0 c p) q d (aa 0 d r) (aa 0 d s) (aa 0 d t)))≤List.length (ic (bK ((u:Nat):Int) ((e:Nat):Int) a (aa 0 a f) (aa 0 a g) (aa 0 a h) i b (aa 0 b j) (aa 0 b k) (aa 0 b l) m c (aa 0 c n) (aa 0 c o) (aa 0 c p) q d (aa 0 d r) (aa 0 d s) (aa 0 d t)))))<|.leaf (.inl ((v+1),(fF (bK ((u:Nat):Int) ((e:Nat):Int) a (aa 0 a f) (aa 0 a g) (aa 0 a h) i b (aa 0 b j) (aa 0 b k) (aa 0 b l) m c (aa 0 c n) (aa 0 c o) (aa 0 c p) q d (aa 0 d r) (aa 0 d s) (aa 0 d t))),((List.take v x)++[(jN (bK ((u:Nat):Int) ((e:Nat):Int) a (aa 0 a f) (aa 0 a g) (aa 0 a h) i b (aa 0 b j) (aa 0 b k) (aa 0 b l) m c (aa 0 c n) (aa 0 c o) (aa 0 c p) q d (aa 0 d r) (aa 0 d s) (aa 0 d t)))]),((List.take v y)++[(List.take (ii (bK ((u:Nat):Int) ((e:Nat):Int) a (aa 0 a f) (aa 0 a g) (aa 0 a h) i b (aa 0 b j) (aa 0 b k) (aa 0 b l) m c (aa 0 c n) (aa 0 c o) (aa 0 c p) q d (aa 0 d r) (aa 0 d s) (aa 0 d t))) (List.drop (ig (bK ((u:Nat):Int) ((e:Nat):Int) a (aa 0 a f) (aa 0 a g) (aa 0 a h) i b (aa 0 b j) (aa 0 b k) (aa 0 b l) m c (aa 0 c n) (aa 0 c o) (aa 0 c p) q d (aa 0 d r) (aa 0 d s) (aa 0 d t))) (ic (bK ((u:Nat):Int) ((e:Nat):Int) a (aa 0 a f) (aa 0 a g) (aa 0 a h) i b (aa 0 b j) (aa 0 b k) (aa 0 b l) m c (aa 0 c n) (aa 0 c o) (aa 0 c p) q d (aa 0 d r) (aa 0 d s) (aa 0 d t)))))]),((List.take v z)++[(jO (bK ((u:Nat):Int) ((e:Nat):Int) a (aa 0 a f) (aa 0 a g) (aa 0 a h) i b (aa 0 b j) (aa 0 b k) (aa 0 b l) m c (aa 0 c n) (aa 0 c o) (aa 0 c p) q d (aa 0 d r) (aa 0 d s) (aa 0 d t)))])))))
    (.leaf (.inr (.inl (v,D,F,w,x,y,z))))
def oa(b:Nat)(a:Nat)(c:Nat)(d:List Bool)(e:List (List Int))(f:List Int) :T ((Nat×Nat×Nat×Nat×Nat×(List Bool)×(List (List Int))×(List Int))⊕((Nat×Nat×Nat×Nat×(List Bool)×(List (List Int))×(List Int))⊕((Nat×Nat×Nat×Nat×(List Bool)×(List (List Int))×(List Int))⊕((Nat×Nat×Nat×Nat×(List Bool)×(List (List Int))×(List Int))⊕(an))))) :=
  .need (dI .i64 (((b+1):Nat):Int))<|.leaf (.inl (a,a,c,(b+1),a,d,e,f))
def eR(b:Int)(c:Nat)(d:List Bool)(e:List (List Int))(f:List Int)(g:Int)(h:List Nat)(i:Nat)(j:List Bool)(k:List (List Int))(l:List Int)(m:Int)(n:List Nat)(o:Nat)(p:List Bool)(q:List (List Int))(r:List Int)(s:Int)(t:List Nat)(u:Nat)(v:List Bool)(w:List (List Int))(x:List Int)(y:Nat) :Nat×Nat×Nat×Nat×Nat×(List Bool)×(List (List Int))×(List Int)→Option ((Nat×Nat×Nat×Nat×Nat×(List Bool)×(List (List Int))×(List Int))⊕((Nat×Nat×Nat×Nat×(List Bool)×(List (List Int))×(List Int))⊕((Nat×Nat×Nat×Nat×(List Bool)×(List (List Int))×(List Int))⊕((Nat×Nat×Nat×Nat×(List Bool)×(List (List Int))×(List Int))⊕(an))))):=fun (z,A,B,a,C,D,E,F) =>
  aC ((di b c d e f g h i j k l m n o p q r s t u v w x y z A B a C D E F).run) fun (G,H,I,J,K) =>
  (oa a G H I J K).run
theorem oc(z:Int)(a:Int)(A:Lv)(B:Lv)(b:Nat)(c:List Bool)(d:List (List Int))(e:List Int)(C:Lv)(D:Int)(f:Int)(E:Lv)(g:List Nat)(F:Lv)(G:Lv)(h:Nat)(i:List Bool)(j:List (List Int))(k:List Int)(H:Lv)(I:Int)(l:Int)(J:Lv)(m:List Nat)(K:Lv)(L:Lv)(n:Nat)(o:List Bool)(p:List (List Int))(q:List Int)(M:Lv)(N:Int)(r:Int)(O:Lv)(s:List Nat)(P:Lv)(Q:Lv)(t:Nat)(u:List Bool)(v:List (List Int))(w:List Int)(x:Bool)(y:Nat)(S:Nat)(T:Nat)(U:Nat)(R:Nat)(V:Nat)(W:List Bool)(X:List (List Int))(Y:List Int) :Sg prog [] n8 (eQ z a A B b c d e C D f E g F G h i j k H I l J m K L n o p q M N r O s P Q t u v w x y (S,T,U,R,V,W,X,Y)) (eR a b c d e f g h i j k l m n o p q r s t u v w y (S,T,U,R,V,W,X,Y)) (eQ z a A B b c d e C D f E g F G h i j k H I l J m K L n o p q M N r O s P Q t u v w x y) (dH 2 (iT z a A B b c d e C D f E g F G h i j k H I l J m K L n o p q M N r O s P Q t u v w x y) (dH 1 (iS z a A B b c d e C D f E g F G h i j k H I l J m K L n o p q M N r O s P Q t u v w x y) (dH 0 (eO x) cI))):=by
  unfold eR;exact Sg.cut 3 (bB (bB (bB aH))) (bo ca (n9 z a A B b c d e C D f E g F G h i j k H I l J m K L n o p q M N r O s P Q t u v w x y R) [⟨[],[1,2],[4,6,7]⟩,⟨[],[0,1,323],[1,2,4,6,7,8,13,14,18,19]⟩,⟨[],[0,1,2],[1,2,4,6,7,13,14]⟩]) (fun ⟨Z,a0,a1,a2,a3⟩=>bo ca _ [⟨[],[0,1,2],[1,2,4,6,7,8,13,14,18,19]⟩])
def od(a:Nat)(b:Nat)(c:Nat)(d:Nat)(e:List Bool)(f:List (List Int))(g:List Int) :T ((Nat×Nat×Nat×Nat×(List Bool)×(List (List Int))×(List Int))⊕((Nat×Nat×Nat×Nat×(List Bool)×(List (List Int))×(List Int))⊕((Nat×Nat×Nat×Nat×(List Bool)×(List (List Int))×(List Int))⊕(an)))) :=
  .leaf (.inl (a,b,c,d,e,f,g))
def oe(a:Nat)(b:Nat)(c:Nat)(d:Nat)(e:Nat)(f:List Bool)(g:List (List Int))(h:List Int) :T ((Nat×Nat×Nat×Nat×Nat×(List Bool)×(List (List Int))×(List Int))⊕((Nat×Nat×Nat×Nat×(List Bool)×(List (List Int))×(List Int))⊕(an))) :=
  .need (dI .i64 (((a+1):Nat):Int))<|.leaf (.inl (b,c,d,(a+1),e,f,g,h))
def eS(i:Int)(j:Int)(k:Nat)(l:List Bool)(m:List (List Int))(n:List Int)(o:Int)(p:List Nat)(q:Nat)(r:List Bool)(s:List (List Int))(t:List Int)(u:Int)(v:List Nat)(w:Nat)(x:List Bool)(y:List (List Int))(z:List Int)(A:Int)(B:List Nat)(C:Nat)(D:List Bool)(E:List (List Int))(F:List Int) :Nat×Nat×Nat×Nat×Nat×(List Bool)×(List (List Int))×(List Int)→Option ((Nat×Nat×Nat×Nat×Nat×(List Bool)×(List (List Int))×(List Int))⊕((Nat×Nat×Nat×Nat×(List Bool)×(List (List Int))×(List Int))⊕(an))):=fun (b,c,d,a,e,f,g,h) =>
  aC ((eP i b c d a e f g h).run) fun _ =>
  aC (LA (aC ((n7).run) fun _ =>
  aC (df (eR j k l m n o p q r s t u v w x y z A B C D E F a) (b,c,d,0,e,f,g,h)) fun (G,H,I,J,K,L,M) =>
  (od G H I J K L M).run)) fun (N,O,P,Q,R,S,T) =>
  (oe a N O P Q R S T).run
theorem og(a:Int)(b:Int)(z:Lv)(A:Lv)(c:Nat)(d:List Bool)(e:List (List Int))(f:List Int)(B:Lv)(C:Int)(g:Int)(D:Lv)(h:List Nat)(E:Lv)(F:Lv)(i:Nat)(j:List Bool)(k:List (List Int))(l:List Int)(G:Lv)(H:Int)(m:Int)(I:Lv)(n:List Nat)(J:Lv)(K:Lv)(o:Nat)(p:List Bool)(q:List (List Int))(r:List Int)(L:Lv)(M:Int)(s:Int)(N:Lv)(t:List Nat)(O:Lv)(P:Lv)(u:Nat)(v:List Bool)(w:List (List Int))(x:List Int)(y:Bool)(R:Nat)(S:Nat)(T:Nat)(Q:Nat)(U:Nat)(V:List Bool)(W:List (List Int))(X:List Int) :Sg prog [] iR (eN a b z A c d e f B C g D h E F i j k l G H m I n J K o p q r L M s N t O P u v w x y (R,S,T,Q,U,V,W,X)) (eS a b c d e f g h i j k l m n o p q r s t u v w x (R,S,T,Q,U,V,W,X)) (eN a b z A c d e f B C g D h E F i j k l G H m I n J K o p q r L M s N t O P u v w x y) (dH 0 (eO y) cI):=by
  unfold eS;exact Sg.cut 2 (bB aH) (bo ca (n4 a b z A c d e f B C g D h E F i j k l G H m I n J K o p q r L M s N t O P u v w x y R S T Q U V W X) [⟨[],[0,1,2],[1,2,4,6,7,13,14]⟩,⟨[],[1,2],[4,6,7]⟩]) (fun _=>Sg.cut 1 (bB aH) (sgb (iS a b z A c d e f B C g D h E F i j k l G H m I n J K o p q r L M s N t O P u v w x y Q) 1 (bB aH) (ux (by decide) (fp _)) (Sg.cut 2 (bB (bB aH)) (bo ca (n6 a b z A c d e f B C g D h E F i j k l G H m I n J K o p q r L M s N t O P u v w x y R S T Q U V W X) [⟨[],[0,1,2],[1,2,4,6,7,8,13,14,18,19]⟩]) (fun _=>Sg.cut 1 (bB (bB aH)) (Ej ⟨[],[0,1,2],[1,2,4,6,7,8,13,14,18,19]⟩ (eQ a b z A c d e f B C g D h E F i j k l G H m I n J K o p q r L M s N t O P u v w x y Q) (iT a b z A c d e f B C g D h E F i j k l G H m I n J K o p q r L M s N t O P u v w x y Q) 2 (bB (bB aH)) (ux (by decide) (ux (by decide) (fp _))) (fun ⟨Y,Z,a0,a1,a2,a3,a4,a5⟩=>oc a b z A c d e f B C g D h E F i j k l G H m I n J K o p q r L M s N t O P u v w x y Q Y Z a0 a1 a2 a3 a4 a5)) (fun ⟨a6,a7,a8,a9,b0,b2,b3⟩=>bo ca _ [⟨[],[0,1,2],[1,2,4,6,7,13,14]⟩])))) (fun ⟨b4,b5,b6,b7,b8,b9,c0⟩=>bo ca _ [⟨[],[0,1,2],[1,2,4,6,7,13,14]⟩]))
def oh:Nat×Bool×(List Int)×Nat×Nat×Int→aF:=fun (a,b,c,d,e,f)=>⟨ah 46 [(4,.ptr 0 1 0 0),(5,.int .i64 ((a:Nat):Int))],[(0,.vs [.bool false b,.imm .free (.ns .u64 c) 1 1 d e,.int .i64 f])],1⟩
def eT(a:Nat)(e:Nat)(f:Nat)(b:List Bool)(c:List (List Int))(d:List Int) :T ((Nat×Bool×(List Int)×Nat×Nat×Int)⊕(an)) :=
  .ask (((e:Nat):Int) != (0:Int))
    (.leaf (.inr (.r0 e false ([]:List Int) 0 0 (0:Int))))
    (.need (Nat.ble (0+a) f)<|.need (jp (bk a (aa 0 a b) (aa 0 a c) (aa 0 a d)))<|.leaf (.inl ((jG (bk a (aa 0 a b) (aa 0 a c) (aa 0 a d))),(jH (bk a (aa 0 a b) (aa 0 a c) (aa 0 a d))),(jI (bk a (aa 0 a b) (aa 0 a c) (aa 0 a d))),(jJ (bk a (aa 0 a b) (aa 0 a c) (aa 0 a d))),(jK (bk a (aa 0 a b) (aa 0 a c) (aa 0 a d))),(jL (bk a (aa 0 a b) (aa 0 a c) (aa 0 a d))))))
def oi(a:Nat)(b:Bool)(c:List Int)(d:Nat)(e:Nat)(f:Int) :T ((Empty)⊕(an)) :=
  .leaf (.inr (.r0 a b c d e f))
def bg(a:Int)(b:Int)(c:Nat)(d:List Bool)(e:List (List Int))(f:List Int)(g:Int)(h:List Nat)(i:Nat)(j:List Bool)(k:List (List Int))(l:List Int)(m:Int)(n:List Nat)(o:Nat)(p:List Bool)(q:List (List Int))(r:List Int)(s:Int)(t:List Nat)(u:Nat)(v:List Bool)(w:List (List Int))(x:List Int) :Option an:=lB (aC ((nX).run) fun K =>
  aC ((nZ).run) fun _ =>
  aC (df (eS a b c d e f g h i j k l m n o p q r s t u v w x) (0,0,0,0,0,([]:List Bool),([]:List (List Int)),([]:List Int))) fun (y,L,z,A,B,C,D) =>
  aC ((eT y z A B C D).run) fun (E,F,G,H,I,J) =>
  (oi E F G H I J).run)
theorem ph(i:Int)(j:Int)(A:Lv)(B:Lv)(a:Nat)(k:List Bool)(l:List (List Int))(m:List Int)(C:Lv)(D:Int)(n:Int)(E:Lv)(b:List Nat)(F:Lv)(G:Lv)(c:Nat)(o:List Bool)(p:List (List Int))(q:List Int)(H:Lv)(I:Int)(r:Int)(J:Lv)(d:List Nat)(K:Lv)(L:Lv)(e:Nat)(s:List Bool)(t:List (List Int))(u:List Int)(M:Lv)(N:Int)(v:Int)(O:Lv)(f:List Nat)(P:Lv)(Q:Lv)(g:Nat)(w:List Bool)(y:List (List Int))(z:List Int){x:an}(h:bg i j a k l m n b c o p q r d e s t u v f g w y z=some x) :aj prog i4 [] [.agg [.int .i64 i,.int .i64 j],.fn (.func cd) [] [.iptr A (.vs [.imm B (.cols a [.cb k,.cns .u64 l,.ci .i64 m]) 3 3 0 a]) 1 0 0,.iptr C (.vs [.int .i64 D,.int .i64 n,.imm E (.fl b) 1 1 0 (List.length b)]) 1 0 0,.iptr F (.vs [.imm G (.cols c [.cb o,.cns .u64 p,.ci .i64 q]) 3 3 0 c]) 1 0 0,.iptr H (.vs [.int .i64 I,.int .i64 r,.imm J (.fl d) 1 1 0 (List.length d)]) 1 0 0,.iptr K (.vs [.imm L (.cols e [.cb s,.cns .u64 t,.ci .i64 u]) 3 3 0 e]) 1 0 0,.iptr M (.vs [.int .i64 N,.int .i64 v,.imm O (.fl f) 1 1 0 (List.length f)]) 1 0 0,.iptr P (.vs [.imm Q (.cols g [.cb w,.cns .u64 y,.ci .i64 z]) 3 3 0 g]) 1 0 0]] (fI x) :=
  lO true fI cI h (Sg.cut 1 aH (bo ca (pf i j A B a k l m C D n E b F G c o p q H I r J d K L e s t u M N v O f P Q g w y z) [⟨[],[0,16],[1,2,4]⟩]) (fun R=>Ee (by kernel_rfl:(eL.drop 1)=[.scope (Co (((eL.drop 1)).headD .skip))]) aH (Sg.cut 3 aH (bo ca (pg i j A B a k l m C D n E b F G c o p q H I r J d K L e s t u M N v O f P Q g w y z R) [⟨[],[0,1],[1,2,4,6,7,13,14]⟩]) (fun _=>Sg.cut 1 aH (Ej ⟨[(.slot 6,.own 3 3 (.cols 0 [.cb ([]:List Bool),.cns .u64 ([]:List (List Int)),.ci .i64 ([]:List Int)]))],[0,1,2],[1,2,4,6,7,13,14]⟩ (eN i j A B a k l m C D n E b F G c o p q H I r J d K L e s t u M N v O f P Q g w y z R) (eO R) 0 aH (fp _) (fun ⟨S,T,U,V,W,X,Y,Z⟩=>og i j A B a k l m C D n E b F G c o p q H I r J d K L e s t u M N v O f P Q g w y z R S T U V W X Y Z)) (fun ⟨a6,a7,a8,a9,b0,b2,b3⟩=>Sg.cut 3 aH (bo ca oh [⟨[(.cell 0 1,.fre 1 1 (.ns .u64 ([]:List Int)))],[0],[4,5]⟩,⟨[],[0],[4,5]⟩]) (fun ⟨b4,b5,b6,b7,b8,b9⟩=>bo ca _ [⟨[],[0],[4,5]⟩]))))))
    (fun x=>by cases x with | r0 a0 a1 a2 a3 a4 a5=>exact lC [.agg [.bool false a1,.imm .free (.ns .u64 a2) 1 1 a3 a4,.int .i64 a5],.int .i64 ((a0:Nat):Int)])
def dn:Option an→Bool
  | some _=>true
  | none=>false
def ef:Option an→Nat
  | some (.r0 x _ _ _ _ _)=>x
  | _=>0
def eh:Option an→Bool
  | some (.r0 _ x _ _ _ _)=>x
  | _=>false
def ei:Option an→List Int
  | some (.r0 _ _ x _ _ _)=>x
  | _=>[]
def ej:Option an→Nat
  | some (.r0 _ _ _ x _ _)=>x
  | _=>0
def er:Option an→Nat
  | some (.r0 _ _ _ _ x _)=>x
  | _=>0
def eu:Option an→Int
  | some (.r0 _ _ _ _ _ x)=>x
  | _=>0
theorem pj{x:Option an}(h:dn x=true) :x=some (.r0 (ef x) (eh x) (ei x) (ej x) (er x) (eu x)):=by
  unfold dn at h
  split at h<;>first | rfl | (cases h;done) | (rename_i y;cases y;rfl)
def jf:aE:=bT i4 (.cons (.agg (.cons (.int .i64) (.cons (.int .i64) .nil))) (.cons (.fn cd .nil (.cons (.ivs (.cons (.cols [.cb,.cns .u64,.ci .i64]) .nil) 1 0 0) (.cons (.ivs (.cons (.int .i64) (.cons (.int .i64) (.cons .fl .nil))) 1 0 0) (.cons (.ivs (.cons (.cols [.cb,.cns .u64,.ci .i64]) .nil) 1 0 0) (.cons (.ivs (.cons (.int .i64) (.cons (.int .i64) (.cons .fl .nil))) 1 0 0) (.cons (.ivs (.cons (.cols [.cb,.cns .u64,.ci .i64]) .nil) 1 0 0) (.cons (.ivs (.cons (.int .i64) (.cons (.int .i64) (.cons .fl .nil))) 1 0 0) (.cons (.ivs (.cons (.cols [.cb,.cns .u64,.ci .i64]) .nil) 1 0 0) .nil)))))))) .nil)) fun t=>(fun q=>[⟨fI (.r0 (ef q) (eh q) (ei q) (ej q) (er q) (eu q)),[dn q]⟩]) (bg t.1.1 t.1.2.1 t.2.1.2.1.2.1.2.1 t.2.1.2.1.2.1.2.2.1 t.2.1.2.1.2.1.2.2.2.1 t.2.1.2.1.2.1.2.2.2.2.1 t.2.1.2.2.1.2.2.1 t.2.1.2.2.1.2.2.2.1.2 t.2.1.2.2.2.1.2.1.2.1 t.2.1.2.2.2.1.2.1.2.2.1 t.2.1.2.2.2.1.2.1.2.2.2.1 t.2.1.2.2.2.1.2.1.2.2.2.2.1 t.2.1.2.2.2.2.1.2.2.1 t.2.1.2.2.2.2.1.2.2.2.1.2 t.2.1.2.2.2.2.2.1.2.1.2.1 t.2.1.2.2.2.2.2.1.2.1.2.2.1 t.2.1.2.2.2.2.2.1.2.1.2.2.2.1 t.2.1.2.2.2.2.2.1.2.1.2.2.2.2.1 t.2.1.2.2.2.2.2.2.1.2.2.1 t.2.1.2.2.2.2.2.2.1.2.2.2.1.2 t.2.1.2.2.2.2.2.2.2.1.2.1.2.1 t.2.1.2.2.2.2.2.2.2.1.2.1.2.2.1 t.2.1.2.2.2.2.2.2.2.1.2.1.2.2.2.1 t.2.1.2.2.2.2.2.2.2.1.2.1.2.2.2.2.1)
theorem nc:aO prog jf:=aJ fun t=>(aK (fun h=>ph t.1.1 t.1.2.1 t.2.1.2.1.1 t.2.1.2.1.2.1.1 t.2.1.2.1.2.1.2.1 t.2.1.2.1.2.1.2.2.1 t.2.1.2.1.2.1.2.2.2.1 t.2.1.2.1.2.1.2.2.2.2.1 t.2.1.2.2.1.1 t.2.1.2.2.1.2.1 t.2.1.2.2.1.2.2.1 t.2.1.2.2.1.2.2.2.1.1 t.2.1.2.2.1.2.2.2.1.2 t.2.1.2.2.2.1.1 t.2.1.2.2.2.1.2.1.1 t.2.1.2.2.2.1.2.1.2.1 t.2.1.2.2.2.1.2.1.2.2.1 t.2.1.2.2.2.1.2.1.2.2.2.1 t.2.1.2.2.2.1.2.1.2.2.2.2.1 t.2.1.2.2.2.2.1.1 t.2.1.2.2.2.2.1.2.1 t.2.1.2.2.2.2.1.2.2.1 t.2.1.2.2.2.2.1.2.2.2.1.1 t.2.1.2.2.2.2.1.2.2.2.1.2 t.2.1.2.2.2.2.2.1.1 t.2.1.2.2.2.2.2.1.2.1.1 t.2.1.2.2.2.2.2.1.2.1.2.1 t.2.1.2.2.2.2.2.1.2.1.2.2.1 t.2.1.2.2.2.2.2.1.2.1.2.2.2.1 t.2.1.2.2.2.2.2.1.2.1.2.2.2.2.1 t.2.1.2.2.2.2.2.2.1.1 t.2.1.2.2.2.2.2.2.1.2.1 t.2.1.2.2.2.2.2.2.1.2.2.1 t.2.1.2.2.2.2.2.2.1.2.2.2.1.1 t.2.1.2.2.2.2.2.2.1.2.2.2.1.2 t.2.1.2.2.2.2.2.2.2.1.1 t.2.1.2.2.2.2.2.2.2.1.2.1.1 t.2.1.2.2.2.2.2.2.2.1.2.1.2.1 t.2.1.2.2.2.2.2.2.2.1.2.1.2.2.1 t.2.1.2.2.2.2.2.2.2.1.2.1.2.2.2.1 t.2.1.2.2.2.2.2.2.2.1.2.1.2.2.2.2.1 (pj h)) bb)
def jg:List aE:=jf::ww
theorem cq:bc prog (bh jg):=ap nc ca
inductive bW where
  | r0 (a:Nat) (b:Bool) (c:List Int) (d:Nat) (e:Nat) (f:Int)
def Ad:bW→AE×aF
  | .r0 a b c d e f=>(.ret,⟨ah 78 [(8,.ptr 0 1 0 0),(9,.int .i64 ((a:Nat):Int))],[(0,.vs [.bool false b,.imm .free (.ns .u64 c) 1 1 d e,.int .i64 f])],1⟩)
theorem rJ:j9 Ad:=by intro x;cases x<;>(intro h;cases h)
def ti:bW→iK
  | .r0 a b c d e f=>⟨.tup [.agg [.bool false b,.imm .free (.ns .u64 c) 1 1 d e,.int .i64 f],.int .i64 ((a:Nat):Int)],[]⟩
def Ih(e:Int)(f:Int)(g:Lv)(a:List Nat)(h:Int)(i:Int)(j:Lv)(b:List Nat)(k:Int)(l:Int)(m:Lv)(c:List Nat)(n:Lv)(d:List Nat)(o:Bool) :aF:=⟨ah 78 [(3,.imm n (.fl d) 1 1 0 (List.length d)),(4,.ptr 0 1 0 0),(5,.ptr 1 1 0 0),(6,.ptr 2 1 0 0),(8,.ptr 3 1 0 0)],[(0,.vs [.int .i64 e,.int .i64 f,.imm g (.fl a) 1 1 0 (List.length a)]),(1,.vs [.int .i64 h,.int .i64 i,.imm j (.fl b) 1 1 0 (List.length b)]),(2,.vs [.int .i64 k,.int .i64 l,.imm m (.fl c) 1 1 0 (List.length c)]),(3,.vs [.bool false o,.nsl,.int .i64 (0:Int)])],4⟩
def x9(f : Int)(g : Int)(a : List Nat)(h : Int)(e : Int)(b : List Nat)(i : Int)(j : Int)(c : List Nat)(d : List Nat) : T ((Bool) ⊕ (bW)) :=
  .ask (decide ((0 : Int) < (3 : Int)))
    (.need (gA (0 : Int) 3) <| .need (aP 0 (List.length a) a) <| .need (fK (cM f g (aa 0 (List.length a) a))) <| .ask (fg (cM f g (aa 0 (List.length a) a)))
      (.ask (!(!(decide ((0:Int)≥(0:Int)))))
        (.leaf (.inr (.r0 2 false ([]:List Int) 0 0 (0:Int))))
        (.fail))
      (.need (dI .i64 (1 : Int)) <| .ask (decide ((1 : Int) < (3 : Int)))
        (.need (gA (1 : Int) 3) <| .need (aP 0 (List.length b) b) <| .need (fK (cM h e (aa 0 (List.length b) b))) <| .ask (fg (cM h e (aa 0 (List.length b) b)))
          (.ask (!(!(decide ((1:Int)≥(0:Int)))))
            (.leaf (.inr (.r0 2 false ([]:List Int) 0 0 (0:Int))))
            (.fail))
          (.need (dI .i64 (2 : Int)) <| .ask (decide ((2 : Int) < (3 : Int)))
            (.need (gA (2 : Int) 3) <| .need (aP 0 (List.length c) c) <| .need (fK (cM i j (aa 0 (List.length c) c))) <| .ask (fg (cM i j (aa 0 (List.length c) c)))
              (.ask (!(!(decide ((2:Int)≥(0:Int)))))
                (.leaf (.inr (.r0 2 false ([]:List Int) 0 0 (0:Int))))
                (.fail))
              (.need (dI .i64 (3:Int))<|.ask (decide ((3:Int)<(3:Int)))
                (.fail)
                (.ask (!(!(decide ((-1:Int)≥(0:Int)))))
                  (.fail)
                  (.ask (!(h == g && e == e))
                    (.leaf (.inr (.r0 8 false ([]:List Int) 0 0 (0:Int))))
                    (.ask (!(i == f && j == e))
                      (.leaf (.inr (.r0 8 false ([]:List Int) 0 0 (0:Int))))
                      (.ask ((((List.length d):Nat):Int) != e)
                        (.leaf (.inr (.r0 8 false ([]:List Int) 0 0 (0:Int))))
                        (.ask (decide ((0:Int)<(4:Int)))
                          (.need (gA (0 : Int) 4) <| .need (aP 0 (List.length a) a) <| .need (aI (ao (aa 0 (List.length a) a))) <| .ask (decide ((aL (ao (aa 0 (List.length a) a))) ≥ (0 : Int)))
                            (.leaf (.inr (.r0 10 false ([]:List Int) 0 0 (0:Int))))
                            (.need (dI .i64 (1:Int))<|.ask (decide ((1:Int)<(4:Int)))
                              (.need (gA (1:Int) 4)<|.need (aP 0 (List.length b) b)<|.need (aI (ao (aa 0 (List.length b) b)))<|.ask (decide ((aL (ao (aa 0 (List.length b) b)))≥(0:Int)))
                                (.leaf (.inr (.r0 10 false ([]:List Int) 0 0 (0:Int))))
                                (.need (dI .i64 (2:Int))<|.ask (decide ((2:Int)<(4:Int)))
                                  (.need (gA (2:Int) 4)<|.need (aP 0 (List.length c) c)<|.need (aI (ao (aa 0 (List.length c) c)))<|.ask (decide ((aL (ao (aa 0 (List.length c) c)))≥(0:Int)))
                                    (.leaf (.inr (.r0 10 false ([]:List Int) 0 0 (0:Int))))
                                    (.need (dI .i64 (3:Int))<|.ask (decide ((3:Int)<(4:Int)))
                                      (.need (gA (3:Int) 4)<|.need (aP 0 (List.length d) d)<|.need (aI (ao (aa 0 (List.length d) d)))<|.ask (decide ((aL (ao (aa 0 (List.length d) d)))≥(0:Int)))
                                        (.leaf (.inr (.r0 10 false ([]:List Int) 0 0 (0:Int))))
                                        (.need (dI .i64 (4:Int))<|.ask (decide ((4:Int)<(4:Int)))
                                          (.fail)
                                          (.leaf (.inl false))))
                                      (.fail)))
                                  (.fail)))
                              (.fail)))
                          (.fail))))))))
            (.fail)))
        (.fail)))
    (.fail)
def Ii(h:Int)(i:Int)(j:Lv)(a:List Nat)(k:Int)(l:Int)(m:Lv)(b:List Nat)(n:Int)(o:Int)(p:Lv)(c:List Nat)(q:Bool) :Nat×(List Bool)×(List (List Int))×(List Int)×Nat×(List Bool)×(List (List Int))×(List Int)×Nat×(List Bool)×(List (List Int))×(List Int)×Nat×(List Bool)×(List (List Int))×(List Int)→aF:=fun (d,r,s,t,e,u,v,w,f,x,y,z,g,A,B,C)=>⟨ah 78 [(4,.ptr 0 1 0 0),(5,.ptr 1 1 0 0),(6,.ptr 2 1 0 0),(8,.ptr 3 1 0 0),(10,.ptr 4 1 0 0),(11,.ptr 5 1 0 0),(12,.ptr 6 1 0 0),(13,.ptr 7 1 0 0)],[(0,.vs [.int .i64 h,.int .i64 i,.imm j (.fl a) 1 1 0 (List.length a)]),(1,.vs [.int .i64 k,.int .i64 l,.imm m (.fl b) 1 1 0 (List.length b)]),(2,.vs [.int .i64 n,.int .i64 o,.imm p (.fl c) 1 1 0 (List.length c)]),(3,.vs [.bool false q,.nsl,.int .i64 (0:Int)]),(4,.vs [.imm .free (.cols d [.cb r,.cns .u64 s,.ci .i64 t]) 3 3 0 d]),(5,.vs [.imm .free (.cols e [.cb u,.cns .u64 v,.ci .i64 w]) 3 3 0 e]),(6,.vs [.imm .free (.cols f [.cb x,.cns .u64 y,.ci .i64 z]) 3 3 0 f]),(7,.vs [.imm .free (.cols g [.cb A,.cns .u64 B,.ci .i64 C]) 3 3 0 g])],8⟩
def rK(a:List Nat)(b:List Nat)(c:List Nat)(d:List Nat) :T ((Nat×(List Bool)×(List (List Int))×(List Int)×Nat×(List Bool)×(List (List Int))×(List Int)×Nat×(List Bool)×(List (List Int))×(List Int)×Nat×(List Bool)×(List (List Int))×(List Int))⊕(bW)) :=
  .need (aP 0 (List.length a) a)<|.need (fL (am (aa 0 (List.length a) a)))<|.need (aP 0 (List.length b) b)<|.need (fL (am (aa 0 (List.length b) b)))<|.need (aP 0 (List.length c) c)<|.need (fL (am (aa 0 (List.length c) c)))<|.need (aP 0 (List.length d) d)<|.need (fL (am (aa 0 (List.length d) d)))<|.leaf (.inl ((aD (am (aa 0 (List.length a) a))),(cj (am (aa 0 (List.length a) a))),(ck (am (aa 0 (List.length a) a))),(cm (am (aa 0 (List.length a) a))),(aD (am (aa 0 (List.length b) b))),(cj (am (aa 0 (List.length b) b))),(ck (am (aa 0 (List.length b) b))),(cm (am (aa 0 (List.length b) b))),(aD (am (aa 0 (List.length c) c))),(cj (am (aa 0 (List.length c) c))),(ck (am (aa 0 (List.length c) c))),(cm (am (aa 0 (List.length c) c))),(aD (am (aa 0 (List.length d) d))),(cj (am (aa 0 (List.length d) d))),(ck (am (aa 0 (List.length d) d))),(cm (am (aa 0 (List.length d) d)))))
def Ij:Nat×Bool×(List Int)×Nat×Nat×Int→aF:=fun (a,b,c,d,e,f)=>⟨ah 78 [(8,.ptr 0 1 0 0),(9,.int .i64 ((a:Nat):Int))],[(0,.vs [.bool false b,.imm .free (.ns .u64 c) 1 1 d e,.int .i64 f])],1⟩
def rL(i:Int)(e:List Nat)(j:Int)(f:List Nat)(k:Int)(h:Int)(g:List Nat)(a:Nat)(l:List Bool)(m:List (List Int))(n:List Int)(b:Nat)(o:List Bool)(p:List (List Int))(q:List Int)(c:Nat)(r:List Bool)(s:List (List Int))(t:List Int)(d:Nat)(u:List Bool)(v:List (List Int))(w:List Int) :T ((Nat×Bool×(List Int)×Nat×Nat×Int)⊕(bW)) :=
  .need (Nat.ble (0+a) a)<|.need (aP 0 (List.length e) e)<|.need (Nat.ble (0+b) b)<|.need (aP 0 (List.length f) f)<|.need (Nat.ble (0+c) c)<|.need (aP 0 (List.length g) g)<|.need (Nat.ble (0+d) d)<|.need (dn (bg k h a (aa 0 a l) (aa 0 a m) (aa 0 a n) i (aa 0 (List.length e) e) b (aa 0 b o) (aa 0 b p) (aa 0 b q) j (aa 0 (List.length f) f) c (aa 0 c r) (aa 0 c s) (aa 0 c t) h (aa 0 (List.length g) g) d (aa 0 d u) (aa 0 d v) (aa 0 d w)))<|.leaf (.inl ((ef (bg k h a (aa 0 a l) (aa 0 a m) (aa 0 a n) i (aa 0 (List.length e) e) b (aa 0 b o) (aa 0 b p) (aa 0 b q) j (aa 0 (List.length f) f) c (aa 0 c r) (aa 0 c s) (aa 0 c t) h (aa 0 (List.length g) g) d (aa 0 d u) (aa 0 d v) (aa 0 d w))),(eh (bg k h a (aa 0 a l) (aa 0 a m) (aa 0 a n) i (aa 0 (List.length e) e) b (aa 0 b o) (aa 0 b p) (aa 0 b q) j (aa 0 (List.length f) f) c (aa 0 c r) (aa 0 c s) (aa 0 c t) h (aa 0 (List.length g) g) d (aa 0 d u) (aa 0 d v) (aa 0 d w))),(ei (bg k h a (aa 0 a l) (aa 0 a m) (aa 0 a n) i (aa 0 (List.length e) e) b (aa 0 b o) (aa 0 b p) (aa 0 b q) j (aa 0 (List.length f) f) c (aa 0 c r) (aa 0 c s) (aa 0 c t) h (aa 0 (List.length g) g) d (aa 0 d u) (aa 0 d v) (aa 0 d w))),(ej (bg k h a (aa 0 a l) (aa 0 a m) (aa 0 a n) i (aa 0 (List.length e) e) b (aa 0 b o) (aa 0 b p) (aa 0 b q) j (aa 0 (List.length f) f) c (aa 0 c r) (aa 0 c s) (aa 0 c t) h (aa 0 (List.length g) g) d (aa 0 d u) (aa 0 d v) (aa 0 d w))),(er (bg k h a (aa 0 a l) (aa 0 a m) (aa 0 a n) i (aa 0 (List.length e) e) b (aa 0 b o) (aa 0 b p) (aa 0 b q) j (aa 0 (List.length f) f) c (aa 0 c r) (aa 0 c s) (aa 0 c t) h (aa 0 (List.length g) g) d (aa 0 d u) (aa 0 d v) (aa 0 d w))),(eu (bg k h a (aa 0 a l) (aa 0 a m) (aa 0 a n) i (aa 0 (List.length e) e) b (aa 0 b o) (aa 0 b p) (aa 0 b q) j (aa 0 (List.length f) f) c (aa 0 c r) (aa 0 c s) (aa 0 c t) h (aa 0 (List.length g) g) d (aa 0 d u) (aa 0 d v) (aa 0 d w)))))
def Ik(a:Nat)(b:Bool)(c:List Int)(d:Nat)(e:Nat)(f:Int) :T ((Empty)⊕(bW)) :=
  .leaf (.inr (.r0 a b c d e f))
def dU(i:Int)(d:Int)(a:List Nat)(j:Int)(e:Int)(b:List Nat)(f:Int)(g:Int)(c:List Nat)(h:List Nat) :Option bW:=lB (aC ((x9 i d a j e b f g c h).run) fun G =>
  aC ((rK a b c h).run) fun (k,l,m,n,o,p,q,r,s,t,u,v,w,x,y,z) =>
  aC ((rL d a e b f g c k l m n o p q r s t u v w x y z).run) fun (A,B,C,D,E,F) =>
  (Ik A B C D E F).run)
theorem Il(d:Int)(e:Int)(l:Lv)(a:List Nat)(f:Int)(g:Int)(m:Lv)(b:List Nat)(i:Int)(j:Int)(n:Lv)(c:List Nat)(o:Lv)(k:List Nat){x:bW}(h:dU d e a f g b i j c k=some x) :aj prog sV [] [.agg [.int .i64 d,.int .i64 e,.imm l (.fl a) 1 1 0 (List.length a)],.agg [.int .i64 f,.int .i64 g,.imm m (.fl b) 1 1 0 (List.length b)],.agg [.int .i64 i,.int .i64 j,.imm n (.fl c) 1 1 0 (List.length c)],.imm o (.fl k) 1 1 0 (List.length k)] (ti x) :=
  lO true ti Ad h (Sg.cut 2 rJ (bo cq (Ih d e l a f g m b i j n c o k) [⟨[(.cell 48 1,.fre 1 1 (.ns .u64 ([]:List Int)))],[48],[8,9]⟩,⟨[(.cell 48 1,.fre 1 1 (.ns .u64 ([]:List Int)))],[48],[8,9]⟩,⟨[(.cell 48 1,.fre 1 1 (.ns .u64 ([]:List Int)))],[48],[8,9]⟩,⟨[(.cell 48 1,.fre 1 1 (.ns .u64 ([]:List Int)))],[48],[8,9]⟩,⟨[(.cell 48 1,.fre 1 1 (.ns .u64 ([]:List Int)))],[48],[8,9]⟩,⟨[(.cell 48 1,.fre 1 1 (.ns .u64 ([]:List Int)))],[48],[8,9]⟩,⟨[(.cell 48 1,.fre 1 1 (.ns .u64 ([]:List Int)))],[48],[8,9]⟩,⟨[(.cell 48 1,.fre 1 1 (.ns .u64 ([]:List Int)))],[48],[8,9]⟩,⟨[(.cell 48 1,.fre 1 1 (.ns .u64 ([]:List Int)))],[48],[8,9]⟩,⟨[(.cell 48 1,.fre 1 1 (.ns .u64 ([]:List Int)))],[48],[8,9]⟩,⟨[],[0,16,32,48],[3,4,5,6,8]⟩]) (fun p=>Sg.cut 1 rJ (bo cq (Ii d e l a f g m b i j n c p) [⟨[],[0,1,2,3,180,196,212,228],[4,5,6,8,10,11,12,13]⟩]) (fun ⟨w,y,z,A,B,C,D,E,F,G,H,I,J,K,L,M⟩=>Sg.cut 1 rJ (bo cq Ij [⟨[],[3],[8,9]⟩]) (fun ⟨N,O,P,Q,R,S⟩=>bo cq _ [⟨[],[0],[8,9]⟩]))))
    (fun x=>by cases x with | r0 q r s t u v=>exact lC [.agg [.bool false r,.imm .free (.ns .u64 s) 1 1 t u,.int .i64 v],.int .i64 ((q:Nat):Int)])
def mS:Option bW→Bool
  | some _=>true
  | none=>false
def pk:Option bW→Nat
  | some (.r0 x _ _ _ _ _)=>x
  | _=>0
def pm:Option bW→Bool
  | some (.r0 _ x _ _ _ _)=>x
  | _=>false
def pn:Option bW→List Int
  | some (.r0 _ _ x _ _ _)=>x
  | _=>[]
def po:Option bW→Nat
  | some (.r0 _ _ _ x _ _)=>x
  | _=>0
def pt:Option bW→Nat
  | some (.r0 _ _ _ _ x _)=>x
  | _=>0
def pu:Option bW→Int
  | some (.r0 _ _ _ _ _ x)=>x
  | _=>0
theorem Im{x:Option bW}(h:mS x=true) :x=some (.r0 (pk x) (pm x) (pn x) (po x) (pt x) (pu x)):=by
  unfold mS at h
  split at h<;>first | rfl | (cases h;done) | (rename_i y;cases y;rfl)
def Ae:aE:=bT sV (.cons (.agg (.cons (.int .i64) (.cons (.int .i64) (.cons .fl .nil)))) (.cons (.agg (.cons (.int .i64) (.cons (.int .i64) (.cons .fl .nil)))) (.cons (.agg (.cons (.int .i64) (.cons (.int .i64) (.cons .fl .nil)))) (.cons .fl .nil)))) fun t=>(fun q=>[⟨ti (.r0 (pk q) (pm q) (pn q) (po q) (pt q) (pu q)),[mS q]⟩]) (dU t.1.1 t.1.2.1 t.1.2.2.1.2 t.2.1.1 t.2.1.2.1 t.2.1.2.2.1.2 t.2.2.1.1 t.2.2.1.2.1 t.2.2.1.2.2.1.2 t.2.2.2.1.2)
theorem EY:aO prog Ae:=aJ fun t=>(aK (fun h=>Il t.1.1 t.1.2.1 t.1.2.2.1.1 t.1.2.2.1.2 t.2.1.1 t.2.1.2.1 t.2.1.2.2.1.1 t.2.1.2.2.1.2 t.2.2.1.1 t.2.2.1.2.1 t.2.2.1.2.2.1.1 t.2.2.1.2.2.1.2 t.2.2.2.1.1 t.2.2.2.1.2 (Im h)) bb)
def Af:List aE:=Ae::jg
theorem kN:bc prog (bh Af):=ap EY cq
inductive gj where
  | r0 (a:Bool) (b:Int)
def Hc:gj→AE×aF
  | .r0 a b=>(.ret,⟨ah 24 [(5,.bool false a),(6,.int .i64 b)],[],0⟩)
theorem DE:j9 Hc:=by intro x;cases x<;>(intro h;cases h)
def zP:gj→iK
  | .r0 a b=>⟨.tup [.bool false a,.int .i64 b],[]⟩
def P9(c:Lv)(d:Bool)(e:Lv)(a:List Int)(f:Int)(g:Lv)(h:Bool)(i:Lv)(b:List Int)(j:Int) :Nat×Bool×(List Int)×Nat×Nat×Int→aF:=fun (k,l,m,n,o,p)=>⟨ah 24 [(3,.iptr c (.vs [.bool false d,.imm e (.ns .u64 a) 1 1 0 (List.length a),.int .i64 f]) 1 0 0),(4,.iptr g (.vs [.bool false h,.imm i (.ns .u64 b) 1 1 0 (List.length b),.int .i64 j]) 1 0 0),(7,.ptr 0 1 0 0),(8,.int .i64 ((k:Nat):Int))],[(0,.vs [.bool false l,.imm .free (.ns .u64 m) 1 1 n o,.int .i64 p])],1⟩
def DF(f:Int)(g:Int)(b:List Nat)(d:Int)(e:Int)(a:List Nat)(c:List Nat) :T ((Nat×Bool×(List Int)×Nat×Nat×Int)⊕(gj)) :=
  .need (aP 0 (List.length b) b)<|.need (aP 0 (List.length a) a)<|.need (aP 0 (List.length a) a)<|.need (aP 0 (List.length c) c)<|.need (mS (dU f g (aa 0 (List.length b) b) d e (aa 0 (List.length a) a) d e (aa 0 (List.length a) a) (aa 0 (List.length c) c)))<|.leaf (.inl ((pk (dU f g (aa 0 (List.length b) b) d e (aa 0 (List.length a) a) d e (aa 0 (List.length a) a) (aa 0 (List.length c) c))),(pm (dU f g (aa 0 (List.length b) b) d e (aa 0 (List.length a) a) d e (aa 0 (List.length a) a) (aa 0 (List.length c) c))),(pn (dU f g (aa 0 (List.length b) b) d e (aa 0 (List.length a) a) d e (aa 0 (List.length a) a) (aa 0 (List.length c) c))),(po (dU f g (aa 0 (List.length b) b) d e (aa 0 (List.length a) a) d e (aa 0 (List.length a) a) (aa 0 (List.length c) c))),(pt (dU f g (aa 0 (List.length b) b) d e (aa 0 (List.length a) a) d e (aa 0 (List.length a) a) (aa 0 (List.length c) c))),(pu (dU f g (aa 0 (List.length b) b) d e (aa 0 (List.length a) a) d e (aa 0 (List.length a) a) (aa 0 (List.length c) c)))))
def Qa:Bool×Int→aF:=fun (a,b)=>⟨ah 24 [(5,.bool false a),(6,.int .i64 b)],[],0⟩
def xy(f:Bool)(a:List Int)(g:Int)(h:Bool)(b:List Int)(i:Int)(j:Nat)(k:Bool)(c:List Int)(d:Nat)(e:Nat)(l:Int) :T ((Bool×Int)⊕(gj)) :=
  .need (aP d e c)<|.need (aP 0 (List.length a) a)<|.need (aP 0 (List.length b) b)<|.need (nV (gh k (aa d e c) l ((j:Nat):Int) f (aa 0 (List.length a) a) g h (aa 0 (List.length b) b) i))<|.leaf (.inl ((oQ (gh k (aa d e c) l ((j:Nat):Int) f (aa 0 (List.length a) a) g h (aa 0 (List.length b) b) i)),(oR (gh k (aa d e c) l ((j:Nat):Int) f (aa 0 (List.length a) a) g h (aa 0 (List.length b) b) i))))
def Qb(a:Bool)(b:Int) :T ((Empty)⊕(gj)) :=
  .leaf (.inr (.r0 a b))
def jP(a:Int)(b:Int)(c:List Nat)(d:Int)(e:Int)(f:List Nat)(g:List Nat)(h:Bool)(i:List Int)(j:Int)(k:Bool)(l:List Int)(m:Int) :Option gj:=lB (aC ((DF a b c d e f g).run) fun (n,o,p,q,r,s) =>
  aC ((xy h i j k l m n o p q r s).run) fun (t,u) =>
  (Qb t u).run)
theorem Qc(s:Lv)(k:Int)(l:Int)(t:Lv)(c:List Nat)(u:Lv)(m:Int)(n:Int)(v:Lv)(d:List Nat)(w:Lv)(y:Lv)(e:List Nat)(o:Lv)(f:Bool)(p:Lv)(a:List Int)(g:Int)(q:Lv)(i:Bool)(r:Lv)(b:List Int)(j:Int){x:gj}(h:jP k l c m n d e f a g i b j=some x) :aj prog FI [] [.iptr s (.vs [.int .i64 k,.int .i64 l,.imm t (.fl c) 1 1 0 (List.length c)]) 1 0 0,.iptr u (.vs [.int .i64 m,.int .i64 n,.imm v (.fl d) 1 1 0 (List.length d)]) 1 0 0,.iptr w (.vs [.imm y (.fl e) 1 1 0 (List.length e)]) 1 0 0,.iptr o (.vs [.bool false f,.imm p (.ns .u64 a) 1 1 0 (List.length a),.int .i64 g]) 1 0 0,.iptr q (.vs [.bool false i,.imm r (.ns .u64 b) 1 1 0 (List.length b),.int .i64 j]) 1 0 0] (zP x) :=
  lO false zP Hc h (Sg.cut 2 DE (bo kN (P9 o f p a g q i r b j) [⟨[],[160],[3,4,7,8]⟩]) (fun ⟨B,C,D,E,F,G⟩=>Sg.cut 1 DE (bo kN Qa [⟨[],[],[5,6]⟩]) (fun ⟨H,I⟩=>bo kN _ [⟨[],[],[5,6]⟩])))
    (fun x=>by cases x with | r0 z A=>exact lC [.bool false z,.int .i64 A])
def oj:Option gj→Bool
  | some _=>true
  | none=>false
def oU:Option gj→Bool
  | some (.r0 x _)=>x
  | _=>false
def jr:Option gj→Int
  | some (.r0 _ x)=>x
  | _=>0
theorem Qd{x:Option gj}(h:oj x=true) :x=some (.r0 (oU x) (jr x)):=by
  unfold oj at h
  split at h<;>first | rfl | (cases h;done) | (rename_i y;cases y;rfl)
def Hd:aE:=bT FI (.cons (.ivs (.cons (.int .i64) (.cons (.int .i64) (.cons .fl .nil))) 1 0 0) (.cons (.ivs (.cons (.int .i64) (.cons (.int .i64) (.cons .fl .nil))) 1 0 0) (.cons (.ivs (.cons .fl .nil) 1 0 0) (.cons (.ivs (.cons .bool (.cons (.ns .u64) (.cons (.int .i64) .nil))) 1 0 0) (.cons (.ivs (.cons .bool (.cons (.ns .u64) (.cons (.int .i64) .nil))) 1 0 0) .nil))))) fun t=>(fun q=>[⟨zP (.r0 (oU q) (jr q)),[oj q]⟩]) (jP t.1.2.1 t.1.2.2.1 t.1.2.2.2.1.2 t.2.1.2.1 t.2.1.2.2.1 t.2.1.2.2.2.1.2 t.2.2.1.2.1.2 t.2.2.2.1.2.1 t.2.2.2.1.2.2.1.2 t.2.2.2.1.2.2.2.1 t.2.2.2.2.1.2.1 t.2.2.2.2.1.2.2.1.2 t.2.2.2.2.1.2.2.2.1)
theorem Kl:aO prog Hd:=aJ fun t=>(aK (fun h=>Qc t.1.1 t.1.2.1 t.1.2.2.1 t.1.2.2.2.1.1 t.1.2.2.2.1.2 t.2.1.1 t.2.1.2.1 t.2.1.2.2.1 t.2.1.2.2.2.1.1 t.2.1.2.2.2.1.2 t.2.2.1.1 t.2.2.1.2.1.1 t.2.2.1.2.1.2 t.2.2.2.1.1 t.2.2.2.1.2.1 t.2.2.2.1.2.2.1.1 t.2.2.2.1.2.2.1.2 t.2.2.2.1.2.2.2.1 t.2.2.2.2.1.1 t.2.2.2.2.1.2.1 t.2.2.2.2.1.2.2.1.1 t.2.2.2.2.1.2.2.1.2 t.2.2.2.2.1.2.2.2.1 (Qd h)) bb)
def He:List aE:=Hd::Af
theorem gw:bc prog (bh He):=ap Kl kN
inductive fq where
  | r0 (a:Bool) (b:Int)
def Nn:fq→AE×aF
  | .r0 a b=>(.ret,⟨ah 78 [(6,.bool false a),(7,.int .i64 b)],[],0⟩)
theorem pH:j9 Nn:=by intro x;cases x<;>(intro h;cases h)
def EZ:fq→iK
  | .r0 a b=>⟨.tup [.bool false a,.int .i64 b],[]⟩
def W4(d:Int)(e:Int)(f:Lv)(a:List Nat)(g:Lv)(b:List Nat)(h:Int)(i:Int)(j:Lv)(c:List Nat)(_:Unit) :aF:=⟨ah 78 [(3,.ptr 0 1 0 0),(4,.ptr 1 1 0 0),(5,.ptr 2 1 0 0)],[(0,.vs [.int .i64 d,.int .i64 e,.imm f (.fl a) 1 1 0 (List.length a)]),(1,.vs [.imm g (.fl b) 1 1 0 (List.length b)]),(2,.vs [.int .i64 h,.int .i64 i,.imm j (.fl c) 1 1 0 (List.length c)])],3⟩
def BH(d : Int)(e : Int)(a : List Nat)(c : List Nat)(f : Int)(g : Int)(b : List Nat) : T ((Unit) ⊕ (fq)) :=
  .ask (decide ((0 : Int) < (2 : Int)))
    (.need (gA (0 : Int) 2) <| .need (aP 0 (List.length a) a) <| .need (fK (cM d e (aa 0 (List.length a) a))) <| .ask (fg (cM d e (aa 0 (List.length a) a)))
      (.ask (!(!(decide ((0:Int)≥(0:Int)))))
        (.leaf (.inr (.r0 false (2:Int))))
        (.fail))
      (.need (dI .i64 (1:Int))<|.ask (decide ((1:Int)<(2:Int)))
        (.need (gA (1 : Int) 2) <| .need (aP 0 (List.length b) b) <| .need (fK (cM f g (aa 0 (List.length b) b))) <| .ask (fg (cM f g (aa 0 (List.length b) b)))
          (.ask (!(!(decide ((1:Int)≥(0:Int)))))
            (.leaf (.inr (.r0 false (2:Int))))
            (.fail))
          (.need (dI .i64 (2:Int))<|.ask (decide ((2:Int)<(2:Int)))
            (.fail)
            (.ask (!(!(decide ((-1:Int)≥(0:Int)))))
              (.fail)
              (.ask (d != e)
                (.leaf (.inr (.r0 false (8:Int))))
                (.ask ((((List.length c):Nat):Int) != d)
                  (.leaf (.inr (.r0 false (8:Int))))
                  (.ask (!(f == d && g == e))
                    (.leaf (.inr (.r0 false (8:Int))))
                    (.ask (decide ((0:Int)<(3:Int)))
                      (.need (gA (0:Int) 3)<|.need (aP 0 (List.length a) a)<|.need (aI (ao (aa 0 (List.length a) a)))<|.ask (decide ((aL (ao (aa 0 (List.length a) a)))≥(0:Int)))
                        (.leaf (.inr (.r0 false (10:Int))))
                        (.need (dI .i64 (1:Int))<|.ask (decide ((1:Int)<(3:Int)))
                          (.need (gA (1:Int) 3)<|.need (aP 0 (List.length b) b)<|.need (aI (ao (aa 0 (List.length b) b)))<|.ask (decide ((aL (ao (aa 0 (List.length b) b)))≥(0:Int)))
                            (.leaf (.inr (.r0 false (10:Int))))
                            (.need (dI .i64 (2:Int))<|.ask (decide ((2:Int)<(3:Int)))
                              (.need (gA (2:Int) 3)<|.need (aP 0 (List.length c) c)<|.need (aI (ao (aa 0 (List.length c) c)))<|.ask (decide ((aL (ao (aa 0 (List.length c) c)))≥(0:Int)))
                                (.leaf (.inr (.r0 false (10:Int))))
                                (.need (dI .i64 (3:Int))<|.ask (decide ((3:Int)<(3:Int)))
                                  (.fail)
                                  (.leaf (.inl ()))))
                              (.fail)))
                          (.fail)))
                      (.fail))))))))
        (.fail)))
    (.fail)
def W5(d:Int)(e:Int)(f:Lv)(a:List Nat)(g:Lv)(b:List Nat)(h:Int)(i:Int)(j:Lv)(c:List Nat)(k:Bool) :aF:=⟨ah 78 [(3,.ptr 0 1 0 0),(4,.ptr 1 1 0 0),(5,.ptr 2 1 0 0),(49,.bool false k)],[(0,.vs [.int .i64 d,.int .i64 e,.imm f (.fl a) 1 1 0 (List.length a)]),(1,.vs [.imm g (.fl b) 1 1 0 (List.length b)]),(2,.vs [.int .i64 h,.int .i64 i,.imm j (.fl c) 1 1 0 (List.length c)])],3⟩
def BI(a:List Nat) :T ((Bool)⊕(fq)) :=
  .need (aP 0 (List.length a) a)<|.need (kM (jF (aa 0 (List.length a) a)))<|.leaf (.inl (!(mi (jF (aa 0 (List.length a) a)))))
def W6(d:Int)(e:Int)(f:Lv)(a:List Nat)(g:Lv)(b:List Nat)(h:Int)(i:Int)(j:Lv)(c:List Nat) :Nat×Bool×(List Int)×Nat×Nat×Int→aF:=fun (k,l,m,n,o,p)=>⟨ah 78 [(3,.ptr 0 1 0 0),(4,.ptr 1 1 0 0),(5,.ptr 2 1 0 0),(8,.ptr 3 1 0 0),(9,.int .i64 ((k:Nat):Int))],[(0,.vs [.int .i64 d,.int .i64 e,.imm f (.fl a) 1 1 0 (List.length a)]),(1,.vs [.imm g (.fl b) 1 1 0 (List.length b)]),(2,.vs [.int .i64 h,.int .i64 i,.imm j (.fl c) 1 1 0 (List.length c)]),(3,.vs [.bool false l,.imm .free (.ns .u64 m) 1 1 n o,.int .i64 p])],4⟩
def zQ(a:Int)(b:Bool) :T ((Nat×Bool×(List Int)×Nat×Nat×Int)⊕(fq)) :=
  .ask b
    (.leaf (.inr (.r0 false (0:Int))))
    (.need (nL (cE a a))<|.leaf (.inl ((oK (cE a a)),(oL (cE a a)),(oM (cE a a)),(oN (cE a a)),(oO (cE a a)),(oP (cE a a)))))
def W7(d:Int)(e:Int)(f:Lv)(a:List Nat)(g:Lv)(b:List Nat)(h:Int)(i:Int)(j:Lv)(c:List Nat)(k:Nat)(l:Bool)(m:List Int)(n:Nat)(o:Nat)(p:Int) :Nat×Bool×(List Int)×Nat×Nat×Int→aF:=fun (f8,q,r,s,t,u)=>⟨ah 78 [(3,.ptr 0 1 0 0),(4,.ptr 1 1 0 0),(5,.ptr 2 1 0 0),(8,.ptr 3 1 0 0),(9,.int .i64 ((k:Nat):Int)),(10,.ptr 4 1 0 0),(11,.int .i64 ((f8:Nat):Int))],[(0,.vs [.int .i64 d,.int .i64 e,.imm f (.fl a) 1 1 0 (List.length a)]),(1,.vs [.imm g (.fl b) 1 1 0 (List.length b)]),(2,.vs [.int .i64 h,.int .i64 i,.imm j (.fl c) 1 1 0 (List.length c)]),(3,.vs [.bool false l,.imm .free (.ns .u64 m) 1 1 n o,.int .i64 p]),(4,.vs [.bool false q,.imm .free (.ns .u64 r) 1 1 s t,.int .i64 u])],5⟩
def zR(b:Int)(c:Int)(a:List Nat) :T ((Nat×Bool×(List Int)×Nat×Nat×Int)⊕(fq)) :=
  .need (aP 0 (List.length a) a)<|.need (qu (c7 b c (aa 0 (List.length a) a)))<|.leaf (.inl ((qv (c7 b c (aa 0 (List.length a) a))),(qw (c7 b c (aa 0 (List.length a) a))),(qx (c7 b c (aa 0 (List.length a) a))),(qy (c7 b c (aa 0 (List.length a) a))),(qz (c7 b c (aa 0 (List.length a) a))),(qA (c7 b c (aa 0 (List.length a) a)))))
def W8(d:Int)(e:Int)(f:Lv)(a:List Nat)(g:Lv)(b:List Nat)(h:Int)(i:Int)(j:Lv)(c:List Nat)(k:Nat)(l:Bool)(m:List Int)(n:Nat)(o:Nat)(p:Int)(f8:Nat)(q:Bool)(r:List Int)(s:Nat)(t:Nat)(u:Int)(v:Bool) :aF:=⟨ah 78 [(3,.ptr 0 1 0 0),(4,.ptr 1 1 0 0),(5,.ptr 2 1 0 0),(8,.ptr 3 1 0 0),(9,.int .i64 ((k:Nat):Int)),(10,.ptr 4 1 0 0),(11,.int .i64 ((f8:Nat):Int)),(68,.bool false v)],[(0,.vs [.int .i64 d,.int .i64 e,.imm f (.fl a) 1 1 0 (List.length a)]),(1,.vs [.imm g (.fl b) 1 1 0 (List.length b)]),(2,.vs [.int .i64 h,.int .i64 i,.imm j (.fl c) 1 1 0 (List.length c)]),(3,.vs [.bool false l,.imm .free (.ns .u64 m) 1 1 n o,.int .i64 p]),(4,.vs [.bool false q,.imm .free (.ns .u64 r) 1 1 s t,.int .i64 u])],5⟩
def TR(a:Nat)(f8:Nat) :T ((Bool)⊕(fq)) :=
  .ask (((a:Nat):Int) != (0:Int))
    (.leaf (.inl true))
    (.leaf (.inl (((f8:Nat):Int) != (0:Int))))
def W9:Bool×Int→aF:=fun (a,b)=>⟨ah 78 [(6,.bool false a),(7,.int .i64 b)],[],0⟩
def zS(n : Int)(o : Int)(b : List Nat)(c : List Nat)(g : Int)(h : Int)(a : List Nat)(r : Nat)(i : Bool)(d : List Int)(e : Nat)(f : Nat)(j : Int)(f8 : Nat)(p : Bool)(k : List Int)(l : Nat)(m : Nat)(q : Int)(s : Bool) : T ((Bool × Int) ⊕ (fq)) :=
  .ask s
    (.leaf (.inr (.r0 false (kR ((r:Nat):Int) ((f8:Nat):Int)))))
    (.ask (decide ((0:Int)<(2:Int)))
      (.need (gA (0:Int) 2)<|.need (aP 0 (List.length a) a)<|.need (aP e f d)<|.need (nW (jM g h (aa 0 (List.length a) a) i (aa e f d) j))<|.ask (!(oT (jM g h (aa 0 (List.length a) a) i (aa e f d) j)))
        (.leaf (.inl (false,(jq (jM g h (aa 0 (List.length a) a) i (aa e f d) j)))))
        (.ask ((jq (jM g h (aa 0 (List.length a) a) i (aa e f d) j)) != (0:Int))
          (.leaf (.inl (false,(jq (jM g h (aa 0 (List.length a) a) i (aa e f d) j)))))
          (.need (dI .i64 (1:Int))<|.ask (decide ((1:Int)<(2:Int)))
            (.need (gA (1:Int) 2)<|.need (aP 0 (List.length b) b)<|.need (aP 0 (List.length a) a)<|.need (aP 0 (List.length c) c)<|.need (aP e f d)<|.need (aP l m k)<|.need (oj (jP n o (aa 0 (List.length b) b) g h (aa 0 (List.length a) a) (aa 0 (List.length c) c) i (aa e f d) j p (aa l m k) q))<|.ask (!(oU (jP n o (aa 0 (List.length b) b) g h (aa 0 (List.length a) a) (aa 0 (List.length c) c) i (aa e f d) j p (aa l m k) q)))
              (.leaf (.inl (false,(jr (jP n o (aa 0 (List.length b) b) g h (aa 0 (List.length a) a) (aa 0 (List.length c) c) i (aa e f d) j p (aa l m k) q)))))
              (.ask ((jr (jP n o (aa 0 (List.length b) b) g h (aa 0 (List.length a) a) (aa 0 (List.length c) c) i (aa e f d) j p (aa l m k) q)) != (0:Int))
                (.leaf (.inl (false,(jr (jP n o (aa 0 (List.length b) b) g h (aa 0 (List.length a) a) (aa 0 (List.length c) c) i (aa e f d) j p (aa l m k) q)))))
                (.need (dI .i64 (2:Int))<|.ask (decide ((2:Int)<(2:Int)))
                  (.fail)
                  (.leaf (.inl (true,(0:Int)))))))
            (.fail))))
      (.fail))
def TS(a:Bool)(b:Int) :T ((Empty)⊕(fq)) :=
  .leaf (.inr (.r0 a b))
def cS(a:Int)(b:Int)(c:List Nat)(d:List Nat)(e:Int)(f:Int)(g:List Nat) :Option fq:=lB (aC ((BH a b c d e f g).run) fun _ =>
  aC ((BI d).run) fun i =>
  aC ((zQ a i).run) fun (h,j,k,l,m,n) =>
  aC ((zR a b c).run) fun (f8,o,p,q,r,s) =>
  aC ((TR h f8).run) fun t =>
  aC ((zS a b c d e f g h j k l m n f8 o p q r s t).run) fun (u,v) =>
  (TS u v).run)
theorem Xa(d:Int)(e:Int)(i:Lv)(a:List Nat)(j:Lv)(b:List Nat)(f:Int)(g:Int)(k:Lv)(c:List Nat){x:fq}(h:cS d e a b f g c=some x) :aj prog D9 [] [.agg [.int .i64 d,.int .i64 e,.imm i (.fl a) 1 1 0 (List.length a)],.imm j (.fl b) 1 1 0 (List.length b),.agg [.int .i64 f,.int .i64 g,.imm k (.fl c) 1 1 0 (List.length c)]] (EZ x) :=
  lO true EZ Nn h (Sg.cut 2 pH (bo gw (W4 d e i a j b f g k c) [⟨[],[],[6,7]⟩,⟨[],[],[6,7]⟩,⟨[],[],[6,7]⟩,⟨[],[],[6,7]⟩,⟨[],[],[6,7]⟩,⟨[],[],[6,7]⟩,⟨[],[],[6,7]⟩,⟨[],[],[6,7]⟩,⟨[],[0,16,32],[3,4,5]⟩]) (fun _=>Sg.cut 1 pH (bo gw (W5 d e i a j b f g k c) [⟨[],[0,1,2],[3,4,5,49]⟩]) (fun z=>Sg.cut 2 pH (bo gw (W6 d e i a j b f g k c) [⟨[],[],[6,7]⟩,⟨[],[0,1,2,131],[3,4,5,8,9]⟩]) (fun ⟨l,m,n,o,p,q⟩=>Sg.cut 1 pH (bo gw (W7 d e i a j b f g k c l m n o p q) [⟨[],[0,1,2,3,84],[3,4,5,8,9,10,11]⟩]) (fun ⟨f8,r,s,t,u,v⟩=>Sg.cut 1 pH (bo gw (W8 d e i a j b f g k c l m n o p q f8 r s t u v) [⟨[],[0,1,2,3,4],[3,4,5,8,9,10,11,68]⟩,⟨[],[0,1,2,3,4],[3,4,5,8,9,10,11,68]⟩]) (fun A=>Sg.cut 2 pH (bo gw W9 [⟨[],[],[6,7]⟩,⟨[],[],[6,7]⟩,⟨[],[],[6,7]⟩,⟨[],[],[6,7]⟩,⟨[],[],[6,7]⟩,⟨[],[],[6,7]⟩]) (fun ⟨B,C⟩=>bo gw _ [⟨[],[],[6,7]⟩])))))))
    (fun x=>by cases x with | r0 w y=>exact lC [.bool false w,.int .i64 y])
def kC:Option fq→Bool
  | some _=>true
  | none=>false
def jX:Option fq→Bool
  | some (.r0 x _)=>x
  | _=>false
def jY:Option fq→Int
  | some (.r0 _ x)=>x
  | _=>0
theorem Xb{x:Option fq}(h:kC x=true) :x=some (.r0 (jX x) (jY x)):=by
  unfold kC at h
  split at h<;>first | rfl | (cases h;done) | (rename_i y;cases y;rfl)
def No:aE:=bT D9 (.cons (.agg (.cons (.int .i64) (.cons (.int .i64) (.cons .fl .nil)))) (.cons .fl (.cons (.agg (.cons (.int .i64) (.cons (.int .i64) (.cons .fl .nil)))) .nil))) fun t=>(fun q=>[⟨EZ (.r0 (jX q) (jY q)),[kC q]⟩]) (cS t.1.1 t.1.2.1 t.1.2.2.1.2 t.2.1.2 t.2.2.1.1 t.2.2.1.2.1 t.2.2.1.2.2.1.2)
theorem Qe:aO prog No:=aJ fun t=>(aK (fun h=>Xa t.1.1 t.1.2.1 t.1.2.2.1.1 t.1.2.2.1.2 t.2.1.1 t.2.1.2 t.2.2.1.1 t.2.2.1.2.1 t.2.2.1.2.2.1.1 t.2.2.1.2.2.1.2 (Xb h)) bb)
def Np:List aE:=No::He
theorem xz:bc prog (bh Np):=ap Qe gw
inductive d6 where
  | r0 (a:Nat) (b:Bool) (c:Nat) (d:Int) (e:List Int)
def Hf:d6→AE×aF
  | .r0 b c a d e=>(.ret,⟨ah 14 [(2,.ptr 0 1 0 0),(3,.int .i64 ((b:Nat):Int))],[(0,.vs [.bool false c,.sl 1 1 1 0 a a,.int .i64 d]),(1,.ns .u64 e)],2⟩)
theorem Qf:j9 Hf:=by intro x;cases x<;>(intro h;cases h)
def zT:d6→iK
  | .r0 a b c d e=>⟨.tup [.agg [.bool false b,.imm .free (.ns .u64 e) 1 1 0 c,.int .i64 d],.int .i64 ((a:Nat):Int)],[]⟩
def Qg(a:Int) :Bool×Bool→aF:=fun (b,c)=>⟨ah 14 [(0,.int .i64 a),(2,.ptr 0 1 0 0),(9,.bool false b)],[(0,.vs [.bool false c,.nsl,.int .i64 (0:Int)])],1⟩
def Qh(a:Int) :T ((Bool×Bool)⊕(d6)) :=
  .ask (decide (a<(-262144:Int)))
    (.leaf (.inl (true,false)))
    (.leaf (.inl ((decide (a>(262144:Int))),false)))
def Qi(a:Int)(b:Bool) :T ((Empty)⊕(d6)) :=
  .ask b
    (.leaf (.inr (.r0 3 false 0 (0:Int) ([]:List Int))))
    (.leaf (.inr (.r0 0 false 1 a [(1:Int)])))
def jQ(a:Int) :Option d6:=lB (aC ((Qh a).run) fun (b,c) =>
  (Qi a b).run)
theorem Qj(a:Int){x:d6}(h:jQ a=some x) :aj prog yE [] [.int .i64 a] (zT x) :=
  lO true zT Hf h (Sg.cut 2 Qf (bo xz (Qg a) [⟨[],[0],[0,2,9]⟩,⟨[],[0],[0,2,9]⟩]) (fun ⟨f,g⟩=>bo xz _ [⟨[(.cell 0 1,.own 1 1 (.ns .u64 ([]:List Int)))],[0,49],[2,3]⟩,⟨[],[0,1],[2,3]⟩]))
    (fun x=>by cases x with | r0 c d b e i=>exact lC [.agg [.bool false d,.sl 1 1 1 0 b b,.int .i64 e],.int .i64 ((c:Nat):Int)])
def sq:Option d6→Bool
  | some _=>true
  | none=>false
def Ag:Option d6→Nat
  | some (.r0 x _ _ _ _)=>x
  | _=>0
def tj:Option d6→Bool
  | some (.r0 _ x _ _ _)=>x
  | _=>false
def tk:Option d6→Nat
  | some (.r0 _ _ x _ _)=>x
  | _=>0
def tl:Option d6→Int
  | some (.r0 _ _ _ x _)=>x
  | _=>0
def tm:Option d6→List Int
  | some (.r0 _ _ _ _ x)=>x
  | _=>[]
theorem Qk{x:Option d6}(h:sq x=true) :x=some (.r0 (Ag x) (tj x) (tk x) (tl x) (tm x)):=by
  unfold sq at h
  split at h<;>first | rfl | (cases h;done) | (rename_i y;cases y;rfl)
def Hg:aE:=bT yE (.cons (.int .i64) .nil) fun t=>(fun q=>[⟨zT (.r0 (Ag q) (tj q) (tk q) (tl q) (tm q)),[sq q]⟩]) (jQ t.1)
theorem Km:aO prog Hg:=aJ fun t=>(aK (fun h=>Qj t.1 (Qk h)) bb)
def Hh:List aE:=Hg::Np
theorem oV:bc prog (bh Hh):=ap Km xz
inductive gk where
  | r0 (a:Bool)
def ur:gk→AE×aF
  | .r0 a=>(.ret,⟨ah 26 [(4,.bool false a)],[],0⟩)
theorem xA:j9 ur:=by intro x;cases x<;>(intro h;cases h)
theorem Ql(id:Nat) :mB id ur:=by intro x;cases x<;>(intro h;cases h)
def zU:gk→iK
  | .r0 a=>⟨.bool false a,[]⟩
def Qm:List Code:=cY (mV tS)
def Qn(c:Lv)(a:List Int)(d:Lv)(b:List Int)(_:Unit) :aF:=⟨ah 26 [(0,.imm c (.ns .u64 a) 1 1 0 (List.length a)),(1,.imm d (.ns .u64 b) 1 1 0 (List.length b)),(5,.int .i64 (0:Int))],[],0⟩
def Qo(a:List Int)(b:List Int) :T ((Unit)⊕(gk)) :=
  .ask ((((List.length a):Nat):Int) != (((List.length b):Nat):Int))
    (.leaf (.inr (.r0 false)))
    (.leaf (.inl ()))
def xB(c:Lv)(a:List Int)(d:Lv)(b:List Int)(e:Nat) :aF:=⟨ah 26 [(0,.imm c (.ns .u64 a) 1 1 0 (List.length a)),(1,.imm d (.ns .u64 b) 1 1 0 (List.length b)),(5,.int .i64 ((e:Nat):Int))],[],0⟩
def DG(_:Unit) :aF:=⟨ah 26 [],[],0⟩
def Qp:List Code:=cY (d7 ((((Qm.drop 4).take 1)).headD .skip))
def xC(b:List Int)(c:List Int)(a:Nat) :T ((Nat)⊕((Unit)⊕(gk))) :=
  .ask (decide (((a:Nat):Int)<(((List.length b):Nat):Int)))
    (.need (gA ((a:Nat):Int) (List.length b))<|.need (gM a (List.length b))<|.need (gA ((a:Nat):Int) (List.length c))<|.need (gM a (List.length c))<|.ask ((List.getD b a 0) != (List.getD c a 0))
      (.leaf (.inr (.inr (.r0 false))))
      (.need (dI .i64 (((a+1):Nat):Int))<|.leaf (.inl (a+1))))
    (.leaf (.inr (.inl ())))
def vB(a:List Int)(b:List Int) :Nat→Option ((Nat)⊕((Unit)⊕(gk))):=fun c =>
  (xC a b c).run
theorem Nq(c:Lv)(a:List Int)(d:Lv)(b:List Int)(e:Nat) :Sg prog [] Qp (xB c a d b e) (vB a b e) (xB c a d b) (dH 0 DG ur):=by
  unfold vB;exact bo oV _ [⟨[],[],[4]⟩,⟨[],[],[0,1,5]⟩,⟨[],[],[]⟩]
def Nr:T ((Empty)⊕(gk)) :=
  .leaf (.inr (.r0 true))
def qE(a:List Int)(b:List Int) :Option gk:=lB (aC ((Qo a b).run) fun _ =>
  aC (df (vB a b) 0) fun _ =>
  (Nr).run)
theorem Qq(c:Lv)(a:List Int)(d:Lv)(b:List Int){x:gk}(h:qE a b=some x) :aj prog tS [] [.imm c (.ns .u64 a) 1 1 0 (List.length a),.imm d (.ns .u64 b) 1 1 0 (List.length b)] (zU x) :=
  lO true zU ur h (Sg.cut 4 xA (bo oV (Qn c a d b) [⟨[],[],[4]⟩,⟨[],[],[0,1,5]⟩]) (fun _=>Sg.cut 1 xA (Ej ⟨[],[],[0,1,5]⟩ (xB c a d b) (DG) 0 xA (Ql _) (fun e=>Nq c a d b e)) (fun _=>bo oV _ [⟨[],[],[4]⟩])))
    (fun x=>by cases x with | r0 f=>exact lC [.bool false f])
def su:Option gk→Bool
  | some _=>true
  | none=>false
def tn:Option gk→Bool
  | some (.r0 x)=>x
  | _=>false
theorem Qr{x:Option gk}(h:su x=true) :x=some (.r0 (tn x)):=by
  unfold su at h
  split at h<;>first | rfl | (cases h;done) | (rename_i y;cases y;rfl)
def Hi:aE:=bT tS (.cons (.ns .u64) (.cons (.ns .u64) .nil)) fun t=>(fun q=>[⟨zU (.r0 (tn q)),[su q]⟩]) (qE t.1.2 t.2.1.2)
theorem Kn:aO prog Hi:=aJ fun t=>(aK (fun h=>Qq t.1.1 t.1.2 t.2.1.1 t.2.1.2 (Qr h)) bb)
def Hj:List aE:=Hi::Hh
theorem tp:bc prog (bh Hj):=ap Kn oV
inductive iI where
  | r0 (a:Bool)
def Hk:iI→AE×aF
  | .r0 a=>(.ret,⟨ah 24 [(4,.bool false a)],[],0⟩)
theorem Qs:j9 Hk:=by intro x;cases x<;>(intro h;cases h)
def zV:iI→iK
  | .r0 a=>⟨.bool false a,[]⟩
def Qt(a:Bool) :aF:=⟨ah 24 [(4,.bool false a)],[],0⟩
def DH(c:Bool)(a:List Int)(d:Int)(e:Bool)(b:List Int)(f:Int) :T ((Bool)⊕(iI)) :=
  .ask (c==e)
    (.need (aP 0 (List.length a) a)<|.need (aP 0 (List.length b) b)<|.need (su (qE (aa 0 (List.length a) a) (aa 0 (List.length b) b)))<|.ask (tn (qE (aa 0 (List.length a) a) (aa 0 (List.length b) b)))
      (.leaf (.inl (d==f)))
      (.leaf (.inl false)))
    (.leaf (.inl false))
def Qu(a:Bool) :T ((Empty)⊕(iI)) :=
  .leaf (.inr (.r0 a))
def kO(a:Bool)(b:List Int)(c:Int)(d:Bool)(e:List Int)(f:Int) :Option iI:=lB (aC ((DH a b c d e f).run) fun g =>
  (Qu g).run)
theorem Qv(c:Bool)(g:Lv)(a:List Int)(d:Int)(e:Bool)(i:Lv)(b:List Int)(f:Int){x:iI}(h:kO c a d e b f=some x) :aj prog yF [] [.agg [.bool false c,.imm g (.ns .u64 a) 1 1 0 (List.length a),.int .i64 d],.agg [.bool false e,.imm i (.ns .u64 b) 1 1 0 (List.length b),.int .i64 f]] (zV x) :=
  lO true zV Hk h (Sg.cut 2 Qs (bo tp Qt [⟨[],[],[4]⟩,⟨[],[],[4]⟩,⟨[],[],[4]⟩]) (fun k=>bo tp _ [⟨[],[],[4]⟩]))
    (fun x=>by cases x with | r0 j=>exact lC [.bool false j])
def ol:Option iI→Bool
  | some _=>true
  | none=>false
def oW:Option iI→Bool
  | some (.r0 x)=>x
  | _=>false
theorem Qw{x:Option iI}(h:ol x=true) :x=some (.r0 (oW x)):=by
  unfold ol at h
  split at h<;>first | rfl | (cases h;done) | (rename_i y;cases y;rfl)
def Hl:aE:=bT yF (.cons (.agg (.cons .bool (.cons (.ns .u64) (.cons (.int .i64) .nil)))) (.cons (.agg (.cons .bool (.cons (.ns .u64) (.cons (.int .i64) .nil)))) .nil)) fun t=>(fun q=>[⟨zV (.r0 (oW q)),[ol q]⟩]) (kO t.1.1 t.1.2.1.2 t.1.2.2.1 t.2.1.1 t.2.1.2.1.2 t.2.1.2.2.1)
theorem Ko:aO prog Hl:=aJ fun t=>(aK (fun h=>Qv t.1.1 t.1.2.1.1 t.1.2.1.2 t.1.2.2.1 t.2.1.1 t.2.1.2.1.1 t.2.1.2.1.2 t.2.1.2.2.1 (Qw h)) bb)
def Hm:List aE:=Hl::Hj
theorem lq:bc prog (bh Hm):=ap Ko tp
inductive dF where
  | r0 (a:Bool) (b:List Int) (c:Nat) (d:Int)
def Hn:dF→AE×aF
  | .r0 a b c d=>(.ret,⟨ah 28 [(2,.ptr 0 1 0 0)],[(0,.vs [.bool false a,.imm .free (.ns .u64 b) 1 1 0 c,.int .i64 d])],1⟩)
theorem xD:j9 Hn:=by intro x;cases x<;>(intro h;cases h)
def zW:dF→iK
  | .r0 a b c d=>⟨.agg [.bool false a,.imm .free (.ns .u64 b) 1 1 0 c,.int .i64 d],[]⟩
def Qx(b:Bool)(c:Lv)(a:List Int)(d:Int) :(List Int)×Nat×Bool→aF:=fun (e,f,g)=>⟨ah 28 [(1,.ptr 0 1 0 0),(2,.ptr 1 1 0 0),(3,.imm .free (.ns .u64 e) 1 1 0 f)],[(0,.vs [.bool false b,.imm c (.ns .u64 a) 1 1 0 (List.length a),.int .i64 d]),(1,.vs [.bool false g,.nsl,.int .i64 (0:Int)])],2⟩
def xE(a:List Int) :T (((List Int)×Nat×Bool)⊕(dF)) :=
  .need (aP 0 (List.length a) a)<|.need (lF (fc (aa 0 (List.length a) a)))<|.leaf (.inl ((lf (fc (aa 0 (List.length a) a))),(ld (fc (aa 0 (List.length a) a))),false))
def Qy(b:Bool)(c:Lv)(a:List Int)(d:Int)(e:List Int)(f:Nat)(g:Bool)(h:Nat) :aF:=⟨ah 28 [(1,.ptr 0 1 0 0),(2,.ptr 1 1 0 0),(3,.imm .free (.ns .u64 e) 1 1 0 f),(4,.int .i64 ((h:Nat):Int))],[(0,.vs [.bool false b,.imm c (.ns .u64 a) 1 1 0 (List.length a),.int .i64 d]),(1,.vs [.bool false g,.nsl,.int .i64 (0:Int)])],2⟩
def xF(b:List Int)(a:Nat) :T ((Nat)⊕(dF)) :=
  .ask (((a:Nat):Int)==(0:Int))
    (.leaf (.inr (.r0 false ([]:List Int) 0 (0:Int))))
    (.need (aP 0 a b)<|.need (qk (nJ (aa 0 a b)))<|.leaf (.inl (rC (nJ (aa 0 a b)))))
def Qz(b:Bool)(c:Lv)(a:List Int)(d:Int)(e:Bool)(f:Nat) :(List Int)×Nat→aF:=fun (g,h)=>⟨ah 28 [(1,.ptr 0 1 0 0),(2,.ptr 1 1 0 0),(3,.imm .free (.ns .u64 g) 1 1 0 h),(4,.int .i64 ((f:Nat):Int))],[(0,.vs [.bool false b,.imm c (.ns .u64 a) 1 1 0 (List.length a),.int .i64 d]),(1,.vs [.bool false e,.nsl,.int .i64 (0:Int)])],2⟩
def xG(a:List Int)(b:Nat)(c:Nat) :T (((List Int)×Nat)⊕(dF)) :=
  .need (aP 0 b a)<|.need (uj (pE (aa 0 b a) ((c:Nat):Int)))<|.leaf (.inl ((vc (pE (aa 0 b a) ((c:Nat):Int))),(vd (pE (aa 0 b a) ((c:Nat):Int)))))
def QA(c:Bool)(a:Int)(b:Nat)(d:List Int)(e:Nat) :T ((Empty)⊕(dF)) :=
  .need (dI .i64 (a+((b:Nat):Int)))<|.leaf (.inr (.r0 c d e (a+((b:Nat):Int))))
def jR(d:Bool)(e:List Int)(f:Int) :Option dF:=lB (aC ((xE e).run) fun (a,b,i) =>
  aC ((xF a b).run) fun c =>
  aC ((xG a b c).run) fun (g,h) =>
  (QA d f c g h).run)
theorem QB(b:Bool)(d:Lv)(a:List Int)(c:Int){x:dF}(h:jR b a c=some x) :aj prog yI [] [.agg [.bool false b,.imm d (.ns .u64 a) 1 1 0 (List.length a),.int .i64 c]] (zW x) :=
  lO true zW Hn h (Sg.cut 2 xD (bo lq (Qx b d a c) [⟨[],[0,16],[1,2,3]⟩]) (fun ⟨f,g,e⟩=>Sg.cut 3 xD (bo lq (Qy b d a c f g e) [⟨[(.cell 1 1,.fre 1 1 (.ns .u64 ([]:List Int)))],[1],[2]⟩,⟨[],[0,1],[1,2,3,4]⟩]) (fun i=>Sg.cut 1 xD (bo lq (Qz b d a c e i) [⟨[],[0,1],[1,2,3,4]⟩]) (fun ⟨n,o⟩=>bo lq _ [⟨[],[1],[2]⟩]))))
    (fun x=>by cases x with | r0 j k l m=>exact lC [.agg [.bool false j,.imm .free (.ns .u64 k) 1 1 0 l,.int .i64 m]])
def sv:Option dF→Bool
  | some _=>true
  | none=>false
def tq:Option dF→Bool
  | some (.r0 x _ _ _)=>x
  | _=>false
def tr:Option dF→List Int
  | some (.r0 _ x _ _)=>x
  | _=>[]
def tt:Option dF→Nat
  | some (.r0 _ _ x _)=>x
  | _=>0
def tu:Option dF→Int
  | some (.r0 _ _ _ x)=>x
  | _=>0
theorem QC{x:Option dF}(h:sv x=true) :x=some (.r0 (tq x) (tr x) (tt x) (tu x)):=by
  unfold sv at h
  split at h<;>first | rfl | (cases h;done) | (rename_i y;cases y;rfl)
def Ho:aE:=bT yI (.cons (.agg (.cons .bool (.cons (.ns .u64) (.cons (.int .i64) .nil)))) .nil) fun t=>(fun q=>[⟨zW (.r0 (tq q) (tr q) (tt q) (tu q)),[sv q]⟩]) (jR t.1.1 t.1.2.1.2 t.1.2.2.1)
theorem Kp:aO prog Ho:=aJ fun t=>(aK (fun h=>QB t.1.1 t.1.2.1.1 t.1.2.1.2 t.1.2.2.1 (QC h)) bb)
def Hp:List aE:=Ho::Hm
theorem oX:bc prog (bh Hp):=ap Kp lq
inductive dz where
  | r0 (a:Bool) (b:List Int) (c:Nat) (d:Int)
def DI:dz→AE×aF
  | .r0 a b c d=>(.ret,⟨ah 16 [(2,.ptr 0 1 0 0)],[(0,.vs [.bool false a,.imm .free (.ns .u64 b) 1 1 0 c,.int .i64 d])],1⟩)
theorem BJ:j9 DI:=by intro x;cases x<;>(intro h;cases h)
def xH:dz→iK
  | .r0 a b c d=>⟨.agg [.bool false a,.imm .free (.ns .u64 b) 1 1 0 c,.int .i64 d],[]⟩
def Ns(a:Int) :Int×Bool→aF:=fun (b,c)=>⟨ah 16 [(0,.int .i64 a),(2,.ptr 0 1 0 0),(3,.int .u64 b)],[(0,.vs [.bool false c,.nsl,.int .i64 (0:Int)])],1⟩
def BL(a:Int) :T ((Int×Bool)⊕(dz)) :=
  .ask (decide (a<(0:Int)))
    (.leaf (.inl ((IntKind.u64.wrap ((0:Int)-(IntKind.u64.wrap a))),false)))
    (.leaf (.inl ((IntKind.u64.wrap a),false)))
def Nt:Bool×(List Int)×Nat×Int→aF:=fun (a,b,c,d)=>⟨ah 16 [(2,.ptr 0 1 0 0)],[(0,.vs [.bool false a,.imm .free (.ns .u64 b) 1 1 0 c,.int .i64 d])],1⟩
def vC(b:Int)(a:Int) :T ((Bool×(List Int)×Nat×Int)⊕(dz)) :=
  .need (aP 0 1 [a])<|.need (sv (jR (decide (b<(0:Int))) (aa 0 1 [a]) (0:Int)))<|.leaf (.inl ((tq (jR (decide (b<(0:Int))) (aa 0 1 [a]) (0:Int))),(tr (jR (decide (b<(0:Int))) (aa 0 1 [a]) (0:Int))),(tt (jR (decide (b<(0:Int))) (aa 0 1 [a]) (0:Int))),(tu (jR (decide (b<(0:Int))) (aa 0 1 [a]) (0:Int)))))
def Nu(a:Bool)(b:List Int)(c:Nat)(d:Int) :T ((Empty)⊕(dz)) :=
  .leaf (.inr (.r0 a b c d))
def cT(a:Int) :Option dz:=lB (aC ((BL a).run) fun (b,g) =>
  aC ((vC a b).run) fun (c,d,e,f) =>
  (Nu c d e f).run)
theorem Nv(a:Int){x:dz}(h:cT a=some x) :aj prog wH [] [.int .i64 a] (xH x) :=
  lO true xH DI h (Sg.cut 4 BJ (bo oX (Ns a) [⟨[],[0],[0,2,3]⟩,⟨[],[0],[0,2,3]⟩]) (fun ⟨f,g⟩=>Sg.cut 1 BJ (bo oX Nt [⟨[],[0],[2]⟩]) (fun ⟨i,j,k,l⟩=>bo oX _ [⟨[],[0],[2]⟩])))
    (fun x=>by cases x with | r0 b c d e=>exact lC [.agg [.bool false b,.imm .free (.ns .u64 c) 1 1 0 d,.int .i64 e]])
def mn:Option dz→Bool
  | some _=>true
  | none=>false
def kq:Option dz→Bool
  | some (.r0 x _ _ _)=>x
  | _=>false
def iY:Option dz→List Int
  | some (.r0 _ x _ _)=>x
  | _=>[]
def iZ:Option dz→Nat
  | some (.r0 _ _ x _)=>x
  | _=>0
def kr:Option dz→Int
  | some (.r0 _ _ _ x)=>x
  | _=>0
theorem Nw{x:Option dz}(h:mn x=true) :x=some (.r0 (kq x) (iY x) (iZ x) (kr x)):=by
  unfold mn at h
  split at h<;>first | rfl | (cases h;done) | (rename_i y;cases y;rfl)
def DJ:aE:=bT wH (.cons (.int .i64) .nil) fun t=>(fun q=>[⟨xH (.r0 (kq q) (iY q) (iZ q) (kr q)),[mn q]⟩]) (cT t.1)
theorem In:aO prog DJ:=aJ fun t=>(aK (fun h=>Nv t.1 (Nw h)) bb)
def DK:List aE:=DJ::Hp
theorem dA:bc prog (bh DK):=ap In oX
inductive cH where
  | r0 (a:Bool)
def DL:cH→AE×aF
  | .r0 a=>(.ret,⟨ah 91 [(0,.bool false a)],[],0⟩)
theorem ij:j9 DL:=by intro x;cases x<;>(intro h;cases h)
def xI:cH→iK
  | .r0 a=>⟨.bool false a,[]⟩
def Nz:Int×Nat×(List Nat)×(List Nat)→aF:=fun (a,b,c,d)=>⟨ah 91 [(1,.ptr 0 1 0 0),(2,.ptr 1 1 0 0)],[(0,.vs [.int .i64 (2:Int),.int .i64 (2:Int),.sl 2 1 1 0 4 4]),(1,.vs [.int .i64 a,.int .i64 a,.sl 3 1 1 0 b b]),(2,.fl c),(3,.fl d)],4⟩
def Ah:T ((Int×Nat×(List Nat)×(List Nat))⊕(cH)) :=
  .need (uk (mg (2:Int)))<|.leaf (.inl ((vg (mg (2:Int))),(vh (mg (2:Int))),[4611686018427387904,0,0,4613937818241073152],(vi (mg (2:Int)))))
def NA(a:Int)(b:Nat)(c:List Nat)(d:List Nat) :Bool×Int→aF:=fun (e,f)=>⟨ah 91 [(1,.ptr 0 1 0 0),(2,.ptr 1 1 0 0),(3,.bool false e),(4,.int .i64 f)],[(0,.vs [.int .i64 (2:Int),.int .i64 (2:Int),.sl 2 1 1 0 4 4]),(1,.vs [.int .i64 a,.int .i64 a,.sl 3 1 1 0 b b]),(2,.fl c),(3,.fl d)],4⟩
def tw(a:Int)(b:Nat)(c:List Nat)(d:List Nat) :T ((Bool×Int)⊕(cH)) :=
  .need (aP 0 4 c)<|.need (aP 0 2 [4611686018427387904,4613937818241073152])<|.need (aP 0 b d)<|.need (kC (cS (2:Int) (2:Int) (aa 0 4 c) (aa 0 2 [4611686018427387904,4613937818241073152]) a a (aa 0 b d)))<|.leaf (.inl ((jX (cS (2:Int) (2:Int) (aa 0 4 c) (aa 0 2 [4611686018427387904,4613937818241073152]) a a (aa 0 b d))),(jY (cS (2:Int) (2:Int) (aa 0 4 c) (aa 0 2 [4611686018427387904,4613937818241073152]) a a (aa 0 b d)))))
def NB(a:Int)(b:Nat)(c:List Nat)(d:List Nat)(e:Bool)(f:Int) :Bool×Int→aF:=fun (g,f8)=>⟨ah 91 [(1,.ptr 0 1 0 0),(2,.ptr 1 1 0 0),(3,.bool false e),(4,.int .i64 f),(5,.bool false g),(6,.int .i64 f8)],[(0,.vs [.int .i64 (2:Int),.int .i64 (2:Int),.sl 2 1 1 0 4 4]),(1,.vs [.int .i64 a,.int .i64 a,.sl 3 1 1 0 b b]),(2,.fl c),(3,.fl d)],4⟩
def tx(a:Int)(b:Nat)(c:List Nat)(d:List Nat) :T ((Bool×Int)⊕(cH)) :=
  .need (aP 0 4 c)<|.need (aP 0 2 [4613937818241073152,4611686018427387904])<|.need (aP 0 b d)<|.need (kC (cS (2:Int) (2:Int) (aa 0 4 c) (aa 0 2 [4613937818241073152,4611686018427387904]) a a (aa 0 b d)))<|.leaf (.inl ((jX (cS (2:Int) (2:Int) (aa 0 4 c) (aa 0 2 [4613937818241073152,4611686018427387904]) a a (aa 0 b d))),(jY (cS (2:Int) (2:Int) (aa 0 4 c) (aa 0 2 [4613937818241073152,4611686018427387904]) a a (aa 0 b d)))))
def NC(a:Bool)(b:Int)(c:Bool)(f8:Int) :Bool×Int→aF:=fun (d,e)=>⟨ah 91 [(3,.bool false a),(4,.int .i64 b),(5,.bool false c),(6,.int .i64 f8),(7,.bool false d),(8,.int .i64 e)],[],0⟩
def tA(a:Int)(b:Nat)(c:List Nat)(d:List Nat) :T ((Bool×Int)⊕(cH)) :=
  .need (aP 0 4 c)<|.need (aP 0 2 [4611686018427387904,4613940070040886837])<|.need (aP 0 b d)<|.need (kC (cS (2:Int) (2:Int) (aa 0 4 c) (aa 0 2 [4611686018427387904,4613940070040886837]) a a (aa 0 b d)))<|.leaf (.inl ((jX (cS (2:Int) (2:Int) (aa 0 4 c) (aa 0 2 [4611686018427387904,4613940070040886837]) a a (aa 0 b d))),(jY (cS (2:Int) (2:Int) (aa 0 4 c) (aa 0 2 [4611686018427387904,4613940070040886837]) a a (aa 0 b d)))))
def ND(a:Bool)(b:Int)(c:Bool)(f8:Int)(d:Bool)(e:Int) :Nat×Bool×(List Int)×Nat×Nat×Int→aF:=fun (f,g,h,i,j,k)=>⟨ah 91 [(3,.bool false a),(4,.int .i64 b),(5,.bool false c),(6,.int .i64 f8),(7,.bool false d),(8,.int .i64 e),(9,.ptr 0 1 0 0),(10,.int .i64 ((f:Nat):Int))],[(0,.vs [.bool false g,.imm .free (.ns .u64 h) 1 1 i j,.int .i64 k])],1⟩
def tB:T ((Nat×Bool×(List Int)×Nat×Nat×Int)⊕(cH)) :=
  .need (nL (cE (1:Int) (1:Int)))<|.leaf (.inl ((oK (cE (1:Int) (1:Int))),(oL (cE (1:Int) (1:Int))),(oM (cE (1:Int) (1:Int))),(oN (cE (1:Int) (1:Int))),(oO (cE (1:Int) (1:Int))),(oP (cE (1:Int) (1:Int)))))
def NE(a:Bool)(b:Int)(c:Bool)(f8:Int)(d:Bool)(e:Int)(f:Nat)(g:Bool)(h:List Int)(i:Nat)(j:Nat)(k:Int) :Bool×(List Int)×Nat×Int→aF:=fun (l,m,n,o)=>⟨ah 91 [(3,.bool false a),(4,.int .i64 b),(5,.bool false c),(6,.int .i64 f8),(7,.bool false d),(8,.int .i64 e),(9,.ptr 0 1 0 0),(10,.int .i64 ((f:Nat):Int)),(11,.ptr 1 1 0 0)],[(0,.vs [.bool false g,.imm .free (.ns .u64 h) 1 1 i j,.int .i64 k]),(1,.vs [.bool false l,.imm .free (.ns .u64 m) 1 1 0 n,.int .i64 o])],2⟩
def tC:T ((Bool×(List Int)×Nat×Int)⊕(cH)) :=
  .need (sq (jQ (-94:Int)))<|.leaf (.inl ((tj (jQ (-94:Int))),(tm (jQ (-94:Int))),(tk (jQ (-94:Int))),(tl (jQ (-94:Int)))))
def NF(a:Bool)(b:Int)(c:Bool)(f8:Int)(d:Bool)(e:Int)(f:Nat)(g:Bool)(h:List Int)(i:Nat)(j:Nat)(k:Int)(l:Bool)(m:List Int)(n:Nat)(o:Int) :Nat×Bool×(List Int)×Nat×Nat×Int→aF:=fun (p,q,r,s,t,u)=>⟨ah 91 [(3,.bool false a),(4,.int .i64 b),(5,.bool false c),(6,.int .i64 f8),(7,.bool false d),(8,.int .i64 e),(9,.ptr 0 1 0 0),(10,.int .i64 ((f:Nat):Int)),(11,.ptr 1 1 0 0),(13,.ptr 2 1 0 0),(14,.int .i64 ((p:Nat):Int))],[(0,.vs [.bool false g,.imm .free (.ns .u64 h) 1 1 i j,.int .i64 k]),(1,.vs [.bool false l,.imm .free (.ns .u64 m) 1 1 0 n,.int .i64 o]),(2,.vs [.bool false q,.imm .free (.ns .u64 r) 1 1 s t,.int .i64 u])],3⟩
def tD:T ((Nat×Bool×(List Int)×Nat×Nat×Int)⊕(cH)) :=
  .need (aP 0 2 [4613937818241073152,4616189618054758400])<|.need (qu (c7 (1:Int) (2:Int) (aa 0 2 [4613937818241073152,4616189618054758400])))<|.leaf (.inl ((qv (c7 (1:Int) (2:Int) (aa 0 2 [4613937818241073152,4616189618054758400]))),(qw (c7 (1:Int) (2:Int) (aa 0 2 [4613937818241073152,4616189618054758400]))),(qx (c7 (1:Int) (2:Int) (aa 0 2 [4613937818241073152,4616189618054758400]))),(qy (c7 (1:Int) (2:Int) (aa 0 2 [4613937818241073152,4616189618054758400]))),(qz (c7 (1:Int) (2:Int) (aa 0 2 [4613937818241073152,4616189618054758400]))),(qA (c7 (1:Int) (2:Int) (aa 0 2 [4613937818241073152,4616189618054758400])))))
def NG(a:Bool) :aF:=⟨ah 91 [(0,.bool false a)],[],0⟩
def tE(o : Bool)(p : Int)(q : Bool)(f8 : Int)(r : Bool)(s : Int)(t : Nat)(i : Bool)(a : List Int)(b : Nat)(c : Nat)(j : Int)(k : Bool)(d : List Int)(e : Nat)(l : Int)(u : Nat)(m : Bool)(f : List Int)(g : Nat)(h : Nat)(n : Int) : T ((Bool) ⊕ (cH)) :=
  .ask (p == (0 : Int))
    (.ask (f8 == (0 : Int))
      (.ask (s == (0 : Int))
        (.ask (((t:Nat):Int)==(0:Int))
          (.ask (((u:Nat):Int)==(0:Int))
            (.ask o
              (.ask (!q)
                (.ask (!r)
                  (.need (aP b c a)<|.need (aP 0 e d)<|.need (ol (kO i (aa b c a) j k (aa 0 e d) l))<|.ask (oW (kO i (aa b c a) j k (aa 0 e d) l))
                    (.need (mn (cT (25:Int)))<|.need (aP g h f)<|.need (aP 0 (iZ (cT (25:Int))) (iY (cT (25:Int))))<|.need (ol (kO m (aa g h f) n (kq (cT (25:Int))) (aa 0 (iZ (cT (25:Int))) (iY (cT (25:Int)))) (kr (cT (25:Int)))))<|.leaf (.inl (oW (kO m (aa g h f) n (kq (cT (25:Int))) (aa 0 (iZ (cT (25:Int))) (iY (cT (25:Int)))) (kr (cT (25:Int)))))))
                    (.leaf (.inl false)))
                  (.leaf (.inl false)))
                (.leaf (.inl false)))
              (.leaf (.inl false)))
            (.leaf (.inl false)))
          (.leaf (.inl false)))
        (.leaf (.inl false)))
      (.leaf (.inl false)))
    (.leaf (.inl false))
def Kq(a:Bool) :T ((Empty)⊕(cH)) :=
  .leaf (.inr (.r0 a))
def cU:Option cH:=lB (aC ((Ah).run) fun (a,b,c,d) =>
  aC ((tw a b c d).run) fun (e,f) =>
  aC ((tx a b c d).run) fun (g,f8) =>
  aC ((tA a b c d).run) fun (h,i) =>
  aC ((tB).run) fun (j,k,l,m,n,o) =>
  aC ((tC).run) fun (p,q,r,s) =>
  aC ((tD).run) fun (t,u,v,w,x,y) =>
  aC ((tE e f g f8 h i j k l m n o p q r s t u v w x y).run) fun z =>
  (Kq z).run)
theorem NH{x:cH}(h:cU=some x) :aj prog C8 [] [] (xI x) :=
  lO false xI DL h (Sg.cut 3 ij (bo dA Nz [⟨[],[32,80,16,64],[1,2]⟩]) (fun ⟨f,g,i,j⟩=>Sg.cut 1 ij (bo dA (NA f g i j) [⟨[],[0,1,2,3],[1,2,3,4]⟩]) (fun ⟨a,b⟩=>Sg.cut 1 ij (bo dA (NB f g i j a b) [⟨[],[0,1,2,3],[1,2,3,4,5,6]⟩]) (fun ⟨c,f8⟩=>Sg.cut 1 ij (bo dA (NC a b c f8) [⟨[],[],[3,4,5,6,7,8]⟩]) (fun ⟨d,e⟩=>Sg.cut 1 ij (bo dA (ND a b c f8 d e) [⟨[],[64],[3,4,5,6,7,8,9,10]⟩]) (fun ⟨k,l,m,n,o,p⟩=>Sg.cut 1 ij (bo dA (NE a b c f8 d e k l m n o p) [⟨[],[0,65],[3,4,5,6,7,8,9,10,11]⟩]) (fun ⟨q,r,s,t⟩=>Sg.cut 1 ij (bo dA (NF a b c f8 d e k l m n o p q r s t) [⟨[],[0,1,98],[3,4,5,6,7,8,9,10,11,13,14]⟩]) (fun ⟨v,w,y,z,A,B⟩=>Sg.cut 1 ij (bo dA NG [⟨[],[],[0]⟩,⟨[],[],[0]⟩,⟨[],[],[0]⟩,⟨[],[],[0]⟩,⟨[],[],[0]⟩,⟨[],[],[0]⟩,⟨[],[],[0]⟩,⟨[],[],[0]⟩,⟨[],[],[0]⟩,⟨[],[],[0]⟩]) (fun C=>bo dA _ [⟨[],[],[0]⟩])))))))))
    (fun x=>by cases x with | r0 u=>exact lC [.bool false u])
def gn:Option cH→Bool
  | some _=>true
  | none=>false
def fG:Option cH→Bool
  | some (.r0 x)=>x
  | _=>false
theorem NI{x:Option cH}(h:gn x=true) :x=some (.r0 (fG x)):=by
  unfold gn at h
  split at h<;>first | rfl | (cases h;done) | (rename_i y;cases y;rfl)
def DM:aE:=bT C8 .nil fun t=>(fun q=>[⟨xI (.r0 (fG q)),[gn q]⟩]) (cU)
theorem Io:aO prog DM:=aJ fun t=>(aK (fun h=>NH (NI h)) bb)
def DN:List aE:=DM::DK
theorem fH:bc prog (bh DN):=ap Io dA
inductive cw where
  | r0 (a:Nat)
def sw:cw→AE×aF
  | .r0 a=>(.ret,⟨ah 110 [(4,.flt false a)],[],0⟩)
theorem i9:j9 sw:=by intro x;cases x<;>(intro h;cases h)
theorem NJ(id:Nat) :mB id sw:=by intro x;cases x<;>(intro h;cases h)
def xJ:cw→iK
  | .r0 a=>⟨.flt false a,[]⟩
def Kr:List Code:=cY (mV wG)
def NK(a:Int) :Int×Int×Int→aF:=fun (b,c,d)=>⟨ah 110 [(1,.int .i64 a),(6,.int .u64 b),(7,.int .u64 c),(8,.int .i64 d)],[],0⟩
def lr(a : Nat)(b : Int) : T ((Int × Int × Int) ⊕ (cw)) :=
  .alt 0
    (.need (!isNaN a)<|.need (decide ((0:Int)≤(52:Int)))<|.need ((2048:Int) != (0:Int))<|.ask (!((Int.tmod (Int.fdiv ((a:Nat):Int) (2^(min (Int.toNat (52:Int)) (IntKind.u64.bits)))) (2048:Int)) != (2047:Int)))
      (.leaf (.inr (.r0 a)))
      (.need (decide ((0:Int)≤(1:Int)))<|.ask ((IntKind.u64.wrap (((a:Nat):Int)*2^(min (Int.toNat (1:Int)) (IntKind.u64.bits))))==(0:Int))
        (.leaf (.inr (.r0 a)))
        (.ask (b==(0:Int))
          (.leaf (.inr (.r0 a)))
          (.need (decide ((0:Int)≤(63:Int)))<|.need (decide ((0:Int)≤(63:Int)))<|.need (decide ((0:Int)≤(12:Int)))<|.need (decide ((0:Int)≤(12:Int)))<|.need (decide ((0:Int)≤(52:Int)))<|.need ((2048:Int) != (0:Int))<|.ask ((IntKind.i64.wrap (Int.tmod (Int.fdiv ((a:Nat):Int) (2^(min (Int.toNat (52:Int)) (IntKind.u64.bits)))) (2048:Int)))==(0:Int))
            (.leaf (.inl ((IntKind.u64.wrap ((Int.fdiv ((a:Nat):Int) (2^(min (Int.toNat (63:Int)) (IntKind.u64.bits))))*2^(min (Int.toNat (63:Int)) (IntKind.u64.bits)))),(Int.fdiv (IntKind.u64.wrap (((a:Nat):Int)*2^(min (Int.toNat (12:Int)) (IntKind.u64.bits)))) (2^(min (Int.toNat (12:Int)) (IntKind.u64.bits)))),(1:Int))))
            (.leaf (.inl ((IntKind.u64.wrap ((Int.fdiv ((a:Nat):Int) (2^(min (Int.toNat (63:Int)) (IntKind.u64.bits))))*2^(min (Int.toNat (63:Int)) (IntKind.u64.bits)))),(IntKind.u64.wrap ((Int.fdiv (IntKind.u64.wrap (((a:Nat):Int)*2^(min (Int.toNat (12:Int)) (IntKind.u64.bits)))) (2^(min (Int.toNat (12:Int)) (IntKind.u64.bits))))+(4503599627370496:Int))),(IntKind.i64.wrap (Int.tmod (Int.fdiv ((a:Nat):Int) (2^(min (Int.toNat (52:Int)) (IntKind.u64.bits)))) (2048:Int))))))))))
    (.alt 1
      (.need (isNaN a)<|.leaf (.inr (.r0 a)))
      (.fail))
def vD(a:Int)(b:Int) :Int×Int→aF:=fun (c,d)=>⟨ah 110 [(1,.int .i64 a),(6,.int .u64 b),(7,.int .u64 c),(8,.int .i64 d)],[],0⟩
def BM(a:Int)(b:Int) :Int×Int→aF:=fun (c,d)=>⟨ah 110 [(1,.int .i64 a),(6,.int .u64 b),(7,.int .u64 c),(8,.int .i64 d)],[],0⟩
def Ks:List Code:=cY (d7 ((((Kr.drop 9).take 1)).headD .skip))
def Kt(a:Int)(b:Int) :T ((Int×Int)⊕((Int×Int)⊕(cw))) :=
  .ask (decide (a<(4503599627370496:Int)))
    (.need (dI .i64 (b-(1:Int)))<|.leaf (.inl ((IntKind.u64.wrap (a*(2:Int))),(b-(1:Int)))))
    (.leaf (.inr (.inl (a,b))))
def tF:Int×Int→Option ((Int×Int)⊕((Int×Int)⊕(cw))):=fun (a,b) =>
  (Kt a b).run
theorem Ku(a:Int)(b:Int)(c:Int)(d:Int) :Sg prog [] Ks (vD a b (c,d)) (tF (c,d)) (vD a b) (dH 0 (BM a b) sw):=by
  unfold tF;exact bo fH _ [⟨[],[],[1,6,7,8]⟩,⟨[],[],[1,6,7,8]⟩]
def NL(a:Int)(b:Int)(c:Int)(d:Int) :aF:=⟨ah 110 [(1,.int .i64 d),(6,.int .u64 a),(7,.int .u64 b),(8,.int .i64 c)],[],0⟩
def Kv(a:Int) :T ((Int)⊕(cw)) :=
  .ask (decide (a>(5000:Int)))
    (.leaf (.inl (5000:Int)))
    (.leaf (.inl a))
def NM(a:Int)(b:Int)(c:Int)(d:Int) :aF:=⟨ah 110 [(1,.int .i64 d),(6,.int .u64 a),(7,.int .u64 b),(8,.int .i64 c)],[],0⟩
def Kw(a:Int) :T ((Int)⊕(cw)) :=
  .ask (decide (a<(-5000:Int)))
    (.leaf (.inl (-5000:Int)))
    (.leaf (.inl a))
def NN(a:Int) :Int×Bool→aF:=fun (b,c)=>⟨ah 110 [(6,.int .u64 a),(10,.int .u64 b),(103,.bool false c)],[],0⟩
def tH(d : Int)(c : Int)(a : Int)(b : Int) : T ((Int × Bool) ⊕ (cw)) :=
  .need (dI .i64 (a+b))<|.ask (decide ((a+b)≥(2047:Int)))
    (.leaf (.inr (.r0 (Int.toNat (IntKind.u64.wrap (d+(9218868437227405312:Int)))))))
    (.ask (decide ((a+b)≥(1:Int)))
      (.need (decide ((0:Int)≤(52:Int)))<|.leaf (.inr (.r0 (Int.toNat (IntKind.u64.wrap ((IntKind.u64.wrap ((IntKind.u64.wrap (d+(IntKind.u64.wrap ((IntKind.u64.wrap (a+b))*2^(min (Int.toNat (52:Int)) (IntKind.u64.bits))))))+c))-(4503599627370496:Int)))))))
      (.need (dI .i64 ((1:Int)-(a+b)))<|.ask (decide (((1:Int)-(a+b))>(60:Int)))
        (.leaf (.inr (.r0 (Int.toNat d))))
        (.need (decide ((0:Int)≤(IntKind.u64.wrap ((1:Int)-(a+b)))))<|.need (decide ((0:Int)≤(IntKind.u64.wrap ((1:Int)-(a+b)))))<|.need (dI .i64 (((1:Int)-(a+b))-(1:Int)))<|.need (decide ((0:Int)≤(IntKind.u64.wrap (((1:Int)-(a+b))-(1:Int)))))<|.ask (decide ((IntKind.u64.wrap (c-(IntKind.u64.wrap ((Int.fdiv c (2^(min (Int.toNat (IntKind.u64.wrap ((1:Int)-(a+b)))) (IntKind.u64.bits))))*2^(min (Int.toNat (IntKind.u64.wrap ((1:Int)-(a+b)))) (IntKind.u64.bits))))))>(IntKind.u64.wrap ((1:Int)*2^(min (Int.toNat (IntKind.u64.wrap (((1:Int)-(a+b))-(1:Int)))) (IntKind.u64.bits))))))
          (.leaf (.inl ((Int.fdiv c (2^(min (Int.toNat (IntKind.u64.wrap ((1:Int)-(a+b)))) (IntKind.u64.bits)))),true)))
          (.ask ((IntKind.u64.wrap (c-(IntKind.u64.wrap ((Int.fdiv c (2^(min (Int.toNat (IntKind.u64.wrap ((1:Int)-(a+b)))) (IntKind.u64.bits))))*2^(min (Int.toNat (IntKind.u64.wrap ((1:Int)-(a+b)))) (IntKind.u64.bits))))))==(IntKind.u64.wrap ((1:Int)*2^(min (Int.toNat (IntKind.u64.wrap (((1:Int)-(a+b))-(1:Int)))) (IntKind.u64.bits)))))
            (.need ((2:Int) != (0:Int))<|.leaf (.inl ((Int.fdiv c (2^(min (Int.toNat (IntKind.u64.wrap ((1:Int)-(a+b)))) (IntKind.u64.bits)))),((Int.tmod (Int.fdiv c (2^(min (Int.toNat (IntKind.u64.wrap ((1:Int)-(a+b)))) (IntKind.u64.bits)))) (2:Int))==(1:Int)))))
            (.leaf (.inl ((Int.fdiv c (2^(min (Int.toNat (IntKind.u64.wrap ((1:Int)-(a+b)))) (IntKind.u64.bits)))),false)))))))
def NO(a:Int)(b:Int) :aF:=⟨ah 110 [(6,.int .u64 a),(10,.int .u64 b)],[],0⟩
def Kx(a:Int)(b:Bool) :T ((Int)⊕(cw)) :=
  .ask b
    (.leaf (.inl (IntKind.u64.wrap (a+(1:Int)))))
    (.leaf (.inl a))
def Ky(a:Int)(b:Int) :T ((Empty)⊕(cw)) :=
  .leaf (.inr (.r0 (Int.toNat (IntKind.u64.wrap (a+b)))))
def eU(c:Nat)(a:Int) :Option cw:=lB (aC ((lr c a).run) fun (b,d,e) =>
  aC (df (tF) (d,e)) fun (f,g) =>
  aC ((Kv a).run) fun h =>
  aC ((Kw h).run) fun i =>
  aC ((tH b f g i).run) fun (j,k) =>
  aC ((Kx j k).run) fun l =>
  (Ky b l).run)
theorem NP(c:Nat)(b:Int){x:cw}(h:eU c b=some x) :aj prog wG [] [.flt false c,.int .i64 b] (xJ x) :=
  lO false xJ sw h (Sg.cut 9 i9 (bo fH (NK b) [⟨[],[],[4]⟩,⟨[],[],[4]⟩,⟨[],[],[4]⟩,⟨[],[],[1,6,7,8]⟩,⟨[],[],[1,6,7,8]⟩,⟨[],[],[4]⟩]) (fun ⟨a,j,k⟩=>Sg.cut 1 i9 (Ej ⟨[],[],[1,6,7,8]⟩ (vD b a) (BM b a) 0 i9 (NJ _) (fun ⟨f,g⟩=>Ku b a f g)) (fun ⟨d,e⟩=>Sg.cut 2 i9 (bo fH (NL a d e) [⟨[],[],[1,6,7,8]⟩,⟨[],[],[1,6,7,8]⟩]) (fun l=>Sg.cut 2 i9 (bo fH (NM a d e) [⟨[],[],[1,6,7,8]⟩,⟨[],[],[1,6,7,8]⟩]) (fun m=>Sg.cut 12 i9 (bo fH (NN a) [⟨[],[],[4]⟩,⟨[],[],[4]⟩,⟨[],[],[4]⟩,⟨[],[],[6,10,103]⟩,⟨[],[],[6,10,103]⟩,⟨[],[],[6,10,103]⟩]) (fun ⟨n,o⟩=>Sg.cut 1 i9 (bo fH (NO a) [⟨[],[],[6,10]⟩,⟨[],[],[6,10]⟩]) (fun p=>bo fH _ [⟨[],[],[4]⟩])))))))
    (fun x=>by cases x with | r0 i=>exact lC [.flt false i])
def ja:Option cw→Bool
  | some _=>true
  | none=>false
def i0:Option cw→Nat
  | some (.r0 x)=>x
  | _=>0
theorem NQ{x:Option cw}(h:ja x=true) :x=some (.r0 (i0 x)):=by
  unfold ja at h
  split at h<;>first | rfl | (cases h;done) | (rename_i y;cases y;rfl)
def DO:aE:=bT wG (.cons (.flt false) (.cons (.int .i64) .nil)) fun t=>(fun q=>[⟨xJ (.r0 (i0 q)),[ja q]⟩]) (eU t.1 t.2.1)
theorem Ip:aO prog DO:=aJ fun t=>(aK (fun h=>NP t.1 t.2.1 (NQ h)) bb)
def DP:List aE:=DO::DN
theorem cx:bc prog (bh DP):=ap Ip fH
inductive bf where
  | r0 (a:Bool)
def jb:bf→AE×aF
  | .r0 a=>(.ret,⟨ah 148 [(8,.bool false a)],[],0⟩)
theorem bL:j9 jb:=by intro x;cases x<;>(intro h;cases h)
theorem tI(id:Nat) :mB id jb:=by intro x;cases x<;>(intro h;cases h)
def pv:bf→iK
  | .r0 a=>⟨.bool false a,[]⟩
def sQ:List Code:=cY (mV oY)
def CP(d:Int)(e:Int)(f:Lv)(a:List Nat)(g:Lv)(b:List Nat)(h:Int)(i:Int)(j:Lv)(c:List Nat)(k:Int)(l:Bool) :aF:=⟨ah 148 [(1,.imm g (.fl b) 1 1 0 (List.length b)),(3,.int .i64 k),(4,.ptr 0 1 0 0),(6,.ptr 1 1 0 0),(48,.bool false l)],[(0,.vs [.int .i64 d,.int .i64 e,.imm f (.fl a) 1 1 0 (List.length a)]),(1,.vs [.int .i64 h,.int .i64 i,.imm j (.fl c) 1 1 0 (List.length c)])],2⟩
def mo(d : Int)(e : Int)(a : List Nat)(b : List Nat)(f : Int)(g : Int)(c : List Nat)(h : Int) : T ((Bool) ⊕ (bf)) :=
  .ask (decide ((((List.length a):Nat):Int)>(16:Int)))
    (.leaf (.inl true))
    (.ask (decide ((((List.length c):Nat):Int)>(16:Int)))
      (.leaf (.inl true))
      (.ask (decide ((((List.length b):Nat):Int)>(16:Int)))
        (.leaf (.inl true))
        (.ask (decide (h<(-300:Int)))
          (.leaf (.inl true))
          (.ask (decide (h>(300:Int)))
            (.leaf (.inl true))
            (.need (aP 0 (List.length a) a)<|.need (aP 0 (List.length b) b)<|.need (aP 0 (List.length c) c)<|.need (lL (kj d e (aa 0 (List.length a) a) (aa 0 (List.length b) b) f g (aa 0 (List.length c) c)))<|.leaf (.inl ((((mW (kj d e (aa 0 (List.length a) a) (aa 0 (List.length b) b) f g (aa 0 (List.length c) c))):Nat):Int) != (0:Int))))))))
def CQ(d:Int)(e:Int)(f:Lv)(a:List Nat)(g:Lv)(b:List Nat)(h:Int)(i:Int)(j:Lv)(c:List Nat)(k:Int)(_:Unit) :aF:=⟨ah 148 [(1,.imm g (.fl b) 1 1 0 (List.length b)),(3,.int .i64 k),(4,.ptr 0 1 0 0),(6,.ptr 1 1 0 0)],[(0,.vs [.int .i64 d,.int .i64 e,.imm f (.fl a) 1 1 0 (List.length a)]),(1,.vs [.int .i64 h,.int .i64 i,.imm j (.fl c) 1 1 0 (List.length c)])],2⟩
def mp(a:Bool) :T ((Unit)⊕(bf)) :=
  .ask a
    (.need (gn (cU))<|.leaf (.inr (.r0 (fG (cU)))))
    (.leaf (.inl ()))
def CR(c:Int)(d:Int)(f:Lv)(a:List Nat)(g:Lv)(b:List Nat)(h:Int)(i:Int)(j:Lv)(e:List Nat)(k:Int) :(List Nat)×(List Nat)→aF:=fun (l,m)=>⟨ah 148 [(1,.imm g (.fl b) 1 1 0 (List.length b)),(3,.int .i64 k),(4,.ptr 0 1 0 0),(6,.ptr 1 1 0 0),(9,.ptr 2 1 0 0),(10,.sl 3 1 1 0 (List.length b) (List.length b)),(11,.int .i64 (0:Int))],[(0,.vs [.int .i64 c,.int .i64 d,.imm f (.fl a) 1 1 0 (List.length a)]),(1,.vs [.int .i64 h,.int .i64 i,.imm j (.fl e) 1 1 0 (List.length e)]),(2,.vs [.int .i64 c,.int .i64 d,.sl 4 1 1 0 (List.length a) (List.length a)]),(3,.fl l),(4,.fl m)],5⟩
def mq(a:List Nat)(b:List Nat) :T (((List Nat)×(List Nat))⊕(bf)) :=
  .need (qG ((List.length a)*8) 140737488355328)<|.need (qG (List.length a) 9223372036854775807)<|.need (qG (List.length a) (List.length a))<|.need (qG ((List.length b)*8) 140737488355328)<|.need (qG (List.length b) 9223372036854775807)<|.need (qG (List.length b) (List.length b))<|.leaf (.inl ((List.take (List.length b) b),(List.take (List.length a) a)))
def ng(c:Int)(d:Int)(f:Lv)(a:List Nat)(g:Lv)(b:List Nat)(h:Int)(i:Int)(j:Lv)(e:List Nat)(k:Int)(l:List Nat) :Nat×(List Nat)→aF:=fun (m,n)=>⟨ah 148 [(1,.imm g (.fl b) 1 1 0 (List.length b)),(3,.int .i64 k),(4,.ptr 0 1 0 0),(6,.ptr 1 1 0 0),(9,.ptr 2 1 0 0),(10,.sl 3 1 1 0 (List.length b) (List.length b)),(11,.int .i64 ((m:Nat):Int))],[(0,.vs [.int .i64 c,.int .i64 d,.imm f (.fl a) 1 1 0 (List.length a)]),(1,.vs [.int .i64 h,.int .i64 i,.imm j (.fl e) 1 1 0 (List.length e)]),(2,.vs [.int .i64 c,.int .i64 d,.sl 4 1 1 0 (List.length a) (List.length a)]),(3,.fl l),(4,.fl n)],5⟩
def tJ(c:Int)(d:Int)(f:Lv)(a:List Nat)(g:Lv)(b:List Nat)(h:Int)(i:Int)(j:Lv)(e:List Nat)(k:Int)(l:List Nat)(m:(List Nat)) :aF:=⟨ah 148 [(1,.imm g (.fl b) 1 1 0 (List.length b)),(3,.int .i64 k),(4,.ptr 0 1 0 0),(6,.ptr 1 1 0 0),(9,.ptr 2 1 0 0),(10,.sl 3 1 1 0 (List.length b) (List.length b))],[(0,.vs [.int .i64 c,.int .i64 d,.imm f (.fl a) 1 1 0 (List.length a)]),(1,.vs [.int .i64 h,.int .i64 i,.imm j (.fl e) 1 1 0 (List.length e)]),(2,.vs [.int .i64 c,.int .i64 d,.sl 4 1 1 0 (List.length a) (List.length a)]),(3,.fl l),(4,.fl m)],5⟩
def BN:List Code:=cY (d7 ((((((sQ.drop 2).drop 1).drop 3).take 1)).headD .skip))
def CS(c:Int)(d:Int)(f:Lv)(a:List Nat)(g:Lv)(b:List Nat)(h:Int)(i:Int)(j:Lv)(e:List Nat)(k:Int)(l:List Nat)(m:Nat)(n:(List Nat)) :aF:=⟨ah 148 [(1,.imm g (.fl b) 1 1 0 (List.length b)),(3,.int .i64 k),(4,.ptr 0 1 0 0),(6,.ptr 1 1 0 0),(9,.ptr 2 1 0 0),(10,.sl 3 1 1 0 (List.length b) (List.length b)),(11,.int .i64 ((m:Nat):Int))],[(0,.vs [.int .i64 c,.int .i64 d,.imm f (.fl a) 1 1 0 (List.length a)]),(1,.vs [.int .i64 h,.int .i64 i,.imm j (.fl e) 1 1 0 (List.length e)]),(2,.vs [.int .i64 c,.int .i64 d,.sl 4 1 1 0 (List.length a) (List.length a)]),(3,.fl l),(4,.fl n)],5⟩
def jS(c:List Nat)(d:Int)(a:Nat)(b:List Nat) :T (((List Nat))⊕(((List Nat))⊕(bf))) :=
  .ask (decide (((a:Nat):Int)<(((List.length c):Nat):Int)))
    (.need (gA ((a:Nat):Int) (List.length c))<|.need (gM a (List.length b))<|.ask (Fa (lS (List.getD b a 0)) 0)
      (.ask (flt (lS (List.getD b a 0)) 2805742567851819008)
        (.need (gn (cU))<|.leaf (.inr (.inr (.r0 (fG (cU))))))
        (.ask (fgt (lS (List.getD b a 0)) 6408622269748215808)
          (.need (gn (cU))<|.leaf (.inr (.inr (.r0 (fG (cU))))))
          (.need (gA ((a:Nat):Int) (List.length c))<|.need (gM a (List.length b))<|.need (ja (eU (List.getD b a 0) d))<|.need (gA ((a:Nat):Int) (List.length c))<|.need (gM a (List.length b))<|.leaf (.inl (List.set b a (i0 (eU (List.getD b a 0) d)))))))
      (.need (gA ((a:Nat):Int) (List.length c))<|.need (gM a (List.length b))<|.need (ja (eU (List.getD b a 0) d))<|.need (gA ((a:Nat):Int) (List.length c))<|.need (gM a (List.length b))<|.leaf (.inl (List.set b a (i0 (eU (List.getD b a 0) d))))))
    (.leaf (.inr (.inl b)))
def BO(a:Nat)(b:List Nat) :T ((Nat×(List Nat))⊕(((List Nat))⊕(bf))) :=
  .need (dI .i64 (((a+1):Nat):Int))<|.leaf (.inl ((a+1),b))
def ik(b:List Nat)(c:Int) :Nat×(List Nat)→Option ((Nat×(List Nat))⊕(((List Nat))⊕(bf))):=fun (a,d) =>
  aC ((jS b c a d).run) fun e =>
  (BO a e).run
theorem BP(c:Int)(d:Int)(e:Lv)(a:List Nat)(f:Lv)(g:List Nat)(h:Int)(i:Int)(j:Lv)(k:List Nat)(b:Int)(l:List Nat)(m:Nat)(n:List Nat) :Sg prog [] BN (ng c d e a f g h i j k b l (m,n)) (ik a b (m,n)) (ng c d e a f g h i j k b l) (dH 0 (tJ c d e a f g h i j k b l) jb):=by
  unfold ik;exact Sg.cut 3 (bB bL) (bo cx (CS c d e a f g h i j k b l m) [⟨[],[],[8]⟩,⟨[],[],[8]⟩,⟨[],[0,1,2,3,4],[1,3,4,6,9,10,11]⟩,⟨[],[0,1,2,3,4],[1,3,4,6,9,10,11]⟩,⟨[],[0,1,2,3,4],[1,3,4,6,9,10]⟩]) (fun o=>bo cx _ [⟨[],[0,1,2,3,4],[1,3,4,6,9,10,11]⟩])
def BQ(c:Int)(d:Int)(f:Lv)(a:List Nat)(g:Lv)(b:List Nat)(h:Int)(i:Int)(j:Lv)(e:List Nat)(k:Int)(l:List Nat)(m:List Nat)(_:Unit) :aF:=⟨ah 148 [(1,.imm g (.fl b) 1 1 0 (List.length b)),(3,.int .i64 k),(4,.ptr 0 1 0 0),(6,.ptr 1 1 0 0),(9,.ptr 2 1 0 0),(10,.sl 3 1 1 0 (List.length b) (List.length b)),(13,.int .i64 (0:Int))],[(0,.vs [.int .i64 c,.int .i64 d,.imm f (.fl a) 1 1 0 (List.length a)]),(1,.vs [.int .i64 h,.int .i64 i,.imm j (.fl e) 1 1 0 (List.length e)]),(2,.vs [.int .i64 c,.int .i64 d,.sl 4 1 1 0 (List.length a) (List.length a)]),(3,.fl l),(4,.fl m)],5⟩
def BS:T ((Unit)⊕(bf)) :=
  .leaf (.inl ())
def mr(c:Int)(d:Int)(f:Lv)(a:List Nat)(g:Lv)(b:List Nat)(h:Int)(i:Int)(j:Lv)(e:List Nat)(k:Int)(l:List Nat) :Nat×(List Nat)→aF:=fun (m,n)=>⟨ah 148 [(1,.imm g (.fl b) 1 1 0 (List.length b)),(3,.int .i64 k),(4,.ptr 0 1 0 0),(6,.ptr 1 1 0 0),(9,.ptr 2 1 0 0),(10,.sl 3 1 1 0 (List.length b) (List.length b)),(13,.int .i64 ((m:Nat):Int))],[(0,.vs [.int .i64 c,.int .i64 d,.imm f (.fl a) 1 1 0 (List.length a)]),(1,.vs [.int .i64 h,.int .i64 i,.imm j (.fl e) 1 1 0 (List.length e)]),(2,.vs [.int .i64 c,.int .i64 d,.sl 4 1 1 0 (List.length a) (List.length a)]),(3,.fl n),(4,.fl l)],5⟩
def sR(c:Int)(d:Int)(f:Lv)(a:List Nat)(g:Lv)(b:List Nat)(h:Int)(i:Int)(j:Lv)(e:List Nat)(k:List Nat)(l:(List Nat)) :aF:=⟨ah 148 [(1,.imm g (.fl b) 1 1 0 (List.length b)),(4,.ptr 0 1 0 0),(6,.ptr 1 1 0 0),(9,.ptr 2 1 0 0),(10,.sl 3 1 1 0 (List.length b) (List.length b))],[(0,.vs [.int .i64 c,.int .i64 d,.imm f (.fl a) 1 1 0 (List.length a)]),(1,.vs [.int .i64 h,.int .i64 i,.imm j (.fl e) 1 1 0 (List.length e)]),(2,.vs [.int .i64 c,.int .i64 d,.sl 4 1 1 0 (List.length a) (List.length a)]),(3,.fl l),(4,.fl k)],5⟩
def BT:List Code:=cY (d7 ((((((((sQ.drop 2).drop 1).drop 3).drop 1).drop 1).take 1)).headD .skip))
def BU(c:Int)(d:Int)(f:Lv)(a:List Nat)(g:Lv)(b:List Nat)(h:Int)(i:Int)(j:Lv)(e:List Nat)(k:Int)(l:List Nat)(m:Nat)(n:(List Nat)) :aF:=⟨ah 148 [(1,.imm g (.fl b) 1 1 0 (List.length b)),(3,.int .i64 k),(4,.ptr 0 1 0 0),(6,.ptr 1 1 0 0),(9,.ptr 2 1 0 0),(10,.sl 3 1 1 0 (List.length b) (List.length b)),(13,.int .i64 ((m:Nat):Int))],[(0,.vs [.int .i64 c,.int .i64 d,.imm f (.fl a) 1 1 0 (List.length a)]),(1,.vs [.int .i64 h,.int .i64 i,.imm j (.fl e) 1 1 0 (List.length e)]),(2,.vs [.int .i64 c,.int .i64 d,.sl 4 1 1 0 (List.length a) (List.length a)]),(3,.fl n),(4,.fl l)],5⟩
def jT(c:List Nat)(d:Int)(a:Nat)(b:List Nat) :T (((List Nat))⊕(((List Nat))⊕(bf))) :=
  .ask (decide (((a:Nat):Int)<(((List.length c):Nat):Int)))
    (.need (gA ((a:Nat):Int) (List.length c))<|.need (gM a (List.length b))<|.ask (Fa (lS (List.getD b a 0)) 0)
      (.ask (flt (lS (List.getD b a 0)) 2805742567851819008)
        (.need (gn (cU))<|.leaf (.inr (.inr (.r0 (fG (cU))))))
        (.ask (fgt (lS (List.getD b a 0)) 6408622269748215808)
          (.need (gn (cU))<|.leaf (.inr (.inr (.r0 (fG (cU))))))
          (.need (gA ((a:Nat):Int) (List.length c))<|.need (gM a (List.length b))<|.need (ja (eU (List.getD b a 0) d))<|.need (gA ((a:Nat):Int) (List.length c))<|.need (gM a (List.length b))<|.leaf (.inl (List.set b a (i0 (eU (List.getD b a 0) d)))))))
      (.need (gA ((a:Nat):Int) (List.length c))<|.need (gM a (List.length b))<|.need (ja (eU (List.getD b a 0) d))<|.need (gA ((a:Nat):Int) (List.length c))<|.need (gM a (List.length b))<|.leaf (.inl (List.set b a (i0 (eU (List.getD b a 0) d))))))
    (.leaf (.inr (.inl b)))
def BV(a:Nat)(b:List Nat) :T ((Nat×(List Nat))⊕(((List Nat))⊕(bf))) :=
  .need (dI .i64 (((a+1):Nat):Int))<|.leaf (.inl ((a+1),b))
def il(b:List Nat)(c:Int) :Nat×(List Nat)→Option ((Nat×(List Nat))⊕(((List Nat))⊕(bf))):=fun (a,d) =>
  aC ((jT b c a d).run) fun e =>
  (BV a e).run
theorem BW(b:Int)(c:Int)(d:Lv)(e:List Nat)(f:Lv)(a:List Nat)(g:Int)(h:Int)(i:Lv)(j:List Nat)(k:Int)(l:List Nat)(m:Nat)(n:List Nat) :Sg prog [] BT (mr b c d e f a g h i j k l (m,n)) (il a k (m,n)) (mr b c d e f a g h i j k l) (dH 2 (sR b c d e f a g h i j l) jb):=by
  unfold il;exact Sg.cut 3 (bB bL) (bo cx (BU b c d e f a g h i j k l m) [⟨[],[],[8]⟩,⟨[],[],[8]⟩,⟨[],[0,1,2,3,4],[1,3,4,6,9,10,13]⟩,⟨[],[0,1,2,3,4],[1,3,4,6,9,10,13]⟩,⟨[],[0,1,2,3,4],[1,4,6,9,10]⟩]) (fun o=>bo cx _ [⟨[],[0,1,2,3,4],[1,3,4,6,9,10,13]⟩])
def BX(d:Int)(e:Int)(a:List Nat)(b:List Nat)(f:Int)(g:Int)(h:Lv)(c:List Nat)(i:List Nat)(j:List Nat) :Bool×Int→aF:=fun (k,l)=>⟨ah 148 [(6,.ptr 0 1 0 0),(9,.ptr 1 1 0 0),(10,.sl 2 1 1 0 (List.length b) (List.length b)),(15,.bool false k),(16,.int .i64 l)],[(0,.vs [.int .i64 f,.int .i64 g,.imm h (.fl c) 1 1 0 (List.length c)]),(1,.vs [.int .i64 d,.int .i64 e,.sl 3 1 1 0 (List.length a) (List.length a)]),(2,.fl j),(3,.fl i)],4⟩
def mt(d:Int)(e:Int)(a:List Nat)(b:List Nat)(f:Int)(g:Int)(c:List Nat) :T ((Bool×Int)⊕(bf)) :=
  .need (aP 0 (List.length a) a)<|.need (aP 0 (List.length b) b)<|.need (aP 0 (List.length c) c)<|.need (kC (cS d e (aa 0 (List.length a) a) (aa 0 (List.length b) b) f g (aa 0 (List.length c) c)))<|.leaf (.inl ((jX (cS d e (aa 0 (List.length a) a) (aa 0 (List.length b) b) f g (aa 0 (List.length c) c))),(jY (cS d e (aa 0 (List.length a) a) (aa 0 (List.length b) b) f g (aa 0 (List.length c) c)))))
def BY(a:Bool)(b:Int) :Bool×Int→aF:=fun (c,d)=>⟨ah 148 [(15,.bool false a),(16,.int .i64 b),(17,.bool false c),(18,.int .i64 d)],[],0⟩
def mu(f:Int)(g:Int)(b:List Nat)(c:List Nat)(h:Int)(i:Int)(a:List Nat)(d:List Nat)(e:List Nat) :T ((Bool×Int)⊕(bf)) :=
  .need (aP 0 (List.length b) d)<|.need (aP 0 (List.length c) e)<|.need (aP 0 (List.length a) a)<|.need (kC (cS f g (aa 0 (List.length b) d) (aa 0 (List.length c) e) h i (aa 0 (List.length a) a)))<|.leaf (.inl ((jX (cS f g (aa 0 (List.length b) d) (aa 0 (List.length c) e) h i (aa 0 (List.length a) a))),(jY (cS f g (aa 0 (List.length b) d) (aa 0 (List.length c) e) h i (aa 0 (List.length a) a)))))
def BZ(a:Bool) :aF:=⟨ah 148 [(8,.bool false a)],[],0⟩
def mv(a:Bool)(b:Int)(c:Bool)(d:Int) :T ((Bool)⊕(bf)) :=
  .ask (b==(0:Int))
    (.ask (d==(0:Int))
      (.ask (a==c)
        (.need (gn (cU))<|.leaf (.inl (fG (cU))))
        (.leaf (.inl false)))
      (.leaf (.inl false)))
    (.leaf (.inl false))
def B0(a:Bool) :T ((Empty)⊕(bf)) :=
  .leaf (.inr (.r0 a))
def pw(c:Int)(d:Int)(a:List Nat)(b:List Nat)(e:Int)(f:Int)(g:List Nat)(h:Int) :Option bf:=lB (aC ((mo c d a b e f g h).run) fun i =>
  aC ((mp i).run) fun _ =>
  aC ((mq a b).run) fun (j,k) =>
  aC (df (ik a h) (0,k)) fun l =>
  aC ((BS).run) fun _ =>
  aC (df (il b h) (0,j)) fun m =>
  aC ((mt c d a b e f g).run) fun (n,o) =>
  aC ((mu c d a b e f g l m).run) fun (p,q) =>
  aC ((mv n o p q).run) fun r =>
  (B0 r).run)
theorem tK(d:Int)(e:Int)(j:Lv)(a:List Nat)(k:Lv)(b:List Nat)(f:Int)(g:Int)(i:Lv)(c:List Nat)(l:Int){x:bf}(h:pw d e a b f g c l=some x) :aj prog oY [] [.agg [.int .i64 d,.int .i64 e,.imm j (.fl a) 1 1 0 (List.length a)],.imm k (.fl b) 1 1 0 (List.length b),.agg [.int .i64 f,.int .i64 g,.imm i (.fl c) 1 1 0 (List.length c)],.int .i64 l] (pv x) :=
  lO false pv jb h (Sg.cut 2 bL (bo cx (CP d e j a k b f g i c l) [⟨[],[0,16],[1,3,4,6,48]⟩,⟨[],[0,16],[1,3,4,6,48]⟩,⟨[],[0,16],[1,3,4,6,48]⟩,⟨[],[0,16],[1,3,4,6,48]⟩,⟨[],[0,16],[1,3,4,6,48]⟩,⟨[],[0,16],[1,3,4,6,48]⟩]) (fun w=>Sg.cut 1 bL (bo cx (CQ d e j a k b f g i c l) [⟨[],[],[8]⟩,⟨[],[0,1],[1,3,4,6]⟩]) (fun _=>Sg.cut 3 bL (bo cx (CR d e j a k b f g i c l) [⟨[],[0,1,34,82,18],[1,3,4,6,9,10,11]⟩]) (fun ⟨n,y⟩=>Sg.cut 1 bL (Ej ⟨[],[0,1,2,3,4],[1,3,4,6,9,10,11]⟩ (ng d e j a k b f g i c l n) (tJ d e j a k b f g i c l n) 0 bL (tI _) (fun ⟨o,p⟩=>BP d e j a k b f g i c l n o p)) (fun m=>Sg.cut 1 bL (bo cx (BQ d e j a k b f g i c l n m) [⟨[],[0,1,2,3,4],[1,3,4,6,9,10,13]⟩]) (fun _=>Sg.cut 1 bL (Ej ⟨[],[0,1,2,3,4],[1,3,4,6,9,10,13]⟩ (mr d e j a k b f g i c l m) (sR d e j a k b f g i c m) 2 bL (tI _) (fun ⟨q,r⟩=>BW d e j a k b f g i c l m q r)) (fun s=>Sg.cut 1 bL (bo cx (BX d e a b f g i c m s) [⟨[],[1,2,3,4],[6,9,10,15,16]⟩]) (fun ⟨t,u⟩=>Sg.cut 1 bL (bo cx (BY t u) [⟨[],[],[15,16,17,18]⟩]) (fun ⟨z,A⟩=>Sg.cut 1 bL (bo cx BZ [⟨[],[],[8]⟩,⟨[],[],[8]⟩,⟨[],[],[8]⟩,⟨[],[],[8]⟩]) (fun B=>bo cx _ [⟨[],[],[8]⟩]))))))))))
    (fun x=>by cases x with | r0 v=>exact lC [.bool false v])
def nh:Option bf→Bool
  | some _=>true
  | none=>false
def q7:Option bf→Bool
  | some (.r0 x)=>x
  | _=>false
theorem CT{x:Option bf}(h:nh x=true) :x=some (.r0 (q7 x)):=by
  unfold nh at h
  split at h<;>first | rfl | (cases h;done) | (rename_i y;cases y;rfl)
def vE:aE:=bT oY (.cons (.agg (.cons (.int .i64) (.cons (.int .i64) (.cons .fl .nil)))) (.cons .fl (.cons (.agg (.cons (.int .i64) (.cons (.int .i64) (.cons .fl .nil)))) (.cons (.int .i64) .nil)))) fun t=>(fun q=>[⟨pv (.r0 (q7 q)),[nh q]⟩]) (pw t.1.1 t.1.2.1 t.1.2.2.1.2 t.2.1.2 t.2.2.1.1 t.2.2.1.2.1 t.2.2.1.2.2.1.2 t.2.2.2.1)
theorem Ak:aO prog vE:=aJ fun t=>(aK (fun h=>tK t.1.1 t.1.2.1 t.1.2.2.1.1 t.1.2.2.1.2 t.2.1.1 t.2.1.2 t.2.2.1.1 t.2.2.1.2.1 t.2.2.1.2.2.1.1 t.2.2.1.2.2.1.2 t.2.2.2.1 (CT h)) bb)
def E1:List aE:=vE::DP
theorem T7:bc prog (bh E1):=ap Ak cx
end
end Go.Plb.Seat
namespace Go.Plb.Seat
open Go Go.Plb
set_option linter.unusedSimpArgs false
set_option linter.unusedVariables false
theorem TT{α:Type}{n:Nat}{l:List α}(h:l.length=n) :aP 0 n l=true:=by rw [←h];exact U2 l
theorem ai{α:Type}{b:Bool}{t:T α}{x:Option α}(k:t.run=x)(h:b=true:=by simp only [cK,v5,xQ,lH,mC,fM,mD,mE,decide_eq_true_eq,decide_eq_false_iff_not,beq_iff_eq,beq_eq_false_iff_ne,bne_iff_ne,bne_eq_false_iff_eq,Bool.not_eq_true',Bool.not_eq_false',List.length_set,ne_eq,ge_iff_le,gt_iff_lt,iv,ct,sG];omega) :(T.need b t).run=x:=cn h k
theorem cF{α:Type}{b:Bool}{t f:T α}{x:Option α}(k:t.run=x)(h:b=true:=by simp only [cK,v5,xQ,lH,mC,fM,mD,mE,decide_eq_true_eq,decide_eq_false_iff_not,beq_iff_eq,beq_eq_false_iff_ne,bne_iff_ne,bne_eq_false_iff_eq,Bool.not_eq_true',Bool.not_eq_false',List.length_set,ne_eq,ge_iff_le,gt_iff_lt,iv,ct,sG];omega) :(T.ask b t f).run=x:=j2 h k
theorem cP{α:Type}{b:Bool}{t f:T α}{x:Option α}(k:f.run=x)(h:b=false:=by simp only [cK,v5,xQ,lH,mC,fM,mD,mE,decide_eq_true_eq,decide_eq_false_iff_not,beq_iff_eq,beq_eq_false_iff_ne,bne_iff_ne,bne_eq_false_iff_eq,Bool.not_eq_true',Bool.not_eq_false',List.length_set,ne_eq,ge_iff_le,gt_iff_lt,iv,ct,sG];omega) :(T.ask b t f).run=x:=co h k
theorem kt{α:Type}{b:Bool}{t:T α}{x:Option α}(k:t.run=x)(h:b=true:=by exact TT az) :(T.need b t).run=x:=cn h k
theorem aT{v n m:Nat}(h:m≤n) :aP 0 m (ay v n)=true:=by rw [fM,az];omega
theorem ir{v n:Nat}(h:v<W^n)(hn:n≤1000000000) :au (ay v n)=some (.r0 (ay v n) (nl v)):=by
  have hl:=gZ h
  refine aR (ae rfl (ae (a:=nl v) (bU (fun j=>n-j) (n-nl v) (by simp only [az];rfl) (fun j hj=>?_) ?_) rfl))
  · show aC (p5 _ _).run _=_
    have e:Int.toNat (((n-j:Nat):Int)-1)=n-(j+1):=by omega
    have z:(ay v n).getD (n-(j+1)) 0=0:=by
      rw [cr h]
      exact yJ (Nat.lt_of_lt_of_le (cX v) (Nat.pow_le_pow_right (by decide) (by omega)))
    refine ae (a:=true) ?_ ?_
    · unfold p5
      rw [e,z,az]
      exact cF (ai (ai (ai rfl)))
    · unfold FX
      rw [e]
      exact bj (ai (ai (ai rfl)))
  · have e0:n-(n-nl v)=nl v:=by omega
    show aC (p5 _ _).run _=_
    rw [e0]
    by_cases h0:v=0
    · have z:=lW.2 h0
      rw [z]
      exact ae (a:=false) (aS rfl) (aS rfl)
    · have hp:=uR h0
      have e:Int.toNat (((nl v:Nat):Int)-1)=nl v-1:=by omega
      refine ae (a:=false) ?_ (aS rfl)
      unfold p5
      rw [e,cr h,az]
      refine cF (ai (ai (ai ?_)))
      show some (Sum.inl _)=_
      congr 2
      rw [beq_eq_false_iff_ne];exact Ya h0
theorem vF{v n:Nat}(h:v<W^n)(hn:n≤1000000000) :bi (ay v n) 0 n n=some (.r0 0 (nl v) n (ay v n)):=by
  have hl:=gZ h
  refine aR (ae rfl (ae (a:=(0,nl v)) (bU (fun j=>(0,n-j)) (n-nl v) rfl (fun j hj=>?_) ?_) rfl))
  · show aC (kX _ _ _).run _=_
    have e:Int.toNat (((n-j:Nat):Int)-1)=n-(j+1):=by omega
    have z:(ay v n).getD (n-(j+1)) 0=0:=by
      rw [cr h]
      exact yJ (Nat.lt_of_lt_of_le (cX v) (Nat.pow_le_pow_right (by decide) (by omega)))
    refine ae (a:=true) ?_ ?_
    · unfold kX
      rw [e,j3,Nat.zero_add,z,az]
      exact cF (ai (ai (ai rfl)))
    · unfold z9
      rw [e]
      exact bj (ai (ai (ai rfl)))
  · have e0:n-(n-nl v)=nl v:=by omega
    show aC (kX _ _ _).run _=_
    rw [e0]
    by_cases h0:v=0
    · have z:=lW.2 h0
      rw [z]
      exact ae (a:=false) (aS rfl) (aS rfl)
    · have hp:=uR h0
      have e:Int.toNat (((nl v:Nat):Int)-1)=nl v-1:=by omega
      refine ae (a:=false) ?_ (aS rfl)
      unfold kX
      rw [e,j3,Nat.zero_add,cr h,az]
      refine cF (ai (ai (ai ?_)))
      show some (Sum.inl _)=_
      congr 2
      rw [beq_eq_false_iff_ne];exact Ya h0
theorem Rv{v n:Nat}(h:v<W^n)(hn:n≤1000000000) :l4 (ay v n)=some (if 4096<nl v then .r0 0 2 [] else .r0 (nl v) 0 (ay v (nl v))):=by
  have hl:=gZ h
  have hc:aa 0 (ay v n).length (ay v n)=ay v n:=aB _
  by_cases hb:4096<nl v
  · rw [if_pos hb]
    refine aR (ae (a:=(2,ay v n,nl v)) ?_ (bj rfl))
    unfold AU
    rw [hc,ir h hn]
    simp only [bM,aG,aA]
    exact bj (ag (ba (ag (cF rfl))))
  · rw [if_neg hb]
    refine aR (ae (a:=(0,ay v n,nl v)) ?_ ?_)
    · unfold AU
      rw [hc,ir h hn]
      simp only [bM,aG,aA]
      exact bj (ag (ba (ag (cP (ag (aS rfl))))))
    · show (AW _ _ _).run=_
      unfold AW
      rw [bp hl,az]
      exact aS (cn (aT hl) (ai rfl))
theorem aav{v:Nat}(h:v<W) :bt (v:Int)=some (.r0 0 (nl v) 1 (ay v 1)):=by
  have e:([(v:Int)]:List Int)=ay v 1:=by
    show [(v:Int)]=[]++[lm v 0]
    unfold lm;rw [Nat.pow_zero,Nat.div_one,Nat.mod_eq_of_lt h];rfl
  refine aR (ae (a:=(0,nl v,1,ay v 1)) ?_ rfl)
  unfold Q0
  rw [e,vF (by rw [Nat.pow_one];exact h) (by decide)]
  exact ag rfl
theorem Rw{v n:Nat}(h:v<W^n)(hn:n≤1000000000) :fo (ay v n) 0 n n=some (if 4096<nl v then .r0 (ay v n) else .r1 0 (nl v) n (ay v n)):=by
  refine aR (ae (a:=(0,nl v,n,ay v n)) ?_ ?_)
  · unfold IV
    rw [vF h hn]
    exact ag rfl
  · by_cases hb:4096<nl v
    · rw [if_pos hb];exact cF rfl
    · rw [if_neg hb];exact cP rfl
theorem Xc{a b:Nat}(ha:nl a≤1000000)(hb:nl b≤1000000) :rq (ay a (nl a)) (ay b (nl b))=some (.r0 (vH a b)):=by
  refine aR ?_
  by_cases h1:nl a<nl b
  · have:vH a b = -1:=by unfold vH;rw [if_pos (U4 h1)]
    rw [this]
    refine be ?_
    unfold yM
    rw [az,az]
    exact cF rfl
  by_cases h2:nl b<nl a
  · have hlt:=U4 h2
    have:vH a b=1:=by unfold vH;rw [if_neg (by omega),if_pos hlt]
    rw [this]
    refine be ?_
    unfold yM
    rw [az,az]
    exact cP (cF rfl)
  have hn:nl b=nl a:=by omega
  have hA:=cX a
  have hB:=cX b
  rw [hn] at hB hb ⊢
  generalize nl a=n at *
  refine ae (a:=((n:Int)-1)) ?_ ?_
  · unfold yM
    rw [az,az]
    exact cP (cP (ai rfl))
  have step:∀ j,j<n→lm a (n-1-j)=lm b (n-1-j)→we (ay a n) (ay b n) ((n:Int)-1-j)=some (.inl ((n:Int)-1-(j+1:Nat))):=by
    intro j hj he
    show (uU _ _ _).run=_
    unfold uU
    have e:Int.toNat ((n:Int)-1-(j:Int))=n-1-j:=by omega
    rw [e,cr hA,cr hB,az,az,he]
    refine cF (ai (ai (ai (ai (co (by simp) (ai (ai (ai (ai (co (by simp) (ai ?_)))))))))))
    show some (Sum.inl _)=_
    congr 2;omega
  by_cases hall:∀ j,j<n→lm a (n-1-j)=lm b (n-1-j)
  · have hab:a=b:=by
      have:=LD hA hB (d:=n) (Nat.le_refl _) fun k _ h2=>by
        have:=hall (n-1-k) (by omega)
        rwa [show n-1-(n-1-k)=k by omega] at this
      simpa using this
    subst hab
    have:vH a a=0:=by unfold vH;rw [if_neg (Nat.lt_irrefl _),if_neg (Nat.lt_irrefl _)]
    rw [this]
    exact ae (bU (fun j=>(n:Int)-1-(j:Nat)) n (by omega) (fun j hj=>step j hj (hall j hj)) (cP rfl)) rfl
  · obtain ⟨k,hk,hb',hf⟩:=rj hall
    have hup:a/W^(n-1-k+1)=b/W^(n-1-k+1):=by
      have:=LD hA hB (d:=k) (by omega) fun i h1 h2=>by
        have:=hf (n-1-i) (by omega)
        rwa [show n-1-(n-1-i)=i by omega] at this
      rwa [show n-k=n-1-k+1 by omega] at this
    refine be (bU (fun j=>(n:Int)-1-(j:Nat)) k (by omega) (fun j hj=>step j (by omega) (hf j hj)) ?_)
    show (uU _ _ _).run=_
    unfold uU
    have e:Int.toNat ((n:Int)-1-(k:Int))=n-1-k:=by omega
    rw [e,cr hA,cr hB,az,az]
    refine cF (ai (ai (ai (ai ?_))))
    by_cases hlt:lm a (n-1-k)<lm b (n-1-k)
    · have:=LE hup hlt
      have:vH a b = -1:=by unfold vH;rw [if_pos this]
      rw [this]
      exact j2 (decide_eq_true hlt) rfl
    · have hgt:lm b (n-1-k)<lm a (n-1-k):=by omega
      have hlt':=LE hup.symm hgt
      have:vH a b=1:=by unfold vH;rw [if_neg (by omega),if_pos hlt']
      rw [this]
      exact co (decide_eq_false hlt) (ai (ai (ai (ai (j2 (decide_eq_true hgt) rfl)))))
theorem acM{x y nx ny:Nat}(hx:x<W^nx)(hy:y<W^ny)(hn:ny≤nx)(hb:nx≤1000000){lx ly:List Int}(ex:∀ i,i<nx→lx.getD i 0=lm x i)(ey:∀ i,i<ny→ly.getD i 0=lm y i)(hlx:nx≤lx.length)(hly:ny≤ly.length) :
    df (sK lx nx ly ny (nx+1)) (0,0,ay 0 (nx+1))=some (.inl (xS x y nx/W^nx,ay (xS x y nx%W^nx) (nx+1))):=by
  refine bU (fun j=>(j,xS x y j/W^j,ay (xS x y j%W^j) (nx+1))) nx (by simp [xS,Nat.mod_one]) (fun j hj=>?_) (be (cP rfl))
  have hc:=LF (x:=x) (y:=y) (j:=j)
  have hS:=Nat.mod_lt (xS x y j) (fi j)
  have hst:=aa9 x y j
  obtain ⟨d1,d2⟩:=Eh (t:=x/W^j%W+y/W^j%W+xS x y j/W^j) hS
  rw [←hst] at d1 d2
  have fj:=tV (n:=nx+1) hS (Nat.mod_lt (x/W^j%W+y/W^j%W+xS x y j/W^j) (show W>0 by decide)) (by omega)
  rw [←d2] at fj
  show aC (AZ _ _ _ _ _ _ _ _).run _=_
  refine ae (a:=(xS x y (j+1)/W^(j+1),ay (xS x y (j+1)%W^(j+1)) (nx+1))) ?_ (ai rfl)
  unfold AZ
  rw [ex j hj,az]
  by_cases hyj:j<ny
  · rw [ey j hyj]
    refine cF (cF (ai (ai (ai (ai (ai (ai (ai ?_))))))))
    rw [AP,AP,fj,d1];rfl
  · have y0:y/W^j%W=0:=by
      rw [Nat.div_eq_of_lt (Nat.lt_of_lt_of_le hy (Nat.pow_le_pow_right (by decide) (by omega)))];rfl
    rw [y0] at fj d1
    refine cF (cP (ai (ai (ai (ai (ai ?_))))))
    rw [AP,fj,d1];rfl
theorem acN{a b n m:Nat}(ha:a<W^n)(hb:b<W^m)(hn:n≤1000000)(hm:m≤1000000)(h1:nl a≤4096)(h2:nl b≤4096)(h3:nl (a+b)≤4096) :
    bD (ay a n) (ay b m)=some (.r0 0 (nl (a+b)) (max (nl a) (nl b)+1) 0 (ay (a+b) (max (nl a) (nl b)+1))):=by
  have la:=gZ ha
  have lb:=gZ hb
  refine aR (ae (a:=(0,ay a n,nl a,ay b m,nl b)) ?_ ?_)
  · unfold IX
    rw [aB,aB,ir ha (by omega),ir hb (by omega)]
    simp only [bM,aG,aA]
    exact bj (ag (ba (ag (cP (ag (bj (ag (ba (ag (cP (ag (aS rfl))))))))))))
  have mF:∀ {x y nx ny:Nat} {lx ly:List Int},x<W^nx→y<W^ny→ny≤nx→nx≤4096→(∀ i,i<nx→lx.getD i 0=lm x i)→(∀ i,i<ny→ly.getD i 0=lm y i)→nx≤lx.length→ny≤ly.length→nl (x+y)≤4096 →
      (aC ((AY nx).run) fun (o10,l11)=>aC (df (sK lx nx ly ny o10) (0,0,l11)) fun (a19,l20)=>aC ((A0 nx o10 a19 l20).run) fun (a21,a22,a23,a24,l25)=>(IY a21 a22 a23 a24 l25).run)
        = some (.inr (.r0 0 (nl (x+y)) (nx+1) 0 (ay (x+y) (nx+1)))):=by
    intro x y nx ny lx ly hx hy hle hnx ex ey hlx hly h4
    refine ae (a:=(nx+1,ay 0 (nx+1))) ?_ (ae (acM hx hy hle (by omega) ex ey hlx hly) (ae (a:=(0,nl (x+y),nx+1,0,ay (x+y) (nx+1))) ?_ rfl))
    · unfold AY
      rw [Cp]
      exact ai (ai (ai (ai (ai rfl))))
    · have hyx:y<W^nx:=Nat.lt_of_lt_of_le hy (Nat.pow_le_pow_right (by decide) hle)
      have hs:xS x y nx=x+y:=by unfold xS;rw [Nat.mod_eq_of_lt hx,Nat.mod_eq_of_lt hyx]
      have hc:=LF (x:=x) (y:=y) (j:=nx)
      have fj:=tV (u:=(x+y)%W^nx) (x:=(x+y)/W^nx) (j:=nx) (n:=nx+1) (Nat.mod_lt _ (fi _)) (by rw [hs] at hc;exact Nat.lt_of_le_of_lt hc (by decide)) (by omega)
      have hv:(x+y)%W^nx+(x+y)/W^nx*W^nx=x+y:=by rw [Nat.mul_comm];exact Nat.mod_add_div _ _
      rw [hv] at fj
      have hb2:x+y<W^(nx+1):=by
        rw [Nat.pow_succ]
        have h:=fi nx
        generalize W^nx=P at *
        have:(2:Nat)*P≤P*W:=by rw [Nat.mul_comm];exact Nat.mul_le_mul_left _ (by decide)
        omega
      unfold A0
      rw [hs,fj,Rw hb2 (by omega),if_neg (by omega),az]
      exact ai (ai (aeZ (ae0 rfl) (aa5 (ag rfl))))
  by_cases hlt:nl a<nl b
  · refine ae (a:=(ay b m,nl b,ay a n,nl a)) (aS (cF rfl)) ?_
    have:=mF (x:=b) (y:=a) (nx:=nl b) (ny:=nl a) (lx:=ay b m) (ly:=ay a n) (cX b) (cX a) (by omega) h2 (fun i hi=>cr hb i) (fun i hi=>cr ha i) (by rw [az];exact lb) (by rw [az];exact la) (by rw [Nat.add_comm];exact h3)
    rw [Nat.add_comm b a] at this
    rw [show max (nl a) (nl b)=nl b by omega]
    exact this
  · refine ae (a:=(ay a n,nl a,ay b m,nl b)) (aS (cP rfl)) ?_
    have:=mF (x:=a) (y:=b) (nx:=nl a) (ny:=nl b) (lx:=ay a n) (ly:=ay b m) (cX a) (cX b) (by omega) h1 (fun i hi=>cr ha i) (fun i hi=>cr hb i) (by rw [az];exact la) (by rw [az];exact lb) h3
    rw [show max (nl a) (nl b)=nl a by omega]
    exact this
def Xd(a b n j:Nat) :List Int:=i5 (fun i=>if i<j then lm (JN a b j) i else lm a i) n
theorem abl{a b n j:Nat}(hj:j<n) :(Xd a b n j).set j (((a/W^j%W+W-b/W^j%W-LG a b j)%W:Nat):Int)=Xd a b n (j+1):=by
  unfold Xd
  rw [uy hj]
  refine dB fun i hi=>?_
  have hD:=(aaj (a:=a) (b:=b) (j:=j)).1
  have h:=Eg hD (Nat.mod_lt (a/W^j%W+W-b/W^j%W-LG a b j) (show W>0 by decide)) i
  rw [←(U5 a b j).2] at h
  by_cases e:i=j
  · subst e
    rw [if_pos rfl,if_pos (by omega),h,if_pos rfl]
  · rw [if_neg e] at h ⊢
    by_cases q:i<j
    · rw [if_pos q,if_pos (by omega),h]
    · rw [if_neg q,if_neg (by omega)]
theorem xN{a b n m:Nat}(ha:a<W^n)(hb:b<W^m)(hle:b≤a)(hmn:m≤n)(hn:n≤1000000) :rt (ay a n) (ay b m)=some (.r0 0 (nl (a-b)) n (ay (a-b) n)):=by
  have hbn:b<W^n:=Nat.lt_of_lt_of_le hb (Nat.pow_le_pow_right (by decide) hmn)
  refine aR (ae (a:=(n,ay a n)) ?_ (ae (a:=ay (a-b) n) ?_ (ae (a:=(0,nl (a-b),n,ay (a-b) n)) ?_ rfl)))
  · unfold IZ
    rw [aB,az]
    exact cn (aT (Nat.le_refl _)) (ai rfl)
  · have e0:ay a n=Xd a b n 0:=dB fun i _=>by rw [if_neg (by omega)]
    have en:Xd a b n n=ay (a-b) n:=by
      refine dB fun i hi=>?_
      have hd:JN a b n=a-b:=by
        unfold JN LG
        rw [Nat.mod_eq_of_lt ha,Nat.mod_eq_of_lt hbn,if_neg (by omega),Nat.zero_mul,Nat.add_zero]
      rw [if_pos hi,hd]
    have b0:LG a b 0=0:=by unfold LG;rw [Nat.pow_zero,Nat.mod_one,Nat.mod_one];rfl
    show df _ ((0:Int),0,ay a n)=_
    refine bU (fun j=>(((LG a b j:Nat):Int),j,Xd a b n j)) n (by rw [b0,←e0];rfl) (fun j hj=>?_) (be (co (by rw [az];simp) (by rw [en];rfl)))
    have hbr:LG a b j≤1:=by unfold LG;split<;>omega
    have hl:(Xd a b n j).length=n:=eF
    obtain ⟨s1,s2⟩:=U5 a b j
    have hst:=abl (a:=a) (b:=b) hj
    show aC (A1 _ _ _ _ _ _).run _=_
    refine ae (a:=(((LG a b (j+1):Nat):Int),Xd a b n (j+1))) ?_ (ai rfl)
    unfold A1
    rw [cr ha,az,az,hl,ct,AP]
    have blt:∀ p q:Nat,(bif Nat.blt p q then (1:Int) else 0)=(((if p<q then 1 else 0:Nat)):Int):=by
      intro p q
      by_cases h:p<q
      · rw [if_pos h,show Nat.blt p q=true by rw [Nat.blt_eq];exact h];rfl
      · rw [if_neg h]
        cases e:Nat.blt p q with
        | true=>rw [Nat.blt_eq] at e;exact absurd e h
        | false=>rfl
    by_cases hjm:j<m
    · rw [cr hb,AP,blt,←s1,hst]
      exact cF (cF (ai (ai (ai (ai (ai (ai (ai rfl))))))))
    · have y0:b/W^j%W=0:=by
        rw [Nat.div_eq_of_lt (Nat.lt_of_lt_of_le hb (Nat.pow_le_pow_right (by decide) (by omega)))];rfl
      rw [y0] at s1 hst
      refine cF (cP (ai (ai (ai (ai (ai ?_))))))
      rw [blt,←s1,hst];rfl
  · unfold I0
    rw [vF (Nat.lt_of_le_of_lt (Nat.sub_le _ _) ha) (by omega)]
    exact ag rfl
theorem Xe{a b n m:Nat}(ha:a<W^n)(hb:b<W^m)(hn:n≤1000000)(hm:m≤1000000)(h1:nl a≤4096)(h2:nl b≤4096)(hle:b≤a) :
    bu (ay a n) (ay b m)=some (.r0 (ay (a-b) (nl a)) 0 (nl (a-b)) 0):=by
  have la:=gZ ha
  have lb:=gZ hb
  have hnn:nl b≤nl a:=gZ (Nat.lt_of_le_of_lt hle (cX a))
  refine aR (ae (a:=(0,ay a n,nl a,ay b m,nl b)) ?_ (ae (a:=false) ?_ (ae (a:=(ay (a-b) (nl a),0,nl (a-b))) ?_ rfl)))
  · unfold Mc
    rw [aB,aB,ir ha (by omega),ir hb (by omega)]
    simp only [bM,aG,aA]
    exact bj (ag (ba (ag (cP (ag (bj (ag (ba (ag (cP (ag (aS rfl))))))))))))
  · unfold Md
    rw [bp la,bp lb,Xc (by omega) (by omega)]
    refine aS (cn (aT la) (cn (aT lb) (ag ?_)))
    show some (Sum.inl _)=_
    congr 2
    show decide (vH a b<0)=false
    unfold vH
    rw [if_neg (by omega)]
    split<;>rfl
  · unfold Me
    rw [bp la,bp lb,xN (cX a) (cX b) hle hnn (by omega)]
    exact aS (cn (aT la) (cn (aT lb) (ag rfl)))
theorem Xf{a b n m:Nat}(ha:a<W^n)(hb:b<W^m)(hn:n≤1000000)(hm:m≤1000000)(h1:nl a≤4096)(h2:nl b≤4096) :
    rr (ay a n) (ay b m)=some (.r0 (vH a b) 0):=by
  have la:=gZ ha
  have lb:=gZ hb
  refine aR (ae (a:=(0,ay a n,nl a,ay b m,nl b)) ?_ (ae (a:=vH a b) ?_ rfl))
  · unfold L5
    rw [aB,aB,ir ha (by omega),ir hb (by omega)]
    simp only [bM,aG,aA]
    exact bj (ag (ba (ag (cP (ag (bj (ag (ba (ag (cP (ag (aS rfl))))))))))))
  · unfold L6
    rw [bp la,bp lb,Xc (by omega) (by omega)]
    exact aS (cn (aT la) (cn (aT lb) (ag rfl)))
theorem ZC{x y:Nat}(hx:x<W)(hy:y<W) :eA (x:Int) (y:Int)=some (.r0 ((x*y/W:Nat):Int) ((x*y%W:Nat):Int)):=by
  obtain ⟨h1,h2,h3,h4,h5,h6,h7,h8,h9⟩:=Yb hx hy
  have s:∀ z:Nat,Int.fdiv (z:Int) (2^(min (Int.toNat (32:Int)) (IntKind.u64.bits)))=((z/4294967296:Nat):Int):=fun z=>tW z (k:=32) (by decide)
  refine aR (ae (a:=(((x%4294967296:Nat):Int),((x/4294967296:Nat):Int),((y/4294967296:Nat):Int),((x/4294967296*(y%4294967296)+x%4294967296*(y%4294967296)/4294967296:Nat):Int))) ?_ ?_)
  · unfold uS
    rw [Si hx,Si hy,s,s,xT,xT,Nat.mod_eq_of_lt h2,Nat.mod_eq_of_lt h3,s,nn,Nat.mod_eq_of_lt h1]
    exact ag (ag (ag rfl))
  · show (o7 _ _ _ _ _ _).run=_
    unfold o7
    rw [xT,xT,xT,Si h1,s,nn,nn,Nat.mod_eq_of_lt h4,Nat.mod_eq_of_lt h5,Nat.mod_eq_of_lt h6,Nat.mod_eq_of_lt h7,s,nn,h8,Nat.mod_eq_of_lt h9]
    exact ag (ag rfl)
theorem acO{O a m k n N:Nat}(hO:O<W^(k+n))(ha:a<W^n)(hm:m<W)(hN:k+n≤N)(hb:N≤1000000) :
    rv (ay O N) k (N-k) (ay a n) (m:Int)=some (.r0 (((O+a*m*W^k)/W^(k+n):Nat):Int) (ay ((O+a*m*W^k)%W^(k+n)) N)):=by
  refine aR (ae rfl (ae (a:=((((O+a*m*W^k)/W^(k+n):Nat):Int),ay ((O+a*m*W^k)%W^(k+n)) N)) ?_ rfl))
  have c0:pY O a m k 0/W^(k+0)=0:=by
    have e:pY O a m k 0=O%W^k:=by unfold pY;rw [Nat.pow_zero,Nat.mod_one,Nat.zero_mul,Nat.zero_mul,Nat.add_zero,Nat.add_zero]
    rw [e,Nat.add_zero,Nat.div_eq_of_lt (Nat.mod_lt _ (fi _))]
  refine bU (fun i=>(((pY O a m k i/W^(k+i):Nat):Int),i,On O a m k N i)) n (by rw [c0,aba];rfl) (fun i hi=>?_) ?_
  · have hc:=Yc (O:=O) (a:=a) (m:=m) (k:=k) (i:=i)
    have hcW:pY O a m k i/W^(k+i)<W:=Nat.lt_of_le_of_lt hc hm
    have hla:=Nat.mod_lt (a/W^i) (show W>0 by decide)
    have hlO:=Nat.mod_lt (O/W^(k+i)) (show W>0 by decide)
    have hl:=acp (O:=O) (a:=a) (m:=m) (k:=k) (n:=N) (i:=i)
    have hat:=adq (O:=O) (a:=a) (m:=m) (k:=k) (n:=N) (i:=i) (by omega)
    have hst:=abb (O:=O) (a:=a) (m:=m) (k:=k) (n:=N) (i:=i) (by omega)
    obtain ⟨w1,w2,w3,w4⟩:=acr hla hm hcW hlO
    have hS:=Nat.mod_lt (pY O a m k i) (fi (k+i))
    obtain ⟨d1,_⟩:=Eh (t:=O/W^(k+i)%W+a/W^i%W*m+pY O a m k i/W^(k+i)) hS
    rw [←QS] at d1
    show aC (sL _ _ _ _ _ _ _).run _=_
    refine ae (a:=(((pY O a m k (i+1)/W^(k+i+1):Nat):Int),On O a m k N (i+1))) ?_ (ai rfl)
    unfold sL
    rw [cr ha,rl,ZC hla hm]
    simp only [i6,ju,fw,j3]
    rw [hat,rl,az,hl]
    simp only [ct,Nat.add_zero]
    rw [nn,Nat.mod_eq_of_lt w2,nn,w1,w3,Nat.mod_eq_of_lt w4,hst,←d1]
    exact cF (ai (ai (ag (ag (ai (ai (ag (ai (ai rfl)))))))))
  · show aC (sL _ _ _ _ _ _ _).run _=_
    refine be ?_
    unfold sL
    rw [U8 hO ha,acq hO,U8 hO ha,az]
    exact co (by simp) rfl
theorem TU{a b n m:Nat}(ha:a<W^n)(hb:b<W^m) :a*b<W^(n+m):=by
  rw [Nat.pow_add]
  rcases Nat.eq_zero_or_pos b with h | h
  · rw [h,Nat.mul_zero];exact Nat.mul_pos (fi _) (fi _)
  · exact Nat.mul_lt_mul_of_lt_of_le ha (Nat.le_of_lt hb) (fi _) |> fun q=>q
theorem acP{a b n m:Nat}(ha:a<W^n)(hb:b<W^m)(hn:n≤1000000)(hm:m≤1000000)(h1:nl a+nl b≤4096) :
    pB (ay a n) (ay b m)=some (.r0 0 (nl (a*b)) (nl a+nl b) 0 (ay (a*b) (nl a+nl b))):=by
  have la:=gZ ha
  have lb:=gZ hb
  have hA:=cX a
  have hB:=cX b
  have hab:=TU hA hB
  have hnab:=gZ hab
  refine aR (ae (a:=(0,ay a n,nl a,ay b m,nl b)) ?_ (ae (a:=false) (aS (ai (cP rfl))) (ae (a:=(nl a+nl b,ay 0 (nl a+nl b))) ?_ (ae (a:=ay (a*b) (nl a+nl b)) ?_ (ae (a:=(0,nl (a*b),nl a+nl b,0,ay (a*b) (nl a+nl b))) ?_ rfl)))))
  · unfold I1
    rw [aB,aB,ir ha (by omega),ir hb (by omega)]
    simp only [bM,aG,aA]
    exact bj (ag (ba (ag (cP (ag (bj (ag (ba (ag (cP (ag (aS rfl))))))))))))
  · unfold I2
    rw [Cp]
    exact aS (ai (ai (ai (ai (ai rfl)))))
  · refine bU (fun k=>(k,ay (a*(b%W^k)) (nl a+nl b))) (nl b) (by simp [Nat.mod_one]) (fun k hk=>?_) (be (cP (by rw [Nat.mod_eq_of_lt hB];rfl)))
    have hO:a*(b%W^k)<W^(k+nl a):=by rw [Nat.add_comm];exact TU hA (Nat.mod_lt _ (fi k))
    have hlb:=Nat.mod_lt (b/W^k) (show W>0 by decide)
    have hs:=acO (N:=nl a+nl b) hO hA hlb (by omega) (by omega)
    have e:a*(b%W^k)+a*(b/W^k%W)*W^k=a*(b%W^(k+1)):=by rw [pX,Nat.mul_add,Nat.mul_assoc]
    rw [e] at hs
    have hO1:a*(b%W^(k+1))<W^(k+nl a+1):=by
      rw [show k+nl a+1=nl a+(k+1) by omega];exact TU hA (Nat.mod_lt _ (fi (k+1)))
    have hcar:a*(b%W^(k+1))/W^(k+nl a)<W:=by
      exact Nat.div_lt_of_lt_mul (by rw [←Nat.pow_succ];exact hO1)
    have fj:=tV (u:=a*(b%W^(k+1))%W^(k+nl a)) (x:=a*(b%W^(k+1))/W^(k+nl a)) (j:=k+nl a) (n:=nl a+nl b) (Nat.mod_lt _ (fi _)) hcar (by omega)
    have hv:a*(b%W^(k+1))%W^(k+nl a)+a*(b%W^(k+1))/W^(k+nl a)*W^(k+nl a)=a*(b%W^(k+1)):=by rw [Nat.mul_comm (a*(b%W^(k+1))/W^(k+nl a))];exact Nat.mod_add_div _ _
    rw [hv] at fj
    show aC (A4 _ _ _ _ _ _ _).run _=_
    refine ae (a:=ay (a*(b%W^(k+1))) (nl a+nl b)) ?_ (ai rfl)
    unfold A4
    rw [bp la,cr hb,rl,hs]
    simp only [uZ,ud,p9]
    rw [fj,az,az]
    exact cF (ai (ai (ai (ai (ai (cn (aT la) (ag (ai (ai rfl)))))))))
  · unfold I3
    rw [Rw hab (by omega),if_neg (by omega)]
    exact aeZ (ae0 rfl) (aa5 (ag rfl))
theorem aeu:∀ z:Fin 64,List.getD aQ (2^z.val*285870213051353865%W/2^58) 0=(z.val:Int)∧2^z.val*285870213051353865%W/2^58<64:=by decide +kernel
theorem adD:List.length aQ=64:=by decide +kernel
theorem aev{x:Nat}(h0:x≠0)(h:x<W) :dp .and .u64 (x:Int) (IntKind.u64.wrap ((0:Int)-(x:Int)))=((2^tz x:Nat):Int):=by
  rw [acv h0 h,FP,Nat.mod_eq_of_lt h,Nat.mod_eq_of_lt (Nat.sub_lt (by decide) (Nat.pos_of_ne_zero h0)),ads h0 h]
theorem adE(y:Nat) :Int.fdiv (IntKind.u64.wrap ((y:Int)*(285870213051353865:Int))) (2^(min (Int.toNat (58:Int)) IntKind.u64.bits))=((y*285870213051353865%W/2^58:Nat):Int):=by
  have e:(285870213051353865:Int)=((285870213051353865:Nat):Int):=by omega
  rw [e,xT]
  exact tW _ (k:=58) (by decide)
theorem aew{z:Nat}(h:z<64) :IntKind.i64.wrap ((z:Nat):Int)=((z:Nat):Int):=by
  have:∀ z:Fin 64,IntKind.i64.wrap ((z.val:Nat):Int)=((z.val:Nat):Int):=by decide
  exact this ⟨z,h⟩
theorem aex{x:Nat}(h0:x≠0)(h:x<W) :∃ y:Nat,Int.fdiv (IntKind.u64.wrap ((dp .and .u64 (x:Int) (IntKind.u64.wrap ((0:Int)-(x:Int))))*(285870213051353865:Int))) (2^(min (Int.toNat (58:Int)) IntKind.u64.bits))=(y:Int)∧List.getD aQ y 0=((tz x:Nat):Int)∧y<64:=by
  have hz:=QT (n:=64) h0 h
  obtain ⟨t1,t2⟩:=aeu ⟨tz x,hz⟩
  exact ⟨_,by rw [aev h0 h,adE],t1,t2⟩
theorem B1{x:Nat}(h0:x≠0)(h:x<W) :cV (x:Int)=some (.r0 ((tz x:Nat):Int)):=by
  have hz:=QT (n:=64) h0 h
  obtain ⟨y,e,t1,t2⟩:=aex h0 h
  refine aR ?_
  unfold kW
  have ix:im (im 0 (KN (Int.toNat (y:Int)) 1)) 0=y:=by simp only [j3,yd,Nat.zero_add,Nat.mul_one,Nat.add_zero,ct]
  rw [e,ix,t1,adD,aew hz]
  refine co (by rw [beq_eq_false_iff_ne];omega) (cn (by decide) (cn ?_ (cn ?_ rfl)))
  · rw [v5];omega
  · rw [lH];exact t2
theorem acQ{v:Nat}(h:v≠0) :∃ i,i<nl v∧v%W^i=0∧v/W^i%W≠0∧tz v=64*i+tz (v/W^i%W):=by
  obtain ⟨h1,h2⟩:=v7 v h
  have e:2^tz v=2^(tz v%64)*W^(tz v/64):=FQ _
  have h3:v%W^(tz v/64)=0:=by
    have d:W^(tz v/64) ∣ v:=Nat.dvd_trans ⟨2^(tz v%64),by rw [Nat.mul_comm];exact e⟩ (Nat.dvd_of_mod_eq_zero h1)
    exact Nat.mod_eq_zero_of_dvd d
  have hb:v=v/W^(tz v/64)*W^(tz v/64):=(Nat.div_mul_cancel (Nat.dvd_of_mod_eq_zero h3)).symm
  have h5:v/W^(tz v/64)≠0:=by intro q;rw [q,Nat.zero_mul] at hb;exact h hb
  have key:tz (v/W^(tz v/64))=tz v%64:=by
    have q:=Yd h5 (64*(tz v/64))
    have w:2^(64*(tz v/64))=W^(tz v/64):=by rw [Nat.pow_mul]
    rw [w,←hb] at q
    omega
  obtain ⟨k1,k2⟩:=v7 _ h5
  rw [key] at k1 k2
  have hr:tz v%64<64:=Nat.mod_lt _ (by decide)
  have e64:W=2^(tz v%64)*2^(64-tz v%64):=by rw [←Nat.pow_add];show 2^64=_;congr 1;omega
  have l1:(v/W^(tz v/64)%W)%2^(tz v%64)=0:=by
    revert k1;generalize v/W^(tz v/64)=y;intro k1;rw [e64,Nat.mod_mul_right_mod];exact k1
  have l2:(v/W^(tz v/64)%W)/2^(tz v%64)%2=1:=by
    have a:2^(64-tz v%64)=2*2^(63-tz v%64):=by rw [show 64-tz v%64=(63-tz v%64)+1 by omega,Nat.pow_succ,Nat.mul_comm]
    revert k2;generalize v/W^(tz v/64)=y;intro k2;rw [e64,Nat.mod_mul_right_div_self,a,Nat.mod_mul_right_mod];exact k2
  have l3:v/W^(tz v/64)%W≠0:=by intro q;rw [q,Nat.zero_div] at l2;exact absurd l2 (by decide)
  refine ⟨tz v/64,?_,h3,l3,?_⟩
  · rcases Nat.lt_or_ge (tz v/64) (nl v) with q | q
    · exact q
    · exfalso;apply l3
      rw [Nat.div_eq_of_lt (Nat.lt_of_lt_of_le (cX v) (Nat.pow_le_pow_right (by decide) q)),Nat.zero_mod]
  · rw [Cq l1 l2];omega
theorem ZD{v n:Nat}(hv:v<W^n)(h0:v≠0)(hn:nl v≤4096)(hn2:n≤1000000) :sM (ay v n)=some (.r0 ((tz v:Nat):Int) 0):=by
  have hl:=gZ hv
  have hp:=uR h0
  obtain ⟨i,h1,h2,h3,h4⟩:=acQ h0
  have hW:v/W^i%W<W:=Nat.mod_lt _ (by decide)
  have hz:=QT (n:=64) h3 hW
  refine aR (ae (a:=(0,ay v n,nl v)) ?_ (ae (a:=false) (aS (by show some _=_;congr 2;rw [beq_eq_false_iff_ne];omega)) (ae (a:=()) (aS rfl) (ae (a:=i) (bU (fun j=>j) i rfl (fun j hj=>?_) ?_) (ae (a:=((tz v:Nat):Int)) ?_ rfl)))))
  · unfold Df
    rw [aB,ir hv (by omega)]
    simp only [bM,aG,aA]
    exact bj (ag (ba (ag (cP (ag (aS rfl))))))
  · have z:lm v j=0:=by
      unfold lm
      obtain ⟨d,rfl⟩:∃ d,i=j+1+d:=⟨i-j-1,by omega⟩
      have dv:W^(j+1+d) ∣ v:=Nat.dvd_of_mod_eq_zero h2
      obtain ⟨c,hc⟩:=dv
      have:v=(W^d*c*W)*W^j:=by
        rw [hc,Nat.pow_add,Nat.pow_succ];simp only [Nat.mul_assoc,Nat.mul_comm,Nat.mul_left_comm]
      rw [this,Nat.mul_div_cancel _ (fi j),Nat.mul_mod_left];rfl
    show (nr _ _ _).run=_
    unfold nr
    rw [cr hv,z,az]
    exact ai (ai (bj (ai rfl)))
  · show (nr _ _ _).run=_
    unfold nr
    rw [cr hv,rl,az]
    refine ai (ai (co (by rw [beq_eq_false_iff_ne];omega) rfl))
  · unfold Dg
    rw [cr hv,rl,az,B1 h3 hW]
    simp only [dq,da]
    have e:(((64*i:Nat):Int)+((tz (v/W^i%W):Nat):Int))=((tz v:Nat):Int):=by rw [h4,Int.natCast_add]
    rw [e]
    exact ai (ai (ai (ag (cn (by rw [cK];omega) rfl))))
theorem NR(k:Nat) :Int.tdiv (k:Int) (64:Int)=((k/64:Nat):Int):=rfl
theorem NT(k:Nat) :IntKind.u64.wrap (Int.tmod (k:Int) (64:Int))=((k%64:Nat):Int):=by
  rw [show Int.tmod (k:Int) (64:Int)=((k%64:Nat):Int) from rfl,o6 (Nat.lt_trans (Nat.mod_lt k (by decide:64>0)) (by decide))]
theorem acR{v n k:Nat}(hv:v<W^n)(h0:n≠0)(hn:n≤1000000)(hk:k≤1000000) :
    dX (ay v n) (k:Int)=some (.r0 0 (nl (v*2^k)) (n+k/64+1) (ay (v*2^k) (n+k/64+1))):=by
  have hr:k%64<64:=Nat.mod_lt _ (by decide)
  have hq:k/64≤1000000:=by omega
  have hsh:=acy (k:=k) hv
  refine aR (ae (a:=(((k/64:Nat):Int),((k%64:Nat):Int),n+k/64+1,ay 0 (n+k/64+1))) ?_ (ae (a:=ay (v*2^k) (n+k/64+1)) (bU (fun i=>(i,ay (v%W^i*2^(k%64)*W^(k/64)) (n+k/64+1))) n (by simp [Nat.mod_one]) (fun i hi=>?_) ?_) (ae (a:=(0,nl (v*2^k),n+k/64+1,ay (v*2^k) (n+k/64+1))) ?_ rfl)))
  · unfold I4
    rw [az,NR,NT]
    have e:(((n:Nat):Int)+((k/64:Nat):Int))+(1:Int)=((n+k/64+1:Nat):Int):=by omega
    rw [e,ct,Cp]
    exact cP (ai (ai (ag (ai (ai (ai (ai (ai (ai rfl)))))))))
  · show aC (wg _ _ _ _ _ _).run _=_
    refine ae (a:=ay (v%W^(i+1)*2^(k%64)*W^(k/64)) (n+k/64+1)) ?_ (ai rfl)
    unfold wg
    have e1:Int.toNat (((i:Nat):Int)+((k/64:Nat):Int))=i+k/64:=rfl
    have e2:Int.toNat ((((i:Nat):Int)+((k/64:Nat):Int))+(1:Int))=i+k/64+1:=rfl
    rw [e1,e2,cr hv,rl,v6 _ (by omega),LH hr,show (1:Int)=((1:Nat):Int) from rfl,tW _ (by decide),tW _ (by omega),Nat.pow_one,acw hr (by omega),az]
    simp only [List.length_set,az]
    exact cF (ai (ai (ai (ai (ai (ai (ai (ai (ai (ai (ai (ai (ai (ai (ai (ai rfl))))))))))))))))
  · show aC (wg _ _ _ _ _ _).run _=_
    refine be (co (by rw [az];exact (by simp only [cK,v5,xQ,lH,mC,fM,mD,mE,decide_eq_true_eq,decide_eq_false_iff_not,beq_iff_eq,beq_eq_false_iff_ne,bne_iff_ne,bne_eq_false_iff_eq,Bool.not_eq_true',Bool.not_eq_false',List.length_set,ne_eq,ge_iff_le,gt_iff_lt,iv,ct,sG];omega)) ?_)
    rw [Nat.mod_eq_of_lt hv,Nat.mul_assoc,←FQ];rfl
  · unfold I5
    rw [vF hsh (by omega)]
    exact ag rfl
theorem ZE{v n:Nat}(h:v<W^n)(hn:n≤100000000)(hb:nl v≤4096) :jU (ay v n)=some (.r0 (ay v n) (nl v) 0):=by
  refine aR (ae (a:=(ay v n,nl v)) ?_ (cP rfl))
  unfold A7
  rw [aB,ir h (by omega)]
  exact ba (ag rfl)
theorem acS{v n k:Nat}(hv:v<W^n)(h0:v≠0)(hn:n≤1000000)(hk:k<262144)(hl:nl v≤4096)(hb:nl (v*2^k)≤4096) :
    gU (ay v n) (k:Int)=some (.r0 (ay (v*2^k) (nl (v*2^k))) (nl (v*2^k)) 0):=by
  have hp:=uR h0
  have hln:=gZ hv
  refine aR (ae (a:=(0,ay v n,nl v)) ?_ (ae (a:=()) ?_ (ae (a:=(ay (v*2^k) (nl (v*2^k)),nl (v*2^k),0)) ?_ rfl)))
  · unfold Mn
    rw [aB,ir hv (by omega)]
    simp only [bM,aG,aA]
    exact bj (ag (ba (ag (cP (ag (aS rfl))))))
  · exact aS (cP (cF (cP rfl)))
  · have hsl:=acy (k:=k) (cX v)
    have hls:=gZ hsl
    show (Ez _ _ _).run=_
    unfold Ez
    rw [bp hln,acR (cX v) (by omega) (by omega) (by omega)]
    simp only [u5,jw,jx,jy]
    rw [bp hls,ZE (cX _) (by omega) hb]
    exact cn (aT hln) (ag (cn (aT hls) (ag rfl)))
theorem acT{v n k:Nat}(hv:v<W^n)(hn:n≤1000000)(hk:k≤100000000) :
    ∃ b N,pC (ay v n) (k:Int)=some (.r0 0 (nl (v/2^k)) N b (ay (v/2^k) N))∧nl (v/2^k)≤N∧N≤n:=by
  have hr:k%64<64:=Nat.mod_lt _ (by decide)
  have hq:k/64≤10000000:=by omega
  rcases Nat.lt_or_ge (k/64) n with hlt | hge
  · have hs:=aei (k:=k) hv (Nat.le_of_lt hlt)
    have hls:=gZ hs
    let f0:=((dp .and .u64 (List.getD (ay v n) (Int.toNat (Int.tdiv (k:Int) (64:Int))) 0) (IntKind.u64.wrap ((IntKind.u64.wrap ((1:Int)*2^(min (Int.toNat (IntKind.u64.wrap (Int.tmod (k:Int) (64:Int)))) (IntKind.u64.bits))))-(1:Int)))) != (0:Int))
    let f:Nat→Bool:=fun j=>Nat.rec (motive:=fun _=>Bool) f0 (fun j b=>b||(lm v j != (0:Int))) j
    refine ⟨f (k/64),n-k/64,aR (ae (a:=(((k/64:Nat):Int),((k%64:Nat):Int),f0,k/64,k/64)) ?_ (ae (a:=f (k/64)) (bU (fun j=>(f j,j)) (k/64) rfl (fun j hj=>?_) ?_) (ae (a:=(n-k/64,n-k/64,List.replicate (n-k/64) (0:Int))) ?_ (ae (a:=ay (v/2^k) (n-k/64)) (bU (fun i=>(i,i5 (fun j=>if j<i then lm (v/2^k) j else 0) (n-k/64))) (n-k/64) (by simp only [sW];congr 1) (fun i hi=>?_) ?_) (ae (a:=(0,nl (v/2^k),n-k/64,ay (v/2^k) (n-k/64))) ?_ rfl))))),hls,Nat.sub_le _ _⟩
    · unfold A8
      have e:=NR k
      refine ag (cn (by rw [e];exact (by simp only [cK,v5,xQ,lH,mC,fM,mD,mE,decide_eq_true_eq,decide_eq_false_iff_not,beq_iff_eq,beq_eq_false_iff_ne,bne_iff_ne,bne_eq_false_iff_eq,Bool.not_eq_true',Bool.not_eq_false',List.length_set,ne_eq,ge_iff_le,gt_iff_lt,iv,ct,sG];omega)) (ag (co (by rw [e,az];exact (by simp only [cK,v5,xQ,lH,mC,fM,mD,mE,decide_eq_true_eq,decide_eq_false_iff_not,beq_iff_eq,beq_eq_false_iff_ne,bne_iff_ne,bne_eq_false_iff_eq,Bool.not_eq_true',Bool.not_eq_false',List.length_set,ne_eq,ge_iff_le,gt_iff_lt,iv,ct,sG];omega)) (cn (by rw [e,az];exact (by simp only [cK,v5,xQ,lH,mC,fM,mD,mE,decide_eq_true_eq,decide_eq_false_iff_not,beq_iff_eq,beq_eq_false_iff_ne,bne_iff_ne,bne_eq_false_iff_eq,Bool.not_eq_true',Bool.not_eq_false',List.length_set,ne_eq,ge_iff_le,gt_iff_lt,iv,ct,sG];omega)) (cn (by rw [e,az];exact (by simp only [cK,v5,xQ,lH,mC,fM,mD,mE,decide_eq_true_eq,decide_eq_false_iff_not,beq_iff_eq,beq_eq_false_iff_ne,bne_iff_ne,bne_eq_false_iff_eq,Bool.not_eq_true',Bool.not_eq_false',List.length_set,ne_eq,ge_iff_le,gt_iff_lt,iv,ct,sG];omega)) (cn (by rw [NT];exact (by simp only [cK,v5,xQ,lH,mC,fM,mD,mE,decide_eq_true_eq,decide_eq_false_iff_not,beq_iff_eq,beq_eq_false_iff_ne,bne_iff_ne,bne_eq_false_iff_eq,Bool.not_eq_true',Bool.not_eq_false',List.length_set,ne_eq,ge_iff_le,gt_iff_lt,iv,ct,sG];omega)) (cn (by rw [e,az];exact (by simp only [cK,v5,xQ,lH,mC,fM,mD,mE,decide_eq_true_eq,decide_eq_false_iff_not,beq_iff_eq,beq_eq_false_iff_ne,bne_iff_ne,bne_eq_false_iff_eq,Bool.not_eq_true',Bool.not_eq_false',List.length_set,ne_eq,ge_iff_le,gt_iff_lt,iv,ct,sG];omega)) (cn (by rw [e];exact (by simp only [cK,v5,xQ,lH,mC,fM,mD,mE,decide_eq_true_eq,decide_eq_false_iff_not,beq_iff_eq,beq_eq_false_iff_ne,bne_iff_ne,bne_eq_false_iff_eq,Bool.not_eq_true',Bool.not_eq_false',List.length_set,ne_eq,ge_iff_le,gt_iff_lt,iv,ct,sG];omega)) ?_))))))))
      show some (Sum.inl (_,IntKind.u64.wrap _,f0,_,_))=_
      rw [NT];rfl
    · show aC (wh _ _ _ _ _).run _=_
      refine ae (a:=f (j+1)) ?_ (ai rfl)
      unfold wh
      rw [cr hv,az]
      refine cF (ai (ai ?_))
      have hf:f (j+1)=(f j||(lm v j != (0:Int))):=rfl
      rw [hf]
      cases f j
      · exact aS rfl
      · exact bj rfl
    · show aC (wh _ _ _ _ _).run _=_
      exact be (cP rfl)
    · show (Ba _ _).run=_
      unfold Ba
      have e:((n:Nat):Int)-((k/64:Nat):Int)=((n-k/64:Nat):Int):=by omega
      rw [az,e]
      exact ai (ai (ai (ai (ai rfl))))
    · show aC (wi _ _ _ _ _ _ _).run _=_
      refine ae (a:=i5 (fun j=>if j<i+1 then lm (v/2^k) j else 0) (n-k/64)) ?_ (ai rfl)
      have e1:Int.toNat (((i:Nat):Int)+((k/64:Nat):Int))=i+k/64:=rfl
      have e2:Int.toNat ((((i:Nat):Int)+((k/64:Nat):Int))+(1:Int))=i+k/64+1:=rfl
      obtain ⟨w1,w2⟩:=acu (V:=v/W^(i+k/64)) hr
      have hV:v/W^(i+k/64)/W=v/W^(i+k/64+1):=by rw [Nat.pow_succ,Nat.div_div_eq_div_mul]
      have mF:∀ x:Int,x=lm (v/2^k) i→(i5 (fun j=>if j<i then lm (v/2^k) j else 0) (n-k/64)).set i x=i5 (fun j=>if j<i+1 then lm (v/2^k) j else 0) (n-k/64):=by
        intro x hx
        rw [uy hi]
        refine dB fun j hj=>?_
        by_cases e:j=i
        · subst e;rw [if_pos rfl,if_pos (Nat.lt_succ_self _),hx]
        · rw [if_neg e]
          by_cases e':j<i
          · rw [if_pos e',if_pos (by omega)]
          · rw [if_neg e',if_neg (by omega)]
      unfold wi
      rw [e1,e2,cr hv,cr hv,rl,rl,tW _ (by omega),LH hr,show (1:Int)=((1:Nat):Int) from rfl,v6 _ (by decide),v6 _ (by omega),Nat.pow_one]
      simp only [List.length_set,az,eF,List.set_set]
      by_cases hlast:i+k/64+1<n
      · refine cF (ai (ai (ai (ai (ai (ai (ai (ai (cF (ai (ai (ai (ai (ai (ai (ag (ai (ai (ai ?_)))))))))))))))))))
        show some (Sum.inl _)=_
        congr 2
        refine mF _ ?_
        rw [List.getD_eq_getElem?_getD,List.getElem?_set_self (by rw [eF];exact hi)]
        show dp .or .u64 _ _=_
        have m1:v/W^(i+k/64)%W/2^(k%64)%W=v/W^(i+k/64)%W/2^(k%64):=Nat.mod_eq_of_lt (Nat.lt_of_le_of_lt (Nat.div_le_self _ _) (Nat.mod_lt _ (by decide)))
        show dp .or .u64 ((v/W^(i+k/64)%W/2^(k%64):Nat):Int) _=_
        rw [Sh,m1,Nat.mod_mod,←hV,w2,←w1,acx]
      · refine cF (ai (ai (ai (ai (ai (ai (ai (ai (cP ?_)))))))))
        show some (Sum.inl _)=_
        congr 2
        refine mF _ ?_
        have z:v/W^(i+k/64)/W=0:=by
          rw [hV];exact Nat.div_eq_of_lt (Nat.lt_of_lt_of_le hv (Nat.pow_le_pow_right (by decide) (by omega)))
        rw [z] at w1
        rw [acx,w1]
        simp
    · show aC (wi _ _ _ _ _ _ _).run _=_
      refine be (cP ?_)
      show some (Sum.inr (Sum.inl _))=_
      congr 3
      exact dB fun j hj=>if_pos hj
    · unfold I8
      rw [vF hs (by omega)]
      exact ag rfl
  · have hz:=Va hv hge
    refine ⟨decide (((n:Nat):Int)>(0:Int)),0,?_,by rw [hz,fN];exact Nat.le_refl 0,Nat.zero_le _⟩
    refine aR (be ?_)
    unfold A8
    rw [NR,az,hz,fN]
    exact ag (ai (ag (cF rfl)))
theorem acU{v n k:Nat}(hv:v<W^n)(hn:n≤1000000)(hl:nl v≤4096)(hk:k≤100000000) :
    ∃ b N,rB (ay v n) (k:Int)=some (.r0 (ay (v/2^k) N) 0 (nl (v/2^k)) b 0)∧nl (v/2^k)≤N∧N≤4096:=by
  have hln:=gZ hv
  obtain ⟨b,N,h1,h2,h3⟩:=acT (k:=k) (cX v) (by omega) hk
  refine ⟨b,N,aR (ae (a:=(0,ay v n,nl v)) ?_ (ae (a:=false) ?_ (ae (a:=(ay (v/2^k) N,0,nl (v/2^k),b)) ?_ rfl))),h2,by omega⟩
  · unfold Mq
    rw [aB,ir hv (by omega)]
    simp only [bM,aG,aA]
    exact bj (ag (ba (ag (cP (ag (aS rfl))))))
  · refine aS ?_
    show some (Sum.inl (decide (((k:Nat):Int)<0)))=_
    rw [decide_eq_false (by omega)]
  · show (EC _ _ _ _).run=_
    unfold EC
    rw [bp hln,h1]
    exact aS (cn (aT hln) (ag rfl))
theorem py(s:Bool){v n:Nat}(hv:v<W^n)(hn:n≤1000000)(hl:nl v≤4096){e:Int}(he : -1000000≤e∧e≤1000000) :
    ∃ N,aq s (ay v n) e=some (.r0 (nS (sg s v)) (ay (nM (sg s v)) N) 0 (nl (nM (sg s v))) (nE (sg s v) e))∧nl (nM (sg s v))≤N∧N≤4096:=by
  have t5:(zf (ay v n)).run=some (.inl (ay v (nl v),nl v,false)):=by
    unfold zf
    rw [aB,Rv hv (by omega),if_neg (by omega)]
    exact ba (ag rfl)
  by_cases h0:v=0
  · have z:sg s v=0:=v8.2 h0
    rw [z,jd,KI]
    rw [lI,fN]
    refine ⟨0,aR (ae t5 (be ?_)),Nat.le_refl _,Nat.zero_le _⟩
    rw [h0,fN]
    exact bj rfl
  · have z:sg s v≠0:=fun q=>h0 (v8.1 q)
    have hp:=uR h0
    have ht:=aan (v:=v)
    obtain ⟨b,N,h1,h2,h3⟩:=acU (k:=tz v) (cX v) (by omega) hl (by omega)
    have eM:nM (sg s v)=v/2^tz v:=by unfold nM;rw [HW]
    have eE:nE (sg s v) e=e+((tz v:Nat):Int):=by rw [ka z,HW]
    rw [adV h0,eM,eE]
    refine ⟨N,aR (ae t5 (ae (a:=((tz v:Nat):Int)) ?_ (ae (a:=(ay (v/2^tz v) N,0,nl (v/2^tz v))) ?_ ?_))),h2,h3⟩
    · show (zg _ _).run=_
      unfold zg
      rw [ez az,ZD (cX v) h0 hl (by omega)]
      exact cP (kt (ag rfl))
    · show (zh _ _ _).run=_
      unfold zh
      rw [ez az,h1]
      exact kt (ag rfl)
    · exact cn (by rw [cK];omega) rfl
theorem Xg{v n:Nat}(hv:v<W^n)(hn:n≤1000000)(hl:nl v≤4096){e:Int}(he : -262144≤e∧e≤262144) :db (ay v n) e=some (.r0 true):=by
  refine aR (ae (a:=0) ?_ (ae (a:=true) ?_ rfl))
  · unfold Jf
    rw [aB,Rv hv (by omega),if_neg (by omega)]
    exact ba (ag rfl)
  · refine bj (cF ?_)
    show some (Sum.inl (decide (e≤262144)))=_
    rw [decide_eq_true he.2]
theorem zX{z e:Int}{s:Bool}(hs:z≠0→s=nS z)(h:Sm z e) :∃ N,aq s (ay (nM z) (nl (nM z))) (nE z e)=some (.r0 (nS z) (ay (nM z) N) 0 (nl (nM z)) (nE z e))∧nl (nM z)≤N∧N≤4096:=by
  have hm:=h.m
  have hb:=h.b
  obtain ⟨N,h1,h2,h3⟩:=py s (cX (nM z)) (by omega) (by omega:nl (nM z)≤4096) (e:=nE z e) (by omega)
  obtain ⟨a,b,c⟩:=Vb (e:=e) hs
  rw [a,b,c] at h1
  rw [b] at h2
  exact ⟨N,h1,h2,h3⟩
theorem E3{z e:Int}(h:Sm z e) :db (ay (nM z) (nl (nM z))) (nE z e)=some (.r0 true):=by
  have hm:=h.m
  have hb:=h.b
  exact Xg (cX (nM z)) (by omega) (by omega) (by omega)
theorem E4(s:Bool){v n:Nat}(hv:v<W^n)(hn:n≤1000000)(hl:nl v≤1000){e:Int}(he : -150000≤e∧e≤150000) :
    ∃ N,bN s (ay v n) e=some (.r0 0 (nS (sg s v)) (ay (nM (sg s v)) N) 0 (nl (nM (sg s v))) (nE (sg s v) e))∧nl (nM (sg s v))≤N∧N≤4096:=by
  obtain ⟨N,h1,h2,h3⟩:=py s hv hn (by omega) (e:=e) (by omega)
  have ht:=aan (v:=v)
  have hE' : -262144≤nE (sg s v) e∧nE (sg s v) e≤262144:=by
    unfold nE;rw [HW];split<;>omega
  obtain ⟨hE',hE⟩:=hE'
  refine ⟨N,aR (ae (a:=(nS (sg s v),ay (nM (sg s v)) N,0,nl (nM (sg s v)),nE (sg s v) e,false)) ?_ (ae (a:=false) ?_ rfl)),h2,h3⟩
  · unfold Gc
    rw [aB,h1]
    exact ba (ag rfl)
  · show (zj _ _ _ _).run=_
    unfold zj
    rw [bp h2,Xg (cX _) (by omega) (by omega) ⟨hE',hE⟩]
    exact cn (aT h2) (ag rfl)
theorem Hq{z:Int}{m:Nat}(h:m≤tz z.natAbs) :nM z*2^(tz z.natAbs-m)=z.natAbs/2^m∧z.natAbs/2^m*2^m=z.natAbs:=by
  have b:=aam z
  have e:tz z.natAbs=(tz z.natAbs-m)+m:=by omega
  have d:z.natAbs/2^m*2^m=z.natAbs:=by
    refine Nat.div_mul_cancel ⟨nM z*2^(tz z.natAbs-m),?_⟩
    rw [e,Nat.pow_add,←Nat.mul_assoc] at b
    rw [Nat.mul_comm (2^m)];exact b.symm
  refine ⟨?_,d⟩
  rw [e,Nat.pow_add,←Nat.mul_assoc] at b
  exact (Nat.div_eq_of_eq_mul_left (iC m) b.symm).symm
theorem Cy{z e:Int}{m:Nat}(h:Sm z e)(h0:z≠0)(hm:m≤tz z.natAbs){k:Int}(hk:k=((tz z.natAbs-m:Nat):Int)) :
    gU (ay (nM z) (nl (nM z))) k=some (.r0 (ay (z.natAbs/2^m) (nl (z.natAbs/2^m))) (nl (z.natAbs/2^m)) 0):=by
  obtain ⟨e1,e2⟩:=Hq hm
  have ht:=h.t
  have hM:=h.m
  have hN:nl (z.natAbs/2^m)≤300:=Nat.le_trans (tZ (Nat.div_le_self _ _)) h.l
  rw [hk,acS (cX _) (LI h0) (by omega) (by omega) (by omega) (by rw [e1];omega),e1]
theorem adF{a b:Int}(h:a≤b) :vG a b=a:=by unfold vG;rw [if_neg (by omega)]
theorem aaw{a b:Int}(h:b≤a) :vG a b=b:=by
  unfold vG
  by_cases q:b<a
  · rw [if_pos q]
  · rw [if_neg q];omega
theorem TV{a b:Int}(h:a≤b) :kR a b=b:=by
  unfold kR
  by_cases q:b>a
  · rw [if_pos q]
  · rw [if_neg q];omega
theorem aax{a b:Int}(h:b≤a) :kR a b=a:=by unfold kR;rw [if_neg (by omega)]
structure Lvl (x y e:Int) (m:Nat) (ep:Int):Prop where
  x2:x.natAbs/2^m*2^m=x.natAbs
  y2:y.natAbs/2^m*2^m=y.natAbs
  at':(x=0∧y=0∧ep=0)∨ep=e+m
  b : -50000≤ep∧ep≤94800
theorem Lvl.sum{x y e ep:Int}{m:Nat}(h:Lvl x y e m ep){z z':Int}(hz:z=z'*((2^m:Nat):Int))(h0:x=0→y=0→z'=0) :nS z=nS z'∧nM z=nM z'∧nE z e=nE z' ep:=by
  obtain ⟨a,b,c⟩:=AQ hz e
  refine ⟨a,b,?_⟩
  rcases h.at' with ⟨h1,h2,h3⟩ | h1
  · have:=h0 h1 h2
    subst this
    rw [Int.zero_mul] at hz
    rw [hz,jd,jd]
  · rw [c,h1]
theorem NU{x y e:Int}(hx:Sm x e)(hy:Sm y e) :∃ m ep,cL (ay (nM x) (nl (nM x))) (nE x e) (ay (nM y) (nl (nM y))) (nE y e) =
    some (.r0 0 ep (ay (x.natAbs/2^m) (nl (x.natAbs/2^m))) (nl (x.natAbs/2^m)) (ay (y.natAbs/2^m) (nl (y.natAbs/2^m))) (nl (y.natAbs/2^m)))∧Lvl x y e m ep:=by
  have hxt:=hx.t
  have hyt:=hy.t
  obtain ⟨_,e1,e2⟩:=hx
  have zn:∀ m,((0:Int).natAbs/2^m)=0:=fun m=>by rw [Int.natAbs_zero,Nat.zero_div]
  by_cases h1:x=0
  · subst h1
    have l0:nl (nM 0)=0:=by rw [lI,fN]
    by_cases h2:y=0
    · subst h2
      refine ⟨0,0,aR (ae (a:=0) ?_ (ae (a:=([],0,[],0)) ?_ ?_)),⟨by simp,by simp,.inl ⟨rfl,rfl,rfl⟩,by omega⟩⟩
      · unfold nt;rw [az,l0,jd];exact bj rfl
      · unfold iM;rw [az,l0];exact bj (bj rfl)
      · rw [zn,fN];rfl
    · have ly:nl (nM y)≠0:=fun q=>LI h2 (lW.1 q)
      obtain ⟨_,d⟩:=Hq (z:=y) (Nat.le_refl _)
      refine ⟨tz y.natAbs,nE y e,aR (ae (a:=nE y e) ?_ (ae (a:=([],0,ay (y.natAbs/2^tz y.natAbs) (nl (y.natAbs/2^tz y.natAbs)),nl (y.natAbs/2^tz y.natAbs))) ?_ ?_)),⟨by simp,d,.inr (ka h2),by rw [ka h2];omega⟩⟩
      · unfold nt;rw [az,l0];exact bj rfl
      · show (iM _ _ _ _ _).run=_
        unfold iM
        rw [az,az,l0,ez az,Cy hy h2 (Nat.le_refl _) (k:=nE y e-nE y e) (by omega)]
        exact bj (cP (cn (by rw [cK];omega) (kt (ag rfl))))
      · rw [zn,fN];rfl
  · have lx:nl (nM x)≠0:=fun q=>LI h1 (lW.1 q)
    by_cases h2:y=0
    · subst h2
      have l0:nl (nM 0)=0:=by rw [lI,fN]
      obtain ⟨_,d⟩:=Hq (z:=x) (Nat.le_refl _)
      have hx:Sm x e:=⟨by assumption,e1,e2⟩
      refine ⟨tz x.natAbs,nE x e,aR (ae (a:=nE x e) ?_ (ae (a:=(ay (x.natAbs/2^tz x.natAbs) (nl (x.natAbs/2^tz x.natAbs)),nl (x.natAbs/2^tz x.natAbs),[],0)) ?_ ?_)),⟨d,by simp,.inr (ka h1),by rw [ka h1];omega⟩⟩
      · unfold nt;rw [az,az,l0];exact cP (bj rfl)
      · show (iM _ _ _ _ _).run=_
        unfold iM
        rw [az,az,l0,ez (l:=ay (nM x) (nl (nM x))) az,Cy hx h1 (Nat.le_refl _) (k:=nE x e-nE x e) (by omega)]
        exact cP (cn (by rw [cK];omega) (kt (ag (bj rfl))))
      · rw [zn,fN];rfl
    · have ly:nl (nM y)≠0:=fun q=>LI h2 (lW.1 q)
      have hx:Sm x e:=⟨by assumption,e1,e2⟩
      have ex:=ka (e:=e) h1
      have ey:=ka (e:=e) h2
      have emin:vG (nE x e) (nE y e)=e+((min (tz x.natAbs) (tz y.natAbs):Nat):Int):=by
        rw [ex,ey]
        rcases Nat.le_total (tz x.natAbs) (tz y.natAbs) with q | q
        · rw [adF (by omega),Nat.min_eq_left q]
        · rw [aaw (by omega),Nat.min_eq_right q]
      have emax:kR (nE x e) (nE y e)=e+((max (tz x.natAbs) (tz y.natAbs):Nat):Int):=by
        rw [ex,ey]
        rcases Nat.le_total (tz x.natAbs) (tz y.natAbs) with q | q
        · rw [TV (by omega),Nat.max_eq_right q]
        · rw [aax (by omega),Nat.max_eq_left q]
      have mx:min (tz x.natAbs) (tz y.natAbs)≤tz x.natAbs:=Nat.min_le_left _ _
      have my:min (tz x.natAbs) (tz y.natAbs)≤tz y.natAbs:=Nat.min_le_right _ _
      have gx:max (tz x.natAbs) (tz y.natAbs)≤44800:=by omega
      have gl:min (tz x.natAbs) (tz y.natAbs)≤max (tz x.natAbs) (tz y.natAbs):=by omega
      revert emin emax mx my gx gl
      generalize min (tz x.natAbs) (tz y.natAbs)=m
      generalize max (tz x.natAbs) (tz y.natAbs)=g
      intro emin emax mx my gx gl
      obtain ⟨_,dx⟩:=Hq mx
      obtain ⟨_,dy⟩:=Hq my
      refine ⟨m,e+m,aR (ae (a:=e+(m:Int)) ?_ (ae (a:=(ay (x.natAbs/2^m) (nl (x.natAbs/2^m)),nl (x.natAbs/2^m),ay (y.natAbs/2^m) (nl (y.natAbs/2^m)),nl (y.natAbs/2^m))) ?_ rfl)),⟨dx,dy,.inr rfl,by omega⟩⟩
      · unfold nt
        rw [az,az,emin,emax]
        exact cP (cP (cn (by rw [cK];omega) (co (by rw [decide_eq_false_iff_not];omega) rfl)))
      · show (iM _ _ _ _ _).run=_
        unfold iM
        rw [az,az,ez (l:=ay (nM x) (nl (nM x))) az,ez (l:=ay (nM y) (nl (nM y))) az,Cy hx h1 mx (k:=nE x e-(e+(m:Int))) (by omega),Cy hy h2 my (k:=nE y e-(e+(m:Int))) (by omega)]
        exact cP (cn (by rw [cK];omega) (kt (ag (cP (cn (by rw [cK];omega) (kt (ag rfl)))))))
theorem Iq(s:Bool){v n:Nat}(hv:v<W^n)(hn:n≤1000000)(hl:nl v≤1000){e:Int}(he : -150000≤e∧e≤150000) :
    ∃ N,bE s (ay v n) 0 e=some (.r0 0 (nS (sg s v)) (ay (nM (sg s v)) N) 0 (nl (nM (sg s v))) (nE (sg s v) e))∧nl (nM (sg s v))≤N∧N≤4096:=by
  obtain ⟨N,h1,h2,h3⟩:=E4 s hv hn hl he
  refine ⟨N,aR (ae (a:=(0,nS (sg s v),ay (nM (sg s v)) N,0,nl (nM (sg s v)),nE (sg s v) e)) ?_ rfl),h2,h3⟩
  unfold Di
  rw [aB,h1]
  exact aS (ba (ag rfl))
theorem Rx{x y e:Int}{s t:Bool}(hs:x≠0→s=nS x)(ht:y≠0→t=nS y)(hx:Sm x e)(hy:Sm y e) :
    ∃ N,ch s (ay (nM x) (nl (nM x))) (nE x e) t (ay (nM y) (nl (nM y))) (nE y e)=some (.r0 0 (nS (x+y)) (ay (nM (x+y)) N) 0 (nl (nM (x+y))) (nE (x+y) e))∧nl (nM (x+y))≤N∧N≤4096:=by
  obtain ⟨Nx,x1,x2,x3⟩:=zX hs hx
  obtain ⟨Ny,y1,y2,y3⟩:=zX ht hy
  obtain ⟨m,ep,l1,l2⟩:=NU hx hy
  have xl:=hx.l
  have yl:=hy.l
  have hX:nl (x.natAbs/2^m)≤300:=Nat.le_trans (tZ (Nat.div_le_self _ _)) xl
  have hY:nl (y.natAbs/2^m)≤300:=Nat.le_trans (tZ (Nat.div_le_self _ _)) yl
  have ox:=adX l2.x2
  have oy:=adX l2.y2
  have z0:∀ {z:Int},z=0→z.natAbs/2^m=0:=fun h=>by rw [h,Int.natAbs_zero,Nat.zero_div]
  have zx:x=0→x.natAbs/2^m=0:=z0
  have zy:y=0→y.natAbs/2^m=0:=z0
  have hb:=l2.b
  have t9:(Bh s (ay (nM x) (nl (nM x))) (nE x e) t (ay (nM y) (nl (nM y))) (nE y e)).run=some (.inl (0,nS x,ay (nM x) Nx,0,nl (nM x),nE x e,nS y,ay (nM y) Ny,0,nl (nM y),nE y e,false)):=by
    unfold Bh
    rw [aB,aB,E3 hx,E3 hy,x1,y1]
    exact bj (ag (ba (ag (aS (ba (ag (ag (bj (ag (ba (ag (aS (ba (ag (ag (aS rfl))))))))))))))))
  have t10:(zl 0 (ay (nM x) Nx) 0 (nl (nM x)) (nE x e) (ay (nM y) Ny) 0 (nl (nM y)) (nE y e)).run=some (.inl (0,ep,ay (x.natAbs/2^m) (nl (x.natAbs/2^m)),nl (x.natAbs/2^m),ay (y.natAbs/2^m) (nl (y.natAbs/2^m)),nl (y.natAbs/2^m))):=by
    unfold zl
    rw [bp x2,bp y2,l1]
    exact aS (cn (aT x2) (cn (aT y2) (ag rfl)))
  clear l1 x1 y1
  have sum:=fun {z z':Int} (a:z=z'*((2^m:Nat):Int)) (b:x=0→y=0→z'=0)=>l2.sum a b
  revert t10 hX hY ox oy zx zy
  generalize x.natAbs/2^m=X
  generalize y.natAbs/2^m=Y
  intro hX hY ox oy zx zy t10
  have hXY:=Yh hX hY
  by_cases hsg:nS x=nS y
  · have hz:x+y=sg (nS x) (X+Y)*((2^m:Nat):Int):=by
      rw [←ael,Int.add_mul,←ox]
      rw [hsg,←oy]
    obtain ⟨a,b,c⟩:=sum hz (fun p q=>by rw [zx p,zy q];cases nS x<;>rfl)
    obtain ⟨N,h1,h2,h3⟩:=Iq (nS x) (v:=X+Y) (cX _) (by omega) (by omega) (e:=ep) (by omega)
    rw [a,b,c]
    refine ⟨N,aR (ae t9 (ae t10 (be ?_))),h2,h3⟩
    show (qd _ _ _ _ _ _ _ _).run=_
    unfold qd
    have hc:nl (X+Y)≤max (nl X) (nl Y)+1:=Yh (Nat.le_max_left _ _) (Nat.le_max_right _ _)
    rw [ez az,ez az,acN (cX X) (cX Y) (by omega) (by omega) (by omega) (by omega) (by omega)]
    simp only [uX,fO,fP,g7,fQ]
    rw [bp hc,show (((0:Nat):Int))=0 from rfl,h1]
    exact aS (j2 (by rw [hsg];cases nS y<;>rfl) (kt (kt (ag (cn (aT hc) (kt (kt (ag rfl))))))))
  · have hn:nS y = !(nS x):=by revert hsg;cases nS x<;>cases nS y<;>simp
    have t11:(qd (nS x) (nS y) 0 ep (ay X (nl X)) (nl X) (ay Y (nl Y)) (nl Y)).run=some (.inl ()):=by
      unfold qd
      exact aS (co (by rw [hn];cases nS x<;>rfl) rfl)
    have t12:(zm (ay X (nl X)) (nl X) (ay Y (nl Y)) (nl Y)).run=some (.inl (vH X Y)):=by
      unfold zm
      rw [ez az,ez az,Xf (cX X) (cX Y) (by omega) (by omega) (by omega) (by omega)]
      exact kt (kt (ag rfl))
    have hxy:x+y=(sg (nS x) X-sg (nS x) Y)*((2^m:Nat):Int):=by
      rw [Int.sub_mul,←ox]
      have:y = -(sg (nS x) Y)*((2^m:Nat):Int):=by rw [←Yi,←hn];exact oy
      rw [Int.neg_mul] at this
      omega
    by_cases hlt:X<Y
    · have hz:x+y=sg (nS y) (Y-X)*((2^m:Nat):Int):=by
        rw [hxy,←acA (Nat.le_of_lt hlt),hn,Yi,Yi];congr 1;omega
      obtain ⟨a,b,c⟩:=sum hz (fun p q=>by rw [zx p,zy q];cases nS y<;>rfl)
      have hd:nl (Y-X)≤nl Y:=tZ (Nat.sub_le _ _)
      obtain ⟨N,h1,h2,h3⟩:=Iq (nS y) (v:=Y-X) (cX _) (by omega) (by omega) (e:=ep) (by omega)
      rw [a,b,c]
      refine ⟨N,aR (ae t9 (ae t10 (ae t11 (ae t12 (be ?_))))),h2,h3⟩
      show (zo _ _ _ _ _ _ _).run=_
      unfold zo
      have hc:vH X Y = -1:=if_pos hlt
      rw [hc,ez az,ez az,Xe (cX Y) (cX X) (by omega) (by omega) (by omega) (by omega) (Nat.le_of_lt hlt)]
      simp only [ru,eX,eY,eZ,fR]
      rw [bp hd,show (((0:Nat):Int))=0 from rfl,h1]
      exact bj (kt (kt (ag (cn (aT hd) (kt (kt (ag rfl)))))))
    · have hz:x+y=sg (nS x) (X-Y)*((2^m:Nat):Int):=by
        rw [hxy,←acA (by omega)]
      obtain ⟨a,b,c⟩:=sum hz (fun p q=>by rw [zx p,zy q];cases nS x<;>rfl)
      have hd:nl (X-Y)≤nl X:=tZ (Nat.sub_le _ _)
      obtain ⟨N,h1,h2,h3⟩:=Iq (nS x) (v:=X-Y) (cX _) (by omega) (by omega) (e:=ep) (by omega)
      rw [a,b,c]
      have hc:decide (vH X Y<0)=false:=by
        rw [decide_eq_false_iff_not];unfold vH;rw [if_neg hlt];split<;>omega
      refine ⟨N,aR (ae t9 (ae t10 (ae t11 (ae t12 (ae (a:=()) (co hc rfl) (ae (a:=(0,ay (X-Y) (nl X),0,nl (X-Y))) ?_ (ae (a:=(0,nS (sg (nS x) (X-Y)),ay (nM (sg (nS x) (X-Y))) N,0,nl (nM (sg (nS x) (X-Y))),nE (sg (nS x) (X-Y)) ep)) ?_ rfl))))))),h2,h3⟩
      · show (zp _ _ _ _).run=_
        unfold zp
        rw [ez az,ez az,Xe (cX X) (cX Y) (by omega) (by omega) (by omega) (by omega) (by omega)]
        exact kt (kt (ag rfl))
      · show (zq _ _ _ _ _ _ _ _ _ _).run=_
        unfold zq
        rw [bp hd,show (((0:Nat):Int))=0 from rfl,h1]
        exact cn (aT hd) (kt (kt (ag rfl)))
theorem abm{x y e:Int}(hx:Sm x e)(hy:Sm y e) :
    ∃ N,ch (nS x) (ay (nM x) (nl (nM x))) (nE x e) (nS y) (ay (nM y) (nl (nM y))) (nE y e)=some (.r0 0 (nS (x+y)) (ay (nM (x+y)) N) 0 (nl (nM (x+y))) (nE (x+y) e))∧nl (nM (x+y))≤N∧N≤4096 :=
  Rx (fun _=>rfl) (fun _=>rfl) hx hy
theorem Ry{x y e:Int}(hx:Sm x e)(hy:Sm y e) :
    ∃ N,dT (nS x) (ay (nM x) (nl (nM x))) (nE x e) (nS y) (ay (nM y) (nl (nM y))) (nE y e)=some (.r0 0 (nS (x-y)) (ay (nM (x-y)) N) 0 (nl (nM (x-y))) (nE (x-y) e))∧nl (nM (x-y))≤N∧N≤4096:=by
  obtain ⟨N,h1,h2,h3⟩:=Rx (x:=x) (y:=-y) (e:=e) (s:=nS x) (t:=!(nS y)) (fun _=>rfl) (fun h=>by
    unfold nS;rw [←decide_not];congr 1;exact propext (by omega)) hx hy.n
  rw [aej,aek,←Int.sub_eq_add_neg] at h1
  rw [←Int.sub_eq_add_neg] at h2
  refine ⟨N,aR (ae (a:=(0,nS (x-y),ay (nM (x-y)) N,0,nl (nM (x-y)),nE (x-y) e)) ?_ rfl),h2,h3⟩
  unfold JC
  rw [aB,aB,h1]
  exact ba (ba (ag rfl))
theorem Cz{x y e f:Int}(hx:Sm x e)(hy:Sm y f) :
    ∃ N,ak (nS x) (ay (nM x) (nl (nM x))) (nE x e) (nS y) (ay (nM y) (nl (nM y))) (nE y f)=some (.r0 0 (nS (x*y)) (ay (nM (x*y)) N) 0 (nl (nM (x*y))) (nE (x*y) (e+f)))∧nl (nM (x*y))≤N∧N≤4096:=by
  obtain ⟨Nx,x1,x2,x3⟩:=zX (s:=nS x) (fun _=>rfl) hx
  obtain ⟨Ny,y1,y2,y3⟩:=zX (s:=nS y) (fun _=>rfl) hy
  have xm:=hx.m
  have ym:=hy.m
  have xb:=hx.b
  have yb:=hy.b
  have hm:=acz (a:=nM x) (b:=nM y)
  obtain ⟨N,h1,h2,h3⟩:=E4 (nS x != nS y) (v:=nM x*nM y) (cX _) (by omega) (by omega) (e:=nE x e+nE y f) (by omega)
  have key:nS (x*y)=nS (sg (nS x != nS y) (nM x*nM y))∧nM (x*y)=nM (sg (nS x != nS y) (nM x*nM y))∧nE (x*y) (e+f)=nE (sg (nS x != nS y) (nM x*nM y)) (nE x e+nE y f):=by
    have hz:x*y=sg (nS x != nS y) (nM x*nM y)*((2^(tz x.natAbs+tz y.natAbs):Nat):Int):=by
      have a:=Sj x
      have b:=Sj y
      rw [←abc,Nat.pow_add,Int.natCast_mul]
      conv=>lhs;rw [←a,←b]
      simp only [Int.mul_assoc,Int.mul_comm,Int.mul_left_comm]
    obtain ⟨a,b,c⟩:=AQ hz (e+f)
    refine ⟨a,b,?_⟩
    rw [c]
    by_cases p:x=0
    · subst p;rw [lI,Nat.zero_mul]
      have:sg (nS 0 != nS y) 0=0:=v8.2 rfl
      rw [this,jd,jd]
    · by_cases q:y=0
      · subst q;rw [lI,Nat.mul_zero]
        have:sg (nS x != nS 0) 0=0:=v8.2 rfl
        rw [this,jd,jd]
      · rw [ka p,ka q];congr 1;omega
  obtain ⟨a,b,c⟩:=key
  rw [a,b,c]
  refine ⟨N,aR (ae (a:=(0,nS x,ay (nM x) Nx,0,nl (nM x),nE x e,nS y,ay (nM y) Ny,0,nl (nM y),nE y f,false)) ?_ (ae (a:=(ay (nM x*nM y) (nl (nM x)+nl (nM y)),0,nl (nM x*nM y),0)) ?_ (ae (a:=(0,nS (sg (nS x != nS y) (nM x*nM y)),ay (nM (sg (nS x != nS y) (nM x*nM y))) N,0,nl (nM (sg (nS x != nS y) (nM x*nM y))),nE (sg (nS x != nS y) (nM x*nM y)) (nE x e+nE y f))) ?_ rfl))),h2,h3⟩
  · unfold Jj
    rw [aB,aB,E3 hx,E3 hy,x1,y1]
    exact bj (ag (ba (ag (aS (ba (ag (ag (bj (ag (ba (ag (aS (ba (ag (ag (aS rfl))))))))))))))))
  · show (Bj _ _ _ _ _ _ _).run=_
    unfold Bj
    rw [bp x2,bp y2,acP (cX (nM x)) (cX (nM y)) (by omega) (by omega) (by omega)]
    have e1:nl (nM x)=nl (nM x):=rfl
    exact aS (cn (aT x2) (cn (aT y2) (ag rfl)))
  · show (Bk _ _ _ _ _ _ _ _).run=_
    unfold Bk
    rw [bp hm]
    have h1':bN (!(nS x==nS y)) (ay (nM x*nM y) (nl (nM x*nM y))) (nE x e+nE y f)=_:=h1
    rw [h1']
    exact aS (cn (by rw [cK];omega) (cn (aT hm) (ag rfl)))
def DQ(z:Int) :Int:=if z<0 then -1 else if 0<z then 1 else 0
theorem uB(z:Int) :fC (nS z) (ay (nM z) (nl (nM z)))=some (.r0 (DQ z)):=by
  refine aR ?_
  unfold Gg
  rw [az]
  unfold DQ nS
  by_cases h0:z=0
  · subst h0;rw [lI,fN];exact bj rfl
  · have:nl (nM z)≠0:=fun q=>LI h0 (lW.1 q)
    by_cases h:z<0
    · rw [if_pos h];exact cP (j2 (decide_eq_true h) rfl)
    · rw [if_neg h,if_pos (by omega)];exact cP (co (decide_eq_false h) rfl)
theorem adG{X Y p:Nat}(hp:0<p) :vH X Y=QV ((X:Int)*p) ((Y:Int)*p):=by
  unfold vH QV
  have h:∀ {a b:Nat},a<b↔(a:Int)*p<(b:Int)*p:=fun {a b}=>by
    rw [←Int.natCast_mul,←Int.natCast_mul,Int.ofNat_lt]
    exact ⟨fun q=>Nat.mul_lt_mul_of_pos_right q hp,fun q=>Nat.lt_of_mul_lt_mul_right q⟩
  simp only [h]
theorem adH{a b:Int} :(0:Int)-QV a b=QV (-a) (-b):=by unfold QV;split<;>split<;>(try split)<;>omega
theorem abn{x y e:Int}(hx:Sm x e)(hy:Sm y e) :
    pa (nS x) (ay (nM x) (nl (nM x))) (nE x e) (nS y) (ay (nM y) (nl (nM y))) (nE y e)=some (.r0 (QV x y) 0):=by
  obtain ⟨Nx,x1,x2,x3⟩:=zX (s:=nS x) (fun _=>rfl) hx
  obtain ⟨Ny,y1,y2,y3⟩:=zX (s:=nS y) (fun _=>rfl) hy
  obtain ⟨m,ep,l1,l2⟩:=NU hx hy
  have xl:=hx.l
  have yl:=hy.l
  have hX:nl (x.natAbs/2^m)≤300:=Nat.le_trans (tZ (Nat.div_le_self _ _)) xl
  have hY:nl (y.natAbs/2^m)≤300:=Nat.le_trans (tZ (Nat.div_le_self _ _)) yl
  have hc:vH (x.natAbs/2^m) (y.natAbs/2^m)=QV (x.natAbs:Int) (y.natAbs:Int):=by
    rw [adG (iC m),←Int.natCast_mul,←Int.natCast_mul,l2.x2,l2.y2]
  have t8:(Bn 0 (ay (x.natAbs/2^m) (nl (x.natAbs/2^m))) (nl (x.natAbs/2^m)) (ay (y.natAbs/2^m) (nl (y.natAbs/2^m))) (nl (y.natAbs/2^m))).run=some (.inl (QV (x.natAbs:Int) (y.natAbs:Int))):=by
    unfold Bn
    rw [ez az,ez az,Xf (cX _) (cX _) (by omega) (by omega) (by omega) (by omega),←hc]
    exact aS (kt (kt (ag rfl)))
  have t7:(Bm 0 (ay (nM x) Nx) 0 (nl (nM x)) (nE x e) (ay (nM y) Ny) 0 (nl (nM y)) (nE y e)).run=some (.inl (0,ep,ay (x.natAbs/2^m) (nl (x.natAbs/2^m)),nl (x.natAbs/2^m),ay (y.natAbs/2^m) (nl (y.natAbs/2^m)),nl (y.natAbs/2^m))):=by
    unfold Bm
    rw [bp x2,bp y2,l1]
    exact aS (cn (aT x2) (cn (aT y2) (ag rfl)))
  refine aR (ae (a:=(0,nS x,ay (nM x) Nx,0,nl (nM x),nE x e,nS y,ay (nM y) Ny,0,nl (nM y),nE y e)) ?_ (ae t7 (ae t8 ?_)))
  · unfold Jm
    rw [aB,aB,E3 hx,E3 hy,x1,y1]
    exact bj (ag (ba (ag (aS (ba (ag (ag (bj (ag (ba (ag (aS (ba (ag (ag (aS rfl))))))))))))))))
  · have h9:∀ n18,pD (nS x) (ay (nM x) Nx) 0 (nl (nM x)) (nS y) (ay (nM y) Ny) 0 (nl (nM y)) n18=pD (nS x) (ay (nM x) Nx) 0 (nl (nM x)) (nS y) (ay (nM y) Ny) 0 (nl (nM y)) n18:=fun _=>rfl
    by_cases hs:DQ x=DQ y
    · by_cases hn:x<0
      · have e1:nS x=true:=decide_eq_true hn
        have hy0:y<0:=by unfold DQ at hs;rw [if_pos hn] at hs;revert hs;split<;>(try split)<;>omega
        have ev:(0:Int)-QV (x.natAbs:Int) (y.natAbs:Int)=QV x y:=by
          rw [adH];congr 1<;>omega
        refine be ?_
        unfold pD
        rw [bp x2,bp y2,uB,uB]
        simp only [g8,dO]
        refine cn (aT x2) (ag (cn (aT y2) (ag (co (by rw [hs,bne_self_eq_false]) (j2 e1 (cn ?_ ?_))))))
        · rw [ev,cK];unfold QV;split<;>(try split)<;>omega
        · rw [ev];rfl
      · have e1:nS x=false:=decide_eq_false hn
        have hy0 : ¬ y<0:=by unfold DQ at hs;rw [if_neg hn] at hs;revert hs;split<;>(try split)<;>(try split)<;>omega
        have ev:QV (x.natAbs:Int) (y.natAbs:Int)=QV x y:=by congr 1<;>omega
        refine ae (a:=()) ?_ (by rw [ev];rfl)
        unfold pD
        rw [bp x2,bp y2,uB,uB]
        simp only [g8,dO]
        exact cn (aT x2) (ag (cn (aT y2) (ag (co (by rw [hs,bne_self_eq_false]) (co e1 rfl)))))
    · have ev:kR (-1) (vG 1 (DQ x-DQ y))=QV x y:=by
        unfold kR vG QV;unfold DQ at hs ⊢
        revert hs
        repeat' split
        all_goals omega
      refine be ?_
      unfold pD
      rw [bp x2,bp y2,uB,uB]
      simp only [g8,dO]
      rw [ev]
      refine cn (aT x2) (ag (cn (aT y2) (ag (j2 (bne_iff_ne.2 hs) (cn (aT x2) (ag (cn (aT y2) (ag (cn ?_ rfl)))))))))
      rw [cK];unfold DQ;split<;>(try split)<;>(try split)<;>(try split)<;>omega
theorem Xh{x e k:Int}(hx:Sm x e)(hk : -30000≤k∧k≤30000) :
    ∃ N,g9 (nS x) (ay (nM x) (nl (nM x))) (nE x e) k=some (.r0 0 (nS x) (ay (nM x) N) 0 (nl (nM x)) (nE x (e+k)))∧nl (nM x)≤N∧N≤4096:=by
  obtain ⟨Nx,x1,x2,x3⟩:=zX (s:=nS x) (fun _=>rfl) hx
  have xm:=hx.m
  have xb:=hx.b
  have t5:(wT (nS x) (ay (nM x) (nl (nM x))) (nE x e)).run=some (.inl (0,nS x,ay (nM x) Nx,0,nl (nM x),nE x e,false)):=by
    unfold wT
    rw [aB,E3 hx,x1]
    exact bj (ag (ba (ag (aS (ba (ag (ag (aS rfl))))))))
  by_cases h0:x=0
  · subst h0
    rw [lI,fN] at t5
    rw [lI,fN,jd,KI]
    refine ⟨0,aR (ae (by rw [jd,KI] at t5;exact t5) (ae (a:=true) (aS rfl) (be (bj rfl)))),Nat.le_refl _,Nat.zero_le _⟩
  · have hl:nl (nM x)≠0:=fun q=>LI h0 (lW.1 q)
    have ek:kR (-1048576) (vG 1048576 k)=k:=by rw [aaw (by omega),TV (by omega)]
    obtain ⟨N,h1,h2,h3⟩:=E4 (nS x) (v:=nM x) (cX _) (by omega) (by omega) (e:=nE x e+k) (by omega)
    obtain ⟨a,b,c⟩:=Vb (z:=x) (e:=e) (s:=nS x) (fun _=>rfl)
    have c':nE (sg (nS x) (nM x)) (nE x e+k)=nE x (e+k):=by
      have q:sg (nS x) (nM x)≠0:=fun w=>LI h0 (v8.1 w)
      rw [ka q,ka h0] at c
      rw [ka q,ka h0,ka h0];omega
    rw [a,b,c'] at h1
    rw [b] at h2
    refine ⟨N,aR (ae t5 (ae (a:=false) (aS (by show some (Sum.inl _)=_;rw [beq_eq_false_iff_ne.2 (by omega)])) (ae (a:=(0,nS x,ay (nM x) N,0,nl (nM x),nE x (e+k))) ?_ rfl))),h2,h3⟩
    show (wW _ _ _ _ _ _ _ _).run=_
    unfold wW
    rw [bp x2,ek,h1]
    exact aS (cn (by rw [cK];omega) (cn (aT x2) (ag rfl)))
theorem B2{n:Nat}(h:n<9223372036854775808) :
    ∃ N,aZ (n:Int)=some (.r0 (nS (n:Int)) (ay (nM (n:Int)) N) 0 (nl (nM (n:Int))) (nE (n:Int) 0))∧nl (nM (n:Int))≤N∧N≤4096:=by
  have hW:n<W:=Nat.lt_trans h (by decide)
  have hn:nl n≤1:=gZ (by rw [Nat.pow_one];exact hW)
  obtain ⟨N,h1,h2,h3⟩:=py false (v:=n) (cX _) (by omega) (by omega) (e:=0) (by omega)
  have e:sg false n=(n:Int):=rfl
  rw [e] at h1 h2
  refine ⟨N,aR (ae (a:=((n:Int),false)) ?_ (ae (a:=(nS (n:Int),ay (nM (n:Int)) N,0,nl (nM (n:Int)),nE (n:Int) 0)) ?_ rfl)),h2,h3⟩
  · unfold Dl
    rw [o6 hW]
    exact co (by rw [decide_eq_false_iff_not];omega) rfl
  · show (w6 _ _).run=_
    unfold w6
    have d:decide ((n:Int)<0)=false:=by rw [decide_eq_false_iff_not];omega
    rw [aav hW,d]
    simp only [rp,cZ,c5,c6]
    rw [bp hn,h1]
    exact ag (cn (aT hn) (ag rfl))
theorem Hr{x:Nat}(hx:x<ya) :dp .and .u64 (Int.fdiv (x:Int) (2^(min (Int.toNat (52:Int)) IntKind.u64.bits))) 2047=((Al x:Nat):Int):=by
  have e:(52:Int)=((52:Nat):Int):=by omega
  have e':(2047:Int)=((2047:Nat):Int):=by omega
  rw [e,tW _ (by decide),e',FP]
  have h1:x/2^52<W:=Nat.lt_of_le_of_lt (Nat.div_le_self _ _) hx
  rw [Nat.mod_eq_of_lt h1,Nat.mod_eq_of_lt (show 2047<W by decide)]
  congr 1
  exact Nat.and_two_pow_sub_one_eq_mod _ 11
theorem CA{x:Nat}(hx:x<ya) :dp .and .u64 (x:Int) 4503599627370495=((x%4503599627370496:Nat):Int):=by
  have e':(4503599627370495:Int)=((4503599627370495:Nat):Int):=by omega
  rw [e',FP,Nat.mod_eq_of_lt hx,Nat.mod_eq_of_lt (show 4503599627370495<W by decide)]
  congr 1
  exact Nat.and_two_pow_sub_one_eq_mod _ 52
theorem Rz{x:Nat}(hx:x<ya) :Int.fdiv (x:Int) (2^(min (Int.toNat (63:Int)) IntKind.u64.bits))=((x/9223372036854775808:Nat):Int):=by
  have e:(63:Int)=((63:Nat):Int):=by omega
  rw [e,tW _ (by decide)]
theorem acV{y:Nat}(h:y<4503599627370496) :dp .or .u64 (y:Int) 4503599627370496=((y+4503599627370496:Nat):Int):=by
  have e':(4503599627370496:Int)=((4503599627370496:Nat):Int):=by omega
  have hy:y<W:=Nat.lt_trans h (by decide)
  rw [e',Sh,Nat.mod_eq_of_lt hy,Nat.mod_eq_of_lt (show 4503599627370496<W by decide)]
  congr 1
  have:=Ye (h:=y) (x:=1) (r:=52) h
  rw [Nat.one_mul] at this
  exact this
def aay(x:Nat) :Nat:=if Al x≠0 then 3 else if x%4503599627370496≠0 then 2 else 1
theorem ZF{x:Nat}(hx:x<ya)(h:mF x=true) :qe (x:Int)=some (.r0 (aay x)):=by
  have h':Al x≠2047:=by unfold mF at h;exact bne_iff_ne.1 h
  unfold aay
  by_cases h1:Al x=0
  · by_cases h2:x%4503599627370496=0
    · rw [if_neg (by omega),if_neg (by omega)]
      refine aR (ae (a:=()) ?_ rfl)
      unfold r8
      rw [Hr hx,CA hx,h1,h2]
      exact ag (aS (aS (aS (aS rfl))))
    · rw [if_neg (by omega),if_pos h2]
      refine aR (be ?_)
      unfold r8
      rw [Hr hx,CA hx,h1]
      exact ag (aS (aS (aS (cF rfl))))
  · rw [if_pos h1]
    refine aR (be ?_)
    unfold r8
    rw [Hr hx,CA hx]
    exact ag (cP (cP (cF rfl)))
def fm(x:Nat) :Nat:=if Al x≠0 then x%4503599627370496+4503599627370496 else x%4503599627370496
def fe(x:Nat) :Int:=if Al x≠0 then -1074+((Al x:Int)-1) else if x%4503599627370496≠0 then -1074 else 0
theorem RA{z:Nat}(h:z<4096) :IntKind.i64.wrap ((z:Nat):Int)=((z:Nat):Int):=by
  simp only [IntKind.wrap,IntKind.signed,IntKind.bits]
  simp
  omega
theorem ZG(x:Nat) :Al x<2048:=Nat.mod_lt _ (by decide)
theorem ZH{x:Nat}(hx:x<ya)(h:mF x=true) :dZ (x:Int)=some (.r0 0 (x/9223372036854775808==1) ((fm x:Nat):Int) (fe x)):=by
  have hl:=ZG x
  have hs:(((x/9223372036854775808:Nat):Int)==(1:Int))=(x/9223372036854775808==1):=by
    rw [Bool.eq_iff_iff,beq_iff_eq,beq_iff_eq];omega
  refine aR (ae (a:=(aay x,false,(x/9223372036854775808==1),((x%4503599627370496:Nat):Int))) ?_ ?_)
  · unfold Dm
    rw [ZF hx h,CA hx,Rz hx,hs]
    exact ag (ag rfl)
  · show (w7 _ _ _ _).run=_
    unfold w7 aay fm fe
    rw [Hr hx,RA (by omega),acV (Nat.mod_lt _ (by decide))]
    by_cases h1:Al x=0
    · by_cases h2:x%4503599627370496=0
      · rw [if_neg (by omega),if_neg (by omega),if_neg (by omega),if_neg (by omega),if_neg (by omega)]
        exact aS (aS (bj rfl))
      · rw [if_neg (by omega),if_pos h2,if_neg (by omega),if_neg (by omega),if_pos h2]
        exact aS (bj rfl)
    · rw [if_pos h1,if_pos h1,if_pos h1]
      exact bj (ag (cn (by rw [cK];omega) (cn (by rw [cK];omega) rfl)))
theorem ae9(x:Nat) :fm x<W:=by
  have:=Nat.mod_lt x (show 4503599627370496>0 by decide)
  have w:(9007199254740992:Nat)<W:=by decide
  unfold fm;split<;>omega
theorem acW{x:Nat}(hx:x<ya)(h:mF x=true) :nS (sg (x/9223372036854775808==1) (fm x))=nS (fz x)∧nM (sg (x/9223372036854775808==1) (fm x))=nM (fz x)∧nE (sg (x/9223372036854775808==1) (fm x)) (fe x)=nE (fz x) (-1074):=by
  have hx':x<18446744073709551616:=hx
  have hl:=ZG x
  unfold fz fm fe
  have hmod:x%4503599627370496=x%9223372036854775808%4503599627370496:=by omega
  by_cases h1:Al x=0
  · have h3:x%9223372036854775808<4503599627370496:=by unfold Al at h1;omega
    have h4:iw (x%9223372036854775808)=0:=by unfold iw;omega
    have h5:qI (x%9223372036854775808)=x%4503599627370496:=by unfold qI;rw [if_pos h3];omega
    rw [h4,h5,Nat.pow_zero,Nat.mul_one,if_neg (by omega),if_neg (by omega)]
    by_cases h2:x%4503599627370496=0
    · rw [h2,if_neg (by omega)]
      have z:sg (x/9223372036854775808==1) 0=0:=v8.2 rfl
      rw [z,jd,jd];exact ⟨rfl,rfl,rfl⟩
    · rw [if_pos h2];exact ⟨rfl,rfl,rfl⟩
  · have h3 : ¬ x%9223372036854775808<4503599627370496:=by unfold Al at h1;omega
    have h4:iw (x%9223372036854775808)=Al x-1:=by unfold iw Al;omega
    have h5:qI (x%9223372036854775808)=x%4503599627370496+4503599627370496:=by unfold qI;rw [if_neg h3];omega
    rw [h4,h5,if_pos h1,if_pos h1]
    obtain ⟨a,b,c⟩:=AQ (z:=sg (x/9223372036854775808==1) ((x%4503599627370496+4503599627370496)*2^(Al x-1))) (z':=sg (x/9223372036854775808==1) (x%4503599627370496+4503599627370496)) (m:=Al x-1) Yf (-1074)
    refine ⟨a.symm,b.symm,?_⟩
    rw [c];congr 1;omega
theorem acX{x:Nat}(hx:x<ya)(h:mF x=true) :
    ∃ N,jm x=some (.r0 0 (nS (fz x)) (ay (nM (fz x)) N) 0 (nl (nM (fz x))) (nE (fz x) (-1074)))∧nl (nM (fz x))≤N∧N≤4096:=by
  have hm:=ae9 x
  have hn:nl (fm x)≤1:=gZ (by rw [Nat.pow_one];exact hm)
  have hl:=ZG x
  have he : -1000000≤fe x∧fe x≤1000000:=by unfold fe;split<;>(try split)<;>omega
  obtain ⟨N,h1,h2,h3⟩:=py (x/9223372036854775808==1) (v:=fm x) (cX _) (by omega) (by omega) he
  obtain ⟨a,b,c⟩:=acW hx h
  rw [a,b,c] at h1
  rw [b] at h2
  refine ⟨N,aR (ae (a:=(0,false,(x/9223372036854775808==1),((fm x:Nat):Int),fe x)) ?_ (ae (a:=(nS (fz x),ay (nM (fz x)) N,0,nl (nM (fz x)),nE (fz x) (-1074))) ?_ rfl)),h2,h3⟩
  · unfold MI
    rw [ZH hx h]
    exact co (Sk hx h) (aa5 (cn (by rw [aao hx h];rfl) (ag rfl)))
  · show (EH _ _ _ _).run=_
    unfold EH
    rw [aav hm]
    simp only [rp,cZ,c5,c6]
    rw [bp hn,h1]
    exact aS (ag (cn (aT hn) (ag rfl)))
end Go.Plb.Seat
namespace Go.Plb
set_option linter.unusedSimpArgs false
set_option linter.unusedVariables false
set_option linter.unusedSectionVars false
variable [Rom]
abbrev H:Nat:=4294967296
end Go.Plb
namespace Go.Plb.Seat
open Go Go.Plb
set_option linter.unusedSimpArgs false
set_option linter.unusedVariables false
theorem CB{v n m:Nat}(h:m≤n) :List.take m (ay v n)=ay v m:=by
  have:=bp (v:=v) h
  rwa [FE,List.drop_zero] at this
theorem E5{v n:Nat}(h:v<W^n)(hn:n≤1000000) :fc (ay v n)=some (.r0 (nl v) (ay v (nl v))):=by
  have hl:=gZ h
  refine aR (ae rfl (ae (a:=((nl v:Nat):Int)) (bU (fun j=>((n-j:Nat):Int)) (n-nl v) (by simp only [az];rfl) (fun j hj=>?_) ?_) ?_))
  · show aC (md _ _).run _=_
    have e:Int.toNat (((n-j:Nat):Int)-1)=n-(j+1):=by omega
    have z:(ay v n).getD (n-(j+1)) 0=0:=by
      rw [cr h]
      exact yJ (Nat.lt_of_lt_of_le (cX v) (Nat.pow_le_pow_right (by decide) (by omega)))
    refine ae (a:=true) ?_ ?_
    · unfold md
      rw [e,z,az]
      exact cF (ai (ai (ai rfl)))
    · unfold Bo
      refine bj (ai ?_)
      show some (Sum.inl _)=_
      congr 2;omega
  · have e0:n-(n-nl v)=nl v:=by omega
    show aC (md _ _).run _=_
    rw [e0]
    by_cases h0:v=0
    · have z:=lW.2 h0
      rw [z]
      exact ae (a:=false) (aS rfl) (aS rfl)
    · have hp:=uR h0
      have e:Int.toNat (((nl v:Nat):Int)-1)=nl v-1:=by omega
      refine ae (a:=false) ?_ (aS rfl)
      unfold md
      rw [e,cr h,az]
      refine cF (ai (ai (ai ?_)))
      show some (Sum.inl _)=_
      congr 2
      rw [beq_eq_false_iff_ne];exact Ya h0
  · unfold Bp
    rw [az,ct,CB hl]
    exact ai (ai (ai (ai (ai rfl))))
def bl(v:Nat) :Nat:=if v=0 then 0 else v.log2+1
theorem adI(v:Nat) :v<2^bl v∧∀ j,j<bl v→0<v/2^j:=by
  unfold bl
  by_cases h:v=0
  · subst h;exact ⟨by decide,fun j hj=>absurd hj (by simp)⟩
  · rw [if_neg h]
    refine ⟨Nat.lt_log2_self,fun j hj=>?_⟩
    exact Nat.div_pos (Nat.le_trans (Nat.pow_le_pow_right (by decide) (by omega)) (Nat.log2_self_le h)) (iC j)
theorem NV{v n:Nat}(hv:v<W^n)(hn:n≤10000) :∃ b:Nat,kH (ay v n)=some (.r0 (b:Int))∧v<2^b∧b≤64*nl v:=by
  have hl:=gZ hv
  have t8:(w9 (ay v n)).run=some (.inl (ay v (nl v),nl v)):=by
    unfold w9
    rw [aB,E5 hv (by omega)]
    exact ba (ag rfl)
  by_cases h0:v=0
  · refine ⟨0,aR (ae t8 (be ?_)),by rw [h0];decide,Nat.zero_le _⟩
    rw [h0,fN];exact bj rfl
  · have hp:=uR h0
    obtain ⟨b1,b2⟩:=adI (v/W^(nl v-1)%W)
    have hlt:v/W^(nl v-1)%W<W:=Nat.mod_lt _ (by decide)
    have hb64:bl (v/W^(nl v-1)%W)≤64:=by
      rcases Nat.lt_or_ge 64 (bl (v/W^(nl v-1)%W)) with q | q
      · exfalso
        have:=b2 64 q
        have e:v/W^(nl v-1)%W/2^64=0:=Nat.div_eq_of_lt hlt
        omega
      · exact q
    have hdiv:v/W^(nl v-1)%W=v/W^(nl v-1):=by
      refine Nat.mod_eq_of_lt (Nat.div_lt_of_lt_mul ?_)
      rw [←Nat.pow_succ,show (nl v-1).succ=nl v by omega];exact cX v
    refine ⟨64*(nl v-1)+bl (v/W^(nl v-1)%W),aR (ae t8 (ae (a:=(((64*(nl v-1):Nat):Int),((v/W^(nl v-1)%W:Nat):Int))) ?_ (ae (a:=((64*(nl v-1)+bl (v/W^(nl v-1)%W):Nat):Int)) (bU (fun j=>(((64*(nl v-1)+j:Nat):Int),((v/W^(nl v-1)%W/2^j:Nat):Int))) (bl (v/W^(nl v-1)%W)) (by simp) (fun j hj=>?_) ?_) rfl))),?_,by omega⟩
    · show (xa _ _).run=_
      unfold xa
      have e1:Int.toNat (((nl v:Nat):Int)-1)=nl v-1:=by omega
      have e2:(64:Int)*(((nl v:Nat):Int)-1)=((64*(nl v-1):Nat):Int):=by omega
      rw [e1,e2,cr (cX v),rl,az]
      exact cP (ai (ai (ai (ai (ai rfl)))))
    · show (qj _ _).run=_
      have hpos:=b2 j hj
      unfold qj
      have e1:((64*(nl v-1)+j:Nat):Int)+(1:Int)=((64*(nl v-1)+(j+1):Nat):Int):=by omega
      have e2:Int.tdiv ((v/W^(nl v-1)%W/2^j:Nat):Int) (2:Int)=((v/W^(nl v-1)%W/2^(j+1):Nat):Int):=by
        show ((v/W^(nl v-1)%W/2^j/2:Nat):Int)=_
        rw [Nat.pow_succ,Nat.div_div_eq_div_mul]
      rw [e1,e2,o6 (Nat.lt_of_le_of_lt (Nat.div_le_self _ _) hlt)]
      exact cF (ai (ag rfl))
    · show (qj _ _).run=_
      have z:v/W^(nl v-1)%W/2^bl (v/W^(nl v-1)%W)=0:=Nat.div_eq_of_lt b1
      rw [z]
      exact aS rfl
    · have e:W^(nl v-1)=2^(64*(nl v-1)):=by rw [Nat.pow_mul]
      rw [Nat.pow_add,←e]
      rw [hdiv] at b1 ⊢
      have:=(Nat.div_lt_iff_lt_mul (fi (nl v-1))).1 b1
      rw [Nat.mul_comm];exact this
theorem acY(v i:Nat) :v/W^(i/64)%W/2^(i%64)%2=v/2^i%2:=by
  have hr:i%64<64:=Nat.mod_lt _ (by decide)
  have e64:W=2^(i%64)*(2*2^(63-i%64)):=by
    rw [←Nat.mul_assoc,←Nat.pow_succ,←Nat.pow_add];show 2^64=_;congr 1;omega
  rw [FQ i,Nat.mul_comm (2^(i%64)),←Nat.div_div_eq_div_mul]
  generalize v/W^(i/64)=y
  rw [e64,Nat.mod_mul_right_div_self,Nat.mod_mul_right_mod]
theorem CC{v n i:Nat}(hv:v<W^n)(hn:n≤10000)(hi:i≤1000000) :jA (ay v n) (i:Int)=some (.r0 (v/2^i%2==1)):=by
  have hr:i%64<64:=Nat.mod_lt _ (by decide)
  refine aR (ae (a:=(v/2^i%2==1)) ?_ rfl)
  unfold Gz
  rw [NR,NT,ct,cr hv,rl,tW _ (by omega),az]
  by_cases h:i/64<n
  · refine cF (ag (ai (cF (ag (ai (ai (ai (ag (ai (ag ?_))))))))))
    have e:Int.tmod ((v/W^(i/64)%W/2^(i%64):Nat):Int) (2:Int)=((v/W^(i/64)%W/2^(i%64)%2:Nat):Int):=rfl
    rw [e,acY]
    show some (Sum.inl _)=_
    congr 2
    rw [Bool.eq_iff_iff,beq_iff_eq,beq_iff_eq];omega
  · have z:v/2^i=0:=Va hv (by omega)
    rw [z]
    exact cF (ag (ai (cP rfl)))
theorem Xi{v n:Nat}(hv:v<W^n)(hn:n≤10000)(h0:v≠0) :nJ (ay v n)=some (.r0 (tz v)):=by
  have hl:=gZ hv
  obtain ⟨b,h1,h2,h3⟩:=NV hv hn
  have ht:=QT h0 h2
  obtain ⟨z1,z2⟩:=v7 v h0
  refine aR (ae (a:=(b:Int)) ?_ (ae rfl (be (bU (fun i=>i) (tz v) rfl (fun j hj=>?_) ?_))))
  · unfold Aa
    rw [aB,h1]
    exact ba (ag rfl)
  · have z:v/2^j%2=0:=by
      obtain ⟨d,hd⟩:∃ d,tz v=j+1+d:=⟨tz v-j-1,by omega⟩
      obtain ⟨c,hc⟩:=Nat.dvd_of_mod_eq_zero z1
      have:v=(2^d*c*2)*2^j:=by
        rw [hd,Nat.pow_add,Nat.pow_succ] at hc
        rw [hc];simp only [Nat.mul_assoc,Nat.mul_comm,Nat.mul_left_comm]
      rw [this,Nat.mul_div_cancel _ (iC j),Nat.mul_mod_left]
    show aC (lh _ _ _).run _=_
    refine ae (a:=()) ?_ (ai rfl)
    unfold lh
    rw [aB,CC hv hn (by omega),z]
    exact cF (ba (ag (aS rfl)))
  · show aC (lh _ _ _).run _=_
    refine be ?_
    unfold lh
    rw [aB,CC hv hn (by omega),z2]
    exact cF (ba (ag (bj rfl)))
theorem acZ(v k j:Nat) :v%2^(k+(j+1))/2^k=v%2^(k+j)/2^k+v/2^(k+j)%2*2^j:=by
  rw [←Nat.add_assoc,Nat.pow_succ,Nat.mod_mul,Nat.pow_add,Nat.mul_assoc,Nat.add_mul_div_left _ _ (iC k),Nat.mul_comm (2^j)]
theorem abo{v n k:Nat}(hv:v<W^n)(hn:n≤10000)(hk:k≤1000000) :
    ∃ b,pE (ay v n) (k:Int)=some (.r0 (ay (v/2^k) (nl (v/2^k))) (nl (v/2^k)) b):=by
  have hl:=gZ hv
  obtain ⟨b,h1,h2,h3⟩:=NV hv hn
  let f:Nat→Bool:=fun j=>Nat.rec (motive:=fun _=>Bool) false (fun j b=>b||(v/2^j%2==1)) j
  have t20:(xd (ay v n)).run=some (.inl (false,(b:Int))):=by
    unfold xd
    rw [aB,h1]
    exact ba (ag rfl)
  have hmin:min k b≤640000:=by omega
  have hm1:∀ j,j<min k b→j<k∧j<b:=fun j hj=>by omega
  have hm2 : ¬ (min k b<k∧min k b<b):=by omega
  have l26:df (sc (ay v n) (k:Int) (b:Int)) (false,0)=some (.inl (f (min k b))):=by
    revert hmin hm1 hm2
    generalize min k b=g
    intro hmin hm1 hm2
    refine bU (fun j=>(f j,j)) g rfl (fun j hj=>?_) ?_
    · obtain ⟨q1,q2⟩:=hm1 j hj
      show aC (nI _ _ _).run _=_
      refine ae (a:=true) ?_ (ae (a:=f (j+1)) ?_ (ai rfl))
      · unfold nI
        refine cF ?_
        show some (Sum.inl (decide _))=_
        rw [decide_eq_true (by omega)]
      · show (xe _ _ _ _).run=_
        unfold xe
        rw [aB,CC hv hn (by omega)]
        have hf:f (j+1)=(f j||(v/2^j%2==1)):=rfl
        rw [hf]
        refine bj ?_
        cases f j
        · exact aS (ba (ag rfl))
        · exact bj rfl
    · show aC (nI _ _ _).run _=_
      refine ae (a:=false) ?_ (be (aS rfl))
      unfold nI
      by_cases q:g<k
      · refine cF ?_
        show some (Sum.inl (decide _))=_
        rw [decide_eq_false (by omega)]
      · exact cP rfl
  refine ⟨f (min k b),aR (ae t20 (ae rfl (ae l26 ?_)))⟩
  by_cases hkb:b≤k
  · have z:v/2^k=0:=Nat.div_eq_of_lt (Nat.lt_of_lt_of_le h2 (Nat.pow_le_pow_right (by decide) hkb))
    rw [z,fN]
    refine be ?_
    unfold xf
    exact cF rfl
  · have e0:v%2^(k+0)/2^k=0:=Nat.div_eq_of_lt (Nat.mod_lt _ (iC _))
    have eb:v%2^(k+(b-k))/2^k=v/2^k:=by rw [show k+(b-k)=b by omega,Nat.mod_eq_of_lt h2]
    refine ae (a:=ay 0 n) ?_ (ae (a:=ay (v/2^k) n) (bU (fun j=>(((k+j:Nat):Int),ay (v%2^(k+j)/2^k) n)) (b-k) (by rw [e0];rfl) (fun j hj=>?_) ?_) (ae (a:=(ay (v/2^k) (nl (v/2^k)),nl (v/2^k))) ?_ rfl))
    · unfold xf
      rw [az,Cp]
      exact cP (ai (ai (ai (ai rfl))))
    · show aC (sd _ _ _ _ _).run _=_
      refine ae (a:=ay (v%2^(k+(j+1))/2^k) n) ?_ (cn (by rw [cK];omega) rfl)
      unfold sd
      have hbs:=acZ v k j
      have es:((k+j:Nat):Int)-(k:Int)=(j:Int):=by omega
      rw [aB,CC hv hn (by omega),es,NR,NT,ct]
      simp only [kJ,kh]
      refine j2 (by rw [decide_eq_true_eq];omega) (ba (ag ?_))
      have hr:j%64<64:=Nat.mod_lt _ (by decide)
      have hjn:j/64<n:=by omega
      by_cases hbit:v/2^(k+j)%2=1
      · rw [hbit,Nat.one_mul] at hbs
        have hU:v%2^(k+j)/2^k<2^j:=by
          refine Nat.div_lt_of_lt_mul ?_
          rw [←Nat.pow_add];exact Nat.mod_lt _ (iC _)
        have hUW:v%2^(k+j)/2^k<W^n:=by
          refine Nat.lt_of_lt_of_le hU ?_
          rw [show W^n=2^(64*n) by rw [Nat.pow_mul]]
          exact Nat.pow_le_pow_right (by decide) (by omega)
        rw [hbs]
        revert hU hUW
        generalize v%2^(k+j)/2^k=U
        intro hU hUW
        have hd:U/W^(j/64)<2^(j%64):=by
          refine Nat.div_lt_of_lt_mul ?_
          rw [Nat.mul_comm,←FQ];exact hU
        have hp:2^(j%64)<W:=HV hr
        have hp2:2^(j%64)+2^(j%64)≤W:=by
          have:2^(j%64+1)≤2^64:=Nat.pow_le_pow_right (by decide) hr
          rw [Nat.pow_succ] at this
          have w:W=2^64:=by decide
          omega
        have hx:U/W^(j/64)%W+2^(j%64)<W:=by
          have:=Nat.mod_le (U/W^(j/64)) W
          omega
        have fj:=U9 (n:=n) hx hjn
        rw [←FQ] at fj
        have e2:IntKind.u64.wrap ((1:Int)*2^(min (Int.toNat (((j%64:Nat)):Int)) IntKind.u64.bits))=((2^(j%64):Nat):Int):=by
          rw [show (1:Int)=((1:Nat):Int) from rfl,v6 _ (by omega),Nat.one_mul,Nat.mod_eq_of_lt hp]
        rw [hbit,e2,cr hUW,rl,nn,Nat.mod_eq_of_lt hx,fj,az,az]
        exact bj (ai (ag (ai (ai (ag (ai (ai (ai (ai (ag (ai (ai (ai rfl)))))))))))))
      · have z:v/2^(k+j)%2=0:=by omega
        rw [z,Nat.zero_mul,Nat.add_zero] at hbs
        rw [z,hbs]
        exact aS rfl
    · show aC (sd _ _ _ _ _).run _=_
      refine be (co (by rw [decide_eq_false_iff_not];omega) ?_)
      rw [eb];rfl
    · have hq:v/2^k<W^n:=Nat.lt_of_le_of_lt (Nat.div_le_self _ _) hv
      unfold Dr
      rw [az,ez az,E5 hq (by omega)]
      exact kt (ag rfl)
theorem ZI(s:Bool){v n:Nat}(hv:v<W^n)(hn:n≤10000)(hl:nl v≤4096){e:Int}(he : -1000000≤e∧e≤1000000) :
    jR s (ay v n) e=some (.r0 (nS (sg s v)) (ay (nM (sg s v)) (nl (nM (sg s v)))) (nl (nM (sg s v))) (nE (sg s v) e)):=by
  have t5:(xE (ay v n)).run=some (.inl (ay v (nl v),nl v,false)):=by
    unfold xE
    rw [aB,E5 hv (by omega)]
    exact ba (ag rfl)
  by_cases h0:v=0
  · have z:sg s v=0:=v8.2 h0
    rw [z,jd,KI,lI,fN]
    refine aR (ae t5 (be ?_))
    rw [h0,fN]
    exact bj rfl
  · have z:sg s v≠0:=fun q=>h0 (v8.1 q)
    have hp:=uR h0
    have ht:=aan (v:=v)
    obtain ⟨b,h1⟩:=abo (k:=tz v) (cX v) (by omega) (by omega)
    have eM:nM (sg s v)=v/2^tz v:=by unfold nM;rw [HW]
    have eE:nE (sg s v) e=e+((tz v:Nat):Int):=by rw [ka z,HW]
    rw [adV h0,eM,eE]
    refine aR (ae t5 (ae (a:=tz v) ?_ (ae (a:=(ay (v/2^tz v) (nl (v/2^tz v)),nl (v/2^tz v))) ?_ ?_)))
    · show (xF _ _).run=_
      unfold xF
      rw [ez az,Xi (cX v) (by omega) h0]
      exact cP (kt (ag rfl))
    · show (xG _ _ _).run=_
      unfold xG
      rw [ez az,h1]
      exact kt (ag rfl)
    · exact cn (by rw [cK];omega) rfl
theorem ac0{m:Nat}(h:m<W) :([(m:Int)]:List Int)=ay m 1:=by
  show [(m:Int)]=[]++[lm m 0]
  unfold lm;rw [Nat.pow_zero,Nat.div_one,Nat.mod_eq_of_lt h];rfl
theorem Xj{n:Nat}(h:n<9223372036854775808) :
    cT (n:Int)=some (.r0 (nS (n:Int)) (ay (nM (n:Int)) (nl (nM (n:Int)))) (nl (nM (n:Int))) (nE (n:Int) 0)):=by
  have hW:n<W:=Nat.lt_trans h (by decide)
  have hn:nl n≤1:=gZ (by rw [Nat.pow_one];exact hW)
  have h1:=ZI false (v:=n) (n:=1) (by rw [Nat.pow_one];exact hW) (by omega) (by omega) (e:=0) (by omega)
  have e:sg false n=(n:Int):=rfl
  rw [e] at h1
  refine aR (ae (a:=((n:Int),false)) ?_ (ae (a:=(nS (n:Int),ay (nM (n:Int)) (nl (nM (n:Int))),nl (nM (n:Int)),nE (n:Int) 0)) ?_ rfl))
  · unfold BL
    rw [o6 hW]
    exact co (by rw [decide_eq_false_iff_not];omega) rfl
  · show (vC _ _).run=_
    unfold vC
    have d:decide ((n:Int)<0)=false:=by rw [decide_eq_false_iff_not];omega
    rw [ac0 hW,ez az,d,h1]
    exact kt (ag rfl)
theorem abp{v n:Nat}(hn:n≤1000000) :qE (ay v n) (ay v n)=some (.r0 true):=by
  refine aR (ae (a:=()) (co (by simp) rfl) (ae (a:=()) (bU (fun i=>i) n rfl (fun j hj=>?_) ?_) rfl))
  · show (xC _ _ _).run=_
    unfold xC
    rw [az]
    exact cF (ai (ai (ai (ai (co (by simp) (ai rfl))))))
  · exact co (by rw [az];exact (by simp only [cK,v5,xQ,lH,mC,fM,mD,mE,decide_eq_true_eq,decide_eq_false_iff_not,beq_iff_eq,beq_eq_false_iff_ne,bne_iff_ne,bne_eq_false_iff_eq,Bool.not_eq_true',Bool.not_eq_false',List.length_set,ne_eq,ge_iff_le,gt_iff_lt,iv,ct,sG];omega)) rfl
theorem RB(s:Bool){v n:Nat}(e:Int)(hn:n≤1000000) :kO s (ay v n) e s (ay v n) e=some (.r0 true):=by
  refine aR (ae (a:=true) ?_ rfl)
  unfold DH
  rw [aB,abp hn]
  refine j2 (by cases s<;>rfl) (ba (ba (ag (bj ?_))))
  show some (Sum.inl (e==e))=_
  rw [beq_self_eq_true]
theorem pI{l:List Nat}(hw:Wd l)(hf:Fn l)(hn:l.length≤1000000) :
    am l=some (.r0 l.length (ji (gz l) l.length) (jj (gz l) l.length) (jk (gz l) (-1074) l.length)):=by
  have hn':∀ n,l.length=n→n≤1000000:=fun n h=>by omega
  generalize hL:l.length=n at *
  have hn:=hn' n rfl
  refine aR (ae (a:=(np (fun i=>nS (gz l i)) false 0 n,np (fun i=>LK (gz l i)) [] 0 n,np (fun i=>nE (gz l i) (-1074)) 0 0 n)) ?_ (ae (a:=(ji (gz l) n,jj (gz l) n,jk (gz l) (-1074) n)) (bU (fun j=>(j,np (fun i=>nS (gz l i)) false j n,np (fun i=>LK (gz l i)) [] j n,np (fun i=>nE (gz l i) (-1074)) 0 j n)) n rfl (fun j hj=>?_) ?_) (by rw [←hL];rfl)))
  · unfold Dw
    rw [hL,←uz,←uz,←uz]
    exact ai (ai (ai (ai rfl)))
  · show aC (qt _ _ _ _ _).run _=_
    refine ae (a:=(np (fun i=>nS (gz l i)) false (j+1) n,np (fun i=>LK (gz l i)) [] (j+1) n,np (fun i=>nE (gz l i) (-1074)) 0 (j+1) n)) ?_ (ai rfl)
    obtain ⟨N,h1,h2,h3⟩:=acX (hw j) (hf j (by omega))
    unfold qt
    rw [h1,xU,xU,xU,hL]
    simp only [u9,uf,qf,qg,qh,ug]
    rw [List.drop_zero,CB h2]
    refine cF (ai (ai (ag (ai (ai (ai (cn (decide_eq_true (by rw [az];omega)) (ai ?_))))))))
    rw [←uA hj,←uA hj,←uA hj];rfl
  · show aC (qt _ _ _ _ _).run _=_
    refine be (co (by rw [hL];exact (by simp only [cK,v5,xQ,lH,mC,fM,mD,mE,decide_eq_true_eq,decide_eq_false_iff_not,beq_iff_eq,beq_eq_false_iff_ne,bne_iff_ne,bne_eq_false_iff_eq,Bool.not_eq_true',Bool.not_eq_false',List.length_set,ne_eq,ge_iff_le,gt_iff_lt,iv,ct,sG];omega)) ?_)
    rw [xV,xV,xV];rfl
theorem CD{g:Nat→Int}{e:Int}{n from' far many:Nat}(h:∀ i,i<many→from'+i*far<n)(hn:n≤1000000)(hm:many≤1000000)(hfar:far≤1000)(hfr:from'≤1000000) :
    ab n (ji g n) (jj g n) (jk g e n) (from':Int) (far:Int) (many:Int)=some (.r0 many (ji (fun i=>g (from'+i*far)) many) (jj (fun i=>g (from'+i*far)) many) (jk (fun i=>g (from'+i*far)) e many)):=by
  refine aR (ae (a:=(many,many,np (fun i=>nS (g (from'+i*far))) false 0 many,np (fun i=>LK (g (from'+i*far))) [] 0 many,np (fun i=>nE (g (from'+i*far)) e) 0 0 many)) ?_ (ae (a:=(ji (fun i=>g (from'+i*far)) many,jj (fun i=>g (from'+i*far)) many,jk (fun i=>g (from'+i*far)) e many)) (bU (fun j=>(j,np (fun i=>nS (g (from'+i*far))) false j many,np (fun i=>LK (g (from'+i*far))) [] j many,np (fun i=>nE (g (from'+i*far)) e) 0 j many)) many rfl (fun j hj=>?_) ?_) rfl))
  · unfold G1
    rw [ct,←uz,←uz,←uz]
    exact ai (ai (ai (ai rfl)))
  · have hi:=h j hj
    have e1:((j:Nat):Int)*(far:Int)=((j*far:Nat):Int):=by rw [Int.natCast_mul]
    have e2:(from':Int)+((j*far:Nat):Int)=((from'+j*far:Nat):Int):=by rw [Int.natCast_add]
    show (un _ _ _ _ _ _ _ _ _ _ _ _).run=_
    unfold un
    rw [e1,e2,ct,xW,xX,xY,xU,xU,xU,FS hi,FU hi,FV hi,List.drop_zero,List.take_length]
    refine cF (ai (ai (ai (ai (ai (ai (ai (ai (ai (cn (by rw [decide_eq_true_eq];omega) (ai (ai ?_))))))))))))
    rw [←uA hj,←uA hj,←uA hj];rfl
  · show (un _ _ _ _ _ _ _ _ _ _ _ _).run=_
    refine cP ?_
    rw [xV,xV,xV];rfl
theorem NW{g h:Nat→Int}{e f:Int}{n k:Nat}(hg:∀ i,i<n→Sm (g i) e)(hh:∀ i,i<n→Sm (h i) f)(hk:∀ i,i<n→nl (g i*h i).natAbs≤k)(hk2:k≤200)(hn:n≤1000000)(he : -30000≤e+f∧e+f≤30000) :
    ∃ N,cu n (ji g n) (jj g n) (jk g e n) n (ji h n) (jj h n) (jk h f n)=some (.r0 0 (nS (gr (fun i=>g i*h i) n)) (ay (nM (gr (fun i=>g i*h i) n)) N) 0 (nl (nM (gr (fun i=>g i*h i) n))) (nE (gr (fun i=>g i*h i) n) (e+f)))∧nl (nM (gr (fun i=>g i*h i) n))≤N∧N≤4096:=by
  have hS:∀ j,j≤n→Sm (gr (fun i=>g i*h i) j) (e+f):=fun j hj=>sF (Cr (fun i hi=>hk i (by omega)) (by omega)) (by omega) he
  have hp:∀ j,j<n→Sm (g j*h j) (e+f):=fun j hj=>sF (hk j hj) (by omega) he
  have loop:∃ y,df (um n (ji g n) (jj g n) (jk g e n) n (ji h n) (jj h n) (jk h f n)) (0,0,false,([]:List Int),0,0,(0:Int))=some y ∧
      ∃ N,y=.inl (0,nS (gr (fun i=>g i*h i) n),ay (nM (gr (fun i=>g i*h i) n)) N,0,nl (nM (gr (fun i=>g i*h i) n)),nE (gr (fun i=>g i*h i) n) (e+f))∧nl (nM (gr (fun i=>g i*h i) n))≤N∧N≤4096:=by
    refine Yk (fun j s=>∃ N,s=(0,j,nS (gr (fun i=>g i*h i) j),ay (nM (gr (fun i=>g i*h i) j)) N,0,nl (nM (gr (fun i=>g i*h i) j)),nE (gr (fun i=>g i*h i) j) (e+f))∧nl (nM (gr (fun i=>g i*h i) j))≤N∧N≤4096) n ?_ (fun j s hj hs=>?_) (fun s hs=>?_)
    · refine ⟨0,?_,?_,by omega⟩
      · show _=(0,0,nS 0,ay (nM 0) 0,0,nl (nM 0),nE 0 (e+f))
        rw [lI,fN,jd];rfl
      · show nl (nM 0)≤0
        rw [lI,fN];exact Nat.le_refl _
    · obtain ⟨N,rfl,hN1,hN2⟩:=hs
      obtain ⟨M,m1,m2,m3⟩:=Cz (hg j hj) (hh j hj)
      obtain ⟨A,a1,a2,a3⟩:=abm (hS j (by omega)) (hp j hj)
      refine ⟨_,?_,A,rfl,a2,a3⟩
      show aC (zJ _ _ _ _ _ _ _ _ _ _ _ _ _ _ _).run _=_
      refine ae (a:=(0,nS (gr (fun i=>g i*h i) j+g j*h j),ay (nM (gr (fun i=>g i*h i) j+g j*h j)) A,0,nl (nM (gr (fun i=>g i*h i) j+g j*h j)),nE (gr (fun i=>g i*h i) j+g j*h j) (e+f))) ?_ (ai rfl)
      unfold zJ
      have m1':ak (nS (g j)) (LK (g j)) (nE (g j) e) (nS (h j)) (LK (h j)) (nE (h j) f)=_:=m1
      rw [xW,xX,xY,xW,xX,xY,FS hj,FU hj,FV hj,FS hj,FU hj,FV hj,aB,aB,m1']
      simp only [ku,iN,bO,bG,bH,bJ,bP]
      rw [bp hN1,bp m2,a1]
      exact cF (ai (ai (ai (ai (ai (ai (ai (ai (ba (ba (ag (aS (cn (aT hN1) (cn (aT m2) (ag (aS rfl))))))))))))))))
    · obtain ⟨N,rfl,hN1,hN2⟩:=hs
      exact ⟨_,be (cP rfl),N,rfl,hN1,hN2⟩
  obtain ⟨y,l1,N,rfl,l2,l3⟩:=loop
  exact ⟨N,aR (ae (a:=false) rfl (ae (a:=false) (co (by simp) rfl) (ae l1 (aS rfl)))),l2,l3⟩
theorem zY{g:Nat→Int}{e:Int}{n k:Nat}(hg:∀ i,i<n→nl (g i).natAbs≤k)(hk2:k≤100)(hn:n≤1000000)(he : -10000≤e∧e≤10000) :
    ∃ N,bk n (ji g n) (jj g n) (jk g e n)=some (.r0 0 (nS (gr (fun i=>g i*g i) n)) (ay (nM (gr (fun i=>g i*g i) n)) N) 0 (nl (nM (gr (fun i=>g i*g i) n))) (nE (gr (fun i=>g i*g i) n) (e+e)))∧nl (nM (gr (fun i=>g i*g i) n))≤N∧N≤4096:=by
  obtain ⟨N,h1,h2,h3⟩:=NW (g:=g) (h:=g) (e:=e) (f:=e) (n:=n) (k:=k+k) (fun i hi=>sF (hg i hi) (by omega) (by omega)) (fun i hi=>sF (hg i hi) (by omega) (by omega)) (fun i hi=>mG (hg i hi) (hg i hi)) (by omega) hn (by omega)
  refine ⟨N,aR (ae (a:=(0,nS (gr (fun i=>g i*g i) n),ay (nM (gr (fun i=>g i*g i) n)) N,0,nl (nM (gr (fun i=>g i*g i) n)),nE (gr (fun i=>g i*g i) n) (e+e))) ?_ rfl),h2,h3⟩
  unfold Ac
  rw [eG,eH,eI,h1]
  exact lU (lU (ag rfl))
def Ai(r c:Int)(n:Nat) :Bool:=decide (0≤r∧r≤512∧0≤c∧c≤512∧(n:Int)=r*c)
theorem TW{r c:Int}{n:Nat} :Ai r c n=true↔0≤r∧r≤512∧0≤c∧c≤512∧(n:Int)=r*c:=decide_eq_true_iff
theorem ZJ{r c:Int}(h1:0≤r)(h2:r≤512)(h3:0≤c)(h4:c≤512) :0≤r*c∧r*c≤262144:=by
  refine ⟨Int.mul_nonneg h1 h3,?_⟩
  have:r*c≤512*512:=Int.mul_le_mul h2 h4 h3 (by decide)
  omega
theorem TX{r c:Int}{n:Nat}(h:Ai r c n=true) :∃ p q:Nat,r=(p:Int)∧c=(q:Int)∧p≤512∧q≤512∧n=p*q∧n≤262144:=by
  obtain ⟨h1,h2,h3,h4,h5⟩:=TW.1 h
  have hb:=ZJ h1 h2 h3 h4
  refine ⟨r.toNat,c.toNat,by omega,by omega,by omega,by omega,?_,by omega⟩
  have e1:r=((r.toNat:Nat):Int):=by omega
  have e2:c=((c.toNat:Nat):Int):=by omega
  rw [e1,e2,←Int.natCast_mul] at h5
  have:=Int.ofNat_inj.1 h5
  simpa using this
theorem rM(r c:Int)(l:List Nat) :cM r c l=some (.r0 (!(Ai r c l.length))):=by
  refine aR (ae (a:=!(Ai r c l.length)) ?_ rfl)
  unfold Du
  by_cases h1:r<0
  · have:Ai r c l.length=false:=by unfold Ai;rw [decide_eq_false_iff_not];omega
    rw [this];exact j2 (decide_eq_true h1) rfl
  by_cases h2:r>512
  · have:Ai r c l.length=false:=by unfold Ai;rw [decide_eq_false_iff_not];omega
    rw [this];exact co (decide_eq_false h1) (j2 (decide_eq_true h2) rfl)
  by_cases h3:c<0
  · have:Ai r c l.length=false:=by unfold Ai;rw [decide_eq_false_iff_not];omega
    rw [this];exact co (decide_eq_false h1) (co (decide_eq_false h2) (j2 (decide_eq_true h3) rfl))
  by_cases h4:c>512
  · have:Ai r c l.length=false:=by unfold Ai;rw [decide_eq_false_iff_not];omega
    rw [this];exact co (decide_eq_false h1) (co (decide_eq_false h2) (co (decide_eq_false h3) (j2 (decide_eq_true h4) rfl)))
  have hb:=ZJ (by omega:0≤r) (by omega:r≤512) (by omega:0≤c) (by omega:c≤512)
  refine co (decide_eq_false h1) (co (decide_eq_false h2) (co (decide_eq_false h3) (co (decide_eq_false h4) (cn (by rw [cK];omega) ?_))))
  show some (Sum.inl (((l.length:Nat):Int) != r*c))=_
  congr 2
  unfold Ai
  by_cases h5:((l.length:Nat):Int)=r*c
  · rw [decide_eq_true ⟨by omega,by omega,by omega,by omega,h5⟩,h5];simp
  · rw [decide_eq_false (by omega),bne_iff_ne.2 h5];rfl
theorem NX(r c:Int)(l:List Nat) :mf r c l=some (.r0 (Ai r c l.length)):=by
  refine aR (ae (a:=Ai r c l.length) ?_ rfl)
  unfold GC
  by_cases h1:r≥0
  · by_cases h2:r≤512
    · by_cases h3:c≥0
      · by_cases h4:c≤512
        · have hb:=ZJ h1 h2 h3 h4
          refine j2 (decide_eq_true h1) (j2 (decide_eq_true h2) (j2 (decide_eq_true h3) (j2 (decide_eq_true h4) (cn (by rw [cK];omega) ?_))))
          show some (Sum.inl (((l.length:Nat):Int)==r*c))=_
          congr 2
          unfold Ai
          by_cases h5:((l.length:Nat):Int)=r*c
          · rw [decide_eq_true ⟨by omega,by omega,by omega,by omega,h5⟩,beq_iff_eq.2 h5]
          · rw [decide_eq_false (by omega),beq_eq_false_iff_ne.2 h5]
        · have:Ai r c l.length=false:=by unfold Ai;rw [decide_eq_false_iff_not];omega
          rw [this];exact j2 (decide_eq_true h1) (j2 (decide_eq_true h2) (j2 (decide_eq_true h3) (co (decide_eq_false h4) rfl)))
      · have:Ai r c l.length=false:=by unfold Ai;rw [decide_eq_false_iff_not];omega
        rw [this];exact j2 (decide_eq_true h1) (j2 (decide_eq_true h2) (co (decide_eq_false h3) rfl))
    · have:Ai r c l.length=false:=by unfold Ai;rw [decide_eq_false_iff_not];omega
      rw [this];exact j2 (decide_eq_true h1) (co (decide_eq_false h2) rfl)
  · have:Ai r c l.length=false:=by unfold Ai;rw [decide_eq_false_iff_not];omega
    rw [this];exact co (decide_eq_false h1) rfl
noncomputable def E6(l:List Nat) :Bool:=@decide (Fn l) (Classical.propDecidable _)
theorem js{l:List Nat} :E6 l=true↔Fn l:=@decide_eq_true_iff _ (Classical.propDecidable _)
theorem NY{l:List Nat} :E6 l=false↔¬ Fn l:=@decide_eq_false_iff_not _ (Classical.propDecidable _)
theorem NZ{l:List Nat}(hw:Wd l)(hn:l.length≤1000000000) :∃ k:Int,ao l=some (.r0 k)∧decide (k≥0) = !(E6 l):=by
  have step:∀ j,j<l.length→mF (l.getD j 0)=true→cW l j=some (.inl (j+1)):=by
    intro j hj hf
    show (cp _ _).run=_
    unfold cp
    exact cF (ai (ai (co (Sk (hw j) hf) (bj (co (adt (hw j) hf) (ai rfl))))))
  by_cases h:Fn l
  · refine ⟨-1,aR (ae (a:=()) rfl (ae (a:=()) (bU (fun j=>j) l.length rfl (fun j hj=>step j hj (h j hj)) (cP rfl)) rfl)),?_⟩
    rw [js.2 h];rfl
  · obtain ⟨k,hk,hb,hf⟩:=rj (p:=fun i=>mF (l.getD i 0)=true) h
    have hbf:mF (l.getD k 0)=false:=by cases q:mF (l.getD k 0) with | true=>exact absurd q hb | false=>rfl
    refine ⟨(k:Int),aR (ae (a:=()) rfl (be (bU (fun j=>j) k rfl (fun j hj=>step j (by omega) (hf j hj)) ?_))),?_⟩
    · show (cp _ _).run=_
      unfold cp
      refine cF (ai (ai ?_))
      rcases QX (hw k) hbf with q | ⟨q1,q2,q3⟩
      · exact j2 (aap q) rfl
      · exact co q3 (bj (j2 (adu (hw k) q2) rfl))
    · rw [NY.2 h,decide_eq_true (by omega)];rfl
theorem Ir{l:List Nat}(hw:Wd l)(hn:l.length≤1000000000) :fT l=some (.r0 (E6 l)):=by
  have step:∀ j,j<l.length→mF (l.getD j 0)=true→mN l j=some (.inl (j+1)):=by
    intro j hj hf
    show (lk _ _).run=_
    unfold lk
    exact cF (ai (ai (ai (ai (co (by rw [Vc (hw j),hf];rfl) (ai rfl))))))
  by_cases h:Fn l
  · rw [js.2 h]
    exact aR (ae (a:=()) rfl (ae (a:=()) (bU (fun j=>j) l.length rfl (fun j hj=>step j hj (h j hj)) (cP rfl)) rfl))
  · obtain ⟨k,hk,hb,hf⟩:=rj (p:=fun i=>mF (l.getD i 0)=true) h
    have hbf:mF (l.getD k 0)=false:=by cases q:mF (l.getD k 0) with | true=>exact absurd q hb | false=>rfl
    rw [NY.2 h]
    refine aR (ae (a:=()) rfl (be (bU (fun j=>j) k rfl (fun j hj=>step j (by omega) (hf j hj)) ?_)))
    show (lk _ _).run=_
    unfold lk
    exact cF (ai (ai (ai (ai (j2 (by rw [Vc (hw k),hbf];rfl) rfl)))))
theorem TY(x:Nat) :Int.tmod (Int.fdiv (x:Int) (2^(min (Int.toNat (52:Int)) IntKind.u64.bits))) (2048:Int)=((Al x:Nat):Int):=Vj x
def JG(l:List Nat) :Int:=gr (fun i=>gz l i*gz l i) l.length
theorem aey{l:List Nat}(hw:Wd l)(hf:Fn l)(hn:l.length≤1000000) :nl (JG l).natAbs≤67 :=
  Cr (fun i hi=>mG (xZ hw hf hi) (xZ hw hf hi)) hn
theorem RC{r c:Int}{l:List Nat}(hw:Wd l)(h:Ai r c l.length=true)(hf:E6 l=true) :
    ∃ N,c7 r c l=some (.r0 0 (nS (JG l)) (ay (nM (JG l)) N) 0 (nl (nM (JG l))) (nE (JG l) (-2148)))∧nl (nM (JG l))≤N∧N≤4096:=by
  obtain ⟨_,_,_,_,_,_,_,hn⟩:=TX h
  obtain ⟨k,k1,k2⟩:=NZ hw (by omega)
  have hF:=js.1 hf
  obtain ⟨N,h1,h2,h3⟩:=zY (g:=gz l) (e:=-1074) (n:=l.length) (k:=33) (fun i hi=>xZ hw hF hi) (by omega) (by omega) (by omega)
  refine ⟨N,aR (ae (a:=false) ?_ (ae (a:=(0,nS (JG l),ay (nM (JG l)) N,0,nl (nM (JG l)),nE (JG l) (-2148))) ?_ rfl)),h2,h3⟩
  · unfold GZ
    rw [aB,rM,h,k1]
    exact bj (ag (ba (ag (aS (ag (aS (aS (bj (ag (ba (ag (co (by rw [hf] at k2;exact k2) (ag (aS rfl))))))))))))))
  · unfold G0
    rw [aB,pI hw hF (by omega)]
    simp only [fL,aD,cj,ck,cm]
    rw [eG,eH,eI,h1]
    exact ba (ag (lU (ag rfl)))
def bF(m n:Nat) :Nat:=64*max m 1*max n 1
def bI(m n:Nat) :Int:=(bF m n:Int)*(bF m n:Int)
theorem ad0{m n:Nat}(hm:m≤512)(hn:n≤512) :bF m n≤16777216:=by
  unfold bF
  have h1:max m 1≤512:=by omega
  have h2:max n 1≤512:=by omega
  have:max m 1*max n 1≤512*512:=Nat.mul_le_mul h1 h2
  rw [Nat.mul_assoc];omega
theorem ad1{m n:Nat}(hm:m≤512)(hn:n≤512) :nl (bF m n)≤1:=by
  have:=ad0 hm hn
  exact gZ (by rw [Nat.pow_one];exact Nat.lt_of_le_of_lt this (by decide))
theorem aaz{m n:Nat}(hm:m≤512)(hn:n≤512) :nl (bI m n).natAbs≤2:=by
  have h:=ad1 hm hn
  exact mG (a:=1) (b:=1) (by rw [Int.natAbs_natCast];exact h) (by rw [Int.natAbs_natCast];exact h)
theorem ad2{m n:Nat}(hm:m≤512)(hn:n≤512) :Sm (bF m n:Int) 0:=sF (k:=1) (by rw [Int.natAbs_natCast];exact ad1 hm hn) (by omega) (by omega)
theorem Xk(m:Nat) :kR (m:Int) 1=((max m 1:Nat):Int):=by
  by_cases h:m≤1
  · rw [TV (by omega),Nat.max_eq_right h];rfl
  · rw [aax (by omega),Nat.max_eq_left (by omega)]
theorem aez(m n:Nat) :((64:Int)*((max m 1:Nat):Int))*((max n 1:Nat):Int)=((bF m n:Nat):Int):=by
  unfold bF;rw [Int.natCast_mul,Int.natCast_mul];rfl
theorem N0{m n:Nat}(hm:m≤512)(hn:n≤512) :
    ∃ N,cE (m:Int) (n:Int)=some (.r0 0 (nS (bI m n)) (ay (nM (bI m n)) N) 0 (nl (nM (bI m n))) (nE (bI m n) (-106)))∧nl (nM (bI m n))≤N∧N≤4096:=by
  have hb:=ad0 hm hn
  obtain ⟨A,a1,a2,a3⟩:=B2 (n:=bF m n) (by omega)
  obtain ⟨B,b1,b2,b3⟩:=Cz (ad2 hm hn) (ad2 hm hn)
  have b2:nl (nM (bI m n))≤B:=b2
  have hB:Sm (bI m n) (0+0):=sF (aaz hm hn) (by omega) (by omega)
  obtain ⟨C,c1,c2,c3⟩:=Xh (k:=-106) hB (by omega)
  have hmx:max m 1≤512:=by omega
  refine ⟨C,aR (ae (a:=(false,false)) ?_ (ae (a:=(nS (bF m n:Int),ay (nM (bF m n:Int)) A,0,nl (nM (bF m n:Int)),nE (bF m n:Int) 0)) ?_ (ae (a:=(0,nS (bI m n),ay (nM (bI m n)) B,0,nl (nM (bI m n)),nE (bI m n) (0+0))) ?_ (ae (a:=(0,nS (bI m n),ay (nM (bI m n)) C,0,nl (nM (bI m n)),nE (bI m n) (-106))) ?_ rfl)))),c2,c3⟩
  · unfold Dv
    refine co (by rw [decide_eq_false_iff_not];omega) (co (by rw [decide_eq_false_iff_not];omega) (co (by rw [decide_eq_false_iff_not];omega) ?_))
    show some (Sum.inl (decide ((n:Int)>512),false))=_
    rw [decide_eq_false (by omega)]
  · show (xn _ _ _).run=_
    unfold xn
    rw [Xk,Xk,aez,a1]
    exact aS (cn (by rw [cK];omega) (cn (by rw [cK];omega) (ag rfl)))
  · show (xo _ _ _ _ _).run=_
    unfold xo
    rw [bp a2,b1]
    exact cn (aT a2) (cn (aT a2) (ag rfl))
  · show (xp _ _ _ _ _ _).run=_
    unfold xp
    rw [bp b2,c1]
    exact aS (cn (aT b2) (ag rfl))
theorem pq{i k c:Nat}(h:k<c) :(i*c+k)/c=i∧(i*c+k)%c=k:=by
  have hc:0<c:=by omega
  refine ⟨by rw [Nat.mul_comm,Nat.mul_add_div hc,Nat.div_eq_of_lt h,Nat.add_zero],?_⟩
  rw [Nat.mul_comm,Nat.mul_add_mod,Nat.mod_eq_of_lt h]
def aeA:Nat:=2^2148
def TZ:Int:=1*((aeA:Nat):Int)
theorem aeB:nS 1=nS TZ∧nM 1=nM TZ∧nE 1 0=nE TZ (-2148):=by
  have h:=acD 1 2148 (-2148)
  rw [show (-2148:Int)+((2148:Nat):Int)=0 by omega] at h
  unfold TZ aeA
  exact h
theorem afa(n:Nat) :W^n=2^(64*n):=by rw [Nat.pow_mul]
theorem aeC{a n:Nat}(h:a<64*n) :nl (2^a)≤n:=gZ (by rw [afa];exact aeo h)
theorem ac1:nl TZ.natAbs≤34:=by
  unfold TZ
  rw [Int.one_mul,Int.natAbs_natCast]
  unfold aeA
  exact aeC (a:=2148) (n:=34) (by decide)
def T1(l:List Nat)(r c i k:Nat) :Int:=gr (fun j=>gz l (j*c+i)*gz l (j*c+k)) r
def tG(l:List Nat)(r c i k:Nat) :Int:=T1 l r c i k-(if i=k then TZ else 0)
def gG(l:List Nat)(r c p:Nat) :Int:=tG l r c (p/c) (p%c)
def Ht(l:List Nat)(r c:Nat) :Int:=gr (fun p=>gG l r c p*gG l r c p) (c*c)
theorem aaA{l:List Nat}(hw:Wd l)(hf:Fn l){r c i k n:Nat}(hl:l.length=r*c)(hi:i<c)(hk:k<c)(hn:n≤r)(hr:r≤1000) :
    nl (gr (fun j=>gz l (j*c+i)*gz l (j*c+k)) n).natAbs≤67 :=
  Cr (fun j hj=>mG (xZ hw hf (by rw [hl];exact HT (by omega) hi)) (xZ hw hf (by rw [hl];exact HT (by omega) hk))) (by omega)
theorem afb{l:List Nat}(hw:Wd l)(hf:Fn l){r c i k:Nat}(hl:l.length=r*c)(hi:i<c)(hk:k<c)(hr:r≤1000) :nl (tG l r c i k).natAbs≤68:=by
  refine aaq (a:=67) (aaA hw hf hl hi hk (Nat.le_refl _) hr) ?_
  split
  · exact Nat.le_trans ac1 (by omega)
  · rw [Int.natAbs_zero,fN];omega
theorem ac2{l:List Nat}(hw:Wd l)(hf:Fn l){r c p:Nat}(hl:l.length=r*c)(hp:p<c*c)(hr:r≤1000) :nl (gG l r c p).natAbs≤68:=by
  have hc : 0 < c := by rcases Nat.eq_zero_or_pos c with h | h; · subst h; omega
                        · exact h
  exact afb hw hf hl (Nat.div_lt_of_lt_mul hp) (Nat.mod_lt _ hc) hr
theorem aeD{l:List Nat}(hw:Wd l)(hf:Fn l){r c n:Nat}(hl:l.length=r*c)(hr:r≤512)(hc:c≤512)(hn:n≤c*c) :nl (gr (fun p=>gG l r c p*gG l r c p) n).natAbs≤137:=by
  have:c*c≤512*512:=Nat.mul_le_mul hc hc
  exact Cr (fun p hp=>mG (ac2 hw hf hl (by omega) (by omega)) (ac2 hw hf hl (by omega) (by omega))) (by omega)
theorem ZK{l:List Nat}(hw:Wd l)(hf:Fn l){r c i k:Nat}(hl:l.length=r*c)(hi:i<c)(hk:k<c)(hr:r≤512)(hc:c≤512) :
    ∃ N,cR (i:Int) (k:Int) l.length (ji (gz l) l.length) (jj (gz l) l.length) (jk (gz l) (-1074) l.length) (r:Int) (c:Int) (nS 1) (ay (nM 1) (nl (nM 1))) (nE 1 0)=some (.r0 0 (nS (tG l r c i k)) (ay (nM (tG l r c i k)) N) 0 (nl (nM (tG l r c i k))) (nE (tG l r c i k) (-2148)))∧nl (nM (tG l r c i k))≤N∧N≤4096:=by
  have hb:r*c≤512*512:=Nat.mul_le_mul hr hc
  have li:∀ x,x<c→∀ j,j<r→x+j*c<l.length:=fun x hx j hj=>by rw [hl,Nat.add_comm];exact HT hj hx
  have l1:=CD (g:=gz l) (e:=-1074) (n:=l.length) (from':=i) (far:=c) (many:=r) (li i hi) (by omega) (by omega) (by omega) (by omega)
  have l2:=CD (g:=gz l) (e:=-1074) (n:=l.length) (from':=k) (far:=c) (many:=r) (li k hk) (by omega) (by omega) (by omega) (by omega)
  obtain ⟨D,d1,d2,d3⟩:=NW (g:=fun j=>gz l (i+j*c)) (h:=fun j=>gz l (k+j*c)) (e:=-1074) (f:=-1074) (n:=r) (k:=66) (fun j hj=>QY hw hf (li i hi j hj)) (fun j hj=>QY hw hf (li k hk j hj)) (fun j hj=>mG (xZ hw hf (li i hi j hj)) (xZ hw hf (li k hk j hj))) (by omega) (by omega) (by omega)
  have ed:gr (fun j=>gz l (i+j*c)*gz l (k+j*c)) r=T1 l r c i k:=Ei fun j _=>by rw [Nat.add_comm i,Nat.add_comm k]
  rw [ed] at d1 d2
  have t5:(vq (i:Int) (k:Int) l.length (ji (gz l) l.length) (jj (gz l) l.length) (jk (gz l) (-1074) l.length) (r:Int) (c:Int)).run=some (.inl (0,false,nS (T1 l r c i k),ay (nM (T1 l r c i k)) D,0,nl (nM (T1 l r c i k)),nE (T1 l r c i k) (-2148))):=by
    unfold vq
    rw [eG,eH,eI,l1,l2]
    simp only [iH,ac,aV,aW,aX]
    rw [eG,eH,eI,eG,eH,eI,d1]
    exact lU (ag (lU (ag (lU (lU (ag rfl))))))
  by_cases hik:i=k
  · have hD:Sm (T1 l r c i k) (-2148):=sF (aaA hw hf hl hi hk (Nat.le_refl _) (by omega)) (by omega) (by omega)
    have hO:Sm TZ (-2148):=sF ac1 (by omega) (by omega)
    obtain ⟨E,e1,e2,e3⟩:=Ry hD hO
    obtain ⟨o1,o2,o3⟩:=aeB
    have et:T1 l r c i k-TZ=tG l r c i k:=by unfold tG;rw [if_pos hik]
    rw [et] at e1 e2
    rw [o1,o2,o3]
    refine ⟨E,aR (ae t5 (ae (a:=false) ?_ (ae (a:=(0,nS (tG l r c i k),ay (nM (tG l r c i k)) E,0,nl (nM (tG l r c i k)),nE (tG l r c i k) (-2148))) ?_ rfl))),e2,e3⟩
    · show (vr _ _ _).run=_
      refine aS ?_
      show some (Sum.inl ((i:Int) != (k:Int)))=_
      rw [hik,bne_self_eq_false]
    · show (vt _ _ _ _ _ _ _ _ _ _).run=_
      unfold vt
      rw [bp d2,aB,e1]
      exact aS (cn (aT d2) (ba (ag rfl)))
  · have et:T1 l r c i k=tG l r c i k:=by unfold tG;rw [if_neg hik,Int.sub_zero]
    rw [et] at t5 d2
    refine ⟨D,aR (ae t5 (ae (a:=true) ?_ (be (bj rfl)))),d2,d3⟩
    show (vr _ _ _).run=_
    refine aS ?_
    show some (Sum.inl ((i:Int) != (k:Int)))=_
    rw [bne_iff_ne.2 (by omega)]
theorem ac3{g:Nat→Int}{n:Nat} :List.take n (ji g n)++[nS (g n)]=ji g (n+1):=Ef
theorem ac4{g:Nat→Int}{n:Nat} :List.take n (jj g n)++[ay (nM (g n)) (nl (nM (g n)))]=jj g (n+1):=Ef
theorem ac5{g:Nat→Int}{e:Int}{n:Nat} :List.take n (jk g e n)++[nE (g n) e]=jk g e (n+1):=Ef
theorem abq{l:List Nat}(hw:Wd l)(hf:Fn l){r c:Nat}(hl:l.length=r*c)(hr:r≤512)(hc:c≤512) :
    ∃ N,bm (c:Int) (c:Int) l.length (ji (gz l) l.length) (jj (gz l) l.length) (jk (gz l) (-1074) l.length) (r:Int) (c:Int) l (nS 1) (ay (nM 1) (nl (nM 1))) (nE 1 0)=some (.r0 0 (nS (Ht l r c)) (ay (nM (Ht l r c)) N) 0 (nl (nM (Ht l r c))) (nE (Ht l r c) (-4296)))∧nl (nM (Ht l r c))≤N∧N≤4096:=by
  have hcc:c*c≤512*512:=Nat.mul_le_mul hc hc
  obtain ⟨N,s1,s2,s3⟩:=zY (g:=gG l r c) (e:=-2148) (n:=c*c) (k:=68) (fun p hp=>ac2 hw hf hl hp (by omega)) (by omega) (by omega) (by omega)
  refine ⟨N,aR (ae (a:=false) rfl (ae (a:=()) rfl (ae (a:=(c*c,c*c,0,c*c,ji (gG l r c) (c*c),jj (gG l r c) (c*c),jk (gG l r c) (-2148) (c*c))) (bU (fun i=>(i*c,i*c,0,i,i*c,ji (gG l r c) (i*c),jj (gG l r c) (i*c),jk (gG l r c) (-2148) (i*c))) c (by rw [Nat.zero_mul];rfl) (fun i hi=>?_) ?_) (ae (a:=(0,nS (Ht l r c),ay (nM (Ht l r c)) N,0,nl (nM (Ht l r c)),nE (Ht l r c) (-4296))) ?_ rfl)))),s2,s3⟩
  · show aC (gF _ _ _ _ _ _ _ _ _).run _=_
    have hnx:(i+1)*c=i*c+c:=by rw [Nat.add_mul,Nat.one_mul]
    have hic:i*c≤512*512:=Nat.mul_le_mul (by omega) hc
    refine ae (a:=()) (cF rfl) (ae (a:=((i+1)*c,(i+1)*c,0,(i+1)*c,ji (gG l r c) ((i+1)*c),jj (gG l r c) ((i+1)*c),jk (gG l r c) (-2148) ((i+1)*c))) (U0 (ae (a:=()) rfl (ae (a:=(i*c+c,i*c+c,0,i*c+c,ji (gG l r c) (i*c+c),jj (gG l r c) (i*c+c),jk (gG l r c) (-2148) (i*c+c))) (bU (fun k=>(i*c+k,i*c+k,0,k,i*c+k,ji (gG l r c) (i*c+k),jj (gG l r c) (i*c+k),jk (gG l r c) (-2148) (i*c+k))) c rfl (fun k hk=>?_) ?_) (by rw [hnx];rfl)))) (ai rfl))
    · obtain ⟨A,a1,a2,a3⟩:=ZK hw hf hl hi hk hr hc
      obtain ⟨q1,q2⟩:=pq (i:=i) hk
      have eg:tG l r c i k=gG l r c (i*c+k):=by unfold gG;rw [q1,q2]
      rw [eg] at a1 a2
      show aC (dK _ _ _ _ _ _ _ _ _ _ _ _ _ _ _ _ _ _ _ _).run _=_
      refine ae (a:=(i*c+k+1,0,ji (gG l r c) (i*c+k+1),jj (gG l r c) (i*c+k+1),jk (gG l r c) (-2148) (i*c+k+1))) ?_ (ai rfl)
      unfold dK
      rw [eG,eH,eI,aB,a1]
      simp only [mj,iX,mQ,km,ko,kp,mR]
      rw [List.drop_zero,CB a2,ac3,ac4,ac5]
      exact cF (lU (ba (ba (ag (aS (ai (ai (ag (ai (cn (decide_eq_true (by rw [az];omega)) rfl))))))))))
    · show aC (dK _ _ _ _ _ _ _ _ _ _ _ _ _ _ _ _ _ _ _ _).run _=_
      exact be (cP rfl)
  · show aC (gF _ _ _ _ _ _ _ _ _).run _=_
    exact be (cP rfl)
  · show (gK _ _ _ _ _ _).run=_
    unfold gK
    rw [eG,eH,eI,s1]
    exact aS (lU (ag rfl))
theorem abr{r c:Nat}{l:List Nat}(hw:Wd l)(h:Ai r c l.length=true)(hf:E6 l=true) :
    ∃ N,iQ (r:Int) (c:Int) l=some (.r0 0 (nS (Ht l r c)) (ay (nM (Ht l r c)) N) 0 (nl (nM (Ht l r c))) (nE (Ht l r c) (-4296)))∧nl (nM (Ht l r c))≤N∧N≤4096:=by
  obtain ⟨h1,h2,h3,h4,h5⟩:=TW.1 h
  have hr:r≤512:=by omega
  have hc:c≤512:=by omega
  have hl:l.length=r*c:=by rw [←Int.natCast_mul] at h5;exact Int.ofNat_inj.1 h5
  have hb:r*c≤512*512:=Nat.mul_le_mul hr hc
  obtain ⟨k,k1,k2⟩:=NZ hw (by omega)
  have hF:=js.1 hf
  obtain ⟨A,a1,a2,a3⟩:=B2 (n:=1) (by omega)
  obtain ⟨N,n1,n2,n3⟩:=abq hw hF hl hr hc
  refine ⟨N,aR (ae (a:=false) ?_ (ae (a:=(l.length,ji (gz l) l.length,jj (gz l) l.length,jk (gz l) (-1074) l.length)) ?_ (ae (a:=(nS 1,ay (nM 1) A,0,nl (nM 1),nE 1 0)) ?_ (ae (a:=(0,nS (Ht l r c),ay (nM (Ht l r c)) N,0,nl (nM (Ht l r c)),nE (Ht l r c) (-4296))) ?_ rfl)))),n2,n3⟩
  · unfold G3
    rw [aB,rM,h,k1]
    exact bj (ag (ba (ag (aS (ag (aS (aS (bj (ag (ba (ag (co (by rw [hf] at k2;exact k2) (ag (aS rfl))))))))))))))
  · unfold G4
    rw [aB,pI hw hF (by omega)]
    exact ba (ag rfl)
  · have a1':aZ 1=_:=a1
    unfold G5
    rw [a1']
    exact ag rfl
  · show (zM _ _ _ _ _ _ _ _ _ _ _ _).run=_
    have a2':nl (nM 1)≤A:=a2
    unfold zM
    rw [eG,eH,eI,aB,bp a2',n1]
    exact lU (ba (cn (aT a2') (ag rfl)))
theorem adJ(j c i:Nat) :((j:Int)*(c:Int))+(i:Int)=((j*c+i:Nat):Int):=by rw [Int.natCast_add,Int.natCast_mul]
theorem aaB(j c:Nat) :(j:Int)*(c:Int)=((j*c:Nat):Int):=by rw [Int.natCast_mul]
structure E7 (A X Y V:List Nat) (r c d:Nat):Prop where
  hA:A.length=r*c
  hX:X.length=c*d
  hY:Y.length=r*d
  hV:V.length=d
  hr:r≤512
  hc:c≤512
  hd:d≤512
  wA:Wd A
  wX:Wd X
  wY:Wd Y
  wV:Wd V
  fA:Fn A
  fX:Fn X
  fY:Fn Y
  fV:Fn V
def tR(A X Y V:List Nat)(c d i k:Nat) :Int:=gr (fun j=>gz A (i*c+j)*gz X (j*d+k)) c-gz Y (i*d+k)*gz V k
def gR(A X Y V:List Nat)(c d p:Nat) :Int:=tR A X Y V c d (p/d) (p%d)
def E8(A X Y V:List Nat)(r c d:Nat) :Int:=gr (fun p=>gR A X Y V c d p*gR A X Y V c d p) (r*d)
section
variable {A X Y V : List Nat} {r c d : Nat}
theorem E7.lA(h:E7 A X Y V r c d){i j:Nat}(hi:i<r)(hj:j<c) :i*c+j<A.length:=by rw [h.hA];exact HT hi hj
theorem E7.lX(h:E7 A X Y V r c d){j k:Nat}(hj:j<c)(hk:k<d) :j*d+k<X.length:=by rw [h.hX];exact HT hj hk
theorem E7.lY(h:E7 A X Y V r c d){i k:Nat}(hi:i<r)(hk:k<d) :i*d+k<Y.length:=by rw [h.hY];exact HT hi hk
theorem E7.lV(h:E7 A X Y V r c d){k:Nat}(hk:k<d) :k<V.length:=by rw [h.hV];exact hk
theorem E7.bA(h:E7 A X Y V r c d) :A.length≤262144:=by rw [h.hA];exact Nat.mul_le_mul h.hr h.hc
theorem E7.bX(h:E7 A X Y V r c d) :X.length≤262144:=by rw [h.hX];exact Nat.mul_le_mul h.hc h.hd
theorem E7.bY(h:E7 A X Y V r c d) :Y.length≤262144:=by rw [h.hY];exact Nat.mul_le_mul h.hr h.hd
theorem E7.bV(h:E7 A X Y V r c d) :V.length≤512:=by rw [h.hV];exact h.hd
theorem E7.dot(h:E7 A X Y V r c d){i k n:Nat}(hi:i<r)(hk:k<d)(hn:n≤c) :nl (gr (fun j=>gz A (i*c+j)*gz X (j*d+k)) n).natAbs≤67:=by
  have:=h.hc
  exact Cr (fun j hj=>mG (xZ h.wA h.fA (h.lA hi (by omega))) (xZ h.wX h.fX (h.lX (by omega) hk))) (by omega)
theorem E7.yv(h:E7 A X Y V r c d){i k:Nat}(hi:i<r)(hk:k<d) :nl (gz Y (i*d+k)*gz V k).natAbs≤66 :=
  mG (xZ h.wY h.fY (h.lY hi hk)) (xZ h.wV h.fV (h.lV hk))
theorem E7.t(h:E7 A X Y V r c d){i k:Nat}(hi:i<r)(hk:k<d) :nl (tR A X Y V c d i k).natAbs≤68 :=
  aaq (a:=67) (h.dot hi hk (Nat.le_refl _)) (Nat.le_trans (h.yv hi hk) (by omega))
theorem E7.g(h:E7 A X Y V r c d){p:Nat}(hp:p<r*d) :nl (gR A X Y V c d p).natAbs≤68:=by
  have hd:0<d:=by
    rcases Nat.eq_zero_or_pos d with q | q
    · subst q;omega
    · exact q
  exact h.t (Nat.div_lt_of_lt_mul (by rw [Nat.mul_comm];exact hp)) (Nat.mod_lt _ hd)
theorem E7.s(h:E7 A X Y V r c d){n:Nat}(hn:n≤r*d) :nl (gr (fun p=>gR A X Y V c d p*gR A X Y V c d p) n).natAbs≤137:=by
  have:r*d≤512*512:=Nat.mul_le_mul h.hr h.hd
  exact Cr (fun p hp=>mG (h.g (by omega)) (h.g (by omega))) (by omega)
theorem abt(h:E7 A X Y V r c d){i k:Nat}(hi:i<r)(hk:k<d) :
    ∃ N,bK (i:Int) (k:Int) A.length (ji (gz A) A.length) (jj (gz A) A.length) (jk (gz A) (-1074) A.length) (c:Int) X.length (ji (gz X) X.length) (jj (gz X) X.length) (jk (gz X) (-1074) X.length) (d:Int) Y.length (ji (gz Y) Y.length) (jj (gz Y) Y.length) (jk (gz Y) (-1074) Y.length) (d:Int) V.length (ji (gz V) V.length) (jj (gz V) V.length) (jk (gz V) (-1074) V.length)
      = some (.r0 0 (nS (tR A X Y V c d i k)) (ay (nM (tR A X Y V c d i k)) N) 0 (nl (nM (tR A X Y V c d i k))) (nE (tR A X Y V c d i k) (-2148)))∧nl (nM (tR A X Y V c d i k))≤N∧N≤4096:=by
  have hr:=h.hr
  have hc:=h.hc
  have hd:=h.hd
  have bA:=h.bA
  have bX:=h.bX
  have bY:=h.bY
  have bV:=h.bV
  have hic:i*c≤512*512:=Nat.mul_le_mul (by omega) hc
  have hid:i*d≤512*512:=Nat.mul_le_mul (by omega) hd
  have lA:∀ j,j<c→i*c+j*1<A.length:=fun j hj=>by rw [Nat.mul_one];exact h.lA hi hj
  have lX:∀ j,j<c→k+j*d<X.length:=fun j hj=>by rw [Nat.add_comm];exact h.lX hj hk
  have l1:=CD (g:=gz A) (e:=-1074) (n:=A.length) (from':=i*c) (far:=1) (many:=c) lA (by omega) (by omega) (by omega) (by omega)
  have l2:=CD (g:=gz X) (e:=-1074) (n:=X.length) (from':=k) (far:=d) (many:=c) lX (by omega) (by omega) (by omega) (by omega)
  obtain ⟨D,d1,d2,d3⟩:=NW (g:=fun j=>gz A (i*c+j*1)) (h:=fun j=>gz X (k+j*d)) (e:=-1074) (f:=-1074) (n:=c) (k:=66) (fun j hj=>QY h.wA h.fA (lA j hj)) (fun j hj=>QY h.wX h.fX (lX j hj)) (fun j hj=>mG (xZ h.wA h.fA (lA j hj)) (xZ h.wX h.fX (lX j hj))) (by omega) (by omega) (by omega)
  have ed:gr (fun j=>gz A (i*c+j*1)*gz X (k+j*d)) c=gr (fun j=>gz A (i*c+j)*gz X (j*d+k)) c:=Ei fun j _=>by rw [Nat.mul_one,Nat.add_comm k]
  rw [ed] at d1 d2
  have ly:=h.lY hi hk
  have lv:=h.lV hk
  obtain ⟨E,e1,e2,e3⟩:=Cz (QY h.wY h.fY ly) (QY h.wV h.fV lv)
  have hD:Sm (gr (fun j=>gz A (i*c+j)*gz X (j*d+k)) c) (-1074 + -1074):=sF (h.dot hi hk (Nat.le_refl _)) (by omega) (by omega)
  have hP:Sm (gz Y (i*d+k)*gz V k) (-1074 + -1074):=sF (h.yv hi hk) (by omega) (by omega)
  obtain ⟨F,f1,f2,f3⟩:=Ry hD hP
  refine ⟨F,aR (ae (a:=(0,false,nS (gr (fun j=>gz A (i*c+j)*gz X (j*d+k)) c),ay (nM (gr (fun j=>gz A (i*c+j)*gz X (j*d+k)) c)) D,0,nl (nM (gr (fun j=>gz A (i*c+j)*gz X (j*d+k)) c)),nE (gr (fun j=>gz A (i*c+j)*gz X (j*d+k)) c) (-1074 + -1074))) ?_ (ae (a:=(0,nS (gz Y (i*d+k)*gz V k),ay (nM (gz Y (i*d+k)*gz V k)) E,0,nl (nM (gz Y (i*d+k)*gz V k)),nE (gz Y (i*d+k)*gz V k) (-1074 + -1074))) ?_ (ae (a:=(0,nS (tR A X Y V c d i k),ay (nM (tR A X Y V c d i k)) F,0,nl (nM (tR A X Y V c d i k)),nE (tR A X Y V c d i k) (-2148))) ?_ rfl))),f2,f3⟩
  · unfold vA
    have l1':ab A.length (ji (gz A) A.length) (jj (gz A) A.length) (jk (gz A) (-1074) A.length) ((i*c:Nat):Int) 1 (c:Int)=_:=l1
    rw [aaB,eG,eH,eI,eG,eH,eI,l1',l2]
    simp only [iH,ac,aV,aW,aX]
    rw [eG,eH,eI,eG,eH,eI,d1]
    exact cn (by rw [cK];omega) (lU (ag (lU (ag (lU (lU (ag rfl)))))))
  · show (pd _ _ _ _ _ _ _ _ _ _ _ _).run=_
    have e1':ak (nS (gz Y (i*d+k))) (LK (gz Y (i*d+k))) (nE (gz Y (i*d+k)) (-1074)) (nS (gz V k)) (LK (gz V k)) (nE (gz V k) (-1074))=_:=e1
    unfold pd
    rw [adJ,aaB,ct,ct,xW,xX,xY,xW,xX,xY,FS ly,FU ly,FV ly,FS lv,FU lv,FV lv,aB,aB,e1']
    exact aS (cn (by rw [cK];omega) (cn (by rw [cK];omega) (ai (ai (ai (ai (ai (ai (ai (ai (ba (ba (ag rfl)))))))))))))
  · show (pe _ _ _ _ _ _ _ _ _ _ _).run=_
    unfold pe
    rw [bp d2,bp e2,f1]
    exact aS (cn (aT d2) (cn (aT e2) (ag rfl)))
theorem abu(h:E7 A X Y V r c d) :
    ∃ N,bg (r:Int) (d:Int) A.length (ji (gz A) A.length) (jj (gz A) A.length) (jk (gz A) (-1074) A.length) (c:Int) A X.length (ji (gz X) X.length) (jj (gz X) X.length) (jk (gz X) (-1074) X.length) (d:Int) X Y.length (ji (gz Y) Y.length) (jj (gz Y) Y.length) (jk (gz Y) (-1074) Y.length) (d:Int) Y V.length (ji (gz V) V.length) (jj (gz V) V.length) (jk (gz V) (-1074) V.length)
      = some (.r0 0 (nS (E8 A X Y V r c d)) (ay (nM (E8 A X Y V r c d)) N) 0 (nl (nM (E8 A X Y V r c d))) (nE (E8 A X Y V r c d) (-4296)))∧nl (nM (E8 A X Y V r c d))≤N∧N≤4096:=by
  have hr:=h.hr
  have hc:=h.hc
  have hd:=h.hd
  have hrd:r*d≤512*512:=Nat.mul_le_mul hr hd
  obtain ⟨N,s1,s2,s3⟩:=zY (g:=gR A X Y V c d) (e:=-2148) (n:=r*d) (k:=68) (fun p hp=>h.g hp) (by omega) (by omega) (by omega)
  refine ⟨N,aR (ae (a:=false) rfl (ae (a:=()) rfl (ae (a:=(r*d,r*d,0,r*d,ji (gR A X Y V c d) (r*d),jj (gR A X Y V c d) (r*d),jk (gR A X Y V c d) (-2148) (r*d))) (bU (fun i=>(i*d,i*d,0,i,i*d,ji (gR A X Y V c d) (i*d),jj (gR A X Y V c d) (i*d),jk (gR A X Y V c d) (-2148) (i*d))) r (by rw [Nat.zero_mul];rfl) (fun i hi=>?_) ?_) (ae (a:=(0,nS (E8 A X Y V r c d),ay (nM (E8 A X Y V r c d)) N,0,nl (nM (E8 A X Y V r c d)),nE (E8 A X Y V r c d) (-4296))) ?_ rfl)))),s2,s3⟩
  · show aC (eP _ _ _ _ _ _ _ _ _).run _=_
    have hnx:(i+1)*d=i*d+d:=by rw [Nat.add_mul,Nat.one_mul]
    have hic:i*d≤512*512:=Nat.mul_le_mul (by omega) hd
    refine ae (a:=()) (cF rfl) (ae (a:=((i+1)*d,(i+1)*d,0,(i+1)*d,ji (gR A X Y V c d) ((i+1)*d),jj (gR A X Y V c d) ((i+1)*d),jk (gR A X Y V c d) (-2148) ((i+1)*d))) (U0 (ae (a:=()) rfl (ae (a:=(i*d+d,i*d+d,0,i*d+d,ji (gR A X Y V c d) (i*d+d),jj (gR A X Y V c d) (i*d+d),jk (gR A X Y V c d) (-2148) (i*d+d))) (bU (fun k=>(i*d+k,i*d+k,0,k,i*d+k,ji (gR A X Y V c d) (i*d+k),jj (gR A X Y V c d) (i*d+k),jk (gR A X Y V c d) (-2148) (i*d+k))) d rfl (fun k hk=>?_) ?_) (by rw [hnx];rfl)))) (ai rfl))
    · obtain ⟨a,a1,a2,a3⟩:=abt h hi hk
      obtain ⟨q1,q2⟩:=pq (i:=i) hk
      have eg:tR A X Y V c d i k=gR A X Y V c d (i*d+k):=by unfold gR;rw [q1,q2]
      rw [eg] at a1 a2
      show aC (di _ _ _ _ _ _ _ _ _ _ _ _ _ _ _ _ _ _ _ _ _ _ _ _ _ _ _ _ _ _ _ _).run _=_
      refine ae (a:=(i*d+k+1,0,ji (gR A X Y V c d) (i*d+k+1),jj (gR A X Y V c d) (i*d+k+1),jk (gR A X Y V c d) (-2148) (i*d+k+1))) ?_ (ai rfl)
      unfold di
      rw [eG,eH,eI,eG,eH,eI,eG,eH,eI,eG,eH,eI,a1]
      simp only [i8,fF,jN,ic,ig,ii,jO]
      rw [List.drop_zero,CB a2,ac3,ac4,ac5]
      exact cF (lU (ba (lU (ba (lU (ba (lU (ag (aS (ai (ai (ag (ai (cn (decide_eq_true (by rw [az];omega)) rfl))))))))))))))
    · show aC (di _ _ _ _ _ _ _ _ _ _ _ _ _ _ _ _ _ _ _ _ _ _ _ _ _ _ _ _ _ _ _ _).run _=_
      exact be (cP rfl)
  · show aC (eP _ _ _ _ _ _ _ _ _).run _=_
    exact be (cP rfl)
  · show (eT _ _ _ _ _ _).run=_
    unfold eT
    rw [eG,eH,eI,s1]
    exact aS (lU (ag rfl))
end
end Go.Plb.Seat
namespace Go.Plb.Seat
open Go Go.Plb
set_option linter.unusedSimpArgs false
set_option linter.unusedVariables false
theorem Is{r c n:Nat}(hr:r≤512)(hc:c≤512)(hn:n=r*c) :Ai (r:Int) (c:Int) n=true :=
  TW.2 ⟨by omega,by omega,by omega,by omega,by rw [hn,Int.natCast_mul]⟩
theorem zZ{l:List Nat}(hw:Wd l)(hf:Fn l)(hn:l.length≤1000000000) :∃ k:Int,ao l=some (.r0 k)∧decide (k≥0)=false:=by
  obtain ⟨k,k1,k2⟩:=NZ hw hn
  rw [js.2 hf] at k2
  exact ⟨k,k1,k2⟩
section
variable {A X Y V : List Nat} {r c d : Nat}
theorem ac6(h:E7 A X Y V r c d) :
    ∃ N,dU (r:Int) (c:Int) A (c:Int) (d:Int) X (r:Int) (d:Int) Y V=some (.r0 0 (nS (E8 A X Y V r c d)) (ay (nM (E8 A X Y V r c d)) N) 0 (nl (nM (E8 A X Y V r c d))) (nE (E8 A X Y V r c d) (-4296)))∧nl (nM (E8 A X Y V r c d))≤N∧N≤4096:=by
  have bA:=h.bA
  have bX:=h.bX
  have bY:=h.bY
  have bV:=h.bV
  have mA:=Is h.hr h.hc h.hA
  have mX:=Is h.hc h.hd h.hX
  have mY:=Is h.hr h.hd h.hY
  have hV:((V.length:Nat):Int)=(d:Int):=by rw [h.hV]
  obtain ⟨k1,a1,a2⟩:=zZ h.wA h.fA (by omega)
  obtain ⟨k2,b1,b2⟩:=zZ h.wX h.fX (by omega)
  obtain ⟨k3,c1,c2⟩:=zZ h.wY h.fY (by omega)
  obtain ⟨k4,d1,d2⟩:=zZ h.wV h.fV (by omega)
  obtain ⟨N,e1,e2,e3⟩:=abu h
  refine ⟨N,aR (ae (a:=false) ?_ (ae (a:=(A.length,ji (gz A) A.length,jj (gz A) A.length,jk (gz A) (-1074) A.length,X.length,ji (gz X) X.length,jj (gz X) X.length,jk (gz X) (-1074) X.length,Y.length,ji (gz Y) Y.length,jj (gz Y) Y.length,jk (gz Y) (-1074) Y.length,V.length,ji (gz V) V.length,jj (gz V) V.length,jk (gz V) (-1074) V.length)) ?_ (ae (a:=(0,nS (E8 A X Y V r c d),ay (nM (E8 A X Y V r c d)) N,0,nl (nM (E8 A X Y V r c d)),nE (E8 A X Y V r c d) (-4296))) ?_ rfl))),e2,e3⟩
  · unfold x9
    rw [aB,aB,aB,aB,rM,rM,rM,mA,mX,mY,a1,b1,c1,d1]
    exact (bj (ag (ba (ag (aS (ag (bj (ag (ba (ag (aS (ag (bj (ag (ba (ag (aS (ag (aS (aS (co (by simp) (co (by simp) (co (by rw [hV,bne_self_eq_false]) (bj (ag (ba (ag (co a2 (ag (bj (ag (ba (ag (co b2 (ag (bj (ag (ba (ag (co c2 (ag (bj (ag (ba (ag (co d2 (ag (aS rfl))))))))))))))))))))))))))))))))))))))))))))))))
  · show (rK _ _ _ _).run=_
    unfold rK
    rw [aB,aB,aB,aB,pI h.wA h.fA (by omega),pI h.wX h.fX (by omega),pI h.wY h.fY (by omega),pI h.wV h.fV (by omega)]
    exact (ba (ag (ba (ag (ba (ag (ba (ag rfl))))))))
  · show (rL _ _ _ _ _ _ _ _ _ _ _ _ _ _ _ _ _ _ _ _ _ _ _).run=_
    unfold rL
    rw [eG,eH,eI,eG,eH,eI,eG,eH,eI,eG,eH,eI,aB,aB,aB,e1]
    exact (lU (ba (lU (ba (lU (ba (lU (ag rfl))))))))
end
def P2(k:Nat) :Int:=((2^k:Nat):Int)
theorem ad3{k m:Nat}(h:k<64*m) :nl (P2 k).natAbs≤m:=by
  unfold P2
  rw [Int.natAbs_natCast]
  refine gZ ?_
  rw [show W^m=2^(64*m) by rw [Nat.pow_mul]]
  exact Nat.pow_lt_pow_right (by decide) h
theorem N2{x b t e f g:Int}{k:Nat}(hx:Sm x e)(hb:Sm b f)(ht:Sm t g)(he:f+g=e+k)(hm:Sm (b*t*P2 k) e) :
    gh (nS x) (ay (nM x) (nl (nM x))) (nE x e) 0 (nS b) (ay (nM b) (nl (nM b))) (nE b f) (nS t) (ay (nM t) (nl (nM t))) (nE t g)=some (.r0 (decide (x≤b*t*P2 k)) 0):=by
  obtain ⟨N,n1,n2,n3⟩:=Cz hb ht
  obtain ⟨q1,q2,q3⟩:=acD (b*t) k e
  rw [←he] at q3
  have c1:=abn hx hm
  have ev:decide (QV x (b*t*P2 k)≤0)=decide (x≤b*t*P2 k):=by
    rw [Bool.eq_iff_iff,decide_eq_true_eq,decide_eq_true_eq];unfold QV;split<;>(try split)<;>omega
  refine aR (ae (a:=(0,nS (b*t),ay (nM (b*t)) N,0,nl (nM (b*t)),nE (b*t) (f+g))) ?_ (ae (a:=(0,QV x (b*t*P2 k))) ?_ (ae (a:=decide (x≤b*t*P2 k)) ?_ rfl)))
  · unfold DB
    rw [aB,aB,n1]
    exact (aS (ba (ba (ag rfl))))
  · show (xw _ _ _ _ _ _ _ _ _).run=_
    unfold xw
    have c1':pa (nS x) (ay (nM x) (nl (nM x))) (nE x e) (nS (b*t)) (ay (nM (b*t)) (nl (nM (b*t)))) (nE (b*t) (f+g))=some (.r0 (QV x (b*t*P2 k)) 0):=by
      rw [q1,q2,q3];exact c1
    rw [aB,bp n2,c1']
    exact (aS (ba (cn (aT n2) (ag rfl))))
  · refine bj ?_
    show some (Sum.inl (decide (QV x (b*t*P2 k)≤0)))=_
    rw [ev]
def gOK(l:List Nat)(r c m n:Nat) :Bool:=decide (Ht l r c≤bI m n*P2 4190)
def rOK(A X Y V:List Nat)(r c d:Nat)(S:Int)(m n:Nat) :Bool:=decide (E8 A X Y V r c d≤bI m n*S*P2 2042)
theorem ad4{m n:Nat}(hm:m≤512)(hn:n≤512) :Sm (bI m n) (-106):=sF (aaz hm hn) (by omega) (by omega)
theorem afc{m n:Nat}(hm:m≤512)(hn:n≤512) :Sm (bI m n*P2 4190) (-4296):=sF (k:=68) (mG (a:=2) (b:=66) (aaz hm hn) (ad3 (by omega))) (by omega) (by omega)
theorem afd{m n:Nat}{S:Int}(hm:m≤512)(hn:n≤512)(hS:nl S.natAbs≤67) :Sm (bI m n*S*P2 2042) (-4296) :=
  sF (k:=101) (mG (a:=69) (b:=32) (mG (aaz hm hn) hS) (ad3 (by omega))) (by omega) (by omega)
theorem abv{l:List Nat}{r c m n:Nat}(hw:Wd l)(hf:Fn l)(hl:l.length=r*c)(hr:r≤512)(hc:c≤512)(hm:m≤512)(hn:n≤512) :
    jM (r:Int) (c:Int) l (nS (bI m n)) (ay (nM (bI m n)) (nl (nM (bI m n)))) (nE (bI m n) (-106))=some (.r0 (gOK l r c m n) 0):=by
  obtain ⟨N,g1,g2,g3⟩:=abr hw (Is hr hc hl) (js.2 hf)
  obtain ⟨M,w1,w2,w3⟩:=B2 (n:=1) (by omega)
  have hG:Sm (Ht l r c) (-4296):=sF (aeD hw hf hl hr hc (Nat.le_refl _)) (by omega) (by omega)
  have h1:Sm 1 0:=sF (k:=1) (gZ (by decide)) (by omega) (by omega)
  have hb1:bI m n*1=bI m n:=Int.mul_one _
  have hmul:Sm (bI m n*1*P2 4190) (-4296):=by rw [hb1];exact afc hm hn
  have b1:=N2 (k:=4190) hG (ad4 hm hn) h1 (by omega) hmul
  rw [hb1] at b1
  refine aR (ae (a:=(0,nS (Ht l r c),ay (nM (Ht l r c)) N,0,nl (nM (Ht l r c)),nE (Ht l r c) (-4296))) ?_ (ae (a:=(gOK l r c m n,0)) ?_ rfl))
  · unfold DD
    rw [aB,g1]
    exact (ba (ag rfl))
  · show (xx _ _ _ _ _ _ _ _ _).run=_
    have w1':aZ 1=_:=w1
    have w2':nl (nM 1)≤M:=w2
    unfold xx
    rw [w1']
    simp only [jW,gu,e8,e9,fa,gv]
    have b1':gh (nS (Ht l r c)) (ay (nM (Ht l r c)) (nl (nM (Ht l r c)))) (nE (Ht l r c) (-4296)) ((0:Nat):Int) (nS (bI m n)) (ay (nM (bI m n)) (nl (nM (bI m n)))) (nE (bI m n) (-106)) (nS ((1:Nat):Int)) (ay (nM ((1:Nat):Int)) (nl (nM ((1:Nat):Int)))) (nE ((1:Nat):Int) 0)=some (.r0 (gOK l r c m n) 0):=b1
    rw [bp g2,bp w2,aB,b1']
    exact (ag (cn (aT g2) (ba (cn (aT w2) (ag rfl)))))
theorem abw{A Z V:List Nat}{r c d m n:Nat}{S:Int}(h:E7 A Z Z V r c d)(hrc:c=r)(hS:nl S.natAbs≤67)(hm:m≤512)(hn:n≤512) :
    jP (r:Int) (c:Int) A (r:Int) (d:Int) Z V (nS (bI m n)) (ay (nM (bI m n)) (nl (nM (bI m n)))) (nE (bI m n) (-106)) (nS S) (ay (nM S) (nl (nM S))) (nE S (-2148))=some (.r0 (rOK A Z Z V r c d S m n) 0):=by
  subst hrc
  obtain ⟨N,g1,g2,g3⟩:=ac6 h
  have hG:Sm (E8 A Z Z V c c d) (-4296):=sF (h.s (Nat.le_refl _)) (by omega) (by omega)
  have hSs:Sm S (-2148):=sF hS (by omega) (by omega)
  have b1:=N2 (k:=2042) hG (ad4 hm hn) hSs (by omega) (afd hm hn hS)
  refine aR (ae (a:=(0,nS (E8 A Z Z V c c d),ay (nM (E8 A Z Z V c c d)) N,0,nl (nM (E8 A Z Z V c c d)),nE (E8 A Z Z V c c d) (-4296))) ?_ (ae (a:=(rOK A Z Z V c c d S m n,0)) ?_ rfl))
  · unfold DF
    rw [aB,aB,aB,g1]
    exact (ba (ba (ba (ba (ag rfl)))))
  · show (xy _ _ _ _ _ _ _ _ _ _ _ _).run=_
    unfold xy
    have b1':gh (nS (E8 A Z Z V c c d)) (ay (nM (E8 A Z Z V c c d)) (nl (nM (E8 A Z Z V c c d)))) (nE (E8 A Z Z V c c d) (-4296)) ((0:Nat):Int) (nS (bI m n)) (ay (nM (bI m n)) (nl (nM (bI m n)))) (nE (bI m n) (-106)) (nS S) (ay (nM S) (nl (nM S))) (nE S (-2148))=some (.r0 (rOK A Z Z V c c d S m n) 0):=b1
    rw [bp g2,aB,aB,b1']
    exact (cn (aT g2) (ba (ba (ag rfl))))
def T3(l:List Nat) :Bool:=decide (∀ j,j<l.length-1→flt (l.getD (j+1) 0) (l.getD j 0)=false)
theorem Xl{x y:Nat}(hx:x<ya)(h:mF x=true) :vk x y=some (.r0 (flt x y)) :=
  aR (ae (a:=flt x y) (co (Sk hx h) rfl) rfl)
theorem Xm{l:List Nat}(hw:Wd l)(hf:Fn l)(hn:l.length≤1000000) :jF l=some (.r0 (T3 l)):=by
  have step:∀ j,j<l.length-1→flt (l.getD (l.length-1-j) 0) (l.getD (l.length-2-j) 0)=false→j7 l (((l.length:Nat):Int)-1-(j:Nat))=some (.inl (((l.length:Nat):Int)-1-(j+1:Nat))):=by
    intro j hj hs
    have e1:Int.toNat (((l.length:Nat):Int)-1-(j:Nat))=l.length-1-j:=by omega
    have e2:Int.toNat (((l.length:Nat):Int)-1-(j:Nat)-1)=l.length-2-j:=by omega
    show aC (j6 _ _).run _=_
    refine ae (a:=()) ?_ ?_
    · unfold j6
      rw [e1,e2,Xl (hw _) (hf _ (by omega)),hs]
      exact (cF (ai (ai (ai (ai (ai (ag (aS rfl))))))))
    · refine ai ?_
      show some (Sum.inl _)=_
      congr 2;omega
  by_cases hs:∀ j,j<l.length-1→flt (l.getD (l.length-1-j) 0) (l.getD (l.length-2-j) 0)=false
  · have hb:T3 l=true:=by
      refine decide_eq_true fun j hj=>?_
      have:=hs (l.length-2-j) (by omega)
      rwa [show l.length-1-(l.length-2-j)=j+1 by omega,show l.length-2-(l.length-2-j)=j by omega] at this
    rw [hb]
    refine aR (ae (a:=((l.length:Nat):Int)-1) (ai rfl) (ae (a:=()) (bU (fun j=>((l.length:Nat):Int)-1-(j:Nat)) (l.length-1) (by omega) (fun j hj=>step j hj (hs j hj)) (be (cP rfl))) rfl))
  · obtain ⟨k,hk,hb,hg⟩:=rj hs
    have hbt:flt (l.getD (l.length-1-k) 0) (l.getD (l.length-2-k) 0)=true:=by
      revert hb;cases flt (l.getD (l.length-1-k) 0) (l.getD (l.length-2-k) 0)<;>simp
    have hB:T3 l=false:=by
      refine decide_eq_false fun q=>?_
      have:=q (l.length-2-k) (by omega)
      rw [show l.length-2-k+1=l.length-1-k by omega,hbt] at this
      exact Bool.noConfusion this
    rw [hB]
    refine aR (ae (a:=((l.length:Nat):Int)-1) (ai rfl) (be (bU (fun j=>((l.length:Nat):Int)-1-(j:Nat)) k (by omega) (fun j hj=>step j (by omega) (hg j hj)) (be ?_))))
    have e1:Int.toNat (((l.length:Nat):Int)-1-(k:Nat))=l.length-1-k:=by omega
    have e2:Int.toNat (((l.length:Nat):Int)-1-(k:Nat)-1)=l.length-2-k:=by omega
    unfold j6
    rw [e1,e2,Xl (hw _) (hf _ (by omega)),hbt]
    exact (cF (ai (ai (ai (ai (ai (ag (bj rfl))))))))
noncomputable def ZL(a0 a1:Int)(A V:List Nat)(z0 z1:Int)(Z:List Nat) :Nat :=
  if Ai a0 a1 A.length=false∨Ai z0 z1 Z.length=false then 2
  else if a0≠a1∨((V.length:Nat):Int)≠a0∨z0≠a0∨z1≠a0 then 8
  else if E6 A=false∨E6 V=false∨E6 Z=false then 10 else 0
def It(A V Z:List Nat)(n:Nat) :Bool:=T3 V&&(gOK Z n n n n&&rOK A Z Z V n n n (JG A) n n)
structure T4 (A V Z:List Nat) (n:Nat):Prop where
  hn:n≤512
  fit:E7 A Z Z V n n n
theorem abx{a0 a1 z0 z1:Int}{A V Z:List Nat}(wA:Wd A)(wV:Wd V)(wZ:Wd Z)(h:ZL a0 a1 A V z0 z1 Z=0) :∃ n:Nat,a0=n∧a1=n∧z0=n∧z1=n∧T4 A V Z n:=by
  unfold ZL at h
  by_cases h1:Ai a0 a1 A.length=false∨Ai z0 z1 Z.length=false
  · rw [if_pos h1] at h;cases h
  rw [if_neg h1] at h
  by_cases h2:a0≠a1∨((V.length:Nat):Int)≠a0∨z0≠a0∨z1≠a0
  · rw [if_pos h2] at h;cases h
  rw [if_neg h2] at h
  by_cases h3:E6 A=false∨E6 V=false∨E6 Z=false
  · rw [if_pos h3] at h;cases h
  simp only [not_or,Bool.not_eq_false,ne_eq,Decidable.not_not] at h1 h2 h3
  obtain ⟨p,q,rfl,rfl,hp,hq,hl,_⟩:=TX h1.1
  obtain ⟨e1,e2,e3,e4⟩:=h2
  have e1':p=q:=by omega
  rw [←e1'] at hl hq e1 ⊢
  obtain ⟨p',q',f1,f2,_,_,hl',_⟩:=TX h1.2
  have g1:p'=p:=by omega
  have g2:q'=p:=by omega
  rw [g1,g2] at hl'
  rw [g1] at f1
  rw [g2] at f2
  exact ⟨p,rfl,rfl,f1,f2,hp,⟨hl,hl',hl',by omega,hp,hp,hp,wA,wZ,wZ,wV,js.1 h3.1,js.1 h3.2.2,js.1 h3.2.2,js.1 h3.2.1⟩⟩
theorem N3{A V Z:List Nat}{n:Nat}(h:T4 A V Z n) :cS (n:Int) (n:Int) A V (n:Int) (n:Int) Z=some (.r0 (It A V Z n) 0):=by
  have hn:=h.hn
  have f:=h.fit
  have bA:=f.bA
  have bX:=f.bX
  have bV:=f.bV
  have mA:=Is hn hn f.hA
  have mZ:=Is hn hn f.hX
  have hV:((V.length:Nat):Int)=(n:Int):=by rw [f.hV]
  obtain ⟨k1,a1,a2⟩:=zZ f.wA f.fA (by omega)
  obtain ⟨k2,b1,b2⟩:=zZ f.wX f.fX (by omega)
  obtain ⟨k3,c1,c2⟩:=zZ f.wV f.fV (by omega)
  obtain ⟨B,d1,d2,d3⟩:=N0 hn hn
  obtain ⟨S,s1,s2,s3⟩:=RC f.wA mA (js.2 f.fA)
  have hS:=aey f.wA f.fA (by omega)
  have t8:(BH (n:Int) (n:Int) A V (n:Int) (n:Int) Z).run=some (.inl ()):=by
    unfold BH
    rw [aB,aB,aB,rM,rM,mA,mZ,a1,b1,c1]
    exact (bj (ag (ba (ag (aS (ag (bj (ag (ba (ag (aS (ag (aS (aS (co (by rw [bne_self_eq_false]) (co (by rw [hV,bne_self_eq_false]) (co (by simp) (bj (ag (ba (ag (co a2 (ag (bj (ag (ba (ag (co b2 (ag (bj (ag (ba (ag (co c2 (ag (aS rfl))))))))))))))))))))))))))))))))))))
  have t9:(BI V).run=some (.inl (!(T3 V))):=by
    unfold BI
    rw [aB,Xm f.wV f.fV (by omega)]
    exact (ba (ag rfl))
  unfold It
  cases hsrt:T3 V
  · rw [hsrt] at t9
    exact aR (ae t8 (ae t9 (be (bj rfl))))
  · rw [hsrt] at t9
    have p1:=abv (m:=n) (n:=n) f.wX f.fX f.hX hn hn hn hn
    have p2:=abw (m:=n) (n:=n) f rfl hS hn hn
    refine aR (ae t8 (ae t9 (ae (a:=(0,nS (bI n n),ay (nM (bI n n)) B,0,nl (nM (bI n n)),nE (bI n n) (-106))) ?_ (ae (a:=(0,nS (JG A),ay (nM (JG A)) S,0,nl (nM (JG A)),nE (JG A) (-2148))) ?_ (ae (a:=false) (aS rfl) (ae (a:=(gOK Z n n n n&&rOK A Z Z V n n n (JG A) n n,0)) ?_ rfl))))))
    · show (zQ _ _).run=_
      unfold zQ
      rw [d1]
      exact (aS (ag rfl))
    · show (zR _ _ _).run=_
      unfold zR
      rw [aB,s1]
      exact (ba (ag rfl))
    · show (zS _ _ _ _ _ _ _ _ _ _ _ _ _ _ _ _ _ _ _ _).run=_
      unfold zS
      rw [aB,aB,aB,bp d2,bp s2,p1,p2]
      simp only [nW,oT,jq,oj,oU,jr]
      cases gOK Z n n n n
      · exact (aS (bj (ag (ba (cn (aT d2) (ag (bj rfl)))))))
      · cases rOK A Z Z V n n n (JG A) n n
        · exact (aS (bj (ag (ba (cn (aT d2) (ag (aS (aS (ag (bj (ag (ba (ba (ba (cn (aT d2) (cn (aT s2) (ag (bj rfl))))))))))))))))))
        · exact (aS (bj (ag (ba (cn (aT d2) (ag (aS (aS (ag (bj (ag (ba (ba (ba (cn (aT d2) (cn (aT s2) (ag (aS (aS (ag (aS rfl)))))))))))))))))))))
end Go.Plb.Seat
