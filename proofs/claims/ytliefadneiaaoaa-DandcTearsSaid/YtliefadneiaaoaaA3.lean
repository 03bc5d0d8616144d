/-
  Part 3 of what the claim leans on: an evaluator of the model, proved sound; the contracts of the functions.
-/
import Derived.Test.YtliefadneiaaoaaA2
namespace Go.Plb.Seat
open Go Go.Plb
set_option linter.unusedVariables false
set_option maxRecDepth 100000
noncomputable section
inductive ak where
  | r0 (a:Nat) (b:Nat) (c:Nat) (d:Nat) (e:Nat) (f:Nat) (g:Nat) (h:Nat) (i:Nat) (j:List Nat) (k:List Nat) (l:List Nat) (m:List Nat)
def dE:ak→AE×aG
  | .r0 a b c d e f g h i j k l m=>(.ret,⟨a8 103 [(2,.ptr 0 1 0 0),(3,.ptr 1 1 0 0),(4,.flt false a)],[(0,.vs [.sl 2 1 1 0 b c,.sl 3 1 1 0 d e]),(1,.vs [.sl 4 1 1 0 f g,.sl 5 1 1 0 h i]),(2,.fl j),(3,.fl k),(4,.fl l),(5,.fl m)],6⟩)
theorem bG:oQ dE:=by intro x;cases x<;>(intro h;cases h)
theorem jS(id:Nat) :rz id dE:=by intro x;cases x<;>(intro h;cases h)
def h8:ak→iw
  | .r0 a b j c k d l e m f g h i=>⟨.tup [.agg [.imm .free (.fl f) 1 1 0 b,.imm .free (.fl g) 1 1 0 c],.agg [.imm .free (.fl h) 1 1 0 d,.imm .free (.fl i) 1 1 0 e],.flt false a],[]⟩
def i0:List Code:=dI (qf fp)
def o6(c:Lv)(a:List Nat)(d:Lv)(b:List Nat) :Int×Nat→aG:=fun (e,f)=>⟨a8 103 [(1,.ptr 0 1 0 0),(2,.ptr 1 1 0 0),(3,.ptr 2 1 0 0),(5,.int .i64 (((List.length a):Nat):Int)),(6,.int .i64 e),(7,.flt false f),(8,.ptr 3 1 0 0),(9,.ptr 4 1 0 0),(10,.int .i64 (0:Int))],[(0,.vs [.imm c (.fl a) 1 1 0 (List.length a),.imm d (.fl b) 1 1 0 (List.length b)]),(1,.vs [.nsl,.nsl]),(2,.vs [.nsl,.nsl]),(3,.vs [.nsl,.nsl]),(4,.vs [.nsl,.nsl])],5⟩
def fV(a:List Nat)(b:List Nat) :T ((Int×Nat)⊕(ak)) :=
  .need ((2:Int) != (0:Int))<|.need (lb .i64 (Int.tdiv (((List.length a):Nat):Int) (2:Int)))<|.need (lb .i64 ((Int.tdiv (((List.length a):Nat):Int) (2:Int))-(1:Int)))<|.need (mw ((Int.tdiv (((List.length a):Nat):Int) (2:Int))-(1:Int)) (List.length b))<|.need (gd (Int.toNat ((Int.tdiv (((List.length a):Nat):Int) (2:Int))-(1:Int))) (List.length b))<|.leaf (.inl ((Int.tdiv (((List.length a):Nat):Int) (2:Int)),(List.getD b (Int.toNat ((Int.tdiv (((List.length a):Nat):Int) (2:Int))-(1:Int))) 0)))
def gK(c:Lv)(a:List Nat)(d:Lv)(b:List Nat)(e:Int)(f:Nat) :Nat×Nat×Nat×Nat×Nat×(List Nat)×(List Nat)→aG:=fun (g,h,i,j,k,l,m)=>⟨a8 103 [(1,.ptr 0 1 0 0),(2,.ptr 1 1 0 0),(3,.ptr 2 1 0 0),(5,.int .i64 (((List.length a):Nat):Int)),(6,.int .i64 e),(7,.flt false f),(8,.ptr 3 1 0 0),(9,.ptr 4 1 0 0),(10,.int .i64 ((g:Nat):Int))],[(0,.vs [.imm c (.fl a) 1 1 0 (List.length a),.imm d (.fl b) 1 1 0 (List.length b)]),(1,.vs [.nsl,.nsl]),(2,.vs [.nsl,.nsl]),(3,.vs [.sl 5 1 1 0 h i,.nsl]),(4,.vs [.sl 6 1 1 0 j k,.nsl]),(5,.fl l),(6,.fl m)],7⟩
def jT(c:Lv)(a:List Nat)(d:Lv)(b:List Nat)(e:Int)(f:Nat) :Nat×Nat×Nat×Nat×(List Nat)×(List Nat)→aG:=fun (g,h,i,j,k,l)=>⟨a8 103 [(1,.ptr 0 1 0 0),(2,.ptr 1 1 0 0),(3,.ptr 2 1 0 0),(5,.int .i64 (((List.length a):Nat):Int)),(6,.int .i64 e),(7,.flt false f),(8,.ptr 3 1 0 0),(9,.ptr 4 1 0 0)],[(0,.vs [.imm c (.fl a) 1 1 0 (List.length a),.imm d (.fl b) 1 1 0 (List.length b)]),(1,.vs [.nsl,.nsl]),(2,.vs [.nsl,.nsl]),(3,.vs [.sl 5 1 1 0 g h,.nsl]),(4,.vs [.sl 6 1 1 0 i j,.nsl]),(5,.fl k),(6,.fl l)],7⟩
def oh:List Code:=dI (kb ((((i0.drop 6).take 1)).headD .skip))
def o7(c:Lv)(a:List Nat)(d:Lv)(b:List Nat)(e:Int)(f:Nat)(g:Nat) :Nat×Nat×Nat×Nat×(List Nat)×(List Nat)→aG:=fun (h,i,j,k,l,m)=>⟨a8 103 [(1,.ptr 0 1 0 0),(2,.ptr 1 1 0 0),(3,.ptr 2 1 0 0),(5,.int .i64 (((List.length a):Nat):Int)),(6,.int .i64 e),(7,.flt false f),(8,.ptr 3 1 0 0),(9,.ptr 4 1 0 0),(10,.int .i64 ((g:Nat):Int))],[(0,.vs [.imm c (.fl a) 1 1 0 (List.length a),.imm d (.fl b) 1 1 0 (List.length b)]),(1,.vs [.nsl,.nsl]),(2,.vs [.nsl,.nsl]),(3,.vs [.sl 5 1 1 0 h i,.nsl]),(4,.vs [.sl 6 1 1 0 j k,.nsl]),(5,.fl l),(6,.fl m)],7⟩
def fW(d : List Nat)(h : Int)(g : Nat)(c : Nat)(a : Nat)(i : Nat)(b : Nat)(j : Nat)(e : List Nat)(f : List Nat) : T ((Nat × Nat × Nat × Nat × (List Nat) × (List Nat)) ⊕ ((Nat × Nat × Nat × Nat × (List Nat) × (List Nat)) ⊕ (ak))) :=
  .ask (decide (((c:Nat):Int)<(((List.length d):Nat):Int)))
    (.need (mw ((c:Nat):Int) (List.length d))<|.need (gd c (List.length d))<|.need (lb .i64 (h-(1:Int)))<|.ask (((c:Nat):Int)==(h-(1:Int)))
      (.ask (kg g 0)
        (.ask (decide (((c:Nat):Int)<h))
          (.need (bU ((a+1)*8) 140737488355328)<|.need (bU (a+1) 9223372036854775807)<|.need (bU 1 (List.length [(f4 (List.getD d c 0) (b4 g))]))<|.need (bU a (List.length e))<|.leaf (.inl ((a+1),(a+1),b,j,((List.take a e)++(List.take 1 [(f4 (List.getD d c 0) (b4 g))])),f)))
          (.need (bU ((b+1)*8) 140737488355328)<|.need (bU (b+1) 9223372036854775807)<|.need (bU 1 (List.length [(f4 (List.getD d c 0) (b4 g))]))<|.need (bU b (List.length f))<|.leaf (.inl (a,i,(b+1),(b+1),e,((List.take b f)++(List.take 1 [(f4 (List.getD d c 0) (b4 g))]))))))
        (.ask (decide (((c:Nat):Int)<h))
          (.need (bU ((a+1)*8) 140737488355328)<|.need (bU (a+1) 9223372036854775807)<|.need (bU 1 (List.length [(List.getD d c 0)]))<|.need (bU a (List.length e))<|.leaf (.inl ((a+1),(a+1),b,j,((List.take a e)++(List.take 1 [(List.getD d c 0)])),f)))
          (.need (bU ((b+1)*8) 140737488355328)<|.need (bU (b+1) 9223372036854775807)<|.need (bU 1 (List.length [(List.getD d c 0)]))<|.need (bU b (List.length f))<|.leaf (.inl (a,i,(b+1),(b+1),e,((List.take b f)++(List.take 1 [(List.getD d c 0)])))))))
      (.ask (((c:Nat):Int)==h)
        (.ask (kg g 0)
          (.ask (decide (((c:Nat):Int)<h))
            (.need (bU ((a+1)*8) 140737488355328)<|.need (bU (a+1) 9223372036854775807)<|.need (bU 1 (List.length [(f4 (List.getD d c 0) (b4 g))]))<|.need (bU a (List.length e))<|.leaf (.inl ((a+1),(a+1),b,j,((List.take a e)++(List.take 1 [(f4 (List.getD d c 0) (b4 g))])),f)))
            (.need (bU ((b+1)*8) 140737488355328)<|.need (bU (b+1) 9223372036854775807)<|.need (bU 1 (List.length [(f4 (List.getD d c 0) (b4 g))]))<|.need (bU b (List.length f))<|.leaf (.inl (a,i,(b+1),(b+1),e,((List.take b f)++(List.take 1 [(f4 (List.getD d c 0) (b4 g))]))))))
          (.ask (decide (((c:Nat):Int)<h))
            (.need (bU ((a+1)*8) 140737488355328)<|.need (bU (a+1) 9223372036854775807)<|.need (bU 1 (List.length [(List.getD d c 0)]))<|.need (bU a (List.length e))<|.leaf (.inl ((a+1),(a+1),b,j,((List.take a e)++(List.take 1 [(List.getD d c 0)])),f)))
            (.need (bU ((b+1)*8) 140737488355328)<|.need (bU (b+1) 9223372036854775807)<|.need (bU 1 (List.length [(List.getD d c 0)]))<|.need (bU b (List.length f))<|.leaf (.inl (a,i,(b+1),(b+1),e,((List.take b f)++(List.take 1 [(List.getD d c 0)])))))))
        (.ask (decide (((c:Nat):Int)<h))
          (.need (bU ((a+1)*8) 140737488355328)<|.need (bU (a+1) 9223372036854775807)<|.need (bU 1 (List.length [(List.getD d c 0)]))<|.need (bU a (List.length e))<|.leaf (.inl ((a+1),(a+1),b,j,((List.take a e)++(List.take 1 [(List.getD d c 0)])),f)))
          (.need (bU ((b+1)*8) 140737488355328)<|.need (bU (b+1) 9223372036854775807)<|.need (bU 1 (List.length [(List.getD d c 0)]))<|.need (bU b (List.length f))<|.leaf (.inl (a,i,(b+1),(b+1),e,((List.take b f)++(List.take 1 [(List.getD d c 0)]))))))))
    (.leaf (.inr (.inl (a,i,b,j,e,f))))
def oi(a:Nat)(b:Nat)(c:Nat)(d:Nat)(e:Nat)(f:List Nat)(g:List Nat) :T ((Nat×Nat×Nat×Nat×Nat×(List Nat)×(List Nat))⊕((Nat×Nat×Nat×Nat×(List Nat)×(List Nat))⊕(ak))) :=
  .need (lb .i64 (((a+1):Nat):Int))<|.leaf (.inl ((a+1),b,c,d,e,f,g))
def dF(b:List Nat)(c:Int)(d:Nat) :Nat×Nat×Nat×Nat×Nat×(List Nat)×(List Nat)→Option ((Nat×Nat×Nat×Nat×Nat×(List Nat)×(List Nat))⊕((Nat×Nat×Nat×Nat×(List Nat)×(List Nat))⊕(ak))):=fun (a,e,f,g,h,i,j) =>
  cz ((fW b c d a e f g h i j).run) fun (k,l,m,n,o,p) =>
  (oi a k l m n o p).run
theorem oj(d:Lv)(a:List Nat)(e:Lv)(f:List Nat)(b:Int)(c:Nat)(g:Nat)(h:Nat)(i:Nat)(j:Nat)(k:Nat)(l:List Nat)(m:List Nat) :Sg prog [] oh (gK d a e f b c (g,h,i,j,k,l,m)) (dF a b c (g,h,i,j,k,l,m)) (gK d a e f b c) (gu 0 (jT d a e f b c) dE):=by
  unfold dF;exact Sg.cut 3 (rB bG) (hX bb (o7 d a e f b c g) [⟨[],[0,1,2,3,4,551,6],[1,2,3,5,6,7,8,9,10]⟩,⟨[],[0,1,2,3,4,5,551],[1,2,3,5,6,7,8,9,10]⟩,⟨[],[0,1,2,3,4,471,6],[1,2,3,5,6,7,8,9,10]⟩,⟨[],[0,1,2,3,4,5,471],[1,2,3,5,6,7,8,9,10]⟩,⟨[],[0,1,2,3,4,551,6],[1,2,3,5,6,7,8,9,10]⟩,⟨[],[0,1,2,3,4,5,551],[1,2,3,5,6,7,8,9,10]⟩,⟨[],[0,1,2,3,4,471,6],[1,2,3,5,6,7,8,9,10]⟩,⟨[],[0,1,2,3,4,5,471],[1,2,3,5,6,7,8,9,10]⟩,⟨[],[0,1,2,3,4,471,6],[1,2,3,5,6,7,8,9,10]⟩,⟨[],[0,1,2,3,4,5,471],[1,2,3,5,6,7,8,9,10]⟩,⟨[],[0,1,2,3,4,5,6],[1,2,3,5,6,7,8,9]⟩]) (fun ⟨n,o,p,q,r,s⟩=>hX bb _ [⟨[],[0,1,2,3,4,5,6],[1,2,3,5,6,7,8,9,10]⟩])
def ol(c:Lv)(a:List Nat)(d:Lv)(b:List Nat)(e:Int)(f:Nat)(g:Nat)(h:Nat)(i:Nat)(j:Nat)(k:List Nat)(l:List Nat)(_:Unit) :aG:=⟨a8 103 [(1,.ptr 0 1 0 0),(2,.ptr 1 1 0 0),(3,.ptr 2 1 0 0),(5,.int .i64 (((List.length a):Nat):Int)),(6,.int .i64 e),(7,.flt false f),(8,.ptr 3 1 0 0),(9,.ptr 4 1 0 0),(12,.int .i64 (0:Int))],[(0,.vs [.imm c (.fl a) 1 1 0 (List.length a),.imm d (.fl b) 1 1 0 (List.length b)]),(1,.vs [.nsl,.nsl]),(2,.vs [.nsl,.nsl]),(3,.vs [.sl 5 1 1 0 g h,.nsl]),(4,.vs [.sl 6 1 1 0 i j,.nsl]),(5,.fl k),(6,.fl l)],7⟩
def om:T ((Unit)⊕(ak)) :=
  .leaf (.inl ())
def fX(c:Lv)(a:List Nat)(d:Lv)(b:List Nat)(e:Int)(f:Nat)(g:Nat)(h:Nat)(i:Nat)(j:Nat)(k:List Nat)(l:List Nat) :Nat×Nat×Nat×Nat×Nat×(List Nat)×(List Nat)→aG:=fun (m,n,o,p,q,r,s)=>⟨a8 103 [(1,.ptr 0 1 0 0),(2,.ptr 1 1 0 0),(3,.ptr 2 1 0 0),(5,.int .i64 (((List.length a):Nat):Int)),(6,.int .i64 e),(7,.flt false f),(8,.ptr 3 1 0 0),(9,.ptr 4 1 0 0),(12,.int .i64 ((m:Nat):Int))],[(0,.vs [.imm c (.fl a) 1 1 0 (List.length a),.imm d (.fl b) 1 1 0 (List.length b)]),(1,.vs [.nsl,.nsl]),(2,.vs [.nsl,.nsl]),(3,.vs [.sl 5 1 1 0 g h,.sl 6 1 1 0 n o]),(4,.vs [.sl 7 1 1 0 i j,.sl 8 1 1 0 p q]),(5,.fl k),(6,.fl r),(7,.fl l),(8,.fl s)],9⟩
def i3(a:Nat)(b:Nat)(c:Nat)(d:Nat)(e:Nat)(f:List Nat)(g:List Nat) :Nat×Nat×Nat×Nat×(List Nat)×(List Nat)→aG:=fun (h,i,j,k,l,m)=>⟨a8 103 [(2,.ptr 0 1 0 0),(3,.ptr 1 1 0 0),(7,.flt false a),(8,.ptr 2 1 0 0),(9,.ptr 3 1 0 0)],[(0,.vs [.nsl,.nsl]),(1,.vs [.nsl,.nsl]),(2,.vs [.sl 4 1 1 0 b c,.sl 5 1 1 0 h i]),(3,.vs [.sl 6 1 1 0 d e,.sl 7 1 1 0 j k]),(4,.fl f),(5,.fl l),(6,.fl g),(7,.fl m)],8⟩
def oo:List Code:=dI (kb ((((((i0.drop 6).drop 1).drop 1).take 1)).headD .skip))
def oq(c:Lv)(a:List Nat)(d:Lv)(b:List Nat)(e:Int)(f:Nat)(g:Nat)(h:Nat)(i:Nat)(j:Nat)(k:List Nat)(l:List Nat)(m:Nat) :Nat×Nat×Nat×Nat×(List Nat)×(List Nat)→aG:=fun (n,o,p,q,r,s)=>⟨a8 103 [(1,.ptr 0 1 0 0),(2,.ptr 1 1 0 0),(3,.ptr 2 1 0 0),(5,.int .i64 (((List.length a):Nat):Int)),(6,.int .i64 e),(7,.flt false f),(8,.ptr 3 1 0 0),(9,.ptr 4 1 0 0),(12,.int .i64 ((m:Nat):Int))],[(0,.vs [.imm c (.fl a) 1 1 0 (List.length a),.imm d (.fl b) 1 1 0 (List.length b)]),(1,.vs [.nsl,.nsl]),(2,.vs [.nsl,.nsl]),(3,.vs [.sl 5 1 1 0 g h,.sl 6 1 1 0 n o]),(4,.vs [.sl 7 1 1 0 i j,.sl 8 1 1 0 p q]),(5,.fl k),(6,.fl r),(7,.fl l),(8,.fl s)],9⟩
def fY(j:List Nat)(c:List Nat)(f:Int)(a:Nat)(d:Nat)(h:Nat)(b:Nat)(i:Nat)(g:List Nat)(e:List Nat) :T ((Nat×Nat×Nat×Nat×(List Nat)×(List Nat))⊕((Nat×Nat×Nat×Nat×(List Nat)×(List Nat))⊕(ak))) :=
  .need (lb .i64 ((((List.length j):Nat):Int)-(1:Int)))<|.ask (decide (((a:Nat):Int)<((((List.length j):Nat):Int)-(1:Int))))
    (.need (lb .i64 (f-(1:Int)))<|.ask (decide (((a:Nat):Int)<(f-(1:Int))))
      (.need (mw ((a:Nat):Int) (List.length c))<|.need (gd a (List.length c))<|.need (bU ((d+1)*8) 140737488355328)<|.need (bU (d+1) 9223372036854775807)<|.need (bU 1 (List.length [(List.getD c a 0)]))<|.need (bU d (List.length g))<|.need (lb .i64 (f-(1:Int)))<|.ask (decide (((a:Nat):Int)>(f-(1:Int))))
        (.need (mw ((a:Nat):Int) (List.length c))<|.need (gd a (List.length c))<|.need (bU ((b+1)*8) 140737488355328)<|.need (bU (b+1) 9223372036854775807)<|.need (bU 1 (List.length [(List.getD c a 0)]))<|.need (bU b (List.length e))<|.leaf (.inl ((d+1),(d+1),(b+1),(b+1),((List.take d g)++(List.take 1 [(List.getD c a 0)])),((List.take b e)++(List.take 1 [(List.getD c a 0)])))))
        (.leaf (.inl ((d+1),(d+1),b,i,((List.take d g)++(List.take 1 [(List.getD c a 0)])),e))))
      (.need (lb .i64 (f-(1:Int)))<|.ask (decide (((a:Nat):Int)>(f-(1:Int))))
        (.need (mw ((a:Nat):Int) (List.length c))<|.need (gd a (List.length c))<|.need (bU ((b+1)*8) 140737488355328)<|.need (bU (b+1) 9223372036854775807)<|.need (bU 1 (List.length [(List.getD c a 0)]))<|.need (bU b (List.length e))<|.leaf (.inl (d,h,(b+1),(b+1),g,((List.take b e)++(List.take 1 [(List.getD c a 0)])))))
        (.leaf (.inl (d,h,b,i,g,e)))))
    (.leaf (.inr (.inl (d,h,b,i,g,e))))
def ot(a:Nat)(b:Nat)(c:Nat)(d:Nat)(e:Nat)(f:List Nat)(g:List Nat) :T ((Nat×Nat×Nat×Nat×Nat×(List Nat)×(List Nat))⊕((Nat×Nat×Nat×Nat×(List Nat)×(List Nat))⊕(ak))) :=
  .need (lb .i64 (((a+1):Nat):Int))<|.leaf (.inl ((a+1),b,c,d,e,f,g))
def dG(b:List Nat)(c:List Nat)(d:Int) :Nat×Nat×Nat×Nat×Nat×(List Nat)×(List Nat)→Option ((Nat×Nat×Nat×Nat×Nat×(List Nat)×(List Nat))⊕((Nat×Nat×Nat×Nat×(List Nat)×(List Nat))⊕(ak))):=fun (a,e,f,g,h,i,j) =>
  cz ((fY b c d a e f g h i j).run) fun (k,l,m,n,o,p) =>
  (ot a k l m n o p).run
theorem ou(k:Lv)(a:List Nat)(l:Lv)(b:List Nat)(c:Int)(d:Nat)(e:Nat)(f:Nat)(g:Nat)(h:Nat)(i:List Nat)(j:List Nat)(m:Nat)(n:Nat)(o:Nat)(p:Nat)(q:Nat)(r:List Nat)(s:List Nat) :Sg prog [] oo (fX k a l b c d e f g h i j (m,n,o,p,q,r,s)) (dG a b c (m,n,o,p,q,r,s)) (fX k a l b c d e f g h i j) (gu 2 (i3 d e f g h i j) dE):=by
  unfold dG;exact Sg.cut 3 (rB bG) (hX bb (oq k a l b c d e f g h i j m) [⟨[],[0,1,2,3,4,5,265,7,505],[1,2,3,5,6,7,8,9,12]⟩,⟨[],[0,1,2,3,4,5,265,7,8],[1,2,3,5,6,7,8,9,12]⟩,⟨[],[0,1,2,3,4,5,6,7,329],[1,2,3,5,6,7,8,9,12]⟩,⟨[],[0,1,2,3,4,5,6,7,8],[1,2,3,5,6,7,8,9,12]⟩,⟨[],[1,2,3,4,5,6,7,8],[2,3,7,8,9]⟩]) (fun ⟨t,u,v,w,x,y⟩=>hX bb _ [⟨[],[0,1,2,3,4,5,6,7,8],[1,2,3,5,6,7,8,9,12]⟩])
def ov(a:Nat)(b:Nat)(c:Nat)(d:Nat)(e:Nat)(f:List Nat)(g:List Nat)(h:Nat)(i:Nat)(j:Nat)(k:Nat)(l:List Nat)(m:List Nat) :T ((Empty)⊕(ak)) :=
  .leaf (.inr (.r0 a b c h i d e j k f l g m))
def a7(a:List Nat)(b:List Nat) :Option ak:=sx (cz ((fV a b).run) fun (c,d) =>
  cz (c6 (dF a c d) (0,0,0,0,0,([]:List Nat),([]:List Nat))) fun (e,f,g,h,i,j) =>
  cz ((om).run) fun _ =>
  cz (c6 (dG a b c) (0,0,0,0,0,([]:List Nat),([]:List Nat))) fun (k,l,m,n,o,p) =>
  (ov d e f g h i j k l m n o p).run)
theorem o8(c:Lv)(a:List Nat)(d:Lv)(b:List Nat){x:ak}(h:a7 a b=some x) :ag prog fp [] [.agg [.imm c (.fl a) 1 1 0 (List.length a),.imm d (.fl b) 1 1 0 (List.length b)]] (h8 x) :=
  uW true h8 dE h (Sg.cut 6 bG (hX bb (o6 c a d b) [⟨[],[0,16,32,288,304],[1,2,3,5,6,7,8,9,10]⟩]) (fun ⟨f,e⟩=>Sg.cut 1 bG (wv ⟨[(.cell 3 0,.own 1 1 (.fl ([]:List Nat))),(.cell 4 0,.own 1 1 (.fl ([]:List Nat)))],[0,1,2,3,4,5,6],[1,2,3,5,6,7,8,9,10]⟩ (gK c a d b f e) (jT c a d b f e) 0 bG (jS _) (fun ⟨n,o,p,q,r,s,t⟩=>oj c a d b f e n o p q r s t)) (fun ⟨g,i,j,k,l,m⟩=>Sg.cut 1 bG (hX bb (ol c a d b f e g i j k l m) [⟨[],[0,1,2,3,4,5,6],[1,2,3,5,6,7,8,9,12]⟩]) (fun _=>Sg.cut 1 bG (wv ⟨[(.cell 3 1,.own 1 1 (.fl ([]:List Nat))),(.cell 4 1,.own 1 1 (.fl ([]:List Nat)))],[0,1,2,3,4,5,7,6,8],[1,2,3,5,6,7,8,9,12]⟩ (fX c a d b f e g i j k l m) (i3 e g i j k l m) 2 bG (jS _) (fun ⟨u,v,w,y,z,A,B⟩=>ou c a d b f e g i j k l m u v w y z A B)) (fun ⟨L,M,N,O,P,Q⟩=>hX bb _ [⟨[],[0,1,4,5,6,7],[2,3,4]⟩])))))
    (fun x=>by cases x with | r0 C D E F G H I J K R S T U=>exact th [.agg [.sl 2 1 1 0 D E,.sl 3 1 1 0 F G],.agg [.sl 4 1 1 0 H I,.sl 5 1 1 0 J K],.flt false C])
def ek:Option ak→Bool
  | some _=>true
  | none=>false
def e8:Option ak→Nat
  | some (.r0 x _ _ _ _ _ _ _ _ _ _ _ _)=>x
  | _=>0
def e9:Option ak→Nat
  | some (.r0 _ x _ _ _ _ _ _ _ _ _ _ _)=>x
  | _=>0
def io:Option ak→Nat
  | some (.r0 _ _ x _ _ _ _ _ _ _ _ _ _)=>x
  | _=>0
def fa:Option ak→Nat
  | some (.r0 _ _ _ x _ _ _ _ _ _ _ _ _)=>x
  | _=>0
def ip:Option ak→Nat
  | some (.r0 _ _ _ _ x _ _ _ _ _ _ _ _)=>x
  | _=>0
def fb:Option ak→Nat
  | some (.r0 _ _ _ _ _ x _ _ _ _ _ _ _)=>x
  | _=>0
def iq:Option ak→Nat
  | some (.r0 _ _ _ _ _ _ x _ _ _ _ _ _)=>x
  | _=>0
def fc:Option ak→Nat
  | some (.r0 _ _ _ _ _ _ _ x _ _ _ _ _)=>x
  | _=>0
def ir:Option ak→Nat
  | some (.r0 _ _ _ _ _ _ _ _ x _ _ _ _)=>x
  | _=>0
def fe:Option ak→List Nat
  | some (.r0 _ _ _ _ _ _ _ _ _ x _ _ _)=>x
  | _=>[]
def dZ:Option ak→List Nat
  | some (.r0 _ _ _ _ _ _ _ _ _ _ x _ _)=>x
  | _=>[]
def d4:Option ak→List Nat
  | some (.r0 _ _ _ _ _ _ _ _ _ _ _ x _)=>x
  | _=>[]
def d5:Option ak→List Nat
  | some (.r0 _ _ _ _ _ _ _ _ _ _ _ _ x)=>x
  | _=>[]
theorem o9{x:Option ak}(h:ek x=true) :x=some (.r0 (e8 x) (e9 x) (io x) (fa x) (ip x) (fb x) (iq x) (fc x) (ir x) (fe x) (dZ x) (d4 x) (d5 x)):=by
  unfold ek at h
  split at h<;>first | rfl | (cases h;done) | (rename_i y;cases y;rfl)
def k6:bi:=gq fp (.cons (.agg (.cons .fl (.cons .fl .nil))) .nil) fun t=>(fun q=>[⟨h8 (.r0 (e8 q) (e9 q) (io q) (fa q) (ip q) (fb q) (iq q) (fc q) (ir q) (fe q) (dZ q) (d4 q) (d5 q)),[ek q]⟩]) (a7 t.1.1.2 t.1.2.1.2)
theorem mN:bu prog k6:=cj fun t=>(ck (fun h=>o8 t.1.1.1 t.1.1.2 t.1.2.1.1 t.1.2.1.2 (o9 h)) dc)
def k7:List bi:=k6::iZ
theorem aY:bm prog (bz k7):=aM mN bb
inductive ap where
  | r0 (a:Bool)
def fZ:ap→AE×aG
  | .r0 a=>(.ret,⟨a8 129 [(2,.bool false a)],[],0⟩)
theorem aQ:oQ fZ:=by intro x;cases x<;>(intro h;cases h)
def dj:ap→iw
  | .r0 a=>⟨.bool false a,[]⟩
def jp(c:Lv)(a:List Nat)(d:Lv)(b:List Nat)(e:Bool) :aG:=⟨a8 129 [(1,.ptr 0 1 0 0),(15,.bool false e)],[(0,.vs [.imm c (.fl a) 1 1 0 (List.length a),.imm d (.fl b) 1 1 0 (List.length b)])],1⟩
def bR(a:List Nat)(b:List Nat) :T ((Bool)⊕(ap)) :=
  .need (bM 0 (List.length a) a)<|.need (bM 0 (List.length b) b)<|.need (fq (dn (ai 0 (List.length a) a) (ai 0 (List.length b) b) (30:Int)))<|.leaf (.inl (!(fQ (dn (ai 0 (List.length a) a) (ai 0 (List.length b) b) (30:Int)))))
def jq(c:Lv)(a:List Nat)(d:Lv)(b:List Nat) :Nat×Nat×(List Nat)×(List Nat)×(List Nat)×Nat×(List Nat)×Nat×(List Nat)×Nat×(List Nat)×Nat→aG:=fun (e,f,g,h,i,j,k,l,m,n,o,p)=>⟨a8 129 [(1,.ptr 0 1 0 0),(3,.sl 1 1 1 0 (List.length a) (List.length a)),(4,.sl 2 1 1 0 (List.length b) (List.length b)),(5,.ptr 3 1 0 0),(6,.ptr 4 1 0 0),(7,.flt false e),(8,.int .i64 ((f:Nat):Int))],[(0,.vs [.imm c (.fl a) 1 1 0 (List.length a),.imm d (.fl b) 1 1 0 (List.length b)]),(1,.fl g),(2,.fl h),(3,.vs [.imm .free (.fl i) 1 1 0 j,.imm .free (.fl k) 1 1 0 l]),(4,.vs [.imm .free (.fl m) 1 1 0 n,.imm .free (.fl o) 1 1 0 p])],5⟩
def aX(a:List Nat)(b:List Nat)(c:Bool) :T ((Nat×Nat×(List Nat)×(List Nat)×(List Nat)×Nat×(List Nat)×Nat×(List Nat)×Nat×(List Nat)×Nat)⊕(ap)) :=
  .ask c
    (.leaf (.inr (.r0 true)))
    (.need (bU ((List.length a)*8) 140737488355328)<|.need (bU (List.length a) 9223372036854775807)<|.need (bU (List.length a) (List.length a))<|.need (bU ((List.length b)*8) 140737488355328)<|.need (bU (List.length b) 9223372036854775807)<|.need (bU (List.length b) (List.length b))<|.need (bM 0 (List.length a) a)<|.need (bM 0 (List.length b) b)<|.need (ej (aK (ai 0 (List.length a) a) (ai 0 (List.length b) b)))<|.leaf (.inl ((eO (aK (ai 0 (List.length a) a) (ai 0 (List.length b) b))),(eP (aK (ai 0 (List.length a) a) (ai 0 (List.length b) b))),(List.take (List.length a) a),(List.take (List.length b) b),(eU (aK (ai 0 (List.length a) a) (ai 0 (List.length b) b))),(eQ (aK (ai 0 (List.length a) a) (ai 0 (List.length b) b))),(eV (aK (ai 0 (List.length a) a) (ai 0 (List.length b) b))),(eR (aK (ai 0 (List.length a) a) (ai 0 (List.length b) b))),(eW (aK (ai 0 (List.length a) a) (ai 0 (List.length b) b))),(eS (aK (ai 0 (List.length a) a) (ai 0 (List.length b) b))),(eX (aK (ai 0 (List.length a) a) (ai 0 (List.length b) b))),(eT (aK (ai 0 (List.length a) a) (ai 0 (List.length b) b))))))
def jr(c:Lv)(a:List Nat)(d:Lv)(b:List Nat)(e:Nat)(f:Nat)(g:List Nat)(h:Nat)(i:List Nat)(j:Nat)(k:List Nat)(l:Nat)(m:List Nat)(n:Nat)(o:Bool) :aG:=⟨a8 129 [(1,.ptr 0 1 0 0),(5,.ptr 1 1 0 0),(6,.ptr 2 1 0 0),(7,.flt false e),(8,.int .i64 ((f:Nat):Int)),(41,.bool false o)],[(0,.vs [.imm c (.fl a) 1 1 0 (List.length a),.imm d (.fl b) 1 1 0 (List.length b)]),(1,.vs [.imm .free (.fl g) 1 1 0 h,.imm .free (.fl i) 1 1 0 j]),(2,.vs [.imm .free (.fl k) 1 1 0 l,.imm .free (.fl m) 1 1 0 n])],3⟩
def cD(a:List Nat)(b:List Nat)(c:List Nat)(d:List Nat) :T ((Bool)⊕(ap)) :=
  .need (bM 0 (List.length a) c)<|.need (bM 0 (List.length a) a)<|.need (a6 (aC (ai 0 (List.length a) c) (ai 0 (List.length a) a)))<|.ask (!(aV (aC (ai 0 (List.length a) c) (ai 0 (List.length a) a))))
    (.leaf (.inl true))
    (.need (bM 0 (List.length b) d)<|.need (bM 0 (List.length b) b)<|.need (a6 (aC (ai 0 (List.length b) d) (ai 0 (List.length b) b)))<|.leaf (.inl (!(aV (aC (ai 0 (List.length b) d) (ai 0 (List.length b) b))))))
def js(c:Lv)(a:List Nat)(d:Lv)(b:List Nat)(e:Nat)(f:Nat)(g:List Nat)(h:Nat)(i:List Nat)(j:Nat)(k:List Nat)(l:Nat)(m:List Nat)(n:Nat)(o:Bool) :aG:=⟨a8 129 [(1,.ptr 0 1 0 0),(5,.ptr 1 1 0 0),(6,.ptr 2 1 0 0),(7,.flt false e),(8,.int .i64 ((f:Nat):Int)),(50,.bool false o)],[(0,.vs [.imm c (.fl a) 1 1 0 (List.length a),.imm d (.fl b) 1 1 0 (List.length b)]),(1,.vs [.imm .free (.fl g) 1 1 0 h,.imm .free (.fl i) 1 1 0 j]),(2,.vs [.imm .free (.fl k) 1 1 0 l,.imm .free (.fl m) 1 1 0 n])],3⟩
def cE(a:List Nat)(b:List Nat)(c:Bool) :T ((Bool)⊕(ap)) :=
  .ask c
    (.leaf (.inr (.r0 false)))
    (.need (bM 0 (List.length a) a)<|.need (bM 0 (List.length b) b)<|.need (fu (ew (ai 0 (List.length a) a) (ai 0 (List.length b) b)))<|.ask (!(fT (ew (ai 0 (List.length a) a) (ai 0 (List.length b) b))))
      (.leaf (.inl true))
      (.leaf (.inl (decide ((((List.length a):Nat):Int)<(3:Int))))))
def jt(c:Lv)(a:List Nat)(d:Lv)(b:List Nat)(e:Nat)(f:Nat)(g:List Nat)(h:Nat)(i:List Nat)(j:Nat)(k:List Nat)(l:Nat)(m:List Nat)(n:Nat)(o:Bool) :aG:=⟨a8 129 [(1,.ptr 0 1 0 0),(5,.ptr 1 1 0 0),(6,.ptr 2 1 0 0),(7,.flt false e),(8,.int .i64 ((f:Nat):Int)),(68,.bool false o)],[(0,.vs [.imm c (.fl a) 1 1 0 (List.length a),.imm d (.fl b) 1 1 0 (List.length b)]),(1,.vs [.imm .free (.fl g) 1 1 0 h,.imm .free (.fl i) 1 1 0 j]),(2,.vs [.imm .free (.fl k) 1 1 0 l,.imm .free (.fl m) 1 1 0 n])],3⟩
def bh(a:List Nat)(b:List Nat)(e:Nat)(c:Nat)(d:Nat)(f:Bool) :T ((Bool)⊕(ap)) :=
  .ask f
    (.ask (((e:Nat):Int)==(2:Int))
      (.need (lb .i64 (((c+d):Nat):Int))<|.ask ((((c+d):Nat):Int)==(0:Int))
        (.leaf (.inr (.r0 true)))
        (.leaf (.inr (.r0 false))))
      (.leaf (.inr (.r0 false))))
    (.need (bM 0 (List.length a) a)<|.need (co (bJ (ai 0 (List.length a) a)))<|.ask (ct (bJ (ai 0 (List.length a) a)))
      (.need (bM 0 (List.length b) b)<|.need (co (bJ (ai 0 (List.length b) b)))<|.leaf (.inl (!(ct (bJ (ai 0 (List.length b) b))))))
      (.leaf (.inl true)))
def ju(a:Nat)(b:Nat)(c:List Nat)(d:Nat)(e:List Nat)(f:Nat)(g:List Nat)(h:Nat)(i:List Nat)(j:Nat) :Nat×(List Nat)×Nat×(List Nat)×Nat×(List Nat)×Nat×(List Nat)×Nat→aG:=fun (r17,k,l,m,n,o,p,q,r)=>⟨a8 129 [(5,.ptr 0 1 0 0),(6,.ptr 1 1 0 0),(7,.flt false a),(8,.int .i64 ((b:Nat):Int)),(9,.ptr 2 1 0 0),(10,.ptr 3 1 0 0),(11,.flt false r17)],[(0,.vs [.imm .free (.fl c) 1 1 0 d,.imm .free (.fl e) 1 1 0 f]),(1,.vs [.imm .free (.fl g) 1 1 0 h,.imm .free (.fl i) 1 1 0 j]),(2,.vs [.imm .free (.fl k) 1 1 0 l,.imm .free (.fl m) 1 1 0 n]),(3,.vs [.imm .free (.fl o) 1 1 0 p,.imm .free (.fl q) 1 1 0 r])],4⟩
def bS(a:List Nat)(b:List Nat)(e:Nat)(c:Nat)(d:Nat)(f:Bool) :T ((Nat×(List Nat)×Nat×(List Nat)×Nat×(List Nat)×Nat×(List Nat)×Nat)⊕(ap)) :=
  .ask f
    (.ask (((e:Nat):Int)==(10:Int))
      (.need (lb .i64 (((c+d):Nat):Int))<|.ask ((((c+d):Nat):Int)==(0:Int))
        (.leaf (.inr (.r0 true)))
        (.leaf (.inr (.r0 false))))
      (.leaf (.inr (.r0 false))))
    (.need (bM 0 (List.length a) a)<|.need (bM 0 (List.length b) b)<|.need (ek (a7 (ai 0 (List.length a) a) (ai 0 (List.length b) b)))<|.leaf (.inl ((e8 (a7 (ai 0 (List.length a) a) (ai 0 (List.length b) b))),(fe (a7 (ai 0 (List.length a) a) (ai 0 (List.length b) b))),(e9 (a7 (ai 0 (List.length a) a) (ai 0 (List.length b) b))),(dZ (a7 (ai 0 (List.length a) a) (ai 0 (List.length b) b))),(fa (a7 (ai 0 (List.length a) a) (ai 0 (List.length b) b))),(d4 (a7 (ai 0 (List.length a) a) (ai 0 (List.length b) b))),(fb (a7 (ai 0 (List.length a) a) (ai 0 (List.length b) b))),(d5 (a7 (ai 0 (List.length a) a) (ai 0 (List.length b) b))),(fc (a7 (ai 0 (List.length a) a) (ai 0 (List.length b) b))))))
def jv(a:Nat)(b:Nat)(r17:Nat)(c:Bool) :aG:=⟨a8 129 [(7,.flt false a),(8,.int .i64 ((b:Nat):Int)),(11,.flt false r17),(12,.bool false c)],[],0⟩
def cF(a:List Nat)(b:Nat)(c:List Nat)(d:Nat)(e:List Nat)(f:Nat)(g:List Nat)(h:Nat)(i:List Nat)(j:Nat)(k:List Nat)(l:Nat)(m:List Nat)(n:Nat)(o:List Nat)(p:Nat) :T ((Bool)⊕(ap)) :=
  .need (bM 0 b a)<|.need (bM 0 j i)<|.need (a6 (aC (ai 0 b a) (ai 0 j i)))<|.ask (aV (aC (ai 0 b a) (ai 0 j i)))
    (.need (bM 0 d c)<|.need (bM 0 l k)<|.need (a6 (aC (ai 0 d c) (ai 0 l k)))<|.ask (aV (aC (ai 0 d c) (ai 0 l k)))
      (.need (bM 0 f e)<|.need (bM 0 n m)<|.need (a6 (aC (ai 0 f e) (ai 0 n m)))<|.ask (aV (aC (ai 0 f e) (ai 0 n m)))
        (.need (bM 0 h g)<|.need (bM 0 p o)<|.need (a6 (aC (ai 0 h g) (ai 0 p o)))<|.leaf (.inl (aV (aC (ai 0 h g) (ai 0 p o)))))
        (.leaf (.inl false)))
      (.leaf (.inl false)))
    (.leaf (.inl false))
def jw(a:Bool) :aG:=⟨a8 129 [(2,.bool false a)],[],0⟩
def cG(a:Nat)(b:Nat)(r17:Nat)(c:Bool) :T ((Bool)⊕(ap)) :=
  .ask (((b:Nat):Int)==(0:Int))
    (.ask c
      (.ask (gl a r17)
        (.leaf (.inl true))
        (.leaf (.inl false)))
      (.leaf (.inl false)))
    (.leaf (.inl false))
def i4(a:Bool) :T ((Empty)⊕(ap)) :=
  .leaf (.inr (.r0 a))
def dk(a:List Nat)(b:List Nat) :Option ap:=sx (cz ((bR a b).run) fun f =>
  cz ((aX a b f).run) fun (g,c,h,i,j,d,k,l,m,e,n,o) =>
  cz ((cD a b h i).run) fun p =>
  cz ((cE a b p).run) fun q =>
  cz ((bh a b c d e q).run) fun r =>
  cz ((bS a b c d e r).run) fun (r17,s,t,u,v,w,x,y,z) =>
  cz ((cF j d k l m e n o s t u v w x y z).run) fun A =>
  cz ((cG g c r17 A).run) fun B =>
  (i4 B).run)
theorem ff(c:Lv)(a:List Nat)(d:Lv)(b:List Nat){x:ap}(h:dk a b=some x) :ag prog fO [] [.agg [.imm c (.fl a) 1 1 0 (List.length a),.imm d (.fl b) 1 1 0 (List.length b)]] (dj x) :=
  uW false dj fZ h (Sg.cut 2 aQ (hX aY (jp c a d b) [⟨[],[0],[1,15]⟩]) (fun q=>Sg.cut 3 aQ (hX aY (jq c a d b) [⟨[],[],[2]⟩,⟨[],[0,33,81,241,257],[1,3,4,5,6,7,8]⟩]) (fun ⟨e,f,r,s,g,i,j,k,l,m,n,o⟩=>Sg.cut 1 aQ (hX aY (jr c a d b e f g i j k l m n o) [⟨[],[0,3,4],[1,5,6,7,8,41]⟩,⟨[],[0,3,4],[1,5,6,7,8,41]⟩]) (fun t=>Sg.cut 2 aQ (hX aY (js c a d b e f g i j k l m n o) [⟨[],[],[2]⟩,⟨[],[0,1,2],[1,5,6,7,8,50]⟩,⟨[],[0,1,2],[1,5,6,7,8,50]⟩]) (fun u=>Sg.cut 2 aQ (hX aY (jt c a d b e f g i j k l m n o) [⟨[],[],[2]⟩,⟨[],[],[2]⟩,⟨[],[],[2]⟩,⟨[],[0,1,2],[1,5,6,7,8,68]⟩,⟨[],[0,1,2],[1,5,6,7,8,68]⟩]) (fun v=>Sg.cut 2 aQ (hX aY (ju e f g i j k l m n o) [⟨[],[],[2]⟩,⟨[],[],[2]⟩,⟨[],[],[2]⟩,⟨[],[1,2,99,115],[5,6,7,8,9,10,11]⟩]) (fun ⟨r17,w,y,z,A,B,C,D,E⟩=>Sg.cut 1 aQ (hX aY (jv e f r17) [⟨[],[],[7,8,11,12]⟩,⟨[],[],[7,8,11,12]⟩,⟨[],[],[7,8,11,12]⟩,⟨[],[],[7,8,11,12]⟩]) (fun F=>Sg.cut 1 aQ (hX aY jw [⟨[],[],[2]⟩,⟨[],[],[2]⟩,⟨[],[],[2]⟩,⟨[],[],[2]⟩]) (fun G=>hX aY _ [⟨[],[],[2]⟩])))))))))
    (fun x=>by cases x with | r0 p=>exact th [.bool false p])
def cW:Option ap→Bool
  | some _=>true
  | none=>false
def dK:Option ap→Bool
  | some (.r0 x)=>x
  | _=>false
theorem jx{x:Option ap}(h:cW x=true) :x=some (.r0 (dK x)):=by
  unfold cW at h
  split at h<;>first | rfl | (cases h;done) | (rename_i y;cases y;rfl)
def f0:bi:=gq fO (.cons (.agg (.cons .fl (.cons .fl .nil))) .nil) fun t=>(fun q=>[⟨dj (.r0 (dK q)),[cW q]⟩]) (dk t.1.1.2 t.1.2.1.2)
theorem iz:bu prog f0:=cj fun t=>(ck (fun h=>ff t.1.1.1 t.1.1.2 t.1.2.1.1 t.1.2.1.2 (jx h)) dc)
def ke:List bi:=f0::k7
theorem qA:bm prog (bz ke):=aM iz aY
end
end Go.Plb.Seat
namespace Go.Plb
set_option linter.unusedSimpArgs false
set_option linter.unusedVariables false
set_option linter.unusedSectionVars false
variable [Rom]
theorem ow{α:Type}{b:Bool}{t:T α}{x:Option α}(h:b=true)(k:t.run=x) :(T.need b t).run=x:=by subst h;exact k
theorem jy{α:Type}{b:Bool}{t f:T α}{x:Option α}(h:b=true)(k:t.run=x) :(T.ask b t f).run=x:=by subst h;exact k
theorem h9{α:Type}{b:Bool}{t f:T α}{x:Option α}(h:b=false)(k:f.run=x) :(T.ask b t f).run=x:=by subst h;exact k
theorem bc{α:Type}{b:Bool}{t:T α}{x:Option α}(k:t.run=x)(h:b=true:=by exact rfl) :(T.need b t).run=x:=ow h k
theorem bY{α:Type}{b:Bool}{t f:T α}{x:Option α}(k:t.run=x)(h:b=true:=by exact rfl) :(T.ask b t f).run=x:=jy h k
theorem bW{α:Type}{b:Bool}{t f:T α}{x:Option α}(k:f.run=x)(h:b=false:=by exact rfl) :(T.ask b t f).run=x:=h9 h k
theorem ax{α β X:Type}{m:Option (α⊕X)}{k:α→Option (β⊕X)}{a:α}{x:Option (β⊕X)}(h:m=some (.inl a))(q:k a=x) :cz m k=x:=by subst h;exact q
theorem c9{α β X:Type}{m:Option (α⊕X)}{k:α→Option (β⊕X)}{y:X}(h:m=some (.inr y)) :cz m k=some (.inr y):=by subst h;rfl
theorem bX{X:Type}{m:Option (Empty⊕X)}{x:X}(h:m=some (.inr x)) :sx m=some x:=by subst h;rfl
theorem tU{σ Y:Type}{B:σ→Option (σ⊕Y)}(st:Nat→σ)(n:Nat){y:Y}(i:Nat)(hi:i≤n)(step:∀ j,i≤j→j<n→B (st j)=some (.inl (st (j+1))))(done:B (st n)=some (.inr y)) :c6 B (st i)=some y:=by
  obtain ⟨d,rfl⟩:∃ d,n=i+d:=⟨n-i,by omega⟩
  clear hi
  induction d generalizing i with
  | zero=>exact tR done
  | succ d ih =>
    rw [uU (step i (Nat.le_refl _) (by omega))]
    have e:i+(d+1)=i+1+d:=by omega
    rw [e] at step done
    exact ih (i+1) (fun j h1 h2=>step j (by omega) h2) done
theorem f1{σ Y:Type}{B:σ→Option (σ⊕Y)}(st:Nat→σ)(n:Nat){y:Y}{s0:σ}(h0:s0=st 0)(step:∀ j,j<n→B (st j)=some (.inl (st (j+1))))(done:B (st n)=some (.inr y)) :c6 B s0=some y:=by
  rw [h0];exact tU st n 0 (Nat.zero_le _) (fun j _=>step j) done
theorem qt{n:Int} :lb .i64 n=true↔-9223372036854775808≤n∧n≤9223372036854775807:=by
  have e1:IntKind.i64.min = -9223372036854775808:=by decide
  have e2:IntKind.i64.max=9223372036854775807:=by decide
  simp only [lb,e1,e2,Bool.and_eq_true,decide_eq_true_eq]
theorem uY{k:Int}{n:Nat} :mw k n=true↔0≤k∧k<n:=by simp only [mw,Bool.and_eq_true,decide_eq_true_eq]
theorem uZ{k:Int}{n:Nat} :kf k n=true↔0≤k∧k≤n:=by simp only [kf,Bool.and_eq_true,decide_eq_true_eq]
theorem qu{k n:Nat} :gd k n=true↔k<n:=by simp [gd]
theorem qv{k n:Nat} :bU k n=true↔k≤n:=by simp [bU]
theorem qw{k n:Nat} :Nat.ble k n=true↔k≤n:=by rw [Nat.ble_eq]
theorem qx{k n:Nat} :Nat.blt k n=true↔k<n:=by rw [Nat.blt_eq]
def v9{α:Type}(pos:Nat→Nat)(val:Nat→α)(l:List α) :Nat→List α
  | 0=>l
  | n+1=>(v9 pos val l n).set (pos n) (val n)
theorem k8{α:Type}{pos:Nat→Nat}{val:Nat→α}{l:List α} :∀ {n:Nat},(v9 pos val l n).length=l.length
  | 0=>rfl
  | n+1=>by simp only [v9,List.length_set];exact k8
theorem rC{α:Type}(l:List α) :bM 0 l.length l=true:=by rw [ev];omega
theorem aT{α:Type}{b:Bool}{t:T α}{x:Option α}(k:t.run=x)(h:b=true:=by exact rC _) :(T.need b t).run=x:=ow h k
theorem mX{α:Type}{n:Nat}{l:List α}(h:l.length=n) :ai 0 n l=l:=by rw [←h];exact aD l
theorem lS{p:Nat→Prop} [DecidablePred p]:∀ {n:Nat},(¬ ∀ i,i<n→p i)→∃ k,k<n∧¬ p k∧∀ j,j<k→p j
  | 0,h=>(h fun i hi=>absurd hi (Nat.not_lt_zero _)).elim
  | n+1,h=>by
    by_cases q:∀ i,i<n→p i
    · refine ⟨n,Nat.lt_succ_self _,fun r=>h fun i hi=>?_,q⟩
      rcases Nat.lt_succ_iff_lt_or_eq.1 hi with a | rfl
      · exact q i a
      · exact r
    · obtain ⟨k,h1,h2,h3⟩:=lS q
      exact ⟨k,by omega,h2,h3⟩
theorem f2(n:Nat) :Int.toNat (n:Int)=n:=rfl
def i5(x:Nat) :Nat:=if x<4503599627370496 then x else 4503599627370496+x%4503599627370496
def b6(x:Nat) :Nat:=x/4503599627370496-1
theorem ox{x:Nat}(h:x<9218868437227405312) :FloatKind.f64.format.read x=.number false (i5 x) (-1074+(b6 x:Int)):=by
  have e1:Ieee.double.signWeight=9223372036854775808:=by decide
  have e2:Ieee.double.binade=4503599627370496:=by decide
  have e3:Ieee.double.infRung=9218868437227405312:=by decide
  have e4:Ieee.double.leastPlace = -1074:=by decide
  show Ieee.double.read x=_
  unfold Ieee.Format.read
  simp only [e1,e2,e3,e4]
  have h1:x/9223372036854775808%2=0:=by omega
  have h2:x%9223372036854775808=x:=by omega
  rw [h1,h2]
  by_cases h3:x<4503599627370496
  · rw [if_pos h3]
    have:b6 x=0:=by unfold b6;omega
    simp only [i5,if_pos h3,this];rfl
  · rw [if_neg h3,if_pos h]
    simp only [i5,if_neg h3,b6];rfl
theorem vt(x:Nat) :i5 x<9007199254740992:=by unfold i5;split<;>omega
theorem vu{x:Nat}(h:0<b6 x) :4503599627370496≤i5 x:=by unfold b6 at h;unfold i5;rw [if_neg (by omega)];omega
theorem k9{x y:Nat}(hx:x<9218868437227405312)(hy:y<9218868437227405312) :
    em x y=some (compare ((i5 x*2^(b6 x-min (b6 x) (b6 y)):Nat):Int) ((i5 y*2^(b6 y-min (b6 x) (b6 y)):Nat):Int)):=by
  unfold em Ieee.Format.order
  rw [ox hx,ox hy]
  simp only [Ieee.Datum.order,Ieee.signed,Bool.false_eq_true,if_false,Nat.shiftLeft_eq]
  have e1:((-1074+(b6 x:Int))-min (-1074+(b6 x:Int)) (-1074+(b6 y:Int))).toNat=b6 x-min (b6 x) (b6 y):=by omega
  have e2:((-1074+(b6 y:Int))-min (-1074+(b6 x:Int)) (-1074+(b6 y:Int))).toNat=b6 y-min (b6 x) (b6 y):=by omega
  rw [e1,e2]
theorem vv{x y:Nat}(hx:x<9218868437227405312)(hy:y<9218868437227405312) :em x y=some .gt↔em y x=some .lt:=by
  rw [k9 hx hy,k9 hy hx,Nat.min_comm]
  simp only [Option.some.injEq]
  rw [Int.compare_eq_gt,Int.compare_eq_lt]
theorem ti{x y:Nat}(hx:x<9218868437227405312)(hy:y<9218868437227405312)(h:x<y) :em x y=some .lt:=by
  rw [k9 hx hy]
  have hle:b6 x≤b6 y:=by unfold b6;omega
  rw [Nat.min_eq_left hle,Nat.sub_self,Nat.pow_zero,Nat.mul_one]
  have key:i5 x<i5 y*2^(b6 y-b6 x):=by
    rcases Nat.eq_or_lt_of_le hle with h1 | h1
    · rw [h1,Nat.sub_self,Nat.pow_zero,Nat.mul_one]
      unfold b6 at h1;unfold i5
      split<;>split<;>omega
    · have a:=vu (x:=y) (by omega)
      have b:=vt x
      have c:2^1≤2^(b6 y-b6 x):=Nat.pow_le_pow_right (by decide) (by omega)
      have d:4503599627370496*2≤i5 y*2^(b6 y-b6 x):=Nat.mul_le_mul a c
      omega
  rw [Int.compare_eq_lt.2 (by exact_mod_cast key)]
theorem u4{x y:Nat}(hx:x<9218868437227405312)(hy:y<9218868437227405312) :em x y=some (compare x y):=by
  rcases Nat.lt_trichotomy x y with h | rfl | h
  · rw [ti hx hy h,Nat.compare_eq_lt.2 h]
  · rw [k9 hx hx];simp
  · rw [(vv hx hy).2 (ti hy hx h),Nat.compare_eq_gt.2 h]
theorem u5:FloatKind.f64.format.read 9218868437227405312=.infinity false:=by decide
theorem sB{y:Nat}(hy:y<9218868437227405312) :em 9218868437227405312 y=some .gt:=by
  unfold em Ieee.Format.order;rw [u5,ox hy];rfl
def aE{α:Type}(f:Nat→α) :Nat→List α
  | 0=>[]
  | n+1=>aE f n++[f n]
theorem aP{α:Type}{f:Nat→α} :∀ {n:Nat},(aE f n).length=n
  | 0=>rfl
  | n+1=>by simp only [aE,List.length_append,List.length_singleton,aP (n:=n)]
theorem sC{α:Type}{f:Nat→α}{n:Nat} :(aE f n).take n=aE f n:=by
  rw [List.take_of_length_le];rw [aP];exact Nat.le_refl n
theorem fA{α:Type}{f:Nat→α}{n:Nat} :List.take n (aE f n)++List.take 1 [f n]=aE f (n+1):=by
  rw [sC];rfl
theorem jn{α:Type}{f:Nat→α} :∀ {n i:Nat},i<n→(aE f n)[i]? = some (f i)
  | 0,i,h=>absurd h (Nat.not_lt_zero _)
  | n+1,i,h=>by
    simp only [aE]
    by_cases e:i=n
    · subst e;rw [List.getElem?_append_right (by rw [aP];exact Nat.le_refl _),aP,Nat.sub_self];rfl
    · rw [List.getElem?_append_left (by rw [aP];omega)];exact jn (by omega)
theorem oy{α:Type}{f:Nat→α}{n i:Nat}{d:α}(h:i<n) :(aE f n).getD i d=f i:=by
  rw [List.getD_eq_getElem?_getD,jn h];rfl
theorem ez{α:Type}{f g:Nat→α} :∀ {n:Nat},(∀ i,i<n→f i=g i)→aE f n=aE g n
  | 0,_=>rfl
  | n+1,h=>by simp only [aE];rw [ez fun i hi=>h i (by omega),h n (by omega)]
theorem pr{α:Type}{f:Nat→α}{n:Nat}{l:List α}(hl:l.length=n)(h:∀ i,i<n→l[i]? = some (f i)) :l=aE f n:=by
  apply List.ext_getElem?
  intro i
  by_cases hi:i<n
  · rw [h i hi,jn hi]
  · rw [List.getElem?_eq_none (by omega),List.getElem?_eq_none (by rw [aP];omega)]
theorem pu{α:Type}{f:Nat→α}{n i:Nat}{x:α}(h:i<n) :(aE f n).set i x=aE (fun j=>if j=i then x else f j) n:=by
  refine pr (by rw [List.length_set,aP]) fun j hj=>?_
  rw [List.getElem?_set,aP]
  by_cases e:i=j
  · subst e;rw [if_pos rfl,if_pos h,if_pos rfl]
  · rw [if_neg e,jn hj,if_neg fun q=>e q.symm]
abbrev W:Nat:=18446744073709551616
def nl(v:Nat) :Nat:=if h:v=0 then 0 else nl (v/W)+1
termination_by v
decreasing_by exact Nat.div_lt_self (Nat.pos_of_ne_zero h) (by decide)
theorem ww:∀ (v:Nat),v<W^nl v:=by
  intro v
  induction v using Nat.strongRecOn with
  | _ v ih =>
    rw [nl]
    split
    · rename_i h;subst h;decide
    · rename_i h
      have:=ih (v/W) (Nat.div_lt_self (Nat.pos_of_ne_zero h) (by decide))
      rw [Nat.pow_succ]
      exact (Nat.div_lt_iff_lt_mul (by decide)).1 this
def tz(v:Nat) :Nat:=if h:v%2=1∨v=0 then 0 else tz (v/2)+1
termination_by v
decreasing_by omega
theorem vw:∀ (v:Nat),v≠0→v%2^tz v=0∧v/2^tz v%2=1:=by
  intro v
  induction v using Nat.strongRecOn with
  | _ v ih =>
    intro h
    rw [tz]
    split
    · rename_i q;rw [Nat.pow_zero,Nat.mod_one,Nat.div_one];omega
    · rename_i q
      obtain ⟨h1,h2⟩:=ih (v/2) (by omega) (by omega)
      rw [Nat.pow_succ,Nat.mul_comm (2^_),Nat.mod_mul,←Nat.div_div_eq_div_mul,h1,h2]
      omega
theorem vx:tz 0=0:=by rw [tz,dif_pos (.inr rfl)]
theorem wx{v n:Nat}(h:v≠0)(hv:v<2^n) :tz v<n:=by
  obtain ⟨h1,h2⟩:=vw v h
  rcases Nat.lt_or_ge (tz v) n with q | q
  · exact q
  · rw [Nat.div_eq_of_lt (Nat.lt_of_lt_of_le hv (Nat.pow_le_pow_right (by decide) q))] at h2;omega
def sg(s:Bool)(v:Nat) :Int:=if s then -(v:Int) else (v:Int)
def nE(z e:Int) :Int:=if z=0 then 0 else e+(tz z.natAbs:Nat)
theorem wy{v:Nat} :tz v≤64*nl v:=by
  by_cases h:v=0
  · subst h;rw [vx];exact Nat.zero_le _
  · have:=ww v
    have e:W^nl v=2^(64*nl v):=by rw [Nat.pow_mul]
    rw [e] at this
    exact Nat.le_of_lt (wx h this)
def Sm(z e:Int) :Prop:=nl z.natAbs≤300∧-30000≤e∧e≤30000
theorem wK{z e:Int}(h:Sm z e) :tz z.natAbs≤19200:=Nat.le_trans wy (by have:=h.1;omega)
theorem Sm.b{z e:Int}(h:Sm z e) : -30000≤nE z e∧nE z e≤49200:=by
  have ht:=wK h
  obtain ⟨_,h2,h3⟩:=h
  unfold nE
  split<;>omega
abbrev t4:Nat:=18446744073709551616
def wC(x:Nat) :Nat:=x/4503599627370496%2048
def i6(x:Nat) :Bool:=wC x != 2047
theorem rD{x:Nat}(hx:x<t4)(h:i6 x=true) :FloatKind.f64.format.read x=.number (x/9223372036854775808%2==1) (i5 (x%9223372036854775808)) (-1074+(b6 (x%9223372036854775808):Int)):=by
  have e1:Ieee.double.signWeight=9223372036854775808:=by decide
  have e2:Ieee.double.binade=4503599627370496:=by decide
  have e3:Ieee.double.infRung=9218868437227405312:=by decide
  have e4:Ieee.double.leastPlace = -1074:=by decide
  have hx:x<18446744073709551616:=hx
  have h':x%9223372036854775808<9218868437227405312:=by
    unfold i6 wC at h;simp only [bne_iff_ne,ne_eq] at h;omega
  show Ieee.double.read x=_
  unfold Ieee.Format.read
  simp only [e1,e2,e3,e4]
  by_cases h3:x%9223372036854775808<4503599627370496
  · rw [if_pos h3]
    have:b6 (x%9223372036854775808)=0:=by unfold b6;omega
    simp only [i5,if_pos h3,this];rfl
  · rw [if_neg h3,if_pos h']
    simp only [i5,if_neg h3,b6]
theorem pv{x:Nat}(hx:x<t4)(h:x%9223372036854775808=9218868437227405312) :FloatKind.f64.format.read x=.infinity (x/9223372036854775808%2==1):=by
  have e1:Ieee.double.signWeight=9223372036854775808:=by decide
  have e2:Ieee.double.binade=4503599627370496:=by decide
  have e3:Ieee.double.infRung=9218868437227405312:=by decide
  have e4:Ieee.double.leastPlace = -1074:=by decide
  show Ieee.double.read x=_
  unfold Ieee.Format.read
  simp only [e1,e2,e3,e4]
  rw [h,if_neg (by decide),if_neg (by decide),if_pos rfl]
theorem tV{x:Nat}(hx:x<t4)(h:9218868437227405312<x%9223372036854775808) :isNaN x=true:=by
  have e1:Ieee.double.signWeight=9223372036854775808:=by decide
  have e2:Ieee.double.binade=4503599627370496:=by decide
  have e3:Ieee.double.infRung=9218868437227405312:=by decide
  have e4:Ieee.double.leastPlace = -1074:=by decide
  show (Ieee.double.read x).isNaN=true
  unfold Ieee.Format.read
  simp only [e1,e2,e3,e4]
  rw [if_neg (by omega),if_neg (by omega),if_neg (by omega)];rfl
theorem vy{x:Nat}(hx:x<t4)(h:i6 x=true) :kg x x=false:=by
  unfold kg em Ieee.Format.order
  rw [rD hx h]
  simp [Ieee.Datum.order,Int.min_self]
theorem tj{x y:Nat}(h:isNaN x=true) :kg x y=true:=by
  obtain ⟨s,t,e⟩:=fC h
  unfold kg em Ieee.Format.order
  rw [e];rfl
theorem pw{x:Nat}(hx:x<t4)(h:i6 x=false) :isNaN x=true∨(isNaN x=false∧x%9223372036854775808=9218868437227405312∧kg x x=false):=by
  have hx':x<18446744073709551616:=hx
  have h':9218868437227405312≤x%9223372036854775808:=by
    unfold i6 wC at h;simp only [bne_eq_false_iff_eq] at h;omega
  rcases Nat.lt_or_ge 9218868437227405312 (x%9223372036854775808) with q | q
  · exact .inl (tV hx q)
  · have e:x%9223372036854775808=9218868437227405312:=by omega
    have r:=pv hx e
    refine .inr ⟨?_,e,?_⟩
    · show (Ieee.double.read x).isNaN=false
      have r':Ieee.double.read x=_:=r
      rw [r'];rfl
    · unfold kg em Ieee.Format.order
      rw [r]
      simp [Ieee.Datum.order]
theorem rE{x:Nat}(hx:x<t4) :b4 x=x%9223372036854775808:=by
  unfold b4;rfl
theorem vz{x:Nat}(hx:x<t4)(h:i6 x=true) :vR (b4 x) 9218868437227405311=false:=by
  have hx':x<18446744073709551616:=hx
  have h':x%9223372036854775808<9218868437227405312:=by
    unfold i6 wC at h;simp only [bne_iff_ne,ne_eq] at h;omega
  unfold vR
  rw [rE hx,u4 h' (by decide)]
  rcases Nat.lt_trichotomy (x%9223372036854775808) 9218868437227405311 with q | q | q
  · rw [Nat.compare_eq_lt.2 q];rfl
  · rw [q];rfl
  · omega
theorem vA{x:Nat}(hx:x<t4)(h:x%9223372036854775808=9218868437227405312) :vR (b4 x) 9218868437227405311=true:=by
  unfold vR
  rw [rE hx,h,sB (by decide)];rfl
theorem sD(s:Bool)(m k:Nat) :Ieee.signed s m k+Ieee.signed (!s) m k=0:=by
  cases s<;>simp [Ieee.signed]<;>omega
theorem u6{x:Nat}(hx:x<t4)(h:i6 x=true) :f4 x x=0:=by
  unfold f4 Ieee.Format.sub
  rw [rD hx h]
  simp only [Ieee.Datum.opposite,Ieee.Datum.sum,Int.min_self,Int.sub_self,sD,if_true]
  cases (x/9223372036854775808%2==1)<;>rfl
theorem u7{x:Nat}(hx:x<t4)(h:i6 x=false) :kg (f4 x x) 0=true:=by
  have q:f4 x x=qB:=by
    unfold f4 Ieee.Format.sub
    rcases pw hx h with h1 | ⟨_,h1,_⟩
    · obtain ⟨s,t,e⟩:=fC h1
      rw [e];rfl
    · rw [pv hx h1]
      cases (x/9223372036854775808%2==1)<;>rfl
  rw [q]
  exact tj jV
theorem rF{x:Nat}(hx:x<t4) :kg (f4 x x) 0 = !(i6 x):=by
  cases h:i6 x
  · rw [u7 hx h];rfl
  · rw [u6 hx h];decide +kernel
def fz(x:Nat) :Int:=sg (x/9223372036854775808==1) (i5 (x%9223372036854775808)*2^b6 (x%9223372036854775808))
def Wd(l:List Nat) :Prop:=∀ i,l.getD i 0<t4
def Fn(l:List Nat) :Prop:=∀ i,i<l.length→i6 (l.getD i 0)=true
end Go.Plb
namespace Go.Plb.Seat
open Go Go.Plb
set_option linter.unusedSimpArgs false
set_option linter.unusedVariables false
theorem gv{α:Type}{n:Nat}{l:List α}(h:l.length=n) :bM 0 n l=true:=by rw [←h];exact rC l
theorem ab{α:Type}{b:Bool}{t:T α}{x:Option α}(k:t.run=x)(h:b=true:=by simp only [qt,uY,uZ,qu,qv,ev,qw,qx,decide_eq_true_eq,decide_eq_false_iff_not,beq_iff_eq,beq_eq_false_iff_ne,bne_iff_ne,bne_eq_false_iff_eq,Bool.not_eq_true',Bool.not_eq_false',List.length_set,ne_eq,ge_iff_le,gt_iff_lt,k8,f2,mn];omega) :(T.need b t).run=x:=ow h k
theorem dH{α:Type}{b:Bool}{t f:T α}{x:Option α}(k:t.run=x)(h:b=true:=by simp only [qt,uY,uZ,qu,qv,ev,qw,qx,decide_eq_true_eq,decide_eq_false_iff_not,beq_iff_eq,beq_eq_false_iff_ne,bne_iff_ne,bne_eq_false_iff_eq,Bool.not_eq_true',Bool.not_eq_false',List.length_set,ne_eq,ge_iff_le,gt_iff_lt,k8,f2,mn];omega) :(T.ask b t f).run=x:=jy h k
theorem iu{α:Type}{b:Bool}{t f:T α}{x:Option α}(k:f.run=x)(h:b=false:=by simp only [qt,uY,uZ,qu,qv,ev,qw,qx,decide_eq_true_eq,decide_eq_false_iff_not,beq_iff_eq,beq_eq_false_iff_ne,bne_iff_ne,bne_eq_false_iff_eq,Bool.not_eq_true',Bool.not_eq_false',List.length_set,ne_eq,ge_iff_le,gt_iff_lt,k8,f2,mn];omega) :(T.ask b t f).run=x:=h9 h k
noncomputable def f5(l:List Nat) :Bool:=@decide (Fn l) (Classical.propDecidable _)
theorem px{l:List Nat} :f5 l=true↔Fn l:=@decide_eq_true_iff _ (Classical.propDecidable _)
theorem oz{l:List Nat} :f5 l=false↔¬ Fn l:=@decide_eq_false_iff_not _ (Classical.propDecidable _)
theorem rG{l:List Nat}(hw:Wd l)(hn:l.length≤1000000000) :∃ k:Int,ao l=some (.r0 k)∧decide (k≥0) = !(f5 l):=by
  have step:∀ j,j<l.length→i6 (l.getD j 0)=true→aI l j=some (.inl (j+1)):=by
    intro j hj hf
    show (az _ _).run=_
    unfold az
    exact dH (ab (ab (h9 (vy (hw j) hf) (bY (h9 (vz (hw j) hf) (ab rfl))))))
  by_cases h:Fn l
  · refine ⟨-1,bX (ax (a:=()) rfl (ax (a:=()) (f1 (fun j=>j) l.length rfl (fun j hj=>step j hj (h j hj)) (iu rfl)) rfl)),?_⟩
    rw [px.2 h];rfl
  · obtain ⟨k,hk,hb,hf⟩:=lS (p:=fun i=>i6 (l.getD i 0)=true) h
    have hbf:i6 (l.getD k 0)=false:=by cases q:i6 (l.getD k 0) with | true=>exact absurd q hb | false=>rfl
    refine ⟨(k:Int),bX (ax (a:=()) rfl (c9 (f1 (fun j=>j) k rfl (fun j hj=>step j (by omega) (hf j hj)) ?_))),?_⟩
    · show (az _ _).run=_
      unfold az
      refine dH (ab (ab ?_))
      rcases pw (hw k) hbf with q | ⟨q1,q2,q3⟩
      · exact jy (tj q) rfl
      · exact h9 q3 (bY (jy (vA (hw k) q2) rfl))
    · rw [oz.2 h,decide_eq_true (by omega)];rfl
theorem py{l:List Nat}(hw:Wd l)(hn:l.length≤1000000000) :bJ l=some (.r0 (f5 l)):=by
  have step:∀ j,j<l.length→i6 (l.getD j 0)=true→cS l j=some (.inl (j+1)):=by
    intro j hj hf
    show (cn _ _).run=_
    unfold cn
    exact dH (ab (ab (ab (ab (h9 (by rw [rF (hw j),hf];rfl) (ab rfl))))))
  by_cases h:Fn l
  · rw [px.2 h]
    exact bX (ax (a:=()) rfl (ax (a:=()) (f1 (fun j=>j) l.length rfl (fun j hj=>step j hj (h j hj)) (iu rfl)) rfl))
  · obtain ⟨k,hk,hb,hf⟩:=lS (p:=fun i=>i6 (l.getD i 0)=true) h
    have hbf:i6 (l.getD k 0)=false:=by cases q:i6 (l.getD k 0) with | true=>exact absurd q hb | false=>rfl
    rw [oz.2 h]
    refine bX (ax (a:=()) rfl (c9 (f1 (fun j=>j) k rfl (fun j hj=>step j (by omega) (hf j hj)) ?_)))
    show (cn _ _).run=_
    unfold cn
    exact dH (ab (ab (ab (ab (jy (by rw [rF (hw k),hbf];rfl) rfl)))))
theorem cT{l:List Nat}(h:l.length≤1000000) :aC l l=some (.r0 true):=by
  refine bX (ax (a:=()) (h9 (by simp) rfl) (ax (a:=()) (f1 (fun i=>i) l.length rfl (fun j hj=>?_) ?_) rfl))
  · show (dY _ _ _).run=_
    unfold dY
    rw [nR]
    exact (dH (ab (ab (ab (ab (bW (ab rfl)))))))
  · exact iu rfl
def pa(D E:List Nat) :Bool:=decide (D.length≤512∧E.length=D.length-1)
theorem oA{D E:List Nat}(hD:D.length≤1000000) :bT D E=some (.r0 (pa D E)):=by
  refine bX (ax (a:=pa D E) ?_ rfl)
  unfold iW
  by_cases h:D.length≤512
  · refine jy (by rw [decide_eq_true_eq];omega) (ab ?_)
    show some (Sum.inl (_==_))=_
    congr 2
    unfold pa ve
    by_cases h2:E.length=D.length-1
    · rw [decide_eq_true ⟨h,h2⟩,beq_iff_eq]
      split<;>omega
    · rw [decide_eq_false (fun q=>h2 q.2),beq_eq_false_iff_ne]
      split<;>omega
  · have:pa D E=false:=decide_eq_false fun q=>h q.1
    rw [this]
    exact h9 (by rw [decide_eq_false_iff_not];omega) rfl
theorem tW{D E:List Nat}(hD:D.length≤1000000) :ew D E=some (.r0 (pa D E)):=by
  refine bX (ax (a:=pa D E) ?_ rfl)
  unfold kY
  by_cases h:D.length≤512
  · refine jy (by rw [decide_eq_true_eq];omega) ?_
    by_cases h0:D.length=0
    · refine jy (by rw [beq_iff_eq];omega) ?_
      by_cases h1:E.length=0
      · have:pa D E=true:=decide_eq_true ⟨h,by omega⟩
        rw [this]
        exact jy (by rw [beq_iff_eq];omega) rfl
      · have:pa D E=false:=decide_eq_false fun q=>h1 (by omega)
        rw [this]
        exact h9 (by rw [beq_eq_false_iff_ne];omega) (h9 (by rw [decide_eq_false_iff_not];omega) rfl)
    · refine h9 (by rw [beq_eq_false_iff_ne];omega) (jy (by rw [decide_eq_true_eq];omega) (ab ?_))
      show some (Sum.inl (_==_))=_
      congr 2
      unfold pa
      by_cases h2:E.length=D.length-1
      · rw [decide_eq_true ⟨h,h2⟩,beq_iff_eq];omega
      · rw [decide_eq_false (fun q=>h2 q.2),beq_eq_false_iff_ne];omega
  · have:pa D E=false:=decide_eq_false fun q=>h q.1
    rw [this]
    exact h9 (by rw [decide_eq_false_iff_not];omega) rfl
theorem mv{D E:List Nat}(wD:Wd D)(wE:Wd E)(hD:D.length≤1000000)(hE:E.length≤1000000)(h:pa D E=true) :c7 D E=some (.r0 (bif f5 D&&f5 E then 0 else 10)):=by
  obtain ⟨k1,i1,j1⟩:=rG wD (by omega)
  obtain ⟨k2,i2,j2⟩:=rG wE (by omega)
  have t3:(fS D E).run=some (bif f5 D&&f5 E then .inl () else .inr (.r0 10)):=by
    unfold fS
    rw [aD,aD,oA hD,h,i1,i2]
    have n1:(!(!(decide (aq (some (.r0 k1))≥(0:Int))))) = !(f5 D):=by rw [Bool.not_not];exact j1
    have n2:(!(!(decide (aq (some (.r0 k2))≥(0:Int))))) = !(f5 E):=by rw [Bool.not_not];exact j2
    rw [n1,n2]
    cases f5 D
    · exact (aT (aT (bc (bW (aT (bc (bY rfl)))))))
    cases f5 E
    · exact (aT (aT (bc (bW (aT (bc (bW (aT (bc (bY rfl))))))))))
    · exact (aT (aT (bc (bW (aT (bc (bW (aT (bc (bW rfl))))))))))
  cases q:(f5 D&&f5 E)
  · rw [q] at t3
    exact bX (c9 t3)
  · rw [q] at t3
    exact bX (ax t3 rfl)
theorem vB{l:List Nat}{o k:Nat}(h:o+k≤l.length) :ai o k l=aE (fun i=>l.getD (o+i) 0) k:=by
  refine pr (cy h) fun j hj=>?_
  rw [mW,List.getElem?_take,if_pos hj,List.getElem?_drop,List.getD_eq_getElem?_getD,List.getElem?_eq_getElem (by omega)]
  rfl
def lT(D:List Nat)(r m i:Nat) :Nat:=if kg r 0=true∧(i=m-1∨i=m) then f4 (D.getD i 0) (b4 r) else D.getD i 0
theorem qy{D:List Nat}{r m i:Nat}(h:kg r 0=true)(hi:i=m-1∨i=m) :lT D r m i=f4 (D.getD i 0) (b4 r):=if_pos ⟨h,hi⟩
theorem qz{D:List Nat}{r m i:Nat}(h:kg r 0=false) :lT D r m i=D.getD i 0:=if_neg (by rw [h];simp)
theorem mY{D:List Nat}{r m i:Nat}(hi : ¬ (i=m-1∨i=m)) :lT D r m i=D.getD i 0:=if_neg (fun q=>hi q.2)
def wz(D E:List Nat)(r m:Nat) :aF :=
  .r0 r m (m-1) (D.length-m) (D.length-1-m) (aE (lT D r m) m) (aE (fun i=>E.getD i 0) (m-1)) (aE (fun i=>lT D r m (m+i)) (D.length-m)) (aE (fun i=>E.getD (m+i) 0) (D.length-1-m))
theorem tX{D E:List Nat}(h2:2≤D.length)(h5:D.length≤512)(hE:E.length=D.length-1) :a5 D E=some (wz D E (E.getD (D.length/2-1) 0) (D.length/2)):=by
  have ed:Int.tdiv ((D.length:Nat):Int) (2:Int)=((D.length/2:Nat):Int):=rfl
  obtain ⟨m,hm⟩:∃ m,m=D.length/2:=⟨_,rfl⟩
  have hm1:1≤m:=by omega
  have hm2:m<D.length:=by omega
  have hm3:m≤D.length-m:=by omega
  have e1:((m:Nat):Int)-1=((m-1:Nat):Int):=by omega
  rw [←hm]
  rw [←hm] at ed
  have c1:ai 0 m D=aE (fun i=>D.getD (0+i) 0) m:=vB (by omega)
  have c2:ai 0 (m-1) E=aE (fun i=>E.getD (0+i) 0) (m-1):=vB (by omega)
  have c3:ai m (D.length-m) D=aE (fun i=>D.getD (m+i) 0) (D.length-m):=vB (by omega)
  have c4:ai m (E.length-m) E=aE (fun i=>E.getD (m+i) 0) (E.length-m):=vB (by omega)
  simp only [Nat.zero_add] at c1 c2
  refine bX (ax (a:=(E.getD (m-1) 0,m,m-1,D.length-m,D.length-1-m,aE (lT D (E.getD (m-1) 0) m) m,aE (fun i=>E.getD i 0) (m-1),aE (fun i=>lT D (E.getD (m-1) 0) m (m+i)) (D.length-m),aE (fun i=>E.getD (m+i) 0) (D.length-1-m))) ?_ rfl)
  unfold jR
  simp only [ed,e1,f2]
  rw [c1,c2,c3,c4,aP,aP,aP,aP,hE]
  generalize E.getD (m-1) 0=r
  cases hr:kg r 0
  · have a1:aE (lT D r m) m=aE (fun i=>D.getD i 0) m:=ez fun i _=>qz hr
    have a2:aE (fun i=>lT D r m (m+i)) (D.length-m)=aE (fun i=>D.getD (m+i) 0) (D.length-m):=ez fun i _=>qz hr
    rw [a1,a2]
    exact (bc (ab (ab (ab (ab (ab (ab (ab (ab (ab (ab (ab (ab (ab (ab (ab (ab (ab (ab (ab (ab (ab (bW rfl)))))))))))))))))))))))
  · rw [oy (show m-1<m by omega),oy (show 0<D.length-m by omega),pu (show m-1<m by omega),pu (show 0<D.length-m by omega)]
    have a1:aE (fun j=>if j=m-1 then f4 (D.getD (m-1) 0) (b4 r) else D.getD j 0) m=aE (lT D r m) m:=by
      refine ez fun i hi=>?_
      by_cases q:i=m-1
      · rw [if_pos q,qy hr (.inl q),q]
      · rw [if_neg q,mY (by omega)]
    have a2:aE (fun j=>if j=0 then f4 (D.getD (m+0) 0) (b4 r) else D.getD (m+j) 0) (D.length-m)=aE (fun i=>lT D r m (m+i)) (D.length-m):=by
      refine ez fun i hi=>?_
      by_cases q:i=0
      · rw [if_pos q,qy hr (.inr (by omega)),q]
      · rw [if_neg q,mY (by omega)]
    rw [a1,a2]
    exact (bc (ab (ab (ab (ab (ab (ab (ab (ab (ab (ab (ab (ab (ab (ab (ab (ab (ab (ab (ab (ab (ab (bY (ab (ab (ab (ab (ab (ab (ab (ab (ab rfl))))))))))))))))))))))))))))))))
def s1(D:List Nat)(r m i:Nat) :Nat×Nat×Nat×Nat×Nat×List Nat×List Nat:=(i,min i m,min i m,i-m,i-m,aE (lT D r m) (min i m),aE (fun k=>lT D r m (m+k)) (i-m))
theorem sE{D:List Nat}{r m i:Nat}(hm:1≤m)(hm5:m≤512)(h5:D.length≤512)(hi:i<D.length) :dF D (m:Int) r (s1 D r m i)=some (.inl (s1 D r m (i+1))):=by
  show cz (fW _ _ _ _ _ _ _ _ _ _).run _=_
  refine ax (a:=(s1 D r m (i+1)).2) ?_ (ab rfl)
  unfold fW s1
  by_cases h:i<m
  · have e1:min i m=i:=by omega
    have e2:min (i+1) m=i+1:=by omega
    have e3:i-m=0:=by omega
    have e4:i+1-m=0:=by omega
    simp only [e1,e2,e3,e4]
    by_cases h1:i=m-1
    · cases hr:kg r 0
      · rw [←qz (D:=D) (m:=m) (i:=i) hr,fA]
        simp only [aP]
        exact (dH (ab (ab (ab (jy (by rw [beq_iff_eq];omega) (bW (dH (ab (ab (bc (ab rfl)))))))))))
      · rw [←qy (D:=D) (m:=m) (i:=i) hr (.inl h1),fA]
        simp only [aP]
        exact (dH (ab (ab (ab (jy (by rw [beq_iff_eq];omega) (bY (dH (ab (ab (bc (ab rfl)))))))))))
    · rw [←mY (D:=D) (r:=r) (m:=m) (i:=i) (by omega),fA]
      simp only [aP]
      exact (dH (ab (ab (ab (h9 (by rw [beq_eq_false_iff_ne];omega) (h9 (by rw [beq_eq_false_iff_ne];omega) (dH (ab (ab (bc (ab rfl)))))))))))
  · have e1:min i m=m:=by omega
    have e2:min (i+1) m=m:=by omega
    obtain ⟨k,hk⟩:∃ k,i=m+k:=⟨i-m,by omega⟩
    have e3:i-m=k:=by omega
    have e4:i+1-m=k+1:=by omega
    simp only [e1,e2,e3,e4]
    have pt:∀ x,x=lT D r m i→List.take k (aE (fun k=>lT D r m (m+k)) k)++List.take 1 [x]=aE (fun k=>lT D r m (m+k)) (k+1):=by
      intro x hx
      rw [hx,hk]
      exact fA (f:=fun k=>lT D r m (m+k))
    by_cases h1:i=m
    · cases hr:kg r 0
      · rw [pt _ (qz hr).symm]
        simp only [aP]
        exact (dH (ab (ab (ab (h9 (by rw [beq_eq_false_iff_ne];omega) (jy (by rw [beq_iff_eq];omega) (bW (iu (ab (ab (bc (ab rfl))))))))))))
      · rw [pt _ (qy hr (.inr h1)).symm]
        simp only [aP]
        exact (dH (ab (ab (ab (h9 (by rw [beq_eq_false_iff_ne];omega) (jy (by rw [beq_iff_eq];omega) (bY (iu (ab (ab (bc (ab rfl))))))))))))
    · rw [pt _ (mY (by omega)).symm]
      simp only [aP]
      exact (dH (ab (ab (ab (h9 (by rw [beq_eq_false_iff_ne];omega) (h9 (by rw [beq_eq_false_iff_ne];omega) (iu (ab (ab (bc (ab rfl)))))))))))
def s2(E:List Nat)(m i:Nat) :Nat×Nat×Nat×Nat×Nat×List Nat×List Nat:=(i,min i (m-1),min i (m-1),i-m,i-m,aE (fun k=>E.getD k 0) (min i (m-1)),aE (fun k=>E.getD (m+k) 0) (i-m))
theorem sF{D E:List Nat}{m i:Nat}(hm:1≤m)(hm5:m≤512)(h5:D.length≤512)(hE:E.length=D.length-1)(hi:i<D.length-1) :dG D E (m:Int) (s2 E m i)=some (.inl (s2 E m (i+1))):=by
  show cz (fY _ _ _ _ _ _ _ _ _ _).run _=_
  refine ax (a:=(s2 E m (i+1)).2) ?_ (ab rfl)
  unfold fY s2
  by_cases h:i<m-1
  · have e1:min i (m-1)=i:=by omega
    have e2:min (i+1) (m-1)=i+1:=by omega
    have e3:i-m=0:=by omega
    have e4:i+1-m=0:=by omega
    simp only [e1,e2,e3,e4]
    rw [fA (f:=fun k=>E.getD k 0)]
    simp only [aP]
    exact (ab (dH (ab (dH (ab (ab (ab (ab (bc (ab (ab (iu rfl))))))))))))
  · have e1:min i (m-1)=m-1:=by omega
    have e2:min (i+1) (m-1)=m-1:=by omega
    by_cases h1:i=m-1
    · have e3:i-m=0:=by omega
      have e4:i+1-m=0:=by omega
      simp only [e1,e2,e3,e4]
      exact (ab (dH (ab (iu (ab (iu rfl))))))
    · obtain ⟨k,hk⟩:∃ k,i=m+k:=⟨i-m,by omega⟩
      have e3:i-m=k:=by omega
      have e4:i+1-m=k+1:=by omega
      simp only [e1,e2,e3,e4]
      have pt:List.take k (aE (fun k=>E.getD (m+k) 0) k)++List.take 1 [E.getD i 0]=aE (fun k=>E.getD (m+k) 0) (k+1):=by
        rw [hk]
        exact fA (f:=fun k=>E.getD (m+k) 0)
      rw [pt]
      simp only [aP]
      exact (ab (dH (ab (iu (ab (dH (ab (ab (ab (ab (bc (ab rfl))))))))))))
theorem sG{D E:List Nat}(h2:2≤D.length)(h5:D.length≤512)(hE:E.length=D.length-1) :
    a7 D E=some (.r0 (E.getD (D.length/2-1) 0) (D.length/2) (D.length/2) (D.length/2-1) (D.length/2-1) (D.length-D.length/2) (D.length-D.length/2) (D.length-1-D.length/2) (D.length-1-D.length/2)
      (aE (lT D (E.getD (D.length/2-1) 0) (D.length/2)) (D.length/2)) (aE (fun i=>E.getD i 0) (D.length/2-1)) (aE (fun i=>lT D (E.getD (D.length/2-1) 0) (D.length/2) (D.length/2+i)) (D.length-D.length/2)) (aE (fun i=>E.getD (D.length/2+i) 0) (D.length-1-D.length/2))):=by
  have ed:Int.tdiv ((D.length:Nat):Int) (2:Int)=((D.length/2:Nat):Int):=rfl
  obtain ⟨m,hm⟩:∃ m,m=D.length/2:=⟨_,rfl⟩
  have hm1:1≤m:=by omega
  have hm2:m<D.length:=by omega
  have e1:((m:Nat):Int)-1=((m-1:Nat):Int):=by omega
  rw [←hm]
  rw [←hm] at ed
  have t20:(fV D E).run=some (.inl ((m:Int),E.getD (m-1) 0)):=by
    unfold fV
    simp only [ed,e1,f2]
    exact (bc (ab (ab (ab (ab rfl)))))
  generalize E.getD (m-1) 0=r at t20 ⊢
  have q1:s1 D r m D.length=(D.length,m,m,D.length-m,D.length-m,aE (lT D r m) m,aE (fun k=>lT D r m (m+k)) (D.length-m)):=by
    unfold s1
    rw [Nat.min_eq_right (by omega)]
  have q2:s2 E m (D.length-1)=(D.length-1,m-1,m-1,D.length-1-m,D.length-1-m,aE (fun k=>E.getD k 0) (m-1),aE (fun k=>E.getD (m+k) 0) (D.length-1-m)):=by
    unfold s2
    rw [Nat.min_eq_right (by omega)]
  refine bX (ax t20 (ax (a:=(s1 D r m D.length).2) (f1 (s1 D r m) D.length ?_ (fun i hi=>sE hm1 (by omega) h5 hi) ?_) (ax (a:=()) rfl (ax (a:=(s2 E m (D.length-1)).2) (f1 (s2 E m) (D.length-1) ?_ (fun i hi=>sF hm1 (by omega) h5 hE hi) ?_) ?_))))
  · unfold s1;rw [Nat.zero_min,Nat.zero_sub];rfl
  · refine c9 ?_
    unfold s1
    exact iu rfl
  · unfold s2;rw [Nat.zero_min,Nat.zero_sub];rfl
  · refine c9 ?_
    unfold s2
    exact ab (iu rfl)
  · rw [q1,q2];rfl
theorem u9{D E:List Nat}(hD:D.length≤1000000)(h:pa D E=false∨D.length<3) :aK D E=some (.r0 0 2 0 0 0 0 [] [] [] []):=by
  refine bX (ax (a:=true) ?_ (c9 (bY rfl)))
  unfold ei
  rw [aD,aD,oA hD]
  by_cases q:pa D E=false
  · rw [q];exact (aT (aT (bc (bY rfl))))
  · rw [Bool.not_eq_false] at q
    rw [q]
    refine (aT (aT (bc (bW ?_))))
    show some (Sum.inl (decide _))=_
    rw [decide_eq_true (by rcases h with z | z;rw [q] at z;cases z;omega)]
theorem tk{D E:List Nat}(hD:D.length≤1000000)(h:pa D E=true)(h3:3≤D.length) :(ei D E).run=some (.inl false):=by
  unfold ei
  rw [aD,aD,oA hD,h]
  refine (aT (aT (bc (bW ?_))))
  show some (Sum.inl (decide _))=_
  rw [decide_eq_false (by omega)]
theorem va{D E:List Nat}(wD:Wd D)(wE:Wd E)(hD:D.length≤1000000)(hE:E.length≤1000000)(h:pa D E=true)(h3:3≤D.length)(hf:(f5 D&&f5 E)=false) :aK D E=some (.r0 0 10 0 0 0 0 [] [] [] []):=by
  have w:=mv wD wE hD hE h
  rw [hf] at w
  refine bX (ax (tk hD h h3) (ax (a:=10) ?_ (c9 (bY rfl))))
  show (c8 _ _ _).run=_
  unfold c8
  rw [aD,aD,w]
  exact (bW (aT (aT (bc rfl))))
theorem vC{D E:List Nat}(wD:Wd D)(wE:Wd E)(hD:D.length≤1000000)(hE:E.length≤1000000)(h:pa D E=true)(h3:3≤D.length)(hf:(f5 D&&f5 E)=true) :
    aK D E=some (.r0 (E.getD (D.length/2-1) 0) 0 (D.length/2) (D.length/2-1) (D.length-D.length/2) (D.length-1-D.length/2)
      (aE (lT D (E.getD (D.length/2-1) 0) (D.length/2)) (D.length/2)) (aE (fun i=>E.getD i 0) (D.length/2-1)) (aE (fun i=>lT D (E.getD (D.length/2-1) 0) (D.length/2) (D.length/2+i)) (D.length-D.length/2)) (aE (fun i=>E.getD (D.length/2+i) 0) (D.length-1-D.length/2))):=by
  have w:=mv wD wE hD hE h
  rw [hf] at w
  obtain ⟨o1,o2⟩:=of_decide_eq_true h
  have t:=tX (by omega) o1 o2
  unfold wz at t
  refine bX (ax (tk hD h h3) (ax (a:=0) ?_ (ax (a:=(E.getD (D.length/2-1) 0,D.length/2,D.length/2-1,D.length-D.length/2,D.length-1-D.length/2,aE (lT D (E.getD (D.length/2-1) 0) (D.length/2)) (D.length/2),aE (fun i=>E.getD i 0) (D.length/2-1),aE (fun i=>lT D (E.getD (D.length/2-1) 0) (D.length/2) (D.length/2+i)) (D.length-D.length/2),aE (fun i=>E.getD (D.length/2+i) 0) (D.length-1-D.length/2))) ?_ rfl)))
  · show (c8 _ _ _).run=_
    unfold c8
    rw [aD,aD,w]
    exact (bW (aT (aT (bc rfl))))
  · show (gJ _ _ _).run=_
    unfold gJ
    rw [aD,aD,t]
    exact (bW (aT (aT (bc rfl))))
theorem tY{D E:List Nat}(wD:Wd D)(wE:Wd E) :dk D E=some (.r0 true):=by
  by_cases hfew:D.length≤30∧E.length≤30
  case neg =>
    refine bX (ax (a:=true) ?_ (c9 (bY rfl)))
    have few:dn D E 30=some (.r0 false):=by
      refine bX (ax (a:=false) ?_ rfl)
      by_cases q:D.length≤30
      · refine jy (by rw [decide_eq_true_eq];omega) ?_
        show some (Sum.inl (decide _))=_
        rw [decide_eq_false (by omega)]
      · exact h9 (by rw [decide_eq_false_iff_not];omega) rfl
    unfold bR
    rw [aD,aD,few]
    exact (aT (aT (bc rfl)))
  obtain ⟨hD,hE⟩:=hfew
  have few:dn D E 30=some (.r0 true):=by
    refine bX (ax (a:=true) (jy (by rw [decide_eq_true_eq];omega) ?_) rfl)
    show some (Sum.inl (decide _))=_
    rw [decide_eq_true (by omega)]
  have t10:(bR D E).run=some (.inl false):=by
    unfold bR
    rw [aD,aD,few]
    exact (aT (aT (bc rfl)))
  have t12:(cD D E D E).run=some (.inl false):=by
    unfold cD
    rw [aD,aD,cT (by omega),cT (by omega)]
    exact (aT (aT (bc (bW (aT (aT (bc rfl)))))))
  have t13:∀ b,(!(pa D E)||decide (D.length<3))=b→(cE D E false).run=some (.inl b):=by
    intro b hb
    unfold cE
    rw [aD,aD,tW (by omega)]
    rw [←hb]
    cases pa D E
    · exact (bW (aT (aT (bc (bY rfl)))))
    · refine (bW (aT (aT (bc (bW ?_)))))
      show some (Sum.inl (decide _))=some (Sum.inl (decide _))
      congr 2
      exact decide_eq_decide.2 (by omega)
  have fD:=py wD (by omega)
  have fE:=py wE (by omega)
  by_cases h:pa D E=false∨D.length<3
  · have ta:=u9 (by omega) h
    refine bX (ax t10 (ax (a:=(0,2,D,E,[],0,[],0,[],0,[],0)) ?_ (ax t12 (ax (t13 true ?_) (c9 ?_)))))
    · show (aX _ _ _).run=_
      unfold aX
      rw [aD,aD,ta,List.take_length,List.take_length]
      exact (bW (ab (ab (ab (ab (ab (ab (aT (aT (bc rfl))))))))))
    · rcases h with q | q
      · rw [q];rfl
      · rw [decide_eq_true q,Bool.or_true]
    · show (bh _ _ _ _ _ _).run=_
      exact (bY (bY (ab (bY rfl))))
  have h1:pa D E=true:=by
    cases q:pa D E
    · exact absurd (.inl q) h
    · rfl
  have h3:3≤D.length:=by
    rcases Nat.lt_or_ge D.length 3 with q | q
    · exact absurd (.inr q) h
    · exact q
  have t13':=t13 false (by rw [h1,decide_eq_false (by omega)];rfl)
  by_cases hf:(f5 D&&f5 E)=false
  · have ta:=va wD wE (by omega) (by omega) h1 h3 hf
    refine bX (ax t10 (ax (a:=(0,10,D,E,[],0,[],0,[],0,[],0)) ?_ (ax t12 (ax t13' (ax (a:=true) ?_ (c9 ?_))))))
    · show (aX _ _ _).run=_
      unfold aX
      rw [aD,aD,ta,List.take_length,List.take_length]
      exact (bW (ab (ab (ab (ab (ab (ab (aT (aT (bc rfl))))))))))
    · show (bh _ _ _ _ _ _).run=_
      unfold bh
      rw [aD,aD,fD,fE]
      revert hf
      cases f5 D
      · intro _;exact (bW (aT (bc (bW rfl))))
      · cases f5 E
        · intro _;exact (bW (aT (bc (bY (aT (bc rfl))))))
        · intro q;cases q
    · show (bS _ _ _ _ _ _).run=_
      exact (bY (bY (ab (bY rfl))))
  rw [Bool.not_eq_false] at hf
  obtain ⟨o1,o2⟩:=of_decide_eq_true h1
  have ta:=vC wD wE (by omega) (by omega) h1 h3 hf
  have tr:=sG (by omega) o1 o2
  have t14:∀ (e a b:Nat),(bh D E e a b false).run=some (.inl false):=by
    intro e a b
    unfold bh
    rw [aD,aD,fD,fE]
    rw [Bool.and_eq_true] at hf
    rw [hf.1,hf.2]
    exact (bW (aT (bc (bY (aT (bc rfl))))))
  generalize hr:E.getD (D.length/2-1) 0=r at ta tr
  have l1:∀ {f:Nat→Nat} {n:Nat},(aE f n).length=n:=aP
  generalize hA:aE (lT D r (D.length/2)) (D.length/2)=A at ta tr
  generalize hB:aE (fun i=>E.getD i 0) (D.length/2-1)=B at ta tr
  generalize hC:aE (fun i=>lT D r (D.length/2) (D.length/2+i)) (D.length-D.length/2)=C at ta tr
  generalize hG:aE (fun i=>E.getD (D.length/2+i) 0) (D.length-1-D.length/2)=G at ta tr
  have lA:A.length=D.length/2:=by rw [←hA];exact l1
  have lB:B.length=D.length/2-1:=by rw [←hB];exact l1
  have lC:C.length=D.length-D.length/2:=by rw [←hC];exact l1
  have lG:G.length=D.length-1-D.length/2:=by rw [←hG];exact l1
  refine bX (ax t10 (ax (a:=(r,0,D,E,A,D.length/2,B,D.length/2-1,C,D.length-D.length/2,G,D.length-1-D.length/2)) ?_ (ax t12 (ax t13' (ax (t14 _ _ _) (ax (a:=(r,A,D.length/2,B,D.length/2-1,C,D.length-D.length/2,G,D.length-1-D.length/2)) ?_ (ax (a:=true) ?_ (ax (a:=true) ?_ rfl))))))))
  · show (aX _ _ _).run=_
    unfold aX
    rw [aD,aD,ta,List.take_length,List.take_length]
    exact (bW (ab (ab (ab (ab (ab (ab (aT (aT (bc rfl))))))))))
  · show (bS _ _ _ _ _ _).run=_
    unfold bS
    rw [aD,aD,tr]
    exact (bW (aT (aT (bc rfl))))
  · show (cF _ _ _ _ _ _ _ _ _ _ _ _ _ _ _ _).run=_
    unfold cF
    rw [mX lA,mX lB,mX lC,mX lG,cT (by omega),cT (by omega),cT (by omega),cT (by omega)]
    exact (ow (gv lA) (ow (gv lA) (bc (bY (ow (gv lB) (ow (gv lB) (bc (bY (ow (gv lC) (ow (gv lC) (bc (bY (ow (gv lG) (ow (gv lG) (bc rfl)))))))))))))))
  · show (cG _ _ _ _).run=_
    unfold cG
    rw [nR]
    exact (bY (bY (bY rfl)))
end Go.Plb.Seat
