/-
  Part 5 of what the claim leans on: an evaluator of the model, proved sound; the contracts of the functions.
-/
import Derived.Test.YthikcnkmglbbbaaGreatDoorA4
namespace Go.Plb.Seat
open Go Go.Plb
set_option linter.unusedVariables false
set_option maxRecDepth 100000
noncomputable section
inductive bp where
  | r0 (a:Bool) (b:List Int) (c:Nat) (d:Int)
def lB:bp→AE×aQ
  | .r0 a b c d=>(.ret,⟨ao 84 [(8,.ptr 0 1 0 0)],[(0,.vs [.bool false a,.imm .free (.ns .u64 b) 1 1 0 c,.int .i64 d])],1⟩)
theorem bQ:jC lB:=by intro x;cases x <;> (intro h;cases h)
theorem mT(id:Nat) :m5 id lB:=by intro x;cases x <;> (intro h;cases h)
def wu:bp→gX
  | .r0 a b c d=>⟨.agg [.bool false a,.imm .free (.ns .u64 b) 1 1 0 c,.int .i64 d],[]⟩
def M4:List Code:=cP (nO p6)
def Qf(e:Int)(f:Int)(g:Lv)(a:List Nat)(h:Int)(i:Int)(j:Lv)(b:List Nat)(k:Int)(l:Int)(m:Lv)(c:List Nat)(n:Lv)(d:List Nat) :Bool×Bool×(List Int)×Nat×Int→aQ:=fun (o,p,q,r,s)=>⟨ao 84 [(3,.imm n (.fl d) 1 1 0 (List.length d)),(4,.ptr 0 1 0 0),(5,.ptr 1 1 0 0),(6,.ptr 2 1 0 0),(8,.ptr 3 1 0 0),(9,.ptr 4 1 0 0)],[(0,.vs [.int .i64 e,.int .i64 f,.imm g (.fl a) 1 1 0 (List.length a)]),(1,.vs [.int .i64 h,.int .i64 i,.imm j (.fl b) 1 1 0 (List.length b)]),(2,.vs [.int .i64 k,.int .i64 l,.imm m (.fl c) 1 1 0 (List.length c)]),(3,.vs [.bool false o,.nsl,.int .i64 (0:Int)]),(4,.vs [.bool false p,.imm .free (.ns .u64 q) 1 1 0 r,.int .i64 s])],5⟩
def Ba:T ((Bool×Bool×(List Int)×Nat×Int)⊕(bp)) :=
  .need (ew (aD (0:Int)))<|.leaf (.inl (false,(cu (aD (0:Int))),(ca (aD (0:Int))),(cd (aD (0:Int))),(cv (aD (0:Int)))))
def Qg(e:Int)(f:Int)(g:Lv)(a:List Nat)(h:Int)(i:Int)(j:Lv)(b:List Nat)(k:Int)(l:Int)(m:Lv)(c:List Nat)(n:Lv)(d:List Nat)(o:Bool)(p:Bool)(q:List Int)(r:Nat)(s:Int)(_:Unit) :aQ:=⟨ao 84 [(3,.imm n (.fl d) 1 1 0 (List.length d)),(4,.ptr 0 1 0 0),(5,.ptr 1 1 0 0),(6,.ptr 2 1 0 0),(8,.ptr 3 1 0 0),(9,.ptr 4 1 0 0),(10,.int .i64 (0:Int))],[(0,.vs [.int .i64 e,.int .i64 f,.imm g (.fl a) 1 1 0 (List.length a)]),(1,.vs [.int .i64 h,.int .i64 i,.imm j (.fl b) 1 1 0 (List.length b)]),(2,.vs [.int .i64 k,.int .i64 l,.imm m (.fl c) 1 1 0 (List.length c)]),(3,.vs [.bool false o,.nsl,.int .i64 (0:Int)]),(4,.vs [.bool false p,.imm .free (.ns .u64 q) 1 1 0 r,.int .i64 s])],5⟩
def M5:T ((Unit)⊕(bp)) :=
  .leaf (.inl ())
def s8(e:Int)(f:Int)(g:Lv)(a:List Nat)(h:Int)(i:Int)(j:Lv)(b:List Nat)(k:Int)(l:Int)(m:Lv)(c:List Nat)(n:Lv)(d:List Nat)(o:Bool) :Nat×Bool×(List Int)×Nat×Int→aQ:=fun (p,q,r,s,t)=>⟨ao 84 [(3,.imm n (.fl d) 1 1 0 (List.length d)),(4,.ptr 0 1 0 0),(5,.ptr 1 1 0 0),(6,.ptr 2 1 0 0),(8,.ptr 3 1 0 0),(9,.ptr 4 1 0 0),(10,.int .i64 ((p:Nat):Int))],[(0,.vs [.int .i64 e,.int .i64 f,.imm g (.fl a) 1 1 0 (List.length a)]),(1,.vs [.int .i64 h,.int .i64 i,.imm j (.fl b) 1 1 0 (List.length b)]),(2,.vs [.int .i64 k,.int .i64 l,.imm m (.fl c) 1 1 0 (List.length c)]),(3,.vs [.bool false o,.nsl,.int .i64 (0:Int)]),(4,.vs [.bool false q,.imm .free (.ns .u64 r) 1 1 0 s,.int .i64 t])],5⟩
def om(a:Bool) :Bool×(List Int)×Nat×Int→aQ:=fun (b,c,d,e)=>⟨ao 84 [(8,.ptr 0 1 0 0),(9,.ptr 1 1 0 0)],[(0,.vs [.bool false a,.nsl,.int .i64 (0:Int)]),(1,.vs [.bool false b,.imm .free (.ns .u64 c) 1 1 0 d,.int .i64 e])],2⟩
def Bb:List Code:=cP (dD (((((M4.drop 2).drop 1).take 1)).headD .skip))
def M6(e:Int)(f:Int)(g:Lv)(a:List Nat)(h:Int)(i:Int)(j:Lv)(b:List Nat)(k:Int)(l:Int)(m:Lv)(c:List Nat)(n:Lv)(d:List Nat)(o:Bool)(p:Nat)(q:Bool)(r:List Int)(s:Nat)(t:Int)(_:Unit) :aQ:=⟨ao 84 [(3,.imm n (.fl d) 1 1 0 (List.length d)),(4,.ptr 0 1 0 0),(5,.ptr 1 1 0 0),(6,.ptr 2 1 0 0),(8,.ptr 3 1 0 0),(9,.ptr 4 1 0 0),(10,.int .i64 ((p:Nat):Int))],[(0,.vs [.int .i64 e,.int .i64 f,.imm g (.fl a) 1 1 0 (List.length a)]),(1,.vs [.int .i64 h,.int .i64 i,.imm j (.fl b) 1 1 0 (List.length b)]),(2,.vs [.int .i64 k,.int .i64 l,.imm m (.fl c) 1 1 0 (List.length c)]),(3,.vs [.bool false o,.nsl,.int .i64 (0:Int)]),(4,.vs [.bool false q,.imm .free (.ns .u64 r) 1 1 0 s,.int .i64 t])],5⟩
def s9(a:Int)(b:Nat)(c:Bool)(d:List Int)(e:Nat)(f:Int) :T ((Unit)⊕((Bool×(List Int)×Nat×Int)⊕(bp))) :=
  .ask (decide (((b:Nat):Int) < a))
    (.leaf (.inl ()))
    (.leaf (.inr (.inl (c,d,e,f))))
def ta(e:Int)(f:Int)(g:Lv)(a:List Nat)(h:Int)(i:Int)(j:Lv)(b:List Nat)(k:Int)(l:Int)(m:Lv)(c:List Nat)(n:Lv)(d:List Nat)(o:Bool)(p:Nat) :Bool×(List Int)×Nat×Int→aQ:=fun (q,r,s,t)=>⟨ao 84 [(3,.imm n (.fl d) 1 1 0 (List.length d)),(4,.ptr 0 1 0 0),(5,.ptr 1 1 0 0),(6,.ptr 2 1 0 0),(8,.ptr 3 1 0 0),(9,.ptr 4 1 0 0),(10,.int .i64 ((p:Nat):Int))],[(0,.vs [.int .i64 e,.int .i64 f,.imm g (.fl a) 1 1 0 (List.length a)]),(1,.vs [.int .i64 h,.int .i64 i,.imm j (.fl b) 1 1 0 (List.length b)]),(2,.vs [.int .i64 k,.int .i64 l,.imm m (.fl c) 1 1 0 (List.length c)]),(3,.vs [.bool false o,.nsl,.int .i64 (0:Int)]),(4,.vs [.bool false q,.imm .free (.ns .u64 r) 1 1 0 s,.int .i64 t])],5⟩
def M7:List Code:=cP (inBlock ((((Bb.drop 2).take 1)).headD .skip))
def M8(e:Int)(f:Int)(g:Lv)(a:List Nat)(h:Int)(i:Int)(j:Lv)(b:List Nat)(k:Int)(l:Int)(m:Lv)(c:List Nat)(n:Lv)(d:List Nat)(o:Bool)(p:Nat)(q:Bool)(r:List Int)(s:Nat)(t:Int)(_:Unit) :aQ:=⟨ao 84 [(3,.imm n (.fl d) 1 1 0 (List.length d)),(4,.ptr 0 1 0 0),(5,.ptr 1 1 0 0),(6,.ptr 2 1 0 0),(8,.ptr 3 1 0 0),(9,.ptr 4 1 0 0),(10,.int .i64 ((p:Nat):Int)),(11,.int .i64 (0:Int))],[(0,.vs [.int .i64 e,.int .i64 f,.imm g (.fl a) 1 1 0 (List.length a)]),(1,.vs [.int .i64 h,.int .i64 i,.imm j (.fl b) 1 1 0 (List.length b)]),(2,.vs [.int .i64 k,.int .i64 l,.imm m (.fl c) 1 1 0 (List.length c)]),(3,.vs [.bool false o,.nsl,.int .i64 (0:Int)]),(4,.vs [.bool false q,.imm .free (.ns .u64 r) 1 1 0 s,.int .i64 t])],5⟩
def M9:T ((Unit)⊕((Bool×(List Int)×Nat×Int)⊕((Bool×(List Int)×Nat×Int)⊕(bp)))) :=
  .leaf (.inl ())
def tc(e:Int)(f:Int)(g:Lv)(a:List Nat)(h:Int)(i:Int)(j:Lv)(b:List Nat)(k:Int)(l:Int)(m:Lv)(c:List Nat)(n:Lv)(d:List Nat)(o:Bool)(p:Nat) :Nat×Bool×(List Int)×Nat×Int→aQ:=fun (q,r,s,t,u)=>⟨ao 84 [(3,.imm n (.fl d) 1 1 0 (List.length d)),(4,.ptr 0 1 0 0),(5,.ptr 1 1 0 0),(6,.ptr 2 1 0 0),(8,.ptr 3 1 0 0),(9,.ptr 4 1 0 0),(10,.int .i64 ((p:Nat):Int)),(11,.int .i64 ((q:Nat):Int))],[(0,.vs [.int .i64 e,.int .i64 f,.imm g (.fl a) 1 1 0 (List.length a)]),(1,.vs [.int .i64 h,.int .i64 i,.imm j (.fl b) 1 1 0 (List.length b)]),(2,.vs [.int .i64 k,.int .i64 l,.imm m (.fl c) 1 1 0 (List.length c)]),(3,.vs [.bool false o,.nsl,.int .i64 (0:Int)]),(4,.vs [.bool false r,.imm .free (.ns .u64 s) 1 1 0 t,.int .i64 u])],5⟩
def td(e:Int)(f:Int)(g:Lv)(a:List Nat)(h:Int)(i:Int)(j:Lv)(b:List Nat)(k:Int)(l:Int)(m:Lv)(c:List Nat)(n:Lv)(d:List Nat)(o:Bool)(p:Nat) :Bool×(List Int)×Nat×Int→aQ:=fun (q,r,s,t)=>⟨ao 84 [(3,.imm n (.fl d) 1 1 0 (List.length d)),(4,.ptr 0 1 0 0),(5,.ptr 1 1 0 0),(6,.ptr 2 1 0 0),(8,.ptr 3 1 0 0),(9,.ptr 4 1 0 0),(10,.int .i64 ((p:Nat):Int))],[(0,.vs [.int .i64 e,.int .i64 f,.imm g (.fl a) 1 1 0 (List.length a)]),(1,.vs [.int .i64 h,.int .i64 i,.imm j (.fl b) 1 1 0 (List.length b)]),(2,.vs [.int .i64 k,.int .i64 l,.imm m (.fl c) 1 1 0 (List.length c)]),(3,.vs [.bool false o,.nsl,.int .i64 (0:Int)]),(4,.vs [.bool false q,.imm .free (.ns .u64 r) 1 1 0 s,.int .i64 t])],5⟩
def Bc:List Code:=cP (dD ((((M7.drop 1).take 1)).headD .skip))
def Na(e:Int)(f:Int)(g:Lv)(a:List Nat)(h:Int)(i:Int)(j:Lv)(b:List Nat)(k:Int)(l:Int)(m:Lv)(c:List Nat)(n:Lv)(d:List Nat)(o:Bool)(p:Nat)(q:Nat)(r:Bool)(s:List Int)(t:Nat)(u:Int)(_:Unit) :aQ:=⟨ao 84 [(3,.imm n (.fl d) 1 1 0 (List.length d)),(4,.ptr 0 1 0 0),(5,.ptr 1 1 0 0),(6,.ptr 2 1 0 0),(8,.ptr 3 1 0 0),(9,.ptr 4 1 0 0),(10,.int .i64 ((p:Nat):Int)),(11,.int .i64 ((q:Nat):Int))],[(0,.vs [.int .i64 e,.int .i64 f,.imm g (.fl a) 1 1 0 (List.length a)]),(1,.vs [.int .i64 h,.int .i64 i,.imm j (.fl b) 1 1 0 (List.length b)]),(2,.vs [.int .i64 k,.int .i64 l,.imm m (.fl c) 1 1 0 (List.length c)]),(3,.vs [.bool false o,.nsl,.int .i64 (0:Int)]),(4,.vs [.bool false r,.imm .free (.ns .u64 s) 1 1 0 t,.int .i64 u])],5⟩
def te(a:Int)(b:Nat)(c:Bool)(d:List Int)(e:Nat)(f:Int) :T ((Unit)⊕((Bool×(List Int)×Nat×Int)⊕((Bool×(List Int)×Nat×Int)⊕((Bool×(List Int)×Nat×Int)⊕(bp))))) :=
  .ask (decide (((b:Nat):Int) < a))
    (.leaf (.inl ()))
    (.leaf (.inr (.inl (c,d,e,f))))
def Bd(e:Int)(f:Int)(g:Lv)(a:List Nat)(h:Int)(i:Int)(j:Lv)(b:List Nat)(k:Int)(l:Int)(m:Lv)(c:List Nat)(n:Lv)(d:List Nat)(o:Bool)(p:Nat)(q:Nat) :Bool×(List Int)×Nat×Int→aQ:=fun (r,s,t,u)=>⟨ao 84 [(3,.imm n (.fl d) 1 1 0 (List.length d)),(4,.ptr 0 1 0 0),(5,.ptr 1 1 0 0),(6,.ptr 2 1 0 0),(8,.ptr 3 1 0 0),(9,.ptr 4 1 0 0),(10,.int .i64 ((p:Nat):Int)),(11,.int .i64 ((q:Nat):Int))],[(0,.vs [.int .i64 e,.int .i64 f,.imm g (.fl a) 1 1 0 (List.length a)]),(1,.vs [.int .i64 h,.int .i64 i,.imm j (.fl b) 1 1 0 (List.length b)]),(2,.vs [.int .i64 k,.int .i64 l,.imm m (.fl c) 1 1 0 (List.length c)]),(3,.vs [.bool false o,.nsl,.int .i64 (0:Int)]),(4,.vs [.bool false r,.imm .free (.ns .u64 s) 1 1 0 t,.int .i64 u])],5⟩
def Nb:List Code:=cP (inBlock ((((Bc.drop 2).take 1)).headD .skip))
def Nc(e:Int)(f:Int)(g:Lv)(a:List Nat)(h:Int)(i:Int)(j:Lv)(b:List Nat)(k:Int)(l:Int)(m:Lv)(c:List Nat)(n:Lv)(d:List Nat)(o:Bool)(p:Nat)(q:Nat)(r:Bool)(s:List Int)(t:Nat)(u:Int) :Bool×(List Int)×Nat×Int→aQ:=fun (v,w,x,y)=>⟨ao 84 [(3,.imm n (.fl d) 1 1 0 (List.length d)),(4,.ptr 0 1 0 0),(5,.ptr 1 1 0 0),(6,.ptr 2 1 0 0),(8,.ptr 3 1 0 0),(9,.ptr 4 1 0 0),(10,.int .i64 ((p:Nat):Int)),(11,.int .i64 ((q:Nat):Int)),(12,.ptr 5 1 0 0)],[(0,.vs [.int .i64 e,.int .i64 f,.imm g (.fl a) 1 1 0 (List.length a)]),(1,.vs [.int .i64 h,.int .i64 i,.imm j (.fl b) 1 1 0 (List.length b)]),(2,.vs [.int .i64 k,.int .i64 l,.imm m (.fl c) 1 1 0 (List.length c)]),(3,.vs [.bool false o,.nsl,.int .i64 (0:Int)]),(4,.vs [.bool false r,.imm .free (.ns .u64 s) 1 1 0 t,.int .i64 u]),(5,.vs [.bool false v,.imm .free (.ns .u64 w) 1 1 0 x,.int .i64 y])],6⟩
def Be:T ((Bool×(List Int)×Nat×Int)⊕((Bool×(List Int)×Nat×Int)⊕((Bool×(List Int)×Nat×Int)⊕((Bool×(List Int)×Nat×Int)⊕((Bool×(List Int)×Nat×Int)⊕(bp)))))) :=
  .need (ew (aD (0:Int)))<|.leaf (.inl ((cu (aD (0:Int))),(ca (aD (0:Int))),(cd (aD (0:Int))),(cv (aD (0:Int)))))
def Nd(e:Int)(f:Int)(g:Lv)(a:List Nat)(h:Int)(i:Int)(j:Lv)(b:List Nat)(k:Int)(l:Int)(m:Lv)(c:List Nat)(n:Lv)(d:List Nat)(o:Bool)(p:Nat)(q:Nat)(r:Bool)(s:List Int)(t:Nat)(u:Int)(v:Bool)(w:List Int)(x:Nat)(y:Int)(_:Unit) :aQ:=⟨ao 84 [(3,.imm n (.fl d) 1 1 0 (List.length d)),(4,.ptr 0 1 0 0),(5,.ptr 1 1 0 0),(6,.ptr 2 1 0 0),(8,.ptr 3 1 0 0),(9,.ptr 4 1 0 0),(10,.int .i64 ((p:Nat):Int)),(11,.int .i64 ((q:Nat):Int)),(12,.ptr 5 1 0 0),(13,.int .i64 (0:Int))],[(0,.vs [.int .i64 e,.int .i64 f,.imm g (.fl a) 1 1 0 (List.length a)]),(1,.vs [.int .i64 h,.int .i64 i,.imm j (.fl b) 1 1 0 (List.length b)]),(2,.vs [.int .i64 k,.int .i64 l,.imm m (.fl c) 1 1 0 (List.length c)]),(3,.vs [.bool false o,.nsl,.int .i64 (0:Int)]),(4,.vs [.bool false r,.imm .free (.ns .u64 s) 1 1 0 t,.int .i64 u]),(5,.vs [.bool false v,.imm .free (.ns .u64 w) 1 1 0 x,.int .i64 y])],6⟩
def Ne:T ((Unit)⊕((Bool×(List Int)×Nat×Int)⊕((Bool×(List Int)×Nat×Int)⊕((Bool×(List Int)×Nat×Int)⊕((Bool×(List Int)×Nat×Int)⊕(bp)))))) :=
  .leaf (.inl ())
def tf(e:Int)(f:Int)(g:Lv)(a:List Nat)(h:Int)(i:Int)(j:Lv)(b:List Nat)(k:Int)(l:Int)(m:Lv)(c:List Nat)(n:Lv)(d:List Nat)(o:Bool)(p:Nat)(q:Nat)(r:Bool)(s:List Int)(t:Nat)(u:Int) :Nat×Bool×(List Int)×Nat×Int→aQ:=fun (v,w,x,y,z)=>⟨ao 84 [(3,.imm n (.fl d) 1 1 0 (List.length d)),(4,.ptr 0 1 0 0),(5,.ptr 1 1 0 0),(6,.ptr 2 1 0 0),(8,.ptr 3 1 0 0),(9,.ptr 4 1 0 0),(10,.int .i64 ((p:Nat):Int)),(11,.int .i64 ((q:Nat):Int)),(12,.ptr 5 1 0 0),(13,.int .i64 ((v:Nat):Int))],[(0,.vs [.int .i64 e,.int .i64 f,.imm g (.fl a) 1 1 0 (List.length a)]),(1,.vs [.int .i64 h,.int .i64 i,.imm j (.fl b) 1 1 0 (List.length b)]),(2,.vs [.int .i64 k,.int .i64 l,.imm m (.fl c) 1 1 0 (List.length c)]),(3,.vs [.bool false o,.nsl,.int .i64 (0:Int)]),(4,.vs [.bool false r,.imm .free (.ns .u64 s) 1 1 0 t,.int .i64 u]),(5,.vs [.bool false w,.imm .free (.ns .u64 x) 1 1 0 y,.int .i64 z])],6⟩
def Bf(e:Int)(f:Int)(g:Lv)(a:List Nat)(h:Int)(i:Int)(j:Lv)(b:List Nat)(k:Int)(l:Int)(m:Lv)(c:List Nat)(n:Lv)(d:List Nat)(o:Bool)(p:Nat)(q:Nat)(r:Bool)(s:List Int)(t:Nat)(u:Int) :Bool×(List Int)×Nat×Int→aQ:=fun (v,w,x,y)=>⟨ao 84 [(3,.imm n (.fl d) 1 1 0 (List.length d)),(4,.ptr 0 1 0 0),(5,.ptr 1 1 0 0),(6,.ptr 2 1 0 0),(8,.ptr 3 1 0 0),(9,.ptr 4 1 0 0),(10,.int .i64 ((p:Nat):Int)),(11,.int .i64 ((q:Nat):Int)),(12,.ptr 5 1 0 0)],[(0,.vs [.int .i64 e,.int .i64 f,.imm g (.fl a) 1 1 0 (List.length a)]),(1,.vs [.int .i64 h,.int .i64 i,.imm j (.fl b) 1 1 0 (List.length b)]),(2,.vs [.int .i64 k,.int .i64 l,.imm m (.fl c) 1 1 0 (List.length c)]),(3,.vs [.bool false o,.nsl,.int .i64 (0:Int)]),(4,.vs [.bool false r,.imm .free (.ns .u64 s) 1 1 0 t,.int .i64 u]),(5,.vs [.bool false v,.imm .free (.ns .u64 w) 1 1 0 x,.int .i64 y])],6⟩
def Nf:List Code:=cP (dD (((((Nb.drop 1).drop 1).take 1)).headD .skip))
def Ng(e:Int)(f:Int)(g:Lv)(a:List Nat)(h:Int)(i:Int)(j:Lv)(b:List Nat)(k:Int)(l:Int)(m:Lv)(c:List Nat)(n:Lv)(d:List Nat)(o:Bool)(p:Nat)(q:Nat)(r:Bool)(s:List Int)(t:Nat)(u:Int)(v:Nat) :Bool×(List Int)×Nat×Int→aQ:=fun (w,x,y,z)=>⟨ao 84 [(3,.imm n (.fl d) 1 1 0 (List.length d)),(4,.ptr 0 1 0 0),(5,.ptr 1 1 0 0),(6,.ptr 2 1 0 0),(8,.ptr 3 1 0 0),(9,.ptr 4 1 0 0),(10,.int .i64 ((p:Nat):Int)),(11,.int .i64 ((q:Nat):Int)),(12,.ptr 5 1 0 0),(13,.int .i64 ((v:Nat):Int))],[(0,.vs [.int .i64 e,.int .i64 f,.imm g (.fl a) 1 1 0 (List.length a)]),(1,.vs [.int .i64 h,.int .i64 i,.imm j (.fl b) 1 1 0 (List.length b)]),(2,.vs [.int .i64 k,.int .i64 l,.imm m (.fl c) 1 1 0 (List.length c)]),(3,.vs [.bool false o,.nsl,.int .i64 (0:Int)]),(4,.vs [.bool false r,.imm .free (.ns .u64 s) 1 1 0 t,.int .i64 u]),(5,.vs [.bool false w,.imm .free (.ns .u64 x) 1 1 0 y,.int .i64 z])],6⟩
def oo(b:Int)(f:List Nat)(c:Int)(g:List Nat)(d:Nat)(e:Nat)(a:Nat)(j:Bool)(h:List Int)(i:Nat)(k:Int) :T ((Bool×(List Int)×Nat×Int)⊕((Bool×(List Int)×Nat×Int)⊕((Bool×(List Int)×Nat×Int)⊕((Bool×(List Int)×Nat×Int)⊕((Bool×(List Int)×Nat×Int)⊕((Bool×(List Int)×Nat×Int)⊕(bp))))))) :=
  .ask (decide (((a:Nat):Int) < b))
    (.need (dn .i64 (((d:Nat):Int) * b))<|.need (dn .i64 ((((d:Nat):Int) * b)+((a:Nat):Int)))<|.need (gD ((((d:Nat):Int) * b)+((a:Nat):Int)) (List.length f))<|.need (im (Int.toNat ((((d:Nat):Int) * b)+((a:Nat):Int))) (List.length f))<|.need (dO (aa (List.getD f (Int.toNat ((((d:Nat):Int) * b)+((a:Nat):Int))) 0)))<|.need (dn .i64 (((a:Nat):Int) * c))<|.need (dn .i64 ((((a:Nat):Int) * c)+((e:Nat):Int)))<|.need (gD ((((a:Nat):Int) * c)+((e:Nat):Int)) (List.length g))<|.need (im (Int.toNat ((((a:Nat):Int) * c)+((e:Nat):Int))) (List.length g))<|.need (dO (aa (List.getD g (Int.toNat ((((a:Nat):Int) * c)+((e:Nat):Int))) 0)))<|.need (aP 0 (ae (aa (List.getD f (Int.toNat ((((d:Nat):Int) * b)+((a:Nat):Int))) 0))) (ac (aa (List.getD f (Int.toNat ((((d:Nat):Int) * b)+((a:Nat):Int))) 0))))<|.need (aP 0 (ae (aa (List.getD g (Int.toNat ((((a:Nat):Int) * c)+((e:Nat):Int))) 0))) (ac (aa (List.getD g (Int.toNat ((((a:Nat):Int) * c)+((e:Nat):Int))) 0))))<|.need (cD (ai (ag (aa (List.getD f (Int.toNat ((((d:Nat):Int) * b)+((a:Nat):Int))) 0))) (ab 0 (ae (aa (List.getD f (Int.toNat ((((d:Nat):Int) * b)+((a:Nat):Int))) 0))) (ac (aa (List.getD f (Int.toNat ((((d:Nat):Int) * b)+((a:Nat):Int))) 0)))) (ah (aa (List.getD f (Int.toNat ((((d:Nat):Int) * b)+((a:Nat):Int))) 0))) (ag (aa (List.getD g (Int.toNat ((((a:Nat):Int) * c)+((e:Nat):Int))) 0))) (ab 0 (ae (aa (List.getD g (Int.toNat ((((a:Nat):Int) * c)+((e:Nat):Int))) 0))) (ac (aa (List.getD g (Int.toNat ((((a:Nat):Int) * c)+((e:Nat):Int))) 0)))) (ah (aa (List.getD g (Int.toNat ((((a:Nat):Int) * c)+((e:Nat):Int))) 0)))))<|.need (aP 0 i h)<|.need (aP 0 (aG (ai (ag (aa (List.getD f (Int.toNat ((((d:Nat):Int) * b)+((a:Nat):Int))) 0))) (ab 0 (ae (aa (List.getD f (Int.toNat ((((d:Nat):Int) * b)+((a:Nat):Int))) 0))) (ac (aa (List.getD f (Int.toNat ((((d:Nat):Int) * b)+((a:Nat):Int))) 0)))) (ah (aa (List.getD f (Int.toNat ((((d:Nat):Int) * b)+((a:Nat):Int))) 0))) (ag (aa (List.getD g (Int.toNat ((((a:Nat):Int) * c)+((e:Nat):Int))) 0))) (ab 0 (ae (aa (List.getD g (Int.toNat ((((a:Nat):Int) * c)+((e:Nat):Int))) 0))) (ac (aa (List.getD g (Int.toNat ((((a:Nat):Int) * c)+((e:Nat):Int))) 0)))) (ah (aa (List.getD g (Int.toNat ((((a:Nat):Int) * c)+((e:Nat):Int))) 0))))) (aF (ai (ag (aa (List.getD f (Int.toNat ((((d:Nat):Int) * b)+((a:Nat):Int))) 0))) (ab 0 (ae (aa (List.getD f (Int.toNat ((((d:Nat):Int) * b)+((a:Nat):Int))) 0))) (ac (aa (List.getD f (Int.toNat ((((d:Nat):Int) * b)+((a:Nat):Int))) 0)))) (ah (aa (List.getD f (Int.toNat ((((d:Nat):Int) * b)+((a:Nat):Int))) 0))) (ag (aa (List.getD g (Int.toNat ((((a:Nat):Int) * c)+((e:Nat):Int))) 0))) (ab 0 (ae (aa (List.getD g (Int.toNat ((((a:Nat):Int) * c)+((e:Nat):Int))) 0))) (ac (aa (List.getD g (Int.toNat ((((a:Nat):Int) * c)+((e:Nat):Int))) 0)))) (ah (aa (List.getD g (Int.toNat ((((a:Nat):Int) * c)+((e:Nat):Int))) 0))))))<|.need (mR (bM j (ab 0 i h) k (aN (ai (ag (aa (List.getD f (Int.toNat ((((d:Nat):Int) * b)+((a:Nat):Int))) 0))) (ab 0 (ae (aa (List.getD f (Int.toNat ((((d:Nat):Int) * b)+((a:Nat):Int))) 0))) (ac (aa (List.getD f (Int.toNat ((((d:Nat):Int) * b)+((a:Nat):Int))) 0)))) (ah (aa (List.getD f (Int.toNat ((((d:Nat):Int) * b)+((a:Nat):Int))) 0))) (ag (aa (List.getD g (Int.toNat ((((a:Nat):Int) * c)+((e:Nat):Int))) 0))) (ab 0 (ae (aa (List.getD g (Int.toNat ((((a:Nat):Int) * c)+((e:Nat):Int))) 0))) (ac (aa (List.getD g (Int.toNat ((((a:Nat):Int) * c)+((e:Nat):Int))) 0)))) (ah (aa (List.getD g (Int.toNat ((((a:Nat):Int) * c)+((e:Nat):Int))) 0))))) (ab 0 (aG (ai (ag (aa (List.getD f (Int.toNat ((((d:Nat):Int) * b)+((a:Nat):Int))) 0))) (ab 0 (ae (aa (List.getD f (Int.toNat ((((d:Nat):Int) * b)+((a:Nat):Int))) 0))) (ac (aa (List.getD f (Int.toNat ((((d:Nat):Int) * b)+((a:Nat):Int))) 0)))) (ah (aa (List.getD f (Int.toNat ((((d:Nat):Int) * b)+((a:Nat):Int))) 0))) (ag (aa (List.getD g (Int.toNat ((((a:Nat):Int) * c)+((e:Nat):Int))) 0))) (ab 0 (ae (aa (List.getD g (Int.toNat ((((a:Nat):Int) * c)+((e:Nat):Int))) 0))) (ac (aa (List.getD g (Int.toNat ((((a:Nat):Int) * c)+((e:Nat):Int))) 0)))) (ah (aa (List.getD g (Int.toNat ((((a:Nat):Int) * c)+((e:Nat):Int))) 0))))) (aF (ai (ag (aa (List.getD f (Int.toNat ((((d:Nat):Int) * b)+((a:Nat):Int))) 0))) (ab 0 (ae (aa (List.getD f (Int.toNat ((((d:Nat):Int) * b)+((a:Nat):Int))) 0))) (ac (aa (List.getD f (Int.toNat ((((d:Nat):Int) * b)+((a:Nat):Int))) 0)))) (ah (aa (List.getD f (Int.toNat ((((d:Nat):Int) * b)+((a:Nat):Int))) 0))) (ag (aa (List.getD g (Int.toNat ((((a:Nat):Int) * c)+((e:Nat):Int))) 0))) (ab 0 (ae (aa (List.getD g (Int.toNat ((((a:Nat):Int) * c)+((e:Nat):Int))) 0))) (ac (aa (List.getD g (Int.toNat ((((a:Nat):Int) * c)+((e:Nat):Int))) 0)))) (ah (aa (List.getD g (Int.toNat ((((a:Nat):Int) * c)+((e:Nat):Int))) 0)))))) (aO (ai (ag (aa (List.getD f (Int.toNat ((((d:Nat):Int) * b)+((a:Nat):Int))) 0))) (ab 0 (ae (aa (List.getD f (Int.toNat ((((d:Nat):Int) * b)+((a:Nat):Int))) 0))) (ac (aa (List.getD f (Int.toNat ((((d:Nat):Int) * b)+((a:Nat):Int))) 0)))) (ah (aa (List.getD f (Int.toNat ((((d:Nat):Int) * b)+((a:Nat):Int))) 0))) (ag (aa (List.getD g (Int.toNat ((((a:Nat):Int) * c)+((e:Nat):Int))) 0))) (ab 0 (ae (aa (List.getD g (Int.toNat ((((a:Nat):Int) * c)+((e:Nat):Int))) 0))) (ac (aa (List.getD g (Int.toNat ((((a:Nat):Int) * c)+((e:Nat):Int))) 0)))) (ah (aa (List.getD g (Int.toNat ((((a:Nat):Int) * c)+((e:Nat):Int))) 0)))))))<|.leaf (.inl ((lJ (bM j (ab 0 i h) k (aN (ai (ag (aa (List.getD f (Int.toNat ((((d:Nat):Int) * b)+((a:Nat):Int))) 0))) (ab 0 (ae (aa (List.getD f (Int.toNat ((((d:Nat):Int) * b)+((a:Nat):Int))) 0))) (ac (aa (List.getD f (Int.toNat ((((d:Nat):Int) * b)+((a:Nat):Int))) 0)))) (ah (aa (List.getD f (Int.toNat ((((d:Nat):Int) * b)+((a:Nat):Int))) 0))) (ag (aa (List.getD g (Int.toNat ((((a:Nat):Int) * c)+((e:Nat):Int))) 0))) (ab 0 (ae (aa (List.getD g (Int.toNat ((((a:Nat):Int) * c)+((e:Nat):Int))) 0))) (ac (aa (List.getD g (Int.toNat ((((a:Nat):Int) * c)+((e:Nat):Int))) 0)))) (ah (aa (List.getD g (Int.toNat ((((a:Nat):Int) * c)+((e:Nat):Int))) 0))))) (ab 0 (aG (ai (ag (aa (List.getD f (Int.toNat ((((d:Nat):Int) * b)+((a:Nat):Int))) 0))) (ab 0 (ae (aa (List.getD f (Int.toNat ((((d:Nat):Int) * b)+((a:Nat):Int))) 0))) (ac (aa (List.getD f (Int.toNat ((((d:Nat):Int) * b)+((a:Nat):Int))) 0)))) (ah (aa (List.getD f (Int.toNat ((((d:Nat):Int) * b)+((a:Nat):Int))) 0))) (ag (aa (List.getD g (Int.toNat ((((a:Nat):Int) * c)+((e:Nat):Int))) 0))) (ab 0 (ae (aa (List.getD g (Int.toNat ((((a:Nat):Int) * c)+((e:Nat):Int))) 0))) (ac (aa (List.getD g (Int.toNat ((((a:Nat):Int) * c)+((e:Nat):Int))) 0)))) (ah (aa (List.getD g (Int.toNat ((((a:Nat):Int) * c)+((e:Nat):Int))) 0))))) (aF (ai (ag (aa (List.getD f (Int.toNat ((((d:Nat):Int) * b)+((a:Nat):Int))) 0))) (ab 0 (ae (aa (List.getD f (Int.toNat ((((d:Nat):Int) * b)+((a:Nat):Int))) 0))) (ac (aa (List.getD f (Int.toNat ((((d:Nat):Int) * b)+((a:Nat):Int))) 0)))) (ah (aa (List.getD f (Int.toNat ((((d:Nat):Int) * b)+((a:Nat):Int))) 0))) (ag (aa (List.getD g (Int.toNat ((((a:Nat):Int) * c)+((e:Nat):Int))) 0))) (ab 0 (ae (aa (List.getD g (Int.toNat ((((a:Nat):Int) * c)+((e:Nat):Int))) 0))) (ac (aa (List.getD g (Int.toNat ((((a:Nat):Int) * c)+((e:Nat):Int))) 0)))) (ah (aa (List.getD g (Int.toNat ((((a:Nat):Int) * c)+((e:Nat):Int))) 0)))))) (aO (ai (ag (aa (List.getD f (Int.toNat ((((d:Nat):Int) * b)+((a:Nat):Int))) 0))) (ab 0 (ae (aa (List.getD f (Int.toNat ((((d:Nat):Int) * b)+((a:Nat):Int))) 0))) (ac (aa (List.getD f (Int.toNat ((((d:Nat):Int) * b)+((a:Nat):Int))) 0)))) (ah (aa (List.getD f (Int.toNat ((((d:Nat):Int) * b)+((a:Nat):Int))) 0))) (ag (aa (List.getD g (Int.toNat ((((a:Nat):Int) * c)+((e:Nat):Int))) 0))) (ab 0 (ae (aa (List.getD g (Int.toNat ((((a:Nat):Int) * c)+((e:Nat):Int))) 0))) (ac (aa (List.getD g (Int.toNat ((((a:Nat):Int) * c)+((e:Nat):Int))) 0)))) (ah (aa (List.getD g (Int.toNat ((((a:Nat):Int) * c)+((e:Nat):Int))) 0))))))),(lK (bM j (ab 0 i h) k (aN (ai (ag (aa (List.getD f (Int.toNat ((((d:Nat):Int) * b)+((a:Nat):Int))) 0))) (ab 0 (ae (aa (List.getD f (Int.toNat ((((d:Nat):Int) * b)+((a:Nat):Int))) 0))) (ac (aa (List.getD f (Int.toNat ((((d:Nat):Int) * b)+((a:Nat):Int))) 0)))) (ah (aa (List.getD f (Int.toNat ((((d:Nat):Int) * b)+((a:Nat):Int))) 0))) (ag (aa (List.getD g (Int.toNat ((((a:Nat):Int) * c)+((e:Nat):Int))) 0))) (ab 0 (ae (aa (List.getD g (Int.toNat ((((a:Nat):Int) * c)+((e:Nat):Int))) 0))) (ac (aa (List.getD g (Int.toNat ((((a:Nat):Int) * c)+((e:Nat):Int))) 0)))) (ah (aa (List.getD g (Int.toNat ((((a:Nat):Int) * c)+((e:Nat):Int))) 0))))) (ab 0 (aG (ai (ag (aa (List.getD f (Int.toNat ((((d:Nat):Int) * b)+((a:Nat):Int))) 0))) (ab 0 (ae (aa (List.getD f (Int.toNat ((((d:Nat):Int) * b)+((a:Nat):Int))) 0))) (ac (aa (List.getD f (Int.toNat ((((d:Nat):Int) * b)+((a:Nat):Int))) 0)))) (ah (aa (List.getD f (Int.toNat ((((d:Nat):Int) * b)+((a:Nat):Int))) 0))) (ag (aa (List.getD g (Int.toNat ((((a:Nat):Int) * c)+((e:Nat):Int))) 0))) (ab 0 (ae (aa (List.getD g (Int.toNat ((((a:Nat):Int) * c)+((e:Nat):Int))) 0))) (ac (aa (List.getD g (Int.toNat ((((a:Nat):Int) * c)+((e:Nat):Int))) 0)))) (ah (aa (List.getD g (Int.toNat ((((a:Nat):Int) * c)+((e:Nat):Int))) 0))))) (aF (ai (ag (aa (List.getD f (Int.toNat ((((d:Nat):Int) * b)+((a:Nat):Int))) 0))) (ab 0 (ae (aa (List.getD f (Int.toNat ((((d:Nat):Int) * b)+((a:Nat):Int))) 0))) (ac (aa (List.getD f (Int.toNat ((((d:Nat):Int) * b)+((a:Nat):Int))) 0)))) (ah (aa (List.getD f (Int.toNat ((((d:Nat):Int) * b)+((a:Nat):Int))) 0))) (ag (aa (List.getD g (Int.toNat ((((a:Nat):Int) * c)+((e:Nat):Int))) 0))) (ab 0 (ae (aa (List.getD g (Int.toNat ((((a:Nat):Int) * c)+((e:Nat):Int))) 0))) (ac (aa (List.getD g (Int.toNat ((((a:Nat):Int) * c)+((e:Nat):Int))) 0)))) (ah (aa (List.getD g (Int.toNat ((((a:Nat):Int) * c)+((e:Nat):Int))) 0)))))) (aO (ai (ag (aa (List.getD f (Int.toNat ((((d:Nat):Int) * b)+((a:Nat):Int))) 0))) (ab 0 (ae (aa (List.getD f (Int.toNat ((((d:Nat):Int) * b)+((a:Nat):Int))) 0))) (ac (aa (List.getD f (Int.toNat ((((d:Nat):Int) * b)+((a:Nat):Int))) 0)))) (ah (aa (List.getD f (Int.toNat ((((d:Nat):Int) * b)+((a:Nat):Int))) 0))) (ag (aa (List.getD g (Int.toNat ((((a:Nat):Int) * c)+((e:Nat):Int))) 0))) (ab 0 (ae (aa (List.getD g (Int.toNat ((((a:Nat):Int) * c)+((e:Nat):Int))) 0))) (ac (aa (List.getD g (Int.toNat ((((a:Nat):Int) * c)+((e:Nat):Int))) 0)))) (ah (aa (List.getD g (Int.toNat ((((a:Nat):Int) * c)+((e:Nat):Int))) 0))))))),(lL (bM j (ab 0 i h) k (aN (ai (ag (aa (List.getD f (Int.toNat ((((d:Nat):Int) * b)+((a:Nat):Int))) 0))) (ab 0 (ae (aa (List.getD f (Int.toNat ((((d:Nat):Int) * b)+((a:Nat):Int))) 0))) (ac (aa (List.getD f (Int.toNat ((((d:Nat):Int) * b)+((a:Nat):Int))) 0)))) (ah (aa (List.getD f (Int.toNat ((((d:Nat):Int) * b)+((a:Nat):Int))) 0))) (ag (aa (List.getD g (Int.toNat ((((a:Nat):Int) * c)+((e:Nat):Int))) 0))) (ab 0 (ae (aa (List.getD g (Int.toNat ((((a:Nat):Int) * c)+((e:Nat):Int))) 0))) (ac (aa (List.getD g (Int.toNat ((((a:Nat):Int) * c)+((e:Nat):Int))) 0)))) (ah (aa (List.getD g (Int.toNat ((((a:Nat):Int) * c)+((e:Nat):Int))) 0))))) (ab 0 (aG (ai (ag (aa (List.getD f (Int.toNat ((((d:Nat):Int) * b)+((a:Nat):Int))) 0))) (ab 0 (ae (aa (List.getD f (Int.toNat ((((d:Nat):Int) * b)+((a:Nat):Int))) 0))) (ac (aa (List.getD f (Int.toNat ((((d:Nat):Int) * b)+((a:Nat):Int))) 0)))) (ah (aa (List.getD f (Int.toNat ((((d:Nat):Int) * b)+((a:Nat):Int))) 0))) (ag (aa (List.getD g (Int.toNat ((((a:Nat):Int) * c)+((e:Nat):Int))) 0))) (ab 0 (ae (aa (List.getD g (Int.toNat ((((a:Nat):Int) * c)+((e:Nat):Int))) 0))) (ac (aa (List.getD g (Int.toNat ((((a:Nat):Int) * c)+((e:Nat):Int))) 0)))) (ah (aa (List.getD g (Int.toNat ((((a:Nat):Int) * c)+((e:Nat):Int))) 0))))) (aF (ai (ag (aa (List.getD f (Int.toNat ((((d:Nat):Int) * b)+((a:Nat):Int))) 0))) (ab 0 (ae (aa (List.getD f (Int.toNat ((((d:Nat):Int) * b)+((a:Nat):Int))) 0))) (ac (aa (List.getD f (Int.toNat ((((d:Nat):Int) * b)+((a:Nat):Int))) 0)))) (ah (aa (List.getD f (Int.toNat ((((d:Nat):Int) * b)+((a:Nat):Int))) 0))) (ag (aa (List.getD g (Int.toNat ((((a:Nat):Int) * c)+((e:Nat):Int))) 0))) (ab 0 (ae (aa (List.getD g (Int.toNat ((((a:Nat):Int) * c)+((e:Nat):Int))) 0))) (ac (aa (List.getD g (Int.toNat ((((a:Nat):Int) * c)+((e:Nat):Int))) 0)))) (ah (aa (List.getD g (Int.toNat ((((a:Nat):Int) * c)+((e:Nat):Int))) 0)))))) (aO (ai (ag (aa (List.getD f (Int.toNat ((((d:Nat):Int) * b)+((a:Nat):Int))) 0))) (ab 0 (ae (aa (List.getD f (Int.toNat ((((d:Nat):Int) * b)+((a:Nat):Int))) 0))) (ac (aa (List.getD f (Int.toNat ((((d:Nat):Int) * b)+((a:Nat):Int))) 0)))) (ah (aa (List.getD f (Int.toNat ((((d:Nat):Int) * b)+((a:Nat):Int))) 0))) (ag (aa (List.getD g (Int.toNat ((((a:Nat):Int) * c)+((e:Nat):Int))) 0))) (ab 0 (ae (aa (List.getD g (Int.toNat ((((a:Nat):Int) * c)+((e:Nat):Int))) 0))) (ac (aa (List.getD g (Int.toNat ((((a:Nat):Int) * c)+((e:Nat):Int))) 0)))) (ah (aa (List.getD g (Int.toNat ((((a:Nat):Int) * c)+((e:Nat):Int))) 0))))))),(lM (bM j (ab 0 i h) k (aN (ai (ag (aa (List.getD f (Int.toNat ((((d:Nat):Int) * b)+((a:Nat):Int))) 0))) (ab 0 (ae (aa (List.getD f (Int.toNat ((((d:Nat):Int) * b)+((a:Nat):Int))) 0))) (ac (aa (List.getD f (Int.toNat ((((d:Nat):Int) * b)+((a:Nat):Int))) 0)))) (ah (aa (List.getD f (Int.toNat ((((d:Nat):Int) * b)+((a:Nat):Int))) 0))) (ag (aa (List.getD g (Int.toNat ((((a:Nat):Int) * c)+((e:Nat):Int))) 0))) (ab 0 (ae (aa (List.getD g (Int.toNat ((((a:Nat):Int) * c)+((e:Nat):Int))) 0))) (ac (aa (List.getD g (Int.toNat ((((a:Nat):Int) * c)+((e:Nat):Int))) 0)))) (ah (aa (List.getD g (Int.toNat ((((a:Nat):Int) * c)+((e:Nat):Int))) 0))))) (ab 0 (aG (ai (ag (aa (List.getD f (Int.toNat ((((d:Nat):Int) * b)+((a:Nat):Int))) 0))) (ab 0 (ae (aa (List.getD f (Int.toNat ((((d:Nat):Int) * b)+((a:Nat):Int))) 0))) (ac (aa (List.getD f (Int.toNat ((((d:Nat):Int) * b)+((a:Nat):Int))) 0)))) (ah (aa (List.getD f (Int.toNat ((((d:Nat):Int) * b)+((a:Nat):Int))) 0))) (ag (aa (List.getD g (Int.toNat ((((a:Nat):Int) * c)+((e:Nat):Int))) 0))) (ab 0 (ae (aa (List.getD g (Int.toNat ((((a:Nat):Int) * c)+((e:Nat):Int))) 0))) (ac (aa (List.getD g (Int.toNat ((((a:Nat):Int) * c)+((e:Nat):Int))) 0)))) (ah (aa (List.getD g (Int.toNat ((((a:Nat):Int) * c)+((e:Nat):Int))) 0))))) (aF (ai (ag (aa (List.getD f (Int.toNat ((((d:Nat):Int) * b)+((a:Nat):Int))) 0))) (ab 0 (ae (aa (List.getD f (Int.toNat ((((d:Nat):Int) * b)+((a:Nat):Int))) 0))) (ac (aa (List.getD f (Int.toNat ((((d:Nat):Int) * b)+((a:Nat):Int))) 0)))) (ah (aa (List.getD f (Int.toNat ((((d:Nat):Int) * b)+((a:Nat):Int))) 0))) (ag (aa (List.getD g (Int.toNat ((((a:Nat):Int) * c)+((e:Nat):Int))) 0))) (ab 0 (ae (aa (List.getD g (Int.toNat ((((a:Nat):Int) * c)+((e:Nat):Int))) 0))) (ac (aa (List.getD g (Int.toNat ((((a:Nat):Int) * c)+((e:Nat):Int))) 0)))) (ah (aa (List.getD g (Int.toNat ((((a:Nat):Int) * c)+((e:Nat):Int))) 0)))))) (aO (ai (ag (aa (List.getD f (Int.toNat ((((d:Nat):Int) * b)+((a:Nat):Int))) 0))) (ab 0 (ae (aa (List.getD f (Int.toNat ((((d:Nat):Int) * b)+((a:Nat):Int))) 0))) (ac (aa (List.getD f (Int.toNat ((((d:Nat):Int) * b)+((a:Nat):Int))) 0)))) (ah (aa (List.getD f (Int.toNat ((((d:Nat):Int) * b)+((a:Nat):Int))) 0))) (ag (aa (List.getD g (Int.toNat ((((a:Nat):Int) * c)+((e:Nat):Int))) 0))) (ab 0 (ae (aa (List.getD g (Int.toNat ((((a:Nat):Int) * c)+((e:Nat):Int))) 0))) (ac (aa (List.getD g (Int.toNat ((((a:Nat):Int) * c)+((e:Nat):Int))) 0)))) (ah (aa (List.getD g (Int.toNat ((((a:Nat):Int) * c)+((e:Nat):Int))) 0))))))))))
    (.leaf (.inr (.inl (j,h,i,k))))
def Nh(a:Nat)(b:Bool)(c:List Int)(d:Nat)(e:Int) :T ((Nat×Bool×(List Int)×Nat×Int)⊕((Bool×(List Int)×Nat×Int)⊕((Bool×(List Int)×Nat×Int)⊕((Bool×(List Int)×Nat×Int)⊕((Bool×(List Int)×Nat×Int)⊕((Bool×(List Int)×Nat×Int)⊕(bp))))))) :=
  .need (dn .i64 (((a+1):Nat):Int))<|.leaf (.inl ((a+1),b,c,d,e))
def oq(b:Int)(c:List Nat)(d:Int)(e:List Nat)(f:Nat)(g:Nat) :Nat×Bool×(List Int)×Nat×Int→Option ((Nat×Bool×(List Int)×Nat×Int)⊕((Bool×(List Int)×Nat×Int)⊕((Bool×(List Int)×Nat×Int)⊕((Bool×(List Int)×Nat×Int)⊕((Bool×(List Int)×Nat×Int)⊕((Bool×(List Int)×Nat×Int)⊕(bp))))))):=fun (a,h,i,j,k) =>
  aE ((oo b c d e f g a h i j k).run) fun (l,m,n,o) =>
  (Nh a l m n o).run
theorem Ni(g:Int)(a:Int)(h:Lv)(b:List Nat)(i:Int)(c:Int)(j:Lv)(d:List Nat)(k:Int)(l:Int)(m:Lv)(n:List Nat)(o:Lv)(p:List Nat)(e:Bool)(f:Nat)(q:Nat)(r:Bool)(s:List Int)(t:Nat)(u:Int)(v:Nat)(w:Bool)(x:List Int)(y:Nat)(z:Int) :Sg prog [] Nf (tf g a h b i c j d k l m n o p e f q r s t u (v,w,x,y,z)) (oq a b c d f q (v,w,x,y,z)) (tf g a h b i c j d k l m n o p e f q r s t u) (cL 4 (Bf g a h b i c j d k l m n o p e f q r s t u) (cL 3 (Bd g a h b i c j d k l m n o p e f q) (cL 2 (td g a h b i c j d k l m n o p e f) (cL 1 (ta g a h b i c j d k l m n o p e f) (cL 0 (om e) lB))))):=by
  unfold oq;exact Sg.cut 3 (ay (ay (ay (ay (ay bQ))))) (bk cn (Ng g a h b i c j d k l m n o p e f q r s t u v) [⟨[],[0,1,2,3,4,5],[3,4,5,6,8,9,10,11,12,13]⟩,⟨[],[0,1,2,3,4,5],[3,4,5,6,8,9,10,11,12]⟩]) (fun ⟨A,B,C,D⟩=>bk cn _ [⟨[],[0,1,2,3,4,5],[3,4,5,6,8,9,10,11,12,13]⟩])
def Nj(e:Int)(f:Int)(g:Lv)(a:List Nat)(h:Int)(i:Int)(j:Lv)(b:List Nat)(k:Int)(l:Int)(m:Lv)(c:List Nat)(n:Lv)(d:List Nat)(o:Bool)(p:Nat)(q:Nat)(r:Bool)(s:List Int)(t:Nat)(u:Int) :Bool×(List Int)×Nat×Int→aQ:=fun (v,w,x,y)=>⟨ao 84 [(3,.imm n (.fl d) 1 1 0 (List.length d)),(4,.ptr 0 1 0 0),(5,.ptr 1 1 0 0),(6,.ptr 2 1 0 0),(8,.ptr 3 1 0 0),(9,.ptr 4 1 0 0),(10,.int .i64 ((p:Nat):Int)),(11,.int .i64 ((q:Nat):Int)),(12,.ptr 5 1 0 0)],[(0,.vs [.int .i64 e,.int .i64 f,.imm g (.fl a) 1 1 0 (List.length a)]),(1,.vs [.int .i64 h,.int .i64 i,.imm j (.fl b) 1 1 0 (List.length b)]),(2,.vs [.int .i64 k,.int .i64 l,.imm m (.fl c) 1 1 0 (List.length c)]),(3,.vs [.bool false o,.nsl,.int .i64 (0:Int)]),(4,.vs [.bool false r,.imm .free (.ns .u64 s) 1 1 0 t,.int .i64 u]),(5,.vs [.bool false v,.imm .free (.ns .u64 w) 1 1 0 x,.int .i64 y])],6⟩
def tg(b:Int)(d:List Nat)(e:List Nat)(c:Nat)(a:Nat)(h:Bool)(f:List Int)(g:Nat)(i:Int) :T ((Bool×(List Int)×Nat×Int)⊕((Bool×(List Int)×Nat×Int)⊕((Bool×(List Int)×Nat×Int)⊕((Bool×(List Int)×Nat×Int)⊕((Bool×(List Int)×Nat×Int)⊕(bp)))))) :=
  .need (dn .i64 (((c:Nat):Int) * b))<|.need (dn .i64 ((((c:Nat):Int) * b)+((a:Nat):Int)))<|.need (gD ((((c:Nat):Int) * b)+((a:Nat):Int)) (List.length d))<|.need (im (Int.toNat ((((c:Nat):Int) * b)+((a:Nat):Int))) (List.length d))<|.need (dO (aa (List.getD d (Int.toNat ((((c:Nat):Int) * b)+((a:Nat):Int))) 0)))<|.need (gD ((a:Nat):Int) (List.length e))<|.need (im a (List.length e))<|.need (dO (aa (List.getD e a 0)))<|.need (aP 0 (ae (aa (List.getD d (Int.toNat ((((c:Nat):Int) * b)+((a:Nat):Int))) 0))) (ac (aa (List.getD d (Int.toNat ((((c:Nat):Int) * b)+((a:Nat):Int))) 0))))<|.need (aP 0 (ae (aa (List.getD e a 0))) (ac (aa (List.getD e a 0))))<|.need (cD (ai (ag (aa (List.getD d (Int.toNat ((((c:Nat):Int) * b)+((a:Nat):Int))) 0))) (ab 0 (ae (aa (List.getD d (Int.toNat ((((c:Nat):Int) * b)+((a:Nat):Int))) 0))) (ac (aa (List.getD d (Int.toNat ((((c:Nat):Int) * b)+((a:Nat):Int))) 0)))) (ah (aa (List.getD d (Int.toNat ((((c:Nat):Int) * b)+((a:Nat):Int))) 0))) (ag (aa (List.getD e a 0))) (ab 0 (ae (aa (List.getD e a 0))) (ac (aa (List.getD e a 0)))) (ah (aa (List.getD e a 0)))))<|.need (aP 0 g f)<|.need (aP 0 (aG (ai (ag (aa (List.getD d (Int.toNat ((((c:Nat):Int) * b)+((a:Nat):Int))) 0))) (ab 0 (ae (aa (List.getD d (Int.toNat ((((c:Nat):Int) * b)+((a:Nat):Int))) 0))) (ac (aa (List.getD d (Int.toNat ((((c:Nat):Int) * b)+((a:Nat):Int))) 0)))) (ah (aa (List.getD d (Int.toNat ((((c:Nat):Int) * b)+((a:Nat):Int))) 0))) (ag (aa (List.getD e a 0))) (ab 0 (ae (aa (List.getD e a 0))) (ac (aa (List.getD e a 0)))) (ah (aa (List.getD e a 0))))) (aF (ai (ag (aa (List.getD d (Int.toNat ((((c:Nat):Int) * b)+((a:Nat):Int))) 0))) (ab 0 (ae (aa (List.getD d (Int.toNat ((((c:Nat):Int) * b)+((a:Nat):Int))) 0))) (ac (aa (List.getD d (Int.toNat ((((c:Nat):Int) * b)+((a:Nat):Int))) 0)))) (ah (aa (List.getD d (Int.toNat ((((c:Nat):Int) * b)+((a:Nat):Int))) 0))) (ag (aa (List.getD e a 0))) (ab 0 (ae (aa (List.getD e a 0))) (ac (aa (List.getD e a 0)))) (ah (aa (List.getD e a 0))))))<|.need (rM (fh h (ab 0 g f) i (aN (ai (ag (aa (List.getD d (Int.toNat ((((c:Nat):Int) * b)+((a:Nat):Int))) 0))) (ab 0 (ae (aa (List.getD d (Int.toNat ((((c:Nat):Int) * b)+((a:Nat):Int))) 0))) (ac (aa (List.getD d (Int.toNat ((((c:Nat):Int) * b)+((a:Nat):Int))) 0)))) (ah (aa (List.getD d (Int.toNat ((((c:Nat):Int) * b)+((a:Nat):Int))) 0))) (ag (aa (List.getD e a 0))) (ab 0 (ae (aa (List.getD e a 0))) (ac (aa (List.getD e a 0)))) (ah (aa (List.getD e a 0))))) (ab 0 (aG (ai (ag (aa (List.getD d (Int.toNat ((((c:Nat):Int) * b)+((a:Nat):Int))) 0))) (ab 0 (ae (aa (List.getD d (Int.toNat ((((c:Nat):Int) * b)+((a:Nat):Int))) 0))) (ac (aa (List.getD d (Int.toNat ((((c:Nat):Int) * b)+((a:Nat):Int))) 0)))) (ah (aa (List.getD d (Int.toNat ((((c:Nat):Int) * b)+((a:Nat):Int))) 0))) (ag (aa (List.getD e a 0))) (ab 0 (ae (aa (List.getD e a 0))) (ac (aa (List.getD e a 0)))) (ah (aa (List.getD e a 0))))) (aF (ai (ag (aa (List.getD d (Int.toNat ((((c:Nat):Int) * b)+((a:Nat):Int))) 0))) (ab 0 (ae (aa (List.getD d (Int.toNat ((((c:Nat):Int) * b)+((a:Nat):Int))) 0))) (ac (aa (List.getD d (Int.toNat ((((c:Nat):Int) * b)+((a:Nat):Int))) 0)))) (ah (aa (List.getD d (Int.toNat ((((c:Nat):Int) * b)+((a:Nat):Int))) 0))) (ag (aa (List.getD e a 0))) (ab 0 (ae (aa (List.getD e a 0))) (ac (aa (List.getD e a 0)))) (ah (aa (List.getD e a 0)))))) (aO (ai (ag (aa (List.getD d (Int.toNat ((((c:Nat):Int) * b)+((a:Nat):Int))) 0))) (ab 0 (ae (aa (List.getD d (Int.toNat ((((c:Nat):Int) * b)+((a:Nat):Int))) 0))) (ac (aa (List.getD d (Int.toNat ((((c:Nat):Int) * b)+((a:Nat):Int))) 0)))) (ah (aa (List.getD d (Int.toNat ((((c:Nat):Int) * b)+((a:Nat):Int))) 0))) (ag (aa (List.getD e a 0))) (ab 0 (ae (aa (List.getD e a 0))) (ac (aa (List.getD e a 0)))) (ah (aa (List.getD e a 0)))))))<|.leaf (.inl ((sD (fh h (ab 0 g f) i (aN (ai (ag (aa (List.getD d (Int.toNat ((((c:Nat):Int) * b)+((a:Nat):Int))) 0))) (ab 0 (ae (aa (List.getD d (Int.toNat ((((c:Nat):Int) * b)+((a:Nat):Int))) 0))) (ac (aa (List.getD d (Int.toNat ((((c:Nat):Int) * b)+((a:Nat):Int))) 0)))) (ah (aa (List.getD d (Int.toNat ((((c:Nat):Int) * b)+((a:Nat):Int))) 0))) (ag (aa (List.getD e a 0))) (ab 0 (ae (aa (List.getD e a 0))) (ac (aa (List.getD e a 0)))) (ah (aa (List.getD e a 0))))) (ab 0 (aG (ai (ag (aa (List.getD d (Int.toNat ((((c:Nat):Int) * b)+((a:Nat):Int))) 0))) (ab 0 (ae (aa (List.getD d (Int.toNat ((((c:Nat):Int) * b)+((a:Nat):Int))) 0))) (ac (aa (List.getD d (Int.toNat ((((c:Nat):Int) * b)+((a:Nat):Int))) 0)))) (ah (aa (List.getD d (Int.toNat ((((c:Nat):Int) * b)+((a:Nat):Int))) 0))) (ag (aa (List.getD e a 0))) (ab 0 (ae (aa (List.getD e a 0))) (ac (aa (List.getD e a 0)))) (ah (aa (List.getD e a 0))))) (aF (ai (ag (aa (List.getD d (Int.toNat ((((c:Nat):Int) * b)+((a:Nat):Int))) 0))) (ab 0 (ae (aa (List.getD d (Int.toNat ((((c:Nat):Int) * b)+((a:Nat):Int))) 0))) (ac (aa (List.getD d (Int.toNat ((((c:Nat):Int) * b)+((a:Nat):Int))) 0)))) (ah (aa (List.getD d (Int.toNat ((((c:Nat):Int) * b)+((a:Nat):Int))) 0))) (ag (aa (List.getD e a 0))) (ab 0 (ae (aa (List.getD e a 0))) (ac (aa (List.getD e a 0)))) (ah (aa (List.getD e a 0)))))) (aO (ai (ag (aa (List.getD d (Int.toNat ((((c:Nat):Int) * b)+((a:Nat):Int))) 0))) (ab 0 (ae (aa (List.getD d (Int.toNat ((((c:Nat):Int) * b)+((a:Nat):Int))) 0))) (ac (aa (List.getD d (Int.toNat ((((c:Nat):Int) * b)+((a:Nat):Int))) 0)))) (ah (aa (List.getD d (Int.toNat ((((c:Nat):Int) * b)+((a:Nat):Int))) 0))) (ag (aa (List.getD e a 0))) (ab 0 (ae (aa (List.getD e a 0))) (ac (aa (List.getD e a 0)))) (ah (aa (List.getD e a 0))))))),(sE (fh h (ab 0 g f) i (aN (ai (ag (aa (List.getD d (Int.toNat ((((c:Nat):Int) * b)+((a:Nat):Int))) 0))) (ab 0 (ae (aa (List.getD d (Int.toNat ((((c:Nat):Int) * b)+((a:Nat):Int))) 0))) (ac (aa (List.getD d (Int.toNat ((((c:Nat):Int) * b)+((a:Nat):Int))) 0)))) (ah (aa (List.getD d (Int.toNat ((((c:Nat):Int) * b)+((a:Nat):Int))) 0))) (ag (aa (List.getD e a 0))) (ab 0 (ae (aa (List.getD e a 0))) (ac (aa (List.getD e a 0)))) (ah (aa (List.getD e a 0))))) (ab 0 (aG (ai (ag (aa (List.getD d (Int.toNat ((((c:Nat):Int) * b)+((a:Nat):Int))) 0))) (ab 0 (ae (aa (List.getD d (Int.toNat ((((c:Nat):Int) * b)+((a:Nat):Int))) 0))) (ac (aa (List.getD d (Int.toNat ((((c:Nat):Int) * b)+((a:Nat):Int))) 0)))) (ah (aa (List.getD d (Int.toNat ((((c:Nat):Int) * b)+((a:Nat):Int))) 0))) (ag (aa (List.getD e a 0))) (ab 0 (ae (aa (List.getD e a 0))) (ac (aa (List.getD e a 0)))) (ah (aa (List.getD e a 0))))) (aF (ai (ag (aa (List.getD d (Int.toNat ((((c:Nat):Int) * b)+((a:Nat):Int))) 0))) (ab 0 (ae (aa (List.getD d (Int.toNat ((((c:Nat):Int) * b)+((a:Nat):Int))) 0))) (ac (aa (List.getD d (Int.toNat ((((c:Nat):Int) * b)+((a:Nat):Int))) 0)))) (ah (aa (List.getD d (Int.toNat ((((c:Nat):Int) * b)+((a:Nat):Int))) 0))) (ag (aa (List.getD e a 0))) (ab 0 (ae (aa (List.getD e a 0))) (ac (aa (List.getD e a 0)))) (ah (aa (List.getD e a 0)))))) (aO (ai (ag (aa (List.getD d (Int.toNat ((((c:Nat):Int) * b)+((a:Nat):Int))) 0))) (ab 0 (ae (aa (List.getD d (Int.toNat ((((c:Nat):Int) * b)+((a:Nat):Int))) 0))) (ac (aa (List.getD d (Int.toNat ((((c:Nat):Int) * b)+((a:Nat):Int))) 0)))) (ah (aa (List.getD d (Int.toNat ((((c:Nat):Int) * b)+((a:Nat):Int))) 0))) (ag (aa (List.getD e a 0))) (ab 0 (ae (aa (List.getD e a 0))) (ac (aa (List.getD e a 0)))) (ah (aa (List.getD e a 0))))))),(sF (fh h (ab 0 g f) i (aN (ai (ag (aa (List.getD d (Int.toNat ((((c:Nat):Int) * b)+((a:Nat):Int))) 0))) (ab 0 (ae (aa (List.getD d (Int.toNat ((((c:Nat):Int) * b)+((a:Nat):Int))) 0))) (ac (aa (List.getD d (Int.toNat ((((c:Nat):Int) * b)+((a:Nat):Int))) 0)))) (ah (aa (List.getD d (Int.toNat ((((c:Nat):Int) * b)+((a:Nat):Int))) 0))) (ag (aa (List.getD e a 0))) (ab 0 (ae (aa (List.getD e a 0))) (ac (aa (List.getD e a 0)))) (ah (aa (List.getD e a 0))))) (ab 0 (aG (ai (ag (aa (List.getD d (Int.toNat ((((c:Nat):Int) * b)+((a:Nat):Int))) 0))) (ab 0 (ae (aa (List.getD d (Int.toNat ((((c:Nat):Int) * b)+((a:Nat):Int))) 0))) (ac (aa (List.getD d (Int.toNat ((((c:Nat):Int) * b)+((a:Nat):Int))) 0)))) (ah (aa (List.getD d (Int.toNat ((((c:Nat):Int) * b)+((a:Nat):Int))) 0))) (ag (aa (List.getD e a 0))) (ab 0 (ae (aa (List.getD e a 0))) (ac (aa (List.getD e a 0)))) (ah (aa (List.getD e a 0))))) (aF (ai (ag (aa (List.getD d (Int.toNat ((((c:Nat):Int) * b)+((a:Nat):Int))) 0))) (ab 0 (ae (aa (List.getD d (Int.toNat ((((c:Nat):Int) * b)+((a:Nat):Int))) 0))) (ac (aa (List.getD d (Int.toNat ((((c:Nat):Int) * b)+((a:Nat):Int))) 0)))) (ah (aa (List.getD d (Int.toNat ((((c:Nat):Int) * b)+((a:Nat):Int))) 0))) (ag (aa (List.getD e a 0))) (ab 0 (ae (aa (List.getD e a 0))) (ac (aa (List.getD e a 0)))) (ah (aa (List.getD e a 0)))))) (aO (ai (ag (aa (List.getD d (Int.toNat ((((c:Nat):Int) * b)+((a:Nat):Int))) 0))) (ab 0 (ae (aa (List.getD d (Int.toNat ((((c:Nat):Int) * b)+((a:Nat):Int))) 0))) (ac (aa (List.getD d (Int.toNat ((((c:Nat):Int) * b)+((a:Nat):Int))) 0)))) (ah (aa (List.getD d (Int.toNat ((((c:Nat):Int) * b)+((a:Nat):Int))) 0))) (ag (aa (List.getD e a 0))) (ab 0 (ae (aa (List.getD e a 0))) (ac (aa (List.getD e a 0)))) (ah (aa (List.getD e a 0))))))),(sG (fh h (ab 0 g f) i (aN (ai (ag (aa (List.getD d (Int.toNat ((((c:Nat):Int) * b)+((a:Nat):Int))) 0))) (ab 0 (ae (aa (List.getD d (Int.toNat ((((c:Nat):Int) * b)+((a:Nat):Int))) 0))) (ac (aa (List.getD d (Int.toNat ((((c:Nat):Int) * b)+((a:Nat):Int))) 0)))) (ah (aa (List.getD d (Int.toNat ((((c:Nat):Int) * b)+((a:Nat):Int))) 0))) (ag (aa (List.getD e a 0))) (ab 0 (ae (aa (List.getD e a 0))) (ac (aa (List.getD e a 0)))) (ah (aa (List.getD e a 0))))) (ab 0 (aG (ai (ag (aa (List.getD d (Int.toNat ((((c:Nat):Int) * b)+((a:Nat):Int))) 0))) (ab 0 (ae (aa (List.getD d (Int.toNat ((((c:Nat):Int) * b)+((a:Nat):Int))) 0))) (ac (aa (List.getD d (Int.toNat ((((c:Nat):Int) * b)+((a:Nat):Int))) 0)))) (ah (aa (List.getD d (Int.toNat ((((c:Nat):Int) * b)+((a:Nat):Int))) 0))) (ag (aa (List.getD e a 0))) (ab 0 (ae (aa (List.getD e a 0))) (ac (aa (List.getD e a 0)))) (ah (aa (List.getD e a 0))))) (aF (ai (ag (aa (List.getD d (Int.toNat ((((c:Nat):Int) * b)+((a:Nat):Int))) 0))) (ab 0 (ae (aa (List.getD d (Int.toNat ((((c:Nat):Int) * b)+((a:Nat):Int))) 0))) (ac (aa (List.getD d (Int.toNat ((((c:Nat):Int) * b)+((a:Nat):Int))) 0)))) (ah (aa (List.getD d (Int.toNat ((((c:Nat):Int) * b)+((a:Nat):Int))) 0))) (ag (aa (List.getD e a 0))) (ab 0 (ae (aa (List.getD e a 0))) (ac (aa (List.getD e a 0)))) (ah (aa (List.getD e a 0)))))) (aO (ai (ag (aa (List.getD d (Int.toNat ((((c:Nat):Int) * b)+((a:Nat):Int))) 0))) (ab 0 (ae (aa (List.getD d (Int.toNat ((((c:Nat):Int) * b)+((a:Nat):Int))) 0))) (ac (aa (List.getD d (Int.toNat ((((c:Nat):Int) * b)+((a:Nat):Int))) 0)))) (ah (aa (List.getD d (Int.toNat ((((c:Nat):Int) * b)+((a:Nat):Int))) 0))) (ag (aa (List.getD e a 0))) (ab 0 (ae (aa (List.getD e a 0))) (ac (aa (List.getD e a 0)))) (ah (aa (List.getD e a 0)))))))))
def th(g:Bool)(e:List Int)(f:Nat)(h:Int)(c:Bool)(a:List Int)(b:Nat)(d:Int) :T ((Bool×(List Int)×Nat×Int)⊕((Bool×(List Int)×Nat×Int)⊕((Bool×(List Int)×Nat×Int)⊕((Bool×(List Int)×Nat×Int)⊕((Bool×(List Int)×Nat×Int)⊕(bp)))))) :=
  .need (aP 0 b a)<|.need (aP 0 b a)<|.need (cD (ai c (ab 0 b a) d c (ab 0 b a) d))<|.need (aP 0 f e)<|.need (aP 0 (aG (ai c (ab 0 b a) d c (ab 0 b a) d)) (aF (ai c (ab 0 b a) d c (ab 0 b a) d)))<|.need (mR (bM g (ab 0 f e) h (aN (ai c (ab 0 b a) d c (ab 0 b a) d)) (ab 0 (aG (ai c (ab 0 b a) d c (ab 0 b a) d)) (aF (ai c (ab 0 b a) d c (ab 0 b a) d))) (aO (ai c (ab 0 b a) d c (ab 0 b a) d))))<|.leaf (.inl ((lJ (bM g (ab 0 f e) h (aN (ai c (ab 0 b a) d c (ab 0 b a) d)) (ab 0 (aG (ai c (ab 0 b a) d c (ab 0 b a) d)) (aF (ai c (ab 0 b a) d c (ab 0 b a) d))) (aO (ai c (ab 0 b a) d c (ab 0 b a) d)))),(lK (bM g (ab 0 f e) h (aN (ai c (ab 0 b a) d c (ab 0 b a) d)) (ab 0 (aG (ai c (ab 0 b a) d c (ab 0 b a) d)) (aF (ai c (ab 0 b a) d c (ab 0 b a) d))) (aO (ai c (ab 0 b a) d c (ab 0 b a) d)))),(lL (bM g (ab 0 f e) h (aN (ai c (ab 0 b a) d c (ab 0 b a) d)) (ab 0 (aG (ai c (ab 0 b a) d c (ab 0 b a) d)) (aF (ai c (ab 0 b a) d c (ab 0 b a) d))) (aO (ai c (ab 0 b a) d c (ab 0 b a) d)))),(lM (bM g (ab 0 f e) h (aN (ai c (ab 0 b a) d c (ab 0 b a) d)) (ab 0 (aG (ai c (ab 0 b a) d c (ab 0 b a) d)) (aF (ai c (ab 0 b a) d c (ab 0 b a) d))) (aO (ai c (ab 0 b a) d c (ab 0 b a) d))))))
def Nk(a:Nat)(b:Bool)(c:List Int)(d:Nat)(e:Int) :T ((Nat×Bool×(List Int)×Nat×Int)⊕((Bool×(List Int)×Nat×Int)⊕((Bool×(List Int)×Nat×Int)⊕((Bool×(List Int)×Nat×Int)⊕(bp))))) :=
  .need (dn .i64 (((a+1):Nat):Int))<|.leaf (.inl ((a+1),b,c,d,e))
def ot(h:Int)(i:List Nat)(j:Int)(k:List Nat)(b:Int)(l:List Nat)(m:List Nat)(c:Nat) :Nat×Bool×(List Int)×Nat×Int→Option ((Nat×Bool×(List Int)×Nat×Int)⊕((Bool×(List Int)×Nat×Int)⊕((Bool×(List Int)×Nat×Int)⊕((Bool×(List Int)×Nat×Int)⊕(bp))))):=fun (a,d,e,f,g) =>
  aE ((te b a d e f g).run) fun _ =>
  aE (GX (aE ((Be).run) fun (n,o,p,q) =>
  aE ((Ne).run) fun _ =>
  aE (dc (oq h i j k c a) (0,n,o,p,q)) fun (r,s,t,u) =>
  aE ((tg b l m c a r s t u).run) fun (v,w,x,y) =>
  (th d e f g v w x y).run)) fun (z,A,B,C) =>
  (Nk a z A B C).run
theorem Nl(j:Int)(a:Int)(k:Lv)(b:List Nat)(l:Int)(c:Int)(m:Lv)(d:List Nat)(n:Int)(e:Int)(o:Lv)(f:List Nat)(p:Lv)(g:List Nat)(h:Bool)(i:Nat)(q:Nat)(r:Bool)(s:List Int)(t:Nat)(u:Int) :Sg prog [] Bc (tc j a k b l c m d n e o f p g h i (q,r,s,t,u)) (ot a b c d e f g i (q,r,s,t,u)) (tc j a k b l c m d n e o f p g h i) (cL 2 (td j a k b l c m d n e o f p g h i) (cL 1 (ta j a k b l c m d n e o f p g h i) (cL 0 (om h) lB))):=by
  unfold ot;exact Sg.cut 2 (ay (ay (ay bQ))) (bk cn (Na j a k b l c m d n e o f p g h i q r s t u) [⟨[],[0,1,2,3,4],[3,4,5,6,8,9,10,11]⟩,⟨[],[0,1,2,3,4],[3,4,5,6,8,9,10]⟩]) (fun _=>Sg.cut 1 (ay (ay (ay bQ))) (sgb (Bd j a k b l c m d n e o f p g h i q) 3 (ay (ay (ay bQ))) (cZ (by decide) (cZ (by decide) (cZ (by decide) (mT _)))) (Sg.cut 1 (ay (ay (ay (ay bQ)))) (bk cn (Nc j a k b l c m d n e o f p g h i q r s t u) [⟨[],[0,1,2,3,4,21],[3,4,5,6,8,9,10,11,12]⟩]) (fun ⟨v,w,x,y⟩=>Sg.cut 1 (ay (ay (ay (ay bQ)))) (bk cn (Nd j a k b l c m d n e o f p g h i q r s t u v w x y) [⟨[],[0,1,2,3,4,5],[3,4,5,6,8,9,10,11,12,13]⟩]) (fun _=>Sg.cut 1 (ay (ay (ay (ay bQ)))) (BM ⟨[],[0,1,2,3,4,5],[3,4,5,6,8,9,10,11,12,13]⟩ (tf j a k b l c m d n e o f p g h i q r s t u) (Bf j a k b l c m d n e o f p g h i q r s t u) 4 (ay (ay (ay (ay bQ)))) (cZ (by decide) (cZ (by decide) (cZ (by decide) (cZ (by decide) (mT _))))) (fun ⟨z,A,B,C,D⟩=>Ni j a k b l c m d n e o f p g h i q r s t u z A B C D)) (fun ⟨E,F,G,H⟩=>Sg.cut 1 (ay (ay (ay (ay bQ)))) (bk cn (Nj j a k b l c m d n e o f p g h i q r s t u) [⟨[],[0,1,2,3,4,5],[3,4,5,6,8,9,10,11,12]⟩]) (fun ⟨I,J,K,L⟩=>bk cn _ [⟨[],[0,1,2,3,4],[3,4,5,6,8,9,10,11]⟩])))))) (fun ⟨M,N,O,P⟩=>bk cn _ [⟨[],[0,1,2,3,4],[3,4,5,6,8,9,10,11]⟩]))
def Nm(a:Bool)(b:List Int)(c:Nat)(d:Int) :T ((Bool×(List Int)×Nat×Int)⊕((Bool×(List Int)×Nat×Int)⊕((Bool×(List Int)×Nat×Int)⊕(bp)))) :=
  .leaf (.inl (a,b,c,d))
def Nn(a:Nat)(b:Bool)(c:List Int)(d:Nat)(e:Int) :T ((Nat×Bool×(List Int)×Nat×Int)⊕((Bool×(List Int)×Nat×Int)⊕(bp))) :=
  .need (dn .i64 (((a+1):Nat):Int))<|.leaf (.inl ((a+1),b,c,d,e))
def ti(f:Int)(g:List Nat)(h:Int)(i:List Nat)(j:Int)(k:Int)(l:List Nat)(m:List Nat) :Nat×Bool×(List Int)×Nat×Int→Option ((Nat×Bool×(List Int)×Nat×Int)⊕((Bool×(List Int)×Nat×Int)⊕(bp))):=fun (a,b,c,d,e) =>
  aE ((s9 j a b c d e).run) fun _ =>
  aE (GX (aE ((M9).run) fun _ =>
  aE (dc (ot f g h i k l m a) (0,b,c,d,e)) fun (n,o,p,q) =>
  (Nm n o p q).run)) fun (r,s,t,u) =>
  (Nn a r s t u).run
theorem No(j:Int)(a:Int)(k:Lv)(b:List Nat)(l:Int)(c:Int)(m:Lv)(d:List Nat)(e:Int)(f:Int)(n:Lv)(g:List Nat)(o:Lv)(h:List Nat)(i:Bool)(p:Nat)(q:Bool)(r:List Int)(s:Nat)(t:Int) :Sg prog [] Bb (s8 j a k b l c m d e f n g o h i (p,q,r,s,t)) (ti a b c d e f g h (p,q,r,s,t)) (s8 j a k b l c m d e f n g o h i) (cL 0 (om i) lB):=by
  unfold ti;exact Sg.cut 2 (ay bQ) (bk cn (M6 j a k b l c m d e f n g o h i p q r s t) [⟨[],[0,1,2,3,4],[3,4,5,6,8,9,10]⟩,⟨[],[3,4],[8,9]⟩]) (fun _=>Sg.cut 1 (ay bQ) (sgb (ta j a k b l c m d e f n g o h i p) 1 (ay bQ) (cZ (by decide) (mT _)) (Sg.cut 1 (ay (ay bQ)) (bk cn (M8 j a k b l c m d e f n g o h i p q r s t) [⟨[],[0,1,2,3,4],[3,4,5,6,8,9,10,11]⟩]) (fun _=>Sg.cut 1 (ay (ay bQ)) (BM ⟨[],[0,1,2,3,4],[3,4,5,6,8,9,10,11]⟩ (tc j a k b l c m d e f n g o h i p) (td j a k b l c m d e f n g o h i p) 2 (ay (ay bQ)) (cZ (by decide) (cZ (by decide) (mT _))) (fun ⟨u,v,w,x,y⟩=>Nl j a k b l c m d e f n g o h i p u v w x y)) (fun ⟨z,A,B,C⟩=>bk cn _ [⟨[],[0,1,2,3,4],[3,4,5,6,8,9,10]⟩])))) (fun ⟨D,E,F,G⟩=>bk cn _ [⟨[],[0,1,2,3,4],[3,4,5,6,8,9,10]⟩]))
def Np(a:Bool)(b:List Int)(c:Nat)(d:Int) :T ((Empty)⊕(bp)) :=
  .leaf (.inr (.r0 a b c d))
def c5(a:Int)(b:List Nat)(c:Int)(d:List Nat)(e:Int)(f:Int)(g:List Nat)(h:List Nat) :Option bp:=jR (aE ((Ba).run) fun (q,i,j,k,l) =>
  aE ((M5).run) fun _ =>
  aE (dc (ti a b c d e f g h) (0,i,j,k,l)) fun (m,n,o,p) =>
  (Np m n o p).run)
theorem Qh(j:Int)(e:Int)(k:Lv)(a:List Nat)(l:Int)(f:Int)(m:Lv)(b:List Nat)(g:Int)(i:Int)(n:Lv)(c:List Nat)(o:Lv)(d:List Nat){x:bp}(h:c5 e a f b g i c d=some x) :aw prog p6 [] [.agg [.int .i64 j,.int .i64 e,.imm k (.fl a) 1 1 0 (List.length a)],.agg [.int .i64 l,.int .i64 f,.imm m (.fl b) 1 1 0 (List.length b)],.agg [.int .i64 g,.int .i64 i,.imm n (.fl c) 1 1 0 (List.length c)],.imm o (.fl d) 1 1 0 (List.length d)] (wu x) :=
  kp true wu lB h (Sg.cut 2 bQ (bk cn (Qf j e k a l f m b g i n c o d) [⟨[],[0,16,32,48,80],[3,4,5,6,8,9]⟩]) (fun ⟨p,q,r,s,t⟩=>Sg.cut 1 bQ (bk cn (Qg j e k a l f m b g i n c o d p q r s t) [⟨[],[0,1,2,3,4],[3,4,5,6,8,9,10]⟩]) (fun _=>Sg.cut 1 bQ (BM ⟨[],[0,1,2,3,4],[3,4,5,6,8,9,10]⟩ (s8 j e k a l f m b g i n c o d p) (om p) 0 bQ (mT _) (fun ⟨u,v,w,y,z⟩=>No j e k a l f m b g i n c o d p u v w y z)) (fun ⟨E,F,G,H⟩=>bk cn _ [⟨[],[0],[8]⟩]))))
    (fun x=>by cases x with | r0 A B C D=>exact jT [.agg [.bool false A,.imm .free (.ns .u64 B) 1 1 0 C,.int .i64 D]])
def mU:Option bp→Bool
  | some _=>true
  | none=>false
def kJ:Option bp→Bool
  | some (.r0 x _ _ _)=>x
  | _=>false
def jf:Option bp→List Int
  | some (.r0 _ x _ _)=>x
  | _=>[]
def jg:Option bp→Nat
  | some (.r0 _ _ x _)=>x
  | _=>0
def kK:Option bp→Int
  | some (.r0 _ _ _ x)=>x
  | _=>0
theorem Qi{x:Option bp}(h:mU x=true) :x=some (.r0 (kJ x) (jf x) (jg x) (kK x)):=by
  unfold mU at h
  split at h <;> first | rfl | (cases h;done) | (rename_i y;cases y;rfl)
def Eo:aL:=bJ p6 (.cons (.agg (.cons (.int .i64) (.cons (.int .i64) (.cons .fl .nil)))) (.cons (.agg (.cons (.int .i64) (.cons (.int .i64) (.cons .fl .nil)))) (.cons (.agg (.cons (.int .i64) (.cons (.int .i64) (.cons .fl .nil)))) (.cons .fl .nil)))) fun t=>(fun q=>[⟨wu (.r0 (kJ q) (jf q) (jg q) (kK q)),[mU q]⟩]) (c5 t.1.2.1 t.1.2.2.1.2 t.2.1.2.1 t.2.1.2.2.1.2 t.2.2.1.1 t.2.2.1.2.1 t.2.2.1.2.2.1.2 t.2.2.2.1.2)
theorem J9:aV prog Eo:=aR fun t=>(aS (fun h=>Qh t.1.1 t.1.2.1 t.1.2.2.1.1 t.1.2.2.1.2 t.2.1.1 t.2.1.2.1 t.2.1.2.2.1.1 t.2.1.2.2.1.2 t.2.2.1.1 t.2.2.1.2.1 t.2.2.1.2.2.1.1 t.2.2.1.2.2.1.2 t.2.2.2.1.1 t.2.2.2.1.2 (Qi h)) aZ)
def Ep:List aL:=Eo :: Jj
theorem kL:bd prog (bf Ep):=au J9 cn
inductive ez where
  | r0 (a:Nat)
def Eq:ez→AE×aQ
  | .r0 a=>(.ret,⟨ao 56 [(6,.int .i64 ((a:Nat):Int))],[],0⟩)
theorem vc:jC Eq:=by intro x;cases x <;> (intro h;cases h)
def wv:ez→gX
  | .r0 a=>⟨.int .i64 ((a:Nat):Int),[]⟩
def Qj(d:Int)(e:Int)(f:Lv)(a:List Nat)(g:Lv)(b:List Nat)(h:Int)(i:Int)(j:Lv)(c:List Nat)(k:Bool) :aQ:=⟨ao 56 [(1,.imm g (.fl b) 1 1 0 (List.length b)),(3,.ptr 0 1 0 0),(5,.ptr 1 1 0 0),(14,.bool false k)],[(0,.vs [.int .i64 d,.int .i64 e,.imm f (.fl a) 1 1 0 (List.length a)]),(1,.vs [.int .i64 h,.int .i64 i,.imm j (.fl c) 1 1 0 (List.length c)])],2⟩
def vd(c:Int)(d:Int)(a:List Nat)(e:Int)(f:Int)(b:List Nat) :T ((Bool)⊕(ez)) :=
  .need (aP 0 (List.length a) a)<|.need (uX (pV c d (ab 0 (List.length a) a)))<|.ask (!(uY (pV c d (ab 0 (List.length a) a))))
    (.leaf (.inl true))
    (.need (aP 0 (List.length b) b)<|.need (uX (pV e f (ab 0 (List.length b) b)))<|.leaf (.inl (!(uY (pV e f (ab 0 (List.length b) b))))))
def Qk(d:Int)(e:Int)(f:Lv)(a:List Nat)(g:Lv)(b:List Nat)(h:Int)(i:Int)(j:Lv)(c:List Nat)(k:Bool) :aQ:=⟨ao 56 [(1,.imm g (.fl b) 1 1 0 (List.length b)),(3,.ptr 0 1 0 0),(5,.ptr 1 1 0 0),(40,.bool false k)],[(0,.vs [.int .i64 d,.int .i64 e,.imm f (.fl a) 1 1 0 (List.length a)]),(1,.vs [.int .i64 h,.int .i64 i,.imm j (.fl c) 1 1 0 (List.length c)])],2⟩
def mV(a:Int)(b:Int)(c:List Nat)(d:Int)(e:Int)(f:Bool) :T ((Bool)⊕(ez)) :=
  .ask f
    (.leaf (.inr (.r0 2)))
    (.ask (a != b)
      (.leaf (.inl true))
      (.ask ((((List.length c):Nat):Int) != a)
        (.leaf (.inl true))
        (.ask (d != a)
          (.leaf (.inl true))
          (.leaf (.inl (e != a))))))
def Ql(a:Bool) :aQ:=⟨ao 56 [(55,.bool false a)],[],0⟩
def ve(a:List Nat)(b:List Nat)(c:List Nat)(d:Bool) :T ((Bool)⊕(ez)) :=
  .ask d
    (.leaf (.inr (.r0 8)))
    (.need (aP 0 (List.length a) a)<|.need (mg (jc (ab 0 (List.length a) a)))<|.ask (!(mS (jc (ab 0 (List.length a) a))))
      (.leaf (.inl true))
      (.need (aP 0 (List.length b) b)<|.need (mg (jc (ab 0 (List.length b) b)))<|.ask (!(mS (jc (ab 0 (List.length b) b))))
        (.leaf (.inl true))
        (.need (aP 0 (List.length c) c)<|.need (mg (jc (ab 0 (List.length c) c)))<|.leaf (.inl (!(mS (jc (ab 0 (List.length c) c))))))))
def Qm(a:Bool) :T ((Empty)⊕(ez)) :=
  .ask a
    (.leaf (.inr (.r0 10)))
    (.leaf (.inr (.r0 0)))
def nN(a:Int)(b:Int)(c:List Nat)(d:List Nat)(e:Int)(f:Int)(g:List Nat) :Option ez:=jR (aE ((vd a b c e f g).run) fun h =>
  aE ((mV a b d e f h).run) fun i =>
  aE ((ve c d g i).run) fun j =>
  (Qm j).run)
theorem Qn(d:Int)(e:Int)(i:Lv)(a:List Nat)(j:Lv)(b:List Nat)(f:Int)(g:Int)(k:Lv)(c:List Nat){x:ez}(h:nN d e a b f g c=some x) :aw prog vL [] [.agg [.int .i64 d,.int .i64 e,.imm i (.fl a) 1 1 0 (List.length a)],.imm j (.fl b) 1 1 0 (List.length b),.agg [.int .i64 f,.int .i64 g,.imm k (.fl c) 1 1 0 (List.length c)]] (wv x) :=
  kp true wv Eq h (Sg.cut 2 vc (bk kL (Qj d e i a j b f g k c) [⟨[],[0,16],[1,3,5,14]⟩,⟨[],[0,16],[1,3,5,14]⟩]) (fun m=>Sg.cut 2 vc (bk kL (Qk d e i a j b f g k c) [⟨[],[],[6]⟩,⟨[],[0,1],[1,3,5,40]⟩,⟨[],[0,1],[1,3,5,40]⟩,⟨[],[0,1],[1,3,5,40]⟩,⟨[],[0,1],[1,3,5,40]⟩]) (fun n=>Sg.cut 2 vc (bk kL Ql [⟨[],[],[6]⟩,⟨[],[],[55]⟩,⟨[],[],[55]⟩,⟨[],[],[55]⟩]) (fun o=>bk kL _ [⟨[],[],[6]⟩,⟨[],[],[6]⟩]))))
    (fun x=>by cases x with | r0 l=>exact jT [.int .i64 ((l:Nat):Int)])
def pd:Option ez→Bool
  | some _=>true
  | none=>false
def qB:Option ez→Nat
  | some (.r0 x)=>x
  | _=>0
theorem Qo{x:Option ez}(h:pd x=true) :x=some (.r0 (qB x)):=by
  unfold pd at h
  split at h <;> first | rfl | (cases h;done) | (rename_i y;cases y;rfl)
def Er:aL:=bJ vL (.cons (.agg (.cons (.int .i64) (.cons (.int .i64) (.cons .fl .nil)))) (.cons .fl (.cons (.agg (.cons (.int .i64) (.cons (.int .i64) (.cons .fl .nil)))) .nil))) fun t=>(fun q=>[⟨wv (.r0 (qB q)),[pd q]⟩]) (nN t.1.1 t.1.2.1 t.1.2.2.1.2 t.2.1.2 t.2.2.1.1 t.2.2.1.2.1 t.2.2.1.2.2.1.2)
theorem Ka:aV prog Er:=aR fun t=>(aS (fun h=>Qn t.1.1 t.1.2.1 t.1.2.2.1.1 t.1.2.2.1.2 t.2.1.1 t.2.1.2 t.2.2.1.1 t.2.2.1.2.1 t.2.2.1.2.2.1.1 t.2.2.1.2.2.1.2 (Qo h)) aZ)
def Es:List aL:=Er :: Ep
theorem qC:bd prog (bf Es):=au Ka kL
inductive j0 where
  | r0 (a:Bool)
def Qp:j0→AE×aQ
  | .r0 a=>(.ret,⟨ao 15 [(4,.bool false a)],[],0⟩)
theorem ac4:jC Qp:=by intro x;cases x <;> (intro h;cases h)
def GE:j0→gX
  | .r0 a=>⟨.bool false a,[]⟩
def ac5(a:Int) :aQ:=⟨ao 15 [(5,.int .i64 a)],[],0⟩
def LO(c:Bool)(a:List Int)(d:Int)(e:Bool)(b:List Int)(f:Int) :T ((Int)⊕(j0)) :=
  .need (aP 0 (List.length a) a)<|.need (aP 0 (List.length b) b)<|.need (zd (xH c (ab 0 (List.length a) a) d e (ab 0 (List.length b) b) f))<|.leaf (.inl (Aj (xH c (ab 0 (List.length a) a) d e (ab 0 (List.length b) b) f)))
def ac6(a:Int) :T ((Empty)⊕(j0)) :=
  .leaf (.inr (.r0 (decide (a≤(0:Int)))))
def mW(a:Bool)(b:List Int)(c:Int)(d:Bool)(e:List Int)(f:Int) :Option j0:=jR (aE ((LO a b c d e f).run) fun g =>
  (ac6 g).run)
theorem ac7(c:Bool)(g:Lv)(a:List Int)(d:Int)(e:Bool)(i:Lv)(b:List Int)(f:Int){x:j0}(h:mW c a d e b f=some x) :aw prog EY [] [.agg [.bool false c,.imm g (.ns .u64 a) 1 1 0 (List.length a),.int .i64 d],.agg [.bool false e,.imm i (.ns .u64 b) 1 1 0 (List.length b),.int .i64 f]] (GE x) :=
  kp true GE Qp h (Sg.cut 2 ac4 (bk qC ac5 [⟨[],[],[5]⟩]) (fun k=>bk qC _ [⟨[],[],[4]⟩]))
    (fun x=>by cases x with | r0 j=>exact jT [.bool false j])
def rP:Option j0→Bool
  | some _=>true
  | none=>false
def sI:Option j0→Bool
  | some (.r0 x)=>x
  | _=>false
theorem ac8{x:Option j0}(h:rP x=true) :x=some (.r0 (sI x)):=by
  unfold rP at h
  split at h <;> first | rfl | (cases h;done) | (rename_i y;cases y;rfl)
def Qq:aL:=bJ EY (.cons (.agg (.cons .bool (.cons (.ns .u64) (.cons (.int .i64) .nil)))) (.cons (.agg (.cons .bool (.cons (.ns .u64) (.cons (.int .i64) .nil)))) .nil)) fun t=>(fun q=>[⟨GE (.r0 (sI q)),[rP q]⟩]) (mW t.1.1 t.1.2.1.2 t.1.2.2.1 t.2.1.1 t.2.1.2.1.2 t.2.1.2.2.1)
theorem UG:aV prog Qq:=aR fun t=>(aS (fun h=>ac7 t.1.1 t.1.2.1.1 t.1.2.1.2 t.1.2.2.1 t.2.1.1 t.2.1.2.1.1 t.2.1.2.1.2 t.2.1.2.2.1 (ac8 h)) aZ)
def Qr:List aL:=Qq :: Es
theorem mh:bd prog (bf Qr):=au UG qC
inductive iG where
  | r0 (a:Bool)
def Cd:iG→AE×aQ
  | .r0 a=>(.ret,⟨ao 47 [(6,.bool false a)],[],0⟩)
theorem vf:jC Cd:=by intro x;cases x <;> (intro h;cases h)
theorem ahT(id:Nat) :m5 id Cd:=by intro x;cases x <;> (intro h;cases h)
def Jk:iG→gX
  | .r0 a=>⟨.bool false a,[]⟩
def ahU:List Code:=cP (nO Bw)
def ahV(d:Int)(e:Int)(f:Lv)(a:List Nat)(g:Lv)(b:List Nat)(h:Int)(i:Int)(j:Lv)(c:List Nat)(_:Unit) :aQ:=⟨ao 47 [(1,.imm g (.fl b) 1 1 0 (List.length b)),(3,.ptr 0 1 0 0),(5,.ptr 1 1 0 0),(7,.int .i64 (1:Int))],[(0,.vs [.int .i64 d,.int .i64 e,.imm f (.fl a) 1 1 0 (List.length a)]),(1,.vs [.int .i64 h,.int .i64 i,.imm j (.fl c) 1 1 0 (List.length c)])],2⟩
def ahW:T ((Unit)⊕(iG)) :=
  .leaf (.inl ())
def GF(d:Int)(e:Int)(f:Lv)(a:List Nat)(g:Lv)(b:List Nat)(h:Int)(i:Int)(j:Lv)(c:List Nat)(k:Nat) :aQ:=⟨ao 47 [(1,.imm g (.fl b) 1 1 0 (List.length b)),(3,.ptr 0 1 0 0),(5,.ptr 1 1 0 0),(7,.int .i64 ((k:Nat):Int))],[(0,.vs [.int .i64 d,.int .i64 e,.imm f (.fl a) 1 1 0 (List.length a)]),(1,.vs [.int .i64 h,.int .i64 i,.imm j (.fl c) 1 1 0 (List.length c)])],2⟩
def Qs(d:Int)(e:Int)(f:Lv)(a:List Nat)(g:Lv)(b:List Nat)(h:Int)(i:Int)(j:Lv)(c:List Nat)(_:Unit) :aQ:=⟨ao 47 [(1,.imm g (.fl b) 1 1 0 (List.length b)),(3,.ptr 0 1 0 0),(5,.ptr 1 1 0 0)],[(0,.vs [.int .i64 d,.int .i64 e,.imm f (.fl a) 1 1 0 (List.length a)]),(1,.vs [.int .i64 h,.int .i64 i,.imm j (.fl c) 1 1 0 (List.length c)])],2⟩
def ac9:List Code:=cP (dD ((((ahU.drop 2).take 1)).headD .skip))
def rQ(b:List Nat)(a:Nat) :T ((Nat)⊕((Unit)⊕(iG))) :=
  .ask (decide (((a:Nat):Int) < (((List.length b):Nat):Int)))
    (.need (gD ((a:Nat):Int) (List.length b))<|.need (im a (List.length b))<|.need (dn .i64 (((a:Nat):Int) - (1:Int)))<|.need (gD (((a:Nat):Int) - (1:Int)) (List.length b))<|.need (im (Int.toNat (((a:Nat):Int) - (1:Int))) (List.length b))<|.ask (flt (List.getD b a 0) (List.getD b (Int.toNat (((a:Nat):Int) - (1:Int))) 0))
      (.leaf (.inr (.inr (.r0 false))))
      (.need (dn .i64 (((a+1):Nat):Int))<|.leaf (.inl (a+1))))
    (.leaf (.inr (.inl ())))
def xo(a:List Nat) :Nat→Option ((Nat)⊕((Unit)⊕(iG))):=fun b =>
  (rQ a b).run
theorem ada(b:Int)(c:Int)(d:Lv)(e:List Nat)(f:Lv)(a:List Nat)(g:Int)(h:Int)(i:Lv)(j:List Nat)(k:Nat) :Sg prog [] ac9 (GF b c d e f a g h i j k) (xo a k) (GF b c d e f a g h i j) (cL 0 (Qs b c d e f a g h i j) Cd):=by
  unfold xo;exact bk mh _ [⟨[],[],[6]⟩,⟨[],[0,1],[1,3,5,7]⟩,⟨[],[0,1],[1,3,5]⟩]
def ahX(d:Int)(e:Int)(f:Lv)(a:List Nat)(g:Lv)(b:List Nat)(h:Int)(i:Int)(j:Lv)(c:List Nat) :Bool×(List Int)×Nat×Int→aQ:=fun (k,l,m,n)=>⟨ao 47 [(1,.imm g (.fl b) 1 1 0 (List.length b)),(3,.ptr 0 1 0 0),(5,.ptr 1 1 0 0),(8,.ptr 2 1 0 0)],[(0,.vs [.int .i64 d,.int .i64 e,.imm f (.fl a) 1 1 0 (List.length a)]),(1,.vs [.int .i64 h,.int .i64 i,.imm j (.fl c) 1 1 0 (List.length c)]),(2,.vs [.bool false k,.imm .free (.ns .u64 l) 1 1 0 m,.int .i64 n])],3⟩
def LP(a:Int) :T ((Bool×(List Int)×Nat×Int)⊕(iG)) :=
  .need (uW (lh a a))<|.leaf (.inl ((wj (lh a a)),(wk (lh a a)),(wl (lh a a)),(wm (lh a a))))
def ahY(a:Bool) :aQ:=⟨ao 47 [(6,.bool false a)],[],0⟩
def D1(j:Int)(a:List Nat)(d:List Nat)(e:Int)(c:Int)(b:List Nat)(h:Bool)(f:List Int)(g:Nat)(i:Int) :T ((Bool)⊕(iG)) :=
  .need (aP 0 (List.length b) b)<|.need (rO (fi e c (ab 0 (List.length b) b)))<|.need (aP 0 (mf (fi e c (ab 0 (List.length b) b))) (me (fi e c (ab 0 (List.length b) b))))<|.need (aP 0 g f)<|.need (rP (mW (oP (fi e c (ab 0 (List.length b) b))) (ab 0 (mf (fi e c (ab 0 (List.length b) b))) (me (fi e c (ab 0 (List.length b) b)))) (oQ (fi e c (ab 0 (List.length b) b))) h (ab 0 g f) i))<|.ask (sI (mW (oP (fi e c (ab 0 (List.length b) b))) (ab 0 (mf (fi e c (ab 0 (List.length b) b))) (me (fi e c (ab 0 (List.length b) b)))) (oQ (fi e c (ab 0 (List.length b) b))) h (ab 0 g f) i))
    (.need (aP 0 (List.length a) a)<|.need (aP 0 (List.length b) b)<|.need (aP 0 (List.length b) b)<|.need (aP 0 (List.length d) d)<|.need (mU (c5 j (ab 0 (List.length a) a) c (ab 0 (List.length b) b) e c (ab 0 (List.length b) b) (ab 0 (List.length d) d)))<|.need (aP 0 (List.length a) a)<|.need (rK (ba (ab 0 (List.length a) a)))<|.need (aP 0 g f)<|.need (aP 0 (db (ba (ab 0 (List.length a) a))) (da (ba (ab 0 (List.length a) a))))<|.need (cD (ai h (ab 0 g f) i (dk (ba (ab 0 (List.length a) a))) (ab 0 (db (ba (ab 0 (List.length a) a))) (da (ba (ab 0 (List.length a) a)))) (dl (ba (ab 0 (List.length a) a)))))<|.need (aP 0 (jg (c5 j (ab 0 (List.length a) a) c (ab 0 (List.length b) b) e c (ab 0 (List.length b) b) (ab 0 (List.length d) d))) (jf (c5 j (ab 0 (List.length a) a) c (ab 0 (List.length b) b) e c (ab 0 (List.length b) b) (ab 0 (List.length d) d))))<|.need (aP 0 (aG (ai h (ab 0 g f) i (dk (ba (ab 0 (List.length a) a))) (ab 0 (db (ba (ab 0 (List.length a) a))) (da (ba (ab 0 (List.length a) a)))) (dl (ba (ab 0 (List.length a) a))))) (aF (ai h (ab 0 g f) i (dk (ba (ab 0 (List.length a) a))) (ab 0 (db (ba (ab 0 (List.length a) a))) (da (ba (ab 0 (List.length a) a)))) (dl (ba (ab 0 (List.length a) a))))))<|.need (rP (mW (kJ (c5 j (ab 0 (List.length a) a) c (ab 0 (List.length b) b) e c (ab 0 (List.length b) b) (ab 0 (List.length d) d))) (ab 0 (jg (c5 j (ab 0 (List.length a) a) c (ab 0 (List.length b) b) e c (ab 0 (List.length b) b) (ab 0 (List.length d) d))) (jf (c5 j (ab 0 (List.length a) a) c (ab 0 (List.length b) b) e c (ab 0 (List.length b) b) (ab 0 (List.length d) d)))) (kK (c5 j (ab 0 (List.length a) a) c (ab 0 (List.length b) b) e c (ab 0 (List.length b) b) (ab 0 (List.length d) d))) (aN (ai h (ab 0 g f) i (dk (ba (ab 0 (List.length a) a))) (ab 0 (db (ba (ab 0 (List.length a) a))) (da (ba (ab 0 (List.length a) a)))) (dl (ba (ab 0 (List.length a) a))))) (ab 0 (aG (ai h (ab 0 g f) i (dk (ba (ab 0 (List.length a) a))) (ab 0 (db (ba (ab 0 (List.length a) a))) (da (ba (ab 0 (List.length a) a)))) (dl (ba (ab 0 (List.length a) a))))) (aF (ai h (ab 0 g f) i (dk (ba (ab 0 (List.length a) a))) (ab 0 (db (ba (ab 0 (List.length a) a))) (da (ba (ab 0 (List.length a) a)))) (dl (ba (ab 0 (List.length a) a)))))) (aO (ai h (ab 0 g f) i (dk (ba (ab 0 (List.length a) a))) (ab 0 (db (ba (ab 0 (List.length a) a))) (da (ba (ab 0 (List.length a) a)))) (dl (ba (ab 0 (List.length a) a)))))))<|.leaf (.inl (sI (mW (kJ (c5 j (ab 0 (List.length a) a) c (ab 0 (List.length b) b) e c (ab 0 (List.length b) b) (ab 0 (List.length d) d))) (ab 0 (jg (c5 j (ab 0 (List.length a) a) c (ab 0 (List.length b) b) e c (ab 0 (List.length b) b) (ab 0 (List.length d) d))) (jf (c5 j (ab 0 (List.length a) a) c (ab 0 (List.length b) b) e c (ab 0 (List.length b) b) (ab 0 (List.length d) d)))) (kK (c5 j (ab 0 (List.length a) a) c (ab 0 (List.length b) b) e c (ab 0 (List.length b) b) (ab 0 (List.length d) d))) (aN (ai h (ab 0 g f) i (dk (ba (ab 0 (List.length a) a))) (ab 0 (db (ba (ab 0 (List.length a) a))) (da (ba (ab 0 (List.length a) a)))) (dl (ba (ab 0 (List.length a) a))))) (ab 0 (aG (ai h (ab 0 g f) i (dk (ba (ab 0 (List.length a) a))) (ab 0 (db (ba (ab 0 (List.length a) a))) (da (ba (ab 0 (List.length a) a)))) (dl (ba (ab 0 (List.length a) a))))) (aF (ai h (ab 0 g f) i (dk (ba (ab 0 (List.length a) a))) (ab 0 (db (ba (ab 0 (List.length a) a))) (da (ba (ab 0 (List.length a) a)))) (dl (ba (ab 0 (List.length a) a)))))) (aO (ai h (ab 0 g f) i (dk (ba (ab 0 (List.length a) a))) (ab 0 (db (ba (ab 0 (List.length a) a))) (da (ba (ab 0 (List.length a) a)))) (dl (ba (ab 0 (List.length a) a)))))))))
    (.leaf (.inl false))
def adb(a:Bool) :T ((Empty)⊕(iG)) :=
  .leaf (.inr (.r0 a))
def xK(b:Int)(c:Int)(d:List Nat)(a:List Nat)(e:Int)(f:Int)(g:List Nat) :Option iG:=jR (aE ((ahW).run) fun _ =>
  aE (dc (xo a) 1) fun _ =>
  aE ((LP b).run) fun (h,i,j,k) =>
  aE ((D1 c d a e f g h i j k).run) fun l =>
  (adb l).run)
theorem ahZ(d:Int)(e:Int)(i:Lv)(a:List Nat)(j:Lv)(b:List Nat)(f:Int)(g:Int)(k:Lv)(c:List Nat){x:iG}(h:xK d e a b f g c=some x) :aw prog Bw [] [.agg [.int .i64 d,.int .i64 e,.imm i (.fl a) 1 1 0 (List.length a)],.imm j (.fl b) 1 1 0 (List.length b),.agg [.int .i64 f,.int .i64 g,.imm k (.fl c) 1 1 0 (List.length c)]] (Jk x) :=
  kp true Jk Cd h (Sg.cut 2 vf (bk mh (ahV d e i a j b f g k c) [⟨[],[0,16],[1,3,5,7]⟩]) (fun _=>Sg.cut 1 vf (BM ⟨[],[0,1],[1,3,5,7]⟩ (GF d e i a j b f g k c) (Qs d e i a j b f g k c) 0 vf (ahT _) (fun l=>ada d e i a j b f g k c l)) (fun _=>Sg.cut 1 vf (bk mh (ahX d e i a j b f g k c) [⟨[],[0,1,82],[1,3,5,8]⟩]) (fun ⟨n,o,p,q⟩=>Sg.cut 1 vf (bk mh ahY [⟨[],[],[6]⟩,⟨[],[],[6]⟩]) (fun r=>bk mh _ [⟨[],[],[6]⟩])))))
    (fun x=>by cases x with | r0 m=>exact jT [.bool false m])
def zo:Option iG→Bool
  | some _=>true
  | none=>false
def Bg:Option iG→Bool
  | some (.r0 x)=>x
  | _=>false
theorem ah0{x:Option iG}(h:zo x=true) :x=some (.r0 (Bg x)):=by
  unfold zo at h
  split at h <;> first | rfl | (cases h;done) | (rename_i y;cases y;rfl)
def TB:aL:=bJ Bw (.cons (.agg (.cons (.int .i64) (.cons (.int .i64) (.cons .fl .nil)))) (.cons .fl (.cons (.agg (.cons (.int .i64) (.cons (.int .i64) (.cons .fl .nil)))) .nil))) fun t=>(fun q=>[⟨Jk (.r0 (Bg q)),[zo q]⟩]) (xK t.1.1 t.1.2.1 t.1.2.2.1.2 t.2.1.2 t.2.2.1.1 t.2.2.1.2.1 t.2.2.1.2.2.1.2)
theorem Za:aV prog TB:=aR fun t=>(aS (fun h=>ahZ t.1.1 t.1.2.1 t.1.2.2.1.1 t.1.2.2.1.2 t.2.1.1 t.2.1.2 t.2.2.1.1 t.2.2.1.2.1 t.2.2.1.2.2.1.1 t.2.2.1.2.2.1.2 (ah0 h)) aZ)
def TC:List aL:=TB :: Qr
theorem km:bd prog (bf TC):=au Za mh
inductive dm where
  | r0 (a:Bool)
def G8:dm→AE×aQ
  | .r0 a=>(.ret,⟨ao 51 [(6,.bool false a)],[],0⟩)
theorem lC:jC G8:=by intro x;cases x <;> (intro h;cases h)
def yD:dm→gX
  | .r0 a=>⟨.bool false a,[]⟩
def Ry(d:Int)(e:Int)(f:Lv)(a:List Nat)(g:Lv)(b:List Nat)(h:Int)(i:Int)(j:Lv)(c:List Nat)(k:Bool) :aQ:=⟨ao 51 [(1,.imm g (.fl b) 1 1 0 (List.length b)),(3,.ptr 0 1 0 0),(5,.ptr 1 1 0 0),(19,.bool false k)],[(0,.vs [.int .i64 d,.int .i64 e,.imm f (.fl a) 1 1 0 (List.length a)]),(1,.vs [.int .i64 h,.int .i64 i,.imm j (.fl c) 1 1 0 (List.length c)])],2⟩
def Et(a : List Nat)(b : List Nat)(c : List Nat) : T ((Bool) ⊕ (dm)) :=
  .ask (decide ((0:Int) < (2:Int)))
    (.need (gD (0:Int) 2)<|.ask (decide ((((List.length a):Nat):Int) > (36:Int)))
      (.leaf (.inl true))
      (.need (dn .i64 (1:Int))<|.ask (decide ((1:Int) < (2:Int)))
        (.need (gD (1:Int) 2)<|.ask (decide ((((List.length c):Nat):Int) > (36:Int)))
          (.leaf (.inl true))
          (.need (dn .i64 (2:Int))<|.ask (decide ((2:Int) < (2:Int)))
            (.fail)
            (.leaf (.inl (decide ((((List.length b):Nat):Int) > (36:Int)))))))
        (.fail)))
    (.fail)
def Rz(d:Int)(e:Int)(f:Lv)(a:List Nat)(g:Lv)(b:List Nat)(h:Int)(i:Int)(j:Lv)(c:List Nat)(_:Unit) :aQ:=⟨ao 51 [(1,.imm g (.fl b) 1 1 0 (List.length b)),(3,.ptr 0 1 0 0),(5,.ptr 1 1 0 0)],[(0,.vs [.int .i64 d,.int .i64 e,.imm f (.fl a) 1 1 0 (List.length a)]),(1,.vs [.int .i64 h,.int .i64 i,.imm j (.fl c) 1 1 0 (List.length c)])],2⟩
def ww(a:Bool) :T ((Unit)⊕(dm)) :=
  .ask a
    (.need (nJ (jZ))<|.leaf (.inr (.r0 (nK (jZ)))))
    (.leaf (.inl ()))
def RA(d:Int)(e:Int)(f:Lv)(a:List Nat)(g:Lv)(b:List Nat)(h:Int)(i:Int)(j:Lv)(c:List Nat) :Bool×Int→aQ:=fun (k,l)=>⟨ao 51 [(1,.imm g (.fl b) 1 1 0 (List.length b)),(3,.ptr 0 1 0 0),(5,.ptr 1 1 0 0),(7,.bool false k),(8,.int .i64 l)],[(0,.vs [.int .i64 d,.int .i64 e,.imm f (.fl a) 1 1 0 (List.length a)]),(1,.vs [.int .i64 h,.int .i64 i,.imm j (.fl c) 1 1 0 (List.length c)])],2⟩
def vg(d:Int)(e:Int)(a:List Nat)(b:List Nat)(f:Int)(g:Int)(c:List Nat) :T ((Bool×Int)⊕(dm)) :=
  .need (aP 0 (List.length a) a)<|.need (aP 0 (List.length b) b)<|.need (aP 0 (List.length c) c)<|.need (pU (eO d e (ab 0 (List.length a) a) (ab 0 (List.length b) b) f g (ab 0 (List.length c) c)))<|.leaf (.inl ((oZ (eO d e (ab 0 (List.length a) a) (ab 0 (List.length b) b) f g (ab 0 (List.length c) c))),(o0 (eO d e (ab 0 (List.length a) a) (ab 0 (List.length b) b) f g (ab 0 (List.length c) c)))))
def RB(d:Int)(e:Int)(f:Lv)(a:List Nat)(g:Lv)(b:List Nat)(h:Int)(i:Int)(j:Lv)(c:List Nat)(k:Bool)(l:Int)(m:Nat) :aQ:=⟨ao 51 [(1,.imm g (.fl b) 1 1 0 (List.length b)),(3,.ptr 0 1 0 0),(5,.ptr 1 1 0 0),(7,.bool false k),(8,.int .i64 l),(9,.int .i64 ((m:Nat):Int))],[(0,.vs [.int .i64 d,.int .i64 e,.imm f (.fl a) 1 1 0 (List.length a)]),(1,.vs [.int .i64 h,.int .i64 i,.imm j (.fl c) 1 1 0 (List.length c)])],2⟩
def m4(d:Int)(e:Int)(a:List Nat)(b:List Nat)(f:Int)(g:Int)(c:List Nat) :T ((Nat)⊕(dm)) :=
  .need (aP 0 (List.length a) a)<|.need (aP 0 (List.length b) b)<|.need (aP 0 (List.length c) c)<|.need (pd (nN d e (ab 0 (List.length a) a) (ab 0 (List.length b) b) f g (ab 0 (List.length c) c)))<|.leaf (.inl (qB (nN d e (ab 0 (List.length a) a) (ab 0 (List.length b) b) f g (ab 0 (List.length c) c))))
def RC(d:Int)(e:Int)(f:Lv)(a:List Nat)(g:Lv)(b:List Nat)(h:Int)(i:Int)(j:Lv)(c:List Nat)(k:Bool)(_:Unit) :aQ:=⟨ao 51 [(1,.imm g (.fl b) 1 1 0 (List.length b)),(3,.ptr 0 1 0 0),(5,.ptr 1 1 0 0),(7,.bool false k)],[(0,.vs [.int .i64 d,.int .i64 e,.imm f (.fl a) 1 1 0 (List.length a)]),(1,.vs [.int .i64 h,.int .i64 i,.imm j (.fl c) 1 1 0 (List.length c)])],2⟩
def vh(b:Bool)(c:Int)(a:Nat) :T ((Unit)⊕(dm)) :=
  .ask (c != ((a:Nat):Int))
    (.leaf (.inr (.r0 false)))
    (.ask (((a:Nat):Int) != (0:Int))
      (.ask (!b)
        (.need (nJ (jZ))<|.leaf (.inr (.r0 (nK (jZ)))))
        (.leaf (.inr (.r0 false))))
      (.leaf (.inl ())))
def RD(a:Bool) :aQ:=⟨ao 51 [(6,.bool false a)],[],0⟩
def vi(d:Int)(e:Int)(a:List Nat)(b:List Nat)(f:Int)(g:Int)(c:List Nat)(h:Bool) :T ((Bool)⊕(dm)) :=
  .need (aP 0 (List.length a) a)<|.need (aP 0 (List.length b) b)<|.need (aP 0 (List.length c) c)<|.need (zo (xK d e (ab 0 (List.length a) a) (ab 0 (List.length b) b) f g (ab 0 (List.length c) c)))<|.ask (h == (Bg (xK d e (ab 0 (List.length a) a) (ab 0 (List.length b) b) f g (ab 0 (List.length c) c))))
    (.need (nJ (jZ))<|.leaf (.inl (nK (jZ))))
    (.leaf (.inl false))
def Qt(a:Bool) :T ((Empty)⊕(dm)) :=
  .leaf (.inr (.r0 a))
def yE(d:Int)(e:Int)(a:List Nat)(b:List Nat)(f:Int)(g:Int)(c:List Nat) :Option dm:=jR (aE ((Et a b c).run) fun i =>
  aE ((ww i).run) fun _ =>
  aE ((vg d e a b f g c).run) fun (h,j) =>
  aE ((m4 d e a b f g c).run) fun k =>
  aE ((vh h j k).run) fun _ =>
  aE ((vi d e a b f g c h).run) fun l =>
  (Qt l).run)
theorem Eu(d:Int)(e:Int)(i:Lv)(a:List Nat)(j:Lv)(b:List Nat)(f:Int)(g:Int)(k:Lv)(c:List Nat){x:dm}(h:yE d e a b f g c=some x) :aw prog GV [] [.agg [.int .i64 d,.int .i64 e,.imm i (.fl a) 1 1 0 (List.length a)],.imm j (.fl b) 1 1 0 (List.length b),.agg [.int .i64 f,.int .i64 g,.imm k (.fl c) 1 1 0 (List.length c)]] (yD x) :=
  kp false yD G8 h (Sg.cut 2 lC (bk km (Ry d e i a j b f g k c) [⟨[],[0,16],[1,3,5,19]⟩,⟨[],[0,16],[1,3,5,19]⟩,⟨[],[0,16],[1,3,5,19]⟩]) (fun o=>Sg.cut 1 lC (bk km (Rz d e i a j b f g k c) [⟨[],[],[6]⟩,⟨[],[0,1],[1,3,5]⟩]) (fun _=>Sg.cut 1 lC (bk km (RA d e i a j b f g k c) [⟨[],[0,1],[1,3,5,7,8]⟩]) (fun ⟨l,m⟩=>Sg.cut 1 lC (bk km (RB d e i a j b f g k c l m) [⟨[],[0,1],[1,3,5,7,8,9]⟩]) (fun p=>Sg.cut 4 lC (bk km (RC d e i a j b f g k c l) [⟨[],[],[6]⟩,⟨[],[],[6]⟩,⟨[],[],[6]⟩,⟨[],[0,1],[1,3,5,7]⟩]) (fun _=>Sg.cut 1 lC (bk km RD [⟨[],[],[6]⟩,⟨[],[],[6]⟩]) (fun q=>bk km _ [⟨[],[],[6]⟩])))))))
    (fun x=>by cases x with | r0 n=>exact jT [.bool false n])
def wx:Option dm→Bool
  | some _=>true
  | none=>false
def Bh:Option dm→Bool
  | some (.r0 x)=>x
  | _=>false
theorem RE{x:Option dm}(h:wx x=true) :x=some (.r0 (Bh x)):=by
  unfold wx at h
  split at h <;> first | rfl | (cases h;done) | (rename_i y;cases y;rfl)
def G9:aL:=bJ GV (.cons (.agg (.cons (.int .i64) (.cons (.int .i64) (.cons .fl .nil)))) (.cons .fl (.cons (.agg (.cons (.int .i64) (.cons (.int .i64) (.cons .fl .nil)))) .nil))) fun t=>(fun q=>[⟨yD (.r0 (Bh q)),[wx q]⟩]) (yE t.1.1 t.1.2.1 t.1.2.2.1.2 t.2.1.2 t.2.2.1.1 t.2.2.1.2.1 t.2.2.1.2.2.1.2)
theorem Nq:aV prog G9:=aR fun t=>(aS (fun h=>Eu t.1.1 t.1.2.1 t.1.2.2.1.1 t.1.2.2.1.2 t.2.1.1 t.2.1.2 t.2.2.1.1 t.2.2.1.2.1 t.2.2.1.2.2.1.1 t.2.2.1.2.2.1.2 (RE h)) aZ)
def UH:List aL:=G9 :: TC
theorem anq:bd prog (bf UH):=au Nq km
end
end Go.Plb.Seat
namespace Go.Plb.Seat
open Go Go.Plb
set_option linter.unusedSimpArgs false
set_option linter.unusedVariables false
theorem GG{α:Type}{n:Nat}{l:List α}(h:l.length=n) :aP 0 n l=true:=by rw [← h];exact aiY l
theorem ap{α:Type}{b:Bool}{t:T α}{x:Option α}(k:t.run=x)(h:b=true:=by simp only [cy,yF,zN,nk,n5,gE,n6,n7,decide_eq_true_eq,decide_eq_false_iff_not,beq_iff_eq,beq_eq_false_iff_ne,bne_iff_ne,bne_eq_false_iff_eq,Bool.not_eq_true',Bool.not_eq_false',List.length_set,ne_eq,ge_iff_le,gt_iff_lt,kH,cj,vC];omega) :(T.need b t).run=x:=cH h k
theorem ck{α:Type}{b:Bool}{t f:T α}{x:Option α}(k:t.run=x)(h:b=true:=by simp only [cy,yF,zN,nk,n5,gE,n6,n7,decide_eq_true_eq,decide_eq_false_iff_not,beq_iff_eq,beq_eq_false_iff_ne,bne_iff_ne,bne_eq_false_iff_eq,Bool.not_eq_true',Bool.not_eq_false',List.length_set,ne_eq,ge_iff_le,gt_iff_lt,kH,cj,vC];omega) :(T.ask b t f).run=x:=jz h k
theorem cx{α:Type}{b:Bool}{t f:T α}{x:Option α}(k:f.run=x)(h:b=false:=by simp only [cy,yF,zN,nk,n5,gE,n6,n7,decide_eq_true_eq,decide_eq_false_iff_not,beq_iff_eq,beq_eq_false_iff_ne,bne_iff_ne,bne_eq_false_iff_eq,Bool.not_eq_true',Bool.not_eq_false',List.length_set,ne_eq,ge_iff_le,gt_iff_lt,kH,cj,vC];omega) :(T.ask b t f).run=x:=cE h k
theorem bN{α:Type}{b:Bool}{t:T α}{x:Option α}(k:t.run=x)(h:b=true:=by exact GG aq) :(T.need b t).run=x:=cH h k
theorem bv{v n m:Nat}(h:m≤n) :aP 0 m (ax v n)=true:=by rw [gE,aq];omega
theorem ku{v n:Nat}(h:v < W ^ n)(hn:n≤1000000000) :aJ (ax v n)=some (.r0 (ax v n) (nl v)):=by
  have hl:=iJ h
  refine aY (ak rfl (ak (a:=nl v) (bO (fun j=>n - j) (n - nl v) (by simp only [aq];rfl) (fun j hj=>?_) ?_) rfl))
  · show aE (ua _ _).run _=_
    have e:Int.toNat (((n - j:Nat):Int) - 1)=n - (j+1):=by omega
    have z:(ax v n).getD (n - (j+1)) 0=0:=by
      rw [cp h]
      exact BI (Nat.lt_of_lt_of_le (cq v) (Nat.pow_le_pow_right (by decide) (by omega)))
    refine ak (a:=true) ?_ ?_
    · unfold ua
      rw [e,z,aq]
      exact ck (ap (ap (ap rfl)))
    · unfold Ol
      rw [e]
      exact bm (ap (ap (ap rfl)))
  · have e0:n - (n - nl v)=nl v:=by omega
    show aE (ua _ _).run _=_
    rw [e0]
    by_cases h0:v=0
    · have z:=iN.2 h0
      rw [z]
      exact ak (a:=false) (aW rfl) (aW rfl)
    · have hp:=xQ h0
      have e:Int.toNat (((nl v:Nat):Int) - 1)=nl v - 1:=by omega
      refine ak (a:=false) ?_ (aW rfl)
      unfold ua
      rw [e,cp h,aq]
      refine ck (ap (ap (ap ?_)))
      show some (Sum.inl _)=_
      congr 2
      rw [beq_eq_false_iff_ne];exact aeS h0
theorem Bi{v n:Nat}(h:v < W ^ n)(hn:n≤1000000000) :bH (ax v n) 0 n n=some (.r0 0 (nl v) n (ax v n)):=by
  have hl:=iJ h
  refine aY (ak rfl (ak (a:=(0,nl v)) (bO (fun j=>(0,n - j)) (n - nl v) rfl (fun j hj=>?_) ?_) rfl))
  · show aE (oB _ _ _).run _=_
    have e:Int.toNat (((n - j:Nat):Int) - 1)=n - (j+1):=by omega
    have z:(ax v n).getD (n - (j+1)) 0=0:=by
      rw [cp h]
      exact BI (Nat.lt_of_lt_of_le (cq v) (Nat.pow_le_pow_right (by decide) (by omega)))
    refine ak (a:=true) ?_ ?_
    · unfold oB
      rw [e,nj,Nat.zero_add,z,aq]
      exact ck (ap (ap (ap rfl)))
    · unfold GY
      rw [e]
      exact bm (ap (ap (ap rfl)))
  · have e0:n - (n - nl v)=nl v:=by omega
    show aE (oB _ _ _).run _=_
    rw [e0]
    by_cases h0:v=0
    · have z:=iN.2 h0
      rw [z]
      exact ak (a:=false) (aW rfl) (aW rfl)
    · have hp:=xQ h0
      have e:Int.toNat (((nl v:Nat):Int) - 1)=nl v - 1:=by omega
      refine ak (a:=false) ?_ (aW rfl)
      unfold oB
      rw [e,nj,Nat.zero_add,cp h,aq]
      refine ck (ap (ap (ap ?_)))
      show some (Sum.inl _)=_
      congr 2
      rw [beq_eq_false_iff_ne];exact aeS h0
theorem ad3{v n:Nat}(h:v < W ^ n)(hn:n≤1000000000) :px (ax v n)=some (if 4096 < nl v then .r0 0 2 [] else .r0 (nl v) 0 (ax v (nl v))):=by
  have hl:=iJ h
  have hc:ab 0 (ax v n).length (ax v n)=ax v n:=az _
  by_cases hb:4096 < nl v
  · rw [if_pos hb]
    refine aY (ak (a:=(2,ax v n,nl v)) ?_ (bm rfl))
    unfold HU
    rw [hc,ku h hn]
    simp only [cF,bh,aU]
    exact bm (am (aT (am (ck rfl))))
  · rw [if_neg hb]
    refine aY (ak (a:=(0,ax v n,nl v)) ?_ ?_)
    · unfold HU
      rw [hc,ku h hn]
      simp only [cF,bh,aU]
      exact bm (am (aT (am (cx (am (aW rfl))))))
    · show (HV _ _ _).run=_
      unfold HV
      rw [bT hl,aq]
      exact aW (cH (bv hl) (ap rfl))
theorem aos{v:Nat}(h:v < W) :bW (v:Int)=some (.r0 0 (nl v) 1 (ax v 1)):=by
  have e:([(v:Int)]:List Int)=ax v 1:=by
    show [(v:Int)] = [] ++ [lm v 0]
    unfold lm;rw [Nat.pow_zero,Nat.div_one,Nat.mod_eq_of_lt h];rfl
  refine aY (ak (a:=(0,nl v,1,ax v 1)) ?_ rfl)
  unfold adz
  rw [e,Bi (by rw [Nat.pow_one];exact h) (by decide)]
  exact am rfl
theorem ad4{v n:Nat}(h:v < W ^ n)(hn:n≤1000000000) :iq (ax v n) 0 n n=some (if 4096 < nl v then .r0 (ax v n) else .r1 0 (nl v) n (ax v n)):=by
  refine aY (ak (a:=(0,nl v,n,ax v n)) ?_ ?_)
  · unfold Sb
    rw [Bi h hn]
    exact am rfl
  · by_cases hb:4096 < nl v
    · rw [if_pos hb];exact ck rfl
    · rw [if_neg hb];exact cx rfl
theorem akX{a b:Nat}(ha:nl a≤1000000)(hb:nl b≤1000000) :vR (ax a (nl a)) (ax b (nl b))=some (.r0 (nP a b)):=by
  refine aY ?_
  by_cases h1:nl a < nl b
  · have:nP a b = -1:=by unfold nP;rw [if_pos (Ob h1)]
    rw [this]
    refine bt ?_
    unfold Fe
    rw [aq,aq]
    exact ck rfl
  by_cases h2:nl b < nl a
  · have hlt:=Ob h2
    have:nP a b=1:=by unfold nP;rw [if_neg (by omega),if_pos hlt]
    rw [this]
    refine bt ?_
    unfold Fe
    rw [aq,aq]
    exact cx (ck rfl)
  have hn:nl b=nl a:=by omega
  have hA:=cq a
  have hB:=cq b
  rw [hn] at hB hb ⊢
  generalize nl a=n at *
  refine ak (a:=((n:Int) - 1)) ?_ ?_
  · unfold Fe
    rw [aq,aq]
    exact cx (cx (ap rfl))
  have step:∀ j,j < n→lm a (n - 1 - j)=lm b (n - 1 - j)→BT (ax a n) (ax b n) ((n:Int) - 1 - j)=some (.inl ((n:Int) - 1 - (j+1:Nat))):=by
    intro j hj he
    show (zQ _ _ _).run=_
    unfold zQ
    have e:Int.toNat ((n:Int) - 1 - (j:Int))=n - 1 - j:=by omega
    rw [e,cp hA,cp hB,aq,aq,he]
    refine ck (ap (ap (ap (ap (cE (by simp) (ap (ap (ap (ap (cE (by simp) (ap ?_)))))))))))
    show some (Sum.inl _)=_
    congr 2;omega
  by_cases hall:∀ j,j < n→lm a (n - 1 - j)=lm b (n - 1 - j)
  · have hab:a=b:=by
      have:=HO hA hB (d:=n) (Nat.le_refl _) fun k _ h2=>by
        have:=hall (n - 1 - k) (by omega)
        rwa [show n - 1 - (n - 1 - k)=k by omega] at this
      simpa using this
    subst hab
    have:nP a a=0:=by unfold nP;rw [if_neg (Nat.lt_irrefl _),if_neg (Nat.lt_irrefl _)]
    rw [this]
    exact ak (bO (fun j=>(n:Int) - 1 - (j:Nat)) n (by omega) (fun j hj=>step j hj (hall j hj)) (cx rfl)) rfl
  · obtain ⟨k,hk,hb',hf⟩:=vN hall
    have hup:a / W ^ (n - 1 - k+1)=b / W ^ (n - 1 - k+1):=by
      have:=HO hA hB (d:=k) (by omega) fun i h1 h2=>by
        have:=hf (n - 1 - i) (by omega)
        rwa [show n - 1 - (n - 1 - i)=i by omega] at this
      rwa [show n - k=n - 1 - k+1 by omega] at this
    refine bt (bO (fun j=>(n:Int) - 1 - (j:Nat)) k (by omega) (fun j hj=>step j (by omega) (hf j hj)) ?_)
    show (zQ _ _ _).run=_
    unfold zQ
    have e:Int.toNat ((n:Int) - 1 - (k:Int))=n - 1 - k:=by omega
    rw [e,cp hA,cp hB,aq,aq]
    refine ck (ap (ap (ap (ap ?_))))
    by_cases hlt:lm a (n - 1 - k) < lm b (n - 1 - k)
    · have:=Fa hup hlt
      have:nP a b = -1:=by unfold nP;rw [if_pos this]
      rw [this]
      exact jz (decide_eq_true hlt) rfl
    · have hgt:lm b (n - 1 - k) < lm a (n - 1 - k):=by omega
      have hlt':=Fa hup.symm hgt
      have:nP a b=1:=by unfold nP;rw [if_neg (by omega),if_pos hlt']
      rw [this]
      exact cE (decide_eq_false hlt) (ap (ap (ap (ap (jz (decide_eq_true hgt) rfl)))))
theorem aqR{x y nx ny:Nat}(hx:x < W ^ nx)(hy:y < W ^ ny)(hn:ny≤nx)(hb:nx≤1000000){lx ly:List Int}(ex:∀ i,i < nx→lx.getD i 0=lm x i)(ey:∀ i,i < ny→ly.getD i 0=lm y i)(hlx:nx≤lx.length)(hly:ny≤ly.length) :
    dc (xA lx nx ly ny (nx+1)) (0,0,ax 0 (nx+1))=some (.inl (Ec x y nx / W ^ nx,ax (Ec x y nx % W ^ nx) (nx+1))):=by
  refine bO (fun j=>(j,Ec x y j / W ^ j,ax (Ec x y j % W ^ j) (nx+1))) nx (by simp [Ec,Nat.mod_one]) (fun j hj=>?_) (bt (cx rfl))
  have hc:=VM (x:=x) (y:=y) (j:=j)
  have hS:=Nat.mod_lt (Ec x y j) (gv j)
  have hst:=ao3 x y j
  obtain ⟨d1,d2⟩:=Mm (t:=x / W ^ j % W+y / W ^ j % W+Ec x y j / W ^ j) hS
  rw [← hst] at d1 d2
  have gC:=tU (n:=nx+1) hS (Nat.mod_lt (x / W ^ j % W+y / W ^ j % W+Ec x y j / W ^ j) (show W > 0 by decide)) (by omega)
  rw [← d2] at gC
  show aE (HY _ _ _ _ _ _ _ _).run _=_
  refine ak (a:=(Ec x y (j+1) / W ^ (j+1),ax (Ec x y (j+1) % W ^ (j+1)) (nx+1))) ?_ (ap rfl)
  unfold HY
  rw [ex j hj,aq]
  by_cases hyj:j < ny
  · rw [ey j hyj]
    refine ck (ck (ap (ap (ap (ap (ap (ap (ap ?_))))))))
    rw [HN,HN,gC,d1];rfl
  · have y0:y / W ^ j % W=0:=by
      rw [Nat.div_eq_of_lt (Nat.lt_of_lt_of_le hy (Nat.pow_le_pow_right (by decide) (by omega)))];rfl
    rw [y0] at gC d1
    refine ck (cx (ap (ap (ap (ap (ap ?_))))))
    rw [HN,gC,d1];rfl
theorem aqS{a b n m:Nat}(ha:a < W ^ n)(hb:b < W ^ m)(hn:n≤1000000)(hm:m≤1000000)(h1:nl a≤4096)(h2:nl b≤4096)(h3:nl (a+b)≤4096) :
    ct (ax a n) (ax b m)=some (.r0 0 (nl (a+b)) (max (nl a) (nl b)+1) 0 (ax (a+b) (max (nl a) (nl b)+1))):=by
  have la:=iJ ha
  have lb:=iJ hb
  refine aY (ak (a:=(0,ax a n,nl a,ax b m,nl b)) ?_ ?_)
  · unfold Sd
    rw [az,az,ku ha (by omega),ku hb (by omega)]
    simp only [cF,bh,aU]
    exact bm (am (aT (am (cx (am (bm (am (aT (am (cx (am (aW rfl))))))))))))
  have tZ:∀ {x y nx ny:Nat} {lx ly:List Int},x < W ^ nx→y < W ^ ny→ny≤nx→nx≤4096→(∀ i,i < nx→lx.getD i 0=lm x i)→(∀ i,i < ny→ly.getD i 0=lm y i)→nx≤lx.length→ny≤ly.length→nl (x+y)≤4096 →
      (aE ((HX nx).run) fun (o10,l11)=>aE (dc (xA lx nx ly ny o10) (0,0,l11)) fun (a19,l20)=>aE ((HZ nx o10 a19 l20).run) fun (a21,a22,a23,a24,l25)=>(Se a21 a22 a23 a24 l25).run)
        = some (.inr (.r0 0 (nl (x+y)) (nx+1) 0 (ax (x+y) (nx+1)))):=by
    intro x y nx ny lx ly hx hy hle hnx ex ey hlx hly h4
    refine ak (a:=(nx+1,ax 0 (nx+1))) ?_ (ak (aqR hx hy hle (by omega) ex ey hlx hly) (ak (a:=(0,nl (x+y),nx+1,0,ax (x+y) (nx+1))) ?_ rfl))
    · unfold HX
      rw [Eb]
      exact ap (ap (ap (ap (ap rfl))))
    · have hyx:y < W ^ nx:=Nat.lt_of_lt_of_le hy (Nat.pow_le_pow_right (by decide) hle)
      have hs:Ec x y nx=x+y:=by unfold Ec;rw [Nat.mod_eq_of_lt hx,Nat.mod_eq_of_lt hyx]
      have hc:=VM (x:=x) (y:=y) (j:=nx)
      have gC:=tU (u:=(x+y) % W ^ nx) (x:=(x+y) / W ^ nx) (j:=nx) (n:=nx+1) (Nat.mod_lt _ (gv _)) (by rw [hs] at hc;exact Nat.lt_of_le_of_lt hc (by decide)) (by omega)
      have hv:(x+y) % W ^ nx+(x+y) / W ^ nx * W ^ nx=x+y:=by rw [Nat.mul_comm];exact Nat.mod_add_div _ _
      rw [hv] at gC
      have hb2:x+y < W ^ (nx+1):=by
        rw [Nat.pow_succ]
        have h:=gv nx
        generalize W ^ nx=P at *
        have:(2:Nat) * P≤P * W:=by rw [Nat.mul_comm];exact Nat.mul_le_mul_left _ (by decide)
        omega
      unfold HZ
      rw [hs,gC,ad4 hb2 (by omega),if_neg (by omega),aq]
      exact ap (ap (asV (asW rfl) (arn (am rfl))))
  by_cases hlt:nl a < nl b
  · refine ak (a:=(ax b m,nl b,ax a n,nl a)) (aW (ck rfl)) ?_
    have:=tZ (x:=b) (y:=a) (nx:=nl b) (ny:=nl a) (lx:=ax b m) (ly:=ax a n) (cq b) (cq a) (by omega) h2 (fun i hi=>cp hb i) (fun i hi=>cp ha i) (by rw [aq];exact lb) (by rw [aq];exact la) (by rw [Nat.add_comm];exact h3)
    rw [Nat.add_comm b a] at this
    rw [show max (nl a) (nl b)=nl b by omega]
    exact this
  · refine ak (a:=(ax a n,nl a,ax b m,nl b)) (aW (cx rfl)) ?_
    have:=tZ (x:=a) (y:=b) (nx:=nl a) (ny:=nl b) (lx:=ax a n) (ly:=ax b m) (cq a) (cq b) (by omega) h1 (fun i hi=>cp ha i) (fun i hi=>cp hb i) (by rw [aq];exact la) (by rw [aq];exact lb) h3
    rw [show max (nl a) (nl b)=nl a by omega]
    exact this
def akY(a b n j:Nat) :List Int:=jA (fun i=>if i < j then lm (TO a b j) i else lm a i) n
theorem apd{a b n j:Nat}(hj:j < n) :(akY a b n j).set j (((a / W ^ j % W+W - b / W ^ j % W - VN a b j) % W:Nat):Int)=akY a b n (j+1):=by
  unfold akY
  rw [tn hj]
  refine cW fun i hi=>?_
  have hD:=(aoh (a:=a) (b:=b) (j:=j)).1
  have h:=Ml hD (Nat.mod_lt (a / W ^ j % W+W - b / W ^ j % W - VN a b j) (show W > 0 by decide)) i
  rw [← (aiZ a b j).2] at h
  by_cases e:i=j
  · subst e
    rw [if_pos rfl,if_pos (by omega),h,if_pos rfl]
  · rw [if_neg e] at h ⊢
    by_cases q:i < j
    · rw [if_pos q,if_pos (by omega),h]
    · rw [if_neg q,if_neg (by omega)]
theorem D6{a b n m:Nat}(ha:a < W ^ n)(hb:b < W ^ m)(hle:b≤a)(hmn:m≤n)(hn:n≤1000000) :vT (ax a n) (ax b m)=some (.r0 0 (nl (a - b)) n (ax (a - b) n)):=by
  have hbn:b < W ^ n:=Nat.lt_of_lt_of_le hb (Nat.pow_le_pow_right (by decide) hmn)
  refine aY (ak (a:=(n,ax a n)) ?_ (ak (a:=ax (a - b) n) ?_ (ak (a:=(0,nl (a - b),n,ax (a - b) n)) ?_ rfl)))
  · unfold Sf
    rw [az,aq]
    exact cH (bv (Nat.le_refl _)) (ap rfl)
  · have e0:ax a n=akY a b n 0:=cW fun i _=>by rw [if_neg (by omega)]
    have en:akY a b n n=ax (a - b) n:=by
      refine cW fun i hi=>?_
      have hd:TO a b n=a - b:=by
        unfold TO VN
        rw [Nat.mod_eq_of_lt ha,Nat.mod_eq_of_lt hbn,if_neg (by omega),Nat.zero_mul,Nat.add_zero]
      rw [if_pos hi,hd]
    have b0:VN a b 0=0:=by unfold VN;rw [Nat.pow_zero,Nat.mod_one,Nat.mod_one];rfl
    show dc _ ((0:Int),0,ax a n)=_
    refine bO (fun j=>(((VN a b j:Nat):Int),j,akY a b n j)) n (by rw [b0,← e0];rfl) (fun j hj=>?_) (bt (cE (by rw [aq];simp) (by rw [en];rfl)))
    have hbr:VN a b j≤1:=by unfold VN;split <;> omega
    have hl:(akY a b n j).length=n:=fp
    obtain ⟨s1,s2⟩:=aiZ a b j
    have hst:=apd (a:=a) (b:=b) hj
    show aE (H0 _ _ _ _ _ _).run _=_
    refine ak (a:=(((VN a b (j+1):Nat):Int),akY a b n (j+1))) ?_ (ap rfl)
    unfold H0
    rw [cp ha,aq,aq,hl,cj,HN]
    have blt:∀ p q:Nat,(bif Nat.blt p q then (1:Int) else 0)=(((if p < q then 1 else 0:Nat)):Int):=by
      intro p q
      by_cases h:p < q
      · rw [if_pos h,show Nat.blt p q=true by rw [Nat.blt_eq];exact h];rfl
      · rw [if_neg h]
        cases e:Nat.blt p q with
        | true=>rw [Nat.blt_eq] at e;exact absurd e h
        | false=>rfl
    by_cases hjm:j < m
    · rw [cp hb,HN,blt,← s1,hst]
      exact ck (ck (ap (ap (ap (ap (ap (ap (ap rfl))))))))
    · have y0:b / W ^ j % W=0:=by
        rw [Nat.div_eq_of_lt (Nat.lt_of_lt_of_le hb (Nat.pow_le_pow_right (by decide) (by omega)))];rfl
      rw [y0] at s1 hst
      refine ck (cx (ap (ap (ap (ap (ap ?_))))))
      rw [blt,← s1,hst];rfl
  · unfold Sh
    rw [Bi (Nat.lt_of_le_of_lt (Nat.sub_le _ _) ha) (by omega)]
    exact am rfl
theorem akZ{a b n m:Nat}(ha:a < W ^ n)(hb:b < W ^ m)(hn:n≤1000000)(hm:m≤1000000)(h1:nl a≤4096)(h2:nl b≤4096)(hle:b≤a) :
    bZ (ax a n) (ax b m)=some (.r0 (ax (a - b) (nl a)) 0 (nl (a - b)) 0):=by
  have la:=iJ ha
  have lb:=iJ hb
  have hnn:nl b≤nl a:=iJ (Nat.lt_of_le_of_lt hle (cq a))
  refine aY (ak (a:=(0,ax a n,nl a,ax b m,nl b)) ?_ (ak (a:=false) ?_ (ak (a:=(ax (a - b) (nl a),0,nl (a - b))) ?_ rfl)))
  · unfold Wf
    rw [az,az,ku ha (by omega),ku hb (by omega)]
    simp only [cF,bh,aU]
    exact bm (am (aT (am (cx (am (bm (am (aT (am (cx (am (aW rfl))))))))))))
  · unfold Wg
    rw [bT la,bT lb,akX (by omega) (by omega)]
    refine aW (cH (bv la) (cH (bv lb) (am ?_)))
    show some (Sum.inl _)=_
    congr 2
    show decide (nP a b < 0)=false
    unfold nP
    rw [if_neg (by omega)]
    split <;> rfl
  · unfold Wh
    rw [bT la,bT lb,D6 (cq a) (cq b) hle hnn (by omega)]
    exact aW (cH (bv la) (cH (bv lb) (am rfl)))
theorem ak0{a b n m:Nat}(ha:a < W ^ n)(hb:b < W ^ m)(hn:n≤1000000)(hm:m≤1000000)(h1:nl a≤4096)(h2:nl b≤4096) :
    vS (ax a n) (ax b m)=some (.r0 (nP a b) 0):=by
  have la:=iJ ha
  have lb:=iJ hb
  refine aY (ak (a:=(0,ax a n,nl a,ax b m,nl b)) ?_ (ak (a:=nP a b) ?_ rfl))
  · unfold V7
    rw [az,az,ku ha (by omega),ku hb (by omega)]
    simp only [cF,bh,aU]
    exact bm (am (aT (am (cx (am (bm (am (aT (am (cx (am (aW rfl))))))))))))
  · unfold V8
    rw [bT la,bT lb,akX (by omega) (by omega)]
    exact aW (cH (bv la) (cH (bv lb) (am rfl)))
theorem anr{x y:Nat}(hx:x < W)(hy:y < W) :gw (x:Int) (y:Int)=some (.r0 ((x * y / W:Nat):Int) ((x * y % W:Nat):Int)):=by
  obtain ⟨h1,h2,h3,h4,h5,h6,h7,h8,h9⟩:=al3 hx hy
  have s:∀ z:Nat,Int.fdiv (z:Int) (2 ^ (min (Int.toNat (32:Int)) (IntKind.u64.bits)))=((z / 4294967296:Nat):Int):=fun z=>BJ z (k:=32) (by decide)
  refine aY (ak (a:=(((x % 4294967296:Nat):Int),((x / 4294967296:Nat):Int),((y / 4294967296:Nat):Int),((x / 4294967296 * (y % 4294967296)+x % 4294967296 * (y % 4294967296) / 4294967296:Nat):Int))) ?_ ?_)
  · unfold zO
    rw [aeU hx,aeU hy,s,s,xw,xw,Nat.mod_eq_of_lt h2,Nat.mod_eq_of_lt h3,s,nq,Nat.mod_eq_of_lt h1]
    exact am (am (am rfl))
  · show (sM _ _ _ _ _ _).run=_
    unfold sM
    rw [xw,xw,xw,aeU h1,s,nq,nq,Nat.mod_eq_of_lt h4,Nat.mod_eq_of_lt h5,Nat.mod_eq_of_lt h6,Nat.mod_eq_of_lt h7,s,nq,h8,Nat.mod_eq_of_lt h9]
    exact am (am rfl)
theorem aqT{O a m k n N:Nat}(hO:O < W ^ (k+n))(ha:a < W ^ n)(hm:m < W)(hN:k+n≤N)(hb:N≤1000000) :
    vV (ax O N) k (N - k) (ax a n) (m:Int)=some (.r0 (((O+a * m * W ^ k) / W ^ (k+n):Nat):Int) (ax ((O+a * m * W ^ k) % W ^ (k+n)) N)):=by
  refine aY (ak rfl (ak (a:=((((O+a * m * W ^ k) / W ^ (k+n):Nat):Int),ax ((O+a * m * W ^ k) % W ^ (k+n)) N)) ?_ rfl))
  have c0:tX O a m k 0 / W ^ (k+0)=0:=by
    have e:tX O a m k 0=O % W ^ k:=by unfold tX;rw [Nat.pow_zero,Nat.mod_one,Nat.zero_mul,Nat.zero_mul,Nat.add_zero,Nat.add_zero]
    rw [e,Nat.add_zero,Nat.div_eq_of_lt (Nat.mod_lt _ (gv _))]
  refine bO (fun i=>(((tX O a m k i / W ^ (k+i):Nat):Int),i,ZC O a m k N i)) n (by rw [c0,ao4];rfl) (fun i hi=>?_) ?_
  · have hc:=al4 (O:=O) (a:=a) (m:=m) (k:=k) (i:=i)
    have hcW:tX O a m k i / W ^ (k+i) < W:=Nat.lt_of_le_of_lt hc hm
    have hla:=Nat.mod_lt (a / W ^ i) (show W > 0 by decide)
    have hlO:=Nat.mod_lt (O / W ^ (k+i)) (show W > 0 by decide)
    have hl:=aqu (O:=O) (a:=a) (m:=m) (k:=k) (n:=N) (i:=i)
    have hat:=arq (O:=O) (a:=a) (m:=m) (k:=k) (n:=N) (i:=i) (by omega)
    have hst:=ao5 (O:=O) (a:=a) (m:=m) (k:=k) (n:=N) (i:=i) (by omega)
    obtain ⟨w1,w2,w3,w4⟩:=aqw hla hm hcW hlO
    have hS:=Nat.mod_lt (tX O a m k i) (gv (k+i))
    obtain ⟨d1,_⟩:=Mm (t:=O / W ^ (k+i) % W+a / W ^ i % W * m+tX O a m k i / W ^ (k+i)) hS
    rw [← ads] at d1
    show aE (xB _ _ _ _ _ _ _).run _=_
    refine ak (a:=(((tX O a m k (i+1) / W ^ (k+i+1):Nat):Int),ZC O a m k N (i+1))) ?_ (ap rfl)
    unfold xB
    rw [cp ha,tW,anr hla hm]
    simp only [lF,ml,iy,nj]
    rw [hat,tW,aq,hl]
    simp only [cj,Nat.add_zero]
    rw [nq,Nat.mod_eq_of_lt w2,nq,w1,w3,Nat.mod_eq_of_lt w4,hst,← d1]
    exact ck (ap (ap (am (am (ap (ap (am (ap (ap rfl)))))))))
  · show aE (xB _ _ _ _ _ _ _).run _=_
    refine bt ?_
    unfold xB
    rw [ai2 hO ha,aqv hO,ai2 hO ha,aq]
    exact cE (by simp) rfl
theorem ah1{a b n m:Nat}(ha:a < W ^ n)(hb:b < W ^ m) :a * b < W ^ (n+m):=by
  rw [Nat.pow_add]
  rcases Nat.eq_zero_or_pos b with h | h
  · rw [h,Nat.mul_zero];exact Nat.mul_pos (gv _) (gv _)
  · exact Nat.mul_lt_mul_of_lt_of_le ha (Nat.le_of_lt hb) (gv _) |> fun q=>q
theorem aqU{a b n m:Nat}(ha:a < W ^ n)(hb:b < W ^ m)(hn:n≤1000000)(hm:m≤1000000)(h1:nl a+nl b≤4096) :
    tp (ax a n) (ax b m)=some (.r0 0 (nl (a * b)) (nl a+nl b) 0 (ax (a * b) (nl a+nl b))):=by
  have la:=iJ ha
  have lb:=iJ hb
  have hA:=cq a
  have hB:=cq b
  have hab:=ah1 hA hB
  have hnab:=iJ hab
  refine aY (ak (a:=(0,ax a n,nl a,ax b m,nl b)) ?_ (ak (a:=false) (aW (ap (cx rfl))) (ak (a:=(nl a+nl b,ax 0 (nl a+nl b))) ?_ (ak (a:=ax (a * b) (nl a+nl b)) ?_ (ak (a:=(0,nl (a * b),nl a+nl b,0,ax (a * b) (nl a+nl b))) ?_ rfl)))))
  · unfold Si
    rw [az,az,ku ha (by omega),ku hb (by omega)]
    simp only [cF,bh,aU]
    exact bm (am (aT (am (cx (am (bm (am (aT (am (cx (am (aW rfl))))))))))))
  · unfold Sj
    rw [Eb]
    exact aW (ap (ap (ap (ap (ap rfl)))))
  · refine bO (fun k=>(k,ax (a * (b % W ^ k)) (nl a+nl b))) (nl b) (by simp [Nat.mod_one]) (fun k hk=>?_) (bt (cx (by rw [Nat.mod_eq_of_lt hB];rfl)))
    have hO:a * (b % W ^ k) < W ^ (k+nl a):=by rw [Nat.add_comm];exact ah1 hA (Nat.mod_lt _ (gv k))
    have hlb:=Nat.mod_lt (b / W ^ k) (show W > 0 by decide)
    have hs:=aqT (N:=nl a+nl b) hO hA hlb (by omega) (by omega)
    have e:a * (b % W ^ k)+a * (b / W ^ k % W) * W ^ k=a * (b % W ^ (k+1)):=by rw [tV,Nat.mul_add,Nat.mul_assoc]
    rw [e] at hs
    have hO1:a * (b % W ^ (k+1)) < W ^ (k+nl a+1):=by
      rw [show k+nl a+1=nl a+(k+1) by omega];exact ah1 hA (Nat.mod_lt _ (gv (k+1)))
    have hcar:a * (b % W ^ (k+1)) / W ^ (k+nl a) < W:=by
      exact Nat.div_lt_of_lt_mul (by rw [← Nat.pow_succ];exact hO1)
    have gC:=tU (u:=a * (b % W ^ (k+1)) % W ^ (k+nl a)) (x:=a * (b % W ^ (k+1)) / W ^ (k+nl a)) (j:=k+nl a) (n:=nl a+nl b) (Nat.mod_lt _ (gv _)) hcar (by omega)
    have hv:a * (b % W ^ (k+1)) % W ^ (k+nl a)+a * (b % W ^ (k+1)) / W ^ (k+nl a) * W ^ (k+nl a)=a * (b % W ^ (k+1)):=by rw [Nat.mul_comm (a * (b % W ^ (k+1)) / W ^ (k+nl a))];exact Nat.mod_add_div _ _
    rw [hv] at gC
    show aE (H5 _ _ _ _ _ _ _).run _=_
    refine ak (a:=ax (a * (b % W ^ (k+1))) (nl a+nl b)) ?_ (ap rfl)
    unfold H5
    rw [bT la,cp hb,tW,hs]
    simp only [zV,yX,ue]
    rw [gC,aq,aq]
    exact ck (ap (ap (ap (ap (ap (cH (bv la) (am (ap (ap rfl)))))))))
  · unfold Sk
    rw [ad4 hab (by omega),if_neg (by omega)]
    exact asV (asW rfl) (arn (am rfl))
theorem asy:∀ z:Fin 64,List.getD bu (2 ^ z.val * 285870213051353865 % W / 2 ^ 58) 0=(z.val:Int)∧2 ^ z.val * 285870213051353865 % W / 2 ^ 58 < 64:=by decide +kernel
theorem arC:List.length bu=64:=by decide +kernel
theorem asz{x:Nat}(h0:x ≠ 0)(h:x < W) :eP .and .u64 (x:Int) (IntKind.u64.wrap ((0:Int) - (x:Int)))=((2 ^ tz x:Nat):Int):=by
  rw [aqA h0 h,Oc,Nat.mod_eq_of_lt h,Nat.mod_eq_of_lt (Nat.sub_lt (by decide) (Nat.pos_of_ne_zero h0)),ars h0 h]
theorem arD(y:Nat) :Int.fdiv (IntKind.u64.wrap ((y:Int) * (285870213051353865:Int))) (2 ^ (min (Int.toNat (58:Int)) IntKind.u64.bits))=((y * 285870213051353865 % W / 2 ^ 58:Nat):Int):=by
  have e:(285870213051353865:Int)=((285870213051353865:Nat):Int):=by omega
  rw [e,xw]
  exact BJ _ (k:=58) (by decide)
theorem asA{z:Nat}(h:z < 64) :IntKind.i64.wrap ((z:Nat):Int)=((z:Nat):Int):=by
  have:∀ z:Fin 64,IntKind.i64.wrap ((z.val:Nat):Int)=((z.val:Nat):Int):=by decide
  exact this ⟨z,h⟩
theorem asB{x:Nat}(h0:x ≠ 0)(h:x < W) :∃ y:Nat,Int.fdiv (IntKind.u64.wrap ((eP .and .u64 (x:Int) (IntKind.u64.wrap ((0:Int) - (x:Int)))) * (285870213051353865:Int))) (2 ^ (min (Int.toNat (58:Int)) IntKind.u64.bits))=(y:Int)∧List.getD bu y 0=((tz x:Nat):Int)∧y < 64:=by
  have hz:=adt (n:=64) h0 h
  obtain ⟨t1,t2⟩:=asy ⟨tz x,hz⟩
  exact ⟨_,by rw [asz h0 h,arD],t1,t2⟩
theorem Jl{x:Nat}(h0:x ≠ 0)(h:x < W) :dW (x:Int)=some (.r0 ((tz x:Nat):Int)):=by
  have hz:=adt (n:=64) h0 h
  obtain ⟨y,e,t1,t2⟩:=asB h0 h
  refine aY ?_
  unfold oA
  have ix:ko (ko 0 (U0 (Int.toNat (y:Int)) 1)) 0=y:=by simp only [nj,EB,Nat.zero_add,Nat.mul_one,Nat.add_zero,cj]
  rw [e,ix,t1,arC,asA hz]
  refine cE (by rw [beq_eq_false_iff_ne];omega) (cH (by decide) (cH ?_ (cH ?_ rfl)))
  · rw [yF];omega
  · rw [nk];exact t2
theorem aqV{v:Nat}(h:v ≠ 0) :∃ i,i < nl v∧v % W ^ i=0∧v / W ^ i % W ≠ 0∧tz v=64 * i+tz (v / W ^ i % W):=by
  obtain ⟨h1,h2⟩:=BL v h
  have e:2 ^ tz v=2 ^ (tz v % 64) * W ^ (tz v / 64):=HP _
  have h3:v % W ^ (tz v / 64)=0:=by
    have d:W ^ (tz v / 64) ∣ v:=Nat.dvd_trans ⟨2 ^ (tz v % 64),by rw [Nat.mul_comm];exact e⟩ (Nat.dvd_of_mod_eq_zero h1)
    exact Nat.mod_eq_zero_of_dvd d
  have hb:v=v / W ^ (tz v / 64) * W ^ (tz v / 64):=(Nat.div_mul_cancel (Nat.dvd_of_mod_eq_zero h3)).symm
  have h5:v / W ^ (tz v / 64) ≠ 0:=by intro q;rw [q,Nat.zero_mul] at hb;exact h hb
  have key:tz (v / W ^ (tz v / 64))=tz v % 64:=by
    have q:=al5 h5 (64 * (tz v / 64))
    have w:2 ^ (64 * (tz v / 64))=W ^ (tz v / 64):=by rw [Nat.pow_mul]
    rw [w,← hb] at q
    omega
  obtain ⟨k1,k2⟩:=BL _ h5
  rw [key] at k1 k2
  have hr:tz v % 64 < 64:=Nat.mod_lt _ (by decide)
  have e64:W=2 ^ (tz v % 64) * 2 ^ (64 - tz v % 64):=by rw [← Nat.pow_add];show 2 ^ 64=_;congr 1;omega
  have l1:(v / W ^ (tz v / 64) % W) % 2 ^ (tz v % 64)=0:=by
    revert k1;generalize v / W ^ (tz v / 64)=y;intro k1;rw [e64,Nat.mod_mul_right_mod];exact k1
  have l2:(v / W ^ (tz v / 64) % W) / 2 ^ (tz v % 64) % 2=1:=by
    have a:2 ^ (64 - tz v % 64)=2 * 2 ^ (63 - tz v % 64):=by rw [show 64 - tz v % 64=(63 - tz v % 64)+1 by omega,Nat.pow_succ,Nat.mul_comm]
    revert k2;generalize v / W ^ (tz v / 64)=y;intro k2;rw [e64,Nat.mod_mul_right_div_self,a,Nat.mod_mul_right_mod];exact k2
  have l3:v / W ^ (tz v / 64) % W ≠ 0:=by intro q;rw [q,Nat.zero_div] at l2;exact absurd l2 (by decide)
  refine ⟨tz v / 64,?_,h3,l3,?_⟩
  · rcases Nat.lt_or_ge (tz v / 64) (nl v) with q | q
    · exact q
    · exfalso;apply l3
      rw [Nat.div_eq_of_lt (Nat.lt_of_lt_of_le (cq v) (Nat.pow_le_pow_right (by decide) q)),Nat.zero_mod]
  · rw [JO l1 l2];omega
theorem ans{v n:Nat}(hv:v < W ^ n)(h0:v ≠ 0)(hn:nl v≤4096)(hn2:n≤1000000) :xC (ax v n)=some (.r0 ((tz v:Nat):Int) 0):=by
  have hl:=iJ hv
  have hp:=xQ h0
  obtain ⟨i,h1,h2,h3,h4⟩:=aqV h0
  have hW:v / W ^ i % W < W:=Nat.mod_lt _ (by decide)
  have hz:=adt (n:=64) h3 hW
  refine aY (ak (a:=(0,ax v n,nl v)) ?_ (ak (a:=false) (aW (by show some _=_;congr 2;rw [beq_eq_false_iff_ne];omega)) (ak (a:=()) (aW rfl) (ak (a:=i) (bO (fun j=>j) i rfl (fun j hj=>?_) ?_) (ak (a:=((tz v:Nat):Int)) ?_ rfl)))))
  · unfold Ky
    rw [az,ku hv (by omega)]
    simp only [cF,bh,aU]
    exact bm (am (aT (am (cx (am (aW rfl))))))
  · have z:lm v j=0:=by
      unfold lm
      obtain ⟨d,rfl⟩:∃ d,i=j+1+d:=⟨i - j - 1,by omega⟩
      have dv:W ^ (j+1+d) ∣ v:=Nat.dvd_of_mod_eq_zero h2
      obtain ⟨c,hc⟩:=dv
      have:v=(W ^ d * c * W) * W ^ j:=by
        rw [hc,Nat.pow_add,Nat.pow_succ];simp only [Nat.mul_assoc,Nat.mul_comm,Nat.mul_left_comm]
      rw [this,Nat.mul_div_cancel _ (gv j),Nat.mul_mod_left];rfl
    show (qK _ _ _).run=_
    unfold qK
    rw [cp hv,z,aq]
    exact ap (ap (bm (ap rfl)))
  · show (qK _ _ _).run=_
    unfold qK
    rw [cp hv,tW,aq]
    refine ap (ap (cE (by rw [beq_eq_false_iff_ne];omega) rfl))
  · unfold Kz
    rw [cp hv,tW,aq,Jl h3 hW]
    simp only [eQ,ej]
    have e:(((64 * i:Nat):Int)+((tz (v / W ^ i % W):Nat):Int))=((tz v:Nat):Int):=by rw [h4,Int.natCast_add]
    rw [e]
    exact ap (ap (ap (am (cH (by rw [cy];omega) rfl))))
theorem RF(k:Nat) :Int.tdiv (k:Int) (64:Int)=((k / 64:Nat):Int):=rfl
theorem RG(k:Nat) :IntKind.u64.wrap (Int.tmod (k:Int) (64:Int))=((k % 64:Nat):Int):=by
  rw [show Int.tmod (k:Int) (64:Int)=((k % 64:Nat):Int) from rfl,jD (Nat.lt_trans (Nat.mod_lt k (by decide:64 > 0)) (by decide))]
theorem aqW{v n k:Nat}(hv:v < W ^ n)(h0:n ≠ 0)(hn:n≤1000000)(hk:k≤1000000) :
    f4 (ax v n) (k:Int)=some (.r0 0 (nl (v * 2 ^ k)) (n+k / 64+1) (ax (v * 2 ^ k) (n+k / 64+1))):=by
  have hr:k % 64 < 64:=Nat.mod_lt _ (by decide)
  have hq:k / 64≤1000000:=by omega
  have hsh:=aqD (k:=k) hv
  refine aY (ak (a:=(((k / 64:Nat):Int),((k % 64:Nat):Int),n+k / 64+1,ax 0 (n+k / 64+1))) ?_ (ak (a:=ax (v * 2 ^ k) (n+k / 64+1)) (bO (fun i=>(i,ax (v % W ^ i * 2 ^ (k % 64) * W ^ (k / 64)) (n+k / 64+1))) n (by simp [Nat.mod_one]) (fun i hi=>?_) ?_) (ak (a:=(0,nl (v * 2 ^ k),n+k / 64+1,ax (v * 2 ^ k) (n+k / 64+1))) ?_ rfl)))
  · unfold Sl
    rw [aq,RF,RG]
    have e:(((n:Nat):Int)+((k / 64:Nat):Int))+(1:Int)=((n+k / 64+1:Nat):Int):=by omega
    rw [e,cj,Eb]
    exact cx (ap (ap (am (ap (ap (ap (ap (ap (ap rfl)))))))))
  · show aE (BU _ _ _ _ _ _).run _=_
    refine ak (a:=ax (v % W ^ (i+1) * 2 ^ (k % 64) * W ^ (k / 64)) (n+k / 64+1)) ?_ (ap rfl)
    unfold BU
    have e1:Int.toNat (((i:Nat):Int)+((k / 64:Nat):Int))=i+k / 64:=rfl
    have e2:Int.toNat ((((i:Nat):Int)+((k / 64:Nat):Int))+(1:Int))=i+k / 64+1:=rfl
    rw [e1,e2,cp hv,tW,Od _ (by omega),VO hr,show (1:Int)=((1:Nat):Int) from rfl,BJ _ (by decide),BJ _ (by omega),Nat.pow_one,aqB hr (by omega),aq]
    simp only [List.length_set,aq]
    exact ck (ap (ap (ap (ap (ap (ap (ap (ap (ap (ap (ap (ap (ap (ap (ap (ap rfl))))))))))))))))
  · show aE (BU _ _ _ _ _ _).run _=_
    refine bt (cE (by rw [aq];exact (by simp only [cy,yF,zN,nk,n5,gE,n6,n7,decide_eq_true_eq,decide_eq_false_iff_not,beq_iff_eq,beq_eq_false_iff_ne,bne_iff_ne,bne_eq_false_iff_eq,Bool.not_eq_true',Bool.not_eq_false',List.length_set,ne_eq,ge_iff_le,gt_iff_lt,kH,cj,vC];omega)) ?_)
    rw [Nat.mod_eq_of_lt hv,Nat.mul_assoc,← HP];rfl
  · unfold Sn
    rw [Bi hsh (by omega)]
    exact am rfl
theorem ant{v n:Nat}(h:v < W ^ n)(hn:n≤100000000)(hb:nl v≤4096) :m6 (ax v n)=some (.r0 (ax v n) (nl v) 0):=by
  refine aY (ak (a:=(ax v n,nl v)) ?_ (cx rfl))
  unfold H8
  rw [az,ku h (by omega)]
  exact aT (am rfl)
theorem aqX{v n k:Nat}(hv:v < W ^ n)(h0:v ≠ 0)(hn:n≤1000000)(hk:k < 262144)(hl:nl v≤4096)(hb:nl (v * 2 ^ k)≤4096) :
    jK (ax v n) (k:Int)=some (.r0 (ax (v * 2 ^ k) (nl (v * 2 ^ k))) (nl (v * 2 ^ k)) 0):=by
  have hp:=xQ h0
  have hln:=iJ hv
  refine aY (ak (a:=(0,ax v n,nl v)) ?_ (ak (a:=()) ?_ (ak (a:=(ax (v * 2 ^ k) (nl (v * 2 ^ k)),nl (v * 2 ^ k),0)) ?_ rfl)))
  · unfold Wr
    rw [az,ku hv (by omega)]
    simp only [cF,bh,aU]
    exact bm (am (aT (am (cx (am (aW rfl))))))
  · exact aW (cx (ck (cx rfl)))
  · have hsl:=aqD (k:=k) (cq v)
    have hls:=iJ hsl
    show (MD _ _ _).run=_
    unfold MD
    rw [bT hln,aqW (cq v) (by omega) (by omega) (by omega)]
    simp only [zX,mo,mp,mq]
    rw [bT hls,ant (cq _) (by omega) hb]
    exact cH (bv hln) (am (cH (bv hls) (am rfl)))
theorem aqY{v n k:Nat}(hv:v < W ^ n)(hn:n≤1000000)(hk:k≤100000000) :
    ∃ b N,tq (ax v n) (k:Int)=some (.r0 0 (nl (v / 2 ^ k)) N b (ax (v / 2 ^ k) N))∧nl (v / 2 ^ k)≤N∧N≤n:=by
  have hr:k % 64 < 64:=Nat.mod_lt _ (by decide)
  have hq:k / 64≤10000000:=by omega
  rcases Nat.lt_or_ge (k / 64) n with hlt | hge
  · have hs:=asq (k:=k) hv (Nat.le_of_lt hlt)
    have hls:=iJ hs
    let f0:=((eP .and .u64 (List.getD (ax v n) (Int.toNat (Int.tdiv (k:Int) (64:Int))) 0) (IntKind.u64.wrap ((IntKind.u64.wrap ((1:Int) * 2 ^ (min (Int.toNat (IntKind.u64.wrap (Int.tmod (k:Int) (64:Int)))) (IntKind.u64.bits)))) - (1:Int)))) != (0:Int))
    let f:Nat→Bool:=fun j=>Nat.rec (motive:=fun _=>Bool) f0 (fun j b=>b || (lm v j != (0:Int))) j
    refine ⟨f (k / 64),n - k / 64,aY (ak (a:=(((k / 64:Nat):Int),((k % 64:Nat):Int),f0,k / 64,k / 64)) ?_ (ak (a:=f (k / 64)) (bO (fun j=>(f j,j)) (k / 64) rfl (fun j hj=>?_) ?_) (ak (a:=(n - k / 64,n - k / 64,List.replicate (n - k / 64) (0:Int))) ?_ (ak (a:=ax (v / 2 ^ k) (n - k / 64)) (bO (fun i=>(i,jA (fun j=>if j < i then lm (v / 2 ^ k) j else 0) (n - k / 64))) (n - k / 64) (by simp only [rU];congr 1) (fun i hi=>?_) ?_) (ak (a:=(0,nl (v / 2 ^ k),n - k / 64,ax (v / 2 ^ k) (n - k / 64))) ?_ rfl))))),hls,Nat.sub_le _ _⟩
    · unfold H9
      have e:=RF k
      refine am (cH (by rw [e];exact (by simp only [cy,yF,zN,nk,n5,gE,n6,n7,decide_eq_true_eq,decide_eq_false_iff_not,beq_iff_eq,beq_eq_false_iff_ne,bne_iff_ne,bne_eq_false_iff_eq,Bool.not_eq_true',Bool.not_eq_false',List.length_set,ne_eq,ge_iff_le,gt_iff_lt,kH,cj,vC];omega)) (am (cE (by rw [e,aq];exact (by simp only [cy,yF,zN,nk,n5,gE,n6,n7,decide_eq_true_eq,decide_eq_false_iff_not,beq_iff_eq,beq_eq_false_iff_ne,bne_iff_ne,bne_eq_false_iff_eq,Bool.not_eq_true',Bool.not_eq_false',List.length_set,ne_eq,ge_iff_le,gt_iff_lt,kH,cj,vC];omega)) (cH (by rw [e,aq];exact (by simp only [cy,yF,zN,nk,n5,gE,n6,n7,decide_eq_true_eq,decide_eq_false_iff_not,beq_iff_eq,beq_eq_false_iff_ne,bne_iff_ne,bne_eq_false_iff_eq,Bool.not_eq_true',Bool.not_eq_false',List.length_set,ne_eq,ge_iff_le,gt_iff_lt,kH,cj,vC];omega)) (cH (by rw [e,aq];exact (by simp only [cy,yF,zN,nk,n5,gE,n6,n7,decide_eq_true_eq,decide_eq_false_iff_not,beq_iff_eq,beq_eq_false_iff_ne,bne_iff_ne,bne_eq_false_iff_eq,Bool.not_eq_true',Bool.not_eq_false',List.length_set,ne_eq,ge_iff_le,gt_iff_lt,kH,cj,vC];omega)) (cH (by rw [RG];exact (by simp only [cy,yF,zN,nk,n5,gE,n6,n7,decide_eq_true_eq,decide_eq_false_iff_not,beq_iff_eq,beq_eq_false_iff_ne,bne_iff_ne,bne_eq_false_iff_eq,Bool.not_eq_true',Bool.not_eq_false',List.length_set,ne_eq,ge_iff_le,gt_iff_lt,kH,cj,vC];omega)) (cH (by rw [e,aq];exact (by simp only [cy,yF,zN,nk,n5,gE,n6,n7,decide_eq_true_eq,decide_eq_false_iff_not,beq_iff_eq,beq_eq_false_iff_ne,bne_iff_ne,bne_eq_false_iff_eq,Bool.not_eq_true',Bool.not_eq_false',List.length_set,ne_eq,ge_iff_le,gt_iff_lt,kH,cj,vC];omega)) (cH (by rw [e];exact (by simp only [cy,yF,zN,nk,n5,gE,n6,n7,decide_eq_true_eq,decide_eq_false_iff_not,beq_iff_eq,beq_eq_false_iff_ne,bne_iff_ne,bne_eq_false_iff_eq,Bool.not_eq_true',Bool.not_eq_false',List.length_set,ne_eq,ge_iff_le,gt_iff_lt,kH,cj,vC];omega)) ?_))))))))
      show some (Sum.inl (_,IntKind.u64.wrap _,f0,_,_))=_
      rw [RG];rfl
    · show aE (BV _ _ _ _ _).run _=_
      refine ak (a:=f (j+1)) ?_ (ap rfl)
      unfold BV
      rw [cp hv,aq]
      refine ck (ap (ap ?_))
      have hf:f (j+1)=(f j || (lm v j != (0:Int))):=rfl
      rw [hf]
      cases f j
      · exact aW rfl
      · exact bm rfl
    · show aE (BV _ _ _ _ _).run _=_
      exact bt (cx rfl)
    · show (Ib _ _).run=_
      unfold Ib
      have e:((n:Nat):Int) - ((k / 64:Nat):Int)=((n - k / 64:Nat):Int):=by omega
      rw [aq,e]
      exact ap (ap (ap (ap (ap rfl))))
    · show aE (BW _ _ _ _ _ _ _).run _=_
      refine ak (a:=jA (fun j=>if j < i+1 then lm (v / 2 ^ k) j else 0) (n - k / 64)) ?_ (ap rfl)
      have e1:Int.toNat (((i:Nat):Int)+((k / 64:Nat):Int))=i+k / 64:=rfl
      have e2:Int.toNat ((((i:Nat):Int)+((k / 64:Nat):Int))+(1:Int))=i+k / 64+1:=rfl
      obtain ⟨w1,w2⟩:=aqz (V:=v / W ^ (i+k / 64)) hr
      have hV:v / W ^ (i+k / 64) / W=v / W ^ (i+k / 64+1):=by rw [Nat.pow_succ,Nat.div_div_eq_div_mul]
      have tZ:∀ x:Int,x=lm (v / 2 ^ k) i→(jA (fun j=>if j < i then lm (v / 2 ^ k) j else 0) (n - k / 64)).set i x=jA (fun j=>if j < i+1 then lm (v / 2 ^ k) j else 0) (n - k / 64):=by
        intro x hx
        rw [tn hi]
        refine cW fun j hj=>?_
        by_cases e:j=i
        · subst e;rw [if_pos rfl,if_pos (Nat.lt_succ_self _),hx]
        · rw [if_neg e]
          by_cases e':j < i
          · rw [if_pos e',if_pos (by omega)]
          · rw [if_neg e',if_neg (by omega)]
      unfold BW
      rw [e1,e2,cp hv,cp hv,tW,tW,BJ _ (by omega),VO hr,show (1:Int)=((1:Nat):Int) from rfl,Od _ (by decide),Od _ (by omega),Nat.pow_one]
      simp only [List.length_set,aq,fp,List.set_set]
      by_cases hlast:i+k / 64+1 < n
      · refine ck (ap (ap (ap (ap (ap (ap (ap (ap (ck (ap (ap (ap (ap (ap (ap (am (ap (ap (ap ?_)))))))))))))))))))
        show some (Sum.inl _)=_
        congr 2
        refine tZ _ ?_
        rw [List.getD_eq_getElem?_getD,List.getElem?_set_self (by rw [fp];exact hi)]
        show eP .or .u64 _ _=_
        have m1:v / W ^ (i+k / 64) % W / 2 ^ (k % 64) % W=v / W ^ (i+k / 64) % W / 2 ^ (k % 64):=Nat.mod_eq_of_lt (Nat.lt_of_le_of_lt (Nat.div_le_self _ _) (Nat.mod_lt _ (by decide)))
        show eP .or .u64 ((v / W ^ (i+k / 64) % W / 2 ^ (k % 64):Nat):Int) _=_
        rw [aeT,m1,Nat.mod_mod,← hV,w2,← w1,aqC]
      · refine ck (ap (ap (ap (ap (ap (ap (ap (ap (cx ?_)))))))))
        show some (Sum.inl _)=_
        congr 2
        refine tZ _ ?_
        have z:v / W ^ (i+k / 64) / W=0:=by
          rw [hV];exact Nat.div_eq_of_lt (Nat.lt_of_lt_of_le hv (Nat.pow_le_pow_right (by decide) (by omega)))
        rw [z] at w1
        rw [aqC,w1]
        simp
    · show aE (BW _ _ _ _ _ _ _).run _=_
      refine bt (cx ?_)
      show some (Sum.inr (Sum.inl _))=_
      congr 3
      exact cW fun j hj=>if_pos hj
    · unfold Sq
      rw [Bi hs (by omega)]
      exact am rfl
  · have hz:=ai4 hv hge
    refine ⟨decide (((n:Nat):Int) > (0:Int)),0,?_,by rw [hz,eA];exact Nat.le_refl 0,Nat.zero_le _⟩
    refine aY (bt ?_)
    unfold H9
    rw [RF,aq,hz,eA]
    exact am (ap (am (ck rfl)))
theorem aqZ{v n k:Nat}(hv:v < W ^ n)(hn:n≤1000000)(hl:nl v≤4096)(hk:k≤100000000) :
    ∃ b N,v3 (ax v n) (k:Int)=some (.r0 (ax (v / 2 ^ k) N) 0 (nl (v / 2 ^ k)) b 0)∧nl (v / 2 ^ k)≤N∧N≤4096:=by
  have hln:=iJ hv
  obtain ⟨b,N,h1,h2,h3⟩:=aqY (k:=k) (cq v) (by omega) hk
  refine ⟨b,N,aY (ak (a:=(0,ax v n,nl v)) ?_ (ak (a:=false) ?_ (ak (a:=(ax (v / 2 ^ k) N,0,nl (v / 2 ^ k),b)) ?_ rfl))),h2,by omega⟩
  · unfold Wu
    rw [az,ku hv (by omega)]
    simp only [cF,bh,aU]
    exact bm (am (aT (am (cx (am (aW rfl))))))
  · refine aW ?_
    show some (Sum.inl (decide (((k:Nat):Int) < 0)))=_
    rw [decide_eq_false (by omega)]
  · show (MG _ _ _ _).run=_
    unfold MG
    rw [bT hln,h1]
    exact aW (cH (bv hln) (am rfl))
theorem tl(s:Bool){v n:Nat}(hv:v < W ^ n)(hn:n≤1000000)(hl:nl v≤4096){e:Int}(he : -1000000≤e∧e≤1000000) :
    ∃ N,aI s (ax v n) e=some (.r0 (nS (sg s v)) (ax (nM (sg s v)) N) 0 (nl (nM (sg s v))) (nE (sg s v) e))∧nl (nM (sg s v))≤N∧N≤4096:=by
  have t5:(FF (ax v n)).run=some (.inl (ax v (nl v),nl v,false)):=by
    unfold FF
    rw [az,ad3 hv (by omega),if_neg (by omega)]
    exact aT (am rfl)
  by_cases h0:v=0
  · have z:sg s v=0:=tY.2 h0
    rw [z,eT,US]
    rw [iO,eA]
    refine ⟨0,aY (ak t5 (bt ?_)),Nat.le_refl _,Nat.zero_le _⟩
    rw [h0,eA]
    exact bm rfl
  · have z:sg s v ≠ 0:=fun q=>h0 (tY.1 q)
    have hp:=xQ h0
    have ht:=ai5 (v:=v)
    obtain ⟨b,N,h1,h2,h3⟩:=aqZ (k:=tz v) (cq v) (by omega) hl (by omega)
    have eM:nM (sg s v)=v / 2 ^ tz v:=by unfold nM;rw [HQ]
    have eE:nE (sg s v) e=e+((tz v:Nat):Int):=by rw [io z,HQ]
    rw [arW h0,eM,eE]
    refine ⟨N,aY (ak t5 (ak (a:=((tz v:Nat):Int)) ?_ (ak (a:=(ax (v / 2 ^ tz v) N,0,nl (v / 2 ^ tz v))) ?_ ?_))),h2,h3⟩
    · show (FG _ _).run=_
      unfold FG
      rw [bc aq,ans (cq v) h0 hl (by omega)]
      exact cx (bN (am rfl))
    · show (FH _ _ _).run=_
      unfold FH
      rw [bc aq,h1]
      exact bN (am rfl)
    · exact cH (by rw [cy];omega) rfl
theorem ak1{v n:Nat}(hv:v < W ^ n)(hn:n≤1000000)(hl:nl v≤4096){e:Int}(he : -262144≤e∧e≤262144) :em (ax v n) e=some (.r0 true):=by
  refine aY (ak (a:=0) ?_ (ak (a:=true) ?_ rfl))
  · unfold Sx
    rw [az,ad3 hv (by omega),if_neg (by omega)]
    exact aT (am rfl)
  · refine bm (ck ?_)
    show some (Sum.inl (decide (e≤262144)))=_
    rw [decide_eq_true he.2]
theorem GH{z e:Int}{s:Bool}(hs:z ≠ 0→s=nS z)(h:Sm z e) :∃ N,aI s (ax (nM z) (nl (nM z))) (nE z e)=some (.r0 (nS z) (ax (nM z) N) 0 (nl (nM z)) (nE z e))∧nl (nM z)≤N∧N≤4096:=by
  have hm:=h.m
  have hb:=h.b
  obtain ⟨N,h1,h2,h3⟩:=tl s (cq (nM z)) (by omega) (by omega:nl (nM z)≤4096) (e:=nE z e) (by omega)
  obtain ⟨a,b,c⟩:=Of (e:=e) hs
  rw [a,b,c] at h1
  rw [b] at h2
  exact ⟨N,h1,h2,h3⟩
theorem Nr{z e:Int}(h:Sm z e) :em (ax (nM z) (nl (nM z))) (nE z e)=some (.r0 true):=by
  have hm:=h.m
  have hb:=h.b
  exact ak1 (cq (nM z)) (by omega) (by omega) (by omega)
theorem Ns(s:Bool){v n:Nat}(hv:v < W ^ n)(hn:n≤1000000)(hl:nl v≤1000){e:Int}(he : -150000≤e∧e≤150000) :
    ∃ N,cG s (ax v n) e=some (.r0 0 (nS (sg s v)) (ax (nM (sg s v)) N) 0 (nl (nM (sg s v))) (nE (sg s v) e))∧nl (nM (sg s v))≤N∧N≤4096:=by
  obtain ⟨N,h1,h2,h3⟩:=tl s hv hn (by omega) (e:=e) (by omega)
  have ht:=ai5 (v:=v)
  have hE' : -262144≤nE (sg s v) e∧nE (sg s v) e≤262144:=by
    unfold nE;rw [HQ];split <;> omega
  obtain ⟨hE',hE⟩:=hE'
  refine ⟨N,aY (ak (a:=(nS (sg s v),ax (nM (sg s v)) N,0,nl (nM (sg s v)),nE (sg s v) e,false)) ?_ (ak (a:=false) ?_ rfl)),h2,h3⟩
  · unfold OD
    rw [az,h1]
    exact aT (am rfl)
  · show (FJ _ _ _ _).run=_
    unfold FJ
    rw [bT h2,ak1 (cq _) (by omega) (by omega) ⟨hE',hE⟩]
    exact cH (bv h2) (am rfl)
theorem xp{z:Int}{m:Nat}(h:m≤tz z.natAbs) :nM z * 2 ^ (tz z.natAbs - m)=z.natAbs / 2 ^ m∧z.natAbs / 2 ^ m * 2 ^ m=z.natAbs:=by
  have b:=aok z
  have e:tz z.natAbs=(tz z.natAbs - m)+m:=by omega
  have d:z.natAbs / 2 ^ m * 2 ^ m=z.natAbs:=by
    refine Nat.div_mul_cancel ⟨nM z * 2 ^ (tz z.natAbs - m),?_⟩
    rw [e,Nat.pow_add,← Nat.mul_assoc] at b
    rw [Nat.mul_comm (2 ^ m)];exact b.symm
  refine ⟨?_,d⟩
  rw [e,Nat.pow_add,← Nat.mul_assoc] at b
  exact (Nat.div_eq_of_eq_mul_left (jS m) b.symm).symm
theorem JV{z e:Int}{m:Nat}(h:Sm z e)(h0:z ≠ 0)(hm:m≤tz z.natAbs){k:Int}(hk:k=((tz z.natAbs - m:Nat):Int)) :
    jK (ax (nM z) (nl (nM z))) k=some (.r0 (ax (z.natAbs / 2 ^ m) (nl (z.natAbs / 2 ^ m))) (nl (z.natAbs / 2 ^ m)) 0):=by
  obtain ⟨e1,e2⟩:=xp hm
  have ht:=h.t
  have hM:=h.m
  have hN:nl (z.natAbs / 2 ^ m)≤300:=Nat.le_trans (nm (Nat.div_le_self _ _)) h.l
  rw [hk,aqX (cq _) (Ed h0) (by omega) (by omega) (by omega) (by rw [e1];omega),e1]
theorem aot{a b:Int}(h:a≤b) :qy a b=a:=by unfold qy;rw [if_neg (by omega)]
theorem UT{a b:Int}(h:b≤a) :qy a b=b:=by
  unfold qy
  by_cases q:b < a
  · rw [if_pos q]
  · rw [if_neg q];omega
theorem UU{a b:Int}(h:a≤b) :lQ a b=b:=by
  unfold lQ
  by_cases q:b > a
  · rw [if_pos q]
  · rw [if_neg q];omega
theorem aou{a b:Int}(h:b≤a) :lQ a b=a:=by unfold lQ;rw [if_neg (by omega)]
structure Lvl (x y e:Int) (m:Nat) (ep:Int):Prop where
  x2:x.natAbs / 2 ^ m * 2 ^ m=x.natAbs
  y2:y.natAbs / 2 ^ m * 2 ^ m=y.natAbs
  at':(x=0∧y=0∧ep=0)∨ep=e+m
  b : -50000≤ep∧ep≤94800
theorem Lvl.sum{x y e ep:Int}{m:Nat}(h:Lvl x y e m ep){z z':Int}(hz:z=z' * ((2 ^ m:Nat):Int))(h0:x=0→y=0→z'=0) :nS z=nS z'∧nM z=nM z'∧nE z e=nE z' ep:=by
  obtain ⟨a,b,c⟩:=Ee hz e
  refine ⟨a,b,?_⟩
  rcases h.at' with ⟨h1,h2,h3⟩ | h1
  · have:=h0 h1 h2
    subst this
    rw [Int.zero_mul] at hz
    rw [hz,eT,eT]
  · rw [c,h1]
theorem Zb{x y e:Int}(hx:Sm x e)(hy:Sm y e) :∃ m ep,dI (ax (nM x) (nl (nM x))) (nE x e) (ax (nM y) (nl (nM y))) (nE y e) =
    some (.r0 0 ep (ax (x.natAbs / 2 ^ m) (nl (x.natAbs / 2 ^ m))) (nl (x.natAbs / 2 ^ m)) (ax (y.natAbs / 2 ^ m) (nl (y.natAbs / 2 ^ m))) (nl (y.natAbs / 2 ^ m)))∧Lvl x y e m ep:=by
  have hxt:=hx.t
  have hyt:=hy.t
  obtain ⟨_,e1,e2⟩:=hx
  have zn:∀ m,((0:Int).natAbs / 2 ^ m)=0:=fun m=>by rw [Int.natAbs_zero,Nat.zero_div]
  by_cases h1:x=0
  · subst h1
    have l0:nl (nM 0)=0:=by rw [iO,eA]
    by_cases h2:y=0
    · subst h2
      refine ⟨0,0,aY (ak (a:=0) ?_ (ak (a:=([],0,[],0)) ?_ ?_)),⟨by simp,by simp,.inl ⟨rfl,rfl,rfl⟩,by omega⟩⟩
      · unfold qL;rw [aq,l0,eT];exact bm rfl
      · unfold kZ;rw [aq,l0];exact bm (bm rfl)
      · rw [zn,eA];rfl
    · have ly:nl (nM y) ≠ 0:=fun q=>Ed h2 (iN.1 q)
      obtain ⟨_,d⟩:=xp (z:=y) (Nat.le_refl _)
      refine ⟨tz y.natAbs,nE y e,aY (ak (a:=nE y e) ?_ (ak (a:=([],0,ax (y.natAbs / 2 ^ tz y.natAbs) (nl (y.natAbs / 2 ^ tz y.natAbs)),nl (y.natAbs / 2 ^ tz y.natAbs))) ?_ ?_)),⟨by simp,d,.inr (io h2),by rw [io h2];omega⟩⟩
      · unfold qL;rw [aq,l0];exact bm rfl
      · show (kZ _ _ _ _ _).run=_
        unfold kZ
        rw [aq,aq,l0,bc aq,JV hy h2 (Nat.le_refl _) (k:=nE y e - nE y e) (by omega)]
        exact bm (cx (cH (by rw [cy];omega) (bN (am rfl))))
      · rw [zn,eA];rfl
  · have lx:nl (nM x) ≠ 0:=fun q=>Ed h1 (iN.1 q)
    by_cases h2:y=0
    · subst h2
      have l0:nl (nM 0)=0:=by rw [iO,eA]
      obtain ⟨_,d⟩:=xp (z:=x) (Nat.le_refl _)
      have hx:Sm x e:=⟨by assumption,e1,e2⟩
      refine ⟨tz x.natAbs,nE x e,aY (ak (a:=nE x e) ?_ (ak (a:=(ax (x.natAbs / 2 ^ tz x.natAbs) (nl (x.natAbs / 2 ^ tz x.natAbs)),nl (x.natAbs / 2 ^ tz x.natAbs),[],0)) ?_ ?_)),⟨d,by simp,.inr (io h1),by rw [io h1];omega⟩⟩
      · unfold qL;rw [aq,aq,l0];exact cx (bm rfl)
      · show (kZ _ _ _ _ _).run=_
        unfold kZ
        rw [aq,aq,l0,bc (l:=ax (nM x) (nl (nM x))) aq,JV hx h1 (Nat.le_refl _) (k:=nE x e - nE x e) (by omega)]
        exact cx (cH (by rw [cy];omega) (bN (am (bm rfl))))
      · rw [zn,eA];rfl
    · have ly:nl (nM y) ≠ 0:=fun q=>Ed h2 (iN.1 q)
      have hx:Sm x e:=⟨by assumption,e1,e2⟩
      have ex:=io (e:=e) h1
      have ey:=io (e:=e) h2
      have emin:qy (nE x e) (nE y e)=e+((min (tz x.natAbs) (tz y.natAbs):Nat):Int):=by
        rw [ex,ey]
        rcases Nat.le_total (tz x.natAbs) (tz y.natAbs) with q | q
        · rw [aot (by omega),Nat.min_eq_left q]
        · rw [UT (by omega),Nat.min_eq_right q]
      have emax:lQ (nE x e) (nE y e)=e+((max (tz x.natAbs) (tz y.natAbs):Nat):Int):=by
        rw [ex,ey]
        rcases Nat.le_total (tz x.natAbs) (tz y.natAbs) with q | q
        · rw [UU (by omega),Nat.max_eq_right q]
        · rw [aou (by omega),Nat.max_eq_left q]
      have mx:min (tz x.natAbs) (tz y.natAbs)≤tz x.natAbs:=Nat.min_le_left _ _
      have my:min (tz x.natAbs) (tz y.natAbs)≤tz y.natAbs:=Nat.min_le_right _ _
      have gx:max (tz x.natAbs) (tz y.natAbs)≤44800:=by omega
      have gl:min (tz x.natAbs) (tz y.natAbs)≤max (tz x.natAbs) (tz y.natAbs):=by omega
      revert emin emax mx my gx gl
      generalize min (tz x.natAbs) (tz y.natAbs)=m
      generalize max (tz x.natAbs) (tz y.natAbs)=g
      intro emin emax mx my gx gl
      obtain ⟨_,dx⟩:=xp mx
      obtain ⟨_,dy⟩:=xp my
      refine ⟨m,e+m,aY (ak (a:=e+(m:Int)) ?_ (ak (a:=(ax (x.natAbs / 2 ^ m) (nl (x.natAbs / 2 ^ m)),nl (x.natAbs / 2 ^ m),ax (y.natAbs / 2 ^ m) (nl (y.natAbs / 2 ^ m)),nl (y.natAbs / 2 ^ m))) ?_ rfl)),⟨dx,dy,.inr rfl,by omega⟩⟩
      · unfold qL
        rw [aq,aq,emin,emax]
        exact cx (cx (cH (by rw [cy];omega) (cE (by rw [decide_eq_false_iff_not];omega) rfl)))
      · show (kZ _ _ _ _ _).run=_
        unfold kZ
        rw [aq,aq,bc (l:=ax (nM x) (nl (nM x))) aq,bc (l:=ax (nM y) (nl (nM y))) aq,JV hx h1 mx (k:=nE x e - (e+(m:Int))) (by omega),JV hy h2 my (k:=nE y e - (e+(m:Int))) (by omega)]
        exact cx (cH (by rw [cy];omega) (bN (am (cx (cH (by rw [cy];omega) (bN (am rfl)))))))
theorem RH(s:Bool){v n:Nat}(hv:v < W ^ n)(hn:n≤1000000)(hl:nl v≤1000){e:Int}(he : -150000≤e∧e≤150000) :
    ∃ N,cw s (ax v n) 0 e=some (.r0 0 (nS (sg s v)) (ax (nM (sg s v)) N) 0 (nl (nM (sg s v))) (nE (sg s v) e))∧nl (nM (sg s v))≤N∧N≤4096:=by
  obtain ⟨N,h1,h2,h3⟩:=Ns s hv hn hl he
  refine ⟨N,aY (ak (a:=(0,nS (sg s v),ax (nM (sg s v)) N,0,nl (nM (sg s v)),nE (sg s v) e)) ?_ rfl),h2,h3⟩
  unfold KB
  rw [az,h1]
  exact aW (aT (am rfl))
theorem ad5{x y e:Int}{s t:Bool}(hs:x ≠ 0→s=nS x)(ht:y ≠ 0→t=nS y)(hx:Sm x e)(hy:Sm y e) :
    ∃ N,c6 s (ax (nM x) (nl (nM x))) (nE x e) t (ax (nM y) (nl (nM y))) (nE y e)=some (.r0 0 (nS (x+y)) (ax (nM (x+y)) N) 0 (nl (nM (x+y))) (nE (x+y) e))∧nl (nM (x+y))≤N∧N≤4096:=by
  obtain ⟨Nx,x1,x2,x3⟩:=GH hs hx
  obtain ⟨Ny,y1,y2,y3⟩:=GH ht hy
  obtain ⟨m,ep,l1,l2⟩:=Zb hx hy
  have xl:=hx.l
  have yl:=hy.l
  have hX:nl (x.natAbs / 2 ^ m)≤300:=Nat.le_trans (nm (Nat.div_le_self _ _)) xl
  have hY:nl (y.natAbs / 2 ^ m)≤300:=Nat.le_trans (nm (Nat.div_le_self _ _)) yl
  have ox:=aol l2.x2
  have oy:=aol l2.y2
  have z0:∀ {z:Int},z=0→z.natAbs / 2 ^ m=0:=fun h=>by rw [h,Int.natAbs_zero,Nat.zero_div]
  have zx:x=0→x.natAbs / 2 ^ m=0:=z0
  have zy:y=0→y.natAbs / 2 ^ m=0:=z0
  have hb:=l2.b
  have t9:(Ii s (ax (nM x) (nl (nM x))) (nE x e) t (ax (nM y) (nl (nM y))) (nE y e)).run=some (.inl (0,nS x,ax (nM x) Nx,0,nl (nM x),nE x e,nS y,ax (nM y) Ny,0,nl (nM y),nE y e,false)):=by
    unfold Ii
    rw [az,az,Nr hx,Nr hy,x1,y1]
    exact bm (am (aT (am (aW (aT (am (am (bm (am (aT (am (aW (aT (am (am (aW rfl))))))))))))))))
  have t10:(FL 0 (ax (nM x) Nx) 0 (nl (nM x)) (nE x e) (ax (nM y) Ny) 0 (nl (nM y)) (nE y e)).run=some (.inl (0,ep,ax (x.natAbs / 2 ^ m) (nl (x.natAbs / 2 ^ m)),nl (x.natAbs / 2 ^ m),ax (y.natAbs / 2 ^ m) (nl (y.natAbs / 2 ^ m)),nl (y.natAbs / 2 ^ m))):=by
    unfold FL
    rw [bT x2,bT y2,l1]
    exact aW (cH (bv x2) (cH (bv y2) (am rfl)))
  clear l1 x1 y1
  have sum:=fun {z z':Int} (a:z=z' * ((2 ^ m:Nat):Int)) (b:x=0→y=0→z'=0)=>l2.sum a b
  revert t10 hX hY ox oy zx zy
  generalize x.natAbs / 2 ^ m=X
  generalize y.natAbs / 2 ^ m=Y
  intro hX hY ox oy zx zy t10
  have hXY:=aeV hX hY
  by_cases hsg:nS x=nS y
  · have hz:x+y=sg (nS x) (X+Y) * ((2 ^ m:Nat):Int):=by
      rw [← aqG,Int.add_mul,← ox]
      rw [hsg,← oy]
    obtain ⟨a,b,c⟩:=sum hz (fun p q=>by rw [zx p,zy q];cases nS x <;> rfl)
    obtain ⟨N,h1,h2,h3⟩:=RH (nS x) (v:=X+Y) (cq _) (by omega) (by omega) (e:=ep) (by omega)
    rw [a,b,c]
    refine ⟨N,aY (ak t9 (ak t10 (bt ?_))),h2,h3⟩
    show (ui _ _ _ _ _ _ _ _).run=_
    unfold ui
    have hc:nl (X+Y)≤max (nl X) (nl Y)+1:=aeV (Nat.le_max_left _ _) (Nat.le_max_right _ _)
    rw [bc aq,bc aq,aqS (cq X) (cq Y) (by omega) (by omega) (by omega) (by omega) (by omega)]
    simp only [zT,iP,iQ,jU,iR]
    rw [bT hc,show (((0:Nat):Int))=0 from rfl,h1]
    exact aW (jz (by rw [hsg];cases nS y <;> rfl) (bN (bN (am (cH (bv hc) (bN (bN (am rfl))))))))
  · have hn:nS y = !(nS x):=by revert hsg;cases nS x <;> cases nS y <;> simp
    have t11:(ui (nS x) (nS y) 0 ep (ax X (nl X)) (nl X) (ax Y (nl Y)) (nl Y)).run=some (.inl ()):=by
      unfold ui
      exact aW (cE (by rw [hn];cases nS x <;> rfl) rfl)
    have t12:(FM (ax X (nl X)) (nl X) (ax Y (nl Y)) (nl Y)).run=some (.inl (nP X Y)):=by
      unfold FM
      rw [bc aq,bc aq,ak0 (cq X) (cq Y) (by omega) (by omega) (by omega) (by omega)]
      exact bN (bN (am rfl))
    have hxy:x+y=(sg (nS x) X - sg (nS x) Y) * ((2 ^ m:Nat):Int):=by
      rw [Int.sub_mul,← ox]
      have:y = -(sg (nS x) Y) * ((2 ^ m:Nat):Int):=by rw [← QW,← hn];exact oy
      rw [Int.neg_mul] at this
      omega
    by_cases hlt:X < Y
    · have hz:x+y=sg (nS y) (Y - X) * ((2 ^ m:Nat):Int):=by
        rw [hxy,← aeW (Nat.le_of_lt hlt),hn,QW,QW];congr 1;omega
      obtain ⟨a,b,c⟩:=sum hz (fun p q=>by rw [zx p,zy q];cases nS y <;> rfl)
      have hd:nl (Y - X)≤nl Y:=nm (Nat.sub_le _ _)
      obtain ⟨N,h1,h2,h3⟩:=RH (nS y) (v:=Y - X) (cq _) (by omega) (by omega) (e:=ep) (by omega)
      rw [a,b,c]
      refine ⟨N,aY (ak t9 (ak t10 (ak t11 (ak t12 (bt ?_))))),h2,h3⟩
      show (FO _ _ _ _ _ _ _).run=_
      unfold FO
      have hc:nP X Y = -1:=if_pos hlt
      rw [hc,bc aq,bc aq,akZ (cq Y) (cq X) (by omega) (by omega) (by omega) (by omega) (Nat.le_of_lt hlt)]
      simp only [vU,gZ,g5,g6,iS]
      rw [bT hd,show (((0:Nat):Int))=0 from rfl,h1]
      exact bm (bN (bN (am (cH (bv hd) (bN (bN (am rfl)))))))
    · have hz:x+y=sg (nS x) (X - Y) * ((2 ^ m:Nat):Int):=by
        rw [hxy,← aeW (by omega)]
      obtain ⟨a,b,c⟩:=sum hz (fun p q=>by rw [zx p,zy q];cases nS x <;> rfl)
      have hd:nl (X - Y)≤nl X:=nm (Nat.sub_le _ _)
      obtain ⟨N,h1,h2,h3⟩:=RH (nS x) (v:=X - Y) (cq _) (by omega) (by omega) (e:=ep) (by omega)
      rw [a,b,c]
      have hc:decide (nP X Y < 0)=false:=by
        rw [decide_eq_false_iff_not];unfold nP;rw [if_neg hlt];split <;> omega
      refine ⟨N,aY (ak t9 (ak t10 (ak t11 (ak t12 (ak (a:=()) (cE hc rfl) (ak (a:=(0,ax (X - Y) (nl X),0,nl (X - Y))) ?_ (ak (a:=(0,nS (sg (nS x) (X - Y)),ax (nM (sg (nS x) (X - Y))) N,0,nl (nM (sg (nS x) (X - Y))),nE (sg (nS x) (X - Y)) ep)) ?_ rfl))))))),h2,h3⟩
      · show (FP _ _ _ _).run=_
        unfold FP
        rw [bc aq,bc aq,akZ (cq X) (cq Y) (by omega) (by omega) (by omega) (by omega) (by omega)]
        exact bN (bN (am rfl))
      · show (FQ _ _ _ _ _ _ _ _ _ _).run=_
        unfold FQ
        rw [bT hd,show (((0:Nat):Int))=0 from rfl,h1]
        exact cH (bv hd) (bN (bN (am rfl)))
theorem ape{x y e:Int}(hx:Sm x e)(hy:Sm y e) :
    ∃ N,c6 (nS x) (ax (nM x) (nl (nM x))) (nE x e) (nS y) (ax (nM y) (nl (nM y))) (nE y e)=some (.r0 0 (nS (x+y)) (ax (nM (x+y)) N) 0 (nl (nM (x+y))) (nE (x+y) e))∧nl (nM (x+y))≤N∧N≤4096 :=
  ad5 (fun _=>rfl) (fun _=>rfl) hx hy
theorem ad6{x y e:Int}(hx:Sm x e)(hy:Sm y e) :
    ∃ N,fK (nS x) (ax (nM x) (nl (nM x))) (nE x e) (nS y) (ax (nM y) (nl (nM y))) (nE y e)=some (.r0 0 (nS (x - y)) (ax (nM (x - y)) N) 0 (nl (nM (x - y))) (nE (x - y) e))∧nl (nM (x - y))≤N∧N≤4096:=by
  obtain ⟨N,h1,h2,h3⟩:=ad5 (x:=x) (y:=-y) (e:=e) (s:=nS x) (t:=!(nS y)) (fun _=>rfl) (fun h=>by
    unfold nS;rw [← decide_not];congr 1;exact propext (by omega)) hx hy.n
  rw [aqE,aqF,← Int.sub_eq_add_neg] at h1
  rw [← Int.sub_eq_add_neg] at h2
  refine ⟨N,aY (ak (a:=(0,nS (x - y),ax (nM (x - y)) N,0,nl (nM (x - y)),nE (x - y) e)) ?_ rfl),h2,h3⟩
  unfold Tn
  rw [az,az,h1]
  exact aT (aT (am rfl))
theorem JW{x y e f:Int}(hx:Sm x e)(hy:Sm y f) :
    ∃ N,aB (nS x) (ax (nM x) (nl (nM x))) (nE x e) (nS y) (ax (nM y) (nl (nM y))) (nE y f)=some (.r0 0 (nS (x * y)) (ax (nM (x * y)) N) 0 (nl (nM (x * y))) (nE (x * y) (e+f)))∧nl (nM (x * y))≤N∧N≤4096:=by
  obtain ⟨Nx,x1,x2,x3⟩:=GH (s:=nS x) (fun _=>rfl) hx
  obtain ⟨Ny,y1,y2,y3⟩:=GH (s:=nS y) (fun _=>rfl) hy
  have xm:=hx.m
  have ym:=hy.m
  have xb:=hx.b
  have yb:=hy.b
  have hm:=al9 (a:=nM x) (b:=nM y)
  obtain ⟨N,h1,h2,h3⟩:=Ns (nS x != nS y) (v:=nM x * nM y) (cq _) (by omega) (by omega) (e:=nE x e+nE y f) (by omega)
  have key:nS (x * y)=nS (sg (nS x != nS y) (nM x * nM y))∧nM (x * y)=nM (sg (nS x != nS y) (nM x * nM y))∧nE (x * y) (e+f)=nE (sg (nS x != nS y) (nM x * nM y)) (nE x e+nE y f):=by
    have hz:x * y=sg (nS x != nS y) (nM x * nM y) * ((2 ^ (tz x.natAbs+tz y.natAbs):Nat):Int):=by
      have a:=Oe x
      have b:=Oe y
      rw [← adv,Nat.pow_add,Int.natCast_mul]
      conv=>lhs;rw [← a,← b]
      simp only [Int.mul_assoc,Int.mul_comm,Int.mul_left_comm]
    obtain ⟨a,b,c⟩:=Ee hz (e+f)
    refine ⟨a,b,?_⟩
    rw [c]
    by_cases p:x=0
    · subst p;rw [iO,Nat.zero_mul]
      have:sg (nS 0 != nS y) 0=0:=tY.2 rfl
      rw [this,eT,eT]
    · by_cases q:y=0
      · subst q;rw [iO,Nat.mul_zero]
        have:sg (nS x != nS 0) 0=0:=tY.2 rfl
        rw [this,eT,eT]
      · rw [io p,io q];congr 1;omega
  obtain ⟨a,b,c⟩:=key
  rw [a,b,c]
  refine ⟨N,aY (ak (a:=(0,nS x,ax (nM x) Nx,0,nl (nM x),nE x e,nS y,ax (nM y) Ny,0,nl (nM y),nE y f,false)) ?_ (ak (a:=(ax (nM x * nM y) (nl (nM x)+nl (nM y)),0,nl (nM x * nM y),0)) ?_ (ak (a:=(0,nS (sg (nS x != nS y) (nM x * nM y)),ax (nM (sg (nS x != nS y) (nM x * nM y))) N,0,nl (nM (sg (nS x != nS y) (nM x * nM y))),nE (sg (nS x != nS y) (nM x * nM y)) (nE x e+nE y f))) ?_ rfl))),h2,h3⟩
  · unfold SB
    rw [az,az,Nr hx,Nr hy,x1,y1]
    exact bm (am (aT (am (aW (aT (am (am (bm (am (aT (am (aW (aT (am (am (aW rfl))))))))))))))))
  · show (Ik _ _ _ _ _ _ _).run=_
    unfold Ik
    rw [bT x2,bT y2,aqU (cq (nM x)) (cq (nM y)) (by omega) (by omega) (by omega)]
    have e1:nl (nM x)=nl (nM x):=rfl
    exact aW (cH (bv x2) (cH (bv y2) (am rfl)))
  · show (Il _ _ _ _ _ _ _ _).run=_
    unfold Il
    rw [bT hm]
    have h1':cG (!(nS x == nS y)) (ax (nM x * nM y) (nl (nM x * nM y))) (nE x e+nE y f)=_:=h1
    rw [h1']
    exact aW (cH (by rw [cy];omega) (cH (bv hm) (am rfl)))
def nX(z:Int) :Int:=if z < 0 then -1 else if 0 < z then 1 else 0
theorem zz(z:Int) :iz (nS z) (ax (nM z) (nl (nM z)))=some (.r0 (nX z)):=by
  refine aY ?_
  unfold OH
  rw [aq]
  unfold nX nS
  by_cases h0:z=0
  · subst h0;rw [iO,eA];exact bm rfl
  · have:nl (nM z) ≠ 0:=fun q=>Ed h0 (iN.1 q)
    by_cases h:z < 0
    · rw [if_pos h];exact cx (jz (decide_eq_true h) rfl)
    · rw [if_neg h,if_pos (by omega)];exact cx (cE (decide_eq_false h) rfl)
theorem ah2{X Y p:Nat}(hp:0 < p) :nP X Y=Hb ((X:Int) * p) ((Y:Int) * p):=by
  unfold nP Hb
  have h:∀ {a b:Nat},a < b↔(a:Int) * p < (b:Int) * p:=fun {a b}=>by
    rw [← Int.natCast_mul,← Int.natCast_mul,Int.ofNat_lt]
    exact ⟨fun q=>Nat.mul_lt_mul_of_pos_right q hp,fun q=>Nat.lt_of_mul_lt_mul_right q⟩
  simp only [h]
theorem arE{a b:Int} :(0:Int) - Hb a b=Hb (-a) (-b):=by unfold Hb;split <;> split <;> (try split) <;> omega
theorem apf{x y e:Int}(hx:Sm x e)(hy:Sm y e) :
    sP (nS x) (ax (nM x) (nl (nM x))) (nE x e) (nS y) (ax (nM y) (nl (nM y))) (nE y e)=some (.r0 (Hb x y) 0):=by
  obtain ⟨Nx,x1,x2,x3⟩:=GH (s:=nS x) (fun _=>rfl) hx
  obtain ⟨Ny,y1,y2,y3⟩:=GH (s:=nS y) (fun _=>rfl) hy
  obtain ⟨m,ep,l1,l2⟩:=Zb hx hy
  have xl:=hx.l
  have yl:=hy.l
  have hX:nl (x.natAbs / 2 ^ m)≤300:=Nat.le_trans (nm (Nat.div_le_self _ _)) xl
  have hY:nl (y.natAbs / 2 ^ m)≤300:=Nat.le_trans (nm (Nat.div_le_self _ _)) yl
  have hc:nP (x.natAbs / 2 ^ m) (y.natAbs / 2 ^ m)=Hb (x.natAbs:Int) (y.natAbs:Int):=by
    rw [ah2 (jS m),← Int.natCast_mul,← Int.natCast_mul,l2.x2,l2.y2]
  have t8:(Io 0 (ax (x.natAbs / 2 ^ m) (nl (x.natAbs / 2 ^ m))) (nl (x.natAbs / 2 ^ m)) (ax (y.natAbs / 2 ^ m) (nl (y.natAbs / 2 ^ m))) (nl (y.natAbs / 2 ^ m))).run=some (.inl (Hb (x.natAbs:Int) (y.natAbs:Int))):=by
    unfold Io
    rw [bc aq,bc aq,ak0 (cq _) (cq _) (by omega) (by omega) (by omega) (by omega),← hc]
    exact aW (bN (bN (am rfl)))
  have t7:(In 0 (ax (nM x) Nx) 0 (nl (nM x)) (nE x e) (ax (nM y) Ny) 0 (nl (nM y)) (nE y e)).run=some (.inl (0,ep,ax (x.natAbs / 2 ^ m) (nl (x.natAbs / 2 ^ m)),nl (x.natAbs / 2 ^ m),ax (y.natAbs / 2 ^ m) (nl (y.natAbs / 2 ^ m)),nl (y.natAbs / 2 ^ m))):=by
    unfold In
    rw [bT x2,bT y2,l1]
    exact aW (cH (bv x2) (cH (bv y2) (am rfl)))
  refine aY (ak (a:=(0,nS x,ax (nM x) Nx,0,nl (nM x),nE x e,nS y,ax (nM y) Ny,0,nl (nM y),nE y e)) ?_ (ak t7 (ak t8 ?_)))
  · unfold SE
    rw [az,az,Nr hx,Nr hy,x1,y1]
    exact bm (am (aT (am (aW (aT (am (am (bm (am (aT (am (aW (aT (am (am (aW rfl))))))))))))))))
  · have h9:∀ n18,tr (nS x) (ax (nM x) Nx) 0 (nl (nM x)) (nS y) (ax (nM y) Ny) 0 (nl (nM y)) n18=tr (nS x) (ax (nM x) Nx) 0 (nl (nM x)) (nS y) (ax (nM y) Ny) 0 (nl (nM y)) n18:=fun _=>rfl
    by_cases hs:nX x=nX y
    · by_cases hn:x < 0
      · have e1:nS x=true:=decide_eq_true hn
        have hy0:y < 0:=by unfold nX at hs;rw [if_pos hn] at hs;revert hs;split <;> (try split) <;> omega
        have ev:(0:Int) - Hb (x.natAbs:Int) (y.natAbs:Int)=Hb x y:=by
          rw [arE];congr 1 <;> omega
        refine bt ?_
        unfold tr
        rw [bT x2,bT y2,zz,zz]
        simp only [jV,fC]
        refine cH (bv x2) (am (cH (bv y2) (am (cE (by rw [hs,bne_self_eq_false]) (jz e1 (cH ?_ ?_))))))
        · rw [ev,cy];unfold Hb;split <;> (try split) <;> omega
        · rw [ev];rfl
      · have e1:nS x=false:=decide_eq_false hn
        have hy0 : ¬ y < 0:=by unfold nX at hs;rw [if_neg hn] at hs;revert hs;split <;> (try split) <;> (try split) <;> omega
        have ev:Hb (x.natAbs:Int) (y.natAbs:Int)=Hb x y:=by congr 1 <;> omega
        refine ak (a:=()) ?_ (by rw [ev];rfl)
        unfold tr
        rw [bT x2,bT y2,zz,zz]
        simp only [jV,fC]
        exact cH (bv x2) (am (cH (bv y2) (am (cE (by rw [hs,bne_self_eq_false]) (cE e1 rfl)))))
    · have ev:lQ (-1) (qy 1 (nX x - nX y))=Hb x y:=by
        unfold lQ qy Hb;unfold nX at hs ⊢
        revert hs
        repeat' split
        all_goals omega
      refine bt ?_
      unfold tr
      rw [bT x2,bT y2,zz,zz]
      simp only [jV,fC]
      rw [ev]
      refine cH (bv x2) (am (cH (bv y2) (am (jz (bne_iff_ne.2 hs) (cH (bv x2) (am (cH (bv y2) (am (cH ?_ rfl)))))))))
      rw [cy];unfold nX;split <;> (try split) <;> (try split) <;> (try split) <;> omega
theorem ak2{x e k:Int}(hx:Sm x e)(hk : -30000≤k∧k≤30000) :
    ∃ N,jW (nS x) (ax (nM x) (nl (nM x))) (nE x e) k=some (.r0 0 (nS x) (ax (nM x) N) 0 (nl (nM x)) (nE x (e+k)))∧nl (nM x)≤N∧N≤4096:=by
  obtain ⟨Nx,x1,x2,x3⟩:=GH (s:=nS x) (fun _=>rfl) hx
  have xm:=hx.m
  have xb:=hx.b
  have t5:(CH (nS x) (ax (nM x) (nl (nM x))) (nE x e)).run=some (.inl (0,nS x,ax (nM x) Nx,0,nl (nM x),nE x e,false)):=by
    unfold CH
    rw [az,Nr hx,x1]
    exact bm (am (aT (am (aW (aT (am (am (aW rfl))))))))
  by_cases h0:x=0
  · subst h0
    rw [iO,eA] at t5
    rw [iO,eA,eT,US]
    refine ⟨0,aY (ak (by rw [eT,US] at t5;exact t5) (ak (a:=true) (aW rfl) (bt (bm rfl)))),Nat.le_refl _,Nat.zero_le _⟩
  · have hl:nl (nM x) ≠ 0:=fun q=>Ed h0 (iN.1 q)
    have ek:lQ (-1048576) (qy 1048576 k)=k:=by rw [UT (by omega),UU (by omega)]
    obtain ⟨N,h1,h2,h3⟩:=Ns (nS x) (v:=nM x) (cq _) (by omega) (by omega) (e:=nE x e+k) (by omega)
    obtain ⟨a,b,c⟩:=Of (z:=x) (e:=e) (s:=nS x) (fun _=>rfl)
    have c':nE (sg (nS x) (nM x)) (nE x e+k)=nE x (e+k):=by
      have q:sg (nS x) (nM x) ≠ 0:=fun w=>Ed h0 (tY.1 w)
      rw [io q,io h0] at c
      rw [io q,io h0,io h0];omega
    rw [a,b,c'] at h1
    rw [b] at h2
    refine ⟨N,aY (ak t5 (ak (a:=false) (aW (by show some (Sum.inl _)=_;rw [beq_eq_false_iff_ne.2 (by omega)])) (ak (a:=(0,nS x,ax (nM x) N,0,nl (nM x),nE x (e+k))) ?_ rfl))),h2,h3⟩
    show (CI _ _ _ _ _ _ _ _).run=_
    unfold CI
    rw [bT x2,ek,h1]
    exact aW (cH (by rw [cy];omega) (cH (bv x2) (am rfl)))
theorem Jm{n:Nat}(h:n < 9223372036854775808) :
    ∃ N,bD (n:Int)=some (.r0 (nS (n:Int)) (ax (nM (n:Int)) N) 0 (nl (nM (n:Int))) (nE (n:Int) 0))∧nl (nM (n:Int))≤N∧N≤4096:=by
  have hW:n < W:=Nat.lt_trans h (by decide)
  have hn:nl n≤1:=iJ (by rw [Nat.pow_one];exact hW)
  obtain ⟨N,h1,h2,h3⟩:=tl false (v:=n) (cq _) (by omega) (by omega) (e:=0) (by omega)
  have e:sg false n=(n:Int):=rfl
  rw [e] at h1 h2
  refine ⟨N,aY (ak (a:=((n:Int),false)) ?_ (ak (a:=(nS (n:Int),ax (nM (n:Int)) N,0,nl (nM (n:Int)),nE (n:Int) 0)) ?_ rfl)),h2,h3⟩
  · unfold KE
    rw [jD hW]
    exact cE (by rw [decide_eq_false_iff_not];omega) rfl
  · show (CJ _ _).run=_
    unfold CJ
    have d:decide ((n:Int) < 0)=false:=by rw [decide_eq_false_iff_not];omega
    rw [aos hW,d]
    simp only [vQ,dY,dZ,d4]
    rw [bT hn,h1]
    exact am (cH (bv hn) (am rfl))
theorem Ev{x:Nat}(hx:x < Nv) :eP .and .u64 (Int.fdiv (x:Int) (2 ^ (min (Int.toNat (52:Int)) IntKind.u64.bits))) 2047=((QX x:Nat):Int):=by
  have e:(52:Int)=((52:Nat):Int):=by omega
  have e':(2047:Int)=((2047:Nat):Int):=by omega
  rw [e,BJ _ (by decide),e',Oc]
  have h1:x / 2 ^ 52 < W:=Nat.lt_of_le_of_lt (Nat.div_le_self _ _) hx
  rw [Nat.mod_eq_of_lt h1,Nat.mod_eq_of_lt (show 2047 < W by decide)]
  congr 1
  exact Nat.and_two_pow_sub_one_eq_mod _ 11
theorem zA{x:Nat}(hx:x < Nv) :eP .and .u64 (x:Int) 4503599627370495=((x % 4503599627370496:Nat):Int):=by
  have e':(4503599627370495:Int)=((4503599627370495:Nat):Int):=by omega
  rw [e',Oc,Nat.mod_eq_of_lt hx,Nat.mod_eq_of_lt (show 4503599627370495 < W by decide)]
  congr 1
  exact Nat.and_two_pow_sub_one_eq_mod _ 52
theorem apg{x:Nat}(hx:x < Nv) :Int.fdiv (x:Int) (2 ^ (min (Int.toNat (63:Int)) IntKind.u64.bits))=((x / 9223372036854775808:Nat):Int):=by
  have e:(63:Int)=((63:Nat):Int):=by omega
  rw [e,BJ _ (by decide)]
theorem aq0{y:Nat}(h:y < 4503599627370496) :eP .or .u64 (y:Int) 4503599627370496=((y+4503599627370496:Nat):Int):=by
  have e':(4503599627370496:Int)=((4503599627370496:Nat):Int):=by omega
  have hy:y < W:=Nat.lt_trans h (by decide)
  rw [e',aeT,Nat.mod_eq_of_lt hy,Nat.mod_eq_of_lt (show 4503599627370496 < W by decide)]
  congr 1
  have:=al6 (h:=y) (x:=1) (r:=52) h
  rw [Nat.one_mul] at this
  exact this
def qx(x:Nat) :Nat:=if QX x ≠ 0 then 3 else if x % 4503599627370496 ≠ 0 then 2 else 1
theorem anu{x:Nat}(hx:x < Nv)(h:tZ x=true) :uj (x:Int)=some (.r0 (qx x)):=by
  have h':QX x ≠ 2047:=by unfold tZ at h;exact bne_iff_ne.1 h
  unfold qx
  by_cases h1:QX x=0
  · by_cases h2:x % 4503599627370496=0
    · rw [if_neg (by omega),if_neg (by omega)]
      refine aY (ak (a:=()) ?_ rfl)
      unfold wQ
      rw [Ev hx,zA hx,h1,h2]
      exact am (aW (aW (aW (aW rfl))))
    · rw [if_neg (by omega),if_pos h2]
      refine aY (bt ?_)
      unfold wQ
      rw [Ev hx,zA hx,h1]
      exact am (aW (aW (aW (ck rfl))))
  · rw [if_pos h1]
    refine aY (bt ?_)
    unfold wQ
    rw [Ev hx,zA hx]
    exact am (cx (cx (ck rfl)))
def fm(x:Nat) :Nat:=if QX x ≠ 0 then x % 4503599627370496+4503599627370496 else x % 4503599627370496
def fe(x:Nat) :Int:=if QX x ≠ 0 then -1074+((QX x:Int) - 1) else if x % 4503599627370496 ≠ 0 then -1074 else 0
theorem ad7{z:Nat}(h:z < 4096) :IntKind.i64.wrap ((z:Nat):Int)=((z:Nat):Int):=by
  simp only [IntKind.wrap,IntKind.signed,IntKind.bits]
  simp
  omega
theorem Zc(x:Nat) :QX x < 2048:=Nat.mod_lt _ (by decide)
theorem anv{x:Nat}(hx:x < Nv)(h:tZ x=true) :f7 (x:Int)=some (.r0 0 (x / 9223372036854775808 == 1) ((fm x:Nat):Int) (fe x)):=by
  have hl:=Zc x
  have hs:(((x / 9223372036854775808:Nat):Int) == (1:Int))=(x / 9223372036854775808 == 1):=by
    rw [Bool.eq_iff_iff,beq_iff_eq,beq_iff_eq];omega
  refine aY (ak (a:=(qx x,false,(x / 9223372036854775808 == 1),((x % 4503599627370496:Nat):Int))) ?_ ?_)
  · unfold KF
    rw [anu hx h,zA hx,apg hx,hs]
    exact am (am rfl)
  · show (CL _ _ _ _).run=_
    unfold CL qx fm fe
    rw [Ev hx,ad7 (by omega),aq0 (Nat.mod_lt _ (by decide))]
    by_cases h1:QX x=0
    · by_cases h2:x % 4503599627370496=0
      · rw [if_neg (by omega),if_neg (by omega),if_neg (by omega),if_neg (by omega),if_neg (by omega)]
        exact aW (aW (bm rfl))
      · rw [if_neg (by omega),if_pos h2,if_neg (by omega),if_neg (by omega),if_pos h2]
        exact aW (bm rfl)
    · rw [if_pos h1,if_pos h1,if_pos h1]
      exact bm (am (cH (by rw [cy];omega) (cH (by rw [cy];omega) rfl)))
theorem ar1(x:Nat) :fm x < W:=by
  have:=Nat.mod_lt x (show 4503599627370496 > 0 by decide)
  have w:(9007199254740992:Nat) < W:=by decide
  unfold fm;split <;> omega
theorem ak3{x:Nat}(hx:x < Nv)(h:tZ x=true) :nS (sg (x / 9223372036854775808 == 1) (fm x))=nS (fz x)∧nM (sg (x / 9223372036854775808 == 1) (fm x))=nM (fz x)∧nE (sg (x / 9223372036854775808 == 1) (fm x)) (fe x)=nE (fz x) (-1074):=by
  have hx':x < 18446744073709551616:=hx
  have hl:=Zc x
  unfold fz fm fe
  have hmod:x % 4503599627370496=x % 9223372036854775808 % 4503599627370496:=by omega
  by_cases h1:QX x=0
  · have h3:x % 9223372036854775808 < 4503599627370496:=by unfold QX at h1;omega
    have h4:lW (x % 9223372036854775808)=0:=by unfold lW;omega
    have h5:Cw (x % 9223372036854775808)=x % 4503599627370496:=by unfold Cw;rw [if_pos h3];omega
    rw [h4,h5,Nat.pow_zero,Nat.mul_one,if_neg (by omega),if_neg (by omega)]
    by_cases h2:x % 4503599627370496=0
    · rw [h2,if_neg (by omega)]
      have z:sg (x / 9223372036854775808 == 1) 0=0:=tY.2 rfl
      rw [z,eT,eT];exact ⟨rfl,rfl,rfl⟩
    · rw [if_pos h2];exact ⟨rfl,rfl,rfl⟩
  · have h3 : ¬ x % 9223372036854775808 < 4503599627370496:=by unfold QX at h1;omega
    have h4:lW (x % 9223372036854775808)=QX x - 1:=by unfold lW QX;omega
    have h5:Cw (x % 9223372036854775808)=x % 4503599627370496+4503599627370496:=by unfold Cw;rw [if_neg h3];omega
    rw [h4,h5,if_pos h1,if_pos h1]
    obtain ⟨a,b,c⟩:=Ee (z:=sg (x / 9223372036854775808 == 1) ((x % 4503599627370496+4503599627370496) * 2 ^ (QX x - 1))) (z':=sg (x / 9223372036854775808 == 1) (x % 4503599627370496+4503599627370496)) (m:=QX x - 1) al7 (-1074)
    refine ⟨a.symm,b.symm,?_⟩
    rw [c];congr 1;omega
theorem aq1{x:Nat}(hx:x < Nv)(h:tZ x=true) :
    ∃ N,l8 x=some (.r0 0 (nS (fz x)) (ax (nM (fz x)) N) 0 (nl (nM (fz x))) (nE (fz x) (-1074)))∧nl (nM (fz x))≤N∧N≤4096:=by
  have hm:=ar1 x
  have hn:nl (fm x)≤1:=iJ (by rw [Nat.pow_one];exact hm)
  have hl:=Zc x
  have he : -1000000≤fe x∧fe x≤1000000:=by unfold fe;split <;> (try split) <;> omega
  obtain ⟨N,h1,h2,h3⟩:=tl (x / 9223372036854775808 == 1) (v:=fm x) (cq _) (by omega) (by omega) he
  obtain ⟨a,b,c⟩:=ak3 hx h
  rw [a,b,c] at h1
  rw [b] at h2
  refine ⟨N,aY (ak (a:=(0,false,(x / 9223372036854775808 == 1),((fm x:Nat):Int),fe x)) ?_ (ak (a:=(nS (fz x),ax (nM (fz x)) N,0,nl (nM (fz x)),nE (fz x) (-1074))) ?_ rfl)),h2,h3⟩
  · unfold WM
    rw [anv hx h]
    exact cE (aeX hx h) (arn (cH (by rw [aom hx h];rfl) (am rfl)))
  · show (ML _ _ _ _).run=_
    unfold ML
    rw [aos hm]
    simp only [vQ,dY,dZ,d4]
    rw [bT hn,h1]
    exact aW (am (cH (bv hn) (am rfl)))
end Go.Plb.Seat
namespace Go.Plb
set_option linter.unusedSimpArgs false
set_option linter.unusedVariables false
set_option linter.unusedSectionVars false
variable [Rom]
abbrev H:Nat:=4294967296
def lmh(v i:Nat) :Int:=((v / H ^ i % H:Nat):Int)
def fM(v n:Nat) :List Int:=jA (lmh v) n
theorem tA(n:Nat) :0 < H ^ n:=Nat.pow_pos (by decide)
theorem dX{v n:Nat} :(fM v n).length=n:=fp
theorem Qu{v i:Nat}(h:v < H ^ i) :lmh v i=0:=by unfold lmh;rw [Nat.div_eq_of_lt h];rfl
theorem Zd{v n i:Nat}(h:i < n) :(fM v n).getD i 0=lmh v i:=sL h
theorem wy{v n:Nat}(h:v < H ^ n)(i:Nat) :(fM v n).getD i 0=lmh v i:=by
  by_cases hi:i < n
  · exact Zd hi
  · rw [List.getD_eq_getElem?_getD,List.getElem?_eq_none (by rw [dX];omega)]
    exact (Qu (Nat.lt_of_lt_of_le h (Nat.pow_le_pow_right (by decide) (by omega)))).symm
theorem api{v n m:Nat}(h:m≤n) :ab 0 m (fM v n)=fM v m:=adr h
theorem anw{n:Nat} :List.replicate n (0:Int)=fM 0 n:=by
  rw [rU];exact cW fun i _=>(Qu (tA i)).symm
theorem Ce{u x j:Nat}(hu:u < H ^ j)(hx:x < H)(i:Nat) :lmh (u+x * H ^ j) i=if i=j then (x:Int) else lmh u i:=by
  unfold lmh
  by_cases e:i=j
  · subst e
    rw [if_pos rfl,Nat.add_mul_div_right _ _ (tA i),Nat.div_eq_of_lt hu,Nat.zero_add,Nat.mod_eq_of_lt hx]
  · rw [if_neg e]
    congr 1
    rcases Nat.lt_or_ge i j with h | h
    · obtain ⟨d,rfl⟩:∃ d,j=i+1+d:=⟨j - i - 1,by omega⟩
      have:x * H ^ (i+1+d)=(x * H ^ d * H) * H ^ i:=by
        rw [Nat.pow_add,Nat.pow_succ];simp only [Nat.mul_assoc,Nat.mul_comm,Nat.mul_left_comm]
      rw [this,Nat.add_mul_div_right _ _ (tA i),Nat.add_mul_mod_self_right]
    · have h1:H ^ (j+1)≤H ^ i:=Nat.pow_le_pow_right (by decide) (by omega)
      have h2:u+x * H ^ j < H ^ (j+1):=by
        rw [Nat.pow_succ,Nat.mul_comm (H ^ j)]
        have:(x+1) * H ^ j≤H * H ^ j:=Nat.mul_le_mul_right _ hx
        rw [Nat.add_mul,Nat.one_mul] at this
        omega
      have h3:H ^ j≤H ^ (j+1):=Nat.pow_le_pow_right (by decide) (by omega)
      rw [Nat.div_eq_of_lt (Nat.lt_of_lt_of_le h2 h1),Nat.div_eq_of_lt (by omega)]
theorem adc{u x j n:Nat}(hu:u < H ^ j)(hx:x < H)(hj:j < n) :(fM u n).set j (x:Int)=fM (u+x * H ^ j) n:=by
  unfold fM
  rw [tn hj]
  exact cW fun i _=>(Ce hu hx i).symm
theorem tB(v j:Nat) :v % H ^ (j+1)=v % H ^ j+(v / H ^ j % H) * H ^ j:=by
  rw [Nat.pow_succ,Nat.mod_mul,Nat.mul_comm (H ^ j)]
theorem apj{v n:Nat} :fM (v % H ^ n) n=fM v n:=by
  refine cW fun i hi=>?_
  unfold lmh
  obtain ⟨d,rfl⟩:∃ d,n=i+1+d:=⟨n - i - 1,by omega⟩
  congr 1
  have h:=Nat.mod_mul (a:=H ^ i) (b:=H ^ (d+1)) (x:=v)
  have e:H ^ (i+1+d)=H ^ i * H ^ (d+1):=by rw [← Nat.pow_add];congr 1;omega
  rw [e,h,Nat.add_mul_div_left _ _ (tA i),Nat.div_eq_of_lt (Nat.mod_lt _ (tA i)),Nat.zero_add,Nat.pow_succ,Nat.mod_mul_left_mod]
theorem Jn{S t j:Nat}(hS:S < H ^ j) :(S+t * H ^ j) / H ^ (j+1)=t / H∧(S+t * H ^ j) % H ^ (j+1)=S+(t % H) * H ^ j:=by
  have e1:(S+t * H ^ j) / H ^ j=t:=by rw [Nat.add_mul_div_right _ _ (tA j),Nat.div_eq_of_lt hS,Nat.zero_add]
  have e2:(S+t * H ^ j) % H ^ j=S:=by rw [Nat.add_mul_mod_self_right,Nat.mod_eq_of_lt hS]
  constructor
  · rw [Nat.pow_succ,← Nat.div_div_eq_div_mul,e1]
  · rw [tB,e1,e2]
theorem Cf(v i:Nat) :lmh v i=((v / H ^ i % H:Nat):Int):=rfl
def pX(x y j:Nat) :Nat:=x % H ^ j+y % H ^ j
theorem anx(x y j:Nat) :pX x y (j+1)=pX x y j % H ^ j+(x / H ^ j % H+y / H ^ j % H+pX x y j / H ^ j) * H ^ j:=by
  have h:=Nat.div_add_mod (pX x y j) (H ^ j)
  unfold pX at h ⊢
  rw [tB x,tB y]
  rw [Nat.add_mul,Nat.add_mul,Nat.mul_comm ((x % H ^ j+y % H ^ j) / H ^ j)]
  omega
theorem TD{x y j:Nat} :pX x y j / H ^ j≤1:=by
  have h1:=Nat.mod_lt x (tA j)
  have h2:=Nat.mod_lt y (tA j)
  have:pX x y j < 2 * H ^ j:=by unfold pX;omega
  have:=(Nat.div_lt_iff_lt_mul (tA j)).2 this
  omega
def tE(a b j:Nat) :Nat:=if a % H ^ j < b % H ^ j then 1 else 0
def Cg(a b j:Nat) :Nat:=a % H ^ j+tE a b j * H ^ j - b % H ^ j
theorem ak4{a b j:Nat} :Cg a b j < H ^ j∧b % H ^ j≤a % H ^ j+tE a b j * H ^ j:=by
  have h1:=Nat.mod_lt a (tA j)
  have h2:=Nat.mod_lt b (tA j)
  unfold Cg tE
  generalize a % H ^ j=A at *
  generalize b % H ^ j=B at *
  generalize H ^ j=P at *
  split
  · rw [Nat.one_mul];omega
  · rw [Nat.zero_mul];omega
theorem apk(a b j:Nat) :tE a b (j+1)=(if a / H ^ j % H < b / H ^ j % H+tE a b j then 1 else 0) ∧
    Cg a b (j+1)=Cg a b j+((a / H ^ j % H+H - b / H ^ j % H - tE a b j) % H) * H ^ j:=by
  obtain ⟨hD,hle⟩:=ak4 (a:=a) (b:=b) (j:=j)
  have hbr:tE a b j≤1:=by unfold tE;split <;> omega
  have hla:=Nat.mod_lt (a / H ^ j) (show H > 0 by decide)
  have hlb:=Nat.mod_lt (b / H ^ j) (show H > 0 by decide)
  have eD:Cg a b j+b % H ^ j=a % H ^ j+tE a b j * H ^ j:=by unfold Cg at hD ⊢;omega
  have eW:H ^ (j+1)=H * H ^ j:=by rw [Nat.pow_succ,Nat.mul_comm]
  have ea:=tB a j
  have eb:=tB b j
  generalize a / H ^ j % H=la at *
  generalize b / H ^ j % H=lb at *
  generalize tE a b j=br at *
  generalize Cg a b j=D at *
  by_cases h:la < lb+br
  · obtain ⟨d,hd⟩:∃ d,la+H=lb+br+d:=⟨la+H - lb - br,by omega⟩
    have hdW:d < H:=by omega
    have e3:la * H ^ j+H ^ (j+1)=lb * H ^ j+br * H ^ j+d * H ^ j:=by rw [eW,← Nat.add_mul,← Nat.add_mul,← Nat.add_mul,hd]
    have hlt:a % H ^ (j+1) < b % H ^ (j+1):=by
      have:(d+1) * H ^ j≤H * H ^ j:=Nat.mul_le_mul_right _ hdW
      rw [Nat.add_mul,Nat.one_mul] at this
      rw [ea,eb];omega
    have e1:tE a b (j+1)=1:=by unfold tE;rw [if_pos hlt]
    refine ⟨by rw [if_pos h,e1],?_⟩
    have e4:(la+H - lb - br) % H=d:=by
      have:la+H - lb - br=d:=by omega
      rw [this,Nat.mod_eq_of_lt hdW]
    unfold Cg
    rw [e1,e4,ea,eb,Nat.one_mul];omega
  · obtain ⟨d,hd⟩:∃ d,la=lb+br+d:=⟨la - lb - br,by omega⟩
    have hdW:d < H:=by omega
    have e3:la * H ^ j=lb * H ^ j+br * H ^ j+d * H ^ j:=by rw [← Nat.add_mul,← Nat.add_mul,hd]
    have hlt : ¬ a % H ^ (j+1) < b % H ^ (j+1):=by rw [ea,eb];omega
    have e1:tE a b (j+1)=0:=by unfold tE;rw [if_neg hlt]
    refine ⟨by rw [if_neg h,e1],?_⟩
    have e4:(la+H - lb - br) % H=d:=by
      have:la+H - lb - br=d+H:=by omega
      rw [this,Nat.add_mod_right,Nat.mod_eq_of_lt hdW]
    unfold Cg
    rw [e1,e4,ea,eb,Nat.zero_mul];omega
def lN(O a m k i:Nat) :Nat:=O % H ^ (k+i)+a % H ^ i * m * H ^ k
theorem Ze(O a m k i:Nat) :lN O a m k (i+1)=lN O a m k i % H ^ (k+i)+(O / H ^ (k+i) % H+a / H ^ i % H * m+lN O a m k i / H ^ (k+i)) * H ^ (k+i):=by
  have h:=Nat.div_add_mod (lN O a m k i) (H ^ (k+i))
  have e:H ^ i * H ^ k=H ^ (k+i):=by rw [Nat.pow_add,Nat.mul_comm]
  have e2:(a / H ^ i % H) * H ^ i * m * H ^ k=a / H ^ i % H * m * H ^ (k+i):=by
    rw [← e];generalize a / H ^ i % H=x;ac_rfl
  have e3:lN O a m k (i+1)=lN O a m k i+(O / H ^ (k+i) % H * H ^ (k+i)+a / H ^ i % H * m * H ^ (k+i)):=by
    unfold lN
    rw [← Nat.add_assoc k i 1,tB O,tB a,Nat.add_mul,Nat.add_mul,e2]
    omega
  rw [e3,Nat.add_mul,Nat.add_mul,Nat.mul_comm (lN O a m k i / H ^ (k+i))]
  omega
theorem ak5{O a m k i:Nat} :lN O a m k i / H ^ (k+i)≤m:=by
  have h1:=Nat.mod_lt O (tA (k+i))
  have h2:=Nat.mod_lt a (tA i)
  have e:H ^ i * H ^ k=H ^ (k+i):=by rw [Nat.pow_add,Nat.mul_comm]
  have h3:a % H ^ i * m * H ^ k≤H ^ (k+i) * m:=by
    have:a % H ^ i * (m * H ^ k)≤H ^ i * (m * H ^ k):=Nat.mul_le_mul_right _ (by omega)
    have e4:H ^ i * (m * H ^ k)=H ^ (k+i) * m:=by rw [← e];ac_rfl
    rw [Nat.mul_assoc];omega
  have:lN O a m k i < (m+1) * H ^ (k+i):=by
    rw [Nat.add_mul,Nat.one_mul,Nat.mul_comm m]
    unfold lN;omega
  have:=(Nat.div_lt_iff_lt_mul (tA (k+i))).2 this
  omega
def LQ(O a m k n i:Nat) :List Int:=jA (fun q=>if q < k+i then lmh (lN O a m k i % H ^ (k+i)) q else lmh O q) n
theorem apl{O a m k n i:Nat} :(LQ O a m k n i).length=n:=fp
theorem aq2{O a m k n i:Nat}(h:k+i < n) :(LQ O a m k n i).getD (k+i) 0=lmh O (k+i):=by
  unfold LQ;rw [sL h,if_neg (Nat.lt_irrefl _)]
theorem anz{O a m k n:Nat} :LQ O a m k n 0=fM O n:=by
  refine cW fun q hq=>?_
  by_cases h:q < k+0
  · rw [if_pos h]
    have e:lN O a m k 0 % H ^ (k+0)=O % H ^ k:=by unfold lN;rw [Nat.pow_zero,Nat.mod_one,Nat.zero_mul,Nat.zero_mul,Nat.add_zero,Nat.add_zero,Nat.mod_mod]
    rw [e]
    have:(fM (O % H ^ k) k).getD q 0=(fM O k).getD q 0:=by rw [apj]
    rwa [Zd (by omega),Zd (by omega)] at this
  · rw [if_neg h]
theorem anA{O a m k n i:Nat}(h:k+i < n) :(LQ O a m k n i).set (k+i) (((O / H ^ (k+i) % H+a / H ^ i % H * m+lN O a m k i / H ^ (k+i)) % H:Nat):Int)=LQ O a m k n (i+1):=by
  unfold LQ
  rw [tn h]
  refine cW fun q hq=>?_
  have hS:=Nat.mod_lt (lN O a m k i) (tA (k+i))
  obtain ⟨_,d2⟩:=Jn (t:=O / H ^ (k+i) % H+a / H ^ i % H * m+lN O a m k i / H ^ (k+i)) hS
  rw [← Ze] at d2
  have hl:=Ce hS (Nat.mod_lt (O / H ^ (k+i) % H+a / H ^ i % H * m+lN O a m k i / H ^ (k+i)) (show H > 0 by decide)) q
  rw [← d2] at hl
  rw [← Nat.add_assoc k i 1]
  by_cases e:q=k+i
  · rw [if_pos e] at hl ⊢
    rw [if_pos (by omega),hl]
  · rw [if_neg e] at hl ⊢
    by_cases r:q < k+i
    · rw [if_pos r,if_pos (by omega),hl]
    · rw [if_neg r,if_neg (by omega)]
theorem apm{O a m k n:Nat}(hO:O < H ^ (k+n))(ha:a < H ^ n) :lN O a m k n=O+a * m * H ^ k:=by
  unfold lN;rw [Nat.mod_eq_of_lt hO,Nat.mod_eq_of_lt ha]
theorem apn{O a m k n N:Nat}(hO:O < H ^ (k+n)) :LQ O a m k N n=fM (lN O a m k n % H ^ (k+n)) N:=by
  refine cW fun q hq=>?_
  by_cases h:q < k+n
  · rw [if_pos h]
  · rw [if_neg h,Qu (Nat.lt_of_lt_of_le hO (Nat.pow_le_pow_right (by decide) (by omega))),Qu (Nat.lt_of_lt_of_le (Nat.mod_lt _ (tA _)) (Nat.pow_le_pow_right (by decide) (by omega)))]
theorem anB{u x j:Nat}(hu:u < H ^ j)(hx:x < H) :fM u j ++ [(x:Int)]=fM (u+x * H ^ j) (j+1):=by
  show _=jA _ (j+1)
  simp only [jA]
  rw [Ce hu hx,if_pos rfl]
  congr 1
  refine cW fun i hi=>?_
  rw [Ce hu hx,if_neg (by omega)]
theorem H2(i:Nat) :W ^ i=H ^ (2 * i):=by rw [Nat.pow_mul,show H ^ 2=W by decide]
theorem aov(v i:Nat) :v / W ^ i % W % H=v / H ^ (2 * i) % H:=by
  rw [H2,show W=H * H by decide,Nat.mod_mul_right_mod]
theorem aow(v i:Nat) :v / W ^ i % W / H=v / H ^ (2 * i+1) % H:=by
  rw [H2,show W=H * H by decide,Nat.mod_mul_right_div_self,Nat.div_div_eq_div_mul,Nat.pow_succ]
theorem ak6(v i:Nat) :v / W ^ i % W=v / H ^ (2 * i) % H+v / H ^ (2 * i+1) % H * H:=by
  rw [← aov,← aow,Nat.mul_comm];exact (Nat.mod_add_div _ _).symm
end Go.Plb
namespace Go.Plb.Seat
open Go Go.Plb
set_option linter.unusedSimpArgs false
set_option linter.unusedVariables false
theorem Ew{v n m:Nat}(h:m≤n) :List.take m (ax v n)=ax v m:=by
  have:=bT (v:=v) h
  rwa [JE,List.drop_zero] at this
theorem wz{v n:Nat}(h:v < W ^ n)(hn:n≤1000000) :cT (ax v n)=some (.r0 (nl v) (ax v (nl v))):=by
  have hl:=iJ h
  refine aY (ak rfl (ak (a:=((nl v:Nat):Int)) (bO (fun j=>((n - j:Nat):Int)) (n - nl v) (by simp only [aq];rfl) (fun j hj=>?_) ?_) ?_))
  · show aE (pG _ _).run _=_
    have e:Int.toNat (((n - j:Nat):Int) - 1)=n - (j+1):=by omega
    have z:(ax v n).getD (n - (j+1)) 0=0:=by
      rw [cp h]
      exact BI (Nat.lt_of_lt_of_le (cq v) (Nat.pow_le_pow_right (by decide) (by omega)))
    refine ak (a:=true) ?_ ?_
    · unfold pG
      rw [e,z,aq]
      exact ck (ap (ap (ap rfl)))
    · unfold Ip
      refine bm (ap ?_)
      show some (Sum.inl _)=_
      congr 2;omega
  · have e0:n - (n - nl v)=nl v:=by omega
    show aE (pG _ _).run _=_
    rw [e0]
    by_cases h0:v=0
    · have z:=iN.2 h0
      rw [z]
      exact ak (a:=false) (aW rfl) (aW rfl)
    · have hp:=xQ h0
      have e:Int.toNat (((nl v:Nat):Int) - 1)=nl v - 1:=by omega
      refine ak (a:=false) ?_ (aW rfl)
      unfold pG
      rw [e,cp h,aq]
      refine ck (ap (ap (ap ?_)))
      show some (Sum.inl _)=_
      congr 2
      rw [beq_eq_false_iff_ne];exact aeS h0
  · unfold Iq
    rw [aq,cj,Ew hl]
    exact ap (ap (ap (ap (ap rfl))))
theorem apo{v n:Nat}(h:v < W ^ n)(hn:n≤1000000)(hv:nl v≤4096) :xG (ax v n)=some (.r0 true):=by
  have hl:=iJ h
  refine aY (ak rfl (ak (a:=((nl v:Nat):Int)) (bO (fun j=>((n - j:Nat):Int)) (n - nl v) (by simp only [aq];rfl) (fun j hj=>?_) ?_) ?_))
  · show aE (q9 _ _).run _=_
    have e:Int.toNat (((n - j:Nat):Int) - 1)=n - (j+1):=by omega
    have z:(ax v n).getD (n - (j+1)) 0=0:=by
      rw [cp h]
      exact BI (Nat.lt_of_lt_of_le (cq v) (Nat.pow_le_pow_right (by decide) (by omega)))
    refine ak (a:=true) ?_ ?_
    · unfold q9
      rw [e,z,aq]
      exact ck (ap (ap (ap rfl)))
    · unfold K0
      refine bm (ap ?_)
      show some (Sum.inl _)=_
      congr 2;omega
  · have e0:n - (n - nl v)=nl v:=by omega
    show aE (q9 _ _).run _=_
    rw [e0]
    by_cases h0:v=0
    · have z:=iN.2 h0
      rw [z]
      exact ak (a:=false) (aW rfl) (aW rfl)
    · have hp:=xQ h0
      have e:Int.toNat (((nl v:Nat):Int) - 1)=nl v - 1:=by omega
      refine ak (a:=false) ?_ (aW rfl)
      unfold q9
      rw [e,cp h,aq]
      refine ck (ap (ap (ap ?_)))
      show some (Sum.inl _)=_
      congr 2
      rw [beq_eq_false_iff_ne];exact aeS h0
  · show some (Sum.inr (iB.r0 (decide (((nl v:Nat):Int)≤4096))))=_
    rw [decide_eq_true (by omega)]
theorem aox(x:Nat) :Int.tmod (x:Int) (4294967296:Int)=((x % 4294967296:Nat):Int):=rfl
theorem aoy(x:Nat) :Int.tdiv (x:Int) (4294967296:Int)=((x / 4294967296:Nat):Int):=rfl
theorem GI{v n m:Nat}(h:m≤n) :List.take m (fM v n)=fM v m:=by
  have:=api (v:=v) h
  rwa [JE,List.drop_zero] at this
theorem GJ(v n:Nat) :v % H ^ n < H ^ n:=Nat.mod_lt _ (tA n)
theorem Ex{v n:Nat}(h:v < W ^ n)(hn:n≤100000) :df (ax v n)=some (.r0 (2 * n) (2 * n) (fM v (2 * n))):=by
  refine aY (ak rfl (ak (a:=(2 * n,2 * n,fM v (2 * n))) (bO (fun i=>(2 * i,2 * i,i,fM v (2 * i))) n rfl (fun i hi=>?_) ?_) rfl))
  · show (wT _ _ _ _ _).run=_
    unfold wT
    have e1:fM v (2 * (i+1))=fM v (2 * i) ++ [((v / H ^ (2 * i) % H:Nat):Int),((v / H ^ (2 * i+1) % H:Nat):Int)]:=by
      show jA _ (2 * i+1+1)=_
      simp only [jA,fM,Cf,List.append_assoc];rfl
    rw [cp h,tW,aq,dX,aox,aoy]
    have hlt:v / W ^ i % W / 4294967296 < W:=Nat.lt_of_le_of_lt (Nat.div_le_self _ _) (Nat.mod_lt _ (by decide))
    rw [jD hlt,GI (Nat.le_refl _)]
    have w1:v / W ^ i % W % 4294967296=v / H ^ (2 * i) % H:=aov v i
    have w2:v / W ^ i % W / 4294967296=v / H ^ (2 * i+1) % H:=aow v i
    rw [w1,w2]
    refine ck (ap (ap (am (ap (ap (am (ap (ap (am (ap (ap ?_)))))))))))
    show some (Sum.inl (2 * i+2,2 * i+2,i+1,fM v (2 * i) ++ [((v / H ^ (2 * i) % H:Nat):Int),((v / H ^ (2 * i+1) % H:Nat):Int)]))=_
    rw [← e1];rfl
  · show (wT _ _ _ _ _).run=_
    exact cE (by rw [aq];exact (by simp only [cy,yF,zN,nk,n5,gE,n6,n7,decide_eq_true_eq,decide_eq_false_iff_not,beq_iff_eq,beq_eq_false_iff_ne,bne_iff_ne,bne_eq_false_iff_eq,Bool.not_eq_true',Bool.not_eq_false',List.length_set,ne_eq,ge_iff_le,gt_iff_lt,kH,cj,vC];omega)) rfl
theorem Nt{v n i:Nat}(h:v < H ^ n) :dR (fM v n) (i:Int)=some (.r0 ((v / H ^ i % H:Nat):Int)):=by
  refine aY ?_
  unfold Iu
  rw [dX,wy h,Cf]
  by_cases hi:i < n
  · exact ck (ap (ap rfl))
  · have:v / H ^ i % H=0:=by rw [Nat.div_eq_of_lt (Nat.lt_of_lt_of_le h (Nat.pow_le_pow_right (by decide) (by omega)))];rfl
    rw [this]
    exact cx rfl
theorem RI{v m:Nat}(h:v < H ^ m)(hm:m≤200000) :ia (fM v m)=some (.r0 (ax v (nl v)) (nl v)):=by
  have hW:v < W ^ ((m+1) / 2):=by
    rw [H2];exact Nat.lt_of_lt_of_le h (Nat.pow_le_pow_right (by decide) (by omega))
  refine aY (ak rfl (ak (a:=((m+1) / 2,(m+1) / 2,ax v ((m+1) / 2))) (bO (fun j=>(j,j,2 * j,ax v j)) ((m+1) / 2) rfl (fun j hj=>?_) ?_) (ak (a:=(ax v (nl v),nl v)) ?_ rfl)))
  · show aE (uo _ _ _ _ _).run _=_
    have e1:ax v (j+1)=ax v j ++ [((v / W ^ j % W:Nat):Int)]:=rfl
    refine ak (a:=(j+1,ax v (j+1))) ?_ (ap rfl)
    unfold uo
    rw [wy h,wy h,Cf,Cf,dX,aq,Ew (Nat.le_refl _)]
    have lo:=Nat.mod_lt (v / H ^ (2 * j)) (show H > 0 by decide)
    have hi:=Nat.mod_lt (v / H ^ (2 * j+1)) (show H > 0 by decide)
    have hb:=ak6 v j
    have hlt:v / W ^ j % W < W:=Nat.mod_lt _ (by decide)
    by_cases hlast:2 * j+1 < m
    · have w1:IntKind.u64.wrap (((v / H ^ (2 * j+1) % H:Nat):Int) * (4294967296:Int))=((v / H ^ (2 * j+1) % H * H:Nat):Int):=by
        rw [show (4294967296:Int)=((H:Nat):Int) from rfl,xw,Nat.mod_eq_of_lt (by omega)]
      rw [w1,nq,← hb,Nat.mod_eq_of_lt hlt]
      exact ck (ap (ap (ap (ck (ap (ap (ap (ap (ap (am (ap rfl)))))))))))
    · have z:v / H ^ (2 * j+1) % H=0:=by
        rw [Nat.div_eq_of_lt (Nat.lt_of_lt_of_le h (Nat.pow_le_pow_right (by decide) (by omega)))];rfl
      rw [z,Nat.zero_mul,Nat.add_zero] at hb
      rw [← hb]
      exact ck (ap (ap (ap (cx (ap (ap (am (ap rfl))))))))
  · show aE (uo _ _ _ _ _).run _=_
    exact bt (cE (by rw [dX];exact (by simp only [cy,yF,zN,nk,n5,gE,n6,n7,decide_eq_true_eq,decide_eq_false_iff_not,beq_iff_eq,beq_eq_false_iff_ne,bne_iff_ne,bne_eq_false_iff_eq,Bool.not_eq_true',Bool.not_eq_false',List.length_set,ne_eq,ge_iff_le,gt_iff_lt,kH,cj,vC];omega)) rfl)
  · show (z7 _ _).run=_
    unfold z7
    rw [bc aq,wz hW (by omega)]
    exact bN (am rfl)
theorem apq{a b n m:Nat}(ha:a < W ^ n)(hb:b < W ^ m)(hn:n≤10000)(hm:m≤10000) :d5 (ax a n) (ax b m)=some (.r0 (ax (a+b) (nl (a+b))) (nl (a+b))):=by
  have ha':a < H ^ (2 * n):=by rw [← H2];exact ha
  have hb':b < H ^ (2 * m):=by rw [← H2];exact hb
  have hg:max (2 * n) (2 * m)≤20000:=by omega
  have hgn:2 * n≤max (2 * n) (2 * m):=Nat.le_max_left _ _
  have hgm:2 * m≤max (2 * n) (2 * m):=Nat.le_max_right _ _
  have hgx:∀ j,j < max (2 * n) (2 * m)→j < 2 * n∨j < 2 * m:=fun j hj=>by omega
  revert hg hgn hgm hgx
  generalize max (2 * n) (2 * m)=g
  intro hg hgn hgm hgx
  have ha2:a < H ^ g:=Nat.lt_of_lt_of_le ha' (Nat.pow_le_pow_right (by decide) hgn)
  have hb2:b < H ^ g:=Nat.lt_of_lt_of_le hb' (Nat.pow_le_pow_right (by decide) hgm)
  have hs:pX a b g=a+b:=by unfold pX;rw [Nat.mod_eq_of_lt ha2,Nat.mod_eq_of_lt hb2]
  have hc:=TD (x:=a) (y:=b) (j:=g)
  rw [hs] at hc
  have hpush:=anB (u:=(a+b) % H ^ g) (x:=(a+b) / H ^ g) (j:=g) (GJ _ _) (Nat.lt_of_le_of_lt hc (by decide))
  have hv:(a+b) % H ^ g+(a+b) / H ^ g * H ^ g=a+b:=by rw [Nat.mul_comm];exact Nat.mod_add_div _ _
  rw [hv] at hpush
  have hlt:a+b < H ^ (g+1):=by
    rw [Nat.pow_succ]
    have:H ^ g * 2≤H ^ g * H:=Nat.mul_le_mul_left _ (by decide)
    omega
  refine aY (ak (a:=(fM a (2 * n),2 * n,fM b (2 * m),2 * m)) ?_ (ak rfl (ak (a:=(g,g,(((a+b) / H ^ g:Nat):Int),fM ((a+b) % H ^ g) g)) (bO (fun j=>(j,j,((pX a b j / H ^ j:Nat):Int),j,fM (pX a b j % H ^ j) j)) g (by simp [pX,Nat.mod_one];rfl) (fun j hj=>?_) ?_) (ak (a:=(ax (a+b) (nl (a+b)),nl (a+b))) ?_ rfl))))
  · unfold KK
    rw [az,az,Ex ha (by omega),Ex hb (by omega)]
    exact aT (am (aT (am rfl)))
  · have hcj:=TD (x:=a) (y:=b) (j:=j)
    have hS:=GJ (pX a b j) j
    have hst:=anx a b j
    obtain ⟨d1,d2⟩:=Jn (t:=a / H ^ j % H+b / H ^ j % H+pX a b j / H ^ j) hS
    rw [← hst] at d1 d2
    have hp:=anB hS (Nat.mod_lt (a / H ^ j % H+b / H ^ j % H+pX a b j / H ^ j) (show H > 0 by decide))
    rw [← d2] at hp
    have l1:a / H ^ j % H < 4294967296:=Nat.mod_lt _ (show H > 0 by decide)
    have l2:b / H ^ j % H < 4294967296:=Nat.mod_lt _ (show H > 0 by decide)
    have hW:W=18446744073709551616:=rfl
    show aE (qW _ _ _).run _=_
    refine ak (a:=true) ?_ (ak (a:=(j+1,((pX a b (j+1) / H ^ (j+1):Nat):Int),fM (pX a b (j+1) % H ^ (j+1)) (j+1))) ?_ (ap rfl))
    · unfold qW
      rcases hgx j hj with q | q
      · exact ck rfl
      · by_cases p:j < 2 * n
        · exact ck rfl
        · refine cx ?_
          show some (Sum.inl (decide _))=_
          rw [decide_eq_true (by omega)]
    · show (CR _ _ _ _ _ _ _ _ _ _).run=_
      unfold CR
      rw [bc dX,bc dX,Nt ha',Nt hb']
      simp only [j9,di]
      rw [nq,nq,Nat.mod_eq_of_lt (by omega:a / H ^ j % H+b / H ^ j % H < W),Nat.mod_eq_of_lt (by omega),aox,aoy,dX,GI (Nat.le_refl _)]
      rw [jD (by omega)]
      have d1':(a / H ^ j % H+b / H ^ j % H+pX a b j / H ^ j) / 4294967296=pX a b (j+1) / H ^ (j+1):=d1.symm
      rw [d1']
      refine bm (cH (GG dX) (am (cH (GG dX) (am (am (ap (ap (am (ap (am ?_))))))))))
      show some (Sum.inl (j+1,((pX a b (j+1) / H ^ (j+1):Nat):Int),fM (pX a b j % H ^ j) j ++ [(((a / H ^ j % H+b / H ^ j % H+pX a b j / H ^ j) % H:Nat):Int)]))=_
      rw [hp]
  · show aE (qW _ _ _).run _=_
    refine ak (a:=false) ?_ (bt (aW (by rw [hs];rfl)))
    unfold qW
    refine cx ?_
    show some (Sum.inl (decide _))=_
    rw [decide_eq_false (by omega)]
  · show (CT _ _ _).run=_
    unfold CT
    have et:List.take 1 [(((a+b) / H ^ g:Nat):Int)] = [(((a+b) / H ^ g:Nat):Int)]:=rfl
    rw [GI (Nat.le_refl _),et,hpush,bc dX,RI hlt (by omega),dX]
    exact ap (ap (am (ap (cH (GG dX) (am rfl)))))
theorem ad8{a b n m:Nat}(ha:a < W ^ n)(hb:b < W ^ m)(hn:n≤10000)(hm:m≤10000)(hle:b≤a) :bL (ax a n) (ax b m)=some (.r0 (ax (a - b) (nl (a - b))) (nl (a - b))):=by
  have ha':a < H ^ (2 * n):=by rw [← H2];exact ha
  have hb':b < H ^ (2 * m):=by rw [← H2];exact hb
  have hd:Cg a b (2 * n)=a - b:=by
    unfold Cg tE
    rw [Nat.mod_eq_of_lt ha',Nat.mod_eq_of_lt (Nat.lt_of_le_of_lt hle ha'),if_neg (by omega),Nat.zero_mul,Nat.add_zero]
  have b0:tE a b 0=0:=by unfold tE;rw [Nat.pow_zero,Nat.mod_one,Nat.mod_one];rfl
  have hlt:a - b < H ^ (2 * n):=Nat.lt_of_le_of_lt (Nat.sub_le _ _) ha'
  refine aY (ak (a:=(fM a (2 * n),2 * n,fM b (2 * m),2 * m)) ?_ (ak rfl (ak (a:=(2 * n,2 * n,fM (a - b) (2 * n))) (bO (fun j=>(j,j,((tE a b j:Nat):Int),j,fM (Cg a b j) j)) (2 * n) (by rw [b0];rfl) (fun j hj=>?_) ?_) (ak (a:=(ax (a - b) (nl (a - b)),nl (a - b))) ?_ rfl))))
  · unfold KM
    rw [az,az,Ex ha (by omega),Ex hb (by omega)]
    exact aT (am (aT (am rfl)))
  · have hbr:tE a b j≤1:=by unfold tE;split <;> omega
    have hD:=(ak4 (a:=a) (b:=b) (j:=j)).1
    obtain ⟨s1,s2⟩:=apk a b j
    have l1:a / H ^ j % H < 4294967296:=Nat.mod_lt _ (show H > 0 by decide)
    have l2:b / H ^ j % H < 4294967296:=Nat.mod_lt _ (show H > 0 by decide)
    have hp:=anB hD (Nat.mod_lt (a / H ^ j % H+H - b / H ^ j % H - tE a b j) (show H > 0 by decide))
    rw [← s2] at hp
    have eH:H=4294967296:=rfl
    have q1:(4294967296:Int)+((a / H ^ j % H:Nat):Int)=((4294967296+a / H ^ j % H:Nat):Int):=by omega
    have q2:((4294967296+a / H ^ j % H:Nat):Int) - ((b / H ^ j % H:Nat):Int)=((4294967296+a / H ^ j % H - b / H ^ j % H:Nat):Int):=by omega
    have q3:((4294967296+a / H ^ j % H - b / H ^ j % H:Nat):Int) - ((tE a b j:Nat):Int)=((a / H ^ j % H+H - b / H ^ j % H - tE a b j:Nat):Int):=by omega
    have hW:W=18446744073709551616:=rfl
    have q4:(1:Int) - (((a / H ^ j % H+H - b / H ^ j % H - tE a b j) / 4294967296:Nat):Int)=((tE a b (j+1):Nat):Int):=by
      rw [s1];split <;> omega
    have hb1:tE a b (j+1) < W:=by unfold tE;split <;> decide
    show aE (wU _ _ _ _ _ _ _ _ _).run _=_
    refine ak (a:=(j+1,((tE a b (j+1):Nat):Int),fM (Cg a b (j+1)) (j+1))) ?_ (ap rfl)
    unfold wU
    rw [bc dX,Nt hb',wy ha',Cf]
    simp only [j9,di]
    rw [q1,jD (by omega),q2,jD (by omega),q3,jD (by omega),aox,aoy,jD (by omega),q4,jD hb1,dX,dX,GI (Nat.le_refl _)]
    refine ck (ap (ap (cH (GG dX) (am (am (ap (ap (am (ap (am ?_))))))))))
    show some (Sum.inl (j+1,((tE a b (j+1):Nat):Int),fM (Cg a b j) j ++ [(((a / H ^ j % H+H - b / H ^ j % H - tE a b j) % H:Nat):Int)]))=_
    rw [hp]
  · show aE (wU _ _ _ _ _ _ _ _ _).run _=_
    exact bt (cx (by rw [hd];rfl))
  · show (CV _ _).run=_
    unfold CV
    rw [bc dX,RI hlt (by omega)]
    exact cH (GG dX) (am rfl)
theorem RJ{a b n m:Nat}(ha:a < W ^ n)(hb:b < W ^ m)(hn:n≤10000)(hm:m≤10000) :mu (ax a n) (ax b m)=some (.r0 (nP a b)):=by
  have la:=iJ ha
  have lb:=iJ hb
  refine aY (ak (a:=(ax a (nl a),nl a,ax b (nl b),nl b)) ?_ ?_)
  · unfold O8
    rw [az,az,wz ha (by omega),wz hb (by omega)]
    exact aT (am (aT (am rfl)))
  by_cases h1:nl a < nl b
  · have:nP a b = -1:=by unfold nP;rw [if_pos (Ob h1)]
    rw [this]
    exact bt (ck (ck rfl))
  by_cases h2:nl b < nl a
  · have hlt:=Ob h2
    have:nP a b=1:=by unfold nP;rw [if_neg (by omega),if_pos hlt]
    rw [this]
    exact bt (ck (cx rfl))
  have hn':nl b=nl a:=by omega
  have hA:=cq a
  have hB:=cq b
  have hk:nl a≤10000:=by omega
  rw [hn'] at hB ⊢
  clear la lb h1 h2 hn'
  generalize nl a=n at *
  refine ak (a:=((n:Int) - 1)) (cE (by simp) (ap rfl)) ?_
  have step:∀ j,j < n→lm a (n - 1 - j)=lm b (n - 1 - j)→w9 (ax a n) n (ax b n) n ((n:Int) - 1 - j)=some (.inl ((n:Int) - 1 - (j+1:Nat))):=by
    intro j hj he
    show (q8 _ _ _ _ _).run=_
    unfold q8
    have e:Int.toNat ((n:Int) - 1 - (j:Int))=n - 1 - j:=by omega
    rw [e,cp hA,cp hB,aq,aq,he]
    refine ck (ap (ap (ap (ap (cE (by simp) (ap (ap (ap (ap (cE (by simp) (ap ?_)))))))))))
    show some (Sum.inl _)=_
    congr 2;omega
  by_cases hall:∀ j,j < n→lm a (n - 1 - j)=lm b (n - 1 - j)
  · have hab:a=b:=by
      have:=HO hA hB (d:=n) (Nat.le_refl _) fun k _ h2=>by
        have:=hall (n - 1 - k) (by omega)
        rwa [show n - 1 - (n - 1 - k)=k by omega] at this
      simpa using this
    subst hab
    have:nP a a=0:=by unfold nP;rw [if_neg (Nat.lt_irrefl _),if_neg (Nat.lt_irrefl _)]
    rw [this]
    exact ak (bO (fun j=>(n:Int) - 1 - (j:Nat)) n (by omega) (fun j hj=>step j hj (hall j hj)) (cx rfl)) rfl
  · obtain ⟨k,hk,hb',hf⟩:=vN hall
    have hup:a / W ^ (n - 1 - k+1)=b / W ^ (n - 1 - k+1):=by
      have:=HO hA hB (d:=k) (by omega) fun i h1 h2=>by
        have:=hf (n - 1 - i) (by omega)
        rwa [show n - 1 - (n - 1 - i)=i by omega] at this
      rwa [show n - k=n - 1 - k+1 by omega] at this
    refine bt (bO (fun j=>(n:Int) - 1 - (j:Nat)) k (by omega) (fun j hj=>step j (by omega) (hf j hj)) ?_)
    show (q8 _ _ _ _ _).run=_
    unfold q8
    have e:Int.toNat ((n:Int) - 1 - (k:Int))=n - 1 - k:=by omega
    rw [e,cp hA,cp hB,aq,aq]
    refine ck (ap (ap (ap (ap ?_))))
    by_cases hlt:lm a (n - 1 - k) < lm b (n - 1 - k)
    · have:=Fa hup hlt
      have:nP a b = -1:=by unfold nP;rw [if_pos this]
      rw [this]
      exact jz (decide_eq_true hlt) rfl
    · have hgt:lm b (n - 1 - k) < lm a (n - 1 - k):=by omega
      have hlt':=Fa hup.symm hgt
      have:nP a b=1:=by unfold nP;rw [if_neg (by omega),if_pos hlt']
      rw [this]
      exact cE (decide_eq_false hlt) (ap (ap (ap (ap (jz (decide_eq_true hgt) rfl)))))
theorem Zf{a b n m:Nat}(ha:a < H ^ n)(hb:b < H ^ m) :a * b < H ^ (n+m):=by
  rw [Nat.pow_add]
  rcases Nat.eq_zero_or_pos b with h | h
  · rw [h,Nat.mul_zero];exact Nat.mul_pos (tA _) (tA _)
  · exact Nat.mul_lt_mul_of_lt_of_le ha (Nat.le_of_lt hb) (tA _)
theorem apr{x y c o:Nat}(hx:x < H)(hy:y < H)(hc:c≤x)(ho:o < H) :o+x * y+c < W:=by
  have hp:x * y≤4294967295 * 4294967295:=Nat.mul_le_mul (by have:x < 4294967296:=hx;omega) (by have:y < 4294967296:=hy;omega)
  have h1:x < 4294967296:=hx
  have h2:o < 4294967296:=ho
  show _ < 18446744073709551616
  omega
theorem ad9{a b n m:Nat}(ha:a < W ^ n)(hb:b < W ^ m)(hn:n≤10000)(hm:m≤10000) :dg (ax a n) (ax b m)=some (.r0 (ax (a * b) (nl (a * b))) (nl (a * b))):=by
  have ha':a < H ^ (2 * n):=by rw [← H2];exact ha
  have hb':b < H ^ (2 * m):=by rw [← H2];exact hb
  have hab:=Zf ha' hb'
  have hab1:a * b < H ^ (2 * n+2 * m+1):=Nat.lt_of_lt_of_le hab (Nat.pow_le_pow_right (by decide) (by omega))
  refine aY (ak (a:=(fM a (2 * n),2 * n,fM b (2 * m),2 * m)) ?_ (ak (a:=(2 * n+2 * m+1,fM 0 (2 * n+2 * m+1))) ?_ (ak (a:=fM (a * b) (2 * n+2 * m+1)) (bO (fun i=>(i,fM (a % H ^ i * b) (2 * n+2 * m+1))) (2 * n) (by simp [Nat.mod_one]) (fun i hi=>?_) ?_) (ak (a:=(ax (a * b) (nl (a * b)),nl (a * b))) ?_ rfl))))
  · unfold KO
    rw [az,az,Ex ha (by omega),Ex hb (by omega)]
    exact aT (am (aT (am rfl)))
  · show (CW _ _).run=_
    unfold CW
    rw [anw]
    exact ap (ap (ap (ap (ap (ap rfl)))))
  · have hO:a % H ^ i * b < H ^ (i+2 * m):=Zf (GJ _ _) hb'
    have lx:=Nat.mod_lt (a / H ^ i) (show H > 0 by decide)
    have e2:a % H ^ i * b+b * (a / H ^ i % H) * H ^ i=a % H ^ (i+1) * b:=by rw [tB,Nat.add_mul,Nat.mul_comm b,Nat.mul_right_comm]
    have hA:=apm (O:=a % H ^ i * b) (a:=b) (m:=a / H ^ i % H) (k:=i) hO hb'
    have hL:=apn (O:=a % H ^ i * b) (a:=b) (m:=a / H ^ i % H) (k:=i) (N:=2 * n+2 * m+1) hO
    rw [e2] at hA
    rw [hA] at hL
    show aE (CZ _ _ _).run _=_
    refine ak (a:=()) (ck rfl) (ak (a:=fM (a % H ^ (i+1) * b) (2 * n+2 * m+1)) (zM (ak rfl (ak (a:=(((a % H ^ (i+1) * b / H ^ (i+2 * m):Nat):Int),fM (a % H ^ (i+1) * b % H ^ (i+2 * m)) (2 * n+2 * m+1))) ?_ ?_))) (ap rfl))
    · have c0:lN (a % H ^ i * b) b (a / H ^ i % H) i 0 / H ^ (i+0)=0:=by
        have e:lN (a % H ^ i * b) b (a / H ^ i % H) i 0=a % H ^ i * b % H ^ i:=by unfold lN;rw [Nat.pow_zero,Nat.mod_one,Nat.zero_mul,Nat.zero_mul,Nat.add_zero,Nat.add_zero]
        rw [e,Nat.add_zero,Nat.div_eq_of_lt (GJ _ _)]
      refine bO (fun k=>(((lN (a % H ^ i * b) b (a / H ^ i % H) i k / H ^ (i+k):Nat):Int),k,LQ (a % H ^ i * b) b (a / H ^ i % H) i (2 * n+2 * m+1) k)) (2 * m) (by rw [c0,anz];rfl) (fun k hk=>?_) ?_
      · have hc:=ak5 (O:=a % H ^ i * b) (a:=b) (m:=a / H ^ i % H) (k:=i) (i:=k)
        have ly:=Nat.mod_lt (b / H ^ k) (show H > 0 by decide)
        have lO:=Nat.mod_lt (a % H ^ i * b / H ^ (i+k)) (show H > 0 by decide)
        have hl:=apl (O:=a % H ^ i * b) (a:=b) (m:=a / H ^ i % H) (k:=i) (n:=2 * n+2 * m+1) (i:=k)
        have hat:=aq2 (O:=a % H ^ i * b) (a:=b) (m:=a / H ^ i % H) (k:=i) (n:=2 * n+2 * m+1) (i:=k) (by omega)
        have hst:=anA (O:=a % H ^ i * b) (a:=b) (m:=a / H ^ i % H) (k:=i) (n:=2 * n+2 * m+1) (i:=k) (by omega)
        have hw:=apr (x:=a / H ^ i % H) (y:=b / H ^ k % H) (c:=lN (a % H ^ i * b) b (a / H ^ i % H) i k / H ^ (i+k)) (o:=a % H ^ i * b / H ^ (i+k) % H) lx ly hc lO
        have hS:=GJ (lN (a % H ^ i * b) b (a / H ^ i % H) i k) (i+k)
        obtain ⟨d1,_⟩:=Jn (t:=a % H ^ i * b / H ^ (i+k) % H+b / H ^ k % H * (a / H ^ i % H)+lN (a % H ^ i * b) b (a / H ^ i % H) i k / H ^ (i+k)) hS
        rw [← Ze] at d1
        rw [Nat.mul_comm (a / H ^ i % H)] at hw
        show (wW _ _ _ _ _ _ _ _ _).run=_
        unfold wW
        rw [hat,Cf,wy ha',wy hb',Cf,Cf,hl,dX,dX,xw,Nat.mul_comm (a / H ^ i % H),Nat.mod_eq_of_lt (Nat.lt_of_le_of_lt (Nat.le_trans (Nat.le_add_left _ _) (Nat.le_add_right _ _)) hw:b / H ^ k % H * (a / H ^ i % H) < W),nq,Nat.mod_eq_of_lt (Nat.lt_of_le_of_lt (Nat.le_add_right _ _) hw:a % H ^ i * b / H ^ (i+k) % H+b / H ^ k % H * (a / H ^ i % H) < W),nq,Nat.mod_eq_of_lt hw,aox,aoy,jD (Nat.lt_of_le_of_lt (Nat.div_le_self _ _) hw)]
        have d1':(a % H ^ i * b / H ^ (i+k) % H+b / H ^ k % H * (a / H ^ i % H)+lN (a % H ^ i * b) b (a / H ^ i % H) i k / H ^ (i+k)) / 4294967296=lN (a % H ^ i * b) b (a / H ^ i % H) i (k+1) / H ^ (i+(k+1)):=d1.symm
        have hst':(LQ (a % H ^ i * b) b (a / H ^ i % H) i (2 * n+2 * m+1) k).set (i+k) (((a % H ^ i * b / H ^ (i+k) % H+b / H ^ k % H * (a / H ^ i % H)+lN (a % H ^ i * b) b (a / H ^ i % H) i k / H ^ (i+k)) % 4294967296:Nat):Int)=_:=hst
        rw [d1',hst']
        exact ck (ap (ap (ap (ap (ap (ap (ap (ap (am (ap (ap (am (ap rfl)))))))))))))
      · show (wW _ _ _ _ _ _ _ _ _).run=_
        refine cE (by rw [decide_eq_false_iff_not];omega) ?_
        rw [hL,hA];rfl
    · have hO1:a % H ^ (i+1) * b < H ^ (i+1+2 * m):=Zf (GJ _ _) hb'
      have hcar:a % H ^ (i+1) * b / H ^ (i+2 * m) < H:=by
        refine Nat.div_lt_of_lt_mul ?_
        rw [← Nat.pow_succ,show (i+2 * m).succ=i+1+2 * m by omega];exact hO1
      have gC:=adc (u:=a % H ^ (i+1) * b % H ^ (i+2 * m)) (x:=a % H ^ (i+1) * b / H ^ (i+2 * m)) (j:=i+2 * m) (n:=2 * n+2 * m+1) (GJ _ _) hcar (by omega)
      have hv:a % H ^ (i+1) * b % H ^ (i+2 * m)+a % H ^ (i+1) * b / H ^ (i+2 * m) * H ^ (i+2 * m)=a % H ^ (i+1) * b:=by rw [Nat.mul_comm (a % H ^ (i+1) * b / H ^ (i+2 * m))];exact Nat.mod_add_div _ _
      rw [hv] at gC
      show (C3 _ _ _ _ _).run=_
      unfold C3
      rw [gC,dX]
      exact ap (ap (ap rfl))
  · show aE (CZ _ _ _).run _=_
    refine bt (cE (by rw [decide_eq_false_iff_not];omega) ?_)
    rw [Nat.mod_eq_of_lt ha'];rfl
  · unfold KS
    rw [bc dX,RI hab1 (by omega)]
    exact cH (GG dX) (am rfl)
theorem anC{k:Nat}(hk:k≤1000000) :ib (k:Int)=some (.r0 (k / 64+1) (ax (2 ^ k) (k / 64+1))):=by
  have hr:k % 64 < 64:=Nat.mod_lt _ (by decide)
  have gC:=tU (u:=0) (x:=2 ^ (k % 64)) (j:=k / 64) (n:=k / 64+1) (gv _) (zt hr) (by omega)
  rw [Nat.zero_add,← HP] at gC
  have e1:((k / 64:Nat):Int)+(1:Int)=((k / 64+1:Nat):Int):=by omega
  have hp:2 ^ (k % 64) < W:=zt hr
  have e2:IntKind.u64.wrap ((1:Int) * 2 ^ (min (Int.toNat (((k % 64:Nat)):Int)) IntKind.u64.bits))=((2 ^ (k % 64):Nat):Int):=by
    rw [show (1:Int)=((1:Nat):Int) from rfl,Od _ (by omega),Nat.one_mul,Nat.mod_eq_of_lt hp]
  refine aY ?_
  unfold KT
  rw [RF,RG,e1,e2,cj,cj,Eb,gC,aq]
  exact am (ap (ap (ap (ap (ap (ap (am (ap (am (ap (ap (ap rfl))))))))))))
theorem aps(k:Nat) :2 ^ k < W ^ (k / 64+1):=by
  rw [HP,Nat.pow_succ,Nat.mul_comm]
  exact Nat.mul_lt_mul_of_pos_left (zt (Nat.mod_lt _ (by decide))) (gv _)
theorem aea{v n k:Nat}(hv:v < W ^ n)(hn:n≤10000)(hk:k≤600000) :ka (ax v n) (k:Int)=some (.r0 (ax (v * 2 ^ k) (nl (v * 2 ^ k))) (nl (v * 2 ^ k))):=by
  refine aY (ak (a:=(ax (v * 2 ^ k) (nl (v * 2 ^ k)),nl (v * 2 ^ k))) ?_ rfl)
  unfold O2
  rw [anC (by omega)]
  simp only [qX,kw,kB]
  rw [az,bc aq,ad9 hv (aps k) hn (by omega)]
  exact am (aT (bN (am rfl)))
def bl(v:Nat) :Nat:=if v=0 then 0 else v.log2+1
theorem arF(v:Nat) :v < 2 ^ bl v∧∀ j,j < bl v→0 < v / 2 ^ j:=by
  unfold bl
  by_cases h:v=0
  · subst h;exact ⟨by decide,fun j hj=>absurd hj (by simp)⟩
  · rw [if_neg h]
    refine ⟨Nat.lt_log2_self,fun j hj=>?_⟩
    exact Nat.div_pos (Nat.le_trans (Nat.pow_le_pow_right (by decide) (by omega)) (Nat.log2_self_le h)) (jS j)
theorem Zg{v n:Nat}(hv:v < W ^ n)(hn:n≤10000) :∃ b:Nat,od (ax v n)=some (.r0 (b:Int))∧v < 2 ^ b∧b≤64 * nl v:=by
  have hl:=iJ hv
  have t8:(C5 (ax v n)).run=some (.inl (ax v (nl v),nl v)):=by
    unfold C5
    rw [az,wz hv (by omega)]
    exact aT (am rfl)
  by_cases h0:v=0
  · refine ⟨0,aY (ak t8 (bt ?_)),by rw [h0];decide,Nat.zero_le _⟩
    rw [h0,eA];exact bm rfl
  · have hp:=xQ h0
    obtain ⟨b1,b2⟩:=arF (v / W ^ (nl v - 1) % W)
    have hlt:v / W ^ (nl v - 1) % W < W:=Nat.mod_lt _ (by decide)
    have hb64:bl (v / W ^ (nl v - 1) % W)≤64:=by
      rcases Nat.lt_or_ge 64 (bl (v / W ^ (nl v - 1) % W)) with q | q
      · exfalso
        have:=b2 64 q
        have e:v / W ^ (nl v - 1) % W / 2 ^ 64=0:=Nat.div_eq_of_lt hlt
        omega
      · exact q
    have hdiv:v / W ^ (nl v - 1) % W=v / W ^ (nl v - 1):=by
      refine Nat.mod_eq_of_lt (Nat.div_lt_of_lt_mul ?_)
      rw [← Nat.pow_succ,show (nl v - 1).succ=nl v by omega];exact cq v
    refine ⟨64 * (nl v - 1)+bl (v / W ^ (nl v - 1) % W),aY (ak t8 (ak (a:=(((64 * (nl v - 1):Nat):Int),((v / W ^ (nl v - 1) % W:Nat):Int))) ?_ (ak (a:=((64 * (nl v - 1)+bl (v / W ^ (nl v - 1) % W):Nat):Int)) (bO (fun j=>(((64 * (nl v - 1)+j:Nat):Int),((v / W ^ (nl v - 1) % W / 2 ^ j:Nat):Int))) (bl (v / W ^ (nl v - 1) % W)) (by simp) (fun j hj=>?_) ?_) rfl))),?_,by omega⟩
    · show (C6 _ _).run=_
      unfold C6
      have e1:Int.toNat (((nl v:Nat):Int) - 1)=nl v - 1:=by omega
      have e2:(64:Int) * (((nl v:Nat):Int) - 1)=((64 * (nl v - 1):Nat):Int):=by omega
      rw [e1,e2,cp (cq v),tW,aq]
      exact cx (ap (ap (ap (ap (ap rfl)))))
    · show (uv _ _).run=_
      have hpos:=b2 j hj
      unfold uv
      have e1:((64 * (nl v - 1)+j:Nat):Int)+(1:Int)=((64 * (nl v - 1)+(j+1):Nat):Int):=by omega
      have e2:Int.tdiv ((v / W ^ (nl v - 1) % W / 2 ^ j:Nat):Int) (2:Int)=((v / W ^ (nl v - 1) % W / 2 ^ (j+1):Nat):Int):=by
        show ((v / W ^ (nl v - 1) % W / 2 ^ j / 2:Nat):Int)=_
        rw [Nat.pow_succ,Nat.div_div_eq_div_mul]
      rw [e1,e2,jD (Nat.lt_of_le_of_lt (Nat.div_le_self _ _) hlt)]
      exact ck (ap (am rfl))
    · show (uv _ _).run=_
      have z:v / W ^ (nl v - 1) % W / 2 ^ bl (v / W ^ (nl v - 1) % W)=0:=Nat.div_eq_of_lt b1
      rw [z]
      exact aW rfl
    · have e:W ^ (nl v - 1)=2 ^ (64 * (nl v - 1)):=by rw [Nat.pow_mul]
      rw [Nat.pow_add,← e]
      rw [hdiv] at b1 ⊢
      have:=(Nat.div_lt_iff_lt_mul (gv (nl v - 1))).1 b1
      rw [Nat.mul_comm];exact this
theorem aq3(v i:Nat) :v / W ^ (i / 64) % W / 2 ^ (i % 64) % 2=v / 2 ^ i % 2:=by
  have hr:i % 64 < 64:=Nat.mod_lt _ (by decide)
  have e64:W=2 ^ (i % 64) * (2 * 2 ^ (63 - i % 64)):=by
    rw [← Nat.mul_assoc,← Nat.pow_succ,← Nat.pow_add];show 2 ^ 64=_;congr 1;omega
  rw [HP i,Nat.mul_comm (2 ^ (i % 64)),← Nat.div_div_eq_div_mul]
  generalize v / W ^ (i / 64)=y
  rw [e64,Nat.mod_mul_right_div_self,Nat.mod_mul_right_mod]
theorem JX{v n i:Nat}(hv:v < W ^ n)(hn:n≤10000)(hi:i≤1000000) :mt (ax v n) (i:Int)=some (.r0 (v / 2 ^ i % 2 == 1)):=by
  have hr:i % 64 < 64:=Nat.mod_lt _ (by decide)
  refine aY (ak (a:=(v / 2 ^ i % 2 == 1)) ?_ rfl)
  unfold O5
  rw [RF,RG,cj,cp hv,tW,BJ _ (by omega),aq]
  by_cases h:i / 64 < n
  · refine ck (am (ap (ck (am (ap (ap (ap (am (ap (am ?_))))))))))
    have e:Int.tmod ((v / W ^ (i / 64) % W / 2 ^ (i % 64):Nat):Int) (2:Int)=((v / W ^ (i / 64) % W / 2 ^ (i % 64) % 2:Nat):Int):=rfl
    rw [e,aq3]
    show some (Sum.inl _)=_
    congr 2
    rw [Bool.eq_iff_iff,beq_iff_eq,beq_iff_eq];omega
  · have z:v / 2 ^ i=0:=ai4 hv (by omega)
    rw [z]
    exact ck (am (ap (cx rfl)))
theorem ak7{v n:Nat}(hv:v < W ^ n)(hn:n≤10000)(h0:v ≠ 0) :q7 (ax v n)=some (.r0 (tz v)):=by
  have hl:=iJ hv
  obtain ⟨b,h1,h2,h3⟩:=Zg hv hn
  have ht:=adt h0 h2
  obtain ⟨z1,z2⟩:=BL v h0
  refine aY (ak (a:=(b:Int)) ?_ (ak rfl (bt (bO (fun i=>i) (tz v) rfl (fun j hj=>?_) ?_))))
  · unfold GZ
    rw [az,h1]
    exact aT (am rfl)
  · have z:v / 2 ^ j % 2=0:=by
      obtain ⟨d,hd⟩:∃ d,tz v=j+1+d:=⟨tz v - j - 1,by omega⟩
      obtain ⟨c,hc⟩:=Nat.dvd_of_mod_eq_zero z1
      have:v=(2 ^ d * c * 2) * 2 ^ j:=by
        rw [hd,Nat.pow_add,Nat.pow_succ] at hc
        rw [hc];simp only [Nat.mul_assoc,Nat.mul_comm,Nat.mul_left_comm]
      rw [this,Nat.mul_div_cancel _ (jS j),Nat.mul_mod_left]
    show aE (oL _ _ _).run _=_
    refine ak (a:=()) ?_ (ap rfl)
    unfold oL
    rw [az,JX hv hn (by omega),z]
    exact ck (aT (am (aW rfl)))
  · show aE (oL _ _ _).run _=_
    refine bt ?_
    unfold oL
    rw [az,JX hv hn (by omega),z2]
    exact ck (aT (am (bm rfl)))
theorem aq4(v k j:Nat) :v % 2 ^ (k+(j+1)) / 2 ^ k=v % 2 ^ (k+j) / 2 ^ k+v / 2 ^ (k+j) % 2 * 2 ^ j:=by
  rw [← Nat.add_assoc,Nat.pow_succ,Nat.mod_mul,Nat.pow_add,Nat.mul_assoc,Nat.add_mul_div_left _ _ (jS k),Nat.mul_comm (2 ^ j)]
theorem apt{v n k:Nat}(hv:v < W ^ n)(hn:n≤10000)(hk:k≤1000000) :
    ∃ b,tt (ax v n) (k:Int)=some (.r0 (ax (v / 2 ^ k) (nl (v / 2 ^ k))) (nl (v / 2 ^ k)) b):=by
  have hl:=iJ hv
  obtain ⟨b,h1,h2,h3⟩:=Zg hv hn
  let f:Nat→Bool:=fun j=>Nat.rec (motive:=fun _=>Bool) false (fun j b=>b || (v / 2 ^ j % 2 == 1)) j
  have t20:(C8 (ax v n)).run=some (.inl (false,(b:Int))):=by
    unfold C8
    rw [az,h1]
    exact aT (am rfl)
  have hmin:min k b≤640000:=by omega
  have hm1:∀ j,j < min k b→j < k∧j < b:=fun j hj=>by omega
  have hm2 : ¬ (min k b < k∧min k b < b):=by omega
  have l26:dc (w6 (ax v n) (k:Int) (b:Int)) (false,0)=some (.inl (f (min k b))):=by
    revert hmin hm1 hm2
    generalize min k b=g
    intro hmin hm1 hm2
    refine bO (fun j=>(f j,j)) g rfl (fun j hj=>?_) ?_
    · obtain ⟨q1,q2⟩:=hm1 j hj
      show aE (qZ _ _ _).run _=_
      refine ak (a:=true) ?_ (ak (a:=f (j+1)) ?_ (ap rfl))
      · unfold qZ
        refine ck ?_
        show some (Sum.inl (decide _))=_
        rw [decide_eq_true (by omega)]
      · show (C9 _ _ _ _).run=_
        unfold C9
        rw [az,JX hv hn (by omega)]
        have hf:f (j+1)=(f j || (v / 2 ^ j % 2 == 1)):=rfl
        rw [hf]
        refine bm ?_
        cases f j
        · exact aW (aT (am rfl))
        · exact bm rfl
    · show aE (qZ _ _ _).run _=_
      refine ak (a:=false) ?_ (bt (aW rfl))
      unfold qZ
      by_cases q:g < k
      · refine ck ?_
        show some (Sum.inl (decide _))=_
        rw [decide_eq_false (by omega)]
      · exact cx rfl
  refine ⟨f (min k b),aY (ak t20 (ak rfl (ak l26 ?_)))⟩
  by_cases hkb:b≤k
  · have z:v / 2 ^ k=0:=Nat.div_eq_of_lt (Nat.lt_of_lt_of_le h2 (Nat.pow_le_pow_right (by decide) hkb))
    rw [z,eA]
    refine bt ?_
    unfold Da
    exact ck rfl
  · have e0:v % 2 ^ (k+0) / 2 ^ k=0:=Nat.div_eq_of_lt (Nat.mod_lt _ (jS _))
    have eb:v % 2 ^ (k+(b - k)) / 2 ^ k=v / 2 ^ k:=by rw [show k+(b - k)=b by omega,Nat.mod_eq_of_lt h2]
    refine ak (a:=ax 0 n) ?_ (ak (a:=ax (v / 2 ^ k) n) (bO (fun j=>(((k+j:Nat):Int),ax (v % 2 ^ (k+j) / 2 ^ k) n)) (b - k) (by rw [e0];rfl) (fun j hj=>?_) ?_) (ak (a:=(ax (v / 2 ^ k) (nl (v / 2 ^ k)),nl (v / 2 ^ k))) ?_ rfl))
    · unfold Da
      rw [aq,Eb]
      exact cx (ap (ap (ap (ap rfl))))
    · show aE (w7 _ _ _ _ _).run _=_
      refine ak (a:=ax (v % 2 ^ (k+(j+1)) / 2 ^ k) n) ?_ (cH (by rw [cy];omega) rfl)
      unfold w7
      have hbs:=aq4 v k j
      have es:((k+j:Nat):Int) - (k:Int)=(j:Int):=by omega
      rw [az,JX hv hn (by omega),es,RF,RG,cj]
      simp only [oe,nw]
      refine jz (by rw [decide_eq_true_eq];omega) (aT (am ?_))
      have hr:j % 64 < 64:=Nat.mod_lt _ (by decide)
      have hjn:j / 64 < n:=by omega
      by_cases hbit:v / 2 ^ (k+j) % 2=1
      · rw [hbit,Nat.one_mul] at hbs
        have hU:v % 2 ^ (k+j) / 2 ^ k < 2 ^ j:=by
          refine Nat.div_lt_of_lt_mul ?_
          rw [← Nat.pow_add];exact Nat.mod_lt _ (jS _)
        have hUW:v % 2 ^ (k+j) / 2 ^ k < W ^ n:=by
          refine Nat.lt_of_lt_of_le hU ?_
          rw [show W ^ n=2 ^ (64 * n) by rw [Nat.pow_mul]]
          exact Nat.pow_le_pow_right (by decide) (by omega)
        rw [hbs]
        revert hU hUW
        generalize v % 2 ^ (k+j) / 2 ^ k=U
        intro hU hUW
        have hd:U / W ^ (j / 64) < 2 ^ (j % 64):=by
          refine Nat.div_lt_of_lt_mul ?_
          rw [Nat.mul_comm,← HP];exact hU
        have hp:2 ^ (j % 64) < W:=zt hr
        have hp2:2 ^ (j % 64)+2 ^ (j % 64)≤W:=by
          have:2 ^ (j % 64+1)≤2 ^ 64:=Nat.pow_le_pow_right (by decide) hr
          rw [Nat.pow_succ] at this
          have w:W=2 ^ 64:=by decide
          omega
        have hx:U / W ^ (j / 64) % W+2 ^ (j % 64) < W:=by
          have:=Nat.mod_le (U / W ^ (j / 64)) W
          omega
        have gC:=ai3 (n:=n) hx hjn
        rw [← HP] at gC
        have e2:IntKind.u64.wrap ((1:Int) * 2 ^ (min (Int.toNat (((j % 64:Nat)):Int)) IntKind.u64.bits))=((2 ^ (j % 64):Nat):Int):=by
          rw [show (1:Int)=((1:Nat):Int) from rfl,Od _ (by omega),Nat.one_mul,Nat.mod_eq_of_lt hp]
        rw [hbit,e2,cp hUW,tW,nq,Nat.mod_eq_of_lt hx,gC,aq,aq]
        exact bm (ap (am (ap (ap (am (ap (ap (ap (ap (am (ap (ap (ap rfl)))))))))))))
      · have z:v / 2 ^ (k+j) % 2=0:=by omega
        rw [z,Nat.zero_mul,Nat.add_zero] at hbs
        rw [z,hbs]
        exact aW rfl
    · show aE (w7 _ _ _ _ _).run _=_
      refine bt (cE (by rw [decide_eq_false_iff_not];omega) ?_)
      rw [eb];rfl
    · have hq:v / 2 ^ k < W ^ n:=Nat.lt_of_le_of_lt (Nat.div_le_self _ _) hv
      unfold KX
      rw [aq,bc aq,wz hq (by omega)]
      exact bN (am rfl)
theorem GM(s:Bool){v n:Nat}(hv:v < W ^ n)(hn:n≤10000)(hl:nl v≤4096){e:Int}(he : -1000000≤e∧e≤1000000) :
    aX s (ax v n) e=some (.r0 (nS (sg s v)) (ax (nM (sg s v)) (nl (nM (sg s v)))) (nl (nM (sg s v))) (nE (sg s v) e)):=by
  have t5:(Dg (ax v n)).run=some (.inl (ax v (nl v),nl v,false)):=by
    unfold Dg
    rw [az,wz hv (by omega)]
    exact aT (am rfl)
  by_cases h0:v=0
  · have z:sg s v=0:=tY.2 h0
    rw [z,eT,US,iO,eA]
    refine aY (ak t5 (bt ?_))
    rw [h0,eA]
    exact bm rfl
  · have z:sg s v ≠ 0:=fun q=>h0 (tY.1 q)
    have hp:=xQ h0
    have ht:=ai5 (v:=v)
    obtain ⟨b,h1⟩:=apt (k:=tz v) (cq v) (by omega) (by omega)
    have eM:nM (sg s v)=v / 2 ^ tz v:=by unfold nM;rw [HQ]
    have eE:nE (sg s v) e=e+((tz v:Nat):Int):=by rw [io z,HQ]
    rw [arW h0,eM,eE]
    refine aY (ak t5 (ak (a:=tz v) ?_ (ak (a:=(ax (v / 2 ^ tz v) (nl (v / 2 ^ tz v)),nl (v / 2 ^ tz v))) ?_ ?_)))
    · show (Dh _ _).run=_
      unfold Dh
      rw [bc aq,ak7 (cq v) (by omega) h0]
      exact cx (bN (am rfl))
    · show (Di _ _ _).run=_
      unfold Di
      rw [bc aq,h1]
      exact bN (am rfl)
    · exact cH (by rw [cy];omega) rfl
theorem aeb{v n:Nat}(hv:v < W ^ n)(hn:n≤1000000)(hl:nl v≤4096){e:Int}(he : -262144≤e∧e≤262144) :dB (ax v n) e=some (.r0 true):=by
  refine aY (ak (a:=true) ?_ rfl)
  unfold Pb
  rw [az,apo hv hn hl]
  refine aT (am (bm (ck ?_)))
  show some (Sum.inl (decide (e≤262144)))=_
  rw [decide_eq_true he.2]
theorem Bj{z e:Int}{s:Bool}(hs:z ≠ 0→s=nS z)(h:Sm z e) :aX s (ax (nM z) (nl (nM z))) (nE z e)=some (.r0 (nS z) (ax (nM z) (nl (nM z))) (nl (nM z)) (nE z e)):=by
  have hm:=h.m
  have hb:=h.b
  have h1:=GM s (cq (nM z)) (by omega) (by omega) (e:=nE z e) (by omega)
  obtain ⟨a,b,c⟩:=Of (e:=e) hs
  rw [a,b,c] at h1
  exact h1
theorem GN{z e:Int}(h:Sm z e) :dB (ax (nM z) (nl (nM z))) (nE z e)=some (.r0 true):=by
  have hm:=h.m
  have hb:=h.b
  exact aeb (cq (nM z)) (by omega) (by omega) (by omega)
theorem Bk(s:Bool){v n:Nat}(hv:v < W ^ n)(hn:n≤10000)(hl:nl v≤1000){e:Int}(he : -150000≤e∧e≤150000) :
    bE s (ax v n) e=some (.r0 0 (nS (sg s v)) (ax (nM (sg s v)) (nl (nM (sg s v)))) (nl (nM (sg s v))) (nE (sg s v) e)):=by
  have h1:=GM s hv hn (by omega) (e:=e) (by omega)
  have ht:=ai5 (v:=v)
  have hE' : -262144≤nE (sg s v) e∧nE (sg s v) e≤262144:=by
    unfold nE;rw [HQ];split <;> omega
  have hM:nl (nM (sg s v))≤nl v:=by have:=nm (arX (z:=sg s v));rwa [HQ] at this
  refine aY (ak (a:=(nS (sg s v),ax (nM (sg s v)) (nl (nM (sg s v))),nl (nM (sg s v)),nE (sg s v) e,false)) ?_ (ak (a:=false) ?_ rfl))
  · unfold K5
    rw [az,h1]
    exact aT (am rfl)
  · show (Dk _ _ _).run=_
    unfold Dk
    rw [bc aq,aeb (cq _) (by omega) (by omega) hE']
    exact bN (am rfl)
theorem anD{z e:Int}{m:Nat}(h:Sm z e)(h0:z ≠ 0)(hm:m≤tz z.natAbs){k:Int}(hk:k=((tz z.natAbs - m:Nat):Int)) :
    ka (ax (nM z) (nl (nM z))) k=some (.r0 (ax (z.natAbs / 2 ^ m) (nl (z.natAbs / 2 ^ m))) (nl (z.natAbs / 2 ^ m))):=by
  obtain ⟨e1,e2⟩:=xp hm
  have ht:=h.t
  have hM:=h.m
  rw [hk,aea (cq _) (by omega) (by omega),e1]
theorem asC{k:Nat}(hk:k≤100000) :ka (ax (nM 0) (nl (nM 0))) (k:Int)=some (.r0 (ax 0 0) 0):=by
  rw [iO,eA,aea (v:=0) (n:=0) (by decide) (by omega) (by omega),Nat.zero_mul,eA]
theorem ak8{z e ep:Int}{m:Nat}(h:Sm z e)(hp:z ≠ 0→m≤tz z.natAbs∧ep=e+m)(hb : -50000≤ep∧ep≤94800) :
    (uA (ax (nM z) (nl (nM z))) (nE z e) ep).run=some (.inl (ax (z.natAbs / 2 ^ m) (nl (z.natAbs / 2 ^ m)),nl (z.natAbs / 2 ^ m))) ∧
    (uB (ax (nM z) (nl (nM z))) (nE z e) ep).run=some (.inl (ax (z.natAbs / 2 ^ m) (nl (z.natAbs / 2 ^ m)),nl (z.natAbs / 2 ^ m))):=by
  by_cases h0:z=0
  · subst h0
    rw [Int.natAbs_zero,Nat.zero_div,eA,eT]
    unfold uA uB
    rw [az]
    by_cases hq:(0:Int) > ep
    · obtain ⟨k,hk⟩:∃ k:Nat,(0:Int) - ep=(k:Int):=⟨(0 - ep).toNat,by omega⟩
      rw [hk,asC (by omega)]
      exact ⟨jz (decide_eq_true hq) (cH (by rw [cy];omega) (aT (am rfl))),jz (decide_eq_true hq) (cH (by rw [cy];omega) (aT (am rfl)))⟩
    · rw [iO,eA]
      exact ⟨cE (decide_eq_false hq) rfl,cE (decide_eq_false hq) rfl⟩
  · obtain ⟨h1,h2⟩:=hp h0
    have e1:=io (e:=e) h0
    have ht:=h.t
    have hM:=h.m
    unfold uA uB
    rw [az]
    by_cases hq:nE z e > ep
    · rw [anD h h0 h1 (k:=nE z e - ep) (by omega)]
      exact ⟨jz (decide_eq_true hq) (cH (by rw [cy];omega) (aT (am rfl))),jz (decide_eq_true hq) (cH (by rw [cy];omega) (aT (am rfl)))⟩
    · have hm:m=tz z.natAbs:=by omega
      have e2:z.natAbs / 2 ^ m=nM z:=by rw [hm];rfl
      rw [e2]
      exact ⟨cE (decide_eq_false hq) (by rw [aq];rfl),cE (decide_eq_false hq) (by rw [aq];rfl)⟩
theorem TE{x y e:Int}(hx:Sm x e)(hy:Sm y e) :∃ m ep,dS (ax (nM x) (nl (nM x))) (nE x e) (ax (nM y) (nl (nM y))) (nE y e) =
    some (.r0 (ax (x.natAbs / 2 ^ m) (nl (x.natAbs / 2 ^ m))) (nl (x.natAbs / 2 ^ m)) (ax (y.natAbs / 2 ^ m) (nl (y.natAbs / 2 ^ m))) (nl (y.natAbs / 2 ^ m)) ep)∧Lvl x y e m ep:=by
  have hxt:=hx.t
  have hyt:=hy.t
  have hxb:=hx.b
  have hyb:=hy.b
  have he:=hx.2
  have key:∀ m ep,(x ≠ 0→m≤tz x.natAbs∧ep=e+m)→(y ≠ 0→m≤tz y.natAbs∧ep=e+m)→(-50000≤ep∧ep≤94800) →
      (∃ e1,(nD (ax (nM x) (nl (nM x))) (nE x e) (nE y e)).run=some (.inl e1)∧(nF (nE x e) (ax (nM y) (nl (nM y))) e1).run=some (.inl ep)) →
      dS (ax (nM x) (nl (nM x))) (nE x e) (ax (nM y) (nl (nM y))) (nE y e)=some (.r0 (ax (x.natAbs / 2 ^ m) (nl (x.natAbs / 2 ^ m))) (nl (x.natAbs / 2 ^ m)) (ax (y.natAbs / 2 ^ m) (nl (y.natAbs / 2 ^ m))) (nl (y.natAbs / 2 ^ m)) ep):=by
    intro m ep h1 h2 h3 ⟨e1,h4,h5⟩
    exact aY (ak h4 (ak h5 (ak (ak8 hx h1 h3).1 (ak (ak8 hy h2 h3).2 rfl))))
  have dz:∀ m,(0:Int).natAbs / 2 ^ m * 2 ^ m=(0:Int).natAbs:=fun m=>by rw [Int.natAbs_zero,Nat.zero_div,Nat.zero_mul]
  by_cases h1:x=0
  · have l0:nl (nM x)=0:=by rw [h1,iO,eA]
    by_cases h2:y=0
    · have l1:nl (nM y)=0:=by rw [h2,iO,eA]
      refine ⟨0,0,key 0 0 (fun q=>absurd h1 q) (fun q=>absurd h2 q) (by omega) ⟨nE y e,?_,?_⟩,⟨by rw [h1];exact dz 0,by rw [h2];exact dz 0,.inl ⟨h1,h2,rfl⟩,by omega⟩⟩
      · unfold nD;rw [aq,l0];exact bm rfl
      · unfold nF;rw [aq,l1];refine bm ?_;rw [h1,eT];rfl
    · have ly:nl (nM y) ≠ 0:=fun q=>Ed h2 (iN.1 q)
      have ey:=io (e:=e) h2
      refine ⟨tz y.natAbs,nE y e,key _ _ (fun q=>absurd h1 q) (fun _=>⟨Nat.le_refl _,ey⟩) (by omega) ⟨nE y e,?_,?_⟩,⟨by rw [h1];exact dz _,(xp (Nat.le_refl _)).2,.inr ey,by omega⟩⟩
      · unfold nD;rw [aq,l0];exact bm rfl
      · unfold nF;rw [aq];exact cx rfl
  · have lx:nl (nM x) ≠ 0:=fun q=>Ed h1 (iN.1 q)
    have ex:=io (e:=e) h1
    by_cases h2:y=0
    · have l1:nl (nM y)=0:=by rw [h2,iO,eA]
      refine ⟨tz x.natAbs,nE x e,key _ _ (fun _=>⟨Nat.le_refl _,ex⟩) (fun q=>absurd h2 q) (by omega) ⟨qy (nE x e) (nE y e),?_,?_⟩,⟨(xp (Nat.le_refl _)).2,by rw [h2];exact dz _,.inr ex,by omega⟩⟩
      · unfold nD;rw [aq];exact cx rfl
      · unfold nF;rw [aq,l1];exact bm rfl
    · have ly:nl (nM y) ≠ 0:=fun q=>Ed h2 (iN.1 q)
      have ey:=io (e:=e) h2
      have emin:qy (nE x e) (nE y e)=e+((min (tz x.natAbs) (tz y.natAbs):Nat):Int):=by
        rw [ex,ey]
        rcases Nat.le_total (tz x.natAbs) (tz y.natAbs) with q | q
        · rw [aot (by omega),Nat.min_eq_left q]
        · rw [UT (by omega),Nat.min_eq_right q]
      have mx:min (tz x.natAbs) (tz y.natAbs)≤tz x.natAbs:=Nat.min_le_left _ _
      have my:min (tz x.natAbs) (tz y.natAbs)≤tz y.natAbs:=Nat.min_le_right _ _
      revert emin mx my
      generalize min (tz x.natAbs) (tz y.natAbs)=m
      intro emin mx my
      refine ⟨m,e+m,key m _ (fun _=>⟨mx,rfl⟩) (fun _=>⟨my,rfl⟩) (by omega) ⟨e+m,?_,?_⟩,⟨(xp mx).2,(xp my).2,.inr rfl,by omega⟩⟩
      · unfold nD;rw [aq,emin];exact cx rfl
      · unfold nF;rw [aq];exact cx rfl
theorem aec{x y e:Int}(hx:Sm x e)(hy:Sm y e) :pM (ax (nM x) (nl (nM x))) (nE x e) (ax (nM y) (nl (nM y))) (nE y e)=some (.r0 false):=by
  have hxb:=hx.b
  have hyb:=hy.b
  refine aY (ak (a:=false) ?_ rfl)
  unfold Pf
  rw [aq,aq]
  by_cases h1:nl (nM x)=0
  · exact cx rfl
  · by_cases h2:nl (nM y)=0
    · exact ck (cx rfl)
    · refine ck (ck (cH (by rw [cy];omega) (cE (by rw [decide_eq_false_iff_not];omega) (cH (by rw [cy];omega) ?_))))
      show some (Sum.inl (decide _))=_
      rw [decide_eq_false (by omega)]
theorem ar2{x y e:Int}{s t:Bool}(hs:x ≠ 0→s=nS x)(ht:y ≠ 0→t=nS y)(hx:Sm x e)(hy:Sm y e) :
    gA s (ax (nM x) (nl (nM x))) (nE x e) t (ax (nM y) (nl (nM y))) (nE y e)=some (.r0 0 (nS (x+y)) (ax (nM (x+y)) (nl (nM (x+y)))) (nl (nM (x+y))) (nE (x+y) e)):=by
  have x1:=Bj hs hx
  have y1:=Bj ht hy
  obtain ⟨m,ep,l1,l2⟩:=TE hx hy
  have xl:=hx.l
  have yl:=hy.l
  have hX:nl (x.natAbs / 2 ^ m)≤300:=Nat.le_trans (nm (Nat.div_le_self _ _)) xl
  have hY:nl (y.natAbs / 2 ^ m)≤300:=Nat.le_trans (nm (Nat.div_le_self _ _)) yl
  have ox:=aol l2.x2
  have oy:=aol l2.y2
  have z0:∀ {z:Int},z=0→z.natAbs / 2 ^ m=0:=fun h=>by rw [h,Int.natAbs_zero,Nat.zero_div]
  have zx:x=0→x.natAbs / 2 ^ m=0:=z0
  have zy:y=0→y.natAbs / 2 ^ m=0:=z0
  have hb:=l2.b
  have t10:(Dl (ax (nM x) (nl (nM x))) (nE x e) (ax (nM y) (nl (nM y))) (nE y e)).run=some (.inl (false,false)):=by
    unfold Dl
    rw [az,az,GN hx,GN hy]
    exact aT (am (aW (aT (am rfl))))
  have t11:(Dm s (ax (nM x) (nl (nM x))) (nE x e) t (ax (nM y) (nl (nM y))) (nE y e) false).run=some (.inl (nS x,ax (nM x) (nl (nM x)),nl (nM x),nE x e,nS y,ax (nM y) (nl (nM y)),nl (nM y),nE y e)):=by
    unfold Dm
    rw [az,az,x1,y1]
    exact aW (aT (am (aT (am rfl))))
  have t12:(Dn (ax (nM x) (nl (nM x))) (nl (nM x)) (nE x e) (ax (nM y) (nl (nM y))) (nl (nM y)) (nE y e)).run=some (.inl false):=by
    unfold Dn
    rw [bc aq,bc aq,aec hx hy]
    exact bN (bN (am rfl))
  have t13:(Do (ax (nM x) (nl (nM x))) (nl (nM x)) (nE x e) (ax (nM y) (nl (nM y))) (nl (nM y)) (nE y e) false).run=some (.inl (ax (x.natAbs / 2 ^ m) (nl (x.natAbs / 2 ^ m)),nl (x.natAbs / 2 ^ m),ax (y.natAbs / 2 ^ m) (nl (y.natAbs / 2 ^ m)),nl (y.natAbs / 2 ^ m),ep)):=by
    unfold Do
    rw [bc aq,bc aq,l1]
    exact aW (bN (bN (am rfl)))
  clear l1 x1 y1
  have sum:=fun {z z':Int} (a:z=z' * ((2 ^ m:Nat):Int)) (b:x=0→y=0→z'=0)=>l2.sum a b
  revert t13 hX hY ox oy zx zy
  generalize x.natAbs / 2 ^ m=X
  generalize y.natAbs / 2 ^ m=Y
  intro hX hY ox oy zx zy t13
  have hXY:=aeV hX hY
  by_cases hsg:nS x=nS y
  · have hz:x+y=sg (nS x) (X+Y) * ((2 ^ m:Nat):Int):=by
      rw [← aqG,Int.add_mul,← ox]
      rw [hsg,← oy]
    obtain ⟨a,b,c⟩:=sum hz (fun p q=>by rw [zx p,zy q];cases nS x <;> rfl)
    have h1:=Bk (nS x) (v:=X+Y) (cq _) (by omega) (by omega) (e:=ep) (by omega)
    rw [a,b,c]
    refine aY (ak t10 (ak t11 (ak t12 (ak t13 (bt ?_)))))
    show (ra _ _ _ _ _ _ _).run=_
    unfold ra
    rw [bc aq,bc aq,apq (cq X) (cq Y) (by omega) (by omega)]
    simp only [uq,gK,gL]
    rw [bc aq,h1]
    exact jz (by rw [hsg];cases nS y <;> rfl) (bN (bN (am (bN (am rfl)))))
  · have hn:nS y = !(nS x):=by revert hsg;cases nS x <;> cases nS y <;> simp
    have t14:(ra (nS x) (nS y) (ax X (nl X)) (nl X) (ax Y (nl Y)) (nl Y) ep).run=some (.inl ()):=by
      unfold ra
      exact cE (by rw [hn];cases nS x <;> rfl) rfl
    have t15:(Dp (ax X (nl X)) (nl X) (ax Y (nl Y)) (nl Y)).run=some (.inl (decide (nP X Y ≥ 0))):=by
      unfold Dp
      rw [bc aq,bc aq,RJ (cq X) (cq Y) (by omega) (by omega)]
      exact bN (bN (am rfl))
    have hxy:x+y=(sg (nS x) X - sg (nS x) Y) * ((2 ^ m:Nat):Int):=by
      rw [Int.sub_mul,← ox]
      have:y = -(sg (nS x) Y) * ((2 ^ m:Nat):Int):=by rw [← QW,← hn];exact oy
      rw [Int.neg_mul] at this
      omega
    by_cases hlt:X < Y
    · have hz:x+y=sg (nS y) (Y - X) * ((2 ^ m:Nat):Int):=by
        rw [hxy,← aeW (Nat.le_of_lt hlt),hn,QW,QW];congr 1;omega
      obtain ⟨a,b,c⟩:=sum hz (fun p q=>by rw [zx p,zy q];cases nS y <;> rfl)
      have hd:nl (Y - X)≤nl Y:=nm (Nat.sub_le _ _)
      have h1:=Bk (nS y) (v:=Y - X) (cq _) (by omega) (by omega) (e:=ep) (by omega)
      rw [a,b,c]
      have hc:decide (nP X Y ≥ 0)=false:=by unfold nP;rw [if_pos hlt];rfl
      rw [hc] at t15
      refine aY (ak t10 (ak t11 (ak t12 (ak t13 (ak t14 (ak t15 (ak (a:=()) (aW rfl) (ak (a:=(0,nS (sg (nS y) (Y - X)),ax (nM (sg (nS y) (Y - X))) (nl (nM (sg (nS y) (Y - X)))),nl (nM (sg (nS y) (Y - X))),nE (sg (nS y) (Y - X)) ep)) ?_ rfl))))))))
      show (Dr _ _ _ _ _ _).run=_
      unfold Dr
      rw [bc aq,bc aq,ad8 (cq Y) (cq X) (by omega) (by omega) (Nat.le_of_lt hlt)]
      simp only [oc,cM,cN]
      rw [bc aq,h1]
      exact bN (bN (am (bN (am rfl))))
    · have hz:x+y=sg (nS x) (X - Y) * ((2 ^ m:Nat):Int):=by
        rw [hxy,← aeW (by omega)]
      obtain ⟨a,b,c⟩:=sum hz (fun p q=>by rw [zx p,zy q];cases nS x <;> rfl)
      have hd:nl (X - Y)≤nl X:=nm (Nat.sub_le _ _)
      have h1:=Bk (nS x) (v:=X - Y) (cq _) (by omega) (by omega) (e:=ep) (by omega)
      rw [a,b,c]
      have hc:decide (nP X Y ≥ 0)=true:=by
        rw [decide_eq_true_eq];unfold nP;rw [if_neg hlt];split <;> omega
      rw [hc] at t15
      refine aY (ak t10 (ak t11 (ak t12 (ak t13 (ak t14 (ak t15 (bt ?_)))))))
      show (Dq _ _ _ _ _ _ _).run=_
      unfold Dq
      rw [bc aq,bc aq,ad8 (cq X) (cq Y) (by omega) (by omega) (by omega)]
      simp only [oc,cM,cN]
      rw [bc aq,h1]
      exact bm (bN (bN (am (bN (am rfl)))))
theorem as4{x y e:Int}(hx:Sm x e)(hy:Sm y e) :
    nW (nS x) (ax (nM x) (nl (nM x))) (nE x e) (nS y) (ax (nM y) (nl (nM y))) (nE y e)=some (.r0 0 (nS (x - y)) (ax (nM (x - y)) (nl (nM (x - y)))) (nl (nM (x - y))) (nE (x - y) e)):=by
  have h1:=ar2 (x:=x) (y:=-y) (e:=e) (s:=nS x) (t:=!(nS y)) (fun _=>rfl) (fun h=>by
    unfold nS;rw [← decide_not];congr 1;exact propext (by omega)) hx hy.n
  rw [aqE,aqF,← Int.sub_eq_add_neg] at h1
  have hT:bK (nS y) (ax (nM y) (nl (nM y))) (nE y e)=some (.r0 (!(nS y)) (ax (nM y) (nl (nM y))) (nl (nM y)) (nE y e)):=by
    refine aY ?_
    unfold LM
    rw [aq];rfl
  refine aY (ak (a:=(0,nS (x - y),ax (nM (x - y)) (nl (nM (x - y))),nl (nM (x - y)),nE (x - y) e)) ?_ rfl)
  unfold P8
  rw [az,az,hT]
  simp only [rL,ij,fS,fT,ik]
  rw [bc aq,h1]
  exact aT (am (aT (bN (am rfl))))
theorem asD{x y e f:Int} :nS (x * y)=nS (sg (nS x != nS y) (nM x * nM y))∧nM (x * y)=nM (sg (nS x != nS y) (nM x * nM y))∧nE (x * y) (e+f)=nE (sg (nS x != nS y) (nM x * nM y)) (nE x e+nE y f):=by
  have hz:x * y=sg (nS x != nS y) (nM x * nM y) * ((2 ^ (tz x.natAbs+tz y.natAbs):Nat):Int):=by
    have a:=Oe x
    have b:=Oe y
    rw [← adv,Nat.pow_add,Int.natCast_mul]
    conv=>lhs;rw [← a,← b]
    simp only [Int.mul_assoc,Int.mul_comm,Int.mul_left_comm]
  obtain ⟨a,b,c⟩:=Ee hz (e+f)
  refine ⟨a,b,?_⟩
  rw [c]
  by_cases p:x=0
  · subst p;rw [iO,Nat.zero_mul]
    have:sg (nS 0 != nS y) 0=0:=tY.2 rfl
    rw [this,eT,eT]
  · by_cases q:y=0
    · subst q;rw [iO,Nat.mul_zero]
      have:sg (nS x != nS 0) 0=0:=tY.2 rfl
      rw [this,eT,eT]
    · rw [io p,io q];congr 1;omega
theorem as5{x y e f:Int}(hx:Sm x e)(hy:Sm y f) :
    nT (nS x) (ax (nM x) (nl (nM x))) (nE x e) (nS y) (ax (nM y) (nl (nM y))) (nE y f)=some (.r0 0 (nS (x * y)) (ax (nM (x * y)) (nl (nM (x * y)))) (nl (nM (x * y))) (nE (x * y) (e+f))):=by
  have x1:=Bj (s:=nS x) (fun _=>rfl) hx
  have y1:=Bj (s:=nS y) (fun _=>rfl) hy
  have xm:=hx.m
  have ym:=hy.m
  have xb:=hx.b
  have yb:=hy.b
  have hm:=al9 (a:=nM x) (b:=nM y)
  have h1:=Bk (nS x != nS y) (v:=nM x * nM y) (cq _) (by omega) (by omega) (e:=nE x e+nE y f) (by omega)
  obtain ⟨a,b,c⟩:=asD (x:=x) (y:=y) (e:=e) (f:=f)
  rw [a,b,c]
  refine aY (ak (a:=(false,false)) ?_ (ak (a:=(nS x,ax (nM x) (nl (nM x)),nl (nM x),nE x e,nS y,ax (nM y) (nl (nM y)),nl (nM y),nE y f)) ?_ (ak (a:=(0,nS (sg (nS x != nS y) (nM x * nM y)),ax (nM (sg (nS x != nS y) (nM x * nM y))) (nl (nM (sg (nS x != nS y) (nM x * nM y)))),nl (nM (sg (nS x != nS y) (nM x * nM y))),nE (sg (nS x != nS y) (nM x * nM y)) (nE x e+nE y f))) ?_ rfl)))
  · unfold Pj
    rw [az,az,GN hx,GN hy]
    exact aT (am (aW (aT (am rfl))))
  · show (Gb _ _ _ _ _ _ _).run=_
    unfold Gb
    rw [az,az,x1,y1]
    exact aW (aT (am (aT (am rfl))))
  · show (Gc _ _ _ _ _ _ _ _).run=_
    unfold Gc
    have h1':bE (!(nS x == nS y)) (ax (nM x * nM y) (nl (nM x * nM y))) (nE x e+nE y f)=_:=h1
    rw [bc aq,bc aq,ad9 (cq (nM x)) (cq (nM y)) (by omega) (by omega)]
    simp only [qf,fE,fF]
    rw [bc aq,h1']
    exact bN (bN (am (cH (by rw [cy];omega) (bN (am rfl)))))
theorem GO(z:Int) :iW (nS z) (ax (nM z) (nl (nM z)))=some (.r0 (nX z)):=by
  refine aY ?_
  unfold K6
  rw [aq]
  unfold nX nS
  by_cases h0:z=0
  · subst h0;rw [iO,eA];exact bm rfl
  · have:nl (nM z) ≠ 0:=fun q=>Ed h0 (iN.1 q)
    by_cases h:z < 0
    · rw [if_pos h];exact cx (jz (decide_eq_true h) rfl)
    · rw [if_neg h,if_pos (by omega)];exact cx (cE (decide_eq_false h) rfl)
theorem as6{x y e:Int}(hx:Sm x e)(hy:Sm y e) :
    xH (nS x) (ax (nM x) (nl (nM x))) (nE x e) (nS y) (ax (nM y) (nl (nM y))) (nE y e)=some (.r0 (Hb x y) 0):=by
  have x1:=Bj (s:=nS x) (fun _=>rfl) hx
  have y1:=Bj (s:=nS y) (fun _=>rfl) hy
  obtain ⟨m,ep,l1,l2⟩:=TE hx hy
  have xl:=hx.l
  have yl:=hy.l
  have hX:nl (x.natAbs / 2 ^ m)≤300:=Nat.le_trans (nm (Nat.div_le_self _ _)) xl
  have hY:nl (y.natAbs / 2 ^ m)≤300:=Nat.le_trans (nm (Nat.div_le_self _ _)) yl
  have hc:nP (x.natAbs / 2 ^ m) (y.natAbs / 2 ^ m)=Hb (x.natAbs:Int) (y.natAbs:Int):=by
    rw [ah2 (jS m),← Int.natCast_mul,← Int.natCast_mul,l2.x2,l2.y2]
  have hc':nP (y.natAbs / 2 ^ m) (x.natAbs / 2 ^ m)=Hb (y.natAbs:Int) (x.natAbs:Int):=by
    rw [ah2 (jS m),← Int.natCast_mul,← Int.natCast_mul,l2.x2,l2.y2]
  have t10:(Ds (ax (nM x) (nl (nM x))) (nE x e) (ax (nM y) (nl (nM y))) (nE y e)).run=some (.inl false):=by
    unfold Ds
    rw [az,az,GN hx,GN hy]
    exact aT (am (aW (aT (am rfl))))
  have t11:(Dt (nS x) (ax (nM x) (nl (nM x))) (nE x e) (nS y) (ax (nM y) (nl (nM y))) (nE y e) false).run=some (.inl (nS x,ax (nM x) (nl (nM x)),nl (nM x),nE x e,nS y,ax (nM y) (nl (nM y)),nl (nM y),nE y e)):=by
    unfold Dt
    rw [az,az,x1,y1]
    exact aW (aT (am (aT (am rfl))))
  have t12:(Du (ax (nM x) (nl (nM x))) (nl (nM x)) (nE x e) (ax (nM y) (nl (nM y))) (nl (nM y)) (nE y e)).run=some (.inl false):=by
    unfold Du
    rw [bc aq,bc aq,aec hx hy]
    exact bN (bN (am rfl))
  have t13:(Dv (nS x) (ax (nM x) (nl (nM x))) (nl (nM x)) (nS y) (ax (nM y) (nl (nM y))) (nl (nM y)) false).run=some (.inl (nX x != nX y)):=by
    unfold Dv
    rw [bc aq,bc aq,GO,GO]
    exact aW (bN (am (bN (am rfl))))
  have t15:(Dx (ax (nM x) (nl (nM x))) (nl (nM x)) (nE x e) (ax (nM y) (nl (nM y))) (nl (nM y)) (nE y e)).run=some (.inl (ax (x.natAbs / 2 ^ m) (nl (x.natAbs / 2 ^ m)),nl (x.natAbs / 2 ^ m),ax (y.natAbs / 2 ^ m) (nl (y.natAbs / 2 ^ m)),nl (y.natAbs / 2 ^ m))):=by
    unfold Dx
    rw [bc aq,bc aq,l1]
    exact bN (bN (am rfl))
  refine aY (ak t10 (ak t11 (ak t12 (ak t13 ?_))))
  by_cases hs:nX x=nX y
  · have hb:(nX x != nX y)=false:=by rw [hs,bne_self_eq_false]
    refine ak (a:=()) (by rw [hb];exact aW rfl) (ak t15 ?_)
    by_cases hn:x < 0
    · have e1:nS x=true:=decide_eq_true hn
      have hy0:y < 0:=by unfold nX at hs;rw [if_pos hn] at hs;revert hs;split <;> (try split) <;> omega
      have ev:Hb (y.natAbs:Int) (x.natAbs:Int)=Hb x y:=by
        unfold Hb;repeat' split
        all_goals omega
      refine bt ?_
      show (Dy _ _ _ _ _).run=_
      unfold Dy
      rw [bc aq,bc aq,RJ (cq _) (cq _) (by omega) (by omega),hc',ev]
      exact jz e1 (bN (bN (am rfl)))
    · have e1:nS x=false:=decide_eq_false hn
      have hy0 : ¬ y < 0:=by unfold nX at hs;rw [if_neg hn] at hs;revert hs;split <;> (try split) <;> (try split) <;> omega
      have ev:Hb (x.natAbs:Int) (y.natAbs:Int)=Hb x y:=by congr 1 <;> omega
      refine ak (a:=()) (cE e1 rfl) (ak (a:=Hb x y) ?_ rfl)
      show (Dz _ _ _ _).run=_
      unfold Dz
      rw [bc aq,bc aq,RJ (cq _) (cq _) (by omega) (by omega),hc,ev]
      exact bN (bN (am rfl))
  · have hb:(nX x != nX y)=true:=bne_iff_ne.2 hs
    refine bt ?_
    show (Dw _ _ _ _ _ _ _).run=_
    unfold Dw
    rw [bc aq,bc aq,GO,GO,hb]
    refine bm (bN (am (bN (am ?_))))
    by_cases hlt:nX x < nX y
    · have ev:Hb x y = -1:=by
        unfold Hb;unfold nX at hlt;revert hlt;repeat' split
        all_goals omega
      rw [ev];exact jz (decide_eq_true hlt) rfl
    · have ev:Hb x y=1:=by
        unfold Hb;unfold nX at hlt hs;revert hlt hs;repeat' split
        all_goals omega
      rw [ev];exact cE (decide_eq_false hlt) rfl
theorem arG{x e k:Int}(hx:Sm x e)(hk : -30000≤k∧k≤30000) :
    jY (nS x) (ax (nM x) (nl (nM x))) (nE x e) k=some (.r0 0 (nS x) (ax (nM x) (nl (nM x))) (nl (nM x)) (nE x (e+k))):=by
  have x1:=Bj (s:=nS x) (fun _=>rfl) hx
  have xm:=hx.m
  have xb:=hx.b
  have t5:(Al (ax (nM x) (nl (nM x))) (nE x e)).run=some (.inl (false,false)):=by
    unfold Al
    rw [az,GN hx]
    exact aT (am rfl)
  have t6:(Am (nS x) (ax (nM x) (nl (nM x))) (nE x e) false).run=some (.inl (nS x,ax (nM x) (nl (nM x)),nl (nM x),nE x e)):=by
    unfold Am
    rw [az,x1]
    exact aW (aT (am rfl))
  refine aY (ak t5 (ak t6 ?_))
  by_cases h0:x=0
  · have e1:nE x e=nE x (e+k):=by rw [h0,eT,eT]
    have l0:nl (nM x)=0:=by rw [h0,iO,eA]
    refine bt ?_
    refine jz (by rw [l0];rfl) ?_
    rw [e1];rfl
  · have hl:nl (nM x) ≠ 0:=fun q=>Ed h0 (iN.1 q)
    have ek:lQ (-1048576) (qy 1048576 k)=k:=by rw [UT (by omega),UU (by omega)]
    have h1:=Bk (nS x) (v:=nM x) (cq _) (by omega) (by omega) (e:=nE x e+k) (by omega)
    obtain ⟨a,b,c⟩:=Of (z:=x) (e:=e) (s:=nS x) (fun _=>rfl)
    have c':nE (sg (nS x) (nM x)) (nE x e+k)=nE x (e+k):=by
      have q:sg (nS x) (nM x) ≠ 0:=fun w=>Ed h0 (tY.1 w)
      rw [io q,io h0] at c
      rw [io q,io h0,io h0];omega
    rw [a,b,c'] at h1
    refine ak (a:=(0,nS x,ax (nM x) (nl (nM x)),nl (nM x),nE x (e+k))) ?_ rfl
    show (An _ _ _ _ _).run=_
    unfold An
    rw [bc aq,ek,h1]
    exact cx (cH (by rw [cy];omega) (bN (am rfl)))
theorem ak9{m:Nat}(h:m < W) :([(m:Int)]:List Int)=ax m 1:=by
  show [(m:Int)] = [] ++ [lm m 0]
  unfold lm;rw [Nat.pow_zero,Nat.div_one,Nat.mod_eq_of_lt h];rfl
theorem xL{n:Nat}(h:n < 9223372036854775808) :
    aD (n:Int)=some (.r0 (nS (n:Int)) (ax (nM (n:Int)) (nl (nM (n:Int)))) (nl (nM (n:Int))) (nE (n:Int) 0)):=by
  have hW:n < W:=Nat.lt_trans h (by decide)
  have hn:nl n≤1:=iJ (by rw [Nat.pow_one];exact hW)
  have h1:=GM false (v:=n) (n:=1) (by rw [Nat.pow_one];exact hW) (by omega) (by omega) (e:=0) (by omega)
  have e:sg false n=(n:Int):=rfl
  rw [e] at h1
  refine aY (ak (a:=((n:Int),false)) ?_ (ak (a:=(nS (n:Int),ax (nM (n:Int)) (nl (nM (n:Int))),nl (nM (n:Int)),nE (n:Int) 0)) ?_ rfl))
  · unfold I0
    rw [jD hW]
    exact cE (by rw [decide_eq_false_iff_not];omega) rfl
  · show (AL _ _).run=_
    unfold AL
    have d:decide ((n:Int) < 0)=false:=by rw [decide_eq_false_iff_not];omega
    rw [ak9 hW,bc aq,d,h1]
    exact bN (am rfl)
theorem TF{x:Nat}(hx:x < Nv)(h:tZ x=true) :na (x:Int)=some (.r0 (qx x)):=by
  have h':QX x ≠ 2047:=by unfold tZ at h;exact bne_iff_ne.1 h
  refine aY ?_
  unfold I5 qx
  rw [Ev hx,zA hx]
  by_cases h1:QX x=0
  · by_cases h2:x % 4503599627370496=0
    · rw [if_neg (by omega),if_neg (by omega),h1,h2]
      exact am (aW (aW (aW rfl)))
    · rw [if_neg (by omega),if_pos h2,h1]
      exact am (aW (aW (ck rfl)))
  · rw [if_pos h1]
    exact am (cx (ck rfl))
theorem ala{x:Nat}(hx:x < Nv)(h:tZ x=true) :nc (x:Int)=some (.r0 (x / 9223372036854775808 == 1) ((fm x:Nat):Int) (fe x)):=by
  have hx':x < 18446744073709551616:=hx
  have hl:=Zc x
  have hs:decide (((x:Nat):Int) ≥ (9223372036854775808:Int))=(x / 9223372036854775808 == 1):=by
    rw [Bool.eq_iff_iff,decide_eq_true_eq,beq_iff_eq];omega
  have hf:=Nat.mod_lt x (show 4503599627370496 > 0 by decide)
  have hW:W=18446744073709551616:=rfl
  refine aY (ak (a:=((qx x == 1),false,(x / 9223372036854775808 == 1),((x % 4503599627370496:Nat):Int))) ?_ (ak (a:=if qx x=1 then 0 else -1074) ?_ (ak (a:=(qx x == 3)) ?_ (ak (a:=(((fm x:Nat):Int),fe x)) ?_ rfl))))
  · unfold I6
    rw [TF hx h,zA hx,hs]
    refine am ?_
    show some (Sum.inl ((((qx x:Nat):Int) == 1),_,_,_))=_
    have:(((qx x:Nat):Int) == 1)=(qx x == 1):=by rw [Bool.eq_iff_iff,beq_iff_eq,beq_iff_eq];omega
    rw [this]
  · show (AP _).run=_
    unfold AP
    by_cases q:qx x=1
    · rw [if_pos q];exact jz (beq_iff_eq.2 q) rfl
    · rw [if_neg q];exact cE (beq_eq_false_iff_ne.2 q) rfl
  · show (AQ _).run=_
    unfold AQ
    rw [TF hx h]
    refine am ?_
    show some (Sum.inl (((qx x:Nat):Int) == 3))=_
    have:(((qx x:Nat):Int) == 3)=(qx x == 3):=by rw [Bool.eq_iff_iff,beq_iff_eq,beq_iff_eq];omega
    rw [this]
  · show (AR _ _ _ _).run=_
    unfold AR
    rw [Ev hx,ad7 (by omega)]
    by_cases h1:QX x=0
    · have hfm:fm x=x % 4503599627370496:=by unfold fm;rw [if_neg (by omega)]
      by_cases h2:x % 4503599627370496=0
      · have hk:qx x=1:=by unfold qx;rw [if_neg (by omega),if_neg (by omega)]
        have hfe:fe x=0:=by unfold fe;rw [if_neg (by omega),if_neg (by omega)]
        rw [hk,hfm,hfe,if_pos rfl]
        exact aW rfl
      · have hk:qx x=2:=by unfold qx;rw [if_neg (by omega),if_pos h2]
        have hfe:fe x = -1074:=by unfold fe;rw [if_neg (by omega),if_pos h2]
        rw [hk,hfm,hfe,if_neg (by omega)]
        exact aW rfl
    · have hk:qx x=3:=by unfold qx;rw [if_pos h1]
      have hfm:fm x=x % 4503599627370496+4503599627370496:=by unfold fm;rw [if_pos h1]
      have hfe:fe x = -1074+(((QX x:Nat):Int) - 1):=by unfold fe;rw [if_pos h1]
      rw [hk,hfm,hfe,if_neg (by omega)]
      have e1:IntKind.u64.wrap (((x % 4503599627370496:Nat):Int)+(4503599627370496:Int))=((x % 4503599627370496+4503599627370496:Nat):Int):=by
        have e':(4503599627370496:Int)=((4503599627370496:Nat):Int):=by omega
        rw [e',nq,Nat.mod_eq_of_lt (by omega)]
      rw [e1]
      refine bm (am (cH (by rw [cy];omega) ?_))
      have e2:((QX x:Nat):Int) - 1075 = -1074+(((QX x:Nat):Int) - 1):=by omega
      rw [e2];rfl
theorem anE{x:Nat}(hx:x < Nv)(h:tZ x=true) :
    mQ (x:Int)=some (.r0 (nS (fz x)) (ax (nM (fz x)) (nl (nM (fz x)))) (nl (nM (fz x))) (nE (fz x) (-1074))):=by
  have hm:=ar1 x
  have hn:nl (fm x)≤1:=iJ (by rw [Nat.pow_one];exact hm)
  have hl:=Zc x
  have he : -1000000≤fe x∧fe x≤1000000:=by unfold fe;split <;> (try split) <;> omega
  have h1:=GM (x / 9223372036854775808 == 1) (v:=fm x) (n:=1) (by rw [Nat.pow_one];exact hm) (by omega) (by omega) he
  obtain ⟨a,b,c⟩:=ak3 hx h
  rw [a,b,c] at h1
  refine aY (ak (a:=(false,(x / 9223372036854775808 == 1),((fm x:Nat):Int),fe x)) ?_ (ak (a:=(nS (fz x),ax (nM (fz x)) (nl (nM (fz x))),nl (nM (fz x)),nE (fz x) (-1074))) ?_ rfl))
  · unfold LH
    rw [ala hx h]
    exact am rfl
  · show (DY _ _ _).run=_
    unfold DY
    rw [ak9 hm,bc aq,h1]
    exact bN (am rfl)
theorem tj{x:Nat}(hx:x < Nv)(h:tZ x=true) :
    aa x=some (.r0 (nS (fz x)) (ax (nM (fz x)) (nl (nM (fz x)))) (nl (nM (fz x))) (nE (fz x) (-1074))):=by
  refine aY (ak (a:=(nS (fz x),ax (nM (fz x)) (nl (nM (fz x))),nl (nM (fz x)),nE (fz x) (-1074))) ?_ rfl)
  unfold I7
  rw [anE hx h]
  exact arn (cH (by rw [aom hx h];rfl) (am rfl))
theorem Jo{x y e:Int}(hx:Sm x e)(hy:Sm y e) :
    bM (nS x) (ax (nM x) (nl (nM x))) (nE x e) (nS y) (ax (nM y) (nl (nM y))) (nE y e)=some (.r0 (nS (x+y)) (ax (nM (x+y)) (nl (nM (x+y)))) (nl (nM (x+y))) (nE (x+y) e)):=by
  refine aY (ak (a:=(false,nS (x+y),ax (nM (x+y)) (nl (nM (x+y))),nl (nM (x+y)),nE (x+y) e)) ?_ rfl)
  unfold P3
  rw [az,az,ar2 (fun _=>rfl) (fun _=>rfl) hx hy]
  exact aT (aT (am rfl))
theorem aed{x y e:Int}(hx:Sm x e)(hy:Sm y e) :
    fh (nS x) (ax (nM x) (nl (nM x))) (nE x e) (nS y) (ax (nM y) (nl (nM y))) (nE y e)=some (.r0 (nS (x - y)) (ax (nM (x - y)) (nl (nM (x - y)))) (nl (nM (x - y))) (nE (x - y) e)):=by
  refine aY (ak (a:=(false,nS (x - y),ax (nM (x - y)) (nl (nM (x - y))),nl (nM (x - y)),nE (x - y) e)) ?_ rfl)
  unfold LN
  rw [az,az,as4 hx hy]
  exact aT (aT (am rfl))
theorem pY{x y e f:Int}(hx:Sm x e)(hy:Sm y f) :
    ai (nS x) (ax (nM x) (nl (nM x))) (nE x e) (nS y) (ax (nM y) (nl (nM y))) (nE y f)=some (.r0 (nS (x * y)) (ax (nM (x * y)) (nl (nM (x * y)))) (nl (nM (x * y))) (nE (x * y) (e+f))):=by
  refine aY (ak (a:=(false,nS (x * y),ax (nM (x * y)) (nl (nM (x * y))),nl (nM (x * y)),nE (x * y) (e+f))) ?_ rfl)
  unfold I1
  rw [az,az,as5 hx hy]
  exact aT (aT (am rfl))
theorem apu{x y e:Int}(hx:Sm x e)(hy:Sm y e) :
    mW (nS x) (ax (nM x) (nl (nM x))) (nE x e) (nS y) (ax (nM y) (nl (nM y))) (nE y e)=some (.r0 (decide (x≤y))):=by
  have ev:decide (Hb x y≤0)=decide (x≤y):=by
    rw [Bool.eq_iff_iff,decide_eq_true_eq,decide_eq_true_eq];unfold Hb;split <;> (try split) <;> omega
  refine aY (ak (a:=Hb x y) ?_ (by show some (Sum.inr (j0.r0 (decide (Hb x y≤0))))=_;rw [ev]))
  unfold LO
  rw [az,az,as6 hx hy]
  exact aT (aT (am rfl))
theorem apv{v n:Nat}(hn:n≤1000000) :uU (ax v n) (ax v n)=some (.r0 true):=by
  refine aY (ak (a:=()) (cE (by simp) rfl) (ak (a:=()) (bO (fun i=>i) n rfl (fun j hj=>?_) ?_) rfl))
  · show (DR _ _ _).run=_
    unfold DR
    rw [aq]
    exact ck (ap (ap (ap (ap (cE (by simp) (ap rfl))))))
  · exact cE (by rw [aq];exact (by simp only [cy,yF,zN,nk,n5,gE,n6,n7,decide_eq_true_eq,decide_eq_false_iff_not,beq_iff_eq,beq_eq_false_iff_ne,bne_iff_ne,bne_eq_false_iff_eq,Bool.not_eq_true',Bool.not_eq_false',List.length_set,ne_eq,ge_iff_le,gt_iff_lt,kH,cj,vC];omega)) rfl
theorem aee(s:Bool){v n:Nat}(e:Int)(hn:n≤1000000) :ol s (ax v n) e s (ax v n) e=some (.r0 true):=by
  refine aY (ak (a:=true) ?_ rfl)
  unfold Ln
  rw [az,apv hn]
  refine jz (by cases s <;> rfl) (aT (aT (am (bm ?_))))
  show some (Sum.inl (e == e))=_
  rw [beq_self_eq_true]
theorem tC{l:List Nat}(hw:Wd l)(hf:Fn l)(hn:l.length≤1000000) :
    aC l=some (.r0 l.length (l4 (gz l) l.length) (l5 (gz l) l.length) (l6 (gz l) (-1074) l.length)):=by
  have hn':∀ n,l.length=n→n≤1000000:=fun n h=>by omega
  generalize hL:l.length=n at *
  have hn:=hn' n rfl
  refine aY (ak (a:=(qH (fun i=>nS (gz l i)) false 0 n,qH (fun i=>VQ (gz l i)) [] 0 n,qH (fun i=>nE (gz l i) (-1074)) 0 0 n)) ?_ (ak (a:=(l4 (gz l) n,l5 (gz l) n,l6 (gz l) (-1074) n)) (bO (fun j=>(j,qH (fun i=>nS (gz l i)) false j n,qH (fun i=>VQ (gz l i)) [] j n,qH (fun i=>nE (gz l i) (-1074)) 0 j n)) n rfl (fun j hj=>?_) ?_) (by rw [← hL];rfl)))
  · unfold Lc
    rw [hL,← zu,← zu,← zu]
    exact ap (ap (ap (ap rfl)))
  · show aE (uJ _ _ _ _ _).run _=_
    refine ak (a:=(qH (fun i=>nS (gz l i)) false (j+1) n,qH (fun i=>VQ (gz l i)) [] (j+1) n,qH (fun i=>nE (gz l i) (-1074)) 0 (j+1) n)) ?_ (ap rfl)
    obtain ⟨N,h1,h2,h3⟩:=aq1 (hw j) (hf j (by omega))
    unfold uJ
    rw [h1,Ef,Ef,Ef,hL]
    simp only [z4,yZ,uk,ul,um,y4]
    rw [List.drop_zero,Ew h2]
    refine ck (ap (ap (am (ap (ap (ap (cH (decide_eq_true (by rw [aq];omega)) (ap ?_))))))))
    rw [← zw hj,← zw hj,← zw hj];rfl
  · show aE (uJ _ _ _ _ _).run _=_
    refine bt (cE (by rw [hL];exact (by simp only [cy,yF,zN,nk,n5,gE,n6,n7,decide_eq_true_eq,decide_eq_false_iff_not,beq_iff_eq,beq_eq_false_iff_ne,bne_iff_ne,bne_eq_false_iff_eq,Bool.not_eq_true',Bool.not_eq_false',List.length_set,ne_eq,ge_iff_le,gt_iff_lt,kH,cj,vC];omega)) ?_)
    rw [Eg,Eg,Eg];rfl
theorem JY{g:Nat→Int}{e:Int}{n from' far many:Nat}(h:∀ i,i < many→from'+i * far < n)(hn:n≤1000000)(hm:many≤1000000)(hfar:far≤1000)(hfr:from'≤1000000) :
    aj n (l4 g n) (l5 g n) (l6 g e n) (from':Int) (far:Int) (many:Int)=some (.r0 many (l4 (fun i=>g (from'+i * far)) many) (l5 (fun i=>g (from'+i * far)) many) (l6 (fun i=>g (from'+i * far)) e many)):=by
  refine aY (ak (a:=(many,many,qH (fun i=>nS (g (from'+i * far))) false 0 many,qH (fun i=>VQ (g (from'+i * far))) [] 0 many,qH (fun i=>nE (g (from'+i * far)) e) 0 0 many)) ?_ (ak (a:=(l4 (fun i=>g (from'+i * far)) many,l5 (fun i=>g (from'+i * far)) many,l6 (fun i=>g (from'+i * far)) e many)) (bO (fun j=>(j,qH (fun i=>nS (g (from'+i * far))) false j many,qH (fun i=>VQ (g (from'+i * far))) [] j many,qH (fun i=>nE (g (from'+i * far)) e) 0 j many)) many rfl (fun j hj=>?_) ?_) rfl))
  · unfold PB
    rw [cj,← zu,← zu,← zu]
    exact ap (ap (ap (ap rfl)))
  · have hi:=h j hj
    have e1:((j:Nat):Int) * (far:Int)=((j * far:Nat):Int):=by rw [Int.natCast_mul]
    have e2:(from':Int)+((j * far:Nat):Int)=((from'+j * far:Nat):Int):=by rw [Int.natCast_add]
    show (zh _ _ _ _ _ _ _ _ _ _ _ _).run=_
    unfold zh
    rw [e1,e2,cj,Eh,Ei,Ej,Ef,Ef,Ef,Og hi,Oh hi,Oi hi,List.drop_zero,List.take_length]
    refine ck (ap (ap (ap (ap (ap (ap (ap (ap (ap (cH (by rw [decide_eq_true_eq];omega) (ap (ap ?_))))))))))))
    rw [← zw hj,← zw hj,← zw hj];rfl
  · show (zh _ _ _ _ _ _ _ _ _ _ _ _).run=_
    refine cx ?_
    rw [Eg,Eg,Eg];rfl
theorem Zh{g h:Nat→Int}{e f:Int}{n k:Nat}(hg:∀ i,i < n→Sm (g i) e)(hh:∀ i,i < n→Sm (h i) f)(hk:∀ i,i < n→nl (g i * h i).natAbs≤k)(hk2:k≤200)(hn:n≤1000000)(he : -30000≤e+f∧e+f≤30000) :
    ∃ N,de n (l4 g n) (l5 g n) (l6 g e n) n (l4 h n) (l5 h n) (l6 h f n)=some (.r0 0 (nS (cr (fun i=>g i * h i) n)) (ax (nM (cr (fun i=>g i * h i) n)) N) 0 (nl (nM (cr (fun i=>g i * h i) n))) (nE (cr (fun i=>g i * h i) n) (e+f)))∧nl (nM (cr (fun i=>g i * h i) n))≤N∧N≤4096:=by
  have hS:∀ j,j≤n→Sm (cr (fun i=>g i * h i) j) (e+f):=fun j hj=>jB (Fb (fun i hi=>hk i (by omega)) (by omega)) (by omega) he
  have hp:∀ j,j < n→Sm (g j * h j) (e+f):=fun j hj=>jB (hk j hj) (by omega) he
  have loop:∃ y,dc (zg n (l4 g n) (l5 g n) (l6 g e n) n (l4 h n) (l5 h n) (l6 h f n)) (0,0,false,([]:List Int),0,0,(0:Int))=some y ∧
      ∃ N,y=.inl (0,nS (cr (fun i=>g i * h i) n),ax (nM (cr (fun i=>g i * h i) n)) N,0,nl (nM (cr (fun i=>g i * h i) n)),nE (cr (fun i=>g i * h i) n) (e+f))∧nl (nM (cr (fun i=>g i * h i) n))≤N∧N≤4096:=by
    refine amb (fun j s=>∃ N,s=(0,j,nS (cr (fun i=>g i * h i) j),ax (nM (cr (fun i=>g i * h i) j)) N,0,nl (nM (cr (fun i=>g i * h i) j)),nE (cr (fun i=>g i * h i) j) (e+f))∧nl (nM (cr (fun i=>g i * h i) j))≤N∧N≤4096) n ?_ (fun j s hj hs=>?_) (fun s hs=>?_)
    · refine ⟨0,?_,?_,by omega⟩
      · show _=(0,0,nS 0,ax (nM 0) 0,0,nl (nM 0),nE 0 (e+f))
        rw [iO,eA,eT];rfl
      · show nl (nM 0)≤0
        rw [iO,eA];exact Nat.le_refl _
    · obtain ⟨N,rfl,hN1,hN2⟩:=hs
      obtain ⟨M,m1,m2,m3⟩:=JW (hg j hj) (hh j hj)
      obtain ⟨A,a1,a2,a3⟩:=ape (hS j (by omega)) (hp j hj)
      refine ⟨_,?_,A,rfl,a2,a3⟩
      show aE (Gl _ _ _ _ _ _ _ _ _ _ _ _ _ _ _).run _=_
      refine ak (a:=(0,nS (cr (fun i=>g i * h i) j+g j * h j),ax (nM (cr (fun i=>g i * h i) j+g j * h j)) A,0,nl (nM (cr (fun i=>g i * h i) j+g j * h j)),nE (cr (fun i=>g i * h i) j+g j * h j) (e+f))) ?_ (ap rfl)
      unfold Gl
      have m1':aB (nS (g j)) (VQ (g j)) (nE (g j) e) (nS (h j)) (VQ (h j)) (nE (h j) f)=_:=m1
      rw [Eh,Ei,Ej,Eh,Ei,Ej,Og hj,Oh hj,Oi hj,Og hj,Oh hj,Oi hj,az,az,m1']
      simp only [nQ,k6,cI,cz,cA,cB,cJ]
      rw [bT hN1,bT m2,a1]
      exact ck (ap (ap (ap (ap (ap (ap (ap (ap (aT (aT (am (aW (cH (bv hN1) (cH (bv m2) (am (aW rfl))))))))))))))))
    · obtain ⟨N,rfl,hN1,hN2⟩:=hs
      exact ⟨_,bt (cx rfl),N,rfl,hN1,hN2⟩
  obtain ⟨y,l1,N,rfl,l2,l3⟩:=loop
  exact ⟨N,aY (ak (a:=false) rfl (ak (a:=false) (cE (by simp) rfl) (ak l1 (aW rfl)))),l2,l3⟩
theorem GQ{g:Nat→Int}{e:Int}{n k:Nat}(hg:∀ i,i < n→nl (g i).natAbs≤k)(hk2:k≤100)(hn:n≤1000000)(he : -10000≤e∧e≤10000) :
    ∃ N,bP n (l4 g n) (l5 g n) (l6 g e n)=some (.r0 0 (nS (cr (fun i=>g i * g i) n)) (ax (nM (cr (fun i=>g i * g i) n)) N) 0 (nl (nM (cr (fun i=>g i * g i) n))) (nE (cr (fun i=>g i * g i) n) (e+e)))∧nl (nM (cr (fun i=>g i * g i) n))≤N∧N≤4096:=by
  obtain ⟨N,h1,h2,h3⟩:=Zh (g:=g) (h:=g) (e:=e) (f:=e) (n:=n) (k:=k+k) (fun i hi=>jB (hg i hi) (by omega) (by omega)) (fun i hi=>jB (hg i hi) (by omega) (by omega)) (fun i hi=>kO (hg i hi) (hg i hi)) (by omega) hn (by omega)
  refine ⟨N,aY (ak (a:=(0,nS (cr (fun i=>g i * g i) n),ax (nM (cr (fun i=>g i * g i) n)) N,0,nl (nM (cr (fun i=>g i * g i) n)),nE (cr (fun i=>g i * g i) n) (e+e))) ?_ rfl),h2,h3⟩
  unfold G0
  rw [gF,gH,gI,h1]
  exact pw (pw (am rfl))
def Ez(r c:Int)(n:Nat) :Bool:=decide (0≤r∧r≤512∧0≤c∧c≤512∧(n:Int)=r * c)
theorem ah3{r c:Int}{n:Nat} :Ez r c n=true↔0≤r∧r≤512∧0≤c∧c≤512∧(n:Int)=r * c:=decide_eq_true_iff
theorem anF{r c:Int}(h1:0≤r)(h2:r≤512)(h3:0≤c)(h4:c≤512) :0≤r * c∧r * c≤262144:=by
  refine ⟨Int.mul_nonneg h1 h3,?_⟩
  have:r * c≤512 * 512:=Int.mul_le_mul h2 h4 h3 (by decide)
  omega
theorem ah4{r c:Int}{n:Nat}(h:Ez r c n=true) :∃ p q:Nat,r=(p:Int)∧c=(q:Int)∧p≤512∧q≤512∧n=p * q∧n≤262144:=by
  obtain ⟨h1,h2,h3,h4,h5⟩:=ah3.1 h
  have hb:=anF h1 h2 h3 h4
  refine ⟨r.toNat,c.toNat,by omega,by omega,by omega,by omega,?_,by omega⟩
  have e1:r=((r.toNat:Nat):Int):=by omega
  have e2:c=((c.toNat:Nat):Int):=by omega
  rw [e1,e2,← Int.natCast_mul] at h5
  have:=Int.ofNat_inj.1 h5
  simpa using this
theorem qu(r c:Int)(l:List Nat) :dK r c l=some (.r0 (!(Ez r c l.length))):=by
  refine aY (ak (a:=!(Ez r c l.length)) ?_ rfl)
  unfold La
  by_cases h1:r < 0
  · have:Ez r c l.length=false:=by unfold Ez;rw [decide_eq_false_iff_not];omega
    rw [this];exact jz (decide_eq_true h1) rfl
  by_cases h2:r > 512
  · have:Ez r c l.length=false:=by unfold Ez;rw [decide_eq_false_iff_not];omega
    rw [this];exact cE (decide_eq_false h1) (jz (decide_eq_true h2) rfl)
  by_cases h3:c < 0
  · have:Ez r c l.length=false:=by unfold Ez;rw [decide_eq_false_iff_not];omega
    rw [this];exact cE (decide_eq_false h1) (cE (decide_eq_false h2) (jz (decide_eq_true h3) rfl))
  by_cases h4:c > 512
  · have:Ez r c l.length=false:=by unfold Ez;rw [decide_eq_false_iff_not];omega
    rw [this];exact cE (decide_eq_false h1) (cE (decide_eq_false h2) (cE (decide_eq_false h3) (jz (decide_eq_true h4) rfl)))
  have hb:=anF (by omega:0≤r) (by omega:r≤512) (by omega:0≤c) (by omega:c≤512)
  refine cE (decide_eq_false h1) (cE (decide_eq_false h2) (cE (decide_eq_false h3) (cE (decide_eq_false h4) (cH (by rw [cy];omega) ?_))))
  show some (Sum.inl (((l.length:Nat):Int) != r * c))=_
  congr 2
  unfold Ez
  by_cases h5:((l.length:Nat):Int)=r * c
  · rw [decide_eq_true ⟨by omega,by omega,by omega,by omega,h5⟩,h5];simp
  · rw [decide_eq_false (by omega),bne_iff_ne.2 h5];rfl
theorem Zi(r c:Int)(l:List Nat) :pV r c l=some (.r0 (Ez r c l.length)):=by
  refine aY (ak (a:=Ez r c l.length) ?_ rfl)
  unfold PX
  by_cases h1:r ≥ 0
  · by_cases h2:r≤512
    · by_cases h3:c ≥ 0
      · by_cases h4:c≤512
        · have hb:=anF h1 h2 h3 h4
          refine jz (decide_eq_true h1) (jz (decide_eq_true h2) (jz (decide_eq_true h3) (jz (decide_eq_true h4) (cH (by rw [cy];omega) ?_))))
          show some (Sum.inl (((l.length:Nat):Int) == r * c))=_
          congr 2
          unfold Ez
          by_cases h5:((l.length:Nat):Int)=r * c
          · rw [decide_eq_true ⟨by omega,by omega,by omega,by omega,h5⟩,beq_iff_eq.2 h5]
          · rw [decide_eq_false (by omega),beq_eq_false_iff_ne.2 h5]
        · have:Ez r c l.length=false:=by unfold Ez;rw [decide_eq_false_iff_not];omega
          rw [this];exact jz (decide_eq_true h1) (jz (decide_eq_true h2) (jz (decide_eq_true h3) (cE (decide_eq_false h4) rfl)))
      · have:Ez r c l.length=false:=by unfold Ez;rw [decide_eq_false_iff_not];omega
        rw [this];exact jz (decide_eq_true h1) (jz (decide_eq_true h2) (cE (decide_eq_false h3) rfl))
    · have:Ez r c l.length=false:=by unfold Ez;rw [decide_eq_false_iff_not];omega
      rw [this];exact jz (decide_eq_true h1) (cE (decide_eq_false h2) rfl)
  · have:Ez r c l.length=false:=by unfold Ez;rw [decide_eq_false_iff_not];omega
    rw [this];exact cE (decide_eq_false h1) rfl
noncomputable def Hc(l:List Nat) :Bool:=@decide (Fn l) (Classical.propDecidable _)
theorem mi{l:List Nat} :Hc l=true↔Fn l:=@decide_eq_true_iff _ (Classical.propDecidable _)
theorem Zj{l:List Nat} :Hc l=false↔¬ Fn l:=@decide_eq_false_iff_not _ (Classical.propDecidable _)
theorem Ey{l:List Nat}(hw:Wd l)(hn:l.length≤1000000000) :∃ k:Int,aA l=some (.r0 k)∧decide (k ≥ 0) = !(Hc l):=by
  have step:∀ j,j < l.length→tZ (l.getD j 0)=true→dw l j=some (.inl (j+1)):=by
    intro j hj hf
    show (cQ _ _).run=_
    unfold cQ
    exact ck (ap (ap (cE (aeX (hw j) hf) (bm (cE (art (hw j) hf) (ap rfl))))))
  by_cases h:Fn l
  · refine ⟨-1,aY (ak (a:=()) rfl (ak (a:=()) (bO (fun j=>j) l.length rfl (fun j hj=>step j hj (h j hj)) (cx rfl)) rfl)),?_⟩
    rw [mi.2 h];rfl
  · obtain ⟨k,hk,hb,hf⟩:=vN (p:=fun i=>tZ (l.getD i 0)=true) h
    have hbf:tZ (l.getD k 0)=false:=by cases q:tZ (l.getD k 0) with | true=>exact absurd q hb | false=>rfl
    refine ⟨(k:Int),aY (ak (a:=()) rfl (bt (bO (fun j=>j) k rfl (fun j hj=>step j (by omega) (hf j hj)) ?_))),?_⟩
    · show (cQ _ _).run=_
      unfold cQ
      refine ck (ap (ap ?_))
      rcases adx (hw k) hbf with q | ⟨q1,q2,q3⟩
      · exact jz (aon q) rfl
      · exact cE q3 (bm (jz (aru (hw k) q2) rfl))
    · rw [Zj.2 h,decide_eq_true (by omega)];rfl
theorem RK{l:List Nat}(hw:Wd l)(hn:l.length≤1000000000) :jc l=some (.r0 (Hc l)):=by
  have step:∀ j,j < l.length→tZ (l.getD j 0)=true→qt l j=some (.inl (j+1)):=by
    intro j hj hf
    show (oR _ _).run=_
    unfold oR
    exact ck (ap (ap (ap (ap (cE (by rw [ai7 (hw j),hf];rfl) (ap rfl))))))
  by_cases h:Fn l
  · rw [mi.2 h]
    exact aY (ak (a:=()) rfl (ak (a:=()) (bO (fun j=>j) l.length rfl (fun j hj=>step j hj (h j hj)) (cx rfl)) rfl))
  · obtain ⟨k,hk,hb,hf⟩:=vN (p:=fun i=>tZ (l.getD i 0)=true) h
    have hbf:tZ (l.getD k 0)=false:=by cases q:tZ (l.getD k 0) with | true=>exact absurd q hb | false=>rfl
    rw [Zj.2 h]
    refine aY (ak (a:=()) rfl (bt (bO (fun j=>j) k rfl (fun j hj=>step j (by omega) (hf j hj)) ?_)))
    show (oR _ _).run=_
    unfold oR
    exact ck (ap (ap (ap (ap (jz (by rw [ai7 (hw k),hbf];rfl) rfl)))))
def Nu(l:List Nat) :Int:=cr (fun i=>gz l i * gz l i) l.length
theorem aq5{l:List Nat}(hw:Wd l)(hf:Fn l)(hn:l.length≤1000000) :nl (Nu l).natAbs≤67 :=
  Fb (fun i hi=>kO (qI hw hf hi) (qI hw hf hi)) hn
theorem aef{r c:Int}{l:List Nat}(hw:Wd l)(h:Ez r c l.length=true)(hf:Hc l=true) :
    ∃ N,d6 r c l=some (.r0 0 (nS (Nu l)) (ax (nM (Nu l)) N) 0 (nl (nM (Nu l))) (nE (Nu l) (-2148)))∧nl (nM (Nu l))≤N∧N≤4096:=by
  obtain ⟨_,_,_,_,_,_,_,hn⟩:=ah4 h
  obtain ⟨k,k1,k2⟩:=Ey hw (by omega)
  have hF:=mi.1 hf
  obtain ⟨N,h1,h2,h3⟩:=GQ (g:=gz l) (e:=-1074) (n:=l.length) (k:=33) (fun i hi=>qI hw hF hi) (by omega) (by omega) (by omega)
  refine ⟨N,aY (ak (a:=false) ?_ (ak (a:=(0,nS (Nu l),ax (nM (Nu l)) N,0,nl (nM (Nu l)),nE (Nu l) (-2148))) ?_ rfl)),h2,h3⟩
  · unfold Pz
    rw [az,qu,h,k1]
    exact bm (am (aT (am (aW (am (aW (aW (bm (am (aT (am (cE (by rw [hf] at k2;exact k2) (am (aW rfl))))))))))))))
  · unfold PA
    rw [az,tC hw hF (by omega)]
    simp only [iM,bb,c7,c8,c9]
    rw [gF,gH,gI,h1]
    exact aT (am (pw (am rfl)))
theorem anG{l:List Nat}(hw:Wd l)(hf:Fn l)(hn:l.length≤1000000) :
    ba l=some (.r0 (nS (Nu l)) (ax (nM (Nu l)) (nl (nM (Nu l)))) (nl (nM (Nu l))) (nE (Nu l) (-2148))):=by
  have hS:∀ j,j≤l.length→Sm (cr (fun i=>gz l i * gz l i) j) (-2148):=fun j hj=>jB (k:=67) (Fb (fun i hi=>kO (qI hw hf (by omega)) (qI hw hf (by omega))) (by omega)) (by omega) (by omega)
  have h0:=xL (n:=0) (by omega)
  refine aY (ak (a:=(false,nS 0,ax (nM 0) (nl (nM 0)),nl (nM 0),nE 0 (-2148))) ?_ (ak (a:=()) rfl (ak (a:=(nS (Nu l),ax (nM (Nu l)) (nl (nM (Nu l))),nl (nM (Nu l)),nE (Nu l) (-2148))) (bO (fun j=>(j,nS (cr (fun i=>gz l i * gz l i) j),ax (nM (cr (fun i=>gz l i * gz l i) j)) (nl (nM (cr (fun i=>gz l i * gz l i) j))),nl (nM (cr (fun i=>gz l i * gz l i) j)),nE (cr (fun i=>gz l i * gz l i) j) (-2148))) l.length rfl (fun j hj=>?_) ?_) rfl)))
  · unfold I9
    have h0':aD 0=_:=h0
    rw [h0']
    refine am ?_
    show some (Sum.inl (false,nS ((0:Nat):Int),ax (nM ((0:Nat):Int)) (nl (nM ((0:Nat):Int))),nl (nM ((0:Nat):Int)),nE ((0:Nat):Int) 0))=_
    rw [show ((0:Nat):Int)=0 from rfl,eT,eT]
  · have hx:=Ek hw hf hj
    have hp:Sm (gz l j * gz l j) (-1074 + -1074):=jB (kO (qI hw hf hj) (qI hw hf hj)) (by omega) (by omega)
    have t1:=pY hx hx
    have t2:=Jo (hS j (by omega)) (y:=gz l j * gz l j) (e:=-2148) hp
    show aE (u5 _ _ _ _ _ _).run _=_
    refine ak (a:=(nS (cr (fun i=>gz l i * gz l i) (j+1)),ax (nM (cr (fun i=>gz l i * gz l i) (j+1))) (nl (nM (cr (fun i=>gz l i * gz l i) (j+1)))),nl (nM (cr (fun i=>gz l i * gz l i) (j+1))),nE (cr (fun i=>gz l i * gz l i) (j+1)) (-2148))) ?_ (ap rfl)
    unfold u5
    have ex:aa (l.getD j 0)=_:=tj (hw j) (hf j hj)
    rw [ex]
    simp only [dO,ag,ac,ae,ah]
    have t1':ai (nS (fz (l.getD j 0))) (ax (nM (fz (l.getD j 0))) (nl (nM (fz (l.getD j 0))))) (nE (fz (l.getD j 0)) (-1074)) (nS (fz (l.getD j 0))) (ax (nM (fz (l.getD j 0))) (nl (nM (fz (l.getD j 0))))) (nE (fz (l.getD j 0)) (-1074))=_:=t1
    rw [bc aq,t1']
    simp only [cD,aN,aF,aG,aO]
    have t2':bM (nS (cr (fun i=>gz l i * gz l i) j)) (ax (nM (cr (fun i=>gz l i * gz l i) j)) (nl (nM (cr (fun i=>gz l i * gz l i) j)))) (nE (cr (fun i=>gz l i * gz l i) j) (-2148)) (nS (gz l j * gz l j)) (ax (nM (gz l j * gz l j)) (nl (nM (gz l j * gz l j)))) (nE (gz l j * gz l j) (-1074 + -1074))=_:=t2
    rw [bc aq,bc aq,t2']
    exact ck (ap (ap (am (bN (bN (am (bN (bN (am rfl)))))))))
  · show aE (u5 _ _ _ _ _ _).run _=_
    exact bt (cx rfl)
def bF(m n:Nat) :Nat:=64 * max m 1 * max n 1
def bI(m n:Nat) :Int:=(bF m n:Int) * (bF m n:Int)
theorem aq6{m n:Nat}(hm:m≤512)(hn:n≤512) :bF m n≤16777216:=by
  unfold bF
  have h1:max m 1≤512:=by omega
  have h2:max n 1≤512:=by omega
  have:max m 1 * max n 1≤512 * 512:=Nat.mul_le_mul h1 h2
  rw [Nat.mul_assoc];omega
theorem ar3{m n:Nat}(hm:m≤512)(hn:n≤512) :nl (bF m n)≤1:=by
  have:=aq6 hm hn
  exact iJ (by rw [Nat.pow_one];exact Nat.lt_of_le_of_lt this (by decide))
theorem alb{m n:Nat}(hm:m≤512)(hn:n≤512) :nl (bI m n).natAbs≤2:=by
  have h:=ar3 hm hn
  exact kO (a:=1) (b:=1) (by rw [Int.natAbs_natCast];exact h) (by rw [Int.natAbs_natCast];exact h)
theorem aoz{m n:Nat}(hm:m≤512)(hn:n≤512) :Sm (bF m n:Int) 0:=jB (k:=1) (by rw [Int.natAbs_natCast];exact ar3 hm hn) (by omega) (by omega)
theorem alc(m:Nat) :lQ (m:Int) 1=((max m 1:Nat):Int):=by
  by_cases h:m≤1
  · rw [UU (by omega),Nat.max_eq_right h];rfl
  · rw [aou (by omega),Nat.max_eq_left (by omega)]
theorem aq7(m n:Nat) :((64:Int) * ((max m 1:Nat):Int)) * ((max n 1:Nat):Int)=((bF m n:Nat):Int):=by
  unfold bF;rw [Int.natCast_mul,Int.natCast_mul];rfl
theorem Zk{m n:Nat}(hm:m≤512)(hn:n≤512) :
    ∃ N,dA (m:Int) (n:Int)=some (.r0 0 (nS (bI m n)) (ax (nM (bI m n)) N) 0 (nl (nM (bI m n))) (nE (bI m n) (-106)))∧nl (nM (bI m n))≤N∧N≤4096:=by
  have hb:=aq6 hm hn
  obtain ⟨A,a1,a2,a3⟩:=Jm (n:=bF m n) (by omega)
  obtain ⟨B,b1,b2,b3⟩:=JW (aoz hm hn) (aoz hm hn)
  have b2:nl (nM (bI m n))≤B:=b2
  have hB:Sm (bI m n) (0+0):=jB (alb hm hn) (by omega) (by omega)
  obtain ⟨C,c1,c2,c3⟩:=ak2 (k:=-106) hB (by omega)
  have hmx:max m 1≤512:=by omega
  refine ⟨C,aY (ak (a:=(false,false)) ?_ (ak (a:=(nS (bF m n:Int),ax (nM (bF m n:Int)) A,0,nl (nM (bF m n:Int)),nE (bF m n:Int) 0)) ?_ (ak (a:=(0,nS (bI m n),ax (nM (bI m n)) B,0,nl (nM (bI m n)),nE (bI m n) (0+0))) ?_ (ak (a:=(0,nS (bI m n),ax (nM (bI m n)) C,0,nl (nM (bI m n)),nE (bI m n) (-106))) ?_ rfl)))),c2,c3⟩
  · unfold Lb
    refine cE (by rw [decide_eq_false_iff_not];omega) (cE (by rw [decide_eq_false_iff_not];omega) (cE (by rw [decide_eq_false_iff_not];omega) ?_))
    show some (Sum.inl (decide ((n:Int) > 512),false))=_
    rw [decide_eq_false (by omega)]
  · show (DD _ _ _).run=_
    unfold DD
    rw [alc,alc,aq7,a1]
    exact aW (cH (by rw [cy];omega) (cH (by rw [cy];omega) (am rfl)))
  · show (DE _ _ _ _ _).run=_
    unfold DE
    rw [bT a2,b1]
    exact cH (bv a2) (cH (bv a2) (am rfl))
  · show (DF _ _ _ _ _ _).run=_
    unfold DF
    rw [bT b2,c1]
    exact aW (cH (bv b2) (am rfl))
theorem ald{m n:Nat}(hm:m≤512)(hn:n≤512) :
    lh (m:Int) (n:Int)=some (.r0 (nS (bI m n)) (ax (nM (bI m n)) (nl (nM (bI m n)))) (nl (nM (bI m n))) (nE (bI m n) (-106))):=by
  have hb:=aq6 hm hn
  have a1:=xL (n:=bF m n) (by omega)
  have b1:=pY (aoz hm hn) (aoz hm hn)
  have hB:Sm (bI m n) (0+0):=jB (alb hm hn) (by omega) (by omega)
  have c1:=arG (k:=-106) hB (by omega)
  have hmx:max m 1≤512:=by omega
  have one:∀ k:Nat,(if k=0 then (1:Int) else (k:Int))=((max k 1:Nat):Int):=fun k=>by split <;> omega
  refine aY (ak (a:=(((max m 1:Nat):Int),false)) ?_ (ak (a:=((max n 1:Nat):Int)) ?_ (ak (a:=(nS (bF m n:Int),ax (nM (bF m n:Int)) (nl (nM (bF m n:Int))),nl (nM (bF m n:Int)),nE (bF m n:Int) 0)) ?_ (ak (a:=(nS (bI m n),ax (nM (bI m n)) (nl (nM (bI m n))),nl (nM (bI m n)),nE (bI m n) (-106))) ?_ rfl))))
  · unfold I2
    by_cases h:m=0
    · subst h;exact bm rfl
    · rw [← one m,if_neg h];exact cE (by rw [beq_eq_false_iff_ne];omega) rfl
  · show (AM _).run=_
    unfold AM
    by_cases h:n=0
    · subst h;exact bm rfl
    · rw [← one n,if_neg h];exact cE (by rw [beq_eq_false_iff_ne];omega) rfl
  · show (AN _ _).run=_
    unfold AN
    rw [aq7,a1]
    exact cH (by rw [cy];omega) (cH (by rw [cy];omega) (am rfl))
  · show (AO _ _ _ _).run=_
    unfold AO
    rw [bc aq,b1]
    simp only [cD,aN,aF,aG,aO]
    have c1':jY (nS ((bF m n:Int) * (bF m n:Int))) (ax (nM ((bF m n:Int) * (bF m n:Int))) (nl (nM ((bF m n:Int) * (bF m n:Int))))) (nE ((bF m n:Int) * (bF m n:Int)) (0+0)) (-106)=_:=c1
    rw [bc aq,c1']
    exact bN (bN (am (bN (am rfl))))
theorem pq{i k c:Nat}(h:k < c) :(i * c+k) / c=i∧(i * c+k) % c=k:=by
  have hc:0 < c:=by omega
  refine ⟨by rw [Nat.mul_comm,Nat.mul_add_div hc,Nat.div_eq_of_lt h,Nat.add_zero],?_⟩
  rw [Nat.mul_comm,Nat.mul_add_mod,Nat.mod_eq_of_lt h]
def asE:Nat:=2 ^ 2148
def Kb:Int:=1 * ((asE:Nat):Int)
theorem aq8:nS 1=nS Kb∧nM 1=nM Kb∧nE 1 0=nE Kb (-2148):=by
  have h:=aop 1 2148 (-2148)
  rw [show (-2148:Int)+((2148:Nat):Int)=0 by omega] at h
  unfold Kb asE
  exact h
theorem as7(n:Nat) :W ^ n=2 ^ (64 * n):=by rw [Nat.pow_mul]
theorem asF{a n:Nat}(h:a < 64 * n) :nl (2 ^ a)≤n:=iJ (by rw [as7];exact ast h)
theorem anH:nl Kb.natAbs≤34:=by
  unfold Kb
  rw [Int.one_mul,Int.natAbs_natCast]
  unfold asE
  exact asF (a:=2148) (n:=34) (by decide)
def RL(l:List Nat)(r c i k:Nat) :Int:=cr (fun j=>gz l (j * c+i) * gz l (j * c+k)) r
def tG(l:List Nat)(r c i k:Nat) :Int:=RL l r c i k - (if i=k then Kb else 0)
def gG(l:List Nat)(r c p:Nat) :Int:=tG l r c (p / c) (p % c)
def Jp(l:List Nat)(r c:Nat) :Int:=cr (fun p=>gG l r c p * gG l r c p) (c * c)
theorem UV{l:List Nat}(hw:Wd l)(hf:Fn l){r c i k n:Nat}(hl:l.length=r * c)(hi:i < c)(hk:k < c)(hn:n≤r)(hr:r≤1000) :
    nl (cr (fun j=>gz l (j * c+i) * gz l (j * c+k)) n).natAbs≤67 :=
  Fb (fun j hj=>kO (qI hw hf (by rw [hl];exact Cv (by omega) hi)) (qI hw hf (by rw [hl];exact Cv (by omega) hk))) (by omega)
theorem ar4{l:List Nat}(hw:Wd l)(hf:Fn l){r c i k:Nat}(hl:l.length=r * c)(hi:i < c)(hk:k < c)(hr:r≤1000) :nl (tG l r c i k).natAbs≤68:=by
  refine aoo (a:=67) (UV hw hf hl hi hk (Nat.le_refl _) hr) ?_
  split
  · exact Nat.le_trans anH (by omega)
  · rw [Int.natAbs_zero,eA];omega
theorem aq9{l:List Nat}(hw:Wd l)(hf:Fn l){r c p:Nat}(hl:l.length=r * c)(hp:p < c * c)(hr:r≤1000) :nl (gG l r c p).natAbs≤68:=by
  have hc : 0 < c := by rcases Nat.eq_zero_or_pos c with h | h; · subst h; omega
                        · exact h
  exact ar4 hw hf hl (Nat.div_lt_of_lt_mul hp) (Nat.mod_lt _ hc) hr
theorem anI{l:List Nat}(hw:Wd l)(hf:Fn l){r c n:Nat}(hl:l.length=r * c)(hr:r≤512)(hc:c≤512)(hn:n≤c * c) :nl (cr (fun p=>gG l r c p * gG l r c p) n).natAbs≤137:=by
  have:c * c≤512 * 512:=Nat.mul_le_mul hc hc
  exact Fb (fun p hp=>kO (aq9 hw hf hl (by omega) (by omega)) (aq9 hw hf hl (by omega) (by omega))) (by omega)
theorem anJ{l:List Nat}(hw:Wd l)(hf:Fn l){r c i k:Nat}(hl:l.length=r * c)(hi:i < c)(hk:k < c)(hr:r≤512)(hc:c≤512) :
    ∃ N,dU (i:Int) (k:Int) l.length (l4 (gz l) l.length) (l5 (gz l) l.length) (l6 (gz l) (-1074) l.length) (r:Int) (c:Int) (nS 1) (ax (nM 1) (nl (nM 1))) (nE 1 0)=some (.r0 0 (nS (tG l r c i k)) (ax (nM (tG l r c i k)) N) 0 (nl (nM (tG l r c i k))) (nE (tG l r c i k) (-2148)))∧nl (nM (tG l r c i k))≤N∧N≤4096:=by
  have hb:r * c≤512 * 512:=Nat.mul_le_mul hr hc
  have li:∀ x,x < c→∀ j,j < r→x+j * c < l.length:=fun x hx j hj=>by rw [hl,Nat.add_comm];exact Cv hj hx
  have l1:=JY (g:=gz l) (e:=-1074) (n:=l.length) (from':=i) (far:=c) (many:=r) (li i hi) (by omega) (by omega) (by omega) (by omega)
  have l2:=JY (g:=gz l) (e:=-1074) (n:=l.length) (from':=k) (far:=c) (many:=r) (li k hk) (by omega) (by omega) (by omega) (by omega)
  obtain ⟨D,d1,d2,d3⟩:=Zh (g:=fun j=>gz l (i+j * c)) (h:=fun j=>gz l (k+j * c)) (e:=-1074) (f:=-1074) (n:=r) (k:=66) (fun j hj=>Ek hw hf (li i hi j hj)) (fun j hj=>Ek hw hf (li k hk j hj)) (fun j hj=>kO (qI hw hf (li i hi j hj)) (qI hw hf (li k hk j hj))) (by omega) (by omega) (by omega)
  have ed:cr (fun j=>gz l (i+j * c) * gz l (k+j * c)) r=RL l r c i k:=Mn fun j _=>by rw [Nat.add_comm i,Nat.add_comm k]
  rw [ed] at d1 d2
  have t5:(Az (i:Int) (k:Int) l.length (l4 (gz l) l.length) (l5 (gz l) l.length) (l6 (gz l) (-1074) l.length) (r:Int) (c:Int)).run=some (.inl (0,false,nS (RL l r c i k),ax (nM (RL l r c i k)) D,0,nl (nM (RL l r c i k)),nE (RL l r c i k) (-2148))):=by
    unfold Az
    rw [gF,gH,gI,l1,l2]
    simp only [kV,an,bx,bz,bB]
    rw [gF,gH,gI,gF,gH,gI,d1]
    exact pw (am (pw (am (pw (pw (am rfl))))))
  by_cases hik:i=k
  · have hD:Sm (RL l r c i k) (-2148):=jB (UV hw hf hl hi hk (Nat.le_refl _) (by omega)) (by omega) (by omega)
    have hO:Sm Kb (-2148):=jB anH (by omega) (by omega)
    obtain ⟨E,e1,e2,e3⟩:=ad6 hD hO
    obtain ⟨o1,o2,o3⟩:=aq8
    have et:RL l r c i k - Kb=tG l r c i k:=by unfold tG;rw [if_pos hik]
    rw [et] at e1 e2
    rw [o1,o2,o3]
    refine ⟨E,aY (ak t5 (ak (a:=false) ?_ (ak (a:=(0,nS (tG l r c i k),ax (nM (tG l r c i k)) E,0,nl (nM (tG l r c i k)),nE (tG l r c i k) (-2148))) ?_ rfl))),e2,e3⟩
    · show (AA _ _ _).run=_
      refine aW ?_
      show some (Sum.inl ((i:Int) != (k:Int)))=_
      rw [hik,bne_self_eq_false]
    · show (AB _ _ _ _ _ _ _ _ _ _).run=_
      unfold AB
      rw [bT d2,az,e1]
      exact aW (cH (bv d2) (aT (am rfl)))
  · have et:RL l r c i k=tG l r c i k:=by unfold tG;rw [if_neg hik,Int.sub_zero]
    rw [et] at t5 d2
    refine ⟨D,aY (ak t5 (ak (a:=true) ?_ (bt (bm rfl)))),d2,d3⟩
    show (AA _ _ _).run=_
    refine aW ?_
    show some (Sum.inl ((i:Int) != (k:Int)))=_
    rw [bne_iff_ne.2 (by omega)]
theorem ara{g:Nat→Int}{n:Nat} :List.take n (l4 g n) ++ [nS (g n)]=l4 g (n+1):=Mk
theorem arb{g:Nat→Int}{n:Nat} :List.take n (l5 g n) ++ [ax (nM (g n)) (nl (nM (g n)))]=l5 g (n+1):=Mk
theorem arc{g:Nat→Int}{e:Int}{n:Nat} :List.take n (l6 g e n) ++ [nE (g n) e]=l6 g e (n+1):=Mk
theorem apw{l:List Nat}(hw:Wd l)(hf:Fn l){r c:Nat}(hl:l.length=r * c)(hr:r≤512)(hc:c≤512) :
    ∃ N,bR (c:Int) (c:Int) l.length (l4 (gz l) l.length) (l5 (gz l) l.length) (l6 (gz l) (-1074) l.length) (r:Int) (c:Int) l (nS 1) (ax (nM 1) (nl (nM 1))) (nE 1 0)=some (.r0 0 (nS (Jp l r c)) (ax (nM (Jp l r c)) N) 0 (nl (nM (Jp l r c))) (nE (Jp l r c) (-4296)))∧nl (nM (Jp l r c))≤N∧N≤4096:=by
  have hcc:c * c≤512 * 512:=Nat.mul_le_mul hc hc
  obtain ⟨N,s1,s2,s3⟩:=GQ (g:=gG l r c) (e:=-2148) (n:=c * c) (k:=68) (fun p hp=>aq9 hw hf hl hp (by omega)) (by omega) (by omega) (by omega)
  refine ⟨N,aY (ak (a:=false) rfl (ak (a:=()) rfl (ak (a:=(c * c,c * c,0,c * c,l4 (gG l r c) (c * c),l5 (gG l r c) (c * c),l6 (gG l r c) (-2148) (c * c))) (bO (fun i=>(i * c,i * c,0,i,i * c,l4 (gG l r c) (i * c),l5 (gG l r c) (i * c),l6 (gG l r c) (-2148) (i * c))) c (by rw [Nat.zero_mul];rfl) (fun i hi=>?_) ?_) (ak (a:=(0,nS (Jp l r c),ax (nM (Jp l r c)) N,0,nl (nM (Jp l r c)),nE (Jp l r c) (-4296))) ?_ rfl)))),s2,s3⟩
  · show aE (jt _ _ _ _ _ _ _ _ _).run _=_
    have hnx:(i+1) * c=i * c+c:=by rw [Nat.add_mul,Nat.one_mul]
    have hic:i * c≤512 * 512:=Nat.mul_le_mul (by omega) hc
    refine ak (a:=()) (ck rfl) (ak (a:=((i+1) * c,(i+1) * c,0,(i+1) * c,l4 (gG l r c) ((i+1) * c),l5 (gG l r c) ((i+1) * c),l6 (gG l r c) (-2148) ((i+1) * c))) (zM (ak (a:=()) rfl (ak (a:=(i * c+c,i * c+c,0,i * c+c,l4 (gG l r c) (i * c+c),l5 (gG l r c) (i * c+c),l6 (gG l r c) (-2148) (i * c+c))) (bO (fun k=>(i * c+k,i * c+k,0,k,i * c+k,l4 (gG l r c) (i * c+k),l5 (gG l r c) (i * c+k),l6 (gG l r c) (-2148) (i * c+k))) c rfl (fun k hk=>?_) ?_) (by rw [hnx];rfl)))) (ap rfl))
    · obtain ⟨A,a1,a2,a3⟩:=anJ hw hf hl hi hk hr hc
      obtain ⟨q1,q2⟩:=pq (i:=i) hk
      have eg:tG l r c i k=gG l r c (i * c+k):=by unfold gG;rw [q1,q2]
      rw [eg] at a1 a2
      show aE (fu _ _ _ _ _ _ _ _ _ _ _ _ _ _ _ _ _ _ _ _).run _=_
      refine ak (a:=(i * c+k+1,0,l4 (gG l r c) (i * c+k+1),l5 (gG l r c) (i * c+k+1),l6 (gG l r c) (-2148) (i * c+k+1))) ?_ (ap rfl)
      unfold fu
      rw [gF,gH,gI,az,a1]
      simp only [pS,lu,qn,nG,nH,nI,qo]
      rw [List.drop_zero,Ew a2,ara,arb,arc]
      exact ck (pw (aT (aT (am (aW (ap (ap (am (ap (cH (decide_eq_true (by rw [aq];omega)) rfl))))))))))
    · show aE (fu _ _ _ _ _ _ _ _ _ _ _ _ _ _ _ _ _ _ _ _).run _=_
      exact bt (cx rfl)
  · show aE (jt _ _ _ _ _ _ _ _ _).run _=_
    exact bt (cx rfl)
  · show (jx _ _ _ _ _ _).run=_
    unfold jx
    rw [gF,gH,gI,s1]
    exact aW (pw (am rfl))
theorem apx{r c:Nat}{l:List Nat}(hw:Wd l)(h:Ez r c l.length=true)(hf:Hc l=true) :
    ∃ N,lc (r:Int) (c:Int) l=some (.r0 0 (nS (Jp l r c)) (ax (nM (Jp l r c)) N) 0 (nl (nM (Jp l r c))) (nE (Jp l r c) (-4296)))∧nl (nM (Jp l r c))≤N∧N≤4096:=by
  obtain ⟨h1,h2,h3,h4,h5⟩:=ah3.1 h
  have hr:r≤512:=by omega
  have hc:c≤512:=by omega
  have hl:l.length=r * c:=by rw [← Int.natCast_mul] at h5;exact Int.ofNat_inj.1 h5
  have hb:r * c≤512 * 512:=Nat.mul_le_mul hr hc
  obtain ⟨k,k1,k2⟩:=Ey hw (by omega)
  have hF:=mi.1 hf
  obtain ⟨A,a1,a2,a3⟩:=Jm (n:=1) (by omega)
  obtain ⟨N,n1,n2,n3⟩:=apw hw hF hl hr hc
  refine ⟨N,aY (ak (a:=false) ?_ (ak (a:=(l.length,l4 (gz l) l.length,l5 (gz l) l.length,l6 (gz l) (-1074) l.length)) ?_ (ak (a:=(nS 1,ax (nM 1) A,0,nl (nM 1),nE 1 0)) ?_ (ak (a:=(0,nS (Jp l r c),ax (nM (Jp l r c)) N,0,nl (nM (Jp l r c)),nE (Jp l r c) (-4296))) ?_ rfl)))),n2,n3⟩
  · unfold PD
    rw [az,qu,h,k1]
    exact bm (am (aT (am (aW (am (aW (aW (bm (am (aT (am (cE (by rw [hf] at k2;exact k2) (am (aW rfl))))))))))))))
  · unfold PE
    rw [az,tC hw hF (by omega)]
    exact aT (am rfl)
  · have a1':bD 1=_:=a1
    unfold PF
    rw [a1']
    exact am rfl
  · show (Gp _ _ _ _ _ _ _ _ _ _ _ _).run=_
    have a2':nl (nM 1)≤A:=a2
    unfold Gp
    rw [gF,gH,gI,az,bT a2',n1]
    exact pw (aT (cH (bv a2') (am rfl)))
theorem JZ(j c i:Nat) :((j:Int) * (c:Int))+(i:Int)=((j * c+i:Nat):Int):=by rw [Int.natCast_add,Int.natCast_mul]
theorem J0(j c:Nat) :(j:Int) * (c:Int)=((j * c:Nat):Int):=by rw [Int.natCast_mul]
theorem GR(e:Int) :aD 0=some (.r0 (nS 0) (ax (nM 0) (nl (nM 0))) (nl (nM 0)) (nE 0 e)):=by
  have h:=xL (n:=0) (by omega)
  rw [show ((0:Nat):Int)=0 from rfl,eT] at h
  rw [eT];exact h
theorem apy:aD 1=some (.r0 (nS Kb) (ax (nM Kb) (nl (nM Kb))) (nl (nM Kb)) (nE Kb (-2148))):=by
  have h:=xL (n:=1) (by omega)
  obtain ⟨o1,o2,o3⟩:=aq8
  rw [show ((1:Nat):Int)=1 from rfl,o1,o2,o3] at h
  exact h
def Kc(z e:Int) :Bool×List Int×Nat×Int:=(nS z,ax (nM z) (nl (nM z)),nl (nM z),nE z e)
theorem arH{l:List Nat}(hw:Wd l)(hf:Fn l){r c i k j:Nat}(hl:l.length=r * c)(hi:i < c)(hk:k < c)(hj:j < r)(hr:r≤512)(hc:c≤512) :
    u9 (r:Int) (c:Int) l i k (j,Kc (cr (fun j=>gz l (j * c+i) * gz l (j * c+k)) j) (-2148))=some (.inl (j+1,Kc (cr (fun j=>gz l (j * c+i) * gz l (j * c+k)) (j+1)) (-2148))):=by
  have hb:r * c≤512 * 512:=Nat.mul_le_mul hr hc
  have li:j * c+i < l.length:=by rw [hl];exact Cv hj hi
  have lk:j * c+k < l.length:=by rw [hl];exact Cv hj hk
  have ex:aa (l.getD (j * c+i) 0)=some (.r0 (nS (gz l (j * c+i))) (ax (nM (gz l (j * c+i))) (nl (nM (gz l (j * c+i))))) (nl (nM (gz l (j * c+i)))) (nE (gz l (j * c+i)) (-1074))):=tj (hw _) (hf _ li)
  have ey:aa (l.getD (j * c+k) 0)=some (.r0 (nS (gz l (j * c+k))) (ax (nM (gz l (j * c+k))) (nl (nM (gz l (j * c+k))))) (nl (nM (gz l (j * c+k)))) (nE (gz l (j * c+k)) (-1074))):=tj (hw _) (hf _ lk)
  have t1:=pY (Ek hw hf li) (Ek hw hf lk)
  have hp:Sm (gz l (j * c+i) * gz l (j * c+k)) (-1074 + -1074):=jB (kO (qI hw hf li) (qI hw hf lk)) (by omega) (by omega)
  have hS:Sm (cr (fun j=>gz l (j * c+i) * gz l (j * c+k)) j) (-1074 + -1074):=jB (UV hw hf hl hi hk (Nat.le_of_lt hj) (by omega)) (by omega) (by omega)
  have t2:=Jo hS hp
  show aE (u7 _ _ _ _ _ _ _ _ _ _).run _=_
  refine ak (a:=Kc (cr (fun j=>gz l (j * c+i) * gz l (j * c+k)) (j+1)) (-2148)) ?_ (ap rfl)
  unfold u7
  rw [JZ,JZ,J0,cj,cj,ex,ey]
  simp only [dO,ag,ac,ae,ah]
  rw [bc aq,bc aq,t1]
  simp only [cD,aN,aF,aG,aO]
  have t2':bM (nS (cr (fun j=>gz l (j * c+i) * gz l (j * c+k)) j)) (ax (nM (cr (fun j=>gz l (j * c+i) * gz l (j * c+k)) j)) (nl (nM (cr (fun j=>gz l (j * c+i) * gz l (j * c+k)) j)))) (nE (cr (fun j=>gz l (j * c+i) * gz l (j * c+k)) j) (-2148)) (nS (gz l (j * c+i) * gz l (j * c+k))) (ax (nM (gz l (j * c+i) * gz l (j * c+k))) (nl (nM (gz l (j * c+i) * gz l (j * c+k))))) (nE (gz l (j * c+i) * gz l (j * c+k)) (-1074 + -1074))=_:=t2
  rw [bc aq,bc aq,t2']
  exact ck (ap (ap (ap (ap (am (ap (ap (ap (ap (am (bN (bN (am (bN (bN (am rfl))))))))))))))))
theorem arI{l:List Nat}(hw:Wd l)(hf:Fn l){r c i k:Nat}(hl:l.length=r * c)(hi:i < c)(hk:k < c)(hr:r≤512)(hc:c≤512) :
    va (r:Int) (c:Int) l i (k,Kc (cr (fun p=>gG l r c p * gG l r c p) (i * c+k)) (-4296))=some (.inl (k+1,Kc (cr (fun p=>gG l r c p * gG l r c p) (i * c+(k+1))) (-4296))):=by
  obtain ⟨q1,q2⟩:=pq (i:=i) hk
  have eg:gG l r c (i * c+k)=tG l r c i k:=by unfold gG;rw [q1,q2]
  have hT:nl (tG l r c i k).natAbs≤68:=ar4 hw hf hl hi hk (by omega)
  have hTs:Sm (tG l r c i k) (-2148):=jB hT (by omega) (by omega)
  have hD:Sm (RL l r c i k) (-2148):=jB (UV hw hf hl hi hk (Nat.le_refl _) (by omega)) (by omega) (by omega)
  have hO:Sm Kb (-2148):=jB anH (by omega) (by omega)
  have hp:Sm (tG l r c i k * tG l r c i k) (-2148 + -2148):=jB (kO hT hT) (by omega) (by omega)
  have hlt:i * c+k < c * c:=Cv hi hk
  have hS:Sm (cr (fun p=>gG l r c p * gG l r c p) (i * c+k)) (-2148 + -2148):=jB (anI hw hf hl hr hc (Nat.le_of_lt hlt)) (by omega) (by omega)
  have t1:=pY hTs hTs
  have t2:=Jo hS hp
  have t3:=aed hD hO
  have e1:cr (fun p=>gG l r c p * gG l r c p) (i * c+(k+1))=cr (fun p=>gG l r c p * gG l r c p) (i * c+k)+tG l r c i k * tG l r c i k:=by
    show cr _ (i * c+k+1)=_
    simp only [cr];rw [eg]
  rw [e1]
  show aE (A4 _ _ _ _ _ _).run _=_
  refine ak (a:=()) (ck rfl) (ak (a:=Kc (cr (fun p=>gG l r c p * gG l r c p) (i * c+k)+tG l r c i k * tG l r c i k) (-4296)) (zM (ak (a:=Kc 0 (-2148)) ?_ (ak (a:=()) rfl (ak (a:=Kc (RL l r c i k) (-2148)) (bO (fun j=>(j,Kc (cr (fun j=>gz l (j * c+i) * gz l (j * c+k)) j) (-2148))) r rfl (fun j hj=>arH hw hf hl hi hk hj hr hc) ?_) (ak (a:=Kc (tG l r c i k) (-2148)) ?_ ?_))))) (ap rfl))
  · unfold Jg
    rw [GR (-2148)]
    exact am rfl
  · show aE (u7 _ _ _ _ _ _ _ _ _ _).run _=_
    exact bt (cx rfl)
  · show (A6 _ _ _ _ _ _).run=_
    unfold A6
    by_cases hik:i=k
    · have et:RL l r c i k - Kb=tG l r c i k:=by unfold tG;rw [if_pos hik]
      rw [et] at t3
      rw [apy]
      simp only [ew,cu,ca,cd,cv]
      rw [bc aq,bc aq,t3]
      exact jz (by rw [beq_iff_eq];omega) (am (bN (bN (am rfl))))
    · have et:RL l r c i k=tG l r c i k:=by unfold tG;rw [if_neg hik,Int.sub_zero]
      rw [et]
      exact cE (by rw [beq_eq_false_iff_ne];omega) rfl
  · show (A7 _ _ _ _ _ _ _ _).run=_
    unfold A7
    rw [bc aq,bc aq,t1]
    simp only [cD,aN,aF,aG,aO]
    have t2':bM (nS (cr (fun p=>gG l r c p * gG l r c p) (i * c+k))) (ax (nM (cr (fun p=>gG l r c p * gG l r c p) (i * c+k))) (nl (nM (cr (fun p=>gG l r c p * gG l r c p) (i * c+k))))) (nE (cr (fun p=>gG l r c p * gG l r c p) (i * c+k)) (-4296)) (nS (tG l r c i k * tG l r c i k)) (ax (nM (tG l r c i k * tG l r c i k)) (nl (nM (tG l r c i k * tG l r c i k)))) (nE (tG l r c i k * tG l r c i k) (-2148 + -2148))=_:=t2
    rw [bc aq,t2']
    exact bN (bN (am (bN (bN (am rfl)))))
theorem anK{l:List Nat}(hw:Wd l)(hf:Fn l){r c:Nat}(hl:l.length=r * c)(hr:r≤512)(hc:c≤512) :
    fi (r:Int) (c:Int) l=some (.r0 (nS (Jp l r c)) (ax (nM (Jp l r c)) (nl (nM (Jp l r c)))) (nl (nM (Jp l r c))) (nE (Jp l r c) (-4296))):=by
  refine aY (ak (a:=(false,Kc 0 (-4296))) ?_ (ak (a:=()) rfl (ak (a:=Kc (Jp l r c) (-4296)) (bO (fun i=>(i,Kc (cr (fun p=>gG l r c p * gG l r c p) (i * c)) (-4296))) c (by rw [Nat.zero_mul];rfl) (fun i hi=>?_) ?_) rfl)))
  · unfold Jc
    rw [GR (-4296)]
    exact am rfl
  · show aE (A0 _ _ _ _ _ _).run _=_
    have hnx:(i+1) * c=i * c+c:=by rw [Nat.add_mul,Nat.one_mul]
    refine ak (a:=()) (ck rfl) (ak (a:=Kc (cr (fun p=>gG l r c p * gG l r c p) ((i+1) * c)) (-4296)) (zM (ak (a:=()) rfl (ak (a:=Kc (cr (fun p=>gG l r c p * gG l r c p) (i * c+c)) (-4296)) (bO (fun k=>(k,Kc (cr (fun p=>gG l r c p * gG l r c p) (i * c+k)) (-4296))) c rfl (fun k hk=>arI hw hf hl hi hk hr hc) ?_) (by rw [hnx];rfl)))) (ap rfl))
    show aE (A4 _ _ _ _ _ _).run _=_
    exact bt (cx rfl)
  · show aE (A0 _ _ _ _ _ _).run _=_
    exact bt (cx rfl)
structure J1 (A X Y V:List Nat) (r c d:Nat):Prop where
  hA:A.length=r * c
  hX:X.length=c * d
  hY:Y.length=r * d
  hV:V.length=d
  hr:r≤512
  hc:c≤512
  hd:d≤512
  wA:Wd A
  wX:Wd X
  wY:Wd Y
  wV:Wd V
  fA:Fn A
  fX:Fn X
  fY:Fn Y
  fV:Fn V
def tR(A X Y V:List Nat)(c d i k:Nat) :Int:=cr (fun j=>gz A (i * c+j) * gz X (j * d+k)) c - gz Y (i * d+k) * gz V k
def gR(A X Y V:List Nat)(c d p:Nat) :Int:=tR A X Y V c d (p / d) (p % d)
def Jq(A X Y V:List Nat)(r c d:Nat) :Int:=cr (fun p=>gR A X Y V c d p * gR A X Y V c d p) (r * d)
section
variable {A X Y V : List Nat} {r c d : Nat}
theorem J1.lA(h:J1 A X Y V r c d){i j:Nat}(hi:i < r)(hj:j < c) :i * c+j < A.length:=by rw [h.hA];exact Cv hi hj
theorem J1.lX(h:J1 A X Y V r c d){j k:Nat}(hj:j < c)(hk:k < d) :j * d+k < X.length:=by rw [h.hX];exact Cv hj hk
theorem J1.lY(h:J1 A X Y V r c d){i k:Nat}(hi:i < r)(hk:k < d) :i * d+k < Y.length:=by rw [h.hY];exact Cv hi hk
theorem J1.lV(h:J1 A X Y V r c d){k:Nat}(hk:k < d) :k < V.length:=by rw [h.hV];exact hk
theorem J1.bA(h:J1 A X Y V r c d) :A.length≤262144:=by rw [h.hA];exact Nat.mul_le_mul h.hr h.hc
theorem J1.bX(h:J1 A X Y V r c d) :X.length≤262144:=by rw [h.hX];exact Nat.mul_le_mul h.hc h.hd
theorem J1.bY(h:J1 A X Y V r c d) :Y.length≤262144:=by rw [h.hY];exact Nat.mul_le_mul h.hr h.hd
theorem J1.bV(h:J1 A X Y V r c d) :V.length≤512:=by rw [h.hV];exact h.hd
theorem J1.dot(h:J1 A X Y V r c d){i k n:Nat}(hi:i < r)(hk:k < d)(hn:n≤c) :nl (cr (fun j=>gz A (i * c+j) * gz X (j * d+k)) n).natAbs≤67:=by
  have:=h.hc
  exact Fb (fun j hj=>kO (qI h.wA h.fA (h.lA hi (by omega))) (qI h.wX h.fX (h.lX (by omega) hk))) (by omega)
theorem J1.yv(h:J1 A X Y V r c d){i k:Nat}(hi:i < r)(hk:k < d) :nl (gz Y (i * d+k) * gz V k).natAbs≤66 :=
  kO (qI h.wY h.fY (h.lY hi hk)) (qI h.wV h.fV (h.lV hk))
theorem J1.t(h:J1 A X Y V r c d){i k:Nat}(hi:i < r)(hk:k < d) :nl (tR A X Y V c d i k).natAbs≤68 :=
  aoo (a:=67) (h.dot hi hk (Nat.le_refl _)) (Nat.le_trans (h.yv hi hk) (by omega))
theorem J1.g(h:J1 A X Y V r c d){p:Nat}(hp:p < r * d) :nl (gR A X Y V c d p).natAbs≤68:=by
  have hd:0 < d:=by
    rcases Nat.eq_zero_or_pos d with q | q
    · subst q;omega
    · exact q
  exact h.t (Nat.div_lt_of_lt_mul (by rw [Nat.mul_comm];exact hp)) (Nat.mod_lt _ hd)
theorem J1.s(h:J1 A X Y V r c d){n:Nat}(hn:n≤r * d) :nl (cr (fun p=>gR A X Y V c d p * gR A X Y V c d p) n).natAbs≤137:=by
  have:r * d≤512 * 512:=Nat.mul_le_mul h.hr h.hd
  exact Fb (fun p hp=>kO (h.g (by omega)) (h.g (by omega))) (by omega)
theorem apz(h:J1 A X Y V r c d){i k:Nat}(hi:i < r)(hk:k < d) :
    ∃ N,cC (i:Int) (k:Int) A.length (l4 (gz A) A.length) (l5 (gz A) A.length) (l6 (gz A) (-1074) A.length) (c:Int) X.length (l4 (gz X) X.length) (l5 (gz X) X.length) (l6 (gz X) (-1074) X.length) (d:Int) Y.length (l4 (gz Y) Y.length) (l5 (gz Y) Y.length) (l6 (gz Y) (-1074) Y.length) (d:Int) V.length (l4 (gz V) V.length) (l5 (gz V) V.length) (l6 (gz V) (-1074) V.length)
      = some (.r0 0 (nS (tR A X Y V c d i k)) (ax (nM (tR A X Y V c d i k)) N) 0 (nl (nM (tR A X Y V c d i k))) (nE (tR A X Y V c d i k) (-2148)))∧nl (nM (tR A X Y V c d i k))≤N∧N≤4096:=by
  have hr:=h.hr
  have hc:=h.hc
  have hd:=h.hd
  have bA:=h.bA
  have bX:=h.bX
  have bY:=h.bY
  have bV:=h.bV
  have hic:i * c≤512 * 512:=Nat.mul_le_mul (by omega) hc
  have hid:i * d≤512 * 512:=Nat.mul_le_mul (by omega) hd
  have lA:∀ j,j < c→i * c+j * 1 < A.length:=fun j hj=>by rw [Nat.mul_one];exact h.lA hi hj
  have lX:∀ j,j < c→k+j * d < X.length:=fun j hj=>by rw [Nat.add_comm];exact h.lX hj hk
  have l1:=JY (g:=gz A) (e:=-1074) (n:=A.length) (from':=i * c) (far:=1) (many:=c) lA (by omega) (by omega) (by omega) (by omega)
  have l2:=JY (g:=gz X) (e:=-1074) (n:=X.length) (from':=k) (far:=d) (many:=c) lX (by omega) (by omega) (by omega) (by omega)
  obtain ⟨D,d1,d2,d3⟩:=Zh (g:=fun j=>gz A (i * c+j * 1)) (h:=fun j=>gz X (k+j * d)) (e:=-1074) (f:=-1074) (n:=c) (k:=66) (fun j hj=>Ek h.wA h.fA (lA j hj)) (fun j hj=>Ek h.wX h.fX (lX j hj)) (fun j hj=>kO (qI h.wA h.fA (lA j hj)) (qI h.wX h.fX (lX j hj))) (by omega) (by omega) (by omega)
  have ed:cr (fun j=>gz A (i * c+j * 1) * gz X (k+j * d)) c=cr (fun j=>gz A (i * c+j) * gz X (j * d+k)) c:=Mn fun j _=>by rw [Nat.mul_one,Nat.add_comm k]
  rw [ed] at d1 d2
  have ly:=h.lY hi hk
  have lv:=h.lV hk
  obtain ⟨E,e1,e2,e3⟩:=JW (Ek h.wY h.fY ly) (Ek h.wV h.fV lv)
  have hD:Sm (cr (fun j=>gz A (i * c+j) * gz X (j * d+k)) c) (-1074 + -1074):=jB (h.dot hi hk (Nat.le_refl _)) (by omega) (by omega)
  have hP:Sm (gz Y (i * d+k) * gz V k) (-1074 + -1074):=jB (h.yv hi hk) (by omega) (by omega)
  obtain ⟨F,f1,f2,f3⟩:=ad6 hD hP
  refine ⟨F,aY (ak (a:=(0,false,nS (cr (fun j=>gz A (i * c+j) * gz X (j * d+k)) c),ax (nM (cr (fun j=>gz A (i * c+j) * gz X (j * d+k)) c)) D,0,nl (nM (cr (fun j=>gz A (i * c+j) * gz X (j * d+k)) c)),nE (cr (fun j=>gz A (i * c+j) * gz X (j * d+k)) c) (-1074 + -1074))) ?_ (ak (a:=(0,nS (gz Y (i * d+k) * gz V k),ax (nM (gz Y (i * d+k) * gz V k)) E,0,nl (nM (gz Y (i * d+k) * gz V k)),nE (gz Y (i * d+k) * gz V k) (-1074 + -1074))) ?_ (ak (a:=(0,nS (tR A X Y V c d i k),ax (nM (tR A X Y V c d i k)) F,0,nl (nM (tR A X Y V c d i k)),nE (tR A X Y V c d i k) (-2148))) ?_ rfl))),f2,f3⟩
  · unfold AJ
    have l1':aj A.length (l4 (gz A) A.length) (l5 (gz A) A.length) (l6 (gz A) (-1074) A.length) ((i * c:Nat):Int) 1 (c:Int)=_:=l1
    rw [J0,gF,gH,gI,gF,gH,gI,l1',l2]
    simp only [kV,an,bx,bz,bB]
    rw [gF,gH,gI,gF,gH,gI,d1]
    exact cH (by rw [cy];omega) (pw (am (pw (am (pw (pw (am rfl)))))))
  · show (sS _ _ _ _ _ _ _ _ _ _ _ _).run=_
    have e1':aB (nS (gz Y (i * d+k))) (VQ (gz Y (i * d+k))) (nE (gz Y (i * d+k)) (-1074)) (nS (gz V k)) (VQ (gz V k)) (nE (gz V k) (-1074))=_:=e1
    unfold sS
    rw [JZ,J0,cj,cj,Eh,Ei,Ej,Eh,Ei,Ej,Og ly,Oh ly,Oi ly,Og lv,Oh lv,Oi lv,az,az,e1']
    exact aW (cH (by rw [cy];omega) (cH (by rw [cy];omega) (ap (ap (ap (ap (ap (ap (ap (ap (aT (aT (am rfl)))))))))))))
  · show (sT _ _ _ _ _ _ _ _ _ _ _).run=_
    unfold sT
    rw [bT d2,bT e2,f1]
    exact aW (cH (bv d2) (cH (bv e2) (am rfl)))
theorem apA(h:J1 A X Y V r c d) :
    ∃ N,bG (r:Int) (d:Int) A.length (l4 (gz A) A.length) (l5 (gz A) A.length) (l6 (gz A) (-1074) A.length) (c:Int) A X.length (l4 (gz X) X.length) (l5 (gz X) X.length) (l6 (gz X) (-1074) X.length) (d:Int) X Y.length (l4 (gz Y) Y.length) (l5 (gz Y) Y.length) (l6 (gz Y) (-1074) Y.length) (d:Int) Y V.length (l4 (gz V) V.length) (l5 (gz V) V.length) (l6 (gz V) (-1074) V.length)
      = some (.r0 0 (nS (Jq A X Y V r c d)) (ax (nM (Jq A X Y V r c d)) N) 0 (nl (nM (Jq A X Y V r c d))) (nE (Jq A X Y V r c d) (-4296)))∧nl (nM (Jq A X Y V r c d))≤N∧N≤4096:=by
  have hr:=h.hr
  have hc:=h.hc
  have hd:=h.hd
  have hrd:r * d≤512 * 512:=Nat.mul_le_mul hr hd
  obtain ⟨N,s1,s2,s3⟩:=GQ (g:=gR A X Y V c d) (e:=-2148) (n:=r * d) (k:=68) (fun p hp=>h.g hp) (by omega) (by omega) (by omega)
  refine ⟨N,aY (ak (a:=false) rfl (ak (a:=()) rfl (ak (a:=(r * d,r * d,0,r * d,l4 (gR A X Y V c d) (r * d),l5 (gR A X Y V c d) (r * d),l6 (gR A X Y V c d) (-2148) (r * d))) (bO (fun i=>(i * d,i * d,0,i,i * d,l4 (gR A X Y V c d) (i * d),l5 (gR A X Y V c d) (i * d),l6 (gR A X Y V c d) (-2148) (i * d))) r (by rw [Nat.zero_mul];rfl) (fun i hi=>?_) ?_) (ak (a:=(0,nS (Jq A X Y V r c d),ax (nM (Jq A X Y V r c d)) N,0,nl (nM (Jq A X Y V r c d)),nE (Jq A X Y V r c d) (-4296))) ?_ rfl)))),s2,s3⟩
  · show aE (gS _ _ _ _ _ _ _ _ _).run _=_
    have hnx:(i+1) * d=i * d+d:=by rw [Nat.add_mul,Nat.one_mul]
    have hic:i * d≤512 * 512:=Nat.mul_le_mul (by omega) hd
    refine ak (a:=()) (ck rfl) (ak (a:=((i+1) * d,(i+1) * d,0,(i+1) * d,l4 (gR A X Y V c d) ((i+1) * d),l5 (gR A X Y V c d) ((i+1) * d),l6 (gR A X Y V c d) (-2148) ((i+1) * d))) (zM (ak (a:=()) rfl (ak (a:=(i * d+d,i * d+d,0,i * d+d,l4 (gR A X Y V c d) (i * d+d),l5 (gR A X Y V c d) (i * d+d),l6 (gR A X Y V c d) (-2148) (i * d+d))) (bO (fun k=>(i * d+k,i * d+k,0,k,i * d+k,l4 (gR A X Y V c d) (i * d+k),l5 (gR A X Y V c d) (i * d+k),l6 (gR A X Y V c d) (-2148) (i * d+k))) d rfl (fun k hk=>?_) ?_) (by rw [hnx];rfl)))) (ap rfl))
    · obtain ⟨a,a1,a2,a3⟩:=apz h hi hk
      obtain ⟨q1,q2⟩:=pq (i:=i) hk
      have eg:tR A X Y V c d i k=gR A X Y V c d (i * d+k):=by unfold gR;rw [q1,q2]
      rw [eg] at a1 a2
      show aE (eC _ _ _ _ _ _ _ _ _ _ _ _ _ _ _ _ _ _ _ _ _ _ _ _ _ _ _ _ _ _ _ _).run _=_
      refine ak (a:=(i * d+k+1,0,l4 (gR A X Y V c d) (i * d+k+1),l5 (gR A X Y V c d) (i * d+k+1),l6 (gR A X Y V c d) (-2148) (i * d+k+1))) ?_ (ap rfl)
      unfold eC
      rw [gF,gH,gI,gF,gH,gI,gF,gH,gI,gF,gH,gI,a1]
      simp only [lI,iE,mL,kg,kh,ki,mM]
      rw [List.drop_zero,Ew a2,ara,arb,arc]
      exact ck (pw (aT (pw (aT (pw (aT (pw (am (aW (ap (ap (am (ap (cH (decide_eq_true (by rw [aq];omega)) rfl))))))))))))))
    · show aE (eC _ _ _ _ _ _ _ _ _ _ _ _ _ _ _ _ _ _ _ _ _ _ _ _ _ _ _ _ _ _ _ _).run _=_
      exact bt (cx rfl)
  · show aE (gS _ _ _ _ _ _ _ _ _).run _=_
    exact bt (cx rfl)
  · show (gW _ _ _ _ _ _).run=_
    unfold gW
    rw [gF,gH,gI,s1]
    exact aW (pw (am rfl))
theorem asG(h:J1 A X Y V r c d){i k j:Nat}(hi:i < r)(hk:k < d)(hj:j < c) :
    oq (c:Int) A (d:Int) X i k (j,Kc (cr (fun j=>gz A (i * c+j) * gz X (j * d+k)) j) (-2148))=some (.inl (j+1,Kc (cr (fun j=>gz A (i * c+j) * gz X (j * d+k)) (j+1)) (-2148))):=by
  have hr:=h.hr
  have hc:=h.hc
  have hd:=h.hd
  have bA:=h.bA
  have bX:=h.bX
  have li:=h.lA hi hj
  have lk:=h.lX hj hk
  have ex:aa (A.getD (i * c+j) 0)=some (.r0 (nS (gz A (i * c+j))) (ax (nM (gz A (i * c+j))) (nl (nM (gz A (i * c+j))))) (nl (nM (gz A (i * c+j)))) (nE (gz A (i * c+j)) (-1074))):=tj (h.wA _) (h.fA _ li)
  have ey:aa (X.getD (j * d+k) 0)=some (.r0 (nS (gz X (j * d+k))) (ax (nM (gz X (j * d+k))) (nl (nM (gz X (j * d+k))))) (nl (nM (gz X (j * d+k)))) (nE (gz X (j * d+k)) (-1074))):=tj (h.wX _) (h.fX _ lk)
  have t1:=pY (Ek h.wA h.fA li) (Ek h.wX h.fX lk)
  have hp:Sm (gz A (i * c+j) * gz X (j * d+k)) (-1074 + -1074):=jB (kO (qI h.wA h.fA li) (qI h.wX h.fX lk)) (by omega) (by omega)
  have hS:Sm (cr (fun j=>gz A (i * c+j) * gz X (j * d+k)) j) (-1074 + -1074):=jB (h.dot hi hk (Nat.le_of_lt hj)) (by omega) (by omega)
  have t2:=Jo hS hp
  show aE (oo _ _ _ _ _ _ _ _ _ _ _).run _=_
  refine ak (a:=Kc (cr (fun j=>gz A (i * c+j) * gz X (j * d+k)) (j+1)) (-2148)) ?_ (ap rfl)
  unfold oo
  rw [JZ,JZ,J0,J0,cj,cj,ex,ey]
  simp only [dO,ag,ac,ae,ah]
  rw [bc aq,bc aq,t1]
  simp only [cD,aN,aF,aG,aO]
  have t2':bM (nS (cr (fun j=>gz A (i * c+j) * gz X (j * d+k)) j)) (ax (nM (cr (fun j=>gz A (i * c+j) * gz X (j * d+k)) j)) (nl (nM (cr (fun j=>gz A (i * c+j) * gz X (j * d+k)) j)))) (nE (cr (fun j=>gz A (i * c+j) * gz X (j * d+k)) j) (-2148)) (nS (gz A (i * c+j) * gz X (j * d+k))) (ax (nM (gz A (i * c+j) * gz X (j * d+k))) (nl (nM (gz A (i * c+j) * gz X (j * d+k))))) (nE (gz A (i * c+j) * gz X (j * d+k)) (-1074 + -1074))=_:=t2
  rw [bc aq,bc aq,t2']
  exact ck (ap (ap (ap (ap (am (ap (ap (ap (ap (am (bN (bN (am (bN (bN (am rfl))))))))))))))))
theorem asH(h:J1 A X Y V r c d){i k:Nat}(hi:i < r)(hk:k < d) :
    ot (c:Int) A (d:Int) X (d:Int) Y V i (k,Kc (cr (fun p=>gR A X Y V c d p * gR A X Y V c d p) (i * d+k)) (-4296))=some (.inl (k+1,Kc (cr (fun p=>gR A X Y V c d p * gR A X Y V c d p) (i * d+(k+1))) (-4296))):=by
  have hr:=h.hr
  have hc:=h.hc
  have hd:=h.hd
  have bY:=h.bY
  have bV:=h.bV
  obtain ⟨q1,q2⟩:=pq (i:=i) hk
  have eg:gR A X Y V c d (i * d+k)=tR A X Y V c d i k:=by unfold gR;rw [q1,q2]
  have hT:=h.t hi hk
  have hTs:Sm (tR A X Y V c d i k) (-2148):=jB hT (by omega) (by omega)
  have hD:Sm (cr (fun j=>gz A (i * c+j) * gz X (j * d+k)) c) (-1074 + -1074):=jB (h.dot hi hk (Nat.le_refl _)) (by omega) (by omega)
  have hP:Sm (gz Y (i * d+k) * gz V k) (-1074 + -1074):=jB (h.yv hi hk) (by omega) (by omega)
  have hp:Sm (tR A X Y V c d i k * tR A X Y V c d i k) (-2148 + -2148):=jB (kO hT hT) (by omega) (by omega)
  have hlt:i * d+k < r * d:=Cv hi hk
  have hS:Sm (cr (fun p=>gR A X Y V c d p * gR A X Y V c d p) (i * d+k)) (-2148 + -2148):=jB (h.s (Nat.le_of_lt hlt)) (by omega) (by omega)
  have ly:=h.lY hi hk
  have lv:=h.lV hk
  have ex:aa (Y.getD (i * d+k) 0)=some (.r0 (nS (gz Y (i * d+k))) (ax (nM (gz Y (i * d+k))) (nl (nM (gz Y (i * d+k))))) (nl (nM (gz Y (i * d+k)))) (nE (gz Y (i * d+k)) (-1074))):=tj (h.wY _) (h.fY _ ly)
  have ey:aa (V.getD k 0)=some (.r0 (nS (gz V k)) (ax (nM (gz V k)) (nl (nM (gz V k)))) (nl (nM (gz V k))) (nE (gz V k) (-1074))):=tj (h.wV _) (h.fV _ lv)
  have t0:=pY (Ek h.wY h.fY ly) (Ek h.wV h.fV lv)
  have t1:=pY hTs hTs
  have t2:=Jo hS hp
  have t3:=aed hD hP
  have e1:cr (fun p=>gR A X Y V c d p * gR A X Y V c d p) (i * d+(k+1))=cr (fun p=>gR A X Y V c d p * gR A X Y V c d p) (i * d+k)+tR A X Y V c d i k * tR A X Y V c d i k:=by
    show cr _ (i * d+k+1)=_
    simp only [cr];rw [eg]
  rw [e1]
  show aE (te _ _ _ _ _ _).run _=_
  refine ak (a:=()) (ck rfl) (ak (a:=Kc (cr (fun p=>gR A X Y V c d p * gR A X Y V c d p) (i * d+k)+tR A X Y V c d i k * tR A X Y V c d i k) (-4296)) (zM (ak (a:=Kc 0 (-2148)) ?_ (ak (a:=()) rfl (ak (a:=Kc (cr (fun j=>gz A (i * c+j) * gz X (j * d+k)) c) (-2148)) (bO (fun j=>(j,Kc (cr (fun j=>gz A (i * c+j) * gz X (j * d+k)) j) (-2148))) c rfl (fun j hj=>asG h hi hk hj) ?_) (ak (a:=Kc (tR A X Y V c d i k) (-2148)) ?_ ?_))))) (ap rfl))
  · unfold Be
    rw [GR (-2148)]
    exact am rfl
  · show aE (oo _ _ _ _ _ _ _ _ _ _ _).run _=_
    exact bt (cx rfl)
  · show (tg _ _ _ _ _ _ _ _ _).run=_
    unfold tg
    rw [JZ,J0,cj,ex,ey]
    simp only [dO,ag,ac,ae,ah]
    rw [bc aq,bc aq,t0]
    simp only [cD,aN,aF,aG,aO]
    have t3':fh (nS (cr (fun j=>gz A (i * c+j) * gz X (j * d+k)) c)) (ax (nM (cr (fun j=>gz A (i * c+j) * gz X (j * d+k)) c)) (nl (nM (cr (fun j=>gz A (i * c+j) * gz X (j * d+k)) c)))) (nE (cr (fun j=>gz A (i * c+j) * gz X (j * d+k)) c) (-2148)) (nS (gz Y (i * d+k) * gz V k)) (ax (nM (gz Y (i * d+k) * gz V k)) (nl (nM (gz Y (i * d+k) * gz V k)))) (nE (gz Y (i * d+k) * gz V k) (-1074 + -1074))=_:=t3
    rw [bc aq,bc aq,t3']
    exact ap (ap (ap (ap (am (ap (ap (am (bN (bN (am (bN (bN (am rfl)))))))))))))
  · show (th _ _ _ _ _ _ _ _).run=_
    unfold th
    rw [bc aq,bc aq,t1]
    simp only [cD,aN,aF,aG,aO]
    have t2':bM (nS (cr (fun p=>gR A X Y V c d p * gR A X Y V c d p) (i * d+k))) (ax (nM (cr (fun p=>gR A X Y V c d p * gR A X Y V c d p) (i * d+k))) (nl (nM (cr (fun p=>gR A X Y V c d p * gR A X Y V c d p) (i * d+k))))) (nE (cr (fun p=>gR A X Y V c d p * gR A X Y V c d p) (i * d+k)) (-4296)) (nS (tR A X Y V c d i k * tR A X Y V c d i k)) (ax (nM (tR A X Y V c d i k * tR A X Y V c d i k)) (nl (nM (tR A X Y V c d i k * tR A X Y V c d i k)))) (nE (tR A X Y V c d i k * tR A X Y V c d i k) (-2148 + -2148))=_:=t2
    rw [bc aq,t2']
    exact bN (bN (am (bN (bN (am rfl)))))
theorem apB(h:J1 A X Y V r c d) :
    c5 (c:Int) A (d:Int) X (r:Int) (d:Int) Y V=some (.r0 (nS (Jq A X Y V r c d)) (ax (nM (Jq A X Y V r c d)) (nl (nM (Jq A X Y V r c d)))) (nl (nM (Jq A X Y V r c d))) (nE (Jq A X Y V r c d) (-4296))):=by
  have hr:=h.hr
  have hd:=h.hd
  refine aY (ak (a:=(false,Kc 0 (-4296))) ?_ (ak (a:=()) rfl (ak (a:=Kc (Jq A X Y V r c d) (-4296)) (bO (fun i=>(i,Kc (cr (fun p=>gR A X Y V c d p * gR A X Y V c d p) (i * d)) (-4296))) r (by rw [Nat.zero_mul];rfl) (fun i hi=>?_) ?_) rfl)))
  · unfold Ba
    rw [GR (-4296)]
    exact am rfl
  · show aE (s9 _ _ _ _ _ _).run _=_
    have hnx:(i+1) * d=i * d+d:=by rw [Nat.add_mul,Nat.one_mul]
    refine ak (a:=()) (ck rfl) (ak (a:=Kc (cr (fun p=>gR A X Y V c d p * gR A X Y V c d p) ((i+1) * d)) (-4296)) (zM (ak (a:=()) rfl (ak (a:=Kc (cr (fun p=>gR A X Y V c d p * gR A X Y V c d p) (i * d+d)) (-4296)) (bO (fun k=>(k,Kc (cr (fun p=>gR A X Y V c d p * gR A X Y V c d p) (i * d+k)) (-4296))) d rfl (fun k hk=>asH h hi hk) ?_) (by rw [hnx];rfl)))) (ap rfl))
    show aE (te _ _ _ _ _ _).run _=_
    exact bt (cx rfl)
  · show aE (s9 _ _ _ _ _ _).run _=_
    exact bt (cx rfl)
end
end Go.Plb.Seat
