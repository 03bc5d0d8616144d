/-
  Part 5 of what the claim leans on: an evaluator of the model, proved sound; the contracts of the functions.
-/
import Derived.Test.YthikcnkmglbbbaaGreatDoorA4
namespace Go.Plb.Seat
open Go Go.Plb
set_option linter.unusedVariables false
set_option maxRecDepth 100000
noncomputable section
inductive bv where
  | r0 (a:Bool) (b:List Int) (c:Nat) (d:Int)
def mp:bv→AE×aQ
  | .r0 a b c d=>(.ret,⟨an 84 [(8,.ptr 0 1 0 0)],[(0,.vs [.bool false a,.imm .free (.ns .u64 b) 1 1 0 c,.int .i64 d])],1⟩)
theorem ca:jJ mp:=by intro x;cases x<;>(intro h;cases h)
theorem n4(id:Nat) :mP id mp:=by intro x;cases x<;>(intro h;cases h)
def ya:bv→gM
  | .r0 a b c d=>⟨.agg [.bool false a,.imm .free (.ns .u64 b) 1 1 0 c,.int .i64 d],[]⟩
def Pp:List Code:=cN (oa rr)
def SC(e:Int)(f:Int)(g:Lv)(a:List Nat)(h:Int)(i:Int)(j:Lv)(b:List Nat)(k:Int)(l:Int)(m:Lv)(c:List Nat)(n:Lv)(d:List Nat) :Bool×Bool×(List Int)×Nat×Int→aQ:=fun (o,p,q,r,s)=>⟨an 84 [(3,.imm n (.fl d) 1 1 0 (List.length d)),(4,.ptr 0 1 0 0),(5,.ptr 1 1 0 0),(6,.ptr 2 1 0 0),(8,.ptr 3 1 0 0),(9,.ptr 4 1 0 0)],[(0,.vs [.int .i64 e,.int .i64 f,.imm g (.fl a) 1 1 0 (List.length a)]),(1,.vs [.int .i64 h,.int .i64 i,.imm j (.fl b) 1 1 0 (List.length b)]),(2,.vs [.int .i64 k,.int .i64 l,.imm m (.fl c) 1 1 0 (List.length c)]),(3,.vs [.bool false o,.nsl,.int .i64 (0:Int)]),(4,.vs [.bool false p,.imm .free (.ns .u64 q) 1 1 0 r,.int .i64 s])],5⟩
def CH:T ((Bool×Bool×(List Int)×Nat×Int)⊕(bv)) :=
  .need (eR (aF (0:Int)))<|.leaf (.inl (false,(cJ (aF (0:Int))),(co (aF (0:Int))),(cp (aF (0:Int))),(cK (aF (0:Int)))))
def SD(e:Int)(f:Int)(g:Lv)(a:List Nat)(h:Int)(i:Int)(j:Lv)(b:List Nat)(k:Int)(l:Int)(m:Lv)(c:List Nat)(n:Lv)(d:List Nat)(o:Bool)(p:Bool)(q:List Int)(r:Nat)(s:Int)(_:Unit) :aQ:=⟨an 84 [(3,.imm n (.fl d) 1 1 0 (List.length d)),(4,.ptr 0 1 0 0),(5,.ptr 1 1 0 0),(6,.ptr 2 1 0 0),(8,.ptr 3 1 0 0),(9,.ptr 4 1 0 0),(10,.int .i64 (0:Int))],[(0,.vs [.int .i64 e,.int .i64 f,.imm g (.fl a) 1 1 0 (List.length a)]),(1,.vs [.int .i64 h,.int .i64 i,.imm j (.fl b) 1 1 0 (List.length b)]),(2,.vs [.int .i64 k,.int .i64 l,.imm m (.fl c) 1 1 0 (List.length c)]),(3,.vs [.bool false o,.nsl,.int .i64 (0:Int)]),(4,.vs [.bool false p,.imm .free (.ns .u64 q) 1 1 0 r,.int .i64 s])],5⟩
def Pq:T ((Unit)⊕(bv)) :=
  .leaf (.inl ())
def uC(e:Int)(f:Int)(g:Lv)(a:List Nat)(h:Int)(i:Int)(j:Lv)(b:List Nat)(k:Int)(l:Int)(m:Lv)(c:List Nat)(n:Lv)(d:List Nat)(o:Bool) :Nat×Bool×(List Int)×Nat×Int→aQ:=fun (p,q,r,s,t)=>⟨an 84 [(3,.imm n (.fl d) 1 1 0 (List.length d)),(4,.ptr 0 1 0 0),(5,.ptr 1 1 0 0),(6,.ptr 2 1 0 0),(8,.ptr 3 1 0 0),(9,.ptr 4 1 0 0),(10,.int .i64 ((p:Nat):Int))],[(0,.vs [.int .i64 e,.int .i64 f,.imm g (.fl a) 1 1 0 (List.length a)]),(1,.vs [.int .i64 h,.int .i64 i,.imm j (.fl b) 1 1 0 (List.length b)]),(2,.vs [.int .i64 k,.int .i64 l,.imm m (.fl c) 1 1 0 (List.length c)]),(3,.vs [.bool false o,.nsl,.int .i64 (0:Int)]),(4,.vs [.bool false q,.imm .free (.ns .u64 r) 1 1 0 s,.int .i64 t])],5⟩
def pm(a:Bool) :Bool×(List Int)×Nat×Int→aQ:=fun (b,c,d,e)=>⟨an 84 [(8,.ptr 0 1 0 0),(9,.ptr 1 1 0 0)],[(0,.vs [.bool false a,.nsl,.int .i64 (0:Int)]),(1,.vs [.bool false b,.imm .free (.ns .u64 c) 1 1 0 d,.int .i64 e])],2⟩
def CI:List Code:=cN (dn (((((Pp.drop 2).drop 1).take 1)).headD .skip))
def Pr(e:Int)(f:Int)(g:Lv)(a:List Nat)(h:Int)(i:Int)(j:Lv)(b:List Nat)(k:Int)(l:Int)(m:Lv)(c:List Nat)(n:Lv)(d:List Nat)(o:Bool)(p:Nat)(q:Bool)(r:List Int)(s:Nat)(t:Int)(_:Unit) :aQ:=⟨an 84 [(3,.imm n (.fl d) 1 1 0 (List.length d)),(4,.ptr 0 1 0 0),(5,.ptr 1 1 0 0),(6,.ptr 2 1 0 0),(8,.ptr 3 1 0 0),(9,.ptr 4 1 0 0),(10,.int .i64 ((p:Nat):Int))],[(0,.vs [.int .i64 e,.int .i64 f,.imm g (.fl a) 1 1 0 (List.length a)]),(1,.vs [.int .i64 h,.int .i64 i,.imm j (.fl b) 1 1 0 (List.length b)]),(2,.vs [.int .i64 k,.int .i64 l,.imm m (.fl c) 1 1 0 (List.length c)]),(3,.vs [.bool false o,.nsl,.int .i64 (0:Int)]),(4,.vs [.bool false q,.imm .free (.ns .u64 r) 1 1 0 s,.int .i64 t])],5⟩
def uD(a:Int)(b:Nat)(c:Bool)(d:List Int)(e:Nat)(f:Int) :T ((Unit)⊕((Bool×(List Int)×Nat×Int)⊕(bv))) :=
  .ask (decide (((b:Nat):Int)<a))
    (.leaf (.inl ()))
    (.leaf (.inr (.inl (c,d,e,f))))
def uE(e:Int)(f:Int)(g:Lv)(a:List Nat)(h:Int)(i:Int)(j:Lv)(b:List Nat)(k:Int)(l:Int)(m:Lv)(c:List Nat)(n:Lv)(d:List Nat)(o:Bool)(p:Nat) :Bool×(List Int)×Nat×Int→aQ:=fun (q,r,s,t)=>⟨an 84 [(3,.imm n (.fl d) 1 1 0 (List.length d)),(4,.ptr 0 1 0 0),(5,.ptr 1 1 0 0),(6,.ptr 2 1 0 0),(8,.ptr 3 1 0 0),(9,.ptr 4 1 0 0),(10,.int .i64 ((p:Nat):Int))],[(0,.vs [.int .i64 e,.int .i64 f,.imm g (.fl a) 1 1 0 (List.length a)]),(1,.vs [.int .i64 h,.int .i64 i,.imm j (.fl b) 1 1 0 (List.length b)]),(2,.vs [.int .i64 k,.int .i64 l,.imm m (.fl c) 1 1 0 (List.length c)]),(3,.vs [.bool false o,.nsl,.int .i64 (0:Int)]),(4,.vs [.bool false q,.imm .free (.ns .u64 r) 1 1 0 s,.int .i64 t])],5⟩
def Ps:List Code:=cN (inBlock ((((CI.drop 2).take 1)).headD .skip))
def Pt(e:Int)(f:Int)(g:Lv)(a:List Nat)(h:Int)(i:Int)(j:Lv)(b:List Nat)(k:Int)(l:Int)(m:Lv)(c:List Nat)(n:Lv)(d:List Nat)(o:Bool)(p:Nat)(q:Bool)(r:List Int)(s:Nat)(t:Int)(_:Unit) :aQ:=⟨an 84 [(3,.imm n (.fl d) 1 1 0 (List.length d)),(4,.ptr 0 1 0 0),(5,.ptr 1 1 0 0),(6,.ptr 2 1 0 0),(8,.ptr 3 1 0 0),(9,.ptr 4 1 0 0),(10,.int .i64 ((p:Nat):Int)),(11,.int .i64 (0:Int))],[(0,.vs [.int .i64 e,.int .i64 f,.imm g (.fl a) 1 1 0 (List.length a)]),(1,.vs [.int .i64 h,.int .i64 i,.imm j (.fl b) 1 1 0 (List.length b)]),(2,.vs [.int .i64 k,.int .i64 l,.imm m (.fl c) 1 1 0 (List.length c)]),(3,.vs [.bool false o,.nsl,.int .i64 (0:Int)]),(4,.vs [.bool false q,.imm .free (.ns .u64 r) 1 1 0 s,.int .i64 t])],5⟩
def Pu:T ((Unit)⊕((Bool×(List Int)×Nat×Int)⊕((Bool×(List Int)×Nat×Int)⊕(bv)))) :=
  .leaf (.inl ())
def uF(e:Int)(f:Int)(g:Lv)(a:List Nat)(h:Int)(i:Int)(j:Lv)(b:List Nat)(k:Int)(l:Int)(m:Lv)(c:List Nat)(n:Lv)(d:List Nat)(o:Bool)(p:Nat) :Nat×Bool×(List Int)×Nat×Int→aQ:=fun (q,r,s,t,u)=>⟨an 84 [(3,.imm n (.fl d) 1 1 0 (List.length d)),(4,.ptr 0 1 0 0),(5,.ptr 1 1 0 0),(6,.ptr 2 1 0 0),(8,.ptr 3 1 0 0),(9,.ptr 4 1 0 0),(10,.int .i64 ((p:Nat):Int)),(11,.int .i64 ((q:Nat):Int))],[(0,.vs [.int .i64 e,.int .i64 f,.imm g (.fl a) 1 1 0 (List.length a)]),(1,.vs [.int .i64 h,.int .i64 i,.imm j (.fl b) 1 1 0 (List.length b)]),(2,.vs [.int .i64 k,.int .i64 l,.imm m (.fl c) 1 1 0 (List.length c)]),(3,.vs [.bool false o,.nsl,.int .i64 (0:Int)]),(4,.vs [.bool false r,.imm .free (.ns .u64 s) 1 1 0 t,.int .i64 u])],5⟩
def uG(e:Int)(f:Int)(g:Lv)(a:List Nat)(h:Int)(i:Int)(j:Lv)(b:List Nat)(k:Int)(l:Int)(m:Lv)(c:List Nat)(n:Lv)(d:List Nat)(o:Bool)(p:Nat) :Bool×(List Int)×Nat×Int→aQ:=fun (q,r,s,t)=>⟨an 84 [(3,.imm n (.fl d) 1 1 0 (List.length d)),(4,.ptr 0 1 0 0),(5,.ptr 1 1 0 0),(6,.ptr 2 1 0 0),(8,.ptr 3 1 0 0),(9,.ptr 4 1 0 0),(10,.int .i64 ((p:Nat):Int))],[(0,.vs [.int .i64 e,.int .i64 f,.imm g (.fl a) 1 1 0 (List.length a)]),(1,.vs [.int .i64 h,.int .i64 i,.imm j (.fl b) 1 1 0 (List.length b)]),(2,.vs [.int .i64 k,.int .i64 l,.imm m (.fl c) 1 1 0 (List.length c)]),(3,.vs [.bool false o,.nsl,.int .i64 (0:Int)]),(4,.vs [.bool false q,.imm .free (.ns .u64 r) 1 1 0 s,.int .i64 t])],5⟩
def CJ:List Code:=cN (dn ((((Ps.drop 1).take 1)).headD .skip))
def Pv(e:Int)(f:Int)(g:Lv)(a:List Nat)(h:Int)(i:Int)(j:Lv)(b:List Nat)(k:Int)(l:Int)(m:Lv)(c:List Nat)(n:Lv)(d:List Nat)(o:Bool)(p:Nat)(q:Nat)(r:Bool)(s:List Int)(t:Nat)(u:Int)(_:Unit) :aQ:=⟨an 84 [(3,.imm n (.fl d) 1 1 0 (List.length d)),(4,.ptr 0 1 0 0),(5,.ptr 1 1 0 0),(6,.ptr 2 1 0 0),(8,.ptr 3 1 0 0),(9,.ptr 4 1 0 0),(10,.int .i64 ((p:Nat):Int)),(11,.int .i64 ((q:Nat):Int))],[(0,.vs [.int .i64 e,.int .i64 f,.imm g (.fl a) 1 1 0 (List.length a)]),(1,.vs [.int .i64 h,.int .i64 i,.imm j (.fl b) 1 1 0 (List.length b)]),(2,.vs [.int .i64 k,.int .i64 l,.imm m (.fl c) 1 1 0 (List.length c)]),(3,.vs [.bool false o,.nsl,.int .i64 (0:Int)]),(4,.vs [.bool false r,.imm .free (.ns .u64 s) 1 1 0 t,.int .i64 u])],5⟩
def uH(a:Int)(b:Nat)(c:Bool)(d:List Int)(e:Nat)(f:Int) :T ((Unit)⊕((Bool×(List Int)×Nat×Int)⊕((Bool×(List Int)×Nat×Int)⊕((Bool×(List Int)×Nat×Int)⊕(bv))))) :=
  .ask (decide (((b:Nat):Int)<a))
    (.leaf (.inl ()))
    (.leaf (.inr (.inl (c,d,e,f))))
def CL(e:Int)(f:Int)(g:Lv)(a:List Nat)(h:Int)(i:Int)(j:Lv)(b:List Nat)(k:Int)(l:Int)(m:Lv)(c:List Nat)(n:Lv)(d:List Nat)(o:Bool)(p:Nat)(q:Nat) :Bool×(List Int)×Nat×Int→aQ:=fun (r,s,t,u)=>⟨an 84 [(3,.imm n (.fl d) 1 1 0 (List.length d)),(4,.ptr 0 1 0 0),(5,.ptr 1 1 0 0),(6,.ptr 2 1 0 0),(8,.ptr 3 1 0 0),(9,.ptr 4 1 0 0),(10,.int .i64 ((p:Nat):Int)),(11,.int .i64 ((q:Nat):Int))],[(0,.vs [.int .i64 e,.int .i64 f,.imm g (.fl a) 1 1 0 (List.length a)]),(1,.vs [.int .i64 h,.int .i64 i,.imm j (.fl b) 1 1 0 (List.length b)]),(2,.vs [.int .i64 k,.int .i64 l,.imm m (.fl c) 1 1 0 (List.length c)]),(3,.vs [.bool false o,.nsl,.int .i64 (0:Int)]),(4,.vs [.bool false r,.imm .free (.ns .u64 s) 1 1 0 t,.int .i64 u])],5⟩
def Pw:List Code:=cN (inBlock ((((CJ.drop 2).take 1)).headD .skip))
def Px(e:Int)(f:Int)(g:Lv)(a:List Nat)(h:Int)(i:Int)(j:Lv)(b:List Nat)(k:Int)(l:Int)(m:Lv)(c:List Nat)(n:Lv)(d:List Nat)(o:Bool)(p:Nat)(q:Nat)(r:Bool)(s:List Int)(t:Nat)(u:Int) :Bool×(List Int)×Nat×Int→aQ:=fun (v,w,x,y)=>⟨an 84 [(3,.imm n (.fl d) 1 1 0 (List.length d)),(4,.ptr 0 1 0 0),(5,.ptr 1 1 0 0),(6,.ptr 2 1 0 0),(8,.ptr 3 1 0 0),(9,.ptr 4 1 0 0),(10,.int .i64 ((p:Nat):Int)),(11,.int .i64 ((q:Nat):Int)),(12,.ptr 5 1 0 0)],[(0,.vs [.int .i64 e,.int .i64 f,.imm g (.fl a) 1 1 0 (List.length a)]),(1,.vs [.int .i64 h,.int .i64 i,.imm j (.fl b) 1 1 0 (List.length b)]),(2,.vs [.int .i64 k,.int .i64 l,.imm m (.fl c) 1 1 0 (List.length c)]),(3,.vs [.bool false o,.nsl,.int .i64 (0:Int)]),(4,.vs [.bool false r,.imm .free (.ns .u64 s) 1 1 0 t,.int .i64 u]),(5,.vs [.bool false v,.imm .free (.ns .u64 w) 1 1 0 x,.int .i64 y])],6⟩
def CM:T ((Bool×(List Int)×Nat×Int)⊕((Bool×(List Int)×Nat×Int)⊕((Bool×(List Int)×Nat×Int)⊕((Bool×(List Int)×Nat×Int)⊕((Bool×(List Int)×Nat×Int)⊕(bv)))))) :=
  .need (eR (aF (0:Int)))<|.leaf (.inl ((cJ (aF (0:Int))),(co (aF (0:Int))),(cp (aF (0:Int))),(cK (aF (0:Int)))))
def Py(e:Int)(f:Int)(g:Lv)(a:List Nat)(h:Int)(i:Int)(j:Lv)(b:List Nat)(k:Int)(l:Int)(m:Lv)(c:List Nat)(n:Lv)(d:List Nat)(o:Bool)(p:Nat)(q:Nat)(r:Bool)(s:List Int)(t:Nat)(u:Int)(v:Bool)(w:List Int)(x:Nat)(y:Int)(_:Unit) :aQ:=⟨an 84 [(3,.imm n (.fl d) 1 1 0 (List.length d)),(4,.ptr 0 1 0 0),(5,.ptr 1 1 0 0),(6,.ptr 2 1 0 0),(8,.ptr 3 1 0 0),(9,.ptr 4 1 0 0),(10,.int .i64 ((p:Nat):Int)),(11,.int .i64 ((q:Nat):Int)),(12,.ptr 5 1 0 0),(13,.int .i64 (0:Int))],[(0,.vs [.int .i64 e,.int .i64 f,.imm g (.fl a) 1 1 0 (List.length a)]),(1,.vs [.int .i64 h,.int .i64 i,.imm j (.fl b) 1 1 0 (List.length b)]),(2,.vs [.int .i64 k,.int .i64 l,.imm m (.fl c) 1 1 0 (List.length c)]),(3,.vs [.bool false o,.nsl,.int .i64 (0:Int)]),(4,.vs [.bool false r,.imm .free (.ns .u64 s) 1 1 0 t,.int .i64 u]),(5,.vs [.bool false v,.imm .free (.ns .u64 w) 1 1 0 x,.int .i64 y])],6⟩
def Pz:T ((Unit)⊕((Bool×(List Int)×Nat×Int)⊕((Bool×(List Int)×Nat×Int)⊕((Bool×(List Int)×Nat×Int)⊕((Bool×(List Int)×Nat×Int)⊕(bv)))))) :=
  .leaf (.inl ())
def uI(e:Int)(f:Int)(g:Lv)(a:List Nat)(h:Int)(i:Int)(j:Lv)(b:List Nat)(k:Int)(l:Int)(m:Lv)(c:List Nat)(n:Lv)(d:List Nat)(o:Bool)(p:Nat)(q:Nat)(r:Bool)(s:List Int)(t:Nat)(u:Int) :Nat×Bool×(List Int)×Nat×Int→aQ:=fun (v,w,x,y,z)=>⟨an 84 [(3,.imm n (.fl d) 1 1 0 (List.length d)),(4,.ptr 0 1 0 0),(5,.ptr 1 1 0 0),(6,.ptr 2 1 0 0),(8,.ptr 3 1 0 0),(9,.ptr 4 1 0 0),(10,.int .i64 ((p:Nat):Int)),(11,.int .i64 ((q:Nat):Int)),(12,.ptr 5 1 0 0),(13,.int .i64 ((v:Nat):Int))],[(0,.vs [.int .i64 e,.int .i64 f,.imm g (.fl a) 1 1 0 (List.length a)]),(1,.vs [.int .i64 h,.int .i64 i,.imm j (.fl b) 1 1 0 (List.length b)]),(2,.vs [.int .i64 k,.int .i64 l,.imm m (.fl c) 1 1 0 (List.length c)]),(3,.vs [.bool false o,.nsl,.int .i64 (0:Int)]),(4,.vs [.bool false r,.imm .free (.ns .u64 s) 1 1 0 t,.int .i64 u]),(5,.vs [.bool false w,.imm .free (.ns .u64 x) 1 1 0 y,.int .i64 z])],6⟩
def CN(e:Int)(f:Int)(g:Lv)(a:List Nat)(h:Int)(i:Int)(j:Lv)(b:List Nat)(k:Int)(l:Int)(m:Lv)(c:List Nat)(n:Lv)(d:List Nat)(o:Bool)(p:Nat)(q:Nat)(r:Bool)(s:List Int)(t:Nat)(u:Int) :Bool×(List Int)×Nat×Int→aQ:=fun (v,w,x,y)=>⟨an 84 [(3,.imm n (.fl d) 1 1 0 (List.length d)),(4,.ptr 0 1 0 0),(5,.ptr 1 1 0 0),(6,.ptr 2 1 0 0),(8,.ptr 3 1 0 0),(9,.ptr 4 1 0 0),(10,.int .i64 ((p:Nat):Int)),(11,.int .i64 ((q:Nat):Int)),(12,.ptr 5 1 0 0)],[(0,.vs [.int .i64 e,.int .i64 f,.imm g (.fl a) 1 1 0 (List.length a)]),(1,.vs [.int .i64 h,.int .i64 i,.imm j (.fl b) 1 1 0 (List.length b)]),(2,.vs [.int .i64 k,.int .i64 l,.imm m (.fl c) 1 1 0 (List.length c)]),(3,.vs [.bool false o,.nsl,.int .i64 (0:Int)]),(4,.vs [.bool false r,.imm .free (.ns .u64 s) 1 1 0 t,.int .i64 u]),(5,.vs [.bool false v,.imm .free (.ns .u64 w) 1 1 0 x,.int .i64 y])],6⟩
def PA:List Code:=cN (dn (((((Pw.drop 1).drop 1).take 1)).headD .skip))
def PB(e:Int)(f:Int)(g:Lv)(a:List Nat)(h:Int)(i:Int)(j:Lv)(b:List Nat)(k:Int)(l:Int)(m:Lv)(c:List Nat)(n:Lv)(d:List Nat)(o:Bool)(p:Nat)(q:Nat)(r:Bool)(s:List Int)(t:Nat)(u:Int)(v:Nat) :Bool×(List Int)×Nat×Int→aQ:=fun (w,x,y,z)=>⟨an 84 [(3,.imm n (.fl d) 1 1 0 (List.length d)),(4,.ptr 0 1 0 0),(5,.ptr 1 1 0 0),(6,.ptr 2 1 0 0),(8,.ptr 3 1 0 0),(9,.ptr 4 1 0 0),(10,.int .i64 ((p:Nat):Int)),(11,.int .i64 ((q:Nat):Int)),(12,.ptr 5 1 0 0),(13,.int .i64 ((v:Nat):Int))],[(0,.vs [.int .i64 e,.int .i64 f,.imm g (.fl a) 1 1 0 (List.length a)]),(1,.vs [.int .i64 h,.int .i64 i,.imm j (.fl b) 1 1 0 (List.length b)]),(2,.vs [.int .i64 k,.int .i64 l,.imm m (.fl c) 1 1 0 (List.length c)]),(3,.vs [.bool false o,.nsl,.int .i64 (0:Int)]),(4,.vs [.bool false r,.imm .free (.ns .u64 s) 1 1 0 t,.int .i64 u]),(5,.vs [.bool false w,.imm .free (.ns .u64 x) 1 1 0 y,.int .i64 z])],6⟩
def pn(b:Int)(f:List Nat)(c:Int)(g:List Nat)(d:Nat)(e:Nat)(a:Nat)(j:Bool)(h:List Int)(i:Nat)(k:Int) :T ((Bool×(List Int)×Nat×Int)⊕((Bool×(List Int)×Nat×Int)⊕((Bool×(List Int)×Nat×Int)⊕((Bool×(List Int)×Nat×Int)⊕((Bool×(List Int)×Nat×Int)⊕((Bool×(List Int)×Nat×Int)⊕(bv))))))) :=
  .ask (decide (((a:Nat):Int)<b))
    (.need (di .i64 (((d:Nat):Int)*b))<|.need (di .i64 ((((d:Nat):Int)*b)+((a:Nat):Int)))<|.need (fv ((((d:Nat):Int)*b)+((a:Nat):Int)) (List.length f))<|.need (g9 (Int.toNat ((((d:Nat):Int)*b)+((a:Nat):Int))) (List.length f))<|.need (d4 (aa (List.getD f (Int.toNat ((((d:Nat):Int)*b)+((a:Nat):Int))) 0)))<|.need (di .i64 (((a:Nat):Int)*c))<|.need (di .i64 ((((a:Nat):Int)*c)+((e:Nat):Int)))<|.need (fv ((((a:Nat):Int)*c)+((e:Nat):Int)) (List.length g))<|.need (g9 (Int.toNat ((((a:Nat):Int)*c)+((e:Nat):Int))) (List.length g))<|.need (d4 (aa (List.getD g (Int.toNat ((((a:Nat):Int)*c)+((e:Nat):Int))) 0)))<|.need (aG 0 (ae (aa (List.getD f (Int.toNat ((((d:Nat):Int)*b)+((a:Nat):Int))) 0))) (ac (aa (List.getD f (Int.toNat ((((d:Nat):Int)*b)+((a:Nat):Int))) 0))))<|.need (aG 0 (ae (aa (List.getD g (Int.toNat ((((a:Nat):Int)*c)+((e:Nat):Int))) 0))) (ac (aa (List.getD g (Int.toNat ((((a:Nat):Int)*c)+((e:Nat):Int))) 0))))<|.need (c8 (am (ag (aa (List.getD f (Int.toNat ((((d:Nat):Int)*b)+((a:Nat):Int))) 0))) (ab 0 (ae (aa (List.getD f (Int.toNat ((((d:Nat):Int)*b)+((a:Nat):Int))) 0))) (ac (aa (List.getD f (Int.toNat ((((d:Nat):Int)*b)+((a:Nat):Int))) 0)))) (ah (aa (List.getD f (Int.toNat ((((d:Nat):Int)*b)+((a:Nat):Int))) 0))) (ag (aa (List.getD g (Int.toNat ((((a:Nat):Int)*c)+((e:Nat):Int))) 0))) (ab 0 (ae (aa (List.getD g (Int.toNat ((((a:Nat):Int)*c)+((e:Nat):Int))) 0))) (ac (aa (List.getD g (Int.toNat ((((a:Nat):Int)*c)+((e:Nat):Int))) 0)))) (ah (aa (List.getD g (Int.toNat ((((a:Nat):Int)*c)+((e:Nat):Int))) 0)))))<|.need (aG 0 i h)<|.need (aG 0 (aK (am (ag (aa (List.getD f (Int.toNat ((((d:Nat):Int)*b)+((a:Nat):Int))) 0))) (ab 0 (ae (aa (List.getD f (Int.toNat ((((d:Nat):Int)*b)+((a:Nat):Int))) 0))) (ac (aa (List.getD f (Int.toNat ((((d:Nat):Int)*b)+((a:Nat):Int))) 0)))) (ah (aa (List.getD f (Int.toNat ((((d:Nat):Int)*b)+((a:Nat):Int))) 0))) (ag (aa (List.getD g (Int.toNat ((((a:Nat):Int)*c)+((e:Nat):Int))) 0))) (ab 0 (ae (aa (List.getD g (Int.toNat ((((a:Nat):Int)*c)+((e:Nat):Int))) 0))) (ac (aa (List.getD g (Int.toNat ((((a:Nat):Int)*c)+((e:Nat):Int))) 0)))) (ah (aa (List.getD g (Int.toNat ((((a:Nat):Int)*c)+((e:Nat):Int))) 0))))) (aJ (am (ag (aa (List.getD f (Int.toNat ((((d:Nat):Int)*b)+((a:Nat):Int))) 0))) (ab 0 (ae (aa (List.getD f (Int.toNat ((((d:Nat):Int)*b)+((a:Nat):Int))) 0))) (ac (aa (List.getD f (Int.toNat ((((d:Nat):Int)*b)+((a:Nat):Int))) 0)))) (ah (aa (List.getD f (Int.toNat ((((d:Nat):Int)*b)+((a:Nat):Int))) 0))) (ag (aa (List.getD g (Int.toNat ((((a:Nat):Int)*c)+((e:Nat):Int))) 0))) (ab 0 (ae (aa (List.getD g (Int.toNat ((((a:Nat):Int)*c)+((e:Nat):Int))) 0))) (ac (aa (List.getD g (Int.toNat ((((a:Nat):Int)*c)+((e:Nat):Int))) 0)))) (ah (aa (List.getD g (Int.toNat ((((a:Nat):Int)*c)+((e:Nat):Int))) 0))))))<|.need (nZ (bR j (ab 0 i h) k (aT (am (ag (aa (List.getD f (Int.toNat ((((d:Nat):Int)*b)+((a:Nat):Int))) 0))) (ab 0 (ae (aa (List.getD f (Int.toNat ((((d:Nat):Int)*b)+((a:Nat):Int))) 0))) (ac (aa (List.getD f (Int.toNat ((((d:Nat):Int)*b)+((a:Nat):Int))) 0)))) (ah (aa (List.getD f (Int.toNat ((((d:Nat):Int)*b)+((a:Nat):Int))) 0))) (ag (aa (List.getD g (Int.toNat ((((a:Nat):Int)*c)+((e:Nat):Int))) 0))) (ab 0 (ae (aa (List.getD g (Int.toNat ((((a:Nat):Int)*c)+((e:Nat):Int))) 0))) (ac (aa (List.getD g (Int.toNat ((((a:Nat):Int)*c)+((e:Nat):Int))) 0)))) (ah (aa (List.getD g (Int.toNat ((((a:Nat):Int)*c)+((e:Nat):Int))) 0))))) (ab 0 (aK (am (ag (aa (List.getD f (Int.toNat ((((d:Nat):Int)*b)+((a:Nat):Int))) 0))) (ab 0 (ae (aa (List.getD f (Int.toNat ((((d:Nat):Int)*b)+((a:Nat):Int))) 0))) (ac (aa (List.getD f (Int.toNat ((((d:Nat):Int)*b)+((a:Nat):Int))) 0)))) (ah (aa (List.getD f (Int.toNat ((((d:Nat):Int)*b)+((a:Nat):Int))) 0))) (ag (aa (List.getD g (Int.toNat ((((a:Nat):Int)*c)+((e:Nat):Int))) 0))) (ab 0 (ae (aa (List.getD g (Int.toNat ((((a:Nat):Int)*c)+((e:Nat):Int))) 0))) (ac (aa (List.getD g (Int.toNat ((((a:Nat):Int)*c)+((e:Nat):Int))) 0)))) (ah (aa (List.getD g (Int.toNat ((((a:Nat):Int)*c)+((e:Nat):Int))) 0))))) (aJ (am (ag (aa (List.getD f (Int.toNat ((((d:Nat):Int)*b)+((a:Nat):Int))) 0))) (ab 0 (ae (aa (List.getD f (Int.toNat ((((d:Nat):Int)*b)+((a:Nat):Int))) 0))) (ac (aa (List.getD f (Int.toNat ((((d:Nat):Int)*b)+((a:Nat):Int))) 0)))) (ah (aa (List.getD f (Int.toNat ((((d:Nat):Int)*b)+((a:Nat):Int))) 0))) (ag (aa (List.getD g (Int.toNat ((((a:Nat):Int)*c)+((e:Nat):Int))) 0))) (ab 0 (ae (aa (List.getD g (Int.toNat ((((a:Nat):Int)*c)+((e:Nat):Int))) 0))) (ac (aa (List.getD g (Int.toNat ((((a:Nat):Int)*c)+((e:Nat):Int))) 0)))) (ah (aa (List.getD g (Int.toNat ((((a:Nat):Int)*c)+((e:Nat):Int))) 0)))))) (aU (am (ag (aa (List.getD f (Int.toNat ((((d:Nat):Int)*b)+((a:Nat):Int))) 0))) (ab 0 (ae (aa (List.getD f (Int.toNat ((((d:Nat):Int)*b)+((a:Nat):Int))) 0))) (ac (aa (List.getD f (Int.toNat ((((d:Nat):Int)*b)+((a:Nat):Int))) 0)))) (ah (aa (List.getD f (Int.toNat ((((d:Nat):Int)*b)+((a:Nat):Int))) 0))) (ag (aa (List.getD g (Int.toNat ((((a:Nat):Int)*c)+((e:Nat):Int))) 0))) (ab 0 (ae (aa (List.getD g (Int.toNat ((((a:Nat):Int)*c)+((e:Nat):Int))) 0))) (ac (aa (List.getD g (Int.toNat ((((a:Nat):Int)*c)+((e:Nat):Int))) 0)))) (ah (aa (List.getD g (Int.toNat ((((a:Nat):Int)*c)+((e:Nat):Int))) 0)))))))<|.leaf (.inl ((mI (bR j (ab 0 i h) k (aT (am (ag (aa (List.getD f (Int.toNat ((((d:Nat):Int)*b)+((a:Nat):Int))) 0))) (ab 0 (ae (aa (List.getD f (Int.toNat ((((d:Nat):Int)*b)+((a:Nat):Int))) 0))) (ac (aa (List.getD f (Int.toNat ((((d:Nat):Int)*b)+((a:Nat):Int))) 0)))) (ah (aa (List.getD f (Int.toNat ((((d:Nat):Int)*b)+((a:Nat):Int))) 0))) (ag (aa (List.getD g (Int.toNat ((((a:Nat):Int)*c)+((e:Nat):Int))) 0))) (ab 0 (ae (aa (List.getD g (Int.toNat ((((a:Nat):Int)*c)+((e:Nat):Int))) 0))) (ac (aa (List.getD g (Int.toNat ((((a:Nat):Int)*c)+((e:Nat):Int))) 0)))) (ah (aa (List.getD g (Int.toNat ((((a:Nat):Int)*c)+((e:Nat):Int))) 0))))) (ab 0 (aK (am (ag (aa (List.getD f (Int.toNat ((((d:Nat):Int)*b)+((a:Nat):Int))) 0))) (ab 0 (ae (aa (List.getD f (Int.toNat ((((d:Nat):Int)*b)+((a:Nat):Int))) 0))) (ac (aa (List.getD f (Int.toNat ((((d:Nat):Int)*b)+((a:Nat):Int))) 0)))) (ah (aa (List.getD f (Int.toNat ((((d:Nat):Int)*b)+((a:Nat):Int))) 0))) (ag (aa (List.getD g (Int.toNat ((((a:Nat):Int)*c)+((e:Nat):Int))) 0))) (ab 0 (ae (aa (List.getD g (Int.toNat ((((a:Nat):Int)*c)+((e:Nat):Int))) 0))) (ac (aa (List.getD g (Int.toNat ((((a:Nat):Int)*c)+((e:Nat):Int))) 0)))) (ah (aa (List.getD g (Int.toNat ((((a:Nat):Int)*c)+((e:Nat):Int))) 0))))) (aJ (am (ag (aa (List.getD f (Int.toNat ((((d:Nat):Int)*b)+((a:Nat):Int))) 0))) (ab 0 (ae (aa (List.getD f (Int.toNat ((((d:Nat):Int)*b)+((a:Nat):Int))) 0))) (ac (aa (List.getD f (Int.toNat ((((d:Nat):Int)*b)+((a:Nat):Int))) 0)))) (ah (aa (List.getD f (Int.toNat ((((d:Nat):Int)*b)+((a:Nat):Int))) 0))) (ag (aa (List.getD g (Int.toNat ((((a:Nat):Int)*c)+((e:Nat):Int))) 0))) (ab 0 (ae (aa (List.getD g (Int.toNat ((((a:Nat):Int)*c)+((e:Nat):Int))) 0))) (ac (aa (List.getD g (Int.toNat ((((a:Nat):Int)*c)+((e:Nat):Int))) 0)))) (ah (aa (List.getD g (Int.toNat ((((a:Nat):Int)*c)+((e:Nat):Int))) 0)))))) (aU (am (ag (aa (List.getD f (Int.toNat ((((d:Nat):Int)*b)+((a:Nat):Int))) 0))) (ab 0 (ae (aa (List.getD f (Int.toNat ((((d:Nat):Int)*b)+((a:Nat):Int))) 0))) (ac (aa (List.getD f (Int.toNat ((((d:Nat):Int)*b)+((a:Nat):Int))) 0)))) (ah (aa (List.getD f (Int.toNat ((((d:Nat):Int)*b)+((a:Nat):Int))) 0))) (ag (aa (List.getD g (Int.toNat ((((a:Nat):Int)*c)+((e:Nat):Int))) 0))) (ab 0 (ae (aa (List.getD g (Int.toNat ((((a:Nat):Int)*c)+((e:Nat):Int))) 0))) (ac (aa (List.getD g (Int.toNat ((((a:Nat):Int)*c)+((e:Nat):Int))) 0)))) (ah (aa (List.getD g (Int.toNat ((((a:Nat):Int)*c)+((e:Nat):Int))) 0))))))),(mJ (bR j (ab 0 i h) k (aT (am (ag (aa (List.getD f (Int.toNat ((((d:Nat):Int)*b)+((a:Nat):Int))) 0))) (ab 0 (ae (aa (List.getD f (Int.toNat ((((d:Nat):Int)*b)+((a:Nat):Int))) 0))) (ac (aa (List.getD f (Int.toNat ((((d:Nat):Int)*b)+((a:Nat):Int))) 0)))) (ah (aa (List.getD f (Int.toNat ((((d:Nat):Int)*b)+((a:Nat):Int))) 0))) (ag (aa (List.getD g (Int.toNat ((((a:Nat):Int)*c)+((e:Nat):Int))) 0))) (ab 0 (ae (aa (List.getD g (Int.toNat ((((a:Nat):Int)*c)+((e:Nat):Int))) 0))) (ac (aa (List.getD g (Int.toNat ((((a:Nat):Int)*c)+((e:Nat):Int))) 0)))) (ah (aa (List.getD g (Int.toNat ((((a:Nat):Int)*c)+((e:Nat):Int))) 0))))) (ab 0 (aK (am (ag (aa (List.getD f (Int.toNat ((((d:Nat):Int)*b)+((a:Nat):Int))) 0))) (ab 0 (ae (aa (List.getD f (Int.toNat ((((d:Nat):Int)*b)+((a:Nat):Int))) 0))) (ac (aa (List.getD f (Int.toNat ((((d:Nat):Int)*b)+((a:Nat):Int))) 0)))) (ah (aa (List.getD f (Int.toNat ((((d:Nat):Int)*b)+((a:Nat):Int))) 0))) (ag (aa (List.getD g (Int.toNat ((((a:Nat):Int)*c)+((e:Nat):Int))) 0))) (ab 0 (ae (aa (List.getD g (Int.toNat ((((a:Nat):Int)*c)+((e:Nat):Int))) 0))) (ac (aa (List.getD g (Int.toNat ((((a:Nat):Int)*c)+((e:Nat):Int))) 0)))) (ah (aa (List.getD g (Int.toNat ((((a:Nat):Int)*c)+((e:Nat):Int))) 0))))) (aJ (am (ag (aa (List.getD f (Int.toNat ((((d:Nat):Int)*b)+((a:Nat):Int))) 0))) (ab 0 (ae (aa (List.getD f (Int.toNat ((((d:Nat):Int)*b)+((a:Nat):Int))) 0))) (ac (aa (List.getD f (Int.toNat ((((d:Nat):Int)*b)+((a:Nat):Int))) 0)))) (ah (aa (List.getD f (Int.toNat ((((d:Nat):Int)*b)+((a:Nat):Int))) 0))) (ag (aa (List.getD g (Int.toNat ((((a:Nat):Int)*c)+((e:Nat):Int))) 0))) (ab 0 (ae (aa (List.getD g (Int.toNat ((((a:Nat):Int)*c)+((e:Nat):Int))) 0))) (ac (aa (List.getD g (Int.toNat ((((a:Nat):Int)*c)+((e:Nat):Int))) 0)))) (ah (aa (List.getD g (Int.toNat ((((a:Nat):Int)*c)+((e:Nat):Int))) 0)))))) (aU (am (ag (aa (List.getD f (Int.toNat ((((d:Nat):Int)*b)+((a:Nat):Int))) 0))) (ab 0 (ae (aa (List.getD f (Int.toNat ((((d:Nat):Int)*b)+((a:Nat):Int))) 0))) (ac (aa (List.getD f (Int.toNat ((((d:Nat):Int)*b)+((a:Nat):Int))) 0)))) (ah (aa (List.getD f (Int.toNat ((((d:Nat):Int)*b)+((a:Nat):Int))) 0))) (ag (aa (List.getD g (Int.toNat ((((a:Nat):Int)*c)+((e:Nat):Int))) 0))) (ab 0 (ae (aa (List.getD g (Int.toNat ((((a:Nat):Int)*c)+((e:Nat):Int))) 0))) (ac (aa (List.getD g (Int.toNat ((((a:Nat):Int)*c)+((e:Nat):Int))) 0)))) (ah (aa (List.getD g (Int.toNat ((((a:Nat):Int)*c)+((e:Nat):Int))) 0))))))),(mK (bR j (ab 0 i h) k (aT (am (ag (aa (List.getD f (Int.toNat ((((d:Nat):Int)*b)+((a:Nat):Int))) 0))) (ab 0 (ae (aa (List.getD f (Int.toNat ((((d:Nat):Int)*b)+((a:Nat):Int))) 0))) (ac (aa (List.getD f (Int.toNat ((((d:Nat):Int)*b)+((a:Nat):Int))) 0)))) (ah (aa (List.getD f (Int.toNat ((((d:Nat):Int)*b)+((a:Nat):Int))) 0))) (ag (aa (List.getD g (Int.toNat ((((a:Nat):Int)*c)+((e:Nat):Int))) 0))) (ab 0 (ae (aa (List.getD g (Int.toNat ((((a:Nat):Int)*c)+((e:Nat):Int))) 0))) (ac (aa (List.getD g (Int.toNat ((((a:Nat):Int)*c)+((e:Nat):Int))) 0)))) (ah (aa (List.getD g (Int.toNat ((((a:Nat):Int)*c)+((e:Nat):Int))) 0))))) (ab 0 (aK (am (ag (aa (List.getD f (Int.toNat ((((d:Nat):Int)*b)+((a:Nat):Int))) 0))) (ab 0 (ae (aa (List.getD f (Int.toNat ((((d:Nat):Int)*b)+((a:Nat):Int))) 0))) (ac (aa (List.getD f (Int.toNat ((((d:Nat):Int)*b)+((a:Nat):Int))) 0)))) (ah (aa (List.getD f (Int.toNat ((((d:Nat):Int)*b)+((a:Nat):Int))) 0))) (ag (aa (List.getD g (Int.toNat ((((a:Nat):Int)*c)+((e:Nat):Int))) 0))) (ab 0 (ae (aa (List.getD g (Int.toNat ((((a:Nat):Int)*c)+((e:Nat):Int))) 0))) (ac (aa (List.getD g (Int.toNat ((((a:Nat):Int)*c)+((e:Nat):Int))) 0)))) (ah (aa (List.getD g (Int.toNat ((((a:Nat):Int)*c)+((e:Nat):Int))) 0))))) (aJ (am (ag (aa (List.getD f (Int.toNat ((((d:Nat):Int)*b)+((a:Nat):Int))) 0))) (ab 0 (ae (aa (List.getD f (Int.toNat ((((d:Nat):Int)*b)+((a:Nat):Int))) 0))) (ac (aa (List.getD f (Int.toNat ((((d:Nat):Int)*b)+((a:Nat):Int))) 0)))) (ah (aa (List.getD f (Int.toNat ((((d:Nat):Int)*b)+((a:Nat):Int))) 0))) (ag (aa (List.getD g (Int.toNat ((((a:Nat):Int)*c)+((e:Nat):Int))) 0))) (ab 0 (ae (aa (List.getD g (Int.toNat ((((a:Nat):Int)*c)+((e:Nat):Int))) 0))) (ac (aa (List.getD g (Int.toNat ((((a:Nat):Int)*c)+((e:Nat):Int))) 0)))) (ah (aa (List.getD g (Int.toNat ((((a:Nat):Int)*c)+((e:Nat):Int))) 0)))))) (aU (am (ag (aa (List.getD f (Int.toNat ((((d:Nat):Int)*b)+((a:Nat):Int))) 0))) (ab 0 (ae (aa (List.getD f (Int.toNat ((((d:Nat):Int)*b)+((a:Nat):Int))) 0))) (ac (aa (List.getD f (Int.toNat ((((d:Nat):Int)*b)+((a:Nat):Int))) 0)))) (ah (aa (List.getD f (Int.toNat ((((d:Nat):Int)*b)+((a:Nat):Int))) 0))) (ag (aa (List.getD g (Int.toNat ((((a:Nat):Int)*c)+((e:Nat):Int))) 0))) (ab 0 (ae (aa (List.getD g (Int.toNat ((((a:Nat):Int)*c)+((e:Nat):Int))) 0))) (ac (aa (List.getD g (Int.toNat ((((a:Nat):Int)*c)+((e:Nat):Int))) 0)))) (ah (aa (List.getD g (Int.toNat ((((a:Nat):Int)*c)+((e:Nat):Int))) 0))))))),(mL (bR j (ab 0 i h) k (aT (am (ag (aa (List.getD f (Int.toNat ((((d:Nat):Int)*b)+((a:Nat):Int))) 0))) (ab 0 (ae (aa (List.getD f (Int.toNat ((((d:Nat):Int)*b)+((a:Nat):Int))) 0))) (ac (aa (List.getD f (Int.toNat ((((d:Nat):Int)*b)+((a:Nat):Int))) 0)))) (ah (aa (List.getD f (Int.toNat ((((d:Nat):Int)*b)+((a:Nat):Int))) 0))) (ag (aa (List.getD g (Int.toNat ((((a:Nat):Int)*c)+((e:Nat):Int))) 0))) (ab 0 (ae (aa (List.getD g (Int.toNat ((((a:Nat):Int)*c)+((e:Nat):Int))) 0))) (ac (aa (List.getD g (Int.toNat ((((a:Nat):Int)*c)+((e:Nat):Int))) 0)))) (ah (aa (List.getD g (Int.toNat ((((a:Nat):Int)*c)+((e:Nat):Int))) 0))))) (ab 0 (aK (am (ag (aa (List.getD f (Int.toNat ((((d:Nat):Int)*b)+((a:Nat):Int))) 0))) (ab 0 (ae (aa (List.getD f (Int.toNat ((((d:Nat):Int)*b)+((a:Nat):Int))) 0))) (ac (aa (List.getD f (Int.toNat ((((d:Nat):Int)*b)+((a:Nat):Int))) 0)))) (ah (aa (List.getD f (Int.toNat ((((d:Nat):Int)*b)+((a:Nat):Int))) 0))) (ag (aa (List.getD g (Int.toNat ((((a:Nat):Int)*c)+((e:Nat):Int))) 0))) (ab 0 (ae (aa (List.getD g (Int.toNat ((((a:Nat):Int)*c)+((e:Nat):Int))) 0))) (ac (aa (List.getD g (Int.toNat ((((a:Nat):Int)*c)+((e:Nat):Int))) 0)))) (ah (aa (List.getD g (Int.toNat ((((a:Nat):Int)*c)+((e:Nat):Int))) 0))))) (aJ (am (ag (aa (List.getD f (Int.toNat ((((d:Nat):Int)*b)+((a:Nat):Int))) 0))) (ab 0 (ae (aa (List.getD f (Int.toNat ((((d:Nat):Int)*b)+((a:Nat):Int))) 0))) (ac (aa (List.getD f (Int.toNat ((((d:Nat):Int)*b)+((a:Nat):Int))) 0)))) (ah (aa (List.getD f (Int.toNat ((((d:Nat):Int)*b)+((a:Nat):Int))) 0))) (ag (aa (List.getD g (Int.toNat ((((a:Nat):Int)*c)+((e:Nat):Int))) 0))) (ab 0 (ae (aa (List.getD g (Int.toNat ((((a:Nat):Int)*c)+((e:Nat):Int))) 0))) (ac (aa (List.getD g (Int.toNat ((((a:Nat):Int)*c)+((e:Nat):Int))) 0)))) (ah (aa (List.getD g (Int.toNat ((((a:Nat):Int)*c)+((e:Nat):Int))) 0)))))) (aU (am (ag (aa (List.getD f (Int.toNat ((((d:Nat):Int)*b)+((a:Nat):Int))) 0))) (ab 0 (ae (aa (List.getD f (Int.toNat ((((d:Nat):Int)*b)+((a:Nat):Int))) 0))) (ac (aa (List.getD f (Int.toNat ((((d:Nat):Int)*b)+((a:Nat):Int))) 0)))) (ah (aa (List.getD f (Int.toNat ((((d:Nat):Int)*b)+((a:Nat):Int))) 0))) (ag (aa (List.getD g (Int.toNat ((((a:Nat):Int)*c)+((e:Nat):Int))) 0))) (ab 0 (ae (aa (List.getD g (Int.toNat ((((a:Nat):Int)*c)+((e:Nat):Int))) 0))) (ac (aa (List.getD g (Int.toNat ((((a:Nat):Int)*c)+((e:Nat):Int))) 0)))) (ah (aa (List.getD g (Int.toNat ((((a:Nat):Int)*c)+((e:Nat):Int))) 0))))))))))
    (.leaf (.inr (.inl (j,h,i,k))))
def PC(a:Nat)(b:Bool)(c:List Int)(d:Nat)(e:Int) :T ((Nat×Bool×(List Int)×Nat×Int)⊕((Bool×(List Int)×Nat×Int)⊕((Bool×(List Int)×Nat×Int)⊕((Bool×(List Int)×Nat×Int)⊕((Bool×(List Int)×Nat×Int)⊕((Bool×(List Int)×Nat×Int)⊕(bv))))))) :=
  .need (di .i64 (((a+1):Nat):Int))<|.leaf (.inl ((a+1),b,c,d,e))
def po(b:Int)(c:List Nat)(d:Int)(e:List Nat)(f:Nat)(g:Nat) :Nat×Bool×(List Int)×Nat×Int→Option ((Nat×Bool×(List Int)×Nat×Int)⊕((Bool×(List Int)×Nat×Int)⊕((Bool×(List Int)×Nat×Int)⊕((Bool×(List Int)×Nat×Int)⊕((Bool×(List Int)×Nat×Int)⊕((Bool×(List Int)×Nat×Int)⊕(bv))))))):=fun (a,h,i,j,k) =>
  aC ((pn b c d e f g a h i j k).run) fun (l,m,n,o) =>
  (PC a l m n o).run
theorem PD(g:Int)(a:Int)(h:Lv)(b:List Nat)(i:Int)(c:Int)(j:Lv)(d:List Nat)(k:Int)(l:Int)(m:Lv)(n:List Nat)(o:Lv)(p:List Nat)(e:Bool)(f:Nat)(q:Nat)(r:Bool)(s:List Int)(t:Nat)(u:Int)(v:Nat)(w:Bool)(x:List Int)(y:Nat)(z:Int) :Sg prog [] PA (uI g a h b i c j d k l m n o p e f q r s t u (v,w,x,y,z)) (po a b c d f q (v,w,x,y,z)) (uI g a h b i c j d k l m n o p e f q r s t u) (cy 4 (CN g a h b i c j d k l m n o p e f q r s t u) (cy 3 (CL g a h b i c j d k l m n o p e f q) (cy 2 (uG g a h b i c j d k l m n o p e f) (cy 1 (uE g a h b i c j d k l m n o p e f) (cy 0 (pm e) mp))))):=by
  unfold po;exact Sg.cut 3 (az (az (az (az (az ca))))) (bj cA (PB g a h b i c j d k l m n o p e f q r s t u v) [⟨[],[0,1,2,3,4,5],[3,4,5,6,8,9,10,11,12,13]⟩,⟨[],[0,1,2,3,4,5],[3,4,5,6,8,9,10,11,12]⟩]) (fun ⟨A,B,C,D⟩=>bj cA _ [⟨[],[0,1,2,3,4,5],[3,4,5,6,8,9,10,11,12,13]⟩])
def PE(e:Int)(f:Int)(g:Lv)(a:List Nat)(h:Int)(i:Int)(j:Lv)(b:List Nat)(k:Int)(l:Int)(m:Lv)(c:List Nat)(n:Lv)(d:List Nat)(o:Bool)(p:Nat)(q:Nat)(r:Bool)(s:List Int)(t:Nat)(u:Int) :Bool×(List Int)×Nat×Int→aQ:=fun (v,w,x,y)=>⟨an 84 [(3,.imm n (.fl d) 1 1 0 (List.length d)),(4,.ptr 0 1 0 0),(5,.ptr 1 1 0 0),(6,.ptr 2 1 0 0),(8,.ptr 3 1 0 0),(9,.ptr 4 1 0 0),(10,.int .i64 ((p:Nat):Int)),(11,.int .i64 ((q:Nat):Int)),(12,.ptr 5 1 0 0)],[(0,.vs [.int .i64 e,.int .i64 f,.imm g (.fl a) 1 1 0 (List.length a)]),(1,.vs [.int .i64 h,.int .i64 i,.imm j (.fl b) 1 1 0 (List.length b)]),(2,.vs [.int .i64 k,.int .i64 l,.imm m (.fl c) 1 1 0 (List.length c)]),(3,.vs [.bool false o,.nsl,.int .i64 (0:Int)]),(4,.vs [.bool false r,.imm .free (.ns .u64 s) 1 1 0 t,.int .i64 u]),(5,.vs [.bool false v,.imm .free (.ns .u64 w) 1 1 0 x,.int .i64 y])],6⟩
def uJ(b:Int)(d:List Nat)(e:List Nat)(c:Nat)(a:Nat)(h:Bool)(f:List Int)(g:Nat)(i:Int) :T ((Bool×(List Int)×Nat×Int)⊕((Bool×(List Int)×Nat×Int)⊕((Bool×(List Int)×Nat×Int)⊕((Bool×(List Int)×Nat×Int)⊕((Bool×(List Int)×Nat×Int)⊕(bv)))))) :=
  .need (di .i64 (((c:Nat):Int)*b))<|.need (di .i64 ((((c:Nat):Int)*b)+((a:Nat):Int)))<|.need (fv ((((c:Nat):Int)*b)+((a:Nat):Int)) (List.length d))<|.need (g9 (Int.toNat ((((c:Nat):Int)*b)+((a:Nat):Int))) (List.length d))<|.need (d4 (aa (List.getD d (Int.toNat ((((c:Nat):Int)*b)+((a:Nat):Int))) 0)))<|.need (fv ((a:Nat):Int) (List.length e))<|.need (g9 a (List.length e))<|.need (d4 (aa (List.getD e a 0)))<|.need (aG 0 (ae (aa (List.getD d (Int.toNat ((((c:Nat):Int)*b)+((a:Nat):Int))) 0))) (ac (aa (List.getD d (Int.toNat ((((c:Nat):Int)*b)+((a:Nat):Int))) 0))))<|.need (aG 0 (ae (aa (List.getD e a 0))) (ac (aa (List.getD e a 0))))<|.need (c8 (am (ag (aa (List.getD d (Int.toNat ((((c:Nat):Int)*b)+((a:Nat):Int))) 0))) (ab 0 (ae (aa (List.getD d (Int.toNat ((((c:Nat):Int)*b)+((a:Nat):Int))) 0))) (ac (aa (List.getD d (Int.toNat ((((c:Nat):Int)*b)+((a:Nat):Int))) 0)))) (ah (aa (List.getD d (Int.toNat ((((c:Nat):Int)*b)+((a:Nat):Int))) 0))) (ag (aa (List.getD e a 0))) (ab 0 (ae (aa (List.getD e a 0))) (ac (aa (List.getD e a 0)))) (ah (aa (List.getD e a 0)))))<|.need (aG 0 g f)<|.need (aG 0 (aK (am (ag (aa (List.getD d (Int.toNat ((((c:Nat):Int)*b)+((a:Nat):Int))) 0))) (ab 0 (ae (aa (List.getD d (Int.toNat ((((c:Nat):Int)*b)+((a:Nat):Int))) 0))) (ac (aa (List.getD d (Int.toNat ((((c:Nat):Int)*b)+((a:Nat):Int))) 0)))) (ah (aa (List.getD d (Int.toNat ((((c:Nat):Int)*b)+((a:Nat):Int))) 0))) (ag (aa (List.getD e a 0))) (ab 0 (ae (aa (List.getD e a 0))) (ac (aa (List.getD e a 0)))) (ah (aa (List.getD e a 0))))) (aJ (am (ag (aa (List.getD d (Int.toNat ((((c:Nat):Int)*b)+((a:Nat):Int))) 0))) (ab 0 (ae (aa (List.getD d (Int.toNat ((((c:Nat):Int)*b)+((a:Nat):Int))) 0))) (ac (aa (List.getD d (Int.toNat ((((c:Nat):Int)*b)+((a:Nat):Int))) 0)))) (ah (aa (List.getD d (Int.toNat ((((c:Nat):Int)*b)+((a:Nat):Int))) 0))) (ag (aa (List.getD e a 0))) (ab 0 (ae (aa (List.getD e a 0))) (ac (aa (List.getD e a 0)))) (ah (aa (List.getD e a 0))))))<|.need (ti (fI h (ab 0 g f) i (aT (am (ag (aa (List.getD d (Int.toNat ((((c:Nat):Int)*b)+((a:Nat):Int))) 0))) (ab 0 (ae (aa (List.getD d (Int.toNat ((((c:Nat):Int)*b)+((a:Nat):Int))) 0))) (ac (aa (List.getD d (Int.toNat ((((c:Nat):Int)*b)+((a:Nat):Int))) 0)))) (ah (aa (List.getD d (Int.toNat ((((c:Nat):Int)*b)+((a:Nat):Int))) 0))) (ag (aa (List.getD e a 0))) (ab 0 (ae (aa (List.getD e a 0))) (ac (aa (List.getD e a 0)))) (ah (aa (List.getD e a 0))))) (ab 0 (aK (am (ag (aa (List.getD d (Int.toNat ((((c:Nat):Int)*b)+((a:Nat):Int))) 0))) (ab 0 (ae (aa (List.getD d (Int.toNat ((((c:Nat):Int)*b)+((a:Nat):Int))) 0))) (ac (aa (List.getD d (Int.toNat ((((c:Nat):Int)*b)+((a:Nat):Int))) 0)))) (ah (aa (List.getD d (Int.toNat ((((c:Nat):Int)*b)+((a:Nat):Int))) 0))) (ag (aa (List.getD e a 0))) (ab 0 (ae (aa (List.getD e a 0))) (ac (aa (List.getD e a 0)))) (ah (aa (List.getD e a 0))))) (aJ (am (ag (aa (List.getD d (Int.toNat ((((c:Nat):Int)*b)+((a:Nat):Int))) 0))) (ab 0 (ae (aa (List.getD d (Int.toNat ((((c:Nat):Int)*b)+((a:Nat):Int))) 0))) (ac (aa (List.getD d (Int.toNat ((((c:Nat):Int)*b)+((a:Nat):Int))) 0)))) (ah (aa (List.getD d (Int.toNat ((((c:Nat):Int)*b)+((a:Nat):Int))) 0))) (ag (aa (List.getD e a 0))) (ab 0 (ae (aa (List.getD e a 0))) (ac (aa (List.getD e a 0)))) (ah (aa (List.getD e a 0)))))) (aU (am (ag (aa (List.getD d (Int.toNat ((((c:Nat):Int)*b)+((a:Nat):Int))) 0))) (ab 0 (ae (aa (List.getD d (Int.toNat ((((c:Nat):Int)*b)+((a:Nat):Int))) 0))) (ac (aa (List.getD d (Int.toNat ((((c:Nat):Int)*b)+((a:Nat):Int))) 0)))) (ah (aa (List.getD d (Int.toNat ((((c:Nat):Int)*b)+((a:Nat):Int))) 0))) (ag (aa (List.getD e a 0))) (ab 0 (ae (aa (List.getD e a 0))) (ac (aa (List.getD e a 0)))) (ah (aa (List.getD e a 0)))))))<|.leaf (.inl ((tZ (fI h (ab 0 g f) i (aT (am (ag (aa (List.getD d (Int.toNat ((((c:Nat):Int)*b)+((a:Nat):Int))) 0))) (ab 0 (ae (aa (List.getD d (Int.toNat ((((c:Nat):Int)*b)+((a:Nat):Int))) 0))) (ac (aa (List.getD d (Int.toNat ((((c:Nat):Int)*b)+((a:Nat):Int))) 0)))) (ah (aa (List.getD d (Int.toNat ((((c:Nat):Int)*b)+((a:Nat):Int))) 0))) (ag (aa (List.getD e a 0))) (ab 0 (ae (aa (List.getD e a 0))) (ac (aa (List.getD e a 0)))) (ah (aa (List.getD e a 0))))) (ab 0 (aK (am (ag (aa (List.getD d (Int.toNat ((((c:Nat):Int)*b)+((a:Nat):Int))) 0))) (ab 0 (ae (aa (List.getD d (Int.toNat ((((c:Nat):Int)*b)+((a:Nat):Int))) 0))) (ac (aa (List.getD d (Int.toNat ((((c:Nat):Int)*b)+((a:Nat):Int))) 0)))) (ah (aa (List.getD d (Int.toNat ((((c:Nat):Int)*b)+((a:Nat):Int))) 0))) (ag (aa (List.getD e a 0))) (ab 0 (ae (aa (List.getD e a 0))) (ac (aa (List.getD e a 0)))) (ah (aa (List.getD e a 0))))) (aJ (am (ag (aa (List.getD d (Int.toNat ((((c:Nat):Int)*b)+((a:Nat):Int))) 0))) (ab 0 (ae (aa (List.getD d (Int.toNat ((((c:Nat):Int)*b)+((a:Nat):Int))) 0))) (ac (aa (List.getD d (Int.toNat ((((c:Nat):Int)*b)+((a:Nat):Int))) 0)))) (ah (aa (List.getD d (Int.toNat ((((c:Nat):Int)*b)+((a:Nat):Int))) 0))) (ag (aa (List.getD e a 0))) (ab 0 (ae (aa (List.getD e a 0))) (ac (aa (List.getD e a 0)))) (ah (aa (List.getD e a 0)))))) (aU (am (ag (aa (List.getD d (Int.toNat ((((c:Nat):Int)*b)+((a:Nat):Int))) 0))) (ab 0 (ae (aa (List.getD d (Int.toNat ((((c:Nat):Int)*b)+((a:Nat):Int))) 0))) (ac (aa (List.getD d (Int.toNat ((((c:Nat):Int)*b)+((a:Nat):Int))) 0)))) (ah (aa (List.getD d (Int.toNat ((((c:Nat):Int)*b)+((a:Nat):Int))) 0))) (ag (aa (List.getD e a 0))) (ab 0 (ae (aa (List.getD e a 0))) (ac (aa (List.getD e a 0)))) (ah (aa (List.getD e a 0))))))),(t4 (fI h (ab 0 g f) i (aT (am (ag (aa (List.getD d (Int.toNat ((((c:Nat):Int)*b)+((a:Nat):Int))) 0))) (ab 0 (ae (aa (List.getD d (Int.toNat ((((c:Nat):Int)*b)+((a:Nat):Int))) 0))) (ac (aa (List.getD d (Int.toNat ((((c:Nat):Int)*b)+((a:Nat):Int))) 0)))) (ah (aa (List.getD d (Int.toNat ((((c:Nat):Int)*b)+((a:Nat):Int))) 0))) (ag (aa (List.getD e a 0))) (ab 0 (ae (aa (List.getD e a 0))) (ac (aa (List.getD e a 0)))) (ah (aa (List.getD e a 0))))) (ab 0 (aK (am (ag (aa (List.getD d (Int.toNat ((((c:Nat):Int)*b)+((a:Nat):Int))) 0))) (ab 0 (ae (aa (List.getD d (Int.toNat ((((c:Nat):Int)*b)+((a:Nat):Int))) 0))) (ac (aa (List.getD d (Int.toNat ((((c:Nat):Int)*b)+((a:Nat):Int))) 0)))) (ah (aa (List.getD d (Int.toNat ((((c:Nat):Int)*b)+((a:Nat):Int))) 0))) (ag (aa (List.getD e a 0))) (ab 0 (ae (aa (List.getD e a 0))) (ac (aa (List.getD e a 0)))) (ah (aa (List.getD e a 0))))) (aJ (am (ag (aa (List.getD d (Int.toNat ((((c:Nat):Int)*b)+((a:Nat):Int))) 0))) (ab 0 (ae (aa (List.getD d (Int.toNat ((((c:Nat):Int)*b)+((a:Nat):Int))) 0))) (ac (aa (List.getD d (Int.toNat ((((c:Nat):Int)*b)+((a:Nat):Int))) 0)))) (ah (aa (List.getD d (Int.toNat ((((c:Nat):Int)*b)+((a:Nat):Int))) 0))) (ag (aa (List.getD e a 0))) (ab 0 (ae (aa (List.getD e a 0))) (ac (aa (List.getD e a 0)))) (ah (aa (List.getD e a 0)))))) (aU (am (ag (aa (List.getD d (Int.toNat ((((c:Nat):Int)*b)+((a:Nat):Int))) 0))) (ab 0 (ae (aa (List.getD d (Int.toNat ((((c:Nat):Int)*b)+((a:Nat):Int))) 0))) (ac (aa (List.getD d (Int.toNat ((((c:Nat):Int)*b)+((a:Nat):Int))) 0)))) (ah (aa (List.getD d (Int.toNat ((((c:Nat):Int)*b)+((a:Nat):Int))) 0))) (ag (aa (List.getD e a 0))) (ab 0 (ae (aa (List.getD e a 0))) (ac (aa (List.getD e a 0)))) (ah (aa (List.getD e a 0))))))),(ua (fI h (ab 0 g f) i (aT (am (ag (aa (List.getD d (Int.toNat ((((c:Nat):Int)*b)+((a:Nat):Int))) 0))) (ab 0 (ae (aa (List.getD d (Int.toNat ((((c:Nat):Int)*b)+((a:Nat):Int))) 0))) (ac (aa (List.getD d (Int.toNat ((((c:Nat):Int)*b)+((a:Nat):Int))) 0)))) (ah (aa (List.getD d (Int.toNat ((((c:Nat):Int)*b)+((a:Nat):Int))) 0))) (ag (aa (List.getD e a 0))) (ab 0 (ae (aa (List.getD e a 0))) (ac (aa (List.getD e a 0)))) (ah (aa (List.getD e a 0))))) (ab 0 (aK (am (ag (aa (List.getD d (Int.toNat ((((c:Nat):Int)*b)+((a:Nat):Int))) 0))) (ab 0 (ae (aa (List.getD d (Int.toNat ((((c:Nat):Int)*b)+((a:Nat):Int))) 0))) (ac (aa (List.getD d (Int.toNat ((((c:Nat):Int)*b)+((a:Nat):Int))) 0)))) (ah (aa (List.getD d (Int.toNat ((((c:Nat):Int)*b)+((a:Nat):Int))) 0))) (ag (aa (List.getD e a 0))) (ab 0 (ae (aa (List.getD e a 0))) (ac (aa (List.getD e a 0)))) (ah (aa (List.getD e a 0))))) (aJ (am (ag (aa (List.getD d (Int.toNat ((((c:Nat):Int)*b)+((a:Nat):Int))) 0))) (ab 0 (ae (aa (List.getD d (Int.toNat ((((c:Nat):Int)*b)+((a:Nat):Int))) 0))) (ac (aa (List.getD d (Int.toNat ((((c:Nat):Int)*b)+((a:Nat):Int))) 0)))) (ah (aa (List.getD d (Int.toNat ((((c:Nat):Int)*b)+((a:Nat):Int))) 0))) (ag (aa (List.getD e a 0))) (ab 0 (ae (aa (List.getD e a 0))) (ac (aa (List.getD e a 0)))) (ah (aa (List.getD e a 0)))))) (aU (am (ag (aa (List.getD d (Int.toNat ((((c:Nat):Int)*b)+((a:Nat):Int))) 0))) (ab 0 (ae (aa (List.getD d (Int.toNat ((((c:Nat):Int)*b)+((a:Nat):Int))) 0))) (ac (aa (List.getD d (Int.toNat ((((c:Nat):Int)*b)+((a:Nat):Int))) 0)))) (ah (aa (List.getD d (Int.toNat ((((c:Nat):Int)*b)+((a:Nat):Int))) 0))) (ag (aa (List.getD e a 0))) (ab 0 (ae (aa (List.getD e a 0))) (ac (aa (List.getD e a 0)))) (ah (aa (List.getD e a 0))))))),(ub (fI h (ab 0 g f) i (aT (am (ag (aa (List.getD d (Int.toNat ((((c:Nat):Int)*b)+((a:Nat):Int))) 0))) (ab 0 (ae (aa (List.getD d (Int.toNat ((((c:Nat):Int)*b)+((a:Nat):Int))) 0))) (ac (aa (List.getD d (Int.toNat ((((c:Nat):Int)*b)+((a:Nat):Int))) 0)))) (ah (aa (List.getD d (Int.toNat ((((c:Nat):Int)*b)+((a:Nat):Int))) 0))) (ag (aa (List.getD e a 0))) (ab 0 (ae (aa (List.getD e a 0))) (ac (aa (List.getD e a 0)))) (ah (aa (List.getD e a 0))))) (ab 0 (aK (am (ag (aa (List.getD d (Int.toNat ((((c:Nat):Int)*b)+((a:Nat):Int))) 0))) (ab 0 (ae (aa (List.getD d (Int.toNat ((((c:Nat):Int)*b)+((a:Nat):Int))) 0))) (ac (aa (List.getD d (Int.toNat ((((c:Nat):Int)*b)+((a:Nat):Int))) 0)))) (ah (aa (List.getD d (Int.toNat ((((c:Nat):Int)*b)+((a:Nat):Int))) 0))) (ag (aa (List.getD e a 0))) (ab 0 (ae (aa (List.getD e a 0))) (ac (aa (List.getD e a 0)))) (ah (aa (List.getD e a 0))))) (aJ (am (ag (aa (List.getD d (Int.toNat ((((c:Nat):Int)*b)+((a:Nat):Int))) 0))) (ab 0 (ae (aa (List.getD d (Int.toNat ((((c:Nat):Int)*b)+((a:Nat):Int))) 0))) (ac (aa (List.getD d (Int.toNat ((((c:Nat):Int)*b)+((a:Nat):Int))) 0)))) (ah (aa (List.getD d (Int.toNat ((((c:Nat):Int)*b)+((a:Nat):Int))) 0))) (ag (aa (List.getD e a 0))) (ab 0 (ae (aa (List.getD e a 0))) (ac (aa (List.getD e a 0)))) (ah (aa (List.getD e a 0)))))) (aU (am (ag (aa (List.getD d (Int.toNat ((((c:Nat):Int)*b)+((a:Nat):Int))) 0))) (ab 0 (ae (aa (List.getD d (Int.toNat ((((c:Nat):Int)*b)+((a:Nat):Int))) 0))) (ac (aa (List.getD d (Int.toNat ((((c:Nat):Int)*b)+((a:Nat):Int))) 0)))) (ah (aa (List.getD d (Int.toNat ((((c:Nat):Int)*b)+((a:Nat):Int))) 0))) (ag (aa (List.getD e a 0))) (ab 0 (ae (aa (List.getD e a 0))) (ac (aa (List.getD e a 0)))) (ah (aa (List.getD e a 0)))))))))
def uK(g:Bool)(e:List Int)(f:Nat)(h:Int)(c:Bool)(a:List Int)(b:Nat)(d:Int) :T ((Bool×(List Int)×Nat×Int)⊕((Bool×(List Int)×Nat×Int)⊕((Bool×(List Int)×Nat×Int)⊕((Bool×(List Int)×Nat×Int)⊕((Bool×(List Int)×Nat×Int)⊕(bv)))))) :=
  .need (aG 0 b a)<|.need (aG 0 b a)<|.need (c8 (am c (ab 0 b a) d c (ab 0 b a) d))<|.need (aG 0 f e)<|.need (aG 0 (aK (am c (ab 0 b a) d c (ab 0 b a) d)) (aJ (am c (ab 0 b a) d c (ab 0 b a) d)))<|.need (nZ (bR g (ab 0 f e) h (aT (am c (ab 0 b a) d c (ab 0 b a) d)) (ab 0 (aK (am c (ab 0 b a) d c (ab 0 b a) d)) (aJ (am c (ab 0 b a) d c (ab 0 b a) d))) (aU (am c (ab 0 b a) d c (ab 0 b a) d))))<|.leaf (.inl ((mI (bR g (ab 0 f e) h (aT (am c (ab 0 b a) d c (ab 0 b a) d)) (ab 0 (aK (am c (ab 0 b a) d c (ab 0 b a) d)) (aJ (am c (ab 0 b a) d c (ab 0 b a) d))) (aU (am c (ab 0 b a) d c (ab 0 b a) d)))),(mJ (bR g (ab 0 f e) h (aT (am c (ab 0 b a) d c (ab 0 b a) d)) (ab 0 (aK (am c (ab 0 b a) d c (ab 0 b a) d)) (aJ (am c (ab 0 b a) d c (ab 0 b a) d))) (aU (am c (ab 0 b a) d c (ab 0 b a) d)))),(mK (bR g (ab 0 f e) h (aT (am c (ab 0 b a) d c (ab 0 b a) d)) (ab 0 (aK (am c (ab 0 b a) d c (ab 0 b a) d)) (aJ (am c (ab 0 b a) d c (ab 0 b a) d))) (aU (am c (ab 0 b a) d c (ab 0 b a) d)))),(mL (bR g (ab 0 f e) h (aT (am c (ab 0 b a) d c (ab 0 b a) d)) (ab 0 (aK (am c (ab 0 b a) d c (ab 0 b a) d)) (aJ (am c (ab 0 b a) d c (ab 0 b a) d))) (aU (am c (ab 0 b a) d c (ab 0 b a) d))))))
def PF(a:Nat)(b:Bool)(c:List Int)(d:Nat)(e:Int) :T ((Nat×Bool×(List Int)×Nat×Int)⊕((Bool×(List Int)×Nat×Int)⊕((Bool×(List Int)×Nat×Int)⊕((Bool×(List Int)×Nat×Int)⊕(bv))))) :=
  .need (di .i64 (((a+1):Nat):Int))<|.leaf (.inl ((a+1),b,c,d,e))
def pt(h:Int)(i:List Nat)(j:Int)(k:List Nat)(b:Int)(l:List Nat)(m:List Nat)(c:Nat) :Nat×Bool×(List Int)×Nat×Int→Option ((Nat×Bool×(List Int)×Nat×Int)⊕((Bool×(List Int)×Nat×Int)⊕((Bool×(List Int)×Nat×Int)⊕((Bool×(List Int)×Nat×Int)⊕(bv))))):=fun (a,d,e,f,g) =>
  aC ((uH b a d e f g).run) fun _ =>
  aC (Di (aC ((CM).run) fun (n,o,p,q) =>
  aC ((Pz).run) fun _ =>
  aC (dh (po h i j k c a) (0,n,o,p,q)) fun (r,s,t,u) =>
  aC ((uJ b l m c a r s t u).run) fun (v,w,x,y) =>
  (uK d e f g v w x y).run)) fun (z,A,B,C) =>
  (PF a z A B C).run
theorem PG(j:Int)(a:Int)(k:Lv)(b:List Nat)(l:Int)(c:Int)(m:Lv)(d:List Nat)(n:Int)(e:Int)(o:Lv)(f:List Nat)(p:Lv)(g:List Nat)(h:Bool)(i:Nat)(q:Nat)(r:Bool)(s:List Int)(t:Nat)(u:Int) :Sg prog [] CJ (uF j a k b l c m d n e o f p g h i (q,r,s,t,u)) (pt a b c d e f g i (q,r,s,t,u)) (uF j a k b l c m d n e o f p g h i) (cy 2 (uG j a k b l c m d n e o f p g h i) (cy 1 (uE j a k b l c m d n e o f p g h i) (cy 0 (pm h) mp))):=by
  unfold pt;exact Sg.cut 2 (az (az (az ca))) (bj cA (Pv j a k b l c m d n e o f p g h i q r s t u) [⟨[],[0,1,2,3,4],[3,4,5,6,8,9,10,11]⟩,⟨[],[0,1,2,3,4],[3,4,5,6,8,9,10]⟩]) (fun _=>Sg.cut 1 (az (az (az ca))) (sgb (CL j a k b l c m d n e o f p g h i q) 3 (az (az (az ca))) (cD (by decide) (cD (by decide) (cD (by decide) (n4 _)))) (Sg.cut 1 (az (az (az (az ca)))) (bj cA (Px j a k b l c m d n e o f p g h i q r s t u) [⟨[],[0,1,2,3,4,21],[3,4,5,6,8,9,10,11,12]⟩]) (fun ⟨v,w,x,y⟩=>Sg.cut 1 (az (az (az (az ca)))) (bj cA (Py j a k b l c m d n e o f p g h i q r s t u v w x y) [⟨[],[0,1,2,3,4,5],[3,4,5,6,8,9,10,11,12,13]⟩]) (fun _=>Sg.cut 1 (az (az (az (az ca)))) (AD ⟨[],[0,1,2,3,4,5],[3,4,5,6,8,9,10,11,12,13]⟩ (uI j a k b l c m d n e o f p g h i q r s t u) (CN j a k b l c m d n e o f p g h i q r s t u) 4 (az (az (az (az ca)))) (cD (by decide) (cD (by decide) (cD (by decide) (cD (by decide) (n4 _))))) (fun ⟨z,A,B,C,D⟩=>PD j a k b l c m d n e o f p g h i q r s t u z A B C D)) (fun ⟨E,F,G,H⟩=>Sg.cut 1 (az (az (az (az ca)))) (bj cA (PE j a k b l c m d n e o f p g h i q r s t u) [⟨[],[0,1,2,3,4,5],[3,4,5,6,8,9,10,11,12]⟩]) (fun ⟨I,J,K,L⟩=>bj cA _ [⟨[],[0,1,2,3,4],[3,4,5,6,8,9,10,11]⟩])))))) (fun ⟨M,N,O,P⟩=>bj cA _ [⟨[],[0,1,2,3,4],[3,4,5,6,8,9,10,11]⟩]))
def PH(a:Bool)(b:List Int)(c:Nat)(d:Int) :T ((Bool×(List Int)×Nat×Int)⊕((Bool×(List Int)×Nat×Int)⊕((Bool×(List Int)×Nat×Int)⊕(bv)))) :=
  .leaf (.inl (a,b,c,d))
def PI(a:Nat)(b:Bool)(c:List Int)(d:Nat)(e:Int) :T ((Nat×Bool×(List Int)×Nat×Int)⊕((Bool×(List Int)×Nat×Int)⊕(bv))) :=
  .need (di .i64 (((a+1):Nat):Int))<|.leaf (.inl ((a+1),b,c,d,e))
def uL(f:Int)(g:List Nat)(h:Int)(i:List Nat)(j:Int)(k:Int)(l:List Nat)(m:List Nat) :Nat×Bool×(List Int)×Nat×Int→Option ((Nat×Bool×(List Int)×Nat×Int)⊕((Bool×(List Int)×Nat×Int)⊕(bv))):=fun (a,b,c,d,e) =>
  aC ((uD j a b c d e).run) fun _ =>
  aC (Di (aC ((Pu).run) fun _ =>
  aC (dh (pt f g h i k l m a) (0,b,c,d,e)) fun (n,o,p,q) =>
  (PH n o p q).run)) fun (r,s,t,u) =>
  (PI a r s t u).run
theorem PJ(j:Int)(a:Int)(k:Lv)(b:List Nat)(l:Int)(c:Int)(m:Lv)(d:List Nat)(e:Int)(f:Int)(n:Lv)(g:List Nat)(o:Lv)(h:List Nat)(i:Bool)(p:Nat)(q:Bool)(r:List Int)(s:Nat)(t:Int) :Sg prog [] CI (uC j a k b l c m d e f n g o h i (p,q,r,s,t)) (uL a b c d e f g h (p,q,r,s,t)) (uC j a k b l c m d e f n g o h i) (cy 0 (pm i) mp):=by
  unfold uL;exact Sg.cut 2 (az ca) (bj cA (Pr j a k b l c m d e f n g o h i p q r s t) [⟨[],[0,1,2,3,4],[3,4,5,6,8,9,10]⟩,⟨[],[3,4],[8,9]⟩]) (fun _=>Sg.cut 1 (az ca) (sgb (uE j a k b l c m d e f n g o h i p) 1 (az ca) (cD (by decide) (n4 _)) (Sg.cut 1 (az (az ca)) (bj cA (Pt j a k b l c m d e f n g o h i p q r s t) [⟨[],[0,1,2,3,4],[3,4,5,6,8,9,10,11]⟩]) (fun _=>Sg.cut 1 (az (az ca)) (AD ⟨[],[0,1,2,3,4],[3,4,5,6,8,9,10,11]⟩ (uF j a k b l c m d e f n g o h i p) (uG j a k b l c m d e f n g o h i p) 2 (az (az ca)) (cD (by decide) (cD (by decide) (n4 _))) (fun ⟨u,v,w,x,y⟩=>PG j a k b l c m d e f n g o h i p u v w x y)) (fun ⟨z,A,B,C⟩=>bj cA _ [⟨[],[0,1,2,3,4],[3,4,5,6,8,9,10]⟩])))) (fun ⟨D,E,F,G⟩=>bj cA _ [⟨[],[0,1,2,3,4],[3,4,5,6,8,9,10]⟩]))
def PK(a:Bool)(b:List Int)(c:Nat)(d:Int) :T ((Empty)⊕(bv)) :=
  .leaf (.inr (.r0 a b c d))
def bE(a:Int)(b:List Nat)(c:Int)(d:List Nat)(e:Int)(f:Int)(g:List Nat)(h:List Nat) :Option bv:=jM (aC ((CH).run) fun (q,i,j,k,l) =>
  aC ((Pq).run) fun _ =>
  aC (dh (uL a b c d e f g h) (0,i,j,k,l)) fun (m,n,o,p) =>
  (PK m n o p).run)
theorem SE(j:Int)(e:Int)(k:Lv)(a:List Nat)(l:Int)(f:Int)(m:Lv)(b:List Nat)(g:Int)(i:Int)(n:Lv)(c:List Nat)(o:Lv)(d:List Nat){x:bv}(h:bE e a f b g i c d=some x) :ay prog rr [] [.agg [.int .i64 j,.int .i64 e,.imm k (.fl a) 1 1 0 (List.length a)],.agg [.int .i64 l,.int .i64 f,.imm m (.fl b) 1 1 0 (List.length b)],.agg [.int .i64 g,.int .i64 i,.imm n (.fl c) 1 1 0 (List.length c)],.imm o (.fl d) 1 1 0 (List.length d)] (ya x) :=
  kf true ya mp h (Sg.cut 2 ca (bj cA (SC j e k a l f m b g i n c o d) [⟨[],[0,16,32,48,80],[3,4,5,6,8,9]⟩]) (fun ⟨p,q,r,s,t⟩=>Sg.cut 1 ca (bj cA (SD j e k a l f m b g i n c o d p q r s t) [⟨[],[0,1,2,3,4],[3,4,5,6,8,9,10]⟩]) (fun _=>Sg.cut 1 ca (AD ⟨[],[0,1,2,3,4],[3,4,5,6,8,9,10]⟩ (uC j e k a l f m b g i n c o d p) (pm p) 0 ca (n4 _) (fun ⟨u,v,w,y,z⟩=>PJ j e k a l f m b g i n c o d p u v w y z)) (fun ⟨E,F,G,H⟩=>bj cA _ [⟨[],[0],[8]⟩]))))
    (fun x=>by cases x with | r0 A B C D=>exact jN [.agg [.bool false A,.imm .free (.ns .u64 B) 1 1 0 C,.int .i64 D]])
def lh:Option bv→Bool
  | some _=>true
  | none=>false
def gV:Option bv→Bool
  | some (.r0 x _ _ _)=>x
  | _=>false
def eB:Option bv→List Int
  | some (.r0 _ x _ _)=>x
  | _=>[]
def eC:Option bv→Nat
  | some (.r0 _ _ x _)=>x
  | _=>0
def gW:Option bv→Int
  | some (.r0 _ _ _ x)=>x
  | _=>0
theorem SF{x:Option bv}(h:lh x=true) :x=some (.r0 (gV x) (eB x) (eC x) (gW x)):=by
  unfold lh at h
  split at h<;>first | rfl | (cases h;done) | (rename_i y;cases y;rfl)
def Gi:aM:=bK rr (.cons (.agg (.cons (.int .i64) (.cons (.int .i64) (.cons .fl .nil)))) (.cons (.agg (.cons (.int .i64) (.cons (.int .i64) (.cons .fl .nil)))) (.cons (.agg (.cons (.int .i64) (.cons (.int .i64) (.cons .fl .nil)))) (.cons .fl .nil)))) fun t=>(fun q=>[⟨ya (.r0 (gV q) (eB q) (eC q) (gW q)),[lh q]⟩]) (bE t.1.2.1 t.1.2.2.1.2 t.2.1.2.1 t.2.1.2.2.1.2 t.2.2.1.1 t.2.2.1.2.1 t.2.2.1.2.2.1.2 t.2.2.2.1.2)
theorem Mg:aY prog Gi:=aR fun t=>(aS (fun h=>SE t.1.1 t.1.2.1 t.1.2.2.1.1 t.1.2.2.1.2 t.2.1.1 t.2.1.2.1 t.2.1.2.2.1.1 t.2.1.2.2.1.2 t.2.2.1.1 t.2.2.1.2.1 t.2.2.1.2.2.1.1 t.2.2.1.2.2.1.2 t.2.2.2.1.1 t.2.2.2.1.2 (SF h)) bc)
def Gj:List aM:=Gi::Lo
theorem rY:be prog (bh Gj):=ax Mg cA
inductive kL where
  | r0 (a:Bool)
def SG:kL→AE×aQ
  | .r0 a=>(.ret,⟨an 15 [(4,.bool false a)],[],0⟩)
theorem agd:jJ SG:=by intro x;cases x<;>(intro h;cases h)
def Iy:kL→gM
  | .r0 a=>⟨.bool false a,[]⟩
def age(a:Int) :aQ:=⟨an 15 [(5,.int .i64 a)],[],0⟩
def NY(c:Bool)(a:List Int)(d:Int)(e:Bool)(b:List Int)(f:Int) :T ((Int)⊕(kL)) :=
  .need (aG 0 (List.length a) a)<|.need (aG 0 (List.length b) b)<|.need (AW (zj c (ab 0 (List.length a) a) d e (ab 0 (List.length b) b) f))<|.leaf (.inl (BX (zj c (ab 0 (List.length a) a) d e (ab 0 (List.length b) b) f)))
def agf(a:Int) :T ((Empty)⊕(kL)) :=
  .leaf (.inr (.r0 (decide (a≤(0:Int)))))
def iT(a:Bool)(b:List Int)(c:Int)(d:Bool)(e:List Int)(f:Int) :Option kL:=jM (aC ((NY a b c d e f).run) fun g =>
  (agf g).run)
theorem agh(c:Bool)(g:Lv)(a:List Int)(d:Int)(e:Bool)(i:Lv)(b:List Int)(f:Int){x:kL}(h:iT c a d e b f=some x) :ay prog GX [] [.agg [.bool false c,.imm g (.ns .u64 a) 1 1 0 (List.length a),.int .i64 d],.agg [.bool false e,.imm i (.ns .u64 b) 1 1 0 (List.length b),.int .i64 f]] (Iy x) :=
  kf true Iy SG h (Sg.cut 2 agd (bj rY age [⟨[],[],[5]⟩]) (fun k=>bj rY _ [⟨[],[],[4]⟩]))
    (fun x=>by cases x with | r0 j=>exact jN [.bool false j])
def oi:Option kL→Bool
  | some _=>true
  | none=>false
def ni:Option kL→Bool
  | some (.r0 x)=>x
  | _=>false
theorem agi{x:Option kL}(h:oi x=true) :x=some (.r0 (ni x)):=by
  unfold oi at h
  split at h<;>first | rfl | (cases h;done) | (rename_i y;cases y;rfl)
def SH:aM:=bK GX (.cons (.agg (.cons .bool (.cons (.ns .u64) (.cons (.int .i64) .nil)))) (.cons (.agg (.cons .bool (.cons (.ns .u64) (.cons (.int .i64) .nil)))) .nil)) fun t=>(fun q=>[⟨Iy (.r0 (ni q)),[oi q]⟩]) (iT t.1.1 t.1.2.1.2 t.1.2.2.1 t.2.1.1 t.2.1.2.1.2 t.2.1.2.2.1)
theorem XH:aY prog SH:=aR fun t=>(aS (fun h=>agh t.1.1 t.1.2.1.1 t.1.2.1.2 t.1.2.2.1 t.2.1.1 t.2.1.2.1.1 t.2.1.2.1.2 t.2.1.2.2.1 (agi h)) bc)
def SI:List aM:=SH::Gj
theorem ud:be prog (bh SI):=ax XH rY
inductive jF where
  | r0 (a:Bool) (b:Int)
def SJ:jF→AE×aQ
  | .r0 a b=>(.ret,⟨an 19 [(3,.bool false a),(4,.int .i64 b)],[],0⟩)
theorem NZ:jJ SJ:=by intro x;cases x<;>(intro h;cases h)
def Iz:jF→gM
  | .r0 a b=>⟨.tup [.bool false a,.int .i64 b],[]⟩
def agj(c:Lv)(d:Bool)(e:Lv)(a:List Int)(f:Int)(g:Lv)(h:Bool)(i:Lv)(b:List Int)(j:Int) :Nat×Bool×(List Int)×Nat×Nat×Int→aQ:=fun (k,l,m,n,o,p)=>⟨an 19 [(1,.iptr c (.vs [.bool false d,.imm e (.ns .u64 a) 1 1 0 (List.length a),.int .i64 f]) 1 0 0),(2,.iptr g (.vs [.bool false h,.imm i (.ns .u64 b) 1 1 0 (List.length b),.int .i64 j]) 1 0 0),(5,.ptr 0 1 0 0),(6,.int .i64 ((k:Nat):Int))],[(0,.vs [.bool false l,.imm .free (.ns .u64 m) 1 1 n o,.int .i64 p])],1⟩
def N0(b:Int)(c:Int)(a:List Nat) :T ((Nat×Bool×(List Int)×Nat×Nat×Int)⊕(jF)) :=
  .need (aG 0 (List.length a) a)<|.need (rO (da b c (ab 0 (List.length a) a)))<|.leaf (.inl ((ra (da b c (ab 0 (List.length a) a))),(rb (da b c (ab 0 (List.length a) a))),(rc (da b c (ab 0 (List.length a) a))),(re (da b c (ab 0 (List.length a) a))),(rf (da b c (ab 0 (List.length a) a))),(rg (da b c (ab 0 (List.length a) a)))))
def agk:Bool×Int→aQ:=fun (a,b)=>⟨an 19 [(3,.bool false a),(4,.int .i64 b)],[],0⟩
def FF(f:Bool)(a:List Int)(g:Int)(h:Bool)(b:List Int)(i:Int)(j:Nat)(k:Bool)(c:List Int)(d:Nat)(e:Nat)(l:Int) :T ((Bool×Int)⊕(jF)) :=
  .need (aG d e c)<|.need (aG 0 (List.length a) a)<|.need (aG 0 (List.length b) b)<|.need (kJ (cw k (ab d e c) l ((j:Nat):Int) f (ab 0 (List.length a) a) g h (ab 0 (List.length b) b) i))<|.leaf (.inl ((jS (cw k (ab d e c) l ((j:Nat):Int) f (ab 0 (List.length a) a) g h (ab 0 (List.length b) b) i)),(jT (cw k (ab d e c) l ((j:Nat):Int) f (ab 0 (List.length a) a) g h (ab 0 (List.length b) b) i))))
def agl(a:Bool)(b:Int) :T ((Empty)⊕(jF)) :=
  .leaf (.inr (.r0 a b))
def n5(a:Int)(b:Int)(c:List Nat)(d:Bool)(e:List Int)(f:Int)(g:Bool)(h:List Int)(i:Int) :Option jF:=jM (aC ((N0 a b c).run) fun (j,k,l,m,n,o) =>
  aC ((FF d e f g h i j k l m n o).run) fun (p,q) =>
  (agl p q).run)
theorem agm(o:Lv)(i:Int)(j:Int)(p:Lv)(c:List Nat)(k:Lv)(d:Bool)(l:Lv)(a:List Int)(e:Int)(m:Lv)(f:Bool)(n:Lv)(b:List Int)(g:Int){x:jF}(h:n5 i j c d a e f b g=some x) :ay prog Qr [] [.iptr o (.vs [.int .i64 i,.int .i64 j,.imm p (.fl c) 1 1 0 (List.length c)]) 1 0 0,.iptr k (.vs [.bool false d,.imm l (.ns .u64 a) 1 1 0 (List.length a),.int .i64 e]) 1 0 0,.iptr m (.vs [.bool false f,.imm n (.ns .u64 b) 1 1 0 (List.length b),.int .i64 g]) 1 0 0] (Iz x) :=
  kf false Iz SJ h (Sg.cut 2 NZ (bj ud (agj k d l a e m f n b g) [⟨[],[112],[1,2,5,6]⟩]) (fun ⟨s,t,u,v,w,y⟩=>Sg.cut 1 NZ (bj ud agk [⟨[],[],[3,4]⟩]) (fun ⟨z,A⟩=>bj ud _ [⟨[],[],[3,4]⟩])))
    (fun x=>by cases x with | r0 q r=>exact jN [.bool false q,.int .i64 r])
def tk:Option jF→Bool
  | some _=>true
  | none=>false
def ue:Option jF→Bool
  | some (.r0 x _)=>x
  | _=>false
def nj:Option jF→Int
  | some (.r0 _ x)=>x
  | _=>0
theorem agn{x:Option jF}(h:tk x=true) :x=some (.r0 (ue x) (nj x)):=by
  unfold tk at h
  split at h<;>first | rfl | (cases h;done) | (rename_i y;cases y;rfl)
def SK:aM:=bK Qr (.cons (.ivs (.cons (.int .i64) (.cons (.int .i64) (.cons .fl .nil))) 1 0 0) (.cons (.ivs (.cons .bool (.cons (.ns .u64) (.cons (.int .i64) .nil))) 1 0 0) (.cons (.ivs (.cons .bool (.cons (.ns .u64) (.cons (.int .i64) .nil))) 1 0 0) .nil))) fun t=>(fun q=>[⟨Iz (.r0 (ue q) (nj q)),[tk q]⟩]) (n5 t.1.2.1 t.1.2.2.1 t.1.2.2.2.1.2 t.2.1.2.1 t.2.1.2.2.1.2 t.2.1.2.2.2.1 t.2.2.1.2.1 t.2.2.1.2.2.1.2 t.2.2.1.2.2.2.1)
theorem XI:aY prog SK:=aR fun t=>(aS (fun h=>agm t.1.1 t.1.2.1 t.1.2.2.1 t.1.2.2.2.1.1 t.1.2.2.2.1.2 t.2.1.1 t.2.1.2.1 t.2.1.2.2.1.1 t.2.1.2.2.1.2 t.2.1.2.2.2.1 t.2.2.1.1 t.2.2.1.2.1 t.2.2.1.2.2.1.1 t.2.2.1.2.2.1.2 t.2.2.1.2.2.2.1 (agn h)) bc)
def SL:List aM:=SK::SI
theorem uf:be prog (bh SL):=ax XI ud
inductive jG where
  | r0 (a:Bool) (b:Int)
def SM:jG→AE×aQ
  | .r0 a b=>(.ret,⟨an 19 [(3,.bool false a),(4,.int .i64 b)],[],0⟩)
theorem N2:jJ SM:=by intro x;cases x<;>(intro h;cases h)
def IA:jG→gM
  | .r0 a b=>⟨.tup [.bool false a,.int .i64 b],[]⟩
def ago(c:Lv)(d:Bool)(e:Lv)(a:List Int)(f:Int)(g:Lv)(h:Bool)(i:Lv)(b:List Int)(j:Int) :Nat×Bool×(List Int)×Nat×Nat×Int→aQ:=fun (k,l,m,n,o,p)=>⟨an 19 [(1,.iptr c (.vs [.bool false d,.imm e (.ns .u64 a) 1 1 0 (List.length a),.int .i64 f]) 1 0 0),(2,.iptr g (.vs [.bool false h,.imm i (.ns .u64 b) 1 1 0 (List.length b),.int .i64 j]) 1 0 0),(5,.ptr 0 1 0 0),(6,.int .i64 ((k:Nat):Int))],[(0,.vs [.bool false l,.imm .free (.ns .u64 m) 1 1 n o,.int .i64 p])],1⟩
def N3(b:Int)(c:Int)(a:List Nat) :T ((Nat×Bool×(List Int)×Nat×Nat×Int)⊕(jG)) :=
  .need (aG 0 (List.length a) a)<|.need (rO (da b c (ab 0 (List.length a) a)))<|.leaf (.inl ((ra (da b c (ab 0 (List.length a) a))),(rb (da b c (ab 0 (List.length a) a))),(rc (da b c (ab 0 (List.length a) a))),(re (da b c (ab 0 (List.length a) a))),(rf (da b c (ab 0 (List.length a) a))),(rg (da b c (ab 0 (List.length a) a)))))
def agp:Bool×Int→aQ:=fun (a,b)=>⟨an 19 [(3,.bool false a),(4,.int .i64 b)],[],0⟩
def FG(f:Bool)(a:List Int)(g:Int)(h:Bool)(b:List Int)(i:Int)(j:Nat)(k:Bool)(c:List Int)(d:Nat)(e:Nat)(l:Int) :T ((Bool×Int)⊕(jG)) :=
  .need (aG d e c)<|.need (aG 0 (List.length a) a)<|.need (aG 0 (List.length b) b)<|.need (kJ (cw k (ab d e c) l ((j:Nat):Int) f (ab 0 (List.length a) a) g h (ab 0 (List.length b) b) i))<|.leaf (.inl ((jS (cw k (ab d e c) l ((j:Nat):Int) f (ab 0 (List.length a) a) g h (ab 0 (List.length b) b) i)),(jT (cw k (ab d e c) l ((j:Nat):Int) f (ab 0 (List.length a) a) g h (ab 0 (List.length b) b) i))))
def agq(a:Bool)(b:Int) :T ((Empty)⊕(jG)) :=
  .leaf (.inr (.r0 a b))
def n6(a:Int)(b:Int)(c:List Nat)(d:Bool)(e:List Int)(f:Int)(g:Bool)(h:List Int)(i:Int) :Option jG:=jM (aC ((N3 a b c).run) fun (j,k,l,m,n,o) =>
  aC ((FG d e f g h i j k l m n o).run) fun (p,q) =>
  (agq p q).run)
theorem agr(o:Lv)(i:Int)(j:Int)(p:Lv)(c:List Nat)(k:Lv)(d:Bool)(l:Lv)(a:List Int)(e:Int)(m:Lv)(f:Bool)(n:Lv)(b:List Int)(g:Int){x:jG}(h:n6 i j c d a e f b g=some x) :ay prog Qs [] [.iptr o (.vs [.int .i64 i,.int .i64 j,.imm p (.fl c) 1 1 0 (List.length c)]) 1 0 0,.iptr k (.vs [.bool false d,.imm l (.ns .u64 a) 1 1 0 (List.length a),.int .i64 e]) 1 0 0,.iptr m (.vs [.bool false f,.imm n (.ns .u64 b) 1 1 0 (List.length b),.int .i64 g]) 1 0 0] (IA x) :=
  kf false IA SM h (Sg.cut 2 N2 (bj uf (ago k d l a e m f n b g) [⟨[],[112],[1,2,5,6]⟩]) (fun ⟨s,t,u,v,w,y⟩=>Sg.cut 1 N2 (bj uf agp [⟨[],[],[3,4]⟩]) (fun ⟨z,A⟩=>bj uf _ [⟨[],[],[3,4]⟩])))
    (fun x=>by cases x with | r0 q r=>exact jN [.bool false q,.int .i64 r])
def tm:Option jG→Bool
  | some _=>true
  | none=>false
def ug:Option jG→Bool
  | some (.r0 x _)=>x
  | _=>false
def nk:Option jG→Int
  | some (.r0 _ x)=>x
  | _=>0
theorem ags{x:Option jG}(h:tm x=true) :x=some (.r0 (ug x) (nk x)):=by
  unfold tm at h
  split at h<;>first | rfl | (cases h;done) | (rename_i y;cases y;rfl)
def SN:aM:=bK Qs (.cons (.ivs (.cons (.int .i64) (.cons (.int .i64) (.cons .fl .nil))) 1 0 0) (.cons (.ivs (.cons .bool (.cons (.ns .u64) (.cons (.int .i64) .nil))) 1 0 0) (.cons (.ivs (.cons .bool (.cons (.ns .u64) (.cons (.int .i64) .nil))) 1 0 0) .nil))) fun t=>(fun q=>[⟨IA (.r0 (ug q) (nk q)),[tm q]⟩]) (n6 t.1.2.1 t.1.2.2.1 t.1.2.2.2.1.2 t.2.1.2.1 t.2.1.2.2.1.2 t.2.1.2.2.2.1 t.2.2.1.2.1 t.2.2.1.2.2.1.2 t.2.2.1.2.2.2.1)
theorem XJ:aY prog SN:=aR fun t=>(aS (fun h=>agr t.1.1 t.1.2.1 t.1.2.2.1 t.1.2.2.2.1.1 t.1.2.2.2.1.2 t.2.1.1 t.2.1.2.1 t.2.1.2.2.1.1 t.2.1.2.2.1.2 t.2.1.2.2.2.1 t.2.2.1.1 t.2.2.1.2.1 t.2.2.1.2.2.1.1 t.2.2.1.2.2.1.2 t.2.2.1.2.2.2.1 (ags h)) bc)
def SO:List aM:=SN::SL
theorem uh:be prog (bh SO):=ax XJ uf
inductive jH where
  | r0 (a:Bool) (b:Int)
def SP:jH→AE×aQ
  | .r0 a b=>(.ret,⟨an 25 [(6,.bool false a),(7,.int .i64 b)],[],0⟩)
theorem N4:jJ SP:=by intro x;cases x<;>(intro h;cases h)
def IB:jH→gM
  | .r0 a b=>⟨.tup [.bool false a,.int .i64 b],[]⟩
def agt(c:Lv)(d:Bool)(e:Lv)(a:List Int)(f:Int)(g:Lv)(h:Bool)(i:Lv)(b:List Int)(j:Int) :Nat×Bool×(List Int)×Nat×Nat×Int→aQ:=fun (k,l,m,n,o,p)=>⟨an 25 [(4,.iptr c (.vs [.bool false d,.imm e (.ns .u64 a) 1 1 0 (List.length a),.int .i64 f]) 1 0 0),(5,.iptr g (.vs [.bool false h,.imm i (.ns .u64 b) 1 1 0 (List.length b),.int .i64 j]) 1 0 0),(8,.ptr 0 1 0 0),(9,.int .i64 ((k:Nat):Int))],[(0,.vs [.bool false l,.imm .free (.ns .u64 m) 1 1 n o,.int .i64 p])],1⟩
def N5(e:Int)(f:Int)(a:List Nat)(g:Int)(h:Int)(b:List Nat)(i:Int)(j:Int)(c:List Nat)(d:List Nat) :T ((Nat×Bool×(List Int)×Nat×Nat×Int)⊕(jH)) :=
  .need (aG 0 (List.length a) a)<|.need (aG 0 (List.length b) b)<|.need (aG 0 (List.length c) c)<|.need (aG 0 (List.length d) d)<|.need (ml (bN e f (ab 0 (List.length a) a) g h (ab 0 (List.length b) b) i j (ab 0 (List.length c) c) (ab 0 (List.length d) d)))<|.leaf (.inl ((mC (bN e f (ab 0 (List.length a) a) g h (ab 0 (List.length b) b) i j (ab 0 (List.length c) c) (ab 0 (List.length d) d))),(mD (bN e f (ab 0 (List.length a) a) g h (ab 0 (List.length b) b) i j (ab 0 (List.length c) c) (ab 0 (List.length d) d))),(mE (bN e f (ab 0 (List.length a) a) g h (ab 0 (List.length b) b) i j (ab 0 (List.length c) c) (ab 0 (List.length d) d))),(mF (bN e f (ab 0 (List.length a) a) g h (ab 0 (List.length b) b) i j (ab 0 (List.length c) c) (ab 0 (List.length d) d))),(mG (bN e f (ab 0 (List.length a) a) g h (ab 0 (List.length b) b) i j (ab 0 (List.length c) c) (ab 0 (List.length d) d))),(mH (bN e f (ab 0 (List.length a) a) g h (ab 0 (List.length b) b) i j (ab 0 (List.length c) c) (ab 0 (List.length d) d)))))
def agu:Bool×Int→aQ:=fun (a,b)=>⟨an 25 [(6,.bool false a),(7,.int .i64 b)],[],0⟩
def FH(f:Bool)(a:List Int)(g:Int)(h:Bool)(b:List Int)(i:Int)(j:Nat)(k:Bool)(c:List Int)(d:Nat)(e:Nat)(l:Int) :T ((Bool×Int)⊕(jH)) :=
  .need (aG d e c)<|.need (aG 0 (List.length a) a)<|.need (aG 0 (List.length b) b)<|.need (kJ (cw k (ab d e c) l ((j:Nat):Int) f (ab 0 (List.length a) a) g h (ab 0 (List.length b) b) i))<|.leaf (.inl ((jS (cw k (ab d e c) l ((j:Nat):Int) f (ab 0 (List.length a) a) g h (ab 0 (List.length b) b) i)),(jT (cw k (ab d e c) l ((j:Nat):Int) f (ab 0 (List.length a) a) g h (ab 0 (List.length b) b) i))))
def agv(a:Bool)(b:Int) :T ((Empty)⊕(jH)) :=
  .leaf (.inr (.r0 a b))
def n7(a:Int)(b:Int)(c:List Nat)(d:Int)(e:Int)(f:List Nat)(g:Int)(h:Int)(i:List Nat)(j:List Nat)(k:Bool)(l:List Int)(m:Int)(n:Bool)(o:List Int)(p:Int) :Option jH:=jM (aC ((N5 a b c d e f g h i j).run) fun (q,r,s,t,u,v) =>
  aC ((FH k l m n o p q r s t u v).run) fun (w,x) =>
  (agv w x).run)
theorem agw(v:Lv)(l:Int)(m:Int)(w:Lv)(c:List Nat)(y:Lv)(n:Int)(o:Int)(z:Lv)(d:List Nat)(A:Lv)(p:Int)(q:Int)(B:Lv)(e:List Nat)(C:Lv)(D:Lv)(f:List Nat)(r:Lv)(g:Bool)(s:Lv)(a:List Int)(i:Int)(t:Lv)(j:Bool)(u:Lv)(b:List Int)(k:Int){x:jH}(h:n7 l m c n o d p q e f g a i j b k=some x) :ay prog Qt [] [.iptr v (.vs [.int .i64 l,.int .i64 m,.imm w (.fl c) 1 1 0 (List.length c)]) 1 0 0,.iptr y (.vs [.int .i64 n,.int .i64 o,.imm z (.fl d) 1 1 0 (List.length d)]) 1 0 0,.iptr A (.vs [.int .i64 p,.int .i64 q,.imm B (.fl e) 1 1 0 (List.length e)]) 1 0 0,.iptr C (.vs [.imm D (.fl f) 1 1 0 (List.length f)]) 1 0 0,.iptr r (.vs [.bool false g,.imm s (.ns .u64 a) 1 1 0 (List.length a),.int .i64 i]) 1 0 0,.iptr t (.vs [.bool false j,.imm u (.ns .u64 b) 1 1 0 (List.length b),.int .i64 k]) 1 0 0] (IB x) :=
  kf false IB SP h (Sg.cut 2 N4 (bj uh (agt r g s a i t j u b k) [⟨[],[160],[4,5,8,9]⟩]) (fun ⟨G,H,I,J,K,L⟩=>Sg.cut 1 N4 (bj uh agu [⟨[],[],[6,7]⟩]) (fun ⟨M,N⟩=>bj uh _ [⟨[],[],[6,7]⟩])))
    (fun x=>by cases x with | r0 E F=>exact jN [.bool false E,.int .i64 F])
def tn:Option jH→Bool
  | some _=>true
  | none=>false
def ui:Option jH→Bool
  | some (.r0 x _)=>x
  | _=>false
def nm:Option jH→Int
  | some (.r0 _ x)=>x
  | _=>0
theorem agx{x:Option jH}(h:tn x=true) :x=some (.r0 (ui x) (nm x)):=by
  unfold tn at h
  split at h<;>first | rfl | (cases h;done) | (rename_i y;cases y;rfl)
def SQ:aM:=bK Qt (.cons (.ivs (.cons (.int .i64) (.cons (.int .i64) (.cons .fl .nil))) 1 0 0) (.cons (.ivs (.cons (.int .i64) (.cons (.int .i64) (.cons .fl .nil))) 1 0 0) (.cons (.ivs (.cons (.int .i64) (.cons (.int .i64) (.cons .fl .nil))) 1 0 0) (.cons (.ivs (.cons .fl .nil) 1 0 0) (.cons (.ivs (.cons .bool (.cons (.ns .u64) (.cons (.int .i64) .nil))) 1 0 0) (.cons (.ivs (.cons .bool (.cons (.ns .u64) (.cons (.int .i64) .nil))) 1 0 0) .nil)))))) fun t=>(fun q=>[⟨IB (.r0 (ui q) (nm q)),[tn q]⟩]) (n7 t.1.2.1 t.1.2.2.1 t.1.2.2.2.1.2 t.2.1.2.1 t.2.1.2.2.1 t.2.1.2.2.2.1.2 t.2.2.1.2.1 t.2.2.1.2.2.1 t.2.2.1.2.2.2.1.2 t.2.2.2.1.2.1.2 t.2.2.2.2.1.2.1 t.2.2.2.2.1.2.2.1.2 t.2.2.2.2.1.2.2.2.1 t.2.2.2.2.2.1.2.1 t.2.2.2.2.2.1.2.2.1.2 t.2.2.2.2.2.1.2.2.2.1)
theorem XK:aY prog SQ:=aR fun t=>(aS (fun h=>agw t.1.1 t.1.2.1 t.1.2.2.1 t.1.2.2.2.1.1 t.1.2.2.2.1.2 t.2.1.1 t.2.1.2.1 t.2.1.2.2.1 t.2.1.2.2.2.1.1 t.2.1.2.2.2.1.2 t.2.2.1.1 t.2.2.1.2.1 t.2.2.1.2.2.1 t.2.2.1.2.2.2.1.1 t.2.2.1.2.2.2.1.2 t.2.2.2.1.1 t.2.2.2.1.2.1.1 t.2.2.2.1.2.1.2 t.2.2.2.2.1.1 t.2.2.2.2.1.2.1 t.2.2.2.2.1.2.2.1.1 t.2.2.2.2.1.2.2.1.2 t.2.2.2.2.1.2.2.2.1 t.2.2.2.2.2.1.1 t.2.2.2.2.2.1.2.1 t.2.2.2.2.2.1.2.2.1.1 t.2.2.2.2.2.1.2.2.1.2 t.2.2.2.2.2.1.2.2.2.1 (agx h)) bc)
def SS:List aM:=SQ::SO
theorem uj:be prog (bh SS):=ax XK uh
inductive jI where
  | r0 (a:Bool) (b:Int)
def ST:jI→AE×aQ
  | .r0 a b=>(.ret,⟨an 25 [(6,.bool false a),(7,.int .i64 b)],[],0⟩)
theorem N6:jJ ST:=by intro x;cases x<;>(intro h;cases h)
def IC:jI→gM
  | .r0 a b=>⟨.tup [.bool false a,.int .i64 b],[]⟩
def agy(c:Lv)(d:Bool)(e:Lv)(a:List Int)(f:Int)(g:Lv)(h:Bool)(i:Lv)(b:List Int)(j:Int) :Nat×Bool×(List Int)×Nat×Nat×Int→aQ:=fun (k,l,m,n,o,p)=>⟨an 25 [(4,.iptr c (.vs [.bool false d,.imm e (.ns .u64 a) 1 1 0 (List.length a),.int .i64 f]) 1 0 0),(5,.iptr g (.vs [.bool false h,.imm i (.ns .u64 b) 1 1 0 (List.length b),.int .i64 j]) 1 0 0),(8,.ptr 0 1 0 0),(9,.int .i64 ((k:Nat):Int))],[(0,.vs [.bool false l,.imm .free (.ns .u64 m) 1 1 n o,.int .i64 p])],1⟩
def N7(e:Int)(f:Int)(a:List Nat)(g:Int)(h:Int)(b:List Nat)(i:Int)(j:Int)(c:List Nat)(d:List Nat) :T ((Nat×Bool×(List Int)×Nat×Nat×Int)⊕(jI)) :=
  .need (aG 0 (List.length a) a)<|.need (aG 0 (List.length b) b)<|.need (aG 0 (List.length c) c)<|.need (aG 0 (List.length d) d)<|.need (ml (bN e f (ab 0 (List.length a) a) g h (ab 0 (List.length b) b) i j (ab 0 (List.length c) c) (ab 0 (List.length d) d)))<|.leaf (.inl ((mC (bN e f (ab 0 (List.length a) a) g h (ab 0 (List.length b) b) i j (ab 0 (List.length c) c) (ab 0 (List.length d) d))),(mD (bN e f (ab 0 (List.length a) a) g h (ab 0 (List.length b) b) i j (ab 0 (List.length c) c) (ab 0 (List.length d) d))),(mE (bN e f (ab 0 (List.length a) a) g h (ab 0 (List.length b) b) i j (ab 0 (List.length c) c) (ab 0 (List.length d) d))),(mF (bN e f (ab 0 (List.length a) a) g h (ab 0 (List.length b) b) i j (ab 0 (List.length c) c) (ab 0 (List.length d) d))),(mG (bN e f (ab 0 (List.length a) a) g h (ab 0 (List.length b) b) i j (ab 0 (List.length c) c) (ab 0 (List.length d) d))),(mH (bN e f (ab 0 (List.length a) a) g h (ab 0 (List.length b) b) i j (ab 0 (List.length c) c) (ab 0 (List.length d) d)))))
def agz:Bool×Int→aQ:=fun (a,b)=>⟨an 25 [(6,.bool false a),(7,.int .i64 b)],[],0⟩
def FI(f:Bool)(a:List Int)(g:Int)(h:Bool)(b:List Int)(i:Int)(j:Nat)(k:Bool)(c:List Int)(d:Nat)(e:Nat)(l:Int) :T ((Bool×Int)⊕(jI)) :=
  .need (aG d e c)<|.need (aG 0 (List.length a) a)<|.need (aG 0 (List.length b) b)<|.need (kJ (cw k (ab d e c) l ((j:Nat):Int) f (ab 0 (List.length a) a) g h (ab 0 (List.length b) b) i))<|.leaf (.inl ((jS (cw k (ab d e c) l ((j:Nat):Int) f (ab 0 (List.length a) a) g h (ab 0 (List.length b) b) i)),(jT (cw k (ab d e c) l ((j:Nat):Int) f (ab 0 (List.length a) a) g h (ab 0 (List.length b) b) i))))
def agA(a:Bool)(b:Int) :T ((Empty)⊕(jI)) :=
  .leaf (.inr (.r0 a b))
def n8(a:Int)(b:Int)(c:List Nat)(d:Int)(e:Int)(f:List Nat)(g:Int)(h:Int)(i:List Nat)(j:List Nat)(k:Bool)(l:List Int)(m:Int)(n:Bool)(o:List Int)(p:Int) :Option jI:=jM (aC ((N7 a b c d e f g h i j).run) fun (q,r,s,t,u,v) =>
  aC ((FI k l m n o p q r s t u v).run) fun (w,x) =>
  (agA w x).run)
theorem agB(v:Lv)(l:Int)(m:Int)(w:Lv)(c:List Nat)(y:Lv)(n:Int)(o:Int)(z:Lv)(d:List Nat)(A:Lv)(p:Int)(q:Int)(B:Lv)(e:List Nat)(C:Lv)(D:Lv)(f:List Nat)(r:Lv)(g:Bool)(s:Lv)(a:List Int)(i:Int)(t:Lv)(j:Bool)(u:Lv)(b:List Int)(k:Int){x:jI}(h:n8 l m c n o d p q e f g a i j b k=some x) :ay prog Qu [] [.iptr v (.vs [.int .i64 l,.int .i64 m,.imm w (.fl c) 1 1 0 (List.length c)]) 1 0 0,.iptr y (.vs [.int .i64 n,.int .i64 o,.imm z (.fl d) 1 1 0 (List.length d)]) 1 0 0,.iptr A (.vs [.int .i64 p,.int .i64 q,.imm B (.fl e) 1 1 0 (List.length e)]) 1 0 0,.iptr C (.vs [.imm D (.fl f) 1 1 0 (List.length f)]) 1 0 0,.iptr r (.vs [.bool false g,.imm s (.ns .u64 a) 1 1 0 (List.length a),.int .i64 i]) 1 0 0,.iptr t (.vs [.bool false j,.imm u (.ns .u64 b) 1 1 0 (List.length b),.int .i64 k]) 1 0 0] (IC x) :=
  kf false IC ST h (Sg.cut 2 N6 (bj uj (agy r g s a i t j u b k) [⟨[],[160],[4,5,8,9]⟩]) (fun ⟨G,H,I,J,K,L⟩=>Sg.cut 1 N6 (bj uj agz [⟨[],[],[6,7]⟩]) (fun ⟨M,N⟩=>bj uj _ [⟨[],[],[6,7]⟩])))
    (fun x=>by cases x with | r0 E F=>exact jN [.bool false E,.int .i64 F])
def tp:Option jI→Bool
  | some _=>true
  | none=>false
def uk:Option jI→Bool
  | some (.r0 x _)=>x
  | _=>false
def nn:Option jI→Int
  | some (.r0 _ x)=>x
  | _=>0
theorem agC{x:Option jI}(h:tp x=true) :x=some (.r0 (uk x) (nn x)):=by
  unfold tp at h
  split at h<;>first | rfl | (cases h;done) | (rename_i y;cases y;rfl)
def SU:aM:=bK Qu (.cons (.ivs (.cons (.int .i64) (.cons (.int .i64) (.cons .fl .nil))) 1 0 0) (.cons (.ivs (.cons (.int .i64) (.cons (.int .i64) (.cons .fl .nil))) 1 0 0) (.cons (.ivs (.cons (.int .i64) (.cons (.int .i64) (.cons .fl .nil))) 1 0 0) (.cons (.ivs (.cons .fl .nil) 1 0 0) (.cons (.ivs (.cons .bool (.cons (.ns .u64) (.cons (.int .i64) .nil))) 1 0 0) (.cons (.ivs (.cons .bool (.cons (.ns .u64) (.cons (.int .i64) .nil))) 1 0 0) .nil)))))) fun t=>(fun q=>[⟨IC (.r0 (uk q) (nn q)),[tp q]⟩]) (n8 t.1.2.1 t.1.2.2.1 t.1.2.2.2.1.2 t.2.1.2.1 t.2.1.2.2.1 t.2.1.2.2.2.1.2 t.2.2.1.2.1 t.2.2.1.2.2.1 t.2.2.1.2.2.2.1.2 t.2.2.2.1.2.1.2 t.2.2.2.2.1.2.1 t.2.2.2.2.1.2.2.1.2 t.2.2.2.2.1.2.2.2.1 t.2.2.2.2.2.1.2.1 t.2.2.2.2.2.1.2.2.1.2 t.2.2.2.2.2.1.2.2.2.1)
theorem XL:aY prog SU:=aR fun t=>(aS (fun h=>agB t.1.1 t.1.2.1 t.1.2.2.1 t.1.2.2.2.1.1 t.1.2.2.2.1.2 t.2.1.1 t.2.1.2.1 t.2.1.2.2.1 t.2.1.2.2.2.1.1 t.2.1.2.2.2.1.2 t.2.2.1.1 t.2.2.1.2.1 t.2.2.1.2.2.1 t.2.2.1.2.2.2.1.1 t.2.2.1.2.2.2.1.2 t.2.2.2.1.1 t.2.2.2.1.2.1.1 t.2.2.2.1.2.1.2 t.2.2.2.2.1.1 t.2.2.2.2.1.2.1 t.2.2.2.2.1.2.2.1.1 t.2.2.2.2.1.2.2.1.2 t.2.2.2.2.1.2.2.2.1 t.2.2.2.2.2.1.1 t.2.2.2.2.2.1.2.1 t.2.2.2.2.2.1.2.2.1.1 t.2.2.2.2.2.1.2.2.1.2 t.2.2.2.2.2.1.2.2.2.1 (agC h)) bc)
def SV:List aM:=SU::SS
theorem eK:be prog (bh SV):=ax XL uj
inductive eh where
  | r0 (a:Bool) (b:Int)
def ID:eh→AE×aQ
  | .r0 a b=>(.ret,⟨an 125 [(8,.bool false a),(9,.int .i64 b)],[],0⟩)
theorem k7:jJ ID:=by intro x;cases x<;>(intro h;cases h)
theorem aoL(id:Nat) :mP id ID:=by intro x;cases x<;>(intro h;cases h)
def PL:eh→gM
  | .r0 a b=>⟨.tup [.bool false a,.int .i64 b],[]⟩
def alw:List Code:=cN (oa GR)
def aoM(e:Int)(f:Int)(g:Lv)(a:List Nat)(h:Lv)(b:List Nat)(i:Int)(j:Int)(k:Lv)(c:List Nat)(l:Int)(m:Int)(n:Lv)(d:List Nat)(_:Unit) :aQ:=⟨an 125 [(4,.ptr 0 1 0 0),(5,.ptr 1 1 0 0),(6,.ptr 2 1 0 0),(7,.ptr 3 1 0 0)],[(0,.vs [.int .i64 e,.int .i64 f,.imm g (.fl a) 1 1 0 (List.length a)]),(1,.vs [.imm h (.fl b) 1 1 0 (List.length b)]),(2,.vs [.int .i64 i,.int .i64 j,.imm k (.fl c) 1 1 0 (List.length c)]),(3,.vs [.int .i64 l,.int .i64 m,.imm n (.fl d) 1 1 0 (List.length d)])],4⟩
def IE(e : Int)(f : Int)(a : List Nat)(d : List Nat)(g : Int)(h : Int)(b : List Nat)(i : Int)(j : Int)(c : List Nat) : T ((Unit) ⊕ (eh)) :=
  .ask (decide ((0 : Int) < (3 : Int)))
    (.need (fv (0 : Int) 3) <| .need (aG 0 (List.length a) a) <| .need (eU (cu e f (ab 0 (List.length a) a))) <| .ask (dT (cu e f (ab 0 (List.length a) a)))
      (.ask (!(!(decide ((0:Int)≥(0:Int)))))
        (.leaf (.inr (.r0 false (2:Int))))
        (.fail))
      (.need (di .i64 (1 : Int)) <| .ask (decide ((1 : Int) < (3 : Int)))
        (.need (fv (1 : Int) 3) <| .need (aG 0 (List.length b) b) <| .need (eU (cu g h (ab 0 (List.length b) b))) <| .ask (dT (cu g h (ab 0 (List.length b) b)))
          (.ask (!(!(decide ((1:Int)≥(0:Int)))))
            (.leaf (.inr (.r0 false (2:Int))))
            (.fail))
          (.need (di .i64 (2 : Int)) <| .ask (decide ((2 : Int) < (3 : Int)))
            (.need (fv (2 : Int) 3) <| .need (aG 0 (List.length c) c) <| .need (eU (cu i j (ab 0 (List.length c) c))) <| .ask (dT (cu i j (ab 0 (List.length c) c)))
              (.ask (!(!(decide ((2:Int)≥(0:Int)))))
                (.leaf (.inr (.r0 false (2:Int))))
                (.fail))
              (.need (di .i64 (3:Int))<|.ask (decide ((3:Int)<(3:Int)))
                (.fail)
                (.ask (!(!(decide ((-1:Int)≥(0:Int)))))
                  (.fail)
                  (.ask ((((List.length d):Nat):Int) != (ke e f))
                    (.leaf (.inr (.r0 false (8:Int))))
                    (.ask (!(g == e && h == (ke e f)))
                      (.leaf (.inr (.r0 false (8:Int))))
                      (.ask (!(i == f && j == (ke e f)))
                        (.leaf (.inr (.r0 false (8:Int))))
                        (.ask (decide ((0:Int)<(4:Int)))
                          (.need (fv (0 : Int) 4) <| .need (aG 0 (List.length a) a) <| .need (aV (au (ab 0 (List.length a) a))) <| .ask (decide ((aW (au (ab 0 (List.length a) a))) ≥ (0 : Int)))
                            (.leaf (.inr (.r0 false (10:Int))))
                            (.need (di .i64 (1:Int))<|.ask (decide ((1:Int)<(4:Int)))
                              (.need (fv (1:Int) 4)<|.need (aG 0 (List.length d) d)<|.need (aV (au (ab 0 (List.length d) d)))<|.ask (decide ((aW (au (ab 0 (List.length d) d)))≥(0:Int)))
                                (.leaf (.inr (.r0 false (10:Int))))
                                (.need (di .i64 (2:Int))<|.ask (decide ((2:Int)<(4:Int)))
                                  (.need (fv (2:Int) 4)<|.need (aG 0 (List.length b) b)<|.need (aV (au (ab 0 (List.length b) b)))<|.ask (decide ((aW (au (ab 0 (List.length b) b)))≥(0:Int)))
                                    (.leaf (.inr (.r0 false (10:Int))))
                                    (.need (di .i64 (3:Int))<|.ask (decide ((3:Int)<(4:Int)))
                                      (.need (fv (3:Int) 4)<|.need (aG 0 (List.length c) c)<|.need (aV (au (ab 0 (List.length c) c)))<|.ask (decide ((aW (au (ab 0 (List.length c) c)))≥(0:Int)))
                                        (.leaf (.inr (.r0 false (10:Int))))
                                        (.need (di .i64 (4:Int))<|.ask (decide ((4:Int)<(4:Int)))
                                          (.fail)
                                          (.leaf (.inl ()))))
                                      (.fail)))
                                  (.fail)))
                              (.fail)))
                          (.fail))))))))
            (.fail)))
        (.fail)))
    (.fail)
def aoN(f:Int)(g:Int)(h:Lv)(b:List Nat)(c:Lv)(a:List Nat)(i:Int)(j:Int)(k:Lv)(d:List Nat)(l:Int)(m:Int)(n:Lv)(e:List Nat)(_:Unit) :aQ:=⟨an 125 [(4,.ptr 0 1 0 0),(5,.ptr 1 1 0 0),(6,.ptr 2 1 0 0),(7,.ptr 3 1 0 0),(66,.imm c (.fl a) 1 1 0 (List.length a)),(67,.int .i64 (((List.length a):Nat):Int)),(68,.int .i64 (0:Int))],[(0,.vs [.int .i64 f,.int .i64 g,.imm h (.fl b) 1 1 0 (List.length b)]),(1,.vs [.imm c (.fl a) 1 1 0 (List.length a)]),(2,.vs [.int .i64 i,.int .i64 j,.imm k (.fl d) 1 1 0 (List.length d)]),(3,.vs [.int .i64 l,.int .i64 m,.imm n (.fl e) 1 1 0 (List.length e)])],4⟩
def alx:T ((Unit)⊕(eh)) :=
  .leaf (.inl ())
def Lp(f:Int)(g:Int)(h:Lv)(b:List Nat)(c:Lv)(a:List Nat)(i:Int)(j:Int)(k:Lv)(d:List Nat)(l:Int)(m:Int)(n:Lv)(e:List Nat)(o:Nat) :aQ:=⟨an 125 [(4,.ptr 0 1 0 0),(5,.ptr 1 1 0 0),(6,.ptr 2 1 0 0),(7,.ptr 3 1 0 0),(66,.imm c (.fl a) 1 1 0 (List.length a)),(67,.int .i64 (((List.length a):Nat):Int)),(68,.int .i64 ((o:Nat):Int))],[(0,.vs [.int .i64 f,.int .i64 g,.imm h (.fl b) 1 1 0 (List.length b)]),(1,.vs [.imm c (.fl a) 1 1 0 (List.length a)]),(2,.vs [.int .i64 i,.int .i64 j,.imm k (.fl d) 1 1 0 (List.length d)]),(3,.vs [.int .i64 l,.int .i64 m,.imm n (.fl e) 1 1 0 (List.length e)])],4⟩
def Wn(e:Int)(f:Int)(g:Lv)(a:List Nat)(h:Lv)(b:List Nat)(i:Int)(j:Int)(k:Lv)(c:List Nat)(l:Int)(m:Int)(n:Lv)(d:List Nat)(_:Unit) :aQ:=⟨an 125 [(4,.ptr 0 1 0 0),(5,.ptr 1 1 0 0),(6,.ptr 2 1 0 0),(7,.ptr 3 1 0 0)],[(0,.vs [.int .i64 e,.int .i64 f,.imm g (.fl a) 1 1 0 (List.length a)]),(1,.vs [.imm h (.fl b) 1 1 0 (List.length b)]),(2,.vs [.int .i64 i,.int .i64 j,.imm k (.fl c) 1 1 0 (List.length c)]),(3,.vs [.int .i64 l,.int .i64 m,.imm n (.fl d) 1 1 0 (List.length d)])],4⟩
def aly:List Code:=cN (dn (((((alw.drop 3).drop 1).take 1)).headD .skip))
def aoO(f:Int)(g:Int)(h:Lv)(b:List Nat)(c:Lv)(a:List Nat)(i:Int)(j:Int)(k:Lv)(d:List Nat)(l:Int)(m:Int)(n:Lv)(e:List Nat)(o:Nat)(_:Unit) :aQ:=⟨an 125 [(4,.ptr 0 1 0 0),(5,.ptr 1 1 0 0),(6,.ptr 2 1 0 0),(7,.ptr 3 1 0 0),(66,.imm c (.fl a) 1 1 0 (List.length a)),(67,.int .i64 (((List.length a):Nat):Int)),(68,.int .i64 ((o:Nat):Int))],[(0,.vs [.int .i64 f,.int .i64 g,.imm h (.fl b) 1 1 0 (List.length b)]),(1,.vs [.imm c (.fl a) 1 1 0 (List.length a)]),(2,.vs [.int .i64 i,.int .i64 j,.imm k (.fl d) 1 1 0 (List.length d)]),(3,.vs [.int .i64 l,.int .i64 m,.imm n (.fl e) 1 1 0 (List.length e)])],4⟩
def ws(b:List Nat)(a:Nat) :T ((Unit)⊕((Unit)⊕(eh))) :=
  .ask (decide (((a:Nat):Int)<(((List.length b):Nat):Int)))
    (.need (fv ((a:Nat):Int) (List.length b))<|.need (g9 a (List.length b))<|.ask (flt (List.getD b a 0) 0)
      (.leaf (.inr (.inr (.r0 false (0:Int)))))
      (.ask (decide (((a:Nat):Int)>(0:Int)))
        (.need (di .i64 (((a:Nat):Int)-(1:Int)))<|.need (fv (((a:Nat):Int)-(1:Int)) (List.length b))<|.need (g9 (Int.toNat (((a:Nat):Int)-(1:Int))) (List.length b))<|.ask (flt (List.getD b (Int.toNat (((a:Nat):Int)-(1:Int))) 0) (List.getD b a 0))
          (.leaf (.inr (.inr (.r0 false (0:Int)))))
          (.leaf (.inl ())))
        (.leaf (.inl ()))))
    (.leaf (.inr (.inl ())))
def alz(a:Nat) :T ((Nat)⊕((Unit)⊕(eh))) :=
  .need (di .i64 (((a+1):Nat):Int))<|.leaf (.inl (a+1))
def wt(b:List Nat) :Nat→Option ((Nat)⊕((Unit)⊕(eh))):=fun a =>
  aC ((ws b a).run) fun _ =>
  (alz a).run
theorem alA(b:Int)(c:Int)(d:Lv)(e:List Nat)(f:Lv)(a:List Nat)(g:Int)(h:Int)(i:Lv)(j:List Nat)(k:Int)(l:Int)(m:Lv)(n:List Nat)(o:Nat) :Sg prog [] aly (Lp b c d e f a g h i j k l m n o) (wt a o) (Lp b c d e f a g h i j k l m n) (cy 1 (Wn b c d e f a g h i j k l m n) ID):=by
  unfold wt;exact Sg.cut 3 (az k7) (bj eK (aoO b c d e f a g h i j k l m n o) [⟨[],[],[8,9]⟩,⟨[],[],[8,9]⟩,⟨[],[0,1,2,3],[4,5,6,7,66,67,68]⟩,⟨[],[0,1,2,3],[4,5,6,7,66,67,68]⟩,⟨[],[0,1,2,3],[4,5,6,7]⟩]) (fun _=>bj eK _ [⟨[],[0,1,2,3],[4,5,6,7,66,67,68]⟩])
def aoP(e:Int)(f:Int)(g:Lv)(a:List Nat)(h:Lv)(b:List Nat)(i:Int)(j:Int)(k:Lv)(c:List Nat)(l:Int)(m:Int)(n:Lv)(d:List Nat) :Nat×Bool×(List Int)×Nat×Nat×Int→aQ:=fun (o,p,q,r,s,t)=>⟨an 125 [(4,.ptr 0 1 0 0),(5,.ptr 1 1 0 0),(6,.ptr 2 1 0 0),(7,.ptr 3 1 0 0),(13,.ptr 4 1 0 0),(14,.int .i64 ((o:Nat):Int))],[(0,.vs [.int .i64 e,.int .i64 f,.imm g (.fl a) 1 1 0 (List.length a)]),(1,.vs [.imm h (.fl b) 1 1 0 (List.length b)]),(2,.vs [.int .i64 i,.int .i64 j,.imm k (.fl c) 1 1 0 (List.length c)]),(3,.vs [.int .i64 l,.int .i64 m,.imm n (.fl d) 1 1 0 (List.length d)]),(4,.vs [.bool false p,.imm .free (.ns .u64 q) 1 1 r s,.int .i64 t])],5⟩
def IF(a:Int)(b:Int) :T ((Nat×Bool×(List Int)×Nat×Nat×Int)⊕(eh)) :=
  .need (p9 (cv a b))<|.leaf (.inl ((pN (cv a b)),(pO (cv a b)),(pP (cv a b)),(pQ (cv a b)),(pR (cv a b)),(pS (cv a b))))
def aoQ(e:Int)(f:Int)(g:Lv)(a:List Nat)(h:Lv)(b:List Nat)(i:Int)(j:Int)(k:Lv)(c:List Nat)(l:Int)(m:Int)(n:Lv)(d:List Nat)(o:Nat)(p:Bool)(q:List Int)(r:Nat)(s:Nat)(t:Int) :Nat×Bool×(List Int)×Nat×Nat×Int→aQ:=fun (f8,u,v,w,x,y)=>⟨an 125 [(4,.ptr 0 1 0 0),(5,.ptr 1 1 0 0),(6,.ptr 2 1 0 0),(7,.ptr 3 1 0 0),(13,.ptr 4 1 0 0),(14,.int .i64 ((o:Nat):Int)),(15,.ptr 5 1 0 0),(16,.int .i64 ((f8:Nat):Int))],[(0,.vs [.int .i64 e,.int .i64 f,.imm g (.fl a) 1 1 0 (List.length a)]),(1,.vs [.imm h (.fl b) 1 1 0 (List.length b)]),(2,.vs [.int .i64 i,.int .i64 j,.imm k (.fl c) 1 1 0 (List.length c)]),(3,.vs [.int .i64 l,.int .i64 m,.imm n (.fl d) 1 1 0 (List.length d)]),(4,.vs [.bool false p,.imm .free (.ns .u64 q) 1 1 r s,.int .i64 t]),(5,.vs [.bool false u,.imm .free (.ns .u64 v) 1 1 w x,.int .i64 y])],6⟩
def IG(b:Int)(c:Int)(a:List Nat) :T ((Nat×Bool×(List Int)×Nat×Nat×Int)⊕(eh)) :=
  .need (aG 0 (List.length a) a)<|.need (rL (cY b c (ab 0 (List.length a) a)))<|.leaf (.inl ((qW (cY b c (ab 0 (List.length a) a))),(qX (cY b c (ab 0 (List.length a) a))),(qY (cY b c (ab 0 (List.length a) a))),(qZ (cY b c (ab 0 (List.length a) a))),(q7 (cY b c (ab 0 (List.length a) a))),(q8 (cY b c (ab 0 (List.length a) a)))))
def alB(e:Int)(f:Int)(g:Lv)(a:List Nat)(h:Lv)(b:List Nat)(i:Int)(j:Int)(k:Lv)(c:List Nat)(l:Int)(m:Int)(n:Lv)(d:List Nat)(o:Nat)(p:Bool)(q:List Int)(r:Nat)(s:Nat)(t:Int)(f8:Nat)(u:Bool)(v:List Int)(w:Nat)(x:Nat)(y:Int)(z:Bool) :aQ:=⟨an 125 [(4,.ptr 0 1 0 0),(5,.ptr 1 1 0 0),(6,.ptr 2 1 0 0),(7,.ptr 3 1 0 0),(13,.ptr 4 1 0 0),(14,.int .i64 ((o:Nat):Int)),(15,.ptr 5 1 0 0),(16,.int .i64 ((f8:Nat):Int)),(107,.bool false z)],[(0,.vs [.int .i64 e,.int .i64 f,.imm g (.fl a) 1 1 0 (List.length a)]),(1,.vs [.imm h (.fl b) 1 1 0 (List.length b)]),(2,.vs [.int .i64 i,.int .i64 j,.imm k (.fl c) 1 1 0 (List.length c)]),(3,.vs [.int .i64 l,.int .i64 m,.imm n (.fl d) 1 1 0 (List.length d)]),(4,.vs [.bool false p,.imm .free (.ns .u64 q) 1 1 r s,.int .i64 t]),(5,.vs [.bool false u,.imm .free (.ns .u64 v) 1 1 w x,.int .i64 y])],6⟩
def alC(a:Nat)(f8:Nat) :T ((Bool)⊕(eh)) :=
  .ask (((a:Nat):Int) != (0:Int))
    (.leaf (.inl true))
    (.leaf (.inl (((f8:Nat):Int) != (0:Int))))
def alD(e:Int)(f:Int)(g:Lv)(a:List Nat)(h:Lv)(b:List Nat)(i:Int)(j:Int)(k:Lv)(c:List Nat)(l:Int)(m:Int)(n:Lv)(d:List Nat)(o:Bool)(p:List Int)(q:Nat)(r:Nat)(s:Int)(t:Bool)(u:List Int)(v:Nat)(w:Nat)(x:Int) :Int×Int×(List Nat)×Nat→aQ:=fun (y,z,A,B)=>⟨an 125 [(4,.ptr 0 1 0 0),(5,.ptr 1 1 0 0),(6,.ptr 2 1 0 0),(7,.ptr 3 1 0 0),(13,.ptr 4 1 0 0),(15,.ptr 5 1 0 0),(17,.ptr 6 1 0 0)],[(0,.vs [.int .i64 e,.int .i64 f,.imm g (.fl a) 1 1 0 (List.length a)]),(1,.vs [.imm h (.fl b) 1 1 0 (List.length b)]),(2,.vs [.int .i64 i,.int .i64 j,.imm k (.fl c) 1 1 0 (List.length c)]),(3,.vs [.int .i64 l,.int .i64 m,.imm n (.fl d) 1 1 0 (List.length d)]),(4,.vs [.bool false o,.imm .free (.ns .u64 p) 1 1 q r,.int .i64 s]),(5,.vs [.bool false t,.imm .free (.ns .u64 u) 1 1 v w,.int .i64 x]),(6,.vs [.int .i64 y,.int .i64 z,.imm .free (.fl A) 1 1 0 B])],7⟩
def IH(b:Int)(c:Int)(a:List Nat)(d:Nat)(f8:Nat)(e:Bool) :T ((Int×Int×(List Nat)×Nat)⊕(eh)) :=
  .ask e
    (.leaf (.inr (.r0 false (mr ((d:Nat):Int) ((f8:Nat):Int)))))
    (.need (aG 0 (List.length a) a)<|.need (wg (me b c (ab 0 (List.length a) a)))<|.leaf (.inl ((xP (me b c (ab 0 (List.length a) a))),(xQ (me b c (ab 0 (List.length a) a))),(xS (me b c (ab 0 (List.length a) a))),(xR (me b c (ab 0 (List.length a) a))))))
def alE(e:Int)(f:Int)(g:Lv)(a:List Nat)(h:Lv)(b:List Nat)(i:Int)(j:Int)(k:Lv)(c:List Nat)(l:Int)(m:Int)(n:Lv)(d:List Nat)(o:Bool)(p:List Int)(q:Nat)(r:Nat)(s:Int)(t:Bool)(u:List Int)(v:Nat)(w:Nat)(x:Int)(y:Int)(z:Int)(A:List Nat)(B:Nat) :Bool×(List Int)×Nat×Nat×Int→aQ:=fun (C,D,E,F,G)=>⟨an 125 [(4,.ptr 0 1 0 0),(5,.ptr 1 1 0 0),(6,.ptr 2 1 0 0),(7,.ptr 3 1 0 0),(13,.ptr 4 1 0 0),(15,.ptr 5 1 0 0),(17,.ptr 6 1 0 0),(19,.ptr 7 1 0 0)],[(0,.vs [.int .i64 e,.int .i64 f,.imm g (.fl a) 1 1 0 (List.length a)]),(1,.vs [.imm h (.fl b) 1 1 0 (List.length b)]),(2,.vs [.int .i64 i,.int .i64 j,.imm k (.fl c) 1 1 0 (List.length c)]),(3,.vs [.int .i64 l,.int .i64 m,.imm n (.fl d) 1 1 0 (List.length d)]),(4,.vs [.bool false o,.imm .free (.ns .u64 p) 1 1 q r,.int .i64 s]),(5,.vs [.bool false t,.imm .free (.ns .u64 u) 1 1 v w,.int .i64 x]),(6,.vs [.int .i64 y,.int .i64 z,.imm .free (.fl A) 1 1 0 B]),(7,.vs [.bool false C,.imm .free (.ns .u64 D) 1 1 E F,.int .i64 G])],8⟩
def II:T ((Bool×(List Int)×Nat×Nat×Int)⊕(eh)) :=
  .need (l6 (bo (1:Int)))<|.leaf (.inl ((iE (bo (1:Int))),(gk (bo (1:Int))),(gn (bo (1:Int))),(gp (bo (1:Int))),(iF (bo (1:Int)))))
def alF:Bool×Int→aQ:=fun (a,b)=>⟨an 125 [(8,.bool false a),(9,.int .i64 b)],[],0⟩
def IJ(z : Int)(A : Int)(m : List Nat)(c : List Nat)(i : Int)(j : Int)(a : List Nat)(k : Int)(l : Int)(b : List Nat)(g : Bool)(d : List Int)(e : Nat)(f : Nat)(h : Int)(t : Bool)(n : List Int)(o : Nat)(p : Nat)(u : Int)(B : Int)(C : Int)(x : List Nat)(y : Nat)(v : Bool)(q : List Int)(r : Nat)(s : Nat)(w : Int) : T ((Bool × Int) ⊕ (eh)) :=
  .ask (decide ((0 : Int) < (4 : Int)))
    (.need (fv (0 : Int) 4) <| .need (aG 0 (List.length a) a) <| .need (aG e f d) <| .need (aG r s q) <| .need (tk (n5 i j (ab 0 (List.length a) a) g (ab e f d) h v (ab r s q) w)) <| .ask (!(ue (n5 i j (ab 0 (List.length a) a) g (ab e f d) h v (ab r s q) w)))
      (.leaf (.inl (false,(nj (n5 i j (ab 0 (List.length a) a) g (ab e f d) h v (ab r s q) w)))))
      (.ask ((nj (n5 i j (ab 0 (List.length a) a) g (ab e f d) h v (ab r s q) w)) != (0:Int))
        (.leaf (.inl (false,(nj (n5 i j (ab 0 (List.length a) a) g (ab e f d) h v (ab r s q) w)))))
        (.need (di .i64 (1:Int))<|.ask (decide ((1:Int)<(4:Int)))
          (.need (fv (1 : Int) 4) <| .need (aG 0 (List.length b) b) <| .need (aG e f d) <| .need (aG r s q) <| .need (tm (n6 k l (ab 0 (List.length b) b) g (ab e f d) h v (ab r s q) w)) <| .ask (!(ug (n6 k l (ab 0 (List.length b) b) g (ab e f d) h v (ab r s q) w)))
            (.leaf (.inl (false,(nk (n6 k l (ab 0 (List.length b) b) g (ab e f d) h v (ab r s q) w)))))
            (.ask ((nk (n6 k l (ab 0 (List.length b) b) g (ab e f d) h v (ab r s q) w)) != (0:Int))
              (.leaf (.inl (false,(nk (n6 k l (ab 0 (List.length b) b) g (ab e f d) h v (ab r s q) w)))))
              (.need (di .i64 (2:Int))<|.ask (decide ((2:Int)<(4:Int)))
                (.need (fv (2:Int) 4)<|.need (aG 0 (List.length m) m)<|.need (aG 0 (List.length b) b)<|.need (aG 0 (List.length a) a)<|.need (aG 0 (List.length c) c)<|.need (aG e f d)<|.need (aG o p n)<|.need (tn (n7 z A (ab 0 (List.length m) m) k l (ab 0 (List.length b) b) i j (ab 0 (List.length a) a) (ab 0 (List.length c) c) g (ab e f d) h t (ab o p n) u))<|.ask (!(ui (n7 z A (ab 0 (List.length m) m) k l (ab 0 (List.length b) b) i j (ab 0 (List.length a) a) (ab 0 (List.length c) c) g (ab e f d) h t (ab o p n) u)))
                  (.leaf (.inl (false,(nm (n7 z A (ab 0 (List.length m) m) k l (ab 0 (List.length b) b) i j (ab 0 (List.length a) a) (ab 0 (List.length c) c) g (ab e f d) h t (ab o p n) u)))))
                  (.ask ((nm (n7 z A (ab 0 (List.length m) m) k l (ab 0 (List.length b) b) i j (ab 0 (List.length a) a) (ab 0 (List.length c) c) g (ab e f d) h t (ab o p n) u)) != (0:Int))
                    (.leaf (.inl (false,(nm (n7 z A (ab 0 (List.length m) m) k l (ab 0 (List.length b) b) i j (ab 0 (List.length a) a) (ab 0 (List.length c) c) g (ab e f d) h t (ab o p n) u)))))
                    (.need (di .i64 (3:Int))<|.ask (decide ((3:Int)<(4:Int)))
                      (.need (fv (3:Int) 4)<|.need (aG 0 y x)<|.need (aG 0 (List.length a) a)<|.need (aG 0 (List.length b) b)<|.need (aG 0 (List.length c) c)<|.need (aG e f d)<|.need (aG o p n)<|.need (tp (n8 B C (ab 0 y x) i j (ab 0 (List.length a) a) k l (ab 0 (List.length b) b) (ab 0 (List.length c) c) g (ab e f d) h t (ab o p n) u))<|.ask (!(uk (n8 B C (ab 0 y x) i j (ab 0 (List.length a) a) k l (ab 0 (List.length b) b) (ab 0 (List.length c) c) g (ab e f d) h t (ab o p n) u)))
                        (.leaf (.inl (false,(nn (n8 B C (ab 0 y x) i j (ab 0 (List.length a) a) k l (ab 0 (List.length b) b) (ab 0 (List.length c) c) g (ab e f d) h t (ab o p n) u)))))
                        (.ask ((nn (n8 B C (ab 0 y x) i j (ab 0 (List.length a) a) k l (ab 0 (List.length b) b) (ab 0 (List.length c) c) g (ab e f d) h t (ab o p n) u)) != (0:Int))
                          (.leaf (.inl (false,(nn (n8 B C (ab 0 y x) i j (ab 0 (List.length a) a) k l (ab 0 (List.length b) b) (ab 0 (List.length c) c) g (ab e f d) h t (ab o p n) u)))))
                          (.need (di .i64 (4:Int))<|.ask (decide ((4:Int)<(4:Int)))
                            (.fail)
                            (.leaf (.inl (true,(0:Int)))))))
                      (.fail))))
                (.fail))))
          (.fail))))
    (.fail)
def alG(a:Bool)(b:Int) :T ((Empty)⊕(eh)) :=
  .leaf (.inr (.r0 a b))
def uM(a:Int)(b:Int)(c:List Nat)(d:List Nat)(e:Int)(f:Int)(g:List Nat)(h:Int)(i:Int)(j:List Nat) :Option eh:=jM (aC ((IE a b c d e f g h i j).run) fun _ =>
  aC ((alx).run) fun _ =>
  aC (dh (wt d) 0) fun _ =>
  aC ((IF a b).run) fun (k,l,m,n,o,p) =>
  aC ((IG a b c).run) fun (f8,q,r,s,t,u) =>
  aC ((alC k f8).run) fun v =>
  aC ((IH a b c k f8 v).run) fun (w,x,y,z) =>
  aC ((II).run) fun (A,B,C,D,E) =>
  aC ((IJ a b c d e f g h i j l m n o p q r s t u w x y z A B C D E).run) fun (F,G) =>
  (alG F G).run)
theorem aoR(e:Int)(f:Int)(l:Lv)(a:List Nat)(m:Lv)(b:List Nat)(g:Int)(i:Int)(n:Lv)(c:List Nat)(j:Int)(k:Int)(o:Lv)(d:List Nat){x:eh}(h:uM e f a b g i c j k d=some x) :ay prog GR [] [.agg [.int .i64 e,.int .i64 f,.imm l (.fl a) 1 1 0 (List.length a)],.imm m (.fl b) 1 1 0 (List.length b),.agg [.int .i64 g,.int .i64 i,.imm n (.fl c) 1 1 0 (List.length c)],.agg [.int .i64 j,.int .i64 k,.imm o (.fl d) 1 1 0 (List.length d)]] (PL x) :=
  kf true PL ID h (Sg.cut 3 k7 (bj eK (aoM e f l a m b g i n c j k o d) [⟨[],[],[8,9]⟩,⟨[],[],[8,9]⟩,⟨[],[],[8,9]⟩,⟨[],[],[8,9]⟩,⟨[],[],[8,9]⟩,⟨[],[],[8,9]⟩,⟨[],[],[8,9]⟩,⟨[],[],[8,9]⟩,⟨[],[],[8,9]⟩,⟨[],[],[8,9]⟩,⟨[],[0,16,32,48],[4,5,6,7]⟩]) (fun _=>Sg.cut 1 k7 (bj eK (aoN e f l a m b g i n c j k o d) [⟨[],[0,1,2,3],[4,5,6,7,66,67,68]⟩]) (fun _=>Sg.cut 1 k7 (AD ⟨[],[0,1,2,3],[4,5,6,7,66,67,68]⟩ (Lp e f l a m b g i n c j k o d) (Wn e f l a m b g i n c j k o d) 1 k7 (aoL _) (fun B=>alA e f l a m b g i n c j k o d B)) (fun _=>Sg.cut 1 k7 (bj eK (aoP e f l a m b g i n c j k o d) [⟨[],[0,1,2,3,132],[4,5,6,7,13,14]⟩]) (fun ⟨A,p,q,r,s,t⟩=>Sg.cut 1 k7 (bj eK (aoQ e f l a m b g i n c j k o d A p q r s t) [⟨[],[0,1,2,3,4,85],[4,5,6,7,13,14,15,16]⟩]) (fun ⟨f8,u,v,w,y,z⟩=>Sg.cut 1 k7 (bj eK (alB e f l a m b g i n c j k o d A p q r s t f8 u v w y z) [⟨[],[0,1,2,3,4,5],[4,5,6,7,13,14,15,16,107]⟩,⟨[],[0,1,2,3,4,5],[4,5,6,7,13,14,15,16,107]⟩]) (fun I=>Sg.cut 2 k7 (bj eK (alD e f l a m b g i n c j k o d p q r s t u v w y z) [⟨[],[],[8,9]⟩,⟨[],[0,1,2,3,4,5,86],[4,5,6,7,13,15,17]⟩]) (fun ⟨C,D,E,F⟩=>Sg.cut 1 k7 (bj eK (alE e f l a m b g i n c j k o d p q r s t u v w y z C D E F) [⟨[],[0,1,2,3,4,5,6,23],[4,5,6,7,13,15,17,19]⟩]) (fun ⟨J,K,L,M,N⟩=>Sg.cut 1 k7 (bj eK alF [⟨[],[],[8,9]⟩,⟨[],[],[8,9]⟩,⟨[],[],[8,9]⟩,⟨[],[],[8,9]⟩,⟨[],[],[8,9]⟩,⟨[],[],[8,9]⟩,⟨[],[],[8,9]⟩,⟨[],[],[8,9]⟩,⟨[],[],[8,9]⟩]) (fun ⟨O,P⟩=>bj eK _ [⟨[],[],[8,9]⟩]))))))))))
    (fun x=>by cases x with | r0 G H=>exact jN [.bool false G,.int .i64 H])
def DM:Option eh→Bool
  | some _=>true
  | none=>false
def FJ:Option eh→Bool
  | some (.r0 x _)=>x
  | _=>false
def FK:Option eh→Int
  | some (.r0 _ x)=>x
  | _=>0
theorem aoS{x:Option eh}(h:DM x=true) :x=some (.r0 (FJ x) (FK x)):=by
  unfold DM at h
  split at h<;>first | rfl | (cases h;done) | (rename_i y;cases y;rfl)
def acj:aM:=bK GR (.cons (.agg (.cons (.int .i64) (.cons (.int .i64) (.cons .fl .nil)))) (.cons .fl (.cons (.agg (.cons (.int .i64) (.cons (.int .i64) (.cons .fl .nil)))) (.cons (.agg (.cons (.int .i64) (.cons (.int .i64) (.cons .fl .nil)))) .nil)))) fun t=>(fun q=>[⟨PL (.r0 (FJ q) (FK q)),[DM q]⟩]) (uM t.1.1 t.1.2.1 t.1.2.2.1.2 t.2.1.2 t.2.2.1.1 t.2.2.1.2.1 t.2.2.1.2.2.1.2 t.2.2.2.1.1 t.2.2.2.1.2.1 t.2.2.2.1.2.2.1.2)
theorem agD:aY prog acj:=aR fun t=>(aS (fun h=>aoR t.1.1 t.1.2.1 t.1.2.2.1.1 t.1.2.2.1.2 t.2.1.1 t.2.1.2 t.2.2.1.1 t.2.2.1.2.1 t.2.2.1.2.2.1.1 t.2.2.1.2.2.1.2 t.2.2.2.1.1 t.2.2.2.1.2.1 t.2.2.2.1.2.2.1.1 t.2.2.2.1.2.2.1.2 (aoS h)) bc)
def ack:List aM:=acj::SV
theorem qb:be prog (bh ack):=ax agD eK
inductive dU where
  | r0 (a:Nat)
def Gk:dU→AE×aQ
  | .r0 a=>(.ret,⟨an 82 [(8,.int .i64 ((a:Nat):Int))],[],0⟩)
theorem qk:jJ Gk:=by intro x;cases x<;>(intro h;cases h)
def yc:dU→gM
  | .r0 a=>⟨.int .i64 ((a:Nat):Int),[]⟩
def SW(e:Int)(f:Int)(g:Lv)(a:List Nat)(h:Lv)(b:List Nat)(i:Int)(j:Int)(k:Lv)(c:List Nat)(l:Int)(m:Int)(n:Lv)(d:List Nat)(o:Bool) :aQ:=⟨an 82 [(1,.imm h (.fl b) 1 1 0 (List.length b)),(4,.ptr 0 1 0 0),(6,.ptr 1 1 0 0),(7,.ptr 2 1 0 0),(22,.bool false o)],[(0,.vs [.int .i64 e,.int .i64 f,.imm g (.fl a) 1 1 0 (List.length a)]),(1,.vs [.int .i64 i,.int .i64 j,.imm k (.fl c) 1 1 0 (List.length c)]),(2,.vs [.int .i64 l,.int .i64 m,.imm n (.fl d) 1 1 0 (List.length d)])],3⟩
def wu(d:Int)(e:Int)(a:List Nat)(f:Int)(g:Int)(b:List Nat)(h:Int)(i:Int)(c:List Nat) :T ((Bool)⊕(dU)) :=
  .need (aG 0 (List.length a) a)<|.need (rP (nX d e (ab 0 (List.length a) a)))<|.ask (!(ri (nX d e (ab 0 (List.length a) a))))
    (.leaf (.inl true))
    (.need (aG 0 (List.length b) b)<|.need (rP (nX f g (ab 0 (List.length b) b)))<|.ask (!(ri (nX f g (ab 0 (List.length b) b))))
      (.leaf (.inl true))
      (.need (aG 0 (List.length c) c)<|.need (rP (nX h i (ab 0 (List.length c) c)))<|.leaf (.inl (!(ri (nX h i (ab 0 (List.length c) c)))))))
def SX(e:Int)(f:Int)(g:Lv)(a:List Nat)(h:Lv)(b:List Nat)(i:Int)(j:Int)(k:Lv)(c:List Nat)(l:Int)(m:Int)(n:Lv)(d:List Nat)(o:Int) :aQ:=⟨an 82 [(1,.imm h (.fl b) 1 1 0 (List.length b)),(4,.ptr 0 1 0 0),(6,.ptr 1 1 0 0),(7,.ptr 2 1 0 0),(9,.int .i64 o)],[(0,.vs [.int .i64 e,.int .i64 f,.imm g (.fl a) 1 1 0 (List.length a)]),(1,.vs [.int .i64 i,.int .i64 j,.imm k (.fl c) 1 1 0 (List.length c)]),(2,.vs [.int .i64 l,.int .i64 m,.imm n (.fl d) 1 1 0 (List.length d)])],3⟩
def wv(a:Int)(b:Int)(c:Bool) :T ((Int)⊕(dU)) :=
  .ask c
    (.leaf (.inr (.r0 2)))
    (.ask (decide (b<a))
      (.leaf (.inl b))
      (.leaf (.inl a)))
def SY(e:Int)(f:Int)(g:Lv)(a:List Nat)(h:Lv)(b:List Nat)(i:Int)(j:Int)(k:Lv)(c:List Nat)(l:Int)(m:Int)(n:Lv)(d:List Nat)(o:Bool) :aQ:=⟨an 82 [(1,.imm h (.fl b) 1 1 0 (List.length b)),(4,.ptr 0 1 0 0),(6,.ptr 1 1 0 0),(7,.ptr 2 1 0 0),(60,.bool false o)],[(0,.vs [.int .i64 e,.int .i64 f,.imm g (.fl a) 1 1 0 (List.length a)]),(1,.vs [.int .i64 i,.int .i64 j,.imm k (.fl c) 1 1 0 (List.length c)]),(2,.vs [.int .i64 l,.int .i64 m,.imm n (.fl d) 1 1 0 (List.length d)])],3⟩
def ww(b:Int)(c:Int)(d:List Nat)(e:Int)(f:Int)(g:Int)(h:Int)(a:Int) :T ((Bool)⊕(dU)) :=
  .ask ((((List.length d):Nat):Int) != a)
    (.leaf (.inl true))
    (.ask (e != b)
      (.leaf (.inl true))
      (.ask (f != a)
        (.leaf (.inl true))
        (.ask (g != c)
          (.leaf (.inl true))
          (.leaf (.inl (h != a))))))
def SZ(a:Bool) :aQ:=⟨an 82 [(81,.bool false a)],[],0⟩
def wx(a:List Nat)(b:List Nat)(c:List Nat)(d:List Nat)(e:Bool) :T ((Bool)⊕(dU)) :=
  .ask e
    (.leaf (.inr (.r0 8)))
    (.need (aG 0 (List.length a) a)<|.need (lF (gh (ab 0 (List.length a) a)))<|.ask (!(lg (gh (ab 0 (List.length a) a))))
      (.leaf (.inl true))
      (.need (aG 0 (List.length b) b)<|.need (lF (gh (ab 0 (List.length b) b)))<|.ask (!(lg (gh (ab 0 (List.length b) b))))
        (.leaf (.inl true))
        (.need (aG 0 (List.length c) c)<|.need (lF (gh (ab 0 (List.length c) c)))<|.ask (!(lg (gh (ab 0 (List.length c) c))))
          (.leaf (.inl true))
          (.need (aG 0 (List.length d) d)<|.need (lF (gh (ab 0 (List.length d) d)))<|.leaf (.inl (!(lg (gh (ab 0 (List.length d) d)))))))))
def PM(a:Bool) :T ((Empty)⊕(dU)) :=
  .ask a
    (.leaf (.inr (.r0 10)))
    (.leaf (.inr (.r0 0)))
def oP(a:Int)(b:Int)(c:List Nat)(d:List Nat)(e:Int)(f:Int)(g:List Nat)(h:Int)(i:Int)(j:List Nat) :Option dU:=jM (aC ((wu a b c e f g h i j).run) fun k =>
  aC ((wv a b k).run) fun l =>
  aC ((ww a b d e f h i l).run) fun m =>
  aC ((wx c d g j m).run) fun n =>
  (PM n).run)
theorem S0(e:Int)(f:Int)(l:Lv)(a:List Nat)(m:Lv)(b:List Nat)(g:Int)(i:Int)(n:Lv)(c:List Nat)(j:Int)(k:Int)(o:Lv)(d:List Nat){x:dU}(h:oP e f a b g i c j k d=some x) :ay prog xf [] [.agg [.int .i64 e,.int .i64 f,.imm l (.fl a) 1 1 0 (List.length a)],.imm m (.fl b) 1 1 0 (List.length b),.agg [.int .i64 g,.int .i64 i,.imm n (.fl c) 1 1 0 (List.length c)],.agg [.int .i64 j,.int .i64 k,.imm o (.fl d) 1 1 0 (List.length d)]] (yc x) :=
  kf true yc Gk h (Sg.cut 2 qk (bj qb (SW e f l a m b g i n c j k o d) [⟨[],[0,16,32],[1,4,6,7,22]⟩,⟨[],[0,16,32],[1,4,6,7,22]⟩,⟨[],[0,16,32],[1,4,6,7,22]⟩]) (fun q=>Sg.cut 4 qk (bj qb (SX e f l a m b g i n c j k o d) [⟨[],[],[8]⟩,⟨[],[0,1,2],[1,4,6,7,9]⟩,⟨[],[0,1,2],[1,4,6,7,9]⟩]) (fun r=>Sg.cut 1 qk (bj qb (SY e f l a m b g i n c j k o d) [⟨[],[0,1,2],[1,4,6,7,60]⟩,⟨[],[0,1,2],[1,4,6,7,60]⟩,⟨[],[0,1,2],[1,4,6,7,60]⟩,⟨[],[0,1,2],[1,4,6,7,60]⟩,⟨[],[0,1,2],[1,4,6,7,60]⟩]) (fun s=>Sg.cut 2 qk (bj qb SZ [⟨[],[],[8]⟩,⟨[],[],[81]⟩,⟨[],[],[81]⟩,⟨[],[],[81]⟩,⟨[],[],[81]⟩]) (fun t=>bj qb _ [⟨[],[],[8]⟩,⟨[],[],[8]⟩])))))
    (fun x=>by cases x with | r0 p=>exact jN [.int .i64 ((p:Nat):Int)])
def ql:Option dU→Bool
  | some _=>true
  | none=>false
def rZ:Option dU→Nat
  | some (.r0 x)=>x
  | _=>0
theorem S2{x:Option dU}(h:ql x=true) :x=some (.r0 (rZ x)):=by
  unfold ql at h
  split at h<;>first | rfl | (cases h;done) | (rename_i y;cases y;rfl)
def Gl:aM:=bK xf (.cons (.agg (.cons (.int .i64) (.cons (.int .i64) (.cons .fl .nil)))) (.cons .fl (.cons (.agg (.cons (.int .i64) (.cons (.int .i64) (.cons .fl .nil)))) (.cons (.agg (.cons (.int .i64) (.cons (.int .i64) (.cons .fl .nil)))) .nil)))) fun t=>(fun q=>[⟨yc (.r0 (rZ q)),[ql q]⟩]) (oP t.1.1 t.1.2.1 t.1.2.2.1.2 t.2.1.2 t.2.2.1.1 t.2.2.1.2.1 t.2.2.1.2.2.1.2 t.2.2.2.1.1 t.2.2.2.1.2.1 t.2.2.2.1.2.2.1.2)
theorem Mh:aY prog Gl:=aR fun t=>(aS (fun h=>S0 t.1.1 t.1.2.1 t.1.2.2.1.1 t.1.2.2.1.2 t.2.1.1 t.2.1.2 t.2.2.1.1 t.2.2.1.2.1 t.2.2.1.2.2.1.1 t.2.2.1.2.2.1.2 t.2.2.2.1.1 t.2.2.2.1.2.1 t.2.2.2.1.2.2.1.1 t.2.2.2.1.2.2.1.2 (S2 h)) bc)
def Gm:List aM:=Gl::ack
theorem fB:be prog (bh Gm):=ax Mh qb
inductive gi where
  | r0 (a:Bool)
def DN:gi→AE×aQ
  | .r0 a=>(.ret,⟨an 78 [(8,.bool false a)],[],0⟩)
theorem pu:jJ DN:=by intro x;cases x<;>(intro h;cases h)
theorem alH(id:Nat) :mP id DN:=by intro x;cases x<;>(intro h;cases h)
def Lq:gi→gM
  | .r0 a=>⟨.bool false a,[]⟩
def agE:List Code:=cN (oa C6)
def alI(e:Int)(f:Int)(g:Lv)(a:List Nat)(h:Lv)(b:List Nat)(i:Int)(j:Int)(k:Lv)(c:List Nat)(l:Int)(m:Int)(n:Lv)(d:List Nat)(_:Unit) :aQ:=⟨an 78 [(1,.imm h (.fl b) 1 1 0 (List.length b)),(4,.ptr 0 1 0 0),(6,.ptr 1 1 0 0),(7,.ptr 2 1 0 0),(9,.int .i64 (0:Int))],[(0,.vs [.int .i64 e,.int .i64 f,.imm g (.fl a) 1 1 0 (List.length a)]),(1,.vs [.int .i64 i,.int .i64 j,.imm k (.fl c) 1 1 0 (List.length c)]),(2,.vs [.int .i64 l,.int .i64 m,.imm n (.fl d) 1 1 0 (List.length d)])],3⟩
def agF:T ((Unit)⊕(gi)) :=
  .leaf (.inl ())
def IK(e:Int)(f:Int)(g:Lv)(a:List Nat)(h:Lv)(b:List Nat)(i:Int)(j:Int)(k:Lv)(c:List Nat)(l:Int)(m:Int)(n:Lv)(d:List Nat)(o:Nat) :aQ:=⟨an 78 [(1,.imm h (.fl b) 1 1 0 (List.length b)),(4,.ptr 0 1 0 0),(6,.ptr 1 1 0 0),(7,.ptr 2 1 0 0),(9,.int .i64 ((o:Nat):Int))],[(0,.vs [.int .i64 e,.int .i64 f,.imm g (.fl a) 1 1 0 (List.length a)]),(1,.vs [.int .i64 i,.int .i64 j,.imm k (.fl c) 1 1 0 (List.length c)]),(2,.vs [.int .i64 l,.int .i64 m,.imm n (.fl d) 1 1 0 (List.length d)])],3⟩
def S3(e:Int)(f:Int)(g:Lv)(a:List Nat)(h:Lv)(b:List Nat)(i:Int)(j:Int)(k:Lv)(c:List Nat)(l:Int)(m:Int)(n:Lv)(d:List Nat)(_:Unit) :aQ:=⟨an 78 [(1,.imm h (.fl b) 1 1 0 (List.length b)),(4,.ptr 0 1 0 0),(6,.ptr 1 1 0 0),(7,.ptr 2 1 0 0)],[(0,.vs [.int .i64 e,.int .i64 f,.imm g (.fl a) 1 1 0 (List.length a)]),(1,.vs [.int .i64 i,.int .i64 j,.imm k (.fl c) 1 1 0 (List.length c)]),(2,.vs [.int .i64 l,.int .i64 m,.imm n (.fl d) 1 1 0 (List.length d)])],3⟩
def agG:List Code:=cN (dn ((((agE.drop 2).take 1)).headD .skip))
def alJ(e:Int)(f:Int)(g:Lv)(a:List Nat)(h:Lv)(b:List Nat)(i:Int)(j:Int)(k:Lv)(c:List Nat)(l:Int)(m:Int)(n:Lv)(d:List Nat)(o:Nat)(_:Unit) :aQ:=⟨an 78 [(1,.imm h (.fl b) 1 1 0 (List.length b)),(4,.ptr 0 1 0 0),(6,.ptr 1 1 0 0),(7,.ptr 2 1 0 0),(9,.int .i64 ((o:Nat):Int))],[(0,.vs [.int .i64 e,.int .i64 f,.imm g (.fl a) 1 1 0 (List.length a)]),(1,.vs [.int .i64 i,.int .i64 j,.imm k (.fl c) 1 1 0 (List.length c)]),(2,.vs [.int .i64 l,.int .i64 m,.imm n (.fl d) 1 1 0 (List.length d)])],3⟩
def tq(b:List Nat)(a:Nat) :T ((Unit)⊕((Unit)⊕(gi))) :=
  .ask (decide (((a:Nat):Int)<(((List.length b):Nat):Int)))
    (.need (fv ((a:Nat):Int) (List.length b))<|.need (g9 a (List.length b))<|.ask (flt (List.getD b a 0) 0)
      (.leaf (.inr (.inr (.r0 false))))
      (.ask (decide (((a:Nat):Int)>(0:Int)))
        (.need (fv ((a:Nat):Int) (List.length b))<|.need (g9 a (List.length b))<|.need (di .i64 (((a:Nat):Int)-(1:Int)))<|.need (fv (((a:Nat):Int)-(1:Int)) (List.length b))<|.need (g9 (Int.toNat (((a:Nat):Int)-(1:Int))) (List.length b))<|.ask (fgt (List.getD b a 0) (List.getD b (Int.toNat (((a:Nat):Int)-(1:Int))) 0))
          (.leaf (.inr (.inr (.r0 false))))
          (.leaf (.inl ())))
        (.leaf (.inl ()))))
    (.leaf (.inr (.inl ())))
def agH(a:Nat) :T ((Nat)⊕((Unit)⊕(gi))) :=
  .need (di .i64 (((a+1):Nat):Int))<|.leaf (.inl (a+1))
def tu(b:List Nat) :Nat→Option ((Nat)⊕((Unit)⊕(gi))):=fun a =>
  aC ((tq b a).run) fun _ =>
  (agH a).run
theorem agI(b:Int)(c:Int)(d:Lv)(e:List Nat)(f:Lv)(a:List Nat)(g:Int)(h:Int)(i:Lv)(j:List Nat)(k:Int)(l:Int)(m:Lv)(n:List Nat)(o:Nat) :Sg prog [] agG (IK b c d e f a g h i j k l m n o) (tu a o) (IK b c d e f a g h i j k l m n) (cy 0 (S3 b c d e f a g h i j k l m n) DN):=by
  unfold tu;exact Sg.cut 3 (az pu) (bj fB (alJ b c d e f a g h i j k l m n o) [⟨[],[],[8]⟩,⟨[],[],[8]⟩,⟨[],[0,1,2],[1,4,6,7,9]⟩,⟨[],[0,1,2],[1,4,6,7,9]⟩,⟨[],[0,1,2],[1,4,6,7]⟩]) (fun _=>bj fB _ [⟨[],[0,1,2],[1,4,6,7,9]⟩])
def alK(e:Int)(f:Int)(g:Lv)(a:List Nat)(h:Lv)(b:List Nat)(i:Int)(j:Int)(k:Lv)(c:List Nat)(l:Int)(m:Int)(n:Lv)(d:List Nat) :Bool×(List Int)×Nat×Int→aQ:=fun (o,p,q,r)=>⟨an 78 [(1,.imm h (.fl b) 1 1 0 (List.length b)),(4,.ptr 0 1 0 0),(6,.ptr 1 1 0 0),(7,.ptr 2 1 0 0),(10,.ptr 3 1 0 0)],[(0,.vs [.int .i64 e,.int .i64 f,.imm g (.fl a) 1 1 0 (List.length a)]),(1,.vs [.int .i64 i,.int .i64 j,.imm k (.fl c) 1 1 0 (List.length c)]),(2,.vs [.int .i64 l,.int .i64 m,.imm n (.fl d) 1 1 0 (List.length d)]),(3,.vs [.bool false o,.imm .free (.ns .u64 p) 1 1 0 q,.int .i64 r])],4⟩
def N8(a:Int)(b:Int) :T ((Bool×(List Int)×Nat×Int)⊕(gi)) :=
  .need (we (md a b))<|.leaf (.inl ((xL (md a b)),(xM (md a b)),(xN (md a b)),(xO (md a b))))
def alL(e:Int)(f:Int)(g:Lv)(a:List Nat)(h:Lv)(b:List Nat)(i:Int)(j:Int)(k:Lv)(c:List Nat)(l:Int)(m:Int)(n:Lv)(d:List Nat)(o:Bool)(p:List Int)(q:Nat)(r:Int) :Bool×(List Int)×Nat×Int→aQ:=fun (s,t,u,v)=>⟨an 78 [(1,.imm h (.fl b) 1 1 0 (List.length b)),(4,.ptr 0 1 0 0),(6,.ptr 1 1 0 0),(7,.ptr 2 1 0 0),(10,.ptr 3 1 0 0),(11,.ptr 4 1 0 0)],[(0,.vs [.int .i64 e,.int .i64 f,.imm g (.fl a) 1 1 0 (List.length a)]),(1,.vs [.int .i64 i,.int .i64 j,.imm k (.fl c) 1 1 0 (List.length c)]),(2,.vs [.int .i64 l,.int .i64 m,.imm n (.fl d) 1 1 0 (List.length d)]),(3,.vs [.bool false o,.imm .free (.ns .u64 p) 1 1 0 q,.int .i64 r]),(4,.vs [.bool false s,.imm .free (.ns .u64 t) 1 1 0 u,.int .i64 v])],5⟩
def FL(a:List Nat)(d:Bool)(b:List Int)(c:Nat)(e:Int) :T ((Bool×(List Int)×Nat×Int)⊕(gi)) :=
  .need (aG 0 (List.length a) a)<|.need (tg (cr (ab 0 (List.length a) a)))<|.need (aG 0 c b)<|.need (aG 0 (iN (cr (ab 0 (List.length a) a))) (iM (cr (ab 0 (List.length a) a))))<|.need (c8 (am d (ab 0 c b) e (jW (cr (ab 0 (List.length a) a))) (ab 0 (iN (cr (ab 0 (List.length a) a))) (iM (cr (ab 0 (List.length a) a)))) (jX (cr (ab 0 (List.length a) a)))))<|.leaf (.inl ((aT (am d (ab 0 c b) e (jW (cr (ab 0 (List.length a) a))) (ab 0 (iN (cr (ab 0 (List.length a) a))) (iM (cr (ab 0 (List.length a) a)))) (jX (cr (ab 0 (List.length a) a))))),(aJ (am d (ab 0 c b) e (jW (cr (ab 0 (List.length a) a))) (ab 0 (iN (cr (ab 0 (List.length a) a))) (iM (cr (ab 0 (List.length a) a)))) (jX (cr (ab 0 (List.length a) a))))),(aK (am d (ab 0 c b) e (jW (cr (ab 0 (List.length a) a))) (ab 0 (iN (cr (ab 0 (List.length a) a))) (iM (cr (ab 0 (List.length a) a)))) (jX (cr (ab 0 (List.length a) a))))),(aU (am d (ab 0 c b) e (jW (cr (ab 0 (List.length a) a))) (ab 0 (iN (cr (ab 0 (List.length a) a))) (iM (cr (ab 0 (List.length a) a)))) (jX (cr (ab 0 (List.length a) a)))))))
def alM(a:Bool) :aQ:=⟨an 78 [(8,.bool false a)],[],0⟩
def FM(f:Int)(e:Int)(a:List Nat)(d:List Nat)(i:Int)(g:Int)(b:List Nat)(j:Int)(h:Int)(c:List Nat)(o:Bool)(k:List Int)(l:Nat)(p:Int)(q:Bool)(m:List Int)(n:Nat)(r:Int) :T ((Bool)⊕(gi)) :=
  .need (aG 0 (List.length b) b)<|.need (qa (cx i g (ab 0 (List.length b) b)))<|.need (aG 0 (iS (cx i g (ab 0 (List.length b) b))) (iR (cx i g (ab 0 (List.length b) b))))<|.need (aG 0 l k)<|.need (oi (iT (lD (cx i g (ab 0 (List.length b) b))) (ab 0 (iS (cx i g (ab 0 (List.length b) b))) (iR (cx i g (ab 0 (List.length b) b)))) (lE (cx i g (ab 0 (List.length b) b))) o (ab 0 l k) p))<|.ask (ni (iT (lD (cx i g (ab 0 (List.length b) b))) (ab 0 (iS (cx i g (ab 0 (List.length b) b))) (iR (cx i g (ab 0 (List.length b) b)))) (lE (cx i g (ab 0 (List.length b) b))) o (ab 0 l k) p))
    (.need (aG 0 (List.length c) c)<|.need (qa (cx j h (ab 0 (List.length c) c)))<|.need (aG 0 (iS (cx j h (ab 0 (List.length c) c))) (iR (cx j h (ab 0 (List.length c) c))))<|.need (aG 0 l k)<|.need (oi (iT (lD (cx j h (ab 0 (List.length c) c))) (ab 0 (iS (cx j h (ab 0 (List.length c) c))) (iR (cx j h (ab 0 (List.length c) c)))) (lE (cx j h (ab 0 (List.length c) c))) o (ab 0 l k) p))<|.ask (ni (iT (lD (cx j h (ab 0 (List.length c) c))) (ab 0 (iS (cx j h (ab 0 (List.length c) c))) (iR (cx j h (ab 0 (List.length c) c)))) (lE (cx j h (ab 0 (List.length c) c))) o (ab 0 l k) p))
      (.need (aG 0 (List.length a) a)<|.need (aG 0 (List.length c) c)<|.need (aG 0 (List.length b) b)<|.need (aG 0 (List.length d) d)<|.need (lh (bE e (ab 0 (List.length a) a) h (ab 0 (List.length c) c) i g (ab 0 (List.length b) b) (ab 0 (List.length d) d)))<|.need (aG 0 (eC (bE e (ab 0 (List.length a) a) h (ab 0 (List.length c) c) i g (ab 0 (List.length b) b) (ab 0 (List.length d) d))) (eB (bE e (ab 0 (List.length a) a) h (ab 0 (List.length c) c) i g (ab 0 (List.length b) b) (ab 0 (List.length d) d))))<|.need (aG 0 n m)<|.need (oi (iT (gV (bE e (ab 0 (List.length a) a) h (ab 0 (List.length c) c) i g (ab 0 (List.length b) b) (ab 0 (List.length d) d))) (ab 0 (eC (bE e (ab 0 (List.length a) a) h (ab 0 (List.length c) c) i g (ab 0 (List.length b) b) (ab 0 (List.length d) d))) (eB (bE e (ab 0 (List.length a) a) h (ab 0 (List.length c) c) i g (ab 0 (List.length b) b) (ab 0 (List.length d) d)))) (gW (bE e (ab 0 (List.length a) a) h (ab 0 (List.length c) c) i g (ab 0 (List.length b) b) (ab 0 (List.length d) d))) q (ab 0 n m) r))<|.ask (ni (iT (gV (bE e (ab 0 (List.length a) a) h (ab 0 (List.length c) c) i g (ab 0 (List.length b) b) (ab 0 (List.length d) d))) (ab 0 (eC (bE e (ab 0 (List.length a) a) h (ab 0 (List.length c) c) i g (ab 0 (List.length b) b) (ab 0 (List.length d) d))) (eB (bE e (ab 0 (List.length a) a) h (ab 0 (List.length c) c) i g (ab 0 (List.length b) b) (ab 0 (List.length d) d)))) (gW (bE e (ab 0 (List.length a) a) h (ab 0 (List.length c) c) i g (ab 0 (List.length b) b) (ab 0 (List.length d) d))) q (ab 0 n m) r))
        (.need (aG 0 (List.length a) a)<|.need (pV (bi f e (ab 0 (List.length a) a)))<|.need (aG 0 (cT (bi f e (ab 0 (List.length a) a))) (cU (bi f e (ab 0 (List.length a) a))))<|.need (aG 0 (List.length b) b)<|.need (aG 0 (List.length c) c)<|.need (aG 0 (List.length d) d)<|.need (lh (bE (db (bi f e (ab 0 (List.length a) a))) (ab 0 (cT (bi f e (ab 0 (List.length a) a))) (cU (bi f e (ab 0 (List.length a) a)))) g (ab 0 (List.length b) b) j h (ab 0 (List.length c) c) (ab 0 (List.length d) d)))<|.need (aG 0 (eC (bE (db (bi f e (ab 0 (List.length a) a))) (ab 0 (cT (bi f e (ab 0 (List.length a) a))) (cU (bi f e (ab 0 (List.length a) a)))) g (ab 0 (List.length b) b) j h (ab 0 (List.length c) c) (ab 0 (List.length d) d))) (eB (bE (db (bi f e (ab 0 (List.length a) a))) (ab 0 (cT (bi f e (ab 0 (List.length a) a))) (cU (bi f e (ab 0 (List.length a) a)))) g (ab 0 (List.length b) b) j h (ab 0 (List.length c) c) (ab 0 (List.length d) d))))<|.need (aG 0 n m)<|.need (oi (iT (gV (bE (db (bi f e (ab 0 (List.length a) a))) (ab 0 (cT (bi f e (ab 0 (List.length a) a))) (cU (bi f e (ab 0 (List.length a) a)))) g (ab 0 (List.length b) b) j h (ab 0 (List.length c) c) (ab 0 (List.length d) d))) (ab 0 (eC (bE (db (bi f e (ab 0 (List.length a) a))) (ab 0 (cT (bi f e (ab 0 (List.length a) a))) (cU (bi f e (ab 0 (List.length a) a)))) g (ab 0 (List.length b) b) j h (ab 0 (List.length c) c) (ab 0 (List.length d) d))) (eB (bE (db (bi f e (ab 0 (List.length a) a))) (ab 0 (cT (bi f e (ab 0 (List.length a) a))) (cU (bi f e (ab 0 (List.length a) a)))) g (ab 0 (List.length b) b) j h (ab 0 (List.length c) c) (ab 0 (List.length d) d)))) (gW (bE (db (bi f e (ab 0 (List.length a) a))) (ab 0 (cT (bi f e (ab 0 (List.length a) a))) (cU (bi f e (ab 0 (List.length a) a)))) g (ab 0 (List.length b) b) j h (ab 0 (List.length c) c) (ab 0 (List.length d) d))) q (ab 0 n m) r))<|.leaf (.inl (ni (iT (gV (bE (db (bi f e (ab 0 (List.length a) a))) (ab 0 (cT (bi f e (ab 0 (List.length a) a))) (cU (bi f e (ab 0 (List.length a) a)))) g (ab 0 (List.length b) b) j h (ab 0 (List.length c) c) (ab 0 (List.length d) d))) (ab 0 (eC (bE (db (bi f e (ab 0 (List.length a) a))) (ab 0 (cT (bi f e (ab 0 (List.length a) a))) (cU (bi f e (ab 0 (List.length a) a)))) g (ab 0 (List.length b) b) j h (ab 0 (List.length c) c) (ab 0 (List.length d) d))) (eB (bE (db (bi f e (ab 0 (List.length a) a))) (ab 0 (cT (bi f e (ab 0 (List.length a) a))) (cU (bi f e (ab 0 (List.length a) a)))) g (ab 0 (List.length b) b) j h (ab 0 (List.length c) c) (ab 0 (List.length d) d)))) (gW (bE (db (bi f e (ab 0 (List.length a) a))) (ab 0 (cT (bi f e (ab 0 (List.length a) a))) (cU (bi f e (ab 0 (List.length a) a)))) g (ab 0 (List.length b) b) j h (ab 0 (List.length c) c) (ab 0 (List.length d) d))) q (ab 0 n m) r))))
        (.leaf (.inl false)))
      (.leaf (.inl false)))
    (.leaf (.inl false))
def agJ(a:Bool) :T ((Empty)⊕(gi)) :=
  .leaf (.inr (.r0 a))
def zl(a:Int)(b:Int)(c:List Nat)(d:List Nat)(i:Int)(j:Int)(k:List Nat)(l:Int)(m:Int)(n:List Nat) :Option gi:=jM (aC ((agF).run) fun _ =>
  aC (dh (tu d) 0) fun _ =>
  aC ((N8 a b).run) fun (e,f,g,h) =>
  aC ((FL c e f g h).run) fun (o,p,q,r) =>
  aC ((FM a b c d i j k l m n e f g h o p q r).run) fun s =>
  (agJ s).run)
theorem alN(e:Int)(f:Int)(l:Lv)(a:List Nat)(m:Lv)(b:List Nat)(g:Int)(i:Int)(n:Lv)(c:List Nat)(j:Int)(k:Int)(o:Lv)(d:List Nat){x:gi}(h:zl e f a b g i c j k d=some x) :ay prog C6 [] [.agg [.int .i64 e,.int .i64 f,.imm l (.fl a) 1 1 0 (List.length a)],.imm m (.fl b) 1 1 0 (List.length b),.agg [.int .i64 g,.int .i64 i,.imm n (.fl c) 1 1 0 (List.length c)],.agg [.int .i64 j,.int .i64 k,.imm o (.fl d) 1 1 0 (List.length d)]] (Lq x) :=
  kf true Lq DN h (Sg.cut 2 pu (bj fB (alI e f l a m b g i n c j k o d) [⟨[],[0,16,32],[1,4,6,7,9]⟩]) (fun _=>Sg.cut 1 pu (AD ⟨[],[0,1,2],[1,4,6,7,9]⟩ (IK e f l a m b g i n c j k o d) (S3 e f l a m b g i n c j k o d) 0 pu (alH _) (fun p=>agI e f l a m b g i n c j k o d p)) (fun _=>Sg.cut 1 pu (bj fB (alK e f l a m b g i n c j k o d) [⟨[],[0,1,2,83],[1,4,6,7,10]⟩]) (fun ⟨q,r,s,t⟩=>Sg.cut 1 pu (bj fB (alL e f l a m b g i n c j k o d q r s t) [⟨[],[0,1,2,3,84],[1,4,6,7,10,11]⟩]) (fun ⟨v,w,y,z⟩=>Sg.cut 1 pu (bj fB alM [⟨[],[],[8]⟩,⟨[],[],[8]⟩,⟨[],[],[8]⟩,⟨[],[],[8]⟩]) (fun A=>bj fB _ [⟨[],[],[8]⟩]))))))
    (fun x=>by cases x with | r0 u=>exact jN [.bool false u])
def A5:Option gi→Bool
  | some _=>true
  | none=>false
def CO:Option gi→Bool
  | some (.r0 x)=>x
  | _=>false
theorem alO{x:Option gi}(h:A5 x=true) :x=some (.r0 (CO x)):=by
  unfold A5 at h
  split at h<;>first | rfl | (cases h;done) | (rename_i y;cases y;rfl)
def Wo:aM:=bK C6 (.cons (.agg (.cons (.int .i64) (.cons (.int .i64) (.cons .fl .nil)))) (.cons .fl (.cons (.agg (.cons (.int .i64) (.cons (.int .i64) (.cons .fl .nil)))) (.cons (.agg (.cons (.int .i64) (.cons (.int .i64) (.cons .fl .nil)))) .nil)))) fun t=>(fun q=>[⟨Lq (.r0 (CO q)),[A5 q]⟩]) (zl t.1.1 t.1.2.1 t.1.2.2.1.2 t.2.1.2 t.2.2.1.1 t.2.2.1.2.1 t.2.2.1.2.2.1.2 t.2.2.2.1.1 t.2.2.2.1.2.1 t.2.2.2.1.2.2.1.2)
theorem acl:aY prog Wo:=aR fun t=>(aS (fun h=>alN t.1.1 t.1.2.1 t.1.2.2.1.1 t.1.2.2.1.2 t.2.1.1 t.2.1.2 t.2.2.1.1 t.2.2.1.2.1 t.2.2.1.2.2.1.1 t.2.2.1.2.2.1.2 t.2.2.2.1.1 t.2.2.2.1.2.1 t.2.2.2.1.2.2.1.1 t.2.2.2.1.2.2.1.2 (alO h)) bc)
def Wp:List aM:=Wo::Gm
theorem k8:be prog (bh Wp):=ax acl fB
inductive dF where
  | r0 (a:Bool)
def Jd:dF→AE×aQ
  | .r0 a=>(.ret,⟨an 57 [(8,.bool false a)],[],0⟩)
theorem mq:jJ Jd:=by intro x;cases x<;>(intro h;cases h)
def Al:dF→gM
  | .r0 a=>⟨.bool false a,[]⟩
def Un(e:Int)(f:Int)(g:Lv)(a:List Nat)(h:Lv)(b:List Nat)(i:Int)(j:Int)(k:Lv)(c:List Nat)(l:Int)(m:Int)(n:Lv)(d:List Nat)(o:Bool) :aQ:=⟨an 57 [(1,.imm h (.fl b) 1 1 0 (List.length b)),(4,.ptr 0 1 0 0),(6,.ptr 1 1 0 0),(7,.ptr 2 1 0 0),(22,.bool false o)],[(0,.vs [.int .i64 e,.int .i64 f,.imm g (.fl a) 1 1 0 (List.length a)]),(1,.vs [.int .i64 i,.int .i64 j,.imm k (.fl c) 1 1 0 (List.length c)]),(2,.vs [.int .i64 l,.int .i64 m,.imm n (.fl d) 1 1 0 (List.length d)])],3⟩
def Gn(a : List Nat)(b : List Nat)(c : List Nat)(d : List Nat) : T ((Bool) ⊕ (dF)) :=
  .ask (decide ((0:Int)<(3:Int)))
    (.need (fv (0:Int) 3)<|.ask (decide ((((List.length a):Nat):Int)>(36:Int)))
      (.leaf (.inl true))
      (.need (di .i64 (1:Int))<|.ask (decide ((1:Int)<(3:Int)))
        (.need (fv (1:Int) 3)<|.ask (decide ((((List.length c):Nat):Int)>(36:Int)))
          (.leaf (.inl true))
          (.need (di .i64 (2:Int))<|.ask (decide ((2:Int)<(3:Int)))
            (.need (fv (2:Int) 3)<|.ask (decide ((((List.length d):Nat):Int)>(36:Int)))
              (.leaf (.inl true))
              (.need (di .i64 (3:Int))<|.ask (decide ((3:Int)<(3:Int)))
                (.fail)
                (.leaf (.inl (decide ((((List.length b):Nat):Int)>(36:Int)))))))
            (.fail)))
        (.fail)))
    (.fail)
def Uo(e:Int)(f:Int)(g:Lv)(a:List Nat)(h:Lv)(b:List Nat)(i:Int)(j:Int)(k:Lv)(c:List Nat)(l:Int)(m:Int)(n:Lv)(d:List Nat)(_:Unit) :aQ:=⟨an 57 [(1,.imm h (.fl b) 1 1 0 (List.length b)),(4,.ptr 0 1 0 0),(6,.ptr 1 1 0 0),(7,.ptr 2 1 0 0)],[(0,.vs [.int .i64 e,.int .i64 f,.imm g (.fl a) 1 1 0 (List.length a)]),(1,.vs [.int .i64 i,.int .i64 j,.imm k (.fl c) 1 1 0 (List.length c)]),(2,.vs [.int .i64 l,.int .i64 m,.imm n (.fl d) 1 1 0 (List.length d)])],3⟩
def yd(a:Bool) :T ((Unit)⊕(dF)) :=
  .ask a
    (.need (oM (kK))<|.leaf (.inr (.r0 (oN (kK)))))
    (.leaf (.inl ()))
def Up(e:Int)(f:Int)(g:Lv)(a:List Nat)(h:Lv)(b:List Nat)(i:Int)(j:Int)(k:Lv)(c:List Nat)(l:Int)(m:Int)(n:Lv)(d:List Nat) :Bool×Int→aQ:=fun (o,p)=>⟨an 57 [(1,.imm h (.fl b) 1 1 0 (List.length b)),(4,.ptr 0 1 0 0),(6,.ptr 1 1 0 0),(7,.ptr 2 1 0 0),(9,.bool false o),(10,.int .i64 p)],[(0,.vs [.int .i64 e,.int .i64 f,.imm g (.fl a) 1 1 0 (List.length a)]),(1,.vs [.int .i64 i,.int .i64 j,.imm k (.fl c) 1 1 0 (List.length c)]),(2,.vs [.int .i64 l,.int .i64 m,.imm n (.fl d) 1 1 0 (List.length d)])],3⟩
def wy(e:Int)(f:Int)(a:List Nat)(b:List Nat)(g:Int)(h:Int)(c:List Nat)(i:Int)(j:Int)(d:List Nat) :T ((Bool×Int)⊕(dF)) :=
  .need (aG 0 (List.length a) a)<|.need (aG 0 (List.length b) b)<|.need (aG 0 (List.length c) c)<|.need (aG 0 (List.length d) d)<|.need (DM (uM e f (ab 0 (List.length a) a) (ab 0 (List.length b) b) g h (ab 0 (List.length c) c) i j (ab 0 (List.length d) d)))<|.leaf (.inl ((FJ (uM e f (ab 0 (List.length a) a) (ab 0 (List.length b) b) g h (ab 0 (List.length c) c) i j (ab 0 (List.length d) d))),(FK (uM e f (ab 0 (List.length a) a) (ab 0 (List.length b) b) g h (ab 0 (List.length c) c) i j (ab 0 (List.length d) d)))))
def Uq(e:Int)(f:Int)(g:Lv)(a:List Nat)(h:Lv)(b:List Nat)(i:Int)(j:Int)(k:Lv)(c:List Nat)(l:Int)(m:Int)(n:Lv)(d:List Nat)(o:Bool)(p:Int)(q:Nat) :aQ:=⟨an 57 [(1,.imm h (.fl b) 1 1 0 (List.length b)),(4,.ptr 0 1 0 0),(6,.ptr 1 1 0 0),(7,.ptr 2 1 0 0),(9,.bool false o),(10,.int .i64 p),(11,.int .i64 ((q:Nat):Int))],[(0,.vs [.int .i64 e,.int .i64 f,.imm g (.fl a) 1 1 0 (List.length a)]),(1,.vs [.int .i64 i,.int .i64 j,.imm k (.fl c) 1 1 0 (List.length c)]),(2,.vs [.int .i64 l,.int .i64 m,.imm n (.fl d) 1 1 0 (List.length d)])],3⟩
def n9(e:Int)(f:Int)(a:List Nat)(b:List Nat)(g:Int)(h:Int)(c:List Nat)(i:Int)(j:Int)(d:List Nat) :T ((Nat)⊕(dF)) :=
  .need (aG 0 (List.length a) a)<|.need (aG 0 (List.length b) b)<|.need (aG 0 (List.length c) c)<|.need (aG 0 (List.length d) d)<|.need (ql (oP e f (ab 0 (List.length a) a) (ab 0 (List.length b) b) g h (ab 0 (List.length c) c) i j (ab 0 (List.length d) d)))<|.leaf (.inl (rZ (oP e f (ab 0 (List.length a) a) (ab 0 (List.length b) b) g h (ab 0 (List.length c) c) i j (ab 0 (List.length d) d))))
def Ur(e:Int)(f:Int)(g:Lv)(a:List Nat)(h:Lv)(b:List Nat)(i:Int)(j:Int)(k:Lv)(c:List Nat)(l:Int)(m:Int)(n:Lv)(d:List Nat)(o:Bool)(_:Unit) :aQ:=⟨an 57 [(1,.imm h (.fl b) 1 1 0 (List.length b)),(4,.ptr 0 1 0 0),(6,.ptr 1 1 0 0),(7,.ptr 2 1 0 0),(9,.bool false o)],[(0,.vs [.int .i64 e,.int .i64 f,.imm g (.fl a) 1 1 0 (List.length a)]),(1,.vs [.int .i64 i,.int .i64 j,.imm k (.fl c) 1 1 0 (List.length c)]),(2,.vs [.int .i64 l,.int .i64 m,.imm n (.fl d) 1 1 0 (List.length d)])],3⟩
def wz(b:Bool)(c:Int)(a:Nat) :T ((Unit)⊕(dF)) :=
  .ask (c != ((a:Nat):Int))
    (.leaf (.inr (.r0 false)))
    (.ask (((a:Nat):Int) != (0:Int))
      (.ask (!b)
        (.need (oM (kK))<|.leaf (.inr (.r0 (oN (kK)))))
        (.leaf (.inr (.r0 false))))
      (.leaf (.inl ())))
def Us(a:Bool) :aQ:=⟨an 57 [(8,.bool false a)],[],0⟩
def wB(e:Int)(f:Int)(a:List Nat)(b:List Nat)(g:Int)(h:Int)(c:List Nat)(i:Int)(j:Int)(d:List Nat)(k:Bool) :T ((Bool)⊕(dF)) :=
  .need (aG 0 (List.length a) a)<|.need (aG 0 (List.length b) b)<|.need (aG 0 (List.length c) c)<|.need (aG 0 (List.length d) d)<|.need (A5 (zl e f (ab 0 (List.length a) a) (ab 0 (List.length b) b) g h (ab 0 (List.length c) c) i j (ab 0 (List.length d) d)))<|.ask (k==(CO (zl e f (ab 0 (List.length a) a) (ab 0 (List.length b) b) g h (ab 0 (List.length c) c) i j (ab 0 (List.length d) d))))
    (.need (oM (kK))<|.leaf (.inl (oN (kK))))
    (.leaf (.inl false))
def S4(a:Bool) :T ((Empty)⊕(dF)) :=
  .leaf (.inr (.r0 a))
def Am(e:Int)(f:Int)(a:List Nat)(b:List Nat)(g:Int)(h:Int)(c:List Nat)(i:Int)(j:Int)(d:List Nat) :Option dF:=jM (aC ((Gn a b c d).run) fun l =>
  aC ((yd l).run) fun _ =>
  aC ((wy e f a b g h c i j d).run) fun (k,m) =>
  aC ((n9 e f a b g h c i j d).run) fun n =>
  aC ((wz k m n).run) fun _ =>
  aC ((wB e f a b g h c i j d k).run) fun o =>
  (S4 o).run)
theorem Gp(e:Int)(f:Int)(l:Lv)(a:List Nat)(m:Lv)(b:List Nat)(g:Int)(i:Int)(n:Lv)(c:List Nat)(j:Int)(k:Int)(o:Lv)(d:List Nat){x:dF}(h:Am e f a b g i c j k d=some x) :ay prog IX [] [.agg [.int .i64 e,.int .i64 f,.imm l (.fl a) 1 1 0 (List.length a)],.imm m (.fl b) 1 1 0 (List.length b),.agg [.int .i64 g,.int .i64 i,.imm n (.fl c) 1 1 0 (List.length c)],.agg [.int .i64 j,.int .i64 k,.imm o (.fl d) 1 1 0 (List.length d)]] (Al x) :=
  kf false Al Jd h (Sg.cut 2 mq (bj k8 (Un e f l a m b g i n c j k o d) [⟨[],[0,16,32],[1,4,6,7,22]⟩,⟨[],[0,16,32],[1,4,6,7,22]⟩,⟨[],[0,16,32],[1,4,6,7,22]⟩,⟨[],[0,16,32],[1,4,6,7,22]⟩]) (fun s=>Sg.cut 1 mq (bj k8 (Uo e f l a m b g i n c j k o d) [⟨[],[],[8]⟩,⟨[],[0,1,2],[1,4,6,7]⟩]) (fun _=>Sg.cut 1 mq (bj k8 (Up e f l a m b g i n c j k o d) [⟨[],[0,1,2],[1,4,6,7,9,10]⟩]) (fun ⟨p,q⟩=>Sg.cut 1 mq (bj k8 (Uq e f l a m b g i n c j k o d p q) [⟨[],[0,1,2],[1,4,6,7,9,10,11]⟩]) (fun t=>Sg.cut 4 mq (bj k8 (Ur e f l a m b g i n c j k o d p) [⟨[],[],[8]⟩,⟨[],[],[8]⟩,⟨[],[],[8]⟩,⟨[],[0,1,2],[1,4,6,7,9]⟩]) (fun _=>Sg.cut 1 mq (bj k8 Us [⟨[],[],[8]⟩,⟨[],[],[8]⟩]) (fun u=>bj k8 _ [⟨[],[],[8]⟩])))))))
    (fun x=>by cases x with | r0 r=>exact jN [.bool false r])
def ye:Option dF→Bool
  | some _=>true
  | none=>false
def CP:Option dF→Bool
  | some (.r0 x)=>x
  | _=>false
theorem Ut{x:Option dF}(h:ye x=true) :x=some (.r0 (CP x)):=by
  unfold ye at h
  split at h<;>first | rfl | (cases h;done) | (rename_i y;cases y;rfl)
def Je:aM:=bK IX (.cons (.agg (.cons (.int .i64) (.cons (.int .i64) (.cons .fl .nil)))) (.cons .fl (.cons (.agg (.cons (.int .i64) (.cons (.int .i64) (.cons .fl .nil)))) (.cons (.agg (.cons (.int .i64) (.cons (.int .i64) (.cons .fl .nil)))) .nil)))) fun t=>(fun q=>[⟨Al (.r0 (CP q)),[ye q]⟩]) (Am t.1.1 t.1.2.1 t.1.2.2.1.2 t.2.1.2 t.2.2.1.1 t.2.2.1.2.1 t.2.2.1.2.2.1.2 t.2.2.2.1.1 t.2.2.2.1.2.1 t.2.2.2.1.2.2.1.2)
theorem PN:aY prog Je:=aR fun t=>(aS (fun h=>Gp t.1.1 t.1.2.1 t.1.2.2.1.1 t.1.2.2.1.2 t.2.1.1 t.2.1.2 t.2.2.1.1 t.2.2.1.2.1 t.2.2.1.2.2.1.1 t.2.2.1.2.2.1.2 t.2.2.2.1.1 t.2.2.2.1.2.1 t.2.2.2.1.2.2.1.1 t.2.2.2.1.2.2.1.2 (Ut h)) bc)
def XM:List aM:=Je::Wp
theorem arn:be prog (bh XM):=ax PN k8
end
end Go.Plb.Seat
namespace Go.Plb.Seat
open Go Go.Plb
set_option linter.unusedSimpArgs false
set_option linter.unusedVariables false
theorem yY{α:Type}{n:Nat}{l:List α}(h:l.length=n) :aG 0 n l=true:=by rw [←h];exact amK l
theorem ap{α:Type}{b:Bool}{t:T α}{x:Option α}(k:t.run=x)(h:b=true:=by simp only [cM,Ao,Bt,oq,o6,hJ,o7,o8,decide_eq_true_eq,decide_eq_false_iff_not,beq_iff_eq,beq_eq_false_iff_ne,bne_iff_ne,bne_eq_false_iff_eq,Bool.not_eq_true',Bool.not_eq_false',List.length_set,ne_eq,ge_iff_le,gt_iff_lt,lG,ch,wZ];omega) :(T.need b t).run=x:=bW h k
theorem bT{α:Type}{b:Bool}{t f:T α}{x:Option α}(k:t.run=x)(h:b=true:=by simp only [cM,Ao,Bt,oq,o6,hJ,o7,o8,decide_eq_true_eq,decide_eq_false_iff_not,beq_iff_eq,beq_eq_false_iff_ne,bne_iff_ne,bne_eq_false_iff_eq,Bool.not_eq_true',Bool.not_eq_false',List.length_set,ne_eq,ge_iff_le,gt_iff_lt,lG,ch,wZ];omega) :(T.ask b t f).run=x:=jh h k
theorem ct{α:Type}{b:Bool}{t f:T α}{x:Option α}(k:f.run=x)(h:b=false:=by simp only [cM,Ao,Bt,oq,o6,hJ,o7,o8,decide_eq_true_eq,decide_eq_false_iff_not,beq_iff_eq,beq_eq_false_iff_ne,bne_iff_ne,bne_eq_false_iff_eq,Bool.not_eq_true',Bool.not_eq_false',List.length_set,ne_eq,ge_iff_le,gt_iff_lt,lG,ch,wZ];omega) :(T.ask b t f).run=x:=cV h k
theorem bH{α:Type}{b:Bool}{t:T α}{x:Option α}(k:t.run=x)(h:b=true:=by exact yY aq) :(T.need b t).run=x:=bW h k
theorem aX{v n m:Nat}(h:m≤n) :aG 0 m (aA v n)=true:=by rw [hJ,aq];omega
theorem ln{v n:Nat}(h:v<W^n)(hn:n≤1000000000) :aN (aA v n)=some (.r0 (aA v n) (nl v)):=by
  have hl:=i6 h
  refine bb (ai rfl (ai (a:=nl v) (bL (fun j=>n-j) (n-nl v) (by simp only [aq];rfl) (fun j hj=>?_) ?_) rfl))
  · show aC (vx _ _).run _=_
    have e:Int.toNat (((n-j:Nat):Int)-1)=n-(j+1):=by omega
    have z:(aA v n).getD (n-(j+1)) 0=0:=by
      rw [cF h]
      exact Dj (Nat.lt_of_lt_of_le (cG v) (Nat.pow_le_pow_right (by decide) (by omega)))
    refine ai (a:=true) ?_ ?_
    · unfold vx
      rw [e,z,aq]
      exact bT (ap (ap (ap rfl)))
    · unfold QK
      rw [e]
      exact aZ (ap (ap (ap rfl)))
  · have e0:n-(n-nl v)=nl v:=by omega
    show aC (vx _ _).run _=_
    rw [e0]
    by_cases h0:v=0
    · have z:=jk.2 h0
      rw [z]
      exact ai (a:=false) (aI rfl) (aI rfl)
    · have hp:=zt h0
      have e:Int.toNat (((nl v:Nat):Int)-1)=nl v-1:=by omega
      refine ai (a:=false) ?_ (aI rfl)
      unfold vx
      rw [e,cF h,aq]
      refine bT (ap (ap (ap ?_)))
      show some (Sum.inl _)=_
      congr 2
      rw [beq_eq_false_iff_ne];exact aiw h0
theorem CQ{v n:Nat}(h:v<W^n)(hn:n≤1000000000) :bO (aA v n) 0 n n=some (.r0 0 (nl v) n (aA v n)):=by
  have hl:=i6 h
  refine bb (ai rfl (ai (a:=(0,nl v)) (bL (fun j=>(0,n-j)) (n-nl v) rfl (fun j hj=>?_) ?_) rfl))
  · show aC (pB _ _ _).run _=_
    have e:Int.toNat (((n-j:Nat):Int)-1)=n-(j+1):=by omega
    have z:(aA v n).getD (n-(j+1)) 0=0:=by
      rw [cF h]
      exact Dj (Nat.lt_of_lt_of_le (cG v) (Nat.pow_le_pow_right (by decide) (by omega)))
    refine ai (a:=true) ?_ ?_
    · unfold pB
      rw [e,oo,Nat.zero_add,z,aq]
      exact bT (ap (ap (ap rfl)))
    · unfold IZ
      rw [e]
      exact aZ (ap (ap (ap rfl)))
  · have e0:n-(n-nl v)=nl v:=by omega
    show aC (pB _ _ _).run _=_
    rw [e0]
    by_cases h0:v=0
    · have z:=jk.2 h0
      rw [z]
      exact ai (a:=false) (aI rfl) (aI rfl)
    · have hp:=zt h0
      have e:Int.toNat (((nl v:Nat):Int)-1)=nl v-1:=by omega
      refine ai (a:=false) ?_ (aI rfl)
      unfold pB
      rw [e,oo,Nat.zero_add,cF h,aq]
      refine bT (ap (ap (ap ?_)))
      show some (Sum.inl _)=_
      congr 2
      rw [beq_eq_false_iff_ne];exact aiw h0
theorem ahB{v n:Nat}(h:v<W^n)(hn:n≤1000000000) :qB (aA v n)=some (if 4096<nl v then .r0 0 2 [] else .r0 (nl v) 0 (aA v (nl v))):=by
  have hl:=i6 h
  have hc:ab 0 (aA v n).length (aA v n)=aA v n:=aw _
  by_cases hb:4096<nl v
  · rw [if_pos hb]
    refine bb (ai (a:=(2,aA v n,nl v)) ?_ (aZ rfl))
    unfold JZ
    rw [hc,ln h hn]
    simp only [cW,bm,ba]
    exact aZ (aj (aB (aj (bT rfl))))
  · rw [if_neg hb]
    refine bb (ai (a:=(0,aA v n,nl v)) ?_ ?_)
    · unfold JZ
      rw [hc,ln h hn]
      simp only [cW,bm,ba]
      exact aZ (aj (aB (aj (ct (aj (aI rfl))))))
    · show (J0 _ _ _).run=_
      unfold J0
      rw [bM hl,aq]
      exact aI (bW (aX hl) (ap rfl))
theorem asp{v:Nat}(h:v<W) :ck (v:Int)=some (.r0 0 (nl v) 1 (aA v 1)):=by
  have e:([(v:Int)]:List Int)=aA v 1:=by
    show [(v:Int)]=[]++[lm v 0]
    unfold lm;rw [Nat.pow_zero,Nat.div_one,Nat.mod_eq_of_lt h];rfl
  refine bb (ai (a:=(0,nl v,1,aA v 1)) ?_ rfl)
  unfold ag7
  rw [e,CQ (by rw [Nat.pow_one];exact h) (by decide)]
  exact aj rfl
theorem ahC{v n:Nat}(h:v<W^n)(hn:n≤1000000000) :iW (aA v n) 0 n n=some (if 4096<nl v then .r0 (aA v n) else .r1 0 (nl v) n (aA v n)):=by
  refine bb (ai (a:=(0,nl v,n,aA v n)) ?_ ?_)
  · unfold UZ
    rw [CQ h hn]
    exact aj rfl
  · by_cases hb:4096<nl v
    · rw [if_pos hb];exact bT rfl
    · rw [if_neg hb];exact ct rfl
theorem aoT{a b:Nat}(ha:nl a≤1000000)(hb:nl b≤1000000) :xk (aA a (nl a)) (aA b (nl b))=some (.r0 (oR a b)):=by
  refine bb ?_
  by_cases h1:nl a<nl b
  · have:oR a b = -1:=by unfold oR;rw [if_pos (QB h1)]
    rw [this]
    refine bk ?_
    unfold Hb
    rw [aq,aq]
    exact bT rfl
  by_cases h2:nl b<nl a
  · have hlt:=QB h2
    have:oR a b=1:=by unfold oR;rw [if_neg (by omega),if_pos hlt]
    rw [this]
    refine bk ?_
    unfold Hb
    rw [aq,aq]
    exact ct (bT rfl)
  have hn:nl b=nl a:=by omega
  have hA:=cG a
  have hB:=cG b
  rw [hn] at hB hb ⊢
  generalize nl a=n at *
  refine ai (a:=((n:Int)-1)) ?_ ?_
  · unfold Hb
    rw [aq,aq]
    exact ct (ct (ap rfl))
  have step:∀ j,j<n→lm a (n-1-j)=lm b (n-1-j)→Dr (aA a n) (aA b n) ((n:Int)-1-j)=some (.inl ((n:Int)-1-(j+1:Nat))):=by
    intro j hj he
    show (Bw _ _ _).run=_
    unfold Bw
    have e:Int.toNat ((n:Int)-1-(j:Int))=n-1-j:=by omega
    rw [e,cF hA,cF hB,aq,aq,he]
    refine bT (ap (ap (ap (ap (cV (by simp) (ap (ap (ap (ap (cV (by simp) (ap ?_)))))))))))
    show some (Sum.inl _)=_
    congr 2;omega
  by_cases hall:∀ j,j<n→lm a (n-1-j)=lm b (n-1-j)
  · have hab:a=b:=by
      have:=JU hA hB (d:=n) (Nat.le_refl _) fun k _ h2=>by
        have:=hall (n-1-k) (by omega)
        rwa [show n-1-(n-1-k)=k by omega] at this
      simpa using this
    subst hab
    have:oR a a=0:=by unfold oR;rw [if_neg (Nat.lt_irrefl _),if_neg (Nat.lt_irrefl _)]
    rw [this]
    exact ai (bL (fun j=>(n:Int)-1-(j:Nat)) n (by omega) (fun j hj=>step j hj (hall j hj)) (ct rfl)) rfl
  · obtain ⟨k,hk,hb',hf⟩:=uR hall
    have hup:a/W^(n-1-k+1)=b/W^(n-1-k+1):=by
      have:=JU hA hB (d:=k) (by omega) fun i h1 h2=>by
        have:=hf (n-1-i) (by omega)
        rwa [show n-1-(n-1-i)=i by omega] at this
      rwa [show n-k=n-1-k+1 by omega] at this
    refine bk (bL (fun j=>(n:Int)-1-(j:Nat)) k (by omega) (fun j hj=>step j (by omega) (hf j hj)) ?_)
    show (Bw _ _ _).run=_
    unfold Bw
    have e:Int.toNat ((n:Int)-1-(k:Int))=n-1-k:=by omega
    rw [e,cF hA,cF hB,aq,aq]
    refine bT (ap (ap (ap (ap ?_))))
    by_cases hlt:lm a (n-1-k)<lm b (n-1-k)
    · have:=G7 hup hlt
      have:oR a b = -1:=by unfold oR;rw [if_pos this]
      rw [this]
      exact jh (decide_eq_true hlt) rfl
    · have hgt:lm b (n-1-k)<lm a (n-1-k):=by omega
      have hlt':=G7 hup.symm hgt
      have:oR a b=1:=by unfold oR;rw [if_neg (by omega),if_pos hlt']
      rw [this]
      exact cV (decide_eq_false hlt) (ap (ap (ap (ap (jh (decide_eq_true hgt) rfl)))))
theorem auW{x y nx ny:Nat}(hx:x<W^nx)(hy:y<W^ny)(hn:ny≤nx)(hb:nx≤1000000){lx ly:List Int}(ex:∀ i,i<nx→lx.getD i 0=lm x i)(ey:∀ i,i<ny→ly.getD i 0=lm y i)(hlx:nx≤lx.length)(hly:ny≤ly.length) :
    dh (zc lx nx ly ny (nx+1)) (0,0,aA 0 (nx+1))=some (.inl (F0 x y nx/W^nx,aA (F0 x y nx%W^nx) (nx+1))):=by
  refine bL (fun j=>(j,F0 x y j/W^j,aA (F0 x y j%W^j) (nx+1))) nx (by simp [F0,Nat.mod_one]) (fun j hj=>?_) (bk (ct rfl))
  have hc:=YT (x:=x) (y:=y) (j:=j)
  have hS:=Nat.mod_lt (F0 x y j) (gY j)
  have hst:=as4 x y j
  obtain ⟨d1,d2⟩:=OG (t:=x/W^j%W+y/W^j%W+F0 x y j/W^j) hS
  rw [←hst] at d1 d2
  have g8:=vp (n:=nx+1) hS (Nat.mod_lt (x/W^j%W+y/W^j%W+F0 x y j/W^j) (show W>0 by decide)) (by omega)
  rw [←d2] at g8
  show aC (J3 _ _ _ _ _ _ _ _).run _=_
  refine ai (a:=(F0 x y (j+1)/W^(j+1),aA (F0 x y (j+1)%W^(j+1)) (nx+1))) ?_ (ap rfl)
  unfold J3
  rw [ex j hj,aq]
  by_cases hyj:j<ny
  · rw [ey j hyj]
    refine bT (bT (ap (ap (ap (ap (ap (ap (ap ?_))))))))
    rw [JT,JT,g8,d1];rfl
  · have y0:y/W^j%W=0:=by
      rw [Nat.div_eq_of_lt (Nat.lt_of_lt_of_le hy (Nat.pow_le_pow_right (by decide) (by omega)))];rfl
    rw [y0] at g8 d1
    refine bT (ct (ap (ap (ap (ap (ap ?_))))))
    rw [JT,g8,d1];rfl
theorem auX{a b n m:Nat}(ha:a<W^n)(hb:b<W^m)(hn:n≤1000000)(hm:m≤1000000)(h1:nl a≤4096)(h2:nl b≤4096)(h3:nl (a+b)≤4096) :
    cI (aA a n) (aA b m)=some (.r0 0 (nl (a+b)) (max (nl a) (nl b)+1) 0 (aA (a+b) (max (nl a) (nl b)+1))):=by
  have la:=i6 ha
  have lb:=i6 hb
  refine bb (ai (a:=(0,aA a n,nl a,aA b m,nl b)) ?_ ?_)
  · unfold U1
    rw [aw,aw,ln ha (by omega),ln hb (by omega)]
    simp only [cW,bm,ba]
    exact aZ (aj (aB (aj (ct (aj (aZ (aj (aB (aj (ct (aj (aI rfl))))))))))))
  have vv:∀ {x y nx ny:Nat} {lx ly:List Int},x<W^nx→y<W^ny→ny≤nx→nx≤4096→(∀ i,i<nx→lx.getD i 0=lm x i)→(∀ i,i<ny→ly.getD i 0=lm y i)→nx≤lx.length→ny≤ly.length→nl (x+y)≤4096 →
      (aC ((J2 nx).run) fun (o10,l11)=>aC (dh (zc lx nx ly ny o10) (0,0,l11)) fun (a19,l20)=>aC ((J4 nx o10 a19 l20).run) fun (a21,a22,a23,a24,l25)=>(U2 a21 a22 a23 a24 l25).run)
        = some (.inr (.r0 0 (nl (x+y)) (nx+1) 0 (aA (x+y) (nx+1)))):=by
    intro x y nx ny lx ly hx hy hle hnx ex ey hlx hly h4
    refine ai (a:=(nx+1,aA 0 (nx+1))) ?_ (ai (auW hx hy hle (by omega) ex ey hlx hly) (ai (a:=(0,nl (x+y),nx+1,0,aA (x+y) (nx+1))) ?_ rfl))
    · unfold J2
      rw [FZ]
      exact ap (ap (ap (ap (ap rfl))))
    · have hyx:y<W^nx:=Nat.lt_of_lt_of_le hy (Nat.pow_le_pow_right (by decide) hle)
      have hs:F0 x y nx=x+y:=by unfold F0;rw [Nat.mod_eq_of_lt hx,Nat.mod_eq_of_lt hyx]
      have hc:=YT (x:=x) (y:=y) (j:=nx)
      have g8:=vp (u:=(x+y)%W^nx) (x:=(x+y)/W^nx) (j:=nx) (n:=nx+1) (Nat.mod_lt _ (gY _)) (by rw [hs] at hc;exact Nat.lt_of_le_of_lt hc (by decide)) (by omega)
      have hv:(x+y)%W^nx+(x+y)/W^nx*W^nx=x+y:=by rw [Nat.mul_comm];exact Nat.mod_add_div _ _
      rw [hv] at g8
      have hb2:x+y<W^(nx+1):=by
        rw [Nat.pow_succ]
        have h:=gY nx
        generalize W^nx=P at *
        have:(2:Nat)*P≤P*W:=by rw [Nat.mul_comm];exact Nat.mul_le_mul_left _ (by decide)
        omega
      unfold J4
      rw [hs,g8,ahC hb2 (by omega),if_neg (by omega),aq]
      exact ap (ap (aw4 (aw5 rfl) (avu (aj rfl))))
  by_cases hlt:nl a<nl b
  · refine ai (a:=(aA b m,nl b,aA a n,nl a)) (aI (bT rfl)) ?_
    have:=vv (x:=b) (y:=a) (nx:=nl b) (ny:=nl a) (lx:=aA b m) (ly:=aA a n) (cG b) (cG a) (by omega) h2 (fun i hi=>cF hb i) (fun i hi=>cF ha i) (by rw [aq];exact lb) (by rw [aq];exact la) (by rw [Nat.add_comm];exact h3)
    rw [Nat.add_comm b a] at this
    rw [show max (nl a) (nl b)=nl b by omega]
    exact this
  · refine ai (a:=(aA a n,nl a,aA b m,nl b)) (aI (ct rfl)) ?_
    have:=vv (x:=a) (y:=b) (nx:=nl a) (ny:=nl b) (lx:=aA a n) (ly:=aA b m) (cG a) (cG b) (by omega) h1 (fun i hi=>cF ha i) (fun i hi=>cF hb i) (by rw [aq];exact la) (by rw [aq];exact lb) h3
    rw [show max (nl a) (nl b)=nl a by omega]
    exact this
def aoU(a b n j:Nat) :List Int:=eY (fun i=>if i<j then lm (WB a b j) i else lm a i) n
theorem ate{a b n j:Nat}(hj:j<n) :(aoU a b n j).set j (((a/W^j%W+W-b/W^j%W-YU a b j)%W:Nat):Int)=aoU a b n (j+1):=by
  unfold aoU
  rw [ru hj]
  refine cE fun i hi=>?_
  have hD:=(asc (a:=a) (b:=b) (j:=j)).1
  have h:=OF hD (Nat.mod_lt (a/W^j%W+W-b/W^j%W-YU a b j) (show W>0 by decide)) i
  rw [←(amL a b j).2] at h
  by_cases e:i=j
  · subst e
    rw [if_pos rfl,if_pos (by omega),h,if_pos rfl]
  · rw [if_neg e] at h ⊢
    by_cases q:i<j
    · rw [if_pos q,if_pos (by omega),h]
    · rw [if_neg q,if_neg (by omega)]
theorem FU{a b n m:Nat}(ha:a<W^n)(hb:b<W^m)(hle:b≤a)(hmn:m≤n)(hn:n≤1000000) :xo (aA a n) (aA b m)=some (.r0 0 (nl (a-b)) n (aA (a-b) n)):=by
  have hbn:b<W^n:=Nat.lt_of_lt_of_le hb (Nat.pow_le_pow_right (by decide) hmn)
  refine bb (ai (a:=(n,aA a n)) ?_ (ai (a:=aA (a-b) n) ?_ (ai (a:=(0,nl (a-b),n,aA (a-b) n)) ?_ rfl)))
  · unfold U3
    rw [aw,aq]
    exact bW (aX (Nat.le_refl _)) (ap rfl)
  · have e0:aA a n=aoU a b n 0:=cE fun i _=>by rw [if_neg (by omega)]
    have en:aoU a b n n=aA (a-b) n:=by
      refine cE fun i hi=>?_
      have hd:WB a b n=a-b:=by
        unfold WB YU
        rw [Nat.mod_eq_of_lt ha,Nat.mod_eq_of_lt hbn,if_neg (by omega),Nat.zero_mul,Nat.add_zero]
      rw [if_pos hi,hd]
    have b0:YU a b 0=0:=by unfold YU;rw [Nat.pow_zero,Nat.mod_one,Nat.mod_one];rfl
    show dh _ ((0:Int),0,aA a n)=_
    refine bL (fun j=>(((YU a b j:Nat):Int),j,aoU a b n j)) n (by rw [b0,←e0];rfl) (fun j hj=>?_) (bk (cV (by rw [aq];simp) (by rw [en];rfl)))
    have hbr:YU a b j≤1:=by unfold YU;split<;>omega
    have hl:(aoU a b n j).length=n:=dS
    obtain ⟨s1,s2⟩:=amL a b j
    have hst:=ate (a:=a) (b:=b) hj
    show aC (J5 _ _ _ _ _ _).run _=_
    refine ai (a:=(((YU a b (j+1):Nat):Int),aoU a b n (j+1))) ?_ (ap rfl)
    unfold J5
    rw [cF ha,aq,aq,hl,ch,JT]
    have blt:∀ p q:Nat,(bif Nat.blt p q then (1:Int) else 0)=(((if p<q then 1 else 0:Nat)):Int):=by
      intro p q
      by_cases h:p<q
      · rw [if_pos h,show Nat.blt p q=true by rw [Nat.blt_eq];exact h];rfl
      · rw [if_neg h]
        cases e:Nat.blt p q with
        | true=>rw [Nat.blt_eq] at e;exact absurd e h
        | false=>rfl
    by_cases hjm:j<m
    · rw [cF hb,JT,blt,←s1,hst]
      exact bT (bT (ap (ap (ap (ap (ap (ap (ap rfl))))))))
    · have y0:b/W^j%W=0:=by
        rw [Nat.div_eq_of_lt (Nat.lt_of_lt_of_le hb (Nat.pow_le_pow_right (by decide) (by omega)))];rfl
      rw [y0] at s1 hst
      refine bT (ct (ap (ap (ap (ap (ap ?_))))))
      rw [blt,←s1,hst];rfl
  · unfold U4
    rw [CQ (Nat.lt_of_le_of_lt (Nat.sub_le _ _) ha) (by omega)]
    exact aj rfl
theorem aoV{a b n m:Nat}(ha:a<W^n)(hb:b<W^m)(hn:n≤1000000)(hm:m≤1000000)(h1:nl a≤4096)(h2:nl b≤4096)(hle:b≤a) :
    cm (aA a n) (aA b m)=some (.r0 (aA (a-b) (nl a)) 0 (nl (a-b)) 0):=by
  have la:=i6 ha
  have lb:=i6 hb
  have hnn:nl b≤nl a:=i6 (Nat.lt_of_le_of_lt hle (cG a))
  refine bb (ai (a:=(0,aA a n,nl a,aA b m,nl b)) ?_ (ai (a:=false) ?_ (ai (a:=(aA (a-b) (nl a),0,nl (a-b))) ?_ rfl)))
  · unfold Zk
    rw [aw,aw,ln ha (by omega),ln hb (by omega)]
    simp only [cW,bm,ba]
    exact aZ (aj (aB (aj (ct (aj (aZ (aj (aB (aj (ct (aj (aI rfl))))))))))))
  · unfold Zl
    rw [bM la,bM lb,aoT (by omega) (by omega)]
    refine aI (bW (aX la) (bW (aX lb) (aj ?_)))
    show some (Sum.inl _)=_
    congr 2
    show decide (oR a b<0)=false
    unfold oR
    rw [if_neg (by omega)]
    split<;>rfl
  · unfold Zm
    rw [bM la,bM lb,FU (cG a) (cG b) hle hnn (by omega)]
    exact aI (bW (aX la) (bW (aX lb) (aj rfl)))
theorem aoW{a b n m:Nat}(ha:a<W^n)(hb:b<W^m)(hn:n≤1000000)(hm:m≤1000000)(h1:nl a≤4096)(h2:nl b≤4096) :
    xn (aA a n) (aA b m)=some (.r0 (oR a b) 0):=by
  have la:=i6 ha
  have lb:=i6 hb
  refine bb (ai (a:=(0,aA a n,nl a,aA b m,nl b)) ?_ (ai (a:=oR a b) ?_ rfl))
  · unfold Zd
    rw [aw,aw,ln ha (by omega),ln hb (by omega)]
    simp only [cW,bm,ba]
    exact aZ (aj (aB (aj (ct (aj (aZ (aj (aB (aj (ct (aj (aI rfl))))))))))))
  · unfold Ze
    rw [bM la,bM lb,aoT (by omega) (by omega)]
    exact aI (bW (aX la) (bW (aX lb) (aj rfl)))
theorem aro{x y:Nat}(hx:x<W)(hy:y<W) :gZ (x:Int) (y:Int)=some (.r0 ((x*y/W:Nat):Int) ((x*y%W:Nat):Int)):=by
  obtain ⟨h1,h2,h3,h4,h5,h6,h7,h8,h9⟩:=ap1 hx hy
  have s:∀ z:Nat,Int.fdiv (z:Int) (2^(min (Int.toNat (32:Int)) (IntKind.u64.bits)))=((z/4294967296:Nat):Int):=fun z=>Dk z (k:=32) (by decide)
  refine bb (ai (a:=(((x%4294967296:Nat):Int),((x/4294967296:Nat):Int),((y/4294967296:Nat):Int),((x/4294967296*(y%4294967296)+x%4294967296*(y%4294967296)/4294967296:Nat):Int))) ?_ ?_)
  · unfold Bu
    rw [aiy hx,aiy hy,s,s,y8,y8,Nat.mod_eq_of_lt h2,Nat.mod_eq_of_lt h3,s,ow,Nat.mod_eq_of_lt h1]
    exact aj (aj (aj rfl))
  · show (uo _ _ _ _ _ _).run=_
    unfold uo
    rw [y8,y8,y8,aiy h1,s,ow,ow,Nat.mod_eq_of_lt h4,Nat.mod_eq_of_lt h5,Nat.mod_eq_of_lt h6,Nat.mod_eq_of_lt h7,s,ow,h8,Nat.mod_eq_of_lt h9]
    exact aj (aj rfl)
theorem auY{O a m k n N:Nat}(hO:O<W^(k+n))(ha:a<W^n)(hm:m<W)(hN:k+n≤N)(hb:N≤1000000) :
    xq (aA O N) k (N-k) (aA a n) (m:Int)=some (.r0 (((O+a*m*W^k)/W^(k+n):Nat):Int) (aA ((O+a*m*W^k)%W^(k+n)) N)):=by
  refine bb (ai rfl (ai (a:=((((O+a*m*W^k)/W^(k+n):Nat):Int),aA ((O+a*m*W^k)%W^(k+n)) N)) ?_ rfl))
  have c0:vt O a m k 0/W^(k+0)=0:=by
    have e:vt O a m k 0=O%W^k:=by unfold vt;rw [Nat.pow_zero,Nat.mod_one,Nat.zero_mul,Nat.zero_mul,Nat.add_zero,Nat.add_zero]
    rw [e,Nat.add_zero,Nat.div_eq_of_lt (Nat.mod_lt _ (gY _))]
  refine bL (fun i=>(((vt O a m k i/W^(k+i):Nat):Int),i,acK O a m k N i)) n (by rw [c0,as5];rfl) (fun i hi=>?_) ?_
  · have hc:=ap2 (O:=O) (a:=a) (m:=m) (k:=k) (i:=i)
    have hcW:vt O a m k i/W^(k+i)<W:=Nat.lt_of_le_of_lt hc hm
    have hla:=Nat.mod_lt (a/W^i) (show W>0 by decide)
    have hlO:=Nat.mod_lt (O/W^(k+i)) (show W>0 by decide)
    have hl:=auA (O:=O) (a:=a) (m:=m) (k:=k) (n:=N) (i:=i)
    have hat:=avx (O:=O) (a:=a) (m:=m) (k:=k) (n:=N) (i:=i) (by omega)
    have hst:=as6 (O:=O) (a:=a) (m:=m) (k:=k) (n:=N) (i:=i) (by omega)
    obtain ⟨w1,w2,w3,w4⟩:=auC hla hm hcW hlO
    have hS:=Nat.mod_lt (vt O a m k i) (gY (k+i))
    obtain ⟨d1,_⟩:=OG (t:=O/W^(k+i)%W+a/W^i%W*m+vt O a m k i/W^(k+i)) hS
    rw [←ag0] at d1
    show aC (zd _ _ _ _ _ _ _).run _=_
    refine ai (a:=(((vt O a m k (i+1)/W^(k+i+1):Nat):Int),acK O a m k N (i+1))) ?_ (ap rfl)
    unfold zd
    rw [cF ha,vr,aro hla hm]
    simp only [mv,nq,i7,oo]
    rw [hat,vr,aq,hl]
    simp only [ch,Nat.add_zero]
    rw [ow,Nat.mod_eq_of_lt w2,ow,w1,w3,Nat.mod_eq_of_lt w4,hst,←d1]
    exact bT (ap (ap (aj (aj (ap (ap (aj (ap (ap rfl)))))))))
  · show aC (zd _ _ _ _ _ _ _).run _=_
    refine bk ?_
    unfold zd
    rw [amO hO ha,auB hO,amO hO ha,aq]
    exact cV (by simp) rfl
theorem alP{a b n m:Nat}(ha:a<W^n)(hb:b<W^m) :a*b<W^(n+m):=by
  rw [Nat.pow_add]
  rcases Nat.eq_zero_or_pos b with h | h
  · rw [h,Nat.mul_zero];exact Nat.mul_pos (gY _) (gY _)
  · exact Nat.mul_lt_mul_of_lt_of_le ha (Nat.le_of_lt hb) (gY _) |> fun q=>q
theorem auZ{a b n m:Nat}(ha:a<W^n)(hb:b<W^m)(hn:n≤1000000)(hm:m≤1000000)(h1:nl a+nl b≤4096) :
    uS (aA a n) (aA b m)=some (.r0 0 (nl (a*b)) (nl a+nl b) 0 (aA (a*b) (nl a+nl b))):=by
  have la:=i6 ha
  have lb:=i6 hb
  have hA:=cG a
  have hB:=cG b
  have hab:=alP hA hB
  have hnab:=i6 hab
  refine bb (ai (a:=(0,aA a n,nl a,aA b m,nl b)) ?_ (ai (a:=false) (aI (ap (ct rfl))) (ai (a:=(nl a+nl b,aA 0 (nl a+nl b))) ?_ (ai (a:=aA (a*b) (nl a+nl b)) ?_ (ai (a:=(0,nl (a*b),nl a+nl b,0,aA (a*b) (nl a+nl b))) ?_ rfl)))))
  · unfold U5
    rw [aw,aw,ln ha (by omega),ln hb (by omega)]
    simp only [cW,bm,ba]
    exact aZ (aj (aB (aj (ct (aj (aZ (aj (aB (aj (ct (aj (aI rfl))))))))))))
  · unfold U6
    rw [FZ]
    exact aI (ap (ap (ap (ap (ap rfl)))))
  · refine bL (fun k=>(k,aA (a*(b%W^k)) (nl a+nl b))) (nl b) (by simp [Nat.mod_one]) (fun k hk=>?_) (bk (ct (by rw [Nat.mod_eq_of_lt hB];rfl)))
    have hO:a*(b%W^k)<W^(k+nl a):=by rw [Nat.add_comm];exact alP hA (Nat.mod_lt _ (gY k))
    have hlb:=Nat.mod_lt (b/W^k) (show W>0 by decide)
    have hs:=auY (N:=nl a+nl b) hO hA hlb (by omega) (by omega)
    have e:a*(b%W^k)+a*(b/W^k%W)*W^k=a*(b%W^(k+1)):=by rw [vq,Nat.mul_add,Nat.mul_assoc]
    rw [e] at hs
    have hO1:a*(b%W^(k+1))<W^(k+nl a+1):=by
      rw [show k+nl a+1=nl a+(k+1) by omega];exact alP hA (Nat.mod_lt _ (gY (k+1)))
    have hcar:a*(b%W^(k+1))/W^(k+nl a)<W:=by
      exact Nat.div_lt_of_lt_mul (by rw [←Nat.pow_succ];exact hO1)
    have g8:=vp (u:=a*(b%W^(k+1))%W^(k+nl a)) (x:=a*(b%W^(k+1))/W^(k+nl a)) (j:=k+nl a) (n:=nl a+nl b) (Nat.mod_lt _ (gY _)) hcar (by omega)
    have hv:a*(b%W^(k+1))%W^(k+nl a)+a*(b%W^(k+1))/W^(k+nl a)*W^(k+nl a)=a*(b%W^(k+1)):=by rw [Nat.mul_comm (a*(b%W^(k+1))/W^(k+nl a))];exact Nat.mod_add_div _ _
    rw [hv] at g8
    show aC (J8 _ _ _ _ _ _ _).run _=_
    refine ai (a:=aA (a*(b%W^(k+1))) (nl a+nl b)) ?_ (ap rfl)
    unfold J8
    rw [bM la,cF hb,vr,hs]
    simp only [BB,AJ,vB]
    rw [g8,aq,aq]
    exact bT (ap (ap (ap (ap (ap (bW (aX la) (aj (ap (ap rfl)))))))))
  · unfold U7
    rw [ahC hab (by omega),if_neg (by omega)]
    exact aw4 (aw5 rfl) (avu (aj rfl))
theorem awD:∀ z:Fin 64,List.getD bx (2^z.val*285870213051353865%W/2^58) 0=(z.val:Int)∧2^z.val*285870213051353865%W/2^58<64:=by decide +kernel
theorem avK:List.length bx=64:=by decide +kernel
theorem awE{x:Nat}(h0:x≠0)(h:x<W) :fc .and .u64 (x:Int) (IntKind.u64.wrap ((0:Int)-(x:Int)))=((2^tz x:Nat):Int):=by
  rw [auG h0 h,QC,Nat.mod_eq_of_lt h,Nat.mod_eq_of_lt (Nat.sub_lt (by decide) (Nat.pos_of_ne_zero h0)),avz h0 h]
theorem avL(y:Nat) :Int.fdiv (IntKind.u64.wrap ((y:Int)*(285870213051353865:Int))) (2^(min (Int.toNat (58:Int)) IntKind.u64.bits))=((y*285870213051353865%W/2^58:Nat):Int):=by
  have e:(285870213051353865:Int)=((285870213051353865:Nat):Int):=by omega
  rw [e,y8]
  exact Dk _ (k:=58) (by decide)
theorem awF{z:Nat}(h:z<64) :IntKind.i64.wrap ((z:Nat):Int)=((z:Nat):Int):=by
  have:∀ z:Fin 64,IntKind.i64.wrap ((z.val:Nat):Int)=((z.val:Nat):Int):=by decide
  exact this ⟨z,h⟩
theorem awG{x:Nat}(h0:x≠0)(h:x<W) :∃ y:Nat,Int.fdiv (IntKind.u64.wrap ((fc .and .u64 (x:Int) (IntKind.u64.wrap ((0:Int)-(x:Int))))*(285870213051353865:Int))) (2^(min (Int.toNat (58:Int)) IntKind.u64.bits))=(y:Int)∧List.getD bx y 0=((tz x:Nat):Int)∧y<64:=by
  have hz:=ag1 (n:=64) h0 h
  obtain ⟨t1,t2⟩:=awD ⟨tz x,hz⟩
  exact ⟨_,by rw [awE h0 h,avL],t1,t2⟩
theorem Lr{x:Nat}(h0:x≠0)(h:x<W) :ei (x:Int)=some (.r0 ((tz x:Nat):Int)):=by
  have hz:=ag1 (n:=64) h0 h
  obtain ⟨y,e,t1,t2⟩:=awG h0 h
  refine bb ?_
  unfold pA
  have ix:k9 (k9 0 (X7 (Int.toNat (y:Int)) 1)) 0=y:=by simp only [oo,Gw,Nat.zero_add,Nat.mul_one,Nat.add_zero,ch]
  rw [e,ix,t1,avK,awF hz]
  refine cV (by rw [beq_eq_false_iff_ne];omega) (bW (by decide) (bW ?_ (bW ?_ rfl)))
  · rw [Ao];omega
  · rw [oq];exact t2
theorem au0{v:Nat}(h:v≠0) :∃ i,i<nl v∧v%W^i=0∧v/W^i%W≠0∧tz v=64*i+tz (v/W^i%W):=by
  obtain ⟨h1,h2⟩:=Dl v h
  have e:2^tz v=2^(tz v%64)*W^(tz v/64):=JV _
  have h3:v%W^(tz v/64)=0:=by
    have d:W^(tz v/64) ∣ v:=Nat.dvd_trans ⟨2^(tz v%64),by rw [Nat.mul_comm];exact e⟩ (Nat.dvd_of_mod_eq_zero h1)
    exact Nat.mod_eq_zero_of_dvd d
  have hb:v=v/W^(tz v/64)*W^(tz v/64):=(Nat.div_mul_cancel (Nat.dvd_of_mod_eq_zero h3)).symm
  have h5:v/W^(tz v/64)≠0:=by intro q;rw [q,Nat.zero_mul] at hb;exact h hb
  have key:tz (v/W^(tz v/64))=tz v%64:=by
    have q:=ap3 h5 (64*(tz v/64))
    have w:2^(64*(tz v/64))=W^(tz v/64):=by rw [Nat.pow_mul]
    rw [w,←hb] at q
    omega
  obtain ⟨k1,k2⟩:=Dl _ h5
  rw [key] at k1 k2
  have hr:tz v%64<64:=Nat.mod_lt _ (by decide)
  have e64:W=2^(tz v%64)*2^(64-tz v%64):=by rw [←Nat.pow_add];show 2^64=_;congr 1;omega
  have l1:(v/W^(tz v/64)%W)%2^(tz v%64)=0:=by
    revert k1;generalize v/W^(tz v/64)=y;intro k1;rw [e64,Nat.mod_mul_right_mod];exact k1
  have l2:(v/W^(tz v/64)%W)/2^(tz v%64)%2=1:=by
    have a:2^(64-tz v%64)=2*2^(63-tz v%64):=by rw [show 64-tz v%64=(63-tz v%64)+1 by omega,Nat.pow_succ,Nat.mul_comm]
    revert k2;generalize v/W^(tz v/64)=y;intro k2;rw [e64,Nat.mod_mul_right_div_self,a,Nat.mod_mul_right_mod];exact k2
  have l3:v/W^(tz v/64)%W≠0:=by intro q;rw [q,Nat.zero_div] at l2;exact absurd l2 (by decide)
  refine ⟨tz v/64,?_,h3,l3,?_⟩
  · rcases Nat.lt_or_ge (tz v/64) (nl v) with q | q
    · exact q
    · exfalso;apply l3
      rw [Nat.div_eq_of_lt (Nat.lt_of_lt_of_le (cG v) (Nat.pow_le_pow_right (by decide) q)),Nat.zero_mod]
  · rw [LS l1 l2];omega
theorem arp{v n:Nat}(hv:v<W^n)(h0:v≠0)(hn:nl v≤4096)(hn2:n≤1000000) :ze (aA v n)=some (.r0 ((tz v:Nat):Int) 0):=by
  have hl:=i6 hv
  have hp:=zt h0
  obtain ⟨i,h1,h2,h3,h4⟩:=au0 h0
  have hW:v/W^i%W<W:=Nat.mod_lt _ (by decide)
  have hz:=ag1 (n:=64) h3 hW
  refine bb (ai (a:=(0,aA v n,nl v)) ?_ (ai (a:=false) (aI (by show some _=_;congr 2;rw [beq_eq_false_iff_ne];omega)) (ai (a:=()) (aI rfl) (ai (a:=i) (bL (fun j=>j) i rfl (fun j hj=>?_) ?_) (ai (a:=((tz v:Nat):Int)) ?_ rfl)))))
  · unfold ME
    rw [aw,ln hv (by omega)]
    simp only [cW,bm,ba]
    exact aZ (aj (aB (aj (ct (aj (aI rfl))))))
  · have z:lm v j=0:=by
      unfold lm
      obtain ⟨d,rfl⟩:∃ d,i=j+1+d:=⟨i-j-1,by omega⟩
      have dv:W^(j+1+d) ∣ v:=Nat.dvd_of_mod_eq_zero h2
      obtain ⟨c,hc⟩:=dv
      have:v=(W^d*c*W)*W^j:=by
        rw [hc,Nat.pow_add,Nat.pow_succ];simp only [Nat.mul_assoc,Nat.mul_comm,Nat.mul_left_comm]
      rw [this,Nat.mul_div_cancel _ (gY j),Nat.mul_mod_left];rfl
    show (sc _ _ _).run=_
    unfold sc
    rw [cF hv,z,aq]
    exact ap (ap (aZ (ap rfl)))
  · show (sc _ _ _).run=_
    unfold sc
    rw [cF hv,vr,aq]
    refine ap (ap (cV (by rw [beq_eq_false_iff_ne];omega) rfl))
  · unfold MF
    rw [cF hv,vr,aq,Lr h3 hW]
    simp only [ff,eN]
    have e:(((64*i:Nat):Int)+((tz (v/W^i%W):Nat):Int))=((tz v:Nat):Int):=by rw [h4,Int.natCast_add]
    rw [e]
    exact ap (ap (ap (aj (bW (by rw [cM];omega) rfl))))
theorem Uu(k:Nat) :Int.tdiv (k:Int) (64:Int)=((k/64:Nat):Int):=rfl
theorem Uv(k:Nat) :IntKind.u64.wrap (Int.tmod (k:Int) (64:Int))=((k%64:Nat):Int):=by
  rw [show Int.tmod (k:Int) (64:Int)=((k%64:Nat):Int) from rfl,kg (Nat.lt_trans (Nat.mod_lt k (by decide:64>0)) (by decide))]
theorem au1{v n k:Nat}(hv:v<W^n)(h0:n≠0)(hn:n≤1000000)(hk:k≤1000000) :
    gD (aA v n) (k:Int)=some (.r0 0 (nl (v*2^k)) (n+k/64+1) (aA (v*2^k) (n+k/64+1))):=by
  have hr:k%64<64:=Nat.mod_lt _ (by decide)
  have hq:k/64≤1000000:=by omega
  have hsh:=auJ (k:=k) hv
  refine bb (ai (a:=(((k/64:Nat):Int),((k%64:Nat):Int),n+k/64+1,aA 0 (n+k/64+1))) ?_ (ai (a:=aA (v*2^k) (n+k/64+1)) (bL (fun i=>(i,aA (v%W^i*2^(k%64)*W^(k/64)) (n+k/64+1))) n (by simp [Nat.mod_one]) (fun i hi=>?_) ?_) (ai (a:=(0,nl (v*2^k),n+k/64+1,aA (v*2^k) (n+k/64+1))) ?_ rfl)))
  · unfold U8
    rw [aq,Uu,Uv]
    have e:(((n:Nat):Int)+((k/64:Nat):Int))+(1:Int)=((n+k/64+1:Nat):Int):=by omega
    rw [e,ch,FZ]
    exact ct (ap (ap (aj (ap (ap (ap (ap (ap (ap rfl)))))))))
  · show aC (Ds _ _ _ _ _ _).run _=_
    refine ai (a:=aA (v%W^(i+1)*2^(k%64)*W^(k/64)) (n+k/64+1)) ?_ (ap rfl)
    unfold Ds
    have e1:Int.toNat (((i:Nat):Int)+((k/64:Nat):Int))=i+k/64:=rfl
    have e2:Int.toNat ((((i:Nat):Int)+((k/64:Nat):Int))+(1:Int))=i+k/64+1:=rfl
    rw [e1,e2,cF hv,vr,QD _ (by omega),YV hr,show (1:Int)=((1:Nat):Int) from rfl,Dk _ (by decide),Dk _ (by omega),Nat.pow_one,auH hr (by omega),aq]
    simp only [List.length_set,aq]
    exact bT (ap (ap (ap (ap (ap (ap (ap (ap (ap (ap (ap (ap (ap (ap (ap (ap rfl))))))))))))))))
  · show aC (Ds _ _ _ _ _ _).run _=_
    refine bk (cV (by rw [aq];exact (by simp only [cM,Ao,Bt,oq,o6,hJ,o7,o8,decide_eq_true_eq,decide_eq_false_iff_not,beq_iff_eq,beq_eq_false_iff_ne,bne_iff_ne,bne_eq_false_iff_eq,Bool.not_eq_true',Bool.not_eq_false',List.length_set,ne_eq,ge_iff_le,gt_iff_lt,lG,ch,wZ];omega)) ?_)
    rw [Nat.mod_eq_of_lt hv,Nat.mul_assoc,←JV];rfl
  · unfold U9
    rw [CQ hsh (by omega)]
    exact aj rfl
theorem arq{v n:Nat}(h:v<W^n)(hn:n≤100000000)(hb:nl v≤4096) :oc (aA v n)=some (.r0 (aA v n) (nl v) 0):=by
  refine bb (ai (a:=(aA v n,nl v)) ?_ (ct rfl))
  unfold Kb
  rw [aw,ln h (by omega)]
  exact aB (aj rfl)
theorem au2{v n k:Nat}(hv:v<W^n)(h0:v≠0)(hn:n≤1000000)(hk:k<262144)(hl:nl v≤4096)(hb:nl (v*2^k)≤4096) :
    kq (aA v n) (k:Int)=some (.r0 (aA (v*2^k) (nl (v*2^k))) (nl (v*2^k)) 0):=by
  have hp:=zt h0
  have hln:=i6 hv
  refine bb (ai (a:=(0,aA v n,nl v)) ?_ (ai (a:=()) ?_ (ai (a:=(aA (v*2^k) (nl (v*2^k)),nl (v*2^k),0)) ?_ rfl)))
  · unfold Zv
    rw [aw,ln hv (by omega)]
    simp only [cW,bm,ba]
    exact aZ (aj (aB (aj (ct (aj (aI rfl))))))
  · exact aI (ct (bT (ct rfl)))
  · have hsl:=auJ (k:=k) (cG v)
    have hls:=i6 hsl
    show (OX _ _ _).run=_
    unfold OX
    rw [bM hln,au1 (cG v) (by omega) (by omega) (by omega)]
    simp only [BD,nt,nu,nv]
    rw [bM hls,arq (cG _) (by omega) hb]
    exact bW (aX hln) (aj (bW (aX hls) (aj rfl)))
theorem au3{v n k:Nat}(hv:v<W^n)(hn:n≤1000000)(hk:k≤100000000) :
    ∃ b N,uT (aA v n) (k:Int)=some (.r0 0 (nl (v/2^k)) N b (aA (v/2^k) N))∧nl (v/2^k)≤N∧N≤n:=by
  have hr:k%64<64:=Nat.mod_lt _ (by decide)
  have hq:k/64≤10000000:=by omega
  rcases Nat.lt_or_ge (k/64) n with hlt | hge
  · have hs:=aww (k:=k) hv (Nat.le_of_lt hlt)
    have hls:=i6 hs
    let f0:=((fc .and .u64 (List.getD (aA v n) (Int.toNat (Int.tdiv (k:Int) (64:Int))) 0) (IntKind.u64.wrap ((IntKind.u64.wrap ((1:Int)*2^(min (Int.toNat (IntKind.u64.wrap (Int.tmod (k:Int) (64:Int)))) (IntKind.u64.bits))))-(1:Int)))) != (0:Int))
    let f:Nat→Bool:=fun j=>Nat.rec (motive:=fun _=>Bool) f0 (fun j b=>b||(lm v j != (0:Int))) j
    refine ⟨f (k/64),n-k/64,bb (ai (a:=(((k/64:Nat):Int),((k%64:Nat):Int),f0,k/64,k/64)) ?_ (ai (a:=f (k/64)) (bL (fun j=>(f j,j)) (k/64) rfl (fun j hj=>?_) ?_) (ai (a:=(n-k/64,n-k/64,List.replicate (n-k/64) (0:Int))) ?_ (ai (a:=aA (v/2^k) (n-k/64)) (bL (fun i=>(i,eY (fun j=>if j<i then lm (v/2^k) j else 0) (n-k/64))) (n-k/64) (by simp only [pz];congr 1) (fun i hi=>?_) ?_) (ai (a:=(0,nl (v/2^k),n-k/64,aA (v/2^k) (n-k/64))) ?_ rfl))))),hls,Nat.sub_le _ _⟩
    · unfold Kc
      have e:=Uu k
      refine aj (bW (by rw [e];exact (by simp only [cM,Ao,Bt,oq,o6,hJ,o7,o8,decide_eq_true_eq,decide_eq_false_iff_not,beq_iff_eq,beq_eq_false_iff_ne,bne_iff_ne,bne_eq_false_iff_eq,Bool.not_eq_true',Bool.not_eq_false',List.length_set,ne_eq,ge_iff_le,gt_iff_lt,lG,ch,wZ];omega)) (aj (cV (by rw [e,aq];exact (by simp only [cM,Ao,Bt,oq,o6,hJ,o7,o8,decide_eq_true_eq,decide_eq_false_iff_not,beq_iff_eq,beq_eq_false_iff_ne,bne_iff_ne,bne_eq_false_iff_eq,Bool.not_eq_true',Bool.not_eq_false',List.length_set,ne_eq,ge_iff_le,gt_iff_lt,lG,ch,wZ];omega)) (bW (by rw [e,aq];exact (by simp only [cM,Ao,Bt,oq,o6,hJ,o7,o8,decide_eq_true_eq,decide_eq_false_iff_not,beq_iff_eq,beq_eq_false_iff_ne,bne_iff_ne,bne_eq_false_iff_eq,Bool.not_eq_true',Bool.not_eq_false',List.length_set,ne_eq,ge_iff_le,gt_iff_lt,lG,ch,wZ];omega)) (bW (by rw [e,aq];exact (by simp only [cM,Ao,Bt,oq,o6,hJ,o7,o8,decide_eq_true_eq,decide_eq_false_iff_not,beq_iff_eq,beq_eq_false_iff_ne,bne_iff_ne,bne_eq_false_iff_eq,Bool.not_eq_true',Bool.not_eq_false',List.length_set,ne_eq,ge_iff_le,gt_iff_lt,lG,ch,wZ];omega)) (bW (by rw [Uv];exact (by simp only [cM,Ao,Bt,oq,o6,hJ,o7,o8,decide_eq_true_eq,decide_eq_false_iff_not,beq_iff_eq,beq_eq_false_iff_ne,bne_iff_ne,bne_eq_false_iff_eq,Bool.not_eq_true',Bool.not_eq_false',List.length_set,ne_eq,ge_iff_le,gt_iff_lt,lG,ch,wZ];omega)) (bW (by rw [e,aq];exact (by simp only [cM,Ao,Bt,oq,o6,hJ,o7,o8,decide_eq_true_eq,decide_eq_false_iff_not,beq_iff_eq,beq_eq_false_iff_ne,bne_iff_ne,bne_eq_false_iff_eq,Bool.not_eq_true',Bool.not_eq_false',List.length_set,ne_eq,ge_iff_le,gt_iff_lt,lG,ch,wZ];omega)) (bW (by rw [e];exact (by simp only [cM,Ao,Bt,oq,o6,hJ,o7,o8,decide_eq_true_eq,decide_eq_false_iff_not,beq_iff_eq,beq_eq_false_iff_ne,bne_iff_ne,bne_eq_false_iff_eq,Bool.not_eq_true',Bool.not_eq_false',List.length_set,ne_eq,ge_iff_le,gt_iff_lt,lG,ch,wZ];omega)) ?_))))))))
      show some (Sum.inl (_,IntKind.u64.wrap _,f0,_,_))=_
      rw [Uv];rfl
    · show aC (Dt _ _ _ _ _).run _=_
      refine ai (a:=f (j+1)) ?_ (ap rfl)
      unfold Dt
      rw [cF hv,aq]
      refine bT (ap (ap ?_))
      have hf:f (j+1)=(f j||(lm v j != (0:Int))):=rfl
      rw [hf]
      cases f j
      · exact aI rfl
      · exact aZ rfl
    · show aC (Dt _ _ _ _ _).run _=_
      exact bk (ct rfl)
    · show (Ke _ _).run=_
      unfold Ke
      have e:((n:Nat):Int)-((k/64:Nat):Int)=((n-k/64:Nat):Int):=by omega
      rw [aq,e]
      exact ap (ap (ap (ap (ap rfl))))
    · show aC (Du _ _ _ _ _ _ _).run _=_
      refine ai (a:=eY (fun j=>if j<i+1 then lm (v/2^k) j else 0) (n-k/64)) ?_ (ap rfl)
      have e1:Int.toNat (((i:Nat):Int)+((k/64:Nat):Int))=i+k/64:=rfl
      have e2:Int.toNat ((((i:Nat):Int)+((k/64:Nat):Int))+(1:Int))=i+k/64+1:=rfl
      obtain ⟨w1,w2⟩:=auF (V:=v/W^(i+k/64)) hr
      have hV:v/W^(i+k/64)/W=v/W^(i+k/64+1):=by rw [Nat.pow_succ,Nat.div_div_eq_div_mul]
      have vv:∀ x:Int,x=lm (v/2^k) i→(eY (fun j=>if j<i then lm (v/2^k) j else 0) (n-k/64)).set i x=eY (fun j=>if j<i+1 then lm (v/2^k) j else 0) (n-k/64):=by
        intro x hx
        rw [ru hi]
        refine cE fun j hj=>?_
        by_cases e:j=i
        · subst e;rw [if_pos rfl,if_pos (Nat.lt_succ_self _),hx]
        · rw [if_neg e]
          by_cases e':j<i
          · rw [if_pos e',if_pos (by omega)]
          · rw [if_neg e',if_neg (by omega)]
      unfold Du
      rw [e1,e2,cF hv,cF hv,vr,vr,Dk _ (by omega),YV hr,show (1:Int)=((1:Nat):Int) from rfl,QD _ (by decide),QD _ (by omega),Nat.pow_one]
      simp only [List.length_set,aq,dS,List.set_set]
      by_cases hlast:i+k/64+1<n
      · refine bT (ap (ap (ap (ap (ap (ap (ap (ap (bT (ap (ap (ap (ap (ap (ap (aj (ap (ap (ap ?_)))))))))))))))))))
        show some (Sum.inl _)=_
        congr 2
        refine vv _ ?_
        rw [List.getD_eq_getElem?_getD,List.getElem?_set_self (by rw [dS];exact hi)]
        show fc .or .u64 _ _=_
        have m1:v/W^(i+k/64)%W/2^(k%64)%W=v/W^(i+k/64)%W/2^(k%64):=Nat.mod_eq_of_lt (Nat.lt_of_le_of_lt (Nat.div_le_self _ _) (Nat.mod_lt _ (by decide)))
        show fc .or .u64 ((v/W^(i+k/64)%W/2^(k%64):Nat):Int) _=_
        rw [aix,m1,Nat.mod_mod,←hV,w2,←w1,auI]
      · refine bT (ap (ap (ap (ap (ap (ap (ap (ap (ct ?_)))))))))
        show some (Sum.inl _)=_
        congr 2
        refine vv _ ?_
        have z:v/W^(i+k/64)/W=0:=by
          rw [hV];exact Nat.div_eq_of_lt (Nat.lt_of_lt_of_le hv (Nat.pow_le_pow_right (by decide) (by omega)))
        rw [z] at w1
        rw [auI,w1]
        simp
    · show aC (Du _ _ _ _ _ _ _).run _=_
      refine bk (ct ?_)
      show some (Sum.inr (Sum.inl _))=_
      congr 3
      exact cE fun j hj=>if_pos hj
    · unfold Vc
      rw [CQ hs (by omega)]
      exact aj rfl
  · have hz:=amQ hv hge
    refine ⟨decide (((n:Nat):Int)>(0:Int)),0,?_,by rw [hz,eS];exact Nat.le_refl 0,Nat.zero_le _⟩
    refine bb (bk ?_)
    unfold Kc
    rw [Uu,aq,hz,eS]
    exact aj (ap (aj (bT rfl)))
theorem au4{v n k:Nat}(hv:v<W^n)(hn:n≤1000000)(hl:nl v≤4096)(hk:k≤100000000) :
    ∃ b N,xw (aA v n) (k:Int)=some (.r0 (aA (v/2^k) N) 0 (nl (v/2^k)) b 0)∧nl (v/2^k)≤N∧N≤4096:=by
  have hln:=i6 hv
  obtain ⟨b,N,h1,h2,h3⟩:=au3 (k:=k) (cG v) (by omega) hk
  refine ⟨b,N,bb (ai (a:=(0,aA v n,nl v)) ?_ (ai (a:=false) ?_ (ai (a:=(aA (v/2^k) N,0,nl (v/2^k),b)) ?_ rfl))),h2,by omega⟩
  · unfold Zy
    rw [aw,ln hv (by omega)]
    simp only [cW,bm,ba]
    exact aZ (aj (aB (aj (ct (aj (aI rfl))))))
  · refine aI ?_
    show some (Sum.inl (decide (((k:Nat):Int)<0)))=_
    rw [decide_eq_false (by omega)]
  · show (O0 _ _ _ _).run=_
    unfold O0
    rw [bM hln,h1]
    exact aI (bW (aX hln) (aj rfl))
theorem uP(s:Bool){v n:Nat}(hv:v<W^n)(hn:n≤1000000)(hl:nl v≤4096){e:Int}(he : -1000000≤e∧e≤1000000) :
    ∃ N,aL s (aA v n) e=some (.r0 (nS (sg s v)) (aA (nM (sg s v)) N) 0 (nl (nM (sg s v))) (nE (sg s v) e))∧nl (nM (sg s v))≤N∧N≤4096:=by
  have t5:(HA (aA v n)).run=some (.inl (aA v (nl v),nl v,false)):=by
    unfold HA
    rw [aw,ahB hv (by omega),if_neg (by omega)]
    exact aB (aj rfl)
  by_cases h0:v=0
  · have z:sg s v=0:=vu.2 h0
    rw [z,fi,XX]
    rw [jl,eS]
    refine ⟨0,bb (ai t5 (bk ?_)),Nat.le_refl _,Nat.zero_le _⟩
    rw [h0,eS]
    exact aZ rfl
  · have z:sg s v≠0:=fun q=>h0 (vu.1 q)
    have hp:=zt h0
    have ht:=amR (v:=v)
    obtain ⟨b,N,h1,h2,h3⟩:=au4 (k:=tz v) (cG v) (by omega) hl (by omega)
    have eM:nM (sg s v)=v/2^tz v:=by unfold nM;rw [JW]
    have eE:nE (sg s v) e=e+((tz v:Nat):Int):=by rw [iU z,JW]
    rw [av6 h0,eM,eE]
    refine ⟨N,bb (ai t5 (ai (a:=((tz v:Nat):Int)) ?_ (ai (a:=(aA (v/2^tz v) N,0,nl (v/2^tz v))) ?_ ?_))),h2,h3⟩
    · show (HB _ _).run=_
      unfold HB
      rw [bf aq,arp (cG v) h0 hl (by omega)]
      exact ct (bH (aj rfl))
    · show (HC _ _ _).run=_
      unfold HC
      rw [bf aq,h1]
      exact bH (aj rfl)
    · exact bW (by rw [cM];omega) rfl
theorem aoX{v n:Nat}(hv:v<W^n)(hn:n≤1000000)(hl:nl v≤4096){e:Int}(he : -262144≤e∧e≤262144) :eO (aA v n) e=some (.r0 true):=by
  refine bb (ai (a:=0) ?_ (ai (a:=true) ?_ rfl))
  · unfold Vj
    rw [aw,ahB hv (by omega),if_neg (by omega)]
    exact aB (aj rfl)
  · refine aZ (bT ?_)
    show some (Sum.inl (decide (e≤262144)))=_
    rw [decide_eq_true he.2]
theorem IL{z e:Int}{s:Bool}(hs:z≠0→s=nS z)(h:Sm z e) :∃ N,aL s (aA (nM z) (nl (nM z))) (nE z e)=some (.r0 (nS z) (aA (nM z) N) 0 (nl (nM z)) (nE z e))∧nl (nM z)≤N∧N≤4096:=by
  have hm:=h.m
  have hb:=h.b
  obtain ⟨N,h1,h2,h3⟩:=uP s (cG (nM z)) (by omega) (by omega:nl (nM z)≤4096) (e:=nE z e) (by omega)
  obtain ⟨a,b,c⟩:=QF (e:=e) hs
  rw [a,b,c] at h1
  rw [b] at h2
  exact ⟨N,h1,h2,h3⟩
theorem PO{z e:Int}(h:Sm z e) :eO (aA (nM z) (nl (nM z))) (nE z e)=some (.r0 true):=by
  have hm:=h.m
  have hb:=h.b
  exact aoX (cG (nM z)) (by omega) (by omega) (by omega)
theorem PP(s:Bool){v n:Nat}(hv:v<W^n)(hn:n≤1000000)(hl:nl v≤1000){e:Int}(he : -150000≤e∧e≤150000) :
    ∃ N,cX s (aA v n) e=some (.r0 0 (nS (sg s v)) (aA (nM (sg s v)) N) 0 (nl (nM (sg s v))) (nE (sg s v) e))∧nl (nM (sg s v))≤N∧N≤4096:=by
  obtain ⟨N,h1,h2,h3⟩:=uP s hv hn (by omega) (e:=e) (by omega)
  have ht:=amR (v:=v)
  have hE' : -262144≤nE (sg s v) e∧nE (sg s v) e≤262144:=by
    unfold nE;rw [JW];split<;>omega
  obtain ⟨hE',hE⟩:=hE'
  refine ⟨N,bb (ai (a:=(nS (sg s v),aA (nM (sg s v)) N,0,nl (nM (sg s v)),nE (sg s v) e,false)) ?_ (ai (a:=false) ?_ rfl)),h2,h3⟩
  · unfold QZ
    rw [aw,h1]
    exact aB (aj rfl)
  · show (HE _ _ _ _).run=_
    unfold HE
    rw [bM h2,aoX (cG _) (by omega) (by omega) ⟨hE',hE⟩]
    exact bW (aX h2) (aj rfl)
theorem yZ{z:Int}{m:Nat}(h:m≤tz z.natAbs) :nM z*2^(tz z.natAbs-m)=z.natAbs/2^m∧z.natAbs/2^m*2^m=z.natAbs:=by
  have b:=asf z
  have e:tz z.natAbs=(tz z.natAbs-m)+m:=by omega
  have d:z.natAbs/2^m*2^m=z.natAbs:=by
    refine Nat.div_mul_cancel ⟨nM z*2^(tz z.natAbs-m),?_⟩
    rw [e,Nat.pow_add,←Nat.mul_assoc] at b
    rw [Nat.mul_comm (2^m)];exact b.symm
  refine ⟨?_,d⟩
  rw [e,Nat.pow_add,←Nat.mul_assoc] at b
  exact (Nat.div_eq_of_eq_mul_left (kC m) b.symm).symm
theorem LZ{z e:Int}{m:Nat}(h:Sm z e)(h0:z≠0)(hm:m≤tz z.natAbs){k:Int}(hk:k=((tz z.natAbs-m:Nat):Int)) :
    kq (aA (nM z) (nl (nM z))) k=some (.r0 (aA (z.natAbs/2^m) (nl (z.natAbs/2^m))) (nl (z.natAbs/2^m)) 0):=by
  obtain ⟨e1,e2⟩:=yZ hm
  have ht:=h.t
  have hM:=h.m
  have hN:nl (z.natAbs/2^m)≤300:=Nat.le_trans (ot (Nat.div_le_self _ _)) h.l
  rw [hk,au2 (cG _) (F1 h0) (by omega) (by omega) (by omega) (by rw [e1];omega),e1]
theorem asq{a b:Int}(h:a≤b) :ke a b=a:=by unfold ke;rw [if_neg (by omega)]
theorem XY{a b:Int}(h:b≤a) :ke a b=b:=by
  unfold ke
  by_cases q:b<a
  · rw [if_pos q]
  · rw [if_neg q];omega
theorem XZ{a b:Int}(h:a≤b) :mr a b=b:=by
  unfold mr
  by_cases q:b>a
  · rw [if_pos q]
  · rw [if_neg q];omega
theorem asr{a b:Int}(h:b≤a) :mr a b=a:=by unfold mr;rw [if_neg (by omega)]
structure Lvl (x y e:Int) (m:Nat) (ep:Int):Prop where
  x2:x.natAbs/2^m*2^m=x.natAbs
  y2:y.natAbs/2^m*2^m=y.natAbs
  at':(x=0∧y=0∧ep=0)∨ep=e+m
  b : -50000≤ep∧ep≤94800
theorem Lvl.sum{x y e ep:Int}{m:Nat}(h:Lvl x y e m ep){z z':Int}(hz:z=z'*((2^m:Nat):Int))(h0:x=0→y=0→z'=0) :nS z=nS z'∧nM z=nM z'∧nE z e=nE z' ep:=by
  obtain ⟨a,b,c⟩:=F2 hz e
  refine ⟨a,b,?_⟩
  rcases h.at' with ⟨h1,h2,h3⟩ | h1
  · have:=h0 h1 h2
    subst this
    rw [Int.zero_mul] at hz
    rw [hz,fi,fi]
  · rw [c,h1]
theorem acm{x y e:Int}(hx:Sm x e)(hy:Sm y e) :∃ m ep,dV (aA (nM x) (nl (nM x))) (nE x e) (aA (nM y) (nl (nM y))) (nE y e) =
    some (.r0 0 ep (aA (x.natAbs/2^m) (nl (x.natAbs/2^m))) (nl (x.natAbs/2^m)) (aA (y.natAbs/2^m) (nl (y.natAbs/2^m))) (nl (y.natAbs/2^m)))∧Lvl x y e m ep:=by
  have hxt:=hx.t
  have hyt:=hy.t
  obtain ⟨_,e1,e2⟩:=hx
  have zn:∀ m,((0:Int).natAbs/2^m)=0:=fun m=>by rw [Int.natAbs_zero,Nat.zero_div]
  by_cases h1:x=0
  · subst h1
    have l0:nl (nM 0)=0:=by rw [jl,eS]
    by_cases h2:y=0
    · subst h2
      refine ⟨0,0,bb (ai (a:=0) ?_ (ai (a:=([],0,[],0)) ?_ ?_)),⟨by simp,by simp,.inl ⟨rfl,rfl,rfl⟩,by omega⟩⟩
      · unfold sd;rw [aq,l0,fi];exact aZ rfl
      · unfold l4;rw [aq,l0];exact aZ (aZ rfl)
      · rw [zn,eS];rfl
    · have ly:nl (nM y)≠0:=fun q=>F1 h2 (jk.1 q)
      obtain ⟨_,d⟩:=yZ (z:=y) (Nat.le_refl _)
      refine ⟨tz y.natAbs,nE y e,bb (ai (a:=nE y e) ?_ (ai (a:=([],0,aA (y.natAbs/2^tz y.natAbs) (nl (y.natAbs/2^tz y.natAbs)),nl (y.natAbs/2^tz y.natAbs))) ?_ ?_)),⟨by simp,d,.inr (iU h2),by rw [iU h2];omega⟩⟩
      · unfold sd;rw [aq,l0];exact aZ rfl
      · show (l4 _ _ _ _ _).run=_
        unfold l4
        rw [aq,aq,l0,bf aq,LZ hy h2 (Nat.le_refl _) (k:=nE y e-nE y e) (by omega)]
        exact aZ (ct (bW (by rw [cM];omega) (bH (aj rfl))))
      · rw [zn,eS];rfl
  · have lx:nl (nM x)≠0:=fun q=>F1 h1 (jk.1 q)
    by_cases h2:y=0
    · subst h2
      have l0:nl (nM 0)=0:=by rw [jl,eS]
      obtain ⟨_,d⟩:=yZ (z:=x) (Nat.le_refl _)
      have hx:Sm x e:=⟨by assumption,e1,e2⟩
      refine ⟨tz x.natAbs,nE x e,bb (ai (a:=nE x e) ?_ (ai (a:=(aA (x.natAbs/2^tz x.natAbs) (nl (x.natAbs/2^tz x.natAbs)),nl (x.natAbs/2^tz x.natAbs),[],0)) ?_ ?_)),⟨d,by simp,.inr (iU h1),by rw [iU h1];omega⟩⟩
      · unfold sd;rw [aq,aq,l0];exact ct (aZ rfl)
      · show (l4 _ _ _ _ _).run=_
        unfold l4
        rw [aq,aq,l0,bf (l:=aA (nM x) (nl (nM x))) aq,LZ hx h1 (Nat.le_refl _) (k:=nE x e-nE x e) (by omega)]
        exact ct (bW (by rw [cM];omega) (bH (aj (aZ rfl))))
      · rw [zn,eS];rfl
    · have ly:nl (nM y)≠0:=fun q=>F1 h2 (jk.1 q)
      have hx:Sm x e:=⟨by assumption,e1,e2⟩
      have ex:=iU (e:=e) h1
      have ey:=iU (e:=e) h2
      have emin:ke (nE x e) (nE y e)=e+((min (tz x.natAbs) (tz y.natAbs):Nat):Int):=by
        rw [ex,ey]
        rcases Nat.le_total (tz x.natAbs) (tz y.natAbs) with q | q
        · rw [asq (by omega),Nat.min_eq_left q]
        · rw [XY (by omega),Nat.min_eq_right q]
      have emax:mr (nE x e) (nE y e)=e+((max (tz x.natAbs) (tz y.natAbs):Nat):Int):=by
        rw [ex,ey]
        rcases Nat.le_total (tz x.natAbs) (tz y.natAbs) with q | q
        · rw [XZ (by omega),Nat.max_eq_right q]
        · rw [asr (by omega),Nat.max_eq_left q]
      have mx:min (tz x.natAbs) (tz y.natAbs)≤tz x.natAbs:=Nat.min_le_left _ _
      have my:min (tz x.natAbs) (tz y.natAbs)≤tz y.natAbs:=Nat.min_le_right _ _
      have gx:max (tz x.natAbs) (tz y.natAbs)≤44800:=by omega
      have gl:min (tz x.natAbs) (tz y.natAbs)≤max (tz x.natAbs) (tz y.natAbs):=by omega
      revert emin emax mx my gx gl
      generalize min (tz x.natAbs) (tz y.natAbs)=m
      generalize max (tz x.natAbs) (tz y.natAbs)=g
      intro emin emax mx my gx gl
      obtain ⟨_,dx⟩:=yZ mx
      obtain ⟨_,dy⟩:=yZ my
      refine ⟨m,e+m,bb (ai (a:=e+(m:Int)) ?_ (ai (a:=(aA (x.natAbs/2^m) (nl (x.natAbs/2^m)),nl (x.natAbs/2^m),aA (y.natAbs/2^m) (nl (y.natAbs/2^m)),nl (y.natAbs/2^m))) ?_ rfl)),⟨dx,dy,.inr rfl,by omega⟩⟩
      · unfold sd
        rw [aq,aq,emin,emax]
        exact ct (ct (bW (by rw [cM];omega) (cV (by rw [decide_eq_false_iff_not];omega) rfl)))
      · show (l4 _ _ _ _ _).run=_
        unfold l4
        rw [aq,aq,bf (l:=aA (nM x) (nl (nM x))) aq,bf (l:=aA (nM y) (nl (nM y))) aq,LZ hx h1 mx (k:=nE x e-(e+(m:Int))) (by omega),LZ hy h2 my (k:=nE y e-(e+(m:Int))) (by omega)]
        exact ct (bW (by rw [cM];omega) (bH (aj (ct (bW (by rw [cM];omega) (bH (aj rfl)))))))
theorem Uw(s:Bool){v n:Nat}(hv:v<W^n)(hn:n≤1000000)(hl:nl v≤1000){e:Int}(he : -150000≤e∧e≤150000) :
    ∃ N,cL s (aA v n) 0 e=some (.r0 0 (nS (sg s v)) (aA (nM (sg s v)) N) 0 (nl (nM (sg s v))) (nE (sg s v) e))∧nl (nM (sg s v))≤N∧N≤4096:=by
  obtain ⟨N,h1,h2,h3⟩:=PP s hv hn hl he
  refine ⟨N,bb (ai (a:=(0,nS (sg s v),aA (nM (sg s v)) N,0,nl (nM (sg s v)),nE (sg s v) e)) ?_ rfl),h2,h3⟩
  unfold MH
  rw [aw,h1]
  exact aI (aB (aj rfl))
theorem ahD{x y e:Int}{s t:Bool}(hs:x≠0→s=nS x)(ht:y≠0→t=nS y)(hx:Sm x e)(hy:Sm y e) :
    ∃ N,dp s (aA (nM x) (nl (nM x))) (nE x e) t (aA (nM y) (nl (nM y))) (nE y e)=some (.r0 0 (nS (x+y)) (aA (nM (x+y)) N) 0 (nl (nM (x+y))) (nE (x+y) e))∧nl (nM (x+y))≤N∧N≤4096:=by
  obtain ⟨Nx,x1,x2,x3⟩:=IL hs hx
  obtain ⟨Ny,y1,y2,y3⟩:=IL ht hy
  obtain ⟨m,ep,l1,l2⟩:=acm hx hy
  have xl:=hx.l
  have yl:=hy.l
  have hX:nl (x.natAbs/2^m)≤300:=Nat.le_trans (ot (Nat.div_le_self _ _)) xl
  have hY:nl (y.natAbs/2^m)≤300:=Nat.le_trans (ot (Nat.div_le_self _ _)) yl
  have ox:=asg l2.x2
  have oy:=asg l2.y2
  have z0:∀ {z:Int},z=0→z.natAbs/2^m=0:=fun h=>by rw [h,Int.natAbs_zero,Nat.zero_div]
  have zx:x=0→x.natAbs/2^m=0:=z0
  have zy:y=0→y.natAbs/2^m=0:=z0
  have hb:=l2.b
  have t9:(Kl s (aA (nM x) (nl (nM x))) (nE x e) t (aA (nM y) (nl (nM y))) (nE y e)).run=some (.inl (0,nS x,aA (nM x) Nx,0,nl (nM x),nE x e,nS y,aA (nM y) Ny,0,nl (nM y),nE y e,false)):=by
    unfold Kl
    rw [aw,aw,PO hx,PO hy,x1,y1]
    exact aZ (aj (aB (aj (aI (aB (aj (aj (aZ (aj (aB (aj (aI (aB (aj (aj (aI rfl))))))))))))))))
  have t10:(HG 0 (aA (nM x) Nx) 0 (nl (nM x)) (nE x e) (aA (nM y) Ny) 0 (nl (nM y)) (nE y e)).run=some (.inl (0,ep,aA (x.natAbs/2^m) (nl (x.natAbs/2^m)),nl (x.natAbs/2^m),aA (y.natAbs/2^m) (nl (y.natAbs/2^m)),nl (y.natAbs/2^m))):=by
    unfold HG
    rw [bM x2,bM y2,l1]
    exact aI (bW (aX x2) (bW (aX y2) (aj rfl)))
  clear l1 x1 y1
  have sum:=fun {z z':Int} (a:z=z'*((2^m:Nat):Int)) (b:x=0→y=0→z'=0)=>l2.sum a b
  revert t10 hX hY ox oy zx zy
  generalize x.natAbs/2^m=X
  generalize y.natAbs/2^m=Y
  intro hX hY ox oy zx zy t10
  have hXY:=aiz hX hY
  by_cases hsg:nS x=nS y
  · have hz:x+y=sg (nS x) (X+Y)*((2^m:Nat):Int):=by
      rw [←auM,Int.add_mul,←ox]
      rw [hsg,←oy]
    obtain ⟨a,b,c⟩:=sum hz (fun p q=>by rw [zx p,zy q];cases nS x<;>rfl)
    obtain ⟨N,h1,h2,h3⟩:=Uw (nS x) (v:=X+Y) (cG _) (by omega) (by omega) (e:=ep) (by omega)
    rw [a,b,c]
    refine ⟨N,bb (ai t9 (ai t10 (bk ?_))),h2,h3⟩
    show (vF _ _ _ _ _ _ _ _).run=_
    unfold vF
    have hc:nl (X+Y)≤max (nl X) (nl Y)+1:=aiz (Nat.le_max_left _ _) (Nat.le_max_right _ _)
    rw [bf aq,bf aq,auX (cG X) (cG Y) (by omega) (by omega) (by omega) (by omega) (by omega)]
    simp only [Bz,jm,jn,kD,jo]
    rw [bM hc,show (((0:Nat):Int))=0 from rfl,h1]
    exact aI (jh (by rw [hsg];cases nS y<;>rfl) (bH (bH (aj (bW (aX hc) (bH (bH (aj rfl))))))))
  · have hn:nS y = !(nS x):=by revert hsg;cases nS x<;>cases nS y<;>simp
    have t11:(vF (nS x) (nS y) 0 ep (aA X (nl X)) (nl X) (aA Y (nl Y)) (nl Y)).run=some (.inl ()):=by
      unfold vF
      exact aI (cV (by rw [hn];cases nS x<;>rfl) rfl)
    have t12:(HH (aA X (nl X)) (nl X) (aA Y (nl Y)) (nl Y)).run=some (.inl (oR X Y)):=by
      unfold HH
      rw [bf aq,bf aq,aoW (cG X) (cG Y) (by omega) (by omega) (by omega) (by omega)]
      exact bH (bH (aj rfl))
    have hxy:x+y=(sg (nS x) X-sg (nS x) Y)*((2^m:Nat):Int):=by
      rw [Int.sub_mul,←ox]
      have:y = -(sg (nS x) Y)*((2^m:Nat):Int):=by rw [←Tx,←hn];exact oy
      rw [Int.neg_mul] at this
      omega
    by_cases hlt:X<Y
    · have hz:x+y=sg (nS y) (Y-X)*((2^m:Nat):Int):=by
        rw [hxy,←aiA (Nat.le_of_lt hlt),hn,Tx,Tx];congr 1;omega
      obtain ⟨a,b,c⟩:=sum hz (fun p q=>by rw [zx p,zy q];cases nS y<;>rfl)
      have hd:nl (Y-X)≤nl Y:=ot (Nat.sub_le _ _)
      obtain ⟨N,h1,h2,h3⟩:=Uw (nS y) (v:=Y-X) (cG _) (by omega) (by omega) (e:=ep) (by omega)
      rw [a,b,c]
      refine ⟨N,bb (ai t9 (ai t10 (ai t11 (ai t12 (bk ?_))))),h2,h3⟩
      show (HI _ _ _ _ _ _ _).run=_
      unfold HI
      have hc:oR X Y = -1:=if_pos hlt
      rw [hc,bf aq,bf aq,aoV (cG Y) (cG X) (by omega) (by omega) (by omega) (by omega) (Nat.le_of_lt hlt)]
      simp only [xp,iA,iB,iC,jp]
      rw [bM hd,show (((0:Nat):Int))=0 from rfl,h1]
      exact aZ (bH (bH (aj (bW (aX hd) (bH (bH (aj rfl)))))))
    · have hz:x+y=sg (nS x) (X-Y)*((2^m:Nat):Int):=by
        rw [hxy,←aiA (by omega)]
      obtain ⟨a,b,c⟩:=sum hz (fun p q=>by rw [zx p,zy q];cases nS x<;>rfl)
      have hd:nl (X-Y)≤nl X:=ot (Nat.sub_le _ _)
      obtain ⟨N,h1,h2,h3⟩:=Uw (nS x) (v:=X-Y) (cG _) (by omega) (by omega) (e:=ep) (by omega)
      rw [a,b,c]
      have hc:decide (oR X Y<0)=false:=by
        rw [decide_eq_false_iff_not];unfold oR;rw [if_neg hlt];split<;>omega
      refine ⟨N,bb (ai t9 (ai t10 (ai t11 (ai t12 (ai (a:=()) (cV hc rfl) (ai (a:=(0,aA (X-Y) (nl X),0,nl (X-Y))) ?_ (ai (a:=(0,nS (sg (nS x) (X-Y)),aA (nM (sg (nS x) (X-Y))) N,0,nl (nM (sg (nS x) (X-Y))),nE (sg (nS x) (X-Y)) ep)) ?_ rfl))))))),h2,h3⟩
      · show (HJ _ _ _ _).run=_
        unfold HJ
        rw [bf aq,bf aq,aoV (cG X) (cG Y) (by omega) (by omega) (by omega) (by omega) (by omega)]
        exact bH (bH (aj rfl))
      · show (HK _ _ _ _ _ _ _ _ _ _).run=_
        unfold HK
        rw [bM hd,show (((0:Nat):Int))=0 from rfl,h1]
        exact bW (aX hd) (bH (bH (aj rfl)))
theorem atf{x y e:Int}(hx:Sm x e)(hy:Sm y e) :
    ∃ N,dp (nS x) (aA (nM x) (nl (nM x))) (nE x e) (nS y) (aA (nM y) (nl (nM y))) (nE y e)=some (.r0 0 (nS (x+y)) (aA (nM (x+y)) N) 0 (nl (nM (x+y))) (nE (x+y) e))∧nl (nM (x+y))≤N∧N≤4096 :=
  ahD (fun _=>rfl) (fun _=>rfl) hx hy
theorem ahE{x y e:Int}(hx:Sm x e)(hy:Sm y e) :
    ∃ N,gd (nS x) (aA (nM x) (nl (nM x))) (nE x e) (nS y) (aA (nM y) (nl (nM y))) (nE y e)=some (.r0 0 (nS (x-y)) (aA (nM (x-y)) N) 0 (nl (nM (x-y))) (nE (x-y) e))∧nl (nM (x-y))≤N∧N≤4096:=by
  obtain ⟨N,h1,h2,h3⟩:=ahD (x:=x) (y:=-y) (e:=e) (s:=nS x) (t:=!(nS y)) (fun _=>rfl) (fun h=>by
    unfold nS;rw [←decide_not];congr 1;exact propext (by omega)) hx hy.n
  rw [auK,auL,←Int.sub_eq_add_neg] at h1
  rw [←Int.sub_eq_add_neg] at h2
  refine ⟨N,bb (ai (a:=(0,nS (x-y),aA (nM (x-y)) N,0,nl (nM (x-y)),nE (x-y) e)) ?_ rfl),h2,h3⟩
  unfold V8
  rw [aw,aw,h1]
  exact aB (aB (aj rfl))
theorem L0{x y e f:Int}(hx:Sm x e)(hy:Sm y f) :
    ∃ N,aD (nS x) (aA (nM x) (nl (nM x))) (nE x e) (nS y) (aA (nM y) (nl (nM y))) (nE y f)=some (.r0 0 (nS (x*y)) (aA (nM (x*y)) N) 0 (nl (nM (x*y))) (nE (x*y) (e+f)))∧nl (nM (x*y))≤N∧N≤4096:=by
  obtain ⟨Nx,x1,x2,x3⟩:=IL (s:=nS x) (fun _=>rfl) hx
  obtain ⟨Ny,y1,y2,y3⟩:=IL (s:=nS y) (fun _=>rfl) hy
  have xm:=hx.m
  have ym:=hy.m
  have xb:=hx.b
  have yb:=hy.b
  have hm:=ap7 (a:=nM x) (b:=nM y)
  obtain ⟨N,h1,h2,h3⟩:=PP (nS x != nS y) (v:=nM x*nM y) (cG _) (by omega) (by omega) (e:=nE x e+nE y f) (by omega)
  have key:nS (x*y)=nS (sg (nS x != nS y) (nM x*nM y))∧nM (x*y)=nM (sg (nS x != nS y) (nM x*nM y))∧nE (x*y) (e+f)=nE (sg (nS x != nS y) (nM x*nM y)) (nE x e+nE y f):=by
    have hz:x*y=sg (nS x != nS y) (nM x*nM y)*((2^(tz x.natAbs+tz y.natAbs):Nat):Int):=by
      have a:=QE x
      have b:=QE y
      rw [←ag3,Nat.pow_add,Int.natCast_mul]
      conv=>lhs;rw [←a,←b]
      simp only [Int.mul_assoc,Int.mul_comm,Int.mul_left_comm]
    obtain ⟨a,b,c⟩:=F2 hz (e+f)
    refine ⟨a,b,?_⟩
    rw [c]
    by_cases p:x=0
    · subst p;rw [jl,Nat.zero_mul]
      have:sg (nS 0 != nS y) 0=0:=vu.2 rfl
      rw [this,fi,fi]
    · by_cases q:y=0
      · subst q;rw [jl,Nat.mul_zero]
        have:sg (nS x != nS 0) 0=0:=vu.2 rfl
        rw [this,fi,fi]
      · rw [iU p,iU q];congr 1;omega
  obtain ⟨a,b,c⟩:=key
  rw [a,b,c]
  refine ⟨N,bb (ai (a:=(0,nS x,aA (nM x) Nx,0,nl (nM x),nE x e,nS y,aA (nM y) Ny,0,nl (nM y),nE y f,false)) ?_ (ai (a:=(aA (nM x*nM y) (nl (nM x)+nl (nM y)),0,nl (nM x*nM y),0)) ?_ (ai (a:=(0,nS (sg (nS x != nS y) (nM x*nM y)),aA (nM (sg (nS x != nS y) (nM x*nM y))) N,0,nl (nM (sg (nS x != nS y) (nM x*nM y))),nE (sg (nS x != nS y) (nM x*nM y)) (nE x e+nE y f))) ?_ rfl))),h2,h3⟩
  · unfold Vn
    rw [aw,aw,PO hx,PO hy,x1,y1]
    exact aZ (aj (aB (aj (aI (aB (aj (aj (aZ (aj (aB (aj (aI (aB (aj (aj (aI rfl))))))))))))))))
  · show (Kn _ _ _ _ _ _ _).run=_
    unfold Kn
    rw [bM x2,bM y2,auZ (cG (nM x)) (cG (nM y)) (by omega) (by omega) (by omega)]
    have e1:nl (nM x)=nl (nM x):=rfl
    exact aI (bW (aX x2) (bW (aX y2) (aj rfl)))
  · show (Ko _ _ _ _ _ _ _ _).run=_
    unfold Ko
    rw [bM hm]
    have h1':cX (!(nS x==nS y)) (aA (nM x*nM y) (nl (nM x*nM y))) (nE x e+nE y f)=_:=h1
    rw [h1']
    exact aI (bW (by rw [cM];omega) (bW (aX hm) (aj rfl)))
def oY(z:Int) :Int:=if z<0 then -1 else if 0<z then 1 else 0
theorem Bg(z:Int) :i8 (nS z) (aA (nM z) (nl (nM z)))=some (.r0 (oY z)):=by
  refine bb ?_
  unfold Q4
  rw [aq]
  unfold oY nS
  by_cases h0:z=0
  · subst h0;rw [jl,eS];exact aZ rfl
  · have:nl (nM z)≠0:=fun q=>F1 h0 (jk.1 q)
    by_cases h:z<0
    · rw [if_pos h];exact ct (jh (decide_eq_true h) rfl)
    · rw [if_neg h,if_pos (by omega)];exact ct (cV (decide_eq_false h) rfl)
theorem alQ{X Y p:Nat}(hp:0<p) :oR X Y=Jg ((X:Int)*p) ((Y:Int)*p):=by
  unfold oR Jg
  have h:∀ {a b:Nat},a<b↔(a:Int)*p<(b:Int)*p:=fun {a b}=>by
    rw [←Int.natCast_mul,←Int.natCast_mul,Int.ofNat_lt]
    exact ⟨fun q=>Nat.mul_lt_mul_of_pos_right q hp,fun q=>Nat.lt_of_mul_lt_mul_right q⟩
  simp only [h]
theorem avM{a b:Int} :(0:Int)-Jg a b=Jg (-a) (-b):=by unfold Jg;split<;>split<;>(try split)<;>omega
theorem atg{x y e:Int}(hx:Sm x e)(hy:Sm y e) :
    ut (nS x) (aA (nM x) (nl (nM x))) (nE x e) (nS y) (aA (nM y) (nl (nM y))) (nE y e)=some (.r0 (Jg x y) 0):=by
  obtain ⟨Nx,x1,x2,x3⟩:=IL (s:=nS x) (fun _=>rfl) hx
  obtain ⟨Ny,y1,y2,y3⟩:=IL (s:=nS y) (fun _=>rfl) hy
  obtain ⟨m,ep,l1,l2⟩:=acm hx hy
  have xl:=hx.l
  have yl:=hy.l
  have hX:nl (x.natAbs/2^m)≤300:=Nat.le_trans (ot (Nat.div_le_self _ _)) xl
  have hY:nl (y.natAbs/2^m)≤300:=Nat.le_trans (ot (Nat.div_le_self _ _)) yl
  have hc:oR (x.natAbs/2^m) (y.natAbs/2^m)=Jg (x.natAbs:Int) (y.natAbs:Int):=by
    rw [alQ (kC m),←Int.natCast_mul,←Int.natCast_mul,l2.x2,l2.y2]
  have t8:(Kr 0 (aA (x.natAbs/2^m) (nl (x.natAbs/2^m))) (nl (x.natAbs/2^m)) (aA (y.natAbs/2^m) (nl (y.natAbs/2^m))) (nl (y.natAbs/2^m))).run=some (.inl (Jg (x.natAbs:Int) (y.natAbs:Int))):=by
    unfold Kr
    rw [bf aq,bf aq,aoW (cG _) (cG _) (by omega) (by omega) (by omega) (by omega),←hc]
    exact aI (bH (bH (aj rfl)))
  have t7:(Kq 0 (aA (nM x) Nx) 0 (nl (nM x)) (nE x e) (aA (nM y) Ny) 0 (nl (nM y)) (nE y e)).run=some (.inl (0,ep,aA (x.natAbs/2^m) (nl (x.natAbs/2^m)),nl (x.natAbs/2^m),aA (y.natAbs/2^m) (nl (y.natAbs/2^m)),nl (y.natAbs/2^m))):=by
    unfold Kq
    rw [bM x2,bM y2,l1]
    exact aI (bW (aX x2) (bW (aX y2) (aj rfl)))
  refine bb (ai (a:=(0,nS x,aA (nM x) Nx,0,nl (nM x),nE x e,nS y,aA (nM y) Ny,0,nl (nM y),nE y e)) ?_ (ai t7 (ai t8 ?_)))
  · unfold Vq
    rw [aw,aw,PO hx,PO hy,x1,y1]
    exact aZ (aj (aB (aj (aI (aB (aj (aj (aZ (aj (aB (aj (aI (aB (aj (aj (aI rfl))))))))))))))))
  · have h9:∀ n18,uU (nS x) (aA (nM x) Nx) 0 (nl (nM x)) (nS y) (aA (nM y) Ny) 0 (nl (nM y)) n18=uU (nS x) (aA (nM x) Nx) 0 (nl (nM x)) (nS y) (aA (nM y) Ny) 0 (nl (nM y)) n18:=fun _=>rfl
    by_cases hs:oY x=oY y
    · by_cases hn:x<0
      · have e1:nS x=true:=decide_eq_true hn
        have hy0:y<0:=by unfold oY at hs;rw [if_pos hn] at hs;revert hs;split<;>(try split)<;>omega
        have ev:(0:Int)-Jg (x.natAbs:Int) (y.natAbs:Int)=Jg x y:=by
          rw [avM];congr 1<;>omega
        refine bk ?_
        unfold uU
        rw [bM x2,bM y2,Bg,Bg]
        simp only [kE,fR]
        refine bW (aX x2) (aj (bW (aX y2) (aj (cV (by rw [hs,bne_self_eq_false]) (jh e1 (bW ?_ ?_))))))
        · rw [ev,cM];unfold Jg;split<;>(try split)<;>omega
        · rw [ev];rfl
      · have e1:nS x=false:=decide_eq_false hn
        have hy0 : ¬ y<0:=by unfold oY at hs;rw [if_neg hn] at hs;revert hs;split<;>(try split)<;>(try split)<;>omega
        have ev:Jg (x.natAbs:Int) (y.natAbs:Int)=Jg x y:=by congr 1<;>omega
        refine ai (a:=()) ?_ (by rw [ev];rfl)
        unfold uU
        rw [bM x2,bM y2,Bg,Bg]
        simp only [kE,fR]
        exact bW (aX x2) (aj (bW (aX y2) (aj (cV (by rw [hs,bne_self_eq_false]) (cV e1 rfl)))))
    · have ev:mr (-1) (ke 1 (oY x-oY y))=Jg x y:=by
        unfold mr ke Jg;unfold oY at hs ⊢
        revert hs
        repeat' split
        all_goals omega
      refine bk ?_
      unfold uU
      rw [bM x2,bM y2,Bg,Bg]
      simp only [kE,fR]
      rw [ev]
      refine bW (aX x2) (aj (bW (aX y2) (aj (jh (bne_iff_ne.2 hs) (bW (aX x2) (aj (bW (aX y2) (aj (bW ?_ rfl)))))))))
      rw [cM];unfold oY;split<;>(try split)<;>(try split)<;>(try split)<;>omega
theorem aoY{x e k:Int}(hx:Sm x e)(hk : -30000≤k∧k≤30000) :
    ∃ N,kF (nS x) (aA (nM x) (nl (nM x))) (nE x e) k=some (.r0 0 (nS x) (aA (nM x) N) 0 (nl (nM x)) (nE x (e+k)))∧nl (nM x)≤N∧N≤4096:=by
  obtain ⟨Nx,x1,x2,x3⟩:=IL (s:=nS x) (fun _=>rfl) hx
  have xm:=hx.m
  have xb:=hx.b
  have t5:(Ei (nS x) (aA (nM x) (nl (nM x))) (nE x e)).run=some (.inl (0,nS x,aA (nM x) Nx,0,nl (nM x),nE x e,false)):=by
    unfold Ei
    rw [aw,PO hx,x1]
    exact aZ (aj (aB (aj (aI (aB (aj (aj (aI rfl))))))))
  by_cases h0:x=0
  · subst h0
    rw [jl,eS] at t5
    rw [jl,eS,fi,XX]
    refine ⟨0,bb (ai (by rw [fi,XX] at t5;exact t5) (ai (a:=true) (aI rfl) (bk (aZ rfl)))),Nat.le_refl _,Nat.zero_le _⟩
  · have hl:nl (nM x)≠0:=fun q=>F1 h0 (jk.1 q)
    have ek:mr (-1048576) (ke 1048576 k)=k:=by rw [XY (by omega),XZ (by omega)]
    obtain ⟨N,h1,h2,h3⟩:=PP (nS x) (v:=nM x) (cG _) (by omega) (by omega) (e:=nE x e+k) (by omega)
    obtain ⟨a,b,c⟩:=QF (z:=x) (e:=e) (s:=nS x) (fun _=>rfl)
    have c':nE (sg (nS x) (nM x)) (nE x e+k)=nE x (e+k):=by
      have q:sg (nS x) (nM x)≠0:=fun w=>F1 h0 (vu.1 w)
      rw [iU q,iU h0] at c
      rw [iU q,iU h0,iU h0];omega
    rw [a,b,c'] at h1
    rw [b] at h2
    refine ⟨N,bb (ai t5 (ai (a:=false) (aI (by show some (Sum.inl _)=_;rw [beq_eq_false_iff_ne.2 (by omega)])) (ai (a:=(0,nS x,aA (nM x) N,0,nl (nM x),nE x (e+k))) ?_ rfl))),h2,h3⟩
    show (Ej _ _ _ _ _ _ _ _).run=_
    unfold Ej
    rw [bM x2,ek,h1]
    exact aI (bW (by rw [cM];omega) (bW (aX x2) (aj rfl)))
theorem DO{n:Nat}(h:n<9223372036854775808) :
    ∃ N,bo (n:Int)=some (.r0 (nS (n:Int)) (aA (nM (n:Int)) N) 0 (nl (nM (n:Int))) (nE (n:Int) 0))∧nl (nM (n:Int))≤N∧N≤4096:=by
  have hW:n<W:=Nat.lt_trans h (by decide)
  have hn:nl n≤1:=i6 (by rw [Nat.pow_one];exact hW)
  obtain ⟨N,h1,h2,h3⟩:=uP false (v:=n) (cG _) (by omega) (by omega) (e:=0) (by omega)
  have e:sg false n=(n:Int):=rfl
  rw [e] at h1 h2
  refine ⟨N,bb (ai (a:=((n:Int),false)) ?_ (ai (a:=(nS (n:Int),aA (nM (n:Int)) N,0,nl (nM (n:Int)),nE (n:Int) 0)) ?_ rfl)),h2,h3⟩
  · unfold MK
    rw [kg hW]
    exact cV (by rw [decide_eq_false_iff_not];omega) rfl
  · show (Ek _ _).run=_
    unfold Ek
    have d:decide ((n:Int)<0)=false:=by rw [decide_eq_false_iff_not];omega
    rw [asp hW,d]
    simp only [xj,em,er,eu]
    rw [bM hn,h1]
    exact aj (bW (aX hn) (aj rfl))
theorem Gq{x:Nat}(hx:x<PT) :fc .and .u64 (Int.fdiv (x:Int) (2^(min (Int.toNat (52:Int)) IntKind.u64.bits))) 2047=((Tz x:Nat):Int):=by
  have e:(52:Int)=((52:Nat):Int):=by omega
  have e':(2047:Int)=((2047:Nat):Int):=by omega
  rw [e,Dk _ (by decide),e',QC]
  have h1:x/2^52<W:=Nat.lt_of_le_of_lt (Nat.div_le_self _ _) hx
  rw [Nat.mod_eq_of_lt h1,Nat.mod_eq_of_lt (show 2047<W by decide)]
  congr 1
  exact Nat.and_two_pow_sub_one_eq_mod _ 11
theorem Bh{x:Nat}(hx:x<PT) :fc .and .u64 (x:Int) 4503599627370495=((x%4503599627370496:Nat):Int):=by
  have e':(4503599627370495:Int)=((4503599627370495:Nat):Int):=by omega
  rw [e',QC,Nat.mod_eq_of_lt hx,Nat.mod_eq_of_lt (show 4503599627370495<W by decide)]
  congr 1
  exact Nat.and_two_pow_sub_one_eq_mod _ 52
theorem ath{x:Nat}(hx:x<PT) :Int.fdiv (x:Int) (2^(min (Int.toNat (63:Int)) IntKind.u64.bits))=((x/9223372036854775808:Nat):Int):=by
  have e:(63:Int)=((63:Nat):Int):=by omega
  rw [e,Dk _ (by decide)]
theorem au5{y:Nat}(h:y<4503599627370496) :fc .or .u64 (y:Int) 4503599627370496=((y+4503599627370496:Nat):Int):=by
  have e':(4503599627370496:Int)=((4503599627370496:Nat):Int):=by omega
  have hy:y<W:=Nat.lt_trans h (by decide)
  rw [e',aix,Nat.mod_eq_of_lt hy,Nat.mod_eq_of_lt (show 4503599627370496<W by decide)]
  congr 1
  have:=ap4 (h:=y) (x:=1) (r:=52) h
  rw [Nat.one_mul] at this
  exact this
def rV(x:Nat) :Nat:=if Tz x≠0 then 3 else if x%4503599627370496≠0 then 2 else 1
theorem arr{x:Nat}(hx:x<PT)(h:vv x=true) :vG (x:Int)=some (.r0 (rV x)):=by
  have h':Tz x≠2047:=by unfold vv at h;exact bne_iff_ne.1 h
  unfold rV
  by_cases h1:Tz x=0
  · by_cases h2:x%4503599627370496=0
    · rw [if_neg (by omega),if_neg (by omega)]
      refine bb (ai (a:=()) ?_ rfl)
      unfold yC
      rw [Gq hx,Bh hx,h1,h2]
      exact aj (aI (aI (aI (aI rfl))))
    · rw [if_neg (by omega),if_pos h2]
      refine bb (bk ?_)
      unfold yC
      rw [Gq hx,Bh hx,h1]
      exact aj (aI (aI (aI (bT rfl))))
  · rw [if_pos h1]
    refine bb (bk ?_)
    unfold yC
    rw [Gq hx,Bh hx]
    exact aj (ct (ct (bT rfl)))
def fm(x:Nat) :Nat:=if Tz x≠0 then x%4503599627370496+4503599627370496 else x%4503599627370496
def fe(x:Nat) :Int:=if Tz x≠0 then -1074+((Tz x:Int)-1) else if x%4503599627370496≠0 then -1074 else 0
theorem ahF{z:Nat}(h:z<4096) :IntKind.i64.wrap ((z:Nat):Int)=((z:Nat):Int):=by
  simp only [IntKind.wrap,IntKind.signed,IntKind.bits]
  simp
  omega
theorem acn(x:Nat) :Tz x<2048:=Nat.mod_lt _ (by decide)
theorem ars{x:Nat}(hx:x<PT)(h:vv x=true) :gF (x:Int)=some (.r0 0 (x/9223372036854775808==1) ((fm x:Nat):Int) (fe x)):=by
  have hl:=acn x
  have hs:(((x/9223372036854775808:Nat):Int)==(1:Int))=(x/9223372036854775808==1):=by
    rw [Bool.eq_iff_iff,beq_iff_eq,beq_iff_eq];omega
  refine bb (ai (a:=(rV x,false,(x/9223372036854775808==1),((x%4503599627370496:Nat):Int))) ?_ ?_)
  · unfold ML
    rw [arr hx h,Bh hx,ath hx,hs]
    exact aj (aj rfl)
  · show (El _ _ _ _).run=_
    unfold El rV fm fe
    rw [Gq hx,ahF (by omega),au5 (Nat.mod_lt _ (by decide))]
    by_cases h1:Tz x=0
    · by_cases h2:x%4503599627370496=0
      · rw [if_neg (by omega),if_neg (by omega),if_neg (by omega),if_neg (by omega),if_neg (by omega)]
        exact aI (aI (aZ rfl))
      · rw [if_neg (by omega),if_pos h2,if_neg (by omega),if_neg (by omega),if_pos h2]
        exact aI (aZ rfl)
    · rw [if_pos h1,if_pos h1,if_pos h1]
      exact aZ (aj (bW (by rw [cM];omega) (bW (by rw [cM];omega) rfl)))
theorem awb(x:Nat) :fm x<W:=by
  have:=Nat.mod_lt x (show 4503599627370496>0 by decide)
  have w:(9007199254740992:Nat)<W:=by decide
  unfold fm;split<;>omega
theorem aoZ{x:Nat}(hx:x<PT)(h:vv x=true) :nS (sg (x/9223372036854775808==1) (fm x))=nS (fz x)∧nM (sg (x/9223372036854775808==1) (fm x))=nM (fz x)∧nE (sg (x/9223372036854775808==1) (fm x)) (fe x)=nE (fz x) (-1074):=by
  have hx':x<18446744073709551616:=hx
  have hl:=acn x
  unfold fz fm fe
  have hmod:x%4503599627370496=x%9223372036854775808%4503599627370496:=by omega
  by_cases h1:Tz x=0
  · have h3:x%9223372036854775808<4503599627370496:=by unfold Tz at h1;omega
    have h4:mT (x%9223372036854775808)=0:=by unfold mT;omega
    have h5:D7 (x%9223372036854775808)=x%4503599627370496:=by unfold D7;rw [if_pos h3];omega
    rw [h4,h5,Nat.pow_zero,Nat.mul_one,if_neg (by omega),if_neg (by omega)]
    by_cases h2:x%4503599627370496=0
    · rw [h2,if_neg (by omega)]
      have z:sg (x/9223372036854775808==1) 0=0:=vu.2 rfl
      rw [z,fi,fi];exact ⟨rfl,rfl,rfl⟩
    · rw [if_pos h2];exact ⟨rfl,rfl,rfl⟩
  · have h3 : ¬ x%9223372036854775808<4503599627370496:=by unfold Tz at h1;omega
    have h4:mT (x%9223372036854775808)=Tz x-1:=by unfold mT Tz;omega
    have h5:D7 (x%9223372036854775808)=x%4503599627370496+4503599627370496:=by unfold D7;rw [if_neg h3];omega
    rw [h4,h5,if_pos h1,if_pos h1]
    obtain ⟨a,b,c⟩:=F2 (z:=sg (x/9223372036854775808==1) ((x%4503599627370496+4503599627370496)*2^(Tz x-1))) (z':=sg (x/9223372036854775808==1) (x%4503599627370496+4503599627370496)) (m:=Tz x-1) ap5 (-1074)
    refine ⟨a.symm,b.symm,?_⟩
    rw [c];congr 1;omega
theorem au6{x:Nat}(hx:x<PT)(h:vv x=true) :
    ∃ N,m8 x=some (.r0 0 (nS (fz x)) (aA (nM (fz x)) N) 0 (nl (nM (fz x))) (nE (fz x) (-1074)))∧nl (nM (fz x))≤N∧N≤4096:=by
  have hm:=awb x
  have hn:nl (fm x)≤1:=i6 (by rw [Nat.pow_one];exact hm)
  have hl:=acn x
  have he : -1000000≤fe x∧fe x≤1000000:=by unfold fe;split<;>(try split)<;>omega
  obtain ⟨N,h1,h2,h3⟩:=uP (x/9223372036854775808==1) (v:=fm x) (cG _) (by omega) (by omega) he
  obtain ⟨a,b,c⟩:=aoZ hx h
  rw [a,b,c] at h1
  rw [b] at h2
  refine ⟨N,bb (ai (a:=(0,false,(x/9223372036854775808==1),((fm x:Nat):Int),fe x)) ?_ (ai (a:=(nS (fz x),aA (nM (fz x)) N,0,nl (nM (fz x)),nE (fz x) (-1074))) ?_ rfl)),h2,h3⟩
  · unfold ZQ
    rw [ars hx h]
    exact cV (aiB hx h) (avu (bW (by rw [ash hx h];rfl) (aj rfl)))
  · show (O5 _ _ _ _).run=_
    unfold O5
    rw [asp hm]
    simp only [xj,em,er,eu]
    rw [bM hn,h1]
    exact aI (aj (bW (aX hn) (aj rfl)))
end Go.Plb.Seat
namespace Go.Plb
set_option linter.unusedSimpArgs false
set_option linter.unusedVariables false
set_option linter.unusedSectionVars false
variable [Rom]
abbrev H:Nat:=4294967296
def lmh(v i:Nat) :Int:=((v/H^i%H:Nat):Int)
def gj(v n:Nat) :List Int:=eY (lmh v) n
theorem u4(n:Nat) :0<H^n:=Nat.pow_pos (by decide)
theorem ej{v n:Nat} :(gj v n).length=n:=dS
theorem S5{v i:Nat}(h:v<H^i) :lmh v i=0:=by unfold lmh;rw [Nat.div_eq_of_lt h];rfl
theorem aco{v n i:Nat}(h:i<n) :(gj v n).getD i 0=lmh v i:=qA h
theorem yf{v n:Nat}(h:v<H^n)(i:Nat) :(gj v n).getD i 0=lmh v i:=by
  by_cases hi:i<n
  · exact aco hi
  · rw [List.getD_eq_getElem?_getD,List.getElem?_eq_none (by rw [ej];omega)]
    exact (S5 (Nat.lt_of_lt_of_le h (Nat.pow_le_pow_right (by decide) (by omega)))).symm
theorem atj{v n m:Nat}(h:m≤n) :ab 0 m (gj v n)=gj v m:=agZ h
theorem art{n:Nat} :List.replicate n (0:Int)=gj 0 n:=by
  rw [pz];exact cE fun i _=>(S5 (u4 i)).symm
theorem DP{u x j:Nat}(hu:u<H^j)(hx:x<H)(i:Nat) :lmh (u+x*H^j) i=if i=j then (x:Int) else lmh u i:=by
  unfold lmh
  by_cases e:i=j
  · subst e
    rw [if_pos rfl,Nat.add_mul_div_right _ _ (u4 i),Nat.div_eq_of_lt hu,Nat.zero_add,Nat.mod_eq_of_lt hx]
  · rw [if_neg e]
    congr 1
    rcases Nat.lt_or_ge i j with h | h
    · obtain ⟨d,rfl⟩:∃ d,j=i+1+d:=⟨j-i-1,by omega⟩
      have:x*H^(i+1+d)=(x*H^d*H)*H^i:=by
        rw [Nat.pow_add,Nat.pow_succ];simp only [Nat.mul_assoc,Nat.mul_comm,Nat.mul_left_comm]
      rw [this,Nat.add_mul_div_right _ _ (u4 i),Nat.add_mul_mod_self_right]
    · have h1:H^(j+1)≤H^i:=Nat.pow_le_pow_right (by decide) (by omega)
      have h2:u+x*H^j<H^(j+1):=by
        rw [Nat.pow_succ,Nat.mul_comm (H^j)]
        have:(x+1)*H^j≤H*H^j:=Nat.mul_le_mul_right _ hx
        rw [Nat.add_mul,Nat.one_mul] at this
        omega
      have h3:H^j≤H^(j+1):=Nat.pow_le_pow_right (by decide) (by omega)
      rw [Nat.div_eq_of_lt (Nat.lt_of_lt_of_le h2 h1),Nat.div_eq_of_lt (by omega)]
theorem agK{u x j n:Nat}(hu:u<H^j)(hx:x<H)(hj:j<n) :(gj u n).set j (x:Int)=gj (u+x*H^j) n:=by
  unfold gj
  rw [ru hj]
  exact cE fun i _=>(DP hu hx i).symm
theorem u5(v j:Nat) :v%H^(j+1)=v%H^j+(v/H^j%H)*H^j:=by
  rw [Nat.pow_succ,Nat.mod_mul,Nat.mul_comm (H^j)]
theorem atk{v n:Nat} :gj (v%H^n) n=gj v n:=by
  refine cE fun i hi=>?_
  unfold lmh
  obtain ⟨d,rfl⟩:∃ d,n=i+1+d:=⟨n-i-1,by omega⟩
  congr 1
  have h:=Nat.mod_mul (a:=H^i) (b:=H^(d+1)) (x:=v)
  have e:H^(i+1+d)=H^i*H^(d+1):=by rw [←Nat.pow_add];congr 1;omega
  rw [e,h,Nat.add_mul_div_left _ _ (u4 i),Nat.div_eq_of_lt (Nat.mod_lt _ (u4 i)),Nat.zero_add,Nat.pow_succ,Nat.mod_mul_left_mod]
theorem Ls{S t j:Nat}(hS:S<H^j) :(S+t*H^j)/H^(j+1)=t/H∧(S+t*H^j)%H^(j+1)=S+(t%H)*H^j:=by
  have e1:(S+t*H^j)/H^j=t:=by rw [Nat.add_mul_div_right _ _ (u4 j),Nat.div_eq_of_lt hS,Nat.zero_add]
  have e2:(S+t*H^j)%H^j=S:=by rw [Nat.add_mul_mod_self_right,Nat.mod_eq_of_lt hS]
  constructor
  · rw [Nat.pow_succ,←Nat.div_div_eq_div_mul,e1]
  · rw [u5,e1,e2]
theorem DQ(v i:Nat) :lmh v i=((v/H^i%H:Nat):Int):=rfl
def rm(x y j:Nat) :Nat:=x%H^j+y%H^j
theorem aru(x y j:Nat) :rm x y (j+1)=rm x y j%H^j+(x/H^j%H+y/H^j%H+rm x y j/H^j)*H^j:=by
  have h:=Nat.div_add_mod (rm x y j) (H^j)
  unfold rm at h ⊢
  rw [u5 x,u5 y]
  rw [Nat.add_mul,Nat.add_mul,Nat.mul_comm ((x%H^j+y%H^j)/H^j)]
  omega
theorem Wq{x y j:Nat} :rm x y j/H^j≤1:=by
  have h1:=Nat.mod_lt x (u4 j)
  have h2:=Nat.mod_lt y (u4 j)
  have:rm x y j<2*H^j:=by unfold rm;omega
  have:=(Nat.div_lt_iff_lt_mul (u4 j)).2 this
  omega
def u9(a b j:Nat) :Nat:=if a%H^j<b%H^j then 1 else 0
def DR(a b j:Nat) :Nat:=a%H^j+u9 a b j*H^j-b%H^j
theorem ao0{a b j:Nat} :DR a b j<H^j∧b%H^j≤a%H^j+u9 a b j*H^j:=by
  have h1:=Nat.mod_lt a (u4 j)
  have h2:=Nat.mod_lt b (u4 j)
  unfold DR u9
  generalize a%H^j=A at *
  generalize b%H^j=B at *
  generalize H^j=P at *
  split
  · rw [Nat.one_mul];omega
  · rw [Nat.zero_mul];omega
theorem atl(a b j:Nat) :u9 a b (j+1)=(if a/H^j%H<b/H^j%H+u9 a b j then 1 else 0) ∧
    DR a b (j+1)=DR a b j+((a/H^j%H+H-b/H^j%H-u9 a b j)%H)*H^j:=by
  obtain ⟨hD,hle⟩:=ao0 (a:=a) (b:=b) (j:=j)
  have hbr:u9 a b j≤1:=by unfold u9;split<;>omega
  have hla:=Nat.mod_lt (a/H^j) (show H>0 by decide)
  have hlb:=Nat.mod_lt (b/H^j) (show H>0 by decide)
  have eD:DR a b j+b%H^j=a%H^j+u9 a b j*H^j:=by unfold DR at hD ⊢;omega
  have eW:H^(j+1)=H*H^j:=by rw [Nat.pow_succ,Nat.mul_comm]
  have ea:=u5 a j
  have eb:=u5 b j
  generalize a/H^j%H=la at *
  generalize b/H^j%H=lb at *
  generalize u9 a b j=br at *
  generalize DR a b j=D at *
  by_cases h:la<lb+br
  · obtain ⟨d,hd⟩:∃ d,la+H=lb+br+d:=⟨la+H-lb-br,by omega⟩
    have hdW:d<H:=by omega
    have e3:la*H^j+H^(j+1)=lb*H^j+br*H^j+d*H^j:=by rw [eW,←Nat.add_mul,←Nat.add_mul,←Nat.add_mul,hd]
    have hlt:a%H^(j+1)<b%H^(j+1):=by
      have:(d+1)*H^j≤H*H^j:=Nat.mul_le_mul_right _ hdW
      rw [Nat.add_mul,Nat.one_mul] at this
      rw [ea,eb];omega
    have e1:u9 a b (j+1)=1:=by unfold u9;rw [if_pos hlt]
    refine ⟨by rw [if_pos h,e1],?_⟩
    have e4:(la+H-lb-br)%H=d:=by
      have:la+H-lb-br=d:=by omega
      rw [this,Nat.mod_eq_of_lt hdW]
    unfold DR
    rw [e1,e4,ea,eb,Nat.one_mul];omega
  · obtain ⟨d,hd⟩:∃ d,la=lb+br+d:=⟨la-lb-br,by omega⟩
    have hdW:d<H:=by omega
    have e3:la*H^j=lb*H^j+br*H^j+d*H^j:=by rw [←Nat.add_mul,←Nat.add_mul,hd]
    have hlt : ¬ a%H^(j+1)<b%H^(j+1):=by rw [ea,eb];omega
    have e1:u9 a b (j+1)=0:=by unfold u9;rw [if_neg hlt]
    refine ⟨by rw [if_neg h,e1],?_⟩
    have e4:(la+H-lb-br)%H=d:=by
      have:la+H-lb-br=d+H:=by omega
      rw [this,Nat.add_mod_right,Nat.mod_eq_of_lt hdW]
    unfold DR
    rw [e1,e4,ea,eb,Nat.zero_mul];omega
def mM(O a m k i:Nat) :Nat:=O%H^(k+i)+a%H^i*m*H^k
theorem acp(O a m k i:Nat) :mM O a m k (i+1)=mM O a m k i%H^(k+i)+(O/H^(k+i)%H+a/H^i%H*m+mM O a m k i/H^(k+i))*H^(k+i):=by
  have h:=Nat.div_add_mod (mM O a m k i) (H^(k+i))
  have e:H^i*H^k=H^(k+i):=by rw [Nat.pow_add,Nat.mul_comm]
  have e2:(a/H^i%H)*H^i*m*H^k=a/H^i%H*m*H^(k+i):=by
    rw [←e];generalize a/H^i%H=x;ac_rfl
  have e3:mM O a m k (i+1)=mM O a m k i+(O/H^(k+i)%H*H^(k+i)+a/H^i%H*m*H^(k+i)):=by
    unfold mM
    rw [←Nat.add_assoc k i 1,u5 O,u5 a,Nat.add_mul,Nat.add_mul,e2]
    omega
  rw [e3,Nat.add_mul,Nat.add_mul,Nat.mul_comm (mM O a m k i/H^(k+i))]
  omega
theorem ao1{O a m k i:Nat} :mM O a m k i/H^(k+i)≤m:=by
  have h1:=Nat.mod_lt O (u4 (k+i))
  have h2:=Nat.mod_lt a (u4 i)
  have e:H^i*H^k=H^(k+i):=by rw [Nat.pow_add,Nat.mul_comm]
  have h3:a%H^i*m*H^k≤H^(k+i)*m:=by
    have:a%H^i*(m*H^k)≤H^i*(m*H^k):=Nat.mul_le_mul_right _ (by omega)
    have e4:H^i*(m*H^k)=H^(k+i)*m:=by rw [←e];ac_rfl
    rw [Nat.mul_assoc];omega
  have:mM O a m k i<(m+1)*H^(k+i):=by
    rw [Nat.add_mul,Nat.one_mul,Nat.mul_comm m]
    unfold mM;omega
  have:=(Nat.div_lt_iff_lt_mul (u4 (k+i))).2 this
  omega
def N9(O a m k n i:Nat) :List Int:=eY (fun q=>if q<k+i then lmh (mM O a m k i%H^(k+i)) q else lmh O q) n
theorem atm{O a m k n i:Nat} :(N9 O a m k n i).length=n:=dS
theorem au7{O a m k n i:Nat}(h:k+i<n) :(N9 O a m k n i).getD (k+i) 0=lmh O (k+i):=by
  unfold N9;rw [qA h,if_neg (Nat.lt_irrefl _)]
theorem arv{O a m k n:Nat} :N9 O a m k n 0=gj O n:=by
  refine cE fun q hq=>?_
  by_cases h:q<k+0
  · rw [if_pos h]
    have e:mM O a m k 0%H^(k+0)=O%H^k:=by unfold mM;rw [Nat.pow_zero,Nat.mod_one,Nat.zero_mul,Nat.zero_mul,Nat.add_zero,Nat.add_zero,Nat.mod_mod]
    rw [e]
    have:(gj (O%H^k) k).getD q 0=(gj O k).getD q 0:=by rw [atk]
    rwa [aco (by omega),aco (by omega)] at this
  · rw [if_neg h]
theorem arw{O a m k n i:Nat}(h:k+i<n) :(N9 O a m k n i).set (k+i) (((O/H^(k+i)%H+a/H^i%H*m+mM O a m k i/H^(k+i))%H:Nat):Int)=N9 O a m k n (i+1):=by
  unfold N9
  rw [ru h]
  refine cE fun q hq=>?_
  have hS:=Nat.mod_lt (mM O a m k i) (u4 (k+i))
  obtain ⟨_,d2⟩:=Ls (t:=O/H^(k+i)%H+a/H^i%H*m+mM O a m k i/H^(k+i)) hS
  rw [←acp] at d2
  have hl:=DP hS (Nat.mod_lt (O/H^(k+i)%H+a/H^i%H*m+mM O a m k i/H^(k+i)) (show H>0 by decide)) q
  rw [←d2] at hl
  rw [←Nat.add_assoc k i 1]
  by_cases e:q=k+i
  · rw [if_pos e] at hl ⊢
    rw [if_pos (by omega),hl]
  · rw [if_neg e] at hl ⊢
    by_cases r:q<k+i
    · rw [if_pos r,if_pos (by omega),hl]
    · rw [if_neg r,if_neg (by omega)]
theorem atp{O a m k n:Nat}(hO:O<H^(k+n))(ha:a<H^n) :mM O a m k n=O+a*m*H^k:=by
  unfold mM;rw [Nat.mod_eq_of_lt hO,Nat.mod_eq_of_lt ha]
theorem atq{O a m k n N:Nat}(hO:O<H^(k+n)) :N9 O a m k N n=gj (mM O a m k n%H^(k+n)) N:=by
  refine cE fun q hq=>?_
  by_cases h:q<k+n
  · rw [if_pos h]
  · rw [if_neg h,S5 (Nat.lt_of_lt_of_le hO (Nat.pow_le_pow_right (by decide) (by omega))),S5 (Nat.lt_of_lt_of_le (Nat.mod_lt _ (u4 _)) (Nat.pow_le_pow_right (by decide) (by omega)))]
theorem arx{u x j:Nat}(hu:u<H^j)(hx:x<H) :gj u j++[(x:Int)]=gj (u+x*H^j) (j+1):=by
  show _=eY _ (j+1)
  simp only [eY]
  rw [DP hu hx,if_pos rfl]
  congr 1
  refine cE fun i hi=>?_
  rw [DP hu hx,if_neg (by omega)]
theorem H2(i:Nat) :W^i=H^(2*i):=by rw [Nat.pow_mul,show H^2=W by decide]
theorem ass(v i:Nat) :v/W^i%W%H=v/H^(2*i)%H:=by
  rw [H2,show W=H*H by decide,Nat.mod_mul_right_mod]
theorem ast(v i:Nat) :v/W^i%W/H=v/H^(2*i+1)%H:=by
  rw [H2,show W=H*H by decide,Nat.mod_mul_right_div_self,Nat.div_div_eq_div_mul,Nat.pow_succ]
theorem ao2(v i:Nat) :v/W^i%W=v/H^(2*i)%H+v/H^(2*i+1)%H*H:=by
  rw [←ass,←ast,Nat.mul_comm];exact (Nat.mod_add_div _ _).symm
end Go.Plb
namespace Go.Plb.Seat
open Go Go.Plb
set_option linter.unusedSimpArgs false
set_option linter.unusedVariables false
theorem Gr{v n m:Nat}(h:m≤n) :List.take m (aA v n)=aA v m:=by
  have:=bM (v:=v) h
  rwa [LI,List.drop_zero] at this
theorem yg{v n:Nat}(h:v<W^n)(hn:n≤1000000) :df (aA v n)=some (.r0 (nl v) (aA v (nl v))):=by
  have hl:=i6 h
  refine bb (ai rfl (ai (a:=((nl v:Nat):Int)) (bL (fun j=>((n-j:Nat):Int)) (n-nl v) (by simp only [aq];rfl) (fun j hj=>?_) ?_) ?_))
  · show aC (qK _ _).run _=_
    have e:Int.toNat (((n-j:Nat):Int)-1)=n-(j+1):=by omega
    have z:(aA v n).getD (n-(j+1)) 0=0:=by
      rw [cF h]
      exact Dj (Nat.lt_of_lt_of_le (cG v) (Nat.pow_le_pow_right (by decide) (by omega)))
    refine ai (a:=true) ?_ ?_
    · unfold qK
      rw [e,z,aq]
      exact bT (ap (ap (ap rfl)))
    · unfold Ks
      refine aZ (ap ?_)
      show some (Sum.inl _)=_
      congr 2;omega
  · have e0:n-(n-nl v)=nl v:=by omega
    show aC (qK _ _).run _=_
    rw [e0]
    by_cases h0:v=0
    · have z:=jk.2 h0
      rw [z]
      exact ai (a:=false) (aI rfl) (aI rfl)
    · have hp:=zt h0
      have e:Int.toNat (((nl v:Nat):Int)-1)=nl v-1:=by omega
      refine ai (a:=false) ?_ (aI rfl)
      unfold qK
      rw [e,cF h,aq]
      refine bT (ap (ap (ap ?_)))
      show some (Sum.inl _)=_
      congr 2
      rw [beq_eq_false_iff_ne];exact aiw h0
  · unfold Kt
    rw [aq,ch,Gr hl]
    exact ap (ap (ap (ap (ap rfl))))
theorem att{v n:Nat}(h:v<W^n)(hn:n≤1000000)(hv:nl v≤4096) :zi (aA v n)=some (.r0 true):=by
  have hl:=i6 h
  refine bb (ai rfl (ai (a:=((nl v:Nat):Int)) (bL (fun j=>((n-j:Nat):Int)) (n-nl v) (by simp only [aq];rfl) (fun j hj=>?_) ?_) ?_))
  · show aC (sD _ _).run _=_
    have e:Int.toNat (((n-j:Nat):Int)-1)=n-(j+1):=by omega
    have z:(aA v n).getD (n-(j+1)) 0=0:=by
      rw [cF h]
      exact Dj (Nat.lt_of_lt_of_le (cG v) (Nat.pow_le_pow_right (by decide) (by omega)))
    refine ai (a:=true) ?_ ?_
    · unfold sD
      rw [e,z,aq]
      exact bT (ap (ap (ap rfl)))
    · unfold M6
      refine aZ (ap ?_)
      show some (Sum.inl _)=_
      congr 2;omega
  · have e0:n-(n-nl v)=nl v:=by omega
    show aC (sD _ _).run _=_
    rw [e0]
    by_cases h0:v=0
    · have z:=jk.2 h0
      rw [z]
      exact ai (a:=false) (aI rfl) (aI rfl)
    · have hp:=zt h0
      have e:Int.toNat (((nl v:Nat):Int)-1)=nl v-1:=by omega
      refine ai (a:=false) ?_ (aI rfl)
      unfold sD
      rw [e,cF h,aq]
      refine bT (ap (ap (ap ?_)))
      show some (Sum.inl _)=_
      congr 2
      rw [beq_eq_false_iff_ne];exact aiw h0
  · show some (Sum.inr (ja.r0 (decide (((nl v:Nat):Int)≤4096))))=_
    rw [decide_eq_true (by omega)]
theorem asu(x:Nat) :Int.tmod (x:Int) (4294967296:Int)=((x%4294967296:Nat):Int):=rfl
theorem asv(x:Nat) :Int.tdiv (x:Int) (4294967296:Int)=((x/4294967296:Nat):Int):=rfl
theorem IM{v n m:Nat}(h:m≤n) :List.take m (gj v n)=gj v m:=by
  have:=atj (v:=v) h
  rwa [LI,List.drop_zero] at this
theorem IN(v n:Nat) :v%H^n<H^n:=Nat.mod_lt _ (u4 n)
theorem Gs{v n:Nat}(h:v<W^n)(hn:n≤100000) :dA (aA v n)=some (.r0 (2*n) (2*n) (gj v (2*n))):=by
  refine bb (ai rfl (ai (a:=(2*n,2*n,gj v (2*n))) (bL (fun i=>(2*i,2*i,i,gj v (2*i))) n rfl (fun i hi=>?_) ?_) rfl))
  · show (yF _ _ _ _ _).run=_
    unfold yF
    have e1:gj v (2*(i+1))=gj v (2*i)++[((v/H^(2*i)%H:Nat):Int),((v/H^(2*i+1)%H:Nat):Int)]:=by
      show eY _ (2*i+1+1)=_
      simp only [eY,gj,DQ,List.append_assoc];rfl
    rw [cF h,vr,aq,ej,asu,asv]
    have hlt:v/W^i%W/4294967296<W:=Nat.lt_of_le_of_lt (Nat.div_le_self _ _) (Nat.mod_lt _ (by decide))
    rw [kg hlt,IM (Nat.le_refl _)]
    have w1:v/W^i%W%4294967296=v/H^(2*i)%H:=ass v i
    have w2:v/W^i%W/4294967296=v/H^(2*i+1)%H:=ast v i
    rw [w1,w2]
    refine bT (ap (ap (aj (ap (ap (aj (ap (ap (aj (ap (ap ?_)))))))))))
    show some (Sum.inl (2*i+2,2*i+2,i+1,gj v (2*i)++[((v/H^(2*i)%H:Nat):Int),((v/H^(2*i+1)%H:Nat):Int)]))=_
    rw [←e1];rfl
  · show (yF _ _ _ _ _).run=_
    exact cV (by rw [aq];exact (by simp only [cM,Ao,Bt,oq,o6,hJ,o7,o8,decide_eq_true_eq,decide_eq_false_iff_not,beq_iff_eq,beq_eq_false_iff_ne,bne_iff_ne,bne_eq_false_iff_eq,Bool.not_eq_true',Bool.not_eq_false',List.length_set,ne_eq,ge_iff_le,gt_iff_lt,lG,ch,wZ];omega)) rfl
theorem PQ{v n i:Nat}(h:v<H^n) :d7 (gj v n) (i:Int)=some (.r0 ((v/H^i%H:Nat):Int)):=by
  refine bb ?_
  unfold Kx
  rw [ej,yf h,DQ]
  by_cases hi:i<n
  · exact bT (ap (ap rfl))
  · have:v/H^i%H=0:=by rw [Nat.div_eq_of_lt (Nat.lt_of_lt_of_le h (Nat.pow_le_pow_right (by decide) (by omega)))];rfl
    rw [this]
    exact ct rfl
theorem Ux{v m:Nat}(h:v<H^m)(hm:m≤200000) :iH (gj v m)=some (.r0 (aA v (nl v)) (nl v)):=by
  have hW:v<W^((m+1)/2):=by
    rw [H2];exact Nat.lt_of_lt_of_le h (Nat.pow_le_pow_right (by decide) (by omega))
  refine bb (ai rfl (ai (a:=((m+1)/2,(m+1)/2,aA v ((m+1)/2))) (bL (fun j=>(j,j,2*j,aA v j)) ((m+1)/2) rfl (fun j hj=>?_) ?_) (ai (a:=(aA v (nl v),nl v)) ?_ rfl)))
  · show aC (vL _ _ _ _ _).run _=_
    have e1:aA v (j+1)=aA v j++[((v/W^j%W:Nat):Int)]:=rfl
    refine ai (a:=(j+1,aA v (j+1))) ?_ (ap rfl)
    unfold vL
    rw [yf h,yf h,DQ,DQ,ej,aq,Gr (Nat.le_refl _)]
    have lo:=Nat.mod_lt (v/H^(2*j)) (show H>0 by decide)
    have hi:=Nat.mod_lt (v/H^(2*j+1)) (show H>0 by decide)
    have hb:=ao2 v j
    have hlt:v/W^j%W<W:=Nat.mod_lt _ (by decide)
    by_cases hlast:2*j+1<m
    · have w1:IntKind.u64.wrap (((v/H^(2*j+1)%H:Nat):Int)*(4294967296:Int))=((v/H^(2*j+1)%H*H:Nat):Int):=by
        rw [show (4294967296:Int)=((H:Nat):Int) from rfl,y8,Nat.mod_eq_of_lt (by omega)]
      rw [w1,ow,←hb,Nat.mod_eq_of_lt hlt]
      exact bT (ap (ap (ap (bT (ap (ap (ap (ap (ap (aj (ap rfl)))))))))))
    · have z:v/H^(2*j+1)%H=0:=by
        rw [Nat.div_eq_of_lt (Nat.lt_of_lt_of_le h (Nat.pow_le_pow_right (by decide) (by omega)))];rfl
      rw [z,Nat.zero_mul,Nat.add_zero] at hb
      rw [←hb]
      exact bT (ap (ap (ap (ct (ap (ap (aj (ap rfl))))))))
  · show aC (vL _ _ _ _ _).run _=_
    exact bk (cV (by rw [ej];exact (by simp only [cM,Ao,Bt,oq,o6,hJ,o7,o8,decide_eq_true_eq,decide_eq_false_iff_not,beq_iff_eq,beq_eq_false_iff_ne,bne_iff_ne,bne_eq_false_iff_eq,Bool.not_eq_true',Bool.not_eq_false',List.length_set,ne_eq,ge_iff_le,gt_iff_lt,lG,ch,wZ];omega)) rfl)
  · show (BJ _ _).run=_
    unfold BJ
    rw [bf aq,yg hW (by omega)]
    exact bH (aj rfl)
theorem atu{a b n m:Nat}(ha:a<W^n)(hb:b<W^m)(hn:n≤10000)(hm:m≤10000) :ew (aA a n) (aA b m)=some (.r0 (aA (a+b) (nl (a+b))) (nl (a+b))):=by
  have ha':a<H^(2*n):=by rw [←H2];exact ha
  have hb':b<H^(2*m):=by rw [←H2];exact hb
  have hg:max (2*n) (2*m)≤20000:=by omega
  have hgn:2*n≤max (2*n) (2*m):=Nat.le_max_left _ _
  have hgm:2*m≤max (2*n) (2*m):=Nat.le_max_right _ _
  have hgx:∀ j,j<max (2*n) (2*m)→j<2*n∨j<2*m:=fun j hj=>by omega
  revert hg hgn hgm hgx
  generalize max (2*n) (2*m)=g
  intro hg hgn hgm hgx
  have ha2:a<H^g:=Nat.lt_of_lt_of_le ha' (Nat.pow_le_pow_right (by decide) hgn)
  have hb2:b<H^g:=Nat.lt_of_lt_of_le hb' (Nat.pow_le_pow_right (by decide) hgm)
  have hs:rm a b g=a+b:=by unfold rm;rw [Nat.mod_eq_of_lt ha2,Nat.mod_eq_of_lt hb2]
  have hc:=Wq (x:=a) (y:=b) (j:=g)
  rw [hs] at hc
  have hpush:=arx (u:=(a+b)%H^g) (x:=(a+b)/H^g) (j:=g) (IN _ _) (Nat.lt_of_le_of_lt hc (by decide))
  have hv:(a+b)%H^g+(a+b)/H^g*H^g=a+b:=by rw [Nat.mul_comm];exact Nat.mod_add_div _ _
  rw [hv] at hpush
  have hlt:a+b<H^(g+1):=by
    rw [Nat.pow_succ]
    have:H^g*2≤H^g*H:=Nat.mul_le_mul_left _ (by decide)
    omega
  refine bb (ai (a:=(gj a (2*n),2*n,gj b (2*m),2*m)) ?_ (ai rfl (ai (a:=(g,g,(((a+b)/H^g:Nat):Int),gj ((a+b)%H^g) g)) (bL (fun j=>(j,j,((rm a b j/H^j:Nat):Int),j,gj (rm a b j%H^j) j)) g (by simp [rm,Nat.mod_one];rfl) (fun j hj=>?_) ?_) (ai (a:=(aA (a+b) (nl (a+b)),nl (a+b))) ?_ rfl))))
  · unfold MQ
    rw [aw,aw,Gs ha (by omega),Gs hb (by omega)]
    exact aB (aj (aB (aj rfl)))
  · have hcj:=Wq (x:=a) (y:=b) (j:=j)
    have hS:=IN (rm a b j) j
    have hst:=aru a b j
    obtain ⟨d1,d2⟩:=Ls (t:=a/H^j%H+b/H^j%H+rm a b j/H^j) hS
    rw [←hst] at d1 d2
    have hp:=arx hS (Nat.mod_lt (a/H^j%H+b/H^j%H+rm a b j/H^j) (show H>0 by decide))
    rw [←d2] at hp
    have l1:a/H^j%H<4294967296:=Nat.mod_lt _ (show H>0 by decide)
    have l2:b/H^j%H<4294967296:=Nat.mod_lt _ (show H>0 by decide)
    have hW:W=18446744073709551616:=rfl
    show aC (su _ _ _).run _=_
    refine ai (a:=true) ?_ (ai (a:=(j+1,((rm a b (j+1)/H^(j+1):Nat):Int),gj (rm a b (j+1)%H^(j+1)) (j+1))) ?_ (ap rfl))
    · unfold su
      rcases hgx j hj with q | q
      · exact bT rfl
      · by_cases p:j<2*n
        · exact bT rfl
        · refine ct ?_
          show some (Sum.inl (decide _))=_
          rw [decide_eq_true (by omega)]
    · show (Er _ _ _ _ _ _ _ _ _ _).run=_
      unfold Er
      rw [bf ej,bf ej,PQ ha',PQ hb']
      simp only [kR,dD]
      rw [ow,ow,Nat.mod_eq_of_lt (by omega:a/H^j%H+b/H^j%H<W),Nat.mod_eq_of_lt (by omega),asu,asv,ej,IM (Nat.le_refl _)]
      rw [kg (by omega)]
      have d1':(a/H^j%H+b/H^j%H+rm a b j/H^j)/4294967296=rm a b (j+1)/H^(j+1):=d1.symm
      rw [d1']
      refine aZ (bW (yY ej) (aj (bW (yY ej) (aj (aj (ap (ap (aj (ap (aj ?_))))))))))
      show some (Sum.inl (j+1,((rm a b (j+1)/H^(j+1):Nat):Int),gj (rm a b j%H^j) j++[(((a/H^j%H+b/H^j%H+rm a b j/H^j)%H:Nat):Int)]))=_
      rw [hp]
  · show aC (su _ _ _).run _=_
    refine ai (a:=false) ?_ (bk (aI (by rw [hs];rfl)))
    unfold su
    refine ct ?_
    show some (Sum.inl (decide _))=_
    rw [decide_eq_false (by omega)]
  · show (Et _ _ _).run=_
    unfold Et
    have et:List.take 1 [(((a+b)/H^g:Nat):Int)]=[(((a+b)/H^g:Nat):Int)]:=rfl
    rw [IM (Nat.le_refl _),et,hpush,bf ej,Ux hlt (by omega),ej]
    exact ap (ap (aj (ap (bW (yY ej) (aj rfl)))))
theorem ahG{a b n m:Nat}(ha:a<W^n)(hb:b<W^m)(hn:n≤10000)(hm:m≤10000)(hle:b≤a) :bQ (aA a n) (aA b m)=some (.r0 (aA (a-b) (nl (a-b))) (nl (a-b))):=by
  have ha':a<H^(2*n):=by rw [←H2];exact ha
  have hb':b<H^(2*m):=by rw [←H2];exact hb
  have hd:DR a b (2*n)=a-b:=by
    unfold DR u9
    rw [Nat.mod_eq_of_lt ha',Nat.mod_eq_of_lt (Nat.lt_of_le_of_lt hle ha'),if_neg (by omega),Nat.zero_mul,Nat.add_zero]
  have b0:u9 a b 0=0:=by unfold u9;rw [Nat.pow_zero,Nat.mod_one,Nat.mod_one];rfl
  have hlt:a-b<H^(2*n):=Nat.lt_of_le_of_lt (Nat.sub_le _ _) ha'
  refine bb (ai (a:=(gj a (2*n),2*n,gj b (2*m),2*m)) ?_ (ai rfl (ai (a:=(2*n,2*n,gj (a-b) (2*n))) (bL (fun j=>(j,j,((u9 a b j:Nat):Int),j,gj (DR a b j) j)) (2*n) (by rw [b0];rfl) (fun j hj=>?_) ?_) (ai (a:=(aA (a-b) (nl (a-b)),nl (a-b))) ?_ rfl))))
  · unfold MS
    rw [aw,aw,Gs ha (by omega),Gs hb (by omega)]
    exact aB (aj (aB (aj rfl)))
  · have hbr:u9 a b j≤1:=by unfold u9;split<;>omega
    have hD:=(ao0 (a:=a) (b:=b) (j:=j)).1
    obtain ⟨s1,s2⟩:=atl a b j
    have l1:a/H^j%H<4294967296:=Nat.mod_lt _ (show H>0 by decide)
    have l2:b/H^j%H<4294967296:=Nat.mod_lt _ (show H>0 by decide)
    have hp:=arx hD (Nat.mod_lt (a/H^j%H+H-b/H^j%H-u9 a b j) (show H>0 by decide))
    rw [←s2] at hp
    have eH:H=4294967296:=rfl
    have q1:(4294967296:Int)+((a/H^j%H:Nat):Int)=((4294967296+a/H^j%H:Nat):Int):=by omega
    have q2:((4294967296+a/H^j%H:Nat):Int)-((b/H^j%H:Nat):Int)=((4294967296+a/H^j%H-b/H^j%H:Nat):Int):=by omega
    have q3:((4294967296+a/H^j%H-b/H^j%H:Nat):Int)-((u9 a b j:Nat):Int)=((a/H^j%H+H-b/H^j%H-u9 a b j:Nat):Int):=by omega
    have hW:W=18446744073709551616:=rfl
    have q4:(1:Int)-(((a/H^j%H+H-b/H^j%H-u9 a b j)/4294967296:Nat):Int)=((u9 a b (j+1):Nat):Int):=by
      rw [s1];split<;>omega
    have hb1:u9 a b (j+1)<W:=by unfold u9;split<;>decide
    show aC (yG _ _ _ _ _ _ _ _ _).run _=_
    refine ai (a:=(j+1,((u9 a b (j+1):Nat):Int),gj (DR a b (j+1)) (j+1))) ?_ (ap rfl)
    unfold yG
    rw [bf ej,PQ hb',yf ha',DQ]
    simp only [kR,dD]
    rw [q1,kg (by omega),q2,kg (by omega),q3,kg (by omega),asu,asv,kg (by omega),q4,kg hb1,ej,ej,IM (Nat.le_refl _)]
    refine bT (ap (ap (bW (yY ej) (aj (aj (ap (ap (aj (ap (aj ?_))))))))))
    show some (Sum.inl (j+1,((u9 a b (j+1):Nat):Int),gj (DR a b j) j++[(((a/H^j%H+H-b/H^j%H-u9 a b j)%H:Nat):Int)]))=_
    rw [hp]
  · show aC (yG _ _ _ _ _ _ _ _ _).run _=_
    exact bk (ct (by rw [hd];rfl))
  · show (Ev _ _).run=_
    unfold Ev
    rw [bf ej,Ux hlt (by omega)]
    exact bW (yY ej) (aj rfl)
theorem Uy{a b n m:Nat}(ha:a<W^n)(hb:b<W^m)(hn:n≤10000)(hm:m≤10000) :nB (aA a n) (aA b m)=some (.r0 (oR a b)):=by
  have la:=i6 ha
  have lb:=i6 hb
  refine bb (ai (a:=(aA a (nl a),nl a,aA b (nl b),nl b)) ?_ ?_)
  · unfold Rv
    rw [aw,aw,yg ha (by omega),yg hb (by omega)]
    exact aB (aj (aB (aj rfl)))
  by_cases h1:nl a<nl b
  · have:oR a b = -1:=by unfold oR;rw [if_pos (QB h1)]
    rw [this]
    exact bk (bT (bT rfl))
  by_cases h2:nl b<nl a
  · have hlt:=QB h2
    have:oR a b=1:=by unfold oR;rw [if_neg (by omega),if_pos hlt]
    rw [this]
    exact bk (bT (ct rfl))
  have hn':nl b=nl a:=by omega
  have hA:=cG a
  have hB:=cG b
  have hk:nl a≤10000:=by omega
  rw [hn'] at hB ⊢
  clear la lb h1 h2 hn'
  generalize nl a=n at *
  refine ai (a:=((n:Int)-1)) (cV (by simp) (ap rfl)) ?_
  have step:∀ j,j<n→lm a (n-1-j)=lm b (n-1-j)→yM (aA a n) n (aA b n) n ((n:Int)-1-j)=some (.inl ((n:Int)-1-(j+1:Nat))):=by
    intro j hj he
    show (sC _ _ _ _ _).run=_
    unfold sC
    have e:Int.toNat ((n:Int)-1-(j:Int))=n-1-j:=by omega
    rw [e,cF hA,cF hB,aq,aq,he]
    refine bT (ap (ap (ap (ap (cV (by simp) (ap (ap (ap (ap (cV (by simp) (ap ?_)))))))))))
    show some (Sum.inl _)=_
    congr 2;omega
  by_cases hall:∀ j,j<n→lm a (n-1-j)=lm b (n-1-j)
  · have hab:a=b:=by
      have:=JU hA hB (d:=n) (Nat.le_refl _) fun k _ h2=>by
        have:=hall (n-1-k) (by omega)
        rwa [show n-1-(n-1-k)=k by omega] at this
      simpa using this
    subst hab
    have:oR a a=0:=by unfold oR;rw [if_neg (Nat.lt_irrefl _),if_neg (Nat.lt_irrefl _)]
    rw [this]
    exact ai (bL (fun j=>(n:Int)-1-(j:Nat)) n (by omega) (fun j hj=>step j hj (hall j hj)) (ct rfl)) rfl
  · obtain ⟨k,hk,hb',hf⟩:=uR hall
    have hup:a/W^(n-1-k+1)=b/W^(n-1-k+1):=by
      have:=JU hA hB (d:=k) (by omega) fun i h1 h2=>by
        have:=hf (n-1-i) (by omega)
        rwa [show n-1-(n-1-i)=i by omega] at this
      rwa [show n-k=n-1-k+1 by omega] at this
    refine bk (bL (fun j=>(n:Int)-1-(j:Nat)) k (by omega) (fun j hj=>step j (by omega) (hf j hj)) ?_)
    show (sC _ _ _ _ _).run=_
    unfold sC
    have e:Int.toNat ((n:Int)-1-(k:Int))=n-1-k:=by omega
    rw [e,cF hA,cF hB,aq,aq]
    refine bT (ap (ap (ap (ap ?_))))
    by_cases hlt:lm a (n-1-k)<lm b (n-1-k)
    · have:=G7 hup hlt
      have:oR a b = -1:=by unfold oR;rw [if_pos this]
      rw [this]
      exact jh (decide_eq_true hlt) rfl
    · have hgt:lm b (n-1-k)<lm a (n-1-k):=by omega
      have hlt':=G7 hup.symm hgt
      have:oR a b=1:=by unfold oR;rw [if_neg (by omega),if_pos hlt']
      rw [this]
      exact cV (decide_eq_false hlt) (ap (ap (ap (ap (jh (decide_eq_true hgt) rfl)))))
theorem acq{a b n m:Nat}(ha:a<H^n)(hb:b<H^m) :a*b<H^(n+m):=by
  rw [Nat.pow_add]
  rcases Nat.eq_zero_or_pos b with h | h
  · rw [h,Nat.mul_zero];exact Nat.mul_pos (u4 _) (u4 _)
  · exact Nat.mul_lt_mul_of_lt_of_le ha (Nat.le_of_lt hb) (u4 _)
theorem atv{x y c o:Nat}(hx:x<H)(hy:y<H)(hc:c≤x)(ho:o<H) :o+x*y+c<W:=by
  have hp:x*y≤4294967295*4294967295:=Nat.mul_le_mul (by have:x<4294967296:=hx;omega) (by have:y<4294967296:=hy;omega)
  have h1:x<4294967296:=hx
  have h2:o<4294967296:=ho
  show _<18446744073709551616
  omega
theorem ahH{a b n m:Nat}(ha:a<W^n)(hb:b<W^m)(hn:n≤10000)(hm:m≤10000) :dB (aA a n) (aA b m)=some (.r0 (aA (a*b) (nl (a*b))) (nl (a*b))):=by
  have ha':a<H^(2*n):=by rw [←H2];exact ha
  have hb':b<H^(2*m):=by rw [←H2];exact hb
  have hab:=acq ha' hb'
  have hab1:a*b<H^(2*n+2*m+1):=Nat.lt_of_lt_of_le hab (Nat.pow_le_pow_right (by decide) (by omega))
  refine bb (ai (a:=(gj a (2*n),2*n,gj b (2*m),2*m)) ?_ (ai (a:=(2*n+2*m+1,gj 0 (2*n+2*m+1))) ?_ (ai (a:=gj (a*b) (2*n+2*m+1)) (bL (fun i=>(i,gj (a%H^i*b) (2*n+2*m+1))) (2*n) (by simp [Nat.mod_one]) (fun i hi=>?_) ?_) (ai (a:=(aA (a*b) (nl (a*b)),nl (a*b))) ?_ rfl))))
  · unfold MU
    rw [aw,aw,Gs ha (by omega),Gs hb (by omega)]
    exact aB (aj (aB (aj rfl)))
  · show (Ew _ _).run=_
    unfold Ew
    rw [art]
    exact ap (ap (ap (ap (ap (ap rfl)))))
  · have hO:a%H^i*b<H^(i+2*m):=acq (IN _ _) hb'
    have lx:=Nat.mod_lt (a/H^i) (show H>0 by decide)
    have e2:a%H^i*b+b*(a/H^i%H)*H^i=a%H^(i+1)*b:=by rw [u5,Nat.add_mul,Nat.mul_comm b,Nat.mul_right_comm]
    have hA:=atp (O:=a%H^i*b) (a:=b) (m:=a/H^i%H) (k:=i) hO hb'
    have hL:=atq (O:=a%H^i*b) (a:=b) (m:=a/H^i%H) (k:=i) (N:=2*n+2*m+1) hO
    rw [e2] at hA
    rw [hA] at hL
    show aC (Ez _ _ _).run _=_
    refine ai (a:=()) (bT rfl) (ai (a:=gj (a%H^(i+1)*b) (2*n+2*m+1)) (vo (ai rfl (ai (a:=(((a%H^(i+1)*b/H^(i+2*m):Nat):Int),gj (a%H^(i+1)*b%H^(i+2*m)) (2*n+2*m+1))) ?_ ?_))) (ap rfl))
    · have c0:mM (a%H^i*b) b (a/H^i%H) i 0/H^(i+0)=0:=by
        have e:mM (a%H^i*b) b (a/H^i%H) i 0=a%H^i*b%H^i:=by unfold mM;rw [Nat.pow_zero,Nat.mod_one,Nat.zero_mul,Nat.zero_mul,Nat.add_zero,Nat.add_zero]
        rw [e,Nat.add_zero,Nat.div_eq_of_lt (IN _ _)]
      refine bL (fun k=>(((mM (a%H^i*b) b (a/H^i%H) i k/H^(i+k):Nat):Int),k,N9 (a%H^i*b) b (a/H^i%H) i (2*n+2*m+1) k)) (2*m) (by rw [c0,arv];rfl) (fun k hk=>?_) ?_
      · have hc:=ao1 (O:=a%H^i*b) (a:=b) (m:=a/H^i%H) (k:=i) (i:=k)
        have ly:=Nat.mod_lt (b/H^k) (show H>0 by decide)
        have lO:=Nat.mod_lt (a%H^i*b/H^(i+k)) (show H>0 by decide)
        have hl:=atm (O:=a%H^i*b) (a:=b) (m:=a/H^i%H) (k:=i) (n:=2*n+2*m+1) (i:=k)
        have hat:=au7 (O:=a%H^i*b) (a:=b) (m:=a/H^i%H) (k:=i) (n:=2*n+2*m+1) (i:=k) (by omega)
        have hst:=arw (O:=a%H^i*b) (a:=b) (m:=a/H^i%H) (k:=i) (n:=2*n+2*m+1) (i:=k) (by omega)
        have hw:=atv (x:=a/H^i%H) (y:=b/H^k%H) (c:=mM (a%H^i*b) b (a/H^i%H) i k/H^(i+k)) (o:=a%H^i*b/H^(i+k)%H) lx ly hc lO
        have hS:=IN (mM (a%H^i*b) b (a/H^i%H) i k) (i+k)
        obtain ⟨d1,_⟩:=Ls (t:=a%H^i*b/H^(i+k)%H+b/H^k%H*(a/H^i%H)+mM (a%H^i*b) b (a/H^i%H) i k/H^(i+k)) hS
        rw [←acp] at d1
        rw [Nat.mul_comm (a/H^i%H)] at hw
        show (yH _ _ _ _ _ _ _ _ _).run=_
        unfold yH
        rw [hat,DQ,yf ha',yf hb',DQ,DQ,hl,ej,ej,y8,Nat.mul_comm (a/H^i%H),Nat.mod_eq_of_lt (Nat.lt_of_le_of_lt (Nat.le_trans (Nat.le_add_left _ _) (Nat.le_add_right _ _)) hw:b/H^k%H*(a/H^i%H)<W),ow,Nat.mod_eq_of_lt (Nat.lt_of_le_of_lt (Nat.le_add_right _ _) hw:a%H^i*b/H^(i+k)%H+b/H^k%H*(a/H^i%H)<W),ow,Nat.mod_eq_of_lt hw,asu,asv,kg (Nat.lt_of_le_of_lt (Nat.div_le_self _ _) hw)]
        have d1':(a%H^i*b/H^(i+k)%H+b/H^k%H*(a/H^i%H)+mM (a%H^i*b) b (a/H^i%H) i k/H^(i+k))/4294967296=mM (a%H^i*b) b (a/H^i%H) i (k+1)/H^(i+(k+1)):=d1.symm
        have hst':(N9 (a%H^i*b) b (a/H^i%H) i (2*n+2*m+1) k).set (i+k) (((a%H^i*b/H^(i+k)%H+b/H^k%H*(a/H^i%H)+mM (a%H^i*b) b (a/H^i%H) i k/H^(i+k))%4294967296:Nat):Int)=_:=hst
        rw [d1',hst']
        exact bT (ap (ap (ap (ap (ap (ap (ap (ap (aj (ap (ap (aj (ap rfl)))))))))))))
      · show (yH _ _ _ _ _ _ _ _ _).run=_
        refine cV (by rw [decide_eq_false_iff_not];omega) ?_
        rw [hL,hA];rfl
    · have hO1:a%H^(i+1)*b<H^(i+1+2*m):=acq (IN _ _) hb'
      have hcar:a%H^(i+1)*b/H^(i+2*m)<H:=by
        refine Nat.div_lt_of_lt_mul ?_
        rw [←Nat.pow_succ,show (i+2*m).succ=i+1+2*m by omega];exact hO1
      have g8:=agK (u:=a%H^(i+1)*b%H^(i+2*m)) (x:=a%H^(i+1)*b/H^(i+2*m)) (j:=i+2*m) (n:=2*n+2*m+1) (IN _ _) hcar (by omega)
      have hv:a%H^(i+1)*b%H^(i+2*m)+a%H^(i+1)*b/H^(i+2*m)*H^(i+2*m)=a%H^(i+1)*b:=by rw [Nat.mul_comm (a%H^(i+1)*b/H^(i+2*m))];exact Nat.mod_add_div _ _
      rw [hv] at g8
      show (EC _ _ _ _ _).run=_
      unfold EC
      rw [g8,ej]
      exact ap (ap (ap rfl))
  · show aC (Ez _ _ _).run _=_
    refine bk (cV (by rw [decide_eq_false_iff_not];omega) ?_)
    rw [Nat.mod_eq_of_lt ha'];rfl
  · unfold MY
    rw [bf ej,Ux hab1 (by omega)]
    exact bW (yY ej) (aj rfl)
theorem ary{k:Nat}(hk:k≤1000000) :iI (k:Int)=some (.r0 (k/64+1) (aA (2^k) (k/64+1))):=by
  have hr:k%64<64:=Nat.mod_lt _ (by decide)
  have g8:=vp (u:=0) (x:=2^(k%64)) (j:=k/64) (n:=k/64+1) (gY _) (Bd hr) (by omega)
  rw [Nat.zero_add,←JV] at g8
  have e1:((k/64:Nat):Int)+(1:Int)=((k/64+1:Nat):Int):=by omega
  have hp:2^(k%64)<W:=Bd hr
  have e2:IntKind.u64.wrap ((1:Int)*2^(min (Int.toNat (((k%64:Nat)):Int)) IntKind.u64.bits))=((2^(k%64):Nat):Int):=by
    rw [show (1:Int)=((1:Nat):Int) from rfl,QD _ (by omega),Nat.one_mul,Nat.mod_eq_of_lt hp]
  refine bb ?_
  unfold MZ
  rw [Uu,Uv,e1,e2,ch,ch,FZ,g8,aq]
  exact aj (ap (ap (ap (ap (ap (ap (aj (ap (aj (ap (ap (ap rfl))))))))))))
theorem atw(k:Nat) :2^k<W^(k/64+1):=by
  rw [JV,Nat.pow_succ,Nat.mul_comm]
  exact Nat.mul_lt_mul_of_pos_left (Bd (Nat.mod_lt _ (by decide))) (gY _)
theorem ahI{v n k:Nat}(hv:v<W^n)(hn:n≤10000)(hk:k≤600000) :kS (aA v n) (k:Int)=some (.r0 (aA (v*2^k) (nl (v*2^k))) (nl (v*2^k))):=by
  refine bb (ai (a:=(aA (v*2^k) (nl (v*2^k)),nl (v*2^k))) ?_ rfl)
  unfold Rp
  rw [ary (by omega)]
  simp only [sv,lq,lr]
  rw [aw,bf aq,ahH hv (atw k) hn (by omega)]
  exact aj (aB (bH (aj rfl)))
def bl(v:Nat) :Nat:=if v=0 then 0 else v.log2+1
theorem avN(v:Nat) :v<2^bl v∧∀ j,j<bl v→0<v/2^j:=by
  unfold bl
  by_cases h:v=0
  · subst h;exact ⟨by decide,fun j hj=>absurd hj (by simp)⟩
  · rw [if_neg h]
    refine ⟨Nat.lt_log2_self,fun j hj=>?_⟩
    exact Nat.div_pos (Nat.le_trans (Nat.pow_le_pow_right (by decide) (by omega)) (Nat.log2_self_le h)) (kC j)
theorem acr{v n:Nat}(hv:v<W^n)(hn:n≤10000) :∃ b:Nat,pd (aA v n)=some (.r0 (b:Int))∧v<2^b∧b≤64*nl v:=by
  have hl:=i6 hv
  have t8:(EE (aA v n)).run=some (.inl (aA v (nl v),nl v)):=by
    unfold EE
    rw [aw,yg hv (by omega)]
    exact aB (aj rfl)
  by_cases h0:v=0
  · refine ⟨0,bb (ai t8 (bk ?_)),by rw [h0];decide,Nat.zero_le _⟩
    rw [h0,eS];exact aZ rfl
  · have hp:=zt h0
    obtain ⟨b1,b2⟩:=avN (v/W^(nl v-1)%W)
    have hlt:v/W^(nl v-1)%W<W:=Nat.mod_lt _ (by decide)
    have hb64:bl (v/W^(nl v-1)%W)≤64:=by
      rcases Nat.lt_or_ge 64 (bl (v/W^(nl v-1)%W)) with q | q
      · exfalso
        have:=b2 64 q
        have e:v/W^(nl v-1)%W/2^64=0:=Nat.div_eq_of_lt hlt
        omega
      · exact q
    have hdiv:v/W^(nl v-1)%W=v/W^(nl v-1):=by
      refine Nat.mod_eq_of_lt (Nat.div_lt_of_lt_mul ?_)
      rw [←Nat.pow_succ,show (nl v-1).succ=nl v by omega];exact cG v
    refine ⟨64*(nl v-1)+bl (v/W^(nl v-1)%W),bb (ai t8 (ai (a:=(((64*(nl v-1):Nat):Int),((v/W^(nl v-1)%W:Nat):Int))) ?_ (ai (a:=((64*(nl v-1)+bl (v/W^(nl v-1)%W):Nat):Int)) (bL (fun j=>(((64*(nl v-1)+j:Nat):Int),((v/W^(nl v-1)%W/2^j:Nat):Int))) (bl (v/W^(nl v-1)%W)) (by simp) (fun j hj=>?_) ?_) rfl))),?_,by omega⟩
    · show (EF _ _).run=_
      unfold EF
      have e1:Int.toNat (((nl v:Nat):Int)-1)=nl v-1:=by omega
      have e2:(64:Int)*(((nl v:Nat):Int)-1)=((64*(nl v-1):Nat):Int):=by omega
      rw [e1,e2,cF (cG v),vr,aq]
      exact ct (ap (ap (ap (ap (ap rfl)))))
    · show (vQ _ _).run=_
      have hpos:=b2 j hj
      unfold vQ
      have e1:((64*(nl v-1)+j:Nat):Int)+(1:Int)=((64*(nl v-1)+(j+1):Nat):Int):=by omega
      have e2:Int.tdiv ((v/W^(nl v-1)%W/2^j:Nat):Int) (2:Int)=((v/W^(nl v-1)%W/2^(j+1):Nat):Int):=by
        show ((v/W^(nl v-1)%W/2^j/2:Nat):Int)=_
        rw [Nat.pow_succ,Nat.div_div_eq_div_mul]
      rw [e1,e2,kg (Nat.lt_of_le_of_lt (Nat.div_le_self _ _) hlt)]
      exact bT (ap (aj rfl))
    · show (vQ _ _).run=_
      have z:v/W^(nl v-1)%W/2^bl (v/W^(nl v-1)%W)=0:=Nat.div_eq_of_lt b1
      rw [z]
      exact aI rfl
    · have e:W^(nl v-1)=2^(64*(nl v-1)):=by rw [Nat.pow_mul]
      rw [Nat.pow_add,←e]
      rw [hdiv] at b1 ⊢
      have:=(Nat.div_lt_iff_lt_mul (gY (nl v-1))).1 b1
      rw [Nat.mul_comm];exact this
theorem au8(v i:Nat) :v/W^(i/64)%W/2^(i%64)%2=v/2^i%2:=by
  have hr:i%64<64:=Nat.mod_lt _ (by decide)
  have e64:W=2^(i%64)*(2*2^(63-i%64)):=by
    rw [←Nat.mul_assoc,←Nat.pow_succ,←Nat.pow_add];show 2^64=_;congr 1;omega
  rw [JV i,Nat.mul_comm (2^(i%64)),←Nat.div_div_eq_div_mul]
  generalize v/W^(i/64)=y
  rw [e64,Nat.mod_mul_right_div_self,Nat.mod_mul_right_mod]
theorem L4{v n i:Nat}(hv:v<W^n)(hn:n≤10000)(hi:i≤1000000) :nA (aA v n) (i:Int)=some (.r0 (v/2^i%2==1)):=by
  have hr:i%64<64:=Nat.mod_lt _ (by decide)
  refine bb (ai (a:=(v/2^i%2==1)) ?_ rfl)
  unfold Rs
  rw [Uu,Uv,ch,cF hv,vr,Dk _ (by omega),aq]
  by_cases h:i/64<n
  · refine bT (aj (ap (bT (aj (ap (ap (ap (aj (ap (aj ?_))))))))))
    have e:Int.tmod ((v/W^(i/64)%W/2^(i%64):Nat):Int) (2:Int)=((v/W^(i/64)%W/2^(i%64)%2:Nat):Int):=rfl
    rw [e,au8]
    show some (Sum.inl _)=_
    congr 2
    rw [Bool.eq_iff_iff,beq_iff_eq,beq_iff_eq];omega
  · have z:v/2^i=0:=amQ hv (by omega)
    rw [z]
    exact bT (aj (ap (ct rfl)))
theorem ao3{v n:Nat}(hv:v<W^n)(hn:n≤10000)(h0:v≠0) :sB (aA v n)=some (.r0 (tz v)):=by
  have hl:=i6 hv
  obtain ⟨b,h1,h2,h3⟩:=acr hv hn
  have ht:=ag1 h0 h2
  obtain ⟨z1,z2⟩:=Dl v h0
  refine bb (ai (a:=(b:Int)) ?_ (ai rfl (bk (bL (fun i=>i) (tz v) rfl (fun j hj=>?_) ?_))))
  · unfold I0
    rw [aw,h1]
    exact aB (aj rfl)
  · have z:v/2^j%2=0:=by
      obtain ⟨d,hd⟩:∃ d,tz v=j+1+d:=⟨tz v-j-1,by omega⟩
      obtain ⟨c,hc⟩:=Nat.dvd_of_mod_eq_zero z1
      have:v=(2^d*c*2)*2^j:=by
        rw [hd,Nat.pow_add,Nat.pow_succ] at hc
        rw [hc];simp only [Nat.mul_assoc,Nat.mul_comm,Nat.mul_left_comm]
      rw [this,Nat.mul_div_cancel _ (kC j),Nat.mul_mod_left]
    show aC (pL _ _ _).run _=_
    refine ai (a:=()) ?_ (ap rfl)
    unfold pL
    rw [aw,L4 hv hn (by omega),z]
    exact bT (aB (aj (aI rfl)))
  · show aC (pL _ _ _).run _=_
    refine bk ?_
    unfold pL
    rw [aw,L4 hv hn (by omega),z2]
    exact bT (aB (aj (aZ rfl)))
theorem au9(v k j:Nat) :v%2^(k+(j+1))/2^k=v%2^(k+j)/2^k+v/2^(k+j)%2*2^j:=by
  rw [←Nat.add_assoc,Nat.pow_succ,Nat.mod_mul,Nat.pow_add,Nat.mul_assoc,Nat.add_mul_div_left _ _ (kC k),Nat.mul_comm (2^j)]
theorem atx{v n k:Nat}(hv:v<W^n)(hn:n≤10000)(hk:k≤1000000) :
    ∃ b,uV (aA v n) (k:Int)=some (.r0 (aA (v/2^k) (nl (v/2^k))) (nl (v/2^k)) b):=by
  have hl:=i6 hv
  obtain ⟨b,h1,h2,h3⟩:=acr hv hn
  let f:Nat→Bool:=fun j=>Nat.rec (motive:=fun _=>Bool) false (fun j b=>b||(v/2^j%2==1)) j
  have t20:(EH (aA v n)).run=some (.inl (false,(b:Int))):=by
    unfold EH
    rw [aw,h1]
    exact aB (aj rfl)
  have hmin:min k b≤640000:=by omega
  have hm1:∀ j,j<min k b→j<k∧j<b:=fun j hj=>by omega
  have hm2 : ¬ (min k b<k∧min k b<b):=by omega
  have l26:dh (yJ (aA v n) (k:Int) (b:Int)) (false,0)=some (.inl (f (min k b))):=by
    revert hmin hm1 hm2
    generalize min k b=g
    intro hmin hm1 hm2
    refine bL (fun j=>(f j,j)) g rfl (fun j hj=>?_) ?_
    · obtain ⟨q1,q2⟩:=hm1 j hj
      show aC (sA _ _ _).run _=_
      refine ai (a:=true) ?_ (ai (a:=f (j+1)) ?_ (ap rfl))
      · unfold sA
        refine bT ?_
        show some (Sum.inl (decide _))=_
        rw [decide_eq_true (by omega)]
      · show (EI _ _ _ _).run=_
        unfold EI
        rw [aw,L4 hv hn (by omega)]
        have hf:f (j+1)=(f j||(v/2^j%2==1)):=rfl
        rw [hf]
        refine aZ ?_
        cases f j
        · exact aI (aB (aj rfl))
        · exact aZ rfl
    · show aC (sA _ _ _).run _=_
      refine ai (a:=false) ?_ (bk (aI rfl))
      unfold sA
      by_cases q:g<k
      · refine bT ?_
        show some (Sum.inl (decide _))=_
        rw [decide_eq_false (by omega)]
      · exact ct rfl
  refine ⟨f (min k b),bb (ai t20 (ai rfl (ai l26 ?_)))⟩
  by_cases hkb:b≤k
  · have z:v/2^k=0:=Nat.div_eq_of_lt (Nat.lt_of_lt_of_le h2 (Nat.pow_le_pow_right (by decide) hkb))
    rw [z,eS]
    refine bk ?_
    unfold EJ
    exact bT rfl
  · have e0:v%2^(k+0)/2^k=0:=Nat.div_eq_of_lt (Nat.mod_lt _ (kC _))
    have eb:v%2^(k+(b-k))/2^k=v/2^k:=by rw [show k+(b-k)=b by omega,Nat.mod_eq_of_lt h2]
    refine ai (a:=aA 0 n) ?_ (ai (a:=aA (v/2^k) n) (bL (fun j=>(((k+j:Nat):Int),aA (v%2^(k+j)/2^k) n)) (b-k) (by rw [e0];rfl) (fun j hj=>?_) ?_) (ai (a:=(aA (v/2^k) (nl (v/2^k)),nl (v/2^k))) ?_ rfl))
    · unfold EJ
      rw [aq,FZ]
      exact ct (ap (ap (ap (ap rfl))))
    · show aC (yK _ _ _ _ _).run _=_
      refine ai (a:=aA (v%2^(k+(j+1))/2^k) n) ?_ (bW (by rw [cM];omega) rfl)
      unfold yK
      have hbs:=au9 v k j
      have es:((k+j:Nat):Int)-(k:Int)=(j:Int):=by omega
      rw [aw,L4 hv hn (by omega),es,Uu,Uv,ch]
      simp only [pe,oD]
      refine jh (by rw [decide_eq_true_eq];omega) (aB (aj ?_))
      have hr:j%64<64:=Nat.mod_lt _ (by decide)
      have hjn:j/64<n:=by omega
      by_cases hbit:v/2^(k+j)%2=1
      · rw [hbit,Nat.one_mul] at hbs
        have hU:v%2^(k+j)/2^k<2^j:=by
          refine Nat.div_lt_of_lt_mul ?_
          rw [←Nat.pow_add];exact Nat.mod_lt _ (kC _)
        have hUW:v%2^(k+j)/2^k<W^n:=by
          refine Nat.lt_of_lt_of_le hU ?_
          rw [show W^n=2^(64*n) by rw [Nat.pow_mul]]
          exact Nat.pow_le_pow_right (by decide) (by omega)
        rw [hbs]
        revert hU hUW
        generalize v%2^(k+j)/2^k=U
        intro hU hUW
        have hd:U/W^(j/64)<2^(j%64):=by
          refine Nat.div_lt_of_lt_mul ?_
          rw [Nat.mul_comm,←JV];exact hU
        have hp:2^(j%64)<W:=Bd hr
        have hp2:2^(j%64)+2^(j%64)≤W:=by
          have:2^(j%64+1)≤2^64:=Nat.pow_le_pow_right (by decide) hr
          rw [Nat.pow_succ] at this
          have w:W=2^64:=by decide
          omega
        have hx:U/W^(j/64)%W+2^(j%64)<W:=by
          have:=Nat.mod_le (U/W^(j/64)) W
          omega
        have g8:=amP (n:=n) hx hjn
        rw [←JV] at g8
        have e2:IntKind.u64.wrap ((1:Int)*2^(min (Int.toNat (((j%64:Nat)):Int)) IntKind.u64.bits))=((2^(j%64):Nat):Int):=by
          rw [show (1:Int)=((1:Nat):Int) from rfl,QD _ (by omega),Nat.one_mul,Nat.mod_eq_of_lt hp]
        rw [hbit,e2,cF hUW,vr,ow,Nat.mod_eq_of_lt hx,g8,aq,aq]
        exact aZ (ap (aj (ap (ap (aj (ap (ap (ap (ap (aj (ap (ap (ap rfl)))))))))))))
      · have z:v/2^(k+j)%2=0:=by omega
        rw [z,Nat.zero_mul,Nat.add_zero] at hbs
        rw [z,hbs]
        exact aI rfl
    · show aC (yK _ _ _ _ _).run _=_
      refine bk (cV (by rw [decide_eq_false_iff_not];omega) ?_)
      rw [eb];rfl
    · have hq:v/2^k<W^n:=Nat.lt_of_le_of_lt (Nat.div_le_self _ _) hv
      unfold M3
      rw [aq,bf aq,yg hq (by omega)]
      exact bH (aj rfl)
theorem IO(s:Bool){v n:Nat}(hv:v<W^n)(hn:n≤10000)(hl:nl v≤4096){e:Int}(he : -1000000≤e∧e≤1000000) :
    bd s (aA v n) e=some (.r0 (nS (sg s v)) (aA (nM (sg s v)) (nl (nM (sg s v)))) (nl (nM (sg s v))) (nE (sg s v) e)):=by
  have t5:(EP (aA v n)).run=some (.inl (aA v (nl v),nl v,false)):=by
    unfold EP
    rw [aw,yg hv (by omega)]
    exact aB (aj rfl)
  by_cases h0:v=0
  · have z:sg s v=0:=vu.2 h0
    rw [z,fi,XX,jl,eS]
    refine bb (ai t5 (bk ?_))
    rw [h0,eS]
    exact aZ rfl
  · have z:sg s v≠0:=fun q=>h0 (vu.1 q)
    have hp:=zt h0
    have ht:=amR (v:=v)
    obtain ⟨b,h1⟩:=atx (k:=tz v) (cG v) (by omega) (by omega)
    have eM:nM (sg s v)=v/2^tz v:=by unfold nM;rw [JW]
    have eE:nE (sg s v) e=e+((tz v:Nat):Int):=by rw [iU z,JW]
    rw [av6 h0,eM,eE]
    refine bb (ai t5 (ai (a:=tz v) ?_ (ai (a:=(aA (v/2^tz v) (nl (v/2^tz v)),nl (v/2^tz v))) ?_ ?_)))
    · show (EQ _ _).run=_
      unfold EQ
      rw [bf aq,ao3 (cG v) (by omega) h0]
      exact ct (bH (aj rfl))
    · show (ER _ _ _).run=_
      unfold ER
      rw [bf aq,h1]
      exact bH (aj rfl)
    · exact bW (by rw [cM];omega) rfl
theorem ahJ{v n:Nat}(hv:v<W^n)(hn:n≤1000000)(hl:nl v≤4096){e:Int}(he : -262144≤e∧e≤262144) :dM (aA v n) e=some (.r0 true):=by
  refine bb (ai (a:=true) ?_ rfl)
  unfold Ry
  rw [aw,att hv hn hl]
  refine aB (aj (aZ (bT ?_)))
  show some (Sum.inl (decide (e≤262144)))=_
  rw [decide_eq_true he.2]
theorem CR{z e:Int}{s:Bool}(hs:z≠0→s=nS z)(h:Sm z e) :bd s (aA (nM z) (nl (nM z))) (nE z e)=some (.r0 (nS z) (aA (nM z) (nl (nM z))) (nl (nM z)) (nE z e)):=by
  have hm:=h.m
  have hb:=h.b
  have h1:=IO s (cG (nM z)) (by omega) (by omega) (e:=nE z e) (by omega)
  obtain ⟨a,b,c⟩:=QF (e:=e) hs
  rw [a,b,c] at h1
  exact h1
theorem IP{z e:Int}(h:Sm z e) :dM (aA (nM z) (nl (nM z))) (nE z e)=some (.r0 true):=by
  have hm:=h.m
  have hb:=h.b
  exact ahJ (cG (nM z)) (by omega) (by omega) (by omega)
theorem CS(s:Bool){v n:Nat}(hv:v<W^n)(hn:n≤10000)(hl:nl v≤1000){e:Int}(he : -150000≤e∧e≤150000) :
    bG s (aA v n) e=some (.r0 0 (nS (sg s v)) (aA (nM (sg s v)) (nl (nM (sg s v)))) (nl (nM (sg s v))) (nE (sg s v) e)):=by
  have h1:=IO s hv hn (by omega) (e:=e) (by omega)
  have ht:=amR (v:=v)
  have hE' : -262144≤nE (sg s v) e∧nE (sg s v) e≤262144:=by
    unfold nE;rw [JW];split<;>omega
  have hM:nl (nM (sg s v))≤nl v:=by have:=ot (av7 (z:=sg s v));rwa [JW] at this
  refine bb (ai (a:=(nS (sg s v),aA (nM (sg s v)) (nl (nM (sg s v))),nl (nM (sg s v)),nE (sg s v) e,false)) ?_ (ai (a:=false) ?_ rfl))
  · unfold Nb
    rw [aw,h1]
    exact aB (aj rfl)
  · show (ET _ _ _).run=_
    unfold ET
    rw [bf aq,ahJ (cG _) (by omega) (by omega) hE']
    exact bH (aj rfl)
theorem arz{z e:Int}{m:Nat}(h:Sm z e)(h0:z≠0)(hm:m≤tz z.natAbs){k:Int}(hk:k=((tz z.natAbs-m:Nat):Int)) :
    kS (aA (nM z) (nl (nM z))) k=some (.r0 (aA (z.natAbs/2^m) (nl (z.natAbs/2^m))) (nl (z.natAbs/2^m))):=by
  obtain ⟨e1,e2⟩:=yZ hm
  have ht:=h.t
  have hM:=h.m
  rw [hk,ahI (cG _) (by omega) (by omega),e1]
theorem awH{k:Nat}(hk:k≤100000) :kS (aA (nM 0) (nl (nM 0))) (k:Int)=some (.r0 (aA 0 0) 0):=by
  rw [jl,eS,ahI (v:=0) (n:=0) (by decide) (by omega) (by omega),Nat.zero_mul,eS]
theorem ao4{z e ep:Int}{m:Nat}(h:Sm z e)(hp:z≠0→m≤tz z.natAbs∧ep=e+m)(hb : -50000≤ep∧ep≤94800) :
    (vV (aA (nM z) (nl (nM z))) (nE z e) ep).run=some (.inl (aA (z.natAbs/2^m) (nl (z.natAbs/2^m)),nl (z.natAbs/2^m))) ∧
    (vW (aA (nM z) (nl (nM z))) (nE z e) ep).run=some (.inl (aA (z.natAbs/2^m) (nl (z.natAbs/2^m)),nl (z.natAbs/2^m))):=by
  by_cases h0:z=0
  · subst h0
    rw [Int.natAbs_zero,Nat.zero_div,eS,fi]
    unfold vV vW
    rw [aw]
    by_cases hq:(0:Int)>ep
    · obtain ⟨k,hk⟩:∃ k:Nat,(0:Int)-ep=(k:Int):=⟨(0-ep).toNat,by omega⟩
      rw [hk,awH (by omega)]
      exact ⟨jh (decide_eq_true hq) (bW (by rw [cM];omega) (aB (aj rfl))),jh (decide_eq_true hq) (bW (by rw [cM];omega) (aB (aj rfl)))⟩
    · rw [jl,eS]
      exact ⟨cV (decide_eq_false hq) rfl,cV (decide_eq_false hq) rfl⟩
  · obtain ⟨h1,h2⟩:=hp h0
    have e1:=iU (e:=e) h0
    have ht:=h.t
    have hM:=h.m
    unfold vV vW
    rw [aw]
    by_cases hq:nE z e>ep
    · rw [arz h h0 h1 (k:=nE z e-ep) (by omega)]
      exact ⟨jh (decide_eq_true hq) (bW (by rw [cM];omega) (aB (aj rfl))),jh (decide_eq_true hq) (bW (by rw [cM];omega) (aB (aj rfl)))⟩
    · have hm:m=tz z.natAbs:=by omega
      have e2:z.natAbs/2^m=nM z:=by rw [hm];rfl
      rw [e2]
      exact ⟨cV (decide_eq_false hq) (by rw [aq];rfl),cV (decide_eq_false hq) (by rw [aq];rfl)⟩
theorem Wr{x y e:Int}(hx:Sm x e)(hy:Sm y e) :∃ m ep,d8 (aA (nM x) (nl (nM x))) (nE x e) (aA (nM y) (nl (nM y))) (nE y e) =
    some (.r0 (aA (x.natAbs/2^m) (nl (x.natAbs/2^m))) (nl (x.natAbs/2^m)) (aA (y.natAbs/2^m) (nl (y.natAbs/2^m))) (nl (y.natAbs/2^m)) ep)∧Lvl x y e m ep:=by
  have hxt:=hx.t
  have hyt:=hy.t
  have hxb:=hx.b
  have hyb:=hy.b
  have he:=hx.2
  have key:∀ m ep,(x≠0→m≤tz x.natAbs∧ep=e+m)→(y≠0→m≤tz y.natAbs∧ep=e+m)→(-50000≤ep∧ep≤94800) →
      (∃ e1,(oH (aA (nM x) (nl (nM x))) (nE x e) (nE y e)).run=some (.inl e1)∧(oI (nE x e) (aA (nM y) (nl (nM y))) e1).run=some (.inl ep)) →
      d8 (aA (nM x) (nl (nM x))) (nE x e) (aA (nM y) (nl (nM y))) (nE y e)=some (.r0 (aA (x.natAbs/2^m) (nl (x.natAbs/2^m))) (nl (x.natAbs/2^m)) (aA (y.natAbs/2^m) (nl (y.natAbs/2^m))) (nl (y.natAbs/2^m)) ep):=by
    intro m ep h1 h2 h3 ⟨e1,h4,h5⟩
    exact bb (ai h4 (ai h5 (ai (ao4 hx h1 h3).1 (ai (ao4 hy h2 h3).2 rfl))))
  have dz:∀ m,(0:Int).natAbs/2^m*2^m=(0:Int).natAbs:=fun m=>by rw [Int.natAbs_zero,Nat.zero_div,Nat.zero_mul]
  by_cases h1:x=0
  · have l0:nl (nM x)=0:=by rw [h1,jl,eS]
    by_cases h2:y=0
    · have l1:nl (nM y)=0:=by rw [h2,jl,eS]
      refine ⟨0,0,key 0 0 (fun q=>absurd h1 q) (fun q=>absurd h2 q) (by omega) ⟨nE y e,?_,?_⟩,⟨by rw [h1];exact dz 0,by rw [h2];exact dz 0,.inl ⟨h1,h2,rfl⟩,by omega⟩⟩
      · unfold oH;rw [aq,l0];exact aZ rfl
      · unfold oI;rw [aq,l1];refine aZ ?_;rw [h1,fi];rfl
    · have ly:nl (nM y)≠0:=fun q=>F1 h2 (jk.1 q)
      have ey:=iU (e:=e) h2
      refine ⟨tz y.natAbs,nE y e,key _ _ (fun q=>absurd h1 q) (fun _=>⟨Nat.le_refl _,ey⟩) (by omega) ⟨nE y e,?_,?_⟩,⟨by rw [h1];exact dz _,(yZ (Nat.le_refl _)).2,.inr ey,by omega⟩⟩
      · unfold oH;rw [aq,l0];exact aZ rfl
      · unfold oI;rw [aq];exact ct rfl
  · have lx:nl (nM x)≠0:=fun q=>F1 h1 (jk.1 q)
    have ex:=iU (e:=e) h1
    by_cases h2:y=0
    · have l1:nl (nM y)=0:=by rw [h2,jl,eS]
      refine ⟨tz x.natAbs,nE x e,key _ _ (fun _=>⟨Nat.le_refl _,ex⟩) (fun q=>absurd h2 q) (by omega) ⟨ke (nE x e) (nE y e),?_,?_⟩,⟨(yZ (Nat.le_refl _)).2,by rw [h2];exact dz _,.inr ex,by omega⟩⟩
      · unfold oH;rw [aq];exact ct rfl
      · unfold oI;rw [aq,l1];exact aZ rfl
    · have ly:nl (nM y)≠0:=fun q=>F1 h2 (jk.1 q)
      have ey:=iU (e:=e) h2
      have emin:ke (nE x e) (nE y e)=e+((min (tz x.natAbs) (tz y.natAbs):Nat):Int):=by
        rw [ex,ey]
        rcases Nat.le_total (tz x.natAbs) (tz y.natAbs) with q | q
        · rw [asq (by omega),Nat.min_eq_left q]
        · rw [XY (by omega),Nat.min_eq_right q]
      have mx:min (tz x.natAbs) (tz y.natAbs)≤tz x.natAbs:=Nat.min_le_left _ _
      have my:min (tz x.natAbs) (tz y.natAbs)≤tz y.natAbs:=Nat.min_le_right _ _
      revert emin mx my
      generalize min (tz x.natAbs) (tz y.natAbs)=m
      intro emin mx my
      refine ⟨m,e+m,key m _ (fun _=>⟨mx,rfl⟩) (fun _=>⟨my,rfl⟩) (by omega) ⟨e+m,?_,?_⟩,⟨(yZ mx).2,(yZ my).2,.inr rfl,by omega⟩⟩
      · unfold oH;rw [aq,emin];exact ct rfl
      · unfold oI;rw [aq];exact ct rfl
theorem ahK{x y e:Int}(hx:Sm x e)(hy:Sm y e) :qQ (aA (nM x) (nl (nM x))) (nE x e) (aA (nM y) (nl (nM y))) (nE y e)=some (.r0 false):=by
  have hxb:=hx.b
  have hyb:=hy.b
  refine bb (ai (a:=false) ?_ rfl)
  unfold RC
  rw [aq,aq]
  by_cases h1:nl (nM x)=0
  · exact ct rfl
  · by_cases h2:nl (nM y)=0
    · exact bT (ct rfl)
    · refine bT (bT (bW (by rw [cM];omega) (cV (by rw [decide_eq_false_iff_not];omega) (bW (by rw [cM];omega) ?_))))
      show some (Sum.inl (decide _))=_
      rw [decide_eq_false (by omega)]
theorem awc{x y e:Int}{s t:Bool}(hs:x≠0→s=nS x)(ht:y≠0→t=nS y)(hx:Sm x e)(hy:Sm y e) :
    g6 s (aA (nM x) (nl (nM x))) (nE x e) t (aA (nM y) (nl (nM y))) (nE y e)=some (.r0 0 (nS (x+y)) (aA (nM (x+y)) (nl (nM (x+y)))) (nl (nM (x+y))) (nE (x+y) e)):=by
  have x1:=CR hs hx
  have y1:=CR ht hy
  obtain ⟨m,ep,l1,l2⟩:=Wr hx hy
  have xl:=hx.l
  have yl:=hy.l
  have hX:nl (x.natAbs/2^m)≤300:=Nat.le_trans (ot (Nat.div_le_self _ _)) xl
  have hY:nl (y.natAbs/2^m)≤300:=Nat.le_trans (ot (Nat.div_le_self _ _)) yl
  have ox:=asg l2.x2
  have oy:=asg l2.y2
  have z0:∀ {z:Int},z=0→z.natAbs/2^m=0:=fun h=>by rw [h,Int.natAbs_zero,Nat.zero_div]
  have zx:x=0→x.natAbs/2^m=0:=z0
  have zy:y=0→y.natAbs/2^m=0:=z0
  have hb:=l2.b
  have t10:(EU (aA (nM x) (nl (nM x))) (nE x e) (aA (nM y) (nl (nM y))) (nE y e)).run=some (.inl (false,false)):=by
    unfold EU
    rw [aw,aw,IP hx,IP hy]
    exact aB (aj (aI (aB (aj rfl))))
  have t11:(EV s (aA (nM x) (nl (nM x))) (nE x e) t (aA (nM y) (nl (nM y))) (nE y e) false).run=some (.inl (nS x,aA (nM x) (nl (nM x)),nl (nM x),nE x e,nS y,aA (nM y) (nl (nM y)),nl (nM y),nE y e)):=by
    unfold EV
    rw [aw,aw,x1,y1]
    exact aI (aB (aj (aB (aj rfl))))
  have t12:(EW (aA (nM x) (nl (nM x))) (nl (nM x)) (nE x e) (aA (nM y) (nl (nM y))) (nl (nM y)) (nE y e)).run=some (.inl false):=by
    unfold EW
    rw [bf aq,bf aq,ahK hx hy]
    exact bH (bH (aj rfl))
  have t13:(EX (aA (nM x) (nl (nM x))) (nl (nM x)) (nE x e) (aA (nM y) (nl (nM y))) (nl (nM y)) (nE y e) false).run=some (.inl (aA (x.natAbs/2^m) (nl (x.natAbs/2^m)),nl (x.natAbs/2^m),aA (y.natAbs/2^m) (nl (y.natAbs/2^m)),nl (y.natAbs/2^m),ep)):=by
    unfold EX
    rw [bf aq,bf aq,l1]
    exact aI (bH (bH (aj rfl)))
  clear l1 x1 y1
  have sum:=fun {z z':Int} (a:z=z'*((2^m:Nat):Int)) (b:x=0→y=0→z'=0)=>l2.sum a b
  revert t13 hX hY ox oy zx zy
  generalize x.natAbs/2^m=X
  generalize y.natAbs/2^m=Y
  intro hX hY ox oy zx zy t13
  have hXY:=aiz hX hY
  by_cases hsg:nS x=nS y
  · have hz:x+y=sg (nS x) (X+Y)*((2^m:Nat):Int):=by
      rw [←auM,Int.add_mul,←ox]
      rw [hsg,←oy]
    obtain ⟨a,b,c⟩:=sum hz (fun p q=>by rw [zx p,zy q];cases nS x<;>rfl)
    have h1:=CS (nS x) (v:=X+Y) (cG _) (by omega) (by omega) (e:=ep) (by omega)
    rw [a,b,c]
    refine bb (ai t10 (ai t11 (ai t12 (ai t13 (bk ?_)))))
    show (sE _ _ _ _ _ _ _).run=_
    unfold sE
    rw [bf aq,bf aq,atu (cG X) (cG Y) (by omega) (by omega)]
    simp only [vM,ii,ij]
    rw [bf aq,h1]
    exact jh (by rw [hsg];cases nS y<;>rfl) (bH (bH (aj (bH (aj rfl)))))
  · have hn:nS y = !(nS x):=by revert hsg;cases nS x<;>cases nS y<;>simp
    have t14:(sE (nS x) (nS y) (aA X (nl X)) (nl X) (aA Y (nl Y)) (nl Y) ep).run=some (.inl ()):=by
      unfold sE
      exact cV (by rw [hn];cases nS x<;>rfl) rfl
    have t15:(EY (aA X (nl X)) (nl X) (aA Y (nl Y)) (nl Y)).run=some (.inl (decide (oR X Y≥0))):=by
      unfold EY
      rw [bf aq,bf aq,Uy (cG X) (cG Y) (by omega) (by omega)]
      exact bH (bH (aj rfl))
    have hxy:x+y=(sg (nS x) X-sg (nS x) Y)*((2^m:Nat):Int):=by
      rw [Int.sub_mul,←ox]
      have:y = -(sg (nS x) Y)*((2^m:Nat):Int):=by rw [←Tx,←hn];exact oy
      rw [Int.neg_mul] at this
      omega
    by_cases hlt:X<Y
    · have hz:x+y=sg (nS y) (Y-X)*((2^m:Nat):Int):=by
        rw [hxy,←aiA (Nat.le_of_lt hlt),hn,Tx,Tx];congr 1;omega
      obtain ⟨a,b,c⟩:=sum hz (fun p q=>by rw [zx p,zy q];cases nS y<;>rfl)
      have hd:nl (Y-X)≤nl Y:=ot (Nat.sub_le _ _)
      have h1:=CS (nS y) (v:=Y-X) (cG _) (by omega) (by omega) (e:=ep) (by omega)
      rw [a,b,c]
      have hc:decide (oR X Y≥0)=false:=by unfold oR;rw [if_pos hlt];rfl
      rw [hc] at t15
      refine bb (ai t10 (ai t11 (ai t12 (ai t13 (ai t14 (ai t15 (ai (a:=()) (aI rfl) (ai (a:=(0,nS (sg (nS y) (Y-X)),aA (nM (sg (nS y) (Y-X))) (nl (nM (sg (nS y) (Y-X)))),nl (nM (sg (nS y) (Y-X))),nE (sg (nS y) (Y-X)) ep)) ?_ rfl))))))))
      show (E1 _ _ _ _ _ _).run=_
      unfold E1
      rw [bf aq,bf aq,ahG (cG Y) (cG X) (by omega) (by omega) (Nat.le_of_lt hlt)]
      simp only [pc,c6,c7]
      rw [bf aq,h1]
      exact bH (bH (aj (bH (aj rfl))))
    · have hz:x+y=sg (nS x) (X-Y)*((2^m:Nat):Int):=by
        rw [hxy,←aiA (by omega)]
      obtain ⟨a,b,c⟩:=sum hz (fun p q=>by rw [zx p,zy q];cases nS x<;>rfl)
      have hd:nl (X-Y)≤nl X:=ot (Nat.sub_le _ _)
      have h1:=CS (nS x) (v:=X-Y) (cG _) (by omega) (by omega) (e:=ep) (by omega)
      rw [a,b,c]
      have hc:decide (oR X Y≥0)=true:=by
        rw [decide_eq_true_eq];unfold oR;rw [if_neg hlt];split<;>omega
      rw [hc] at t15
      refine bb (ai t10 (ai t11 (ai t12 (ai t13 (ai t14 (ai t15 (bk ?_)))))))
      show (EZ _ _ _ _ _ _ _).run=_
      unfold EZ
      rw [bf aq,bf aq,ahG (cG X) (cG Y) (by omega) (by omega) (by omega)]
      simp only [pc,c6,c7]
      rw [bf aq,h1]
      exact aZ (bH (bH (aj (bH (aj rfl)))))
theorem axd{x y e:Int}(hx:Sm x e)(hy:Sm y e) :
    oX (nS x) (aA (nM x) (nl (nM x))) (nE x e) (nS y) (aA (nM y) (nl (nM y))) (nE y e)=some (.r0 0 (nS (x-y)) (aA (nM (x-y)) (nl (nM (x-y)))) (nl (nM (x-y))) (nE (x-y) e)):=by
  have h1:=awc (x:=x) (y:=-y) (e:=e) (s:=nS x) (t:=!(nS y)) (fun _=>rfl) (fun h=>by
    unfold nS;rw [←decide_not];congr 1;exact propext (by omega)) hx hy.n
  rw [auK,auL,←Int.sub_eq_add_neg] at h1
  have hT:bP (nS y) (aA (nM y) (nl (nM y))) (nE y e)=some (.r0 (!(nS y)) (aA (nM y) (nl (nM y))) (nl (nM y)) (nE y e)):=by
    refine bb ?_
    unfold NW
    rw [aq];rfl
  refine bb (ai (a:=(0,nS (x-y),aA (nM (x-y)) (nl (nM (x-y))),nl (nM (x-y)),nE (x-y) e)) ?_ rfl)
  unfold Sv
  rw [aw,aw,hT]
  simp only [th,iO,gw,gA,iP]
  rw [bf aq,h1]
  exact aB (aj (aB (bH (aj rfl))))
theorem awI{x y e f:Int} :nS (x*y)=nS (sg (nS x != nS y) (nM x*nM y))∧nM (x*y)=nM (sg (nS x != nS y) (nM x*nM y))∧nE (x*y) (e+f)=nE (sg (nS x != nS y) (nM x*nM y)) (nE x e+nE y f):=by
  have hz:x*y=sg (nS x != nS y) (nM x*nM y)*((2^(tz x.natAbs+tz y.natAbs):Nat):Int):=by
    have a:=QE x
    have b:=QE y
    rw [←ag3,Nat.pow_add,Int.natCast_mul]
    conv=>lhs;rw [←a,←b]
    simp only [Int.mul_assoc,Int.mul_comm,Int.mul_left_comm]
  obtain ⟨a,b,c⟩:=F2 hz (e+f)
  refine ⟨a,b,?_⟩
  rw [c]
  by_cases p:x=0
  · subst p;rw [jl,Nat.zero_mul]
    have:sg (nS 0 != nS y) 0=0:=vu.2 rfl
    rw [this,fi,fi]
  · by_cases q:y=0
    · subst q;rw [jl,Nat.mul_zero]
      have:sg (nS x != nS 0) 0=0:=vu.2 rfl
      rw [this,fi,fi]
    · rw [iU p,iU q];congr 1;omega
theorem axe{x y e f:Int}(hx:Sm x e)(hy:Sm y f) :
    oU (nS x) (aA (nM x) (nl (nM x))) (nE x e) (nS y) (aA (nM y) (nl (nM y))) (nE y f)=some (.r0 0 (nS (x*y)) (aA (nM (x*y)) (nl (nM (x*y)))) (nl (nM (x*y))) (nE (x*y) (e+f))):=by
  have x1:=CR (s:=nS x) (fun _=>rfl) hx
  have y1:=CR (s:=nS y) (fun _=>rfl) hy
  have xm:=hx.m
  have ym:=hy.m
  have xb:=hx.b
  have yb:=hy.b
  have hm:=ap7 (a:=nM x) (b:=nM y)
  have h1:=CS (nS x != nS y) (v:=nM x*nM y) (cG _) (by omega) (by omega) (e:=nE x e+nE y f) (by omega)
  obtain ⟨a,b,c⟩:=awI (x:=x) (y:=y) (e:=e) (f:=f)
  rw [a,b,c]
  refine bb (ai (a:=(false,false)) ?_ (ai (a:=(nS x,aA (nM x) (nl (nM x)),nl (nM x),nE x e,nS y,aA (nM y) (nl (nM y)),nl (nM y),nE y f)) ?_ (ai (a:=(0,nS (sg (nS x != nS y) (nM x*nM y)),aA (nM (sg (nS x != nS y) (nM x*nM y))) (nl (nM (sg (nS x != nS y) (nM x*nM y)))),nl (nM (sg (nS x != nS y) (nM x*nM y))),nE (sg (nS x != nS y) (nM x*nM y)) (nE x e+nE y f))) ?_ rfl)))
  · unfold RG
    rw [aw,aw,IP hx,IP hy]
    exact aB (aj (aI (aB (aj rfl))))
  · show (H6 _ _ _ _ _ _ _).run=_
    unfold H6
    rw [aw,aw,x1,y1]
    exact aI (aB (aj (aB (aj rfl))))
  · show (H7 _ _ _ _ _ _ _ _).run=_
    unfold H7
    have h1':bG (!(nS x==nS y)) (aA (nM x*nM y) (nl (nM x*nM y))) (nE x e+nE y f)=_:=h1
    rw [bf aq,bf aq,ahH (cG (nM x)) (cG (nM y)) (by omega) (by omega)]
    simp only [rD,fW,fZ]
    rw [bf aq,h1']
    exact bH (bH (aj (bW (by rw [cM];omega) (bH (aj rfl)))))
theorem IQ(z:Int) :jt (nS z) (aA (nM z) (nl (nM z)))=some (.r0 (oY z)):=by
  refine bb ?_
  unfold Nc
  rw [aq]
  unfold oY nS
  by_cases h0:z=0
  · subst h0;rw [jl,eS];exact aZ rfl
  · have:nl (nM z)≠0:=fun q=>F1 h0 (jk.1 q)
    by_cases h:z<0
    · rw [if_pos h];exact ct (jh (decide_eq_true h) rfl)
    · rw [if_neg h,if_pos (by omega)];exact ct (cV (decide_eq_false h) rfl)
theorem axf{x y e:Int}(hx:Sm x e)(hy:Sm y e) :
    zj (nS x) (aA (nM x) (nl (nM x))) (nE x e) (nS y) (aA (nM y) (nl (nM y))) (nE y e)=some (.r0 (Jg x y) 0):=by
  have x1:=CR (s:=nS x) (fun _=>rfl) hx
  have y1:=CR (s:=nS y) (fun _=>rfl) hy
  obtain ⟨m,ep,l1,l2⟩:=Wr hx hy
  have xl:=hx.l
  have yl:=hy.l
  have hX:nl (x.natAbs/2^m)≤300:=Nat.le_trans (ot (Nat.div_le_self _ _)) xl
  have hY:nl (y.natAbs/2^m)≤300:=Nat.le_trans (ot (Nat.div_le_self _ _)) yl
  have hc:oR (x.natAbs/2^m) (y.natAbs/2^m)=Jg (x.natAbs:Int) (y.natAbs:Int):=by
    rw [alQ (kC m),←Int.natCast_mul,←Int.natCast_mul,l2.x2,l2.y2]
  have hc':oR (y.natAbs/2^m) (x.natAbs/2^m)=Jg (y.natAbs:Int) (x.natAbs:Int):=by
    rw [alQ (kC m),←Int.natCast_mul,←Int.natCast_mul,l2.x2,l2.y2]
  have t10:(E3 (aA (nM x) (nl (nM x))) (nE x e) (aA (nM y) (nl (nM y))) (nE y e)).run=some (.inl false):=by
    unfold E3
    rw [aw,aw,IP hx,IP hy]
    exact aB (aj (aI (aB (aj rfl))))
  have t11:(E4 (nS x) (aA (nM x) (nl (nM x))) (nE x e) (nS y) (aA (nM y) (nl (nM y))) (nE y e) false).run=some (.inl (nS x,aA (nM x) (nl (nM x)),nl (nM x),nE x e,nS y,aA (nM y) (nl (nM y)),nl (nM y),nE y e)):=by
    unfold E4
    rw [aw,aw,x1,y1]
    exact aI (aB (aj (aB (aj rfl))))
  have t12:(E5 (aA (nM x) (nl (nM x))) (nl (nM x)) (nE x e) (aA (nM y) (nl (nM y))) (nl (nM y)) (nE y e)).run=some (.inl false):=by
    unfold E5
    rw [bf aq,bf aq,ahK hx hy]
    exact bH (bH (aj rfl))
  have t13:(E6 (nS x) (aA (nM x) (nl (nM x))) (nl (nM x)) (nS y) (aA (nM y) (nl (nM y))) (nl (nM y)) false).run=some (.inl (oY x != oY y)):=by
    unfold E6
    rw [bf aq,bf aq,IQ,IQ]
    exact aI (bH (aj (bH (aj rfl))))
  have t15:(E8 (aA (nM x) (nl (nM x))) (nl (nM x)) (nE x e) (aA (nM y) (nl (nM y))) (nl (nM y)) (nE y e)).run=some (.inl (aA (x.natAbs/2^m) (nl (x.natAbs/2^m)),nl (x.natAbs/2^m),aA (y.natAbs/2^m) (nl (y.natAbs/2^m)),nl (y.natAbs/2^m))):=by
    unfold E8
    rw [bf aq,bf aq,l1]
    exact bH (bH (aj rfl))
  refine bb (ai t10 (ai t11 (ai t12 (ai t13 ?_))))
  by_cases hs:oY x=oY y
  · have hb:(oY x != oY y)=false:=by rw [hs,bne_self_eq_false]
    refine ai (a:=()) (by rw [hb];exact aI rfl) (ai t15 ?_)
    by_cases hn:x<0
    · have e1:nS x=true:=decide_eq_true hn
      have hy0:y<0:=by unfold oY at hs;rw [if_pos hn] at hs;revert hs;split<;>(try split)<;>omega
      have ev:Jg (y.natAbs:Int) (x.natAbs:Int)=Jg x y:=by
        unfold Jg;repeat' split
        all_goals omega
      refine bk ?_
      show (E9 _ _ _ _ _).run=_
      unfold E9
      rw [bf aq,bf aq,Uy (cG _) (cG _) (by omega) (by omega),hc',ev]
      exact jh e1 (bH (bH (aj rfl)))
    · have e1:nS x=false:=decide_eq_false hn
      have hy0 : ¬ y<0:=by unfold oY at hs;rw [if_neg hn] at hs;revert hs;split<;>(try split)<;>(try split)<;>omega
      have ev:Jg (x.natAbs:Int) (y.natAbs:Int)=Jg x y:=by congr 1<;>omega
      refine ai (a:=()) (cV e1 rfl) (ai (a:=Jg x y) ?_ rfl)
      show (Fa _ _ _ _).run=_
      unfold Fa
      rw [bf aq,bf aq,Uy (cG _) (cG _) (by omega) (by omega),hc,ev]
      exact bH (bH (aj rfl))
  · have hb:(oY x != oY y)=true:=bne_iff_ne.2 hs
    refine bk ?_
    show (E7 _ _ _ _ _ _ _).run=_
    unfold E7
    rw [bf aq,bf aq,IQ,IQ,hb]
    refine aZ (bH (aj (bH (aj ?_))))
    by_cases hlt:oY x<oY y
    · have ev:Jg x y = -1:=by
        unfold Jg;unfold oY at hlt;revert hlt;repeat' split
        all_goals omega
      rw [ev];exact jh (decide_eq_true hlt) rfl
    · have ev:Jg x y=1:=by
        unfold Jg;unfold oY at hlt hs;revert hlt hs;repeat' split
        all_goals omega
      rw [ev];exact cV (decide_eq_false hlt) rfl
theorem avO{x e k:Int}(hx:Sm x e)(hk : -30000≤k∧k≤30000) :
    kH (nS x) (aA (nM x) (nl (nM x))) (nE x e) k=some (.r0 0 (nS x) (aA (nM x) (nl (nM x))) (nl (nM x)) (nE x (e+k))):=by
  have x1:=CR (s:=nS x) (fun _=>rfl) hx
  have xm:=hx.m
  have xb:=hx.b
  have t5:(BZ (aA (nM x) (nl (nM x))) (nE x e)).run=some (.inl (false,false)):=by
    unfold BZ
    rw [aw,IP hx]
    exact aB (aj rfl)
  have t6:(B0 (nS x) (aA (nM x) (nl (nM x))) (nE x e) false).run=some (.inl (nS x,aA (nM x) (nl (nM x)),nl (nM x),nE x e)):=by
    unfold B0
    rw [aw,x1]
    exact aI (aB (aj rfl))
  refine bb (ai t5 (ai t6 ?_))
  by_cases h0:x=0
  · have e1:nE x e=nE x (e+k):=by rw [h0,fi,fi]
    have l0:nl (nM x)=0:=by rw [h0,jl,eS]
    refine bk ?_
    refine jh (by rw [l0];rfl) ?_
    rw [e1];rfl
  · have hl:nl (nM x)≠0:=fun q=>F1 h0 (jk.1 q)
    have ek:mr (-1048576) (ke 1048576 k)=k:=by rw [XY (by omega),XZ (by omega)]
    have h1:=CS (nS x) (v:=nM x) (cG _) (by omega) (by omega) (e:=nE x e+k) (by omega)
    obtain ⟨a,b,c⟩:=QF (z:=x) (e:=e) (s:=nS x) (fun _=>rfl)
    have c':nE (sg (nS x) (nM x)) (nE x e+k)=nE x (e+k):=by
      have q:sg (nS x) (nM x)≠0:=fun w=>F1 h0 (vu.1 w)
      rw [iU q,iU h0] at c
      rw [iU q,iU h0,iU h0];omega
    rw [a,b,c'] at h1
    refine ai (a:=(0,nS x,aA (nM x) (nl (nM x)),nl (nM x),nE x (e+k))) ?_ rfl
    show (B1 _ _ _ _ _).run=_
    unfold B1
    rw [bf aq,ek,h1]
    exact ct (bW (by rw [cM];omega) (bH (aj rfl)))
theorem ao5{m:Nat}(h:m<W) :([(m:Int)]:List Int)=aA m 1:=by
  show [(m:Int)]=[]++[lm m 0]
  unfold lm;rw [Nat.pow_zero,Nat.div_one,Nat.mod_eq_of_lt h];rfl
theorem zm{n:Nat}(h:n<9223372036854775808) :
    aF (n:Int)=some (.r0 (nS (n:Int)) (aA (nM (n:Int)) (nl (nM (n:Int)))) (nl (nM (n:Int))) (nE (n:Int) 0)):=by
  have hW:n<W:=Nat.lt_trans h (by decide)
  have hn:nl n≤1:=i6 (by rw [Nat.pow_one];exact hW)
  have h1:=IO false (v:=n) (n:=1) (by rw [Nat.pow_one];exact hW) (by omega) (by omega) (e:=0) (by omega)
  have e:sg false n=(n:Int):=rfl
  rw [e] at h1
  refine bb (ai (a:=((n:Int),false)) ?_ (ai (a:=(nS (n:Int),aA (nM (n:Int)) (nl (nM (n:Int))),nl (nM (n:Int)),nE (n:Int) 0)) ?_ rfl))
  · unfold K4
    rw [kg hW]
    exact cV (by rw [decide_eq_false_iff_not];omega) rfl
  · show (Ch _ _).run=_
    unfold Ch
    have d:decide ((n:Int)<0)=false:=by rw [decide_eq_false_iff_not];omega
    rw [ao5 hW,bf aq,d,h1]
    exact bH (aj rfl)
theorem Ws{x:Nat}(hx:x<PT)(h:vv x=true) :og (x:Int)=some (.r0 (rV x)):=by
  have h':Tz x≠2047:=by unfold vv at h;exact bne_iff_ne.1 h
  refine bb ?_
  unfold La rV
  rw [Gq hx,Bh hx]
  by_cases h1:Tz x=0
  · by_cases h2:x%4503599627370496=0
    · rw [if_neg (by omega),if_neg (by omega),h1,h2]
      exact aj (aI (aI (aI rfl)))
    · rw [if_neg (by omega),if_pos h2,h1]
      exact aj (aI (aI (bT rfl)))
  · rw [if_pos h1]
    exact aj (ct (bT rfl))
theorem ao6{x:Nat}(hx:x<PT)(h:vv x=true) :oh (x:Int)=some (.r0 (x/9223372036854775808==1) ((fm x:Nat):Int) (fe x)):=by
  have hx':x<18446744073709551616:=hx
  have hl:=acn x
  have hs:decide (((x:Nat):Int)≥(9223372036854775808:Int))=(x/9223372036854775808==1):=by
    rw [Bool.eq_iff_iff,decide_eq_true_eq,beq_iff_eq];omega
  have hf:=Nat.mod_lt x (show 4503599627370496>0 by decide)
  have hW:W=18446744073709551616:=rfl
  refine bb (ai (a:=((rV x==1),false,(x/9223372036854775808==1),((x%4503599627370496:Nat):Int))) ?_ (ai (a:=if rV x=1 then 0 else -1074) ?_ (ai (a:=(rV x==3)) ?_ (ai (a:=(((fm x:Nat):Int),fe x)) ?_ rfl))))
  · unfold Lb
    rw [Ws hx h,Bh hx,hs]
    refine aj ?_
    show some (Sum.inl ((((rV x:Nat):Int)==1),_,_,_))=_
    have:(((rV x:Nat):Int)==1)=(rV x==1):=by rw [Bool.eq_iff_iff,beq_iff_eq,beq_iff_eq];omega
    rw [this]
  · show (Cn _).run=_
    unfold Cn
    by_cases q:rV x=1
    · rw [if_pos q];exact jh (beq_iff_eq.2 q) rfl
    · rw [if_neg q];exact cV (beq_eq_false_iff_ne.2 q) rfl
  · show (Co _).run=_
    unfold Co
    rw [Ws hx h]
    refine aj ?_
    show some (Sum.inl (((rV x:Nat):Int)==3))=_
    have:(((rV x:Nat):Int)==3)=(rV x==3):=by rw [Bool.eq_iff_iff,beq_iff_eq,beq_iff_eq];omega
    rw [this]
  · show (Cp _ _ _ _).run=_
    unfold Cp
    rw [Gq hx,ahF (by omega)]
    by_cases h1:Tz x=0
    · have hfm:fm x=x%4503599627370496:=by unfold fm;rw [if_neg (by omega)]
      by_cases h2:x%4503599627370496=0
      · have hk:rV x=1:=by unfold rV;rw [if_neg (by omega),if_neg (by omega)]
        have hfe:fe x=0:=by unfold fe;rw [if_neg (by omega),if_neg (by omega)]
        rw [hk,hfm,hfe,if_pos rfl]
        exact aI rfl
      · have hk:rV x=2:=by unfold rV;rw [if_neg (by omega),if_pos h2]
        have hfe:fe x = -1074:=by unfold fe;rw [if_neg (by omega),if_pos h2]
        rw [hk,hfm,hfe,if_neg (by omega)]
        exact aI rfl
    · have hk:rV x=3:=by unfold rV;rw [if_pos h1]
      have hfm:fm x=x%4503599627370496+4503599627370496:=by unfold fm;rw [if_pos h1]
      have hfe:fe x = -1074+(((Tz x:Nat):Int)-1):=by unfold fe;rw [if_pos h1]
      rw [hk,hfm,hfe,if_neg (by omega)]
      have e1:IntKind.u64.wrap (((x%4503599627370496:Nat):Int)+(4503599627370496:Int))=((x%4503599627370496+4503599627370496:Nat):Int):=by
        have e':(4503599627370496:Int)=((4503599627370496:Nat):Int):=by omega
        rw [e',ow,Nat.mod_eq_of_lt (by omega)]
      rw [e1]
      refine aZ (aj (bW (by rw [cM];omega) ?_))
      have e2:((Tz x:Nat):Int)-1075 = -1074+(((Tz x:Nat):Int)-1):=by omega
      rw [e2];rfl
theorem arA{x:Nat}(hx:x<PT)(h:vv x=true) :
    nY (x:Int)=some (.r0 (nS (fz x)) (aA (nM (fz x)) (nl (nM (fz x)))) (nl (nM (fz x))) (nE (fz x) (-1074))):=by
  have hm:=awb x
  have hn:nl (fm x)≤1:=i6 (by rw [Nat.pow_one];exact hm)
  have hl:=acn x
  have he : -1000000≤fe x∧fe x≤1000000:=by unfold fe;split<;>(try split)<;>omega
  have h1:=IO (x/9223372036854775808==1) (v:=fm x) (n:=1) (by rw [Nat.pow_one];exact hm) (by omega) (by omega) he
  obtain ⟨a,b,c⟩:=aoZ hx h
  rw [a,b,c] at h1
  refine bb (ai (a:=(false,(x/9223372036854775808==1),((fm x:Nat):Int),fe x)) ?_ (ai (a:=(nS (fz x),aA (nM (fz x)) (nl (nM (fz x))),nl (nM (fz x)),nE (fz x) (-1074))) ?_ rfl))
  · unfold NQ
    rw [ao6 hx h]
    exact aj rfl
  · show (FC _ _ _).run=_
    unfold FC
    rw [ao5 hm,bf aq,h1]
    exact bH (aj rfl)
theorem uN{x:Nat}(hx:x<PT)(h:vv x=true) :
    aa x=some (.r0 (nS (fz x)) (aA (nM (fz x)) (nl (nM (fz x)))) (nl (nM (fz x))) (nE (fz x) (-1074))):=by
  refine bb (ai (a:=(nS (fz x),aA (nM (fz x)) (nl (nM (fz x))),nl (nM (fz x)),nE (fz x) (-1074))) ?_ rfl)
  unfold Lc
  rw [arA hx h]
  exact avu (bW (by rw [ash hx h];rfl) (aj rfl))
theorem Lt{x y e:Int}(hx:Sm x e)(hy:Sm y e) :
    bR (nS x) (aA (nM x) (nl (nM x))) (nE x e) (nS y) (aA (nM y) (nl (nM y))) (nE y e)=some (.r0 (nS (x+y)) (aA (nM (x+y)) (nl (nM (x+y)))) (nl (nM (x+y))) (nE (x+y) e)):=by
  refine bb (ai (a:=(false,nS (x+y),aA (nM (x+y)) (nl (nM (x+y))),nl (nM (x+y)),nE (x+y) e)) ?_ rfl)
  unfold Sq
  rw [aw,aw,awc (fun _=>rfl) (fun _=>rfl) hx hy]
  exact aB (aB (aj rfl))
theorem ahL{x y e:Int}(hx:Sm x e)(hy:Sm y e) :
    fI (nS x) (aA (nM x) (nl (nM x))) (nE x e) (nS y) (aA (nM y) (nl (nM y))) (nE y e)=some (.r0 (nS (x-y)) (aA (nM (x-y)) (nl (nM (x-y)))) (nl (nM (x-y))) (nE (x-y) e)):=by
  refine bb (ai (a:=(false,nS (x-y),aA (nM (x-y)) (nl (nM (x-y))),nl (nM (x-y)),nE (x-y) e)) ?_ rfl)
  unfold NX
  rw [aw,aw,axd hx hy]
  exact aB (aB (aj rfl))
theorem rn{x y e f:Int}(hx:Sm x e)(hy:Sm y f) :
    am (nS x) (aA (nM x) (nl (nM x))) (nE x e) (nS y) (aA (nM y) (nl (nM y))) (nE y f)=some (.r0 (nS (x*y)) (aA (nM (x*y)) (nl (nM (x*y)))) (nl (nM (x*y))) (nE (x*y) (e+f))):=by
  refine bb (ai (a:=(false,nS (x*y),aA (nM (x*y)) (nl (nM (x*y))),nl (nM (x*y)),nE (x*y) (e+f))) ?_ rfl)
  unfold K5
  rw [aw,aw,axe hx hy]
  exact aB (aB (aj rfl))
theorem aty{x y e:Int}(hx:Sm x e)(hy:Sm y e) :
    iT (nS x) (aA (nM x) (nl (nM x))) (nE x e) (nS y) (aA (nM y) (nl (nM y))) (nE y e)=some (.r0 (decide (x≤y))):=by
  have ev:decide (Jg x y≤0)=decide (x≤y):=by
    rw [Bool.eq_iff_iff,decide_eq_true_eq,decide_eq_true_eq];unfold Jg;split<;>(try split)<;>omega
  refine bb (ai (a:=Jg x y) ?_ (by show some (Sum.inr (kL.r0 (decide (Jg x y≤0))))=_;rw [ev]))
  unfold NY
  rw [aw,aw,axf hx hy]
  exact aB (aB (aj rfl))
theorem atz{v n:Nat}(hn:n≤1000000) :wc (aA v n) (aA v n)=some (.r0 true):=by
  refine bb (ai (a:=()) (cV (by simp) rfl) (ai (a:=()) (bL (fun i=>i) n rfl (fun j hj=>?_) ?_) rfl))
  · show (Ft _ _ _).run=_
    unfold Ft
    rw [aq]
    exact bT (ap (ap (ap (ap (cV (by simp) (ap rfl))))))
  · exact cV (by rw [aq];exact (by simp only [cM,Ao,Bt,oq,o6,hJ,o7,o8,decide_eq_true_eq,decide_eq_false_iff_not,beq_iff_eq,beq_eq_false_iff_ne,bne_iff_ne,bne_eq_false_iff_eq,Bool.not_eq_true',Bool.not_eq_false',List.length_set,ne_eq,ge_iff_le,gt_iff_lt,lG,ch,wZ];omega)) rfl
theorem ahM(s:Bool){v n:Nat}(e:Int)(hn:n≤1000000) :pk s (aA v n) e s (aA v n) e=some (.r0 true):=by
  refine bb (ai (a:=true) ?_ rfl)
  unfold Nt
  rw [aw,atz hn]
  refine jh (by cases s<;>rfl) (aB (aB (aj (aZ ?_))))
  show some (Sum.inl (e==e))=_
  rw [beq_self_eq_true]
theorem u6{l:List Nat}(hw:Wd l)(hf:Fn l)(hn:l.length≤1000000) :
    aE l=some (.r0 l.length (mW (gz l) l.length) (m5 (gz l) l.length) (m6 (gz l) (-1074) l.length)):=by
  have hn':∀ n,l.length=n→n≤1000000:=fun n h=>by omega
  generalize hL:l.length=n at *
  have hn:=hn' n rfl
  refine bb (ai (a:=(r9 (fun i=>nS (gz l i)) false 0 n,r9 (fun i=>YX (gz l i)) [] 0 n,r9 (fun i=>nE (gz l i) (-1074)) 0 0 n)) ?_ (ai (a:=(mW (gz l) n,m5 (gz l) n,m6 (gz l) (-1074) n)) (bL (fun j=>(j,r9 (fun i=>nS (gz l i)) false j n,r9 (fun i=>YX (gz l i)) [] j n,r9 (fun i=>nE (gz l i) (-1074)) 0 j n)) n rfl (fun j hj=>?_) ?_) (by rw [←hL];rfl)))
  · unfold Ni
    rw [hL,←Be,←Be,←Be]
    exact ap (ap (ap (ap rfl)))
  · show aC (v8 _ _ _ _ _).run _=_
    refine ai (a:=(r9 (fun i=>nS (gz l i)) false (j+1) n,r9 (fun i=>YX (gz l i)) [] (j+1) n,r9 (fun i=>nE (gz l i) (-1074)) 0 (j+1) n)) ?_ (ap rfl)
    obtain ⟨N,h1,h2,h3⟩:=au6 (hw j) (hf j (by omega))
    unfold v8
    rw [h1,F3,F3,F3,hL]
    simp only [BG,AL,vH,vI,vJ,AM]
    rw [List.drop_zero,Gr h2]
    refine bT (ap (ap (aj (ap (ap (ap (bW (decide_eq_true (by rw [aq];omega)) (ap ?_))))))))
    rw [←Bf hj,←Bf hj,←Bf hj];rfl
  · show aC (v8 _ _ _ _ _).run _=_
    refine bk (cV (by rw [hL];exact (by simp only [cM,Ao,Bt,oq,o6,hJ,o7,o8,decide_eq_true_eq,decide_eq_false_iff_not,beq_iff_eq,beq_eq_false_iff_ne,bne_iff_ne,bne_eq_false_iff_eq,Bool.not_eq_true',Bool.not_eq_false',List.length_set,ne_eq,ge_iff_le,gt_iff_lt,lG,ch,wZ];omega)) ?_)
    rw [F4,F4,F4];rfl
theorem L5{g:Nat→Int}{e:Int}{n from' far many:Nat}(h:∀ i,i<many→from'+i*far<n)(hn:n≤1000000)(hm:many≤1000000)(hfar:far≤1000)(hfr:from'≤1000000) :
    ak n (mW g n) (m5 g n) (m6 g e n) (from':Int) (far:Int) (many:Int)=some (.r0 many (mW (fun i=>g (from'+i*far)) many) (m5 (fun i=>g (from'+i*far)) many) (m6 (fun i=>g (from'+i*far)) e many)):=by
  refine bb (ai (a:=(many,many,r9 (fun i=>nS (g (from'+i*far))) false 0 many,r9 (fun i=>YX (g (from'+i*far))) [] 0 many,r9 (fun i=>nE (g (from'+i*far)) e) 0 0 many)) ?_ (ai (a:=(mW (fun i=>g (from'+i*far)) many,m5 (fun i=>g (from'+i*far)) many,m6 (fun i=>g (from'+i*far)) e many)) (bL (fun j=>(j,r9 (fun i=>nS (g (from'+i*far))) false j many,r9 (fun i=>YX (g (from'+i*far))) [] j many,r9 (fun i=>nE (g (from'+i*far)) e) 0 j many)) many rfl (fun j hj=>?_) ?_) rfl))
  · unfold RX
    rw [ch,←Be,←Be,←Be]
    exact ap (ap (ap (ap rfl)))
  · have hi:=h j hj
    have e1:((j:Nat):Int)*(far:Int)=((j*far:Nat):Int):=by rw [Int.natCast_mul]
    have e2:(from':Int)+((j*far:Nat):Int)=((from'+j*far:Nat):Int):=by rw [Int.natCast_add]
    show (A0 _ _ _ _ _ _ _ _ _ _ _ _).run=_
    unfold A0
    rw [e1,e2,ch,F5,F6,F7,F3,F3,F3,QG hi,QH hi,QI hi,List.drop_zero,List.take_length]
    refine bT (ap (ap (ap (ap (ap (ap (ap (ap (ap (bW (by rw [decide_eq_true_eq];omega) (ap (ap ?_))))))))))))
    rw [←Bf hj,←Bf hj,←Bf hj];rfl
  · show (A0 _ _ _ _ _ _ _ _ _ _ _ _).run=_
    refine ct ?_
    rw [F4,F4,F4];rfl
theorem acs{g h:Nat→Int}{e f:Int}{n k:Nat}(hg:∀ i,i<n→Sm (g i) e)(hh:∀ i,i<n→Sm (h i) f)(hk:∀ i,i<n→nl (g i*h i).natAbs≤k)(hk2:k≤200)(hn:n≤1000000)(he : -30000≤e+f∧e+f≤30000) :
    ∃ N,dw n (mW g n) (m5 g n) (m6 g e n) n (mW h n) (m5 h n) (m6 h f n)=some (.r0 0 (nS (cH (fun i=>g i*h i) n)) (aA (nM (cH (fun i=>g i*h i) n)) N) 0 (nl (nM (cH (fun i=>g i*h i) n))) (nE (cH (fun i=>g i*h i) n) (e+f)))∧nl (nM (cH (fun i=>g i*h i) n))≤N∧N≤4096:=by
  have hS:∀ j,j≤n→Sm (cH (fun i=>g i*h i) j) (e+f):=fun j hj=>hZ (G8 (fun i hi=>hk i (by omega)) (by omega)) (by omega) he
  have hp:∀ j,j<n→Sm (g j*h j) (e+f):=fun j hj=>hZ (hk j hj) (by omega) he
  have loop:∃ y,dh (AZ n (mW g n) (m5 g n) (m6 g e n) n (mW h n) (m5 h n) (m6 h f n)) (0,0,false,([]:List Int),0,0,(0:Int))=some y ∧
      ∃ N,y=.inl (0,nS (cH (fun i=>g i*h i) n),aA (nM (cH (fun i=>g i*h i) n)) N,0,nl (nM (cH (fun i=>g i*h i) n)),nE (cH (fun i=>g i*h i) n) (e+f))∧nl (nM (cH (fun i=>g i*h i) n))≤N∧N≤4096:=by
    refine ap9 (fun j s=>∃ N,s=(0,j,nS (cH (fun i=>g i*h i) j),aA (nM (cH (fun i=>g i*h i) j)) N,0,nl (nM (cH (fun i=>g i*h i) j)),nE (cH (fun i=>g i*h i) j) (e+f))∧nl (nM (cH (fun i=>g i*h i) j))≤N∧N≤4096) n ?_ (fun j s hj hs=>?_) (fun s hs=>?_)
    · refine ⟨0,?_,?_,by omega⟩
      · show _=(0,0,nS 0,aA (nM 0) 0,0,nl (nM 0),nE 0 (e+f))
        rw [jl,eS,fi];rfl
      · show nl (nM 0)≤0
        rw [jl,eS];exact Nat.le_refl _
    · obtain ⟨N,rfl,hN1,hN2⟩:=hs
      obtain ⟨M,m1,m2,m3⟩:=L0 (hg j hj) (hh j hj)
      obtain ⟨A,a1,a2,a3⟩:=atf (hS j (by omega)) (hp j hj)
      refine ⟨_,?_,A,rfl,a2,a3⟩
      show aC (Ig _ _ _ _ _ _ _ _ _ _ _ _ _ _ _).run _=_
      refine ai (a:=(0,nS (cH (fun i=>g i*h i) j+g j*h j),aA (nM (cH (fun i=>g i*h i) j+g j*h j)) A,0,nl (nM (cH (fun i=>g i*h i) j+g j*h j)),nE (cH (fun i=>g i*h i) j+g j*h j) (e+f))) ?_ (ap rfl)
      unfold Ig
      have m1':aD (nS (g j)) (YX (g j)) (nE (g j) e) (nS (h j)) (YX (h j)) (nE (h j) f)=_:=m1
      rw [F5,F6,F7,F5,F6,F7,QG hj,QH hj,QI hj,QG hj,QH hj,QI hj,aw,aw,m1']
      simp only [oS,l5,cZ,cO,cP,cQ,c4]
      rw [bM hN1,bM m2,a1]
      exact bT (ap (ap (ap (ap (ap (ap (ap (ap (aB (aB (aj (aI (bW (aX hN1) (bW (aX m2) (aj (aI rfl))))))))))))))))
    · obtain ⟨N,rfl,hN1,hN2⟩:=hs
      exact ⟨_,bk (ct rfl),N,rfl,hN1,hN2⟩
  obtain ⟨y,l1,N,rfl,l2,l3⟩:=loop
  exact ⟨N,bb (ai (a:=false) rfl (ai (a:=false) (cV (by simp) rfl) (ai l1 (aI rfl)))),l2,l3⟩
theorem IR{g:Nat→Int}{e:Int}{n k:Nat}(hg:∀ i,i<n→nl (g i).natAbs≤k)(hk2:k≤100)(hn:n≤1000000)(he : -10000≤e∧e≤10000) :
    ∃ N,bZ n (mW g n) (m5 g n) (m6 g e n)=some (.r0 0 (nS (cH (fun i=>g i*g i) n)) (aA (nM (cH (fun i=>g i*g i) n)) N) 0 (nl (nM (cH (fun i=>g i*g i) n))) (nE (cH (fun i=>g i*g i) n) (e+e)))∧nl (nM (cH (fun i=>g i*g i) n))≤N∧N≤4096:=by
  obtain ⟨N,h1,h2,h3⟩:=acs (g:=g) (h:=g) (e:=e) (f:=e) (n:=n) (k:=k+k) (fun i hi=>hZ (hg i hi) (by omega) (by omega)) (fun i hi=>hZ (hg i hi) (by omega) (by omega)) (fun i hi=>lJ (hg i hi) (hg i hi)) (by omega) hn (by omega)
  refine ⟨N,bb (ai (a:=(0,nS (cH (fun i=>g i*g i) n),aA (nM (cH (fun i=>g i*g i) n)) N,0,nl (nM (cH (fun i=>g i*g i) n)),nE (cH (fun i=>g i*g i) n) (e+e))) ?_ rfl),h2,h3⟩
  unfold I1
  rw [ia,ib,ic,h1]
  exact qz (qz (aj rfl))
def Gt(r c:Int)(n:Nat) :Bool:=decide (0≤r∧r≤512∧0≤c∧c≤512∧(n:Int)=r*c)
theorem alR{r c:Int}{n:Nat} :Gt r c n=true↔0≤r∧r≤512∧0≤c∧c≤512∧(n:Int)=r*c:=decide_eq_true_iff
theorem arB{r c:Int}(h1:0≤r)(h2:r≤512)(h3:0≤c)(h4:c≤512) :0≤r*c∧r*c≤262144:=by
  refine ⟨Int.mul_nonneg h1 h3,?_⟩
  have:r*c≤512*512:=Int.mul_le_mul h2 h4 h3 (by decide)
  omega
theorem X0{r c:Int}{n:Nat}(h:Gt r c n=true) :∃ p q:Nat,r=(p:Int)∧c=(q:Int)∧p≤512∧q≤512∧n=p*q∧n≤262144:=by
  obtain ⟨h1,h2,h3,h4,h5⟩:=alR.1 h
  have hb:=arB h1 h2 h3 h4
  refine ⟨r.toNat,c.toNat,by omega,by omega,by omega,by omega,?_,by omega⟩
  have e1:r=((r.toNat:Nat):Int):=by omega
  have e2:c=((c.toNat:Nat):Int):=by omega
  rw [e1,e2,←Int.natCast_mul] at h5
  have:=Int.ofNat_inj.1 h5
  simpa using this
theorem oQ(r c:Int)(l:List Nat) :cu r c l=some (.r0 (!(Gt r c l.length))):=by
  refine bb (ai (a:=!(Gt r c l.length)) ?_ rfl)
  unfold Ng
  by_cases h1:r<0
  · have:Gt r c l.length=false:=by unfold Gt;rw [decide_eq_false_iff_not];omega
    rw [this];exact jh (decide_eq_true h1) rfl
  by_cases h2:r>512
  · have:Gt r c l.length=false:=by unfold Gt;rw [decide_eq_false_iff_not];omega
    rw [this];exact cV (decide_eq_false h1) (jh (decide_eq_true h2) rfl)
  by_cases h3:c<0
  · have:Gt r c l.length=false:=by unfold Gt;rw [decide_eq_false_iff_not];omega
    rw [this];exact cV (decide_eq_false h1) (cV (decide_eq_false h2) (jh (decide_eq_true h3) rfl))
  by_cases h4:c>512
  · have:Gt r c l.length=false:=by unfold Gt;rw [decide_eq_false_iff_not];omega
    rw [this];exact cV (decide_eq_false h1) (cV (decide_eq_false h2) (cV (decide_eq_false h3) (jh (decide_eq_true h4) rfl)))
  have hb:=arB (by omega:0≤r) (by omega:r≤512) (by omega:0≤c) (by omega:c≤512)
  refine cV (decide_eq_false h1) (cV (decide_eq_false h2) (cV (decide_eq_false h3) (cV (decide_eq_false h4) (bW (by rw [cM];omega) ?_))))
  show some (Sum.inl (((l.length:Nat):Int) != r*c))=_
  congr 2
  unfold Gt
  by_cases h5:((l.length:Nat):Int)=r*c
  · rw [decide_eq_true ⟨by omega,by omega,by omega,by omega,h5⟩,h5];simp
  · rw [decide_eq_false (by omega),bne_iff_ne.2 h5];rfl
theorem PR(r c:Int)(l:List Nat) :nX r c l=some (.r0 (Gt r c l.length)):=by
  refine bb (ai (a:=Gt r c l.length) ?_ rfl)
  unfold Sk
  by_cases h1:r≥0
  · by_cases h2:r≤512
    · by_cases h3:c≥0
      · by_cases h4:c≤512
        · have hb:=arB h1 h2 h3 h4
          refine jh (decide_eq_true h1) (jh (decide_eq_true h2) (jh (decide_eq_true h3) (jh (decide_eq_true h4) (bW (by rw [cM];omega) ?_))))
          show some (Sum.inl (((l.length:Nat):Int)==r*c))=_
          congr 2
          unfold Gt
          by_cases h5:((l.length:Nat):Int)=r*c
          · rw [decide_eq_true ⟨by omega,by omega,by omega,by omega,h5⟩,beq_iff_eq.2 h5]
          · rw [decide_eq_false (by omega),beq_eq_false_iff_ne.2 h5]
        · have:Gt r c l.length=false:=by unfold Gt;rw [decide_eq_false_iff_not];omega
          rw [this];exact jh (decide_eq_true h1) (jh (decide_eq_true h2) (jh (decide_eq_true h3) (cV (decide_eq_false h4) rfl)))
      · have:Gt r c l.length=false:=by unfold Gt;rw [decide_eq_false_iff_not];omega
        rw [this];exact jh (decide_eq_true h1) (jh (decide_eq_true h2) (cV (decide_eq_false h3) rfl))
    · have:Gt r c l.length=false:=by unfold Gt;rw [decide_eq_false_iff_not];omega
      rw [this];exact jh (decide_eq_true h1) (cV (decide_eq_false h2) rfl)
  · have:Gt r c l.length=false:=by unfold Gt;rw [decide_eq_false_iff_not];omega
    rw [this];exact cV (decide_eq_false h1) rfl
noncomputable def Jh(l:List Nat) :Bool:=@decide (Fn l) (Classical.propDecidable _)
theorem hH{l:List Nat} :Jh l=true↔Fn l:=@decide_eq_true_iff _ (Classical.propDecidable _)
theorem act{l:List Nat} :Jh l=false↔¬ Fn l:=@decide_eq_false_iff_not _ (Classical.propDecidable _)
theorem CT{l:List Nat}(hw:Wd l)(hn:l.length≤1000000000) :∃ k:Int,au l=some (.r0 k)∧decide (k≥0) = !(Jh l):=by
  have step:∀ j,j<l.length→vv (l.getD j 0)=true→dL l j=some (.inl (j+1)):=by
    intro j hj hf
    show (dc _ _).run=_
    unfold dc
    exact bT (ap (ap (cV (aiB (hw j) hf) (aZ (cV (avA (hw j) hf) (ap rfl))))))
  by_cases h:Fn l
  · refine ⟨-1,bb (ai (a:=()) rfl (ai (a:=()) (bL (fun j=>j) l.length rfl (fun j hj=>step j hj (h j hj)) (ct rfl)) rfl)),?_⟩
    rw [hH.2 h];rfl
  · obtain ⟨k,hk,hb,hf⟩:=uR (p:=fun i=>vv (l.getD i 0)=true) h
    have hbf:vv (l.getD k 0)=false:=by cases q:vv (l.getD k 0) with | true=>exact absurd q hb | false=>rfl
    refine ⟨(k:Int),bb (ai (a:=()) rfl (bk (bL (fun j=>j) k rfl (fun j hj=>step j (by omega) (hf j hj)) ?_))),?_⟩
    · show (dc _ _).run=_
      unfold dc
      refine bT (ap (ap ?_))
      rcases ag5 (hw k) hbf with q | ⟨q1,q2,q3⟩
      · exact jh (asi q) rfl
      · exact cV q3 (aZ (jh (avB (hw k) q2) rfl))
    · rw [act.2 h,decide_eq_true (by omega)];rfl
theorem L6{l:List Nat}(hw:Wd l)(hn:l.length≤1000000000) :gh l=some (.r0 (Jh l)):=by
  have step:∀ j,j<l.length→vv (l.getD j 0)=true→rT l j=some (.inl (j+1)):=by
    intro j hj hf
    show (pW _ _).run=_
    unfold pW
    exact bT (ap (ap (ap (ap (cV (by rw [amT (hw j),hf];rfl) (ap rfl))))))
  by_cases h:Fn l
  · rw [hH.2 h]
    exact bb (ai (a:=()) rfl (ai (a:=()) (bL (fun j=>j) l.length rfl (fun j hj=>step j hj (h j hj)) (ct rfl)) rfl))
  · obtain ⟨k,hk,hb,hf⟩:=uR (p:=fun i=>vv (l.getD i 0)=true) h
    have hbf:vv (l.getD k 0)=false:=by cases q:vv (l.getD k 0) with | true=>exact absurd q hb | false=>rfl
    rw [act.2 h]
    refine bb (ai (a:=()) rfl (bk (bL (fun j=>j) k rfl (fun j hj=>step j (by omega) (hf j hj)) ?_)))
    show (pW _ _).run=_
    unfold pW
    exact bT (ap (ap (ap (ap (jh (by rw [amT (hw k),hbf];rfl) rfl)))))
def DS(l:List Nat) :Int:=cH (fun i=>gz l i*gz l i) l.length
theorem arC{l:List Nat}(hw:Wd l)(hf:Fn l)(hn:l.length≤1000000) :nl (DS l).natAbs≤67 :=
  G8 (fun i hi=>lJ (sa hw hf hi) (sa hw hf hi)) hn
theorem Uz{r c:Int}{l:List Nat}(hw:Wd l)(h:Gt r c l.length=true)(hf:Jh l=true) :
    ∃ N,cY r c l=some (.r0 0 (nS (DS l)) (aA (nM (DS l)) N) 0 (nl (nM (DS l))) (nE (DS l) (-2148)))∧nl (nM (DS l))≤N∧N≤4096:=by
  obtain ⟨_,_,_,_,_,_,_,hn⟩:=X0 h
  obtain ⟨k,k1,k2⟩:=CT hw (by omega)
  have hF:=hH.1 hf
  obtain ⟨N,h1,h2,h3⟩:=IR (g:=gz l) (e:=-1074) (n:=l.length) (k:=33) (fun i hi=>sa hw hF hi) (by omega) (by omega) (by omega)
  refine ⟨N,bb (ai (a:=false) ?_ (ai (a:=(0,nS (DS l),aA (nM (DS l)) N,0,nl (nM (DS l)),nE (DS l) (-2148))) ?_ rfl)),h2,h3⟩
  · unfold RV
    rw [aw,oQ,h,k1]
    exact aZ (aj (aB (aj (aI (aj (aI (aI (aZ (aj (aB (aj (cV (by rw [hf] at k2;exact k2) (aj (aI rfl))))))))))))))
  · unfold RW
    rw [aw,u6 hw hF (by omega)]
    simp only [jj,bg,dq,dr,dt]
    rw [ia,ib,ic,h1]
    exact aB (aj (qz (aj rfl)))
theorem arD{l:List Nat}(hw:Wd l)(hf:Fn l)(hn:l.length≤1000000) :
    cr l=some (.r0 (nS (DS l)) (aA (nM (DS l)) (nl (nM (DS l)))) (nl (nM (DS l))) (nE (DS l) (-2148))):=by
  have hS:∀ j,j≤l.length→Sm (cH (fun i=>gz l i*gz l i) j) (-2148):=fun j hj=>hZ (k:=67) (G8 (fun i hi=>lJ (sa hw hf (by omega)) (sa hw hf (by omega))) (by omega)) (by omega) (by omega)
  have h0:=zm (n:=0) (by omega)
  refine bb (ai (a:=(false,nS 0,aA (nM 0) (nl (nM 0)),nl (nM 0),nE 0 (-2148))) ?_ (ai (a:=()) rfl (ai (a:=(nS (DS l),aA (nM (DS l)) (nl (nM (DS l))),nl (nM (DS l)),nE (DS l) (-2148))) (bL (fun j=>(j,nS (cH (fun i=>gz l i*gz l i) j),aA (nM (cH (fun i=>gz l i*gz l i) j)) (nl (nM (cH (fun i=>gz l i*gz l i) j))),nl (nM (cH (fun i=>gz l i*gz l i) j)),nE (cH (fun i=>gz l i*gz l i) j) (-2148))) l.length rfl (fun j hj=>?_) ?_) rfl)))
  · unfold Le
    have h0':aF 0=_:=h0
    rw [h0']
    refine aj ?_
    show some (Sum.inl (false,nS ((0:Nat):Int),aA (nM ((0:Nat):Int)) (nl (nM ((0:Nat):Int))),nl (nM ((0:Nat):Int)),nE ((0:Nat):Int) 0))=_
    rw [show ((0:Nat):Int)=0 from rfl,fi,fi]
  · have hx:=F8 hw hf hj
    have hp:Sm (gz l j*gz l j) (-1074 + -1074):=hZ (lJ (sa hw hf hj) (sa hw hf hj)) (by omega) (by omega)
    have t1:=rn hx hx
    have t2:=Lt (hS j (by omega)) (y:=gz l j*gz l j) (e:=-2148) hp
    show aC (wk _ _ _ _ _ _).run _=_
    refine ai (a:=(nS (cH (fun i=>gz l i*gz l i) (j+1)),aA (nM (cH (fun i=>gz l i*gz l i) (j+1))) (nl (nM (cH (fun i=>gz l i*gz l i) (j+1)))),nl (nM (cH (fun i=>gz l i*gz l i) (j+1))),nE (cH (fun i=>gz l i*gz l i) (j+1)) (-2148))) ?_ (ap rfl)
    unfold wk
    have ex:aa (l.getD j 0)=_:=uN (hw j) (hf j hj)
    rw [ex]
    simp only [d4,ag,ac,ae,ah]
    have t1':am (nS (fz (l.getD j 0))) (aA (nM (fz (l.getD j 0))) (nl (nM (fz (l.getD j 0))))) (nE (fz (l.getD j 0)) (-1074)) (nS (fz (l.getD j 0))) (aA (nM (fz (l.getD j 0))) (nl (nM (fz (l.getD j 0))))) (nE (fz (l.getD j 0)) (-1074))=_:=t1
    rw [bf aq,t1']
    simp only [c8,aT,aJ,aK,aU]
    have t2':bR (nS (cH (fun i=>gz l i*gz l i) j)) (aA (nM (cH (fun i=>gz l i*gz l i) j)) (nl (nM (cH (fun i=>gz l i*gz l i) j)))) (nE (cH (fun i=>gz l i*gz l i) j) (-2148)) (nS (gz l j*gz l j)) (aA (nM (gz l j*gz l j)) (nl (nM (gz l j*gz l j)))) (nE (gz l j*gz l j) (-1074 + -1074))=_:=t2
    rw [bf aq,bf aq,t2']
    exact bT (ap (ap (aj (bH (bH (aj (bH (bH (aj rfl)))))))))
  · show aC (wk _ _ _ _ _ _).run _=_
    exact bk (ct rfl)
def bF(m n:Nat) :Nat:=64*max m 1*max n 1
def bI(m n:Nat) :Int:=(bF m n:Int)*(bF m n:Int)
theorem ava{m n:Nat}(hm:m≤512)(hn:n≤512) :bF m n≤16777216:=by
  unfold bF
  have h1:max m 1≤512:=by omega
  have h2:max n 1≤512:=by omega
  have:max m 1*max n 1≤512*512:=Nat.mul_le_mul h1 h2
  rw [Nat.mul_assoc];omega
theorem awd{m n:Nat}(hm:m≤512)(hn:n≤512) :nl (bF m n)≤1:=by
  have:=ava hm hn
  exact i6 (by rw [Nat.pow_one];exact Nat.lt_of_le_of_lt this (by decide))
theorem ao7{m n:Nat}(hm:m≤512)(hn:n≤512) :nl (bI m n).natAbs≤2:=by
  have h:=awd hm hn
  exact lJ (a:=1) (b:=1) (by rw [Int.natAbs_natCast];exact h) (by rw [Int.natAbs_natCast];exact h)
theorem asw{m n:Nat}(hm:m≤512)(hn:n≤512) :Sm (bF m n:Int) 0:=hZ (k:=1) (by rw [Int.natAbs_natCast];exact awd hm hn) (by omega) (by omega)
theorem ao8(m:Nat) :mr (m:Int) 1=((max m 1:Nat):Int):=by
  by_cases h:m≤1
  · rw [XZ (by omega),Nat.max_eq_right h];rfl
  · rw [asr (by omega),Nat.max_eq_left (by omega)]
theorem avb(m n:Nat) :((64:Int)*((max m 1:Nat):Int))*((max n 1:Nat):Int)=((bF m n:Nat):Int):=by
  unfold bF;rw [Int.natCast_mul,Int.natCast_mul];rfl
theorem PS{m n:Nat}(hm:m≤512)(hn:n≤512) :
    ∃ N,cv (m:Int) (n:Int)=some (.r0 0 (nS (bI m n)) (aA (nM (bI m n)) N) 0 (nl (nM (bI m n))) (nE (bI m n) (-106)))∧nl (nM (bI m n))≤N∧N≤4096:=by
  have hb:=ava hm hn
  obtain ⟨A,a1,a2,a3⟩:=DO (n:=bF m n) (by omega)
  obtain ⟨B,b1,b2,b3⟩:=L0 (asw hm hn) (asw hm hn)
  have b2:nl (nM (bI m n))≤B:=b2
  have hB:Sm (bI m n) (0+0):=hZ (ao7 hm hn) (by omega) (by omega)
  obtain ⟨C,c1,c2,c3⟩:=aoY (k:=-106) hB (by omega)
  have hmx:max m 1≤512:=by omega
  refine ⟨C,bb (ai (a:=(false,false)) ?_ (ai (a:=(nS (bF m n:Int),aA (nM (bF m n:Int)) A,0,nl (nM (bF m n:Int)),nE (bF m n:Int) 0)) ?_ (ai (a:=(0,nS (bI m n),aA (nM (bI m n)) B,0,nl (nM (bI m n)),nE (bI m n) (0+0))) ?_ (ai (a:=(0,nS (bI m n),aA (nM (bI m n)) C,0,nl (nM (bI m n)),nE (bI m n) (-106))) ?_ rfl)))),c2,c3⟩
  · unfold Nh
    refine cV (by rw [decide_eq_false_iff_not];omega) (cV (by rw [decide_eq_false_iff_not];omega) (cV (by rw [decide_eq_false_iff_not];omega) ?_))
    show some (Sum.inl (decide ((n:Int)>512),false))=_
    rw [decide_eq_false (by omega)]
  · show (Fe _ _ _).run=_
    unfold Fe
    rw [ao8,ao8,avb,a1]
    exact aI (bW (by rw [cM];omega) (bW (by rw [cM];omega) (aj rfl)))
  · show (Ff _ _ _ _ _).run=_
    unfold Ff
    rw [bM a2,b1]
    exact bW (aX a2) (bW (aX a2) (aj rfl))
  · show (Fg _ _ _ _ _ _).run=_
    unfold Fg
    rw [bM b2,c1]
    exact aI (bW (aX b2) (aj rfl))
theorem ao9{m n:Nat}(hm:m≤512)(hn:n≤512) :
    md (m:Int) (n:Int)=some (.r0 (nS (bI m n)) (aA (nM (bI m n)) (nl (nM (bI m n)))) (nl (nM (bI m n))) (nE (bI m n) (-106))):=by
  have hb:=ava hm hn
  have a1:=zm (n:=bF m n) (by omega)
  have b1:=rn (asw hm hn) (asw hm hn)
  have hB:Sm (bI m n) (0+0):=hZ (ao7 hm hn) (by omega) (by omega)
  have c1:=avO (k:=-106) hB (by omega)
  have hmx:max m 1≤512:=by omega
  have one:∀ k:Nat,(if k=0 then (1:Int) else (k:Int))=((max k 1:Nat):Int):=fun k=>by split<;>omega
  refine bb (ai (a:=(((max m 1:Nat):Int),false)) ?_ (ai (a:=((max n 1:Nat):Int)) ?_ (ai (a:=(nS (bF m n:Int),aA (nM (bF m n:Int)) (nl (nM (bF m n:Int))),nl (nM (bF m n:Int)),nE (bF m n:Int) 0)) ?_ (ai (a:=(nS (bI m n),aA (nM (bI m n)) (nl (nM (bI m n))),nl (nM (bI m n)),nE (bI m n) (-106))) ?_ rfl))))
  · unfold K6
    by_cases h:m=0
    · subst h;exact aZ rfl
    · rw [←one m,if_neg h];exact cV (by rw [beq_eq_false_iff_ne];omega) rfl
  · show (Ci _).run=_
    unfold Ci
    by_cases h:n=0
    · subst h;exact aZ rfl
    · rw [←one n,if_neg h];exact cV (by rw [beq_eq_false_iff_ne];omega) rfl
  · show (Cj _ _).run=_
    unfold Cj
    rw [avb,a1]
    exact bW (by rw [cM];omega) (bW (by rw [cM];omega) (aj rfl))
  · show (Ck _ _ _ _).run=_
    unfold Ck
    rw [bf aq,b1]
    simp only [c8,aT,aJ,aK,aU]
    have c1':kH (nS ((bF m n:Int)*(bF m n:Int))) (aA (nM ((bF m n:Int)*(bF m n:Int))) (nl (nM ((bF m n:Int)*(bF m n:Int))))) (nE ((bF m n:Int)*(bF m n:Int)) (0+0)) (-106)=_:=c1
    rw [bf aq,c1']
    exact bH (bH (aj (bH (aj rfl))))
end Go.Plb.Seat
