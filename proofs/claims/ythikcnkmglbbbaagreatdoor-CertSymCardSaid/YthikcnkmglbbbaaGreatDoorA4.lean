/-
  Part 4 of what the claim leans on: an evaluator of the model, proved sound; the contracts of the functions.
-/
import Derived.Test.YthikcnkmglbbbaaGreatDoorA3
namespace Go.Plb.Seat
open Go Go.Plb
set_option linter.unusedVariables false
set_option maxRecDepth 100000
noncomputable section
inductive e9 where
  | r0 (a:Nat) (b:Bool) (c:List Int) (d:Nat) (e:Nat) (f:Int)
def Gj:e9→AE×aQ
  | .r0 a b c d e f=>(.ret,⟨ao 51 [(4,.ptr 0 1 0 0),(5,.int .i64 ((a:Nat):Int))],[(0,.vs [.bool false b,.imm .free (.ns .u64 c) 1 1 d e,.int .i64 f])],1⟩)
theorem tu:jC Gj:=by intro x;cases x <;> (intro h;cases h)
theorem akF(id:Nat) :m5 id Gj:=by intro x;cases x <;> (intro h;cases h)
def MU:e9→gX
  | .r0 a b c d e f=>⟨.tup [.agg [.bool false b,.imm .free (.ns .u64 c) 1 1 d e,.int .i64 f],.int .i64 ((a:Nat):Int)],[]⟩
def Gk:List Code:=cP (nO EV)
def akG(c:Lv)(a:Nat)(d:List Bool)(e:List (List Int))(f:List Int)(g:Lv)(b:Nat)(h:List Bool)(i:List (List Int))(j:List Int)(k:Bool) :aQ:=⟨ao 51 [(0,.imm c (.cols a [.cb d,.cns .u64 e,.ci .i64 f]) 3 3 0 a),(1,.imm g (.cols b [.cb h,.cns .u64 i,.ci .i64 j]) 3 3 0 b),(4,.ptr 0 1 0 0)],[(0,.vs [.bool false k,.nsl,.int .i64 (0:Int)])],1⟩
def ahc:T ((Bool)⊕(e9)) :=
  .leaf (.inl false)
def ahd:List Code:=cP (JN (((Gk.drop 1)).headD .skip))
def akH(c:Lv)(a:Nat)(d:List Bool)(e:List (List Int))(f:List Int)(g:Lv)(b:Nat)(h:List Bool)(i:List (List Int))(j:List Int)(k:Bool)(l:Bool) :aQ:=⟨ao 51 [(0,.imm c (.cols a [.cb d,.cns .u64 e,.ci .i64 f]) 3 3 0 a),(1,.imm g (.cols b [.cb h,.cns .u64 i,.ci .i64 j]) 3 3 0 b),(4,.ptr 0 1 0 0),(6,.ptr 1 1 0 0),(7,.int .i64 (0:Int)),(18,.int .i64 ((a:Nat):Int)),(19,.int .i64 (0:Int))],[(0,.vs [.bool false k,.nsl,.int .i64 (0:Int)]),(1,.vs [.bool false l,.nsl,.int .i64 (0:Int)])],2⟩
def ahe(a:Nat)(b:Nat) :T ((Bool)⊕(e9)) :=
  .ask (((a:Nat):Int) != ((b:Nat):Int))
    (.leaf (.inr (.r0 2 false ([]:List Int) 0 0 (0:Int))))
    (.leaf (.inl false))
def IQ(c:Lv)(a:Nat)(d:List Bool)(e:List (List Int))(f:List Int)(g:Lv)(b:Nat)(h:List Bool)(i:List (List Int))(j:List Int)(k:Bool) :Nat×Nat×Bool×(List Int)×Nat×Nat×Int→aQ:=fun (l,m,n,o,p,q,r)=>⟨ao 51 [(0,.imm c (.cols a [.cb d,.cns .u64 e,.ci .i64 f]) 3 3 0 a),(1,.imm g (.cols b [.cb h,.cns .u64 i,.ci .i64 j]) 3 3 0 b),(4,.ptr 0 1 0 0),(6,.ptr 1 1 0 0),(7,.int .i64 ((l:Nat):Int)),(18,.int .i64 ((a:Nat):Int)),(19,.int .i64 ((m:Nat):Int))],[(0,.vs [.bool false k,.nsl,.int .i64 (0:Int)]),(1,.vs [.bool false n,.imm .free (.ns .u64 o) 1 1 p q,.int .i64 r])],2⟩
def Pw(a:Bool) :Nat×Bool×(List Int)×Nat×Nat×Int→aQ:=fun (b,c,d,e,f,g)=>⟨ao 51 [(4,.ptr 0 1 0 0),(6,.ptr 1 1 0 0),(7,.int .i64 ((b:Nat):Int))],[(0,.vs [.bool false a,.nsl,.int .i64 (0:Int)]),(1,.vs [.bool false c,.imm .free (.ns .u64 d) 1 1 e f,.int .i64 g])],2⟩
def ahf:List Code:=cP (dD ((((ahd.drop 5).take 1)).headD .skip))
def ahg(c:Lv)(a:Nat)(d:List Bool)(e:List (List Int))(f:List Int)(g:Lv)(b:Nat)(h:List Bool)(i:List (List Int))(j:List Int)(k:Bool)(l:Nat) :Nat×Bool×(List Int)×Nat×Nat×Int→aQ:=fun (m,n,o,p,q,r)=>⟨ao 51 [(0,.imm c (.cols a [.cb d,.cns .u64 e,.ci .i64 f]) 3 3 0 a),(1,.imm g (.cols b [.cb h,.cns .u64 i,.ci .i64 j]) 3 3 0 b),(4,.ptr 0 1 0 0),(6,.ptr 1 1 0 0),(7,.int .i64 ((m:Nat):Int)),(18,.int .i64 ((a:Nat):Int)),(19,.int .i64 ((l:Nat):Int))],[(0,.vs [.bool false k,.nsl,.int .i64 (0:Int)]),(1,.vs [.bool false n,.imm .free (.ns .u64 o) 1 1 p q,.int .i64 r])],2⟩
def Gl(m:Nat)(d:List Bool)(b:List (List Int))(e:List Int)(n:Nat)(f:List Bool)(c:List (List Int))(g:List Int)(o:Nat)(a:Nat)(k:Bool)(h:List Int)(i:Nat)(j:Nat)(l:Int) :T ((Nat×Bool×(List Int)×Nat×Nat×Int)⊕((Nat×Bool×(List Int)×Nat×Nat×Int)⊕(e9))) :=
  .ask (decide (((a:Nat):Int) < ((m:Nat):Int)))
    (.need (gD ((a:Nat):Int) m)<|.need (im a (List.length d))<|.need (im a (List.length b))<|.need (im a (List.length e))<|.need (gD ((a:Nat):Int) n)<|.need (im a (List.length f))<|.need (im a (List.length c))<|.need (im a (List.length g))<|.need (aP 0 (List.length (List.getD b a [])) (List.getD b a []))<|.need (aP 0 (List.length (List.getD c a [])) (List.getD c a []))<|.need (nQ (aB (List.getD d a false) (ab 0 (List.length (List.getD b a [])) (List.getD b a [])) (List.getD e a 0) (List.getD f a false) (ab 0 (List.length (List.getD c a [])) (List.getD c a [])) (List.getD g a 0)))<|.ask ((((k6 (aB (List.getD d a false) (ab 0 (List.length (List.getD b a [])) (List.getD b a [])) (List.getD e a 0) (List.getD f a false) (ab 0 (List.length (List.getD c a [])) (List.getD c a [])) (List.getD g a 0))):Nat):Int) != (0:Int))
      (.leaf (.inr (.inl ((k6 (aB (List.getD d a false) (ab 0 (List.length (List.getD b a [])) (List.getD b a [])) (List.getD e a 0) (List.getD f a false) (ab 0 (List.length (List.getD c a [])) (List.getD c a [])) (List.getD g a 0))),k,h,i,j,l))))
      (.need (aP i j h)<|.need (aP (cA (aB (List.getD d a false) (ab 0 (List.length (List.getD b a [])) (List.getD b a [])) (List.getD e a 0) (List.getD f a false) (ab 0 (List.length (List.getD c a [])) (List.getD c a [])) (List.getD g a 0))) (cB (aB (List.getD d a false) (ab 0 (List.length (List.getD b a [])) (List.getD b a [])) (List.getD e a 0) (List.getD f a false) (ab 0 (List.length (List.getD c a [])) (List.getD c a [])) (List.getD g a 0))) (cz (aB (List.getD d a false) (ab 0 (List.length (List.getD b a [])) (List.getD b a [])) (List.getD e a 0) (List.getD f a false) (ab 0 (List.length (List.getD c a [])) (List.getD c a [])) (List.getD g a 0))))<|.need (xD (c6 k (ab i j h) l (cI (aB (List.getD d a false) (ab 0 (List.length (List.getD b a [])) (List.getD b a [])) (List.getD e a 0) (List.getD f a false) (ab 0 (List.length (List.getD c a [])) (List.getD c a [])) (List.getD g a 0))) (ab (cA (aB (List.getD d a false) (ab 0 (List.length (List.getD b a [])) (List.getD b a [])) (List.getD e a 0) (List.getD f a false) (ab 0 (List.length (List.getD c a [])) (List.getD c a [])) (List.getD g a 0))) (cB (aB (List.getD d a false) (ab 0 (List.length (List.getD b a [])) (List.getD b a [])) (List.getD e a 0) (List.getD f a false) (ab 0 (List.length (List.getD c a [])) (List.getD c a [])) (List.getD g a 0))) (cz (aB (List.getD d a false) (ab 0 (List.length (List.getD b a [])) (List.getD b a [])) (List.getD e a 0) (List.getD f a false) (ab 0 (List.length (List.getD c a [])) (List.getD c a [])) (List.getD g a 0)))) (cJ (aB (List.getD d a false) (ab 0 (List.length (List.getD b a [])) (List.getD b a [])) (List.getD e a 0) (List.getD f a false) (ab 0 (List.length (List.getD c a [])) (List.getD c a [])) (List.getD g a 0)))))<|.ask ((((oX (c6 k (ab i j h) l (cI (aB (List.getD d a false) (ab 0 (List.length (List.getD b a [])) (List.getD b a [])) (List.getD e a 0) (List.getD f a false) (ab 0 (List.length (List.getD c a [])) (List.getD c a [])) (List.getD g a 0))) (ab (cA (aB (List.getD d a false) (ab 0 (List.length (List.getD b a [])) (List.getD b a [])) (List.getD e a 0) (List.getD f a false) (ab 0 (List.length (List.getD c a [])) (List.getD c a [])) (List.getD g a 0))) (cB (aB (List.getD d a false) (ab 0 (List.length (List.getD b a [])) (List.getD b a [])) (List.getD e a 0) (List.getD f a false) (ab 0 (List.length (List.getD c a [])) (List.getD c a [])) (List.getD g a 0))) (cz (aB (List.getD d a false) (ab 0 (List.length (List.getD b a [])) (List.getD b a [])) (List.getD e a 0) (List.getD f a false) (ab 0 (List.length (List.getD c a [])) (List.getD c a [])) (List.getD g a 0)))) (cJ (aB (List.getD d a false) (ab 0 (List.length (List.getD b a [])) (List.getD b a [])) (List.getD e a 0) (List.getD f a false) (ab 0 (List.length (List.getD c a [])) (List.getD c a [])) (List.getD g a 0))))):Nat):Int) != (0:Int))
        (.leaf (.inr (.inl ((oX (c6 k (ab i j h) l (cI (aB (List.getD d a false) (ab 0 (List.length (List.getD b a [])) (List.getD b a [])) (List.getD e a 0) (List.getD f a false) (ab 0 (List.length (List.getD c a [])) (List.getD c a [])) (List.getD g a 0))) (ab (cA (aB (List.getD d a false) (ab 0 (List.length (List.getD b a [])) (List.getD b a [])) (List.getD e a 0) (List.getD f a false) (ab 0 (List.length (List.getD c a [])) (List.getD c a [])) (List.getD g a 0))) (cB (aB (List.getD d a false) (ab 0 (List.length (List.getD b a [])) (List.getD b a [])) (List.getD e a 0) (List.getD f a false) (ab 0 (List.length (List.getD c a [])) (List.getD c a [])) (List.getD g a 0))) (cz (aB (List.getD d a false) (ab 0 (List.length (List.getD b a [])) (List.getD b a [])) (List.getD e a 0) (List.getD f a false) (ab 0 (List.length (List.getD c a [])) (List.getD c a [])) (List.getD g a 0)))) (cJ (aB (List.getD d a false) (ab 0 (List.length (List.getD b a [])) (List.getD b a [])) (List.getD e a 0) (List.getD f a false) (ab 0 (List.length (List.getD c a [])) (List.getD c a [])) (List.getD g a 0))))),(qN (c6 k (ab i j h) l (cI (aB (List.getD d a false) (ab 0 (List.length (List.getD b a [])) (List.getD b a [])) (List.getD e a 0) (List.getD f a false) (ab 0 (List.length (List.getD c a [])) (List.getD c a [])) (List.getD g a 0))) (ab (cA (aB (List.getD d a false) (ab 0 (List.length (List.getD b a [])) (List.getD b a [])) (List.getD e a 0) (List.getD f a false) (ab 0 (List.length (List.getD c a [])) (List.getD c a [])) (List.getD g a 0))) (cB (aB (List.getD d a false) (ab 0 (List.length (List.getD b a [])) (List.getD b a [])) (List.getD e a 0) (List.getD f a false) (ab 0 (List.length (List.getD c a [])) (List.getD c a [])) (List.getD g a 0))) (cz (aB (List.getD d a false) (ab 0 (List.length (List.getD b a [])) (List.getD b a [])) (List.getD e a 0) (List.getD f a false) (ab 0 (List.length (List.getD c a [])) (List.getD c a [])) (List.getD g a 0)))) (cJ (aB (List.getD d a false) (ab 0 (List.length (List.getD b a [])) (List.getD b a [])) (List.getD e a 0) (List.getD f a false) (ab 0 (List.length (List.getD c a [])) (List.getD c a [])) (List.getD g a 0))))),(qO (c6 k (ab i j h) l (cI (aB (List.getD d a false) (ab 0 (List.length (List.getD b a [])) (List.getD b a [])) (List.getD e a 0) (List.getD f a false) (ab 0 (List.length (List.getD c a [])) (List.getD c a [])) (List.getD g a 0))) (ab (cA (aB (List.getD d a false) (ab 0 (List.length (List.getD b a [])) (List.getD b a [])) (List.getD e a 0) (List.getD f a false) (ab 0 (List.length (List.getD c a [])) (List.getD c a [])) (List.getD g a 0))) (cB (aB (List.getD d a false) (ab 0 (List.length (List.getD b a [])) (List.getD b a [])) (List.getD e a 0) (List.getD f a false) (ab 0 (List.length (List.getD c a [])) (List.getD c a [])) (List.getD g a 0))) (cz (aB (List.getD d a false) (ab 0 (List.length (List.getD b a [])) (List.getD b a [])) (List.getD e a 0) (List.getD f a false) (ab 0 (List.length (List.getD c a [])) (List.getD c a [])) (List.getD g a 0)))) (cJ (aB (List.getD d a false) (ab 0 (List.length (List.getD b a [])) (List.getD b a [])) (List.getD e a 0) (List.getD f a false) (ab 0 (List.length (List.getD c a [])) (List.getD c a [])) (List.getD g a 0))))),(qP (c6 k (ab i j h) l (cI (aB (List.getD d a false) (ab 0 (List.length (List.getD b a [])) (List.getD b a [])) (List.getD e a 0) (List.getD f a false) (ab 0 (List.length (List.getD c a [])) (List.getD c a [])) (List.getD g a 0))) (ab (cA (aB (List.getD d a false) (ab 0 (List.length (List.getD b a [])) (List.getD b a [])) (List.getD e a 0) (List.getD f a false) (ab 0 (List.length (List.getD c a [])) (List.getD c a [])) (List.getD g a 0))) (cB (aB (List.getD d a false) (ab 0 (List.length (List.getD b a [])) (List.getD b a [])) (List.getD e a 0) (List.getD f a false) (ab 0 (List.length (List.getD c a [])) (List.getD c a [])) (List.getD g a 0))) (cz (aB (List.getD d a false) (ab 0 (List.length (List.getD b a [])) (List.getD b a [])) (List.getD e a 0) (List.getD f a false) (ab 0 (List.length (List.getD c a [])) (List.getD c a [])) (List.getD g a 0)))) (cJ (aB (List.getD d a false) (ab 0 (List.length (List.getD b a [])) (List.getD b a [])) (List.getD e a 0) (List.getD f a false) (ab 0 (List.length (List.getD c a [])) (List.getD c a [])) (List.getD g a 0))))),(qQ (c6 k (ab i j h) l (cI (aB (List.getD d a false) (ab 0 (List.length (List.getD b a [])) (List.getD b a [])) (List.getD e a 0) (List.getD f a false) (ab 0 (List.length (List.getD c a [])) (List.getD c a [])) (List.getD g a 0))) (ab (cA (aB (List.getD d a false) (ab 0 (List.length (List.getD b a [])) (List.getD b a [])) (List.getD e a 0) (List.getD f a false) (ab 0 (List.length (List.getD c a [])) (List.getD c a [])) (List.getD g a 0))) (cB (aB (List.getD d a false) (ab 0 (List.length (List.getD b a [])) (List.getD b a [])) (List.getD e a 0) (List.getD f a false) (ab 0 (List.length (List.getD c a [])) (List.getD c a [])) (List.getD g a 0))) (cz (aB (List.getD d a false) (ab 0 (List.length (List.getD b a [])) (List.getD b a [])) (List.getD e a 0) (List.getD f a false) (ab 0 (List.length (List.getD c a [])) (List.getD c a [])) (List.getD g a 0)))) (cJ (aB (List.getD d a false) (ab 0 (List.length (List.getD b a [])) (List.getD b a [])) (List.getD e a 0) (List.getD f a false) (ab 0 (List.length (List.getD c a [])) (List.getD c a [])) (List.getD g a 0))))),(qR (c6 k (ab i j h) l (cI (aB (List.getD d a false) (ab 0 (List.length (List.getD b a [])) (List.getD b a [])) (List.getD e a 0) (List.getD f a false) (ab 0 (List.length (List.getD c a [])) (List.getD c a [])) (List.getD g a 0))) (ab (cA (aB (List.getD d a false) (ab 0 (List.length (List.getD b a [])) (List.getD b a [])) (List.getD e a 0) (List.getD f a false) (ab 0 (List.length (List.getD c a [])) (List.getD c a [])) (List.getD g a 0))) (cB (aB (List.getD d a false) (ab 0 (List.length (List.getD b a [])) (List.getD b a [])) (List.getD e a 0) (List.getD f a false) (ab 0 (List.length (List.getD c a [])) (List.getD c a [])) (List.getD g a 0))) (cz (aB (List.getD d a false) (ab 0 (List.length (List.getD b a [])) (List.getD b a [])) (List.getD e a 0) (List.getD f a false) (ab 0 (List.length (List.getD c a [])) (List.getD c a [])) (List.getD g a 0)))) (cJ (aB (List.getD d a false) (ab 0 (List.length (List.getD b a [])) (List.getD b a [])) (List.getD e a 0) (List.getD f a false) (ab 0 (List.length (List.getD c a [])) (List.getD c a [])) (List.getD g a 0)))))))))
        (.leaf (.inl ((oX (c6 k (ab i j h) l (cI (aB (List.getD d a false) (ab 0 (List.length (List.getD b a [])) (List.getD b a [])) (List.getD e a 0) (List.getD f a false) (ab 0 (List.length (List.getD c a [])) (List.getD c a [])) (List.getD g a 0))) (ab (cA (aB (List.getD d a false) (ab 0 (List.length (List.getD b a [])) (List.getD b a [])) (List.getD e a 0) (List.getD f a false) (ab 0 (List.length (List.getD c a [])) (List.getD c a [])) (List.getD g a 0))) (cB (aB (List.getD d a false) (ab 0 (List.length (List.getD b a [])) (List.getD b a [])) (List.getD e a 0) (List.getD f a false) (ab 0 (List.length (List.getD c a [])) (List.getD c a [])) (List.getD g a 0))) (cz (aB (List.getD d a false) (ab 0 (List.length (List.getD b a [])) (List.getD b a [])) (List.getD e a 0) (List.getD f a false) (ab 0 (List.length (List.getD c a [])) (List.getD c a [])) (List.getD g a 0)))) (cJ (aB (List.getD d a false) (ab 0 (List.length (List.getD b a [])) (List.getD b a [])) (List.getD e a 0) (List.getD f a false) (ab 0 (List.length (List.getD c a [])) (List.getD c a [])) (List.getD g a 0))))),(qN (c6 k (ab i j h) l (cI (aB (List.getD d a false) (ab 0 (List.length (List.getD b a [])) (List.getD b a [])) (List.getD e a 0) (List.getD f a false) (ab 0 (List.length (List.getD c a [])) (List.getD c a [])) (List.getD g a 0))) (ab (cA (aB (List.getD d a false) (ab 0 (List.length (List.getD b a [])) (List.getD b a [])) (List.getD e a 0) (List.getD f a false) (ab 0 (List.length (List.getD c a [])) (List.getD c a [])) (List.getD g a 0))) (cB (aB (List.getD d a false) (ab 0 (List.length (List.getD b a [])) (List.getD b a [])) (List.getD e a 0) (List.getD f a false) (ab 0 (List.length (List.getD c a [])) (List.getD c a [])) (List.getD g a 0))) (cz (aB (List.getD d a false) (ab 0 (List.length (List.getD b a [])) (List.getD b a [])) (List.getD e a 0) (List.getD f a false) (ab 0 (List.length (List.getD c a [])) (List.getD c a [])) (List.getD g a 0)))) (cJ (aB (List.getD d a false) (ab 0 (List.length (List.getD b a [])) (List.getD b a [])) (List.getD e a 0) (List.getD f a false) (ab 0 (List.length (List.getD c a [])) (List.getD c a [])) (List.getD g a 0))))),(qO (c6 k (ab i j h) l (cI (aB (List.getD d a false) (ab 0 (List.length (List.getD b a [])) (List.getD b a [])) (List.getD e a 0) (List.getD f a false) (ab 0 (List.length (List.getD c a [])) (List.getD c a [])) (List.getD g a 0))) (ab (cA (aB (List.getD d a false) (ab 0 (List.length (List.getD b a [])) (List.getD b a [])) (List.getD e a 0) (List.getD f a false) (ab 0 (List.length (List.getD c a [])) (List.getD c a [])) (List.getD g a 0))) (cB (aB (List.getD d a false) (ab 0 (List.length (List.getD b a [])) (List.getD b a [])) (List.getD e a 0) (List.getD f a false) (ab 0 (List.length (List.getD c a [])) (List.getD c a [])) (List.getD g a 0))) (cz (aB (List.getD d a false) (ab 0 (List.length (List.getD b a [])) (List.getD b a [])) (List.getD e a 0) (List.getD f a false) (ab 0 (List.length (List.getD c a [])) (List.getD c a [])) (List.getD g a 0)))) (cJ (aB (List.getD d a false) (ab 0 (List.length (List.getD b a [])) (List.getD b a [])) (List.getD e a 0) (List.getD f a false) (ab 0 (List.length (List.getD c a [])) (List.getD c a [])) (List.getD g a 0))))),(qP (c6 k (ab i j h) l (cI (aB (List.getD d a false) (ab 0 (List.length (List.getD b a [])) (List.getD b a [])) (List.getD e a 0) (List.getD f a false) (ab 0 (List.length (List.getD c a [])) (List.getD c a [])) (List.getD g a 0))) (ab (cA (aB (List.getD d a false) (ab 0 (List.length (List.getD b a [])) (List.getD b a [])) (List.getD e a 0) (List.getD f a false) (ab 0 (List.length (List.getD c a [])) (List.getD c a [])) (List.getD g a 0))) (cB (aB (List.getD d a false) (ab 0 (List.length (List.getD b a [])) (List.getD b a [])) (List.getD e a 0) (List.getD f a false) (ab 0 (List.length (List.getD c a [])) (List.getD c a [])) (List.getD g a 0))) (cz (aB (List.getD d a false) (ab 0 (List.length (List.getD b a [])) (List.getD b a [])) (List.getD e a 0) (List.getD f a false) (ab 0 (List.length (List.getD c a [])) (List.getD c a [])) (List.getD g a 0)))) (cJ (aB (List.getD d a false) (ab 0 (List.length (List.getD b a [])) (List.getD b a [])) (List.getD e a 0) (List.getD f a false) (ab 0 (List.length (List.getD c a [])) (List.getD c a [])) (List.getD g a 0))))),(qQ (c6 k (ab i j h) l (cI (aB (List.getD d a false) (ab 0 (List.length (List.getD b a [])) (List.getD b a [])) (List.getD e a 0) (List.getD f a false) (ab 0 (List.length (List.getD c a [])) (List.getD c a [])) (List.getD g a 0))) (ab (cA (aB (List.getD d a false) (ab 0 (List.length (List.getD b a [])) (List.getD b a [])) (List.getD e a 0) (List.getD f a false) (ab 0 (List.length (List.getD c a [])) (List.getD c a [])) (List.getD g a 0))) (cB (aB (List.getD d a false) (ab 0 (List.length (List.getD b a [])) (List.getD b a [])) (List.getD e a 0) (List.getD f a false) (ab 0 (List.length (List.getD c a [])) (List.getD c a [])) (List.getD g a 0))) (cz (aB (List.getD d a false) (ab 0 (List.length (List.getD b a [])) (List.getD b a [])) (List.getD e a 0) (List.getD f a false) (ab 0 (List.length (List.getD c a [])) (List.getD c a [])) (List.getD g a 0)))) (cJ (aB (List.getD d a false) (ab 0 (List.length (List.getD b a [])) (List.getD b a [])) (List.getD e a 0) (List.getD f a false) (ab 0 (List.length (List.getD c a [])) (List.getD c a [])) (List.getD g a 0))))),(qR (c6 k (ab i j h) l (cI (aB (List.getD d a false) (ab 0 (List.length (List.getD b a [])) (List.getD b a [])) (List.getD e a 0) (List.getD f a false) (ab 0 (List.length (List.getD c a [])) (List.getD c a [])) (List.getD g a 0))) (ab (cA (aB (List.getD d a false) (ab 0 (List.length (List.getD b a [])) (List.getD b a [])) (List.getD e a 0) (List.getD f a false) (ab 0 (List.length (List.getD c a [])) (List.getD c a [])) (List.getD g a 0))) (cB (aB (List.getD d a false) (ab 0 (List.length (List.getD b a [])) (List.getD b a [])) (List.getD e a 0) (List.getD f a false) (ab 0 (List.length (List.getD c a [])) (List.getD c a [])) (List.getD g a 0))) (cz (aB (List.getD d a false) (ab 0 (List.length (List.getD b a [])) (List.getD b a [])) (List.getD e a 0) (List.getD f a false) (ab 0 (List.length (List.getD c a [])) (List.getD c a [])) (List.getD g a 0)))) (cJ (aB (List.getD d a false) (ab 0 (List.length (List.getD b a [])) (List.getD b a [])) (List.getD e a 0) (List.getD f a false) (ab 0 (List.length (List.getD c a [])) (List.getD c a [])) (List.getD g a 0))))))))))
    (.leaf (.inr (.inl (o,k,h,i,j,l))))
def ahh(a:Nat)(b:Nat)(c:Bool)(d:List Int)(e:Nat)(f:Nat)(g:Int) :T ((Nat×Nat×Bool×(List Int)×Nat×Nat×Int)⊕((Nat×Bool×(List Int)×Nat×Nat×Int)⊕(e9))) :=
  .need (dn .i64 (((a+1):Nat):Int))<|.leaf (.inl (b,(a+1),c,d,e,f,g))
def zg(b:Nat)(c:List Bool)(d:List (List Int))(e:List Int)(f:Nat)(g:List Bool)(h:List (List Int))(i:List Int) :Nat×Nat×Bool×(List Int)×Nat×Nat×Int→Option ((Nat×Nat×Bool×(List Int)×Nat×Nat×Int)⊕((Nat×Bool×(List Int)×Nat×Nat×Int)⊕(e9))):=fun (j,a,k,l,m,n,o) =>
  aE ((Gl b c d e f g h i j a k l m n o).run) fun (p,q,r,s,t,u) =>
  (ahh a p q r s t u).run
theorem ahi(j:Lv)(a:Nat)(b:List Bool)(c:List (List Int))(d:List Int)(k:Lv)(e:Nat)(f:List Bool)(g:List (List Int))(h:List Int)(i:Bool)(m:Nat)(l:Nat)(n:Bool)(o:List Int)(p:Nat)(q:Nat)(r:Int) :Sg prog [] ahf (IQ j a b c d k e f g h i (m,l,n,o,p,q,r)) (zg a b c d e f g h (m,l,n,o,p,q,r)) (IQ j a b c d k e f g h i) (cL 0 (Pw i) Gj):=by
  unfold zg;exact Sg.cut 3 (ay tu) (bk ma (ahg j a b c d k e f g h i l) [⟨[],[0,1],[4,6,7]⟩,⟨[],[0,1],[4,6,7]⟩,⟨[],[0,1],[0,1,4,6,7,18,19]⟩,⟨[],[0,1],[4,6,7]⟩]) (fun ⟨s,t,u,v,w,x⟩=>bk ma _ [⟨[],[0,1],[0,1,4,6,7,18,19]⟩])
def ahj(a:Nat)(b:Bool)(c:List Int)(d:Nat)(e:Nat)(f:Int) :T ((Empty)⊕(e9)) :=
  .ask (((a:Nat):Int) != (0:Int))
    (.leaf (.inr (.r0 a false ([]:List Int) 0 0 (0:Int))))
    (.leaf (.inr (.r0 0 b c d e f)))
def de(a:Nat)(c:List Bool)(d:List (List Int))(e:List Int)(b:Nat)(f:List Bool)(g:List (List Int))(h:List Int) :Option e9:=jR (aE ((ahc).run) fun p =>
  aE ((ahe a b).run) fun i =>
  aE (dc (zg a c d e b f g h) (0,0,i,([]:List Int),0,0,(0:Int))) fun (j,k,l,m,n,o) =>
  (ahj j k l m n o).run)
theorem akI(j:Lv)(a:Nat)(c:List Bool)(d:List (List Int))(e:List Int)(k:Lv)(b:Nat)(f:List Bool)(g:List (List Int))(i:List Int){x:e9}(h:de a c d e b f g i=some x) :aw prog EV [] [.imm j (.cols a [.cb c,.cns .u64 d,.ci .i64 e]) 3 3 0 a,.imm k (.cols b [.cb f,.cns .u64 g,.ci .i64 i]) 3 3 0 b] (MU x) :=
  kp true MU Gj h (Sg.cut 1 tu (bk ma (akG j a c d e k b f g i) [⟨[],[0],[0,1,4]⟩]) (fun l=>Mj (by kernel_rfl:(Gk.drop 1) = [.scope (JN (((Gk.drop 1)).headD .skip))]) tu (Sg.cut 5 tu (bk ma (akH j a c d e k b f g i l) [⟨[(.cell 0 1,.fre 1 1 (.ns .u64 ([]:List Int)))],[0],[4,5]⟩,⟨[],[0,81],[0,1,4,6,7,18,19]⟩]) (fun A=>Sg.cut 1 tu (BM ⟨[(.cell 1 1,.fre 1 1 (.ns .u64 ([]:List Int)))],[0,1],[0,1,4,6,7,18,19]⟩ (IQ j a c d e k b f g i l) (Pw l) 0 tu (akF _) (fun ⟨m,n,o,p,q,r,s⟩=>ahi j a c d e k b f g i l m n o p q r s)) (fun ⟨B,C,D,E,F,G⟩=>bk ma _ [⟨[(.cell 0 1,.fre 1 1 (.ns .u64 ([]:List Int)))],[0],[4,5]⟩,⟨[],[0],[4,5]⟩])))))
    (fun x=>by cases x with | r0 t u v w y z=>exact jT [.agg [.bool false u,.imm .free (.ns .u64 v) 1 1 w y,.int .i64 z],.int .i64 ((t:Nat):Int)])
def tw:Option e9→Bool
  | some _=>true
  | none=>false
def re:Option e9→Nat
  | some (.r0 x _ _ _ _ _)=>x
  | _=>0
def rf:Option e9→Bool
  | some (.r0 _ x _ _ _ _)=>x
  | _=>false
def rg:Option e9→List Int
  | some (.r0 _ _ x _ _ _)=>x
  | _=>[]
def rh:Option e9→Nat
  | some (.r0 _ _ _ x _ _)=>x
  | _=>0
def ri:Option e9→Nat
  | some (.r0 _ _ _ _ x _)=>x
  | _=>0
def rj:Option e9→Int
  | some (.r0 _ _ _ _ _ x)=>x
  | _=>0
theorem akJ{x:Option e9}(h:tw x=true) :x=some (.r0 (re x) (rf x) (rg x) (rh x) (ri x) (rj x)):=by
  unfold tw at h
  split at h <;> first | rfl | (cases h;done) | (rename_i y;cases y;rfl)
def XK:aL:=bJ EV (.cons (.cols [.cb,.cns .u64,.ci .i64]) (.cons (.cols [.cb,.cns .u64,.ci .i64]) .nil)) fun t=>(fun q=>[⟨MU (.r0 (re q) (rf q) (rg q) (rh q) (ri q) (rj q)),[tw q]⟩]) (de t.1.2.1 t.1.2.2.1 t.1.2.2.2.1 t.1.2.2.2.2.1 t.2.1.2.1 t.2.1.2.2.1 t.2.1.2.2.2.1 t.2.1.2.2.2.2.1)
theorem ab0:aV prog XK:=aR fun t=>(aS (fun h=>akI t.1.1 t.1.2.1 t.1.2.2.1 t.1.2.2.2.1 t.1.2.2.2.2.1 t.2.1.1 t.2.1.2.1 t.2.1.2.2.1 t.2.1.2.2.2.1 t.2.1.2.2.2.2.1 (akJ h)) aZ)
def XL:List aL:=XK :: Pv
theorem DH:bd prog (bf XL):=au ab0 ma
inductive dN where
  | r0 (a:Nat) (b:Bool) (c:List Int) (d:Nat) (e:Nat) (f:Int)
def IR:dN→AE×aQ
  | .r0 a b c d e f=>(.ret,⟨ao 9 [(2,.ptr 0 1 0 0),(3,.int .i64 ((a:Nat):Int))],[(0,.vs [.bool false b,.imm .free (.ns .u64 c) 1 1 d e,.int .i64 f])],1⟩)
theorem Ug:jC IR:=by intro x;cases x <;> (intro h;cases h)
def Aw:dN→gX
  | .r0 a b c d e f=>⟨.tup [.agg [.bool false b,.imm .free (.ns .u64 c) 1 1 d e,.int .i64 f],.int .i64 ((a:Nat):Int)],[]⟩
def Uh:Nat×Bool×(List Int)×Nat×Nat×Int→aQ:=fun (a,b,c,d,e,f)=>⟨ao 9 [(2,.ptr 0 1 0 0),(3,.int .i64 ((a:Nat):Int))],[(0,.vs [.bool false b,.imm .free (.ns .u64 c) 1 1 d e,.int .i64 f])],1⟩
def G0(a:Nat)(b:List Bool)(c:List (List Int))(d:List Int) :T ((Nat×Bool×(List Int)×Nat×Nat×Int)⊕(dN)) :=
  .need (Nat.ble (0+a) a)<|.need (Nat.ble (0+a) a)<|.need (tw (de a (ab 0 a b) (ab 0 a c) (ab 0 a d) a (ab 0 a b) (ab 0 a c) (ab 0 a d)))<|.leaf (.inl ((re (de a (ab 0 a b) (ab 0 a c) (ab 0 a d) a (ab 0 a b) (ab 0 a c) (ab 0 a d))),(rf (de a (ab 0 a b) (ab 0 a c) (ab 0 a d) a (ab 0 a b) (ab 0 a c) (ab 0 a d))),(rg (de a (ab 0 a b) (ab 0 a c) (ab 0 a d) a (ab 0 a b) (ab 0 a c) (ab 0 a d))),(rh (de a (ab 0 a b) (ab 0 a c) (ab 0 a d) a (ab 0 a b) (ab 0 a c) (ab 0 a d))),(ri (de a (ab 0 a b) (ab 0 a c) (ab 0 a d) a (ab 0 a b) (ab 0 a c) (ab 0 a d))),(rj (de a (ab 0 a b) (ab 0 a c) (ab 0 a d) a (ab 0 a b) (ab 0 a c) (ab 0 a d)))))
def Ui(a:Nat)(b:Bool)(c:List Int)(d:Nat)(e:Nat)(f:Int) :T ((Empty)⊕(dN)) :=
  .leaf (.inr (.r0 a b c d e f))
def bP(a:Nat)(b:List Bool)(c:List (List Int))(d:List Int) :Option dN:=jR (aE ((G0 a b c d).run) fun (e,f,g,h,i,j) =>
  (Ui e f g h i j).run)
theorem Uj(e:Lv)(a:Nat)(b:List Bool)(c:List (List Int))(d:List Int){x:dN}(h:bP a b c d=some x) :aw prog zK [] [.imm e (.cols a [.cb b,.cns .u64 c,.ci .i64 d]) 3 3 0 a] (Aw x) :=
  kp true Aw IR h (Sg.cut 2 Ug (bk DH Uh [⟨[],[0],[2,3]⟩]) (fun ⟨m,n,o,p,q,r⟩=>bk DH _ [⟨[],[0],[2,3]⟩]))
    (fun x=>by cases x with | r0 f g i j k l=>exact jT [.agg [.bool false g,.imm .free (.ns .u64 i) 1 1 j k,.int .i64 l],.int .i64 ((f:Nat):Int)])
def mb:Option dN→Bool
  | some _=>true
  | none=>false
def mE:Option dN→Nat
  | some (.r0 x _ _ _ _ _)=>x
  | _=>0
def mF:Option dN→Bool
  | some (.r0 _ x _ _ _ _)=>x
  | _=>false
def mG:Option dN→List Int
  | some (.r0 _ _ x _ _ _)=>x
  | _=>[]
def mH:Option dN→Nat
  | some (.r0 _ _ _ x _ _)=>x
  | _=>0
def mI:Option dN→Nat
  | some (.r0 _ _ _ _ x _)=>x
  | _=>0
def mJ:Option dN→Int
  | some (.r0 _ _ _ _ _ x)=>x
  | _=>0
theorem Uk{x:Option dN}(h:mb x=true) :x=some (.r0 (mE x) (mF x) (mG x) (mH x) (mI x) (mJ x)):=by
  unfold mb at h
  split at h <;> first | rfl | (cases h;done) | (rename_i y;cases y;rfl)
def IS:aL:=bJ zK (.cons (.cols [.cb,.cns .u64,.ci .i64]) .nil) fun t=>(fun q=>[⟨Aw (.r0 (mE q) (mF q) (mG q) (mH q) (mI q) (mJ q)),[mb q]⟩]) (bP t.1.2.1 t.1.2.2.1 t.1.2.2.2.1 t.1.2.2.2.2.1)
theorem Px:aV prog IS:=aR fun t=>(aS (fun h=>Uj t.1.1 t.1.2.1 t.1.2.2.1 t.1.2.2.2.1 t.1.2.2.2.2.1 (Uk h)) aZ)
def IT:List aL:=IS :: XL
theorem pc:bd prog (bf IT):=au Px DH
inductive fJ where
  | r0 (a:Nat) (b:Bool) (c:List Int) (d:Nat) (e:Nat) (f:Int)
def Ti:fJ→AE×aQ
  | .r0 a b c d e f=>(.ret,⟨ao 23 [(2,.ptr 0 1 0 0),(3,.int .i64 ((a:Nat):Int))],[(0,.vs [.bool false b,.imm .free (.ns .u64 c) 1 1 d e,.int .i64 f])],1⟩)
theorem Py:jC Ti:=by intro x;cases x <;> (intro h;cases h)
def IU:fJ→gX
  | .r0 a b c d e f=>⟨.tup [.agg [.bool false b,.imm .free (.ns .u64 c) 1 1 d e,.int .i64 f],.int .i64 ((a:Nat):Int)],[]⟩
def ahk(b:Int)(c:Int)(d:Lv)(a:List Nat)(e:Bool) :aQ:=⟨ao 23 [(1,.ptr 0 1 0 0),(2,.ptr 1 1 0 0)],[(0,.vs [.int .i64 b,.int .i64 c,.imm d (.fl a) 1 1 0 (List.length a)]),(1,.vs [.bool false e,.nsl,.int .i64 (0:Int)])],2⟩
def Pz(b : Int)(c : Int)(a : List Nat) : T ((Bool) ⊕ (fJ)) :=
  .ask (decide ((0:Int) < (1:Int)))
    (.need (gD (0:Int) 1)<|.need (aP 0 (List.length a) a)<|.need (iL (dK b c (ab 0 (List.length a) a)))<|.ask (ig (dK b c (ab 0 (List.length a) a)))
      (.ask (!(!(decide ((0:Int) ≥ (0:Int)))))
        (.leaf (.inr (.r0 2 false ([]:List Int) 0 0 (0:Int))))
        (.fail))
      (.need (dn .i64 (1:Int))<|.ask (decide ((1:Int) < (1:Int)))
        (.fail)
        (.ask (!(!(decide ((-1:Int) ≥ (0:Int)))))
          (.fail)
          (.ask (decide ((0:Int) < (1:Int)))
            (.need (gD (0:Int) 1)<|.need (aP 0 (List.length a) a)<|.need (be (aA (ab 0 (List.length a) a)))<|.ask (decide ((bg (aA (ab 0 (List.length a) a))) ≥ (0:Int)))
              (.leaf (.inr (.r0 10 false ([]:List Int) 0 0 (0:Int))))
              (.need (dn .i64 (1:Int))<|.ask (decide ((1:Int) < (1:Int)))
                (.fail)
                (.leaf (.inl false))))
            (.fail)))))
    (.fail)
def ahl:Nat×Bool×(List Int)×Nat×Nat×Int→aQ:=fun (a,b,c,d,e,f)=>⟨ao 23 [(2,.ptr 0 1 0 0),(3,.int .i64 ((a:Nat):Int))],[(0,.vs [.bool false b,.imm .free (.ns .u64 c) 1 1 d e,.int .i64 f])],1⟩
def PA(a:List Nat) :T ((Nat×Bool×(List Int)×Nat×Nat×Int)⊕(fJ)) :=
  .need (aP 0 (List.length a) a)<|.need (iM (aC (ab 0 (List.length a) a)))<|.need (Nat.ble (0+(bb (aC (ab 0 (List.length a) a)))) (bb (aC (ab 0 (List.length a) a))))<|.need (mb (bP (bb (aC (ab 0 (List.length a) a))) (ab 0 (bb (aC (ab 0 (List.length a) a))) (c7 (aC (ab 0 (List.length a) a)))) (ab 0 (bb (aC (ab 0 (List.length a) a))) (c8 (aC (ab 0 (List.length a) a)))) (ab 0 (bb (aC (ab 0 (List.length a) a))) (c9 (aC (ab 0 (List.length a) a))))))<|.leaf (.inl ((mE (bP (bb (aC (ab 0 (List.length a) a))) (ab 0 (bb (aC (ab 0 (List.length a) a))) (c7 (aC (ab 0 (List.length a) a)))) (ab 0 (bb (aC (ab 0 (List.length a) a))) (c8 (aC (ab 0 (List.length a) a)))) (ab 0 (bb (aC (ab 0 (List.length a) a))) (c9 (aC (ab 0 (List.length a) a)))))),(mF (bP (bb (aC (ab 0 (List.length a) a))) (ab 0 (bb (aC (ab 0 (List.length a) a))) (c7 (aC (ab 0 (List.length a) a)))) (ab 0 (bb (aC (ab 0 (List.length a) a))) (c8 (aC (ab 0 (List.length a) a)))) (ab 0 (bb (aC (ab 0 (List.length a) a))) (c9 (aC (ab 0 (List.length a) a)))))),(mG (bP (bb (aC (ab 0 (List.length a) a))) (ab 0 (bb (aC (ab 0 (List.length a) a))) (c7 (aC (ab 0 (List.length a) a)))) (ab 0 (bb (aC (ab 0 (List.length a) a))) (c8 (aC (ab 0 (List.length a) a)))) (ab 0 (bb (aC (ab 0 (List.length a) a))) (c9 (aC (ab 0 (List.length a) a)))))),(mH (bP (bb (aC (ab 0 (List.length a) a))) (ab 0 (bb (aC (ab 0 (List.length a) a))) (c7 (aC (ab 0 (List.length a) a)))) (ab 0 (bb (aC (ab 0 (List.length a) a))) (c8 (aC (ab 0 (List.length a) a)))) (ab 0 (bb (aC (ab 0 (List.length a) a))) (c9 (aC (ab 0 (List.length a) a)))))),(mI (bP (bb (aC (ab 0 (List.length a) a))) (ab 0 (bb (aC (ab 0 (List.length a) a))) (c7 (aC (ab 0 (List.length a) a)))) (ab 0 (bb (aC (ab 0 (List.length a) a))) (c8 (aC (ab 0 (List.length a) a)))) (ab 0 (bb (aC (ab 0 (List.length a) a))) (c9 (aC (ab 0 (List.length a) a)))))),(mJ (bP (bb (aC (ab 0 (List.length a) a))) (ab 0 (bb (aC (ab 0 (List.length a) a))) (c7 (aC (ab 0 (List.length a) a)))) (ab 0 (bb (aC (ab 0 (List.length a) a))) (c8 (aC (ab 0 (List.length a) a)))) (ab 0 (bb (aC (ab 0 (List.length a) a))) (c9 (aC (ab 0 (List.length a) a))))))))
def ahm(a:Nat)(b:Bool)(c:List Int)(d:Nat)(e:Nat)(f:Int) :T ((Empty)⊕(fJ)) :=
  .leaf (.inr (.r0 a b c d e f))
def d6(b:Int)(c:Int)(a:List Nat) :Option fJ:=jR (aE ((Pz b c a).run) fun j =>
  aE ((PA a).run) fun (d,e,f,g,h,i) =>
  (ahm d e f g h i).run)
theorem ahn(b:Int)(c:Int)(d:Lv)(a:List Nat){x:fJ}(h:d6 b c a=some x) :aw prog Hw [] [.agg [.int .i64 b,.int .i64 c,.imm d (.fl a) 1 1 0 (List.length a)]] (IU x) :=
  kp true IU Ti h (Sg.cut 2 Py (bk pc (ahk b c d a) [⟨[(.cell 16 1,.fre 1 1 (.ns .u64 ([]:List Int)))],[16],[2,3]⟩,⟨[(.cell 16 1,.fre 1 1 (.ns .u64 ([]:List Int)))],[16],[2,3]⟩,⟨[],[0,16],[1,2]⟩]) (fun l=>Sg.cut 1 Py (bk pc ahl [⟨[],[1],[2,3]⟩]) (fun ⟨m,n,o,p,q,r⟩=>bk pc _ [⟨[],[0],[2,3]⟩])))
    (fun x=>by cases x with | r0 e f g i j k=>exact jT [.agg [.bool false f,.imm .free (.ns .u64 g) 1 1 i j,.int .i64 k],.int .i64 ((e:Nat):Int)])
def uK:Option fJ→Bool
  | some _=>true
  | none=>false
def uL:Option fJ→Nat
  | some (.r0 x _ _ _ _ _)=>x
  | _=>0
def uM:Option fJ→Bool
  | some (.r0 _ x _ _ _ _)=>x
  | _=>false
def uN:Option fJ→List Int
  | some (.r0 _ _ x _ _ _)=>x
  | _=>[]
def uO:Option fJ→Nat
  | some (.r0 _ _ _ x _ _)=>x
  | _=>0
def uP:Option fJ→Nat
  | some (.r0 _ _ _ _ x _)=>x
  | _=>0
def uQ:Option fJ→Int
  | some (.r0 _ _ _ _ _ x)=>x
  | _=>0
theorem aho{x:Option fJ}(h:uK x=true) :x=some (.r0 (uL x) (uM x) (uN x) (uO x) (uP x) (uQ x)):=by
  unfold uK at h
  split at h <;> first | rfl | (cases h;done) | (rename_i y;cases y;rfl)
def Tj:aL:=bJ Hw (.cons (.agg (.cons (.int .i64) (.cons (.int .i64) (.cons .fl .nil)))) .nil) fun t=>(fun q=>[⟨IU (.r0 (uL q) (uM q) (uN q) (uO q) (uP q) (uQ q)),[uK q]⟩]) (d6 t.1.1 t.1.2.1 t.1.2.2.1.2)
theorem XM:aV prog Tj:=aR fun t=>(aS (fun h=>ahn t.1.1 t.1.2.1 t.1.2.2.1.1 t.1.2.2.1.2 (aho h)) aZ)
def Tk:List aL:=Tj :: IT
theorem uR:bd prog (bf Tk):=au XM pc
inductive gB where
  | r0 (a:Nat) (b:List Bool) (c:List (List Int)) (d:List Int)
def B9:gB→AE×aQ
  | .r0 a b c d=>(.ret,⟨ao 31 [(8,.sl 0 3 3 0 a a)],[(0,.cols a [.cb b,.cns .u64 c,.ci .i64 d])],1⟩)
theorem Gm:jC B9:=by intro x;cases x <;> (intro h;cases h)
theorem ahp(id:Nat) :m5 id B9:=by intro x;cases x <;> (intro h;cases h)
def IV:gB→gX
  | .r0 a b c d=>⟨.imm .free (.cols a [.cb b,.cns .u64 c,.ci .i64 d]) 3 3 0 a,[]⟩
def ahq:List Code:=cP (nO Bx)
def ahr(c:Lv)(b:Nat)(d:List Bool)(e:List (List Int))(f:List Int)(g:Int)(h:Int) :Nat×Nat×(List Bool)×(List (List Int))×(List Int)→aQ:=fun (a,i,j,k,l)=>⟨ao 31 [(0,.imm c (.cols b [.cb d,.cns .u64 e,.ci .i64 f]) 3 3 0 b),(1,.int .i64 g),(2,.int .i64 h),(9,.sl 0 3 3 0 a a),(14,.int .i64 ((i:Nat):Int)),(15,.int .i64 (0:Int))],[(0,.cols a [.cb j,.cns .u64 k,.ci .i64 l])],1⟩
def PB(a:Int) :T ((Nat×Nat×(List Bool)×(List (List Int))×(List Int))⊕(gB)) :=
  .need (decide ((0:Int)≤a))<|.need (decide (a≤a))<|.need (decide ((40:Int) * a≤140737488355328))<|.need (dn .i64 a)<|.leaf (.inl ((Int.toNat a),(Int.toNat a),(List.replicate (Int.toNat a) false),(List.replicate (Int.toNat a) []),(List.replicate (Int.toNat a) (0:Int))))
def Gn(c:Lv)(b:Nat)(d:List Bool)(e:List (List Int))(f:List Int)(g:Int)(h:Int)(a:Nat)(i:Nat) :Nat×(List Bool)×(List (List Int))×(List Int)→aQ:=fun (j,k,l,m)=>⟨ao 31 [(0,.imm c (.cols b [.cb d,.cns .u64 e,.ci .i64 f]) 3 3 0 b),(1,.int .i64 g),(2,.int .i64 h),(9,.sl 0 3 3 0 a a),(14,.int .i64 ((i:Nat):Int)),(15,.int .i64 ((j:Nat):Int))],[(0,.cols a [.cb k,.cns .u64 l,.ci .i64 m])],1⟩
def PC(a:Nat) :(List Bool)×(List (List Int))×(List Int)→aQ:=fun (b,c,d)=>⟨ao 31 [(9,.sl 0 3 3 0 a a)],[(0,.cols a [.cb b,.cns .u64 c,.ci .i64 d])],1⟩
def ahs:List Code:=cP (dD ((((ahq.drop 3).take 1)).headD .skip))
def zh(j:Nat)(h:List Bool)(d:List (List Int))(i:List Int)(c:Int)(b:Int)(k:Nat)(l:Nat)(a:Nat)(e:List Bool)(f:List (List Int))(g:List Int) :T ((Nat×(List Bool)×(List (List Int))×(List Int))⊕(((List Bool)×(List (List Int))×(List Int))⊕(gB))) :=
  .ask (decide (((a:Nat):Int) < ((l:Nat):Int)))
    (.need (dn .i64 (((a:Nat):Int) * b))<|.need (dn .i64 (c+(((a:Nat):Int) * b)))<|.need (gD (c+(((a:Nat):Int) * b)) j)<|.need (im (Int.toNat (c+(((a:Nat):Int) * b))) (List.length h))<|.need (im (Int.toNat (c+(((a:Nat):Int) * b))) (List.length d))<|.need (im (Int.toNat (c+(((a:Nat):Int) * b))) (List.length i))<|.need (gD ((a:Nat):Int) k)<|.need (im a (List.length e))<|.need (im a (List.length f))<|.need (decide (0+(List.length (List.getD d (Int.toNat (c+(((a:Nat):Int) * b))) []))≤List.length (List.getD d (Int.toNat (c+(((a:Nat):Int) * b))) [])))<|.need (im a (List.length g))<|.need (dn .i64 (((a+1):Nat):Int))<|.leaf (.inl ((a+1),(List.set e a (List.getD h (Int.toNat (c+(((a:Nat):Int) * b))) false)),(List.set f a (List.take (List.length (List.getD d (Int.toNat (c+(((a:Nat):Int) * b))) [])) (List.drop 0 (List.getD d (Int.toNat (c+(((a:Nat):Int) * b))) [])))),(List.set g a (List.getD i (Int.toNat (c+(((a:Nat):Int) * b))) 0)))))
    (.leaf (.inr (.inl (e,f,g))))
def DI(a:Nat)(b:List Bool)(c:List (List Int))(d:List Int)(e:Int)(f:Int)(g:Nat)(h:Nat) :Nat×(List Bool)×(List (List Int))×(List Int)→Option ((Nat×(List Bool)×(List (List Int))×(List Int))⊕(((List Bool)×(List (List Int))×(List Int))⊕(gB))):=fun (i,j,k,l) =>
  (zh a b c d e f g h i j k l).run
theorem ab1(i:Lv)(b:Nat)(c:List Bool)(d:List (List Int))(e:List Int)(f:Int)(g:Int)(a:Nat)(h:Nat)(j:Nat)(k:List Bool)(l:List (List Int))(m:List Int) :Sg prog [] ahs (Gn i b c d e f g a h (j,k,l,m)) (DI b c d e f g a h (j,k,l,m)) (Gn i b c d e f g a h) (cL 0 (PC a) B9):=by
  unfold DI;exact bk uR _ [⟨[],[0],[0,1,2,9,14,15]⟩,⟨[],[0],[9]⟩]
def ab2(a:Nat)(b:List Bool)(c:List (List Int))(d:List Int) :T ((Empty)⊕(gB)) :=
  .leaf (.inr (.r0 a b c d))
def aj(b:Nat)(c:List Bool)(d:List (List Int))(e:List Int)(f:Int)(g:Int)(h:Int) :Option gB:=jR (aE ((PB h).run) fun (a,i,j,k,l) =>
  aE (dc (DI b c d e f g a i) (0,j,k,l)) fun (m,n,o) =>
  (ab2 a m n o).run)
theorem aht(g:Lv)(a:Nat)(b:List Bool)(c:List (List Int))(d:List Int)(e:Int)(f:Int)(j:Int){x:gB}(h:aj a b c d e f j=some x) :aw prog Bx [] [.imm g (.cols a [.cb b,.cns .u64 c,.ci .i64 d]) 3 3 0 a,.int .i64 e,.int .i64 f,.int .i64 j] (IV x) :=
  kp true IV B9 h (Sg.cut 3 Gm (bk uR (ahr g a b c d e f) [⟨[],[32],[0,1,2,9,14,15]⟩]) (fun ⟨i,k,q,r,s⟩=>Sg.cut 1 Gm (BM ⟨[],[0],[0,1,2,9,14,15]⟩ (Gn g a b c d e f i k) (PC i) 0 Gm (ahp _) (fun ⟨m,n,o,p⟩=>ab1 g a b c d e f i k m n o p)) (fun ⟨t,u,v⟩=>bk uR _ [⟨[],[0],[8]⟩])))
    (fun x=>by cases x with | r0 l w y z=>exact jT [.sl 0 3 3 0 l l])
def kV:Option gB→Bool
  | some _=>true
  | none=>false
def an:Option gB→Nat
  | some (.r0 x _ _ _)=>x
  | _=>0
def bx:Option gB→List Bool
  | some (.r0 _ x _ _)=>x
  | _=>[]
def bz:Option gB→List (List Int)
  | some (.r0 _ _ x _)=>x
  | _=>[]
def bB:Option gB→List Int
  | some (.r0 _ _ _ x)=>x
  | _=>[]
theorem ahu{x:Option gB}(h:kV x=true) :x=some (.r0 (an x) (bx x) (bz x) (bB x)):=by
  unfold kV at h
  split at h <;> first | rfl | (cases h;done) | (rename_i y;cases y;rfl)
def Tl:aL:=bJ Bx (.cons (.cols [.cb,.cns .u64,.ci .i64]) (.cons (.int .i64) (.cons (.int .i64) (.cons (.int .i64) .nil)))) fun t=>(fun q=>[⟨IV (.r0 (an q) (bx q) (bz q) (bB q)),[kV q]⟩]) (aj t.1.2.1 t.1.2.2.1 t.1.2.2.2.1 t.1.2.2.2.2.1 t.2.1 t.2.2.1 t.2.2.2.1)
theorem XN:aV prog Tl:=aR fun t=>(aS (fun h=>aht t.1.1 t.1.2.1 t.1.2.2.1 t.1.2.2.2.1 t.1.2.2.2.2.1 t.2.1 t.2.2.1 t.2.2.2.1 (ahu h)) aZ)
def Tm:List aL:=Tl :: Tk
theorem Ax:bd prog (bf Tm):=au XN uR
inductive iX where
  | r0 (a:Nat) (b:Bool) (c:List Int) (d:Nat) (e:Nat) (f:Int)
def XO:iX→AE×aQ
  | .r0 a b c d e f=>(.ret,⟨ao 15 [(4,.ptr 0 1 0 0),(5,.int .i64 ((a:Nat):Int))],[(0,.vs [.bool false b,.imm .free (.ns .u64 c) 1 1 d e,.int .i64 f])],1⟩)
theorem akK:jC XO:=by intro x;cases x <;> (intro h;cases h)
def MV:iX→gX
  | .r0 a b c d e f=>⟨.tup [.agg [.bool false b,.imm .free (.ns .u64 c) 1 1 d e,.int .i64 f],.int .i64 ((a:Nat):Int)],[]⟩
def akL:Nat×Bool×(List Int)×Nat×Nat×Int→aQ:=fun (a,b,c,d,e,f)=>⟨ao 15 [(4,.ptr 0 1 0 0),(5,.int .i64 ((a:Nat):Int))],[(0,.vs [.bool false b,.imm .free (.ns .u64 c) 1 1 d e,.int .i64 f])],1⟩
def Tn(c:Bool)(a:List Int)(d:Int)(e:Bool)(b:List Int)(f:Int) :T ((Nat×Bool×(List Int)×Nat×Nat×Int)⊕(iX)) :=
  .need (aP 0 (List.length a) a)<|.need (aP 0 (List.length b) b)<|.need (xD (c6 c (ab 0 (List.length a) a) d (!e) (ab 0 (List.length b) b) f))<|.leaf (.inl ((oX (c6 c (ab 0 (List.length a) a) d (!e) (ab 0 (List.length b) b) f)),(qN (c6 c (ab 0 (List.length a) a) d (!e) (ab 0 (List.length b) b) f)),(qO (c6 c (ab 0 (List.length a) a) d (!e) (ab 0 (List.length b) b) f)),(qP (c6 c (ab 0 (List.length a) a) d (!e) (ab 0 (List.length b) b) f)),(qQ (c6 c (ab 0 (List.length a) a) d (!e) (ab 0 (List.length b) b) f)),(qR (c6 c (ab 0 (List.length a) a) d (!e) (ab 0 (List.length b) b) f))))
def akM(a:Nat)(b:Bool)(c:List Int)(d:Nat)(e:Nat)(f:Int) :T ((Empty)⊕(iX)) :=
  .leaf (.inr (.r0 a b c d e f))
def fK(a:Bool)(b:List Int)(c:Int)(d:Bool)(e:List Int)(f:Int) :Option iX:=jR (aE ((Tn a b c d e f).run) fun (g,h,i,j,k,l) =>
  (akM g h i j k l).run)
theorem akN(c:Bool)(g:Lv)(a:List Int)(d:Int)(e:Bool)(i:Lv)(b:List Int)(f:Int){x:iX}(h:fK c a d e b f=some x) :aw prog Mc [] [.agg [.bool false c,.imm g (.ns .u64 a) 1 1 0 (List.length a),.int .i64 d],.agg [.bool false e,.imm i (.ns .u64 b) 1 1 0 (List.length b),.int .i64 f]] (MV x) :=
  kp true MV XO h (Sg.cut 3 akK (bk Ax akL [⟨[],[32],[4,5]⟩]) (fun ⟨p,q,r,s,t,u⟩=>bk Ax _ [⟨[],[0],[4,5]⟩]))
    (fun x=>by cases x with | r0 j k l m n o=>exact jT [.agg [.bool false k,.imm .free (.ns .u64 l) 1 1 m n,.int .i64 o],.int .i64 ((j:Nat):Int)])
def xI:Option iX→Bool
  | some _=>true
  | none=>false
def xd:Option iX→Nat
  | some (.r0 x _ _ _ _ _)=>x
  | _=>0
def xe:Option iX→Bool
  | some (.r0 _ x _ _ _ _)=>x
  | _=>false
def xf:Option iX→List Int
  | some (.r0 _ _ x _ _ _)=>x
  | _=>[]
def xg:Option iX→Nat
  | some (.r0 _ _ _ x _ _)=>x
  | _=>0
def xh:Option iX→Nat
  | some (.r0 _ _ _ _ x _)=>x
  | _=>0
def xi:Option iX→Int
  | some (.r0 _ _ _ _ _ x)=>x
  | _=>0
theorem akO{x:Option iX}(h:xI x=true) :x=some (.r0 (xd x) (xe x) (xf x) (xg x) (xh x) (xi x)):=by
  unfold xI at h
  split at h <;> first | rfl | (cases h;done) | (rename_i y;cases y;rfl)
def XP:aL:=bJ Mc (.cons (.agg (.cons .bool (.cons (.ns .u64) (.cons (.int .i64) .nil)))) (.cons (.agg (.cons .bool (.cons (.ns .u64) (.cons (.int .i64) .nil)))) .nil)) fun t=>(fun q=>[⟨MV (.r0 (xd q) (xe q) (xf q) (xg q) (xh q) (xi q)),[xI q]⟩]) (fK t.1.1 t.1.2.1.2 t.1.2.2.1 t.2.1.1 t.2.1.2.1.2 t.2.1.2.2.1)
theorem ab3:aV prog XP:=aR fun t=>(aS (fun h=>akN t.1.1 t.1.2.1.1 t.1.2.1.2 t.1.2.2.1 t.2.1.1 t.2.1.2.1.1 t.2.1.2.1.2 t.2.1.2.2.1 (akO h)) aZ)
def XQ:List aL:=XP :: Tm
theorem rl:bd prog (bf XQ):=au ab3 Ax
inductive dF where
  | r0 (a:Nat) (b:Bool) (c:List Int) (d:Nat) (e:Nat) (f:Int)
def Le:dF→AE×aQ
  | .r0 a b c d e f=>(.ret,⟨ao 43 [(7,.ptr 0 1 0 0),(8,.int .i64 ((a:Nat):Int))],[(0,.vs [.bool false b,.imm .free (.ns .u64 c) 1 1 d e,.int .i64 f])],1⟩)
theorem Ay:jC Le:=by intro x;cases x <;> (intro h;cases h)
def DJ:dF→gX
  | .r0 a b c d e f=>⟨.tup [.agg [.bool false b,.imm .free (.ns .u64 c) 1 1 d e,.int .i64 f],.int .i64 ((a:Nat):Int)],[]⟩
def XR(b:Int)(c:Int)(d:Lv)(e:Bool)(f:Lv)(a:List Int)(g:Int) :Nat×Bool×Bool×(List Int)×Nat×Nat×Int→aQ:=fun (h,i,j,k,l,m,n)=>⟨ao 43 [(0,.int .i64 b),(1,.int .i64 c),(4,.iptr d (.vs [.bool false e,.imm f (.ns .u64 a) 1 1 0 (List.length a),.int .i64 g]) 1 0 0),(7,.ptr 0 1 0 0),(9,.ptr 1 1 0 0),(10,.int .i64 ((h:Nat):Int))],[(0,.vs [.bool false i,.nsl,.int .i64 (0:Int)]),(1,.vs [.bool false j,.imm .free (.ns .u64 k) 1 1 l m,.int .i64 n])],2⟩
def Az(g:Int)(h:Int)(a:Nat)(b:List Bool)(c:List (List Int))(d:List Int)(e:Int)(f:Int) :T ((Nat×Bool×Bool×(List Int)×Nat×Nat×Int)⊕(dF)) :=
  .need (Nat.ble (0+a) a)<|.need (kV (aj a (ab 0 a b) (ab 0 a c) (ab 0 a d) g f e))<|.need (Nat.ble (0+a) a)<|.need (kV (aj a (ab 0 a b) (ab 0 a c) (ab 0 a d) h f e))<|.need (Nat.ble (0+(an (aj a (ab 0 a b) (ab 0 a c) (ab 0 a d) g f e))) (an (aj a (ab 0 a b) (ab 0 a c) (ab 0 a d) g f e)))<|.need (Nat.ble (0+(an (aj a (ab 0 a b) (ab 0 a c) (ab 0 a d) h f e))) (an (aj a (ab 0 a b) (ab 0 a c) (ab 0 a d) h f e)))<|.need (tw (de (an (aj a (ab 0 a b) (ab 0 a c) (ab 0 a d) g f e)) (ab 0 (an (aj a (ab 0 a b) (ab 0 a c) (ab 0 a d) g f e)) (bx (aj a (ab 0 a b) (ab 0 a c) (ab 0 a d) g f e))) (ab 0 (an (aj a (ab 0 a b) (ab 0 a c) (ab 0 a d) g f e)) (bz (aj a (ab 0 a b) (ab 0 a c) (ab 0 a d) g f e))) (ab 0 (an (aj a (ab 0 a b) (ab 0 a c) (ab 0 a d) g f e)) (bB (aj a (ab 0 a b) (ab 0 a c) (ab 0 a d) g f e))) (an (aj a (ab 0 a b) (ab 0 a c) (ab 0 a d) h f e)) (ab 0 (an (aj a (ab 0 a b) (ab 0 a c) (ab 0 a d) h f e)) (bx (aj a (ab 0 a b) (ab 0 a c) (ab 0 a d) h f e))) (ab 0 (an (aj a (ab 0 a b) (ab 0 a c) (ab 0 a d) h f e)) (bz (aj a (ab 0 a b) (ab 0 a c) (ab 0 a d) h f e))) (ab 0 (an (aj a (ab 0 a b) (ab 0 a c) (ab 0 a d) h f e)) (bB (aj a (ab 0 a b) (ab 0 a c) (ab 0 a d) h f e)))))<|.leaf (.inl ((re (de (an (aj a (ab 0 a b) (ab 0 a c) (ab 0 a d) g f e)) (ab 0 (an (aj a (ab 0 a b) (ab 0 a c) (ab 0 a d) g f e)) (bx (aj a (ab 0 a b) (ab 0 a c) (ab 0 a d) g f e))) (ab 0 (an (aj a (ab 0 a b) (ab 0 a c) (ab 0 a d) g f e)) (bz (aj a (ab 0 a b) (ab 0 a c) (ab 0 a d) g f e))) (ab 0 (an (aj a (ab 0 a b) (ab 0 a c) (ab 0 a d) g f e)) (bB (aj a (ab 0 a b) (ab 0 a c) (ab 0 a d) g f e))) (an (aj a (ab 0 a b) (ab 0 a c) (ab 0 a d) h f e)) (ab 0 (an (aj a (ab 0 a b) (ab 0 a c) (ab 0 a d) h f e)) (bx (aj a (ab 0 a b) (ab 0 a c) (ab 0 a d) h f e))) (ab 0 (an (aj a (ab 0 a b) (ab 0 a c) (ab 0 a d) h f e)) (bz (aj a (ab 0 a b) (ab 0 a c) (ab 0 a d) h f e))) (ab 0 (an (aj a (ab 0 a b) (ab 0 a c) (ab 0 a d) h f e)) (bB (aj a (ab 0 a b) (ab 0 a c) (ab 0 a d) h f e))))),false,(rf (de (an (aj a (ab 0 a b) (ab 0 a c) (ab 0 a d) g f e)) (ab 0 (an (aj a (ab 0 a b) (ab 0 a c) (ab 0 a d) g f e)) (bx (aj a (ab 0 a b) (ab 0 a c) (ab 0 a d) g f e))) (ab 0 (an (aj a (ab 0 a b) (ab 0 a c) (ab 0 a d) g f e)) (bz (aj a (ab 0 a b) (ab 0 a c) (ab 0 a d) g f e))) (ab 0 (an (aj a (ab 0 a b) (ab 0 a c) (ab 0 a d) g f e)) (bB (aj a (ab 0 a b) (ab 0 a c) (ab 0 a d) g f e))) (an (aj a (ab 0 a b) (ab 0 a c) (ab 0 a d) h f e)) (ab 0 (an (aj a (ab 0 a b) (ab 0 a c) (ab 0 a d) h f e)) (bx (aj a (ab 0 a b) (ab 0 a c) (ab 0 a d) h f e))) (ab 0 (an (aj a (ab 0 a b) (ab 0 a c) (ab 0 a d) h f e)) (bz (aj a (ab 0 a b) (ab 0 a c) (ab 0 a d) h f e))) (ab 0 (an (aj a (ab 0 a b) (ab 0 a c) (ab 0 a d) h f e)) (bB (aj a (ab 0 a b) (ab 0 a c) (ab 0 a d) h f e))))),(rg (de (an (aj a (ab 0 a b) (ab 0 a c) (ab 0 a d) g f e)) (ab 0 (an (aj a (ab 0 a b) (ab 0 a c) (ab 0 a d) g f e)) (bx (aj a (ab 0 a b) (ab 0 a c) (ab 0 a d) g f e))) (ab 0 (an (aj a (ab 0 a b) (ab 0 a c) (ab 0 a d) g f e)) (bz (aj a (ab 0 a b) (ab 0 a c) (ab 0 a d) g f e))) (ab 0 (an (aj a (ab 0 a b) (ab 0 a c) (ab 0 a d) g f e)) (bB (aj a (ab 0 a b) (ab 0 a c) (ab 0 a d) g f e))) (an (aj a (ab 0 a b) (ab 0 a c) (ab 0 a d) h f e)) (ab 0 (an (aj a (ab 0 a b) (ab 0 a c) (ab 0 a d) h f e)) (bx (aj a (ab 0 a b) (ab 0 a c) (ab 0 a d) h f e))) (ab 0 (an (aj a (ab 0 a b) (ab 0 a c) (ab 0 a d) h f e)) (bz (aj a (ab 0 a b) (ab 0 a c) (ab 0 a d) h f e))) (ab 0 (an (aj a (ab 0 a b) (ab 0 a c) (ab 0 a d) h f e)) (bB (aj a (ab 0 a b) (ab 0 a c) (ab 0 a d) h f e))))),(rh (de (an (aj a (ab 0 a b) (ab 0 a c) (ab 0 a d) g f e)) (ab 0 (an (aj a (ab 0 a b) (ab 0 a c) (ab 0 a d) g f e)) (bx (aj a (ab 0 a b) (ab 0 a c) (ab 0 a d) g f e))) (ab 0 (an (aj a (ab 0 a b) (ab 0 a c) (ab 0 a d) g f e)) (bz (aj a (ab 0 a b) (ab 0 a c) (ab 0 a d) g f e))) (ab 0 (an (aj a (ab 0 a b) (ab 0 a c) (ab 0 a d) g f e)) (bB (aj a (ab 0 a b) (ab 0 a c) (ab 0 a d) g f e))) (an (aj a (ab 0 a b) (ab 0 a c) (ab 0 a d) h f e)) (ab 0 (an (aj a (ab 0 a b) (ab 0 a c) (ab 0 a d) h f e)) (bx (aj a (ab 0 a b) (ab 0 a c) (ab 0 a d) h f e))) (ab 0 (an (aj a (ab 0 a b) (ab 0 a c) (ab 0 a d) h f e)) (bz (aj a (ab 0 a b) (ab 0 a c) (ab 0 a d) h f e))) (ab 0 (an (aj a (ab 0 a b) (ab 0 a c) (ab 0 a d) h f e)) (bB (aj a (ab 0 a b) (ab 0 a c) (ab 0 a d) h f e))))),(ri (de (an (aj a (ab 0 a b) (ab 0 a c) (ab 0 a d) g f e)) (ab 0 (an (aj a (ab 0 a b) (ab 0 a c) (ab 0 a d) g f e)) (bx (aj a (ab 0 a b) (ab 0 a c) (ab 0 a d) g f e))) (ab 0 (an (aj a (ab 0 a b) (ab 0 a c) (ab 0 a d) g f e)) (bz (aj a (ab 0 a b) (ab 0 a c) (ab 0 a d) g f e))) (ab 0 (an (aj a (ab 0 a b) (ab 0 a c) (ab 0 a d) g f e)) (bB (aj a (ab 0 a b) (ab 0 a c) (ab 0 a d) g f e))) (an (aj a (ab 0 a b) (ab 0 a c) (ab 0 a d) h f e)) (ab 0 (an (aj a (ab 0 a b) (ab 0 a c) (ab 0 a d) h f e)) (bx (aj a (ab 0 a b) (ab 0 a c) (ab 0 a d) h f e))) (ab 0 (an (aj a (ab 0 a b) (ab 0 a c) (ab 0 a d) h f e)) (bz (aj a (ab 0 a b) (ab 0 a c) (ab 0 a d) h f e))) (ab 0 (an (aj a (ab 0 a b) (ab 0 a c) (ab 0 a d) h f e)) (bB (aj a (ab 0 a b) (ab 0 a c) (ab 0 a d) h f e))))),(rj (de (an (aj a (ab 0 a b) (ab 0 a c) (ab 0 a d) g f e)) (ab 0 (an (aj a (ab 0 a b) (ab 0 a c) (ab 0 a d) g f e)) (bx (aj a (ab 0 a b) (ab 0 a c) (ab 0 a d) g f e))) (ab 0 (an (aj a (ab 0 a b) (ab 0 a c) (ab 0 a d) g f e)) (bz (aj a (ab 0 a b) (ab 0 a c) (ab 0 a d) g f e))) (ab 0 (an (aj a (ab 0 a b) (ab 0 a c) (ab 0 a d) g f e)) (bB (aj a (ab 0 a b) (ab 0 a c) (ab 0 a d) g f e))) (an (aj a (ab 0 a b) (ab 0 a c) (ab 0 a d) h f e)) (ab 0 (an (aj a (ab 0 a b) (ab 0 a c) (ab 0 a d) h f e)) (bx (aj a (ab 0 a b) (ab 0 a c) (ab 0 a d) h f e))) (ab 0 (an (aj a (ab 0 a b) (ab 0 a c) (ab 0 a d) h f e)) (bz (aj a (ab 0 a b) (ab 0 a c) (ab 0 a d) h f e))) (ab 0 (an (aj a (ab 0 a b) (ab 0 a c) (ab 0 a d) h f e)) (bB (aj a (ab 0 a b) (ab 0 a c) (ab 0 a d) h f e)))))))
def XS(b:Lv)(c:Bool)(d:Lv)(a:List Int)(e:Int)(f:Nat)(g:Bool)(h:Bool)(i:List Int)(j:Nat)(k:Nat)(l:Int)(m:Bool) :aQ:=⟨ao 43 [(4,.iptr b (.vs [.bool false c,.imm d (.ns .u64 a) 1 1 0 (List.length a),.int .i64 e]) 1 0 0),(7,.ptr 0 1 0 0),(9,.ptr 1 1 0 0),(10,.int .i64 ((f:Nat):Int)),(35,.bool false m)],[(0,.vs [.bool false g,.nsl,.int .i64 (0:Int)]),(1,.vs [.bool false h,.imm .free (.ns .u64 i) 1 1 j k,.int .i64 l])],2⟩
def AA(a:Int)(b:Int)(c:Nat) :T ((Bool)⊕(dF)) :=
  .ask (((c:Nat):Int) != (0:Int))
    (.leaf (.inl true))
    (.leaf (.inl (a != b)))
def XT:Nat×Bool×(List Int)×Nat×Nat×Int→aQ:=fun (a,b,c,d,e,f)=>⟨ao 43 [(7,.ptr 0 1 0 0),(8,.int .i64 ((a:Nat):Int))],[(0,.vs [.bool false b,.imm .free (.ns .u64 c) 1 1 d e,.int .i64 f])],1⟩
def AB(g:Bool)(a:List Int)(h:Int)(i:Nat)(e:Bool)(b:List Int)(c:Nat)(d:Nat)(f:Int)(j:Bool) :T ((Nat×Bool×(List Int)×Nat×Nat×Int)⊕(dF)) :=
  .ask j
    (.leaf (.inr (.r0 i e b c d f)))
    (.need (aP c d b)<|.need (aP 0 (List.length a) a)<|.need (xI (fK e (ab c d b) f g (ab 0 (List.length a) a) h))<|.leaf (.inl ((xd (fK e (ab c d b) f g (ab 0 (List.length a) a) h)),(xe (fK e (ab c d b) f g (ab 0 (List.length a) a) h)),(xf (fK e (ab c d b) f g (ab 0 (List.length a) a) h)),(xg (fK e (ab c d b) f g (ab 0 (List.length a) a) h)),(xh (fK e (ab c d b) f g (ab 0 (List.length a) a) h)),(xi (fK e (ab c d b) f g (ab 0 (List.length a) a) h)))))
def XU(a:Nat)(b:Bool)(c:List Int)(d:Nat)(e:Nat)(f:Int) :T ((Empty)⊕(dF)) :=
  .leaf (.inr (.r0 a b c d e f))
def dU(a:Int)(b:Int)(d:Nat)(e:List Bool)(f:List (List Int))(g:List Int)(h:Int)(i:Int)(j:Bool)(k:List Int)(l:Int) :Option dF:=jR (aE ((Az a b d e f g h i).run) fun (c,y,m,n,o,p,q) =>
  aE ((AA a b c).run) fun r =>
  aE ((AB j k l c m n o p q r).run) fun (s,t,u,v,w,x) =>
  (XU s t u v w x).run)
theorem XV(d:Int)(e:Int)(p:Lv)(q:Lv)(f:Nat)(j:List Bool)(k:List (List Int))(l:List Int)(r:Lv)(m:Int)(n:Int)(s:Lv)(o:List Nat)(g:Lv)(b:Bool)(i:Lv)(a:List Int)(c:Int){x:dF}(h:dU d e f j k l m n b a c=some x) :aw prog eU [] [.int .i64 d,.int .i64 e,.iptr p (.vs [.imm q (.cols f [.cb j,.cns .u64 k,.ci .i64 l]) 3 3 0 f]) 1 0 0,.iptr r (.vs [.int .i64 m,.int .i64 n,.imm s (.fl o) 1 1 0 (List.length o)]) 1 0 0,.iptr g (.vs [.bool false b,.imm i (.ns .u64 a) 1 1 0 (List.length a),.int .i64 c]) 1 0 0] (DJ x) :=
  kp false DJ Le h (Sg.cut 2 Ay (bk rl (XR d e g b i a c) [⟨[],[0,320],[0,1,4,7,9,10]⟩]) (fun ⟨t,u,v,w,y,z,A⟩=>Sg.cut 1 Ay (bk rl (XS g b i a c t u v w y z A) [⟨[],[0,1],[4,7,9,10,35]⟩,⟨[],[0,1],[4,7,9,10,35]⟩]) (fun H=>Sg.cut 2 Ay (bk rl XT [⟨[],[0],[7,8]⟩,⟨[],[0],[7,8]⟩]) (fun ⟨I,J,K,L,M,N⟩=>bk rl _ [⟨[],[0],[7,8]⟩]))))
    (fun x=>by cases x with | r0 B C D E F G=>exact jT [.agg [.bool false C,.imm .free (.ns .u64 D) 1 1 E F,.int .i64 G],.int .i64 ((B:Nat):Int)])
def pS:Option dF→Bool
  | some _=>true
  | none=>false
def lu:Option dF→Nat
  | some (.r0 x _ _ _ _ _)=>x
  | _=>0
def qn:Option dF→Bool
  | some (.r0 _ x _ _ _ _)=>x
  | _=>false
def nG:Option dF→List Int
  | some (.r0 _ _ x _ _ _)=>x
  | _=>[]
def nH:Option dF→Nat
  | some (.r0 _ _ _ x _ _)=>x
  | _=>0
def nI:Option dF→Nat
  | some (.r0 _ _ _ _ x _)=>x
  | _=>0
def qo:Option dF→Int
  | some (.r0 _ _ _ _ _ x)=>x
  | _=>0
theorem XW{x:Option dF}(h:pS x=true) :x=some (.r0 (lu x) (qn x) (nG x) (nH x) (nI x) (qo x)):=by
  unfold pS at h
  split at h <;> first | rfl | (cases h;done) | (rename_i y;cases y;rfl)
def Lf:aL:=bJ eU (.cons (.int .i64) (.cons (.int .i64) (.cons (.ivs (.cons (.cols [.cb,.cns .u64,.ci .i64]) .nil) 1 0 0) (.cons (.ivs (.cons (.int .i64) (.cons (.int .i64) (.cons .fl .nil))) 1 0 0) (.cons (.ivs (.cons .bool (.cons (.ns .u64) (.cons (.int .i64) .nil))) 1 0 0) .nil))))) fun t=>(fun q=>[⟨DJ (.r0 (lu q) (qn q) (nG q) (nH q) (nI q) (qo q)),[pS q]⟩]) (dU t.1 t.2.1 t.2.2.1.2.1.2.1 t.2.2.1.2.1.2.2.1 t.2.2.1.2.1.2.2.2.1 t.2.2.1.2.1.2.2.2.2.1 t.2.2.2.1.2.1 t.2.2.2.1.2.2.1 t.2.2.2.2.1.2.1 t.2.2.2.2.1.2.2.1.2 t.2.2.2.2.1.2.2.2.1)
theorem Ri:aV prog Lf:=aR fun t=>(aS (fun h=>XV t.1 t.2.1 t.2.2.1.1 t.2.2.1.2.1.1 t.2.2.1.2.1.2.1 t.2.2.1.2.1.2.2.1 t.2.2.1.2.1.2.2.2.1 t.2.2.1.2.1.2.2.2.2.1 t.2.2.2.1.1 t.2.2.2.1.2.1 t.2.2.2.1.2.2.1 t.2.2.2.1.2.2.2.1.1 t.2.2.2.1.2.2.2.1.2 t.2.2.2.2.1.1 t.2.2.2.2.1.2.1 t.2.2.2.2.1.2.2.1.1 t.2.2.2.2.1.2.2.1.2 t.2.2.2.2.1.2.2.2.1 (XW h)) aZ)
def Lg:List aL:=Lf :: XQ
theorem eu:bd prog (bf Lg):=au Ri rl
inductive aM where
  | r0 (a:Nat) (b:Bool) (c:List Int) (d:Nat) (e:Nat) (f:Int)
def eI:aM→AE×aQ
  | .r0 a b c d e f=>(.ret,⟨ao 46 [(4,.ptr 0 1 0 0),(5,.int .i64 ((a:Nat):Int))],[(0,.vs [.bool false b,.imm .free (.ns .u64 c) 1 1 d e,.int .i64 f])],1⟩)
theorem bC:jC eI:=by intro x;cases x <;> (intro h;cases h)
theorem jO(id:Nat) :m5 id eI:=by intro x;cases x <;> (intro h;cases h)
def kf:aM→gX
  | .r0 a b c d e f=>⟨.tup [.agg [.bool false b,.imm .free (.ns .u64 c) 1 1 d e,.int .i64 f],.int .i64 ((a:Nat):Int)],[]⟩
def jq:List Code:=cP (nO lE)
def wa(d:Int)(e:Int)(f:Lv)(g:Lv)(a:Nat)(h:List Bool)(i:List (List Int))(j:List Int)(k:Lv)(l:Int)(m:Int)(n:Lv)(b:List Nat)(o:Lv)(p:Bool)(q:Lv)(c:List Int)(r:Int)(s:Bool) :aQ:=⟨ao 46 [(1,.fn (.func eU) [] [.iptr f (.vs [.imm g (.cols a [.cb h,.cns .u64 i,.ci .i64 j]) 3 3 0 a]) 1 0 0,.iptr k (.vs [.int .i64 l,.int .i64 m,.imm n (.fl b) 1 1 0 (List.length b)]) 1 0 0,.iptr o (.vs [.bool false p,.imm q (.ns .u64 c) 1 1 0 (List.length c),.int .i64 r]) 1 0 0]),(2,.ptr 0 1 0 0),(4,.ptr 1 1 0 0)],[(0,.vs [.int .i64 d,.int .i64 e]),(1,.vs [.bool false s,.nsl,.int .i64 (0:Int)])],2⟩
def vk:T ((Bool)⊕(aM)) :=
  .leaf (.inl false)
def vl:List Code:=cP (JN (((jq.drop 1)).headD .skip))
def wb(a:Int)(e:Int)(f:Lv)(g:Lv)(b:Nat)(h:List Bool)(i:List (List Int))(j:List Int)(k:Lv)(l:Int)(m:Int)(n:Lv)(c:List Nat)(o:Lv)(p:Bool)(q:Lv)(d:List Int)(r:Int)(s:Bool)(_:Unit) :aQ:=⟨ao 46 [(1,.fn (.func eU) [] [.iptr f (.vs [.imm g (.cols b [.cb h,.cns .u64 i,.ci .i64 j]) 3 3 0 b]) 1 0 0,.iptr k (.vs [.int .i64 l,.int .i64 m,.imm n (.fl c) 1 1 0 (List.length c)]) 1 0 0,.iptr o (.vs [.bool false p,.imm q (.ns .u64 d) 1 1 0 (List.length d),.int .i64 r]) 1 0 0]),(2,.ptr 0 1 0 0),(4,.ptr 1 1 0 0),(6,.nsl),(7,.int .i64 (0:Int)),(13,.int .i64 a),(14,.int .i64 (0:Int))],[(0,.vs [.int .i64 a,.int .i64 e]),(1,.vs [.bool false s,.nsl,.int .i64 (0:Int)])],2⟩
def vm:T ((Unit)⊕(aM)) :=
  .leaf (.inl ())
def jr(a:Int)(e:Int)(f:Lv)(g:Lv)(b:Nat)(h:List Bool)(i:List (List Int))(j:List Int)(k:Lv)(l:Int)(m:Int)(n:Lv)(c:List Nat)(o:Lv)(p:Bool)(q:Lv)(d:List Int)(r:Int)(s:Bool) :Nat×Nat×Nat×Nat×Nat×(List Bool)×(List (List Int))×(List Int)→aQ:=fun (t,u,v,w,x,y,z,A)=>⟨ao 46 [(1,.fn (.func eU) [] [.iptr f (.vs [.imm g (.cols b [.cb h,.cns .u64 i,.ci .i64 j]) 3 3 0 b]) 1 0 0,.iptr k (.vs [.int .i64 l,.int .i64 m,.imm n (.fl c) 1 1 0 (List.length c)]) 1 0 0,.iptr o (.vs [.bool false p,.imm q (.ns .u64 d) 1 1 0 (List.length d),.int .i64 r]) 1 0 0]),(2,.ptr 0 1 0 0),(4,.ptr 1 1 0 0),(6,.sl 2 3 3 0 t u),(7,.int .i64 ((v:Nat):Int)),(13,.int .i64 a),(14,.int .i64 ((w:Nat):Int))],[(0,.vs [.int .i64 a,.int .i64 e]),(1,.vs [.bool false s,.nsl,.int .i64 (0:Int)]),(2,.cols x [.cb y,.cns .u64 z,.ci .i64 A])],3⟩
def js(a:Bool) :Nat×Nat×Nat×Nat×(List Bool)×(List (List Int))×(List Int)→aQ:=fun (b,c,d,e,f,g,h)=>⟨ao 46 [(4,.ptr 0 1 0 0),(6,.sl 1 3 3 0 b c),(7,.int .i64 ((d:Nat):Int))],[(0,.vs [.bool false a,.nsl,.int .i64 (0:Int)]),(1,.cols e [.cb f,.cns .u64 g,.ci .i64 h])],2⟩
def ng:List Code:=cP (dD ((((vl.drop 3).take 1)).headD .skip))
def vn(a:Int)(e:Int)(f:Lv)(g:Lv)(b:Nat)(h:List Bool)(i:List (List Int))(j:List Int)(k:Lv)(l:Int)(m:Int)(n:Lv)(c:List Nat)(o:Lv)(p:Bool)(q:Lv)(d:List Int)(r:Int)(s:Bool)(t:Nat)(u:Nat)(v:Nat)(w:Nat)(x:Nat)(y:List Bool)(z:List (List Int))(A:List Int)(_:Unit) :aQ:=⟨ao 46 [(1,.fn (.func eU) [] [.iptr f (.vs [.imm g (.cols b [.cb h,.cns .u64 i,.ci .i64 j]) 3 3 0 b]) 1 0 0,.iptr k (.vs [.int .i64 l,.int .i64 m,.imm n (.fl c) 1 1 0 (List.length c)]) 1 0 0,.iptr o (.vs [.bool false p,.imm q (.ns .u64 d) 1 1 0 (List.length d),.int .i64 r]) 1 0 0]),(2,.ptr 0 1 0 0),(4,.ptr 1 1 0 0),(6,.sl 2 3 3 0 t u),(7,.int .i64 ((v:Nat):Int)),(13,.int .i64 a),(14,.int .i64 ((w:Nat):Int))],[(0,.vs [.int .i64 a,.int .i64 e]),(1,.vs [.bool false s,.nsl,.int .i64 (0:Int)]),(2,.cols x [.cb y,.cns .u64 z,.ci .i64 A])],3⟩
def jt(a:Int)(b:Nat)(c:Nat)(d:Nat)(e:Nat)(f:Nat)(g:List Bool)(h:List (List Int))(i:List Int) :T ((Unit)⊕((Nat×Nat×Nat×Nat×(List Bool)×(List (List Int))×(List Int))⊕(aM))) :=
  .ask (decide (((e:Nat):Int) < a))
    (.leaf (.inl ()))
    (.leaf (.inr (.inl (b,c,d,f,g,h,i))))
def nh(a:Int)(e:Int)(f:Lv)(g:Lv)(b:Nat)(h:List Bool)(i:List (List Int))(j:List Int)(k:Lv)(l:Int)(m:Int)(n:Lv)(c:List Nat)(o:Lv)(p:Bool)(q:Lv)(d:List Int)(r:Int)(s:Bool)(t:Nat) :Nat×Nat×Nat×Nat×(List Bool)×(List (List Int))×(List Int)→aQ:=fun (u,v,w,x,y,z,A)=>⟨ao 46 [(1,.fn (.func eU) [] [.iptr f (.vs [.imm g (.cols b [.cb h,.cns .u64 i,.ci .i64 j]) 3 3 0 b]) 1 0 0,.iptr k (.vs [.int .i64 l,.int .i64 m,.imm n (.fl c) 1 1 0 (List.length c)]) 1 0 0,.iptr o (.vs [.bool false p,.imm q (.ns .u64 d) 1 1 0 (List.length d),.int .i64 r]) 1 0 0]),(2,.ptr 0 1 0 0),(4,.ptr 1 1 0 0),(6,.sl 2 3 3 0 u v),(7,.int .i64 ((w:Nat):Int)),(13,.int .i64 a),(14,.int .i64 ((t:Nat):Int))],[(0,.vs [.int .i64 a,.int .i64 e]),(1,.vs [.bool false s,.nsl,.int .i64 (0:Int)]),(2,.cols x [.cb y,.cns .u64 z,.ci .i64 A])],3⟩
def vo:List Code:=cP (inBlock ((((ng.drop 2).take 1)).headD .skip))
def vp(a:Int)(b:Int)(g:Lv)(h:Lv)(c:Nat)(i:List Bool)(j:List (List Int))(k:List Int)(l:Lv)(m:Int)(n:Int)(o:Lv)(d:List Nat)(p:Lv)(q:Bool)(r:Lv)(e:List Int)(s:Int)(t:Bool)(u:Nat)(v:Nat)(w:Nat)(f:Nat)(x:Nat)(y:List Bool)(z:List (List Int))(A:List Int)(_:Unit) :aQ:=⟨ao 46 [(1,.fn (.func eU) [] [.iptr g (.vs [.imm h (.cols c [.cb i,.cns .u64 j,.ci .i64 k]) 3 3 0 c]) 1 0 0,.iptr l (.vs [.int .i64 m,.int .i64 n,.imm o (.fl d) 1 1 0 (List.length d)]) 1 0 0,.iptr p (.vs [.bool false q,.imm r (.ns .u64 e) 1 1 0 (List.length e),.int .i64 s]) 1 0 0]),(2,.ptr 0 1 0 0),(4,.ptr 1 1 0 0),(6,.sl 2 3 3 0 u v),(7,.int .i64 ((w:Nat):Int)),(8,.int .i64 ((f:Nat):Int)),(13,.int .i64 a),(14,.int .i64 ((f:Nat):Int)),(18,.int .i64 b),(19,.int .i64 (0:Int))],[(0,.vs [.int .i64 a,.int .i64 b]),(1,.vs [.bool false t,.nsl,.int .i64 (0:Int)]),(2,.cols x [.cb y,.cns .u64 z,.ci .i64 A])],3⟩
def vq:T ((Unit)⊕((Nat×Nat×Nat×Nat×(List Bool)×(List (List Int))×(List Int))⊕((Nat×Nat×Nat×Nat×(List Bool)×(List (List Int))×(List Int))⊕(aM)))) :=
  .leaf (.inl ())
def ju(a:Int)(b:Int)(g:Lv)(h:Lv)(c:Nat)(i:List Bool)(j:List (List Int))(k:List Int)(l:Lv)(m:Int)(n:Int)(o:Lv)(d:List Nat)(p:Lv)(q:Bool)(r:Lv)(e:List Int)(s:Int)(t:Bool)(f:Nat) :Nat×Nat×Nat×Nat×Nat×(List Bool)×(List (List Int))×(List Int)→aQ:=fun (u,v,w,x,y,z,A,B)=>⟨ao 46 [(1,.fn (.func eU) [] [.iptr g (.vs [.imm h (.cols c [.cb i,.cns .u64 j,.ci .i64 k]) 3 3 0 c]) 1 0 0,.iptr l (.vs [.int .i64 m,.int .i64 n,.imm o (.fl d) 1 1 0 (List.length d)]) 1 0 0,.iptr p (.vs [.bool false q,.imm r (.ns .u64 e) 1 1 0 (List.length e),.int .i64 s]) 1 0 0]),(2,.ptr 0 1 0 0),(4,.ptr 1 1 0 0),(6,.sl 2 3 3 0 u v),(7,.int .i64 ((w:Nat):Int)),(8,.int .i64 ((f:Nat):Int)),(13,.int .i64 a),(14,.int .i64 ((f:Nat):Int)),(18,.int .i64 b),(19,.int .i64 ((x:Nat):Int))],[(0,.vs [.int .i64 a,.int .i64 b]),(1,.vs [.bool false t,.nsl,.int .i64 (0:Int)]),(2,.cols y [.cb z,.cns .u64 A,.ci .i64 B])],3⟩
def ni(a:Int)(e:Int)(f:Lv)(g:Lv)(b:Nat)(h:List Bool)(i:List (List Int))(j:List Int)(k:Lv)(l:Int)(m:Int)(n:Lv)(c:List Nat)(o:Lv)(p:Bool)(q:Lv)(d:List Int)(r:Int)(s:Bool)(t:Nat) :Nat×Nat×Nat×Nat×(List Bool)×(List (List Int))×(List Int)→aQ:=fun (u,v,w,x,y,z,A)=>⟨ao 46 [(1,.fn (.func eU) [] [.iptr f (.vs [.imm g (.cols b [.cb h,.cns .u64 i,.ci .i64 j]) 3 3 0 b]) 1 0 0,.iptr k (.vs [.int .i64 l,.int .i64 m,.imm n (.fl c) 1 1 0 (List.length c)]) 1 0 0,.iptr o (.vs [.bool false p,.imm q (.ns .u64 d) 1 1 0 (List.length d),.int .i64 r]) 1 0 0]),(2,.ptr 0 1 0 0),(4,.ptr 1 1 0 0),(6,.sl 2 3 3 0 u v),(7,.int .i64 ((w:Nat):Int)),(13,.int .i64 a),(14,.int .i64 ((t:Nat):Int))],[(0,.vs [.int .i64 a,.int .i64 e]),(1,.vs [.bool false s,.nsl,.int .i64 (0:Int)]),(2,.cols x [.cb y,.cns .u64 z,.ci .i64 A])],3⟩
def vr:List Code:=cP (dD ((((vo.drop 2).take 1)).headD .skip))
def vt(b:Int)(c:Int)(h:Lv)(i:Lv)(d:Nat)(j:List Bool)(k:List (List Int))(l:List Int)(m:Lv)(n:Int)(o:Int)(p:Lv)(e:List Nat)(q:Lv)(r:Bool)(s:Lv)(f:List Int)(t:Int)(u:Bool)(g:Nat)(v:Nat) :Nat×Nat×(List Bool)×(List (List Int))×(List Int)→aQ:=fun (a,w,x,y,z)=>⟨ao 46 [(1,.fn (.func eU) [] [.iptr h (.vs [.imm i (.cols d [.cb j,.cns .u64 k,.ci .i64 l]) 3 3 0 d]) 1 0 0,.iptr m (.vs [.int .i64 n,.int .i64 o,.imm p (.fl e) 1 1 0 (List.length e)]) 1 0 0,.iptr q (.vs [.bool false r,.imm s (.ns .u64 f) 1 1 0 (List.length f),.int .i64 t]) 1 0 0]),(2,.ptr 0 1 0 0),(4,.ptr 1 1 0 0),(6,.sl 2 3 3 0 a a),(7,.int .i64 ((w:Nat):Int)),(8,.int .i64 ((g:Nat):Int)),(13,.int .i64 b),(14,.int .i64 ((g:Nat):Int)),(18,.int .i64 c),(19,.int .i64 ((v:Nat):Int))],[(0,.vs [.int .i64 b,.int .i64 c]),(1,.vs [.bool false u,.nsl,.int .i64 (0:Int)]),(2,.cols a [.cb x,.cns .u64 y,.ci .i64 z])],3⟩
def fu(s:Int)(a:Nat)(d:List Bool)(e:List (List Int))(f:List Int)(g:Int)(h:Int)(q:List Nat)(i:Bool)(b:List Int)(j:Int)(k:Nat)(l:Nat)(r:Nat)(t:Nat)(c:Nat)(m:Nat)(n:List Bool)(o:List (List Int))(p:List Int) :T ((Nat×Nat×(List Bool)×(List (List Int))×(List Int))⊕((Nat×Nat×Nat×Nat×(List Bool)×(List (List Int))×(List Int))⊕((Nat×Nat×Nat×Nat×(List Bool)×(List (List Int))×(List Int))⊕((Nat×Nat×Nat×Nat×(List Bool)×(List (List Int))×(List Int))⊕(aM))))) :=
  .ask (decide (((c:Nat):Int) < s))
    (.need (Nat.ble (0+a) a)<|.need (aP 0 (List.length q) q)<|.need (aP 0 (List.length b) b)<|.need (pS (dU ((k:Nat):Int) ((c:Nat):Int) a (ab 0 a d) (ab 0 a e) (ab 0 a f) g h i (ab 0 (List.length b) b) j))<|.ask ((((lu (dU ((k:Nat):Int) ((c:Nat):Int) a (ab 0 a d) (ab 0 a e) (ab 0 a f) g h i (ab 0 (List.length b) b) j)):Nat):Int) != (0:Int))
      (.leaf (.inr (.inr (.inr (.inl (l,r,(lu (dU ((k:Nat):Int) ((c:Nat):Int) a (ab 0 a d) (ab 0 a e) (ab 0 a f) g h i (ab 0 (List.length b) b) j)),m,n,o,p))))))
      (.need (qv ((l+1) * 40) 140737488355328)<|.need (qv (l+1) 9223372036854775807)<|.need (qv 3 3)<|.need (qv l m)<|.need (decide ((nH (dU ((k:Nat):Int) ((c:Nat):Int) a (ab 0 a d) (ab 0 a e) (ab 0 a f) g h i (ab 0 (List.length b) b) j))+(nI (dU ((k:Nat):Int) ((c:Nat):Int) a (ab 0 a d) (ab 0 a e) (ab 0 a f) g h i (ab 0 (List.length b) b) j))≤List.length (nG (dU ((k:Nat):Int) ((c:Nat):Int) a (ab 0 a d) (ab 0 a e) (ab 0 a f) g h i (ab 0 (List.length b) b) j))))<|.leaf (.inl ((l+1),(lu (dU ((k:Nat):Int) ((c:Nat):Int) a (ab 0 a d) (ab 0 a e) (ab 0 a f) g h i (ab 0 (List.length b) b) j)),((List.take l n) ++ [(qn (dU ((k:Nat):Int) ((c:Nat):Int) a (ab 0 a d) (ab 0 a e) (ab 0 a f) g h i (ab 0 (List.length b) b) j))]),((List.take l o) ++ [(List.take (nI (dU ((k:Nat):Int) ((c:Nat):Int) a (ab 0 a d) (ab 0 a e) (ab 0 a f) g h i (ab 0 (List.length b) b) j)) (List.drop (nH (dU ((k:Nat):Int) ((c:Nat):Int) a (ab 0 a d) (ab 0 a e) (ab 0 a f) g h i (ab 0 (List.length b) b) j)) (nG (dU ((k:Nat):Int) ((c:Nat):Int) a (ab 0 a d) (ab 0 a e) (ab 0 a f) g h i (ab 0 (List.length b) b) j))))]),((List.take l p) ++ [(qo (dU ((k:Nat):Int) ((c:Nat):Int) a (ab 0 a d) (ab 0 a e) (ab 0 a f) g h i (ab 0 (List.length b) b) j))])))))
    (.leaf (.inr (.inl (l,r,t,m,n,o,p))))
def vu(b:Nat)(a:Nat)(c:Nat)(d:List Bool)(e:List (List Int))(f:List Int) :T ((Nat×Nat×Nat×Nat×Nat×(List Bool)×(List (List Int))×(List Int))⊕((Nat×Nat×Nat×Nat×(List Bool)×(List (List Int))×(List Int))⊕((Nat×Nat×Nat×Nat×(List Bool)×(List (List Int))×(List Int))⊕((Nat×Nat×Nat×Nat×(List Bool)×(List (List Int))×(List Int))⊕(aM))))) :=
  .need (dn .i64 (((b+1):Nat):Int))<|.leaf (.inl (a,a,c,(b+1),a,d,e,f))
def jv(b:Int)(c:Nat)(d:List Bool)(e:List (List Int))(f:List Int)(g:Int)(h:Int)(i:List Nat)(j:Bool)(k:List Int)(l:Int)(m:Nat) :Nat×Nat×Nat×Nat×Nat×(List Bool)×(List (List Int))×(List Int)→Option ((Nat×Nat×Nat×Nat×Nat×(List Bool)×(List (List Int))×(List Int))⊕((Nat×Nat×Nat×Nat×(List Bool)×(List (List Int))×(List Int))⊕((Nat×Nat×Nat×Nat×(List Bool)×(List (List Int))×(List Int))⊕((Nat×Nat×Nat×Nat×(List Bool)×(List (List Int))×(List Int))⊕(aM))))):=fun (n,o,p,a,q,r,s,t) =>
  aE ((fu b c d e f g h i j k l m n o p a q r s t).run) fun (u,v,w,x,y) =>
  (vu a u v w x y).run
theorem vv(n:Int)(a:Int)(o:Lv)(p:Lv)(b:Nat)(c:List Bool)(d:List (List Int))(e:List Int)(q:Lv)(f:Int)(g:Int)(r:Lv)(h:List Nat)(s:Lv)(i:Bool)(t:Lv)(j:List Int)(k:Int)(l:Bool)(m:Nat)(v:Nat)(w:Nat)(x:Nat)(u:Nat)(y:Nat)(z:List Bool)(A:List (List Int))(B:List Int) :Sg prog [] vr (ju n a o p b c d e q f g r h s i t j k l m (v,w,x,u,y,z,A,B)) (jv a b c d e f g h i j k m (v,w,x,u,y,z,A,B)) (ju n a o p b c d e q f g r h s i t j k l m) (cL 2 (ni n a o p b c d e q f g r h s i t j k l m) (cL 1 (nh n a o p b c d e q f g r h s i t j k l m) (cL 0 (js l) eI))):=by
  unfold jv;exact Sg.cut 3 (ay (ay (ay bC))) (bk eu (vt n a o p b c d e q f g r h s i t j k l m u) [⟨[],[1,2],[4,6,7]⟩,⟨[],[0,1,323],[1,2,4,6,7,8,13,14,18,19]⟩,⟨[],[0,1,2],[1,2,4,6,7,13,14]⟩]) (fun ⟨C,D,E,F,G⟩=>bk eu _ [⟨[],[0,1,2],[1,2,4,6,7,8,13,14,18,19]⟩])
def vw(a:Nat)(b:Nat)(c:Nat)(d:Nat)(e:List Bool)(f:List (List Int))(g:List Int) :T ((Nat×Nat×Nat×Nat×(List Bool)×(List (List Int))×(List Int))⊕((Nat×Nat×Nat×Nat×(List Bool)×(List (List Int))×(List Int))⊕((Nat×Nat×Nat×Nat×(List Bool)×(List (List Int))×(List Int))⊕(aM)))) :=
  .leaf (.inl (a,b,c,d,e,f,g))
def vx(a:Nat)(b:Nat)(c:Nat)(d:Nat)(e:Nat)(f:List Bool)(g:List (List Int))(h:List Int) :T ((Nat×Nat×Nat×Nat×Nat×(List Bool)×(List (List Int))×(List Int))⊕((Nat×Nat×Nat×Nat×(List Bool)×(List (List Int))×(List Int))⊕(aM))) :=
  .need (dn .i64 (((a+1):Nat):Int))<|.leaf (.inl (b,c,d,(a+1),e,f,g,h))
def jw(i:Int)(j:Int)(k:Nat)(l:List Bool)(m:List (List Int))(n:List Int)(o:Int)(p:Int)(q:List Nat)(r:Bool)(s:List Int)(t:Int) :Nat×Nat×Nat×Nat×Nat×(List Bool)×(List (List Int))×(List Int)→Option ((Nat×Nat×Nat×Nat×Nat×(List Bool)×(List (List Int))×(List Int))⊕((Nat×Nat×Nat×Nat×(List Bool)×(List (List Int))×(List Int))⊕(aM))):=fun (b,c,d,a,e,f,g,h) =>
  aE ((jt i b c d a e f g h).run) fun _ =>
  aE (GX (aE ((vq).run) fun _ =>
  aE (dc (jv j k l m n o p q r s t a) (b,c,d,0,e,f,g,h)) fun (u,v,w,x,y,z,A) =>
  (vw u v w x y z A).run)) fun (B,C,D,E,F,G,H) =>
  (vx a B C D E F G H).run
theorem vy(a:Int)(b:Int)(n:Lv)(o:Lv)(c:Nat)(d:List Bool)(e:List (List Int))(f:List Int)(p:Lv)(g:Int)(h:Int)(q:Lv)(i:List Nat)(r:Lv)(j:Bool)(s:Lv)(k:List Int)(l:Int)(m:Bool)(u:Nat)(v:Nat)(w:Nat)(t:Nat)(x:Nat)(y:List Bool)(z:List (List Int))(A:List Int) :Sg prog [] ng (jr a b n o c d e f p g h q i r j s k l m (u,v,w,t,x,y,z,A)) (jw a b c d e f g h i j k l (u,v,w,t,x,y,z,A)) (jr a b n o c d e f p g h q i r j s k l m) (cL 0 (js m) eI):=by
  unfold jw;exact Sg.cut 2 (ay bC) (bk eu (vn a b n o c d e f p g h q i r j s k l m u v w t x y z A) [⟨[],[0,1,2],[1,2,4,6,7,13,14]⟩,⟨[],[1,2],[4,6,7]⟩]) (fun _=>Sg.cut 1 (ay bC) (sgb (nh a b n o c d e f p g h q i r j s k l m t) 1 (ay bC) (cZ (by decide) (jO _)) (Sg.cut 2 (ay (ay bC)) (bk eu (vp a b n o c d e f p g h q i r j s k l m u v w t x y z A) [⟨[],[0,1,2],[1,2,4,6,7,8,13,14,18,19]⟩]) (fun _=>Sg.cut 1 (ay (ay bC)) (BM ⟨[],[0,1,2],[1,2,4,6,7,8,13,14,18,19]⟩ (ju a b n o c d e f p g h q i r j s k l m t) (ni a b n o c d e f p g h q i r j s k l m t) 2 (ay (ay bC)) (cZ (by decide) (cZ (by decide) (jO _))) (fun ⟨B,C,D,E,F,G,H,I⟩=>vv a b n o c d e f p g h q i r j s k l m t B C D E F G H I)) (fun ⟨J,K,L,M,N,O,P⟩=>bk eu _ [⟨[],[0,1,2],[1,2,4,6,7,13,14]⟩])))) (fun ⟨Q,R,S,T,U,V,W⟩=>bk eu _ [⟨[],[0,1,2],[1,2,4,6,7,13,14]⟩]))
def vz:Nat×Bool×(List Int)×Nat×Nat×Int→aQ:=fun (a,b,c,d,e,f)=>⟨ao 46 [(4,.ptr 0 1 0 0),(5,.int .i64 ((a:Nat):Int))],[(0,.vs [.bool false b,.imm .free (.ns .u64 c) 1 1 d e,.int .i64 f])],1⟩
def jx(a:Nat)(e:Nat)(f:Nat)(b:List Bool)(c:List (List Int))(d:List Int) :T ((Nat×Bool×(List Int)×Nat×Nat×Int)⊕(aM)) :=
  .ask (((e:Nat):Int) != (0:Int))
    (.leaf (.inr (.r0 e false ([]:List Int) 0 0 (0:Int))))
    (.need (Nat.ble (0+a) f)<|.need (mb (bP a (ab 0 a b) (ab 0 a c) (ab 0 a d)))<|.leaf (.inl ((mE (bP a (ab 0 a b) (ab 0 a c) (ab 0 a d))),(mF (bP a (ab 0 a b) (ab 0 a c) (ab 0 a d))),(mG (bP a (ab 0 a b) (ab 0 a c) (ab 0 a d))),(mH (bP a (ab 0 a b) (ab 0 a c) (ab 0 a d))),(mI (bP a (ab 0 a b) (ab 0 a c) (ab 0 a d))),(mJ (bP a (ab 0 a b) (ab 0 a c) (ab 0 a d))))))
def vA(a:Nat)(b:Bool)(c:List Int)(d:Nat)(e:Nat)(f:Int) :T ((Empty)⊕(aM)) :=
  .leaf (.inr (.r0 a b c d e f))
def bR(a:Int)(b:Int)(c:Nat)(d:List Bool)(e:List (List Int))(f:List Int)(g:Int)(h:Int)(i:List Nat)(j:Bool)(k:List Int)(l:Int) :Option aM:=jR (aE ((vk).run) fun y =>
  aE ((vm).run) fun _ =>
  aE (dc (jw a b c d e f g h i j k l) (0,0,0,0,0,([]:List Bool),([]:List (List Int)),([]:List Int))) fun (m,z,n,o,p,q,r) =>
  aE ((jx m n o p q r).run) fun (s,t,u,v,w,x) =>
  (vA s t u v w x).run)
theorem wc(d:Int)(e:Int)(n:Lv)(o:Lv)(a:Nat)(f:List Bool)(g:List (List Int))(i:List Int)(p:Lv)(j:Int)(k:Int)(q:Lv)(b:List Nat)(r:Lv)(l:Bool)(s:Lv)(c:List Int)(m:Int){x:aM}(h:bR d e a f g i j k b l c m=some x) :aw prog lE [] [.agg [.int .i64 d,.int .i64 e],.fn (.func eU) [] [.iptr n (.vs [.imm o (.cols a [.cb f,.cns .u64 g,.ci .i64 i]) 3 3 0 a]) 1 0 0,.iptr p (.vs [.int .i64 j,.int .i64 k,.imm q (.fl b) 1 1 0 (List.length b)]) 1 0 0,.iptr r (.vs [.bool false l,.imm s (.ns .u64 c) 1 1 0 (List.length c),.int .i64 m]) 1 0 0]] (kf x) :=
  kp true kf eI h (Sg.cut 1 bC (bk eu (wa d e n o a f g i p j k q b r l s c m) [⟨[],[0,16],[1,2,4]⟩]) (fun t=>Mj (by kernel_rfl:(jq.drop 1) = [.scope (JN (((jq.drop 1)).headD .skip))]) bC (Sg.cut 3 bC (bk eu (wb d e n o a f g i p j k q b r l s c m t) [⟨[],[0,1],[1,2,4,6,7,13,14]⟩]) (fun _=>Sg.cut 1 bC (BM ⟨[(.slot 6,.own 3 3 (.cols 0 [.cb ([]:List Bool),.cns .u64 ([]:List (List Int)),.ci .i64 ([]:List Int)]))],[0,1,2],[1,2,4,6,7,13,14]⟩ (jr d e n o a f g i p j k q b r l s c m t) (js t) 0 bC (jO _) (fun ⟨u,v,w,y,z,A,B,C⟩=>vy d e n o a f g i p j k q b r l s c m t u v w y z A B C)) (fun ⟨J,K,L,M,N,O,P⟩=>Sg.cut 3 bC (bk eu vz [⟨[(.cell 0 1,.fre 1 1 (.ns .u64 ([]:List Int)))],[0],[4,5]⟩,⟨[],[0],[4,5]⟩]) (fun ⟨Q,R,S,T,U,V⟩=>bk eu _ [⟨[],[0],[4,5]⟩]))))))
    (fun x=>by cases x with | r0 D E F G H I=>exact jT [.agg [.bool false E,.imm .free (.ns .u64 F) 1 1 G H,.int .i64 I],.int .i64 ((D:Nat):Int)])
def gd:Option aM→Bool
  | some _=>true
  | none=>false
def iY:Option aM→Nat
  | some (.r0 x _ _ _ _ _)=>x
  | _=>0
def iZ:Option aM→Bool
  | some (.r0 _ x _ _ _ _)=>x
  | _=>false
def i0:Option aM→List Int
  | some (.r0 _ _ x _ _ _)=>x
  | _=>[]
def i4:Option aM→Nat
  | some (.r0 _ _ _ x _ _)=>x
  | _=>0
def i5:Option aM→Nat
  | some (.r0 _ _ _ _ x _)=>x
  | _=>0
def i6:Option aM→Int
  | some (.r0 _ _ _ _ _ x)=>x
  | _=>0
theorem wd{x:Option aM}(h:gd x=true) :x=some (.r0 (iY x) (iZ x) (i0 x) (i4 x) (i5 x) (i6 x)):=by
  unfold gd at h
  split at h <;> first | rfl | (cases h;done) | (rename_i y;cases y;rfl)
def nU:aL:=bJ lE (.cons (.agg (.cons (.int .i64) (.cons (.int .i64) .nil))) (.cons (.fn eU .nil (.cons (.ivs (.cons (.cols [.cb,.cns .u64,.ci .i64]) .nil) 1 0 0) (.cons (.ivs (.cons (.int .i64) (.cons (.int .i64) (.cons .fl .nil))) 1 0 0) (.cons (.ivs (.cons .bool (.cons (.ns .u64) (.cons (.int .i64) .nil))) 1 0 0) .nil)))) .nil)) fun t=>(fun q=>[⟨kf (.r0 (iY q) (iZ q) (i0 q) (i4 q) (i5 q) (i6 q)),[gd q]⟩]) (bR t.1.1 t.1.2.1 t.2.1.2.1.2.1.2.1 t.2.1.2.1.2.1.2.2.1 t.2.1.2.1.2.1.2.2.2.1 t.2.1.2.1.2.1.2.2.2.2.1 t.2.1.2.2.1.2.1 t.2.1.2.2.1.2.2.1 t.2.1.2.2.1.2.2.2.1.2 t.2.1.2.2.2.1.2.1 t.2.1.2.2.2.1.2.2.1.2 t.2.1.2.2.2.1.2.2.2.1)
theorem uS:aV prog nU:=aR fun t=>(aS (fun h=>wc t.1.1 t.1.2.1 t.2.1.2.1.1 t.2.1.2.1.2.1.1 t.2.1.2.1.2.1.2.1 t.2.1.2.1.2.1.2.2.1 t.2.1.2.1.2.1.2.2.2.1 t.2.1.2.1.2.1.2.2.2.2.1 t.2.1.2.2.1.1 t.2.1.2.2.1.2.1 t.2.1.2.2.1.2.2.1 t.2.1.2.2.1.2.2.2.1.1 t.2.1.2.2.1.2.2.2.1.2 t.2.1.2.2.2.1.1 t.2.1.2.2.2.1.2.1 t.2.1.2.2.2.1.2.2.1.1 t.2.1.2.2.2.1.2.2.1.2 t.2.1.2.2.2.1.2.2.2.1 (wd h)) aZ)
def nV:List aL:=nU :: Lg
theorem c4:bd prog (bf nV):=au uS eu
inductive eJ where
  | r0 (a:Nat) (b:Bool) (c:List Int) (d:Nat) (e:Nat) (f:Int)
def To:eJ→AE×aQ
  | .r0 a b c d e f=>(.ret,⟨ao 32 [(2,.ptr 0 1 0 0),(3,.int .i64 ((a:Nat):Int))],[(0,.vs [.bool false b,.imm .free (.ns .u64 c) 1 1 d e,.int .i64 f])],1⟩)
theorem zi:jC To:=by intro x;cases x <;> (intro h;cases h)
def IW:eJ→gX
  | .r0 a b c d e f=>⟨.tup [.agg [.bool false b,.imm .free (.ns .u64 c) 1 1 d e,.int .i64 f],.int .i64 ((a:Nat):Int)],[]⟩
def ahv(b:Int)(c:Int)(d:Lv)(a:List Nat)(e:Bool) :aQ:=⟨ao 32 [(1,.ptr 0 1 0 0),(2,.ptr 1 1 0 0)],[(0,.vs [.int .i64 b,.int .i64 c,.imm d (.fl a) 1 1 0 (List.length a)]),(1,.vs [.bool false e,.nsl,.int .i64 (0:Int)])],2⟩
def PD(b : Int)(c : Int)(a : List Nat) : T ((Bool) ⊕ (eJ)) :=
  .ask (decide ((0:Int) < (1:Int)))
    (.need (gD (0:Int) 1)<|.need (aP 0 (List.length a) a)<|.need (iL (dK b c (ab 0 (List.length a) a)))<|.ask (ig (dK b c (ab 0 (List.length a) a)))
      (.ask (!(!(decide ((0:Int) ≥ (0:Int)))))
        (.leaf (.inr (.r0 2 false ([]:List Int) 0 0 (0:Int))))
        (.fail))
      (.need (dn .i64 (1:Int))<|.ask (decide ((1:Int) < (1:Int)))
        (.fail)
        (.ask (!(!(decide ((-1:Int) ≥ (0:Int)))))
          (.fail)
          (.ask (decide ((0:Int) < (1:Int)))
            (.need (gD (0:Int) 1)<|.need (aP 0 (List.length a) a)<|.need (be (aA (ab 0 (List.length a) a)))<|.ask (decide ((bg (aA (ab 0 (List.length a) a))) ≥ (0:Int)))
              (.leaf (.inr (.r0 10 false ([]:List Int) 0 0 (0:Int))))
              (.need (dn .i64 (1:Int))<|.ask (decide ((1:Int) < (1:Int)))
                (.fail)
                (.leaf (.inl false))))
            (.fail)))))
    (.fail)
def ahw(c:Int)(d:Int)(e:Lv)(a:List Nat)(f:Bool) :Nat×(List Bool)×(List (List Int))×(List Int)→aQ:=fun (b,g,h,i)=>⟨ao 32 [(1,.ptr 0 1 0 0),(2,.ptr 1 1 0 0),(4,.ptr 2 1 0 0)],[(0,.vs [.int .i64 c,.int .i64 d,.imm e (.fl a) 1 1 0 (List.length a)]),(1,.vs [.bool false f,.nsl,.int .i64 (0:Int)]),(2,.vs [.imm .free (.cols b [.cb g,.cns .u64 h,.ci .i64 i]) 3 3 0 b])],3⟩
def PE(a:List Nat) :T ((Nat×(List Bool)×(List (List Int))×(List Int))⊕(eJ)) :=
  .need (aP 0 (List.length a) a)<|.need (iM (aC (ab 0 (List.length a) a)))<|.leaf (.inl ((bb (aC (ab 0 (List.length a) a))),(c7 (aC (ab 0 (List.length a) a))),(c8 (aC (ab 0 (List.length a) a))),(c9 (aC (ab 0 (List.length a) a)))))
def ahx(c:Int)(d:Int)(e:Lv)(a:List Nat)(f:Bool)(b:Nat)(g:List Bool)(h:List (List Int))(i:List Int) :Bool×(List Int)×Nat×Nat×Int→aQ:=fun (j,k,l,m,n)=>⟨ao 32 [(1,.ptr 0 1 0 0),(2,.ptr 1 1 0 0),(4,.ptr 2 1 0 0),(5,.ptr 3 1 0 0)],[(0,.vs [.int .i64 c,.int .i64 d,.imm e (.fl a) 1 1 0 (List.length a)]),(1,.vs [.bool false f,.nsl,.int .i64 (0:Int)]),(2,.vs [.imm .free (.cols b [.cb g,.cns .u64 h,.ci .i64 i]) 3 3 0 b]),(3,.vs [.bool false j,.imm .free (.ns .u64 k) 1 1 l m,.int .i64 n])],4⟩
def PF:T ((Bool×(List Int)×Nat×Nat×Int)⊕(eJ)) :=
  .need (m8 (bD (1:Int)))<|.leaf (.inl ((jh (bD (1:Int))),(g8 (bD (1:Int))),(g9 (bD (1:Int))),(hH (bD (1:Int))),(ji (bD (1:Int)))))
def ahy:Nat×Bool×(List Int)×Nat×Nat×Int→aQ:=fun (a,b,c,d,e,f)=>⟨ao 32 [(2,.ptr 0 1 0 0),(3,.int .i64 ((a:Nat):Int))],[(0,.vs [.bool false b,.imm .free (.ns .u64 c) 1 1 d e,.int .i64 f])],1⟩
def Gp(g:Int)(b:Int)(c:List Nat)(a:Nat)(h:List Bool)(i:List (List Int))(j:List Int)(k:Bool)(d:List Int)(e:Nat)(f:Nat)(l:Int) :T ((Nat×Bool×(List Int)×Nat×Nat×Int)⊕(eJ)) :=
  .need (Nat.ble (0+a) a)<|.need (aP 0 (List.length c) c)<|.need (aP e f d)<|.need (gd (bR b b a (ab 0 a h) (ab 0 a i) (ab 0 a j) g b (ab 0 (List.length c) c) k (ab e f d) l))<|.leaf (.inl ((iY (bR b b a (ab 0 a h) (ab 0 a i) (ab 0 a j) g b (ab 0 (List.length c) c) k (ab e f d) l)),(iZ (bR b b a (ab 0 a h) (ab 0 a i) (ab 0 a j) g b (ab 0 (List.length c) c) k (ab e f d) l)),(i0 (bR b b a (ab 0 a h) (ab 0 a i) (ab 0 a j) g b (ab 0 (List.length c) c) k (ab e f d) l)),(i4 (bR b b a (ab 0 a h) (ab 0 a i) (ab 0 a j) g b (ab 0 (List.length c) c) k (ab e f d) l)),(i5 (bR b b a (ab 0 a h) (ab 0 a i) (ab 0 a j) g b (ab 0 (List.length c) c) k (ab e f d) l)),(i6 (bR b b a (ab 0 a h) (ab 0 a i) (ab 0 a j) g b (ab 0 (List.length c) c) k (ab e f d) l))))
def ab4(a:Nat)(b:Bool)(c:List Int)(d:Nat)(e:Nat)(f:Int) :T ((Empty)⊕(eJ)) :=
  .leaf (.inr (.r0 a b c d e f))
def lc(b:Int)(c:Int)(a:List Nat) :Option eJ:=jR (aE ((PD b c a).run) fun s =>
  aE ((PE a).run) fun (d,e,f,g) =>
  aE ((PF).run) fun (h,i,j,k,l) =>
  aE ((Gp b c a d e f g h i j k l).run) fun (m,n,o,p,q,r) =>
  (ab4 m n o p q r).run)
theorem ahz(b:Int)(c:Int)(d:Lv)(a:List Nat){x:eJ}(h:lc b c a=some x) :aw prog Hx [] [.agg [.int .i64 b,.int .i64 c,.imm d (.fl a) 1 1 0 (List.length a)]] (IW x) :=
  kp true IW To h (Sg.cut 2 zi (bk c4 (ahv b c d a) [⟨[(.cell 16 1,.fre 1 1 (.ns .u64 ([]:List Int)))],[16],[2,3]⟩,⟨[(.cell 16 1,.fre 1 1 (.ns .u64 ([]:List Int)))],[16],[2,3]⟩,⟨[],[0,16],[1,2]⟩]) (fun e=>Sg.cut 1 zi (bk c4 (ahw b c d a e) [⟨[],[0,1,50],[1,2,4]⟩]) (fun ⟨f,g,i,j⟩=>Sg.cut 1 zi (bk c4 (ahx b c d a e f g i j) [⟨[],[0,1,2,19],[1,2,4,5]⟩]) (fun ⟨q,r,s,t,u⟩=>Sg.cut 1 zi (bk c4 ahy [⟨[],[1],[2,3]⟩]) (fun ⟨v,w,y,z,A,B⟩=>bk c4 _ [⟨[],[0],[2,3]⟩])))))
    (fun x=>by cases x with | r0 k l m n o p=>exact jT [.agg [.bool false l,.imm .free (.ns .u64 m) 1 1 n o,.int .i64 p],.int .i64 ((k:Nat):Int)])
def zj:Option eJ→Bool
  | some _=>true
  | none=>false
def AC:Option eJ→Nat
  | some (.r0 x _ _ _ _ _)=>x
  | _=>0
def AD:Option eJ→Bool
  | some (.r0 _ x _ _ _ _)=>x
  | _=>false
def AF:Option eJ→List Int
  | some (.r0 _ _ x _ _ _)=>x
  | _=>[]
def AG:Option eJ→Nat
  | some (.r0 _ _ _ x _ _)=>x
  | _=>0
def AH:Option eJ→Nat
  | some (.r0 _ _ _ _ x _)=>x
  | _=>0
def AI:Option eJ→Int
  | some (.r0 _ _ _ _ _ x)=>x
  | _=>0
theorem ahA{x:Option eJ}(h:zj x=true) :x=some (.r0 (AC x) (AD x) (AF x) (AG x) (AH x) (AI x)):=by
  unfold zj at h
  split at h <;> first | rfl | (cases h;done) | (rename_i y;cases y;rfl)
def Tp:aL:=bJ Hx (.cons (.agg (.cons (.int .i64) (.cons (.int .i64) (.cons .fl .nil)))) .nil) fun t=>(fun q=>[⟨IW (.r0 (AC q) (AD q) (AF q) (AG q) (AH q) (AI q)),[zj q]⟩]) (lc t.1.1 t.1.2.1 t.1.2.2.1.2)
theorem XX:aV prog Tp:=aR fun t=>(aS (fun h=>ahz t.1.1 t.1.2.1 t.1.2.2.1.1 t.1.2.2.1.2 (ahA h)) aZ)
def Tq:List aL:=Tp :: nV
theorem pT:bd prog (bf Tq):=au XX c4
inductive ii where
  | r0 (a:Bool) (b:Int)
def PG:ii→AE×aQ
  | .r0 a b=>(.ret,⟨ao 37 [(8,.bool false a),(9,.int .i64 b)],[],0⟩)
theorem DK:jC PG:=by intro x;cases x <;> (intro h;cases h)
def Gq:ii→gX
  | .r0 a b=>⟨.tup [.bool false a,.int .i64 b],[]⟩
def ab5(b:Bool)(c:Lv)(a:List Int)(d:Int) :Nat×Bool×(List Int)×Nat×Nat×Int→aQ:=fun (e,f,g,h,i,j)=>⟨ao 37 [(1,.int .i64 ((e:Nat):Int)),(4,.ptr 0 1 0 0),(10,.ptr 1 1 0 0)],[(0,.vs [.bool false b,.imm c (.ns .u64 a) 1 1 0 (List.length a),.int .i64 d]),(1,.vs [.bool false f,.imm .free (.ns .u64 g) 1 1 h i,.int .i64 j])],2⟩
def Lh(g:Int)(c:Bool)(a:List Int)(d:Int)(e:Bool)(b:List Int)(f:Int) :T ((Nat×Bool×(List Int)×Nat×Nat×Int)⊕(ii)) :=
  .ask (g != (0:Int))
    (.leaf (.inr (.r0 false g)))
    (.need (aP 0 (List.length a) a)<|.need (aP 0 (List.length b) b)<|.need (nQ (aB c (ab 0 (List.length a) a) d e (ab 0 (List.length b) b) f))<|.leaf (.inl ((k6 (aB c (ab 0 (List.length a) a) d e (ab 0 (List.length b) b) f)),(cI (aB c (ab 0 (List.length a) a) d e (ab 0 (List.length b) b) f)),(cz (aB c (ab 0 (List.length a) a) d e (ab 0 (List.length b) b) f)),(cA (aB c (ab 0 (List.length a) a) d e (ab 0 (List.length b) b) f)),(cB (aB c (ab 0 (List.length a) a) d e (ab 0 (List.length b) b) f)),(cJ (aB c (ab 0 (List.length a) a) d e (ab 0 (List.length b) b) f)))))
def ab6:Nat×Int→aQ:=fun (a,b)=>⟨ao 37 [(1,.int .i64 ((a:Nat):Int)),(11,.int .i64 b)],[],0⟩
def DL(e:Bool)(a:List Int)(f:Int)(i:Nat)(g:Bool)(b:List Int)(c:Nat)(d:Nat)(h:Int) :T ((Nat×Int)⊕(ii)) :=
  .ask (((i:Nat):Int) != (0:Int))
    (.leaf (.inr (.r0 false ((i:Nat):Int))))
    (.need (aP 0 (List.length a) a)<|.need (aP c d b)<|.need (BZ (sP e (ab 0 (List.length a) a) f g (ab c d b) h))<|.leaf (.inl ((CF (sP e (ab 0 (List.length a) a) f g (ab c d b) h)),(CE (sP e (ab 0 (List.length a) a) f g (ab c d b) h)))))
def ab7(a:Nat)(b:Bool) :aQ:=⟨ao 37 [(8,.bool false b),(9,.int .i64 ((a:Nat):Int))],[],0⟩
def ab8(a:Nat)(b:Int) :T ((Bool)⊕(ii)) :=
  .ask (((a:Nat):Int) == (0:Int))
    (.leaf (.inl (decide (b≤(0:Int)))))
    (.leaf (.inl false))
def ab9(a:Nat)(b:Bool) :T ((Empty)⊕(ii)) :=
  .leaf (.inr (.r0 b ((a:Nat):Int)))
def i7(b:Bool)(c:List Int)(d:Int)(e:Int)(f:Bool)(g:List Int)(h:Int)(i:Bool)(j:List Int)(k:Int) :Option ii:=jR (aE ((Lh e f g h i j k).run) fun (l,m,n,o,p,q) =>
  aE ((DL b c d l m n o p q).run) fun (a,r) =>
  aE ((ab8 a r).run) fun s =>
  (ab9 a s).run)
theorem aca(b:Bool)(f:Lv)(a:List Int)(c:Int)(g:Int)(i:Bool)(m:Lv)(d:List Int)(j:Int)(k:Bool)(n:Lv)(e:List Int)(l:Int){x:ii}(h:i7 b a c g i d j k e l=some x) :aw prog EX [] [.agg [.bool false b,.imm f (.ns .u64 a) 1 1 0 (List.length a),.int .i64 c],.int .i64 g,.agg [.bool false i,.imm m (.ns .u64 d) 1 1 0 (List.length d),.int .i64 j],.agg [.bool false k,.imm n (.ns .u64 e) 1 1 0 (List.length e),.int .i64 l]] (Gq x) :=
  kp true Gq PG h (Sg.cut 4 DK (bk pT (ab5 b f a c) [⟨[],[],[8,9]⟩,⟨[],[0,208],[1,4,10]⟩]) (fun ⟨r,s,t,u,v,w⟩=>Sg.cut 3 DK (bk pT ab6 [⟨[],[],[8,9]⟩,⟨[],[],[1,11]⟩]) (fun ⟨o,y⟩=>Sg.cut 1 DK (bk pT (ab7 o) [⟨[],[],[8,9]⟩,⟨[],[],[8,9]⟩]) (fun z=>bk pT _ [⟨[],[],[8,9]⟩]))))
    (fun x=>by cases x with | r0 p q=>exact jT [.bool false p,.int .i64 q])
def rm:Option ii→Bool
  | some _=>true
  | none=>false
def so:Option ii→Bool
  | some (.r0 x _)=>x
  | _=>false
def sq:Option ii→Int
  | some (.r0 _ x)=>x
  | _=>0
theorem acb{x:Option ii}(h:rm x=true) :x=some (.r0 (so x) (sq x)):=by
  unfold rm at h
  split at h <;> first | rfl | (cases h;done) | (rename_i y;cases y;rfl)
def PH:aL:=bJ EX (.cons (.agg (.cons .bool (.cons (.ns .u64) (.cons (.int .i64) .nil)))) (.cons (.int .i64) (.cons (.agg (.cons .bool (.cons (.ns .u64) (.cons (.int .i64) .nil)))) (.cons (.agg (.cons .bool (.cons (.ns .u64) (.cons (.int .i64) .nil)))) .nil)))) fun t=>(fun q=>[⟨Gq (.r0 (so q) (sq q)),[rm q]⟩]) (i7 t.1.1 t.1.2.1.2 t.1.2.2.1 t.2.1 t.2.2.1.1 t.2.2.1.2.1.2 t.2.2.1.2.2.1 t.2.2.2.1.1 t.2.2.2.1.2.1.2 t.2.2.2.1.2.2.1)
theorem Ul:aV prog PH:=aR fun t=>(aS (fun h=>aca t.1.1 t.1.2.1.1 t.1.2.1.2 t.1.2.2.1 t.2.1 t.2.2.1.1 t.2.2.1.2.1.1 t.2.2.1.2.1.2 t.2.2.1.2.2.1 t.2.2.2.1.1 t.2.2.2.1.2.1.1 t.2.2.2.1.2.1.2 t.2.2.2.1.2.2.1 (acb h)) aZ)
def PI:List aL:=PH :: Tq
theorem su:bd prog (bf PI):=au Ul pT
inductive i8 where
  | r0 (a:Bool) (b:Int)
def PJ:i8→AE×aQ
  | .r0 a b=>(.ret,⟨ao 18 [(2,.bool false a),(3,.int .i64 b)],[],0⟩)
theorem Li:jC PJ:=by intro x;cases x <;> (intro h;cases h)
def Gr:i8→gX
  | .r0 a b=>⟨.tup [.bool false a,.int .i64 b],[]⟩
def acd(b:Lv)(c:Bool)(d:Lv)(a:List Int)(e:Int) :Nat×Bool×(List Int)×Nat×Nat×Int→aQ:=fun (f,g,h,i,j,k)=>⟨ao 18 [(1,.iptr b (.vs [.bool false c,.imm d (.ns .u64 a) 1 1 0 (List.length a),.int .i64 e]) 1 0 0),(4,.ptr 0 1 0 0),(5,.int .i64 ((f:Nat):Int))],[(0,.vs [.bool false g,.imm .free (.ns .u64 h) 1 1 i j,.int .i64 k])],1⟩
def Lj(b:Int)(c:Int)(a:List Nat) :T ((Nat×Bool×(List Int)×Nat×Nat×Int)⊕(i8)) :=
  .need (aP 0 (List.length a) a)<|.need (zj (lc b c (ab 0 (List.length a) a)))<|.leaf (.inl ((AC (lc b c (ab 0 (List.length a) a))),(AD (lc b c (ab 0 (List.length a) a))),(AF (lc b c (ab 0 (List.length a) a))),(AG (lc b c (ab 0 (List.length a) a))),(AH (lc b c (ab 0 (List.length a) a))),(AI (lc b c (ab 0 (List.length a) a)))))
def ace:Bool×Int→aQ:=fun (a,b)=>⟨ao 18 [(2,.bool false a),(3,.int .i64 b)],[],0⟩
def DM(e:Bool)(a:List Int)(f:Int)(g:Nat)(h:Bool)(b:List Int)(c:Nat)(d:Nat)(i:Int) :T ((Bool×Int)⊕(i8)) :=
  .need (m8 (bD (1:Int)))<|.need (aP c d b)<|.need (aP 0 (List.length a) a)<|.need (aP (g9 (bD (1:Int))) (hH (bD (1:Int))) (g8 (bD (1:Int))))<|.need (rm (i7 h (ab c d b) i ((g:Nat):Int) e (ab 0 (List.length a) a) f (jh (bD (1:Int))) (ab (g9 (bD (1:Int))) (hH (bD (1:Int))) (g8 (bD (1:Int)))) (ji (bD (1:Int)))))<|.leaf (.inl ((so (i7 h (ab c d b) i ((g:Nat):Int) e (ab 0 (List.length a) a) f (jh (bD (1:Int))) (ab (g9 (bD (1:Int))) (hH (bD (1:Int))) (g8 (bD (1:Int)))) (ji (bD (1:Int))))),(sq (i7 h (ab c d b) i ((g:Nat):Int) e (ab 0 (List.length a) a) f (jh (bD (1:Int))) (ab (g9 (bD (1:Int))) (hH (bD (1:Int))) (g8 (bD (1:Int)))) (ji (bD (1:Int)))))))
def acf(a:Bool)(b:Int) :T ((Empty)⊕(i8)) :=
  .leaf (.inr (.r0 a b))
def mK(a:Int)(b:Int)(c:List Nat)(d:Bool)(e:List Int)(f:Int) :Option i8:=jR (aE ((Lj a b c).run) fun (g,h,i,j,k,l) =>
  aE ((DM d e f g h i j k l).run) fun (m,n) =>
  (acf m n).run)
theorem acg(j:Lv)(e:Int)(f:Int)(k:Lv)(b:List Nat)(g:Lv)(c:Bool)(i:Lv)(a:List Int)(d:Int){x:i8}(h:mK e f b c a d=some x) :aw prog N3 [] [.iptr j (.vs [.int .i64 e,.int .i64 f,.imm k (.fl b) 1 1 0 (List.length b)]) 1 0 0,.iptr g (.vs [.bool false c,.imm i (.ns .u64 a) 1 1 0 (List.length a),.int .i64 d]) 1 0 0] (Gr x) :=
  kp false Gr PJ h (Sg.cut 2 Li (bk su (acd g c i a d) [⟨[],[112],[1,4,5]⟩]) (fun ⟨n,o,p,q,r,s⟩=>Sg.cut 1 Li (bk su ace [⟨[],[],[2,3]⟩]) (fun ⟨t,u⟩=>bk su _ [⟨[],[],[2,3]⟩])))
    (fun x=>by cases x with | r0 l m=>exact jT [.bool false l,.int .i64 m])
def rn:Option i8→Bool
  | some _=>true
  | none=>false
def sv:Option i8→Bool
  | some (.r0 x _)=>x
  | _=>false
def mc:Option i8→Int
  | some (.r0 _ x)=>x
  | _=>0
theorem ach{x:Option i8}(h:rn x=true) :x=some (.r0 (sv x) (mc x)):=by
  unfold rn at h
  split at h <;> first | rfl | (cases h;done) | (rename_i y;cases y;rfl)
def PK:aL:=bJ N3 (.cons (.ivs (.cons (.int .i64) (.cons (.int .i64) (.cons .fl .nil))) 1 0 0) (.cons (.ivs (.cons .bool (.cons (.ns .u64) (.cons (.int .i64) .nil))) 1 0 0) .nil)) fun t=>(fun q=>[⟨Gr (.r0 (sv q) (mc q)),[rn q]⟩]) (mK t.1.2.1 t.1.2.2.1 t.1.2.2.2.1.2 t.2.1.2.1 t.2.1.2.2.1.2 t.2.1.2.2.2.1)
theorem Um:aV prog PK:=aR fun t=>(aS (fun h=>acg t.1.1 t.1.2.1 t.1.2.2.1 t.1.2.2.2.1.1 t.1.2.2.2.1.2 t.2.1.1 t.2.1.2.1 t.2.1.2.2.1.1 t.2.1.2.2.1.2 t.2.1.2.2.2.1 (ach h)) aZ)
def PL:List aL:=PK :: PI
theorem oO:bd prog (bf PL):=au Um su
inductive cm where
  | r0 (a:Nat) (b:Bool) (c:List Int) (d:Nat) (e:Nat) (f:Int)
def Ca:cm→AE×aQ
  | .r0 a b c d e f=>(.ret,⟨ao 65 [(11,.ptr 0 1 0 0),(12,.int .i64 ((a:Nat):Int))],[(0,.vs [.bool false b,.imm .free (.ns .u64 c) 1 1 d e,.int .i64 f])],1⟩)
theorem sR:jC Ca:=by intro x;cases x <;> (intro h;cases h)
def uT:cm→gX
  | .r0 a b c d e f=>⟨.tup [.agg [.bool false b,.imm .free (.ns .u64 c) 1 1 d e,.int .i64 f],.int .i64 ((a:Nat):Int)],[]⟩
def MW(d:Int)(e:Int)(f:Lv)(g:Lv)(a:Nat)(h:List Bool)(i:List (List Int))(j:List Int)(k:Lv)(l:Int)(m:Int)(n:Lv)(b:List Nat)(o:Lv)(p:Lv)(c:Nat)(q:List Bool)(r:List (List Int))(s:List Int) :Nat×Bool×Bool×(List Int)×Nat×Nat×Int→aQ:=fun (t,u,v,w,x,y,z)=>⟨ao 65 [(0,.int .i64 d),(1,.int .i64 e),(6,.iptr f (.vs [.imm g (.cols a [.cb h,.cns .u64 i,.ci .i64 j]) 3 3 0 a]) 1 0 0),(7,.iptr k (.vs [.int .i64 l,.int .i64 m,.imm n (.fl b) 1 1 0 (List.length b)]) 1 0 0),(8,.iptr o (.vs [.imm p (.cols c [.cb q,.cns .u64 r,.ci .i64 s]) 3 3 0 c]) 1 0 0),(11,.ptr 0 1 0 0),(13,.ptr 1 1 0 0),(14,.int .i64 ((t:Nat):Int))],[(0,.vs [.bool false u,.nsl,.int .i64 (0:Int)]),(1,.vs [.bool false v,.imm .free (.ns .u64 w) 1 1 x y,.int .i64 z])],2⟩
def AJ(d:Int)(e:Int)(a:Nat)(f:List Bool)(g:List (List Int))(h:List Int)(c:Int)(b:Nat)(i:List Bool)(j:List (List Int))(k:List Int)(l:Int) :T ((Nat×Bool×Bool×(List Int)×Nat×Nat×Int)⊕(cm)) :=
  .need (dn .i64 (d * c))<|.need (Nat.ble (0+a) a)<|.need (kV (aj a (ab 0 a f) (ab 0 a g) (ab 0 a h) (d * c) (1:Int) c))<|.need (Nat.ble (0+b) b)<|.need (kV (aj b (ab 0 b i) (ab 0 b j) (ab 0 b k) e l c))<|.need (Nat.ble (0+(an (aj a (ab 0 a f) (ab 0 a g) (ab 0 a h) (d * c) (1:Int) c))) (an (aj a (ab 0 a f) (ab 0 a g) (ab 0 a h) (d * c) (1:Int) c)))<|.need (Nat.ble (0+(an (aj b (ab 0 b i) (ab 0 b j) (ab 0 b k) e l c))) (an (aj b (ab 0 b i) (ab 0 b j) (ab 0 b k) e l c)))<|.need (tw (de (an (aj a (ab 0 a f) (ab 0 a g) (ab 0 a h) (d * c) (1:Int) c)) (ab 0 (an (aj a (ab 0 a f) (ab 0 a g) (ab 0 a h) (d * c) (1:Int) c)) (bx (aj a (ab 0 a f) (ab 0 a g) (ab 0 a h) (d * c) (1:Int) c))) (ab 0 (an (aj a (ab 0 a f) (ab 0 a g) (ab 0 a h) (d * c) (1:Int) c)) (bz (aj a (ab 0 a f) (ab 0 a g) (ab 0 a h) (d * c) (1:Int) c))) (ab 0 (an (aj a (ab 0 a f) (ab 0 a g) (ab 0 a h) (d * c) (1:Int) c)) (bB (aj a (ab 0 a f) (ab 0 a g) (ab 0 a h) (d * c) (1:Int) c))) (an (aj b (ab 0 b i) (ab 0 b j) (ab 0 b k) e l c)) (ab 0 (an (aj b (ab 0 b i) (ab 0 b j) (ab 0 b k) e l c)) (bx (aj b (ab 0 b i) (ab 0 b j) (ab 0 b k) e l c))) (ab 0 (an (aj b (ab 0 b i) (ab 0 b j) (ab 0 b k) e l c)) (bz (aj b (ab 0 b i) (ab 0 b j) (ab 0 b k) e l c))) (ab 0 (an (aj b (ab 0 b i) (ab 0 b j) (ab 0 b k) e l c)) (bB (aj b (ab 0 b i) (ab 0 b j) (ab 0 b k) e l c)))))<|.leaf (.inl ((re (de (an (aj a (ab 0 a f) (ab 0 a g) (ab 0 a h) (d * c) (1:Int) c)) (ab 0 (an (aj a (ab 0 a f) (ab 0 a g) (ab 0 a h) (d * c) (1:Int) c)) (bx (aj a (ab 0 a f) (ab 0 a g) (ab 0 a h) (d * c) (1:Int) c))) (ab 0 (an (aj a (ab 0 a f) (ab 0 a g) (ab 0 a h) (d * c) (1:Int) c)) (bz (aj a (ab 0 a f) (ab 0 a g) (ab 0 a h) (d * c) (1:Int) c))) (ab 0 (an (aj a (ab 0 a f) (ab 0 a g) (ab 0 a h) (d * c) (1:Int) c)) (bB (aj a (ab 0 a f) (ab 0 a g) (ab 0 a h) (d * c) (1:Int) c))) (an (aj b (ab 0 b i) (ab 0 b j) (ab 0 b k) e l c)) (ab 0 (an (aj b (ab 0 b i) (ab 0 b j) (ab 0 b k) e l c)) (bx (aj b (ab 0 b i) (ab 0 b j) (ab 0 b k) e l c))) (ab 0 (an (aj b (ab 0 b i) (ab 0 b j) (ab 0 b k) e l c)) (bz (aj b (ab 0 b i) (ab 0 b j) (ab 0 b k) e l c))) (ab 0 (an (aj b (ab 0 b i) (ab 0 b j) (ab 0 b k) e l c)) (bB (aj b (ab 0 b i) (ab 0 b j) (ab 0 b k) e l c))))),false,(rf (de (an (aj a (ab 0 a f) (ab 0 a g) (ab 0 a h) (d * c) (1:Int) c)) (ab 0 (an (aj a (ab 0 a f) (ab 0 a g) (ab 0 a h) (d * c) (1:Int) c)) (bx (aj a (ab 0 a f) (ab 0 a g) (ab 0 a h) (d * c) (1:Int) c))) (ab 0 (an (aj a (ab 0 a f) (ab 0 a g) (ab 0 a h) (d * c) (1:Int) c)) (bz (aj a (ab 0 a f) (ab 0 a g) (ab 0 a h) (d * c) (1:Int) c))) (ab 0 (an (aj a (ab 0 a f) (ab 0 a g) (ab 0 a h) (d * c) (1:Int) c)) (bB (aj a (ab 0 a f) (ab 0 a g) (ab 0 a h) (d * c) (1:Int) c))) (an (aj b (ab 0 b i) (ab 0 b j) (ab 0 b k) e l c)) (ab 0 (an (aj b (ab 0 b i) (ab 0 b j) (ab 0 b k) e l c)) (bx (aj b (ab 0 b i) (ab 0 b j) (ab 0 b k) e l c))) (ab 0 (an (aj b (ab 0 b i) (ab 0 b j) (ab 0 b k) e l c)) (bz (aj b (ab 0 b i) (ab 0 b j) (ab 0 b k) e l c))) (ab 0 (an (aj b (ab 0 b i) (ab 0 b j) (ab 0 b k) e l c)) (bB (aj b (ab 0 b i) (ab 0 b j) (ab 0 b k) e l c))))),(rg (de (an (aj a (ab 0 a f) (ab 0 a g) (ab 0 a h) (d * c) (1:Int) c)) (ab 0 (an (aj a (ab 0 a f) (ab 0 a g) (ab 0 a h) (d * c) (1:Int) c)) (bx (aj a (ab 0 a f) (ab 0 a g) (ab 0 a h) (d * c) (1:Int) c))) (ab 0 (an (aj a (ab 0 a f) (ab 0 a g) (ab 0 a h) (d * c) (1:Int) c)) (bz (aj a (ab 0 a f) (ab 0 a g) (ab 0 a h) (d * c) (1:Int) c))) (ab 0 (an (aj a (ab 0 a f) (ab 0 a g) (ab 0 a h) (d * c) (1:Int) c)) (bB (aj a (ab 0 a f) (ab 0 a g) (ab 0 a h) (d * c) (1:Int) c))) (an (aj b (ab 0 b i) (ab 0 b j) (ab 0 b k) e l c)) (ab 0 (an (aj b (ab 0 b i) (ab 0 b j) (ab 0 b k) e l c)) (bx (aj b (ab 0 b i) (ab 0 b j) (ab 0 b k) e l c))) (ab 0 (an (aj b (ab 0 b i) (ab 0 b j) (ab 0 b k) e l c)) (bz (aj b (ab 0 b i) (ab 0 b j) (ab 0 b k) e l c))) (ab 0 (an (aj b (ab 0 b i) (ab 0 b j) (ab 0 b k) e l c)) (bB (aj b (ab 0 b i) (ab 0 b j) (ab 0 b k) e l c))))),(rh (de (an (aj a (ab 0 a f) (ab 0 a g) (ab 0 a h) (d * c) (1:Int) c)) (ab 0 (an (aj a (ab 0 a f) (ab 0 a g) (ab 0 a h) (d * c) (1:Int) c)) (bx (aj a (ab 0 a f) (ab 0 a g) (ab 0 a h) (d * c) (1:Int) c))) (ab 0 (an (aj a (ab 0 a f) (ab 0 a g) (ab 0 a h) (d * c) (1:Int) c)) (bz (aj a (ab 0 a f) (ab 0 a g) (ab 0 a h) (d * c) (1:Int) c))) (ab 0 (an (aj a (ab 0 a f) (ab 0 a g) (ab 0 a h) (d * c) (1:Int) c)) (bB (aj a (ab 0 a f) (ab 0 a g) (ab 0 a h) (d * c) (1:Int) c))) (an (aj b (ab 0 b i) (ab 0 b j) (ab 0 b k) e l c)) (ab 0 (an (aj b (ab 0 b i) (ab 0 b j) (ab 0 b k) e l c)) (bx (aj b (ab 0 b i) (ab 0 b j) (ab 0 b k) e l c))) (ab 0 (an (aj b (ab 0 b i) (ab 0 b j) (ab 0 b k) e l c)) (bz (aj b (ab 0 b i) (ab 0 b j) (ab 0 b k) e l c))) (ab 0 (an (aj b (ab 0 b i) (ab 0 b j) (ab 0 b k) e l c)) (bB (aj b (ab 0 b i) (ab 0 b j) (ab 0 b k) e l c))))),(ri (de (an (aj a (ab 0 a f) (ab 0 a g) (ab 0 a h) (d * c) (1:Int) c)) (ab 0 (an (aj a (ab 0 a f) (ab 0 a g) (ab 0 a h) (d * c) (1:Int) c)) (bx (aj a (ab 0 a f) (ab 0 a g) (ab 0 a h) (d * c) (1:Int) c))) (ab 0 (an (aj a (ab 0 a f) (ab 0 a g) (ab 0 a h) (d * c) (1:Int) c)) (bz (aj a (ab 0 a f) (ab 0 a g) (ab 0 a h) (d * c) (1:Int) c))) (ab 0 (an (aj a (ab 0 a f) (ab 0 a g) (ab 0 a h) (d * c) (1:Int) c)) (bB (aj a (ab 0 a f) (ab 0 a g) (ab 0 a h) (d * c) (1:Int) c))) (an (aj b (ab 0 b i) (ab 0 b j) (ab 0 b k) e l c)) (ab 0 (an (aj b (ab 0 b i) (ab 0 b j) (ab 0 b k) e l c)) (bx (aj b (ab 0 b i) (ab 0 b j) (ab 0 b k) e l c))) (ab 0 (an (aj b (ab 0 b i) (ab 0 b j) (ab 0 b k) e l c)) (bz (aj b (ab 0 b i) (ab 0 b j) (ab 0 b k) e l c))) (ab 0 (an (aj b (ab 0 b i) (ab 0 b j) (ab 0 b k) e l c)) (bB (aj b (ab 0 b i) (ab 0 b j) (ab 0 b k) e l c))))),(rj (de (an (aj a (ab 0 a f) (ab 0 a g) (ab 0 a h) (d * c) (1:Int) c)) (ab 0 (an (aj a (ab 0 a f) (ab 0 a g) (ab 0 a h) (d * c) (1:Int) c)) (bx (aj a (ab 0 a f) (ab 0 a g) (ab 0 a h) (d * c) (1:Int) c))) (ab 0 (an (aj a (ab 0 a f) (ab 0 a g) (ab 0 a h) (d * c) (1:Int) c)) (bz (aj a (ab 0 a f) (ab 0 a g) (ab 0 a h) (d * c) (1:Int) c))) (ab 0 (an (aj a (ab 0 a f) (ab 0 a g) (ab 0 a h) (d * c) (1:Int) c)) (bB (aj a (ab 0 a f) (ab 0 a g) (ab 0 a h) (d * c) (1:Int) c))) (an (aj b (ab 0 b i) (ab 0 b j) (ab 0 b k) e l c)) (ab 0 (an (aj b (ab 0 b i) (ab 0 b j) (ab 0 b k) e l c)) (bx (aj b (ab 0 b i) (ab 0 b j) (ab 0 b k) e l c))) (ab 0 (an (aj b (ab 0 b i) (ab 0 b j) (ab 0 b k) e l c)) (bz (aj b (ab 0 b i) (ab 0 b j) (ab 0 b k) e l c))) (ab 0 (an (aj b (ab 0 b i) (ab 0 b j) (ab 0 b k) e l c)) (bB (aj b (ab 0 b i) (ab 0 b j) (ab 0 b k) e l c)))))))
def MX(a:Bool)(b:Bool)(c:List Int)(d:Nat)(e:Nat)(f:Int) :Nat×Bool×(List Int)×Nat×Nat×Int→aQ:=fun (g,h,i,j,k,l)=>⟨ao 65 [(11,.ptr 0 1 0 0),(13,.ptr 1 1 0 0),(14,.int .i64 ((g:Nat):Int)),(15,.ptr 2 1 0 0)],[(0,.vs [.bool false a,.nsl,.int .i64 (0:Int)]),(1,.vs [.bool false b,.imm .free (.ns .u64 c) 1 1 d e,.int .i64 f]),(2,.vs [.bool false h,.imm .free (.ns .u64 i) 1 1 j k,.int .i64 l])],3⟩
def sS(b:Int)(a:Int)(k:Nat)(f:List Bool)(d:List (List Int))(g:List Int)(c:Int)(l:Nat)(h:List Bool)(e:List (List Int))(i:List Int)(j:Nat) :T ((Nat×Bool×(List Int)×Nat×Nat×Int)⊕(cm)) :=
  .ask (((j:Nat):Int) != (0:Int))
    (.leaf (.inr (.r0 j false ([]:List Int) 0 0 (0:Int))))
    (.need (dn .i64 (b * c))<|.need (dn .i64 ((b * c)+a))<|.need (gD ((b * c)+a) k)<|.need (im (Int.toNat ((b * c)+a)) (List.length f))<|.need (im (Int.toNat ((b * c)+a)) (List.length d))<|.need (im (Int.toNat ((b * c)+a)) (List.length g))<|.need (gD a l)<|.need (im (Int.toNat a) (List.length h))<|.need (im (Int.toNat a) (List.length e))<|.need (im (Int.toNat a) (List.length i))<|.need (aP 0 (List.length (List.getD d (Int.toNat ((b * c)+a)) [])) (List.getD d (Int.toNat ((b * c)+a)) []))<|.need (aP 0 (List.length (List.getD e (Int.toNat a) [])) (List.getD e (Int.toNat a) []))<|.need (nQ (aB (List.getD f (Int.toNat ((b * c)+a)) false) (ab 0 (List.length (List.getD d (Int.toNat ((b * c)+a)) [])) (List.getD d (Int.toNat ((b * c)+a)) [])) (List.getD g (Int.toNat ((b * c)+a)) 0) (List.getD h (Int.toNat a) false) (ab 0 (List.length (List.getD e (Int.toNat a) [])) (List.getD e (Int.toNat a) [])) (List.getD i (Int.toNat a) 0)))<|.leaf (.inl ((k6 (aB (List.getD f (Int.toNat ((b * c)+a)) false) (ab 0 (List.length (List.getD d (Int.toNat ((b * c)+a)) [])) (List.getD d (Int.toNat ((b * c)+a)) [])) (List.getD g (Int.toNat ((b * c)+a)) 0) (List.getD h (Int.toNat a) false) (ab 0 (List.length (List.getD e (Int.toNat a) [])) (List.getD e (Int.toNat a) [])) (List.getD i (Int.toNat a) 0))),(cI (aB (List.getD f (Int.toNat ((b * c)+a)) false) (ab 0 (List.length (List.getD d (Int.toNat ((b * c)+a)) [])) (List.getD d (Int.toNat ((b * c)+a)) [])) (List.getD g (Int.toNat ((b * c)+a)) 0) (List.getD h (Int.toNat a) false) (ab 0 (List.length (List.getD e (Int.toNat a) [])) (List.getD e (Int.toNat a) [])) (List.getD i (Int.toNat a) 0))),(cz (aB (List.getD f (Int.toNat ((b * c)+a)) false) (ab 0 (List.length (List.getD d (Int.toNat ((b * c)+a)) [])) (List.getD d (Int.toNat ((b * c)+a)) [])) (List.getD g (Int.toNat ((b * c)+a)) 0) (List.getD h (Int.toNat a) false) (ab 0 (List.length (List.getD e (Int.toNat a) [])) (List.getD e (Int.toNat a) [])) (List.getD i (Int.toNat a) 0))),(cA (aB (List.getD f (Int.toNat ((b * c)+a)) false) (ab 0 (List.length (List.getD d (Int.toNat ((b * c)+a)) [])) (List.getD d (Int.toNat ((b * c)+a)) [])) (List.getD g (Int.toNat ((b * c)+a)) 0) (List.getD h (Int.toNat a) false) (ab 0 (List.length (List.getD e (Int.toNat a) [])) (List.getD e (Int.toNat a) [])) (List.getD i (Int.toNat a) 0))),(cB (aB (List.getD f (Int.toNat ((b * c)+a)) false) (ab 0 (List.length (List.getD d (Int.toNat ((b * c)+a)) [])) (List.getD d (Int.toNat ((b * c)+a)) [])) (List.getD g (Int.toNat ((b * c)+a)) 0) (List.getD h (Int.toNat a) false) (ab 0 (List.length (List.getD e (Int.toNat a) [])) (List.getD e (Int.toNat a) [])) (List.getD i (Int.toNat a) 0))),(cJ (aB (List.getD f (Int.toNat ((b * c)+a)) false) (ab 0 (List.length (List.getD d (Int.toNat ((b * c)+a)) [])) (List.getD d (Int.toNat ((b * c)+a)) [])) (List.getD g (Int.toNat ((b * c)+a)) 0) (List.getD h (Int.toNat a) false) (ab 0 (List.length (List.getD e (Int.toNat a) [])) (List.getD e (Int.toNat a) [])) (List.getD i (Int.toNat a) 0))))))
def MY:Nat×Bool×(List Int)×Nat×Nat×Int→aQ:=fun (a,b,c,d,e,f)=>⟨ao 65 [(11,.ptr 0 1 0 0),(12,.int .i64 ((a:Nat):Int))],[(0,.vs [.bool false b,.imm .free (.ns .u64 c) 1 1 d e,.int .i64 f])],1⟩
def sT(g:Bool)(a:List Int)(b:Nat)(c:Nat)(h:Int)(k:Nat)(i:Bool)(d:List Int)(e:Nat)(f:Nat)(j:Int) :T ((Nat×Bool×(List Int)×Nat×Nat×Int)⊕(cm)) :=
  .ask (((k:Nat):Int) != (0:Int))
    (.leaf (.inr (.r0 k false ([]:List Int) 0 0 (0:Int))))
    (.need (aP b c a)<|.need (aP e f d)<|.need (xI (fK g (ab b c a) h i (ab e f d) j))<|.leaf (.inl ((xd (fK g (ab b c a) h i (ab e f d) j)),(xe (fK g (ab b c a) h i (ab e f d) j)),(xf (fK g (ab b c a) h i (ab e f d) j)),(xg (fK g (ab b c a) h i (ab e f d) j)),(xh (fK g (ab b c a) h i (ab e f d) j)),(xi (fK g (ab b c a) h i (ab e f d) j)))))
def MZ(a:Nat)(b:Bool)(c:List Int)(d:Nat)(e:Nat)(f:Int) :T ((Empty)⊕(cm)) :=
  .leaf (.inr (.r0 a b c d e f))
def cC(a:Int)(b:Int)(c:Nat)(d:List Bool)(e:List (List Int))(f:List Int)(g:Int)(h:Nat)(i:List Bool)(j:List (List Int))(k:List Int)(l:Int)(m:Nat)(n:List Bool)(o:List (List Int))(p:List Int)(q:Int)(r:Nat)(s:List Bool)(t:List (List Int))(u:List Int) :Option cm:=jR (aE ((AJ a b c d e f g h i j k l).run) fun (v,N,w,x,y,z,A) =>
  aE ((sS a b m n o p q r s t u v).run) fun (B,C,D,E,F,G) =>
  aE ((sT w x y z A B C D E F G).run) fun (H,I,J,K,L,M) =>
  (MZ H I J K L M).run)
theorem M0(c:Int)(d:Int)(H:Lv)(I:Lv)(e:Nat)(p:List Bool)(q:List (List Int))(r:List Int)(J:Lv)(K:Int)(s:Int)(L:Lv)(t:List Nat)(M:Lv)(N:Lv)(f:Nat)(u:List Bool)(v:List (List Int))(w:List Int)(O:Lv)(P:Int)(y:Int)(Q:Lv)(z:List Nat)(A:Lv)(B:Lv)(a:Nat)(g:List Bool)(i:List (List Int))(j:List Int)(C:Lv)(D:Int)(k:Int)(E:Lv)(l:List Nat)(F:Lv)(G:Lv)(b:Nat)(m:List Bool)(n:List (List Int))(o:List Int){x:cm}(h:cC c d e p q r s f u v w y a g i j k b m n o=some x) :aw prog cY [] [.int .i64 c,.int .i64 d,.iptr H (.vs [.imm I (.cols e [.cb p,.cns .u64 q,.ci .i64 r]) 3 3 0 e]) 1 0 0,.iptr J (.vs [.int .i64 K,.int .i64 s,.imm L (.fl t) 1 1 0 (List.length t)]) 1 0 0,.iptr M (.vs [.imm N (.cols f [.cb u,.cns .u64 v,.ci .i64 w]) 3 3 0 f]) 1 0 0,.iptr O (.vs [.int .i64 P,.int .i64 y,.imm Q (.fl z) 1 1 0 (List.length z)]) 1 0 0,.iptr A (.vs [.imm B (.cols a [.cb g,.cns .u64 i,.ci .i64 j]) 3 3 0 a]) 1 0 0,.iptr C (.vs [.int .i64 D,.int .i64 k,.imm E (.fl l) 1 1 0 (List.length l)]) 1 0 0,.iptr F (.vs [.imm G (.cols b [.cb m,.cns .u64 n,.ci .i64 o]) 3 3 0 b]) 1 0 0] (uT x) :=
  kp false uT Ca h (Sg.cut 2 sR (bk oO (MW c d A B a g i j C D k E l F G b m n o) [⟨[],[0,336],[0,1,6,7,8,11,13,14]⟩]) (fun ⟨a3,R,S,T,U,V,W⟩=>Sg.cut 3 sR (bk oO (MX R S T U V W) [⟨[(.cell 0 1,.fre 1 1 (.ns .u64 ([]:List Int)))],[0],[11,12]⟩,⟨[],[0,1,306],[11,13,14,15]⟩]) (fun ⟨a4,a7,a8,a9,b0,b1⟩=>Sg.cut 3 sR (bk oO MY [⟨[(.cell 0 1,.fre 1 1 (.ns .u64 ([]:List Int)))],[0],[11,12]⟩,⟨[],[0],[11,12]⟩]) (fun ⟨b4,b5,b6,b7,b8,c0⟩=>bk oO _ [⟨[],[0],[11,12]⟩]))))
    (fun x=>by cases x with | r0 X Y Z a0 a1 a2=>exact jT [.agg [.bool false Y,.imm .free (.ns .u64 Z) 1 1 a0 a1,.int .i64 a2],.int .i64 ((X:Nat):Int)])
def lI:Option cm→Bool
  | some _=>true
  | none=>false
def iE:Option cm→Nat
  | some (.r0 x _ _ _ _ _)=>x
  | _=>0
def mL:Option cm→Bool
  | some (.r0 _ x _ _ _ _)=>x
  | _=>false
def kg:Option cm→List Int
  | some (.r0 _ _ x _ _ _)=>x
  | _=>[]
def kh:Option cm→Nat
  | some (.r0 _ _ _ x _ _)=>x
  | _=>0
def ki:Option cm→Nat
  | some (.r0 _ _ _ _ x _)=>x
  | _=>0
def mM:Option cm→Int
  | some (.r0 _ _ _ _ _ x)=>x
  | _=>0
theorem M1{x:Option cm}(h:lI x=true) :x=some (.r0 (iE x) (mL x) (kg x) (kh x) (ki x) (mM x)):=by
  unfold lI at h
  split at h <;> first | rfl | (cases h;done) | (rename_i y;cases y;rfl)
def Cb:aL:=bJ cY (.cons (.int .i64) (.cons (.int .i64) (.cons (.ivs (.cons (.cols [.cb,.cns .u64,.ci .i64]) .nil) 1 0 0) (.cons (.ivs (.cons (.int .i64) (.cons (.int .i64) (.cons .fl .nil))) 1 0 0) (.cons (.ivs (.cons (.cols [.cb,.cns .u64,.ci .i64]) .nil) 1 0 0) (.cons (.ivs (.cons (.int .i64) (.cons (.int .i64) (.cons .fl .nil))) 1 0 0) (.cons (.ivs (.cons (.cols [.cb,.cns .u64,.ci .i64]) .nil) 1 0 0) (.cons (.ivs (.cons (.int .i64) (.cons (.int .i64) (.cons .fl .nil))) 1 0 0) (.cons (.ivs (.cons (.cols [.cb,.cns .u64,.ci .i64]) .nil) 1 0 0) .nil))))))))) fun t=>(fun q=>[⟨uT (.r0 (iE q) (mL q) (kg q) (kh q) (ki q) (mM q)),[lI q]⟩]) (cC t.1 t.2.1 t.2.2.1.2.1.2.1 t.2.2.1.2.1.2.2.1 t.2.2.1.2.1.2.2.2.1 t.2.2.1.2.1.2.2.2.2.1 t.2.2.2.1.2.2.1 t.2.2.2.2.1.2.1.2.1 t.2.2.2.2.1.2.1.2.2.1 t.2.2.2.2.1.2.1.2.2.2.1 t.2.2.2.2.1.2.1.2.2.2.2.1 t.2.2.2.2.2.1.2.2.1 t.2.2.2.2.2.2.1.2.1.2.1 t.2.2.2.2.2.2.1.2.1.2.2.1 t.2.2.2.2.2.2.1.2.1.2.2.2.1 t.2.2.2.2.2.2.1.2.1.2.2.2.2.1 t.2.2.2.2.2.2.2.1.2.2.1 t.2.2.2.2.2.2.2.2.1.2.1.2.1 t.2.2.2.2.2.2.2.2.1.2.1.2.2.1 t.2.2.2.2.2.2.2.2.1.2.1.2.2.2.1 t.2.2.2.2.2.2.2.2.1.2.1.2.2.2.2.1)
theorem IX:aV prog Cb:=aR fun t=>(aS (fun h=>M0 t.1 t.2.1 t.2.2.1.1 t.2.2.1.2.1.1 t.2.2.1.2.1.2.1 t.2.2.1.2.1.2.2.1 t.2.2.1.2.1.2.2.2.1 t.2.2.1.2.1.2.2.2.2.1 t.2.2.2.1.1 t.2.2.2.1.2.1 t.2.2.2.1.2.2.1 t.2.2.2.1.2.2.2.1.1 t.2.2.2.1.2.2.2.1.2 t.2.2.2.2.1.1 t.2.2.2.2.1.2.1.1 t.2.2.2.2.1.2.1.2.1 t.2.2.2.2.1.2.1.2.2.1 t.2.2.2.2.1.2.1.2.2.2.1 t.2.2.2.2.1.2.1.2.2.2.2.1 t.2.2.2.2.2.1.1 t.2.2.2.2.2.1.2.1 t.2.2.2.2.2.1.2.2.1 t.2.2.2.2.2.1.2.2.2.1.1 t.2.2.2.2.2.1.2.2.2.1.2 t.2.2.2.2.2.2.1.1 t.2.2.2.2.2.2.1.2.1.1 t.2.2.2.2.2.2.1.2.1.2.1 t.2.2.2.2.2.2.1.2.1.2.2.1 t.2.2.2.2.2.2.1.2.1.2.2.2.1 t.2.2.2.2.2.2.1.2.1.2.2.2.2.1 t.2.2.2.2.2.2.2.1.1 t.2.2.2.2.2.2.2.1.2.1 t.2.2.2.2.2.2.2.1.2.2.1 t.2.2.2.2.2.2.2.1.2.2.2.1.1 t.2.2.2.2.2.2.2.1.2.2.2.1.2 t.2.2.2.2.2.2.2.2.1.1 t.2.2.2.2.2.2.2.2.1.2.1.1 t.2.2.2.2.2.2.2.2.1.2.1.2.1 t.2.2.2.2.2.2.2.2.1.2.1.2.2.1 t.2.2.2.2.2.2.2.2.1.2.1.2.2.2.1 t.2.2.2.2.2.2.2.2.1.2.1.2.2.2.2.1 (M1 h)) aZ)
def Cc:List aL:=Cb :: PL
theorem cX:bd prog (bf Cc):=au IX oO
inductive aH where
  | r0 (a:Nat) (b:Bool) (c:List Int) (d:Nat) (e:Nat) (f:Int)
def dH:aH→AE×aQ
  | .r0 a b c d e f=>(.ret,⟨ao 46 [(4,.ptr 0 1 0 0),(5,.int .i64 ((a:Nat):Int))],[(0,.vs [.bool false b,.imm .free (.ns .u64 c) 1 1 d e,.int .i64 f])],1⟩)
theorem bi:jC dH:=by intro x;cases x <;> (intro h;cases h)
theorem ir(id:Nat) :m5 id dH:=by intro x;cases x <;> (intro h;cases h)
def iI:aH→gX
  | .r0 a b c d e f=>⟨.tup [.agg [.bool false b,.imm .free (.ns .u64 c) 1 1 d e,.int .i64 f],.int .i64 ((a:Nat):Int)],[]⟩
def gO:List Code:=cP (nO lE)
def sU(h:Int)(i:Int)(j:Lv)(k:Lv)(a:Nat)(l:List Bool)(m:List (List Int))(n:List Int)(o:Lv)(p:Int)(q:Int)(r:Lv)(b:List Nat)(s:Lv)(t:Lv)(c:Nat)(u:List Bool)(v:List (List Int))(w:List Int)(x:Lv)(y:Int)(z:Int)(A:Lv)(d:List Nat)(B:Lv)(C:Lv)(e:Nat)(D:List Bool)(E:List (List Int))(F:List Int)(G:Lv)(H:Int)(I:Int)(J:Lv)(f:List Nat)(K:Lv)(L:Lv)(g:Nat)(M:List Bool)(N:List (List Int))(O:List Int)(P:Bool) :aQ:=⟨ao 46 [(1,.fn (.func cY) [] [.iptr j (.vs [.imm k (.cols a [.cb l,.cns .u64 m,.ci .i64 n]) 3 3 0 a]) 1 0 0,.iptr o (.vs [.int .i64 p,.int .i64 q,.imm r (.fl b) 1 1 0 (List.length b)]) 1 0 0,.iptr s (.vs [.imm t (.cols c [.cb u,.cns .u64 v,.ci .i64 w]) 3 3 0 c]) 1 0 0,.iptr x (.vs [.int .i64 y,.int .i64 z,.imm A (.fl d) 1 1 0 (List.length d)]) 1 0 0,.iptr B (.vs [.imm C (.cols e [.cb D,.cns .u64 E,.ci .i64 F]) 3 3 0 e]) 1 0 0,.iptr G (.vs [.int .i64 H,.int .i64 I,.imm J (.fl f) 1 1 0 (List.length f)]) 1 0 0,.iptr K (.vs [.imm L (.cols g [.cb M,.cns .u64 N,.ci .i64 O]) 3 3 0 g]) 1 0 0]),(2,.ptr 0 1 0 0),(4,.ptr 1 1 0 0)],[(0,.vs [.int .i64 h,.int .i64 i]),(1,.vs [.bool false P,.nsl,.int .i64 (0:Int)])],2⟩
def rp:T ((Bool)⊕(aH)) :=
  .leaf (.inl false)
def rq:List Code:=cP (JN (((gO.drop 1)).headD .skip))
def sV(a:Int)(i:Int)(j:Lv)(k:Lv)(b:Nat)(l:List Bool)(m:List (List Int))(n:List Int)(o:Lv)(p:Int)(q:Int)(r:Lv)(c:List Nat)(s:Lv)(t:Lv)(d:Nat)(u:List Bool)(v:List (List Int))(w:List Int)(x:Lv)(y:Int)(z:Int)(A:Lv)(e:List Nat)(B:Lv)(C:Lv)(f:Nat)(D:List Bool)(E:List (List Int))(F:List Int)(G:Lv)(H:Int)(I:Int)(J:Lv)(g:List Nat)(K:Lv)(L:Lv)(h:Nat)(M:List Bool)(N:List (List Int))(O:List Int)(P:Bool)(_:Unit) :aQ:=⟨ao 46 [(1,.fn (.func cY) [] [.iptr j (.vs [.imm k (.cols b [.cb l,.cns .u64 m,.ci .i64 n]) 3 3 0 b]) 1 0 0,.iptr o (.vs [.int .i64 p,.int .i64 q,.imm r (.fl c) 1 1 0 (List.length c)]) 1 0 0,.iptr s (.vs [.imm t (.cols d [.cb u,.cns .u64 v,.ci .i64 w]) 3 3 0 d]) 1 0 0,.iptr x (.vs [.int .i64 y,.int .i64 z,.imm A (.fl e) 1 1 0 (List.length e)]) 1 0 0,.iptr B (.vs [.imm C (.cols f [.cb D,.cns .u64 E,.ci .i64 F]) 3 3 0 f]) 1 0 0,.iptr G (.vs [.int .i64 H,.int .i64 I,.imm J (.fl g) 1 1 0 (List.length g)]) 1 0 0,.iptr K (.vs [.imm L (.cols h [.cb M,.cns .u64 N,.ci .i64 O]) 3 3 0 h]) 1 0 0]),(2,.ptr 0 1 0 0),(4,.ptr 1 1 0 0),(6,.nsl),(7,.int .i64 (0:Int)),(13,.int .i64 a),(14,.int .i64 (0:Int))],[(0,.vs [.int .i64 a,.int .i64 i]),(1,.vs [.bool false P,.nsl,.int .i64 (0:Int)])],2⟩
def rr:T ((Unit)⊕(aH)) :=
  .leaf (.inl ())
def gP(a:Int)(i:Int)(j:Lv)(k:Lv)(b:Nat)(l:List Bool)(m:List (List Int))(n:List Int)(o:Lv)(p:Int)(q:Int)(r:Lv)(c:List Nat)(s:Lv)(t:Lv)(d:Nat)(u:List Bool)(v:List (List Int))(w:List Int)(x:Lv)(y:Int)(z:Int)(A:Lv)(e:List Nat)(B:Lv)(C:Lv)(f:Nat)(D:List Bool)(E:List (List Int))(F:List Int)(G:Lv)(H:Int)(I:Int)(J:Lv)(g:List Nat)(K:Lv)(L:Lv)(h:Nat)(M:List Bool)(N:List (List Int))(O:List Int)(P:Bool) :Nat×Nat×Nat×Nat×Nat×(List Bool)×(List (List Int))×(List Int)→aQ:=fun (Q,R,S,T,U,V,W,X)=>⟨ao 46 [(1,.fn (.func cY) [] [.iptr j (.vs [.imm k (.cols b [.cb l,.cns .u64 m,.ci .i64 n]) 3 3 0 b]) 1 0 0,.iptr o (.vs [.int .i64 p,.int .i64 q,.imm r (.fl c) 1 1 0 (List.length c)]) 1 0 0,.iptr s (.vs [.imm t (.cols d [.cb u,.cns .u64 v,.ci .i64 w]) 3 3 0 d]) 1 0 0,.iptr x (.vs [.int .i64 y,.int .i64 z,.imm A (.fl e) 1 1 0 (List.length e)]) 1 0 0,.iptr B (.vs [.imm C (.cols f [.cb D,.cns .u64 E,.ci .i64 F]) 3 3 0 f]) 1 0 0,.iptr G (.vs [.int .i64 H,.int .i64 I,.imm J (.fl g) 1 1 0 (List.length g)]) 1 0 0,.iptr K (.vs [.imm L (.cols h [.cb M,.cns .u64 N,.ci .i64 O]) 3 3 0 h]) 1 0 0]),(2,.ptr 0 1 0 0),(4,.ptr 1 1 0 0),(6,.sl 2 3 3 0 Q R),(7,.int .i64 ((S:Nat):Int)),(13,.int .i64 a),(14,.int .i64 ((T:Nat):Int))],[(0,.vs [.int .i64 a,.int .i64 i]),(1,.vs [.bool false P,.nsl,.int .i64 (0:Int)]),(2,.cols U [.cb V,.cns .u64 W,.ci .i64 X])],3⟩
def gQ(a:Bool) :Nat×Nat×Nat×Nat×(List Bool)×(List (List Int))×(List Int)→aQ:=fun (b,c,d,e,f,g,h)=>⟨ao 46 [(4,.ptr 0 1 0 0),(6,.sl 1 3 3 0 b c),(7,.int .i64 ((d:Nat):Int))],[(0,.vs [.bool false a,.nsl,.int .i64 (0:Int)]),(1,.cols e [.cb f,.cns .u64 g,.ci .i64 h])],2⟩
def ld:List Code:=cP (dD ((((rq.drop 3).take 1)).headD .skip))
def rt(a:Int)(i:Int)(j:Lv)(k:Lv)(b:Nat)(l:List Bool)(m:List (List Int))(n:List Int)(o:Lv)(p:Int)(q:Int)(r:Lv)(c:List Nat)(s:Lv)(t:Lv)(d:Nat)(u:List Bool)(v:List (List Int))(w:List Int)(x:Lv)(y:Int)(z:Int)(A:Lv)(e:List Nat)(B:Lv)(C:Lv)(f:Nat)(D:List Bool)(E:List (List Int))(F:List Int)(G:Lv)(H:Int)(I:Int)(J:Lv)(g:List Nat)(K:Lv)(L:Lv)(h:Nat)(M:List Bool)(N:List (List Int))(O:List Int)(P:Bool)(Q:Nat)(R:Nat)(S:Nat)(T:Nat)(U:Nat)(V:List Bool)(W:List (List Int))(X:List Int)(_:Unit) :aQ:=⟨ao 46 [(1,.fn (.func cY) [] [.iptr j (.vs [.imm k (.cols b [.cb l,.cns .u64 m,.ci .i64 n]) 3 3 0 b]) 1 0 0,.iptr o (.vs [.int .i64 p,.int .i64 q,.imm r (.fl c) 1 1 0 (List.length c)]) 1 0 0,.iptr s (.vs [.imm t (.cols d [.cb u,.cns .u64 v,.ci .i64 w]) 3 3 0 d]) 1 0 0,.iptr x (.vs [.int .i64 y,.int .i64 z,.imm A (.fl e) 1 1 0 (List.length e)]) 1 0 0,.iptr B (.vs [.imm C (.cols f [.cb D,.cns .u64 E,.ci .i64 F]) 3 3 0 f]) 1 0 0,.iptr G (.vs [.int .i64 H,.int .i64 I,.imm J (.fl g) 1 1 0 (List.length g)]) 1 0 0,.iptr K (.vs [.imm L (.cols h [.cb M,.cns .u64 N,.ci .i64 O]) 3 3 0 h]) 1 0 0]),(2,.ptr 0 1 0 0),(4,.ptr 1 1 0 0),(6,.sl 2 3 3 0 Q R),(7,.int .i64 ((S:Nat):Int)),(13,.int .i64 a),(14,.int .i64 ((T:Nat):Int))],[(0,.vs [.int .i64 a,.int .i64 i]),(1,.vs [.bool false P,.nsl,.int .i64 (0:Int)]),(2,.cols U [.cb V,.cns .u64 W,.ci .i64 X])],3⟩
def gS(a:Int)(b:Nat)(c:Nat)(d:Nat)(e:Nat)(f:Nat)(g:List Bool)(h:List (List Int))(i:List Int) :T ((Unit)⊕((Nat×Nat×Nat×Nat×(List Bool)×(List (List Int))×(List Int))⊕(aH))) :=
  .ask (decide (((e:Nat):Int) < a))
    (.leaf (.inl ()))
    (.leaf (.inr (.inl (b,c,d,f,g,h,i))))
def lf(a:Int)(i:Int)(j:Lv)(k:Lv)(b:Nat)(l:List Bool)(m:List (List Int))(n:List Int)(o:Lv)(p:Int)(q:Int)(r:Lv)(c:List Nat)(s:Lv)(t:Lv)(d:Nat)(u:List Bool)(v:List (List Int))(w:List Int)(x:Lv)(y:Int)(z:Int)(A:Lv)(e:List Nat)(B:Lv)(C:Lv)(f:Nat)(D:List Bool)(E:List (List Int))(F:List Int)(G:Lv)(H:Int)(I:Int)(J:Lv)(g:List Nat)(K:Lv)(L:Lv)(h:Nat)(M:List Bool)(N:List (List Int))(O:List Int)(P:Bool)(Q:Nat) :Nat×Nat×Nat×Nat×(List Bool)×(List (List Int))×(List Int)→aQ:=fun (R,S,T,U,V,W,X)=>⟨ao 46 [(1,.fn (.func cY) [] [.iptr j (.vs [.imm k (.cols b [.cb l,.cns .u64 m,.ci .i64 n]) 3 3 0 b]) 1 0 0,.iptr o (.vs [.int .i64 p,.int .i64 q,.imm r (.fl c) 1 1 0 (List.length c)]) 1 0 0,.iptr s (.vs [.imm t (.cols d [.cb u,.cns .u64 v,.ci .i64 w]) 3 3 0 d]) 1 0 0,.iptr x (.vs [.int .i64 y,.int .i64 z,.imm A (.fl e) 1 1 0 (List.length e)]) 1 0 0,.iptr B (.vs [.imm C (.cols f [.cb D,.cns .u64 E,.ci .i64 F]) 3 3 0 f]) 1 0 0,.iptr G (.vs [.int .i64 H,.int .i64 I,.imm J (.fl g) 1 1 0 (List.length g)]) 1 0 0,.iptr K (.vs [.imm L (.cols h [.cb M,.cns .u64 N,.ci .i64 O]) 3 3 0 h]) 1 0 0]),(2,.ptr 0 1 0 0),(4,.ptr 1 1 0 0),(6,.sl 2 3 3 0 R S),(7,.int .i64 ((T:Nat):Int)),(13,.int .i64 a),(14,.int .i64 ((Q:Nat):Int))],[(0,.vs [.int .i64 a,.int .i64 i]),(1,.vs [.bool false P,.nsl,.int .i64 (0:Int)]),(2,.cols U [.cb V,.cns .u64 W,.ci .i64 X])],3⟩
def ru:List Code:=cP (inBlock ((((ld.drop 2).take 1)).headD .skip))
def rv(a:Int)(b:Int)(k:Lv)(l:Lv)(c:Nat)(m:List Bool)(n:List (List Int))(o:List Int)(p:Lv)(q:Int)(r:Int)(s:Lv)(d:List Nat)(t:Lv)(u:Lv)(e:Nat)(v:List Bool)(w:List (List Int))(x:List Int)(y:Lv)(z:Int)(A:Int)(B:Lv)(f:List Nat)(C:Lv)(D:Lv)(g:Nat)(E:List Bool)(F:List (List Int))(G:List Int)(H:Lv)(I:Int)(J:Int)(K:Lv)(h:List Nat)(L:Lv)(M:Lv)(i:Nat)(N:List Bool)(O:List (List Int))(P:List Int)(Q:Bool)(R:Nat)(S:Nat)(T:Nat)(j:Nat)(U:Nat)(V:List Bool)(W:List (List Int))(X:List Int)(_:Unit) :aQ:=⟨ao 46 [(1,.fn (.func cY) [] [.iptr k (.vs [.imm l (.cols c [.cb m,.cns .u64 n,.ci .i64 o]) 3 3 0 c]) 1 0 0,.iptr p (.vs [.int .i64 q,.int .i64 r,.imm s (.fl d) 1 1 0 (List.length d)]) 1 0 0,.iptr t (.vs [.imm u (.cols e [.cb v,.cns .u64 w,.ci .i64 x]) 3 3 0 e]) 1 0 0,.iptr y (.vs [.int .i64 z,.int .i64 A,.imm B (.fl f) 1 1 0 (List.length f)]) 1 0 0,.iptr C (.vs [.imm D (.cols g [.cb E,.cns .u64 F,.ci .i64 G]) 3 3 0 g]) 1 0 0,.iptr H (.vs [.int .i64 I,.int .i64 J,.imm K (.fl h) 1 1 0 (List.length h)]) 1 0 0,.iptr L (.vs [.imm M (.cols i [.cb N,.cns .u64 O,.ci .i64 P]) 3 3 0 i]) 1 0 0]),(2,.ptr 0 1 0 0),(4,.ptr 1 1 0 0),(6,.sl 2 3 3 0 R S),(7,.int .i64 ((T:Nat):Int)),(8,.int .i64 ((j:Nat):Int)),(13,.int .i64 a),(14,.int .i64 ((j:Nat):Int)),(18,.int .i64 b),(19,.int .i64 (0:Int))],[(0,.vs [.int .i64 a,.int .i64 b]),(1,.vs [.bool false Q,.nsl,.int .i64 (0:Int)]),(2,.cols U [.cb V,.cns .u64 W,.ci .i64 X])],3⟩
def rx:T ((Unit)⊕((Nat×Nat×Nat×Nat×(List Bool)×(List (List Int))×(List Int))⊕((Nat×Nat×Nat×Nat×(List Bool)×(List (List Int))×(List Int))⊕(aH)))) :=
  .leaf (.inl ())
def gT(a:Int)(b:Int)(k:Lv)(l:Lv)(c:Nat)(m:List Bool)(n:List (List Int))(o:List Int)(p:Lv)(q:Int)(r:Int)(s:Lv)(d:List Nat)(t:Lv)(u:Lv)(e:Nat)(v:List Bool)(w:List (List Int))(x:List Int)(y:Lv)(z:Int)(A:Int)(B:Lv)(f:List Nat)(C:Lv)(D:Lv)(g:Nat)(E:List Bool)(F:List (List Int))(G:List Int)(H:Lv)(I:Int)(J:Int)(K:Lv)(h:List Nat)(L:Lv)(M:Lv)(i:Nat)(N:List Bool)(O:List (List Int))(P:List Int)(Q:Bool)(j:Nat) :Nat×Nat×Nat×Nat×Nat×(List Bool)×(List (List Int))×(List Int)→aQ:=fun (R,S,T,U,V,W,X,Y)=>⟨ao 46 [(1,.fn (.func cY) [] [.iptr k (.vs [.imm l (.cols c [.cb m,.cns .u64 n,.ci .i64 o]) 3 3 0 c]) 1 0 0,.iptr p (.vs [.int .i64 q,.int .i64 r,.imm s (.fl d) 1 1 0 (List.length d)]) 1 0 0,.iptr t (.vs [.imm u (.cols e [.cb v,.cns .u64 w,.ci .i64 x]) 3 3 0 e]) 1 0 0,.iptr y (.vs [.int .i64 z,.int .i64 A,.imm B (.fl f) 1 1 0 (List.length f)]) 1 0 0,.iptr C (.vs [.imm D (.cols g [.cb E,.cns .u64 F,.ci .i64 G]) 3 3 0 g]) 1 0 0,.iptr H (.vs [.int .i64 I,.int .i64 J,.imm K (.fl h) 1 1 0 (List.length h)]) 1 0 0,.iptr L (.vs [.imm M (.cols i [.cb N,.cns .u64 O,.ci .i64 P]) 3 3 0 i]) 1 0 0]),(2,.ptr 0 1 0 0),(4,.ptr 1 1 0 0),(6,.sl 2 3 3 0 R S),(7,.int .i64 ((T:Nat):Int)),(8,.int .i64 ((j:Nat):Int)),(13,.int .i64 a),(14,.int .i64 ((j:Nat):Int)),(18,.int .i64 b),(19,.int .i64 ((U:Nat):Int))],[(0,.vs [.int .i64 a,.int .i64 b]),(1,.vs [.bool false Q,.nsl,.int .i64 (0:Int)]),(2,.cols V [.cb W,.cns .u64 X,.ci .i64 Y])],3⟩
def lg(a:Int)(i:Int)(j:Lv)(k:Lv)(b:Nat)(l:List Bool)(m:List (List Int))(n:List Int)(o:Lv)(p:Int)(q:Int)(r:Lv)(c:List Nat)(s:Lv)(t:Lv)(d:Nat)(u:List Bool)(v:List (List Int))(w:List Int)(x:Lv)(y:Int)(z:Int)(A:Lv)(e:List Nat)(B:Lv)(C:Lv)(f:Nat)(D:List Bool)(E:List (List Int))(F:List Int)(G:Lv)(H:Int)(I:Int)(J:Lv)(g:List Nat)(K:Lv)(L:Lv)(h:Nat)(M:List Bool)(N:List (List Int))(O:List Int)(P:Bool)(Q:Nat) :Nat×Nat×Nat×Nat×(List Bool)×(List (List Int))×(List Int)→aQ:=fun (R,S,T,U,V,W,X)=>⟨ao 46 [(1,.fn (.func cY) [] [.iptr j (.vs [.imm k (.cols b [.cb l,.cns .u64 m,.ci .i64 n]) 3 3 0 b]) 1 0 0,.iptr o (.vs [.int .i64 p,.int .i64 q,.imm r (.fl c) 1 1 0 (List.length c)]) 1 0 0,.iptr s (.vs [.imm t (.cols d [.cb u,.cns .u64 v,.ci .i64 w]) 3 3 0 d]) 1 0 0,.iptr x (.vs [.int .i64 y,.int .i64 z,.imm A (.fl e) 1 1 0 (List.length e)]) 1 0 0,.iptr B (.vs [.imm C (.cols f [.cb D,.cns .u64 E,.ci .i64 F]) 3 3 0 f]) 1 0 0,.iptr G (.vs [.int .i64 H,.int .i64 I,.imm J (.fl g) 1 1 0 (List.length g)]) 1 0 0,.iptr K (.vs [.imm L (.cols h [.cb M,.cns .u64 N,.ci .i64 O]) 3 3 0 h]) 1 0 0]),(2,.ptr 0 1 0 0),(4,.ptr 1 1 0 0),(6,.sl 2 3 3 0 R S),(7,.int .i64 ((T:Nat):Int)),(13,.int .i64 a),(14,.int .i64 ((Q:Nat):Int))],[(0,.vs [.int .i64 a,.int .i64 i]),(1,.vs [.bool false P,.nsl,.int .i64 (0:Int)]),(2,.cols U [.cb V,.cns .u64 W,.ci .i64 X])],3⟩
def ry:List Code:=cP (dD ((((ru.drop 2).take 1)).headD .skip))
def rz(b:Int)(c:Int)(l:Lv)(m:Lv)(d:Nat)(n:List Bool)(o:List (List Int))(p:List Int)(q:Lv)(r:Int)(s:Int)(t:Lv)(e:List Nat)(u:Lv)(v:Lv)(f:Nat)(w:List Bool)(x:List (List Int))(y:List Int)(z:Lv)(A:Int)(B:Int)(C:Lv)(g:List Nat)(D:Lv)(E:Lv)(h:Nat)(F:List Bool)(G:List (List Int))(H:List Int)(I:Lv)(J:Int)(K:Int)(L:Lv)(i:List Nat)(M:Lv)(N:Lv)(j:Nat)(O:List Bool)(P:List (List Int))(Q:List Int)(R:Bool)(k:Nat)(S:Nat) :Nat×Nat×(List Bool)×(List (List Int))×(List Int)→aQ:=fun (a,T,U,V,W)=>⟨ao 46 [(1,.fn (.func cY) [] [.iptr l (.vs [.imm m (.cols d [.cb n,.cns .u64 o,.ci .i64 p]) 3 3 0 d]) 1 0 0,.iptr q (.vs [.int .i64 r,.int .i64 s,.imm t (.fl e) 1 1 0 (List.length e)]) 1 0 0,.iptr u (.vs [.imm v (.cols f [.cb w,.cns .u64 x,.ci .i64 y]) 3 3 0 f]) 1 0 0,.iptr z (.vs [.int .i64 A,.int .i64 B,.imm C (.fl g) 1 1 0 (List.length g)]) 1 0 0,.iptr D (.vs [.imm E (.cols h [.cb F,.cns .u64 G,.ci .i64 H]) 3 3 0 h]) 1 0 0,.iptr I (.vs [.int .i64 J,.int .i64 K,.imm L (.fl i) 1 1 0 (List.length i)]) 1 0 0,.iptr M (.vs [.imm N (.cols j [.cb O,.cns .u64 P,.ci .i64 Q]) 3 3 0 j]) 1 0 0]),(2,.ptr 0 1 0 0),(4,.ptr 1 1 0 0),(6,.sl 2 3 3 0 a a),(7,.int .i64 ((T:Nat):Int)),(8,.int .i64 ((k:Nat):Int)),(13,.int .i64 b),(14,.int .i64 ((k:Nat):Int)),(18,.int .i64 c),(19,.int .i64 ((S:Nat):Int))],[(0,.vs [.int .i64 b,.int .i64 c]),(1,.vs [.bool false R,.nsl,.int .i64 (0:Int)]),(2,.cols a [.cb U,.cns .u64 V,.ci .i64 W])],3⟩
def eC(E:Int)(a:Nat)(f:List Bool)(g:List (List Int))(h:List Int)(i:Int)(A:List Nat)(b:Nat)(j:List Bool)(k:List (List Int))(l:List Int)(m:Int)(B:List Nat)(c:Nat)(n:List Bool)(o:List (List Int))(p:List Int)(q:Int)(C:List Nat)(d:Nat)(r:List Bool)(s:List (List Int))(t:List Int)(u:Nat)(v:Nat)(D:Nat)(F:Nat)(e:Nat)(w:Nat)(x:List Bool)(y:List (List Int))(z:List Int) :T ((Nat×Nat×(List Bool)×(List (List Int))×(List Int))⊕((Nat×Nat×Nat×Nat×(List Bool)×(List (List Int))×(List Int))⊕((Nat×Nat×Nat×Nat×(List Bool)×(List (List Int))×(List Int))⊕((Nat×Nat×Nat×Nat×(List Bool)×(List (List Int))×(List Int))⊕(aH))))) :=
  .ask (decide (((e:Nat):Int) < E))
    (.need (Nat.ble (0+a) a)<|.need (aP 0 (List.length A) A)<|.need (Nat.ble (0+b) b)<|.need (aP 0 (List.length B) B)<|.need (Nat.ble (0+c) c)<|.need (aP 0 (List.length C) C)<|.need (Nat.ble (0+d) d)<|.need (lI (cC ((u:Nat):Int) ((e:Nat):Int) a (ab 0 a f) (ab 0 a g) (ab 0 a h) i b (ab 0 b j) (ab 0 b k) (ab 0 b l) m c (ab 0 c n) (ab 0 c o) (ab 0 c p) q d (ab 0 d r) (ab 0 d s) (ab 0 d t)))<|.ask ((((iE (cC ((u:Nat):Int) ((e:Nat):Int) a (ab 0 a f) (ab 0 a g) (ab 0 a h) i b (ab 0 b j) (ab 0 b k) (ab 0 b l) m c (ab 0 c n) (ab 0 c o) (ab 0 c p) q d (ab 0 d r) (ab 0 d s) (ab 0 d t))):Nat):Int) != (0:Int))
      (.leaf (.inr (.inr (.inr (.inl (v,D,(iE (cC ((u:Nat):Int) ((e:Nat):Int) a (ab 0 a f) (ab 0 a g) (ab 0 a h) i b (ab 0 b j) (ab 0 b k) (ab 0 b l) m c (ab 0 c n) (ab 0 c o) (ab 0 c p) q d (ab 0 d r) (ab 0 d s) (ab 0 d t))),w,x,y,z))))))
      (.need (qv ((v+1) * 40) 140737488355328)<|.need (qv (v+1) 9223372036854775807)<|.need (qv 3 3)<|.need (qv v w)<|.need (decide ((kh (cC ((u:Nat):Int) ((e:Nat):Int) a (ab 0 a f) (ab 0 a g) (ab 0 a h) i b (ab 0 b j) (ab 0 b k) (ab 0 b l) m c (ab 0 c n) (ab 0 c o) (ab 0 c p) q d (ab 0 d r) (ab 0 d s) (ab 0 d t)))+(ki (cC ((u:Nat):Int) ((e:Nat):Int) a (ab 0 a f) (ab 0 a g) (ab 0 a h) i b (ab 0 b j) (ab 0 b k) (ab 0 b l) m c (ab 0 c n) (ab 0 c o) (ab 0 c p) q d (ab 0 d r) (ab 0 d s) (ab 0 d t)))≤List.length (kg (cC ((u:Nat):Int) ((e:Nat):Int) a (ab 0 a f) (ab 0 a g) (ab 0 a h) i b (ab 0 b j) (ab 0 b k) (ab 0 b l) m c (ab 0 c n) (ab 0 c o) (ab 0 c p) q d (ab 0 d r) (ab 0 d s) (ab 0 d t)))))<|.leaf (.inl ((v+1),(iE (cC ((u:Nat):Int) ((e:Nat):Int) a (ab 0 a f) (ab 0 a g) (ab 0 a h) i b (ab 0 b j) (ab 0 b k) (ab 0 b l) m c (ab 0 c n) (ab 0 c o) (ab 0 c p) q d (ab 0 d r) (ab 0 d s) (ab 0 d t))),((List.take v x) ++ [(mL (cC ((u:Nat):Int) ((e:Nat):Int) a (ab 0 a f) (ab 0 a g) (ab 0 a h) i b (ab 0 b j) (ab 0 b k) (ab 0 b l) m c (ab 0 c n) (ab 0 c o) (ab 0 c p) q d (ab 0 d r) (ab 0 d s) (ab 0 d t)))]),((List.take v y) ++ [(List.take (ki (cC ((u:Nat):Int) ((e:Nat):Int) a (ab 0 a f) (ab 0 a g) (ab 0 a h) i b (ab 0 b j) (ab 0 b k) (ab 0 b l) m c (ab 0 c n) (ab 0 c o) (ab 0 c p) q d (ab 0 d r) (ab 0 d s) (ab 0 d t))) (List.drop (kh (cC ((u:Nat):Int) ((e:Nat):Int) a (ab 0 a f) (ab 0 a g) (ab 0 a h) i b (ab 0 b j) (ab 0 b k) (ab 0 b l) m c (ab 0 c n) (ab 0 c o) (ab 0 c p) q d (ab 0 d r) (ab 0 d s) (ab 0 d t))) (kg (cC ((u:Nat):Int) ((e:Nat):Int) a (ab 0 a f) (ab 0 a g) (ab 0 a h) i b (ab 0 b j) (ab 0 b k) (ab 0 b l) m c (ab 0 c n) (ab 0 c o) (ab 0 c p) q d (ab 0 d r) (ab 0 d s) (ab 0 d t)))))]),((List.take v z) ++ [(mM (cC ((u:Nat):Int) ((e:Nat):Int) a (ab 0 a f) (ab 0 a g) (ab 0 a h) i b (ab 0 b j) (ab 0 b k) (ab 0 b l) m c (ab 0 c n) (ab 0 c o) (ab 0 c p) q d (ab 0 d r) (ab 0 d s) (ab 0 d t)))])))))
    (.leaf (.inr (.inl (v,D,F,w,x,y,z))))
def rA(b:Nat)(a:Nat)(c:Nat)(d:List Bool)(e:List (List Int))(f:List Int) :T ((Nat×Nat×Nat×Nat×Nat×(List Bool)×(List (List Int))×(List Int))⊕((Nat×Nat×Nat×Nat×(List Bool)×(List (List Int))×(List Int))⊕((Nat×Nat×Nat×Nat×(List Bool)×(List (List Int))×(List Int))⊕((Nat×Nat×Nat×Nat×(List Bool)×(List (List Int))×(List Int))⊕(aH))))) :=
  .need (dn .i64 (((b+1):Nat):Int))<|.leaf (.inl (a,a,c,(b+1),a,d,e,f))
def gU(b:Int)(c:Nat)(d:List Bool)(e:List (List Int))(f:List Int)(g:Int)(h:List Nat)(i:Nat)(j:List Bool)(k:List (List Int))(l:List Int)(m:Int)(n:List Nat)(o:Nat)(p:List Bool)(q:List (List Int))(r:List Int)(s:Int)(t:List Nat)(u:Nat)(v:List Bool)(w:List (List Int))(x:List Int)(y:Nat) :Nat×Nat×Nat×Nat×Nat×(List Bool)×(List (List Int))×(List Int)→Option ((Nat×Nat×Nat×Nat×Nat×(List Bool)×(List (List Int))×(List Int))⊕((Nat×Nat×Nat×Nat×(List Bool)×(List (List Int))×(List Int))⊕((Nat×Nat×Nat×Nat×(List Bool)×(List (List Int))×(List Int))⊕((Nat×Nat×Nat×Nat×(List Bool)×(List (List Int))×(List Int))⊕(aH))))):=fun (z,A,B,a,C,D,E,F) =>
  aE ((eC b c d e f g h i j k l m n o p q r s t u v w x y z A B a C D E F).run) fun (G,H,I,J,K) =>
  (rA a G H I J K).run
theorem rB(z:Int)(a:Int)(A:Lv)(B:Lv)(b:Nat)(c:List Bool)(d:List (List Int))(e:List Int)(C:Lv)(D:Int)(f:Int)(E:Lv)(g:List Nat)(F:Lv)(G:Lv)(h:Nat)(i:List Bool)(j:List (List Int))(k:List Int)(H:Lv)(I:Int)(l:Int)(J:Lv)(m:List Nat)(K:Lv)(L:Lv)(n:Nat)(o:List Bool)(p:List (List Int))(q:List Int)(M:Lv)(N:Int)(r:Int)(O:Lv)(s:List Nat)(P:Lv)(Q:Lv)(t:Nat)(u:List Bool)(v:List (List Int))(w:List Int)(x:Bool)(y:Nat)(S:Nat)(T:Nat)(U:Nat)(R:Nat)(V:Nat)(W:List Bool)(X:List (List Int))(Y:List Int) :Sg prog [] ry (gT z a A B b c d e C D f E g F G h i j k H I l J m K L n o p q M N r O s P Q t u v w x y (S,T,U,R,V,W,X,Y)) (gU a b c d e f g h i j k l m n o p q r s t u v w y (S,T,U,R,V,W,X,Y)) (gT z a A B b c d e C D f E g F G h i j k H I l J m K L n o p q M N r O s P Q t u v w x y) (cL 2 (lg z a A B b c d e C D f E g F G h i j k H I l J m K L n o p q M N r O s P Q t u v w x y) (cL 1 (lf z a A B b c d e C D f E g F G h i j k H I l J m K L n o p q M N r O s P Q t u v w x y) (cL 0 (gQ x) dH))):=by
  unfold gU;exact Sg.cut 3 (ay (ay (ay bi))) (bk cX (rz z a A B b c d e C D f E g F G h i j k H I l J m K L n o p q M N r O s P Q t u v w x y R) [⟨[],[1,2],[4,6,7]⟩,⟨[],[0,1,323],[1,2,4,6,7,8,13,14,18,19]⟩,⟨[],[0,1,2],[1,2,4,6,7,13,14]⟩]) (fun ⟨Z,a0,a1,a2,a3⟩=>bk cX _ [⟨[],[0,1,2],[1,2,4,6,7,8,13,14,18,19]⟩])
def rC(a:Nat)(b:Nat)(c:Nat)(d:Nat)(e:List Bool)(f:List (List Int))(g:List Int) :T ((Nat×Nat×Nat×Nat×(List Bool)×(List (List Int))×(List Int))⊕((Nat×Nat×Nat×Nat×(List Bool)×(List (List Int))×(List Int))⊕((Nat×Nat×Nat×Nat×(List Bool)×(List (List Int))×(List Int))⊕(aH)))) :=
  .leaf (.inl (a,b,c,d,e,f,g))
def rD(a:Nat)(b:Nat)(c:Nat)(d:Nat)(e:Nat)(f:List Bool)(g:List (List Int))(h:List Int) :T ((Nat×Nat×Nat×Nat×Nat×(List Bool)×(List (List Int))×(List Int))⊕((Nat×Nat×Nat×Nat×(List Bool)×(List (List Int))×(List Int))⊕(aH))) :=
  .need (dn .i64 (((a+1):Nat):Int))<|.leaf (.inl (b,c,d,(a+1),e,f,g,h))
def gV(i:Int)(j:Int)(k:Nat)(l:List Bool)(m:List (List Int))(n:List Int)(o:Int)(p:List Nat)(q:Nat)(r:List Bool)(s:List (List Int))(t:List Int)(u:Int)(v:List Nat)(w:Nat)(x:List Bool)(y:List (List Int))(z:List Int)(A:Int)(B:List Nat)(C:Nat)(D:List Bool)(E:List (List Int))(F:List Int) :Nat×Nat×Nat×Nat×Nat×(List Bool)×(List (List Int))×(List Int)→Option ((Nat×Nat×Nat×Nat×Nat×(List Bool)×(List (List Int))×(List Int))⊕((Nat×Nat×Nat×Nat×(List Bool)×(List (List Int))×(List Int))⊕(aH))):=fun (b,c,d,a,e,f,g,h) =>
  aE ((gS i b c d a e f g h).run) fun _ =>
  aE (GX (aE ((rx).run) fun _ =>
  aE (dc (gU j k l m n o p q r s t u v w x y z A B C D E F a) (b,c,d,0,e,f,g,h)) fun (G,H,I,J,K,L,M) =>
  (rC G H I J K L M).run)) fun (N,O,P,Q,R,S,T) =>
  (rD a N O P Q R S T).run
theorem rE(a:Int)(b:Int)(z:Lv)(A:Lv)(c:Nat)(d:List Bool)(e:List (List Int))(f:List Int)(B:Lv)(C:Int)(g:Int)(D:Lv)(h:List Nat)(E:Lv)(F:Lv)(i:Nat)(j:List Bool)(k:List (List Int))(l:List Int)(G:Lv)(H:Int)(m:Int)(I:Lv)(n:List Nat)(J:Lv)(K:Lv)(o:Nat)(p:List Bool)(q:List (List Int))(r:List Int)(L:Lv)(M:Int)(s:Int)(N:Lv)(t:List Nat)(O:Lv)(P:Lv)(u:Nat)(v:List Bool)(w:List (List Int))(x:List Int)(y:Bool)(R:Nat)(S:Nat)(T:Nat)(Q:Nat)(U:Nat)(V:List Bool)(W:List (List Int))(X:List Int) :Sg prog [] ld (gP a b z A c d e f B C g D h E F i j k l G H m I n J K o p q r L M s N t O P u v w x y (R,S,T,Q,U,V,W,X)) (gV a b c d e f g h i j k l m n o p q r s t u v w x (R,S,T,Q,U,V,W,X)) (gP a b z A c d e f B C g D h E F i j k l G H m I n J K o p q r L M s N t O P u v w x y) (cL 0 (gQ y) dH):=by
  unfold gV;exact Sg.cut 2 (ay bi) (bk cX (rt a b z A c d e f B C g D h E F i j k l G H m I n J K o p q r L M s N t O P u v w x y R S T Q U V W X) [⟨[],[0,1,2],[1,2,4,6,7,13,14]⟩,⟨[],[1,2],[4,6,7]⟩]) (fun _=>Sg.cut 1 (ay bi) (sgb (lf a b z A c d e f B C g D h E F i j k l G H m I n J K o p q r L M s N t O P u v w x y Q) 1 (ay bi) (cZ (by decide) (ir _)) (Sg.cut 2 (ay (ay bi)) (bk cX (rv a b z A c d e f B C g D h E F i j k l G H m I n J K o p q r L M s N t O P u v w x y R S T Q U V W X) [⟨[],[0,1,2],[1,2,4,6,7,8,13,14,18,19]⟩]) (fun _=>Sg.cut 1 (ay (ay bi)) (BM ⟨[],[0,1,2],[1,2,4,6,7,8,13,14,18,19]⟩ (gT a b z A c d e f B C g D h E F i j k l G H m I n J K o p q r L M s N t O P u v w x y Q) (lg a b z A c d e f B C g D h E F i j k l G H m I n J K o p q r L M s N t O P u v w x y Q) 2 (ay (ay bi)) (cZ (by decide) (cZ (by decide) (ir _))) (fun ⟨Y,Z,a0,a1,a2,a3,a4,a5⟩=>rB a b z A c d e f B C g D h E F i j k l G H m I n J K o p q r L M s N t O P u v w x y Q Y Z a0 a1 a2 a3 a4 a5)) (fun ⟨a6,a7,a8,a9,b0,b2,b3⟩=>bk cX _ [⟨[],[0,1,2],[1,2,4,6,7,13,14]⟩])))) (fun ⟨b4,b5,b6,b7,b8,b9,c0⟩=>bk cX _ [⟨[],[0,1,2],[1,2,4,6,7,13,14]⟩]))
def rF:Nat×Bool×(List Int)×Nat×Nat×Int→aQ:=fun (a,b,c,d,e,f)=>⟨ao 46 [(4,.ptr 0 1 0 0),(5,.int .i64 ((a:Nat):Int))],[(0,.vs [.bool false b,.imm .free (.ns .u64 c) 1 1 d e,.int .i64 f])],1⟩
def gW(a:Nat)(e:Nat)(f:Nat)(b:List Bool)(c:List (List Int))(d:List Int) :T ((Nat×Bool×(List Int)×Nat×Nat×Int)⊕(aH)) :=
  .ask (((e:Nat):Int) != (0:Int))
    (.leaf (.inr (.r0 e false ([]:List Int) 0 0 (0:Int))))
    (.need (Nat.ble (0+a) f)<|.need (mb (bP a (ab 0 a b) (ab 0 a c) (ab 0 a d)))<|.leaf (.inl ((mE (bP a (ab 0 a b) (ab 0 a c) (ab 0 a d))),(mF (bP a (ab 0 a b) (ab 0 a c) (ab 0 a d))),(mG (bP a (ab 0 a b) (ab 0 a c) (ab 0 a d))),(mH (bP a (ab 0 a b) (ab 0 a c) (ab 0 a d))),(mI (bP a (ab 0 a b) (ab 0 a c) (ab 0 a d))),(mJ (bP a (ab 0 a b) (ab 0 a c) (ab 0 a d))))))
def rG(a:Nat)(b:Bool)(c:List Int)(d:Nat)(e:Nat)(f:Int) :T ((Empty)⊕(aH)) :=
  .leaf (.inr (.r0 a b c d e f))
def bG(a:Int)(b:Int)(c:Nat)(d:List Bool)(e:List (List Int))(f:List Int)(g:Int)(h:List Nat)(i:Nat)(j:List Bool)(k:List (List Int))(l:List Int)(m:Int)(n:List Nat)(o:Nat)(p:List Bool)(q:List (List Int))(r:List Int)(s:Int)(t:List Nat)(u:Nat)(v:List Bool)(w:List (List Int))(x:List Int) :Option aH:=jR (aE ((rp).run) fun K =>
  aE ((rr).run) fun _ =>
  aE (dc (gV a b c d e f g h i j k l m n o p q r s t u v w x) (0,0,0,0,0,([]:List Bool),([]:List (List Int)),([]:List Int))) fun (y,L,z,A,B,C,D) =>
  aE ((gW y z A B C D).run) fun (E,F,G,H,I,J) =>
  (rG E F G H I J).run)
theorem sW(i:Int)(j:Int)(A:Lv)(B:Lv)(a:Nat)(k:List Bool)(l:List (List Int))(m:List Int)(C:Lv)(D:Int)(n:Int)(E:Lv)(b:List Nat)(F:Lv)(G:Lv)(c:Nat)(o:List Bool)(p:List (List Int))(q:List Int)(H:Lv)(I:Int)(r:Int)(J:Lv)(d:List Nat)(K:Lv)(L:Lv)(e:Nat)(s:List Bool)(t:List (List Int))(u:List Int)(M:Lv)(N:Int)(v:Int)(O:Lv)(f:List Nat)(P:Lv)(Q:Lv)(g:Nat)(w:List Bool)(y:List (List Int))(z:List Int){x:aH}(h:bG i j a k l m n b c o p q r d e s t u v f g w y z=some x) :aw prog lE [] [.agg [.int .i64 i,.int .i64 j],.fn (.func cY) [] [.iptr A (.vs [.imm B (.cols a [.cb k,.cns .u64 l,.ci .i64 m]) 3 3 0 a]) 1 0 0,.iptr C (.vs [.int .i64 D,.int .i64 n,.imm E (.fl b) 1 1 0 (List.length b)]) 1 0 0,.iptr F (.vs [.imm G (.cols c [.cb o,.cns .u64 p,.ci .i64 q]) 3 3 0 c]) 1 0 0,.iptr H (.vs [.int .i64 I,.int .i64 r,.imm J (.fl d) 1 1 0 (List.length d)]) 1 0 0,.iptr K (.vs [.imm L (.cols e [.cb s,.cns .u64 t,.ci .i64 u]) 3 3 0 e]) 1 0 0,.iptr M (.vs [.int .i64 N,.int .i64 v,.imm O (.fl f) 1 1 0 (List.length f)]) 1 0 0,.iptr P (.vs [.imm Q (.cols g [.cb w,.cns .u64 y,.ci .i64 z]) 3 3 0 g]) 1 0 0]] (iI x) :=
  kp true iI dH h (Sg.cut 1 bi (bk cX (sU i j A B a k l m C D n E b F G c o p q H I r J d K L e s t u M N v O f P Q g w y z) [⟨[],[0,16],[1,2,4]⟩]) (fun R=>Mj (by kernel_rfl:(gO.drop 1) = [.scope (JN (((gO.drop 1)).headD .skip))]) bi (Sg.cut 3 bi (bk cX (sV i j A B a k l m C D n E b F G c o p q H I r J d K L e s t u M N v O f P Q g w y z R) [⟨[],[0,1],[1,2,4,6,7,13,14]⟩]) (fun _=>Sg.cut 1 bi (BM ⟨[(.slot 6,.own 3 3 (.cols 0 [.cb ([]:List Bool),.cns .u64 ([]:List (List Int)),.ci .i64 ([]:List Int)]))],[0,1,2],[1,2,4,6,7,13,14]⟩ (gP i j A B a k l m C D n E b F G c o p q H I r J d K L e s t u M N v O f P Q g w y z R) (gQ R) 0 bi (ir _) (fun ⟨S,T,U,V,W,X,Y,Z⟩=>rE i j A B a k l m C D n E b F G c o p q H I r J d K L e s t u M N v O f P Q g w y z R S T U V W X Y Z)) (fun ⟨a6,a7,a8,a9,b0,b2,b3⟩=>Sg.cut 3 bi (bk cX rF [⟨[(.cell 0 1,.fre 1 1 (.ns .u64 ([]:List Int)))],[0],[4,5]⟩,⟨[],[0],[4,5]⟩]) (fun ⟨b4,b5,b6,b7,b8,b9⟩=>bk cX _ [⟨[],[0],[4,5]⟩]))))))
    (fun x=>by cases x with | r0 a0 a1 a2 a3 a4 a5=>exact jT [.agg [.bool false a1,.imm .free (.ns .u64 a2) 1 1 a3 a4,.int .i64 a5],.int .i64 ((a0:Nat):Int)])
def eN:Option aH→Bool
  | some _=>true
  | none=>false
def gj:Option aH→Nat
  | some (.r0 x _ _ _ _ _)=>x
  | _=>0
def gk:Option aH→Bool
  | some (.r0 _ x _ _ _ _)=>x
  | _=>false
def gn:Option aH→List Int
  | some (.r0 _ _ x _ _ _)=>x
  | _=>[]
def gp:Option aH→Nat
  | some (.r0 _ _ _ x _ _)=>x
  | _=>0
def gq:Option aH→Nat
  | some (.r0 _ _ _ _ x _)=>x
  | _=>0
def gr:Option aH→Int
  | some (.r0 _ _ _ _ _ x)=>x
  | _=>0
theorem sX{x:Option aH}(h:eN x=true) :x=some (.r0 (gj x) (gk x) (gn x) (gp x) (gq x) (gr x)):=by
  unfold eN at h
  split at h <;> first | rfl | (cases h;done) | (rename_i y;cases y;rfl)
def lS:aL:=bJ lE (.cons (.agg (.cons (.int .i64) (.cons (.int .i64) .nil))) (.cons (.fn cY .nil (.cons (.ivs (.cons (.cols [.cb,.cns .u64,.ci .i64]) .nil) 1 0 0) (.cons (.ivs (.cons (.int .i64) (.cons (.int .i64) (.cons .fl .nil))) 1 0 0) (.cons (.ivs (.cons (.cols [.cb,.cns .u64,.ci .i64]) .nil) 1 0 0) (.cons (.ivs (.cons (.int .i64) (.cons (.int .i64) (.cons .fl .nil))) 1 0 0) (.cons (.ivs (.cons (.cols [.cb,.cns .u64,.ci .i64]) .nil) 1 0 0) (.cons (.ivs (.cons (.int .i64) (.cons (.int .i64) (.cons .fl .nil))) 1 0 0) (.cons (.ivs (.cons (.cols [.cb,.cns .u64,.ci .i64]) .nil) 1 0 0) .nil)))))))) .nil)) fun t=>(fun q=>[⟨iI (.r0 (gj q) (gk q) (gn q) (gp q) (gq q) (gr q)),[eN q]⟩]) (bG t.1.1 t.1.2.1 t.2.1.2.1.2.1.2.1 t.2.1.2.1.2.1.2.2.1 t.2.1.2.1.2.1.2.2.2.1 t.2.1.2.1.2.1.2.2.2.2.1 t.2.1.2.2.1.2.2.1 t.2.1.2.2.1.2.2.2.1.2 t.2.1.2.2.2.1.2.1.2.1 t.2.1.2.2.2.1.2.1.2.2.1 t.2.1.2.2.2.1.2.1.2.2.2.1 t.2.1.2.2.2.1.2.1.2.2.2.2.1 t.2.1.2.2.2.2.1.2.2.1 t.2.1.2.2.2.2.1.2.2.2.1.2 t.2.1.2.2.2.2.2.1.2.1.2.1 t.2.1.2.2.2.2.2.1.2.1.2.2.1 t.2.1.2.2.2.2.2.1.2.1.2.2.2.1 t.2.1.2.2.2.2.2.1.2.1.2.2.2.2.1 t.2.1.2.2.2.2.2.2.1.2.2.1 t.2.1.2.2.2.2.2.2.1.2.2.2.1.2 t.2.1.2.2.2.2.2.2.2.1.2.1.2.1 t.2.1.2.2.2.2.2.2.2.1.2.1.2.2.1 t.2.1.2.2.2.2.2.2.2.1.2.1.2.2.2.1 t.2.1.2.2.2.2.2.2.2.1.2.1.2.2.2.2.1)
theorem qA:aV prog lS:=aR fun t=>(aS (fun h=>sW t.1.1 t.1.2.1 t.2.1.2.1.1 t.2.1.2.1.2.1.1 t.2.1.2.1.2.1.2.1 t.2.1.2.1.2.1.2.2.1 t.2.1.2.1.2.1.2.2.2.1 t.2.1.2.1.2.1.2.2.2.2.1 t.2.1.2.2.1.1 t.2.1.2.2.1.2.1 t.2.1.2.2.1.2.2.1 t.2.1.2.2.1.2.2.2.1.1 t.2.1.2.2.1.2.2.2.1.2 t.2.1.2.2.2.1.1 t.2.1.2.2.2.1.2.1.1 t.2.1.2.2.2.1.2.1.2.1 t.2.1.2.2.2.1.2.1.2.2.1 t.2.1.2.2.2.1.2.1.2.2.2.1 t.2.1.2.2.2.1.2.1.2.2.2.2.1 t.2.1.2.2.2.2.1.1 t.2.1.2.2.2.2.1.2.1 t.2.1.2.2.2.2.1.2.2.1 t.2.1.2.2.2.2.1.2.2.2.1.1 t.2.1.2.2.2.2.1.2.2.2.1.2 t.2.1.2.2.2.2.2.1.1 t.2.1.2.2.2.2.2.1.2.1.1 t.2.1.2.2.2.2.2.1.2.1.2.1 t.2.1.2.2.2.2.2.1.2.1.2.2.1 t.2.1.2.2.2.2.2.1.2.1.2.2.2.1 t.2.1.2.2.2.2.2.1.2.1.2.2.2.2.1 t.2.1.2.2.2.2.2.2.1.1 t.2.1.2.2.2.2.2.2.1.2.1 t.2.1.2.2.2.2.2.2.1.2.2.1 t.2.1.2.2.2.2.2.2.1.2.2.2.1.1 t.2.1.2.2.2.2.2.2.1.2.2.2.1.2 t.2.1.2.2.2.2.2.2.2.1.1 t.2.1.2.2.2.2.2.2.2.1.2.1.1 t.2.1.2.2.2.2.2.2.2.1.2.1.2.1 t.2.1.2.2.2.2.2.2.2.1.2.1.2.2.1 t.2.1.2.2.2.2.2.2.2.1.2.1.2.2.2.1 t.2.1.2.2.2.2.2.2.2.1.2.1.2.2.2.2.1 (sX h)) aZ)
def lT:List aL:=lS :: Cc
theorem dd:bd prog (bf lT):=au qA cX
inductive cR where
  | r0 (a:Nat) (b:Bool) (c:List Int) (d:Nat) (e:Nat) (f:Int)
def G1:cR→AE×aQ
  | .r0 a b c d e f=>(.ret,⟨ao 78 [(8,.ptr 0 1 0 0),(9,.int .i64 ((a:Nat):Int))],[(0,.vs [.bool false b,.imm .free (.ns .u64 c) 1 1 d e,.int .i64 f])],1⟩)
theorem we:jC G1:=by intro x;cases x <;> (intro h;cases h)
def yc:cR→gX
  | .r0 a b c d e f=>⟨.tup [.agg [.bool false b,.imm .free (.ns .u64 c) 1 1 d e,.int .i64 f],.int .i64 ((a:Nat):Int)],[]⟩
def Rj(e:Int)(f:Int)(g:Lv)(a:List Nat)(h:Int)(i:Int)(j:Lv)(b:List Nat)(k:Int)(l:Int)(m:Lv)(c:List Nat)(n:Lv)(d:List Nat)(o:Bool) :aQ:=⟨ao 78 [(3,.imm n (.fl d) 1 1 0 (List.length d)),(4,.ptr 0 1 0 0),(5,.ptr 1 1 0 0),(6,.ptr 2 1 0 0),(8,.ptr 3 1 0 0)],[(0,.vs [.int .i64 e,.int .i64 f,.imm g (.fl a) 1 1 0 (List.length a)]),(1,.vs [.int .i64 h,.int .i64 i,.imm j (.fl b) 1 1 0 (List.length b)]),(2,.vs [.int .i64 k,.int .i64 l,.imm m (.fl c) 1 1 0 (List.length c)]),(3,.vs [.bool false o,.nsl,.int .i64 (0:Int)])],4⟩
def En(f : Int)(g : Int)(a : List Nat)(h : Int)(e : Int)(b : List Nat)(i : Int)(j : Int)(c : List Nat)(d : List Nat) : T ((Bool) ⊕ (cR)) :=
  .ask (decide ((0 : Int) < (3 : Int)))
    (.need (gD (0 : Int) 3) <| .need (aP 0 (List.length a) a) <| .need (iL (dK f g (ab 0 (List.length a) a))) <| .ask (ig (dK f g (ab 0 (List.length a) a)))
      (.ask (!(!(decide ((0:Int) ≥ (0:Int)))))
        (.leaf (.inr (.r0 2 false ([]:List Int) 0 0 (0:Int))))
        (.fail))
      (.need (dn .i64 (1 : Int)) <| .ask (decide ((1 : Int) < (3 : Int)))
        (.need (gD (1 : Int) 3) <| .need (aP 0 (List.length b) b) <| .need (iL (dK h e (ab 0 (List.length b) b))) <| .ask (ig (dK h e (ab 0 (List.length b) b)))
          (.ask (!(!(decide ((1:Int) ≥ (0:Int)))))
            (.leaf (.inr (.r0 2 false ([]:List Int) 0 0 (0:Int))))
            (.fail))
          (.need (dn .i64 (2 : Int)) <| .ask (decide ((2 : Int) < (3 : Int)))
            (.need (gD (2 : Int) 3) <| .need (aP 0 (List.length c) c) <| .need (iL (dK i j (ab 0 (List.length c) c))) <| .ask (ig (dK i j (ab 0 (List.length c) c)))
              (.ask (!(!(decide ((2:Int) ≥ (0:Int)))))
                (.leaf (.inr (.r0 2 false ([]:List Int) 0 0 (0:Int))))
                (.fail))
              (.need (dn .i64 (3:Int))<|.ask (decide ((3:Int) < (3:Int)))
                (.fail)
                (.ask (!(!(decide ((-1:Int) ≥ (0:Int)))))
                  (.fail)
                  (.ask (!(h == g && e == e))
                    (.leaf (.inr (.r0 8 false ([]:List Int) 0 0 (0:Int))))
                    (.ask (!(i == f && j == e))
                      (.leaf (.inr (.r0 8 false ([]:List Int) 0 0 (0:Int))))
                      (.ask ((((List.length d):Nat):Int) != e)
                        (.leaf (.inr (.r0 8 false ([]:List Int) 0 0 (0:Int))))
                        (.ask (decide ((0:Int) < (4:Int)))
                          (.need (gD (0 : Int) 4) <| .need (aP 0 (List.length a) a) <| .need (be (aA (ab 0 (List.length a) a))) <| .ask (decide ((bg (aA (ab 0 (List.length a) a))) ≥ (0 : Int)))
                            (.leaf (.inr (.r0 10 false ([]:List Int) 0 0 (0:Int))))
                            (.need (dn .i64 (1:Int))<|.ask (decide ((1:Int) < (4:Int)))
                              (.need (gD (1:Int) 4)<|.need (aP 0 (List.length b) b)<|.need (be (aA (ab 0 (List.length b) b)))<|.ask (decide ((bg (aA (ab 0 (List.length b) b))) ≥ (0:Int)))
                                (.leaf (.inr (.r0 10 false ([]:List Int) 0 0 (0:Int))))
                                (.need (dn .i64 (2:Int))<|.ask (decide ((2:Int) < (4:Int)))
                                  (.need (gD (2:Int) 4)<|.need (aP 0 (List.length c) c)<|.need (be (aA (ab 0 (List.length c) c)))<|.ask (decide ((bg (aA (ab 0 (List.length c) c))) ≥ (0:Int)))
                                    (.leaf (.inr (.r0 10 false ([]:List Int) 0 0 (0:Int))))
                                    (.need (dn .i64 (3:Int))<|.ask (decide ((3:Int) < (4:Int)))
                                      (.need (gD (3:Int) 4)<|.need (aP 0 (List.length d) d)<|.need (be (aA (ab 0 (List.length d) d)))<|.ask (decide ((bg (aA (ab 0 (List.length d) d))) ≥ (0:Int)))
                                        (.leaf (.inr (.r0 10 false ([]:List Int) 0 0 (0:Int))))
                                        (.need (dn .i64 (4:Int))<|.ask (decide ((4:Int) < (4:Int)))
                                          (.fail)
                                          (.leaf (.inl false))))
                                      (.fail)))
                                  (.fail)))
                              (.fail)))
                          (.fail))))))))
            (.fail)))
        (.fail)))
    (.fail)
def Rk(h:Int)(i:Int)(j:Lv)(a:List Nat)(k:Int)(l:Int)(m:Lv)(b:List Nat)(n:Int)(o:Int)(p:Lv)(c:List Nat)(q:Bool) :Nat×(List Bool)×(List (List Int))×(List Int)×Nat×(List Bool)×(List (List Int))×(List Int)×Nat×(List Bool)×(List (List Int))×(List Int)×Nat×(List Bool)×(List (List Int))×(List Int)→aQ:=fun (d,r,s,t,e,u,v,w,f,x,y,z,g,A,B,C)=>⟨ao 78 [(4,.ptr 0 1 0 0),(5,.ptr 1 1 0 0),(6,.ptr 2 1 0 0),(8,.ptr 3 1 0 0),(10,.ptr 4 1 0 0),(11,.ptr 5 1 0 0),(12,.ptr 6 1 0 0),(13,.ptr 7 1 0 0)],[(0,.vs [.int .i64 h,.int .i64 i,.imm j (.fl a) 1 1 0 (List.length a)]),(1,.vs [.int .i64 k,.int .i64 l,.imm m (.fl b) 1 1 0 (List.length b)]),(2,.vs [.int .i64 n,.int .i64 o,.imm p (.fl c) 1 1 0 (List.length c)]),(3,.vs [.bool false q,.nsl,.int .i64 (0:Int)]),(4,.vs [.imm .free (.cols d [.cb r,.cns .u64 s,.ci .i64 t]) 3 3 0 d]),(5,.vs [.imm .free (.cols e [.cb u,.cns .u64 v,.ci .i64 w]) 3 3 0 e]),(6,.vs [.imm .free (.cols f [.cb x,.cns .u64 y,.ci .i64 z]) 3 3 0 f]),(7,.vs [.imm .free (.cols g [.cb A,.cns .u64 B,.ci .i64 C]) 3 3 0 g])],8⟩
def wg(a:List Nat)(b:List Nat)(c:List Nat)(d:List Nat) :T ((Nat×(List Bool)×(List (List Int))×(List Int)×Nat×(List Bool)×(List (List Int))×(List Int)×Nat×(List Bool)×(List (List Int))×(List Int)×Nat×(List Bool)×(List (List Int))×(List Int))⊕(cR)) :=
  .need (aP 0 (List.length a) a)<|.need (iM (aC (ab 0 (List.length a) a)))<|.need (aP 0 (List.length b) b)<|.need (iM (aC (ab 0 (List.length b) b)))<|.need (aP 0 (List.length c) c)<|.need (iM (aC (ab 0 (List.length c) c)))<|.need (aP 0 (List.length d) d)<|.need (iM (aC (ab 0 (List.length d) d)))<|.leaf (.inl ((bb (aC (ab 0 (List.length a) a))),(c7 (aC (ab 0 (List.length a) a))),(c8 (aC (ab 0 (List.length a) a))),(c9 (aC (ab 0 (List.length a) a))),(bb (aC (ab 0 (List.length b) b))),(c7 (aC (ab 0 (List.length b) b))),(c8 (aC (ab 0 (List.length b) b))),(c9 (aC (ab 0 (List.length b) b))),(bb (aC (ab 0 (List.length c) c))),(c7 (aC (ab 0 (List.length c) c))),(c8 (aC (ab 0 (List.length c) c))),(c9 (aC (ab 0 (List.length c) c))),(bb (aC (ab 0 (List.length d) d))),(c7 (aC (ab 0 (List.length d) d))),(c8 (aC (ab 0 (List.length d) d))),(c9 (aC (ab 0 (List.length d) d)))))
def Rl:Nat×Bool×(List Int)×Nat×Nat×Int→aQ:=fun (a,b,c,d,e,f)=>⟨ao 78 [(8,.ptr 0 1 0 0),(9,.int .i64 ((a:Nat):Int))],[(0,.vs [.bool false b,.imm .free (.ns .u64 c) 1 1 d e,.int .i64 f])],1⟩
def wh(i:Int)(e:List Nat)(j:Int)(f:List Nat)(k:Int)(h:Int)(g:List Nat)(a:Nat)(l:List Bool)(m:List (List Int))(n:List Int)(b:Nat)(o:List Bool)(p:List (List Int))(q:List Int)(c:Nat)(r:List Bool)(s:List (List Int))(t:List Int)(d:Nat)(u:List Bool)(v:List (List Int))(w:List Int) :T ((Nat×Bool×(List Int)×Nat×Nat×Int)⊕(cR)) :=
  .need (Nat.ble (0+a) a)<|.need (aP 0 (List.length e) e)<|.need (Nat.ble (0+b) b)<|.need (aP 0 (List.length f) f)<|.need (Nat.ble (0+c) c)<|.need (aP 0 (List.length g) g)<|.need (Nat.ble (0+d) d)<|.need (eN (bG k h a (ab 0 a l) (ab 0 a m) (ab 0 a n) i (ab 0 (List.length e) e) b (ab 0 b o) (ab 0 b p) (ab 0 b q) j (ab 0 (List.length f) f) c (ab 0 c r) (ab 0 c s) (ab 0 c t) h (ab 0 (List.length g) g) d (ab 0 d u) (ab 0 d v) (ab 0 d w)))<|.leaf (.inl ((gj (bG k h a (ab 0 a l) (ab 0 a m) (ab 0 a n) i (ab 0 (List.length e) e) b (ab 0 b o) (ab 0 b p) (ab 0 b q) j (ab 0 (List.length f) f) c (ab 0 c r) (ab 0 c s) (ab 0 c t) h (ab 0 (List.length g) g) d (ab 0 d u) (ab 0 d v) (ab 0 d w))),(gk (bG k h a (ab 0 a l) (ab 0 a m) (ab 0 a n) i (ab 0 (List.length e) e) b (ab 0 b o) (ab 0 b p) (ab 0 b q) j (ab 0 (List.length f) f) c (ab 0 c r) (ab 0 c s) (ab 0 c t) h (ab 0 (List.length g) g) d (ab 0 d u) (ab 0 d v) (ab 0 d w))),(gn (bG k h a (ab 0 a l) (ab 0 a m) (ab 0 a n) i (ab 0 (List.length e) e) b (ab 0 b o) (ab 0 b p) (ab 0 b q) j (ab 0 (List.length f) f) c (ab 0 c r) (ab 0 c s) (ab 0 c t) h (ab 0 (List.length g) g) d (ab 0 d u) (ab 0 d v) (ab 0 d w))),(gp (bG k h a (ab 0 a l) (ab 0 a m) (ab 0 a n) i (ab 0 (List.length e) e) b (ab 0 b o) (ab 0 b p) (ab 0 b q) j (ab 0 (List.length f) f) c (ab 0 c r) (ab 0 c s) (ab 0 c t) h (ab 0 (List.length g) g) d (ab 0 d u) (ab 0 d v) (ab 0 d w))),(gq (bG k h a (ab 0 a l) (ab 0 a m) (ab 0 a n) i (ab 0 (List.length e) e) b (ab 0 b o) (ab 0 b p) (ab 0 b q) j (ab 0 (List.length f) f) c (ab 0 c r) (ab 0 c s) (ab 0 c t) h (ab 0 (List.length g) g) d (ab 0 d u) (ab 0 d v) (ab 0 d w))),(gr (bG k h a (ab 0 a l) (ab 0 a m) (ab 0 a n) i (ab 0 (List.length e) e) b (ab 0 b o) (ab 0 b p) (ab 0 b q) j (ab 0 (List.length f) f) c (ab 0 c r) (ab 0 c s) (ab 0 c t) h (ab 0 (List.length g) g) d (ab 0 d u) (ab 0 d v) (ab 0 d w)))))
def Rm(a:Nat)(b:Bool)(c:List Int)(d:Nat)(e:Nat)(f:Int) :T ((Empty)⊕(cR)) :=
  .leaf (.inr (.r0 a b c d e f))
def fP(i:Int)(d:Int)(a:List Nat)(j:Int)(e:Int)(b:List Nat)(f:Int)(g:Int)(c:List Nat)(h:List Nat) :Option cR:=jR (aE ((En i d a j e b f g c h).run) fun G =>
  aE ((wg a b c h).run) fun (k,l,m,n,o,p,q,r,s,t,u,v,w,x,y,z) =>
  aE ((wh d a e b f g c k l m n o p q r s t u v w x y z).run) fun (A,B,C,D,E,F) =>
  (Rm A B C D E F).run)
theorem Rn(d:Int)(e:Int)(l:Lv)(a:List Nat)(f:Int)(g:Int)(m:Lv)(b:List Nat)(i:Int)(j:Int)(n:Lv)(c:List Nat)(o:Lv)(k:List Nat){x:cR}(h:fP d e a f g b i j c k=some x) :aw prog xP [] [.agg [.int .i64 d,.int .i64 e,.imm l (.fl a) 1 1 0 (List.length a)],.agg [.int .i64 f,.int .i64 g,.imm m (.fl b) 1 1 0 (List.length b)],.agg [.int .i64 i,.int .i64 j,.imm n (.fl c) 1 1 0 (List.length c)],.imm o (.fl k) 1 1 0 (List.length k)] (yc x) :=
  kp true yc G1 h (Sg.cut 2 we (bk dd (Rj d e l a f g m b i j n c o k) [⟨[(.cell 48 1,.fre 1 1 (.ns .u64 ([]:List Int)))],[48],[8,9]⟩,⟨[(.cell 48 1,.fre 1 1 (.ns .u64 ([]:List Int)))],[48],[8,9]⟩,⟨[(.cell 48 1,.fre 1 1 (.ns .u64 ([]:List Int)))],[48],[8,9]⟩,⟨[(.cell 48 1,.fre 1 1 (.ns .u64 ([]:List Int)))],[48],[8,9]⟩,⟨[(.cell 48 1,.fre 1 1 (.ns .u64 ([]:List Int)))],[48],[8,9]⟩,⟨[(.cell 48 1,.fre 1 1 (.ns .u64 ([]:List Int)))],[48],[8,9]⟩,⟨[(.cell 48 1,.fre 1 1 (.ns .u64 ([]:List Int)))],[48],[8,9]⟩,⟨[(.cell 48 1,.fre 1 1 (.ns .u64 ([]:List Int)))],[48],[8,9]⟩,⟨[(.cell 48 1,.fre 1 1 (.ns .u64 ([]:List Int)))],[48],[8,9]⟩,⟨[(.cell 48 1,.fre 1 1 (.ns .u64 ([]:List Int)))],[48],[8,9]⟩,⟨[],[0,16,32,48],[3,4,5,6,8]⟩]) (fun p=>Sg.cut 1 we (bk dd (Rk d e l a f g m b i j n c p) [⟨[],[0,1,2,3,180,196,212,228],[4,5,6,8,10,11,12,13]⟩]) (fun ⟨w,y,z,A,B,C,D,E,F,G,H,I,J,K,L,M⟩=>Sg.cut 1 we (bk dd Rl [⟨[],[3],[8,9]⟩]) (fun ⟨N,O,P,Q,R,S⟩=>bk dd _ [⟨[],[0],[8,9]⟩]))))
    (fun x=>by cases x with | r0 q r s t u v=>exact jT [.agg [.bool false r,.imm .free (.ns .u64 s) 1 1 t u,.int .i64 v],.int .i64 ((q:Nat):Int)])
def qp:Option cR→Bool
  | some _=>true
  | none=>false
def sY:Option cR→Nat
  | some (.r0 x _ _ _ _ _)=>x
  | _=>0
def sZ:Option cR→Bool
  | some (.r0 _ x _ _ _ _)=>x
  | _=>false
def s4:Option cR→List Int
  | some (.r0 _ _ x _ _ _)=>x
  | _=>[]
def s5:Option cR→Nat
  | some (.r0 _ _ _ x _ _)=>x
  | _=>0
def s6:Option cR→Nat
  | some (.r0 _ _ _ _ x _)=>x
  | _=>0
def s7:Option cR→Int
  | some (.r0 _ _ _ _ _ x)=>x
  | _=>0
theorem Ro{x:Option cR}(h:qp x=true) :x=some (.r0 (sY x) (sZ x) (s4 x) (s5 x) (s6 x) (s7 x)):=by
  unfold qp at h
  split at h <;> first | rfl | (cases h;done) | (rename_i y;cases y;rfl)
def G2:aL:=bJ xP (.cons (.agg (.cons (.int .i64) (.cons (.int .i64) (.cons .fl .nil)))) (.cons (.agg (.cons (.int .i64) (.cons (.int .i64) (.cons .fl .nil)))) (.cons (.agg (.cons (.int .i64) (.cons (.int .i64) (.cons .fl .nil)))) (.cons .fl .nil)))) fun t=>(fun q=>[⟨yc (.r0 (sY q) (sZ q) (s4 q) (s5 q) (s6 q) (s7 q)),[qp q]⟩]) (fP t.1.1 t.1.2.1 t.1.2.2.1.2 t.2.1.1 t.2.1.2.1 t.2.1.2.2.1.2 t.2.2.1.1 t.2.2.1.2.1 t.2.2.1.2.2.1.2 t.2.2.2.1.2)
theorem M2:aV prog G2:=aR fun t=>(aS (fun h=>Rn t.1.1 t.1.2.1 t.1.2.2.1.1 t.1.2.2.1.2 t.2.1.1 t.2.1.2.1 t.2.1.2.2.1.1 t.2.1.2.2.1.2 t.2.2.1.1 t.2.2.1.2.1 t.2.2.1.2.2.1.1 t.2.2.1.2.2.1.2 t.2.2.2.1.1 t.2.2.2.1.2 (Ro h)) aZ)
def G3:List aL:=G2 :: lT
theorem oj:bd prog (bf G3):=au M2 dd
inductive i9 where
  | r0 (a:Bool) (b:Int)
def PM:i9→AE×aQ
  | .r0 a b=>(.ret,⟨ao 24 [(5,.bool false a),(6,.int .i64 b)],[],0⟩)
theorem Lk:jC PM:=by intro x;cases x <;> (intro h;cases h)
def Gs:i9→gX
  | .r0 a b=>⟨.tup [.bool false a,.int .i64 b],[]⟩
def aci(c:Lv)(d:Bool)(e:Lv)(a:List Int)(f:Int)(g:Lv)(h:Bool)(i:Lv)(b:List Int)(j:Int) :Nat×Bool×(List Int)×Nat×Nat×Int→aQ:=fun (k,l,m,n,o,p)=>⟨ao 24 [(3,.iptr c (.vs [.bool false d,.imm e (.ns .u64 a) 1 1 0 (List.length a),.int .i64 f]) 1 0 0),(4,.iptr g (.vs [.bool false h,.imm i (.ns .u64 b) 1 1 0 (List.length b),.int .i64 j]) 1 0 0),(7,.ptr 0 1 0 0),(8,.int .i64 ((k:Nat):Int))],[(0,.vs [.bool false l,.imm .free (.ns .u64 m) 1 1 n o,.int .i64 p])],1⟩
def Ll(f:Int)(g:Int)(b:List Nat)(d:Int)(e:Int)(a:List Nat)(c:List Nat) :T ((Nat×Bool×(List Int)×Nat×Nat×Int)⊕(i9)) :=
  .need (aP 0 (List.length b) b)<|.need (aP 0 (List.length a) a)<|.need (aP 0 (List.length a) a)<|.need (aP 0 (List.length c) c)<|.need (qp (fP f g (ab 0 (List.length b) b) d e (ab 0 (List.length a) a) d e (ab 0 (List.length a) a) (ab 0 (List.length c) c)))<|.leaf (.inl ((sY (fP f g (ab 0 (List.length b) b) d e (ab 0 (List.length a) a) d e (ab 0 (List.length a) a) (ab 0 (List.length c) c))),(sZ (fP f g (ab 0 (List.length b) b) d e (ab 0 (List.length a) a) d e (ab 0 (List.length a) a) (ab 0 (List.length c) c))),(s4 (fP f g (ab 0 (List.length b) b) d e (ab 0 (List.length a) a) d e (ab 0 (List.length a) a) (ab 0 (List.length c) c))),(s5 (fP f g (ab 0 (List.length b) b) d e (ab 0 (List.length a) a) d e (ab 0 (List.length a) a) (ab 0 (List.length c) c))),(s6 (fP f g (ab 0 (List.length b) b) d e (ab 0 (List.length a) a) d e (ab 0 (List.length a) a) (ab 0 (List.length c) c))),(s7 (fP f g (ab 0 (List.length b) b) d e (ab 0 (List.length a) a) d e (ab 0 (List.length a) a) (ab 0 (List.length c) c)))))
def acj:Bool×Int→aQ:=fun (a,b)=>⟨ao 24 [(5,.bool false a),(6,.int .i64 b)],[],0⟩
def DN(f:Bool)(a:List Int)(g:Int)(h:Bool)(b:List Int)(i:Int)(j:Nat)(k:Bool)(c:List Int)(d:Nat)(e:Nat)(l:Int) :T ((Bool×Int)⊕(i9)) :=
  .need (aP d e c)<|.need (aP 0 (List.length a) a)<|.need (aP 0 (List.length b) b)<|.need (rm (i7 k (ab d e c) l ((j:Nat):Int) f (ab 0 (List.length a) a) g h (ab 0 (List.length b) b) i))<|.leaf (.inl ((so (i7 k (ab d e c) l ((j:Nat):Int) f (ab 0 (List.length a) a) g h (ab 0 (List.length b) b) i)),(sq (i7 k (ab d e c) l ((j:Nat):Int) f (ab 0 (List.length a) a) g h (ab 0 (List.length b) b) i))))
def ack(a:Bool)(b:Int) :T ((Empty)⊕(i9)) :=
  .leaf (.inr (.r0 a b))
def mN(a:Int)(b:Int)(c:List Nat)(d:Int)(e:Int)(f:List Nat)(g:List Nat)(h:Bool)(i:List Int)(j:Int)(k:Bool)(l:List Int)(m:Int) :Option i9:=jR (aE ((Ll a b c d e f g).run) fun (n,o,p,q,r,s) =>
  aE ((DN h i j k l m n o p q r s).run) fun (t,u) =>
  (ack t u).run)
theorem acl(s:Lv)(k:Int)(l:Int)(t:Lv)(c:List Nat)(u:Lv)(m:Int)(n:Int)(v:Lv)(d:List Nat)(w:Lv)(y:Lv)(e:List Nat)(o:Lv)(f:Bool)(p:Lv)(a:List Int)(g:Int)(q:Lv)(i:Bool)(r:Lv)(b:List Int)(j:Int){x:i9}(h:mN k l c m n d e f a g i b j=some x) :aw prog N4 [] [.iptr s (.vs [.int .i64 k,.int .i64 l,.imm t (.fl c) 1 1 0 (List.length c)]) 1 0 0,.iptr u (.vs [.int .i64 m,.int .i64 n,.imm v (.fl d) 1 1 0 (List.length d)]) 1 0 0,.iptr w (.vs [.imm y (.fl e) 1 1 0 (List.length e)]) 1 0 0,.iptr o (.vs [.bool false f,.imm p (.ns .u64 a) 1 1 0 (List.length a),.int .i64 g]) 1 0 0,.iptr q (.vs [.bool false i,.imm r (.ns .u64 b) 1 1 0 (List.length b),.int .i64 j]) 1 0 0] (Gs x) :=
  kp false Gs PM h (Sg.cut 2 Lk (bk oj (aci o f p a g q i r b j) [⟨[],[160],[3,4,7,8]⟩]) (fun ⟨B,C,D,E,F,G⟩=>Sg.cut 1 Lk (bk oj acj [⟨[],[],[5,6]⟩]) (fun ⟨H,I⟩=>bk oj _ [⟨[],[],[5,6]⟩])))
    (fun x=>by cases x with | r0 z A=>exact jT [.bool false z,.int .i64 A])
def rH:Option i9→Bool
  | some _=>true
  | none=>false
def sw:Option i9→Bool
  | some (.r0 x _)=>x
  | _=>false
def md:Option i9→Int
  | some (.r0 _ x)=>x
  | _=>0
theorem acm{x:Option i9}(h:rH x=true) :x=some (.r0 (sw x) (md x)):=by
  unfold rH at h
  split at h <;> first | rfl | (cases h;done) | (rename_i y;cases y;rfl)
def PN:aL:=bJ N4 (.cons (.ivs (.cons (.int .i64) (.cons (.int .i64) (.cons .fl .nil))) 1 0 0) (.cons (.ivs (.cons (.int .i64) (.cons (.int .i64) (.cons .fl .nil))) 1 0 0) (.cons (.ivs (.cons .fl .nil) 1 0 0) (.cons (.ivs (.cons .bool (.cons (.ns .u64) (.cons (.int .i64) .nil))) 1 0 0) (.cons (.ivs (.cons .bool (.cons (.ns .u64) (.cons (.int .i64) .nil))) 1 0 0) .nil))))) fun t=>(fun q=>[⟨Gs (.r0 (sw q) (md q)),[rH q]⟩]) (mN t.1.2.1 t.1.2.2.1 t.1.2.2.2.1.2 t.2.1.2.1 t.2.1.2.2.1 t.2.1.2.2.2.1.2 t.2.2.1.2.1.2 t.2.2.2.1.2.1 t.2.2.2.1.2.2.1.2 t.2.2.2.1.2.2.2.1 t.2.2.2.2.1.2.1 t.2.2.2.2.1.2.2.1.2 t.2.2.2.2.1.2.2.2.1)
theorem Un:aV prog PN:=aR fun t=>(aS (fun h=>acl t.1.1 t.1.2.1 t.1.2.2.1 t.1.2.2.2.1.1 t.1.2.2.2.1.2 t.2.1.1 t.2.1.2.1 t.2.1.2.2.1 t.2.1.2.2.2.1.1 t.2.1.2.2.2.1.2 t.2.2.1.1 t.2.2.1.2.1.1 t.2.2.1.2.1.2 t.2.2.2.1.1 t.2.2.2.1.2.1 t.2.2.2.1.2.2.1.1 t.2.2.2.1.2.2.1.2 t.2.2.2.1.2.2.2.1 t.2.2.2.2.1.1 t.2.2.2.2.1.2.1 t.2.2.2.2.1.2.2.1.1 t.2.2.2.2.1.2.2.1.2 t.2.2.2.2.1.2.2.2.1 (acm h)) aZ)
def PO:List aL:=PN :: G3
theorem jn:bd prog (bf PO):=au Un oj
inductive iu where
  | r0 (a:Bool) (b:Int)
def XY:iu→AE×aQ
  | .r0 a b=>(.ret,⟨ao 78 [(6,.bool false a),(7,.int .i64 b)],[],0⟩)
theorem tx:jC XY:=by intro x;cases x <;> (intro h;cases h)
def M3:iu→gX
  | .r0 a b=>⟨.tup [.bool false a,.int .i64 b],[]⟩
def akP(d:Int)(e:Int)(f:Lv)(a:List Nat)(g:Lv)(b:List Nat)(h:Int)(i:Int)(j:Lv)(c:List Nat)(_:Unit) :aQ:=⟨ao 78 [(3,.ptr 0 1 0 0),(4,.ptr 1 1 0 0),(5,.ptr 2 1 0 0)],[(0,.vs [.int .i64 d,.int .i64 e,.imm f (.fl a) 1 1 0 (List.length a)]),(1,.vs [.imm g (.fl b) 1 1 0 (List.length b)]),(2,.vs [.int .i64 h,.int .i64 i,.imm j (.fl c) 1 1 0 (List.length c)])],3⟩
def xJ(d : Int)(e : Int)(a : List Nat)(c : List Nat)(f : Int)(g : Int)(b : List Nat) : T ((Unit) ⊕ (iu)) :=
  .ask (decide ((0 : Int) < (2 : Int)))
    (.need (gD (0 : Int) 2) <| .need (aP 0 (List.length a) a) <| .need (iL (dK d e (ab 0 (List.length a) a))) <| .ask (ig (dK d e (ab 0 (List.length a) a)))
      (.ask (!(!(decide ((0:Int) ≥ (0:Int)))))
        (.leaf (.inr (.r0 false (2:Int))))
        (.fail))
      (.need (dn .i64 (1:Int))<|.ask (decide ((1:Int) < (2:Int)))
        (.need (gD (1 : Int) 2) <| .need (aP 0 (List.length b) b) <| .need (iL (dK f g (ab 0 (List.length b) b))) <| .ask (ig (dK f g (ab 0 (List.length b) b)))
          (.ask (!(!(decide ((1:Int) ≥ (0:Int)))))
            (.leaf (.inr (.r0 false (2:Int))))
            (.fail))
          (.need (dn .i64 (2:Int))<|.ask (decide ((2:Int) < (2:Int)))
            (.fail)
            (.ask (!(!(decide ((-1:Int) ≥ (0:Int)))))
              (.fail)
              (.ask (d != e)
                (.leaf (.inr (.r0 false (8:Int))))
                (.ask ((((List.length c):Nat):Int) != d)
                  (.leaf (.inr (.r0 false (8:Int))))
                  (.ask (!(f == d && g == e))
                    (.leaf (.inr (.r0 false (8:Int))))
                    (.ask (decide ((0:Int) < (3:Int)))
                      (.need (gD (0:Int) 3)<|.need (aP 0 (List.length a) a)<|.need (be (aA (ab 0 (List.length a) a)))<|.ask (decide ((bg (aA (ab 0 (List.length a) a))) ≥ (0:Int)))
                        (.leaf (.inr (.r0 false (10:Int))))
                        (.need (dn .i64 (1:Int))<|.ask (decide ((1:Int) < (3:Int)))
                          (.need (gD (1:Int) 3)<|.need (aP 0 (List.length b) b)<|.need (be (aA (ab 0 (List.length b) b)))<|.ask (decide ((bg (aA (ab 0 (List.length b) b))) ≥ (0:Int)))
                            (.leaf (.inr (.r0 false (10:Int))))
                            (.need (dn .i64 (2:Int))<|.ask (decide ((2:Int) < (3:Int)))
                              (.need (gD (2:Int) 3)<|.need (aP 0 (List.length c) c)<|.need (be (aA (ab 0 (List.length c) c)))<|.ask (decide ((bg (aA (ab 0 (List.length c) c))) ≥ (0:Int)))
                                (.leaf (.inr (.r0 false (10:Int))))
                                (.need (dn .i64 (3:Int))<|.ask (decide ((3:Int) < (3:Int)))
                                  (.fail)
                                  (.leaf (.inl ()))))
                              (.fail)))
                          (.fail)))
                      (.fail))))))))
        (.fail)))
    (.fail)
def akQ(d:Int)(e:Int)(f:Lv)(a:List Nat)(g:Lv)(b:List Nat)(h:Int)(i:Int)(j:Lv)(c:List Nat)(k:Bool) :aQ:=⟨ao 78 [(3,.ptr 0 1 0 0),(4,.ptr 1 1 0 0),(5,.ptr 2 1 0 0),(49,.bool false k)],[(0,.vs [.int .i64 d,.int .i64 e,.imm f (.fl a) 1 1 0 (List.length a)]),(1,.vs [.imm g (.fl b) 1 1 0 (List.length b)]),(2,.vs [.int .i64 h,.int .i64 i,.imm j (.fl c) 1 1 0 (List.length c)])],3⟩
def IY(a:List Nat) :T ((Bool)⊕(iu)) :=
  .need (aP 0 (List.length a) a)<|.need (oi (mD (ab 0 (List.length a) a)))<|.leaf (.inl (!(pR (mD (ab 0 (List.length a) a)))))
def akR(d:Int)(e:Int)(f:Lv)(a:List Nat)(g:Lv)(b:List Nat)(h:Int)(i:Int)(j:Lv)(c:List Nat) :Nat×Bool×(List Int)×Nat×Nat×Int→aQ:=fun (k,l,m,n,o,p)=>⟨ao 78 [(3,.ptr 0 1 0 0),(4,.ptr 1 1 0 0),(5,.ptr 2 1 0 0),(8,.ptr 3 1 0 0),(9,.int .i64 ((k:Nat):Int))],[(0,.vs [.int .i64 d,.int .i64 e,.imm f (.fl a) 1 1 0 (List.length a)]),(1,.vs [.imm g (.fl b) 1 1 0 (List.length b)]),(2,.vs [.int .i64 h,.int .i64 i,.imm j (.fl c) 1 1 0 (List.length c)]),(3,.vs [.bool false l,.imm .free (.ns .u64 m) 1 1 n o,.int .i64 p])],4⟩
def Gt(a:Int)(b:Bool) :T ((Nat×Bool×(List Int)×Nat×Nat×Int)⊕(iu)) :=
  .ask b
    (.leaf (.inr (.r0 false (0:Int))))
    (.need (rc (dA a a))<|.leaf (.inl ((sh (dA a a)),(si (dA a a)),(sj (dA a a)),(sk (dA a a)),(sm (dA a a)),(sn (dA a a)))))
def akS(d:Int)(e:Int)(f:Lv)(a:List Nat)(g:Lv)(b:List Nat)(h:Int)(i:Int)(j:Lv)(c:List Nat)(k:Nat)(l:Bool)(m:List Int)(n:Nat)(o:Nat)(p:Int) :Nat×Bool×(List Int)×Nat×Nat×Int→aQ:=fun (f8,q,r,s,t,u)=>⟨ao 78 [(3,.ptr 0 1 0 0),(4,.ptr 1 1 0 0),(5,.ptr 2 1 0 0),(8,.ptr 3 1 0 0),(9,.int .i64 ((k:Nat):Int)),(10,.ptr 4 1 0 0),(11,.int .i64 ((f8:Nat):Int))],[(0,.vs [.int .i64 d,.int .i64 e,.imm f (.fl a) 1 1 0 (List.length a)]),(1,.vs [.imm g (.fl b) 1 1 0 (List.length b)]),(2,.vs [.int .i64 h,.int .i64 i,.imm j (.fl c) 1 1 0 (List.length c)]),(3,.vs [.bool false l,.imm .free (.ns .u64 m) 1 1 n o,.int .i64 p]),(4,.vs [.bool false q,.imm .free (.ns .u64 r) 1 1 s t,.int .i64 u])],5⟩
def Gu(b:Int)(c:Int)(a:List Nat) :T ((Nat×Bool×(List Int)×Nat×Nat×Int)⊕(iu)) :=
  .need (aP 0 (List.length a) a)<|.need (uK (d6 b c (ab 0 (List.length a) a)))<|.leaf (.inl ((uL (d6 b c (ab 0 (List.length a) a))),(uM (d6 b c (ab 0 (List.length a) a))),(uN (d6 b c (ab 0 (List.length a) a))),(uO (d6 b c (ab 0 (List.length a) a))),(uP (d6 b c (ab 0 (List.length a) a))),(uQ (d6 b c (ab 0 (List.length a) a)))))
def akT(d:Int)(e:Int)(f:Lv)(a:List Nat)(g:Lv)(b:List Nat)(h:Int)(i:Int)(j:Lv)(c:List Nat)(k:Nat)(l:Bool)(m:List Int)(n:Nat)(o:Nat)(p:Int)(f8:Nat)(q:Bool)(r:List Int)(s:Nat)(t:Nat)(u:Int)(v:Bool) :aQ:=⟨ao 78 [(3,.ptr 0 1 0 0),(4,.ptr 1 1 0 0),(5,.ptr 2 1 0 0),(8,.ptr 3 1 0 0),(9,.int .i64 ((k:Nat):Int)),(10,.ptr 4 1 0 0),(11,.int .i64 ((f8:Nat):Int)),(68,.bool false v)],[(0,.vs [.int .i64 d,.int .i64 e,.imm f (.fl a) 1 1 0 (List.length a)]),(1,.vs [.imm g (.fl b) 1 1 0 (List.length b)]),(2,.vs [.int .i64 h,.int .i64 i,.imm j (.fl c) 1 1 0 (List.length c)]),(3,.vs [.bool false l,.imm .free (.ns .u64 m) 1 1 n o,.int .i64 p]),(4,.vs [.bool false q,.imm .free (.ns .u64 r) 1 1 s t,.int .i64 u])],5⟩
def ahB(a:Nat)(f8:Nat) :T ((Bool)⊕(iu)) :=
  .ask (((a:Nat):Int) != (0:Int))
    (.leaf (.inl true))
    (.leaf (.inl (((f8:Nat):Int) != (0:Int))))
def akU:Bool×Int→aQ:=fun (a,b)=>⟨ao 78 [(6,.bool false a),(7,.int .i64 b)],[],0⟩
def Gv(n : Int)(o : Int)(b : List Nat)(c : List Nat)(g : Int)(h : Int)(a : List Nat)(r : Nat)(i : Bool)(d : List Int)(e : Nat)(f : Nat)(j : Int)(f8 : Nat)(p : Bool)(k : List Int)(l : Nat)(m : Nat)(q : Int)(s : Bool) : T ((Bool × Int) ⊕ (iu)) :=
  .ask s
    (.leaf (.inr (.r0 false (lQ ((r:Nat):Int) ((f8:Nat):Int)))))
    (.ask (decide ((0:Int) < (2:Int)))
      (.need (gD (0:Int) 2)<|.need (aP 0 (List.length a) a)<|.need (aP e f d)<|.need (rn (mK g h (ab 0 (List.length a) a) i (ab e f d) j))<|.ask (!(sv (mK g h (ab 0 (List.length a) a) i (ab e f d) j)))
        (.leaf (.inl (false,(mc (mK g h (ab 0 (List.length a) a) i (ab e f d) j)))))
        (.ask ((mc (mK g h (ab 0 (List.length a) a) i (ab e f d) j)) != (0:Int))
          (.leaf (.inl (false,(mc (mK g h (ab 0 (List.length a) a) i (ab e f d) j)))))
          (.need (dn .i64 (1:Int))<|.ask (decide ((1:Int) < (2:Int)))
            (.need (gD (1:Int) 2)<|.need (aP 0 (List.length b) b)<|.need (aP 0 (List.length a) a)<|.need (aP 0 (List.length c) c)<|.need (aP e f d)<|.need (aP l m k)<|.need (rH (mN n o (ab 0 (List.length b) b) g h (ab 0 (List.length a) a) (ab 0 (List.length c) c) i (ab e f d) j p (ab l m k) q))<|.ask (!(sw (mN n o (ab 0 (List.length b) b) g h (ab 0 (List.length a) a) (ab 0 (List.length c) c) i (ab e f d) j p (ab l m k) q)))
              (.leaf (.inl (false,(md (mN n o (ab 0 (List.length b) b) g h (ab 0 (List.length a) a) (ab 0 (List.length c) c) i (ab e f d) j p (ab l m k) q)))))
              (.ask ((md (mN n o (ab 0 (List.length b) b) g h (ab 0 (List.length a) a) (ab 0 (List.length c) c) i (ab e f d) j p (ab l m k) q)) != (0:Int))
                (.leaf (.inl (false,(md (mN n o (ab 0 (List.length b) b) g h (ab 0 (List.length a) a) (ab 0 (List.length c) c) i (ab e f d) j p (ab l m k) q)))))
                (.need (dn .i64 (2:Int))<|.ask (decide ((2:Int) < (2:Int)))
                  (.fail)
                  (.leaf (.inl (true,(0:Int)))))))
            (.fail))))
      (.fail))
def ahC(a:Bool)(b:Int) :T ((Empty)⊕(iu)) :=
  .leaf (.inr (.r0 a b))
def eO(a:Int)(b:Int)(c:List Nat)(d:List Nat)(e:Int)(f:Int)(g:List Nat) :Option iu:=jR (aE ((xJ a b c d e f g).run) fun _ =>
  aE ((IY d).run) fun i =>
  aE ((Gt a i).run) fun (h,j,k,l,m,n) =>
  aE ((Gu a b c).run) fun (f8,o,p,q,r,s) =>
  aE ((ahB h f8).run) fun t =>
  aE ((Gv a b c d e f g h j k l m n f8 o p q r s t).run) fun (u,v) =>
  (ahC u v).run)
theorem akV(d:Int)(e:Int)(i:Lv)(a:List Nat)(j:Lv)(b:List Nat)(f:Int)(g:Int)(k:Lv)(c:List Nat){x:iu}(h:eO d e a b f g c=some x) :aw prog Mb [] [.agg [.int .i64 d,.int .i64 e,.imm i (.fl a) 1 1 0 (List.length a)],.imm j (.fl b) 1 1 0 (List.length b),.agg [.int .i64 f,.int .i64 g,.imm k (.fl c) 1 1 0 (List.length c)]] (M3 x) :=
  kp true M3 XY h (Sg.cut 2 tx (bk jn (akP d e i a j b f g k c) [⟨[],[],[6,7]⟩,⟨[],[],[6,7]⟩,⟨[],[],[6,7]⟩,⟨[],[],[6,7]⟩,⟨[],[],[6,7]⟩,⟨[],[],[6,7]⟩,⟨[],[],[6,7]⟩,⟨[],[],[6,7]⟩,⟨[],[0,16,32],[3,4,5]⟩]) (fun _=>Sg.cut 1 tx (bk jn (akQ d e i a j b f g k c) [⟨[],[0,1,2],[3,4,5,49]⟩]) (fun z=>Sg.cut 2 tx (bk jn (akR d e i a j b f g k c) [⟨[],[],[6,7]⟩,⟨[],[0,1,2,131],[3,4,5,8,9]⟩]) (fun ⟨l,m,n,o,p,q⟩=>Sg.cut 1 tx (bk jn (akS d e i a j b f g k c l m n o p q) [⟨[],[0,1,2,3,84],[3,4,5,8,9,10,11]⟩]) (fun ⟨f8,r,s,t,u,v⟩=>Sg.cut 1 tx (bk jn (akT d e i a j b f g k c l m n o p q f8 r s t u v) [⟨[],[0,1,2,3,4],[3,4,5,8,9,10,11,68]⟩,⟨[],[0,1,2,3,4],[3,4,5,8,9,10,11,68]⟩]) (fun A=>Sg.cut 2 tx (bk jn akU [⟨[],[],[6,7]⟩,⟨[],[],[6,7]⟩,⟨[],[],[6,7]⟩,⟨[],[],[6,7]⟩,⟨[],[],[6,7]⟩,⟨[],[],[6,7]⟩]) (fun ⟨B,C⟩=>bk jn _ [⟨[],[],[6,7]⟩])))))))
    (fun x=>by cases x with | r0 w y=>exact jT [.bool false w,.int .i64 y])
def pU:Option iu→Bool
  | some _=>true
  | none=>false
def oZ:Option iu→Bool
  | some (.r0 x _)=>x
  | _=>false
def o0:Option iu→Int
  | some (.r0 _ x)=>x
  | _=>0
theorem akW{x:Option iu}(h:pU x=true) :x=some (.r0 (oZ x) (o0 x)):=by
  unfold pU at h
  split at h <;> first | rfl | (cases h;done) | (rename_i y;cases y;rfl)
def XZ:aL:=bJ Mb (.cons (.agg (.cons (.int .i64) (.cons (.int .i64) (.cons .fl .nil)))) (.cons .fl (.cons (.agg (.cons (.int .i64) (.cons (.int .i64) (.cons .fl .nil)))) .nil))) fun t=>(fun q=>[⟨M3 (.r0 (oZ q) (o0 q)),[pU q]⟩]) (eO t.1.1 t.1.2.1 t.1.2.2.1.2 t.2.1.2 t.2.2.1.1 t.2.2.1.2.1 t.2.2.1.2.2.1.2)
theorem acn:aV prog XZ:=aR fun t=>(aS (fun h=>akV t.1.1 t.1.2.1 t.1.2.2.1.1 t.1.2.2.1.2 t.2.1.1 t.2.1.2 t.2.2.1.1 t.2.2.1.2.1 t.2.2.1.2.2.1.1 t.2.2.1.2.2.1.2 (akW h)) aZ)
def X0:List aL:=XZ :: PO
theorem DO:bd prog (bf X0):=au acn jn
inductive gg where
  | r0 (a:Nat) (b:Bool) (c:Nat) (d:Int) (e:List Int)
def PP:gg→AE×aQ
  | .r0 b c a d e=>(.ret,⟨ao 14 [(2,.ptr 0 1 0 0),(3,.int .i64 ((b:Nat):Int))],[(0,.vs [.bool false c,.sl 1 1 1 0 a a,.int .i64 d]),(1,.ns .u64 e)],2⟩)
theorem aco:jC PP:=by intro x;cases x <;> (intro h;cases h)
def Gw:gg→gX
  | .r0 a b c d e=>⟨.tup [.agg [.bool false b,.imm .free (.ns .u64 e) 1 1 0 c,.int .i64 d],.int .i64 ((a:Nat):Int)],[]⟩
def acp(a:Int) :Bool×Bool→aQ:=fun (b,c)=>⟨ao 14 [(0,.int .i64 a),(2,.ptr 0 1 0 0),(9,.bool false b)],[(0,.vs [.bool false c,.nsl,.int .i64 (0:Int)])],1⟩
def acq(a:Int) :T ((Bool×Bool)⊕(gg)) :=
  .ask (decide (a < (-262144:Int)))
    (.leaf (.inl (true,false)))
    (.leaf (.inl ((decide (a > (262144:Int))),false)))
def acr(a:Int)(b:Bool) :T ((Empty)⊕(gg)) :=
  .ask b
    (.leaf (.inr (.r0 3 false 0 (0:Int) ([]:List Int))))
    (.leaf (.inr (.r0 0 false 1 a [(1:Int)])))
def mO(a:Int) :Option gg:=jR (aE ((acq a).run) fun (b,c) =>
  (acr a b).run)
theorem acs(a:Int){x:gg}(h:mO a=some x) :aw prog ET [] [.int .i64 a] (Gw x) :=
  kp true Gw PP h (Sg.cut 2 aco (bk DO (acp a) [⟨[],[0],[0,2,9]⟩,⟨[],[0],[0,2,9]⟩]) (fun ⟨f,g⟩=>bk DO _ [⟨[(.cell 0 1,.own 1 1 (.ns .u64 ([]:List Int)))],[0,49],[2,3]⟩,⟨[],[0,1],[2,3]⟩]))
    (fun x=>by cases x with | r0 c d b e i=>exact jT [.agg [.bool false d,.sl 1 1 1 0 b b,.int .i64 e],.int .i64 ((c:Nat):Int)])
def xj:Option gg→Bool
  | some _=>true
  | none=>false
def G4:Option gg→Nat
  | some (.r0 x _ _ _ _)=>x
  | _=>0
def yd:Option gg→Bool
  | some (.r0 _ x _ _ _)=>x
  | _=>false
def ye:Option gg→Nat
  | some (.r0 _ _ x _ _)=>x
  | _=>0
def yf:Option gg→Int
  | some (.r0 _ _ _ x _)=>x
  | _=>0
def yg:Option gg→List Int
  | some (.r0 _ _ _ _ x)=>x
  | _=>[]
theorem act{x:Option gg}(h:xj x=true) :x=some (.r0 (G4 x) (yd x) (ye x) (yf x) (yg x)):=by
  unfold xj at h
  split at h <;> first | rfl | (cases h;done) | (rename_i y;cases y;rfl)
def PQ:aL:=bJ ET (.cons (.int .i64) .nil) fun t=>(fun q=>[⟨Gw (.r0 (G4 q) (yd q) (ye q) (yf q) (yg q)),[xj q]⟩]) (mO t.1)
theorem Uo:aV prog PQ:=aR fun t=>(aS (fun h=>acs t.1 (act h)) aZ)
def PR:List aL:=PQ :: X0
theorem sA:bd prog (bf PR):=au Uo DO
inductive ja where
  | r0 (a:Bool)
def zk:ja→AE×aQ
  | .r0 a=>(.ret,⟨ao 26 [(4,.bool false a)],[],0⟩)
theorem DP:jC zk:=by intro x;cases x <;> (intro h;cases h)
theorem acu(id:Nat) :m5 id zk:=by intro x;cases x <;> (intro h;cases h)
def Gx:ja→gX
  | .r0 a=>⟨.bool false a,[]⟩
def acv:List Code:=cP (nO yP)
def acw(c:Lv)(a:List Int)(d:Lv)(b:List Int)(_:Unit) :aQ:=⟨ao 26 [(0,.imm c (.ns .u64 a) 1 1 0 (List.length a)),(1,.imm d (.ns .u64 b) 1 1 0 (List.length b)),(5,.int .i64 (0:Int))],[],0⟩
def acx(a:List Int)(b:List Int) :T ((Unit)⊕(ja)) :=
  .ask ((((List.length a):Nat):Int) != (((List.length b):Nat):Int))
    (.leaf (.inr (.r0 false)))
    (.leaf (.inl ()))
def DQ(c:Lv)(a:List Int)(d:Lv)(b:List Int)(e:Nat) :aQ:=⟨ao 26 [(0,.imm c (.ns .u64 a) 1 1 0 (List.length a)),(1,.imm d (.ns .u64 b) 1 1 0 (List.length b)),(5,.int .i64 ((e:Nat):Int))],[],0⟩
def Lm(_:Unit) :aQ:=⟨ao 26 [],[],0⟩
def acy:List Code:=cP (dD ((((acv.drop 4).take 1)).headD .skip))
def DR(b:List Int)(c:List Int)(a:Nat) :T ((Nat)⊕((Unit)⊕(ja))) :=
  .ask (decide (((a:Nat):Int) < (((List.length b):Nat):Int)))
    (.need (gD ((a:Nat):Int) (List.length b))<|.need (im a (List.length b))<|.need (gD ((a:Nat):Int) (List.length c))<|.need (im a (List.length c))<|.ask ((List.getD b a 0) != (List.getD c a 0))
      (.leaf (.inr (.inr (.r0 false))))
      (.need (dn .i64 (((a+1):Nat):Int))<|.leaf (.inl (a+1))))
    (.leaf (.inr (.inl ())))
def AK(a:List Int)(b:List Int) :Nat→Option ((Nat)⊕((Unit)⊕(ja))):=fun c =>
  (DR a b c).run
theorem X1(c:Lv)(a:List Int)(d:Lv)(b:List Int)(e:Nat) :Sg prog [] acy (DQ c a d b e) (AK a b e) (DQ c a d b) (cL 0 Lm zk):=by
  unfold AK;exact bk sA _ [⟨[],[],[4]⟩,⟨[],[],[0,1,5]⟩,⟨[],[],[]⟩]
def X2:T ((Empty)⊕(ja)) :=
  .leaf (.inr (.r0 true))
def uU(a:List Int)(b:List Int) :Option ja:=jR (aE ((acx a b).run) fun _ =>
  aE (dc (AK a b) 0) fun _ =>
  (X2).run)
theorem acz(c:Lv)(a:List Int)(d:Lv)(b:List Int){x:ja}(h:uU a b=some x) :aw prog yP [] [.imm c (.ns .u64 a) 1 1 0 (List.length a),.imm d (.ns .u64 b) 1 1 0 (List.length b)] (Gx x) :=
  kp true Gx zk h (Sg.cut 4 DP (bk sA (acw c a d b) [⟨[],[],[4]⟩,⟨[],[],[0,1,5]⟩]) (fun _=>Sg.cut 1 DP (BM ⟨[],[],[0,1,5]⟩ (DQ c a d b) (Lm) 0 DP (acu _) (fun e=>X1 c a d b e)) (fun _=>bk sA _ [⟨[],[],[4]⟩])))
    (fun x=>by cases x with | r0 f=>exact jT [.bool false f])
def xk:Option ja→Bool
  | some _=>true
  | none=>false
def yh:Option ja→Bool
  | some (.r0 x)=>x
  | _=>false
theorem acA{x:Option ja}(h:xk x=true) :x=some (.r0 (yh x)):=by
  unfold xk at h
  split at h <;> first | rfl | (cases h;done) | (rename_i y;cases y;rfl)
def PS:aL:=bJ yP (.cons (.ns .u64) (.cons (.ns .u64) .nil)) fun t=>(fun q=>[⟨Gx (.r0 (yh q)),[xk q]⟩]) (uU t.1.2 t.2.1.2)
theorem Up:aV prog PS:=aR fun t=>(aS (fun h=>acz t.1.1 t.1.2 t.2.1.1 t.2.1.2 (acA h)) aZ)
def PT:List aL:=PS :: PR
theorem yi:bd prog (bf PT):=au Up sA
inductive kW where
  | r0 (a:Bool)
def PU:kW→AE×aQ
  | .r0 a=>(.ret,⟨ao 24 [(4,.bool false a)],[],0⟩)
theorem acB:jC PU:=by intro x;cases x <;> (intro h;cases h)
def Gy:kW→gX
  | .r0 a=>⟨.bool false a,[]⟩
def acC(a:Bool) :aQ:=⟨ao 24 [(4,.bool false a)],[],0⟩
def Ln(c:Bool)(a:List Int)(d:Int)(e:Bool)(b:List Int)(f:Int) :T ((Bool)⊕(kW)) :=
  .ask (c == e)
    (.need (aP 0 (List.length a) a)<|.need (aP 0 (List.length b) b)<|.need (xk (uU (ab 0 (List.length a) a) (ab 0 (List.length b) b)))<|.ask (yh (uU (ab 0 (List.length a) a) (ab 0 (List.length b) b)))
      (.leaf (.inl (d == f)))
      (.leaf (.inl false)))
    (.leaf (.inl false))
def acD(a:Bool) :T ((Empty)⊕(kW)) :=
  .leaf (.inr (.r0 a))
def ol(a:Bool)(b:List Int)(c:Int)(d:Bool)(e:List Int)(f:Int) :Option kW:=jR (aE ((Ln a b c d e f).run) fun g =>
  (acD g).run)
theorem acE(c:Bool)(g:Lv)(a:List Int)(d:Int)(e:Bool)(i:Lv)(b:List Int)(f:Int){x:kW}(h:ol c a d e b f=some x) :aw prog ER [] [.agg [.bool false c,.imm g (.ns .u64 a) 1 1 0 (List.length a),.int .i64 d],.agg [.bool false e,.imm i (.ns .u64 b) 1 1 0 (List.length b),.int .i64 f]] (Gy x) :=
  kp true Gy PU h (Sg.cut 2 acB (bk yi acC [⟨[],[],[4]⟩,⟨[],[],[4]⟩,⟨[],[],[4]⟩]) (fun k=>bk yi _ [⟨[],[],[4]⟩]))
    (fun x=>by cases x with | r0 j=>exact jT [.bool false j])
def rI:Option kW→Bool
  | some _=>true
  | none=>false
def sB:Option kW→Bool
  | some (.r0 x)=>x
  | _=>false
theorem acF{x:Option kW}(h:rI x=true) :x=some (.r0 (sB x)):=by
  unfold rI at h
  split at h <;> first | rfl | (cases h;done) | (rename_i y;cases y;rfl)
def PV:aL:=bJ ER (.cons (.agg (.cons .bool (.cons (.ns .u64) (.cons (.int .i64) .nil)))) (.cons (.agg (.cons .bool (.cons (.ns .u64) (.cons (.int .i64) .nil)))) .nil)) fun t=>(fun q=>[⟨Gy (.r0 (sB q)),[rI q]⟩]) (ol t.1.1 t.1.2.1.2 t.1.2.2.1 t.2.1.1 t.2.1.2.1.2 t.2.1.2.2.1)
theorem Uq:aV prog PV:=aR fun t=>(aS (fun h=>acE t.1.1 t.1.2.1.1 t.1.2.1.2 t.1.2.2.1 t.2.1.1 t.2.1.2.1.1 t.2.1.2.1.2 t.2.1.2.2.1 (acF h)) aZ)
def PW:List aL:=PV :: PT
theorem sC:bd prog (bf PW):=au Uq yi
inductive eZ where
  | r0 (a:Bool) (b:List Int) (c:Nat) (d:Int)
def Lo:eZ→AE×aQ
  | .r0 a b c d=>(.ret,⟨ao 16 [(2,.ptr 0 1 0 0)],[(0,.vs [.bool false a,.imm .free (.ns .u64 b) 1 1 0 c,.int .i64 d])],1⟩)
theorem IZ:jC Lo:=by intro x;cases x <;> (intro h;cases h)
def DS:eZ→gX
  | .r0 a b c d=>⟨.agg [.bool false a,.imm .free (.ns .u64 b) 1 1 0 c,.int .i64 d],[]⟩
def X3(a:Int) :Int×Bool→aQ:=fun (b,c)=>⟨ao 16 [(0,.int .i64 a),(2,.ptr 0 1 0 0),(3,.int .u64 b)],[(0,.vs [.bool false c,.nsl,.int .i64 (0:Int)])],1⟩
def I0(a:Int) :T ((Int×Bool)⊕(eZ)) :=
  .ask (decide (a < (0:Int)))
    (.leaf (.inl ((IntKind.u64.wrap ((0:Int) - (IntKind.u64.wrap a))),false)))
    (.leaf (.inl ((IntKind.u64.wrap a),false)))
def X4:Bool×(List Int)×Nat×Int→aQ:=fun (a,b,c,d)=>⟨ao 16 [(2,.ptr 0 1 0 0)],[(0,.vs [.bool false a,.imm .free (.ns .u64 b) 1 1 0 c,.int .i64 d])],1⟩
def AL(b:Int)(a:Int) :T ((Bool×(List Int)×Nat×Int)⊕(eZ)) :=
  .need (aP 0 1 [a])<|.need (eY (aX (decide (b < (0:Int))) (ab 0 1 [a]) (0:Int)))<|.leaf (.inl ((d9 (aX (decide (b < (0:Int))) (ab 0 1 [a]) (0:Int))),(ee (aX (decide (b < (0:Int))) (ab 0 1 [a]) (0:Int))),(ef (aX (decide (b < (0:Int))) (ab 0 1 [a]) (0:Int))),(eh (aX (decide (b < (0:Int))) (ab 0 1 [a]) (0:Int)))))
def X5(a:Bool)(b:List Int)(c:Nat)(d:Int) :T ((Empty)⊕(eZ)) :=
  .leaf (.inr (.r0 a b c d))
def aD(a:Int) :Option eZ:=jR (aE ((I0 a).run) fun (b,g) =>
  aE ((AL a b).run) fun (c,d,e,f) =>
  (X5 c d e f).run)
theorem X6(a:Int){x:eZ}(h:aD a=some x) :aw prog Co [] [.int .i64 a] (DS x) :=
  kp true DS Lo h (Sg.cut 4 IZ (bk sC (X3 a) [⟨[],[0],[0,2,3]⟩,⟨[],[0],[0,2,3]⟩]) (fun ⟨f,g⟩=>Sg.cut 1 IZ (bk sC X4 [⟨[],[0],[2]⟩]) (fun ⟨i,j,k,l⟩=>bk sC _ [⟨[],[0],[2]⟩])))
    (fun x=>by cases x with | r0 b c d e=>exact jT [.agg [.bool false b,.imm .free (.ns .u64 c) 1 1 0 d,.int .i64 e]])
def ew:Option eZ→Bool
  | some _=>true
  | none=>false
def cu:Option eZ→Bool
  | some (.r0 x _ _ _)=>x
  | _=>false
def ca:Option eZ→List Int
  | some (.r0 _ x _ _)=>x
  | _=>[]
def cd:Option eZ→Nat
  | some (.r0 _ _ x _)=>x
  | _=>0
def cv:Option eZ→Int
  | some (.r0 _ _ _ x)=>x
  | _=>0
theorem X7{x:Option eZ}(h:ew x=true) :x=some (.r0 (cu x) (ca x) (cd x) (cv x)):=by
  unfold ew at h
  split at h <;> first | rfl | (cases h;done) | (rename_i y;cases y;rfl)
def Lp:aL:=bJ Co (.cons (.int .i64) .nil) fun t=>(fun q=>[⟨DS (.r0 (cu q) (ca q) (cd q) (cv q)),[ew q]⟩]) (aD t.1)
theorem Rp:aV prog Lp:=aR fun t=>(aS (fun h=>X6 t.1 (X7 h)) aZ)
def Lq:List aL:=Lp :: PW
theorem e7:bd prog (bf Lq):=au Rp sC
inductive dG where
  | r0 (a:Bool)
def Lr:dG→AE×aQ
  | .r0 a=>(.ret,⟨ao 91 [(0,.bool false a)],[],0⟩)
theorem kj:jC Lr:=by intro x;cases x <;> (intro h;cases h)
def DT:dG→gX
  | .r0 a=>⟨.bool false a,[]⟩
def X8:Int×Nat×(List Nat)×(List Nat)→aQ:=fun (a,b,c,d)=>⟨ao 91 [(1,.ptr 0 1 0 0),(2,.ptr 1 1 0 0)],[(0,.vs [.int .i64 (2:Int),.int .i64 (2:Int),.sl 2 1 1 0 4 4]),(1,.vs [.int .i64 a,.int .i64 a,.sl 3 1 1 0 b b]),(2,.fl c),(3,.fl d)],4⟩
def G5:T ((Int×Nat×(List Nat)×(List Nat))⊕(dG)) :=
  .need (ze (pQ (2:Int)))<|.leaf (.inl ((Ao (pQ (2:Int))),(Ap (pQ (2:Int))),[4611686018427387904,0,0,4613937818241073152],(Aq (pQ (2:Int)))))
def X9(a:Int)(b:Nat)(c:List Nat)(d:List Nat) :Bool×Int→aQ:=fun (e,f)=>⟨ao 91 [(1,.ptr 0 1 0 0),(2,.ptr 1 1 0 0),(3,.bool false e),(4,.int .i64 f)],[(0,.vs [.int .i64 (2:Int),.int .i64 (2:Int),.sl 2 1 1 0 4 4]),(1,.vs [.int .i64 a,.int .i64 a,.sl 3 1 1 0 b b]),(2,.fl c),(3,.fl d)],4⟩
def yj(a:Int)(b:Nat)(c:List Nat)(d:List Nat) :T ((Bool×Int)⊕(dG)) :=
  .need (aP 0 4 c)<|.need (aP 0 2 [4611686018427387904,4613937818241073152])<|.need (aP 0 b d)<|.need (pU (eO (2:Int) (2:Int) (ab 0 4 c) (ab 0 2 [4611686018427387904,4613937818241073152]) a a (ab 0 b d)))<|.leaf (.inl ((oZ (eO (2:Int) (2:Int) (ab 0 4 c) (ab 0 2 [4611686018427387904,4613937818241073152]) a a (ab 0 b d))),(o0 (eO (2:Int) (2:Int) (ab 0 4 c) (ab 0 2 [4611686018427387904,4613937818241073152]) a a (ab 0 b d)))))
def Ya(a:Int)(b:Nat)(c:List Nat)(d:List Nat)(e:Bool)(f:Int) :Bool×Int→aQ:=fun (g,f8)=>⟨ao 91 [(1,.ptr 0 1 0 0),(2,.ptr 1 1 0 0),(3,.bool false e),(4,.int .i64 f),(5,.bool false g),(6,.int .i64 f8)],[(0,.vs [.int .i64 (2:Int),.int .i64 (2:Int),.sl 2 1 1 0 4 4]),(1,.vs [.int .i64 a,.int .i64 a,.sl 3 1 1 0 b b]),(2,.fl c),(3,.fl d)],4⟩
def yk(a:Int)(b:Nat)(c:List Nat)(d:List Nat) :T ((Bool×Int)⊕(dG)) :=
  .need (aP 0 4 c)<|.need (aP 0 2 [4613937818241073152,4611686018427387904])<|.need (aP 0 b d)<|.need (pU (eO (2:Int) (2:Int) (ab 0 4 c) (ab 0 2 [4613937818241073152,4611686018427387904]) a a (ab 0 b d)))<|.leaf (.inl ((oZ (eO (2:Int) (2:Int) (ab 0 4 c) (ab 0 2 [4613937818241073152,4611686018427387904]) a a (ab 0 b d))),(o0 (eO (2:Int) (2:Int) (ab 0 4 c) (ab 0 2 [4613937818241073152,4611686018427387904]) a a (ab 0 b d)))))
def Yb(a:Bool)(b:Int)(c:Bool)(f8:Int) :Bool×Int→aQ:=fun (d,e)=>⟨ao 91 [(3,.bool false a),(4,.int .i64 b),(5,.bool false c),(6,.int .i64 f8),(7,.bool false d),(8,.int .i64 e)],[],0⟩
def yn(a:Int)(b:Nat)(c:List Nat)(d:List Nat) :T ((Bool×Int)⊕(dG)) :=
  .need (aP 0 4 c)<|.need (aP 0 2 [4611686018427387904,4613940070040886837])<|.need (aP 0 b d)<|.need (pU (eO (2:Int) (2:Int) (ab 0 4 c) (ab 0 2 [4611686018427387904,4613940070040886837]) a a (ab 0 b d)))<|.leaf (.inl ((oZ (eO (2:Int) (2:Int) (ab 0 4 c) (ab 0 2 [4611686018427387904,4613940070040886837]) a a (ab 0 b d))),(o0 (eO (2:Int) (2:Int) (ab 0 4 c) (ab 0 2 [4611686018427387904,4613940070040886837]) a a (ab 0 b d)))))
def Yc(a:Bool)(b:Int)(c:Bool)(f8:Int)(d:Bool)(e:Int) :Nat×Bool×(List Int)×Nat×Nat×Int→aQ:=fun (f,g,h,i,j,k)=>⟨ao 91 [(3,.bool false a),(4,.int .i64 b),(5,.bool false c),(6,.int .i64 f8),(7,.bool false d),(8,.int .i64 e),(9,.ptr 0 1 0 0),(10,.int .i64 ((f:Nat):Int))],[(0,.vs [.bool false g,.imm .free (.ns .u64 h) 1 1 i j,.int .i64 k])],1⟩
def yo:T ((Nat×Bool×(List Int)×Nat×Nat×Int)⊕(dG)) :=
  .need (rc (dA (1:Int) (1:Int)))<|.leaf (.inl ((sh (dA (1:Int) (1:Int))),(si (dA (1:Int) (1:Int))),(sj (dA (1:Int) (1:Int))),(sk (dA (1:Int) (1:Int))),(sm (dA (1:Int) (1:Int))),(sn (dA (1:Int) (1:Int)))))
def Yd(a:Bool)(b:Int)(c:Bool)(f8:Int)(d:Bool)(e:Int)(f:Nat)(g:Bool)(h:List Int)(i:Nat)(j:Nat)(k:Int) :Bool×(List Int)×Nat×Int→aQ:=fun (l,m,n,o)=>⟨ao 91 [(3,.bool false a),(4,.int .i64 b),(5,.bool false c),(6,.int .i64 f8),(7,.bool false d),(8,.int .i64 e),(9,.ptr 0 1 0 0),(10,.int .i64 ((f:Nat):Int)),(11,.ptr 1 1 0 0)],[(0,.vs [.bool false g,.imm .free (.ns .u64 h) 1 1 i j,.int .i64 k]),(1,.vs [.bool false l,.imm .free (.ns .u64 m) 1 1 0 n,.int .i64 o])],2⟩
def yp:T ((Bool×(List Int)×Nat×Int)⊕(dG)) :=
  .need (xj (mO (-94:Int)))<|.leaf (.inl ((yd (mO (-94:Int))),(yg (mO (-94:Int))),(ye (mO (-94:Int))),(yf (mO (-94:Int)))))
def Ye(a:Bool)(b:Int)(c:Bool)(f8:Int)(d:Bool)(e:Int)(f:Nat)(g:Bool)(h:List Int)(i:Nat)(j:Nat)(k:Int)(l:Bool)(m:List Int)(n:Nat)(o:Int) :Nat×Bool×(List Int)×Nat×Nat×Int→aQ:=fun (p,q,r,s,t,u)=>⟨ao 91 [(3,.bool false a),(4,.int .i64 b),(5,.bool false c),(6,.int .i64 f8),(7,.bool false d),(8,.int .i64 e),(9,.ptr 0 1 0 0),(10,.int .i64 ((f:Nat):Int)),(11,.ptr 1 1 0 0),(13,.ptr 2 1 0 0),(14,.int .i64 ((p:Nat):Int))],[(0,.vs [.bool false g,.imm .free (.ns .u64 h) 1 1 i j,.int .i64 k]),(1,.vs [.bool false l,.imm .free (.ns .u64 m) 1 1 0 n,.int .i64 o]),(2,.vs [.bool false q,.imm .free (.ns .u64 r) 1 1 s t,.int .i64 u])],3⟩
def yq:T ((Nat×Bool×(List Int)×Nat×Nat×Int)⊕(dG)) :=
  .need (aP 0 2 [4613937818241073152,4616189618054758400])<|.need (uK (d6 (1:Int) (2:Int) (ab 0 2 [4613937818241073152,4616189618054758400])))<|.leaf (.inl ((uL (d6 (1:Int) (2:Int) (ab 0 2 [4613937818241073152,4616189618054758400]))),(uM (d6 (1:Int) (2:Int) (ab 0 2 [4613937818241073152,4616189618054758400]))),(uN (d6 (1:Int) (2:Int) (ab 0 2 [4613937818241073152,4616189618054758400]))),(uO (d6 (1:Int) (2:Int) (ab 0 2 [4613937818241073152,4616189618054758400]))),(uP (d6 (1:Int) (2:Int) (ab 0 2 [4613937818241073152,4616189618054758400]))),(uQ (d6 (1:Int) (2:Int) (ab 0 2 [4613937818241073152,4616189618054758400])))))
def Yf(a:Bool) :aQ:=⟨ao 91 [(0,.bool false a)],[],0⟩
def yr(o : Bool)(p : Int)(q : Bool)(f8 : Int)(r : Bool)(s : Int)(t : Nat)(i : Bool)(a : List Int)(b : Nat)(c : Nat)(j : Int)(k : Bool)(d : List Int)(e : Nat)(l : Int)(u : Nat)(m : Bool)(f : List Int)(g : Nat)(h : Nat)(n : Int) : T ((Bool) ⊕ (dG)) :=
  .ask (p == (0 : Int))
    (.ask (f8 == (0:Int))
      (.ask (s == (0:Int))
        (.ask (((t:Nat):Int) == (0:Int))
          (.ask (((u:Nat):Int) == (0:Int))
            (.ask o
              (.ask (!q)
                (.ask (!r)
                  (.need (aP b c a)<|.need (aP 0 e d)<|.need (rI (ol i (ab b c a) j k (ab 0 e d) l))<|.ask (sB (ol i (ab b c a) j k (ab 0 e d) l))
                    (.need (ew (aD (25:Int)))<|.need (aP g h f)<|.need (aP 0 (cd (aD (25:Int))) (ca (aD (25:Int))))<|.need (rI (ol m (ab g h f) n (cu (aD (25:Int))) (ab 0 (cd (aD (25:Int))) (ca (aD (25:Int)))) (cv (aD (25:Int)))))<|.leaf (.inl (sB (ol m (ab g h f) n (cu (aD (25:Int))) (ab 0 (cd (aD (25:Int))) (ca (aD (25:Int)))) (cv (aD (25:Int)))))))
                    (.leaf (.inl false)))
                  (.leaf (.inl false)))
                (.leaf (.inl false)))
              (.leaf (.inl false)))
            (.leaf (.inl false)))
          (.leaf (.inl false)))
        (.leaf (.inl false)))
      (.leaf (.inl false)))
    (.leaf (.inl false))
def Ur(a:Bool) :T ((Empty)⊕(dG)) :=
  .leaf (.inr (.r0 a))
def jZ:Option dG:=jR (aE ((G5).run) fun (a,b,c,d) =>
  aE ((yj a b c d).run) fun (e,f) =>
  aE ((yk a b c d).run) fun (g,f8) =>
  aE ((yn a b c d).run) fun (h,i) =>
  aE ((yo).run) fun (j,k,l,m,n,o) =>
  aE ((yp).run) fun (p,q,r,s) =>
  aE ((yq).run) fun (t,u,v,w,x,y) =>
  aE ((yr e f g f8 h i j k l m n o p q r s t u v w x y).run) fun z =>
  (Ur z).run)
theorem Yg{x:dG}(h:jZ=some x) :aw prog Kp [] [] (DT x) :=
  kp false DT Lr h (Sg.cut 3 kj (bk e7 X8 [⟨[],[32,80,16,64],[1,2]⟩]) (fun ⟨f,g,i,j⟩=>Sg.cut 1 kj (bk e7 (X9 f g i j) [⟨[],[0,1,2,3],[1,2,3,4]⟩]) (fun ⟨a,b⟩=>Sg.cut 1 kj (bk e7 (Ya f g i j a b) [⟨[],[0,1,2,3],[1,2,3,4,5,6]⟩]) (fun ⟨c,f8⟩=>Sg.cut 1 kj (bk e7 (Yb a b c f8) [⟨[],[],[3,4,5,6,7,8]⟩]) (fun ⟨d,e⟩=>Sg.cut 1 kj (bk e7 (Yc a b c f8 d e) [⟨[],[64],[3,4,5,6,7,8,9,10]⟩]) (fun ⟨k,l,m,n,o,p⟩=>Sg.cut 1 kj (bk e7 (Yd a b c f8 d e k l m n o p) [⟨[],[0,65],[3,4,5,6,7,8,9,10,11]⟩]) (fun ⟨q,r,s,t⟩=>Sg.cut 1 kj (bk e7 (Ye a b c f8 d e k l m n o p q r s t) [⟨[],[0,1,98],[3,4,5,6,7,8,9,10,11,13,14]⟩]) (fun ⟨v,w,y,z,A,B⟩=>Sg.cut 1 kj (bk e7 Yf [⟨[],[],[0]⟩,⟨[],[],[0]⟩,⟨[],[],[0]⟩,⟨[],[],[0]⟩,⟨[],[],[0]⟩,⟨[],[],[0]⟩,⟨[],[],[0]⟩,⟨[],[],[0]⟩,⟨[],[],[0]⟩,⟨[],[],[0]⟩]) (fun C=>bk e7 _ [⟨[],[],[0]⟩])))))))))
    (fun x=>by cases x with | r0 u=>exact jT [.bool false u])
def nJ:Option dG→Bool
  | some _=>true
  | none=>false
def nK:Option dG→Bool
  | some (.r0 x)=>x
  | _=>false
theorem Yh{x:Option dG}(h:nJ x=true) :x=some (.r0 (nK x)):=by
  unfold nJ at h
  split at h <;> first | rfl | (cases h;done) | (rename_i y;cases y;rfl)
def Ls:aL:=bJ Kp .nil fun t=>(fun q=>[⟨DT (.r0 (nK q)),[nJ q]⟩]) (jZ)
theorem Rq:aV prog Ls:=aR fun t=>(aS (fun h=>Yg (Yh h)) aZ)
def Lt:List aL:=Ls :: Lq
theorem wi:bd prog (bf Lt):=au Rq e7
inductive fQ where
  | r0 (a:Bool) (b:List Int) (c:Nat) (d:Int)
def Lu:fQ→AE×aQ
  | .r0 a b c d=>(.ret,⟨ao 14 [(4,.ptr 0 1 0 0)],[(0,.vs [.bool false a,.imm .free (.ns .u64 b) 1 1 0 c,.int .i64 d])],1⟩)
theorem Yi:jC Lu:=by intro x;cases x <;> (intro h;cases h)
def DU:fQ→gX
  | .r0 a b c d=>⟨.agg [.bool false a,.imm .free (.ns .u64 b) 1 1 0 c,.int .i64 d],[]⟩
def Yj:Bool×Bool×(List Int)×Nat×Int→aQ:=fun (a,b,c,d,e)=>⟨ao 14 [(4,.ptr 0 1 0 0),(5,.ptr 1 1 0 0)],[(0,.vs [.bool false a,.nsl,.int .i64 (0:Int)]),(1,.vs [.bool false b,.imm .free (.ns .u64 c) 1 1 0 d,.int .i64 e])],2⟩
def I1(c:Bool)(a:List Int)(d:Int)(e:Bool)(b:List Int)(f:Int) :T ((Bool×Bool×(List Int)×Nat×Int)⊕(fQ)) :=
  .need (aP 0 (List.length a) a)<|.need (aP 0 (List.length b) b)<|.need (zc (nT c (ab 0 (List.length a) a) d e (ab 0 (List.length b) b) f))<|.leaf (.inl (false,(Af (nT c (ab 0 (List.length a) a) d e (ab 0 (List.length b) b) f)),(Ag (nT c (ab 0 (List.length a) a) d e (ab 0 (List.length b) b) f)),(Ah (nT c (ab 0 (List.length a) a) d e (ab 0 (List.length b) b) f)),(Ai (nT c (ab 0 (List.length a) a) d e (ab 0 (List.length b) b) f))))
def Yk(a:Bool)(b:List Int)(c:Nat)(d:Int) :T ((Empty)⊕(fQ)) :=
  .leaf (.inr (.r0 a b c d))
def ai(a:Bool)(b:List Int)(c:Int)(d:Bool)(e:List Int)(f:Int) :Option fQ:=jR (aE ((I1 a b c d e f).run) fun (k,g,h,i,j) =>
  (Yk g h i j).run)
theorem Yl(c:Bool)(g:Lv)(a:List Int)(d:Int)(e:Bool)(i:Lv)(b:List Int)(f:Int){x:fQ}(h:ai c a d e b f=some x) :aw prog Cq [] [.agg [.bool false c,.imm g (.ns .u64 a) 1 1 0 (List.length a),.int .i64 d],.agg [.bool false e,.imm i (.ns .u64 b) 1 1 0 (List.length b),.int .i64 f]] (DU x) :=
  kp true DU Lu h (Sg.cut 2 Yi (bk wi Yj [⟨[],[32,144],[4,5]⟩]) (fun ⟨n,o,p,q,r⟩=>bk wi _ [⟨[],[0],[4]⟩]))
    (fun x=>by cases x with | r0 j k l m=>exact jT [.agg [.bool false j,.imm .free (.ns .u64 k) 1 1 0 l,.int .i64 m]])
def cD:Option fQ→Bool
  | some _=>true
  | none=>false
def aN:Option fQ→Bool
  | some (.r0 x _ _ _)=>x
  | _=>false
def aF:Option fQ→List Int
  | some (.r0 _ x _ _)=>x
  | _=>[]
def aG:Option fQ→Nat
  | some (.r0 _ _ x _)=>x
  | _=>0
def aO:Option fQ→Int
  | some (.r0 _ _ _ x)=>x
  | _=>0
theorem Ym{x:Option fQ}(h:cD x=true) :x=some (.r0 (aN x) (aF x) (aG x) (aO x)):=by
  unfold cD at h
  split at h <;> first | rfl | (cases h;done) | (rename_i y;cases y;rfl)
def Lw:aL:=bJ Cq (.cons (.agg (.cons .bool (.cons (.ns .u64) (.cons (.int .i64) .nil)))) (.cons (.agg (.cons .bool (.cons (.ns .u64) (.cons (.int .i64) .nil)))) .nil)) fun t=>(fun q=>[⟨DU (.r0 (aN q) (aF q) (aG q) (aO q)),[cD q]⟩]) (ai t.1.1 t.1.2.1.2 t.1.2.2.1 t.2.1.1 t.2.1.2.1.2 t.2.1.2.2.1)
theorem Rr:aV prog Lw:=aR fun t=>(aS (fun h=>Yl t.1.1 t.1.2.1.1 t.1.2.1.2 t.1.2.2.1 t.2.1.1 t.2.1.2.1.1 t.2.1.2.1.2 t.2.1.2.2.1 (Ym h)) aZ)
def Lx:List aL:=Lw :: Lt
theorem lw:bd prog (bf Lx):=au Rr wi
inductive dV where
  | r0 (a:Bool) (b:List Int) (c:Nat) (d:Int)
def Ly:dV→AE×aQ
  | .r0 a b c d=>(.ret,⟨ao 25 [(4,.ptr 0 1 0 0)],[(0,.vs [.bool false a,.imm .free (.ns .u64 b) 1 1 0 c,.int .i64 d])],1⟩)
theorem uV:jC Ly:=by intro x;cases x <;> (intro h;cases h)
def DV:dV→gX
  | .r0 a b c d=>⟨.agg [.bool false a,.imm .free (.ns .u64 b) 1 1 0 c,.int .i64 d],[]⟩
def Yn(a:Int) :Int×Bool→aQ:=fun (b,c)=>⟨ao 25 [(0,.int .i64 b),(1,.int .i64 a),(4,.ptr 0 1 0 0)],[(0,.vs [.bool false c,.nsl,.int .i64 (0:Int)])],1⟩
def I2(a:Int) :T ((Int×Bool)⊕(dV)) :=
  .ask (a == (0:Int))
    (.leaf (.inl ((1:Int),false)))
    (.leaf (.inl (a,false)))
def Yo(a:Int)(b:Bool)(c:Int) :aQ:=⟨ao 25 [(0,.int .i64 a),(1,.int .i64 c),(4,.ptr 0 1 0 0)],[(0,.vs [.bool false b,.nsl,.int .i64 (0:Int)])],1⟩
def AM(a:Int) :T ((Int)⊕(dV)) :=
  .ask (a == (0:Int))
    (.leaf (.inl (1:Int)))
    (.leaf (.inl a))
def Yp(a:Bool) :Bool×(List Int)×Nat×Int→aQ:=fun (b,c,d,e)=>⟨ao 25 [(4,.ptr 0 1 0 0),(5,.ptr 1 1 0 0)],[(0,.vs [.bool false a,.nsl,.int .i64 (0:Int)]),(1,.vs [.bool false b,.imm .free (.ns .u64 c) 1 1 0 d,.int .i64 e])],2⟩
def AN(a:Int)(b:Int) :T ((Bool×(List Int)×Nat×Int)⊕(dV)) :=
  .need (dn .i64 ((64:Int) * a))<|.need (dn .i64 (((64:Int) * a) * b))<|.need (ew (aD (((64:Int) * a) * b)))<|.leaf (.inl ((cu (aD (((64:Int) * a) * b))),(ca (aD (((64:Int) * a) * b))),(cd (aD (((64:Int) * a) * b))),(cv (aD (((64:Int) * a) * b)))))
def Yq(a:Bool) :Bool×(List Int)×Nat×Int→aQ:=fun (b,c,d,e)=>⟨ao 25 [(4,.ptr 0 1 0 0),(6,.ptr 1 1 0 0)],[(0,.vs [.bool false a,.nsl,.int .i64 (0:Int)]),(1,.vs [.bool false b,.imm .free (.ns .u64 c) 1 1 0 d,.int .i64 e])],2⟩
def AO(c:Bool)(a:List Int)(b:Nat)(d:Int) :T ((Bool×(List Int)×Nat×Int)⊕(dV)) :=
  .need (aP 0 b a)<|.need (aP 0 b a)<|.need (cD (ai c (ab 0 b a) d c (ab 0 b a) d))<|.need (aP 0 (aG (ai c (ab 0 b a) d c (ab 0 b a) d)) (aF (ai c (ab 0 b a) d c (ab 0 b a) d)))<|.need (uH (jY (aN (ai c (ab 0 b a) d c (ab 0 b a) d)) (ab 0 (aG (ai c (ab 0 b a) d c (ab 0 b a) d)) (aF (ai c (ab 0 b a) d c (ab 0 b a) d))) (aO (ai c (ab 0 b a) d c (ab 0 b a) d)) (-106:Int)))<|.leaf (.inl ((v6 (jY (aN (ai c (ab 0 b a) d c (ab 0 b a) d)) (ab 0 (aG (ai c (ab 0 b a) d c (ab 0 b a) d)) (aF (ai c (ab 0 b a) d c (ab 0 b a) d))) (aO (ai c (ab 0 b a) d c (ab 0 b a) d)) (-106:Int))),(v7 (jY (aN (ai c (ab 0 b a) d c (ab 0 b a) d)) (ab 0 (aG (ai c (ab 0 b a) d c (ab 0 b a) d)) (aF (ai c (ab 0 b a) d c (ab 0 b a) d))) (aO (ai c (ab 0 b a) d c (ab 0 b a) d)) (-106:Int))),(v8 (jY (aN (ai c (ab 0 b a) d c (ab 0 b a) d)) (ab 0 (aG (ai c (ab 0 b a) d c (ab 0 b a) d)) (aF (ai c (ab 0 b a) d c (ab 0 b a) d))) (aO (ai c (ab 0 b a) d c (ab 0 b a) d)) (-106:Int))),(v9 (jY (aN (ai c (ab 0 b a) d c (ab 0 b a) d)) (ab 0 (aG (ai c (ab 0 b a) d c (ab 0 b a) d)) (aF (ai c (ab 0 b a) d c (ab 0 b a) d))) (aO (ai c (ab 0 b a) d c (ab 0 b a) d)) (-106:Int)))))
def Us(a:Bool)(b:List Int)(c:Nat)(d:Int) :T ((Empty)⊕(dV)) :=
  .leaf (.inr (.r0 a b c d))
def lh(a:Int)(b:Int) :Option dV:=jR (aE ((I2 a).run) fun (c,m) =>
  aE ((AM b).run) fun d =>
  aE ((AN c d).run) fun (e,f,g,h) =>
  aE ((AO e f g h).run) fun (i,j,k,l) =>
  (Us i j k l).run)
theorem Yr(c:Int)(a:Int){x:dV}(h:lh c a=some x) :aw prog Cn [] [.int .i64 c,.int .i64 a] (DV x) :=
  kp true DV Ly h (Sg.cut 3 uV (bk lw (Yn a) [⟨[],[0],[0,1,4]⟩,⟨[],[0],[0,1,4]⟩]) (fun ⟨d,b⟩=>Sg.cut 2 uV (bk lw (Yo d b) [⟨[],[0],[0,1,4]⟩,⟨[],[0],[0,1,4]⟩]) (fun j=>Sg.cut 1 uV (bk lw (Yp b) [⟨[],[0,81],[4,5]⟩]) (fun ⟨k,l,m,n⟩=>Sg.cut 1 uV (bk lw (Yq b) [⟨[],[0,114],[4,6]⟩]) (fun ⟨o,p,q,r⟩=>bk lw _ [⟨[],[0],[4]⟩])))))
    (fun x=>by cases x with | r0 e f g i=>exact jT [.agg [.bool false e,.imm .free (.ns .u64 f) 1 1 0 g,.int .i64 i]])
def uW:Option dV→Bool
  | some _=>true
  | none=>false
def wj:Option dV→Bool
  | some (.r0 x _ _ _)=>x
  | _=>false
def wk:Option dV→List Int
  | some (.r0 _ x _ _)=>x
  | _=>[]
def wl:Option dV→Nat
  | some (.r0 _ _ x _)=>x
  | _=>0
def wm:Option dV→Int
  | some (.r0 _ _ _ x)=>x
  | _=>0
theorem Ys{x:Option dV}(h:uW x=true) :x=some (.r0 (wj x) (wk x) (wl x) (wm x)):=by
  unfold uW at h
  split at h <;> first | rfl | (cases h;done) | (rename_i y;cases y;rfl)
def Lz:aL:=bJ Cn (.cons (.int .i64) (.cons (.int .i64) .nil)) fun t=>(fun q=>[⟨DV (.r0 (wj q) (wk q) (wl q) (wm q)),[uW q]⟩]) (lh t.1 t.2.1)
theorem Rs:aV prog Lz:=aR fun t=>(aS (fun h=>Yr t.1 t.2.1 (Ys h)) aZ)
def LA:List aL:=Lz :: Lx
theorem wn:bd prog (bf LA):=au Rs lw
inductive mP where
  | r0 (a:Bool)
def Tr:mP→AE×aQ
  | .r0 a=>(.ret,⟨ao 32 [(2,.bool false a)],[],0⟩)
theorem ahD:jC Tr:=by intro x;cases x <;> (intro h;cases h)
def I3:mP→gX
  | .r0 a=>⟨.bool false a,[]⟩
def ahE(a:Bool) :aQ:=⟨ao 32 [(2,.bool false a)],[],0⟩
def PX(a:Int)(b:Int)(c:List Nat) :T ((Bool)⊕(mP)) :=
  .ask (decide (a ≥ (0:Int)))
    (.ask (decide (a≤(512:Int)))
      (.ask (decide (b ≥ (0:Int)))
        (.ask (decide (b≤(512:Int)))
          (.need (dn .i64 (a * b))<|.leaf (.inl ((((List.length c):Nat):Int) == (a * b))))
          (.leaf (.inl false)))
        (.leaf (.inl false)))
      (.leaf (.inl false)))
    (.leaf (.inl false))
def ahF(a:Bool) :T ((Empty)⊕(mP)) :=
  .leaf (.inr (.r0 a))
def pV(a:Int)(b:Int)(c:List Nat) :Option mP:=jR (aE ((PX a b c).run) fun d =>
  (ahF d).run)
theorem ahG(b:Int)(c:Int)(d:Lv)(a:List Nat){x:mP}(h:pV b c a=some x) :aw prog R7 [] [.agg [.int .i64 b,.int .i64 c,.imm d (.fl a) 1 1 0 (List.length a)]] (I3 x) :=
  kp false I3 Tr h (Sg.cut 2 ahD (bk wn ahE [⟨[],[],[2]⟩,⟨[],[],[2]⟩,⟨[],[],[2]⟩,⟨[],[],[2]⟩,⟨[],[],[2]⟩]) (fun f=>bk wn _ [⟨[],[],[2]⟩]))
    (fun x=>by cases x with | r0 e=>exact jT [.bool false e])
def uX:Option mP→Bool
  | some _=>true
  | none=>false
def uY:Option mP→Bool
  | some (.r0 x)=>x
  | _=>false
theorem ahH{x:Option mP}(h:uX x=true) :x=some (.r0 (uY x)):=by
  unfold uX at h
  split at h <;> first | rfl | (cases h;done) | (rename_i y;cases y;rfl)
def Ts:aL:=bJ R7 (.cons (.agg (.cons (.int .i64) (.cons (.int .i64) (.cons .fl .nil)))) .nil) fun t=>(fun q=>[⟨I3 (.r0 (uY q)),[uX q]⟩]) (pV t.1.1 t.1.2.1 t.1.2.2.1.2)
theorem Yt:aV prog Ts:=aR fun t=>(aS (fun h=>ahG t.1.1 t.1.2.1 t.1.2.2.1.1 t.1.2.2.1.2 (ahH h)) aZ)
def Tt:List aL:=Ts :: LA
theorem I4:bd prog (bf Tt):=au Yt wn
inductive ln where
  | r0 (a:Nat)
def acG:ln→AE×aQ
  | .r0 a=>(.ret,⟨ao 18 [(2,.int .i64 ((a:Nat):Int))],[],0⟩)
def DW:ln→gX
  | .r0 a=>⟨.int .i64 ((a:Nat):Int),[]⟩
def I5(a:Int) :T ((Empty)⊕(ln)) :=
  .need (decide ((0:Int)≤(52:Int)))<|.ask ((eP .and .u64 (Int.fdiv a (2 ^ (min (Int.toNat (52:Int)) (IntKind.u64.bits)))) (2047:Int)) == (2047:Int))
    (.ask ((eP .and .u64 a (4503599627370495:Int)) == (0:Int))
      (.leaf (.inr (.r0 4)))
      (.leaf (.inr (.r0 5))))
    (.ask (decide ((eP .and .u64 (Int.fdiv a (2 ^ (min (Int.toNat (52:Int)) (IntKind.u64.bits)))) (2047:Int)) > (0:Int)))
      (.leaf (.inr (.r0 3)))
      (.ask (decide ((eP .and .u64 a (4503599627370495:Int)) > (0:Int)))
        (.leaf (.inr (.r0 2)))
        (.leaf (.inr (.r0 1)))))
def na(a:Int) :Option ln:=jR ((I5 a).run)
theorem Yu(a:Int){x:ln}(h:na a=some x) :aw prog Kr [] [.int .u64 a] (DW x) :=
  kp false DW acG h (bk I4 _ [⟨[],[],[2]⟩,⟨[],[],[2]⟩,⟨[],[],[2]⟩,⟨[],[],[2]⟩,⟨[],[],[2]⟩])
    (fun x=>by cases x with | r0 b=>exact jT [.int .i64 ((b:Nat):Int)])
def pW:Option ln→Bool
  | some _=>true
  | none=>false
def qq:Option ln→Nat
  | some (.r0 x)=>x
  | _=>0
theorem Yv{x:Option ln}(h:pW x=true) :x=some (.r0 (qq x)):=by
  unfold pW at h
  split at h <;> first | rfl | (cases h;done) | (rename_i y;cases y;rfl)
def LB:aL:=bJ Kr (.cons (.int .u64) .nil) fun t=>(fun q=>[⟨DW (.r0 (qq q)),[pW q]⟩]) (na t.1)
theorem Rt:aV prog LB:=aR fun t=>(aS (fun h=>Yu t.1 (Yv h)) aZ)
def LC:List aL:=LB :: Tt
theorem lz:bd prog (bf LC):=au Rt I4
inductive eF where
  | r0 (a:Bool) (b:Int) (c:Int)
def LD:eF→AE×aQ
  | .r0 a b c=>(.ret,⟨ao 27 [(2,.ptr 0 1 0 0)],[(0,.vs [.bool false a,.int .u64 b,.int .i64 c])],1⟩)
theorem uZ:jC LD:=by intro x;cases x <;> (intro h;cases h)
def DX:eF→gX
  | .r0 a b c=>⟨.agg [.bool false a,.int .u64 b,.int .i64 c],[]⟩
def Yw(a:Int) :Bool×Bool×Bool×Int→aQ:=fun (b,c,d,e)=>⟨ao 27 [(0,.int .u64 a),(2,.ptr 0 1 0 0),(3,.ptr 1 1 0 0),(11,.bool false b)],[(0,.vs [.bool false c,.int .u64 (0:Int),.int .i64 (0:Int)]),(1,.vs [.bool false d,.int .u64 e,.int .i64 (-1074:Int)])],2⟩
def I6(a:Int) :T ((Bool×Bool×Bool×Int)⊕(eF)) :=
  .need (pW (na a))<|.leaf (.inl (((((qq (na a)):Nat):Int) == (1:Int)),false,(decide (a ≥ (9223372036854775808:Int))),(eP .and .u64 a (4503599627370495:Int))))
def Yx(a:Int)(b:Bool)(c:Bool)(d:Int)(e:Int) :aQ:=⟨ao 27 [(0,.int .u64 a),(2,.ptr 0 1 0 0),(3,.ptr 1 1 0 0)],[(0,.vs [.bool false b,.int .u64 (0:Int),.int .i64 (0:Int)]),(1,.vs [.bool false c,.int .u64 d,.int .i64 e])],2⟩
def AP(a:Bool) :T ((Int)⊕(eF)) :=
  .ask a
    (.leaf (.inl (0:Int)))
    (.leaf (.inl (-1074:Int)))
def Yy(a:Int)(b:Bool)(c:Bool)(d:Int)(e:Int)(f:Bool) :aQ:=⟨ao 27 [(0,.int .u64 a),(2,.ptr 0 1 0 0),(3,.ptr 1 1 0 0),(15,.bool false f)],[(0,.vs [.bool false b,.int .u64 (0:Int),.int .i64 (0:Int)]),(1,.vs [.bool false c,.int .u64 d,.int .i64 e])],2⟩
def AQ(a:Int) :T ((Bool)⊕(eF)) :=
  .need (pW (na a))<|.leaf (.inl ((((qq (na a)):Nat):Int) == (3:Int)))
def Yz(a:Bool)(b:Bool) :Int×Int→aQ:=fun (c,d)=>⟨ao 27 [(2,.ptr 0 1 0 0),(3,.ptr 1 1 0 0)],[(0,.vs [.bool false a,.int .u64 (0:Int),.int .i64 (0:Int)]),(1,.vs [.bool false b,.int .u64 c,.int .i64 d])],2⟩
def AR(a:Int)(b:Int)(c:Int)(d:Bool) :T ((Int×Int)⊕(eF)) :=
  .ask d
    (.need (decide ((0:Int)≤(52:Int)))<|.need (dn .i64 ((IntKind.i64.wrap (eP .and .u64 (Int.fdiv a (2 ^ (min (Int.toNat (52:Int)) (IntKind.u64.bits)))) (2047:Int))) - (1075:Int)))<|.leaf (.inl ((IntKind.u64.wrap (b+(4503599627370496:Int))),((IntKind.i64.wrap (eP .and .u64 (Int.fdiv a (2 ^ (min (Int.toNat (52:Int)) (IntKind.u64.bits)))) (2047:Int))) - (1075:Int)))))
    (.leaf (.inl (b,c)))
def Ut(a:Bool)(b:Int)(c:Int) :T ((Empty)⊕(eF)) :=
  .leaf (.inr (.r0 a b c))
def nc(a:Int) :Option eF:=jR (aE ((I6 a).run) fun (b,i,c,d) =>
  aE ((AP b).run) fun e =>
  aE ((AQ a).run) fun f =>
  aE ((AR a d e f).run) fun (g,h) =>
  (Ut c g h).run)
theorem YA(a:Int){x:eF}(h:nc a=some x) :aw prog Kq [] [.int .u64 a] (DX x) :=
  kp false DX LD h (Sg.cut 3 uZ (bk lz (Yw a) [⟨[],[0,96],[0,2,3,11]⟩]) (fun ⟨j,b,c,d⟩=>Sg.cut 1 uZ (bk lz (Yx a b c d) [⟨[],[0,1],[0,2,3]⟩,⟨[],[0,1],[0,2,3]⟩]) (fun e=>Sg.cut 1 uZ (bk lz (Yy a b c d e) [⟨[],[0,1],[0,2,3,15]⟩]) (fun k=>Sg.cut 1 uZ (bk lz (Yz b c) [⟨[],[0,1],[2,3]⟩,⟨[],[0,1],[2,3]⟩]) (fun ⟨l,m⟩=>bk lz _ [⟨[],[0],[2]⟩])))))
    (fun x=>by cases x with | r0 f g i=>exact jT [.agg [.bool false f,.int .u64 g,.int .i64 i]])
def u4:Option eF→Bool
  | some _=>true
  | none=>false
def wo:Option eF→Bool
  | some (.r0 x _ _)=>x
  | _=>false
def wq:Option eF→Int
  | some (.r0 _ x _)=>x
  | _=>0
def ws:Option eF→Int
  | some (.r0 _ _ x)=>x
  | _=>0
theorem YB{x:Option eF}(h:u4 x=true) :x=some (.r0 (wo x) (wq x) (ws x)):=by
  unfold u4 at h
  split at h <;> first | rfl | (cases h;done) | (rename_i y;cases y;rfl)
def LE:aL:=bJ Kq (.cons (.int .u64) .nil) fun t=>(fun q=>[⟨DX (.r0 (wo q) (wq q) (ws q)),[u4 q]⟩]) (nc t.1)
theorem Ru:aV prog LE:=aR fun t=>(aS (fun h=>YA t.1 (YB h)) aZ)
def LF:List aL:=LE :: LC
theorem qr:bd prog (bf LF):=au Ru lz
inductive gh where
  | r0 (a:Bool) (b:List Int) (c:Nat) (d:Int)
def PY:gh→AE×aQ
  | .r0 a b c d=>(.ret,⟨ao 15 [(2,.ptr 0 1 0 0)],[(0,.vs [.bool false a,.imm .free (.ns .u64 b) 1 1 0 c,.int .i64 d])],1⟩)
theorem LG:jC PY:=by intro x;cases x <;> (intro h;cases h)
def Gz:gh→gX
  | .r0 a b c d=>⟨.agg [.bool false a,.imm .free (.ns .u64 b) 1 1 0 c,.int .i64 d],[]⟩
def acH:Bool×Bool×Int×Int→aQ:=fun (a,b,c,d)=>⟨ao 15 [(2,.ptr 0 1 0 0),(3,.ptr 1 1 0 0)],[(0,.vs [.bool false a,.nsl,.int .i64 (0:Int)]),(1,.vs [.bool false b,.int .u64 c,.int .i64 d])],2⟩
def LH(a:Int) :T ((Bool×Bool×Int×Int)⊕(gh)) :=
  .need (u4 (nc a))<|.leaf (.inl (false,(wo (nc a)),(wq (nc a)),(ws (nc a))))
def acI:Bool×(List Int)×Nat×Int→aQ:=fun (a,b,c,d)=>⟨ao 15 [(2,.ptr 0 1 0 0)],[(0,.vs [.bool false a,.imm .free (.ns .u64 b) 1 1 0 c,.int .i64 d])],1⟩
def DY(b:Bool)(a:Int)(c:Int) :T ((Bool×(List Int)×Nat×Int)⊕(gh)) :=
  .need (aP 0 1 [a])<|.need (eY (aX b (ab 0 1 [a]) c))<|.leaf (.inl ((d9 (aX b (ab 0 1 [a]) c)),(ee (aX b (ab 0 1 [a]) c)),(ef (aX b (ab 0 1 [a]) c)),(eh (aX b (ab 0 1 [a]) c))))
def acJ(a:Bool)(b:List Int)(c:Nat)(d:Int) :T ((Empty)⊕(gh)) :=
  .leaf (.inr (.r0 a b c d))
def mQ(a:Int) :Option gh:=jR (aE ((LH a).run) fun (i,b,c,d) =>
  aE ((DY b c d).run) fun (e,f,g,h) =>
  (acJ e f g h).run)
theorem acK(a:Int){x:gh}(h:mQ a=some x) :aw prog E3 [] [.int .u64 a] (Gz x) :=
  kp true Gz PY h (Sg.cut 2 LG (bk qr acH [⟨[],[0,48],[2,3]⟩]) (fun ⟨f,g,i,j⟩=>Sg.cut 1 LG (bk qr acI [⟨[],[0],[2]⟩]) (fun ⟨k,l,m,n⟩=>bk qr _ [⟨[],[0],[2]⟩])))
    (fun x=>by cases x with | r0 b c d e=>exact jT [.agg [.bool false b,.imm .free (.ns .u64 c) 1 1 0 d,.int .i64 e]])
def xn:Option gh→Bool
  | some _=>true
  | none=>false
def yu:Option gh→Bool
  | some (.r0 x _ _ _)=>x
  | _=>false
def yw:Option gh→List Int
  | some (.r0 _ x _ _)=>x
  | _=>[]
def yx:Option gh→Nat
  | some (.r0 _ _ x _)=>x
  | _=>0
def yy:Option gh→Int
  | some (.r0 _ _ _ x)=>x
  | _=>0
theorem acL{x:Option gh}(h:xn x=true) :x=some (.r0 (yu x) (yw x) (yx x) (yy x)):=by
  unfold xn at h
  split at h <;> first | rfl | (cases h;done) | (rename_i y;cases y;rfl)
def PZ:aL:=bJ E3 (.cons (.int .u64) .nil) fun t=>(fun q=>[⟨Gz (.r0 (yu q) (yw q) (yx q) (yy q)),[xn q]⟩]) (mQ t.1)
theorem Uu:aV prog PZ:=aR fun t=>(aS (fun h=>acK t.1 (acL h)) aZ)
def P0:List aL:=PZ :: LF
theorem yz:bd prog (bf P0):=au Uu qr
inductive fR where
  | r0 (a:Bool) (b:List Int) (c:Nat) (d:Int)
def LI:fR→AE×aQ
  | .r0 a b c d=>(.ret,⟨ao 6 [(2,.ptr 0 1 0 0)],[(0,.vs [.bool false a,.imm .free (.ns .u64 b) 1 1 0 c,.int .i64 d])],1⟩)
theorem YC:jC LI:=by intro x;cases x <;> (intro h;cases h)
def DZ:fR→gX
  | .r0 a b c d=>⟨.agg [.bool false a,.imm .free (.ns .u64 b) 1 1 0 c,.int .i64 d],[]⟩
def YD:Bool×(List Int)×Nat×Int→aQ:=fun (a,b,c,d)=>⟨ao 6 [(2,.ptr 0 1 0 0)],[(0,.vs [.bool false a,.imm .free (.ns .u64 b) 1 1 0 c,.int .i64 d])],1⟩
def I7(a:Nat) :T ((Bool×(List Int)×Nat×Int)⊕(fR)) :=
  .alt 0
    (.need (!isNaN a)<|.need (xn (mQ ((a:Nat):Int)))<|.leaf (.inl ((yu (mQ ((a:Nat):Int))),(yw (mQ ((a:Nat):Int))),(yx (mQ ((a:Nat):Int))),(yy (mQ ((a:Nat):Int))))))
    (.fail)
def YE(a:Bool)(b:List Int)(c:Nat)(d:Int) :T ((Empty)⊕(fR)) :=
  .leaf (.inr (.r0 a b c d))
def aa(a:Nat) :Option fR:=jR (aE ((I7 a).run) fun (b,c,d,e) =>
  (YE b c d e).run)
theorem YF(a:Nat){x:fR}(h:aa a=some x) :aw prog Cp [] [.flt false a] (DZ x) :=
  kp true DZ LI h (Sg.cut 2 YC (bk yz YD [⟨[],[0],[2]⟩]) (fun ⟨f,g,i,j⟩=>bk yz _ [⟨[],[0],[2]⟩]))
    (fun x=>by cases x with | r0 b c d e=>exact jT [.agg [.bool false b,.imm .free (.ns .u64 c) 1 1 0 d,.int .i64 e]])
def dO:Option fR→Bool
  | some _=>true
  | none=>false
def ag:Option fR→Bool
  | some (.r0 x _ _ _)=>x
  | _=>false
def ac:Option fR→List Int
  | some (.r0 _ x _ _)=>x
  | _=>[]
def ae:Option fR→Nat
  | some (.r0 _ _ x _)=>x
  | _=>0
def ah:Option fR→Int
  | some (.r0 _ _ _ x)=>x
  | _=>0
theorem YG{x:Option fR}(h:dO x=true) :x=some (.r0 (ag x) (ac x) (ae x) (ah x)):=by
  unfold dO at h
  split at h <;> first | rfl | (cases h;done) | (rename_i y;cases y;rfl)
def LJ:aL:=bJ Cp (.cons (.flt false) .nil) fun t=>(fun q=>[⟨DZ (.r0 (ag q) (ac q) (ae q) (ah q)),[dO q]⟩]) (aa t.1)
theorem Rv:aV prog LJ:=aR fun t=>(aS (fun h=>YF t.1 (YG h)) aZ)
def LK:List aL:=LJ :: P0
theorem wt:bd prog (bf LK):=au Rv yz
inductive jo where
  | r0 (a:Bool) (b:List Int) (c:Nat) (d:Int)
def Tu:jo→AE×aQ
  | .r0 a b c d=>(.ret,⟨ao 14 [(4,.ptr 0 1 0 0)],[(0,.vs [.bool false a,.imm .free (.ns .u64 b) 1 1 0 c,.int .i64 d])],1⟩)
theorem ahI:jC Tu:=by intro x;cases x <;> (intro h;cases h)
def I8:jo→gX
  | .r0 a b c d=>⟨.agg [.bool false a,.imm .free (.ns .u64 b) 1 1 0 c,.int .i64 d],[]⟩
def ahJ:Bool×Bool×(List Int)×Nat×Int→aQ:=fun (a,b,c,d,e)=>⟨ao 14 [(4,.ptr 0 1 0 0),(5,.ptr 1 1 0 0)],[(0,.vs [.bool false a,.nsl,.int .i64 (0:Int)]),(1,.vs [.bool false b,.imm .free (.ns .u64 c) 1 1 0 d,.int .i64 e])],2⟩
def P3(c:Bool)(a:List Int)(d:Int)(e:Bool)(b:List Int)(f:Int) :T ((Bool×Bool×(List Int)×Nat×Int)⊕(jo)) :=
  .need (aP 0 (List.length a) a)<|.need (aP 0 (List.length b) b)<|.need (uC (gA c (ab 0 (List.length a) a) d e (ab 0 (List.length b) b) f))<|.leaf (.inl (false,(uD (gA c (ab 0 (List.length a) a) d e (ab 0 (List.length b) b) f)),(uE (gA c (ab 0 (List.length a) a) d e (ab 0 (List.length b) b) f)),(uF (gA c (ab 0 (List.length a) a) d e (ab 0 (List.length b) b) f)),(uG (gA c (ab 0 (List.length a) a) d e (ab 0 (List.length b) b) f))))
def ahK(a:Bool)(b:List Int)(c:Nat)(d:Int) :T ((Empty)⊕(jo)) :=
  .leaf (.inr (.r0 a b c d))
def bM(a:Bool)(b:List Int)(c:Int)(d:Bool)(e:List Int)(f:Int) :Option jo:=jR (aE ((P3 a b c d e f).run) fun (k,g,h,i,j) =>
  (ahK g h i j).run)
theorem ahL(c:Bool)(g:Lv)(a:List Int)(d:Int)(e:Bool)(i:Lv)(b:List Int)(f:Int){x:jo}(h:bM c a d e b f=some x) :aw prog Hz [] [.agg [.bool false c,.imm g (.ns .u64 a) 1 1 0 (List.length a),.int .i64 d],.agg [.bool false e,.imm i (.ns .u64 b) 1 1 0 (List.length b),.int .i64 f]] (I8 x) :=
  kp true I8 Tu h (Sg.cut 2 ahI (bk wt ahJ [⟨[],[32,144],[4,5]⟩]) (fun ⟨n,o,p,q,r⟩=>bk wt _ [⟨[],[0],[4]⟩]))
    (fun x=>by cases x with | r0 j k l m=>exact jT [.agg [.bool false j,.imm .free (.ns .u64 k) 1 1 0 l,.int .i64 m]])
def mR:Option jo→Bool
  | some _=>true
  | none=>false
def lJ:Option jo→Bool
  | some (.r0 x _ _ _)=>x
  | _=>false
def lK:Option jo→List Int
  | some (.r0 _ x _ _)=>x
  | _=>[]
def lL:Option jo→Nat
  | some (.r0 _ _ x _)=>x
  | _=>0
def lM:Option jo→Int
  | some (.r0 _ _ _ x)=>x
  | _=>0
theorem ahM{x:Option jo}(h:mR x=true) :x=some (.r0 (lJ x) (lK x) (lL x) (lM x)):=by
  unfold mR at h
  split at h <;> first | rfl | (cases h;done) | (rename_i y;cases y;rfl)
def Tv:aL:=bJ Hz (.cons (.agg (.cons .bool (.cons (.ns .u64) (.cons (.int .i64) .nil)))) (.cons (.agg (.cons .bool (.cons (.ns .u64) (.cons (.int .i64) .nil)))) .nil)) fun t=>(fun q=>[⟨I8 (.r0 (lJ q) (lK q) (lL q) (lM q)),[mR q]⟩]) (bM t.1.1 t.1.2.1.2 t.1.2.2.1 t.2.1.1 t.2.1.2.1.2 t.2.1.2.2.1)
theorem YH:aV prog Tv:=aR fun t=>(aS (fun h=>ahL t.1.1 t.1.2.1.1 t.1.2.1.2 t.1.2.2.1 t.2.1.1 t.2.1.2.1.1 t.2.1.2.1.2 t.2.1.2.2.1 (ahM h)) aZ)
def Tw:List aL:=Tv :: LK
theorem nL:bd prog (bf Tw):=au YH wt
inductive d8 where
  | r0 (a:Bool) (b:List Int) (c:Nat) (d:Int)
def zl:d8→AE×aQ
  | .r0 a b c d=>(.ret,⟨ao 24 [(2,.ptr 0 1 0 0)],[(0,.vs [.bool false a,.imm .free (.ns .u64 b) 1 1 0 c,.int .i64 d])],1⟩)
theorem rJ:jC zl:=by intro x;cases x <;> (intro h;cases h)
theorem acM(id:Nat) :m5 id zl:=by intro x;cases x <;> (intro h;cases h)
def GA:d8→gX
  | .r0 a b c d=>⟨.agg [.bool false a,.imm .free (.ns .u64 b) 1 1 0 c,.int .i64 d],[]⟩
def acN:List Code:=cP (nO yM)
def acO(b:Lv)(a:List Nat) :Bool×Bool×(List Int)×Nat×Int→aQ:=fun (c,d,e,f,g)=>⟨ao 24 [(0,.imm b (.fl a) 1 1 0 (List.length a)),(2,.ptr 0 1 0 0),(3,.ptr 1 1 0 0)],[(0,.vs [.bool false c,.nsl,.int .i64 (0:Int)]),(1,.vs [.bool false d,.imm .free (.ns .u64 e) 1 1 0 f,.int .i64 g])],2⟩
def I9:T ((Bool×Bool×(List Int)×Nat×Int)⊕(d8)) :=
  .need (ew (aD (0:Int)))<|.leaf (.inl (false,(cu (aD (0:Int))),(ca (aD (0:Int))),(cd (aD (0:Int))),(cv (aD (0:Int)))))
def acP(b:Lv)(a:List Nat)(c:Bool)(d:Bool)(e:List Int)(f:Nat)(g:Int)(_:Unit) :aQ:=⟨ao 24 [(0,.imm b (.fl a) 1 1 0 (List.length a)),(2,.ptr 0 1 0 0),(3,.ptr 1 1 0 0),(4,.int .i64 (0:Int))],[(0,.vs [.bool false c,.nsl,.int .i64 (0:Int)]),(1,.vs [.bool false d,.imm .free (.ns .u64 e) 1 1 0 f,.int .i64 g])],2⟩
def YI:T ((Unit)⊕(d8)) :=
  .leaf (.inl ())
def D0(b:Lv)(a:List Nat)(c:Bool) :Nat×Bool×(List Int)×Nat×Int→aQ:=fun (d,e,f,g,h)=>⟨ao 24 [(0,.imm b (.fl a) 1 1 0 (List.length a)),(2,.ptr 0 1 0 0),(3,.ptr 1 1 0 0),(4,.int .i64 ((d:Nat):Int))],[(0,.vs [.bool false c,.nsl,.int .i64 (0:Int)]),(1,.vs [.bool false e,.imm .free (.ns .u64 f) 1 1 0 g,.int .i64 h])],2⟩
def LL(a:Bool) :Bool×(List Int)×Nat×Int→aQ:=fun (b,c,d,e)=>⟨ao 24 [(2,.ptr 0 1 0 0),(3,.ptr 1 1 0 0)],[(0,.vs [.bool false a,.nsl,.int .i64 (0:Int)]),(1,.vs [.bool false b,.imm .free (.ns .u64 c) 1 1 0 d,.int .i64 e])],2⟩
def YJ:List Code:=cP (dD (((((acN.drop 2).drop 1).take 1)).headD .skip))
def acQ(b:Lv)(a:List Nat)(c:Bool)(d:Nat) :Bool×(List Int)×Nat×Int→aQ:=fun (e,f,g,h)=>⟨ao 24 [(0,.imm b (.fl a) 1 1 0 (List.length a)),(2,.ptr 0 1 0 0),(3,.ptr 1 1 0 0),(4,.int .i64 ((d:Nat):Int))],[(0,.vs [.bool false c,.nsl,.int .i64 (0:Int)]),(1,.vs [.bool false e,.imm .free (.ns .u64 f) 1 1 0 g,.int .i64 h])],2⟩
def u5(a:List Nat)(b:Nat)(e:Bool)(c:List Int)(d:Nat)(f:Int) :T ((Bool×(List Int)×Nat×Int)⊕((Bool×(List Int)×Nat×Int)⊕(d8))) :=
  .ask (decide (((b:Nat):Int) < (((List.length a):Nat):Int)))
    (.need (gD ((b:Nat):Int) (List.length a))<|.need (im b (List.length a))<|.need (dO (aa (List.getD a b 0)))<|.need (aP 0 (ae (aa (List.getD a b 0))) (ac (aa (List.getD a b 0))))<|.need (aP 0 (ae (aa (List.getD a b 0))) (ac (aa (List.getD a b 0))))<|.need (cD (ai (ag (aa (List.getD a b 0))) (ab 0 (ae (aa (List.getD a b 0))) (ac (aa (List.getD a b 0)))) (ah (aa (List.getD a b 0))) (ag (aa (List.getD a b 0))) (ab 0 (ae (aa (List.getD a b 0))) (ac (aa (List.getD a b 0)))) (ah (aa (List.getD a b 0)))))<|.need (aP 0 d c)<|.need (aP 0 (aG (ai (ag (aa (List.getD a b 0))) (ab 0 (ae (aa (List.getD a b 0))) (ac (aa (List.getD a b 0)))) (ah (aa (List.getD a b 0))) (ag (aa (List.getD a b 0))) (ab 0 (ae (aa (List.getD a b 0))) (ac (aa (List.getD a b 0)))) (ah (aa (List.getD a b 0))))) (aF (ai (ag (aa (List.getD a b 0))) (ab 0 (ae (aa (List.getD a b 0))) (ac (aa (List.getD a b 0)))) (ah (aa (List.getD a b 0))) (ag (aa (List.getD a b 0))) (ab 0 (ae (aa (List.getD a b 0))) (ac (aa (List.getD a b 0)))) (ah (aa (List.getD a b 0))))))<|.need (mR (bM e (ab 0 d c) f (aN (ai (ag (aa (List.getD a b 0))) (ab 0 (ae (aa (List.getD a b 0))) (ac (aa (List.getD a b 0)))) (ah (aa (List.getD a b 0))) (ag (aa (List.getD a b 0))) (ab 0 (ae (aa (List.getD a b 0))) (ac (aa (List.getD a b 0)))) (ah (aa (List.getD a b 0))))) (ab 0 (aG (ai (ag (aa (List.getD a b 0))) (ab 0 (ae (aa (List.getD a b 0))) (ac (aa (List.getD a b 0)))) (ah (aa (List.getD a b 0))) (ag (aa (List.getD a b 0))) (ab 0 (ae (aa (List.getD a b 0))) (ac (aa (List.getD a b 0)))) (ah (aa (List.getD a b 0))))) (aF (ai (ag (aa (List.getD a b 0))) (ab 0 (ae (aa (List.getD a b 0))) (ac (aa (List.getD a b 0)))) (ah (aa (List.getD a b 0))) (ag (aa (List.getD a b 0))) (ab 0 (ae (aa (List.getD a b 0))) (ac (aa (List.getD a b 0)))) (ah (aa (List.getD a b 0)))))) (aO (ai (ag (aa (List.getD a b 0))) (ab 0 (ae (aa (List.getD a b 0))) (ac (aa (List.getD a b 0)))) (ah (aa (List.getD a b 0))) (ag (aa (List.getD a b 0))) (ab 0 (ae (aa (List.getD a b 0))) (ac (aa (List.getD a b 0)))) (ah (aa (List.getD a b 0)))))))<|.leaf (.inl ((lJ (bM e (ab 0 d c) f (aN (ai (ag (aa (List.getD a b 0))) (ab 0 (ae (aa (List.getD a b 0))) (ac (aa (List.getD a b 0)))) (ah (aa (List.getD a b 0))) (ag (aa (List.getD a b 0))) (ab 0 (ae (aa (List.getD a b 0))) (ac (aa (List.getD a b 0)))) (ah (aa (List.getD a b 0))))) (ab 0 (aG (ai (ag (aa (List.getD a b 0))) (ab 0 (ae (aa (List.getD a b 0))) (ac (aa (List.getD a b 0)))) (ah (aa (List.getD a b 0))) (ag (aa (List.getD a b 0))) (ab 0 (ae (aa (List.getD a b 0))) (ac (aa (List.getD a b 0)))) (ah (aa (List.getD a b 0))))) (aF (ai (ag (aa (List.getD a b 0))) (ab 0 (ae (aa (List.getD a b 0))) (ac (aa (List.getD a b 0)))) (ah (aa (List.getD a b 0))) (ag (aa (List.getD a b 0))) (ab 0 (ae (aa (List.getD a b 0))) (ac (aa (List.getD a b 0)))) (ah (aa (List.getD a b 0)))))) (aO (ai (ag (aa (List.getD a b 0))) (ab 0 (ae (aa (List.getD a b 0))) (ac (aa (List.getD a b 0)))) (ah (aa (List.getD a b 0))) (ag (aa (List.getD a b 0))) (ab 0 (ae (aa (List.getD a b 0))) (ac (aa (List.getD a b 0)))) (ah (aa (List.getD a b 0))))))),(lK (bM e (ab 0 d c) f (aN (ai (ag (aa (List.getD a b 0))) (ab 0 (ae (aa (List.getD a b 0))) (ac (aa (List.getD a b 0)))) (ah (aa (List.getD a b 0))) (ag (aa (List.getD a b 0))) (ab 0 (ae (aa (List.getD a b 0))) (ac (aa (List.getD a b 0)))) (ah (aa (List.getD a b 0))))) (ab 0 (aG (ai (ag (aa (List.getD a b 0))) (ab 0 (ae (aa (List.getD a b 0))) (ac (aa (List.getD a b 0)))) (ah (aa (List.getD a b 0))) (ag (aa (List.getD a b 0))) (ab 0 (ae (aa (List.getD a b 0))) (ac (aa (List.getD a b 0)))) (ah (aa (List.getD a b 0))))) (aF (ai (ag (aa (List.getD a b 0))) (ab 0 (ae (aa (List.getD a b 0))) (ac (aa (List.getD a b 0)))) (ah (aa (List.getD a b 0))) (ag (aa (List.getD a b 0))) (ab 0 (ae (aa (List.getD a b 0))) (ac (aa (List.getD a b 0)))) (ah (aa (List.getD a b 0)))))) (aO (ai (ag (aa (List.getD a b 0))) (ab 0 (ae (aa (List.getD a b 0))) (ac (aa (List.getD a b 0)))) (ah (aa (List.getD a b 0))) (ag (aa (List.getD a b 0))) (ab 0 (ae (aa (List.getD a b 0))) (ac (aa (List.getD a b 0)))) (ah (aa (List.getD a b 0))))))),(lL (bM e (ab 0 d c) f (aN (ai (ag (aa (List.getD a b 0))) (ab 0 (ae (aa (List.getD a b 0))) (ac (aa (List.getD a b 0)))) (ah (aa (List.getD a b 0))) (ag (aa (List.getD a b 0))) (ab 0 (ae (aa (List.getD a b 0))) (ac (aa (List.getD a b 0)))) (ah (aa (List.getD a b 0))))) (ab 0 (aG (ai (ag (aa (List.getD a b 0))) (ab 0 (ae (aa (List.getD a b 0))) (ac (aa (List.getD a b 0)))) (ah (aa (List.getD a b 0))) (ag (aa (List.getD a b 0))) (ab 0 (ae (aa (List.getD a b 0))) (ac (aa (List.getD a b 0)))) (ah (aa (List.getD a b 0))))) (aF (ai (ag (aa (List.getD a b 0))) (ab 0 (ae (aa (List.getD a b 0))) (ac (aa (List.getD a b 0)))) (ah (aa (List.getD a b 0))) (ag (aa (List.getD a b 0))) (ab 0 (ae (aa (List.getD a b 0))) (ac (aa (List.getD a b 0)))) (ah (aa (List.getD a b 0)))))) (aO (ai (ag (aa (List.getD a b 0))) (ab 0 (ae (aa (List.getD a b 0))) (ac (aa (List.getD a b 0)))) (ah (aa (List.getD a b 0))) (ag (aa (List.getD a b 0))) (ab 0 (ae (aa (List.getD a b 0))) (ac (aa (List.getD a b 0)))) (ah (aa (List.getD a b 0))))))),(lM (bM e (ab 0 d c) f (aN (ai (ag (aa (List.getD a b 0))) (ab 0 (ae (aa (List.getD a b 0))) (ac (aa (List.getD a b 0)))) (ah (aa (List.getD a b 0))) (ag (aa (List.getD a b 0))) (ab 0 (ae (aa (List.getD a b 0))) (ac (aa (List.getD a b 0)))) (ah (aa (List.getD a b 0))))) (ab 0 (aG (ai (ag (aa (List.getD a b 0))) (ab 0 (ae (aa (List.getD a b 0))) (ac (aa (List.getD a b 0)))) (ah (aa (List.getD a b 0))) (ag (aa (List.getD a b 0))) (ab 0 (ae (aa (List.getD a b 0))) (ac (aa (List.getD a b 0)))) (ah (aa (List.getD a b 0))))) (aF (ai (ag (aa (List.getD a b 0))) (ab 0 (ae (aa (List.getD a b 0))) (ac (aa (List.getD a b 0)))) (ah (aa (List.getD a b 0))) (ag (aa (List.getD a b 0))) (ab 0 (ae (aa (List.getD a b 0))) (ac (aa (List.getD a b 0)))) (ah (aa (List.getD a b 0)))))) (aO (ai (ag (aa (List.getD a b 0))) (ab 0 (ae (aa (List.getD a b 0))) (ac (aa (List.getD a b 0)))) (ah (aa (List.getD a b 0))) (ag (aa (List.getD a b 0))) (ab 0 (ae (aa (List.getD a b 0))) (ac (aa (List.getD a b 0)))) (ah (aa (List.getD a b 0))))))))))
    (.leaf (.inr (.inl (e,c,d,f))))
def YK(a:Nat)(b:Bool)(c:List Int)(d:Nat)(e:Int) :T ((Nat×Bool×(List Int)×Nat×Int)⊕((Bool×(List Int)×Nat×Int)⊕(d8))) :=
  .need (dn .i64 (((a+1):Nat):Int))<|.leaf (.inl ((a+1),b,c,d,e))
def AS(b:List Nat) :Nat×Bool×(List Int)×Nat×Int→Option ((Nat×Bool×(List Int)×Nat×Int)⊕((Bool×(List Int)×Nat×Int)⊕(d8))):=fun (a,c,d,e,f) =>
  aE ((u5 b a c d e f).run) fun (g,h,i,j) =>
  (YK a g h i j).run
theorem YL(c:Lv)(a:List Nat)(b:Bool)(d:Nat)(e:Bool)(f:List Int)(g:Nat)(h:Int) :Sg prog [] YJ (D0 c a b (d,e,f,g,h)) (AS a (d,e,f,g,h)) (D0 c a b) (cL 0 (LL b) zl):=by
  unfold AS;exact Sg.cut 3 (ay rJ) (bk nL (acQ c a b d) [⟨[],[0,1],[0,2,3,4]⟩,⟨[],[0,1],[2,3]⟩]) (fun ⟨i,j,k,l⟩=>bk nL _ [⟨[],[0,1],[0,2,3,4]⟩])
def YM(a:Bool)(b:List Int)(c:Nat)(d:Int) :T ((Empty)⊕(d8)) :=
  .leaf (.inr (.r0 a b c d))
def ba(a:List Nat) :Option d8:=jR (aE ((I9).run) fun (j,b,c,d,e) =>
  aE ((YI).run) fun _ =>
  aE (dc (AS a) (0,b,c,d,e)) fun (f,g,h,i) =>
  (YM f g h i).run)
theorem acR(b:Lv)(a:List Nat){x:d8}(h:ba a=some x) :aw prog yM [] [.imm b (.fl a) 1 1 0 (List.length a)] (GA x) :=
  kp true GA zl h (Sg.cut 2 rJ (bk nL (acO b a) [⟨[],[0,32],[0,2,3]⟩]) (fun ⟨c,d,e,f,g⟩=>Sg.cut 1 rJ (bk nL (acP b a c d e f g) [⟨[],[0,1],[0,2,3,4]⟩]) (fun _=>Sg.cut 1 rJ (BM ⟨[],[0,1],[0,2,3,4]⟩ (D0 b a c) (LL c) 0 rJ (acM _) (fun ⟨i,j,k,l,m⟩=>YL b a c i j k l m)) (fun ⟨r,s,t,u⟩=>bk nL _ [⟨[],[0],[2]⟩]))))
    (fun x=>by cases x with | r0 n o p q=>exact jT [.agg [.bool false n,.imm .free (.ns .u64 o) 1 1 0 p,.int .i64 q]])
def rK:Option d8→Bool
  | some _=>true
  | none=>false
def dk:Option d8→Bool
  | some (.r0 x _ _ _)=>x
  | _=>false
def da:Option d8→List Int
  | some (.r0 _ x _ _)=>x
  | _=>[]
def db:Option d8→Nat
  | some (.r0 _ _ x _)=>x
  | _=>0
def dl:Option d8→Int
  | some (.r0 _ _ _ x)=>x
  | _=>0
theorem acS{x:Option d8}(h:rK x=true) :x=some (.r0 (dk x) (da x) (db x) (dl x)):=by
  unfold rK at h
  split at h <;> first | rfl | (cases h;done) | (rename_i y;cases y;rfl)
def P4:aL:=bJ yM (.cons .fl .nil) fun t=>(fun q=>[⟨GA (.r0 (dk q) (da q) (db q) (dl q)),[rK q]⟩]) (ba t.1.2)
theorem Uv:aV prog P4:=aR fun t=>(aS (fun h=>acR t.1.1 t.1.2 (acS h)) aZ)
def P5:List aL:=P4 :: Tw
theorem G6:bd prog (bf P5):=au Uv nL
inductive jb where
  | r0 (a:Bool) (b:List Int) (c:Nat) (d:Int)
def ahN(a:Lv) :jb→AE×aQ
  | .r0 b c d e=>(.ret,⟨ao 8 [(2,.ptr 0 1 0 0)],[(0,.vs [.bool false b,.imm a (.ns .u64 c) 1 1 0 d,.int .i64 e])],1⟩)
def GB(a:Lv) :jb→gX
  | .r0 b c d e=>⟨.agg [.bool false b,.imm a (.ns .u64 c) 1 1 0 d,.int .i64 e],[]⟩
def LM(b:Bool)(a:List Int)(c:Int) :T ((Empty)⊕(jb)) :=
  .leaf (.inr (.r0 (!b) a (List.length a) c))
def bK(a:Bool)(b:List Int)(c:Int) :Option jb:=jR ((LM a b c).run)
theorem acT(c:Bool)(a:Lv)(b:List Int)(d:Int){x:jb}(h:bK c b d=some x) :aw prog E7 [] [.agg [.bool false c,.imm a (.ns .u64 b) 1 1 0 (List.length b),.int .i64 d]] (GB a x) :=
  kp true (GB a) (ahN a) h (bk G6 _ [⟨[],[16],[2]⟩])
    (fun x=>by cases x with | r0 e f g i=>exact jT [.agg [.bool false e,.imm a (.ns .u64 f) 1 1 0 g,.int .i64 i]])
def rL:Option jb→Bool
  | some _=>true
  | none=>false
def ij:Option jb→Bool
  | some (.r0 x _ _ _)=>x
  | _=>false
def fS:Option jb→List Int
  | some (.r0 _ x _ _)=>x
  | _=>[]
def fT:Option jb→Nat
  | some (.r0 _ _ x _)=>x
  | _=>0
def ik:Option jb→Int
  | some (.r0 _ _ _ x)=>x
  | _=>0
theorem acU{x:Option jb}(h:rL x=true) :x=some (.r0 (ij x) (fS x) (fT x) (ik x)):=by
  unfold rL at h
  split at h <;> first | rfl | (cases h;done) | (rename_i y;cases y;rfl)
def P6:aL:=bJ E7 (.cons (.agg (.cons .bool (.cons (.ns .u64) (.cons (.int .i64) .nil)))) .nil) fun t=>(fun q=>[⟨GB t.1.2.1.1 (.r0 (ij q) (fS q) (fT q) (ik q)),[rL q]⟩]) (bK t.1.1 t.1.2.1.2 t.1.2.2.1)
theorem Uw:aV prog P6:=aR fun t=>(aS (fun h=>acT t.1.1 t.1.2.1.1 t.1.2.1.2 t.1.2.2.1 (acU h)) aZ)
def P7:List aL:=P6 :: P5
theorem yA:bd prog (bf P7):=au Uw G6
inductive iF where
  | r0 (a:Nat) (b:Bool) (c:List Int) (d:Nat) (e:Int)
def Tx:iF→AE×aQ
  | .r0 a b c d e=>(.ret,⟨ao 12 [(4,.ptr 0 1 0 0),(5,.int .i64 ((a:Nat):Int))],[(0,.vs [.bool false b,.imm .free (.ns .u64 c) 1 1 0 d,.int .i64 e])],1⟩)
theorem ahO:jC Tx:=by intro x;cases x <;> (intro h;cases h)
def Ja:iF→gX
  | .r0 a b c d e=>⟨.tup [.agg [.bool false b,.imm .free (.ns .u64 c) 1 1 0 d,.int .i64 e],.int .i64 ((a:Nat):Int)],[]⟩
def ahP:Nat×Bool×(List Int)×Nat×Int→aQ:=fun (a,b,c,d,e)=>⟨ao 12 [(4,.ptr 0 1 0 0),(5,.int .i64 ((a:Nat):Int))],[(0,.vs [.bool false b,.imm .free (.ns .u64 c) 1 1 0 d,.int .i64 e])],1⟩
def P8(e:Bool)(d:List Int)(f:Int)(b:Bool)(a:List Int)(c:Int) :T ((Nat×Bool×(List Int)×Nat×Int)⊕(iF)) :=
  .need (aP 0 (List.length a) a)<|.need (rL (bK b (ab 0 (List.length a) a) c))<|.need (aP 0 (List.length d) d)<|.need (aP 0 (fT (bK b (ab 0 (List.length a) a) c)) (fS (bK b (ab 0 (List.length a) a) c)))<|.need (uC (gA e (ab 0 (List.length d) d) f (ij (bK b (ab 0 (List.length a) a) c)) (ab 0 (fT (bK b (ab 0 (List.length a) a) c)) (fS (bK b (ab 0 (List.length a) a) c))) (ik (bK b (ab 0 (List.length a) a) c))))<|.leaf (.inl ((Ae (gA e (ab 0 (List.length d) d) f (ij (bK b (ab 0 (List.length a) a) c)) (ab 0 (fT (bK b (ab 0 (List.length a) a) c)) (fS (bK b (ab 0 (List.length a) a) c))) (ik (bK b (ab 0 (List.length a) a) c)))),(uD (gA e (ab 0 (List.length d) d) f (ij (bK b (ab 0 (List.length a) a) c)) (ab 0 (fT (bK b (ab 0 (List.length a) a) c)) (fS (bK b (ab 0 (List.length a) a) c))) (ik (bK b (ab 0 (List.length a) a) c)))),(uE (gA e (ab 0 (List.length d) d) f (ij (bK b (ab 0 (List.length a) a) c)) (ab 0 (fT (bK b (ab 0 (List.length a) a) c)) (fS (bK b (ab 0 (List.length a) a) c))) (ik (bK b (ab 0 (List.length a) a) c)))),(uF (gA e (ab 0 (List.length d) d) f (ij (bK b (ab 0 (List.length a) a) c)) (ab 0 (fT (bK b (ab 0 (List.length a) a) c)) (fS (bK b (ab 0 (List.length a) a) c))) (ik (bK b (ab 0 (List.length a) a) c)))),(uG (gA e (ab 0 (List.length d) d) f (ij (bK b (ab 0 (List.length a) a) c)) (ab 0 (fT (bK b (ab 0 (List.length a) a) c)) (fS (bK b (ab 0 (List.length a) a) c))) (ik (bK b (ab 0 (List.length a) a) c))))))
def ahQ(a:Nat)(b:Bool)(c:List Int)(d:Nat)(e:Int) :T ((Empty)⊕(iF)) :=
  .leaf (.inr (.r0 a b c d e))
def nW(a:Bool)(b:List Int)(c:Int)(d:Bool)(e:List Int)(f:Int) :Option iF:=jR (aE ((P8 a b c d e f).run) fun (g,h,i,j,k) =>
  (ahQ g h i j k).run)
theorem ahR(c:Bool)(g:Lv)(a:List Int)(d:Int)(e:Bool)(i:Lv)(b:List Int)(f:Int){x:iF}(h:nW c a d e b f=some x) :aw prog HD [] [.agg [.bool false c,.imm g (.ns .u64 a) 1 1 0 (List.length a),.int .i64 d],.agg [.bool false e,.imm i (.ns .u64 b) 1 1 0 (List.length b),.int .i64 f]] (Ja x) :=
  kp true Ja Tx h (Sg.cut 2 ahO (bk yA ahP [⟨[],[32],[4,5]⟩]) (fun ⟨o,p,q,r,s⟩=>bk yA _ [⟨[],[0],[4,5]⟩]))
    (fun x=>by cases x with | r0 j k l m n=>exact jT [.agg [.bool false k,.imm .free (.ns .u64 l) 1 1 0 m,.int .i64 n],.int .i64 ((j:Nat):Int)])
def zm:Option iF→Bool
  | some _=>true
  | none=>false
def Jb:Option iF→Nat
  | some (.r0 x _ _ _ _)=>x
  | _=>0
def AT:Option iF→Bool
  | some (.r0 _ x _ _ _)=>x
  | _=>false
def AU:Option iF→List Int
  | some (.r0 _ _ x _ _)=>x
  | _=>[]
def AW:Option iF→Nat
  | some (.r0 _ _ _ x _)=>x
  | _=>0
def AX:Option iF→Int
  | some (.r0 _ _ _ _ x)=>x
  | _=>0
theorem ahS{x:Option iF}(h:zm x=true) :x=some (.r0 (Jb x) (AT x) (AU x) (AW x) (AX x)):=by
  unfold zm at h
  split at h <;> first | rfl | (cases h;done) | (rename_i y;cases y;rfl)
def Tz:aL:=bJ HD (.cons (.agg (.cons .bool (.cons (.ns .u64) (.cons (.int .i64) .nil)))) (.cons (.agg (.cons .bool (.cons (.ns .u64) (.cons (.int .i64) .nil)))) .nil)) fun t=>(fun q=>[⟨Ja (.r0 (Jb q) (AT q) (AU q) (AW q) (AX q)),[zm q]⟩]) (nW t.1.1 t.1.2.1.2 t.1.2.2.1 t.2.1.1 t.2.1.2.1.2 t.2.1.2.2.1)
theorem YN:aV prog Tz:=aR fun t=>(aS (fun h=>ahR t.1.1 t.1.2.1.1 t.1.2.1.2 t.1.2.2.1 t.2.1.1 t.2.1.2.1.1 t.2.1.2.1.2 t.2.1.2.2.1 (ahS h)) aZ)
def TA:List aL:=Tz :: P7
theorem AY:bd prog (bf TA):=au YN yA
inductive il where
  | r0 (a:Bool) (b:List Int) (c:Nat) (d:Int)
def P9:il→AE×aQ
  | .r0 a b c d=>(.ret,⟨ao 14 [(4,.ptr 0 1 0 0)],[(0,.vs [.bool false a,.imm .free (.ns .u64 b) 1 1 0 c,.int .i64 d])],1⟩)
theorem acV:jC P9:=by intro x;cases x <;> (intro h;cases h)
def GC:il→gX
  | .r0 a b c d=>⟨.agg [.bool false a,.imm .free (.ns .u64 b) 1 1 0 c,.int .i64 d],[]⟩
def acW:Bool×Bool×(List Int)×Nat×Int→aQ:=fun (a,b,c,d,e)=>⟨ao 14 [(4,.ptr 0 1 0 0),(5,.ptr 1 1 0 0)],[(0,.vs [.bool false a,.nsl,.int .i64 (0:Int)]),(1,.vs [.bool false b,.imm .free (.ns .u64 c) 1 1 0 d,.int .i64 e])],2⟩
def LN(c:Bool)(a:List Int)(d:Int)(e:Bool)(b:List Int)(f:Int) :T ((Bool×Bool×(List Int)×Nat×Int)⊕(il)) :=
  .need (aP 0 (List.length a) a)<|.need (aP 0 (List.length b) b)<|.need (zm (nW c (ab 0 (List.length a) a) d e (ab 0 (List.length b) b) f))<|.leaf (.inl (false,(AT (nW c (ab 0 (List.length a) a) d e (ab 0 (List.length b) b) f)),(AU (nW c (ab 0 (List.length a) a) d e (ab 0 (List.length b) b) f)),(AW (nW c (ab 0 (List.length a) a) d e (ab 0 (List.length b) b) f)),(AX (nW c (ab 0 (List.length a) a) d e (ab 0 (List.length b) b) f))))
def acX(a:Bool)(b:List Int)(c:Nat)(d:Int) :T ((Empty)⊕(il)) :=
  .leaf (.inr (.r0 a b c d))
def fh(a:Bool)(b:List Int)(c:Int)(d:Bool)(e:List Int)(f:Int) :Option il:=jR (aE ((LN a b c d e f).run) fun (k,g,h,i,j) =>
  (acX g h i j).run)
theorem acY(c:Bool)(g:Lv)(a:List Int)(d:Int)(e:Bool)(i:Lv)(b:List Int)(f:Int){x:il}(h:fh c a d e b f=some x) :aw prog EW [] [.agg [.bool false c,.imm g (.ns .u64 a) 1 1 0 (List.length a),.int .i64 d],.agg [.bool false e,.imm i (.ns .u64 b) 1 1 0 (List.length b),.int .i64 f]] (GC x) :=
  kp true GC P9 h (Sg.cut 2 acV (bk AY acW [⟨[],[32,144],[4,5]⟩]) (fun ⟨n,o,p,q,r⟩=>bk AY _ [⟨[],[0],[4]⟩]))
    (fun x=>by cases x with | r0 j k l m=>exact jT [.agg [.bool false j,.imm .free (.ns .u64 k) 1 1 0 l,.int .i64 m]])
def rM:Option il→Bool
  | some _=>true
  | none=>false
def sD:Option il→Bool
  | some (.r0 x _ _ _)=>x
  | _=>false
def sE:Option il→List Int
  | some (.r0 _ x _ _)=>x
  | _=>[]
def sF:Option il→Nat
  | some (.r0 _ _ x _)=>x
  | _=>0
def sG:Option il→Int
  | some (.r0 _ _ _ x)=>x
  | _=>0
theorem acZ{x:Option il}(h:rM x=true) :x=some (.r0 (sD x) (sE x) (sF x) (sG x)):=by
  unfold rM at h
  split at h <;> first | rfl | (cases h;done) | (rename_i y;cases y;rfl)
def Qa:aL:=bJ EW (.cons (.agg (.cons .bool (.cons (.ns .u64) (.cons (.int .i64) .nil)))) (.cons (.agg (.cons .bool (.cons (.ns .u64) (.cons (.int .i64) .nil)))) .nil)) fun t=>(fun q=>[⟨GC (.r0 (sD q) (sE q) (sF q) (sG q)),[rM q]⟩]) (fh t.1.1 t.1.2.1.2 t.1.2.2.1 t.2.1.1 t.2.1.2.1.2 t.2.1.2.2.1)
theorem Ux:aV prog Qa:=aR fun t=>(aS (fun h=>acY t.1.1 t.1.2.1.1 t.1.2.1.2 t.1.2.2.1 t.2.1.1 t.2.1.2.1.1 t.2.1.2.1.2 t.2.1.2.2.1 (acZ h)) aZ)
def Qb:List aL:=Qa :: TA
theorem cS:bd prog (bf Qb):=au Ux AY
inductive bU where
  | r0 (a:Bool) (b:List Int) (c:Nat) (d:Int)
def qs:bU→AE×aQ
  | .r0 a b c d=>(.ret,⟨ao 65 [(2,.ptr 0 1 0 0)],[(0,.vs [.bool false a,.imm .free (.ns .u64 b) 1 1 0 c,.int .i64 d])],1⟩)
theorem cU:jC qs:=by intro x;cases x <;> (intro h;cases h)
theorem rN(id:Nat) :m5 id qs:=by intro x;cases x <;> (intro h;cases h)
def GD:bU→gX
  | .r0 a b c d=>⟨.agg [.bool false a,.imm .free (.ns .u64 b) 1 1 0 c,.int .i64 d],[]⟩
def YO:List Code:=cP (nO yN)
def ac0(b:Int)(c:Int)(d:Lv)(a:List Nat) :Bool×Bool×(List Int)×Nat×Int→aQ:=fun (e,f,g,h,i)=>⟨ao 65 [(1,.ptr 0 1 0 0),(2,.ptr 1 1 0 0),(3,.ptr 2 1 0 0)],[(0,.vs [.int .i64 b,.int .i64 c,.imm d (.fl a) 1 1 0 (List.length a)]),(1,.vs [.bool false e,.nsl,.int .i64 (0:Int)]),(2,.vs [.bool false f,.imm .free (.ns .u64 g) 1 1 0 h,.int .i64 i])],3⟩
def Jc:T ((Bool×Bool×(List Int)×Nat×Int)⊕(bU)) :=
  .need (ew (aD (0:Int)))<|.leaf (.inl (false,(cu (aD (0:Int))),(ca (aD (0:Int))),(cd (aD (0:Int))),(cv (aD (0:Int)))))
def ac1(b:Int)(c:Int)(d:Lv)(a:List Nat)(e:Bool)(f:Bool)(g:List Int)(h:Nat)(i:Int)(_:Unit) :aQ:=⟨ao 65 [(1,.ptr 0 1 0 0),(2,.ptr 1 1 0 0),(3,.ptr 2 1 0 0),(4,.int .i64 (0:Int))],[(0,.vs [.int .i64 b,.int .i64 c,.imm d (.fl a) 1 1 0 (List.length a)]),(1,.vs [.bool false e,.nsl,.int .i64 (0:Int)]),(2,.vs [.bool false f,.imm .free (.ns .u64 g) 1 1 0 h,.int .i64 i])],3⟩
def YP:T ((Unit)⊕(bU)) :=
  .leaf (.inl ())
def AZ(b:Int)(c:Int)(d:Lv)(a:List Nat)(e:Bool) :Nat×Bool×(List Int)×Nat×Int→aQ:=fun (f,g,h,i,j)=>⟨ao 65 [(1,.ptr 0 1 0 0),(2,.ptr 1 1 0 0),(3,.ptr 2 1 0 0),(4,.int .i64 ((f:Nat):Int))],[(0,.vs [.int .i64 b,.int .i64 c,.imm d (.fl a) 1 1 0 (List.length a)]),(1,.vs [.bool false e,.nsl,.int .i64 (0:Int)]),(2,.vs [.bool false g,.imm .free (.ns .u64 h) 1 1 0 i,.int .i64 j])],3⟩
def u6(a:Bool) :Bool×(List Int)×Nat×Int→aQ:=fun (b,c,d,e)=>⟨ao 65 [(2,.ptr 0 1 0 0),(3,.ptr 1 1 0 0)],[(0,.vs [.bool false a,.nsl,.int .i64 (0:Int)]),(1,.vs [.bool false b,.imm .free (.ns .u64 c) 1 1 0 d,.int .i64 e])],2⟩
def Jd:List Code:=cP (dD (((((YO.drop 2).drop 1).take 1)).headD .skip))
def YQ(b:Int)(c:Int)(d:Lv)(a:List Nat)(e:Bool)(f:Nat)(g:Bool)(h:List Int)(i:Nat)(j:Int)(_:Unit) :aQ:=⟨ao 65 [(1,.ptr 0 1 0 0),(2,.ptr 1 1 0 0),(3,.ptr 2 1 0 0),(4,.int .i64 ((f:Nat):Int))],[(0,.vs [.int .i64 b,.int .i64 c,.imm d (.fl a) 1 1 0 (List.length a)]),(1,.vs [.bool false e,.nsl,.int .i64 (0:Int)]),(2,.vs [.bool false g,.imm .free (.ns .u64 h) 1 1 0 i,.int .i64 j])],3⟩
def A0(a:Int)(b:Nat)(c:Bool)(d:List Int)(e:Nat)(f:Int) :T ((Unit)⊕((Bool×(List Int)×Nat×Int)⊕(bU))) :=
  .ask (decide (((b:Nat):Int) < a))
    (.leaf (.inl ()))
    (.leaf (.inr (.inl (c,d,e,f))))
def A1(b:Int)(c:Int)(d:Lv)(a:List Nat)(e:Bool)(f:Nat) :Bool×(List Int)×Nat×Int→aQ:=fun (g,h,i,j)=>⟨ao 65 [(1,.ptr 0 1 0 0),(2,.ptr 1 1 0 0),(3,.ptr 2 1 0 0),(4,.int .i64 ((f:Nat):Int))],[(0,.vs [.int .i64 b,.int .i64 c,.imm d (.fl a) 1 1 0 (List.length a)]),(1,.vs [.bool false e,.nsl,.int .i64 (0:Int)]),(2,.vs [.bool false g,.imm .free (.ns .u64 h) 1 1 0 i,.int .i64 j])],3⟩
def YR:List Code:=cP (inBlock ((((Jd.drop 2).take 1)).headD .skip))
def YS(b:Int)(c:Int)(d:Lv)(a:List Nat)(e:Bool)(f:Nat)(g:Bool)(h:List Int)(i:Nat)(j:Int)(_:Unit) :aQ:=⟨ao 65 [(1,.ptr 0 1 0 0),(2,.ptr 1 1 0 0),(3,.ptr 2 1 0 0),(4,.int .i64 ((f:Nat):Int)),(5,.int .i64 (0:Int))],[(0,.vs [.int .i64 b,.int .i64 c,.imm d (.fl a) 1 1 0 (List.length a)]),(1,.vs [.bool false e,.nsl,.int .i64 (0:Int)]),(2,.vs [.bool false g,.imm .free (.ns .u64 h) 1 1 0 i,.int .i64 j])],3⟩
def YT:T ((Unit)⊕((Bool×(List Int)×Nat×Int)⊕((Bool×(List Int)×Nat×Int)⊕(bU)))) :=
  .leaf (.inl ())
def A2(b:Int)(c:Int)(d:Lv)(a:List Nat)(e:Bool)(f:Nat) :Nat×Bool×(List Int)×Nat×Int→aQ:=fun (g,h,i,j,k)=>⟨ao 65 [(1,.ptr 0 1 0 0),(2,.ptr 1 1 0 0),(3,.ptr 2 1 0 0),(4,.int .i64 ((f:Nat):Int)),(5,.int .i64 ((g:Nat):Int))],[(0,.vs [.int .i64 b,.int .i64 c,.imm d (.fl a) 1 1 0 (List.length a)]),(1,.vs [.bool false e,.nsl,.int .i64 (0:Int)]),(2,.vs [.bool false h,.imm .free (.ns .u64 i) 1 1 0 j,.int .i64 k])],3⟩
def A3(b:Int)(c:Int)(d:Lv)(a:List Nat)(e:Bool)(f:Nat) :Bool×(List Int)×Nat×Int→aQ:=fun (g,h,i,j)=>⟨ao 65 [(1,.ptr 0 1 0 0),(2,.ptr 1 1 0 0),(3,.ptr 2 1 0 0),(4,.int .i64 ((f:Nat):Int))],[(0,.vs [.int .i64 b,.int .i64 c,.imm d (.fl a) 1 1 0 (List.length a)]),(1,.vs [.bool false e,.nsl,.int .i64 (0:Int)]),(2,.vs [.bool false g,.imm .free (.ns .u64 h) 1 1 0 i,.int .i64 j])],3⟩
def Je:List Code:=cP (dD ((((YR.drop 1).take 1)).headD .skip))
def YU(b:Int)(c:Int)(d:Lv)(a:List Nat)(e:Bool)(f:Nat)(g:Nat)(h:Bool)(i:List Int)(j:Nat)(k:Int)(_:Unit) :aQ:=⟨ao 65 [(1,.ptr 0 1 0 0),(2,.ptr 1 1 0 0),(3,.ptr 2 1 0 0),(4,.int .i64 ((f:Nat):Int)),(5,.int .i64 ((g:Nat):Int))],[(0,.vs [.int .i64 b,.int .i64 c,.imm d (.fl a) 1 1 0 (List.length a)]),(1,.vs [.bool false e,.nsl,.int .i64 (0:Int)]),(2,.vs [.bool false h,.imm .free (.ns .u64 i) 1 1 0 j,.int .i64 k])],3⟩
def A4(a:Int)(b:Nat)(c:Bool)(d:List Int)(e:Nat)(f:Int) :T ((Unit)⊕((Bool×(List Int)×Nat×Int)⊕((Bool×(List Int)×Nat×Int)⊕((Bool×(List Int)×Nat×Int)⊕(bU))))) :=
  .ask (decide (((b:Nat):Int) < a))
    (.leaf (.inl ()))
    (.leaf (.inr (.inl (c,d,e,f))))
def Jf(b:Int)(c:Int)(d:Lv)(a:List Nat)(e:Bool)(f:Nat)(g:Nat) :Bool×(List Int)×Nat×Int→aQ:=fun (h,i,j,k)=>⟨ao 65 [(1,.ptr 0 1 0 0),(2,.ptr 1 1 0 0),(3,.ptr 2 1 0 0),(4,.int .i64 ((f:Nat):Int)),(5,.int .i64 ((g:Nat):Int))],[(0,.vs [.int .i64 b,.int .i64 c,.imm d (.fl a) 1 1 0 (List.length a)]),(1,.vs [.bool false e,.nsl,.int .i64 (0:Int)]),(2,.vs [.bool false h,.imm .free (.ns .u64 i) 1 1 0 j,.int .i64 k])],3⟩
def YV:List Code:=cP (inBlock ((((Je.drop 2).take 1)).headD .skip))
def YW(b:Int)(c:Int)(d:Lv)(a:List Nat)(e:Bool)(f:Nat)(g:Nat)(h:Bool)(i:List Int)(j:Nat)(k:Int) :Bool×(List Int)×Nat×Int→aQ:=fun (l,m,n,o)=>⟨ao 65 [(1,.ptr 0 1 0 0),(2,.ptr 1 1 0 0),(3,.ptr 2 1 0 0),(4,.int .i64 ((f:Nat):Int)),(5,.int .i64 ((g:Nat):Int)),(6,.ptr 3 1 0 0)],[(0,.vs [.int .i64 b,.int .i64 c,.imm d (.fl a) 1 1 0 (List.length a)]),(1,.vs [.bool false e,.nsl,.int .i64 (0:Int)]),(2,.vs [.bool false h,.imm .free (.ns .u64 i) 1 1 0 j,.int .i64 k]),(3,.vs [.bool false l,.imm .free (.ns .u64 m) 1 1 0 n,.int .i64 o])],4⟩
def Jg:T ((Bool×(List Int)×Nat×Int)⊕((Bool×(List Int)×Nat×Int)⊕((Bool×(List Int)×Nat×Int)⊕((Bool×(List Int)×Nat×Int)⊕((Bool×(List Int)×Nat×Int)⊕(bU)))))) :=
  .need (ew (aD (0:Int)))<|.leaf (.inl ((cu (aD (0:Int))),(ca (aD (0:Int))),(cd (aD (0:Int))),(cv (aD (0:Int)))))
def YX(b:Int)(c:Int)(d:Lv)(a:List Nat)(e:Bool)(f:Nat)(g:Nat)(h:Bool)(i:List Int)(j:Nat)(k:Int)(l:Bool)(m:List Int)(n:Nat)(o:Int)(_:Unit) :aQ:=⟨ao 65 [(1,.ptr 0 1 0 0),(2,.ptr 1 1 0 0),(3,.ptr 2 1 0 0),(4,.int .i64 ((f:Nat):Int)),(5,.int .i64 ((g:Nat):Int)),(6,.ptr 3 1 0 0),(7,.int .i64 (0:Int))],[(0,.vs [.int .i64 b,.int .i64 c,.imm d (.fl a) 1 1 0 (List.length a)]),(1,.vs [.bool false e,.nsl,.int .i64 (0:Int)]),(2,.vs [.bool false h,.imm .free (.ns .u64 i) 1 1 0 j,.int .i64 k]),(3,.vs [.bool false l,.imm .free (.ns .u64 m) 1 1 0 n,.int .i64 o])],4⟩
def YY:T ((Unit)⊕((Bool×(List Int)×Nat×Int)⊕((Bool×(List Int)×Nat×Int)⊕((Bool×(List Int)×Nat×Int)⊕((Bool×(List Int)×Nat×Int)⊕(bU)))))) :=
  .leaf (.inl ())
def A5(b:Int)(c:Int)(d:Lv)(a:List Nat)(e:Bool)(f:Nat)(g:Nat)(h:Bool)(i:List Int)(j:Nat)(k:Int) :Nat×Bool×(List Int)×Nat×Int→aQ:=fun (l,m,n,o,p)=>⟨ao 65 [(1,.ptr 0 1 0 0),(2,.ptr 1 1 0 0),(3,.ptr 2 1 0 0),(4,.int .i64 ((f:Nat):Int)),(5,.int .i64 ((g:Nat):Int)),(6,.ptr 3 1 0 0),(7,.int .i64 ((l:Nat):Int))],[(0,.vs [.int .i64 b,.int .i64 c,.imm d (.fl a) 1 1 0 (List.length a)]),(1,.vs [.bool false e,.nsl,.int .i64 (0:Int)]),(2,.vs [.bool false h,.imm .free (.ns .u64 i) 1 1 0 j,.int .i64 k]),(3,.vs [.bool false m,.imm .free (.ns .u64 n) 1 1 0 o,.int .i64 p])],4⟩
def Jh(b:Int)(c:Int)(d:Lv)(a:List Nat)(e:Bool)(f:Nat)(g:Nat)(h:Bool)(i:List Int)(j:Nat)(k:Int) :Bool×(List Int)×Nat×Int→aQ:=fun (l,m,n,o)=>⟨ao 65 [(1,.ptr 0 1 0 0),(2,.ptr 1 1 0 0),(3,.ptr 2 1 0 0),(4,.int .i64 ((f:Nat):Int)),(5,.int .i64 ((g:Nat):Int)),(6,.ptr 3 1 0 0)],[(0,.vs [.int .i64 b,.int .i64 c,.imm d (.fl a) 1 1 0 (List.length a)]),(1,.vs [.bool false e,.nsl,.int .i64 (0:Int)]),(2,.vs [.bool false h,.imm .free (.ns .u64 i) 1 1 0 j,.int .i64 k]),(3,.vs [.bool false l,.imm .free (.ns .u64 m) 1 1 0 n,.int .i64 o])],4⟩
def YZ:List Code:=cP (dD (((((YV.drop 1).drop 1).take 1)).headD .skip))
def Y0(b:Int)(c:Int)(d:Lv)(a:List Nat)(e:Bool)(f:Nat)(g:Nat)(h:Bool)(i:List Int)(j:Nat)(k:Int)(l:Nat) :Bool×(List Int)×Nat×Int→aQ:=fun (m,n,o,p)=>⟨ao 65 [(1,.ptr 0 1 0 0),(2,.ptr 1 1 0 0),(3,.ptr 2 1 0 0),(4,.int .i64 ((f:Nat):Int)),(5,.int .i64 ((g:Nat):Int)),(6,.ptr 3 1 0 0),(7,.int .i64 ((l:Nat):Int))],[(0,.vs [.int .i64 b,.int .i64 c,.imm d (.fl a) 1 1 0 (List.length a)]),(1,.vs [.bool false e,.nsl,.int .i64 (0:Int)]),(2,.vs [.bool false h,.imm .free (.ns .u64 i) 1 1 0 j,.int .i64 k]),(3,.vs [.bool false m,.imm .free (.ns .u64 n) 1 1 0 o,.int .i64 p])],4⟩
def u7(j:Int)(b:Int)(c:List Nat)(d:Nat)(e:Nat)(a:Nat)(h:Bool)(f:List Int)(g:Nat)(i:Int) :T ((Bool×(List Int)×Nat×Int)⊕((Bool×(List Int)×Nat×Int)⊕((Bool×(List Int)×Nat×Int)⊕((Bool×(List Int)×Nat×Int)⊕((Bool×(List Int)×Nat×Int)⊕((Bool×(List Int)×Nat×Int)⊕(bU))))))) :=
  .ask (decide (((a:Nat):Int) < j))
    (.need (dn .i64 (((a:Nat):Int) * b))<|.need (dn .i64 ((((a:Nat):Int) * b)+((d:Nat):Int)))<|.need (gD ((((a:Nat):Int) * b)+((d:Nat):Int)) (List.length c))<|.need (im (Int.toNat ((((a:Nat):Int) * b)+((d:Nat):Int))) (List.length c))<|.need (dO (aa (List.getD c (Int.toNat ((((a:Nat):Int) * b)+((d:Nat):Int))) 0)))<|.need (dn .i64 (((a:Nat):Int) * b))<|.need (dn .i64 ((((a:Nat):Int) * b)+((e:Nat):Int)))<|.need (gD ((((a:Nat):Int) * b)+((e:Nat):Int)) (List.length c))<|.need (im (Int.toNat ((((a:Nat):Int) * b)+((e:Nat):Int))) (List.length c))<|.need (dO (aa (List.getD c (Int.toNat ((((a:Nat):Int) * b)+((e:Nat):Int))) 0)))<|.need (aP 0 (ae (aa (List.getD c (Int.toNat ((((a:Nat):Int) * b)+((d:Nat):Int))) 0))) (ac (aa (List.getD c (Int.toNat ((((a:Nat):Int) * b)+((d:Nat):Int))) 0))))<|.need (aP 0 (ae (aa (List.getD c (Int.toNat ((((a:Nat):Int) * b)+((e:Nat):Int))) 0))) (ac (aa (List.getD c (Int.toNat ((((a:Nat):Int) * b)+((e:Nat):Int))) 0))))<|.need (cD (ai (ag (aa (List.getD c (Int.toNat ((((a:Nat):Int) * b)+((d:Nat):Int))) 0))) (ab 0 (ae (aa (List.getD c (Int.toNat ((((a:Nat):Int) * b)+((d:Nat):Int))) 0))) (ac (aa (List.getD c (Int.toNat ((((a:Nat):Int) * b)+((d:Nat):Int))) 0)))) (ah (aa (List.getD c (Int.toNat ((((a:Nat):Int) * b)+((d:Nat):Int))) 0))) (ag (aa (List.getD c (Int.toNat ((((a:Nat):Int) * b)+((e:Nat):Int))) 0))) (ab 0 (ae (aa (List.getD c (Int.toNat ((((a:Nat):Int) * b)+((e:Nat):Int))) 0))) (ac (aa (List.getD c (Int.toNat ((((a:Nat):Int) * b)+((e:Nat):Int))) 0)))) (ah (aa (List.getD c (Int.toNat ((((a:Nat):Int) * b)+((e:Nat):Int))) 0)))))<|.need (aP 0 g f)<|.need (aP 0 (aG (ai (ag (aa (List.getD c (Int.toNat ((((a:Nat):Int) * b)+((d:Nat):Int))) 0))) (ab 0 (ae (aa (List.getD c (Int.toNat ((((a:Nat):Int) * b)+((d:Nat):Int))) 0))) (ac (aa (List.getD c (Int.toNat ((((a:Nat):Int) * b)+((d:Nat):Int))) 0)))) (ah (aa (List.getD c (Int.toNat ((((a:Nat):Int) * b)+((d:Nat):Int))) 0))) (ag (aa (List.getD c (Int.toNat ((((a:Nat):Int) * b)+((e:Nat):Int))) 0))) (ab 0 (ae (aa (List.getD c (Int.toNat ((((a:Nat):Int) * b)+((e:Nat):Int))) 0))) (ac (aa (List.getD c (Int.toNat ((((a:Nat):Int) * b)+((e:Nat):Int))) 0)))) (ah (aa (List.getD c (Int.toNat ((((a:Nat):Int) * b)+((e:Nat):Int))) 0))))) (aF (ai (ag (aa (List.getD c (Int.toNat ((((a:Nat):Int) * b)+((d:Nat):Int))) 0))) (ab 0 (ae (aa (List.getD c (Int.toNat ((((a:Nat):Int) * b)+((d:Nat):Int))) 0))) (ac (aa (List.getD c (Int.toNat ((((a:Nat):Int) * b)+((d:Nat):Int))) 0)))) (ah (aa (List.getD c (Int.toNat ((((a:Nat):Int) * b)+((d:Nat):Int))) 0))) (ag (aa (List.getD c (Int.toNat ((((a:Nat):Int) * b)+((e:Nat):Int))) 0))) (ab 0 (ae (aa (List.getD c (Int.toNat ((((a:Nat):Int) * b)+((e:Nat):Int))) 0))) (ac (aa (List.getD c (Int.toNat ((((a:Nat):Int) * b)+((e:Nat):Int))) 0)))) (ah (aa (List.getD c (Int.toNat ((((a:Nat):Int) * b)+((e:Nat):Int))) 0))))))<|.need (mR (bM h (ab 0 g f) i (aN (ai (ag (aa (List.getD c (Int.toNat ((((a:Nat):Int) * b)+((d:Nat):Int))) 0))) (ab 0 (ae (aa (List.getD c (Int.toNat ((((a:Nat):Int) * b)+((d:Nat):Int))) 0))) (ac (aa (List.getD c (Int.toNat ((((a:Nat):Int) * b)+((d:Nat):Int))) 0)))) (ah (aa (List.getD c (Int.toNat ((((a:Nat):Int) * b)+((d:Nat):Int))) 0))) (ag (aa (List.getD c (Int.toNat ((((a:Nat):Int) * b)+((e:Nat):Int))) 0))) (ab 0 (ae (aa (List.getD c (Int.toNat ((((a:Nat):Int) * b)+((e:Nat):Int))) 0))) (ac (aa (List.getD c (Int.toNat ((((a:Nat):Int) * b)+((e:Nat):Int))) 0)))) (ah (aa (List.getD c (Int.toNat ((((a:Nat):Int) * b)+((e:Nat):Int))) 0))))) (ab 0 (aG (ai (ag (aa (List.getD c (Int.toNat ((((a:Nat):Int) * b)+((d:Nat):Int))) 0))) (ab 0 (ae (aa (List.getD c (Int.toNat ((((a:Nat):Int) * b)+((d:Nat):Int))) 0))) (ac (aa (List.getD c (Int.toNat ((((a:Nat):Int) * b)+((d:Nat):Int))) 0)))) (ah (aa (List.getD c (Int.toNat ((((a:Nat):Int) * b)+((d:Nat):Int))) 0))) (ag (aa (List.getD c (Int.toNat ((((a:Nat):Int) * b)+((e:Nat):Int))) 0))) (ab 0 (ae (aa (List.getD c (Int.toNat ((((a:Nat):Int) * b)+((e:Nat):Int))) 0))) (ac (aa (List.getD c (Int.toNat ((((a:Nat):Int) * b)+((e:Nat):Int))) 0)))) (ah (aa (List.getD c (Int.toNat ((((a:Nat):Int) * b)+((e:Nat):Int))) 0))))) (aF (ai (ag (aa (List.getD c (Int.toNat ((((a:Nat):Int) * b)+((d:Nat):Int))) 0))) (ab 0 (ae (aa (List.getD c (Int.toNat ((((a:Nat):Int) * b)+((d:Nat):Int))) 0))) (ac (aa (List.getD c (Int.toNat ((((a:Nat):Int) * b)+((d:Nat):Int))) 0)))) (ah (aa (List.getD c (Int.toNat ((((a:Nat):Int) * b)+((d:Nat):Int))) 0))) (ag (aa (List.getD c (Int.toNat ((((a:Nat):Int) * b)+((e:Nat):Int))) 0))) (ab 0 (ae (aa (List.getD c (Int.toNat ((((a:Nat):Int) * b)+((e:Nat):Int))) 0))) (ac (aa (List.getD c (Int.toNat ((((a:Nat):Int) * b)+((e:Nat):Int))) 0)))) (ah (aa (List.getD c (Int.toNat ((((a:Nat):Int) * b)+((e:Nat):Int))) 0)))))) (aO (ai (ag (aa (List.getD c (Int.toNat ((((a:Nat):Int) * b)+((d:Nat):Int))) 0))) (ab 0 (ae (aa (List.getD c (Int.toNat ((((a:Nat):Int) * b)+((d:Nat):Int))) 0))) (ac (aa (List.getD c (Int.toNat ((((a:Nat):Int) * b)+((d:Nat):Int))) 0)))) (ah (aa (List.getD c (Int.toNat ((((a:Nat):Int) * b)+((d:Nat):Int))) 0))) (ag (aa (List.getD c (Int.toNat ((((a:Nat):Int) * b)+((e:Nat):Int))) 0))) (ab 0 (ae (aa (List.getD c (Int.toNat ((((a:Nat):Int) * b)+((e:Nat):Int))) 0))) (ac (aa (List.getD c (Int.toNat ((((a:Nat):Int) * b)+((e:Nat):Int))) 0)))) (ah (aa (List.getD c (Int.toNat ((((a:Nat):Int) * b)+((e:Nat):Int))) 0)))))))<|.leaf (.inl ((lJ (bM h (ab 0 g f) i (aN (ai (ag (aa (List.getD c (Int.toNat ((((a:Nat):Int) * b)+((d:Nat):Int))) 0))) (ab 0 (ae (aa (List.getD c (Int.toNat ((((a:Nat):Int) * b)+((d:Nat):Int))) 0))) (ac (aa (List.getD c (Int.toNat ((((a:Nat):Int) * b)+((d:Nat):Int))) 0)))) (ah (aa (List.getD c (Int.toNat ((((a:Nat):Int) * b)+((d:Nat):Int))) 0))) (ag (aa (List.getD c (Int.toNat ((((a:Nat):Int) * b)+((e:Nat):Int))) 0))) (ab 0 (ae (aa (List.getD c (Int.toNat ((((a:Nat):Int) * b)+((e:Nat):Int))) 0))) (ac (aa (List.getD c (Int.toNat ((((a:Nat):Int) * b)+((e:Nat):Int))) 0)))) (ah (aa (List.getD c (Int.toNat ((((a:Nat):Int) * b)+((e:Nat):Int))) 0))))) (ab 0 (aG (ai (ag (aa (List.getD c (Int.toNat ((((a:Nat):Int) * b)+((d:Nat):Int))) 0))) (ab 0 (ae (aa (List.getD c (Int.toNat ((((a:Nat):Int) * b)+((d:Nat):Int))) 0))) (ac (aa (List.getD c (Int.toNat ((((a:Nat):Int) * b)+((d:Nat):Int))) 0)))) (ah (aa (List.getD c (Int.toNat ((((a:Nat):Int) * b)+((d:Nat):Int))) 0))) (ag (aa (List.getD c (Int.toNat ((((a:Nat):Int) * b)+((e:Nat):Int))) 0))) (ab 0 (ae (aa (List.getD c (Int.toNat ((((a:Nat):Int) * b)+((e:Nat):Int))) 0))) (ac (aa (List.getD c (Int.toNat ((((a:Nat):Int) * b)+((e:Nat):Int))) 0)))) (ah (aa (List.getD c (Int.toNat ((((a:Nat):Int) * b)+((e:Nat):Int))) 0))))) (aF (ai (ag (aa (List.getD c (Int.toNat ((((a:Nat):Int) * b)+((d:Nat):Int))) 0))) (ab 0 (ae (aa (List.getD c (Int.toNat ((((a:Nat):Int) * b)+((d:Nat):Int))) 0))) (ac (aa (List.getD c (Int.toNat ((((a:Nat):Int) * b)+((d:Nat):Int))) 0)))) (ah (aa (List.getD c (Int.toNat ((((a:Nat):Int) * b)+((d:Nat):Int))) 0))) (ag (aa (List.getD c (Int.toNat ((((a:Nat):Int) * b)+((e:Nat):Int))) 0))) (ab 0 (ae (aa (List.getD c (Int.toNat ((((a:Nat):Int) * b)+((e:Nat):Int))) 0))) (ac (aa (List.getD c (Int.toNat ((((a:Nat):Int) * b)+((e:Nat):Int))) 0)))) (ah (aa (List.getD c (Int.toNat ((((a:Nat):Int) * b)+((e:Nat):Int))) 0)))))) (aO (ai (ag (aa (List.getD c (Int.toNat ((((a:Nat):Int) * b)+((d:Nat):Int))) 0))) (ab 0 (ae (aa (List.getD c (Int.toNat ((((a:Nat):Int) * b)+((d:Nat):Int))) 0))) (ac (aa (List.getD c (Int.toNat ((((a:Nat):Int) * b)+((d:Nat):Int))) 0)))) (ah (aa (List.getD c (Int.toNat ((((a:Nat):Int) * b)+((d:Nat):Int))) 0))) (ag (aa (List.getD c (Int.toNat ((((a:Nat):Int) * b)+((e:Nat):Int))) 0))) (ab 0 (ae (aa (List.getD c (Int.toNat ((((a:Nat):Int) * b)+((e:Nat):Int))) 0))) (ac (aa (List.getD c (Int.toNat ((((a:Nat):Int) * b)+((e:Nat):Int))) 0)))) (ah (aa (List.getD c (Int.toNat ((((a:Nat):Int) * b)+((e:Nat):Int))) 0))))))),(lK (bM h (ab 0 g f) i (aN (ai (ag (aa (List.getD c (Int.toNat ((((a:Nat):Int) * b)+((d:Nat):Int))) 0))) (ab 0 (ae (aa (List.getD c (Int.toNat ((((a:Nat):Int) * b)+((d:Nat):Int))) 0))) (ac (aa (List.getD c (Int.toNat ((((a:Nat):Int) * b)+((d:Nat):Int))) 0)))) (ah (aa (List.getD c (Int.toNat ((((a:Nat):Int) * b)+((d:Nat):Int))) 0))) (ag (aa (List.getD c (Int.toNat ((((a:Nat):Int) * b)+((e:Nat):Int))) 0))) (ab 0 (ae (aa (List.getD c (Int.toNat ((((a:Nat):Int) * b)+((e:Nat):Int))) 0))) (ac (aa (List.getD c (Int.toNat ((((a:Nat):Int) * b)+((e:Nat):Int))) 0)))) (ah (aa (List.getD c (Int.toNat ((((a:Nat):Int) * b)+((e:Nat):Int))) 0))))) (ab 0 (aG (ai (ag (aa (List.getD c (Int.toNat ((((a:Nat):Int) * b)+((d:Nat):Int))) 0))) (ab 0 (ae (aa (List.getD c (Int.toNat ((((a:Nat):Int) * b)+((d:Nat):Int))) 0))) (ac (aa (List.getD c (Int.toNat ((((a:Nat):Int) * b)+((d:Nat):Int))) 0)))) (ah (aa (List.getD c (Int.toNat ((((a:Nat):Int) * b)+((d:Nat):Int))) 0))) (ag (aa (List.getD c (Int.toNat ((((a:Nat):Int) * b)+((e:Nat):Int))) 0))) (ab 0 (ae (aa (List.getD c (Int.toNat ((((a:Nat):Int) * b)+((e:Nat):Int))) 0))) (ac (aa (List.getD c (Int.toNat ((((a:Nat):Int) * b)+((e:Nat):Int))) 0)))) (ah (aa (List.getD c (Int.toNat ((((a:Nat):Int) * b)+((e:Nat):Int))) 0))))) (aF (ai (ag (aa (List.getD c (Int.toNat ((((a:Nat):Int) * b)+((d:Nat):Int))) 0))) (ab 0 (ae (aa (List.getD c (Int.toNat ((((a:Nat):Int) * b)+((d:Nat):Int))) 0))) (ac (aa (List.getD c (Int.toNat ((((a:Nat):Int) * b)+((d:Nat):Int))) 0)))) (ah (aa (List.getD c (Int.toNat ((((a:Nat):Int) * b)+((d:Nat):Int))) 0))) (ag (aa (List.getD c (Int.toNat ((((a:Nat):Int) * b)+((e:Nat):Int))) 0))) (ab 0 (ae (aa (List.getD c (Int.toNat ((((a:Nat):Int) * b)+((e:Nat):Int))) 0))) (ac (aa (List.getD c (Int.toNat ((((a:Nat):Int) * b)+((e:Nat):Int))) 0)))) (ah (aa (List.getD c (Int.toNat ((((a:Nat):Int) * b)+((e:Nat):Int))) 0)))))) (aO (ai (ag (aa (List.getD c (Int.toNat ((((a:Nat):Int) * b)+((d:Nat):Int))) 0))) (ab 0 (ae (aa (List.getD c (Int.toNat ((((a:Nat):Int) * b)+((d:Nat):Int))) 0))) (ac (aa (List.getD c (Int.toNat ((((a:Nat):Int) * b)+((d:Nat):Int))) 0)))) (ah (aa (List.getD c (Int.toNat ((((a:Nat):Int) * b)+((d:Nat):Int))) 0))) (ag (aa (List.getD c (Int.toNat ((((a:Nat):Int) * b)+((e:Nat):Int))) 0))) (ab 0 (ae (aa (List.getD c (Int.toNat ((((a:Nat):Int) * b)+((e:Nat):Int))) 0))) (ac (aa (List.getD c (Int.toNat ((((a:Nat):Int) * b)+((e:Nat):Int))) 0)))) (ah (aa (List.getD c (Int.toNat ((((a:Nat):Int) * b)+((e:Nat):Int))) 0))))))),(lL (bM h (ab 0 g f) i (aN (ai (ag (aa (List.getD c (Int.toNat ((((a:Nat):Int) * b)+((d:Nat):Int))) 0))) (ab 0 (ae (aa (List.getD c (Int.toNat ((((a:Nat):Int) * b)+((d:Nat):Int))) 0))) (ac (aa (List.getD c (Int.toNat ((((a:Nat):Int) * b)+((d:Nat):Int))) 0)))) (ah (aa (List.getD c (Int.toNat ((((a:Nat):Int) * b)+((d:Nat):Int))) 0))) (ag (aa (List.getD c (Int.toNat ((((a:Nat):Int) * b)+((e:Nat):Int))) 0))) (ab 0 (ae (aa (List.getD c (Int.toNat ((((a:Nat):Int) * b)+((e:Nat):Int))) 0))) (ac (aa (List.getD c (Int.toNat ((((a:Nat):Int) * b)+((e:Nat):Int))) 0)))) (ah (aa (List.getD c (Int.toNat ((((a:Nat):Int) * b)+((e:Nat):Int))) 0))))) (ab 0 (aG (ai (ag (aa (List.getD c (Int.toNat ((((a:Nat):Int) * b)+((d:Nat):Int))) 0))) (ab 0 (ae (aa (List.getD c (Int.toNat ((((a:Nat):Int) * b)+((d:Nat):Int))) 0))) (ac (aa (List.getD c (Int.toNat ((((a:Nat):Int) * b)+((d:Nat):Int))) 0)))) (ah (aa (List.getD c (Int.toNat ((((a:Nat):Int) * b)+((d:Nat):Int))) 0))) (ag (aa (List.getD c (Int.toNat ((((a:Nat):Int) * b)+((e:Nat):Int))) 0))) (ab 0 (ae (aa (List.getD c (Int.toNat ((((a:Nat):Int) * b)+((e:Nat):Int))) 0))) (ac (aa (List.getD c (Int.toNat ((((a:Nat):Int) * b)+((e:Nat):Int))) 0)))) (ah (aa (List.getD c (Int.toNat ((((a:Nat):Int) * b)+((e:Nat):Int))) 0))))) (aF (ai (ag (aa (List.getD c (Int.toNat ((((a:Nat):Int) * b)+((d:Nat):Int))) 0))) (ab 0 (ae (aa (List.getD c (Int.toNat ((((a:Nat):Int) * b)+((d:Nat):Int))) 0))) (ac (aa (List.getD c (Int.toNat ((((a:Nat):Int) * b)+((d:Nat):Int))) 0)))) (ah (aa (List.getD c (Int.toNat ((((a:Nat):Int) * b)+((d:Nat):Int))) 0))) (ag (aa (List.getD c (Int.toNat ((((a:Nat):Int) * b)+((e:Nat):Int))) 0))) (ab 0 (ae (aa (List.getD c (Int.toNat ((((a:Nat):Int) * b)+((e:Nat):Int))) 0))) (ac (aa (List.getD c (Int.toNat ((((a:Nat):Int) * b)+((e:Nat):Int))) 0)))) (ah (aa (List.getD c (Int.toNat ((((a:Nat):Int) * b)+((e:Nat):Int))) 0)))))) (aO (ai (ag (aa (List.getD c (Int.toNat ((((a:Nat):Int) * b)+((d:Nat):Int))) 0))) (ab 0 (ae (aa (List.getD c (Int.toNat ((((a:Nat):Int) * b)+((d:Nat):Int))) 0))) (ac (aa (List.getD c (Int.toNat ((((a:Nat):Int) * b)+((d:Nat):Int))) 0)))) (ah (aa (List.getD c (Int.toNat ((((a:Nat):Int) * b)+((d:Nat):Int))) 0))) (ag (aa (List.getD c (Int.toNat ((((a:Nat):Int) * b)+((e:Nat):Int))) 0))) (ab 0 (ae (aa (List.getD c (Int.toNat ((((a:Nat):Int) * b)+((e:Nat):Int))) 0))) (ac (aa (List.getD c (Int.toNat ((((a:Nat):Int) * b)+((e:Nat):Int))) 0)))) (ah (aa (List.getD c (Int.toNat ((((a:Nat):Int) * b)+((e:Nat):Int))) 0))))))),(lM (bM h (ab 0 g f) i (aN (ai (ag (aa (List.getD c (Int.toNat ((((a:Nat):Int) * b)+((d:Nat):Int))) 0))) (ab 0 (ae (aa (List.getD c (Int.toNat ((((a:Nat):Int) * b)+((d:Nat):Int))) 0))) (ac (aa (List.getD c (Int.toNat ((((a:Nat):Int) * b)+((d:Nat):Int))) 0)))) (ah (aa (List.getD c (Int.toNat ((((a:Nat):Int) * b)+((d:Nat):Int))) 0))) (ag (aa (List.getD c (Int.toNat ((((a:Nat):Int) * b)+((e:Nat):Int))) 0))) (ab 0 (ae (aa (List.getD c (Int.toNat ((((a:Nat):Int) * b)+((e:Nat):Int))) 0))) (ac (aa (List.getD c (Int.toNat ((((a:Nat):Int) * b)+((e:Nat):Int))) 0)))) (ah (aa (List.getD c (Int.toNat ((((a:Nat):Int) * b)+((e:Nat):Int))) 0))))) (ab 0 (aG (ai (ag (aa (List.getD c (Int.toNat ((((a:Nat):Int) * b)+((d:Nat):Int))) 0))) (ab 0 (ae (aa (List.getD c (Int.toNat ((((a:Nat):Int) * b)+((d:Nat):Int))) 0))) (ac (aa (List.getD c (Int.toNat ((((a:Nat):Int) * b)+((d:Nat):Int))) 0)))) (ah (aa (List.getD c (Int.toNat ((((a:Nat):Int) * b)+((d:Nat):Int))) 0))) (ag (aa (List.getD c (Int.toNat ((((a:Nat):Int) * b)+((e:Nat):Int))) 0))) (ab 0 (ae (aa (List.getD c (Int.toNat ((((a:Nat):Int) * b)+((e:Nat):Int))) 0))) (ac (aa (List.getD c (Int.toNat ((((a:Nat):Int) * b)+((e:Nat):Int))) 0)))) (ah (aa (List.getD c (Int.toNat ((((a:Nat):Int) * b)+((e:Nat):Int))) 0))))) (aF (ai (ag (aa (List.getD c (Int.toNat ((((a:Nat):Int) * b)+((d:Nat):Int))) 0))) (ab 0 (ae (aa (List.getD c (Int.toNat ((((a:Nat):Int) * b)+((d:Nat):Int))) 0))) (ac (aa (List.getD c (Int.toNat ((((a:Nat):Int) * b)+((d:Nat):Int))) 0)))) (ah (aa (List.getD c (Int.toNat ((((a:Nat):Int) * b)+((d:Nat):Int))) 0))) (ag (aa (List.getD c (Int.toNat ((((a:Nat):Int) * b)+((e:Nat):Int))) 0))) (ab 0 (ae (aa (List.getD c (Int.toNat ((((a:Nat):Int) * b)+((e:Nat):Int))) 0))) (ac (aa (List.getD c (Int.toNat ((((a:Nat):Int) * b)+((e:Nat):Int))) 0)))) (ah (aa (List.getD c (Int.toNat ((((a:Nat):Int) * b)+((e:Nat):Int))) 0)))))) (aO (ai (ag (aa (List.getD c (Int.toNat ((((a:Nat):Int) * b)+((d:Nat):Int))) 0))) (ab 0 (ae (aa (List.getD c (Int.toNat ((((a:Nat):Int) * b)+((d:Nat):Int))) 0))) (ac (aa (List.getD c (Int.toNat ((((a:Nat):Int) * b)+((d:Nat):Int))) 0)))) (ah (aa (List.getD c (Int.toNat ((((a:Nat):Int) * b)+((d:Nat):Int))) 0))) (ag (aa (List.getD c (Int.toNat ((((a:Nat):Int) * b)+((e:Nat):Int))) 0))) (ab 0 (ae (aa (List.getD c (Int.toNat ((((a:Nat):Int) * b)+((e:Nat):Int))) 0))) (ac (aa (List.getD c (Int.toNat ((((a:Nat):Int) * b)+((e:Nat):Int))) 0)))) (ah (aa (List.getD c (Int.toNat ((((a:Nat):Int) * b)+((e:Nat):Int))) 0))))))))))
    (.leaf (.inr (.inl (h,f,g,i))))
def Y1(a:Nat)(b:Bool)(c:List Int)(d:Nat)(e:Int) :T ((Nat×Bool×(List Int)×Nat×Int)⊕((Bool×(List Int)×Nat×Int)⊕((Bool×(List Int)×Nat×Int)⊕((Bool×(List Int)×Nat×Int)⊕((Bool×(List Int)×Nat×Int)⊕((Bool×(List Int)×Nat×Int)⊕(bU))))))) :=
  .need (dn .i64 (((a+1):Nat):Int))<|.leaf (.inl ((a+1),b,c,d,e))
def u9(b:Int)(c:Int)(d:List Nat)(e:Nat)(f:Nat) :Nat×Bool×(List Int)×Nat×Int→Option ((Nat×Bool×(List Int)×Nat×Int)⊕((Bool×(List Int)×Nat×Int)⊕((Bool×(List Int)×Nat×Int)⊕((Bool×(List Int)×Nat×Int)⊕((Bool×(List Int)×Nat×Int)⊕((Bool×(List Int)×Nat×Int)⊕(bU))))))):=fun (a,g,h,i,j) =>
  aE ((u7 b c d e f a g h i j).run) fun (k,l,m,n) =>
  (Y1 a k l m n).run
theorem Y2(a:Int)(b:Int)(f:Lv)(c:List Nat)(d:Bool)(e:Nat)(g:Nat)(h:Bool)(i:List Int)(j:Nat)(k:Int)(l:Nat)(m:Bool)(n:List Int)(o:Nat)(p:Int) :Sg prog [] YZ (A5 a b f c d e g h i j k (l,m,n,o,p)) (u9 a b c e g (l,m,n,o,p)) (A5 a b f c d e g h i j k) (cL 4 (Jh a b f c d e g h i j k) (cL 3 (Jf a b f c d e g) (cL 2 (A3 a b f c d e) (cL 1 (A1 a b f c d e) (cL 0 (u6 d) qs))))):=by
  unfold u9;exact Sg.cut 3 (ay (ay (ay (ay (ay cU))))) (bk cS (Y0 a b f c d e g h i j k l) [⟨[],[0,1,2,3],[1,2,3,4,5,6,7]⟩,⟨[],[0,1,2,3],[1,2,3,4,5,6]⟩]) (fun ⟨q,r,s,t⟩=>bk cS _ [⟨[],[0,1,2,3],[1,2,3,4,5,6,7]⟩])
def Y3(b:Int)(c:Int)(d:Lv)(a:List Nat)(e:Bool)(f:Nat)(g:Nat)(h:Bool)(i:List Int)(j:Nat)(k:Int) :Bool×(List Int)×Nat×Int→aQ:=fun (l,m,n,o)=>⟨ao 65 [(1,.ptr 0 1 0 0),(2,.ptr 1 1 0 0),(3,.ptr 2 1 0 0),(4,.int .i64 ((f:Nat):Int)),(5,.int .i64 ((g:Nat):Int)),(6,.ptr 3 1 0 0)],[(0,.vs [.int .i64 b,.int .i64 c,.imm d (.fl a) 1 1 0 (List.length a)]),(1,.vs [.bool false e,.nsl,.int .i64 (0:Int)]),(2,.vs [.bool false h,.imm .free (.ns .u64 i) 1 1 0 j,.int .i64 k]),(3,.vs [.bool false l,.imm .free (.ns .u64 m) 1 1 0 n,.int .i64 o])],4⟩
def A6(e:Nat)(f:Nat)(c:Bool)(a:List Int)(b:Nat)(d:Int) :T ((Bool×(List Int)×Nat×Int)⊕((Bool×(List Int)×Nat×Int)⊕((Bool×(List Int)×Nat×Int)⊕((Bool×(List Int)×Nat×Int)⊕((Bool×(List Int)×Nat×Int)⊕(bU)))))) :=
  .ask (((e:Nat):Int) == ((f:Nat):Int))
    (.need (ew (aD (1:Int)))<|.need (aP 0 b a)<|.need (aP 0 (cd (aD (1:Int))) (ca (aD (1:Int))))<|.need (rM (fh c (ab 0 b a) d (cu (aD (1:Int))) (ab 0 (cd (aD (1:Int))) (ca (aD (1:Int)))) (cv (aD (1:Int)))))<|.leaf (.inl ((sD (fh c (ab 0 b a) d (cu (aD (1:Int))) (ab 0 (cd (aD (1:Int))) (ca (aD (1:Int)))) (cv (aD (1:Int))))),(sE (fh c (ab 0 b a) d (cu (aD (1:Int))) (ab 0 (cd (aD (1:Int))) (ca (aD (1:Int)))) (cv (aD (1:Int))))),(sF (fh c (ab 0 b a) d (cu (aD (1:Int))) (ab 0 (cd (aD (1:Int))) (ca (aD (1:Int)))) (cv (aD (1:Int))))),(sG (fh c (ab 0 b a) d (cu (aD (1:Int))) (ab 0 (cd (aD (1:Int))) (ca (aD (1:Int)))) (cv (aD (1:Int))))))))
    (.leaf (.inl (c,a,b,d)))
def A7(g:Bool)(e:List Int)(f:Nat)(h:Int)(c:Bool)(a:List Int)(b:Nat)(d:Int) :T ((Bool×(List Int)×Nat×Int)⊕((Bool×(List Int)×Nat×Int)⊕((Bool×(List Int)×Nat×Int)⊕((Bool×(List Int)×Nat×Int)⊕((Bool×(List Int)×Nat×Int)⊕(bU)))))) :=
  .need (aP 0 b a)<|.need (aP 0 b a)<|.need (cD (ai c (ab 0 b a) d c (ab 0 b a) d))<|.need (aP 0 f e)<|.need (aP 0 (aG (ai c (ab 0 b a) d c (ab 0 b a) d)) (aF (ai c (ab 0 b a) d c (ab 0 b a) d)))<|.need (mR (bM g (ab 0 f e) h (aN (ai c (ab 0 b a) d c (ab 0 b a) d)) (ab 0 (aG (ai c (ab 0 b a) d c (ab 0 b a) d)) (aF (ai c (ab 0 b a) d c (ab 0 b a) d))) (aO (ai c (ab 0 b a) d c (ab 0 b a) d))))<|.leaf (.inl ((lJ (bM g (ab 0 f e) h (aN (ai c (ab 0 b a) d c (ab 0 b a) d)) (ab 0 (aG (ai c (ab 0 b a) d c (ab 0 b a) d)) (aF (ai c (ab 0 b a) d c (ab 0 b a) d))) (aO (ai c (ab 0 b a) d c (ab 0 b a) d)))),(lK (bM g (ab 0 f e) h (aN (ai c (ab 0 b a) d c (ab 0 b a) d)) (ab 0 (aG (ai c (ab 0 b a) d c (ab 0 b a) d)) (aF (ai c (ab 0 b a) d c (ab 0 b a) d))) (aO (ai c (ab 0 b a) d c (ab 0 b a) d)))),(lL (bM g (ab 0 f e) h (aN (ai c (ab 0 b a) d c (ab 0 b a) d)) (ab 0 (aG (ai c (ab 0 b a) d c (ab 0 b a) d)) (aF (ai c (ab 0 b a) d c (ab 0 b a) d))) (aO (ai c (ab 0 b a) d c (ab 0 b a) d)))),(lM (bM g (ab 0 f e) h (aN (ai c (ab 0 b a) d c (ab 0 b a) d)) (ab 0 (aG (ai c (ab 0 b a) d c (ab 0 b a) d)) (aF (ai c (ab 0 b a) d c (ab 0 b a) d))) (aO (ai c (ab 0 b a) d c (ab 0 b a) d))))))
def Y4(a:Nat)(b:Bool)(c:List Int)(d:Nat)(e:Int) :T ((Nat×Bool×(List Int)×Nat×Int)⊕((Bool×(List Int)×Nat×Int)⊕((Bool×(List Int)×Nat×Int)⊕((Bool×(List Int)×Nat×Int)⊕(bU))))) :=
  .need (dn .i64 (((a+1):Nat):Int))<|.leaf (.inl ((a+1),b,c,d,e))
def va(h:Int)(b:Int)(i:List Nat)(c:Nat) :Nat×Bool×(List Int)×Nat×Int→Option ((Nat×Bool×(List Int)×Nat×Int)⊕((Bool×(List Int)×Nat×Int)⊕((Bool×(List Int)×Nat×Int)⊕((Bool×(List Int)×Nat×Int)⊕(bU))))):=fun (a,d,e,f,g) =>
  aE ((A4 b a d e f g).run) fun _ =>
  aE (GX (aE ((Jg).run) fun (j,k,l,m) =>
  aE ((YY).run) fun _ =>
  aE (dc (u9 h b i c a) (0,j,k,l,m)) fun (n,o,p,q) =>
  aE ((A6 c a n o p q).run) fun (r,s,t,u) =>
  (A7 d e f g r s t u).run)) fun (v,w,x,y) =>
  (Y4 a v w x y).run
theorem Y5(a:Int)(b:Int)(f:Lv)(c:List Nat)(d:Bool)(e:Nat)(g:Nat)(h:Bool)(i:List Int)(j:Nat)(k:Int) :Sg prog [] Je (A2 a b f c d e (g,h,i,j,k)) (va a b c e (g,h,i,j,k)) (A2 a b f c d e) (cL 2 (A3 a b f c d e) (cL 1 (A1 a b f c d e) (cL 0 (u6 d) qs))):=by
  unfold va;exact Sg.cut 2 (ay (ay (ay cU))) (bk cS (YU a b f c d e g h i j k) [⟨[],[0,1,2],[1,2,3,4,5]⟩,⟨[],[0,1,2],[1,2,3,4]⟩]) (fun _=>Sg.cut 1 (ay (ay (ay cU))) (sgb (Jf a b f c d e g) 3 (ay (ay (ay cU))) (cZ (by decide) (cZ (by decide) (cZ (by decide) (rN _)))) (Sg.cut 1 (ay (ay (ay (ay cU)))) (bk cS (YW a b f c d e g h i j k) [⟨[],[0,1,2,19],[1,2,3,4,5,6]⟩]) (fun ⟨l,m,n,o⟩=>Sg.cut 1 (ay (ay (ay (ay cU)))) (bk cS (YX a b f c d e g h i j k l m n o) [⟨[],[0,1,2,3],[1,2,3,4,5,6,7]⟩]) (fun _=>Sg.cut 1 (ay (ay (ay (ay cU)))) (BM ⟨[],[0,1,2,3],[1,2,3,4,5,6,7]⟩ (A5 a b f c d e g h i j k) (Jh a b f c d e g h i j k) 4 (ay (ay (ay (ay cU)))) (cZ (by decide) (cZ (by decide) (cZ (by decide) (cZ (by decide) (rN _))))) (fun ⟨p,q,r,s,t⟩=>Y2 a b f c d e g h i j k p q r s t)) (fun ⟨u,v,w,x⟩=>Sg.cut 2 (ay (ay (ay (ay cU)))) (bk cS (Y3 a b f c d e g h i j k) [⟨[],[0,1,2,3],[1,2,3,4,5,6]⟩,⟨[],[0,1,2,3],[1,2,3,4,5,6]⟩]) (fun ⟨y,z,A,B⟩=>bk cS _ [⟨[],[0,1,2],[1,2,3,4,5]⟩])))))) (fun ⟨C,D,E,F⟩=>bk cS _ [⟨[],[0,1,2],[1,2,3,4,5]⟩]))
def Y6(a:Bool)(b:List Int)(c:Nat)(d:Int) :T ((Bool×(List Int)×Nat×Int)⊕((Bool×(List Int)×Nat×Int)⊕((Bool×(List Int)×Nat×Int)⊕(bU)))) :=
  .leaf (.inl (a,b,c,d))
def Y7(a:Nat)(b:Bool)(c:List Int)(d:Nat)(e:Int) :T ((Nat×Bool×(List Int)×Nat×Int)⊕((Bool×(List Int)×Nat×Int)⊕(bU))) :=
  .need (dn .i64 (((a+1):Nat):Int))<|.leaf (.inl ((a+1),b,c,d,e))
def A8(g:Int)(b:Int)(h:List Nat) :Nat×Bool×(List Int)×Nat×Int→Option ((Nat×Bool×(List Int)×Nat×Int)⊕((Bool×(List Int)×Nat×Int)⊕(bU))):=fun (a,c,d,e,f) =>
  aE ((A0 b a c d e f).run) fun _ =>
  aE (GX (aE ((YT).run) fun _ =>
  aE (dc (va g b h a) (0,c,d,e,f)) fun (i,j,k,l) =>
  (Y6 i j k l).run)) fun (m,n,o,p) =>
  (Y7 a m n o p).run
theorem Y8(a:Int)(b:Int)(e:Lv)(c:List Nat)(d:Bool)(f:Nat)(g:Bool)(h:List Int)(i:Nat)(j:Int) :Sg prog [] Jd (AZ a b e c d (f,g,h,i,j)) (A8 a b c (f,g,h,i,j)) (AZ a b e c d) (cL 0 (u6 d) qs):=by
  unfold A8;exact Sg.cut 2 (ay cU) (bk cS (YQ a b e c d f g h i j) [⟨[],[0,1,2],[1,2,3,4]⟩,⟨[],[1,2],[2,3]⟩]) (fun _=>Sg.cut 1 (ay cU) (sgb (A1 a b e c d f) 1 (ay cU) (cZ (by decide) (rN _)) (Sg.cut 1 (ay (ay cU)) (bk cS (YS a b e c d f g h i j) [⟨[],[0,1,2],[1,2,3,4,5]⟩]) (fun _=>Sg.cut 1 (ay (ay cU)) (BM ⟨[],[0,1,2],[1,2,3,4,5]⟩ (A2 a b e c d f) (A3 a b e c d f) 2 (ay (ay cU)) (cZ (by decide) (cZ (by decide) (rN _))) (fun ⟨k,l,m,n,o⟩=>Y5 a b e c d f k l m n o)) (fun ⟨p,q,r,s⟩=>bk cS _ [⟨[],[0,1,2],[1,2,3,4]⟩])))) (fun ⟨t,u,v,w⟩=>bk cS _ [⟨[],[0,1,2],[1,2,3,4]⟩]))
def Y9(a:Bool)(b:List Int)(c:Nat)(d:Int) :T ((Empty)⊕(bU)) :=
  .leaf (.inr (.r0 a b c d))
def fi(a:Int)(b:Int)(c:List Nat) :Option bU:=jR (aE ((Jc).run) fun (l,d,e,f,g) =>
  aE ((YP).run) fun _ =>
  aE (dc (A8 a b c) (0,d,e,f,g)) fun (h,i,j,k) =>
  (Y9 h i j k).run)
theorem ac2(b:Int)(c:Int)(d:Lv)(a:List Nat){x:bU}(h:fi b c a=some x) :aw prog yN [] [.agg [.int .i64 b,.int .i64 c,.imm d (.fl a) 1 1 0 (List.length a)]] (GD x) :=
  kp true GD qs h (Sg.cut 2 cU (bk cS (ac0 b c d a) [⟨[],[0,16,48],[1,2,3]⟩]) (fun ⟨e,f,g,i,j⟩=>Sg.cut 1 cU (bk cS (ac1 b c d a e f g i j) [⟨[],[0,1,2],[1,2,3,4]⟩]) (fun _=>Sg.cut 1 cU (BM ⟨[],[0,1,2],[1,2,3,4]⟩ (AZ b c d a e) (u6 e) 0 cU (rN _) (fun ⟨k,l,m,n,o⟩=>Y8 b c d a e k l m n o)) (fun ⟨t,u,v,w⟩=>bk cS _ [⟨[],[0],[2]⟩]))))
    (fun x=>by cases x with | r0 p q r s=>exact jT [.agg [.bool false p,.imm .free (.ns .u64 q) 1 1 0 r,.int .i64 s]])
def rO:Option bU→Bool
  | some _=>true
  | none=>false
def oP:Option bU→Bool
  | some (.r0 x _ _ _)=>x
  | _=>false
def me:Option bU→List Int
  | some (.r0 _ x _ _)=>x
  | _=>[]
def mf:Option bU→Nat
  | some (.r0 _ _ x _)=>x
  | _=>0
def oQ:Option bU→Int
  | some (.r0 _ _ _ x)=>x
  | _=>0
theorem ac3{x:Option bU}(h:rO x=true) :x=some (.r0 (oP x) (me x) (mf x) (oQ x)):=by
  unfold rO at h
  split at h <;> first | rfl | (cases h;done) | (rename_i y;cases y;rfl)
def Qc:aL:=bJ yN (.cons (.agg (.cons (.int .i64) (.cons (.int .i64) (.cons .fl .nil)))) .nil) fun t=>(fun q=>[⟨GD (.r0 (oP q) (me q) (mf q) (oQ q)),[rO q]⟩]) (fi t.1.1 t.1.2.1 t.1.2.2.1.2)
theorem Uy:aV prog Qc:=aR fun t=>(aS (fun h=>ac2 t.1.1 t.1.2.1 t.1.2.2.1.1 t.1.2.2.1.2 (ac3 h)) aZ)
def Qd:List aL:=Qc :: Qb
theorem sH:bd prog (bf Qd):=au Uy cS
inductive fL where
  | r0 (a:Bool)
def vb:fL→AE×aQ
  | .r0 a=>(.ret,⟨ao 20 [(2,.bool false a)],[],0⟩)
theorem yB:jC vb:=by intro x;cases x <;> (intro h;cases h)
theorem Uz(id:Nat) :m5 id vb:=by intro x;cases x <;> (intro h;cases h)
def A9:fL→gX
  | .r0 a=>⟨.bool false a,[]⟩
def UA:List Code:=cP (nO zJ)
def UB(b:Lv)(a:List Nat)(_:Unit) :aQ:=⟨ao 20 [(0,.imm b (.fl a) 1 1 0 (List.length a)),(3,.int .i64 (0:Int))],[],0⟩
def UC:T ((Unit)⊕(fL)) :=
  .leaf (.inl ())
def yC(b:Lv)(a:List Nat)(c:Nat) :aQ:=⟨ao 20 [(0,.imm b (.fl a) 1 1 0 (List.length a)),(3,.int .i64 ((c:Nat):Int))],[],0⟩
def G7(_:Unit) :aQ:=⟨ao 20 [],[],0⟩
def UD:List Code:=cP (dD ((((UA.drop 2).take 1)).headD .skip))
def oR(b:List Nat)(a:Nat) :T ((Nat)⊕((Unit)⊕(fL))) :=
  .ask (decide (((a:Nat):Int) < (((List.length b):Nat):Int)))
    (.need (gD ((a:Nat):Int) (List.length b))<|.need (im a (List.length b))<|.need (gD ((a:Nat):Int) (List.length b))<|.need (im a (List.length b))<|.ask (UX (aia (List.getD b a 0) (List.getD b a 0)) 0)
      (.leaf (.inr (.inr (.r0 false))))
      (.need (dn .i64 (((a+1):Nat):Int))<|.leaf (.inl (a+1))))
    (.leaf (.inr (.inl ())))
def qt(a:List Nat) :Nat→Option ((Nat)⊕((Unit)⊕(fL))):=fun b =>
  (oR a b).run
theorem Rw(b:Lv)(a:List Nat)(c:Nat) :Sg prog [] UD (yC b a c) (qt a c) (yC b a) (cL 0 G7 vb):=by
  unfold qt;exact bk sH _ [⟨[],[],[2]⟩,⟨[],[],[0,3]⟩,⟨[],[],[]⟩]
def Rx:T ((Empty)⊕(fL)) :=
  .leaf (.inr (.r0 true))
def jc(a:List Nat) :Option fL:=jR (aE ((UC).run) fun _ =>
  aE (dc (qt a) 0) fun _ =>
  (Rx).run)
theorem UE(b:Lv)(a:List Nat){x:fL}(h:jc a=some x) :aw prog zJ [] [.imm b (.fl a) 1 1 0 (List.length a)] (A9 x) :=
  kp false A9 vb h (Sg.cut 2 yB (bk sH (UB b a) [⟨[],[],[0,3]⟩]) (fun _=>Sg.cut 1 yB (BM ⟨[],[],[0,3]⟩ (yC b a) (G7) 0 yB (Uz _) (fun c=>Rw b a c)) (fun _=>bk sH _ [⟨[],[],[2]⟩])))
    (fun x=>by cases x with | r0 d=>exact jT [.bool false d])
def mg:Option fL→Bool
  | some _=>true
  | none=>false
def mS:Option fL→Bool
  | some (.r0 x)=>x
  | _=>false
theorem UF{x:Option fL}(h:mg x=true) :x=some (.r0 (mS x)):=by
  unfold mg at h
  split at h <;> first | rfl | (cases h;done) | (rename_i y;cases y;rfl)
def Ji:aL:=bJ zJ (.cons .fl .nil) fun t=>(fun q=>[⟨A9 (.r0 (mS q)),[mg q]⟩]) (jc t.1.2)
theorem Qe:aV prog Ji:=aR fun t=>(aS (fun h=>UE t.1.1 t.1.2 (UF h)) aZ)
def Jj:List aL:=Ji :: Qd
theorem cn:bd prog (bf Jj):=au Qe sH
end
end Go.Plb.Seat
