/-
  Part 4 of what the claim leans on: an evaluator of the model, proved sound; the contracts of the functions.
-/
import Derived.Test.YthikcnkmglbbbaaGreatDoorA3
namespace Go.Plb.Seat
open Go Go.Plb
set_option linter.unusedVariables false
set_option maxRecDepth 100000
noncomputable section
inductive fC where
  | r0 (a:Nat) (b:Bool) (c:List Int) (d:Nat) (e:Nat) (f:Int)
def Ie:fC→AE×aQ
  | .r0 a b c d e f=>(.ret,⟨an 51 [(4,.ptr 0 1 0 0),(5,.int .i64 ((a:Nat):Int))],[(0,.vs [.bool false b,.imm .free (.ns .u64 c) 1 1 d e,.int .i64 f])],1⟩)
theorem uW:jJ Ie:=by intro x;cases x<;>(intro h;cases h)
theorem aot(id:Nat) :mP id Ie:=by intro x;cases x<;>(intro h;cases h)
def Pe:fC→gM
  | .r0 a b c d e f=>⟨.tup [.agg [.bool false b,.imm .free (.ns .u64 c) 1 1 d e,.int .i64 f],.int .i64 ((a:Nat):Int)],[]⟩
def If:List Code:=cN (oa GU)
def aou(c:Lv)(a:Nat)(d:List Bool)(e:List (List Int))(f:List Int)(g:Lv)(b:Nat)(h:List Bool)(i:List (List Int))(j:List Int)(k:Bool) :aQ:=⟨an 51 [(0,.imm c (.cols a [.cb d,.cns .u64 e,.ci .i64 f]) 3 3 0 a),(1,.imm g (.cols b [.cb h,.cns .u64 i,.ci .i64 j]) 3 3 0 b),(4,.ptr 0 1 0 0)],[(0,.vs [.bool false k,.nsl,.int .i64 (0:Int)])],1⟩
def akN:T ((Bool)⊕(fC)) :=
  .leaf (.inl false)
def akO:List Code:=cN (LR (((If.drop 1)).headD .skip))
def aov(c:Lv)(a:Nat)(d:List Bool)(e:List (List Int))(f:List Int)(g:Lv)(b:Nat)(h:List Bool)(i:List (List Int))(j:List Int)(k:Bool)(l:Bool) :aQ:=⟨an 51 [(0,.imm c (.cols a [.cb d,.cns .u64 e,.ci .i64 f]) 3 3 0 a),(1,.imm g (.cols b [.cb h,.cns .u64 i,.ci .i64 j]) 3 3 0 b),(4,.ptr 0 1 0 0),(6,.ptr 1 1 0 0),(7,.int .i64 (0:Int)),(18,.int .i64 ((a:Nat):Int)),(19,.int .i64 (0:Int))],[(0,.vs [.bool false k,.nsl,.int .i64 (0:Int)]),(1,.vs [.bool false l,.nsl,.int .i64 (0:Int)])],2⟩
def akP(a:Nat)(b:Nat) :T ((Bool)⊕(fC)) :=
  .ask (((a:Nat):Int) != ((b:Nat):Int))
    (.leaf (.inr (.r0 2 false ([]:List Int) 0 0 (0:Int))))
    (.leaf (.inl false))
def KT(c:Lv)(a:Nat)(d:List Bool)(e:List (List Int))(f:List Int)(g:Lv)(b:Nat)(h:List Bool)(i:List (List Int))(j:List Int)(k:Bool) :Nat×Nat×Bool×(List Int)×Nat×Nat×Int→aQ:=fun (l,m,n,o,p,q,r)=>⟨an 51 [(0,.imm c (.cols a [.cb d,.cns .u64 e,.ci .i64 f]) 3 3 0 a),(1,.imm g (.cols b [.cb h,.cns .u64 i,.ci .i64 j]) 3 3 0 b),(4,.ptr 0 1 0 0),(6,.ptr 1 1 0 0),(7,.int .i64 ((l:Nat):Int)),(18,.int .i64 ((a:Nat):Int)),(19,.int .i64 ((m:Nat):Int))],[(0,.vs [.bool false k,.nsl,.int .i64 (0:Int)]),(1,.vs [.bool false n,.imm .free (.ns .u64 o) 1 1 p q,.int .i64 r])],2⟩
def RS(a:Bool) :Nat×Bool×(List Int)×Nat×Nat×Int→aQ:=fun (b,c,d,e,f,g)=>⟨an 51 [(4,.ptr 0 1 0 0),(6,.ptr 1 1 0 0),(7,.int .i64 ((b:Nat):Int))],[(0,.vs [.bool false a,.nsl,.int .i64 (0:Int)]),(1,.vs [.bool false c,.imm .free (.ns .u64 d) 1 1 e f,.int .i64 g])],2⟩
def akQ:List Code:=cN (dn ((((akO.drop 5).take 1)).headD .skip))
def akR(c:Lv)(a:Nat)(d:List Bool)(e:List (List Int))(f:List Int)(g:Lv)(b:Nat)(h:List Bool)(i:List (List Int))(j:List Int)(k:Bool)(l:Nat) :Nat×Bool×(List Int)×Nat×Nat×Int→aQ:=fun (m,n,o,p,q,r)=>⟨an 51 [(0,.imm c (.cols a [.cb d,.cns .u64 e,.ci .i64 f]) 3 3 0 a),(1,.imm g (.cols b [.cb h,.cns .u64 i,.ci .i64 j]) 3 3 0 b),(4,.ptr 0 1 0 0),(6,.ptr 1 1 0 0),(7,.int .i64 ((m:Nat):Int)),(18,.int .i64 ((a:Nat):Int)),(19,.int .i64 ((l:Nat):Int))],[(0,.vs [.bool false k,.nsl,.int .i64 (0:Int)]),(1,.vs [.bool false n,.imm .free (.ns .u64 o) 1 1 p q,.int .i64 r])],2⟩
def Ig(m:Nat)(d:List Bool)(b:List (List Int))(e:List Int)(n:Nat)(f:List Bool)(c:List (List Int))(g:List Int)(o:Nat)(a:Nat)(k:Bool)(h:List Int)(i:Nat)(j:Nat)(l:Int) :T ((Nat×Bool×(List Int)×Nat×Nat×Int)⊕((Nat×Bool×(List Int)×Nat×Nat×Int)⊕(fC))) :=
  .ask (decide (((a:Nat):Int)<((m:Nat):Int)))
    (.need (fv ((a:Nat):Int) m)<|.need (g9 a (List.length d))<|.need (g9 a (List.length b))<|.need (g9 a (List.length e))<|.need (fv ((a:Nat):Int) n)<|.need (g9 a (List.length f))<|.need (g9 a (List.length c))<|.need (g9 a (List.length g))<|.need (aG 0 (List.length (List.getD b a [])) (List.getD b a []))<|.need (aG 0 (List.length (List.getD c a [])) (List.getD c a []))<|.need (oS (aD (List.getD d a false) (ab 0 (List.length (List.getD b a [])) (List.getD b a [])) (List.getD e a 0) (List.getD f a false) (ab 0 (List.length (List.getD c a [])) (List.getD c a [])) (List.getD g a 0)))<|.ask ((((l5 (aD (List.getD d a false) (ab 0 (List.length (List.getD b a [])) (List.getD b a [])) (List.getD e a 0) (List.getD f a false) (ab 0 (List.length (List.getD c a [])) (List.getD c a [])) (List.getD g a 0))):Nat):Int) != (0:Int))
      (.leaf (.inr (.inl ((l5 (aD (List.getD d a false) (ab 0 (List.length (List.getD b a [])) (List.getD b a [])) (List.getD e a 0) (List.getD f a false) (ab 0 (List.length (List.getD c a [])) (List.getD c a [])) (List.getD g a 0))),k,h,i,j,l))))
      (.need (aG i j h)<|.need (aG (cP (aD (List.getD d a false) (ab 0 (List.length (List.getD b a [])) (List.getD b a [])) (List.getD e a 0) (List.getD f a false) (ab 0 (List.length (List.getD c a [])) (List.getD c a [])) (List.getD g a 0))) (cQ (aD (List.getD d a false) (ab 0 (List.length (List.getD b a [])) (List.getD b a [])) (List.getD e a 0) (List.getD f a false) (ab 0 (List.length (List.getD c a [])) (List.getD c a [])) (List.getD g a 0))) (cO (aD (List.getD d a false) (ab 0 (List.length (List.getD b a [])) (List.getD b a [])) (List.getD e a 0) (List.getD f a false) (ab 0 (List.length (List.getD c a [])) (List.getD c a [])) (List.getD g a 0))))<|.need (zf (dp k (ab i j h) l (cZ (aD (List.getD d a false) (ab 0 (List.length (List.getD b a [])) (List.getD b a [])) (List.getD e a 0) (List.getD f a false) (ab 0 (List.length (List.getD c a [])) (List.getD c a [])) (List.getD g a 0))) (ab (cP (aD (List.getD d a false) (ab 0 (List.length (List.getD b a [])) (List.getD b a [])) (List.getD e a 0) (List.getD f a false) (ab 0 (List.length (List.getD c a [])) (List.getD c a [])) (List.getD g a 0))) (cQ (aD (List.getD d a false) (ab 0 (List.length (List.getD b a [])) (List.getD b a [])) (List.getD e a 0) (List.getD f a false) (ab 0 (List.length (List.getD c a [])) (List.getD c a [])) (List.getD g a 0))) (cO (aD (List.getD d a false) (ab 0 (List.length (List.getD b a [])) (List.getD b a [])) (List.getD e a 0) (List.getD f a false) (ab 0 (List.length (List.getD c a [])) (List.getD c a [])) (List.getD g a 0)))) (c4 (aD (List.getD d a false) (ab 0 (List.length (List.getD b a [])) (List.getD b a [])) (List.getD e a 0) (List.getD f a false) (ab 0 (List.length (List.getD c a [])) (List.getD c a [])) (List.getD g a 0)))))<|.ask ((((p7 (dp k (ab i j h) l (cZ (aD (List.getD d a false) (ab 0 (List.length (List.getD b a [])) (List.getD b a [])) (List.getD e a 0) (List.getD f a false) (ab 0 (List.length (List.getD c a [])) (List.getD c a [])) (List.getD g a 0))) (ab (cP (aD (List.getD d a false) (ab 0 (List.length (List.getD b a [])) (List.getD b a [])) (List.getD e a 0) (List.getD f a false) (ab 0 (List.length (List.getD c a [])) (List.getD c a [])) (List.getD g a 0))) (cQ (aD (List.getD d a false) (ab 0 (List.length (List.getD b a [])) (List.getD b a [])) (List.getD e a 0) (List.getD f a false) (ab 0 (List.length (List.getD c a [])) (List.getD c a [])) (List.getD g a 0))) (cO (aD (List.getD d a false) (ab 0 (List.length (List.getD b a [])) (List.getD b a [])) (List.getD e a 0) (List.getD f a false) (ab 0 (List.length (List.getD c a [])) (List.getD c a [])) (List.getD g a 0)))) (c4 (aD (List.getD d a false) (ab 0 (List.length (List.getD b a [])) (List.getD b a [])) (List.getD e a 0) (List.getD f a false) (ab 0 (List.length (List.getD c a [])) (List.getD c a [])) (List.getD g a 0))))):Nat):Int) != (0:Int))
        (.leaf (.inr (.inl ((p7 (dp k (ab i j h) l (cZ (aD (List.getD d a false) (ab 0 (List.length (List.getD b a [])) (List.getD b a [])) (List.getD e a 0) (List.getD f a false) (ab 0 (List.length (List.getD c a [])) (List.getD c a [])) (List.getD g a 0))) (ab (cP (aD (List.getD d a false) (ab 0 (List.length (List.getD b a [])) (List.getD b a [])) (List.getD e a 0) (List.getD f a false) (ab 0 (List.length (List.getD c a [])) (List.getD c a [])) (List.getD g a 0))) (cQ (aD (List.getD d a false) (ab 0 (List.length (List.getD b a [])) (List.getD b a [])) (List.getD e a 0) (List.getD f a false) (ab 0 (List.length (List.getD c a [])) (List.getD c a [])) (List.getD g a 0))) (cO (aD (List.getD d a false) (ab 0 (List.length (List.getD b a [])) (List.getD b a [])) (List.getD e a 0) (List.getD f a false) (ab 0 (List.length (List.getD c a [])) (List.getD c a [])) (List.getD g a 0)))) (c4 (aD (List.getD d a false) (ab 0 (List.length (List.getD b a [])) (List.getD b a [])) (List.getD e a 0) (List.getD f a false) (ab 0 (List.length (List.getD c a [])) (List.getD c a [])) (List.getD g a 0))))),(sf (dp k (ab i j h) l (cZ (aD (List.getD d a false) (ab 0 (List.length (List.getD b a [])) (List.getD b a [])) (List.getD e a 0) (List.getD f a false) (ab 0 (List.length (List.getD c a [])) (List.getD c a [])) (List.getD g a 0))) (ab (cP (aD (List.getD d a false) (ab 0 (List.length (List.getD b a [])) (List.getD b a [])) (List.getD e a 0) (List.getD f a false) (ab 0 (List.length (List.getD c a [])) (List.getD c a [])) (List.getD g a 0))) (cQ (aD (List.getD d a false) (ab 0 (List.length (List.getD b a [])) (List.getD b a [])) (List.getD e a 0) (List.getD f a false) (ab 0 (List.length (List.getD c a [])) (List.getD c a [])) (List.getD g a 0))) (cO (aD (List.getD d a false) (ab 0 (List.length (List.getD b a [])) (List.getD b a [])) (List.getD e a 0) (List.getD f a false) (ab 0 (List.length (List.getD c a [])) (List.getD c a [])) (List.getD g a 0)))) (c4 (aD (List.getD d a false) (ab 0 (List.length (List.getD b a [])) (List.getD b a [])) (List.getD e a 0) (List.getD f a false) (ab 0 (List.length (List.getD c a [])) (List.getD c a [])) (List.getD g a 0))))),(sh (dp k (ab i j h) l (cZ (aD (List.getD d a false) (ab 0 (List.length (List.getD b a [])) (List.getD b a [])) (List.getD e a 0) (List.getD f a false) (ab 0 (List.length (List.getD c a [])) (List.getD c a [])) (List.getD g a 0))) (ab (cP (aD (List.getD d a false) (ab 0 (List.length (List.getD b a [])) (List.getD b a [])) (List.getD e a 0) (List.getD f a false) (ab 0 (List.length (List.getD c a [])) (List.getD c a [])) (List.getD g a 0))) (cQ (aD (List.getD d a false) (ab 0 (List.length (List.getD b a [])) (List.getD b a [])) (List.getD e a 0) (List.getD f a false) (ab 0 (List.length (List.getD c a [])) (List.getD c a [])) (List.getD g a 0))) (cO (aD (List.getD d a false) (ab 0 (List.length (List.getD b a [])) (List.getD b a [])) (List.getD e a 0) (List.getD f a false) (ab 0 (List.length (List.getD c a [])) (List.getD c a [])) (List.getD g a 0)))) (c4 (aD (List.getD d a false) (ab 0 (List.length (List.getD b a [])) (List.getD b a [])) (List.getD e a 0) (List.getD f a false) (ab 0 (List.length (List.getD c a [])) (List.getD c a [])) (List.getD g a 0))))),(si (dp k (ab i j h) l (cZ (aD (List.getD d a false) (ab 0 (List.length (List.getD b a [])) (List.getD b a [])) (List.getD e a 0) (List.getD f a false) (ab 0 (List.length (List.getD c a [])) (List.getD c a [])) (List.getD g a 0))) (ab (cP (aD (List.getD d a false) (ab 0 (List.length (List.getD b a [])) (List.getD b a [])) (List.getD e a 0) (List.getD f a false) (ab 0 (List.length (List.getD c a [])) (List.getD c a [])) (List.getD g a 0))) (cQ (aD (List.getD d a false) (ab 0 (List.length (List.getD b a [])) (List.getD b a [])) (List.getD e a 0) (List.getD f a false) (ab 0 (List.length (List.getD c a [])) (List.getD c a [])) (List.getD g a 0))) (cO (aD (List.getD d a false) (ab 0 (List.length (List.getD b a [])) (List.getD b a [])) (List.getD e a 0) (List.getD f a false) (ab 0 (List.length (List.getD c a [])) (List.getD c a [])) (List.getD g a 0)))) (c4 (aD (List.getD d a false) (ab 0 (List.length (List.getD b a [])) (List.getD b a [])) (List.getD e a 0) (List.getD f a false) (ab 0 (List.length (List.getD c a [])) (List.getD c a [])) (List.getD g a 0))))),(sj (dp k (ab i j h) l (cZ (aD (List.getD d a false) (ab 0 (List.length (List.getD b a [])) (List.getD b a [])) (List.getD e a 0) (List.getD f a false) (ab 0 (List.length (List.getD c a [])) (List.getD c a [])) (List.getD g a 0))) (ab (cP (aD (List.getD d a false) (ab 0 (List.length (List.getD b a [])) (List.getD b a [])) (List.getD e a 0) (List.getD f a false) (ab 0 (List.length (List.getD c a [])) (List.getD c a [])) (List.getD g a 0))) (cQ (aD (List.getD d a false) (ab 0 (List.length (List.getD b a [])) (List.getD b a [])) (List.getD e a 0) (List.getD f a false) (ab 0 (List.length (List.getD c a [])) (List.getD c a [])) (List.getD g a 0))) (cO (aD (List.getD d a false) (ab 0 (List.length (List.getD b a [])) (List.getD b a [])) (List.getD e a 0) (List.getD f a false) (ab 0 (List.length (List.getD c a [])) (List.getD c a [])) (List.getD g a 0)))) (c4 (aD (List.getD d a false) (ab 0 (List.length (List.getD b a [])) (List.getD b a [])) (List.getD e a 0) (List.getD f a false) (ab 0 (List.length (List.getD c a [])) (List.getD c a [])) (List.getD g a 0))))),(sk (dp k (ab i j h) l (cZ (aD (List.getD d a false) (ab 0 (List.length (List.getD b a [])) (List.getD b a [])) (List.getD e a 0) (List.getD f a false) (ab 0 (List.length (List.getD c a [])) (List.getD c a [])) (List.getD g a 0))) (ab (cP (aD (List.getD d a false) (ab 0 (List.length (List.getD b a [])) (List.getD b a [])) (List.getD e a 0) (List.getD f a false) (ab 0 (List.length (List.getD c a [])) (List.getD c a [])) (List.getD g a 0))) (cQ (aD (List.getD d a false) (ab 0 (List.length (List.getD b a [])) (List.getD b a [])) (List.getD e a 0) (List.getD f a false) (ab 0 (List.length (List.getD c a [])) (List.getD c a [])) (List.getD g a 0))) (cO (aD (List.getD d a false) (ab 0 (List.length (List.getD b a [])) (List.getD b a [])) (List.getD e a 0) (List.getD f a false) (ab 0 (List.length (List.getD c a [])) (List.getD c a [])) (List.getD g a 0)))) (c4 (aD (List.getD d a false) (ab 0 (List.length (List.getD b a [])) (List.getD b a [])) (List.getD e a 0) (List.getD f a false) (ab 0 (List.length (List.getD c a [])) (List.getD c a [])) (List.getD g a 0)))))))))
        (.leaf (.inl ((p7 (dp k (ab i j h) l (cZ (aD (List.getD d a false) (ab 0 (List.length (List.getD b a [])) (List.getD b a [])) (List.getD e a 0) (List.getD f a false) (ab 0 (List.length (List.getD c a [])) (List.getD c a [])) (List.getD g a 0))) (ab (cP (aD (List.getD d a false) (ab 0 (List.length (List.getD b a [])) (List.getD b a [])) (List.getD e a 0) (List.getD f a false) (ab 0 (List.length (List.getD c a [])) (List.getD c a [])) (List.getD g a 0))) (cQ (aD (List.getD d a false) (ab 0 (List.length (List.getD b a [])) (List.getD b a [])) (List.getD e a 0) (List.getD f a false) (ab 0 (List.length (List.getD c a [])) (List.getD c a [])) (List.getD g a 0))) (cO (aD (List.getD d a false) (ab 0 (List.length (List.getD b a [])) (List.getD b a [])) (List.getD e a 0) (List.getD f a false) (ab 0 (List.length (List.getD c a [])) (List.getD c a [])) (List.getD g a 0)))) (c4 (aD (List.getD d a false) (ab 0 (List.length (List.getD b a [])) (List.getD b a [])) (List.getD e a 0) (List.getD f a false) (ab 0 (List.length (List.getD c a [])) (List.getD c a [])) (List.getD g a 0))))),(sf (dp k (ab i j h) l (cZ (aD (List.getD d a false) (ab 0 (List.length (List.getD b a [])) (List.getD b a [])) (List.getD e a 0) (List.getD f a false) (ab 0 (List.length (List.getD c a [])) (List.getD c a [])) (List.getD g a 0))) (ab (cP (aD (List.getD d a false) (ab 0 (List.length (List.getD b a [])) (List.getD b a [])) (List.getD e a 0) (List.getD f a false) (ab 0 (List.length (List.getD c a [])) (List.getD c a [])) (List.getD g a 0))) (cQ (aD (List.getD d a false) (ab 0 (List.length (List.getD b a [])) (List.getD b a [])) (List.getD e a 0) (List.getD f a false) (ab 0 (List.length (List.getD c a [])) (List.getD c a [])) (List.getD g a 0))) (cO (aD (List.getD d a false) (ab 0 (List.length (List.getD b a [])) (List.getD b a [])) (List.getD e a 0) (List.getD f a false) (ab 0 (List.length (List.getD c a [])) (List.getD c a [])) (List.getD g a 0)))) (c4 (aD (List.getD d a false) (ab 0 (List.length (List.getD b a [])) (List.getD b a [])) (List.getD e a 0) (List.getD f a false) (ab 0 (List.length (List.getD c a [])) (List.getD c a [])) (List.getD g a 0))))),(sh (dp k (ab i j h) l (cZ (aD (List.getD d a false) (ab 0 (List.length (List.getD b a [])) (List.getD b a [])) (List.getD e a 0) (List.getD f a false) (ab 0 (List.length (List.getD c a [])) (List.getD c a [])) (List.getD g a 0))) (ab (cP (aD (List.getD d a false) (ab 0 (List.length (List.getD b a [])) (List.getD b a [])) (List.getD e a 0) (List.getD f a false) (ab 0 (List.length (List.getD c a [])) (List.getD c a [])) (List.getD g a 0))) (cQ (aD (List.getD d a false) (ab 0 (List.length (List.getD b a [])) (List.getD b a [])) (List.getD e a 0) (List.getD f a false) (ab 0 (List.length (List.getD c a [])) (List.getD c a [])) (List.getD g a 0))) (cO (aD (List.getD d a false) (ab 0 (List.length (List.getD b a [])) (List.getD b a [])) (List.getD e a 0) (List.getD f a false) (ab 0 (List.length (List.getD c a [])) (List.getD c a [])) (List.getD g a 0)))) (c4 (aD (List.getD d a false) (ab 0 (List.length (List.getD b a [])) (List.getD b a [])) (List.getD e a 0) (List.getD f a false) (ab 0 (List.length (List.getD c a [])) (List.getD c a [])) (List.getD g a 0))))),(si (dp k (ab i j h) l (cZ (aD (List.getD d a false) (ab 0 (List.length (List.getD b a [])) (List.getD b a [])) (List.getD e a 0) (List.getD f a false) (ab 0 (List.length (List.getD c a [])) (List.getD c a [])) (List.getD g a 0))) (ab (cP (aD (List.getD d a false) (ab 0 (List.length (List.getD b a [])) (List.getD b a [])) (List.getD e a 0) (List.getD f a false) (ab 0 (List.length (List.getD c a [])) (List.getD c a [])) (List.getD g a 0))) (cQ (aD (List.getD d a false) (ab 0 (List.length (List.getD b a [])) (List.getD b a [])) (List.getD e a 0) (List.getD f a false) (ab 0 (List.length (List.getD c a [])) (List.getD c a [])) (List.getD g a 0))) (cO (aD (List.getD d a false) (ab 0 (List.length (List.getD b a [])) (List.getD b a [])) (List.getD e a 0) (List.getD f a false) (ab 0 (List.length (List.getD c a [])) (List.getD c a [])) (List.getD g a 0)))) (c4 (aD (List.getD d a false) (ab 0 (List.length (List.getD b a [])) (List.getD b a [])) (List.getD e a 0) (List.getD f a false) (ab 0 (List.length (List.getD c a [])) (List.getD c a [])) (List.getD g a 0))))),(sj (dp k (ab i j h) l (cZ (aD (List.getD d a false) (ab 0 (List.length (List.getD b a [])) (List.getD b a [])) (List.getD e a 0) (List.getD f a false) (ab 0 (List.length (List.getD c a [])) (List.getD c a [])) (List.getD g a 0))) (ab (cP (aD (List.getD d a false) (ab 0 (List.length (List.getD b a [])) (List.getD b a [])) (List.getD e a 0) (List.getD f a false) (ab 0 (List.length (List.getD c a [])) (List.getD c a [])) (List.getD g a 0))) (cQ (aD (List.getD d a false) (ab 0 (List.length (List.getD b a [])) (List.getD b a [])) (List.getD e a 0) (List.getD f a false) (ab 0 (List.length (List.getD c a [])) (List.getD c a [])) (List.getD g a 0))) (cO (aD (List.getD d a false) (ab 0 (List.length (List.getD b a [])) (List.getD b a [])) (List.getD e a 0) (List.getD f a false) (ab 0 (List.length (List.getD c a [])) (List.getD c a [])) (List.getD g a 0)))) (c4 (aD (List.getD d a false) (ab 0 (List.length (List.getD b a [])) (List.getD b a [])) (List.getD e a 0) (List.getD f a false) (ab 0 (List.length (List.getD c a [])) (List.getD c a [])) (List.getD g a 0))))),(sk (dp k (ab i j h) l (cZ (aD (List.getD d a false) (ab 0 (List.length (List.getD b a [])) (List.getD b a [])) (List.getD e a 0) (List.getD f a false) (ab 0 (List.length (List.getD c a [])) (List.getD c a [])) (List.getD g a 0))) (ab (cP (aD (List.getD d a false) (ab 0 (List.length (List.getD b a [])) (List.getD b a [])) (List.getD e a 0) (List.getD f a false) (ab 0 (List.length (List.getD c a [])) (List.getD c a [])) (List.getD g a 0))) (cQ (aD (List.getD d a false) (ab 0 (List.length (List.getD b a [])) (List.getD b a [])) (List.getD e a 0) (List.getD f a false) (ab 0 (List.length (List.getD c a [])) (List.getD c a [])) (List.getD g a 0))) (cO (aD (List.getD d a false) (ab 0 (List.length (List.getD b a [])) (List.getD b a [])) (List.getD e a 0) (List.getD f a false) (ab 0 (List.length (List.getD c a [])) (List.getD c a [])) (List.getD g a 0)))) (c4 (aD (List.getD d a false) (ab 0 (List.length (List.getD b a [])) (List.getD b a [])) (List.getD e a 0) (List.getD f a false) (ab 0 (List.length (List.getD c a [])) (List.getD c a [])) (List.getD g a 0))))))))))
    (.leaf (.inr (.inl (o,k,h,i,j,l))))
def akS(a:Nat)(b:Nat)(c:Bool)(d:List Int)(e:Nat)(f:Nat)(g:Int) :T ((Nat×Nat×Bool×(List Int)×Nat×Nat×Int)⊕((Nat×Bool×(List Int)×Nat×Nat×Int)⊕(fC))) :=
  .need (di .i64 (((a+1):Nat):Int))<|.leaf (.inl (b,(a+1),c,d,e,f,g))
def AZ(b:Nat)(c:List Bool)(d:List (List Int))(e:List Int)(f:Nat)(g:List Bool)(h:List (List Int))(i:List Int) :Nat×Nat×Bool×(List Int)×Nat×Nat×Int→Option ((Nat×Nat×Bool×(List Int)×Nat×Nat×Int)⊕((Nat×Bool×(List Int)×Nat×Nat×Int)⊕(fC))):=fun (j,a,k,l,m,n,o) =>
  aC ((Ig b c d e f g h i j a k l m n o).run) fun (p,q,r,s,t,u) =>
  (akS a p q r s t u).run
theorem akT(j:Lv)(a:Nat)(b:List Bool)(c:List (List Int))(d:List Int)(k:Lv)(e:Nat)(f:List Bool)(g:List (List Int))(h:List Int)(i:Bool)(m:Nat)(l:Nat)(n:Bool)(o:List Int)(p:Nat)(q:Nat)(r:Int) :Sg prog [] akQ (KT j a b c d k e f g h i (m,l,n,o,p,q,r)) (AZ a b c d e f g h (m,l,n,o,p,q,r)) (KT j a b c d k e f g h i) (cy 0 (RS i) Ie):=by
  unfold AZ;exact Sg.cut 3 (az uW) (bj na (akR j a b c d k e f g h i l) [⟨[],[0,1],[4,6,7]⟩,⟨[],[0,1],[4,6,7]⟩,⟨[],[0,1],[0,1,4,6,7,18,19]⟩,⟨[],[0,1],[4,6,7]⟩]) (fun ⟨s,t,u,v,w,x⟩=>bj na _ [⟨[],[0,1],[0,1,4,6,7,18,19]⟩])
def akU(a:Nat)(b:Bool)(c:List Int)(d:Nat)(e:Nat)(f:Int) :T ((Empty)⊕(fC)) :=
  .ask (((a:Nat):Int) != (0:Int))
    (.leaf (.inr (.r0 a false ([]:List Int) 0 0 (0:Int))))
    (.leaf (.inr (.r0 0 b c d e f)))
def dw(a:Nat)(c:List Bool)(d:List (List Int))(e:List Int)(b:Nat)(f:List Bool)(g:List (List Int))(h:List Int) :Option fC:=jM (aC ((akN).run) fun p =>
  aC ((akP a b).run) fun i =>
  aC (dh (AZ a c d e b f g h) (0,0,i,([]:List Int),0,0,(0:Int))) fun (j,k,l,m,n,o) =>
  (akU j k l m n o).run)
theorem aow(j:Lv)(a:Nat)(c:List Bool)(d:List (List Int))(e:List Int)(k:Lv)(b:Nat)(f:List Bool)(g:List (List Int))(i:List Int){x:fC}(h:dw a c d e b f g i=some x) :ay prog GU [] [.imm j (.cols a [.cb c,.cns .u64 d,.ci .i64 e]) 3 3 0 a,.imm k (.cols b [.cb f,.cns .u64 g,.ci .i64 i]) 3 3 0 b] (Pe x) :=
  kf true Pe Ie h (Sg.cut 1 uW (bj na (aou j a c d e k b f g i) [⟨[],[0],[0,1,4]⟩]) (fun l=>OD (by kernel_rfl:(If.drop 1)=[.scope (LR (((If.drop 1)).headD .skip))]) uW (Sg.cut 5 uW (bj na (aov j a c d e k b f g i l) [⟨[(.cell 0 1,.fre 1 1 (.ns .u64 ([]:List Int)))],[0],[4,5]⟩,⟨[],[0,81],[0,1,4,6,7,18,19]⟩]) (fun A=>Sg.cut 1 uW (AD ⟨[(.cell 1 1,.fre 1 1 (.ns .u64 ([]:List Int)))],[0,1],[0,1,4,6,7,18,19]⟩ (KT j a c d e k b f g i l) (RS l) 0 uW (aot _) (fun ⟨m,n,o,p,q,r,s⟩=>akT j a c d e k b f g i l m n o p q r s)) (fun ⟨B,C,D,E,F,G⟩=>bj na _ [⟨[(.cell 0 1,.fre 1 1 (.ns .u64 ([]:List Int)))],[0],[4,5]⟩,⟨[],[0],[4,5]⟩])))))
    (fun x=>by cases x with | r0 t u v w y z=>exact jN [.agg [.bool false u,.imm .free (.ns .u64 v) 1 1 w y,.int .i64 z],.int .i64 ((t:Nat):Int)])
def uX:Option fC→Bool
  | some _=>true
  | none=>false
def sG:Option fC→Nat
  | some (.r0 x _ _ _ _ _)=>x
  | _=>0
def sH:Option fC→Bool
  | some (.r0 _ x _ _ _ _)=>x
  | _=>false
def sI:Option fC→List Int
  | some (.r0 _ _ x _ _ _)=>x
  | _=>[]
def sJ:Option fC→Nat
  | some (.r0 _ _ _ x _ _)=>x
  | _=>0
def sK:Option fC→Nat
  | some (.r0 _ _ _ _ x _)=>x
  | _=>0
def sL:Option fC→Int
  | some (.r0 _ _ _ _ _ x)=>x
  | _=>0
theorem aox{x:Option fC}(h:uX x=true) :x=some (.r0 (sG x) (sH x) (sI x) (sJ x) (sK x) (sL x)):=by
  unfold uX at h
  split at h<;>first | rfl | (cases h;done) | (rename_i y;cases y;rfl)
def aaN:aM:=bK GU (.cons (.cols [.cb,.cns .u64,.ci .i64]) (.cons (.cols [.cb,.cns .u64,.ci .i64]) .nil)) fun t=>(fun q=>[⟨Pe (.r0 (sG q) (sH q) (sI q) (sJ q) (sK q) (sL q)),[uX q]⟩]) (dw t.1.2.1 t.1.2.2.1 t.1.2.2.2.1 t.1.2.2.2.2.1 t.2.1.2.1 t.2.1.2.2.1 t.2.1.2.2.2.1 t.2.1.2.2.2.2.1)
theorem ae8:aY prog aaN:=aR fun t=>(aS (fun h=>aow t.1.1 t.1.2.1 t.1.2.2.1 t.1.2.2.2.1 t.1.2.2.2.2.1 t.2.1.1 t.2.1.2.1 t.2.1.2.2.1 t.2.1.2.2.2.1 t.2.1.2.2.2.2.1 (aox h)) bc)
def aaO:List aM:=aaN::RR
theorem Fi:be prog (bh aaO):=ax ae8 na
inductive dZ where
  | r0 (a:Nat) (b:Bool) (c:List Int) (d:Nat) (e:Nat) (f:Int)
def KU:dZ→AE×aQ
  | .r0 a b c d e f=>(.ret,⟨an 9 [(2,.ptr 0 1 0 0),(3,.int .i64 ((a:Nat):Int))],[(0,.vs [.bool false b,.imm .free (.ns .u64 c) 1 1 d e,.int .i64 f])],1⟩)
theorem W2:jJ KU:=by intro x;cases x<;>(intro h;cases h)
def B9:dZ→gM
  | .r0 a b c d e f=>⟨.tup [.agg [.bool false b,.imm .free (.ns .u64 c) 1 1 d e,.int .i64 f],.int .i64 ((a:Nat):Int)],[]⟩
def W3:Nat×Bool×(List Int)×Nat×Nat×Int→aQ:=fun (a,b,c,d,e,f)=>⟨an 9 [(2,.ptr 0 1 0 0),(3,.int .i64 ((a:Nat):Int))],[(0,.vs [.bool false b,.imm .free (.ns .u64 c) 1 1 d e,.int .i64 f])],1⟩
def I1(a:Nat)(b:List Bool)(c:List (List Int))(d:List Int) :T ((Nat×Bool×(List Int)×Nat×Nat×Int)⊕(dZ)) :=
  .need (Nat.ble (0+a) a)<|.need (Nat.ble (0+a) a)<|.need (uX (dw a (ab 0 a b) (ab 0 a c) (ab 0 a d) a (ab 0 a b) (ab 0 a c) (ab 0 a d)))<|.leaf (.inl ((sG (dw a (ab 0 a b) (ab 0 a c) (ab 0 a d) a (ab 0 a b) (ab 0 a c) (ab 0 a d))),(sH (dw a (ab 0 a b) (ab 0 a c) (ab 0 a d) a (ab 0 a b) (ab 0 a c) (ab 0 a d))),(sI (dw a (ab 0 a b) (ab 0 a c) (ab 0 a d) a (ab 0 a b) (ab 0 a c) (ab 0 a d))),(sJ (dw a (ab 0 a b) (ab 0 a c) (ab 0 a d) a (ab 0 a b) (ab 0 a c) (ab 0 a d))),(sK (dw a (ab 0 a b) (ab 0 a c) (ab 0 a d) a (ab 0 a b) (ab 0 a c) (ab 0 a d))),(sL (dw a (ab 0 a b) (ab 0 a c) (ab 0 a d) a (ab 0 a b) (ab 0 a c) (ab 0 a d)))))
def W4(a:Nat)(b:Bool)(c:List Int)(d:Nat)(e:Nat)(f:Int) :T ((Empty)⊕(dZ)) :=
  .leaf (.inr (.r0 a b c d e f))
def bZ(a:Nat)(b:List Bool)(c:List (List Int))(d:List Int) :Option dZ:=jM (aC ((I1 a b c d).run) fun (e,f,g,h,i,j) =>
  (W4 e f g h i j).run)
theorem W5(e:Lv)(a:Nat)(b:List Bool)(c:List (List Int))(d:List Int){x:dZ}(h:bZ a b c d=some x) :ay prog Br [] [.imm e (.cols a [.cb b,.cns .u64 c,.ci .i64 d]) 3 3 0 a] (B9 x) :=
  kf true B9 KU h (Sg.cut 2 W2 (bj Fi W3 [⟨[],[0],[2,3]⟩]) (fun ⟨m,n,o,p,q,r⟩=>bj Fi _ [⟨[],[0],[2,3]⟩]))
    (fun x=>by cases x with | r0 f g i j k l=>exact jN [.agg [.bool false g,.imm .free (.ns .u64 i) 1 1 j k,.int .i64 l],.int .i64 ((f:Nat):Int)])
def nc:Option dZ→Bool
  | some _=>true
  | none=>false
def nJ:Option dZ→Nat
  | some (.r0 x _ _ _ _ _)=>x
  | _=>0
def nK:Option dZ→Bool
  | some (.r0 _ x _ _ _ _)=>x
  | _=>false
def nL:Option dZ→List Int
  | some (.r0 _ _ x _ _ _)=>x
  | _=>[]
def nN:Option dZ→Nat
  | some (.r0 _ _ _ x _ _)=>x
  | _=>0
def nO:Option dZ→Nat
  | some (.r0 _ _ _ _ x _)=>x
  | _=>0
def nP:Option dZ→Int
  | some (.r0 _ _ _ _ _ x)=>x
  | _=>0
theorem W6{x:Option dZ}(h:nc x=true) :x=some (.r0 (nJ x) (nK x) (nL x) (nN x) (nO x) (nP x)):=by
  unfold nc at h
  split at h<;>first | rfl | (cases h;done) | (rename_i y;cases y;rfl)
def KV:aM:=bK Br (.cons (.cols [.cb,.cns .u64,.ci .i64]) .nil) fun t=>(fun q=>[⟨B9 (.r0 (nJ q) (nK q) (nL q) (nN q) (nO q) (nP q)),[nc q]⟩]) (bZ t.1.2.1 t.1.2.2.1 t.1.2.2.2.1 t.1.2.2.2.2.1)
theorem RT:aY prog KV:=aR fun t=>(aS (fun h=>W5 t.1.1 t.1.2.1 t.1.2.2.1 t.1.2.2.2.1 t.1.2.2.2.2.1 (W6 h)) bc)
def KW:List aM:=KV::aaO
theorem qj:be prog (bh KW):=ax RT Fi
inductive f9 where
  | r0 (a:Nat) (b:Bool) (c:List Int) (d:Nat) (e:Nat) (f:Int)
def V3:f9→AE×aQ
  | .r0 a b c d e f=>(.ret,⟨an 23 [(2,.ptr 0 1 0 0),(3,.int .i64 ((a:Nat):Int))],[(0,.vs [.bool false b,.imm .free (.ns .u64 c) 1 1 d e,.int .i64 f])],1⟩)
theorem RU:jJ V3:=by intro x;cases x<;>(intro h;cases h)
def KX:f9→gM
  | .r0 a b c d e f=>⟨.tup [.agg [.bool false b,.imm .free (.ns .u64 c) 1 1 d e,.int .i64 f],.int .i64 ((a:Nat):Int)],[]⟩
def akV(b:Int)(c:Int)(d:Lv)(a:List Nat)(e:Bool) :aQ:=⟨an 23 [(1,.ptr 0 1 0 0),(2,.ptr 1 1 0 0)],[(0,.vs [.int .i64 b,.int .i64 c,.imm d (.fl a) 1 1 0 (List.length a)]),(1,.vs [.bool false e,.nsl,.int .i64 (0:Int)])],2⟩
def RV(b : Int)(c : Int)(a : List Nat) : T ((Bool) ⊕ (f9)) :=
  .ask (decide ((0:Int)<(1:Int)))
    (.need (fv (0:Int) 1)<|.need (aG 0 (List.length a) a)<|.need (eU (cu b c (ab 0 (List.length a) a)))<|.ask (dT (cu b c (ab 0 (List.length a) a)))
      (.ask (!(!(decide ((0:Int)≥(0:Int)))))
        (.leaf (.inr (.r0 2 false ([]:List Int) 0 0 (0:Int))))
        (.fail))
      (.need (di .i64 (1:Int))<|.ask (decide ((1:Int)<(1:Int)))
        (.fail)
        (.ask (!(!(decide ((-1:Int)≥(0:Int)))))
          (.fail)
          (.ask (decide ((0:Int)<(1:Int)))
            (.need (fv (0:Int) 1)<|.need (aG 0 (List.length a) a)<|.need (aV (au (ab 0 (List.length a) a)))<|.ask (decide ((aW (au (ab 0 (List.length a) a)))≥(0:Int)))
              (.leaf (.inr (.r0 10 false ([]:List Int) 0 0 (0:Int))))
              (.need (di .i64 (1:Int))<|.ask (decide ((1:Int)<(1:Int)))
                (.fail)
                (.leaf (.inl false))))
            (.fail)))))
    (.fail)
def akW:Nat×Bool×(List Int)×Nat×Nat×Int→aQ:=fun (a,b,c,d,e,f)=>⟨an 23 [(2,.ptr 0 1 0 0),(3,.int .i64 ((a:Nat):Int))],[(0,.vs [.bool false b,.imm .free (.ns .u64 c) 1 1 d e,.int .i64 f])],1⟩
def RW(a:List Nat) :T ((Nat×Bool×(List Int)×Nat×Nat×Int)⊕(f9)) :=
  .need (aG 0 (List.length a) a)<|.need (jj (aE (ab 0 (List.length a) a)))<|.need (Nat.ble (0+(bg (aE (ab 0 (List.length a) a)))) (bg (aE (ab 0 (List.length a) a))))<|.need (nc (bZ (bg (aE (ab 0 (List.length a) a))) (ab 0 (bg (aE (ab 0 (List.length a) a))) (dq (aE (ab 0 (List.length a) a)))) (ab 0 (bg (aE (ab 0 (List.length a) a))) (dr (aE (ab 0 (List.length a) a)))) (ab 0 (bg (aE (ab 0 (List.length a) a))) (dt (aE (ab 0 (List.length a) a))))))<|.leaf (.inl ((nJ (bZ (bg (aE (ab 0 (List.length a) a))) (ab 0 (bg (aE (ab 0 (List.length a) a))) (dq (aE (ab 0 (List.length a) a)))) (ab 0 (bg (aE (ab 0 (List.length a) a))) (dr (aE (ab 0 (List.length a) a)))) (ab 0 (bg (aE (ab 0 (List.length a) a))) (dt (aE (ab 0 (List.length a) a)))))),(nK (bZ (bg (aE (ab 0 (List.length a) a))) (ab 0 (bg (aE (ab 0 (List.length a) a))) (dq (aE (ab 0 (List.length a) a)))) (ab 0 (bg (aE (ab 0 (List.length a) a))) (dr (aE (ab 0 (List.length a) a)))) (ab 0 (bg (aE (ab 0 (List.length a) a))) (dt (aE (ab 0 (List.length a) a)))))),(nL (bZ (bg (aE (ab 0 (List.length a) a))) (ab 0 (bg (aE (ab 0 (List.length a) a))) (dq (aE (ab 0 (List.length a) a)))) (ab 0 (bg (aE (ab 0 (List.length a) a))) (dr (aE (ab 0 (List.length a) a)))) (ab 0 (bg (aE (ab 0 (List.length a) a))) (dt (aE (ab 0 (List.length a) a)))))),(nN (bZ (bg (aE (ab 0 (List.length a) a))) (ab 0 (bg (aE (ab 0 (List.length a) a))) (dq (aE (ab 0 (List.length a) a)))) (ab 0 (bg (aE (ab 0 (List.length a) a))) (dr (aE (ab 0 (List.length a) a)))) (ab 0 (bg (aE (ab 0 (List.length a) a))) (dt (aE (ab 0 (List.length a) a)))))),(nO (bZ (bg (aE (ab 0 (List.length a) a))) (ab 0 (bg (aE (ab 0 (List.length a) a))) (dq (aE (ab 0 (List.length a) a)))) (ab 0 (bg (aE (ab 0 (List.length a) a))) (dr (aE (ab 0 (List.length a) a)))) (ab 0 (bg (aE (ab 0 (List.length a) a))) (dt (aE (ab 0 (List.length a) a)))))),(nP (bZ (bg (aE (ab 0 (List.length a) a))) (ab 0 (bg (aE (ab 0 (List.length a) a))) (dq (aE (ab 0 (List.length a) a)))) (ab 0 (bg (aE (ab 0 (List.length a) a))) (dr (aE (ab 0 (List.length a) a)))) (ab 0 (bg (aE (ab 0 (List.length a) a))) (dt (aE (ab 0 (List.length a) a))))))))
def akX(a:Nat)(b:Bool)(c:List Int)(d:Nat)(e:Nat)(f:Int) :T ((Empty)⊕(f9)) :=
  .leaf (.inr (.r0 a b c d e f))
def cY(b:Int)(c:Int)(a:List Nat) :Option f9:=jM (aC ((RV b c a).run) fun j =>
  aC ((RW a).run) fun (d,e,f,g,h,i) =>
  (akX d e f g h i).run)
theorem akY(b:Int)(c:Int)(d:Lv)(a:List Nat){x:f9}(h:cY b c a=some x) :ay prog JC [] [.agg [.int .i64 b,.int .i64 c,.imm d (.fl a) 1 1 0 (List.length a)]] (KX x) :=
  kf true KX V3 h (Sg.cut 2 RU (bj qj (akV b c d a) [⟨[(.cell 16 1,.fre 1 1 (.ns .u64 ([]:List Int)))],[16],[2,3]⟩,⟨[(.cell 16 1,.fre 1 1 (.ns .u64 ([]:List Int)))],[16],[2,3]⟩,⟨[],[0,16],[1,2]⟩]) (fun l=>Sg.cut 1 RU (bj qj akW [⟨[],[1],[2,3]⟩]) (fun ⟨m,n,o,p,q,r⟩=>bj qj _ [⟨[],[0],[2,3]⟩])))
    (fun x=>by cases x with | r0 e f g i j k=>exact jN [.agg [.bool false f,.imm .free (.ns .u64 g) 1 1 i j,.int .i64 k],.int .i64 ((e:Nat):Int)])
def rL:Option f9→Bool
  | some _=>true
  | none=>false
def qW:Option f9→Nat
  | some (.r0 x _ _ _ _ _)=>x
  | _=>0
def qX:Option f9→Bool
  | some (.r0 _ x _ _ _ _)=>x
  | _=>false
def qY:Option f9→List Int
  | some (.r0 _ _ x _ _ _)=>x
  | _=>[]
def qZ:Option f9→Nat
  | some (.r0 _ _ _ x _ _)=>x
  | _=>0
def q7:Option f9→Nat
  | some (.r0 _ _ _ _ x _)=>x
  | _=>0
def q8:Option f9→Int
  | some (.r0 _ _ _ _ _ x)=>x
  | _=>0
theorem akZ{x:Option f9}(h:rL x=true) :x=some (.r0 (qW x) (qX x) (qY x) (qZ x) (q7 x) (q8 x)):=by
  unfold rL at h
  split at h<;>first | rfl | (cases h;done) | (rename_i y;cases y;rfl)
def V4:aM:=bK JC (.cons (.agg (.cons (.int .i64) (.cons (.int .i64) (.cons .fl .nil)))) .nil) fun t=>(fun q=>[⟨KX (.r0 (qW q) (qX q) (qY q) (qZ q) (q7 q) (q8 q)),[rL q]⟩]) (cY t.1.1 t.1.2.1 t.1.2.2.1.2)
theorem aaP:aY prog V4:=aR fun t=>(aS (fun h=>akY t.1.1 t.1.2.1 t.1.2.2.1.1 t.1.2.2.1.2 (akZ h)) bc)
def V5:List aM:=V4::KW
theorem v9:be prog (bh V5):=ax aaP qj
inductive g7 where
  | r0 (a:Nat) (b:List Bool) (c:List (List Int)) (d:List Int)
def DH:g7→AE×aQ
  | .r0 a b c d=>(.ret,⟨an 31 [(8,.sl 0 3 3 0 a a)],[(0,.cols a [.cb b,.cns .u64 c,.ci .i64 d])],1⟩)
theorem Ih:jJ DH:=by intro x;cases x<;>(intro h;cases h)
theorem ak0(id:Nat) :mP id DH:=by intro x;cases x<;>(intro h;cases h)
def KY:g7→gM
  | .r0 a b c d=>⟨.imm .free (.cols a [.cb b,.cns .u64 c,.ci .i64 d]) 3 3 0 a,[]⟩
def ak1:List Code:=cN (oa C7)
def ak2(c:Lv)(b:Nat)(d:List Bool)(e:List (List Int))(f:List Int)(g:Int)(h:Int) :Nat×Nat×(List Bool)×(List (List Int))×(List Int)→aQ:=fun (a,i,j,k,l)=>⟨an 31 [(0,.imm c (.cols b [.cb d,.cns .u64 e,.ci .i64 f]) 3 3 0 b),(1,.int .i64 g),(2,.int .i64 h),(9,.sl 0 3 3 0 a a),(14,.int .i64 ((i:Nat):Int)),(15,.int .i64 (0:Int))],[(0,.cols a [.cb j,.cns .u64 k,.ci .i64 l])],1⟩
def RX(a:Int) :T ((Nat×Nat×(List Bool)×(List (List Int))×(List Int))⊕(g7)) :=
  .need (decide ((0:Int)≤a))<|.need (decide (a≤a))<|.need (decide ((40:Int)*a≤140737488355328))<|.need (di .i64 a)<|.leaf (.inl ((Int.toNat a),(Int.toNat a),(List.replicate (Int.toNat a) false),(List.replicate (Int.toNat a) []),(List.replicate (Int.toNat a) (0:Int))))
def Ii(c:Lv)(b:Nat)(d:List Bool)(e:List (List Int))(f:List Int)(g:Int)(h:Int)(a:Nat)(i:Nat) :Nat×(List Bool)×(List (List Int))×(List Int)→aQ:=fun (j,k,l,m)=>⟨an 31 [(0,.imm c (.cols b [.cb d,.cns .u64 e,.ci .i64 f]) 3 3 0 b),(1,.int .i64 g),(2,.int .i64 h),(9,.sl 0 3 3 0 a a),(14,.int .i64 ((i:Nat):Int)),(15,.int .i64 ((j:Nat):Int))],[(0,.cols a [.cb k,.cns .u64 l,.ci .i64 m])],1⟩
def RY(a:Nat) :(List Bool)×(List (List Int))×(List Int)→aQ:=fun (b,c,d)=>⟨an 31 [(9,.sl 0 3 3 0 a a)],[(0,.cols a [.cb b,.cns .u64 c,.ci .i64 d])],1⟩
def ak3:List Code:=cN (dn ((((ak1.drop 3).take 1)).headD .skip))
def A0(j:Nat)(h:List Bool)(d:List (List Int))(i:List Int)(c:Int)(b:Int)(k:Nat)(l:Nat)(a:Nat)(e:List Bool)(f:List (List Int))(g:List Int) :T ((Nat×(List Bool)×(List (List Int))×(List Int))⊕(((List Bool)×(List (List Int))×(List Int))⊕(g7))) :=
  .ask (decide (((a:Nat):Int)<((l:Nat):Int)))
    (.need (di .i64 (((a:Nat):Int)*b))<|.need (di .i64 (c+(((a:Nat):Int)*b)))<|.need (fv (c+(((a:Nat):Int)*b)) j)<|.need (g9 (Int.toNat (c+(((a:Nat):Int)*b))) (List.length h))<|.need (g9 (Int.toNat (c+(((a:Nat):Int)*b))) (List.length d))<|.need (g9 (Int.toNat (c+(((a:Nat):Int)*b))) (List.length i))<|.need (fv ((a:Nat):Int) k)<|.need (g9 a (List.length e))<|.need (g9 a (List.length f))<|.need (decide (0+(List.length (List.getD d (Int.toNat (c+(((a:Nat):Int)*b))) []))≤List.length (List.getD d (Int.toNat (c+(((a:Nat):Int)*b))) [])))<|.need (g9 a (List.length g))<|.need (di .i64 (((a+1):Nat):Int))<|.leaf (.inl ((a+1),(List.set e a (List.getD h (Int.toNat (c+(((a:Nat):Int)*b))) false)),(List.set f a (List.take (List.length (List.getD d (Int.toNat (c+(((a:Nat):Int)*b))) [])) (List.drop 0 (List.getD d (Int.toNat (c+(((a:Nat):Int)*b))) [])))),(List.set g a (List.getD i (Int.toNat (c+(((a:Nat):Int)*b))) 0)))))
    (.leaf (.inr (.inl (e,f,g))))
def Fj(a:Nat)(b:List Bool)(c:List (List Int))(d:List Int)(e:Int)(f:Int)(g:Nat)(h:Nat) :Nat×(List Bool)×(List (List Int))×(List Int)→Option ((Nat×(List Bool)×(List (List Int))×(List Int))⊕(((List Bool)×(List (List Int))×(List Int))⊕(g7))):=fun (i,j,k,l) =>
  (A0 a b c d e f g h i j k l).run
theorem ae9(i:Lv)(b:Nat)(c:List Bool)(d:List (List Int))(e:List Int)(f:Int)(g:Int)(a:Nat)(h:Nat)(j:Nat)(k:List Bool)(l:List (List Int))(m:List Int) :Sg prog [] ak3 (Ii i b c d e f g a h (j,k,l,m)) (Fj b c d e f g a h (j,k,l,m)) (Ii i b c d e f g a h) (cy 0 (RY a) DH):=by
  unfold Fj;exact bj v9 _ [⟨[],[0],[0,1,2,9,14,15]⟩,⟨[],[0],[9]⟩]
def afa(a:Nat)(b:List Bool)(c:List (List Int))(d:List Int) :T ((Empty)⊕(g7)) :=
  .leaf (.inr (.r0 a b c d))
def ak(b:Nat)(c:List Bool)(d:List (List Int))(e:List Int)(f:Int)(g:Int)(h:Int) :Option g7:=jM (aC ((RX h).run) fun (a,i,j,k,l) =>
  aC (dh (Fj b c d e f g a i) (0,j,k,l)) fun (m,n,o) =>
  (afa a m n o).run)
theorem ak4(g:Lv)(a:Nat)(b:List Bool)(c:List (List Int))(d:List Int)(e:Int)(f:Int)(j:Int){x:g7}(h:ak a b c d e f j=some x) :ay prog C7 [] [.imm g (.cols a [.cb b,.cns .u64 c,.ci .i64 d]) 3 3 0 a,.int .i64 e,.int .i64 f,.int .i64 j] (KY x) :=
  kf true KY DH h (Sg.cut 3 Ih (bj v9 (ak2 g a b c d e f) [⟨[],[32],[0,1,2,9,14,15]⟩]) (fun ⟨i,k,q,r,s⟩=>Sg.cut 1 Ih (AD ⟨[],[0],[0,1,2,9,14,15]⟩ (Ii g a b c d e f i k) (RY i) 0 Ih (ak0 _) (fun ⟨m,n,o,p⟩=>ae9 g a b c d e f i k m n o p)) (fun ⟨t,u,v⟩=>bj v9 _ [⟨[],[0],[8]⟩])))
    (fun x=>by cases x with | r0 l w y z=>exact jN [.sl 0 3 3 0 l l])
def lR:Option g7→Bool
  | some _=>true
  | none=>false
def ao:Option g7→Nat
  | some (.r0 x _ _ _)=>x
  | _=>0
def bz:Option g7→List Bool
  | some (.r0 _ x _ _)=>x
  | _=>[]
def bB:Option g7→List (List Int)
  | some (.r0 _ _ x _)=>x
  | _=>[]
def bC:Option g7→List Int
  | some (.r0 _ _ _ x)=>x
  | _=>[]
theorem ak5{x:Option g7}(h:lR x=true) :x=some (.r0 (ao x) (bz x) (bB x) (bC x)):=by
  unfold lR at h
  split at h<;>first | rfl | (cases h;done) | (rename_i y;cases y;rfl)
def V6:aM:=bK C7 (.cons (.cols [.cb,.cns .u64,.ci .i64]) (.cons (.int .i64) (.cons (.int .i64) (.cons (.int .i64) .nil)))) fun t=>(fun q=>[⟨KY (.r0 (ao q) (bz q) (bB q) (bC q)),[lR q]⟩]) (ak t.1.2.1 t.1.2.2.1 t.1.2.2.2.1 t.1.2.2.2.2.1 t.2.1 t.2.2.1 t.2.2.2.1)
theorem aaQ:aY prog V6:=aR fun t=>(aS (fun h=>ak4 t.1.1 t.1.2.1 t.1.2.2.1 t.1.2.2.2.1 t.1.2.2.2.2.1 t.2.1 t.2.2.1 t.2.2.2.1 (ak5 h)) bc)
def V7:List aM:=V6::V5
theorem Ca:be prog (bh V7):=ax aaQ v9
inductive ju where
  | r0 (a:Nat) (b:Bool) (c:List Int) (d:Nat) (e:Nat) (f:Int)
def aaR:ju→AE×aQ
  | .r0 a b c d e f=>(.ret,⟨an 15 [(4,.ptr 0 1 0 0),(5,.int .i64 ((a:Nat):Int))],[(0,.vs [.bool false b,.imm .free (.ns .u64 c) 1 1 d e,.int .i64 f])],1⟩)
theorem aoy:jJ aaR:=by intro x;cases x<;>(intro h;cases h)
def Pf:ju→gM
  | .r0 a b c d e f=>⟨.tup [.agg [.bool false b,.imm .free (.ns .u64 c) 1 1 d e,.int .i64 f],.int .i64 ((a:Nat):Int)],[]⟩
def aoz:Nat×Bool×(List Int)×Nat×Nat×Int→aQ:=fun (a,b,c,d,e,f)=>⟨an 15 [(4,.ptr 0 1 0 0),(5,.int .i64 ((a:Nat):Int))],[(0,.vs [.bool false b,.imm .free (.ns .u64 c) 1 1 d e,.int .i64 f])],1⟩
def V8(c:Bool)(a:List Int)(d:Int)(e:Bool)(b:List Int)(f:Int) :T ((Nat×Bool×(List Int)×Nat×Nat×Int)⊕(ju)) :=
  .need (aG 0 (List.length a) a)<|.need (aG 0 (List.length b) b)<|.need (zf (dp c (ab 0 (List.length a) a) d (!e) (ab 0 (List.length b) b) f))<|.leaf (.inl ((p7 (dp c (ab 0 (List.length a) a) d (!e) (ab 0 (List.length b) b) f)),(sf (dp c (ab 0 (List.length a) a) d (!e) (ab 0 (List.length b) b) f)),(sh (dp c (ab 0 (List.length a) a) d (!e) (ab 0 (List.length b) b) f)),(si (dp c (ab 0 (List.length a) a) d (!e) (ab 0 (List.length b) b) f)),(sj (dp c (ab 0 (List.length a) a) d (!e) (ab 0 (List.length b) b) f)),(sk (dp c (ab 0 (List.length a) a) d (!e) (ab 0 (List.length b) b) f))))
def aoA(a:Nat)(b:Bool)(c:List Int)(d:Nat)(e:Nat)(f:Int) :T ((Empty)⊕(ju)) :=
  .leaf (.inr (.r0 a b c d e f))
def gd(a:Bool)(b:List Int)(c:Int)(d:Bool)(e:List Int)(f:Int) :Option ju:=jM (aC ((V8 a b c d e f).run) fun (g,h,i,j,k,l) =>
  (aoA g h i j k l).run)
theorem aoB(c:Bool)(g:Lv)(a:List Int)(d:Int)(e:Bool)(i:Lv)(b:List Int)(f:Int){x:ju}(h:gd c a d e b f=some x) :ay prog Ow [] [.agg [.bool false c,.imm g (.ns .u64 a) 1 1 0 (List.length a),.int .i64 d],.agg [.bool false e,.imm i (.ns .u64 b) 1 1 0 (List.length b),.int .i64 f]] (Pf x) :=
  kf true Pf aaR h (Sg.cut 3 aoy (bj Ca aoz [⟨[],[32],[4,5]⟩]) (fun ⟨p,q,r,s,t,u⟩=>bj Ca _ [⟨[],[0],[4,5]⟩]))
    (fun x=>by cases x with | r0 j k l m n o=>exact jN [.agg [.bool false k,.imm .free (.ns .u64 l) 1 1 m n,.int .i64 o],.int .i64 ((j:Nat):Int)])
def zk:Option ju→Bool
  | some _=>true
  | none=>false
def yP:Option ju→Nat
  | some (.r0 x _ _ _ _ _)=>x
  | _=>0
def yQ:Option ju→Bool
  | some (.r0 _ x _ _ _ _)=>x
  | _=>false
def yR:Option ju→List Int
  | some (.r0 _ _ x _ _ _)=>x
  | _=>[]
def yS:Option ju→Nat
  | some (.r0 _ _ _ x _ _)=>x
  | _=>0
def yT:Option ju→Nat
  | some (.r0 _ _ _ _ x _)=>x
  | _=>0
def yU:Option ju→Int
  | some (.r0 _ _ _ _ _ x)=>x
  | _=>0
theorem aoC{x:Option ju}(h:zk x=true) :x=some (.r0 (yP x) (yQ x) (yR x) (yS x) (yT x) (yU x)):=by
  unfold zk at h
  split at h<;>first | rfl | (cases h;done) | (rename_i y;cases y;rfl)
def aaS:aM:=bK Ow (.cons (.agg (.cons .bool (.cons (.ns .u64) (.cons (.int .i64) .nil)))) (.cons (.agg (.cons .bool (.cons (.ns .u64) (.cons (.int .i64) .nil)))) .nil)) fun t=>(fun q=>[⟨Pf (.r0 (yP q) (yQ q) (yR q) (yS q) (yT q) (yU q)),[zk q]⟩]) (gd t.1.1 t.1.2.1.2 t.1.2.2.1 t.2.1.1 t.2.1.2.1.2 t.2.1.2.2.1)
theorem afb:aY prog aaS:=aR fun t=>(aS (fun h=>aoB t.1.1 t.1.2.1.1 t.1.2.1.2 t.1.2.2.1 t.2.1.1 t.2.1.2.1.1 t.2.1.2.1.2 t.2.1.2.2.1 (aoC h)) bc)
def aaT:List aM:=aaS::V7
theorem sM:be prog (bh aaT):=ax afb Ca
inductive dP where
  | r0 (a:Nat) (b:Bool) (c:List Int) (d:Nat) (e:Nat) (f:Int)
def Nk:dP→AE×aQ
  | .r0 a b c d e f=>(.ret,⟨an 43 [(7,.ptr 0 1 0 0),(8,.int .i64 ((a:Nat):Int))],[(0,.vs [.bool false b,.imm .free (.ns .u64 c) 1 1 d e,.int .i64 f])],1⟩)
theorem Cb:jJ Nk:=by intro x;cases x<;>(intro h;cases h)
def Fk:dP→gM
  | .r0 a b c d e f=>⟨.tup [.agg [.bool false b,.imm .free (.ns .u64 c) 1 1 d e,.int .i64 f],.int .i64 ((a:Nat):Int)],[]⟩
def aaU(b:Int)(c:Int)(d:Lv)(e:Bool)(f:Lv)(a:List Int)(g:Int) :Nat×Bool×Bool×(List Int)×Nat×Nat×Int→aQ:=fun (h,i,j,k,l,m,n)=>⟨an 43 [(0,.int .i64 b),(1,.int .i64 c),(4,.iptr d (.vs [.bool false e,.imm f (.ns .u64 a) 1 1 0 (List.length a),.int .i64 g]) 1 0 0),(7,.ptr 0 1 0 0),(9,.ptr 1 1 0 0),(10,.int .i64 ((h:Nat):Int))],[(0,.vs [.bool false i,.nsl,.int .i64 (0:Int)]),(1,.vs [.bool false j,.imm .free (.ns .u64 k) 1 1 l m,.int .i64 n])],2⟩
def Cc(g:Int)(h:Int)(a:Nat)(b:List Bool)(c:List (List Int))(d:List Int)(e:Int)(f:Int) :T ((Nat×Bool×Bool×(List Int)×Nat×Nat×Int)⊕(dP)) :=
  .need (Nat.ble (0+a) a)<|.need (lR (ak a (ab 0 a b) (ab 0 a c) (ab 0 a d) g f e))<|.need (Nat.ble (0+a) a)<|.need (lR (ak a (ab 0 a b) (ab 0 a c) (ab 0 a d) h f e))<|.need (Nat.ble (0+(ao (ak a (ab 0 a b) (ab 0 a c) (ab 0 a d) g f e))) (ao (ak a (ab 0 a b) (ab 0 a c) (ab 0 a d) g f e)))<|.need (Nat.ble (0+(ao (ak a (ab 0 a b) (ab 0 a c) (ab 0 a d) h f e))) (ao (ak a (ab 0 a b) (ab 0 a c) (ab 0 a d) h f e)))<|.need (uX (dw (ao (ak a (ab 0 a b) (ab 0 a c) (ab 0 a d) g f e)) (ab 0 (ao (ak a (ab 0 a b) (ab 0 a c) (ab 0 a d) g f e)) (bz (ak a (ab 0 a b) (ab 0 a c) (ab 0 a d) g f e))) (ab 0 (ao (ak a (ab 0 a b) (ab 0 a c) (ab 0 a d) g f e)) (bB (ak a (ab 0 a b) (ab 0 a c) (ab 0 a d) g f e))) (ab 0 (ao (ak a (ab 0 a b) (ab 0 a c) (ab 0 a d) g f e)) (bC (ak a (ab 0 a b) (ab 0 a c) (ab 0 a d) g f e))) (ao (ak a (ab 0 a b) (ab 0 a c) (ab 0 a d) h f e)) (ab 0 (ao (ak a (ab 0 a b) (ab 0 a c) (ab 0 a d) h f e)) (bz (ak a (ab 0 a b) (ab 0 a c) (ab 0 a d) h f e))) (ab 0 (ao (ak a (ab 0 a b) (ab 0 a c) (ab 0 a d) h f e)) (bB (ak a (ab 0 a b) (ab 0 a c) (ab 0 a d) h f e))) (ab 0 (ao (ak a (ab 0 a b) (ab 0 a c) (ab 0 a d) h f e)) (bC (ak a (ab 0 a b) (ab 0 a c) (ab 0 a d) h f e)))))<|.leaf (.inl ((sG (dw (ao (ak a (ab 0 a b) (ab 0 a c) (ab 0 a d) g f e)) (ab 0 (ao (ak a (ab 0 a b) (ab 0 a c) (ab 0 a d) g f e)) (bz (ak a (ab 0 a b) (ab 0 a c) (ab 0 a d) g f e))) (ab 0 (ao (ak a (ab 0 a b) (ab 0 a c) (ab 0 a d) g f e)) (bB (ak a (ab 0 a b) (ab 0 a c) (ab 0 a d) g f e))) (ab 0 (ao (ak a (ab 0 a b) (ab 0 a c) (ab 0 a d) g f e)) (bC (ak a (ab 0 a b) (ab 0 a c) (ab 0 a d) g f e))) (ao (ak a (ab 0 a b) (ab 0 a c) (ab 0 a d) h f e)) (ab 0 (ao (ak a (ab 0 a b) (ab 0 a c) (ab 0 a d) h f e)) (bz (ak a (ab 0 a b) (ab 0 a c) (ab 0 a d) h f e))) (ab 0 (ao (ak a (ab 0 a b) (ab 0 a c) (ab 0 a d) h f e)) (bB (ak a (ab 0 a b) (ab 0 a c) (ab 0 a d) h f e))) (ab 0 (ao (ak a (ab 0 a b) (ab 0 a c) (ab 0 a d) h f e)) (bC (ak a (ab 0 a b) (ab 0 a c) (ab 0 a d) h f e))))),false,(sH (dw (ao (ak a (ab 0 a b) (ab 0 a c) (ab 0 a d) g f e)) (ab 0 (ao (ak a (ab 0 a b) (ab 0 a c) (ab 0 a d) g f e)) (bz (ak a (ab 0 a b) (ab 0 a c) (ab 0 a d) g f e))) (ab 0 (ao (ak a (ab 0 a b) (ab 0 a c) (ab 0 a d) g f e)) (bB (ak a (ab 0 a b) (ab 0 a c) (ab 0 a d) g f e))) (ab 0 (ao (ak a (ab 0 a b) (ab 0 a c) (ab 0 a d) g f e)) (bC (ak a (ab 0 a b) (ab 0 a c) (ab 0 a d) g f e))) (ao (ak a (ab 0 a b) (ab 0 a c) (ab 0 a d) h f e)) (ab 0 (ao (ak a (ab 0 a b) (ab 0 a c) (ab 0 a d) h f e)) (bz (ak a (ab 0 a b) (ab 0 a c) (ab 0 a d) h f e))) (ab 0 (ao (ak a (ab 0 a b) (ab 0 a c) (ab 0 a d) h f e)) (bB (ak a (ab 0 a b) (ab 0 a c) (ab 0 a d) h f e))) (ab 0 (ao (ak a (ab 0 a b) (ab 0 a c) (ab 0 a d) h f e)) (bC (ak a (ab 0 a b) (ab 0 a c) (ab 0 a d) h f e))))),(sI (dw (ao (ak a (ab 0 a b) (ab 0 a c) (ab 0 a d) g f e)) (ab 0 (ao (ak a (ab 0 a b) (ab 0 a c) (ab 0 a d) g f e)) (bz (ak a (ab 0 a b) (ab 0 a c) (ab 0 a d) g f e))) (ab 0 (ao (ak a (ab 0 a b) (ab 0 a c) (ab 0 a d) g f e)) (bB (ak a (ab 0 a b) (ab 0 a c) (ab 0 a d) g f e))) (ab 0 (ao (ak a (ab 0 a b) (ab 0 a c) (ab 0 a d) g f e)) (bC (ak a (ab 0 a b) (ab 0 a c) (ab 0 a d) g f e))) (ao (ak a (ab 0 a b) (ab 0 a c) (ab 0 a d) h f e)) (ab 0 (ao (ak a (ab 0 a b) (ab 0 a c) (ab 0 a d) h f e)) (bz (ak a (ab 0 a b) (ab 0 a c) (ab 0 a d) h f e))) (ab 0 (ao (ak a (ab 0 a b) (ab 0 a c) (ab 0 a d) h f e)) (bB (ak a (ab 0 a b) (ab 0 a c) (ab 0 a d) h f e))) (ab 0 (ao (ak a (ab 0 a b) (ab 0 a c) (ab 0 a d) h f e)) (bC (ak a (ab 0 a b) (ab 0 a c) (ab 0 a d) h f e))))),(sJ (dw (ao (ak a (ab 0 a b) (ab 0 a c) (ab 0 a d) g f e)) (ab 0 (ao (ak a (ab 0 a b) (ab 0 a c) (ab 0 a d) g f e)) (bz (ak a (ab 0 a b) (ab 0 a c) (ab 0 a d) g f e))) (ab 0 (ao (ak a (ab 0 a b) (ab 0 a c) (ab 0 a d) g f e)) (bB (ak a (ab 0 a b) (ab 0 a c) (ab 0 a d) g f e))) (ab 0 (ao (ak a (ab 0 a b) (ab 0 a c) (ab 0 a d) g f e)) (bC (ak a (ab 0 a b) (ab 0 a c) (ab 0 a d) g f e))) (ao (ak a (ab 0 a b) (ab 0 a c) (ab 0 a d) h f e)) (ab 0 (ao (ak a (ab 0 a b) (ab 0 a c) (ab 0 a d) h f e)) (bz (ak a (ab 0 a b) (ab 0 a c) (ab 0 a d) h f e))) (ab 0 (ao (ak a (ab 0 a b) (ab 0 a c) (ab 0 a d) h f e)) (bB (ak a (ab 0 a b) (ab 0 a c) (ab 0 a d) h f e))) (ab 0 (ao (ak a (ab 0 a b) (ab 0 a c) (ab 0 a d) h f e)) (bC (ak a (ab 0 a b) (ab 0 a c) (ab 0 a d) h f e))))),(sK (dw (ao (ak a (ab 0 a b) (ab 0 a c) (ab 0 a d) g f e)) (ab 0 (ao (ak a (ab 0 a b) (ab 0 a c) (ab 0 a d) g f e)) (bz (ak a (ab 0 a b) (ab 0 a c) (ab 0 a d) g f e))) (ab 0 (ao (ak a (ab 0 a b) (ab 0 a c) (ab 0 a d) g f e)) (bB (ak a (ab 0 a b) (ab 0 a c) (ab 0 a d) g f e))) (ab 0 (ao (ak a (ab 0 a b) (ab 0 a c) (ab 0 a d) g f e)) (bC (ak a (ab 0 a b) (ab 0 a c) (ab 0 a d) g f e))) (ao (ak a (ab 0 a b) (ab 0 a c) (ab 0 a d) h f e)) (ab 0 (ao (ak a (ab 0 a b) (ab 0 a c) (ab 0 a d) h f e)) (bz (ak a (ab 0 a b) (ab 0 a c) (ab 0 a d) h f e))) (ab 0 (ao (ak a (ab 0 a b) (ab 0 a c) (ab 0 a d) h f e)) (bB (ak a (ab 0 a b) (ab 0 a c) (ab 0 a d) h f e))) (ab 0 (ao (ak a (ab 0 a b) (ab 0 a c) (ab 0 a d) h f e)) (bC (ak a (ab 0 a b) (ab 0 a c) (ab 0 a d) h f e))))),(sL (dw (ao (ak a (ab 0 a b) (ab 0 a c) (ab 0 a d) g f e)) (ab 0 (ao (ak a (ab 0 a b) (ab 0 a c) (ab 0 a d) g f e)) (bz (ak a (ab 0 a b) (ab 0 a c) (ab 0 a d) g f e))) (ab 0 (ao (ak a (ab 0 a b) (ab 0 a c) (ab 0 a d) g f e)) (bB (ak a (ab 0 a b) (ab 0 a c) (ab 0 a d) g f e))) (ab 0 (ao (ak a (ab 0 a b) (ab 0 a c) (ab 0 a d) g f e)) (bC (ak a (ab 0 a b) (ab 0 a c) (ab 0 a d) g f e))) (ao (ak a (ab 0 a b) (ab 0 a c) (ab 0 a d) h f e)) (ab 0 (ao (ak a (ab 0 a b) (ab 0 a c) (ab 0 a d) h f e)) (bz (ak a (ab 0 a b) (ab 0 a c) (ab 0 a d) h f e))) (ab 0 (ao (ak a (ab 0 a b) (ab 0 a c) (ab 0 a d) h f e)) (bB (ak a (ab 0 a b) (ab 0 a c) (ab 0 a d) h f e))) (ab 0 (ao (ak a (ab 0 a b) (ab 0 a c) (ab 0 a d) h f e)) (bC (ak a (ab 0 a b) (ab 0 a c) (ab 0 a d) h f e)))))))
def aaV(b:Lv)(c:Bool)(d:Lv)(a:List Int)(e:Int)(f:Nat)(g:Bool)(h:Bool)(i:List Int)(j:Nat)(k:Nat)(l:Int)(m:Bool) :aQ:=⟨an 43 [(4,.iptr b (.vs [.bool false c,.imm d (.ns .u64 a) 1 1 0 (List.length a),.int .i64 e]) 1 0 0),(7,.ptr 0 1 0 0),(9,.ptr 1 1 0 0),(10,.int .i64 ((f:Nat):Int)),(35,.bool false m)],[(0,.vs [.bool false g,.nsl,.int .i64 (0:Int)]),(1,.vs [.bool false h,.imm .free (.ns .u64 i) 1 1 j k,.int .i64 l])],2⟩
def Cd(a:Int)(b:Int)(c:Nat) :T ((Bool)⊕(dP)) :=
  .ask (((c:Nat):Int) != (0:Int))
    (.leaf (.inl true))
    (.leaf (.inl (a != b)))
def aaW:Nat×Bool×(List Int)×Nat×Nat×Int→aQ:=fun (a,b,c,d,e,f)=>⟨an 43 [(7,.ptr 0 1 0 0),(8,.int .i64 ((a:Nat):Int))],[(0,.vs [.bool false b,.imm .free (.ns .u64 c) 1 1 d e,.int .i64 f])],1⟩
def Ce(g:Bool)(a:List Int)(h:Int)(i:Nat)(e:Bool)(b:List Int)(c:Nat)(d:Nat)(f:Int)(j:Bool) :T ((Nat×Bool×(List Int)×Nat×Nat×Int)⊕(dP)) :=
  .ask j
    (.leaf (.inr (.r0 i e b c d f)))
    (.need (aG c d b)<|.need (aG 0 (List.length a) a)<|.need (zk (gd e (ab c d b) f g (ab 0 (List.length a) a) h))<|.leaf (.inl ((yP (gd e (ab c d b) f g (ab 0 (List.length a) a) h)),(yQ (gd e (ab c d b) f g (ab 0 (List.length a) a) h)),(yR (gd e (ab c d b) f g (ab 0 (List.length a) a) h)),(yS (gd e (ab c d b) f g (ab 0 (List.length a) a) h)),(yT (gd e (ab c d b) f g (ab 0 (List.length a) a) h)),(yU (gd e (ab c d b) f g (ab 0 (List.length a) a) h)))))
def aaX(a:Nat)(b:Bool)(c:List Int)(d:Nat)(e:Nat)(f:Int) :T ((Empty)⊕(dP)) :=
  .leaf (.inr (.r0 a b c d e f))
def ee(a:Int)(b:Int)(d:Nat)(e:List Bool)(f:List (List Int))(g:List Int)(h:Int)(i:Int)(j:Bool)(k:List Int)(l:Int) :Option dP:=jM (aC ((Cc a b d e f g h i).run) fun (c,y,m,n,o,p,q) =>
  aC ((Cd a b c).run) fun r =>
  aC ((Ce j k l c m n o p q r).run) fun (s,t,u,v,w,x) =>
  (aaX s t u v w x).run)
theorem aaY(d:Int)(e:Int)(p:Lv)(q:Lv)(f:Nat)(j:List Bool)(k:List (List Int))(l:List Int)(r:Lv)(m:Int)(n:Int)(s:Lv)(o:List Nat)(g:Lv)(b:Bool)(i:Lv)(a:List Int)(c:Int){x:dP}(h:ee d e f j k l m n b a c=some x) :ay prog fj [] [.int .i64 d,.int .i64 e,.iptr p (.vs [.imm q (.cols f [.cb j,.cns .u64 k,.ci .i64 l]) 3 3 0 f]) 1 0 0,.iptr r (.vs [.int .i64 m,.int .i64 n,.imm s (.fl o) 1 1 0 (List.length o)]) 1 0 0,.iptr g (.vs [.bool false b,.imm i (.ns .u64 a) 1 1 0 (List.length a),.int .i64 c]) 1 0 0] (Fk x) :=
  kf false Fk Nk h (Sg.cut 2 Cb (bj sM (aaU d e g b i a c) [⟨[],[0,320],[0,1,4,7,9,10]⟩]) (fun ⟨t,u,v,w,y,z,A⟩=>Sg.cut 1 Cb (bj sM (aaV g b i a c t u v w y z A) [⟨[],[0,1],[4,7,9,10,35]⟩,⟨[],[0,1],[4,7,9,10,35]⟩]) (fun H=>Sg.cut 2 Cb (bj sM aaW [⟨[],[0],[7,8]⟩,⟨[],[0],[7,8]⟩]) (fun ⟨I,J,K,L,M,N⟩=>bj sM _ [⟨[],[0],[7,8]⟩]))))
    (fun x=>by cases x with | r0 B C D E F G=>exact jN [.agg [.bool false C,.imm .free (.ns .u64 D) 1 1 E F,.int .i64 G],.int .i64 ((B:Nat):Int)])
def q9:Option dP→Bool
  | some _=>true
  | none=>false
def mj:Option dP→Nat
  | some (.r0 x _ _ _ _ _)=>x
  | _=>0
def rM:Option dP→Bool
  | some (.r0 _ x _ _ _ _)=>x
  | _=>false
def oJ:Option dP→List Int
  | some (.r0 _ _ x _ _ _)=>x
  | _=>[]
def oK:Option dP→Nat
  | some (.r0 _ _ _ x _ _)=>x
  | _=>0
def oL:Option dP→Nat
  | some (.r0 _ _ _ _ x _)=>x
  | _=>0
def rN:Option dP→Int
  | some (.r0 _ _ _ _ _ x)=>x
  | _=>0
theorem aaZ{x:Option dP}(h:q9 x=true) :x=some (.r0 (mj x) (rM x) (oJ x) (oK x) (oL x) (rN x)):=by
  unfold q9 at h
  split at h<;>first | rfl | (cases h;done) | (rename_i y;cases y;rfl)
def Nl:aM:=bK fj (.cons (.int .i64) (.cons (.int .i64) (.cons (.ivs (.cons (.cols [.cb,.cns .u64,.ci .i64]) .nil) 1 0 0) (.cons (.ivs (.cons (.int .i64) (.cons (.int .i64) (.cons .fl .nil))) 1 0 0) (.cons (.ivs (.cons .bool (.cons (.ns .u64) (.cons (.int .i64) .nil))) 1 0 0) .nil))))) fun t=>(fun q=>[⟨Fk (.r0 (mj q) (rM q) (oJ q) (oK q) (oL q) (rN q)),[q9 q]⟩]) (ee t.1 t.2.1 t.2.2.1.2.1.2.1 t.2.2.1.2.1.2.2.1 t.2.2.1.2.1.2.2.2.1 t.2.2.1.2.1.2.2.2.2.1 t.2.2.2.1.2.1 t.2.2.2.1.2.2.1 t.2.2.2.2.1.2.1 t.2.2.2.2.1.2.2.1.2 t.2.2.2.2.1.2.2.2.1)
theorem TT:aY prog Nl:=aR fun t=>(aS (fun h=>aaY t.1 t.2.1 t.2.2.1.1 t.2.2.1.2.1.1 t.2.2.1.2.1.2.1 t.2.2.1.2.1.2.2.1 t.2.2.1.2.1.2.2.2.1 t.2.2.1.2.1.2.2.2.2.1 t.2.2.2.1.1 t.2.2.2.1.2.1 t.2.2.2.1.2.2.1 t.2.2.2.1.2.2.2.1.1 t.2.2.2.1.2.2.2.1.2 t.2.2.2.2.1.1 t.2.2.2.2.1.2.1 t.2.2.2.2.1.2.2.1.1 t.2.2.2.2.1.2.2.1.2 t.2.2.2.2.1.2.2.2.1 (aaZ h)) bc)
def Nm:List aM:=Nl::aaT
theorem eQ:be prog (bh Nm):=ax TT sM
inductive aP where
  | r0 (a:Nat) (b:Bool) (c:List Int) (d:Nat) (e:Nat) (f:Int)
def e7:aP→AE×aQ
  | .r0 a b c d e f=>(.ret,⟨an 46 [(4,.ptr 0 1 0 0),(5,.int .i64 ((a:Nat):Int))],[(0,.vs [.bool false b,.imm .free (.ns .u64 c) 1 1 d e,.int .i64 f])],1⟩)
theorem bD:jJ e7:=by intro x;cases x<;>(intro h;cases h)
theorem kv(id:Nat) :mP id e7:=by intro x;cases x<;>(intro h;cases h)
def kV:aP→gM
  | .r0 a b c d e f=>⟨.tup [.agg [.bool false b,.imm .free (.ns .u64 c) 1 1 d e,.int .i64 f],.int .i64 ((a:Nat):Int)],[]⟩
def jZ:List Code:=cN (oa mu)
def xD(d:Int)(e:Int)(f:Lv)(g:Lv)(a:Nat)(h:List Bool)(i:List (List Int))(j:List Int)(k:Lv)(l:Int)(m:Int)(n:Lv)(b:List Nat)(o:Lv)(p:Bool)(q:Lv)(c:List Int)(r:Int)(s:Bool) :aQ:=⟨an 46 [(1,.fn (.func fj) [] [.iptr f (.vs [.imm g (.cols a [.cb h,.cns .u64 i,.ci .i64 j]) 3 3 0 a]) 1 0 0,.iptr k (.vs [.int .i64 l,.int .i64 m,.imm n (.fl b) 1 1 0 (List.length b)]) 1 0 0,.iptr o (.vs [.bool false p,.imm q (.ns .u64 c) 1 1 0 (List.length c),.int .i64 r]) 1 0 0]),(2,.ptr 0 1 0 0),(4,.ptr 1 1 0 0)],[(0,.vs [.int .i64 d,.int .i64 e]),(1,.vs [.bool false s,.nsl,.int .i64 (0:Int)])],2⟩
def wD:T ((Bool)⊕(aP)) :=
  .leaf (.inl false)
def wE:List Code:=cN (LR (((jZ.drop 1)).headD .skip))
def xE(a:Int)(e:Int)(f:Lv)(g:Lv)(b:Nat)(h:List Bool)(i:List (List Int))(j:List Int)(k:Lv)(l:Int)(m:Int)(n:Lv)(c:List Nat)(o:Lv)(p:Bool)(q:Lv)(d:List Int)(r:Int)(s:Bool)(_:Unit) :aQ:=⟨an 46 [(1,.fn (.func fj) [] [.iptr f (.vs [.imm g (.cols b [.cb h,.cns .u64 i,.ci .i64 j]) 3 3 0 b]) 1 0 0,.iptr k (.vs [.int .i64 l,.int .i64 m,.imm n (.fl c) 1 1 0 (List.length c)]) 1 0 0,.iptr o (.vs [.bool false p,.imm q (.ns .u64 d) 1 1 0 (List.length d),.int .i64 r]) 1 0 0]),(2,.ptr 0 1 0 0),(4,.ptr 1 1 0 0),(6,.nsl),(7,.int .i64 (0:Int)),(13,.int .i64 a),(14,.int .i64 (0:Int))],[(0,.vs [.int .i64 a,.int .i64 e]),(1,.vs [.bool false s,.nsl,.int .i64 (0:Int)])],2⟩
def wF:T ((Unit)⊕(aP)) :=
  .leaf (.inl ())
def j0(a:Int)(e:Int)(f:Lv)(g:Lv)(b:Nat)(h:List Bool)(i:List (List Int))(j:List Int)(k:Lv)(l:Int)(m:Int)(n:Lv)(c:List Nat)(o:Lv)(p:Bool)(q:Lv)(d:List Int)(r:Int)(s:Bool) :Nat×Nat×Nat×Nat×Nat×(List Bool)×(List (List Int))×(List Int)→aQ:=fun (t,u,v,w,x,y,z,A)=>⟨an 46 [(1,.fn (.func fj) [] [.iptr f (.vs [.imm g (.cols b [.cb h,.cns .u64 i,.ci .i64 j]) 3 3 0 b]) 1 0 0,.iptr k (.vs [.int .i64 l,.int .i64 m,.imm n (.fl c) 1 1 0 (List.length c)]) 1 0 0,.iptr o (.vs [.bool false p,.imm q (.ns .u64 d) 1 1 0 (List.length d),.int .i64 r]) 1 0 0]),(2,.ptr 0 1 0 0),(4,.ptr 1 1 0 0),(6,.sl 2 3 3 0 t u),(7,.int .i64 ((v:Nat):Int)),(13,.int .i64 a),(14,.int .i64 ((w:Nat):Int))],[(0,.vs [.int .i64 a,.int .i64 e]),(1,.vs [.bool false s,.nsl,.int .i64 (0:Int)]),(2,.cols x [.cb y,.cns .u64 z,.ci .i64 A])],3⟩
def j5(a:Bool) :Nat×Nat×Nat×Nat×(List Bool)×(List (List Int))×(List Int)→aQ:=fun (b,c,d,e,f,g,h)=>⟨an 46 [(4,.ptr 0 1 0 0),(6,.sl 1 3 3 0 b c),(7,.int .i64 ((d:Nat):Int))],[(0,.vs [.bool false a,.nsl,.int .i64 (0:Int)]),(1,.cols e [.cb f,.cns .u64 g,.ci .i64 h])],2⟩
def oj:List Code:=cN (dn ((((wE.drop 3).take 1)).headD .skip))
def wG(a:Int)(e:Int)(f:Lv)(g:Lv)(b:Nat)(h:List Bool)(i:List (List Int))(j:List Int)(k:Lv)(l:Int)(m:Int)(n:Lv)(c:List Nat)(o:Lv)(p:Bool)(q:Lv)(d:List Int)(r:Int)(s:Bool)(t:Nat)(u:Nat)(v:Nat)(w:Nat)(x:Nat)(y:List Bool)(z:List (List Int))(A:List Int)(_:Unit) :aQ:=⟨an 46 [(1,.fn (.func fj) [] [.iptr f (.vs [.imm g (.cols b [.cb h,.cns .u64 i,.ci .i64 j]) 3 3 0 b]) 1 0 0,.iptr k (.vs [.int .i64 l,.int .i64 m,.imm n (.fl c) 1 1 0 (List.length c)]) 1 0 0,.iptr o (.vs [.bool false p,.imm q (.ns .u64 d) 1 1 0 (List.length d),.int .i64 r]) 1 0 0]),(2,.ptr 0 1 0 0),(4,.ptr 1 1 0 0),(6,.sl 2 3 3 0 t u),(7,.int .i64 ((v:Nat):Int)),(13,.int .i64 a),(14,.int .i64 ((w:Nat):Int))],[(0,.vs [.int .i64 a,.int .i64 e]),(1,.vs [.bool false s,.nsl,.int .i64 (0:Int)]),(2,.cols x [.cb y,.cns .u64 z,.ci .i64 A])],3⟩
def j6(a:Int)(b:Nat)(c:Nat)(d:Nat)(e:Nat)(f:Nat)(g:List Bool)(h:List (List Int))(i:List Int) :T ((Unit)⊕((Nat×Nat×Nat×Nat×(List Bool)×(List (List Int))×(List Int))⊕(aP))) :=
  .ask (decide (((e:Nat):Int)<a))
    (.leaf (.inl ()))
    (.leaf (.inr (.inl (b,c,d,f,g,h,i))))
def ol(a:Int)(e:Int)(f:Lv)(g:Lv)(b:Nat)(h:List Bool)(i:List (List Int))(j:List Int)(k:Lv)(l:Int)(m:Int)(n:Lv)(c:List Nat)(o:Lv)(p:Bool)(q:Lv)(d:List Int)(r:Int)(s:Bool)(t:Nat) :Nat×Nat×Nat×Nat×(List Bool)×(List (List Int))×(List Int)→aQ:=fun (u,v,w,x,y,z,A)=>⟨an 46 [(1,.fn (.func fj) [] [.iptr f (.vs [.imm g (.cols b [.cb h,.cns .u64 i,.ci .i64 j]) 3 3 0 b]) 1 0 0,.iptr k (.vs [.int .i64 l,.int .i64 m,.imm n (.fl c) 1 1 0 (List.length c)]) 1 0 0,.iptr o (.vs [.bool false p,.imm q (.ns .u64 d) 1 1 0 (List.length d),.int .i64 r]) 1 0 0]),(2,.ptr 0 1 0 0),(4,.ptr 1 1 0 0),(6,.sl 2 3 3 0 u v),(7,.int .i64 ((w:Nat):Int)),(13,.int .i64 a),(14,.int .i64 ((t:Nat):Int))],[(0,.vs [.int .i64 a,.int .i64 e]),(1,.vs [.bool false s,.nsl,.int .i64 (0:Int)]),(2,.cols x [.cb y,.cns .u64 z,.ci .i64 A])],3⟩
def wH:List Code:=cN (inBlock ((((oj.drop 2).take 1)).headD .skip))
def wI(a:Int)(b:Int)(g:Lv)(h:Lv)(c:Nat)(i:List Bool)(j:List (List Int))(k:List Int)(l:Lv)(m:Int)(n:Int)(o:Lv)(d:List Nat)(p:Lv)(q:Bool)(r:Lv)(e:List Int)(s:Int)(t:Bool)(u:Nat)(v:Nat)(w:Nat)(f:Nat)(x:Nat)(y:List Bool)(z:List (List Int))(A:List Int)(_:Unit) :aQ:=⟨an 46 [(1,.fn (.func fj) [] [.iptr g (.vs [.imm h (.cols c [.cb i,.cns .u64 j,.ci .i64 k]) 3 3 0 c]) 1 0 0,.iptr l (.vs [.int .i64 m,.int .i64 n,.imm o (.fl d) 1 1 0 (List.length d)]) 1 0 0,.iptr p (.vs [.bool false q,.imm r (.ns .u64 e) 1 1 0 (List.length e),.int .i64 s]) 1 0 0]),(2,.ptr 0 1 0 0),(4,.ptr 1 1 0 0),(6,.sl 2 3 3 0 u v),(7,.int .i64 ((w:Nat):Int)),(8,.int .i64 ((f:Nat):Int)),(13,.int .i64 a),(14,.int .i64 ((f:Nat):Int)),(18,.int .i64 b),(19,.int .i64 (0:Int))],[(0,.vs [.int .i64 a,.int .i64 b]),(1,.vs [.bool false t,.nsl,.int .i64 (0:Int)]),(2,.cols x [.cb y,.cns .u64 z,.ci .i64 A])],3⟩
def wJ:T ((Unit)⊕((Nat×Nat×Nat×Nat×(List Bool)×(List (List Int))×(List Int))⊕((Nat×Nat×Nat×Nat×(List Bool)×(List (List Int))×(List Int))⊕(aP)))) :=
  .leaf (.inl ())
def j7(a:Int)(b:Int)(g:Lv)(h:Lv)(c:Nat)(i:List Bool)(j:List (List Int))(k:List Int)(l:Lv)(m:Int)(n:Int)(o:Lv)(d:List Nat)(p:Lv)(q:Bool)(r:Lv)(e:List Int)(s:Int)(t:Bool)(f:Nat) :Nat×Nat×Nat×Nat×Nat×(List Bool)×(List (List Int))×(List Int)→aQ:=fun (u,v,w,x,y,z,A,B)=>⟨an 46 [(1,.fn (.func fj) [] [.iptr g (.vs [.imm h (.cols c [.cb i,.cns .u64 j,.ci .i64 k]) 3 3 0 c]) 1 0 0,.iptr l (.vs [.int .i64 m,.int .i64 n,.imm o (.fl d) 1 1 0 (List.length d)]) 1 0 0,.iptr p (.vs [.bool false q,.imm r (.ns .u64 e) 1 1 0 (List.length e),.int .i64 s]) 1 0 0]),(2,.ptr 0 1 0 0),(4,.ptr 1 1 0 0),(6,.sl 2 3 3 0 u v),(7,.int .i64 ((w:Nat):Int)),(8,.int .i64 ((f:Nat):Int)),(13,.int .i64 a),(14,.int .i64 ((f:Nat):Int)),(18,.int .i64 b),(19,.int .i64 ((x:Nat):Int))],[(0,.vs [.int .i64 a,.int .i64 b]),(1,.vs [.bool false t,.nsl,.int .i64 (0:Int)]),(2,.cols y [.cb z,.cns .u64 A,.ci .i64 B])],3⟩
def om(a:Int)(e:Int)(f:Lv)(g:Lv)(b:Nat)(h:List Bool)(i:List (List Int))(j:List Int)(k:Lv)(l:Int)(m:Int)(n:Lv)(c:List Nat)(o:Lv)(p:Bool)(q:Lv)(d:List Int)(r:Int)(s:Bool)(t:Nat) :Nat×Nat×Nat×Nat×(List Bool)×(List (List Int))×(List Int)→aQ:=fun (u,v,w,x,y,z,A)=>⟨an 46 [(1,.fn (.func fj) [] [.iptr f (.vs [.imm g (.cols b [.cb h,.cns .u64 i,.ci .i64 j]) 3 3 0 b]) 1 0 0,.iptr k (.vs [.int .i64 l,.int .i64 m,.imm n (.fl c) 1 1 0 (List.length c)]) 1 0 0,.iptr o (.vs [.bool false p,.imm q (.ns .u64 d) 1 1 0 (List.length d),.int .i64 r]) 1 0 0]),(2,.ptr 0 1 0 0),(4,.ptr 1 1 0 0),(6,.sl 2 3 3 0 u v),(7,.int .i64 ((w:Nat):Int)),(13,.int .i64 a),(14,.int .i64 ((t:Nat):Int))],[(0,.vs [.int .i64 a,.int .i64 e]),(1,.vs [.bool false s,.nsl,.int .i64 (0:Int)]),(2,.cols x [.cb y,.cns .u64 z,.ci .i64 A])],3⟩
def wK:List Code:=cN (dn ((((wH.drop 2).take 1)).headD .skip))
def wL(b:Int)(c:Int)(h:Lv)(i:Lv)(d:Nat)(j:List Bool)(k:List (List Int))(l:List Int)(m:Lv)(n:Int)(o:Int)(p:Lv)(e:List Nat)(q:Lv)(r:Bool)(s:Lv)(f:List Int)(t:Int)(u:Bool)(g:Nat)(v:Nat) :Nat×Nat×(List Bool)×(List (List Int))×(List Int)→aQ:=fun (a,w,x,y,z)=>⟨an 46 [(1,.fn (.func fj) [] [.iptr h (.vs [.imm i (.cols d [.cb j,.cns .u64 k,.ci .i64 l]) 3 3 0 d]) 1 0 0,.iptr m (.vs [.int .i64 n,.int .i64 o,.imm p (.fl e) 1 1 0 (List.length e)]) 1 0 0,.iptr q (.vs [.bool false r,.imm s (.ns .u64 f) 1 1 0 (List.length f),.int .i64 t]) 1 0 0]),(2,.ptr 0 1 0 0),(4,.ptr 1 1 0 0),(6,.sl 2 3 3 0 a a),(7,.int .i64 ((w:Nat):Int)),(8,.int .i64 ((g:Nat):Int)),(13,.int .i64 b),(14,.int .i64 ((g:Nat):Int)),(18,.int .i64 c),(19,.int .i64 ((v:Nat):Int))],[(0,.vs [.int .i64 b,.int .i64 c]),(1,.vs [.bool false u,.nsl,.int .i64 (0:Int)]),(2,.cols a [.cb x,.cns .u64 y,.ci .i64 z])],3⟩
def fN(s:Int)(a:Nat)(d:List Bool)(e:List (List Int))(f:List Int)(g:Int)(h:Int)(q:List Nat)(i:Bool)(b:List Int)(j:Int)(k:Nat)(l:Nat)(r:Nat)(t:Nat)(c:Nat)(m:Nat)(n:List Bool)(o:List (List Int))(p:List Int) :T ((Nat×Nat×(List Bool)×(List (List Int))×(List Int))⊕((Nat×Nat×Nat×Nat×(List Bool)×(List (List Int))×(List Int))⊕((Nat×Nat×Nat×Nat×(List Bool)×(List (List Int))×(List Int))⊕((Nat×Nat×Nat×Nat×(List Bool)×(List (List Int))×(List Int))⊕(aP))))) :=
  .ask (decide (((c:Nat):Int)<s))
    (.need (Nat.ble (0+a) a)<|.need (aG 0 (List.length q) q)<|.need (aG 0 (List.length b) b)<|.need (q9 (ee ((k:Nat):Int) ((c:Nat):Int) a (ab 0 a d) (ab 0 a e) (ab 0 a f) g h i (ab 0 (List.length b) b) j))<|.ask ((((mj (ee ((k:Nat):Int) ((c:Nat):Int) a (ab 0 a d) (ab 0 a e) (ab 0 a f) g h i (ab 0 (List.length b) b) j)):Nat):Int) != (0:Int))
      (.leaf (.inr (.inr (.inr (.inl (l,r,(mj (ee ((k:Nat):Int) ((c:Nat):Int) a (ab 0 a d) (ab 0 a e) (ab 0 a f) g h i (ab 0 (List.length b) b) j)),m,n,o,p))))))
      (.need (qt ((l+1)*40) 140737488355328)<|.need (qt (l+1) 9223372036854775807)<|.need (qt 3 3)<|.need (qt l m)<|.need (decide ((oK (ee ((k:Nat):Int) ((c:Nat):Int) a (ab 0 a d) (ab 0 a e) (ab 0 a f) g h i (ab 0 (List.length b) b) j))+(oL (ee ((k:Nat):Int) ((c:Nat):Int) a (ab 0 a d) (ab 0 a e) (ab 0 a f) g h i (ab 0 (List.length b) b) j))≤List.length (oJ (ee ((k:Nat):Int) ((c:Nat):Int) a (ab 0 a d) (ab 0 a e) (ab 0 a f) g h i (ab 0 (List.length b) b) j))))<|.leaf (.inl ((l+1),(mj (ee ((k:Nat):Int) ((c:Nat):Int) a (ab 0 a d) (ab 0 a e) (ab 0 a f) g h i (ab 0 (List.length b) b) j)),((List.take l n)++[(rM (ee ((k:Nat):Int) ((c:Nat):Int) a (ab 0 a d) (ab 0 a e) (ab 0 a f) g h i (ab 0 (List.length b) b) j))]),((List.take l o)++[(List.take (oL (ee ((k:Nat):Int) ((c:Nat):Int) a (ab 0 a d) (ab 0 a e) (ab 0 a f) g h i (ab 0 (List.length b) b) j)) (List.drop (oK (ee ((k:Nat):Int) ((c:Nat):Int) a (ab 0 a d) (ab 0 a e) (ab 0 a f) g h i (ab 0 (List.length b) b) j)) (oJ (ee ((k:Nat):Int) ((c:Nat):Int) a (ab 0 a d) (ab 0 a e) (ab 0 a f) g h i (ab 0 (List.length b) b) j))))]),((List.take l p)++[(rN (ee ((k:Nat):Int) ((c:Nat):Int) a (ab 0 a d) (ab 0 a e) (ab 0 a f) g h i (ab 0 (List.length b) b) j))])))))
    (.leaf (.inr (.inl (l,r,t,m,n,o,p))))
def wM(b:Nat)(a:Nat)(c:Nat)(d:List Bool)(e:List (List Int))(f:List Int) :T ((Nat×Nat×Nat×Nat×Nat×(List Bool)×(List (List Int))×(List Int))⊕((Nat×Nat×Nat×Nat×(List Bool)×(List (List Int))×(List Int))⊕((Nat×Nat×Nat×Nat×(List Bool)×(List (List Int))×(List Int))⊕((Nat×Nat×Nat×Nat×(List Bool)×(List (List Int))×(List Int))⊕(aP))))) :=
  .need (di .i64 (((b+1):Nat):Int))<|.leaf (.inl (a,a,c,(b+1),a,d,e,f))
def j8(b:Int)(c:Nat)(d:List Bool)(e:List (List Int))(f:List Int)(g:Int)(h:Int)(i:List Nat)(j:Bool)(k:List Int)(l:Int)(m:Nat) :Nat×Nat×Nat×Nat×Nat×(List Bool)×(List (List Int))×(List Int)→Option ((Nat×Nat×Nat×Nat×Nat×(List Bool)×(List (List Int))×(List Int))⊕((Nat×Nat×Nat×Nat×(List Bool)×(List (List Int))×(List Int))⊕((Nat×Nat×Nat×Nat×(List Bool)×(List (List Int))×(List Int))⊕((Nat×Nat×Nat×Nat×(List Bool)×(List (List Int))×(List Int))⊕(aP))))):=fun (n,o,p,a,q,r,s,t) =>
  aC ((fN b c d e f g h i j k l m n o p a q r s t).run) fun (u,v,w,x,y) =>
  (wM a u v w x y).run
theorem wN(n:Int)(a:Int)(o:Lv)(p:Lv)(b:Nat)(c:List Bool)(d:List (List Int))(e:List Int)(q:Lv)(f:Int)(g:Int)(r:Lv)(h:List Nat)(s:Lv)(i:Bool)(t:Lv)(j:List Int)(k:Int)(l:Bool)(m:Nat)(v:Nat)(w:Nat)(x:Nat)(u:Nat)(y:Nat)(z:List Bool)(A:List (List Int))(B:List Int) :Sg prog [] wK (j7 n a o p b c d e q f g r h s i t j k l m (v,w,x,u,y,z,A,B)) (j8 a b c d e f g h i j k m (v,w,x,u,y,z,A,B)) (j7 n a o p b c d e q f g r h s i t j k l m) (cy 2 (om n a o p b c d e q f g r h s i t j k l m) (cy 1 (ol n a o p b c d e q f g r h s i t j k l m) (cy 0 (j5 l) e7))):=by
  unfold j8;exact Sg.cut 3 (az (az (az bD))) (bj eQ (wL n a o p b c d e q f g r h s i t j k l m u) [⟨[],[1,2],[4,6,7]⟩,⟨[],[0,1,323],[1,2,4,6,7,8,13,14,18,19]⟩,⟨[],[0,1,2],[1,2,4,6,7,13,14]⟩]) (fun ⟨C,D,E,F,G⟩=>bj eQ _ [⟨[],[0,1,2],[1,2,4,6,7,8,13,14,18,19]⟩])
def wO(a:Nat)(b:Nat)(c:Nat)(d:Nat)(e:List Bool)(f:List (List Int))(g:List Int) :T ((Nat×Nat×Nat×Nat×(List Bool)×(List (List Int))×(List Int))⊕((Nat×Nat×Nat×Nat×(List Bool)×(List (List Int))×(List Int))⊕((Nat×Nat×Nat×Nat×(List Bool)×(List (List Int))×(List Int))⊕(aP)))) :=
  .leaf (.inl (a,b,c,d,e,f,g))
def wP(a:Nat)(b:Nat)(c:Nat)(d:Nat)(e:Nat)(f:List Bool)(g:List (List Int))(h:List Int) :T ((Nat×Nat×Nat×Nat×Nat×(List Bool)×(List (List Int))×(List Int))⊕((Nat×Nat×Nat×Nat×(List Bool)×(List (List Int))×(List Int))⊕(aP))) :=
  .need (di .i64 (((a+1):Nat):Int))<|.leaf (.inl (b,c,d,(a+1),e,f,g,h))
def j9(i:Int)(j:Int)(k:Nat)(l:List Bool)(m:List (List Int))(n:List Int)(o:Int)(p:Int)(q:List Nat)(r:Bool)(s:List Int)(t:Int) :Nat×Nat×Nat×Nat×Nat×(List Bool)×(List (List Int))×(List Int)→Option ((Nat×Nat×Nat×Nat×Nat×(List Bool)×(List (List Int))×(List Int))⊕((Nat×Nat×Nat×Nat×(List Bool)×(List (List Int))×(List Int))⊕(aP))):=fun (b,c,d,a,e,f,g,h) =>
  aC ((j6 i b c d a e f g h).run) fun _ =>
  aC (Di (aC ((wJ).run) fun _ =>
  aC (dh (j8 j k l m n o p q r s t a) (b,c,d,0,e,f,g,h)) fun (u,v,w,x,y,z,A) =>
  (wO u v w x y z A).run)) fun (B,C,D,E,F,G,H) =>
  (wP a B C D E F G H).run
theorem wQ(a:Int)(b:Int)(n:Lv)(o:Lv)(c:Nat)(d:List Bool)(e:List (List Int))(f:List Int)(p:Lv)(g:Int)(h:Int)(q:Lv)(i:List Nat)(r:Lv)(j:Bool)(s:Lv)(k:List Int)(l:Int)(m:Bool)(u:Nat)(v:Nat)(w:Nat)(t:Nat)(x:Nat)(y:List Bool)(z:List (List Int))(A:List Int) :Sg prog [] oj (j0 a b n o c d e f p g h q i r j s k l m (u,v,w,t,x,y,z,A)) (j9 a b c d e f g h i j k l (u,v,w,t,x,y,z,A)) (j0 a b n o c d e f p g h q i r j s k l m) (cy 0 (j5 m) e7):=by
  unfold j9;exact Sg.cut 2 (az bD) (bj eQ (wG a b n o c d e f p g h q i r j s k l m u v w t x y z A) [⟨[],[0,1,2],[1,2,4,6,7,13,14]⟩,⟨[],[1,2],[4,6,7]⟩]) (fun _=>Sg.cut 1 (az bD) (sgb (ol a b n o c d e f p g h q i r j s k l m t) 1 (az bD) (cD (by decide) (kv _)) (Sg.cut 2 (az (az bD)) (bj eQ (wI a b n o c d e f p g h q i r j s k l m u v w t x y z A) [⟨[],[0,1,2],[1,2,4,6,7,8,13,14,18,19]⟩]) (fun _=>Sg.cut 1 (az (az bD)) (AD ⟨[],[0,1,2],[1,2,4,6,7,8,13,14,18,19]⟩ (j7 a b n o c d e f p g h q i r j s k l m t) (om a b n o c d e f p g h q i r j s k l m t) 2 (az (az bD)) (cD (by decide) (cD (by decide) (kv _))) (fun ⟨B,C,D,E,F,G,H,I⟩=>wN a b n o c d e f p g h q i r j s k l m t B C D E F G H I)) (fun ⟨J,K,L,M,N,O,P⟩=>bj eQ _ [⟨[],[0,1,2],[1,2,4,6,7,13,14]⟩])))) (fun ⟨Q,R,S,T,U,V,W⟩=>bj eQ _ [⟨[],[0,1,2],[1,2,4,6,7,13,14]⟩]))
def wR:Nat×Bool×(List Int)×Nat×Nat×Int→aQ:=fun (a,b,c,d,e,f)=>⟨an 46 [(4,.ptr 0 1 0 0),(5,.int .i64 ((a:Nat):Int))],[(0,.vs [.bool false b,.imm .free (.ns .u64 c) 1 1 d e,.int .i64 f])],1⟩
def ka(a:Nat)(e:Nat)(f:Nat)(b:List Bool)(c:List (List Int))(d:List Int) :T ((Nat×Bool×(List Int)×Nat×Nat×Int)⊕(aP)) :=
  .ask (((e:Nat):Int) != (0:Int))
    (.leaf (.inr (.r0 e false ([]:List Int) 0 0 (0:Int))))
    (.need (Nat.ble (0+a) f)<|.need (nc (bZ a (ab 0 a b) (ab 0 a c) (ab 0 a d)))<|.leaf (.inl ((nJ (bZ a (ab 0 a b) (ab 0 a c) (ab 0 a d))),(nK (bZ a (ab 0 a b) (ab 0 a c) (ab 0 a d))),(nL (bZ a (ab 0 a b) (ab 0 a c) (ab 0 a d))),(nN (bZ a (ab 0 a b) (ab 0 a c) (ab 0 a d))),(nO (bZ a (ab 0 a b) (ab 0 a c) (ab 0 a d))),(nP (bZ a (ab 0 a b) (ab 0 a c) (ab 0 a d))))))
def wT(a:Nat)(b:Bool)(c:List Int)(d:Nat)(e:Nat)(f:Int) :T ((Empty)⊕(aP)) :=
  .leaf (.inr (.r0 a b c d e f))
def cd(a:Int)(b:Int)(c:Nat)(d:List Bool)(e:List (List Int))(f:List Int)(g:Int)(h:Int)(i:List Nat)(j:Bool)(k:List Int)(l:Int) :Option aP:=jM (aC ((wD).run) fun y =>
  aC ((wF).run) fun _ =>
  aC (dh (j9 a b c d e f g h i j k l) (0,0,0,0,0,([]:List Bool),([]:List (List Int)),([]:List Int))) fun (m,z,n,o,p,q,r) =>
  aC ((ka m n o p q r).run) fun (s,t,u,v,w,x) =>
  (wT s t u v w x).run)
theorem xF(d:Int)(e:Int)(n:Lv)(o:Lv)(a:Nat)(f:List Bool)(g:List (List Int))(i:List Int)(p:Lv)(j:Int)(k:Int)(q:Lv)(b:List Nat)(r:Lv)(l:Bool)(s:Lv)(c:List Int)(m:Int){x:aP}(h:cd d e a f g i j k b l c m=some x) :ay prog mu [] [.agg [.int .i64 d,.int .i64 e],.fn (.func fj) [] [.iptr n (.vs [.imm o (.cols a [.cb f,.cns .u64 g,.ci .i64 i]) 3 3 0 a]) 1 0 0,.iptr p (.vs [.int .i64 j,.int .i64 k,.imm q (.fl b) 1 1 0 (List.length b)]) 1 0 0,.iptr r (.vs [.bool false l,.imm s (.ns .u64 c) 1 1 0 (List.length c),.int .i64 m]) 1 0 0]] (kV x) :=
  kf true kV e7 h (Sg.cut 1 bD (bj eQ (xD d e n o a f g i p j k q b r l s c m) [⟨[],[0,16],[1,2,4]⟩]) (fun t=>OD (by kernel_rfl:(jZ.drop 1)=[.scope (LR (((jZ.drop 1)).headD .skip))]) bD (Sg.cut 3 bD (bj eQ (xE d e n o a f g i p j k q b r l s c m t) [⟨[],[0,1],[1,2,4,6,7,13,14]⟩]) (fun _=>Sg.cut 1 bD (AD ⟨[(.slot 6,.own 3 3 (.cols 0 [.cb ([]:List Bool),.cns .u64 ([]:List (List Int)),.ci .i64 ([]:List Int)]))],[0,1,2],[1,2,4,6,7,13,14]⟩ (j0 d e n o a f g i p j k q b r l s c m t) (j5 t) 0 bD (kv _) (fun ⟨u,v,w,y,z,A,B,C⟩=>wQ d e n o a f g i p j k q b r l s c m t u v w y z A B C)) (fun ⟨J,K,L,M,N,O,P⟩=>Sg.cut 3 bD (bj eQ wR [⟨[(.cell 0 1,.fre 1 1 (.ns .u64 ([]:List Int)))],[0],[4,5]⟩,⟨[],[0],[4,5]⟩]) (fun ⟨Q,R,S,T,U,V⟩=>bj eQ _ [⟨[],[0],[4,5]⟩]))))))
    (fun x=>by cases x with | r0 D E F G H I=>exact jN [.agg [.bool false E,.imm .free (.ns .u64 F) 1 1 G H,.int .i64 I],.int .i64 ((D:Nat):Int)])
def gI:Option aP→Bool
  | some _=>true
  | none=>false
def jv:Option aP→Nat
  | some (.r0 x _ _ _ _ _)=>x
  | _=>0
def jw:Option aP→Bool
  | some (.r0 _ x _ _ _ _)=>x
  | _=>false
def jx:Option aP→List Int
  | some (.r0 _ _ x _ _ _)=>x
  | _=>[]
def jy:Option aP→Nat
  | some (.r0 _ _ _ x _ _)=>x
  | _=>0
def jz:Option aP→Nat
  | some (.r0 _ _ _ _ x _)=>x
  | _=>0
def jA:Option aP→Int
  | some (.r0 _ _ _ _ _ x)=>x
  | _=>0
theorem xG{x:Option aP}(h:gI x=true) :x=some (.r0 (jv x) (jw x) (jx x) (jy x) (jz x) (jA x)):=by
  unfold gI at h
  split at h<;>first | rfl | (cases h;done) | (rename_i y;cases y;rfl)
def oV:aM:=bK mu (.cons (.agg (.cons (.int .i64) (.cons (.int .i64) .nil))) (.cons (.fn fj .nil (.cons (.ivs (.cons (.cols [.cb,.cns .u64,.ci .i64]) .nil) 1 0 0) (.cons (.ivs (.cons (.int .i64) (.cons (.int .i64) (.cons .fl .nil))) 1 0 0) (.cons (.ivs (.cons .bool (.cons (.ns .u64) (.cons (.int .i64) .nil))) 1 0 0) .nil)))) .nil)) fun t=>(fun q=>[⟨kV (.r0 (jv q) (jw q) (jx q) (jy q) (jz q) (jA q)),[gI q]⟩]) (cd t.1.1 t.1.2.1 t.2.1.2.1.2.1.2.1 t.2.1.2.1.2.1.2.2.1 t.2.1.2.1.2.1.2.2.2.1 t.2.1.2.1.2.1.2.2.2.2.1 t.2.1.2.2.1.2.1 t.2.1.2.2.1.2.2.1 t.2.1.2.2.1.2.2.2.1.2 t.2.1.2.2.2.1.2.1 t.2.1.2.2.2.1.2.2.1.2 t.2.1.2.2.2.1.2.2.2.1)
theorem wa:aY prog oV:=aR fun t=>(aS (fun h=>xF t.1.1 t.1.2.1 t.2.1.2.1.1 t.2.1.2.1.2.1.1 t.2.1.2.1.2.1.2.1 t.2.1.2.1.2.1.2.2.1 t.2.1.2.1.2.1.2.2.2.1 t.2.1.2.1.2.1.2.2.2.2.1 t.2.1.2.2.1.1 t.2.1.2.2.1.2.1 t.2.1.2.2.1.2.2.1 t.2.1.2.2.1.2.2.2.1.1 t.2.1.2.2.1.2.2.2.1.2 t.2.1.2.2.2.1.1 t.2.1.2.2.2.1.2.1 t.2.1.2.2.2.1.2.2.1.1 t.2.1.2.2.2.1.2.2.1.2 t.2.1.2.2.2.1.2.2.2.1 (xG h)) bc)
def oW:List aM:=oV::Nm
theorem dm:be prog (bh oW):=ax wa eQ
inductive e8 where
  | r0 (a:Nat) (b:Bool) (c:List Int) (d:Nat) (e:Nat) (f:Int)
def V9:e8→AE×aQ
  | .r0 a b c d e f=>(.ret,⟨an 32 [(2,.ptr 0 1 0 0),(3,.int .i64 ((a:Nat):Int))],[(0,.vs [.bool false b,.imm .free (.ns .u64 c) 1 1 d e,.int .i64 f])],1⟩)
theorem A1:jJ V9:=by intro x;cases x<;>(intro h;cases h)
def KZ:e8→gM
  | .r0 a b c d e f=>⟨.tup [.agg [.bool false b,.imm .free (.ns .u64 c) 1 1 d e,.int .i64 f],.int .i64 ((a:Nat):Int)],[]⟩
def ak6(b:Int)(c:Int)(d:Lv)(a:List Nat)(e:Bool) :aQ:=⟨an 32 [(1,.ptr 0 1 0 0),(2,.ptr 1 1 0 0)],[(0,.vs [.int .i64 b,.int .i64 c,.imm d (.fl a) 1 1 0 (List.length a)]),(1,.vs [.bool false e,.nsl,.int .i64 (0:Int)])],2⟩
def RZ(b : Int)(c : Int)(a : List Nat) : T ((Bool) ⊕ (e8)) :=
  .ask (decide ((0:Int)<(1:Int)))
    (.need (fv (0:Int) 1)<|.need (aG 0 (List.length a) a)<|.need (eU (cu b c (ab 0 (List.length a) a)))<|.ask (dT (cu b c (ab 0 (List.length a) a)))
      (.ask (!(!(decide ((0:Int)≥(0:Int)))))
        (.leaf (.inr (.r0 2 false ([]:List Int) 0 0 (0:Int))))
        (.fail))
      (.need (di .i64 (1:Int))<|.ask (decide ((1:Int)<(1:Int)))
        (.fail)
        (.ask (!(!(decide ((-1:Int)≥(0:Int)))))
          (.fail)
          (.ask (decide ((0:Int)<(1:Int)))
            (.need (fv (0:Int) 1)<|.need (aG 0 (List.length a) a)<|.need (aV (au (ab 0 (List.length a) a)))<|.ask (decide ((aW (au (ab 0 (List.length a) a)))≥(0:Int)))
              (.leaf (.inr (.r0 10 false ([]:List Int) 0 0 (0:Int))))
              (.need (di .i64 (1:Int))<|.ask (decide ((1:Int)<(1:Int)))
                (.fail)
                (.leaf (.inl false))))
            (.fail)))))
    (.fail)
def ak7(c:Int)(d:Int)(e:Lv)(a:List Nat)(f:Bool) :Nat×(List Bool)×(List (List Int))×(List Int)→aQ:=fun (b,g,h,i)=>⟨an 32 [(1,.ptr 0 1 0 0),(2,.ptr 1 1 0 0),(4,.ptr 2 1 0 0)],[(0,.vs [.int .i64 c,.int .i64 d,.imm e (.fl a) 1 1 0 (List.length a)]),(1,.vs [.bool false f,.nsl,.int .i64 (0:Int)]),(2,.vs [.imm .free (.cols b [.cb g,.cns .u64 h,.ci .i64 i]) 3 3 0 b])],3⟩
def R0(a:List Nat) :T ((Nat×(List Bool)×(List (List Int))×(List Int))⊕(e8)) :=
  .need (aG 0 (List.length a) a)<|.need (jj (aE (ab 0 (List.length a) a)))<|.leaf (.inl ((bg (aE (ab 0 (List.length a) a))),(dq (aE (ab 0 (List.length a) a))),(dr (aE (ab 0 (List.length a) a))),(dt (aE (ab 0 (List.length a) a)))))
def ak8(c:Int)(d:Int)(e:Lv)(a:List Nat)(f:Bool)(b:Nat)(g:List Bool)(h:List (List Int))(i:List Int) :Bool×(List Int)×Nat×Nat×Int→aQ:=fun (j,k,l,m,n)=>⟨an 32 [(1,.ptr 0 1 0 0),(2,.ptr 1 1 0 0),(4,.ptr 2 1 0 0),(5,.ptr 3 1 0 0)],[(0,.vs [.int .i64 c,.int .i64 d,.imm e (.fl a) 1 1 0 (List.length a)]),(1,.vs [.bool false f,.nsl,.int .i64 (0:Int)]),(2,.vs [.imm .free (.cols b [.cb g,.cns .u64 h,.ci .i64 i]) 3 3 0 b]),(3,.vs [.bool false j,.imm .free (.ns .u64 k) 1 1 l m,.int .i64 n])],4⟩
def R1:T ((Bool×(List Int)×Nat×Nat×Int)⊕(e8)) :=
  .need (l6 (bo (1:Int)))<|.leaf (.inl ((iE (bo (1:Int))),(gk (bo (1:Int))),(gn (bo (1:Int))),(gp (bo (1:Int))),(iF (bo (1:Int)))))
def ak9:Nat×Bool×(List Int)×Nat×Nat×Int→aQ:=fun (a,b,c,d,e,f)=>⟨an 32 [(2,.ptr 0 1 0 0),(3,.int .i64 ((a:Nat):Int))],[(0,.vs [.bool false b,.imm .free (.ns .u64 c) 1 1 d e,.int .i64 f])],1⟩
def Ij(g:Int)(b:Int)(c:List Nat)(a:Nat)(h:List Bool)(i:List (List Int))(j:List Int)(k:Bool)(d:List Int)(e:Nat)(f:Nat)(l:Int) :T ((Nat×Bool×(List Int)×Nat×Nat×Int)⊕(e8)) :=
  .need (Nat.ble (0+a) a)<|.need (aG 0 (List.length c) c)<|.need (aG e f d)<|.need (gI (cd b b a (ab 0 a h) (ab 0 a i) (ab 0 a j) g b (ab 0 (List.length c) c) k (ab e f d) l))<|.leaf (.inl ((jv (cd b b a (ab 0 a h) (ab 0 a i) (ab 0 a j) g b (ab 0 (List.length c) c) k (ab e f d) l)),(jw (cd b b a (ab 0 a h) (ab 0 a i) (ab 0 a j) g b (ab 0 (List.length c) c) k (ab e f d) l)),(jx (cd b b a (ab 0 a h) (ab 0 a i) (ab 0 a j) g b (ab 0 (List.length c) c) k (ab e f d) l)),(jy (cd b b a (ab 0 a h) (ab 0 a i) (ab 0 a j) g b (ab 0 (List.length c) c) k (ab e f d) l)),(jz (cd b b a (ab 0 a h) (ab 0 a i) (ab 0 a j) g b (ab 0 (List.length c) c) k (ab e f d) l)),(jA (cd b b a (ab 0 a h) (ab 0 a i) (ab 0 a j) g b (ab 0 (List.length c) c) k (ab e f d) l))))
def afc(a:Nat)(b:Bool)(c:List Int)(d:Nat)(e:Nat)(f:Int) :T ((Empty)⊕(e8)) :=
  .leaf (.inr (.r0 a b c d e f))
def da(b:Int)(c:Int)(a:List Nat) :Option e8:=jM (aC ((RZ b c a).run) fun s =>
  aC ((R0 a).run) fun (d,e,f,g) =>
  aC ((R1).run) fun (h,i,j,k,l) =>
  aC ((Ij b c a d e f g h i j k l).run) fun (m,n,o,p,q,r) =>
  (afc m n o p q r).run)
theorem ala(b:Int)(c:Int)(d:Lv)(a:List Nat){x:e8}(h:da b c a=some x) :ay prog JD [] [.agg [.int .i64 b,.int .i64 c,.imm d (.fl a) 1 1 0 (List.length a)]] (KZ x) :=
  kf true KZ V9 h (Sg.cut 2 A1 (bj dm (ak6 b c d a) [⟨[(.cell 16 1,.fre 1 1 (.ns .u64 ([]:List Int)))],[16],[2,3]⟩,⟨[(.cell 16 1,.fre 1 1 (.ns .u64 ([]:List Int)))],[16],[2,3]⟩,⟨[],[0,16],[1,2]⟩]) (fun e=>Sg.cut 1 A1 (bj dm (ak7 b c d a e) [⟨[],[0,1,50],[1,2,4]⟩]) (fun ⟨f,g,i,j⟩=>Sg.cut 1 A1 (bj dm (ak8 b c d a e f g i j) [⟨[],[0,1,2,19],[1,2,4,5]⟩]) (fun ⟨q,r,s,t,u⟩=>Sg.cut 1 A1 (bj dm ak9 [⟨[],[1],[2,3]⟩]) (fun ⟨v,w,y,z,A,B⟩=>bj dm _ [⟨[],[0],[2,3]⟩])))))
    (fun x=>by cases x with | r0 k l m n o p=>exact jN [.agg [.bool false l,.imm .free (.ns .u64 m) 1 1 n o,.int .i64 p],.int .i64 ((k:Nat):Int)])
def rO:Option e8→Bool
  | some _=>true
  | none=>false
def ra:Option e8→Nat
  | some (.r0 x _ _ _ _ _)=>x
  | _=>0
def rb:Option e8→Bool
  | some (.r0 _ x _ _ _ _)=>x
  | _=>false
def rc:Option e8→List Int
  | some (.r0 _ _ x _ _ _)=>x
  | _=>[]
def re:Option e8→Nat
  | some (.r0 _ _ _ x _ _)=>x
  | _=>0
def rf:Option e8→Nat
  | some (.r0 _ _ _ _ x _)=>x
  | _=>0
def rg:Option e8→Int
  | some (.r0 _ _ _ _ _ x)=>x
  | _=>0
theorem alb{x:Option e8}(h:rO x=true) :x=some (.r0 (ra x) (rb x) (rc x) (re x) (rf x) (rg x)):=by
  unfold rO at h
  split at h<;>first | rfl | (cases h;done) | (rename_i y;cases y;rfl)
def Wa:aM:=bK JD (.cons (.agg (.cons (.int .i64) (.cons (.int .i64) (.cons .fl .nil)))) .nil) fun t=>(fun q=>[⟨KZ (.r0 (ra q) (rb q) (rc q) (re q) (rf q) (rg q)),[rO q]⟩]) (da t.1.1 t.1.2.1 t.1.2.2.1.2)
theorem aa0:aY prog Wa:=aR fun t=>(aS (fun h=>ala t.1.1 t.1.2.1 t.1.2.2.1.1 t.1.2.2.1.2 (alb h)) bc)
def Wb:List aM:=Wa::oW
theorem rh:be prog (bh Wb):=ax aa0 dm
inductive iK where
  | r0 (a:Bool) (b:Int)
def R2:iK→AE×aQ
  | .r0 a b=>(.ret,⟨an 37 [(8,.bool false a),(9,.int .i64 b)],[],0⟩)
theorem Fl:jJ R2:=by intro x;cases x<;>(intro h;cases h)
def Ik:iK→gM
  | .r0 a b=>⟨.tup [.bool false a,.int .i64 b],[]⟩
def afd(b:Bool)(c:Lv)(a:List Int)(d:Int) :Nat×Bool×(List Int)×Nat×Nat×Int→aQ:=fun (e,f,g,h,i,j)=>⟨an 37 [(1,.int .i64 ((e:Nat):Int)),(4,.ptr 0 1 0 0),(10,.ptr 1 1 0 0)],[(0,.vs [.bool false b,.imm c (.ns .u64 a) 1 1 0 (List.length a),.int .i64 d]),(1,.vs [.bool false f,.imm .free (.ns .u64 g) 1 1 h i,.int .i64 j])],2⟩
def Nn(g:Int)(c:Bool)(a:List Int)(d:Int)(e:Bool)(b:List Int)(f:Int) :T ((Nat×Bool×(List Int)×Nat×Nat×Int)⊕(iK)) :=
  .ask (g != (0:Int))
    (.leaf (.inr (.r0 false g)))
    (.need (aG 0 (List.length a) a)<|.need (aG 0 (List.length b) b)<|.need (oS (aD c (ab 0 (List.length a) a) d e (ab 0 (List.length b) b) f))<|.leaf (.inl ((l5 (aD c (ab 0 (List.length a) a) d e (ab 0 (List.length b) b) f)),(cZ (aD c (ab 0 (List.length a) a) d e (ab 0 (List.length b) b) f)),(cO (aD c (ab 0 (List.length a) a) d e (ab 0 (List.length b) b) f)),(cP (aD c (ab 0 (List.length a) a) d e (ab 0 (List.length b) b) f)),(cQ (aD c (ab 0 (List.length a) a) d e (ab 0 (List.length b) b) f)),(c4 (aD c (ab 0 (List.length a) a) d e (ab 0 (List.length b) b) f)))))
def afe:Nat×Int→aQ:=fun (a,b)=>⟨an 37 [(1,.int .i64 ((a:Nat):Int)),(11,.int .i64 b)],[],0⟩
def Fm(e:Bool)(a:List Int)(f:Int)(i:Nat)(g:Bool)(b:List Int)(c:Nat)(d:Nat)(h:Int) :T ((Nat×Int)⊕(iK)) :=
  .ask (((i:Nat):Int) != (0:Int))
    (.leaf (.inr (.r0 false ((i:Nat):Int))))
    (.need (aG 0 (List.length a) a)<|.need (aG c d b)<|.need (Dx (ut e (ab 0 (List.length a) a) f g (ab c d b) h))<|.leaf (.inl ((Eg (ut e (ab 0 (List.length a) a) f g (ab c d b) h)),(Ef (ut e (ab 0 (List.length a) a) f g (ab c d b) h)))))
def aff(a:Nat)(b:Bool) :aQ:=⟨an 37 [(8,.bool false b),(9,.int .i64 ((a:Nat):Int))],[],0⟩
def afg(a:Nat)(b:Int) :T ((Bool)⊕(iK)) :=
  .ask (((a:Nat):Int)==(0:Int))
    (.leaf (.inl (decide (b≤(0:Int)))))
    (.leaf (.inl false))
def afh(a:Nat)(b:Bool) :T ((Empty)⊕(iK)) :=
  .leaf (.inr (.r0 b ((a:Nat):Int)))
def cw(b:Bool)(c:List Int)(d:Int)(e:Int)(f:Bool)(g:List Int)(h:Int)(i:Bool)(j:List Int)(k:Int) :Option iK:=jM (aC ((Nn e f g h i j k).run) fun (l,m,n,o,p,q) =>
  aC ((Fm b c d l m n o p q).run) fun (a,r) =>
  aC ((afg a r).run) fun s =>
  (afh a s).run)
theorem afi(b:Bool)(f:Lv)(a:List Int)(c:Int)(g:Int)(i:Bool)(m:Lv)(d:List Int)(j:Int)(k:Bool)(n:Lv)(e:List Int)(l:Int){x:iK}(h:cw b a c g i d j k e l=some x) :ay prog GW [] [.agg [.bool false b,.imm f (.ns .u64 a) 1 1 0 (List.length a),.int .i64 c],.int .i64 g,.agg [.bool false i,.imm m (.ns .u64 d) 1 1 0 (List.length d),.int .i64 j],.agg [.bool false k,.imm n (.ns .u64 e) 1 1 0 (List.length e),.int .i64 l]] (Ik x) :=
  kf true Ik R2 h (Sg.cut 4 Fl (bj rh (afd b f a c) [⟨[],[],[8,9]⟩,⟨[],[0,208],[1,4,10]⟩]) (fun ⟨r,s,t,u,v,w⟩=>Sg.cut 3 Fl (bj rh afe [⟨[],[],[8,9]⟩,⟨[],[],[1,11]⟩]) (fun ⟨o,y⟩=>Sg.cut 1 Fl (bj rh (aff o) [⟨[],[],[8,9]⟩,⟨[],[],[8,9]⟩]) (fun z=>bj rh _ [⟨[],[],[8,9]⟩]))))
    (fun x=>by cases x with | r0 p q=>exact jN [.bool false p,.int .i64 q])
def kJ:Option iK→Bool
  | some _=>true
  | none=>false
def jS:Option iK→Bool
  | some (.r0 x _)=>x
  | _=>false
def jT:Option iK→Int
  | some (.r0 _ x)=>x
  | _=>0
theorem afj{x:Option iK}(h:kJ x=true) :x=some (.r0 (jS x) (jT x)):=by
  unfold kJ at h
  split at h<;>first | rfl | (cases h;done) | (rename_i y;cases y;rfl)
def R3:aM:=bK GW (.cons (.agg (.cons .bool (.cons (.ns .u64) (.cons (.int .i64) .nil)))) (.cons (.int .i64) (.cons (.agg (.cons .bool (.cons (.ns .u64) (.cons (.int .i64) .nil)))) (.cons (.agg (.cons .bool (.cons (.ns .u64) (.cons (.int .i64) .nil)))) .nil)))) fun t=>(fun q=>[⟨Ik (.r0 (jS q) (jT q)),[kJ q]⟩]) (cw t.1.1 t.1.2.1.2 t.1.2.2.1 t.2.1 t.2.2.1.1 t.2.2.1.2.1.2 t.2.2.1.2.2.1 t.2.2.2.1.1 t.2.2.2.1.2.1.2 t.2.2.2.1.2.2.1)
theorem W7:aY prog R3:=aR fun t=>(aS (fun h=>afi t.1.1 t.1.2.1.1 t.1.2.1.2 t.1.2.2.1 t.2.1 t.2.2.1.1 t.2.2.1.2.1.1 t.2.2.1.2.1.2 t.2.2.1.2.2.1 t.2.2.2.1.1 t.2.2.2.1.2.1.1 t.2.2.2.1.2.1.2 t.2.2.2.1.2.2.1 (afj h)) bc)
def R4:List aM:=R3::Wb
theorem tT:be prog (bh R4):=ax W7 rh
inductive jB where
  | r0 (a:Bool) (b:Int)
def R5:jB→AE×aQ
  | .r0 a b=>(.ret,⟨an 18 [(2,.bool false a),(3,.int .i64 b)],[],0⟩)
theorem No:jJ R5:=by intro x;cases x<;>(intro h;cases h)
def Il:jB→gM
  | .r0 a b=>⟨.tup [.bool false a,.int .i64 b],[]⟩
def afk(b:Lv)(c:Bool)(d:Lv)(a:List Int)(e:Int) :Nat×Bool×(List Int)×Nat×Nat×Int→aQ:=fun (f,g,h,i,j,k)=>⟨an 18 [(1,.iptr b (.vs [.bool false c,.imm d (.ns .u64 a) 1 1 0 (List.length a),.int .i64 e]) 1 0 0),(4,.ptr 0 1 0 0),(5,.int .i64 ((f:Nat):Int))],[(0,.vs [.bool false g,.imm .free (.ns .u64 h) 1 1 i j,.int .i64 k])],1⟩
def Np(b:Int)(c:Int)(a:List Nat) :T ((Nat×Bool×(List Int)×Nat×Nat×Int)⊕(jB)) :=
  .need (aG 0 (List.length a) a)<|.need (rO (da b c (ab 0 (List.length a) a)))<|.leaf (.inl ((ra (da b c (ab 0 (List.length a) a))),(rb (da b c (ab 0 (List.length a) a))),(rc (da b c (ab 0 (List.length a) a))),(re (da b c (ab 0 (List.length a) a))),(rf (da b c (ab 0 (List.length a) a))),(rg (da b c (ab 0 (List.length a) a)))))
def afl:Bool×Int→aQ:=fun (a,b)=>⟨an 18 [(2,.bool false a),(3,.int .i64 b)],[],0⟩
def Fo(e:Bool)(a:List Int)(f:Int)(g:Nat)(h:Bool)(b:List Int)(c:Nat)(d:Nat)(i:Int) :T ((Bool×Int)⊕(jB)) :=
  .need (l6 (bo (1:Int)))<|.need (aG c d b)<|.need (aG 0 (List.length a) a)<|.need (aG (gn (bo (1:Int))) (gp (bo (1:Int))) (gk (bo (1:Int))))<|.need (kJ (cw h (ab c d b) i ((g:Nat):Int) e (ab 0 (List.length a) a) f (iE (bo (1:Int))) (ab (gn (bo (1:Int))) (gp (bo (1:Int))) (gk (bo (1:Int)))) (iF (bo (1:Int)))))<|.leaf (.inl ((jS (cw h (ab c d b) i ((g:Nat):Int) e (ab 0 (List.length a) a) f (iE (bo (1:Int))) (ab (gn (bo (1:Int))) (gp (bo (1:Int))) (gk (bo (1:Int)))) (iF (bo (1:Int))))),(jT (cw h (ab c d b) i ((g:Nat):Int) e (ab 0 (List.length a) a) f (iE (bo (1:Int))) (ab (gn (bo (1:Int))) (gp (bo (1:Int))) (gk (bo (1:Int)))) (iF (bo (1:Int)))))))
def afm(a:Bool)(b:Int) :T ((Empty)⊕(jB)) :=
  .leaf (.inr (.r0 a b))
def nQ(a:Int)(b:Int)(c:List Nat)(d:Bool)(e:List Int)(f:Int) :Option jB:=jM (aC ((Np a b c).run) fun (g,h,i,j,k,l) =>
  aC ((Fo d e f g h i j k l).run) fun (m,n) =>
  (afm m n).run)
theorem afn(j:Lv)(e:Int)(f:Int)(k:Lv)(b:List Nat)(g:Lv)(c:Bool)(i:Lv)(a:List Int)(d:Int){x:jB}(h:nQ e f b c a d=some x) :ay prog Qp [] [.iptr j (.vs [.int .i64 e,.int .i64 f,.imm k (.fl b) 1 1 0 (List.length b)]) 1 0 0,.iptr g (.vs [.bool false c,.imm i (.ns .u64 a) 1 1 0 (List.length a),.int .i64 d]) 1 0 0] (Il x) :=
  kf false Il R5 h (Sg.cut 2 No (bj tT (afk g c i a d) [⟨[],[112],[1,4,5]⟩]) (fun ⟨n,o,p,q,r,s⟩=>Sg.cut 1 No (bj tT afl [⟨[],[],[2,3]⟩]) (fun ⟨t,u⟩=>bj tT _ [⟨[],[],[2,3]⟩])))
    (fun x=>by cases x with | r0 l m=>exact jN [.bool false l,.int .i64 m])
def sN:Option jB→Bool
  | some _=>true
  | none=>false
def tU:Option jB→Bool
  | some (.r0 x _)=>x
  | _=>false
def ng:Option jB→Int
  | some (.r0 _ x)=>x
  | _=>0
theorem afp{x:Option jB}(h:sN x=true) :x=some (.r0 (tU x) (ng x)):=by
  unfold sN at h
  split at h<;>first | rfl | (cases h;done) | (rename_i y;cases y;rfl)
def R6:aM:=bK Qp (.cons (.ivs (.cons (.int .i64) (.cons (.int .i64) (.cons .fl .nil))) 1 0 0) (.cons (.ivs (.cons .bool (.cons (.ns .u64) (.cons (.int .i64) .nil))) 1 0 0) .nil)) fun t=>(fun q=>[⟨Il (.r0 (tU q) (ng q)),[sN q]⟩]) (nQ t.1.2.1 t.1.2.2.1 t.1.2.2.2.1.2 t.2.1.2.1 t.2.1.2.2.1.2 t.2.1.2.2.2.1)
theorem W8:aY prog R6:=aR fun t=>(aS (fun h=>afn t.1.1 t.1.2.1 t.1.2.2.1 t.1.2.2.2.1.1 t.1.2.2.2.1.2 t.2.1.1 t.2.1.2.1 t.2.1.2.2.1.1 t.2.1.2.2.1.2 t.2.1.2.2.2.1 (afp h)) bc)
def R7:List aM:=R6::R4
theorem pU:be prog (bh R7):=ax W8 tT
inductive cz where
  | r0 (a:Nat) (b:Bool) (c:List Int) (d:Nat) (e:Nat) (f:Int)
def DI:cz→AE×aQ
  | .r0 a b c d e f=>(.ret,⟨an 65 [(11,.ptr 0 1 0 0),(12,.int .i64 ((a:Nat):Int))],[(0,.vs [.bool false b,.imm .free (.ns .u64 c) 1 1 d e,.int .i64 f])],1⟩)
theorem uv:jJ DI:=by intro x;cases x<;>(intro h;cases h)
def wb:cz→gM
  | .r0 a b c d e f=>⟨.tup [.agg [.bool false b,.imm .free (.ns .u64 c) 1 1 d e,.int .i64 f],.int .i64 ((a:Nat):Int)],[]⟩
def Pg(d:Int)(e:Int)(f:Lv)(g:Lv)(a:Nat)(h:List Bool)(i:List (List Int))(j:List Int)(k:Lv)(l:Int)(m:Int)(n:Lv)(b:List Nat)(o:Lv)(p:Lv)(c:Nat)(q:List Bool)(r:List (List Int))(s:List Int) :Nat×Bool×Bool×(List Int)×Nat×Nat×Int→aQ:=fun (t,u,v,w,x,y,z)=>⟨an 65 [(0,.int .i64 d),(1,.int .i64 e),(6,.iptr f (.vs [.imm g (.cols a [.cb h,.cns .u64 i,.ci .i64 j]) 3 3 0 a]) 1 0 0),(7,.iptr k (.vs [.int .i64 l,.int .i64 m,.imm n (.fl b) 1 1 0 (List.length b)]) 1 0 0),(8,.iptr o (.vs [.imm p (.cols c [.cb q,.cns .u64 r,.ci .i64 s]) 3 3 0 c]) 1 0 0),(11,.ptr 0 1 0 0),(13,.ptr 1 1 0 0),(14,.int .i64 ((t:Nat):Int))],[(0,.vs [.bool false u,.nsl,.int .i64 (0:Int)]),(1,.vs [.bool false v,.imm .free (.ns .u64 w) 1 1 x y,.int .i64 z])],2⟩
def Cf(d:Int)(e:Int)(a:Nat)(f:List Bool)(g:List (List Int))(h:List Int)(c:Int)(b:Nat)(i:List Bool)(j:List (List Int))(k:List Int)(l:Int) :T ((Nat×Bool×Bool×(List Int)×Nat×Nat×Int)⊕(cz)) :=
  .need (di .i64 (d*c))<|.need (Nat.ble (0+a) a)<|.need (lR (ak a (ab 0 a f) (ab 0 a g) (ab 0 a h) (d*c) (1:Int) c))<|.need (Nat.ble (0+b) b)<|.need (lR (ak b (ab 0 b i) (ab 0 b j) (ab 0 b k) e l c))<|.need (Nat.ble (0+(ao (ak a (ab 0 a f) (ab 0 a g) (ab 0 a h) (d*c) (1:Int) c))) (ao (ak a (ab 0 a f) (ab 0 a g) (ab 0 a h) (d*c) (1:Int) c)))<|.need (Nat.ble (0+(ao (ak b (ab 0 b i) (ab 0 b j) (ab 0 b k) e l c))) (ao (ak b (ab 0 b i) (ab 0 b j) (ab 0 b k) e l c)))<|.need (uX (dw (ao (ak a (ab 0 a f) (ab 0 a g) (ab 0 a h) (d*c) (1:Int) c)) (ab 0 (ao (ak a (ab 0 a f) (ab 0 a g) (ab 0 a h) (d*c) (1:Int) c)) (bz (ak a (ab 0 a f) (ab 0 a g) (ab 0 a h) (d*c) (1:Int) c))) (ab 0 (ao (ak a (ab 0 a f) (ab 0 a g) (ab 0 a h) (d*c) (1:Int) c)) (bB (ak a (ab 0 a f) (ab 0 a g) (ab 0 a h) (d*c) (1:Int) c))) (ab 0 (ao (ak a (ab 0 a f) (ab 0 a g) (ab 0 a h) (d*c) (1:Int) c)) (bC (ak a (ab 0 a f) (ab 0 a g) (ab 0 a h) (d*c) (1:Int) c))) (ao (ak b (ab 0 b i) (ab 0 b j) (ab 0 b k) e l c)) (ab 0 (ao (ak b (ab 0 b i) (ab 0 b j) (ab 0 b k) e l c)) (bz (ak b (ab 0 b i) (ab 0 b j) (ab 0 b k) e l c))) (ab 0 (ao (ak b (ab 0 b i) (ab 0 b j) (ab 0 b k) e l c)) (bB (ak b (ab 0 b i) (ab 0 b j) (ab 0 b k) e l c))) (ab 0 (ao (ak b (ab 0 b i) (ab 0 b j) (ab 0 b k) e l c)) (bC (ak b (ab 0 b i) (ab 0 b j) (ab 0 b k) e l c)))))<|.leaf (.inl ((sG (dw (ao (ak a (ab 0 a f) (ab 0 a g) (ab 0 a h) (d*c) (1:Int) c)) (ab 0 (ao (ak a (ab 0 a f) (ab 0 a g) (ab 0 a h) (d*c) (1:Int) c)) (bz (ak a (ab 0 a f) (ab 0 a g) (ab 0 a h) (d*c) (1:Int) c))) (ab 0 (ao (ak a (ab 0 a f) (ab 0 a g) (ab 0 a h) (d*c) (1:Int) c)) (bB (ak a (ab 0 a f) (ab 0 a g) (ab 0 a h) (d*c) (1:Int) c))) (ab 0 (ao (ak a (ab 0 a f) (ab 0 a g) (ab 0 a h) (d*c) (1:Int) c)) (bC (ak a (ab 0 a f) (ab 0 a g) (ab 0 a h) (d*c) (1:Int) c))) (ao (ak b (ab 0 b i) (ab 0 b j) (ab 0 b k) e l c)) (ab 0 (ao (ak b (ab 0 b i) (ab 0 b j) (ab 0 b k) e l c)) (bz (ak b (ab 0 b i) (ab 0 b j) (ab 0 b k) e l c))) (ab 0 (ao (ak b (ab 0 b i) (ab 0 b j) (ab 0 b k) e l c)) (bB (ak b (ab 0 b i) (ab 0 b j) (ab 0 b k) e l c))) (ab 0 (ao (ak b (ab 0 b i) (ab 0 b j) (ab 0 b k) e l c)) (bC (ak b (ab 0 b i) (ab 0 b j) (ab 0 b k) e l c))))),false,(sH (dw (ao (ak a (ab 0 a f) (ab 0 a g) (ab 0 a h) (d*c) (1:Int) c)) (ab 0 (ao (ak a (ab 0 a f) (ab 0 a g) (ab 0 a h) (d*c) (1:Int) c)) (bz (ak a (ab 0 a f) (ab 0 a g) (ab 0 a h) (d*c) (1:Int) c))) (ab 0 (ao (ak a (ab 0 a f) (ab 0 a g) (ab 0 a h) (d*c) (1:Int) c)) (bB (ak a (ab 0 a f) (ab 0 a g) (ab 0 a h) (d*c) (1:Int) c))) (ab 0 (ao (ak a (ab 0 a f) (ab 0 a g) (ab 0 a h) (d*c) (1:Int) c)) (bC (ak a (ab 0 a f) (ab 0 a g) (ab 0 a h) (d*c) (1:Int) c))) (ao (ak b (ab 0 b i) (ab 0 b j) (ab 0 b k) e l c)) (ab 0 (ao (ak b (ab 0 b i) (ab 0 b j) (ab 0 b k) e l c)) (bz (ak b (ab 0 b i) (ab 0 b j) (ab 0 b k) e l c))) (ab 0 (ao (ak b (ab 0 b i) (ab 0 b j) (ab 0 b k) e l c)) (bB (ak b (ab 0 b i) (ab 0 b j) (ab 0 b k) e l c))) (ab 0 (ao (ak b (ab 0 b i) (ab 0 b j) (ab 0 b k) e l c)) (bC (ak b (ab 0 b i) (ab 0 b j) (ab 0 b k) e l c))))),(sI (dw (ao (ak a (ab 0 a f) (ab 0 a g) (ab 0 a h) (d*c) (1:Int) c)) (ab 0 (ao (ak a (ab 0 a f) (ab 0 a g) (ab 0 a h) (d*c) (1:Int) c)) (bz (ak a (ab 0 a f) (ab 0 a g) (ab 0 a h) (d*c) (1:Int) c))) (ab 0 (ao (ak a (ab 0 a f) (ab 0 a g) (ab 0 a h) (d*c) (1:Int) c)) (bB (ak a (ab 0 a f) (ab 0 a g) (ab 0 a h) (d*c) (1:Int) c))) (ab 0 (ao (ak a (ab 0 a f) (ab 0 a g) (ab 0 a h) (d*c) (1:Int) c)) (bC (ak a (ab 0 a f) (ab 0 a g) (ab 0 a h) (d*c) (1:Int) c))) (ao (ak b (ab 0 b i) (ab 0 b j) (ab 0 b k) e l c)) (ab 0 (ao (ak b (ab 0 b i) (ab 0 b j) (ab 0 b k) e l c)) (bz (ak b (ab 0 b i) (ab 0 b j) (ab 0 b k) e l c))) (ab 0 (ao (ak b (ab 0 b i) (ab 0 b j) (ab 0 b k) e l c)) (bB (ak b (ab 0 b i) (ab 0 b j) (ab 0 b k) e l c))) (ab 0 (ao (ak b (ab 0 b i) (ab 0 b j) (ab 0 b k) e l c)) (bC (ak b (ab 0 b i) (ab 0 b j) (ab 0 b k) e l c))))),(sJ (dw (ao (ak a (ab 0 a f) (ab 0 a g) (ab 0 a h) (d*c) (1:Int) c)) (ab 0 (ao (ak a (ab 0 a f) (ab 0 a g) (ab 0 a h) (d*c) (1:Int) c)) (bz (ak a (ab 0 a f) (ab 0 a g) (ab 0 a h) (d*c) (1:Int) c))) (ab 0 (ao (ak a (ab 0 a f) (ab 0 a g) (ab 0 a h) (d*c) (1:Int) c)) (bB (ak a (ab 0 a f) (ab 0 a g) (ab 0 a h) (d*c) (1:Int) c))) (ab 0 (ao (ak a (ab 0 a f) (ab 0 a g) (ab 0 a h) (d*c) (1:Int) c)) (bC (ak a (ab 0 a f) (ab 0 a g) (ab 0 a h) (d*c) (1:Int) c))) (ao (ak b (ab 0 b i) (ab 0 b j) (ab 0 b k) e l c)) (ab 0 (ao (ak b (ab 0 b i) (ab 0 b j) (ab 0 b k) e l c)) (bz (ak b (ab 0 b i) (ab 0 b j) (ab 0 b k) e l c))) (ab 0 (ao (ak b (ab 0 b i) (ab 0 b j) (ab 0 b k) e l c)) (bB (ak b (ab 0 b i) (ab 0 b j) (ab 0 b k) e l c))) (ab 0 (ao (ak b (ab 0 b i) (ab 0 b j) (ab 0 b k) e l c)) (bC (ak b (ab 0 b i) (ab 0 b j) (ab 0 b k) e l c))))),(sK (dw (ao (ak a (ab 0 a f) (ab 0 a g) (ab 0 a h) (d*c) (1:Int) c)) (ab 0 (ao (ak a (ab 0 a f) (ab 0 a g) (ab 0 a h) (d*c) (1:Int) c)) (bz (ak a (ab 0 a f) (ab 0 a g) (ab 0 a h) (d*c) (1:Int) c))) (ab 0 (ao (ak a (ab 0 a f) (ab 0 a g) (ab 0 a h) (d*c) (1:Int) c)) (bB (ak a (ab 0 a f) (ab 0 a g) (ab 0 a h) (d*c) (1:Int) c))) (ab 0 (ao (ak a (ab 0 a f) (ab 0 a g) (ab 0 a h) (d*c) (1:Int) c)) (bC (ak a (ab 0 a f) (ab 0 a g) (ab 0 a h) (d*c) (1:Int) c))) (ao (ak b (ab 0 b i) (ab 0 b j) (ab 0 b k) e l c)) (ab 0 (ao (ak b (ab 0 b i) (ab 0 b j) (ab 0 b k) e l c)) (bz (ak b (ab 0 b i) (ab 0 b j) (ab 0 b k) e l c))) (ab 0 (ao (ak b (ab 0 b i) (ab 0 b j) (ab 0 b k) e l c)) (bB (ak b (ab 0 b i) (ab 0 b j) (ab 0 b k) e l c))) (ab 0 (ao (ak b (ab 0 b i) (ab 0 b j) (ab 0 b k) e l c)) (bC (ak b (ab 0 b i) (ab 0 b j) (ab 0 b k) e l c))))),(sL (dw (ao (ak a (ab 0 a f) (ab 0 a g) (ab 0 a h) (d*c) (1:Int) c)) (ab 0 (ao (ak a (ab 0 a f) (ab 0 a g) (ab 0 a h) (d*c) (1:Int) c)) (bz (ak a (ab 0 a f) (ab 0 a g) (ab 0 a h) (d*c) (1:Int) c))) (ab 0 (ao (ak a (ab 0 a f) (ab 0 a g) (ab 0 a h) (d*c) (1:Int) c)) (bB (ak a (ab 0 a f) (ab 0 a g) (ab 0 a h) (d*c) (1:Int) c))) (ab 0 (ao (ak a (ab 0 a f) (ab 0 a g) (ab 0 a h) (d*c) (1:Int) c)) (bC (ak a (ab 0 a f) (ab 0 a g) (ab 0 a h) (d*c) (1:Int) c))) (ao (ak b (ab 0 b i) (ab 0 b j) (ab 0 b k) e l c)) (ab 0 (ao (ak b (ab 0 b i) (ab 0 b j) (ab 0 b k) e l c)) (bz (ak b (ab 0 b i) (ab 0 b j) (ab 0 b k) e l c))) (ab 0 (ao (ak b (ab 0 b i) (ab 0 b j) (ab 0 b k) e l c)) (bB (ak b (ab 0 b i) (ab 0 b j) (ab 0 b k) e l c))) (ab 0 (ao (ak b (ab 0 b i) (ab 0 b j) (ab 0 b k) e l c)) (bC (ak b (ab 0 b i) (ab 0 b j) (ab 0 b k) e l c)))))))
def Ph(a:Bool)(b:Bool)(c:List Int)(d:Nat)(e:Nat)(f:Int) :Nat×Bool×(List Int)×Nat×Nat×Int→aQ:=fun (g,h,i,j,k,l)=>⟨an 65 [(11,.ptr 0 1 0 0),(13,.ptr 1 1 0 0),(14,.int .i64 ((g:Nat):Int)),(15,.ptr 2 1 0 0)],[(0,.vs [.bool false a,.nsl,.int .i64 (0:Int)]),(1,.vs [.bool false b,.imm .free (.ns .u64 c) 1 1 d e,.int .i64 f]),(2,.vs [.bool false h,.imm .free (.ns .u64 i) 1 1 j k,.int .i64 l])],3⟩
def uw(b:Int)(a:Int)(k:Nat)(f:List Bool)(d:List (List Int))(g:List Int)(c:Int)(l:Nat)(h:List Bool)(e:List (List Int))(i:List Int)(j:Nat) :T ((Nat×Bool×(List Int)×Nat×Nat×Int)⊕(cz)) :=
  .ask (((j:Nat):Int) != (0:Int))
    (.leaf (.inr (.r0 j false ([]:List Int) 0 0 (0:Int))))
    (.need (di .i64 (b*c))<|.need (di .i64 ((b*c)+a))<|.need (fv ((b*c)+a) k)<|.need (g9 (Int.toNat ((b*c)+a)) (List.length f))<|.need (g9 (Int.toNat ((b*c)+a)) (List.length d))<|.need (g9 (Int.toNat ((b*c)+a)) (List.length g))<|.need (fv a l)<|.need (g9 (Int.toNat a) (List.length h))<|.need (g9 (Int.toNat a) (List.length e))<|.need (g9 (Int.toNat a) (List.length i))<|.need (aG 0 (List.length (List.getD d (Int.toNat ((b*c)+a)) [])) (List.getD d (Int.toNat ((b*c)+a)) []))<|.need (aG 0 (List.length (List.getD e (Int.toNat a) [])) (List.getD e (Int.toNat a) []))<|.need (oS (aD (List.getD f (Int.toNat ((b*c)+a)) false) (ab 0 (List.length (List.getD d (Int.toNat ((b*c)+a)) [])) (List.getD d (Int.toNat ((b*c)+a)) [])) (List.getD g (Int.toNat ((b*c)+a)) 0) (List.getD h (Int.toNat a) false) (ab 0 (List.length (List.getD e (Int.toNat a) [])) (List.getD e (Int.toNat a) [])) (List.getD i (Int.toNat a) 0)))<|.leaf (.inl ((l5 (aD (List.getD f (Int.toNat ((b*c)+a)) false) (ab 0 (List.length (List.getD d (Int.toNat ((b*c)+a)) [])) (List.getD d (Int.toNat ((b*c)+a)) [])) (List.getD g (Int.toNat ((b*c)+a)) 0) (List.getD h (Int.toNat a) false) (ab 0 (List.length (List.getD e (Int.toNat a) [])) (List.getD e (Int.toNat a) [])) (List.getD i (Int.toNat a) 0))),(cZ (aD (List.getD f (Int.toNat ((b*c)+a)) false) (ab 0 (List.length (List.getD d (Int.toNat ((b*c)+a)) [])) (List.getD d (Int.toNat ((b*c)+a)) [])) (List.getD g (Int.toNat ((b*c)+a)) 0) (List.getD h (Int.toNat a) false) (ab 0 (List.length (List.getD e (Int.toNat a) [])) (List.getD e (Int.toNat a) [])) (List.getD i (Int.toNat a) 0))),(cO (aD (List.getD f (Int.toNat ((b*c)+a)) false) (ab 0 (List.length (List.getD d (Int.toNat ((b*c)+a)) [])) (List.getD d (Int.toNat ((b*c)+a)) [])) (List.getD g (Int.toNat ((b*c)+a)) 0) (List.getD h (Int.toNat a) false) (ab 0 (List.length (List.getD e (Int.toNat a) [])) (List.getD e (Int.toNat a) [])) (List.getD i (Int.toNat a) 0))),(cP (aD (List.getD f (Int.toNat ((b*c)+a)) false) (ab 0 (List.length (List.getD d (Int.toNat ((b*c)+a)) [])) (List.getD d (Int.toNat ((b*c)+a)) [])) (List.getD g (Int.toNat ((b*c)+a)) 0) (List.getD h (Int.toNat a) false) (ab 0 (List.length (List.getD e (Int.toNat a) [])) (List.getD e (Int.toNat a) [])) (List.getD i (Int.toNat a) 0))),(cQ (aD (List.getD f (Int.toNat ((b*c)+a)) false) (ab 0 (List.length (List.getD d (Int.toNat ((b*c)+a)) [])) (List.getD d (Int.toNat ((b*c)+a)) [])) (List.getD g (Int.toNat ((b*c)+a)) 0) (List.getD h (Int.toNat a) false) (ab 0 (List.length (List.getD e (Int.toNat a) [])) (List.getD e (Int.toNat a) [])) (List.getD i (Int.toNat a) 0))),(c4 (aD (List.getD f (Int.toNat ((b*c)+a)) false) (ab 0 (List.length (List.getD d (Int.toNat ((b*c)+a)) [])) (List.getD d (Int.toNat ((b*c)+a)) [])) (List.getD g (Int.toNat ((b*c)+a)) 0) (List.getD h (Int.toNat a) false) (ab 0 (List.length (List.getD e (Int.toNat a) [])) (List.getD e (Int.toNat a) [])) (List.getD i (Int.toNat a) 0))))))
def Pi:Nat×Bool×(List Int)×Nat×Nat×Int→aQ:=fun (a,b,c,d,e,f)=>⟨an 65 [(11,.ptr 0 1 0 0),(12,.int .i64 ((a:Nat):Int))],[(0,.vs [.bool false b,.imm .free (.ns .u64 c) 1 1 d e,.int .i64 f])],1⟩
def ux(g:Bool)(a:List Int)(b:Nat)(c:Nat)(h:Int)(k:Nat)(i:Bool)(d:List Int)(e:Nat)(f:Nat)(j:Int) :T ((Nat×Bool×(List Int)×Nat×Nat×Int)⊕(cz)) :=
  .ask (((k:Nat):Int) != (0:Int))
    (.leaf (.inr (.r0 k false ([]:List Int) 0 0 (0:Int))))
    (.need (aG b c a)<|.need (aG e f d)<|.need (zk (gd g (ab b c a) h i (ab e f d) j))<|.leaf (.inl ((yP (gd g (ab b c a) h i (ab e f d) j)),(yQ (gd g (ab b c a) h i (ab e f d) j)),(yR (gd g (ab b c a) h i (ab e f d) j)),(yS (gd g (ab b c a) h i (ab e f d) j)),(yT (gd g (ab b c a) h i (ab e f d) j)),(yU (gd g (ab b c a) h i (ab e f d) j)))))
def Pj(a:Nat)(b:Bool)(c:List Int)(d:Nat)(e:Nat)(f:Int) :T ((Empty)⊕(cz)) :=
  .leaf (.inr (.r0 a b c d e f))
def cR(a:Int)(b:Int)(c:Nat)(d:List Bool)(e:List (List Int))(f:List Int)(g:Int)(h:Nat)(i:List Bool)(j:List (List Int))(k:List Int)(l:Int)(m:Nat)(n:List Bool)(o:List (List Int))(p:List Int)(q:Int)(r:Nat)(s:List Bool)(t:List (List Int))(u:List Int) :Option cz:=jM (aC ((Cf a b c d e f g h i j k l).run) fun (v,N,w,x,y,z,A) =>
  aC ((uw a b m n o p q r s t u v).run) fun (B,C,D,E,F,G) =>
  aC ((ux w x y z A B C D E F G).run) fun (H,I,J,K,L,M) =>
  (Pj H I J K L M).run)
theorem Pk(c:Int)(d:Int)(H:Lv)(I:Lv)(e:Nat)(p:List Bool)(q:List (List Int))(r:List Int)(J:Lv)(K:Int)(s:Int)(L:Lv)(t:List Nat)(M:Lv)(N:Lv)(f:Nat)(u:List Bool)(v:List (List Int))(w:List Int)(O:Lv)(P:Int)(y:Int)(Q:Lv)(z:List Nat)(A:Lv)(B:Lv)(a:Nat)(g:List Bool)(i:List (List Int))(j:List Int)(C:Lv)(D:Int)(k:Int)(E:Lv)(l:List Nat)(F:Lv)(G:Lv)(b:Nat)(m:List Bool)(n:List (List Int))(o:List Int){x:cz}(h:cR c d e p q r s f u v w y a g i j k b m n o=some x) :ay prog dl [] [.int .i64 c,.int .i64 d,.iptr H (.vs [.imm I (.cols e [.cb p,.cns .u64 q,.ci .i64 r]) 3 3 0 e]) 1 0 0,.iptr J (.vs [.int .i64 K,.int .i64 s,.imm L (.fl t) 1 1 0 (List.length t)]) 1 0 0,.iptr M (.vs [.imm N (.cols f [.cb u,.cns .u64 v,.ci .i64 w]) 3 3 0 f]) 1 0 0,.iptr O (.vs [.int .i64 P,.int .i64 y,.imm Q (.fl z) 1 1 0 (List.length z)]) 1 0 0,.iptr A (.vs [.imm B (.cols a [.cb g,.cns .u64 i,.ci .i64 j]) 3 3 0 a]) 1 0 0,.iptr C (.vs [.int .i64 D,.int .i64 k,.imm E (.fl l) 1 1 0 (List.length l)]) 1 0 0,.iptr F (.vs [.imm G (.cols b [.cb m,.cns .u64 n,.ci .i64 o]) 3 3 0 b]) 1 0 0] (wb x) :=
  kf false wb DI h (Sg.cut 2 uv (bj pU (Pg c d A B a g i j C D k E l F G b m n o) [⟨[],[0,336],[0,1,6,7,8,11,13,14]⟩]) (fun ⟨a3,R,S,T,U,V,W⟩=>Sg.cut 3 uv (bj pU (Ph R S T U V W) [⟨[(.cell 0 1,.fre 1 1 (.ns .u64 ([]:List Int)))],[0],[11,12]⟩,⟨[],[0,1,306],[11,13,14,15]⟩]) (fun ⟨a4,a7,a8,a9,b0,b1⟩=>Sg.cut 3 uv (bj pU Pi [⟨[(.cell 0 1,.fre 1 1 (.ns .u64 ([]:List Int)))],[0],[11,12]⟩,⟨[],[0],[11,12]⟩]) (fun ⟨b4,b5,b6,b7,b8,c0⟩=>bj pU _ [⟨[],[0],[11,12]⟩]))))
    (fun x=>by cases x with | r0 X Y Z a0 a1 a2=>exact jN [.agg [.bool false Y,.imm .free (.ns .u64 Z) 1 1 a0 a1,.int .i64 a2],.int .i64 ((X:Nat):Int)])
def mB:Option cz→Bool
  | some _=>true
  | none=>false
def jd:Option cz→Nat
  | some (.r0 x _ _ _ _ _)=>x
  | _=>0
def nR:Option cz→Bool
  | some (.r0 _ x _ _ _ _)=>x
  | _=>false
def kW:Option cz→List Int
  | some (.r0 _ _ x _ _ _)=>x
  | _=>[]
def kX:Option cz→Nat
  | some (.r0 _ _ _ x _ _)=>x
  | _=>0
def kY:Option cz→Nat
  | some (.r0 _ _ _ _ x _)=>x
  | _=>0
def nT:Option cz→Int
  | some (.r0 _ _ _ _ _ x)=>x
  | _=>0
theorem Pm{x:Option cz}(h:mB x=true) :x=some (.r0 (jd x) (nR x) (kW x) (kX x) (kY x) (nT x)):=by
  unfold mB at h
  split at h<;>first | rfl | (cases h;done) | (rename_i y;cases y;rfl)
def DJ:aM:=bK dl (.cons (.int .i64) (.cons (.int .i64) (.cons (.ivs (.cons (.cols [.cb,.cns .u64,.ci .i64]) .nil) 1 0 0) (.cons (.ivs (.cons (.int .i64) (.cons (.int .i64) (.cons .fl .nil))) 1 0 0) (.cons (.ivs (.cons (.cols [.cb,.cns .u64,.ci .i64]) .nil) 1 0 0) (.cons (.ivs (.cons (.int .i64) (.cons (.int .i64) (.cons .fl .nil))) 1 0 0) (.cons (.ivs (.cons (.cols [.cb,.cns .u64,.ci .i64]) .nil) 1 0 0) (.cons (.ivs (.cons (.int .i64) (.cons (.int .i64) (.cons .fl .nil))) 1 0 0) (.cons (.ivs (.cons (.cols [.cb,.cns .u64,.ci .i64]) .nil) 1 0 0) .nil))))))))) fun t=>(fun q=>[⟨wb (.r0 (jd q) (nR q) (kW q) (kX q) (kY q) (nT q)),[mB q]⟩]) (cR t.1 t.2.1 t.2.2.1.2.1.2.1 t.2.2.1.2.1.2.2.1 t.2.2.1.2.1.2.2.2.1 t.2.2.1.2.1.2.2.2.2.1 t.2.2.2.1.2.2.1 t.2.2.2.2.1.2.1.2.1 t.2.2.2.2.1.2.1.2.2.1 t.2.2.2.2.1.2.1.2.2.2.1 t.2.2.2.2.1.2.1.2.2.2.2.1 t.2.2.2.2.2.1.2.2.1 t.2.2.2.2.2.2.1.2.1.2.1 t.2.2.2.2.2.2.1.2.1.2.2.1 t.2.2.2.2.2.2.1.2.1.2.2.2.1 t.2.2.2.2.2.2.1.2.1.2.2.2.2.1 t.2.2.2.2.2.2.2.1.2.2.1 t.2.2.2.2.2.2.2.2.1.2.1.2.1 t.2.2.2.2.2.2.2.2.1.2.1.2.2.1 t.2.2.2.2.2.2.2.2.1.2.1.2.2.2.1 t.2.2.2.2.2.2.2.2.1.2.1.2.2.2.2.1)
theorem K0:aY prog DJ:=aR fun t=>(aS (fun h=>Pk t.1 t.2.1 t.2.2.1.1 t.2.2.1.2.1.1 t.2.2.1.2.1.2.1 t.2.2.1.2.1.2.2.1 t.2.2.1.2.1.2.2.2.1 t.2.2.1.2.1.2.2.2.2.1 t.2.2.2.1.1 t.2.2.2.1.2.1 t.2.2.2.1.2.2.1 t.2.2.2.1.2.2.2.1.1 t.2.2.2.1.2.2.2.1.2 t.2.2.2.2.1.1 t.2.2.2.2.1.2.1.1 t.2.2.2.2.1.2.1.2.1 t.2.2.2.2.1.2.1.2.2.1 t.2.2.2.2.1.2.1.2.2.2.1 t.2.2.2.2.1.2.1.2.2.2.2.1 t.2.2.2.2.2.1.1 t.2.2.2.2.2.1.2.1 t.2.2.2.2.2.1.2.2.1 t.2.2.2.2.2.1.2.2.2.1.1 t.2.2.2.2.2.1.2.2.2.1.2 t.2.2.2.2.2.2.1.1 t.2.2.2.2.2.2.1.2.1.1 t.2.2.2.2.2.2.1.2.1.2.1 t.2.2.2.2.2.2.1.2.1.2.2.1 t.2.2.2.2.2.2.1.2.1.2.2.2.1 t.2.2.2.2.2.2.1.2.1.2.2.2.2.1 t.2.2.2.2.2.2.2.1.1 t.2.2.2.2.2.2.2.1.2.1 t.2.2.2.2.2.2.2.1.2.2.1 t.2.2.2.2.2.2.2.1.2.2.2.1.1 t.2.2.2.2.2.2.2.1.2.2.2.1.2 t.2.2.2.2.2.2.2.2.1.1 t.2.2.2.2.2.2.2.2.1.2.1.1 t.2.2.2.2.2.2.2.2.1.2.1.2.1 t.2.2.2.2.2.2.2.2.1.2.1.2.2.1 t.2.2.2.2.2.2.2.2.1.2.1.2.2.2.1 t.2.2.2.2.2.2.2.2.1.2.1.2.2.2.2.1 (Pm h)) bc)
def DK:List aM:=DJ::R7
theorem dk:be prog (bh DK):=ax K0 pU
inductive aH where
  | r0 (a:Nat) (b:Bool) (c:List Int) (d:Nat) (e:Nat) (f:Int)
def dR:aH→AE×aQ
  | .r0 a b c d e f=>(.ret,⟨an 46 [(4,.ptr 0 1 0 0),(5,.int .i64 ((a:Nat):Int))],[(0,.vs [.bool false b,.imm .free (.ns .u64 c) 1 1 d e,.int .i64 f])],1⟩)
theorem bn:jJ dR:=by intro x;cases x<;>(intro h;cases h)
theorem iX(id:Nat) :mP id dR:=by intro x;cases x<;>(intro h;cases h)
def jg:aH→gM
  | .r0 a b c d e f=>⟨.tup [.agg [.bool false b,.imm .free (.ns .u64 c) 1 1 d e,.int .i64 f],.int .i64 ((a:Nat):Int)],[]⟩
def im:List Code:=cN (oa mu)
def uy(h:Int)(i:Int)(j:Lv)(k:Lv)(a:Nat)(l:List Bool)(m:List (List Int))(n:List Int)(o:Lv)(p:Int)(q:Int)(r:Lv)(b:List Nat)(s:Lv)(t:Lv)(c:Nat)(u:List Bool)(v:List (List Int))(w:List Int)(x:Lv)(y:Int)(z:Int)(A:Lv)(d:List Nat)(B:Lv)(C:Lv)(e:Nat)(D:List Bool)(E:List (List Int))(F:List Int)(G:Lv)(H:Int)(I:Int)(J:Lv)(f:List Nat)(K:Lv)(L:Lv)(g:Nat)(M:List Bool)(N:List (List Int))(O:List Int)(P:Bool) :aQ:=⟨an 46 [(1,.fn (.func dl) [] [.iptr j (.vs [.imm k (.cols a [.cb l,.cns .u64 m,.ci .i64 n]) 3 3 0 a]) 1 0 0,.iptr o (.vs [.int .i64 p,.int .i64 q,.imm r (.fl b) 1 1 0 (List.length b)]) 1 0 0,.iptr s (.vs [.imm t (.cols c [.cb u,.cns .u64 v,.ci .i64 w]) 3 3 0 c]) 1 0 0,.iptr x (.vs [.int .i64 y,.int .i64 z,.imm A (.fl d) 1 1 0 (List.length d)]) 1 0 0,.iptr B (.vs [.imm C (.cols e [.cb D,.cns .u64 E,.ci .i64 F]) 3 3 0 e]) 1 0 0,.iptr G (.vs [.int .i64 H,.int .i64 I,.imm J (.fl f) 1 1 0 (List.length f)]) 1 0 0,.iptr K (.vs [.imm L (.cols g [.cb M,.cns .u64 N,.ci .i64 O]) 3 3 0 g]) 1 0 0]),(2,.ptr 0 1 0 0),(4,.ptr 1 1 0 0)],[(0,.vs [.int .i64 h,.int .i64 i]),(1,.vs [.bool false P,.nsl,.int .i64 (0:Int)])],2⟩
def sO:T ((Bool)⊕(aH)) :=
  .leaf (.inl false)
def sP:List Code:=cN (LR (((im.drop 1)).headD .skip))
def uz(a:Int)(i:Int)(j:Lv)(k:Lv)(b:Nat)(l:List Bool)(m:List (List Int))(n:List Int)(o:Lv)(p:Int)(q:Int)(r:Lv)(c:List Nat)(s:Lv)(t:Lv)(d:Nat)(u:List Bool)(v:List (List Int))(w:List Int)(x:Lv)(y:Int)(z:Int)(A:Lv)(e:List Nat)(B:Lv)(C:Lv)(f:Nat)(D:List Bool)(E:List (List Int))(F:List Int)(G:Lv)(H:Int)(I:Int)(J:Lv)(g:List Nat)(K:Lv)(L:Lv)(h:Nat)(M:List Bool)(N:List (List Int))(O:List Int)(P:Bool)(_:Unit) :aQ:=⟨an 46 [(1,.fn (.func dl) [] [.iptr j (.vs [.imm k (.cols b [.cb l,.cns .u64 m,.ci .i64 n]) 3 3 0 b]) 1 0 0,.iptr o (.vs [.int .i64 p,.int .i64 q,.imm r (.fl c) 1 1 0 (List.length c)]) 1 0 0,.iptr s (.vs [.imm t (.cols d [.cb u,.cns .u64 v,.ci .i64 w]) 3 3 0 d]) 1 0 0,.iptr x (.vs [.int .i64 y,.int .i64 z,.imm A (.fl e) 1 1 0 (List.length e)]) 1 0 0,.iptr B (.vs [.imm C (.cols f [.cb D,.cns .u64 E,.ci .i64 F]) 3 3 0 f]) 1 0 0,.iptr G (.vs [.int .i64 H,.int .i64 I,.imm J (.fl g) 1 1 0 (List.length g)]) 1 0 0,.iptr K (.vs [.imm L (.cols h [.cb M,.cns .u64 N,.ci .i64 O]) 3 3 0 h]) 1 0 0]),(2,.ptr 0 1 0 0),(4,.ptr 1 1 0 0),(6,.nsl),(7,.int .i64 (0:Int)),(13,.int .i64 a),(14,.int .i64 (0:Int))],[(0,.vs [.int .i64 a,.int .i64 i]),(1,.vs [.bool false P,.nsl,.int .i64 (0:Int)])],2⟩
def sQ:T ((Unit)⊕(aH)) :=
  .leaf (.inl ())
def io(a:Int)(i:Int)(j:Lv)(k:Lv)(b:Nat)(l:List Bool)(m:List (List Int))(n:List Int)(o:Lv)(p:Int)(q:Int)(r:Lv)(c:List Nat)(s:Lv)(t:Lv)(d:Nat)(u:List Bool)(v:List (List Int))(w:List Int)(x:Lv)(y:Int)(z:Int)(A:Lv)(e:List Nat)(B:Lv)(C:Lv)(f:Nat)(D:List Bool)(E:List (List Int))(F:List Int)(G:Lv)(H:Int)(I:Int)(J:Lv)(g:List Nat)(K:Lv)(L:Lv)(h:Nat)(M:List Bool)(N:List (List Int))(O:List Int)(P:Bool) :Nat×Nat×Nat×Nat×Nat×(List Bool)×(List (List Int))×(List Int)→aQ:=fun (Q,R,S,T,U,V,W,X)=>⟨an 46 [(1,.fn (.func dl) [] [.iptr j (.vs [.imm k (.cols b [.cb l,.cns .u64 m,.ci .i64 n]) 3 3 0 b]) 1 0 0,.iptr o (.vs [.int .i64 p,.int .i64 q,.imm r (.fl c) 1 1 0 (List.length c)]) 1 0 0,.iptr s (.vs [.imm t (.cols d [.cb u,.cns .u64 v,.ci .i64 w]) 3 3 0 d]) 1 0 0,.iptr x (.vs [.int .i64 y,.int .i64 z,.imm A (.fl e) 1 1 0 (List.length e)]) 1 0 0,.iptr B (.vs [.imm C (.cols f [.cb D,.cns .u64 E,.ci .i64 F]) 3 3 0 f]) 1 0 0,.iptr G (.vs [.int .i64 H,.int .i64 I,.imm J (.fl g) 1 1 0 (List.length g)]) 1 0 0,.iptr K (.vs [.imm L (.cols h [.cb M,.cns .u64 N,.ci .i64 O]) 3 3 0 h]) 1 0 0]),(2,.ptr 0 1 0 0),(4,.ptr 1 1 0 0),(6,.sl 2 3 3 0 Q R),(7,.int .i64 ((S:Nat):Int)),(13,.int .i64 a),(14,.int .i64 ((T:Nat):Int))],[(0,.vs [.int .i64 a,.int .i64 i]),(1,.vs [.bool false P,.nsl,.int .i64 (0:Int)]),(2,.cols U [.cb V,.cns .u64 W,.ci .i64 X])],3⟩
def ip(a:Bool) :Nat×Nat×Nat×Nat×(List Bool)×(List (List Int))×(List Int)→aQ:=fun (b,c,d,e,f,g,h)=>⟨an 46 [(4,.ptr 0 1 0 0),(6,.sl 1 3 3 0 b c),(7,.int .i64 ((d:Nat):Int))],[(0,.vs [.bool false a,.nsl,.int .i64 (0:Int)]),(1,.cols e [.cb f,.cns .u64 g,.ci .i64 h])],2⟩
def ma:List Code:=cN (dn ((((sP.drop 3).take 1)).headD .skip))
def sR(a:Int)(i:Int)(j:Lv)(k:Lv)(b:Nat)(l:List Bool)(m:List (List Int))(n:List Int)(o:Lv)(p:Int)(q:Int)(r:Lv)(c:List Nat)(s:Lv)(t:Lv)(d:Nat)(u:List Bool)(v:List (List Int))(w:List Int)(x:Lv)(y:Int)(z:Int)(A:Lv)(e:List Nat)(B:Lv)(C:Lv)(f:Nat)(D:List Bool)(E:List (List Int))(F:List Int)(G:Lv)(H:Int)(I:Int)(J:Lv)(g:List Nat)(K:Lv)(L:Lv)(h:Nat)(M:List Bool)(N:List (List Int))(O:List Int)(P:Bool)(Q:Nat)(R:Nat)(S:Nat)(T:Nat)(U:Nat)(V:List Bool)(W:List (List Int))(X:List Int)(_:Unit) :aQ:=⟨an 46 [(1,.fn (.func dl) [] [.iptr j (.vs [.imm k (.cols b [.cb l,.cns .u64 m,.ci .i64 n]) 3 3 0 b]) 1 0 0,.iptr o (.vs [.int .i64 p,.int .i64 q,.imm r (.fl c) 1 1 0 (List.length c)]) 1 0 0,.iptr s (.vs [.imm t (.cols d [.cb u,.cns .u64 v,.ci .i64 w]) 3 3 0 d]) 1 0 0,.iptr x (.vs [.int .i64 y,.int .i64 z,.imm A (.fl e) 1 1 0 (List.length e)]) 1 0 0,.iptr B (.vs [.imm C (.cols f [.cb D,.cns .u64 E,.ci .i64 F]) 3 3 0 f]) 1 0 0,.iptr G (.vs [.int .i64 H,.int .i64 I,.imm J (.fl g) 1 1 0 (List.length g)]) 1 0 0,.iptr K (.vs [.imm L (.cols h [.cb M,.cns .u64 N,.ci .i64 O]) 3 3 0 h]) 1 0 0]),(2,.ptr 0 1 0 0),(4,.ptr 1 1 0 0),(6,.sl 2 3 3 0 Q R),(7,.int .i64 ((S:Nat):Int)),(13,.int .i64 a),(14,.int .i64 ((T:Nat):Int))],[(0,.vs [.int .i64 a,.int .i64 i]),(1,.vs [.bool false P,.nsl,.int .i64 (0:Int)]),(2,.cols U [.cb V,.cns .u64 W,.ci .i64 X])],3⟩
def iq(a:Int)(b:Nat)(c:Nat)(d:Nat)(e:Nat)(f:Nat)(g:List Bool)(h:List (List Int))(i:List Int) :T ((Unit)⊕((Nat×Nat×Nat×Nat×(List Bool)×(List (List Int))×(List Int))⊕(aH))) :=
  .ask (decide (((e:Nat):Int)<a))
    (.leaf (.inl ()))
    (.leaf (.inr (.inl (b,c,d,f,g,h,i))))
def mb(a:Int)(i:Int)(j:Lv)(k:Lv)(b:Nat)(l:List Bool)(m:List (List Int))(n:List Int)(o:Lv)(p:Int)(q:Int)(r:Lv)(c:List Nat)(s:Lv)(t:Lv)(d:Nat)(u:List Bool)(v:List (List Int))(w:List Int)(x:Lv)(y:Int)(z:Int)(A:Lv)(e:List Nat)(B:Lv)(C:Lv)(f:Nat)(D:List Bool)(E:List (List Int))(F:List Int)(G:Lv)(H:Int)(I:Int)(J:Lv)(g:List Nat)(K:Lv)(L:Lv)(h:Nat)(M:List Bool)(N:List (List Int))(O:List Int)(P:Bool)(Q:Nat) :Nat×Nat×Nat×Nat×(List Bool)×(List (List Int))×(List Int)→aQ:=fun (R,S,T,U,V,W,X)=>⟨an 46 [(1,.fn (.func dl) [] [.iptr j (.vs [.imm k (.cols b [.cb l,.cns .u64 m,.ci .i64 n]) 3 3 0 b]) 1 0 0,.iptr o (.vs [.int .i64 p,.int .i64 q,.imm r (.fl c) 1 1 0 (List.length c)]) 1 0 0,.iptr s (.vs [.imm t (.cols d [.cb u,.cns .u64 v,.ci .i64 w]) 3 3 0 d]) 1 0 0,.iptr x (.vs [.int .i64 y,.int .i64 z,.imm A (.fl e) 1 1 0 (List.length e)]) 1 0 0,.iptr B (.vs [.imm C (.cols f [.cb D,.cns .u64 E,.ci .i64 F]) 3 3 0 f]) 1 0 0,.iptr G (.vs [.int .i64 H,.int .i64 I,.imm J (.fl g) 1 1 0 (List.length g)]) 1 0 0,.iptr K (.vs [.imm L (.cols h [.cb M,.cns .u64 N,.ci .i64 O]) 3 3 0 h]) 1 0 0]),(2,.ptr 0 1 0 0),(4,.ptr 1 1 0 0),(6,.sl 2 3 3 0 R S),(7,.int .i64 ((T:Nat):Int)),(13,.int .i64 a),(14,.int .i64 ((Q:Nat):Int))],[(0,.vs [.int .i64 a,.int .i64 i]),(1,.vs [.bool false P,.nsl,.int .i64 (0:Int)]),(2,.cols U [.cb V,.cns .u64 W,.ci .i64 X])],3⟩
def sS:List Code:=cN (inBlock ((((ma.drop 2).take 1)).headD .skip))
def sT(a:Int)(b:Int)(k:Lv)(l:Lv)(c:Nat)(m:List Bool)(n:List (List Int))(o:List Int)(p:Lv)(q:Int)(r:Int)(s:Lv)(d:List Nat)(t:Lv)(u:Lv)(e:Nat)(v:List Bool)(w:List (List Int))(x:List Int)(y:Lv)(z:Int)(A:Int)(B:Lv)(f:List Nat)(C:Lv)(D:Lv)(g:Nat)(E:List Bool)(F:List (List Int))(G:List Int)(H:Lv)(I:Int)(J:Int)(K:Lv)(h:List Nat)(L:Lv)(M:Lv)(i:Nat)(N:List Bool)(O:List (List Int))(P:List Int)(Q:Bool)(R:Nat)(S:Nat)(T:Nat)(j:Nat)(U:Nat)(V:List Bool)(W:List (List Int))(X:List Int)(_:Unit) :aQ:=⟨an 46 [(1,.fn (.func dl) [] [.iptr k (.vs [.imm l (.cols c [.cb m,.cns .u64 n,.ci .i64 o]) 3 3 0 c]) 1 0 0,.iptr p (.vs [.int .i64 q,.int .i64 r,.imm s (.fl d) 1 1 0 (List.length d)]) 1 0 0,.iptr t (.vs [.imm u (.cols e [.cb v,.cns .u64 w,.ci .i64 x]) 3 3 0 e]) 1 0 0,.iptr y (.vs [.int .i64 z,.int .i64 A,.imm B (.fl f) 1 1 0 (List.length f)]) 1 0 0,.iptr C (.vs [.imm D (.cols g [.cb E,.cns .u64 F,.ci .i64 G]) 3 3 0 g]) 1 0 0,.iptr H (.vs [.int .i64 I,.int .i64 J,.imm K (.fl h) 1 1 0 (List.length h)]) 1 0 0,.iptr L (.vs [.imm M (.cols i [.cb N,.cns .u64 O,.ci .i64 P]) 3 3 0 i]) 1 0 0]),(2,.ptr 0 1 0 0),(4,.ptr 1 1 0 0),(6,.sl 2 3 3 0 R S),(7,.int .i64 ((T:Nat):Int)),(8,.int .i64 ((j:Nat):Int)),(13,.int .i64 a),(14,.int .i64 ((j:Nat):Int)),(18,.int .i64 b),(19,.int .i64 (0:Int))],[(0,.vs [.int .i64 a,.int .i64 b]),(1,.vs [.bool false Q,.nsl,.int .i64 (0:Int)]),(2,.cols U [.cb V,.cns .u64 W,.ci .i64 X])],3⟩
def sU:T ((Unit)⊕((Nat×Nat×Nat×Nat×(List Bool)×(List (List Int))×(List Int))⊕((Nat×Nat×Nat×Nat×(List Bool)×(List (List Int))×(List Int))⊕(aH)))) :=
  .leaf (.inl ())
def ir(a:Int)(b:Int)(k:Lv)(l:Lv)(c:Nat)(m:List Bool)(n:List (List Int))(o:List Int)(p:Lv)(q:Int)(r:Int)(s:Lv)(d:List Nat)(t:Lv)(u:Lv)(e:Nat)(v:List Bool)(w:List (List Int))(x:List Int)(y:Lv)(z:Int)(A:Int)(B:Lv)(f:List Nat)(C:Lv)(D:Lv)(g:Nat)(E:List Bool)(F:List (List Int))(G:List Int)(H:Lv)(I:Int)(J:Int)(K:Lv)(h:List Nat)(L:Lv)(M:Lv)(i:Nat)(N:List Bool)(O:List (List Int))(P:List Int)(Q:Bool)(j:Nat) :Nat×Nat×Nat×Nat×Nat×(List Bool)×(List (List Int))×(List Int)→aQ:=fun (R,S,T,U,V,W,X,Y)=>⟨an 46 [(1,.fn (.func dl) [] [.iptr k (.vs [.imm l (.cols c [.cb m,.cns .u64 n,.ci .i64 o]) 3 3 0 c]) 1 0 0,.iptr p (.vs [.int .i64 q,.int .i64 r,.imm s (.fl d) 1 1 0 (List.length d)]) 1 0 0,.iptr t (.vs [.imm u (.cols e [.cb v,.cns .u64 w,.ci .i64 x]) 3 3 0 e]) 1 0 0,.iptr y (.vs [.int .i64 z,.int .i64 A,.imm B (.fl f) 1 1 0 (List.length f)]) 1 0 0,.iptr C (.vs [.imm D (.cols g [.cb E,.cns .u64 F,.ci .i64 G]) 3 3 0 g]) 1 0 0,.iptr H (.vs [.int .i64 I,.int .i64 J,.imm K (.fl h) 1 1 0 (List.length h)]) 1 0 0,.iptr L (.vs [.imm M (.cols i [.cb N,.cns .u64 O,.ci .i64 P]) 3 3 0 i]) 1 0 0]),(2,.ptr 0 1 0 0),(4,.ptr 1 1 0 0),(6,.sl 2 3 3 0 R S),(7,.int .i64 ((T:Nat):Int)),(8,.int .i64 ((j:Nat):Int)),(13,.int .i64 a),(14,.int .i64 ((j:Nat):Int)),(18,.int .i64 b),(19,.int .i64 ((U:Nat):Int))],[(0,.vs [.int .i64 a,.int .i64 b]),(1,.vs [.bool false Q,.nsl,.int .i64 (0:Int)]),(2,.cols V [.cb W,.cns .u64 X,.ci .i64 Y])],3⟩
def mc(a:Int)(i:Int)(j:Lv)(k:Lv)(b:Nat)(l:List Bool)(m:List (List Int))(n:List Int)(o:Lv)(p:Int)(q:Int)(r:Lv)(c:List Nat)(s:Lv)(t:Lv)(d:Nat)(u:List Bool)(v:List (List Int))(w:List Int)(x:Lv)(y:Int)(z:Int)(A:Lv)(e:List Nat)(B:Lv)(C:Lv)(f:Nat)(D:List Bool)(E:List (List Int))(F:List Int)(G:Lv)(H:Int)(I:Int)(J:Lv)(g:List Nat)(K:Lv)(L:Lv)(h:Nat)(M:List Bool)(N:List (List Int))(O:List Int)(P:Bool)(Q:Nat) :Nat×Nat×Nat×Nat×(List Bool)×(List (List Int))×(List Int)→aQ:=fun (R,S,T,U,V,W,X)=>⟨an 46 [(1,.fn (.func dl) [] [.iptr j (.vs [.imm k (.cols b [.cb l,.cns .u64 m,.ci .i64 n]) 3 3 0 b]) 1 0 0,.iptr o (.vs [.int .i64 p,.int .i64 q,.imm r (.fl c) 1 1 0 (List.length c)]) 1 0 0,.iptr s (.vs [.imm t (.cols d [.cb u,.cns .u64 v,.ci .i64 w]) 3 3 0 d]) 1 0 0,.iptr x (.vs [.int .i64 y,.int .i64 z,.imm A (.fl e) 1 1 0 (List.length e)]) 1 0 0,.iptr B (.vs [.imm C (.cols f [.cb D,.cns .u64 E,.ci .i64 F]) 3 3 0 f]) 1 0 0,.iptr G (.vs [.int .i64 H,.int .i64 I,.imm J (.fl g) 1 1 0 (List.length g)]) 1 0 0,.iptr K (.vs [.imm L (.cols h [.cb M,.cns .u64 N,.ci .i64 O]) 3 3 0 h]) 1 0 0]),(2,.ptr 0 1 0 0),(4,.ptr 1 1 0 0),(6,.sl 2 3 3 0 R S),(7,.int .i64 ((T:Nat):Int)),(13,.int .i64 a),(14,.int .i64 ((Q:Nat):Int))],[(0,.vs [.int .i64 a,.int .i64 i]),(1,.vs [.bool false P,.nsl,.int .i64 (0:Int)]),(2,.cols U [.cb V,.cns .u64 W,.ci .i64 X])],3⟩
def sV:List Code:=cN (dn ((((sS.drop 2).take 1)).headD .skip))
def sW(b:Int)(c:Int)(l:Lv)(m:Lv)(d:Nat)(n:List Bool)(o:List (List Int))(p:List Int)(q:Lv)(r:Int)(s:Int)(t:Lv)(e:List Nat)(u:Lv)(v:Lv)(f:Nat)(w:List Bool)(x:List (List Int))(y:List Int)(z:Lv)(A:Int)(B:Int)(C:Lv)(g:List Nat)(D:Lv)(E:Lv)(h:Nat)(F:List Bool)(G:List (List Int))(H:List Int)(I:Lv)(J:Int)(K:Int)(L:Lv)(i:List Nat)(M:Lv)(N:Lv)(j:Nat)(O:List Bool)(P:List (List Int))(Q:List Int)(R:Bool)(k:Nat)(S:Nat) :Nat×Nat×(List Bool)×(List (List Int))×(List Int)→aQ:=fun (a,T,U,V,W)=>⟨an 46 [(1,.fn (.func dl) [] [.iptr l (.vs [.imm m (.cols d [.cb n,.cns .u64 o,.ci .i64 p]) 3 3 0 d]) 1 0 0,.iptr q (.vs [.int .i64 r,.int .i64 s,.imm t (.fl e) 1 1 0 (List.length e)]) 1 0 0,.iptr u (.vs [.imm v (.cols f [.cb w,.cns .u64 x,.ci .i64 y]) 3 3 0 f]) 1 0 0,.iptr z (.vs [.int .i64 A,.int .i64 B,.imm C (.fl g) 1 1 0 (List.length g)]) 1 0 0,.iptr D (.vs [.imm E (.cols h [.cb F,.cns .u64 G,.ci .i64 H]) 3 3 0 h]) 1 0 0,.iptr I (.vs [.int .i64 J,.int .i64 K,.imm L (.fl i) 1 1 0 (List.length i)]) 1 0 0,.iptr M (.vs [.imm N (.cols j [.cb O,.cns .u64 P,.ci .i64 Q]) 3 3 0 j]) 1 0 0]),(2,.ptr 0 1 0 0),(4,.ptr 1 1 0 0),(6,.sl 2 3 3 0 a a),(7,.int .i64 ((T:Nat):Int)),(8,.int .i64 ((k:Nat):Int)),(13,.int .i64 b),(14,.int .i64 ((k:Nat):Int)),(18,.int .i64 c),(19,.int .i64 ((S:Nat):Int))],[(0,.vs [.int .i64 b,.int .i64 c]),(1,.vs [.bool false R,.nsl,.int .i64 (0:Int)]),(2,.cols a [.cb U,.cns .u64 V,.ci .i64 W])],3⟩
def eV(E:Int)(a:Nat)(f:List Bool)(g:List (List Int))(h:List Int)(i:Int)(A:List Nat)(b:Nat)(j:List Bool)(k:List (List Int))(l:List Int)(m:Int)(B:List Nat)(c:Nat)(n:List Bool)(o:List (List Int))(p:List Int)(q:Int)(C:List Nat)(d:Nat)(r:List Bool)(s:List (List Int))(t:List Int)(u:Nat)(v:Nat)(D:Nat)(F:Nat)(e:Nat)(w:Nat)(x:List Bool)(y:List (List Int))(z:List Int) :T ((Nat×Nat×(List Bool)×(List (List Int))×(List Int))⊕((Nat×Nat×Nat×Nat×(List Bool)×(List (List Int))×(List Int))⊕((Nat×Nat×Nat×Nat×(List Bool)×(List (List Int))×(List Int))⊕((Nat×Nat×Nat×Nat×(List Bool)×(List (List Int))×(List Int))⊕(aH))))) :=
  .ask (decide (((e:Nat):Int)<E))
    (.need (Nat.ble (0+a) a)<|.need (aG 0 (List.length A) A)<|.need (Nat.ble (0+b) b)<|.need (aG 0 (List.length B) B)<|.need (Nat.ble (0+c) c)<|.need (aG 0 (List.length C) C)<|.need (Nat.ble (0+d) d)<|.need (mB (cR ((u:Nat):Int) ((e:Nat):Int) a (ab 0 a f) (ab 0 a g) (ab 0 a h) i b (ab 0 b j) (ab 0 b k) (ab 0 b l) m c (ab 0 c n) (ab 0 c o) (ab 0 c p) q d (ab 0 d r) (ab 0 d s) (ab 0 d t)))<|.ask ((((jd (cR ((u:Nat):Int) ((e:Nat):Int) a (ab 0 a f) (ab 0 a g) (ab 0 a h) i b (ab 0 b j) (ab 0 b k) (ab 0 b l) m c (ab 0 c n) (ab 0 c o) (ab 0 c p) q d (ab 0 d r) (ab 0 d s) (ab 0 d t))):Nat):Int) != (0:Int))
      (.leaf (.inr (.inr (.inr (.inl (v,D,(jd (cR ((u:Nat):Int) ((e:Nat):Int) a (ab 0 a f) (ab 0 a g) (ab 0 a h) i b (ab 0 b j) (ab 0 b k) (ab 0 b l) m c (ab 0 c n) (ab 0 c o) (ab 0 c p) q d (ab 0 d r) (ab 0 d s) (ab 0 d t))),w,x,y,z))))))
      (.need (qt ((v+1)*40) 140737488355328)<|.need (qt (v+1) 9223372036854775807)<|.need (qt 3 3)<|.need (qt v w)<|.need (decide ((kX (cR ((u:Nat):Int) ((e:Nat):Int) a (ab 0 a f) (ab 0 a g) (ab 0 a h) i b (ab 0 b j) (ab 0 b k) (ab 0 b l) m c (ab 0 c n) (ab 0 c o) (ab 0 c p) q d (ab 0 d r) (ab 0 d s) (ab 0 d t)))+(kY (cR ((u:Nat):Int) ((e:Nat):Int) a (ab 0 a f) (ab 0 a g) (ab 0 a h) i b (ab 0 b j) (ab 0 b k) (ab 0 b l) m c (ab 0 c n) (ab 0 c o) (ab 0 c p) q d (ab 0 d r) (ab 0 d s) (ab 0 d t)))≤List.length (kW (cR ((u:Nat):Int) ((e:Nat):Int) a (ab 0 a f) (ab 0 a g) (ab 0 a h) i b (ab 0 b j) (ab 0 b k) (ab 0 b l) m c (ab 0 c n) (ab 0 c o) (ab 0 c p) q d (ab 0 d r) (ab 0 d s) (ab 0 d t)))))<|.leaf (.inl ((v+1),(jd (cR ((u:Nat):Int) ((e:Nat):Int) a (ab 0 a f) (ab 0 a g) (ab 0 a h) i b (ab 0 b j) (ab 0 b k) (ab 0 b l) m c (ab 0 c n) (ab 0 c o) (ab 0 c p) q d (ab 0 d r) (ab 0 d s) (ab 0 d t))),((List.take v x)++[(nR (cR ((u:Nat):Int) ((e:Nat):Int) a (ab 0 a f) (ab 0 a g) (ab 0 a h) i b (ab 0 b j) (ab 0 b k) (ab 0 b l) m c (ab 0 c n) (ab 0 c o) (ab 0 c p) q d (ab 0 d r) (ab 0 d s) (ab 0 d t)))]),((List.take v y)++[(List.take (kY (cR ((u:Nat):Int) ((e:Nat):Int) a (ab 0 a f) (ab 0 a g) (ab 0 a h) i b (ab 0 b j) (ab 0 b k) (ab 0 b l) m c (ab 0 c n) (ab 0 c o) (ab 0 c p) q d (ab 0 d r) (ab 0 d s) (ab 0 d t))) (List.drop (kX (cR ((u:Nat):Int) ((e:Nat):Int) a (ab 0 a f) (ab 0 a g) (ab 0 a h) i b (ab 0 b j) (ab 0 b k) (ab 0 b l) m c (ab 0 c n) (ab 0 c o) (ab 0 c p) q d (ab 0 d r) (ab 0 d s) (ab 0 d t))) (kW (cR ((u:Nat):Int) ((e:Nat):Int) a (ab 0 a f) (ab 0 a g) (ab 0 a h) i b (ab 0 b j) (ab 0 b k) (ab 0 b l) m c (ab 0 c n) (ab 0 c o) (ab 0 c p) q d (ab 0 d r) (ab 0 d s) (ab 0 d t)))))]),((List.take v z)++[(nT (cR ((u:Nat):Int) ((e:Nat):Int) a (ab 0 a f) (ab 0 a g) (ab 0 a h) i b (ab 0 b j) (ab 0 b k) (ab 0 b l) m c (ab 0 c n) (ab 0 c o) (ab 0 c p) q d (ab 0 d r) (ab 0 d s) (ab 0 d t)))])))))
    (.leaf (.inr (.inl (v,D,F,w,x,y,z))))
def sX(b:Nat)(a:Nat)(c:Nat)(d:List Bool)(e:List (List Int))(f:List Int) :T ((Nat×Nat×Nat×Nat×Nat×(List Bool)×(List (List Int))×(List Int))⊕((Nat×Nat×Nat×Nat×(List Bool)×(List (List Int))×(List Int))⊕((Nat×Nat×Nat×Nat×(List Bool)×(List (List Int))×(List Int))⊕((Nat×Nat×Nat×Nat×(List Bool)×(List (List Int))×(List Int))⊕(aH))))) :=
  .need (di .i64 (((b+1):Nat):Int))<|.leaf (.inl (a,a,c,(b+1),a,d,e,f))
def iu(b:Int)(c:Nat)(d:List Bool)(e:List (List Int))(f:List Int)(g:Int)(h:List Nat)(i:Nat)(j:List Bool)(k:List (List Int))(l:List Int)(m:Int)(n:List Nat)(o:Nat)(p:List Bool)(q:List (List Int))(r:List Int)(s:Int)(t:List Nat)(u:Nat)(v:List Bool)(w:List (List Int))(x:List Int)(y:Nat) :Nat×Nat×Nat×Nat×Nat×(List Bool)×(List (List Int))×(List Int)→Option ((Nat×Nat×Nat×Nat×Nat×(List Bool)×(List (List Int))×(List Int))⊕((Nat×Nat×Nat×Nat×(List Bool)×(List (List Int))×(List Int))⊕((Nat×Nat×Nat×Nat×(List Bool)×(List (List Int))×(List Int))⊕((Nat×Nat×Nat×Nat×(List Bool)×(List (List Int))×(List Int))⊕(aH))))):=fun (z,A,B,a,C,D,E,F) =>
  aC ((eV b c d e f g h i j k l m n o p q r s t u v w x y z A B a C D E F).run) fun (G,H,I,J,K) =>
  (sX a G H I J K).run
theorem sY(z:Int)(a:Int)(A:Lv)(B:Lv)(b:Nat)(c:List Bool)(d:List (List Int))(e:List Int)(C:Lv)(D:Int)(f:Int)(E:Lv)(g:List Nat)(F:Lv)(G:Lv)(h:Nat)(i:List Bool)(j:List (List Int))(k:List Int)(H:Lv)(I:Int)(l:Int)(J:Lv)(m:List Nat)(K:Lv)(L:Lv)(n:Nat)(o:List Bool)(p:List (List Int))(q:List Int)(M:Lv)(N:Int)(r:Int)(O:Lv)(s:List Nat)(P:Lv)(Q:Lv)(t:Nat)(u:List Bool)(v:List (List Int))(w:List Int)(x:Bool)(y:Nat)(S:Nat)(T:Nat)(U:Nat)(R:Nat)(V:Nat)(W:List Bool)(X:List (List Int))(Y:List Int) :Sg prog [] sV (ir z a A B b c d e C D f E g F G h i j k H I l J m K L n o p q M N r O s P Q t u v w x y (S,T,U,R,V,W,X,Y)) (iu a b c d e f g h i j k l m n o p q r s t u v w y (S,T,U,R,V,W,X,Y)) (ir z a A B b c d e C D f E g F G h i j k H I l J m K L n o p q M N r O s P Q t u v w x y) (cy 2 (mc z a A B b c d e C D f E g F G h i j k H I l J m K L n o p q M N r O s P Q t u v w x y) (cy 1 (mb z a A B b c d e C D f E g F G h i j k H I l J m K L n o p q M N r O s P Q t u v w x y) (cy 0 (ip x) dR))):=by
  unfold iu;exact Sg.cut 3 (az (az (az bn))) (bj dk (sW z a A B b c d e C D f E g F G h i j k H I l J m K L n o p q M N r O s P Q t u v w x y R) [⟨[],[1,2],[4,6,7]⟩,⟨[],[0,1,323],[1,2,4,6,7,8,13,14,18,19]⟩,⟨[],[0,1,2],[1,2,4,6,7,13,14]⟩]) (fun ⟨Z,a0,a1,a2,a3⟩=>bj dk _ [⟨[],[0,1,2],[1,2,4,6,7,8,13,14,18,19]⟩])
def sZ(a:Nat)(b:Nat)(c:Nat)(d:Nat)(e:List Bool)(f:List (List Int))(g:List Int) :T ((Nat×Nat×Nat×Nat×(List Bool)×(List (List Int))×(List Int))⊕((Nat×Nat×Nat×Nat×(List Bool)×(List (List Int))×(List Int))⊕((Nat×Nat×Nat×Nat×(List Bool)×(List (List Int))×(List Int))⊕(aH)))) :=
  .leaf (.inl (a,b,c,d,e,f,g))
def s4(a:Nat)(b:Nat)(c:Nat)(d:Nat)(e:Nat)(f:List Bool)(g:List (List Int))(h:List Int) :T ((Nat×Nat×Nat×Nat×Nat×(List Bool)×(List (List Int))×(List Int))⊕((Nat×Nat×Nat×Nat×(List Bool)×(List (List Int))×(List Int))⊕(aH))) :=
  .need (di .i64 (((a+1):Nat):Int))<|.leaf (.inl (b,c,d,(a+1),e,f,g,h))
def iv(i:Int)(j:Int)(k:Nat)(l:List Bool)(m:List (List Int))(n:List Int)(o:Int)(p:List Nat)(q:Nat)(r:List Bool)(s:List (List Int))(t:List Int)(u:Int)(v:List Nat)(w:Nat)(x:List Bool)(y:List (List Int))(z:List Int)(A:Int)(B:List Nat)(C:Nat)(D:List Bool)(E:List (List Int))(F:List Int) :Nat×Nat×Nat×Nat×Nat×(List Bool)×(List (List Int))×(List Int)→Option ((Nat×Nat×Nat×Nat×Nat×(List Bool)×(List (List Int))×(List Int))⊕((Nat×Nat×Nat×Nat×(List Bool)×(List (List Int))×(List Int))⊕(aH))):=fun (b,c,d,a,e,f,g,h) =>
  aC ((iq i b c d a e f g h).run) fun _ =>
  aC (Di (aC ((sU).run) fun _ =>
  aC (dh (iu j k l m n o p q r s t u v w x y z A B C D E F a) (b,c,d,0,e,f,g,h)) fun (G,H,I,J,K,L,M) =>
  (sZ G H I J K L M).run)) fun (N,O,P,Q,R,S,T) =>
  (s4 a N O P Q R S T).run
theorem s5(a:Int)(b:Int)(z:Lv)(A:Lv)(c:Nat)(d:List Bool)(e:List (List Int))(f:List Int)(B:Lv)(C:Int)(g:Int)(D:Lv)(h:List Nat)(E:Lv)(F:Lv)(i:Nat)(j:List Bool)(k:List (List Int))(l:List Int)(G:Lv)(H:Int)(m:Int)(I:Lv)(n:List Nat)(J:Lv)(K:Lv)(o:Nat)(p:List Bool)(q:List (List Int))(r:List Int)(L:Lv)(M:Int)(s:Int)(N:Lv)(t:List Nat)(O:Lv)(P:Lv)(u:Nat)(v:List Bool)(w:List (List Int))(x:List Int)(y:Bool)(R:Nat)(S:Nat)(T:Nat)(Q:Nat)(U:Nat)(V:List Bool)(W:List (List Int))(X:List Int) :Sg prog [] ma (io a b z A c d e f B C g D h E F i j k l G H m I n J K o p q r L M s N t O P u v w x y (R,S,T,Q,U,V,W,X)) (iv a b c d e f g h i j k l m n o p q r s t u v w x (R,S,T,Q,U,V,W,X)) (io a b z A c d e f B C g D h E F i j k l G H m I n J K o p q r L M s N t O P u v w x y) (cy 0 (ip y) dR):=by
  unfold iv;exact Sg.cut 2 (az bn) (bj dk (sR a b z A c d e f B C g D h E F i j k l G H m I n J K o p q r L M s N t O P u v w x y R S T Q U V W X) [⟨[],[0,1,2],[1,2,4,6,7,13,14]⟩,⟨[],[1,2],[4,6,7]⟩]) (fun _=>Sg.cut 1 (az bn) (sgb (mb a b z A c d e f B C g D h E F i j k l G H m I n J K o p q r L M s N t O P u v w x y Q) 1 (az bn) (cD (by decide) (iX _)) (Sg.cut 2 (az (az bn)) (bj dk (sT a b z A c d e f B C g D h E F i j k l G H m I n J K o p q r L M s N t O P u v w x y R S T Q U V W X) [⟨[],[0,1,2],[1,2,4,6,7,8,13,14,18,19]⟩]) (fun _=>Sg.cut 1 (az (az bn)) (AD ⟨[],[0,1,2],[1,2,4,6,7,8,13,14,18,19]⟩ (ir a b z A c d e f B C g D h E F i j k l G H m I n J K o p q r L M s N t O P u v w x y Q) (mc a b z A c d e f B C g D h E F i j k l G H m I n J K o p q r L M s N t O P u v w x y Q) 2 (az (az bn)) (cD (by decide) (cD (by decide) (iX _))) (fun ⟨Y,Z,a0,a1,a2,a3,a4,a5⟩=>sY a b z A c d e f B C g D h E F i j k l G H m I n J K o p q r L M s N t O P u v w x y Q Y Z a0 a1 a2 a3 a4 a5)) (fun ⟨a6,a7,a8,a9,b0,b2,b3⟩=>bj dk _ [⟨[],[0,1,2],[1,2,4,6,7,13,14]⟩])))) (fun ⟨b4,b5,b6,b7,b8,b9,c0⟩=>bj dk _ [⟨[],[0,1,2],[1,2,4,6,7,13,14]⟩]))
def s6:Nat×Bool×(List Int)×Nat×Nat×Int→aQ:=fun (a,b,c,d,e,f)=>⟨an 46 [(4,.ptr 0 1 0 0),(5,.int .i64 ((a:Nat):Int))],[(0,.vs [.bool false b,.imm .free (.ns .u64 c) 1 1 d e,.int .i64 f])],1⟩
def iw(a:Nat)(e:Nat)(f:Nat)(b:List Bool)(c:List (List Int))(d:List Int) :T ((Nat×Bool×(List Int)×Nat×Nat×Int)⊕(aH)) :=
  .ask (((e:Nat):Int) != (0:Int))
    (.leaf (.inr (.r0 e false ([]:List Int) 0 0 (0:Int))))
    (.need (Nat.ble (0+a) f)<|.need (nc (bZ a (ab 0 a b) (ab 0 a c) (ab 0 a d)))<|.leaf (.inl ((nJ (bZ a (ab 0 a b) (ab 0 a c) (ab 0 a d))),(nK (bZ a (ab 0 a b) (ab 0 a c) (ab 0 a d))),(nL (bZ a (ab 0 a b) (ab 0 a c) (ab 0 a d))),(nN (bZ a (ab 0 a b) (ab 0 a c) (ab 0 a d))),(nO (bZ a (ab 0 a b) (ab 0 a c) (ab 0 a d))),(nP (bZ a (ab 0 a b) (ab 0 a c) (ab 0 a d))))))
def s7(a:Nat)(b:Bool)(c:List Int)(d:Nat)(e:Nat)(f:Int) :T ((Empty)⊕(aH)) :=
  .leaf (.inr (.r0 a b c d e f))
def bJ(a:Int)(b:Int)(c:Nat)(d:List Bool)(e:List (List Int))(f:List Int)(g:Int)(h:List Nat)(i:Nat)(j:List Bool)(k:List (List Int))(l:List Int)(m:Int)(n:List Nat)(o:Nat)(p:List Bool)(q:List (List Int))(r:List Int)(s:Int)(t:List Nat)(u:Nat)(v:List Bool)(w:List (List Int))(x:List Int) :Option aH:=jM (aC ((sO).run) fun K =>
  aC ((sQ).run) fun _ =>
  aC (dh (iv a b c d e f g h i j k l m n o p q r s t u v w x) (0,0,0,0,0,([]:List Bool),([]:List (List Int)),([]:List Int))) fun (y,L,z,A,B,C,D) =>
  aC ((iw y z A B C D).run) fun (E,F,G,H,I,J) =>
  (s7 E F G H I J).run)
theorem uA(i:Int)(j:Int)(A:Lv)(B:Lv)(a:Nat)(k:List Bool)(l:List (List Int))(m:List Int)(C:Lv)(D:Int)(n:Int)(E:Lv)(b:List Nat)(F:Lv)(G:Lv)(c:Nat)(o:List Bool)(p:List (List Int))(q:List Int)(H:Lv)(I:Int)(r:Int)(J:Lv)(d:List Nat)(K:Lv)(L:Lv)(e:Nat)(s:List Bool)(t:List (List Int))(u:List Int)(M:Lv)(N:Int)(v:Int)(O:Lv)(f:List Nat)(P:Lv)(Q:Lv)(g:Nat)(w:List Bool)(y:List (List Int))(z:List Int){x:aH}(h:bJ i j a k l m n b c o p q r d e s t u v f g w y z=some x) :ay prog mu [] [.agg [.int .i64 i,.int .i64 j],.fn (.func dl) [] [.iptr A (.vs [.imm B (.cols a [.cb k,.cns .u64 l,.ci .i64 m]) 3 3 0 a]) 1 0 0,.iptr C (.vs [.int .i64 D,.int .i64 n,.imm E (.fl b) 1 1 0 (List.length b)]) 1 0 0,.iptr F (.vs [.imm G (.cols c [.cb o,.cns .u64 p,.ci .i64 q]) 3 3 0 c]) 1 0 0,.iptr H (.vs [.int .i64 I,.int .i64 r,.imm J (.fl d) 1 1 0 (List.length d)]) 1 0 0,.iptr K (.vs [.imm L (.cols e [.cb s,.cns .u64 t,.ci .i64 u]) 3 3 0 e]) 1 0 0,.iptr M (.vs [.int .i64 N,.int .i64 v,.imm O (.fl f) 1 1 0 (List.length f)]) 1 0 0,.iptr P (.vs [.imm Q (.cols g [.cb w,.cns .u64 y,.ci .i64 z]) 3 3 0 g]) 1 0 0]] (jg x) :=
  kf true jg dR h (Sg.cut 1 bn (bj dk (uy i j A B a k l m C D n E b F G c o p q H I r J d K L e s t u M N v O f P Q g w y z) [⟨[],[0,16],[1,2,4]⟩]) (fun R=>OD (by kernel_rfl:(im.drop 1)=[.scope (LR (((im.drop 1)).headD .skip))]) bn (Sg.cut 3 bn (bj dk (uz i j A B a k l m C D n E b F G c o p q H I r J d K L e s t u M N v O f P Q g w y z R) [⟨[],[0,1],[1,2,4,6,7,13,14]⟩]) (fun _=>Sg.cut 1 bn (AD ⟨[(.slot 6,.own 3 3 (.cols 0 [.cb ([]:List Bool),.cns .u64 ([]:List (List Int)),.ci .i64 ([]:List Int)]))],[0,1,2],[1,2,4,6,7,13,14]⟩ (io i j A B a k l m C D n E b F G c o p q H I r J d K L e s t u M N v O f P Q g w y z R) (ip R) 0 bn (iX _) (fun ⟨S,T,U,V,W,X,Y,Z⟩=>s5 i j A B a k l m C D n E b F G c o p q H I r J d K L e s t u M N v O f P Q g w y z R S T U V W X Y Z)) (fun ⟨a6,a7,a8,a9,b0,b2,b3⟩=>Sg.cut 3 bn (bj dk s6 [⟨[(.cell 0 1,.fre 1 1 (.ns .u64 ([]:List Int)))],[0],[4,5]⟩,⟨[],[0],[4,5]⟩]) (fun ⟨b4,b5,b6,b7,b8,b9⟩=>bj dk _ [⟨[],[0],[4,5]⟩]))))))
    (fun x=>by cases x with | r0 a0 a1 a2 a3 a4 a5=>exact jN [.agg [.bool false a1,.imm .free (.ns .u64 a2) 1 1 a3 a4,.int .i64 a5],.int .i64 ((a0:Nat):Int)])
def fb:Option aH→Bool
  | some _=>true
  | none=>false
def gO:Option aH→Nat
  | some (.r0 x _ _ _ _ _)=>x
  | _=>0
def gP:Option aH→Bool
  | some (.r0 _ x _ _ _ _)=>x
  | _=>false
def gQ:Option aH→List Int
  | some (.r0 _ _ x _ _ _)=>x
  | _=>[]
def gS:Option aH→Nat
  | some (.r0 _ _ _ x _ _)=>x
  | _=>0
def gT:Option aH→Nat
  | some (.r0 _ _ _ _ x _)=>x
  | _=>0
def gU:Option aH→Int
  | some (.r0 _ _ _ _ _ x)=>x
  | _=>0
theorem uB{x:Option aH}(h:fb x=true) :x=some (.r0 (gO x) (gP x) (gQ x) (gS x) (gT x) (gU x)):=by
  unfold fb at h
  split at h<;>first | rfl | (cases h;done) | (rename_i y;cases y;rfl)
def mQ:aM:=bK mu (.cons (.agg (.cons (.int .i64) (.cons (.int .i64) .nil))) (.cons (.fn dl .nil (.cons (.ivs (.cons (.cols [.cb,.cns .u64,.ci .i64]) .nil) 1 0 0) (.cons (.ivs (.cons (.int .i64) (.cons (.int .i64) (.cons .fl .nil))) 1 0 0) (.cons (.ivs (.cons (.cols [.cb,.cns .u64,.ci .i64]) .nil) 1 0 0) (.cons (.ivs (.cons (.int .i64) (.cons (.int .i64) (.cons .fl .nil))) 1 0 0) (.cons (.ivs (.cons (.cols [.cb,.cns .u64,.ci .i64]) .nil) 1 0 0) (.cons (.ivs (.cons (.int .i64) (.cons (.int .i64) (.cons .fl .nil))) 1 0 0) (.cons (.ivs (.cons (.cols [.cb,.cns .u64,.ci .i64]) .nil) 1 0 0) .nil)))))))) .nil)) fun t=>(fun q=>[⟨jg (.r0 (gO q) (gP q) (gQ q) (gS q) (gT q) (gU q)),[fb q]⟩]) (bJ t.1.1 t.1.2.1 t.2.1.2.1.2.1.2.1 t.2.1.2.1.2.1.2.2.1 t.2.1.2.1.2.1.2.2.2.1 t.2.1.2.1.2.1.2.2.2.2.1 t.2.1.2.2.1.2.2.1 t.2.1.2.2.1.2.2.2.1.2 t.2.1.2.2.2.1.2.1.2.1 t.2.1.2.2.2.1.2.1.2.2.1 t.2.1.2.2.2.1.2.1.2.2.2.1 t.2.1.2.2.2.1.2.1.2.2.2.2.1 t.2.1.2.2.2.2.1.2.2.1 t.2.1.2.2.2.2.1.2.2.2.1.2 t.2.1.2.2.2.2.2.1.2.1.2.1 t.2.1.2.2.2.2.2.1.2.1.2.2.1 t.2.1.2.2.2.2.2.1.2.1.2.2.2.1 t.2.1.2.2.2.2.2.1.2.1.2.2.2.2.1 t.2.1.2.2.2.2.2.2.1.2.2.1 t.2.1.2.2.2.2.2.2.1.2.2.2.1.2 t.2.1.2.2.2.2.2.2.2.1.2.1.2.1 t.2.1.2.2.2.2.2.2.2.1.2.1.2.2.1 t.2.1.2.2.2.2.2.2.2.1.2.1.2.2.2.1 t.2.1.2.2.2.2.2.2.2.1.2.1.2.2.2.2.1)
theorem rX:aY prog mQ:=aR fun t=>(aS (fun h=>uA t.1.1 t.1.2.1 t.2.1.2.1.1 t.2.1.2.1.2.1.1 t.2.1.2.1.2.1.2.1 t.2.1.2.1.2.1.2.2.1 t.2.1.2.1.2.1.2.2.2.1 t.2.1.2.1.2.1.2.2.2.2.1 t.2.1.2.2.1.1 t.2.1.2.2.1.2.1 t.2.1.2.2.1.2.2.1 t.2.1.2.2.1.2.2.2.1.1 t.2.1.2.2.1.2.2.2.1.2 t.2.1.2.2.2.1.1 t.2.1.2.2.2.1.2.1.1 t.2.1.2.2.2.1.2.1.2.1 t.2.1.2.2.2.1.2.1.2.2.1 t.2.1.2.2.2.1.2.1.2.2.2.1 t.2.1.2.2.2.1.2.1.2.2.2.2.1 t.2.1.2.2.2.2.1.1 t.2.1.2.2.2.2.1.2.1 t.2.1.2.2.2.2.1.2.2.1 t.2.1.2.2.2.2.1.2.2.2.1.1 t.2.1.2.2.2.2.1.2.2.2.1.2 t.2.1.2.2.2.2.2.1.1 t.2.1.2.2.2.2.2.1.2.1.1 t.2.1.2.2.2.2.2.1.2.1.2.1 t.2.1.2.2.2.2.2.1.2.1.2.2.1 t.2.1.2.2.2.2.2.1.2.1.2.2.2.1 t.2.1.2.2.2.2.2.1.2.1.2.2.2.2.1 t.2.1.2.2.2.2.2.2.1.1 t.2.1.2.2.2.2.2.2.1.2.1 t.2.1.2.2.2.2.2.2.1.2.2.1 t.2.1.2.2.2.2.2.2.1.2.2.2.1.1 t.2.1.2.2.2.2.2.2.1.2.2.2.1.2 t.2.1.2.2.2.2.2.2.2.1.1 t.2.1.2.2.2.2.2.2.2.1.2.1.1 t.2.1.2.2.2.2.2.2.2.1.2.1.2.1 t.2.1.2.2.2.2.2.2.2.1.2.1.2.2.1 t.2.1.2.2.2.2.2.2.2.1.2.1.2.2.2.1 t.2.1.2.2.2.2.2.2.2.1.2.1.2.2.2.2.1 (uB h)) bc)
def mR:List aM:=mQ::DK
theorem du:be prog (bh mR):=ax rX dk
inductive dd where
  | r0 (a:Nat) (b:Bool) (c:List Int) (d:Nat) (e:Nat) (f:Int)
def I2:dd→AE×aQ
  | .r0 a b c d e f=>(.ret,⟨an 78 [(8,.ptr 0 1 0 0),(9,.int .i64 ((a:Nat):Int))],[(0,.vs [.bool false b,.imm .free (.ns .u64 c) 1 1 d e,.int .i64 f])],1⟩)
theorem xH:jJ I2:=by intro x;cases x<;>(intro h;cases h)
def zN:dd→gM
  | .r0 a b c d e f=>⟨.tup [.agg [.bool false b,.imm .free (.ns .u64 c) 1 1 d e,.int .i64 f],.int .i64 ((a:Nat):Int)],[]⟩
def TU(e:Int)(f:Int)(g:Lv)(a:List Nat)(h:Int)(i:Int)(j:Lv)(b:List Nat)(k:Int)(l:Int)(m:Lv)(c:List Nat)(n:Lv)(d:List Nat)(o:Bool) :aQ:=⟨an 78 [(3,.imm n (.fl d) 1 1 0 (List.length d)),(4,.ptr 0 1 0 0),(5,.ptr 1 1 0 0),(6,.ptr 2 1 0 0),(8,.ptr 3 1 0 0)],[(0,.vs [.int .i64 e,.int .i64 f,.imm g (.fl a) 1 1 0 (List.length a)]),(1,.vs [.int .i64 h,.int .i64 i,.imm j (.fl b) 1 1 0 (List.length b)]),(2,.vs [.int .i64 k,.int .i64 l,.imm m (.fl c) 1 1 0 (List.length c)]),(3,.vs [.bool false o,.nsl,.int .i64 (0:Int)])],4⟩
def Gb(f : Int)(g : Int)(a : List Nat)(h : Int)(e : Int)(b : List Nat)(i : Int)(j : Int)(c : List Nat)(d : List Nat) : T ((Bool) ⊕ (dd)) :=
  .ask (decide ((0 : Int) < (3 : Int)))
    (.need (fv (0 : Int) 3) <| .need (aG 0 (List.length a) a) <| .need (eU (cu f g (ab 0 (List.length a) a))) <| .ask (dT (cu f g (ab 0 (List.length a) a)))
      (.ask (!(!(decide ((0:Int)≥(0:Int)))))
        (.leaf (.inr (.r0 2 false ([]:List Int) 0 0 (0:Int))))
        (.fail))
      (.need (di .i64 (1 : Int)) <| .ask (decide ((1 : Int) < (3 : Int)))
        (.need (fv (1 : Int) 3) <| .need (aG 0 (List.length b) b) <| .need (eU (cu h e (ab 0 (List.length b) b))) <| .ask (dT (cu h e (ab 0 (List.length b) b)))
          (.ask (!(!(decide ((1:Int)≥(0:Int)))))
            (.leaf (.inr (.r0 2 false ([]:List Int) 0 0 (0:Int))))
            (.fail))
          (.need (di .i64 (2 : Int)) <| .ask (decide ((2 : Int) < (3 : Int)))
            (.need (fv (2 : Int) 3) <| .need (aG 0 (List.length c) c) <| .need (eU (cu i j (ab 0 (List.length c) c))) <| .ask (dT (cu i j (ab 0 (List.length c) c)))
              (.ask (!(!(decide ((2:Int)≥(0:Int)))))
                (.leaf (.inr (.r0 2 false ([]:List Int) 0 0 (0:Int))))
                (.fail))
              (.need (di .i64 (3:Int))<|.ask (decide ((3:Int)<(3:Int)))
                (.fail)
                (.ask (!(!(decide ((-1:Int)≥(0:Int)))))
                  (.fail)
                  (.ask (!(h == g && e == e))
                    (.leaf (.inr (.r0 8 false ([]:List Int) 0 0 (0:Int))))
                    (.ask (!(i == f && j == e))
                      (.leaf (.inr (.r0 8 false ([]:List Int) 0 0 (0:Int))))
                      (.ask ((((List.length d):Nat):Int) != e)
                        (.leaf (.inr (.r0 8 false ([]:List Int) 0 0 (0:Int))))
                        (.ask (decide ((0:Int)<(4:Int)))
                          (.need (fv (0 : Int) 4) <| .need (aG 0 (List.length a) a) <| .need (aV (au (ab 0 (List.length a) a))) <| .ask (decide ((aW (au (ab 0 (List.length a) a))) ≥ (0 : Int)))
                            (.leaf (.inr (.r0 10 false ([]:List Int) 0 0 (0:Int))))
                            (.need (di .i64 (1:Int))<|.ask (decide ((1:Int)<(4:Int)))
                              (.need (fv (1:Int) 4)<|.need (aG 0 (List.length b) b)<|.need (aV (au (ab 0 (List.length b) b)))<|.ask (decide ((aW (au (ab 0 (List.length b) b)))≥(0:Int)))
                                (.leaf (.inr (.r0 10 false ([]:List Int) 0 0 (0:Int))))
                                (.need (di .i64 (2:Int))<|.ask (decide ((2:Int)<(4:Int)))
                                  (.need (fv (2:Int) 4)<|.need (aG 0 (List.length c) c)<|.need (aV (au (ab 0 (List.length c) c)))<|.ask (decide ((aW (au (ab 0 (List.length c) c)))≥(0:Int)))
                                    (.leaf (.inr (.r0 10 false ([]:List Int) 0 0 (0:Int))))
                                    (.need (di .i64 (3:Int))<|.ask (decide ((3:Int)<(4:Int)))
                                      (.need (fv (3:Int) 4)<|.need (aG 0 (List.length d) d)<|.need (aV (au (ab 0 (List.length d) d)))<|.ask (decide ((aW (au (ab 0 (List.length d) d)))≥(0:Int)))
                                        (.leaf (.inr (.r0 10 false ([]:List Int) 0 0 (0:Int))))
                                        (.need (di .i64 (4:Int))<|.ask (decide ((4:Int)<(4:Int)))
                                          (.fail)
                                          (.leaf (.inl false))))
                                      (.fail)))
                                  (.fail)))
                              (.fail)))
                          (.fail))))))))
            (.fail)))
        (.fail)))
    (.fail)
def TV(h:Int)(i:Int)(j:Lv)(a:List Nat)(k:Int)(l:Int)(m:Lv)(b:List Nat)(n:Int)(o:Int)(p:Lv)(c:List Nat)(q:Bool) :Nat×(List Bool)×(List (List Int))×(List Int)×Nat×(List Bool)×(List (List Int))×(List Int)×Nat×(List Bool)×(List (List Int))×(List Int)×Nat×(List Bool)×(List (List Int))×(List Int)→aQ:=fun (d,r,s,t,e,u,v,w,f,x,y,z,g,A,B,C)=>⟨an 78 [(4,.ptr 0 1 0 0),(5,.ptr 1 1 0 0),(6,.ptr 2 1 0 0),(8,.ptr 3 1 0 0),(10,.ptr 4 1 0 0),(11,.ptr 5 1 0 0),(12,.ptr 6 1 0 0),(13,.ptr 7 1 0 0)],[(0,.vs [.int .i64 h,.int .i64 i,.imm j (.fl a) 1 1 0 (List.length a)]),(1,.vs [.int .i64 k,.int .i64 l,.imm m (.fl b) 1 1 0 (List.length b)]),(2,.vs [.int .i64 n,.int .i64 o,.imm p (.fl c) 1 1 0 (List.length c)]),(3,.vs [.bool false q,.nsl,.int .i64 (0:Int)]),(4,.vs [.imm .free (.cols d [.cb r,.cns .u64 s,.ci .i64 t]) 3 3 0 d]),(5,.vs [.imm .free (.cols e [.cb u,.cns .u64 v,.ci .i64 w]) 3 3 0 e]),(6,.vs [.imm .free (.cols f [.cb x,.cns .u64 y,.ci .i64 z]) 3 3 0 f]),(7,.vs [.imm .free (.cols g [.cb A,.cns .u64 B,.ci .i64 C]) 3 3 0 g])],8⟩
def xI(a:List Nat)(b:List Nat)(c:List Nat)(d:List Nat) :T ((Nat×(List Bool)×(List (List Int))×(List Int)×Nat×(List Bool)×(List (List Int))×(List Int)×Nat×(List Bool)×(List (List Int))×(List Int)×Nat×(List Bool)×(List (List Int))×(List Int))⊕(dd)) :=
  .need (aG 0 (List.length a) a)<|.need (jj (aE (ab 0 (List.length a) a)))<|.need (aG 0 (List.length b) b)<|.need (jj (aE (ab 0 (List.length b) b)))<|.need (aG 0 (List.length c) c)<|.need (jj (aE (ab 0 (List.length c) c)))<|.need (aG 0 (List.length d) d)<|.need (jj (aE (ab 0 (List.length d) d)))<|.leaf (.inl ((bg (aE (ab 0 (List.length a) a))),(dq (aE (ab 0 (List.length a) a))),(dr (aE (ab 0 (List.length a) a))),(dt (aE (ab 0 (List.length a) a))),(bg (aE (ab 0 (List.length b) b))),(dq (aE (ab 0 (List.length b) b))),(dr (aE (ab 0 (List.length b) b))),(dt (aE (ab 0 (List.length b) b))),(bg (aE (ab 0 (List.length c) c))),(dq (aE (ab 0 (List.length c) c))),(dr (aE (ab 0 (List.length c) c))),(dt (aE (ab 0 (List.length c) c))),(bg (aE (ab 0 (List.length d) d))),(dq (aE (ab 0 (List.length d) d))),(dr (aE (ab 0 (List.length d) d))),(dt (aE (ab 0 (List.length d) d)))))
def TW:Nat×Bool×(List Int)×Nat×Nat×Int→aQ:=fun (a,b,c,d,e,f)=>⟨an 78 [(8,.ptr 0 1 0 0),(9,.int .i64 ((a:Nat):Int))],[(0,.vs [.bool false b,.imm .free (.ns .u64 c) 1 1 d e,.int .i64 f])],1⟩
def xJ(i:Int)(e:List Nat)(j:Int)(f:List Nat)(k:Int)(h:Int)(g:List Nat)(a:Nat)(l:List Bool)(m:List (List Int))(n:List Int)(b:Nat)(o:List Bool)(p:List (List Int))(q:List Int)(c:Nat)(r:List Bool)(s:List (List Int))(t:List Int)(d:Nat)(u:List Bool)(v:List (List Int))(w:List Int) :T ((Nat×Bool×(List Int)×Nat×Nat×Int)⊕(dd)) :=
  .need (Nat.ble (0+a) a)<|.need (aG 0 (List.length e) e)<|.need (Nat.ble (0+b) b)<|.need (aG 0 (List.length f) f)<|.need (Nat.ble (0+c) c)<|.need (aG 0 (List.length g) g)<|.need (Nat.ble (0+d) d)<|.need (fb (bJ k h a (ab 0 a l) (ab 0 a m) (ab 0 a n) i (ab 0 (List.length e) e) b (ab 0 b o) (ab 0 b p) (ab 0 b q) j (ab 0 (List.length f) f) c (ab 0 c r) (ab 0 c s) (ab 0 c t) h (ab 0 (List.length g) g) d (ab 0 d u) (ab 0 d v) (ab 0 d w)))<|.leaf (.inl ((gO (bJ k h a (ab 0 a l) (ab 0 a m) (ab 0 a n) i (ab 0 (List.length e) e) b (ab 0 b o) (ab 0 b p) (ab 0 b q) j (ab 0 (List.length f) f) c (ab 0 c r) (ab 0 c s) (ab 0 c t) h (ab 0 (List.length g) g) d (ab 0 d u) (ab 0 d v) (ab 0 d w))),(gP (bJ k h a (ab 0 a l) (ab 0 a m) (ab 0 a n) i (ab 0 (List.length e) e) b (ab 0 b o) (ab 0 b p) (ab 0 b q) j (ab 0 (List.length f) f) c (ab 0 c r) (ab 0 c s) (ab 0 c t) h (ab 0 (List.length g) g) d (ab 0 d u) (ab 0 d v) (ab 0 d w))),(gQ (bJ k h a (ab 0 a l) (ab 0 a m) (ab 0 a n) i (ab 0 (List.length e) e) b (ab 0 b o) (ab 0 b p) (ab 0 b q) j (ab 0 (List.length f) f) c (ab 0 c r) (ab 0 c s) (ab 0 c t) h (ab 0 (List.length g) g) d (ab 0 d u) (ab 0 d v) (ab 0 d w))),(gS (bJ k h a (ab 0 a l) (ab 0 a m) (ab 0 a n) i (ab 0 (List.length e) e) b (ab 0 b o) (ab 0 b p) (ab 0 b q) j (ab 0 (List.length f) f) c (ab 0 c r) (ab 0 c s) (ab 0 c t) h (ab 0 (List.length g) g) d (ab 0 d u) (ab 0 d v) (ab 0 d w))),(gT (bJ k h a (ab 0 a l) (ab 0 a m) (ab 0 a n) i (ab 0 (List.length e) e) b (ab 0 b o) (ab 0 b p) (ab 0 b q) j (ab 0 (List.length f) f) c (ab 0 c r) (ab 0 c s) (ab 0 c t) h (ab 0 (List.length g) g) d (ab 0 d u) (ab 0 d v) (ab 0 d w))),(gU (bJ k h a (ab 0 a l) (ab 0 a m) (ab 0 a n) i (ab 0 (List.length e) e) b (ab 0 b o) (ab 0 b p) (ab 0 b q) j (ab 0 (List.length f) f) c (ab 0 c r) (ab 0 c s) (ab 0 c t) h (ab 0 (List.length g) g) d (ab 0 d u) (ab 0 d v) (ab 0 d w)))))
def TX(a:Nat)(b:Bool)(c:List Int)(d:Nat)(e:Nat)(f:Int) :T ((Empty)⊕(dd)) :=
  .leaf (.inr (.r0 a b c d e f))
def bN(i:Int)(d:Int)(a:List Nat)(j:Int)(e:Int)(b:List Nat)(f:Int)(g:Int)(c:List Nat)(h:List Nat) :Option dd:=jM (aC ((Gb i d a j e b f g c h).run) fun G =>
  aC ((xI a b c h).run) fun (k,l,m,n,o,p,q,r,s,t,u,v,w,x,y,z) =>
  aC ((xJ d a e b f g c k l m n o p q r s t u v w x y z).run) fun (A,B,C,D,E,F) =>
  (TX A B C D E F).run)
theorem TY(d:Int)(e:Int)(l:Lv)(a:List Nat)(f:Int)(g:Int)(m:Lv)(b:List Nat)(i:Int)(j:Int)(n:Lv)(c:List Nat)(o:Lv)(k:List Nat){x:dd}(h:bN d e a f g b i j c k=some x) :ay prog zr [] [.agg [.int .i64 d,.int .i64 e,.imm l (.fl a) 1 1 0 (List.length a)],.agg [.int .i64 f,.int .i64 g,.imm m (.fl b) 1 1 0 (List.length b)],.agg [.int .i64 i,.int .i64 j,.imm n (.fl c) 1 1 0 (List.length c)],.imm o (.fl k) 1 1 0 (List.length k)] (zN x) :=
  kf true zN I2 h (Sg.cut 2 xH (bj du (TU d e l a f g m b i j n c o k) [⟨[(.cell 48 1,.fre 1 1 (.ns .u64 ([]:List Int)))],[48],[8,9]⟩,⟨[(.cell 48 1,.fre 1 1 (.ns .u64 ([]:List Int)))],[48],[8,9]⟩,⟨[(.cell 48 1,.fre 1 1 (.ns .u64 ([]:List Int)))],[48],[8,9]⟩,⟨[(.cell 48 1,.fre 1 1 (.ns .u64 ([]:List Int)))],[48],[8,9]⟩,⟨[(.cell 48 1,.fre 1 1 (.ns .u64 ([]:List Int)))],[48],[8,9]⟩,⟨[(.cell 48 1,.fre 1 1 (.ns .u64 ([]:List Int)))],[48],[8,9]⟩,⟨[(.cell 48 1,.fre 1 1 (.ns .u64 ([]:List Int)))],[48],[8,9]⟩,⟨[(.cell 48 1,.fre 1 1 (.ns .u64 ([]:List Int)))],[48],[8,9]⟩,⟨[(.cell 48 1,.fre 1 1 (.ns .u64 ([]:List Int)))],[48],[8,9]⟩,⟨[(.cell 48 1,.fre 1 1 (.ns .u64 ([]:List Int)))],[48],[8,9]⟩,⟨[],[0,16,32,48],[3,4,5,6,8]⟩]) (fun p=>Sg.cut 1 xH (bj du (TV d e l a f g m b i j n c p) [⟨[],[0,1,2,3,180,196,212,228],[4,5,6,8,10,11,12,13]⟩]) (fun ⟨w,y,z,A,B,C,D,E,F,G,H,I,J,K,L,M⟩=>Sg.cut 1 xH (bj du TW [⟨[],[3],[8,9]⟩]) (fun ⟨N,O,P,Q,R,S⟩=>bj du _ [⟨[],[0],[8,9]⟩]))))
    (fun x=>by cases x with | r0 q r s t u v=>exact jN [.agg [.bool false r,.imm .free (.ns .u64 s) 1 1 t u,.int .i64 v],.int .i64 ((q:Nat):Int)])
def ml:Option dd→Bool
  | some _=>true
  | none=>false
def mC:Option dd→Nat
  | some (.r0 x _ _ _ _ _)=>x
  | _=>0
def mD:Option dd→Bool
  | some (.r0 _ x _ _ _ _)=>x
  | _=>false
def mE:Option dd→List Int
  | some (.r0 _ _ x _ _ _)=>x
  | _=>[]
def mF:Option dd→Nat
  | some (.r0 _ _ _ x _ _)=>x
  | _=>0
def mG:Option dd→Nat
  | some (.r0 _ _ _ _ x _)=>x
  | _=>0
def mH:Option dd→Int
  | some (.r0 _ _ _ _ _ x)=>x
  | _=>0
theorem TZ{x:Option dd}(h:ml x=true) :x=some (.r0 (mC x) (mD x) (mE x) (mF x) (mG x) (mH x)):=by
  unfold ml at h
  split at h<;>first | rfl | (cases h;done) | (rename_i y;cases y;rfl)
def I3:aM:=bK zr (.cons (.agg (.cons (.int .i64) (.cons (.int .i64) (.cons .fl .nil)))) (.cons (.agg (.cons (.int .i64) (.cons (.int .i64) (.cons .fl .nil)))) (.cons (.agg (.cons (.int .i64) (.cons (.int .i64) (.cons .fl .nil)))) (.cons .fl .nil)))) fun t=>(fun q=>[⟨zN (.r0 (mC q) (mD q) (mE q) (mF q) (mG q) (mH q)),[ml q]⟩]) (bN t.1.1 t.1.2.1 t.1.2.2.1.2 t.2.1.1 t.2.1.2.1 t.2.1.2.2.1.2 t.2.2.1.1 t.2.2.1.2.1 t.2.2.1.2.2.1.2 t.2.2.2.1.2)
theorem Pn:aY prog I3:=aR fun t=>(aS (fun h=>TY t.1.1 t.1.2.1 t.1.2.2.1.1 t.1.2.2.1.2 t.2.1.1 t.2.1.2.1 t.2.1.2.2.1.1 t.2.1.2.2.1.2 t.2.2.1.1 t.2.2.1.2.1 t.2.2.1.2.2.1.1 t.2.2.1.2.2.1.2 t.2.2.2.1.1 t.2.2.2.1.2 (TZ h)) bc)
def I4:List aM:=I3::mR
theorem pj:be prog (bh I4):=ax Pn du
inductive jC where
  | r0 (a:Bool) (b:Int)
def R8:jC→AE×aQ
  | .r0 a b=>(.ret,⟨an 24 [(5,.bool false a),(6,.int .i64 b)],[],0⟩)
theorem Nq:jJ R8:=by intro x;cases x<;>(intro h;cases h)
def Im:jC→gM
  | .r0 a b=>⟨.tup [.bool false a,.int .i64 b],[]⟩
def afq(c:Lv)(d:Bool)(e:Lv)(a:List Int)(f:Int)(g:Lv)(h:Bool)(i:Lv)(b:List Int)(j:Int) :Nat×Bool×(List Int)×Nat×Nat×Int→aQ:=fun (k,l,m,n,o,p)=>⟨an 24 [(3,.iptr c (.vs [.bool false d,.imm e (.ns .u64 a) 1 1 0 (List.length a),.int .i64 f]) 1 0 0),(4,.iptr g (.vs [.bool false h,.imm i (.ns .u64 b) 1 1 0 (List.length b),.int .i64 j]) 1 0 0),(7,.ptr 0 1 0 0),(8,.int .i64 ((k:Nat):Int))],[(0,.vs [.bool false l,.imm .free (.ns .u64 m) 1 1 n o,.int .i64 p])],1⟩
def Nr(f:Int)(g:Int)(b:List Nat)(d:Int)(e:Int)(a:List Nat)(c:List Nat) :T ((Nat×Bool×(List Int)×Nat×Nat×Int)⊕(jC)) :=
  .need (aG 0 (List.length b) b)<|.need (aG 0 (List.length a) a)<|.need (aG 0 (List.length a) a)<|.need (aG 0 (List.length c) c)<|.need (ml (bN f g (ab 0 (List.length b) b) d e (ab 0 (List.length a) a) d e (ab 0 (List.length a) a) (ab 0 (List.length c) c)))<|.leaf (.inl ((mC (bN f g (ab 0 (List.length b) b) d e (ab 0 (List.length a) a) d e (ab 0 (List.length a) a) (ab 0 (List.length c) c))),(mD (bN f g (ab 0 (List.length b) b) d e (ab 0 (List.length a) a) d e (ab 0 (List.length a) a) (ab 0 (List.length c) c))),(mE (bN f g (ab 0 (List.length b) b) d e (ab 0 (List.length a) a) d e (ab 0 (List.length a) a) (ab 0 (List.length c) c))),(mF (bN f g (ab 0 (List.length b) b) d e (ab 0 (List.length a) a) d e (ab 0 (List.length a) a) (ab 0 (List.length c) c))),(mG (bN f g (ab 0 (List.length b) b) d e (ab 0 (List.length a) a) d e (ab 0 (List.length a) a) (ab 0 (List.length c) c))),(mH (bN f g (ab 0 (List.length b) b) d e (ab 0 (List.length a) a) d e (ab 0 (List.length a) a) (ab 0 (List.length c) c)))))
def afs:Bool×Int→aQ:=fun (a,b)=>⟨an 24 [(5,.bool false a),(6,.int .i64 b)],[],0⟩
def Fp(f:Bool)(a:List Int)(g:Int)(h:Bool)(b:List Int)(i:Int)(j:Nat)(k:Bool)(c:List Int)(d:Nat)(e:Nat)(l:Int) :T ((Bool×Int)⊕(jC)) :=
  .need (aG d e c)<|.need (aG 0 (List.length a) a)<|.need (aG 0 (List.length b) b)<|.need (kJ (cw k (ab d e c) l ((j:Nat):Int) f (ab 0 (List.length a) a) g h (ab 0 (List.length b) b) i))<|.leaf (.inl ((jS (cw k (ab d e c) l ((j:Nat):Int) f (ab 0 (List.length a) a) g h (ab 0 (List.length b) b) i)),(jT (cw k (ab d e c) l ((j:Nat):Int) f (ab 0 (List.length a) a) g h (ab 0 (List.length b) b) i))))
def aft(a:Bool)(b:Int) :T ((Empty)⊕(jC)) :=
  .leaf (.inr (.r0 a b))
def nU(a:Int)(b:Int)(c:List Nat)(d:Int)(e:Int)(f:List Nat)(g:List Nat)(h:Bool)(i:List Int)(j:Int)(k:Bool)(l:List Int)(m:Int) :Option jC:=jM (aC ((Nr a b c d e f g).run) fun (n,o,p,q,r,s) =>
  aC ((Fp h i j k l m n o p q r s).run) fun (t,u) =>
  (aft t u).run)
theorem afu(s:Lv)(k:Int)(l:Int)(t:Lv)(c:List Nat)(u:Lv)(m:Int)(n:Int)(v:Lv)(d:List Nat)(w:Lv)(y:Lv)(e:List Nat)(o:Lv)(f:Bool)(p:Lv)(a:List Int)(g:Int)(q:Lv)(i:Bool)(r:Lv)(b:List Int)(j:Int){x:jC}(h:nU k l c m n d e f a g i b j=some x) :ay prog Qq [] [.iptr s (.vs [.int .i64 k,.int .i64 l,.imm t (.fl c) 1 1 0 (List.length c)]) 1 0 0,.iptr u (.vs [.int .i64 m,.int .i64 n,.imm v (.fl d) 1 1 0 (List.length d)]) 1 0 0,.iptr w (.vs [.imm y (.fl e) 1 1 0 (List.length e)]) 1 0 0,.iptr o (.vs [.bool false f,.imm p (.ns .u64 a) 1 1 0 (List.length a),.int .i64 g]) 1 0 0,.iptr q (.vs [.bool false i,.imm r (.ns .u64 b) 1 1 0 (List.length b),.int .i64 j]) 1 0 0] (Im x) :=
  kf false Im R8 h (Sg.cut 2 Nq (bj pj (afq o f p a g q i r b j) [⟨[],[160],[3,4,7,8]⟩]) (fun ⟨B,C,D,E,F,G⟩=>Sg.cut 1 Nq (bj pj afs [⟨[],[],[5,6]⟩]) (fun ⟨H,I⟩=>bj pj _ [⟨[],[],[5,6]⟩])))
    (fun x=>by cases x with | r0 z A=>exact jN [.bool false z,.int .i64 A])
def s8:Option jC→Bool
  | some _=>true
  | none=>false
def tV:Option jC→Bool
  | some (.r0 x _)=>x
  | _=>false
def nh:Option jC→Int
  | some (.r0 _ x)=>x
  | _=>0
theorem afv{x:Option jC}(h:s8 x=true) :x=some (.r0 (tV x) (nh x)):=by
  unfold s8 at h
  split at h<;>first | rfl | (cases h;done) | (rename_i y;cases y;rfl)
def R9:aM:=bK Qq (.cons (.ivs (.cons (.int .i64) (.cons (.int .i64) (.cons .fl .nil))) 1 0 0) (.cons (.ivs (.cons (.int .i64) (.cons (.int .i64) (.cons .fl .nil))) 1 0 0) (.cons (.ivs (.cons .fl .nil) 1 0 0) (.cons (.ivs (.cons .bool (.cons (.ns .u64) (.cons (.int .i64) .nil))) 1 0 0) (.cons (.ivs (.cons .bool (.cons (.ns .u64) (.cons (.int .i64) .nil))) 1 0 0) .nil))))) fun t=>(fun q=>[⟨Im (.r0 (tV q) (nh q)),[s8 q]⟩]) (nU t.1.2.1 t.1.2.2.1 t.1.2.2.2.1.2 t.2.1.2.1 t.2.1.2.2.1 t.2.1.2.2.2.1.2 t.2.2.1.2.1.2 t.2.2.2.1.2.1 t.2.2.2.1.2.2.1.2 t.2.2.2.1.2.2.2.1 t.2.2.2.2.1.2.1 t.2.2.2.2.1.2.2.1.2 t.2.2.2.2.1.2.2.2.1)
theorem W9:aY prog R9:=aR fun t=>(aS (fun h=>afu t.1.1 t.1.2.1 t.1.2.2.1 t.1.2.2.2.1.1 t.1.2.2.2.1.2 t.2.1.1 t.2.1.2.1 t.2.1.2.2.1 t.2.1.2.2.2.1.1 t.2.1.2.2.2.1.2 t.2.2.1.1 t.2.2.1.2.1.1 t.2.2.1.2.1.2 t.2.2.2.1.1 t.2.2.2.1.2.1 t.2.2.2.1.2.2.1.1 t.2.2.2.1.2.2.1.2 t.2.2.2.1.2.2.2.1 t.2.2.2.2.1.1 t.2.2.2.2.1.2.1 t.2.2.2.2.1.2.2.1.1 t.2.2.2.2.1.2.2.1.2 t.2.2.2.2.1.2.2.2.1 (afv h)) bc)
def Sa:List aM:=R9::I4
theorem jU:be prog (bh Sa):=ax W9 pj
inductive iY where
  | r0 (a:Bool) (b:Int)
def aa1:iY→AE×aQ
  | .r0 a b=>(.ret,⟨an 78 [(6,.bool false a),(7,.int .i64 b)],[],0⟩)
theorem uY:jJ aa1:=by intro x;cases x<;>(intro h;cases h)
def Po:iY→gM
  | .r0 a b=>⟨.tup [.bool false a,.int .i64 b],[]⟩
def aoD(d:Int)(e:Int)(f:Lv)(a:List Nat)(g:Lv)(b:List Nat)(h:Int)(i:Int)(j:Lv)(c:List Nat)(_:Unit) :aQ:=⟨an 78 [(3,.ptr 0 1 0 0),(4,.ptr 1 1 0 0),(5,.ptr 2 1 0 0)],[(0,.vs [.int .i64 d,.int .i64 e,.imm f (.fl a) 1 1 0 (List.length a)]),(1,.vs [.imm g (.fl b) 1 1 0 (List.length b)]),(2,.vs [.int .i64 h,.int .i64 i,.imm j (.fl c) 1 1 0 (List.length c)])],3⟩
def K1(d : Int)(e : Int)(a : List Nat)(c : List Nat)(f : Int)(g : Int)(b : List Nat) : T ((Unit) ⊕ (iY)) :=
  .ask (decide ((0 : Int) < (2 : Int)))
    (.need (fv (0 : Int) 2) <| .need (aG 0 (List.length a) a) <| .need (eU (cu d e (ab 0 (List.length a) a))) <| .ask (dT (cu d e (ab 0 (List.length a) a)))
      (.ask (!(!(decide ((0:Int)≥(0:Int)))))
        (.leaf (.inr (.r0 false (2:Int))))
        (.fail))
      (.need (di .i64 (1:Int))<|.ask (decide ((1:Int)<(2:Int)))
        (.need (fv (1 : Int) 2) <| .need (aG 0 (List.length b) b) <| .need (eU (cu f g (ab 0 (List.length b) b))) <| .ask (dT (cu f g (ab 0 (List.length b) b)))
          (.ask (!(!(decide ((1:Int)≥(0:Int)))))
            (.leaf (.inr (.r0 false (2:Int))))
            (.fail))
          (.need (di .i64 (2:Int))<|.ask (decide ((2:Int)<(2:Int)))
            (.fail)
            (.ask (!(!(decide ((-1:Int)≥(0:Int)))))
              (.fail)
              (.ask (d != e)
                (.leaf (.inr (.r0 false (8:Int))))
                (.ask ((((List.length c):Nat):Int) != d)
                  (.leaf (.inr (.r0 false (8:Int))))
                  (.ask (!(f == d && g == e))
                    (.leaf (.inr (.r0 false (8:Int))))
                    (.ask (decide ((0:Int)<(3:Int)))
                      (.need (fv (0:Int) 3)<|.need (aG 0 (List.length a) a)<|.need (aV (au (ab 0 (List.length a) a)))<|.ask (decide ((aW (au (ab 0 (List.length a) a)))≥(0:Int)))
                        (.leaf (.inr (.r0 false (10:Int))))
                        (.need (di .i64 (1:Int))<|.ask (decide ((1:Int)<(3:Int)))
                          (.need (fv (1:Int) 3)<|.need (aG 0 (List.length b) b)<|.need (aV (au (ab 0 (List.length b) b)))<|.ask (decide ((aW (au (ab 0 (List.length b) b)))≥(0:Int)))
                            (.leaf (.inr (.r0 false (10:Int))))
                            (.need (di .i64 (2:Int))<|.ask (decide ((2:Int)<(3:Int)))
                              (.need (fv (2:Int) 3)<|.need (aG 0 (List.length c) c)<|.need (aV (au (ab 0 (List.length c) c)))<|.ask (decide ((aW (au (ab 0 (List.length c) c)))≥(0:Int)))
                                (.leaf (.inr (.r0 false (10:Int))))
                                (.need (di .i64 (3:Int))<|.ask (decide ((3:Int)<(3:Int)))
                                  (.fail)
                                  (.leaf (.inl ()))))
                              (.fail)))
                          (.fail)))
                      (.fail))))))))
        (.fail)))
    (.fail)
def aoE(d:Int)(e:Int)(f:Lv)(a:List Nat)(g:Lv)(b:List Nat)(h:Int)(i:Int)(j:Lv)(c:List Nat)(k:Bool) :aQ:=⟨an 78 [(3,.ptr 0 1 0 0),(4,.ptr 1 1 0 0),(5,.ptr 2 1 0 0),(49,.bool false k)],[(0,.vs [.int .i64 d,.int .i64 e,.imm f (.fl a) 1 1 0 (List.length a)]),(1,.vs [.imm g (.fl b) 1 1 0 (List.length b)]),(2,.vs [.int .i64 h,.int .i64 i,.imm j (.fl c) 1 1 0 (List.length c)])],3⟩
def K2(a:List Nat) :T ((Bool)⊕(iY)) :=
  .need (aG 0 (List.length a) a)<|.need (ph (nI (ab 0 (List.length a) a)))<|.leaf (.inl (!(qV (nI (ab 0 (List.length a) a)))))
def aoF(d:Int)(e:Int)(f:Lv)(a:List Nat)(g:Lv)(b:List Nat)(h:Int)(i:Int)(j:Lv)(c:List Nat) :Nat×Bool×(List Int)×Nat×Nat×Int→aQ:=fun (k,l,m,n,o,p)=>⟨an 78 [(3,.ptr 0 1 0 0),(4,.ptr 1 1 0 0),(5,.ptr 2 1 0 0),(8,.ptr 3 1 0 0),(9,.int .i64 ((k:Nat):Int))],[(0,.vs [.int .i64 d,.int .i64 e,.imm f (.fl a) 1 1 0 (List.length a)]),(1,.vs [.imm g (.fl b) 1 1 0 (List.length b)]),(2,.vs [.int .i64 h,.int .i64 i,.imm j (.fl c) 1 1 0 (List.length c)]),(3,.vs [.bool false l,.imm .free (.ns .u64 m) 1 1 n o,.int .i64 p])],4⟩
def In(a:Int)(b:Bool) :T ((Nat×Bool×(List Int)×Nat×Nat×Int)⊕(iY)) :=
  .ask b
    (.leaf (.inr (.r0 false (0:Int))))
    (.need (p9 (cv a a))<|.leaf (.inl ((pN (cv a a)),(pO (cv a a)),(pP (cv a a)),(pQ (cv a a)),(pR (cv a a)),(pS (cv a a)))))
def aoG(d:Int)(e:Int)(f:Lv)(a:List Nat)(g:Lv)(b:List Nat)(h:Int)(i:Int)(j:Lv)(c:List Nat)(k:Nat)(l:Bool)(m:List Int)(n:Nat)(o:Nat)(p:Int) :Nat×Bool×(List Int)×Nat×Nat×Int→aQ:=fun (f8,q,r,s,t,u)=>⟨an 78 [(3,.ptr 0 1 0 0),(4,.ptr 1 1 0 0),(5,.ptr 2 1 0 0),(8,.ptr 3 1 0 0),(9,.int .i64 ((k:Nat):Int)),(10,.ptr 4 1 0 0),(11,.int .i64 ((f8:Nat):Int))],[(0,.vs [.int .i64 d,.int .i64 e,.imm f (.fl a) 1 1 0 (List.length a)]),(1,.vs [.imm g (.fl b) 1 1 0 (List.length b)]),(2,.vs [.int .i64 h,.int .i64 i,.imm j (.fl c) 1 1 0 (List.length c)]),(3,.vs [.bool false l,.imm .free (.ns .u64 m) 1 1 n o,.int .i64 p]),(4,.vs [.bool false q,.imm .free (.ns .u64 r) 1 1 s t,.int .i64 u])],5⟩
def Io(b:Int)(c:Int)(a:List Nat) :T ((Nat×Bool×(List Int)×Nat×Nat×Int)⊕(iY)) :=
  .need (aG 0 (List.length a) a)<|.need (rL (cY b c (ab 0 (List.length a) a)))<|.leaf (.inl ((qW (cY b c (ab 0 (List.length a) a))),(qX (cY b c (ab 0 (List.length a) a))),(qY (cY b c (ab 0 (List.length a) a))),(qZ (cY b c (ab 0 (List.length a) a))),(q7 (cY b c (ab 0 (List.length a) a))),(q8 (cY b c (ab 0 (List.length a) a)))))
def aoH(d:Int)(e:Int)(f:Lv)(a:List Nat)(g:Lv)(b:List Nat)(h:Int)(i:Int)(j:Lv)(c:List Nat)(k:Nat)(l:Bool)(m:List Int)(n:Nat)(o:Nat)(p:Int)(f8:Nat)(q:Bool)(r:List Int)(s:Nat)(t:Nat)(u:Int)(v:Bool) :aQ:=⟨an 78 [(3,.ptr 0 1 0 0),(4,.ptr 1 1 0 0),(5,.ptr 2 1 0 0),(8,.ptr 3 1 0 0),(9,.int .i64 ((k:Nat):Int)),(10,.ptr 4 1 0 0),(11,.int .i64 ((f8:Nat):Int)),(68,.bool false v)],[(0,.vs [.int .i64 d,.int .i64 e,.imm f (.fl a) 1 1 0 (List.length a)]),(1,.vs [.imm g (.fl b) 1 1 0 (List.length b)]),(2,.vs [.int .i64 h,.int .i64 i,.imm j (.fl c) 1 1 0 (List.length c)]),(3,.vs [.bool false l,.imm .free (.ns .u64 m) 1 1 n o,.int .i64 p]),(4,.vs [.bool false q,.imm .free (.ns .u64 r) 1 1 s t,.int .i64 u])],5⟩
def alc(a:Nat)(f8:Nat) :T ((Bool)⊕(iY)) :=
  .ask (((a:Nat):Int) != (0:Int))
    (.leaf (.inl true))
    (.leaf (.inl (((f8:Nat):Int) != (0:Int))))
def aoI:Bool×Int→aQ:=fun (a,b)=>⟨an 78 [(6,.bool false a),(7,.int .i64 b)],[],0⟩
def Ip(n : Int)(o : Int)(b : List Nat)(c : List Nat)(g : Int)(h : Int)(a : List Nat)(r : Nat)(i : Bool)(d : List Int)(e : Nat)(f : Nat)(j : Int)(f8 : Nat)(p : Bool)(k : List Int)(l : Nat)(m : Nat)(q : Int)(s : Bool) : T ((Bool × Int) ⊕ (iY)) :=
  .ask s
    (.leaf (.inr (.r0 false (mr ((r:Nat):Int) ((f8:Nat):Int)))))
    (.ask (decide ((0:Int)<(2:Int)))
      (.need (fv (0:Int) 2)<|.need (aG 0 (List.length a) a)<|.need (aG e f d)<|.need (sN (nQ g h (ab 0 (List.length a) a) i (ab e f d) j))<|.ask (!(tU (nQ g h (ab 0 (List.length a) a) i (ab e f d) j)))
        (.leaf (.inl (false,(ng (nQ g h (ab 0 (List.length a) a) i (ab e f d) j)))))
        (.ask ((ng (nQ g h (ab 0 (List.length a) a) i (ab e f d) j)) != (0:Int))
          (.leaf (.inl (false,(ng (nQ g h (ab 0 (List.length a) a) i (ab e f d) j)))))
          (.need (di .i64 (1:Int))<|.ask (decide ((1:Int)<(2:Int)))
            (.need (fv (1:Int) 2)<|.need (aG 0 (List.length b) b)<|.need (aG 0 (List.length a) a)<|.need (aG 0 (List.length c) c)<|.need (aG e f d)<|.need (aG l m k)<|.need (s8 (nU n o (ab 0 (List.length b) b) g h (ab 0 (List.length a) a) (ab 0 (List.length c) c) i (ab e f d) j p (ab l m k) q))<|.ask (!(tV (nU n o (ab 0 (List.length b) b) g h (ab 0 (List.length a) a) (ab 0 (List.length c) c) i (ab e f d) j p (ab l m k) q)))
              (.leaf (.inl (false,(nh (nU n o (ab 0 (List.length b) b) g h (ab 0 (List.length a) a) (ab 0 (List.length c) c) i (ab e f d) j p (ab l m k) q)))))
              (.ask ((nh (nU n o (ab 0 (List.length b) b) g h (ab 0 (List.length a) a) (ab 0 (List.length c) c) i (ab e f d) j p (ab l m k) q)) != (0:Int))
                (.leaf (.inl (false,(nh (nU n o (ab 0 (List.length b) b) g h (ab 0 (List.length a) a) (ab 0 (List.length c) c) i (ab e f d) j p (ab l m k) q)))))
                (.need (di .i64 (2:Int))<|.ask (decide ((2:Int)<(2:Int)))
                  (.fail)
                  (.leaf (.inl (true,(0:Int)))))))
            (.fail))))
      (.fail))
def ald(a:Bool)(b:Int) :T ((Empty)⊕(iY)) :=
  .leaf (.inr (.r0 a b))
def iZ(a:Int)(b:Int)(c:List Nat)(d:List Nat)(e:Int)(f:Int)(g:List Nat) :Option iY:=jM (aC ((K1 a b c d e f g).run) fun _ =>
  aC ((K2 d).run) fun i =>
  aC ((In a i).run) fun (h,j,k,l,m,n) =>
  aC ((Io a b c).run) fun (f8,o,p,q,r,s) =>
  aC ((alc h f8).run) fun t =>
  aC ((Ip a b c d e f g h j k l m n f8 o p q r s t).run) fun (u,v) =>
  (ald u v).run)
theorem aoJ(d:Int)(e:Int)(i:Lv)(a:List Nat)(j:Lv)(b:List Nat)(f:Int)(g:Int)(k:Lv)(c:List Nat){x:iY}(h:iZ d e a b f g c=some x) :ay prog Ov [] [.agg [.int .i64 d,.int .i64 e,.imm i (.fl a) 1 1 0 (List.length a)],.imm j (.fl b) 1 1 0 (List.length b),.agg [.int .i64 f,.int .i64 g,.imm k (.fl c) 1 1 0 (List.length c)]] (Po x) :=
  kf true Po aa1 h (Sg.cut 2 uY (bj jU (aoD d e i a j b f g k c) [⟨[],[],[6,7]⟩,⟨[],[],[6,7]⟩,⟨[],[],[6,7]⟩,⟨[],[],[6,7]⟩,⟨[],[],[6,7]⟩,⟨[],[],[6,7]⟩,⟨[],[],[6,7]⟩,⟨[],[],[6,7]⟩,⟨[],[0,16,32],[3,4,5]⟩]) (fun _=>Sg.cut 1 uY (bj jU (aoE d e i a j b f g k c) [⟨[],[0,1,2],[3,4,5,49]⟩]) (fun z=>Sg.cut 2 uY (bj jU (aoF d e i a j b f g k c) [⟨[],[],[6,7]⟩,⟨[],[0,1,2,131],[3,4,5,8,9]⟩]) (fun ⟨l,m,n,o,p,q⟩=>Sg.cut 1 uY (bj jU (aoG d e i a j b f g k c l m n o p q) [⟨[],[0,1,2,3,84],[3,4,5,8,9,10,11]⟩]) (fun ⟨f8,r,s,t,u,v⟩=>Sg.cut 1 uY (bj jU (aoH d e i a j b f g k c l m n o p q f8 r s t u v) [⟨[],[0,1,2,3,4],[3,4,5,8,9,10,11,68]⟩,⟨[],[0,1,2,3,4],[3,4,5,8,9,10,11,68]⟩]) (fun A=>Sg.cut 2 uY (bj jU aoI [⟨[],[],[6,7]⟩,⟨[],[],[6,7]⟩,⟨[],[],[6,7]⟩,⟨[],[],[6,7]⟩,⟨[],[],[6,7]⟩,⟨[],[],[6,7]⟩]) (fun ⟨B,C⟩=>bj jU _ [⟨[],[],[6,7]⟩])))))))
    (fun x=>by cases x with | r0 w y=>exact jN [.bool false w,.int .i64 y])
def uZ:Option iY→Bool
  | some _=>true
  | none=>false
def s9:Option iY→Bool
  | some (.r0 x _)=>x
  | _=>false
def ta:Option iY→Int
  | some (.r0 _ x)=>x
  | _=>0
theorem aoK{x:Option iY}(h:uZ x=true) :x=some (.r0 (s9 x) (ta x)):=by
  unfold uZ at h
  split at h<;>first | rfl | (cases h;done) | (rename_i y;cases y;rfl)
def aa2:aM:=bK Ov (.cons (.agg (.cons (.int .i64) (.cons (.int .i64) (.cons .fl .nil)))) (.cons .fl (.cons (.agg (.cons (.int .i64) (.cons (.int .i64) (.cons .fl .nil)))) .nil))) fun t=>(fun q=>[⟨Po (.r0 (s9 q) (ta q)),[uZ q]⟩]) (iZ t.1.1 t.1.2.1 t.1.2.2.1.2 t.2.1.2 t.2.2.1.1 t.2.2.1.2.1 t.2.2.1.2.2.1.2)
theorem afw:aY prog aa2:=aR fun t=>(aS (fun h=>aoJ t.1.1 t.1.2.1 t.1.2.2.1.1 t.1.2.2.1.2 t.2.1.1 t.2.1.2 t.2.2.1.1 t.2.2.1.2.1 t.2.2.1.2.2.1.1 t.2.2.1.2.2.1.2 (aoK h)) bc)
def aa3:List aM:=aa2::Sa
theorem Fq:be prog (bh aa3):=ax afw jU
inductive gJ where
  | r0 (a:Nat) (b:Bool) (c:Nat) (d:Int) (e:List Int)
def Sb:gJ→AE×aQ
  | .r0 b c a d e=>(.ret,⟨an 14 [(2,.ptr 0 1 0 0),(3,.int .i64 ((b:Nat):Int))],[(0,.vs [.bool false c,.sl 1 1 1 0 a a,.int .i64 d]),(1,.ns .u64 e)],2⟩)
theorem afx:jJ Sb:=by intro x;cases x<;>(intro h;cases h)
def Iq:gJ→gM
  | .r0 a b c d e=>⟨.tup [.agg [.bool false b,.imm .free (.ns .u64 e) 1 1 0 c,.int .i64 d],.int .i64 ((a:Nat):Int)],[]⟩
def afy(a:Int) :Bool×Bool→aQ:=fun (b,c)=>⟨an 14 [(0,.int .i64 a),(2,.ptr 0 1 0 0),(9,.bool false b)],[(0,.vs [.bool false c,.nsl,.int .i64 (0:Int)])],1⟩
def afz(a:Int) :T ((Bool×Bool)⊕(gJ)) :=
  .ask (decide (a<(-262144:Int)))
    (.leaf (.inl (true,false)))
    (.leaf (.inl ((decide (a>(262144:Int))),false)))
def afA(a:Int)(b:Bool) :T ((Empty)⊕(gJ)) :=
  .ask b
    (.leaf (.inr (.r0 3 false 0 (0:Int) ([]:List Int))))
    (.leaf (.inr (.r0 0 false 1 a [(1:Int)])))
def nV(a:Int) :Option gJ:=jM (aC ((afz a).run) fun (b,c) =>
  (afA a b).run)
theorem afB(a:Int){x:gJ}(h:nV a=some x) :ay prog GS [] [.int .i64 a] (Iq x) :=
  kf true Iq Sb h (Sg.cut 2 afx (bj Fq (afy a) [⟨[],[0],[0,2,9]⟩,⟨[],[0],[0,2,9]⟩]) (fun ⟨f,g⟩=>bj Fq _ [⟨[(.cell 0 1,.own 1 1 (.ns .u64 ([]:List Int)))],[0,49],[2,3]⟩,⟨[],[0,1],[2,3]⟩]))
    (fun x=>by cases x with | r0 c d b e i=>exact jN [.agg [.bool false d,.sl 1 1 1 0 b b,.int .i64 e],.int .i64 ((c:Nat):Int)])
def yV:Option gJ→Bool
  | some _=>true
  | none=>false
def I5:Option gJ→Nat
  | some (.r0 x _ _ _ _)=>x
  | _=>0
def zO:Option gJ→Bool
  | some (.r0 _ x _ _ _)=>x
  | _=>false
def zP:Option gJ→Nat
  | some (.r0 _ _ x _ _)=>x
  | _=>0
def zQ:Option gJ→Int
  | some (.r0 _ _ _ x _)=>x
  | _=>0
def zR:Option gJ→List Int
  | some (.r0 _ _ _ _ x)=>x
  | _=>[]
theorem afC{x:Option gJ}(h:yV x=true) :x=some (.r0 (I5 x) (zO x) (zP x) (zQ x) (zR x)):=by
  unfold yV at h
  split at h<;>first | rfl | (cases h;done) | (rename_i y;cases y;rfl)
def Sc:aM:=bK GS (.cons (.int .i64) .nil) fun t=>(fun q=>[⟨Iq (.r0 (I5 q) (zO q) (zP q) (zQ q) (zR q)),[yV q]⟩]) (nV t.1)
theorem Xa:aY prog Sc:=aR fun t=>(aS (fun h=>afB t.1 (afC h)) bc)
def Sd:List aM:=Sc::aa3
theorem tW:be prog (bh Sd):=ax Xa Fq
inductive jD where
  | r0 (a:Bool)
def A2:jD→AE×aQ
  | .r0 a=>(.ret,⟨an 26 [(4,.bool false a)],[],0⟩)
theorem Fr:jJ A2:=by intro x;cases x<;>(intro h;cases h)
theorem afD(id:Nat) :mP id A2:=by intro x;cases x<;>(intro h;cases h)
def Ir:jD→gM
  | .r0 a=>⟨.bool false a,[]⟩
def afE:List Code:=cN (oa Az)
def afF(c:Lv)(a:List Int)(d:Lv)(b:List Int)(_:Unit) :aQ:=⟨an 26 [(0,.imm c (.ns .u64 a) 1 1 0 (List.length a)),(1,.imm d (.ns .u64 b) 1 1 0 (List.length b)),(5,.int .i64 (0:Int))],[],0⟩
def afG(a:List Int)(b:List Int) :T ((Unit)⊕(jD)) :=
  .ask ((((List.length a):Nat):Int) != (((List.length b):Nat):Int))
    (.leaf (.inr (.r0 false)))
    (.leaf (.inl ()))
def Fs(c:Lv)(a:List Int)(d:Lv)(b:List Int)(e:Nat) :aQ:=⟨an 26 [(0,.imm c (.ns .u64 a) 1 1 0 (List.length a)),(1,.imm d (.ns .u64 b) 1 1 0 (List.length b)),(5,.int .i64 ((e:Nat):Int))],[],0⟩
def Ns(_:Unit) :aQ:=⟨an 26 [],[],0⟩
def afH:List Code:=cN (dn ((((afE.drop 4).take 1)).headD .skip))
def Ft(b:List Int)(c:List Int)(a:Nat) :T ((Nat)⊕((Unit)⊕(jD))) :=
  .ask (decide (((a:Nat):Int)<(((List.length b):Nat):Int)))
    (.need (fv ((a:Nat):Int) (List.length b))<|.need (g9 a (List.length b))<|.need (fv ((a:Nat):Int) (List.length c))<|.need (g9 a (List.length c))<|.ask ((List.getD b a 0) != (List.getD c a 0))
      (.leaf (.inr (.inr (.r0 false))))
      (.need (di .i64 (((a+1):Nat):Int))<|.leaf (.inl (a+1))))
    (.leaf (.inr (.inl ())))
def Cg(a:List Int)(b:List Int) :Nat→Option ((Nat)⊕((Unit)⊕(jD))):=fun c =>
  (Ft a b c).run
theorem aa4(c:Lv)(a:List Int)(d:Lv)(b:List Int)(e:Nat) :Sg prog [] afH (Fs c a d b e) (Cg a b e) (Fs c a d b) (cy 0 Ns A2):=by
  unfold Cg;exact bj tW _ [⟨[],[],[4]⟩,⟨[],[],[0,1,5]⟩,⟨[],[],[]⟩]
def aa5:T ((Empty)⊕(jD)) :=
  .leaf (.inr (.r0 true))
def wc(a:List Int)(b:List Int) :Option jD:=jM (aC ((afG a b).run) fun _ =>
  aC (dh (Cg a b) 0) fun _ =>
  (aa5).run)
theorem afI(c:Lv)(a:List Int)(d:Lv)(b:List Int){x:jD}(h:wc a b=some x) :ay prog Az [] [.imm c (.ns .u64 a) 1 1 0 (List.length a),.imm d (.ns .u64 b) 1 1 0 (List.length b)] (Ir x) :=
  kf true Ir A2 h (Sg.cut 4 Fr (bj tW (afF c a d b) [⟨[],[],[4]⟩,⟨[],[],[0,1,5]⟩]) (fun _=>Sg.cut 1 Fr (AD ⟨[],[],[0,1,5]⟩ (Fs c a d b) (Ns) 0 Fr (afD _) (fun e=>aa4 c a d b e)) (fun _=>bj tW _ [⟨[],[],[4]⟩])))
    (fun x=>by cases x with | r0 f=>exact jN [.bool false f])
def yW:Option jD→Bool
  | some _=>true
  | none=>false
def zS:Option jD→Bool
  | some (.r0 x)=>x
  | _=>false
theorem afJ{x:Option jD}(h:yW x=true) :x=some (.r0 (zS x)):=by
  unfold yW at h
  split at h<;>first | rfl | (cases h;done) | (rename_i y;cases y;rfl)
def Se:aM:=bK Az (.cons (.ns .u64) (.cons (.ns .u64) .nil)) fun t=>(fun q=>[⟨Ir (.r0 (zS q)),[yW q]⟩]) (wc t.1.2 t.2.1.2)
theorem Xb:aY prog Se:=aR fun t=>(aS (fun h=>afI t.1.1 t.1.2 t.2.1.1 t.2.1.2 (afJ h)) bc)
def Sf:List aM:=Se::Sd
theorem zT:be prog (bh Sf):=ax Xb tW
inductive lT where
  | r0 (a:Bool)
def Sh:lT→AE×aQ
  | .r0 a=>(.ret,⟨an 24 [(4,.bool false a)],[],0⟩)
theorem afK:jJ Sh:=by intro x;cases x<;>(intro h;cases h)
def Is:lT→gM
  | .r0 a=>⟨.bool false a,[]⟩
def afL(a:Bool) :aQ:=⟨an 24 [(4,.bool false a)],[],0⟩
def Nt(c:Bool)(a:List Int)(d:Int)(e:Bool)(b:List Int)(f:Int) :T ((Bool)⊕(lT)) :=
  .ask (c==e)
    (.need (aG 0 (List.length a) a)<|.need (aG 0 (List.length b) b)<|.need (yW (wc (ab 0 (List.length a) a) (ab 0 (List.length b) b)))<|.ask (zS (wc (ab 0 (List.length a) a) (ab 0 (List.length b) b)))
      (.leaf (.inl (d==f)))
      (.leaf (.inl false)))
    (.leaf (.inl false))
def afM(a:Bool) :T ((Empty)⊕(lT)) :=
  .leaf (.inr (.r0 a))
def pk(a:Bool)(b:List Int)(c:Int)(d:Bool)(e:List Int)(f:Int) :Option lT:=jM (aC ((Nt a b c d e f).run) fun g =>
  (afM g).run)
theorem afN(c:Bool)(g:Lv)(a:List Int)(d:Int)(e:Bool)(i:Lv)(b:List Int)(f:Int){x:lT}(h:pk c a d e b f=some x) :ay prog GO [] [.agg [.bool false c,.imm g (.ns .u64 a) 1 1 0 (List.length a),.int .i64 d],.agg [.bool false e,.imm i (.ns .u64 b) 1 1 0 (List.length b),.int .i64 f]] (Is x) :=
  kf true Is Sh h (Sg.cut 2 afK (bj zT afL [⟨[],[],[4]⟩,⟨[],[],[4]⟩,⟨[],[],[4]⟩]) (fun k=>bj zT _ [⟨[],[],[4]⟩]))
    (fun x=>by cases x with | r0 j=>exact jN [.bool false j])
def tc:Option lT→Bool
  | some _=>true
  | none=>false
def tX:Option lT→Bool
  | some (.r0 x)=>x
  | _=>false
theorem afO{x:Option lT}(h:tc x=true) :x=some (.r0 (tX x)):=by
  unfold tc at h
  split at h<;>first | rfl | (cases h;done) | (rename_i y;cases y;rfl)
def Si:aM:=bK GO (.cons (.agg (.cons .bool (.cons (.ns .u64) (.cons (.int .i64) .nil)))) (.cons (.agg (.cons .bool (.cons (.ns .u64) (.cons (.int .i64) .nil)))) .nil)) fun t=>(fun q=>[⟨Is (.r0 (tX q)),[tc q]⟩]) (pk t.1.1 t.1.2.1.2 t.1.2.2.1 t.2.1.1 t.2.1.2.1.2 t.2.1.2.2.1)
theorem Xc:aY prog Si:=aR fun t=>(aS (fun h=>afN t.1.1 t.1.2.1.1 t.1.2.1.2 t.1.2.2.1 t.2.1.1 t.2.1.2.1.1 t.2.1.2.1.2 t.2.1.2.2.1 (afO h)) bc)
def Sj:List aM:=Si::Sf
theorem tY:be prog (bh Sj):=ax Xc zT
inductive fq where
  | r0 (a:Bool) (b:List Int) (c:Nat) (d:Int)
def Nu:fq→AE×aQ
  | .r0 a b c d=>(.ret,⟨an 16 [(2,.ptr 0 1 0 0)],[(0,.vs [.bool false a,.imm .free (.ns .u64 b) 1 1 0 c,.int .i64 d])],1⟩)
theorem K3:jJ Nu:=by intro x;cases x<;>(intro h;cases h)
def Fu:fq→gM
  | .r0 a b c d=>⟨.agg [.bool false a,.imm .free (.ns .u64 b) 1 1 0 c,.int .i64 d],[]⟩
def aa6(a:Int) :Int×Bool→aQ:=fun (b,c)=>⟨an 16 [(0,.int .i64 a),(2,.ptr 0 1 0 0),(3,.int .u64 b)],[(0,.vs [.bool false c,.nsl,.int .i64 (0:Int)])],1⟩
def K4(a:Int) :T ((Int×Bool)⊕(fq)) :=
  .ask (decide (a<(0:Int)))
    (.leaf (.inl ((IntKind.u64.wrap ((0:Int)-(IntKind.u64.wrap a))),false)))
    (.leaf (.inl ((IntKind.u64.wrap a),false)))
def aa7:Bool×(List Int)×Nat×Int→aQ:=fun (a,b,c,d)=>⟨an 16 [(2,.ptr 0 1 0 0)],[(0,.vs [.bool false a,.imm .free (.ns .u64 b) 1 1 0 c,.int .i64 d])],1⟩
def Ch(b:Int)(a:Int) :T ((Bool×(List Int)×Nat×Int)⊕(fq)) :=
  .need (aG 0 1 [a])<|.need (fp (bd (decide (b<(0:Int))) (ab 0 1 [a]) (0:Int)))<|.leaf (.inl ((eF (bd (decide (b<(0:Int))) (ab 0 1 [a]) (0:Int))),(eG (bd (decide (b<(0:Int))) (ab 0 1 [a]) (0:Int))),(eI (bd (decide (b<(0:Int))) (ab 0 1 [a]) (0:Int))),(eJ (bd (decide (b<(0:Int))) (ab 0 1 [a]) (0:Int)))))
def aa8(a:Bool)(b:List Int)(c:Nat)(d:Int) :T ((Empty)⊕(fq)) :=
  .leaf (.inr (.r0 a b c d))
def aF(a:Int) :Option fq:=jM (aC ((K4 a).run) fun (b,g) =>
  aC ((Ch a b).run) fun (c,d,e,f) =>
  (aa8 c d e f).run)
theorem aa9(a:Int){x:fq}(h:aF a=some x) :ay prog D0 [] [.int .i64 a] (Fu x) :=
  kf true Fu Nu h (Sg.cut 4 K3 (bj tY (aa6 a) [⟨[],[0],[0,2,3]⟩,⟨[],[0],[0,2,3]⟩]) (fun ⟨f,g⟩=>Sg.cut 1 K3 (bj tY aa7 [⟨[],[0],[2]⟩]) (fun ⟨i,j,k,l⟩=>bj tY _ [⟨[],[0],[2]⟩])))
    (fun x=>by cases x with | r0 b c d e=>exact jN [.agg [.bool false b,.imm .free (.ns .u64 c) 1 1 0 d,.int .i64 e]])
def eR:Option fq→Bool
  | some _=>true
  | none=>false
def cJ:Option fq→Bool
  | some (.r0 x _ _ _)=>x
  | _=>false
def co:Option fq→List Int
  | some (.r0 _ x _ _)=>x
  | _=>[]
def cp:Option fq→Nat
  | some (.r0 _ _ x _)=>x
  | _=>0
def cK:Option fq→Int
  | some (.r0 _ _ _ x)=>x
  | _=>0
theorem aba{x:Option fq}(h:eR x=true) :x=some (.r0 (cJ x) (co x) (cp x) (cK x)):=by
  unfold eR at h
  split at h<;>first | rfl | (cases h;done) | (rename_i y;cases y;rfl)
def Nv:aM:=bK D0 (.cons (.int .i64) .nil) fun t=>(fun q=>[⟨Fu (.r0 (cJ q) (co q) (cp q) (cK q)),[eR q]⟩]) (aF t.1)
theorem T1:aY prog Nv:=aR fun t=>(aS (fun h=>aa9 t.1 (aba h)) bc)
def Nw:List aM:=Nv::Sj
theorem fu:be prog (bh Nw):=ax T1 tY
inductive dQ where
  | r0 (a:Bool)
def Nz:dQ→AE×aQ
  | .r0 a=>(.ret,⟨an 91 [(0,.bool false a)],[],0⟩)
theorem kZ:jJ Nz:=by intro x;cases x<;>(intro h;cases h)
def Fv:dQ→gM
  | .r0 a=>⟨.bool false a,[]⟩
def abb:Int×Nat×(List Nat)×(List Nat)→aQ:=fun (a,b,c,d)=>⟨an 91 [(1,.ptr 0 1 0 0),(2,.ptr 1 1 0 0)],[(0,.vs [.int .i64 (2:Int),.int .i64 (2:Int),.sl 2 1 1 0 4 4]),(1,.vs [.int .i64 a,.int .i64 a,.sl 3 1 1 0 b b]),(2,.fl c),(3,.fl d)],4⟩
def I6:T ((Int×Nat×(List Nat)×(List Nat))⊕(dQ)) :=
  .need (AX (qU (2:Int)))<|.leaf (.inl ((B2 (qU (2:Int))),(B3 (qU (2:Int))),[4611686018427387904,0,0,4613937818241073152],(B4 (qU (2:Int)))))
def abc(a:Int)(b:Nat)(c:List Nat)(d:List Nat) :Bool×Int→aQ:=fun (e,f)=>⟨an 91 [(1,.ptr 0 1 0 0),(2,.ptr 1 1 0 0),(3,.bool false e),(4,.int .i64 f)],[(0,.vs [.int .i64 (2:Int),.int .i64 (2:Int),.sl 2 1 1 0 4 4]),(1,.vs [.int .i64 a,.int .i64 a,.sl 3 1 1 0 b b]),(2,.fl c),(3,.fl d)],4⟩
def zU(a:Int)(b:Nat)(c:List Nat)(d:List Nat) :T ((Bool×Int)⊕(dQ)) :=
  .need (aG 0 4 c)<|.need (aG 0 2 [4611686018427387904,4613937818241073152])<|.need (aG 0 b d)<|.need (uZ (iZ (2:Int) (2:Int) (ab 0 4 c) (ab 0 2 [4611686018427387904,4613937818241073152]) a a (ab 0 b d)))<|.leaf (.inl ((s9 (iZ (2:Int) (2:Int) (ab 0 4 c) (ab 0 2 [4611686018427387904,4613937818241073152]) a a (ab 0 b d))),(ta (iZ (2:Int) (2:Int) (ab 0 4 c) (ab 0 2 [4611686018427387904,4613937818241073152]) a a (ab 0 b d)))))
def abd(a:Int)(b:Nat)(c:List Nat)(d:List Nat)(e:Bool)(f:Int) :Bool×Int→aQ:=fun (g,f8)=>⟨an 91 [(1,.ptr 0 1 0 0),(2,.ptr 1 1 0 0),(3,.bool false e),(4,.int .i64 f),(5,.bool false g),(6,.int .i64 f8)],[(0,.vs [.int .i64 (2:Int),.int .i64 (2:Int),.sl 2 1 1 0 4 4]),(1,.vs [.int .i64 a,.int .i64 a,.sl 3 1 1 0 b b]),(2,.fl c),(3,.fl d)],4⟩
def zV(a:Int)(b:Nat)(c:List Nat)(d:List Nat) :T ((Bool×Int)⊕(dQ)) :=
  .need (aG 0 4 c)<|.need (aG 0 2 [4613937818241073152,4611686018427387904])<|.need (aG 0 b d)<|.need (uZ (iZ (2:Int) (2:Int) (ab 0 4 c) (ab 0 2 [4613937818241073152,4611686018427387904]) a a (ab 0 b d)))<|.leaf (.inl ((s9 (iZ (2:Int) (2:Int) (ab 0 4 c) (ab 0 2 [4613937818241073152,4611686018427387904]) a a (ab 0 b d))),(ta (iZ (2:Int) (2:Int) (ab 0 4 c) (ab 0 2 [4613937818241073152,4611686018427387904]) a a (ab 0 b d)))))
def abe(a:Bool)(b:Int)(c:Bool)(f8:Int) :Bool×Int→aQ:=fun (d,e)=>⟨an 91 [(3,.bool false a),(4,.int .i64 b),(5,.bool false c),(6,.int .i64 f8),(7,.bool false d),(8,.int .i64 e)],[],0⟩
def zW(a:Int)(b:Nat)(c:List Nat)(d:List Nat) :T ((Bool×Int)⊕(dQ)) :=
  .need (aG 0 4 c)<|.need (aG 0 2 [4611686018427387904,4613940070040886837])<|.need (aG 0 b d)<|.need (uZ (iZ (2:Int) (2:Int) (ab 0 4 c) (ab 0 2 [4611686018427387904,4613940070040886837]) a a (ab 0 b d)))<|.leaf (.inl ((s9 (iZ (2:Int) (2:Int) (ab 0 4 c) (ab 0 2 [4611686018427387904,4613940070040886837]) a a (ab 0 b d))),(ta (iZ (2:Int) (2:Int) (ab 0 4 c) (ab 0 2 [4611686018427387904,4613940070040886837]) a a (ab 0 b d)))))
def abf(a:Bool)(b:Int)(c:Bool)(f8:Int)(d:Bool)(e:Int) :Nat×Bool×(List Int)×Nat×Nat×Int→aQ:=fun (f,g,h,i,j,k)=>⟨an 91 [(3,.bool false a),(4,.int .i64 b),(5,.bool false c),(6,.int .i64 f8),(7,.bool false d),(8,.int .i64 e),(9,.ptr 0 1 0 0),(10,.int .i64 ((f:Nat):Int))],[(0,.vs [.bool false g,.imm .free (.ns .u64 h) 1 1 i j,.int .i64 k])],1⟩
def zX:T ((Nat×Bool×(List Int)×Nat×Nat×Int)⊕(dQ)) :=
  .need (p9 (cv (1:Int) (1:Int)))<|.leaf (.inl ((pN (cv (1:Int) (1:Int))),(pO (cv (1:Int) (1:Int))),(pP (cv (1:Int) (1:Int))),(pQ (cv (1:Int) (1:Int))),(pR (cv (1:Int) (1:Int))),(pS (cv (1:Int) (1:Int)))))
def abg(a:Bool)(b:Int)(c:Bool)(f8:Int)(d:Bool)(e:Int)(f:Nat)(g:Bool)(h:List Int)(i:Nat)(j:Nat)(k:Int) :Bool×(List Int)×Nat×Int→aQ:=fun (l,m,n,o)=>⟨an 91 [(3,.bool false a),(4,.int .i64 b),(5,.bool false c),(6,.int .i64 f8),(7,.bool false d),(8,.int .i64 e),(9,.ptr 0 1 0 0),(10,.int .i64 ((f:Nat):Int)),(11,.ptr 1 1 0 0)],[(0,.vs [.bool false g,.imm .free (.ns .u64 h) 1 1 i j,.int .i64 k]),(1,.vs [.bool false l,.imm .free (.ns .u64 m) 1 1 0 n,.int .i64 o])],2⟩
def zY:T ((Bool×(List Int)×Nat×Int)⊕(dQ)) :=
  .need (yV (nV (-94:Int)))<|.leaf (.inl ((zO (nV (-94:Int))),(zR (nV (-94:Int))),(zP (nV (-94:Int))),(zQ (nV (-94:Int)))))
def abh(a:Bool)(b:Int)(c:Bool)(f8:Int)(d:Bool)(e:Int)(f:Nat)(g:Bool)(h:List Int)(i:Nat)(j:Nat)(k:Int)(l:Bool)(m:List Int)(n:Nat)(o:Int) :Nat×Bool×(List Int)×Nat×Nat×Int→aQ:=fun (p,q,r,s,t,u)=>⟨an 91 [(3,.bool false a),(4,.int .i64 b),(5,.bool false c),(6,.int .i64 f8),(7,.bool false d),(8,.int .i64 e),(9,.ptr 0 1 0 0),(10,.int .i64 ((f:Nat):Int)),(11,.ptr 1 1 0 0),(13,.ptr 2 1 0 0),(14,.int .i64 ((p:Nat):Int))],[(0,.vs [.bool false g,.imm .free (.ns .u64 h) 1 1 i j,.int .i64 k]),(1,.vs [.bool false l,.imm .free (.ns .u64 m) 1 1 0 n,.int .i64 o]),(2,.vs [.bool false q,.imm .free (.ns .u64 r) 1 1 s t,.int .i64 u])],3⟩
def zZ:T ((Nat×Bool×(List Int)×Nat×Nat×Int)⊕(dQ)) :=
  .need (aG 0 2 [4613937818241073152,4616189618054758400])<|.need (rL (cY (1:Int) (2:Int) (ab 0 2 [4613937818241073152,4616189618054758400])))<|.leaf (.inl ((qW (cY (1:Int) (2:Int) (ab 0 2 [4613937818241073152,4616189618054758400]))),(qX (cY (1:Int) (2:Int) (ab 0 2 [4613937818241073152,4616189618054758400]))),(qY (cY (1:Int) (2:Int) (ab 0 2 [4613937818241073152,4616189618054758400]))),(qZ (cY (1:Int) (2:Int) (ab 0 2 [4613937818241073152,4616189618054758400]))),(q7 (cY (1:Int) (2:Int) (ab 0 2 [4613937818241073152,4616189618054758400]))),(q8 (cY (1:Int) (2:Int) (ab 0 2 [4613937818241073152,4616189618054758400])))))
def abi(a:Bool) :aQ:=⟨an 91 [(0,.bool false a)],[],0⟩
def z4(o : Bool)(p : Int)(q : Bool)(f8 : Int)(r : Bool)(s : Int)(t : Nat)(i : Bool)(a : List Int)(b : Nat)(c : Nat)(j : Int)(k : Bool)(d : List Int)(e : Nat)(l : Int)(u : Nat)(m : Bool)(f : List Int)(g : Nat)(h : Nat)(n : Int) : T ((Bool) ⊕ (dQ)) :=
  .ask (p == (0 : Int))
    (.ask (f8 == (0 : Int))
      (.ask (s == (0 : Int))
        (.ask (((t:Nat):Int)==(0:Int))
          (.ask (((u:Nat):Int)==(0:Int))
            (.ask o
              (.ask (!q)
                (.ask (!r)
                  (.need (aG b c a)<|.need (aG 0 e d)<|.need (tc (pk i (ab b c a) j k (ab 0 e d) l))<|.ask (tX (pk i (ab b c a) j k (ab 0 e d) l))
                    (.need (eR (aF (25:Int)))<|.need (aG g h f)<|.need (aG 0 (cp (aF (25:Int))) (co (aF (25:Int))))<|.need (tc (pk m (ab g h f) n (cJ (aF (25:Int))) (ab 0 (cp (aF (25:Int))) (co (aF (25:Int)))) (cK (aF (25:Int)))))<|.leaf (.inl (tX (pk m (ab g h f) n (cJ (aF (25:Int))) (ab 0 (cp (aF (25:Int))) (co (aF (25:Int)))) (cK (aF (25:Int)))))))
                    (.leaf (.inl false)))
                  (.leaf (.inl false)))
                (.leaf (.inl false)))
              (.leaf (.inl false)))
            (.leaf (.inl false)))
          (.leaf (.inl false)))
        (.leaf (.inl false)))
      (.leaf (.inl false)))
    (.leaf (.inl false))
def Xd(a:Bool) :T ((Empty)⊕(dQ)) :=
  .leaf (.inr (.r0 a))
def kK:Option dQ:=jM (aC ((I6).run) fun (a,b,c,d) =>
  aC ((zU a b c d).run) fun (e,f) =>
  aC ((zV a b c d).run) fun (g,f8) =>
  aC ((zW a b c d).run) fun (h,i) =>
  aC ((zX).run) fun (j,k,l,m,n,o) =>
  aC ((zY).run) fun (p,q,r,s) =>
  aC ((zZ).run) fun (t,u,v,w,x,y) =>
  aC ((z4 e f g f8 h i j k l m n o p q r s t u v w x y).run) fun z =>
  (Xd z).run)
theorem abj{x:dQ}(h:kK=some x) :ay prog Mv [] [] (Fv x) :=
  kf false Fv Nz h (Sg.cut 3 kZ (bj fu abb [⟨[],[32,80,16,64],[1,2]⟩]) (fun ⟨f,g,i,j⟩=>Sg.cut 1 kZ (bj fu (abc f g i j) [⟨[],[0,1,2,3],[1,2,3,4]⟩]) (fun ⟨a,b⟩=>Sg.cut 1 kZ (bj fu (abd f g i j a b) [⟨[],[0,1,2,3],[1,2,3,4,5,6]⟩]) (fun ⟨c,f8⟩=>Sg.cut 1 kZ (bj fu (abe a b c f8) [⟨[],[],[3,4,5,6,7,8]⟩]) (fun ⟨d,e⟩=>Sg.cut 1 kZ (bj fu (abf a b c f8 d e) [⟨[],[64],[3,4,5,6,7,8,9,10]⟩]) (fun ⟨k,l,m,n,o,p⟩=>Sg.cut 1 kZ (bj fu (abg a b c f8 d e k l m n o p) [⟨[],[0,65],[3,4,5,6,7,8,9,10,11]⟩]) (fun ⟨q,r,s,t⟩=>Sg.cut 1 kZ (bj fu (abh a b c f8 d e k l m n o p q r s t) [⟨[],[0,1,98],[3,4,5,6,7,8,9,10,11,13,14]⟩]) (fun ⟨v,w,y,z,A,B⟩=>Sg.cut 1 kZ (bj fu abi [⟨[],[],[0]⟩,⟨[],[],[0]⟩,⟨[],[],[0]⟩,⟨[],[],[0]⟩,⟨[],[],[0]⟩,⟨[],[],[0]⟩,⟨[],[],[0]⟩,⟨[],[],[0]⟩,⟨[],[],[0]⟩,⟨[],[],[0]⟩]) (fun C=>bj fu _ [⟨[],[],[0]⟩])))))))))
    (fun x=>by cases x with | r0 u=>exact jN [.bool false u])
def oM:Option dQ→Bool
  | some _=>true
  | none=>false
def oN:Option dQ→Bool
  | some (.r0 x)=>x
  | _=>false
theorem abk{x:Option dQ}(h:oM x=true) :x=some (.r0 (oN x)):=by
  unfold oM at h
  split at h<;>first | rfl | (cases h;done) | (rename_i y;cases y;rfl)
def NA:aM:=bK Mv .nil fun t=>(fun q=>[⟨Fv (.r0 (oN q)),[oM q]⟩]) (kK)
theorem T3:aY prog NA:=aR fun t=>(aS (fun h=>abj (abk h)) bc)
def NB:List aM:=NA::Nw
theorem xK:be prog (bh NB):=ax T3 fu
inductive gu where
  | r0 (a:Bool) (b:List Int) (c:Nat) (d:Int)
def NC:gu→AE×aQ
  | .r0 a b c d=>(.ret,⟨an 14 [(4,.ptr 0 1 0 0)],[(0,.vs [.bool false a,.imm .free (.ns .u64 b) 1 1 0 c,.int .i64 d])],1⟩)
theorem abl:jJ NC:=by intro x;cases x<;>(intro h;cases h)
def Fw:gu→gM
  | .r0 a b c d=>⟨.agg [.bool false a,.imm .free (.ns .u64 b) 1 1 0 c,.int .i64 d],[]⟩
def abm:Bool×Bool×(List Int)×Nat×Int→aQ:=fun (a,b,c,d,e)=>⟨an 14 [(4,.ptr 0 1 0 0),(5,.ptr 1 1 0 0)],[(0,.vs [.bool false a,.nsl,.int .i64 (0:Int)]),(1,.vs [.bool false b,.imm .free (.ns .u64 c) 1 1 0 d,.int .i64 e])],2⟩
def K5(c:Bool)(a:List Int)(d:Int)(e:Bool)(b:List Int)(f:Int) :T ((Bool×Bool×(List Int)×Nat×Int)⊕(gu)) :=
  .need (aG 0 (List.length a) a)<|.need (aG 0 (List.length b) b)<|.need (AU (oU c (ab 0 (List.length a) a) d e (ab 0 (List.length b) b) f))<|.leaf (.inl (false,(BT (oU c (ab 0 (List.length a) a) d e (ab 0 (List.length b) b) f)),(BU (oU c (ab 0 (List.length a) a) d e (ab 0 (List.length b) b) f)),(BV (oU c (ab 0 (List.length a) a) d e (ab 0 (List.length b) b) f)),(BW (oU c (ab 0 (List.length a) a) d e (ab 0 (List.length b) b) f))))
def abn(a:Bool)(b:List Int)(c:Nat)(d:Int) :T ((Empty)⊕(gu)) :=
  .leaf (.inr (.r0 a b c d))
def am(a:Bool)(b:List Int)(c:Int)(d:Bool)(e:List Int)(f:Int) :Option gu:=jM (aC ((K5 a b c d e f).run) fun (k,g,h,i,j) =>
  (abn g h i j).run)
theorem abo(c:Bool)(g:Lv)(a:List Int)(d:Int)(e:Bool)(i:Lv)(b:List Int)(f:Int){x:gu}(h:am c a d e b f=some x) :ay prog D2 [] [.agg [.bool false c,.imm g (.ns .u64 a) 1 1 0 (List.length a),.int .i64 d],.agg [.bool false e,.imm i (.ns .u64 b) 1 1 0 (List.length b),.int .i64 f]] (Fw x) :=
  kf true Fw NC h (Sg.cut 2 abl (bj xK abm [⟨[],[32,144],[4,5]⟩]) (fun ⟨n,o,p,q,r⟩=>bj xK _ [⟨[],[0],[4]⟩]))
    (fun x=>by cases x with | r0 j k l m=>exact jN [.agg [.bool false j,.imm .free (.ns .u64 k) 1 1 0 l,.int .i64 m]])
def c8:Option gu→Bool
  | some _=>true
  | none=>false
def aT:Option gu→Bool
  | some (.r0 x _ _ _)=>x
  | _=>false
def aJ:Option gu→List Int
  | some (.r0 _ x _ _)=>x
  | _=>[]
def aK:Option gu→Nat
  | some (.r0 _ _ x _)=>x
  | _=>0
def aU:Option gu→Int
  | some (.r0 _ _ _ x)=>x
  | _=>0
theorem abp{x:Option gu}(h:c8 x=true) :x=some (.r0 (aT x) (aJ x) (aK x) (aU x)):=by
  unfold c8 at h
  split at h<;>first | rfl | (cases h;done) | (rename_i y;cases y;rfl)
def ND:aM:=bK D2 (.cons (.agg (.cons .bool (.cons (.ns .u64) (.cons (.int .i64) .nil)))) (.cons (.agg (.cons .bool (.cons (.ns .u64) (.cons (.int .i64) .nil)))) .nil)) fun t=>(fun q=>[⟨Fw (.r0 (aT q) (aJ q) (aK q) (aU q)),[c8 q]⟩]) (am t.1.1 t.1.2.1.2 t.1.2.2.1 t.2.1.1 t.2.1.2.1.2 t.2.1.2.2.1)
theorem T4:aY prog ND:=aR fun t=>(aS (fun h=>abo t.1.1 t.1.2.1.1 t.1.2.1.2 t.1.2.2.1 t.2.1.1 t.2.1.2.1.1 t.2.1.2.1.2 t.2.1.2.2.1 (abp h)) bc)
def NE:List aM:=ND::NB
theorem mn:be prog (bh NE):=ax T4 xK
inductive ef where
  | r0 (a:Bool) (b:List Int) (c:Nat) (d:Int)
def NF:ef→AE×aQ
  | .r0 a b c d=>(.ret,⟨an 25 [(4,.ptr 0 1 0 0)],[(0,.vs [.bool false a,.imm .free (.ns .u64 b) 1 1 0 c,.int .i64 d])],1⟩)
theorem wd:jJ NF:=by intro x;cases x<;>(intro h;cases h)
def Fx:ef→gM
  | .r0 a b c d=>⟨.agg [.bool false a,.imm .free (.ns .u64 b) 1 1 0 c,.int .i64 d],[]⟩
def abq(a:Int) :Int×Bool→aQ:=fun (b,c)=>⟨an 25 [(0,.int .i64 b),(1,.int .i64 a),(4,.ptr 0 1 0 0)],[(0,.vs [.bool false c,.nsl,.int .i64 (0:Int)])],1⟩
def K6(a:Int) :T ((Int×Bool)⊕(ef)) :=
  .ask (a==(0:Int))
    (.leaf (.inl ((1:Int),false)))
    (.leaf (.inl (a,false)))
def abr(a:Int)(b:Bool)(c:Int) :aQ:=⟨an 25 [(0,.int .i64 a),(1,.int .i64 c),(4,.ptr 0 1 0 0)],[(0,.vs [.bool false b,.nsl,.int .i64 (0:Int)])],1⟩
def Ci(a:Int) :T ((Int)⊕(ef)) :=
  .ask (a==(0:Int))
    (.leaf (.inl (1:Int)))
    (.leaf (.inl a))
def abt(a:Bool) :Bool×(List Int)×Nat×Int→aQ:=fun (b,c,d,e)=>⟨an 25 [(4,.ptr 0 1 0 0),(5,.ptr 1 1 0 0)],[(0,.vs [.bool false a,.nsl,.int .i64 (0:Int)]),(1,.vs [.bool false b,.imm .free (.ns .u64 c) 1 1 0 d,.int .i64 e])],2⟩
def Cj(a:Int)(b:Int) :T ((Bool×(List Int)×Nat×Int)⊕(ef)) :=
  .need (di .i64 ((64:Int)*a))<|.need (di .i64 (((64:Int)*a)*b))<|.need (eR (aF (((64:Int)*a)*b)))<|.leaf (.inl ((cJ (aF (((64:Int)*a)*b))),(co (aF (((64:Int)*a)*b))),(cp (aF (((64:Int)*a)*b))),(cK (aF (((64:Int)*a)*b)))))
def abu(a:Bool) :Bool×(List Int)×Nat×Int→aQ:=fun (b,c,d,e)=>⟨an 25 [(4,.ptr 0 1 0 0),(6,.ptr 1 1 0 0)],[(0,.vs [.bool false a,.nsl,.int .i64 (0:Int)]),(1,.vs [.bool false b,.imm .free (.ns .u64 c) 1 1 0 d,.int .i64 e])],2⟩
def Ck(c:Bool)(a:List Int)(b:Nat)(d:Int) :T ((Bool×(List Int)×Nat×Int)⊕(ef)) :=
  .need (aG 0 b a)<|.need (aG 0 b a)<|.need (c8 (am c (ab 0 b a) d c (ab 0 b a) d))<|.need (aG 0 (aK (am c (ab 0 b a) d c (ab 0 b a) d)) (aJ (am c (ab 0 b a) d c (ab 0 b a) d)))<|.need (v6 (kH (aT (am c (ab 0 b a) d c (ab 0 b a) d)) (ab 0 (aK (am c (ab 0 b a) d c (ab 0 b a) d)) (aJ (am c (ab 0 b a) d c (ab 0 b a) d))) (aU (am c (ab 0 b a) d c (ab 0 b a) d)) (-106:Int)))<|.leaf (.inl ((xz (kH (aT (am c (ab 0 b a) d c (ab 0 b a) d)) (ab 0 (aK (am c (ab 0 b a) d c (ab 0 b a) d)) (aJ (am c (ab 0 b a) d c (ab 0 b a) d))) (aU (am c (ab 0 b a) d c (ab 0 b a) d)) (-106:Int))),(xA (kH (aT (am c (ab 0 b a) d c (ab 0 b a) d)) (ab 0 (aK (am c (ab 0 b a) d c (ab 0 b a) d)) (aJ (am c (ab 0 b a) d c (ab 0 b a) d))) (aU (am c (ab 0 b a) d c (ab 0 b a) d)) (-106:Int))),(xB (kH (aT (am c (ab 0 b a) d c (ab 0 b a) d)) (ab 0 (aK (am c (ab 0 b a) d c (ab 0 b a) d)) (aJ (am c (ab 0 b a) d c (ab 0 b a) d))) (aU (am c (ab 0 b a) d c (ab 0 b a) d)) (-106:Int))),(xC (kH (aT (am c (ab 0 b a) d c (ab 0 b a) d)) (ab 0 (aK (am c (ab 0 b a) d c (ab 0 b a) d)) (aJ (am c (ab 0 b a) d c (ab 0 b a) d))) (aU (am c (ab 0 b a) d c (ab 0 b a) d)) (-106:Int)))))
def Xe(a:Bool)(b:List Int)(c:Nat)(d:Int) :T ((Empty)⊕(ef)) :=
  .leaf (.inr (.r0 a b c d))
def md(a:Int)(b:Int) :Option ef:=jM (aC ((K6 a).run) fun (c,m) =>
  aC ((Ci b).run) fun d =>
  aC ((Cj c d).run) fun (e,f,g,h) =>
  aC ((Ck e f g h).run) fun (i,j,k,l) =>
  (Xe i j k l).run)
theorem abv(c:Int)(a:Int){x:ef}(h:md c a=some x) :ay prog DZ [] [.int .i64 c,.int .i64 a] (Fx x) :=
  kf true Fx NF h (Sg.cut 3 wd (bj mn (abq a) [⟨[],[0],[0,1,4]⟩,⟨[],[0],[0,1,4]⟩]) (fun ⟨d,b⟩=>Sg.cut 2 wd (bj mn (abr d b) [⟨[],[0],[0,1,4]⟩,⟨[],[0],[0,1,4]⟩]) (fun j=>Sg.cut 1 wd (bj mn (abt b) [⟨[],[0,81],[4,5]⟩]) (fun ⟨k,l,m,n⟩=>Sg.cut 1 wd (bj mn (abu b) [⟨[],[0,114],[4,6]⟩]) (fun ⟨o,p,q,r⟩=>bj mn _ [⟨[],[0],[4]⟩])))))
    (fun x=>by cases x with | r0 e f g i=>exact jN [.agg [.bool false e,.imm .free (.ns .u64 f) 1 1 0 g,.int .i64 i]])
def we:Option ef→Bool
  | some _=>true
  | none=>false
def xL:Option ef→Bool
  | some (.r0 x _ _ _)=>x
  | _=>false
def xM:Option ef→List Int
  | some (.r0 _ x _ _)=>x
  | _=>[]
def xN:Option ef→Nat
  | some (.r0 _ _ x _)=>x
  | _=>0
def xO:Option ef→Int
  | some (.r0 _ _ _ x)=>x
  | _=>0
theorem abw{x:Option ef}(h:we x=true) :x=some (.r0 (xL x) (xM x) (xN x) (xO x)):=by
  unfold we at h
  split at h<;>first | rfl | (cases h;done) | (rename_i y;cases y;rfl)
def NG:aM:=bK DZ (.cons (.int .i64) (.cons (.int .i64) .nil)) fun t=>(fun q=>[⟨Fx (.r0 (xL q) (xM q) (xN q) (xO q)),[we q]⟩]) (md t.1 t.2.1)
theorem T5:aY prog NG:=aR fun t=>(aS (fun h=>abv t.1 t.2.1 (abw h)) bc)
def NH:List aM:=NG::NE
theorem gK:be prog (bh NH):=ax T5 mn
inductive cB where
  | r0 (a:Nat) (b:Int) (c:Int) (d:Nat) (e:Nat) (f:List Nat)
def td:cB→AE×aQ
  | .r0 a b c d e f=>(.ret,⟨an 45 [(2,.ptr 0 1 0 0),(3,.int .i64 ((a:Nat):Int))],[(0,.vs [.int .i64 b,.int .i64 c,.sl 1 1 1 0 d e]),(1,.fl f)],2⟩)
theorem iy:jJ td:=by intro x;cases x<;>(intro h;cases h)
theorem Cl(id:Nat) :mP id td:=by intro x;cases x<;>(intro h;cases h)
def Fy:cB→gM
  | .r0 a b c d f e=>⟨.tup [.agg [.int .i64 b,.int .i64 c,.imm .free (.fl e) 1 1 0 d],.int .i64 ((a:Nat):Int)],[]⟩
def Xf:List Code:=cN (oa yq)
def abx(b:Int)(c:Int)(d:Lv)(a:List Nat)(e:Bool) :aQ:=⟨an 45 [(1,.ptr 0 1 0 0),(2,.ptr 1 1 0 0),(10,.bool false e)],[(0,.vs [.int .i64 b,.int .i64 c,.imm d (.fl a) 1 1 0 (List.length a)]),(1,.vs [.int .i64 (0:Int),.int .i64 (0:Int),.nsl])],2⟩
def I7(b:Int)(c:Int)(a:List Nat) :T ((Bool)⊕(cB)) :=
  .ask (decide ((0:Int)<(1:Int)))
    (.need (fv (0:Int) 1)<|.need (aG 0 (List.length a) a)<|.need (eU (cu b c (ab 0 (List.length a) a)))<|.ask (dT (cu b c (ab 0 (List.length a) a)))
      (.leaf (.inl (!(!(decide ((0:Int)≥(0:Int)))))))
      (.need (di .i64 (1:Int))<|.ask (decide ((1:Int)<(1:Int)))
        (.fail)
        (.leaf (.inl (!(!(decide ((-1:Int)≥(0:Int)))))))))
    (.fail)
def aby(b:Int)(a:Int)(d:Lv)(c:List Nat)(_:Unit) :aQ:=⟨an 45 [(1,.ptr 0 1 0 0),(2,.ptr 1 1 0 0),(4,.ptr 2 1 0 0),(18,.int .i64 a),(19,.int .i64 (0:Int))],[(0,.vs [.int .i64 b,.int .i64 a,.imm d (.fl c) 1 1 0 (List.length c)]),(1,.vs [.int .i64 (0:Int),.int .i64 (0:Int),.nsl]),(2,.vs [.int .i64 a,.int .i64 b,.nsl])],3⟩
def Xg(a:Bool) :T ((Unit)⊕(cB)) :=
  .ask a
    (.leaf (.inr (.r0 2 (0:Int) (0:Int) 0 0 ([]:List Nat))))
    (.leaf (.inl ()))
def z5(b:Int)(a:Int)(d:Lv)(c:List Nat) :Nat×Nat×Nat×(List Nat)→aQ:=fun (e,f,g,h)=>⟨an 45 [(1,.ptr 0 1 0 0),(2,.ptr 1 1 0 0),(4,.ptr 2 1 0 0),(18,.int .i64 a),(19,.int .i64 ((e:Nat):Int))],[(0,.vs [.int .i64 b,.int .i64 a,.imm d (.fl c) 1 1 0 (List.length c)]),(1,.vs [.int .i64 (0:Int),.int .i64 (0:Int),.nsl]),(2,.vs [.int .i64 a,.int .i64 b,.sl 3 1 1 0 f g]),(3,.fl h)],4⟩
def z6(a:Int)(b:Int) :Nat×Nat×(List Nat)→aQ:=fun (c,d,e)=>⟨an 45 [(2,.ptr 0 1 0 0),(4,.ptr 1 1 0 0)],[(0,.vs [.int .i64 (0:Int),.int .i64 (0:Int),.nsl]),(1,.vs [.int .i64 b,.int .i64 a,.sl 2 1 1 0 c d]),(2,.fl e)],3⟩
def I8:List Code:=cN (dn (((((Xf.drop 2).drop 3).take 1)).headD .skip))
def Xh(b:Int)(a:Int)(d:Lv)(c:List Nat)(e:Nat)(f:Nat)(g:Nat)(h:List Nat)(_:Unit) :aQ:=⟨an 45 [(1,.ptr 0 1 0 0),(2,.ptr 1 1 0 0),(4,.ptr 2 1 0 0),(18,.int .i64 a),(19,.int .i64 ((e:Nat):Int))],[(0,.vs [.int .i64 b,.int .i64 a,.imm d (.fl c) 1 1 0 (List.length c)]),(1,.vs [.int .i64 (0:Int),.int .i64 (0:Int),.nsl]),(2,.vs [.int .i64 a,.int .i64 b,.sl 3 1 1 0 f g]),(3,.fl h)],4⟩
def z7(a:Int)(b:Nat)(c:Nat)(d:Nat)(e:List Nat) :T ((Unit)⊕((Nat×Nat×(List Nat))⊕(cB))) :=
  .ask (decide (((b:Nat):Int)<a))
    (.leaf (.inl ()))
    (.leaf (.inr (.inl (c,d,e))))
def I9(b:Int)(a:Int)(d:Lv)(c:List Nat)(e:Nat) :Nat×Nat×(List Nat)→aQ:=fun (f,g,h)=>⟨an 45 [(1,.ptr 0 1 0 0),(2,.ptr 1 1 0 0),(4,.ptr 2 1 0 0),(18,.int .i64 a),(19,.int .i64 ((e:Nat):Int))],[(0,.vs [.int .i64 b,.int .i64 a,.imm d (.fl c) 1 1 0 (List.length c)]),(1,.vs [.int .i64 (0:Int),.int .i64 (0:Int),.nsl]),(2,.vs [.int .i64 a,.int .i64 b,.sl 3 1 1 0 f g]),(3,.fl h)],4⟩
def Xi:List Code:=cN (inBlock ((((I8.drop 2).take 1)).headD .skip))
def Xj(a:Int)(b:Int)(e:Lv)(c:List Nat)(d:Nat)(f:Nat)(g:Nat)(h:List Nat)(_:Unit) :aQ:=⟨an 45 [(1,.ptr 0 1 0 0),(2,.ptr 1 1 0 0),(4,.ptr 2 1 0 0),(5,.int .i64 ((d:Nat):Int)),(18,.int .i64 b),(19,.int .i64 ((d:Nat):Int)),(23,.int .i64 a),(24,.int .i64 (0:Int))],[(0,.vs [.int .i64 a,.int .i64 b,.imm e (.fl c) 1 1 0 (List.length c)]),(1,.vs [.int .i64 (0:Int),.int .i64 (0:Int),.nsl]),(2,.vs [.int .i64 b,.int .i64 a,.sl 3 1 1 0 f g]),(3,.fl h)],4⟩
def Xk:T ((Unit)⊕((Nat×Nat×(List Nat))⊕((Nat×Nat×(List Nat))⊕(cB)))) :=
  .leaf (.inl ())
def z8(a:Int)(b:Int)(e:Lv)(c:List Nat)(d:Nat) :Nat×Nat×Nat×(List Nat)→aQ:=fun (f,g,h,i)=>⟨an 45 [(1,.ptr 0 1 0 0),(2,.ptr 1 1 0 0),(4,.ptr 2 1 0 0),(5,.int .i64 ((d:Nat):Int)),(18,.int .i64 b),(19,.int .i64 ((d:Nat):Int)),(23,.int .i64 a),(24,.int .i64 ((f:Nat):Int))],[(0,.vs [.int .i64 a,.int .i64 b,.imm e (.fl c) 1 1 0 (List.length c)]),(1,.vs [.int .i64 (0:Int),.int .i64 (0:Int),.nsl]),(2,.vs [.int .i64 b,.int .i64 a,.sl 3 1 1 0 g h]),(3,.fl i)],4⟩
def Ja(b:Int)(a:Int)(d:Lv)(c:List Nat)(e:Nat) :Nat×Nat×(List Nat)→aQ:=fun (f,g,h)=>⟨an 45 [(1,.ptr 0 1 0 0),(2,.ptr 1 1 0 0),(4,.ptr 2 1 0 0),(18,.int .i64 a),(19,.int .i64 ((e:Nat):Int))],[(0,.vs [.int .i64 b,.int .i64 a,.imm d (.fl c) 1 1 0 (List.length c)]),(1,.vs [.int .i64 (0:Int),.int .i64 (0:Int),.nsl]),(2,.vs [.int .i64 a,.int .i64 b,.sl 3 1 1 0 f g]),(3,.fl h)],4⟩
def Xl:List Code:=cN (dn ((((Xi.drop 2).take 1)).headD .skip))
def z9(g:Int)(c:Int)(e:List Nat)(d:Nat)(a:Nat)(b:Nat)(h:Nat)(f:List Nat) :T ((Nat×Nat×Nat×(List Nat))⊕((Nat×Nat×(List Nat))⊕((Nat×Nat×(List Nat))⊕((Nat×Nat×(List Nat))⊕(cB))))) :=
  .ask (decide (((a:Nat):Int)<g))
    (.need (di .i64 (((a:Nat):Int)*c))<|.need (di .i64 ((((a:Nat):Int)*c)+((d:Nat):Int)))<|.need (fv ((((a:Nat):Int)*c)+((d:Nat):Int)) (List.length e))<|.need (g9 (Int.toNat ((((a:Nat):Int)*c)+((d:Nat):Int))) (List.length e))<|.need (qt ((b+1)*8) 140737488355328)<|.need (qt (b+1) 9223372036854775807)<|.need (qt 1 (List.length [(List.getD e (Int.toNat ((((a:Nat):Int)*c)+((d:Nat):Int))) 0)]))<|.need (qt b (List.length f))<|.need (di .i64 (((a+1):Nat):Int))<|.leaf (.inl ((a+1),(b+1),(b+1),((List.take b f)++(List.take 1 [(List.getD e (Int.toNat ((((a:Nat):Int)*c)+((d:Nat):Int))) 0)])))))
    (.leaf (.inr (.inl (b,h,f))))
def Aa(a:Int)(b:Int)(c:List Nat)(d:Nat) :Nat×Nat×Nat×(List Nat)→Option ((Nat×Nat×Nat×(List Nat))⊕((Nat×Nat×(List Nat))⊕((Nat×Nat×(List Nat))⊕((Nat×Nat×(List Nat))⊕(cB))))):=fun (e,f,g,h) =>
  (z9 a b c d e f g h).run
theorem Xm(a:Int)(b:Int)(e:Lv)(c:List Nat)(d:Nat)(f:Nat)(g:Nat)(h:Nat)(i:List Nat) :Sg prog [] Xl (z8 a b e c d (f,g,h,i)) (Aa a b c d (f,g,h,i)) (z8 a b e c d) (cy 2 (Ja a b e c d) (cy 1 (I9 a b e c d) (cy 0 (z6 a b) td))):=by
  unfold Aa;exact bj gK _ [⟨[],[0,1,2,260],[1,2,4,5,18,19,23,24]⟩,⟨[],[0,1,2,3],[1,2,4,18,19]⟩]
def Xn(a:Nat)(b:Nat)(c:List Nat) :T ((Nat×Nat×(List Nat))⊕((Nat×Nat×(List Nat))⊕((Nat×Nat×(List Nat))⊕(cB)))) :=
  .leaf (.inl (a,b,c))
def Xo(a:Nat)(b:Nat)(c:Nat)(d:List Nat) :T ((Nat×Nat×Nat×(List Nat))⊕((Nat×Nat×(List Nat))⊕(cB))) :=
  .need (di .i64 (((a+1):Nat):Int))<|.leaf (.inl ((a+1),b,c,d))
def Ab(f:Int)(b:Int)(g:List Nat) :Nat×Nat×Nat×(List Nat)→Option ((Nat×Nat×Nat×(List Nat))⊕((Nat×Nat×(List Nat))⊕(cB))):=fun (a,c,d,e) =>
  aC ((z7 b a c d e).run) fun _ =>
  aC (Di (aC ((Xk).run) fun _ =>
  aC (dh (Aa f b g a) (0,c,d,e)) fun (h,i,j) =>
  (Xn h i j).run)) fun (k,l,m) =>
  (Xo a k l m).run
theorem Xp(a:Int)(b:Int)(d:Lv)(c:List Nat)(e:Nat)(f:Nat)(g:Nat)(h:List Nat) :Sg prog [] I8 (z5 a b d c (e,f,g,h)) (Ab a b c (e,f,g,h)) (z5 a b d c) (cy 0 (z6 a b) td):=by
  unfold Ab;exact Sg.cut 2 (az iy) (bj gK (Xh a b d c e f g h) [⟨[],[0,1,2,3],[1,2,4,18,19]⟩,⟨[],[1,2,3],[2,4]⟩]) (fun _=>Sg.cut 1 (az iy) (sgb (I9 a b d c e) 1 (az iy) (cD (by decide) (Cl _)) (Sg.cut 2 (az (az iy)) (bj gK (Xj a b d c e f g h) [⟨[],[0,1,2,3],[1,2,4,5,18,19,23,24]⟩]) (fun _=>Sg.cut 1 (az (az iy)) (AD ⟨[],[0,1,2,3],[1,2,4,5,18,19,23,24]⟩ (z8 a b d c e) (Ja a b d c e) 2 (az (az iy)) (cD (by decide) (cD (by decide) (Cl _))) (fun ⟨i,j,k,l⟩=>Xm a b d c e i j k l)) (fun ⟨m,n,o⟩=>bj gK _ [⟨[],[0,1,2,3],[1,2,4,18,19]⟩])))) (fun ⟨p,q,r⟩=>bj gK _ [⟨[],[0,1,2,3],[1,2,4,18,19]⟩]))
def Xq(a:Int)(b:Int)(c:Nat)(d:Nat)(e:List Nat) :T ((Empty)⊕(cB)) :=
  .leaf (.inr (.r0 0 b a c d e))
def me(a:Int)(b:Int)(c:List Nat) :Option cB:=jM (aC ((I7 a b c).run) fun d =>
  aC ((Xg d).run) fun _ =>
  aC (dh (Ab a b c) (0,0,0,([]:List Nat))) fun (e,f,g) =>
  (Xq a b e f g).run)
theorem abz(a:Int)(b:Int)(d:Lv)(c:List Nat){x:cB}(h:me a b c=some x) :ay prog yq [] [.agg [.int .i64 a,.int .i64 b,.imm d (.fl c) 1 1 0 (List.length c)]] (Fy x) :=
  kf true Fy td h (Sg.cut 2 iy (bj gK (abx a b d c) [⟨[],[0,16],[1,2,10]⟩,⟨[],[0,16],[1,2,10]⟩]) (fun o=>Sg.cut 3 iy (bj gK (aby a b d c) [⟨[(.cell 1 2,.own 1 1 (.fl ([]:List Nat)))],[1,50],[2,3]⟩,⟨[],[0,1,82],[1,2,4,18,19]⟩]) (fun _=>Sg.cut 1 iy (AD ⟨[(.cell 2 2,.own 1 1 (.fl ([]:List Nat)))],[0,1,2,3],[1,2,4,18,19]⟩ (z5 a b d c) (z6 a b) 0 iy (Cl _) (fun ⟨e,f,g,i⟩=>Xp a b d c e f g i)) (fun ⟨p,q,r⟩=>bj gK _ [⟨[],[0,2],[2,3]⟩]))))
    (fun x=>by cases x with | r0 j k l m n s=>exact jN [.agg [.int .i64 k,.int .i64 l,.sl 1 1 1 0 m n],.int .i64 ((j:Nat):Int)])
def wg:Option cB→Bool
  | some _=>true
  | none=>false
def Gc:Option cB→Nat
  | some (.r0 x _ _ _ _ _)=>x
  | _=>0
def xP:Option cB→Int
  | some (.r0 _ x _ _ _ _)=>x
  | _=>0
def xQ:Option cB→Int
  | some (.r0 _ _ x _ _ _)=>x
  | _=>0
def xR:Option cB→Nat
  | some (.r0 _ _ _ x _ _)=>x
  | _=>0
def Gd:Option cB→Nat
  | some (.r0 _ _ _ _ x _)=>x
  | _=>0
def xS:Option cB→List Nat
  | some (.r0 _ _ _ _ _ x)=>x
  | _=>[]
theorem abA{x:Option cB}(h:wg x=true) :x=some (.r0 (Gc x) (xP x) (xQ x) (xR x) (Gd x) (xS x)):=by
  unfold wg at h
  split at h<;>first | rfl | (cases h;done) | (rename_i y;cases y;rfl)
def NI:aM:=bK yq (.cons (.agg (.cons (.int .i64) (.cons (.int .i64) (.cons .fl .nil)))) .nil) fun t=>(fun q=>[⟨Fy (.r0 (Gc q) (xP q) (xQ q) (xR q) (Gd q) (xS q)),[wg q]⟩]) (me t.1.1 t.1.2.1 t.1.2.2.1.2)
theorem T6:aY prog NI:=aR fun t=>(aS (fun h=>abz t.1.1 t.1.2.1 t.1.2.2.1.1 t.1.2.2.1.2 (abA h)) bc)
def NJ:List aM:=NI::NH
theorem xT:be prog (bh NJ):=ax T6 gK
inductive nW where
  | r0 (a:Bool)
def Wc:nW→AE×aQ
  | .r0 a=>(.ret,⟨an 32 [(2,.bool false a)],[],0⟩)
theorem ale:jJ Wc:=by intro x;cases x<;>(intro h;cases h)
def K7:nW→gM
  | .r0 a=>⟨.bool false a,[]⟩
def alf(a:Bool) :aQ:=⟨an 32 [(2,.bool false a)],[],0⟩
def Sk(a:Int)(b:Int)(c:List Nat) :T ((Bool)⊕(nW)) :=
  .ask (decide (a≥(0:Int)))
    (.ask (decide (a≤(512:Int)))
      (.ask (decide (b≥(0:Int)))
        (.ask (decide (b≤(512:Int)))
          (.need (di .i64 (a*b))<|.leaf (.inl ((((List.length c):Nat):Int)==(a*b))))
          (.leaf (.inl false)))
        (.leaf (.inl false)))
      (.leaf (.inl false)))
    (.leaf (.inl false))
def alg(a:Bool) :T ((Empty)⊕(nW)) :=
  .leaf (.inr (.r0 a))
def nX(a:Int)(b:Int)(c:List Nat) :Option nW:=jM (aC ((Sk a b c).run) fun d =>
  (alg d).run)
theorem alh(b:Int)(c:Int)(d:Lv)(a:List Nat){x:nW}(h:nX b c a=some x) :ay prog UV [] [.agg [.int .i64 b,.int .i64 c,.imm d (.fl a) 1 1 0 (List.length a)]] (K7 x) :=
  kf false K7 Wc h (Sg.cut 2 ale (bj xT alf [⟨[],[],[2]⟩,⟨[],[],[2]⟩,⟨[],[],[2]⟩,⟨[],[],[2]⟩,⟨[],[],[2]⟩]) (fun f=>bj xT _ [⟨[],[],[2]⟩]))
    (fun x=>by cases x with | r0 e=>exact jN [.bool false e])
def rP:Option nW→Bool
  | some _=>true
  | none=>false
def ri:Option nW→Bool
  | some (.r0 x)=>x
  | _=>false
theorem ali{x:Option nW}(h:rP x=true) :x=some (.r0 (ri x)):=by
  unfold rP at h
  split at h<;>first | rfl | (cases h;done) | (rename_i y;cases y;rfl)
def We:aM:=bK UV (.cons (.agg (.cons (.int .i64) (.cons (.int .i64) (.cons .fl .nil)))) .nil) fun t=>(fun q=>[⟨K7 (.r0 (ri q)),[rP q]⟩]) (nX t.1.1 t.1.2.1 t.1.2.2.1.2)
theorem abB:aY prog We:=aR fun t=>(aS (fun h=>alh t.1.1 t.1.2.1 t.1.2.2.1.1 t.1.2.2.1.2 (ali h)) bc)
def Wf:List aM:=We::NJ
theorem k6:be prog (bh Wf):=ax abB xT
inductive cS where
  | r0 (a:Int) (b:Int) (c:Nat) (d:List Nat)
def rj:cS→AE×aQ
  | .r0 b c a d=>(.ret,⟨an 47 [(2,.ptr 0 1 0 0)],[(0,.vs [.int .i64 b,.int .i64 c,.sl 1 1 1 0 a a]),(1,.fl d)],2⟩)
theorem iL:jJ rj:=by intro x;cases x<;>(intro h;cases h)
theorem Ac(id:Nat) :mP id rj:=by intro x;cases x<;>(intro h;cases h)
def Cm:cS→gM
  | .r0 a b c d=>⟨.agg [.int .i64 a,.int .i64 b,.imm .free (.fl d) 1 1 0 c],[]⟩
def T7:List Code:=cN (oa vi)
def Xr(b:Int)(c:Int)(d:Lv)(a:List Nat)(e:(List Nat)) :aQ:=⟨an 47 [(1,.ptr 0 1 0 0),(2,.ptr 1 1 0 0),(3,.ptr 2 1 0 0),(4,.int .i64 (0:Int))],[(0,.vs [.int .i64 b,.int .i64 c,.imm d (.fl a) 1 1 0 (List.length a)]),(1,.vs [.int .i64 (0:Int),.int .i64 (0:Int),.nsl]),(2,.vs [.int .i64 c,.int .i64 b,.sl 3 1 1 0 (List.length a) (List.length a)]),(3,.fl e)],4⟩
def Ge(a:List Nat) :T (((List Nat))⊕(cS)) :=
  .need (decide ((0:Int)≤(((List.length a):Nat):Int)))<|.need (decide ((((List.length a):Nat):Int)≤(((List.length a):Nat):Int)))<|.need (decide ((8:Int)*(((List.length a):Nat):Int)≤140737488355328))<|.need (di .i64 (((List.length a):Nat):Int))<|.leaf (.inl (List.replicate (List.length a) 0))
def xU(b:Int)(c:Int)(d:Lv)(a:List Nat) :Nat×(List Nat)→aQ:=fun (e,f)=>⟨an 47 [(1,.ptr 0 1 0 0),(2,.ptr 1 1 0 0),(3,.ptr 2 1 0 0),(4,.int .i64 ((e:Nat):Int))],[(0,.vs [.int .i64 b,.int .i64 c,.imm d (.fl a) 1 1 0 (List.length a)]),(1,.vs [.int .i64 (0:Int),.int .i64 (0:Int),.nsl]),(2,.vs [.int .i64 c,.int .i64 b,.sl 3 1 1 0 (List.length a) (List.length a)]),(3,.fl f)],4⟩
def xV(b:Int)(c:Int)(a:List Nat)(d:(List Nat)) :aQ:=⟨an 47 [(2,.ptr 0 1 0 0),(3,.ptr 1 1 0 0)],[(0,.vs [.int .i64 (0:Int),.int .i64 (0:Int),.nsl]),(1,.vs [.int .i64 c,.int .i64 b,.sl 2 1 1 0 (List.length a) (List.length a)]),(2,.fl d)],3⟩
def Gf:List Code:=cN (dn ((((T7.drop 3).take 1)).headD .skip))
def T8(b:Int)(c:Int)(d:Lv)(a:List Nat)(e:Nat)(f:List Nat)(_:Unit) :aQ:=⟨an 47 [(1,.ptr 0 1 0 0),(2,.ptr 1 1 0 0),(3,.ptr 2 1 0 0),(4,.int .i64 ((e:Nat):Int))],[(0,.vs [.int .i64 b,.int .i64 c,.imm d (.fl a) 1 1 0 (List.length a)]),(1,.vs [.int .i64 (0:Int),.int .i64 (0:Int),.nsl]),(2,.vs [.int .i64 c,.int .i64 b,.sl 3 1 1 0 (List.length a) (List.length a)]),(3,.fl f)],4⟩
def xW(a:Int)(b:Nat)(c:List Nat) :T ((Unit)⊕(((List Nat))⊕(cS))) :=
  .ask (decide (((b:Nat):Int)<a))
    (.leaf (.inl ()))
    (.leaf (.inr (.inl c)))
def Gg(b:Int)(c:Int)(d:Lv)(a:List Nat)(e:Nat)(f:(List Nat)) :aQ:=⟨an 47 [(1,.ptr 0 1 0 0),(2,.ptr 1 1 0 0),(3,.ptr 2 1 0 0),(4,.int .i64 ((e:Nat):Int))],[(0,.vs [.int .i64 b,.int .i64 c,.imm d (.fl a) 1 1 0 (List.length a)]),(1,.vs [.int .i64 (0:Int),.int .i64 (0:Int),.nsl]),(2,.vs [.int .i64 c,.int .i64 b,.sl 3 1 1 0 (List.length a) (List.length a)]),(3,.fl f)],4⟩
def T9:List Code:=cN (inBlock ((((Gf.drop 2).take 1)).headD .skip))
def Ua(b:Int)(c:Int)(d:Lv)(a:List Nat)(e:Nat)(f:List Nat)(_:Unit) :aQ:=⟨an 47 [(1,.ptr 0 1 0 0),(2,.ptr 1 1 0 0),(3,.ptr 2 1 0 0),(4,.int .i64 ((e:Nat):Int)),(5,.int .i64 (0:Int))],[(0,.vs [.int .i64 b,.int .i64 c,.imm d (.fl a) 1 1 0 (List.length a)]),(1,.vs [.int .i64 (0:Int),.int .i64 (0:Int),.nsl]),(2,.vs [.int .i64 c,.int .i64 b,.sl 3 1 1 0 (List.length a) (List.length a)]),(3,.fl f)],4⟩
def Ub:T ((Unit)⊕(((List Nat))⊕(((List Nat))⊕(cS)))) :=
  .leaf (.inl ())
def xX(b:Int)(c:Int)(d:Lv)(a:List Nat)(e:Nat) :Nat×(List Nat)→aQ:=fun (f,g)=>⟨an 47 [(1,.ptr 0 1 0 0),(2,.ptr 1 1 0 0),(3,.ptr 2 1 0 0),(4,.int .i64 ((e:Nat):Int)),(5,.int .i64 ((f:Nat):Int))],[(0,.vs [.int .i64 b,.int .i64 c,.imm d (.fl a) 1 1 0 (List.length a)]),(1,.vs [.int .i64 (0:Int),.int .i64 (0:Int),.nsl]),(2,.vs [.int .i64 c,.int .i64 b,.sl 3 1 1 0 (List.length a) (List.length a)]),(3,.fl g)],4⟩
def Gh(b:Int)(c:Int)(d:Lv)(a:List Nat)(e:Nat)(f:(List Nat)) :aQ:=⟨an 47 [(1,.ptr 0 1 0 0),(2,.ptr 1 1 0 0),(3,.ptr 2 1 0 0),(4,.int .i64 ((e:Nat):Int))],[(0,.vs [.int .i64 b,.int .i64 c,.imm d (.fl a) 1 1 0 (List.length a)]),(1,.vs [.int .i64 (0:Int),.int .i64 (0:Int),.nsl]),(2,.vs [.int .i64 c,.int .i64 b,.sl 3 1 1 0 (List.length a) (List.length a)]),(3,.fl f)],4⟩
def Uc:List Code:=cN (dn ((((T9.drop 1).take 1)).headD .skip))
def xY(d:Int)(c:Int)(e:List Nat)(b:Nat)(a:Nat)(f:List Nat) :T ((Nat×(List Nat))⊕(((List Nat))⊕(((List Nat))⊕(((List Nat))⊕(cS))))) :=
  .ask (decide (((a:Nat):Int)<c))
    (.need (di .i64 (((a:Nat):Int)*d))<|.need (di .i64 ((((a:Nat):Int)*d)+((b:Nat):Int)))<|.need (di .i64 (((b:Nat):Int)*c))<|.need (di .i64 ((((b:Nat):Int)*c)+((a:Nat):Int)))<|.need (fv ((((b:Nat):Int)*c)+((a:Nat):Int)) (List.length e))<|.need (g9 (Int.toNat ((((b:Nat):Int)*c)+((a:Nat):Int))) (List.length e))<|.need (fv ((((a:Nat):Int)*d)+((b:Nat):Int)) (List.length e))<|.need (g9 (Int.toNat ((((a:Nat):Int)*d)+((b:Nat):Int))) (List.length f))<|.need (di .i64 (((a+1):Nat):Int))<|.leaf (.inl ((a+1),(List.set f (Int.toNat ((((a:Nat):Int)*d)+((b:Nat):Int))) (List.getD e (Int.toNat ((((b:Nat):Int)*c)+((a:Nat):Int))) 0)))))
    (.leaf (.inr (.inl f)))
def xZ(a:Int)(b:Int)(c:List Nat)(d:Nat) :Nat×(List Nat)→Option ((Nat×(List Nat))⊕(((List Nat))⊕(((List Nat))⊕(((List Nat))⊕(cS))))):=fun (e,f) =>
  (xY a b c d e f).run
theorem Ud(a:Int)(b:Int)(e:Lv)(c:List Nat)(d:Nat)(f:Nat)(g:List Nat) :Sg prog [] Uc (xX a b e c d (f,g)) (xZ a b c d (f,g)) (xX a b e c d) (cy 2 (Gh a b e c d) (cy 1 (Gg a b e c d) (cy 0 (xV a b c) rj))):=by
  unfold xZ;exact bj k6 _ [⟨[],[0,1,2,3],[1,2,3,4,5]⟩,⟨[],[0,1,2,3],[1,2,3,4]⟩]
def Ue(a:List Nat) :T (((List Nat))⊕(((List Nat))⊕(((List Nat))⊕(cS)))) :=
  .leaf (.inl a)
def Uf(a:Nat)(b:List Nat) :T ((Nat×(List Nat))⊕(((List Nat))⊕(cS))) :=
  .need (di .i64 (((a+1):Nat):Int))<|.leaf (.inl ((a+1),b))
def x5(b:Int)(d:Int)(e:List Nat) :Nat×(List Nat)→Option ((Nat×(List Nat))⊕(((List Nat))⊕(cS))):=fun (a,c) =>
  aC ((xW b a c).run) fun _ =>
  aC (Di (aC ((Ub).run) fun _ =>
  aC (dh (xZ b d e a) (0,c)) fun f =>
  (Ue f).run)) fun g =>
  (Uf a g).run
theorem Ug(a:Int)(b:Int)(d:Lv)(c:List Nat)(e:Nat)(f:List Nat) :Sg prog [] Gf (xU a b d c (e,f)) (x5 a b c (e,f)) (xU a b d c) (cy 0 (xV a b c) rj):=by
  unfold x5;exact Sg.cut 2 (az iL) (bj k6 (T8 a b d c e f) [⟨[],[0,1,2,3],[1,2,3,4]⟩,⟨[],[1,2,3],[2,3]⟩]) (fun _=>Sg.cut 1 (az iL) (sgb (Gg a b d c e) 1 (az iL) (cD (by decide) (Ac _)) (Sg.cut 1 (az (az iL)) (bj k6 (Ua a b d c e f) [⟨[],[0,1,2,3],[1,2,3,4,5]⟩]) (fun _=>Sg.cut 1 (az (az iL)) (AD ⟨[],[0,1,2,3],[1,2,3,4,5]⟩ (xX a b d c e) (Gh a b d c e) 2 (az (az iL)) (cD (by decide) (cD (by decide) (Ac _))) (fun ⟨g,h⟩=>Ud a b d c e g h)) (fun i=>bj k6 _ [⟨[],[0,1,2,3],[1,2,3,4]⟩])))) (fun j=>bj k6 _ [⟨[],[0,1,2,3],[1,2,3,4]⟩]))
def Uh(a:Int)(b:Int)(c:List Nat)(d:List Nat) :T ((Empty)⊕(cS)) :=
  .leaf (.inr (.r0 b a (List.length c) d))
def bi(b:Int)(c:Int)(a:List Nat) :Option cS:=jM (aC ((Ge a).run) fun d =>
  aC (dh (x5 b c a) (0,d)) fun e =>
  (Uh b c a e).run)
theorem Xs(b:Int)(c:Int)(d:Lv)(a:List Nat){x:cS}(h:bi b c a=some x) :ay prog vi [] [.agg [.int .i64 b,.int .i64 c,.imm d (.fl a) 1 1 0 (List.length a)]] (Cm x) :=
  kf true Cm rj h (Sg.cut 3 iL (bj k6 (Xr b c d a) [⟨[],[0,16,176,144],[1,2,3,4]⟩]) (fun k=>Sg.cut 1 iL (AD ⟨[],[0,1,2,3],[1,2,3,4]⟩ (xU b c d a) (xV b c a) 0 iL (Ac _) (fun ⟨f,g⟩=>Ug b c d a f g)) (fun l=>bj k6 _ [⟨[],[0,2],[2]⟩])))
    (fun x=>by cases x with | r0 i j e m=>exact jN [.agg [.int .i64 i,.int .i64 j,.sl 1 1 1 0 e e]])
def pV:Option cS→Bool
  | some _=>true
  | none=>false
def wh:Option cS→Int
  | some (.r0 x _ _ _)=>x
  | _=>0
def db:Option cS→Int
  | some (.r0 _ x _ _)=>x
  | _=>0
def cT:Option cS→Nat
  | some (.r0 _ _ x _)=>x
  | _=>0
def cU:Option cS→List Nat
  | some (.r0 _ _ _ x)=>x
  | _=>[]
theorem Xt{x:Option cS}(h:pV x=true) :x=some (.r0 (wh x) (db x) (cT x) (cU x)):=by
  unfold pV at h
  split at h<;>first | rfl | (cases h;done) | (rename_i y;cases y;rfl)
def K8:aM:=bK vi (.cons (.agg (.cons (.int .i64) (.cons (.int .i64) (.cons .fl .nil)))) .nil) fun t=>(fun q=>[⟨Cm (.r0 (wh q) (db q) (cT q) (cU q)),[pV q]⟩]) (bi t.1.1 t.1.2.1 t.1.2.2.1.2)
theorem Sl:aY prog K8:=aR fun t=>(aS (fun h=>Xs t.1.1 t.1.2.1 t.1.2.2.1.1 t.1.2.2.1.2 (Xt h)) bc)
def K9:List aM:=K8::Wf
theorem DL:be prog (bh K9):=ax Sl k6
inductive mf where
  | r0 (a:Nat)
def afP:mf→AE×aQ
  | .r0 a=>(.ret,⟨an 18 [(2,.int .i64 ((a:Nat):Int))],[],0⟩)
def Fz:mf→gM
  | .r0 a=>⟨.int .i64 ((a:Nat):Int),[]⟩
def La(a:Int) :T ((Empty)⊕(mf)) :=
  .need (decide ((0:Int)≤(52:Int)))<|.ask ((fc .and .u64 (Int.fdiv a (2^(min (Int.toNat (52:Int)) (IntKind.u64.bits)))) (2047:Int))==(2047:Int))
    (.ask ((fc .and .u64 a (4503599627370495:Int))==(0:Int))
      (.leaf (.inr (.r0 4)))
      (.leaf (.inr (.r0 5))))
    (.ask (decide ((fc .and .u64 (Int.fdiv a (2^(min (Int.toNat (52:Int)) (IntKind.u64.bits)))) (2047:Int))>(0:Int)))
      (.leaf (.inr (.r0 3)))
      (.ask (decide ((fc .and .u64 a (4503599627370495:Int))>(0:Int)))
        (.leaf (.inr (.r0 2)))
        (.leaf (.inr (.r0 1)))))
def og(a:Int) :Option mf:=jM ((La a).run)
theorem abC(a:Int){x:mf}(h:og a=some x) :ay prog Mx [] [.int .u64 a] (Fz x) :=
  kf false Fz afP h (bj DL _ [⟨[],[],[2]⟩,⟨[],[],[2]⟩,⟨[],[],[2]⟩,⟨[],[],[2]⟩,⟨[],[],[2]⟩])
    (fun x=>by cases x with | r0 b=>exact jN [.int .i64 ((b:Nat):Int)])
def rl:Option mf→Bool
  | some _=>true
  | none=>false
def rQ:Option mf→Nat
  | some (.r0 x)=>x
  | _=>0
theorem abD{x:Option mf}(h:rl x=true) :x=some (.r0 (rQ x)):=by
  unfold rl at h
  split at h<;>first | rfl | (cases h;done) | (rename_i y;cases y;rfl)
def NK:aM:=bK Mx (.cons (.int .u64) .nil) fun t=>(fun q=>[⟨Fz (.r0 (rQ q)),[rl q]⟩]) (og t.1)
theorem Ui:aY prog NK:=aR fun t=>(aS (fun h=>abC t.1 (abD h)) bc)
def NL:List aM:=NK::K9
theorem mo:be prog (bh NL):=ax Ui DL
inductive eX where
  | r0 (a:Bool) (b:Int) (c:Int)
def NM:eX→AE×aQ
  | .r0 a b c=>(.ret,⟨an 27 [(2,.ptr 0 1 0 0)],[(0,.vs [.bool false a,.int .u64 b,.int .i64 c])],1⟩)
theorem wi:jJ NM:=by intro x;cases x<;>(intro h;cases h)
def FB:eX→gM
  | .r0 a b c=>⟨.agg [.bool false a,.int .u64 b,.int .i64 c],[]⟩
def abE(a:Int) :Bool×Bool×Bool×Int→aQ:=fun (b,c,d,e)=>⟨an 27 [(0,.int .u64 a),(2,.ptr 0 1 0 0),(3,.ptr 1 1 0 0),(11,.bool false b)],[(0,.vs [.bool false c,.int .u64 (0:Int),.int .i64 (0:Int)]),(1,.vs [.bool false d,.int .u64 e,.int .i64 (-1074:Int)])],2⟩
def Lb(a:Int) :T ((Bool×Bool×Bool×Int)⊕(eX)) :=
  .need (rl (og a))<|.leaf (.inl (((((rQ (og a)):Nat):Int)==(1:Int)),false,(decide (a≥(9223372036854775808:Int))),(fc .and .u64 a (4503599627370495:Int))))
def abF(a:Int)(b:Bool)(c:Bool)(d:Int)(e:Int) :aQ:=⟨an 27 [(0,.int .u64 a),(2,.ptr 0 1 0 0),(3,.ptr 1 1 0 0)],[(0,.vs [.bool false b,.int .u64 (0:Int),.int .i64 (0:Int)]),(1,.vs [.bool false c,.int .u64 d,.int .i64 e])],2⟩
def Cn(a:Bool) :T ((Int)⊕(eX)) :=
  .ask a
    (.leaf (.inl (0:Int)))
    (.leaf (.inl (-1074:Int)))
def abG(a:Int)(b:Bool)(c:Bool)(d:Int)(e:Int)(f:Bool) :aQ:=⟨an 27 [(0,.int .u64 a),(2,.ptr 0 1 0 0),(3,.ptr 1 1 0 0),(15,.bool false f)],[(0,.vs [.bool false b,.int .u64 (0:Int),.int .i64 (0:Int)]),(1,.vs [.bool false c,.int .u64 d,.int .i64 e])],2⟩
def Co(a:Int) :T ((Bool)⊕(eX)) :=
  .need (rl (og a))<|.leaf (.inl ((((rQ (og a)):Nat):Int)==(3:Int)))
def abH(a:Bool)(b:Bool) :Int×Int→aQ:=fun (c,d)=>⟨an 27 [(2,.ptr 0 1 0 0),(3,.ptr 1 1 0 0)],[(0,.vs [.bool false a,.int .u64 (0:Int),.int .i64 (0:Int)]),(1,.vs [.bool false b,.int .u64 c,.int .i64 d])],2⟩
def Cp(a:Int)(b:Int)(c:Int)(d:Bool) :T ((Int×Int)⊕(eX)) :=
  .ask d
    (.need (decide ((0:Int)≤(52:Int)))<|.need (di .i64 ((IntKind.i64.wrap (fc .and .u64 (Int.fdiv a (2^(min (Int.toNat (52:Int)) (IntKind.u64.bits)))) (2047:Int)))-(1075:Int)))<|.leaf (.inl ((IntKind.u64.wrap (b+(4503599627370496:Int))),((IntKind.i64.wrap (fc .and .u64 (Int.fdiv a (2^(min (Int.toNat (52:Int)) (IntKind.u64.bits)))) (2047:Int)))-(1075:Int)))))
    (.leaf (.inl (b,c)))
def Xu(a:Bool)(b:Int)(c:Int) :T ((Empty)⊕(eX)) :=
  .leaf (.inr (.r0 a b c))
def oh(a:Int) :Option eX:=jM (aC ((Lb a).run) fun (b,i,c,d) =>
  aC ((Cn b).run) fun e =>
  aC ((Co a).run) fun f =>
  aC ((Cp a d e f).run) fun (g,h) =>
  (Xu c g h).run)
theorem abI(a:Int){x:eX}(h:oh a=some x) :ay prog Mw [] [.int .u64 a] (FB x) :=
  kf false FB NM h (Sg.cut 3 wi (bj mo (abE a) [⟨[],[0,96],[0,2,3,11]⟩]) (fun ⟨j,b,c,d⟩=>Sg.cut 1 wi (bj mo (abF a b c d) [⟨[],[0,1],[0,2,3]⟩,⟨[],[0,1],[0,2,3]⟩]) (fun e=>Sg.cut 1 wi (bj mo (abG a b c d e) [⟨[],[0,1],[0,2,3,15]⟩]) (fun k=>Sg.cut 1 wi (bj mo (abH b c) [⟨[],[0,1],[2,3]⟩,⟨[],[0,1],[2,3]⟩]) (fun ⟨l,m⟩=>bj mo _ [⟨[],[0],[2]⟩])))))
    (fun x=>by cases x with | r0 f g i=>exact jN [.agg [.bool false f,.int .u64 g,.int .i64 i]])
def wj:Option eX→Bool
  | some _=>true
  | none=>false
def x6:Option eX→Bool
  | some (.r0 x _ _)=>x
  | _=>false
def x7:Option eX→Int
  | some (.r0 _ x _)=>x
  | _=>0
def x8:Option eX→Int
  | some (.r0 _ _ x)=>x
  | _=>0
theorem abJ{x:Option eX}(h:wj x=true) :x=some (.r0 (x6 x) (x7 x) (x8 x)):=by
  unfold wj at h
  split at h<;>first | rfl | (cases h;done) | (rename_i y;cases y;rfl)
def NN:aM:=bK Mw (.cons (.int .u64) .nil) fun t=>(fun q=>[⟨FB (.r0 (x6 q) (x7 q) (x8 q)),[wj q]⟩]) (oh t.1)
theorem Uj:aY prog NN:=aR fun t=>(aS (fun h=>abI t.1 (abJ h)) bc)
def NO:List aM:=NN::NL
theorem rR:be prog (bh NO):=ax Uj mo
inductive gL where
  | r0 (a:Bool) (b:List Int) (c:Nat) (d:Int)
def Sn:gL→AE×aQ
  | .r0 a b c d=>(.ret,⟨an 15 [(2,.ptr 0 1 0 0)],[(0,.vs [.bool false a,.imm .free (.ns .u64 b) 1 1 0 c,.int .i64 d])],1⟩)
theorem NP:jJ Sn:=by intro x;cases x<;>(intro h;cases h)
def It:gL→gM
  | .r0 a b c d=>⟨.agg [.bool false a,.imm .free (.ns .u64 b) 1 1 0 c,.int .i64 d],[]⟩
def afQ:Bool×Bool×Int×Int→aQ:=fun (a,b,c,d)=>⟨an 15 [(2,.ptr 0 1 0 0),(3,.ptr 1 1 0 0)],[(0,.vs [.bool false a,.nsl,.int .i64 (0:Int)]),(1,.vs [.bool false b,.int .u64 c,.int .i64 d])],2⟩
def NQ(a:Int) :T ((Bool×Bool×Int×Int)⊕(gL)) :=
  .need (wj (oh a))<|.leaf (.inl (false,(x6 (oh a)),(x7 (oh a)),(x8 (oh a))))
def afR:Bool×(List Int)×Nat×Int→aQ:=fun (a,b,c,d)=>⟨an 15 [(2,.ptr 0 1 0 0)],[(0,.vs [.bool false a,.imm .free (.ns .u64 b) 1 1 0 c,.int .i64 d])],1⟩
def FC(b:Bool)(a:Int)(c:Int) :T ((Bool×(List Int)×Nat×Int)⊕(gL)) :=
  .need (aG 0 1 [a])<|.need (fp (bd b (ab 0 1 [a]) c))<|.leaf (.inl ((eF (bd b (ab 0 1 [a]) c)),(eG (bd b (ab 0 1 [a]) c)),(eI (bd b (ab 0 1 [a]) c)),(eJ (bd b (ab 0 1 [a]) c))))
def afS(a:Bool)(b:List Int)(c:Nat)(d:Int) :T ((Empty)⊕(gL)) :=
  .leaf (.inr (.r0 a b c d))
def nY(a:Int) :Option gL:=jM (aC ((NQ a).run) fun (i,b,c,d) =>
  aC ((FC b c d).run) fun (e,f,g,h) =>
  (afS e f g h).run)
theorem afT(a:Int){x:gL}(h:nY a=some x) :ay prog G0 [] [.int .u64 a] (It x) :=
  kf true It Sn h (Sg.cut 2 NP (bj rR afQ [⟨[],[0,48],[2,3]⟩]) (fun ⟨f,g,i,j⟩=>Sg.cut 1 NP (bj rR afR [⟨[],[0],[2]⟩]) (fun ⟨k,l,m,n⟩=>bj rR _ [⟨[],[0],[2]⟩])))
    (fun x=>by cases x with | r0 b c d e=>exact jN [.agg [.bool false b,.imm .free (.ns .u64 c) 1 1 0 d,.int .i64 e]])
def yX:Option gL→Bool
  | some _=>true
  | none=>false
def Ad:Option gL→Bool
  | some (.r0 x _ _ _)=>x
  | _=>false
def Ae:Option gL→List Int
  | some (.r0 _ x _ _)=>x
  | _=>[]
def Af:Option gL→Nat
  | some (.r0 _ _ x _)=>x
  | _=>0
def Ag:Option gL→Int
  | some (.r0 _ _ _ x)=>x
  | _=>0
theorem afU{x:Option gL}(h:yX x=true) :x=some (.r0 (Ad x) (Ae x) (Af x) (Ag x)):=by
  unfold yX at h
  split at h<;>first | rfl | (cases h;done) | (rename_i y;cases y;rfl)
def So:aM:=bK G0 (.cons (.int .u64) .nil) fun t=>(fun q=>[⟨It (.r0 (Ad q) (Ae q) (Af q) (Ag q)),[yX q]⟩]) (nY t.1)
theorem Xv:aY prog So:=aR fun t=>(aS (fun h=>afT t.1 (afU h)) bc)
def Sp:List aM:=So::NO
theorem Ah:be prog (bh Sp):=ax Xv rR
inductive gv where
  | r0 (a:Bool) (b:List Int) (c:Nat) (d:Int)
def NR:gv→AE×aQ
  | .r0 a b c d=>(.ret,⟨an 6 [(2,.ptr 0 1 0 0)],[(0,.vs [.bool false a,.imm .free (.ns .u64 b) 1 1 0 c,.int .i64 d])],1⟩)
theorem abK:jJ NR:=by intro x;cases x<;>(intro h;cases h)
def FD:gv→gM
  | .r0 a b c d=>⟨.agg [.bool false a,.imm .free (.ns .u64 b) 1 1 0 c,.int .i64 d],[]⟩
def abL:Bool×(List Int)×Nat×Int→aQ:=fun (a,b,c,d)=>⟨an 6 [(2,.ptr 0 1 0 0)],[(0,.vs [.bool false a,.imm .free (.ns .u64 b) 1 1 0 c,.int .i64 d])],1⟩
def Lc(a:Nat) :T ((Bool×(List Int)×Nat×Int)⊕(gv)) :=
  .alt 0
    (.need (!isNaN a)<|.need (yX (nY ((a:Nat):Int)))<|.leaf (.inl ((Ad (nY ((a:Nat):Int))),(Ae (nY ((a:Nat):Int))),(Af (nY ((a:Nat):Int))),(Ag (nY ((a:Nat):Int))))))
    (.fail)
def abM(a:Bool)(b:List Int)(c:Nat)(d:Int) :T ((Empty)⊕(gv)) :=
  .leaf (.inr (.r0 a b c d))
def aa(a:Nat) :Option gv:=jM (aC ((Lc a).run) fun (b,c,d,e) =>
  (abM b c d e).run)
theorem abN(a:Nat){x:gv}(h:aa a=some x) :ay prog D1 [] [.flt false a] (FD x) :=
  kf true FD NR h (Sg.cut 2 abK (bj Ah abL [⟨[],[0],[2]⟩]) (fun ⟨f,g,i,j⟩=>bj Ah _ [⟨[],[0],[2]⟩]))
    (fun x=>by cases x with | r0 b c d e=>exact jN [.agg [.bool false b,.imm .free (.ns .u64 c) 1 1 0 d,.int .i64 e]])
def d4:Option gv→Bool
  | some _=>true
  | none=>false
def ag:Option gv→Bool
  | some (.r0 x _ _ _)=>x
  | _=>false
def ac:Option gv→List Int
  | some (.r0 _ x _ _)=>x
  | _=>[]
def ae:Option gv→Nat
  | some (.r0 _ _ x _)=>x
  | _=>0
def ah:Option gv→Int
  | some (.r0 _ _ _ x)=>x
  | _=>0
theorem abO{x:Option gv}(h:d4 x=true) :x=some (.r0 (ag x) (ac x) (ae x) (ah x)):=by
  unfold d4 at h
  split at h<;>first | rfl | (cases h;done) | (rename_i y;cases y;rfl)
def NT:aM:=bK D1 (.cons (.flt false) .nil) fun t=>(fun q=>[⟨FD (.r0 (ag q) (ac q) (ae q) (ah q)),[d4 q]⟩]) (aa t.1)
theorem Uk:aY prog NT:=aR fun t=>(aS (fun h=>abN t.1 (abO h)) bc)
def NU:List aM:=NT::Sp
theorem x9:be prog (bh NU):=ax Uk Ah
inductive jV where
  | r0 (a:Bool) (b:List Int) (c:Nat) (d:Int)
def Wg:jV→AE×aQ
  | .r0 a b c d=>(.ret,⟨an 14 [(4,.ptr 0 1 0 0)],[(0,.vs [.bool false a,.imm .free (.ns .u64 b) 1 1 0 c,.int .i64 d])],1⟩)
theorem alj:jJ Wg:=by intro x;cases x<;>(intro h;cases h)
def Ld:jV→gM
  | .r0 a b c d=>⟨.agg [.bool false a,.imm .free (.ns .u64 b) 1 1 0 c,.int .i64 d],[]⟩
def alk:Bool×Bool×(List Int)×Nat×Int→aQ:=fun (a,b,c,d,e)=>⟨an 14 [(4,.ptr 0 1 0 0),(5,.ptr 1 1 0 0)],[(0,.vs [.bool false a,.nsl,.int .i64 (0:Int)]),(1,.vs [.bool false b,.imm .free (.ns .u64 c) 1 1 0 d,.int .i64 e])],2⟩
def Sq(c:Bool)(a:List Int)(d:Int)(e:Bool)(b:List Int)(f:Int) :T ((Bool×Bool×(List Int)×Nat×Int)⊕(jV)) :=
  .need (aG 0 (List.length a) a)<|.need (aG 0 (List.length b) b)<|.need (vX (g6 c (ab 0 (List.length a) a) d e (ab 0 (List.length b) b) f))<|.leaf (.inl (false,(vY (g6 c (ab 0 (List.length a) a) d e (ab 0 (List.length b) b) f)),(vZ (g6 c (ab 0 (List.length a) a) d e (ab 0 (List.length b) b) f)),(v4 (g6 c (ab 0 (List.length a) a) d e (ab 0 (List.length b) b) f)),(v5 (g6 c (ab 0 (List.length a) a) d e (ab 0 (List.length b) b) f))))
def alm(a:Bool)(b:List Int)(c:Nat)(d:Int) :T ((Empty)⊕(jV)) :=
  .leaf (.inr (.r0 a b c d))
def bR(a:Bool)(b:List Int)(c:Int)(d:Bool)(e:List Int)(f:Int) :Option jV:=jM (aC ((Sq a b c d e f).run) fun (k,g,h,i,j) =>
  (alm g h i j).run)
theorem aln(c:Bool)(g:Lv)(a:List Int)(d:Int)(e:Bool)(i:Lv)(b:List Int)(f:Int){x:jV}(h:bR c a d e b f=some x) :ay prog JF [] [.agg [.bool false c,.imm g (.ns .u64 a) 1 1 0 (List.length a),.int .i64 d],.agg [.bool false e,.imm i (.ns .u64 b) 1 1 0 (List.length b),.int .i64 f]] (Ld x) :=
  kf true Ld Wg h (Sg.cut 2 alj (bj x9 alk [⟨[],[32,144],[4,5]⟩]) (fun ⟨n,o,p,q,r⟩=>bj x9 _ [⟨[],[0],[4]⟩]))
    (fun x=>by cases x with | r0 j k l m=>exact jN [.agg [.bool false j,.imm .free (.ns .u64 k) 1 1 0 l,.int .i64 m]])
def nZ:Option jV→Bool
  | some _=>true
  | none=>false
def mI:Option jV→Bool
  | some (.r0 x _ _ _)=>x
  | _=>false
def mJ:Option jV→List Int
  | some (.r0 _ x _ _)=>x
  | _=>[]
def mK:Option jV→Nat
  | some (.r0 _ _ x _)=>x
  | _=>0
def mL:Option jV→Int
  | some (.r0 _ _ _ x)=>x
  | _=>0
theorem alo{x:Option jV}(h:nZ x=true) :x=some (.r0 (mI x) (mJ x) (mK x) (mL x)):=by
  unfold nZ at h
  split at h<;>first | rfl | (cases h;done) | (rename_i y;cases y;rfl)
def Wh:aM:=bK JF (.cons (.agg (.cons .bool (.cons (.ns .u64) (.cons (.int .i64) .nil)))) (.cons (.agg (.cons .bool (.cons (.ns .u64) (.cons (.int .i64) .nil)))) .nil)) fun t=>(fun q=>[⟨Ld (.r0 (mI q) (mJ q) (mK q) (mL q)),[nZ q]⟩]) (bR t.1.1 t.1.2.1.2 t.1.2.2.1 t.2.1.1 t.2.1.2.1.2 t.2.1.2.2.1)
theorem abP:aY prog Wh:=aR fun t=>(aS (fun h=>aln t.1.1 t.1.2.1.1 t.1.2.1.2 t.1.2.2.1 t.2.1.1 t.2.1.2.1.1 t.2.1.2.1.2 t.2.1.2.2.1 (alo h)) bc)
def Wi:List aM:=Wh::NU
theorem oO:be prog (bh Wi):=ax abP x9
inductive eA where
  | r0 (a:Bool) (b:List Int) (c:Nat) (d:Int)
def A3:eA→AE×aQ
  | .r0 a b c d=>(.ret,⟨an 24 [(2,.ptr 0 1 0 0)],[(0,.vs [.bool false a,.imm .free (.ns .u64 b) 1 1 0 c,.int .i64 d])],1⟩)
theorem te:jJ A3:=by intro x;cases x<;>(intro h;cases h)
theorem afV(id:Nat) :mP id A3:=by intro x;cases x<;>(intro h;cases h)
def Iu:eA→gM
  | .r0 a b c d=>⟨.agg [.bool false a,.imm .free (.ns .u64 b) 1 1 0 c,.int .i64 d],[]⟩
def afW:List Code:=cN (oa Aw)
def afX(b:Lv)(a:List Nat) :Bool×Bool×(List Int)×Nat×Int→aQ:=fun (c,d,e,f,g)=>⟨an 24 [(0,.imm b (.fl a) 1 1 0 (List.length a)),(2,.ptr 0 1 0 0),(3,.ptr 1 1 0 0)],[(0,.vs [.bool false c,.nsl,.int .i64 (0:Int)]),(1,.vs [.bool false d,.imm .free (.ns .u64 e) 1 1 0 f,.int .i64 g])],2⟩
def Le:T ((Bool×Bool×(List Int)×Nat×Int)⊕(eA)) :=
  .need (eR (aF (0:Int)))<|.leaf (.inl (false,(cJ (aF (0:Int))),(co (aF (0:Int))),(cp (aF (0:Int))),(cK (aF (0:Int)))))
def afY(b:Lv)(a:List Nat)(c:Bool)(d:Bool)(e:List Int)(f:Nat)(g:Int)(_:Unit) :aQ:=⟨an 24 [(0,.imm b (.fl a) 1 1 0 (List.length a)),(2,.ptr 0 1 0 0),(3,.ptr 1 1 0 0),(4,.int .i64 (0:Int))],[(0,.vs [.bool false c,.nsl,.int .i64 (0:Int)]),(1,.vs [.bool false d,.imm .free (.ns .u64 e) 1 1 0 f,.int .i64 g])],2⟩
def abQ:T ((Unit)⊕(eA)) :=
  .leaf (.inl ())
def FE(b:Lv)(a:List Nat)(c:Bool) :Nat×Bool×(List Int)×Nat×Int→aQ:=fun (d,e,f,g,h)=>⟨an 24 [(0,.imm b (.fl a) 1 1 0 (List.length a)),(2,.ptr 0 1 0 0),(3,.ptr 1 1 0 0),(4,.int .i64 ((d:Nat):Int))],[(0,.vs [.bool false c,.nsl,.int .i64 (0:Int)]),(1,.vs [.bool false e,.imm .free (.ns .u64 f) 1 1 0 g,.int .i64 h])],2⟩
def NV(a:Bool) :Bool×(List Int)×Nat×Int→aQ:=fun (b,c,d,e)=>⟨an 24 [(2,.ptr 0 1 0 0),(3,.ptr 1 1 0 0)],[(0,.vs [.bool false a,.nsl,.int .i64 (0:Int)]),(1,.vs [.bool false b,.imm .free (.ns .u64 c) 1 1 0 d,.int .i64 e])],2⟩
def abR:List Code:=cN (dn (((((afW.drop 2).drop 1).take 1)).headD .skip))
def afZ(b:Lv)(a:List Nat)(c:Bool)(d:Nat) :Bool×(List Int)×Nat×Int→aQ:=fun (e,f,g,h)=>⟨an 24 [(0,.imm b (.fl a) 1 1 0 (List.length a)),(2,.ptr 0 1 0 0),(3,.ptr 1 1 0 0),(4,.int .i64 ((d:Nat):Int))],[(0,.vs [.bool false c,.nsl,.int .i64 (0:Int)]),(1,.vs [.bool false e,.imm .free (.ns .u64 f) 1 1 0 g,.int .i64 h])],2⟩
def wk(a:List Nat)(b:Nat)(e:Bool)(c:List Int)(d:Nat)(f:Int) :T ((Bool×(List Int)×Nat×Int)⊕((Bool×(List Int)×Nat×Int)⊕(eA))) :=
  .ask (decide (((b:Nat):Int)<(((List.length a):Nat):Int)))
    (.need (fv ((b:Nat):Int) (List.length a))<|.need (g9 b (List.length a))<|.need (d4 (aa (List.getD a b 0)))<|.need (aG 0 (ae (aa (List.getD a b 0))) (ac (aa (List.getD a b 0))))<|.need (aG 0 (ae (aa (List.getD a b 0))) (ac (aa (List.getD a b 0))))<|.need (c8 (am (ag (aa (List.getD a b 0))) (ab 0 (ae (aa (List.getD a b 0))) (ac (aa (List.getD a b 0)))) (ah (aa (List.getD a b 0))) (ag (aa (List.getD a b 0))) (ab 0 (ae (aa (List.getD a b 0))) (ac (aa (List.getD a b 0)))) (ah (aa (List.getD a b 0)))))<|.need (aG 0 d c)<|.need (aG 0 (aK (am (ag (aa (List.getD a b 0))) (ab 0 (ae (aa (List.getD a b 0))) (ac (aa (List.getD a b 0)))) (ah (aa (List.getD a b 0))) (ag (aa (List.getD a b 0))) (ab 0 (ae (aa (List.getD a b 0))) (ac (aa (List.getD a b 0)))) (ah (aa (List.getD a b 0))))) (aJ (am (ag (aa (List.getD a b 0))) (ab 0 (ae (aa (List.getD a b 0))) (ac (aa (List.getD a b 0)))) (ah (aa (List.getD a b 0))) (ag (aa (List.getD a b 0))) (ab 0 (ae (aa (List.getD a b 0))) (ac (aa (List.getD a b 0)))) (ah (aa (List.getD a b 0))))))<|.need (nZ (bR e (ab 0 d c) f (aT (am (ag (aa (List.getD a b 0))) (ab 0 (ae (aa (List.getD a b 0))) (ac (aa (List.getD a b 0)))) (ah (aa (List.getD a b 0))) (ag (aa (List.getD a b 0))) (ab 0 (ae (aa (List.getD a b 0))) (ac (aa (List.getD a b 0)))) (ah (aa (List.getD a b 0))))) (ab 0 (aK (am (ag (aa (List.getD a b 0))) (ab 0 (ae (aa (List.getD a b 0))) (ac (aa (List.getD a b 0)))) (ah (aa (List.getD a b 0))) (ag (aa (List.getD a b 0))) (ab 0 (ae (aa (List.getD a b 0))) (ac (aa (List.getD a b 0)))) (ah (aa (List.getD a b 0))))) (aJ (am (ag (aa (List.getD a b 0))) (ab 0 (ae (aa (List.getD a b 0))) (ac (aa (List.getD a b 0)))) (ah (aa (List.getD a b 0))) (ag (aa (List.getD a b 0))) (ab 0 (ae (aa (List.getD a b 0))) (ac (aa (List.getD a b 0)))) (ah (aa (List.getD a b 0)))))) (aU (am (ag (aa (List.getD a b 0))) (ab 0 (ae (aa (List.getD a b 0))) (ac (aa (List.getD a b 0)))) (ah (aa (List.getD a b 0))) (ag (aa (List.getD a b 0))) (ab 0 (ae (aa (List.getD a b 0))) (ac (aa (List.getD a b 0)))) (ah (aa (List.getD a b 0)))))))<|.leaf (.inl ((mI (bR e (ab 0 d c) f (aT (am (ag (aa (List.getD a b 0))) (ab 0 (ae (aa (List.getD a b 0))) (ac (aa (List.getD a b 0)))) (ah (aa (List.getD a b 0))) (ag (aa (List.getD a b 0))) (ab 0 (ae (aa (List.getD a b 0))) (ac (aa (List.getD a b 0)))) (ah (aa (List.getD a b 0))))) (ab 0 (aK (am (ag (aa (List.getD a b 0))) (ab 0 (ae (aa (List.getD a b 0))) (ac (aa (List.getD a b 0)))) (ah (aa (List.getD a b 0))) (ag (aa (List.getD a b 0))) (ab 0 (ae (aa (List.getD a b 0))) (ac (aa (List.getD a b 0)))) (ah (aa (List.getD a b 0))))) (aJ (am (ag (aa (List.getD a b 0))) (ab 0 (ae (aa (List.getD a b 0))) (ac (aa (List.getD a b 0)))) (ah (aa (List.getD a b 0))) (ag (aa (List.getD a b 0))) (ab 0 (ae (aa (List.getD a b 0))) (ac (aa (List.getD a b 0)))) (ah (aa (List.getD a b 0)))))) (aU (am (ag (aa (List.getD a b 0))) (ab 0 (ae (aa (List.getD a b 0))) (ac (aa (List.getD a b 0)))) (ah (aa (List.getD a b 0))) (ag (aa (List.getD a b 0))) (ab 0 (ae (aa (List.getD a b 0))) (ac (aa (List.getD a b 0)))) (ah (aa (List.getD a b 0))))))),(mJ (bR e (ab 0 d c) f (aT (am (ag (aa (List.getD a b 0))) (ab 0 (ae (aa (List.getD a b 0))) (ac (aa (List.getD a b 0)))) (ah (aa (List.getD a b 0))) (ag (aa (List.getD a b 0))) (ab 0 (ae (aa (List.getD a b 0))) (ac (aa (List.getD a b 0)))) (ah (aa (List.getD a b 0))))) (ab 0 (aK (am (ag (aa (List.getD a b 0))) (ab 0 (ae (aa (List.getD a b 0))) (ac (aa (List.getD a b 0)))) (ah (aa (List.getD a b 0))) (ag (aa (List.getD a b 0))) (ab 0 (ae (aa (List.getD a b 0))) (ac (aa (List.getD a b 0)))) (ah (aa (List.getD a b 0))))) (aJ (am (ag (aa (List.getD a b 0))) (ab 0 (ae (aa (List.getD a b 0))) (ac (aa (List.getD a b 0)))) (ah (aa (List.getD a b 0))) (ag (aa (List.getD a b 0))) (ab 0 (ae (aa (List.getD a b 0))) (ac (aa (List.getD a b 0)))) (ah (aa (List.getD a b 0)))))) (aU (am (ag (aa (List.getD a b 0))) (ab 0 (ae (aa (List.getD a b 0))) (ac (aa (List.getD a b 0)))) (ah (aa (List.getD a b 0))) (ag (aa (List.getD a b 0))) (ab 0 (ae (aa (List.getD a b 0))) (ac (aa (List.getD a b 0)))) (ah (aa (List.getD a b 0))))))),(mK (bR e (ab 0 d c) f (aT (am (ag (aa (List.getD a b 0))) (ab 0 (ae (aa (List.getD a b 0))) (ac (aa (List.getD a b 0)))) (ah (aa (List.getD a b 0))) (ag (aa (List.getD a b 0))) (ab 0 (ae (aa (List.getD a b 0))) (ac (aa (List.getD a b 0)))) (ah (aa (List.getD a b 0))))) (ab 0 (aK (am (ag (aa (List.getD a b 0))) (ab 0 (ae (aa (List.getD a b 0))) (ac (aa (List.getD a b 0)))) (ah (aa (List.getD a b 0))) (ag (aa (List.getD a b 0))) (ab 0 (ae (aa (List.getD a b 0))) (ac (aa (List.getD a b 0)))) (ah (aa (List.getD a b 0))))) (aJ (am (ag (aa (List.getD a b 0))) (ab 0 (ae (aa (List.getD a b 0))) (ac (aa (List.getD a b 0)))) (ah (aa (List.getD a b 0))) (ag (aa (List.getD a b 0))) (ab 0 (ae (aa (List.getD a b 0))) (ac (aa (List.getD a b 0)))) (ah (aa (List.getD a b 0)))))) (aU (am (ag (aa (List.getD a b 0))) (ab 0 (ae (aa (List.getD a b 0))) (ac (aa (List.getD a b 0)))) (ah (aa (List.getD a b 0))) (ag (aa (List.getD a b 0))) (ab 0 (ae (aa (List.getD a b 0))) (ac (aa (List.getD a b 0)))) (ah (aa (List.getD a b 0))))))),(mL (bR e (ab 0 d c) f (aT (am (ag (aa (List.getD a b 0))) (ab 0 (ae (aa (List.getD a b 0))) (ac (aa (List.getD a b 0)))) (ah (aa (List.getD a b 0))) (ag (aa (List.getD a b 0))) (ab 0 (ae (aa (List.getD a b 0))) (ac (aa (List.getD a b 0)))) (ah (aa (List.getD a b 0))))) (ab 0 (aK (am (ag (aa (List.getD a b 0))) (ab 0 (ae (aa (List.getD a b 0))) (ac (aa (List.getD a b 0)))) (ah (aa (List.getD a b 0))) (ag (aa (List.getD a b 0))) (ab 0 (ae (aa (List.getD a b 0))) (ac (aa (List.getD a b 0)))) (ah (aa (List.getD a b 0))))) (aJ (am (ag (aa (List.getD a b 0))) (ab 0 (ae (aa (List.getD a b 0))) (ac (aa (List.getD a b 0)))) (ah (aa (List.getD a b 0))) (ag (aa (List.getD a b 0))) (ab 0 (ae (aa (List.getD a b 0))) (ac (aa (List.getD a b 0)))) (ah (aa (List.getD a b 0)))))) (aU (am (ag (aa (List.getD a b 0))) (ab 0 (ae (aa (List.getD a b 0))) (ac (aa (List.getD a b 0)))) (ah (aa (List.getD a b 0))) (ag (aa (List.getD a b 0))) (ab 0 (ae (aa (List.getD a b 0))) (ac (aa (List.getD a b 0)))) (ah (aa (List.getD a b 0))))))))))
    (.leaf (.inr (.inl (e,c,d,f))))
def abS(a:Nat)(b:Bool)(c:List Int)(d:Nat)(e:Int) :T ((Nat×Bool×(List Int)×Nat×Int)⊕((Bool×(List Int)×Nat×Int)⊕(eA))) :=
  .need (di .i64 (((a+1):Nat):Int))<|.leaf (.inl ((a+1),b,c,d,e))
def Cq(b:List Nat) :Nat×Bool×(List Int)×Nat×Int→Option ((Nat×Bool×(List Int)×Nat×Int)⊕((Bool×(List Int)×Nat×Int)⊕(eA))):=fun (a,c,d,e,f) =>
  aC ((wk b a c d e f).run) fun (g,h,i,j) =>
  (abS a g h i j).run
theorem abT(c:Lv)(a:List Nat)(b:Bool)(d:Nat)(e:Bool)(f:List Int)(g:Nat)(h:Int) :Sg prog [] abR (FE c a b (d,e,f,g,h)) (Cq a (d,e,f,g,h)) (FE c a b) (cy 0 (NV b) A3):=by
  unfold Cq;exact Sg.cut 3 (az te) (bj oO (afZ c a b d) [⟨[],[0,1],[0,2,3,4]⟩,⟨[],[0,1],[2,3]⟩]) (fun ⟨i,j,k,l⟩=>bj oO _ [⟨[],[0,1],[0,2,3,4]⟩])
def abU(a:Bool)(b:List Int)(c:Nat)(d:Int) :T ((Empty)⊕(eA)) :=
  .leaf (.inr (.r0 a b c d))
def cr(a:List Nat) :Option eA:=jM (aC ((Le).run) fun (j,b,c,d,e) =>
  aC ((abQ).run) fun _ =>
  aC (dh (Cq a) (0,b,c,d,e)) fun (f,g,h,i) =>
  (abU f g h i).run)
theorem af0(b:Lv)(a:List Nat){x:eA}(h:cr a=some x) :ay prog Aw [] [.imm b (.fl a) 1 1 0 (List.length a)] (Iu x) :=
  kf true Iu A3 h (Sg.cut 2 te (bj oO (afX b a) [⟨[],[0,32],[0,2,3]⟩]) (fun ⟨c,d,e,f,g⟩=>Sg.cut 1 te (bj oO (afY b a c d e f g) [⟨[],[0,1],[0,2,3,4]⟩]) (fun _=>Sg.cut 1 te (AD ⟨[],[0,1],[0,2,3,4]⟩ (FE b a c) (NV c) 0 te (afV _) (fun ⟨i,j,k,l,m⟩=>abT b a c i j k l m)) (fun ⟨r,s,t,u⟩=>bj oO _ [⟨[],[0],[2]⟩]))))
    (fun x=>by cases x with | r0 n o p q=>exact jN [.agg [.bool false n,.imm .free (.ns .u64 o) 1 1 0 p,.int .i64 q]])
def tg:Option eA→Bool
  | some _=>true
  | none=>false
def jW:Option eA→Bool
  | some (.r0 x _ _ _)=>x
  | _=>false
def iM:Option eA→List Int
  | some (.r0 _ x _ _)=>x
  | _=>[]
def iN:Option eA→Nat
  | some (.r0 _ _ x _)=>x
  | _=>0
def jX:Option eA→Int
  | some (.r0 _ _ _ x)=>x
  | _=>0
theorem af1{x:Option eA}(h:tg x=true) :x=some (.r0 (jW x) (iM x) (iN x) (jX x)):=by
  unfold tg at h
  split at h<;>first | rfl | (cases h;done) | (rename_i y;cases y;rfl)
def Sr:aM:=bK Aw (.cons .fl .nil) fun t=>(fun q=>[⟨Iu (.r0 (jW q) (iM q) (iN q) (jX q)),[tg q]⟩]) (cr t.1.2)
theorem Xw:aY prog Sr:=aR fun t=>(aS (fun h=>af0 t.1.1 t.1.2 (af1 h)) bc)
def Ss:List aM:=Sr::Wi
theorem Jb:be prog (bh Ss):=ax Xw oO
inductive jE where
  | r0 (a:Bool) (b:List Int) (c:Nat) (d:Int)
def alp(a:Lv) :jE→AE×aQ
  | .r0 b c d e=>(.ret,⟨an 8 [(2,.ptr 0 1 0 0)],[(0,.vs [.bool false b,.imm a (.ns .u64 c) 1 1 0 d,.int .i64 e])],1⟩)
def Iv(a:Lv) :jE→gM
  | .r0 b c d e=>⟨.agg [.bool false b,.imm a (.ns .u64 c) 1 1 0 d,.int .i64 e],[]⟩
def NW(b:Bool)(a:List Int)(c:Int) :T ((Empty)⊕(jE)) :=
  .leaf (.inr (.r0 (!b) a (List.length a) c))
def bP(a:Bool)(b:List Int)(c:Int) :Option jE:=jM ((NW a b c).run)
theorem af2(c:Bool)(a:Lv)(b:List Int)(d:Int){x:jE}(h:bP c b d=some x) :ay prog G4 [] [.agg [.bool false c,.imm a (.ns .u64 b) 1 1 0 (List.length b),.int .i64 d]] (Iv a x) :=
  kf true (Iv a) (alp a) h (bj Jb _ [⟨[],[16],[2]⟩])
    (fun x=>by cases x with | r0 e f g i=>exact jN [.agg [.bool false e,.imm a (.ns .u64 f) 1 1 0 g,.int .i64 i]])
def th:Option jE→Bool
  | some _=>true
  | none=>false
def iO:Option jE→Bool
  | some (.r0 x _ _ _)=>x
  | _=>false
def gw:Option jE→List Int
  | some (.r0 _ x _ _)=>x
  | _=>[]
def gA:Option jE→Nat
  | some (.r0 _ _ x _)=>x
  | _=>0
def iP:Option jE→Int
  | some (.r0 _ _ _ x)=>x
  | _=>0
theorem af3{x:Option jE}(h:th x=true) :x=some (.r0 (iO x) (gw x) (gA x) (iP x)):=by
  unfold th at h
  split at h<;>first | rfl | (cases h;done) | (rename_i y;cases y;rfl)
def St:aM:=bK G4 (.cons (.agg (.cons .bool (.cons (.ns .u64) (.cons (.int .i64) .nil)))) .nil) fun t=>(fun q=>[⟨Iv t.1.2.1.1 (.r0 (iO q) (gw q) (gA q) (iP q)),[th q]⟩]) (bP t.1.1 t.1.2.1.2 t.1.2.2.1)
theorem Xx:aY prog St:=aR fun t=>(aS (fun h=>af2 t.1.1 t.1.2.1.1 t.1.2.1.2 t.1.2.2.1 (af3 h)) bc)
def Su:List aM:=St::Ss
theorem Ai:be prog (bh Su):=ax Xx Jb
inductive je where
  | r0 (a:Nat) (b:Bool) (c:List Int) (d:Nat) (e:Int)
def Wj:je→AE×aQ
  | .r0 a b c d e=>(.ret,⟨an 12 [(4,.ptr 0 1 0 0),(5,.int .i64 ((a:Nat):Int))],[(0,.vs [.bool false b,.imm .free (.ns .u64 c) 1 1 0 d,.int .i64 e])],1⟩)
theorem alq:jJ Wj:=by intro x;cases x<;>(intro h;cases h)
def Lf:je→gM
  | .r0 a b c d e=>⟨.tup [.agg [.bool false b,.imm .free (.ns .u64 c) 1 1 0 d,.int .i64 e],.int .i64 ((a:Nat):Int)],[]⟩
def alr:Nat×Bool×(List Int)×Nat×Int→aQ:=fun (a,b,c,d,e)=>⟨an 12 [(4,.ptr 0 1 0 0),(5,.int .i64 ((a:Nat):Int))],[(0,.vs [.bool false b,.imm .free (.ns .u64 c) 1 1 0 d,.int .i64 e])],1⟩
def Sv(e:Bool)(d:List Int)(f:Int)(b:Bool)(a:List Int)(c:Int) :T ((Nat×Bool×(List Int)×Nat×Int)⊕(je)) :=
  .need (aG 0 (List.length a) a)<|.need (th (bP b (ab 0 (List.length a) a) c))<|.need (aG 0 (List.length d) d)<|.need (aG 0 (gA (bP b (ab 0 (List.length a) a) c)) (gw (bP b (ab 0 (List.length a) a) c)))<|.need (vX (g6 e (ab 0 (List.length d) d) f (iO (bP b (ab 0 (List.length a) a) c)) (ab 0 (gA (bP b (ab 0 (List.length a) a) c)) (gw (bP b (ab 0 (List.length a) a) c))) (iP (bP b (ab 0 (List.length a) a) c))))<|.leaf (.inl ((BS (g6 e (ab 0 (List.length d) d) f (iO (bP b (ab 0 (List.length a) a) c)) (ab 0 (gA (bP b (ab 0 (List.length a) a) c)) (gw (bP b (ab 0 (List.length a) a) c))) (iP (bP b (ab 0 (List.length a) a) c)))),(vY (g6 e (ab 0 (List.length d) d) f (iO (bP b (ab 0 (List.length a) a) c)) (ab 0 (gA (bP b (ab 0 (List.length a) a) c)) (gw (bP b (ab 0 (List.length a) a) c))) (iP (bP b (ab 0 (List.length a) a) c)))),(vZ (g6 e (ab 0 (List.length d) d) f (iO (bP b (ab 0 (List.length a) a) c)) (ab 0 (gA (bP b (ab 0 (List.length a) a) c)) (gw (bP b (ab 0 (List.length a) a) c))) (iP (bP b (ab 0 (List.length a) a) c)))),(v4 (g6 e (ab 0 (List.length d) d) f (iO (bP b (ab 0 (List.length a) a) c)) (ab 0 (gA (bP b (ab 0 (List.length a) a) c)) (gw (bP b (ab 0 (List.length a) a) c))) (iP (bP b (ab 0 (List.length a) a) c)))),(v5 (g6 e (ab 0 (List.length d) d) f (iO (bP b (ab 0 (List.length a) a) c)) (ab 0 (gA (bP b (ab 0 (List.length a) a) c)) (gw (bP b (ab 0 (List.length a) a) c))) (iP (bP b (ab 0 (List.length a) a) c))))))
def als(a:Nat)(b:Bool)(c:List Int)(d:Nat)(e:Int) :T ((Empty)⊕(je)) :=
  .leaf (.inr (.r0 a b c d e))
def oX(a:Bool)(b:List Int)(c:Int)(d:Bool)(e:List Int)(f:Int) :Option je:=jM (aC ((Sv a b c d e f).run) fun (g,h,i,j,k) =>
  (als g h i j k).run)
theorem alu(c:Bool)(g:Lv)(a:List Int)(d:Int)(e:Bool)(i:Lv)(b:List Int)(f:Int){x:je}(h:oX c a d e b f=some x) :ay prog JJ [] [.agg [.bool false c,.imm g (.ns .u64 a) 1 1 0 (List.length a),.int .i64 d],.agg [.bool false e,.imm i (.ns .u64 b) 1 1 0 (List.length b),.int .i64 f]] (Lf x) :=
  kf true Lf Wj h (Sg.cut 2 alq (bj Ai alr [⟨[],[32],[4,5]⟩]) (fun ⟨o,p,q,r,s⟩=>bj Ai _ [⟨[],[0],[4,5]⟩]))
    (fun x=>by cases x with | r0 j k l m n=>exact jN [.agg [.bool false k,.imm .free (.ns .u64 l) 1 1 0 m,.int .i64 n],.int .i64 ((j:Nat):Int)])
def A4:Option je→Bool
  | some _=>true
  | none=>false
def Lg:Option je→Nat
  | some (.r0 x _ _ _ _)=>x
  | _=>0
def Cr:Option je→Bool
  | some (.r0 _ x _ _ _)=>x
  | _=>false
def Cs:Option je→List Int
  | some (.r0 _ _ x _ _)=>x
  | _=>[]
def Ct:Option je→Nat
  | some (.r0 _ _ _ x _)=>x
  | _=>0
def Cu:Option je→Int
  | some (.r0 _ _ _ _ x)=>x
  | _=>0
theorem alv{x:Option je}(h:A4 x=true) :x=some (.r0 (Lg x) (Cr x) (Cs x) (Ct x) (Cu x)):=by
  unfold A4 at h
  split at h<;>first | rfl | (cases h;done) | (rename_i y;cases y;rfl)
def Wl:aM:=bK JJ (.cons (.agg (.cons .bool (.cons (.ns .u64) (.cons (.int .i64) .nil)))) (.cons (.agg (.cons .bool (.cons (.ns .u64) (.cons (.int .i64) .nil)))) .nil)) fun t=>(fun q=>[⟨Lf (.r0 (Lg q) (Cr q) (Cs q) (Ct q) (Cu q)),[A4 q]⟩]) (oX t.1.1 t.1.2.1.2 t.1.2.2.1 t.2.1.1 t.2.1.2.1.2 t.2.1.2.2.1)
theorem abV:aY prog Wl:=aR fun t=>(aS (fun h=>alu t.1.1 t.1.2.1.1 t.1.2.1.2 t.1.2.2.1 t.2.1.1 t.2.1.2.1.1 t.2.1.2.1.2 t.2.1.2.2.1 (alv h)) bc)
def Wm:List aM:=Wl::Su
theorem Cv:be prog (bh Wm):=ax abV Ai
inductive iQ where
  | r0 (a:Bool) (b:List Int) (c:Nat) (d:Int)
def Sw:iQ→AE×aQ
  | .r0 a b c d=>(.ret,⟨an 14 [(4,.ptr 0 1 0 0)],[(0,.vs [.bool false a,.imm .free (.ns .u64 b) 1 1 0 c,.int .i64 d])],1⟩)
theorem af4:jJ Sw:=by intro x;cases x<;>(intro h;cases h)
def Iw:iQ→gM
  | .r0 a b c d=>⟨.agg [.bool false a,.imm .free (.ns .u64 b) 1 1 0 c,.int .i64 d],[]⟩
def af5:Bool×Bool×(List Int)×Nat×Int→aQ:=fun (a,b,c,d,e)=>⟨an 14 [(4,.ptr 0 1 0 0),(5,.ptr 1 1 0 0)],[(0,.vs [.bool false a,.nsl,.int .i64 (0:Int)]),(1,.vs [.bool false b,.imm .free (.ns .u64 c) 1 1 0 d,.int .i64 e])],2⟩
def NX(c:Bool)(a:List Int)(d:Int)(e:Bool)(b:List Int)(f:Int) :T ((Bool×Bool×(List Int)×Nat×Int)⊕(iQ)) :=
  .need (aG 0 (List.length a) a)<|.need (aG 0 (List.length b) b)<|.need (A4 (oX c (ab 0 (List.length a) a) d e (ab 0 (List.length b) b) f))<|.leaf (.inl (false,(Cr (oX c (ab 0 (List.length a) a) d e (ab 0 (List.length b) b) f)),(Cs (oX c (ab 0 (List.length a) a) d e (ab 0 (List.length b) b) f)),(Ct (oX c (ab 0 (List.length a) a) d e (ab 0 (List.length b) b) f)),(Cu (oX c (ab 0 (List.length a) a) d e (ab 0 (List.length b) b) f))))
def af6(a:Bool)(b:List Int)(c:Nat)(d:Int) :T ((Empty)⊕(iQ)) :=
  .leaf (.inr (.r0 a b c d))
def fI(a:Bool)(b:List Int)(c:Int)(d:Bool)(e:List Int)(f:Int) :Option iQ:=jM (aC ((NX a b c d e f).run) fun (k,g,h,i,j) =>
  (af6 g h i j).run)
theorem af7(c:Bool)(g:Lv)(a:List Int)(d:Int)(e:Bool)(i:Lv)(b:List Int)(f:Int){x:iQ}(h:fI c a d e b f=some x) :ay prog GV [] [.agg [.bool false c,.imm g (.ns .u64 a) 1 1 0 (List.length a),.int .i64 d],.agg [.bool false e,.imm i (.ns .u64 b) 1 1 0 (List.length b),.int .i64 f]] (Iw x) :=
  kf true Iw Sw h (Sg.cut 2 af4 (bj Cv af5 [⟨[],[32,144],[4,5]⟩]) (fun ⟨n,o,p,q,r⟩=>bj Cv _ [⟨[],[0],[4]⟩]))
    (fun x=>by cases x with | r0 j k l m=>exact jN [.agg [.bool false j,.imm .free (.ns .u64 k) 1 1 0 l,.int .i64 m]])
def ti:Option iQ→Bool
  | some _=>true
  | none=>false
def tZ:Option iQ→Bool
  | some (.r0 x _ _ _)=>x
  | _=>false
def t4:Option iQ→List Int
  | some (.r0 _ x _ _)=>x
  | _=>[]
def ua:Option iQ→Nat
  | some (.r0 _ _ x _)=>x
  | _=>0
def ub:Option iQ→Int
  | some (.r0 _ _ _ x)=>x
  | _=>0
theorem af8{x:Option iQ}(h:ti x=true) :x=some (.r0 (tZ x) (t4 x) (ua x) (ub x)):=by
  unfold ti at h
  split at h<;>first | rfl | (cases h;done) | (rename_i y;cases y;rfl)
def Sx:aM:=bK GV (.cons (.agg (.cons .bool (.cons (.ns .u64) (.cons (.int .i64) .nil)))) (.cons (.agg (.cons .bool (.cons (.ns .u64) (.cons (.int .i64) .nil)))) .nil)) fun t=>(fun q=>[⟨Iw (.r0 (tZ q) (t4 q) (ua q) (ub q)),[ti q]⟩]) (fI t.1.1 t.1.2.1.2 t.1.2.2.1 t.2.1.1 t.2.1.2.1.2 t.2.1.2.2.1)
theorem Xy:aY prog Sx:=aR fun t=>(aS (fun h=>af7 t.1.1 t.1.2.1.1 t.1.2.1.2 t.1.2.2.1 t.2.1.1 t.2.1.2.1.1 t.2.1.2.1.2 t.2.1.2.2.1 (af8 h)) bc)
def Sy:List aM:=Sx::Wm
theorem de:be prog (bh Sy):=ax Xy Cv
inductive cj where
  | r0 (a:Bool) (b:List Int) (c:Nat) (d:Int)
def rS:cj→AE×aQ
  | .r0 a b c d=>(.ret,⟨an 65 [(2,.ptr 0 1 0 0)],[(0,.vs [.bool false a,.imm .free (.ns .u64 b) 1 1 0 c,.int .i64 d])],1⟩)
theorem dg:jJ rS:=by intro x;cases x<;>(intro h;cases h)
theorem tj(id:Nat) :mP id rS:=by intro x;cases x<;>(intro h;cases h)
def Ix:cj→gM
  | .r0 a b c d=>⟨.agg [.bool false a,.imm .free (.ns .u64 b) 1 1 0 c,.int .i64 d],[]⟩
def abW:List Code:=cN (oa Ax)
def af9(b:Int)(c:Int)(d:Lv)(a:List Nat) :Bool×Bool×(List Int)×Nat×Int→aQ:=fun (e,f,g,h,i)=>⟨an 65 [(1,.ptr 0 1 0 0),(2,.ptr 1 1 0 0),(3,.ptr 2 1 0 0)],[(0,.vs [.int .i64 b,.int .i64 c,.imm d (.fl a) 1 1 0 (List.length a)]),(1,.vs [.bool false e,.nsl,.int .i64 (0:Int)]),(2,.vs [.bool false f,.imm .free (.ns .u64 g) 1 1 0 h,.int .i64 i])],3⟩
def Lh:T ((Bool×Bool×(List Int)×Nat×Int)⊕(cj)) :=
  .need (eR (aF (0:Int)))<|.leaf (.inl (false,(cJ (aF (0:Int))),(co (aF (0:Int))),(cp (aF (0:Int))),(cK (aF (0:Int)))))
def aga(b:Int)(c:Int)(d:Lv)(a:List Nat)(e:Bool)(f:Bool)(g:List Int)(h:Nat)(i:Int)(_:Unit) :aQ:=⟨an 65 [(1,.ptr 0 1 0 0),(2,.ptr 1 1 0 0),(3,.ptr 2 1 0 0),(4,.int .i64 (0:Int))],[(0,.vs [.int .i64 b,.int .i64 c,.imm d (.fl a) 1 1 0 (List.length a)]),(1,.vs [.bool false e,.nsl,.int .i64 (0:Int)]),(2,.vs [.bool false f,.imm .free (.ns .u64 g) 1 1 0 h,.int .i64 i])],3⟩
def abX:T ((Unit)⊕(cj)) :=
  .leaf (.inl ())
def Cw(b:Int)(c:Int)(d:Lv)(a:List Nat)(e:Bool) :Nat×Bool×(List Int)×Nat×Int→aQ:=fun (f,g,h,i,j)=>⟨an 65 [(1,.ptr 0 1 0 0),(2,.ptr 1 1 0 0),(3,.ptr 2 1 0 0),(4,.int .i64 ((f:Nat):Int))],[(0,.vs [.int .i64 b,.int .i64 c,.imm d (.fl a) 1 1 0 (List.length a)]),(1,.vs [.bool false e,.nsl,.int .i64 (0:Int)]),(2,.vs [.bool false g,.imm .free (.ns .u64 h) 1 1 0 i,.int .i64 j])],3⟩
def wl(a:Bool) :Bool×(List Int)×Nat×Int→aQ:=fun (b,c,d,e)=>⟨an 65 [(2,.ptr 0 1 0 0),(3,.ptr 1 1 0 0)],[(0,.vs [.bool false a,.nsl,.int .i64 (0:Int)]),(1,.vs [.bool false b,.imm .free (.ns .u64 c) 1 1 0 d,.int .i64 e])],2⟩
def Li:List Code:=cN (dn (((((abW.drop 2).drop 1).take 1)).headD .skip))
def abY(b:Int)(c:Int)(d:Lv)(a:List Nat)(e:Bool)(f:Nat)(g:Bool)(h:List Int)(i:Nat)(j:Int)(_:Unit) :aQ:=⟨an 65 [(1,.ptr 0 1 0 0),(2,.ptr 1 1 0 0),(3,.ptr 2 1 0 0),(4,.int .i64 ((f:Nat):Int))],[(0,.vs [.int .i64 b,.int .i64 c,.imm d (.fl a) 1 1 0 (List.length a)]),(1,.vs [.bool false e,.nsl,.int .i64 (0:Int)]),(2,.vs [.bool false g,.imm .free (.ns .u64 h) 1 1 0 i,.int .i64 j])],3⟩
def Cx(a:Int)(b:Nat)(c:Bool)(d:List Int)(e:Nat)(f:Int) :T ((Unit)⊕((Bool×(List Int)×Nat×Int)⊕(cj))) :=
  .ask (decide (((b:Nat):Int)<a))
    (.leaf (.inl ()))
    (.leaf (.inr (.inl (c,d,e,f))))
def Cy(b:Int)(c:Int)(d:Lv)(a:List Nat)(e:Bool)(f:Nat) :Bool×(List Int)×Nat×Int→aQ:=fun (g,h,i,j)=>⟨an 65 [(1,.ptr 0 1 0 0),(2,.ptr 1 1 0 0),(3,.ptr 2 1 0 0),(4,.int .i64 ((f:Nat):Int))],[(0,.vs [.int .i64 b,.int .i64 c,.imm d (.fl a) 1 1 0 (List.length a)]),(1,.vs [.bool false e,.nsl,.int .i64 (0:Int)]),(2,.vs [.bool false g,.imm .free (.ns .u64 h) 1 1 0 i,.int .i64 j])],3⟩
def abZ:List Code:=cN (inBlock ((((Li.drop 2).take 1)).headD .skip))
def ab0(b:Int)(c:Int)(d:Lv)(a:List Nat)(e:Bool)(f:Nat)(g:Bool)(h:List Int)(i:Nat)(j:Int)(_:Unit) :aQ:=⟨an 65 [(1,.ptr 0 1 0 0),(2,.ptr 1 1 0 0),(3,.ptr 2 1 0 0),(4,.int .i64 ((f:Nat):Int)),(5,.int .i64 (0:Int))],[(0,.vs [.int .i64 b,.int .i64 c,.imm d (.fl a) 1 1 0 (List.length a)]),(1,.vs [.bool false e,.nsl,.int .i64 (0:Int)]),(2,.vs [.bool false g,.imm .free (.ns .u64 h) 1 1 0 i,.int .i64 j])],3⟩
def ab1:T ((Unit)⊕((Bool×(List Int)×Nat×Int)⊕((Bool×(List Int)×Nat×Int)⊕(cj)))) :=
  .leaf (.inl ())
def Cz(b:Int)(c:Int)(d:Lv)(a:List Nat)(e:Bool)(f:Nat) :Nat×Bool×(List Int)×Nat×Int→aQ:=fun (g,h,i,j,k)=>⟨an 65 [(1,.ptr 0 1 0 0),(2,.ptr 1 1 0 0),(3,.ptr 2 1 0 0),(4,.int .i64 ((f:Nat):Int)),(5,.int .i64 ((g:Nat):Int))],[(0,.vs [.int .i64 b,.int .i64 c,.imm d (.fl a) 1 1 0 (List.length a)]),(1,.vs [.bool false e,.nsl,.int .i64 (0:Int)]),(2,.vs [.bool false h,.imm .free (.ns .u64 i) 1 1 0 j,.int .i64 k])],3⟩
def CA(b:Int)(c:Int)(d:Lv)(a:List Nat)(e:Bool)(f:Nat) :Bool×(List Int)×Nat×Int→aQ:=fun (g,h,i,j)=>⟨an 65 [(1,.ptr 0 1 0 0),(2,.ptr 1 1 0 0),(3,.ptr 2 1 0 0),(4,.int .i64 ((f:Nat):Int))],[(0,.vs [.int .i64 b,.int .i64 c,.imm d (.fl a) 1 1 0 (List.length a)]),(1,.vs [.bool false e,.nsl,.int .i64 (0:Int)]),(2,.vs [.bool false g,.imm .free (.ns .u64 h) 1 1 0 i,.int .i64 j])],3⟩
def Lj:List Code:=cN (dn ((((abZ.drop 1).take 1)).headD .skip))
def ab2(b:Int)(c:Int)(d:Lv)(a:List Nat)(e:Bool)(f:Nat)(g:Nat)(h:Bool)(i:List Int)(j:Nat)(k:Int)(_:Unit) :aQ:=⟨an 65 [(1,.ptr 0 1 0 0),(2,.ptr 1 1 0 0),(3,.ptr 2 1 0 0),(4,.int .i64 ((f:Nat):Int)),(5,.int .i64 ((g:Nat):Int))],[(0,.vs [.int .i64 b,.int .i64 c,.imm d (.fl a) 1 1 0 (List.length a)]),(1,.vs [.bool false e,.nsl,.int .i64 (0:Int)]),(2,.vs [.bool false h,.imm .free (.ns .u64 i) 1 1 0 j,.int .i64 k])],3⟩
def CB(a:Int)(b:Nat)(c:Bool)(d:List Int)(e:Nat)(f:Int) :T ((Unit)⊕((Bool×(List Int)×Nat×Int)⊕((Bool×(List Int)×Nat×Int)⊕((Bool×(List Int)×Nat×Int)⊕(cj))))) :=
  .ask (decide (((b:Nat):Int)<a))
    (.leaf (.inl ()))
    (.leaf (.inr (.inl (c,d,e,f))))
def Lk(b:Int)(c:Int)(d:Lv)(a:List Nat)(e:Bool)(f:Nat)(g:Nat) :Bool×(List Int)×Nat×Int→aQ:=fun (h,i,j,k)=>⟨an 65 [(1,.ptr 0 1 0 0),(2,.ptr 1 1 0 0),(3,.ptr 2 1 0 0),(4,.int .i64 ((f:Nat):Int)),(5,.int .i64 ((g:Nat):Int))],[(0,.vs [.int .i64 b,.int .i64 c,.imm d (.fl a) 1 1 0 (List.length a)]),(1,.vs [.bool false e,.nsl,.int .i64 (0:Int)]),(2,.vs [.bool false h,.imm .free (.ns .u64 i) 1 1 0 j,.int .i64 k])],3⟩
def ab3:List Code:=cN (inBlock ((((Lj.drop 2).take 1)).headD .skip))
def ab4(b:Int)(c:Int)(d:Lv)(a:List Nat)(e:Bool)(f:Nat)(g:Nat)(h:Bool)(i:List Int)(j:Nat)(k:Int) :Bool×(List Int)×Nat×Int→aQ:=fun (l,m,n,o)=>⟨an 65 [(1,.ptr 0 1 0 0),(2,.ptr 1 1 0 0),(3,.ptr 2 1 0 0),(4,.int .i64 ((f:Nat):Int)),(5,.int .i64 ((g:Nat):Int)),(6,.ptr 3 1 0 0)],[(0,.vs [.int .i64 b,.int .i64 c,.imm d (.fl a) 1 1 0 (List.length a)]),(1,.vs [.bool false e,.nsl,.int .i64 (0:Int)]),(2,.vs [.bool false h,.imm .free (.ns .u64 i) 1 1 0 j,.int .i64 k]),(3,.vs [.bool false l,.imm .free (.ns .u64 m) 1 1 0 n,.int .i64 o])],4⟩
def Ll:T ((Bool×(List Int)×Nat×Int)⊕((Bool×(List Int)×Nat×Int)⊕((Bool×(List Int)×Nat×Int)⊕((Bool×(List Int)×Nat×Int)⊕((Bool×(List Int)×Nat×Int)⊕(cj)))))) :=
  .need (eR (aF (0:Int)))<|.leaf (.inl ((cJ (aF (0:Int))),(co (aF (0:Int))),(cp (aF (0:Int))),(cK (aF (0:Int)))))
def ab5(b:Int)(c:Int)(d:Lv)(a:List Nat)(e:Bool)(f:Nat)(g:Nat)(h:Bool)(i:List Int)(j:Nat)(k:Int)(l:Bool)(m:List Int)(n:Nat)(o:Int)(_:Unit) :aQ:=⟨an 65 [(1,.ptr 0 1 0 0),(2,.ptr 1 1 0 0),(3,.ptr 2 1 0 0),(4,.int .i64 ((f:Nat):Int)),(5,.int .i64 ((g:Nat):Int)),(6,.ptr 3 1 0 0),(7,.int .i64 (0:Int))],[(0,.vs [.int .i64 b,.int .i64 c,.imm d (.fl a) 1 1 0 (List.length a)]),(1,.vs [.bool false e,.nsl,.int .i64 (0:Int)]),(2,.vs [.bool false h,.imm .free (.ns .u64 i) 1 1 0 j,.int .i64 k]),(3,.vs [.bool false l,.imm .free (.ns .u64 m) 1 1 0 n,.int .i64 o])],4⟩
def ab6:T ((Unit)⊕((Bool×(List Int)×Nat×Int)⊕((Bool×(List Int)×Nat×Int)⊕((Bool×(List Int)×Nat×Int)⊕((Bool×(List Int)×Nat×Int)⊕(cj)))))) :=
  .leaf (.inl ())
def CC(b:Int)(c:Int)(d:Lv)(a:List Nat)(e:Bool)(f:Nat)(g:Nat)(h:Bool)(i:List Int)(j:Nat)(k:Int) :Nat×Bool×(List Int)×Nat×Int→aQ:=fun (l,m,n,o,p)=>⟨an 65 [(1,.ptr 0 1 0 0),(2,.ptr 1 1 0 0),(3,.ptr 2 1 0 0),(4,.int .i64 ((f:Nat):Int)),(5,.int .i64 ((g:Nat):Int)),(6,.ptr 3 1 0 0),(7,.int .i64 ((l:Nat):Int))],[(0,.vs [.int .i64 b,.int .i64 c,.imm d (.fl a) 1 1 0 (List.length a)]),(1,.vs [.bool false e,.nsl,.int .i64 (0:Int)]),(2,.vs [.bool false h,.imm .free (.ns .u64 i) 1 1 0 j,.int .i64 k]),(3,.vs [.bool false m,.imm .free (.ns .u64 n) 1 1 0 o,.int .i64 p])],4⟩
def Lm(b:Int)(c:Int)(d:Lv)(a:List Nat)(e:Bool)(f:Nat)(g:Nat)(h:Bool)(i:List Int)(j:Nat)(k:Int) :Bool×(List Int)×Nat×Int→aQ:=fun (l,m,n,o)=>⟨an 65 [(1,.ptr 0 1 0 0),(2,.ptr 1 1 0 0),(3,.ptr 2 1 0 0),(4,.int .i64 ((f:Nat):Int)),(5,.int .i64 ((g:Nat):Int)),(6,.ptr 3 1 0 0)],[(0,.vs [.int .i64 b,.int .i64 c,.imm d (.fl a) 1 1 0 (List.length a)]),(1,.vs [.bool false e,.nsl,.int .i64 (0:Int)]),(2,.vs [.bool false h,.imm .free (.ns .u64 i) 1 1 0 j,.int .i64 k]),(3,.vs [.bool false l,.imm .free (.ns .u64 m) 1 1 0 n,.int .i64 o])],4⟩
def ab7:List Code:=cN (dn (((((ab3.drop 1).drop 1).take 1)).headD .skip))
def ab8(b:Int)(c:Int)(d:Lv)(a:List Nat)(e:Bool)(f:Nat)(g:Nat)(h:Bool)(i:List Int)(j:Nat)(k:Int)(l:Nat) :Bool×(List Int)×Nat×Int→aQ:=fun (m,n,o,p)=>⟨an 65 [(1,.ptr 0 1 0 0),(2,.ptr 1 1 0 0),(3,.ptr 2 1 0 0),(4,.int .i64 ((f:Nat):Int)),(5,.int .i64 ((g:Nat):Int)),(6,.ptr 3 1 0 0),(7,.int .i64 ((l:Nat):Int))],[(0,.vs [.int .i64 b,.int .i64 c,.imm d (.fl a) 1 1 0 (List.length a)]),(1,.vs [.bool false e,.nsl,.int .i64 (0:Int)]),(2,.vs [.bool false h,.imm .free (.ns .u64 i) 1 1 0 j,.int .i64 k]),(3,.vs [.bool false m,.imm .free (.ns .u64 n) 1 1 0 o,.int .i64 p])],4⟩
def wm(j:Int)(b:Int)(c:List Nat)(d:Nat)(e:Nat)(a:Nat)(h:Bool)(f:List Int)(g:Nat)(i:Int) :T ((Bool×(List Int)×Nat×Int)⊕((Bool×(List Int)×Nat×Int)⊕((Bool×(List Int)×Nat×Int)⊕((Bool×(List Int)×Nat×Int)⊕((Bool×(List Int)×Nat×Int)⊕((Bool×(List Int)×Nat×Int)⊕(cj))))))) :=
  .ask (decide (((a:Nat):Int)<j))
    (.need (di .i64 (((a:Nat):Int)*b))<|.need (di .i64 ((((a:Nat):Int)*b)+((d:Nat):Int)))<|.need (fv ((((a:Nat):Int)*b)+((d:Nat):Int)) (List.length c))<|.need (g9 (Int.toNat ((((a:Nat):Int)*b)+((d:Nat):Int))) (List.length c))<|.need (d4 (aa (List.getD c (Int.toNat ((((a:Nat):Int)*b)+((d:Nat):Int))) 0)))<|.need (di .i64 (((a:Nat):Int)*b))<|.need (di .i64 ((((a:Nat):Int)*b)+((e:Nat):Int)))<|.need (fv ((((a:Nat):Int)*b)+((e:Nat):Int)) (List.length c))<|.need (g9 (Int.toNat ((((a:Nat):Int)*b)+((e:Nat):Int))) (List.length c))<|.need (d4 (aa (List.getD c (Int.toNat ((((a:Nat):Int)*b)+((e:Nat):Int))) 0)))<|.need (aG 0 (ae (aa (List.getD c (Int.toNat ((((a:Nat):Int)*b)+((d:Nat):Int))) 0))) (ac (aa (List.getD c (Int.toNat ((((a:Nat):Int)*b)+((d:Nat):Int))) 0))))<|.need (aG 0 (ae (aa (List.getD c (Int.toNat ((((a:Nat):Int)*b)+((e:Nat):Int))) 0))) (ac (aa (List.getD c (Int.toNat ((((a:Nat):Int)*b)+((e:Nat):Int))) 0))))<|.need (c8 (am (ag (aa (List.getD c (Int.toNat ((((a:Nat):Int)*b)+((d:Nat):Int))) 0))) (ab 0 (ae (aa (List.getD c (Int.toNat ((((a:Nat):Int)*b)+((d:Nat):Int))) 0))) (ac (aa (List.getD c (Int.toNat ((((a:Nat):Int)*b)+((d:Nat):Int))) 0)))) (ah (aa (List.getD c (Int.toNat ((((a:Nat):Int)*b)+((d:Nat):Int))) 0))) (ag (aa (List.getD c (Int.toNat ((((a:Nat):Int)*b)+((e:Nat):Int))) 0))) (ab 0 (ae (aa (List.getD c (Int.toNat ((((a:Nat):Int)*b)+((e:Nat):Int))) 0))) (ac (aa (List.getD c (Int.toNat ((((a:Nat):Int)*b)+((e:Nat):Int))) 0)))) (ah (aa (List.getD c (Int.toNat ((((a:Nat):Int)*b)+((e:Nat):Int))) 0)))))<|.need (aG 0 g f)<|.need (aG 0 (aK (am (ag (aa (List.getD c (Int.toNat ((((a:Nat):Int)*b)+((d:Nat):Int))) 0))) (ab 0 (ae (aa (List.getD c (Int.toNat ((((a:Nat):Int)*b)+((d:Nat):Int))) 0))) (ac (aa (List.getD c (Int.toNat ((((a:Nat):Int)*b)+((d:Nat):Int))) 0)))) (ah (aa (List.getD c (Int.toNat ((((a:Nat):Int)*b)+((d:Nat):Int))) 0))) (ag (aa (List.getD c (Int.toNat ((((a:Nat):Int)*b)+((e:Nat):Int))) 0))) (ab 0 (ae (aa (List.getD c (Int.toNat ((((a:Nat):Int)*b)+((e:Nat):Int))) 0))) (ac (aa (List.getD c (Int.toNat ((((a:Nat):Int)*b)+((e:Nat):Int))) 0)))) (ah (aa (List.getD c (Int.toNat ((((a:Nat):Int)*b)+((e:Nat):Int))) 0))))) (aJ (am (ag (aa (List.getD c (Int.toNat ((((a:Nat):Int)*b)+((d:Nat):Int))) 0))) (ab 0 (ae (aa (List.getD c (Int.toNat ((((a:Nat):Int)*b)+((d:Nat):Int))) 0))) (ac (aa (List.getD c (Int.toNat ((((a:Nat):Int)*b)+((d:Nat):Int))) 0)))) (ah (aa (List.getD c (Int.toNat ((((a:Nat):Int)*b)+((d:Nat):Int))) 0))) (ag (aa (List.getD c (Int.toNat ((((a:Nat):Int)*b)+((e:Nat):Int))) 0))) (ab 0 (ae (aa (List.getD c (Int.toNat ((((a:Nat):Int)*b)+((e:Nat):Int))) 0))) (ac (aa (List.getD c (Int.toNat ((((a:Nat):Int)*b)+((e:Nat):Int))) 0)))) (ah (aa (List.getD c (Int.toNat ((((a:Nat):Int)*b)+((e:Nat):Int))) 0))))))<|.need (nZ (bR h (ab 0 g f) i (aT (am (ag (aa (List.getD c (Int.toNat ((((a:Nat):Int)*b)+((d:Nat):Int))) 0))) (ab 0 (ae (aa (List.getD c (Int.toNat ((((a:Nat):Int)*b)+((d:Nat):Int))) 0))) (ac (aa (List.getD c (Int.toNat ((((a:Nat):Int)*b)+((d:Nat):Int))) 0)))) (ah (aa (List.getD c (Int.toNat ((((a:Nat):Int)*b)+((d:Nat):Int))) 0))) (ag (aa (List.getD c (Int.toNat ((((a:Nat):Int)*b)+((e:Nat):Int))) 0))) (ab 0 (ae (aa (List.getD c (Int.toNat ((((a:Nat):Int)*b)+((e:Nat):Int))) 0))) (ac (aa (List.getD c (Int.toNat ((((a:Nat):Int)*b)+((e:Nat):Int))) 0)))) (ah (aa (List.getD c (Int.toNat ((((a:Nat):Int)*b)+((e:Nat):Int))) 0))))) (ab 0 (aK (am (ag (aa (List.getD c (Int.toNat ((((a:Nat):Int)*b)+((d:Nat):Int))) 0))) (ab 0 (ae (aa (List.getD c (Int.toNat ((((a:Nat):Int)*b)+((d:Nat):Int))) 0))) (ac (aa (List.getD c (Int.toNat ((((a:Nat):Int)*b)+((d:Nat):Int))) 0)))) (ah (aa (List.getD c (Int.toNat ((((a:Nat):Int)*b)+((d:Nat):Int))) 0))) (ag (aa (List.getD c (Int.toNat ((((a:Nat):Int)*b)+((e:Nat):Int))) 0))) (ab 0 (ae (aa (List.getD c (Int.toNat ((((a:Nat):Int)*b)+((e:Nat):Int))) 0))) (ac (aa (List.getD c (Int.toNat ((((a:Nat):Int)*b)+((e:Nat):Int))) 0)))) (ah (aa (List.getD c (Int.toNat ((((a:Nat):Int)*b)+((e:Nat):Int))) 0))))) (aJ (am (ag (aa (List.getD c (Int.toNat ((((a:Nat):Int)*b)+((d:Nat):Int))) 0))) (ab 0 (ae (aa (List.getD c (Int.toNat ((((a:Nat):Int)*b)+((d:Nat):Int))) 0))) (ac (aa (List.getD c (Int.toNat ((((a:Nat):Int)*b)+((d:Nat):Int))) 0)))) (ah (aa (List.getD c (Int.toNat ((((a:Nat):Int)*b)+((d:Nat):Int))) 0))) (ag (aa (List.getD c (Int.toNat ((((a:Nat):Int)*b)+((e:Nat):Int))) 0))) (ab 0 (ae (aa (List.getD c (Int.toNat ((((a:Nat):Int)*b)+((e:Nat):Int))) 0))) (ac (aa (List.getD c (Int.toNat ((((a:Nat):Int)*b)+((e:Nat):Int))) 0)))) (ah (aa (List.getD c (Int.toNat ((((a:Nat):Int)*b)+((e:Nat):Int))) 0)))))) (aU (am (ag (aa (List.getD c (Int.toNat ((((a:Nat):Int)*b)+((d:Nat):Int))) 0))) (ab 0 (ae (aa (List.getD c (Int.toNat ((((a:Nat):Int)*b)+((d:Nat):Int))) 0))) (ac (aa (List.getD c (Int.toNat ((((a:Nat):Int)*b)+((d:Nat):Int))) 0)))) (ah (aa (List.getD c (Int.toNat ((((a:Nat):Int)*b)+((d:Nat):Int))) 0))) (ag (aa (List.getD c (Int.toNat ((((a:Nat):Int)*b)+((e:Nat):Int))) 0))) (ab 0 (ae (aa (List.getD c (Int.toNat ((((a:Nat):Int)*b)+((e:Nat):Int))) 0))) (ac (aa (List.getD c (Int.toNat ((((a:Nat):Int)*b)+((e:Nat):Int))) 0)))) (ah (aa (List.getD c (Int.toNat ((((a:Nat):Int)*b)+((e:Nat):Int))) 0)))))))<|.leaf (.inl ((mI (bR h (ab 0 g f) i (aT (am (ag (aa (List.getD c (Int.toNat ((((a:Nat):Int)*b)+((d:Nat):Int))) 0))) (ab 0 (ae (aa (List.getD c (Int.toNat ((((a:Nat):Int)*b)+((d:Nat):Int))) 0))) (ac (aa (List.getD c (Int.toNat ((((a:Nat):Int)*b)+((d:Nat):Int))) 0)))) (ah (aa (List.getD c (Int.toNat ((((a:Nat):Int)*b)+((d:Nat):Int))) 0))) (ag (aa (List.getD c (Int.toNat ((((a:Nat):Int)*b)+((e:Nat):Int))) 0))) (ab 0 (ae (aa (List.getD c (Int.toNat ((((a:Nat):Int)*b)+((e:Nat):Int))) 0))) (ac (aa (List.getD c (Int.toNat ((((a:Nat):Int)*b)+((e:Nat):Int))) 0)))) (ah (aa (List.getD c (Int.toNat ((((a:Nat):Int)*b)+((e:Nat):Int))) 0))))) (ab 0 (aK (am (ag (aa (List.getD c (Int.toNat ((((a:Nat):Int)*b)+((d:Nat):Int))) 0))) (ab 0 (ae (aa (List.getD c (Int.toNat ((((a:Nat):Int)*b)+((d:Nat):Int))) 0))) (ac (aa (List.getD c (Int.toNat ((((a:Nat):Int)*b)+((d:Nat):Int))) 0)))) (ah (aa (List.getD c (Int.toNat ((((a:Nat):Int)*b)+((d:Nat):Int))) 0))) (ag (aa (List.getD c (Int.toNat ((((a:Nat):Int)*b)+((e:Nat):Int))) 0))) (ab 0 (ae (aa (List.getD c (Int.toNat ((((a:Nat):Int)*b)+((e:Nat):Int))) 0))) (ac (aa (List.getD c (Int.toNat ((((a:Nat):Int)*b)+((e:Nat):Int))) 0)))) (ah (aa (List.getD c (Int.toNat ((((a:Nat):Int)*b)+((e:Nat):Int))) 0))))) (aJ (am (ag (aa (List.getD c (Int.toNat ((((a:Nat):Int)*b)+((d:Nat):Int))) 0))) (ab 0 (ae (aa (List.getD c (Int.toNat ((((a:Nat):Int)*b)+((d:Nat):Int))) 0))) (ac (aa (List.getD c (Int.toNat ((((a:Nat):Int)*b)+((d:Nat):Int))) 0)))) (ah (aa (List.getD c (Int.toNat ((((a:Nat):Int)*b)+((d:Nat):Int))) 0))) (ag (aa (List.getD c (Int.toNat ((((a:Nat):Int)*b)+((e:Nat):Int))) 0))) (ab 0 (ae (aa (List.getD c (Int.toNat ((((a:Nat):Int)*b)+((e:Nat):Int))) 0))) (ac (aa (List.getD c (Int.toNat ((((a:Nat):Int)*b)+((e:Nat):Int))) 0)))) (ah (aa (List.getD c (Int.toNat ((((a:Nat):Int)*b)+((e:Nat):Int))) 0)))))) (aU (am (ag (aa (List.getD c (Int.toNat ((((a:Nat):Int)*b)+((d:Nat):Int))) 0))) (ab 0 (ae (aa (List.getD c (Int.toNat ((((a:Nat):Int)*b)+((d:Nat):Int))) 0))) (ac (aa (List.getD c (Int.toNat ((((a:Nat):Int)*b)+((d:Nat):Int))) 0)))) (ah (aa (List.getD c (Int.toNat ((((a:Nat):Int)*b)+((d:Nat):Int))) 0))) (ag (aa (List.getD c (Int.toNat ((((a:Nat):Int)*b)+((e:Nat):Int))) 0))) (ab 0 (ae (aa (List.getD c (Int.toNat ((((a:Nat):Int)*b)+((e:Nat):Int))) 0))) (ac (aa (List.getD c (Int.toNat ((((a:Nat):Int)*b)+((e:Nat):Int))) 0)))) (ah (aa (List.getD c (Int.toNat ((((a:Nat):Int)*b)+((e:Nat):Int))) 0))))))),(mJ (bR h (ab 0 g f) i (aT (am (ag (aa (List.getD c (Int.toNat ((((a:Nat):Int)*b)+((d:Nat):Int))) 0))) (ab 0 (ae (aa (List.getD c (Int.toNat ((((a:Nat):Int)*b)+((d:Nat):Int))) 0))) (ac (aa (List.getD c (Int.toNat ((((a:Nat):Int)*b)+((d:Nat):Int))) 0)))) (ah (aa (List.getD c (Int.toNat ((((a:Nat):Int)*b)+((d:Nat):Int))) 0))) (ag (aa (List.getD c (Int.toNat ((((a:Nat):Int)*b)+((e:Nat):Int))) 0))) (ab 0 (ae (aa (List.getD c (Int.toNat ((((a:Nat):Int)*b)+((e:Nat):Int))) 0))) (ac (aa (List.getD c (Int.toNat ((((a:Nat):Int)*b)+((e:Nat):Int))) 0)))) (ah (aa (List.getD c (Int.toNat ((((a:Nat):Int)*b)+((e:Nat):Int))) 0))))) (ab 0 (aK (am (ag (aa (List.getD c (Int.toNat ((((a:Nat):Int)*b)+((d:Nat):Int))) 0))) (ab 0 (ae (aa (List.getD c (Int.toNat ((((a:Nat):Int)*b)+((d:Nat):Int))) 0))) (ac (aa (List.getD c (Int.toNat ((((a:Nat):Int)*b)+((d:Nat):Int))) 0)))) (ah (aa (List.getD c (Int.toNat ((((a:Nat):Int)*b)+((d:Nat):Int))) 0))) (ag (aa (List.getD c (Int.toNat ((((a:Nat):Int)*b)+((e:Nat):Int))) 0))) (ab 0 (ae (aa (List.getD c (Int.toNat ((((a:Nat):Int)*b)+((e:Nat):Int))) 0))) (ac (aa (List.getD c (Int.toNat ((((a:Nat):Int)*b)+((e:Nat):Int))) 0)))) (ah (aa (List.getD c (Int.toNat ((((a:Nat):Int)*b)+((e:Nat):Int))) 0))))) (aJ (am (ag (aa (List.getD c (Int.toNat ((((a:Nat):Int)*b)+((d:Nat):Int))) 0))) (ab 0 (ae (aa (List.getD c (Int.toNat ((((a:Nat):Int)*b)+((d:Nat):Int))) 0))) (ac (aa (List.getD c (Int.toNat ((((a:Nat):Int)*b)+((d:Nat):Int))) 0)))) (ah (aa (List.getD c (Int.toNat ((((a:Nat):Int)*b)+((d:Nat):Int))) 0))) (ag (aa (List.getD c (Int.toNat ((((a:Nat):Int)*b)+((e:Nat):Int))) 0))) (ab 0 (ae (aa (List.getD c (Int.toNat ((((a:Nat):Int)*b)+((e:Nat):Int))) 0))) (ac (aa (List.getD c (Int.toNat ((((a:Nat):Int)*b)+((e:Nat):Int))) 0)))) (ah (aa (List.getD c (Int.toNat ((((a:Nat):Int)*b)+((e:Nat):Int))) 0)))))) (aU (am (ag (aa (List.getD c (Int.toNat ((((a:Nat):Int)*b)+((d:Nat):Int))) 0))) (ab 0 (ae (aa (List.getD c (Int.toNat ((((a:Nat):Int)*b)+((d:Nat):Int))) 0))) (ac (aa (List.getD c (Int.toNat ((((a:Nat):Int)*b)+((d:Nat):Int))) 0)))) (ah (aa (List.getD c (Int.toNat ((((a:Nat):Int)*b)+((d:Nat):Int))) 0))) (ag (aa (List.getD c (Int.toNat ((((a:Nat):Int)*b)+((e:Nat):Int))) 0))) (ab 0 (ae (aa (List.getD c (Int.toNat ((((a:Nat):Int)*b)+((e:Nat):Int))) 0))) (ac (aa (List.getD c (Int.toNat ((((a:Nat):Int)*b)+((e:Nat):Int))) 0)))) (ah (aa (List.getD c (Int.toNat ((((a:Nat):Int)*b)+((e:Nat):Int))) 0))))))),(mK (bR h (ab 0 g f) i (aT (am (ag (aa (List.getD c (Int.toNat ((((a:Nat):Int)*b)+((d:Nat):Int))) 0))) (ab 0 (ae (aa (List.getD c (Int.toNat ((((a:Nat):Int)*b)+((d:Nat):Int))) 0))) (ac (aa (List.getD c (Int.toNat ((((a:Nat):Int)*b)+((d:Nat):Int))) 0)))) (ah (aa (List.getD c (Int.toNat ((((a:Nat):Int)*b)+((d:Nat):Int))) 0))) (ag (aa (List.getD c (Int.toNat ((((a:Nat):Int)*b)+((e:Nat):Int))) 0))) (ab 0 (ae (aa (List.getD c (Int.toNat ((((a:Nat):Int)*b)+((e:Nat):Int))) 0))) (ac (aa (List.getD c (Int.toNat ((((a:Nat):Int)*b)+((e:Nat):Int))) 0)))) (ah (aa (List.getD c (Int.toNat ((((a:Nat):Int)*b)+((e:Nat):Int))) 0))))) (ab 0 (aK (am (ag (aa (List.getD c (Int.toNat ((((a:Nat):Int)*b)+((d:Nat):Int))) 0))) (ab 0 (ae (aa (List.getD c (Int.toNat ((((a:Nat):Int)*b)+((d:Nat):Int))) 0))) (ac (aa (List.getD c (Int.toNat ((((a:Nat):Int)*b)+((d:Nat):Int))) 0)))) (ah (aa (List.getD c (Int.toNat ((((a:Nat):Int)*b)+((d:Nat):Int))) 0))) (ag (aa (List.getD c (Int.toNat ((((a:Nat):Int)*b)+((e:Nat):Int))) 0))) (ab 0 (ae (aa (List.getD c (Int.toNat ((((a:Nat):Int)*b)+((e:Nat):Int))) 0))) (ac (aa (List.getD c (Int.toNat ((((a:Nat):Int)*b)+((e:Nat):Int))) 0)))) (ah (aa (List.getD c (Int.toNat ((((a:Nat):Int)*b)+((e:Nat):Int))) 0))))) (aJ (am (ag (aa (List.getD c (Int.toNat ((((a:Nat):Int)*b)+((d:Nat):Int))) 0))) (ab 0 (ae (aa (List.getD c (Int.toNat ((((a:Nat):Int)*b)+((d:Nat):Int))) 0))) (ac (aa (List.getD c (Int.toNat ((((a:Nat):Int)*b)+((d:Nat):Int))) 0)))) (ah (aa (List.getD c (Int.toNat ((((a:Nat):Int)*b)+((d:Nat):Int))) 0))) (ag (aa (List.getD c (Int.toNat ((((a:Nat):Int)*b)+((e:Nat):Int))) 0))) (ab 0 (ae (aa (List.getD c (Int.toNat ((((a:Nat):Int)*b)+((e:Nat):Int))) 0))) (ac (aa (List.getD c (Int.toNat ((((a:Nat):Int)*b)+((e:Nat):Int))) 0)))) (ah (aa (List.getD c (Int.toNat ((((a:Nat):Int)*b)+((e:Nat):Int))) 0)))))) (aU (am (ag (aa (List.getD c (Int.toNat ((((a:Nat):Int)*b)+((d:Nat):Int))) 0))) (ab 0 (ae (aa (List.getD c (Int.toNat ((((a:Nat):Int)*b)+((d:Nat):Int))) 0))) (ac (aa (List.getD c (Int.toNat ((((a:Nat):Int)*b)+((d:Nat):Int))) 0)))) (ah (aa (List.getD c (Int.toNat ((((a:Nat):Int)*b)+((d:Nat):Int))) 0))) (ag (aa (List.getD c (Int.toNat ((((a:Nat):Int)*b)+((e:Nat):Int))) 0))) (ab 0 (ae (aa (List.getD c (Int.toNat ((((a:Nat):Int)*b)+((e:Nat):Int))) 0))) (ac (aa (List.getD c (Int.toNat ((((a:Nat):Int)*b)+((e:Nat):Int))) 0)))) (ah (aa (List.getD c (Int.toNat ((((a:Nat):Int)*b)+((e:Nat):Int))) 0))))))),(mL (bR h (ab 0 g f) i (aT (am (ag (aa (List.getD c (Int.toNat ((((a:Nat):Int)*b)+((d:Nat):Int))) 0))) (ab 0 (ae (aa (List.getD c (Int.toNat ((((a:Nat):Int)*b)+((d:Nat):Int))) 0))) (ac (aa (List.getD c (Int.toNat ((((a:Nat):Int)*b)+((d:Nat):Int))) 0)))) (ah (aa (List.getD c (Int.toNat ((((a:Nat):Int)*b)+((d:Nat):Int))) 0))) (ag (aa (List.getD c (Int.toNat ((((a:Nat):Int)*b)+((e:Nat):Int))) 0))) (ab 0 (ae (aa (List.getD c (Int.toNat ((((a:Nat):Int)*b)+((e:Nat):Int))) 0))) (ac (aa (List.getD c (Int.toNat ((((a:Nat):Int)*b)+((e:Nat):Int))) 0)))) (ah (aa (List.getD c (Int.toNat ((((a:Nat):Int)*b)+((e:Nat):Int))) 0))))) (ab 0 (aK (am (ag (aa (List.getD c (Int.toNat ((((a:Nat):Int)*b)+((d:Nat):Int))) 0))) (ab 0 (ae (aa (List.getD c (Int.toNat ((((a:Nat):Int)*b)+((d:Nat):Int))) 0))) (ac (aa (List.getD c (Int.toNat ((((a:Nat):Int)*b)+((d:Nat):Int))) 0)))) (ah (aa (List.getD c (Int.toNat ((((a:Nat):Int)*b)+((d:Nat):Int))) 0))) (ag (aa (List.getD c (Int.toNat ((((a:Nat):Int)*b)+((e:Nat):Int))) 0))) (ab 0 (ae (aa (List.getD c (Int.toNat ((((a:Nat):Int)*b)+((e:Nat):Int))) 0))) (ac (aa (List.getD c (Int.toNat ((((a:Nat):Int)*b)+((e:Nat):Int))) 0)))) (ah (aa (List.getD c (Int.toNat ((((a:Nat):Int)*b)+((e:Nat):Int))) 0))))) (aJ (am (ag (aa (List.getD c (Int.toNat ((((a:Nat):Int)*b)+((d:Nat):Int))) 0))) (ab 0 (ae (aa (List.getD c (Int.toNat ((((a:Nat):Int)*b)+((d:Nat):Int))) 0))) (ac (aa (List.getD c (Int.toNat ((((a:Nat):Int)*b)+((d:Nat):Int))) 0)))) (ah (aa (List.getD c (Int.toNat ((((a:Nat):Int)*b)+((d:Nat):Int))) 0))) (ag (aa (List.getD c (Int.toNat ((((a:Nat):Int)*b)+((e:Nat):Int))) 0))) (ab 0 (ae (aa (List.getD c (Int.toNat ((((a:Nat):Int)*b)+((e:Nat):Int))) 0))) (ac (aa (List.getD c (Int.toNat ((((a:Nat):Int)*b)+((e:Nat):Int))) 0)))) (ah (aa (List.getD c (Int.toNat ((((a:Nat):Int)*b)+((e:Nat):Int))) 0)))))) (aU (am (ag (aa (List.getD c (Int.toNat ((((a:Nat):Int)*b)+((d:Nat):Int))) 0))) (ab 0 (ae (aa (List.getD c (Int.toNat ((((a:Nat):Int)*b)+((d:Nat):Int))) 0))) (ac (aa (List.getD c (Int.toNat ((((a:Nat):Int)*b)+((d:Nat):Int))) 0)))) (ah (aa (List.getD c (Int.toNat ((((a:Nat):Int)*b)+((d:Nat):Int))) 0))) (ag (aa (List.getD c (Int.toNat ((((a:Nat):Int)*b)+((e:Nat):Int))) 0))) (ab 0 (ae (aa (List.getD c (Int.toNat ((((a:Nat):Int)*b)+((e:Nat):Int))) 0))) (ac (aa (List.getD c (Int.toNat ((((a:Nat):Int)*b)+((e:Nat):Int))) 0)))) (ah (aa (List.getD c (Int.toNat ((((a:Nat):Int)*b)+((e:Nat):Int))) 0))))))))))
    (.leaf (.inr (.inl (h,f,g,i))))
def ab9(a:Nat)(b:Bool)(c:List Int)(d:Nat)(e:Int) :T ((Nat×Bool×(List Int)×Nat×Int)⊕((Bool×(List Int)×Nat×Int)⊕((Bool×(List Int)×Nat×Int)⊕((Bool×(List Int)×Nat×Int)⊕((Bool×(List Int)×Nat×Int)⊕((Bool×(List Int)×Nat×Int)⊕(cj))))))) :=
  .need (di .i64 (((a+1):Nat):Int))<|.leaf (.inl ((a+1),b,c,d,e))
def wn(b:Int)(c:Int)(d:List Nat)(e:Nat)(f:Nat) :Nat×Bool×(List Int)×Nat×Int→Option ((Nat×Bool×(List Int)×Nat×Int)⊕((Bool×(List Int)×Nat×Int)⊕((Bool×(List Int)×Nat×Int)⊕((Bool×(List Int)×Nat×Int)⊕((Bool×(List Int)×Nat×Int)⊕((Bool×(List Int)×Nat×Int)⊕(cj))))))):=fun (a,g,h,i,j) =>
  aC ((wm b c d e f a g h i j).run) fun (k,l,m,n) =>
  (ab9 a k l m n).run
theorem aca(a:Int)(b:Int)(f:Lv)(c:List Nat)(d:Bool)(e:Nat)(g:Nat)(h:Bool)(i:List Int)(j:Nat)(k:Int)(l:Nat)(m:Bool)(n:List Int)(o:Nat)(p:Int) :Sg prog [] ab7 (CC a b f c d e g h i j k (l,m,n,o,p)) (wn a b c e g (l,m,n,o,p)) (CC a b f c d e g h i j k) (cy 4 (Lm a b f c d e g h i j k) (cy 3 (Lk a b f c d e g) (cy 2 (CA a b f c d e) (cy 1 (Cy a b f c d e) (cy 0 (wl d) rS))))):=by
  unfold wn;exact Sg.cut 3 (az (az (az (az (az dg))))) (bj de (ab8 a b f c d e g h i j k l) [⟨[],[0,1,2,3],[1,2,3,4,5,6,7]⟩,⟨[],[0,1,2,3],[1,2,3,4,5,6]⟩]) (fun ⟨q,r,s,t⟩=>bj de _ [⟨[],[0,1,2,3],[1,2,3,4,5,6,7]⟩])
def acb(b:Int)(c:Int)(d:Lv)(a:List Nat)(e:Bool)(f:Nat)(g:Nat)(h:Bool)(i:List Int)(j:Nat)(k:Int) :Bool×(List Int)×Nat×Int→aQ:=fun (l,m,n,o)=>⟨an 65 [(1,.ptr 0 1 0 0),(2,.ptr 1 1 0 0),(3,.ptr 2 1 0 0),(4,.int .i64 ((f:Nat):Int)),(5,.int .i64 ((g:Nat):Int)),(6,.ptr 3 1 0 0)],[(0,.vs [.int .i64 b,.int .i64 c,.imm d (.fl a) 1 1 0 (List.length a)]),(1,.vs [.bool false e,.nsl,.int .i64 (0:Int)]),(2,.vs [.bool false h,.imm .free (.ns .u64 i) 1 1 0 j,.int .i64 k]),(3,.vs [.bool false l,.imm .free (.ns .u64 m) 1 1 0 n,.int .i64 o])],4⟩
def CD(e:Nat)(f:Nat)(c:Bool)(a:List Int)(b:Nat)(d:Int) :T ((Bool×(List Int)×Nat×Int)⊕((Bool×(List Int)×Nat×Int)⊕((Bool×(List Int)×Nat×Int)⊕((Bool×(List Int)×Nat×Int)⊕((Bool×(List Int)×Nat×Int)⊕(cj)))))) :=
  .ask (((e:Nat):Int)==((f:Nat):Int))
    (.need (eR (aF (1:Int)))<|.need (aG 0 b a)<|.need (aG 0 (cp (aF (1:Int))) (co (aF (1:Int))))<|.need (ti (fI c (ab 0 b a) d (cJ (aF (1:Int))) (ab 0 (cp (aF (1:Int))) (co (aF (1:Int)))) (cK (aF (1:Int)))))<|.leaf (.inl ((tZ (fI c (ab 0 b a) d (cJ (aF (1:Int))) (ab 0 (cp (aF (1:Int))) (co (aF (1:Int)))) (cK (aF (1:Int))))),(t4 (fI c (ab 0 b a) d (cJ (aF (1:Int))) (ab 0 (cp (aF (1:Int))) (co (aF (1:Int)))) (cK (aF (1:Int))))),(ua (fI c (ab 0 b a) d (cJ (aF (1:Int))) (ab 0 (cp (aF (1:Int))) (co (aF (1:Int)))) (cK (aF (1:Int))))),(ub (fI c (ab 0 b a) d (cJ (aF (1:Int))) (ab 0 (cp (aF (1:Int))) (co (aF (1:Int)))) (cK (aF (1:Int))))))))
    (.leaf (.inl (c,a,b,d)))
def CE(g:Bool)(e:List Int)(f:Nat)(h:Int)(c:Bool)(a:List Int)(b:Nat)(d:Int) :T ((Bool×(List Int)×Nat×Int)⊕((Bool×(List Int)×Nat×Int)⊕((Bool×(List Int)×Nat×Int)⊕((Bool×(List Int)×Nat×Int)⊕((Bool×(List Int)×Nat×Int)⊕(cj)))))) :=
  .need (aG 0 b a)<|.need (aG 0 b a)<|.need (c8 (am c (ab 0 b a) d c (ab 0 b a) d))<|.need (aG 0 f e)<|.need (aG 0 (aK (am c (ab 0 b a) d c (ab 0 b a) d)) (aJ (am c (ab 0 b a) d c (ab 0 b a) d)))<|.need (nZ (bR g (ab 0 f e) h (aT (am c (ab 0 b a) d c (ab 0 b a) d)) (ab 0 (aK (am c (ab 0 b a) d c (ab 0 b a) d)) (aJ (am c (ab 0 b a) d c (ab 0 b a) d))) (aU (am c (ab 0 b a) d c (ab 0 b a) d))))<|.leaf (.inl ((mI (bR g (ab 0 f e) h (aT (am c (ab 0 b a) d c (ab 0 b a) d)) (ab 0 (aK (am c (ab 0 b a) d c (ab 0 b a) d)) (aJ (am c (ab 0 b a) d c (ab 0 b a) d))) (aU (am c (ab 0 b a) d c (ab 0 b a) d)))),(mJ (bR g (ab 0 f e) h (aT (am c (ab 0 b a) d c (ab 0 b a) d)) (ab 0 (aK (am c (ab 0 b a) d c (ab 0 b a) d)) (aJ (am c (ab 0 b a) d c (ab 0 b a) d))) (aU (am c (ab 0 b a) d c (ab 0 b a) d)))),(mK (bR g (ab 0 f e) h (aT (am c (ab 0 b a) d c (ab 0 b a) d)) (ab 0 (aK (am c (ab 0 b a) d c (ab 0 b a) d)) (aJ (am c (ab 0 b a) d c (ab 0 b a) d))) (aU (am c (ab 0 b a) d c (ab 0 b a) d)))),(mL (bR g (ab 0 f e) h (aT (am c (ab 0 b a) d c (ab 0 b a) d)) (ab 0 (aK (am c (ab 0 b a) d c (ab 0 b a) d)) (aJ (am c (ab 0 b a) d c (ab 0 b a) d))) (aU (am c (ab 0 b a) d c (ab 0 b a) d))))))
def acd(a:Nat)(b:Bool)(c:List Int)(d:Nat)(e:Int) :T ((Nat×Bool×(List Int)×Nat×Int)⊕((Bool×(List Int)×Nat×Int)⊕((Bool×(List Int)×Nat×Int)⊕((Bool×(List Int)×Nat×Int)⊕(cj))))) :=
  .need (di .i64 (((a+1):Nat):Int))<|.leaf (.inl ((a+1),b,c,d,e))
def wo(h:Int)(b:Int)(i:List Nat)(c:Nat) :Nat×Bool×(List Int)×Nat×Int→Option ((Nat×Bool×(List Int)×Nat×Int)⊕((Bool×(List Int)×Nat×Int)⊕((Bool×(List Int)×Nat×Int)⊕((Bool×(List Int)×Nat×Int)⊕(cj))))):=fun (a,d,e,f,g) =>
  aC ((CB b a d e f g).run) fun _ =>
  aC (Di (aC ((Ll).run) fun (j,k,l,m) =>
  aC ((ab6).run) fun _ =>
  aC (dh (wn h b i c a) (0,j,k,l,m)) fun (n,o,p,q) =>
  aC ((CD c a n o p q).run) fun (r,s,t,u) =>
  (CE d e f g r s t u).run)) fun (v,w,x,y) =>
  (acd a v w x y).run
theorem ace(a:Int)(b:Int)(f:Lv)(c:List Nat)(d:Bool)(e:Nat)(g:Nat)(h:Bool)(i:List Int)(j:Nat)(k:Int) :Sg prog [] Lj (Cz a b f c d e (g,h,i,j,k)) (wo a b c e (g,h,i,j,k)) (Cz a b f c d e) (cy 2 (CA a b f c d e) (cy 1 (Cy a b f c d e) (cy 0 (wl d) rS))):=by
  unfold wo;exact Sg.cut 2 (az (az (az dg))) (bj de (ab2 a b f c d e g h i j k) [⟨[],[0,1,2],[1,2,3,4,5]⟩,⟨[],[0,1,2],[1,2,3,4]⟩]) (fun _=>Sg.cut 1 (az (az (az dg))) (sgb (Lk a b f c d e g) 3 (az (az (az dg))) (cD (by decide) (cD (by decide) (cD (by decide) (tj _)))) (Sg.cut 1 (az (az (az (az dg)))) (bj de (ab4 a b f c d e g h i j k) [⟨[],[0,1,2,19],[1,2,3,4,5,6]⟩]) (fun ⟨l,m,n,o⟩=>Sg.cut 1 (az (az (az (az dg)))) (bj de (ab5 a b f c d e g h i j k l m n o) [⟨[],[0,1,2,3],[1,2,3,4,5,6,7]⟩]) (fun _=>Sg.cut 1 (az (az (az (az dg)))) (AD ⟨[],[0,1,2,3],[1,2,3,4,5,6,7]⟩ (CC a b f c d e g h i j k) (Lm a b f c d e g h i j k) 4 (az (az (az (az dg)))) (cD (by decide) (cD (by decide) (cD (by decide) (cD (by decide) (tj _))))) (fun ⟨p,q,r,s,t⟩=>aca a b f c d e g h i j k p q r s t)) (fun ⟨u,v,w,x⟩=>Sg.cut 2 (az (az (az (az dg)))) (bj de (acb a b f c d e g h i j k) [⟨[],[0,1,2,3],[1,2,3,4,5,6]⟩,⟨[],[0,1,2,3],[1,2,3,4,5,6]⟩]) (fun ⟨y,z,A,B⟩=>bj de _ [⟨[],[0,1,2],[1,2,3,4,5]⟩])))))) (fun ⟨C,D,E,F⟩=>bj de _ [⟨[],[0,1,2],[1,2,3,4,5]⟩]))
def acf(a:Bool)(b:List Int)(c:Nat)(d:Int) :T ((Bool×(List Int)×Nat×Int)⊕((Bool×(List Int)×Nat×Int)⊕((Bool×(List Int)×Nat×Int)⊕(cj)))) :=
  .leaf (.inl (a,b,c,d))
def acg(a:Nat)(b:Bool)(c:List Int)(d:Nat)(e:Int) :T ((Nat×Bool×(List Int)×Nat×Int)⊕((Bool×(List Int)×Nat×Int)⊕(cj))) :=
  .need (di .i64 (((a+1):Nat):Int))<|.leaf (.inl ((a+1),b,c,d,e))
def CF(g:Int)(b:Int)(h:List Nat) :Nat×Bool×(List Int)×Nat×Int→Option ((Nat×Bool×(List Int)×Nat×Int)⊕((Bool×(List Int)×Nat×Int)⊕(cj))):=fun (a,c,d,e,f) =>
  aC ((Cx b a c d e f).run) fun _ =>
  aC (Di (aC ((ab1).run) fun _ =>
  aC (dh (wo g b h a) (0,c,d,e,f)) fun (i,j,k,l) =>
  (acf i j k l).run)) fun (m,n,o,p) =>
  (acg a m n o p).run
theorem ach(a:Int)(b:Int)(e:Lv)(c:List Nat)(d:Bool)(f:Nat)(g:Bool)(h:List Int)(i:Nat)(j:Int) :Sg prog [] Li (Cw a b e c d (f,g,h,i,j)) (CF a b c (f,g,h,i,j)) (Cw a b e c d) (cy 0 (wl d) rS):=by
  unfold CF;exact Sg.cut 2 (az dg) (bj de (abY a b e c d f g h i j) [⟨[],[0,1,2],[1,2,3,4]⟩,⟨[],[1,2],[2,3]⟩]) (fun _=>Sg.cut 1 (az dg) (sgb (Cy a b e c d f) 1 (az dg) (cD (by decide) (tj _)) (Sg.cut 1 (az (az dg)) (bj de (ab0 a b e c d f g h i j) [⟨[],[0,1,2],[1,2,3,4,5]⟩]) (fun _=>Sg.cut 1 (az (az dg)) (AD ⟨[],[0,1,2],[1,2,3,4,5]⟩ (Cz a b e c d f) (CA a b e c d f) 2 (az (az dg)) (cD (by decide) (cD (by decide) (tj _))) (fun ⟨k,l,m,n,o⟩=>ace a b e c d f k l m n o)) (fun ⟨p,q,r,s⟩=>bj de _ [⟨[],[0,1,2],[1,2,3,4]⟩])))) (fun ⟨t,u,v,w⟩=>bj de _ [⟨[],[0,1,2],[1,2,3,4]⟩]))
def aci(a:Bool)(b:List Int)(c:Nat)(d:Int) :T ((Empty)⊕(cj)) :=
  .leaf (.inr (.r0 a b c d))
def cx(a:Int)(b:Int)(c:List Nat) :Option cj:=jM (aC ((Lh).run) fun (l,d,e,f,g) =>
  aC ((abX).run) fun _ =>
  aC (dh (CF a b c) (0,d,e,f,g)) fun (h,i,j,k) =>
  (aci h i j k).run)
theorem agb(b:Int)(c:Int)(d:Lv)(a:List Nat){x:cj}(h:cx b c a=some x) :ay prog Ax [] [.agg [.int .i64 b,.int .i64 c,.imm d (.fl a) 1 1 0 (List.length a)]] (Ix x) :=
  kf true Ix rS h (Sg.cut 2 dg (bj de (af9 b c d a) [⟨[],[0,16,48],[1,2,3]⟩]) (fun ⟨e,f,g,i,j⟩=>Sg.cut 1 dg (bj de (aga b c d a e f g i j) [⟨[],[0,1,2],[1,2,3,4]⟩]) (fun _=>Sg.cut 1 dg (AD ⟨[],[0,1,2],[1,2,3,4]⟩ (Cw b c d a e) (wl e) 0 dg (tj _) (fun ⟨k,l,m,n,o⟩=>ach b c d a e k l m n o)) (fun ⟨t,u,v,w⟩=>bj de _ [⟨[],[0],[2]⟩]))))
    (fun x=>by cases x with | r0 p q r s=>exact jN [.agg [.bool false p,.imm .free (.ns .u64 q) 1 1 0 r,.int .i64 s]])
def qa:Option cj→Bool
  | some _=>true
  | none=>false
def lD:Option cj→Bool
  | some (.r0 x _ _ _)=>x
  | _=>false
def iR:Option cj→List Int
  | some (.r0 _ x _ _)=>x
  | _=>[]
def iS:Option cj→Nat
  | some (.r0 _ _ x _)=>x
  | _=>0
def lE:Option cj→Int
  | some (.r0 _ _ _ x)=>x
  | _=>0
theorem agc{x:Option cj}(h:qa x=true) :x=some (.r0 (lD x) (iR x) (iS x) (lE x)):=by
  unfold qa at h
  split at h<;>first | rfl | (cases h;done) | (rename_i y;cases y;rfl)
def Sz:aM:=bK Ax (.cons (.agg (.cons (.int .i64) (.cons (.int .i64) (.cons .fl .nil)))) .nil) fun t=>(fun q=>[⟨Ix (.r0 (lD q) (iR q) (iS q) (lE q)),[qa q]⟩]) (cx t.1.1 t.1.2.1 t.1.2.2.1.2)
theorem Xz:aY prog Sz:=aR fun t=>(aS (fun h=>agb t.1.1 t.1.2.1 t.1.2.2.1.1 t.1.2.2.1.2 (agc h)) bc)
def SA:List aM:=Sz::Sy
theorem uc:be prog (bh SA):=ax Xz de
inductive gg where
  | r0 (a:Bool)
def wq:gg→AE×aQ
  | .r0 a=>(.ret,⟨an 20 [(2,.bool false a)],[],0⟩)
theorem Aj:jJ wq:=by intro x;cases x<;>(intro h;cases h)
theorem XA(id:Nat) :mP id wq:=by intro x;cases x<;>(intro h;cases h)
def CG:gg→gM
  | .r0 a=>⟨.bool false a,[]⟩
def XB:List Code:=cN (oa Bq)
def XC(b:Lv)(a:List Nat)(_:Unit) :aQ:=⟨an 20 [(0,.imm b (.fl a) 1 1 0 (List.length a)),(3,.int .i64 (0:Int))],[],0⟩
def XD:T ((Unit)⊕(gg)) :=
  .leaf (.inl ())
def Ak(b:Lv)(a:List Nat)(c:Nat) :aQ:=⟨an 20 [(0,.imm b (.fl a) 1 1 0 (List.length a)),(3,.int .i64 ((c:Nat):Int))],[],0⟩
def Jc(_:Unit) :aQ:=⟨an 20 [],[],0⟩
def XE:List Code:=cN (dn ((((XB.drop 2).take 1)).headD .skip))
def pW(b:List Nat)(a:Nat) :T ((Nat)⊕((Unit)⊕(gg))) :=
  .ask (decide (((a:Nat):Int)<(((List.length b):Nat):Int)))
    (.need (fv ((a:Nat):Int) (List.length b))<|.need (g9 a (List.length b))<|.need (fv ((a:Nat):Int) (List.length b))<|.need (g9 a (List.length b))<|.ask (X4 (alW (List.getD b a 0) (List.getD b a 0)) 0)
      (.leaf (.inr (.inr (.r0 false))))
      (.need (di .i64 (((a+1):Nat):Int))<|.leaf (.inl (a+1))))
    (.leaf (.inr (.inl ())))
def rT(a:List Nat) :Nat→Option ((Nat)⊕((Unit)⊕(gg))):=fun b =>
  (pW a b).run
theorem Ul(b:Lv)(a:List Nat)(c:Nat) :Sg prog [] XE (Ak b a c) (rT a c) (Ak b a) (cy 0 Jc wq):=by
  unfold rT;exact bj uc _ [⟨[],[],[2]⟩,⟨[],[],[0,3]⟩,⟨[],[],[]⟩]
def Um:T ((Empty)⊕(gg)) :=
  .leaf (.inr (.r0 true))
def gh(a:List Nat) :Option gg:=jM (aC ((XD).run) fun _ =>
  aC (dh (rT a) 0) fun _ =>
  (Um).run)
theorem XF(b:Lv)(a:List Nat){x:gg}(h:gh a=some x) :ay prog Bq [] [.imm b (.fl a) 1 1 0 (List.length a)] (CG x) :=
  kf false CG wq h (Sg.cut 2 Aj (bj uc (XC b a) [⟨[],[],[0,3]⟩]) (fun _=>Sg.cut 1 Aj (AD ⟨[],[],[0,3]⟩ (Ak b a) (Jc) 0 Aj (XA _) (fun c=>Ul b a c)) (fun _=>bj uc _ [⟨[],[],[2]⟩])))
    (fun x=>by cases x with | r0 d=>exact jN [.bool false d])
def lF:Option gg→Bool
  | some _=>true
  | none=>false
def lg:Option gg→Bool
  | some (.r0 x)=>x
  | _=>false
theorem XG{x:Option gg}(h:lF x=true) :x=some (.r0 (lg x)):=by
  unfold lF at h
  split at h<;>first | rfl | (cases h;done) | (rename_i y;cases y;rfl)
def Ln:aM:=bK Bq (.cons .fl .nil) fun t=>(fun q=>[⟨CG (.r0 (lg q)),[lF q]⟩]) (gh t.1.2)
theorem SB:aY prog Ln:=aR fun t=>(aS (fun h=>XF t.1.1 t.1.2 (XG h)) bc)
def Lo:List aM:=Ln::SA
theorem cA:be prog (bh Lo):=ax SB uc
end
end Go.Plb.Seat
