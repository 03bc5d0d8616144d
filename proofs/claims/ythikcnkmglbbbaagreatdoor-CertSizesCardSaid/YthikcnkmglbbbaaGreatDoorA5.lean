/-
  Part 5 of what the claim leans on: an evaluator of the model, proved sound; the contracts of the functions.
-/
import Derived.Test.YthikcnkmglbbbaaGreatDoorA4
namespace Go.Plb.Seat
open Go Go.Plb
set_option linter.unusedVariables false
set_option maxRecDepth 100000
noncomputable section
inductive dq where
  | r0 (a:Nat) (b:Bool) (c:List Int) (d:Nat) (e:Nat) (f:Int)
def sU:dq→AE×aL
  | .r0 a b c d e f=>(.ret,⟨ah 78 [(8,.ptr 0 1 0 0),(9,.int .i64 ((a:Nat):Int))],[(0,.vs [.bool false b,.imm .free (.ns .u64 c) 1 1 d e,.int .i64 f])],1⟩)
theorem BT:kR sU:=by intro x;cases x <;> (intro h;cases h)
def El:dq→jc
  | .r0 a b c d e f=>⟨.tup [.agg [.bool false b,.imm .free (.ns .u64 c) 1 1 d e,.int .i64 f],.int .i64 ((a:Nat):Int)],[]⟩
def v3:List Code:=bJ (bi je)
def Ki(e:Int)(f:Int)(g:Lv)(a:List Nat)(h:Int)(i:Int)(j:Lv)(b:List Nat)(k:Int)(l:Int)(m:Lv)(c:List Nat)(n:Lv)(d:List Nat)(o:Bool) :aL:=⟨ah 78 [(3,.imm n (.fl d) 1 1 0 (List.length d)),(4,.ptr 0 1 0 0),(5,.ptr 1 1 0 0),(6,.ptr 2 1 0 0),(8,.ptr 3 1 0 0)],[(0,.vs [.int .i64 e,.int .i64 f,.imm g (.fl a) 1 1 0 (List.length a)]),(1,.vs [.int .i64 h,.int .i64 i,.imm j (.fl b) 1 1 0 (List.length b)]),(2,.vs [.int .i64 k,.int .i64 l,.imm m (.fl c) 1 1 0 (List.length c)]),(3,.vs [.bool false o,.nsl,.int .i64 (0:Int)])],4⟩
def BU(f : Int)(g : Int)(a : List Nat)(h : Int)(e : Int)(b : List Nat)(i : Int)(j : Int)(c : List Nat)(d : List Nat) : T ((Bool) ⊕ (dq)) :=
  .ask (decide ((0 : Int) < (3 : Int)))
    (.need (iS (0 : Int) 3) <| .need (aQ 0 (List.length a) a) <| .need (i5 (dG f g (aa 0 (List.length a) a))) <| .ask (ib (dG f g (aa 0 (List.length a) a)))
      (.ask (!(!(decide ((0:Int) ≥ (0:Int)))))
        (.leaf (.inr (.r0 2 false ([]:List Int) 0 0 (0:Int))))
        (.fail))
      (.need (d8 .i64 (1 : Int)) <| .ask (decide ((1 : Int) < (3 : Int)))
        (.need (iS (1 : Int) 3) <| .need (aQ 0 (List.length b) b) <| .need (i5 (dG h e (aa 0 (List.length b) b))) <| .ask (ib (dG h e (aa 0 (List.length b) b)))
          (.ask (!(!(decide ((1:Int) ≥ (0:Int)))))
            (.leaf (.inr (.r0 2 false ([]:List Int) 0 0 (0:Int))))
            (.fail))
          (.need (d8 .i64 (2 : Int)) <| .ask (decide ((2 : Int) < (3 : Int)))
            (.need (iS (2 : Int) 3) <| .need (aQ 0 (List.length c) c) <| .need (i5 (dG i j (aa 0 (List.length c) c))) <| .ask (ib (dG i j (aa 0 (List.length c) c)))
              (.ask (!(!(decide ((2:Int) ≥ (0:Int)))))
                (.leaf (.inr (.r0 2 false ([]:List Int) 0 0 (0:Int))))
                (.fail))
              (.need (d8 .i64 (3:Int))<|.ask (decide ((3:Int) < (3:Int)))
                (.fail)
                (.ask (!(!(decide ((-1:Int) ≥ (0:Int)))))
                  (.fail)
                  (.ask (!(h == g && e == e))
                    (.leaf (.inr (.r0 8 false ([]:List Int) 0 0 (0:Int))))
                    (.ask (!(i == f && j == e))
                      (.leaf (.inr (.r0 8 false ([]:List Int) 0 0 (0:Int))))
                      (.ask ((((List.length d):Nat):Int) != e)
                        (.leaf (.inr (.r0 8 false ([]:List Int) 0 0 (0:Int))))
                        (.ask (decide ((0:Int) < (4:Int)))
                          (.need (iS (0 : Int) 4) <| .need (aQ 0 (List.length a) a) <| .need (ba (az (aa 0 (List.length a) a))) <| .ask (decide ((bc (az (aa 0 (List.length a) a))) ≥ (0 : Int)))
                            (.leaf (.inr (.r0 10 false ([]:List Int) 0 0 (0:Int))))
                            (.need (d8 .i64 (1:Int))<|.ask (decide ((1:Int) < (4:Int)))
                              (.need (iS (1:Int) 4)<|.need (aQ 0 (List.length b) b)<|.need (ba (az (aa 0 (List.length b) b)))<|.ask (decide ((bc (az (aa 0 (List.length b) b))) ≥ (0:Int)))
                                (.leaf (.inr (.r0 10 false ([]:List Int) 0 0 (0:Int))))
                                (.need (d8 .i64 (2:Int))<|.ask (decide ((2:Int) < (4:Int)))
                                  (.need (iS (2:Int) 4)<|.need (aQ 0 (List.length c) c)<|.need (ba (az (aa 0 (List.length c) c)))<|.ask (decide ((bc (az (aa 0 (List.length c) c))) ≥ (0:Int)))
                                    (.leaf (.inr (.r0 10 false ([]:List Int) 0 0 (0:Int))))
                                    (.need (d8 .i64 (3:Int))<|.ask (decide ((3:Int) < (4:Int)))
                                      (.need (iS (3:Int) 4)<|.need (aQ 0 (List.length d) d)<|.need (ba (az (aa 0 (List.length d) d)))<|.ask (decide ((bc (az (aa 0 (List.length d) d))) ≥ (0:Int)))
                                        (.leaf (.inr (.r0 10 false ([]:List Int) 0 0 (0:Int))))
                                        (.need (d8 .i64 (4:Int))<|.ask (decide ((4:Int) < (4:Int)))
                                          (.fail)
                                          (.leaf (.inl false))))
                                      (.fail)))
                                  (.fail)))
                              (.fail)))
                          (.fail))))))))
            (.fail)))
        (.fail)))
    (.fail)
def Kj(h:Int)(i:Int)(j:Lv)(a:List Nat)(k:Int)(l:Int)(m:Lv)(b:List Nat)(n:Int)(o:Int)(p:Lv)(c:List Nat)(q:Bool) :Nat×(List Bool)×(List (List Int))×(List Int)×Nat×(List Bool)×(List (List Int))×(List Int)×Nat×(List Bool)×(List (List Int))×(List Int)×Nat×(List Bool)×(List (List Int))×(List Int)→aL:=fun (d,r,s,t,e,u,v,w,f,x,y,z,g,A,B,C)=>⟨ah 78 [(4,.ptr 0 1 0 0),(5,.ptr 1 1 0 0),(6,.ptr 2 1 0 0),(8,.ptr 3 1 0 0),(10,.ptr 4 1 0 0),(11,.ptr 5 1 0 0),(12,.ptr 6 1 0 0),(13,.ptr 7 1 0 0)],[(0,.vs [.int .i64 h,.int .i64 i,.imm j (.fl a) 1 1 0 (List.length a)]),(1,.vs [.int .i64 k,.int .i64 l,.imm m (.fl b) 1 1 0 (List.length b)]),(2,.vs [.int .i64 n,.int .i64 o,.imm p (.fl c) 1 1 0 (List.length c)]),(3,.vs [.bool false q,.nsl,.int .i64 (0:Int)]),(4,.vs [.imm .free (.cols d [.cb r,.cns .u64 s,.ci .i64 t]) 3 3 0 d]),(5,.vs [.imm .free (.cols e [.cb u,.cns .u64 v,.ci .i64 w]) 3 3 0 e]),(6,.vs [.imm .free (.cols f [.cb x,.cns .u64 y,.ci .i64 z]) 3 3 0 f]),(7,.vs [.imm .free (.cols g [.cb A,.cns .u64 B,.ci .i64 C]) 3 3 0 g])],8⟩
def v4(a:List Nat)(b:List Nat)(c:List Nat)(d:List Nat) :T ((Nat×(List Bool)×(List (List Int))×(List Int)×Nat×(List Bool)×(List (List Int))×(List Int)×Nat×(List Bool)×(List (List Int))×(List Int)×Nat×(List Bool)×(List (List Int))×(List Int))⊕(dq)) :=
  .need (aQ 0 (List.length a) a)<|.need (jU (aB (aa 0 (List.length a) a)))<|.need (aQ 0 (List.length b) b)<|.need (jU (aB (aa 0 (List.length b) b)))<|.need (aQ 0 (List.length c) c)<|.need (jU (aB (aa 0 (List.length c) c)))<|.need (aQ 0 (List.length d) d)<|.need (jU (aB (aa 0 (List.length d) d)))<|.leaf (.inl ((aX (aB (aa 0 (List.length a) a))),(dJ (aB (aa 0 (List.length a) a))),(dK (aB (aa 0 (List.length a) a))),(dL (aB (aa 0 (List.length a) a))),(aX (aB (aa 0 (List.length b) b))),(dJ (aB (aa 0 (List.length b) b))),(dK (aB (aa 0 (List.length b) b))),(dL (aB (aa 0 (List.length b) b))),(aX (aB (aa 0 (List.length c) c))),(dJ (aB (aa 0 (List.length c) c))),(dK (aB (aa 0 (List.length c) c))),(dL (aB (aa 0 (List.length c) c))),(aX (aB (aa 0 (List.length d) d))),(dJ (aB (aa 0 (List.length d) d))),(dK (aB (aa 0 (List.length d) d))),(dL (aB (aa 0 (List.length d) d)))))
def Kk:Nat×Bool×(List Int)×Nat×Nat×Int→aL:=fun (a,b,c,d,e,f)=>⟨ah 78 [(8,.ptr 0 1 0 0),(9,.int .i64 ((a:Nat):Int))],[(0,.vs [.bool false b,.imm .free (.ns .u64 c) 1 1 d e,.int .i64 f])],1⟩
def v5(i:Int)(e:List Nat)(j:Int)(f:List Nat)(k:Int)(h:Int)(g:List Nat)(a:Nat)(l:List Bool)(m:List (List Int))(n:List Int)(b:Nat)(o:List Bool)(p:List (List Int))(q:List Int)(c:Nat)(r:List Bool)(s:List (List Int))(t:List Int)(d:Nat)(u:List Bool)(v:List (List Int))(w:List Int) :T ((Nat×Bool×(List Int)×Nat×Nat×Int)⊕(dq)) :=
  .need (Nat.ble (0+a) a)<|.need (aQ 0 (List.length e) e)<|.need (Nat.ble (0+b) b)<|.need (aQ 0 (List.length f) f)<|.need (Nat.ble (0+c) c)<|.need (aQ 0 (List.length g) g)<|.need (Nat.ble (0+d) d)<|.need (fS (aV k h a (aa 0 a l) (aa 0 a m) (aa 0 a n) i (aa 0 (List.length e) e) b (aa 0 b o) (aa 0 b p) (aa 0 b q) j (aa 0 (List.length f) f) c (aa 0 c r) (aa 0 c s) (aa 0 c t) h (aa 0 (List.length g) g) d (aa 0 d u) (aa 0 d v) (aa 0 d w)))<|.leaf (.inl ((iC (aV k h a (aa 0 a l) (aa 0 a m) (aa 0 a n) i (aa 0 (List.length e) e) b (aa 0 b o) (aa 0 b p) (aa 0 b q) j (aa 0 (List.length f) f) c (aa 0 c r) (aa 0 c s) (aa 0 c t) h (aa 0 (List.length g) g) d (aa 0 d u) (aa 0 d v) (aa 0 d w))),(iD (aV k h a (aa 0 a l) (aa 0 a m) (aa 0 a n) i (aa 0 (List.length e) e) b (aa 0 b o) (aa 0 b p) (aa 0 b q) j (aa 0 (List.length f) f) c (aa 0 c r) (aa 0 c s) (aa 0 c t) h (aa 0 (List.length g) g) d (aa 0 d u) (aa 0 d v) (aa 0 d w))),(iE (aV k h a (aa 0 a l) (aa 0 a m) (aa 0 a n) i (aa 0 (List.length e) e) b (aa 0 b o) (aa 0 b p) (aa 0 b q) j (aa 0 (List.length f) f) c (aa 0 c r) (aa 0 c s) (aa 0 c t) h (aa 0 (List.length g) g) d (aa 0 d u) (aa 0 d v) (aa 0 d w))),(iF (aV k h a (aa 0 a l) (aa 0 a m) (aa 0 a n) i (aa 0 (List.length e) e) b (aa 0 b o) (aa 0 b p) (aa 0 b q) j (aa 0 (List.length f) f) c (aa 0 c r) (aa 0 c s) (aa 0 c t) h (aa 0 (List.length g) g) d (aa 0 d u) (aa 0 d v) (aa 0 d w))),(iG (aV k h a (aa 0 a l) (aa 0 a m) (aa 0 a n) i (aa 0 (List.length e) e) b (aa 0 b o) (aa 0 b p) (aa 0 b q) j (aa 0 (List.length f) f) c (aa 0 c r) (aa 0 c s) (aa 0 c t) h (aa 0 (List.length g) g) d (aa 0 d u) (aa 0 d v) (aa 0 d w))),(iH (aV k h a (aa 0 a l) (aa 0 a m) (aa 0 a n) i (aa 0 (List.length e) e) b (aa 0 b o) (aa 0 b p) (aa 0 b q) j (aa 0 (List.length f) f) c (aa 0 c r) (aa 0 c s) (aa 0 c t) h (aa 0 (List.length g) g) d (aa 0 d u) (aa 0 d v) (aa 0 d w)))))
def Kl(a:Nat)(b:Bool)(c:List Int)(d:Nat)(e:Nat)(f:Int) :T ((Empty)⊕(dq)) :=
  .leaf (.inr (.r0 a b c d e f))
def dr(i:Int)(d:Int)(a:List Nat)(j:Int)(e:Int)(b:List Nat)(f:Int)(g:Int)(c:List Nat)(h:List Nat) :Option dq:=ld (aC ((BU i d a j e b f g c h).run) fun G =>
  aC ((v4 a b c h).run) fun (k,l,m,n,o,p,q,r,s,t,u,v,w,x,y,z) =>
  aC ((v5 d a e b f g c k l m n o p q r s t u v w x y z).run) fun (A,B,C,D,E,F) =>
  (Kl A B C D E F).run)
theorem ZE(k:Int)(e:Int)(m:Lv)(b:List Nat)(l:Int)(f:Int)(n:Lv)(c:List Nat)(g:Int)(i:Int)(o:Lv)(d:List Nat)(p:Lv)(j:List Nat){x:dq}(h:dr k e b l f c g i d j=some x) :aw prog je [] [.agg [.int .i64 k,.int .i64 e,.imm m (.fl b) 1 1 0 (List.length b)],.agg [.int .i64 l,.int .i64 f,.imm n (.fl c) 1 1 0 (List.length c)],.agg [.int .i64 g,.int .i64 i,.imm o (.fl d) 1 1 0 (List.length d)],.imm p (.fl j) 1 1 0 (List.length j)] (El x) :=
  Sg.contract true El (by kernel_rfl:prog.funcs[je]? = some (FN je)) (by kernel_rfl:(FN je).body=some (bi je)) (Sg.cut 2 BT (Sg.seg (C:=C0) an dN 60 (v3.take 2) (aT (FN je) [] [.agg [.int .i64 k,.int .i64 e,.imm m (.fl b) 1 1 0 (List.length b)],.agg [.int .i64 l,.int .i64 f,.imm n (.fl c) 1 1 0 (List.length c)],.agg [.int .i64 g,.int .i64 i,.imm o (.fl d) 1 1 0 (List.length d)],.imm p (.fl j) 1 1 0 (List.length j)]) (BU k e b l f c g i d j) (Ki k e m b l f n c g i o d p j) sU [⟨[(.cell 48 1,.fre 1 1 (.ns .u64 ([]:List Int)))],[48],[8,9]⟩,⟨[(.cell 48 1,.fre 1 1 (.ns .u64 ([]:List Int)))],[48],[8,9]⟩,⟨[(.cell 48 1,.fre 1 1 (.ns .u64 ([]:List Int)))],[48],[8,9]⟩,⟨[(.cell 48 1,.fre 1 1 (.ns .u64 ([]:List Int)))],[48],[8,9]⟩,⟨[(.cell 48 1,.fre 1 1 (.ns .u64 ([]:List Int)))],[48],[8,9]⟩,⟨[(.cell 48 1,.fre 1 1 (.ns .u64 ([]:List Int)))],[48],[8,9]⟩,⟨[(.cell 48 1,.fre 1 1 (.ns .u64 ([]:List Int)))],[48],[8,9]⟩,⟨[(.cell 48 1,.fre 1 1 (.ns .u64 ([]:List Int)))],[48],[8,9]⟩,⟨[(.cell 48 1,.fre 1 1 (.ns .u64 ([]:List Int)))],[48],[8,9]⟩,⟨[(.cell 48 1,.fre 1 1 (.ns .u64 ([]:List Int)))],[48],[8,9]⟩,⟨[],[0,16,32,48],[3,4,5,6,8]⟩] (by kernel_rfl)) (fun q=>by exact Sg.cut 1 BT (Sg.seg (C:=C0) an dN 60 ((v3.drop 2).take 1) (Ki k e m b l f n c g i o d p j q) (v4 b c d j) (Kj k e m b l f n c g i o d q) sU [⟨[],[0,1,2,3,180,196,212,228],[4,5,6,8,10,11,12,13]⟩] (by kernel_rfl)) (fun a=>by obtain ⟨r,s,t,u,v,w,y,z,A,B,D,E,F,G,H,I⟩:=a;exact Sg.cut 1 BT (Sg.seg (C:=C0) an dN 60 (((v3.drop 2).drop 1).take 1) (Kj k e m b l f n c g i o d q (r,s,t,u,v,w,y,z,A,B,D,E,F,G,H,I)) (v5 e b f c g i d r s t u v w y z A B D E F G H I) Kk sU [⟨[],[3],[8,9]⟩] (by kernel_rfl)) (fun a=>by obtain ⟨J,K,L,M,N,O⟩:=a;exact Sg.seg (C:=C0) an dN 60 (((v3.drop 2).drop 1).drop 1) (Kk (J,K,L,M,N,O)) (Kl J K L M N O) (fun a:Empty=>a.elim) sU [⟨[],[0],[8,9]⟩] (by kernel_rfl)))))
    (fun x=>by cases x with | r0 P Q R S T U=>exact ⟨.inr rfl,[.agg [.bool false Q,.imm .free (.ns .u64 R) 1 1 S T,.int .i64 U],.int .i64 ((P:Nat):Int)],[],by kernel_rfl,trivial,by kernel_rfl⟩) h
def v6:Option dq→Bool
  | some _=>true
  | none=>false
def yC:Option dq→Nat
  | some (.r0 x _ _ _ _ _)=>x
  | _=>0
def yD:Option dq→Bool
  | some (.r0 _ x _ _ _ _)=>x
  | _=>false
def yE:Option dq→List Int
  | some (.r0 _ _ x _ _ _)=>x
  | _=>[]
def yF:Option dq→Nat
  | some (.r0 _ _ _ x _ _)=>x
  | _=>0
def yG:Option dq→Nat
  | some (.r0 _ _ _ _ x _)=>x
  | _=>0
def yH:Option dq→Int
  | some (.r0 _ _ _ _ _ x)=>x
  | _=>0
theorem ZF{x:Option dq}(h:v6 x=true) :x=some (.r0 (yC x) (yD x) (yE x) (yF x) (yG x) (yH x)):=by
  unfold v6 at h
  split at h <;> first | rfl | (cases h;done) | (rename_i y;cases y;rfl)
def MY:aJ:=bW je (.cons (.agg (.cons (.int .i64) (.cons (.int .i64) (.cons .fl .nil)))) (.cons (.agg (.cons (.int .i64) (.cons (.int .i64) (.cons .fl .nil)))) (.cons (.agg (.cons (.int .i64) (.cons (.int .i64) (.cons .fl .nil)))) (.cons .fl .nil)))) fun t=>[⟨El (.r0 (yC (dr t.1.1 t.1.2.1 t.1.2.2.1.2 t.2.1.1 t.2.1.2.1 t.2.1.2.2.1.2 t.2.2.1.1 t.2.2.1.2.1 t.2.2.1.2.2.1.2 t.2.2.2.1.2)) (yD (dr t.1.1 t.1.2.1 t.1.2.2.1.2 t.2.1.1 t.2.1.2.1 t.2.1.2.2.1.2 t.2.2.1.1 t.2.2.1.2.1 t.2.2.1.2.2.1.2 t.2.2.2.1.2)) (yE (dr t.1.1 t.1.2.1 t.1.2.2.1.2 t.2.1.1 t.2.1.2.1 t.2.1.2.2.1.2 t.2.2.1.1 t.2.2.1.2.1 t.2.2.1.2.2.1.2 t.2.2.2.1.2)) (yF (dr t.1.1 t.1.2.1 t.1.2.2.1.2 t.2.1.1 t.2.1.2.1 t.2.1.2.2.1.2 t.2.2.1.1 t.2.2.1.2.1 t.2.2.1.2.2.1.2 t.2.2.2.1.2)) (yG (dr t.1.1 t.1.2.1 t.1.2.2.1.2 t.2.1.1 t.2.1.2.1 t.2.1.2.2.1.2 t.2.2.1.1 t.2.2.1.2.1 t.2.2.1.2.2.1.2 t.2.2.2.1.2)) (yH (dr t.1.1 t.1.2.1 t.1.2.2.1.2 t.2.1.1 t.2.1.2.1 t.2.1.2.2.1.2 t.2.2.1.1 t.2.2.1.2.1 t.2.2.1.2.2.1.2 t.2.2.2.1.2))),[v6 (dr t.1.1 t.1.2.1 t.1.2.2.1.2 t.2.1.1 t.2.1.2.1 t.2.1.2.2.1.2 t.2.2.1.1 t.2.2.1.2.1 t.2.2.1.2.2.1.2 t.2.2.2.1.2)]⟩]
theorem Vh:aU prog MY:=aO fun t=>(aP (fun h=>ZE t.1.1 t.1.2.1 t.1.2.2.1.1 t.1.2.2.1.2 t.2.1.1 t.2.1.2.1 t.2.1.2.2.1.1 t.2.1.2.2.1.2 t.2.2.1.1 t.2.2.1.2.1 t.2.2.1.2.2.1.1 t.2.2.1.2.2.1.2 t.2.2.2.1.1 t.2.2.2.1.2 (ZF h)) aW)
def MZ:List aJ:=MY :: oE
theorem so:aY prog (bb MZ):=au Vh dN
inductive kj where
  | r0 (a:Bool) (b:Int)
def FK:kj→AE×aL
  | .r0 a b=>(.ret,⟨ah 24 [(5,.bool false a),(6,.int .i64 b)],[],0⟩)
theorem Tu:kR FK:=by intro x;cases x <;> (intro h;cases h)
def Mo:kj→jc
  | .r0 a b=>⟨.tup [.bool false a,.int .i64 b],[]⟩
def JC:List Code:=bJ (bi pg)
def Tv(c:Lv)(d:Bool)(e:Lv)(a:List Int)(f:Int)(g:Lv)(h:Bool)(i:Lv)(b:List Int)(j:Int) :Nat×Bool×(List Int)×Nat×Nat×Int→aL:=fun (k,l,m,n,o,p)=>⟨ah 24 [(3,.iptr c (.vs [.bool false d,.imm e (.ns .u64 a) 1 1 0 (List.length a),.int .i64 f]) 1 0 0),(4,.iptr g (.vs [.bool false h,.imm i (.ns .u64 b) 1 1 0 (List.length b),.int .i64 j]) 1 0 0),(7,.ptr 0 1 0 0),(8,.int .i64 ((k:Nat):Int))],[(0,.vs [.bool false l,.imm .free (.ns .u64 m) 1 1 n o,.int .i64 p])],1⟩
def JD(f:Int)(g:Int)(b:List Nat)(d:Int)(e:Int)(a:List Nat)(c:List Nat) :T ((Nat×Bool×(List Int)×Nat×Nat×Int)⊕(kj)) :=
  .need (aQ 0 (List.length b) b)<|.need (aQ 0 (List.length a) a)<|.need (aQ 0 (List.length a) a)<|.need (aQ 0 (List.length c) c)<|.need (v6 (dr f g (aa 0 (List.length b) b) d e (aa 0 (List.length a) a) d e (aa 0 (List.length a) a) (aa 0 (List.length c) c)))<|.leaf (.inl ((yC (dr f g (aa 0 (List.length b) b) d e (aa 0 (List.length a) a) d e (aa 0 (List.length a) a) (aa 0 (List.length c) c))),(yD (dr f g (aa 0 (List.length b) b) d e (aa 0 (List.length a) a) d e (aa 0 (List.length a) a) (aa 0 (List.length c) c))),(yE (dr f g (aa 0 (List.length b) b) d e (aa 0 (List.length a) a) d e (aa 0 (List.length a) a) (aa 0 (List.length c) c))),(yF (dr f g (aa 0 (List.length b) b) d e (aa 0 (List.length a) a) d e (aa 0 (List.length a) a) (aa 0 (List.length c) c))),(yG (dr f g (aa 0 (List.length b) b) d e (aa 0 (List.length a) a) d e (aa 0 (List.length a) a) (aa 0 (List.length c) c))),(yH (dr f g (aa 0 (List.length b) b) d e (aa 0 (List.length a) a) d e (aa 0 (List.length a) a) (aa 0 (List.length c) c)))))
def Tw:Bool×Int→aL:=fun (a,b)=>⟨ah 24 [(5,.bool false a),(6,.int .i64 b)],[],0⟩
def Dh(f:Bool)(a:List Int)(g:Int)(h:Bool)(b:List Int)(i:Int)(j:Nat)(k:Bool)(c:List Int)(d:Nat)(e:Nat)(l:Int) :T ((Bool×Int)⊕(kj)) :=
  .need (aQ d e c)<|.need (aQ 0 (List.length a) a)<|.need (aQ 0 (List.length b) b)<|.need (xj (iu k (aa d e c) l ((j:Nat):Int) f (aa 0 (List.length a) a) g h (aa 0 (List.length b) b) i))<|.leaf (.inl ((xY (iu k (aa d e c) l ((j:Nat):Int) f (aa 0 (List.length a) a) g h (aa 0 (List.length b) b) i)),(xZ (iu k (aa d e c) l ((j:Nat):Int) f (aa 0 (List.length a) a) g h (aa 0 (List.length b) b) i))))
def Tx(a:Bool)(b:Int) :T ((Empty)⊕(kj)) :=
  .leaf (.inr (.r0 a b))
def lL(a:Int)(b:Int)(c:List Nat)(d:Int)(e:Int)(f:List Nat)(g:List Nat)(h:Bool)(i:List Int)(j:Int)(k:Bool)(l:List Int)(m:Int) :Option kj:=ld (aC ((JD a b c d e f g).run) fun (n,o,p,q,r,s) =>
  aC ((Dh h i j k l m n o p q r s).run) fun (t,u) =>
  (Tx t u).run)
theorem ait(t:Lv)(l:Int)(m:Int)(u:Lv)(d:List Nat)(v:Lv)(n:Int)(o:Int)(w:Lv)(e:List Nat)(y:Lv)(z:Lv)(f:List Nat)(p:Lv)(g:Bool)(q:Lv)(b:List Int)(i:Int)(r:Lv)(j:Bool)(s:Lv)(c:List Int)(k:Int){x:kj}(h:lL l m d n o e f g b i j c k=some x) :aw prog pg [] [.iptr t (.vs [.int .i64 l,.int .i64 m,.imm u (.fl d) 1 1 0 (List.length d)]) 1 0 0,.iptr v (.vs [.int .i64 n,.int .i64 o,.imm w (.fl e) 1 1 0 (List.length e)]) 1 0 0,.iptr y (.vs [.imm z (.fl f) 1 1 0 (List.length f)]) 1 0 0,.iptr p (.vs [.bool false g,.imm q (.ns .u64 b) 1 1 0 (List.length b),.int .i64 i]) 1 0 0,.iptr r (.vs [.bool false j,.imm s (.ns .u64 c) 1 1 0 (List.length c),.int .i64 k]) 1 0 0] (Mo x) :=
  Sg.contract false Mo (by kernel_rfl:prog.funcs[pg]? = some (FN pg)) (by kernel_rfl:(FN pg).body=some (bi pg)) (Sg.cut 2 Tu (Sg.seg (C:=C0) an so 60 (JC.take 2) (aT (FN pg) [] [.iptr t (.vs [.int .i64 l,.int .i64 m,.imm u (.fl d) 1 1 0 (List.length d)]) 1 0 0,.iptr v (.vs [.int .i64 n,.int .i64 o,.imm w (.fl e) 1 1 0 (List.length e)]) 1 0 0,.iptr y (.vs [.imm z (.fl f) 1 1 0 (List.length f)]) 1 0 0,.iptr p (.vs [.bool false g,.imm q (.ns .u64 b) 1 1 0 (List.length b),.int .i64 i]) 1 0 0,.iptr r (.vs [.bool false j,.imm s (.ns .u64 c) 1 1 0 (List.length c),.int .i64 k]) 1 0 0]) (JD l m d n o e f) (Tv p g q b i r j s c k) FK [⟨[],[160],[3,4,7,8]⟩] (by kernel_rfl)) (fun a=>by obtain ⟨A,B,D,E,F,G⟩:=a;exact Sg.cut 1 Tu (Sg.seg (C:=C0) an so 60 ((JC.drop 2).take 1) (Tv p g q b i r j s c k (A,B,D,E,F,G)) (Dh g b i j c k A B D E F G) Tw FK [⟨[],[],[5,6]⟩] (by kernel_rfl)) (fun a=>by obtain ⟨H,I⟩:=a;exact Sg.seg (C:=C0) an so 60 ((JC.drop 2).drop 1) (Tw (H,I)) (Tx H I) (fun a:Empty=>a.elim) FK [⟨[],[],[5,6]⟩] (by kernel_rfl))))
    (fun x=>by cases x with | r0 J K=>exact ⟨.inr rfl,[.bool false J,.int .i64 K],[],by kernel_rfl,trivial,by kernel_rfl⟩) h
def xt:Option kj→Bool
  | some _=>true
  | none=>false
def x6:Option kj→Bool
  | some (.r0 x _)=>x
  | _=>false
def oU:Option kj→Int
  | some (.r0 _ x)=>x
  | _=>0
theorem aiu{x:Option kj}(h:xt x=true) :x=some (.r0 (x6 x) (oU x)):=by
  unfold xt at h
  split at h <;> first | rfl | (cases h;done) | (rename_i y;cases y;rfl)
def Yi:aJ:=bW pg (.cons (.ivs (.cons (.int .i64) (.cons (.int .i64) (.cons .fl .nil))) 1 0 0) (.cons (.ivs (.cons (.int .i64) (.cons (.int .i64) (.cons .fl .nil))) 1 0 0) (.cons (.ivs (.cons .fl .nil) 1 0 0) (.cons (.ivs (.cons .bool (.cons (.ns .u64) (.cons (.int .i64) .nil))) 1 0 0) (.cons (.ivs (.cons .bool (.cons (.ns .u64) (.cons (.int .i64) .nil))) 1 0 0) .nil))))) fun t=>[⟨Mo (.r0 (x6 (lL t.1.2.1 t.1.2.2.1 t.1.2.2.2.1.2 t.2.1.2.1 t.2.1.2.2.1 t.2.1.2.2.2.1.2 t.2.2.1.2.1.2 t.2.2.2.1.2.1 t.2.2.2.1.2.2.1.2 t.2.2.2.1.2.2.2.1 t.2.2.2.2.1.2.1 t.2.2.2.2.1.2.2.1.2 t.2.2.2.2.1.2.2.2.1)) (oU (lL t.1.2.1 t.1.2.2.1 t.1.2.2.2.1.2 t.2.1.2.1 t.2.1.2.2.1 t.2.1.2.2.2.1.2 t.2.2.1.2.1.2 t.2.2.2.1.2.1 t.2.2.2.1.2.2.1.2 t.2.2.2.1.2.2.2.1 t.2.2.2.2.1.2.1 t.2.2.2.2.1.2.2.1.2 t.2.2.2.2.1.2.2.2.1))),[xt (lL t.1.2.1 t.1.2.2.1 t.1.2.2.2.1.2 t.2.1.2.1 t.2.1.2.2.1 t.2.1.2.2.2.1.2 t.2.2.1.2.1.2 t.2.2.2.1.2.1 t.2.2.2.1.2.2.1.2 t.2.2.2.1.2.2.2.1 t.2.2.2.2.1.2.1 t.2.2.2.2.1.2.2.1.2 t.2.2.2.2.1.2.2.2.1)]⟩]
theorem acT:aU prog Yi:=aO fun t=>(aP (fun h=>ait t.1.1 t.1.2.1 t.1.2.2.1 t.1.2.2.2.1.1 t.1.2.2.2.1.2 t.2.1.1 t.2.1.2.1 t.2.1.2.2.1 t.2.1.2.2.2.1.1 t.2.1.2.2.2.1.2 t.2.2.1.1 t.2.2.1.2.1.1 t.2.2.1.2.1.2 t.2.2.2.1.1 t.2.2.2.1.2.1 t.2.2.2.1.2.2.1.1 t.2.2.2.1.2.2.1.2 t.2.2.2.1.2.2.2.1 t.2.2.2.2.1.1 t.2.2.2.2.1.2.1 t.2.2.2.2.1.2.2.1.1 t.2.2.2.2.1.2.2.1.2 t.2.2.2.2.1.2.2.2.1 (aiu h)) aW)
def Yj:List aJ:=Yi :: MZ
theorem kF:aY prog (bb Yj):=au acT so
inductive jA where
  | r0 (a:Bool) (b:Int)
def uV:jA→AE×aL
  | .r0 a b=>(.ret,⟨ah 78 [(6,.bool false a),(7,.int .i64 b)],[],0⟩)
theorem zc:kR uV:=by intro x;cases x <;> (intro h;cases h)
def Vi:jA→jc
  | .r0 a b=>⟨.tup [.bool false a,.int .i64 b],[]⟩
def uW:List Code:=bJ (bi rO)
def ab7(d:Int)(e:Int)(f:Lv)(a:List Nat)(g:Lv)(b:List Nat)(h:Int)(i:Int)(j:Lv)(c:List Nat)(_:Unit) :aL:=⟨ah 78 [(3,.ptr 0 1 0 0),(4,.ptr 1 1 0 0),(5,.ptr 2 1 0 0)],[(0,.vs [.int .i64 d,.int .i64 e,.imm f (.fl a) 1 1 0 (List.length a)]),(1,.vs [.imm g (.fl b) 1 1 0 (List.length b)]),(2,.vs [.int .i64 h,.int .i64 i,.imm j (.fl c) 1 1 0 (List.length c)])],3⟩
def It(d : Int)(e : Int)(a : List Nat)(c : List Nat)(f : Int)(g : Int)(b : List Nat) : T ((Unit) ⊕ (jA)) :=
  .ask (decide ((0 : Int) < (2 : Int)))
    (.need (iS (0 : Int) 2) <| .need (aQ 0 (List.length a) a) <| .need (i5 (dG d e (aa 0 (List.length a) a))) <| .ask (ib (dG d e (aa 0 (List.length a) a)))
      (.ask (!(!(decide ((0:Int) ≥ (0:Int)))))
        (.leaf (.inr (.r0 false (2:Int))))
        (.fail))
      (.need (d8 .i64 (1:Int))<|.ask (decide ((1:Int) < (2:Int)))
        (.need (iS (1 : Int) 2) <| .need (aQ 0 (List.length b) b) <| .need (i5 (dG f g (aa 0 (List.length b) b))) <| .ask (ib (dG f g (aa 0 (List.length b) b)))
          (.ask (!(!(decide ((1:Int) ≥ (0:Int)))))
            (.leaf (.inr (.r0 false (2:Int))))
            (.fail))
          (.need (d8 .i64 (2:Int))<|.ask (decide ((2:Int) < (2:Int)))
            (.fail)
            (.ask (!(!(decide ((-1:Int) ≥ (0:Int)))))
              (.fail)
              (.ask (d != e)
                (.leaf (.inr (.r0 false (8:Int))))
                (.ask ((((List.length c):Nat):Int) != d)
                  (.leaf (.inr (.r0 false (8:Int))))
                  (.ask (!(f == d && g == e))
                    (.leaf (.inr (.r0 false (8:Int))))
                    (.ask (decide ((0:Int) < (3:Int)))
                      (.need (iS (0:Int) 3)<|.need (aQ 0 (List.length a) a)<|.need (ba (az (aa 0 (List.length a) a)))<|.ask (decide ((bc (az (aa 0 (List.length a) a))) ≥ (0:Int)))
                        (.leaf (.inr (.r0 false (10:Int))))
                        (.need (d8 .i64 (1:Int))<|.ask (decide ((1:Int) < (3:Int)))
                          (.need (iS (1:Int) 3)<|.need (aQ 0 (List.length b) b)<|.need (ba (az (aa 0 (List.length b) b)))<|.ask (decide ((bc (az (aa 0 (List.length b) b))) ≥ (0:Int)))
                            (.leaf (.inr (.r0 false (10:Int))))
                            (.need (d8 .i64 (2:Int))<|.ask (decide ((2:Int) < (3:Int)))
                              (.need (iS (2:Int) 3)<|.need (aQ 0 (List.length c) c)<|.need (ba (az (aa 0 (List.length c) c)))<|.ask (decide ((bc (az (aa 0 (List.length c) c))) ≥ (0:Int)))
                                (.leaf (.inr (.r0 false (10:Int))))
                                (.need (d8 .i64 (3:Int))<|.ask (decide ((3:Int) < (3:Int)))
                                  (.fail)
                                  (.leaf (.inl ()))))
                              (.fail)))
                          (.fail)))
                      (.fail))))))))
        (.fail)))
    (.fail)
def ab8(d:Int)(e:Int)(f:Lv)(a:List Nat)(g:Lv)(b:List Nat)(h:Int)(i:Int)(j:Lv)(c:List Nat)(k:Bool) :aL:=⟨ah 78 [(3,.ptr 0 1 0 0),(4,.ptr 1 1 0 0),(5,.ptr 2 1 0 0),(49,.bool false k)],[(0,.vs [.int .i64 d,.int .i64 e,.imm f (.fl a) 1 1 0 (List.length a)]),(1,.vs [.imm g (.fl b) 1 1 0 (List.length b)]),(2,.vs [.int .i64 h,.int .i64 i,.imm j (.fl c) 1 1 0 (List.length c)])],3⟩
def Iu(a:List Nat) :T ((Bool)⊕(jA)) :=
  .need (aQ 0 (List.length a) a)<|.need (si (md (aa 0 (List.length a) a)))<|.leaf (.inl (!(uK (md (aa 0 (List.length a) a)))))
def ab9(d:Int)(e:Int)(f:Lv)(a:List Nat)(g:Lv)(b:List Nat)(h:Int)(i:Int)(j:Lv)(c:List Nat) :Nat×Bool×(List Int)×Nat×Nat×Int→aL:=fun (k,l,m,n,o,p)=>⟨ah 78 [(3,.ptr 0 1 0 0),(4,.ptr 1 1 0 0),(5,.ptr 2 1 0 0),(8,.ptr 3 1 0 0),(9,.int .i64 ((k:Nat):Int))],[(0,.vs [.int .i64 d,.int .i64 e,.imm f (.fl a) 1 1 0 (List.length a)]),(1,.vs [.imm g (.fl b) 1 1 0 (List.length b)]),(2,.vs [.int .i64 h,.int .i64 i,.imm j (.fl c) 1 1 0 (List.length c)]),(3,.vs [.bool false l,.imm .free (.ns .u64 m) 1 1 n o,.int .i64 p])],4⟩
def FL(a:Int)(b:Bool) :T ((Nat×Bool×(List Int)×Nat×Nat×Int)⊕(jA)) :=
  .ask b
    (.leaf (.inr (.r0 false (0:Int))))
    (.need (tE (bZ a a))<|.leaf (.inl ((sM (bZ a a)),(sN (bZ a a)),(sO (bZ a a)),(sP (bZ a a)),(sQ (bZ a a)),(sR (bZ a a)))))
def aca(d:Int)(e:Int)(f:Lv)(a:List Nat)(g:Lv)(b:List Nat)(h:Int)(i:Int)(j:Lv)(c:List Nat)(k:Nat)(l:Bool)(m:List Int)(n:Nat)(o:Nat)(p:Int) :Nat×Bool×(List Int)×Nat×Nat×Int→aL:=fun (f8,q,r,s,t,u)=>⟨ah 78 [(3,.ptr 0 1 0 0),(4,.ptr 1 1 0 0),(5,.ptr 2 1 0 0),(8,.ptr 3 1 0 0),(9,.int .i64 ((k:Nat):Int)),(10,.ptr 4 1 0 0),(11,.int .i64 ((f8:Nat):Int))],[(0,.vs [.int .i64 d,.int .i64 e,.imm f (.fl a) 1 1 0 (List.length a)]),(1,.vs [.imm g (.fl b) 1 1 0 (List.length b)]),(2,.vs [.int .i64 h,.int .i64 i,.imm j (.fl c) 1 1 0 (List.length c)]),(3,.vs [.bool false l,.imm .free (.ns .u64 m) 1 1 n o,.int .i64 p]),(4,.vs [.bool false q,.imm .free (.ns .u64 r) 1 1 s t,.int .i64 u])],5⟩
def FM(b:Int)(c:Int)(a:List Nat) :T ((Nat×Bool×(List Int)×Nat×Nat×Int)⊕(jA)) :=
  .need (aQ 0 (List.length a) a)<|.need (vW (cm b c (aa 0 (List.length a) a)))<|.leaf (.inl ((uN (cm b c (aa 0 (List.length a) a))),(uO (cm b c (aa 0 (List.length a) a))),(uP (cm b c (aa 0 (List.length a) a))),(uQ (cm b c (aa 0 (List.length a) a))),(uR (cm b c (aa 0 (List.length a) a))),(uS (cm b c (aa 0 (List.length a) a)))))
def acb(d:Int)(e:Int)(f:Lv)(a:List Nat)(g:Lv)(b:List Nat)(h:Int)(i:Int)(j:Lv)(c:List Nat)(k:Nat)(l:Bool)(m:List Int)(n:Nat)(o:Nat)(p:Int)(f8:Nat)(q:Bool)(r:List Int)(s:Nat)(t:Nat)(u:Int)(v:Bool) :aL:=⟨ah 78 [(3,.ptr 0 1 0 0),(4,.ptr 1 1 0 0),(5,.ptr 2 1 0 0),(8,.ptr 3 1 0 0),(9,.int .i64 ((k:Nat):Int)),(10,.ptr 4 1 0 0),(11,.int .i64 ((f8:Nat):Int)),(68,.bool false v)],[(0,.vs [.int .i64 d,.int .i64 e,.imm f (.fl a) 1 1 0 (List.length a)]),(1,.vs [.imm g (.fl b) 1 1 0 (List.length b)]),(2,.vs [.int .i64 h,.int .i64 i,.imm j (.fl c) 1 1 0 (List.length c)]),(3,.vs [.bool false l,.imm .free (.ns .u64 m) 1 1 n o,.int .i64 p]),(4,.vs [.bool false q,.imm .free (.ns .u64 r) 1 1 s t,.int .i64 u])],5⟩
def Yk(a:Nat)(f8:Nat) :T ((Bool)⊕(jA)) :=
  .ask (((a:Nat):Int) != (0:Int))
    (.leaf (.inl true))
    (.leaf (.inl (((f8:Nat):Int) != (0:Int))))
def acd:Bool×Int→aL:=fun (a,b)=>⟨ah 78 [(6,.bool false a),(7,.int .i64 b)],[],0⟩
def FO(n : Int)(o : Int)(b : List Nat)(c : List Nat)(g : Int)(h : Int)(a : List Nat)(r : Nat)(i : Bool)(d : List Int)(e : Nat)(f : Nat)(j : Int)(f8 : Nat)(p : Bool)(k : List Int)(l : Nat)(m : Nat)(q : Int)(s : Bool) : T ((Bool × Int) ⊕ (jA)) :=
  .ask s
    (.leaf (.inr (.r0 false (oF ((r:Nat):Int) ((f8:Nat):Int)))))
    (.ask (decide ((0:Int) < (2:Int)))
      (.need (iS (0:Int) 2)<|.need (aQ 0 (List.length a) a)<|.need (aQ e f d)<|.need (xk (lK g h (aa 0 (List.length a) a) i (aa e f d) j))<|.ask (!(x5 (lK g h (aa 0 (List.length a) a) i (aa e f d) j)))
        (.leaf (.inl (false,(oT (lK g h (aa 0 (List.length a) a) i (aa e f d) j)))))
        (.ask ((oT (lK g h (aa 0 (List.length a) a) i (aa e f d) j)) != (0:Int))
          (.leaf (.inl (false,(oT (lK g h (aa 0 (List.length a) a) i (aa e f d) j)))))
          (.need (d8 .i64 (1:Int))<|.ask (decide ((1:Int) < (2:Int)))
            (.need (iS (1:Int) 2)<|.need (aQ 0 (List.length b) b)<|.need (aQ 0 (List.length a) a)<|.need (aQ 0 (List.length c) c)<|.need (aQ e f d)<|.need (aQ l m k)<|.need (xt (lL n o (aa 0 (List.length b) b) g h (aa 0 (List.length a) a) (aa 0 (List.length c) c) i (aa e f d) j p (aa l m k) q))<|.ask (!(x6 (lL n o (aa 0 (List.length b) b) g h (aa 0 (List.length a) a) (aa 0 (List.length c) c) i (aa e f d) j p (aa l m k) q)))
              (.leaf (.inl (false,(oU (lL n o (aa 0 (List.length b) b) g h (aa 0 (List.length a) a) (aa 0 (List.length c) c) i (aa e f d) j p (aa l m k) q)))))
              (.ask ((oU (lL n o (aa 0 (List.length b) b) g h (aa 0 (List.length a) a) (aa 0 (List.length c) c) i (aa e f d) j p (aa l m k) q)) != (0:Int))
                (.leaf (.inl (false,(oU (lL n o (aa 0 (List.length b) b) g h (aa 0 (List.length a) a) (aa 0 (List.length c) c) i (aa e f d) j p (aa l m k) q)))))
                (.need (d8 .i64 (2:Int))<|.ask (decide ((2:Int) < (2:Int)))
                  (.fail)
                  (.leaf (.inl (true,(0:Int)))))))
            (.fail))))
      (.fail))
def Yl(a:Bool)(b:Int) :T ((Empty)⊕(jA)) :=
  .leaf (.inr (.r0 a b))
def g6(a:Int)(b:Int)(c:List Nat)(d:List Nat)(e:Int)(f:Int)(g:List Nat) :Option jA:=ld (aC ((It a b c d e f g).run) fun _ =>
  aC ((Iu d).run) fun i =>
  aC ((FL a i).run) fun (h,j,k,l,m,n) =>
  aC ((FM a b c).run) fun (f8,o,p,q,r,s) =>
  aC ((Yk h f8).run) fun t =>
  aC ((FO a b c d e f g h j k l m n f8 o p q r s t).run) fun (u,v) =>
  (Yl u v).run)
theorem an6(d:Int)(f:Int)(j:Lv)(b:List Nat)(k:Lv)(c:List Nat)(g:Int)(i:Int)(l:Lv)(e:List Nat){x:jA}(h:g6 d f b c g i e=some x) :aw prog rO [] [.agg [.int .i64 d,.int .i64 f,.imm j (.fl b) 1 1 0 (List.length b)],.imm k (.fl c) 1 1 0 (List.length c),.agg [.int .i64 g,.int .i64 i,.imm l (.fl e) 1 1 0 (List.length e)]] (Vi x) :=
  Sg.contract true Vi (by kernel_rfl:prog.funcs[rO]? = some (FN rO)) (by kernel_rfl:(FN rO).body=some (bi rO)) (Sg.cut 2 zc (Sg.seg (C:=C0) an kF 60 (uW.take 2) (aT (FN rO) [] [.agg [.int .i64 d,.int .i64 f,.imm j (.fl b) 1 1 0 (List.length b)],.imm k (.fl c) 1 1 0 (List.length c),.agg [.int .i64 g,.int .i64 i,.imm l (.fl e) 1 1 0 (List.length e)]]) (It d f b c g i e) (ab7 d f j b k c g i l e) uV [⟨[],[],[6,7]⟩,⟨[],[],[6,7]⟩,⟨[],[],[6,7]⟩,⟨[],[],[6,7]⟩,⟨[],[],[6,7]⟩,⟨[],[],[6,7]⟩,⟨[],[],[6,7]⟩,⟨[],[],[6,7]⟩,⟨[],[0,16,32],[3,4,5]⟩] (by kernel_rfl)) (fun a=>by cases a;exact Sg.cut 1 zc (Sg.seg (C:=C0) an kF 60 ((uW.drop 2).take 1) (ab7 d f j b k c g i l e ()) (Iu c) (ab8 d f j b k c g i l e) uV [⟨[],[0,1,2],[3,4,5,49]⟩] (by kernel_rfl)) (fun y=>by exact Sg.cut 2 zc (Sg.seg (C:=C0) an kF 60 (((uW.drop 2).drop 1).take 2) (ab8 d f j b k c g i l e y) (FL d y) (ab9 d f j b k c g i l e) uV [⟨[],[],[6,7]⟩,⟨[],[0,1,2,131],[3,4,5,8,9]⟩] (by kernel_rfl)) (fun a=>by obtain ⟨m,n,o,p,q,r⟩:=a;exact Sg.cut 1 zc (Sg.seg (C:=C0) an kF 60 ((((uW.drop 2).drop 1).drop 2).take 1) (ab9 d f j b k c g i l e (m,n,o,p,q,r)) (FM d f b) (aca d f j b k c g i l e m n o p q r) uV [⟨[],[0,1,2,3,84],[3,4,5,8,9,10,11]⟩] (by kernel_rfl)) (fun a=>by obtain ⟨f8,s,t,u,v,w⟩:=a;exact Sg.cut 1 zc (Sg.seg (C:=C0) an kF 60 (((((uW.drop 2).drop 1).drop 2).drop 1).take 1) (aca d f j b k c g i l e m n o p q r (f8,s,t,u,v,w)) (Yk m f8) (acb d f j b k c g i l e m n o p q r f8 s t u v w) uV [⟨[],[0,1,2,3,4],[3,4,5,8,9,10,11,68]⟩,⟨[],[0,1,2,3,4],[3,4,5,8,9,10,11,68]⟩] (by kernel_rfl)) (fun z=>by exact Sg.cut 2 zc (Sg.seg (C:=C0) an kF 60 ((((((uW.drop 2).drop 1).drop 2).drop 1).drop 1).take 2) (acb d f j b k c g i l e m n o p q r f8 s t u v w z) (FO d f b c g i e m n o p q r f8 s t u v w z) acd uV [⟨[],[],[6,7]⟩,⟨[],[],[6,7]⟩,⟨[],[],[6,7]⟩,⟨[],[],[6,7]⟩,⟨[],[],[6,7]⟩,⟨[],[],[6,7]⟩] (by kernel_rfl)) (fun a=>by obtain ⟨A,B⟩:=a;exact Sg.seg (C:=C0) an kF 60 ((((((uW.drop 2).drop 1).drop 2).drop 1).drop 1).drop 2) (acd (A,B)) (Yl A B) (fun a:Empty=>a.elim) uV [⟨[],[],[6,7]⟩] (by kernel_rfl))))))))
    (fun x=>by cases x with | r0 D E=>exact ⟨.inr rfl,[.bool false D,.int .i64 E],[],by kernel_rfl,trivial,by kernel_rfl⟩) h
def zd:Option jA→Bool
  | some _=>true
  | none=>false
def xu:Option jA→Bool
  | some (.r0 x _)=>x
  | _=>false
def xv:Option jA→Int
  | some (.r0 _ x)=>x
  | _=>0
theorem an7{x:Option jA}(h:zd x=true) :x=some (.r0 (xu x) (xv x)):=by
  unfold zd at h
  split at h <;> first | rfl | (cases h;done) | (rename_i y;cases y;rfl)
def af7:aJ:=bW rO (.cons (.agg (.cons (.int .i64) (.cons (.int .i64) (.cons .fl .nil)))) (.cons .fl (.cons (.agg (.cons (.int .i64) (.cons (.int .i64) (.cons .fl .nil)))) .nil))) fun t=>[⟨Vi (.r0 (xu (g6 t.1.1 t.1.2.1 t.1.2.2.1.2 t.2.1.2 t.2.2.1.1 t.2.2.1.2.1 t.2.2.1.2.2.1.2)) (xv (g6 t.1.1 t.1.2.1 t.1.2.2.1.2 t.2.1.2 t.2.2.1.1 t.2.2.1.2.1 t.2.2.1.2.2.1.2))),[zd (g6 t.1.1 t.1.2.1 t.1.2.2.1.2 t.2.1.2 t.2.2.1.1 t.2.2.1.2.1 t.2.2.1.2.2.1.2)]⟩]
theorem aiv:aU prog af7:=aO fun t=>(aP (fun h=>an6 t.1.1 t.1.2.1 t.1.2.2.1.1 t.1.2.2.1.2 t.2.1.1 t.2.1.2 t.2.2.1.1 t.2.2.1.2.1 t.2.2.1.2.2.1.1 t.2.2.1.2.2.1.2 (an7 h)) aW)
def af8:List aJ:=af7 :: Yj
theorem JE:aY prog (bb af8):=au aiv kF
inductive iv where
  | r0 (a:Nat) (b:Bool) (c:Nat) (d:Int) (e:List Int)
def Mp:iv→AE×aL
  | .r0 b c a d e=>(.ret,⟨ah 14 [(2,.ptr 0 1 0 0),(3,.int .i64 ((b:Nat):Int))],[(0,.vs [.bool false c,.sl 1 1 1 0 a a,.int .i64 d]),(1,.ns .u64 e)],2⟩)
theorem aiw:kR Mp:=by intro x;cases x <;> (intro h;cases h)
def Mq:iv→jc
  | .r0 a b c d e=>⟨.tup [.agg [.bool false b,.imm .free (.ns .u64 e) 1 1 0 c,.int .i64 d],.int .i64 ((a:Nat):Int)],[]⟩
def Tz:List Code:=bJ (bi mF)
def TA(a:Int) :Bool×Bool→aL:=fun (b,c)=>⟨ah 14 [(0,.int .i64 a),(2,.ptr 0 1 0 0),(9,.bool false b)],[(0,.vs [.bool false c,.nsl,.int .i64 (0:Int)])],1⟩
def TB(a:Int) :T ((Bool×Bool)⊕(iv)) :=
  .ask (decide (a < (-262144:Int)))
    (.leaf (.inl (true,false)))
    (.leaf (.inl ((decide (a > (262144:Int))),false)))
def TC(a:Int)(b:Bool) :T ((Empty)⊕(iv)) :=
  .ask b
    (.leaf (.inr (.r0 3 false 0 (0:Int) ([]:List Int))))
    (.leaf (.inr (.r0 0 false 1 a [(1:Int)])))
def iw(a:Int) :Option iv:=ld (aC ((TB a).run) fun (b,c) =>
  (TC a b).run)
theorem aix(b:Int){x:iv}(h:iw b=some x) :aw prog mF [] [.int .i64 b] (Mq x) :=
  Sg.contract true Mq (by kernel_rfl:prog.funcs[mF]? = some (FN mF)) (by kernel_rfl:(FN mF).body=some (bi mF)) (Sg.cut 2 aiw (Sg.seg (C:=C0) an JE 60 (Tz.take 2) (aT (FN mF) [] [.int .i64 b]) (TB b) (TA b) Mp [⟨[],[0],[0,2,9]⟩,⟨[],[0],[0,2,9]⟩] (by kernel_rfl)) (fun a=>by obtain ⟨c,e⟩:=a;exact Sg.seg (C:=C0) an JE 60 (Tz.drop 2) (TA b (c,e)) (TC b c) (fun a:Empty=>a.elim) Mp [⟨[(.cell 0 1,.own 1 1 (.ns .u64 ([]:List Int)))],[0,49],[2,3]⟩,⟨[],[0,1],[2,3]⟩] (by kernel_rfl)))
    (fun x=>by cases x with | r0 f g d i j=>exact ⟨.inr rfl,[.agg [.bool false g,.sl 1 1 1 0 d d,.int .i64 i],.int .i64 ((f:Nat):Int)],[],by kernel_rfl,trivial,by kernel_rfl⟩) h
def Di:Option iv→Bool
  | some _=>true
  | none=>false
def M0:Option iv→Nat
  | some (.r0 x _ _ _ _)=>x
  | _=>0
def Em:Option iv→Bool
  | some (.r0 _ x _ _ _)=>x
  | _=>false
def En:Option iv→Nat
  | some (.r0 _ _ x _ _)=>x
  | _=>0
def Eo:Option iv→Int
  | some (.r0 _ _ _ x _)=>x
  | _=>0
def Ep:Option iv→List Int
  | some (.r0 _ _ _ _ x)=>x
  | _=>[]
theorem aiy{x:Option iv}(h:Di x=true) :x=some (.r0 (M0 x) (Em x) (En x) (Eo x) (Ep x)):=by
  unfold Di at h
  split at h <;> first | rfl | (cases h;done) | (rename_i y;cases y;rfl)
def Ym:aJ:=bW mF (.cons (.int .i64) .nil) fun t=>[⟨Mq (.r0 (M0 (iw t.1)) (Em (iw t.1)) (En (iw t.1)) (Eo (iw t.1)) (Ep (iw t.1))),[Di (iw t.1)]⟩]
theorem acU:aU prog Ym:=aO fun t=>(aP (fun h=>aix t.1 (aiy h)) aW)
def Yn:List aJ:=Ym :: af8
theorem x7:aY prog (bb Yn):=au acU JE
inductive km where
  | r0 (a:Bool)
def v7:km→AE×aL
  | .r0 a=>(.ret,⟨ah 26 [(4,.bool false a)],[],0⟩)
theorem JF:kR v7:=by intro x;cases x <;> (intro h;cases h)
theorem aiz(id:Nat) :qE id v7:=by intro x;cases x <;> (intro h;cases h)
def Mr:km→jc
  | .r0 a=>⟨.bool false a,[]⟩
def xw:List Code:=bJ (bi mI)
def TD(c:Lv)(a:List Int)(d:Lv)(b:List Int)(_:Unit) :aL:=⟨ah 26 [(0,.imm c (.ns .u64 a) 1 1 0 (List.length a)),(1,.imm d (.ns .u64 b) 1 1 0 (List.length b)),(5,.int .i64 (0:Int))],[],0⟩
def TE(a:List Int)(b:List Int) :T ((Unit)⊕(km)) :=
  .ask ((((List.length a):Nat):Int) != (((List.length b):Nat):Int))
    (.leaf (.inr (.r0 false)))
    (.leaf (.inl ()))
def tH(c:Lv)(a:List Int)(d:Lv)(b:List Int)(e:Nat) :aL:=⟨ah 26 [(0,.imm c (.ns .u64 a) 1 1 0 (List.length a)),(1,.imm d (.ns .u64 b) 1 1 0 (List.length b)),(5,.int .i64 ((e:Nat):Int))],[],0⟩
def Dj(_:Unit) :aL:=⟨ah 26 [],[],0⟩
def TF:List Code:=bJ (bK ((((xw.drop 4).take 1)).headD .skip))
def Dk(b:List Int)(c:List Int)(a:Nat) :T ((Nat)⊕((Unit)⊕(km))) :=
  .ask (decide (((a:Nat):Int) < (((List.length b):Nat):Int)))
    (.need (iS ((a:Nat):Int) (List.length b))<|.need (jC a (List.length b))<|.need (iS ((a:Nat):Int) (List.length c))<|.need (jC a (List.length c))<|.ask ((List.getD b a 0) != (List.getD c a 0))
      (.leaf (.inr (.inr (.r0 false))))
      (.need (d8 .i64 (((a+1):Nat):Int))<|.leaf (.inl (a+1))))
    (.leaf (.inr (.inl ())))
def Hb(a:List Int)(b:List Int) :Nat→Option ((Nat)⊕((Unit)⊕(km))):=fun c =>
  (Dk a b c).run
theorem af9(c:Lv)(a:List Int)(d:Lv)(b:List Int)(e:Nat) :Sg prog [] TF (tH c a d b e) (Hb a b e) (tH c a d b) (aN 0 Dj v7):=by
  unfold Hb;exact Sg.seg (C:=C0) an x7 60 TF (tH c a d b e) (Dk a b e) (tH c a d b) (aN 0 Dj v7) [⟨[],[],[4]⟩,⟨[],[],[0,1,5]⟩,⟨[],[],[]⟩] (by kernel_rfl)
def aiA:Unit→aL:=Dj
def PH:T ((Empty)⊕(km)) :=
  .leaf (.inr (.r0 true))
def qf(a:List Int)(b:List Int) :Option km:=ld (aC ((TE a b).run) fun _ =>
  aC (dM (Hb a b) 0) fun _ =>
  (PH).run)
theorem aiB(d:Lv)(b:List Int)(e:Lv)(c:List Int){x:km}(h:qf b c=some x) :aw prog mI [] [.imm d (.ns .u64 b) 1 1 0 (List.length b),.imm e (.ns .u64 c) 1 1 0 (List.length c)] (Mr x) :=
  Sg.contract true Mr (by kernel_rfl:prog.funcs[mI]? = some (FN mI)) (by kernel_rfl:(FN mI).body=some (bi mI)) (Sg.cut 4 JF (Sg.seg (C:=C0) an x7 60 (xw.take 4) (aT (FN mI) [] [.imm d (.ns .u64 b) 1 1 0 (List.length b),.imm e (.ns .u64 c) 1 1 0 (List.length c)]) (TE b c) (TD d b e c) v7 [⟨[],[],[4]⟩,⟨[],[],[0,1,5]⟩] (by kernel_rfl)) (fun a=>by cases a;exact Sg.cut 1 JF (Sg.pre ⟨[],[],[0,1,5]⟩ rfl (by kernel_rfl:NS.on ⟨[],[],[0,1,5]⟩ (TD d b e c ())=(tH d b e c) 0) (bU (I:=(tH d b e c)) (J:=(Dj)) (id:=0) (by kernel_rfl:((xw.drop 4).take 1) = [.block 0 (.loop (bK ((((xw.drop 4).take 1)).headD .skip)))]) JF (aiz _) (fun s=>by exact af9 d b e c s) 0)) (fun a=>by cases a;exact Sg.seg (C:=C0) an x7 60 ((xw.drop 4).drop 1) (aiA ()) (PH) (fun a:Empty=>a.elim) v7 [⟨[],[],[4]⟩] (by kernel_rfl))))
    (fun x=>by cases x with | r0 f=>exact ⟨.inr rfl,[.bool false f],[],by kernel_rfl,trivial,by kernel_rfl⟩) h
def xx:Option km→Bool
  | some _=>true
  | none=>false
def x8:Option km→Bool
  | some (.r0 x)=>x
  | _=>false
theorem aiC{x:Option km}(h:xx x=true) :x=some (.r0 (x8 x)):=by
  unfold xx at h
  split at h <;> first | rfl | (cases h;done) | (rename_i y;cases y;rfl)
def Yo:aJ:=bW mI (.cons (.ns .u64) (.cons (.ns .u64) .nil)) fun t=>[⟨Mr (.r0 (x8 (qf t.1.2 t.2.1.2))),[xx (qf t.1.2 t.2.1.2)]⟩]
theorem acV:aU prog Yo:=aO fun t=>(aP (fun h=>aiB t.1.1 t.1.2 t.2.1.1 t.2.1.2 (aiC h)) aW)
def Yp:List aJ:=Yo :: Yn
theorem Eq:aY prog (bb Yp):=au acV x7
end
end Go.Plb.Seat
namespace Go.Plb.Seat
open Go Go.Plb
set_option linter.unusedVariables false
set_option maxRecDepth 100000
noncomputable section
inductive nh where
  | r0 (a:Bool)
def Ms:nh→AE×aL
  | .r0 a=>(.ret,⟨ah 24 [(4,.bool false a)],[],0⟩)
theorem aiD:kR Ms:=by intro x;cases x <;> (intro h;cases h)
def Mt:nh→jc
  | .r0 a=>⟨.bool false a,[]⟩
def TG:List Code:=bJ (bi eL)
def TH(a:Bool) :aL:=⟨ah 24 [(4,.bool false a)],[],0⟩
def JG(c:Bool)(a:List Int)(d:Int)(e:Bool)(b:List Int)(f:Int) :T ((Bool)⊕(nh)) :=
  .ask (c == e)
    (.need (aQ 0 (List.length a) a)<|.need (aQ 0 (List.length b) b)<|.need (xx (qf (aa 0 (List.length a) a) (aa 0 (List.length b) b)))<|.ask (x8 (qf (aa 0 (List.length a) a) (aa 0 (List.length b) b)))
      (.leaf (.inl (d == f)))
      (.leaf (.inl false)))
    (.leaf (.inl false))
def TI(a:Bool) :T ((Empty)⊕(nh)) :=
  .leaf (.inr (.r0 a))
def gD(a:Bool)(b:List Int)(c:Int)(d:Bool)(e:List Int)(f:Int) :Option nh:=ld (aC ((JG a b c d e f).run) fun g =>
  (TI g).run)
theorem aiE(d:Bool)(i:Lv)(b:List Int)(e:Int)(f:Bool)(j:Lv)(c:List Int)(g:Int){x:nh}(h:gD d b e f c g=some x) :aw prog eL [] [.agg [.bool false d,.imm i (.ns .u64 b) 1 1 0 (List.length b),.int .i64 e],.agg [.bool false f,.imm j (.ns .u64 c) 1 1 0 (List.length c),.int .i64 g]] (Mt x) :=
  Sg.contract true Mt (by kernel_rfl:prog.funcs[eL]? = some (FN eL)) (by kernel_rfl:(FN eL).body=some (bi eL)) (Sg.cut 2 aiD (Sg.seg (C:=C0) an Eq 60 (TG.take 2) (aT (FN eL) [] [.agg [.bool false d,.imm i (.ns .u64 b) 1 1 0 (List.length b),.int .i64 e],.agg [.bool false f,.imm j (.ns .u64 c) 1 1 0 (List.length c),.int .i64 g]]) (JG d b e f c g) TH Ms [⟨[],[],[4]⟩,⟨[],[],[4]⟩,⟨[],[],[4]⟩] (by kernel_rfl)) (fun k=>by exact Sg.seg (C:=C0) an Eq 60 (TG.drop 2) (TH k) (TI k) (fun a:Empty=>a.elim) Ms [⟨[],[],[4]⟩] (by kernel_rfl)))
    (fun x=>by cases x with | r0 l=>exact ⟨.inr rfl,[.bool false l],[],by kernel_rfl,trivial,by kernel_rfl⟩) h
def nV:Option nh→Bool
  | some _=>true
  | none=>false
def mr:Option nh→Bool
  | some (.r0 x)=>x
  | _=>false
theorem aiF{x:Option nh}(h:nV x=true) :x=some (.r0 (mr x)):=by
  unfold nV at h
  split at h <;> first | rfl | (cases h;done) | (rename_i y;cases y;rfl)
def Yq:aJ:=bW eL (.cons (.agg (.cons .bool (.cons (.ns .u64) (.cons (.int .i64) .nil)))) (.cons (.agg (.cons .bool (.cons (.ns .u64) (.cons (.int .i64) .nil)))) .nil)) fun t=>[⟨Mt (.r0 (mr (gD t.1.1 t.1.2.1.2 t.1.2.2.1 t.2.1.1 t.2.1.2.1.2 t.2.1.2.2.1))),[nV (gD t.1.1 t.1.2.1.2 t.1.2.2.1 t.2.1.1 t.2.1.2.1.2 t.2.1.2.2.1)]⟩]
theorem acW:aU prog Yq:=aO fun t=>(aP (fun h=>aiE t.1.1 t.1.2.1.1 t.1.2.1.2 t.1.2.2.1 t.2.1.1 t.2.1.2.1.1 t.2.1.2.1.2 t.2.1.2.2.1 (aiF h)) aW)
def Yr:List aJ:=Yq :: Yp
theorem x9:aY prog (bb Yr):=au acW Eq
inductive gh where
  | r0 (a:Bool) (b:List Int) (c:Nat) (d:Int)
def Dl:gh→AE×aL
  | .r0 a b c d=>(.ret,⟨ah 16 [(2,.ptr 0 1 0 0)],[(0,.vs [.bool false a,.imm .free (.ns .u64 b) 1 1 0 c,.int .i64 d])],1⟩)
theorem PI:kR Dl:=by intro x;cases x <;> (intro h;cases h)
def JH:gh→jc
  | .r0 a b c d=>⟨.agg [.bool false a,.imm .free (.ns .u64 b) 1 1 0 c,.int .i64 d],[]⟩
def Hc:List Code:=bJ (bi lr)
def PJ(a:Int) :Int×Bool→aL:=fun (b,c)=>⟨ah 16 [(0,.int .i64 a),(2,.ptr 0 1 0 0),(3,.int .u64 b)],[(0,.vs [.bool false c,.nsl,.int .i64 (0:Int)])],1⟩
def Hd(a:Int) :T ((Int×Bool)⊕(gh)) :=
  .ask (decide (a < (0:Int)))
    (.leaf (.inl ((IntKind.u64.wrap ((0:Int) - (IntKind.u64.wrap a))),false)))
    (.leaf (.inl ((IntKind.u64.wrap a),false)))
def PK:Bool×(List Int)×Nat×Int→aL:=fun (a,b,c,d)=>⟨ah 16 [(2,.ptr 0 1 0 0)],[(0,.vs [.bool false a,.imm .free (.ns .u64 b) 1 1 0 c,.int .i64 d])],1⟩
def AH(b:Int)(a:Int) :T ((Bool×(List Int)×Nat×Int)⊕(gh)) :=
  .need (aQ 0 1 [a])<|.need (gg (aR (decide (b < (0:Int))) (aa 0 1 [a]) (0:Int)))<|.leaf (.inl ((fq (aR (decide (b < (0:Int))) (aa 0 1 [a]) (0:Int))),(fu (aR (decide (b < (0:Int))) (aa 0 1 [a]) (0:Int))),(fv (aR (decide (b < (0:Int))) (aa 0 1 [a]) (0:Int))),(fw (aR (decide (b < (0:Int))) (aa 0 1 [a]) (0:Int)))))
def PL(a:Bool)(b:List Int)(c:Nat)(d:Int) :T ((Empty)⊕(gh)) :=
  .leaf (.inr (.r0 a b c d))
def aG(a:Int) :Option gh:=ld (aC ((Hd a).run) fun (b,g) =>
  aC ((AH a b).run) fun (c,d,e,f) =>
  (PL c d e f).run)
theorem aga(b:Int){x:gh}(h:aG b=some x) :aw prog lr [] [.int .i64 b] (JH x) :=
  Sg.contract true JH (by kernel_rfl:prog.funcs[lr]? = some (FN lr)) (by kernel_rfl:(FN lr).body=some (bi lr)) (Sg.cut 4 PI (Sg.seg (C:=C0) an x9 60 (Hc.take 4) (aT (FN lr) [] [.int .i64 b]) (Hd b) (PJ b) Dl [⟨[],[0],[0,2,3]⟩,⟨[],[0],[0,2,3]⟩] (by kernel_rfl)) (fun a=>by obtain ⟨c,i⟩:=a;exact Sg.cut 1 PI (Sg.seg (C:=C0) an x9 60 ((Hc.drop 4).take 1) (PJ b (c,i)) (AH b c) PK Dl [⟨[],[0],[2]⟩] (by kernel_rfl)) (fun a=>by obtain ⟨d,e,f,g⟩:=a;exact Sg.seg (C:=C0) an x9 60 ((Hc.drop 4).drop 1) (PK (d,e,f,g)) (PL d e f g) (fun a:Empty=>a.elim) Dl [⟨[],[0],[2]⟩] (by kernel_rfl))))
    (fun x=>by cases x with | r0 j k l m=>exact ⟨.inr rfl,[.agg [.bool false j,.imm .free (.ns .u64 k) 1 1 0 l,.int .i64 m]],[],by kernel_rfl,trivial,by kernel_rfl⟩) h
def g7:Option gh→Bool
  | some _=>true
  | none=>false
def dm:Option gh→Bool
  | some (.r0 x _ _ _)=>x
  | _=>false
def cG:Option gh→List Int
  | some (.r0 _ x _ _)=>x
  | _=>[]
def cH:Option gh→Nat
  | some (.r0 _ _ x _)=>x
  | _=>0
def dn:Option gh→Int
  | some (.r0 _ _ _ x)=>x
  | _=>0
theorem agb{x:Option gh}(h:g7 x=true) :x=some (.r0 (dm x) (cG x) (cH x) (dn x)):=by
  unfold g7 at h
  split at h <;> first | rfl | (cases h;done) | (rename_i y;cases y;rfl)
def TJ:aJ:=bW lr (.cons (.int .i64) .nil) fun t=>[⟨JH (.r0 (dm (aG t.1)) (cG (aG t.1)) (cH (aG t.1)) (dn (aG t.1))),[g7 (aG t.1)]⟩]
theorem ZG:aU prog TJ:=aO fun t=>(aP (fun h=>aga t.1 (agb h)) aW)
def TK:List aJ:=TJ :: Yr
theorem gi:aY prog (bb TK):=au ZG x9
inductive eI where
  | r0 (a:Bool)
def jV:eI→AE×aL
  | .r0 a=>(.ret,⟨ah 91 [(0,.bool false a)],[],0⟩)
theorem l7:kR jV:=by intro x;cases x <;> (intro h;cases h)
def JI:eI→jc
  | .r0 a=>⟨.bool false a,[]⟩
def ko:List Code:=bJ (bi nk)
def PM:Int×Nat×(List Nat)×(List Nat)→aL:=fun (a,b,c,d)=>⟨ah 91 [(1,.ptr 0 1 0 0),(2,.ptr 1 1 0 0)],[(0,.vs [.int .i64 (2:Int),.int .i64 (2:Int),.sl 2 1 1 0 4 4]),(1,.vs [.int .i64 a,.int .i64 a,.sl 3 1 1 0 b b]),(2,.fl c),(3,.fl d)],4⟩
def Er:T ((Int×Nat×(List Nat)×(List Nat))⊕(eI)) :=
  .need (FC (nH (2:Int)))<|.leaf (.inl ((GT (nH (2:Int))),(GU (nH (2:Int))),[4611686018427387904,0,0,4613937818241073152],(GV (nH (2:Int)))))
def PN(a:Int)(b:Nat)(c:List Nat)(d:List Nat) :Bool×Int→aL:=fun (e,f)=>⟨ah 91 [(1,.ptr 0 1 0 0),(2,.ptr 1 1 0 0),(3,.bool false e),(4,.int .i64 f)],[(0,.vs [.int .i64 (2:Int),.int .i64 (2:Int),.sl 2 1 1 0 4 4]),(1,.vs [.int .i64 a,.int .i64 a,.sl 3 1 1 0 b b]),(2,.fl c),(3,.fl d)],4⟩
def ya(a:Int)(b:Nat)(c:List Nat)(d:List Nat) :T ((Bool×Int)⊕(eI)) :=
  .need (aQ 0 4 c)<|.need (aQ 0 2 [4611686018427387904,4613937818241073152])<|.need (aQ 0 b d)<|.need (zd (g6 (2:Int) (2:Int) (aa 0 4 c) (aa 0 2 [4611686018427387904,4613937818241073152]) a a (aa 0 b d)))<|.leaf (.inl ((xu (g6 (2:Int) (2:Int) (aa 0 4 c) (aa 0 2 [4611686018427387904,4613937818241073152]) a a (aa 0 b d))),(xv (g6 (2:Int) (2:Int) (aa 0 4 c) (aa 0 2 [4611686018427387904,4613937818241073152]) a a (aa 0 b d)))))
def PO(a:Int)(b:Nat)(c:List Nat)(d:List Nat)(e:Bool)(f:Int) :Bool×Int→aL:=fun (g,f8)=>⟨ah 91 [(1,.ptr 0 1 0 0),(2,.ptr 1 1 0 0),(3,.bool false e),(4,.int .i64 f),(5,.bool false g),(6,.int .i64 f8)],[(0,.vs [.int .i64 (2:Int),.int .i64 (2:Int),.sl 2 1 1 0 4 4]),(1,.vs [.int .i64 a,.int .i64 a,.sl 3 1 1 0 b b]),(2,.fl c),(3,.fl d)],4⟩
def yc(a:Int)(b:Nat)(c:List Nat)(d:List Nat) :T ((Bool×Int)⊕(eI)) :=
  .need (aQ 0 4 c)<|.need (aQ 0 2 [4613937818241073152,4611686018427387904])<|.need (aQ 0 b d)<|.need (zd (g6 (2:Int) (2:Int) (aa 0 4 c) (aa 0 2 [4613937818241073152,4611686018427387904]) a a (aa 0 b d)))<|.leaf (.inl ((xu (g6 (2:Int) (2:Int) (aa 0 4 c) (aa 0 2 [4613937818241073152,4611686018427387904]) a a (aa 0 b d))),(xv (g6 (2:Int) (2:Int) (aa 0 4 c) (aa 0 2 [4613937818241073152,4611686018427387904]) a a (aa 0 b d)))))
def PP(a:Bool)(b:Int)(c:Bool)(f8:Int) :Bool×Int→aL:=fun (d,e)=>⟨ah 91 [(3,.bool false a),(4,.int .i64 b),(5,.bool false c),(6,.int .i64 f8),(7,.bool false d),(8,.int .i64 e)],[],0⟩
def yd(a:Int)(b:Nat)(c:List Nat)(d:List Nat) :T ((Bool×Int)⊕(eI)) :=
  .need (aQ 0 4 c)<|.need (aQ 0 2 [4611686018427387904,4613940070040886837])<|.need (aQ 0 b d)<|.need (zd (g6 (2:Int) (2:Int) (aa 0 4 c) (aa 0 2 [4611686018427387904,4613940070040886837]) a a (aa 0 b d)))<|.leaf (.inl ((xu (g6 (2:Int) (2:Int) (aa 0 4 c) (aa 0 2 [4611686018427387904,4613940070040886837]) a a (aa 0 b d))),(xv (g6 (2:Int) (2:Int) (aa 0 4 c) (aa 0 2 [4611686018427387904,4613940070040886837]) a a (aa 0 b d)))))
def PQ(a:Bool)(b:Int)(c:Bool)(f8:Int)(d:Bool)(e:Int) :Nat×Bool×(List Int)×Nat×Nat×Int→aL:=fun (f,g,h,i,j,k)=>⟨ah 91 [(3,.bool false a),(4,.int .i64 b),(5,.bool false c),(6,.int .i64 f8),(7,.bool false d),(8,.int .i64 e),(9,.ptr 0 1 0 0),(10,.int .i64 ((f:Nat):Int))],[(0,.vs [.bool false g,.imm .free (.ns .u64 h) 1 1 i j,.int .i64 k])],1⟩
def ye:T ((Nat×Bool×(List Int)×Nat×Nat×Int)⊕(eI)) :=
  .need (tE (bZ (1:Int) (1:Int)))<|.leaf (.inl ((sM (bZ (1:Int) (1:Int))),(sN (bZ (1:Int) (1:Int))),(sO (bZ (1:Int) (1:Int))),(sP (bZ (1:Int) (1:Int))),(sQ (bZ (1:Int) (1:Int))),(sR (bZ (1:Int) (1:Int)))))
def PR(a:Bool)(b:Int)(c:Bool)(f8:Int)(d:Bool)(e:Int)(f:Nat)(g:Bool)(h:List Int)(i:Nat)(j:Nat)(k:Int) :Bool×(List Int)×Nat×Int→aL:=fun (l,m,n,o)=>⟨ah 91 [(3,.bool false a),(4,.int .i64 b),(5,.bool false c),(6,.int .i64 f8),(7,.bool false d),(8,.int .i64 e),(9,.ptr 0 1 0 0),(10,.int .i64 ((f:Nat):Int)),(11,.ptr 1 1 0 0)],[(0,.vs [.bool false g,.imm .free (.ns .u64 h) 1 1 i j,.int .i64 k]),(1,.vs [.bool false l,.imm .free (.ns .u64 m) 1 1 0 n,.int .i64 o])],2⟩
def yf:T ((Bool×(List Int)×Nat×Int)⊕(eI)) :=
  .need (Di (iw (-94:Int)))<|.leaf (.inl ((Em (iw (-94:Int))),(Ep (iw (-94:Int))),(En (iw (-94:Int))),(Eo (iw (-94:Int)))))
def PS(a:Bool)(b:Int)(c:Bool)(f8:Int)(d:Bool)(e:Int)(f:Nat)(g:Bool)(h:List Int)(i:Nat)(j:Nat)(k:Int)(l:Bool)(m:List Int)(n:Nat)(o:Int) :Nat×Bool×(List Int)×Nat×Nat×Int→aL:=fun (p,q,r,s,t,u)=>⟨ah 91 [(3,.bool false a),(4,.int .i64 b),(5,.bool false c),(6,.int .i64 f8),(7,.bool false d),(8,.int .i64 e),(9,.ptr 0 1 0 0),(10,.int .i64 ((f:Nat):Int)),(11,.ptr 1 1 0 0),(13,.ptr 2 1 0 0),(14,.int .i64 ((p:Nat):Int))],[(0,.vs [.bool false g,.imm .free (.ns .u64 h) 1 1 i j,.int .i64 k]),(1,.vs [.bool false l,.imm .free (.ns .u64 m) 1 1 0 n,.int .i64 o]),(2,.vs [.bool false q,.imm .free (.ns .u64 r) 1 1 s t,.int .i64 u])],3⟩
def yg:T ((Nat×Bool×(List Int)×Nat×Nat×Int)⊕(eI)) :=
  .need (aQ 0 2 [4613937818241073152,4616189618054758400])<|.need (vW (cm (1:Int) (2:Int) (aa 0 2 [4613937818241073152,4616189618054758400])))<|.leaf (.inl ((uN (cm (1:Int) (2:Int) (aa 0 2 [4613937818241073152,4616189618054758400]))),(uO (cm (1:Int) (2:Int) (aa 0 2 [4613937818241073152,4616189618054758400]))),(uP (cm (1:Int) (2:Int) (aa 0 2 [4613937818241073152,4616189618054758400]))),(uQ (cm (1:Int) (2:Int) (aa 0 2 [4613937818241073152,4616189618054758400]))),(uR (cm (1:Int) (2:Int) (aa 0 2 [4613937818241073152,4616189618054758400]))),(uS (cm (1:Int) (2:Int) (aa 0 2 [4613937818241073152,4616189618054758400])))))
def PT(a:Bool) :aL:=⟨ah 91 [(0,.bool false a)],[],0⟩
def yh(o : Bool)(p : Int)(q : Bool)(f8 : Int)(r : Bool)(s : Int)(t : Nat)(i : Bool)(a : List Int)(b : Nat)(c : Nat)(j : Int)(k : Bool)(d : List Int)(e : Nat)(l : Int)(u : Nat)(m : Bool)(f : List Int)(g : Nat)(h : Nat)(n : Int) : T ((Bool) ⊕ (eI)) :=
  .ask (p == (0 : Int))
    (.ask (f8 == (0:Int))
      (.ask (s == (0:Int))
        (.ask (((t:Nat):Int) == (0:Int))
          (.ask (((u:Nat):Int) == (0:Int))
            (.ask o
              (.ask (!q)
                (.ask (!r)
                  (.need (aQ b c a)<|.need (aQ 0 e d)<|.need (nV (gD i (aa b c a) j k (aa 0 e d) l))<|.ask (mr (gD i (aa b c a) j k (aa 0 e d) l))
                    (.need (g7 (aG (25:Int)))<|.need (aQ g h f)<|.need (aQ 0 (cH (aG (25:Int))) (cG (aG (25:Int))))<|.need (nV (gD m (aa g h f) n (dm (aG (25:Int))) (aa 0 (cH (aG (25:Int))) (cG (aG (25:Int)))) (dn (aG (25:Int)))))<|.leaf (.inl (mr (gD m (aa g h f) n (dm (aG (25:Int))) (aa 0 (cH (aG (25:Int))) (cG (aG (25:Int)))) (dn (aG (25:Int)))))))
                    (.leaf (.inl false)))
                  (.leaf (.inl false)))
                (.leaf (.inl false)))
              (.leaf (.inl false)))
            (.leaf (.inl false)))
          (.leaf (.inl false)))
        (.leaf (.inl false)))
      (.leaf (.inl false)))
    (.leaf (.inl false))
def M1(a:Bool) :T ((Empty)⊕(eI)) :=
  .leaf (.inr (.r0 a))
def de:Option eI:=ld (aC ((Er).run) fun (a,b,c,d) =>
  aC ((ya a b c d).run) fun (e,f) =>
  aC ((yc a b c d).run) fun (g,f8) =>
  aC ((yd a b c d).run) fun (h,i) =>
  aC ((ye).run) fun (j,k,l,m,n,o) =>
  aC ((yf).run) fun (p,q,r,s) =>
  aC ((yg).run) fun (t,u,v,w,x,y) =>
  aC ((yh e f g f8 h i j k l m n o p q r s t u v w x y).run) fun z =>
  (M1 z).run)
theorem agc{x:eI}(h:de=some x) :aw prog nk [] [] (JI x) :=
  Sg.contract false JI (by kernel_rfl:prog.funcs[nk]? = some (FN nk)) (by kernel_rfl:(FN nk).body=some (bi nk)) (Sg.cut 3 l7 (Sg.seg (C:=C0) an gi 60 (ko.take 3) (aT (FN nk) [] []) (Er) PM jV [⟨[],[32,80,16,64],[1,2]⟩] (by kernel_rfl)) (fun a=>by obtain ⟨e,f,g,i⟩:=a;exact Sg.cut 1 l7 (Sg.seg (C:=C0) an gi 60 ((ko.drop 3).take 1) (PM (e,f,g,i)) (ya e f g i) (PN e f g i) jV [⟨[],[0,1,2,3],[1,2,3,4]⟩] (by kernel_rfl)) (fun a=>by obtain ⟨b,c⟩:=a;exact Sg.cut 1 l7 (Sg.seg (C:=C0) an gi 60 (((ko.drop 3).drop 1).take 1) (PN e f g i (b,c)) (yc e f g i) (PO e f g i b c) jV [⟨[],[0,1,2,3],[1,2,3,4,5,6]⟩] (by kernel_rfl)) (fun a=>by obtain ⟨d,f8⟩:=a;exact Sg.cut 1 l7 (Sg.seg (C:=C0) an gi 60 ((((ko.drop 3).drop 1).drop 1).take 1) (PO e f g i b c (d,f8)) (yd e f g i) (PP b c d f8) jV [⟨[],[],[3,4,5,6,7,8]⟩] (by kernel_rfl)) (fun a=>by obtain ⟨j,k⟩:=a;exact Sg.cut 1 l7 (Sg.seg (C:=C0) an gi 60 (((((ko.drop 3).drop 1).drop 1).drop 1).take 1) (PP b c d f8 (j,k)) (ye) (PQ b c d f8 j k) jV [⟨[],[64],[3,4,5,6,7,8,9,10]⟩] (by kernel_rfl)) (fun a=>by obtain ⟨l,m,n,o,p,q⟩:=a;exact Sg.cut 1 l7 (Sg.seg (C:=C0) an gi 60 ((((((ko.drop 3).drop 1).drop 1).drop 1).drop 1).take 1) (PQ b c d f8 j k (l,m,n,o,p,q)) (yf) (PR b c d f8 j k l m n o p q) jV [⟨[],[0,65],[3,4,5,6,7,8,9,10,11]⟩] (by kernel_rfl)) (fun a=>by obtain ⟨r,s,t,u⟩:=a;exact Sg.cut 1 l7 (Sg.seg (C:=C0) an gi 60 (((((((ko.drop 3).drop 1).drop 1).drop 1).drop 1).drop 1).take 1) (PR b c d f8 j k l m n o p q (r,s,t,u)) (yg) (PS b c d f8 j k l m n o p q r s t u) jV [⟨[],[0,1,98],[3,4,5,6,7,8,9,10,11,13,14]⟩] (by kernel_rfl)) (fun a=>by obtain ⟨v,w,y,z,A,B⟩:=a;exact Sg.cut 1 l7 (Sg.seg (C:=C0) an gi 60 ((((((((ko.drop 3).drop 1).drop 1).drop 1).drop 1).drop 1).drop 1).take 1) (PS b c d f8 j k l m n o p q r s t u (v,w,y,z,A,B)) (yh b c d f8 j k l m n o p q r s t u v w y z A B) PT jV [⟨[],[],[0]⟩,⟨[],[],[0]⟩,⟨[],[],[0]⟩,⟨[],[],[0]⟩,⟨[],[],[0]⟩,⟨[],[],[0]⟩,⟨[],[],[0]⟩,⟨[],[],[0]⟩,⟨[],[],[0]⟩,⟨[],[],[0]⟩] (by kernel_rfl)) (fun D=>by exact Sg.seg (C:=C0) an gi 60 ((((((((ko.drop 3).drop 1).drop 1).drop 1).drop 1).drop 1).drop 1).drop 1) (PT D) (M1 D) (fun a:Empty=>a.elim) jV [⟨[],[],[0]⟩] (by kernel_rfl))))))))))
    (fun x=>by cases x with | r0 E=>exact ⟨.inr rfl,[.bool false E],[],by kernel_rfl,trivial,by kernel_rfl⟩) h
def g8:Option eI→Bool
  | some _=>true
  | none=>false
def gj:Option eI→Bool
  | some (.r0 x)=>x
  | _=>false
theorem agd{x:Option eI}(h:g8 x=true) :x=some (.r0 (gj x)):=by
  unfold g8 at h
  split at h <;> first | rfl | (cases h;done) | (rename_i y;cases y;rfl)
def TL:aJ:=bW nk .nil fun t=>[⟨JI (.r0 (gj (de))),[g8 (de)]⟩]
theorem ZH:aU prog TL:=aO fun t=>(aP (fun h=>agc (agd h)) aW)
def TM:List aJ:=TL :: TK
theorem BV:aY prog (bb TM):=au ZH gi
inductive jq where
  | r0 (a:Bool)
def Es:jq→AE×aL
  | .r0 a=>(.ret,⟨ah 24 [(4,.bool false a)],[],0⟩)
theorem ZI:kR Es:=by intro x;cases x <;> (intro h;cases h)
def Et:jq→jc
  | .r0 a=>⟨.bool false a,[]⟩
def Km:List Code:=bJ (bi eL)
def Kn(a:Bool) :aL:=⟨ah 24 [(4,.bool false a)],[],0⟩
def Ko(c:Bool)(a:List Int)(d:Int)(b:List Int)(e:Int) :T ((Bool)⊕(jq)) :=
  .ask (c == false)
    (.need (aQ 0 (List.length a) a)<|.need (aQ 0 (List.length b) b)<|.need (xx (qf (aa 0 (List.length a) a) (aa 0 (List.length b) b)))<|.ask (x8 (qf (aa 0 (List.length a) a) (aa 0 (List.length b) b)))
      (.leaf (.inl (d == e)))
      (.leaf (.inl false)))
    (.leaf (.inl false))
def Kp(a:Bool) :T ((Empty)⊕(jq)) :=
  .leaf (.inr (.r0 a))
def sV(a:Bool)(b:List Int)(c:Int)(d:List Int)(e:Int) :Option jq:=ld (aC ((Ko a b c d e).run) fun f =>
  (Kp f).run)
theorem ZJ(d:Bool)(g:Lv)(b:List Int)(e:Int)(i:Lv)(c:List Int)(f:Int){x:jq}(h:sV d b e c f=some x) :aw prog eL [] [.agg [.bool false d,.imm g (.ns .u64 b) 1 1 0 (List.length b),.int .i64 e],.agg [.bool true false,.imm i (.ns .u64 c) 1 1 0 (List.length c),.int .i64 f]] (Et x) :=
  Sg.contract true Et (by kernel_rfl:prog.funcs[eL]? = some (FN eL)) (by kernel_rfl:(FN eL).body=some (bi eL)) (Sg.cut 2 ZI (Sg.seg (C:=C0) an BV 60 (Km.take 2) (aT (FN eL) [] [.agg [.bool false d,.imm g (.ns .u64 b) 1 1 0 (List.length b),.int .i64 e],.agg [.bool true false,.imm i (.ns .u64 c) 1 1 0 (List.length c),.int .i64 f]]) (Ko d b e c f) Kn Es [⟨[],[],[4]⟩,⟨[],[],[4]⟩,⟨[],[],[4]⟩] (by kernel_rfl)) (fun j=>by exact Sg.seg (C:=C0) an BV 60 (Km.drop 2) (Kn j) (Kp j) (fun a:Empty=>a.elim) Es [⟨[],[],[4]⟩] (by kernel_rfl)))
    (fun x=>by cases x with | r0 k=>exact ⟨.inr rfl,[.bool false k],[],by kernel_rfl,trivial,by kernel_rfl⟩) h
def v8:Option jq→Bool
  | some _=>true
  | none=>false
def yI:Option jq→Bool
  | some (.r0 x)=>x
  | _=>false
theorem ZK{x:Option jq}(h:v8 x=true) :x=some (.r0 (yI x)):=by
  unfold v8 at h
  split at h <;> first | rfl | (cases h;done) | (rename_i y;cases y;rfl)
def M2:aJ:=bW eL (.cons (.agg (.cons .bool (.cons (.ns .u64) (.cons (.int .i64) .nil)))) (.cons (.agg (.cons (.kbool false) (.cons (.ns .u64) (.cons (.int .i64) .nil)))) .nil)) fun t=>[⟨Et (.r0 (yI (sV t.1.1 t.1.2.1.2 t.1.2.2.1 t.2.1.2.1.2 t.2.1.2.2.1))),[v8 (sV t.1.1 t.1.2.1.2 t.1.2.2.1 t.2.1.2.1.2 t.2.1.2.2.1)]⟩]
theorem Vj:aU prog M2:=aO fun t=>(aP (fun h=>ZJ t.1.1 t.1.2.1.1 t.1.2.1.2 t.1.2.2.1 t.2.1.2.1.1 t.2.1.2.1.2 t.2.1.2.2.1 (ZK h)) aW)
def M3:List aJ:=M2 :: TM
theorem yJ:aY prog (bb M3):=au Vj BV
inductive ic where
  | r0 (a:Bool) (b:List Int) (c:Nat) (d:Int)
def JJ:ic→AE×aL
  | .r0 a b c d=>(.ret,⟨ah 14 [(4,.ptr 0 1 0 0)],[(0,.vs [.bool false a,.imm .free (.ns .u64 b) 1 1 0 c,.int .i64 d])],1⟩)
theorem age:kR JJ:=by intro x;cases x <;> (intro h;cases h)
def JK:ic→jc
  | .r0 a b c d=>⟨.agg [.bool false a,.imm .free (.ns .u64 b) 1 1 0 c,.int .i64 d],[]⟩
def PU:List Code:=bJ (bi lw)
def PV:Bool×Bool×(List Int)×Nat×Int→aL:=fun (a,b,c,d,e)=>⟨ah 14 [(4,.ptr 0 1 0 0),(5,.ptr 1 1 0 0)],[(0,.vs [.bool false a,.nsl,.int .i64 (0:Int)]),(1,.vs [.bool false b,.imm .free (.ns .u64 c) 1 1 0 d,.int .i64 e])],2⟩
def He(c:Bool)(a:List Int)(d:Int)(e:Bool)(b:List Int)(f:Int) :T ((Bool×Bool×(List Int)×Nat×Int)⊕(ic)) :=
  .need (aQ 0 (List.length a) a)<|.need (aQ 0 (List.length b) b)<|.need (Fz (jJ c (aa 0 (List.length a) a) d e (aa 0 (List.length b) b) f))<|.leaf (.inl (false,(GN (jJ c (aa 0 (List.length a) a) d e (aa 0 (List.length b) b) f)),(GO (jJ c (aa 0 (List.length a) a) d e (aa 0 (List.length b) b) f)),(GQ (jJ c (aa 0 (List.length a) a) d e (aa 0 (List.length b) b) f)),(GR (jJ c (aa 0 (List.length a) a) d e (aa 0 (List.length b) b) f))))
def PW(a:Bool)(b:List Int)(c:Nat)(d:Int) :T ((Empty)⊕(ic)) :=
  .leaf (.inr (.r0 a b c d))
def aq(a:Bool)(b:List Int)(c:Int)(d:Bool)(e:List Int)(f:Int) :Option ic:=ld (aC ((He a b c d e f).run) fun (k,g,h,i,j) =>
  (PW g h i j).run)
theorem agf(d:Bool)(i:Lv)(b:List Int)(e:Int)(f:Bool)(j:Lv)(c:List Int)(g:Int){x:ic}(h:aq d b e f c g=some x) :aw prog lw [] [.agg [.bool false d,.imm i (.ns .u64 b) 1 1 0 (List.length b),.int .i64 e],.agg [.bool false f,.imm j (.ns .u64 c) 1 1 0 (List.length c),.int .i64 g]] (JK x) :=
  Sg.contract true JK (by kernel_rfl:prog.funcs[lw]? = some (FN lw)) (by kernel_rfl:(FN lw).body=some (bi lw)) (Sg.cut 2 age (Sg.seg (C:=C0) an yJ 60 (PU.take 2) (aT (FN lw) [] [.agg [.bool false d,.imm i (.ns .u64 b) 1 1 0 (List.length b),.int .i64 e],.agg [.bool false f,.imm j (.ns .u64 c) 1 1 0 (List.length c),.int .i64 g]]) (He d b e f c g) PV JJ [⟨[],[32,144],[4,5]⟩] (by kernel_rfl)) (fun a=>by obtain ⟨o,k,l,m,n⟩:=a;exact Sg.seg (C:=C0) an yJ 60 (PU.drop 2) (PV (o,k,l,m,n)) (PW k l m n) (fun a:Empty=>a.elim) JJ [⟨[],[0],[4]⟩] (by kernel_rfl)))
    (fun x=>by cases x with | r0 p q r s=>exact ⟨.inr rfl,[.agg [.bool false p,.imm .free (.ns .u64 q) 1 1 0 r,.int .i64 s]],[],by kernel_rfl,trivial,by kernel_rfl⟩) h
def i9:Option ic→Bool
  | some _=>true
  | none=>false
def bL:Option ic→Bool
  | some (.r0 x _ _ _)=>x
  | _=>false
def bn:Option ic→List Int
  | some (.r0 _ x _ _)=>x
  | _=>[]
def bo:Option ic→Nat
  | some (.r0 _ _ x _)=>x
  | _=>0
def bM:Option ic→Int
  | some (.r0 _ _ _ x)=>x
  | _=>0
theorem agh{x:Option ic}(h:i9 x=true) :x=some (.r0 (bL x) (bn x) (bo x) (bM x)):=by
  unfold i9 at h
  split at h <;> first | rfl | (cases h;done) | (rename_i y;cases y;rfl)
def TN:aJ:=bW lw (.cons (.agg (.cons .bool (.cons (.ns .u64) (.cons (.int .i64) .nil)))) (.cons (.agg (.cons .bool (.cons (.ns .u64) (.cons (.int .i64) .nil)))) .nil)) fun t=>[⟨JK (.r0 (bL (aq t.1.1 t.1.2.1.2 t.1.2.2.1 t.2.1.1 t.2.1.2.1.2 t.2.1.2.2.1)) (bn (aq t.1.1 t.1.2.1.2 t.1.2.2.1 t.2.1.1 t.2.1.2.1.2 t.2.1.2.2.1)) (bo (aq t.1.1 t.1.2.1.2 t.1.2.2.1 t.2.1.1 t.2.1.2.1.2 t.2.1.2.2.1)) (bM (aq t.1.1 t.1.2.1.2 t.1.2.2.1 t.2.1.1 t.2.1.2.1.2 t.2.1.2.2.1))),[i9 (aq t.1.1 t.1.2.1.2 t.1.2.2.1 t.2.1.1 t.2.1.2.1.2 t.2.1.2.2.1)]⟩]
theorem ZL:aU prog TN:=aO fun t=>(aP (fun h=>agf t.1.1 t.1.2.1.1 t.1.2.1.2 t.1.2.2.1 t.2.1.1 t.2.1.2.1.1 t.2.1.2.1.2 t.2.1.2.2.1 (agh h)) aW)
def TO:List aJ:=TN :: M3
theorem n8:aY prog (bb TO):=au ZL yJ
inductive eY where
  | r0 (a:Bool) (b:List Int) (c:Nat) (d:Int)
def tI:eY→AE×aL
  | .r0 a b c d=>(.ret,⟨ah 25 [(4,.ptr 0 1 0 0)],[(0,.vs [.bool false a,.imm .free (.ns .u64 b) 1 1 0 c,.int .i64 d])],1⟩)
theorem AI:kR tI:=by intro x;cases x <;> (intro h;cases h)
def JL:eY→jc
  | .r0 a b c d=>⟨.agg [.bool false a,.imm .free (.ns .u64 b) 1 1 0 c,.int .i64 d],[]⟩
def uX:List Code:=bJ (bi lp)
def PX(a:Int) :Int×Bool→aL:=fun (b,c)=>⟨ah 25 [(0,.int .i64 b),(1,.int .i64 a),(4,.ptr 0 1 0 0)],[(0,.vs [.bool false c,.nsl,.int .i64 (0:Int)])],1⟩
def PY(a:Int) :T ((Int×Bool)⊕(eY)) :=
  .ask (a == (0:Int))
    (.leaf (.inl ((1:Int),false)))
    (.leaf (.inl (a,false)))
def PZ(a:Int)(b:Bool)(c:Int) :aL:=⟨ah 25 [(0,.int .i64 a),(1,.int .i64 c),(4,.ptr 0 1 0 0)],[(0,.vs [.bool false b,.nsl,.int .i64 (0:Int)])],1⟩
def P0(a:Int) :T ((Int)⊕(eY)) :=
  .ask (a == (0:Int))
    (.leaf (.inl (1:Int)))
    (.leaf (.inl a))
def P3(a:Bool) :Bool×(List Int)×Nat×Int→aL:=fun (b,c,d,e)=>⟨ah 25 [(4,.ptr 0 1 0 0),(5,.ptr 1 1 0 0)],[(0,.vs [.bool false a,.nsl,.int .i64 (0:Int)]),(1,.vs [.bool false b,.imm .free (.ns .u64 c) 1 1 0 d,.int .i64 e])],2⟩
def P4(a:Int)(b:Int) :T ((Bool×(List Int)×Nat×Int)⊕(eY)) :=
  .need (d8 .i64 ((64:Int) * a))<|.need (d8 .i64 (((64:Int) * a) * b))<|.need (g7 (aG (((64:Int) * a) * b)))<|.leaf (.inl ((dm (aG (((64:Int) * a) * b))),(cG (aG (((64:Int) * a) * b))),(cH (aG (((64:Int) * a) * b))),(dn (aG (((64:Int) * a) * b)))))
def P5(a:Bool) :Bool×(List Int)×Nat×Int→aL:=fun (b,c,d,e)=>⟨ah 25 [(4,.ptr 0 1 0 0),(6,.ptr 1 1 0 0)],[(0,.vs [.bool false a,.nsl,.int .i64 (0:Int)]),(1,.vs [.bool false b,.imm .free (.ns .u64 c) 1 1 0 d,.int .i64 e])],2⟩
def P6(c:Bool)(a:List Int)(b:Nat)(d:Int) :T ((Bool×(List Int)×Nat×Int)⊕(eY)) :=
  .need (aQ 0 b a)<|.need (aQ 0 b a)<|.need (i9 (aq c (aa 0 b a) d c (aa 0 b a) d))<|.need (aQ 0 (bo (aq c (aa 0 b a) d c (aa 0 b a) d)) (bn (aq c (aa 0 b a) d c (aa 0 b a) d)))<|.need (Ag (ia (bL (aq c (aa 0 b a) d c (aa 0 b a) d)) (aa 0 (bo (aq c (aa 0 b a) d c (aa 0 b a) d)) (bn (aq c (aa 0 b a) d c (aa 0 b a) d))) (bM (aq c (aa 0 b a) d c (aa 0 b a) d)) (-106:Int)))<|.leaf (.inl ((BL (ia (bL (aq c (aa 0 b a) d c (aa 0 b a) d)) (aa 0 (bo (aq c (aa 0 b a) d c (aa 0 b a) d)) (bn (aq c (aa 0 b a) d c (aa 0 b a) d))) (bM (aq c (aa 0 b a) d c (aa 0 b a) d)) (-106:Int))),(BM (ia (bL (aq c (aa 0 b a) d c (aa 0 b a) d)) (aa 0 (bo (aq c (aa 0 b a) d c (aa 0 b a) d)) (bn (aq c (aa 0 b a) d c (aa 0 b a) d))) (bM (aq c (aa 0 b a) d c (aa 0 b a) d)) (-106:Int))),(BN (ia (bL (aq c (aa 0 b a) d c (aa 0 b a) d)) (aa 0 (bo (aq c (aa 0 b a) d c (aa 0 b a) d)) (bn (aq c (aa 0 b a) d c (aa 0 b a) d))) (bM (aq c (aa 0 b a) d c (aa 0 b a) d)) (-106:Int))),(BO (ia (bL (aq c (aa 0 b a) d c (aa 0 b a) d)) (aa 0 (bo (aq c (aa 0 b a) d c (aa 0 b a) d)) (bn (aq c (aa 0 b a) d c (aa 0 b a) d))) (bM (aq c (aa 0 b a) d c (aa 0 b a) d)) (-106:Int)))))
def M4(a:Bool)(b:List Int)(c:Nat)(d:Int) :T ((Empty)⊕(eY)) :=
  .leaf (.inr (.r0 a b c d))
def d4(a:Int)(b:Int) :Option eY:=ld (aC ((PY a).run) fun (c,m) =>
  aC ((P0 b).run) fun d =>
  aC ((P4 c d).run) fun (e,f,g,h) =>
  aC ((P6 e f g h).run) fun (i,j,k,l) =>
  (M4 i j k l).run)
theorem agi(d:Int)(c:Int){x:eY}(h:d4 d c=some x) :aw prog lp [] [.int .i64 d,.int .i64 c] (JL x) :=
  Sg.contract true JL (by kernel_rfl:prog.funcs[lp]? = some (FN lp)) (by kernel_rfl:(FN lp).body=some (bi lp)) (Sg.cut 3 AI (Sg.seg (C:=C0) an n8 60 (uX.take 3) (aT (FN lp) [] [.int .i64 d,.int .i64 c]) (PY d) (PX c) tI [⟨[],[0],[0,1,4]⟩,⟨[],[0],[0,1,4]⟩] (by kernel_rfl)) (fun a=>by obtain ⟨e,b⟩:=a;exact Sg.cut 2 AI (Sg.seg (C:=C0) an n8 60 ((uX.drop 3).take 2) (PX c (e,b)) (P0 c) (PZ e b) tI [⟨[],[0],[0,1,4]⟩,⟨[],[0],[0,1,4]⟩] (by kernel_rfl)) (fun f=>by exact Sg.cut 1 AI (Sg.seg (C:=C0) an n8 60 (((uX.drop 3).drop 2).take 1) (PZ e b f) (P4 e f) (P3 b) tI [⟨[],[0,81],[4,5]⟩] (by kernel_rfl)) (fun a=>by obtain ⟨g,i,j,k⟩:=a;exact Sg.cut 1 AI (Sg.seg (C:=C0) an n8 60 ((((uX.drop 3).drop 2).drop 1).take 1) (P3 b (g,i,j,k)) (P6 g i j k) (P5 b) tI [⟨[],[0,114],[4,6]⟩] (by kernel_rfl)) (fun a=>by obtain ⟨l,m,n,o⟩:=a;exact Sg.seg (C:=C0) an n8 60 ((((uX.drop 3).drop 2).drop 1).drop 1) (P5 b (l,m,n,o)) (M4 l m n o) (fun a:Empty=>a.elim) tI [⟨[],[0],[4]⟩] (by kernel_rfl))))))
    (fun x=>by cases x with | r0 p q r s=>exact ⟨.inr rfl,[.agg [.bool false p,.imm .free (.ns .u64 q) 1 1 0 r,.int .i64 s]],[],by kernel_rfl,trivial,by kernel_rfl⟩) h
def AJ:Option eY→Bool
  | some _=>true
  | none=>false
def v9:Option eY→Bool
  | some (.r0 x _ _ _)=>x
  | _=>false
def rf:Option eY→List Int
  | some (.r0 _ x _ _)=>x
  | _=>[]
def rh:Option eY→Nat
  | some (.r0 _ _ x _)=>x
  | _=>0
def wa:Option eY→Int
  | some (.r0 _ _ _ x)=>x
  | _=>0
theorem agj{x:Option eY}(h:AJ x=true) :x=some (.r0 (v9 x) (rf x) (rh x) (wa x)):=by
  unfold AJ at h
  split at h <;> first | rfl | (cases h;done) | (rename_i y;cases y;rfl)
def TP:aJ:=bW lp (.cons (.int .i64) (.cons (.int .i64) .nil)) fun t=>[⟨JL (.r0 (v9 (d4 t.1 t.2.1)) (rf (d4 t.1 t.2.1)) (rh (d4 t.1 t.2.1)) (wa (d4 t.1 t.2.1))),[AJ (d4 t.1 t.2.1)]⟩]
theorem ZM:aU prog TP:=aO fun t=>(aP (fun h=>agi t.1 t.2.1 (agj h)) aW)
def TQ:List aJ:=TP :: TO
theorem iy:aY prog (bb TQ):=au ZM n8
end
end Go.Plb.Seat
namespace Go.Plb.Seat
open Go Go.Plb
set_option linter.unusedVariables false
set_option maxRecDepth 100000
noncomputable section
inductive cC where
  | r0 (a:Nat) (b:Int) (c:Int) (d:Nat) (e:Nat) (f:List Nat)
def ig:cC→AE×aL
  | .r0 a b c d e f=>(.ret,⟨ah 45 [(2,.ptr 0 1 0 0),(3,.int .i64 ((a:Nat):Int))],[(0,.vs [.int .i64 b,.int .i64 c,.sl 1 1 1 0 d e]),(1,.fl f)],2⟩)
theorem ja:kR ig:=by intro x;cases x <;> (intro h;cases h)
theorem Hf(id:Nat) :qE id ig:=by intro x;cases x <;> (intro h;cases h)
def JM:cC→jc
  | .r0 a b c d f e=>⟨.tup [.agg [.int .i64 b,.int .i64 c,.imm .free (.fl e) 1 1 0 d],.int .i64 ((a:Nat):Int)],[]⟩
def oV:List Code:=bJ (bi lq)
def P7(b:Int)(c:Int)(d:Lv)(a:List Nat)(e:Bool) :aL:=⟨ah 45 [(1,.ptr 0 1 0 0),(2,.ptr 1 1 0 0),(10,.bool false e)],[(0,.vs [.int .i64 b,.int .i64 c,.imm d (.fl a) 1 1 0 (List.length a)]),(1,.vs [.int .i64 (0:Int),.int .i64 (0:Int),.nsl])],2⟩
def M5(b:Int)(c:Int)(a:List Nat) :T ((Bool)⊕(cC)) :=
  .ask (decide ((0:Int) < (1:Int)))
    (.need (iS (0:Int) 1)<|.need (aQ 0 (List.length a) a)<|.need (i5 (dG b c (aa 0 (List.length a) a)))<|.ask (ib (dG b c (aa 0 (List.length a) a)))
      (.leaf (.inl (!(!(decide ((0:Int) ≥ (0:Int)))))))
      (.need (d8 .i64 (1:Int))<|.ask (decide ((1:Int) < (1:Int)))
        (.fail)
        (.leaf (.inl (!(!(decide ((-1:Int) ≥ (0:Int)))))))))
    (.fail)
def P8(b:Int)(a:Int)(d:Lv)(c:List Nat)(_:Unit) :aL:=⟨ah 45 [(1,.ptr 0 1 0 0),(2,.ptr 1 1 0 0),(4,.ptr 2 1 0 0),(18,.int .i64 a),(19,.int .i64 (0:Int))],[(0,.vs [.int .i64 b,.int .i64 a,.imm d (.fl c) 1 1 0 (List.length c)]),(1,.vs [.int .i64 (0:Int),.int .i64 (0:Int),.nsl]),(2,.vs [.int .i64 a,.int .i64 b,.nsl])],3⟩
def M6(a:Bool) :T ((Unit)⊕(cC)) :=
  .ask a
    (.leaf (.inr (.r0 2 (0:Int) (0:Int) 0 0 ([]:List Nat))))
    (.leaf (.inl ()))
def oW(b:Int)(a:Int)(d:Lv)(c:List Nat) :Nat×Nat×Nat×(List Nat)→aL:=fun (e,f,g,h)=>⟨ah 45 [(1,.ptr 0 1 0 0),(2,.ptr 1 1 0 0),(4,.ptr 2 1 0 0),(18,.int .i64 a),(19,.int .i64 ((e:Nat):Int))],[(0,.vs [.int .i64 b,.int .i64 a,.imm d (.fl c) 1 1 0 (List.length c)]),(1,.vs [.int .i64 (0:Int),.int .i64 (0:Int),.nsl]),(2,.vs [.int .i64 a,.int .i64 b,.sl 3 1 1 0 f g]),(3,.fl h)],4⟩
def jr(a:Int)(b:Int) :Nat×Nat×(List Nat)→aL:=fun (c,d,e)=>⟨ah 45 [(2,.ptr 0 1 0 0),(4,.ptr 1 1 0 0)],[(0,.vs [.int .i64 (0:Int),.int .i64 (0:Int),.nsl]),(1,.vs [.int .i64 b,.int .i64 a,.sl 2 1 1 0 c d]),(2,.fl e)],3⟩
def oX:List Code:=bJ (bK (((((oV.drop 2).drop 3).take 1)).headD .skip))
def M7(b:Int)(a:Int)(d:Lv)(c:List Nat)(e:Nat)(f:Nat)(g:Nat)(h:List Nat)(_:Unit) :aL:=⟨ah 45 [(1,.ptr 0 1 0 0),(2,.ptr 1 1 0 0),(4,.ptr 2 1 0 0),(18,.int .i64 a),(19,.int .i64 ((e:Nat):Int))],[(0,.vs [.int .i64 b,.int .i64 a,.imm d (.fl c) 1 1 0 (List.length c)]),(1,.vs [.int .i64 (0:Int),.int .i64 (0:Int),.nsl]),(2,.vs [.int .i64 a,.int .i64 b,.sl 3 1 1 0 f g]),(3,.fl h)],4⟩
def M8(a:Int)(b:Nat)(c:Nat)(d:Nat)(e:List Nat) :T ((Unit)⊕((Nat×Nat×(List Nat))⊕(cC))) :=
  .ask (decide (((b:Nat):Int) < a))
    (.leaf (.inl ()))
    (.leaf (.inr (.inl (c,d,e))))
def mt(b:Int)(a:Int)(d:Lv)(c:List Nat)(e:Nat) :Nat×Nat×(List Nat)→aL:=fun (f,g,h)=>⟨ah 45 [(1,.ptr 0 1 0 0),(2,.ptr 1 1 0 0),(4,.ptr 2 1 0 0),(18,.int .i64 a),(19,.int .i64 ((e:Nat):Int))],[(0,.vs [.int .i64 b,.int .i64 a,.imm d (.fl c) 1 1 0 (List.length c)]),(1,.vs [.int .i64 (0:Int),.int .i64 (0:Int),.nsl]),(2,.vs [.int .i64 a,.int .i64 b,.sl 3 1 1 0 f g]),(3,.fl h)],4⟩
def sW:List Code:=bJ (inBlock ((((oX.drop 2).take 1)).headD .skip))
def M9(a:Int)(b:Int)(e:Lv)(c:List Nat)(d:Nat)(f:Nat)(g:Nat)(h:List Nat)(_:Unit) :aL:=⟨ah 45 [(1,.ptr 0 1 0 0),(2,.ptr 1 1 0 0),(4,.ptr 2 1 0 0),(5,.int .i64 ((d:Nat):Int)),(18,.int .i64 b),(19,.int .i64 ((d:Nat):Int)),(23,.int .i64 a),(24,.int .i64 (0:Int))],[(0,.vs [.int .i64 a,.int .i64 b,.imm e (.fl c) 1 1 0 (List.length c)]),(1,.vs [.int .i64 (0:Int),.int .i64 (0:Int),.nsl]),(2,.vs [.int .i64 b,.int .i64 a,.sl 3 1 1 0 f g]),(3,.fl h)],4⟩
def Na:T ((Unit)⊕((Nat×Nat×(List Nat))⊕((Nat×Nat×(List Nat))⊕(cC)))) :=
  .leaf (.inl ())
def oY(a:Int)(b:Int)(e:Lv)(c:List Nat)(d:Nat) :Nat×Nat×Nat×(List Nat)→aL:=fun (f,g,h,i)=>⟨ah 45 [(1,.ptr 0 1 0 0),(2,.ptr 1 1 0 0),(4,.ptr 2 1 0 0),(5,.int .i64 ((d:Nat):Int)),(18,.int .i64 b),(19,.int .i64 ((d:Nat):Int)),(23,.int .i64 a),(24,.int .i64 ((f:Nat):Int))],[(0,.vs [.int .i64 a,.int .i64 b,.imm e (.fl c) 1 1 0 (List.length c)]),(1,.vs [.int .i64 (0:Int),.int .i64 (0:Int),.nsl]),(2,.vs [.int .i64 b,.int .i64 a,.sl 3 1 1 0 g h]),(3,.fl i)],4⟩
def yi(b:Int)(a:Int)(d:Lv)(c:List Nat)(e:Nat) :Nat×Nat×(List Nat)→aL:=fun (f,g,h)=>⟨ah 45 [(1,.ptr 0 1 0 0),(2,.ptr 1 1 0 0),(4,.ptr 2 1 0 0),(18,.int .i64 a),(19,.int .i64 ((e:Nat):Int))],[(0,.vs [.int .i64 b,.int .i64 a,.imm d (.fl c) 1 1 0 (List.length c)]),(1,.vs [.int .i64 (0:Int),.int .i64 (0:Int),.nsl]),(2,.vs [.int .i64 a,.int .i64 b,.sl 3 1 1 0 f g]),(3,.fl h)],4⟩
def Nb:List Code:=bJ (bK ((((sW.drop 2).take 1)).headD .skip))
def Nc(g:Int)(c:Int)(e:List Nat)(d:Nat)(a:Nat)(b:Nat)(h:Nat)(f:List Nat) :T ((Nat×Nat×Nat×(List Nat))⊕((Nat×Nat×(List Nat))⊕((Nat×Nat×(List Nat))⊕((Nat×Nat×(List Nat))⊕(cC))))) :=
  .ask (decide (((a:Nat):Int) < g))
    (.need (d8 .i64 (((a:Nat):Int) * c))<|.need (d8 .i64 ((((a:Nat):Int) * c)+((d:Nat):Int)))<|.need (iS ((((a:Nat):Int) * c)+((d:Nat):Int)) (List.length e))<|.need (jC (Int.toNat ((((a:Nat):Int) * c)+((d:Nat):Int))) (List.length e))<|.need (tZ ((b+1) * 8) 140737488355328)<|.need (tZ (b+1) 9223372036854775807)<|.need (tZ 1 (List.length [(List.getD e (Int.toNat ((((a:Nat):Int) * c)+((d:Nat):Int))) 0)]))<|.need (tZ b (List.length f))<|.need (d8 .i64 (((a+1):Nat):Int))<|.leaf (.inl ((a+1),(b+1),(b+1),((List.take b f) ++ (List.take 1 [(List.getD e (Int.toNat ((((a:Nat):Int) * c)+((d:Nat):Int))) 0)])))))
    (.leaf (.inr (.inl (b,h,f))))
def Eu(a:Int)(b:Int)(c:List Nat)(d:Nat) :Nat×Nat×Nat×(List Nat)→Option ((Nat×Nat×Nat×(List Nat))⊕((Nat×Nat×(List Nat))⊕((Nat×Nat×(List Nat))⊕((Nat×Nat×(List Nat))⊕(cC))))):=fun (e,f,g,h) =>
  (Nc a b c d e f g h).run
theorem acX(a:Int)(b:Int)(e:Lv)(c:List Nat)(d:Nat)(f:Nat)(g:Nat)(h:Nat)(i:List Nat) :Sg prog [] Nb (oY a b e c d (f,g,h,i)) (Eu a b c d (f,g,h,i)) (oY a b e c d) (aN 2 (yi a b e c d) (aN 1 (mt a b e c d) (aN 0 (jr a b) ig))):=by
  unfold Eu;exact Sg.seg (C:=C0) an iy 60 Nb (oY a b e c d (f,g,h,i)) (Nc a b c d f g h i) (oY a b e c d) (aN 2 (yi a b e c d) (aN 1 (mt a b e c d) (aN 0 (jr a b) ig))) [⟨[],[0,1,2,260],[1,2,4,5,18,19,23,24]⟩,⟨[],[0,1,2,3],[1,2,4,18,19]⟩] (by kernel_rfl)
def acY(a:Int)(b:Int)(c:Lv)(d:List Nat)(e:Nat) :Nat×Nat×(List Nat)→aL:=yi a b c d e
def Nd(a:Nat)(b:Nat)(c:List Nat) :T ((Nat×Nat×(List Nat))⊕((Nat×Nat×(List Nat))⊕((Nat×Nat×(List Nat))⊕(cC)))) :=
  .leaf (.inl (a,b,c))
def acZ(a:Int)(b:Int)(c:Lv)(d:List Nat)(e:Nat) :Nat×Nat×(List Nat)→aL:=mt a b c d e
def Ne(a:Nat)(b:Nat)(c:Nat)(d:List Nat) :T ((Nat×Nat×Nat×(List Nat))⊕((Nat×Nat×(List Nat))⊕(cC))) :=
  .need (d8 .i64 (((a+1):Nat):Int))<|.leaf (.inl ((a+1),b,c,d))
def Ev(f:Int)(b:Int)(g:List Nat) :Nat×Nat×Nat×(List Nat)→Option ((Nat×Nat×Nat×(List Nat))⊕((Nat×Nat×(List Nat))⊕(cC))):=fun (a,c,d,e) =>
  aC ((M8 b a c d e).run) fun _ =>
  aC (NN (aC ((Na).run) fun _ =>
  aC (dM (Eu f b g a) (0,c,d,e)) fun (h,i,j) =>
  (Nd h i j).run)) fun (k,l,m) =>
  (Ne a k l m).run
theorem ac0(c:Int)(b:Int)(f:Lv)(d:List Nat)(e:Nat)(g:Nat)(h:Nat)(i:List Nat) :Sg prog [] oX (oW c b f d (e,g,h,i)) (Ev c b d (e,g,h,i)) (oW c b f d) (aN 0 (jr c b) ig):=by
  unfold Ev;exact Sg.cut 2 (aI ja) (Sg.seg (C:=C0) an iy 60 (oX.take 2) (oW c b f d (e,g,h,i)) (M8 b e g h i) (M7 c b f d e g h i) (aN 0 (jr c b) ig) [⟨[],[0,1,2,3],[1,2,4,18,19]⟩,⟨[],[1,2,3],[2,4]⟩] (by kernel_rfl)) (fun a=>by cases a;exact Sg.cut 1 (aI ja) (yp (id:=1) (K:=(mt c b f d e)) (by kernel_rfl:((oX.drop 2).take 1) = [.block 1 (inBlock ((((oX.drop 2).take 1)).headD .skip))]) (aI ja) (eK (by decide) (Hf _)) (Sg.cut 2 (aI (aI ja)) (Sg.seg (C:=C0) an iy 60 (sW.take 2) (M7 c b f d e g h i ()) (Na) (M9 c b f d e g h i) (aN 1 (mt c b f d e) (aN 0 (jr c b) ig)) [⟨[],[0,1,2,3],[1,2,4,5,18,19,23,24]⟩] (by kernel_rfl)) (fun a=>by cases a;exact Sg.cut 1 (aI (aI ja)) (Sg.pre ⟨[],[0,1,2,3],[1,2,4,5,18,19,23,24]⟩ rfl (by kernel_rfl:NS.on ⟨[],[0,1,2,3],[1,2,4,5,18,19,23,24]⟩ (M9 c b f d e g h i ())=(oY c b f d e) (0,g,h,i)) (bU (I:=(oY c b f d e)) (J:=(yi c b f d e)) (id:=2) (by kernel_rfl:((sW.drop 2).take 1) = [.block 2 (.loop (bK ((((sW.drop 2).take 1)).headD .skip)))]) (aI (aI ja)) (eK (by decide) (eK (by decide) (Hf _))) (fun s=>by obtain ⟨p,q,r,t⟩:=s;exact acX c b f d e p q r t) (0,g,h,i))) (fun a=>by obtain ⟨j,k,l⟩:=a;exact Sg.seg (C:=C0) an iy 60 ((sW.drop 2).drop 1) (acY c b f d e (j,k,l)) (Nd j k l) (mt c b f d e) (aN 1 (mt c b f d e) (aN 0 (jr c b) ig)) [⟨[],[0,1,2,3],[1,2,4,18,19]⟩] (by kernel_rfl))))) (fun a=>by obtain ⟨m,n,o⟩:=a;exact Sg.seg (C:=C0) an iy 60 ((oX.drop 2).drop 1) (acZ c b f d e (m,n,o)) (Ne e m n o) (oW c b f d) (aN 0 (jr c b) ig) [⟨[],[0,1,2,3],[1,2,4,18,19]⟩] (by kernel_rfl)))
def ac1(a:Int)(b:Int) :Nat×Nat×(List Nat)→aL:=jr a b
def Nf(a:Int)(b:Int)(c:Nat)(d:Nat)(e:List Nat) :T ((Empty)⊕(cC)) :=
  .leaf (.inr (.r0 0 b a c d e))
def fL(a:Int)(b:Int)(c:List Nat) :Option cC:=ld (aC ((M5 a b c).run) fun d =>
  aC ((M6 d).run) fun _ =>
  aC (dM (Ev a b c) (0,0,0,([]:List Nat))) fun (e,f,g) =>
  (Nf a b e f g).run)
theorem agk(b:Int)(c:Int)(e:Lv)(d:List Nat){x:cC}(h:fL b c d=some x) :aw prog lq [] [.agg [.int .i64 b,.int .i64 c,.imm e (.fl d) 1 1 0 (List.length d)]] (JM x) :=
  Sg.contract true JM (by kernel_rfl:prog.funcs[lq]? = some (FN lq)) (by kernel_rfl:(FN lq).body=some (bi lq)) (Sg.cut 2 ja (Sg.seg (C:=C0) an iy 60 (oV.take 2) (aT (FN lq) [] [.agg [.int .i64 b,.int .i64 c,.imm e (.fl d) 1 1 0 (List.length d)]]) (M5 b c d) (P7 b c e d) ig [⟨[],[0,16],[1,2,10]⟩,⟨[],[0,16],[1,2,10]⟩] (by kernel_rfl)) (fun f=>by exact Sg.cut 3 ja (Sg.seg (C:=C0) an iy 60 ((oV.drop 2).take 3) (P7 b c e d f) (M6 f) (P8 b c e d) ig [⟨[(.cell 1 2,.own 1 1 (.fl ([]:List Nat)))],[1,50],[2,3]⟩,⟨[],[0,1,82],[1,2,4,18,19]⟩] (by kernel_rfl)) (fun a=>by cases a;exact Sg.cut 1 ja (Sg.pre ⟨[(.cell 2 2,.own 1 1 (.fl ([]:List Nat)))],[0,1,2,3],[1,2,4,18,19]⟩ rfl (by kernel_rfl:NS.on ⟨[(.cell 2 2,.own 1 1 (.fl ([]:List Nat)))],[0,1,2,3],[1,2,4,18,19]⟩ (P8 b c e d ())=(oW b c e d) (0,0,0,([]:List Nat))) (bU (I:=(oW b c e d)) (J:=(jr b c)) (id:=0) (by kernel_rfl:(((oV.drop 2).drop 3).take 1) = [.block 0 (.loop (bK (((((oV.drop 2).drop 3).take 1)).headD .skip)))]) ja (Hf _) (fun s=>by obtain ⟨k,l,m,n⟩:=s;exact ac0 b c e d k l m n) (0,0,0,([]:List Nat)))) (fun a=>by obtain ⟨g,i,j⟩:=a;exact Sg.seg (C:=C0) an iy 60 (((oV.drop 2).drop 3).drop 1) (ac1 b c (g,i,j)) (Nf b c g i j) (fun a:Empty=>a.elim) ig [⟨[],[0,2],[2,3]⟩] (by kernel_rfl)))))
    (fun x=>by cases x with | r0 o p q r t u=>exact ⟨.inr rfl,[.agg [.int .i64 p,.int .i64 q,.sl 1 1 1 0 r t],.int .i64 ((o:Nat):Int)],[],by kernel_rfl,trivial,by kernel_rfl⟩) h
def AK:Option cC→Bool
  | some _=>true
  | none=>false
def BW:Option cC→Nat
  | some (.r0 x _ _ _ _ _)=>x
  | _=>0
def BX:Option cC→Int
  | some (.r0 _ x _ _ _ _)=>x
  | _=>0
def BY:Option cC→Int
  | some (.r0 _ _ x _ _ _)=>x
  | _=>0
def BZ:Option cC→Nat
  | some (.r0 _ _ _ x _ _)=>x
  | _=>0
def Kq:Option cC→Nat
  | some (.r0 _ _ _ _ x _)=>x
  | _=>0
def B0:Option cC→List Nat
  | some (.r0 _ _ _ _ _ x)=>x
  | _=>[]
theorem agl{x:Option cC}(h:AK x=true) :x=some (.r0 (BW x) (BX x) (BY x) (BZ x) (Kq x) (B0 x)):=by
  unfold AK at h
  split at h <;> first | rfl | (cases h;done) | (rename_i y;cases y;rfl)
def TR:aJ:=bW lq (.cons (.agg (.cons (.int .i64) (.cons (.int .i64) (.cons .fl .nil)))) .nil) fun t=>[⟨JM (.r0 (BW (fL t.1.1 t.1.2.1 t.1.2.2.1.2)) (BX (fL t.1.1 t.1.2.1 t.1.2.2.1.2)) (BY (fL t.1.1 t.1.2.1 t.1.2.2.1.2)) (BZ (fL t.1.1 t.1.2.1 t.1.2.2.1.2)) (Kq (fL t.1.1 t.1.2.1 t.1.2.2.1.2)) (B0 (fL t.1.1 t.1.2.1 t.1.2.2.1.2))),[AK (fL t.1.1 t.1.2.1 t.1.2.2.1.2)]⟩]
theorem ZN:aU prog TR:=aO fun t=>(aP (fun h=>agk t.1.1 t.1.2.1 t.1.2.2.1.1 t.1.2.2.1.2 (agl h)) aW)
def TS:List aJ:=TR :: TQ
theorem B1:aY prog (bb TS):=au ZN iy
inductive qg where
  | r0 (a:Bool)
def P9:qg→AE×aL
  | .r0 a=>(.ret,⟨ah 32 [(2,.bool false a)],[],0⟩)
theorem al3:kR P9:=by intro x;cases x <;> (intro h;cases h)
def Qa:qg→jc
  | .r0 a=>⟨.bool false a,[]⟩
def Ys:List Code:=bJ (bi rA)
def Yt(a:Bool) :aL:=⟨ah 32 [(2,.bool false a)],[],0⟩
def Mu(a:Int)(b:Int)(c:List Nat) :T ((Bool)⊕(qg)) :=
  .ask (decide (a ≥ (0:Int)))
    (.ask (decide (a≤(512:Int)))
      (.ask (decide (b ≥ (0:Int)))
        (.ask (decide (b≤(512:Int)))
          (.need (d8 .i64 (a * b))<|.leaf (.inl ((((List.length c):Nat):Int) == (a * b))))
          (.leaf (.inl false)))
        (.leaf (.inl false)))
      (.leaf (.inl false)))
    (.leaf (.inl false))
def Yu(a:Bool) :T ((Empty)⊕(qg)) :=
  .leaf (.inr (.r0 a))
def rL(a:Int)(b:Int)(c:List Nat) :Option qg:=ld (aC ((Mu a b c).run) fun d =>
  (Yu d).run)
theorem al4(c:Int)(d:Int)(e:Lv)(b:List Nat){x:qg}(h:rL c d b=some x) :aw prog rA [] [.agg [.int .i64 c,.int .i64 d,.imm e (.fl b) 1 1 0 (List.length b)]] (Qa x) :=
  Sg.contract false Qa (by kernel_rfl:prog.funcs[rA]? = some (FN rA)) (by kernel_rfl:(FN rA).body=some (bi rA)) (Sg.cut 2 al3 (Sg.seg (C:=C0) an B1 60 (Ys.take 2) (aT (FN rA) [] [.agg [.int .i64 c,.int .i64 d,.imm e (.fl b) 1 1 0 (List.length b)]]) (Mu c d b) Yt P9 [⟨[],[],[2]⟩,⟨[],[],[2]⟩,⟨[],[],[2]⟩,⟨[],[],[2]⟩,⟨[],[],[2]⟩] (by kernel_rfl)) (fun f=>by exact Sg.seg (C:=C0) an B1 60 (Ys.drop 2) (Yt f) (Yu f) (fun a:Empty=>a.elim) P9 [⟨[],[],[2]⟩] (by kernel_rfl)))
    (fun x=>by cases x with | r0 g=>exact ⟨.inr rfl,[.bool false g],[],by kernel_rfl,trivial,by kernel_rfl⟩) h
def AL:Option qg→Bool
  | some _=>true
  | none=>false
def AM:Option qg→Bool
  | some (.r0 x)=>x
  | _=>false
theorem al5{x:Option qg}(h:AL x=true) :x=some (.r0 (AM x)):=by
  unfold AL at h
  split at h <;> first | rfl | (cases h;done) | (rename_i y;cases y;rfl)
def ace:aJ:=bW rA (.cons (.agg (.cons (.int .i64) (.cons (.int .i64) (.cons .fl .nil)))) .nil) fun t=>[⟨Qa (.r0 (AM (rL t.1.1 t.1.2.1 t.1.2.2.1.2))),[AL (rL t.1.1 t.1.2.1 t.1.2.2.1.2)]⟩]
theorem agm:aU prog ace:=aO fun t=>(aP (fun h=>al4 t.1.1 t.1.2.1 t.1.2.2.1.1 t.1.2.2.1.2 (al5 h)) aW)
def acf:List aJ:=ace :: TS
theorem AN:aY prog (bb acf):=au agm B1
inductive fZ where
  | r0 (a:Bool)
def oZ:fZ→AE×aL
  | .r0 a=>(.ret,⟨ah 27 [(4,.bool false a)],[],0⟩)
theorem B2:kR oZ:=by intro x;cases x <;> (intro h;cases h)
theorem ZO(id:Nat) :qE id oZ:=by intro x;cases x <;> (intro h;cases h)
def Ew:fZ→jc
  | .r0 a=>⟨.bool false a,[]⟩
def ri:List Code:=bJ (bi ku)
def Kr(c:Lv)(a:List Nat)(d:Lv)(b:List Nat)(_:Unit) :aL:=⟨ah 27 [(0,.imm c (.fl a) 1 1 0 (List.length a)),(1,.imm d (.fl b) 1 1 0 (List.length b)),(5,.int .i64 (0:Int))],[],0⟩
def Ks(a:List Nat)(b:List Nat) :T ((Unit)⊕(fZ)) :=
  .ask ((((List.length a):Nat):Int) != (((List.length b):Nat):Int))
    (.leaf (.inr (.r0 false)))
    (.leaf (.inl ()))
def n9(c:Lv)(a:List Nat)(d:Lv)(b:List Nat)(e:Nat) :aL:=⟨ah 27 [(0,.imm c (.fl a) 1 1 0 (List.length a)),(1,.imm d (.fl b) 1 1 0 (List.length b)),(5,.int .i64 ((e:Nat):Int))],[],0⟩
def wb(_:Unit) :aL:=⟨ah 27 [],[],0⟩
def Kt:List Code:=bJ (bK ((((ri.drop 4).take 1)).headD .skip))
def Ku(b:List Nat)(c:List Nat)(a:Nat) :T ((Nat)⊕((Unit)⊕(fZ))) :=
  .ask (decide (((a:Nat):Int) < (((List.length b):Nat):Int)))
    (.need (iS ((a:Nat):Int) (List.length b))<|.need (jC a (List.length b))<|.need (iS ((a:Nat):Int) (List.length c))<|.need (jC a (List.length c))<|.ask (!(NI (List.getD b a 0) (List.getD c a 0)))
      (.leaf (.inr (.inr (.r0 false))))
      (.need (d8 .i64 (((a+1):Nat):Int))<|.leaf (.inl (a+1))))
    (.leaf (.inr (.inl ())))
def AO(a:List Nat)(b:List Nat) :Nat→Option ((Nat)⊕((Unit)⊕(fZ))):=fun c =>
  (Ku a b c).run
theorem Yv(c:Lv)(a:List Nat)(d:Lv)(b:List Nat)(e:Nat) :Sg prog [] Kt (n9 c a d b e) (AO a b e) (n9 c a d b) (aN 0 wb oZ):=by
  unfold AO;exact Sg.seg (C:=C0) an AN 60 Kt (n9 c a d b e) (Ku a b e) (n9 c a d b) (aN 0 wb oZ) [⟨[],[],[4]⟩,⟨[],[],[0,1,5]⟩,⟨[],[],[]⟩] (by kernel_rfl)
def ZP:Unit→aL:=wb
def Iv:T ((Empty)⊕(fZ)) :=
  .leaf (.inr (.r0 true))
def sX(a:List Nat)(b:List Nat) :Option fZ:=ld (aC ((Ks a b).run) fun _ =>
  aC (dM (AO a b) 0) fun _ =>
  (Iv).run)
theorem ZQ(d:Lv)(b:List Nat)(e:Lv)(c:List Nat){x:fZ}(h:sX b c=some x) :aw prog ku [] [.imm d (.fl b) 1 1 0 (List.length b),.imm e (.fl c) 1 1 0 (List.length c)] (Ew x) :=
  Sg.contract false Ew (by kernel_rfl:prog.funcs[ku]? = some (FN ku)) (by kernel_rfl:(FN ku).body=some (bi ku)) (Sg.cut 4 B2 (Sg.seg (C:=C0) an AN 60 (ri.take 4) (aT (FN ku) [] [.imm d (.fl b) 1 1 0 (List.length b),.imm e (.fl c) 1 1 0 (List.length c)]) (Ks b c) (Kr d b e c) oZ [⟨[],[],[4]⟩,⟨[],[],[0,1,5]⟩] (by kernel_rfl)) (fun a=>by cases a;exact Sg.cut 1 B2 (Sg.pre ⟨[],[],[0,1,5]⟩ rfl (by kernel_rfl:NS.on ⟨[],[],[0,1,5]⟩ (Kr d b e c ())=(n9 d b e c) 0) (bU (I:=(n9 d b e c)) (J:=(wb)) (id:=0) (by kernel_rfl:((ri.drop 4).take 1) = [.block 0 (.loop (bK ((((ri.drop 4).take 1)).headD .skip)))]) B2 (ZO _) (fun s=>by exact Yv d b e c s) 0)) (fun a=>by cases a;exact Sg.seg (C:=C0) an AN 60 ((ri.drop 4).drop 1) (ZP ()) (Iv) (fun a:Empty=>a.elim) oZ [⟨[],[],[4]⟩] (by kernel_rfl))))
    (fun x=>by cases x with | r0 f=>exact ⟨.inr rfl,[.bool false f],[],by kernel_rfl,trivial,by kernel_rfl⟩) h
def wc:Option fZ→Bool
  | some _=>true
  | none=>false
def yK:Option fZ→Bool
  | some (.r0 x)=>x
  | _=>false
theorem ZR{x:Option fZ}(h:wc x=true) :x=some (.r0 (yK x)):=by
  unfold wc at h
  split at h <;> first | rfl | (cases h;done) | (rename_i y;cases y;rfl)
def Ng:aJ:=bW ku (.cons .fl (.cons .fl .nil)) fun t=>[⟨Ew (.r0 (yK (sX t.1.2 t.2.1.2))),[wc (sX t.1.2 t.2.1.2)]⟩]
theorem Vk:aU prog Ng:=aO fun t=>(aP (fun h=>ZQ t.1.1 t.1.2 t.2.1.1 t.2.1.2 (ZR h)) aW)
def Nh:List aJ:=Ng :: acf
theorem yL:aY prog (bb Nh):=au Vk AN
inductive ni where
  | r0 (a:Bool)
def Mv:ni→AE×aL
  | .r0 a=>(.ret,⟨ah 24 [(4,.bool false a)],[],0⟩)
theorem aiG:kR Mv:=by intro x;cases x <;> (intro h;cases h)
def Mw:ni→jc
  | .r0 a=>⟨.bool false a,[]⟩
def TT:List Code:=bJ (bi pc)
def TU(a:Bool) :aL:=⟨ah 24 [(4,.bool false a)],[],0⟩
def TV(c:Int)(d:Int)(a:List Nat)(e:Int)(f:Int)(b:List Nat) :T ((Bool)⊕(ni)) :=
  .ask (c == e)
    (.ask (d == f)
      (.need (aQ 0 (List.length a) a)<|.need (aQ 0 (List.length b) b)<|.need (wc (sX (aa 0 (List.length a) a) (aa 0 (List.length b) b)))<|.leaf (.inl (yK (sX (aa 0 (List.length a) a) (aa 0 (List.length b) b)))))
      (.leaf (.inl false)))
    (.leaf (.inl false))
def TW(a:Bool) :T ((Empty)⊕(ni)) :=
  .leaf (.inr (.r0 a))
def sq(a:Int)(b:Int)(c:List Nat)(d:Int)(e:Int)(f:List Nat) :Option ni:=ld (aC ((TV a b c d e f).run) fun g =>
  (TW g).run)
theorem aiH(d:Int)(e:Int)(i:Lv)(b:List Nat)(f:Int)(g:Int)(j:Lv)(c:List Nat){x:ni}(h:sq d e b f g c=some x) :aw prog pc [] [.agg [.int .i64 d,.int .i64 e,.imm i (.fl b) 1 1 0 (List.length b)],.agg [.int .i64 f,.int .i64 g,.imm j (.fl c) 1 1 0 (List.length c)]] (Mw x) :=
  Sg.contract false Mw (by kernel_rfl:prog.funcs[pc]? = some (FN pc)) (by kernel_rfl:(FN pc).body=some (bi pc)) (Sg.cut 2 aiG (Sg.seg (C:=C0) an yL 60 (TT.take 2) (aT (FN pc) [] [.agg [.int .i64 d,.int .i64 e,.imm i (.fl b) 1 1 0 (List.length b)],.agg [.int .i64 f,.int .i64 g,.imm j (.fl c) 1 1 0 (List.length c)]]) (TV d e b f g c) TU Mv [⟨[],[],[4]⟩,⟨[],[],[4]⟩,⟨[],[],[4]⟩] (by kernel_rfl)) (fun k=>by exact Sg.seg (C:=C0) an yL 60 (TT.drop 2) (TU k) (TW k) (fun a:Empty=>a.elim) Mv [⟨[],[],[4]⟩] (by kernel_rfl)))
    (fun x=>by cases x with | r0 l=>exact ⟨.inr rfl,[.bool false l],[],by kernel_rfl,trivial,by kernel_rfl⟩) h
def xy:Option ni→Bool
  | some _=>true
  | none=>false
def yj:Option ni→Bool
  | some (.r0 x)=>x
  | _=>false
theorem aiI{x:Option ni}(h:xy x=true) :x=some (.r0 (yj x)):=by
  unfold xy at h
  split at h <;> first | rfl | (cases h;done) | (rename_i y;cases y;rfl)
def Yw:aJ:=bW pc (.cons (.agg (.cons (.int .i64) (.cons (.int .i64) (.cons .fl .nil)))) (.cons (.agg (.cons (.int .i64) (.cons (.int .i64) (.cons .fl .nil)))) .nil)) fun t=>[⟨Mw (.r0 (yj (sq t.1.1 t.1.2.1 t.1.2.2.1.2 t.2.1.1 t.2.1.2.1 t.2.1.2.2.1.2))),[xy (sq t.1.1 t.1.2.1 t.1.2.2.1.2 t.2.1.1 t.2.1.2.1 t.2.1.2.2.1.2)]⟩]
theorem ac2:aU prog Yw:=aO fun t=>(aP (fun h=>aiH t.1.1 t.1.2.1 t.1.2.2.1.1 t.1.2.2.1.2 t.2.1.1 t.2.1.2.1 t.2.1.2.2.1.1 t.2.1.2.2.1.2 (aiI h)) aW)
def Yx:List aJ:=Yw :: Nh
theorem kG:aY prog (bb Yx):=au ac2 yL
inductive cR where
  | r0 (a:Int) (b:Int) (c:Nat) (d:List Nat)
def g9:cR→AE×aL
  | .r0 b c a d=>(.ret,⟨ah 47 [(2,.ptr 0 1 0 0)],[(0,.vs [.int .i64 b,.int .i64 c,.sl 1 1 1 0 a a]),(1,.fl d)],2⟩)
theorem js:kR g9:=by intro x;cases x <;> (intro h;cases h)
theorem Ex(id:Nat) :qE id g9:=by intro x;cases x <;> (intro h;cases h)
def Hg:cR→jc
  | .r0 a b c d=>⟨.agg [.int .i64 a,.int .i64 b,.imm .free (.fl d) 1 1 0 c],[]⟩
def rj:List Code:=bJ (bi jY)
def Ni(b:Int)(c:Int)(d:Lv)(a:List Nat)(e:(List Nat)) :aL:=⟨ah 47 [(1,.ptr 0 1 0 0),(2,.ptr 1 1 0 0),(3,.ptr 2 1 0 0),(4,.int .i64 (0:Int))],[(0,.vs [.int .i64 b,.int .i64 c,.imm d (.fl a) 1 1 0 (List.length a)]),(1,.vs [.int .i64 (0:Int),.int .i64 (0:Int),.nsl]),(2,.vs [.int .i64 c,.int .i64 b,.sl 3 1 1 0 (List.length a) (List.length a)]),(3,.fl e)],4⟩
def Kv(a:List Nat) :T (((List Nat))⊕(cR)) :=
  .need (decide ((0:Int)≤(((List.length a):Nat):Int)))<|.need (decide ((((List.length a):Nat):Int)≤(((List.length a):Nat):Int)))<|.need (decide ((8:Int) * (((List.length a):Nat):Int)≤140737488355328))<|.need (d8 .i64 (((List.length a):Nat):Int))<|.leaf (.inl (List.replicate (List.length a) 0))
def oa(b:Int)(c:Int)(d:Lv)(a:List Nat) :Nat×(List Nat)→aL:=fun (e,f)=>⟨ah 47 [(1,.ptr 0 1 0 0),(2,.ptr 1 1 0 0),(3,.ptr 2 1 0 0),(4,.int .i64 ((e:Nat):Int))],[(0,.vs [.int .i64 b,.int .i64 c,.imm d (.fl a) 1 1 0 (List.length a)]),(1,.vs [.int .i64 (0:Int),.int .i64 (0:Int),.nsl]),(2,.vs [.int .i64 c,.int .i64 b,.sl 3 1 1 0 (List.length a) (List.length a)]),(3,.fl f)],4⟩
def iz(b:Int)(c:Int)(a:List Nat)(d:(List Nat)) :aL:=⟨ah 47 [(2,.ptr 0 1 0 0),(3,.ptr 1 1 0 0)],[(0,.vs [.int .i64 (0:Int),.int .i64 (0:Int),.nsl]),(1,.vs [.int .i64 c,.int .i64 b,.sl 2 1 1 0 (List.length a) (List.length a)]),(2,.fl d)],3⟩
def oc:List Code:=bJ (bK ((((rj.drop 3).take 1)).headD .skip))
def Kw(b:Int)(c:Int)(d:Lv)(a:List Nat)(e:Nat)(f:List Nat)(_:Unit) :aL:=⟨ah 47 [(1,.ptr 0 1 0 0),(2,.ptr 1 1 0 0),(3,.ptr 2 1 0 0),(4,.int .i64 ((e:Nat):Int))],[(0,.vs [.int .i64 b,.int .i64 c,.imm d (.fl a) 1 1 0 (List.length a)]),(1,.vs [.int .i64 (0:Int),.int .i64 (0:Int),.nsl]),(2,.vs [.int .i64 c,.int .i64 b,.sl 3 1 1 0 (List.length a) (List.length a)]),(3,.fl f)],4⟩
def Kx(a:Int)(b:Nat)(c:List Nat) :T ((Unit)⊕(((List Nat))⊕(cR))) :=
  .ask (decide (((b:Nat):Int) < a))
    (.leaf (.inl ()))
    (.leaf (.inr (.inl c)))
def lc(b:Int)(c:Int)(d:Lv)(a:List Nat)(e:Nat)(f:(List Nat)) :aL:=⟨ah 47 [(1,.ptr 0 1 0 0),(2,.ptr 1 1 0 0),(3,.ptr 2 1 0 0),(4,.int .i64 ((e:Nat):Int))],[(0,.vs [.int .i64 b,.int .i64 c,.imm d (.fl a) 1 1 0 (List.length a)]),(1,.vs [.int .i64 (0:Int),.int .i64 (0:Int),.nsl]),(2,.vs [.int .i64 c,.int .i64 b,.sl 3 1 1 0 (List.length a) (List.length a)]),(3,.fl f)],4⟩
def rl:List Code:=bJ (inBlock ((((oc.drop 2).take 1)).headD .skip))
def Ky(b:Int)(c:Int)(d:Lv)(a:List Nat)(e:Nat)(f:List Nat)(_:Unit) :aL:=⟨ah 47 [(1,.ptr 0 1 0 0),(2,.ptr 1 1 0 0),(3,.ptr 2 1 0 0),(4,.int .i64 ((e:Nat):Int)),(5,.int .i64 (0:Int))],[(0,.vs [.int .i64 b,.int .i64 c,.imm d (.fl a) 1 1 0 (List.length a)]),(1,.vs [.int .i64 (0:Int),.int .i64 (0:Int),.nsl]),(2,.vs [.int .i64 c,.int .i64 b,.sl 3 1 1 0 (List.length a) (List.length a)]),(3,.fl f)],4⟩
def Kz:T ((Unit)⊕(((List Nat))⊕(((List Nat))⊕(cR)))) :=
  .leaf (.inl ())
def od(b:Int)(c:Int)(d:Lv)(a:List Nat)(e:Nat) :Nat×(List Nat)→aL:=fun (f,g)=>⟨ah 47 [(1,.ptr 0 1 0 0),(2,.ptr 1 1 0 0),(3,.ptr 2 1 0 0),(4,.int .i64 ((e:Nat):Int)),(5,.int .i64 ((f:Nat):Int))],[(0,.vs [.int .i64 b,.int .i64 c,.imm d (.fl a) 1 1 0 (List.length a)]),(1,.vs [.int .i64 (0:Int),.int .i64 (0:Int),.nsl]),(2,.vs [.int .i64 c,.int .i64 b,.sl 3 1 1 0 (List.length a) (List.length a)]),(3,.fl g)],4⟩
def wd(b:Int)(c:Int)(d:Lv)(a:List Nat)(e:Nat)(f:(List Nat)) :aL:=⟨ah 47 [(1,.ptr 0 1 0 0),(2,.ptr 1 1 0 0),(3,.ptr 2 1 0 0),(4,.int .i64 ((e:Nat):Int))],[(0,.vs [.int .i64 b,.int .i64 c,.imm d (.fl a) 1 1 0 (List.length a)]),(1,.vs [.int .i64 (0:Int),.int .i64 (0:Int),.nsl]),(2,.vs [.int .i64 c,.int .i64 b,.sl 3 1 1 0 (List.length a) (List.length a)]),(3,.fl f)],4⟩
def KA:List Code:=bJ (bK ((((rl.drop 1).take 1)).headD .skip))
def KB(d:Int)(c:Int)(e:List Nat)(b:Nat)(a:Nat)(f:List Nat) :T ((Nat×(List Nat))⊕(((List Nat))⊕(((List Nat))⊕(((List Nat))⊕(cR))))) :=
  .ask (decide (((a:Nat):Int) < c))
    (.need (d8 .i64 (((a:Nat):Int) * d))<|.need (d8 .i64 ((((a:Nat):Int) * d)+((b:Nat):Int)))<|.need (d8 .i64 (((b:Nat):Int) * c))<|.need (d8 .i64 ((((b:Nat):Int) * c)+((a:Nat):Int)))<|.need (iS ((((b:Nat):Int) * c)+((a:Nat):Int)) (List.length e))<|.need (jC (Int.toNat ((((b:Nat):Int) * c)+((a:Nat):Int))) (List.length e))<|.need (iS ((((a:Nat):Int) * d)+((b:Nat):Int)) (List.length e))<|.need (jC (Int.toNat ((((a:Nat):Int) * d)+((b:Nat):Int))) (List.length f))<|.need (d8 .i64 (((a+1):Nat):Int))<|.leaf (.inl ((a+1),(List.set f (Int.toNat ((((a:Nat):Int) * d)+((b:Nat):Int))) (List.getD e (Int.toNat ((((b:Nat):Int) * c)+((a:Nat):Int))) 0)))))
    (.leaf (.inr (.inl f)))
def B3(a:Int)(b:Int)(c:List Nat)(d:Nat) :Nat×(List Nat)→Option ((Nat×(List Nat))⊕(((List Nat))⊕(((List Nat))⊕(((List Nat))⊕(cR))))):=fun (e,f) =>
  (KB a b c d e f).run
theorem ZS(a:Int)(b:Int)(e:Lv)(c:List Nat)(d:Nat)(f:Nat)(g:List Nat) :Sg prog [] KA (od a b e c d (f,g)) (B3 a b c d (f,g)) (od a b e c d) (aN 2 (wd a b e c d) (aN 1 (lc a b e c d) (aN 0 (iz a b c) g9))):=by
  unfold B3;exact Sg.seg (C:=C0) an kG 60 KA (od a b e c d (f,g)) (KB a b c d f g) (od a b e c d) (aN 2 (wd a b e c d) (aN 1 (lc a b e c d) (aN 0 (iz a b c) g9))) [⟨[],[0,1,2,3],[1,2,3,4,5]⟩,⟨[],[0,1,2,3],[1,2,3,4]⟩] (by kernel_rfl)
def ZT(a:Int)(b:Int)(c:Lv)(d:List Nat)(e:Nat) :(List Nat)→aL:=wd a b c d e
def KC(a:List Nat) :T (((List Nat))⊕(((List Nat))⊕(((List Nat))⊕(cR)))) :=
  .leaf (.inl a)
def ZU(a:Int)(b:Int)(c:Lv)(d:List Nat)(e:Nat) :(List Nat)→aL:=lc a b c d e
def KD(a:Nat)(b:List Nat) :T ((Nat×(List Nat))⊕(((List Nat))⊕(cR))) :=
  .need (d8 .i64 (((a+1):Nat):Int))<|.leaf (.inl ((a+1),b))
def B4(b:Int)(d:Int)(e:List Nat) :Nat×(List Nat)→Option ((Nat×(List Nat))⊕(((List Nat))⊕(cR))):=fun (a,c) =>
  aC ((Kx b a c).run) fun _ =>
  aC (NN (aC ((Kz).run) fun _ =>
  aC (dM (B3 b d e a) (0,c)) fun f =>
  (KC f).run)) fun g =>
  (KD a g).run
theorem ZV(b:Int)(c:Int)(f:Lv)(d:List Nat)(e:Nat)(g:List Nat) :Sg prog [] oc (oa b c f d (e,g)) (B4 b c d (e,g)) (oa b c f d) (aN 0 (iz b c d) g9):=by
  unfold B4;exact Sg.cut 2 (aI js) (Sg.seg (C:=C0) an kG 60 (oc.take 2) (oa b c f d (e,g)) (Kx b e g) (Kw b c f d e g) (aN 0 (iz b c d) g9) [⟨[],[0,1,2,3],[1,2,3,4]⟩,⟨[],[1,2,3],[2,3]⟩] (by kernel_rfl)) (fun a=>by cases a;exact Sg.cut 1 (aI js) (yp (id:=1) (K:=(lc b c f d e)) (by kernel_rfl:((oc.drop 2).take 1) = [.block 1 (inBlock ((((oc.drop 2).take 1)).headD .skip))]) (aI js) (eK (by decide) (Ex _)) (Sg.cut 1 (aI (aI js)) (Sg.seg (C:=C0) an kG 60 (rl.take 1) (Kw b c f d e g ()) (Kz) (Ky b c f d e g) (aN 1 (lc b c f d e) (aN 0 (iz b c d) g9)) [⟨[],[0,1,2,3],[1,2,3,4,5]⟩] (by kernel_rfl)) (fun a=>by cases a;exact Sg.cut 1 (aI (aI js)) (Sg.pre ⟨[],[0,1,2,3],[1,2,3,4,5]⟩ rfl (by kernel_rfl:NS.on ⟨[],[0,1,2,3],[1,2,3,4,5]⟩ (Ky b c f d e g ())=(od b c f d e) (0,g)) (bU (I:=(od b c f d e)) (J:=(wd b c f d e)) (id:=2) (by kernel_rfl:((rl.drop 1).take 1) = [.block 2 (.loop (bK ((((rl.drop 1).take 1)).headD .skip)))]) (aI (aI js)) (eK (by decide) (eK (by decide) (Ex _))) (fun s=>by obtain ⟨j,k⟩:=s;exact ZS b c f d e j k) (0,g))) (fun h=>by exact Sg.seg (C:=C0) an kG 60 ((rl.drop 1).drop 1) (ZT b c f d e h) (KC h) (lc b c f d e) (aN 1 (lc b c f d e) (aN 0 (iz b c d) g9)) [⟨[],[0,1,2,3],[1,2,3,4]⟩] (by kernel_rfl))))) (fun i=>by exact Sg.seg (C:=C0) an kG 60 ((oc.drop 2).drop 1) (ZU b c f d e i) (KD e i) (oa b c f d) (aN 0 (iz b c d) g9) [⟨[],[0,1,2,3],[1,2,3,4]⟩] (by kernel_rfl)))
def ZW(a:Int)(b:Int)(c:List Nat) :(List Nat)→aL:=iz a b c
def KE(a:Int)(b:Int)(c:List Nat)(d:List Nat) :T ((Empty)⊕(cR)) :=
  .leaf (.inr (.r0 b a (List.length c) d))
def dE(b:Int)(c:Int)(a:List Nat) :Option cR:=ld (aC ((Kv a).run) fun d =>
  aC (dM (B4 b c a) (0,d)) fun e =>
  (KE b c a e).run)
theorem ac3(c:Int)(d:Int)(e:Lv)(b:List Nat){x:cR}(h:dE c d b=some x) :aw prog jY [] [.agg [.int .i64 c,.int .i64 d,.imm e (.fl b) 1 1 0 (List.length b)]] (Hg x) :=
  Sg.contract true Hg (by kernel_rfl:prog.funcs[jY]? = some (FN jY)) (by kernel_rfl:(FN jY).body=some (bi jY)) (Sg.cut 3 js (Sg.seg (C:=C0) an kG 60 (rj.take 3) (aT (FN jY) [] [.agg [.int .i64 c,.int .i64 d,.imm e (.fl b) 1 1 0 (List.length b)]]) (Kv b) (Ni c d e b) g9 [⟨[],[0,16,176,144],[1,2,3,4]⟩] (by kernel_rfl)) (fun f=>by exact Sg.cut 1 js (Sg.pre ⟨[],[0,1,2,3],[1,2,3,4]⟩ rfl (by kernel_rfl:NS.on ⟨[],[0,1,2,3],[1,2,3,4]⟩ (Ni c d e b f)=(oa c d e b) (0,f)) (bU (I:=(oa c d e b)) (J:=(iz c d b)) (id:=0) (by kernel_rfl:((rj.drop 3).take 1) = [.block 0 (.loop (bK ((((rj.drop 3).take 1)).headD .skip)))]) js (Ex _) (fun s=>by obtain ⟨j,k⟩:=s;exact ZV c d e b j k) (0,f))) (fun g=>by exact Sg.seg (C:=C0) an kG 60 ((rj.drop 3).drop 1) (ZW c d b g) (KE c d b g) (fun a:Empty=>a.elim) g9 [⟨[],[0,2],[2]⟩] (by kernel_rfl))))
    (fun x=>by cases x with | r0 l m i n=>exact ⟨.inr rfl,[.agg [.int .i64 l,.int .i64 m,.sl 1 1 1 0 i i]],[],by kernel_rfl,trivial,by kernel_rfl⟩) h
def yk:Option cR→Bool
  | some _=>true
  | none=>false
def tT:Option cR→Int
  | some (.r0 x _ _ _)=>x
  | _=>0
def tU:Option cR→Int
  | some (.r0 _ x _ _)=>x
  | _=>0
def qh:Option cR→Nat
  | some (.r0 _ _ x _)=>x
  | _=>0
def qi:Option cR→List Nat
  | some (.r0 _ _ _ x)=>x
  | _=>[]
theorem ac4{x:Option cR}(h:yk x=true) :x=some (.r0 (tT x) (tU x) (qh x) (qi x)):=by
  unfold yk at h
  split at h <;> first | rfl | (cases h;done) | (rename_i y;cases y;rfl)
def Qb:aJ:=bW jY (.cons (.agg (.cons (.int .i64) (.cons (.int .i64) (.cons .fl .nil)))) .nil) fun t=>[⟨Hg (.r0 (tT (dE t.1.1 t.1.2.1 t.1.2.2.1.2)) (tU (dE t.1.1 t.1.2.1 t.1.2.2.1.2)) (qh (dE t.1.1 t.1.2.1 t.1.2.2.1.2)) (qi (dE t.1.1 t.1.2.1 t.1.2.2.1.2))),[yk (dE t.1.1 t.1.2.1 t.1.2.2.1.2)]⟩]
theorem Yy:aU prog Qb:=aO fun t=>(aP (fun h=>ac3 t.1.1 t.1.2.1 t.1.2.2.1.1 t.1.2.2.1.2 (ac4 h)) aW)
def Qc:List aJ:=Qb :: Yx
theorem fM:aY prog (bb Qc):=au Yy kG
end
end Go.Plb.Seat
namespace Go.Plb.Seat
open Go Go.Plb
set_option linter.unusedVariables false
set_option maxRecDepth 100000
noncomputable section
inductive cv where
  | r0 (a:Bool)
def eZ:cv→AE×aL
  | .r0 a=>(.ret,⟨ah 83 [(6,.bool false a)],[],0⟩)
theorem gn:kR eZ:=by intro x;cases x <;> (intro h;cases h)
def yM:cv→jc
  | .r0 a=>⟨.bool false a,[]⟩
def fo:List Code:=bJ (bi gN)
def EL(b:Int)(c:Int)(d:Int)(e:Int)(f:Lv)(a:List Nat)(_:Unit) :aL:=⟨ah 83 [(0,.int .i64 b),(1,.int .i64 c),(5,.ptr 0 1 0 0)],[(0,.vs [.int .i64 d,.int .i64 e,.imm f (.fl a) 1 1 0 (List.length a)])],1⟩
def DM(a:List Nat) :T ((Unit)⊕(cv)) :=
  .ask (decide ((((List.length a):Nat):Int) > (400:Int)))
    (.need (g8 (de))<|.leaf (.inr (.r0 (gj (de)))))
    (.leaf (.inl ()))
def EM(b:Int)(c:Int)(d:Int)(e:Int)(f:Lv)(a:List Nat) :Nat×Bool×(List Int)×Nat×Nat×Int→aL:=fun (g,h,i,j,k,l)=>⟨ah 83 [(0,.int .i64 b),(1,.int .i64 c),(5,.ptr 0 1 0 0),(7,.ptr 1 1 0 0),(8,.int .i64 ((g:Nat):Int))],[(0,.vs [.int .i64 d,.int .i64 e,.imm f (.fl a) 1 1 0 (List.length a)]),(1,.vs [.bool false h,.imm .free (.ns .u64 i) 1 1 j k,.int .i64 l])],2⟩
def DN(a:Int)(b:Int) :T ((Nat×Bool×(List Int)×Nat×Nat×Int)⊕(cv)) :=
  .need (tE (bZ a b))<|.leaf (.inl ((sM (bZ a b)),(sN (bZ a b)),(sO (bZ a b)),(sP (bZ a b)),(sQ (bZ a b)),(sR (bZ a b))))
def EN(b:Int)(c:Int)(d:Int)(e:Int)(f:Lv)(a:List Nat)(g:Nat)(h:Bool)(i:List Int)(j:Nat)(k:Nat)(l:Int)(m:Bool) :aL:=⟨ah 83 [(0,.int .i64 b),(1,.int .i64 c),(5,.ptr 0 1 0 0),(7,.ptr 1 1 0 0),(8,.int .i64 ((g:Nat):Int)),(35,.bool false m)],[(0,.vs [.int .i64 d,.int .i64 e,.imm f (.fl a) 1 1 0 (List.length a)]),(1,.vs [.bool false h,.imm .free (.ns .u64 i) 1 1 j k,.int .i64 l])],2⟩
def DO(a:Int)(b:Int) :T ((Bool)⊕(cv)) :=
  .ask (decide (a < (0:Int)))
    (.leaf (.inl true))
    (.ask (decide (a > (512:Int)))
      (.leaf (.inl true))
      (.ask (decide (b < (0:Int)))
        (.leaf (.inl true))
        (.leaf (.inl (decide (b > (512:Int)))))))
def EO(b:Int)(c:Int)(d:Lv)(a:List Nat)(_:Unit) :aL:=⟨ah 83 [(5,.ptr 0 1 0 0)],[(0,.vs [.int .i64 b,.int .i64 c,.imm d (.fl a) 1 1 0 (List.length a)])],1⟩
def DP(a:Int)(b:Int)(h:Nat)(f:Bool)(c:List Int)(d:Nat)(e:Nat)(g:Int)(i:Bool) :T ((Unit)⊕(cv)) :=
  .ask i
    (.ask (((h:Nat):Int) != (2:Int))
      (.leaf (.inr (.r0 false)))
      (.need (aQ d e c)<|.need (v8 (sV f (aa d e c) g ([]:List Int) (0:Int)))<|.ask (!(yI (sV f (aa d e c) g ([]:List Int) (0:Int))))
        (.leaf (.inr (.r0 false)))
        (.leaf (.inl ()))))
    (.ask (((h:Nat):Int) != (0:Int))
      (.leaf (.inr (.r0 false)))
      (.need (AJ (d4 a b))<|.need (aQ d e c)<|.need (aQ 0 (rh (d4 a b)) (rf (d4 a b)))<|.need (nV (gD f (aa d e c) g (v9 (d4 a b)) (aa 0 (rh (d4 a b)) (rf (d4 a b))) (wa (d4 a b))))<|.ask (!(mr (gD f (aa d e c) g (v9 (d4 a b)) (aa 0 (rh (d4 a b)) (rf (d4 a b))) (wa (d4 a b)))))
        (.leaf (.inr (.r0 false)))
        (.leaf (.inl ()))))
def EP(b:Int)(c:Int)(d:Lv)(a:List Nat) :Nat×Int×Int×(List Nat)×Nat→aL:=fun (f8,e,f,g,h)=>⟨ah 83 [(5,.ptr 0 1 0 0),(9,.ptr 1 1 0 0),(10,.int .i64 ((f8:Nat):Int))],[(0,.vs [.int .i64 b,.int .i64 c,.imm d (.fl a) 1 1 0 (List.length a)]),(1,.vs [.int .i64 e,.int .i64 f,.imm .free (.fl g) 1 1 0 h])],2⟩
def DQ(b:Int)(c:Int)(a:List Nat) :T ((Nat×Int×Int×(List Nat)×Nat)⊕(cv)) :=
  .need (aQ 0 (List.length a) a)<|.need (AK (fL b c (aa 0 (List.length a) a)))<|.leaf (.inl ((BW (fL b c (aa 0 (List.length a) a))),(BX (fL b c (aa 0 (List.length a) a))),(BY (fL b c (aa 0 (List.length a) a))),(B0 (fL b c (aa 0 (List.length a) a))),(BZ (fL b c (aa 0 (List.length a) a)))))
def EQ(b:Int)(c:Int)(d:Lv)(a:List Nat)(f8:Nat)(e:Int)(f:Int)(g:List Nat)(h:Nat)(i:Bool) :aL:=⟨ah 83 [(5,.ptr 0 1 0 0),(9,.ptr 1 1 0 0),(10,.int .i64 ((f8:Nat):Int)),(61,.bool false i)],[(0,.vs [.int .i64 b,.int .i64 c,.imm d (.fl a) 1 1 0 (List.length a)]),(1,.vs [.int .i64 e,.int .i64 f,.imm .free (.fl g) 1 1 0 h])],2⟩
def DR(b:Int)(c:Int)(a:List Nat) :T ((Bool)⊕(cv)) :=
  .need (aQ 0 (List.length a) a)<|.need (AL (rL b c (aa 0 (List.length a) a)))<|.leaf (.inl (!(AM (rL b c (aa 0 (List.length a) a)))))
def ER(b:Int)(c:Int)(d:Lv)(a:List Nat)(f8:Nat)(e:Int)(f:Int)(g:List Nat)(h:Nat)(_:Unit) :aL:=⟨ah 83 [(5,.ptr 0 1 0 0),(9,.ptr 1 1 0 0),(10,.int .i64 ((f8:Nat):Int))],[(0,.vs [.int .i64 b,.int .i64 c,.imm d (.fl a) 1 1 0 (List.length a)]),(1,.vs [.int .i64 e,.int .i64 f,.imm .free (.fl g) 1 1 0 h])],2⟩
def DS(f8:Nat)(c:Int)(d:Int)(a:List Nat)(b:Nat)(e:Bool) :T ((Unit)⊕(cv)) :=
  .ask e
    (.ask (((f8:Nat):Int) == (2:Int))
      (.need (aQ 0 b a)<|.need (xy (sq c d (aa 0 b a) (0:Int) (0:Int) ([]:List Nat)))<|.ask (yj (sq c d (aa 0 b a) (0:Int) (0:Int) ([]:List Nat)))
        (.need (g8 (de))<|.leaf (.inr (.r0 (gj (de)))))
        (.leaf (.inr (.r0 false))))
      (.leaf (.inr (.r0 false))))
    (.leaf (.inl ()))
def ES(a:Bool) :aL:=⟨ah 83 [(6,.bool false a)],[],0⟩
def DT(b:Int)(c:Int)(a:List Nat)(f8:Nat)(f:Int)(g:Int)(d:List Nat)(e:Nat) :T ((Bool)⊕(cv)) :=
  .ask (((f8:Nat):Int) == (0:Int))
    (.need (aQ 0 (List.length a) a)<|.need (yk (dE b c (aa 0 (List.length a) a)))<|.need (aQ 0 e d)<|.need (aQ 0 (qh (dE b c (aa 0 (List.length a) a))) (qi (dE b c (aa 0 (List.length a) a))))<|.need (xy (sq f g (aa 0 e d) (tT (dE b c (aa 0 (List.length a) a))) (tU (dE b c (aa 0 (List.length a) a))) (aa 0 (qh (dE b c (aa 0 (List.length a) a))) (qi (dE b c (aa 0 (List.length a) a))))))<|.ask (yj (sq f g (aa 0 e d) (tT (dE b c (aa 0 (List.length a) a))) (tU (dE b c (aa 0 (List.length a) a))) (aa 0 (qh (dE b c (aa 0 (List.length a) a))) (qi (dE b c (aa 0 (List.length a) a))))))
      (.need (g8 (de))<|.leaf (.inl (gj (de))))
      (.leaf (.inl false)))
    (.leaf (.inl false))
def DU(a:Bool) :T ((Empty)⊕(cv)) :=
  .leaf (.inr (.r0 a))
def yN(b:Int)(c:Int)(d:Int)(e:Int)(a:List Nat) :Option cv:=ld (aC ((DM a).run) fun _ =>
  aC ((DN b c).run) fun (j,k,l,m,n,o) =>
  aC ((DO b c).run) fun p =>
  aC ((DP b c j k l m n o p).run) fun _ =>
  aC ((DQ d e a).run) fun (f8,f,g,h,i) =>
  aC ((DR d e a).run) fun q =>
  aC ((DS f8 f g h i q).run) fun _ =>
  aC ((DT d e a f8 f g h i).run) fun r =>
  (DU r).run)
theorem Ri(f:Int)(g:Int)(c:Int)(d:Int)(e:Lv)(b:List Nat){x:cv}(h:yN f g c d b=some x) :aw prog gN [] [.int .i64 f,.int .i64 g,.agg [.int .i64 c,.int .i64 d,.imm e (.fl b) 1 1 0 (List.length b)]] (yM x) :=
  Sg.contract false yM (by kernel_rfl:prog.funcs[gN]? = some (FN gN)) (by kernel_rfl:(FN gN).body=some (bi gN)) (Sg.cut 3 gn (Sg.seg (C:=C0) an fM 60 (fo.take 3) (aT (FN gN) [] [.int .i64 f,.int .i64 g,.agg [.int .i64 c,.int .i64 d,.imm e (.fl b) 1 1 0 (List.length b)]]) (DM b) (EL f g c d e b) eZ [⟨[],[],[6]⟩,⟨[],[0],[0,1,5]⟩] (by kernel_rfl)) (fun a=>by cases a;exact Sg.cut 1 gn (Sg.seg (C:=C0) an fM 60 ((fo.drop 3).take 1) (EL f g c d e b ()) (DN f g) (EM f g c d e b) eZ [⟨[],[0,97],[0,1,5,7,8]⟩] (by kernel_rfl)) (fun a=>by obtain ⟨m,n,o,p,q,r⟩:=a;exact Sg.cut 1 gn (Sg.seg (C:=C0) an fM 60 (((fo.drop 3).drop 1).take 1) (EM f g c d e b (m,n,o,p,q,r)) (DO f g) (EN f g c d e b m n o p q r) eZ [⟨[],[0,1],[0,1,5,7,8,35]⟩,⟨[],[0,1],[0,1,5,7,8,35]⟩,⟨[],[0,1],[0,1,5,7,8,35]⟩,⟨[],[0,1],[0,1,5,7,8,35]⟩] (by kernel_rfl)) (fun s=>by exact Sg.cut 1 gn (Sg.seg (C:=C0) an fM 60 ((((fo.drop 3).drop 1).drop 1).take 1) (EN f g c d e b m n o p q r s) (DP f g m n o p q r s) (EO c d e b) eZ [⟨[],[],[6]⟩,⟨[],[],[6]⟩,⟨[],[0],[5]⟩,⟨[],[],[6]⟩,⟨[],[],[6]⟩,⟨[],[0],[5]⟩] (by kernel_rfl)) (fun a=>by cases a;exact Sg.cut 1 gn (Sg.seg (C:=C0) an fM 60 (((((fo.drop 3).drop 1).drop 1).drop 1).take 1) (EO c d e b ()) (DQ c d b) (EP c d e b) eZ [⟨[],[0,81],[5,9,10]⟩] (by kernel_rfl)) (fun a=>by obtain ⟨f8,i,j,k,l⟩:=a;exact Sg.cut 1 gn (Sg.seg (C:=C0) an fM 60 ((((((fo.drop 3).drop 1).drop 1).drop 1).drop 1).take 1) (EP c d e b (f8,i,j,k,l)) (DR c d b) (EQ c d e b f8 i j k l) eZ [⟨[],[0,1],[5,9,10,61]⟩] (by kernel_rfl)) (fun t=>by exact Sg.cut 1 gn (Sg.seg (C:=C0) an fM 60 (((((((fo.drop 3).drop 1).drop 1).drop 1).drop 1).drop 1).take 1) (EQ c d e b f8 i j k l t) (DS f8 i j k l t) (ER c d e b f8 i j k l) eZ [⟨[],[],[6]⟩,⟨[],[],[6]⟩,⟨[],[],[6]⟩,⟨[],[0,1],[5,9,10]⟩] (by kernel_rfl)) (fun a=>by cases a;exact Sg.cut 1 gn (Sg.seg (C:=C0) an fM 60 ((((((((fo.drop 3).drop 1).drop 1).drop 1).drop 1).drop 1).drop 1).take 1) (ER c d e b f8 i j k l ()) (DT c d b f8 i j k l) ES eZ [⟨[],[],[6]⟩,⟨[],[],[6]⟩,⟨[],[],[6]⟩] (by kernel_rfl)) (fun u=>by exact Sg.seg (C:=C0) an fM 60 ((((((((fo.drop 3).drop 1).drop 1).drop 1).drop 1).drop 1).drop 1).drop 1) (ES u) (DU u) (fun a:Empty=>a.elim) eZ [⟨[],[],[6]⟩] (by kernel_rfl))))))))))
    (fun x=>by cases x with | r0 v=>exact ⟨.inr rfl,[.bool false v],[],by kernel_rfl,trivial,by kernel_rfl⟩) h
def wo:Option cv→Bool
  | some _=>true
  | none=>false
def Bf:Option cv→Bool
  | some (.r0 x)=>x
  | _=>false
theorem Rj{x:Option cv}(h:wo x=true) :x=some (.r0 (Bf x)):=by
  unfold wo at h
  split at h <;> first | rfl | (cases h;done) | (rename_i y;cases y;rfl)
def Hh:aJ:=bW gN (.cons (.int .i64) (.cons (.int .i64) (.cons (.agg (.cons (.int .i64) (.cons (.int .i64) (.cons .fl .nil)))) .nil))) fun t=>[⟨yM (.r0 (Bf (yN t.1 t.2.1 t.2.2.1.1 t.2.2.1.2.1 t.2.2.1.2.2.1.2))),[wo (yN t.1 t.2.1 t.2.2.1.1 t.2.2.1.2.1 t.2.2.1.2.2.1.2)]⟩]
theorem No:aU prog Hh:=aO fun t=>(aP (fun h=>Ri t.1 t.2.1 t.2.2.1.1 t.2.2.1.2.1 t.2.2.1.2.2.1.1 t.2.2.1.2.2.1.2 (Rj h)) aW)
def Hi:List aJ:=Hh :: Qc
theorem kQ:aY prog (bb Hi):=au No fM
inductive ii where
  | r0 (a:Nat)
def qs:ii→AE×aL
  | .r0 a=>(.ret,⟨ah 46 [(2,.int .i64 ((a:Nat):Int))],[],0⟩)
theorem AP:kR qs:=by intro x;cases x <;> (intro h;cases h)
theorem agn(id:Nat) :qE id qs:=by intro x;cases x <;> (intro h;cases h)
def JN:ii→jc
  | .r0 a=>⟨.int .i64 ((a:Nat):Int),[]⟩
def rm:List Code:=bJ (bi nm)
def Qd(b:Int)(c:Int)(d:Lv)(a:List Nat)(e:Bool) :aL:=⟨ah 46 [(1,.ptr 0 1 0 0),(21,.bool false e)],[(0,.vs [.int .i64 b,.int .i64 c,.imm d (.fl a) 1 1 0 (List.length a)])],1⟩
def AQ(a:Int)(b:Int) :T ((Bool)⊕(ii)) :=
  .ask (decide (a < (0:Int)))
    (.leaf (.inl true))
    (.ask (decide (a > (512:Int)))
      (.leaf (.inl true))
      (.ask (decide (b < (0:Int)))
        (.leaf (.inl true))
        (.leaf (.inl (decide (b > (512:Int)))))))
def Qe(b:Int)(c:Int)(d:Lv)(a:List Nat)(_:Unit) :aL:=⟨ah 46 [(1,.ptr 0 1 0 0),(3,.int .i64 (0:Int))],[(0,.vs [.int .i64 b,.int .i64 c,.imm d (.fl a) 1 1 0 (List.length a)])],1⟩
def AR(a:Int)(b:Int)(c:List Nat)(d:Bool) :T ((Unit)⊕(ii)) :=
  .ask d
    (.leaf (.inr (.r0 2)))
    (.need (d8 .i64 (a * b))<|.ask ((((List.length c):Nat):Int) != (a * b))
      (.leaf (.inr (.r0 8)))
      (.leaf (.inl ())))
def rn(b:Int)(c:Int)(d:Lv)(a:List Nat)(e:Nat) :aL:=⟨ah 46 [(1,.ptr 0 1 0 0),(3,.int .i64 ((e:Nat):Int))],[(0,.vs [.int .i64 b,.int .i64 c,.imm d (.fl a) 1 1 0 (List.length a)])],1⟩
def AS(_:Unit) :aL:=⟨ah 46 [],[],0⟩
def Nj:List Code:=bJ (bK (((((rm.drop 2).drop 4).take 1)).headD .skip))
def o0(b:List Nat)(a:Nat) :T ((Nat)⊕((Unit)⊕(ii))) :=
  .ask (decide (((a:Nat):Int) < (((List.length b):Nat):Int)))
    (.need (iS ((a:Nat):Int) (List.length b))<|.need (jC a (List.length b))<|.alt 0
      (.need (!isNaN (List.getD b a 0))<|.need (decide ((0:Int)≤(52:Int)))<|.need ((2048:Int) != (0:Int))<|.ask (!((Int.tmod (Int.fdiv (((List.getD b a 0):Nat):Int) (2 ^ (min (Int.toNat (52:Int)) (IntKind.u64.bits)))) (2048:Int)) != (2047:Int)))
        (.leaf (.inr (.inr (.r0 10))))
        (.need (d8 .i64 (((a+1):Nat):Int))<|.leaf (.inl (a+1))))
      (.alt 1
        (.need (isNaN (List.getD b a 0))<|.leaf (.inr (.inr (.r0 10))))
        (.fail)))
    (.leaf (.inr (.inl ())))
def yn(a:List Nat) :Nat→Option ((Nat)⊕((Unit)⊕(ii))):=fun b =>
  (o0 a b).run
theorem ac5(b:Int)(c:Int)(d:Lv)(a:List Nat)(e:Nat) :Sg prog [] Nj (rn b c d a e) (yn a e) (rn b c d a) (aN 0 AS qs):=by
  unfold yn;exact Sg.seg (C:=C0) an kQ 60 Nj (rn b c d a e) (o0 a e) (rn b c d a) (aN 0 AS qs) [⟨[],[],[2]⟩,⟨[],[0],[1,3]⟩,⟨[],[],[2]⟩,⟨[],[],[]⟩] (by kernel_rfl)
def ago:Unit→aL:=AS
def Nk:T ((Empty)⊕(ii)) :=
  .leaf (.inr (.r0 0))
def tJ(a:Int)(b:Int)(c:List Nat) :Option ii:=ld (aC ((AQ a b).run) fun d =>
  aC ((AR a b c d).run) fun _ =>
  aC (dM (yn c) 0) fun _ =>
  (Nk).run)
theorem agp(c:Int)(d:Int)(e:Lv)(b:List Nat){x:ii}(h:tJ c d b=some x) :aw prog nm [] [.agg [.int .i64 c,.int .i64 d,.imm e (.fl b) 1 1 0 (List.length b)]] (JN x) :=
  Sg.contract false JN (by kernel_rfl:prog.funcs[nm]? = some (FN nm)) (by kernel_rfl:(FN nm).body=some (bi nm)) (Sg.cut 2 AP (Sg.seg (C:=C0) an kQ 60 (rm.take 2) (aT (FN nm) [] [.agg [.int .i64 c,.int .i64 d,.imm e (.fl b) 1 1 0 (List.length b)]]) (AQ c d) (Qd c d e b) qs [⟨[],[0],[1,21]⟩,⟨[],[0],[1,21]⟩,⟨[],[0],[1,21]⟩,⟨[],[0],[1,21]⟩] (by kernel_rfl)) (fun f=>by exact Sg.cut 4 AP (Sg.seg (C:=C0) an kQ 60 ((rm.drop 2).take 4) (Qd c d e b f) (AR c d b f) (Qe c d e b) qs [⟨[],[],[2]⟩,⟨[],[],[2]⟩,⟨[],[0],[1,3]⟩] (by kernel_rfl)) (fun a=>by cases a;exact Sg.cut 1 AP (Sg.pre ⟨[],[0],[1,3]⟩ rfl (by kernel_rfl:NS.on ⟨[],[0],[1,3]⟩ (Qe c d e b ())=(rn c d e b) 0) (bU (I:=(rn c d e b)) (J:=(AS)) (id:=0) (by kernel_rfl:(((rm.drop 2).drop 4).take 1) = [.block 0 (.loop (bK (((((rm.drop 2).drop 4).take 1)).headD .skip)))]) AP (agn _) (fun s=>by exact ac5 c d e b s) 0)) (fun a=>by cases a;exact Sg.seg (C:=C0) an kQ 60 (((rm.drop 2).drop 4).drop 1) (ago ()) (Nk) (fun a:Empty=>a.elim) qs [⟨[],[],[2]⟩] (by kernel_rfl)))))
    (fun x=>by cases x with | r0 g=>exact ⟨.inr rfl,[.int .i64 ((g:Nat):Int)],[],by kernel_rfl,trivial,by kernel_rfl⟩) h
def AT:Option ii→Bool
  | some _=>true
  | none=>false
def B5:Option ii→Nat
  | some (.r0 x)=>x
  | _=>0
theorem agq{x:Option ii}(h:AT x=true) :x=some (.r0 (B5 x)):=by
  unfold AT at h
  split at h <;> first | rfl | (cases h;done) | (rename_i y;cases y;rfl)
def TX:aJ:=bW nm (.cons (.agg (.cons (.int .i64) (.cons (.int .i64) (.cons .fl .nil)))) .nil) fun t=>[⟨JN (.r0 (B5 (tJ t.1.1 t.1.2.1 t.1.2.2.1.2))),[AT (tJ t.1.1 t.1.2.1 t.1.2.2.1.2)]⟩]
theorem ZX:aU prog TX:=aO fun t=>(aP (fun h=>agp t.1.1 t.1.2.1 t.1.2.2.1.1 t.1.2.2.1.2 (agq h)) aW)
def TY:List aJ:=TX :: Hi
theorem KF:aY prog (bb TY):=au ZX kQ
inductive nW where
  | r0 (a:Nat)
def aiJ:nW→AE×aL
  | .r0 a=>(.ret,⟨ah 18 [(2,.int .i64 ((a:Nat):Int))],[],0⟩)
def JO:nW→jc
  | .r0 a=>⟨.int .i64 ((a:Nat):Int),[]⟩
def agr:List Code:=bJ (bi np)
def Hj(a:Int) :T ((Empty)⊕(nW)) :=
  .need (decide ((0:Int)≤(52:Int)))<|.ask ((fT .and .u64 (Int.fdiv a (2 ^ (min (Int.toNat (52:Int)) (IntKind.u64.bits)))) (2047:Int)) == (2047:Int))
    (.ask ((fT .and .u64 a (4503599627370495:Int)) == (0:Int))
      (.leaf (.inr (.r0 4)))
      (.leaf (.inr (.r0 5))))
    (.ask (decide ((fT .and .u64 (Int.fdiv a (2 ^ (min (Int.toNat (52:Int)) (IntKind.u64.bits)))) (2047:Int)) > (0:Int)))
      (.leaf (.inr (.r0 3)))
      (.ask (decide ((fT .and .u64 a (4503599627370495:Int)) > (0:Int)))
        (.leaf (.inr (.r0 2)))
        (.leaf (.inr (.r0 1)))))
def nX(a:Int) :Option nW:=ld ((Hj a).run)
theorem ags(b:Int){x:nW}(h:nX b=some x) :aw prog np [] [.int .u64 b] (JO x) :=
  Sg.contract false JO (by kernel_rfl:prog.funcs[np]? = some (FN np)) (by kernel_rfl:(FN np).body=some (bi np)) (Sg.seg (C:=C0) an KF 60 agr (aT (FN np) [] [.int .u64 b]) (Hj b) (fun a:Empty=>a.elim) aiJ [⟨[],[],[2]⟩,⟨[],[],[2]⟩,⟨[],[],[2]⟩,⟨[],[],[2]⟩,⟨[],[],[2]⟩] (by kernel_rfl))
    (fun x=>by cases x with | r0 c=>exact ⟨.inr rfl,[.int .i64 ((c:Nat):Int)],[],by kernel_rfl,trivial,by kernel_rfl⟩) h
def uY:Option nW→Bool
  | some _=>true
  | none=>false
def we:Option nW→Nat
  | some (.r0 x)=>x
  | _=>0
theorem agt{x:Option nW}(h:uY x=true) :x=some (.r0 (we x)):=by
  unfold uY at h
  split at h <;> first | rfl | (cases h;done) | (rename_i y;cases y;rfl)
def TZ:aJ:=bW np (.cons (.int .u64) .nil) fun t=>[⟨JO (.r0 (we (nX t.1))),[uY (nX t.1)]⟩]
theorem ZY:aU prog TZ:=aO fun t=>(aP (fun h=>ags t.1 (agt h)) aW)
def T1:List aJ:=TZ :: TY
theorem oe:aY prog (bb T1):=au ZY KF
inductive fN where
  | r0 (a:Bool) (b:Int) (c:Int)
def tK:fN→AE×aL
  | .r0 a b c=>(.ret,⟨ah 27 [(2,.ptr 0 1 0 0)],[(0,.vs [.bool false a,.int .u64 b,.int .i64 c])],1⟩)
theorem AU:kR tK:=by intro x;cases x <;> (intro h;cases h)
def JP:fN→jc
  | .r0 a b c=>⟨.agg [.bool false a,.int .u64 b,.int .i64 c],[]⟩
def uZ:List Code:=bJ (bi nn)
def Qf(a:Int) :Bool×Bool×Bool×Int→aL:=fun (b,c,d,e)=>⟨ah 27 [(0,.int .u64 a),(2,.ptr 0 1 0 0),(3,.ptr 1 1 0 0),(11,.bool false b)],[(0,.vs [.bool false c,.int .u64 (0:Int),.int .i64 (0:Int)]),(1,.vs [.bool false d,.int .u64 e,.int .i64 (-1074:Int)])],2⟩
def Hk(a:Int) :T ((Bool×Bool×Bool×Int)⊕(fN)) :=
  .need (uY (nX a))<|.leaf (.inl (((((we (nX a)):Nat):Int) == (1:Int)),false,(decide (a ≥ (9223372036854775808:Int))),(fT .and .u64 a (4503599627370495:Int))))
def Qg(a:Int)(b:Bool)(c:Bool)(d:Int)(e:Int) :aL:=⟨ah 27 [(0,.int .u64 a),(2,.ptr 0 1 0 0),(3,.ptr 1 1 0 0)],[(0,.vs [.bool false b,.int .u64 (0:Int),.int .i64 (0:Int)]),(1,.vs [.bool false c,.int .u64 d,.int .i64 e])],2⟩
def AW(a:Bool) :T ((Int)⊕(fN)) :=
  .ask a
    (.leaf (.inl (0:Int)))
    (.leaf (.inl (-1074:Int)))
def Qh(a:Int)(b:Bool)(c:Bool)(d:Int)(e:Int)(f:Bool) :aL:=⟨ah 27 [(0,.int .u64 a),(2,.ptr 0 1 0 0),(3,.ptr 1 1 0 0),(15,.bool false f)],[(0,.vs [.bool false b,.int .u64 (0:Int),.int .i64 (0:Int)]),(1,.vs [.bool false c,.int .u64 d,.int .i64 e])],2⟩
def AX(a:Int) :T ((Bool)⊕(fN)) :=
  .need (uY (nX a))<|.leaf (.inl ((((we (nX a)):Nat):Int) == (3:Int)))
def Qi(a:Bool)(b:Bool) :Int×Int→aL:=fun (c,d)=>⟨ah 27 [(2,.ptr 0 1 0 0),(3,.ptr 1 1 0 0)],[(0,.vs [.bool false a,.int .u64 (0:Int),.int .i64 (0:Int)]),(1,.vs [.bool false b,.int .u64 c,.int .i64 d])],2⟩
def AY(a:Int)(b:Int)(c:Int)(d:Bool) :T ((Int×Int)⊕(fN)) :=
  .ask d
    (.need (decide ((0:Int)≤(52:Int)))<|.need (d8 .i64 ((IntKind.i64.wrap (fT .and .u64 (Int.fdiv a (2 ^ (min (Int.toNat (52:Int)) (IntKind.u64.bits)))) (2047:Int))) - (1075:Int)))<|.leaf (.inl ((IntKind.u64.wrap (b+(4503599627370496:Int))),((IntKind.i64.wrap (fT .and .u64 (Int.fdiv a (2 ^ (min (Int.toNat (52:Int)) (IntKind.u64.bits)))) (2047:Int))) - (1075:Int)))))
    (.leaf (.inl (b,c)))
def Nl(a:Bool)(b:Int)(c:Int) :T ((Empty)⊕(fN)) :=
  .leaf (.inr (.r0 a b c))
def jW(a:Int) :Option fN:=ld (aC ((Hk a).run) fun (b,i,c,d) =>
  aC ((AW b).run) fun e =>
  aC ((AX a).run) fun f =>
  aC ((AY a d e f).run) fun (g,h) =>
  (Nl c g h).run)
theorem agu(b:Int){x:fN}(h:jW b=some x) :aw prog nn [] [.int .u64 b] (JP x) :=
  Sg.contract false JP (by kernel_rfl:prog.funcs[nn]? = some (FN nn)) (by kernel_rfl:(FN nn).body=some (bi nn)) (Sg.cut 3 AU (Sg.seg (C:=C0) an oe 60 (uZ.take 3) (aT (FN nn) [] [.int .u64 b]) (Hk b) (Qf b) tK [⟨[],[0,96],[0,2,3,11]⟩] (by kernel_rfl)) (fun a=>by obtain ⟨g,d,c,e⟩:=a;exact Sg.cut 1 AU (Sg.seg (C:=C0) an oe 60 ((uZ.drop 3).take 1) (Qf b (g,d,c,e)) (AW g) (Qg b d c e) tK [⟨[],[0,1],[0,2,3]⟩,⟨[],[0,1],[0,2,3]⟩] (by kernel_rfl)) (fun f=>by exact Sg.cut 1 AU (Sg.seg (C:=C0) an oe 60 (((uZ.drop 3).drop 1).take 1) (Qg b d c e f) (AX b) (Qh b d c e f) tK [⟨[],[0,1],[0,2,3,15]⟩] (by kernel_rfl)) (fun i=>by exact Sg.cut 1 AU (Sg.seg (C:=C0) an oe 60 ((((uZ.drop 3).drop 1).drop 1).take 1) (Qh b d c e f i) (AY b e f i) (Qi d c) tK [⟨[],[0,1],[2,3]⟩,⟨[],[0,1],[2,3]⟩] (by kernel_rfl)) (fun a=>by obtain ⟨j,k⟩:=a;exact Sg.seg (C:=C0) an oe 60 ((((uZ.drop 3).drop 1).drop 1).drop 1) (Qi d c (j,k)) (Nl c j k) (fun a:Empty=>a.elim) tK [⟨[],[0],[2]⟩] (by kernel_rfl))))))
    (fun x=>by cases x with | r0 l m n=>exact ⟨.inr rfl,[.agg [.bool false l,.int .u64 m,.int .i64 n]],[],by kernel_rfl,trivial,by kernel_rfl⟩) h
def AZ:Option fN→Bool
  | some _=>true
  | none=>false
def B6:Option fN→Bool
  | some (.r0 x _ _)=>x
  | _=>false
def B7:Option fN→Int
  | some (.r0 _ x _)=>x
  | _=>0
def B8:Option fN→Int
  | some (.r0 _ _ x)=>x
  | _=>0
theorem agv{x:Option fN}(h:AZ x=true) :x=some (.r0 (B6 x) (B7 x) (B8 x)):=by
  unfold AZ at h
  split at h <;> first | rfl | (cases h;done) | (rename_i y;cases y;rfl)
def T3:aJ:=bW nn (.cons (.int .u64) .nil) fun t=>[⟨JP (.r0 (B6 (jW t.1)) (B7 (jW t.1)) (B8 (jW t.1))),[AZ (jW t.1)]⟩]
theorem ZZ:aU prog T3:=aO fun t=>(aP (fun h=>agu t.1 (agv h)) aW)
def T4:List aJ:=T3 :: T1
theorem wg:aY prog (bb T4):=au ZZ oe
inductive iA where
  | r0 (a:Bool) (b:List Int) (c:Nat) (d:Int)
def FP:iA→AE×aL
  | .r0 a b c d=>(.ret,⟨ah 15 [(2,.ptr 0 1 0 0)],[(0,.vs [.bool false a,.imm .free (.ns .u64 b) 1 1 0 c,.int .i64 d])],1⟩)
theorem T5:kR FP:=by intro x;cases x <;> (intro h;cases h)
def Mx:iA→jc
  | .r0 a b c d=>⟨.agg [.bool false a,.imm .free (.ns .u64 b) 1 1 0 c,.int .i64 d],[]⟩
def JQ:List Code:=bJ (bi mN)
def T6:Bool×Bool×Int×Int→aL:=fun (a,b,c,d)=>⟨ah 15 [(2,.ptr 0 1 0 0),(3,.ptr 1 1 0 0)],[(0,.vs [.bool false a,.nsl,.int .i64 (0:Int)]),(1,.vs [.bool false b,.int .u64 c,.int .i64 d])],2⟩
def JR(a:Int) :T ((Bool×Bool×Int×Int)⊕(iA)) :=
  .need (AZ (jW a))<|.leaf (.inl (false,(B6 (jW a)),(B7 (jW a)),(B8 (jW a))))
def T7:Bool×(List Int)×Nat×Int→aL:=fun (a,b,c,d)=>⟨ah 15 [(2,.ptr 0 1 0 0)],[(0,.vs [.bool false a,.imm .free (.ns .u64 b) 1 1 0 c,.int .i64 d])],1⟩
def Dm(b:Bool)(a:Int)(c:Int) :T ((Bool×(List Int)×Nat×Int)⊕(iA)) :=
  .need (aQ 0 1 [a])<|.need (gg (aR b (aa 0 1 [a]) c))<|.leaf (.inl ((fq (aR b (aa 0 1 [a]) c)),(fu (aR b (aa 0 1 [a]) c)),(fv (aR b (aa 0 1 [a]) c)),(fw (aR b (aa 0 1 [a]) c))))
def T8(a:Bool)(b:List Int)(c:Nat)(d:Int) :T ((Empty)⊕(iA)) :=
  .leaf (.inr (.r0 a b c d))
def jt(a:Int) :Option iA:=ld (aC ((JR a).run) fun (i,b,c,d) =>
  aC ((Dm b c d).run) fun (e,f,g,h) =>
  (T8 e f g h).run)
theorem aiK(b:Int){x:iA}(h:jt b=some x) :aw prog mN [] [.int .u64 b] (Mx x) :=
  Sg.contract true Mx (by kernel_rfl:prog.funcs[mN]? = some (FN mN)) (by kernel_rfl:(FN mN).body=some (bi mN)) (Sg.cut 2 T5 (Sg.seg (C:=C0) an wg 60 (JQ.take 2) (aT (FN mN) [] [.int .u64 b]) (JR b) T6 FP [⟨[],[0,48],[2,3]⟩] (by kernel_rfl)) (fun a=>by obtain ⟨k,c,d,e⟩:=a;exact Sg.cut 1 T5 (Sg.seg (C:=C0) an wg 60 ((JQ.drop 2).take 1) (T6 (k,c,d,e)) (Dm c d e) T7 FP [⟨[],[0],[2]⟩] (by kernel_rfl)) (fun a=>by obtain ⟨f,g,i,j⟩:=a;exact Sg.seg (C:=C0) an wg 60 ((JQ.drop 2).drop 1) (T7 (f,g,i,j)) (T8 f g i j) (fun a:Empty=>a.elim) FP [⟨[],[0],[2]⟩] (by kernel_rfl))))
    (fun x=>by cases x with | r0 l m n o=>exact ⟨.inr rfl,[.agg [.bool false l,.imm .free (.ns .u64 m) 1 1 0 n,.int .i64 o]],[],by kernel_rfl,trivial,by kernel_rfl⟩) h
def Dn:Option iA→Bool
  | some _=>true
  | none=>false
def Ey:Option iA→Bool
  | some (.r0 x _ _ _)=>x
  | _=>false
def Ez:Option iA→List Int
  | some (.r0 _ x _ _)=>x
  | _=>[]
def EA:Option iA→Nat
  | some (.r0 _ _ x _)=>x
  | _=>0
def EB:Option iA→Int
  | some (.r0 _ _ _ x)=>x
  | _=>0
theorem aiL{x:Option iA}(h:Dn x=true) :x=some (.r0 (Ey x) (Ez x) (EA x) (EB x)):=by
  unfold Dn at h
  split at h <;> first | rfl | (cases h;done) | (rename_i y;cases y;rfl)
def Yz:aJ:=bW mN (.cons (.int .u64) .nil) fun t=>[⟨Mx (.r0 (Ey (jt t.1)) (Ez (jt t.1)) (EA (jt t.1)) (EB (jt t.1))),[Dn (jt t.1)]⟩]
theorem ac6:aU prog Yz:=aO fun t=>(aP (fun h=>aiK t.1 (aiL h)) aW)
def YA:List aJ:=Yz :: T4
theorem EC:aY prog (bb YA):=au ac6 wg
inductive ij where
  | r0 (a:Bool) (b:List Int) (c:Nat) (d:Int)
def JS:ij→AE×aL
  | .r0 a b c d=>(.ret,⟨ah 6 [(2,.ptr 0 1 0 0)],[(0,.vs [.bool false a,.imm .free (.ns .u64 b) 1 1 0 c,.int .i64 d])],1⟩)
theorem agw:kR JS:=by intro x;cases x <;> (intro h;cases h)
def JT:ij→jc
  | .r0 a b c d=>⟨.agg [.bool false a,.imm .free (.ns .u64 b) 1 1 0 c,.int .i64 d],[]⟩
def Qj:List Code:=bJ (bi lu)
def Qk:Bool×(List Int)×Nat×Int→aL:=fun (a,b,c,d)=>⟨ah 6 [(2,.ptr 0 1 0 0)],[(0,.vs [.bool false a,.imm .free (.ns .u64 b) 1 1 0 c,.int .i64 d])],1⟩
def Hl(a:Nat) :T ((Bool×(List Int)×Nat×Int)⊕(ij)) :=
  .alt 0
    (.need (!isNaN a)<|.need (Dn (jt ((a:Nat):Int)))<|.leaf (.inl ((Ey (jt ((a:Nat):Int))),(Ez (jt ((a:Nat):Int))),(EA (jt ((a:Nat):Int))),(EB (jt ((a:Nat):Int))))))
    (.fail)
def Ql(a:Bool)(b:List Int)(c:Nat)(d:Int) :T ((Empty)⊕(ij)) :=
  .leaf (.inr (.r0 a b c d))
def ab(a:Nat) :Option ij:=ld (aC ((Hl a).run) fun (b,c,d,e) =>
  (Ql b c d e).run)
theorem agx(b:Nat){x:ij}(h:ab b=some x) :aw prog lu [] [.flt false b] (JT x) :=
  Sg.contract true JT (by kernel_rfl:prog.funcs[lu]? = some (FN lu)) (by kernel_rfl:(FN lu).body=some (bi lu)) (Sg.cut 2 agw (Sg.seg (C:=C0) an EC 60 (Qj.take 2) (aT (FN lu) [] [.flt false b]) (Hl b) Qk JS [⟨[],[0],[2]⟩] (by kernel_rfl)) (fun a=>by obtain ⟨c,d,e,f⟩:=a;exact Sg.seg (C:=C0) an EC 60 (Qj.drop 2) (Qk (c,d,e,f)) (Ql c d e f) (fun a:Empty=>a.elim) JS [⟨[],[0],[2]⟩] (by kernel_rfl)))
    (fun x=>by cases x with | r0 g i j k=>exact ⟨.inr rfl,[.agg [.bool false g,.imm .free (.ns .u64 i) 1 1 0 j,.int .i64 k]],[],by kernel_rfl,trivial,by kernel_rfl⟩) h
def l8:Option ij→Bool
  | some _=>true
  | none=>false
def ak:Option ij→Bool
  | some (.r0 x _ _ _)=>x
  | _=>false
def ai:Option ij→List Int
  | some (.r0 _ x _ _)=>x
  | _=>[]
def aj:Option ij→Nat
  | some (.r0 _ _ x _)=>x
  | _=>0
def am:Option ij→Int
  | some (.r0 _ _ _ x)=>x
  | _=>0
theorem agy{x:Option ij}(h:l8 x=true) :x=some (.r0 (ak x) (ai x) (aj x) (am x)):=by
  unfold l8 at h
  split at h <;> first | rfl | (cases h;done) | (rename_i y;cases y;rfl)
def T9:aJ:=bW lu (.cons (.flt false) .nil) fun t=>[⟨JT (.r0 (ak (ab t.1)) (ai (ab t.1)) (aj (ab t.1)) (am (ab t.1))),[l8 (ab t.1)]⟩]
theorem Z0:aU prog T9:=aO fun t=>(aP (fun h=>agx t.1 (agy h)) aW)
def Ua:List aJ:=T9 :: YA
theorem B9:aY prog (bb Ua):=au Z0 EC
inductive kH where
  | r0 (a:Bool) (b:List Int) (c:Nat) (d:Int)
def Qm:kH→AE×aL
  | .r0 a b c d=>(.ret,⟨ah 14 [(4,.ptr 0 1 0 0)],[(0,.vs [.bool false a,.imm .free (.ns .u64 b) 1 1 0 c,.int .i64 d])],1⟩)
theorem al6:kR Qm:=by intro x;cases x <;> (intro h;cases h)
def Qn:kH→jc
  | .r0 a b c d=>⟨.agg [.bool false a,.imm .free (.ns .u64 b) 1 1 0 c,.int .i64 d],[]⟩
def YB:List Code:=bJ (bi pe)
def YC:Bool×Bool×(List Int)×Nat×Int→aL:=fun (a,b,c,d,e)=>⟨ah 14 [(4,.ptr 0 1 0 0),(5,.ptr 1 1 0 0)],[(0,.vs [.bool false a,.nsl,.int .i64 (0:Int)]),(1,.vs [.bool false b,.imm .free (.ns .u64 c) 1 1 0 d,.int .i64 e])],2⟩
def My(c:Bool)(a:List Int)(d:Int)(e:Bool)(b:List Int)(f:Int) :T ((Bool×Bool×(List Int)×Nat×Int)⊕(kH)) :=
  .need (aQ 0 (List.length a) a)<|.need (aQ 0 (List.length b) b)<|.need (Aa (eP c (aa 0 (List.length a) a) d e (aa 0 (List.length b) b) f))<|.leaf (.inl (false,(Ab (eP c (aa 0 (List.length a) a) d e (aa 0 (List.length b) b) f)),(Ac (eP c (aa 0 (List.length a) a) d e (aa 0 (List.length b) b) f)),(Ad (eP c (aa 0 (List.length a) a) d e (aa 0 (List.length b) b) f)),(Ae (eP c (aa 0 (List.length a) a) d e (aa 0 (List.length b) b) f))))
def YD(a:Bool)(b:List Int)(c:Nat)(d:Int) :T ((Empty)⊕(kH)) :=
  .leaf (.inr (.r0 a b c d))
def cY(a:Bool)(b:List Int)(c:Int)(d:Bool)(e:List Int)(f:Int) :Option kH:=ld (aC ((My a b c d e f).run) fun (k,g,h,i,j) =>
  (YD g h i j).run)
theorem al7(d:Bool)(i:Lv)(b:List Int)(e:Int)(f:Bool)(j:Lv)(c:List Int)(g:Int){x:kH}(h:cY d b e f c g=some x) :aw prog pe [] [.agg [.bool false d,.imm i (.ns .u64 b) 1 1 0 (List.length b),.int .i64 e],.agg [.bool false f,.imm j (.ns .u64 c) 1 1 0 (List.length c),.int .i64 g]] (Qn x) :=
  Sg.contract true Qn (by kernel_rfl:prog.funcs[pe]? = some (FN pe)) (by kernel_rfl:(FN pe).body=some (bi pe)) (Sg.cut 2 al6 (Sg.seg (C:=C0) an B9 60 (YB.take 2) (aT (FN pe) [] [.agg [.bool false d,.imm i (.ns .u64 b) 1 1 0 (List.length b),.int .i64 e],.agg [.bool false f,.imm j (.ns .u64 c) 1 1 0 (List.length c),.int .i64 g]]) (My d b e f c g) YC Qm [⟨[],[32,144],[4,5]⟩] (by kernel_rfl)) (fun a=>by obtain ⟨o,k,l,m,n⟩:=a;exact Sg.seg (C:=C0) an B9 60 (YB.drop 2) (YC (o,k,l,m,n)) (YD k l m n) (fun a:Empty=>a.elim) Qm [⟨[],[0],[4]⟩] (by kernel_rfl)))
    (fun x=>by cases x with | r0 p q r s=>exact ⟨.inr rfl,[.agg [.bool false p,.imm .free (.ns .u64 q) 1 1 0 r,.int .i64 s]],[],by kernel_rfl,trivial,by kernel_rfl⟩) h
def wh:Option kH→Bool
  | some _=>true
  | none=>false
def u4:Option kH→Bool
  | some (.r0 x _ _ _)=>x
  | _=>false
def u5:Option kH→List Int
  | some (.r0 _ x _ _)=>x
  | _=>[]
def u6:Option kH→Nat
  | some (.r0 _ _ x _)=>x
  | _=>0
def u7:Option kH→Int
  | some (.r0 _ _ _ x)=>x
  | _=>0
theorem al8{x:Option kH}(h:wh x=true) :x=some (.r0 (u4 x) (u5 x) (u6 x) (u7 x)):=by
  unfold wh at h
  split at h <;> first | rfl | (cases h;done) | (rename_i y;cases y;rfl)
def acg:aJ:=bW pe (.cons (.agg (.cons .bool (.cons (.ns .u64) (.cons (.int .i64) .nil)))) (.cons (.agg (.cons .bool (.cons (.ns .u64) (.cons (.int .i64) .nil)))) .nil)) fun t=>[⟨Qn (.r0 (u4 (cY t.1.1 t.1.2.1.2 t.1.2.2.1 t.2.1.1 t.2.1.2.1.2 t.2.1.2.2.1)) (u5 (cY t.1.1 t.1.2.1.2 t.1.2.2.1 t.2.1.1 t.2.1.2.1.2 t.2.1.2.2.1)) (u6 (cY t.1.1 t.1.2.1.2 t.1.2.2.1 t.2.1.1 t.2.1.2.1.2 t.2.1.2.2.1)) (u7 (cY t.1.1 t.1.2.1.2 t.1.2.2.1 t.2.1.1 t.2.1.2.1.2 t.2.1.2.2.1))),[wh (cY t.1.1 t.1.2.1.2 t.1.2.2.1 t.2.1.1 t.2.1.2.1.2 t.2.1.2.2.1)]⟩]
theorem agz:aU prog acg:=aO fun t=>(aP (fun h=>al7 t.1.1 t.1.2.1.1 t.1.2.1.2 t.1.2.2.1 t.2.1.1 t.2.1.2.1.1 t.2.1.2.1.2 t.2.1.2.2.1 (al8 h)) aW)
def ach:List aJ:=acg :: Ua
theorem rp:aY prog (bb ach):=au agz B9
end
end Go.Plb.Seat
namespace Go.Plb.Seat
open Go Go.Plb
set_option linter.unusedVariables false
set_option maxRecDepth 100000
noncomputable section
inductive fp where
  | r0 (a:Bool) (b:List Int) (c:Nat) (d:Int)
def qj:fp→AE×aL
  | .r0 a b c d=>(.ret,⟨ah 24 [(2,.ptr 0 1 0 0)],[(0,.vs [.bool false a,.imm .free (.ns .u64 b) 1 1 0 c,.int .i64 d])],1⟩)
theorem xz:kR qj:=by intro x;cases x <;> (intro h;cases h)
theorem aiM(id:Nat) :qE id qj:=by intro x;cases x <;> (intro h;cases h)
def Mz:fp→jc
  | .r0 a b c d=>⟨.agg [.bool false a,.imm .free (.ns .u64 b) 1 1 0 c,.int .i64 d],[]⟩
def tL:List Code:=bJ (bi mC)
def Ub(b:Lv)(a:List Nat) :Bool×Bool×(List Int)×Nat×Int→aL:=fun (c,d,e,f,g)=>⟨ah 24 [(0,.imm b (.fl a) 1 1 0 (List.length a)),(2,.ptr 0 1 0 0),(3,.ptr 1 1 0 0)],[(0,.vs [.bool false c,.nsl,.int .i64 (0:Int)]),(1,.vs [.bool false d,.imm .free (.ns .u64 e) 1 1 0 f,.int .i64 g])],2⟩
def Hm:T ((Bool×Bool×(List Int)×Nat×Int)⊕(fp)) :=
  .need (g7 (aG (0:Int)))<|.leaf (.inl (false,(dm (aG (0:Int))),(cG (aG (0:Int))),(cH (aG (0:Int))),(dn (aG (0:Int)))))
def Uc(b:Lv)(a:List Nat)(c:Bool)(d:Bool)(e:List Int)(f:Nat)(g:Int)(_:Unit) :aL:=⟨ah 24 [(0,.imm b (.fl a) 1 1 0 (List.length a)),(2,.ptr 0 1 0 0),(3,.ptr 1 1 0 0),(4,.int .i64 (0:Int))],[(0,.vs [.bool false c,.nsl,.int .i64 (0:Int)]),(1,.vs [.bool false d,.imm .free (.ns .u64 e) 1 1 0 f,.int .i64 g])],2⟩
def Qo:T ((Unit)⊕(fp)) :=
  .leaf (.inl ())
def tM(b:Lv)(a:List Nat)(c:Bool) :Nat×Bool×(List Int)×Nat×Int→aL:=fun (d,e,f,g,h)=>⟨ah 24 [(0,.imm b (.fl a) 1 1 0 (List.length a)),(2,.ptr 0 1 0 0),(3,.ptr 1 1 0 0),(4,.int .i64 ((d:Nat):Int))],[(0,.vs [.bool false c,.nsl,.int .i64 (0:Int)]),(1,.vs [.bool false e,.imm .free (.ns .u64 f) 1 1 0 g,.int .i64 h])],2⟩
def xA(a:Bool) :Bool×(List Int)×Nat×Int→aL:=fun (b,c,d,e)=>⟨ah 24 [(2,.ptr 0 1 0 0),(3,.ptr 1 1 0 0)],[(0,.vs [.bool false a,.nsl,.int .i64 (0:Int)]),(1,.vs [.bool false b,.imm .free (.ns .u64 c) 1 1 0 d,.int .i64 e])],2⟩
def Hn:List Code:=bJ (bK (((((tL.drop 2).drop 1).take 1)).headD .skip))
def Ud(b:Lv)(a:List Nat)(c:Bool)(d:Nat) :Bool×(List Int)×Nat×Int→aL:=fun (e,f,g,h)=>⟨ah 24 [(0,.imm b (.fl a) 1 1 0 (List.length a)),(2,.ptr 0 1 0 0),(3,.ptr 1 1 0 0),(4,.int .i64 ((d:Nat):Int))],[(0,.vs [.bool false c,.nsl,.int .i64 (0:Int)]),(1,.vs [.bool false e,.imm .free (.ns .u64 f) 1 1 0 g,.int .i64 h])],2⟩
def u9(a:List Nat)(b:Nat)(e:Bool)(c:List Int)(d:Nat)(f:Int) :T ((Bool×(List Int)×Nat×Int)⊕((Bool×(List Int)×Nat×Int)⊕(fp))) :=
  .ask (decide (((b:Nat):Int) < (((List.length a):Nat):Int)))
    (.need (iS ((b:Nat):Int) (List.length a))<|.need (jC b (List.length a))<|.need (l8 (ab (List.getD a b 0)))<|.need (aQ 0 (aj (ab (List.getD a b 0))) (ai (ab (List.getD a b 0))))<|.need (aQ 0 (aj (ab (List.getD a b 0))) (ai (ab (List.getD a b 0))))<|.need (i9 (aq (ak (ab (List.getD a b 0))) (aa 0 (aj (ab (List.getD a b 0))) (ai (ab (List.getD a b 0)))) (am (ab (List.getD a b 0))) (ak (ab (List.getD a b 0))) (aa 0 (aj (ab (List.getD a b 0))) (ai (ab (List.getD a b 0)))) (am (ab (List.getD a b 0)))))<|.need (aQ 0 d c)<|.need (aQ 0 (bo (aq (ak (ab (List.getD a b 0))) (aa 0 (aj (ab (List.getD a b 0))) (ai (ab (List.getD a b 0)))) (am (ab (List.getD a b 0))) (ak (ab (List.getD a b 0))) (aa 0 (aj (ab (List.getD a b 0))) (ai (ab (List.getD a b 0)))) (am (ab (List.getD a b 0))))) (bn (aq (ak (ab (List.getD a b 0))) (aa 0 (aj (ab (List.getD a b 0))) (ai (ab (List.getD a b 0)))) (am (ab (List.getD a b 0))) (ak (ab (List.getD a b 0))) (aa 0 (aj (ab (List.getD a b 0))) (ai (ab (List.getD a b 0)))) (am (ab (List.getD a b 0))))))<|.need (wh (cY e (aa 0 d c) f (bL (aq (ak (ab (List.getD a b 0))) (aa 0 (aj (ab (List.getD a b 0))) (ai (ab (List.getD a b 0)))) (am (ab (List.getD a b 0))) (ak (ab (List.getD a b 0))) (aa 0 (aj (ab (List.getD a b 0))) (ai (ab (List.getD a b 0)))) (am (ab (List.getD a b 0))))) (aa 0 (bo (aq (ak (ab (List.getD a b 0))) (aa 0 (aj (ab (List.getD a b 0))) (ai (ab (List.getD a b 0)))) (am (ab (List.getD a b 0))) (ak (ab (List.getD a b 0))) (aa 0 (aj (ab (List.getD a b 0))) (ai (ab (List.getD a b 0)))) (am (ab (List.getD a b 0))))) (bn (aq (ak (ab (List.getD a b 0))) (aa 0 (aj (ab (List.getD a b 0))) (ai (ab (List.getD a b 0)))) (am (ab (List.getD a b 0))) (ak (ab (List.getD a b 0))) (aa 0 (aj (ab (List.getD a b 0))) (ai (ab (List.getD a b 0)))) (am (ab (List.getD a b 0)))))) (bM (aq (ak (ab (List.getD a b 0))) (aa 0 (aj (ab (List.getD a b 0))) (ai (ab (List.getD a b 0)))) (am (ab (List.getD a b 0))) (ak (ab (List.getD a b 0))) (aa 0 (aj (ab (List.getD a b 0))) (ai (ab (List.getD a b 0)))) (am (ab (List.getD a b 0)))))))<|.leaf (.inl ((u4 (cY e (aa 0 d c) f (bL (aq (ak (ab (List.getD a b 0))) (aa 0 (aj (ab (List.getD a b 0))) (ai (ab (List.getD a b 0)))) (am (ab (List.getD a b 0))) (ak (ab (List.getD a b 0))) (aa 0 (aj (ab (List.getD a b 0))) (ai (ab (List.getD a b 0)))) (am (ab (List.getD a b 0))))) (aa 0 (bo (aq (ak (ab (List.getD a b 0))) (aa 0 (aj (ab (List.getD a b 0))) (ai (ab (List.getD a b 0)))) (am (ab (List.getD a b 0))) (ak (ab (List.getD a b 0))) (aa 0 (aj (ab (List.getD a b 0))) (ai (ab (List.getD a b 0)))) (am (ab (List.getD a b 0))))) (bn (aq (ak (ab (List.getD a b 0))) (aa 0 (aj (ab (List.getD a b 0))) (ai (ab (List.getD a b 0)))) (am (ab (List.getD a b 0))) (ak (ab (List.getD a b 0))) (aa 0 (aj (ab (List.getD a b 0))) (ai (ab (List.getD a b 0)))) (am (ab (List.getD a b 0)))))) (bM (aq (ak (ab (List.getD a b 0))) (aa 0 (aj (ab (List.getD a b 0))) (ai (ab (List.getD a b 0)))) (am (ab (List.getD a b 0))) (ak (ab (List.getD a b 0))) (aa 0 (aj (ab (List.getD a b 0))) (ai (ab (List.getD a b 0)))) (am (ab (List.getD a b 0))))))),(u5 (cY e (aa 0 d c) f (bL (aq (ak (ab (List.getD a b 0))) (aa 0 (aj (ab (List.getD a b 0))) (ai (ab (List.getD a b 0)))) (am (ab (List.getD a b 0))) (ak (ab (List.getD a b 0))) (aa 0 (aj (ab (List.getD a b 0))) (ai (ab (List.getD a b 0)))) (am (ab (List.getD a b 0))))) (aa 0 (bo (aq (ak (ab (List.getD a b 0))) (aa 0 (aj (ab (List.getD a b 0))) (ai (ab (List.getD a b 0)))) (am (ab (List.getD a b 0))) (ak (ab (List.getD a b 0))) (aa 0 (aj (ab (List.getD a b 0))) (ai (ab (List.getD a b 0)))) (am (ab (List.getD a b 0))))) (bn (aq (ak (ab (List.getD a b 0))) (aa 0 (aj (ab (List.getD a b 0))) (ai (ab (List.getD a b 0)))) (am (ab (List.getD a b 0))) (ak (ab (List.getD a b 0))) (aa 0 (aj (ab (List.getD a b 0))) (ai (ab (List.getD a b 0)))) (am (ab (List.getD a b 0)))))) (bM (aq (ak (ab (List.getD a b 0))) (aa 0 (aj (ab (List.getD a b 0))) (ai (ab (List.getD a b 0)))) (am (ab (List.getD a b 0))) (ak (ab (List.getD a b 0))) (aa 0 (aj (ab (List.getD a b 0))) (ai (ab (List.getD a b 0)))) (am (ab (List.getD a b 0))))))),(u6 (cY e (aa 0 d c) f (bL (aq (ak (ab (List.getD a b 0))) (aa 0 (aj (ab (List.getD a b 0))) (ai (ab (List.getD a b 0)))) (am (ab (List.getD a b 0))) (ak (ab (List.getD a b 0))) (aa 0 (aj (ab (List.getD a b 0))) (ai (ab (List.getD a b 0)))) (am (ab (List.getD a b 0))))) (aa 0 (bo (aq (ak (ab (List.getD a b 0))) (aa 0 (aj (ab (List.getD a b 0))) (ai (ab (List.getD a b 0)))) (am (ab (List.getD a b 0))) (ak (ab (List.getD a b 0))) (aa 0 (aj (ab (List.getD a b 0))) (ai (ab (List.getD a b 0)))) (am (ab (List.getD a b 0))))) (bn (aq (ak (ab (List.getD a b 0))) (aa 0 (aj (ab (List.getD a b 0))) (ai (ab (List.getD a b 0)))) (am (ab (List.getD a b 0))) (ak (ab (List.getD a b 0))) (aa 0 (aj (ab (List.getD a b 0))) (ai (ab (List.getD a b 0)))) (am (ab (List.getD a b 0)))))) (bM (aq (ak (ab (List.getD a b 0))) (aa 0 (aj (ab (List.getD a b 0))) (ai (ab (List.getD a b 0)))) (am (ab (List.getD a b 0))) (ak (ab (List.getD a b 0))) (aa 0 (aj (ab (List.getD a b 0))) (ai (ab (List.getD a b 0)))) (am (ab (List.getD a b 0))))))),(u7 (cY e (aa 0 d c) f (bL (aq (ak (ab (List.getD a b 0))) (aa 0 (aj (ab (List.getD a b 0))) (ai (ab (List.getD a b 0)))) (am (ab (List.getD a b 0))) (ak (ab (List.getD a b 0))) (aa 0 (aj (ab (List.getD a b 0))) (ai (ab (List.getD a b 0)))) (am (ab (List.getD a b 0))))) (aa 0 (bo (aq (ak (ab (List.getD a b 0))) (aa 0 (aj (ab (List.getD a b 0))) (ai (ab (List.getD a b 0)))) (am (ab (List.getD a b 0))) (ak (ab (List.getD a b 0))) (aa 0 (aj (ab (List.getD a b 0))) (ai (ab (List.getD a b 0)))) (am (ab (List.getD a b 0))))) (bn (aq (ak (ab (List.getD a b 0))) (aa 0 (aj (ab (List.getD a b 0))) (ai (ab (List.getD a b 0)))) (am (ab (List.getD a b 0))) (ak (ab (List.getD a b 0))) (aa 0 (aj (ab (List.getD a b 0))) (ai (ab (List.getD a b 0)))) (am (ab (List.getD a b 0)))))) (bM (aq (ak (ab (List.getD a b 0))) (aa 0 (aj (ab (List.getD a b 0))) (ai (ab (List.getD a b 0)))) (am (ab (List.getD a b 0))) (ak (ab (List.getD a b 0))) (aa 0 (aj (ab (List.getD a b 0))) (ai (ab (List.getD a b 0)))) (am (ab (List.getD a b 0))))))))))
    (.leaf (.inr (.inl (e,c,d,f))))
def Qp(a:Nat)(b:Bool)(c:List Int)(d:Nat)(e:Int) :T ((Nat×Bool×(List Int)×Nat×Int)⊕((Bool×(List Int)×Nat×Int)⊕(fp))) :=
  .need (d8 .i64 (((a+1):Nat):Int))<|.leaf (.inl ((a+1),b,c,d,e))
def Ho(b:List Nat) :Nat×Bool×(List Int)×Nat×Int→Option ((Nat×Bool×(List Int)×Nat×Int)⊕((Bool×(List Int)×Nat×Int)⊕(fp))):=fun (a,c,d,e,f) =>
  aC ((u9 b a c d e f).run) fun (g,h,i,j) =>
  (Qp a g h i j).run
theorem agA(e:Lv)(c:List Nat)(b:Bool)(d:Nat)(f:Bool)(g:List Int)(h:Nat)(i:Int) :Sg prog [] Hn (tM e c b (d,f,g,h,i)) (Ho c (d,f,g,h,i)) (tM e c b) (aN 0 (xA b) qj):=by
  unfold Ho;exact Sg.cut 3 (aI xz) (Sg.seg (C:=C0) an rp 60 (Hn.take 3) (tM e c b (d,f,g,h,i)) (u9 c d f g h i) (Ud e c b d) (aN 0 (xA b) qj) [⟨[],[0,1],[0,2,3,4]⟩,⟨[],[0,1],[2,3]⟩] (by kernel_rfl)) (fun a=>by obtain ⟨j,k,l,m⟩:=a;exact Sg.seg (C:=C0) an rp 60 (Hn.drop 3) (Ud e c b d (j,k,l,m)) (Qp d j k l m) (tM e c b) (aN 0 (xA b) qj) [⟨[],[0,1],[0,2,3,4]⟩] (by kernel_rfl))
def aiN(a:Bool) :Bool×(List Int)×Nat×Int→aL:=xA a
def Qq(a:Bool)(b:List Int)(c:Nat)(d:Int) :T ((Empty)⊕(fp)) :=
  .leaf (.inr (.r0 a b c d))
def ew(a:List Nat) :Option fp:=ld (aC ((Hm).run) fun (j,b,c,d,e) =>
  aC ((Qo).run) fun _ =>
  aC (dM (Ho a) (0,b,c,d,e)) fun (f,g,h,i) =>
  (Qq f g h i).run)
theorem aiO(c:Lv)(b:List Nat){x:fp}(h:ew b=some x) :aw prog mC [] [.imm c (.fl b) 1 1 0 (List.length b)] (Mz x) :=
  Sg.contract true Mz (by kernel_rfl:prog.funcs[mC]? = some (FN mC)) (by kernel_rfl:(FN mC).body=some (bi mC)) (Sg.cut 2 xz (Sg.seg (C:=C0) an rp 60 (tL.take 2) (aT (FN mC) [] [.imm c (.fl b) 1 1 0 (List.length b)]) (Hm) (Ub c b) qj [⟨[],[0,32],[0,2,3]⟩] (by kernel_rfl)) (fun a=>by obtain ⟨d,e,f,g,i⟩:=a;exact Sg.cut 1 xz (Sg.seg (C:=C0) an rp 60 ((tL.drop 2).take 1) (Ub c b (d,e,f,g,i)) (Qo) (Uc c b d e f g i) qj [⟨[],[0,1],[0,2,3,4]⟩] (by kernel_rfl)) (fun a=>by cases a;exact Sg.cut 1 xz (Sg.pre ⟨[],[0,1],[0,2,3,4]⟩ rfl (by kernel_rfl:NS.on ⟨[],[0,1],[0,2,3,4]⟩ (Uc c b d e f g i ())=(tM c b d) (0,e,f,g,i)) (bU (I:=(tM c b d)) (J:=(xA d)) (id:=0) (by kernel_rfl:(((tL.drop 2).drop 1).take 1) = [.block 0 (.loop (bK (((((tL.drop 2).drop 1).take 1)).headD .skip)))]) xz (aiM _) (fun s=>by obtain ⟨n,o,p,q,r⟩:=s;exact agA c b d n o p q r) (0,e,f,g,i))) (fun a=>by obtain ⟨j,k,l,m⟩:=a;exact Sg.seg (C:=C0) an rp 60 (((tL.drop 2).drop 1).drop 1) (aiN d (j,k,l,m)) (Qq j k l m) (fun a:Empty=>a.elim) qj [⟨[],[0],[2]⟩] (by kernel_rfl)))))
    (fun x=>by cases x with | r0 t u v w=>exact ⟨.inr rfl,[.agg [.bool false t,.imm .free (.ns .u64 u) 1 1 0 v,.int .i64 w]],[],by kernel_rfl,trivial,by kernel_rfl⟩) h
def xB:Option fp→Bool
  | some _=>true
  | none=>false
def sY:Option fp→Bool
  | some (.r0 x _ _ _)=>x
  | _=>false
def o5:Option fp→List Int
  | some (.r0 _ x _ _)=>x
  | _=>[]
def o6:Option fp→Nat
  | some (.r0 _ _ x _)=>x
  | _=>0
def sZ:Option fp→Int
  | some (.r0 _ _ _ x)=>x
  | _=>0
theorem aiP{x:Option fp}(h:xB x=true) :x=some (.r0 (sY x) (o5 x) (o6 x) (sZ x)):=by
  unfold xB at h
  split at h <;> first | rfl | (cases h;done) | (rename_i y;cases y;rfl)
def YE:aJ:=bW mC (.cons .fl .nil) fun t=>[⟨Mz (.r0 (sY (ew t.1.2)) (o5 (ew t.1.2)) (o6 (ew t.1.2)) (sZ (ew t.1.2))),[xB (ew t.1.2)]⟩]
theorem ac7:aU prog YE:=aO fun t=>(aP (fun h=>aiO t.1.1 t.1.2 (aiP h)) aW)
def YF:List aJ:=YE :: ach
theorem Nm:aY prog (bb YF):=au ac7 rp
inductive kp where
  | r0 (a:Bool) (b:List Int) (c:Nat) (d:Int)
def al9(a:Lv) :kp→AE×aL
  | .r0 b c d e=>(.ret,⟨ah 8 [(2,.ptr 0 1 0 0)],[(0,.vs [.bool false b,.imm a (.ns .u64 c) 1 1 0 d,.int .i64 e])],1⟩)
def MA(a:Lv) :kp→jc
  | .r0 b c d e=>⟨.agg [.bool false b,.imm a (.ns .u64 c) 1 1 0 d,.int .i64 e],[]⟩
def aiQ:List Code:=bJ (bi mR)
def JU(b:Bool)(a:List Int)(c:Int) :T ((Empty)⊕(kp)) :=
  .leaf (.inr (.r0 (!b) a (List.length a) c))
def bQ(a:Bool)(b:List Int)(c:Int) :Option kp:=ld ((JU a b c).run)
theorem aiR(d:Bool)(b:Lv)(c:List Int)(e:Int){x:kp}(h:bQ d c e=some x) :aw prog mR [] [.agg [.bool false d,.imm b (.ns .u64 c) 1 1 0 (List.length c),.int .i64 e]] (MA b x) :=
  Sg.contract true (MA b) (by kernel_rfl:prog.funcs[mR]? = some (FN mR)) (by kernel_rfl:(FN mR).body=some (bi mR)) (Sg.seg (C:=C0) an Nm 60 aiQ (aT (FN mR) [] [.agg [.bool false d,.imm b (.ns .u64 c) 1 1 0 (List.length c),.int .i64 e]]) (JU d c e) (fun a:Empty=>a.elim) (al9 b) [⟨[],[16],[2]⟩] (by kernel_rfl))
    (fun x=>by cases x with | r0 f g i j=>exact ⟨.inr rfl,[.agg [.bool false f,.imm b (.ns .u64 g) 1 1 0 i,.int .i64 j]],[],by kernel_rfl,trivial,by kernel_rfl⟩) h
def xC:Option kp→Bool
  | some _=>true
  | none=>false
def ju:Option kp→Bool
  | some (.r0 x _ _ _)=>x
  | _=>false
def ik:Option kp→List Int
  | some (.r0 _ x _ _)=>x
  | _=>[]
def il:Option kp→Nat
  | some (.r0 _ _ x _)=>x
  | _=>0
def jv:Option kp→Int
  | some (.r0 _ _ _ x)=>x
  | _=>0
theorem aiS{x:Option kp}(h:xC x=true) :x=some (.r0 (ju x) (ik x) (il x) (jv x)):=by
  unfold xC at h
  split at h <;> first | rfl | (cases h;done) | (rename_i y;cases y;rfl)
def YG:aJ:=bW mR (.cons (.agg (.cons .bool (.cons (.ns .u64) (.cons (.int .i64) .nil)))) .nil) fun t=>[⟨MA t.1.2.1.1 (.r0 (ju (bQ t.1.1 t.1.2.1.2 t.1.2.2.1)) (ik (bQ t.1.1 t.1.2.1.2 t.1.2.2.1)) (il (bQ t.1.1 t.1.2.1.2 t.1.2.2.1)) (jv (bQ t.1.1 t.1.2.1.2 t.1.2.2.1))),[xC (bQ t.1.1 t.1.2.1.2 t.1.2.2.1)]⟩]
theorem ac8:aU prog YG:=aO fun t=>(aP (fun h=>aiR t.1.1 t.1.2.1.1 t.1.2.1.2 t.1.2.2.1 (aiS h)) aW)
def YH:List aJ:=YG :: YF
theorem ED:aY prog (bb YH):=au ac8 Nm
inductive jN where
  | r0 (a:Nat) (b:Bool) (c:List Int) (d:Nat) (e:Int)
def Qr:jN→AE×aL
  | .r0 a b c d e=>(.ret,⟨ah 12 [(4,.ptr 0 1 0 0),(5,.int .i64 ((a:Nat):Int))],[(0,.vs [.bool false b,.imm .free (.ns .u64 c) 1 1 0 d,.int .i64 e])],1⟩)
theorem ama:kR Qr:=by intro x;cases x <;> (intro h;cases h)
def Qs:jN→jc
  | .r0 a b c d e=>⟨.tup [.agg [.bool false b,.imm .free (.ns .u64 c) 1 1 0 d,.int .i64 e],.int .i64 ((a:Nat):Int)],[]⟩
def YI:List Code:=bJ (bi pn)
def YJ:Nat×Bool×(List Int)×Nat×Int→aL:=fun (a,b,c,d,e)=>⟨ah 12 [(4,.ptr 0 1 0 0),(5,.int .i64 ((a:Nat):Int))],[(0,.vs [.bool false b,.imm .free (.ns .u64 c) 1 1 0 d,.int .i64 e])],1⟩
def MB(e:Bool)(d:List Int)(f:Int)(b:Bool)(a:List Int)(c:Int) :T ((Nat×Bool×(List Int)×Nat×Int)⊕(jN)) :=
  .need (aQ 0 (List.length a) a)<|.need (xC (bQ b (aa 0 (List.length a) a) c))<|.need (aQ 0 (List.length d) d)<|.need (aQ 0 (il (bQ b (aa 0 (List.length a) a) c)) (ik (bQ b (aa 0 (List.length a) a) c)))<|.need (Aa (eP e (aa 0 (List.length d) d) f (ju (bQ b (aa 0 (List.length a) a) c)) (aa 0 (il (bQ b (aa 0 (List.length a) a) c)) (ik (bQ b (aa 0 (List.length a) a) c))) (jv (bQ b (aa 0 (List.length a) a) c))))<|.leaf (.inl ((GM (eP e (aa 0 (List.length d) d) f (ju (bQ b (aa 0 (List.length a) a) c)) (aa 0 (il (bQ b (aa 0 (List.length a) a) c)) (ik (bQ b (aa 0 (List.length a) a) c))) (jv (bQ b (aa 0 (List.length a) a) c)))),(Ab (eP e (aa 0 (List.length d) d) f (ju (bQ b (aa 0 (List.length a) a) c)) (aa 0 (il (bQ b (aa 0 (List.length a) a) c)) (ik (bQ b (aa 0 (List.length a) a) c))) (jv (bQ b (aa 0 (List.length a) a) c)))),(Ac (eP e (aa 0 (List.length d) d) f (ju (bQ b (aa 0 (List.length a) a) c)) (aa 0 (il (bQ b (aa 0 (List.length a) a) c)) (ik (bQ b (aa 0 (List.length a) a) c))) (jv (bQ b (aa 0 (List.length a) a) c)))),(Ad (eP e (aa 0 (List.length d) d) f (ju (bQ b (aa 0 (List.length a) a) c)) (aa 0 (il (bQ b (aa 0 (List.length a) a) c)) (ik (bQ b (aa 0 (List.length a) a) c))) (jv (bQ b (aa 0 (List.length a) a) c)))),(Ae (eP e (aa 0 (List.length d) d) f (ju (bQ b (aa 0 (List.length a) a) c)) (aa 0 (il (bQ b (aa 0 (List.length a) a) c)) (ik (bQ b (aa 0 (List.length a) a) c))) (jv (bQ b (aa 0 (List.length a) a) c))))))
def YK(a:Nat)(b:Bool)(c:List Int)(d:Nat)(e:Int) :T ((Empty)⊕(jN)) :=
  .leaf (.inr (.r0 a b c d e))
def jO(a:Bool)(b:List Int)(c:Int)(d:Bool)(e:List Int)(f:Int) :Option jN:=ld (aC ((MB a b c d e f).run) fun (g,h,i,j,k) =>
  (YK g h i j k).run)
theorem amb(d:Bool)(i:Lv)(b:List Int)(e:Int)(f:Bool)(j:Lv)(c:List Int)(g:Int){x:jN}(h:jO d b e f c g=some x) :aw prog pn [] [.agg [.bool false d,.imm i (.ns .u64 b) 1 1 0 (List.length b),.int .i64 e],.agg [.bool false f,.imm j (.ns .u64 c) 1 1 0 (List.length c),.int .i64 g]] (Qs x) :=
  Sg.contract true Qs (by kernel_rfl:prog.funcs[pn]? = some (FN pn)) (by kernel_rfl:(FN pn).body=some (bi pn)) (Sg.cut 2 ama (Sg.seg (C:=C0) an ED 60 (YI.take 2) (aT (FN pn) [] [.agg [.bool false d,.imm i (.ns .u64 b) 1 1 0 (List.length b),.int .i64 e],.agg [.bool false f,.imm j (.ns .u64 c) 1 1 0 (List.length c),.int .i64 g]]) (MB d b e f c g) YJ Qr [⟨[],[32],[4,5]⟩] (by kernel_rfl)) (fun a=>by obtain ⟨k,l,m,n,o⟩:=a;exact Sg.seg (C:=C0) an ED 60 (YI.drop 2) (YJ (k,l,m,n,o)) (YK k l m n o) (fun a:Empty=>a.elim) Qr [⟨[],[0],[4,5]⟩] (by kernel_rfl)))
    (fun x=>by cases x with | r0 p q r s t=>exact ⟨.inr rfl,[.agg [.bool false q,.imm .free (.ns .u64 r) 1 1 0 s,.int .i64 t],.int .i64 ((p:Nat):Int)],[],by kernel_rfl,trivial,by kernel_rfl⟩) h
def FQ:Option jN→Bool
  | some _=>true
  | none=>false
def Qt:Option jN→Nat
  | some (.r0 x _ _ _ _)=>x
  | _=>0
def Hp:Option jN→Bool
  | some (.r0 _ x _ _ _)=>x
  | _=>false
def Hq:Option jN→List Int
  | some (.r0 _ _ x _ _)=>x
  | _=>[]
def Hr:Option jN→Nat
  | some (.r0 _ _ _ x _)=>x
  | _=>0
def Hs:Option jN→Int
  | some (.r0 _ _ _ _ x)=>x
  | _=>0
theorem amc{x:Option jN}(h:FQ x=true) :x=some (.r0 (Qt x) (Hp x) (Hq x) (Hr x) (Hs x)):=by
  unfold FQ at h
  split at h <;> first | rfl | (cases h;done) | (rename_i y;cases y;rfl)
def aci:aJ:=bW pn (.cons (.agg (.cons .bool (.cons (.ns .u64) (.cons (.int .i64) .nil)))) (.cons (.agg (.cons .bool (.cons (.ns .u64) (.cons (.int .i64) .nil)))) .nil)) fun t=>[⟨Qs (.r0 (Qt (jO t.1.1 t.1.2.1.2 t.1.2.2.1 t.2.1.1 t.2.1.2.1.2 t.2.1.2.2.1)) (Hp (jO t.1.1 t.1.2.1.2 t.1.2.2.1 t.2.1.1 t.2.1.2.1.2 t.2.1.2.2.1)) (Hq (jO t.1.1 t.1.2.1.2 t.1.2.2.1 t.2.1.1 t.2.1.2.1.2 t.2.1.2.2.1)) (Hr (jO t.1.1 t.1.2.1.2 t.1.2.2.1 t.2.1.1 t.2.1.2.1.2 t.2.1.2.2.1)) (Hs (jO t.1.1 t.1.2.1.2 t.1.2.2.1 t.2.1.1 t.2.1.2.1.2 t.2.1.2.2.1))),[FQ (jO t.1.1 t.1.2.1.2 t.1.2.2.1 t.2.1.1 t.2.1.2.1.2 t.2.1.2.2.1)]⟩]
theorem agB:aU prog aci:=aO fun t=>(aP (fun h=>amb t.1.1 t.1.2.1.1 t.1.2.1.2 t.1.2.2.1 t.2.1.1 t.2.1.2.1.1 t.2.1.2.1.2 t.2.1.2.2.1 (amc h)) aW)
def acj:List aJ:=aci :: YH
theorem Ht:aY prog (bb acj):=au agB ED
inductive jw where
  | r0 (a:Bool) (b:List Int) (c:Nat) (d:Int)
def MC:jw→AE×aL
  | .r0 a b c d=>(.ret,⟨ah 14 [(4,.ptr 0 1 0 0)],[(0,.vs [.bool false a,.imm .free (.ns .u64 b) 1 1 0 c,.int .i64 d])],1⟩)
theorem aiT:kR MC:=by intro x;cases x <;> (intro h;cases h)
def MD:jw→jc
  | .r0 a b c d=>⟨.agg [.bool false a,.imm .free (.ns .u64 b) 1 1 0 c,.int .i64 d],[]⟩
def Ue:List Code:=bJ (bi mJ)
def Uf:Bool×Bool×(List Int)×Nat×Int→aL:=fun (a,b,c,d,e)=>⟨ah 14 [(4,.ptr 0 1 0 0),(5,.ptr 1 1 0 0)],[(0,.vs [.bool false a,.nsl,.int .i64 (0:Int)]),(1,.vs [.bool false b,.imm .free (.ns .u64 c) 1 1 0 d,.int .i64 e])],2⟩
def JV(c:Bool)(a:List Int)(d:Int)(e:Bool)(b:List Int)(f:Int) :T ((Bool×Bool×(List Int)×Nat×Int)⊕(jw)) :=
  .need (aQ 0 (List.length a) a)<|.need (aQ 0 (List.length b) b)<|.need (FQ (jO c (aa 0 (List.length a) a) d e (aa 0 (List.length b) b) f))<|.leaf (.inl (false,(Hp (jO c (aa 0 (List.length a) a) d e (aa 0 (List.length b) b) f)),(Hq (jO c (aa 0 (List.length a) a) d e (aa 0 (List.length b) b) f)),(Hr (jO c (aa 0 (List.length a) a) d e (aa 0 (List.length b) b) f)),(Hs (jO c (aa 0 (List.length a) a) d e (aa 0 (List.length b) b) f))))
def Ug(a:Bool)(b:List Int)(c:Nat)(d:Int) :T ((Empty)⊕(jw)) :=
  .leaf (.inr (.r0 a b c d))
def jx(a:Bool)(b:List Int)(c:Int)(d:Bool)(e:List Int)(f:Int) :Option jw:=ld (aC ((JV a b c d e f).run) fun (k,g,h,i,j) =>
  (Ug g h i j).run)
theorem aiU(d:Bool)(i:Lv)(b:List Int)(e:Int)(f:Bool)(j:Lv)(c:List Int)(g:Int){x:jw}(h:jx d b e f c g=some x) :aw prog mJ [] [.agg [.bool false d,.imm i (.ns .u64 b) 1 1 0 (List.length b),.int .i64 e],.agg [.bool false f,.imm j (.ns .u64 c) 1 1 0 (List.length c),.int .i64 g]] (MD x) :=
  Sg.contract true MD (by kernel_rfl:prog.funcs[mJ]? = some (FN mJ)) (by kernel_rfl:(FN mJ).body=some (bi mJ)) (Sg.cut 2 aiT (Sg.seg (C:=C0) an Ht 60 (Ue.take 2) (aT (FN mJ) [] [.agg [.bool false d,.imm i (.ns .u64 b) 1 1 0 (List.length b),.int .i64 e],.agg [.bool false f,.imm j (.ns .u64 c) 1 1 0 (List.length c),.int .i64 g]]) (JV d b e f c g) Uf MC [⟨[],[32,144],[4,5]⟩] (by kernel_rfl)) (fun a=>by obtain ⟨o,k,l,m,n⟩:=a;exact Sg.seg (C:=C0) an Ht 60 (Ue.drop 2) (Uf (o,k,l,m,n)) (Ug k l m n) (fun a:Empty=>a.elim) MC [⟨[],[0],[4]⟩] (by kernel_rfl)))
    (fun x=>by cases x with | r0 p q r s=>exact ⟨.inr rfl,[.agg [.bool false p,.imm .free (.ns .u64 q) 1 1 0 r,.int .i64 s]],[],by kernel_rfl,trivial,by kernel_rfl⟩) h
def Do:Option jw→Bool
  | some _=>true
  | none=>false
def EE:Option jw→Bool
  | some (.r0 x _ _ _)=>x
  | _=>false
def EF:Option jw→List Int
  | some (.r0 _ x _ _)=>x
  | _=>[]
def EG:Option jw→Nat
  | some (.r0 _ _ x _)=>x
  | _=>0
def EH:Option jw→Int
  | some (.r0 _ _ _ x)=>x
  | _=>0
theorem aiV{x:Option jw}(h:Do x=true) :x=some (.r0 (EE x) (EF x) (EG x) (EH x)):=by
  unfold Do at h
  split at h <;> first | rfl | (cases h;done) | (rename_i y;cases y;rfl)
def YL:aJ:=bW mJ (.cons (.agg (.cons .bool (.cons (.ns .u64) (.cons (.int .i64) .nil)))) (.cons (.agg (.cons .bool (.cons (.ns .u64) (.cons (.int .i64) .nil)))) .nil)) fun t=>[⟨MD (.r0 (EE (jx t.1.1 t.1.2.1.2 t.1.2.2.1 t.2.1.1 t.2.1.2.1.2 t.2.1.2.2.1)) (EF (jx t.1.1 t.1.2.1.2 t.1.2.2.1 t.2.1.1 t.2.1.2.1.2 t.2.1.2.2.1)) (EG (jx t.1.1 t.1.2.1.2 t.1.2.2.1 t.2.1.1 t.2.1.2.1.2 t.2.1.2.2.1)) (EH (jx t.1.1 t.1.2.1.2 t.1.2.2.1 t.2.1.1 t.2.1.2.1.2 t.2.1.2.2.1))),[Do (jx t.1.1 t.1.2.1.2 t.1.2.2.1 t.2.1.1 t.2.1.2.1.2 t.2.1.2.2.1)]⟩]
theorem ac9:aU prog YL:=aO fun t=>(aP (fun h=>aiU t.1.1 t.1.2.1.1 t.1.2.1.2 t.1.2.2.1 t.2.1.1 t.2.1.2.1.1 t.2.1.2.1.2 t.2.1.2.2.1 (aiV h)) aW)
def YM:List aJ:=YL :: acj
theorem dt:aY prog (bb YM):=au ac9 Ht
end
end Go.Plb.Seat
namespace Go.Plb.Seat
open Go Go.Plb
set_option linter.unusedVariables false
set_option maxRecDepth 100000
noncomputable section
inductive cp where
  | r0 (a:Bool) (b:List Int) (c:Nat) (d:Int)
def dI:cp→AE×aL
  | .r0 a b c d=>(.ret,⟨ah 65 [(2,.ptr 0 1 0 0)],[(0,.vs [.bool false a,.imm .free (.ns .u64 b) 1 1 0 c,.int .i64 d])],1⟩)
theorem du:kR dI:=by intro x;cases x <;> (intro h;cases h)
theorem xD(id:Nat) :qE id dI:=by intro x;cases x <;> (intro h;cases h)
def ME:cp→jc
  | .r0 a b c d=>⟨.agg [.bool false a,.imm .free (.ns .u64 b) 1 1 0 c,.int .i64 d],[]⟩
def rq:List Code:=bJ (bi mD)
def Uh(b:Int)(c:Int)(d:Lv)(a:List Nat) :Bool×Bool×(List Int)×Nat×Int→aL:=fun (e,f,g,h,i)=>⟨ah 65 [(1,.ptr 0 1 0 0),(2,.ptr 1 1 0 0),(3,.ptr 2 1 0 0)],[(0,.vs [.int .i64 b,.int .i64 c,.imm d (.fl a) 1 1 0 (List.length a)]),(1,.vs [.bool false e,.nsl,.int .i64 (0:Int)]),(2,.vs [.bool false f,.imm .free (.ns .u64 g) 1 1 0 h,.int .i64 i])],3⟩
def Hu:T ((Bool×Bool×(List Int)×Nat×Int)⊕(cp)) :=
  .need (g7 (aG (0:Int)))<|.leaf (.inl (false,(dm (aG (0:Int))),(cG (aG (0:Int))),(cH (aG (0:Int))),(dn (aG (0:Int)))))
def Ui(b:Int)(c:Int)(d:Lv)(a:List Nat)(e:Bool)(f:Bool)(g:List Int)(h:Nat)(i:Int)(_:Unit) :aL:=⟨ah 65 [(1,.ptr 0 1 0 0),(2,.ptr 1 1 0 0),(3,.ptr 2 1 0 0),(4,.int .i64 (0:Int))],[(0,.vs [.int .i64 b,.int .i64 c,.imm d (.fl a) 1 1 0 (List.length a)]),(1,.vs [.bool false e,.nsl,.int .i64 (0:Int)]),(2,.vs [.bool false f,.imm .free (.ns .u64 g) 1 1 0 h,.int .i64 i])],3⟩
def Qu:T ((Unit)⊕(cp)) :=
  .leaf (.inl ())
def rr(b:Int)(c:Int)(d:Lv)(a:List Nat)(e:Bool) :Nat×Bool×(List Int)×Nat×Int→aL:=fun (f,g,h,i,j)=>⟨ah 65 [(1,.ptr 0 1 0 0),(2,.ptr 1 1 0 0),(3,.ptr 2 1 0 0),(4,.int .i64 ((f:Nat):Int))],[(0,.vs [.int .i64 b,.int .i64 c,.imm d (.fl a) 1 1 0 (List.length a)]),(1,.vs [.bool false e,.nsl,.int .i64 (0:Int)]),(2,.vs [.bool false g,.imm .free (.ns .u64 h) 1 1 0 i,.int .i64 j])],3⟩
def dF(a:Bool) :Bool×(List Int)×Nat×Int→aL:=fun (b,c,d,e)=>⟨ah 65 [(2,.ptr 0 1 0 0),(3,.ptr 1 1 0 0)],[(0,.vs [.bool false a,.nsl,.int .i64 (0:Int)]),(1,.vs [.bool false b,.imm .free (.ns .u64 c) 1 1 0 d,.int .i64 e])],2⟩
def rt:List Code:=bJ (bK (((((rq.drop 2).drop 1).take 1)).headD .skip))
def Qv(b:Int)(c:Int)(d:Lv)(a:List Nat)(e:Bool)(f:Nat)(g:Bool)(h:List Int)(i:Nat)(j:Int)(_:Unit) :aL:=⟨ah 65 [(1,.ptr 0 1 0 0),(2,.ptr 1 1 0 0),(3,.ptr 2 1 0 0),(4,.int .i64 ((f:Nat):Int))],[(0,.vs [.int .i64 b,.int .i64 c,.imm d (.fl a) 1 1 0 (List.length a)]),(1,.vs [.bool false e,.nsl,.int .i64 (0:Int)]),(2,.vs [.bool false g,.imm .free (.ns .u64 h) 1 1 0 i,.int .i64 j])],3⟩
def A0(a:Int)(b:Nat)(c:Bool)(d:List Int)(e:Nat)(f:Int) :T ((Unit)⊕((Bool×(List Int)×Nat×Int)⊕(cp))) :=
  .ask (decide (((b:Nat):Int) < a))
    (.leaf (.inl ()))
    (.leaf (.inr (.inl (c,d,e,f))))
def em(b:Int)(c:Int)(d:Lv)(a:List Nat)(e:Bool)(f:Nat) :Bool×(List Int)×Nat×Int→aL:=fun (g,h,i,j)=>⟨ah 65 [(1,.ptr 0 1 0 0),(2,.ptr 1 1 0 0),(3,.ptr 2 1 0 0),(4,.int .i64 ((f:Nat):Int))],[(0,.vs [.int .i64 b,.int .i64 c,.imm d (.fl a) 1 1 0 (List.length a)]),(1,.vs [.bool false e,.nsl,.int .i64 (0:Int)]),(2,.vs [.bool false g,.imm .free (.ns .u64 h) 1 1 0 i,.int .i64 j])],3⟩
def va:List Code:=bJ (inBlock ((((rt.drop 2).take 1)).headD .skip))
def Qw(b:Int)(c:Int)(d:Lv)(a:List Nat)(e:Bool)(f:Nat)(g:Bool)(h:List Int)(i:Nat)(j:Int)(_:Unit) :aL:=⟨ah 65 [(1,.ptr 0 1 0 0),(2,.ptr 1 1 0 0),(3,.ptr 2 1 0 0),(4,.int .i64 ((f:Nat):Int)),(5,.int .i64 (0:Int))],[(0,.vs [.int .i64 b,.int .i64 c,.imm d (.fl a) 1 1 0 (List.length a)]),(1,.vs [.bool false e,.nsl,.int .i64 (0:Int)]),(2,.vs [.bool false g,.imm .free (.ns .u64 h) 1 1 0 i,.int .i64 j])],3⟩
def Qx:T ((Unit)⊕((Bool×(List Int)×Nat×Int)⊕((Bool×(List Int)×Nat×Int)⊕(cp)))) :=
  .leaf (.inl ())
def ru(b:Int)(c:Int)(d:Lv)(a:List Nat)(e:Bool)(f:Nat) :Nat×Bool×(List Int)×Nat×Int→aL:=fun (g,h,i,j,k)=>⟨ah 65 [(1,.ptr 0 1 0 0),(2,.ptr 1 1 0 0),(3,.ptr 2 1 0 0),(4,.int .i64 ((f:Nat):Int)),(5,.int .i64 ((g:Nat):Int))],[(0,.vs [.int .i64 b,.int .i64 c,.imm d (.fl a) 1 1 0 (List.length a)]),(1,.vs [.bool false e,.nsl,.int .i64 (0:Int)]),(2,.vs [.bool false h,.imm .free (.ns .u64 i) 1 1 0 j,.int .i64 k])],3⟩
def f4(b:Int)(c:Int)(d:Lv)(a:List Nat)(e:Bool)(f:Nat) :Bool×(List Int)×Nat×Int→aL:=fun (g,h,i,j)=>⟨ah 65 [(1,.ptr 0 1 0 0),(2,.ptr 1 1 0 0),(3,.ptr 2 1 0 0),(4,.int .i64 ((f:Nat):Int))],[(0,.vs [.int .i64 b,.int .i64 c,.imm d (.fl a) 1 1 0 (List.length a)]),(1,.vs [.bool false e,.nsl,.int .i64 (0:Int)]),(2,.vs [.bool false g,.imm .free (.ns .u64 h) 1 1 0 i,.int .i64 j])],3⟩
def rv:List Code:=bJ (bK ((((va.drop 1).take 1)).headD .skip))
def Qy(b:Int)(c:Int)(d:Lv)(a:List Nat)(e:Bool)(f:Nat)(g:Nat)(h:Bool)(i:List Int)(j:Nat)(k:Int)(_:Unit) :aL:=⟨ah 65 [(1,.ptr 0 1 0 0),(2,.ptr 1 1 0 0),(3,.ptr 2 1 0 0),(4,.int .i64 ((f:Nat):Int)),(5,.int .i64 ((g:Nat):Int))],[(0,.vs [.int .i64 b,.int .i64 c,.imm d (.fl a) 1 1 0 (List.length a)]),(1,.vs [.bool false e,.nsl,.int .i64 (0:Int)]),(2,.vs [.bool false h,.imm .free (.ns .u64 i) 1 1 0 j,.int .i64 k])],3⟩
def A1(a:Int)(b:Nat)(c:Bool)(d:List Int)(e:Nat)(f:Int) :T ((Unit)⊕((Bool×(List Int)×Nat×Int)⊕((Bool×(List Int)×Nat×Int)⊕((Bool×(List Int)×Nat×Int)⊕(cp))))) :=
  .ask (decide (((b:Nat):Int) < a))
    (.leaf (.inl ()))
    (.leaf (.inr (.inl (c,d,e,f))))
def jb(b:Int)(c:Int)(d:Lv)(a:List Nat)(e:Bool)(f:Nat)(g:Nat) :Bool×(List Int)×Nat×Int→aL:=fun (h,i,j,k)=>⟨ah 65 [(1,.ptr 0 1 0 0),(2,.ptr 1 1 0 0),(3,.ptr 2 1 0 0),(4,.int .i64 ((f:Nat):Int)),(5,.int .i64 ((g:Nat):Int))],[(0,.vs [.int .i64 b,.int .i64 c,.imm d (.fl a) 1 1 0 (List.length a)]),(1,.vs [.bool false e,.nsl,.int .i64 (0:Int)]),(2,.vs [.bool false h,.imm .free (.ns .u64 i) 1 1 0 j,.int .i64 k])],3⟩
def oz:List Code:=bJ (inBlock ((((rv.drop 2).take 1)).headD .skip))
def Qz(b:Int)(c:Int)(d:Lv)(a:List Nat)(e:Bool)(f:Nat)(g:Nat)(h:Bool)(i:List Int)(j:Nat)(k:Int) :Bool×(List Int)×Nat×Int→aL:=fun (l,m,n,o)=>⟨ah 65 [(1,.ptr 0 1 0 0),(2,.ptr 1 1 0 0),(3,.ptr 2 1 0 0),(4,.int .i64 ((f:Nat):Int)),(5,.int .i64 ((g:Nat):Int)),(6,.ptr 3 1 0 0)],[(0,.vs [.int .i64 b,.int .i64 c,.imm d (.fl a) 1 1 0 (List.length a)]),(1,.vs [.bool false e,.nsl,.int .i64 (0:Int)]),(2,.vs [.bool false h,.imm .free (.ns .u64 i) 1 1 0 j,.int .i64 k]),(3,.vs [.bool false l,.imm .free (.ns .u64 m) 1 1 0 n,.int .i64 o])],4⟩
def Hv:T ((Bool×(List Int)×Nat×Int)⊕((Bool×(List Int)×Nat×Int)⊕((Bool×(List Int)×Nat×Int)⊕((Bool×(List Int)×Nat×Int)⊕((Bool×(List Int)×Nat×Int)⊕(cp)))))) :=
  .need (g7 (aG (0:Int)))<|.leaf (.inl ((dm (aG (0:Int))),(cG (aG (0:Int))),(cH (aG (0:Int))),(dn (aG (0:Int)))))
def QA(b:Int)(c:Int)(d:Lv)(a:List Nat)(e:Bool)(f:Nat)(g:Nat)(h:Bool)(i:List Int)(j:Nat)(k:Int)(l:Bool)(m:List Int)(n:Nat)(o:Int)(_:Unit) :aL:=⟨ah 65 [(1,.ptr 0 1 0 0),(2,.ptr 1 1 0 0),(3,.ptr 2 1 0 0),(4,.int .i64 ((f:Nat):Int)),(5,.int .i64 ((g:Nat):Int)),(6,.ptr 3 1 0 0),(7,.int .i64 (0:Int))],[(0,.vs [.int .i64 b,.int .i64 c,.imm d (.fl a) 1 1 0 (List.length a)]),(1,.vs [.bool false e,.nsl,.int .i64 (0:Int)]),(2,.vs [.bool false h,.imm .free (.ns .u64 i) 1 1 0 j,.int .i64 k]),(3,.vs [.bool false l,.imm .free (.ns .u64 m) 1 1 0 n,.int .i64 o])],4⟩
def QB:T ((Unit)⊕((Bool×(List Int)×Nat×Int)⊕((Bool×(List Int)×Nat×Int)⊕((Bool×(List Int)×Nat×Int)⊕((Bool×(List Int)×Nat×Int)⊕(cp)))))) :=
  .leaf (.inl ())
def rx(b:Int)(c:Int)(d:Lv)(a:List Nat)(e:Bool)(f:Nat)(g:Nat)(h:Bool)(i:List Int)(j:Nat)(k:Int) :Nat×Bool×(List Int)×Nat×Int→aL:=fun (l,m,n,o,p)=>⟨ah 65 [(1,.ptr 0 1 0 0),(2,.ptr 1 1 0 0),(3,.ptr 2 1 0 0),(4,.int .i64 ((f:Nat):Int)),(5,.int .i64 ((g:Nat):Int)),(6,.ptr 3 1 0 0),(7,.int .i64 ((l:Nat):Int))],[(0,.vs [.int .i64 b,.int .i64 c,.imm d (.fl a) 1 1 0 (List.length a)]),(1,.vs [.bool false e,.nsl,.int .i64 (0:Int)]),(2,.vs [.bool false h,.imm .free (.ns .u64 i) 1 1 0 j,.int .i64 k]),(3,.vs [.bool false m,.imm .free (.ns .u64 n) 1 1 0 o,.int .i64 p])],4⟩
def vb(b:Int)(c:Int)(d:Lv)(a:List Nat)(e:Bool)(f:Nat)(g:Nat)(h:Bool)(i:List Int)(j:Nat)(k:Int) :Bool×(List Int)×Nat×Int→aL:=fun (l,m,n,o)=>⟨ah 65 [(1,.ptr 0 1 0 0),(2,.ptr 1 1 0 0),(3,.ptr 2 1 0 0),(4,.int .i64 ((f:Nat):Int)),(5,.int .i64 ((g:Nat):Int)),(6,.ptr 3 1 0 0)],[(0,.vs [.int .i64 b,.int .i64 c,.imm d (.fl a) 1 1 0 (List.length a)]),(1,.vs [.bool false e,.nsl,.int .i64 (0:Int)]),(2,.vs [.bool false h,.imm .free (.ns .u64 i) 1 1 0 j,.int .i64 k]),(3,.vs [.bool false l,.imm .free (.ns .u64 m) 1 1 0 n,.int .i64 o])],4⟩
def Hw:List Code:=bJ (bK (((((oz.drop 1).drop 1).take 1)).headD .skip))
def QC(b:Int)(c:Int)(d:Lv)(a:List Nat)(e:Bool)(f:Nat)(g:Nat)(h:Bool)(i:List Int)(j:Nat)(k:Int)(l:Nat) :Bool×(List Int)×Nat×Int→aL:=fun (m,n,o,p)=>⟨ah 65 [(1,.ptr 0 1 0 0),(2,.ptr 1 1 0 0),(3,.ptr 2 1 0 0),(4,.int .i64 ((f:Nat):Int)),(5,.int .i64 ((g:Nat):Int)),(6,.ptr 3 1 0 0),(7,.int .i64 ((l:Nat):Int))],[(0,.vs [.int .i64 b,.int .i64 c,.imm d (.fl a) 1 1 0 (List.length a)]),(1,.vs [.bool false e,.nsl,.int .i64 (0:Int)]),(2,.vs [.bool false h,.imm .free (.ns .u64 i) 1 1 0 j,.int .i64 k]),(3,.vs [.bool false m,.imm .free (.ns .u64 n) 1 1 0 o,.int .i64 p])],4⟩
def vc(j:Int)(b:Int)(c:List Nat)(d:Nat)(e:Nat)(a:Nat)(h:Bool)(f:List Int)(g:Nat)(i:Int) :T ((Bool×(List Int)×Nat×Int)⊕((Bool×(List Int)×Nat×Int)⊕((Bool×(List Int)×Nat×Int)⊕((Bool×(List Int)×Nat×Int)⊕((Bool×(List Int)×Nat×Int)⊕((Bool×(List Int)×Nat×Int)⊕(cp))))))) :=
  .ask (decide (((a:Nat):Int) < j))
    (.need (d8 .i64 (((a:Nat):Int) * b))<|.need (d8 .i64 ((((a:Nat):Int) * b)+((d:Nat):Int)))<|.need (iS ((((a:Nat):Int) * b)+((d:Nat):Int)) (List.length c))<|.need (jC (Int.toNat ((((a:Nat):Int) * b)+((d:Nat):Int))) (List.length c))<|.need (l8 (ab (List.getD c (Int.toNat ((((a:Nat):Int) * b)+((d:Nat):Int))) 0)))<|.need (d8 .i64 (((a:Nat):Int) * b))<|.need (d8 .i64 ((((a:Nat):Int) * b)+((e:Nat):Int)))<|.need (iS ((((a:Nat):Int) * b)+((e:Nat):Int)) (List.length c))<|.need (jC (Int.toNat ((((a:Nat):Int) * b)+((e:Nat):Int))) (List.length c))<|.need (l8 (ab (List.getD c (Int.toNat ((((a:Nat):Int) * b)+((e:Nat):Int))) 0)))<|.need (aQ 0 (aj (ab (List.getD c (Int.toNat ((((a:Nat):Int) * b)+((d:Nat):Int))) 0))) (ai (ab (List.getD c (Int.toNat ((((a:Nat):Int) * b)+((d:Nat):Int))) 0))))<|.need (aQ 0 (aj (ab (List.getD c (Int.toNat ((((a:Nat):Int) * b)+((e:Nat):Int))) 0))) (ai (ab (List.getD c (Int.toNat ((((a:Nat):Int) * b)+((e:Nat):Int))) 0))))<|.need (i9 (aq (ak (ab (List.getD c (Int.toNat ((((a:Nat):Int) * b)+((d:Nat):Int))) 0))) (aa 0 (aj (ab (List.getD c (Int.toNat ((((a:Nat):Int) * b)+((d:Nat):Int))) 0))) (ai (ab (List.getD c (Int.toNat ((((a:Nat):Int) * b)+((d:Nat):Int))) 0)))) (am (ab (List.getD c (Int.toNat ((((a:Nat):Int) * b)+((d:Nat):Int))) 0))) (ak (ab (List.getD c (Int.toNat ((((a:Nat):Int) * b)+((e:Nat):Int))) 0))) (aa 0 (aj (ab (List.getD c (Int.toNat ((((a:Nat):Int) * b)+((e:Nat):Int))) 0))) (ai (ab (List.getD c (Int.toNat ((((a:Nat):Int) * b)+((e:Nat):Int))) 0)))) (am (ab (List.getD c (Int.toNat ((((a:Nat):Int) * b)+((e:Nat):Int))) 0)))))<|.need (aQ 0 g f)<|.need (aQ 0 (bo (aq (ak (ab (List.getD c (Int.toNat ((((a:Nat):Int) * b)+((d:Nat):Int))) 0))) (aa 0 (aj (ab (List.getD c (Int.toNat ((((a:Nat):Int) * b)+((d:Nat):Int))) 0))) (ai (ab (List.getD c (Int.toNat ((((a:Nat):Int) * b)+((d:Nat):Int))) 0)))) (am (ab (List.getD c (Int.toNat ((((a:Nat):Int) * b)+((d:Nat):Int))) 0))) (ak (ab (List.getD c (Int.toNat ((((a:Nat):Int) * b)+((e:Nat):Int))) 0))) (aa 0 (aj (ab (List.getD c (Int.toNat ((((a:Nat):Int) * b)+((e:Nat):Int))) 0))) (ai (ab (List.getD c (Int.toNat ((((a:Nat):Int) * b)+((e:Nat):Int))) 0)))) (am (ab (List.getD c (Int.toNat ((((a:Nat):Int) * b)+((e:Nat):Int))) 0))))) (bn (aq (ak (ab (List.getD c (Int.toNat ((((a:Nat):Int) * b)+((d:Nat):Int))) 0))) (aa 0 (aj (ab (List.getD c (Int.toNat ((((a:Nat):Int) * b)+((d:Nat):Int))) 0))) (ai (ab (List.getD c (Int.toNat ((((a:Nat):Int) * b)+((d:Nat):Int))) 0)))) (am (ab (List.getD c (Int.toNat ((((a:Nat):Int) * b)+((d:Nat):Int))) 0))) (ak (ab (List.getD c (Int.toNat ((((a:Nat):Int) * b)+((e:Nat):Int))) 0))) (aa 0 (aj (ab (List.getD c (Int.toNat ((((a:Nat):Int) * b)+((e:Nat):Int))) 0))) (ai (ab (List.getD c (Int.toNat ((((a:Nat):Int) * b)+((e:Nat):Int))) 0)))) (am (ab (List.getD c (Int.toNat ((((a:Nat):Int) * b)+((e:Nat):Int))) 0))))))<|.need (wh (cY h (aa 0 g f) i (bL (aq (ak (ab (List.getD c (Int.toNat ((((a:Nat):Int) * b)+((d:Nat):Int))) 0))) (aa 0 (aj (ab (List.getD c (Int.toNat ((((a:Nat):Int) * b)+((d:Nat):Int))) 0))) (ai (ab (List.getD c (Int.toNat ((((a:Nat):Int) * b)+((d:Nat):Int))) 0)))) (am (ab (List.getD c (Int.toNat ((((a:Nat):Int) * b)+((d:Nat):Int))) 0))) (ak (ab (List.getD c (Int.toNat ((((a:Nat):Int) * b)+((e:Nat):Int))) 0))) (aa 0 (aj (ab (List.getD c (Int.toNat ((((a:Nat):Int) * b)+((e:Nat):Int))) 0))) (ai (ab (List.getD c (Int.toNat ((((a:Nat):Int) * b)+((e:Nat):Int))) 0)))) (am (ab (List.getD c (Int.toNat ((((a:Nat):Int) * b)+((e:Nat):Int))) 0))))) (aa 0 (bo (aq (ak (ab (List.getD c (Int.toNat ((((a:Nat):Int) * b)+((d:Nat):Int))) 0))) (aa 0 (aj (ab (List.getD c (Int.toNat ((((a:Nat):Int) * b)+((d:Nat):Int))) 0))) (ai (ab (List.getD c (Int.toNat ((((a:Nat):Int) * b)+((d:Nat):Int))) 0)))) (am (ab (List.getD c (Int.toNat ((((a:Nat):Int) * b)+((d:Nat):Int))) 0))) (ak (ab (List.getD c (Int.toNat ((((a:Nat):Int) * b)+((e:Nat):Int))) 0))) (aa 0 (aj (ab (List.getD c (Int.toNat ((((a:Nat):Int) * b)+((e:Nat):Int))) 0))) (ai (ab (List.getD c (Int.toNat ((((a:Nat):Int) * b)+((e:Nat):Int))) 0)))) (am (ab (List.getD c (Int.toNat ((((a:Nat):Int) * b)+((e:Nat):Int))) 0))))) (bn (aq (ak (ab (List.getD c (Int.toNat ((((a:Nat):Int) * b)+((d:Nat):Int))) 0))) (aa 0 (aj (ab (List.getD c (Int.toNat ((((a:Nat):Int) * b)+((d:Nat):Int))) 0))) (ai (ab (List.getD c (Int.toNat ((((a:Nat):Int) * b)+((d:Nat):Int))) 0)))) (am (ab (List.getD c (Int.toNat ((((a:Nat):Int) * b)+((d:Nat):Int))) 0))) (ak (ab (List.getD c (Int.toNat ((((a:Nat):Int) * b)+((e:Nat):Int))) 0))) (aa 0 (aj (ab (List.getD c (Int.toNat ((((a:Nat):Int) * b)+((e:Nat):Int))) 0))) (ai (ab (List.getD c (Int.toNat ((((a:Nat):Int) * b)+((e:Nat):Int))) 0)))) (am (ab (List.getD c (Int.toNat ((((a:Nat):Int) * b)+((e:Nat):Int))) 0)))))) (bM (aq (ak (ab (List.getD c (Int.toNat ((((a:Nat):Int) * b)+((d:Nat):Int))) 0))) (aa 0 (aj (ab (List.getD c (Int.toNat ((((a:Nat):Int) * b)+((d:Nat):Int))) 0))) (ai (ab (List.getD c (Int.toNat ((((a:Nat):Int) * b)+((d:Nat):Int))) 0)))) (am (ab (List.getD c (Int.toNat ((((a:Nat):Int) * b)+((d:Nat):Int))) 0))) (ak (ab (List.getD c (Int.toNat ((((a:Nat):Int) * b)+((e:Nat):Int))) 0))) (aa 0 (aj (ab (List.getD c (Int.toNat ((((a:Nat):Int) * b)+((e:Nat):Int))) 0))) (ai (ab (List.getD c (Int.toNat ((((a:Nat):Int) * b)+((e:Nat):Int))) 0)))) (am (ab (List.getD c (Int.toNat ((((a:Nat):Int) * b)+((e:Nat):Int))) 0)))))))<|.leaf (.inl ((u4 (cY h (aa 0 g f) i (bL (aq (ak (ab (List.getD c (Int.toNat ((((a:Nat):Int) * b)+((d:Nat):Int))) 0))) (aa 0 (aj (ab (List.getD c (Int.toNat ((((a:Nat):Int) * b)+((d:Nat):Int))) 0))) (ai (ab (List.getD c (Int.toNat ((((a:Nat):Int) * b)+((d:Nat):Int))) 0)))) (am (ab (List.getD c (Int.toNat ((((a:Nat):Int) * b)+((d:Nat):Int))) 0))) (ak (ab (List.getD c (Int.toNat ((((a:Nat):Int) * b)+((e:Nat):Int))) 0))) (aa 0 (aj (ab (List.getD c (Int.toNat ((((a:Nat):Int) * b)+((e:Nat):Int))) 0))) (ai (ab (List.getD c (Int.toNat ((((a:Nat):Int) * b)+((e:Nat):Int))) 0)))) (am (ab (List.getD c (Int.toNat ((((a:Nat):Int) * b)+((e:Nat):Int))) 0))))) (aa 0 (bo (aq (ak (ab (List.getD c (Int.toNat ((((a:Nat):Int) * b)+((d:Nat):Int))) 0))) (aa 0 (aj (ab (List.getD c (Int.toNat ((((a:Nat):Int) * b)+((d:Nat):Int))) 0))) (ai (ab (List.getD c (Int.toNat ((((a:Nat):Int) * b)+((d:Nat):Int))) 0)))) (am (ab (List.getD c (Int.toNat ((((a:Nat):Int) * b)+((d:Nat):Int))) 0))) (ak (ab (List.getD c (Int.toNat ((((a:Nat):Int) * b)+((e:Nat):Int))) 0))) (aa 0 (aj (ab (List.getD c (Int.toNat ((((a:Nat):Int) * b)+((e:Nat):Int))) 0))) (ai (ab (List.getD c (Int.toNat ((((a:Nat):Int) * b)+((e:Nat):Int))) 0)))) (am (ab (List.getD c (Int.toNat ((((a:Nat):Int) * b)+((e:Nat):Int))) 0))))) (bn (aq (ak (ab (List.getD c (Int.toNat ((((a:Nat):Int) * b)+((d:Nat):Int))) 0))) (aa 0 (aj (ab (List.getD c (Int.toNat ((((a:Nat):Int) * b)+((d:Nat):Int))) 0))) (ai (ab (List.getD c (Int.toNat ((((a:Nat):Int) * b)+((d:Nat):Int))) 0)))) (am (ab (List.getD c (Int.toNat ((((a:Nat):Int) * b)+((d:Nat):Int))) 0))) (ak (ab (List.getD c (Int.toNat ((((a:Nat):Int) * b)+((e:Nat):Int))) 0))) (aa 0 (aj (ab (List.getD c (Int.toNat ((((a:Nat):Int) * b)+((e:Nat):Int))) 0))) (ai (ab (List.getD c (Int.toNat ((((a:Nat):Int) * b)+((e:Nat):Int))) 0)))) (am (ab (List.getD c (Int.toNat ((((a:Nat):Int) * b)+((e:Nat):Int))) 0)))))) (bM (aq (ak (ab (List.getD c (Int.toNat ((((a:Nat):Int) * b)+((d:Nat):Int))) 0))) (aa 0 (aj (ab (List.getD c (Int.toNat ((((a:Nat):Int) * b)+((d:Nat):Int))) 0))) (ai (ab (List.getD c (Int.toNat ((((a:Nat):Int) * b)+((d:Nat):Int))) 0)))) (am (ab (List.getD c (Int.toNat ((((a:Nat):Int) * b)+((d:Nat):Int))) 0))) (ak (ab (List.getD c (Int.toNat ((((a:Nat):Int) * b)+((e:Nat):Int))) 0))) (aa 0 (aj (ab (List.getD c (Int.toNat ((((a:Nat):Int) * b)+((e:Nat):Int))) 0))) (ai (ab (List.getD c (Int.toNat ((((a:Nat):Int) * b)+((e:Nat):Int))) 0)))) (am (ab (List.getD c (Int.toNat ((((a:Nat):Int) * b)+((e:Nat):Int))) 0))))))),(u5 (cY h (aa 0 g f) i (bL (aq (ak (ab (List.getD c (Int.toNat ((((a:Nat):Int) * b)+((d:Nat):Int))) 0))) (aa 0 (aj (ab (List.getD c (Int.toNat ((((a:Nat):Int) * b)+((d:Nat):Int))) 0))) (ai (ab (List.getD c (Int.toNat ((((a:Nat):Int) * b)+((d:Nat):Int))) 0)))) (am (ab (List.getD c (Int.toNat ((((a:Nat):Int) * b)+((d:Nat):Int))) 0))) (ak (ab (List.getD c (Int.toNat ((((a:Nat):Int) * b)+((e:Nat):Int))) 0))) (aa 0 (aj (ab (List.getD c (Int.toNat ((((a:Nat):Int) * b)+((e:Nat):Int))) 0))) (ai (ab (List.getD c (Int.toNat ((((a:Nat):Int) * b)+((e:Nat):Int))) 0)))) (am (ab (List.getD c (Int.toNat ((((a:Nat):Int) * b)+((e:Nat):Int))) 0))))) (aa 0 (bo (aq (ak (ab (List.getD c (Int.toNat ((((a:Nat):Int) * b)+((d:Nat):Int))) 0))) (aa 0 (aj (ab (List.getD c (Int.toNat ((((a:Nat):Int) * b)+((d:Nat):Int))) 0))) (ai (ab (List.getD c (Int.toNat ((((a:Nat):Int) * b)+((d:Nat):Int))) 0)))) (am (ab (List.getD c (Int.toNat ((((a:Nat):Int) * b)+((d:Nat):Int))) 0))) (ak (ab (List.getD c (Int.toNat ((((a:Nat):Int) * b)+((e:Nat):Int))) 0))) (aa 0 (aj (ab (List.getD c (Int.toNat ((((a:Nat):Int) * b)+((e:Nat):Int))) 0))) (ai (ab (List.getD c (Int.toNat ((((a:Nat):Int) * b)+((e:Nat):Int))) 0)))) (am (ab (List.getD c (Int.toNat ((((a:Nat):Int) * b)+((e:Nat):Int))) 0))))) (bn (aq (ak (ab (List.getD c (Int.toNat ((((a:Nat):Int) * b)+((d:Nat):Int))) 0))) (aa 0 (aj (ab (List.getD c (Int.toNat ((((a:Nat):Int) * b)+((d:Nat):Int))) 0))) (ai (ab (List.getD c (Int.toNat ((((a:Nat):Int) * b)+((d:Nat):Int))) 0)))) (am (ab (List.getD c (Int.toNat ((((a:Nat):Int) * b)+((d:Nat):Int))) 0))) (ak (ab (List.getD c (Int.toNat ((((a:Nat):Int) * b)+((e:Nat):Int))) 0))) (aa 0 (aj (ab (List.getD c (Int.toNat ((((a:Nat):Int) * b)+((e:Nat):Int))) 0))) (ai (ab (List.getD c (Int.toNat ((((a:Nat):Int) * b)+((e:Nat):Int))) 0)))) (am (ab (List.getD c (Int.toNat ((((a:Nat):Int) * b)+((e:Nat):Int))) 0)))))) (bM (aq (ak (ab (List.getD c (Int.toNat ((((a:Nat):Int) * b)+((d:Nat):Int))) 0))) (aa 0 (aj (ab (List.getD c (Int.toNat ((((a:Nat):Int) * b)+((d:Nat):Int))) 0))) (ai (ab (List.getD c (Int.toNat ((((a:Nat):Int) * b)+((d:Nat):Int))) 0)))) (am (ab (List.getD c (Int.toNat ((((a:Nat):Int) * b)+((d:Nat):Int))) 0))) (ak (ab (List.getD c (Int.toNat ((((a:Nat):Int) * b)+((e:Nat):Int))) 0))) (aa 0 (aj (ab (List.getD c (Int.toNat ((((a:Nat):Int) * b)+((e:Nat):Int))) 0))) (ai (ab (List.getD c (Int.toNat ((((a:Nat):Int) * b)+((e:Nat):Int))) 0)))) (am (ab (List.getD c (Int.toNat ((((a:Nat):Int) * b)+((e:Nat):Int))) 0))))))),(u6 (cY h (aa 0 g f) i (bL (aq (ak (ab (List.getD c (Int.toNat ((((a:Nat):Int) * b)+((d:Nat):Int))) 0))) (aa 0 (aj (ab (List.getD c (Int.toNat ((((a:Nat):Int) * b)+((d:Nat):Int))) 0))) (ai (ab (List.getD c (Int.toNat ((((a:Nat):Int) * b)+((d:Nat):Int))) 0)))) (am (ab (List.getD c (Int.toNat ((((a:Nat):Int) * b)+((d:Nat):Int))) 0))) (ak (ab (List.getD c (Int.toNat ((((a:Nat):Int) * b)+((e:Nat):Int))) 0))) (aa 0 (aj (ab (List.getD c (Int.toNat ((((a:Nat):Int) * b)+((e:Nat):Int))) 0))) (ai (ab (List.getD c (Int.toNat ((((a:Nat):Int) * b)+((e:Nat):Int))) 0)))) (am (ab (List.getD c (Int.toNat ((((a:Nat):Int) * b)+((e:Nat):Int))) 0))))) (aa 0 (bo (aq (ak (ab (List.getD c (Int.toNat ((((a:Nat):Int) * b)+((d:Nat):Int))) 0))) (aa 0 (aj (ab (List.getD c (Int.toNat ((((a:Nat):Int) * b)+((d:Nat):Int))) 0))) (ai (ab (List.getD c (Int.toNat ((((a:Nat):Int) * b)+((d:Nat):Int))) 0)))) (am (ab (List.getD c (Int.toNat ((((a:Nat):Int) * b)+((d:Nat):Int))) 0))) (ak (ab (List.getD c (Int.toNat ((((a:Nat):Int) * b)+((e:Nat):Int))) 0))) (aa 0 (aj (ab (List.getD c (Int.toNat ((((a:Nat):Int) * b)+((e:Nat):Int))) 0))) (ai (ab (List.getD c (Int.toNat ((((a:Nat):Int) * b)+((e:Nat):Int))) 0)))) (am (ab (List.getD c (Int.toNat ((((a:Nat):Int) * b)+((e:Nat):Int))) 0))))) (bn (aq (ak (ab (List.getD c (Int.toNat ((((a:Nat):Int) * b)+((d:Nat):Int))) 0))) (aa 0 (aj (ab (List.getD c (Int.toNat ((((a:Nat):Int) * b)+((d:Nat):Int))) 0))) (ai (ab (List.getD c (Int.toNat ((((a:Nat):Int) * b)+((d:Nat):Int))) 0)))) (am (ab (List.getD c (Int.toNat ((((a:Nat):Int) * b)+((d:Nat):Int))) 0))) (ak (ab (List.getD c (Int.toNat ((((a:Nat):Int) * b)+((e:Nat):Int))) 0))) (aa 0 (aj (ab (List.getD c (Int.toNat ((((a:Nat):Int) * b)+((e:Nat):Int))) 0))) (ai (ab (List.getD c (Int.toNat ((((a:Nat):Int) * b)+((e:Nat):Int))) 0)))) (am (ab (List.getD c (Int.toNat ((((a:Nat):Int) * b)+((e:Nat):Int))) 0)))))) (bM (aq (ak (ab (List.getD c (Int.toNat ((((a:Nat):Int) * b)+((d:Nat):Int))) 0))) (aa 0 (aj (ab (List.getD c (Int.toNat ((((a:Nat):Int) * b)+((d:Nat):Int))) 0))) (ai (ab (List.getD c (Int.toNat ((((a:Nat):Int) * b)+((d:Nat):Int))) 0)))) (am (ab (List.getD c (Int.toNat ((((a:Nat):Int) * b)+((d:Nat):Int))) 0))) (ak (ab (List.getD c (Int.toNat ((((a:Nat):Int) * b)+((e:Nat):Int))) 0))) (aa 0 (aj (ab (List.getD c (Int.toNat ((((a:Nat):Int) * b)+((e:Nat):Int))) 0))) (ai (ab (List.getD c (Int.toNat ((((a:Nat):Int) * b)+((e:Nat):Int))) 0)))) (am (ab (List.getD c (Int.toNat ((((a:Nat):Int) * b)+((e:Nat):Int))) 0))))))),(u7 (cY h (aa 0 g f) i (bL (aq (ak (ab (List.getD c (Int.toNat ((((a:Nat):Int) * b)+((d:Nat):Int))) 0))) (aa 0 (aj (ab (List.getD c (Int.toNat ((((a:Nat):Int) * b)+((d:Nat):Int))) 0))) (ai (ab (List.getD c (Int.toNat ((((a:Nat):Int) * b)+((d:Nat):Int))) 0)))) (am (ab (List.getD c (Int.toNat ((((a:Nat):Int) * b)+((d:Nat):Int))) 0))) (ak (ab (List.getD c (Int.toNat ((((a:Nat):Int) * b)+((e:Nat):Int))) 0))) (aa 0 (aj (ab (List.getD c (Int.toNat ((((a:Nat):Int) * b)+((e:Nat):Int))) 0))) (ai (ab (List.getD c (Int.toNat ((((a:Nat):Int) * b)+((e:Nat):Int))) 0)))) (am (ab (List.getD c (Int.toNat ((((a:Nat):Int) * b)+((e:Nat):Int))) 0))))) (aa 0 (bo (aq (ak (ab (List.getD c (Int.toNat ((((a:Nat):Int) * b)+((d:Nat):Int))) 0))) (aa 0 (aj (ab (List.getD c (Int.toNat ((((a:Nat):Int) * b)+((d:Nat):Int))) 0))) (ai (ab (List.getD c (Int.toNat ((((a:Nat):Int) * b)+((d:Nat):Int))) 0)))) (am (ab (List.getD c (Int.toNat ((((a:Nat):Int) * b)+((d:Nat):Int))) 0))) (ak (ab (List.getD c (Int.toNat ((((a:Nat):Int) * b)+((e:Nat):Int))) 0))) (aa 0 (aj (ab (List.getD c (Int.toNat ((((a:Nat):Int) * b)+((e:Nat):Int))) 0))) (ai (ab (List.getD c (Int.toNat ((((a:Nat):Int) * b)+((e:Nat):Int))) 0)))) (am (ab (List.getD c (Int.toNat ((((a:Nat):Int) * b)+((e:Nat):Int))) 0))))) (bn (aq (ak (ab (List.getD c (Int.toNat ((((a:Nat):Int) * b)+((d:Nat):Int))) 0))) (aa 0 (aj (ab (List.getD c (Int.toNat ((((a:Nat):Int) * b)+((d:Nat):Int))) 0))) (ai (ab (List.getD c (Int.toNat ((((a:Nat):Int) * b)+((d:Nat):Int))) 0)))) (am (ab (List.getD c (Int.toNat ((((a:Nat):Int) * b)+((d:Nat):Int))) 0))) (ak (ab (List.getD c (Int.toNat ((((a:Nat):Int) * b)+((e:Nat):Int))) 0))) (aa 0 (aj (ab (List.getD c (Int.toNat ((((a:Nat):Int) * b)+((e:Nat):Int))) 0))) (ai (ab (List.getD c (Int.toNat ((((a:Nat):Int) * b)+((e:Nat):Int))) 0)))) (am (ab (List.getD c (Int.toNat ((((a:Nat):Int) * b)+((e:Nat):Int))) 0)))))) (bM (aq (ak (ab (List.getD c (Int.toNat ((((a:Nat):Int) * b)+((d:Nat):Int))) 0))) (aa 0 (aj (ab (List.getD c (Int.toNat ((((a:Nat):Int) * b)+((d:Nat):Int))) 0))) (ai (ab (List.getD c (Int.toNat ((((a:Nat):Int) * b)+((d:Nat):Int))) 0)))) (am (ab (List.getD c (Int.toNat ((((a:Nat):Int) * b)+((d:Nat):Int))) 0))) (ak (ab (List.getD c (Int.toNat ((((a:Nat):Int) * b)+((e:Nat):Int))) 0))) (aa 0 (aj (ab (List.getD c (Int.toNat ((((a:Nat):Int) * b)+((e:Nat):Int))) 0))) (ai (ab (List.getD c (Int.toNat ((((a:Nat):Int) * b)+((e:Nat):Int))) 0)))) (am (ab (List.getD c (Int.toNat ((((a:Nat):Int) * b)+((e:Nat):Int))) 0))))))))))
    (.leaf (.inr (.inl (h,f,g,i))))
def QD(a:Nat)(b:Bool)(c:List Int)(d:Nat)(e:Int) :T ((Nat×Bool×(List Int)×Nat×Int)⊕((Bool×(List Int)×Nat×Int)⊕((Bool×(List Int)×Nat×Int)⊕((Bool×(List Int)×Nat×Int)⊕((Bool×(List Int)×Nat×Int)⊕((Bool×(List Int)×Nat×Int)⊕(cp))))))) :=
  .need (d8 .i64 (((a+1):Nat):Int))<|.leaf (.inl ((a+1),b,c,d,e))
def A2(b:Int)(c:Int)(d:List Nat)(e:Nat)(f:Nat) :Nat×Bool×(List Int)×Nat×Int→Option ((Nat×Bool×(List Int)×Nat×Int)⊕((Bool×(List Int)×Nat×Int)⊕((Bool×(List Int)×Nat×Int)⊕((Bool×(List Int)×Nat×Int)⊕((Bool×(List Int)×Nat×Int)⊕((Bool×(List Int)×Nat×Int)⊕(cp))))))):=fun (a,g,h,i,j) =>
  aC ((vc b c d e f a g h i j).run) fun (k,l,m,n) =>
  (QD a k l m n).run
theorem agC(c:Int)(d:Int)(g:Lv)(e:List Nat)(b:Bool)(f:Nat)(h:Nat)(i:Bool)(j:List Int)(k:Nat)(l:Int)(m:Nat)(n:Bool)(o:List Int)(p:Nat)(q:Int) :Sg prog [] Hw (rx c d g e b f h i j k l (m,n,o,p,q)) (A2 c d e f h (m,n,o,p,q)) (rx c d g e b f h i j k l) (aN 4 (vb c d g e b f h i j k l) (aN 3 (jb c d g e b f h) (aN 2 (f4 c d g e b f) (aN 1 (em c d g e b f) (aN 0 (dF b) dI))))):=by
  unfold A2;exact Sg.cut 3 (aI (aI (aI (aI (aI du))))) (Sg.seg (C:=C0) an dt 60 (Hw.take 3) (rx c d g e b f h i j k l (m,n,o,p,q)) (vc c d e f h m n o p q) (QC c d g e b f h i j k l m) (aN 4 (vb c d g e b f h i j k l) (aN 3 (jb c d g e b f h) (aN 2 (f4 c d g e b f) (aN 1 (em c d g e b f) (aN 0 (dF b) dI))))) [⟨[],[0,1,2,3],[1,2,3,4,5,6,7]⟩,⟨[],[0,1,2,3],[1,2,3,4,5,6]⟩] (by kernel_rfl)) (fun a=>by obtain ⟨r,s,t,u⟩:=a;exact Sg.seg (C:=C0) an dt 60 (Hw.drop 3) (QC c d g e b f h i j k l m (r,s,t,u)) (QD m r s t u) (rx c d g e b f h i j k l) (aN 4 (vb c d g e b f h i j k l) (aN 3 (jb c d g e b f h) (aN 2 (f4 c d g e b f) (aN 1 (em c d g e b f) (aN 0 (dF b) dI))))) [⟨[],[0,1,2,3],[1,2,3,4,5,6,7]⟩] (by kernel_rfl))
def agD(a:Int)(b:Int)(c:Lv)(d:List Nat)(e:Bool)(f:Nat)(g:Nat)(h:Bool)(i:List Int)(j:Nat)(k:Int) :Bool×(List Int)×Nat×Int→aL:=vb a b c d e f g h i j k
def QE(b:Int)(c:Int)(d:Lv)(a:List Nat)(e:Bool)(f:Nat)(g:Nat)(h:Bool)(i:List Int)(j:Nat)(k:Int) :Bool×(List Int)×Nat×Int→aL:=fun (l,m,n,o)=>⟨ah 65 [(1,.ptr 0 1 0 0),(2,.ptr 1 1 0 0),(3,.ptr 2 1 0 0),(4,.int .i64 ((f:Nat):Int)),(5,.int .i64 ((g:Nat):Int)),(6,.ptr 3 1 0 0)],[(0,.vs [.int .i64 b,.int .i64 c,.imm d (.fl a) 1 1 0 (List.length a)]),(1,.vs [.bool false e,.nsl,.int .i64 (0:Int)]),(2,.vs [.bool false h,.imm .free (.ns .u64 i) 1 1 0 j,.int .i64 k]),(3,.vs [.bool false l,.imm .free (.ns .u64 m) 1 1 0 n,.int .i64 o])],4⟩
def A3(e:Nat)(f:Nat)(c:Bool)(a:List Int)(b:Nat)(d:Int) :T ((Bool×(List Int)×Nat×Int)⊕((Bool×(List Int)×Nat×Int)⊕((Bool×(List Int)×Nat×Int)⊕((Bool×(List Int)×Nat×Int)⊕((Bool×(List Int)×Nat×Int)⊕(cp)))))) :=
  .ask (((e:Nat):Int) == ((f:Nat):Int))
    (.need (g7 (aG (1:Int)))<|.need (aQ 0 b a)<|.need (aQ 0 (cH (aG (1:Int))) (cG (aG (1:Int))))<|.need (Do (jx c (aa 0 b a) d (dm (aG (1:Int))) (aa 0 (cH (aG (1:Int))) (cG (aG (1:Int)))) (dn (aG (1:Int)))))<|.leaf (.inl ((EE (jx c (aa 0 b a) d (dm (aG (1:Int))) (aa 0 (cH (aG (1:Int))) (cG (aG (1:Int)))) (dn (aG (1:Int))))),(EF (jx c (aa 0 b a) d (dm (aG (1:Int))) (aa 0 (cH (aG (1:Int))) (cG (aG (1:Int)))) (dn (aG (1:Int))))),(EG (jx c (aa 0 b a) d (dm (aG (1:Int))) (aa 0 (cH (aG (1:Int))) (cG (aG (1:Int)))) (dn (aG (1:Int))))),(EH (jx c (aa 0 b a) d (dm (aG (1:Int))) (aa 0 (cH (aG (1:Int))) (cG (aG (1:Int)))) (dn (aG (1:Int))))))))
    (.leaf (.inl (c,a,b,d)))
def A4(g:Bool)(e:List Int)(f:Nat)(h:Int)(c:Bool)(a:List Int)(b:Nat)(d:Int) :T ((Bool×(List Int)×Nat×Int)⊕((Bool×(List Int)×Nat×Int)⊕((Bool×(List Int)×Nat×Int)⊕((Bool×(List Int)×Nat×Int)⊕((Bool×(List Int)×Nat×Int)⊕(cp)))))) :=
  .need (aQ 0 b a)<|.need (aQ 0 b a)<|.need (i9 (aq c (aa 0 b a) d c (aa 0 b a) d))<|.need (aQ 0 f e)<|.need (aQ 0 (bo (aq c (aa 0 b a) d c (aa 0 b a) d)) (bn (aq c (aa 0 b a) d c (aa 0 b a) d)))<|.need (wh (cY g (aa 0 f e) h (bL (aq c (aa 0 b a) d c (aa 0 b a) d)) (aa 0 (bo (aq c (aa 0 b a) d c (aa 0 b a) d)) (bn (aq c (aa 0 b a) d c (aa 0 b a) d))) (bM (aq c (aa 0 b a) d c (aa 0 b a) d))))<|.leaf (.inl ((u4 (cY g (aa 0 f e) h (bL (aq c (aa 0 b a) d c (aa 0 b a) d)) (aa 0 (bo (aq c (aa 0 b a) d c (aa 0 b a) d)) (bn (aq c (aa 0 b a) d c (aa 0 b a) d))) (bM (aq c (aa 0 b a) d c (aa 0 b a) d)))),(u5 (cY g (aa 0 f e) h (bL (aq c (aa 0 b a) d c (aa 0 b a) d)) (aa 0 (bo (aq c (aa 0 b a) d c (aa 0 b a) d)) (bn (aq c (aa 0 b a) d c (aa 0 b a) d))) (bM (aq c (aa 0 b a) d c (aa 0 b a) d)))),(u6 (cY g (aa 0 f e) h (bL (aq c (aa 0 b a) d c (aa 0 b a) d)) (aa 0 (bo (aq c (aa 0 b a) d c (aa 0 b a) d)) (bn (aq c (aa 0 b a) d c (aa 0 b a) d))) (bM (aq c (aa 0 b a) d c (aa 0 b a) d)))),(u7 (cY g (aa 0 f e) h (bL (aq c (aa 0 b a) d c (aa 0 b a) d)) (aa 0 (bo (aq c (aa 0 b a) d c (aa 0 b a) d)) (bn (aq c (aa 0 b a) d c (aa 0 b a) d))) (bM (aq c (aa 0 b a) d c (aa 0 b a) d))))))
def agE(a:Int)(b:Int)(c:Lv)(d:List Nat)(e:Bool)(f:Nat)(g:Nat) :Bool×(List Int)×Nat×Int→aL:=jb a b c d e f g
def QF(a:Nat)(b:Bool)(c:List Int)(d:Nat)(e:Int) :T ((Nat×Bool×(List Int)×Nat×Int)⊕((Bool×(List Int)×Nat×Int)⊕((Bool×(List Int)×Nat×Int)⊕((Bool×(List Int)×Nat×Int)⊕(cp))))) :=
  .need (d8 .i64 (((a+1):Nat):Int))<|.leaf (.inl ((a+1),b,c,d,e))
def A5(h:Int)(b:Int)(i:List Nat)(c:Nat) :Nat×Bool×(List Int)×Nat×Int→Option ((Nat×Bool×(List Int)×Nat×Int)⊕((Bool×(List Int)×Nat×Int)⊕((Bool×(List Int)×Nat×Int)⊕((Bool×(List Int)×Nat×Int)⊕(cp))))):=fun (a,d,e,f,g) =>
  aC ((A1 b a d e f g).run) fun _ =>
  aC (NN (aC ((Hv).run) fun (j,k,l,m) =>
  aC ((QB).run) fun _ =>
  aC (dM (A2 h b i c a) (0,j,k,l,m)) fun (n,o,p,q) =>
  aC ((A3 c a n o p q).run) fun (r,s,t,u) =>
  (A4 d e f g r s t u).run)) fun (v,w,x,y) =>
  (QF a v w x y).run
theorem agF(e:Int)(c:Int)(g:Lv)(f:List Nat)(b:Bool)(d:Nat)(h:Nat)(i:Bool)(j:List Int)(k:Nat)(l:Int) :Sg prog [] rv (ru e c g f b d (h,i,j,k,l)) (A5 e c f d (h,i,j,k,l)) (ru e c g f b d) (aN 2 (f4 e c g f b d) (aN 1 (em e c g f b d) (aN 0 (dF b) dI))):=by
  unfold A5;exact Sg.cut 2 (aI (aI (aI du))) (Sg.seg (C:=C0) an dt 60 (rv.take 2) (ru e c g f b d (h,i,j,k,l)) (A1 c h i j k l) (Qy e c g f b d h i j k l) (aN 2 (f4 e c g f b d) (aN 1 (em e c g f b d) (aN 0 (dF b) dI))) [⟨[],[0,1,2],[1,2,3,4,5]⟩,⟨[],[0,1,2],[1,2,3,4]⟩] (by kernel_rfl)) (fun a=>by cases a;exact Sg.cut 1 (aI (aI (aI du))) (yp (id:=3) (K:=(jb e c g f b d h)) (by kernel_rfl:((rv.drop 2).take 1) = [.block 3 (inBlock ((((rv.drop 2).take 1)).headD .skip))]) (aI (aI (aI du))) (eK (by decide) (eK (by decide) (eK (by decide) (xD _)))) (Sg.cut 1 (aI (aI (aI (aI du)))) (Sg.seg (C:=C0) an dt 60 (oz.take 1) (Qy e c g f b d h i j k l ()) (Hv) (Qz e c g f b d h i j k l) (aN 3 (jb e c g f b d h) (aN 2 (f4 e c g f b d) (aN 1 (em e c g f b d) (aN 0 (dF b) dI)))) [⟨[],[0,1,2,19],[1,2,3,4,5,6]⟩] (by kernel_rfl)) (fun a=>by obtain ⟨m,n,o,p⟩:=a;exact Sg.cut 1 (aI (aI (aI (aI du)))) (Sg.seg (C:=C0) an dt 60 ((oz.drop 1).take 1) (Qz e c g f b d h i j k l (m,n,o,p)) (QB) (QA e c g f b d h i j k l m n o p) (aN 3 (jb e c g f b d h) (aN 2 (f4 e c g f b d) (aN 1 (em e c g f b d) (aN 0 (dF b) dI)))) [⟨[],[0,1,2,3],[1,2,3,4,5,6,7]⟩] (by kernel_rfl)) (fun a=>by cases a;exact Sg.cut 1 (aI (aI (aI (aI du)))) (Sg.pre ⟨[],[0,1,2,3],[1,2,3,4,5,6,7]⟩ rfl (by kernel_rfl:NS.on ⟨[],[0,1,2,3],[1,2,3,4,5,6,7]⟩ (QA e c g f b d h i j k l m n o p ())=(rx e c g f b d h i j k l) (0,m,n,o,p)) (bU (I:=(rx e c g f b d h i j k l)) (J:=(vb e c g f b d h i j k l)) (id:=4) (by kernel_rfl:(((oz.drop 1).drop 1).take 1) = [.block 4 (.loop (bK (((((oz.drop 1).drop 1).take 1)).headD .skip)))]) (aI (aI (aI (aI du)))) (eK (by decide) (eK (by decide) (eK (by decide) (eK (by decide) (xD _))))) (fun s=>by obtain ⟨E,F,G,H,L⟩:=s;exact agC e c g f b d h i j k l E F G H L) (0,m,n,o,p))) (fun a=>by obtain ⟨q,r,t,u⟩:=a;exact Sg.cut 2 (aI (aI (aI (aI du)))) (Sg.seg (C:=C0) an dt 60 ((((oz.drop 1).drop 1).drop 1).take 2) (agD e c g f b d h i j k l (q,r,t,u)) (A3 d h q r t u) (QE e c g f b d h i j k l) (aN 3 (jb e c g f b d h) (aN 2 (f4 e c g f b d) (aN 1 (em e c g f b d) (aN 0 (dF b) dI)))) [⟨[],[0,1,2,3],[1,2,3,4,5,6]⟩,⟨[],[0,1,2,3],[1,2,3,4,5,6]⟩] (by kernel_rfl)) (fun a=>by obtain ⟨v,w,x,y⟩:=a;exact Sg.seg (C:=C0) an dt 60 ((((oz.drop 1).drop 1).drop 1).drop 2) (QE e c g f b d h i j k l (v,w,x,y)) (A4 i j k l v w x y) (jb e c g f b d h) (aN 3 (jb e c g f b d h) (aN 2 (f4 e c g f b d) (aN 1 (em e c g f b d) (aN 0 (dF b) dI)))) [⟨[],[0,1,2],[1,2,3,4,5]⟩] (by kernel_rfl))))))) (fun a=>by obtain ⟨z,A,B,D⟩:=a;exact Sg.seg (C:=C0) an dt 60 ((rv.drop 2).drop 1) (agE e c g f b d h (z,A,B,D)) (QF h z A B D) (ru e c g f b d) (aN 2 (f4 e c g f b d) (aN 1 (em e c g f b d) (aN 0 (dF b) dI))) [⟨[],[0,1,2],[1,2,3,4,5]⟩] (by kernel_rfl)))
def agG(a:Int)(b:Int)(c:Lv)(d:List Nat)(e:Bool)(f:Nat) :Bool×(List Int)×Nat×Int→aL:=f4 a b c d e f
def QG(a:Bool)(b:List Int)(c:Nat)(d:Int) :T ((Bool×(List Int)×Nat×Int)⊕((Bool×(List Int)×Nat×Int)⊕((Bool×(List Int)×Nat×Int)⊕(cp)))) :=
  .leaf (.inl (a,b,c,d))
def agH(a:Int)(b:Int)(c:Lv)(d:List Nat)(e:Bool)(f:Nat) :Bool×(List Int)×Nat×Int→aL:=em a b c d e f
def QH(a:Nat)(b:Bool)(c:List Int)(d:Nat)(e:Int) :T ((Nat×Bool×(List Int)×Nat×Int)⊕((Bool×(List Int)×Nat×Int)⊕(cp))) :=
  .need (d8 .i64 (((a+1):Nat):Int))<|.leaf (.inl ((a+1),b,c,d,e))
def Hx(g:Int)(b:Int)(h:List Nat) :Nat×Bool×(List Int)×Nat×Int→Option ((Nat×Bool×(List Int)×Nat×Int)⊕((Bool×(List Int)×Nat×Int)⊕(cp))):=fun (a,c,d,e,f) =>
  aC ((A0 b a c d e f).run) fun _ =>
  aC (NN (aC ((Qx).run) fun _ =>
  aC (dM (A5 g b h a) (0,c,d,e,f)) fun (i,j,k,l) =>
  (QG i j k l).run)) fun (m,n,o,p) =>
  (QH a m n o p).run
theorem agI(d:Int)(c:Int)(g:Lv)(e:List Nat)(b:Bool)(f:Nat)(h:Bool)(i:List Int)(j:Nat)(k:Int) :Sg prog [] rt (rr d c g e b (f,h,i,j,k)) (Hx d c e (f,h,i,j,k)) (rr d c g e b) (aN 0 (dF b) dI):=by
  unfold Hx;exact Sg.cut 2 (aI du) (Sg.seg (C:=C0) an dt 60 (rt.take 2) (rr d c g e b (f,h,i,j,k)) (A0 c f h i j k) (Qv d c g e b f h i j k) (aN 0 (dF b) dI) [⟨[],[0,1,2],[1,2,3,4]⟩,⟨[],[1,2],[2,3]⟩] (by kernel_rfl)) (fun a=>by cases a;exact Sg.cut 1 (aI du) (yp (id:=1) (K:=(em d c g e b f)) (by kernel_rfl:((rt.drop 2).take 1) = [.block 1 (inBlock ((((rt.drop 2).take 1)).headD .skip))]) (aI du) (eK (by decide) (xD _)) (Sg.cut 1 (aI (aI du)) (Sg.seg (C:=C0) an dt 60 (va.take 1) (Qv d c g e b f h i j k ()) (Qx) (Qw d c g e b f h i j k) (aN 1 (em d c g e b f) (aN 0 (dF b) dI)) [⟨[],[0,1,2],[1,2,3,4,5]⟩] (by kernel_rfl)) (fun a=>by cases a;exact Sg.cut 1 (aI (aI du)) (Sg.pre ⟨[],[0,1,2],[1,2,3,4,5]⟩ rfl (by kernel_rfl:NS.on ⟨[],[0,1,2],[1,2,3,4,5]⟩ (Qw d c g e b f h i j k ())=(ru d c g e b f) (0,h,i,j,k)) (bU (I:=(ru d c g e b f)) (J:=(f4 d c g e b f)) (id:=2) (by kernel_rfl:((va.drop 1).take 1) = [.block 2 (.loop (bK ((((va.drop 1).take 1)).headD .skip)))]) (aI (aI du)) (eK (by decide) (eK (by decide) (xD _))) (fun s=>by obtain ⟨u,v,w,x,y⟩:=s;exact agF d c g e b f u v w x y) (0,h,i,j,k))) (fun a=>by obtain ⟨l,m,n,o⟩:=a;exact Sg.seg (C:=C0) an dt 60 ((va.drop 1).drop 1) (agG d c g e b f (l,m,n,o)) (QG l m n o) (em d c g e b f) (aN 1 (em d c g e b f) (aN 0 (dF b) dI)) [⟨[],[0,1,2],[1,2,3,4]⟩] (by kernel_rfl))))) (fun a=>by obtain ⟨p,q,r,t⟩:=a;exact Sg.seg (C:=C0) an dt 60 ((rt.drop 2).drop 1) (agH d c g e b f (p,q,r,t)) (QH f p q r t) (rr d c g e b) (aN 0 (dF b) dI) [⟨[],[0,1,2],[1,2,3,4]⟩] (by kernel_rfl)))
def agJ(a:Bool) :Bool×(List Int)×Nat×Int→aL:=dF a
def QI(a:Bool)(b:List Int)(c:Nat)(d:Int) :T ((Empty)⊕(cp)) :=
  .leaf (.inr (.r0 a b c d))
def ez(a:Int)(b:Int)(c:List Nat) :Option cp:=ld (aC ((Hu).run) fun (l,d,e,f,g) =>
  aC ((Qu).run) fun _ =>
  aC (dM (Hx a b c) (0,d,e,f,g)) fun (h,i,j,k) =>
  (QI h i j k).run)
theorem aiW(c:Int)(d:Int)(e:Lv)(b:List Nat){x:cp}(h:ez c d b=some x) :aw prog mD [] [.agg [.int .i64 c,.int .i64 d,.imm e (.fl b) 1 1 0 (List.length b)]] (ME x) :=
  Sg.contract true ME (by kernel_rfl:prog.funcs[mD]? = some (FN mD)) (by kernel_rfl:(FN mD).body=some (bi mD)) (Sg.cut 2 du (Sg.seg (C:=C0) an dt 60 (rq.take 2) (aT (FN mD) [] [.agg [.int .i64 c,.int .i64 d,.imm e (.fl b) 1 1 0 (List.length b)]]) (Hu) (Uh c d e b) dI [⟨[],[0,16,48],[1,2,3]⟩] (by kernel_rfl)) (fun a=>by obtain ⟨f,g,i,j,k⟩:=a;exact Sg.cut 1 du (Sg.seg (C:=C0) an dt 60 ((rq.drop 2).take 1) (Uh c d e b (f,g,i,j,k)) (Qu) (Ui c d e b f g i j k) dI [⟨[],[0,1,2],[1,2,3,4]⟩] (by kernel_rfl)) (fun a=>by cases a;exact Sg.cut 1 du (Sg.pre ⟨[],[0,1,2],[1,2,3,4]⟩ rfl (by kernel_rfl:NS.on ⟨[],[0,1,2],[1,2,3,4]⟩ (Ui c d e b f g i j k ())=(rr c d e b f) (0,g,i,j,k)) (bU (I:=(rr c d e b f)) (J:=(dF f)) (id:=0) (by kernel_rfl:(((rq.drop 2).drop 1).take 1) = [.block 0 (.loop (bK (((((rq.drop 2).drop 1).take 1)).headD .skip)))]) du (xD _) (fun s=>by obtain ⟨p,q,r,t,u⟩:=s;exact agI c d e b f p q r t u) (0,g,i,j,k))) (fun a=>by obtain ⟨l,m,n,o⟩:=a;exact Sg.seg (C:=C0) an dt 60 (((rq.drop 2).drop 1).drop 1) (agJ f (l,m,n,o)) (QI l m n o) (fun a:Empty=>a.elim) dI [⟨[],[0],[2]⟩] (by kernel_rfl)))))
    (fun x=>by cases x with | r0 v w y z=>exact ⟨.inr rfl,[.agg [.bool false v,.imm .free (.ns .u64 w) 1 1 0 y,.int .i64 z]],[],by kernel_rfl,trivial,by kernel_rfl⟩) h
def xE:Option cp→Bool
  | some _=>true
  | none=>false
def s4:Option cp→Bool
  | some (.r0 x _ _ _)=>x
  | _=>false
def o7:Option cp→List Int
  | some (.r0 _ x _ _)=>x
  | _=>[]
def o8:Option cp→Nat
  | some (.r0 _ _ x _)=>x
  | _=>0
def s5:Option cp→Int
  | some (.r0 _ _ _ x)=>x
  | _=>0
theorem aiX{x:Option cp}(h:xE x=true) :x=some (.r0 (s4 x) (o7 x) (o8 x) (s5 x)):=by
  unfold xE at h
  split at h <;> first | rfl | (cases h;done) | (rename_i y;cases y;rfl)
def YN:aJ:=bW mD (.cons (.agg (.cons (.int .i64) (.cons (.int .i64) (.cons .fl .nil)))) .nil) fun t=>[⟨ME (.r0 (s4 (ez t.1.1 t.1.2.1 t.1.2.2.1.2)) (o7 (ez t.1.1 t.1.2.1 t.1.2.2.1.2)) (o8 (ez t.1.1 t.1.2.1 t.1.2.2.1.2)) (s5 (ez t.1.1 t.1.2.1 t.1.2.2.1.2))),[xE (ez t.1.1 t.1.2.1 t.1.2.2.1.2)]⟩]
theorem ada:aU prog YN:=aO fun t=>(aP (fun h=>aiW t.1.1 t.1.2.1 t.1.2.2.1.1 t.1.2.2.1.2 (aiX h)) aW)
def amd:List aJ:=YN :: YM
theorem f5:aY prog (bb amd):=au ada dt
end
end Go.Plb.Seat
namespace Go.Plb.Seat
open Go Go.Plb
set_option linter.unusedVariables false
set_option maxRecDepth 100000
noncomputable section
inductive cS where
  | r0 (a:Bool)
def d7:cS→AE×aL
  | .r0 a=>(.ret,⟨ah 72 [(2,.bool false a)],[],0⟩)
theorem e7:kR d7:=by intro x;cases x <;> (intro h;cases h)
def Iw:cS→jc
  | .r0 a=>⟨.bool false a,[]⟩
def dO:List Code:=bJ (bi jX)
def Hy(b:Int)(c:Int)(d:Lv)(a:List Nat)(e:Bool) :aL:=⟨ah 72 [(1,.ptr 0 1 0 0),(10,.bool false e)],[(0,.vs [.int .i64 b,.int .i64 c,.imm d (.fl a) 1 1 0 (List.length a)])],1⟩
def ET(a:List Nat) :T ((Bool)⊕(cS)) :=
  .ask (decide ((0:Int) < (1:Int)))
    (.need (iS (0:Int) 1)<|.ask (decide ((((List.length a):Nat):Int) > (36:Int)))
      (.leaf (.inl true))
      (.need (d8 .i64 (1:Int))<|.ask (decide ((1:Int) < (1:Int)))
        (.fail)
        (.leaf (.inl false))))
    (.fail)
def Hz(b:Int)(c:Int)(d:Lv)(a:List Nat)(_:Unit) :aL:=⟨ah 72 [(1,.ptr 0 1 0 0)],[(0,.vs [.int .i64 b,.int .i64 c,.imm d (.fl a) 1 1 0 (List.length a)])],1⟩
def wq(a:Bool) :T ((Unit)⊕(cS)) :=
  .ask a
    (.need (g8 (de))<|.leaf (.inr (.r0 (gj (de)))))
    (.leaf (.inl ()))
def HA(b:Int)(c:Int)(d:Lv)(a:List Nat) :Nat×Bool×(List Int)×Nat×Nat×Int→aL:=fun (e,f,g,h,i,j)=>⟨ah 72 [(1,.ptr 0 1 0 0),(3,.ptr 1 1 0 0),(4,.int .i64 ((e:Nat):Int))],[(0,.vs [.int .i64 b,.int .i64 c,.imm d (.fl a) 1 1 0 (List.length a)]),(1,.vs [.bool false f,.imm .free (.ns .u64 g) 1 1 h i,.int .i64 j])],2⟩
def mw(b:Int)(c:Int)(a:List Nat) :T ((Nat×Bool×(List Int)×Nat×Nat×Int)⊕(cS)) :=
  .need (aQ 0 (List.length a) a)<|.need (vW (cm b c (aa 0 (List.length a) a)))<|.leaf (.inl ((uN (cm b c (aa 0 (List.length a) a))),(uO (cm b c (aa 0 (List.length a) a))),(uP (cm b c (aa 0 (List.length a) a))),(uQ (cm b c (aa 0 (List.length a) a))),(uR (cm b c (aa 0 (List.length a) a))),(uS (cm b c (aa 0 (List.length a) a)))))
def HB(b:Int)(c:Int)(d:Lv)(a:List Nat)(e:Nat)(f:Bool)(g:List Int)(h:Nat)(i:Nat)(j:Int) :Nat×Bool×(List Int)×Nat×Nat×Int→aL:=fun (f8,k,l,m,n,o)=>⟨ah 72 [(1,.ptr 0 1 0 0),(3,.ptr 1 1 0 0),(4,.int .i64 ((e:Nat):Int)),(5,.ptr 2 1 0 0),(6,.int .i64 ((f8:Nat):Int))],[(0,.vs [.int .i64 b,.int .i64 c,.imm d (.fl a) 1 1 0 (List.length a)]),(1,.vs [.bool false f,.imm .free (.ns .u64 g) 1 1 h i,.int .i64 j]),(2,.vs [.bool false k,.imm .free (.ns .u64 l) 1 1 m n,.int .i64 o])],3⟩
def gp(b:Int)(c:Int)(a:List Nat) :T ((Nat×Bool×(List Int)×Nat×Nat×Int)⊕(cS)) :=
  .need (aQ 0 (List.length a) a)<|.need (Ax (cX b c (aa 0 (List.length a) a)))<|.leaf (.inl ((Ay (cX b c (aa 0 (List.length a) a))),(Az (cX b c (aa 0 (List.length a) a))),(AA (cX b c (aa 0 (List.length a) a))),(AB (cX b c (aa 0 (List.length a) a))),(AC (cX b c (aa 0 (List.length a) a))),(AD (cX b c (aa 0 (List.length a) a)))))
def HC(b:Int)(c:Int)(d:Lv)(a:List Nat)(e:Nat)(f:Bool)(g:List Int)(h:Nat)(i:Nat)(j:Int)(f8:Nat)(k:Bool)(l:List Int)(m:Nat)(n:Nat)(o:Int)(p:Bool) :aL:=⟨ah 72 [(1,.ptr 0 1 0 0),(3,.ptr 1 1 0 0),(4,.int .i64 ((e:Nat):Int)),(5,.ptr 2 1 0 0),(6,.int .i64 ((f8:Nat):Int)),(24,.bool false p)],[(0,.vs [.int .i64 b,.int .i64 c,.imm d (.fl a) 1 1 0 (List.length a)]),(1,.vs [.bool false f,.imm .free (.ns .u64 g) 1 1 h i,.int .i64 j]),(2,.vs [.bool false k,.imm .free (.ns .u64 l) 1 1 m n,.int .i64 o])],3⟩
def qI(b:Int)(c:Int)(a:List Nat) :T ((Bool)⊕(cS)) :=
  .need (aQ 0 (List.length a) a)<|.need (AL (rL b c (aa 0 (List.length a) a)))<|.leaf (.inl (!(AM (rL b c (aa 0 (List.length a) a)))))
def HD(b:Int)(c:Int)(d:Lv)(a:List Nat)(e:Nat)(f:Bool)(g:List Int)(h:Nat)(i:Nat)(j:Int)(f8:Nat)(k:Bool)(l:List Int)(m:Nat)(n:Nat)(o:Int)(_:Unit) :aL:=⟨ah 72 [(1,.ptr 0 1 0 0),(3,.ptr 1 1 0 0),(4,.int .i64 ((e:Nat):Int)),(5,.ptr 2 1 0 0),(6,.int .i64 ((f8:Nat):Int))],[(0,.vs [.int .i64 b,.int .i64 c,.imm d (.fl a) 1 1 0 (List.length a)]),(1,.vs [.bool false f,.imm .free (.ns .u64 g) 1 1 h i,.int .i64 j]),(2,.vs [.bool false k,.imm .free (.ns .u64 l) 1 1 m n,.int .i64 o])],3⟩
def qJ(a:Nat)(f8:Nat)(b:Bool) :T ((Unit)⊕(cS)) :=
  .ask b
    (.ask (((a:Nat):Int) == (2:Int))
      (.ask (((f8:Nat):Int) == (2:Int))
        (.need (g8 (de))<|.leaf (.inr (.r0 (gj (de)))))
        (.leaf (.inr (.r0 false))))
      (.leaf (.inr (.r0 false))))
    (.leaf (.inl ()))
def HE(b:Int)(c:Int)(d:Lv)(a:List Nat)(e:Nat)(f:Bool)(g:List Int)(h:Nat)(i:Nat)(j:Int)(f8:Nat)(k:Bool)(l:List Int)(m:Nat)(n:Nat)(o:Int)(p:Bool) :aL:=⟨ah 72 [(1,.ptr 0 1 0 0),(3,.ptr 1 1 0 0),(4,.int .i64 ((e:Nat):Int)),(5,.ptr 2 1 0 0),(6,.int .i64 ((f8:Nat):Int)),(36,.bool false p)],[(0,.vs [.int .i64 b,.int .i64 c,.imm d (.fl a) 1 1 0 (List.length a)]),(1,.vs [.bool false f,.imm .free (.ns .u64 g) 1 1 h i,.int .i64 j]),(2,.vs [.bool false k,.imm .free (.ns .u64 l) 1 1 m n,.int .i64 o])],3⟩
def kt(b:Int)(c:Int)(a:List Nat) :T ((Bool)⊕(cS)) :=
  .need (aQ 0 (List.length a) a)<|.need (AT (tJ b c (aa 0 (List.length a) a)))<|.leaf (.inl ((((B5 (tJ b c (aa 0 (List.length a) a))):Nat):Int) != (0:Int)))
def HF(b:Int)(c:Int)(d:Lv)(a:List Nat)(e:Nat)(f:Bool)(g:List Int)(h:Nat)(i:Nat)(j:Int)(f8:Nat)(k:Bool)(l:List Int)(m:Nat)(n:Nat)(o:Int)(_:Unit) :aL:=⟨ah 72 [(1,.ptr 0 1 0 0),(3,.ptr 1 1 0 0),(4,.int .i64 ((e:Nat):Int)),(5,.ptr 2 1 0 0),(6,.int .i64 ((f8:Nat):Int))],[(0,.vs [.int .i64 b,.int .i64 c,.imm d (.fl a) 1 1 0 (List.length a)]),(1,.vs [.bool false f,.imm .free (.ns .u64 g) 1 1 h i,.int .i64 j]),(2,.vs [.bool false k,.imm .free (.ns .u64 l) 1 1 m n,.int .i64 o])],3⟩
def qK(a:Nat)(f8:Nat)(b:Bool) :T ((Unit)⊕(cS)) :=
  .ask b
    (.ask (((a:Nat):Int) == (10:Int))
      (.ask (((f8:Nat):Int) == (10:Int))
        (.need (g8 (de))<|.leaf (.inr (.r0 (gj (de)))))
        (.leaf (.inr (.r0 false))))
      (.leaf (.inr (.r0 false))))
    (.leaf (.inl ()))
def HG(b:Int)(c:Int)(d:Lv)(a:List Nat)(e:Nat)(f:Bool)(g:List Int)(h:Nat)(i:Nat)(j:Int)(f8:Nat)(k:Bool)(l:List Int)(m:Nat)(n:Nat)(o:Int)(_:Unit) :aL:=⟨ah 72 [(1,.ptr 0 1 0 0),(3,.ptr 1 1 0 0),(4,.int .i64 ((e:Nat):Int)),(5,.ptr 2 1 0 0),(6,.int .i64 ((f8:Nat):Int))],[(0,.vs [.int .i64 b,.int .i64 c,.imm d (.fl a) 1 1 0 (List.length a)]),(1,.vs [.bool false f,.imm .free (.ns .u64 g) 1 1 h i,.int .i64 j]),(2,.vs [.bool false k,.imm .free (.ns .u64 l) 1 1 m n,.int .i64 o])],3⟩
def qL(a:Int) :T ((Unit)⊕(cS)) :=
  .ask (decide (a > (36:Int)))
    (.need (g8 (de))<|.leaf (.inr (.r0 (gj (de)))))
    (.leaf (.inl ()))
def EU(a:Bool) :aL:=⟨ah 72 [(2,.bool false a)],[],0⟩
def qM(b:Int)(c:Int)(a:List Nat)(n:Nat)(j:Bool)(d:List Int)(e:Nat)(f:Nat)(k:Int)(f8:Nat)(l:Bool)(g:List Int)(h:Nat)(i:Nat)(m:Int) :T ((Bool)⊕(cS)) :=
  .ask (((n:Nat):Int) == (0:Int))
    (.ask (((f8:Nat):Int) == (0:Int))
      (.need (aQ 0 (List.length a) a)<|.need (xB (ew (aa 0 (List.length a) a)))<|.need (aQ e f d)<|.need (aQ 0 (o6 (ew (aa 0 (List.length a) a))) (o5 (ew (aa 0 (List.length a) a))))<|.need (nV (gD j (aa e f d) k (sY (ew (aa 0 (List.length a) a))) (aa 0 (o6 (ew (aa 0 (List.length a) a))) (o5 (ew (aa 0 (List.length a) a)))) (sZ (ew (aa 0 (List.length a) a)))))<|.ask (mr (gD j (aa e f d) k (sY (ew (aa 0 (List.length a) a))) (aa 0 (o6 (ew (aa 0 (List.length a) a))) (o5 (ew (aa 0 (List.length a) a)))) (sZ (ew (aa 0 (List.length a) a)))))
        (.need (aQ 0 (List.length a) a)<|.need (xE (ez b c (aa 0 (List.length a) a)))<|.need (aQ h i g)<|.need (aQ 0 (o8 (ez b c (aa 0 (List.length a) a))) (o7 (ez b c (aa 0 (List.length a) a))))<|.need (nV (gD l (aa h i g) m (s4 (ez b c (aa 0 (List.length a) a))) (aa 0 (o8 (ez b c (aa 0 (List.length a) a))) (o7 (ez b c (aa 0 (List.length a) a)))) (s5 (ez b c (aa 0 (List.length a) a)))))<|.ask (mr (gD l (aa h i g) m (s4 (ez b c (aa 0 (List.length a) a))) (aa 0 (o8 (ez b c (aa 0 (List.length a) a))) (o7 (ez b c (aa 0 (List.length a) a)))) (s5 (ez b c (aa 0 (List.length a) a)))))
          (.need (g8 (de))<|.leaf (.inl (gj (de))))
          (.leaf (.inl false)))
        (.leaf (.inl false)))
      (.leaf (.inl false)))
    (.leaf (.inl false))
def EV(a:Bool) :T ((Empty)⊕(cS)) :=
  .leaf (.inr (.r0 a))
def Ix(c:Int)(a:Int)(b:List Nat) :Option cS:=ld (aC ((ET b).run) fun e =>
  aC ((wq e).run) fun _ =>
  aC ((mw c a b).run) fun (d,f,g,h,i,j) =>
  aC ((gp c a b).run) fun (f8,k,l,m,n,o) =>
  aC ((qI c a b).run) fun p =>
  aC ((qJ d f8 p).run) fun _ =>
  aC ((kt c a b).run) fun q =>
  aC ((qK d f8 q).run) fun _ =>
  aC ((qL a).run) fun _ =>
  aC ((qM c a b d f g h i j f8 k l m n o).run) fun r =>
  (EV r).run)
theorem Vl(d:Int)(c:Int)(e:Lv)(b:List Nat){x:cS}(h:Ix d c b=some x) :aw prog jX [] [.agg [.int .i64 d,.int .i64 c,.imm e (.fl b) 1 1 0 (List.length b)]] (Iw x) :=
  Sg.contract false Iw (by kernel_rfl:prog.funcs[jX]? = some (FN jX)) (by kernel_rfl:(FN jX).body=some (bi jX)) (Sg.cut 2 e7 (Sg.seg (C:=C0) an f5 60 (dO.take 2) (aT (FN jX) [] [.agg [.int .i64 d,.int .i64 c,.imm e (.fl b) 1 1 0 (List.length b)]]) (ET b) (Hy d c e b) d7 [⟨[],[0],[1,10]⟩,⟨[],[0],[1,10]⟩] (by kernel_rfl)) (fun r=>by exact Sg.cut 1 e7 (Sg.seg (C:=C0) an f5 60 ((dO.drop 2).take 1) (Hy d c e b r) (wq r) (Hz d c e b) d7 [⟨[],[],[2]⟩,⟨[],[0],[1]⟩] (by kernel_rfl)) (fun a=>by cases a;exact Sg.cut 1 e7 (Sg.seg (C:=C0) an f5 60 (((dO.drop 2).drop 1).take 1) (Hz d c e b ()) (mw d c b) (HA d c e b) d7 [⟨[],[0,81],[1,3,4]⟩] (by kernel_rfl)) (fun a=>by obtain ⟨f,g,i,j,k,l⟩:=a;exact Sg.cut 1 e7 (Sg.seg (C:=C0) an f5 60 ((((dO.drop 2).drop 1).drop 1).take 1) (HA d c e b (f,g,i,j,k,l)) (gp d c b) (HB d c e b f g i j k l) d7 [⟨[],[0,1,82],[1,3,4,5,6]⟩] (by kernel_rfl)) (fun a=>by obtain ⟨f8,m,n,o,p,q⟩:=a;exact Sg.cut 1 e7 (Sg.seg (C:=C0) an f5 60 (((((dO.drop 2).drop 1).drop 1).drop 1).take 1) (HB d c e b f g i j k l (f8,m,n,o,p,q)) (qI d c b) (HC d c e b f g i j k l f8 m n o p q) d7 [⟨[],[0,1,2],[1,3,4,5,6,24]⟩] (by kernel_rfl)) (fun s=>by exact Sg.cut 1 e7 (Sg.seg (C:=C0) an f5 60 ((((((dO.drop 2).drop 1).drop 1).drop 1).drop 1).take 1) (HC d c e b f g i j k l f8 m n o p q s) (qJ f f8 s) (HD d c e b f g i j k l f8 m n o p q) d7 [⟨[],[],[2]⟩,⟨[],[],[2]⟩,⟨[],[],[2]⟩,⟨[],[0,1,2],[1,3,4,5,6]⟩] (by kernel_rfl)) (fun a=>by cases a;exact Sg.cut 1 e7 (Sg.seg (C:=C0) an f5 60 (((((((dO.drop 2).drop 1).drop 1).drop 1).drop 1).drop 1).take 1) (HD d c e b f g i j k l f8 m n o p q ()) (kt d c b) (HE d c e b f g i j k l f8 m n o p q) d7 [⟨[],[0,1,2],[1,3,4,5,6,36]⟩] (by kernel_rfl)) (fun t=>by exact Sg.cut 1 e7 (Sg.seg (C:=C0) an f5 60 ((((((((dO.drop 2).drop 1).drop 1).drop 1).drop 1).drop 1).drop 1).take 1) (HE d c e b f g i j k l f8 m n o p q t) (qK f f8 t) (HF d c e b f g i j k l f8 m n o p q) d7 [⟨[],[],[2]⟩,⟨[],[],[2]⟩,⟨[],[],[2]⟩,⟨[],[0,1,2],[1,3,4,5,6]⟩] (by kernel_rfl)) (fun a=>by cases a;exact Sg.cut 2 e7 (Sg.seg (C:=C0) an f5 60 (((((((((dO.drop 2).drop 1).drop 1).drop 1).drop 1).drop 1).drop 1).drop 1).take 2) (HF d c e b f g i j k l f8 m n o p q ()) (qL c) (HG d c e b f g i j k l f8 m n o p q) d7 [⟨[],[],[2]⟩,⟨[],[0,1,2],[1,3,4,5,6]⟩] (by kernel_rfl)) (fun a=>by cases a;exact Sg.cut 1 e7 (Sg.seg (C:=C0) an f5 60 ((((((((((dO.drop 2).drop 1).drop 1).drop 1).drop 1).drop 1).drop 1).drop 1).drop 2).take 1) (HG d c e b f g i j k l f8 m n o p q ()) (qM d c b f g i j k l f8 m n o p q) EU d7 [⟨[],[],[2]⟩,⟨[],[],[2]⟩,⟨[],[],[2]⟩,⟨[],[],[2]⟩,⟨[],[],[2]⟩] (by kernel_rfl)) (fun u=>by exact Sg.seg (C:=C0) an f5 60 ((((((((((dO.drop 2).drop 1).drop 1).drop 1).drop 1).drop 1).drop 1).drop 1).drop 2).drop 1) (EU u) (EV u) (fun a:Empty=>a.elim) d7 [⟨[],[],[2]⟩] (by kernel_rfl))))))))))))
    (fun x=>by cases x with | r0 v=>exact ⟨.inr rfl,[.bool false v],[],by kernel_rfl,trivial,by kernel_rfl⟩) h
end
end Go.Plb.Seat
namespace Go.Plb.Seat
open Go Go.Plb
set_option linter.unusedVariables false
set_option maxRecDepth 100000
noncomputable section
end
end Go.Plb.Seat
namespace Go.Plb.Seat
open Go Go.Plb
set_option linter.unusedVariables false
set_option maxRecDepth 100000
noncomputable section
end
end Go.Plb.Seat
namespace Go.Plb.Seat
open Go Go.Plb
set_option linter.unusedVariables false
set_option maxRecDepth 100000
noncomputable section
end
end Go.Plb.Seat
namespace Go.Plb.Seat
open Go Go.Plb
set_option linter.unusedVariables false
set_option maxRecDepth 100000
noncomputable section
end
end Go.Plb.Seat
namespace Go.Plb.Seat
open Go Go.Plb
set_option linter.unusedVariables false
set_option maxRecDepth 100000
noncomputable section
end
end Go.Plb.Seat
namespace Go.Plb.Seat
open Go Go.Plb
set_option linter.unusedSimpArgs false
set_option linter.unusedVariables false
theorem yP(s:Bool){v n:Nat}(hv:v < W ^ n)(hn:n≤1000000)(hl:nl v≤4096){e:Int}(he : -1000000≤e∧e≤1000000) :
    ∃ N,aE s (aA v n) e=some (.r0 (nS (sg s v)) (aA (nM (sg s v)) N) 0 (nl (nM (sg s v))) (nE (sg s v) e))∧nl (nM (sg s v))≤N∧N≤4096:=by
  have t5:(Fb (aA v n)).run=some (.inl (aA v (nl v),nl v,false)):=by
    unfold Fb
    rw [aF,ajM hv (by omega),if_neg (by omega)]
    exact bf (ao rfl)
  by_cases h0:v=0
  · have z:sg s v=0:=Cj.2 h0
    rw [z,gJ,adl]
    rw [lE,f7]
    refine ⟨0,aZ (ae t5 (bH ?_)),Nat.le_refl _,Nat.zero_le _⟩
    rw [h0,f7]
    exact bN rfl
  · have z:sg s v ≠ 0:=fun q=>h0 (Cj.1 q)
    have hp:=DY h0
    have ht:=ani (v:=v)
    obtain ⟨b,N,h1,h2,h3⟩:=atd (k:=tz v) (cU v) (by omega) hl (by omega)
    have eM:nM (sg s v)=v / 2 ^ tz v:=by unfold nM;rw [NT]
    have eE:nE (sg s v) e=e+((tz v:Nat):Int):=by rw [lM z,NT]
    rw [aul h0,eM,eE]
    refine ⟨N,aZ (ae t5 (ae (a:=((tz v:Nat):Int)) ?_ (ae (a:=(aA (v / 2 ^ tz v) N,0,nl (v / 2 ^ tz v))) ?_ ?_))),h2,h3⟩
    · show (Fc _ _).run=_
      unfold Fc
      rw [bR ax,apW (cU v) h0 hl (by omega)]
      exact dl (dT (ao rfl))
    · show (Fd _ _ _).run=_
      unfold Fd
      rw [bR ax,h1]
      exact dT (ao rfl)
    · exact cT (by rw [cV];omega) rfl
theorem an8{v n:Nat}(hv:v < W ^ n)(hn:n≤1000000)(hl:nl v≤4096){e:Int}(he : -262144≤e∧e≤262144) :eV (aA v n) e=some (.r0 true):=by
  refine aZ (ae (a:=0) ?_ (ae (a:=true) ?_ rfl))
  · unfold Oy
    rw [aF,ajM hv (by omega),if_neg (by omega)]
    exact bf (ao rfl)
  · refine bN (cK ?_)
    show some (Sum.inl (decide (e≤262144)))=_
    rw [decide_eq_true he.2]
theorem MF{z e:Int}{s:Bool}(hs:z ≠ 0→s=nS z)(h:Sm z e) :∃ N,aE s (aA (nM z) (nl (nM z))) (nE z e)=some (.r0 (nS z) (aA (nM z) N) 0 (nl (nM z)) (nE z e))∧nl (nM z)≤N∧N≤4096:=by
  have hm:=h.m
  have hb:=h.b
  obtain ⟨N,h1,h2,h3⟩:=yP s (cU (nM z)) (by omega) (by omega:nl (nM z)≤4096) (e:=nE z e) (by omega)
  obtain ⟨a,b,c⟩:=aeg (e:=e) hs
  rw [a,b,c] at h1
  rw [b] at h2
  exact ⟨N,h1,h2,h3⟩
theorem Vm{z e:Int}(h:Sm z e) :eV (aA (nM z) (nl (nM z))) (nE z e)=some (.r0 true):=by
  have hm:=h.m
  have hb:=h.b
  exact an8 (cU (nM z)) (by omega) (by omega) (by omega)
theorem Vn(s:Bool){v n:Nat}(hv:v < W ^ n)(hn:n≤1000000)(hl:nl v≤1000){e:Int}(he : -150000≤e∧e≤150000) :
    ∃ N,cq s (aA v n) e=some (.r0 0 (nS (sg s v)) (aA (nM (sg s v)) N) 0 (nl (nM (sg s v))) (nE (sg s v) e))∧nl (nM (sg s v))≤N∧N≤4096:=by
  obtain ⟨N,h1,h2,h3⟩:=yP s hv hn (by omega) (e:=e) (by omega)
  have ht:=ani (v:=v)
  have hE' : -262144≤nE (sg s v) e∧nE (sg s v) e≤262144:=by
    unfold nE;rw [NT];split <;> omega
  obtain ⟨hE',hE⟩:=hE'
  refine ⟨N,aZ (ae (a:=(nS (sg s v),aA (nM (sg s v)) N,0,nl (nM (sg s v)),nE (sg s v) e,false)) ?_ (ae (a:=false) ?_ rfl)),h2,h3⟩
  · unfold LE
    rw [aF,h1]
    exact bf (ao rfl)
  · show (Ff _ _ _ _).run=_
    unfold Ff
    rw [ck h2,an8 (cU _) (by omega) (by omega) ⟨hE',hE⟩]
    exact cT (bp h2) (ao rfl)
theorem Dp{z:Int}{m:Nat}(h:m≤tz z.natAbs) :nM z * 2 ^ (tz z.natAbs - m)=z.natAbs / 2 ^ m∧z.natAbs / 2 ^ m * 2 ^ m=z.natAbs:=by
  have b:=aqJ z
  have e:tz z.natAbs=(tz z.natAbs - m)+m:=by omega
  have d:z.natAbs / 2 ^ m * 2 ^ m=z.natAbs:=by
    refine Nat.div_mul_cancel ⟨nM z * 2 ^ (tz z.natAbs - m),?_⟩
    rw [e,Nat.pow_add,← Nat.mul_assoc] at b
    rw [Nat.mul_comm (2 ^ m)];exact b.symm
  refine ⟨?_,d⟩
  rw [e,Nat.pow_add,← Nat.mul_assoc] at b
  exact (Nat.div_eq_of_eq_mul_left (mW m) b.symm).symm
theorem Q7{z e:Int}{m:Nat}(h:Sm z e)(h0:z ≠ 0)(hm:m≤tz z.natAbs){k:Int}(hk:k=((tz z.natAbs - m:Nat):Int)) :
    iQ (aA (nM z) (nl (nM z))) k=some (.r0 (aA (z.natAbs / 2 ^ m) (nl (z.natAbs / 2 ^ m))) (nl (z.natAbs / 2 ^ m)) 0):=by
  obtain ⟨e1,e2⟩:=Dp hm
  have ht:=h.t
  have hM:=h.m
  have hN:nl (z.natAbs / 2 ^ m)≤300:=Nat.le_trans (tO (Nat.div_le_self _ _)) h.l
  rw [hk,atb (cU _) (Rw h0) (by omega) (by omega) (by omega) (by rw [e1];omega),e1]
theorem aqP{a b:Int}(h:a≤b) :ws a b=a:=by unfold ws;rw [if_neg (by omega)]
theorem ame{a b:Int}(h:b≤a) :ws a b=b:=by
  unfold ws
  by_cases q:b < a
  · rw [if_pos q]
  · rw [if_neg q];omega
theorem amf{a b:Int}(h:a≤b) :oF a b=b:=by
  unfold oF
  by_cases q:b > a
  · rw [if_pos q]
  · rw [if_neg q];omega
theorem aqQ{a b:Int}(h:b≤a) :oF a b=a:=by unfold oF;rw [if_neg (by omega)]
structure Lvl (x y e:Int) (m:Nat) (ep:Int):Prop where
  x2:x.natAbs / 2 ^ m * 2 ^ m=x.natAbs
  y2:y.natAbs / 2 ^ m * 2 ^ m=y.natAbs
  at':(x=0∧y=0∧ep=0)∨ep=e+m
  b : -50000≤ep∧ep≤94800
theorem Lvl.sum{x y e ep:Int}{m:Nat}(h:Lvl x y e m ep){z z':Int}(hz:z=z' * ((2 ^ m:Nat):Int))(h0:x=0→y=0→z'=0) :nS z=nS z'∧nM z=nM z'∧nE z e=nE z' ep:=by
  obtain ⟨a,b,c⟩:=J8 hz e
  refine ⟨a,b,?_⟩
  rcases h.at' with ⟨h1,h2,h3⟩ | h1
  · have:=h0 h1 h2
    subst this
    rw [Int.zero_mul] at hz
    rw [hz,gJ,gJ]
  · rw [c,h1]
theorem agK{x y e:Int}(hx:Sm x e)(hy:Sm y e) :∃ m ep,cP (aA (nM x) (nl (nM x))) (nE x e) (aA (nM y) (nl (nM y))) (nE y e) =
    some (.r0 0 ep (aA (x.natAbs / 2 ^ m) (nl (x.natAbs / 2 ^ m))) (nl (x.natAbs / 2 ^ m)) (aA (y.natAbs / 2 ^ m) (nl (y.natAbs / 2 ^ m))) (nl (y.natAbs / 2 ^ m)))∧Lvl x y e m ep:=by
  have hxt:=hx.t
  have hyt:=hy.t
  obtain ⟨_,e1,e2⟩:=hx
  have zn:∀ m,((0:Int).natAbs / 2 ^ m)=0:=fun m=>by rw [Int.natAbs_zero,Nat.zero_div]
  by_cases h1:x=0
  · subst h1
    have l0:nl (nM 0)=0:=by rw [lE,f7]
    by_cases h2:y=0
    · subst h2
      refine ⟨0,0,aZ (ae (a:=0) ?_ (ae (a:=([],0,[],0)) ?_ ?_)),⟨by simp,by simp,.inl ⟨rfl,rfl,rfl⟩,by omega⟩⟩
      · unfold te;rw [ax,l0,gJ];exact bN rfl
      · unfold lG;rw [ax,l0];exact bN (bN rfl)
      · rw [zn,f7];rfl
    · have ly:nl (nM y) ≠ 0:=fun q=>Rw h2 (mg.1 q)
      obtain ⟨_,d⟩:=Dp (z:=y) (Nat.le_refl _)
      refine ⟨tz y.natAbs,nE y e,aZ (ae (a:=nE y e) ?_ (ae (a:=([],0,aA (y.natAbs / 2 ^ tz y.natAbs) (nl (y.natAbs / 2 ^ tz y.natAbs)),nl (y.natAbs / 2 ^ tz y.natAbs))) ?_ ?_)),⟨by simp,d,.inr (lM h2),by rw [lM h2];omega⟩⟩
      · unfold te;rw [ax,l0];exact bN rfl
      · show (lG _ _ _ _ _).run=_
        unfold lG
        rw [ax,ax,l0,bR ax,Q7 hy h2 (Nat.le_refl _) (k:=nE y e - nE y e) (by omega)]
        exact bN (dl (cT (by rw [cV];omega) (dT (ao rfl))))
      · rw [zn,f7];rfl
  · have lx:nl (nM x) ≠ 0:=fun q=>Rw h1 (mg.1 q)
    by_cases h2:y=0
    · subst h2
      have l0:nl (nM 0)=0:=by rw [lE,f7]
      obtain ⟨_,d⟩:=Dp (z:=x) (Nat.le_refl _)
      have hx:Sm x e:=⟨by assumption,e1,e2⟩
      refine ⟨tz x.natAbs,nE x e,aZ (ae (a:=nE x e) ?_ (ae (a:=(aA (x.natAbs / 2 ^ tz x.natAbs) (nl (x.natAbs / 2 ^ tz x.natAbs)),nl (x.natAbs / 2 ^ tz x.natAbs),[],0)) ?_ ?_)),⟨d,by simp,.inr (lM h1),by rw [lM h1];omega⟩⟩
      · unfold te;rw [ax,ax,l0];exact dl (bN rfl)
      · show (lG _ _ _ _ _).run=_
        unfold lG
        rw [ax,ax,l0,bR (l:=aA (nM x) (nl (nM x))) ax,Q7 hx h1 (Nat.le_refl _) (k:=nE x e - nE x e) (by omega)]
        exact dl (cT (by rw [cV];omega) (dT (ao (bN rfl))))
      · rw [zn,f7];rfl
    · have ly:nl (nM y) ≠ 0:=fun q=>Rw h2 (mg.1 q)
      have hx:Sm x e:=⟨by assumption,e1,e2⟩
      have ex:=lM (e:=e) h1
      have ey:=lM (e:=e) h2
      have emin:ws (nE x e) (nE y e)=e+((min (tz x.natAbs) (tz y.natAbs):Nat):Int):=by
        rw [ex,ey]
        rcases Nat.le_total (tz x.natAbs) (tz y.natAbs) with q | q
        · rw [aqP (by omega),Nat.min_eq_left q]
        · rw [ame (by omega),Nat.min_eq_right q]
      have emax:oF (nE x e) (nE y e)=e+((max (tz x.natAbs) (tz y.natAbs):Nat):Int):=by
        rw [ex,ey]
        rcases Nat.le_total (tz x.natAbs) (tz y.natAbs) with q | q
        · rw [amf (by omega),Nat.max_eq_right q]
        · rw [aqQ (by omega),Nat.max_eq_left q]
      have mx:min (tz x.natAbs) (tz y.natAbs)≤tz x.natAbs:=Nat.min_le_left _ _
      have my:min (tz x.natAbs) (tz y.natAbs)≤tz y.natAbs:=Nat.min_le_right _ _
      have gx:max (tz x.natAbs) (tz y.natAbs)≤44800:=by omega
      have gl:min (tz x.natAbs) (tz y.natAbs)≤max (tz x.natAbs) (tz y.natAbs):=by omega
      revert emin emax mx my gx gl
      generalize min (tz x.natAbs) (tz y.natAbs)=m
      generalize max (tz x.natAbs) (tz y.natAbs)=g
      intro emin emax mx my gx gl
      obtain ⟨_,dx⟩:=Dp mx
      obtain ⟨_,dy⟩:=Dp my
      refine ⟨m,e+m,aZ (ae (a:=e+(m:Int)) ?_ (ae (a:=(aA (x.natAbs / 2 ^ m) (nl (x.natAbs / 2 ^ m)),nl (x.natAbs / 2 ^ m),aA (y.natAbs / 2 ^ m) (nl (y.natAbs / 2 ^ m)),nl (y.natAbs / 2 ^ m))) ?_ rfl)),⟨dx,dy,.inr rfl,by omega⟩⟩
      · unfold te
        rw [ax,ax,emin,emax]
        exact dl (dl (cT (by rw [cV];omega) (e9 (by rw [decide_eq_false_iff_not];omega) rfl)))
      · show (lG _ _ _ _ _).run=_
        unfold lG
        rw [ax,ax,bR (l:=aA (nM x) (nl (nM x))) ax,bR (l:=aA (nM y) (nl (nM y))) ax,Q7 hx h1 mx (k:=nE x e - (e+(m:Int))) (by omega),Q7 hy h2 my (k:=nE y e - (e+(m:Int))) (by omega)]
        exact dl (cT (by rw [cV];omega) (dT (ao (dl (cT (by rw [cV];omega) (dT (ao rfl)))))))
end Go.Plb.Seat
namespace Go.Plb.Seat
open Go Go.Plb
set_option linter.unusedSimpArgs false
set_option linter.unusedVariables false
theorem Z1(s:Bool){v n:Nat}(hv:v < W ^ n)(hn:n≤1000000)(hl:nl v≤1000){e:Int}(he : -150000≤e∧e≤150000) :
    ∃ N,cj s (aA v n) 0 e=some (.r0 0 (nS (sg s v)) (aA (nM (sg s v)) N) 0 (nl (nM (sg s v))) (nE (sg s v) e))∧nl (nM (sg s v))≤N∧N≤4096:=by
  obtain ⟨N,h1,h2,h3⟩:=Vn s hv hn hl he
  refine ⟨N,aZ (ae (a:=(0,nS (sg s v),aA (nM (sg s v)) N,0,nl (nM (sg s v)),nE (sg s v) e)) ?_ rfl),h2,h3⟩
  unfold IV
  rw [aF,h1]
  exact bj (bf (ao rfl))
theorem ajO{x y e:Int}{s t:Bool}(hs:x ≠ 0→s=nS x)(ht:y ≠ 0→t=nS y)(hx:Sm x e)(hy:Sm y e) :
    ∃ N,cA s (aA (nM x) (nl (nM x))) (nE x e) t (aA (nM y) (nl (nM y))) (nE y e)=some (.r0 0 (nS (x+y)) (aA (nM (x+y)) N) 0 (nl (nM (x+y))) (nE (x+y) e))∧nl (nM (x+y))≤N∧N≤4096:=by
  obtain ⟨Nx,x1,x2,x3⟩:=MF hs hx
  obtain ⟨Ny,y1,y2,y3⟩:=MF ht hy
  obtain ⟨m,ep,l1,l2⟩:=agK hx hy
  have xl:=hx.l
  have yl:=hy.l
  have hX:nl (x.natAbs / 2 ^ m)≤300:=Nat.le_trans (tO (Nat.div_le_self _ _)) xl
  have hY:nl (y.natAbs / 2 ^ m)≤300:=Nat.le_trans (tO (Nat.div_le_self _ _)) yl
  have ox:=aqK l2.x2
  have oy:=aqK l2.y2
  have z0:∀ {z:Int},z=0→z.natAbs / 2 ^ m=0:=fun h=>by rw [h,Int.natAbs_zero,Nat.zero_div]
  have zx:x=0→x.natAbs / 2 ^ m=0:=z0
  have zy:y=0→y.natAbs / 2 ^ m=0:=z0
  have hb:=l2.b
  have t9:(Ie s (aA (nM x) (nl (nM x))) (nE x e) t (aA (nM y) (nl (nM y))) (nE y e)).run=some (.inl (0,nS x,aA (nM x) Nx,0,nl (nM x),nE x e,nS y,aA (nM y) Ny,0,nl (nM y),nE y e,false)):=by
    unfold Ie
    rw [aF,aF,Vm hx,Vm hy,x1,y1]
    exact bN (ao (bf (ao (bj (bf (ao (ao (bN (ao (bf (ao (bj (bf (ao (ao (bj rfl))))))))))))))))
  have t10:(Fg 0 (aA (nM x) Nx) 0 (nl (nM x)) (nE x e) (aA (nM y) Ny) 0 (nl (nM y)) (nE y e)).run=some (.inl (0,ep,aA (x.natAbs / 2 ^ m) (nl (x.natAbs / 2 ^ m)),nl (x.natAbs / 2 ^ m),aA (y.natAbs / 2 ^ m) (nl (y.natAbs / 2 ^ m)),nl (y.natAbs / 2 ^ m))):=by
    unfold Fg
    rw [ck x2,ck y2,l1]
    exact bj (cT (bp x2) (cT (bp y2) (ao rfl)))
  clear l1 x1 y1
  have sum:=fun {z z':Int} (a:z=z' * ((2 ^ m:Nat):Int)) (b:x=0→y=0→z'=0)=>l2.sum a b
  revert t10 hX hY ox oy zx zy
  generalize x.natAbs / 2 ^ m=X
  generalize y.natAbs / 2 ^ m=Y
  intro hX hY ox oy zx zy t10
  have hXY:=akC hX hY
  by_cases hsg:nS x=nS y
  · have hz:x+y=sg (nS x) (X+Y) * ((2 ^ m:Nat):Int):=by
      rw [← asX,Int.add_mul,← ox]
      rw [hsg,← oy]
    obtain ⟨a,b,c⟩:=sum hz (fun p q=>by rw [zx p,zy q];cases nS x <;> rfl)
    obtain ⟨N,h1,h2,h3⟩:=Z1 (nS x) (v:=X+Y) (cU _) (by omega) (by omega) (e:=ep) (by omega)
    rw [a,b,c]
    refine ⟨N,aZ (ae t9 (ae t10 (bH ?_))),h2,h3⟩
    show (vC _ _ _ _ _ _ _ _).run=_
    unfold vC
    have hc:nl (X+Y)≤max (nl X) (nl Y)+1:=akC (Nat.le_max_left _ _) (Nat.le_max_right _ _)
    rw [bR ax,bR ax,as6 (cU X) (cU Y) (by omega) (by omega) (by omega) (by omega) (by omega)]
    simp only [Gi,j0,j1,lF,j2]
    rw [ck hc,show (((0:Nat):Int))=0 from rfl,h1]
    exact bj (rz (by rw [hsg];cases nS y <;> rfl) (dT (dT (ao (cT (bp hc) (dT (dT (ao rfl))))))))
  · have hn:nS y = !(nS x):=by revert hsg;cases nS x <;> cases nS y <;> simp
    have t11:(vC (nS x) (nS y) 0 ep (aA X (nl X)) (nl X) (aA Y (nl Y)) (nl Y)).run=some (.inl ()):=by
      unfold vC
      exact bj (e9 (by rw [hn];cases nS x <;> rfl) rfl)
    have t12:(Fh (aA X (nl X)) (nl X) (aA Y (nl Y)) (nl Y)).run=some (.inl (sB X Y)):=by
      unfold Fh
      rw [bR ax,bR ax,anZ (cU X) (cU Y) (by omega) (by omega) (by omega) (by omega)]
      exact dT (dT (ao rfl))
    have hxy:x+y=(sg (nS x) X - sg (nS x) Y) * ((2 ^ m:Nat):Int):=by
      rw [Int.sub_mul,← ox]
      have:y = -(sg (nS x) Y) * ((2 ^ m:Nat):Int):=by rw [← Zf,← hn];exact oy
      rw [Int.neg_mul] at this
      omega
    by_cases hlt:X < Y
    · have hz:x+y=sg (nS y) (Y - X) * ((2 ^ m:Nat):Int):=by
        rw [hxy,← akD (Nat.le_of_lt hlt),hn,Zf,Zf];congr 1;omega
      obtain ⟨a,b,c⟩:=sum hz (fun p q=>by rw [zx p,zy q];cases nS y <;> rfl)
      have hd:nl (Y - X)≤nl Y:=tO (Nat.sub_le _ _)
      obtain ⟨N,h1,h2,h3⟩:=Z1 (nS y) (v:=Y - X) (cU _) (by omega) (by omega) (e:=ep) (by omega)
      rw [a,b,c]
      refine ⟨N,aZ (ae t9 (ae t10 (ae t11 (ae t12 (bH ?_))))),h2,h3⟩
      show (Fi _ _ _ _ _ _ _).run=_
      unfold Fi
      have hc:sB X Y = -1:=if_pos hlt
      rw [hc,bR ax,bR ax,anY (cU Y) (cU X) (by omega) (by omega) (by omega) (by omega) (Nat.le_of_lt hlt)]
      simp only [Bw,jg,jh,ji,j3]
      rw [ck hd,show (((0:Nat):Int))=0 from rfl,h1]
      exact bN (dT (dT (ao (cT (bp hd) (dT (dT (ao rfl)))))))
    · have hz:x+y=sg (nS x) (X - Y) * ((2 ^ m:Nat):Int):=by
        rw [hxy,← akD (by omega)]
      obtain ⟨a,b,c⟩:=sum hz (fun p q=>by rw [zx p,zy q];cases nS x <;> rfl)
      have hd:nl (X - Y)≤nl X:=tO (Nat.sub_le _ _)
      obtain ⟨N,h1,h2,h3⟩:=Z1 (nS x) (v:=X - Y) (cU _) (by omega) (by omega) (e:=ep) (by omega)
      rw [a,b,c]
      have hc:decide (sB X Y < 0)=false:=by
        rw [decide_eq_false_iff_not];unfold sB;rw [if_neg hlt];split <;> omega
      refine ⟨N,aZ (ae t9 (ae t10 (ae t11 (ae t12 (ae (a:=()) (e9 hc rfl) (ae (a:=(0,aA (X - Y) (nl X),0,nl (X - Y))) ?_ (ae (a:=(0,nS (sg (nS x) (X - Y)),aA (nM (sg (nS x) (X - Y))) N,0,nl (nM (sg (nS x) (X - Y))),nE (sg (nS x) (X - Y)) ep)) ?_ rfl))))))),h2,h3⟩
      · show (Fj _ _ _ _).run=_
        unfold Fj
        rw [bR ax,bR ax,anY (cU X) (cU Y) (by omega) (by omega) (by omega) (by omega) (by omega)]
        exact dT (dT (ao rfl))
      · show (Fk _ _ _ _ _ _ _ _ _ _).run=_
        unfold Fk
        rw [ck hd,show (((0:Nat):Int))=0 from rfl,h1]
        exact cT (bp hd) (dT (dT (ao rfl)))
theorem ary{x y e:Int}(hx:Sm x e)(hy:Sm y e) :
    ∃ N,cA (nS x) (aA (nM x) (nl (nM x))) (nE x e) (nS y) (aA (nM y) (nl (nM y))) (nE y e)=some (.r0 0 (nS (x+y)) (aA (nM (x+y)) N) 0 (nl (nM (x+y))) (nE (x+y) e))∧nl (nM (x+y))≤N∧N≤4096 :=
  ajO (fun _=>rfl) (fun _=>rfl) hx hy
theorem ajP{x y e:Int}(hx:Sm x e)(hy:Sm y e) :
    ∃ N,ej (nS x) (aA (nM x) (nl (nM x))) (nE x e) (nS y) (aA (nM y) (nl (nM y))) (nE y e)=some (.r0 0 (nS (x - y)) (aA (nM (x - y)) N) 0 (nl (nM (x - y))) (nE (x - y) e))∧nl (nM (x - y))≤N∧N≤4096:=by
  obtain ⟨N,h1,h2,h3⟩:=ajO (x:=x) (y:=-y) (e:=e) (s:=nS x) (t:=!(nS y)) (fun _=>rfl) (fun h=>by
    unfold nS;rw [← decide_not];congr 1;exact propext (by omega)) hx hy.n
  rw [asV,asW,← Int.sub_eq_add_neg] at h1
  rw [← Int.sub_eq_add_neg] at h2
  refine ⟨N,aZ (ae (a:=(0,nS (x - y),aA (nM (x - y)) N,0,nl (nM (x - y)),nE (x - y) e)) ?_ rfl),h2,h3⟩
  unfold PA
  rw [aF,aF,h1]
  exact bf (bf (ao rfl))
theorem Q8{x y e f:Int}(hx:Sm x e)(hy:Sm y f) :
    ∃ N,ay (nS x) (aA (nM x) (nl (nM x))) (nE x e) (nS y) (aA (nM y) (nl (nM y))) (nE y f)=some (.r0 0 (nS (x * y)) (aA (nM (x * y)) N) 0 (nl (nM (x * y))) (nE (x * y) (e+f)))∧nl (nM (x * y))≤N∧N≤4096:=by
  obtain ⟨Nx,x1,x2,x3⟩:=MF (s:=nS x) (fun _=>rfl) hx
  obtain ⟨Ny,y1,y2,y3⟩:=MF (s:=nS y) (fun _=>rfl) hy
  have xm:=hx.m
  have ym:=hy.m
  have xb:=hx.b
  have yb:=hy.b
  have hm:=ape (a:=nM x) (b:=nM y)
  obtain ⟨N,h1,h2,h3⟩:=Vn (nS x != nS y) (v:=nM x * nM y) (cU _) (by omega) (by omega) (e:=nE x e+nE y f) (by omega)
  have key:nS (x * y)=nS (sg (nS x != nS y) (nM x * nM y))∧nM (x * y)=nM (sg (nS x != nS y) (nM x * nM y))∧nE (x * y) (e+f)=nE (sg (nS x != nS y) (nM x * nM y)) (nE x e+nE y f):=by
    have hz:x * y=sg (nS x != nS y) (nM x * nM y) * ((2 ^ (tz x.natAbs+tz y.natAbs):Nat):Int):=by
      have a:=V1 x
      have b:=V1 y
      rw [← ajh,Nat.pow_add,Int.natCast_mul]
      conv=>lhs;rw [← a,← b]
      simp only [Int.mul_assoc,Int.mul_comm,Int.mul_left_comm]
    obtain ⟨a,b,c⟩:=J8 hz (e+f)
    refine ⟨a,b,?_⟩
    rw [c]
    by_cases p:x=0
    · subst p;rw [lE,Nat.zero_mul]
      have:sg (nS 0 != nS y) 0=0:=Cj.2 rfl
      rw [this,gJ,gJ]
    · by_cases q:y=0
      · subst q;rw [lE,Nat.mul_zero]
        have:sg (nS x != nS 0) 0=0:=Cj.2 rfl
        rw [this,gJ,gJ]
      · rw [lM p,lM q];congr 1;omega
  obtain ⟨a,b,c⟩:=key
  rw [a,b,c]
  refine ⟨N,aZ (ae (a:=(0,nS x,aA (nM x) Nx,0,nl (nM x),nE x e,nS y,aA (nM y) Ny,0,nl (nM y),nE y f,false)) ?_ (ae (a:=(aA (nM x * nM y) (nl (nM x)+nl (nM y)),0,nl (nM x * nM y),0)) ?_ (ae (a:=(0,nS (sg (nS x != nS y) (nM x * nM y)),aA (nM (sg (nS x != nS y) (nM x * nM y))) N,0,nl (nM (sg (nS x != nS y) (nM x * nM y))),nE (sg (nS x != nS y) (nM x * nM y)) (nE x e+nE y f))) ?_ rfl))),h2,h3⟩
  · unfold OB
    rw [aF,aF,Vm hx,Vm hy,x1,y1]
    exact bN (ao (bf (ao (bj (bf (ao (ao (bN (ao (bf (ao (bj (bf (ao (ao (bj rfl))))))))))))))))
  · show (Ig _ _ _ _ _ _ _).run=_
    unfold Ig
    rw [ck x2,ck y2,as8 (cU (nM x)) (cU (nM y)) (by omega) (by omega) (by omega)]
    have e1:nl (nM x)=nl (nM x):=rfl
    exact bj (cT (bp x2) (cT (bp y2) (ao rfl)))
  · show (Ih _ _ _ _ _ _ _ _).run=_
    unfold Ih
    rw [ck hm]
    have h1':cq (!(nS x == nS y)) (aA (nM x * nM y) (nl (nM x * nM y))) (nE x e+nE y f)=_:=h1
    rw [h1']
    exact bj (cT (by rw [cV];omega) (cT (bp hm) (ao rfl)))
end Go.Plb.Seat
namespace Go.Plb.Seat
open Go Go.Plb
set_option linter.unusedSimpArgs false
set_option linter.unusedVariables false
def Uj(z:Int) :Int:=if z < 0 then -1 else if 0 < z then 1 else 0
theorem F1(z:Int) :iM (nS z) (aA (nM z) (nl (nM z)))=some (.r0 (Uj z)):=by
  refine aZ ?_
  unfold LH
  rw [ax]
  unfold Uj nS
  by_cases h0:z=0
  · subst h0;rw [lE,f7];exact bN rfl
  · have:nl (nM z) ≠ 0:=fun q=>Rw h0 (mg.1 q)
    by_cases h:z < 0
    · rw [if_pos h];exact dl (rz (decide_eq_true h) rfl)
    · rw [if_neg h,if_pos (by omega)];exact dl (e9 (decide_eq_false h) rfl)
theorem at4{X Y p:Nat}(hp:0 < p) :sB X Y=sgn ((X:Int) * p) ((Y:Int) * p):=by
  unfold sB sgn
  have h:∀ {a b:Nat},a < b↔(a:Int) * p < (b:Int) * p:=fun {a b}=>by
    rw [← Int.natCast_mul,← Int.natCast_mul,Int.ofNat_lt]
    exact ⟨fun q=>Nat.mul_lt_mul_of_pos_right q hp,fun q=>Nat.lt_of_mul_lt_mul_right q⟩
  simp only [h]
theorem at5{a b:Int} :(0:Int) - sgn a b=sgn (-a) (-b):=by unfold sgn;split <;> split <;> (try split) <;> omega
theorem arz{x y e:Int}(hx:Sm x e)(hy:Sm y e) :
    r9 (nS x) (aA (nM x) (nl (nM x))) (nE x e) (nS y) (aA (nM y) (nl (nM y))) (nE y e)=some (.r0 (sgn x y) 0):=by
  obtain ⟨Nx,x1,x2,x3⟩:=MF (s:=nS x) (fun _=>rfl) hx
  obtain ⟨Ny,y1,y2,y3⟩:=MF (s:=nS y) (fun _=>rfl) hy
  obtain ⟨m,ep,l1,l2⟩:=agK hx hy
  have xl:=hx.l
  have yl:=hy.l
  have hX:nl (x.natAbs / 2 ^ m)≤300:=Nat.le_trans (tO (Nat.div_le_self _ _)) xl
  have hY:nl (y.natAbs / 2 ^ m)≤300:=Nat.le_trans (tO (Nat.div_le_self _ _)) yl
  have hc:sB (x.natAbs / 2 ^ m) (y.natAbs / 2 ^ m)=sgn (x.natAbs:Int) (y.natAbs:Int):=by
    rw [at4 (mW m),← Int.natCast_mul,← Int.natCast_mul,l2.x2,l2.y2]
  have t8:(Ik 0 (aA (x.natAbs / 2 ^ m) (nl (x.natAbs / 2 ^ m))) (nl (x.natAbs / 2 ^ m)) (aA (y.natAbs / 2 ^ m) (nl (y.natAbs / 2 ^ m))) (nl (y.natAbs / 2 ^ m))).run=some (.inl (sgn (x.natAbs:Int) (y.natAbs:Int))):=by
    unfold Ik
    rw [bR ax,bR ax,anZ (cU _) (cU _) (by omega) (by omega) (by omega) (by omega),← hc]
    exact bj (dT (dT (ao rfl)))
  have t7:(Ij 0 (aA (nM x) Nx) 0 (nl (nM x)) (nE x e) (aA (nM y) Ny) 0 (nl (nM y)) (nE y e)).run=some (.inl (0,ep,aA (x.natAbs / 2 ^ m) (nl (x.natAbs / 2 ^ m)),nl (x.natAbs / 2 ^ m),aA (y.natAbs / 2 ^ m) (nl (y.natAbs / 2 ^ m)),nl (y.natAbs / 2 ^ m))):=by
    unfold Ij
    rw [ck x2,ck y2,l1]
    exact bj (cT (bp x2) (cT (bp y2) (ao rfl)))
  refine aZ (ae (a:=(0,nS x,aA (nM x) Nx,0,nl (nM x),nE x e,nS y,aA (nM y) Ny,0,nl (nM y),nE y e)) ?_ (ae t7 (ae t8 ?_)))
  · unfold OD
    rw [aF,aF,Vm hx,Vm hy,x1,y1]
    exact bN (ao (bf (ao (bj (bf (ao (ao (bN (ao (bf (ao (bj (bf (ao (ao (bj rfl))))))))))))))))
  · have h9:∀ n18,ur (nS x) (aA (nM x) Nx) 0 (nl (nM x)) (nS y) (aA (nM y) Ny) 0 (nl (nM y)) n18=ur (nS x) (aA (nM x) Nx) 0 (nl (nM x)) (nS y) (aA (nM y) Ny) 0 (nl (nM y)) n18:=fun _=>rfl
    by_cases hs:Uj x=Uj y
    · by_cases hn:x < 0
      · have e1:nS x=true:=decide_eq_true hn
        have hy0:y < 0:=by unfold Uj at hs;rw [if_pos hn] at hs;revert hs;split <;> (try split) <;> omega
        have ev:(0:Int) - sgn (x.natAbs:Int) (y.natAbs:Int)=sgn x y:=by
          rw [at5];congr 1 <;> omega
        refine bH ?_
        unfold ur
        rw [ck x2,ck y2,F1,F1]
        simp only [lH,gU]
        refine cT (bp x2) (ao (cT (bp y2) (ao (e9 (by rw [hs,bne_self_eq_false]) (rz e1 (cT ?_ ?_))))))
        · rw [ev,cV];unfold sgn;split <;> (try split) <;> omega
        · rw [ev];rfl
      · have e1:nS x=false:=decide_eq_false hn
        have hy0 : ¬ y < 0:=by unfold Uj at hs;rw [if_neg hn] at hs;revert hs;split <;> (try split) <;> (try split) <;> omega
        have ev:sgn (x.natAbs:Int) (y.natAbs:Int)=sgn x y:=by congr 1 <;> omega
        refine ae (a:=()) ?_ (by rw [ev];rfl)
        unfold ur
        rw [ck x2,ck y2,F1,F1]
        simp only [lH,gU]
        exact cT (bp x2) (ao (cT (bp y2) (ao (e9 (by rw [hs,bne_self_eq_false]) (e9 e1 rfl)))))
    · have ev:oF (-1) (ws 1 (Uj x - Uj y))=sgn x y:=by
        unfold oF ws sgn;unfold Uj at hs ⊢
        revert hs
        repeat' split
        all_goals omega
      refine bH ?_
      unfold ur
      rw [ck x2,ck y2,F1,F1]
      simp only [lH,gU]
      rw [ev]
      refine cT (bp x2) (ao (cT (bp y2) (ao (rz (bne_iff_ne.2 hs) (cT (bp x2) (ao (cT (bp y2) (ao (cT ?_ rfl)))))))))
      rw [cV];unfold Uj;split <;> (try split) <;> (try split) <;> (try split) <;> omega
theorem an9{x e k:Int}(hx:Sm x e)(hk : -30000≤k∧k≤30000) :
    ∃ N,fk (nS x) (aA (nM x) (nl (nM x))) (nE x e) k=some (.r0 0 (nS x) (aA (nM x) N) 0 (nl (nM x)) (nE x (e+k)))∧nl (nM x)≤N∧N≤4096:=by
  obtain ⟨Nx,x1,x2,x3⟩:=MF (s:=nS x) (fun _=>rfl) hx
  have xm:=hx.m
  have xb:=hx.b
  have t5:(Cq (nS x) (aA (nM x) (nl (nM x))) (nE x e)).run=some (.inl (0,nS x,aA (nM x) Nx,0,nl (nM x),nE x e,false)):=by
    unfold Cq
    rw [aF,Vm hx,x1]
    exact bN (ao (bf (ao (bj (bf (ao (ao (bj rfl))))))))
  by_cases h0:x=0
  · subst h0
    rw [lE,f7] at t5
    rw [lE,f7,gJ,adl]
    refine ⟨0,aZ (ae (by rw [gJ,adl] at t5;exact t5) (ae (a:=true) (bj rfl) (bH (bN rfl)))),Nat.le_refl _,Nat.zero_le _⟩
  · have hl:nl (nM x) ≠ 0:=fun q=>Rw h0 (mg.1 q)
    have ek:oF (-1048576) (ws 1048576 k)=k:=by rw [ame (by omega),amf (by omega)]
    obtain ⟨N,h1,h2,h3⟩:=Vn (nS x) (v:=nM x) (cU _) (by omega) (by omega) (e:=nE x e+k) (by omega)
    obtain ⟨a,b,c⟩:=aeg (z:=x) (e:=e) (s:=nS x) (fun _=>rfl)
    have c':nE (sg (nS x) (nM x)) (nE x e+k)=nE x (e+k):=by
      have q:sg (nS x) (nM x) ≠ 0:=fun w=>Rw h0 (Cj.1 w)
      rw [lM q,lM h0] at c
      rw [lM q,lM h0,lM h0];omega
    rw [a,b,c'] at h1
    rw [b] at h2
    refine ⟨N,aZ (ae t5 (ae (a:=false) (bj (by show some (Sum.inl _)=_;rw [beq_eq_false_iff_ne.2 (by omega)])) (ae (a:=(0,nS x,aA (nM x) N,0,nl (nM x),nE x (e+k))) ?_ rfl))),h2,h3⟩
    show (Cr _ _ _ _ _ _ _ _).run=_
    unfold Cr
    rw [ck x2,ek,h1]
    exact bj (cT (by rw [cV];omega) (cT (bp x2) (ao rfl)))
theorem QJ{n:Nat}(h:n < 9223372036854775808) :
    ∃ N,bm (n:Int)=some (.r0 (nS (n:Int)) (aA (nM (n:Int)) N) 0 (nl (nM (n:Int))) (nE (n:Int) 0))∧nl (nM (n:Int))≤N∧N≤4096:=by
  have hW:n < W:=Nat.lt_trans h (by decide)
  have hn:nl n≤1:=jR (by rw [Nat.pow_one];exact hW)
  obtain ⟨N,h1,h2,h3⟩:=yP false (v:=n) (cU _) (by omega) (by omega) (e:=0) (by omega)
  have e:sg false n=(n:Int):=rfl
  rw [e] at h1 h2
  refine ⟨N,aZ (ae (a:=((n:Int),false)) ?_ (ae (a:=(nS (n:Int),aA (nM (n:Int)) N,0,nl (nM (n:Int)),nE (n:Int) 0)) ?_ rfl)),h2,h3⟩
  · unfold I0
    rw [kS hW]
    exact e9 (by rw [decide_eq_false_iff_not];omega) rfl
  · show (Ct _ _).run=_
    unfold Ct
    have d:decide ((n:Int) < 0)=false:=by rw [decide_eq_false_iff_not];omega
    rw [aqO hW,d]
    simp only [Br,fg,fh,fi]
    rw [ck hn,h1]
    exact ao (cT (bp hn) (ao rfl))
theorem KG{x:Nat}(hx:x < Zg) :fT .and .u64 (Int.fdiv (x:Int) (2 ^ (min (Int.toNat (52:Int)) IntKind.u64.bits))) 2047=((Vs x:Nat):Int):=by
  have e:(52:Int)=((52:Nat):Int):=by omega
  have e':(2047:Int)=((2047:Nat):Int):=by omega
  rw [e,HV _ (by decide),e',VZ]
  have h1:x / 2 ^ 52 < W:=Nat.lt_of_le_of_lt (Nat.div_le_self _ _) hx
  rw [Nat.mod_eq_of_lt h1,Nat.mod_eq_of_lt (show 2047 < W by decide)]
  congr 1
  exact Nat.and_two_pow_sub_one_eq_mod _ 11
theorem F2{x:Nat}(hx:x < Zg) :fT .and .u64 (x:Int) 4503599627370495=((x % 4503599627370496:Nat):Int):=by
  have e':(4503599627370495:Int)=((4503599627370495:Nat):Int):=by omega
  rw [e',VZ,Nat.mod_eq_of_lt hx,Nat.mod_eq_of_lt (show 4503599627370495 < W by decide)]
  congr 1
  exact Nat.and_two_pow_sub_one_eq_mod _ 52
theorem arA{x:Nat}(hx:x < Zg) :Int.fdiv (x:Int) (2 ^ (min (Int.toNat (63:Int)) IntKind.u64.bits))=((x / 9223372036854775808:Nat):Int):=by
  have e:(63:Int)=((63:Nat):Int):=by omega
  rw [e,HV _ (by decide)]
theorem ate{y:Nat}(h:y < 4503599627370496) :fT .or .u64 (y:Int) 4503599627370496=((y+4503599627370496:Nat):Int):=by
  have e':(4503599627370496:Int)=((4503599627370496:Nat):Int):=by omega
  have hy:y < W:=Nat.lt_trans h (by decide)
  rw [e',akA,Nat.mod_eq_of_lt hy,Nat.mod_eq_of_lt (show 4503599627370496 < W by decide)]
  congr 1
  have:=apb (h:=y) (x:=1) (r:=52) h
  rw [Nat.one_mul] at this
  exact this
def wk(x:Nat) :Nat:=if Vs x ≠ 0 then 3 else if x % 4503599627370496 ≠ 0 then 2 else 1
theorem apY{x:Nat}(hx:x < Zg)(h:A7 x=true) :vD (x:Int)=some (.r0 (wk x)):=by
  have h':Vs x ≠ 2047:=by unfold A7 at h;exact bne_iff_ne.1 h
  unfold wk
  by_cases h1:Vs x=0
  · by_cases h2:x % 4503599627370496=0
    · rw [if_neg (by omega),if_neg (by omega)]
      refine aZ (ae (a:=()) ?_ rfl)
      unfold wI
      rw [KG hx,F2 hx,h1,h2]
      exact ao (bj (bj (bj (bj rfl))))
    · rw [if_neg (by omega),if_pos h2]
      refine aZ (bH ?_)
      unfold wI
      rw [KG hx,F2 hx,h1]
      exact ao (bj (bj (bj (cK rfl))))
  · rw [if_pos h1]
    refine aZ (bH ?_)
    unfold wI
    rw [KG hx,F2 hx]
    exact ao (dl (dl (cK rfl)))
def fm(x:Nat) :Nat:=if Vs x ≠ 0 then x % 4503599627370496+4503599627370496 else x % 4503599627370496
def fe(x:Nat) :Int:=if Vs x ≠ 0 then -1074+((Vs x:Int) - 1) else if x % 4503599627370496 ≠ 0 then -1074 else 0
theorem ajQ{z:Nat}(h:z < 4096) :IntKind.i64.wrap ((z:Nat):Int)=((z:Nat):Int):=by
  simp only [IntKind.wrap,IntKind.signed,IntKind.bits]
  simp
  omega
theorem agL(x:Nat) :Vs x < 2048:=Nat.mod_lt _ (by decide)
theorem apZ{x:Nat}(hx:x < Zg)(h:A7 x=true) :eN (x:Int)=some (.r0 0 (x / 9223372036854775808 == 1) ((fm x:Nat):Int) (fe x)):=by
  have hl:=agL x
  have hs:(((x / 9223372036854775808:Nat):Int) == (1:Int))=(x / 9223372036854775808 == 1):=by
    rw [Bool.eq_iff_iff,beq_iff_eq,beq_iff_eq];omega
  refine aZ (ae (a:=(wk x,false,(x / 9223372036854775808 == 1),((x % 4503599627370496:Nat):Int))) ?_ ?_)
  · unfold I1
    rw [apY hx h,F2 hx,arA hx,hs]
    exact ao (ao rfl)
  · show (Cv _ _ _ _).run=_
    unfold Cv wk fm fe
    rw [KG hx,ajQ (by omega),ate (Nat.mod_lt _ (by decide))]
    by_cases h1:Vs x=0
    · by_cases h2:x % 4503599627370496=0
      · rw [if_neg (by omega),if_neg (by omega),if_neg (by omega),if_neg (by omega),if_neg (by omega)]
        exact bj (bj (bN rfl))
      · rw [if_neg (by omega),if_pos h2,if_neg (by omega),if_neg (by omega),if_pos h2]
        exact bj (bN rfl)
    · rw [if_pos h1,if_pos h1,if_pos h1]
      exact bN (ao (cT (by rw [cV];omega) (cT (by rw [cV];omega) rfl)))
theorem auq(x:Nat) :fm x < W:=by
  have:=Nat.mod_lt x (show 4503599627370496 > 0 by decide)
  have w:(9007199254740992:Nat) < W:=by decide
  unfold fm;split <;> omega
theorem aoa{x:Nat}(hx:x < Zg)(h:A7 x=true) :nS (sg (x / 9223372036854775808 == 1) (fm x))=nS (fz x)∧nM (sg (x / 9223372036854775808 == 1) (fm x))=nM (fz x)∧nE (sg (x / 9223372036854775808 == 1) (fm x)) (fe x)=nE (fz x) (-1074):=by
  have hx':x < 18446744073709551616:=hx
  have hl:=agL x
  unfold fz fm fe
  have hmod:x % 4503599627370496=x % 9223372036854775808 % 4503599627370496:=by omega
  by_cases h1:Vs x=0
  · have h3:x % 9223372036854775808 < 4503599627370496:=by unfold Vs at h1;omega
    have h4:oH (x % 9223372036854775808)=0:=by unfold oH;omega
    have h5:IJ (x % 9223372036854775808)=x % 4503599627370496:=by unfold IJ;rw [if_pos h3];omega
    rw [h4,h5,Nat.pow_zero,Nat.mul_one,if_neg (by omega),if_neg (by omega)]
    by_cases h2:x % 4503599627370496=0
    · rw [h2,if_neg (by omega)]
      have z:sg (x / 9223372036854775808 == 1) 0=0:=Cj.2 rfl
      rw [z,gJ,gJ];exact ⟨rfl,rfl,rfl⟩
    · rw [if_pos h2];exact ⟨rfl,rfl,rfl⟩
  · have h3 : ¬ x % 9223372036854775808 < 4503599627370496:=by unfold Vs at h1;omega
    have h4:oH (x % 9223372036854775808)=Vs x - 1:=by unfold oH Vs;omega
    have h5:IJ (x % 9223372036854775808)=x % 4503599627370496+4503599627370496:=by unfold IJ;rw [if_neg h3];omega
    rw [h4,h5,if_pos h1,if_pos h1]
    obtain ⟨a,b,c⟩:=J8 (z:=sg (x / 9223372036854775808 == 1) ((x % 4503599627370496+4503599627370496) * 2 ^ (Vs x - 1))) (z':=sg (x / 9223372036854775808 == 1) (x % 4503599627370496+4503599627370496)) (m:=Vs x - 1) apc (-1074)
    refine ⟨a.symm,b.symm,?_⟩
    rw [c];congr 1;omega
theorem atf{x:Nat}(hx:x < Zg)(h:A7 x=true) :
    ∃ N,iR x=some (.r0 0 (nS (fz x)) (aA (nM (fz x)) N) 0 (nl (nM (fz x))) (nE (fz x) (-1074)))∧nl (nM (fz x))≤N∧N≤4096:=by
  have hm:=auq x
  have hn:nl (fm x)≤1:=jR (by rw [Nat.pow_one];exact hm)
  have hl:=agL x
  have he : -1000000≤fe x∧fe x≤1000000:=by unfold fe;split <;> (try split) <;> omega
  obtain ⟨N,h1,h2,h3⟩:=yP (x / 9223372036854775808 == 1) (v:=fm x) (cU _) (by omega) (by omega) he
  obtain ⟨a,b,c⟩:=aoa hx h
  rw [a,b,c] at h1
  rw [b] at h2
  refine ⟨N,aZ (ae (a:=(0,false,(x / 9223372036854775808 == 1),((fm x:Nat):Int),fe x)) ?_ (ae (a:=(nS (fz x),aA (nM (fz x)) N,0,nl (nM (fz x)),nE (fz x) (-1074))) ?_ rfl)),h2,h3⟩
  · unfold U5
    rw [apZ hx h]
    exact e9 (akF hx h) (ao5 (cT (by rw [akE hx h];rfl) (ao rfl)))
  · show (LO _ _ _ _).run=_
    unfold LO
    rw [aqO hm]
    simp only [Br,fg,fh,fi]
    rw [ck hn,h1]
    exact bj (ao (cT (bp hn) (ao rfl)))
end Go.Plb.Seat
namespace Go.Plb
set_option linter.unusedSimpArgs false
set_option linter.unusedVariables false
set_option linter.unusedSectionVars false
variable [Rom]
abbrev H:Nat:=4294967296
def lmh(v i:Nat) :Int:=((v / H ^ i % H:Nat):Int)
def hH(v n:Nat) :List Int:=kO (lmh v) n
theorem ze(n:Nat) :0 < H ^ n:=Nat.pow_pos (by decide)
theorem e8{v n:Nat} :(hH v n).length=n:=gH
theorem YO{v i:Nat}(h:v < H ^ i) :lmh v i=0:=by unfold lmh;rw [Nat.div_eq_of_lt h];rfl
theorem agM{v n i:Nat}(h:i < n) :(hH v n).getD i 0=lmh v i:=yq h
theorem Ca{v n:Nat}(h:v < H ^ n)(i:Nat) :(hH v n).getD i 0=lmh v i:=by
  by_cases hi:i < n
  · exact agM hi
  · rw [List.getD_eq_getElem?_getD,List.getElem?_eq_none (by rw [e8];omega)]
    exact (YO (Nat.lt_of_lt_of_le h (Nat.pow_le_pow_right (by decide) (by omega)))).symm
theorem arC{v n m:Nat}(h:m≤n) :aa 0 m (hH v n)=hH v m:=ajd h
theorem ap0{n:Nat} :List.replicate n (0:Int)=hH 0 n:=by
  rw [xH];exact dB fun i _=>(YO (ze i)).symm
theorem Iy{u x j:Nat}(hu:u < H ^ j)(hx:x < H)(i:Nat) :lmh (u+x * H ^ j) i=if i=j then (x:Int) else lmh u i:=by
  unfold lmh
  by_cases e:i=j
  · subst e
    rw [if_pos rfl,Nat.add_mul_div_right _ _ (ze i),Nat.div_eq_of_lt hu,Nat.zero_add,Nat.mod_eq_of_lt hx]
  · rw [if_neg e]
    congr 1
    rcases Nat.lt_or_ge i j with h | h
    · obtain ⟨d,rfl⟩:∃ d,j=i+1+d:=⟨j - i - 1,by omega⟩
      have:x * H ^ (i+1+d)=(x * H ^ d * H) * H ^ i:=by
        rw [Nat.pow_add,Nat.pow_succ];simp only [Nat.mul_assoc,Nat.mul_comm,Nat.mul_left_comm]
      rw [this,Nat.add_mul_div_right _ _ (ze i),Nat.add_mul_mod_self_right]
    · have h1:H ^ (j+1)≤H ^ i:=Nat.pow_le_pow_right (by decide) (by omega)
      have h2:u+x * H ^ j < H ^ (j+1):=by
        rw [Nat.pow_succ,Nat.mul_comm (H ^ j)]
        have:(x+1) * H ^ j≤H * H ^ j:=Nat.mul_le_mul_right _ hx
        rw [Nat.add_mul,Nat.one_mul] at this
        omega
      have h3:H ^ j≤H ^ (j+1):=Nat.pow_le_pow_right (by decide) (by omega)
      rw [Nat.div_eq_of_lt (Nat.lt_of_lt_of_le h2 h1),Nat.div_eq_of_lt (by omega)]
theorem aiY{u x j n:Nat}(hu:u < H ^ j)(hx:x < H)(hj:j < n) :(hH u n).set j (x:Int)=hH (u+x * H ^ j) n:=by
  unfold hH
  rw [yS hj]
  exact dB fun i _=>(Iy hu hx i).symm
theorem zf(v j:Nat) :v % H ^ (j+1)=v % H ^ j+(v / H ^ j % H) * H ^ j:=by
  rw [Nat.pow_succ,Nat.mod_mul,Nat.mul_comm (H ^ j)]
theorem arD{v n:Nat} :hH (v % H ^ n) n=hH v n:=by
  refine dB fun i hi=>?_
  unfold lmh
  obtain ⟨d,rfl⟩:∃ d,n=i+1+d:=⟨n - i - 1,by omega⟩
  congr 1
  have h:=Nat.mod_mul (a:=H ^ i) (b:=H ^ (d+1)) (x:=v)
  have e:H ^ (i+1+d)=H ^ i * H ^ (d+1):=by rw [← Nat.pow_add];congr 1;omega
  rw [e,h,Nat.add_mul_div_left _ _ (ze i),Nat.div_eq_of_lt (Nat.mod_lt _ (ze i)),Nat.zero_add,Nat.pow_succ,Nat.mod_mul_left_mod]
theorem QK{S t j:Nat}(hS:S < H ^ j) :(S+t * H ^ j) / H ^ (j+1)=t / H∧(S+t * H ^ j) % H ^ (j+1)=S+(t % H) * H ^ j:=by
  have e1:(S+t * H ^ j) / H ^ j=t:=by rw [Nat.add_mul_div_right _ _ (ze j),Nat.div_eq_of_lt hS,Nat.zero_add]
  have e2:(S+t * H ^ j) % H ^ j=S:=by rw [Nat.add_mul_mod_self_right,Nat.mod_eq_of_lt hS]
  constructor
  · rw [Nat.pow_succ,← Nat.div_div_eq_div_mul,e1]
  · rw [zf,e1,e2]
theorem Iz(v i:Nat) :lmh v i=((v / H ^ i % H:Nat):Int):=rfl
def vd(x y j:Nat) :Nat:=x % H ^ j+y % H ^ j
theorem ap1(x y j:Nat) :vd x y (j+1)=vd x y j % H ^ j+(x / H ^ j % H+y / H ^ j % H+vd x y j / H ^ j) * H ^ j:=by
  have h:=Nat.div_add_mod (vd x y j) (H ^ j)
  unfold vd at h ⊢
  rw [zf x,zf y]
  rw [Nat.add_mul,Nat.add_mul,Nat.mul_comm ((x % H ^ j+y % H ^ j) / H ^ j)]
  omega
theorem ack{x y j:Nat} :vd x y j / H ^ j≤1:=by
  have h1:=Nat.mod_lt x (ze j)
  have h2:=Nat.mod_lt y (ze j)
  have:vd x y j < 2 * H ^ j:=by unfold vd;omega
  have:=(Nat.div_lt_iff_lt_mul (ze j)).2 this
  omega
def zi(a b j:Nat) :Nat:=if a % H ^ j < b % H ^ j then 1 else 0
def IA(a b j:Nat) :Nat:=a % H ^ j+zi a b j * H ^ j - b % H ^ j
theorem aob{a b j:Nat} :IA a b j < H ^ j∧b % H ^ j≤a % H ^ j+zi a b j * H ^ j:=by
  have h1:=Nat.mod_lt a (ze j)
  have h2:=Nat.mod_lt b (ze j)
  unfold IA zi
  generalize a % H ^ j=A at *
  generalize b % H ^ j=B at *
  generalize H ^ j=P at *
  split
  · rw [Nat.one_mul];omega
  · rw [Nat.zero_mul];omega
theorem arE(a b j:Nat) :zi a b (j+1)=(if a / H ^ j % H < b / H ^ j % H+zi a b j then 1 else 0) ∧
    IA a b (j+1)=IA a b j+((a / H ^ j % H+H - b / H ^ j % H - zi a b j) % H) * H ^ j:=by
  obtain ⟨hD,hle⟩:=aob (a:=a) (b:=b) (j:=j)
  have hbr:zi a b j≤1:=by unfold zi;split <;> omega
  have hla:=Nat.mod_lt (a / H ^ j) (show H > 0 by decide)
  have hlb:=Nat.mod_lt (b / H ^ j) (show H > 0 by decide)
  have eD:IA a b j+b % H ^ j=a % H ^ j+zi a b j * H ^ j:=by unfold IA at hD ⊢;omega
  have eW:H ^ (j+1)=H * H ^ j:=by rw [Nat.pow_succ,Nat.mul_comm]
  have ea:=zf a j
  have eb:=zf b j
  generalize a / H ^ j % H=la at *
  generalize b / H ^ j % H=lb at *
  generalize zi a b j=br at *
  generalize IA a b j=D at *
  by_cases h:la < lb+br
  · obtain ⟨d,hd⟩:∃ d,la+H=lb+br+d:=⟨la+H - lb - br,by omega⟩
    have hdW:d < H:=by omega
    have e3:la * H ^ j+H ^ (j+1)=lb * H ^ j+br * H ^ j+d * H ^ j:=by rw [eW,← Nat.add_mul,← Nat.add_mul,← Nat.add_mul,hd]
    have hlt:a % H ^ (j+1) < b % H ^ (j+1):=by
      have:(d+1) * H ^ j≤H * H ^ j:=Nat.mul_le_mul_right _ hdW
      rw [Nat.add_mul,Nat.one_mul] at this
      rw [ea,eb];omega
    have e1:zi a b (j+1)=1:=by unfold zi;rw [if_pos hlt]
    refine ⟨by rw [if_pos h,e1],?_⟩
    have e4:(la+H - lb - br) % H=d:=by
      have:la+H - lb - br=d:=by omega
      rw [this,Nat.mod_eq_of_lt hdW]
    unfold IA
    rw [e1,e4,ea,eb,Nat.one_mul];omega
  · obtain ⟨d,hd⟩:∃ d,la=lb+br+d:=⟨la - lb - br,by omega⟩
    have hdW:d < H:=by omega
    have e3:la * H ^ j=lb * H ^ j+br * H ^ j+d * H ^ j:=by rw [← Nat.add_mul,← Nat.add_mul,hd]
    have hlt : ¬ a % H ^ (j+1) < b % H ^ (j+1):=by rw [ea,eb];omega
    have e1:zi a b (j+1)=0:=by unfold zi;rw [if_neg hlt]
    refine ⟨by rw [if_neg h,e1],?_⟩
    have e4:(la+H - lb - br) % H=d:=by
      have:la+H - lb - br=d+H:=by omega
      rw [this,Nat.add_mod_right,Nat.mod_eq_of_lt hdW]
    unfold IA
    rw [e1,e4,ea,eb,Nat.zero_mul];omega
def oA(O a m k i:Nat) :Nat:=O % H ^ (k+i)+a % H ^ i * m * H ^ k
theorem agN(O a m k i:Nat) :oA O a m k (i+1)=oA O a m k i % H ^ (k+i)+(O / H ^ (k+i) % H+a / H ^ i % H * m+oA O a m k i / H ^ (k+i)) * H ^ (k+i):=by
  have h:=Nat.div_add_mod (oA O a m k i) (H ^ (k+i))
  have e:H ^ i * H ^ k=H ^ (k+i):=by rw [Nat.pow_add,Nat.mul_comm]
  have e2:(a / H ^ i % H) * H ^ i * m * H ^ k=a / H ^ i % H * m * H ^ (k+i):=by
    rw [← e];generalize a / H ^ i % H=x;ac_rfl
  have e3:oA O a m k (i+1)=oA O a m k i+(O / H ^ (k+i) % H * H ^ (k+i)+a / H ^ i % H * m * H ^ (k+i)):=by
    unfold oA
    rw [← Nat.add_assoc k i 1,zf O,zf a,Nat.add_mul,Nat.add_mul,e2]
    omega
  rw [e3,Nat.add_mul,Nat.add_mul,Nat.mul_comm (oA O a m k i / H ^ (k+i))]
  omega
theorem aoc{O a m k i:Nat} :oA O a m k i / H ^ (k+i)≤m:=by
  have h1:=Nat.mod_lt O (ze (k+i))
  have h2:=Nat.mod_lt a (ze i)
  have e:H ^ i * H ^ k=H ^ (k+i):=by rw [Nat.pow_add,Nat.mul_comm]
  have h3:a % H ^ i * m * H ^ k≤H ^ (k+i) * m:=by
    have:a % H ^ i * (m * H ^ k)≤H ^ i * (m * H ^ k):=Nat.mul_le_mul_right _ (by omega)
    have e4:H ^ i * (m * H ^ k)=H ^ (k+i) * m:=by rw [← e];ac_rfl
    rw [Nat.mul_assoc];omega
  have:oA O a m k i < (m+1) * H ^ (k+i):=by
    rw [Nat.add_mul,Nat.one_mul,Nat.mul_comm m]
    unfold oA;omega
  have:=(Nat.div_lt_iff_lt_mul (ze (k+i))).2 this
  omega
def Uk(O a m k n i:Nat) :List Int:=kO (fun q=>if q < k+i then lmh (oA O a m k i % H ^ (k+i)) q else lmh O q) n
theorem arF{O a m k n i:Nat} :(Uk O a m k n i).length=n:=gH
theorem atg{O a m k n i:Nat}(h:k+i < n) :(Uk O a m k n i).getD (k+i) 0=lmh O (k+i):=by
  unfold Uk;rw [yq h,if_neg (Nat.lt_irrefl _)]
theorem ap2{O a m k n:Nat} :Uk O a m k n 0=hH O n:=by
  refine dB fun q hq=>?_
  by_cases h:q < k+0
  · rw [if_pos h]
    have e:oA O a m k 0 % H ^ (k+0)=O % H ^ k:=by unfold oA;rw [Nat.pow_zero,Nat.mod_one,Nat.zero_mul,Nat.zero_mul,Nat.add_zero,Nat.add_zero,Nat.mod_mod]
    rw [e]
    have:(hH (O % H ^ k) k).getD q 0=(hH O k).getD q 0:=by rw [arD]
    rwa [agM (by omega),agM (by omega)] at this
  · rw [if_neg h]
theorem ap3{O a m k n i:Nat}(h:k+i < n) :(Uk O a m k n i).set (k+i) (((O / H ^ (k+i) % H+a / H ^ i % H * m+oA O a m k i / H ^ (k+i)) % H:Nat):Int)=Uk O a m k n (i+1):=by
  unfold Uk
  rw [yS h]
  refine dB fun q hq=>?_
  have hS:=Nat.mod_lt (oA O a m k i) (ze (k+i))
  obtain ⟨_,d2⟩:=QK (t:=O / H ^ (k+i) % H+a / H ^ i % H * m+oA O a m k i / H ^ (k+i)) hS
  rw [← agN] at d2
  have hl:=Iy hS (Nat.mod_lt (O / H ^ (k+i) % H+a / H ^ i % H * m+oA O a m k i / H ^ (k+i)) (show H > 0 by decide)) q
  rw [← d2] at hl
  rw [← Nat.add_assoc k i 1]
  by_cases e:q=k+i
  · rw [if_pos e] at hl ⊢
    rw [if_pos (by omega),hl]
  · rw [if_neg e] at hl ⊢
    by_cases r:q < k+i
    · rw [if_pos r,if_pos (by omega),hl]
    · rw [if_neg r,if_neg (by omega)]
theorem arG{O a m k n:Nat}(hO:O < H ^ (k+n))(ha:a < H ^ n) :oA O a m k n=O+a * m * H ^ k:=by
  unfold oA;rw [Nat.mod_eq_of_lt hO,Nat.mod_eq_of_lt ha]
theorem arH{O a m k n N:Nat}(hO:O < H ^ (k+n)) :Uk O a m k N n=hH (oA O a m k n % H ^ (k+n)) N:=by
  refine dB fun q hq=>?_
  by_cases h:q < k+n
  · rw [if_pos h]
  · rw [if_neg h,YO (Nat.lt_of_lt_of_le hO (Nat.pow_le_pow_right (by decide) (by omega))),YO (Nat.lt_of_lt_of_le (Nat.mod_lt _ (ze _)) (Nat.pow_le_pow_right (by decide) (by omega)))]
theorem ap4{u x j:Nat}(hu:u < H ^ j)(hx:x < H) :hH u j ++ [(x:Int)]=hH (u+x * H ^ j) (j+1):=by
  show _=kO _ (j+1)
  simp only [kO]
  rw [Iy hu hx,if_pos rfl]
  congr 1
  refine dB fun i hi=>?_
  rw [Iy hu hx,if_neg (by omega)]
theorem H2(i:Nat) :W ^ i=H ^ (2 * i):=by rw [Nat.pow_mul,show H ^ 2=W by decide]
theorem aqR(v i:Nat) :v / W ^ i % W % H=v / H ^ (2 * i) % H:=by
  rw [H2,show W=H * H by decide,Nat.mod_mul_right_mod]
theorem aqS(v i:Nat) :v / W ^ i % W / H=v / H ^ (2 * i+1) % H:=by
  rw [H2,show W=H * H by decide,Nat.mod_mul_right_div_self,Nat.div_div_eq_div_mul,Nat.pow_succ]
theorem aod(v i:Nat) :v / W ^ i % W=v / H ^ (2 * i) % H+v / H ^ (2 * i+1) % H * H:=by
  rw [← aqR,← aqS,Nat.mul_comm];exact (Nat.mod_add_div _ _).symm
end Go.Plb
namespace Go.Plb.Seat
open Go Go.Plb
set_option linter.unusedSimpArgs false
set_option linter.unusedVariables false
theorem KH{v n m:Nat}(h:m≤n) :List.take m (aA v n)=aA v m:=by
  have:=ck (v:=v) h
  rwa [QZ,List.drop_zero] at this
theorem Cb{v n:Nat}(h:v < W ^ n)(hn:n≤1000000) :cQ (aA v n)=some (.r0 (nl v) (aA v (nl v))):=by
  have hl:=jR h
  refine aZ (ae rfl (ae (a:=((nl v:Nat):Int)) (cw (fun j=>((n - j:Nat):Int)) (n - nl v) (by simp only [ax];rfl) (fun j hj=>?_) ?_) ?_))
  · show aC (qU _ _).run _=_
    have e:Int.toNat (((n - j:Nat):Int) - 1)=n - (j+1):=by omega
    have z:(aA v n).getD (n - (j+1)) 0=0:=by
      rw [cE h]
      exact HU (Nat.lt_of_lt_of_le (cU v) (Nat.pow_le_pow_right (by decide) (by omega)))
    refine ae (a:=true) ?_ ?_
    · unfold qU
      rw [e,z,ax]
      exact cK (ap (ap (ap rfl)))
    · unfold Gz
      refine bN (ap ?_)
      show some (Sum.inl _)=_
      congr 2;omega
  · have e0:n - (n - nl v)=nl v:=by omega
    show aC (qU _ _).run _=_
    rw [e0]
    by_cases h0:v=0
    · have z:=mg.2 h0
      rw [z]
      exact ae (a:=false) (bj rfl) (bj rfl)
    · have hp:=DY h0
      have e:Int.toNat (((nl v:Nat):Int) - 1)=nl v - 1:=by omega
      refine ae (a:=false) ?_ (bj rfl)
      unfold qU
      rw [e,cE h,ax]
      refine cK (ap (ap (ap ?_)))
      show some (Sum.inl _)=_
      congr 2
      rw [beq_eq_false_iff_ne];exact akz h0
  · unfold GB
    rw [ax,cI,KH hl]
    exact ap (ap (ap (ap (ap rfl))))
theorem arI{v n:Nat}(h:v < W ^ n)(hn:n≤1000000)(hv:nl v≤4096) :y5 (aA v n)=some (.r0 true):=by
  have hl:=jR h
  refine aZ (ae rfl (ae (a:=((nl v:Nat):Int)) (cw (fun j=>((n - j:Nat):Int)) (n - nl v) (by simp only [ax];rfl) (fun j hj=>?_) ?_) ?_))
  · show aC (tB _ _).run _=_
    have e:Int.toNat (((n - j:Nat):Int) - 1)=n - (j+1):=by omega
    have z:(aA v n).getD (n - (j+1)) 0=0:=by
      rw [cE h]
      exact HU (Nat.lt_of_lt_of_le (cU v) (Nat.pow_le_pow_right (by decide) (by omega)))
    refine ae (a:=true) ?_ ?_
    · unfold tB
      rw [e,z,ax]
      exact cK (ap (ap (ap rfl)))
    · unfold Jj
      refine bN (ap ?_)
      show some (Sum.inl _)=_
      congr 2;omega
  · have e0:n - (n - nl v)=nl v:=by omega
    show aC (tB _ _).run _=_
    rw [e0]
    by_cases h0:v=0
    · have z:=mg.2 h0
      rw [z]
      exact ae (a:=false) (bj rfl) (bj rfl)
    · have hp:=DY h0
      have e:Int.toNat (((nl v:Nat):Int) - 1)=nl v - 1:=by omega
      refine ae (a:=false) ?_ (bj rfl)
      unfold tB
      rw [e,cE h,ax]
      refine cK (ap (ap (ap ?_)))
      show some (Sum.inl _)=_
      congr 2
      rw [beq_eq_false_iff_ne];exact akz h0
  · show some (Sum.inr (jI.r0 (decide (((nl v:Nat):Int)≤4096))))=_
    rw [decide_eq_true (by omega)]
theorem aqT(x:Nat) :Int.tmod (x:Int) (4294967296:Int)=((x % 4294967296:Nat):Int):=rfl
theorem aqU(x:Nat) :Int.tdiv (x:Int) (4294967296:Int)=((x / 4294967296:Nat):Int):=rfl
theorem MG{v n m:Nat}(h:m≤n) :List.take m (hH v n)=hH v m:=by
  have:=arC (v:=v) h
  rwa [QZ,List.drop_zero] at this
theorem MH(v n:Nat) :v % H ^ n < H ^ n:=Nat.mod_lt _ (ze n)
theorem KI{v n:Nat}(h:v < W ^ n)(hn:n≤100000) :dk (aA v n)=some (.r0 (2 * n) (2 * n) (hH v (2 * n))):=by
  refine aZ (ae rfl (ae (a:=(2 * n,2 * n,hH v (2 * n))) (cw (fun i=>(2 * i,2 * i,i,hH v (2 * i))) n rfl (fun i hi=>?_) ?_) rfl))
  · show (wL _ _ _ _ _).run=_
    unfold wL
    have e1:hH v (2 * (i+1))=hH v (2 * i) ++ [((v / H ^ (2 * i) % H:Nat):Int),((v / H ^ (2 * i+1) % H:Nat):Int)]:=by
      show kO _ (2 * i+1+1)=_
      simp only [kO,hH,Iz,List.append_assoc];rfl
    rw [cE h,zD,ax,e8,aqT,aqU]
    have hlt:v / W ^ i % W / 4294967296 < W:=Nat.lt_of_le_of_lt (Nat.div_le_self _ _) (Nat.mod_lt _ (by decide))
    rw [kS hlt,MG (Nat.le_refl _)]
    have w1:v / W ^ i % W % 4294967296=v / H ^ (2 * i) % H:=aqR v i
    have w2:v / W ^ i % W / 4294967296=v / H ^ (2 * i+1) % H:=aqS v i
    rw [w1,w2]
    refine cK (ap (ap (ao (ap (ap (ao (ap (ap (ao (ap (ap ?_)))))))))))
    show some (Sum.inl (2 * i+2,2 * i+2,i+1,hH v (2 * i) ++ [((v / H ^ (2 * i) % H:Nat):Int),((v / H ^ (2 * i+1) % H:Nat):Int)]))=_
    rw [← e1];rfl
  · show (wL _ _ _ _ _).run=_
    exact e9 (by rw [ax];exact (by simp only [cV,EI,Ga,qG,rX,iT,rY,rZ,decide_eq_true_eq,decide_eq_false_iff_not,beq_iff_eq,beq_eq_false_iff_ne,bne_iff_ne,bne_eq_false_iff_eq,Bool.not_eq_true',Bool.not_eq_false',List.length_set,ne_eq,ge_iff_le,gt_iff_lt,mu,cI,Be];omega)) rfl
theorem Vo{v n i:Nat}(h:v < H ^ n) :eC (hH v n) (i:Int)=some (.r0 ((v / H ^ i % H:Nat):Int)):=by
  refine aZ ?_
  unfold GC
  rw [e8,Ca h,Iz]
  by_cases hi:i < n
  · exact cK (ap (ap rfl))
  · have:v / H ^ i % H=0:=by rw [Nat.div_eq_of_lt (Nat.lt_of_lt_of_le h (Nat.pow_le_pow_right (by decide) (by omega)))];rfl
    rw [this]
    exact dl rfl
theorem Z2{v m:Nat}(h:v < H ^ m)(hm:m≤200000) :gw (hH v m)=some (.r0 (aA v (nl v)) (nl v)):=by
  have hW:v < W ^ ((m+1) / 2):=by
    rw [H2];exact Nat.lt_of_lt_of_le h (Nat.pow_le_pow_right (by decide) (by omega))
  refine aZ (ae rfl (ae (a:=((m+1) / 2,(m+1) / 2,aA v ((m+1) / 2))) (cw (fun j=>(j,j,2 * j,aA v j)) ((m+1) / 2) rfl (fun j hj=>?_) ?_) (ae (a:=(aA v (nl v),nl v)) ?_ rfl)))
  · show aC (uu _ _ _ _ _).run _=_
    have e1:aA v (j+1)=aA v j ++ [((v / W ^ j % W:Nat):Int)]:=rfl
    refine ae (a:=(j+1,aA v (j+1))) ?_ (ap rfl)
    unfold uu
    rw [Ca h,Ca h,Iz,Iz,e8,ax,KH (Nat.le_refl _)]
    have lo:=Nat.mod_lt (v / H ^ (2 * j)) (show H > 0 by decide)
    have hi:=Nat.mod_lt (v / H ^ (2 * j+1)) (show H > 0 by decide)
    have hb:=aod v j
    have hlt:v / W ^ j % W < W:=Nat.mod_lt _ (by decide)
    by_cases hlast:2 * j+1 < m
    · have w1:IntKind.u64.wrap (((v / H ^ (2 * j+1) % H:Nat):Int) * (4294967296:Int))=((v / H ^ (2 * j+1) % H * H:Nat):Int):=by
        rw [show (4294967296:Int)=((H:Nat):Int) from rfl,Dv,Nat.mod_eq_of_lt (by omega)]
      rw [w1,qN,← hb,Nat.mod_eq_of_lt hlt]
      exact cK (ap (ap (ap (cK (ap (ap (ap (ap (ap (ao (ap rfl)))))))))))
    · have z:v / H ^ (2 * j+1) % H=0:=by
        rw [Nat.div_eq_of_lt (Nat.lt_of_lt_of_le h (Nat.pow_le_pow_right (by decide) (by omega)))];rfl
      rw [z,Nat.zero_mul,Nat.add_zero] at hb
      rw [← hb]
      exact cK (ap (ap (ap (dl (ap (ap (ao (ap rfl))))))))
  · show aC (uu _ _ _ _ _).run _=_
    exact bH (e9 (by rw [e8];exact (by simp only [cV,EI,Ga,qG,rX,iT,rY,rZ,decide_eq_true_eq,decide_eq_false_iff_not,beq_iff_eq,beq_eq_false_iff_ne,bne_iff_ne,bne_eq_false_iff_eq,Bool.not_eq_true',Bool.not_eq_false',List.length_set,ne_eq,ge_iff_le,gt_iff_lt,mu,cI,Be];omega)) rfl)
  · show (zV _ _).run=_
    unfold zV
    rw [bR ax,Cb hW (by omega)]
    exact dT (ao rfl)
theorem arJ{a b n m:Nat}(ha:a < W ^ n)(hb:b < W ^ m)(hn:n≤10000)(hm:m≤10000) :eA (aA a n) (aA b m)=some (.r0 (aA (a+b) (nl (a+b))) (nl (a+b))):=by
  have ha':a < H ^ (2 * n):=by rw [← H2];exact ha
  have hb':b < H ^ (2 * m):=by rw [← H2];exact hb
  have hg:max (2 * n) (2 * m)≤20000:=by omega
  have hgn:2 * n≤max (2 * n) (2 * m):=Nat.le_max_left _ _
  have hgm:2 * m≤max (2 * n) (2 * m):=Nat.le_max_right _ _
  have hgx:∀ j,j < max (2 * n) (2 * m)→j < 2 * n∨j < 2 * m:=fun j hj=>by omega
  revert hg hgn hgm hgx
  generalize max (2 * n) (2 * m)=g
  intro hg hgn hgm hgx
  have ha2:a < H ^ g:=Nat.lt_of_lt_of_le ha' (Nat.pow_le_pow_right (by decide) hgn)
  have hb2:b < H ^ g:=Nat.lt_of_lt_of_le hb' (Nat.pow_le_pow_right (by decide) hgm)
  have hs:vd a b g=a+b:=by unfold vd;rw [Nat.mod_eq_of_lt ha2,Nat.mod_eq_of_lt hb2]
  have hc:=ack (x:=a) (y:=b) (j:=g)
  rw [hs] at hc
  have hpush:=ap4 (u:=(a+b) % H ^ g) (x:=(a+b) / H ^ g) (j:=g) (MH _ _) (Nat.lt_of_le_of_lt hc (by decide))
  have hv:(a+b) % H ^ g+(a+b) / H ^ g * H ^ g=a+b:=by rw [Nat.mul_comm];exact Nat.mod_add_div _ _
  rw [hv] at hpush
  have hlt:a+b < H ^ (g+1):=by
    rw [Nat.pow_succ]
    have:H ^ g * 2≤H ^ g * H:=Nat.mul_le_mul_left _ (by decide)
    omega
  refine aZ (ae (a:=(hH a (2 * n),2 * n,hH b (2 * m),2 * m)) ?_ (ae rfl (ae (a:=(g,g,(((a+b) / H ^ g:Nat):Int),hH ((a+b) % H ^ g) g)) (cw (fun j=>(j,j,((vd a b j / H ^ j:Nat):Int),j,hH (vd a b j % H ^ j) j)) g (by simp [vd,Nat.mod_one];rfl) (fun j hj=>?_) ?_) (ae (a:=(aA (a+b) (nl (a+b)),nl (a+b))) ?_ rfl))))
  · unfold I4
    rw [aF,aF,KI ha (by omega),KI hb (by omega)]
    exact bf (ao (bf (ao rfl)))
  · have hcj:=ack (x:=a) (y:=b) (j:=j)
    have hS:=MH (vd a b j) j
    have hst:=ap1 a b j
    obtain ⟨d1,d2⟩:=QK (t:=a / H ^ j % H+b / H ^ j % H+vd a b j / H ^ j) hS
    rw [← hst] at d1 d2
    have hp:=ap4 hS (Nat.mod_lt (a / H ^ j % H+b / H ^ j % H+vd a b j / H ^ j) (show H > 0 by decide))
    rw [← d2] at hp
    have l1:a / H ^ j % H < 4294967296:=Nat.mod_lt _ (show H > 0 by decide)
    have l2:b / H ^ j % H < 4294967296:=Nat.mod_lt _ (show H > 0 by decide)
    have hW:W=18446744073709551616:=rfl
    show aC (tm _ _ _).run _=_
    refine ae (a:=true) ?_ (ae (a:=(j+1,((vd a b (j+1) / H ^ (j+1):Nat):Int),hH (vd a b (j+1) % H ^ (j+1)) (j+1))) ?_ (ap rfl))
    · unfold tm
      rcases hgx j hj with q | q
      · exact cK rfl
      · by_cases p:j < 2 * n
        · exact cK rfl
        · refine dl ?_
          show some (Sum.inl (decide _))=_
          rw [decide_eq_true (by omega)]
    · show (Cy _ _ _ _ _ _ _ _ _ _).run=_
      unfold Cy
      rw [bR e8,bR e8,Vo ha',Vo hb']
      simp only [lT,d5]
      rw [qN,qN,Nat.mod_eq_of_lt (by omega:a / H ^ j % H+b / H ^ j % H < W),Nat.mod_eq_of_lt (by omega),aqT,aqU,e8,MG (Nat.le_refl _)]
      rw [kS (by omega)]
      have d1':(a / H ^ j % H+b / H ^ j % H+vd a b j / H ^ j) / 4294967296=vd a b (j+1) / H ^ (j+1):=d1.symm
      rw [d1']
      refine bN (cT (Me e8) (ao (cT (Me e8) (ao (ao (ap (ap (ao (ap (ao ?_))))))))))
      show some (Sum.inl (j+1,((vd a b (j+1) / H ^ (j+1):Nat):Int),hH (vd a b j % H ^ j) j ++ [(((a / H ^ j % H+b / H ^ j % H+vd a b j / H ^ j) % H:Nat):Int)]))=_
      rw [hp]
  · show aC (tm _ _ _).run _=_
    refine ae (a:=false) ?_ (bH (bj (by rw [hs];rfl)))
    unfold tm
    refine dl ?_
    show some (Sum.inl (decide _))=_
    rw [decide_eq_false (by omega)]
  · show (Cz _ _ _).run=_
    unfold Cz
    have et:List.take 1 [(((a+b) / H ^ g:Nat):Int)] = [(((a+b) / H ^ g:Nat):Int)]:=rfl
    rw [MG (Nat.le_refl _),et,hpush,bR e8,Z2 hlt (by omega),e8]
    exact ap (ap (ao (ap (cT (Me e8) (ao rfl)))))
theorem ajR{a b n m:Nat}(ha:a < W ^ n)(hb:b < W ^ m)(hn:n≤10000)(hm:m≤10000)(hle:b≤a) :bT (aA a n) (aA b m)=some (.r0 (aA (a - b) (nl (a - b))) (nl (a - b))):=by
  have ha':a < H ^ (2 * n):=by rw [← H2];exact ha
  have hb':b < H ^ (2 * m):=by rw [← H2];exact hb
  have hd:IA a b (2 * n)=a - b:=by
    unfold IA zi
    rw [Nat.mod_eq_of_lt ha',Nat.mod_eq_of_lt (Nat.lt_of_le_of_lt hle ha'),if_neg (by omega),Nat.zero_mul,Nat.add_zero]
  have b0:zi a b 0=0:=by unfold zi;rw [Nat.pow_zero,Nat.mod_one,Nat.mod_one];rfl
  have hlt:a - b < H ^ (2 * n):=Nat.lt_of_le_of_lt (Nat.sub_le _ _) ha'
  refine aZ (ae (a:=(hH a (2 * n),2 * n,hH b (2 * m),2 * m)) ?_ (ae rfl (ae (a:=(2 * n,2 * n,hH (a - b) (2 * n))) (cw (fun j=>(j,j,((zi a b j:Nat):Int),j,hH (IA a b j) j)) (2 * n) (by rw [b0];rfl) (fun j hj=>?_) ?_) (ae (a:=(aA (a - b) (nl (a - b)),nl (a - b))) ?_ rfl))))
  · unfold I6
    rw [aF,aF,KI ha (by omega),KI hb (by omega)]
    exact bf (ao (bf (ao rfl)))
  · have hbr:zi a b j≤1:=by unfold zi;split <;> omega
    have hD:=(aob (a:=a) (b:=b) (j:=j)).1
    obtain ⟨s1,s2⟩:=arE a b j
    have l1:a / H ^ j % H < 4294967296:=Nat.mod_lt _ (show H > 0 by decide)
    have l2:b / H ^ j % H < 4294967296:=Nat.mod_lt _ (show H > 0 by decide)
    have hp:=ap4 hD (Nat.mod_lt (a / H ^ j % H+H - b / H ^ j % H - zi a b j) (show H > 0 by decide))
    rw [← s2] at hp
    have eH:H=4294967296:=rfl
    have q1:(4294967296:Int)+((a / H ^ j % H:Nat):Int)=((4294967296+a / H ^ j % H:Nat):Int):=by omega
    have q2:((4294967296+a / H ^ j % H:Nat):Int) - ((b / H ^ j % H:Nat):Int)=((4294967296+a / H ^ j % H - b / H ^ j % H:Nat):Int):=by omega
    have q3:((4294967296+a / H ^ j % H - b / H ^ j % H:Nat):Int) - ((zi a b j:Nat):Int)=((a / H ^ j % H+H - b / H ^ j % H - zi a b j:Nat):Int):=by omega
    have hW:W=18446744073709551616:=rfl
    have q4:(1:Int) - (((a / H ^ j % H+H - b / H ^ j % H - zi a b j) / 4294967296:Nat):Int)=((zi a b (j+1):Nat):Int):=by
      rw [s1];split <;> omega
    have hb1:zi a b (j+1) < W:=by unfold zi;split <;> decide
    show aC (wP _ _ _ _ _ _ _ _ _).run _=_
    refine ae (a:=(j+1,((zi a b (j+1):Nat):Int),hH (IA a b (j+1)) (j+1))) ?_ (ap rfl)
    unfold wP
    rw [bR e8,Vo hb',Ca ha',Iz]
    simp only [lT,d5]
    rw [q1,kS (by omega),q2,kS (by omega),q3,kS (by omega),aqT,aqU,kS (by omega),q4,kS hb1,e8,e8,MG (Nat.le_refl _)]
    refine cK (ap (ap (cT (Me e8) (ao (ao (ap (ap (ao (ap (ao ?_))))))))))
    show some (Sum.inl (j+1,((zi a b (j+1):Nat):Int),hH (IA a b j) j ++ [(((a / H ^ j % H+H - b / H ^ j % H - zi a b j) % H:Nat):Int)]))=_
    rw [hp]
  · show aC (wP _ _ _ _ _ _ _ _ _).run _=_
    exact bH (dl (by rw [hd];rfl))
  · show (CA _ _).run=_
    unfold CA
    rw [bR e8,Z2 hlt (by omega)]
    exact cT (Me e8) (ao rfl)
end Go.Plb.Seat
namespace Go.Plb.Seat
open Go Go.Plb
set_option linter.unusedSimpArgs false
set_option linter.unusedVariables false
theorem arK{a b n m:Nat}(ha:a < W ^ n)(hb:b < W ^ m)(hn:n≤10000)(hm:m≤10000) :nC (aA a n) (aA b m)=some (.r0 (sB a b)):=by
  have la:=jR ha
  have lb:=jR hb
  refine aZ (ae (a:=(aA a (nl a),nl a,aA b (nl b),nl b)) ?_ ?_)
  · unfold LX
    rw [aF,aF,Cb ha (by omega),Cb hb (by omega)]
    exact bf (ao (bf (ao rfl)))
  by_cases h1:nl a < nl b
  · have:sB a b = -1:=by unfold sB;rw [if_pos (VY h1)]
    rw [this]
    exact bH (cK (cK rfl))
  by_cases h2:nl b < nl a
  · have hlt:=VY h2
    have:sB a b=1:=by unfold sB;rw [if_neg (by omega),if_pos hlt]
    rw [this]
    exact bH (cK (dl rfl))
  have hn':nl b=nl a:=by omega
  have hA:=cU a
  have hB:=cU b
  have hk:nl a≤10000:=by omega
  rw [hn'] at hB ⊢
  clear la lb h1 h2 hn'
  generalize nl a=n at *
  refine ae (a:=((n:Int) - 1)) (e9 (by simp) (ap rfl)) ?_
  have step:∀ j,j < n→lm a (n - 1 - j)=lm b (n - 1 - j)→CP (aA a n) n (aA b n) n ((n:Int) - 1 - j)=some (.inl ((n:Int) - 1 - (j+1:Nat))):=by
    intro j hj he
    show (tA _ _ _ _ _).run=_
    unfold tA
    have e:Int.toNat ((n:Int) - 1 - (j:Int))=n - 1 - j:=by omega
    rw [e,cE hA,cE hB,ax,ax,he]
    refine cK (ap (ap (ap (ap (e9 (by simp) (ap (ap (ap (ap (e9 (by simp) (ap ?_)))))))))))
    show some (Sum.inl _)=_
    congr 2;omega
  by_cases hall:∀ j,j < n→lm a (n - 1 - j)=lm b (n - 1 - j)
  · have hab:a=b:=by
      have:=NQ hA hB (d:=n) (Nat.le_refl _) fun k _ h2=>by
        have:=hall (n - 1 - k) (by omega)
        rwa [show n - 1 - (n - 1 - k)=k by omega] at this
      simpa using this
    subst hab
    have:sB a a=0:=by unfold sB;rw [if_neg (Nat.lt_irrefl _),if_neg (Nat.lt_irrefl _)]
    rw [this]
    exact ae (cw (fun j=>(n:Int) - 1 - (j:Nat)) n (by omega) (fun j hj=>step j hj (hall j hj)) (dl rfl)) rfl
  · obtain ⟨k,hk,hb',hf⟩:=FW hall
    have hup:a / W ^ (n - 1 - k+1)=b / W ^ (n - 1 - k+1):=by
      have:=NQ hA hB (d:=k) (by omega) fun i h1 h2=>by
        have:=hf (n - 1 - i) (by omega)
        rwa [show n - 1 - (n - 1 - i)=i by omega] at this
      rwa [show n - k=n - 1 - k+1 by omega] at this
    refine bH (cw (fun j=>(n:Int) - 1 - (j:Nat)) k (by omega) (fun j hj=>step j (by omega) (hf j hj)) ?_)
    show (tA _ _ _ _ _).run=_
    unfold tA
    have e:Int.toNat ((n:Int) - 1 - (k:Int))=n - 1 - k:=by omega
    rw [e,cE hA,cE hB,ax,ax]
    refine cK (ap (ap (ap (ap ?_))))
    by_cases hlt:lm a (n - 1 - k) < lm b (n - 1 - k)
    · have:=K2 hup hlt
      have:sB a b = -1:=by unfold sB;rw [if_pos this]
      rw [this]
      exact rz (decide_eq_true hlt) rfl
    · have hgt:lm b (n - 1 - k) < lm a (n - 1 - k):=by omega
      have hlt':=K2 hup.symm hgt
      have:sB a b=1:=by unfold sB;rw [if_neg (by omega),if_pos hlt']
      rw [this]
      exact e9 (decide_eq_false hlt) (ap (ap (ap (ap (rz (decide_eq_true hgt) rfl)))))
theorem agO{a b n m:Nat}(ha:a < H ^ n)(hb:b < H ^ m) :a * b < H ^ (n+m):=by
  rw [Nat.pow_add]
  rcases Nat.eq_zero_or_pos b with h | h
  · rw [h,Nat.mul_zero];exact Nat.mul_pos (ze _) (ze _)
  · exact Nat.mul_lt_mul_of_lt_of_le ha (Nat.le_of_lt hb) (ze _)
theorem arL{x y c o:Nat}(hx:x < H)(hy:y < H)(hc:c≤x)(ho:o < H) :o+x * y+c < W:=by
  have hp:x * y≤4294967295 * 4294967295:=Nat.mul_le_mul (by have:x < 4294967296:=hx;omega) (by have:y < 4294967296:=hy;omega)
  have h1:x < 4294967296:=hx
  have h2:o < 4294967296:=ho
  show _ < 18446744073709551616
  omega
theorem ajS{a b n m:Nat}(ha:a < W ^ n)(hb:b < W ^ m)(hn:n≤10000)(hm:m≤10000) :dC (aA a n) (aA b m)=some (.r0 (aA (a * b) (nl (a * b))) (nl (a * b))):=by
  have ha':a < H ^ (2 * n):=by rw [← H2];exact ha
  have hb':b < H ^ (2 * m):=by rw [← H2];exact hb
  have hab:=agO ha' hb'
  have hab1:a * b < H ^ (2 * n+2 * m+1):=Nat.lt_of_lt_of_le hab (Nat.pow_le_pow_right (by decide) (by omega))
  refine aZ (ae (a:=(hH a (2 * n),2 * n,hH b (2 * m),2 * m)) ?_ (ae (a:=(2 * n+2 * m+1,hH 0 (2 * n+2 * m+1))) ?_ (ae (a:=hH (a * b) (2 * n+2 * m+1)) (cw (fun i=>(i,hH (a % H ^ i * b) (2 * n+2 * m+1))) (2 * n) (by simp [Nat.mod_one]) (fun i hi=>?_) ?_) (ae (a:=(aA (a * b) (nl (a * b)),nl (a * b))) ?_ rfl))))
  · unfold I9
    rw [aF,aF,KI ha (by omega),KI hb (by omega)]
    exact bf (ao (bf (ao rfl)))
  · show (CB _ _).run=_
    unfold CB
    rw [ap0]
    exact ap (ap (ap (ap (ap (ap rfl)))))
  · have hO:a % H ^ i * b < H ^ (i+2 * m):=agO (MH _ _) hb'
    have lx:=Nat.mod_lt (a / H ^ i) (show H > 0 by decide)
    have e2:a % H ^ i * b+b * (a / H ^ i % H) * H ^ i=a % H ^ (i+1) * b:=by rw [zf,Nat.add_mul,Nat.mul_comm b,Nat.mul_right_comm]
    have hA:=arG (O:=a % H ^ i * b) (a:=b) (m:=a / H ^ i % H) (k:=i) hO hb'
    have hL:=arH (O:=a % H ^ i * b) (a:=b) (m:=a / H ^ i % H) (k:=i) (N:=2 * n+2 * m+1) hO
    rw [e2] at hA
    rw [hA] at hL
    show aC (CC _ _ _).run _=_
    refine ae (a:=()) (cK rfl) (ae (a:=hH (a % H ^ (i+1) * b) (2 * n+2 * m+1)) (NO (ae rfl (ae (a:=(((a % H ^ (i+1) * b / H ^ (i+2 * m):Nat):Int),hH (a % H ^ (i+1) * b % H ^ (i+2 * m)) (2 * n+2 * m+1))) ?_ ?_))) (ap rfl))
    · have c0:oA (a % H ^ i * b) b (a / H ^ i % H) i 0 / H ^ (i+0)=0:=by
        have e:oA (a % H ^ i * b) b (a / H ^ i % H) i 0=a % H ^ i * b % H ^ i:=by unfold oA;rw [Nat.pow_zero,Nat.mod_one,Nat.zero_mul,Nat.zero_mul,Nat.add_zero,Nat.add_zero]
        rw [e,Nat.add_zero,Nat.div_eq_of_lt (MH _ _)]
      refine cw (fun k=>(((oA (a % H ^ i * b) b (a / H ^ i % H) i k / H ^ (i+k):Nat):Int),k,Uk (a % H ^ i * b) b (a / H ^ i % H) i (2 * n+2 * m+1) k)) (2 * m) (by rw [c0,ap2];rfl) (fun k hk=>?_) ?_
      · have hc:=aoc (O:=a % H ^ i * b) (a:=b) (m:=a / H ^ i % H) (k:=i) (i:=k)
        have ly:=Nat.mod_lt (b / H ^ k) (show H > 0 by decide)
        have lO:=Nat.mod_lt (a % H ^ i * b / H ^ (i+k)) (show H > 0 by decide)
        have hl:=arF (O:=a % H ^ i * b) (a:=b) (m:=a / H ^ i % H) (k:=i) (n:=2 * n+2 * m+1) (i:=k)
        have hat:=atg (O:=a % H ^ i * b) (a:=b) (m:=a / H ^ i % H) (k:=i) (n:=2 * n+2 * m+1) (i:=k) (by omega)
        have hst:=ap3 (O:=a % H ^ i * b) (a:=b) (m:=a / H ^ i % H) (k:=i) (n:=2 * n+2 * m+1) (i:=k) (by omega)
        have hw:=arL (x:=a / H ^ i % H) (y:=b / H ^ k % H) (c:=oA (a % H ^ i * b) b (a / H ^ i % H) i k / H ^ (i+k)) (o:=a % H ^ i * b / H ^ (i+k) % H) lx ly hc lO
        have hS:=MH (oA (a % H ^ i * b) b (a / H ^ i % H) i k) (i+k)
        obtain ⟨d1,_⟩:=QK (t:=a % H ^ i * b / H ^ (i+k) % H+b / H ^ k % H * (a / H ^ i % H)+oA (a % H ^ i * b) b (a / H ^ i % H) i k / H ^ (i+k)) hS
        rw [← agN] at d1
        rw [Nat.mul_comm (a / H ^ i % H)] at hw
        show (wR _ _ _ _ _ _ _ _ _).run=_
        unfold wR
        rw [hat,Iz,Ca ha',Ca hb',Iz,Iz,hl,e8,e8,Dv,Nat.mul_comm (a / H ^ i % H),Nat.mod_eq_of_lt (Nat.lt_of_le_of_lt (Nat.le_trans (Nat.le_add_left _ _) (Nat.le_add_right _ _)) hw:b / H ^ k % H * (a / H ^ i % H) < W),qN,Nat.mod_eq_of_lt (Nat.lt_of_le_of_lt (Nat.le_add_right _ _) hw:a % H ^ i * b / H ^ (i+k) % H+b / H ^ k % H * (a / H ^ i % H) < W),qN,Nat.mod_eq_of_lt hw,aqT,aqU,kS (Nat.lt_of_le_of_lt (Nat.div_le_self _ _) hw)]
        have d1':(a % H ^ i * b / H ^ (i+k) % H+b / H ^ k % H * (a / H ^ i % H)+oA (a % H ^ i * b) b (a / H ^ i % H) i k / H ^ (i+k)) / 4294967296=oA (a % H ^ i * b) b (a / H ^ i % H) i (k+1) / H ^ (i+(k+1)):=d1.symm
        have hst':(Uk (a % H ^ i * b) b (a / H ^ i % H) i (2 * n+2 * m+1) k).set (i+k) (((a % H ^ i * b / H ^ (i+k) % H+b / H ^ k % H * (a / H ^ i % H)+oA (a % H ^ i * b) b (a / H ^ i % H) i k / H ^ (i+k)) % 4294967296:Nat):Int)=_:=hst
        rw [d1',hst']
        exact cK (ap (ap (ap (ap (ap (ap (ap (ap (ao (ap (ap (ao (ap rfl)))))))))))))
      · show (wR _ _ _ _ _ _ _ _ _).run=_
        refine e9 (by rw [decide_eq_false_iff_not];omega) ?_
        rw [hL,hA];rfl
    · have hO1:a % H ^ (i+1) * b < H ^ (i+1+2 * m):=agO (MH _ _) hb'
      have hcar:a % H ^ (i+1) * b / H ^ (i+2 * m) < H:=by
        refine Nat.div_lt_of_lt_mul ?_
        rw [← Nat.pow_succ,show (i+2 * m).succ=i+1+2 * m by omega];exact hO1
      have iP:=aiY (u:=a % H ^ (i+1) * b % H ^ (i+2 * m)) (x:=a % H ^ (i+1) * b / H ^ (i+2 * m)) (j:=i+2 * m) (n:=2 * n+2 * m+1) (MH _ _) hcar (by omega)
      have hv:a % H ^ (i+1) * b % H ^ (i+2 * m)+a % H ^ (i+1) * b / H ^ (i+2 * m) * H ^ (i+2 * m)=a % H ^ (i+1) * b:=by rw [Nat.mul_comm (a % H ^ (i+1) * b / H ^ (i+2 * m))];exact Nat.mod_add_div _ _
      rw [hv] at iP
      show (CE _ _ _ _ _).run=_
      unfold CE
      rw [iP,e8]
      exact ap (ap (ap rfl))
  · show aC (CC _ _ _).run _=_
    refine bH (e9 (by rw [decide_eq_false_iff_not];omega) ?_)
    rw [Nat.mod_eq_of_lt ha'];rfl
  · unfold Jc
    rw [bR e8,Z2 hab1 (by omega)]
    exact cT (Me e8) (ao rfl)
theorem ap5{k:Nat}(hk:k≤1000000) :gA (k:Int)=some (.r0 (k / 64+1) (aA (2 ^ k) (k / 64+1))):=by
  have hr:k % 64 < 64:=Nat.mod_lt _ (by decide)
  have iP:=zB (u:=0) (x:=2 ^ (k % 64)) (j:=k / 64) (n:=k / 64+1) (iL _) (FX hr) (by omega)
  rw [Nat.zero_add,← NR] at iP
  have e1:((k / 64:Nat):Int)+(1:Int)=((k / 64+1:Nat):Int):=by omega
  have hp:2 ^ (k % 64) < W:=FX hr
  have e2:IntKind.u64.wrap ((1:Int) * 2 ^ (min (Int.toNat (((k % 64:Nat)):Int)) IntKind.u64.bits))=((2 ^ (k % 64):Nat):Int):=by
    rw [show (1:Int)=((1:Nat):Int) from rfl,V0 _ (by omega),Nat.one_mul,Nat.mod_eq_of_lt hp]
  refine aZ ?_
  unfold Jd
  rw [ZB,ZC,e1,e2,cI,cI,J6,iP,ax]
  exact ao (ap (ap (ap (ap (ap (ap (ao (ap (ao (ap (ap (ap rfl))))))))))))
theorem arM(k:Nat) :2 ^ k < W ^ (k / 64+1):=by
  rw [NR,Nat.pow_succ,Nat.mul_comm]
  exact Nat.mul_lt_mul_of_pos_left (FX (Nat.mod_lt _ (by decide))) (iL _)
theorem ajT{v n k:Nat}(hv:v < W ^ n)(hn:n≤10000)(hk:k≤600000) :jH (aA v n) (k:Int)=some (.r0 (aA (v * 2 ^ k) (nl (v * 2 ^ k))) (nl (v * 2 ^ k))):=by
  refine aZ (ae (a:=(aA (v * 2 ^ k) (nl (v * 2 ^ k)),nl (v * 2 ^ k))) ?_ rfl)
  unfold LU
  rw [ap5 (by omega)]
  simp only [wS,mi,mj]
  rw [aF,bR ax,ajS hv (arM k) hn (by omega)]
  exact ao (bf (dT (ao rfl)))
def bl(v:Nat) :Nat:=if v=0 then 0 else v.log2+1
theorem at6(v:Nat) :v < 2 ^ bl v∧∀ j,j < bl v→0 < v / 2 ^ j:=by
  unfold bl
  by_cases h:v=0
  · subst h;exact ⟨by decide,fun j hj=>absurd hj (by simp)⟩
  · rw [if_neg h]
    refine ⟨Nat.lt_log2_self,fun j hj=>?_⟩
    exact Nat.div_pos (Nat.le_trans (Nat.pow_le_pow_right (by decide) (by omega)) (Nat.log2_self_le h)) (mW j)
theorem agP{v n:Nat}(hv:v < W ^ n)(hn:n≤10000) :∃ b:Nat,pT (aA v n)=some (.r0 (b:Int))∧v < 2 ^ b∧b≤64 * nl v:=by
  have hl:=jR hv
  have t8:(CG (aA v n)).run=some (.inl (aA v (nl v),nl v)):=by
    unfold CG
    rw [aF,Cb hv (by omega)]
    exact bf (ao rfl)
  by_cases h0:v=0
  · refine ⟨0,aZ (ae t8 (bH ?_)),by rw [h0];decide,Nat.zero_le _⟩
    rw [h0,f7];exact bN rfl
  · have hp:=DY h0
    obtain ⟨b1,b2⟩:=at6 (v / W ^ (nl v - 1) % W)
    have hlt:v / W ^ (nl v - 1) % W < W:=Nat.mod_lt _ (by decide)
    have hb64:bl (v / W ^ (nl v - 1) % W)≤64:=by
      rcases Nat.lt_or_ge 64 (bl (v / W ^ (nl v - 1) % W)) with q | q
      · exfalso
        have:=b2 64 q
        have e:v / W ^ (nl v - 1) % W / 2 ^ 64=0:=Nat.div_eq_of_lt hlt
        omega
      · exact q
    have hdiv:v / W ^ (nl v - 1) % W=v / W ^ (nl v - 1):=by
      refine Nat.mod_eq_of_lt (Nat.div_lt_of_lt_mul ?_)
      rw [← Nat.pow_succ,show (nl v - 1).succ=nl v by omega];exact cU v
    refine ⟨64 * (nl v - 1)+bl (v / W ^ (nl v - 1) % W),aZ (ae t8 (ae (a:=(((64 * (nl v - 1):Nat):Int),((v / W ^ (nl v - 1) % W:Nat):Int))) ?_ (ae (a:=((64 * (nl v - 1)+bl (v / W ^ (nl v - 1) % W):Nat):Int)) (cw (fun j=>(((64 * (nl v - 1)+j:Nat):Int),((v / W ^ (nl v - 1) % W / 2 ^ j:Nat):Int))) (bl (v / W ^ (nl v - 1) % W)) (by simp) (fun j hj=>?_) ?_) rfl))),?_,by omega⟩
    · show (CH _ _).run=_
      unfold CH
      have e1:Int.toNat (((nl v:Nat):Int) - 1)=nl v - 1:=by omega
      have e2:(64:Int) * (((nl v:Nat):Int) - 1)=((64 * (nl v - 1):Nat):Int):=by omega
      rw [e1,e2,cE (cU v),zD,ax]
      exact dl (ap (ap (ap (ap (ap rfl)))))
    · show (uw _ _).run=_
      have hpos:=b2 j hj
      unfold uw
      have e1:((64 * (nl v - 1)+j:Nat):Int)+(1:Int)=((64 * (nl v - 1)+(j+1):Nat):Int):=by omega
      have e2:Int.tdiv ((v / W ^ (nl v - 1) % W / 2 ^ j:Nat):Int) (2:Int)=((v / W ^ (nl v - 1) % W / 2 ^ (j+1):Nat):Int):=by
        show ((v / W ^ (nl v - 1) % W / 2 ^ j / 2:Nat):Int)=_
        rw [Nat.pow_succ,Nat.div_div_eq_div_mul]
      rw [e1,e2,kS (Nat.lt_of_le_of_lt (Nat.div_le_self _ _) hlt)]
      exact cK (ap (ao rfl))
    · show (uw _ _).run=_
      have z:v / W ^ (nl v - 1) % W / 2 ^ bl (v / W ^ (nl v - 1) % W)=0:=Nat.div_eq_of_lt b1
      rw [z]
      exact bj rfl
    · have e:W ^ (nl v - 1)=2 ^ (64 * (nl v - 1)):=by rw [Nat.pow_mul]
      rw [Nat.pow_add,← e]
      rw [hdiv] at b1 ⊢
      have:=(Nat.div_lt_iff_lt_mul (iL (nl v - 1))).1 b1
      rw [Nat.mul_comm];exact this
theorem ath(v i:Nat) :v / W ^ (i / 64) % W / 2 ^ (i % 64) % 2=v / 2 ^ i % 2:=by
  have hr:i % 64 < 64:=Nat.mod_lt _ (by decide)
  have e64:W=2 ^ (i % 64) * (2 * 2 ^ (63 - i % 64)):=by
    rw [← Nat.mul_assoc,← Nat.pow_succ,← Nat.pow_add];show 2 ^ 64=_;congr 1;omega
  rw [NR i,Nat.mul_comm (2 ^ (i % 64)),← Nat.div_div_eq_div_mul]
  generalize v / W ^ (i / 64)=y
  rw [e64,Nat.mod_mul_right_div_self,Nat.mod_mul_right_mod]
theorem Q9{v n i:Nat}(hv:v < W ^ n)(hn:n≤10000)(hi:i≤1000000) :nA (aA v n) (i:Int)=some (.r0 (v / 2 ^ i % 2 == 1)):=by
  have hr:i % 64 < 64:=Nat.mod_lt _ (by decide)
  refine aZ (ae (a:=(v / 2 ^ i % 2 == 1)) ?_ rfl)
  unfold LW
  rw [ZB,ZC,cI,cE hv,zD,HV _ (by omega),ax]
  by_cases h:i / 64 < n
  · refine cK (ao (ap (cK (ao (ap (ap (ap (ao (ap (ao ?_))))))))))
    have e:Int.tmod ((v / W ^ (i / 64) % W / 2 ^ (i % 64):Nat):Int) (2:Int)=((v / W ^ (i / 64) % W / 2 ^ (i % 64) % 2:Nat):Int):=rfl
    rw [e,ath]
    show some (Sum.inl _)=_
    congr 2
    rw [Bool.eq_iff_iff,beq_iff_eq,beq_iff_eq];omega
  · have z:v / 2 ^ i=0:=anh hv (by omega)
    rw [z]
    exact cK (ao (ap (dl rfl)))
theorem aoe{v n:Nat}(hv:v < W ^ n)(hn:n≤10000)(h0:v ≠ 0) :tx (aA v n)=some (.r0 (tz v)):=by
  have hl:=jR hv
  obtain ⟨b,h1,h2,h3⟩:=agP hv hn
  have ht:=ajf h0 h2
  obtain ⟨z1,z2⟩:=HW v h0
  refine aZ (ae (a:=(b:Int)) ?_ (ae rfl (bH (cw (fun i=>i) (tz v) rfl (fun j hj=>?_) ?_))))
  · unfold Eg
    rw [aF,h1]
    exact bf (ao rfl)
  · have z:v / 2 ^ j % 2=0:=by
      obtain ⟨d,hd⟩:∃ d,tz v=j+1+d:=⟨tz v - j - 1,by omega⟩
      obtain ⟨c,hc⟩:=Nat.dvd_of_mod_eq_zero z1
      have:v=(2 ^ d * c * 2) * 2 ^ j:=by
        rw [hd,Nat.pow_add,Nat.pow_succ] at hc
        rw [hc];simp only [Nat.mul_assoc,Nat.mul_comm,Nat.mul_left_comm]
      rw [this,Nat.mul_div_cancel _ (mW j),Nat.mul_mod_left]
    show aC (oP _ _ _).run _=_
    refine ae (a:=()) ?_ (ap rfl)
    unfold oP
    rw [aF,Q9 hv hn (by omega),z]
    exact cK (bf (ao (bj rfl)))
  · show aC (oP _ _ _).run _=_
    refine bH ?_
    unfold oP
    rw [aF,Q9 hv hn (by omega),z2]
    exact cK (bf (ao (bN rfl)))
theorem ati(v k j:Nat) :v % 2 ^ (k+(j+1)) / 2 ^ k=v % 2 ^ (k+j) / 2 ^ k+v / 2 ^ (k+j) % 2 * 2 ^ j:=by
  rw [← Nat.add_assoc,Nat.pow_succ,Nat.mod_mul,Nat.pow_add,Nat.mul_assoc,Nat.add_mul_div_left _ _ (mW k),Nat.mul_comm (2 ^ j)]
theorem arN{v n k:Nat}(hv:v < W ^ n)(hn:n≤10000)(hk:k≤1000000) :
    ∃ b,pV (aA v n) (k:Int)=some (.r0 (aA (v / 2 ^ k) (nl (v / 2 ^ k))) (nl (v / 2 ^ k)) b):=by
  have hl:=jR hv
  obtain ⟨b,h1,h2,h3⟩:=agP hv hn
  let f:Nat→Bool:=fun j=>Nat.rec (motive:=fun _=>Bool) false (fun j b=>b || (v / 2 ^ j % 2 == 1)) j
  have t20:(CJ (aA v n)).run=some (.inl (false,(b:Int))):=by
    unfold CJ
    rw [aF,h1]
    exact bf (ao rfl)
  have hmin:min k b≤640000:=by omega
  have hm1:∀ j,j < min k b→j < k∧j < b:=fun j hj=>by omega
  have hm2 : ¬ (min k b < k∧min k b < b):=by omega
  have l26:dM (CN (aA v n) (k:Int) (b:Int)) (false,0)=some (.inl (f (min k b))):=by
    revert hmin hm1 hm2
    generalize min k b=g
    intro hmin hm1 hm2
    refine cw (fun j=>(f j,j)) g rfl (fun j hj=>?_) ?_
    · obtain ⟨q1,q2⟩:=hm1 j hj
      show aC (tu _ _ _).run _=_
      refine ae (a:=true) ?_ (ae (a:=f (j+1)) ?_ (ap rfl))
      · unfold tu
        refine cK ?_
        show some (Sum.inl (decide _))=_
        rw [decide_eq_true (by omega)]
      · show (CM _ _ _ _).run=_
        unfold CM
        rw [aF,Q9 hv hn (by omega)]
        have hf:f (j+1)=(f j || (v / 2 ^ j % 2 == 1)):=rfl
        rw [hf]
        refine bN ?_
        cases f j
        · exact bj (bf (ao rfl))
        · exact bN rfl
    · show aC (tu _ _ _).run _=_
      refine ae (a:=false) ?_ (bH (bj rfl))
      unfold tu
      by_cases q:g < k
      · refine cK ?_
        show some (Sum.inl (decide _))=_
        rw [decide_eq_false (by omega)]
      · exact dl rfl
  refine ⟨f (min k b),aZ (ae t20 (ae rfl (ae l26 ?_)))⟩
  by_cases hkb:b≤k
  · have z:v / 2 ^ k=0:=Nat.div_eq_of_lt (Nat.lt_of_lt_of_le h2 (Nat.pow_le_pow_right (by decide) hkb))
    rw [z,f7]
    refine bH ?_
    unfold CO
    exact cK rfl
  · have e0:v % 2 ^ (k+0) / 2 ^ k=0:=Nat.div_eq_of_lt (Nat.mod_lt _ (mW _))
    have eb:v % 2 ^ (k+(b - k)) / 2 ^ k=v / 2 ^ k:=by rw [show k+(b - k)=b by omega,Nat.mod_eq_of_lt h2]
    refine ae (a:=aA 0 n) ?_ (ae (a:=aA (v / 2 ^ k) n) (cw (fun j=>(((k+j:Nat):Int),aA (v % 2 ^ (k+j) / 2 ^ k) n)) (b - k) (by rw [e0];rfl) (fun j hj=>?_) ?_) (ae (a:=(aA (v / 2 ^ k) (nl (v / 2 ^ k)),nl (v / 2 ^ k))) ?_ rfl))
    · unfold CO
      rw [ax,J6]
      exact dl (ap (ap (ap (ap rfl))))
    · show aC (wW _ _ _ _ _).run _=_
      refine ae (a:=aA (v % 2 ^ (k+(j+1)) / 2 ^ k) n) ?_ (cT (by rw [cV];omega) rfl)
      unfold wW
      have hbs:=ati v k j
      have es:((k+j:Nat):Int) - (k:Int)=(j:Int):=by omega
      rw [aF,Q9 hv hn (by omega),es,ZB,ZC,cI]
      simp only [se,qW]
      refine rz (by rw [decide_eq_true_eq];omega) (bf (ao ?_))
      have hr:j % 64 < 64:=Nat.mod_lt _ (by decide)
      have hjn:j / 64 < n:=by omega
      by_cases hbit:v / 2 ^ (k+j) % 2=1
      · rw [hbit,Nat.one_mul] at hbs
        have hU:v % 2 ^ (k+j) / 2 ^ k < 2 ^ j:=by
          refine Nat.div_lt_of_lt_mul ?_
          rw [← Nat.pow_add];exact Nat.mod_lt _ (mW _)
        have hUW:v % 2 ^ (k+j) / 2 ^ k < W ^ n:=by
          refine Nat.lt_of_lt_of_le hU ?_
          rw [show W ^ n=2 ^ (64 * n) by rw [Nat.pow_mul]]
          exact Nat.pow_le_pow_right (by decide) (by omega)
        rw [hbs]
        revert hU hUW
        generalize v % 2 ^ (k+j) / 2 ^ k=U
        intro hU hUW
        have hd:U / W ^ (j / 64) < 2 ^ (j % 64):=by
          refine Nat.div_lt_of_lt_mul ?_
          rw [Nat.mul_comm,← NR];exact hU
        have hp:2 ^ (j % 64) < W:=FX hr
        have hp2:2 ^ (j % 64)+2 ^ (j % 64)≤W:=by
          have:2 ^ (j % 64+1)≤2 ^ 64:=Nat.pow_le_pow_right (by decide) hr
          rw [Nat.pow_succ] at this
          have w:W=2 ^ 64:=by decide
          omega
        have hx:U / W ^ (j / 64) % W+2 ^ (j % 64) < W:=by
          have:=Nat.mod_le (U / W ^ (j / 64)) W
          omega
        have iP:=ang (n:=n) hx hjn
        rw [← NR] at iP
        have e2:IntKind.u64.wrap ((1:Int) * 2 ^ (min (Int.toNat (((j % 64:Nat)):Int)) IntKind.u64.bits))=((2 ^ (j % 64):Nat):Int):=by
          rw [show (1:Int)=((1:Nat):Int) from rfl,V0 _ (by omega),Nat.one_mul,Nat.mod_eq_of_lt hp]
        rw [hbit,e2,cE hUW,zD,qN,Nat.mod_eq_of_lt hx,iP,ax,ax]
        exact bN (ap (ao (ap (ap (ao (ap (ap (ap (ap (ao (ap (ap (ap rfl)))))))))))))
      · have z:v / 2 ^ (k+j) % 2=0:=by omega
        rw [z,Nat.zero_mul,Nat.add_zero] at hbs
        rw [z,hbs]
        exact bj rfl
    · show aC (wW _ _ _ _ _).run _=_
      refine bH (e9 (by rw [decide_eq_false_iff_not];omega) ?_)
      rw [eb];rfl
    · have hq:v / 2 ^ k < W ^ n:=Nat.lt_of_le_of_lt (Nat.div_le_self _ _) hv
      unfold Jg
      rw [ax,bR ax,Cb hq (by omega)]
      exact dT (ao rfl)
end Go.Plb.Seat
