/-
  Part 5 of what the claim leans on: an evaluator of the model, proved sound; the contracts of the functions.
-/
import Derived.Test.YthikcnkmglbbbaaGreatDoorA4
namespace Go.Plb.Seat
open Go Go.Plb
set_option linter.unusedVariables false
set_option maxRecDepth 100000
noncomputable section
inductive cT where
  | r0 (a:Nat) (b:Bool) (c:List Int) (d:Nat) (e:Nat) (f:Int)
def rg:cT→AE×aC
  | .r0 a b c d e f=>(.ret,⟨ag 78 [(8,.ptr 0 1 0 0),(9,.int .i64 ((a:Nat):Int))],[(0,.vs [.bool false b,.imm .free (.ns .u64 c) 1 1 d e,.int .i64 f])],1⟩)
theorem zo:lc rg:=by intro x;cases x <;> (intro h;cases h)
def Bz:cT→ju
  | .r0 a b c d e f=>⟨.tup [.agg [.bool false b,.imm .free (.ns .u64 c) 1 1 d e,.int .i64 f],.int .i64 ((a:Nat):Int)],[]⟩
def ub:List Code:=bD (bp ib)
def GR(e:Int)(f:Int)(g:Lv)(a:List Nat)(h:Int)(i:Int)(j:Lv)(b:List Nat)(k:Int)(l:Int)(m:Lv)(c:List Nat)(n:Lv)(d:List Nat)(o:Bool) :aC:=⟨ag 78 [(3,.imm n (.fl d) 1 1 0 (List.length d)),(4,.ptr 0 1 0 0),(5,.ptr 1 1 0 0),(6,.ptr 2 1 0 0),(8,.ptr 3 1 0 0)],[(0,.vs [.int .i64 e,.int .i64 f,.imm g (.fl a) 1 1 0 (List.length a)]),(1,.vs [.int .i64 h,.int .i64 i,.imm j (.fl b) 1 1 0 (List.length b)]),(2,.vs [.int .i64 k,.int .i64 l,.imm m (.fl c) 1 1 0 (List.length c)]),(3,.vs [.bool false o,.nsl,.int .i64 (0:Int)])],4⟩
def zp(f : Int)(g : Int)(a : List Nat)(h : Int)(e : Int)(b : List Nat)(i : Int)(j : Int)(c : List Nat)(d : List Nat) : T ((Bool) ⊕ (cT)) :=
  .ask (decide ((0 : Int) < (3 : Int)))
    (.need (iE (0 : Int) 3) <| .need (aI 0 (List.length a) a) <| .need (g8 (c8 f g (aa 0 (List.length a) a))) <| .ask (gg (c8 f g (aa 0 (List.length a) a)))
      (.ask (!(!(decide ((0:Int) ≥ (0:Int)))))
        (.leaf (.inr (.r0 2 false ([]:List Int) 0 0 (0:Int))))
        (.fail))
      (.need (dP .i64 (1 : Int)) <| .ask (decide ((1 : Int) < (3 : Int)))
        (.need (iE (1 : Int) 3) <| .need (aI 0 (List.length b) b) <| .need (g8 (c8 h e (aa 0 (List.length b) b))) <| .ask (gg (c8 h e (aa 0 (List.length b) b)))
          (.ask (!(!(decide ((1:Int) ≥ (0:Int)))))
            (.leaf (.inr (.r0 2 false ([]:List Int) 0 0 (0:Int))))
            (.fail))
          (.need (dP .i64 (2 : Int)) <| .ask (decide ((2 : Int) < (3 : Int)))
            (.need (iE (2 : Int) 3) <| .need (aI 0 (List.length c) c) <| .need (g8 (c8 i j (aa 0 (List.length c) c))) <| .ask (gg (c8 i j (aa 0 (List.length c) c)))
              (.ask (!(!(decide ((2:Int) ≥ (0:Int)))))
                (.leaf (.inr (.r0 2 false ([]:List Int) 0 0 (0:Int))))
                (.fail))
              (.need (dP .i64 (3:Int))<|.ask (decide ((3:Int) < (3:Int)))
                (.fail)
                (.ask (!(!(decide ((-1:Int) ≥ (0:Int)))))
                  (.fail)
                  (.ask (!(h == g && e == e))
                    (.leaf (.inr (.r0 8 false ([]:List Int) 0 0 (0:Int))))
                    (.ask (!(i == f && j == e))
                      (.leaf (.inr (.r0 8 false ([]:List Int) 0 0 (0:Int))))
                      (.ask ((((List.length d):Nat):Int) != e)
                        (.leaf (.inr (.r0 8 false ([]:List Int) 0 0 (0:Int))))
                        (.ask (decide ((0:Int) < (4:Int)))
                          (.need (iE (0 : Int) 4) <| .need (aI 0 (List.length a) a) <| .need (aP (ao (aa 0 (List.length a) a))) <| .ask (decide ((aQ (ao (aa 0 (List.length a) a))) ≥ (0 : Int)))
                            (.leaf (.inr (.r0 10 false ([]:List Int) 0 0 (0:Int))))
                            (.need (dP .i64 (1:Int))<|.ask (decide ((1:Int) < (4:Int)))
                              (.need (iE (1:Int) 4)<|.need (aI 0 (List.length b) b)<|.need (aP (ao (aa 0 (List.length b) b)))<|.ask (decide ((aQ (ao (aa 0 (List.length b) b))) ≥ (0:Int)))
                                (.leaf (.inr (.r0 10 false ([]:List Int) 0 0 (0:Int))))
                                (.need (dP .i64 (2:Int))<|.ask (decide ((2:Int) < (4:Int)))
                                  (.need (iE (2:Int) 4)<|.need (aI 0 (List.length c) c)<|.need (aP (ao (aa 0 (List.length c) c)))<|.ask (decide ((aQ (ao (aa 0 (List.length c) c))) ≥ (0:Int)))
                                    (.leaf (.inr (.r0 10 false ([]:List Int) 0 0 (0:Int))))
                                    (.need (dP .i64 (3:Int))<|.ask (decide ((3:Int) < (4:Int)))
                                      (.need (iE (3:Int) 4)<|.need (aI 0 (List.length d) d)<|.need (aP (ao (aa 0 (List.length d) d)))<|.ask (decide ((aQ (ao (aa 0 (List.length d) d))) ≥ (0:Int)))
                                        (.leaf (.inr (.r0 10 false ([]:List Int) 0 0 (0:Int))))
                                        (.need (dP .i64 (4:Int))<|.ask (decide ((4:Int) < (4:Int)))
                                          (.fail)
                                          (.leaf (.inl false))))
                                      (.fail)))
                                  (.fail)))
                              (.fail)))
                          (.fail))))))))
            (.fail)))
        (.fail)))
    (.fail)
def GS(h:Int)(i:Int)(j:Lv)(a:List Nat)(k:Int)(l:Int)(m:Lv)(b:List Nat)(n:Int)(o:Int)(p:Lv)(c:List Nat)(q:Bool) :Nat×(List Bool)×(List (List Int))×(List Int)×Nat×(List Bool)×(List (List Int))×(List Int)×Nat×(List Bool)×(List (List Int))×(List Int)×Nat×(List Bool)×(List (List Int))×(List Int)→aC:=fun (d,r,s,t,e,u,v,w,f,x,y,z,g,A,B,C)=>⟨ag 78 [(4,.ptr 0 1 0 0),(5,.ptr 1 1 0 0),(6,.ptr 2 1 0 0),(8,.ptr 3 1 0 0),(10,.ptr 4 1 0 0),(11,.ptr 5 1 0 0),(12,.ptr 6 1 0 0),(13,.ptr 7 1 0 0)],[(0,.vs [.int .i64 h,.int .i64 i,.imm j (.fl a) 1 1 0 (List.length a)]),(1,.vs [.int .i64 k,.int .i64 l,.imm m (.fl b) 1 1 0 (List.length b)]),(2,.vs [.int .i64 n,.int .i64 o,.imm p (.fl c) 1 1 0 (List.length c)]),(3,.vs [.bool false q,.nsl,.int .i64 (0:Int)]),(4,.vs [.imm .free (.cols d [.cb r,.cns .u64 s,.ci .i64 t]) 3 3 0 d]),(5,.vs [.imm .free (.cols e [.cb u,.cns .u64 v,.ci .i64 w]) 3 3 0 e]),(6,.vs [.imm .free (.cols f [.cb x,.cns .u64 y,.ci .i64 z]) 3 3 0 f]),(7,.vs [.imm .free (.cols g [.cb A,.cns .u64 B,.ci .i64 C]) 3 3 0 g])],8⟩
def uc(a:List Nat)(b:List Nat)(c:List Nat)(d:List Nat) :T ((Nat×(List Bool)×(List (List Int))×(List Int)×Nat×(List Bool)×(List (List Int))×(List Int)×Nat×(List Bool)×(List (List Int))×(List Int)×Nat×(List Bool)×(List (List Int))×(List Int))⊕(cT)) :=
  .need (aI 0 (List.length a) a)<|.need (i0 (ap (aa 0 (List.length a) a)))<|.need (aI 0 (List.length b) b)<|.need (i0 (ap (aa 0 (List.length b) b)))<|.need (aI 0 (List.length c) c)<|.need (i0 (ap (aa 0 (List.length c) c)))<|.need (aI 0 (List.length d) d)<|.need (i0 (ap (aa 0 (List.length d) d)))<|.leaf (.inl ((aN (ap (aa 0 (List.length a) a))),(dc (ap (aa 0 (List.length a) a))),(dd (ap (aa 0 (List.length a) a))),(de (ap (aa 0 (List.length a) a))),(aN (ap (aa 0 (List.length b) b))),(dc (ap (aa 0 (List.length b) b))),(dd (ap (aa 0 (List.length b) b))),(de (ap (aa 0 (List.length b) b))),(aN (ap (aa 0 (List.length c) c))),(dc (ap (aa 0 (List.length c) c))),(dd (ap (aa 0 (List.length c) c))),(de (ap (aa 0 (List.length c) c))),(aN (ap (aa 0 (List.length d) d))),(dc (ap (aa 0 (List.length d) d))),(dd (ap (aa 0 (List.length d) d))),(de (ap (aa 0 (List.length d) d)))))
def GT:Nat×Bool×(List Int)×Nat×Nat×Int→aC:=fun (a,b,c,d,e,f)=>⟨ag 78 [(8,.ptr 0 1 0 0),(9,.int .i64 ((a:Nat):Int))],[(0,.vs [.bool false b,.imm .free (.ns .u64 c) 1 1 d e,.int .i64 f])],1⟩
def ud(i:Int)(e:List Nat)(j:Int)(f:List Nat)(k:Int)(h:Int)(g:List Nat)(a:Nat)(l:List Bool)(m:List (List Int))(n:List Int)(b:Nat)(o:List Bool)(p:List (List Int))(q:List Int)(c:Nat)(r:List Bool)(s:List (List Int))(t:List Int)(d:Nat)(u:List Bool)(v:List (List Int))(w:List Int) :T ((Nat×Bool×(List Int)×Nat×Nat×Int)⊕(cT)) :=
  .need (Nat.ble (0+a) a)<|.need (aI 0 (List.length e) e)<|.need (Nat.ble (0+b) b)<|.need (aI 0 (List.length f) f)<|.need (Nat.ble (0+c) c)<|.need (aI 0 (List.length g) g)<|.need (Nat.ble (0+d) d)<|.need (eU (aK k h a (aa 0 a l) (aa 0 a m) (aa 0 a n) i (aa 0 (List.length e) e) b (aa 0 b o) (aa 0 b p) (aa 0 b q) j (aa 0 (List.length f) f) c (aa 0 c r) (aa 0 c s) (aa 0 c t) h (aa 0 (List.length g) g) d (aa 0 d u) (aa 0 d v) (aa 0 d w)))<|.leaf (.inl ((gH (aK k h a (aa 0 a l) (aa 0 a m) (aa 0 a n) i (aa 0 (List.length e) e) b (aa 0 b o) (aa 0 b p) (aa 0 b q) j (aa 0 (List.length f) f) c (aa 0 c r) (aa 0 c s) (aa 0 c t) h (aa 0 (List.length g) g) d (aa 0 d u) (aa 0 d v) (aa 0 d w))),(gI (aK k h a (aa 0 a l) (aa 0 a m) (aa 0 a n) i (aa 0 (List.length e) e) b (aa 0 b o) (aa 0 b p) (aa 0 b q) j (aa 0 (List.length f) f) c (aa 0 c r) (aa 0 c s) (aa 0 c t) h (aa 0 (List.length g) g) d (aa 0 d u) (aa 0 d v) (aa 0 d w))),(gJ (aK k h a (aa 0 a l) (aa 0 a m) (aa 0 a n) i (aa 0 (List.length e) e) b (aa 0 b o) (aa 0 b p) (aa 0 b q) j (aa 0 (List.length f) f) c (aa 0 c r) (aa 0 c s) (aa 0 c t) h (aa 0 (List.length g) g) d (aa 0 d u) (aa 0 d v) (aa 0 d w))),(gK (aK k h a (aa 0 a l) (aa 0 a m) (aa 0 a n) i (aa 0 (List.length e) e) b (aa 0 b o) (aa 0 b p) (aa 0 b q) j (aa 0 (List.length f) f) c (aa 0 c r) (aa 0 c s) (aa 0 c t) h (aa 0 (List.length g) g) d (aa 0 d u) (aa 0 d v) (aa 0 d w))),(gL (aK k h a (aa 0 a l) (aa 0 a m) (aa 0 a n) i (aa 0 (List.length e) e) b (aa 0 b o) (aa 0 b p) (aa 0 b q) j (aa 0 (List.length f) f) c (aa 0 c r) (aa 0 c s) (aa 0 c t) h (aa 0 (List.length g) g) d (aa 0 d u) (aa 0 d v) (aa 0 d w))),(gM (aK k h a (aa 0 a l) (aa 0 a m) (aa 0 a n) i (aa 0 (List.length e) e) b (aa 0 b o) (aa 0 b p) (aa 0 b q) j (aa 0 (List.length f) f) c (aa 0 c r) (aa 0 c s) (aa 0 c t) h (aa 0 (List.length g) g) d (aa 0 d u) (aa 0 d v) (aa 0 d w)))))
def GU(a:Nat)(b:Bool)(c:List Int)(d:Nat)(e:Nat)(f:Int) :T ((Empty)⊕(cT)) :=
  .leaf (.inr (.r0 a b c d e f))
def cU(i:Int)(d:Int)(a:List Nat)(j:Int)(e:Int)(b:List Nat)(f:Int)(g:Int)(c:List Nat)(h:List Nat) :Option cT:=l6 (ax ((zp i d a j e b f g c h).run) fun G =>
  ax ((uc a b c h).run) fun (k,l,m,n,o,p,q,r,s,t,u,v,w,x,y,z) =>
  ax ((ud d a e b f g c k l m n o p q r s t u v w x y z).run) fun (A,B,C,D,E,F) =>
  (GU A B C D E F).run)
theorem US(k:Int)(e:Int)(m:Lv)(b:List Nat)(l:Int)(f:Int)(n:Lv)(c:List Nat)(g:Int)(i:Int)(o:Lv)(d:List Nat)(p:Lv)(j:List Nat){x:cT}(h:cU k e b l f c g i d j=some x) :ak prog ib [] [.agg [.int .i64 k,.int .i64 e,.imm m (.fl b) 1 1 0 (List.length b)],.agg [.int .i64 l,.int .i64 f,.imm n (.fl c) 1 1 0 (List.length c)],.agg [.int .i64 g,.int .i64 i,.imm o (.fl d) 1 1 0 (List.length d)],.imm p (.fl j) 1 1 0 (List.length j)] (Bz x) :=
  Sg.contract true Bz (by kernel_rfl:prog.funcs[ib]? = some (FN ib)) (by kernel_rfl:(FN ib).body=some (bp ib)) (Sg.cut 2 zo (Sg.seg (C:=C0) ah dh 60 (ub.take 2) (aL (FN ib) [] [.agg [.int .i64 k,.int .i64 e,.imm m (.fl b) 1 1 0 (List.length b)],.agg [.int .i64 l,.int .i64 f,.imm n (.fl c) 1 1 0 (List.length c)],.agg [.int .i64 g,.int .i64 i,.imm o (.fl d) 1 1 0 (List.length d)],.imm p (.fl j) 1 1 0 (List.length j)]) (zp k e b l f c g i d j) (GR k e m b l f n c g i o d p j) rg [⟨[(.cell 48 1,.fre 1 1 (.ns .u64 ([]:List Int)))],[48],[8,9]⟩,⟨[(.cell 48 1,.fre 1 1 (.ns .u64 ([]:List Int)))],[48],[8,9]⟩,⟨[(.cell 48 1,.fre 1 1 (.ns .u64 ([]:List Int)))],[48],[8,9]⟩,⟨[(.cell 48 1,.fre 1 1 (.ns .u64 ([]:List Int)))],[48],[8,9]⟩,⟨[(.cell 48 1,.fre 1 1 (.ns .u64 ([]:List Int)))],[48],[8,9]⟩,⟨[(.cell 48 1,.fre 1 1 (.ns .u64 ([]:List Int)))],[48],[8,9]⟩,⟨[(.cell 48 1,.fre 1 1 (.ns .u64 ([]:List Int)))],[48],[8,9]⟩,⟨[(.cell 48 1,.fre 1 1 (.ns .u64 ([]:List Int)))],[48],[8,9]⟩,⟨[(.cell 48 1,.fre 1 1 (.ns .u64 ([]:List Int)))],[48],[8,9]⟩,⟨[(.cell 48 1,.fre 1 1 (.ns .u64 ([]:List Int)))],[48],[8,9]⟩,⟨[],[0,16,32,48],[3,4,5,6,8]⟩] (by kernel_rfl)) (fun q=>by exact Sg.cut 1 zo (Sg.seg (C:=C0) ah dh 60 ((ub.drop 2).take 1) (GR k e m b l f n c g i o d p j q) (uc b c d j) (GS k e m b l f n c g i o d q) rg [⟨[],[0,1,2,3,180,196,212,228],[4,5,6,8,10,11,12,13]⟩] (by kernel_rfl)) (fun a=>by obtain ⟨r,s,t,u,v,w,y,z,A,B,D,E,F,G,H,I⟩:=a;exact Sg.cut 1 zo (Sg.seg (C:=C0) ah dh 60 (((ub.drop 2).drop 1).take 1) (GS k e m b l f n c g i o d q (r,s,t,u,v,w,y,z,A,B,D,E,F,G,H,I)) (ud e b f c g i d r s t u v w y z A B D E F G H I) GT rg [⟨[],[3],[8,9]⟩] (by kernel_rfl)) (fun a=>by obtain ⟨J,K,L,M,N,O⟩:=a;exact Sg.seg (C:=C0) ah dh 60 (((ub.drop 2).drop 1).drop 1) (GT (J,K,L,M,N,O)) (GU J K L M N O) (fun a:Empty=>a.elim) rg [⟨[],[0],[8,9]⟩] (by kernel_rfl)))))
    (fun x=>by cases x with | r0 P Q R S T U=>exact ⟨.inr rfl,[.agg [.bool false Q,.imm .free (.ns .u64 R) 1 1 S T,.int .i64 U],.int .i64 ((P:Nat):Int)],[],by kernel_rfl,trivial,by kernel_rfl⟩) h
def ue:Option cT→Bool
  | some _=>true
  | none=>false
def wm:Option cT→Nat
  | some (.r0 x _ _ _ _ _)=>x
  | _=>0
def wn:Option cT→Bool
  | some (.r0 _ x _ _ _ _)=>x
  | _=>false
def wo:Option cT→List Int
  | some (.r0 _ _ x _ _ _)=>x
  | _=>[]
def wq:Option cT→Nat
  | some (.r0 _ _ _ x _ _)=>x
  | _=>0
def ws:Option cT→Nat
  | some (.r0 _ _ _ _ x _)=>x
  | _=>0
def wt:Option cT→Int
  | some (.r0 _ _ _ _ _ x)=>x
  | _=>0
theorem UT{x:Option cT}(h:ue x=true) :x=some (.r0 (wm x) (wn x) (wo x) (wq x) (ws x) (wt x)):=by
  unfold ue at h
  split at h <;> first | rfl | (cases h;done) | (rename_i y;cases y;rfl)
def I9:aD:=bW ib (.cons (.agg (.cons (.int .i64) (.cons (.int .i64) (.cons .fl .nil)))) (.cons (.agg (.cons (.int .i64) (.cons (.int .i64) (.cons .fl .nil)))) (.cons (.agg (.cons (.int .i64) (.cons (.int .i64) (.cons .fl .nil)))) (.cons .fl .nil)))) fun t=>[⟨Bz (.r0 (wm (cU t.1.1 t.1.2.1 t.1.2.2.1.2 t.2.1.1 t.2.1.2.1 t.2.1.2.2.1.2 t.2.2.1.1 t.2.2.1.2.1 t.2.2.1.2.2.1.2 t.2.2.2.1.2)) (wn (cU t.1.1 t.1.2.1 t.1.2.2.1.2 t.2.1.1 t.2.1.2.1 t.2.1.2.2.1.2 t.2.2.1.1 t.2.2.1.2.1 t.2.2.1.2.2.1.2 t.2.2.2.1.2)) (wo (cU t.1.1 t.1.2.1 t.1.2.2.1.2 t.2.1.1 t.2.1.2.1 t.2.1.2.2.1.2 t.2.2.1.1 t.2.2.1.2.1 t.2.2.1.2.2.1.2 t.2.2.2.1.2)) (wq (cU t.1.1 t.1.2.1 t.1.2.2.1.2 t.2.1.1 t.2.1.2.1 t.2.1.2.2.1.2 t.2.2.1.1 t.2.2.1.2.1 t.2.2.1.2.2.1.2 t.2.2.2.1.2)) (ws (cU t.1.1 t.1.2.1 t.1.2.2.1.2 t.2.1.1 t.2.1.2.1 t.2.1.2.2.1.2 t.2.2.1.1 t.2.2.1.2.1 t.2.2.1.2.2.1.2 t.2.2.2.1.2)) (wt (cU t.1.1 t.1.2.1 t.1.2.2.1.2 t.2.1.1 t.2.1.2.1 t.2.1.2.2.1.2 t.2.2.1.1 t.2.2.1.2.1 t.2.2.1.2.2.1.2 t.2.2.2.1.2))),[ue (cU t.1.1 t.1.2.1 t.1.2.2.1.2 t.2.1.1 t.2.1.2.1 t.2.1.2.2.1.2 t.2.2.1.1 t.2.2.1.2.1 t.2.2.1.2.2.1.2 t.2.2.2.1.2)]⟩]
theorem QC:aM prog I9:=aG fun t=>(aH (fun h=>US t.1.1 t.1.2.1 t.1.2.2.1.1 t.1.2.2.1.2 t.2.1.1 t.2.1.2.1 t.2.1.2.2.1.1 t.2.1.2.2.1.2 t.2.2.1.1 t.2.2.1.2.1 t.2.2.1.2.2.1.1 t.2.2.1.2.2.1.2 t.2.2.2.1.1 t.2.2.2.1.2 (UT h)) aR)
def Ja:List aD:=I9 :: nh
theorem qJ:aX prog (aZ Ja):=am QC dh
inductive jr where
  | r0 (a:Bool) (b:Int)
def CN:jr→AE×aC
  | .r0 a b=>(.ret,⟨ag 24 [(5,.bool false a),(6,.int .i64 b)],[],0⟩)
theorem Pa:lc CN:=by intro x;cases x <;> (intro h;cases h)
def IK:jr→ju
  | .r0 a b=>⟨.tup [.bool false a,.int .i64 b],[]⟩
def Ge:List Code:=bD (bp nU)
def Pb(c:Lv)(d:Bool)(e:Lv)(a:List Int)(f:Int)(g:Lv)(h:Bool)(i:Lv)(b:List Int)(j:Int) :Nat×Bool×(List Int)×Nat×Nat×Int→aC:=fun (k,l,m,n,o,p)=>⟨ag 24 [(3,.iptr c (.vs [.bool false d,.imm e (.ns .u64 a) 1 1 0 (List.length a),.int .i64 f]) 1 0 0),(4,.iptr g (.vs [.bool false h,.imm i (.ns .u64 b) 1 1 0 (List.length b),.int .i64 j]) 1 0 0),(7,.ptr 0 1 0 0),(8,.int .i64 ((k:Nat):Int))],[(0,.vs [.bool false l,.imm .free (.ns .u64 m) 1 1 n o,.int .i64 p])],1⟩
def Gf(f:Int)(g:Int)(b:List Nat)(d:Int)(e:Int)(a:List Nat)(c:List Nat) :T ((Nat×Bool×(List Int)×Nat×Nat×Int)⊕(jr)) :=
  .need (aI 0 (List.length b) b)<|.need (aI 0 (List.length a) a)<|.need (aI 0 (List.length a) a)<|.need (aI 0 (List.length c) c)<|.need (ue (cU f g (aa 0 (List.length b) b) d e (aa 0 (List.length a) a) d e (aa 0 (List.length a) a) (aa 0 (List.length c) c)))<|.leaf (.inl ((wm (cU f g (aa 0 (List.length b) b) d e (aa 0 (List.length a) a) d e (aa 0 (List.length a) a) (aa 0 (List.length c) c))),(wn (cU f g (aa 0 (List.length b) b) d e (aa 0 (List.length a) a) d e (aa 0 (List.length a) a) (aa 0 (List.length c) c))),(wo (cU f g (aa 0 (List.length b) b) d e (aa 0 (List.length a) a) d e (aa 0 (List.length a) a) (aa 0 (List.length c) c))),(wq (cU f g (aa 0 (List.length b) b) d e (aa 0 (List.length a) a) d e (aa 0 (List.length a) a) (aa 0 (List.length c) c))),(ws (cU f g (aa 0 (List.length b) b) d e (aa 0 (List.length a) a) d e (aa 0 (List.length a) a) (aa 0 (List.length c) c))),(wt (cU f g (aa 0 (List.length b) b) d e (aa 0 (List.length a) a) d e (aa 0 (List.length a) a) (aa 0 (List.length c) c)))))
def Pc:Bool×Int→aC:=fun (a,b)=>⟨ag 24 [(5,.bool false a),(6,.int .i64 b)],[],0⟩
def AG(f:Bool)(a:List Int)(g:Int)(h:Bool)(b:List Int)(i:Int)(j:Nat)(k:Bool)(c:List Int)(d:Nat)(e:Nat)(l:Int) :T ((Bool×Int)⊕(jr)) :=
  .need (aI d e c)<|.need (aI 0 (List.length a) a)<|.need (aI 0 (List.length b) b)<|.need (vg (gu k (aa d e c) l ((j:Nat):Int) f (aa 0 (List.length a) a) g h (aa 0 (List.length b) b) i))<|.leaf (.inl ((vM (gu k (aa d e c) l ((j:Nat):Int) f (aa 0 (List.length a) a) g h (aa 0 (List.length b) b) i)),(vN (gu k (aa d e c) l ((j:Nat):Int) f (aa 0 (List.length a) a) g h (aa 0 (List.length b) b) i))))
def Pd(a:Bool)(b:Int) :T ((Empty)⊕(jr)) :=
  .leaf (.inr (.r0 a b))
def kt(a:Int)(b:Int)(c:List Nat)(d:Int)(e:Int)(f:List Nat)(g:List Nat)(h:Bool)(i:List Int)(j:Int)(k:Bool)(l:List Int)(m:Int) :Option jr:=l6 (ax ((Gf a b c d e f g).run) fun (n,o,p,q,r,s) =>
  ax ((AG h i j k l m n o p q r s).run) fun (t,u) =>
  (Pd t u).run)
theorem adb(t:Lv)(l:Int)(m:Int)(u:Lv)(d:List Nat)(v:Lv)(n:Int)(o:Int)(w:Lv)(e:List Nat)(y:Lv)(z:Lv)(f:List Nat)(p:Lv)(g:Bool)(q:Lv)(b:List Int)(i:Int)(r:Lv)(j:Bool)(s:Lv)(c:List Int)(k:Int){x:jr}(h:kt l m d n o e f g b i j c k=some x) :ak prog nU [] [.iptr t (.vs [.int .i64 l,.int .i64 m,.imm u (.fl d) 1 1 0 (List.length d)]) 1 0 0,.iptr v (.vs [.int .i64 n,.int .i64 o,.imm w (.fl e) 1 1 0 (List.length e)]) 1 0 0,.iptr y (.vs [.imm z (.fl f) 1 1 0 (List.length f)]) 1 0 0,.iptr p (.vs [.bool false g,.imm q (.ns .u64 b) 1 1 0 (List.length b),.int .i64 i]) 1 0 0,.iptr r (.vs [.bool false j,.imm s (.ns .u64 c) 1 1 0 (List.length c),.int .i64 k]) 1 0 0] (IK x) :=
  Sg.contract false IK (by kernel_rfl:prog.funcs[nU]? = some (FN nU)) (by kernel_rfl:(FN nU).body=some (bp nU)) (Sg.cut 2 Pa (Sg.seg (C:=C0) ah qJ 60 (Ge.take 2) (aL (FN nU) [] [.iptr t (.vs [.int .i64 l,.int .i64 m,.imm u (.fl d) 1 1 0 (List.length d)]) 1 0 0,.iptr v (.vs [.int .i64 n,.int .i64 o,.imm w (.fl e) 1 1 0 (List.length e)]) 1 0 0,.iptr y (.vs [.imm z (.fl f) 1 1 0 (List.length f)]) 1 0 0,.iptr p (.vs [.bool false g,.imm q (.ns .u64 b) 1 1 0 (List.length b),.int .i64 i]) 1 0 0,.iptr r (.vs [.bool false j,.imm s (.ns .u64 c) 1 1 0 (List.length c),.int .i64 k]) 1 0 0]) (Gf l m d n o e f) (Pb p g q b i r j s c k) CN [⟨[],[160],[3,4,7,8]⟩] (by kernel_rfl)) (fun a=>by obtain ⟨A,B,D,E,F,G⟩:=a;exact Sg.cut 1 Pa (Sg.seg (C:=C0) ah qJ 60 ((Ge.drop 2).take 1) (Pb p g q b i r j s c k (A,B,D,E,F,G)) (AG g b i j c k A B D E F G) Pc CN [⟨[],[],[5,6]⟩] (by kernel_rfl)) (fun a=>by obtain ⟨H,I⟩:=a;exact Sg.seg (C:=C0) ah qJ 60 ((Ge.drop 2).drop 1) (Pc (H,I)) (Pd H I) (fun a:Empty=>a.elim) CN [⟨[],[],[5,6]⟩] (by kernel_rfl))))
    (fun x=>by cases x with | r0 J K=>exact ⟨.inr rfl,[.bool false J,.int .i64 K],[],by kernel_rfl,trivial,by kernel_rfl⟩) h
def vn:Option jr→Bool
  | some _=>true
  | none=>false
def vQ:Option jr→Bool
  | some (.r0 x _)=>x
  | _=>false
def nF:Option jr→Int
  | some (.r0 _ x)=>x
  | _=>0
theorem adc{x:Option jr}(h:vn x=true) :x=some (.r0 (vQ x) (nF x)):=by
  unfold vn at h
  split at h <;> first | rfl | (cases h;done) | (rename_i y;cases y;rfl)
def TI:aD:=bW nU (.cons (.ivs (.cons (.int .i64) (.cons (.int .i64) (.cons .fl .nil))) 1 0 0) (.cons (.ivs (.cons (.int .i64) (.cons (.int .i64) (.cons .fl .nil))) 1 0 0) (.cons (.ivs (.cons .fl .nil) 1 0 0) (.cons (.ivs (.cons .bool (.cons (.ns .u64) (.cons (.int .i64) .nil))) 1 0 0) (.cons (.ivs (.cons .bool (.cons (.ns .u64) (.cons (.int .i64) .nil))) 1 0 0) .nil))))) fun t=>[⟨IK (.r0 (vQ (kt t.1.2.1 t.1.2.2.1 t.1.2.2.2.1.2 t.2.1.2.1 t.2.1.2.2.1 t.2.1.2.2.2.1.2 t.2.2.1.2.1.2 t.2.2.2.1.2.1 t.2.2.2.1.2.2.1.2 t.2.2.2.1.2.2.2.1 t.2.2.2.2.1.2.1 t.2.2.2.2.1.2.2.1.2 t.2.2.2.2.1.2.2.2.1)) (nF (kt t.1.2.1 t.1.2.2.1 t.1.2.2.2.1.2 t.2.1.2.1 t.2.1.2.2.1 t.2.1.2.2.2.1.2 t.2.2.1.2.1.2 t.2.2.2.1.2.1 t.2.2.2.1.2.2.1.2 t.2.2.2.1.2.2.2.1 t.2.2.2.2.1.2.1 t.2.2.2.2.1.2.2.1.2 t.2.2.2.2.1.2.2.2.1))),[vn (kt t.1.2.1 t.1.2.2.1 t.1.2.2.2.1.2 t.2.1.2.1 t.2.1.2.2.1 t.2.1.2.2.2.1.2 t.2.2.1.2.1.2 t.2.2.2.1.2.1 t.2.2.2.1.2.2.1.2 t.2.2.2.1.2.2.2.1 t.2.2.2.2.1.2.1 t.2.2.2.2.1.2.2.1.2 t.2.2.2.2.1.2.2.2.1)]⟩]
theorem XY:aM prog TI:=aG fun t=>(aH (fun h=>adb t.1.1 t.1.2.1 t.1.2.2.1 t.1.2.2.2.1.1 t.1.2.2.2.1.2 t.2.1.1 t.2.1.2.1 t.2.1.2.2.1 t.2.1.2.2.2.1.1 t.2.1.2.2.2.1.2 t.2.2.1.1 t.2.2.1.2.1.1 t.2.2.1.2.1.2 t.2.2.2.1.1 t.2.2.2.1.2.1 t.2.2.2.1.2.2.1.1 t.2.2.2.1.2.2.1.2 t.2.2.2.1.2.2.2.1 t.2.2.2.2.1.1 t.2.2.2.2.1.2.1 t.2.2.2.2.1.2.2.1.1 t.2.2.2.2.1.2.2.1.2 t.2.2.2.2.1.2.2.2.1 (adc h)) aR)
def TJ:List aD:=TI :: Ja
theorem jE:aX prog (aZ TJ):=am XY qJ
inductive iD where
  | r0 (a:Bool) (b:Int)
def sW:iD→AE×aC
  | .r0 a b=>(.ret,⟨ag 78 [(6,.bool false a),(7,.int .i64 b)],[],0⟩)
theorem wS:lc sW:=by intro x;cases x <;> (intro h;cases h)
def QD:iD→ju
  | .r0 a b=>⟨.tup [.bool false a,.int .i64 b],[]⟩
def sX:List Code:=bD (bp qg)
def Xh(d:Int)(e:Int)(f:Lv)(a:List Nat)(g:Lv)(b:List Nat)(h:Int)(i:Int)(j:Lv)(c:List Nat)(_:Unit) :aC:=⟨ag 78 [(3,.ptr 0 1 0 0),(4,.ptr 1 1 0 0),(5,.ptr 2 1 0 0)],[(0,.vs [.int .i64 d,.int .i64 e,.imm f (.fl a) 1 1 0 (List.length a)]),(1,.vs [.imm g (.fl b) 1 1 0 (List.length b)]),(2,.vs [.int .i64 h,.int .i64 i,.imm j (.fl c) 1 1 0 (List.length c)])],3⟩
def E8(d : Int)(e : Int)(a : List Nat)(c : List Nat)(f : Int)(g : Int)(b : List Nat) : T ((Unit) ⊕ (iD)) :=
  .ask (decide ((0 : Int) < (2 : Int)))
    (.need (iE (0 : Int) 2) <| .need (aI 0 (List.length a) a) <| .need (g8 (c8 d e (aa 0 (List.length a) a))) <| .ask (gg (c8 d e (aa 0 (List.length a) a)))
      (.ask (!(!(decide ((0:Int) ≥ (0:Int)))))
        (.leaf (.inr (.r0 false (2:Int))))
        (.fail))
      (.need (dP .i64 (1:Int))<|.ask (decide ((1:Int) < (2:Int)))
        (.need (iE (1 : Int) 2) <| .need (aI 0 (List.length b) b) <| .need (g8 (c8 f g (aa 0 (List.length b) b))) <| .ask (gg (c8 f g (aa 0 (List.length b) b)))
          (.ask (!(!(decide ((1:Int) ≥ (0:Int)))))
            (.leaf (.inr (.r0 false (2:Int))))
            (.fail))
          (.need (dP .i64 (2:Int))<|.ask (decide ((2:Int) < (2:Int)))
            (.fail)
            (.ask (!(!(decide ((-1:Int) ≥ (0:Int)))))
              (.fail)
              (.ask (d != e)
                (.leaf (.inr (.r0 false (8:Int))))
                (.ask ((((List.length c):Nat):Int) != d)
                  (.leaf (.inr (.r0 false (8:Int))))
                  (.ask (!(f == d && g == e))
                    (.leaf (.inr (.r0 false (8:Int))))
                    (.ask (decide ((0:Int) < (3:Int)))
                      (.need (iE (0:Int) 3)<|.need (aI 0 (List.length a) a)<|.need (aP (ao (aa 0 (List.length a) a)))<|.ask (decide ((aQ (ao (aa 0 (List.length a) a))) ≥ (0:Int)))
                        (.leaf (.inr (.r0 false (10:Int))))
                        (.need (dP .i64 (1:Int))<|.ask (decide ((1:Int) < (3:Int)))
                          (.need (iE (1:Int) 3)<|.need (aI 0 (List.length b) b)<|.need (aP (ao (aa 0 (List.length b) b)))<|.ask (decide ((aQ (ao (aa 0 (List.length b) b))) ≥ (0:Int)))
                            (.leaf (.inr (.r0 false (10:Int))))
                            (.need (dP .i64 (2:Int))<|.ask (decide ((2:Int) < (3:Int)))
                              (.need (iE (2:Int) 3)<|.need (aI 0 (List.length c) c)<|.need (aP (ao (aa 0 (List.length c) c)))<|.ask (decide ((aQ (ao (aa 0 (List.length c) c))) ≥ (0:Int)))
                                (.leaf (.inr (.r0 false (10:Int))))
                                (.need (dP .i64 (3:Int))<|.ask (decide ((3:Int) < (3:Int)))
                                  (.fail)
                                  (.leaf (.inl ()))))
                              (.fail)))
                          (.fail)))
                      (.fail))))))))
        (.fail)))
    (.fail)
def Xi(d:Int)(e:Int)(f:Lv)(a:List Nat)(g:Lv)(b:List Nat)(h:Int)(i:Int)(j:Lv)(c:List Nat)(k:Bool) :aC:=⟨ag 78 [(3,.ptr 0 1 0 0),(4,.ptr 1 1 0 0),(5,.ptr 2 1 0 0),(49,.bool false k)],[(0,.vs [.int .i64 d,.int .i64 e,.imm f (.fl a) 1 1 0 (List.length a)]),(1,.vs [.imm g (.fl b) 1 1 0 (List.length b)]),(2,.vs [.int .i64 h,.int .i64 i,.imm j (.fl c) 1 1 0 (List.length c)])],3⟩
def E9(a:List Nat) :T ((Bool)⊕(iD)) :=
  .need (aI 0 (List.length a) a)<|.need (qE (kR (aa 0 (List.length a) a)))<|.leaf (.inl (!(sR (kR (aa 0 (List.length a) a)))))
def Xj(d:Int)(e:Int)(f:Lv)(a:List Nat)(g:Lv)(b:List Nat)(h:Int)(i:Int)(j:Lv)(c:List Nat) :Nat×Bool×(List Int)×Nat×Nat×Int→aC:=fun (k,l,m,n,o,p)=>⟨ag 78 [(3,.ptr 0 1 0 0),(4,.ptr 1 1 0 0),(5,.ptr 2 1 0 0),(8,.ptr 3 1 0 0),(9,.int .i64 ((k:Nat):Int))],[(0,.vs [.int .i64 d,.int .i64 e,.imm f (.fl a) 1 1 0 (List.length a)]),(1,.vs [.imm g (.fl b) 1 1 0 (List.length b)]),(2,.vs [.int .i64 h,.int .i64 i,.imm j (.fl c) 1 1 0 (List.length c)]),(3,.vs [.bool false l,.imm .free (.ns .u64 m) 1 1 n o,.int .i64 p])],4⟩
def CO(a:Int)(b:Bool) :T ((Nat×Bool×(List Int)×Nat×Nat×Int)⊕(iD)) :=
  .ask b
    (.leaf (.inr (.r0 false (0:Int))))
    (.need (rN (bB a a))<|.leaf (.inl ((qZ (bB a a)),(q7 (bB a a)),(q8 (bB a a)),(q9 (bB a a)),(ra (bB a a)),(rc (bB a a)))))
def Xk(d:Int)(e:Int)(f:Lv)(a:List Nat)(g:Lv)(b:List Nat)(h:Int)(i:Int)(j:Lv)(c:List Nat)(k:Nat)(l:Bool)(m:List Int)(n:Nat)(o:Nat)(p:Int) :Nat×Bool×(List Int)×Nat×Nat×Int→aC:=fun (f8,q,r,s,t,u)=>⟨ag 78 [(3,.ptr 0 1 0 0),(4,.ptr 1 1 0 0),(5,.ptr 2 1 0 0),(8,.ptr 3 1 0 0),(9,.int .i64 ((k:Nat):Int)),(10,.ptr 4 1 0 0),(11,.int .i64 ((f8:Nat):Int))],[(0,.vs [.int .i64 d,.int .i64 e,.imm f (.fl a) 1 1 0 (List.length a)]),(1,.vs [.imm g (.fl b) 1 1 0 (List.length b)]),(2,.vs [.int .i64 h,.int .i64 i,.imm j (.fl c) 1 1 0 (List.length c)]),(3,.vs [.bool false l,.imm .free (.ns .u64 m) 1 1 n o,.int .i64 p]),(4,.vs [.bool false q,.imm .free (.ns .u64 r) 1 1 s t,.int .i64 u])],5⟩
def CP(b:Int)(c:Int)(a:List Nat) :T ((Nat×Bool×(List Int)×Nat×Nat×Int)⊕(iD)) :=
  .need (aI 0 (List.length a) a)<|.need (xZ (cQ b c (aa 0 (List.length a) a)))<|.leaf (.inl ((x4 (cQ b c (aa 0 (List.length a) a))),(x5 (cQ b c (aa 0 (List.length a) a))),(x6 (cQ b c (aa 0 (List.length a) a))),(x7 (cQ b c (aa 0 (List.length a) a))),(x8 (cQ b c (aa 0 (List.length a) a))),(x9 (cQ b c (aa 0 (List.length a) a)))))
def Xl(d:Int)(e:Int)(f:Lv)(a:List Nat)(g:Lv)(b:List Nat)(h:Int)(i:Int)(j:Lv)(c:List Nat)(k:Nat)(l:Bool)(m:List Int)(n:Nat)(o:Nat)(p:Int)(f8:Nat)(q:Bool)(r:List Int)(s:Nat)(t:Nat)(u:Int)(v:Bool) :aC:=⟨ag 78 [(3,.ptr 0 1 0 0),(4,.ptr 1 1 0 0),(5,.ptr 2 1 0 0),(8,.ptr 3 1 0 0),(9,.int .i64 ((k:Nat):Int)),(10,.ptr 4 1 0 0),(11,.int .i64 ((f8:Nat):Int)),(68,.bool false v)],[(0,.vs [.int .i64 d,.int .i64 e,.imm f (.fl a) 1 1 0 (List.length a)]),(1,.vs [.imm g (.fl b) 1 1 0 (List.length b)]),(2,.vs [.int .i64 h,.int .i64 i,.imm j (.fl c) 1 1 0 (List.length c)]),(3,.vs [.bool false l,.imm .free (.ns .u64 m) 1 1 n o,.int .i64 p]),(4,.vs [.bool false q,.imm .free (.ns .u64 r) 1 1 s t,.int .i64 u])],5⟩
def TK(a:Nat)(f8:Nat) :T ((Bool)⊕(iD)) :=
  .ask (((a:Nat):Int) != (0:Int))
    (.leaf (.inl true))
    (.leaf (.inl (((f8:Nat):Int) != (0:Int))))
def Xm:Bool×Int→aC:=fun (a,b)=>⟨ag 78 [(6,.bool false a),(7,.int .i64 b)],[],0⟩
def CQ(n : Int)(o : Int)(b : List Nat)(c : List Nat)(g : Int)(h : Int)(a : List Nat)(r : Nat)(i : Bool)(d : List Int)(e : Nat)(f : Nat)(j : Int)(f8 : Nat)(p : Bool)(k : List Int)(l : Nat)(m : Nat)(q : Int)(s : Bool) : T ((Bool × Int) ⊕ (iD)) :=
  .ask s
    (.leaf (.inr (.r0 false (na ((r:Nat):Int) ((f8:Nat):Int)))))
    (.ask (decide ((0:Int) < (2:Int)))
      (.need (iE (0:Int) 2)<|.need (aI 0 (List.length a) a)<|.need (aI e f d)<|.need (vh (kr g h (aa 0 (List.length a) a) i (aa e f d) j))<|.ask (!(vP (kr g h (aa 0 (List.length a) a) i (aa e f d) j)))
        (.leaf (.inl (false,(nD (kr g h (aa 0 (List.length a) a) i (aa e f d) j)))))
        (.ask ((nD (kr g h (aa 0 (List.length a) a) i (aa e f d) j)) != (0:Int))
          (.leaf (.inl (false,(nD (kr g h (aa 0 (List.length a) a) i (aa e f d) j)))))
          (.need (dP .i64 (1:Int))<|.ask (decide ((1:Int) < (2:Int)))
            (.need (iE (1:Int) 2)<|.need (aI 0 (List.length b) b)<|.need (aI 0 (List.length a) a)<|.need (aI 0 (List.length c) c)<|.need (aI e f d)<|.need (aI l m k)<|.need (vn (kt n o (aa 0 (List.length b) b) g h (aa 0 (List.length a) a) (aa 0 (List.length c) c) i (aa e f d) j p (aa l m k) q))<|.ask (!(vQ (kt n o (aa 0 (List.length b) b) g h (aa 0 (List.length a) a) (aa 0 (List.length c) c) i (aa e f d) j p (aa l m k) q)))
              (.leaf (.inl (false,(nF (kt n o (aa 0 (List.length b) b) g h (aa 0 (List.length a) a) (aa 0 (List.length c) c) i (aa e f d) j p (aa l m k) q)))))
              (.ask ((nF (kt n o (aa 0 (List.length b) b) g h (aa 0 (List.length a) a) (aa 0 (List.length c) c) i (aa e f d) j p (aa l m k) q)) != (0:Int))
                (.leaf (.inl (false,(nF (kt n o (aa 0 (List.length b) b) g h (aa 0 (List.length a) a) (aa 0 (List.length c) c) i (aa e f d) j p (aa l m k) q)))))
                (.need (dP .i64 (2:Int))<|.ask (decide ((2:Int) < (2:Int)))
                  (.fail)
                  (.leaf (.inl (true,(0:Int)))))))
            (.fail))))
      (.fail))
def TL(a:Bool)(b:Int) :T ((Empty)⊕(iD)) :=
  .leaf (.inr (.r0 a b))
def fZ(a:Int)(b:Int)(c:List Nat)(d:List Nat)(e:Int)(f:Int)(g:List Nat) :Option iD:=l6 (ax ((E8 a b c d e f g).run) fun _ =>
  ax ((E9 d).run) fun i =>
  ax ((CO a i).run) fun (h,j,k,l,m,n) =>
  ax ((CP a b c).run) fun (f8,o,p,q,r,s) =>
  ax ((TK h f8).run) fun t =>
  ax ((CQ a b c d e f g h j k l m n f8 o p q r s t).run) fun (u,v) =>
  (TL u v).run)
theorem aiw(d:Int)(f:Int)(j:Lv)(b:List Nat)(k:Lv)(c:List Nat)(g:Int)(i:Int)(l:Lv)(e:List Nat){x:iD}(h:fZ d f b c g i e=some x) :ak prog qg [] [.agg [.int .i64 d,.int .i64 f,.imm j (.fl b) 1 1 0 (List.length b)],.imm k (.fl c) 1 1 0 (List.length c),.agg [.int .i64 g,.int .i64 i,.imm l (.fl e) 1 1 0 (List.length e)]] (QD x) :=
  Sg.contract true QD (by kernel_rfl:prog.funcs[qg]? = some (FN qg)) (by kernel_rfl:(FN qg).body=some (bp qg)) (Sg.cut 2 wS (Sg.seg (C:=C0) ah jE 60 (sX.take 2) (aL (FN qg) [] [.agg [.int .i64 d,.int .i64 f,.imm j (.fl b) 1 1 0 (List.length b)],.imm k (.fl c) 1 1 0 (List.length c),.agg [.int .i64 g,.int .i64 i,.imm l (.fl e) 1 1 0 (List.length e)]]) (E8 d f b c g i e) (Xh d f j b k c g i l e) sW [⟨[],[],[6,7]⟩,⟨[],[],[6,7]⟩,⟨[],[],[6,7]⟩,⟨[],[],[6,7]⟩,⟨[],[],[6,7]⟩,⟨[],[],[6,7]⟩,⟨[],[],[6,7]⟩,⟨[],[],[6,7]⟩,⟨[],[0,16,32],[3,4,5]⟩] (by kernel_rfl)) (fun a=>by cases a;exact Sg.cut 1 wS (Sg.seg (C:=C0) ah jE 60 ((sX.drop 2).take 1) (Xh d f j b k c g i l e ()) (E9 c) (Xi d f j b k c g i l e) sW [⟨[],[0,1,2],[3,4,5,49]⟩] (by kernel_rfl)) (fun y=>by exact Sg.cut 2 wS (Sg.seg (C:=C0) ah jE 60 (((sX.drop 2).drop 1).take 2) (Xi d f j b k c g i l e y) (CO d y) (Xj d f j b k c g i l e) sW [⟨[],[],[6,7]⟩,⟨[],[0,1,2,131],[3,4,5,8,9]⟩] (by kernel_rfl)) (fun a=>by obtain ⟨m,n,o,p,q,r⟩:=a;exact Sg.cut 1 wS (Sg.seg (C:=C0) ah jE 60 ((((sX.drop 2).drop 1).drop 2).take 1) (Xj d f j b k c g i l e (m,n,o,p,q,r)) (CP d f b) (Xk d f j b k c g i l e m n o p q r) sW [⟨[],[0,1,2,3,84],[3,4,5,8,9,10,11]⟩] (by kernel_rfl)) (fun a=>by obtain ⟨f8,s,t,u,v,w⟩:=a;exact Sg.cut 1 wS (Sg.seg (C:=C0) ah jE 60 (((((sX.drop 2).drop 1).drop 2).drop 1).take 1) (Xk d f j b k c g i l e m n o p q r (f8,s,t,u,v,w)) (TK m f8) (Xl d f j b k c g i l e m n o p q r f8 s t u v w) sW [⟨[],[0,1,2,3,4],[3,4,5,8,9,10,11,68]⟩,⟨[],[0,1,2,3,4],[3,4,5,8,9,10,11,68]⟩] (by kernel_rfl)) (fun z=>by exact Sg.cut 2 wS (Sg.seg (C:=C0) ah jE 60 ((((((sX.drop 2).drop 1).drop 2).drop 1).drop 1).take 2) (Xl d f j b k c g i l e m n o p q r f8 s t u v w z) (CQ d f b c g i e m n o p q r f8 s t u v w z) Xm sW [⟨[],[],[6,7]⟩,⟨[],[],[6,7]⟩,⟨[],[],[6,7]⟩,⟨[],[],[6,7]⟩,⟨[],[],[6,7]⟩,⟨[],[],[6,7]⟩] (by kernel_rfl)) (fun a=>by obtain ⟨A,B⟩:=a;exact Sg.seg (C:=C0) ah jE 60 ((((((sX.drop 2).drop 1).drop 2).drop 1).drop 1).drop 2) (Xm (A,B)) (TL A B) (fun a:Empty=>a.elim) sW [⟨[],[],[6,7]⟩] (by kernel_rfl))))))))
    (fun x=>by cases x with | r0 D E=>exact ⟨.inr rfl,[.bool false D,.int .i64 E],[],by kernel_rfl,trivial,by kernel_rfl⟩) h
def wT:Option iD→Bool
  | some _=>true
  | none=>false
def vo:Option iD→Bool
  | some (.r0 x _)=>x
  | _=>false
def vp:Option iD→Int
  | some (.r0 _ x)=>x
  | _=>0
theorem aix{x:Option iD}(h:wT x=true) :x=some (.r0 (vo x) (vp x)):=by
  unfold wT at h
  split at h <;> first | rfl | (cases h;done) | (rename_i y;cases y;rfl)
def aa8:aD:=bW qg (.cons (.agg (.cons (.int .i64) (.cons (.int .i64) (.cons .fl .nil)))) (.cons .fl (.cons (.agg (.cons (.int .i64) (.cons (.int .i64) (.cons .fl .nil)))) .nil))) fun t=>[⟨QD (.r0 (vo (fZ t.1.1 t.1.2.1 t.1.2.2.1.2 t.2.1.2 t.2.2.1.1 t.2.2.1.2.1 t.2.2.1.2.2.1.2)) (vp (fZ t.1.1 t.1.2.1 t.1.2.2.1.2 t.2.1.2 t.2.2.1.1 t.2.2.1.2.1 t.2.2.1.2.2.1.2))),[wT (fZ t.1.1 t.1.2.1 t.1.2.2.1.2 t.2.1.2 t.2.2.1.1 t.2.2.1.2.1 t.2.2.1.2.2.1.2)]⟩]
theorem ade:aM prog aa8:=aG fun t=>(aH (fun h=>aiw t.1.1 t.1.2.1 t.1.2.2.1.1 t.1.2.2.1.2 t.2.1.1 t.2.1.2 t.2.2.1.1 t.2.2.1.2.1 t.2.2.1.2.2.1.1 t.2.2.1.2.2.1.2 (aix h)) aR)
def aa9:List aD:=aa8 :: TJ
theorem Gg:aX prog (aZ aa9):=am ade jE
inductive gv where
  | r0 (a:Nat) (b:Bool) (c:Nat) (d:Int) (e:List Int)
def IL:gv→AE×aC
  | .r0 b c a d e=>(.ret,⟨ag 14 [(2,.ptr 0 1 0 0),(3,.int .i64 ((b:Nat):Int))],[(0,.vs [.bool false c,.sl 1 1 1 0 a a,.int .i64 d]),(1,.ns .u64 e)],2⟩)
theorem adf:lc IL:=by intro x;cases x <;> (intro h;cases h)
def IM:gv→ju
  | .r0 a b c d e=>⟨.tup [.agg [.bool false b,.imm .free (.ns .u64 e) 1 1 0 c,.int .i64 d],.int .i64 ((a:Nat):Int)],[]⟩
def Pe:List Code:=bD (bp ln)
def Pf(a:Int) :Bool×Bool→aC:=fun (b,c)=>⟨ag 14 [(0,.int .i64 a),(2,.ptr 0 1 0 0),(9,.bool false b)],[(0,.vs [.bool false c,.nsl,.int .i64 (0:Int)])],1⟩
def Pg(a:Int) :T ((Bool×Bool)⊕(gv)) :=
  .ask (decide (a < (-262144:Int)))
    (.leaf (.inl (true,false)))
    (.leaf (.inl ((decide (a > (262144:Int))),false)))
def Ph(a:Int)(b:Bool) :T ((Empty)⊕(gv)) :=
  .ask b
    (.leaf (.inr (.r0 3 false 0 (0:Int) ([]:List Int))))
    (.leaf (.inr (.r0 0 false 1 a [(1:Int)])))
def gw(a:Int) :Option gv:=l6 (ax ((Pg a).run) fun (b,c) =>
  (Ph a b).run)
theorem adg(b:Int){x:gv}(h:gw b=some x) :ak prog ln [] [.int .i64 b] (IM x) :=
  Sg.contract true IM (by kernel_rfl:prog.funcs[ln]? = some (FN ln)) (by kernel_rfl:(FN ln).body=some (bp ln)) (Sg.cut 2 adf (Sg.seg (C:=C0) ah Gg 60 (Pe.take 2) (aL (FN ln) [] [.int .i64 b]) (Pg b) (Pf b) IL [⟨[],[0],[0,2,9]⟩,⟨[],[0],[0,2,9]⟩] (by kernel_rfl)) (fun a=>by obtain ⟨c,e⟩:=a;exact Sg.seg (C:=C0) ah Gg 60 (Pe.drop 2) (Pf b (c,e)) (Ph b c) (fun a:Empty=>a.elim) IL [⟨[(.cell 0 1,.own 1 1 (.ns .u64 ([]:List Int)))],[0,49],[2,3]⟩,⟨[],[0,1],[2,3]⟩] (by kernel_rfl)))
    (fun x=>by cases x with | r0 f g d i j=>exact ⟨.inr rfl,[.agg [.bool false g,.sl 1 1 1 0 d d,.int .i64 i],.int .i64 ((f:Nat):Int)],[],by kernel_rfl,trivial,by kernel_rfl⟩) h
def AH:Option gv→Bool
  | some _=>true
  | none=>false
def Jb:Option gv→Nat
  | some (.r0 x _ _ _ _)=>x
  | _=>0
def BA:Option gv→Bool
  | some (.r0 _ x _ _ _)=>x
  | _=>false
def BB:Option gv→Nat
  | some (.r0 _ _ x _ _)=>x
  | _=>0
def BC:Option gv→Int
  | some (.r0 _ _ _ x _)=>x
  | _=>0
def BD:Option gv→List Int
  | some (.r0 _ _ _ _ x)=>x
  | _=>[]
theorem adh{x:Option gv}(h:AH x=true) :x=some (.r0 (Jb x) (BA x) (BB x) (BC x) (BD x)):=by
  unfold AH at h
  split at h <;> first | rfl | (cases h;done) | (rename_i y;cases y;rfl)
def TM:aD:=bW ln (.cons (.int .i64) .nil) fun t=>[⟨IM (.r0 (Jb (gw t.1)) (BA (gw t.1)) (BB (gw t.1)) (BC (gw t.1)) (BD (gw t.1))),[AH (gw t.1)]⟩]
theorem XZ:aM prog TM:=aG fun t=>(aH (fun h=>adg t.1 (adh h)) aR)
def TN:List aD:=TM :: aa9
theorem vR:aX prog (aZ TN):=am XZ Gg
inductive js where
  | r0 (a:Bool)
def uf:js→AE×aC
  | .r0 a=>(.ret,⟨ag 26 [(4,.bool false a)],[],0⟩)
theorem Gh:lc uf:=by intro x;cases x <;> (intro h;cases h)
theorem adi(id:Nat) :qp id uf:=by intro x;cases x <;> (intro h;cases h)
def IN:js→ju
  | .r0 a=>⟨.bool false a,[]⟩
def vq:List Code:=bD (bp lr)
def Pi(c:Lv)(a:List Int)(d:Lv)(b:List Int)(_:Unit) :aC:=⟨ag 26 [(0,.imm c (.ns .u64 a) 1 1 0 (List.length a)),(1,.imm d (.ns .u64 b) 1 1 0 (List.length b)),(5,.int .i64 (0:Int))],[],0⟩
def Pj(a:List Int)(b:List Int) :T ((Unit)⊕(js)) :=
  .ask ((((List.length a):Nat):Int) != (((List.length b):Nat):Int))
    (.leaf (.inr (.r0 false)))
    (.leaf (.inl ()))
def rP(c:Lv)(a:List Int)(d:Lv)(b:List Int)(e:Nat) :aC:=⟨ag 26 [(0,.imm c (.ns .u64 a) 1 1 0 (List.length a)),(1,.imm d (.ns .u64 b) 1 1 0 (List.length b)),(5,.int .i64 ((e:Nat):Int))],[],0⟩
def AI(_:Unit) :aC:=⟨ag 26 [],[],0⟩
def Pk:List Code:=bD (bE ((((vq.drop 4).take 1)).headD .skip))
def AJ(b:List Int)(c:List Int)(a:Nat) :T ((Nat)⊕((Unit)⊕(js))) :=
  .ask (decide (((a:Nat):Int) < (((List.length b):Nat):Int)))
    (.need (iE ((a:Nat):Int) (List.length b))<|.need (iX a (List.length b))<|.need (iE ((a:Nat):Int) (List.length c))<|.need (iX a (List.length c))<|.ask ((List.getD b a 0) != (List.getD c a 0))
      (.leaf (.inr (.inr (.r0 false))))
      (.need (dP .i64 (((a+1):Nat):Int))<|.leaf (.inl (a+1))))
    (.leaf (.inr (.inl ())))
def D9(a:List Int)(b:List Int) :Nat→Option ((Nat)⊕((Unit)⊕(js))):=fun c =>
  (AJ a b c).run
theorem aba(c:Lv)(a:List Int)(d:Lv)(b:List Int)(e:Nat) :Sg prog [] Pk (rP c a d b e) (D9 a b e) (rP c a d b) (aO 0 AI uf):=by
  unfold D9;exact Sg.seg (C:=C0) ah vR 60 Pk (rP c a d b e) (AJ a b e) (rP c a d b) (aO 0 AI uf) [⟨[],[],[4]⟩,⟨[],[],[0,1,5]⟩,⟨[],[],[]⟩] (by kernel_rfl)
def adj:Unit→aC:=AI
def LF:T ((Empty)⊕(js)) :=
  .leaf (.inr (.r0 true))
def lT(a:List Int)(b:List Int) :Option js:=l6 (ax ((Pj a b).run) fun _ =>
  ax (dH (D9 a b) 0) fun _ =>
  (LF).run)
theorem adk(d:Lv)(b:List Int)(e:Lv)(c:List Int){x:js}(h:lT b c=some x) :ak prog lr [] [.imm d (.ns .u64 b) 1 1 0 (List.length b),.imm e (.ns .u64 c) 1 1 0 (List.length c)] (IN x) :=
  Sg.contract true IN (by kernel_rfl:prog.funcs[lr]? = some (FN lr)) (by kernel_rfl:(FN lr).body=some (bp lr)) (Sg.cut 4 Gh (Sg.seg (C:=C0) ah vR 60 (vq.take 4) (aL (FN lr) [] [.imm d (.ns .u64 b) 1 1 0 (List.length b),.imm e (.ns .u64 c) 1 1 0 (List.length c)]) (Pj b c) (Pi d b e c) uf [⟨[],[],[4]⟩,⟨[],[],[0,1,5]⟩] (by kernel_rfl)) (fun a=>by cases a;exact Sg.cut 1 Gh (Sg.pre ⟨[],[],[0,1,5]⟩ rfl (by kernel_rfl:NS.on ⟨[],[],[0,1,5]⟩ (Pi d b e c ())=(rP d b e c) 0) (bT (I:=(rP d b e c)) (J:=(AI)) (id:=0) (by kernel_rfl:((vq.drop 4).take 1) = [.block 0 (.loop (bE ((((vq.drop 4).take 1)).headD .skip)))]) Gh (adi _) (fun s=>by exact aba d b e c s) 0)) (fun a=>by cases a;exact Sg.seg (C:=C0) ah vR 60 ((vq.drop 4).drop 1) (adj ()) (LF) (fun a:Empty=>a.elim) uf [⟨[],[],[4]⟩] (by kernel_rfl))))
    (fun x=>by cases x with | r0 f=>exact ⟨.inr rfl,[.bool false f],[],by kernel_rfl,trivial,by kernel_rfl⟩) h
def vr:Option js→Bool
  | some _=>true
  | none=>false
def vS:Option js→Bool
  | some (.r0 x)=>x
  | _=>false
theorem adl{x:Option js}(h:vr x=true) :x=some (.r0 (vS x)):=by
  unfold vr at h
  split at h <;> first | rfl | (cases h;done) | (rename_i y;cases y;rfl)
def TO:aD:=bW lr (.cons (.ns .u64) (.cons (.ns .u64) .nil)) fun t=>[⟨IN (.r0 (vS (lT t.1.2 t.2.1.2))),[vr (lT t.1.2 t.2.1.2)]⟩]
theorem X0:aM prog TO:=aG fun t=>(aH (fun h=>adk t.1.1 t.1.2 t.2.1.1 t.2.1.2 (adl h)) aR)
def TP:List aD:=TO :: TN
theorem BE:aX prog (aZ TP):=am X0 vR
end
end Go.Plb.Seat
namespace Go.Plb.Seat
open Go Go.Plb
set_option linter.unusedVariables false
set_option maxRecDepth 100000
noncomputable section
inductive lU where
  | r0 (a:Bool)
def IO:lU→AE×aC
  | .r0 a=>(.ret,⟨ag 24 [(4,.bool false a)],[],0⟩)
theorem adm:lc IO:=by intro x;cases x <;> (intro h;cases h)
def IP:lU→ju
  | .r0 a=>⟨.bool false a,[]⟩
def Pm:List Code:=bD (bp dQ)
def Pn(a:Bool) :aC:=⟨ag 24 [(4,.bool false a)],[],0⟩
def Gi(c:Bool)(a:List Int)(d:Int)(e:Bool)(b:List Int)(f:Int) :T ((Bool)⊕(lU)) :=
  .ask (c == e)
    (.need (aI 0 (List.length a) a)<|.need (aI 0 (List.length b) b)<|.need (vr (lT (aa 0 (List.length a) a) (aa 0 (List.length b) b)))<|.ask (vS (lT (aa 0 (List.length a) a) (aa 0 (List.length b) b)))
      (.leaf (.inl (d == f)))
      (.leaf (.inl false)))
    (.leaf (.inl false))
def Po(a:Bool) :T ((Empty)⊕(lU)) :=
  .leaf (.inr (.r0 a))
def ku(a:Bool)(b:List Int)(c:Int)(d:Bool)(e:List Int)(f:Int) :Option lU:=l6 (ax ((Gi a b c d e f).run) fun g =>
  (Po g).run)
theorem adn(d:Bool)(i:Lv)(b:List Int)(e:Int)(f:Bool)(j:Lv)(c:List Int)(g:Int){x:lU}(h:ku d b e f c g=some x) :ak prog dQ [] [.agg [.bool false d,.imm i (.ns .u64 b) 1 1 0 (List.length b),.int .i64 e],.agg [.bool false f,.imm j (.ns .u64 c) 1 1 0 (List.length c),.int .i64 g]] (IP x) :=
  Sg.contract true IP (by kernel_rfl:prog.funcs[dQ]? = some (FN dQ)) (by kernel_rfl:(FN dQ).body=some (bp dQ)) (Sg.cut 2 adm (Sg.seg (C:=C0) ah BE 60 (Pm.take 2) (aL (FN dQ) [] [.agg [.bool false d,.imm i (.ns .u64 b) 1 1 0 (List.length b),.int .i64 e],.agg [.bool false f,.imm j (.ns .u64 c) 1 1 0 (List.length c),.int .i64 g]]) (Gi d b e f c g) Pn IO [⟨[],[],[4]⟩,⟨[],[],[4]⟩,⟨[],[],[4]⟩] (by kernel_rfl)) (fun k=>by exact Sg.seg (C:=C0) ah BE 60 (Pm.drop 2) (Pn k) (Po k) (fun a:Empty=>a.elim) IO [⟨[],[],[4]⟩] (by kernel_rfl)))
    (fun x=>by cases x with | r0 l=>exact ⟨.inr rfl,[.bool false l],[],by kernel_rfl,trivial,by kernel_rfl⟩) h
def rQ:Option lU→Bool
  | some _=>true
  | none=>false
def rh:Option lU→Bool
  | some (.r0 x)=>x
  | _=>false
theorem ado{x:Option lU}(h:rQ x=true) :x=some (.r0 (rh x)):=by
  unfold rQ at h
  split at h <;> first | rfl | (cases h;done) | (rename_i y;cases y;rfl)
def TQ:aD:=bW dQ (.cons (.agg (.cons .bool (.cons (.ns .u64) (.cons (.int .i64) .nil)))) (.cons (.agg (.cons .bool (.cons (.ns .u64) (.cons (.int .i64) .nil)))) .nil)) fun t=>[⟨IP (.r0 (rh (ku t.1.1 t.1.2.1.2 t.1.2.2.1 t.2.1.1 t.2.1.2.1.2 t.2.1.2.2.1))),[rQ (ku t.1.1 t.1.2.1.2 t.1.2.2.1 t.2.1.1 t.2.1.2.1.2 t.2.1.2.2.1)]⟩]
theorem X1:aM prog TQ:=aG fun t=>(aH (fun h=>adn t.1.1 t.1.2.1.1 t.1.2.1.2 t.1.2.2.1 t.2.1.1 t.2.1.2.1.1 t.2.1.2.1.2 t.2.1.2.2.1 (ado h)) aR)
def TR:List aD:=TQ :: TP
theorem vT:aX prog (aZ TR):=am X1 BE
inductive ff where
  | r0 (a:Bool) (b:List Int) (c:Nat) (d:Int)
def AK:ff→AE×aC
  | .r0 a b c d=>(.ret,⟨ag 16 [(2,.ptr 0 1 0 0)],[(0,.vs [.bool false a,.imm .free (.ns .u64 b) 1 1 0 c,.int .i64 d])],1⟩)
theorem LG:lc AK:=by intro x;cases x <;> (intro h;cases h)
def Gj:ff→ju
  | .r0 a b c d=>⟨.agg [.bool false a,.imm .free (.ns .u64 b) 1 1 0 c,.int .i64 d],[]⟩
def Ea:List Code:=bD (bp ka)
def LH(a:Int) :Int×Bool→aC:=fun (b,c)=>⟨ag 16 [(0,.int .i64 a),(2,.ptr 0 1 0 0),(3,.int .u64 b)],[(0,.vs [.bool false c,.nsl,.int .i64 (0:Int)])],1⟩
def Eb(a:Int) :T ((Int×Bool)⊕(ff)) :=
  .ask (decide (a < (0:Int)))
    (.leaf (.inl ((IntKind.u64.wrap ((0:Int) - (IntKind.u64.wrap a))),false)))
    (.leaf (.inl ((IntKind.u64.wrap a),false)))
def LI:Bool×(List Int)×Nat×Int→aC:=fun (a,b,c,d)=>⟨ag 16 [(2,.ptr 0 1 0 0)],[(0,.vs [.bool false a,.imm .free (.ns .u64 b) 1 1 0 c,.int .i64 d])],1⟩
def yo(b:Int)(a:Int) :T ((Bool×(List Int)×Nat×Int)⊕(ff)) :=
  .need (aI 0 1 [a])<|.need (f7 (aJ (decide (b < (0:Int))) (aa 0 1 [a]) (0:Int)))<|.leaf (.inl ((eX (aJ (decide (b < (0:Int))) (aa 0 1 [a]) (0:Int))),(eY (aJ (decide (b < (0:Int))) (aa 0 1 [a]) (0:Int))),(eZ (aJ (decide (b < (0:Int))) (aa 0 1 [a]) (0:Int))),(e7 (aJ (decide (b < (0:Int))) (aa 0 1 [a]) (0:Int)))))
def LJ(a:Bool)(b:List Int)(c:Nat)(d:Int) :T ((Empty)⊕(ff)) :=
  .leaf (.inr (.r0 a b c d))
def ca(a:Int) :Option ff:=l6 (ax ((Eb a).run) fun (b,g) =>
  ax ((yo a b).run) fun (c,d,e,f) =>
  (LJ c d e f).run)
theorem abb(b:Int){x:ff}(h:ca b=some x) :ak prog ka [] [.int .i64 b] (Gj x) :=
  Sg.contract true Gj (by kernel_rfl:prog.funcs[ka]? = some (FN ka)) (by kernel_rfl:(FN ka).body=some (bp ka)) (Sg.cut 4 LG (Sg.seg (C:=C0) ah vT 60 (Ea.take 4) (aL (FN ka) [] [.int .i64 b]) (Eb b) (LH b) AK [⟨[],[0],[0,2,3]⟩,⟨[],[0],[0,2,3]⟩] (by kernel_rfl)) (fun a=>by obtain ⟨c,i⟩:=a;exact Sg.cut 1 LG (Sg.seg (C:=C0) ah vT 60 ((Ea.drop 4).take 1) (LH b (c,i)) (yo b c) LI AK [⟨[],[0],[2]⟩] (by kernel_rfl)) (fun a=>by obtain ⟨d,e,f,g⟩:=a;exact Sg.seg (C:=C0) ah vT 60 ((Ea.drop 4).drop 1) (LI (d,e,f,g)) (LJ d e f g) (fun a:Empty=>a.elim) AK [⟨[],[0],[2]⟩] (by kernel_rfl))))
    (fun x=>by cases x with | r0 j k l m=>exact ⟨.inr rfl,[.agg [.bool false j,.imm .free (.ns .u64 k) 1 1 0 l,.int .i64 m]],[],by kernel_rfl,trivial,by kernel_rfl⟩) h
def pS:Option ff→Bool
  | some _=>true
  | none=>false
def mI:Option ff→Bool
  | some (.r0 x _ _ _)=>x
  | _=>false
def j1:Option ff→List Int
  | some (.r0 _ x _ _)=>x
  | _=>[]
def j2:Option ff→Nat
  | some (.r0 _ _ x _)=>x
  | _=>0
def mJ:Option ff→Int
  | some (.r0 _ _ _ x)=>x
  | _=>0
theorem abc{x:Option ff}(h:pS x=true) :x=some (.r0 (mI x) (j1 x) (j2 x) (mJ x)):=by
  unfold pS at h
  split at h <;> first | rfl | (cases h;done) | (rename_i y;cases y;rfl)
def Pp:aD:=bW ka (.cons (.int .i64) .nil) fun t=>[⟨Gj (.r0 (mI (ca t.1)) (j1 (ca t.1)) (j2 (ca t.1)) (mJ (ca t.1))),[pS (ca t.1)]⟩]
theorem UU:aM prog Pp:=aG fun t=>(aH (fun h=>abb t.1 (abc h)) aR)
def Pq:List aD:=Pp :: TR
theorem fg:aX prog (aZ Pq):=am UU vT
inductive dM where
  | r0 (a:Bool)
def i3:dM→AE×aC
  | .r0 a=>(.ret,⟨ag 91 [(0,.bool false a)],[],0⟩)
theorem kL:lc i3:=by intro x;cases x <;> (intro h;cases h)
def Gk:dM→ju
  | .r0 a=>⟨.bool false a,[]⟩
def jt:List Code:=bD (bp l5)
def LK:Int×Nat×(List Nat)×(List Nat)→aC:=fun (a,b,c,d)=>⟨ag 91 [(1,.ptr 0 1 0 0),(2,.ptr 1 1 0 0)],[(0,.vs [.int .i64 (2:Int),.int .i64 (2:Int),.sl 2 1 1 0 4 4]),(1,.vs [.int .i64 a,.int .i64 a,.sl 3 1 1 0 b b]),(2,.fl c),(3,.fl d)],4⟩
def BF:T ((Int×Nat×(List Nat)×(List Nat))⊕(dM)) :=
  .need (CD (mj (2:Int)))<|.leaf (.inl ((DL (mj (2:Int))),(DM (mj (2:Int))),[4611686018427387904,0,0,4613937818241073152],(DN (mj (2:Int)))))
def LL(a:Int)(b:Nat)(c:List Nat)(d:List Nat) :Bool×Int→aC:=fun (e,f)=>⟨ag 91 [(1,.ptr 0 1 0 0),(2,.ptr 1 1 0 0),(3,.bool false e),(4,.int .i64 f)],[(0,.vs [.int .i64 (2:Int),.int .i64 (2:Int),.sl 2 1 1 0 4 4]),(1,.vs [.int .i64 a,.int .i64 a,.sl 3 1 1 0 b b]),(2,.fl c),(3,.fl d)],4⟩
def vU(a:Int)(b:Nat)(c:List Nat)(d:List Nat) :T ((Bool×Int)⊕(dM)) :=
  .need (aI 0 4 c)<|.need (aI 0 2 [4611686018427387904,4613937818241073152])<|.need (aI 0 b d)<|.need (wT (fZ (2:Int) (2:Int) (aa 0 4 c) (aa 0 2 [4611686018427387904,4613937818241073152]) a a (aa 0 b d)))<|.leaf (.inl ((vo (fZ (2:Int) (2:Int) (aa 0 4 c) (aa 0 2 [4611686018427387904,4613937818241073152]) a a (aa 0 b d))),(vp (fZ (2:Int) (2:Int) (aa 0 4 c) (aa 0 2 [4611686018427387904,4613937818241073152]) a a (aa 0 b d)))))
def LM(a:Int)(b:Nat)(c:List Nat)(d:List Nat)(e:Bool)(f:Int) :Bool×Int→aC:=fun (g,f8)=>⟨ag 91 [(1,.ptr 0 1 0 0),(2,.ptr 1 1 0 0),(3,.bool false e),(4,.int .i64 f),(5,.bool false g),(6,.int .i64 f8)],[(0,.vs [.int .i64 (2:Int),.int .i64 (2:Int),.sl 2 1 1 0 4 4]),(1,.vs [.int .i64 a,.int .i64 a,.sl 3 1 1 0 b b]),(2,.fl c),(3,.fl d)],4⟩
def vV(a:Int)(b:Nat)(c:List Nat)(d:List Nat) :T ((Bool×Int)⊕(dM)) :=
  .need (aI 0 4 c)<|.need (aI 0 2 [4613937818241073152,4611686018427387904])<|.need (aI 0 b d)<|.need (wT (fZ (2:Int) (2:Int) (aa 0 4 c) (aa 0 2 [4613937818241073152,4611686018427387904]) a a (aa 0 b d)))<|.leaf (.inl ((vo (fZ (2:Int) (2:Int) (aa 0 4 c) (aa 0 2 [4613937818241073152,4611686018427387904]) a a (aa 0 b d))),(vp (fZ (2:Int) (2:Int) (aa 0 4 c) (aa 0 2 [4613937818241073152,4611686018427387904]) a a (aa 0 b d)))))
def LN(a:Bool)(b:Int)(c:Bool)(f8:Int) :Bool×Int→aC:=fun (d,e)=>⟨ag 91 [(3,.bool false a),(4,.int .i64 b),(5,.bool false c),(6,.int .i64 f8),(7,.bool false d),(8,.int .i64 e)],[],0⟩
def vW(a:Int)(b:Nat)(c:List Nat)(d:List Nat) :T ((Bool×Int)⊕(dM)) :=
  .need (aI 0 4 c)<|.need (aI 0 2 [4611686018427387904,4613940070040886837])<|.need (aI 0 b d)<|.need (wT (fZ (2:Int) (2:Int) (aa 0 4 c) (aa 0 2 [4611686018427387904,4613940070040886837]) a a (aa 0 b d)))<|.leaf (.inl ((vo (fZ (2:Int) (2:Int) (aa 0 4 c) (aa 0 2 [4611686018427387904,4613940070040886837]) a a (aa 0 b d))),(vp (fZ (2:Int) (2:Int) (aa 0 4 c) (aa 0 2 [4611686018427387904,4613940070040886837]) a a (aa 0 b d)))))
def LO(a:Bool)(b:Int)(c:Bool)(f8:Int)(d:Bool)(e:Int) :Nat×Bool×(List Int)×Nat×Nat×Int→aC:=fun (f,g,h,i,j,k)=>⟨ag 91 [(3,.bool false a),(4,.int .i64 b),(5,.bool false c),(6,.int .i64 f8),(7,.bool false d),(8,.int .i64 e),(9,.ptr 0 1 0 0),(10,.int .i64 ((f:Nat):Int))],[(0,.vs [.bool false g,.imm .free (.ns .u64 h) 1 1 i j,.int .i64 k])],1⟩
def vX:T ((Nat×Bool×(List Int)×Nat×Nat×Int)⊕(dM)) :=
  .need (rN (bB (1:Int) (1:Int)))<|.leaf (.inl ((qZ (bB (1:Int) (1:Int))),(q7 (bB (1:Int) (1:Int))),(q8 (bB (1:Int) (1:Int))),(q9 (bB (1:Int) (1:Int))),(ra (bB (1:Int) (1:Int))),(rc (bB (1:Int) (1:Int)))))
def LP(a:Bool)(b:Int)(c:Bool)(f8:Int)(d:Bool)(e:Int)(f:Nat)(g:Bool)(h:List Int)(i:Nat)(j:Nat)(k:Int) :Bool×(List Int)×Nat×Int→aC:=fun (l,m,n,o)=>⟨ag 91 [(3,.bool false a),(4,.int .i64 b),(5,.bool false c),(6,.int .i64 f8),(7,.bool false d),(8,.int .i64 e),(9,.ptr 0 1 0 0),(10,.int .i64 ((f:Nat):Int)),(11,.ptr 1 1 0 0)],[(0,.vs [.bool false g,.imm .free (.ns .u64 h) 1 1 i j,.int .i64 k]),(1,.vs [.bool false l,.imm .free (.ns .u64 m) 1 1 0 n,.int .i64 o])],2⟩
def vY:T ((Bool×(List Int)×Nat×Int)⊕(dM)) :=
  .need (AH (gw (-94:Int)))<|.leaf (.inl ((BA (gw (-94:Int))),(BD (gw (-94:Int))),(BB (gw (-94:Int))),(BC (gw (-94:Int)))))
def LQ(a:Bool)(b:Int)(c:Bool)(f8:Int)(d:Bool)(e:Int)(f:Nat)(g:Bool)(h:List Int)(i:Nat)(j:Nat)(k:Int)(l:Bool)(m:List Int)(n:Nat)(o:Int) :Nat×Bool×(List Int)×Nat×Nat×Int→aC:=fun (p,q,r,s,t,u)=>⟨ag 91 [(3,.bool false a),(4,.int .i64 b),(5,.bool false c),(6,.int .i64 f8),(7,.bool false d),(8,.int .i64 e),(9,.ptr 0 1 0 0),(10,.int .i64 ((f:Nat):Int)),(11,.ptr 1 1 0 0),(13,.ptr 2 1 0 0),(14,.int .i64 ((p:Nat):Int))],[(0,.vs [.bool false g,.imm .free (.ns .u64 h) 1 1 i j,.int .i64 k]),(1,.vs [.bool false l,.imm .free (.ns .u64 m) 1 1 0 n,.int .i64 o]),(2,.vs [.bool false q,.imm .free (.ns .u64 r) 1 1 s t,.int .i64 u])],3⟩
def vZ:T ((Nat×Bool×(List Int)×Nat×Nat×Int)⊕(dM)) :=
  .need (aI 0 2 [4613937818241073152,4616189618054758400])<|.need (xZ (cQ (1:Int) (2:Int) (aa 0 2 [4613937818241073152,4616189618054758400])))<|.leaf (.inl ((x4 (cQ (1:Int) (2:Int) (aa 0 2 [4613937818241073152,4616189618054758400]))),(x5 (cQ (1:Int) (2:Int) (aa 0 2 [4613937818241073152,4616189618054758400]))),(x6 (cQ (1:Int) (2:Int) (aa 0 2 [4613937818241073152,4616189618054758400]))),(x7 (cQ (1:Int) (2:Int) (aa 0 2 [4613937818241073152,4616189618054758400]))),(x8 (cQ (1:Int) (2:Int) (aa 0 2 [4613937818241073152,4616189618054758400]))),(x9 (cQ (1:Int) (2:Int) (aa 0 2 [4613937818241073152,4616189618054758400])))))
def LR(a:Bool) :aC:=⟨ag 91 [(0,.bool false a)],[],0⟩
def v3(o : Bool)(p : Int)(q : Bool)(f8 : Int)(r : Bool)(s : Int)(t : Nat)(i : Bool)(a : List Int)(b : Nat)(c : Nat)(j : Int)(k : Bool)(d : List Int)(e : Nat)(l : Int)(u : Nat)(m : Bool)(f : List Int)(g : Nat)(h : Nat)(n : Int) : T ((Bool) ⊕ (dM)) :=
  .ask (p == (0 : Int))
    (.ask (f8 == (0:Int))
      (.ask (s == (0:Int))
        (.ask (((t:Nat):Int) == (0:Int))
          (.ask (((u:Nat):Int) == (0:Int))
            (.ask o
              (.ask (!q)
                (.ask (!r)
                  (.need (aI b c a)<|.need (aI 0 e d)<|.need (rQ (ku i (aa b c a) j k (aa 0 e d) l))<|.ask (rh (ku i (aa b c a) j k (aa 0 e d) l))
                    (.need (pS (ca (25:Int)))<|.need (aI g h f)<|.need (aI 0 (j2 (ca (25:Int))) (j1 (ca (25:Int))))<|.need (rQ (ku m (aa g h f) n (mI (ca (25:Int))) (aa 0 (j2 (ca (25:Int))) (j1 (ca (25:Int)))) (mJ (ca (25:Int)))))<|.leaf (.inl (rh (ku m (aa g h f) n (mI (ca (25:Int))) (aa 0 (j2 (ca (25:Int))) (j1 (ca (25:Int)))) (mJ (ca (25:Int)))))))
                    (.leaf (.inl false)))
                  (.leaf (.inl false)))
                (.leaf (.inl false)))
              (.leaf (.inl false)))
            (.leaf (.inl false)))
          (.leaf (.inl false)))
        (.leaf (.inl false)))
      (.leaf (.inl false)))
    (.leaf (.inl false))
def Jc(a:Bool) :T ((Empty)⊕(dM)) :=
  .leaf (.inr (.r0 a))
def i4:Option dM:=l6 (ax ((BF).run) fun (a,b,c,d) =>
  ax ((vU a b c d).run) fun (e,f) =>
  ax ((vV a b c d).run) fun (g,f8) =>
  ax ((vW a b c d).run) fun (h,i) =>
  ax ((vX).run) fun (j,k,l,m,n,o) =>
  ax ((vY).run) fun (p,q,r,s) =>
  ax ((vZ).run) fun (t,u,v,w,x,y) =>
  ax ((v3 e f g f8 h i j k l m n o p q r s t u v w x y).run) fun z =>
  (Jc z).run)
theorem abd{x:dM}(h:i4=some x) :ak prog l5 [] [] (Gk x) :=
  Sg.contract false Gk (by kernel_rfl:prog.funcs[l5]? = some (FN l5)) (by kernel_rfl:(FN l5).body=some (bp l5)) (Sg.cut 3 kL (Sg.seg (C:=C0) ah fg 60 (jt.take 3) (aL (FN l5) [] []) (BF) LK i3 [⟨[],[32,80,16,64],[1,2]⟩] (by kernel_rfl)) (fun a=>by obtain ⟨e,f,g,i⟩:=a;exact Sg.cut 1 kL (Sg.seg (C:=C0) ah fg 60 ((jt.drop 3).take 1) (LK (e,f,g,i)) (vU e f g i) (LL e f g i) i3 [⟨[],[0,1,2,3],[1,2,3,4]⟩] (by kernel_rfl)) (fun a=>by obtain ⟨b,c⟩:=a;exact Sg.cut 1 kL (Sg.seg (C:=C0) ah fg 60 (((jt.drop 3).drop 1).take 1) (LL e f g i (b,c)) (vV e f g i) (LM e f g i b c) i3 [⟨[],[0,1,2,3],[1,2,3,4,5,6]⟩] (by kernel_rfl)) (fun a=>by obtain ⟨d,f8⟩:=a;exact Sg.cut 1 kL (Sg.seg (C:=C0) ah fg 60 ((((jt.drop 3).drop 1).drop 1).take 1) (LM e f g i b c (d,f8)) (vW e f g i) (LN b c d f8) i3 [⟨[],[],[3,4,5,6,7,8]⟩] (by kernel_rfl)) (fun a=>by obtain ⟨j,k⟩:=a;exact Sg.cut 1 kL (Sg.seg (C:=C0) ah fg 60 (((((jt.drop 3).drop 1).drop 1).drop 1).take 1) (LN b c d f8 (j,k)) (vX) (LO b c d f8 j k) i3 [⟨[],[64],[3,4,5,6,7,8,9,10]⟩] (by kernel_rfl)) (fun a=>by obtain ⟨l,m,n,o,p,q⟩:=a;exact Sg.cut 1 kL (Sg.seg (C:=C0) ah fg 60 ((((((jt.drop 3).drop 1).drop 1).drop 1).drop 1).take 1) (LO b c d f8 j k (l,m,n,o,p,q)) (vY) (LP b c d f8 j k l m n o p q) i3 [⟨[],[0,65],[3,4,5,6,7,8,9,10,11]⟩] (by kernel_rfl)) (fun a=>by obtain ⟨r,s,t,u⟩:=a;exact Sg.cut 1 kL (Sg.seg (C:=C0) ah fg 60 (((((((jt.drop 3).drop 1).drop 1).drop 1).drop 1).drop 1).take 1) (LP b c d f8 j k l m n o p q (r,s,t,u)) (vZ) (LQ b c d f8 j k l m n o p q r s t u) i3 [⟨[],[0,1,98],[3,4,5,6,7,8,9,10,11,13,14]⟩] (by kernel_rfl)) (fun a=>by obtain ⟨v,w,y,z,A,B⟩:=a;exact Sg.cut 1 kL (Sg.seg (C:=C0) ah fg 60 ((((((((jt.drop 3).drop 1).drop 1).drop 1).drop 1).drop 1).drop 1).take 1) (LQ b c d f8 j k l m n o p q r s t u (v,w,y,z,A,B)) (v3 b c d f8 j k l m n o p q r s t u v w y z A B) LR i3 [⟨[],[],[0]⟩,⟨[],[],[0]⟩,⟨[],[],[0]⟩,⟨[],[],[0]⟩,⟨[],[],[0]⟩,⟨[],[],[0]⟩,⟨[],[],[0]⟩,⟨[],[],[0]⟩,⟨[],[],[0]⟩,⟨[],[],[0]⟩] (by kernel_rfl)) (fun D=>by exact Sg.seg (C:=C0) ah fg 60 ((((((((jt.drop 3).drop 1).drop 1).drop 1).drop 1).drop 1).drop 1).drop 1) (LR D) (Jc D) (fun a:Empty=>a.elim) i3 [⟨[],[],[0]⟩] (by kernel_rfl))))))))))
    (fun x=>by cases x with | r0 E=>exact ⟨.inr rfl,[.bool false E],[],by kernel_rfl,trivial,by kernel_rfl⟩) h
def pT:Option dM→Bool
  | some _=>true
  | none=>false
def pU:Option dM→Bool
  | some (.r0 x)=>x
  | _=>false
theorem abe{x:Option dM}(h:pT x=true) :x=some (.r0 (pU x)):=by
  unfold pT at h
  split at h <;> first | rfl | (cases h;done) | (rename_i y;cases y;rfl)
def Pr:aD:=bW l5 .nil fun t=>[⟨Gk (.r0 (pU (i4))),[pT (i4)]⟩]
theorem UV:aM prog Pr:=aG fun t=>(aH (fun h=>abd (abe h)) aR)
def Ps:List aD:=Pr :: Pq
theorem zq:aX prog (aZ Ps):=am UV fg
inductive iu where
  | r0 (a:Bool)
def BG:iu→AE×aC
  | .r0 a=>(.ret,⟨ag 24 [(4,.bool false a)],[],0⟩)
theorem UW:lc BG:=by intro x;cases x <;> (intro h;cases h)
def BH:iu→ju
  | .r0 a=>⟨.bool false a,[]⟩
def GV:List Code:=bD (bp dQ)
def GW(a:Bool) :aC:=⟨ag 24 [(4,.bool false a)],[],0⟩
def zr(c:Bool)(a:List Int)(d:Int)(b:List Int)(e:Int) :T ((Bool)⊕(iu)) :=
  .ask (c == false)
    (.need (aI 0 (List.length a) a)<|.need (aI 0 (List.length b) b)<|.need (vr (lT (aa 0 (List.length a) a) (aa 0 (List.length b) b)))<|.ask (vS (lT (aa 0 (List.length a) a) (aa 0 (List.length b) b)))
      (.leaf (.inl (d == e)))
      (.leaf (.inl false)))
    (.leaf (.inl false))
def GX(a:Bool) :T ((Empty)⊕(iu)) :=
  .leaf (.inr (.r0 a))
def k8(a:Bool)(b:List Int)(c:Int)(d:List Int)(e:Int) :Option iu:=l6 (ax ((zr a b c d e).run) fun f =>
  (GX f).run)
theorem UX(d:Bool)(g:Lv)(b:List Int)(e:Int)(i:Lv)(c:List Int)(f:Int){x:iu}(h:k8 d b e c f=some x) :ak prog dQ [] [.agg [.bool false d,.imm g (.ns .u64 b) 1 1 0 (List.length b),.int .i64 e],.agg [.bool true false,.imm i (.ns .u64 c) 1 1 0 (List.length c),.int .i64 f]] (BH x) :=
  Sg.contract true BH (by kernel_rfl:prog.funcs[dQ]? = some (FN dQ)) (by kernel_rfl:(FN dQ).body=some (bp dQ)) (Sg.cut 2 UW (Sg.seg (C:=C0) ah zq 60 (GV.take 2) (aL (FN dQ) [] [.agg [.bool false d,.imm g (.ns .u64 b) 1 1 0 (List.length b),.int .i64 e],.agg [.bool true false,.imm i (.ns .u64 c) 1 1 0 (List.length c),.int .i64 f]]) (zr d b e c f) GW BG [⟨[],[],[4]⟩,⟨[],[],[4]⟩,⟨[],[],[4]⟩] (by kernel_rfl)) (fun j=>by exact Sg.seg (C:=C0) ah zq 60 (GV.drop 2) (GW j) (GX j) (fun a:Empty=>a.elim) BG [⟨[],[],[4]⟩] (by kernel_rfl)))
    (fun x=>by cases x with | r0 k=>exact ⟨.inr rfl,[.bool false k],[],by kernel_rfl,trivial,by kernel_rfl⟩) h
def ug:Option iu→Bool
  | some _=>true
  | none=>false
def wu:Option iu→Bool
  | some (.r0 x)=>x
  | _=>false
theorem UY{x:Option iu}(h:ug x=true) :x=some (.r0 (wu x)):=by
  unfold ug at h
  split at h <;> first | rfl | (cases h;done) | (rename_i y;cases y;rfl)
def Jd:aD:=bW dQ (.cons (.agg (.cons .bool (.cons (.ns .u64) (.cons (.int .i64) .nil)))) (.cons (.agg (.cons (.kbool false) (.cons (.ns .u64) (.cons (.int .i64) .nil)))) .nil)) fun t=>[⟨BH (.r0 (wu (k8 t.1.1 t.1.2.1.2 t.1.2.2.1 t.2.1.2.1.2 t.2.1.2.2.1))),[ug (k8 t.1.1 t.1.2.1.2 t.1.2.2.1 t.2.1.2.1.2 t.2.1.2.2.1)]⟩]
theorem QE:aM prog Jd:=aG fun t=>(aH (fun h=>UX t.1.1 t.1.2.1.1 t.1.2.1.2 t.1.2.2.1 t.2.1.2.1.1 t.2.1.2.1.2 t.2.1.2.2.1 (UY h)) aR)
def Je:List aD:=Jd :: Ps
theorem wv:aX prog (aZ Je):=am QE zq
inductive gh where
  | r0 (a:Bool) (b:List Int) (c:Nat) (d:Int)
def Gl:gh→AE×aC
  | .r0 a b c d=>(.ret,⟨ag 14 [(4,.ptr 0 1 0 0)],[(0,.vs [.bool false a,.imm .free (.ns .u64 b) 1 1 0 c,.int .i64 d])],1⟩)
theorem abf:lc Gl:=by intro x;cases x <;> (intro h;cases h)
def Gm:gh→ju
  | .r0 a b c d=>⟨.agg [.bool false a,.imm .free (.ns .u64 b) 1 1 0 c,.int .i64 d],[]⟩
def LS:List Code:=bD (bp kd)
def LT:Bool×Bool×(List Int)×Nat×Int→aC:=fun (a,b,c,d,e)=>⟨ag 14 [(4,.ptr 0 1 0 0),(5,.ptr 1 1 0 0)],[(0,.vs [.bool false a,.nsl,.int .i64 (0:Int)]),(1,.vs [.bool false b,.imm .free (.ns .u64 c) 1 1 0 d,.int .i64 e])],2⟩
def Ec(c:Bool)(a:List Int)(d:Int)(e:Bool)(b:List Int)(f:Int) :T ((Bool×Bool×(List Int)×Nat×Int)⊕(gh)) :=
  .need (aI 0 (List.length a) a)<|.need (aI 0 (List.length b) b)<|.need (CB (iL c (aa 0 (List.length a) a) d e (aa 0 (List.length b) b) f))<|.leaf (.inl (false,(DG (iL c (aa 0 (List.length a) a) d e (aa 0 (List.length b) b) f)),(DH (iL c (aa 0 (List.length a) a) d e (aa 0 (List.length b) b) f)),(DI (iL c (aa 0 (List.length a) a) d e (aa 0 (List.length b) b) f)),(DJ (iL c (aa 0 (List.length a) a) d e (aa 0 (List.length b) b) f))))
def LU(a:Bool)(b:List Int)(c:Nat)(d:Int) :T ((Empty)⊕(gh)) :=
  .leaf (.inr (.r0 a b c d))
def bz(a:Bool)(b:List Int)(c:Int)(d:Bool)(e:List Int)(f:Int) :Option gh:=l6 (ax ((Ec a b c d e f).run) fun (k,g,h,i,j) =>
  (LU g h i j).run)
theorem abg(d:Bool)(i:Lv)(b:List Int)(e:Int)(f:Bool)(j:Lv)(c:List Int)(g:Int){x:gh}(h:bz d b e f c g=some x) :ak prog kd [] [.agg [.bool false d,.imm i (.ns .u64 b) 1 1 0 (List.length b),.int .i64 e],.agg [.bool false f,.imm j (.ns .u64 c) 1 1 0 (List.length c),.int .i64 g]] (Gm x) :=
  Sg.contract true Gm (by kernel_rfl:prog.funcs[kd]? = some (FN kd)) (by kernel_rfl:(FN kd).body=some (bp kd)) (Sg.cut 2 abf (Sg.seg (C:=C0) ah wv 60 (LS.take 2) (aL (FN kd) [] [.agg [.bool false d,.imm i (.ns .u64 b) 1 1 0 (List.length b),.int .i64 e],.agg [.bool false f,.imm j (.ns .u64 c) 1 1 0 (List.length c),.int .i64 g]]) (Ec d b e f c g) LT Gl [⟨[],[32,144],[4,5]⟩] (by kernel_rfl)) (fun a=>by obtain ⟨o,k,l,m,n⟩:=a;exact Sg.seg (C:=C0) ah wv 60 (LS.drop 2) (LT (o,k,l,m,n)) (LU k l m n) (fun a:Empty=>a.elim) Gl [⟨[],[0],[4]⟩] (by kernel_rfl)))
    (fun x=>by cases x with | r0 p q r s=>exact ⟨.inr rfl,[.agg [.bool false p,.imm .free (.ns .u64 q) 1 1 0 r,.int .i64 s]],[],by kernel_rfl,trivial,by kernel_rfl⟩) h
def sY:Option gh→Bool
  | some _=>true
  | none=>false
def iP:Option gh→Bool
  | some (.r0 x _ _ _)=>x
  | _=>false
def gA:Option gh→List Int
  | some (.r0 _ x _ _)=>x
  | _=>[]
def gB:Option gh→Nat
  | some (.r0 _ _ x _)=>x
  | _=>0
def iQ:Option gh→Int
  | some (.r0 _ _ _ x)=>x
  | _=>0
theorem abh{x:Option gh}(h:sY x=true) :x=some (.r0 (iP x) (gA x) (gB x) (iQ x)):=by
  unfold sY at h
  split at h <;> first | rfl | (cases h;done) | (rename_i y;cases y;rfl)
def Pt:aD:=bW kd (.cons (.agg (.cons .bool (.cons (.ns .u64) (.cons (.int .i64) .nil)))) (.cons (.agg (.cons .bool (.cons (.ns .u64) (.cons (.int .i64) .nil)))) .nil)) fun t=>[⟨Gm (.r0 (iP (bz t.1.1 t.1.2.1.2 t.1.2.2.1 t.2.1.1 t.2.1.2.1.2 t.2.1.2.2.1)) (gA (bz t.1.1 t.1.2.1.2 t.1.2.2.1 t.2.1.1 t.2.1.2.1.2 t.2.1.2.2.1)) (gB (bz t.1.1 t.1.2.1.2 t.1.2.2.1 t.2.1.1 t.2.1.2.1.2 t.2.1.2.2.1)) (iQ (bz t.1.1 t.1.2.1.2 t.1.2.2.1 t.2.1.1 t.2.1.2.1.2 t.2.1.2.2.1))),[sY (bz t.1.1 t.1.2.1.2 t.1.2.2.1 t.2.1.1 t.2.1.2.1.2 t.2.1.2.2.1)]⟩]
theorem UZ:aM prog Pt:=aG fun t=>(aH (fun h=>abg t.1.1 t.1.2.1.1 t.1.2.1.2 t.1.2.2.1 t.2.1.1 t.2.1.2.1.1 t.2.1.2.1.2 t.2.1.2.2.1 (abh h)) aR)
def Pu:List aD:=Pt :: Je
theorem mK:aX prog (aZ Pu):=am UZ wv
inductive d7 where
  | r0 (a:Bool) (b:List Int) (c:Nat) (d:Int)
def rR:d7→AE×aC
  | .r0 a b c d=>(.ret,⟨ag 25 [(4,.ptr 0 1 0 0)],[(0,.vs [.bool false a,.imm .free (.ns .u64 b) 1 1 0 c,.int .i64 d])],1⟩)
theorem yp:lc rR:=by intro x;cases x <;> (intro h;cases h)
def Gn:d7→ju
  | .r0 a b c d=>⟨.agg [.bool false a,.imm .free (.ns .u64 b) 1 1 0 c,.int .i64 d],[]⟩
def sZ:List Code:=bD (bp j8)
def LV(a:Int) :Int×Bool→aC:=fun (b,c)=>⟨ag 25 [(0,.int .i64 b),(1,.int .i64 a),(4,.ptr 0 1 0 0)],[(0,.vs [.bool false c,.nsl,.int .i64 (0:Int)])],1⟩
def Ed(a:Int) :T ((Int×Bool)⊕(d7)) :=
  .ask (a == (0:Int))
    (.leaf (.inl ((1:Int),false)))
    (.leaf (.inl (a,false)))
def LW(a:Int)(b:Bool)(c:Int) :aC:=⟨ag 25 [(0,.int .i64 a),(1,.int .i64 c),(4,.ptr 0 1 0 0)],[(0,.vs [.bool false b,.nsl,.int .i64 (0:Int)])],1⟩
def yq(a:Int) :T ((Int)⊕(d7)) :=
  .ask (a == (0:Int))
    (.leaf (.inl (1:Int)))
    (.leaf (.inl a))
def LX(a:Bool) :Bool×(List Int)×Nat×Int→aC:=fun (b,c,d,e)=>⟨ag 25 [(4,.ptr 0 1 0 0),(5,.ptr 1 1 0 0)],[(0,.vs [.bool false a,.nsl,.int .i64 (0:Int)]),(1,.vs [.bool false b,.imm .free (.ns .u64 c) 1 1 0 d,.int .i64 e])],2⟩
def yr(a:Int)(b:Int) :T ((Bool×(List Int)×Nat×Int)⊕(d7)) :=
  .need (dP .i64 ((64:Int) * a))<|.need (dP .i64 (((64:Int) * a) * b))<|.need (pS (ca (((64:Int) * a) * b)))<|.leaf (.inl ((mI (ca (((64:Int) * a) * b))),(j1 (ca (((64:Int) * a) * b))),(j2 (ca (((64:Int) * a) * b))),(mJ (ca (((64:Int) * a) * b)))))
def LY(a:Bool) :Bool×(List Int)×Nat×Int→aC:=fun (b,c,d,e)=>⟨ag 25 [(4,.ptr 0 1 0 0),(6,.ptr 1 1 0 0)],[(0,.vs [.bool false a,.nsl,.int .i64 (0:Int)]),(1,.vs [.bool false b,.imm .free (.ns .u64 c) 1 1 0 d,.int .i64 e])],2⟩
def yu(c:Bool)(a:List Int)(b:Nat)(d:Int) :T ((Bool×(List Int)×Nat×Int)⊕(d7)) :=
  .need (aI 0 b a)<|.need (aI 0 b a)<|.need (sY (bz c (aa 0 b a) d c (aa 0 b a) d))<|.need (aI 0 (gB (bz c (aa 0 b a) d c (aa 0 b a) d)) (gA (bz c (aa 0 b a) d c (aa 0 b a) d)))<|.need (xU (eL (iP (bz c (aa 0 b a) d c (aa 0 b a) d)) (aa 0 (gB (bz c (aa 0 b a) d c (aa 0 b a) d)) (gA (bz c (aa 0 b a) d c (aa 0 b a) d))) (iQ (bz c (aa 0 b a) d c (aa 0 b a) d)) (-106:Int)))<|.leaf (.inl ((zg (eL (iP (bz c (aa 0 b a) d c (aa 0 b a) d)) (aa 0 (gB (bz c (aa 0 b a) d c (aa 0 b a) d)) (gA (bz c (aa 0 b a) d c (aa 0 b a) d))) (iQ (bz c (aa 0 b a) d c (aa 0 b a) d)) (-106:Int))),(zh (eL (iP (bz c (aa 0 b a) d c (aa 0 b a) d)) (aa 0 (gB (bz c (aa 0 b a) d c (aa 0 b a) d)) (gA (bz c (aa 0 b a) d c (aa 0 b a) d))) (iQ (bz c (aa 0 b a) d c (aa 0 b a) d)) (-106:Int))),(zi (eL (iP (bz c (aa 0 b a) d c (aa 0 b a) d)) (aa 0 (gB (bz c (aa 0 b a) d c (aa 0 b a) d)) (gA (bz c (aa 0 b a) d c (aa 0 b a) d))) (iQ (bz c (aa 0 b a) d c (aa 0 b a) d)) (-106:Int))),(zj (eL (iP (bz c (aa 0 b a) d c (aa 0 b a) d)) (aa 0 (gB (bz c (aa 0 b a) d c (aa 0 b a) d)) (gA (bz c (aa 0 b a) d c (aa 0 b a) d))) (iQ (bz c (aa 0 b a) d c (aa 0 b a) d)) (-106:Int)))))
def Jf(a:Bool)(b:List Int)(c:Nat)(d:Int) :T ((Empty)⊕(d7)) :=
  .leaf (.inr (.r0 a b c d))
def db(a:Int)(b:Int) :Option d7:=l6 (ax ((Ed a).run) fun (c,m) =>
  ax ((yq b).run) fun d =>
  ax ((yr c d).run) fun (e,f,g,h) =>
  ax ((yu e f g h).run) fun (i,j,k,l) =>
  (Jf i j k l).run)
theorem abi(d:Int)(c:Int){x:d7}(h:db d c=some x) :ak prog j8 [] [.int .i64 d,.int .i64 c] (Gn x) :=
  Sg.contract true Gn (by kernel_rfl:prog.funcs[j8]? = some (FN j8)) (by kernel_rfl:(FN j8).body=some (bp j8)) (Sg.cut 3 yp (Sg.seg (C:=C0) ah mK 60 (sZ.take 3) (aL (FN j8) [] [.int .i64 d,.int .i64 c]) (Ed d) (LV c) rR [⟨[],[0],[0,1,4]⟩,⟨[],[0],[0,1,4]⟩] (by kernel_rfl)) (fun a=>by obtain ⟨e,b⟩:=a;exact Sg.cut 2 yp (Sg.seg (C:=C0) ah mK 60 ((sZ.drop 3).take 2) (LV c (e,b)) (yq c) (LW e b) rR [⟨[],[0],[0,1,4]⟩,⟨[],[0],[0,1,4]⟩] (by kernel_rfl)) (fun f=>by exact Sg.cut 1 yp (Sg.seg (C:=C0) ah mK 60 (((sZ.drop 3).drop 2).take 1) (LW e b f) (yr e f) (LX b) rR [⟨[],[0,81],[4,5]⟩] (by kernel_rfl)) (fun a=>by obtain ⟨g,i,j,k⟩:=a;exact Sg.cut 1 yp (Sg.seg (C:=C0) ah mK 60 ((((sZ.drop 3).drop 2).drop 1).take 1) (LX b (g,i,j,k)) (yu g i j k) (LY b) rR [⟨[],[0,114],[4,6]⟩] (by kernel_rfl)) (fun a=>by obtain ⟨l,m,n,o⟩:=a;exact Sg.seg (C:=C0) ah mK 60 ((((sZ.drop 3).drop 2).drop 1).drop 1) (LY b (l,m,n,o)) (Jf l m n o) (fun a:Empty=>a.elim) rR [⟨[],[0],[4]⟩] (by kernel_rfl))))))
    (fun x=>by cases x with | r0 p q r s=>exact ⟨.inr rfl,[.agg [.bool false p,.imm .free (.ns .u64 q) 1 1 0 r,.int .i64 s]],[],by kernel_rfl,trivial,by kernel_rfl⟩) h
def s4:Option d7→Bool
  | some _=>true
  | none=>false
def pV:Option d7→Bool
  | some (.r0 x _ _ _)=>x
  | _=>false
def mL:Option d7→List Int
  | some (.r0 _ x _ _)=>x
  | _=>[]
def mM:Option d7→Nat
  | some (.r0 _ _ x _)=>x
  | _=>0
def pW:Option d7→Int
  | some (.r0 _ _ _ x)=>x
  | _=>0
theorem abj{x:Option d7}(h:s4 x=true) :x=some (.r0 (pV x) (mL x) (mM x) (pW x)):=by
  unfold s4 at h
  split at h <;> first | rfl | (cases h;done) | (rename_i y;cases y;rfl)
def Pv:aD:=bW j8 (.cons (.int .i64) (.cons (.int .i64) .nil)) fun t=>[⟨Gn (.r0 (pV (db t.1 t.2.1)) (mL (db t.1 t.2.1)) (mM (db t.1 t.2.1)) (pW (db t.1 t.2.1))),[s4 (db t.1 t.2.1)]⟩]
theorem U0:aM prog Pv:=aG fun t=>(aH (fun h=>abi t.1 t.2.1 (abj h)) aR)
def Pw:List aD:=Pv :: Pu
theorem gC:aX prog (aZ Pw):=am U0 mK
end
end Go.Plb.Seat
namespace Go.Plb.Seat
open Go Go.Plb
set_option linter.unusedVariables false
set_option maxRecDepth 100000
noncomputable section
inductive cn where
  | r0 (a:Nat) (b:Int) (c:Int) (d:Nat) (e:Nat) (f:List Nat)
def gi:cn→AE×aC
  | .r0 a b c d e f=>(.ret,⟨ag 45 [(2,.ptr 0 1 0 0),(3,.int .i64 ((a:Nat):Int))],[(0,.vs [.int .i64 b,.int .i64 c,.sl 1 1 1 0 d e]),(1,.fl f)],2⟩)
theorem hZ:lc gi:=by intro x;cases x <;> (intro h;cases h)
theorem Ee(id:Nat) :qp id gi:=by intro x;cases x <;> (intro h;cases h)
def Gp:cn→ju
  | .r0 a b c d f e=>⟨.tup [.agg [.int .i64 b,.int .i64 c,.imm .free (.fl e) 1 1 0 d],.int .i64 ((a:Nat):Int)],[]⟩
def nG:List Code:=bD (bp j9)
def LZ(b:Int)(c:Int)(d:Lv)(a:List Nat)(e:Bool) :aC:=⟨ag 45 [(1,.ptr 0 1 0 0),(2,.ptr 1 1 0 0),(10,.bool false e)],[(0,.vs [.int .i64 b,.int .i64 c,.imm d (.fl a) 1 1 0 (List.length a)]),(1,.vs [.int .i64 (0:Int),.int .i64 (0:Int),.nsl])],2⟩
def v4(b:Int)(c:Int)(a:List Nat) :T ((Bool)⊕(cn)) :=
  .ask (decide ((0:Int) < (1:Int)))
    (.need (iE (0:Int) 1)<|.need (aI 0 (List.length a) a)<|.need (g8 (c8 b c (aa 0 (List.length a) a)))<|.ask (gg (c8 b c (aa 0 (List.length a) a)))
      (.leaf (.inl (!(!(decide ((0:Int) ≥ (0:Int)))))))
      (.need (dP .i64 (1:Int))<|.ask (decide ((1:Int) < (1:Int)))
        (.fail)
        (.leaf (.inl (!(!(decide ((-1:Int) ≥ (0:Int)))))))))
    (.fail)
def L0(b:Int)(a:Int)(d:Lv)(c:List Nat)(_:Unit) :aC:=⟨ag 45 [(1,.ptr 0 1 0 0),(2,.ptr 1 1 0 0),(4,.ptr 2 1 0 0),(18,.int .i64 a),(19,.int .i64 (0:Int))],[(0,.vs [.int .i64 b,.int .i64 a,.imm d (.fl c) 1 1 0 (List.length c)]),(1,.vs [.int .i64 (0:Int),.int .i64 (0:Int),.nsl]),(2,.vs [.int .i64 a,.int .i64 b,.nsl])],3⟩
def Jg(a:Bool) :T ((Unit)⊕(cn)) :=
  .ask a
    (.leaf (.inr (.r0 2 (0:Int) (0:Int) 0 0 ([]:List Nat))))
    (.leaf (.inl ()))
def nH(b:Int)(a:Int)(d:Lv)(c:List Nat) :Nat×Nat×Nat×(List Nat)→aC:=fun (e,f,g,h)=>⟨ag 45 [(1,.ptr 0 1 0 0),(2,.ptr 1 1 0 0),(4,.ptr 2 1 0 0),(18,.int .i64 a),(19,.int .i64 ((e:Nat):Int))],[(0,.vs [.int .i64 b,.int .i64 a,.imm d (.fl c) 1 1 0 (List.length c)]),(1,.vs [.int .i64 (0:Int),.int .i64 (0:Int),.nsl]),(2,.vs [.int .i64 a,.int .i64 b,.sl 3 1 1 0 f g]),(3,.fl h)],4⟩
def iv(a:Int)(b:Int) :Nat×Nat×(List Nat)→aC:=fun (c,d,e)=>⟨ag 45 [(2,.ptr 0 1 0 0),(4,.ptr 1 1 0 0)],[(0,.vs [.int .i64 (0:Int),.int .i64 (0:Int),.nsl]),(1,.vs [.int .i64 b,.int .i64 a,.sl 2 1 1 0 c d]),(2,.fl e)],3⟩
def nI:List Code:=bD (bE (((((nG.drop 2).drop 3).take 1)).headD .skip))
def Jh(b:Int)(a:Int)(d:Lv)(c:List Nat)(e:Nat)(f:Nat)(g:Nat)(h:List Nat)(_:Unit) :aC:=⟨ag 45 [(1,.ptr 0 1 0 0),(2,.ptr 1 1 0 0),(4,.ptr 2 1 0 0),(18,.int .i64 a),(19,.int .i64 ((e:Nat):Int))],[(0,.vs [.int .i64 b,.int .i64 a,.imm d (.fl c) 1 1 0 (List.length c)]),(1,.vs [.int .i64 (0:Int),.int .i64 (0:Int),.nsl]),(2,.vs [.int .i64 a,.int .i64 b,.sl 3 1 1 0 f g]),(3,.fl h)],4⟩
def v5(a:Int)(b:Nat)(c:Nat)(d:Nat)(e:List Nat) :T ((Unit)⊕((Nat×Nat×(List Nat))⊕(cn))) :=
  .ask (decide (((b:Nat):Int) < a))
    (.leaf (.inl ()))
    (.leaf (.inr (.inl (c,d,e))))
def k9(b:Int)(a:Int)(d:Lv)(c:List Nat)(e:Nat) :Nat×Nat×(List Nat)→aC:=fun (f,g,h)=>⟨ag 45 [(1,.ptr 0 1 0 0),(2,.ptr 1 1 0 0),(4,.ptr 2 1 0 0),(18,.int .i64 a),(19,.int .i64 ((e:Nat):Int))],[(0,.vs [.int .i64 b,.int .i64 a,.imm d (.fl c) 1 1 0 (List.length c)]),(1,.vs [.int .i64 (0:Int),.int .i64 (0:Int),.nsl]),(2,.vs [.int .i64 a,.int .i64 b,.sl 3 1 1 0 f g]),(3,.fl h)],4⟩
def ri:List Code:=bD (inBlock ((((nI.drop 2).take 1)).headD .skip))
def Ji(a:Int)(b:Int)(e:Lv)(c:List Nat)(d:Nat)(f:Nat)(g:Nat)(h:List Nat)(_:Unit) :aC:=⟨ag 45 [(1,.ptr 0 1 0 0),(2,.ptr 1 1 0 0),(4,.ptr 2 1 0 0),(5,.int .i64 ((d:Nat):Int)),(18,.int .i64 b),(19,.int .i64 ((d:Nat):Int)),(23,.int .i64 a),(24,.int .i64 (0:Int))],[(0,.vs [.int .i64 a,.int .i64 b,.imm e (.fl c) 1 1 0 (List.length c)]),(1,.vs [.int .i64 (0:Int),.int .i64 (0:Int),.nsl]),(2,.vs [.int .i64 b,.int .i64 a,.sl 3 1 1 0 f g]),(3,.fl h)],4⟩
def Jj:T ((Unit)⊕((Nat×Nat×(List Nat))⊕((Nat×Nat×(List Nat))⊕(cn)))) :=
  .leaf (.inl ())
def nJ(a:Int)(b:Int)(e:Lv)(c:List Nat)(d:Nat) :Nat×Nat×Nat×(List Nat)→aC:=fun (f,g,h,i)=>⟨ag 45 [(1,.ptr 0 1 0 0),(2,.ptr 1 1 0 0),(4,.ptr 2 1 0 0),(5,.int .i64 ((d:Nat):Int)),(18,.int .i64 b),(19,.int .i64 ((d:Nat):Int)),(23,.int .i64 a),(24,.int .i64 ((f:Nat):Int))],[(0,.vs [.int .i64 a,.int .i64 b,.imm e (.fl c) 1 1 0 (List.length c)]),(1,.vs [.int .i64 (0:Int),.int .i64 (0:Int),.nsl]),(2,.vs [.int .i64 b,.int .i64 a,.sl 3 1 1 0 g h]),(3,.fl i)],4⟩
def v6(b:Int)(a:Int)(d:Lv)(c:List Nat)(e:Nat) :Nat×Nat×(List Nat)→aC:=fun (f,g,h)=>⟨ag 45 [(1,.ptr 0 1 0 0),(2,.ptr 1 1 0 0),(4,.ptr 2 1 0 0),(18,.int .i64 a),(19,.int .i64 ((e:Nat):Int))],[(0,.vs [.int .i64 b,.int .i64 a,.imm d (.fl c) 1 1 0 (List.length c)]),(1,.vs [.int .i64 (0:Int),.int .i64 (0:Int),.nsl]),(2,.vs [.int .i64 a,.int .i64 b,.sl 3 1 1 0 f g]),(3,.fl h)],4⟩
def Jk:List Code:=bD (bE ((((ri.drop 2).take 1)).headD .skip))
def v7(g:Int)(c:Int)(e:List Nat)(d:Nat)(a:Nat)(b:Nat)(h:Nat)(f:List Nat) :T ((Nat×Nat×Nat×(List Nat))⊕((Nat×Nat×(List Nat))⊕((Nat×Nat×(List Nat))⊕((Nat×Nat×(List Nat))⊕(cn))))) :=
  .ask (decide (((a:Nat):Int) < g))
    (.need (dP .i64 (((a:Nat):Int) * c))<|.need (dP .i64 ((((a:Nat):Int) * c)+((d:Nat):Int)))<|.need (iE ((((a:Nat):Int) * c)+((d:Nat):Int)) (List.length e))<|.need (iX (Int.toNat ((((a:Nat):Int) * c)+((d:Nat):Int))) (List.length e))<|.need (r6 ((b+1) * 8) 140737488355328)<|.need (r6 (b+1) 9223372036854775807)<|.need (r6 1 (List.length [(List.getD e (Int.toNat ((((a:Nat):Int) * c)+((d:Nat):Int))) 0)]))<|.need (r6 b (List.length f))<|.need (dP .i64 (((a+1):Nat):Int))<|.leaf (.inl ((a+1),(b+1),(b+1),((List.take b f) ++ (List.take 1 [(List.getD e (Int.toNat ((((a:Nat):Int) * c)+((d:Nat):Int))) 0)])))))
    (.leaf (.inr (.inl (b,h,f))))
def BI(a:Int)(b:Int)(c:List Nat)(d:Nat) :Nat×Nat×Nat×(List Nat)→Option ((Nat×Nat×Nat×(List Nat))⊕((Nat×Nat×(List Nat))⊕((Nat×Nat×(List Nat))⊕((Nat×Nat×(List Nat))⊕(cn))))):=fun (e,f,g,h) =>
  (v7 a b c d e f g h).run
theorem X2(a:Int)(b:Int)(e:Lv)(c:List Nat)(d:Nat)(f:Nat)(g:Nat)(h:Nat)(i:List Nat) :Sg prog [] Jk (nJ a b e c d (f,g,h,i)) (BI a b c d (f,g,h,i)) (nJ a b e c d) (aO 2 (v6 a b e c d) (aO 1 (k9 a b e c d) (aO 0 (iv a b) gi))):=by
  unfold BI;exact Sg.seg (C:=C0) ah gC 60 Jk (nJ a b e c d (f,g,h,i)) (v7 a b c d f g h i) (nJ a b e c d) (aO 2 (v6 a b e c d) (aO 1 (k9 a b e c d) (aO 0 (iv a b) gi))) [⟨[],[0,1,2,260],[1,2,4,5,18,19,23,24]⟩,⟨[],[0,1,2,3],[1,2,4,18,19]⟩] (by kernel_rfl)
def X3(a:Int)(b:Int)(c:Lv)(d:List Nat)(e:Nat) :Nat×Nat×(List Nat)→aC:=v6 a b c d e
def Jl(a:Nat)(b:Nat)(c:List Nat) :T ((Nat×Nat×(List Nat))⊕((Nat×Nat×(List Nat))⊕((Nat×Nat×(List Nat))⊕(cn)))) :=
  .leaf (.inl (a,b,c))
def X4(a:Int)(b:Int)(c:Lv)(d:List Nat)(e:Nat) :Nat×Nat×(List Nat)→aC:=k9 a b c d e
def Jm(a:Nat)(b:Nat)(c:Nat)(d:List Nat) :T ((Nat×Nat×Nat×(List Nat))⊕((Nat×Nat×(List Nat))⊕(cn))) :=
  .need (dP .i64 (((a+1):Nat):Int))<|.leaf (.inl ((a+1),b,c,d))
def BJ(f:Int)(b:Int)(g:List Nat) :Nat×Nat×Nat×(List Nat)→Option ((Nat×Nat×Nat×(List Nat))⊕((Nat×Nat×(List Nat))⊕(cn))):=fun (a,c,d,e) =>
  ax ((v5 b a c d e).run) fun _ =>
  ax (Rg (ax ((Jj).run) fun _ =>
  ax (dH (BI f b g a) (0,c,d,e)) fun (h,i,j) =>
  (Jl h i j).run)) fun (k,l,m) =>
  (Jm a k l m).run
theorem X5(c:Int)(b:Int)(f:Lv)(d:List Nat)(e:Nat)(g:Nat)(h:Nat)(i:List Nat) :Sg prog [] nI (nH c b f d (e,g,h,i)) (BJ c b d (e,g,h,i)) (nH c b f d) (aO 0 (iv c b) gi):=by
  unfold BJ;exact Sg.cut 2 (aW hZ) (Sg.seg (C:=C0) ah gC 60 (nI.take 2) (nH c b f d (e,g,h,i)) (v5 b e g h i) (Jh c b f d e g h i) (aO 0 (iv c b) gi) [⟨[],[0,1,2,3],[1,2,4,18,19]⟩,⟨[],[1,2,3],[2,4]⟩] (by kernel_rfl)) (fun a=>by cases a;exact Sg.cut 1 (aW hZ) (C7 (id:=1) (K:=(k9 c b f d e)) (by kernel_rfl:((nI.drop 2).take 1) = [.block 1 (inBlock ((((nI.drop 2).take 1)).headD .skip))]) (aW hZ) (jO (by decide) (Ee _)) (Sg.cut 2 (aW (aW hZ)) (Sg.seg (C:=C0) ah gC 60 (ri.take 2) (Jh c b f d e g h i ()) (Jj) (Ji c b f d e g h i) (aO 1 (k9 c b f d e) (aO 0 (iv c b) gi)) [⟨[],[0,1,2,3],[1,2,4,5,18,19,23,24]⟩] (by kernel_rfl)) (fun a=>by cases a;exact Sg.cut 1 (aW (aW hZ)) (Sg.pre ⟨[],[0,1,2,3],[1,2,4,5,18,19,23,24]⟩ rfl (by kernel_rfl:NS.on ⟨[],[0,1,2,3],[1,2,4,5,18,19,23,24]⟩ (Ji c b f d e g h i ())=(nJ c b f d e) (0,g,h,i)) (bT (I:=(nJ c b f d e)) (J:=(v6 c b f d e)) (id:=2) (by kernel_rfl:((ri.drop 2).take 1) = [.block 2 (.loop (bE ((((ri.drop 2).take 1)).headD .skip)))]) (aW (aW hZ)) (jO (by decide) (jO (by decide) (Ee _))) (fun s=>by obtain ⟨p,q,r,t⟩:=s;exact X2 c b f d e p q r t) (0,g,h,i))) (fun a=>by obtain ⟨j,k,l⟩:=a;exact Sg.seg (C:=C0) ah gC 60 ((ri.drop 2).drop 1) (X3 c b f d e (j,k,l)) (Jl j k l) (k9 c b f d e) (aO 1 (k9 c b f d e) (aO 0 (iv c b) gi)) [⟨[],[0,1,2,3],[1,2,4,18,19]⟩] (by kernel_rfl))))) (fun a=>by obtain ⟨m,n,o⟩:=a;exact Sg.seg (C:=C0) ah gC 60 ((nI.drop 2).drop 1) (X4 c b f d e (m,n,o)) (Jm e m n o) (nH c b f d) (aO 0 (iv c b) gi) [⟨[],[0,1,2,3],[1,2,4,18,19]⟩] (by kernel_rfl)))
def X6(a:Int)(b:Int) :Nat×Nat×(List Nat)→aC:=iv a b
def Jn(a:Int)(b:Int)(c:Nat)(d:Nat)(e:List Nat) :T ((Empty)⊕(cn)) :=
  .leaf (.inr (.r0 0 b a c d e))
def dN(a:Int)(b:Int)(c:List Nat) :Option cn:=l6 (ax ((v4 a b c).run) fun d =>
  ax ((Jg d).run) fun _ =>
  ax (dH (BJ a b c) (0,0,0,([]:List Nat))) fun (e,f,g) =>
  (Jn a b e f g).run)
theorem abk(b:Int)(c:Int)(e:Lv)(d:List Nat){x:cn}(h:dN b c d=some x) :ak prog j9 [] [.agg [.int .i64 b,.int .i64 c,.imm e (.fl d) 1 1 0 (List.length d)]] (Gp x) :=
  Sg.contract true Gp (by kernel_rfl:prog.funcs[j9]? = some (FN j9)) (by kernel_rfl:(FN j9).body=some (bp j9)) (Sg.cut 2 hZ (Sg.seg (C:=C0) ah gC 60 (nG.take 2) (aL (FN j9) [] [.agg [.int .i64 b,.int .i64 c,.imm e (.fl d) 1 1 0 (List.length d)]]) (v4 b c d) (LZ b c e d) gi [⟨[],[0,16],[1,2,10]⟩,⟨[],[0,16],[1,2,10]⟩] (by kernel_rfl)) (fun f=>by exact Sg.cut 3 hZ (Sg.seg (C:=C0) ah gC 60 ((nG.drop 2).take 3) (LZ b c e d f) (Jg f) (L0 b c e d) gi [⟨[(.cell 1 2,.own 1 1 (.fl ([]:List Nat)))],[1,50],[2,3]⟩,⟨[],[0,1,82],[1,2,4,18,19]⟩] (by kernel_rfl)) (fun a=>by cases a;exact Sg.cut 1 hZ (Sg.pre ⟨[(.cell 2 2,.own 1 1 (.fl ([]:List Nat)))],[0,1,2,3],[1,2,4,18,19]⟩ rfl (by kernel_rfl:NS.on ⟨[(.cell 2 2,.own 1 1 (.fl ([]:List Nat)))],[0,1,2,3],[1,2,4,18,19]⟩ (L0 b c e d ())=(nH b c e d) (0,0,0,([]:List Nat))) (bT (I:=(nH b c e d)) (J:=(iv b c)) (id:=0) (by kernel_rfl:(((nG.drop 2).drop 3).take 1) = [.block 0 (.loop (bE (((((nG.drop 2).drop 3).take 1)).headD .skip)))]) hZ (Ee _) (fun s=>by obtain ⟨k,l,m,n⟩:=s;exact X5 b c e d k l m n) (0,0,0,([]:List Nat)))) (fun a=>by obtain ⟨g,i,j⟩:=a;exact Sg.seg (C:=C0) ah gC 60 (((nG.drop 2).drop 3).drop 1) (X6 b c (g,i,j)) (Jn b c g i j) (fun a:Empty=>a.elim) gi [⟨[],[0,2],[2,3]⟩] (by kernel_rfl)))))
    (fun x=>by cases x with | r0 o p q r t u=>exact ⟨.inr rfl,[.agg [.int .i64 p,.int .i64 q,.sl 1 1 1 0 r t],.int .i64 ((o:Nat):Int)],[],by kernel_rfl,trivial,by kernel_rfl⟩) h
def yw:Option cn→Bool
  | some _=>true
  | none=>false
def zt:Option cn→Nat
  | some (.r0 x _ _ _ _ _)=>x
  | _=>0
def zu:Option cn→Int
  | some (.r0 _ x _ _ _ _)=>x
  | _=>0
def zw:Option cn→Int
  | some (.r0 _ _ x _ _ _)=>x
  | _=>0
def zz:Option cn→Nat
  | some (.r0 _ _ _ x _ _)=>x
  | _=>0
def GY:Option cn→Nat
  | some (.r0 _ _ _ _ x _)=>x
  | _=>0
def zA:Option cn→List Nat
  | some (.r0 _ _ _ _ _ x)=>x
  | _=>[]
theorem abl{x:Option cn}(h:yw x=true) :x=some (.r0 (zt x) (zu x) (zw x) (zz x) (GY x) (zA x)):=by
  unfold yw at h
  split at h <;> first | rfl | (cases h;done) | (rename_i y;cases y;rfl)
def Px:aD:=bW j9 (.cons (.agg (.cons (.int .i64) (.cons (.int .i64) (.cons .fl .nil)))) .nil) fun t=>[⟨Gp (.r0 (zt (dN t.1.1 t.1.2.1 t.1.2.2.1.2)) (zu (dN t.1.1 t.1.2.1 t.1.2.2.1.2)) (zw (dN t.1.1 t.1.2.1 t.1.2.2.1.2)) (zz (dN t.1.1 t.1.2.1 t.1.2.2.1.2)) (GY (dN t.1.1 t.1.2.1 t.1.2.2.1.2)) (zA (dN t.1.1 t.1.2.1 t.1.2.2.1.2))),[yw (dN t.1.1 t.1.2.1 t.1.2.2.1.2)]⟩]
theorem U1:aM prog Px:=aG fun t=>(aH (fun h=>abk t.1.1 t.1.2.1 t.1.2.2.1.1 t.1.2.2.1.2 (abl h)) aR)
def Py:List aD:=Px :: Pw
theorem zB:aX prog (aZ Py):=am U1 gC
inductive oV where
  | r0 (a:Bool)
def L4:oV→AE×aC
  | .r0 a=>(.ret,⟨ag 32 [(2,.bool false a)],[],0⟩)
theorem agy:lc L4:=by intro x;cases x <;> (intro h;cases h)
def L5:oV→ju
  | .r0 a=>⟨.bool false a,[]⟩
def TS:List Code:=bD (bp p5)
def TT(a:Bool) :aC:=⟨ag 32 [(2,.bool false a)],[],0⟩
def IQ(a:Int)(b:Int)(c:List Nat) :T ((Bool)⊕(oV)) :=
  .ask (decide (a ≥ (0:Int)))
    (.ask (decide (a≤(512:Int)))
      (.ask (decide (b ≥ (0:Int)))
        (.ask (decide (b≤(512:Int)))
          (.need (dP .i64 (a * b))<|.leaf (.inl ((((List.length c):Nat):Int) == (a * b))))
          (.leaf (.inl false)))
        (.leaf (.inl false)))
      (.leaf (.inl false)))
    (.leaf (.inl false))
def TU(a:Bool) :T ((Empty)⊕(oV)) :=
  .leaf (.inr (.r0 a))
def wU(a:Int)(b:Int)(c:List Nat) :Option oV:=l6 (ax ((IQ a b c).run) fun d =>
  (TU d).run)
theorem agz(c:Int)(d:Int)(e:Lv)(b:List Nat){x:oV}(h:wU c d b=some x) :ak prog p5 [] [.agg [.int .i64 c,.int .i64 d,.imm e (.fl b) 1 1 0 (List.length b)]] (L5 x) :=
  Sg.contract false L5 (by kernel_rfl:prog.funcs[p5]? = some (FN p5)) (by kernel_rfl:(FN p5).body=some (bp p5)) (Sg.cut 2 agy (Sg.seg (C:=C0) ah zB 60 (TS.take 2) (aL (FN p5) [] [.agg [.int .i64 c,.int .i64 d,.imm e (.fl b) 1 1 0 (List.length b)]]) (IQ c d b) TT L4 [⟨[],[],[2]⟩,⟨[],[],[2]⟩,⟨[],[],[2]⟩,⟨[],[],[2]⟩,⟨[],[],[2]⟩] (by kernel_rfl)) (fun f=>by exact Sg.seg (C:=C0) ah zB 60 (TS.drop 2) (TT f) (TU f) (fun a:Empty=>a.elim) L4 [⟨[],[],[2]⟩] (by kernel_rfl)))
    (fun x=>by cases x with | r0 g=>exact ⟨.inr rfl,[.bool false g],[],by kernel_rfl,trivial,by kernel_rfl⟩) h
def CR:Option oV→Bool
  | some _=>true
  | none=>false
def Ef:Option oV→Bool
  | some (.r0 x)=>x
  | _=>false
theorem agA{x:Option oV}(h:CR x=true) :x=some (.r0 (Ef x)):=by
  unfold CR at h
  split at h <;> first | rfl | (cases h;done) | (rename_i y;cases y;rfl)
def Xn:aD:=bW p5 (.cons (.agg (.cons (.int .i64) (.cons (.int .i64) (.cons .fl .nil)))) .nil) fun t=>[⟨L5 (.r0 (Ef (wU t.1.1 t.1.2.1 t.1.2.2.1.2))),[CR (wU t.1.1 t.1.2.1 t.1.2.2.1.2)]⟩]
theorem abm:aM prog Xn:=aG fun t=>(aH (fun h=>agz t.1.1 t.1.2.1 t.1.2.2.1.1 t.1.2.2.1.2 (agA h)) aR)
def Xo:List aD:=Xn :: Py
theorem yx:aX prog (aZ Xo):=am abm zB
inductive e9 where
  | r0 (a:Bool)
def nK:e9→AE×aC
  | .r0 a=>(.ret,⟨ag 27 [(4,.bool false a)],[],0⟩)
theorem zC:lc nK:=by intro x;cases x <;> (intro h;cases h)
theorem U2(id:Nat) :qp id nK:=by intro x;cases x <;> (intro h;cases h)
def BL:e9→ju
  | .r0 a=>⟨.bool false a,[]⟩
def pX:List Code:=bD (bp jx)
def GZ(c:Lv)(a:List Nat)(d:Lv)(b:List Nat)(_:Unit) :aC:=⟨ag 27 [(0,.imm c (.fl a) 1 1 0 (List.length a)),(1,.imm d (.fl b) 1 1 0 (List.length b)),(5,.int .i64 (0:Int))],[],0⟩
def G0(a:List Nat)(b:List Nat) :T ((Unit)⊕(e9)) :=
  .ask ((((List.length a):Nat):Int) != (((List.length b):Nat):Int))
    (.leaf (.inr (.r0 false)))
    (.leaf (.inl ()))
def mN(c:Lv)(a:List Nat)(d:Lv)(b:List Nat)(e:Nat) :aC:=⟨ag 27 [(0,.imm c (.fl a) 1 1 0 (List.length a)),(1,.imm d (.fl b) 1 1 0 (List.length b)),(5,.int .i64 ((e:Nat):Int))],[],0⟩
def uh(_:Unit) :aC:=⟨ag 27 [],[],0⟩
def G1:List Code:=bD (bE ((((pX.drop 4).take 1)).headD .skip))
def ui(b:List Nat)(c:List Nat)(a:Nat) :T ((Nat)⊕((Unit)⊕(e9))) :=
  .ask (decide (((a:Nat):Int) < (((List.length b):Nat):Int)))
    (.need (iE ((a:Nat):Int) (List.length b))<|.need (iX a (List.length b))<|.need (iE ((a:Nat):Int) (List.length c))<|.need (iX a (List.length c))<|.ask (!(Gx (List.getD b a 0) (List.getD c a 0)))
      (.leaf (.inr (.inr (.r0 false))))
      (.need (dP .i64 (((a+1):Nat):Int))<|.leaf (.inl (a+1))))
    (.leaf (.inr (.inl ())))
def yy(a:List Nat)(b:List Nat) :Nat→Option ((Nat)⊕((Unit)⊕(e9))):=fun c =>
  (ui a b c).run
theorem TV(c:Lv)(a:List Nat)(d:Lv)(b:List Nat)(e:Nat) :Sg prog [] G1 (mN c a d b e) (yy a b e) (mN c a d b) (aO 0 uh nK):=by
  unfold yy;exact Sg.seg (C:=C0) ah yx 60 G1 (mN c a d b e) (ui a b e) (mN c a d b) (aO 0 uh nK) [⟨[],[],[4]⟩,⟨[],[],[0,1,5]⟩,⟨[],[],[]⟩] (by kernel_rfl)
def U3:Unit→aC:=uh
def Fa:T ((Empty)⊕(e9)) :=
  .leaf (.inr (.r0 true))
def nL(a:List Nat)(b:List Nat) :Option e9:=l6 (ax ((G0 a b).run) fun _ =>
  ax (dH (yy a b) 0) fun _ =>
  (Fa).run)
theorem U4(d:Lv)(b:List Nat)(e:Lv)(c:List Nat){x:e9}(h:nL b c=some x) :ak prog jx [] [.imm d (.fl b) 1 1 0 (List.length b),.imm e (.fl c) 1 1 0 (List.length c)] (BL x) :=
  Sg.contract false BL (by kernel_rfl:prog.funcs[jx]? = some (FN jx)) (by kernel_rfl:(FN jx).body=some (bp jx)) (Sg.cut 4 zC (Sg.seg (C:=C0) ah yx 60 (pX.take 4) (aL (FN jx) [] [.imm d (.fl b) 1 1 0 (List.length b),.imm e (.fl c) 1 1 0 (List.length c)]) (G0 b c) (GZ d b e c) nK [⟨[],[],[4]⟩,⟨[],[],[0,1,5]⟩] (by kernel_rfl)) (fun a=>by cases a;exact Sg.cut 1 zC (Sg.pre ⟨[],[],[0,1,5]⟩ rfl (by kernel_rfl:NS.on ⟨[],[],[0,1,5]⟩ (GZ d b e c ())=(mN d b e c) 0) (bT (I:=(mN d b e c)) (J:=(uh)) (id:=0) (by kernel_rfl:((pX.drop 4).take 1) = [.block 0 (.loop (bE ((((pX.drop 4).take 1)).headD .skip)))]) zC (U2 _) (fun s=>by exact TV d b e c s) 0)) (fun a=>by cases a;exact Sg.seg (C:=C0) ah yx 60 ((pX.drop 4).drop 1) (U3 ()) (Fa) (fun a:Empty=>a.elim) nK [⟨[],[],[4]⟩] (by kernel_rfl))))
    (fun x=>by cases x with | r0 f=>exact ⟨.inr rfl,[.bool false f],[],by kernel_rfl,trivial,by kernel_rfl⟩) h
def uj:Option e9→Bool
  | some _=>true
  | none=>false
def ww:Option e9→Bool
  | some (.r0 x)=>x
  | _=>false
theorem U5{x:Option e9}(h:uj x=true) :x=some (.r0 (ww x)):=by
  unfold uj at h
  split at h <;> first | rfl | (cases h;done) | (rename_i y;cases y;rfl)
def Jo:aD:=bW jx (.cons .fl (.cons .fl .nil)) fun t=>[⟨BL (.r0 (ww (nL t.1.2 t.2.1.2))),[uj (nL t.1.2 t.2.1.2)]⟩]
theorem QF:aM prog Jo:=aG fun t=>(aH (fun h=>U4 t.1.1 t.1.2 t.2.1.1 t.2.1.2 (U5 h)) aR)
def Jp:List aD:=Jo :: Xo
theorem wx:aX prog (aZ Jp):=am QF yx
inductive lW where
  | r0 (a:Bool)
def IR:lW→AE×aC
  | .r0 a=>(.ret,⟨ag 24 [(4,.bool false a)],[],0⟩)
theorem adp:lc IR:=by intro x;cases x <;> (intro h;cases h)
def IS:lW→ju
  | .r0 a=>⟨.bool false a,[]⟩
def Pz:List Code:=bD (bp nQ)
def PA(a:Bool) :aC:=⟨ag 24 [(4,.bool false a)],[],0⟩
def Gq(c:Int)(d:Int)(a:List Nat)(e:Int)(f:Int)(b:List Nat) :T ((Bool)⊕(lW)) :=
  .ask (c == e)
    (.ask (d == f)
      (.need (aI 0 (List.length a) a)<|.need (aI 0 (List.length b) b)<|.need (uj (nL (aa 0 (List.length a) a) (aa 0 (List.length b) b)))<|.leaf (.inl (ww (nL (aa 0 (List.length a) a) (aa 0 (List.length b) b)))))
      (.leaf (.inl false)))
    (.leaf (.inl false))
def PB(a:Bool) :T ((Empty)⊕(lW)) :=
  .leaf (.inr (.r0 a))
def lZ(a:Int)(b:Int)(c:List Nat)(d:Int)(e:Int)(f:List Nat) :Option lW:=l6 (ax ((Gq a b c d e f).run) fun g =>
  (PB g).run)
theorem adq(d:Int)(e:Int)(i:Lv)(b:List Nat)(f:Int)(g:Int)(j:Lv)(c:List Nat){x:lW}(h:lZ d e b f g c=some x) :ak prog nQ [] [.agg [.int .i64 d,.int .i64 e,.imm i (.fl b) 1 1 0 (List.length b)],.agg [.int .i64 f,.int .i64 g,.imm j (.fl c) 1 1 0 (List.length c)]] (IS x) :=
  Sg.contract false IS (by kernel_rfl:prog.funcs[nQ]? = some (FN nQ)) (by kernel_rfl:(FN nQ).body=some (bp nQ)) (Sg.cut 2 adp (Sg.seg (C:=C0) ah wx 60 (Pz.take 2) (aL (FN nQ) [] [.agg [.int .i64 d,.int .i64 e,.imm i (.fl b) 1 1 0 (List.length b)],.agg [.int .i64 f,.int .i64 g,.imm j (.fl c) 1 1 0 (List.length c)]]) (Gq d e b f g c) PA IR [⟨[],[],[4]⟩,⟨[],[],[4]⟩,⟨[],[],[4]⟩] (by kernel_rfl)) (fun k=>by exact Sg.seg (C:=C0) ah wx 60 (Pz.drop 2) (PA k) (PB k) (fun a:Empty=>a.elim) IR [⟨[],[],[4]⟩] (by kernel_rfl)))
    (fun x=>by cases x with | r0 l=>exact ⟨.inr rfl,[.bool false l],[],by kernel_rfl,trivial,by kernel_rfl⟩) h
def vt:Option lW→Bool
  | some _=>true
  | none=>false
def v8:Option lW→Bool
  | some (.r0 x)=>x
  | _=>false
theorem adr{x:Option lW}(h:vt x=true) :x=some (.r0 (v8 x)):=by
  unfold vt at h
  split at h <;> first | rfl | (cases h;done) | (rename_i y;cases y;rfl)
def TW:aD:=bW nQ (.cons (.agg (.cons (.int .i64) (.cons (.int .i64) (.cons .fl .nil)))) (.cons (.agg (.cons (.int .i64) (.cons (.int .i64) (.cons .fl .nil)))) .nil)) fun t=>[⟨IS (.r0 (v8 (lZ t.1.1 t.1.2.1 t.1.2.2.1.2 t.2.1.1 t.2.1.2.1 t.2.1.2.2.1.2))),[vt (lZ t.1.1 t.1.2.1 t.1.2.2.1.2 t.2.1.1 t.2.1.2.1 t.2.1.2.2.1.2)]⟩]
theorem X7:aM prog TW:=aG fun t=>(aH (fun h=>adq t.1.1 t.1.2.1 t.1.2.2.1.1 t.1.2.2.1.2 t.2.1.1 t.2.1.2.1 t.2.1.2.2.1.1 t.2.1.2.2.1.2 (adr h)) aR)
def TX:List aD:=TW :: Jp
theorem jF:aX prog (aZ TX):=am X7 wx
inductive cB where
  | r0 (a:Int) (b:Int) (c:Nat) (d:List Nat)
def f4:cB→AE×aC
  | .r0 b c a d=>(.ret,⟨ag 47 [(2,.ptr 0 1 0 0)],[(0,.vs [.int .i64 b,.int .i64 c,.sl 1 1 1 0 a a]),(1,.fl d)],2⟩)
theorem iw:lc f4:=by intro x;cases x <;> (intro h;cases h)
theorem BM(id:Nat) :qp id f4:=by intro x;cases x <;> (intro h;cases h)
def Eg:cB→ju
  | .r0 a b c d=>⟨.agg [.int .i64 a,.int .i64 b,.imm .free (.fl d) 1 1 0 c],[]⟩
def pY:List Code:=bD (bp i5)
def Jq(b:Int)(c:Int)(d:Lv)(a:List Nat)(e:(List Nat)) :aC:=⟨ag 47 [(1,.ptr 0 1 0 0),(2,.ptr 1 1 0 0),(3,.ptr 2 1 0 0),(4,.int .i64 (0:Int))],[(0,.vs [.int .i64 b,.int .i64 c,.imm d (.fl a) 1 1 0 (List.length a)]),(1,.vs [.int .i64 (0:Int),.int .i64 (0:Int),.nsl]),(2,.vs [.int .i64 c,.int .i64 b,.sl 3 1 1 0 (List.length a) (List.length a)]),(3,.fl e)],4⟩
def zD(a:List Nat) :T (((List Nat))⊕(cB)) :=
  .need (decide ((0:Int)≤(((List.length a):Nat):Int)))<|.need (decide ((((List.length a):Nat):Int)≤(((List.length a):Nat):Int)))<|.need (decide ((8:Int) * (((List.length a):Nat):Int)≤140737488355328))<|.need (dP .i64 (((List.length a):Nat):Int))<|.leaf (.inl (List.replicate (List.length a) 0))
def mO(b:Int)(c:Int)(d:Lv)(a:List Nat) :Nat×(List Nat)→aC:=fun (e,f)=>⟨ag 47 [(1,.ptr 0 1 0 0),(2,.ptr 1 1 0 0),(3,.ptr 2 1 0 0),(4,.int .i64 ((e:Nat):Int))],[(0,.vs [.int .i64 b,.int .i64 c,.imm d (.fl a) 1 1 0 (List.length a)]),(1,.vs [.int .i64 (0:Int),.int .i64 (0:Int),.nsl]),(2,.vs [.int .i64 c,.int .i64 b,.sl 3 1 1 0 (List.length a) (List.length a)]),(3,.fl f)],4⟩
def gD(b:Int)(c:Int)(a:List Nat)(d:(List Nat)) :aC:=⟨ag 47 [(2,.ptr 0 1 0 0),(3,.ptr 1 1 0 0)],[(0,.vs [.int .i64 (0:Int),.int .i64 (0:Int),.nsl]),(1,.vs [.int .i64 c,.int .i64 b,.sl 2 1 1 0 (List.length a) (List.length a)]),(2,.fl d)],3⟩
def mP:List Code:=bD (bE ((((pY.drop 3).take 1)).headD .skip))
def G2(b:Int)(c:Int)(d:Lv)(a:List Nat)(e:Nat)(f:List Nat)(_:Unit) :aC:=⟨ag 47 [(1,.ptr 0 1 0 0),(2,.ptr 1 1 0 0),(3,.ptr 2 1 0 0),(4,.int .i64 ((e:Nat):Int))],[(0,.vs [.int .i64 b,.int .i64 c,.imm d (.fl a) 1 1 0 (List.length a)]),(1,.vs [.int .i64 (0:Int),.int .i64 (0:Int),.nsl]),(2,.vs [.int .i64 c,.int .i64 b,.sl 3 1 1 0 (List.length a) (List.length a)]),(3,.fl f)],4⟩
def uk(a:Int)(b:Nat)(c:List Nat) :T ((Unit)⊕(((List Nat))⊕(cB))) :=
  .ask (decide (((b:Nat):Int) < a))
    (.leaf (.inl ()))
    (.leaf (.inr (.inl c)))
def j3(b:Int)(c:Int)(d:Lv)(a:List Nat)(e:Nat)(f:(List Nat)) :aC:=⟨ag 47 [(1,.ptr 0 1 0 0),(2,.ptr 1 1 0 0),(3,.ptr 2 1 0 0),(4,.int .i64 ((e:Nat):Int))],[(0,.vs [.int .i64 b,.int .i64 c,.imm d (.fl a) 1 1 0 (List.length a)]),(1,.vs [.int .i64 (0:Int),.int .i64 (0:Int),.nsl]),(2,.vs [.int .i64 c,.int .i64 b,.sl 3 1 1 0 (List.length a) (List.length a)]),(3,.fl f)],4⟩
def pZ:List Code:=bD (inBlock ((((mP.drop 2).take 1)).headD .skip))
def G3(b:Int)(c:Int)(d:Lv)(a:List Nat)(e:Nat)(f:List Nat)(_:Unit) :aC:=⟨ag 47 [(1,.ptr 0 1 0 0),(2,.ptr 1 1 0 0),(3,.ptr 2 1 0 0),(4,.int .i64 ((e:Nat):Int)),(5,.int .i64 (0:Int))],[(0,.vs [.int .i64 b,.int .i64 c,.imm d (.fl a) 1 1 0 (List.length a)]),(1,.vs [.int .i64 (0:Int),.int .i64 (0:Int),.nsl]),(2,.vs [.int .i64 c,.int .i64 b,.sl 3 1 1 0 (List.length a) (List.length a)]),(3,.fl f)],4⟩
def G4:T ((Unit)⊕(((List Nat))⊕(((List Nat))⊕(cB)))) :=
  .leaf (.inl ())
def mQ(b:Int)(c:Int)(d:Lv)(a:List Nat)(e:Nat) :Nat×(List Nat)→aC:=fun (f,g)=>⟨ag 47 [(1,.ptr 0 1 0 0),(2,.ptr 1 1 0 0),(3,.ptr 2 1 0 0),(4,.int .i64 ((e:Nat):Int)),(5,.int .i64 ((f:Nat):Int))],[(0,.vs [.int .i64 b,.int .i64 c,.imm d (.fl a) 1 1 0 (List.length a)]),(1,.vs [.int .i64 (0:Int),.int .i64 (0:Int),.nsl]),(2,.vs [.int .i64 c,.int .i64 b,.sl 3 1 1 0 (List.length a) (List.length a)]),(3,.fl g)],4⟩
def ul(b:Int)(c:Int)(d:Lv)(a:List Nat)(e:Nat)(f:(List Nat)) :aC:=⟨ag 47 [(1,.ptr 0 1 0 0),(2,.ptr 1 1 0 0),(3,.ptr 2 1 0 0),(4,.int .i64 ((e:Nat):Int))],[(0,.vs [.int .i64 b,.int .i64 c,.imm d (.fl a) 1 1 0 (List.length a)]),(1,.vs [.int .i64 (0:Int),.int .i64 (0:Int),.nsl]),(2,.vs [.int .i64 c,.int .i64 b,.sl 3 1 1 0 (List.length a) (List.length a)]),(3,.fl f)],4⟩
def G5:List Code:=bD (bE ((((pZ.drop 1).take 1)).headD .skip))
def um(d:Int)(c:Int)(e:List Nat)(b:Nat)(a:Nat)(f:List Nat) :T ((Nat×(List Nat))⊕(((List Nat))⊕(((List Nat))⊕(((List Nat))⊕(cB))))) :=
  .ask (decide (((a:Nat):Int) < c))
    (.need (dP .i64 (((a:Nat):Int) * d))<|.need (dP .i64 ((((a:Nat):Int) * d)+((b:Nat):Int)))<|.need (dP .i64 (((b:Nat):Int) * c))<|.need (dP .i64 ((((b:Nat):Int) * c)+((a:Nat):Int)))<|.need (iE ((((b:Nat):Int) * c)+((a:Nat):Int)) (List.length e))<|.need (iX (Int.toNat ((((b:Nat):Int) * c)+((a:Nat):Int))) (List.length e))<|.need (iE ((((a:Nat):Int) * d)+((b:Nat):Int)) (List.length e))<|.need (iX (Int.toNat ((((a:Nat):Int) * d)+((b:Nat):Int))) (List.length f))<|.need (dP .i64 (((a+1):Nat):Int))<|.leaf (.inl ((a+1),(List.set f (Int.toNat ((((a:Nat):Int) * d)+((b:Nat):Int))) (List.getD e (Int.toNat ((((b:Nat):Int) * c)+((a:Nat):Int))) 0)))))
    (.leaf (.inr (.inl f)))
def zE(a:Int)(b:Int)(c:List Nat)(d:Nat) :Nat×(List Nat)→Option ((Nat×(List Nat))⊕(((List Nat))⊕(((List Nat))⊕(((List Nat))⊕(cB))))):=fun (e,f) =>
  (um a b c d e f).run
theorem U6(a:Int)(b:Int)(e:Lv)(c:List Nat)(d:Nat)(f:Nat)(g:List Nat) :Sg prog [] G5 (mQ a b e c d (f,g)) (zE a b c d (f,g)) (mQ a b e c d) (aO 2 (ul a b e c d) (aO 1 (j3 a b e c d) (aO 0 (gD a b c) f4))):=by
  unfold zE;exact Sg.seg (C:=C0) ah jF 60 G5 (mQ a b e c d (f,g)) (um a b c d f g) (mQ a b e c d) (aO 2 (ul a b e c d) (aO 1 (j3 a b e c d) (aO 0 (gD a b c) f4))) [⟨[],[0,1,2,3],[1,2,3,4,5]⟩,⟨[],[0,1,2,3],[1,2,3,4]⟩] (by kernel_rfl)
def U7(a:Int)(b:Int)(c:Lv)(d:List Nat)(e:Nat) :(List Nat)→aC:=ul a b c d e
def G6(a:List Nat) :T (((List Nat))⊕(((List Nat))⊕(((List Nat))⊕(cB)))) :=
  .leaf (.inl a)
def U8(a:Int)(b:Int)(c:Lv)(d:List Nat)(e:Nat) :(List Nat)→aC:=j3 a b c d e
def G7(a:Nat)(b:List Nat) :T ((Nat×(List Nat))⊕(((List Nat))⊕(cB))) :=
  .need (dP .i64 (((a+1):Nat):Int))<|.leaf (.inl ((a+1),b))
def zF(b:Int)(d:Int)(e:List Nat) :Nat×(List Nat)→Option ((Nat×(List Nat))⊕(((List Nat))⊕(cB))):=fun (a,c) =>
  ax ((uk b a c).run) fun _ =>
  ax (Rg (ax ((G4).run) fun _ =>
  ax (dH (zE b d e a) (0,c)) fun f =>
  (G6 f).run)) fun g =>
  (G7 a g).run
theorem U9(b:Int)(c:Int)(f:Lv)(d:List Nat)(e:Nat)(g:List Nat) :Sg prog [] mP (mO b c f d (e,g)) (zF b c d (e,g)) (mO b c f d) (aO 0 (gD b c d) f4):=by
  unfold zF;exact Sg.cut 2 (aW iw) (Sg.seg (C:=C0) ah jF 60 (mP.take 2) (mO b c f d (e,g)) (uk b e g) (G2 b c f d e g) (aO 0 (gD b c d) f4) [⟨[],[0,1,2,3],[1,2,3,4]⟩,⟨[],[1,2,3],[2,3]⟩] (by kernel_rfl)) (fun a=>by cases a;exact Sg.cut 1 (aW iw) (C7 (id:=1) (K:=(j3 b c f d e)) (by kernel_rfl:((mP.drop 2).take 1) = [.block 1 (inBlock ((((mP.drop 2).take 1)).headD .skip))]) (aW iw) (jO (by decide) (BM _)) (Sg.cut 1 (aW (aW iw)) (Sg.seg (C:=C0) ah jF 60 (pZ.take 1) (G2 b c f d e g ()) (G4) (G3 b c f d e g) (aO 1 (j3 b c f d e) (aO 0 (gD b c d) f4)) [⟨[],[0,1,2,3],[1,2,3,4,5]⟩] (by kernel_rfl)) (fun a=>by cases a;exact Sg.cut 1 (aW (aW iw)) (Sg.pre ⟨[],[0,1,2,3],[1,2,3,4,5]⟩ rfl (by kernel_rfl:NS.on ⟨[],[0,1,2,3],[1,2,3,4,5]⟩ (G3 b c f d e g ())=(mQ b c f d e) (0,g)) (bT (I:=(mQ b c f d e)) (J:=(ul b c f d e)) (id:=2) (by kernel_rfl:((pZ.drop 1).take 1) = [.block 2 (.loop (bE ((((pZ.drop 1).take 1)).headD .skip)))]) (aW (aW iw)) (jO (by decide) (jO (by decide) (BM _))) (fun s=>by obtain ⟨j,k⟩:=s;exact U6 b c f d e j k) (0,g))) (fun h=>by exact Sg.seg (C:=C0) ah jF 60 ((pZ.drop 1).drop 1) (U7 b c f d e h) (G6 h) (j3 b c f d e) (aO 1 (j3 b c f d e) (aO 0 (gD b c d) f4)) [⟨[],[0,1,2,3],[1,2,3,4]⟩] (by kernel_rfl))))) (fun i=>by exact Sg.seg (C:=C0) ah jF 60 ((mP.drop 2).drop 1) (U8 b c f d e i) (G7 e i) (mO b c f d) (aO 0 (gD b c d) f4) [⟨[],[0,1,2,3],[1,2,3,4]⟩] (by kernel_rfl)))
def Va(a:Int)(b:Int)(c:List Nat) :(List Nat)→aC:=gD a b c
def G8(a:Int)(b:Int)(c:List Nat)(d:List Nat) :T ((Empty)⊕(cB)) :=
  .leaf (.inr (.r0 b a (List.length c) d))
def cM(b:Int)(c:Int)(a:List Nat) :Option cB:=l6 (ax ((zD a).run) fun d =>
  ax (dH (zF b c a) (0,d)) fun e =>
  (G8 b c a e).run)
theorem X8(c:Int)(d:Int)(e:Lv)(b:List Nat){x:cB}(h:cM c d b=some x) :ak prog i5 [] [.agg [.int .i64 c,.int .i64 d,.imm e (.fl b) 1 1 0 (List.length b)]] (Eg x) :=
  Sg.contract true Eg (by kernel_rfl:prog.funcs[i5]? = some (FN i5)) (by kernel_rfl:(FN i5).body=some (bp i5)) (Sg.cut 3 iw (Sg.seg (C:=C0) ah jF 60 (pY.take 3) (aL (FN i5) [] [.agg [.int .i64 c,.int .i64 d,.imm e (.fl b) 1 1 0 (List.length b)]]) (zD b) (Jq c d e b) f4 [⟨[],[0,16,176,144],[1,2,3,4]⟩] (by kernel_rfl)) (fun f=>by exact Sg.cut 1 iw (Sg.pre ⟨[],[0,1,2,3],[1,2,3,4]⟩ rfl (by kernel_rfl:NS.on ⟨[],[0,1,2,3],[1,2,3,4]⟩ (Jq c d e b f)=(mO c d e b) (0,f)) (bT (I:=(mO c d e b)) (J:=(gD c d b)) (id:=0) (by kernel_rfl:((pY.drop 3).take 1) = [.block 0 (.loop (bE ((((pY.drop 3).take 1)).headD .skip)))]) iw (BM _) (fun s=>by obtain ⟨j,k⟩:=s;exact U9 c d e b j k) (0,f))) (fun g=>by exact Sg.seg (C:=C0) ah jF 60 ((pY.drop 3).drop 1) (Va c d b g) (G8 c d b g) (fun a:Empty=>a.elim) f4 [⟨[],[0,2],[2]⟩] (by kernel_rfl))))
    (fun x=>by cases x with | r0 l m i n=>exact ⟨.inr rfl,[.agg [.int .i64 l,.int .i64 m,.sl 1 1 1 0 i i]],[],by kernel_rfl,trivial,by kernel_rfl⟩) h
def rj:Option cB→Bool
  | some _=>true
  | none=>false
def oW:Option cB→Int
  | some (.r0 x _ _ _)=>x
  | _=>0
def oX:Option cB→Int
  | some (.r0 _ x _ _)=>x
  | _=>0
def kT:Option cB→Nat
  | some (.r0 _ _ x _)=>x
  | _=>0
def kU:Option cB→List Nat
  | some (.r0 _ _ _ x)=>x
  | _=>[]
theorem X9{x:Option cB}(h:rj x=true) :x=some (.r0 (oW x) (oX x) (kT x) (kU x)):=by
  unfold rj at h
  split at h <;> first | rfl | (cases h;done) | (rename_i y;cases y;rfl)
def L6:aD:=bW i5 (.cons (.agg (.cons (.int .i64) (.cons (.int .i64) (.cons .fl .nil)))) .nil) fun t=>[⟨Eg (.r0 (oW (cM t.1.1 t.1.2.1 t.1.2.2.1.2)) (oX (cM t.1.1 t.1.2.1 t.1.2.2.1.2)) (kT (cM t.1.1 t.1.2.1 t.1.2.2.1.2)) (kU (cM t.1.1 t.1.2.1 t.1.2.2.1.2))),[rj (cM t.1.1 t.1.2.1 t.1.2.2.1.2)]⟩]
theorem TY:aM prog L6:=aG fun t=>(aH (fun h=>X8 t.1.1 t.1.2.1 t.1.2.2.1.1 t.1.2.2.1.2 (X9 h)) aR)
def abn:List aD:=L6 :: TX
theorem fC:aX prog (aZ abn):=am TY jF
end
end Go.Plb.Seat
namespace Go.Plb.Seat
open Go Go.Plb
set_option linter.unusedVariables false
set_option maxRecDepth 100000
noncomputable section
inductive cC where
  | r0 (a:Bool)
def d8:cC→AE×aC
  | .r0 a=>(.ret,⟨ag 83 [(6,.bool false a)],[],0⟩)
theorem fk:lc d8:=by intro x;cases x <;> (intro h;cases h)
def Eh:cC→ju
  | .r0 a=>⟨.bool false a,[]⟩
def ez:List Code:=bD (bp iA)
def BQ(b:Int)(c:Int)(d:Int)(e:Int)(f:Lv)(a:List Nat)(_:Unit) :aC:=⟨ag 83 [(0,.int .i64 b),(1,.int .i64 c),(5,.ptr 0 1 0 0)],[(0,.vs [.int .i64 d,.int .i64 e,.imm f (.fl a) 1 1 0 (List.length a)])],1⟩
def s5(a:List Nat) :T ((Unit)⊕(cC)) :=
  .ask (decide ((((List.length a):Nat):Int) > (400:Int)))
    (.need (pT (i4))<|.leaf (.inr (.r0 (pU (i4)))))
    (.leaf (.inl ()))
def BS(b:Int)(c:Int)(d:Int)(e:Int)(f:Lv)(a:List Nat) :Nat×Bool×(List Int)×Nat×Nat×Int→aC:=fun (g,h,i,j,k,l)=>⟨ag 83 [(0,.int .i64 b),(1,.int .i64 c),(5,.ptr 0 1 0 0),(7,.ptr 1 1 0 0),(8,.int .i64 ((g:Nat):Int))],[(0,.vs [.int .i64 d,.int .i64 e,.imm f (.fl a) 1 1 0 (List.length a)]),(1,.vs [.bool false h,.imm .free (.ns .u64 i) 1 1 j k,.int .i64 l])],2⟩
def kM(a:Int)(b:Int) :T ((Nat×Bool×(List Int)×Nat×Nat×Int)⊕(cC)) :=
  .need (rN (bB a b))<|.leaf (.inl ((qZ (bB a b)),(q7 (bB a b)),(q8 (bB a b)),(q9 (bB a b)),(ra (bB a b)),(rc (bB a b))))
def BT(b:Int)(c:Int)(d:Int)(e:Int)(f:Lv)(a:List Nat)(g:Nat)(h:Bool)(i:List Int)(j:Nat)(k:Nat)(l:Int)(m:Bool) :aC:=⟨ag 83 [(0,.int .i64 b),(1,.int .i64 c),(5,.ptr 0 1 0 0),(7,.ptr 1 1 0 0),(8,.int .i64 ((g:Nat):Int)),(35,.bool false m)],[(0,.vs [.int .i64 d,.int .i64 e,.imm f (.fl a) 1 1 0 (List.length a)]),(1,.vs [.bool false h,.imm .free (.ns .u64 i) 1 1 j k,.int .i64 l])],2⟩
def iR(a:Int)(b:Int) :T ((Bool)⊕(cC)) :=
  .ask (decide (a < (0:Int)))
    (.leaf (.inl true))
    (.ask (decide (a > (512:Int)))
      (.leaf (.inl true))
      (.ask (decide (b < (0:Int)))
        (.leaf (.inl true))
        (.leaf (.inl (decide (b > (512:Int)))))))
def BU(b:Int)(c:Int)(d:Lv)(a:List Nat)(_:Unit) :aC:=⟨ag 83 [(5,.ptr 0 1 0 0)],[(0,.vs [.int .i64 b,.int .i64 c,.imm d (.fl a) 1 1 0 (List.length a)])],1⟩
def f5(a:Int)(b:Int)(h:Nat)(f:Bool)(c:List Int)(d:Nat)(e:Nat)(g:Int)(i:Bool) :T ((Unit)⊕(cC)) :=
  .ask i
    (.ask (((h:Nat):Int) != (2:Int))
      (.leaf (.inr (.r0 false)))
      (.need (aI d e c)<|.need (ug (k8 f (aa d e c) g ([]:List Int) (0:Int)))<|.ask (!(wu (k8 f (aa d e c) g ([]:List Int) (0:Int))))
        (.leaf (.inr (.r0 false)))
        (.leaf (.inl ()))))
    (.ask (((h:Nat):Int) != (0:Int))
      (.leaf (.inr (.r0 false)))
      (.need (s4 (db a b))<|.need (aI d e c)<|.need (aI 0 (mM (db a b)) (mL (db a b)))<|.need (rQ (ku f (aa d e c) g (pV (db a b)) (aa 0 (mM (db a b)) (mL (db a b))) (pW (db a b))))<|.ask (!(rh (ku f (aa d e c) g (pV (db a b)) (aa 0 (mM (db a b)) (mL (db a b))) (pW (db a b)))))
        (.leaf (.inr (.r0 false)))
        (.leaf (.inl ()))))
def BV(b:Int)(c:Int)(d:Lv)(a:List Nat) :Nat×Int×Int×(List Nat)×Nat→aC:=fun (f8,e,f,g,h)=>⟨ag 83 [(5,.ptr 0 1 0 0),(9,.ptr 1 1 0 0),(10,.int .i64 ((f8:Nat):Int))],[(0,.vs [.int .i64 b,.int .i64 c,.imm d (.fl a) 1 1 0 (List.length a)]),(1,.vs [.int .i64 e,.int .i64 f,.imm .free (.fl g) 1 1 0 h])],2⟩
def oY(b:Int)(c:Int)(a:List Nat) :T ((Nat×Int×Int×(List Nat)×Nat)⊕(cC)) :=
  .need (aI 0 (List.length a) a)<|.need (yw (dN b c (aa 0 (List.length a) a)))<|.leaf (.inl ((zt (dN b c (aa 0 (List.length a) a))),(zu (dN b c (aa 0 (List.length a) a))),(zw (dN b c (aa 0 (List.length a) a))),(zA (dN b c (aa 0 (List.length a) a))),(zz (dN b c (aa 0 (List.length a) a)))))
def BW(b:Int)(c:Int)(d:Lv)(a:List Nat)(f8:Nat)(e:Int)(f:Int)(g:List Nat)(h:Nat)(i:Bool) :aC:=⟨ag 83 [(5,.ptr 0 1 0 0),(9,.ptr 1 1 0 0),(10,.int .i64 ((f8:Nat):Int)),(61,.bool false i)],[(0,.vs [.int .i64 b,.int .i64 c,.imm d (.fl a) 1 1 0 (List.length a)]),(1,.vs [.int .i64 e,.int .i64 f,.imm .free (.fl g) 1 1 0 h])],2⟩
def iS(b:Int)(c:Int)(a:List Nat) :T ((Bool)⊕(cC)) :=
  .need (aI 0 (List.length a) a)<|.need (CR (wU b c (aa 0 (List.length a) a)))<|.leaf (.inl (!(Ef (wU b c (aa 0 (List.length a) a)))))
def BX(b:Int)(c:Int)(d:Lv)(a:List Nat)(f8:Nat)(e:Int)(f:Int)(g:List Nat)(h:Nat)(_:Unit) :aC:=⟨ag 83 [(5,.ptr 0 1 0 0),(9,.ptr 1 1 0 0),(10,.int .i64 ((f8:Nat):Int))],[(0,.vs [.int .i64 b,.int .i64 c,.imm d (.fl a) 1 1 0 (List.length a)]),(1,.vs [.int .i64 e,.int .i64 f,.imm .free (.fl g) 1 1 0 h])],2⟩
def oZ(f8:Nat)(c:Int)(d:Int)(a:List Nat)(b:Nat)(e:Bool) :T ((Unit)⊕(cC)) :=
  .ask e
    (.ask (((f8:Nat):Int) == (2:Int))
      (.need (aI 0 b a)<|.need (vt (lZ c d (aa 0 b a) (0:Int) (0:Int) ([]:List Nat)))<|.ask (v8 (lZ c d (aa 0 b a) (0:Int) (0:Int) ([]:List Nat)))
        (.need (pT (i4))<|.leaf (.inr (.r0 (pU (i4)))))
        (.leaf (.inr (.r0 false))))
      (.leaf (.inr (.r0 false))))
    (.leaf (.inl ()))
def BY(a:Bool) :aC:=⟨ag 83 [(6,.bool false a)],[],0⟩
def o0(b:Int)(c:Int)(a:List Nat)(f8:Nat)(f:Int)(g:Int)(d:List Nat)(e:Nat) :T ((Bool)⊕(cC)) :=
  .ask (((f8:Nat):Int) == (0:Int))
    (.need (aI 0 (List.length a) a)<|.need (rj (cM b c (aa 0 (List.length a) a)))<|.need (aI 0 e d)<|.need (aI 0 (kT (cM b c (aa 0 (List.length a) a))) (kU (cM b c (aa 0 (List.length a) a))))<|.need (vt (lZ f g (aa 0 e d) (oW (cM b c (aa 0 (List.length a) a))) (oX (cM b c (aa 0 (List.length a) a))) (aa 0 (kT (cM b c (aa 0 (List.length a) a))) (kU (cM b c (aa 0 (List.length a) a))))))<|.ask (v8 (lZ f g (aa 0 e d) (oW (cM b c (aa 0 (List.length a) a))) (oX (cM b c (aa 0 (List.length a) a))) (aa 0 (kT (cM b c (aa 0 (List.length a) a))) (kU (cM b c (aa 0 (List.length a) a))))))
      (.need (pT (i4))<|.leaf (.inl (pU (i4))))
      (.leaf (.inl false)))
    (.leaf (.inl false))
def A8(a:Bool) :T ((Empty)⊕(cC)) :=
  .leaf (.inr (.r0 a))
def Ei(b:Int)(c:Int)(d:Int)(e:Int)(a:List Nat) :Option cC:=l6 (ax ((s5 a).run) fun _ =>
  ax ((kM b c).run) fun (j,k,l,m,n,o) =>
  ax ((iR b c).run) fun p =>
  ax ((f5 b c j k l m n o p).run) fun _ =>
  ax ((oY d e a).run) fun (f8,f,g,h,i) =>
  ax ((iS d e a).run) fun q =>
  ax ((oZ f8 f g h i q).run) fun _ =>
  ax ((o0 d e a f8 f g h i).run) fun r =>
  (A8 r).run)
theorem MG(f:Int)(g:Int)(c:Int)(d:Int)(e:Lv)(b:List Nat){x:cC}(h:Ei f g c d b=some x) :ak prog iA [] [.int .i64 f,.int .i64 g,.agg [.int .i64 c,.int .i64 d,.imm e (.fl b) 1 1 0 (List.length b)]] (Eh x) :=
  Sg.contract false Eh (by kernel_rfl:prog.funcs[iA]? = some (FN iA)) (by kernel_rfl:(FN iA).body=some (bp iA)) (Sg.cut 3 fk (Sg.seg (C:=C0) ah fC 60 (ez.take 3) (aL (FN iA) [] [.int .i64 f,.int .i64 g,.agg [.int .i64 c,.int .i64 d,.imm e (.fl b) 1 1 0 (List.length b)]]) (s5 b) (BQ f g c d e b) d8 [⟨[],[],[6]⟩,⟨[],[0],[0,1,5]⟩] (by kernel_rfl)) (fun a=>by cases a;exact Sg.cut 1 fk (Sg.seg (C:=C0) ah fC 60 ((ez.drop 3).take 1) (BQ f g c d e b ()) (kM f g) (BS f g c d e b) d8 [⟨[],[0,97],[0,1,5,7,8]⟩] (by kernel_rfl)) (fun a=>by obtain ⟨m,n,o,p,q,r⟩:=a;exact Sg.cut 1 fk (Sg.seg (C:=C0) ah fC 60 (((ez.drop 3).drop 1).take 1) (BS f g c d e b (m,n,o,p,q,r)) (iR f g) (BT f g c d e b m n o p q r) d8 [⟨[],[0,1],[0,1,5,7,8,35]⟩,⟨[],[0,1],[0,1,5,7,8,35]⟩,⟨[],[0,1],[0,1,5,7,8,35]⟩,⟨[],[0,1],[0,1,5,7,8,35]⟩] (by kernel_rfl)) (fun s=>by exact Sg.cut 1 fk (Sg.seg (C:=C0) ah fC 60 ((((ez.drop 3).drop 1).drop 1).take 1) (BT f g c d e b m n o p q r s) (f5 f g m n o p q r s) (BU c d e b) d8 [⟨[],[],[6]⟩,⟨[],[],[6]⟩,⟨[],[0],[5]⟩,⟨[],[],[6]⟩,⟨[],[],[6]⟩,⟨[],[0],[5]⟩] (by kernel_rfl)) (fun a=>by cases a;exact Sg.cut 1 fk (Sg.seg (C:=C0) ah fC 60 (((((ez.drop 3).drop 1).drop 1).drop 1).take 1) (BU c d e b ()) (oY c d b) (BV c d e b) d8 [⟨[],[0,81],[5,9,10]⟩] (by kernel_rfl)) (fun a=>by obtain ⟨f8,i,j,k,l⟩:=a;exact Sg.cut 1 fk (Sg.seg (C:=C0) ah fC 60 ((((((ez.drop 3).drop 1).drop 1).drop 1).drop 1).take 1) (BV c d e b (f8,i,j,k,l)) (iS c d b) (BW c d e b f8 i j k l) d8 [⟨[],[0,1],[5,9,10,61]⟩] (by kernel_rfl)) (fun t=>by exact Sg.cut 1 fk (Sg.seg (C:=C0) ah fC 60 (((((((ez.drop 3).drop 1).drop 1).drop 1).drop 1).drop 1).take 1) (BW c d e b f8 i j k l t) (oZ f8 i j k l t) (BX c d e b f8 i j k l) d8 [⟨[],[],[6]⟩,⟨[],[],[6]⟩,⟨[],[],[6]⟩,⟨[],[0,1],[5,9,10]⟩] (by kernel_rfl)) (fun a=>by cases a;exact Sg.cut 1 fk (Sg.seg (C:=C0) ah fC 60 ((((((((ez.drop 3).drop 1).drop 1).drop 1).drop 1).drop 1).drop 1).take 1) (BX c d e b f8 i j k l ()) (o0 c d b f8 i j k l) BY d8 [⟨[],[],[6]⟩,⟨[],[],[6]⟩,⟨[],[],[6]⟩] (by kernel_rfl)) (fun u=>by exact Sg.seg (C:=C0) ah fC 60 ((((((((ez.drop 3).drop 1).drop 1).drop 1).drop 1).drop 1).drop 1).drop 1) (BY u) (A8 u) (fun a:Empty=>a.elim) d8 [⟨[],[],[6]⟩] (by kernel_rfl))))))))))
    (fun x=>by cases x with | r0 v=>exact ⟨.inr rfl,[.bool false v],[],by kernel_rfl,trivial,by kernel_rfl⟩) h
end
end Go.Plb.Seat
namespace Go.Plb.Seat
open Go Go.Plb
set_option linter.unusedVariables false
set_option maxRecDepth 100000
noncomputable section
end
end Go.Plb.Seat
namespace Go.Plb.Seat
open Go Go.Plb
set_option linter.unusedVariables false
set_option maxRecDepth 100000
noncomputable section
end
end Go.Plb.Seat
namespace Go.Plb.Seat
open Go Go.Plb
set_option linter.unusedVariables false
set_option maxRecDepth 100000
noncomputable section
end
end Go.Plb.Seat
namespace Go.Plb.Seat
open Go Go.Plb
set_option linter.unusedVariables false
set_option maxRecDepth 100000
noncomputable section
end
end Go.Plb.Seat
namespace Go.Plb.Seat
open Go Go.Plb
set_option linter.unusedVariables false
set_option maxRecDepth 100000
noncomputable section
end
end Go.Plb.Seat
namespace Go.Plb.Seat
open Go Go.Plb
set_option linter.unusedVariables false
set_option maxRecDepth 100000
noncomputable section
end
end Go.Plb.Seat
namespace Go.Plb.Seat
open Go Go.Plb
set_option linter.unusedVariables false
set_option maxRecDepth 100000
noncomputable section
end
end Go.Plb.Seat
namespace Go.Plb.Seat
open Go Go.Plb
set_option linter.unusedVariables false
set_option maxRecDepth 100000
noncomputable section
end
end Go.Plb.Seat
namespace Go.Plb.Seat
open Go Go.Plb
set_option linter.unusedSimpArgs false
set_option linter.unusedVariables false
theorem wz(s:Bool){v n:Nat}(hv:v < W ^ n)(hn:n≤1000000)(hl:nl v≤4096){e:Int}(he : -1000000≤e∧e≤1000000) :
    ∃ N,au s (aA v n) e=some (.r0 (nS (sg s v)) (aA (nM (sg s v)) N) 0 (nl (nM (sg s v))) (nE (sg s v) e))∧nl (nM (sg s v))≤N∧N≤4096:=by
  have t5:(Cd (aA v n)).run=some (.inl (aA v (nl v),nl v,false)):=by
    unfold Cd
    rw [aE,aeh hv (by omega),if_neg (by omega)]
    exact bt (aj rfl)
  by_cases h0:v=0
  · have z:sg s v=0:=xo.2 h0
    rw [z,iU,Yk]
    rw [oo,iT]
    refine ⟨0,bc (ae t5 (bR ?_)),Nat.le_refl _,Nat.zero_le _⟩
    rw [h0,iT]
    exact bH rfl
  · have z:sg s v ≠ 0:=fun q=>h0 (xo.1 q)
    have hp:=Bc h0
    have ht:=ahK (v:=v)
    obtain ⟨b,N,h1,h2,h3⟩:=anx (k:=tz v) (dp v) (by omega) hl (by omega)
    have eM:nM (sg s v)=v / 2 ^ tz v:=by unfold nM;rw [JP]
    have eE:nE (sg s v) e=e+((tz v:Nat):Int):=by rw [jP z,JP]
    rw [aoA h0,eM,eE]
    refine ⟨N,bc (ae t5 (ae (a:=((tz v:Nat):Int)) ?_ (ae (a:=(aA (v / 2 ^ tz v) N,0,nl (v / 2 ^ tz v))) ?_ ?_))),h2,h3⟩
    · show (Ce _ _).run=_
      unfold Ce
      rw [dR ay,akj (dp v) h0 hl (by omega)]
      exact dJ (jN (aj rfl))
    · show (Cf _ _ _).run=_
      unfold Cf
      rw [dR ay,h1]
      exact jN (aj rfl)
    · exact cZ (by rw [c7];omega) rfl
theorem aiy{v n:Nat}(hv:v < W ^ n)(hn:n≤1000000)(hl:nl v≤4096){e:Int}(he : -262144≤e∧e≤262144) :d4 (aA v n) e=some (.r0 true):=by
  refine bc (ae (a:=0) ?_ (ae (a:=true) ?_ rfl))
  · unfold Kp
    rw [aE,aeh hv (by omega),if_neg (by omega)]
    exact bt (aj rfl)
  · refine bH (dm ?_)
    show some (Sum.inl (decide (e≤262144)))=_
    rw [decide_eq_true he.2]
theorem IT{z e:Int}{s:Bool}(hs:z ≠ 0→s=nS z)(h:Sm z e) :∃ N,au s (aA (nM z) (nl (nM z))) (nE z e)=some (.r0 (nS z) (aA (nM z) N) 0 (nl (nM z)) (nE z e))∧nl (nM z)≤N∧N≤4096:=by
  have hm:=h.m
  have hb:=h.b
  obtain ⟨N,h1,h2,h3⟩:=wz s (dp (nM z)) (by omega) (by omega:nl (nM z)≤4096) (e:=nE z e) (by omega)
  obtain ⟨a,b,c⟩:=Rn (e:=e) hs
  rw [a,b,c] at h1
  rw [b] at h2
  exact ⟨N,h1,h2,h3⟩
theorem QG{z e:Int}(h:Sm z e) :d4 (aA (nM z) (nl (nM z))) (nE z e)=some (.r0 true):=by
  have hm:=h.m
  have hb:=h.b
  exact aiy (dp (nM z)) (by omega) (by omega) (by omega)
theorem QH(s:Bool){v n:Nat}(hv:v < W ^ n)(hn:n≤1000000)(hl:nl v≤1000){e:Int}(he : -150000≤e∧e≤150000) :
    ∃ N,bS s (aA v n) e=some (.r0 0 (nS (sg s v)) (aA (nM (sg s v)) N) 0 (nl (nM (sg s v))) (nE (sg s v) e))∧nl (nM (sg s v))≤N∧N≤4096:=by
  obtain ⟨N,h1,h2,h3⟩:=wz s hv hn (by omega) (e:=e) (by omega)
  have ht:=ahK (v:=v)
  have hE' : -262144≤nE (sg s v) e∧nE (sg s v) e≤262144:=by
    unfold nE;rw [JP];split <;> omega
  obtain ⟨hE',hE⟩:=hE'
  refine ⟨N,bc (ae (a:=(nS (sg s v),aA (nM (sg s v)) N,0,nl (nM (sg s v)),nE (sg s v) e,false)) ?_ (ae (a:=false) ?_ rfl)),h2,h3⟩
  · unfold H4
    rw [aE,h1]
    exact bt (aj rfl)
  · show (Ch _ _ _ _).run=_
    unfold Ch
    rw [bO h2,aiy (dp _) (by omega) (by omega) ⟨hE',hE⟩]
    exact cZ (bf h2) (aj rfl)
theorem TZ{z:Int}{m:Nat}(h:m≤tz z.natAbs) :nM z * 2 ^ (tz z.natAbs - m)=z.natAbs / 2 ^ m∧z.natAbs / 2 ^ m * 2 ^ m=z.natAbs:=by
  have b:=ak6 z
  have e:tz z.natAbs=(tz z.natAbs - m)+m:=by omega
  have d:z.natAbs / 2 ^ m * 2 ^ m=z.natAbs:=by
    refine Nat.div_mul_cancel ⟨nM z * 2 ^ (tz z.natAbs - m),?_⟩
    rw [e,Nat.pow_add,← Nat.mul_assoc] at b
    rw [Nat.mul_comm (2 ^ m)];exact b.symm
  refine ⟨?_,d⟩
  rw [e,Nat.pow_add,← Nat.mul_assoc] at b
  exact (Nat.div_eq_of_eq_mul_left (lI m) b.symm).symm
theorem Mv{z e:Int}{m:Nat}(h:Sm z e)(h0:z ≠ 0)(hm:m≤tz z.natAbs){k:Int}(hk:k=((tz z.natAbs - m:Nat):Int)) :
    gU (aA (nM z) (nl (nM z))) k=some (.r0 (aA (z.natAbs / 2 ^ m) (nl (z.natAbs / 2 ^ m))) (nl (z.natAbs / 2 ^ m)) 0):=by
  obtain ⟨e1,e2⟩:=TZ hm
  have ht:=h.t
  have hM:=h.m
  have hN:nl (z.natAbs / 2 ^ m)≤300:=Nat.le_trans (zO (Nat.div_le_self _ _)) h.l
  rw [hk,anv (dp _) (Rl h0) (by omega) (by omega) (by omega) (by rw [e1];omega),e1]
theorem aoj{a b:Int}(h:a≤b) :v9 a b=a:=by unfold v9;rw [if_neg (by omega)]
theorem agB{a b:Int}(h:b≤a) :v9 a b=b:=by
  unfold v9
  by_cases q:b < a
  · rw [if_pos q]
  · rw [if_neg q];omega
theorem Ym{a b:Int}(h:a≤b) :na a b=b:=by
  unfold na
  by_cases q:b > a
  · rw [if_pos q]
  · rw [if_neg q];omega
theorem alb{a b:Int}(h:b≤a) :na a b=a:=by unfold na;rw [if_neg (by omega)]
structure Lvl (x y e:Int) (m:Nat) (ep:Int):Prop where
  x2:x.natAbs / 2 ^ m * 2 ^ m=x.natAbs
  y2:y.natAbs / 2 ^ m * 2 ^ m=y.natAbs
  at':(x=0∧y=0∧ep=0)∨ep=e+m
  b : -50000≤ep∧ep≤94800
theorem Lvl.sum{x y e ep:Int}{m:Nat}(h:Lvl x y e m ep){z z':Int}(hz:z=z' * ((2 ^ m:Nat):Int))(h0:x=0→y=0→z'=0) :nS z=nS z'∧nM z=nM z'∧nE z e=nE z' ep:=by
  obtain ⟨a,b,c⟩:=GD hz e
  refine ⟨a,b,?_⟩
  rcases h.at' with ⟨h1,h2,h3⟩ | h1
  · have:=h0 h1 h2
    subst this
    rw [Int.zero_mul] at hz
    rw [hz,iU,iU]
  · rw [c,h1]
theorem abo{x y e:Int}(hx:Sm x e)(hy:Sm y e) :∃ m ep,cz (aA (nM x) (nl (nM x))) (nE x e) (aA (nM y) (nl (nM y))) (nE y e) =
    some (.r0 0 ep (aA (x.natAbs / 2 ^ m) (nl (x.natAbs / 2 ^ m))) (nl (x.natAbs / 2 ^ m)) (aA (y.natAbs / 2 ^ m) (nl (y.natAbs / 2 ^ m))) (nl (y.natAbs / 2 ^ m)))∧Lvl x y e m ep:=by
  have hxt:=hx.t
  have hyt:=hy.t
  obtain ⟨_,e1,e2⟩:=hx
  have zn:∀ m,((0:Int).natAbs / 2 ^ m)=0:=fun m=>by rw [Int.natAbs_zero,Nat.zero_div]
  by_cases h1:x=0
  · subst h1
    have l0:nl (nM 0)=0:=by rw [oo,iT]
    by_cases h2:y=0
    · subst h2
      refine ⟨0,0,bc (ae (a:=0) ?_ (ae (a:=([],0,[],0)) ?_ ?_)),⟨by simp,by simp,.inl ⟨rfl,rfl,rfl⟩,by omega⟩⟩
      · unfold ru;rw [ay,l0,iU];exact bH rfl
      · unfold km;rw [ay,l0];exact bH (bH rfl)
      · rw [zn,iT];rfl
    · have ly:nl (nM y) ≠ 0:=fun q=>Rl h2 (o5.1 q)
      obtain ⟨_,d⟩:=TZ (z:=y) (Nat.le_refl _)
      refine ⟨tz y.natAbs,nE y e,bc (ae (a:=nE y e) ?_ (ae (a:=([],0,aA (y.natAbs / 2 ^ tz y.natAbs) (nl (y.natAbs / 2 ^ tz y.natAbs)),nl (y.natAbs / 2 ^ tz y.natAbs))) ?_ ?_)),⟨by simp,d,.inr (jP h2),by rw [jP h2];omega⟩⟩
      · unfold ru;rw [ay,l0];exact bH rfl
      · show (km _ _ _ _ _).run=_
        unfold km
        rw [ay,ay,l0,dR ay,Mv hy h2 (Nat.le_refl _) (k:=nE y e - nE y e) (by omega)]
        exact bH (dJ (cZ (by rw [c7];omega) (jN (aj rfl))))
      · rw [zn,iT];rfl
  · have lx:nl (nM x) ≠ 0:=fun q=>Rl h1 (o5.1 q)
    by_cases h2:y=0
    · subst h2
      have l0:nl (nM 0)=0:=by rw [oo,iT]
      obtain ⟨_,d⟩:=TZ (z:=x) (Nat.le_refl _)
      have hx:Sm x e:=⟨by assumption,e1,e2⟩
      refine ⟨tz x.natAbs,nE x e,bc (ae (a:=nE x e) ?_ (ae (a:=(aA (x.natAbs / 2 ^ tz x.natAbs) (nl (x.natAbs / 2 ^ tz x.natAbs)),nl (x.natAbs / 2 ^ tz x.natAbs),[],0)) ?_ ?_)),⟨d,by simp,.inr (jP h1),by rw [jP h1];omega⟩⟩
      · unfold ru;rw [ay,ay,l0];exact dJ (bH rfl)
      · show (km _ _ _ _ _).run=_
        unfold km
        rw [ay,ay,l0,dR (l:=aA (nM x) (nl (nM x))) ay,Mv hx h1 (Nat.le_refl _) (k:=nE x e - nE x e) (by omega)]
        exact dJ (cZ (by rw [c7];omega) (jN (aj (bH rfl))))
      · rw [zn,iT];rfl
    · have ly:nl (nM y) ≠ 0:=fun q=>Rl h2 (o5.1 q)
      have hx:Sm x e:=⟨by assumption,e1,e2⟩
      have ex:=jP (e:=e) h1
      have ey:=jP (e:=e) h2
      have emin:v9 (nE x e) (nE y e)=e+((min (tz x.natAbs) (tz y.natAbs):Nat):Int):=by
        rw [ex,ey]
        rcases Nat.le_total (tz x.natAbs) (tz y.natAbs) with q | q
        · rw [aoj (by omega),Nat.min_eq_left q]
        · rw [agB (by omega),Nat.min_eq_right q]
      have emax:na (nE x e) (nE y e)=e+((max (tz x.natAbs) (tz y.natAbs):Nat):Int):=by
        rw [ex,ey]
        rcases Nat.le_total (tz x.natAbs) (tz y.natAbs) with q | q
        · rw [Ym (by omega),Nat.max_eq_right q]
        · rw [alb (by omega),Nat.max_eq_left q]
      have mx:min (tz x.natAbs) (tz y.natAbs)≤tz x.natAbs:=Nat.min_le_left _ _
      have my:min (tz x.natAbs) (tz y.natAbs)≤tz y.natAbs:=Nat.min_le_right _ _
      have gx:max (tz x.natAbs) (tz y.natAbs)≤44800:=by omega
      have gl:min (tz x.natAbs) (tz y.natAbs)≤max (tz x.natAbs) (tz y.natAbs):=by omega
      revert emin emax mx my gx gl
      generalize min (tz x.natAbs) (tz y.natAbs)=m
      generalize max (tz x.natAbs) (tz y.natAbs)=g
      intro emin emax mx my gx gl
      obtain ⟨_,dx⟩:=TZ mx
      obtain ⟨_,dy⟩:=TZ my
      refine ⟨m,e+m,bc (ae (a:=e+(m:Int)) ?_ (ae (a:=(aA (x.natAbs / 2 ^ m) (nl (x.natAbs / 2 ^ m)),nl (x.natAbs / 2 ^ m),aA (y.natAbs / 2 ^ m) (nl (y.natAbs / 2 ^ m)),nl (y.natAbs / 2 ^ m))) ?_ rfl)),⟨dx,dy,.inr rfl,by omega⟩⟩
      · unfold ru
        rw [ay,ay,emin,emax]
        exact dJ (dJ (cZ (by rw [c7];omega) (d9 (by rw [decide_eq_false_iff_not];omega) rfl)))
      · show (km _ _ _ _ _).run=_
        unfold km
        rw [ay,ay,dR (l:=aA (nM x) (nl (nM x))) ay,dR (l:=aA (nM y) (nl (nM y))) ay,Mv hx h1 mx (k:=nE x e - (e+(m:Int))) (by omega),Mv hy h2 my (k:=nE y e - (e+(m:Int))) (by omega)]
        exact dJ (cZ (by rw [c7];omega) (jN (aj (dJ (cZ (by rw [c7];omega) (jN (aj rfl)))))))
end Go.Plb.Seat
namespace Go.Plb.Seat
open Go Go.Plb
set_option linter.unusedSimpArgs false
set_option linter.unusedVariables false
theorem Vb(s:Bool){v n:Nat}(hv:v < W ^ n)(hn:n≤1000000)(hl:nl v≤1000){e:Int}(he : -150000≤e∧e≤150000) :
    ∃ N,bN s (aA v n) 0 e=some (.r0 0 (nS (sg s v)) (aA (nM (sg s v)) N) 0 (nl (nM (sg s v))) (nE (sg s v) e))∧nl (nM (sg s v))≤N∧N≤4096:=by
  obtain ⟨N,h1,h2,h3⟩:=QH s hv hn hl he
  refine ⟨N,bc (ae (a:=(0,nS (sg s v),aA (nM (sg s v)) N,0,nl (nM (sg s v)),nE (sg s v) e)) ?_ rfl),h2,h3⟩
  unfold Fw
  rw [aE,h1]
  exact bj (bt (aj rfl))
theorem aej{x y e:Int}{s t:Bool}(hs:x ≠ 0→s=nS x)(ht:y ≠ 0→t=nS y)(hx:Sm x e)(hy:Sm y e) :
    ∃ N,ck s (aA (nM x) (nl (nM x))) (nE x e) t (aA (nM y) (nl (nM y))) (nE y e)=some (.r0 0 (nS (x+y)) (aA (nM (x+y)) N) 0 (nl (nM (x+y))) (nE (x+y) e))∧nl (nM (x+y))≤N∧N≤4096:=by
  obtain ⟨Nx,x1,x2,x3⟩:=IT hs hx
  obtain ⟨Ny,y1,y2,y3⟩:=IT ht hy
  obtain ⟨m,ep,l1,l2⟩:=abo hx hy
  have xl:=hx.l
  have yl:=hy.l
  have hX:nl (x.natAbs / 2 ^ m)≤300:=Nat.le_trans (zO (Nat.div_le_self _ _)) xl
  have hY:nl (y.natAbs / 2 ^ m)≤300:=Nat.le_trans (zO (Nat.div_le_self _ _)) yl
  have ox:=aoD l2.x2
  have oy:=aoD l2.y2
  have z0:∀ {z:Int},z=0→z.natAbs / 2 ^ m=0:=fun h=>by rw [h,Int.natAbs_zero,Nat.zero_div]
  have zx:x=0→x.natAbs / 2 ^ m=0:=z0
  have zy:y=0→y.natAbs / 2 ^ m=0:=z0
  have hb:=l2.b
  have t9:(ER s (aA (nM x) (nl (nM x))) (nE x e) t (aA (nM y) (nl (nM y))) (nE y e)).run=some (.inl (0,nS x,aA (nM x) Nx,0,nl (nM x),nE x e,nS y,aA (nM y) Ny,0,nl (nM y),nE y e,false)):=by
    unfold ER
    rw [aE,aE,QG hx,QG hy,x1,y1]
    exact bH (aj (bt (aj (bj (bt (aj (aj (bH (aj (bt (aj (bj (bt (aj (aj (bj rfl))))))))))))))))
  have t10:(Ci 0 (aA (nM x) Nx) 0 (nl (nM x)) (nE x e) (aA (nM y) Ny) 0 (nl (nM y)) (nE y e)).run=some (.inl (0,ep,aA (x.natAbs / 2 ^ m) (nl (x.natAbs / 2 ^ m)),nl (x.natAbs / 2 ^ m),aA (y.natAbs / 2 ^ m) (nl (y.natAbs / 2 ^ m)),nl (y.natAbs / 2 ^ m))):=by
    unfold Ci
    rw [bO x2,bO y2,l1]
    exact bj (cZ (bf x2) (cZ (bf y2) (aj rfl)))
  clear l1 x1 y1
  have sum:=fun {z z':Int} (a:z=z' * ((2 ^ m:Nat):Int)) (b:x=0→y=0→z'=0)=>l2.sum a b
  revert t10 hX hY ox oy zx zy
  generalize x.natAbs / 2 ^ m=X
  generalize y.natAbs / 2 ^ m=Y
  intro hX hY ox oy zx zy t10
  have hXY:=ajB hX hY
  by_cases hsg:nS x=nS y
  · have hz:x+y=sg (nS x) (X+Y) * ((2 ^ m:Nat):Int):=by
      rw [← ao8,Int.add_mul,← ox]
      rw [hsg,← oy]
    obtain ⟨a,b,c⟩:=sum hz (fun p q=>by rw [zx p,zy q];cases nS x <;> rfl)
    obtain ⟨N,h1,h2,h3⟩:=Vb (nS x) (v:=X+Y) (dp _) (by omega) (by omega) (e:=ep) (by omega)
    rw [a,b,c]
    refine ⟨N,bc (ae t9 (ae t10 (bR ?_))),h2,h3⟩
    show (tE _ _ _ _ _ _ _ _).run=_
    unfold tE
    have hc:nl (X+Y)≤max (nl X) (nl Y)+1:=ajB (Nat.le_max_left _ _) (Nat.le_max_right _ _)
    rw [dR ay,dR ay,anq (dp X) (dp Y) (by omega) (by omega) (by omega) (by omega) (by omega)]
    simp only [Dg,i8,i9,kj,ja]
    rw [bO hc,show (((0:Nat):Int))=0 from rfl,h1]
    exact bj (rW (by rw [hsg];cases nS y <;> rfl) (jN (jN (aj (cZ (bf hc) (jN (jN (aj rfl))))))))
  · have hn:nS y = !(nS x):=by revert hsg;cases nS x <;> cases nS y <;> simp
    have t11:(tE (nS x) (nS y) 0 ep (aA X (nl X)) (nl X) (aA Y (nl Y)) (nl Y)).run=some (.inl ()):=by
      unfold tE
      exact bj (d9 (by rw [hn];cases nS x <;> rfl) rfl)
    have t12:(Cj (aA X (nl X)) (nl X) (aA Y (nl Y)) (nl Y)).run=some (.inl (Em X Y)):=by
      unfold Cj
      rw [dR ay,dR ay,aip (dp X) (dp Y) (by omega) (by omega) (by omega) (by omega)]
      exact jN (jN (aj rfl))
    have hxy:x+y=(sg (nS x) X - sg (nS x) Y) * ((2 ^ m:Nat):Int):=by
      rw [Int.sub_mul,← ox]
      have:y = -(sg (nS x) Y) * ((2 ^ m:Nat):Int):=by rw [← ajC,← hn];exact oy
      rw [Int.neg_mul] at this
      omega
    by_cases hlt:X < Y
    · have hz:x+y=sg (nS y) (Y - X) * ((2 ^ m:Nat):Int):=by
        rw [hxy,← ang (Nat.le_of_lt hlt),hn,ajC,ajC];congr 1;omega
      obtain ⟨a,b,c⟩:=sum hz (fun p q=>by rw [zx p,zy q];cases nS y <;> rfl)
      have hd:nl (Y - X)≤nl Y:=zO (Nat.sub_le _ _)
      obtain ⟨N,h1,h2,h3⟩:=Vb (nS y) (v:=Y - X) (dp _) (by omega) (by omega) (e:=ep) (by omega)
      rw [a,b,c]
      refine ⟨N,bc (ae t9 (ae t10 (ae t11 (ae t12 (bR ?_))))),h2,h3⟩
      show (Ck _ _ _ _ _ _ _).run=_
      unfold Ck
      have hc:Em X Y = -1:=if_pos hlt
      rw [hc,dR ay,dR ay,aio (dp Y) (dp X) (by omega) (by omega) (by omega) (by omega) (Nat.le_of_lt hlt)]
      simp only [yY,ig,ii,ij,jb]
      rw [bO hd,show (((0:Nat):Int))=0 from rfl,h1]
      exact bH (jN (jN (aj (cZ (bf hd) (jN (jN (aj rfl)))))))
    · have hz:x+y=sg (nS x) (X - Y) * ((2 ^ m:Nat):Int):=by
        rw [hxy,← ang (by omega)]
      obtain ⟨a,b,c⟩:=sum hz (fun p q=>by rw [zx p,zy q];cases nS x <;> rfl)
      have hd:nl (X - Y)≤nl X:=zO (Nat.sub_le _ _)
      obtain ⟨N,h1,h2,h3⟩:=Vb (nS x) (v:=X - Y) (dp _) (by omega) (by omega) (e:=ep) (by omega)
      rw [a,b,c]
      have hc:decide (Em X Y < 0)=false:=by
        rw [decide_eq_false_iff_not];unfold Em;rw [if_neg hlt];split <;> omega
      refine ⟨N,bc (ae t9 (ae t10 (ae t11 (ae t12 (ae (a:=()) (d9 hc rfl) (ae (a:=(0,aA (X - Y) (nl X),0,nl (X - Y))) ?_ (ae (a:=(0,nS (sg (nS x) (X - Y)),aA (nM (sg (nS x) (X - Y))) N,0,nl (nM (sg (nS x) (X - Y))),nE (sg (nS x) (X - Y)) ep)) ?_ rfl))))))),h2,h3⟩
      · show (Cl _ _ _ _).run=_
        unfold Cl
        rw [dR ay,dR ay,aio (dp X) (dp Y) (by omega) (by omega) (by omega) (by omega) (by omega)]
        exact jN (jN (aj rfl))
      · show (Cm _ _ _ _ _ _ _ _ _ _).run=_
        unfold Cm
        rw [bO hd,show (((0:Nat):Int))=0 from rfl,h1]
        exact cZ (bf hd) (jN (jN (aj rfl)))
theorem alX{x y e:Int}(hx:Sm x e)(hy:Sm y e) :
    ∃ N,ck (nS x) (aA (nM x) (nl (nM x))) (nE x e) (nS y) (aA (nM y) (nl (nM y))) (nE y e)=some (.r0 0 (nS (x+y)) (aA (nM (x+y)) N) 0 (nl (nM (x+y))) (nE (x+y) e))∧nl (nM (x+y))≤N∧N≤4096 :=
  aej (fun _=>rfl) (fun _=>rfl) hx hy
theorem aek{x y e:Int}(hx:Sm x e)(hy:Sm y e) :
    ∃ N,dF (nS x) (aA (nM x) (nl (nM x))) (nE x e) (nS y) (aA (nM y) (nl (nM y))) (nE y e)=some (.r0 0 (nS (x - y)) (aA (nM (x - y)) N) 0 (nl (nM (x - y))) (nE (x - y) e))∧nl (nM (x - y))≤N∧N≤4096:=by
  obtain ⟨N,h1,h2,h3⟩:=aej (x:=x) (y:=-y) (e:=e) (s:=nS x) (t:=!(nS y)) (fun _=>rfl) (fun h=>by
    unfold nS;rw [← decide_not];congr 1;exact propext (by omega)) hx hy.n
  rw [ao6,ao7,← Int.sub_eq_add_neg] at h1
  rw [← Int.sub_eq_add_neg] at h2
  refine ⟨N,bc (ae (a:=(0,nS (x - y),aA (nM (x - y)) N,0,nl (nM (x - y)),nE (x - y) e)) ?_ rfl),h2,h3⟩
  unfold Ly
  rw [aE,aE,h1]
  exact bt (bt (aj rfl))
theorem Mw{x y e f:Int}(hx:Sm x e)(hy:Sm y f) :
    ∃ N,an (nS x) (aA (nM x) (nl (nM x))) (nE x e) (nS y) (aA (nM y) (nl (nM y))) (nE y f)=some (.r0 0 (nS (x * y)) (aA (nM (x * y)) N) 0 (nl (nM (x * y))) (nE (x * y) (e+f)))∧nl (nM (x * y))≤N∧N≤4096:=by
  obtain ⟨Nx,x1,x2,x3⟩:=IT (s:=nS x) (fun _=>rfl) hx
  obtain ⟨Ny,y1,y2,y3⟩:=IT (s:=nS y) (fun _=>rfl) hy
  have xm:=hx.m
  have ym:=hy.m
  have xb:=hx.b
  have yb:=hy.b
  have hm:=ajA (a:=nM x) (b:=nM y)
  obtain ⟨N,h1,h2,h3⟩:=QH (nS x != nS y) (v:=nM x * nM y) (dp _) (by omega) (by omega) (e:=nE x e+nE y f) (by omega)
  have key:nS (x * y)=nS (sg (nS x != nS y) (nM x * nM y))∧nM (x * y)=nM (sg (nS x != nS y) (nM x * nM y))∧nE (x * y) (e+f)=nE (sg (nS x != nS y) (nM x * nM y)) (nE x e+nE y f):=by
    have hz:x * y=sg (nS x != nS y) (nM x * nM y) * ((2 ^ (tz x.natAbs+tz y.natAbs):Nat):Int):=by
      have a:=Rm x
      have b:=Rm y
      rw [← adM,Nat.pow_add,Int.natCast_mul]
      conv=>lhs;rw [← a,← b]
      simp only [Int.mul_assoc,Int.mul_comm,Int.mul_left_comm]
    obtain ⟨a,b,c⟩:=GD hz (e+f)
    refine ⟨a,b,?_⟩
    rw [c]
    by_cases p:x=0
    · subst p;rw [oo,Nat.zero_mul]
      have:sg (nS 0 != nS y) 0=0:=xo.2 rfl
      rw [this,iU,iU]
    · by_cases q:y=0
      · subst q;rw [oo,Nat.mul_zero]
        have:sg (nS x != nS 0) 0=0:=xo.2 rfl
        rw [this,iU,iU]
      · rw [jP p,jP q];congr 1;omega
  obtain ⟨a,b,c⟩:=key
  rw [a,b,c]
  refine ⟨N,bc (ae (a:=(0,nS x,aA (nM x) Nx,0,nl (nM x),nE x e,nS y,aA (nM y) Ny,0,nl (nM y),nE y f,false)) ?_ (ae (a:=(aA (nM x * nM y) (nl (nM x)+nl (nM y)),0,nl (nM x * nM y),0)) ?_ (ae (a:=(0,nS (sg (nS x != nS y) (nM x * nM y)),aA (nM (sg (nS x != nS y) (nM x * nM y))) N,0,nl (nM (sg (nS x != nS y) (nM x * nM y))),nE (sg (nS x != nS y) (nM x * nM y)) (nE x e+nE y f))) ?_ rfl))),h2,h3⟩
  · unfold Ks
    rw [aE,aE,QG hx,QG hy,x1,y1]
    exact bH (aj (bt (aj (bj (bt (aj (aj (bH (aj (bt (aj (bj (bt (aj (aj (bj rfl))))))))))))))))
  · show (ET _ _ _ _ _ _ _).run=_
    unfold ET
    rw [bO x2,bO y2,ans (dp (nM x)) (dp (nM y)) (by omega) (by omega) (by omega)]
    have e1:nl (nM x)=nl (nM x):=rfl
    exact bj (cZ (bf x2) (cZ (bf y2) (aj rfl)))
  · show (EU _ _ _ _ _ _ _ _).run=_
    unfold EU
    rw [bO hm]
    have h1':bS (!(nS x == nS y)) (aA (nM x * nM y) (nl (nM x * nM y))) (nE x e+nE y f)=_:=h1
    rw [h1']
    exact bj (cZ (by rw [c7];omega) (cZ (bf hm) (aj rfl)))
end Go.Plb.Seat
namespace Go.Plb.Seat
open Go Go.Plb
set_option linter.unusedSimpArgs false
set_option linter.unusedVariables false
def PC(z:Int) :Int:=if z < 0 then -1 else if 0 < z then 1 else 0
theorem CY(z:Int) :gQ (nS z) (aA (nM z) (nl (nM z)))=some (.r0 (PC z)):=by
  refine bc ?_
  unfold H7
  rw [ay]
  unfold PC nS
  by_cases h0:z=0
  · subst h0;rw [oo,iT];exact bH rfl
  · have:nl (nM z) ≠ 0:=fun q=>Rl h0 (o5.1 q)
    by_cases h:z < 0
    · rw [if_pos h];exact dJ (rW (decide_eq_true h) rfl)
    · rw [if_neg h,if_pos (by omega)];exact dJ (d9 (decide_eq_false h) rfl)
theorem aok{X Y p:Nat}(hp:0 < p) :Em X Y=sgn ((X:Int) * p) ((Y:Int) * p):=by
  unfold Em sgn
  have h:∀ {a b:Nat},a < b↔(a:Int) * p < (b:Int) * p:=fun {a b}=>by
    rw [← Int.natCast_mul,← Int.natCast_mul,Int.ofNat_lt]
    exact ⟨fun q=>Nat.mul_lt_mul_of_pos_right q hp,fun q=>Nat.lt_of_mul_lt_mul_right q⟩
  simp only [h]
theorem aol{a b:Int} :(0:Int) - sgn a b=sgn (-a) (-b):=by unfold sgn;split <;> split <;> (try split) <;> omega
theorem alY{x y e:Int}(hx:Sm x e)(hy:Sm y e) :
    qx (nS x) (aA (nM x) (nl (nM x))) (nE x e) (nS y) (aA (nM y) (nl (nM y))) (nE y e)=some (.r0 (sgn x y) 0):=by
  obtain ⟨Nx,x1,x2,x3⟩:=IT (s:=nS x) (fun _=>rfl) hx
  obtain ⟨Ny,y1,y2,y3⟩:=IT (s:=nS y) (fun _=>rfl) hy
  obtain ⟨m,ep,l1,l2⟩:=abo hx hy
  have xl:=hx.l
  have yl:=hy.l
  have hX:nl (x.natAbs / 2 ^ m)≤300:=Nat.le_trans (zO (Nat.div_le_self _ _)) xl
  have hY:nl (y.natAbs / 2 ^ m)≤300:=Nat.le_trans (zO (Nat.div_le_self _ _)) yl
  have hc:Em (x.natAbs / 2 ^ m) (y.natAbs / 2 ^ m)=sgn (x.natAbs:Int) (y.natAbs:Int):=by
    rw [aok (lI m),← Int.natCast_mul,← Int.natCast_mul,l2.x2,l2.y2]
  have t8:(EX 0 (aA (x.natAbs / 2 ^ m) (nl (x.natAbs / 2 ^ m))) (nl (x.natAbs / 2 ^ m)) (aA (y.natAbs / 2 ^ m) (nl (y.natAbs / 2 ^ m))) (nl (y.natAbs / 2 ^ m))).run=some (.inl (sgn (x.natAbs:Int) (y.natAbs:Int))):=by
    unfold EX
    rw [dR ay,dR ay,aip (dp _) (dp _) (by omega) (by omega) (by omega) (by omega),← hc]
    exact bj (jN (jN (aj rfl)))
  have t7:(EW 0 (aA (nM x) Nx) 0 (nl (nM x)) (nE x e) (aA (nM y) Ny) 0 (nl (nM y)) (nE y e)).run=some (.inl (0,ep,aA (x.natAbs / 2 ^ m) (nl (x.natAbs / 2 ^ m)),nl (x.natAbs / 2 ^ m),aA (y.natAbs / 2 ^ m) (nl (y.natAbs / 2 ^ m)),nl (y.natAbs / 2 ^ m))):=by
    unfold EW
    rw [bO x2,bO y2,l1]
    exact bj (cZ (bf x2) (cZ (bf y2) (aj rfl)))
  refine bc (ae (a:=(0,nS x,aA (nM x) Nx,0,nl (nM x),nE x e,nS y,aA (nM y) Ny,0,nl (nM y),nE y e)) ?_ (ae t7 (ae t8 ?_)))
  · unfold Ku
    rw [aE,aE,QG hx,QG hy,x1,y1]
    exact bH (aj (bt (aj (bj (bt (aj (aj (bH (aj (bt (aj (bj (bt (aj (aj (bj rfl))))))))))))))))
  · have h9:∀ n18,sw (nS x) (aA (nM x) Nx) 0 (nl (nM x)) (nS y) (aA (nM y) Ny) 0 (nl (nM y)) n18=sw (nS x) (aA (nM x) Nx) 0 (nl (nM x)) (nS y) (aA (nM y) Ny) 0 (nl (nM y)) n18:=fun _=>rfl
    by_cases hs:PC x=PC y
    · by_cases hn:x < 0
      · have e1:nS x=true:=decide_eq_true hn
        have hy0:y < 0:=by unfold PC at hs;rw [if_pos hn] at hs;revert hs;split <;> (try split) <;> omega
        have ev:(0:Int) - sgn (x.natAbs:Int) (y.natAbs:Int)=sgn x y:=by
          rw [aol];congr 1 <;> omega
        refine bR ?_
        unfold sw
        rw [bO x2,bO y2,CY,CY]
        simp only [ko,fO]
        refine cZ (bf x2) (aj (cZ (bf y2) (aj (d9 (by rw [hs,bne_self_eq_false]) (rW e1 (cZ ?_ ?_))))))
        · rw [ev,c7];unfold sgn;split <;> (try split) <;> omega
        · rw [ev];rfl
      · have e1:nS x=false:=decide_eq_false hn
        have hy0 : ¬ y < 0:=by unfold PC at hs;rw [if_neg hn] at hs;revert hs;split <;> (try split) <;> (try split) <;> omega
        have ev:sgn (x.natAbs:Int) (y.natAbs:Int)=sgn x y:=by congr 1 <;> omega
        refine ae (a:=()) ?_ (by rw [ev];rfl)
        unfold sw
        rw [bO x2,bO y2,CY,CY]
        simp only [ko,fO]
        exact cZ (bf x2) (aj (cZ (bf y2) (aj (d9 (by rw [hs,bne_self_eq_false]) (d9 e1 rfl)))))
    · have ev:na (-1) (v9 1 (PC x - PC y))=sgn x y:=by
        unfold na v9 sgn;unfold PC at hs ⊢
        revert hs
        repeat' split
        all_goals omega
      refine bR ?_
      unfold sw
      rw [bO x2,bO y2,CY,CY]
      simp only [ko,fO]
      rw [ev]
      refine cZ (bf x2) (aj (cZ (bf y2) (aj (rW (bne_iff_ne.2 hs) (cZ (bf x2) (aj (cZ (bf y2) (aj (cZ ?_ rfl)))))))))
      rw [c7];unfold PC;split <;> (try split) <;> (try split) <;> (try split) <;> omega
theorem aiz{x e k:Int}(hx:Sm x e)(hk : -30000≤k∧k≤30000) :
    ∃ N,ew (nS x) (aA (nM x) (nl (nM x))) (nE x e) k=some (.r0 0 (nS x) (aA (nM x) N) 0 (nl (nM x)) (nE x (e+k)))∧nl (nM x)≤N∧N≤4096:=by
  obtain ⟨Nx,x1,x2,x3⟩:=IT (s:=nS x) (fun _=>rfl) hx
  have xm:=hx.m
  have xb:=hx.b
  have t5:(zV (nS x) (aA (nM x) (nl (nM x))) (nE x e)).run=some (.inl (0,nS x,aA (nM x) Nx,0,nl (nM x),nE x e,false)):=by
    unfold zV
    rw [aE,QG hx,x1]
    exact bH (aj (bt (aj (bj (bt (aj (aj (bj rfl))))))))
  by_cases h0:x=0
  · subst h0
    rw [oo,iT] at t5
    rw [oo,iT,iU,Yk]
    refine ⟨0,bc (ae (by rw [iU,Yk] at t5;exact t5) (ae (a:=true) (bj rfl) (bR (bH rfl)))),Nat.le_refl _,Nat.zero_le _⟩
  · have hl:nl (nM x) ≠ 0:=fun q=>Rl h0 (o5.1 q)
    have ek:na (-1048576) (v9 1048576 k)=k:=by rw [agB (by omega),Ym (by omega)]
    obtain ⟨N,h1,h2,h3⟩:=QH (nS x) (v:=nM x) (dp _) (by omega) (by omega) (e:=nE x e+k) (by omega)
    obtain ⟨a,b,c⟩:=Rn (z:=x) (e:=e) (s:=nS x) (fun _=>rfl)
    have c':nE (sg (nS x) (nM x)) (nE x e+k)=nE x (e+k):=by
      have q:sg (nS x) (nM x) ≠ 0:=fun w=>Rl h0 (xo.1 w)
      rw [jP q,jP h0] at c
      rw [jP q,jP h0,jP h0];omega
    rw [a,b,c'] at h1
    rw [b] at h2
    refine ⟨N,bc (ae t5 (ae (a:=false) (bj (by show some (Sum.inl _)=_;rw [beq_eq_false_iff_ne.2 (by omega)])) (ae (a:=(0,nS x,aA (nM x) N,0,nl (nM x),nE x (e+k))) ?_ rfl))),h2,h3⟩
    show (zW _ _ _ _ _ _ _ _).run=_
    unfold zW
    rw [bO x2,ek,h1]
    exact bj (cZ (by rw [c7];omega) (cZ (bf x2) (aj rfl)))
theorem L7{n:Nat}(h:n < 9223372036854775808) :
    ∃ N,ba (n:Int)=some (.r0 (nS (n:Int)) (aA (nM (n:Int)) N) 0 (nl (nM (n:Int))) (nE (n:Int) 0))∧nl (nM (n:Int))≤N∧N≤4096:=by
  have hW:n < W:=Nat.lt_trans h (by decide)
  have hn:nl n≤1:=jL (by rw [Nat.pow_one];exact hW)
  obtain ⟨N,h1,h2,h3⟩:=wz false (v:=n) (dp _) (by omega) (by omega) (e:=0) (by omega)
  have e:sg false n=(n:Int):=rfl
  rw [e] at h1 h2
  refine ⟨N,bc (ae (a:=((n:Int),false)) ?_ (ae (a:=(nS (n:Int),aA (nM (n:Int)) N,0,nl (nM (n:Int)),nE (n:Int) 0)) ?_ rfl)),h2,h3⟩
  · unfold FC
    rw [wc hW]
    exact d9 (by rw [decide_eq_false_iff_not];omega) rfl
  · show (zY _ _).run=_
    unfold zY
    have d:decide ((n:Int) < 0)=false:=by rw [decide_eq_false_iff_not];omega
    rw [ala hW,d]
    simp only [yT,ej,em,er]
    rw [bO hn,h1]
    exact aj (cZ (bf hn) (aj rfl))
theorem T1{x:Nat}(hx:x < Zh) :gE .and .u64 (Int.fdiv (x:Int) (2 ^ (min (Int.toNat (52:Int)) IntKind.u64.bits))) 2047=((xpo x:Nat):Int):=by
  have e:(52:Int)=((52:Nat):Int):=by omega
  have e':(2047:Int)=((2047:Nat):Int):=by omega
  rw [e,EA _ (by decide),e',Rj]
  have h1:x / 2 ^ 52 < W:=Nat.lt_of_le_of_lt (Nat.div_le_self _ _) hx
  rw [Nat.mod_eq_of_lt h1,Nat.mod_eq_of_lt (show 2047 < W by decide)]
  congr 1
  exact Nat.and_two_pow_sub_one_eq_mod _ 11
theorem Mx{x:Nat}(hx:x < Zh) :gE .and .u64 (x:Int) 4503599627370495=((x % 4503599627370496:Nat):Int):=by
  have e':(4503599627370495:Int)=((4503599627370495:Nat):Int):=by omega
  rw [e',Rj,Nat.mod_eq_of_lt hx,Nat.mod_eq_of_lt (show 4503599627370495 < W by decide)]
  congr 1
  exact Nat.and_two_pow_sub_one_eq_mod _ 52
theorem alZ{x:Nat}(hx:x < Zh) :Int.fdiv (x:Int) (2 ^ (min (Int.toNat (63:Int)) IntKind.u64.bits))=((x / 9223372036854775808:Nat):Int):=by
  have e:(63:Int)=((63:Nat):Int):=by omega
  rw [e,EA _ (by decide)]
theorem anz{y:Nat}(h:y < 4503599627370496) :gE .or .u64 (y:Int) 4503599627370496=((y+4503599627370496:Nat):Int):=by
  have e':(4503599627370496:Int)=((4503599627370496:Nat):Int):=by omega
  have hy:y < W:=Nat.lt_trans h (by decide)
  rw [e',ae7,Nat.mod_eq_of_lt hy,Nat.mod_eq_of_lt (show 4503599627370496 < W by decide)]
  congr 1
  have:=ajx (h:=y) (x:=1) (r:=52) h
  rw [Nat.one_mul] at this
  exact this
def alc(x:Nat) :Nat:=if xpo x ≠ 0 then 3 else if x % 4503599627370496 ≠ 0 then 2 else 1
theorem akl{x:Nat}(hx:x < Zh)(h:Ek x=true) :tF (x:Int)=some (.r0 (alc x)):=by
  have h':xpo x ≠ 2047:=by unfold Ek at h;exact bne_iff_ne.1 h
  unfold alc
  by_cases h1:xpo x=0
  · by_cases h2:x % 4503599627370496=0
    · rw [if_neg (by omega),if_neg (by omega)]
      refine bc (ae (a:=()) ?_ rfl)
      unfold uK
      rw [T1 hx,Mx hx,h1,h2]
      exact aj (bj (bj (bj (bj rfl))))
    · rw [if_neg (by omega),if_pos h2]
      refine bc (bR ?_)
      unfold uK
      rw [T1 hx,Mx hx,h1]
      exact aj (bj (bj (bj (dm rfl))))
  · rw [if_pos h1]
    refine bc (bR ?_)
    unfold uK
    rw [T1 hx,Mx hx]
    exact aj (dJ (dJ (dm rfl)))
def fm(x:Nat) :Nat:=if xpo x ≠ 0 then x % 4503599627370496+4503599627370496 else x % 4503599627370496
def fe(x:Nat) :Int:=if xpo x ≠ 0 then -1074+((xpo x:Int) - 1) else if x % 4503599627370496 ≠ 0 then -1074 else 0
theorem al0{z:Nat}(h:z < 4096) :IntKind.i64.wrap ((z:Nat):Int)=((z:Nat):Int):=by
  simp only [IntKind.wrap,IntKind.signed,IntKind.bits]
  simp
  omega
theorem akm(x:Nat) :xpo x < 2048:=Nat.mod_lt _ (by decide)
theorem akn{x:Nat}(hx:x < Zh)(h:Ek x=true) :dS (x:Int)=some (.r0 0 (x / 9223372036854775808 == 1) ((fm x:Nat):Int) (fe x)):=by
  have hl:=akm x
  have hs:(((x / 9223372036854775808:Nat):Int) == (1:Int))=(x / 9223372036854775808 == 1):=by
    rw [Bool.eq_iff_iff,beq_iff_eq,beq_iff_eq];omega
  refine bc (ae (a:=(alc x,false,(x / 9223372036854775808 == 1),((x % 4503599627370496:Nat):Int))) ?_ ?_)
  · unfold FD
    rw [akl hx h,Mx hx,alZ hx,hs]
    exact aj (aj rfl)
  · show (z4 _ _ _ _).run=_
    unfold z4 alc fm fe
    rw [T1 hx,al0 (by omega),anz (Nat.mod_lt _ (by decide))]
    by_cases h1:xpo x=0
    · by_cases h2:x % 4503599627370496=0
      · rw [if_neg (by omega),if_neg (by omega),if_neg (by omega),if_neg (by omega),if_neg (by omega)]
        exact bj (bj (bH rfl))
      · rw [if_neg (by omega),if_pos h2,if_neg (by omega),if_neg (by omega),if_pos h2]
        exact bj (bH rfl)
    · rw [if_pos h1,if_pos h1,if_pos h1]
      exact bH (aj (cZ (by rw [c7];omega) (cZ (by rw [c7];omega) rfl)))
theorem apP(x:Nat) :fm x < W:=by
  have:=Nat.mod_lt x (show 4503599627370496 > 0 by decide)
  have w:(9007199254740992:Nat) < W:=by decide
  unfold fm;split <;> omega
theorem anA{x:Nat}(hx:x < Zh)(h:Ek x=true) :nS (sg (x / 9223372036854775808 == 1) (fm x))=nS (fz x)∧nM (sg (x / 9223372036854775808 == 1) (fm x))=nM (fz x)∧nE (sg (x / 9223372036854775808 == 1) (fm x)) (fe x)=nE (fz x) (-1074):=by
  have hx':x < 18446744073709551616:=hx
  have hl:=akm x
  unfold fz fm fe
  have hmod:x % 4503599627370496=x % 9223372036854775808 % 4503599627370496:=by omega
  by_cases h1:xpo x=0
  · have h3:x % 9223372036854775808 < 4503599627370496:=by unfold xpo at h1;omega
    have h4:nj (x % 9223372036854775808)=0:=by unfold nj;omega
    have h5:Fj (x % 9223372036854775808)=x % 4503599627370496:=by unfold Fj;rw [if_pos h3];omega
    rw [h4,h5,Nat.pow_zero,Nat.mul_one,if_neg (by omega),if_neg (by omega)]
    by_cases h2:x % 4503599627370496=0
    · rw [h2,if_neg (by omega)]
      have z:sg (x / 9223372036854775808 == 1) 0=0:=xo.2 rfl
      rw [z,iU,iU];exact ⟨rfl,rfl,rfl⟩
    · rw [if_pos h2];exact ⟨rfl,rfl,rfl⟩
  · have h3 : ¬ x % 9223372036854775808 < 4503599627370496:=by unfold xpo at h1;omega
    have h4:nj (x % 9223372036854775808)=xpo x - 1:=by unfold nj xpo;omega
    have h5:Fj (x % 9223372036854775808)=x % 4503599627370496+4503599627370496:=by unfold Fj;rw [if_neg h3];omega
    rw [h4,h5,if_pos h1,if_pos h1]
    obtain ⟨a,b,c⟩:=GD (z:=sg (x / 9223372036854775808 == 1) ((x % 4503599627370496+4503599627370496) * 2 ^ (xpo x - 1))) (z':=sg (x / 9223372036854775808 == 1) (x % 4503599627370496+4503599627370496)) (m:=xpo x - 1) ajy (-1074)
    refine ⟨a.symm,b.symm,?_⟩
    rw [c];congr 1;omega
theorem anB{x:Nat}(hx:x < Zh)(h:Ek x=true) :
    ∃ N,gV x=some (.r0 0 (nS (fz x)) (aA (nM (fz x)) N) 0 (nl (nM (fz x))) (nE (fz x) (-1074)))∧nl (nM (fz x))≤N∧N≤4096:=by
  have hm:=apP x
  have hn:nl (fm x)≤1:=jL (by rw [Nat.pow_one];exact hm)
  have hl:=akm x
  have he : -1000000≤fe x∧fe x≤1000000:=by unfold fe;split <;> (try split) <;> omega
  obtain ⟨N,h1,h2,h3⟩:=wz (x / 9223372036854775808 == 1) (v:=fm x) (dp _) (by omega) (by omega) he
  obtain ⟨a,b,c⟩:=anA hx h
  rw [a,b,c] at h1
  rw [b] at h2
  refine ⟨N,bc (ae (a:=(0,false,(x / 9223372036854775808 == 1),((fm x:Nat):Int),fe x)) ?_ (ae (a:=(nS (fz x),aA (nM (fz x)) N,0,nl (nM (fz x)),nE (fz x) (-1074))) ?_ rfl)),h2,h3⟩
  · unfold Qq
    rw [akn hx h]
    exact d9 (ae9 hx h) (ao1 (cZ (by rw [an6 hx h];rfl) (aj rfl)))
  · show (Ie _ _ _ _).run=_
    unfold Ie
    rw [ala hm]
    simp only [yT,ej,em,er]
    rw [bO hn,h1]
    exact bj (aj (cZ (bf hn) (aj rfl)))
end Go.Plb.Seat
namespace Go.Plb
set_option linter.unusedSimpArgs false
set_option linter.unusedVariables false
set_option linter.unusedSectionVars false
variable [Rom]
abbrev H:Nat:=4294967296
def lmh(v i:Nat) :Int:=((v / H ^ i % H:Nat):Int)
def mB(v n:Nat) :List Int:=fh (lmh v) n
theorem Ej(n:Nat) :0 < H ^ n:=Nat.pow_pos (by decide)
theorem un{v n:Nat} :(mB v n).length=n:=eB
theorem T3{v i:Nat}(h:v < H ^ i) :lmh v i=0:=by unfold lmh;rw [Nat.div_eq_of_lt h];rfl
theorem abp{v n i:Nat}(h:i < n) :(mB v n).getD i 0=lmh v i:=wb h
theorem IU{v n:Nat}(h:v < H ^ n)(i:Nat) :(mB v n).getD i 0=lmh v i:=by
  by_cases hi:i < n
  · exact abp hi
  · rw [List.getD_eq_getElem?_getD,List.getElem?_eq_none (by rw [un];omega)]
    exact (T3 (Nat.lt_of_lt_of_le h (Nat.pow_le_pow_right (by decide) (by omega)))).symm
theorem al2{v n m:Nat}(h:m≤n) :aa 0 m (mB v n)=mB v m:=adI h
theorem ako{n:Nat} :List.replicate n (0:Int)=mB 0 n:=by
  rw [qO];exact cr fun i _=>(T3 (Ej i)).symm
theorem Xp{u x j:Nat}(hu:u < H ^ j)(hx:x < H)(i:Nat) :lmh (u+x * H ^ j) i=if i=j then (x:Int) else lmh u i:=by
  unfold lmh
  by_cases e:i=j
  · subst e
    rw [if_pos rfl,Nat.add_mul_div_right _ _ (Ej i),Nat.div_eq_of_lt hu,Nat.zero_add,Nat.mod_eq_of_lt hx]
  · rw [if_neg e]
    congr 1
    rcases Nat.lt_or_ge i j with h | h
    · obtain ⟨d,rfl⟩:∃ d,j=i+1+d:=⟨j - i - 1,by omega⟩
      have:x * H ^ (i+1+d)=(x * H ^ d * H) * H ^ i:=by
        rw [Nat.pow_add,Nat.pow_succ];simp only [Nat.mul_assoc,Nat.mul_comm,Nat.mul_left_comm]
      rw [this,Nat.add_mul_div_right _ _ (Ej i),Nat.add_mul_mod_self_right]
    · have h1:H ^ (j+1)≤H ^ i:=Nat.pow_le_pow_right (by decide) (by omega)
      have h2:u+x * H ^ j < H ^ (j+1):=by
        rw [Nat.pow_succ,Nat.mul_comm (H ^ j)]
        have:(x+1) * H ^ j≤H * H ^ j:=Nat.mul_le_mul_right _ hx
        rw [Nat.add_mul,Nat.one_mul] at this
        omega
      have h3:H ^ j≤H ^ (j+1):=Nat.pow_le_pow_right (by decide) (by omega)
      rw [Nat.div_eq_of_lt (Nat.lt_of_lt_of_le h2 h1),Nat.div_eq_of_lt (by omega)]
theorem ads{u x j n:Nat}(hu:u < H ^ j)(hx:x < H)(hj:j < n) :(mB u n).set j (x:Int)=mB (u+x * H ^ j) n:=by
  unfold mB
  rw [tn hj]
  exact cr fun i _=>(Xp hu hx i).symm
theorem My(v j:Nat) :v % H ^ (j+1)=v % H ^ j+(v / H ^ j % H) * H ^ j:=by
  rw [Nat.pow_succ,Nat.mod_mul,Nat.mul_comm (H ^ j)]
theorem al3{v n:Nat} :mB (v % H ^ n) n=mB v n:=by
  refine cr fun i hi=>?_
  unfold lmh
  obtain ⟨d,rfl⟩:∃ d,n=i+1+d:=⟨n - i - 1,by omega⟩
  congr 1
  have h:=Nat.mod_mul (a:=H ^ i) (b:=H ^ (d+1)) (x:=v)
  have e:H ^ (i+1+d)=H ^ i * H ^ (d+1):=by rw [← Nat.pow_add];congr 1;omega
  rw [e,h,Nat.add_mul_div_left _ _ (Ej i),Nat.div_eq_of_lt (Nat.mod_lt _ (Ej i)),Nat.zero_add,Nat.pow_succ,Nat.mod_mul_left_mod]
theorem Xq{S t j:Nat}(hS:S < H ^ j) :(S+t * H ^ j) / H ^ (j+1)=t / H∧(S+t * H ^ j) % H ^ (j+1)=S+(t % H) * H ^ j:=by
  have e1:(S+t * H ^ j) / H ^ j=t:=by rw [Nat.add_mul_div_right _ _ (Ej j),Nat.div_eq_of_lt hS,Nat.zero_add]
  have e2:(S+t * H ^ j) % H ^ j=S:=by rw [Nat.add_mul_mod_self_right,Nat.mod_eq_of_lt hS]
  constructor
  · rw [Nat.pow_succ,← Nat.div_div_eq_div_mul,e1]
  · rw [My,e1,e2]
theorem Mz(v i:Nat) :lmh v i=((v / H ^ i % H:Nat):Int):=rfl
def m8(O a m k i:Nat) :Nat:=O % H ^ (k+i)+a % H ^ i * m * H ^ k
theorem abq(O a m k i:Nat) :m8 O a m k (i+1)=m8 O a m k i % H ^ (k+i)+(O / H ^ (k+i) % H+a / H ^ i % H * m+m8 O a m k i / H ^ (k+i)) * H ^ (k+i):=by
  have h:=Nat.div_add_mod (m8 O a m k i) (H ^ (k+i))
  have e:H ^ i * H ^ k=H ^ (k+i):=by rw [Nat.pow_add,Nat.mul_comm]
  have e2:(a / H ^ i % H) * H ^ i * m * H ^ k=a / H ^ i % H * m * H ^ (k+i):=by
    rw [← e];generalize a / H ^ i % H=x;ac_rfl
  have e3:m8 O a m k (i+1)=m8 O a m k i+(O / H ^ (k+i) % H * H ^ (k+i)+a / H ^ i % H * m * H ^ (k+i)):=by
    unfold m8
    rw [← Nat.add_assoc k i 1,My O,My a,Nat.add_mul,Nat.add_mul,e2]
    omega
  rw [e3,Nat.add_mul,Nat.add_mul,Nat.mul_comm (m8 O a m k i / H ^ (k+i))]
  omega
theorem aiA{O a m k i:Nat} :m8 O a m k i / H ^ (k+i)≤m:=by
  have h1:=Nat.mod_lt O (Ej (k+i))
  have h2:=Nat.mod_lt a (Ej i)
  have e:H ^ i * H ^ k=H ^ (k+i):=by rw [Nat.pow_add,Nat.mul_comm]
  have h3:a % H ^ i * m * H ^ k≤H ^ (k+i) * m:=by
    have:a % H ^ i * (m * H ^ k)≤H ^ i * (m * H ^ k):=Nat.mul_le_mul_right _ (by omega)
    have e4:H ^ i * (m * H ^ k)=H ^ (k+i) * m:=by rw [← e];ac_rfl
    rw [Nat.mul_assoc];omega
  have:m8 O a m k i < (m+1) * H ^ (k+i):=by
    rw [Nat.add_mul,Nat.one_mul,Nat.mul_comm m]
    unfold m8;omega
  have:=(Nat.div_lt_iff_lt_mul (Ej (k+i))).2 this
  omega
def PD(O a m k n i:Nat) :List Int:=fh (fun q=>if q < k+i then lmh (m8 O a m k i % H ^ (k+i)) q else lmh O q) n
theorem al4{O a m k n i:Nat} :(PD O a m k n i).length=n:=eB
theorem anC{O a m k n i:Nat}(h:k+i < n) :(PD O a m k n i).getD (k+i) 0=lmh O (k+i):=by
  unfold PD;rw [wb h,if_neg (Nat.lt_irrefl _)]
theorem akp{O a m k n:Nat} :PD O a m k n 0=mB O n:=by
  refine cr fun q hq=>?_
  by_cases h:q < k+0
  · rw [if_pos h]
    have e:m8 O a m k 0 % H ^ (k+0)=O % H ^ k:=by unfold m8;rw [Nat.pow_zero,Nat.mod_one,Nat.zero_mul,Nat.zero_mul,Nat.add_zero,Nat.add_zero,Nat.mod_mod]
    rw [e]
    have:(mB (O % H ^ k) k).getD q 0=(mB O k).getD q 0:=by rw [al3]
    rwa [abp (by omega),abp (by omega)] at this
  · rw [if_neg h]
theorem akq{O a m k n i:Nat}(h:k+i < n) :(PD O a m k n i).set (k+i) (((O / H ^ (k+i) % H+a / H ^ i % H * m+m8 O a m k i / H ^ (k+i)) % H:Nat):Int)=PD O a m k n (i+1):=by
  unfold PD
  rw [tn h]
  refine cr fun q hq=>?_
  have hS:=Nat.mod_lt (m8 O a m k i) (Ej (k+i))
  obtain ⟨_,d2⟩:=Xq (t:=O / H ^ (k+i) % H+a / H ^ i % H * m+m8 O a m k i / H ^ (k+i)) hS
  rw [← abq] at d2
  have hl:=Xp hS (Nat.mod_lt (O / H ^ (k+i) % H+a / H ^ i % H * m+m8 O a m k i / H ^ (k+i)) (show H > 0 by decide)) q
  rw [← d2] at hl
  rw [← Nat.add_assoc k i 1]
  by_cases e:q=k+i
  · rw [if_pos e] at hl ⊢
    rw [if_pos (by omega),hl]
  · rw [if_neg e] at hl ⊢
    by_cases r:q < k+i
    · rw [if_pos r,if_pos (by omega),hl]
    · rw [if_neg r,if_neg (by omega)]
theorem al5{O a m k n:Nat}(hO:O < H ^ (k+n))(ha:a < H ^ n) :m8 O a m k n=O+a * m * H ^ k:=by
  unfold m8;rw [Nat.mod_eq_of_lt hO,Nat.mod_eq_of_lt ha]
theorem al6{O a m k n N:Nat}(hO:O < H ^ (k+n)) :PD O a m k N n=mB (m8 O a m k n % H ^ (k+n)) N:=by
  refine cr fun q hq=>?_
  by_cases h:q < k+n
  · rw [if_pos h]
  · rw [if_neg h,T3 (Nat.lt_of_lt_of_le hO (Nat.pow_le_pow_right (by decide) (by omega))),T3 (Nat.lt_of_lt_of_le (Nat.mod_lt _ (Ej _)) (Nat.pow_le_pow_right (by decide) (by omega)))]
theorem H2(i:Nat) :W ^ i=H ^ (2 * i):=by rw [Nat.pow_mul,show H ^ 2=W by decide]
theorem ald(v i:Nat) :v / W ^ i % W % H=v / H ^ (2 * i) % H:=by
  rw [H2,show W=H * H by decide,Nat.mod_mul_right_mod]
theorem ale(v i:Nat) :v / W ^ i % W / H=v / H ^ (2 * i+1) % H:=by
  rw [H2,show W=H * H by decide,Nat.mod_mul_right_div_self,Nat.div_div_eq_div_mul,Nat.pow_succ]
theorem aiB(v i:Nat) :v / W ^ i % W=v / H ^ (2 * i) % H+v / H ^ (2 * i+1) % H * H:=by
  rw [← ald,← ale,Nat.mul_comm];exact (Nat.mod_add_div _ _).symm
end Go.Plb
namespace Go.Plb.Seat
open Go Go.Plb
set_option linter.unusedSimpArgs false
set_option linter.unusedVariables false
theorem G9{v n m:Nat}(h:m≤n) :List.take m (aA v n)=aA v m:=by
  have:=bO (v:=v) h
  rwa [Ml,List.drop_zero] at this
theorem IV{v n:Nat}(h:v < W ^ n)(hn:n≤1000000) :cA (aA v n)=some (.r0 (nl v) (aA v (nl v))):=by
  have hl:=jL h
  refine bc (ae rfl (ae (a:=((nl v:Nat):Int)) (cx (fun j=>((n - j:Nat):Int)) (n - nl v) (by simp only [ay];rfl) (fun j hj=>?_) ?_) ?_))
  · show ax (pE _ _).run _=_
    have e:Int.toNat (((n - j:Nat):Int) - 1)=n - (j+1):=by omega
    have z:(aA v n).getD (n - (j+1)) 0=0:=by
      rw [cR h]
      exact Ez (Nat.lt_of_lt_of_le (dp v) (Nat.pow_le_pow_right (by decide) (by omega)))
    refine ae (a:=true) ?_ ?_
    · unfold pE
      rw [e,z,ay]
      exact dm (ai (ai (ai rfl)))
    · unfold Dw
      refine bH (ai ?_)
      show some (Sum.inl _)=_
      congr 2;omega
  · have e0:n - (n - nl v)=nl v:=by omega
    show ax (pE _ _).run _=_
    rw [e0]
    by_cases h0:v=0
    · have z:=o5.2 h0
      rw [z]
      exact ae (a:=false) (bj rfl) (bj rfl)
    · have hp:=Bc h0
      have e:Int.toNat (((nl v:Nat):Int) - 1)=nl v - 1:=by omega
      refine ae (a:=false) ?_ (bj rfl)
      unfold pE
      rw [e,cR h,ay]
      refine dm (ai (ai (ai ?_)))
      show some (Sum.inl _)=_
      congr 2
      rw [beq_eq_false_iff_ne];exact ae6 h0
  · unfold Dy
    rw [ay,cy,G9 hl]
    exact ai (ai (ai (ai (ai rfl))))
theorem al7{v n:Nat}(h:v < W ^ n)(hn:n≤1000000)(hv:nl v≤4096) :wL (aA v n)=some (.r0 true):=by
  have hl:=jL h
  refine bc (ae rfl (ae (a:=((nl v:Nat):Int)) (cx (fun j=>((n - j:Nat):Int)) (n - nl v) (by simp only [ay];rfl) (fun j hj=>?_) ?_) ?_))
  · show ax (rL _ _).run _=_
    have e:Int.toNat (((n - j:Nat):Int) - 1)=n - (j+1):=by omega
    have z:(aA v n).getD (n - (j+1)) 0=0:=by
      rw [cR h]
      exact Ez (Nat.lt_of_lt_of_le (dp v) (Nat.pow_le_pow_right (by decide) (by omega)))
    refine ae (a:=true) ?_ ?_
    · unfold rL
      rw [e,z,ay]
      exact dm (ai (ai (ai rfl)))
    · unfold FW
      refine bH (ai ?_)
      show some (Sum.inl _)=_
      congr 2;omega
  · have e0:n - (n - nl v)=nl v:=by omega
    show ax (rL _ _).run _=_
    rw [e0]
    by_cases h0:v=0
    · have z:=o5.2 h0
      rw [z]
      exact ae (a:=false) (bj rfl) (bj rfl)
    · have hp:=Bc h0
      have e:Int.toNat (((nl v:Nat):Int) - 1)=nl v - 1:=by omega
      refine ae (a:=false) ?_ (bj rfl)
      unfold rL
      rw [e,cR h,ay]
      refine dm (ai (ai (ai ?_)))
      show some (Sum.inl _)=_
      congr 2
      rw [beq_eq_false_iff_ne];exact ae6 h0
  · show some (Sum.inr (iK.r0 (decide (((nl v:Nat):Int)≤4096))))=_
    rw [decide_eq_true (by omega)]
theorem aoG(x:Nat) :Int.tmod (x:Int) (4294967296:Int)=((x % 4294967296:Nat):Int):=rfl
theorem aoH(x:Nat) :Int.tdiv (x:Int) (4294967296:Int)=((x / 4294967296:Nat):Int):=rfl
theorem akr{v n m:Nat}(h:m≤n) :List.take m (mB v n)=mB v m:=by
  have:=al2 (v:=v) h
  rwa [Ml,List.drop_zero] at this
theorem T4(v n:Nat) :v % H ^ n < H ^ n:=Nat.mod_lt _ (Ej n)
theorem aiC{v n:Nat}(h:v < W ^ n)(hn:n≤100000) :cP (aA v n)=some (.r0 (2 * n) (2 * n) (mB v (2 * n))):=by
  refine bc (ae rfl (ae (a:=(2 * n,2 * n,mB v (2 * n))) (cx (fun i=>(2 * i,2 * i,i,mB v (2 * i))) n rfl (fun i hi=>?_) ?_) rfl))
  · show (uN _ _ _ _ _).run=_
    unfold uN
    have e1:mB v (2 * (i+1))=mB v (2 * i) ++ [((v / H ^ (2 * i) % H:Nat):Int),((v / H ^ (2 * i+1) % H:Nat):Int)]:=by
      show fh _ (2 * i+1+1)=_
      simp only [fh,mB,Mz,List.append_assoc];rfl
    rw [cR h,xk,ay,un,aoG,aoH]
    have hlt:v / W ^ i % W / 4294967296 < W:=Nat.lt_of_le_of_lt (Nat.div_le_self _ _) (Nat.mod_lt _ (by decide))
    rw [wc hlt,akr (Nat.le_refl _)]
    have w1:v / W ^ i % W % 4294967296=v / H ^ (2 * i) % H:=ald v i
    have w2:v / W ^ i % W / 4294967296=v / H ^ (2 * i+1) % H:=ale v i
    rw [w1,w2]
    refine dm (ai (ai (aj (ai (ai (aj (ai (ai (aj (ai (ai ?_)))))))))))
    show some (Sum.inl (2 * i+2,2 * i+2,i+1,mB v (2 * i) ++ [((v / H ^ (2 * i) % H:Nat):Int),((v / H ^ (2 * i+1) % H:Nat):Int)]))=_
    rw [← e1];rfl
  · show (uN _ _ _ _ _).run=_
    exact d9 (by rw [ay];exact (by simp only [c7,BN,C8,pw,qq,gW,qr,qs,decide_eq_true_eq,decide_eq_false_iff_not,beq_iff_eq,beq_eq_false_iff_ne,bne_iff_ne,bne_eq_false_iff_eq,Bool.not_eq_true',Bool.not_eq_false',List.length_set,ne_eq,ge_iff_le,gt_iff_lt,ld,cy,yH];omega)) rfl
theorem al8{v m:Nat}(h:v < H ^ m)(hm:m≤200000) :fv (mB v m)=some (.r0 (aA v (nl v)) (nl v)):=by
  have hW:v < W ^ ((m+1) / 2):=by
    rw [H2];exact Nat.lt_of_lt_of_le h (Nat.pow_le_pow_right (by decide) (by omega))
  refine bc (ae rfl (ae (a:=((m+1) / 2,(m+1) / 2,aA v ((m+1) / 2))) (cx (fun j=>(j,j,2 * j,aA v j)) ((m+1) / 2) rfl (fun j hj=>?_) ?_) (ae (a:=(aA v (nl v),nl v)) ?_ rfl)))
  · show ax (sB _ _ _ _ _).run _=_
    have e1:aA v (j+1)=aA v j ++ [((v / W ^ j % W:Nat):Int)]:=rfl
    refine ae (a:=(j+1,aA v (j+1))) ?_ (ai rfl)
    unfold sB
    rw [IU h,IU h,Mz,Mz,un,ay,G9 (Nat.le_refl _)]
    have lo:=Nat.mod_lt (v / H ^ (2 * j)) (show H > 0 by decide)
    have hi:=Nat.mod_lt (v / H ^ (2 * j+1)) (show H > 0 by decide)
    have hb:=aiB v j
    have hlt:v / W ^ j % W < W:=Nat.mod_lt _ (by decide)
    by_cases hlast:2 * j+1 < m
    · have w1:IntKind.u64.wrap (((v / H ^ (2 * j+1) % H:Nat):Int) * (4294967296:Int))=((v / H ^ (2 * j+1) % H * H:Nat):Int):=by
        rw [show (4294967296:Int)=((H:Nat):Int) from rfl,AQ,Nat.mod_eq_of_lt (by omega)]
      rw [w1,uz,← hb,Nat.mod_eq_of_lt hlt]
      exact dm (ai (ai (ai (dm (ai (ai (ai (ai (ai (aj (ai rfl)))))))))))
    · have z:v / H ^ (2 * j+1) % H=0:=by
        rw [Nat.div_eq_of_lt (Nat.lt_of_lt_of_le h (Nat.pow_le_pow_right (by decide) (by omega)))];rfl
      rw [z,Nat.zero_mul,Nat.add_zero] at hb
      rw [← hb]
      exact dm (ai (ai (ai (dJ (ai (ai (aj (ai rfl))))))))
  · show ax (sB _ _ _ _ _).run _=_
    exact bR (d9 (by rw [un];exact (by simp only [c7,BN,C8,pw,qq,gW,qr,qs,decide_eq_true_eq,decide_eq_false_iff_not,beq_iff_eq,beq_eq_false_iff_ne,bne_iff_ne,bne_eq_false_iff_eq,Bool.not_eq_true',Bool.not_eq_false',List.length_set,ne_eq,ge_iff_le,gt_iff_lt,ld,cy,yH];omega)) rfl)
  · show (xF _ _).run=_
    unfold xF
    rw [dR ay,IV hW (by omega)]
    exact jN (aj rfl)
end Go.Plb.Seat
namespace Go.Plb.Seat
open Go Go.Plb
set_option linter.unusedSimpArgs false
set_option linter.unusedVariables false
theorem abr{a b n m:Nat}(ha:a < H ^ n)(hb:b < H ^ m) :a * b < H ^ (n+m):=by
  rw [Nat.pow_add]
  rcases Nat.eq_zero_or_pos b with h | h
  · rw [h,Nat.mul_zero];exact Nat.mul_pos (Ej _) (Ej _)
  · exact Nat.mul_lt_mul_of_lt_of_le ha (Nat.le_of_lt hb) (Ej _)
theorem al9{x y c o:Nat}(hx:x < H)(hy:y < H)(hc:c≤x)(ho:o < H) :o+x * y+c < W:=by
  have hp:x * y≤4294967295 * 4294967295:=Nat.mul_le_mul (by have:x < 4294967296:=hx;omega) (by have:y < 4294967296:=hy;omega)
  have h1:x < 4294967296:=hx
  have h2:o < 4294967296:=ho
  show _ < 18446744073709551616
  omega
theorem ama{a b n m:Nat}(ha:a < W ^ n)(hb:b < W ^ m)(hn:n≤10000)(hm:m≤10000) :cX (aA a n) (aA b m)=some (.r0 (aA (a * b) (nl (a * b))) (nl (a * b))):=by
  have ha':a < H ^ (2 * n):=by rw [← H2];exact ha
  have hb':b < H ^ (2 * m):=by rw [← H2];exact hb
  have hab:=abr ha' hb'
  have hab1:a * b < H ^ (2 * n+2 * m+1):=Nat.lt_of_lt_of_le hab (Nat.pow_le_pow_right (by decide) (by omega))
  refine bc (ae (a:=(mB a (2 * n),2 * n,mB b (2 * m),2 * m)) ?_ (ae (a:=(2 * n+2 * m+1,mB 0 (2 * n+2 * m+1))) ?_ (ae (a:=mB (a * b) (2 * n+2 * m+1)) (cx (fun i=>(i,mB (a % H ^ i * b) (2 * n+2 * m+1))) (2 * n) (by simp [Nat.mod_one]) (fun i hi=>?_) ?_) (ae (a:=(aA (a * b) (nl (a * b)),nl (a * b))) ?_ rfl))))
  · unfold FJ
    rw [aE,aE,aiC ha (by omega),aiC hb (by omega)]
    exact bt (aj (bt (aj rfl)))
  · show (z7 _ _).run=_
    unfold z7
    rw [ako]
    exact ai (ai (ai (ai (ai (ai rfl)))))
  · have hO:a % H ^ i * b < H ^ (i+2 * m):=abr (T4 _ _) hb'
    have lx:=Nat.mod_lt (a / H ^ i) (show H > 0 by decide)
    have e2:a % H ^ i * b+b * (a / H ^ i % H) * H ^ i=a % H ^ (i+1) * b:=by rw [My,Nat.add_mul,Nat.mul_comm b,Nat.mul_right_comm]
    have hA:=al5 (O:=a % H ^ i * b) (a:=b) (m:=a / H ^ i % H) (k:=i) hO hb'
    have hL:=al6 (O:=a % H ^ i * b) (a:=b) (m:=a / H ^ i % H) (k:=i) (N:=2 * n+2 * m+1) hO
    rw [e2] at hA
    rw [hA] at hL
    show ax (z8 _ _ _).run _=_
    refine ae (a:=()) (dm rfl) (ae (a:=mB (a % H ^ (i+1) * b) (2 * n+2 * m+1)) (JN (ae rfl (ae (a:=(((a % H ^ (i+1) * b / H ^ (i+2 * m):Nat):Int),mB (a % H ^ (i+1) * b % H ^ (i+2 * m)) (2 * n+2 * m+1))) ?_ ?_))) (ai rfl))
    · have c0:m8 (a % H ^ i * b) b (a / H ^ i % H) i 0 / H ^ (i+0)=0:=by
        have e:m8 (a % H ^ i * b) b (a / H ^ i % H) i 0=a % H ^ i * b % H ^ i:=by unfold m8;rw [Nat.pow_zero,Nat.mod_one,Nat.zero_mul,Nat.zero_mul,Nat.add_zero,Nat.add_zero]
        rw [e,Nat.add_zero,Nat.div_eq_of_lt (T4 _ _)]
      refine cx (fun k=>(((m8 (a % H ^ i * b) b (a / H ^ i % H) i k / H ^ (i+k):Nat):Int),k,PD (a % H ^ i * b) b (a / H ^ i % H) i (2 * n+2 * m+1) k)) (2 * m) (by rw [c0,akp];rfl) (fun k hk=>?_) ?_
      · have hc:=aiA (O:=a % H ^ i * b) (a:=b) (m:=a / H ^ i % H) (k:=i) (i:=k)
        have ly:=Nat.mod_lt (b / H ^ k) (show H > 0 by decide)
        have lO:=Nat.mod_lt (a % H ^ i * b / H ^ (i+k)) (show H > 0 by decide)
        have hl:=al4 (O:=a % H ^ i * b) (a:=b) (m:=a / H ^ i % H) (k:=i) (n:=2 * n+2 * m+1) (i:=k)
        have hat:=anC (O:=a % H ^ i * b) (a:=b) (m:=a / H ^ i % H) (k:=i) (n:=2 * n+2 * m+1) (i:=k) (by omega)
        have hst:=akq (O:=a % H ^ i * b) (a:=b) (m:=a / H ^ i % H) (k:=i) (n:=2 * n+2 * m+1) (i:=k) (by omega)
        have hw:=al9 (x:=a / H ^ i % H) (y:=b / H ^ k % H) (c:=m8 (a % H ^ i * b) b (a / H ^ i % H) i k / H ^ (i+k)) (o:=a % H ^ i * b / H ^ (i+k) % H) lx ly hc lO
        have hS:=T4 (m8 (a % H ^ i * b) b (a / H ^ i % H) i k) (i+k)
        obtain ⟨d1,_⟩:=Xq (t:=a % H ^ i * b / H ^ (i+k) % H+b / H ^ k % H * (a / H ^ i % H)+m8 (a % H ^ i * b) b (a / H ^ i % H) i k / H ^ (i+k)) hS
        rw [← abq] at d1
        rw [Nat.mul_comm (a / H ^ i % H)] at hw
        show (uS _ _ _ _ _ _ _ _ _).run=_
        unfold uS
        rw [hat,Mz,IU ha',IU hb',Mz,Mz,hl,un,un,AQ,Nat.mul_comm (a / H ^ i % H),Nat.mod_eq_of_lt (Nat.lt_of_le_of_lt (Nat.le_trans (Nat.le_add_left _ _) (Nat.le_add_right _ _)) hw:b / H ^ k % H * (a / H ^ i % H) < W),uz,Nat.mod_eq_of_lt (Nat.lt_of_le_of_lt (Nat.le_add_right _ _) hw:a % H ^ i * b / H ^ (i+k) % H+b / H ^ k % H * (a / H ^ i % H) < W),uz,Nat.mod_eq_of_lt hw,aoG,aoH,wc (Nat.lt_of_le_of_lt (Nat.div_le_self _ _) hw)]
        have d1':(a % H ^ i * b / H ^ (i+k) % H+b / H ^ k % H * (a / H ^ i % H)+m8 (a % H ^ i * b) b (a / H ^ i % H) i k / H ^ (i+k)) / 4294967296=m8 (a % H ^ i * b) b (a / H ^ i % H) i (k+1) / H ^ (i+(k+1)):=d1.symm
        have hst':(PD (a % H ^ i * b) b (a / H ^ i % H) i (2 * n+2 * m+1) k).set (i+k) (((a % H ^ i * b / H ^ (i+k) % H+b / H ^ k % H * (a / H ^ i % H)+m8 (a % H ^ i * b) b (a / H ^ i % H) i k / H ^ (i+k)) % 4294967296:Nat):Int)=_:=hst
        rw [d1',hst']
        exact dm (ai (ai (ai (ai (ai (ai (ai (ai (aj (ai (ai (aj (ai rfl)))))))))))))
      · show (uS _ _ _ _ _ _ _ _ _).run=_
        refine d9 (by rw [decide_eq_false_iff_not];omega) ?_
        rw [hL,hA];rfl
    · have hO1:a % H ^ (i+1) * b < H ^ (i+1+2 * m):=abr (T4 _ _) hb'
      have hcar:a % H ^ (i+1) * b / H ^ (i+2 * m) < H:=by
        refine Nat.div_lt_of_lt_mul ?_
        rw [← Nat.pow_succ,show (i+2 * m).succ=i+1+2 * m by omega];exact hO1
      have iz:=ads (u:=a % H ^ (i+1) * b % H ^ (i+2 * m)) (x:=a % H ^ (i+1) * b / H ^ (i+2 * m)) (j:=i+2 * m) (n:=2 * n+2 * m+1) (T4 _ _) hcar (by omega)
      have hv:a % H ^ (i+1) * b % H ^ (i+2 * m)+a % H ^ (i+1) * b / H ^ (i+2 * m) * H ^ (i+2 * m)=a % H ^ (i+1) * b:=by rw [Nat.mul_comm (a % H ^ (i+1) * b / H ^ (i+2 * m))];exact Nat.mod_add_div _ _
      rw [hv] at iz
      show (Aa _ _ _ _ _).run=_
      unfold Aa
      rw [iz,un]
      exact ai (ai (ai rfl))
  · show ax (z8 _ _ _).run _=_
    refine bR (d9 (by rw [decide_eq_false_iff_not];omega) ?_)
    rw [Nat.mod_eq_of_lt ha'];rfl
  · unfold FM
    rw [dR un,al8 hab1 (by omega)]
    exact cZ (Yl un) (aj rfl)
def bl(v:Nat) :Nat:=if v=0 then 0 else v.log2+1
theorem aom(v:Nat) :v < 2 ^ bl v∧∀ j,j < bl v→0 < v / 2 ^ j:=by
  unfold bl
  by_cases h:v=0
  · subst h;exact ⟨by decide,fun j hj=>absurd hj (by simp)⟩
  · rw [if_neg h]
    refine ⟨Nat.lt_log2_self,fun j hj=>?_⟩
    exact Nat.div_pos (Nat.le_trans (Nat.pow_le_pow_right (by decide) (by omega)) (Nat.log2_self_le h)) (lI j)
theorem abt{v n:Nat}(hv:v < W ^ n)(hn:n≤10000) :∃ b:Nat,oD (aA v n)=some (.r0 (b:Int))∧v < 2 ^ b∧b≤64 * nl v:=by
  have hl:=jL hv
  have t8:(Ad (aA v n)).run=some (.inl (aA v (nl v),nl v)):=by
    unfold Ad
    rw [aE,IV hv (by omega)]
    exact bt (aj rfl)
  by_cases h0:v=0
  · refine ⟨0,bc (ae t8 (bR ?_)),by rw [h0];decide,Nat.zero_le _⟩
    rw [h0,iT];exact bH rfl
  · have hp:=Bc h0
    obtain ⟨b1,b2⟩:=aom (v / W ^ (nl v - 1) % W)
    have hlt:v / W ^ (nl v - 1) % W < W:=Nat.mod_lt _ (by decide)
    have hb64:bl (v / W ^ (nl v - 1) % W)≤64:=by
      rcases Nat.lt_or_ge 64 (bl (v / W ^ (nl v - 1) % W)) with q | q
      · exfalso
        have:=b2 64 q
        have e:v / W ^ (nl v - 1) % W / 2 ^ 64=0:=Nat.div_eq_of_lt hlt
        omega
      · exact q
    have hdiv:v / W ^ (nl v - 1) % W=v / W ^ (nl v - 1):=by
      refine Nat.mod_eq_of_lt (Nat.div_lt_of_lt_mul ?_)
      rw [← Nat.pow_succ,show (nl v - 1).succ=nl v by omega];exact dp v
    refine ⟨64 * (nl v - 1)+bl (v / W ^ (nl v - 1) % W),bc (ae t8 (ae (a:=(((64 * (nl v - 1):Nat):Int),((v / W ^ (nl v - 1) % W:Nat):Int))) ?_ (ae (a:=((64 * (nl v - 1)+bl (v / W ^ (nl v - 1) % W):Nat):Int)) (cx (fun j=>(((64 * (nl v - 1)+j:Nat):Int),((v / W ^ (nl v - 1) % W / 2 ^ j:Nat):Int))) (bl (v / W ^ (nl v - 1) % W)) (by simp) (fun j hj=>?_) ?_) rfl))),?_,by omega⟩
    · show (Ae _ _).run=_
      unfold Ae
      have e1:Int.toNat (((nl v:Nat):Int) - 1)=nl v - 1:=by omega
      have e2:(64:Int) * (((nl v:Nat):Int) - 1)=((64 * (nl v - 1):Nat):Int):=by omega
      rw [e1,e2,cR (dp v),xk,ay]
      exact dJ (ai (ai (ai (ai (ai rfl)))))
    · show (sD _ _).run=_
      have hpos:=b2 j hj
      unfold sD
      have e1:((64 * (nl v - 1)+j:Nat):Int)+(1:Int)=((64 * (nl v - 1)+(j+1):Nat):Int):=by omega
      have e2:Int.tdiv ((v / W ^ (nl v - 1) % W / 2 ^ j:Nat):Int) (2:Int)=((v / W ^ (nl v - 1) % W / 2 ^ (j+1):Nat):Int):=by
        show ((v / W ^ (nl v - 1) % W / 2 ^ j / 2:Nat):Int)=_
        rw [Nat.pow_succ,Nat.div_div_eq_div_mul]
      rw [e1,e2,wc (Nat.lt_of_le_of_lt (Nat.div_le_self _ _) hlt)]
      exact dm (ai (aj rfl))
    · show (sD _ _).run=_
      have z:v / W ^ (nl v - 1) % W / 2 ^ bl (v / W ^ (nl v - 1) % W)=0:=Nat.div_eq_of_lt b1
      rw [z]
      exact bj rfl
    · have e:W ^ (nl v - 1)=2 ^ (64 * (nl v - 1)):=by rw [Nat.pow_mul]
      rw [Nat.pow_add,← e]
      rw [hdiv] at b1 ⊢
      have:=(Nat.div_lt_iff_lt_mul (iy (nl v - 1))).1 b1
      rw [Nat.mul_comm];exact this
theorem anD(v i:Nat) :v / W ^ (i / 64) % W / 2 ^ (i % 64) % 2=v / 2 ^ i % 2:=by
  have hr:i % 64 < 64:=Nat.mod_lt _ (by decide)
  have e64:W=2 ^ (i % 64) * (2 * 2 ^ (63 - i % 64)):=by
    rw [← Nat.mul_assoc,← Nat.pow_succ,← Nat.pow_add];show 2 ^ 64=_;congr 1;omega
  rw [Rk i,Nat.mul_comm (2 ^ (i % 64)),← Nat.div_div_eq_div_mul]
  generalize v / W ^ (i / 64)=y
  rw [e64,Nat.mod_mul_right_div_self,Nat.mod_mul_right_mod]
theorem MA{v n i:Nat}(hv:v < W ^ n)(hn:n≤10000)(hi:i≤1000000) :me (aA v n) (i:Int)=some (.r0 (v / 2 ^ i % 2 == 1)):=by
  have hr:i % 64 < 64:=Nat.mod_lt _ (by decide)
  refine bc (ae (a:=(v / 2 ^ i % 2 == 1)) ?_ rfl)
  unfold Il
  rw [aaX,aaY,cy,cR hv,xk,EA _ (by omega),ay]
  by_cases h:i / 64 < n
  · refine dm (aj (ai (dm (aj (ai (ai (ai (aj (ai (aj ?_))))))))))
    have e:Int.tmod ((v / W ^ (i / 64) % W / 2 ^ (i % 64):Nat):Int) (2:Int)=((v / W ^ (i / 64) % W / 2 ^ (i % 64) % 2:Nat):Int):=rfl
    rw [e,anD]
    show some (Sum.inl _)=_
    congr 2
    rw [Bool.eq_iff_iff,beq_iff_eq,beq_iff_eq];omega
  · have z:v / 2 ^ i=0:=ahJ hv (by omega)
    rw [z]
    exact dm (aj (ai (dJ rfl)))
theorem aiD{v n:Nat}(hv:v < W ^ n)(hn:n≤10000)(h0:v ≠ 0) :rK (aA v n)=some (.r0 (tz v)):=by
  have hl:=jL hv
  obtain ⟨b,h1,h2,h3⟩:=abt hv hn
  have ht:=adK h0 h2
  obtain ⟨z1,z2⟩:=EB v h0
  refine bc (ae (a:=(b:Int)) ?_ (ae rfl (bR (cx (fun i=>i) (tz v) rfl (fun j hj=>?_) ?_))))
  · unfold Bu
    rw [aE,h1]
    exact bt (aj rfl)
  · have z:v / 2 ^ j % 2=0:=by
      obtain ⟨d,hd⟩:∃ d,tz v=j+1+d:=⟨tz v - j - 1,by omega⟩
      obtain ⟨c,hc⟩:=Nat.dvd_of_mod_eq_zero z1
      have:v=(2 ^ d * c * 2) * 2 ^ j:=by
        rw [hd,Nat.pow_add,Nat.pow_succ] at hc
        rw [hc];simp only [Nat.mul_assoc,Nat.mul_comm,Nat.mul_left_comm]
      rw [this,Nat.mul_div_cancel _ (lI j),Nat.mul_mod_left]
    show ax (nw _ _ _).run _=_
    refine ae (a:=()) ?_ (ai rfl)
    unfold nw
    rw [aE,MA hv hn (by omega),z]
    exact dm (bt (aj (bj rfl)))
  · show ax (nw _ _ _).run _=_
    refine bR ?_
    unfold nw
    rw [aE,MA hv hn (by omega),z2]
    exact dm (bt (aj (bH rfl)))
theorem anE(v k j:Nat) :v % 2 ^ (k+(j+1)) / 2 ^ k=v % 2 ^ (k+j) / 2 ^ k+v / 2 ^ (k+j) % 2 * 2 ^ j:=by
  rw [← Nat.add_assoc,Nat.pow_succ,Nat.mod_mul,Nat.pow_add,Nat.mul_assoc,Nat.add_mul_div_left _ _ (lI k),Nat.mul_comm (2 ^ j)]
theorem amb{v n k:Nat}(hv:v < W ^ n)(hn:n≤10000)(hk:k≤1000000) :
    ∃ b,oF (aA v n) (k:Int)=some (.r0 (aA (v / 2 ^ k) (nl (v / 2 ^ k))) (nl (v / 2 ^ k)) b):=by
  have hl:=jL hv
  obtain ⟨b,h1,h2,h3⟩:=abt hv hn
  let f:Nat→Bool:=fun j=>Nat.rec (motive:=fun _=>Bool) false (fun j b=>b || (v / 2 ^ j % 2 == 1)) j
  have t20:(Ag (aA v n)).run=some (.inl (false,(b:Int))):=by
    unfold Ag
    rw [aE,h1]
    exact bt (aj rfl)
  have hmin:min k b≤640000:=by omega
  have hm1:∀ j,j < min k b→j < k∧j < b:=fun j hj=>by omega
  have hm2 : ¬ (min k b < k∧min k b < b):=by omega
  have l26:dH (Aj (aA v n) (k:Int) (b:Int)) (false,0)=some (.inl (f (min k b))):=by
    revert hmin hm1 hm2
    generalize min k b=g
    intro hmin hm1 hm2
    refine cx (fun j=>(f j,j)) g rfl (fun j hj=>?_) ?_
    · obtain ⟨q1,q2⟩:=hm1 j hj
      show ax (rI _ _ _).run _=_
      refine ae (a:=true) ?_ (ae (a:=f (j+1)) ?_ (ai rfl))
      · unfold rI
        refine dm ?_
        show some (Sum.inl (decide _))=_
        rw [decide_eq_true (by omega)]
      · show (Ai _ _ _ _).run=_
        unfold Ai
        rw [aE,MA hv hn (by omega)]
        have hf:f (j+1)=(f j || (v / 2 ^ j % 2 == 1)):=rfl
        rw [hf]
        refine bH ?_
        cases f j
        · exact bj (bt (aj rfl))
        · exact bH rfl
    · show ax (rI _ _ _).run _=_
      refine ae (a:=false) ?_ (bR (bj rfl))
      unfold rI
      by_cases q:g < k
      · refine dm ?_
        show some (Sum.inl (decide _))=_
        rw [decide_eq_false (by omega)]
      · exact dJ rfl
  refine ⟨f (min k b),bc (ae t20 (ae rfl (ae l26 ?_)))⟩
  by_cases hkb:b≤k
  · have z:v / 2 ^ k=0:=Nat.div_eq_of_lt (Nat.lt_of_lt_of_le h2 (Nat.pow_le_pow_right (by decide) hkb))
    rw [z,iT]
    refine bR ?_
    unfold Ak
    exact dm rfl
  · have e0:v % 2 ^ (k+0) / 2 ^ k=0:=Nat.div_eq_of_lt (Nat.mod_lt _ (lI _))
    have eb:v % 2 ^ (k+(b - k)) / 2 ^ k=v / 2 ^ k:=by rw [show k+(b - k)=b by omega,Nat.mod_eq_of_lt h2]
    refine ae (a:=aA 0 n) ?_ (ae (a:=aA (v / 2 ^ k) n) (cx (fun j=>(((k+j:Nat):Int),aA (v % 2 ^ (k+j) / 2 ^ k) n)) (b - k) (by rw [e0];rfl) (fun j hj=>?_) ?_) (ae (a:=(aA (v / 2 ^ k) (nl (v / 2 ^ k)),nl (v / 2 ^ k))) ?_ rfl))
    · unfold Ak
      rw [ay,Mq]
      exact dJ (ai (ai (ai (ai rfl))))
    · show ax (uV _ _ _ _ _).run _=_
      refine ae (a:=aA (v % 2 ^ (k+(j+1)) / 2 ^ k) n) ?_ (cZ (by rw [c7];omega) rfl)
      unfold uV
      have hbs:=anE v k j
      have es:((k+j:Nat):Int) - (k:Int)=(j:Int):=by omega
      rw [aE,MA hv hn (by omega),es,aaX,aaY,cy]
      simp only [qB,pH]
      refine rW (by rw [decide_eq_true_eq];omega) (bt (aj ?_))
      have hr:j % 64 < 64:=Nat.mod_lt _ (by decide)
      have hjn:j / 64 < n:=by omega
      by_cases hbit:v / 2 ^ (k+j) % 2=1
      · rw [hbit,Nat.one_mul] at hbs
        have hU:v % 2 ^ (k+j) / 2 ^ k < 2 ^ j:=by
          refine Nat.div_lt_of_lt_mul ?_
          rw [← Nat.pow_add];exact Nat.mod_lt _ (lI _)
        have hUW:v % 2 ^ (k+j) / 2 ^ k < W ^ n:=by
          refine Nat.lt_of_lt_of_le hU ?_
          rw [show W ^ n=2 ^ (64 * n) by rw [Nat.pow_mul]]
          exact Nat.pow_le_pow_right (by decide) (by omega)
        rw [hbs]
        revert hU hUW
        generalize v % 2 ^ (k+j) / 2 ^ k=U
        intro hU hUW
        have hd:U / W ^ (j / 64) < 2 ^ (j % 64):=by
          refine Nat.div_lt_of_lt_mul ?_
          rw [Nat.mul_comm,← Rk];exact hU
        have hp:2 ^ (j % 64) < W:=Uw hr
        have hp2:2 ^ (j % 64)+2 ^ (j % 64)≤W:=by
          have:2 ^ (j % 64+1)≤2 ^ 64:=Nat.pow_le_pow_right (by decide) hr
          rw [Nat.pow_succ] at this
          have w:W=2 ^ 64:=by decide
          omega
        have hx:U / W ^ (j / 64) % W+2 ^ (j % 64) < W:=by
          have:=Nat.mod_le (U / W ^ (j / 64)) W
          omega
        have iz:=ahI (n:=n) hx hjn
        rw [← Rk] at iz
        have e2:IntKind.u64.wrap ((1:Int) * 2 ^ (min (Int.toNat (((j % 64:Nat)):Int)) IntKind.u64.bits))=((2 ^ (j % 64):Nat):Int):=by
          rw [show (1:Int)=((1:Nat):Int) from rfl,Yj _ (by omega),Nat.one_mul,Nat.mod_eq_of_lt hp]
        rw [hbit,e2,cR hUW,xk,uz,Nat.mod_eq_of_lt hx,iz,ay,ay]
        exact bH (ai (aj (ai (ai (aj (ai (ai (ai (ai (aj (ai (ai (ai rfl)))))))))))))
      · have z:v / 2 ^ (k+j) % 2=0:=by omega
        rw [z,Nat.zero_mul,Nat.add_zero] at hbs
        rw [z,hbs]
        exact bj rfl
    · show ax (uV _ _ _ _ _).run _=_
      refine bR (d9 (by rw [decide_eq_false_iff_not];omega) ?_)
      rw [eb];rfl
    · have hq:v / 2 ^ k < W ^ n:=Nat.lt_of_le_of_lt (Nat.div_le_self _ _) hv
      unfold FQ
      rw [ay,dR ay,IV hq (by omega)]
      exact jN (aj rfl)
end Go.Plb.Seat
namespace Go.Plb.Seat
open Go Go.Plb
set_option linter.unusedSimpArgs false
set_option linter.unusedVariables false
theorem QI(s:Bool){v n:Nat}(hv:v < W ^ n)(hn:n≤10000)(hl:nl v≤4096){e:Int}(he : -1000000≤e∧e≤1000000) :
    aJ s (aA v n) e=some (.r0 (nS (sg s v)) (aA (nM (sg s v)) (nl (nM (sg s v)))) (nl (nM (sg s v))) (nE (sg s v) e)):=by
  have t5:(Am (aA v n)).run=some (.inl (aA v (nl v),nl v,false)):=by
    unfold Am
    rw [aE,IV hv (by omega)]
    exact bt (aj rfl)
  by_cases h0:v=0
  · have z:sg s v=0:=xo.2 h0
    rw [z,iU,Yk,oo,iT]
    refine bc (ae t5 (bR ?_))
    rw [h0,iT]
    exact bH rfl
  · have z:sg s v ≠ 0:=fun q=>h0 (xo.1 q)
    have hp:=Bc h0
    have ht:=ahK (v:=v)
    obtain ⟨b,h1⟩:=amb (k:=tz v) (dp v) (by omega) (by omega)
    have eM:nM (sg s v)=v / 2 ^ tz v:=by unfold nM;rw [JP]
    have eE:nE (sg s v) e=e+((tz v:Nat):Int):=by rw [jP z,JP]
    rw [aoA h0,eM,eE]
    refine bc (ae t5 (ae (a:=tz v) ?_ (ae (a:=(aA (v / 2 ^ tz v) (nl (v / 2 ^ tz v)),nl (v / 2 ^ tz v))) ?_ ?_)))
    · show (An _ _).run=_
      unfold An
      rw [dR ay,aiD (dp v) (by omega) h0]
      exact dJ (jN (aj rfl))
    · show (Ao _ _ _).run=_
      unfold Ao
      rw [dR ay,h1]
      exact jN (aj rfl)
    · exact cZ (by rw [c7];omega) rfl
theorem ael{v n:Nat}(hv:v < W ^ n)(hn:n≤1000000)(hl:nl v≤4096){e:Int}(he : -262144≤e∧e≤262144) :dr (aA v n) e=some (.r0 true):=by
  refine bc (ae (a:=true) ?_ rfl)
  unfold Im
  rw [aE,al7 hv hn hl]
  refine bt (aj (bH (dm ?_)))
  show some (Sum.inl (decide (e≤262144)))=_
  rw [decide_eq_true he.2]
theorem abu{z e:Int}{s:Bool}(hs:z ≠ 0→s=nS z)(h:Sm z e) :aJ s (aA (nM z) (nl (nM z))) (nE z e)=some (.r0 (nS z) (aA (nM z) (nl (nM z))) (nl (nM z)) (nE z e)):=by
  have hm:=h.m
  have hb:=h.b
  have h1:=QI s (dp (nM z)) (by omega) (by omega) (e:=nE z e) (by omega)
  obtain ⟨a,b,c⟩:=Rn (e:=e) hs
  rw [a,b,c] at h1
  exact h1
theorem agC{z e:Int}(h:Sm z e) :dr (aA (nM z) (nl (nM z))) (nE z e)=some (.r0 true):=by
  have hm:=h.m
  have hb:=h.b
  exact ael (dp (nM z)) (by omega) (by omega) (by omega)
theorem abv(s:Bool){v n:Nat}(hv:v < W ^ n)(hn:n≤10000)(hl:nl v≤1000){e:Int}(he : -150000≤e∧e≤150000) :
    bi s (aA v n) e=some (.r0 0 (nS (sg s v)) (aA (nM (sg s v)) (nl (nM (sg s v)))) (nl (nM (sg s v))) (nE (sg s v) e)):=by
  have h1:=QI s hv hn (by omega) (e:=e) (by omega)
  have ht:=ahK (v:=v)
  have hE' : -262144≤nE (sg s v) e∧nE (sg s v) e≤262144:=by
    unfold nE;rw [JP];split <;> omega
  have hM:nl (nM (sg s v))≤nl v:=by have:=zO (aoB (z:=sg s v));rwa [JP] at this
  refine bc (ae (a:=(nS (sg s v),aA (nM (sg s v)) (nl (nM (sg s v))),nl (nM (sg s v)),nE (sg s v) e,false)) ?_ (ae (a:=false) ?_ rfl))
  · unfold F1
    rw [aE,h1]
    exact bt (aj rfl)
  · show (Ap _ _ _).run=_
    unfold Ap
    rw [dR ay,ael (dp _) (by omega) (by omega) hE']
    exact jN (aj rfl)
theorem apj{x y e f:Int} :nS (x * y)=nS (sg (nS x != nS y) (nM x * nM y))∧nM (x * y)=nM (sg (nS x != nS y) (nM x * nM y))∧nE (x * y) (e+f)=nE (sg (nS x != nS y) (nM x * nM y)) (nE x e+nE y f):=by
  have hz:x * y=sg (nS x != nS y) (nM x * nM y) * ((2 ^ (tz x.natAbs+tz y.natAbs):Nat):Int):=by
    have a:=Rm x
    have b:=Rm y
    rw [← adM,Nat.pow_add,Int.natCast_mul]
    conv=>lhs;rw [← a,← b]
    simp only [Int.mul_assoc,Int.mul_comm,Int.mul_left_comm]
  obtain ⟨a,b,c⟩:=GD hz (e+f)
  refine ⟨a,b,?_⟩
  rw [c]
  by_cases p:x=0
  · subst p;rw [oo,Nat.zero_mul]
    have:sg (nS 0 != nS y) 0=0:=xo.2 rfl
    rw [this,iU,iU]
  · by_cases q:y=0
    · subst q;rw [oo,Nat.mul_zero]
      have:sg (nS x != nS 0) 0=0:=xo.2 rfl
      rw [this,iU,iU]
    · rw [jP p,jP q];congr 1;omega
theorem apQ{x y e f:Int}(hx:Sm x e)(hy:Sm y f) :
    iL (nS x) (aA (nM x) (nl (nM x))) (nE x e) (nS y) (aA (nM y) (nl (nM y))) (nE y f)=some (.r0 0 (nS (x * y)) (aA (nM (x * y)) (nl (nM (x * y)))) (nl (nM (x * y))) (nE (x * y) (e+f))):=by
  have x1:=abu (s:=nS x) (fun _=>rfl) hx
  have y1:=abu (s:=nS y) (fun _=>rfl) hy
  have xm:=hx.m
  have ym:=hy.m
  have xb:=hx.b
  have yb:=hy.b
  have hm:=ajA (a:=nM x) (b:=nM y)
  have h1:=abv (nS x != nS y) (v:=nM x * nM y) (dp _) (by omega) (by omega) (e:=nE x e+nE y f) (by omega)
  obtain ⟨a,b,c⟩:=apj (x:=x) (y:=y) (e:=e) (f:=f)
  rw [a,b,c]
  refine bc (ae (a:=(false,false)) ?_ (ae (a:=(nS x,aA (nM x) (nl (nM x)),nl (nM x),nE x e,nS y,aA (nM y) (nl (nM y)),nl (nM y),nE y f)) ?_ (ae (a:=(0,nS (sg (nS x != nS y) (nM x * nM y)),aA (nM (sg (nS x != nS y) (nM x * nM y))) (nl (nM (sg (nS x != nS y) (nM x * nM y)))),nl (nM (sg (nS x != nS y) (nM x * nM y))),nE (sg (nS x != nS y) (nM x * nM y)) (nE x e+nE y f))) ?_ rfl)))
  · unfold Ir
    rw [aE,aE,agC hx,agC hy]
    exact bt (aj (bj (bt (aj rfl))))
  · show (Cz _ _ _ _ _ _ _).run=_
    unfold Cz
    rw [aE,aE,x1,y1]
    exact bj (bt (aj (bt (aj rfl))))
  · show (CA _ _ _ _ _ _ _ _).run=_
    unfold CA
    have h1':bi (!(nS x == nS y)) (aA (nM x * nM y) (nl (nM x * nM y))) (nE x e+nE y f)=_:=h1
    rw [dR ay,dR ay,ama (dp (nM x)) (dp (nM y)) (by omega) (by omega)]
    simp only [tK,fQ,fR]
    rw [dR ay,h1']
    exact jN (jN (aj (cZ (by rw [c7];omega) (jN (aj rfl)))))
theorem aon{x e k:Int}(hx:Sm x e)(hk : -30000≤k∧k≤30000) :
    eL (nS x) (aA (nM x) (nl (nM x))) (nE x e) k=some (.r0 0 (nS x) (aA (nM x) (nl (nM x))) (nl (nM x)) (nE x (e+k))):=by
  have x1:=abu (s:=nS x) (fun _=>rfl) hx
  have xm:=hx.m
  have xb:=hx.b
  have t5:(xR (aA (nM x) (nl (nM x))) (nE x e)).run=some (.inl (false,false)):=by
    unfold xR
    rw [aE,agC hx]
    exact bt (aj rfl)
  have t6:(xS (nS x) (aA (nM x) (nl (nM x))) (nE x e) false).run=some (.inl (nS x,aA (nM x) (nl (nM x)),nl (nM x),nE x e)):=by
    unfold xS
    rw [aE,x1]
    exact bj (bt (aj rfl))
  refine bc (ae t5 (ae t6 ?_))
  by_cases h0:x=0
  · have e1:nE x e=nE x (e+k):=by rw [h0,iU,iU]
    have l0:nl (nM x)=0:=by rw [h0,oo,iT]
    refine bR ?_
    refine rW (by rw [l0];rfl) ?_
    rw [e1];rfl
  · have hl:nl (nM x) ≠ 0:=fun q=>Rl h0 (o5.1 q)
    have ek:na (-1048576) (v9 1048576 k)=k:=by rw [agB (by omega),Ym (by omega)]
    have h1:=abv (nS x) (v:=nM x) (dp _) (by omega) (by omega) (e:=nE x e+k) (by omega)
    obtain ⟨a,b,c⟩:=Rn (z:=x) (e:=e) (s:=nS x) (fun _=>rfl)
    have c':nE (sg (nS x) (nM x)) (nE x e+k)=nE x (e+k):=by
      have q:sg (nS x) (nM x) ≠ 0:=fun w=>Rl h0 (xo.1 w)
      rw [jP q,jP h0] at c
      rw [jP q,jP h0,jP h0];omega
    rw [a,b,c'] at h1
    refine ae (a:=(0,nS x,aA (nM x) (nl (nM x)),nl (nM x),nE x (e+k))) ?_ rfl
    show (xT _ _ _ _ _).run=_
    unfold xT
    rw [dR ay,ek,h1]
    exact dJ (cZ (by rw [c7];omega) (jN (aj rfl)))
theorem anF{m:Nat}(h:m < W) :([(m:Int)]:List Int)=aA m 1:=by
  show [(m:Int)] = [] ++ [lm m 0]
  unfold lm;rw [Nat.pow_zero,Nat.div_one,Nat.mod_eq_of_lt h];rfl
theorem Xr{n:Nat}(h:n < 9223372036854775808) :
    ca (n:Int)=some (.r0 (nS (n:Int)) (aA (nM (n:Int)) (nl (nM (n:Int)))) (nl (nM (n:Int))) (nE (n:Int) 0)):=by
  have hW:n < W:=Nat.lt_trans h (by decide)
  have hn:nl n≤1:=jL (by rw [Nat.pow_one];exact hW)
  have h1:=QI false (v:=n) (n:=1) (by rw [Nat.pow_one];exact hW) (by omega) (by omega) (e:=0) (by omega)
  have e:sg false n=(n:Int):=rfl
  rw [e] at h1
  refine bc (ae (a:=((n:Int),false)) ?_ (ae (a:=(nS (n:Int),aA (nM (n:Int)) (nl (nM (n:Int))),nl (nM (n:Int)),nE (n:Int) 0)) ?_ rfl))
  · unfold Eb
    rw [wc hW]
    exact d9 (by rw [decide_eq_false_iff_not];omega) rfl
  · show (yo _ _).run=_
    unfold yo
    have d:decide ((n:Int) < 0)=false:=by rw [decide_eq_false_iff_not];omega
    rw [anF hW,dR ay,d,h1]
    exact jN (aj rfl)
theorem aks{x y e f:Int}(hx:Sm x e)(hy:Sm y f) :
    bz (nS x) (aA (nM x) (nl (nM x))) (nE x e) (nS y) (aA (nM y) (nl (nM y))) (nE y f)=some (.r0 (nS (x * y)) (aA (nM (x * y)) (nl (nM (x * y)))) (nl (nM (x * y))) (nE (x * y) (e+f))):=by
  refine bc (ae (a:=(false,nS (x * y),aA (nM (x * y)) (nl (nM (x * y))),nl (nM (x * y)),nE (x * y) (e+f))) ?_ rfl)
  unfold Ec
  rw [aE,aE,apQ hx hy]
  exact bt (bt (aj rfl))
theorem aem{v n:Nat}(hn:n≤1000000) :lT (aA v n) (aA v n)=some (.r0 true):=by
  refine bc (ae (a:=()) (d9 (by simp) rfl) (ae (a:=()) (cx (fun i=>i) n rfl (fun j hj=>?_) ?_) rfl))
  · show (AJ _ _ _).run=_
    unfold AJ
    rw [ay]
    exact dm (ai (ai (ai (ai (d9 (by simp) (ai rfl))))))
  · exact d9 (by rw [ay];exact (by simp only [c7,BN,C8,pw,qq,gW,qr,qs,decide_eq_true_eq,decide_eq_false_iff_not,beq_iff_eq,beq_eq_false_iff_ne,bne_iff_ne,bne_eq_false_iff_eq,Bool.not_eq_true',Bool.not_eq_false',List.length_set,ne_eq,ge_iff_le,gt_iff_lt,ld,cy,yH];omega)) rfl
theorem Vc(s:Bool){v n:Nat}(e:Int)(hn:n≤1000000) :ku s (aA v n) e s (aA v n) e=some (.r0 true):=by
  refine bc (ae (a:=true) ?_ rfl)
  unfold Gi
  rw [aE,aem hn]
  refine rW (by cases s <;> rfl) (bt (bt (aj (bH ?_))))
  show some (Sum.inl (e == e))=_
  rw [beq_self_eq_true]
end Go.Plb.Seat
namespace Go.Plb.Seat
open Go Go.Plb
set_option linter.unusedSimpArgs false
set_option linter.unusedVariables false
theorem wW{l:List Nat}(hw:Wd l)(hf:Fn l)(hn:l.length≤1000000) :
    ap l=some (.r0 l.length (nk (gz l) l.length) (nm (gz l) l.length) (nn (gz l) (-1074) l.length)):=by
  have hn':∀ n,l.length=n→n≤1000000:=fun n h=>by omega
  generalize hL:l.length=n at *
  have hn:=hn' n rfl
  refine bc (ae (a:=(uA (fun i=>nS (gz l i)) false 0 n,uA (fun i=>Zi (gz l i)) [] 0 n,uA (fun i=>nE (gz l i) (-1074)) 0 0 n)) ?_ (ae (a:=(nk (gz l) n,nm (gz l) n,nn (gz l) (-1074) n)) (cx (fun j=>(j,uA (fun i=>nS (gz l i)) false j n,uA (fun i=>Zi (gz l i)) [] j n,uA (fun i=>nE (gz l i) (-1074)) 0 j n)) n rfl (fun j hj=>?_) ?_) (by rw [← hL];rfl)))
  · unfold F6
    rw [hL,← CV,← CV,← CV]
    exact ai (ai (ai (ai rfl)))
  · show ax (sS _ _ _ _ _).run _=_
    refine ae (a:=(uA (fun i=>nS (gz l i)) false (j+1) n,uA (fun i=>Zi (gz l i)) [] (j+1) n,uA (fun i=>nE (gz l i) (-1074)) 0 (j+1) n)) ?_ (ai rfl)
    obtain ⟨N,h1,h2,h3⟩:=anB (hw j) (hf j (by omega))
    unfold sS
    rw [h1,GE,GE,GE,hL]
    simp only [Du,Co,xA,xB,xC,Cp]
    rw [List.drop_zero,G9 h2]
    refine dm (ai (ai (aj (ai (ai (ai (cZ (decide_eq_true (by rw [ay];omega)) (ai ?_))))))))
    rw [← CW hj,← CW hj,← CW hj];rfl
  · show ax (sS _ _ _ _ _).run _=_
    refine bR (d9 (by rw [hL];exact (by simp only [c7,BN,C8,pw,qq,gW,qr,qs,decide_eq_true_eq,decide_eq_false_iff_not,beq_iff_eq,beq_eq_false_iff_ne,bne_iff_ne,bne_eq_false_iff_eq,Bool.not_eq_true',Bool.not_eq_false',List.length_set,ne_eq,ge_iff_le,gt_iff_lt,ld,cy,yH];omega)) ?_)
    rw [GF,GF,GF];rfl
theorem MB{g:Nat→Int}{e:Int}{n from' far many:Nat}(h:∀ i,i < many→from'+i * far < n)(hn:n≤1000000)(hm:many≤1000000)(hfar:far≤1000)(hfr:from'≤1000000) :
    ab n (nk g n) (nm g n) (nn g e n) (from':Int) (far:Int) (many:Int)=some (.r0 many (nk (fun i=>g (from'+i * far)) many) (nm (fun i=>g (from'+i * far)) many) (nn (fun i=>g (from'+i * far)) e many)):=by
  refine bc (ae (a:=(many,many,uA (fun i=>nS (g (from'+i * far))) false 0 many,uA (fun i=>Zi (g (from'+i * far))) [] 0 many,uA (fun i=>nE (g (from'+i * far)) e) 0 0 many)) ?_ (ae (a:=(nk (fun i=>g (from'+i * far)) many,nm (fun i=>g (from'+i * far)) many,nn (fun i=>g (from'+i * far)) e many)) (cx (fun j=>(j,uA (fun i=>nS (g (from'+i * far))) false j many,uA (fun i=>Zi (g (from'+i * far))) [] j many,uA (fun i=>nE (g (from'+i * far)) e) 0 j many)) many rfl (fun j hj=>?_) ?_) rfl))
  · unfold IE
    rw [cy,← CV,← CV,← CV]
    exact ai (ai (ai (ai rfl)))
  · have hi:=h j hj
    have e1:((j:Nat):Int) * (far:Int)=((j * far:Nat):Int):=by rw [Int.natCast_mul]
    have e2:(from':Int)+((j * far:Nat):Int)=((from'+j * far:Nat):Int):=by rw [Int.natCast_add]
    show (yd _ _ _ _ _ _ _ _ _ _ _ _).run=_
    unfold yd
    rw [e1,e2,cy,GG,GH,GI,GE,GE,GE,Ro hi,Rp hi,Rq hi,List.drop_zero,List.take_length]
    refine dm (ai (ai (ai (ai (ai (ai (ai (ai (ai (cZ (by rw [decide_eq_true_eq];omega) (ai (ai ?_))))))))))))
    rw [← CW hj,← CW hj,← CW hj];rfl
  · show (yd _ _ _ _ _ _ _ _ _ _ _ _).run=_
    refine dJ ?_
    rw [GF,GF,GF];rfl
theorem abw{g h:Nat→Int}{e f:Int}{n k:Nat}(hg:∀ i,i < n→Sm (g i) e)(hh:∀ i,i < n→Sm (h i) f)(hk:∀ i,i < n→nl (g i * h i).natAbs≤k)(hk2:k≤200)(hn:n≤1000000)(he : -30000≤e+f∧e+f≤30000) :
    ∃ N,cq n (nk g n) (nm g n) (nn g e n) n (nk h n) (nm h n) (nn h f n)=some (.r0 0 (nS (ki (fun i=>g i * h i) n)) (aA (nM (ki (fun i=>g i * h i) n)) N) 0 (nl (nM (ki (fun i=>g i * h i) n))) (nE (ki (fun i=>g i * h i) n) (e+f)))∧nl (nM (ki (fun i=>g i * h i) n))≤N∧N≤4096:=by
  have hS:∀ j,j≤n→Sm (ki (fun i=>g i * h i) j) (e+f):=fun j hj=>yG (Ms (fun i hi=>hk i (by omega)) (by omega)) (by omega) he
  have hp:∀ j,j < n→Sm (g j * h j) (e+f):=fun j hj=>yG (hk j hj) (by omega) he
  have loop:∃ y,dH (CG n (nk g n) (nm g n) (nn g e n) n (nk h n) (nm h n) (nn h f n)) (0,0,false,([]:List Int),0,0,(0:Int))=some y ∧
      ∃ N,y=.inl (0,nS (ki (fun i=>g i * h i) n),aA (nM (ki (fun i=>g i * h i) n)) N,0,nl (nM (ki (fun i=>g i * h i) n)),nE (ki (fun i=>g i * h i) n) (e+f))∧nl (nM (ki (fun i=>g i * h i) n))≤N∧N≤4096:=by
    refine ajD (fun j s=>∃ N,s=(0,j,nS (ki (fun i=>g i * h i) j),aA (nM (ki (fun i=>g i * h i) j)) N,0,nl (nM (ki (fun i=>g i * h i) j)),nE (ki (fun i=>g i * h i) j) (e+f))∧nl (nM (ki (fun i=>g i * h i) j))≤N∧N≤4096) n ?_ (fun j s hj hs=>?_) (fun s hs=>?_)
    · refine ⟨0,?_,?_,by omega⟩
      · show _=(0,0,nS 0,aA (nM 0) 0,0,nl (nM 0),nE 0 (e+f))
        rw [oo,iT,iU];rfl
      · show nl (nM 0)≤0
        rw [oo,iT];exact Nat.le_refl _
    · obtain ⟨N,rfl,hN1,hN2⟩:=hs
      obtain ⟨M,m1,m2,m3⟩:=Mw (hg j hj) (hh j hj)
      obtain ⟨A,a1,a2,a3⟩:=alX (hS j (by omega)) (hp j hj)
      refine ⟨_,?_,A,rfl,a2,a3⟩
      show ax (CF _ _ _ _ _ _ _ _ _ _ _ _ _ _ _).run _=_
      refine ae (a:=(0,nS (ki (fun i=>g i * h i) j+g j * h j),aA (nM (ki (fun i=>g i * h i) j+g j * h j)) A,0,nl (nM (ki (fun i=>g i * h i) j+g j * h j)),nE (ki (fun i=>g i * h i) j+g j * h j) (e+f))) ?_ (ai rfl)
      unfold CF
      have m1':an (nS (g j)) (Zi (g j)) (nE (g j) e) (nS (h j)) (Zi (h j)) (nE (h j) f)=_:=m1
      rw [GG,GH,GI,GG,GH,GI,Ro hj,Rp hj,Rq hj,Ro hj,Rp hj,Rq hj,aE,aE,m1']
      simp only [qa,l9,cF,ct,cu,cv,cG]
      rw [bO hN1,bO m2,a1]
      exact dm (ai (ai (ai (ai (ai (ai (ai (ai (bt (bt (aj (bj (cZ (bf hN1) (cZ (bf m2) (aj (bj rfl))))))))))))))))
    · obtain ⟨N,rfl,hN1,hN2⟩:=hs
      exact ⟨_,bR (dJ rfl),N,rfl,hN1,hN2⟩
  obtain ⟨y,l1,N,rfl,l2,l3⟩:=loop
  exact ⟨N,bc (ae (a:=false) rfl (ae (a:=false) (d9 (by simp) rfl) (ae l1 (bj rfl)))),l2,l3⟩
theorem IW{g:Nat→Int}{e:Int}{n k:Nat}(hg:∀ i,i < n→nl (g i).natAbs≤k)(hk2:k≤100)(hn:n≤1000000)(he : -10000≤e∧e≤10000) :
    ∃ N,bu n (nk g n) (nm g n) (nn g e n)=some (.r0 0 (nS (ki (fun i=>g i * g i) n)) (aA (nM (ki (fun i=>g i * g i) n)) N) 0 (nl (nM (ki (fun i=>g i * g i) n))) (nE (ki (fun i=>g i * g i) n) (e+e)))∧nl (nM (ki (fun i=>g i * g i) n))≤N∧N≤4096:=by
  obtain ⟨N,h1,h2,h3⟩:=abw (g:=g) (h:=g) (e:=e) (f:=e) (n:=n) (k:=k+k) (fun i hi=>yG (hg i hi) (by omega) (by omega)) (fun i hi=>yG (hg i hi) (by omega) (by omega)) (fun i hi=>tp (hg i hi) (hg i hi)) (by omega) hn (by omega)
  refine ⟨N,bc (ae (a:=(0,nS (ki (fun i=>g i * g i) n),aA (nM (ki (fun i=>g i * g i) n)) N,0,nl (nM (ki (fun i=>g i * g i) n)),nE (ki (fun i=>g i * g i) n) (e+e))) ?_ rfl),h2,h3⟩
  unfold By
  rw [gX,gY,gZ,h1]
  exact se (se (aj rfl))
end Go.Plb.Seat
namespace Go.Plb.Seat
open Go Go.Plb
set_option linter.unusedSimpArgs false
set_option linter.unusedVariables false
def T5(r c:Int)(n:Nat) :Bool:=decide (0≤r∧r≤512∧0≤c∧c≤512∧(n:Int)=r * c)
theorem agD{r c:Int}{n:Nat} :T5 r c n=true↔0≤r∧r≤512∧0≤c∧c≤512∧(n:Int)=r * c:=decide_eq_true_iff
theorem akt{r c:Int}(h1:0≤r)(h2:r≤512)(h3:0≤c)(h4:c≤512) :0≤r * c∧r * c≤262144:=by
  refine ⟨Int.mul_nonneg h1 h3,?_⟩
  have:r * c≤512 * 512:=Int.mul_le_mul h2 h4 h3 (by decide)
  omega
theorem alf{r c:Int}{n:Nat}(h:T5 r c n=true) :∃ p q:Nat,r=(p:Int)∧c=(q:Int)∧p≤512∧q≤512∧n=p * q∧n≤262144:=by
  obtain ⟨h1,h2,h3,h4,h5⟩:=agD.1 h
  have hb:=akt h1 h2 h3 h4
  refine ⟨r.toNat,c.toNat,by omega,by omega,by omega,by omega,?_,by omega⟩
  have e1:r=((r.toNat:Nat):Int):=by omega
  have e2:c=((c.toNat:Nat):Int):=by omega
  rw [e1,e2,← Int.natCast_mul] at h5
  have:=Int.ofNat_inj.1 h5
  simpa using this
theorem uo(r c:Int)(l:List Nat) :c8 r c l=some (.r0 (!(T5 r c l.length))):=by
  refine bc (ae (a:=!(T5 r c l.length)) ?_ rfl)
  unfold F4
  by_cases h1:r < 0
  · have:T5 r c l.length=false:=by unfold T5;rw [decide_eq_false_iff_not];omega
    rw [this];exact rW (decide_eq_true h1) rfl
  by_cases h2:r > 512
  · have:T5 r c l.length=false:=by unfold T5;rw [decide_eq_false_iff_not];omega
    rw [this];exact d9 (decide_eq_false h1) (rW (decide_eq_true h2) rfl)
  by_cases h3:c < 0
  · have:T5 r c l.length=false:=by unfold T5;rw [decide_eq_false_iff_not];omega
    rw [this];exact d9 (decide_eq_false h1) (d9 (decide_eq_false h2) (rW (decide_eq_true h3) rfl))
  by_cases h4:c > 512
  · have:T5 r c l.length=false:=by unfold T5;rw [decide_eq_false_iff_not];omega
    rw [this];exact d9 (decide_eq_false h1) (d9 (decide_eq_false h2) (d9 (decide_eq_false h3) (rW (decide_eq_true h4) rfl)))
  have hb:=akt (by omega:0≤r) (by omega:r≤512) (by omega:0≤c) (by omega:c≤512)
  refine d9 (decide_eq_false h1) (d9 (decide_eq_false h2) (d9 (decide_eq_false h3) (d9 (decide_eq_false h4) (cZ (by rw [c7];omega) ?_))))
  show some (Sum.inl (((l.length:Nat):Int) != r * c))=_
  congr 2
  unfold T5
  by_cases h5:((l.length:Nat):Int)=r * c
  · rw [decide_eq_true ⟨by omega,by omega,by omega,by omega,h5⟩,h5];simp
  · rw [decide_eq_false (by omega),bne_iff_ne.2 h5];rfl
theorem abx(r c:Int)(l:List Nat) :wU r c l=some (.r0 (T5 r c l.length)):=by
  refine bc (ae (a:=T5 r c l.length) ?_ rfl)
  unfold IQ
  by_cases h1:r ≥ 0
  · by_cases h2:r≤512
    · by_cases h3:c ≥ 0
      · by_cases h4:c≤512
        · have hb:=akt h1 h2 h3 h4
          refine rW (decide_eq_true h1) (rW (decide_eq_true h2) (rW (decide_eq_true h3) (rW (decide_eq_true h4) (cZ (by rw [c7];omega) ?_))))
          show some (Sum.inl (((l.length:Nat):Int) == r * c))=_
          congr 2
          unfold T5
          by_cases h5:((l.length:Nat):Int)=r * c
          · rw [decide_eq_true ⟨by omega,by omega,by omega,by omega,h5⟩,beq_iff_eq.2 h5]
          · rw [decide_eq_false (by omega),beq_eq_false_iff_ne.2 h5]
        · have:T5 r c l.length=false:=by unfold T5;rw [decide_eq_false_iff_not];omega
          rw [this];exact rW (decide_eq_true h1) (rW (decide_eq_true h2) (rW (decide_eq_true h3) (d9 (decide_eq_false h4) rfl)))
      · have:T5 r c l.length=false:=by unfold T5;rw [decide_eq_false_iff_not];omega
        rw [this];exact rW (decide_eq_true h1) (rW (decide_eq_true h2) (d9 (decide_eq_false h3) rfl))
    · have:T5 r c l.length=false:=by unfold T5;rw [decide_eq_false_iff_not];omega
      rw [this];exact rW (decide_eq_true h1) (d9 (decide_eq_false h2) rfl)
  · have:T5 r c l.length=false:=by unfold T5;rw [decide_eq_false_iff_not];omega
    rw [this];exact d9 (decide_eq_false h1) rfl
noncomputable def anG(l:List Nat) :Bool:=@decide (Fn l) (Classical.propDecidable _)
theorem zG{l:List Nat} :anG l=true↔Fn l:=@decide_eq_true_iff _ (Classical.propDecidable _)
theorem aku{l:List Nat} :anG l=false↔¬ Fn l:=@decide_eq_false_iff_not _ (Classical.propDecidable _)
theorem aby{l:List Nat}(hw:Wd l)(hn:l.length≤1000000000) :∃ k:Int,ao l=some (.r0 k)∧decide (k ≥ 0) = !(anG l):=by
  have step:∀ j,j < l.length→Ek (l.getD j 0)=true→dG l j=some (.inl (j+1)):=by
    intro j hj hf
    show (cj _ _).run=_
    unfold cj
    exact dm (ai (ai (d9 (ae9 (hw j) hf) (bH (d9 (an8 (hw j) hf) (ai rfl))))))
  by_cases h:Fn l
  · refine ⟨-1,bc (ae (a:=()) rfl (ae (a:=()) (cx (fun j=>j) l.length rfl (fun j hj=>step j hj (h j hj)) (dJ rfl)) rfl)),?_⟩
    rw [zG.2 h];rfl
  · obtain ⟨k,hk,hb,hf⟩:=Mp (p:=fun i=>Ek (l.getD i 0)=true) h
    have hbf:Ek (l.getD k 0)=false:=by cases q:Ek (l.getD k 0) with | true=>exact absurd q hb | false=>rfl
    refine ⟨(k:Int),bc (ae (a:=()) rfl (bR (cx (fun j=>j) k rfl (fun j hj=>step j (by omega) (hf j hj)) ?_))),?_⟩
    · show (cj _ _).run=_
      unfold cj
      refine dm (ai (ai ?_))
      rcases alR (hw k) hbf with q | ⟨q1,q2,q3⟩
      · exact rW (an7 q) rfl
      · exact d9 q3 (bH (rW (an9 (hw k) q2) rfl))
    · rw [aku.2 h,decide_eq_true (by omega)];rfl
def szI(l:List Nat) :Int:=ki (fun i=>gz l i * gz l i) l.length
theorem apk{l:List Nat}(hw:Wd l)(hf:Fn l)(hn:l.length≤1000000) :nl (szI l).natAbs≤67 :=
  Ms (fun i hi=>tp (GJ hw hf hi) (GJ hw hf hi)) hn
theorem aen{r c:Int}{l:List Nat}(hw:Wd l)(h:T5 r c l.length=true)(hf:anG l=true) :
    ∃ N,cQ r c l=some (.r0 0 (nS (szI l)) (aA (nM (szI l)) N) 0 (nl (nM (szI l))) (nE (szI l) (-2148)))∧nl (nM (szI l))≤N∧N≤4096:=by
  obtain ⟨_,_,_,_,_,_,_,hn⟩:=alf h
  obtain ⟨k,k1,k2⟩:=aby hw (by omega)
  have hF:=zG.1 hf
  obtain ⟨N,h1,h2,h3⟩:=IW (g:=gz l) (e:=-1074) (n:=l.length) (k:=33) (fun i hi=>GJ hw hF hi) (by omega) (by omega) (by omega)
  refine ⟨N,bc (ae (a:=false) ?_ (ae (a:=(0,nS (szI l),aA (nM (szI l)) N,0,nl (nM (szI l)),nE (szI l) (-2148))) ?_ rfl)),h2,h3⟩
  · unfold IB
    rw [aE,uo,h,k1]
    exact bH (aj (bt (aj (bj (aj (bj (bj (bH (aj (bt (aj (d9 (by rw [hf] at k2;exact k2) (aj (bj rfl))))))))))))))
  · unfold IC
    rw [aE,wW hw hF (by omega)]
    simp only [i0,aN,dc,dd,de]
    rw [gX,gY,gZ,h1]
    exact bt (aj (se (aj rfl)))
def bF(m n:Nat) :Nat:=64 * max m 1 * max n 1
def bI(m n:Nat) :Int:=(bF m n:Int) * (bF m n:Int)
theorem anH{m n:Nat}(hm:m≤512)(hn:n≤512) :bF m n≤16777216:=by
  unfold bF
  have h1:max m 1≤512:=by omega
  have h2:max n 1≤512:=by omega
  have:max m 1 * max n 1≤512 * 512:=Nat.mul_le_mul h1 h2
  rw [Nat.mul_assoc];omega
theorem aoI{m n:Nat}(hm:m≤512)(hn:n≤512) :nl (bF m n)≤1:=by
  have:=anH hm hn
  exact jL (by rw [Nat.pow_one];exact Nat.lt_of_le_of_lt this (by decide))
theorem aiE{m n:Nat}(hm:m≤512)(hn:n≤512) :nl (bI m n).natAbs≤2:=by
  have h:=aoI hm hn
  exact tp (a:=1) (b:=1) (by rw [Int.natAbs_natCast];exact h) (by rw [Int.natAbs_natCast];exact h)
theorem alg{m n:Nat}(hm:m≤512)(hn:n≤512) :Sm (bF m n:Int) 0:=yG (k:=1) (by rw [Int.natAbs_natCast];exact aoI hm hn) (by omega) (by omega)
theorem aiF(m:Nat) :na (m:Int) 1=((max m 1:Nat):Int):=by
  by_cases h:m≤1
  · rw [Ym (by omega),Nat.max_eq_right h];rfl
  · rw [alb (by omega),Nat.max_eq_left (by omega)]
theorem anI(m n:Nat) :((64:Int) * ((max m 1:Nat):Int)) * ((max n 1:Nat):Int)=((bF m n:Nat):Int):=by
  unfold bF;rw [Int.natCast_mul,Int.natCast_mul];rfl
theorem QJ{m n:Nat}(hm:m≤512)(hn:n≤512) :
    ∃ N,bB (m:Int) (n:Int)=some (.r0 0 (nS (bI m n)) (aA (nM (bI m n)) N) 0 (nl (nM (bI m n))) (nE (bI m n) (-106)))∧nl (nM (bI m n))≤N∧N≤4096:=by
  have hb:=anH hm hn
  obtain ⟨A,a1,a2,a3⟩:=L7 (n:=bF m n) (by omega)
  obtain ⟨B,b1,b2,b3⟩:=Mw (alg hm hn) (alg hm hn)
  have b2:nl (nM (bI m n))≤B:=b2
  have hB:Sm (bI m n) (0+0):=yG (aiE hm hn) (by omega) (by omega)
  obtain ⟨C,c1,c2,c3⟩:=aiz (k:=-106) hB (by omega)
  have hmx:max m 1≤512:=by omega
  refine ⟨C,bc (ae (a:=(false,false)) ?_ (ae (a:=(nS (bF m n:Int),aA (nM (bF m n:Int)) A,0,nl (nM (bF m n:Int)),nE (bF m n:Int) 0)) ?_ (ae (a:=(0,nS (bI m n),aA (nM (bI m n)) B,0,nl (nM (bI m n)),nE (bI m n) (0+0))) ?_ (ae (a:=(0,nS (bI m n),aA (nM (bI m n)) C,0,nl (nM (bI m n)),nE (bI m n) (-106))) ?_ rfl)))),c2,c3⟩
  · unfold u4
    refine d9 (by rw [decide_eq_false_iff_not];omega) (d9 (by rw [decide_eq_false_iff_not];omega) (d9 (by rw [decide_eq_false_iff_not];omega) ?_))
    show some (Sum.inl (decide ((n:Int) > 512),false))=_
    rw [decide_eq_false (by omega)]
  · show (Ar _ _ _).run=_
    unfold Ar
    rw [aiF,aiF,anI,a1]
    exact bj (cZ (by rw [c7];omega) (cZ (by rw [c7];omega) (aj rfl)))
  · show (As _ _ _ _ _).run=_
    unfold As
    rw [bO a2,b1]
    exact cZ (bf a2) (cZ (bf a2) (aj rfl))
  · show (Au _ _ _ _ _ _).run=_
    unfold Au
    rw [bO b2,c1]
    exact bj (cZ (bf b2) (aj rfl))
theorem amc{m n:Int}(h : ¬ (0≤m∧m≤512∧0≤n∧n≤512)) :bB m n=some (.r0 2 false [] 0 0 0):=by
  have t6:(u4 m n).run=some (.inl (true,false)):=by
    unfold u4
    by_cases h1:m < 0
    · exact rW (decide_eq_true h1) rfl
    by_cases h2:m > 512
    · exact d9 (decide_eq_false h1) (rW (decide_eq_true h2) rfl)
    by_cases h3:n < 0
    · exact d9 (decide_eq_false h1) (d9 (decide_eq_false h2) (rW (decide_eq_true h3) rfl))
    refine d9 (decide_eq_false h1) (d9 (decide_eq_false h2) (d9 (decide_eq_false h3) ?_))
    show some (Sum.inl (decide (n > 512),false))=_
    rw [decide_eq_true (by omega)]
  exact bc (ae t6 (bR (bH rfl)))
theorem aiG{m n:Nat}(hm:m≤512)(hn:n≤512) :
    db (m:Int) (n:Int)=some (.r0 (nS (bI m n)) (aA (nM (bI m n)) (nl (nM (bI m n)))) (nl (nM (bI m n))) (nE (bI m n) (-106))):=by
  have hb:=anH hm hn
  have a1:=Xr (n:=bF m n) (by omega)
  have b1:=aks (alg hm hn) (alg hm hn)
  have hB:Sm (bI m n) (0+0):=yG (aiE hm hn) (by omega) (by omega)
  have c1:=aon (k:=-106) hB (by omega)
  have hmx:max m 1≤512:=by omega
  have one:∀ k:Nat,(if k=0 then (1:Int) else (k:Int))=((max k 1:Nat):Int):=fun k=>by split <;> omega
  refine bc (ae (a:=(((max m 1:Nat):Int),false)) ?_ (ae (a:=((max n 1:Nat):Int)) ?_ (ae (a:=(nS (bF m n:Int),aA (nM (bF m n:Int)) (nl (nM (bF m n:Int))),nl (nM (bF m n:Int)),nE (bF m n:Int) 0)) ?_ (ae (a:=(nS (bI m n),aA (nM (bI m n)) (nl (nM (bI m n))),nl (nM (bI m n)),nE (bI m n) (-106))) ?_ rfl))))
  · unfold Ed
    by_cases h:m=0
    · subst h;exact bH rfl
    · rw [← one m,if_neg h];exact d9 (by rw [beq_eq_false_iff_ne];omega) rfl
  · show (yq _).run=_
    unfold yq
    by_cases h:n=0
    · subst h;exact bH rfl
    · rw [← one n,if_neg h];exact d9 (by rw [beq_eq_false_iff_ne];omega) rfl
  · show (yr _ _).run=_
    unfold yr
    rw [anI,a1]
    exact cZ (by rw [c7];omega) (cZ (by rw [c7];omega) (aj rfl))
  · show (yu _ _ _ _).run=_
    unfold yu
    rw [dR ay,b1]
    simp only [sY,iP,gA,gB,iQ]
    have c1':eL (nS ((bF m n:Int) * (bF m n:Int))) (aA (nM ((bF m n:Int) * (bF m n:Int))) (nl (nM ((bF m n:Int) * (bF m n:Int))))) (nE ((bF m n:Int) * (bF m n:Int)) (0+0)) (-106)=_:=c1
    rw [dR ay,c1']
    exact jN (jN (aj (jN (aj rfl))))
end Go.Plb.Seat
namespace Go.Plb.Seat
open Go Go.Plb
set_option linter.unusedSimpArgs false
set_option linter.unusedVariables false
theorem pq{i k c:Nat}(h:k < c) :(i * c+k) / c=i∧(i * c+k) % c=k:=by
  have hc:0 < c:=by omega
  refine ⟨by rw [Nat.mul_comm,Nat.mul_add_div hc,Nat.div_eq_of_lt h,Nat.add_zero],?_⟩
  rw [Nat.mul_comm,Nat.mul_add_mod,Nat.mod_eq_of_lt h]
def apl:Nat:=2 ^ 2148
def agF:Int:=1 * ((apl:Nat):Int)
theorem apm:nS 1=nS agF∧nM 1=nM agF∧nE 1 0=nE agF (-2148):=by
  have h:=anh 1 2148 (-2148)
  rw [show (-2148:Int)+((2148:Nat):Int)=0 by omega] at h
  unfold agF apl
  exact h
theorem apR(n:Nat) :W ^ n=2 ^ (64 * n):=by rw [Nat.pow_mul]
theorem apn{a n:Nat}(h:a < 64 * n) :nl (2 ^ a)≤n:=jL (by rw [apR];exact apb h)
theorem anJ:nl agF.natAbs≤34:=by
  unfold agF
  rw [Int.one_mul,Int.natAbs_natCast]
  unfold apl
  exact apn (a:=2148) (n:=34) (by decide)
def agG(l:List Nat)(r c i k:Nat) :Int:=ki (fun j=>gz l (j * c+i) * gz l (j * c+k)) r
def tG(l:List Nat)(r c i k:Nat) :Int:=agG l r c i k - (if i=k then agF else 0)
def gG(l:List Nat)(r c p:Nat) :Int:=tG l r c (p / c) (p % c)
def T7(l:List Nat)(r c:Nat) :Int:=ki (fun p=>gG l r c p * gG l r c p) (c * c)
theorem alh{l:List Nat}(hw:Wd l)(hf:Fn l){r c i k n:Nat}(hl:l.length=r * c)(hi:i < c)(hk:k < c)(hn:n≤r)(hr:r≤1000) :
    nl (ki (fun j=>gz l (j * c+i) * gz l (j * c+k)) n).natAbs≤67 :=
  Ms (fun j hj=>tp (GJ hw hf (by rw [hl];exact Fi (by omega) hi)) (GJ hw hf (by rw [hl];exact Fi (by omega) hk))) (by omega)
theorem apS{l:List Nat}(hw:Wd l)(hf:Fn l){r c i k:Nat}(hl:l.length=r * c)(hi:i < c)(hk:k < c)(hr:r≤1000) :nl (tG l r c i k).natAbs≤68:=by
  refine ak7 (a:=67) (alh hw hf hl hi hk (Nat.le_refl _) hr) ?_
  split
  · exact Nat.le_trans anJ (by omega)
  · rw [Int.natAbs_zero,iT];omega
theorem anK{l:List Nat}(hw:Wd l)(hf:Fn l){r c p:Nat}(hl:l.length=r * c)(hp:p < c * c)(hr:r≤1000) :nl (gG l r c p).natAbs≤68:=by
  have hc : 0 < c := by rcases Nat.eq_zero_or_pos c with h | h; · subst h; omega
                        · exact h
  exact apS hw hf hl (Nat.div_lt_of_lt_mul hp) (Nat.mod_lt _ hc) hr
theorem apo{l:List Nat}(hw:Wd l)(hf:Fn l){r c n:Nat}(hl:l.length=r * c)(hr:r≤512)(hc:c≤512)(hn:n≤c * c) :nl (ki (fun p=>gG l r c p * gG l r c p) n).natAbs≤137:=by
  have:c * c≤512 * 512:=Nat.mul_le_mul hc hc
  exact Ms (fun p hp=>tp (anK hw hf hl (by omega) (by omega)) (anK hw hf hl (by omega) (by omega))) (by omega)
theorem akv{l:List Nat}(hw:Wd l)(hf:Fn l){r c i k:Nat}(hl:l.length=r * c)(hi:i < c)(hk:k < c)(hr:r≤512)(hc:c≤512) :
    ∃ N,cw (i:Int) (k:Int) l.length (nk (gz l) l.length) (nm (gz l) l.length) (nn (gz l) (-1074) l.length) (r:Int) (c:Int) (nS 1) (aA (nM 1) (nl (nM 1))) (nE 1 0)=some (.r0 0 (nS (tG l r c i k)) (aA (nM (tG l r c i k)) N) 0 (nl (nM (tG l r c i k))) (nE (tG l r c i k) (-2148)))∧nl (nM (tG l r c i k))≤N∧N≤4096:=by
  have hb:r * c≤512 * 512:=Nat.mul_le_mul hr hc
  have li:∀ x,x < c→∀ j,j < r→x+j * c < l.length:=fun x hx j hj=>by rw [hl,Nat.add_comm];exact Fi hj hx
  have l1:=MB (g:=gz l) (e:=-1074) (n:=l.length) (from':=i) (far:=c) (many:=r) (li i hi) (by omega) (by omega) (by omega) (by omega)
  have l2:=MB (g:=gz l) (e:=-1074) (n:=l.length) (from':=k) (far:=c) (many:=r) (li k hk) (by omega) (by omega) (by omega) (by omega)
  obtain ⟨D,d1,d2,d3⟩:=abw (g:=fun j=>gz l (i+j * c)) (h:=fun j=>gz l (k+j * c)) (e:=-1074) (f:=-1074) (n:=r) (k:=66) (fun j hj=>adO hw hf (li i hi j hj)) (fun j hj=>adO hw hf (li k hk j hj)) (fun j hj=>tp (GJ hw hf (li i hi j hj)) (GJ hw hf (li k hk j hj))) (by omega) (by omega) (by omega)
  have ed:ki (fun j=>gz l (i+j * c) * gz l (k+j * c)) r=agG l r c i k:=PZ fun j _=>by rw [Nat.add_comm i,Nat.add_comm k]
  rw [ed] at d1 d2
  have t5:(yf (i:Int) (k:Int) l.length (nk (gz l) l.length) (nm (gz l) l.length) (nn (gz l) (-1074) l.length) (r:Int) (c:Int)).run=some (.inl (0,false,nS (agG l r c i k),aA (nM (agG l r c i k)) D,0,nl (nM (agG l r c i k)),nE (agG l r c i k) (-2148))):=by
    unfold yf
    rw [gX,gY,gZ,l1,l2]
    simp only [lS,ac,bk,bm,bn]
    rw [gX,gY,gZ,gX,gY,gZ,d1]
    exact se (aj (se (aj (se (se (aj rfl))))))
  by_cases hik:i=k
  · have hD:Sm (agG l r c i k) (-2148):=yG (alh hw hf hl hi hk (Nat.le_refl _) (by omega)) (by omega) (by omega)
    have hO:Sm agF (-2148):=yG anJ (by omega) (by omega)
    obtain ⟨E,e1,e2,e3⟩:=aek hD hO
    obtain ⟨o1,o2,o3⟩:=apm
    have et:agG l r c i k - agF=tG l r c i k:=by unfold tG;rw [if_pos hik]
    rw [et] at e1 e2
    rw [o1,o2,o3]
    refine ⟨E,bc (ae t5 (ae (a:=false) ?_ (ae (a:=(0,nS (tG l r c i k),aA (nM (tG l r c i k)) E,0,nl (nM (tG l r c i k)),nE (tG l r c i k) (-2148))) ?_ rfl))),e2,e3⟩
    · show (yg _ _ _).run=_
      refine bj ?_
      show some (Sum.inl ((i:Int) != (k:Int)))=_
      rw [hik,bne_self_eq_false]
    · show (yh _ _ _ _ _ _ _ _ _ _).run=_
      unfold yh
      rw [bO d2,aE,e1]
      exact bj (cZ (bf d2) (bt (aj rfl)))
  · have et:agG l r c i k=tG l r c i k:=by unfold tG;rw [if_neg hik,Int.sub_zero]
    rw [et] at t5 d2
    refine ⟨D,bc (ae t5 (ae (a:=true) ?_ (bR (bH rfl)))),d2,d3⟩
    show (yg _ _ _).run=_
    refine bj ?_
    show some (Sum.inl ((i:Int) != (k:Int)))=_
    rw [bne_iff_ne.2 (by omega)]
theorem anL{g:Nat→Int}{n:Nat} :List.take n (nk g n) ++ [nS (g n)]=nk g (n+1):=PW
theorem anM{g:Nat→Int}{n:Nat} :List.take n (nm g n) ++ [aA (nM (g n)) (nl (nM (g n)))]=nm g (n+1):=PW
theorem anN{g:Nat→Int}{e:Int}{n:Nat} :List.take n (nn g e n) ++ [nE (g n) e]=nn g e (n+1):=PW
theorem amd{l:List Nat}(hw:Wd l)(hf:Fn l){r c:Nat}(hl:l.length=r * c)(hr:r≤512)(hc:c≤512) :
    ∃ N,aT (c:Int) (c:Int) l.length (nk (gz l) l.length) (nm (gz l) l.length) (nn (gz l) (-1074) l.length) (r:Int) (c:Int) l (nS 1) (aA (nM 1) (nl (nM 1))) (nE 1 0)=some (.r0 0 (nS (T7 l r c)) (aA (nM (T7 l r c)) N) 0 (nl (nM (T7 l r c))) (nE (T7 l r c) (-4296)))∧nl (nM (T7 l r c))≤N∧N≤4096:=by
  have hcc:c * c≤512 * 512:=Nat.mul_le_mul hc hc
  obtain ⟨N,s1,s2,s3⟩:=IW (g:=gG l r c) (e:=-2148) (n:=c * c) (k:=68) (fun p hp=>anK hw hf hl hp (by omega)) (by omega) (by omega) (by omega)
  refine ⟨N,bc (ae (a:=false) rfl (ae (a:=()) rfl (ae (a:=(c * c,c * c,0,c * c,nk (gG l r c) (c * c),nm (gG l r c) (c * c),nn (gG l r c) (-2148) (c * c))) (cx (fun i=>(i * c,i * c,0,i,i * c,nk (gG l r c) (i * c),nm (gG l r c) (i * c),nn (gG l r c) (-2148) (i * c))) c (by rw [Nat.zero_mul];rfl) (fun i hi=>?_) ?_) (ae (a:=(0,nS (T7 l r c),aA (nM (T7 l r c)) N,0,nl (nM (T7 l r c)),nE (T7 l r c) (-4296))) ?_ rfl)))),s2,s3⟩
  · show ax (fH _ _ _ _ _ _ _ _ _).run _=_
    have hnx:(i+1) * c=i * c+c:=by rw [Nat.add_mul,Nat.one_mul]
    have hic:i * c≤512 * 512:=Nat.mul_le_mul (by omega) hc
    refine ae (a:=()) (dm rfl) (ae (a:=((i+1) * c,(i+1) * c,0,(i+1) * c,nk (gG l r c) ((i+1) * c),nm (gG l r c) ((i+1) * c),nn (gG l r c) (-2148) ((i+1) * c))) (JN (ae (a:=()) rfl (ae (a:=(i * c+c,i * c+c,0,i * c+c,nk (gG l r c) (i * c+c),nm (gG l r c) (i * c+c),nn (gG l r c) (-2148) (i * c+c))) (cx (fun k=>(i * c+k,i * c+k,0,k,i * c+k,nk (gG l r c) (i * c+k),nm (gG l r c) (i * c+k),nn (gG l r c) (-2148) (i * c+k))) c rfl (fun k hk=>?_) ?_) (by rw [hnx];rfl)))) (ai rfl))
    · obtain ⟨A,a1,a2,a3⟩:=akv hw hf hl hi hk hr hc
      obtain ⟨q1,q2⟩:=pq (i:=i) hk
      have eg:tG l r c i k=gG l r c (i * c+k):=by unfold gG;rw [q1,q2]
      rw [eg] at a1 a2
      show ax (eh _ _ _ _ _ _ _ _ _ _ _ _ _ _ _ _ _ _ _ _).run _=_
      refine ae (a:=(i * c+k+1,0,nk (gG l r c) (i * c+k+1),nm (gG l r c) (i * c+k+1),nn (gG l r c) (-2148) (i * c+k+1))) ?_ (ai rfl)
      unfold eh
      rw [gX,gY,gZ,aE,a1]
      simp only [sU,mH,t4,pN,pO,pP,ua]
      rw [List.drop_zero,G9 a2,anL,anM,anN]
      exact dm (se (bt (bt (aj (bj (ai (ai (aj (ai (cZ (decide_eq_true (by rw [ay];omega)) rfl))))))))))
    · show ax (eh _ _ _ _ _ _ _ _ _ _ _ _ _ _ _ _ _ _ _ _).run _=_
      exact bR (dJ rfl)
  · show ax (fH _ _ _ _ _ _ _ _ _).run _=_
    exact bR (dJ rfl)
  · show (fI _ _ _ _ _ _).run=_
    unfold fI
    rw [gX,gY,gZ,s1]
    exact bj (se (aj rfl))
theorem ame{r c:Nat}{l:List Nat}(hw:Wd l)(h:T5 r c l.length=true)(hf:anG l=true) :
    ∃ N,fj (r:Int) (c:Int) l=some (.r0 0 (nS (T7 l r c)) (aA (nM (T7 l r c)) N) 0 (nl (nM (T7 l r c))) (nE (T7 l r c) (-4296)))∧nl (nM (T7 l r c))≤N∧N≤4096:=by
  obtain ⟨h1,h2,h3,h4,h5⟩:=agD.1 h
  have hr:r≤512:=by omega
  have hc:c≤512:=by omega
  have hl:l.length=r * c:=by rw [← Int.natCast_mul] at h5;exact Int.ofNat_inj.1 h5
  have hb:r * c≤512 * 512:=Nat.mul_le_mul hr hc
  obtain ⟨k,k1,k2⟩:=aby hw (by omega)
  have hF:=zG.1 hf
  obtain ⟨A,a1,a2,a3⟩:=L7 (n:=1) (by omega)
  obtain ⟨N,n1,n2,n3⟩:=amd hw hF hl hr hc
  refine ⟨N,bc (ae (a:=false) ?_ (ae (a:=(l.length,nk (gz l) l.length,nm (gz l) l.length,nn (gz l) (-1074) l.length)) ?_ (ae (a:=(nS 1,aA (nM 1) A,0,nl (nM 1),nE 1 0)) ?_ (ae (a:=(0,nS (T7 l r c),aA (nM (T7 l r c)) N,0,nl (nM (T7 l r c)),nE (T7 l r c) (-4296))) ?_ rfl)))),n2,n3⟩
  · unfold IF
    rw [aE,uo,h,k1]
    exact bH (aj (bt (aj (bj (aj (bj (bj (bH (aj (bt (aj (d9 (by rw [hf] at k2;exact k2) (aj (bj rfl))))))))))))))
  · unfold IG
    rw [aE,wW hw hF (by omega)]
    exact bt (aj rfl)
  · have a1':ba 1=_:=a1
    unfold IH
    rw [a1']
    exact aj rfl
  · show (CJ _ _ _ _ _ _ _ _ _ _ _ _).run=_
    have a2':nl (nM 1)≤A:=a2
    unfold CJ
    rw [gX,gY,gZ,aE,bO a2',n1]
    exact se (bt (cZ (bf a2') (aj rfl)))
end Go.Plb.Seat
namespace Go.Plb.Seat
open Go Go.Plb
set_option linter.unusedSimpArgs false
set_option linter.unusedVariables false
theorem Yn(j c i:Nat) :((j:Int) * (c:Int))+(i:Int)=((j * c+i:Nat):Int):=by rw [Int.natCast_add,Int.natCast_mul]
theorem T6(j c:Nat) :(j:Int) * (c:Int)=((j * c:Nat):Int):=by rw [Int.natCast_mul]
end Go.Plb.Seat
namespace Go.Plb.Seat
open Go Go.Plb
set_option linter.unusedSimpArgs false
set_option linter.unusedVariables false
structure QK (A X Y V:List Nat) (r c d:Nat):Prop where
  hA:A.length=r * c
  hX:X.length=c * d
  hY:Y.length=r * d
  hV:V.length=d
  hr:r≤512
  hc:c≤512
  hd:d≤512
  wA:Wd A
  wX:Wd X
  wY:Wd Y
  wV:Wd V
  fA:Fn A
  fX:Fn X
  fY:Fn Y
  fV:Fn V
def tR(A X Y V:List Nat)(c d i k:Nat) :Int:=ki (fun j=>gz A (i * c+j) * gz X (j * d+k)) c - gz Y (i * d+k) * gz V k
def gR(A X Y V:List Nat)(c d p:Nat) :Int:=tR A X Y V c d (p / d) (p % d)
def T8(A X Y V:List Nat)(r c d:Nat) :Int:=ki (fun p=>gR A X Y V c d p * gR A X Y V c d p) (r * d)
section
variable {A X Y V : List Nat} {r c d : Nat}
theorem QK.lA(h:QK A X Y V r c d){i j:Nat}(hi:i < r)(hj:j < c) :i * c+j < A.length:=by rw [h.hA];exact Fi hi hj
theorem QK.lX(h:QK A X Y V r c d){j k:Nat}(hj:j < c)(hk:k < d) :j * d+k < X.length:=by rw [h.hX];exact Fi hj hk
theorem QK.lY(h:QK A X Y V r c d){i k:Nat}(hi:i < r)(hk:k < d) :i * d+k < Y.length:=by rw [h.hY];exact Fi hi hk
theorem QK.lV(h:QK A X Y V r c d){k:Nat}(hk:k < d) :k < V.length:=by rw [h.hV];exact hk
theorem QK.bA(h:QK A X Y V r c d) :A.length≤262144:=by rw [h.hA];exact Nat.mul_le_mul h.hr h.hc
theorem QK.bX(h:QK A X Y V r c d) :X.length≤262144:=by rw [h.hX];exact Nat.mul_le_mul h.hc h.hd
theorem QK.bY(h:QK A X Y V r c d) :Y.length≤262144:=by rw [h.hY];exact Nat.mul_le_mul h.hr h.hd
theorem QK.bV(h:QK A X Y V r c d) :V.length≤512:=by rw [h.hV];exact h.hd
theorem QK.dot(h:QK A X Y V r c d){i k n:Nat}(hi:i < r)(hk:k < d)(hn:n≤c) :nl (ki (fun j=>gz A (i * c+j) * gz X (j * d+k)) n).natAbs≤67:=by
  have:=h.hc
  exact Ms (fun j hj=>tp (GJ h.wA h.fA (h.lA hi (by omega))) (GJ h.wX h.fX (h.lX (by omega) hk))) (by omega)
theorem QK.yv(h:QK A X Y V r c d){i k:Nat}(hi:i < r)(hk:k < d) :nl (gz Y (i * d+k) * gz V k).natAbs≤66 :=
  tp (GJ h.wY h.fY (h.lY hi hk)) (GJ h.wV h.fV (h.lV hk))
theorem QK.t(h:QK A X Y V r c d){i k:Nat}(hi:i < r)(hk:k < d) :nl (tR A X Y V c d i k).natAbs≤68 :=
  ak7 (a:=67) (h.dot hi hk (Nat.le_refl _)) (Nat.le_trans (h.yv hi hk) (by omega))
theorem QK.g(h:QK A X Y V r c d){p:Nat}(hp:p < r * d) :nl (gR A X Y V c d p).natAbs≤68:=by
  have hd:0 < d:=by
    rcases Nat.eq_zero_or_pos d with q | q
    · subst q;omega
    · exact q
  exact h.t (Nat.div_lt_of_lt_mul (by rw [Nat.mul_comm];exact hp)) (Nat.mod_lt _ hd)
theorem QK.s(h:QK A X Y V r c d){n:Nat}(hn:n≤r * d) :nl (ki (fun p=>gR A X Y V c d p * gR A X Y V c d p) n).natAbs≤137:=by
  have:r * d≤512 * 512:=Nat.mul_le_mul h.hr h.hd
  exact Ms (fun p hp=>tp (h.g (by omega)) (h.g (by omega))) (by omega)
theorem amf(h:QK A X Y V r c d){i k:Nat}(hi:i < r)(hk:k < d) :
    ∃ N,bC (i:Int) (k:Int) A.length (nk (gz A) A.length) (nm (gz A) A.length) (nn (gz A) (-1074) A.length) (c:Int) X.length (nk (gz X) X.length) (nm (gz X) X.length) (nn (gz X) (-1074) X.length) (d:Int) Y.length (nk (gz Y) Y.length) (nm (gz Y) Y.length) (nn (gz Y) (-1074) Y.length) (d:Int) V.length (nk (gz V) V.length) (nm (gz V) V.length) (nn (gz V) (-1074) V.length)
      = some (.r0 0 (nS (tR A X Y V c d i k)) (aA (nM (tR A X Y V c d i k)) N) 0 (nl (nM (tR A X Y V c d i k))) (nE (tR A X Y V c d i k) (-2148)))∧nl (nM (tR A X Y V c d i k))≤N∧N≤4096:=by
  have hr:=h.hr
  have hc:=h.hc
  have hd:=h.hd
  have bA:=h.bA
  have bX:=h.bX
  have bY:=h.bY
  have bV:=h.bV
  have hic:i * c≤512 * 512:=Nat.mul_le_mul (by omega) hc
  have hid:i * d≤512 * 512:=Nat.mul_le_mul (by omega) hd
  have lA:∀ j,j < c→i * c+j * 1 < A.length:=fun j hj=>by rw [Nat.mul_one];exact h.lA hi hj
  have lX:∀ j,j < c→k+j * d < X.length:=fun j hj=>by rw [Nat.add_comm];exact h.lX hj hk
  have l1:=MB (g:=gz A) (e:=-1074) (n:=A.length) (from':=i * c) (far:=1) (many:=c) lA (by omega) (by omega) (by omega) (by omega)
  have l2:=MB (g:=gz X) (e:=-1074) (n:=X.length) (from':=k) (far:=d) (many:=c) lX (by omega) (by omega) (by omega) (by omega)
  obtain ⟨D,d1,d2,d3⟩:=abw (g:=fun j=>gz A (i * c+j * 1)) (h:=fun j=>gz X (k+j * d)) (e:=-1074) (f:=-1074) (n:=c) (k:=66) (fun j hj=>adO h.wA h.fA (lA j hj)) (fun j hj=>adO h.wX h.fX (lX j hj)) (fun j hj=>tp (GJ h.wA h.fA (lA j hj)) (GJ h.wX h.fX (lX j hj))) (by omega) (by omega) (by omega)
  have ed:ki (fun j=>gz A (i * c+j * 1) * gz X (k+j * d)) c=ki (fun j=>gz A (i * c+j) * gz X (j * d+k)) c:=PZ fun j _=>by rw [Nat.mul_one,Nat.add_comm k]
  rw [ed] at d1 d2
  have ly:=h.lY hi hk
  have lv:=h.lV hk
  obtain ⟨E,e1,e2,e3⟩:=Mw (adO h.wY h.fY ly) (adO h.wV h.fV lv)
  have hD:Sm (ki (fun j=>gz A (i * c+j) * gz X (j * d+k)) c) (-1074 + -1074):=yG (h.dot hi hk (Nat.le_refl _)) (by omega) (by omega)
  have hP:Sm (gz Y (i * d+k) * gz V k) (-1074 + -1074):=yG (h.yv hi hk) (by omega) (by omega)
  obtain ⟨F,f1,f2,f3⟩:=aek hD hP
  refine ⟨F,bc (ae (a:=(0,false,nS (ki (fun j=>gz A (i * c+j) * gz X (j * d+k)) c),aA (nM (ki (fun j=>gz A (i * c+j) * gz X (j * d+k)) c)) D,0,nl (nM (ki (fun j=>gz A (i * c+j) * gz X (j * d+k)) c)),nE (ki (fun j=>gz A (i * c+j) * gz X (j * d+k)) c) (-1074 + -1074))) ?_ (ae (a:=(0,nS (gz Y (i * d+k) * gz V k),aA (nM (gz Y (i * d+k) * gz V k)) E,0,nl (nM (gz Y (i * d+k) * gz V k)),nE (gz Y (i * d+k) * gz V k) (-1074 + -1074))) ?_ (ae (a:=(0,nS (tR A X Y V c d i k),aA (nM (tR A X Y V c d i k)) F,0,nl (nM (tR A X Y V c d i k)),nE (tR A X Y V c d i k) (-2148))) ?_ rfl))),f2,f3⟩
  · unfold wj
    have l1':ab A.length (nk (gz A) A.length) (nm (gz A) A.length) (nn (gz A) (-1074) A.length) ((i * c:Nat):Int) 1 (c:Int)=_:=l1
    rw [T6,gX,gY,gZ,gX,gY,gZ,l1',l2]
    simp only [lS,ac,bk,bm,bn]
    rw [gX,gY,gZ,gX,gY,gZ,d1]
    exact cZ (by rw [c7];omega) (se (aj (se (aj (se (se (aj rfl)))))))
  · show (qH _ _ _ _ _ _ _ _ _ _ _ _).run=_
    have e1':an (nS (gz Y (i * d+k))) (Zi (gz Y (i * d+k))) (nE (gz Y (i * d+k)) (-1074)) (nS (gz V k)) (Zi (gz V k)) (nE (gz V k) (-1074))=_:=e1
    unfold qH
    rw [Yn,T6,cy,cy,GG,GH,GI,GG,GH,GI,Ro ly,Rp ly,Rq ly,Ro lv,Rp lv,Rq lv,aE,aE,e1']
    exact bj (cZ (by rw [c7];omega) (cZ (by rw [c7];omega) (ai (ai (ai (ai (ai (ai (ai (ai (bt (bt (aj rfl)))))))))))))
  · show (qI _ _ _ _ _ _ _ _ _ _ _).run=_
    unfold qI
    rw [bO d2,bO e2,f1]
    exact bj (cZ (bf d2) (cZ (bf e2) (aj rfl)))
theorem amg(h:QK A X Y V r c d) :
    ∃ N,aK (r:Int) (d:Int) A.length (nk (gz A) A.length) (nm (gz A) A.length) (nn (gz A) (-1074) A.length) (c:Int) A X.length (nk (gz X) X.length) (nm (gz X) X.length) (nn (gz X) (-1074) X.length) (d:Int) X Y.length (nk (gz Y) Y.length) (nm (gz Y) Y.length) (nn (gz Y) (-1074) Y.length) (d:Int) Y V.length (nk (gz V) V.length) (nm (gz V) V.length) (nn (gz V) (-1074) V.length)
      = some (.r0 0 (nS (T8 A X Y V r c d)) (aA (nM (T8 A X Y V r c d)) N) 0 (nl (nM (T8 A X Y V r c d))) (nE (T8 A X Y V r c d) (-4296)))∧nl (nM (T8 A X Y V r c d))≤N∧N≤4096:=by
  have hr:=h.hr
  have hc:=h.hc
  have hd:=h.hd
  have hrd:r * d≤512 * 512:=Nat.mul_le_mul hr hd
  obtain ⟨N,s1,s2,s3⟩:=IW (g:=gR A X Y V c d) (e:=-2148) (n:=r * d) (k:=68) (fun p hp=>h.g hp) (by omega) (by omega) (by omega)
  refine ⟨N,bc (ae (a:=false) rfl (ae (a:=()) rfl (ae (a:=(r * d,r * d,0,r * d,nk (gR A X Y V c d) (r * d),nm (gR A X Y V c d) (r * d),nn (gR A X Y V c d) (-2148) (r * d))) (cx (fun i=>(i * d,i * d,0,i,i * d,nk (gR A X Y V c d) (i * d),nm (gR A X Y V c d) (i * d),nn (gR A X Y V c d) (-2148) (i * d))) r (by rw [Nat.zero_mul];rfl) (fun i hi=>?_) ?_) (ae (a:=(0,nS (T8 A X Y V r c d),aA (nM (T8 A X Y V r c d)) N,0,nl (nM (T8 A X Y V r c d)),nE (T8 A X Y V r c d) (-4296))) ?_ rfl)))),s2,s3⟩
  · show ax (eO _ _ _ _ _ _ _ _ _).run _=_
    have hnx:(i+1) * d=i * d+d:=by rw [Nat.add_mul,Nat.one_mul]
    have hic:i * d≤512 * 512:=Nat.mul_le_mul (by omega) hd
    refine ae (a:=()) (dm rfl) (ae (a:=((i+1) * d,(i+1) * d,0,(i+1) * d,nk (gR A X Y V c d) ((i+1) * d),nm (gR A X Y V c d) ((i+1) * d),nn (gR A X Y V c d) (-2148) ((i+1) * d))) (JN (ae (a:=()) rfl (ae (a:=(i * d+d,i * d+d,0,i * d+d,nk (gR A X Y V c d) (i * d+d),nm (gR A X Y V c d) (i * d+d),nn (gR A X Y V c d) (-2148) (i * d+d))) (cx (fun k=>(i * d+k,i * d+k,0,k,i * d+k,nk (gR A X Y V c d) (i * d+k),nm (gR A X Y V c d) (i * d+k),nn (gR A X Y V c d) (-2148) (i * d+k))) d rfl (fun k hk=>?_) ?_) (by rw [hnx];rfl)))) (ai rfl))
    · obtain ⟨a,a1,a2,a3⟩:=amf h hi hk
      obtain ⟨q1,q2⟩:=pq (i:=i) hk
      have eg:tR A X Y V c d i k=gR A X Y V c d (i * d+k):=by unfold gR;rw [q1,q2]
      rw [eg] at a1 a2
      show ax (dw _ _ _ _ _ _ _ _ _ _ _ _ _ _ _ _ _ _ _ _ _ _ _ _ _ _ _ _ _ _ _ _).run _=_
      refine ae (a:=(i * d+k+1,0,nk (gR A X Y V c d) (i * d+k+1),nm (gR A X Y V c d) (i * d+k+1),nn (gR A X Y V c d) (-2148) (i * d+k+1))) ?_ (ai rfl)
      unfold dw
      rw [gX,gY,gZ,gX,gY,gZ,gX,gY,gZ,gX,gY,gZ,a1]
      simp only [m5,iO,oT,kH,kJ,kK,oU]
      rw [List.drop_zero,G9 a2,anL,anM,anN]
      exact dm (se (bt (se (bt (se (bt (se (aj (bj (ai (ai (aj (ai (cZ (decide_eq_true (by rw [ay];omega)) rfl))))))))))))))
    · show ax (dw _ _ _ _ _ _ _ _ _ _ _ _ _ _ _ _ _ _ _ _ _ _ _ _ _ _ _ _ _ _ _ _).run _=_
      exact bR (dJ rfl)
  · show ax (eO _ _ _ _ _ _ _ _ _).run _=_
    exact bR (dJ rfl)
  · show (eP _ _ _ _ _ _).run=_
    unfold eP
    rw [gX,gY,gZ,s1]
    exact bj (se (aj rfl))
end
end Go.Plb.Seat
namespace Go.Plb.Seat
open Go Go.Plb
set_option linter.unusedSimpArgs false
set_option linter.unusedVariables false
theorem QL{r c n:Nat}(hr:r≤512)(hc:c≤512)(hn:n=r * c) :T5 (r:Int) (c:Int) n=true :=
  agD.2 ⟨by omega,by omega,by omega,by omega,by rw [hn,Int.natCast_mul]⟩
theorem IX{l:List Nat}(hw:Wd l)(hf:Fn l)(hn:l.length≤1000000000) :∃ k:Int,ao l=some (.r0 k)∧decide (k ≥ 0)=false:=by
  obtain ⟨k,k1,k2⟩:=aby hw hn
  rw [zG.2 hf] at k2
  exact ⟨k,k1,k2⟩
section
variable {A X Y V : List Nat} {r c d : Nat}
theorem anO(h:QK A X Y V r c d) :
    ∃ N,cU (r:Int) (c:Int) A (c:Int) (d:Int) X (r:Int) (d:Int) Y V=some (.r0 0 (nS (T8 A X Y V r c d)) (aA (nM (T8 A X Y V r c d)) N) 0 (nl (nM (T8 A X Y V r c d))) (nE (T8 A X Y V r c d) (-4296)))∧nl (nM (T8 A X Y V r c d))≤N∧N≤4096:=by
  have bA:=h.bA
  have bX:=h.bX
  have bY:=h.bY
  have bV:=h.bV
  have mA:=QL h.hr h.hc h.hA
  have mX:=QL h.hc h.hd h.hX
  have mY:=QL h.hr h.hd h.hY
  have hV:((V.length:Nat):Int)=(d:Int):=by rw [h.hV]
  obtain ⟨k1,a1,a2⟩:=IX h.wA h.fA (by omega)
  obtain ⟨k2,b1,b2⟩:=IX h.wX h.fX (by omega)
  obtain ⟨k3,c1,c2⟩:=IX h.wY h.fY (by omega)
  obtain ⟨k4,d1,d2⟩:=IX h.wV h.fV (by omega)
  obtain ⟨N,e1,e2,e3⟩:=amg h
  refine ⟨N,bc (ae (a:=false) ?_ (ae (a:=(A.length,nk (gz A) A.length,nm (gz A) A.length,nn (gz A) (-1074) A.length,X.length,nk (gz X) X.length,nm (gz X) X.length,nn (gz X) (-1074) X.length,Y.length,nk (gz Y) Y.length,nm (gz Y) Y.length,nn (gz Y) (-1074) Y.length,V.length,nk (gz V) V.length,nm (gz V) V.length,nn (gz V) (-1074) V.length)) ?_ (ae (a:=(0,nS (T8 A X Y V r c d),aA (nM (T8 A X Y V r c d)) N,0,nl (nM (T8 A X Y V r c d)),nE (T8 A X Y V r c d) (-4296))) ?_ rfl))),e2,e3⟩
  · unfold zp
    rw [aE,aE,aE,aE,uo,uo,uo,mA,mX,mY,a1,b1,c1,d1]
    exact (bH (aj (bt (aj (bj (aj (bH (aj (bt (aj (bj (aj (bH (aj (bt (aj (bj (aj (bj (bj (d9 (by simp) (d9 (by simp) (d9 (by rw [hV,bne_self_eq_false]) (bH (aj (bt (aj (d9 a2 (aj (bH (aj (bt (aj (d9 b2 (aj (bH (aj (bt (aj (d9 c2 (aj (bH (aj (bt (aj (d9 d2 (aj (bj rfl))))))))))))))))))))))))))))))))))))))))))))))))
  · show (uc _ _ _ _).run=_
    unfold uc
    rw [aE,aE,aE,aE,wW h.wA h.fA (by omega),wW h.wX h.fX (by omega),wW h.wY h.fY (by omega),wW h.wV h.fV (by omega)]
    exact (bt (aj (bt (aj (bt (aj (bt (aj rfl))))))))
  · show (ud _ _ _ _ _ _ _ _ _ _ _ _ _ _ _ _ _ _ _ _ _ _ _).run=_
    unfold ud
    rw [gX,gY,gZ,gX,gY,gZ,gX,gY,gZ,gX,gY,gZ,aE,aE,aE,e1]
    exact (se (bt (se (bt (se (bt (se (aj rfl))))))))
end
def P2(k:Nat) :Int:=((2 ^ k:Nat):Int)
theorem aoJ{k m:Nat}(h:k < 64 * m) :nl (P2 k).natAbs≤m:=by
  unfold P2
  rw [Int.natAbs_natCast]
  refine jL ?_
  rw [show W ^ m=2 ^ (64 * m) by rw [Nat.pow_mul]]
  exact Nat.pow_lt_pow_right (by decide) h
theorem abz{x b t e f g:Int}{k:Nat}(hx:Sm x e)(hb:Sm b f)(ht:Sm t g)(he:f+g=e+k)(hm:Sm (b * t * P2 k) e) :
    gu (nS x) (aA (nM x) (nl (nM x))) (nE x e) 0 (nS b) (aA (nM b) (nl (nM b))) (nE b f) (nS t) (aA (nM t) (nl (nM t))) (nE t g)=some (.r0 (decide (x≤b * t * P2 k)) 0):=by
  obtain ⟨N,n1,n2,n3⟩:=Mw hb ht
  obtain ⟨q1,q2,q3⟩:=anh (b * t) k e
  rw [← he] at q3
  have c1:=alY hx hm
  have ev:decide (sgn x (b * t * P2 k)≤0)=decide (x≤b * t * P2 k):=by
    rw [Bool.eq_iff_iff,decide_eq_true_eq,decide_eq_true_eq];unfold sgn;split <;> (try split) <;> omega
  refine bc (ae (a:=(0,nS (b * t),aA (nM (b * t)) N,0,nl (nM (b * t)),nE (b * t) (f+g))) ?_ (ae (a:=(0,sgn x (b * t * P2 k))) ?_ (ae (a:=decide (x≤b * t * P2 k)) ?_ rfl)))
  · unfold Gb
    rw [aE,aE,n1]
    exact (bj (bt (bt (aj rfl))))
  · show (AD _ _ _ _ _ _ _ _ _).run=_
    unfold AD
    have c1':qx (nS x) (aA (nM x) (nl (nM x))) (nE x e) (nS (b * t)) (aA (nM (b * t)) (nl (nM (b * t)))) (nE (b * t) (f+g))=some (.r0 (sgn x (b * t * P2 k)) 0):=by
      rw [q1,q2,q3];exact c1
    rw [aE,bO n2,c1']
    exact (bj (bt (cZ (bf n2) (aj rfl))))
  · refine bH ?_
    show some (Sum.inl (decide (sgn x (b * t * P2 k)≤0)))=_
    rw [ev]
def gOK(l:List Nat)(r c m n:Nat) :Bool:=decide (T7 l r c≤bI m n * P2 4190)
def rOK(A X Y V:List Nat)(r c d:Nat)(S:Int)(m n:Nat) :Bool:=decide (T8 A X Y V r c d≤bI m n * S * P2 2042)
theorem aoK{m n:Nat}(hm:m≤512)(hn:n≤512) :Sm (bI m n) (-106):=yG (aiE hm hn) (by omega) (by omega)
theorem apT{m n:Nat}(hm:m≤512)(hn:n≤512) :Sm (bI m n * P2 4190) (-4296):=yG (k:=68) (tp (a:=2) (b:=66) (aiE hm hn) (aoJ (by omega))) (by omega) (by omega)
theorem apU{m n:Nat}{S:Int}(hm:m≤512)(hn:n≤512)(hS:nl S.natAbs≤67) :Sm (bI m n * S * P2 2042) (-4296) :=
  yG (k:=101) (tp (a:=69) (b:=32) (tp (aiE hm hn) hS) (aoJ (by omega))) (by omega) (by omega)
theorem amh{l:List Nat}{r c m n:Nat}(hw:Wd l)(hf:Fn l)(hl:l.length=r * c)(hr:r≤512)(hc:c≤512)(hm:m≤512)(hn:n≤512) :
    kr (r:Int) (c:Int) l (nS (bI m n)) (aA (nM (bI m n)) (nl (nM (bI m n)))) (nE (bI m n) (-106))=some (.r0 (gOK l r c m n) 0):=by
  obtain ⟨N,g1,g2,g3⟩:=ame hw (QL hr hc hl) (zG.2 hf)
  obtain ⟨M,w1,w2,w3⟩:=L7 (n:=1) (by omega)
  have hG:Sm (T7 l r c) (-4296):=yG (apo hw hf hl hr hc (Nat.le_refl _)) (by omega) (by omega)
  have h1:Sm 1 0:=yG (k:=1) (jL (by decide)) (by omega) (by omega)
  have hb1:bI m n * 1=bI m n:=Int.mul_one _
  have hmul:Sm (bI m n * 1 * P2 4190) (-4296):=by rw [hb1];exact apT hm hn
  have b1:=abz (k:=4190) hG (aoK hm hn) h1 (by omega) hmul
  rw [hb1] at b1
  refine bc (ae (a:=(0,nS (T7 l r c),aA (nM (T7 l r c)) N,0,nl (nM (T7 l r c)),nE (T7 l r c) (-4296))) ?_ (ae (a:=(gOK l r c m n,0)) ?_ rfl))
  · unfold Gd
    rw [aE,g1]
    exact (bt (aj rfl))
  · show (AF _ _ _ _ _ _ _ _ _).run=_
    have w1':ba 1=_:=w1
    have w2':nl (nM 1)≤M:=w2
    unfold AF
    rw [w1']
    simp only [o8,jy,il,im,io,jz]
    have b1':gu (nS (T7 l r c)) (aA (nM (T7 l r c)) (nl (nM (T7 l r c)))) (nE (T7 l r c) (-4296)) ((0:Nat):Int) (nS (bI m n)) (aA (nM (bI m n)) (nl (nM (bI m n)))) (nE (bI m n) (-106)) (nS ((1:Nat):Int)) (aA (nM ((1:Nat):Int)) (nl (nM ((1:Nat):Int)))) (nE ((1:Nat):Int) 0)=some (.r0 (gOK l r c m n) 0):=b1
    rw [bO g2,bO w2,aE,b1']
    exact (aj (cZ (bf g2) (bt (cZ (bf w2) (aj rfl)))))
theorem ami{A Z V:List Nat}{r c d m n:Nat}{S:Int}(h:QK A Z Z V r c d)(hrc:c=r)(hS:nl S.natAbs≤67)(hm:m≤512)(hn:n≤512) :
    kt (r:Int) (c:Int) A (r:Int) (d:Int) Z V (nS (bI m n)) (aA (nM (bI m n)) (nl (nM (bI m n)))) (nE (bI m n) (-106)) (nS S) (aA (nM S) (nl (nM S))) (nE S (-2148))=some (.r0 (rOK A Z Z V r c d S m n) 0):=by
  subst hrc
  obtain ⟨N,g1,g2,g3⟩:=anO h
  have hG:Sm (T8 A Z Z V c c d) (-4296):=yG (h.s (Nat.le_refl _)) (by omega) (by omega)
  have hSs:Sm S (-2148):=yG hS (by omega) (by omega)
  have b1:=abz (k:=2042) hG (aoK hm hn) hSs (by omega) (apU hm hn hS)
  refine bc (ae (a:=(0,nS (T8 A Z Z V c c d),aA (nM (T8 A Z Z V c c d)) N,0,nl (nM (T8 A Z Z V c c d)),nE (T8 A Z Z V c c d) (-4296))) ?_ (ae (a:=(rOK A Z Z V c c d S m n,0)) ?_ rfl))
  · unfold Gf
    rw [aE,aE,aE,g1]
    exact (bt (bt (bt (bt (aj rfl)))))
  · show (AG _ _ _ _ _ _ _ _ _ _ _ _).run=_
    unfold AG
    have b1':gu (nS (T8 A Z Z V c c d)) (aA (nM (T8 A Z Z V c c d)) (nl (nM (T8 A Z Z V c c d)))) (nE (T8 A Z Z V c c d) (-4296)) ((0:Nat):Int) (nS (bI m n)) (aA (nM (bI m n)) (nl (nM (bI m n)))) (nE (bI m n) (-106)) (nS S) (aA (nM S) (nl (nM S))) (nE S (-2148))=some (.r0 (rOK A Z Z V c c d S m n) 0):=b1
    rw [bO g2,aE,aE,b1']
    exact (cZ (bf g2) (bt (bt (aj rfl))))
def amj(l:List Nat) :Bool:=decide (∀ j,j < l.length - 1→flt (l.getD (j+1) 0) (l.getD j 0)=false)
theorem aiH{x y:Nat}(hx:x < Zh)(h:Ek x=true) :zk x y=some (.r0 (flt x y)) :=
  bc (ae (a:=flt x y) (d9 (ae9 hx h) rfl) rfl)
theorem aiI{l:List Nat}(hw:Wd l)(hf:Fn l)(hn:l.length≤1000000) :kR l=some (.r0 (amj l)):=by
  have step:∀ j,j < l.length - 1→flt (l.getD (l.length - 1 - j) 0) (l.getD (l.length - 2 - j) 0)=false→px l (((l.length:Nat):Int) - 1 - (j:Nat))=some (.inl (((l.length:Nat):Int) - 1 - (j+1:Nat))):=by
    intro j hj hs
    have e1:Int.toNat (((l.length:Nat):Int) - 1 - (j:Nat))=l.length - 1 - j:=by omega
    have e2:Int.toNat (((l.length:Nat):Int) - 1 - (j:Nat) - 1)=l.length - 2 - j:=by omega
    show ax (lf _ _).run _=_
    refine ae (a:=()) ?_ ?_
    · unfold lf
      rw [e1,e2,aiH (hw _) (hf _ (by omega)),hs]
      exact (dm (ai (ai (ai (ai (ai (aj (bj rfl))))))))
    · refine ai ?_
      show some (Sum.inl _)=_
      congr 2;omega
  by_cases hs:∀ j,j < l.length - 1→flt (l.getD (l.length - 1 - j) 0) (l.getD (l.length - 2 - j) 0)=false
  · have hb:amj l=true:=by
      refine decide_eq_true fun j hj=>?_
      have:=hs (l.length - 2 - j) (by omega)
      rwa [show l.length - 1 - (l.length - 2 - j)=j+1 by omega,show l.length - 2 - (l.length - 2 - j)=j by omega] at this
    rw [hb]
    refine bc (ae (a:=((l.length:Nat):Int) - 1) (ai rfl) (ae (a:=()) (cx (fun j=>((l.length:Nat):Int) - 1 - (j:Nat)) (l.length - 1) (by omega) (fun j hj=>step j hj (hs j hj)) (bR (dJ rfl))) rfl))
  · obtain ⟨k,hk,hb,hg⟩:=Mp hs
    have hbt:flt (l.getD (l.length - 1 - k) 0) (l.getD (l.length - 2 - k) 0)=true:=by
      revert hb;cases flt (l.getD (l.length - 1 - k) 0) (l.getD (l.length - 2 - k) 0) <;> simp
    have hB:amj l=false:=by
      refine decide_eq_false fun q=>?_
      have:=q (l.length - 2 - k) (by omega)
      rw [show l.length - 2 - k+1=l.length - 1 - k by omega,hbt] at this
      exact Bool.noConfusion this
    rw [hB]
    refine bc (ae (a:=((l.length:Nat):Int) - 1) (ai rfl) (bR (cx (fun j=>((l.length:Nat):Int) - 1 - (j:Nat)) k (by omega) (fun j hj=>step j (by omega) (hg j hj)) (bR ?_))))
    have e1:Int.toNat (((l.length:Nat):Int) - 1 - (k:Nat))=l.length - 1 - k:=by omega
    have e2:Int.toNat (((l.length:Nat):Int) - 1 - (k:Nat) - 1)=l.length - 2 - k:=by omega
    unfold lf
    rw [e1,e2,aiH (hw _) (hf _ (by omega)),hbt]
    exact (dm (ai (ai (ai (ai (ai (aj (bH rfl))))))))
def anP(A V Z:List Nat)(n:Nat) :Bool:=amj V && (gOK Z n n n n && rOK A Z Z V n n n (szI A) n n)
structure anQ (A V Z:List Nat) (n:Nat):Prop where
  hn:n≤512
  fit:QK A Z Z V n n n
theorem akw{A V Z:List Nat}{n:Nat}(h:anQ A V Z n) :fZ (n:Int) (n:Int) A V (n:Int) (n:Int) Z=some (.r0 (anP A V Z n) 0):=by
  have hn:=h.hn
  have f:=h.fit
  have bA:=f.bA
  have bX:=f.bX
  have bV:=f.bV
  have mA:=QL hn hn f.hA
  have mZ:=QL hn hn f.hX
  have hV:((V.length:Nat):Int)=(n:Int):=by rw [f.hV]
  obtain ⟨k1,a1,a2⟩:=IX f.wA f.fA (by omega)
  obtain ⟨k2,b1,b2⟩:=IX f.wX f.fX (by omega)
  obtain ⟨k3,c1,c2⟩:=IX f.wV f.fV (by omega)
  obtain ⟨B,d1,d2,d3⟩:=QJ hn hn
  obtain ⟨S,s1,s2,s3⟩:=aen f.wA mA (zG.2 f.fA)
  have hS:=apk f.wA f.fA (by omega)
  have t8:(E8 (n:Int) (n:Int) A V (n:Int) (n:Int) Z).run=some (.inl ()):=by
    unfold E8
    rw [aE,aE,aE,uo,uo,mA,mZ,a1,b1,c1]
    exact (bH (aj (bt (aj (bj (aj (bH (aj (bt (aj (bj (aj (bj (bj (d9 (by rw [bne_self_eq_false]) (d9 (by rw [hV,bne_self_eq_false]) (d9 (by simp) (bH (aj (bt (aj (d9 a2 (aj (bH (aj (bt (aj (d9 b2 (aj (bH (aj (bt (aj (d9 c2 (aj (bj rfl))))))))))))))))))))))))))))))))))))
  have t9:(E9 V).run=some (.inl (!(amj V))):=by
    unfold E9
    rw [aE,aiI f.wV f.fV (by omega)]
    exact (bt (aj rfl))
  unfold anP
  cases hsrt:amj V
  · rw [hsrt] at t9
    exact bc (ae t8 (ae t9 (bR (bH rfl))))
  · rw [hsrt] at t9
    have p1:=amh (m:=n) (n:=n) f.wX f.fX f.hX hn hn hn hn
    have p2:=ami (m:=n) (n:=n) f rfl hS hn hn
    refine bc (ae t8 (ae t9 (ae (a:=(0,nS (bI n n),aA (nM (bI n n)) B,0,nl (nM (bI n n)),nE (bI n n) (-106))) ?_ (ae (a:=(0,nS (szI A),aA (nM (szI A)) S,0,nl (nM (szI A)),nE (szI A) (-2148))) ?_ (ae (a:=false) (bj rfl) (ae (a:=(gOK Z n n n n && rOK A Z Z V n n n (szI A) n n,0)) ?_ rfl))))))
    · show (CO _ _).run=_
      unfold CO
      rw [d1]
      exact (bj (aj rfl))
    · show (CP _ _ _).run=_
      unfold CP
      rw [aE,s1]
      exact (bt (aj rfl))
    · show (CQ _ _ _ _ _ _ _ _ _ _ _ _ _ _ _ _ _ _ _ _).run=_
      unfold CQ
      rw [aE,aE,aE,bO d2,bO s2,p1,p2]
      simp only [vh,vP,nD,vn,vQ,nF]
      cases gOK Z n n n n
      · exact (bj (bH (aj (bt (cZ (bf d2) (aj (bH rfl)))))))
      · cases rOK A Z Z V n n n (szI A) n n
        · exact (bj (bH (aj (bt (cZ (bf d2) (aj (bj (bj (aj (bH (aj (bt (bt (bt (cZ (bf d2) (cZ (bf s2) (aj (bH rfl))))))))))))))))))
        · exact (bj (bH (aj (bt (cZ (bf d2) (aj (bj (bj (aj (bH (aj (bt (bt (bt (cZ (bf d2) (cZ (bf s2) (aj (bj (bj (aj (bj rfl)))))))))))))))))))))
end Go.Plb.Seat
namespace Go.Plb.Seat
open Go Go.Plb
set_option linter.unusedSimpArgs false
set_option linter.unusedVariables false
def kA:List Nat:=[4611686018427387904,0,0,4613937818241073152]
def kI:List Nat:=[4607182418800017408,0,0,4607182418800017408]
theorem aiJ{l:List Nat}(h:∀ x,x ∈ l→x < Zh) :Wd l:=by
  intro i
  rw [List.getD_eq_getElem?_getD]
  cases q:l[i]? with
  | none=>decide
  | some x=>exact h x (List.mem_of_getElem? q)
theorem aiK{l:List Nat}(h:∀ x,x ∈ l→Ek x=true) :Fn l:=by
  intro i hi
  rw [List.getD_eq_getElem?_getD]
  cases q:l[i]? with
  | none=>rw [List.getElem?_eq_none_iff] at q;omega
  | some x=>exact h x (List.mem_of_getElem? q)
theorem apq{V:List Nat}(hV:V.length=2)(wV:∀ x,x ∈ V→x < Zh)(fV:∀ x,x ∈ V→Ek x=true) :anQ kA V kI 2 :=
  ⟨by omega,rfl,rfl,rfl,hV,by omega,by omega,by omega,aiJ (by decide),aiJ (by decide),aiJ (by decide),aiJ wV,aiK (by decide),aiK (by decide),aiK (by decide),aiK fV⟩
theorem ap3:mj 2=some (.r0 2 4 kI):=by
  refine bc (ae (a:=(4,[0,0,0,0])) (aj (aj (aj (aj (aj rfl))))) (ae (a:=kI) (cx (fun j=>(j,bif Nat.beq j 0 then [0,0,0,0] else bif Nat.beq j 1 then [4607182418800017408,0,0,0] else kI)) 2 rfl (fun j hj=>?_) ?_) rfl))
  · have:j=0∨j=1:=by omega
    rcases this with rfl | rfl
    · exact (bH (aj (aj (aj (aj (aj rfl))))))
    · exact (bH (aj (aj (aj (aj (aj rfl))))))
  · exact (bj rfl)
theorem kx:anP kA [4611686018427387904,4613937818241073152] kI 2=true:=by decide +kernel
theorem ky:anP kA [4613937818241073152,4611686018427387904] kI 2=false:=by decide +kernel
theorem kz:anP kA [4611686018427387904,4613940070040886837] kI 2=false:=by decide +kernel
theorem ksz:szI [4613937818241073152,4616189618054758400]=25 * P2 2148:=by decide +kernel
theorem apr{v:Nat}(h0:v ≠ 0)(h:v < W) :nl v=1:=by
  have h1:=jL (n:=1) (by rw [Nat.pow_one];exact h)
  have h2:=Bc h0
  omega
theorem kb:nS (bI 1 1)=false∧nM (bI 1 1)=1∧nE (bI 1 1) (-106) = -94:=by
  have e:bI 1 1=4096:=by decide
  have t:tz 4096=12:=Mr (by decide) (by decide)
  rw [e]
  refine ⟨by decide,?_,?_⟩
  · show 4096 / 2 ^ tz 4096=1
    rw [t]
  · rw [jP (by decide)]
    show -106+((tz 4096:Nat):Int) = -94
    rw [t];rfl
theorem akx:i4=some (.r0 true):=by
  have fx:=apq (V:=[4611686018427387904,4613937818241073152]) rfl (by decide) (by decide)
  have fy:=apq (V:=[4613937818241073152,4611686018427387904]) rfl (by decide) (by decide)
  have fz':=apq (V:=[4611686018427387904,4613940070040886837]) rfl (by decide) (by decide)
  have sx:=akw fx
  have sy:=akw fy
  have sz:=akw fz'
  rw [kx] at sx
  rw [ky] at sy
  rw [kz] at sz
  obtain ⟨B,b1,b2,b3⟩:=QJ (m:=1) (n:=1) (by omega) (by omega)
  obtain ⟨S,s1,s2,s3⟩:=aen (r:=1) (c:=2) (l:=[4613937818241073152,4616189618054758400]) (aiJ (by decide)) (by decide) (zG.2 (aiK (by decide)))
  obtain ⟨k1,k2,k3⟩:=kb
  obtain ⟨q1,q2,q3⟩:=anh 25 2148 (-2148)
  have q4:szI [4613937818241073152,4616189618054758400]=25 * ((2 ^ 2148:Nat):Int):=ksz
  rw [← q4] at q1 q2 q3
  rw [show (-2148:Int)+((2148:Nat):Int)=0 by omega] at q3
  rw [← q1,← q2,← q3] at s1
  rw [← q2] at s2
  have w1:=Xr (n:=25) (by omega)
  have h1:gw (-94)=some (.r0 0 false 1 (-94) [1]):=rfl
  have one1:aA 1 (nl 1) = [(1:Int)]:=by rw [apr (by decide) (by decide)];rfl
  have m25:nl (nM (25:Int))≤1:=Nat.le_trans aoC (jL (by decide))
  refine bc (ae (a:=(2,4,kA,kI)) ?_ (ae (a:=(true,0)) ?_ (ae (a:=(false,0)) ?_ (ae (a:=(false,0)) ?_ (ae (a:=(0,nS (bI 1 1),aA (nM (bI 1 1)) B,0,nl (nM (bI 1 1)),nE (bI 1 1) (-106))) ?_ (ae (a:=(false,[1],1,-94)) ?_ (ae (a:=(0,nS 25,aA (nM 25) S,0,nl (nM 25),nE 25 0)) ?_ (ae (a:=true) ?_ rfl))))))))
  · unfold BF
    rw [ap3]
    exact (aj rfl)
  · show (vU _ _ _ _).run=_
    unfold vU
    have sx':fZ 2 2 (aa 0 4 kA) (aa 0 2 [4611686018427387904,4613937818241073152]) 2 2 (aa 0 4 kI)=some (.r0 true 0):=sx
    rw [sx']
    exact (aj (aj (aj (aj rfl))))
  · show (vV _ _ _ _).run=_
    unfold vV
    have sx':fZ 2 2 (aa 0 4 kA) (aa 0 2 [4613937818241073152,4611686018427387904]) 2 2 (aa 0 4 kI)=some (.r0 false 0):=sy
    rw [sx']
    exact (aj (aj (aj (aj rfl))))
  · show (vW _ _ _ _).run=_
    unfold vW
    have sx':fZ 2 2 (aa 0 4 kA) (aa 0 2 [4611686018427387904,4613940070040886837]) 2 2 (aa 0 4 kI)=some (.r0 false 0):=sz
    rw [sx']
    exact (aj (aj (aj (aj rfl))))
  · show vX.run=_
    have b1':bB 1 1=_:=b1
    unfold vX
    rw [b1']
    exact (aj rfl)
  · show vY.run=_
    unfold vY
    rw [h1]
    exact (aj rfl)
  · show vZ.run=_
    have s1':cQ 1 2 (aa 0 2 [4613937818241073152,4616189618054758400])=_:=s1
    unfold vZ
    rw [s1']
    exact (aj (aj rfl))
  · show (v3 _ _ _ _ _ _ _ _ _ _ _ _ _ _ _ _ _ _ _ _ _ _).run=_
    unfold v3
    have w1':ca 25=some (.r0 (nS 25) (aA (nM 25) (nl (nM 25))) (nl (nM 25)) (nE 25 0)):=w1
    have c1:aa 0 1 [(1:Int)] = [1]:=rfl
    have l1:aA 1 1 = [(1:Int)]:=rfl
    rw [bO b2,k1,k2,k3,one1,c1,w1']
    simp only [pS,mI,j1,j2,mJ]
    rw [bO s2,dR ay,Vc (nS 25) (nE 25 0) (n:=nl (nM 25)) (by omega),← l1,Vc false (-94) (by omega)]
    refine (bH (bH (bH (bH (bH (bH (bH (bH (cZ (bf (by rw [k2] at b2;exact b2)) (aj (aj (bH (aj (cZ (bf s2) (jN (aj rfl))))))))))))))))
end Go.Plb.Seat
namespace Go.Plb.Seat
open Go Go.Plb
set_option linter.unusedSimpArgs false
set_option linter.unusedVariables false
theorem aky:k8 false [] 0 [] 0=some (.r0 true):=by
  have h:lT [] []=some (.r0 true):=aem (v:=0) (n:=0) (by omega)
  refine bc (ae (a:=true) ?_ rfl)
  unfold zr
  rw [aE,h]
  exact (bH (bt (bt (aj (bH rfl)))))
end Go.Plb.Seat
namespace Go.Plb.Seat
open Go Go.Plb
set_option linter.unusedSimpArgs false
set_option linter.unusedVariables false
def tv(A:List Nat)(r c p:Nat) :Nat:=A.getD ((p % r) * c+p / r) 0
theorem aoL{A:List Nat}{r c i k:Nat}(h:i < r) :tv A r c (k * r+i)=A.getD (i * c+k) 0:=by
  obtain ⟨q1,q2⟩:=pq (i:=k) h
  unfold tv;rw [q1,q2]
theorem aps{f:Nat→Nat}{n:Nat} :List.take n (fh f n) ++ List.take 1 [f n]=fh f (n+1):=alK
theorem aiL{A:List Nat}{r c:Nat}(hl:A.length=r * c)(hr:r≤512)(hc:c≤512) :
    dN (r:Int) (c:Int) A=some (.r0 0 (c:Int) (r:Int) (c * r) (c * r) (fh (tv A r c) (c * r))):=by
  have hb:r * c≤512 * 512:=Nat.mul_le_mul hr hc
  have m:=QL hr hc hl
  refine bc (ae (a:=false) ?_ (ae (a:=()) rfl (ae (a:=(c * r,c * r,fh (tv A r c) (c * r))) (cx (fun k=>(k,k * r,k * r,fh (tv A r c) (k * r))) c (by rw [Nat.zero_mul];rfl) (fun k hk=>?_) ?_) rfl)))
  · unfold v4
    rw [aE,uo,m]
    exact (bH (aj (bt (aj (bj (aj (bj rfl)))))))
  · show ax (v5 _ _ _ _ _).run _=_
    have hnx:(k+1) * r=k * r+r:=by rw [Nat.add_mul,Nat.one_mul]
    have hkr:k * r≤512 * 512:=Nat.mul_le_mul (by omega) hr
    refine ae (a:=()) (dm rfl) (ae (a:=((k+1) * r,(k+1) * r,fh (tv A r c) ((k+1) * r))) (JN (ae (a:=()) rfl (ae (a:=(k * r+r,k * r+r,fh (tv A r c) (k * r+r))) (cx (fun i=>(i,k * r+i,k * r+i,fh (tv A r c) (k * r+i))) r rfl (fun i hi=>?_) ?_) (by rw [hnx];rfl)))) (ai rfl))
    · have hlt:i * c+k < A.length:=by rw [hl];exact Fi hi hk
      show (v7 _ _ _ _ _ _ _ _).run=_
      unfold v7
      rw [Yn,T6,cy,← aoL hi,aps,eB]
      exact (dm (ai (ai (ai (ai (ai (ai (aj (ai (ai rfl))))))))))
    · exact dJ rfl
  · show ax (v5 _ _ _ _ _).run _=_
    exact bR (dJ rfl)
theorem akz{r c:Int}{A:List Nat}(h:T5 r c A.length=false) :dN r c A=some (.r0 2 0 0 0 0 []):=by
  refine bc (ae (a:=true) ?_ (bR (bH rfl)))
  unfold v4
  rw [aE,uo,h]
  exact (bH (aj (bt (aj (bH rfl)))))
def tf(A:List Nat)(r c i k:Nat) :List Nat:=fh (fun p=>if p % r < i∨(p % r=i∧p / r < k) then tv A r c p else 0) (c * r)
theorem apt{A:List Nat}{r c i k:Nat}(hi:i < r)(hk:k < c) :(tf A r c i k).set (k * r+i) (A.getD (i * c+k) 0)=tf A r c i (k+1):=by
  obtain ⟨q1,q2⟩:=pq (i:=k) hi
  unfold tf
  rw [tn (Fi hk hi)]
  refine cr fun p _=>?_
  by_cases e:p=k * r+i
  · rw [if_pos e,e,if_pos (.inr ⟨q2,by rw [q1];omega⟩),aoL hi]
  · rw [if_neg e]
    by_cases h1:p % r < i∨(p % r=i∧p / r < k)
    · rw [if_pos h1,if_pos (by rcases h1 with q | ⟨q,w⟩;exact .inl q;exact .inr ⟨q,by omega⟩)]
    · rw [if_neg h1,if_neg]
      intro h2
      apply h1
      rcases h2 with q | ⟨q,w⟩
      · exact .inl q
      · refine .inr ⟨q,?_⟩
        rcases Nat.lt_or_ge (p / r) k with z | z
        · exact z
        · exfalso;apply e
          have e1:p / r=k:=by omega
          have e2:=Nat.div_add_mod p r
          rw [e1,q,Nat.mul_comm] at e2
          exact e2.symm
theorem aoo{A:List Nat}{r c i:Nat} :tf A r c i c=tf A r c (i+1) 0:=by
  refine cr fun p hp=>?_
  have h2:p / r < c:=Nat.div_lt_of_lt_mul (by rw [Nat.mul_comm];exact hp)
  by_cases h:p % r < i+1
  · have h1:p % r < i∨(p % r=i∧p / r < c):=by
      by_cases q:p % r < i
      · exact .inl q
      · exact .inr ⟨by omega,h2⟩
    rw [if_pos h1,if_pos (.inl h)]
  · rw [if_neg (by intro h1;rcases h1 with q | ⟨q,_⟩ <;> omega),if_neg (by intro h1;rcases h1 with q | ⟨q,w⟩;exact h q;exact Nat.not_lt_zero _ w)]
theorem agH{A:List Nat}{r c:Nat}(hl:A.length=r * c)(hr:r≤512)(hc:c≤512) :
    cM (r:Int) (c:Int) A=some (.r0 (c:Int) (r:Int) (c * r) (fh (tv A r c) (c * r))):=by
  have hb:r * c≤512 * 512:=Nat.mul_le_mul hr hc
  have hl':A.length=c * r:=by rw [hl,Nat.mul_comm]
  have e0:tf A r c 0 0=List.replicate A.length 0:=by
    rw [qO,hl']
    exact cr fun p _=>if_neg (by intro h;rcases h with q | ⟨_,q⟩;exact Nat.not_lt_zero _ q;exact Nat.not_lt_zero _ q)
  have en:tf A r c r 0=fh (tv A r c) (c * r):=by
    refine cr fun p hp=>if_pos (.inl (Nat.mod_lt _ ?_))
    rcases Nat.eq_zero_or_pos r with q | q
    · subst q;omega
    · exact q
  have tl:∀ i k,(tf A r c i k).length=A.length:=fun i k=>by rw [hl'];exact eB
  refine bc (ae (a:=tf A r c 0 0) ?_ (ae (a:=tf A r c r 0) (cx (fun i=>(i,tf A r c i 0)) r rfl (fun i hi=>?_) ?_) (by rw [en,← hl'];rfl)))
  · unfold zD
    rw [e0]
    exact (ai (ai (ai (ai rfl))))
  · show ax (uk _ _ _).run _=_
    refine ae (a:=()) (dm rfl) (ae (a:=tf A r c (i+1) 0) (JN (ae (a:=()) rfl (ae (a:=tf A r c i c) (cx (fun k=>(k,tf A r c i k)) c rfl (fun k hk=>?_) ?_) (by rw [← aoo];rfl)))) (ai rfl))
    · have h1:i * c+k < r * c:=Fi hi hk
      have h2:k * r+i < c * r:=Fi hk hi
      have h2':k * r+i < A.length:=by rw [hl'];exact h2
      show (um _ _ _ _ _ _).run=_
      unfold um
      rw [Yn,Yn,T6,T6,cy,cy,apt hi hk,tl]
      rw [hl] at h2' ⊢
      exact (dm (ai (ai (ai (ai (ai (ai (ai (ai (ai rfl))))))))))
    · exact dJ rfl
  · show ax (uk _ _ _).run _=_
    exact bR (dJ rfl)
theorem agI{l:List Nat}(h:l.length≤1000000) :nL l l=some (.r0 true):=by
  refine bc (ae (a:=()) (d9 (by simp) rfl) (ae (a:=()) (cx (fun i=>i) l.length rfl (fun j hj=>?_) ?_) rfl))
  · show (ui _ _ _).run=_
    unfold ui
    rw [ajm]
    exact (dm (ai (ai (ai (ai (bj (ai rfl)))))))
  · exact dJ rfl
theorem abA{l:List Nat}(r c:Int)(h:l.length≤1000000) :lZ r c l r c l=some (.r0 true):=by
  refine bc (ae (a:=true) ?_ rfl)
  unfold Gq
  rw [aE,agI h]
  exact (rW (by rw [beq_self_eq_true]) (rW (by rw [beq_self_eq_true]) (bt (bt (aj rfl)))))
theorem akA{m n a0 a1:Int}{A:List Nat} :Ei m n a0 a1 A=some (.r0 true):=by
  have k:=akx
  by_cases hA:A.length > 400
  · refine bc (bR ?_)
    unfold s5
    rw [k]
    exact (rW (by rw [decide_eq_true_eq];omega) (aj rfl))
  refine bc (ae (a:=()) (d9 (by rw [decide_eq_false_iff_not];omega) rfl) ?_)
  have first:∀ (K:Unit→Option (Empty⊕cC)),(ax (kM m n).run fun (e1,b2,l3,a4,a5,i6)=>ax ((iR m n).run) fun b7=>ax ((f5 m n e1 b2 l3 a4 a5 i6 b7).run) K)=K ():=by
    intro K
    by_cases hmn:0≤m∧m≤512∧0≤n∧n≤512
    · obtain ⟨p,hp⟩:∃ p:Nat,m=p:=⟨m.toNat,by omega⟩
      obtain ⟨q,hq⟩:∃ q:Nat,n=q:=⟨n.toNat,by omega⟩
      subst hp;subst hq
      obtain ⟨B,b1,b2,b3⟩:=QJ (m:=p) (n:=q) (by omega) (by omega)
      have rb:=aiG (m:=p) (n:=q) (by omega) (by omega)
      refine ae (a:=(0,nS (bI p q),aA (nM (bI p q)) B,0,nl (nM (bI p q)),nE (bI p q) (-106))) ?_ (ae (a:=false) ?_ (ae (a:=()) ?_ rfl))
      · unfold kM
        rw [b1]
        exact (aj rfl)
      · show (iR _ _).run=_
        refine (d9 (by rw [decide_eq_false_iff_not];omega) (d9 (by rw [decide_eq_false_iff_not];omega) (d9 (by rw [decide_eq_false_iff_not];omega) ?_)))
        show some (Sum.inl (decide _))=_
        rw [decide_eq_false (by omega)]
      · show (f5 _ _ _ _ _ _ _ _ _).run=_
        unfold f5
        rw [rb]
        simp only [s4,pV,mL,mM,pW]
        rw [bO b2,dR ay,Vc _ _ (by omega)]
        exact (bj (bj (aj (cZ (bf b2) (jN (aj (bj rfl)))))))
    · have bb:=amc hmn
      refine ae (a:=(2,false,[],0,0,0)) ?_ (ae (a:=true) ?_ (ae (a:=()) ?_ rfl))
      · unfold kM
        rw [bb]
        exact (aj rfl)
      · show (iR _ _).run=_
        unfold iR
        by_cases h1:m < 0
        · exact rW (decide_eq_true h1) rfl
        by_cases h2:m > 512
        · exact d9 (decide_eq_false h1) (rW (decide_eq_true h2) rfl)
        by_cases h3:n < 0
        · exact d9 (decide_eq_false h1) (d9 (decide_eq_false h2) (rW (decide_eq_true h3) rfl))
        refine d9 (decide_eq_false h1) (d9 (decide_eq_false h2) (d9 (decide_eq_false h3) ?_))
        show some (Sum.inl (decide (n > 512)))=_
        rw [decide_eq_true (by omega)]
      · have s2:k8 false (aa 0 0 []) 0 [] 0=some (.r0 true):=aky
        show (f5 _ _ _ _ _ _ _ _ _).run=_
        unfold f5
        rw [s2]
        exact (bH (bj (aj (aj (bj rfl)))))
  refine Eq.trans (first _) ?_
  by_cases hm:T5 a0 a1 A.length=false
  · refine ae (a:=(2,0,0,[],0)) ?_ (ae (a:=true) ?_ (bR ?_))
    · unfold oY
      rw [aE,akz hm]
      exact (bt (aj rfl))
    · show (iS _ _ _).run=_
      unfold iS
      rw [aE,abx,hm]
      exact (bt (aj rfl))
    · have s9:lZ 0 0 (aa 0 0 []) 0 0 []=some (.r0 true):=abA 0 0 (l:=[]) (by decide)
      show (oZ _ _ _ _ _ _).run=_
      unfold oZ
      rw [s9,k]
      exact (bH (bH (aj (aj (bH (aj rfl))))))
  rw [Bool.not_eq_false] at hm
  obtain ⟨r,c,rfl,rfl,hr,hc,hl,_⟩:=alf hm
  have hb:c * r≤512 * 512:=Nat.mul_le_mul hc hr
  have t1:=aiL hl hr hc
  have t2:=agH hl hr hc
  have tl:(fh (tv A r c) (c * r)).length=c * r:=eB
  refine ae (a:=(0,(c:Int),(r:Int),fh (tv A r c) (c * r),c * r)) ?_ (ae (a:=false) ?_ (ae (a:=()) rfl (ae (a:=true) ?_ rfl)))
  · unfold oY
    rw [aE,t1]
    exact (bt (aj rfl))
  · show (iS _ _ _).run=_
    unfold iS
    rw [aE,abx,hm]
    exact (bt (aj rfl))
  · show (o0 _ _ _ _ _ _ _ _).run=_
    unfold o0
    rw [aE,t2]
    simp only [rj,oW,oX,kT,kU]
    rw [dR tl,abA _ _ (by rw [tl];omega),k]
    exact (bH (bt (aj (cZ (Yl tl) (cZ (Yl tl) (aj (bH (aj rfl))))))))
end Go.Plb.Seat
