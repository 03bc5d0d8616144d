/-
  Part 5 of what the claim leans on: an evaluator of the model, proved sound; the contracts of the functions.
-/
import Derived.Test.YthikcnkmglbbbaaGreatDoorA4
namespace Go.Plb.Seat
open Go Go.Plb
set_option linter.unusedVariables false
set_option maxRecDepth 100000
noncomputable section
inductive c8 where
  | r0 (a:Nat) (b:Bool) (c:List Int) (d:Nat) (e:Nat) (f:Int)
def rZ:c8→AE×aM
  | .r0 a b c d e f=>(.ret,⟨an 78 [(8,.ptr 0 1 0 0),(9,.int .i64 ((a:Nat):Int))],[(0,.vs [.bool false b,.imm .free (.ns .u64 c) 1 1 d e,.int .i64 f])],1⟩)
theorem Ac:l9 rZ:=by intro x;cases x <;> (intro h;cases h)
def Cr:c8→jv
  | .r0 a b c d e f=>⟨.tup [.agg [.bool false b,.imm .free (.ns .u64 c) 1 1 d e,.int .i64 f],.int .i64 ((a:Nat):Int)],[]⟩
def uG:List Code:=bS (bB iE)
def Ie(e:Int)(f:Int)(g:Lv)(a:List Nat)(h:Int)(i:Int)(j:Lv)(b:List Nat)(k:Int)(l:Int)(m:Lv)(c:List Nat)(n:Lv)(d:List Nat)(o:Bool) :aM:=⟨an 78 [(3,.imm n (.fl d) 1 1 0 (List.length d)),(4,.ptr 0 1 0 0),(5,.ptr 1 1 0 0),(6,.ptr 2 1 0 0),(8,.ptr 3 1 0 0)],[(0,.vs [.int .i64 e,.int .i64 f,.imm g (.fl a) 1 1 0 (List.length a)]),(1,.vs [.int .i64 h,.int .i64 i,.imm j (.fl b) 1 1 0 (List.length b)]),(2,.vs [.int .i64 k,.int .i64 l,.imm m (.fl c) 1 1 0 (List.length c)]),(3,.vs [.bool false o,.nsl,.int .i64 (0:Int)])],4⟩
def cP(f : Int)(g : Int)(a : List Nat)(h : Int)(e : Int)(b : List Nat)(i : Int)(j : Int)(c : List Nat)(d : List Nat) : T ((Bool) ⊕ (c8)) :=
  .ask (decide ((0 : Int) < (3 : Int)))
    (.need (iC (0 : Int) 3) <| .need (aR 0 (List.length a) a) <| .need (jz (d4 f g (aa 0 (List.length a) a))) <| .ask (iT (d4 f g (aa 0 (List.length a) a)))
      (.ask (!(!(decide ((0:Int) ≥ (0:Int)))))
        (.leaf (.inr (.r0 2 false ([]:List Int) 0 0 (0:Int))))
        (.fail))
      (.need (ej .i64 (1 : Int)) <| .ask (decide ((1 : Int) < (3 : Int)))
        (.need (iC (1 : Int) 3) <| .need (aR 0 (List.length b) b) <| .need (jz (d4 h e (aa 0 (List.length b) b))) <| .ask (iT (d4 h e (aa 0 (List.length b) b)))
          (.ask (!(!(decide ((1:Int) ≥ (0:Int)))))
            (.leaf (.inr (.r0 2 false ([]:List Int) 0 0 (0:Int))))
            (.fail))
          (.need (ej .i64 (2 : Int)) <| .ask (decide ((2 : Int) < (3 : Int)))
            (.need (iC (2 : Int) 3) <| .need (aR 0 (List.length c) c) <| .need (jz (d4 i j (aa 0 (List.length c) c))) <| .ask (iT (d4 i j (aa 0 (List.length c) c)))
              (.ask (!(!(decide ((2:Int) ≥ (0:Int)))))
                (.leaf (.inr (.r0 2 false ([]:List Int) 0 0 (0:Int))))
                (.fail))
              (.need (ej .i64 (3:Int))<|.ask (decide ((3:Int) < (3:Int)))
                (.fail)
                (.ask (!(!(decide ((-1:Int) ≥ (0:Int)))))
                  (.fail)
                  (.ask (!(h == g && e == e))
                    (.leaf (.inr (.r0 8 false ([]:List Int) 0 0 (0:Int))))
                    (.ask (!(i == f && j == e))
                      (.leaf (.inr (.r0 8 false ([]:List Int) 0 0 (0:Int))))
                      (.ask ((((List.length d):Nat):Int) != e)
                        (.leaf (.inr (.r0 8 false ([]:List Int) 0 0 (0:Int))))
                        (.ask (decide ((0:Int) < (4:Int)))
                          (.need (iC (0 : Int) 4) <| .need (aR 0 (List.length a) a) <| .need (aZ (az (aa 0 (List.length a) a))) <| .ask (decide ((bb (az (aa 0 (List.length a) a))) ≥ (0 : Int)))
                            (.leaf (.inr (.r0 10 false ([]:List Int) 0 0 (0:Int))))
                            (.need (ej .i64 (1:Int))<|.ask (decide ((1:Int) < (4:Int)))
                              (.need (iC (1:Int) 4)<|.need (aR 0 (List.length b) b)<|.need (aZ (az (aa 0 (List.length b) b)))<|.ask (decide ((bb (az (aa 0 (List.length b) b))) ≥ (0:Int)))
                                (.leaf (.inr (.r0 10 false ([]:List Int) 0 0 (0:Int))))
                                (.need (ej .i64 (2:Int))<|.ask (decide ((2:Int) < (4:Int)))
                                  (.need (iC (2:Int) 4)<|.need (aR 0 (List.length c) c)<|.need (aZ (az (aa 0 (List.length c) c)))<|.ask (decide ((bb (az (aa 0 (List.length c) c))) ≥ (0:Int)))
                                    (.leaf (.inr (.r0 10 false ([]:List Int) 0 0 (0:Int))))
                                    (.need (ej .i64 (3:Int))<|.ask (decide ((3:Int) < (4:Int)))
                                      (.need (iC (3:Int) 4)<|.need (aR 0 (List.length d) d)<|.need (aZ (az (aa 0 (List.length d) d)))<|.ask (decide ((bb (az (aa 0 (List.length d) d))) ≥ (0:Int)))
                                        (.leaf (.inr (.r0 10 false ([]:List Int) 0 0 (0:Int))))
                                        (.need (ej .i64 (4:Int))<|.ask (decide ((4:Int) < (4:Int)))
                                          (.fail)
                                          (.leaf (.inl false))))
                                      (.fail)))
                                  (.fail)))
                              (.fail)))
                          (.fail))))))))
            (.fail)))
        (.fail)))
    (.fail)
def If(h:Int)(i:Int)(j:Lv)(a:List Nat)(k:Int)(l:Int)(m:Lv)(b:List Nat)(n:Int)(o:Int)(p:Lv)(c:List Nat)(q:Bool) :Nat×(List Bool)×(List (List Int))×(List Int)×Nat×(List Bool)×(List (List Int))×(List Int)×Nat×(List Bool)×(List (List Int))×(List Int)×Nat×(List Bool)×(List (List Int))×(List Int)→aM:=fun (d,r,s,t,e,u,v,w,f,x,y,z,g,A,B,C)=>⟨an 78 [(4,.ptr 0 1 0 0),(5,.ptr 1 1 0 0),(6,.ptr 2 1 0 0),(8,.ptr 3 1 0 0),(10,.ptr 4 1 0 0),(11,.ptr 5 1 0 0),(12,.ptr 6 1 0 0),(13,.ptr 7 1 0 0)],[(0,.vs [.int .i64 h,.int .i64 i,.imm j (.fl a) 1 1 0 (List.length a)]),(1,.vs [.int .i64 k,.int .i64 l,.imm m (.fl b) 1 1 0 (List.length b)]),(2,.vs [.int .i64 n,.int .i64 o,.imm p (.fl c) 1 1 0 (List.length c)]),(3,.vs [.bool false q,.nsl,.int .i64 (0:Int)]),(4,.vs [.imm .free (.cols d [.cb r,.cns .u64 s,.ci .i64 t]) 3 3 0 d]),(5,.vs [.imm .free (.cols e [.cb u,.cns .u64 v,.ci .i64 w]) 3 3 0 e]),(6,.vs [.imm .free (.cols f [.cb x,.cns .u64 y,.ci .i64 z]) 3 3 0 f]),(7,.vs [.imm .free (.cols g [.cb A,.cns .u64 B,.ci .i64 C]) 3 3 0 g])],8⟩
def uH(a:List Nat)(b:List Nat)(c:List Nat)(d:List Nat) :T ((Nat×(List Bool)×(List (List Int))×(List Int)×Nat×(List Bool)×(List (List Int))×(List Int)×Nat×(List Bool)×(List (List Int))×(List Int)×Nat×(List Bool)×(List (List Int))×(List Int))⊕(c8)) :=
  .need (aR 0 (List.length a) a)<|.need (jA (aA (aa 0 (List.length a) a)))<|.need (aR 0 (List.length b) b)<|.need (jA (aA (aa 0 (List.length b) b)))<|.need (aR 0 (List.length c) c)<|.need (jA (aA (aa 0 (List.length c) c)))<|.need (aR 0 (List.length d) d)<|.need (jA (aA (aa 0 (List.length d) d)))<|.leaf (.inl ((aW (aA (aa 0 (List.length a) a))),(dD (aA (aa 0 (List.length a) a))),(dE (aA (aa 0 (List.length a) a))),(dF (aA (aa 0 (List.length a) a))),(aW (aA (aa 0 (List.length b) b))),(dD (aA (aa 0 (List.length b) b))),(dE (aA (aa 0 (List.length b) b))),(dF (aA (aa 0 (List.length b) b))),(aW (aA (aa 0 (List.length c) c))),(dD (aA (aa 0 (List.length c) c))),(dE (aA (aa 0 (List.length c) c))),(dF (aA (aa 0 (List.length c) c))),(aW (aA (aa 0 (List.length d) d))),(dD (aA (aa 0 (List.length d) d))),(dE (aA (aa 0 (List.length d) d))),(dF (aA (aa 0 (List.length d) d)))))
def Ig:Nat×Bool×(List Int)×Nat×Nat×Int→aM:=fun (a,b,c,d,e,f)=>⟨an 78 [(8,.ptr 0 1 0 0),(9,.int .i64 ((a:Nat):Int))],[(0,.vs [.bool false b,.imm .free (.ns .u64 c) 1 1 d e,.int .i64 f])],1⟩
def uI(i:Int)(e:List Nat)(j:Int)(f:List Nat)(k:Int)(h:Int)(g:List Nat)(a:Nat)(l:List Bool)(m:List (List Int))(n:List Int)(b:Nat)(o:List Bool)(p:List (List Int))(q:List Int)(c:Nat)(r:List Bool)(s:List (List Int))(t:List Int)(d:Nat)(u:List Bool)(v:List (List Int))(w:List Int) :T ((Nat×Bool×(List Int)×Nat×Nat×Int)⊕(c8)) :=
  .need (Nat.ble (0+a) a)<|.need (aR 0 (List.length e) e)<|.need (Nat.ble (0+b) b)<|.need (aR 0 (List.length f) f)<|.need (Nat.ble (0+c) c)<|.need (aR 0 (List.length g) g)<|.need (Nat.ble (0+d) d)<|.need (fq (aU k h a (aa 0 a l) (aa 0 a m) (aa 0 a n) i (aa 0 (List.length e) e) b (aa 0 b o) (aa 0 b p) (aa 0 b q) j (aa 0 (List.length f) f) c (aa 0 c r) (aa 0 c s) (aa 0 c t) h (aa 0 (List.length g) g) d (aa 0 d u) (aa 0 d v) (aa 0 d w)))<|.leaf (.inl ((gZ (aU k h a (aa 0 a l) (aa 0 a m) (aa 0 a n) i (aa 0 (List.length e) e) b (aa 0 b o) (aa 0 b p) (aa 0 b q) j (aa 0 (List.length f) f) c (aa 0 c r) (aa 0 c s) (aa 0 c t) h (aa 0 (List.length g) g) d (aa 0 d u) (aa 0 d v) (aa 0 d w))),(g5 (aU k h a (aa 0 a l) (aa 0 a m) (aa 0 a n) i (aa 0 (List.length e) e) b (aa 0 b o) (aa 0 b p) (aa 0 b q) j (aa 0 (List.length f) f) c (aa 0 c r) (aa 0 c s) (aa 0 c t) h (aa 0 (List.length g) g) d (aa 0 d u) (aa 0 d v) (aa 0 d w))),(g6 (aU k h a (aa 0 a l) (aa 0 a m) (aa 0 a n) i (aa 0 (List.length e) e) b (aa 0 b o) (aa 0 b p) (aa 0 b q) j (aa 0 (List.length f) f) c (aa 0 c r) (aa 0 c s) (aa 0 c t) h (aa 0 (List.length g) g) d (aa 0 d u) (aa 0 d v) (aa 0 d w))),(g7 (aU k h a (aa 0 a l) (aa 0 a m) (aa 0 a n) i (aa 0 (List.length e) e) b (aa 0 b o) (aa 0 b p) (aa 0 b q) j (aa 0 (List.length f) f) c (aa 0 c r) (aa 0 c s) (aa 0 c t) h (aa 0 (List.length g) g) d (aa 0 d u) (aa 0 d v) (aa 0 d w))),(g8 (aU k h a (aa 0 a l) (aa 0 a m) (aa 0 a n) i (aa 0 (List.length e) e) b (aa 0 b o) (aa 0 b p) (aa 0 b q) j (aa 0 (List.length f) f) c (aa 0 c r) (aa 0 c s) (aa 0 c t) h (aa 0 (List.length g) g) d (aa 0 d u) (aa 0 d v) (aa 0 d w))),(g9 (aU k h a (aa 0 a l) (aa 0 a m) (aa 0 a n) i (aa 0 (List.length e) e) b (aa 0 b o) (aa 0 b p) (aa 0 b q) j (aa 0 (List.length f) f) c (aa 0 c r) (aa 0 c s) (aa 0 c t) h (aa 0 (List.length g) g) d (aa 0 d u) (aa 0 d v) (aa 0 d w)))))
def Ih(a:Nat)(b:Bool)(c:List Int)(d:Nat)(e:Nat)(f:Int) :T ((Empty)⊕(c8)) :=
  .leaf (.inr (.r0 a b c d e f))
def bN(i:Int)(d:Int)(a:List Nat)(j:Int)(e:Int)(b:List Nat)(f:Int)(g:Int)(c:List Nat)(h:List Nat) :Option c8:=me (aH ((cP i d a j e b f g c h).run) fun G =>
  aH ((uH a b c h).run) fun (k,l,m,n,o,p,q,r,s,t,u,v,w,x,y,z) =>
  aH ((uI d a e b f g c k l m n o p q r s t u v w x y z).run) fun (A,B,C,D,E,F) =>
  (Ih A B C D E F).run)
theorem VN(k:Int)(e:Int)(m:Lv)(b:List Nat)(l:Int)(f:Int)(n:Lv)(c:List Nat)(g:Int)(i:Int)(o:Lv)(d:List Nat)(p:Lv)(j:List Nat){x:c8}(h:bN k e b l f c g i d j=some x) :ax prog iE [] [.agg [.int .i64 k,.int .i64 e,.imm m (.fl b) 1 1 0 (List.length b)],.agg [.int .i64 l,.int .i64 f,.imm n (.fl c) 1 1 0 (List.length c)],.agg [.int .i64 g,.int .i64 i,.imm o (.fl d) 1 1 0 (List.length d)],.imm p (.fl j) 1 1 0 (List.length j)] (Cr x) :=
  Sg.contract true Cr (by kernel_rfl:prog.funcs[iE]? = some (FN iE)) (by kernel_rfl:(FN iE).body=some (bB iE)) (Sg.cut 2 Ac (Sg.seg (C:=C0) ap dH 60 (uG.take 2) (aT (FN iE) [] [.agg [.int .i64 k,.int .i64 e,.imm m (.fl b) 1 1 0 (List.length b)],.agg [.int .i64 l,.int .i64 f,.imm n (.fl c) 1 1 0 (List.length c)],.agg [.int .i64 g,.int .i64 i,.imm o (.fl d) 1 1 0 (List.length d)],.imm p (.fl j) 1 1 0 (List.length j)]) (cP k e b l f c g i d j) (Ie k e m b l f n c g i o d p j) rZ [⟨[(.cell 48 1,.fre 1 1 (.ns .u64 ([]:List Int)))],[48],[8,9]⟩,⟨[(.cell 48 1,.fre 1 1 (.ns .u64 ([]:List Int)))],[48],[8,9]⟩,⟨[(.cell 48 1,.fre 1 1 (.ns .u64 ([]:List Int)))],[48],[8,9]⟩,⟨[(.cell 48 1,.fre 1 1 (.ns .u64 ([]:List Int)))],[48],[8,9]⟩,⟨[(.cell 48 1,.fre 1 1 (.ns .u64 ([]:List Int)))],[48],[8,9]⟩,⟨[(.cell 48 1,.fre 1 1 (.ns .u64 ([]:List Int)))],[48],[8,9]⟩,⟨[(.cell 48 1,.fre 1 1 (.ns .u64 ([]:List Int)))],[48],[8,9]⟩,⟨[(.cell 48 1,.fre 1 1 (.ns .u64 ([]:List Int)))],[48],[8,9]⟩,⟨[(.cell 48 1,.fre 1 1 (.ns .u64 ([]:List Int)))],[48],[8,9]⟩,⟨[(.cell 48 1,.fre 1 1 (.ns .u64 ([]:List Int)))],[48],[8,9]⟩,⟨[],[0,16,32,48],[3,4,5,6,8]⟩] (by kernel_rfl)) (fun q=>by exact Sg.cut 1 Ac (Sg.seg (C:=C0) ap dH 60 ((uG.drop 2).take 1) (Ie k e m b l f n c g i o d p j q) (uH b c d j) (If k e m b l f n c g i o d q) rZ [⟨[],[0,1,2,3,180,196,212,228],[4,5,6,8,10,11,12,13]⟩] (by kernel_rfl)) (fun a=>by obtain ⟨r,s,t,u,v,w,y,z,A,B,D,E,F,G,H,I⟩:=a;exact Sg.cut 1 Ac (Sg.seg (C:=C0) ap dH 60 (((uG.drop 2).drop 1).take 1) (If k e m b l f n c g i o d q (r,s,t,u,v,w,y,z,A,B,D,E,F,G,H,I)) (uI e b f c g i d r s t u v w y z A B D E F G H I) Ig rZ [⟨[],[3],[8,9]⟩] (by kernel_rfl)) (fun a=>by obtain ⟨J,K,L,M,N,O⟩:=a;exact Sg.seg (C:=C0) ap dH 60 (((uG.drop 2).drop 1).drop 1) (Ig (J,K,L,M,N,O)) (Ih J K L M N O) (fun a:Empty=>a.elim) rZ [⟨[],[0],[8,9]⟩] (by kernel_rfl)))))
    (fun x=>by cases x with | r0 P Q R S T U=>exact ⟨.inr rfl,[.agg [.bool false Q,.imm .free (.ns .u64 R) 1 1 S T,.int .i64 U],.int .i64 ((P:Nat):Int)],[],by kernel_rfl,trivial,by kernel_rfl⟩) h
def qu:Option c8→Bool
  | some _=>true
  | none=>false
def rn:Option c8→Nat
  | some (.r0 x _ _ _ _ _)=>x
  | _=>0
def rp:Option c8→Bool
  | some (.r0 _ x _ _ _ _)=>x
  | _=>false
def rq:Option c8→List Int
  | some (.r0 _ _ x _ _ _)=>x
  | _=>[]
def rt:Option c8→Nat
  | some (.r0 _ _ _ x _ _)=>x
  | _=>0
def ru:Option c8→Nat
  | some (.r0 _ _ _ _ x _)=>x
  | _=>0
def rv:Option c8→Int
  | some (.r0 _ _ _ _ _ x)=>x
  | _=>0
theorem VO{x:Option c8}(h:qu x=true) :x=some (.r0 (rn x) (rp x) (rq x) (rt x) (ru x) (rv x)):=by
  unfold qu at h
  split at h <;> first | rfl | (cases h;done) | (rename_i y;cases y;rfl)
def Kx:aL:=cn iE (.cons (.agg (.cons (.int .i64) (.cons (.int .i64) (.cons .fl .nil)))) (.cons (.agg (.cons (.int .i64) (.cons (.int .i64) (.cons .fl .nil)))) (.cons (.agg (.cons (.int .i64) (.cons (.int .i64) (.cons .fl .nil)))) (.cons .fl .nil)))) fun t=>[⟨Cr (.r0 (rn (bN t.1.1 t.1.2.1 t.1.2.2.1.2 t.2.1.1 t.2.1.2.1 t.2.1.2.2.1.2 t.2.2.1.1 t.2.2.1.2.1 t.2.2.1.2.2.1.2 t.2.2.2.1.2)) (rp (bN t.1.1 t.1.2.1 t.1.2.2.1.2 t.2.1.1 t.2.1.2.1 t.2.1.2.2.1.2 t.2.2.1.1 t.2.2.1.2.1 t.2.2.1.2.2.1.2 t.2.2.2.1.2)) (rq (bN t.1.1 t.1.2.1 t.1.2.2.1.2 t.2.1.1 t.2.1.2.1 t.2.1.2.2.1.2 t.2.2.1.1 t.2.2.1.2.1 t.2.2.1.2.2.1.2 t.2.2.2.1.2)) (rt (bN t.1.1 t.1.2.1 t.1.2.2.1.2 t.2.1.1 t.2.1.2.1 t.2.1.2.2.1.2 t.2.2.1.1 t.2.2.1.2.1 t.2.2.1.2.2.1.2 t.2.2.2.1.2)) (ru (bN t.1.1 t.1.2.1 t.1.2.2.1.2 t.2.1.1 t.2.1.2.1 t.2.1.2.2.1.2 t.2.2.1.1 t.2.2.1.2.1 t.2.2.1.2.2.1.2 t.2.2.2.1.2)) (rv (bN t.1.1 t.1.2.1 t.1.2.2.1.2 t.2.1.1 t.2.1.2.1 t.2.1.2.2.1.2 t.2.2.1.1 t.2.2.1.2.1 t.2.2.1.2.2.1.2 t.2.2.2.1.2))),[qu (bN t.1.1 t.1.2.1 t.1.2.2.1.2 t.2.1.1 t.2.1.2.1 t.2.1.2.2.1.2 t.2.2.1.1 t.2.2.1.2.1 t.2.2.1.2.2.1.2 t.2.2.2.1.2)]⟩]
theorem Rw:aV prog Kx:=aP fun t=>(aQ (fun h=>VN t.1.1 t.1.2.1 t.1.2.2.1.1 t.1.2.2.1.2 t.2.1.1 t.2.1.2.1 t.2.1.2.2.1.1 t.2.1.2.2.1.2 t.2.2.1.1 t.2.2.1.2.1 t.2.2.1.2.2.1.1 t.2.2.1.2.2.1.2 t.2.2.2.1.1 t.2.2.2.1.2 (VO h)) ba)
def Ky:List aL:=Kx :: n9
theorem rx:bf prog (bi Ky):=aw Rw dH
inductive jU where
  | r0 (a:Bool) (b:Int)
def DD:jU→AE×aM
  | .r0 a b=>(.ret,⟨an 24 [(5,.bool false a),(6,.int .i64 b)],[],0⟩)
theorem PW:l9 DD:=by intro x;cases x <;> (intro h;cases h)
def J0:jU→jv
  | .r0 a b=>⟨.tup [.bool false a,.int .i64 b],[]⟩
def Hz:List Code:=bS (bB oL)
def PX(c:Lv)(d:Bool)(e:Lv)(a:List Int)(f:Int)(g:Lv)(h:Bool)(i:Lv)(b:List Int)(j:Int) :Nat×Bool×(List Int)×Nat×Nat×Int→aM:=fun (k,l,m,n,o,p)=>⟨an 24 [(3,.iptr c (.vs [.bool false d,.imm e (.ns .u64 a) 1 1 0 (List.length a),.int .i64 f]) 1 0 0),(4,.iptr g (.vs [.bool false h,.imm i (.ns .u64 b) 1 1 0 (List.length b),.int .i64 j]) 1 0 0),(7,.ptr 0 1 0 0),(8,.int .i64 ((k:Nat):Int))],[(0,.vs [.bool false l,.imm .free (.ns .u64 m) 1 1 n o,.int .i64 p])],1⟩
def HA(f:Int)(g:Int)(b:List Nat)(d:Int)(e:Int)(a:List Nat)(c:List Nat) :T ((Nat×Bool×(List Int)×Nat×Nat×Int)⊕(jU)) :=
  .need (aR 0 (List.length b) b)<|.need (aR 0 (List.length a) a)<|.need (aR 0 (List.length a) a)<|.need (aR 0 (List.length c) c)<|.need (qu (bN f g (aa 0 (List.length b) b) d e (aa 0 (List.length a) a) d e (aa 0 (List.length a) a) (aa 0 (List.length c) c)))<|.leaf (.inl ((rn (bN f g (aa 0 (List.length b) b) d e (aa 0 (List.length a) a) d e (aa 0 (List.length a) a) (aa 0 (List.length c) c))),(rp (bN f g (aa 0 (List.length b) b) d e (aa 0 (List.length a) a) d e (aa 0 (List.length a) a) (aa 0 (List.length c) c))),(rq (bN f g (aa 0 (List.length b) b) d e (aa 0 (List.length a) a) d e (aa 0 (List.length a) a) (aa 0 (List.length c) c))),(rt (bN f g (aa 0 (List.length b) b) d e (aa 0 (List.length a) a) d e (aa 0 (List.length a) a) (aa 0 (List.length c) c))),(ru (bN f g (aa 0 (List.length b) b) d e (aa 0 (List.length a) a) d e (aa 0 (List.length a) a) (aa 0 (List.length c) c))),(rv (bN f g (aa 0 (List.length b) b) d e (aa 0 (List.length a) a) d e (aa 0 (List.length a) a) (aa 0 (List.length c) c)))))
def PY:Bool×Int→aM:=fun (a,b)=>⟨an 24 [(5,.bool false a),(6,.int .i64 b)],[],0⟩
def Bt(f:Bool)(a:List Int)(g:Int)(h:Bool)(b:List Int)(i:Int)(j:Nat)(k:Bool)(c:List Int)(d:Nat)(e:Nat)(l:Int) :T ((Bool×Int)⊕(jU)) :=
  .need (aR d e c)<|.need (aR 0 (List.length a) a)<|.need (aR 0 (List.length b) b)<|.need (vH (gS k (aa d e c) l ((j:Nat):Int) f (aa 0 (List.length a) a) g h (aa 0 (List.length b) b) i))<|.leaf (.inl ((wq (gS k (aa d e c) l ((j:Nat):Int) f (aa 0 (List.length a) a) g h (aa 0 (List.length b) b) i)),(ws (gS k (aa d e c) l ((j:Nat):Int) f (aa 0 (List.length a) a) g h (aa 0 (List.length b) b) i))))
def PZ(a:Bool)(b:Int) :T ((Empty)⊕(jU)) :=
  .leaf (.inr (.r0 a b))
def ln(a:Int)(b:Int)(c:List Nat)(d:Int)(e:Int)(f:List Nat)(g:List Nat)(h:Bool)(i:List Int)(j:Int)(k:Bool)(l:List Int)(m:Int) :Option jU:=me (aH ((HA a b c d e f g).run) fun (n,o,p,q,r,s) =>
  aH ((Bt h i j k l m n o p q r s).run) fun (t,u) =>
  (PZ t u).run)
theorem adX(t:Lv)(l:Int)(m:Int)(u:Lv)(d:List Nat)(v:Lv)(n:Int)(o:Int)(w:Lv)(e:List Nat)(y:Lv)(z:Lv)(f:List Nat)(p:Lv)(g:Bool)(q:Lv)(b:List Int)(i:Int)(r:Lv)(j:Bool)(s:Lv)(c:List Int)(k:Int){x:jU}(h:ln l m d n o e f g b i j c k=some x) :ax prog oL [] [.iptr t (.vs [.int .i64 l,.int .i64 m,.imm u (.fl d) 1 1 0 (List.length d)]) 1 0 0,.iptr v (.vs [.int .i64 n,.int .i64 o,.imm w (.fl e) 1 1 0 (List.length e)]) 1 0 0,.iptr y (.vs [.imm z (.fl f) 1 1 0 (List.length f)]) 1 0 0,.iptr p (.vs [.bool false g,.imm q (.ns .u64 b) 1 1 0 (List.length b),.int .i64 i]) 1 0 0,.iptr r (.vs [.bool false j,.imm s (.ns .u64 c) 1 1 0 (List.length c),.int .i64 k]) 1 0 0] (J0 x) :=
  Sg.contract false J0 (by kernel_rfl:prog.funcs[oL]? = some (FN oL)) (by kernel_rfl:(FN oL).body=some (bB oL)) (Sg.cut 2 PW (Sg.seg (C:=C0) ap rx 60 (Hz.take 2) (aT (FN oL) [] [.iptr t (.vs [.int .i64 l,.int .i64 m,.imm u (.fl d) 1 1 0 (List.length d)]) 1 0 0,.iptr v (.vs [.int .i64 n,.int .i64 o,.imm w (.fl e) 1 1 0 (List.length e)]) 1 0 0,.iptr y (.vs [.imm z (.fl f) 1 1 0 (List.length f)]) 1 0 0,.iptr p (.vs [.bool false g,.imm q (.ns .u64 b) 1 1 0 (List.length b),.int .i64 i]) 1 0 0,.iptr r (.vs [.bool false j,.imm s (.ns .u64 c) 1 1 0 (List.length c),.int .i64 k]) 1 0 0]) (HA l m d n o e f) (PX p g q b i r j s c k) DD [⟨[],[160],[3,4,7,8]⟩] (by kernel_rfl)) (fun a=>by obtain ⟨A,B,D,E,F,G⟩:=a;exact Sg.cut 1 PW (Sg.seg (C:=C0) ap rx 60 ((Hz.drop 2).take 1) (PX p g q b i r j s c k (A,B,D,E,F,G)) (Bt g b i j c k A B D E F G) PY DD [⟨[],[],[5,6]⟩] (by kernel_rfl)) (fun a=>by obtain ⟨H,I⟩:=a;exact Sg.seg (C:=C0) ap rx 60 ((Hz.drop 2).drop 1) (PY (H,I)) (PZ H I) (fun a:Empty=>a.elim) DD [⟨[],[],[5,6]⟩] (by kernel_rfl))))
    (fun x=>by cases x with | r0 J K=>exact ⟨.inr rfl,[.bool false J,.int .i64 K],[],by kernel_rfl,trivial,by kernel_rfl⟩) h
def vO:Option jU→Bool
  | some _=>true
  | none=>false
def wv:Option jU→Bool
  | some (.r0 x _)=>x
  | _=>false
def oB:Option jU→Int
  | some (.r0 _ x)=>x
  | _=>0
theorem adY{x:Option jU}(h:vO x=true) :x=some (.r0 (wv x) (oB x)):=by
  unfold vO at h
  split at h <;> first | rfl | (cases h;done) | (rename_i y;cases y;rfl)
def Uw:aL:=cn oL (.cons (.ivs (.cons (.int .i64) (.cons (.int .i64) (.cons .fl .nil))) 1 0 0) (.cons (.ivs (.cons (.int .i64) (.cons (.int .i64) (.cons .fl .nil))) 1 0 0) (.cons (.ivs (.cons .fl .nil) 1 0 0) (.cons (.ivs (.cons .bool (.cons (.ns .u64) (.cons (.int .i64) .nil))) 1 0 0) (.cons (.ivs (.cons .bool (.cons (.ns .u64) (.cons (.int .i64) .nil))) 1 0 0) .nil))))) fun t=>[⟨J0 (.r0 (wv (ln t.1.2.1 t.1.2.2.1 t.1.2.2.2.1.2 t.2.1.2.1 t.2.1.2.2.1 t.2.1.2.2.2.1.2 t.2.2.1.2.1.2 t.2.2.2.1.2.1 t.2.2.2.1.2.2.1.2 t.2.2.2.1.2.2.2.1 t.2.2.2.2.1.2.1 t.2.2.2.2.1.2.2.1.2 t.2.2.2.2.1.2.2.2.1)) (oB (ln t.1.2.1 t.1.2.2.1 t.1.2.2.2.1.2 t.2.1.2.1 t.2.1.2.2.1 t.2.1.2.2.2.1.2 t.2.2.1.2.1.2 t.2.2.2.1.2.1 t.2.2.2.1.2.2.1.2 t.2.2.2.1.2.2.2.1 t.2.2.2.2.1.2.1 t.2.2.2.2.1.2.2.1.2 t.2.2.2.2.1.2.2.2.1))),[vO (ln t.1.2.1 t.1.2.2.1 t.1.2.2.2.1.2 t.2.1.2.1 t.2.1.2.2.1 t.2.1.2.2.2.1.2 t.2.2.1.2.1.2 t.2.2.2.1.2.1 t.2.2.2.1.2.2.1.2 t.2.2.2.1.2.2.2.1 t.2.2.2.2.1.2.1 t.2.2.2.2.1.2.2.1.2 t.2.2.2.2.1.2.2.2.1)]⟩]
theorem YP:aV prog Uw:=aP fun t=>(aQ (fun h=>adX t.1.1 t.1.2.1 t.1.2.2.1 t.1.2.2.2.1.1 t.1.2.2.2.1.2 t.2.1.1 t.2.1.2.1 t.2.1.2.2.1 t.2.1.2.2.2.1.1 t.2.1.2.2.2.1.2 t.2.2.1.1 t.2.2.1.2.1.1 t.2.2.1.2.1.2 t.2.2.2.1.1 t.2.2.2.1.2.1 t.2.2.2.1.2.2.1.1 t.2.2.2.1.2.2.1.2 t.2.2.2.1.2.2.2.1 t.2.2.2.2.1.1 t.2.2.2.2.1.2.1 t.2.2.2.2.1.2.2.1.1 t.2.2.2.2.1.2.2.1.2 t.2.2.2.2.1.2.2.2.1 (adY h)) ba)
def Ux:List aL:=Uw :: Ky
theorem kg:bf prog (bi Ux):=aw YP rx
inductive i6 where
  | r0 (a:Bool) (b:Int)
def tL:i6→AE×aM
  | .r0 a b=>(.ret,⟨an 78 [(6,.bool false a),(7,.int .i64 b)],[],0⟩)
theorem xx:l9 tL:=by intro x;cases x <;> (intro h;cases h)
def Rx:i6→jv
  | .r0 a b=>⟨.tup [.bool false a,.int .i64 b],[]⟩
def tM:List Code:=bS (bB qK)
def X5(d:Int)(e:Int)(f:Lv)(a:List Nat)(g:Lv)(b:List Nat)(h:Int)(i:Int)(j:Lv)(c:List Nat)(_:Unit) :aM:=⟨an 78 [(3,.ptr 0 1 0 0),(4,.ptr 1 1 0 0),(5,.ptr 2 1 0 0)],[(0,.vs [.int .i64 d,.int .i64 e,.imm f (.fl a) 1 1 0 (List.length a)]),(1,.vs [.imm g (.fl b) 1 1 0 (List.length b)]),(2,.vs [.int .i64 h,.int .i64 i,.imm j (.fl c) 1 1 0 (List.length c)])],3⟩
def Gq(d : Int)(e : Int)(a : List Nat)(c : List Nat)(f : Int)(g : Int)(b : List Nat) : T ((Unit) ⊕ (i6)) :=
  .ask (decide ((0 : Int) < (2 : Int)))
    (.need (iC (0 : Int) 2) <| .need (aR 0 (List.length a) a) <| .need (jz (d4 d e (aa 0 (List.length a) a))) <| .ask (iT (d4 d e (aa 0 (List.length a) a)))
      (.ask (!(!(decide ((0:Int) ≥ (0:Int)))))
        (.leaf (.inr (.r0 false (2:Int))))
        (.fail))
      (.need (ej .i64 (1:Int))<|.ask (decide ((1:Int) < (2:Int)))
        (.need (iC (1 : Int) 2) <| .need (aR 0 (List.length b) b) <| .need (jz (d4 f g (aa 0 (List.length b) b))) <| .ask (iT (d4 f g (aa 0 (List.length b) b)))
          (.ask (!(!(decide ((1:Int) ≥ (0:Int)))))
            (.leaf (.inr (.r0 false (2:Int))))
            (.fail))
          (.need (ej .i64 (2:Int))<|.ask (decide ((2:Int) < (2:Int)))
            (.fail)
            (.ask (!(!(decide ((-1:Int) ≥ (0:Int)))))
              (.fail)
              (.ask (d != e)
                (.leaf (.inr (.r0 false (8:Int))))
                (.ask ((((List.length c):Nat):Int) != d)
                  (.leaf (.inr (.r0 false (8:Int))))
                  (.ask (!(f == d && g == e))
                    (.leaf (.inr (.r0 false (8:Int))))
                    (.ask (decide ((0:Int) < (3:Int)))
                      (.need (iC (0:Int) 3)<|.need (aR 0 (List.length a) a)<|.need (aZ (az (aa 0 (List.length a) a)))<|.ask (decide ((bb (az (aa 0 (List.length a) a))) ≥ (0:Int)))
                        (.leaf (.inr (.r0 false (10:Int))))
                        (.need (ej .i64 (1:Int))<|.ask (decide ((1:Int) < (3:Int)))
                          (.need (iC (1:Int) 3)<|.need (aR 0 (List.length b) b)<|.need (aZ (az (aa 0 (List.length b) b)))<|.ask (decide ((bb (az (aa 0 (List.length b) b))) ≥ (0:Int)))
                            (.leaf (.inr (.r0 false (10:Int))))
                            (.need (ej .i64 (2:Int))<|.ask (decide ((2:Int) < (3:Int)))
                              (.need (iC (2:Int) 3)<|.need (aR 0 (List.length c) c)<|.need (aZ (az (aa 0 (List.length c) c)))<|.ask (decide ((bb (az (aa 0 (List.length c) c))) ≥ (0:Int)))
                                (.leaf (.inr (.r0 false (10:Int))))
                                (.need (ej .i64 (3:Int))<|.ask (decide ((3:Int) < (3:Int)))
                                  (.fail)
                                  (.leaf (.inl ()))))
                              (.fail)))
                          (.fail)))
                      (.fail))))))))
        (.fail)))
    (.fail)
def X6(d:Int)(e:Int)(f:Lv)(a:List Nat)(g:Lv)(b:List Nat)(h:Int)(i:Int)(j:Lv)(c:List Nat)(k:Bool) :aM:=⟨an 78 [(3,.ptr 0 1 0 0),(4,.ptr 1 1 0 0),(5,.ptr 2 1 0 0),(49,.bool false k)],[(0,.vs [.int .i64 d,.int .i64 e,.imm f (.fl a) 1 1 0 (List.length a)]),(1,.vs [.imm g (.fl b) 1 1 0 (List.length b)]),(2,.vs [.int .i64 h,.int .i64 i,.imm j (.fl c) 1 1 0 (List.length c)])],3⟩
def Gr(a:List Nat) :T ((Bool)⊕(i6)) :=
  .need (aR 0 (List.length a) a)<|.need (rh (lQ (aa 0 (List.length a) a)))<|.leaf (.inl (!(tF (lQ (aa 0 (List.length a) a)))))
def X7(d:Int)(e:Int)(f:Lv)(a:List Nat)(g:Lv)(b:List Nat)(h:Int)(i:Int)(j:Lv)(c:List Nat) :Nat×Bool×(List Int)×Nat×Nat×Int→aM:=fun (k,l,m,n,o,p)=>⟨an 78 [(3,.ptr 0 1 0 0),(4,.ptr 1 1 0 0),(5,.ptr 2 1 0 0),(8,.ptr 3 1 0 0),(9,.int .i64 ((k:Nat):Int))],[(0,.vs [.int .i64 d,.int .i64 e,.imm f (.fl a) 1 1 0 (List.length a)]),(1,.vs [.imm g (.fl b) 1 1 0 (List.length b)]),(2,.vs [.int .i64 h,.int .i64 i,.imm j (.fl c) 1 1 0 (List.length c)]),(3,.vs [.bool false l,.imm .free (.ns .u64 m) 1 1 n o,.int .i64 p])],4⟩
def DE(a:Int)(b:Bool) :T ((Nat×Bool×(List Int)×Nat×Nat×Int)⊕(i6)) :=
  .ask b
    (.leaf (.inr (.r0 false (0:Int))))
    (.need (vw (cQ a a))<|.leaf (.inl ((wj (cQ a a)),(wk (cQ a a)),(wl (cQ a a)),(wm (cQ a a)),(wn (cQ a a)),(wo (cQ a a)))))
def X8(d:Int)(e:Int)(f:Lv)(a:List Nat)(g:Lv)(b:List Nat)(h:Int)(i:Int)(j:Lv)(c:List Nat)(k:Nat)(l:Bool)(m:List Int)(n:Nat)(o:Nat)(p:Int) :Nat×Bool×(List Int)×Nat×Nat×Int→aM:=fun (f8,q,r,s,t,u)=>⟨an 78 [(3,.ptr 0 1 0 0),(4,.ptr 1 1 0 0),(5,.ptr 2 1 0 0),(8,.ptr 3 1 0 0),(9,.int .i64 ((k:Nat):Int)),(10,.ptr 4 1 0 0),(11,.int .i64 ((f8:Nat):Int))],[(0,.vs [.int .i64 d,.int .i64 e,.imm f (.fl a) 1 1 0 (List.length a)]),(1,.vs [.imm g (.fl b) 1 1 0 (List.length b)]),(2,.vs [.int .i64 h,.int .i64 i,.imm j (.fl c) 1 1 0 (List.length c)]),(3,.vs [.bool false l,.imm .free (.ns .u64 m) 1 1 n o,.int .i64 p]),(4,.vs [.bool false q,.imm .free (.ns .u64 r) 1 1 s t,.int .i64 u])],5⟩
def DF(b:Int)(c:Int)(a:List Nat) :T ((Nat×Bool×(List Int)×Nat×Nat×Int)⊕(i6)) :=
  .need (aR 0 (List.length a) a)<|.need (yF (dp b c (aa 0 (List.length a) a)))<|.leaf (.inl ((yG (dp b c (aa 0 (List.length a) a))),(yH (dp b c (aa 0 (List.length a) a))),(yI (dp b c (aa 0 (List.length a) a))),(yJ (dp b c (aa 0 (List.length a) a))),(yK (dp b c (aa 0 (List.length a) a))),(yL (dp b c (aa 0 (List.length a) a)))))
def X9(d:Int)(e:Int)(f:Lv)(a:List Nat)(g:Lv)(b:List Nat)(h:Int)(i:Int)(j:Lv)(c:List Nat)(k:Nat)(l:Bool)(m:List Int)(n:Nat)(o:Nat)(p:Int)(f8:Nat)(q:Bool)(r:List Int)(s:Nat)(t:Nat)(u:Int)(v:Bool) :aM:=⟨an 78 [(3,.ptr 0 1 0 0),(4,.ptr 1 1 0 0),(5,.ptr 2 1 0 0),(8,.ptr 3 1 0 0),(9,.int .i64 ((k:Nat):Int)),(10,.ptr 4 1 0 0),(11,.int .i64 ((f8:Nat):Int)),(68,.bool false v)],[(0,.vs [.int .i64 d,.int .i64 e,.imm f (.fl a) 1 1 0 (List.length a)]),(1,.vs [.imm g (.fl b) 1 1 0 (List.length b)]),(2,.vs [.int .i64 h,.int .i64 i,.imm j (.fl c) 1 1 0 (List.length c)]),(3,.vs [.bool false l,.imm .free (.ns .u64 m) 1 1 n o,.int .i64 p]),(4,.vs [.bool false q,.imm .free (.ns .u64 r) 1 1 s t,.int .i64 u])],5⟩
def Uy(a:Nat)(f8:Nat) :T ((Bool)⊕(i6)) :=
  .ask (((a:Nat):Int) != (0:Int))
    (.leaf (.inl true))
    (.leaf (.inl (((f8:Nat):Int) != (0:Int))))
def Ya:Bool×Int→aM:=fun (a,b)=>⟨an 78 [(6,.bool false a),(7,.int .i64 b)],[],0⟩
def DG(n : Int)(o : Int)(b : List Nat)(c : List Nat)(g : Int)(h : Int)(a : List Nat)(r : Nat)(i : Bool)(d : List Int)(e : Nat)(f : Nat)(j : Int)(f8 : Nat)(p : Bool)(k : List Int)(l : Nat)(m : Nat)(q : Int)(s : Bool) : T ((Bool × Int) ⊕ (i6)) :=
  .ask s
    (.leaf (.inr (.r0 false (rH ((r:Nat):Int) ((f8:Nat):Int)))))
    (.ask (decide ((0:Int) < (2:Int)))
      (.need (iC (0:Int) 2)<|.need (aR 0 (List.length a) a)<|.need (aR e f d)<|.need (vI (lh g h (aa 0 (List.length a) a) i (aa e f d) j))<|.ask (!(wu (lh g h (aa 0 (List.length a) a) i (aa e f d) j)))
        (.leaf (.inl (false,(oA (lh g h (aa 0 (List.length a) a) i (aa e f d) j)))))
        (.ask ((oA (lh g h (aa 0 (List.length a) a) i (aa e f d) j)) != (0:Int))
          (.leaf (.inl (false,(oA (lh g h (aa 0 (List.length a) a) i (aa e f d) j)))))
          (.need (ej .i64 (1:Int))<|.ask (decide ((1:Int) < (2:Int)))
            (.need (iC (1:Int) 2)<|.need (aR 0 (List.length b) b)<|.need (aR 0 (List.length a) a)<|.need (aR 0 (List.length c) c)<|.need (aR e f d)<|.need (aR l m k)<|.need (vO (ln n o (aa 0 (List.length b) b) g h (aa 0 (List.length a) a) (aa 0 (List.length c) c) i (aa e f d) j p (aa l m k) q))<|.ask (!(wv (ln n o (aa 0 (List.length b) b) g h (aa 0 (List.length a) a) (aa 0 (List.length c) c) i (aa e f d) j p (aa l m k) q)))
              (.leaf (.inl (false,(oB (ln n o (aa 0 (List.length b) b) g h (aa 0 (List.length a) a) (aa 0 (List.length c) c) i (aa e f d) j p (aa l m k) q)))))
              (.ask ((oB (ln n o (aa 0 (List.length b) b) g h (aa 0 (List.length a) a) (aa 0 (List.length c) c) i (aa e f d) j p (aa l m k) q)) != (0:Int))
                (.leaf (.inl (false,(oB (ln n o (aa 0 (List.length b) b) g h (aa 0 (List.length a) a) (aa 0 (List.length c) c) i (aa e f d) j p (aa l m k) q)))))
                (.need (ej .i64 (2:Int))<|.ask (decide ((2:Int) < (2:Int)))
                  (.fail)
                  (.leaf (.inl (true,(0:Int)))))))
            (.fail))))
      (.fail))
def Uz(a:Bool)(b:Int) :T ((Empty)⊕(i6)) :=
  .leaf (.inr (.r0 a b))
def gB(a:Int)(b:Int)(c:List Nat)(d:List Nat)(e:Int)(f:Int)(g:List Nat) :Option i6:=me (aH ((Gq a b c d e f g).run) fun _ =>
  aH ((Gr d).run) fun i =>
  aH ((DE a i).run) fun (h,j,k,l,m,n) =>
  aH ((DF a b c).run) fun (f8,o,p,q,r,s) =>
  aH ((Uy h f8).run) fun t =>
  aH ((DG a b c d e f g h j k l m n f8 o p q r s t).run) fun (u,v) =>
  (Uz u v).run)
theorem aju(d:Int)(f:Int)(j:Lv)(b:List Nat)(k:Lv)(c:List Nat)(g:Int)(i:Int)(l:Lv)(e:List Nat){x:i6}(h:gB d f b c g i e=some x) :ax prog qK [] [.agg [.int .i64 d,.int .i64 f,.imm j (.fl b) 1 1 0 (List.length b)],.imm k (.fl c) 1 1 0 (List.length c),.agg [.int .i64 g,.int .i64 i,.imm l (.fl e) 1 1 0 (List.length e)]] (Rx x) :=
  Sg.contract true Rx (by kernel_rfl:prog.funcs[qK]? = some (FN qK)) (by kernel_rfl:(FN qK).body=some (bB qK)) (Sg.cut 2 xx (Sg.seg (C:=C0) ap kg 60 (tM.take 2) (aT (FN qK) [] [.agg [.int .i64 d,.int .i64 f,.imm j (.fl b) 1 1 0 (List.length b)],.imm k (.fl c) 1 1 0 (List.length c),.agg [.int .i64 g,.int .i64 i,.imm l (.fl e) 1 1 0 (List.length e)]]) (Gq d f b c g i e) (X5 d f j b k c g i l e) tL [⟨[],[],[6,7]⟩,⟨[],[],[6,7]⟩,⟨[],[],[6,7]⟩,⟨[],[],[6,7]⟩,⟨[],[],[6,7]⟩,⟨[],[],[6,7]⟩,⟨[],[],[6,7]⟩,⟨[],[],[6,7]⟩,⟨[],[0,16,32],[3,4,5]⟩] (by kernel_rfl)) (fun a=>by cases a;exact Sg.cut 1 xx (Sg.seg (C:=C0) ap kg 60 ((tM.drop 2).take 1) (X5 d f j b k c g i l e ()) (Gr c) (X6 d f j b k c g i l e) tL [⟨[],[0,1,2],[3,4,5,49]⟩] (by kernel_rfl)) (fun y=>by exact Sg.cut 2 xx (Sg.seg (C:=C0) ap kg 60 (((tM.drop 2).drop 1).take 2) (X6 d f j b k c g i l e y) (DE d y) (X7 d f j b k c g i l e) tL [⟨[],[],[6,7]⟩,⟨[],[0,1,2,131],[3,4,5,8,9]⟩] (by kernel_rfl)) (fun a=>by obtain ⟨m,n,o,p,q,r⟩:=a;exact Sg.cut 1 xx (Sg.seg (C:=C0) ap kg 60 ((((tM.drop 2).drop 1).drop 2).take 1) (X7 d f j b k c g i l e (m,n,o,p,q,r)) (DF d f b) (X8 d f j b k c g i l e m n o p q r) tL [⟨[],[0,1,2,3,84],[3,4,5,8,9,10,11]⟩] (by kernel_rfl)) (fun a=>by obtain ⟨f8,s,t,u,v,w⟩:=a;exact Sg.cut 1 xx (Sg.seg (C:=C0) ap kg 60 (((((tM.drop 2).drop 1).drop 2).drop 1).take 1) (X8 d f j b k c g i l e m n o p q r (f8,s,t,u,v,w)) (Uy m f8) (X9 d f j b k c g i l e m n o p q r f8 s t u v w) tL [⟨[],[0,1,2,3,4],[3,4,5,8,9,10,11,68]⟩,⟨[],[0,1,2,3,4],[3,4,5,8,9,10,11,68]⟩] (by kernel_rfl)) (fun z=>by exact Sg.cut 2 xx (Sg.seg (C:=C0) ap kg 60 ((((((tM.drop 2).drop 1).drop 2).drop 1).drop 1).take 2) (X9 d f j b k c g i l e m n o p q r f8 s t u v w z) (DG d f b c g i e m n o p q r f8 s t u v w z) Ya tL [⟨[],[],[6,7]⟩,⟨[],[],[6,7]⟩,⟨[],[],[6,7]⟩,⟨[],[],[6,7]⟩,⟨[],[],[6,7]⟩,⟨[],[],[6,7]⟩] (by kernel_rfl)) (fun a=>by obtain ⟨A,B⟩:=a;exact Sg.seg (C:=C0) ap kg 60 ((((((tM.drop 2).drop 1).drop 2).drop 1).drop 1).drop 2) (Ya (A,B)) (Uz A B) (fun a:Empty=>a.elim) tL [⟨[],[],[6,7]⟩] (by kernel_rfl))))))))
    (fun x=>by cases x with | r0 D E=>exact ⟨.inr rfl,[.bool false D,.int .i64 E],[],by kernel_rfl,trivial,by kernel_rfl⟩) h
def xy:Option i6→Bool
  | some _=>true
  | none=>false
def vP:Option i6→Bool
  | some (.r0 x _)=>x
  | _=>false
def vQ:Option i6→Int
  | some (.r0 _ x)=>x
  | _=>0
theorem ajv{x:Option i6}(h:xy x=true) :x=some (.r0 (vP x) (vQ x)):=by
  unfold xy at h
  split at h <;> first | rfl | (cases h;done) | (rename_i y;cases y;rfl)
def abS:aL:=cn qK (.cons (.agg (.cons (.int .i64) (.cons (.int .i64) (.cons .fl .nil)))) (.cons .fl (.cons (.agg (.cons (.int .i64) (.cons (.int .i64) (.cons .fl .nil)))) .nil))) fun t=>[⟨Rx (.r0 (vP (gB t.1.1 t.1.2.1 t.1.2.2.1.2 t.2.1.2 t.2.2.1.1 t.2.2.1.2.1 t.2.2.1.2.2.1.2)) (vQ (gB t.1.1 t.1.2.1 t.1.2.2.1.2 t.2.1.2 t.2.2.1.1 t.2.2.1.2.1 t.2.2.1.2.2.1.2))),[xy (gB t.1.1 t.1.2.1 t.1.2.2.1.2 t.2.1.2 t.2.2.1.1 t.2.2.1.2.1 t.2.2.1.2.2.1.2)]⟩]
theorem adZ:aV prog abS:=aP fun t=>(aQ (fun h=>aju t.1.1 t.1.2.1 t.1.2.2.1.1 t.1.2.2.1.2 t.2.1.1 t.2.1.2 t.2.2.1.1 t.2.2.1.2.1 t.2.2.1.2.2.1.1 t.2.2.1.2.2.1.2 (ajv h)) ba)
def abT:List aL:=abS :: Ux
theorem HB:bf prog (bi abT):=aw adZ kg
inductive gT where
  | r0 (a:Nat) (b:Bool) (c:Nat) (d:Int) (e:List Int)
def J1:gT→AE×aM
  | .r0 b c a d e=>(.ret,⟨an 14 [(2,.ptr 0 1 0 0),(3,.int .i64 ((b:Nat):Int))],[(0,.vs [.bool false c,.sl 1 1 1 0 a a,.int .i64 d]),(1,.ns .u64 e)],2⟩)
theorem ad0:l9 J1:=by intro x;cases x <;> (intro h;cases h)
def J2:gT→jv
  | .r0 a b c d e=>⟨.tup [.agg [.bool false b,.imm .free (.ns .u64 e) 1 1 0 c,.int .i64 d],.int .i64 ((a:Nat):Int)],[]⟩
def P0:List Code:=bS (bB mi)
def P3(a:Int) :Bool×Bool→aM:=fun (b,c)=>⟨an 14 [(0,.int .i64 a),(2,.ptr 0 1 0 0),(9,.bool false b)],[(0,.vs [.bool false c,.nsl,.int .i64 (0:Int)])],1⟩
def P4(a:Int) :T ((Bool×Bool)⊕(gT)) :=
  .ask (decide (a < (-262144:Int)))
    (.leaf (.inl (true,false)))
    (.leaf (.inl ((decide (a > (262144:Int))),false)))
def P5(a:Int)(b:Bool) :T ((Empty)⊕(gT)) :=
  .ask b
    (.leaf (.inr (.r0 3 false 0 (0:Int) ([]:List Int))))
    (.leaf (.inr (.r0 0 false 1 a [(1:Int)])))
def gU(a:Int) :Option gT:=me (aH ((P4 a).run) fun (b,c) =>
  (P5 a b).run)
theorem ad1(b:Int){x:gT}(h:gU b=some x) :ax prog mi [] [.int .i64 b] (J2 x) :=
  Sg.contract true J2 (by kernel_rfl:prog.funcs[mi]? = some (FN mi)) (by kernel_rfl:(FN mi).body=some (bB mi)) (Sg.cut 2 ad0 (Sg.seg (C:=C0) ap HB 60 (P0.take 2) (aT (FN mi) [] [.int .i64 b]) (P4 b) (P3 b) J1 [⟨[],[0],[0,2,9]⟩,⟨[],[0],[0,2,9]⟩] (by kernel_rfl)) (fun a=>by obtain ⟨c,e⟩:=a;exact Sg.seg (C:=C0) ap HB 60 (P0.drop 2) (P3 b (c,e)) (P5 b c) (fun a:Empty=>a.elim) J1 [⟨[(.cell 0 1,.own 1 1 (.ns .u64 ([]:List Int)))],[0,49],[2,3]⟩,⟨[],[0,1],[2,3]⟩] (by kernel_rfl)))
    (fun x=>by cases x with | r0 f g d i j=>exact ⟨.inr rfl,[.agg [.bool false g,.sl 1 1 1 0 d d,.int .i64 i],.int .i64 ((f:Nat):Int)],[],by kernel_rfl,trivial,by kernel_rfl⟩) h
def Bu:Option gT→Bool
  | some _=>true
  | none=>false
def Kz:Option gT→Nat
  | some (.r0 x _ _ _ _)=>x
  | _=>0
def Cs:Option gT→Bool
  | some (.r0 _ x _ _ _)=>x
  | _=>false
def Ct:Option gT→Nat
  | some (.r0 _ _ x _ _)=>x
  | _=>0
def Cu:Option gT→Int
  | some (.r0 _ _ _ x _)=>x
  | _=>0
def Cv:Option gT→List Int
  | some (.r0 _ _ _ _ x)=>x
  | _=>[]
theorem ad2{x:Option gT}(h:Bu x=true) :x=some (.r0 (Kz x) (Cs x) (Ct x) (Cu x) (Cv x)):=by
  unfold Bu at h
  split at h <;> first | rfl | (cases h;done) | (rename_i y;cases y;rfl)
def UA:aL:=cn mi (.cons (.int .i64) .nil) fun t=>[⟨J2 (.r0 (Kz (gU t.1)) (Cs (gU t.1)) (Ct (gU t.1)) (Cu (gU t.1)) (Cv (gU t.1))),[Bu (gU t.1)]⟩]
theorem YQ:aV prog UA:=aP fun t=>(aQ (fun h=>ad1 t.1 (ad2 h)) ba)
def UB:List aL:=UA :: abT
theorem ww:bf prog (bi UB):=aw YQ HB
inductive jV where
  | r0 (a:Bool)
def uJ:jV→AE×aM
  | .r0 a=>(.ret,⟨an 26 [(4,.bool false a)],[],0⟩)
theorem HC:l9 uJ:=by intro x;cases x <;> (intro h;cases h)
theorem ad3(id:Nat) :rL id uJ:=by intro x;cases x <;> (intro h;cases h)
def J3:jV→jv
  | .r0 a=>⟨.bool false a,[]⟩
def vR:List Code:=bS (bB mn)
def P6(c:Lv)(a:List Int)(d:Lv)(b:List Int)(_:Unit) :aM:=⟨an 26 [(0,.imm c (.ns .u64 a) 1 1 0 (List.length a)),(1,.imm d (.ns .u64 b) 1 1 0 (List.length b)),(5,.int .i64 (0:Int))],[],0⟩
def P7(a:List Int)(b:List Int) :T ((Unit)⊕(jV)) :=
  .ask ((((List.length a):Nat):Int) != (((List.length b):Nat):Int))
    (.leaf (.inr (.r0 false)))
    (.leaf (.inl ()))
def sJ(c:Lv)(a:List Int)(d:Lv)(b:List Int)(e:Nat) :aM:=⟨an 26 [(0,.imm c (.ns .u64 a) 1 1 0 (List.length a)),(1,.imm d (.ns .u64 b) 1 1 0 (List.length b)),(5,.int .i64 ((e:Nat):Int))],[],0⟩
def Bv(_:Unit) :aM:=⟨an 26 [],[],0⟩
def P8:List Code:=bS (bW ((((vR.drop 4).take 1)).headD .skip))
def Bw(b:List Int)(c:List Int)(a:Nat) :T ((Nat)⊕((Unit)⊕(jV))) :=
  .ask (decide (((a:Nat):Int) < (((List.length b):Nat):Int)))
    (.need (iC ((a:Nat):Int) (List.length b))<|.need (jt a (List.length b))<|.need (iC ((a:Nat):Int) (List.length c))<|.need (jt a (List.length c))<|.ask ((List.getD b a 0) != (List.getD c a 0))
      (.leaf (.inr (.inr (.r0 false))))
      (.need (ej .i64 (((a+1):Nat):Int))<|.leaf (.inl (a+1))))
    (.leaf (.inr (.inl ())))
def E9(a:List Int)(b:List Int) :Nat→Option ((Nat)⊕((Unit)⊕(jV))):=fun c =>
  (Bw a b c).run
theorem abU(c:Lv)(a:List Int)(d:Lv)(b:List Int)(e:Nat) :Sg prog [] P8 (sJ c a d b e) (E9 a b e) (sJ c a d b) (aS 0 Bv uJ):=by
  unfold E9;exact Sg.seg (C:=C0) ap ww 60 P8 (sJ c a d b e) (Bw a b e) (sJ c a d b) (aS 0 Bv uJ) [⟨[],[],[4]⟩,⟨[],[],[0,1,5]⟩,⟨[],[],[]⟩] (by kernel_rfl)
def ad4:Unit→aM:=Bv
def MM:T ((Empty)⊕(jV)) :=
  .leaf (.inr (.r0 true))
def mN(a:List Int)(b:List Int) :Option jV:=me (aH ((P7 a b).run) fun _ =>
  aH (eh (E9 a b) 0) fun _ =>
  (MM).run)
theorem ad5(d:Lv)(b:List Int)(e:Lv)(c:List Int){x:jV}(h:mN b c=some x) :ax prog mn [] [.imm d (.ns .u64 b) 1 1 0 (List.length b),.imm e (.ns .u64 c) 1 1 0 (List.length c)] (J3 x) :=
  Sg.contract true J3 (by kernel_rfl:prog.funcs[mn]? = some (FN mn)) (by kernel_rfl:(FN mn).body=some (bB mn)) (Sg.cut 4 HC (Sg.seg (C:=C0) ap ww 60 (vR.take 4) (aT (FN mn) [] [.imm d (.ns .u64 b) 1 1 0 (List.length b),.imm e (.ns .u64 c) 1 1 0 (List.length c)]) (P7 b c) (P6 d b e c) uJ [⟨[],[],[4]⟩,⟨[],[],[0,1,5]⟩] (by kernel_rfl)) (fun a=>by cases a;exact Sg.cut 1 HC (Sg.pre ⟨[],[],[0,1,5]⟩ rfl (by kernel_rfl:NS.on ⟨[],[],[0,1,5]⟩ (P6 d b e c ())=(sJ d b e c) 0) (cw (I:=(sJ d b e c)) (J:=(Bv)) (id:=0) (by kernel_rfl:((vR.drop 4).take 1) = [.block 0 (.loop (bW ((((vR.drop 4).take 1)).headD .skip)))]) HC (ad3 _) (fun s=>by exact abU d b e c s) 0)) (fun a=>by cases a;exact Sg.seg (C:=C0) ap ww 60 ((vR.drop 4).drop 1) (ad4 ()) (MM) (fun a:Empty=>a.elim) uJ [⟨[],[],[4]⟩] (by kernel_rfl))))
    (fun x=>by cases x with | r0 f=>exact ⟨.inr rfl,[.bool false f],[],by kernel_rfl,trivial,by kernel_rfl⟩) h
def vS:Option jV→Bool
  | some _=>true
  | none=>false
def wx:Option jV→Bool
  | some (.r0 x)=>x
  | _=>false
theorem ad6{x:Option jV}(h:vS x=true) :x=some (.r0 (wx x)):=by
  unfold vS at h
  split at h <;> first | rfl | (cases h;done) | (rename_i y;cases y;rfl)
def UC:aL:=cn mn (.cons (.ns .u64) (.cons (.ns .u64) .nil)) fun t=>[⟨J3 (.r0 (wx (mN t.1.2 t.2.1.2))),[vS (mN t.1.2 t.2.1.2)]⟩]
theorem YR:aV prog UC:=aP fun t=>(aQ (fun h=>ad5 t.1.1 t.1.2 t.2.1.1 t.2.1.2 (ad6 h)) ba)
def UD:List aL:=UC :: UB
theorem Cw:bf prog (bi UD):=aw YR ww
end
end Go.Plb.Seat
namespace Go.Plb.Seat
open Go Go.Plb
set_option linter.unusedVariables false
set_option maxRecDepth 100000
noncomputable section
inductive mO where
  | r0 (a:Bool)
def J4:mO→AE×aM
  | .r0 a=>(.ret,⟨an 24 [(4,.bool false a)],[],0⟩)
theorem ad7:l9 J4:=by intro x;cases x <;> (intro h;cases h)
def J5:mO→jv
  | .r0 a=>⟨.bool false a,[]⟩
def P9:List Code:=bS (bB em)
def Qa(a:Bool) :aM:=⟨an 24 [(4,.bool false a)],[],0⟩
def HD(c:Bool)(a:List Int)(d:Int)(e:Bool)(b:List Int)(f:Int) :T ((Bool)⊕(mO)) :=
  .ask (c == e)
    (.need (aR 0 (List.length a) a)<|.need (aR 0 (List.length b) b)<|.need (vS (mN (aa 0 (List.length a) a) (aa 0 (List.length b) b)))<|.ask (wx (mN (aa 0 (List.length a) a) (aa 0 (List.length b) b)))
      (.leaf (.inl (d == f)))
      (.leaf (.inl false)))
    (.leaf (.inl false))
def Qb(a:Bool) :T ((Empty)⊕(mO)) :=
  .leaf (.inr (.r0 a))
def lp(a:Bool)(b:List Int)(c:Int)(d:Bool)(e:List Int)(f:Int) :Option mO:=me (aH ((HD a b c d e f).run) fun g =>
  (Qb g).run)
theorem ad8(d:Bool)(i:Lv)(b:List Int)(e:Int)(f:Bool)(j:Lv)(c:List Int)(g:Int){x:mO}(h:lp d b e f c g=some x) :ax prog em [] [.agg [.bool false d,.imm i (.ns .u64 b) 1 1 0 (List.length b),.int .i64 e],.agg [.bool false f,.imm j (.ns .u64 c) 1 1 0 (List.length c),.int .i64 g]] (J5 x) :=
  Sg.contract true J5 (by kernel_rfl:prog.funcs[em]? = some (FN em)) (by kernel_rfl:(FN em).body=some (bB em)) (Sg.cut 2 ad7 (Sg.seg (C:=C0) ap Cw 60 (P9.take 2) (aT (FN em) [] [.agg [.bool false d,.imm i (.ns .u64 b) 1 1 0 (List.length b),.int .i64 e],.agg [.bool false f,.imm j (.ns .u64 c) 1 1 0 (List.length c),.int .i64 g]]) (HD d b e f c g) Qa J4 [⟨[],[],[4]⟩,⟨[],[],[4]⟩,⟨[],[],[4]⟩] (by kernel_rfl)) (fun k=>by exact Sg.seg (C:=C0) ap Cw 60 (P9.drop 2) (Qa k) (Qb k) (fun a:Empty=>a.elim) J4 [⟨[],[],[4]⟩] (by kernel_rfl)))
    (fun x=>by cases x with | r0 l=>exact ⟨.inr rfl,[.bool false l],[],by kernel_rfl,trivial,by kernel_rfl⟩) h
def sK:Option mO→Bool
  | some _=>true
  | none=>false
def r5:Option mO→Bool
  | some (.r0 x)=>x
  | _=>false
theorem ad9{x:Option mO}(h:sK x=true) :x=some (.r0 (r5 x)):=by
  unfold sK at h
  split at h <;> first | rfl | (cases h;done) | (rename_i y;cases y;rfl)
def UE:aL:=cn em (.cons (.agg (.cons .bool (.cons (.ns .u64) (.cons (.int .i64) .nil)))) (.cons (.agg (.cons .bool (.cons (.ns .u64) (.cons (.int .i64) .nil)))) .nil)) fun t=>[⟨J5 (.r0 (r5 (lp t.1.1 t.1.2.1.2 t.1.2.2.1 t.2.1.1 t.2.1.2.1.2 t.2.1.2.2.1))),[sK (lp t.1.1 t.1.2.1.2 t.1.2.2.1 t.2.1.1 t.2.1.2.1.2 t.2.1.2.2.1)]⟩]
theorem YS:aV prog UE:=aP fun t=>(aQ (fun h=>ad8 t.1.1 t.1.2.1.1 t.1.2.1.2 t.1.2.2.1 t.2.1.1 t.2.1.2.1.1 t.2.1.2.1.2 t.2.1.2.2.1 (ad9 h)) ba)
def UF:List aL:=UE :: UD
theorem wy:bf prog (bi UF):=aw YS Cw
inductive fH where
  | r0 (a:Bool) (b:List Int) (c:Nat) (d:Int)
def Bx:fH→AE×aM
  | .r0 a b c d=>(.ret,⟨an 16 [(2,.ptr 0 1 0 0)],[(0,.vs [.bool false a,.imm .free (.ns .u64 b) 1 1 0 c,.int .i64 d])],1⟩)
theorem MN:l9 Bx:=by intro x;cases x <;> (intro h;cases h)
def HE:fH→jv
  | .r0 a b c d=>⟨.agg [.bool false a,.imm .free (.ns .u64 b) 1 1 0 c,.int .i64 d],[]⟩
def Fa:List Code:=bS (bB kW)
def MO(a:Int) :Int×Bool→aM:=fun (b,c)=>⟨an 16 [(0,.int .i64 a),(2,.ptr 0 1 0 0),(3,.int .u64 b)],[(0,.vs [.bool false c,.nsl,.int .i64 (0:Int)])],1⟩
def Fb(a:Int) :T ((Int×Bool)⊕(fH)) :=
  .ask (decide (a < (0:Int)))
    (.leaf (.inl ((IntKind.u64.wrap ((0:Int) - (IntKind.u64.wrap a))),false)))
    (.leaf (.inl ((IntKind.u64.wrap a),false)))
def MP:Bool×(List Int)×Nat×Int→aM:=fun (a,b,c,d)=>⟨an 16 [(2,.ptr 0 1 0 0)],[(0,.vs [.bool false a,.imm .free (.ns .u64 b) 1 1 0 c,.int .i64 d])],1⟩
def yX(b:Int)(a:Int) :T ((Bool×(List Int)×Nat×Int)⊕(fH)) :=
  .need (aR 0 1 [a])<|.need (jy (bh (decide (b < (0:Int))) (aa 0 1 [a]) (0:Int)))<|.leaf (.inl ((iP (bh (decide (b < (0:Int))) (aa 0 1 [a]) (0:Int))),(iQ (bh (decide (b < (0:Int))) (aa 0 1 [a]) (0:Int))),(iR (bh (decide (b < (0:Int))) (aa 0 1 [a]) (0:Int))),(iS (bh (decide (b < (0:Int))) (aa 0 1 [a]) (0:Int)))))
def MQ(a:Bool)(b:List Int)(c:Nat)(d:Int) :T ((Empty)⊕(fH)) :=
  .leaf (.inr (.r0 a b c d))
def bL(a:Int) :Option fH:=me (aH ((Fb a).run) fun (b,g) =>
  aH ((yX a b).run) fun (c,d,e,f) =>
  (MQ c d e f).run)
theorem abV(b:Int){x:fH}(h:bL b=some x) :ax prog kW [] [.int .i64 b] (HE x) :=
  Sg.contract true HE (by kernel_rfl:prog.funcs[kW]? = some (FN kW)) (by kernel_rfl:(FN kW).body=some (bB kW)) (Sg.cut 4 MN (Sg.seg (C:=C0) ap wy 60 (Fa.take 4) (aT (FN kW) [] [.int .i64 b]) (Fb b) (MO b) Bx [⟨[],[0],[0,2,3]⟩,⟨[],[0],[0,2,3]⟩] (by kernel_rfl)) (fun a=>by obtain ⟨c,i⟩:=a;exact Sg.cut 1 MN (Sg.seg (C:=C0) ap wy 60 ((Fa.drop 4).take 1) (MO b (c,i)) (yX b c) MP Bx [⟨[],[0],[2]⟩] (by kernel_rfl)) (fun a=>by obtain ⟨d,e,f,g⟩:=a;exact Sg.seg (C:=C0) ap wy 60 ((Fa.drop 4).drop 1) (MP (d,e,f,g)) (MQ d e f g) (fun a:Empty=>a.elim) Bx [⟨[],[0],[2]⟩] (by kernel_rfl))))
    (fun x=>by cases x with | r0 j k l m=>exact ⟨.inr rfl,[.agg [.bool false j,.imm .free (.ns .u64 k) 1 1 0 l,.int .i64 m]],[],by kernel_rfl,trivial,by kernel_rfl⟩) h
def nW:Option fH→Bool
  | some _=>true
  | none=>false
def kK:Option fH→Bool
  | some (.r0 x _ _ _)=>x
  | _=>false
def jk:Option fH→List Int
  | some (.r0 _ x _ _)=>x
  | _=>[]
def jl:Option fH→Nat
  | some (.r0 _ _ x _)=>x
  | _=>0
def kL:Option fH→Int
  | some (.r0 _ _ _ x)=>x
  | _=>0
theorem abW{x:Option fH}(h:nW x=true) :x=some (.r0 (kK x) (jk x) (jl x) (kL x)):=by
  unfold nW at h
  split at h <;> first | rfl | (cases h;done) | (rename_i y;cases y;rfl)
def Qc:aL:=cn kW (.cons (.int .i64) .nil) fun t=>[⟨HE (.r0 (kK (bL t.1)) (jk (bL t.1)) (jl (bL t.1)) (kL (bL t.1))),[nW (bL t.1)]⟩]
theorem VP:aV prog Qc:=aP fun t=>(aQ (fun h=>abV t.1 (abW h)) ba)
def Qd:List aL:=Qc :: UF
theorem fI:bf prog (bi Qd):=aw VP wy
inductive ef where
  | r0 (a:Bool)
def jB:ef→AE×aM
  | .r0 a=>(.ret,⟨an 91 [(0,.bool false a)],[],0⟩)
theorem lK:l9 jB:=by intro x;cases x <;> (intro h;cases h)
def HF:ef→jv
  | .r0 a=>⟨.bool false a,[]⟩
def jW:List Code:=bS (bB mR)
def MR:Int×Nat×(List Nat)×(List Nat)→aM:=fun (a,b,c,d)=>⟨an 91 [(1,.ptr 0 1 0 0),(2,.ptr 1 1 0 0)],[(0,.vs [.int .i64 (2:Int),.int .i64 (2:Int),.sl 2 1 1 0 4 4]),(1,.vs [.int .i64 a,.int .i64 a,.sl 3 1 1 0 b b]),(2,.fl c),(3,.fl d)],4⟩
def Cx:T ((Int×Nat×(List Nat)×(List Nat))⊕(ef)) :=
  .need (Du (na (2:Int)))<|.leaf (.inl ((EJ (na (2:Int))),(EK (na (2:Int))),[4611686018427387904,0,0,4613937818241073152],(EL (na (2:Int)))))
def MS(a:Int)(b:Nat)(c:List Nat)(d:List Nat) :Bool×Int→aM:=fun (e,f)=>⟨an 91 [(1,.ptr 0 1 0 0),(2,.ptr 1 1 0 0),(3,.bool false e),(4,.int .i64 f)],[(0,.vs [.int .i64 (2:Int),.int .i64 (2:Int),.sl 2 1 1 0 4 4]),(1,.vs [.int .i64 a,.int .i64 a,.sl 3 1 1 0 b b]),(2,.fl c),(3,.fl d)],4⟩
def wz(a:Int)(b:Nat)(c:List Nat)(d:List Nat) :T ((Bool×Int)⊕(ef)) :=
  .need (aR 0 4 c)<|.need (aR 0 2 [4611686018427387904,4613937818241073152])<|.need (aR 0 b d)<|.need (xy (gB (2:Int) (2:Int) (aa 0 4 c) (aa 0 2 [4611686018427387904,4613937818241073152]) a a (aa 0 b d)))<|.leaf (.inl ((vP (gB (2:Int) (2:Int) (aa 0 4 c) (aa 0 2 [4611686018427387904,4613937818241073152]) a a (aa 0 b d))),(vQ (gB (2:Int) (2:Int) (aa 0 4 c) (aa 0 2 [4611686018427387904,4613937818241073152]) a a (aa 0 b d)))))
def MT(a:Int)(b:Nat)(c:List Nat)(d:List Nat)(e:Bool)(f:Int) :Bool×Int→aM:=fun (g,f8)=>⟨an 91 [(1,.ptr 0 1 0 0),(2,.ptr 1 1 0 0),(3,.bool false e),(4,.int .i64 f),(5,.bool false g),(6,.int .i64 f8)],[(0,.vs [.int .i64 (2:Int),.int .i64 (2:Int),.sl 2 1 1 0 4 4]),(1,.vs [.int .i64 a,.int .i64 a,.sl 3 1 1 0 b b]),(2,.fl c),(3,.fl d)],4⟩
def wB(a:Int)(b:Nat)(c:List Nat)(d:List Nat) :T ((Bool×Int)⊕(ef)) :=
  .need (aR 0 4 c)<|.need (aR 0 2 [4613937818241073152,4611686018427387904])<|.need (aR 0 b d)<|.need (xy (gB (2:Int) (2:Int) (aa 0 4 c) (aa 0 2 [4613937818241073152,4611686018427387904]) a a (aa 0 b d)))<|.leaf (.inl ((vP (gB (2:Int) (2:Int) (aa 0 4 c) (aa 0 2 [4613937818241073152,4611686018427387904]) a a (aa 0 b d))),(vQ (gB (2:Int) (2:Int) (aa 0 4 c) (aa 0 2 [4613937818241073152,4611686018427387904]) a a (aa 0 b d)))))
def MU(a:Bool)(b:Int)(c:Bool)(f8:Int) :Bool×Int→aM:=fun (d,e)=>⟨an 91 [(3,.bool false a),(4,.int .i64 b),(5,.bool false c),(6,.int .i64 f8),(7,.bool false d),(8,.int .i64 e)],[],0⟩
def wC(a:Int)(b:Nat)(c:List Nat)(d:List Nat) :T ((Bool×Int)⊕(ef)) :=
  .need (aR 0 4 c)<|.need (aR 0 2 [4611686018427387904,4613940070040886837])<|.need (aR 0 b d)<|.need (xy (gB (2:Int) (2:Int) (aa 0 4 c) (aa 0 2 [4611686018427387904,4613940070040886837]) a a (aa 0 b d)))<|.leaf (.inl ((vP (gB (2:Int) (2:Int) (aa 0 4 c) (aa 0 2 [4611686018427387904,4613940070040886837]) a a (aa 0 b d))),(vQ (gB (2:Int) (2:Int) (aa 0 4 c) (aa 0 2 [4611686018427387904,4613940070040886837]) a a (aa 0 b d)))))
def MV(a:Bool)(b:Int)(c:Bool)(f8:Int)(d:Bool)(e:Int) :Nat×Bool×(List Int)×Nat×Nat×Int→aM:=fun (f,g,h,i,j,k)=>⟨an 91 [(3,.bool false a),(4,.int .i64 b),(5,.bool false c),(6,.int .i64 f8),(7,.bool false d),(8,.int .i64 e),(9,.ptr 0 1 0 0),(10,.int .i64 ((f:Nat):Int))],[(0,.vs [.bool false g,.imm .free (.ns .u64 h) 1 1 i j,.int .i64 k])],1⟩
def wD:T ((Nat×Bool×(List Int)×Nat×Nat×Int)⊕(ef)) :=
  .need (vw (cQ (1:Int) (1:Int)))<|.leaf (.inl ((wj (cQ (1:Int) (1:Int))),(wk (cQ (1:Int) (1:Int))),(wl (cQ (1:Int) (1:Int))),(wm (cQ (1:Int) (1:Int))),(wn (cQ (1:Int) (1:Int))),(wo (cQ (1:Int) (1:Int)))))
def MW(a:Bool)(b:Int)(c:Bool)(f8:Int)(d:Bool)(e:Int)(f:Nat)(g:Bool)(h:List Int)(i:Nat)(j:Nat)(k:Int) :Bool×(List Int)×Nat×Int→aM:=fun (l,m,n,o)=>⟨an 91 [(3,.bool false a),(4,.int .i64 b),(5,.bool false c),(6,.int .i64 f8),(7,.bool false d),(8,.int .i64 e),(9,.ptr 0 1 0 0),(10,.int .i64 ((f:Nat):Int)),(11,.ptr 1 1 0 0)],[(0,.vs [.bool false g,.imm .free (.ns .u64 h) 1 1 i j,.int .i64 k]),(1,.vs [.bool false l,.imm .free (.ns .u64 m) 1 1 0 n,.int .i64 o])],2⟩
def wE:T ((Bool×(List Int)×Nat×Int)⊕(ef)) :=
  .need (Bu (gU (-94:Int)))<|.leaf (.inl ((Cs (gU (-94:Int))),(Cv (gU (-94:Int))),(Ct (gU (-94:Int))),(Cu (gU (-94:Int)))))
def MX(a:Bool)(b:Int)(c:Bool)(f8:Int)(d:Bool)(e:Int)(f:Nat)(g:Bool)(h:List Int)(i:Nat)(j:Nat)(k:Int)(l:Bool)(m:List Int)(n:Nat)(o:Int) :Nat×Bool×(List Int)×Nat×Nat×Int→aM:=fun (p,q,r,s,t,u)=>⟨an 91 [(3,.bool false a),(4,.int .i64 b),(5,.bool false c),(6,.int .i64 f8),(7,.bool false d),(8,.int .i64 e),(9,.ptr 0 1 0 0),(10,.int .i64 ((f:Nat):Int)),(11,.ptr 1 1 0 0),(13,.ptr 2 1 0 0),(14,.int .i64 ((p:Nat):Int))],[(0,.vs [.bool false g,.imm .free (.ns .u64 h) 1 1 i j,.int .i64 k]),(1,.vs [.bool false l,.imm .free (.ns .u64 m) 1 1 0 n,.int .i64 o]),(2,.vs [.bool false q,.imm .free (.ns .u64 r) 1 1 s t,.int .i64 u])],3⟩
def wF:T ((Nat×Bool×(List Int)×Nat×Nat×Int)⊕(ef)) :=
  .need (aR 0 2 [4613937818241073152,4616189618054758400])<|.need (yF (dp (1:Int) (2:Int) (aa 0 2 [4613937818241073152,4616189618054758400])))<|.leaf (.inl ((yG (dp (1:Int) (2:Int) (aa 0 2 [4613937818241073152,4616189618054758400]))),(yH (dp (1:Int) (2:Int) (aa 0 2 [4613937818241073152,4616189618054758400]))),(yI (dp (1:Int) (2:Int) (aa 0 2 [4613937818241073152,4616189618054758400]))),(yJ (dp (1:Int) (2:Int) (aa 0 2 [4613937818241073152,4616189618054758400]))),(yK (dp (1:Int) (2:Int) (aa 0 2 [4613937818241073152,4616189618054758400]))),(yL (dp (1:Int) (2:Int) (aa 0 2 [4613937818241073152,4616189618054758400])))))
def MY(a:Bool) :aM:=⟨an 91 [(0,.bool false a)],[],0⟩
def wG(o : Bool)(p : Int)(q : Bool)(f8 : Int)(r : Bool)(s : Int)(t : Nat)(i : Bool)(a : List Int)(b : Nat)(c : Nat)(j : Int)(k : Bool)(d : List Int)(e : Nat)(l : Int)(u : Nat)(m : Bool)(f : List Int)(g : Nat)(h : Nat)(n : Int) : T ((Bool) ⊕ (ef)) :=
  .ask (p == (0 : Int))
    (.ask (f8 == (0:Int))
      (.ask (s == (0:Int))
        (.ask (((t:Nat):Int) == (0:Int))
          (.ask (((u:Nat):Int) == (0:Int))
            (.ask o
              (.ask (!q)
                (.ask (!r)
                  (.need (aR b c a)<|.need (aR 0 e d)<|.need (sK (lp i (aa b c a) j k (aa 0 e d) l))<|.ask (r5 (lp i (aa b c a) j k (aa 0 e d) l))
                    (.need (nW (bL (25:Int)))<|.need (aR g h f)<|.need (aR 0 (jl (bL (25:Int))) (jk (bL (25:Int))))<|.need (sK (lp m (aa g h f) n (kK (bL (25:Int))) (aa 0 (jl (bL (25:Int))) (jk (bL (25:Int)))) (kL (bL (25:Int)))))<|.leaf (.inl (r5 (lp m (aa g h f) n (kK (bL (25:Int))) (aa 0 (jl (bL (25:Int))) (jk (bL (25:Int)))) (kL (bL (25:Int)))))))
                    (.leaf (.inl false)))
                  (.leaf (.inl false)))
                (.leaf (.inl false)))
              (.leaf (.inl false)))
            (.leaf (.inl false)))
          (.leaf (.inl false)))
        (.leaf (.inl false)))
      (.leaf (.inl false)))
    (.leaf (.inl false))
def KA(a:Bool) :T ((Empty)⊕(ef)) :=
  .leaf (.inr (.r0 a))
def jC:Option ef:=me (aH ((Cx).run) fun (a,b,c,d) =>
  aH ((wz a b c d).run) fun (e,f) =>
  aH ((wB a b c d).run) fun (g,f8) =>
  aH ((wC a b c d).run) fun (h,i) =>
  aH ((wD).run) fun (j,k,l,m,n,o) =>
  aH ((wE).run) fun (p,q,r,s) =>
  aH ((wF).run) fun (t,u,v,w,x,y) =>
  aH ((wG e f g f8 h i j k l m n o p q r s t u v w x y).run) fun z =>
  (KA z).run)
theorem abX{x:ef}(h:jC=some x) :ax prog mR [] [] (HF x) :=
  Sg.contract false HF (by kernel_rfl:prog.funcs[mR]? = some (FN mR)) (by kernel_rfl:(FN mR).body=some (bB mR)) (Sg.cut 3 lK (Sg.seg (C:=C0) ap fI 60 (jW.take 3) (aT (FN mR) [] []) (Cx) MR jB [⟨[],[32,80,16,64],[1,2]⟩] (by kernel_rfl)) (fun a=>by obtain ⟨e,f,g,i⟩:=a;exact Sg.cut 1 lK (Sg.seg (C:=C0) ap fI 60 ((jW.drop 3).take 1) (MR (e,f,g,i)) (wz e f g i) (MS e f g i) jB [⟨[],[0,1,2,3],[1,2,3,4]⟩] (by kernel_rfl)) (fun a=>by obtain ⟨b,c⟩:=a;exact Sg.cut 1 lK (Sg.seg (C:=C0) ap fI 60 (((jW.drop 3).drop 1).take 1) (MS e f g i (b,c)) (wB e f g i) (MT e f g i b c) jB [⟨[],[0,1,2,3],[1,2,3,4,5,6]⟩] (by kernel_rfl)) (fun a=>by obtain ⟨d,f8⟩:=a;exact Sg.cut 1 lK (Sg.seg (C:=C0) ap fI 60 ((((jW.drop 3).drop 1).drop 1).take 1) (MT e f g i b c (d,f8)) (wC e f g i) (MU b c d f8) jB [⟨[],[],[3,4,5,6,7,8]⟩] (by kernel_rfl)) (fun a=>by obtain ⟨j,k⟩:=a;exact Sg.cut 1 lK (Sg.seg (C:=C0) ap fI 60 (((((jW.drop 3).drop 1).drop 1).drop 1).take 1) (MU b c d f8 (j,k)) (wD) (MV b c d f8 j k) jB [⟨[],[64],[3,4,5,6,7,8,9,10]⟩] (by kernel_rfl)) (fun a=>by obtain ⟨l,m,n,o,p,q⟩:=a;exact Sg.cut 1 lK (Sg.seg (C:=C0) ap fI 60 ((((((jW.drop 3).drop 1).drop 1).drop 1).drop 1).take 1) (MV b c d f8 j k (l,m,n,o,p,q)) (wE) (MW b c d f8 j k l m n o p q) jB [⟨[],[0,65],[3,4,5,6,7,8,9,10,11]⟩] (by kernel_rfl)) (fun a=>by obtain ⟨r,s,t,u⟩:=a;exact Sg.cut 1 lK (Sg.seg (C:=C0) ap fI 60 (((((((jW.drop 3).drop 1).drop 1).drop 1).drop 1).drop 1).take 1) (MW b c d f8 j k l m n o p q (r,s,t,u)) (wF) (MX b c d f8 j k l m n o p q r s t u) jB [⟨[],[0,1,98],[3,4,5,6,7,8,9,10,11,13,14]⟩] (by kernel_rfl)) (fun a=>by obtain ⟨v,w,y,z,A,B⟩:=a;exact Sg.cut 1 lK (Sg.seg (C:=C0) ap fI 60 ((((((((jW.drop 3).drop 1).drop 1).drop 1).drop 1).drop 1).drop 1).take 1) (MX b c d f8 j k l m n o p q r s t u (v,w,y,z,A,B)) (wG b c d f8 j k l m n o p q r s t u v w y z A B) MY jB [⟨[],[],[0]⟩,⟨[],[],[0]⟩,⟨[],[],[0]⟩,⟨[],[],[0]⟩,⟨[],[],[0]⟩,⟨[],[],[0]⟩,⟨[],[],[0]⟩,⟨[],[],[0]⟩,⟨[],[],[0]⟩,⟨[],[],[0]⟩] (by kernel_rfl)) (fun D=>by exact Sg.seg (C:=C0) ap fI 60 ((((((((jW.drop 3).drop 1).drop 1).drop 1).drop 1).drop 1).drop 1).drop 1) (MY D) (KA D) (fun a:Empty=>a.elim) jB [⟨[],[],[0]⟩] (by kernel_rfl))))))))))
    (fun x=>by cases x with | r0 E=>exact ⟨.inr rfl,[.bool false E],[],by kernel_rfl,trivial,by kernel_rfl⟩) h
def qv:Option ef→Bool
  | some _=>true
  | none=>false
def qw:Option ef→Bool
  | some (.r0 x)=>x
  | _=>false
theorem abY{x:Option ef}(h:qv x=true) :x=some (.r0 (qw x)):=by
  unfold qv at h
  split at h <;> first | rfl | (cases h;done) | (rename_i y;cases y;rfl)
def Qe:aL:=cn mR .nil fun t=>[⟨HF (.r0 (qw (jC))),[qv (jC)]⟩]
theorem VQ:aV prog Qe:=aP fun t=>(aQ (fun h=>abX (abY h)) ba)
def Qf:List aL:=Qe :: Qd
theorem Ad:bf prog (bi Qf):=aw VQ fI
inductive iV where
  | r0 (a:Bool)
def Cy:iV→AE×aM
  | .r0 a=>(.ret,⟨an 24 [(4,.bool false a)],[],0⟩)
theorem VS:l9 Cy:=by intro x;cases x <;> (intro h;cases h)
def Cz:iV→jv
  | .r0 a=>⟨.bool false a,[]⟩
def Ii:List Code:=bS (bB em)
def Ij(a:Bool) :aM:=⟨an 24 [(4,.bool false a)],[],0⟩
def Ae(c:Bool)(a:List Int)(d:Int)(b:List Int)(e:Int) :T ((Bool)⊕(iV)) :=
  .ask (c == false)
    (.need (aR 0 (List.length a) a)<|.need (aR 0 (List.length b) b)<|.need (vS (mN (aa 0 (List.length a) a) (aa 0 (List.length b) b)))<|.ask (wx (mN (aa 0 (List.length a) a) (aa 0 (List.length b) b)))
      (.leaf (.inl (d == e)))
      (.leaf (.inl false)))
    (.leaf (.inl false))
def Ik(a:Bool) :T ((Empty)⊕(iV)) :=
  .leaf (.inr (.r0 a))
def l7(a:Bool)(b:List Int)(c:Int)(d:List Int)(e:Int) :Option iV:=me (aH ((Ae a b c d e).run) fun f =>
  (Ik f).run)
theorem VT(d:Bool)(g:Lv)(b:List Int)(e:Int)(i:Lv)(c:List Int)(f:Int){x:iV}(h:l7 d b e c f=some x) :ax prog em [] [.agg [.bool false d,.imm g (.ns .u64 b) 1 1 0 (List.length b),.int .i64 e],.agg [.bool true false,.imm i (.ns .u64 c) 1 1 0 (List.length c),.int .i64 f]] (Cz x) :=
  Sg.contract true Cz (by kernel_rfl:prog.funcs[em]? = some (FN em)) (by kernel_rfl:(FN em).body=some (bB em)) (Sg.cut 2 VS (Sg.seg (C:=C0) ap Ad 60 (Ii.take 2) (aT (FN em) [] [.agg [.bool false d,.imm g (.ns .u64 b) 1 1 0 (List.length b),.int .i64 e],.agg [.bool true false,.imm i (.ns .u64 c) 1 1 0 (List.length c),.int .i64 f]]) (Ae d b e c f) Ij Cy [⟨[],[],[4]⟩,⟨[],[],[4]⟩,⟨[],[],[4]⟩] (by kernel_rfl)) (fun j=>by exact Sg.seg (C:=C0) ap Ad 60 (Ii.drop 2) (Ij j) (Ik j) (fun a:Empty=>a.elim) Cy [⟨[],[],[4]⟩] (by kernel_rfl)))
    (fun x=>by cases x with | r0 k=>exact ⟨.inr rfl,[.bool false k],[],by kernel_rfl,trivial,by kernel_rfl⟩) h
def uK:Option iV→Bool
  | some _=>true
  | none=>false
def wT:Option iV→Bool
  | some (.r0 x)=>x
  | _=>false
theorem VU{x:Option iV}(h:uK x=true) :x=some (.r0 (wT x)):=by
  unfold uK at h
  split at h <;> first | rfl | (cases h;done) | (rename_i y;cases y;rfl)
def KB:aL:=cn em (.cons (.agg (.cons .bool (.cons (.ns .u64) (.cons (.int .i64) .nil)))) (.cons (.agg (.cons (.kbool false) (.cons (.ns .u64) (.cons (.int .i64) .nil)))) .nil)) fun t=>[⟨Cz (.r0 (wT (l7 t.1.1 t.1.2.1.2 t.1.2.2.1 t.2.1.2.1.2 t.2.1.2.2.1))),[uK (l7 t.1.1 t.1.2.1.2 t.1.2.2.1 t.2.1.2.1.2 t.2.1.2.2.1)]⟩]
theorem Ry:aV prog KB:=aP fun t=>(aQ (fun h=>VT t.1.1 t.1.2.1.1 t.1.2.1.2 t.1.2.2.1 t.2.1.2.1.1 t.2.1.2.1.2 t.2.1.2.2.1 (VU h)) ba)
def KC:List aL:=KB :: Qf
theorem wU:bf prog (bi KC):=aw Ry Ad
inductive gF where
  | r0 (a:Bool) (b:List Int) (c:Nat) (d:Int)
def HG:gF→AE×aM
  | .r0 a b c d=>(.ret,⟨an 14 [(4,.ptr 0 1 0 0)],[(0,.vs [.bool false a,.imm .free (.ns .u64 b) 1 1 0 c,.int .i64 d])],1⟩)
theorem abZ:l9 HG:=by intro x;cases x <;> (intro h;cases h)
def HH:gF→jv
  | .r0 a b c d=>⟨.agg [.bool false a,.imm .free (.ns .u64 b) 1 1 0 c,.int .i64 d],[]⟩
def MZ:List Code:=bS (bB kY)
def M0:Bool×Bool×(List Int)×Nat×Int→aM:=fun (a,b,c,d,e)=>⟨an 14 [(4,.ptr 0 1 0 0),(5,.ptr 1 1 0 0)],[(0,.vs [.bool false a,.nsl,.int .i64 (0:Int)]),(1,.vs [.bool false b,.imm .free (.ns .u64 c) 1 1 0 d,.int .i64 e])],2⟩
def Fc(c:Bool)(a:List Int)(d:Int)(e:Bool)(b:List Int)(f:Int) :T ((Bool×Bool×(List Int)×Nat×Int)⊕(gF)) :=
  .need (aR 0 (List.length a) a)<|.need (aR 0 (List.length b) b)<|.need (Ds (jg c (aa 0 (List.length a) a) d e (aa 0 (List.length b) b) f))<|.leaf (.inl (false,(EF (jg c (aa 0 (List.length a) a) d e (aa 0 (List.length b) b) f)),(EG (jg c (aa 0 (List.length a) a) d e (aa 0 (List.length b) b) f)),(EH (jg c (aa 0 (List.length a) a) d e (aa 0 (List.length b) b) f)),(EI (jg c (aa 0 (List.length a) a) d e (aa 0 (List.length b) b) f))))
def M1(a:Bool)(b:List Int)(c:Nat)(d:Int) :T ((Empty)⊕(gF)) :=
  .leaf (.inr (.r0 a b c d))
def aB(a:Bool)(b:List Int)(c:Int)(d:Bool)(e:List Int)(f:Int) :Option gF:=me (aH ((Fc a b c d e f).run) fun (k,g,h,i,j) =>
  (M1 g h i j).run)
theorem ab0(d:Bool)(i:Lv)(b:List Int)(e:Int)(f:Bool)(j:Lv)(c:List Int)(g:Int){x:gF}(h:aB d b e f c g=some x) :ax prog kY [] [.agg [.bool false d,.imm i (.ns .u64 b) 1 1 0 (List.length b),.int .i64 e],.agg [.bool false f,.imm j (.ns .u64 c) 1 1 0 (List.length c),.int .i64 g]] (HH x) :=
  Sg.contract true HH (by kernel_rfl:prog.funcs[kY]? = some (FN kY)) (by kernel_rfl:(FN kY).body=some (bB kY)) (Sg.cut 2 abZ (Sg.seg (C:=C0) ap wU 60 (MZ.take 2) (aT (FN kY) [] [.agg [.bool false d,.imm i (.ns .u64 b) 1 1 0 (List.length b),.int .i64 e],.agg [.bool false f,.imm j (.ns .u64 c) 1 1 0 (List.length c),.int .i64 g]]) (Fc d b e f c g) M0 HG [⟨[],[32,144],[4,5]⟩] (by kernel_rfl)) (fun a=>by obtain ⟨o,k,l,m,n⟩:=a;exact Sg.seg (C:=C0) ap wU 60 (MZ.drop 2) (M0 (o,k,l,m,n)) (M1 k l m n) (fun a:Empty=>a.elim) HG [⟨[],[0],[4]⟩] (by kernel_rfl)))
    (fun x=>by cases x with | r0 p q r s=>exact ⟨.inr rfl,[.agg [.bool false p,.imm .free (.ns .u64 q) 1 1 0 r,.int .i64 s]],[],by kernel_rfl,trivial,by kernel_rfl⟩) h
def jX:Option gF→Bool
  | some _=>true
  | none=>false
def co:Option gF→Bool
  | some (.r0 x _ _ _)=>x
  | _=>false
def bO:Option gF→List Int
  | some (.r0 _ x _ _)=>x
  | _=>[]
def bP:Option gF→Nat
  | some (.r0 _ _ x _)=>x
  | _=>0
def cp:Option gF→Int
  | some (.r0 _ _ _ x)=>x
  | _=>0
theorem ab1{x:Option gF}(h:jX x=true) :x=some (.r0 (co x) (bO x) (bP x) (cp x)):=by
  unfold jX at h
  split at h <;> first | rfl | (cases h;done) | (rename_i y;cases y;rfl)
def Qg:aL:=cn kY (.cons (.agg (.cons .bool (.cons (.ns .u64) (.cons (.int .i64) .nil)))) (.cons (.agg (.cons .bool (.cons (.ns .u64) (.cons (.int .i64) .nil)))) .nil)) fun t=>[⟨HH (.r0 (co (aB t.1.1 t.1.2.1.2 t.1.2.2.1 t.2.1.1 t.2.1.2.1.2 t.2.1.2.2.1)) (bO (aB t.1.1 t.1.2.1.2 t.1.2.2.1 t.2.1.1 t.2.1.2.1.2 t.2.1.2.2.1)) (bP (aB t.1.1 t.1.2.1.2 t.1.2.2.1 t.2.1.1 t.2.1.2.1.2 t.2.1.2.2.1)) (cp (aB t.1.1 t.1.2.1.2 t.1.2.2.1 t.2.1.1 t.2.1.2.1.2 t.2.1.2.2.1))),[jX (aB t.1.1 t.1.2.1.2 t.1.2.2.1 t.2.1.1 t.2.1.2.1.2 t.2.1.2.2.1)]⟩]
theorem VV:aV prog Qg:=aP fun t=>(aQ (fun h=>ab0 t.1.1 t.1.2.1.1 t.1.2.1.2 t.1.2.2.1 t.2.1.1 t.2.1.2.1.1 t.2.1.2.1.2 t.2.1.2.2.1 (ab1 h)) ba)
def Qh:List aL:=Qg :: KC
theorem Af:bf prog (bi Qh):=aw VV wU
end
end Go.Plb.Seat
namespace Go.Plb.Seat
open Go Go.Plb
set_option linter.unusedVariables false
set_option maxRecDepth 100000
noncomputable section
inductive pG where
  | r0 (a:Bool)
def M2:pG→AE×aM
  | .r0 a=>(.ret,⟨an 32 [(2,.bool false a)],[],0⟩)
theorem aht:l9 M2:=by intro x;cases x <;> (intro h;cases h)
def M3:pG→jv
  | .r0 a=>⟨.bool false a,[]⟩
def UG:List Code:=bS (bB qz)
def UH(a:Bool) :aM:=⟨an 32 [(2,.bool false a)],[],0⟩
def J6(a:Int)(b:Int)(c:List Nat) :T ((Bool)⊕(pG)) :=
  .ask (decide (a ≥ (0:Int)))
    (.ask (decide (a≤(512:Int)))
      (.ask (decide (b ≥ (0:Int)))
        (.ask (decide (b≤(512:Int)))
          (.need (ej .i64 (a * b))<|.leaf (.inl ((((List.length c):Nat):Int) == (a * b))))
          (.leaf (.inl false)))
        (.leaf (.inl false)))
      (.leaf (.inl false)))
    (.leaf (.inl false))
def UI(a:Bool) :T ((Empty)⊕(pG)) :=
  .leaf (.inr (.r0 a))
def nt(a:Int)(b:Int)(c:List Nat) :Option pG:=me (aH ((J6 a b c).run) fun d =>
  (UI d).run)
theorem ahu(c:Int)(d:Int)(e:Lv)(b:List Nat){x:pG}(h:nt c d b=some x) :ax prog qz [] [.agg [.int .i64 c,.int .i64 d,.imm e (.fl b) 1 1 0 (List.length b)]] (M3 x) :=
  Sg.contract false M3 (by kernel_rfl:prog.funcs[qz]? = some (FN qz)) (by kernel_rfl:(FN qz).body=some (bB qz)) (Sg.cut 2 aht (Sg.seg (C:=C0) ap Af 60 (UG.take 2) (aT (FN qz) [] [.agg [.int .i64 c,.int .i64 d,.imm e (.fl b) 1 1 0 (List.length b)]]) (J6 c d b) UH M2 [⟨[],[],[2]⟩,⟨[],[],[2]⟩,⟨[],[],[2]⟩,⟨[],[],[2]⟩,⟨[],[],[2]⟩] (by kernel_rfl)) (fun f=>by exact Sg.seg (C:=C0) ap Af 60 (UG.drop 2) (UH f) (UI f) (fun a:Empty=>a.elim) M2 [⟨[],[],[2]⟩] (by kernel_rfl)))
    (fun x=>by cases x with | r0 g=>exact ⟨.inr rfl,[.bool false g],[],by kernel_rfl,trivial,by kernel_rfl⟩) h
def uL:Option pG→Bool
  | some _=>true
  | none=>false
def tN:Option pG→Bool
  | some (.r0 x)=>x
  | _=>false
theorem ahv{x:Option pG}(h:uL x=true) :x=some (.r0 (tN x)):=by
  unfold uL at h
  split at h <;> first | rfl | (cases h;done) | (rename_i y;cases y;rfl)
def Yb:aL:=cn qz (.cons (.agg (.cons (.int .i64) (.cons (.int .i64) (.cons .fl .nil)))) .nil) fun t=>[⟨M3 (.r0 (tN (nt t.1.1 t.1.2.1 t.1.2.2.1.2))),[uL (nt t.1.1 t.1.2.1 t.1.2.2.1.2)]⟩]
theorem ab2:aV prog Yb:=aP fun t=>(aQ (fun h=>ahu t.1.1 t.1.2.1 t.1.2.2.1.1 t.1.2.2.1.2 (ahv h)) ba)
def Yc:List aL:=Yb :: Qh
theorem M4:bf prog (bi Yc):=aw ab2 Af
end
end Go.Plb.Seat
namespace Go.Plb.Seat
open Go Go.Plb
set_option linter.unusedVariables false
set_option maxRecDepth 100000
noncomputable section
inductive nu where
  | r0 (a:Nat)
def aea:nu→AE×aM
  | .r0 a=>(.ret,⟨an 18 [(2,.int .i64 ((a:Nat):Int))],[],0⟩)
def HI:nu→jv
  | .r0 a=>⟨.int .i64 ((a:Nat):Int),[]⟩
def ab3:List Code:=bS (bB mT)
def Fd(a:Int) :T ((Empty)⊕(nu)) :=
  .need (decide ((0:Int)≤(52:Int)))<|.ask ((fv .and .u64 (Int.fdiv a (2 ^ (min (Int.toNat (52:Int)) (IntKind.u64.bits)))) (2047:Int)) == (2047:Int))
    (.ask ((fv .and .u64 a (4503599627370495:Int)) == (0:Int))
      (.leaf (.inr (.r0 4)))
      (.leaf (.inr (.r0 5))))
    (.ask (decide ((fv .and .u64 (Int.fdiv a (2 ^ (min (Int.toNat (52:Int)) (IntKind.u64.bits)))) (2047:Int)) > (0:Int)))
      (.leaf (.inr (.r0 3)))
      (.ask (decide ((fv .and .u64 a (4503599627370495:Int)) > (0:Int)))
        (.leaf (.inr (.r0 2)))
        (.leaf (.inr (.r0 1)))))
def nv(a:Int) :Option nu:=me ((Fd a).run)
theorem ab4(b:Int){x:nu}(h:nv b=some x) :ax prog mT [] [.int .u64 b] (HI x) :=
  Sg.contract false HI (by kernel_rfl:prog.funcs[mT]? = some (FN mT)) (by kernel_rfl:(FN mT).body=some (bB mT)) (Sg.seg (C:=C0) ap M4 60 ab3 (aT (FN mT) [] [.int .u64 b]) (Fd b) (fun a:Empty=>a.elim) aea [⟨[],[],[2]⟩,⟨[],[],[2]⟩,⟨[],[],[2]⟩,⟨[],[],[2]⟩,⟨[],[],[2]⟩] (by kernel_rfl))
    (fun x=>by cases x with | r0 c=>exact ⟨.inr rfl,[.int .i64 ((c:Nat):Int)],[],by kernel_rfl,trivial,by kernel_rfl⟩) h
def tO:Option nu→Bool
  | some _=>true
  | none=>false
def uM:Option nu→Nat
  | some (.r0 x)=>x
  | _=>0
theorem ab5{x:Option nu}(h:tO x=true) :x=some (.r0 (uM x)):=by
  unfold tO at h
  split at h <;> first | rfl | (cases h;done) | (rename_i y;cases y;rfl)
def Qi:aL:=cn mT (.cons (.int .u64) .nil) fun t=>[⟨HI (.r0 (uM (nv t.1))),[tO (nv t.1)]⟩]
theorem VW:aV prog Qi:=aP fun t=>(aQ (fun h=>ab4 t.1 (ab5 h)) ba)
def Qj:List aL:=Qi :: Yc
theorem nG:bf prog (bi Qj):=aw VW M4
inductive fj where
  | r0 (a:Bool) (b:Int) (c:Int)
def sL:fj→AE×aM
  | .r0 a b c=>(.ret,⟨an 27 [(2,.ptr 0 1 0 0)],[(0,.vs [.bool false a,.int .u64 b,.int .i64 c])],1⟩)
theorem yY:l9 sL:=by intro x;cases x <;> (intro h;cases h)
def HJ:fj→jv
  | .r0 a b c=>⟨.agg [.bool false a,.int .u64 b,.int .i64 c],[]⟩
def tP:List Code:=bS (bB mS)
def M5(a:Int) :Bool×Bool×Bool×Int→aM:=fun (b,c,d,e)=>⟨an 27 [(0,.int .u64 a),(2,.ptr 0 1 0 0),(3,.ptr 1 1 0 0),(11,.bool false b)],[(0,.vs [.bool false c,.int .u64 (0:Int),.int .i64 (0:Int)]),(1,.vs [.bool false d,.int .u64 e,.int .i64 (-1074:Int)])],2⟩
def Fe(a:Int) :T ((Bool×Bool×Bool×Int)⊕(fj)) :=
  .need (tO (nv a))<|.leaf (.inl (((((uM (nv a)):Nat):Int) == (1:Int)),false,(decide (a ≥ (9223372036854775808:Int))),(fv .and .u64 a (4503599627370495:Int))))
def M6(a:Int)(b:Bool)(c:Bool)(d:Int)(e:Int) :aM:=⟨an 27 [(0,.int .u64 a),(2,.ptr 0 1 0 0),(3,.ptr 1 1 0 0)],[(0,.vs [.bool false b,.int .u64 (0:Int),.int .i64 (0:Int)]),(1,.vs [.bool false c,.int .u64 d,.int .i64 e])],2⟩
def yZ(a:Bool) :T ((Int)⊕(fj)) :=
  .ask a
    (.leaf (.inl (0:Int)))
    (.leaf (.inl (-1074:Int)))
def M7(a:Int)(b:Bool)(c:Bool)(d:Int)(e:Int)(f:Bool) :aM:=⟨an 27 [(0,.int .u64 a),(2,.ptr 0 1 0 0),(3,.ptr 1 1 0 0),(15,.bool false f)],[(0,.vs [.bool false b,.int .u64 (0:Int),.int .i64 (0:Int)]),(1,.vs [.bool false c,.int .u64 d,.int .i64 e])],2⟩
def y4(a:Int) :T ((Bool)⊕(fj)) :=
  .need (tO (nv a))<|.leaf (.inl ((((uM (nv a)):Nat):Int) == (3:Int)))
def M8(a:Bool)(b:Bool) :Int×Int→aM:=fun (c,d)=>⟨an 27 [(2,.ptr 0 1 0 0),(3,.ptr 1 1 0 0)],[(0,.vs [.bool false a,.int .u64 (0:Int),.int .i64 (0:Int)]),(1,.vs [.bool false b,.int .u64 c,.int .i64 d])],2⟩
def y5(a:Int)(b:Int)(c:Int)(d:Bool) :T ((Int×Int)⊕(fj)) :=
  .ask d
    (.need (decide ((0:Int)≤(52:Int)))<|.need (ej .i64 ((IntKind.i64.wrap (fv .and .u64 (Int.fdiv a (2 ^ (min (Int.toNat (52:Int)) (IntKind.u64.bits)))) (2047:Int))) - (1075:Int)))<|.leaf (.inl ((IntKind.u64.wrap (b+(4503599627370496:Int))),((IntKind.i64.wrap (fv .and .u64 (Int.fdiv a (2 ^ (min (Int.toNat (52:Int)) (IntKind.u64.bits)))) (2047:Int))) - (1075:Int)))))
    (.leaf (.inl (b,c)))
def KD(a:Bool)(b:Int)(c:Int) :T ((Empty)⊕(fj)) :=
  .leaf (.inr (.r0 a b c))
def jD(a:Int) :Option fj:=me (aH ((Fe a).run) fun (b,i,c,d) =>
  aH ((yZ b).run) fun e =>
  aH ((y4 a).run) fun f =>
  aH ((y5 a d e f).run) fun (g,h) =>
  (KD c g h).run)
theorem ab6(b:Int){x:fj}(h:jD b=some x) :ax prog mS [] [.int .u64 b] (HJ x) :=
  Sg.contract false HJ (by kernel_rfl:prog.funcs[mS]? = some (FN mS)) (by kernel_rfl:(FN mS).body=some (bB mS)) (Sg.cut 3 yY (Sg.seg (C:=C0) ap nG 60 (tP.take 3) (aT (FN mS) [] [.int .u64 b]) (Fe b) (M5 b) sL [⟨[],[0,96],[0,2,3,11]⟩] (by kernel_rfl)) (fun a=>by obtain ⟨g,d,c,e⟩:=a;exact Sg.cut 1 yY (Sg.seg (C:=C0) ap nG 60 ((tP.drop 3).take 1) (M5 b (g,d,c,e)) (yZ g) (M6 b d c e) sL [⟨[],[0,1],[0,2,3]⟩,⟨[],[0,1],[0,2,3]⟩] (by kernel_rfl)) (fun f=>by exact Sg.cut 1 yY (Sg.seg (C:=C0) ap nG 60 (((tP.drop 3).drop 1).take 1) (M6 b d c e f) (y4 b) (M7 b d c e f) sL [⟨[],[0,1],[0,2,3,15]⟩] (by kernel_rfl)) (fun i=>by exact Sg.cut 1 yY (Sg.seg (C:=C0) ap nG 60 ((((tP.drop 3).drop 1).drop 1).take 1) (M7 b d c e f i) (y5 b e f i) (M8 d c) sL [⟨[],[0,1],[2,3]⟩,⟨[],[0,1],[2,3]⟩] (by kernel_rfl)) (fun a=>by obtain ⟨j,k⟩:=a;exact Sg.seg (C:=C0) ap nG 60 ((((tP.drop 3).drop 1).drop 1).drop 1) (M8 d c (j,k)) (KD c j k) (fun a:Empty=>a.elim) sL [⟨[],[0],[2]⟩] (by kernel_rfl))))))
    (fun x=>by cases x with | r0 l m n=>exact ⟨.inr rfl,[.agg [.bool false l,.int .u64 m,.int .i64 n]],[],by kernel_rfl,trivial,by kernel_rfl⟩) h
def y6:Option fj→Bool
  | some _=>true
  | none=>false
def Ag:Option fj→Bool
  | some (.r0 x _ _)=>x
  | _=>false
def Ah:Option fj→Int
  | some (.r0 _ x _)=>x
  | _=>0
def Ai:Option fj→Int
  | some (.r0 _ _ x)=>x
  | _=>0
theorem ab7{x:Option fj}(h:y6 x=true) :x=some (.r0 (Ag x) (Ah x) (Ai x)):=by
  unfold y6 at h
  split at h <;> first | rfl | (cases h;done) | (rename_i y;cases y;rfl)
def Qk:aL:=cn mS (.cons (.int .u64) .nil) fun t=>[⟨HJ (.r0 (Ag (jD t.1)) (Ah (jD t.1)) (Ai (jD t.1))),[y6 (jD t.1)]⟩]
theorem VX:aV prog Qk:=aP fun t=>(aQ (fun h=>ab6 t.1 (ab7 h)) ba)
def Ql:List aL:=Qk :: Qj
theorem uN:bf prog (bi Ql):=aw VX nG
inductive gV where
  | r0 (a:Bool) (b:List Int) (c:Nat) (d:Int)
def DH:gV→AE×aM
  | .r0 a b c d=>(.ret,⟨an 15 [(2,.ptr 0 1 0 0)],[(0,.vs [.bool false a,.imm .free (.ns .u64 b) 1 1 0 c,.int .i64 d])],1⟩)
theorem Qm:l9 DH:=by intro x;cases x <;> (intro h;cases h)
def J7:gV→jv
  | .r0 a b c d=>⟨.agg [.bool false a,.imm .free (.ns .u64 b) 1 1 0 c,.int .i64 d],[]⟩
def HK:List Code:=bS (bB mt)
def Qn:Bool×Bool×Int×Int→aM:=fun (a,b,c,d)=>⟨an 15 [(2,.ptr 0 1 0 0),(3,.ptr 1 1 0 0)],[(0,.vs [.bool false a,.nsl,.int .i64 (0:Int)]),(1,.vs [.bool false b,.int .u64 c,.int .i64 d])],2⟩
def HL(a:Int) :T ((Bool×Bool×Int×Int)⊕(gV)) :=
  .need (y6 (jD a))<|.leaf (.inl (false,(Ag (jD a)),(Ah (jD a)),(Ai (jD a))))
def Qo:Bool×(List Int)×Nat×Int→aM:=fun (a,b,c,d)=>⟨an 15 [(2,.ptr 0 1 0 0)],[(0,.vs [.bool false a,.imm .free (.ns .u64 b) 1 1 0 c,.int .i64 d])],1⟩
def By(b:Bool)(a:Int)(c:Int) :T ((Bool×(List Int)×Nat×Int)⊕(gV)) :=
  .need (aR 0 1 [a])<|.need (jy (bh b (aa 0 1 [a]) c))<|.leaf (.inl ((iP (bh b (aa 0 1 [a]) c)),(iQ (bh b (aa 0 1 [a]) c)),(iR (bh b (aa 0 1 [a]) c)),(iS (bh b (aa 0 1 [a]) c))))
def Qp(a:Bool)(b:List Int)(c:Nat)(d:Int) :T ((Empty)⊕(gV)) :=
  .leaf (.inr (.r0 a b c d))
def iW(a:Int) :Option gV:=me (aH ((HL a).run) fun (i,b,c,d) =>
  aH ((By b c d).run) fun (e,f,g,h) =>
  (Qp e f g h).run)
theorem aeb(b:Int){x:gV}(h:iW b=some x) :ax prog mt [] [.int .u64 b] (J7 x) :=
  Sg.contract true J7 (by kernel_rfl:prog.funcs[mt]? = some (FN mt)) (by kernel_rfl:(FN mt).body=some (bB mt)) (Sg.cut 2 Qm (Sg.seg (C:=C0) ap uN 60 (HK.take 2) (aT (FN mt) [] [.int .u64 b]) (HL b) Qn DH [⟨[],[0,48],[2,3]⟩] (by kernel_rfl)) (fun a=>by obtain ⟨k,c,d,e⟩:=a;exact Sg.cut 1 Qm (Sg.seg (C:=C0) ap uN 60 ((HK.drop 2).take 1) (Qn (k,c,d,e)) (By c d e) Qo DH [⟨[],[0],[2]⟩] (by kernel_rfl)) (fun a=>by obtain ⟨f,g,i,j⟩:=a;exact Sg.seg (C:=C0) ap uN 60 ((HK.drop 2).drop 1) (Qo (f,g,i,j)) (Qp f g i j) (fun a:Empty=>a.elim) DH [⟨[],[0],[2]⟩] (by kernel_rfl))))
    (fun x=>by cases x with | r0 l m n o=>exact ⟨.inr rfl,[.agg [.bool false l,.imm .free (.ns .u64 m) 1 1 0 n,.int .i64 o]],[],by kernel_rfl,trivial,by kernel_rfl⟩) h
def Bz:Option gV→Bool
  | some _=>true
  | none=>false
def CA:Option gV→Bool
  | some (.r0 x _ _ _)=>x
  | _=>false
def CB:Option gV→List Int
  | some (.r0 _ x _ _)=>x
  | _=>[]
def CC:Option gV→Nat
  | some (.r0 _ _ x _)=>x
  | _=>0
def CD:Option gV→Int
  | some (.r0 _ _ _ x)=>x
  | _=>0
theorem aec{x:Option gV}(h:Bz x=true) :x=some (.r0 (CA x) (CB x) (CC x) (CD x)):=by
  unfold Bz at h
  split at h <;> first | rfl | (cases h;done) | (rename_i y;cases y;rfl)
def UJ:aL:=cn mt (.cons (.int .u64) .nil) fun t=>[⟨J7 (.r0 (CA (iW t.1)) (CB (iW t.1)) (CC (iW t.1)) (CD (iW t.1))),[Bz (iW t.1)]⟩]
theorem YT:aV prog UJ:=aP fun t=>(aQ (fun h=>aeb t.1 (aec h)) ba)
def UK:List aL:=UJ :: Ql
theorem CE:bf prog (bi UK):=aw YT uN
inductive gH where
  | r0 (a:Bool) (b:List Int) (c:Nat) (d:Int)
def HM:gH→AE×aM
  | .r0 a b c d=>(.ret,⟨an 6 [(2,.ptr 0 1 0 0)],[(0,.vs [.bool false a,.imm .free (.ns .u64 b) 1 1 0 c,.int .i64 d])],1⟩)
theorem ab8:l9 HM:=by intro x;cases x <;> (intro h;cases h)
def HN:gH→jv
  | .r0 a b c d=>⟨.agg [.bool false a,.imm .free (.ns .u64 b) 1 1 0 c,.int .i64 d],[]⟩
def M9:List Code:=bS (bB kX)
def Na:Bool×(List Int)×Nat×Int→aM:=fun (a,b,c,d)=>⟨an 6 [(2,.ptr 0 1 0 0)],[(0,.vs [.bool false a,.imm .free (.ns .u64 b) 1 1 0 c,.int .i64 d])],1⟩
def Ff(a:Nat) :T ((Bool×(List Int)×Nat×Int)⊕(gH)) :=
  .alt 0
    (.need (!isNaN a)<|.need (Bz (iW ((a:Nat):Int)))<|.leaf (.inl ((CA (iW ((a:Nat):Int))),(CB (iW ((a:Nat):Int))),(CC (iW ((a:Nat):Int))),(CD (iW ((a:Nat):Int))))))
    (.fail)
def Nb(a:Bool)(b:List Int)(c:Nat)(d:Int) :T ((Empty)⊕(gH)) :=
  .leaf (.inr (.r0 a b c d))
def ab(a:Nat) :Option gH:=me (aH ((Ff a).run) fun (b,c,d,e) =>
  (Nb b c d e).run)
theorem ab9(b:Nat){x:gH}(h:ab b=some x) :ax prog kX [] [.flt false b] (HN x) :=
  Sg.contract true HN (by kernel_rfl:prog.funcs[kX]? = some (FN kX)) (by kernel_rfl:(FN kX).body=some (bB kX)) (Sg.cut 2 ab8 (Sg.seg (C:=C0) ap CE 60 (M9.take 2) (aT (FN kX) [] [.flt false b]) (Ff b) Na HM [⟨[],[0],[2]⟩] (by kernel_rfl)) (fun a=>by obtain ⟨c,d,e,f⟩:=a;exact Sg.seg (C:=C0) ap CE 60 (M9.drop 2) (Na (c,d,e,f)) (Nb c d e f) (fun a:Empty=>a.elim) HM [⟨[],[0],[2]⟩] (by kernel_rfl)))
    (fun x=>by cases x with | r0 g i j k=>exact ⟨.inr rfl,[.agg [.bool false g,.imm .free (.ns .u64 i) 1 1 0 j,.int .i64 k]],[],by kernel_rfl,trivial,by kernel_rfl⟩) h
def jY:Option gH→Bool
  | some _=>true
  | none=>false
def ak:Option gH→Bool
  | some (.r0 x _ _ _)=>x
  | _=>false
def ai:Option gH→List Int
  | some (.r0 _ x _ _)=>x
  | _=>[]
def aj:Option gH→Nat
  | some (.r0 _ _ x _)=>x
  | _=>0
def am:Option gH→Int
  | some (.r0 _ _ _ x)=>x
  | _=>0
theorem aca{x:Option gH}(h:jY x=true) :x=some (.r0 (ak x) (ai x) (aj x) (am x)):=by
  unfold jY at h
  split at h <;> first | rfl | (cases h;done) | (rename_i y;cases y;rfl)
def Qq:aL:=cn kX (.cons (.flt false) .nil) fun t=>[⟨HN (.r0 (ak (ab t.1)) (ai (ab t.1)) (aj (ab t.1)) (am (ab t.1))),[jY (ab t.1)]⟩]
theorem VY:aV prog Qq:=aP fun t=>(aQ (fun h=>ab9 t.1 (aca h)) ba)
def Qr:List aL:=Qq :: UK
theorem Aj:bf prog (bi Qr):=aw VY CE
inductive kh where
  | r0 (a:Bool) (b:List Int) (c:Nat) (d:Int)
def Nc:kh→AE×aM
  | .r0 a b c d=>(.ret,⟨an 14 [(4,.ptr 0 1 0 0)],[(0,.vs [.bool false a,.imm .free (.ns .u64 b) 1 1 0 c,.int .i64 d])],1⟩)
theorem ahw:l9 Nc:=by intro x;cases x <;> (intro h;cases h)
def Nd:kh→jv
  | .r0 a b c d=>⟨.agg [.bool false a,.imm .free (.ns .u64 b) 1 1 0 c,.int .i64 d],[]⟩
def UL:List Code:=bS (bB oJ)
def UM:Bool×Bool×(List Int)×Nat×Int→aM:=fun (a,b,c,d,e)=>⟨an 14 [(4,.ptr 0 1 0 0),(5,.ptr 1 1 0 0)],[(0,.vs [.bool false a,.nsl,.int .i64 (0:Int)]),(1,.vs [.bool false b,.imm .free (.ns .u64 c) 1 1 0 d,.int .i64 e])],2⟩
def J8(c:Bool)(a:List Int)(d:Int)(e:Bool)(b:List Int)(f:Int) :T ((Bool×Bool×(List Int)×Nat×Int)⊕(kh)) :=
  .need (aR 0 (List.length a) a)<|.need (aR 0 (List.length b) b)<|.need (yu (ew c (aa 0 (List.length a) a) d e (aa 0 (List.length b) b) f))<|.leaf (.inl (false,(yw (ew c (aa 0 (List.length a) a) d e (aa 0 (List.length b) b) f)),(yx (ew c (aa 0 (List.length a) a) d e (aa 0 (List.length b) b) f)),(yy (ew c (aa 0 (List.length a) a) d e (aa 0 (List.length b) b) f)),(yz (ew c (aa 0 (List.length a) a) d e (aa 0 (List.length b) b) f))))
def UN(a:Bool)(b:List Int)(c:Nat)(d:Int) :T ((Empty)⊕(kh)) :=
  .leaf (.inr (.r0 a b c d))
def eB(a:Bool)(b:List Int)(c:Int)(d:Bool)(e:List Int)(f:Int) :Option kh:=me (aH ((J8 a b c d e f).run) fun (k,g,h,i,j) =>
  (UN g h i j).run)
theorem ahx(d:Bool)(i:Lv)(b:List Int)(e:Int)(f:Bool)(j:Lv)(c:List Int)(g:Int){x:kh}(h:eB d b e f c g=some x) :ax prog oJ [] [.agg [.bool false d,.imm i (.ns .u64 b) 1 1 0 (List.length b),.int .i64 e],.agg [.bool false f,.imm j (.ns .u64 c) 1 1 0 (List.length c),.int .i64 g]] (Nd x) :=
  Sg.contract true Nd (by kernel_rfl:prog.funcs[oJ]? = some (FN oJ)) (by kernel_rfl:(FN oJ).body=some (bB oJ)) (Sg.cut 2 ahw (Sg.seg (C:=C0) ap Aj 60 (UL.take 2) (aT (FN oJ) [] [.agg [.bool false d,.imm i (.ns .u64 b) 1 1 0 (List.length b),.int .i64 e],.agg [.bool false f,.imm j (.ns .u64 c) 1 1 0 (List.length c),.int .i64 g]]) (J8 d b e f c g) UM Nc [⟨[],[32,144],[4,5]⟩] (by kernel_rfl)) (fun a=>by obtain ⟨o,k,l,m,n⟩:=a;exact Sg.seg (C:=C0) ap Aj 60 (UL.drop 2) (UM (o,k,l,m,n)) (UN k l m n) (fun a:Empty=>a.elim) Nc [⟨[],[0],[4]⟩] (by kernel_rfl)))
    (fun x=>by cases x with | r0 p q r s=>exact ⟨.inr rfl,[.agg [.bool false p,.imm .free (.ns .u64 q) 1 1 0 r,.int .i64 s]],[],by kernel_rfl,trivial,by kernel_rfl⟩) h
def y7:Option kh→Bool
  | some _=>true
  | none=>false
def y8:Option kh→Bool
  | some (.r0 x _ _ _)=>x
  | _=>false
def y9:Option kh→List Int
  | some (.r0 _ x _ _)=>x
  | _=>[]
def za:Option kh→Nat
  | some (.r0 _ _ x _)=>x
  | _=>0
def zb:Option kh→Int
  | some (.r0 _ _ _ x)=>x
  | _=>0
theorem ahy{x:Option kh}(h:y7 x=true) :x=some (.r0 (y8 x) (y9 x) (za x) (zb x)):=by
  unfold y7 at h
  split at h <;> first | rfl | (cases h;done) | (rename_i y;cases y;rfl)
def Yd:aL:=cn oJ (.cons (.agg (.cons .bool (.cons (.ns .u64) (.cons (.int .i64) .nil)))) (.cons (.agg (.cons .bool (.cons (.ns .u64) (.cons (.int .i64) .nil)))) .nil)) fun t=>[⟨Nd (.r0 (y8 (eB t.1.1 t.1.2.1.2 t.1.2.2.1 t.2.1.1 t.2.1.2.1.2 t.2.1.2.2.1)) (y9 (eB t.1.1 t.1.2.1.2 t.1.2.2.1 t.2.1.1 t.2.1.2.1.2 t.2.1.2.2.1)) (za (eB t.1.1 t.1.2.1.2 t.1.2.2.1 t.2.1.1 t.2.1.2.1.2 t.2.1.2.2.1)) (zb (eB t.1.1 t.1.2.1.2 t.1.2.2.1 t.2.1.1 t.2.1.2.1.2 t.2.1.2.2.1))),[y7 (eB t.1.1 t.1.2.1.2 t.1.2.2.1 t.2.1.1 t.2.1.2.1.2 t.2.1.2.2.1)]⟩]
theorem acb:aV prog Yd:=aP fun t=>(aQ (fun h=>ahx t.1.1 t.1.2.1.1 t.1.2.1.2 t.1.2.2.1 t.2.1.1 t.2.1.2.1.1 t.2.1.2.1.2 t.2.1.2.2.1 (ahy h)) ba)
def Ye:List aL:=Yd :: Qr
theorem Ne:bf prog (bi Ye):=aw acb Aj
end
end Go.Plb.Seat
namespace Go.Plb.Seat
open Go Go.Plb
set_option linter.unusedVariables false
set_option maxRecDepth 100000
noncomputable section
inductive jZ where
  | r0 (a:Bool) (b:List Int) (c:Nat) (d:Int)
def ahz(a:Lv) :jZ→AE×aM
  | .r0 b c d e=>(.ret,⟨an 8 [(2,.ptr 0 1 0 0)],[(0,.vs [.bool false b,.imm a (.ns .u64 c) 1 1 0 d,.int .i64 e])],1⟩)
def J9(a:Lv) :jZ→jv
  | .r0 b c d e=>⟨.agg [.bool false b,.imm a (.ns .u64 c) 1 1 0 d,.int .i64 e],[]⟩
def aed:List Code:=bS (bB mz)
def HO(b:Bool)(a:List Int)(c:Int) :T ((Empty)⊕(jZ)) :=
  .leaf (.inr (.r0 (!b) a (List.length a) c))
def bJ(a:Bool)(b:List Int)(c:Int) :Option jZ:=me ((HO a b c).run)
theorem aee(d:Bool)(b:Lv)(c:List Int)(e:Int){x:jZ}(h:bJ d c e=some x) :ax prog mz [] [.agg [.bool false d,.imm b (.ns .u64 c) 1 1 0 (List.length c),.int .i64 e]] (J9 b x) :=
  Sg.contract true (J9 b) (by kernel_rfl:prog.funcs[mz]? = some (FN mz)) (by kernel_rfl:(FN mz).body=some (bB mz)) (Sg.seg (C:=C0) ap Ne 60 aed (aT (FN mz) [] [.agg [.bool false d,.imm b (.ns .u64 c) 1 1 0 (List.length c),.int .i64 e]]) (HO d c e) (fun a:Empty=>a.elim) (ahz b) [⟨[],[16],[2]⟩] (by kernel_rfl))
    (fun x=>by cases x with | r0 f g i j=>exact ⟨.inr rfl,[.agg [.bool false f,.imm b (.ns .u64 g) 1 1 0 i,.int .i64 j]],[],by kernel_rfl,trivial,by kernel_rfl⟩) h
def vT:Option jZ→Bool
  | some _=>true
  | none=>false
def iX:Option jZ→Bool
  | some (.r0 x _ _ _)=>x
  | _=>false
def gI:Option jZ→List Int
  | some (.r0 _ x _ _)=>x
  | _=>[]
def gJ:Option jZ→Nat
  | some (.r0 _ _ x _)=>x
  | _=>0
def iY:Option jZ→Int
  | some (.r0 _ _ _ x)=>x
  | _=>0
theorem aef{x:Option jZ}(h:vT x=true) :x=some (.r0 (iX x) (gI x) (gJ x) (iY x)):=by
  unfold vT at h
  split at h <;> first | rfl | (cases h;done) | (rename_i y;cases y;rfl)
def UO:aL:=cn mz (.cons (.agg (.cons .bool (.cons (.ns .u64) (.cons (.int .i64) .nil)))) .nil) fun t=>[⟨J9 t.1.2.1.1 (.r0 (iX (bJ t.1.1 t.1.2.1.2 t.1.2.2.1)) (gI (bJ t.1.1 t.1.2.1.2 t.1.2.2.1)) (gJ (bJ t.1.1 t.1.2.1.2 t.1.2.2.1)) (iY (bJ t.1.1 t.1.2.1.2 t.1.2.2.1))),[vT (bJ t.1.1 t.1.2.1.2 t.1.2.2.1)]⟩]
theorem YU:aV prog UO:=aP fun t=>(aQ (fun h=>aee t.1.1 t.1.2.1.1 t.1.2.1.2 t.1.2.2.1 (aef h)) ba)
def UP:List aL:=UO :: Ye
theorem CF:bf prog (bi UP):=aw YU Ne
inductive jm where
  | r0 (a:Nat) (b:Bool) (c:List Int) (d:Nat) (e:Int)
def Nf:jm→AE×aM
  | .r0 a b c d e=>(.ret,⟨an 12 [(4,.ptr 0 1 0 0),(5,.int .i64 ((a:Nat):Int))],[(0,.vs [.bool false b,.imm .free (.ns .u64 c) 1 1 0 d,.int .i64 e])],1⟩)
theorem ahA:l9 Nf:=by intro x;cases x <;> (intro h;cases h)
def Ng:jm→jv
  | .r0 a b c d e=>⟨.tup [.agg [.bool false b,.imm .free (.ns .u64 c) 1 1 0 d,.int .i64 e],.int .i64 ((a:Nat):Int)],[]⟩
def UQ:List Code:=bS (bB oQ)
def UR:Nat×Bool×(List Int)×Nat×Int→aM:=fun (a,b,c,d,e)=>⟨an 12 [(4,.ptr 0 1 0 0),(5,.int .i64 ((a:Nat):Int))],[(0,.vs [.bool false b,.imm .free (.ns .u64 c) 1 1 0 d,.int .i64 e])],1⟩
def Ka(e:Bool)(d:List Int)(f:Int)(b:Bool)(a:List Int)(c:Int) :T ((Nat×Bool×(List Int)×Nat×Int)⊕(jm)) :=
  .need (aR 0 (List.length a) a)<|.need (vT (bJ b (aa 0 (List.length a) a) c))<|.need (aR 0 (List.length d) d)<|.need (aR 0 (gJ (bJ b (aa 0 (List.length a) a) c)) (gI (bJ b (aa 0 (List.length a) a) c)))<|.need (yu (ew e (aa 0 (List.length d) d) f (iX (bJ b (aa 0 (List.length a) a) c)) (aa 0 (gJ (bJ b (aa 0 (List.length a) a) c)) (gI (bJ b (aa 0 (List.length a) a) c))) (iY (bJ b (aa 0 (List.length a) a) c))))<|.leaf (.inl ((EE (ew e (aa 0 (List.length d) d) f (iX (bJ b (aa 0 (List.length a) a) c)) (aa 0 (gJ (bJ b (aa 0 (List.length a) a) c)) (gI (bJ b (aa 0 (List.length a) a) c))) (iY (bJ b (aa 0 (List.length a) a) c)))),(yw (ew e (aa 0 (List.length d) d) f (iX (bJ b (aa 0 (List.length a) a) c)) (aa 0 (gJ (bJ b (aa 0 (List.length a) a) c)) (gI (bJ b (aa 0 (List.length a) a) c))) (iY (bJ b (aa 0 (List.length a) a) c)))),(yx (ew e (aa 0 (List.length d) d) f (iX (bJ b (aa 0 (List.length a) a) c)) (aa 0 (gJ (bJ b (aa 0 (List.length a) a) c)) (gI (bJ b (aa 0 (List.length a) a) c))) (iY (bJ b (aa 0 (List.length a) a) c)))),(yy (ew e (aa 0 (List.length d) d) f (iX (bJ b (aa 0 (List.length a) a) c)) (aa 0 (gJ (bJ b (aa 0 (List.length a) a) c)) (gI (bJ b (aa 0 (List.length a) a) c))) (iY (bJ b (aa 0 (List.length a) a) c)))),(yz (ew e (aa 0 (List.length d) d) f (iX (bJ b (aa 0 (List.length a) a) c)) (aa 0 (gJ (bJ b (aa 0 (List.length a) a) c)) (gI (bJ b (aa 0 (List.length a) a) c))) (iY (bJ b (aa 0 (List.length a) a) c))))))
def US(a:Nat)(b:Bool)(c:List Int)(d:Nat)(e:Int) :T ((Empty)⊕(jm)) :=
  .leaf (.inr (.r0 a b c d e))
def jn(a:Bool)(b:List Int)(c:Int)(d:Bool)(e:List Int)(f:Int) :Option jm:=me (aH ((Ka a b c d e f).run) fun (g,h,i,j,k) =>
  (US g h i j k).run)
theorem ahB(d:Bool)(i:Lv)(b:List Int)(e:Int)(f:Bool)(j:Lv)(c:List Int)(g:Int){x:jm}(h:jn d b e f c g=some x) :ax prog oQ [] [.agg [.bool false d,.imm i (.ns .u64 b) 1 1 0 (List.length b),.int .i64 e],.agg [.bool false f,.imm j (.ns .u64 c) 1 1 0 (List.length c),.int .i64 g]] (Ng x) :=
  Sg.contract true Ng (by kernel_rfl:prog.funcs[oQ]? = some (FN oQ)) (by kernel_rfl:(FN oQ).body=some (bB oQ)) (Sg.cut 2 ahA (Sg.seg (C:=C0) ap CF 60 (UQ.take 2) (aT (FN oQ) [] [.agg [.bool false d,.imm i (.ns .u64 b) 1 1 0 (List.length b),.int .i64 e],.agg [.bool false f,.imm j (.ns .u64 c) 1 1 0 (List.length c),.int .i64 g]]) (Ka d b e f c g) UR Nf [⟨[],[32],[4,5]⟩] (by kernel_rfl)) (fun a=>by obtain ⟨k,l,m,n,o⟩:=a;exact Sg.seg (C:=C0) ap CF 60 (UQ.drop 2) (UR (k,l,m,n,o)) (US k l m n o) (fun a:Empty=>a.elim) Nf [⟨[],[0],[4,5]⟩] (by kernel_rfl)))
    (fun x=>by cases x with | r0 p q r s t=>exact ⟨.inr rfl,[.agg [.bool false q,.imm .free (.ns .u64 r) 1 1 0 s,.int .i64 t],.int .i64 ((p:Nat):Int)],[],by kernel_rfl,trivial,by kernel_rfl⟩) h
def DI:Option jm→Bool
  | some _=>true
  | none=>false
def Nh:Option jm→Nat
  | some (.r0 x _ _ _ _)=>x
  | _=>0
def Fg:Option jm→Bool
  | some (.r0 _ x _ _ _)=>x
  | _=>false
def Fh:Option jm→List Int
  | some (.r0 _ _ x _ _)=>x
  | _=>[]
def Fi:Option jm→Nat
  | some (.r0 _ _ _ x _)=>x
  | _=>0
def Fj:Option jm→Int
  | some (.r0 _ _ _ _ x)=>x
  | _=>0
theorem ahC{x:Option jm}(h:DI x=true) :x=some (.r0 (Nh x) (Fg x) (Fh x) (Fi x) (Fj x)):=by
  unfold DI at h
  split at h <;> first | rfl | (cases h;done) | (rename_i y;cases y;rfl)
def Yf:aL:=cn oQ (.cons (.agg (.cons .bool (.cons (.ns .u64) (.cons (.int .i64) .nil)))) (.cons (.agg (.cons .bool (.cons (.ns .u64) (.cons (.int .i64) .nil)))) .nil)) fun t=>[⟨Ng (.r0 (Nh (jn t.1.1 t.1.2.1.2 t.1.2.2.1 t.2.1.1 t.2.1.2.1.2 t.2.1.2.2.1)) (Fg (jn t.1.1 t.1.2.1.2 t.1.2.2.1 t.2.1.1 t.2.1.2.1.2 t.2.1.2.2.1)) (Fh (jn t.1.1 t.1.2.1.2 t.1.2.2.1 t.2.1.1 t.2.1.2.1.2 t.2.1.2.2.1)) (Fi (jn t.1.1 t.1.2.1.2 t.1.2.2.1 t.2.1.1 t.2.1.2.1.2 t.2.1.2.2.1)) (Fj (jn t.1.1 t.1.2.1.2 t.1.2.2.1 t.2.1.1 t.2.1.2.1.2 t.2.1.2.2.1))),[DI (jn t.1.1 t.1.2.1.2 t.1.2.2.1 t.2.1.1 t.2.1.2.1.2 t.2.1.2.2.1)]⟩]
theorem acd:aV prog Yf:=aP fun t=>(aQ (fun h=>ahB t.1.1 t.1.2.1.1 t.1.2.1.2 t.1.2.2.1 t.2.1.1 t.2.1.2.1.1 t.2.1.2.1.2 t.2.1.2.2.1 (ahC h)) ba)
def Yg:List aL:=Yf :: UP
theorem Fk:bf prog (bi Yg):=aw acd CF
inductive iZ where
  | r0 (a:Bool) (b:List Int) (c:Nat) (d:Int)
def Kb:iZ→AE×aM
  | .r0 a b c d=>(.ret,⟨an 14 [(4,.ptr 0 1 0 0)],[(0,.vs [.bool false a,.imm .free (.ns .u64 b) 1 1 0 c,.int .i64 d])],1⟩)
theorem aeg:l9 Kb:=by intro x;cases x <;> (intro h;cases h)
def Kc:iZ→jv
  | .r0 a b c d=>⟨.agg [.bool false a,.imm .free (.ns .u64 b) 1 1 0 c,.int .i64 d],[]⟩
def Qs:List Code:=bS (bB mo)
def Qt:Bool×Bool×(List Int)×Nat×Int→aM:=fun (a,b,c,d,e)=>⟨an 14 [(4,.ptr 0 1 0 0),(5,.ptr 1 1 0 0)],[(0,.vs [.bool false a,.nsl,.int .i64 (0:Int)]),(1,.vs [.bool false b,.imm .free (.ns .u64 c) 1 1 0 d,.int .i64 e])],2⟩
def HP(c:Bool)(a:List Int)(d:Int)(e:Bool)(b:List Int)(f:Int) :T ((Bool×Bool×(List Int)×Nat×Int)⊕(iZ)) :=
  .need (aR 0 (List.length a) a)<|.need (aR 0 (List.length b) b)<|.need (DI (jn c (aa 0 (List.length a) a) d e (aa 0 (List.length b) b) f))<|.leaf (.inl (false,(Fg (jn c (aa 0 (List.length a) a) d e (aa 0 (List.length b) b) f)),(Fh (jn c (aa 0 (List.length a) a) d e (aa 0 (List.length b) b) f)),(Fi (jn c (aa 0 (List.length a) a) d e (aa 0 (List.length b) b) f)),(Fj (jn c (aa 0 (List.length a) a) d e (aa 0 (List.length b) b) f))))
def Qu(a:Bool)(b:List Int)(c:Nat)(d:Int) :T ((Empty)⊕(iZ)) :=
  .leaf (.inr (.r0 a b c d))
def gW(a:Bool)(b:List Int)(c:Int)(d:Bool)(e:List Int)(f:Int) :Option iZ:=me (aH ((HP a b c d e f).run) fun (k,g,h,i,j) =>
  (Qu g h i j).run)
theorem aeh(d:Bool)(i:Lv)(b:List Int)(e:Int)(f:Bool)(j:Lv)(c:List Int)(g:Int){x:iZ}(h:gW d b e f c g=some x) :ax prog mo [] [.agg [.bool false d,.imm i (.ns .u64 b) 1 1 0 (List.length b),.int .i64 e],.agg [.bool false f,.imm j (.ns .u64 c) 1 1 0 (List.length c),.int .i64 g]] (Kc x) :=
  Sg.contract true Kc (by kernel_rfl:prog.funcs[mo]? = some (FN mo)) (by kernel_rfl:(FN mo).body=some (bB mo)) (Sg.cut 2 aeg (Sg.seg (C:=C0) ap Fk 60 (Qs.take 2) (aT (FN mo) [] [.agg [.bool false d,.imm i (.ns .u64 b) 1 1 0 (List.length b),.int .i64 e],.agg [.bool false f,.imm j (.ns .u64 c) 1 1 0 (List.length c),.int .i64 g]]) (HP d b e f c g) Qt Kb [⟨[],[32,144],[4,5]⟩] (by kernel_rfl)) (fun a=>by obtain ⟨o,k,l,m,n⟩:=a;exact Sg.seg (C:=C0) ap Fk 60 (Qs.drop 2) (Qt (o,k,l,m,n)) (Qu k l m n) (fun a:Empty=>a.elim) Kb [⟨[],[0],[4]⟩] (by kernel_rfl)))
    (fun x=>by cases x with | r0 p q r s=>exact ⟨.inr rfl,[.agg [.bool false p,.imm .free (.ns .u64 q) 1 1 0 r,.int .i64 s]],[],by kernel_rfl,trivial,by kernel_rfl⟩) h
def BA:Option iZ→Bool
  | some _=>true
  | none=>false
def CG:Option iZ→Bool
  | some (.r0 x _ _ _)=>x
  | _=>false
def CH:Option iZ→List Int
  | some (.r0 _ x _ _)=>x
  | _=>[]
def CI:Option iZ→Nat
  | some (.r0 _ _ x _)=>x
  | _=>0
def CJ:Option iZ→Int
  | some (.r0 _ _ _ x)=>x
  | _=>0
theorem aei{x:Option iZ}(h:BA x=true) :x=some (.r0 (CG x) (CH x) (CI x) (CJ x)):=by
  unfold BA at h
  split at h <;> first | rfl | (cases h;done) | (rename_i y;cases y;rfl)
def UT:aL:=cn mo (.cons (.agg (.cons .bool (.cons (.ns .u64) (.cons (.int .i64) .nil)))) (.cons (.agg (.cons .bool (.cons (.ns .u64) (.cons (.int .i64) .nil)))) .nil)) fun t=>[⟨Kc (.r0 (CG (gW t.1.1 t.1.2.1.2 t.1.2.2.1 t.2.1.1 t.2.1.2.1.2 t.2.1.2.2.1)) (CH (gW t.1.1 t.1.2.1.2 t.1.2.2.1 t.2.1.1 t.2.1.2.1.2 t.2.1.2.2.1)) (CI (gW t.1.1 t.1.2.1.2 t.1.2.2.1 t.2.1.1 t.2.1.2.1.2 t.2.1.2.2.1)) (CJ (gW t.1.1 t.1.2.1.2 t.1.2.2.1 t.2.1.1 t.2.1.2.1.2 t.2.1.2.2.1))),[BA (gW t.1.1 t.1.2.1.2 t.1.2.2.1 t.2.1.1 t.2.1.2.1.2 t.2.1.2.2.1)]⟩]
theorem YV:aV prog UT:=aP fun t=>(aQ (fun h=>aeh t.1.1 t.1.2.1.1 t.1.2.1.2 t.1.2.2.1 t.2.1.1 t.2.1.2.1.1 t.2.1.2.1.2 t.2.1.2.2.1 (aei h)) ba)
def UU:List aL:=UT :: Yg
theorem wH:bf prog (bi UU):=aw YV Fk
end
end Go.Plb.Seat
namespace Go.Plb.Seat
open Go Go.Plb
set_option linter.unusedVariables false
set_option maxRecDepth 100000
noncomputable section
end
end Go.Plb.Seat
namespace Go.Plb.Seat
open Go Go.Plb
set_option linter.unusedVariables false
set_option maxRecDepth 100000
noncomputable section
inductive gC where
  | r0 (a:Bool)
def qx:gC→AE×aM
  | .r0 a=>(.ret,⟨an 20 [(2,.bool false a)],[],0⟩)
theorem CL:l9 qx:=by intro x;cases x <;> (intro h;cases h)
theorem YW(id:Nat) :rL id qx:=by intro x;cases x <;> (intro h;cases h)
def Fl:gC→jv
  | .r0 a=>⟨.bool false a,[]⟩
def r6:List Code:=bS (bB lq)
def KE(b:Lv)(a:List Nat)(_:Unit) :aM:=⟨an 20 [(0,.imm b (.fl a) 1 1 0 (List.length a)),(3,.int .i64 (0:Int))],[],0⟩
def KF:T ((Unit)⊕(gC)) :=
  .leaf (.inl ())
def oC(b:Lv)(a:List Nat)(c:Nat) :aM:=⟨an 20 [(0,.imm b (.fl a) 1 1 0 (List.length a)),(3,.int .i64 ((c:Nat):Int))],[],0⟩
def wI(_:Unit) :aM:=⟨an 20 [],[],0⟩
def KG:List Code:=bS (bW ((((r6.drop 2).take 1)).headD .skip))
def oD(b:List Nat)(a:Nat) :T ((Nat)⊕((Unit)⊕(gC))) :=
  .ask (decide (((a:Nat):Int) < (((List.length b):Nat):Int)))
    (.need (iC ((a:Nat):Int) (List.length b))<|.need (jt a (List.length b))<|.need (iC ((a:Nat):Int) (List.length b))<|.need (jt a (List.length b))<|.ask (Ze (ahL (List.getD b a 0) (List.getD b a 0)) 0)
      (.leaf (.inr (.inr (.r0 false))))
      (.need (ej .i64 (((a+1):Nat):Int))<|.leaf (.inl (a+1))))
    (.leaf (.inr (.inl ())))
def uO(a:List Nat) :Nat→Option ((Nat)⊕((Unit)⊕(gC))):=fun b =>
  (oD a b).run
theorem VZ(b:Lv)(a:List Nat)(c:Nat) :Sg prog [] KG (oC b a c) (uO a c) (oC b a) (aS 0 wI qx):=by
  unfold uO;exact Sg.seg (C:=C0) ap wH 60 KG (oC b a c) (oD a c) (oC b a) (aS 0 wI qx) [⟨[],[],[2]⟩,⟨[],[],[0,3]⟩,⟨[],[],[]⟩] (by kernel_rfl)
def YX:Unit→aM:=wI
def Il:T ((Empty)⊕(gC)) :=
  .leaf (.inr (.r0 true))
def fC(a:List Nat) :Option gC:=me (aH ((KF).run) fun _ =>
  aH (eh (uO a) 0) fun _ =>
  (Il).run)
theorem YY(c:Lv)(b:List Nat){x:gC}(h:fC b=some x) :ax prog lq [] [.imm c (.fl b) 1 1 0 (List.length b)] (Fl x) :=
  Sg.contract false Fl (by kernel_rfl:prog.funcs[lq]? = some (FN lq)) (by kernel_rfl:(FN lq).body=some (bB lq)) (Sg.cut 2 CL (Sg.seg (C:=C0) ap wH 60 (r6.take 2) (aT (FN lq) [] [.imm c (.fl b) 1 1 0 (List.length b)]) (KF) (KE c b) qx [⟨[],[],[0,3]⟩] (by kernel_rfl)) (fun a=>by cases a;exact Sg.cut 1 CL (Sg.pre ⟨[],[],[0,3]⟩ rfl (by kernel_rfl:NS.on ⟨[],[],[0,3]⟩ (KE c b ())=(oC c b) 0) (cw (I:=(oC c b)) (J:=(wI)) (id:=0) (by kernel_rfl:((r6.drop 2).take 1) = [.block 0 (.loop (bW ((((r6.drop 2).take 1)).headD .skip)))]) CL (YW _) (fun s=>by exact VZ c b s) 0)) (fun a=>by cases a;exact Sg.seg (C:=C0) ap wH 60 ((r6.drop 2).drop 1) (YX ()) (Il) (fun a:Empty=>a.elim) qx [⟨[],[],[2]⟩] (by kernel_rfl))))
    (fun x=>by cases x with | r0 d=>exact ⟨.inr rfl,[.bool false d],[],by kernel_rfl,trivial,by kernel_rfl⟩) h
def l8:Option gC→Bool
  | some _=>true
  | none=>false
def lS:Option gC→Bool
  | some (.r0 x)=>x
  | _=>false
theorem YZ{x:Option gC}(h:l8 x=true) :x=some (.r0 (lS x)):=by
  unfold l8 at h
  split at h <;> first | rfl | (cases h;done) | (rename_i y;cases y;rfl)
def Ni:aL:=cn lq (.cons .fl .nil) fun t=>[⟨Fl (.r0 (lS (fC t.1.2))),[l8 (fC t.1.2)]⟩]
theorem UV:aV prog Ni:=aP fun t=>(aQ (fun h=>YY t.1.1 t.1.2 (YZ h)) ba)
def Nj:List aL:=Ni :: UU
theorem cL:bf prog (bi Nj):=aw UV wH
end
end Go.Plb.Seat
namespace Go.Plb.Seat
open Go Go.Plb
set_option linter.unusedVariables false
set_option maxRecDepth 100000
noncomputable section
inductive bp where
  | r0 (a:Bool) (b:List Int) (c:Nat) (d:Int)
def cq:bp→AE×aM
  | .r0 a b c d=>(.ret,⟨an 84 [(8,.ptr 0 1 0 0)],[(0,.vs [.bool false a,.imm .free (.ns .u64 b) 1 1 0 c,.int .i64 d])],1⟩)
theorem cj:l9 cq:=by intro x;cases x <;> (intro h;cases h)
theorem pH(id:Nat) :rL id cq:=by intro x;cases x <;> (intro h;cases h)
def Ak:bp→jv
  | .r0 a b c d=>⟨.agg [.bool false a,.imm .free (.ns .u64 b) 1 1 0 c,.int .i64 d],[]⟩
def kM:List Code:=bS (bB gK)
def Gs(e:Int)(f:Int)(g:Lv)(a:List Nat)(h:Int)(i:Int)(j:Lv)(b:List Nat)(k:Int)(l:Int)(m:Lv)(c:List Nat)(n:Lv)(d:List Nat) :Bool×Bool×(List Int)×Nat×Int→aM:=fun (o,p,q,r,s)=>⟨an 84 [(3,.imm n (.fl d) 1 1 0 (List.length d)),(4,.ptr 0 1 0 0),(5,.ptr 1 1 0 0),(6,.ptr 2 1 0 0),(8,.ptr 3 1 0 0),(9,.ptr 4 1 0 0)],[(0,.vs [.int .i64 e,.int .i64 f,.imm g (.fl a) 1 1 0 (List.length a)]),(1,.vs [.int .i64 h,.int .i64 i,.imm j (.fl b) 1 1 0 (List.length b)]),(2,.vs [.int .i64 k,.int .i64 l,.imm m (.fl c) 1 1 0 (List.length c)]),(3,.vs [.bool false o,.nsl,.int .i64 (0:Int)]),(4,.vs [.bool false p,.imm .free (.ns .u64 q) 1 1 0 r,.int .i64 s])],5⟩
def wW:T ((Bool×Bool×(List Int)×Nat×Int)⊕(bp)) :=
  .need (nW (bL (0:Int)))<|.leaf (.inl (false,(kK (bL (0:Int))),(jk (bL (0:Int))),(jl (bL (0:Int))),(kL (bL (0:Int)))))
def Gt(e:Int)(f:Int)(g:Lv)(a:List Nat)(h:Int)(i:Int)(j:Lv)(b:List Nat)(k:Int)(l:Int)(m:Lv)(c:List Nat)(n:Lv)(d:List Nat)(o:Bool)(p:Bool)(q:List Int)(r:Nat)(s:Int)(_:Unit) :aM:=⟨an 84 [(3,.imm n (.fl d) 1 1 0 (List.length d)),(4,.ptr 0 1 0 0),(5,.ptr 1 1 0 0),(6,.ptr 2 1 0 0),(8,.ptr 3 1 0 0),(9,.ptr 4 1 0 0),(10,.int .i64 (0:Int))],[(0,.vs [.int .i64 e,.int .i64 f,.imm g (.fl a) 1 1 0 (List.length a)]),(1,.vs [.int .i64 h,.int .i64 i,.imm j (.fl b) 1 1 0 (List.length b)]),(2,.vs [.int .i64 k,.int .i64 l,.imm m (.fl c) 1 1 0 (List.length c)]),(3,.vs [.bool false o,.nsl,.int .i64 (0:Int)]),(4,.vs [.bool false p,.imm .free (.ns .u64 q) 1 1 0 r,.int .i64 s])],5⟩
def Fm:T ((Unit)⊕(bp)) :=
  .leaf (.inl ())
def kN(e:Int)(f:Int)(g:Lv)(a:List Nat)(h:Int)(i:Int)(j:Lv)(b:List Nat)(k:Int)(l:Int)(m:Lv)(c:List Nat)(n:Lv)(d:List Nat)(o:Bool) :Nat×Bool×(List Int)×Nat×Int→aM:=fun (p,q,r,s,t)=>⟨an 84 [(3,.imm n (.fl d) 1 1 0 (List.length d)),(4,.ptr 0 1 0 0),(5,.ptr 1 1 0 0),(6,.ptr 2 1 0 0),(8,.ptr 3 1 0 0),(9,.ptr 4 1 0 0),(10,.int .i64 ((p:Nat):Int))],[(0,.vs [.int .i64 e,.int .i64 f,.imm g (.fl a) 1 1 0 (List.length a)]),(1,.vs [.int .i64 h,.int .i64 i,.imm j (.fl b) 1 1 0 (List.length b)]),(2,.vs [.int .i64 k,.int .i64 l,.imm m (.fl c) 1 1 0 (List.length c)]),(3,.vs [.bool false o,.nsl,.int .i64 (0:Int)]),(4,.vs [.bool false q,.imm .free (.ns .u64 r) 1 1 0 s,.int .i64 t])],5⟩
def ct(a:Bool) :Bool×(List Int)×Nat×Int→aM:=fun (b,c,d,e)=>⟨an 84 [(8,.ptr 0 1 0 0),(9,.ptr 1 1 0 0)],[(0,.vs [.bool false a,.nsl,.int .i64 (0:Int)]),(1,.vs [.bool false b,.imm .free (.ns .u64 c) 1 1 0 d,.int .i64 e])],2⟩
def kO:List Code:=bS (bW (((((kM.drop 2).drop 1).take 1)).headD .skip))
def Fo(e:Int)(f:Int)(g:Lv)(a:List Nat)(h:Int)(i:Int)(j:Lv)(b:List Nat)(k:Int)(l:Int)(m:Lv)(c:List Nat)(n:Lv)(d:List Nat)(o:Bool)(p:Nat)(q:Bool)(r:List Int)(s:Nat)(t:Int)(_:Unit) :aM:=⟨an 84 [(3,.imm n (.fl d) 1 1 0 (List.length d)),(4,.ptr 0 1 0 0),(5,.ptr 1 1 0 0),(6,.ptr 2 1 0 0),(8,.ptr 3 1 0 0),(9,.ptr 4 1 0 0),(10,.int .i64 ((p:Nat):Int))],[(0,.vs [.int .i64 e,.int .i64 f,.imm g (.fl a) 1 1 0 (List.length a)]),(1,.vs [.int .i64 h,.int .i64 i,.imm j (.fl b) 1 1 0 (List.length b)]),(2,.vs [.int .i64 k,.int .i64 l,.imm m (.fl c) 1 1 0 (List.length c)]),(3,.vs [.bool false o,.nsl,.int .i64 (0:Int)]),(4,.vs [.bool false q,.imm .free (.ns .u64 r) 1 1 0 s,.int .i64 t])],5⟩
def ry(a:Int)(b:Nat)(c:Bool)(d:List Int)(e:Nat)(f:Int) :T ((Unit)⊕((Bool×(List Int)×Nat×Int)⊕(bp))) :=
  .ask (decide (((b:Nat):Int) < a))
    (.leaf (.inl ()))
    (.leaf (.inr (.inl (c,d,e,f))))
def cJ(e:Int)(f:Int)(g:Lv)(a:List Nat)(h:Int)(i:Int)(j:Lv)(b:List Nat)(k:Int)(l:Int)(m:Lv)(c:List Nat)(n:Lv)(d:List Nat)(o:Bool)(p:Nat) :Bool×(List Int)×Nat×Int→aM:=fun (q,r,s,t)=>⟨an 84 [(3,.imm n (.fl d) 1 1 0 (List.length d)),(4,.ptr 0 1 0 0),(5,.ptr 1 1 0 0),(6,.ptr 2 1 0 0),(8,.ptr 3 1 0 0),(9,.ptr 4 1 0 0),(10,.int .i64 ((p:Nat):Int))],[(0,.vs [.int .i64 e,.int .i64 f,.imm g (.fl a) 1 1 0 (List.length a)]),(1,.vs [.int .i64 h,.int .i64 i,.imm j (.fl b) 1 1 0 (List.length b)]),(2,.vs [.int .i64 k,.int .i64 l,.imm m (.fl c) 1 1 0 (List.length c)]),(3,.vs [.bool false o,.nsl,.int .i64 (0:Int)]),(4,.vs [.bool false q,.imm .free (.ns .u64 r) 1 1 0 s,.int .i64 t])],5⟩
def nX:List Code:=bS (inBlock ((((kO.drop 2).take 1)).headD .skip))
def Fp(e:Int)(f:Int)(g:Lv)(a:List Nat)(h:Int)(i:Int)(j:Lv)(b:List Nat)(k:Int)(l:Int)(m:Lv)(c:List Nat)(n:Lv)(d:List Nat)(o:Bool)(p:Nat)(q:Bool)(r:List Int)(s:Nat)(t:Int)(_:Unit) :aM:=⟨an 84 [(3,.imm n (.fl d) 1 1 0 (List.length d)),(4,.ptr 0 1 0 0),(5,.ptr 1 1 0 0),(6,.ptr 2 1 0 0),(8,.ptr 3 1 0 0),(9,.ptr 4 1 0 0),(10,.int .i64 ((p:Nat):Int)),(11,.int .i64 (0:Int))],[(0,.vs [.int .i64 e,.int .i64 f,.imm g (.fl a) 1 1 0 (List.length a)]),(1,.vs [.int .i64 h,.int .i64 i,.imm j (.fl b) 1 1 0 (List.length b)]),(2,.vs [.int .i64 k,.int .i64 l,.imm m (.fl c) 1 1 0 (List.length c)]),(3,.vs [.bool false o,.nsl,.int .i64 (0:Int)]),(4,.vs [.bool false q,.imm .free (.ns .u64 r) 1 1 0 s,.int .i64 t])],5⟩
def Fq:T ((Unit)⊕((Bool×(List Int)×Nat×Int)⊕((Bool×(List Int)×Nat×Int)⊕(bp)))) :=
  .leaf (.inl ())
def kP(e:Int)(f:Int)(g:Lv)(a:List Nat)(h:Int)(i:Int)(j:Lv)(b:List Nat)(k:Int)(l:Int)(m:Lv)(c:List Nat)(n:Lv)(d:List Nat)(o:Bool)(p:Nat) :Nat×Bool×(List Int)×Nat×Int→aM:=fun (q,r,s,t,u)=>⟨an 84 [(3,.imm n (.fl d) 1 1 0 (List.length d)),(4,.ptr 0 1 0 0),(5,.ptr 1 1 0 0),(6,.ptr 2 1 0 0),(8,.ptr 3 1 0 0),(9,.ptr 4 1 0 0),(10,.int .i64 ((p:Nat):Int)),(11,.int .i64 ((q:Nat):Int))],[(0,.vs [.int .i64 e,.int .i64 f,.imm g (.fl a) 1 1 0 (List.length a)]),(1,.vs [.int .i64 h,.int .i64 i,.imm j (.fl b) 1 1 0 (List.length b)]),(2,.vs [.int .i64 k,.int .i64 l,.imm m (.fl c) 1 1 0 (List.length c)]),(3,.vs [.bool false o,.nsl,.int .i64 (0:Int)]),(4,.vs [.bool false r,.imm .free (.ns .u64 s) 1 1 0 t,.int .i64 u])],5⟩
def dG(e:Int)(f:Int)(g:Lv)(a:List Nat)(h:Int)(i:Int)(j:Lv)(b:List Nat)(k:Int)(l:Int)(m:Lv)(c:List Nat)(n:Lv)(d:List Nat)(o:Bool)(p:Nat) :Bool×(List Int)×Nat×Int→aM:=fun (q,r,s,t)=>⟨an 84 [(3,.imm n (.fl d) 1 1 0 (List.length d)),(4,.ptr 0 1 0 0),(5,.ptr 1 1 0 0),(6,.ptr 2 1 0 0),(8,.ptr 3 1 0 0),(9,.ptr 4 1 0 0),(10,.int .i64 ((p:Nat):Int))],[(0,.vs [.int .i64 e,.int .i64 f,.imm g (.fl a) 1 1 0 (List.length a)]),(1,.vs [.int .i64 h,.int .i64 i,.imm j (.fl b) 1 1 0 (List.length b)]),(2,.vs [.int .i64 k,.int .i64 l,.imm m (.fl c) 1 1 0 (List.length c)]),(3,.vs [.bool false o,.nsl,.int .i64 (0:Int)]),(4,.vs [.bool false q,.imm .free (.ns .u64 r) 1 1 0 s,.int .i64 t])],5⟩
def kQ:List Code:=bS (bW ((((nX.drop 1).take 1)).headD .skip))
def Fr(e:Int)(f:Int)(g:Lv)(a:List Nat)(h:Int)(i:Int)(j:Lv)(b:List Nat)(k:Int)(l:Int)(m:Lv)(c:List Nat)(n:Lv)(d:List Nat)(o:Bool)(p:Nat)(q:Nat)(r:Bool)(s:List Int)(t:Nat)(u:Int)(_:Unit) :aM:=⟨an 84 [(3,.imm n (.fl d) 1 1 0 (List.length d)),(4,.ptr 0 1 0 0),(5,.ptr 1 1 0 0),(6,.ptr 2 1 0 0),(8,.ptr 3 1 0 0),(9,.ptr 4 1 0 0),(10,.int .i64 ((p:Nat):Int)),(11,.int .i64 ((q:Nat):Int))],[(0,.vs [.int .i64 e,.int .i64 f,.imm g (.fl a) 1 1 0 (List.length a)]),(1,.vs [.int .i64 h,.int .i64 i,.imm j (.fl b) 1 1 0 (List.length b)]),(2,.vs [.int .i64 k,.int .i64 l,.imm m (.fl c) 1 1 0 (List.length c)]),(3,.vs [.bool false o,.nsl,.int .i64 (0:Int)]),(4,.vs [.bool false r,.imm .free (.ns .u64 s) 1 1 0 t,.int .i64 u])],5⟩
def rz(a:Int)(b:Nat)(c:Bool)(d:List Int)(e:Nat)(f:Int) :T ((Unit)⊕((Bool×(List Int)×Nat×Int)⊕((Bool×(List Int)×Nat×Int)⊕((Bool×(List Int)×Nat×Int)⊕(bp))))) :=
  .ask (decide (((b:Nat):Int) < a))
    (.leaf (.inl ()))
    (.leaf (.inr (.inl (c,d,e,f))))
def eK(e:Int)(f:Int)(g:Lv)(a:List Nat)(h:Int)(i:Int)(j:Lv)(b:List Nat)(k:Int)(l:Int)(m:Lv)(c:List Nat)(n:Lv)(d:List Nat)(o:Bool)(p:Nat)(q:Nat) :Bool×(List Int)×Nat×Int→aM:=fun (r,s,t,u)=>⟨an 84 [(3,.imm n (.fl d) 1 1 0 (List.length d)),(4,.ptr 0 1 0 0),(5,.ptr 1 1 0 0),(6,.ptr 2 1 0 0),(8,.ptr 3 1 0 0),(9,.ptr 4 1 0 0),(10,.int .i64 ((p:Nat):Int)),(11,.int .i64 ((q:Nat):Int))],[(0,.vs [.int .i64 e,.int .i64 f,.imm g (.fl a) 1 1 0 (List.length a)]),(1,.vs [.int .i64 h,.int .i64 i,.imm j (.fl b) 1 1 0 (List.length b)]),(2,.vs [.int .i64 k,.int .i64 l,.imm m (.fl c) 1 1 0 (List.length c)]),(3,.vs [.bool false o,.nsl,.int .i64 (0:Int)]),(4,.vs [.bool false r,.imm .free (.ns .u64 s) 1 1 0 t,.int .i64 u])],5⟩
def i8:List Code:=bS (inBlock ((((kQ.drop 2).take 1)).headD .skip))
def Fs(e:Int)(f:Int)(g:Lv)(a:List Nat)(h:Int)(i:Int)(j:Lv)(b:List Nat)(k:Int)(l:Int)(m:Lv)(c:List Nat)(n:Lv)(d:List Nat)(o:Bool)(p:Nat)(q:Nat)(r:Bool)(s:List Int)(t:Nat)(u:Int) :Bool×(List Int)×Nat×Int→aM:=fun (v,w,x,y)=>⟨an 84 [(3,.imm n (.fl d) 1 1 0 (List.length d)),(4,.ptr 0 1 0 0),(5,.ptr 1 1 0 0),(6,.ptr 2 1 0 0),(8,.ptr 3 1 0 0),(9,.ptr 4 1 0 0),(10,.int .i64 ((p:Nat):Int)),(11,.int .i64 ((q:Nat):Int)),(12,.ptr 5 1 0 0)],[(0,.vs [.int .i64 e,.int .i64 f,.imm g (.fl a) 1 1 0 (List.length a)]),(1,.vs [.int .i64 h,.int .i64 i,.imm j (.fl b) 1 1 0 (List.length b)]),(2,.vs [.int .i64 k,.int .i64 l,.imm m (.fl c) 1 1 0 (List.length c)]),(3,.vs [.bool false o,.nsl,.int .i64 (0:Int)]),(4,.vs [.bool false r,.imm .free (.ns .u64 s) 1 1 0 t,.int .i64 u]),(5,.vs [.bool false v,.imm .free (.ns .u64 w) 1 1 0 x,.int .i64 y])],6⟩
def wZ:T ((Bool×(List Int)×Nat×Int)⊕((Bool×(List Int)×Nat×Int)⊕((Bool×(List Int)×Nat×Int)⊕((Bool×(List Int)×Nat×Int)⊕((Bool×(List Int)×Nat×Int)⊕(bp)))))) :=
  .need (nW (bL (0:Int)))<|.leaf (.inl ((kK (bL (0:Int))),(jk (bL (0:Int))),(jl (bL (0:Int))),(kL (bL (0:Int)))))
def Ft(e:Int)(f:Int)(g:Lv)(a:List Nat)(h:Int)(i:Int)(j:Lv)(b:List Nat)(k:Int)(l:Int)(m:Lv)(c:List Nat)(n:Lv)(d:List Nat)(o:Bool)(p:Nat)(q:Nat)(r:Bool)(s:List Int)(t:Nat)(u:Int)(v:Bool)(w:List Int)(x:Nat)(y:Int)(_:Unit) :aM:=⟨an 84 [(3,.imm n (.fl d) 1 1 0 (List.length d)),(4,.ptr 0 1 0 0),(5,.ptr 1 1 0 0),(6,.ptr 2 1 0 0),(8,.ptr 3 1 0 0),(9,.ptr 4 1 0 0),(10,.int .i64 ((p:Nat):Int)),(11,.int .i64 ((q:Nat):Int)),(12,.ptr 5 1 0 0),(13,.int .i64 (0:Int))],[(0,.vs [.int .i64 e,.int .i64 f,.imm g (.fl a) 1 1 0 (List.length a)]),(1,.vs [.int .i64 h,.int .i64 i,.imm j (.fl b) 1 1 0 (List.length b)]),(2,.vs [.int .i64 k,.int .i64 l,.imm m (.fl c) 1 1 0 (List.length c)]),(3,.vs [.bool false o,.nsl,.int .i64 (0:Int)]),(4,.vs [.bool false r,.imm .free (.ns .u64 s) 1 1 0 t,.int .i64 u]),(5,.vs [.bool false v,.imm .free (.ns .u64 w) 1 1 0 x,.int .i64 y])],6⟩
def Fu:T ((Unit)⊕((Bool×(List Int)×Nat×Int)⊕((Bool×(List Int)×Nat×Int)⊕((Bool×(List Int)×Nat×Int)⊕((Bool×(List Int)×Nat×Int)⊕(bp)))))) :=
  .leaf (.inl ())
def kR(e:Int)(f:Int)(g:Lv)(a:List Nat)(h:Int)(i:Int)(j:Lv)(b:List Nat)(k:Int)(l:Int)(m:Lv)(c:List Nat)(n:Lv)(d:List Nat)(o:Bool)(p:Nat)(q:Nat)(r:Bool)(s:List Int)(t:Nat)(u:Int) :Nat×Bool×(List Int)×Nat×Int→aM:=fun (v,w,x,y,z)=>⟨an 84 [(3,.imm n (.fl d) 1 1 0 (List.length d)),(4,.ptr 0 1 0 0),(5,.ptr 1 1 0 0),(6,.ptr 2 1 0 0),(8,.ptr 3 1 0 0),(9,.ptr 4 1 0 0),(10,.int .i64 ((p:Nat):Int)),(11,.int .i64 ((q:Nat):Int)),(12,.ptr 5 1 0 0),(13,.int .i64 ((v:Nat):Int))],[(0,.vs [.int .i64 e,.int .i64 f,.imm g (.fl a) 1 1 0 (List.length a)]),(1,.vs [.int .i64 h,.int .i64 i,.imm j (.fl b) 1 1 0 (List.length b)]),(2,.vs [.int .i64 k,.int .i64 l,.imm m (.fl c) 1 1 0 (List.length c)]),(3,.vs [.bool false o,.nsl,.int .i64 (0:Int)]),(4,.vs [.bool false r,.imm .free (.ns .u64 s) 1 1 0 t,.int .i64 u]),(5,.vs [.bool false w,.imm .free (.ns .u64 x) 1 1 0 y,.int .i64 z])],6⟩
def nY(e:Int)(f:Int)(g:Lv)(a:List Nat)(h:Int)(i:Int)(j:Lv)(b:List Nat)(k:Int)(l:Int)(m:Lv)(c:List Nat)(n:Lv)(d:List Nat)(o:Bool)(p:Nat)(q:Nat)(r:Bool)(s:List Int)(t:Nat)(u:Int) :Bool×(List Int)×Nat×Int→aM:=fun (v,w,x,y)=>⟨an 84 [(3,.imm n (.fl d) 1 1 0 (List.length d)),(4,.ptr 0 1 0 0),(5,.ptr 1 1 0 0),(6,.ptr 2 1 0 0),(8,.ptr 3 1 0 0),(9,.ptr 4 1 0 0),(10,.int .i64 ((p:Nat):Int)),(11,.int .i64 ((q:Nat):Int)),(12,.ptr 5 1 0 0)],[(0,.vs [.int .i64 e,.int .i64 f,.imm g (.fl a) 1 1 0 (List.length a)]),(1,.vs [.int .i64 h,.int .i64 i,.imm j (.fl b) 1 1 0 (List.length b)]),(2,.vs [.int .i64 k,.int .i64 l,.imm m (.fl c) 1 1 0 (List.length c)]),(3,.vs [.bool false o,.nsl,.int .i64 (0:Int)]),(4,.vs [.bool false r,.imm .free (.ns .u64 s) 1 1 0 t,.int .i64 u]),(5,.vs [.bool false v,.imm .free (.ns .u64 w) 1 1 0 x,.int .i64 y])],6⟩
def w5:List Code:=bS (bW (((((i8.drop 1).drop 1).take 1)).headD .skip))
def Fv(e:Int)(f:Int)(g:Lv)(a:List Nat)(h:Int)(i:Int)(j:Lv)(b:List Nat)(k:Int)(l:Int)(m:Lv)(c:List Nat)(n:Lv)(d:List Nat)(o:Bool)(p:Nat)(q:Nat)(r:Bool)(s:List Int)(t:Nat)(u:Int)(v:Nat) :Bool×(List Int)×Nat×Int→aM:=fun (w,x,y,z)=>⟨an 84 [(3,.imm n (.fl d) 1 1 0 (List.length d)),(4,.ptr 0 1 0 0),(5,.ptr 1 1 0 0),(6,.ptr 2 1 0 0),(8,.ptr 3 1 0 0),(9,.ptr 4 1 0 0),(10,.int .i64 ((p:Nat):Int)),(11,.int .i64 ((q:Nat):Int)),(12,.ptr 5 1 0 0),(13,.int .i64 ((v:Nat):Int))],[(0,.vs [.int .i64 e,.int .i64 f,.imm g (.fl a) 1 1 0 (List.length a)]),(1,.vs [.int .i64 h,.int .i64 i,.imm j (.fl b) 1 1 0 (List.length b)]),(2,.vs [.int .i64 k,.int .i64 l,.imm m (.fl c) 1 1 0 (List.length c)]),(3,.vs [.bool false o,.nsl,.int .i64 (0:Int)]),(4,.vs [.bool false r,.imm .free (.ns .u64 s) 1 1 0 t,.int .i64 u]),(5,.vs [.bool false w,.imm .free (.ns .u64 x) 1 1 0 y,.int .i64 z])],6⟩
def nZ(b:Int)(f:List Nat)(c:Int)(g:List Nat)(d:Nat)(e:Nat)(a:Nat)(j:Bool)(h:List Int)(i:Nat)(k:Int) :T ((Bool×(List Int)×Nat×Int)⊕((Bool×(List Int)×Nat×Int)⊕((Bool×(List Int)×Nat×Int)⊕((Bool×(List Int)×Nat×Int)⊕((Bool×(List Int)×Nat×Int)⊕((Bool×(List Int)×Nat×Int)⊕(bp))))))) :=
  .ask (decide (((a:Nat):Int) < b))
    (.need (ej .i64 (((d:Nat):Int) * b))<|.need (ej .i64 ((((d:Nat):Int) * b)+((a:Nat):Int)))<|.need (iC ((((d:Nat):Int) * b)+((a:Nat):Int)) (List.length f))<|.need (jt (Int.toNat ((((d:Nat):Int) * b)+((a:Nat):Int))) (List.length f))<|.need (jY (ab (List.getD f (Int.toNat ((((d:Nat):Int) * b)+((a:Nat):Int))) 0)))<|.need (ej .i64 (((a:Nat):Int) * c))<|.need (ej .i64 ((((a:Nat):Int) * c)+((e:Nat):Int)))<|.need (iC ((((a:Nat):Int) * c)+((e:Nat):Int)) (List.length g))<|.need (jt (Int.toNat ((((a:Nat):Int) * c)+((e:Nat):Int))) (List.length g))<|.need (jY (ab (List.getD g (Int.toNat ((((a:Nat):Int) * c)+((e:Nat):Int))) 0)))<|.need (aR 0 (aj (ab (List.getD f (Int.toNat ((((d:Nat):Int) * b)+((a:Nat):Int))) 0))) (ai (ab (List.getD f (Int.toNat ((((d:Nat):Int) * b)+((a:Nat):Int))) 0))))<|.need (aR 0 (aj (ab (List.getD g (Int.toNat ((((a:Nat):Int) * c)+((e:Nat):Int))) 0))) (ai (ab (List.getD g (Int.toNat ((((a:Nat):Int) * c)+((e:Nat):Int))) 0))))<|.need (jX (aB (ak (ab (List.getD f (Int.toNat ((((d:Nat):Int) * b)+((a:Nat):Int))) 0))) (aa 0 (aj (ab (List.getD f (Int.toNat ((((d:Nat):Int) * b)+((a:Nat):Int))) 0))) (ai (ab (List.getD f (Int.toNat ((((d:Nat):Int) * b)+((a:Nat):Int))) 0)))) (am (ab (List.getD f (Int.toNat ((((d:Nat):Int) * b)+((a:Nat):Int))) 0))) (ak (ab (List.getD g (Int.toNat ((((a:Nat):Int) * c)+((e:Nat):Int))) 0))) (aa 0 (aj (ab (List.getD g (Int.toNat ((((a:Nat):Int) * c)+((e:Nat):Int))) 0))) (ai (ab (List.getD g (Int.toNat ((((a:Nat):Int) * c)+((e:Nat):Int))) 0)))) (am (ab (List.getD g (Int.toNat ((((a:Nat):Int) * c)+((e:Nat):Int))) 0)))))<|.need (aR 0 i h)<|.need (aR 0 (bP (aB (ak (ab (List.getD f (Int.toNat ((((d:Nat):Int) * b)+((a:Nat):Int))) 0))) (aa 0 (aj (ab (List.getD f (Int.toNat ((((d:Nat):Int) * b)+((a:Nat):Int))) 0))) (ai (ab (List.getD f (Int.toNat ((((d:Nat):Int) * b)+((a:Nat):Int))) 0)))) (am (ab (List.getD f (Int.toNat ((((d:Nat):Int) * b)+((a:Nat):Int))) 0))) (ak (ab (List.getD g (Int.toNat ((((a:Nat):Int) * c)+((e:Nat):Int))) 0))) (aa 0 (aj (ab (List.getD g (Int.toNat ((((a:Nat):Int) * c)+((e:Nat):Int))) 0))) (ai (ab (List.getD g (Int.toNat ((((a:Nat):Int) * c)+((e:Nat):Int))) 0)))) (am (ab (List.getD g (Int.toNat ((((a:Nat):Int) * c)+((e:Nat):Int))) 0))))) (bO (aB (ak (ab (List.getD f (Int.toNat ((((d:Nat):Int) * b)+((a:Nat):Int))) 0))) (aa 0 (aj (ab (List.getD f (Int.toNat ((((d:Nat):Int) * b)+((a:Nat):Int))) 0))) (ai (ab (List.getD f (Int.toNat ((((d:Nat):Int) * b)+((a:Nat):Int))) 0)))) (am (ab (List.getD f (Int.toNat ((((d:Nat):Int) * b)+((a:Nat):Int))) 0))) (ak (ab (List.getD g (Int.toNat ((((a:Nat):Int) * c)+((e:Nat):Int))) 0))) (aa 0 (aj (ab (List.getD g (Int.toNat ((((a:Nat):Int) * c)+((e:Nat):Int))) 0))) (ai (ab (List.getD g (Int.toNat ((((a:Nat):Int) * c)+((e:Nat):Int))) 0)))) (am (ab (List.getD g (Int.toNat ((((a:Nat):Int) * c)+((e:Nat):Int))) 0))))))<|.need (y7 (eB j (aa 0 i h) k (co (aB (ak (ab (List.getD f (Int.toNat ((((d:Nat):Int) * b)+((a:Nat):Int))) 0))) (aa 0 (aj (ab (List.getD f (Int.toNat ((((d:Nat):Int) * b)+((a:Nat):Int))) 0))) (ai (ab (List.getD f (Int.toNat ((((d:Nat):Int) * b)+((a:Nat):Int))) 0)))) (am (ab (List.getD f (Int.toNat ((((d:Nat):Int) * b)+((a:Nat):Int))) 0))) (ak (ab (List.getD g (Int.toNat ((((a:Nat):Int) * c)+((e:Nat):Int))) 0))) (aa 0 (aj (ab (List.getD g (Int.toNat ((((a:Nat):Int) * c)+((e:Nat):Int))) 0))) (ai (ab (List.getD g (Int.toNat ((((a:Nat):Int) * c)+((e:Nat):Int))) 0)))) (am (ab (List.getD g (Int.toNat ((((a:Nat):Int) * c)+((e:Nat):Int))) 0))))) (aa 0 (bP (aB (ak (ab (List.getD f (Int.toNat ((((d:Nat):Int) * b)+((a:Nat):Int))) 0))) (aa 0 (aj (ab (List.getD f (Int.toNat ((((d:Nat):Int) * b)+((a:Nat):Int))) 0))) (ai (ab (List.getD f (Int.toNat ((((d:Nat):Int) * b)+((a:Nat):Int))) 0)))) (am (ab (List.getD f (Int.toNat ((((d:Nat):Int) * b)+((a:Nat):Int))) 0))) (ak (ab (List.getD g (Int.toNat ((((a:Nat):Int) * c)+((e:Nat):Int))) 0))) (aa 0 (aj (ab (List.getD g (Int.toNat ((((a:Nat):Int) * c)+((e:Nat):Int))) 0))) (ai (ab (List.getD g (Int.toNat ((((a:Nat):Int) * c)+((e:Nat):Int))) 0)))) (am (ab (List.getD g (Int.toNat ((((a:Nat):Int) * c)+((e:Nat):Int))) 0))))) (bO (aB (ak (ab (List.getD f (Int.toNat ((((d:Nat):Int) * b)+((a:Nat):Int))) 0))) (aa 0 (aj (ab (List.getD f (Int.toNat ((((d:Nat):Int) * b)+((a:Nat):Int))) 0))) (ai (ab (List.getD f (Int.toNat ((((d:Nat):Int) * b)+((a:Nat):Int))) 0)))) (am (ab (List.getD f (Int.toNat ((((d:Nat):Int) * b)+((a:Nat):Int))) 0))) (ak (ab (List.getD g (Int.toNat ((((a:Nat):Int) * c)+((e:Nat):Int))) 0))) (aa 0 (aj (ab (List.getD g (Int.toNat ((((a:Nat):Int) * c)+((e:Nat):Int))) 0))) (ai (ab (List.getD g (Int.toNat ((((a:Nat):Int) * c)+((e:Nat):Int))) 0)))) (am (ab (List.getD g (Int.toNat ((((a:Nat):Int) * c)+((e:Nat):Int))) 0)))))) (cp (aB (ak (ab (List.getD f (Int.toNat ((((d:Nat):Int) * b)+((a:Nat):Int))) 0))) (aa 0 (aj (ab (List.getD f (Int.toNat ((((d:Nat):Int) * b)+((a:Nat):Int))) 0))) (ai (ab (List.getD f (Int.toNat ((((d:Nat):Int) * b)+((a:Nat):Int))) 0)))) (am (ab (List.getD f (Int.toNat ((((d:Nat):Int) * b)+((a:Nat):Int))) 0))) (ak (ab (List.getD g (Int.toNat ((((a:Nat):Int) * c)+((e:Nat):Int))) 0))) (aa 0 (aj (ab (List.getD g (Int.toNat ((((a:Nat):Int) * c)+((e:Nat):Int))) 0))) (ai (ab (List.getD g (Int.toNat ((((a:Nat):Int) * c)+((e:Nat):Int))) 0)))) (am (ab (List.getD g (Int.toNat ((((a:Nat):Int) * c)+((e:Nat):Int))) 0)))))))<|.leaf (.inl ((y8 (eB j (aa 0 i h) k (co (aB (ak (ab (List.getD f (Int.toNat ((((d:Nat):Int) * b)+((a:Nat):Int))) 0))) (aa 0 (aj (ab (List.getD f (Int.toNat ((((d:Nat):Int) * b)+((a:Nat):Int))) 0))) (ai (ab (List.getD f (Int.toNat ((((d:Nat):Int) * b)+((a:Nat):Int))) 0)))) (am (ab (List.getD f (Int.toNat ((((d:Nat):Int) * b)+((a:Nat):Int))) 0))) (ak (ab (List.getD g (Int.toNat ((((a:Nat):Int) * c)+((e:Nat):Int))) 0))) (aa 0 (aj (ab (List.getD g (Int.toNat ((((a:Nat):Int) * c)+((e:Nat):Int))) 0))) (ai (ab (List.getD g (Int.toNat ((((a:Nat):Int) * c)+((e:Nat):Int))) 0)))) (am (ab (List.getD g (Int.toNat ((((a:Nat):Int) * c)+((e:Nat):Int))) 0))))) (aa 0 (bP (aB (ak (ab (List.getD f (Int.toNat ((((d:Nat):Int) * b)+((a:Nat):Int))) 0))) (aa 0 (aj (ab (List.getD f (Int.toNat ((((d:Nat):Int) * b)+((a:Nat):Int))) 0))) (ai (ab (List.getD f (Int.toNat ((((d:Nat):Int) * b)+((a:Nat):Int))) 0)))) (am (ab (List.getD f (Int.toNat ((((d:Nat):Int) * b)+((a:Nat):Int))) 0))) (ak (ab (List.getD g (Int.toNat ((((a:Nat):Int) * c)+((e:Nat):Int))) 0))) (aa 0 (aj (ab (List.getD g (Int.toNat ((((a:Nat):Int) * c)+((e:Nat):Int))) 0))) (ai (ab (List.getD g (Int.toNat ((((a:Nat):Int) * c)+((e:Nat):Int))) 0)))) (am (ab (List.getD g (Int.toNat ((((a:Nat):Int) * c)+((e:Nat):Int))) 0))))) (bO (aB (ak (ab (List.getD f (Int.toNat ((((d:Nat):Int) * b)+((a:Nat):Int))) 0))) (aa 0 (aj (ab (List.getD f (Int.toNat ((((d:Nat):Int) * b)+((a:Nat):Int))) 0))) (ai (ab (List.getD f (Int.toNat ((((d:Nat):Int) * b)+((a:Nat):Int))) 0)))) (am (ab (List.getD f (Int.toNat ((((d:Nat):Int) * b)+((a:Nat):Int))) 0))) (ak (ab (List.getD g (Int.toNat ((((a:Nat):Int) * c)+((e:Nat):Int))) 0))) (aa 0 (aj (ab (List.getD g (Int.toNat ((((a:Nat):Int) * c)+((e:Nat):Int))) 0))) (ai (ab (List.getD g (Int.toNat ((((a:Nat):Int) * c)+((e:Nat):Int))) 0)))) (am (ab (List.getD g (Int.toNat ((((a:Nat):Int) * c)+((e:Nat):Int))) 0)))))) (cp (aB (ak (ab (List.getD f (Int.toNat ((((d:Nat):Int) * b)+((a:Nat):Int))) 0))) (aa 0 (aj (ab (List.getD f (Int.toNat ((((d:Nat):Int) * b)+((a:Nat):Int))) 0))) (ai (ab (List.getD f (Int.toNat ((((d:Nat):Int) * b)+((a:Nat):Int))) 0)))) (am (ab (List.getD f (Int.toNat ((((d:Nat):Int) * b)+((a:Nat):Int))) 0))) (ak (ab (List.getD g (Int.toNat ((((a:Nat):Int) * c)+((e:Nat):Int))) 0))) (aa 0 (aj (ab (List.getD g (Int.toNat ((((a:Nat):Int) * c)+((e:Nat):Int))) 0))) (ai (ab (List.getD g (Int.toNat ((((a:Nat):Int) * c)+((e:Nat):Int))) 0)))) (am (ab (List.getD g (Int.toNat ((((a:Nat):Int) * c)+((e:Nat):Int))) 0))))))),(y9 (eB j (aa 0 i h) k (co (aB (ak (ab (List.getD f (Int.toNat ((((d:Nat):Int) * b)+((a:Nat):Int))) 0))) (aa 0 (aj (ab (List.getD f (Int.toNat ((((d:Nat):Int) * b)+((a:Nat):Int))) 0))) (ai (ab (List.getD f (Int.toNat ((((d:Nat):Int) * b)+((a:Nat):Int))) 0)))) (am (ab (List.getD f (Int.toNat ((((d:Nat):Int) * b)+((a:Nat):Int))) 0))) (ak (ab (List.getD g (Int.toNat ((((a:Nat):Int) * c)+((e:Nat):Int))) 0))) (aa 0 (aj (ab (List.getD g (Int.toNat ((((a:Nat):Int) * c)+((e:Nat):Int))) 0))) (ai (ab (List.getD g (Int.toNat ((((a:Nat):Int) * c)+((e:Nat):Int))) 0)))) (am (ab (List.getD g (Int.toNat ((((a:Nat):Int) * c)+((e:Nat):Int))) 0))))) (aa 0 (bP (aB (ak (ab (List.getD f (Int.toNat ((((d:Nat):Int) * b)+((a:Nat):Int))) 0))) (aa 0 (aj (ab (List.getD f (Int.toNat ((((d:Nat):Int) * b)+((a:Nat):Int))) 0))) (ai (ab (List.getD f (Int.toNat ((((d:Nat):Int) * b)+((a:Nat):Int))) 0)))) (am (ab (List.getD f (Int.toNat ((((d:Nat):Int) * b)+((a:Nat):Int))) 0))) (ak (ab (List.getD g (Int.toNat ((((a:Nat):Int) * c)+((e:Nat):Int))) 0))) (aa 0 (aj (ab (List.getD g (Int.toNat ((((a:Nat):Int) * c)+((e:Nat):Int))) 0))) (ai (ab (List.getD g (Int.toNat ((((a:Nat):Int) * c)+((e:Nat):Int))) 0)))) (am (ab (List.getD g (Int.toNat ((((a:Nat):Int) * c)+((e:Nat):Int))) 0))))) (bO (aB (ak (ab (List.getD f (Int.toNat ((((d:Nat):Int) * b)+((a:Nat):Int))) 0))) (aa 0 (aj (ab (List.getD f (Int.toNat ((((d:Nat):Int) * b)+((a:Nat):Int))) 0))) (ai (ab (List.getD f (Int.toNat ((((d:Nat):Int) * b)+((a:Nat):Int))) 0)))) (am (ab (List.getD f (Int.toNat ((((d:Nat):Int) * b)+((a:Nat):Int))) 0))) (ak (ab (List.getD g (Int.toNat ((((a:Nat):Int) * c)+((e:Nat):Int))) 0))) (aa 0 (aj (ab (List.getD g (Int.toNat ((((a:Nat):Int) * c)+((e:Nat):Int))) 0))) (ai (ab (List.getD g (Int.toNat ((((a:Nat):Int) * c)+((e:Nat):Int))) 0)))) (am (ab (List.getD g (Int.toNat ((((a:Nat):Int) * c)+((e:Nat):Int))) 0)))))) (cp (aB (ak (ab (List.getD f (Int.toNat ((((d:Nat):Int) * b)+((a:Nat):Int))) 0))) (aa 0 (aj (ab (List.getD f (Int.toNat ((((d:Nat):Int) * b)+((a:Nat):Int))) 0))) (ai (ab (List.getD f (Int.toNat ((((d:Nat):Int) * b)+((a:Nat):Int))) 0)))) (am (ab (List.getD f (Int.toNat ((((d:Nat):Int) * b)+((a:Nat):Int))) 0))) (ak (ab (List.getD g (Int.toNat ((((a:Nat):Int) * c)+((e:Nat):Int))) 0))) (aa 0 (aj (ab (List.getD g (Int.toNat ((((a:Nat):Int) * c)+((e:Nat):Int))) 0))) (ai (ab (List.getD g (Int.toNat ((((a:Nat):Int) * c)+((e:Nat):Int))) 0)))) (am (ab (List.getD g (Int.toNat ((((a:Nat):Int) * c)+((e:Nat):Int))) 0))))))),(za (eB j (aa 0 i h) k (co (aB (ak (ab (List.getD f (Int.toNat ((((d:Nat):Int) * b)+((a:Nat):Int))) 0))) (aa 0 (aj (ab (List.getD f (Int.toNat ((((d:Nat):Int) * b)+((a:Nat):Int))) 0))) (ai (ab (List.getD f (Int.toNat ((((d:Nat):Int) * b)+((a:Nat):Int))) 0)))) (am (ab (List.getD f (Int.toNat ((((d:Nat):Int) * b)+((a:Nat):Int))) 0))) (ak (ab (List.getD g (Int.toNat ((((a:Nat):Int) * c)+((e:Nat):Int))) 0))) (aa 0 (aj (ab (List.getD g (Int.toNat ((((a:Nat):Int) * c)+((e:Nat):Int))) 0))) (ai (ab (List.getD g (Int.toNat ((((a:Nat):Int) * c)+((e:Nat):Int))) 0)))) (am (ab (List.getD g (Int.toNat ((((a:Nat):Int) * c)+((e:Nat):Int))) 0))))) (aa 0 (bP (aB (ak (ab (List.getD f (Int.toNat ((((d:Nat):Int) * b)+((a:Nat):Int))) 0))) (aa 0 (aj (ab (List.getD f (Int.toNat ((((d:Nat):Int) * b)+((a:Nat):Int))) 0))) (ai (ab (List.getD f (Int.toNat ((((d:Nat):Int) * b)+((a:Nat):Int))) 0)))) (am (ab (List.getD f (Int.toNat ((((d:Nat):Int) * b)+((a:Nat):Int))) 0))) (ak (ab (List.getD g (Int.toNat ((((a:Nat):Int) * c)+((e:Nat):Int))) 0))) (aa 0 (aj (ab (List.getD g (Int.toNat ((((a:Nat):Int) * c)+((e:Nat):Int))) 0))) (ai (ab (List.getD g (Int.toNat ((((a:Nat):Int) * c)+((e:Nat):Int))) 0)))) (am (ab (List.getD g (Int.toNat ((((a:Nat):Int) * c)+((e:Nat):Int))) 0))))) (bO (aB (ak (ab (List.getD f (Int.toNat ((((d:Nat):Int) * b)+((a:Nat):Int))) 0))) (aa 0 (aj (ab (List.getD f (Int.toNat ((((d:Nat):Int) * b)+((a:Nat):Int))) 0))) (ai (ab (List.getD f (Int.toNat ((((d:Nat):Int) * b)+((a:Nat):Int))) 0)))) (am (ab (List.getD f (Int.toNat ((((d:Nat):Int) * b)+((a:Nat):Int))) 0))) (ak (ab (List.getD g (Int.toNat ((((a:Nat):Int) * c)+((e:Nat):Int))) 0))) (aa 0 (aj (ab (List.getD g (Int.toNat ((((a:Nat):Int) * c)+((e:Nat):Int))) 0))) (ai (ab (List.getD g (Int.toNat ((((a:Nat):Int) * c)+((e:Nat):Int))) 0)))) (am (ab (List.getD g (Int.toNat ((((a:Nat):Int) * c)+((e:Nat):Int))) 0)))))) (cp (aB (ak (ab (List.getD f (Int.toNat ((((d:Nat):Int) * b)+((a:Nat):Int))) 0))) (aa 0 (aj (ab (List.getD f (Int.toNat ((((d:Nat):Int) * b)+((a:Nat):Int))) 0))) (ai (ab (List.getD f (Int.toNat ((((d:Nat):Int) * b)+((a:Nat):Int))) 0)))) (am (ab (List.getD f (Int.toNat ((((d:Nat):Int) * b)+((a:Nat):Int))) 0))) (ak (ab (List.getD g (Int.toNat ((((a:Nat):Int) * c)+((e:Nat):Int))) 0))) (aa 0 (aj (ab (List.getD g (Int.toNat ((((a:Nat):Int) * c)+((e:Nat):Int))) 0))) (ai (ab (List.getD g (Int.toNat ((((a:Nat):Int) * c)+((e:Nat):Int))) 0)))) (am (ab (List.getD g (Int.toNat ((((a:Nat):Int) * c)+((e:Nat):Int))) 0))))))),(zb (eB j (aa 0 i h) k (co (aB (ak (ab (List.getD f (Int.toNat ((((d:Nat):Int) * b)+((a:Nat):Int))) 0))) (aa 0 (aj (ab (List.getD f (Int.toNat ((((d:Nat):Int) * b)+((a:Nat):Int))) 0))) (ai (ab (List.getD f (Int.toNat ((((d:Nat):Int) * b)+((a:Nat):Int))) 0)))) (am (ab (List.getD f (Int.toNat ((((d:Nat):Int) * b)+((a:Nat):Int))) 0))) (ak (ab (List.getD g (Int.toNat ((((a:Nat):Int) * c)+((e:Nat):Int))) 0))) (aa 0 (aj (ab (List.getD g (Int.toNat ((((a:Nat):Int) * c)+((e:Nat):Int))) 0))) (ai (ab (List.getD g (Int.toNat ((((a:Nat):Int) * c)+((e:Nat):Int))) 0)))) (am (ab (List.getD g (Int.toNat ((((a:Nat):Int) * c)+((e:Nat):Int))) 0))))) (aa 0 (bP (aB (ak (ab (List.getD f (Int.toNat ((((d:Nat):Int) * b)+((a:Nat):Int))) 0))) (aa 0 (aj (ab (List.getD f (Int.toNat ((((d:Nat):Int) * b)+((a:Nat):Int))) 0))) (ai (ab (List.getD f (Int.toNat ((((d:Nat):Int) * b)+((a:Nat):Int))) 0)))) (am (ab (List.getD f (Int.toNat ((((d:Nat):Int) * b)+((a:Nat):Int))) 0))) (ak (ab (List.getD g (Int.toNat ((((a:Nat):Int) * c)+((e:Nat):Int))) 0))) (aa 0 (aj (ab (List.getD g (Int.toNat ((((a:Nat):Int) * c)+((e:Nat):Int))) 0))) (ai (ab (List.getD g (Int.toNat ((((a:Nat):Int) * c)+((e:Nat):Int))) 0)))) (am (ab (List.getD g (Int.toNat ((((a:Nat):Int) * c)+((e:Nat):Int))) 0))))) (bO (aB (ak (ab (List.getD f (Int.toNat ((((d:Nat):Int) * b)+((a:Nat):Int))) 0))) (aa 0 (aj (ab (List.getD f (Int.toNat ((((d:Nat):Int) * b)+((a:Nat):Int))) 0))) (ai (ab (List.getD f (Int.toNat ((((d:Nat):Int) * b)+((a:Nat):Int))) 0)))) (am (ab (List.getD f (Int.toNat ((((d:Nat):Int) * b)+((a:Nat):Int))) 0))) (ak (ab (List.getD g (Int.toNat ((((a:Nat):Int) * c)+((e:Nat):Int))) 0))) (aa 0 (aj (ab (List.getD g (Int.toNat ((((a:Nat):Int) * c)+((e:Nat):Int))) 0))) (ai (ab (List.getD g (Int.toNat ((((a:Nat):Int) * c)+((e:Nat):Int))) 0)))) (am (ab (List.getD g (Int.toNat ((((a:Nat):Int) * c)+((e:Nat):Int))) 0)))))) (cp (aB (ak (ab (List.getD f (Int.toNat ((((d:Nat):Int) * b)+((a:Nat):Int))) 0))) (aa 0 (aj (ab (List.getD f (Int.toNat ((((d:Nat):Int) * b)+((a:Nat):Int))) 0))) (ai (ab (List.getD f (Int.toNat ((((d:Nat):Int) * b)+((a:Nat):Int))) 0)))) (am (ab (List.getD f (Int.toNat ((((d:Nat):Int) * b)+((a:Nat):Int))) 0))) (ak (ab (List.getD g (Int.toNat ((((a:Nat):Int) * c)+((e:Nat):Int))) 0))) (aa 0 (aj (ab (List.getD g (Int.toNat ((((a:Nat):Int) * c)+((e:Nat):Int))) 0))) (ai (ab (List.getD g (Int.toNat ((((a:Nat):Int) * c)+((e:Nat):Int))) 0)))) (am (ab (List.getD g (Int.toNat ((((a:Nat):Int) * c)+((e:Nat):Int))) 0))))))))))
    (.leaf (.inr (.inl (j,h,i,k))))
def Fw(a:Nat)(b:Bool)(c:List Int)(d:Nat)(e:Int) :T ((Nat×Bool×(List Int)×Nat×Int)⊕((Bool×(List Int)×Nat×Int)⊕((Bool×(List Int)×Nat×Int)⊕((Bool×(List Int)×Nat×Int)⊕((Bool×(List Int)×Nat×Int)⊕((Bool×(List Int)×Nat×Int)⊕(bp))))))) :=
  .need (ej .i64 (((a+1):Nat):Int))<|.leaf (.inl ((a+1),b,c,d,e))
def rA(b:Int)(c:List Nat)(d:Int)(e:List Nat)(f:Nat)(g:Nat) :Nat×Bool×(List Int)×Nat×Int→Option ((Nat×Bool×(List Int)×Nat×Int)⊕((Bool×(List Int)×Nat×Int)⊕((Bool×(List Int)×Nat×Int)⊕((Bool×(List Int)×Nat×Int)⊕((Bool×(List Int)×Nat×Int)⊕((Bool×(List Int)×Nat×Int)⊕(bp))))))):=fun (a,h,i,j,k) =>
  aH ((nZ b c d e f g a h i j k).run) fun (l,m,n,o) =>
  (Fw a l m n o).run
theorem Rz(h:Int)(c:Int)(i:Lv)(d:List Nat)(j:Int)(e:Int)(k:Lv)(f:List Nat)(l:Int)(m:Int)(n:Lv)(o:List Nat)(p:Lv)(q:List Nat)(b:Bool)(g:Nat)(r:Nat)(s:Bool)(t:List Int)(u:Nat)(v:Int)(w:Nat)(x:Bool)(y:List Int)(z:Nat)(A:Int) :Sg prog [] w5 (kR h c i d j e k f l m n o p q b g r s t u v (w,x,y,z,A)) (rA c d e f g r (w,x,y,z,A)) (kR h c i d j e k f l m n o p q b g r s t u v) (aS 4 (nY h c i d j e k f l m n o p q b g r s t u v) (aS 3 (eK h c i d j e k f l m n o p q b g r) (aS 2 (dG h c i d j e k f l m n o p q b g) (aS 1 (cJ h c i d j e k f l m n o p q b g) (aS 0 (ct b) cq))))):=by
  unfold rA;exact Sg.cut 3 (aN (aN (aN (aN (aN cj))))) (Sg.seg (C:=C0) ap cL 60 (w5.take 3) (kR h c i d j e k f l m n o p q b g r s t u v (w,x,y,z,A)) (nZ c d e f g r w x y z A) (Fv h c i d j e k f l m n o p q b g r s t u v w) (aS 4 (nY h c i d j e k f l m n o p q b g r s t u v) (aS 3 (eK h c i d j e k f l m n o p q b g r) (aS 2 (dG h c i d j e k f l m n o p q b g) (aS 1 (cJ h c i d j e k f l m n o p q b g) (aS 0 (ct b) cq))))) [⟨[],[0,1,2,3,4,5],[3,4,5,6,8,9,10,11,12,13]⟩,⟨[],[0,1,2,3,4,5],[3,4,5,6,8,9,10,11,12]⟩] (by kernel_rfl)) (fun a=>by obtain ⟨B,D,E,F⟩:=a;exact Sg.seg (C:=C0) ap cL 60 (w5.drop 3) (Fv h c i d j e k f l m n o p q b g r s t u v w (B,D,E,F)) (Fw w B D E F) (kR h c i d j e k f l m n o p q b g r s t u v) (aS 4 (nY h c i d j e k f l m n o p q b g r s t u v) (aS 3 (eK h c i d j e k f l m n o p q b g r) (aS 2 (dG h c i d j e k f l m n o p q b g) (aS 1 (cJ h c i d j e k f l m n o p q b g) (aS 0 (ct b) cq))))) [⟨[],[0,1,2,3,4,5],[3,4,5,6,8,9,10,11,12,13]⟩] (by kernel_rfl))
def RA(a:Int)(b:Int)(c:Lv)(d:List Nat)(e:Int)(f:Int)(g:Lv)(h:List Nat)(i:Int)(j:Int)(k:Lv)(l:List Nat)(m:Lv)(n:List Nat)(o:Bool)(p:Nat)(q:Nat)(r:Bool)(s:List Int)(t:Nat)(u:Int) :Bool×(List Int)×Nat×Int→aM:=nY a b c d e f g h i j k l m n o p q r s t u
def Fx(e:Int)(f:Int)(g:Lv)(a:List Nat)(h:Int)(i:Int)(j:Lv)(b:List Nat)(k:Int)(l:Int)(m:Lv)(c:List Nat)(n:Lv)(d:List Nat)(o:Bool)(p:Nat)(q:Nat)(r:Bool)(s:List Int)(t:Nat)(u:Int) :Bool×(List Int)×Nat×Int→aM:=fun (v,w,x,y)=>⟨an 84 [(3,.imm n (.fl d) 1 1 0 (List.length d)),(4,.ptr 0 1 0 0),(5,.ptr 1 1 0 0),(6,.ptr 2 1 0 0),(8,.ptr 3 1 0 0),(9,.ptr 4 1 0 0),(10,.int .i64 ((p:Nat):Int)),(11,.int .i64 ((q:Nat):Int)),(12,.ptr 5 1 0 0)],[(0,.vs [.int .i64 e,.int .i64 f,.imm g (.fl a) 1 1 0 (List.length a)]),(1,.vs [.int .i64 h,.int .i64 i,.imm j (.fl b) 1 1 0 (List.length b)]),(2,.vs [.int .i64 k,.int .i64 l,.imm m (.fl c) 1 1 0 (List.length c)]),(3,.vs [.bool false o,.nsl,.int .i64 (0:Int)]),(4,.vs [.bool false r,.imm .free (.ns .u64 s) 1 1 0 t,.int .i64 u]),(5,.vs [.bool false v,.imm .free (.ns .u64 w) 1 1 0 x,.int .i64 y])],6⟩
def rB(b:Int)(d:List Nat)(e:List Nat)(c:Nat)(a:Nat)(h:Bool)(f:List Int)(g:Nat)(i:Int) :T ((Bool×(List Int)×Nat×Int)⊕((Bool×(List Int)×Nat×Int)⊕((Bool×(List Int)×Nat×Int)⊕((Bool×(List Int)×Nat×Int)⊕((Bool×(List Int)×Nat×Int)⊕(bp)))))) :=
  .need (ej .i64 (((c:Nat):Int) * b))<|.need (ej .i64 ((((c:Nat):Int) * b)+((a:Nat):Int)))<|.need (iC ((((c:Nat):Int) * b)+((a:Nat):Int)) (List.length d))<|.need (jt (Int.toNat ((((c:Nat):Int) * b)+((a:Nat):Int))) (List.length d))<|.need (jY (ab (List.getD d (Int.toNat ((((c:Nat):Int) * b)+((a:Nat):Int))) 0)))<|.need (iC ((a:Nat):Int) (List.length e))<|.need (jt a (List.length e))<|.need (jY (ab (List.getD e a 0)))<|.need (aR 0 (aj (ab (List.getD d (Int.toNat ((((c:Nat):Int) * b)+((a:Nat):Int))) 0))) (ai (ab (List.getD d (Int.toNat ((((c:Nat):Int) * b)+((a:Nat):Int))) 0))))<|.need (aR 0 (aj (ab (List.getD e a 0))) (ai (ab (List.getD e a 0))))<|.need (jX (aB (ak (ab (List.getD d (Int.toNat ((((c:Nat):Int) * b)+((a:Nat):Int))) 0))) (aa 0 (aj (ab (List.getD d (Int.toNat ((((c:Nat):Int) * b)+((a:Nat):Int))) 0))) (ai (ab (List.getD d (Int.toNat ((((c:Nat):Int) * b)+((a:Nat):Int))) 0)))) (am (ab (List.getD d (Int.toNat ((((c:Nat):Int) * b)+((a:Nat):Int))) 0))) (ak (ab (List.getD e a 0))) (aa 0 (aj (ab (List.getD e a 0))) (ai (ab (List.getD e a 0)))) (am (ab (List.getD e a 0)))))<|.need (aR 0 g f)<|.need (aR 0 (bP (aB (ak (ab (List.getD d (Int.toNat ((((c:Nat):Int) * b)+((a:Nat):Int))) 0))) (aa 0 (aj (ab (List.getD d (Int.toNat ((((c:Nat):Int) * b)+((a:Nat):Int))) 0))) (ai (ab (List.getD d (Int.toNat ((((c:Nat):Int) * b)+((a:Nat):Int))) 0)))) (am (ab (List.getD d (Int.toNat ((((c:Nat):Int) * b)+((a:Nat):Int))) 0))) (ak (ab (List.getD e a 0))) (aa 0 (aj (ab (List.getD e a 0))) (ai (ab (List.getD e a 0)))) (am (ab (List.getD e a 0))))) (bO (aB (ak (ab (List.getD d (Int.toNat ((((c:Nat):Int) * b)+((a:Nat):Int))) 0))) (aa 0 (aj (ab (List.getD d (Int.toNat ((((c:Nat):Int) * b)+((a:Nat):Int))) 0))) (ai (ab (List.getD d (Int.toNat ((((c:Nat):Int) * b)+((a:Nat):Int))) 0)))) (am (ab (List.getD d (Int.toNat ((((c:Nat):Int) * b)+((a:Nat):Int))) 0))) (ak (ab (List.getD e a 0))) (aa 0 (aj (ab (List.getD e a 0))) (ai (ab (List.getD e a 0)))) (am (ab (List.getD e a 0))))))<|.need (BA (gW h (aa 0 g f) i (co (aB (ak (ab (List.getD d (Int.toNat ((((c:Nat):Int) * b)+((a:Nat):Int))) 0))) (aa 0 (aj (ab (List.getD d (Int.toNat ((((c:Nat):Int) * b)+((a:Nat):Int))) 0))) (ai (ab (List.getD d (Int.toNat ((((c:Nat):Int) * b)+((a:Nat):Int))) 0)))) (am (ab (List.getD d (Int.toNat ((((c:Nat):Int) * b)+((a:Nat):Int))) 0))) (ak (ab (List.getD e a 0))) (aa 0 (aj (ab (List.getD e a 0))) (ai (ab (List.getD e a 0)))) (am (ab (List.getD e a 0))))) (aa 0 (bP (aB (ak (ab (List.getD d (Int.toNat ((((c:Nat):Int) * b)+((a:Nat):Int))) 0))) (aa 0 (aj (ab (List.getD d (Int.toNat ((((c:Nat):Int) * b)+((a:Nat):Int))) 0))) (ai (ab (List.getD d (Int.toNat ((((c:Nat):Int) * b)+((a:Nat):Int))) 0)))) (am (ab (List.getD d (Int.toNat ((((c:Nat):Int) * b)+((a:Nat):Int))) 0))) (ak (ab (List.getD e a 0))) (aa 0 (aj (ab (List.getD e a 0))) (ai (ab (List.getD e a 0)))) (am (ab (List.getD e a 0))))) (bO (aB (ak (ab (List.getD d (Int.toNat ((((c:Nat):Int) * b)+((a:Nat):Int))) 0))) (aa 0 (aj (ab (List.getD d (Int.toNat ((((c:Nat):Int) * b)+((a:Nat):Int))) 0))) (ai (ab (List.getD d (Int.toNat ((((c:Nat):Int) * b)+((a:Nat):Int))) 0)))) (am (ab (List.getD d (Int.toNat ((((c:Nat):Int) * b)+((a:Nat):Int))) 0))) (ak (ab (List.getD e a 0))) (aa 0 (aj (ab (List.getD e a 0))) (ai (ab (List.getD e a 0)))) (am (ab (List.getD e a 0)))))) (cp (aB (ak (ab (List.getD d (Int.toNat ((((c:Nat):Int) * b)+((a:Nat):Int))) 0))) (aa 0 (aj (ab (List.getD d (Int.toNat ((((c:Nat):Int) * b)+((a:Nat):Int))) 0))) (ai (ab (List.getD d (Int.toNat ((((c:Nat):Int) * b)+((a:Nat):Int))) 0)))) (am (ab (List.getD d (Int.toNat ((((c:Nat):Int) * b)+((a:Nat):Int))) 0))) (ak (ab (List.getD e a 0))) (aa 0 (aj (ab (List.getD e a 0))) (ai (ab (List.getD e a 0)))) (am (ab (List.getD e a 0)))))))<|.leaf (.inl ((CG (gW h (aa 0 g f) i (co (aB (ak (ab (List.getD d (Int.toNat ((((c:Nat):Int) * b)+((a:Nat):Int))) 0))) (aa 0 (aj (ab (List.getD d (Int.toNat ((((c:Nat):Int) * b)+((a:Nat):Int))) 0))) (ai (ab (List.getD d (Int.toNat ((((c:Nat):Int) * b)+((a:Nat):Int))) 0)))) (am (ab (List.getD d (Int.toNat ((((c:Nat):Int) * b)+((a:Nat):Int))) 0))) (ak (ab (List.getD e a 0))) (aa 0 (aj (ab (List.getD e a 0))) (ai (ab (List.getD e a 0)))) (am (ab (List.getD e a 0))))) (aa 0 (bP (aB (ak (ab (List.getD d (Int.toNat ((((c:Nat):Int) * b)+((a:Nat):Int))) 0))) (aa 0 (aj (ab (List.getD d (Int.toNat ((((c:Nat):Int) * b)+((a:Nat):Int))) 0))) (ai (ab (List.getD d (Int.toNat ((((c:Nat):Int) * b)+((a:Nat):Int))) 0)))) (am (ab (List.getD d (Int.toNat ((((c:Nat):Int) * b)+((a:Nat):Int))) 0))) (ak (ab (List.getD e a 0))) (aa 0 (aj (ab (List.getD e a 0))) (ai (ab (List.getD e a 0)))) (am (ab (List.getD e a 0))))) (bO (aB (ak (ab (List.getD d (Int.toNat ((((c:Nat):Int) * b)+((a:Nat):Int))) 0))) (aa 0 (aj (ab (List.getD d (Int.toNat ((((c:Nat):Int) * b)+((a:Nat):Int))) 0))) (ai (ab (List.getD d (Int.toNat ((((c:Nat):Int) * b)+((a:Nat):Int))) 0)))) (am (ab (List.getD d (Int.toNat ((((c:Nat):Int) * b)+((a:Nat):Int))) 0))) (ak (ab (List.getD e a 0))) (aa 0 (aj (ab (List.getD e a 0))) (ai (ab (List.getD e a 0)))) (am (ab (List.getD e a 0)))))) (cp (aB (ak (ab (List.getD d (Int.toNat ((((c:Nat):Int) * b)+((a:Nat):Int))) 0))) (aa 0 (aj (ab (List.getD d (Int.toNat ((((c:Nat):Int) * b)+((a:Nat):Int))) 0))) (ai (ab (List.getD d (Int.toNat ((((c:Nat):Int) * b)+((a:Nat):Int))) 0)))) (am (ab (List.getD d (Int.toNat ((((c:Nat):Int) * b)+((a:Nat):Int))) 0))) (ak (ab (List.getD e a 0))) (aa 0 (aj (ab (List.getD e a 0))) (ai (ab (List.getD e a 0)))) (am (ab (List.getD e a 0))))))),(CH (gW h (aa 0 g f) i (co (aB (ak (ab (List.getD d (Int.toNat ((((c:Nat):Int) * b)+((a:Nat):Int))) 0))) (aa 0 (aj (ab (List.getD d (Int.toNat ((((c:Nat):Int) * b)+((a:Nat):Int))) 0))) (ai (ab (List.getD d (Int.toNat ((((c:Nat):Int) * b)+((a:Nat):Int))) 0)))) (am (ab (List.getD d (Int.toNat ((((c:Nat):Int) * b)+((a:Nat):Int))) 0))) (ak (ab (List.getD e a 0))) (aa 0 (aj (ab (List.getD e a 0))) (ai (ab (List.getD e a 0)))) (am (ab (List.getD e a 0))))) (aa 0 (bP (aB (ak (ab (List.getD d (Int.toNat ((((c:Nat):Int) * b)+((a:Nat):Int))) 0))) (aa 0 (aj (ab (List.getD d (Int.toNat ((((c:Nat):Int) * b)+((a:Nat):Int))) 0))) (ai (ab (List.getD d (Int.toNat ((((c:Nat):Int) * b)+((a:Nat):Int))) 0)))) (am (ab (List.getD d (Int.toNat ((((c:Nat):Int) * b)+((a:Nat):Int))) 0))) (ak (ab (List.getD e a 0))) (aa 0 (aj (ab (List.getD e a 0))) (ai (ab (List.getD e a 0)))) (am (ab (List.getD e a 0))))) (bO (aB (ak (ab (List.getD d (Int.toNat ((((c:Nat):Int) * b)+((a:Nat):Int))) 0))) (aa 0 (aj (ab (List.getD d (Int.toNat ((((c:Nat):Int) * b)+((a:Nat):Int))) 0))) (ai (ab (List.getD d (Int.toNat ((((c:Nat):Int) * b)+((a:Nat):Int))) 0)))) (am (ab (List.getD d (Int.toNat ((((c:Nat):Int) * b)+((a:Nat):Int))) 0))) (ak (ab (List.getD e a 0))) (aa 0 (aj (ab (List.getD e a 0))) (ai (ab (List.getD e a 0)))) (am (ab (List.getD e a 0)))))) (cp (aB (ak (ab (List.getD d (Int.toNat ((((c:Nat):Int) * b)+((a:Nat):Int))) 0))) (aa 0 (aj (ab (List.getD d (Int.toNat ((((c:Nat):Int) * b)+((a:Nat):Int))) 0))) (ai (ab (List.getD d (Int.toNat ((((c:Nat):Int) * b)+((a:Nat):Int))) 0)))) (am (ab (List.getD d (Int.toNat ((((c:Nat):Int) * b)+((a:Nat):Int))) 0))) (ak (ab (List.getD e a 0))) (aa 0 (aj (ab (List.getD e a 0))) (ai (ab (List.getD e a 0)))) (am (ab (List.getD e a 0))))))),(CI (gW h (aa 0 g f) i (co (aB (ak (ab (List.getD d (Int.toNat ((((c:Nat):Int) * b)+((a:Nat):Int))) 0))) (aa 0 (aj (ab (List.getD d (Int.toNat ((((c:Nat):Int) * b)+((a:Nat):Int))) 0))) (ai (ab (List.getD d (Int.toNat ((((c:Nat):Int) * b)+((a:Nat):Int))) 0)))) (am (ab (List.getD d (Int.toNat ((((c:Nat):Int) * b)+((a:Nat):Int))) 0))) (ak (ab (List.getD e a 0))) (aa 0 (aj (ab (List.getD e a 0))) (ai (ab (List.getD e a 0)))) (am (ab (List.getD e a 0))))) (aa 0 (bP (aB (ak (ab (List.getD d (Int.toNat ((((c:Nat):Int) * b)+((a:Nat):Int))) 0))) (aa 0 (aj (ab (List.getD d (Int.toNat ((((c:Nat):Int) * b)+((a:Nat):Int))) 0))) (ai (ab (List.getD d (Int.toNat ((((c:Nat):Int) * b)+((a:Nat):Int))) 0)))) (am (ab (List.getD d (Int.toNat ((((c:Nat):Int) * b)+((a:Nat):Int))) 0))) (ak (ab (List.getD e a 0))) (aa 0 (aj (ab (List.getD e a 0))) (ai (ab (List.getD e a 0)))) (am (ab (List.getD e a 0))))) (bO (aB (ak (ab (List.getD d (Int.toNat ((((c:Nat):Int) * b)+((a:Nat):Int))) 0))) (aa 0 (aj (ab (List.getD d (Int.toNat ((((c:Nat):Int) * b)+((a:Nat):Int))) 0))) (ai (ab (List.getD d (Int.toNat ((((c:Nat):Int) * b)+((a:Nat):Int))) 0)))) (am (ab (List.getD d (Int.toNat ((((c:Nat):Int) * b)+((a:Nat):Int))) 0))) (ak (ab (List.getD e a 0))) (aa 0 (aj (ab (List.getD e a 0))) (ai (ab (List.getD e a 0)))) (am (ab (List.getD e a 0)))))) (cp (aB (ak (ab (List.getD d (Int.toNat ((((c:Nat):Int) * b)+((a:Nat):Int))) 0))) (aa 0 (aj (ab (List.getD d (Int.toNat ((((c:Nat):Int) * b)+((a:Nat):Int))) 0))) (ai (ab (List.getD d (Int.toNat ((((c:Nat):Int) * b)+((a:Nat):Int))) 0)))) (am (ab (List.getD d (Int.toNat ((((c:Nat):Int) * b)+((a:Nat):Int))) 0))) (ak (ab (List.getD e a 0))) (aa 0 (aj (ab (List.getD e a 0))) (ai (ab (List.getD e a 0)))) (am (ab (List.getD e a 0))))))),(CJ (gW h (aa 0 g f) i (co (aB (ak (ab (List.getD d (Int.toNat ((((c:Nat):Int) * b)+((a:Nat):Int))) 0))) (aa 0 (aj (ab (List.getD d (Int.toNat ((((c:Nat):Int) * b)+((a:Nat):Int))) 0))) (ai (ab (List.getD d (Int.toNat ((((c:Nat):Int) * b)+((a:Nat):Int))) 0)))) (am (ab (List.getD d (Int.toNat ((((c:Nat):Int) * b)+((a:Nat):Int))) 0))) (ak (ab (List.getD e a 0))) (aa 0 (aj (ab (List.getD e a 0))) (ai (ab (List.getD e a 0)))) (am (ab (List.getD e a 0))))) (aa 0 (bP (aB (ak (ab (List.getD d (Int.toNat ((((c:Nat):Int) * b)+((a:Nat):Int))) 0))) (aa 0 (aj (ab (List.getD d (Int.toNat ((((c:Nat):Int) * b)+((a:Nat):Int))) 0))) (ai (ab (List.getD d (Int.toNat ((((c:Nat):Int) * b)+((a:Nat):Int))) 0)))) (am (ab (List.getD d (Int.toNat ((((c:Nat):Int) * b)+((a:Nat):Int))) 0))) (ak (ab (List.getD e a 0))) (aa 0 (aj (ab (List.getD e a 0))) (ai (ab (List.getD e a 0)))) (am (ab (List.getD e a 0))))) (bO (aB (ak (ab (List.getD d (Int.toNat ((((c:Nat):Int) * b)+((a:Nat):Int))) 0))) (aa 0 (aj (ab (List.getD d (Int.toNat ((((c:Nat):Int) * b)+((a:Nat):Int))) 0))) (ai (ab (List.getD d (Int.toNat ((((c:Nat):Int) * b)+((a:Nat):Int))) 0)))) (am (ab (List.getD d (Int.toNat ((((c:Nat):Int) * b)+((a:Nat):Int))) 0))) (ak (ab (List.getD e a 0))) (aa 0 (aj (ab (List.getD e a 0))) (ai (ab (List.getD e a 0)))) (am (ab (List.getD e a 0)))))) (cp (aB (ak (ab (List.getD d (Int.toNat ((((c:Nat):Int) * b)+((a:Nat):Int))) 0))) (aa 0 (aj (ab (List.getD d (Int.toNat ((((c:Nat):Int) * b)+((a:Nat):Int))) 0))) (ai (ab (List.getD d (Int.toNat ((((c:Nat):Int) * b)+((a:Nat):Int))) 0)))) (am (ab (List.getD d (Int.toNat ((((c:Nat):Int) * b)+((a:Nat):Int))) 0))) (ak (ab (List.getD e a 0))) (aa 0 (aj (ab (List.getD e a 0))) (ai (ab (List.getD e a 0)))) (am (ab (List.getD e a 0)))))))))
def rC(g:Bool)(e:List Int)(f:Nat)(h:Int)(c:Bool)(a:List Int)(b:Nat)(d:Int) :T ((Bool×(List Int)×Nat×Int)⊕((Bool×(List Int)×Nat×Int)⊕((Bool×(List Int)×Nat×Int)⊕((Bool×(List Int)×Nat×Int)⊕((Bool×(List Int)×Nat×Int)⊕(bp)))))) :=
  .need (aR 0 b a)<|.need (aR 0 b a)<|.need (jX (aB c (aa 0 b a) d c (aa 0 b a) d))<|.need (aR 0 f e)<|.need (aR 0 (bP (aB c (aa 0 b a) d c (aa 0 b a) d)) (bO (aB c (aa 0 b a) d c (aa 0 b a) d)))<|.need (y7 (eB g (aa 0 f e) h (co (aB c (aa 0 b a) d c (aa 0 b a) d)) (aa 0 (bP (aB c (aa 0 b a) d c (aa 0 b a) d)) (bO (aB c (aa 0 b a) d c (aa 0 b a) d))) (cp (aB c (aa 0 b a) d c (aa 0 b a) d))))<|.leaf (.inl ((y8 (eB g (aa 0 f e) h (co (aB c (aa 0 b a) d c (aa 0 b a) d)) (aa 0 (bP (aB c (aa 0 b a) d c (aa 0 b a) d)) (bO (aB c (aa 0 b a) d c (aa 0 b a) d))) (cp (aB c (aa 0 b a) d c (aa 0 b a) d)))),(y9 (eB g (aa 0 f e) h (co (aB c (aa 0 b a) d c (aa 0 b a) d)) (aa 0 (bP (aB c (aa 0 b a) d c (aa 0 b a) d)) (bO (aB c (aa 0 b a) d c (aa 0 b a) d))) (cp (aB c (aa 0 b a) d c (aa 0 b a) d)))),(za (eB g (aa 0 f e) h (co (aB c (aa 0 b a) d c (aa 0 b a) d)) (aa 0 (bP (aB c (aa 0 b a) d c (aa 0 b a) d)) (bO (aB c (aa 0 b a) d c (aa 0 b a) d))) (cp (aB c (aa 0 b a) d c (aa 0 b a) d)))),(zb (eB g (aa 0 f e) h (co (aB c (aa 0 b a) d c (aa 0 b a) d)) (aa 0 (bP (aB c (aa 0 b a) d c (aa 0 b a) d)) (bO (aB c (aa 0 b a) d c (aa 0 b a) d))) (cp (aB c (aa 0 b a) d c (aa 0 b a) d))))))
def RB(a:Int)(b:Int)(c:Lv)(d:List Nat)(e:Int)(f:Int)(g:Lv)(h:List Nat)(i:Int)(j:Int)(k:Lv)(l:List Nat)(m:Lv)(n:List Nat)(o:Bool)(p:Nat)(q:Nat) :Bool×(List Int)×Nat×Int→aM:=eK a b c d e f g h i j k l m n o p q
def Fy(a:Nat)(b:Bool)(c:List Int)(d:Nat)(e:Int) :T ((Nat×Bool×(List Int)×Nat×Int)⊕((Bool×(List Int)×Nat×Int)⊕((Bool×(List Int)×Nat×Int)⊕((Bool×(List Int)×Nat×Int)⊕(bp))))) :=
  .need (ej .i64 (((a+1):Nat):Int))<|.leaf (.inl ((a+1),b,c,d,e))
def rD(h:Int)(i:List Nat)(j:Int)(k:List Nat)(b:Int)(l:List Nat)(m:List Nat)(c:Nat) :Nat×Bool×(List Int)×Nat×Int→Option ((Nat×Bool×(List Int)×Nat×Int)⊕((Bool×(List Int)×Nat×Int)⊕((Bool×(List Int)×Nat×Int)⊕((Bool×(List Int)×Nat×Int)⊕(bp))))):=fun (a,d,e,f,g) =>
  aH ((rz b a d e f g).run) fun _ =>
  aH (Sf (aH ((wZ).run) fun (n,o,p,q) =>
  aH ((Fu).run) fun _ =>
  aH (eh (rA h i j k c a) (0,n,o,p,q)) fun (r,s,t,u) =>
  aH ((rB b l m c a r s t u).run) fun (v,w,x,y) =>
  (rC d e f g v w x y).run)) fun (z,A,B,C) =>
  (Fy a z A B C).run
theorem RC(k:Int)(g:Int)(l:Lv)(h:List Nat)(m:Int)(i:Int)(n:Lv)(j:List Nat)(o:Int)(c:Int)(p:Lv)(d:List Nat)(q:Lv)(e:List Nat)(b:Bool)(f:Nat)(r:Nat)(t:Bool)(u:List Int)(v:Nat)(w:Int) :Sg prog [] kQ (kP k g l h m i n j o c p d q e b f (r,t,u,v,w)) (rD g h i j c d e f (r,t,u,v,w)) (kP k g l h m i n j o c p d q e b f) (aS 2 (dG k g l h m i n j o c p d q e b f) (aS 1 (cJ k g l h m i n j o c p d q e b f) (aS 0 (ct b) cq))):=by
  unfold rD;exact Sg.cut 2 (aN (aN (aN cj))) (Sg.seg (C:=C0) ap cL 60 (kQ.take 2) (kP k g l h m i n j o c p d q e b f (r,t,u,v,w)) (rz c r t u v w) (Fr k g l h m i n j o c p d q e b f r t u v w) (aS 2 (dG k g l h m i n j o c p d q e b f) (aS 1 (cJ k g l h m i n j o c p d q e b f) (aS 0 (ct b) cq))) [⟨[],[0,1,2,3,4],[3,4,5,6,8,9,10,11]⟩,⟨[],[0,1,2,3,4],[3,4,5,6,8,9,10]⟩] (by kernel_rfl)) (fun a=>by cases a;exact Sg.cut 1 (aN (aN (aN cj))) (D1 (id:=3) (K:=(eK k g l h m i n j o c p d q e b f r)) (by kernel_rfl:((kQ.drop 2).take 1) = [.block 3 (inBlock ((((kQ.drop 2).take 1)).headD .skip))]) (aN (aN (aN cj))) (gL (by decide) (gL (by decide) (gL (by decide) (pH _)))) (Sg.cut 1 (aN (aN (aN (aN cj)))) (Sg.seg (C:=C0) ap cL 60 (i8.take 1) (Fr k g l h m i n j o c p d q e b f r t u v w ()) (wZ) (Fs k g l h m i n j o c p d q e b f r t u v w) (aS 3 (eK k g l h m i n j o c p d q e b f r) (aS 2 (dG k g l h m i n j o c p d q e b f) (aS 1 (cJ k g l h m i n j o c p d q e b f) (aS 0 (ct b) cq)))) [⟨[],[0,1,2,3,4,21],[3,4,5,6,8,9,10,11,12]⟩] (by kernel_rfl)) (fun a=>by obtain ⟨x,y,z,A⟩:=a;exact Sg.cut 1 (aN (aN (aN (aN cj)))) (Sg.seg (C:=C0) ap cL 60 ((i8.drop 1).take 1) (Fs k g l h m i n j o c p d q e b f r t u v w (x,y,z,A)) (Fu) (Ft k g l h m i n j o c p d q e b f r t u v w x y z A) (aS 3 (eK k g l h m i n j o c p d q e b f r) (aS 2 (dG k g l h m i n j o c p d q e b f) (aS 1 (cJ k g l h m i n j o c p d q e b f) (aS 0 (ct b) cq)))) [⟨[],[0,1,2,3,4,5],[3,4,5,6,8,9,10,11,12,13]⟩] (by kernel_rfl)) (fun a=>by cases a;exact Sg.cut 1 (aN (aN (aN (aN cj)))) (Sg.pre ⟨[],[0,1,2,3,4,5],[3,4,5,6,8,9,10,11,12,13]⟩ rfl (by kernel_rfl:NS.on ⟨[],[0,1,2,3,4,5],[3,4,5,6,8,9,10,11,12,13]⟩ (Ft k g l h m i n j o c p d q e b f r t u v w x y z A ())=(kR k g l h m i n j o c p d q e b f r t u v w) (0,x,y,z,A)) (cw (I:=(kR k g l h m i n j o c p d q e b f r t u v w)) (J:=(nY k g l h m i n j o c p d q e b f r t u v w)) (id:=4) (by kernel_rfl:(((i8.drop 1).drop 1).take 1) = [.block 4 (.loop (bW (((((i8.drop 1).drop 1).take 1)).headD .skip)))]) (aN (aN (aN (aN cj)))) (gL (by decide) (gL (by decide) (gL (by decide) (gL (by decide) (pH _))))) (fun s=>by obtain ⟨R,S,T,U,V⟩:=s;exact Rz k g l h m i n j o c p d q e b f r t u v w R S T U V) (0,x,y,z,A))) (fun a=>by obtain ⟨B,D,E,F⟩:=a;exact Sg.cut 1 (aN (aN (aN (aN cj)))) (Sg.seg (C:=C0) ap cL 60 ((((i8.drop 1).drop 1).drop 1).take 1) (RA k g l h m i n j o c p d q e b f r t u v w (B,D,E,F)) (rB c d e f r B D E F) (Fx k g l h m i n j o c p d q e b f r t u v w) (aS 3 (eK k g l h m i n j o c p d q e b f r) (aS 2 (dG k g l h m i n j o c p d q e b f) (aS 1 (cJ k g l h m i n j o c p d q e b f) (aS 0 (ct b) cq)))) [⟨[],[0,1,2,3,4,5],[3,4,5,6,8,9,10,11,12]⟩] (by kernel_rfl)) (fun a=>by obtain ⟨G,H,L,M⟩:=a;exact Sg.seg (C:=C0) ap cL 60 ((((i8.drop 1).drop 1).drop 1).drop 1) (Fx k g l h m i n j o c p d q e b f r t u v w (G,H,L,M)) (rC t u v w G H L M) (eK k g l h m i n j o c p d q e b f r) (aS 3 (eK k g l h m i n j o c p d q e b f r) (aS 2 (dG k g l h m i n j o c p d q e b f) (aS 1 (cJ k g l h m i n j o c p d q e b f) (aS 0 (ct b) cq)))) [⟨[],[0,1,2,3,4],[3,4,5,6,8,9,10,11]⟩] (by kernel_rfl))))))) (fun a=>by obtain ⟨N,O,P,Q⟩:=a;exact Sg.seg (C:=C0) ap cL 60 ((kQ.drop 2).drop 1) (RB k g l h m i n j o c p d q e b f r (N,O,P,Q)) (Fy r N O P Q) (kP k g l h m i n j o c p d q e b f) (aS 2 (dG k g l h m i n j o c p d q e b f) (aS 1 (cJ k g l h m i n j o c p d q e b f) (aS 0 (ct b) cq))) [⟨[],[0,1,2,3,4],[3,4,5,6,8,9,10,11]⟩] (by kernel_rfl)))
def RD(a:Int)(b:Int)(c:Lv)(d:List Nat)(e:Int)(f:Int)(g:Lv)(h:List Nat)(i:Int)(j:Int)(k:Lv)(l:List Nat)(m:Lv)(n:List Nat)(o:Bool)(p:Nat) :Bool×(List Int)×Nat×Int→aM:=dG a b c d e f g h i j k l m n o p
def Fz(a:Bool)(b:List Int)(c:Nat)(d:Int) :T ((Bool×(List Int)×Nat×Int)⊕((Bool×(List Int)×Nat×Int)⊕((Bool×(List Int)×Nat×Int)⊕(bp)))) :=
  .leaf (.inl (a,b,c,d))
def RE(a:Int)(b:Int)(c:Lv)(d:List Nat)(e:Int)(f:Int)(g:Lv)(h:List Nat)(i:Int)(j:Int)(k:Lv)(l:List Nat)(m:Lv)(n:List Nat)(o:Bool)(p:Nat) :Bool×(List Int)×Nat×Int→aM:=cJ a b c d e f g h i j k l m n o p
def FB(a:Nat)(b:Bool)(c:List Int)(d:Nat)(e:Int) :T ((Nat×Bool×(List Int)×Nat×Int)⊕((Bool×(List Int)×Nat×Int)⊕(bp))) :=
  .need (ej .i64 (((a+1):Nat):Int))<|.leaf (.inl ((a+1),b,c,d,e))
def w6(f:Int)(g:List Nat)(h:Int)(i:List Nat)(j:Int)(k:Int)(l:List Nat)(m:List Nat) :Nat×Bool×(List Int)×Nat×Int→Option ((Nat×Bool×(List Int)×Nat×Int)⊕((Bool×(List Int)×Nat×Int)⊕(bp))):=fun (a,b,c,d,e) =>
  aH ((ry j a b c d e).run) fun _ =>
  aH (Sf (aH ((Fq).run) fun _ =>
  aH (eh (rD f g h i k l m a) (0,b,c,d,e)) fun (n,o,p,q) =>
  (Fz n o p q).run)) fun (r,s,t,u) =>
  (FB a r s t u).run
theorem RF(l:Int)(d:Int)(m:Lv)(e:List Nat)(n:Int)(f:Int)(o:Lv)(g:List Nat)(c:Int)(h:Int)(p:Lv)(i:List Nat)(q:Lv)(j:List Nat)(b:Bool)(k:Nat)(r:Bool)(t:List Int)(u:Nat)(v:Int) :Sg prog [] kO (kN l d m e n f o g c h p i q j b (k,r,t,u,v)) (w6 d e f g c h i j (k,r,t,u,v)) (kN l d m e n f o g c h p i q j b) (aS 0 (ct b) cq):=by
  unfold w6;exact Sg.cut 2 (aN cj) (Sg.seg (C:=C0) ap cL 60 (kO.take 2) (kN l d m e n f o g c h p i q j b (k,r,t,u,v)) (ry c k r t u v) (Fo l d m e n f o g c h p i q j b k r t u v) (aS 0 (ct b) cq) [⟨[],[0,1,2,3,4],[3,4,5,6,8,9,10]⟩,⟨[],[3,4],[8,9]⟩] (by kernel_rfl)) (fun a=>by cases a;exact Sg.cut 1 (aN cj) (D1 (id:=1) (K:=(cJ l d m e n f o g c h p i q j b k)) (by kernel_rfl:((kO.drop 2).take 1) = [.block 1 (inBlock ((((kO.drop 2).take 1)).headD .skip))]) (aN cj) (gL (by decide) (pH _)) (Sg.cut 1 (aN (aN cj)) (Sg.seg (C:=C0) ap cL 60 (nX.take 1) (Fo l d m e n f o g c h p i q j b k r t u v ()) (Fq) (Fp l d m e n f o g c h p i q j b k r t u v) (aS 1 (cJ l d m e n f o g c h p i q j b k) (aS 0 (ct b) cq)) [⟨[],[0,1,2,3,4],[3,4,5,6,8,9,10,11]⟩] (by kernel_rfl)) (fun a=>by cases a;exact Sg.cut 1 (aN (aN cj)) (Sg.pre ⟨[],[0,1,2,3,4],[3,4,5,6,8,9,10,11]⟩ rfl (by kernel_rfl:NS.on ⟨[],[0,1,2,3,4],[3,4,5,6,8,9,10,11]⟩ (Fp l d m e n f o g c h p i q j b k r t u v ())=(kP l d m e n f o g c h p i q j b k) (0,r,t,u,v)) (cw (I:=(kP l d m e n f o g c h p i q j b k)) (J:=(dG l d m e n f o g c h p i q j b k)) (id:=2) (by kernel_rfl:((nX.drop 1).take 1) = [.block 2 (.loop (bW ((((nX.drop 1).take 1)).headD .skip)))]) (aN (aN cj)) (gL (by decide) (gL (by decide) (pH _))) (fun s=>by obtain ⟨F,G,H,L,M⟩:=s;exact RC l d m e n f o g c h p i q j b k F G H L M) (0,r,t,u,v))) (fun a=>by obtain ⟨w,x,y,z⟩:=a;exact Sg.seg (C:=C0) ap cL 60 ((nX.drop 1).drop 1) (RD l d m e n f o g c h p i q j b k (w,x,y,z)) (Fz w x y z) (cJ l d m e n f o g c h p i q j b k) (aS 1 (cJ l d m e n f o g c h p i q j b k) (aS 0 (ct b) cq)) [⟨[],[0,1,2,3,4],[3,4,5,6,8,9,10]⟩] (by kernel_rfl))))) (fun a=>by obtain ⟨A,B,D,E⟩:=a;exact Sg.seg (C:=C0) ap cL 60 ((kO.drop 2).drop 1) (RE l d m e n f o g c h p i q j b k (A,B,D,E)) (FB k A B D E) (kN l d m e n f o g c h p i q j b) (aS 0 (ct b) cq) [⟨[],[0,1,2,3,4],[3,4,5,6,8,9,10]⟩] (by kernel_rfl)))
def RG(a:Bool) :Bool×(List Int)×Nat×Int→aM:=ct a
def FC(a:Bool)(b:List Int)(c:Nat)(d:Int) :T ((Empty)⊕(bp)) :=
  .leaf (.inr (.r0 a b c d))
def cB(a:Int)(b:List Nat)(c:Int)(d:List Nat)(e:Int)(f:Int)(g:List Nat)(h:List Nat) :Option bp:=me (aH ((wW).run) fun (q,i,j,k,l) =>
  aH ((Fm).run) fun _ =>
  aH (eh (w6 a b c d e f g h) (0,i,j,k,l)) fun (m,n,o,p) =>
  (FC m n o p).run)
theorem UW(k:Int)(f:Int)(l:Lv)(b:List Nat)(m:Int)(g:Int)(n:Lv)(c:List Nat)(i:Int)(j:Int)(o:Lv)(d:List Nat)(p:Lv)(e:List Nat){x:bp}(h:cB f b g c i j d e=some x) :ax prog gK [] [.agg [.int .i64 k,.int .i64 f,.imm l (.fl b) 1 1 0 (List.length b)],.agg [.int .i64 m,.int .i64 g,.imm n (.fl c) 1 1 0 (List.length c)],.agg [.int .i64 i,.int .i64 j,.imm o (.fl d) 1 1 0 (List.length d)],.imm p (.fl e) 1 1 0 (List.length e)] (Ak x) :=
  Sg.contract true Ak (by kernel_rfl:prog.funcs[gK]? = some (FN gK)) (by kernel_rfl:(FN gK).body=some (bB gK)) (Sg.cut 2 cj (Sg.seg (C:=C0) ap cL 60 (kM.take 2) (aT (FN gK) [] [.agg [.int .i64 k,.int .i64 f,.imm l (.fl b) 1 1 0 (List.length b)],.agg [.int .i64 m,.int .i64 g,.imm n (.fl c) 1 1 0 (List.length c)],.agg [.int .i64 i,.int .i64 j,.imm o (.fl d) 1 1 0 (List.length d)],.imm p (.fl e) 1 1 0 (List.length e)]) (wW) (Gs k f l b m g n c i j o d p e) cq [⟨[],[0,16,32,48,80],[3,4,5,6,8,9]⟩] (by kernel_rfl)) (fun a=>by obtain ⟨q,r,t,u,v⟩:=a;exact Sg.cut 1 cj (Sg.seg (C:=C0) ap cL 60 ((kM.drop 2).take 1) (Gs k f l b m g n c i j o d p e (q,r,t,u,v)) (Fm) (Gt k f l b m g n c i j o d p e q r t u v) cq [⟨[],[0,1,2,3,4],[3,4,5,6,8,9,10]⟩] (by kernel_rfl)) (fun a=>by cases a;exact Sg.cut 1 cj (Sg.pre ⟨[],[0,1,2,3,4],[3,4,5,6,8,9,10]⟩ rfl (by kernel_rfl:NS.on ⟨[],[0,1,2,3,4],[3,4,5,6,8,9,10]⟩ (Gt k f l b m g n c i j o d p e q r t u v ())=(kN k f l b m g n c i j o d p e q) (0,r,t,u,v)) (cw (I:=(kN k f l b m g n c i j o d p e q)) (J:=(ct q)) (id:=0) (by kernel_rfl:(((kM.drop 2).drop 1).take 1) = [.block 0 (.loop (bW (((((kM.drop 2).drop 1).take 1)).headD .skip)))]) cj (pH _) (fun s=>by obtain ⟨B,D,E,F,G⟩:=s;exact RF k f l b m g n c i j o d p e q B D E F G) (0,r,t,u,v))) (fun a=>by obtain ⟨w,y,z,A⟩:=a;exact Sg.seg (C:=C0) ap cL 60 (((kM.drop 2).drop 1).drop 1) (RG q (w,y,z,A)) (FC w y z A) (fun a:Empty=>a.elim) cq [⟨[],[0],[8]⟩] (by kernel_rfl)))))
    (fun x=>by cases x with | r0 H K L M=>exact ⟨.inr rfl,[.agg [.bool false H,.imm .free (.ns .u64 K) 1 1 0 L,.int .i64 M]],[],by kernel_rfl,trivial,by kernel_rfl⟩) h
def pI:Option bp→Bool
  | some _=>true
  | none=>false
def mc:Option bp→Bool
  | some (.r0 x _ _ _)=>x
  | _=>false
def j6:Option bp→List Int
  | some (.r0 _ x _ _)=>x
  | _=>[]
def j7:Option bp→Nat
  | some (.r0 _ _ x _)=>x
  | _=>0
def md:Option bp→Int
  | some (.r0 _ _ _ x)=>x
  | _=>0
theorem UX{x:Option bp}(h:pI x=true) :x=some (.r0 (mc x) (j6 x) (j7 x) (md x)):=by
  unfold pI at h
  split at h <;> first | rfl | (cases h;done) | (rename_i y;cases y;rfl)
def Im:aL:=cn gK (.cons (.agg (.cons (.int .i64) (.cons (.int .i64) (.cons .fl .nil)))) (.cons (.agg (.cons (.int .i64) (.cons (.int .i64) (.cons .fl .nil)))) (.cons (.agg (.cons (.int .i64) (.cons (.int .i64) (.cons .fl .nil)))) (.cons .fl .nil)))) fun t=>[⟨Ak (.r0 (mc (cB t.1.2.1 t.1.2.2.1.2 t.2.1.2.1 t.2.1.2.2.1.2 t.2.2.1.1 t.2.2.1.2.1 t.2.2.1.2.2.1.2 t.2.2.2.1.2)) (j6 (cB t.1.2.1 t.1.2.2.1.2 t.2.1.2.1 t.2.1.2.2.1.2 t.2.2.1.1 t.2.2.1.2.1 t.2.2.1.2.2.1.2 t.2.2.2.1.2)) (j7 (cB t.1.2.1 t.1.2.2.1.2 t.2.1.2.1 t.2.1.2.2.1.2 t.2.2.1.1 t.2.2.1.2.1 t.2.2.1.2.2.1.2 t.2.2.2.1.2)) (md (cB t.1.2.1 t.1.2.2.1.2 t.2.1.2.1 t.2.1.2.2.1.2 t.2.2.1.1 t.2.2.1.2.1 t.2.2.1.2.2.1.2 t.2.2.2.1.2))),[pI (cB t.1.2.1 t.1.2.2.1.2 t.2.1.2.1 t.2.1.2.2.1.2 t.2.2.1.1 t.2.2.1.2.1 t.2.2.1.2.2.1.2 t.2.2.2.1.2)]⟩]
theorem NU:aV prog Im:=aP fun t=>(aQ (fun h=>UW t.1.1 t.1.2.1 t.1.2.2.1.1 t.1.2.2.1.2 t.2.1.1 t.2.1.2.1 t.2.1.2.2.1.1 t.2.1.2.2.1.2 t.2.2.1.1 t.2.2.1.2.1 t.2.2.1.2.2.1.1 t.2.2.1.2.2.1.2 t.2.2.2.1.1 t.2.2.2.1.2 (UX h)) ba)
def In:List aL:=Im :: Nj
theorem fL:bf prog (bi In):=aw NU cL
end
end Go.Plb.Seat
namespace Go.Plb.Seat
open Go Go.Plb
set_option linter.unusedVariables false
set_option maxRecDepth 100000
noncomputable section
inductive cv where
  | r0 (a:Bool)
def eX:cv→AE×aM
  | .r0 a=>(.ret,⟨an 116 [(8,.bool false a)],[],0⟩)
theorem gX:l9 eX:=by intro x;cases x <;> (intro h;cases h)
def sN:cv→jv
  | .r0 a=>⟨.bool false a,[]⟩
def fu:List Code:=bS (bB eR)
def zc(e:Int)(f:Int)(g:Lv)(a:List Nat)(h:Int)(i:Int)(j:Lv)(b:List Nat)(k:Int)(l:Int)(m:Lv)(c:List Nat)(n:Lv)(d:List Nat)(o:Bool) :aM:=⟨an 116 [(3,.imm n (.fl d) 1 1 0 (List.length d)),(4,.ptr 0 1 0 0),(5,.ptr 1 1 0 0),(6,.ptr 2 1 0 0),(22,.bool false o)],[(0,.vs [.int .i64 e,.int .i64 f,.imm g (.fl a) 1 1 0 (List.length a)]),(1,.vs [.int .i64 h,.int .i64 i,.imm j (.fl b) 1 1 0 (List.length b)]),(2,.vs [.int .i64 k,.int .i64 l,.imm m (.fl c) 1 1 0 (List.length c)])],3⟩
def rE(a : List Nat)(b : List Nat)(c : List Nat)(d : List Nat) : T ((Bool) ⊕ (cv)) :=
  .ask (decide ((0:Int) < (3:Int)))
    (.need (iC (0:Int) 3)<|.ask (decide ((((List.length a):Nat):Int) > (36:Int)))
      (.leaf (.inl true))
      (.need (ej .i64 (1:Int))<|.ask (decide ((1:Int) < (3:Int)))
        (.need (iC (1:Int) 3)<|.ask (decide ((((List.length b):Nat):Int) > (36:Int)))
          (.leaf (.inl true))
          (.need (ej .i64 (2:Int))<|.ask (decide ((2:Int) < (3:Int)))
            (.need (iC (2:Int) 3)<|.ask (decide ((((List.length c):Nat):Int) > (36:Int)))
              (.leaf (.inl true))
              (.need (ej .i64 (3:Int))<|.ask (decide ((3:Int) < (3:Int)))
                (.fail)
                (.leaf (.inl (decide ((((List.length d):Nat):Int) > (36:Int)))))))
            (.fail)))
        (.fail)))
    (.fail)
def zd(e:Int)(f:Int)(g:Lv)(a:List Nat)(h:Int)(i:Int)(j:Lv)(b:List Nat)(k:Int)(l:Int)(m:Lv)(c:List Nat)(n:Lv)(d:List Nat)(_:Unit) :aM:=⟨an 116 [(3,.imm n (.fl d) 1 1 0 (List.length d)),(4,.ptr 0 1 0 0),(5,.ptr 1 1 0 0),(6,.ptr 2 1 0 0)],[(0,.vs [.int .i64 e,.int .i64 f,.imm g (.fl a) 1 1 0 (List.length a)]),(1,.vs [.int .i64 h,.int .i64 i,.imm j (.fl b) 1 1 0 (List.length b)]),(2,.vs [.int .i64 k,.int .i64 l,.imm m (.fl c) 1 1 0 (List.length c)])],3⟩
def mP(a:Bool) :T ((Unit)⊕(cv)) :=
  .ask a
    (.need (qv (jC))<|.leaf (.inr (.r0 (qw (jC)))))
    (.leaf (.inl ()))
def ze(e:Int)(f:Int)(g:Lv)(a:List Nat)(h:Int)(i:Int)(j:Lv)(b:List Nat)(k:Int)(l:Int)(m:Lv)(c:List Nat)(n:Lv)(d:List Nat) :Nat×Bool×(List Int)×Nat×Nat×Int→aM:=fun (o,p,q,r,s,t)=>⟨an 116 [(3,.imm n (.fl d) 1 1 0 (List.length d)),(4,.ptr 0 1 0 0),(5,.ptr 1 1 0 0),(6,.ptr 2 1 0 0),(9,.ptr 3 1 0 0),(10,.int .i64 ((o:Nat):Int))],[(0,.vs [.int .i64 e,.int .i64 f,.imm g (.fl a) 1 1 0 (List.length a)]),(1,.vs [.int .i64 h,.int .i64 i,.imm j (.fl b) 1 1 0 (List.length b)]),(2,.vs [.int .i64 k,.int .i64 l,.imm m (.fl c) 1 1 0 (List.length c)]),(3,.vs [.bool false p,.imm .free (.ns .u64 q) 1 1 r s,.int .i64 t])],4⟩
def jo(e:Int)(f:Int)(a:List Nat)(g:Int)(h:Int)(b:List Nat)(i:Int)(j:Int)(c:List Nat)(d:List Nat) :T ((Nat×Bool×(List Int)×Nat×Nat×Int)⊕(cv)) :=
  .need (aR 0 (List.length a) a)<|.need (aR 0 (List.length b) b)<|.need (aR 0 (List.length c) c)<|.need (aR 0 (List.length d) d)<|.need (qu (bN e f (aa 0 (List.length a) a) g h (aa 0 (List.length b) b) i j (aa 0 (List.length c) c) (aa 0 (List.length d) d)))<|.leaf (.inl ((rn (bN e f (aa 0 (List.length a) a) g h (aa 0 (List.length b) b) i j (aa 0 (List.length c) c) (aa 0 (List.length d) d))),(rp (bN e f (aa 0 (List.length a) a) g h (aa 0 (List.length b) b) i j (aa 0 (List.length c) c) (aa 0 (List.length d) d))),(rq (bN e f (aa 0 (List.length a) a) g h (aa 0 (List.length b) b) i j (aa 0 (List.length c) c) (aa 0 (List.length d) d))),(rt (bN e f (aa 0 (List.length a) a) g h (aa 0 (List.length b) b) i j (aa 0 (List.length c) c) (aa 0 (List.length d) d))),(ru (bN e f (aa 0 (List.length a) a) g h (aa 0 (List.length b) b) i j (aa 0 (List.length c) c) (aa 0 (List.length d) d))),(rv (bN e f (aa 0 (List.length a) a) g h (aa 0 (List.length b) b) i j (aa 0 (List.length c) c) (aa 0 (List.length d) d)))))
def zf(e:Int)(f:Int)(g:Lv)(a:List Nat)(h:Int)(i:Int)(j:Lv)(b:List Nat)(k:Int)(l:Int)(m:Lv)(c:List Nat)(n:Lv)(d:List Nat)(o:Nat)(p:Bool)(q:List Int)(r:Nat)(s:Nat)(t:Int)(u:Nat) :aM:=⟨an 116 [(3,.imm n (.fl d) 1 1 0 (List.length d)),(4,.ptr 0 1 0 0),(5,.ptr 1 1 0 0),(6,.ptr 2 1 0 0),(9,.ptr 3 1 0 0),(10,.int .i64 ((o:Nat):Int)),(11,.int .i64 ((u:Nat):Int))],[(0,.vs [.int .i64 e,.int .i64 f,.imm g (.fl a) 1 1 0 (List.length a)]),(1,.vs [.int .i64 h,.int .i64 i,.imm j (.fl b) 1 1 0 (List.length b)]),(2,.vs [.int .i64 k,.int .i64 l,.imm m (.fl c) 1 1 0 (List.length c)]),(3,.vs [.bool false p,.imm .free (.ns .u64 q) 1 1 r s,.int .i64 t])],4⟩
def bD(f : Int)(g : Int)(a : List Nat)(h : Int)(e : Int)(b : List Nat)(i : Int)(j : Int)(c : List Nat)(d : List Nat) : T ((Nat) ⊕ (cv)) :=
  .need (aR 0 (List.length a) a)<|.need (uL (nt f g (aa 0 (List.length a) a)))<|.ask (!(tN (nt f g (aa 0 (List.length a) a))))
    (.leaf (.inl 2))
    (.need (aR 0 (List.length b) b)<|.need (uL (nt h e (aa 0 (List.length b) b)))<|.ask (!(tN (nt h e (aa 0 (List.length b) b))))
      (.leaf (.inl 2))
      (.need (aR 0 (List.length c) c)<|.need (uL (nt i j (aa 0 (List.length c) c)))<|.ask (!(tN (nt i j (aa 0 (List.length c) c))))
        (.leaf (.inl 2))
        (.ask (h != g)
          (.leaf (.inl 8))
          (.ask (i != f)
            (.leaf (.inl 8))
            (.ask (j != e)
              (.leaf (.inl 8))
              (.ask ((((List.length d):Nat):Int) != e)
                (.leaf (.inl 8))
                (.need (aR 0 (List.length a) a)<|.need (l8 (fC (aa 0 (List.length a) a)))<|.ask (!(lS (fC (aa 0 (List.length a) a))))
                  (.leaf (.inl 10))
                  (.need (aR 0 (List.length b) b)<|.need (l8 (fC (aa 0 (List.length b) b)))<|.ask (!(lS (fC (aa 0 (List.length b) b))))
                    (.leaf (.inl 10))
                    (.need (aR 0 (List.length c) c)<|.need (l8 (fC (aa 0 (List.length c) c)))<|.ask (!(lS (fC (aa 0 (List.length c) c))))
                      (.leaf (.inl 10))
                      (.need (aR 0 (List.length d) d)<|.need (l8 (fC (aa 0 (List.length d) d)))<|.ask (!(lS (fC (aa 0 (List.length d) d))))
                        (.leaf (.inl 10))
                        (.leaf (.inl 0))))))))))))
def zg(e:Int)(f:Int)(g:Lv)(a:List Nat)(h:Int)(i:Int)(j:Lv)(b:List Nat)(k:Int)(l:Int)(m:Lv)(c:List Nat)(n:Lv)(d:List Nat)(o:Bool)(p:List Int)(q:Nat)(r:Nat)(s:Int)(_:Unit) :aM:=⟨an 116 [(3,.imm n (.fl d) 1 1 0 (List.length d)),(4,.ptr 0 1 0 0),(5,.ptr 1 1 0 0),(6,.ptr 2 1 0 0),(9,.ptr 3 1 0 0)],[(0,.vs [.int .i64 e,.int .i64 f,.imm g (.fl a) 1 1 0 (List.length a)]),(1,.vs [.int .i64 h,.int .i64 i,.imm j (.fl b) 1 1 0 (List.length b)]),(2,.vs [.int .i64 k,.int .i64 l,.imm m (.fl c) 1 1 0 (List.length c)]),(3,.vs [.bool false o,.imm .free (.ns .u64 p) 1 1 q r,.int .i64 s])],4⟩
def jp(g:Nat)(d:Bool)(a:List Int)(b:Nat)(c:Nat)(e:Int)(f:Nat) :T ((Unit)⊕(cv)) :=
  .ask (((g:Nat):Int) != ((f:Nat):Int))
    (.leaf (.inr (.r0 false)))
    (.ask (((f:Nat):Int) != (0:Int))
      (.need (aR b c a)<|.need (uK (l7 d (aa b c a) e ([]:List Int) (0:Int)))<|.ask (wT (l7 d (aa b c a) e ([]:List Int) (0:Int)))
        (.need (qv (jC))<|.leaf (.inr (.r0 (qw (jC)))))
        (.leaf (.inr (.r0 false))))
      (.leaf (.inl ())))
def zh(a:Bool) :aM:=⟨an 116 [(8,.bool false a)],[],0⟩
def jq(e:Int)(a:List Nat)(f:Int)(b:List Nat)(g:Int)(h:Int)(c:List Nat)(d:List Nat)(l:Bool)(i:List Int)(j:Nat)(k:Nat)(m:Int) :T ((Bool)⊕(cv)) :=
  .need (aR 0 (List.length a) a)<|.need (aR 0 (List.length b) b)<|.need (aR 0 (List.length c) c)<|.need (aR 0 (List.length d) d)<|.need (pI (cB e (aa 0 (List.length a) a) f (aa 0 (List.length b) b) g h (aa 0 (List.length c) c) (aa 0 (List.length d) d)))<|.need (aR j k i)<|.need (aR 0 (j7 (cB e (aa 0 (List.length a) a) f (aa 0 (List.length b) b) g h (aa 0 (List.length c) c) (aa 0 (List.length d) d))) (j6 (cB e (aa 0 (List.length a) a) f (aa 0 (List.length b) b) g h (aa 0 (List.length c) c) (aa 0 (List.length d) d))))<|.need (sK (lp l (aa j k i) m (mc (cB e (aa 0 (List.length a) a) f (aa 0 (List.length b) b) g h (aa 0 (List.length c) c) (aa 0 (List.length d) d))) (aa 0 (j7 (cB e (aa 0 (List.length a) a) f (aa 0 (List.length b) b) g h (aa 0 (List.length c) c) (aa 0 (List.length d) d))) (j6 (cB e (aa 0 (List.length a) a) f (aa 0 (List.length b) b) g h (aa 0 (List.length c) c) (aa 0 (List.length d) d)))) (md (cB e (aa 0 (List.length a) a) f (aa 0 (List.length b) b) g h (aa 0 (List.length c) c) (aa 0 (List.length d) d)))))<|.ask (r5 (lp l (aa j k i) m (mc (cB e (aa 0 (List.length a) a) f (aa 0 (List.length b) b) g h (aa 0 (List.length c) c) (aa 0 (List.length d) d))) (aa 0 (j7 (cB e (aa 0 (List.length a) a) f (aa 0 (List.length b) b) g h (aa 0 (List.length c) c) (aa 0 (List.length d) d))) (j6 (cB e (aa 0 (List.length a) a) f (aa 0 (List.length b) b) g h (aa 0 (List.length c) c) (aa 0 (List.length d) d)))) (md (cB e (aa 0 (List.length a) a) f (aa 0 (List.length b) b) g h (aa 0 (List.length c) c) (aa 0 (List.length d) d)))))
    (.need (qv (jC))<|.leaf (.inl (qw (jC))))
    (.leaf (.inl false))
def qy(a:Bool) :T ((Empty)⊕(cv)) :=
  .leaf (.inr (.r0 a))
def n6(i:Int)(e:Int)(a:List Nat)(j:Int)(f:Int)(b:List Nat)(g:Int)(h:Int)(c:List Nat)(d:List Nat) :Option cv:=me (aH ((rE a b c d).run) fun p =>
  aH ((mP p).run) fun _ =>
  aH ((jo i e a j f b g h c d).run) fun (q,k,l,m,n,o) =>
  aH ((bD i e a j f b g h c d).run) fun r =>
  aH ((jp q k l m n o r).run) fun _ =>
  aH ((jq e a f b g h c d k l m n o).run) fun s =>
  (qy s).run)
theorem zi(k:Int)(f:Int)(m:Lv)(b:List Nat)(l:Int)(g:Int)(n:Lv)(c:List Nat)(i:Int)(j:Int)(o:Lv)(d:List Nat)(p:Lv)(e:List Nat){x:cv}(h:n6 k f b l g c i j d e=some x) :ax prog eR [] [.agg [.int .i64 k,.int .i64 f,.imm m (.fl b) 1 1 0 (List.length b)],.agg [.int .i64 l,.int .i64 g,.imm n (.fl c) 1 1 0 (List.length c)],.agg [.int .i64 i,.int .i64 j,.imm o (.fl d) 1 1 0 (List.length d)],.imm p (.fl e) 1 1 0 (List.length e)] (sN x) :=
  Sg.contract false sN (by kernel_rfl:prog.funcs[eR]? = some (FN eR)) (by kernel_rfl:(FN eR).body=some (bB eR)) (Sg.cut 2 gX (Sg.seg (C:=C0) ap fL 60 (fu.take 2) (aT (FN eR) [] [.agg [.int .i64 k,.int .i64 f,.imm m (.fl b) 1 1 0 (List.length b)],.agg [.int .i64 l,.int .i64 g,.imm n (.fl c) 1 1 0 (List.length c)],.agg [.int .i64 i,.int .i64 j,.imm o (.fl d) 1 1 0 (List.length d)],.imm p (.fl e) 1 1 0 (List.length e)]) (rE b c d e) (zc k f m b l g n c i j o d p e) eX [⟨[],[0,16,32],[3,4,5,6,22]⟩,⟨[],[0,16,32],[3,4,5,6,22]⟩,⟨[],[0,16,32],[3,4,5,6,22]⟩,⟨[],[0,16,32],[3,4,5,6,22]⟩] (by kernel_rfl)) (fun w=>by exact Sg.cut 1 gX (Sg.seg (C:=C0) ap fL 60 ((fu.drop 2).take 1) (zc k f m b l g n c i j o d p e w) (mP w) (zd k f m b l g n c i j o d p e) eX [⟨[],[],[8]⟩,⟨[],[0,1,2],[3,4,5,6]⟩] (by kernel_rfl)) (fun a=>by cases a;exact Sg.cut 1 gX (Sg.seg (C:=C0) ap fL 60 (((fu.drop 2).drop 1).take 1) (zd k f m b l g n c i j o d p e ()) (jo k f b l g c i j d e) (ze k f m b l g n c i j o d p e) eX [⟨[],[0,1,2,131],[3,4,5,6,9,10]⟩] (by kernel_rfl)) (fun a=>by obtain ⟨v,q,r,s,t,u⟩:=a;exact Sg.cut 2 gX (Sg.seg (C:=C0) ap fL 60 ((((fu.drop 2).drop 1).drop 1).take 2) (ze k f m b l g n c i j o d p e (v,q,r,s,t,u)) (bD k f b l g c i j d e) (zf k f m b l g n c i j o d p e v q r s t u) eX [⟨[],[0,1,2,3],[3,4,5,6,9,10,11]⟩,⟨[],[0,1,2,3],[3,4,5,6,9,10,11]⟩,⟨[],[0,1,2,3],[3,4,5,6,9,10,11]⟩,⟨[],[0,1,2,3],[3,4,5,6,9,10,11]⟩,⟨[],[0,1,2,3],[3,4,5,6,9,10,11]⟩,⟨[],[0,1,2,3],[3,4,5,6,9,10,11]⟩,⟨[],[0,1,2,3],[3,4,5,6,9,10,11]⟩,⟨[],[0,1,2,3],[3,4,5,6,9,10,11]⟩,⟨[],[0,1,2,3],[3,4,5,6,9,10,11]⟩,⟨[],[0,1,2,3],[3,4,5,6,9,10,11]⟩,⟨[],[0,1,2,3],[3,4,5,6,9,10,11]⟩,⟨[],[0,1,2,3],[3,4,5,6,9,10,11]⟩] (by kernel_rfl)) (fun y=>by exact Sg.cut 4 gX (Sg.seg (C:=C0) ap fL 60 (((((fu.drop 2).drop 1).drop 1).drop 2).take 4) (zf k f m b l g n c i j o d p e v q r s t u y) (jp v q r s t u y) (zg k f m b l g n c i j o d p e q r s t u) eX [⟨[],[],[8]⟩,⟨[],[],[8]⟩,⟨[],[],[8]⟩,⟨[],[0,1,2,3],[3,4,5,6,9]⟩] (by kernel_rfl)) (fun a=>by cases a;exact Sg.cut 1 gX (Sg.seg (C:=C0) ap fL 60 ((((((fu.drop 2).drop 1).drop 1).drop 2).drop 4).take 1) (zg k f m b l g n c i j o d p e q r s t u ()) (jq f b g c i j d e q r s t u) zh eX [⟨[],[],[8]⟩,⟨[],[],[8]⟩] (by kernel_rfl)) (fun z=>by exact Sg.seg (C:=C0) ap fL 60 ((((((fu.drop 2).drop 1).drop 1).drop 2).drop 4).drop 1) (zh z) (qy z) (fun a:Empty=>a.elim) eX [⟨[],[],[8]⟩] (by kernel_rfl))))))))
    (fun x=>by cases x with | r0 A=>exact ⟨.inr rfl,[.bool false A],[],by kernel_rfl,trivial,by kernel_rfl⟩) h
def rF:Option cv→Bool
  | some _=>true
  | none=>false
def vU:Option cv→Bool
  | some (.r0 x)=>x
  | _=>false
theorem Kd{x:Option cv}(h:rF x=true) :x=some (.r0 (vU x)):=by
  unfold rF at h
  split at h <;> first | rfl | (cases h;done) | (rename_i y;cases y;rfl)
def zt:aL:=cn eR (.cons (.agg (.cons (.int .i64) (.cons (.int .i64) (.cons .fl .nil)))) (.cons (.agg (.cons (.int .i64) (.cons (.int .i64) (.cons .fl .nil)))) (.cons (.agg (.cons (.int .i64) (.cons (.int .i64) (.cons .fl .nil)))) (.cons .fl .nil)))) fun t=>[⟨sN (.r0 (vU (n6 t.1.1 t.1.2.1 t.1.2.2.1.2 t.2.1.1 t.2.1.2.1 t.2.1.2.2.1.2 t.2.2.1.1 t.2.2.1.2.1 t.2.2.1.2.2.1.2 t.2.2.2.1.2))),[rF (n6 t.1.1 t.1.2.1 t.1.2.2.1.2 t.2.1.1 t.2.1.2.1 t.2.1.2.2.1.2 t.2.2.1.1 t.2.2.1.2.1 t.2.2.1.2.2.1.2 t.2.2.2.1.2)]⟩]
theorem HQ:aV prog zt:=aP fun t=>(aQ (fun h=>zi t.1.1 t.1.2.1 t.1.2.2.1.1 t.1.2.2.1.2 t.2.1.1 t.2.1.2.1 t.2.1.2.2.1.1 t.2.1.2.2.1.2 t.2.2.1.1 t.2.2.1.2.1 t.2.2.1.2.2.1.1 t.2.2.1.2.2.1.2 t.2.2.2.1.1 t.2.2.2.1.2 (Kd h)) ba)
def KJ:List aL:=zt :: In
theorem aej:bf prog (bi KJ):=aw HQ fL
end
end Go.Plb.Seat
namespace Go.Plb.Seat
open Go Go.Plb
set_option linter.unusedVariables false
set_option maxRecDepth 100000
noncomputable section
end
end Go.Plb.Seat
namespace Go.Plb.Seat
open Go Go.Plb
set_option linter.unusedVariables false
set_option maxRecDepth 100000
noncomputable section
end
end Go.Plb.Seat
namespace Go.Plb.Seat
open Go Go.Plb
set_option linter.unusedVariables false
set_option maxRecDepth 100000
noncomputable section
end
end Go.Plb.Seat
namespace Go.Plb.Seat
open Go Go.Plb
set_option linter.unusedSimpArgs false
set_option linter.unusedVariables false
theorem w8(s:Bool){v n:Nat}(hv:v < W ^ n)(hn:n≤1000000)(hl:nl v≤4096){e:Int}(he : -1000000≤e∧e≤1000000) :
    ∃ N,aE s (aC v n) e=some (.r0 (nS (sg s v)) (aC (nM (sg s v)) N) 0 (nl (nM (sg s v))) (nE (sg s v) e))∧nl (nM (sg s v))≤N∧N≤4096:=by
  have t5:(C3 (aC v n)).run=some (.inl (aC v (nl v),nl v,false)):=by
    unfold C3
    rw [aq,afa hv (by omega),if_neg (by omega)]
    exact aG (ae rfl)
  by_cases h0:v=0
  · have z:sg s v=0:=Av.2 h0
    rw [z,ib,Y9]
    rw [k8,fE]
    refine ⟨0,aY (ag t5 (bK ?_)),Nat.le_refl _,Nat.zero_le _⟩
    rw [h0,fE]
    exact aX rfl
  · have z:sg s v ≠ 0:=fun q=>h0 (Av.1 q)
    have hp:=B4 h0
    have ht:=aiI (v:=v)
    obtain ⟨b,N,h1,h2,h3⟩:=aoI (k:=tz v) (cZ v) (by omega) hl (by omega)
    have eM:nM (sg s v)=v / 2 ^ tz v:=by unfold nM;rw [Lb]
    have eE:nE (sg s v) e=e+((tz v:Nat):Int):=by rw [lr z,Lb]
    rw [apC h0,eM,eE]
    refine ⟨N,aY (ag t5 (ag (a:=((tz v:Nat):Int)) ?_ (ag (a:=(aC (v / 2 ^ tz v) N,0,nl (v / 2 ^ tz v))) ?_ ?_))),h2,h3⟩
    · show (C4 _ _).run=_
      unfold C4
      rw [bQ au,alk (cZ v) h0 hl (by omega)]
      exact dr (dY (ae rfl))
    · show (C5 _ _ _).run=_
      unfold C5
      rw [bQ au,h1]
      exact dY (ae rfl)
    · exact di (by rw [dh];omega) rfl
theorem ajw{v n:Nat}(hv:v < W ^ n)(hn:n≤1000000)(hl:nl v≤4096){e:Int}(he : -262144≤e∧e≤262144) :eI (aC v n) e=some (.r0 true):=by
  refine aY (ag (a:=0) ?_ (ag (a:=true) ?_ rfl))
  · unfold LM
    rw [aq,afa hv (by omega),if_neg (by omega)]
    exact aG (ae rfl)
  · refine aX (cS ?_)
    show some (Sum.inl (decide (e≤262144)))=_
    rw [decide_eq_true he.2]
theorem Ke{z e:Int}{s:Bool}(hs:z ≠ 0→s=nS z)(h:Sm z e) :∃ N,aE s (aC (nM z) (nl (nM z))) (nE z e)=some (.r0 (nS z) (aC (nM z) N) 0 (nl (nM z)) (nE z e))∧nl (nM z)≤N∧N≤4096:=by
  have hm:=h.m
  have hb:=h.b
  obtain ⟨N,h1,h2,h3⟩:=w8 s (cZ (nM z)) (by omega) (by omega:nl (nM z)≤4096) (e:=nE z e) (by omega)
  obtain ⟨a,b,c⟩:=Z4 (e:=e) hs
  rw [a,b,c] at h1
  rw [b] at h2
  exact ⟨N,h1,h2,h3⟩
theorem RH{z e:Int}(h:Sm z e) :eI (aC (nM z) (nl (nM z))) (nE z e)=some (.r0 true):=by
  have hm:=h.m
  have hb:=h.b
  exact ajw (cZ (nM z)) (by omega) (by omega) (by omega)
theorem RI(s:Bool){v n:Nat}(hv:v < W ^ n)(hn:n≤1000000)(hl:nl v≤1000){e:Int}(he : -150000≤e∧e≤150000) :
    ∃ N,cr s (aC v n) e=some (.r0 0 (nS (sg s v)) (aC (nM (sg s v)) N) 0 (nl (nM (sg s v))) (nE (sg s v) e))∧nl (nM (sg s v))≤N∧N≤4096:=by
  obtain ⟨N,h1,h2,h3⟩:=w8 s hv hn (by omega) (e:=e) (by omega)
  have ht:=aiI (v:=v)
  have hE' : -262144≤nE (sg s v) e∧nE (sg s v) e≤262144:=by
    unfold nE;rw [Lb];split <;> omega
  obtain ⟨hE',hE⟩:=hE'
  refine ⟨N,aY (ag (a:=(nS (sg s v),aC (nM (sg s v)) N,0,nl (nM (sg s v)),nE (sg s v) e,false)) ?_ (ag (a:=false) ?_ rfl)),h2,h3⟩
  · unfold Jj
    rw [aq,h1]
    exact aG (ae rfl)
  · show (C7 _ _ _ _).run=_
    unfold C7
    rw [ch h2,ajw (cZ _) (by omega) (by omega) ⟨hE',hE⟩]
    exact di (bo h2) (ae rfl)
theorem BB{z:Int}{m:Nat}(h:m≤tz z.natAbs) :nM z * 2 ^ (tz z.natAbs - m)=z.natAbs / 2 ^ m∧z.natAbs / 2 ^ m * 2 ^ m=z.natAbs:=by
  have b:=al7 z
  have e:tz z.natAbs=(tz z.natAbs - m)+m:=by omega
  have d:z.natAbs / 2 ^ m * 2 ^ m=z.natAbs:=by
    refine Nat.div_mul_cancel ⟨nM z * 2 ^ (tz z.natAbs - m),?_⟩
    rw [e,Nat.pow_add,← Nat.mul_assoc] at b
    rw [Nat.mul_comm (2 ^ m)];exact b.symm
  refine ⟨?_,d⟩
  rw [e,Nat.pow_add,← Nat.mul_assoc] at b
  exact (Nat.div_eq_of_eq_mul_left (mE m) b.symm).symm
theorem NK{z e:Int}{m:Nat}(h:Sm z e)(h0:z ≠ 0)(hm:m≤tz z.natAbs){k:Int}(hk:k=((tz z.natAbs - m:Nat):Int)) :
    ik (aC (nM z) (nl (nM z))) k=some (.r0 (aC (z.natAbs / 2 ^ m) (nl (z.natAbs / 2 ^ m))) (nl (z.natAbs / 2 ^ m)) 0):=by
  obtain ⟨e1,e2⟩:=BB hm
  have ht:=h.t
  have hM:=h.m
  have hN:nl (z.natAbs / 2 ^ m)≤300:=Nat.le_trans (sO (Nat.div_le_self _ _)) h.l
  rw [hk,aoG (cZ _) (N8 h0) (by omega) (by omega) (by omega) (by rw [e1];omega),e1]
theorem amg{a b:Int}(h:a≤b) :B0 a b=a:=by unfold B0;rw [if_neg (by omega)]
theorem ahD{a b:Int}(h:b≤a) :B0 a b=b:=by
  unfold B0
  by_cases q:b < a
  · rw [if_pos q]
  · rw [if_neg q];omega
theorem ahE{a b:Int}(h:a≤b) :rH a b=b:=by
  unfold rH
  by_cases q:b > a
  · rw [if_pos q]
  · rw [if_neg q];omega
theorem amh{a b:Int}(h:b≤a) :rH a b=a:=by unfold rH;rw [if_neg (by omega)]
structure Lvl (x y e:Int) (m:Nat) (ep:Int):Prop where
  x2:x.natAbs / 2 ^ m * 2 ^ m=x.natAbs
  y2:y.natAbs / 2 ^ m * 2 ^ m=y.natAbs
  at':(x=0∧y=0∧ep=0)∨ep=e+m
  b : -50000≤ep∧ep≤94800
theorem Lvl.sum{x y e ep:Int}{m:Nat}(h:Lvl x y e m ep){z z':Int}(hz:z=z' * ((2 ^ m:Nat):Int))(h0:x=0→y=0→z'=0) :nS z=nS z'∧nM z=nM z'∧nE z e=nE z' ep:=by
  obtain ⟨a,b,c⟩:=H5 hz e
  refine ⟨a,b,?_⟩
  rcases h.at' with ⟨h1,h2,h3⟩ | h1
  · have:=h0 h1 h2
    subst this
    rw [Int.zero_mul] at hz
    rw [hz,ib,ib]
  · rw [c,h1]
theorem ace{x y e:Int}(hx:Sm x e)(hy:Sm y e) :∃ m ep,cX (aC (nM x) (nl (nM x))) (nE x e) (aC (nM y) (nl (nM y))) (nE y e) =
    some (.r0 0 ep (aC (x.natAbs / 2 ^ m) (nl (x.natAbs / 2 ^ m))) (nl (x.natAbs / 2 ^ m)) (aC (y.natAbs / 2 ^ m) (nl (y.natAbs / 2 ^ m))) (nl (y.natAbs / 2 ^ m)))∧Lvl x y e m ep:=by
  have hxt:=hx.t
  have hyt:=hy.t
  obtain ⟨_,e1,e2⟩:=hx
  have zn:∀ m,((0:Int).natAbs / 2 ^ m)=0:=fun m=>by rw [Int.natAbs_zero,Nat.zero_div]
  by_cases h1:x=0
  · subst h1
    have l0:nl (nM 0)=0:=by rw [k8,fE]
    by_cases h2:y=0
    · subst h2
      refine ⟨0,0,aY (ag (a:=0) ?_ (ag (a:=([],0,[],0)) ?_ ?_)),⟨by simp,by simp,.inl ⟨rfl,rfl,rfl⟩,by omega⟩⟩
      · unfold se;rw [au,l0,ib];exact aX rfl
      · unfold lc;rw [au,l0];exact aX (aX rfl)
      · rw [zn,fE];rfl
    · have ly:nl (nM y) ≠ 0:=fun q=>N8 h2 (lW.1 q)
      obtain ⟨_,d⟩:=BB (z:=y) (Nat.le_refl _)
      refine ⟨tz y.natAbs,nE y e,aY (ag (a:=nE y e) ?_ (ag (a:=([],0,aC (y.natAbs / 2 ^ tz y.natAbs) (nl (y.natAbs / 2 ^ tz y.natAbs)),nl (y.natAbs / 2 ^ tz y.natAbs))) ?_ ?_)),⟨by simp,d,.inr (lr h2),by rw [lr h2];omega⟩⟩
      · unfold se;rw [au,l0];exact aX rfl
      · show (lc _ _ _ _ _).run=_
        unfold lc
        rw [au,au,l0,bQ au,NK hy h2 (Nat.le_refl _) (k:=nE y e - nE y e) (by omega)]
        exact aX (dr (di (by rw [dh];omega) (dY (ae rfl))))
      · rw [zn,fE];rfl
  · have lx:nl (nM x) ≠ 0:=fun q=>N8 h1 (lW.1 q)
    by_cases h2:y=0
    · subst h2
      have l0:nl (nM 0)=0:=by rw [k8,fE]
      obtain ⟨_,d⟩:=BB (z:=x) (Nat.le_refl _)
      have hx:Sm x e:=⟨by assumption,e1,e2⟩
      refine ⟨tz x.natAbs,nE x e,aY (ag (a:=nE x e) ?_ (ag (a:=(aC (x.natAbs / 2 ^ tz x.natAbs) (nl (x.natAbs / 2 ^ tz x.natAbs)),nl (x.natAbs / 2 ^ tz x.natAbs),[],0)) ?_ ?_)),⟨d,by simp,.inr (lr h1),by rw [lr h1];omega⟩⟩
      · unfold se;rw [au,au,l0];exact dr (aX rfl)
      · show (lc _ _ _ _ _).run=_
        unfold lc
        rw [au,au,l0,bQ (l:=aC (nM x) (nl (nM x))) au,NK hx h1 (Nat.le_refl _) (k:=nE x e - nE x e) (by omega)]
        exact dr (di (by rw [dh];omega) (dY (ae (aX rfl))))
      · rw [zn,fE];rfl
    · have ly:nl (nM y) ≠ 0:=fun q=>N8 h2 (lW.1 q)
      have hx:Sm x e:=⟨by assumption,e1,e2⟩
      have ex:=lr (e:=e) h1
      have ey:=lr (e:=e) h2
      have emin:B0 (nE x e) (nE y e)=e+((min (tz x.natAbs) (tz y.natAbs):Nat):Int):=by
        rw [ex,ey]
        rcases Nat.le_total (tz x.natAbs) (tz y.natAbs) with q | q
        · rw [amg (by omega),Nat.min_eq_left q]
        · rw [ahD (by omega),Nat.min_eq_right q]
      have emax:rH (nE x e) (nE y e)=e+((max (tz x.natAbs) (tz y.natAbs):Nat):Int):=by
        rw [ex,ey]
        rcases Nat.le_total (tz x.natAbs) (tz y.natAbs) with q | q
        · rw [ahE (by omega),Nat.max_eq_right q]
        · rw [amh (by omega),Nat.max_eq_left q]
      have mx:min (tz x.natAbs) (tz y.natAbs)≤tz x.natAbs:=Nat.min_le_left _ _
      have my:min (tz x.natAbs) (tz y.natAbs)≤tz y.natAbs:=Nat.min_le_right _ _
      have gx:max (tz x.natAbs) (tz y.natAbs)≤44800:=by omega
      have gl:min (tz x.natAbs) (tz y.natAbs)≤max (tz x.natAbs) (tz y.natAbs):=by omega
      revert emin emax mx my gx gl
      generalize min (tz x.natAbs) (tz y.natAbs)=m
      generalize max (tz x.natAbs) (tz y.natAbs)=g
      intro emin emax mx my gx gl
      obtain ⟨_,dx⟩:=BB mx
      obtain ⟨_,dy⟩:=BB my
      refine ⟨m,e+m,aY (ag (a:=e+(m:Int)) ?_ (ag (a:=(aC (x.natAbs / 2 ^ m) (nl (x.natAbs / 2 ^ m)),nl (x.natAbs / 2 ^ m),aC (y.natAbs / 2 ^ m) (nl (y.natAbs / 2 ^ m)),nl (y.natAbs / 2 ^ m))) ?_ rfl)),⟨dx,dy,.inr rfl,by omega⟩⟩
      · unfold se
        rw [au,au,emin,emax]
        exact dr (dr (di (by rw [dh];omega) (cy (by rw [decide_eq_false_iff_not];omega) rfl)))
      · show (lc _ _ _ _ _).run=_
        unfold lc
        rw [au,au,bQ (l:=aC (nM x) (nl (nM x))) au,bQ (l:=aC (nM y) (nl (nM y))) au,NK hx h1 mx (k:=nE x e - (e+(m:Int))) (by omega),NK hy h2 my (k:=nE y e - (e+(m:Int))) (by omega)]
        exact dr (di (by rw [dh];omega) (dY (ae (dr (di (by rw [dh];omega) (dY (ae rfl)))))))
end Go.Plb.Seat
namespace Go.Plb.Seat
open Go Go.Plb
set_option linter.unusedSimpArgs false
set_option linter.unusedVariables false
theorem V0(s:Bool){v n:Nat}(hv:v < W ^ n)(hn:n≤1000000)(hl:nl v≤1000){e:Int}(he : -150000≤e∧e≤150000) :
    ∃ N,cg s (aC v n) 0 e=some (.r0 0 (nS (sg s v)) (aC (nM (sg s v)) N) 0 (nl (nM (sg s v))) (nE (sg s v) e))∧nl (nM (sg s v))≤N∧N≤4096:=by
  obtain ⟨N,h1,h2,h3⟩:=RI s hv hn hl he
  refine ⟨N,aY (ag (a:=(0,nS (sg s v),aC (nM (sg s v)) N,0,nl (nM (sg s v)),nE (sg s v) e)) ?_ rfl),h2,h3⟩
  unfold GT
  rw [aq,h1]
  exact aK (aG (ae rfl))
theorem afc{x y e:Int}{s t:Bool}(hs:x ≠ 0→s=nS x)(ht:y ≠ 0→t=nS y)(hx:Sm x e)(hy:Sm y e) :
    ∃ N,cI s (aC (nM x) (nl (nM x))) (nE x e) t (aC (nM y) (nl (nM y))) (nE y e)=some (.r0 0 (nS (x+y)) (aC (nM (x+y)) N) 0 (nl (nM (x+y))) (nE (x+y) e))∧nl (nM (x+y))≤N∧N≤4096:=by
  obtain ⟨Nx,x1,x2,x3⟩:=Ke hs hx
  obtain ⟨Ny,y1,y2,y3⟩:=Ke ht hy
  obtain ⟨m,ep,l1,l2⟩:=ace hx hy
  have xl:=hx.l
  have yl:=hy.l
  have hX:nl (x.natAbs / 2 ^ m)≤300:=Nat.le_trans (sO (Nat.div_le_self _ _)) xl
  have hY:nl (y.natAbs / 2 ^ m)≤300:=Nat.le_trans (sO (Nat.div_le_self _ _)) yl
  have ox:=al8 l2.x2
  have oy:=al8 l2.y2
  have z0:∀ {z:Int},z=0→z.natAbs / 2 ^ m=0:=fun h=>by rw [h,Int.natAbs_zero,Nat.zero_div]
  have zx:x=0→x.natAbs / 2 ^ m=0:=z0
  have zy:y=0→y.natAbs / 2 ^ m=0:=z0
  have hb:=l2.b
  have t9:(Gb s (aC (nM x) (nl (nM x))) (nE x e) t (aC (nM y) (nl (nM y))) (nE y e)).run=some (.inl (0,nS x,aC (nM x) Nx,0,nl (nM x),nE x e,nS y,aC (nM y) Ny,0,nl (nM y),nE y e,false)):=by
    unfold Gb
    rw [aq,aq,RH hx,RH hy,x1,y1]
    exact aX (ae (aG (ae (aK (aG (ae (ae (aX (ae (aG (ae (aK (aG (ae (ae (aK rfl))))))))))))))))
  have t10:(C8 0 (aC (nM x) Nx) 0 (nl (nM x)) (nE x e) (aC (nM y) Ny) 0 (nl (nM y)) (nE y e)).run=some (.inl (0,ep,aC (x.natAbs / 2 ^ m) (nl (x.natAbs / 2 ^ m)),nl (x.natAbs / 2 ^ m),aC (y.natAbs / 2 ^ m) (nl (y.natAbs / 2 ^ m)),nl (y.natAbs / 2 ^ m))):=by
    unfold C8
    rw [ch x2,ch y2,l1]
    exact aK (di (bo x2) (di (bo y2) (ae rfl)))
  clear l1 x1 y1
  have sum:=fun {z z':Int} (a:z=z' * ((2 ^ m:Nat):Int)) (b:x=0→y=0→z'=0)=>l2.sum a b
  revert t10 hX hY ox oy zx zy
  generalize x.natAbs / 2 ^ m=X
  generalize y.natAbs / 2 ^ m=Y
  intro hX hY ox oy zx zy t10
  have hXY:=af7 hX hY
  by_cases hsg:nS x=nS y
  · have hz:x+y=sg (nS x) (X+Y) * ((2 ^ m:Nat):Int):=by
      rw [← aop,Int.add_mul,← ox]
      rw [hsg,← oy]
    obtain ⟨a,b,c⟩:=sum hz (fun p q=>by rw [zx p,zy q];cases nS x <;> rfl)
    obtain ⟨N,h1,h2,h3⟩:=V0 (nS x) (v:=X+Y) (cZ _) (by omega) (by omega) (e:=ep) (by omega)
    rw [a,b,c]
    refine ⟨N,aY (ag t9 (ag t10 (bK ?_))),h2,h3⟩
    show (un _ _ _ _ _ _ _ _).run=_
    unfold un
    have hc:nl (X+Y)≤max (nl X) (nl Y)+1:=af7 (Nat.le_max_left _ _) (Nat.le_max_right _ _)
    rw [bQ au,bQ au,aoB (cZ X) (cZ Y) (by omega) (by omega) (by omega) (by omega) (by omega)]
    simp only [Eb,jF,jG,k9,jH]
    rw [ch hc,show (((0:Nat):Int))=0 from rfl,h1]
    exact aK (lU (by rw [hsg];cases nS y <;> rfl) (dY (dY (ae (di (bo hc) (dY (dY (ae rfl))))))))
  · have hn:nS y = !(nS x):=by revert hsg;cases nS x <;> cases nS y <;> simp
    have t11:(un (nS x) (nS y) 0 ep (aC X (nl X)) (nl X) (aC Y (nl Y)) (nl Y)).run=some (.inl ()):=by
      unfold un
      exact aK (cy (by rw [hn];cases nS x <;> rfl) rfl)
    have t12:(C9 (aC X (nl X)) (nl X) (aC Y (nl Y)) (nl Y)).run=some (.inl (rM X Y)):=by
      unfold C9
      rw [bQ au,bQ au,ajn (cZ X) (cZ Y) (by omega) (by omega) (by omega) (by omega)]
      exact dY (dY (ae rfl))
    have hxy:x+y=(sg (nS x) X - sg (nS x) Y) * ((2 ^ m:Nat):Int):=by
      rw [Int.sub_mul,← ox]
      have:y = -(sg (nS x) Y) * ((2 ^ m:Nat):Int):=by rw [← Vp,← hn];exact oy
      rw [Int.neg_mul] at this
      omega
    by_cases hlt:X < Y
    · have hz:x+y=sg (nS y) (Y - X) * ((2 ^ m:Nat):Int):=by
        rw [hxy,← af8 (Nat.le_of_lt hlt),hn,Vp,Vp];congr 1;omega
      obtain ⟨a,b,c⟩:=sum hz (fun p q=>by rw [zx p,zy q];cases nS y <;> rfl)
      have hd:nl (Y - X)≤nl Y:=sO (Nat.sub_le _ _)
      obtain ⟨N,h1,h2,h3⟩:=V0 (nS y) (v:=Y - X) (cZ _) (by omega) (by omega) (e:=ep) (by omega)
      rw [a,b,c]
      refine ⟨N,aY (ag t9 (ag t10 (ag t11 (ag t12 (bK ?_))))),h2,h3⟩
      show (Da _ _ _ _ _ _ _).run=_
      unfold Da
      have hc:rM X Y = -1:=if_pos hlt
      rw [hc,bQ au,bQ au,ajm (cZ Y) (cZ X) (by omega) (by omega) (by omega) (by omega) (Nat.le_of_lt hlt)]
      simp only [zN,iG,iH,iI,jI]
      rw [ch hd,show (((0:Nat):Int))=0 from rfl,h1]
      exact aX (dY (dY (ae (di (bo hd) (dY (dY (ae rfl)))))))
    · have hz:x+y=sg (nS x) (X - Y) * ((2 ^ m:Nat):Int):=by
        rw [hxy,← af8 (by omega)]
      obtain ⟨a,b,c⟩:=sum hz (fun p q=>by rw [zx p,zy q];cases nS x <;> rfl)
      have hd:nl (X - Y)≤nl X:=sO (Nat.sub_le _ _)
      obtain ⟨N,h1,h2,h3⟩:=V0 (nS x) (v:=X - Y) (cZ _) (by omega) (by omega) (e:=ep) (by omega)
      rw [a,b,c]
      have hc:decide (rM X Y < 0)=false:=by
        rw [decide_eq_false_iff_not];unfold rM;rw [if_neg hlt];split <;> omega
      refine ⟨N,aY (ag t9 (ag t10 (ag t11 (ag t12 (ag (a:=()) (cy hc rfl) (ag (a:=(0,aC (X - Y) (nl X),0,nl (X - Y))) ?_ (ag (a:=(0,nS (sg (nS x) (X - Y)),aC (nM (sg (nS x) (X - Y))) N,0,nl (nM (sg (nS x) (X - Y))),nE (sg (nS x) (X - Y)) ep)) ?_ rfl))))))),h2,h3⟩
      · show (Db _ _ _ _).run=_
        unfold Db
        rw [bQ au,bQ au,ajm (cZ X) (cZ Y) (by omega) (by omega) (by omega) (by omega) (by omega)]
        exact dY (dY (ae rfl))
      · show (Dc _ _ _ _ _ _ _ _ _ _).run=_
        unfold Dc
        rw [ch hd,show (((0:Nat):Int))=0 from rfl,h1]
        exact di (bo hd) (dY (dY (ae rfl)))
theorem amY{x y e:Int}(hx:Sm x e)(hy:Sm y e) :
    ∃ N,cI (nS x) (aC (nM x) (nl (nM x))) (nE x e) (nS y) (aC (nM y) (nl (nM y))) (nE y e)=some (.r0 0 (nS (x+y)) (aC (nM (x+y)) N) 0 (nl (nM (x+y))) (nE (x+y) e))∧nl (nM (x+y))≤N∧N≤4096 :=
  afc (fun _=>rfl) (fun _=>rfl) hx hy
theorem afd{x y e:Int}(hx:Sm x e)(hy:Sm y e) :
    ∃ N,dZ (nS x) (aC (nM x) (nl (nM x))) (nE x e) (nS y) (aC (nM y) (nl (nM y))) (nE y e)=some (.r0 0 (nS (x - y)) (aC (nM (x - y)) N) 0 (nl (nM (x - y))) (nE (x - y) e))∧nl (nM (x - y))≤N∧N≤4096:=by
  obtain ⟨N,h1,h2,h3⟩:=afc (x:=x) (y:=-y) (e:=e) (s:=nS x) (t:=!(nS y)) (fun _=>rfl) (fun h=>by
    unfold nS;rw [← decide_not];congr 1;exact propext (by omega)) hx hy.n
  rw [aon,aoo,← Int.sub_eq_add_neg] at h1
  rw [← Int.sub_eq_add_neg] at h2
  refine ⟨N,aY (ag (a:=(0,nS (x - y),aC (nM (x - y)) N,0,nl (nM (x - y)),nE (x - y) e)) ?_ rfl),h2,h3⟩
  unfold MF
  rw [aq,aq,h1]
  exact aG (aG (ae rfl))
theorem NL{x y e f:Int}(hx:Sm x e)(hy:Sm y f) :
    ∃ N,ay (nS x) (aC (nM x) (nl (nM x))) (nE x e) (nS y) (aC (nM y) (nl (nM y))) (nE y f)=some (.r0 0 (nS (x * y)) (aC (nM (x * y)) N) 0 (nl (nM (x * y))) (nE (x * y) (e+f)))∧nl (nM (x * y))≤N∧N≤4096:=by
  obtain ⟨Nx,x1,x2,x3⟩:=Ke (s:=nS x) (fun _=>rfl) hx
  obtain ⟨Ny,y1,y2,y3⟩:=Ke (s:=nS y) (fun _=>rfl) hy
  have xm:=hx.m
  have ym:=hy.m
  have xb:=hx.b
  have yb:=hy.b
  have hm:=akC (a:=nM x) (b:=nM y)
  obtain ⟨N,h1,h2,h3⟩:=RI (nS x != nS y) (v:=nM x * nM y) (cZ _) (by omega) (by omega) (e:=nE x e+nE y f) (by omega)
  have key:nS (x * y)=nS (sg (nS x != nS y) (nM x * nM y))∧nM (x * y)=nM (sg (nS x != nS y) (nM x * nM y))∧nE (x * y) (e+f)=nE (sg (nS x != nS y) (nM x * nM y)) (nE x e+nE y f):=by
    have hz:x * y=sg (nS x != nS y) (nM x * nM y) * ((2 ^ (tz x.natAbs+tz y.natAbs):Nat):Int):=by
      have a:=Sn x
      have b:=Sn y
      rw [← aeE,Nat.pow_add,Int.natCast_mul]
      conv=>lhs;rw [← a,← b]
      simp only [Int.mul_assoc,Int.mul_comm,Int.mul_left_comm]
    obtain ⟨a,b,c⟩:=H5 hz (e+f)
    refine ⟨a,b,?_⟩
    rw [c]
    by_cases p:x=0
    · subst p;rw [k8,Nat.zero_mul]
      have:sg (nS 0 != nS y) 0=0:=Av.2 rfl
      rw [this,ib,ib]
    · by_cases q:y=0
      · subst q;rw [k8,Nat.mul_zero]
        have:sg (nS x != nS 0) 0=0:=Av.2 rfl
        rw [this,ib,ib]
      · rw [lr p,lr q];congr 1;omega
  obtain ⟨a,b,c⟩:=key
  rw [a,b,c]
  refine ⟨N,aY (ag (a:=(0,nS x,aC (nM x) Nx,0,nl (nM x),nE x e,nS y,aC (nM y) Ny,0,nl (nM y),nE y f,false)) ?_ (ag (a:=(aC (nM x * nM y) (nl (nM x)+nl (nM y)),0,nl (nM x * nM y),0)) ?_ (ag (a:=(0,nS (sg (nS x != nS y) (nM x * nM y)),aC (nM (sg (nS x != nS y) (nM x * nM y))) N,0,nl (nM (sg (nS x != nS y) (nM x * nM y))),nE (sg (nS x != nS y) (nM x * nM y)) (nE x e+nE y f))) ?_ rfl))),h2,h3⟩
  · unfold LP
    rw [aq,aq,RH hx,RH hy,x1,y1]
    exact aX (ae (aG (ae (aK (aG (ae (ae (aX (ae (aG (ae (aK (aG (ae (ae (aK rfl))))))))))))))))
  · show (Gd _ _ _ _ _ _ _).run=_
    unfold Gd
    rw [ch x2,ch y2,aoD (cZ (nM x)) (cZ (nM y)) (by omega) (by omega) (by omega)]
    have e1:nl (nM x)=nl (nM x):=rfl
    exact aK (di (bo x2) (di (bo y2) (ae rfl)))
  · show (Ge _ _ _ _ _ _ _ _).run=_
    unfold Ge
    rw [ch hm]
    have h1':cr (!(nS x == nS y)) (aC (nM x * nM y) (nl (nM x * nM y))) (nE x e+nE y f)=_:=h1
    rw [h1']
    exact aK (di (by rw [dh];omega) (di (bo hm) (ae rfl)))
end Go.Plb.Seat
namespace Go.Plb.Seat
open Go Go.Plb
set_option linter.unusedSimpArgs false
set_option linter.unusedVariables false
def Qv(z:Int) :Int:=if z < 0 then -1 else if 0 < z then 1 else 0
theorem DR(z:Int) :ic (nS z) (aC (nM z) (nl (nM z)))=some (.r0 (Qv z)):=by
  refine aY ?_
  unfold Jm
  rw [au]
  unfold Qv nS
  by_cases h0:z=0
  · subst h0;rw [k8,fE];exact aX rfl
  · have:nl (nM z) ≠ 0:=fun q=>N8 h0 (lW.1 q)
    by_cases h:z < 0
    · rw [if_pos h];exact dr (lU (decide_eq_true h) rfl)
    · rw [if_neg h,if_pos (by omega)];exact dr (cy (decide_eq_false h) rfl)
theorem apl{X Y p:Nat}(hp:0 < p) :rM X Y=sgn ((X:Int) * p) ((Y:Int) * p):=by
  unfold rM sgn
  have h:∀ {a b:Nat},a < b↔(a:Int) * p < (b:Int) * p:=fun {a b}=>by
    rw [← Int.natCast_mul,← Int.natCast_mul,Int.ofNat_lt]
    exact ⟨fun q=>Nat.mul_lt_mul_of_pos_right q hp,fun q=>Nat.lt_of_mul_lt_mul_right q⟩
  simp only [h]
theorem apm{a b:Int} :(0:Int) - sgn a b=sgn (-a) (-b):=by unfold sgn;split <;> split <;> (try split) <;> omega
theorem amZ{x y e:Int}(hx:Sm x e)(hy:Sm y e) :
    q8 (nS x) (aC (nM x) (nl (nM x))) (nE x e) (nS y) (aC (nM y) (nl (nM y))) (nE y e)=some (.r0 (sgn x y) 0):=by
  obtain ⟨Nx,x1,x2,x3⟩:=Ke (s:=nS x) (fun _=>rfl) hx
  obtain ⟨Ny,y1,y2,y3⟩:=Ke (s:=nS y) (fun _=>rfl) hy
  obtain ⟨m,ep,l1,l2⟩:=ace hx hy
  have xl:=hx.l
  have yl:=hy.l
  have hX:nl (x.natAbs / 2 ^ m)≤300:=Nat.le_trans (sO (Nat.div_le_self _ _)) xl
  have hY:nl (y.natAbs / 2 ^ m)≤300:=Nat.le_trans (sO (Nat.div_le_self _ _)) yl
  have hc:rM (x.natAbs / 2 ^ m) (y.natAbs / 2 ^ m)=sgn (x.natAbs:Int) (y.natAbs:Int):=by
    rw [apl (mE m),← Int.natCast_mul,← Int.natCast_mul,l2.x2,l2.y2]
  have t8:(Gh 0 (aC (x.natAbs / 2 ^ m) (nl (x.natAbs / 2 ^ m))) (nl (x.natAbs / 2 ^ m)) (aC (y.natAbs / 2 ^ m) (nl (y.natAbs / 2 ^ m))) (nl (y.natAbs / 2 ^ m))).run=some (.inl (sgn (x.natAbs:Int) (y.natAbs:Int))):=by
    unfold Gh
    rw [bQ au,bQ au,ajn (cZ _) (cZ _) (by omega) (by omega) (by omega) (by omega),← hc]
    exact aK (dY (dY (ae rfl)))
  have t7:(Gg 0 (aC (nM x) Nx) 0 (nl (nM x)) (nE x e) (aC (nM y) Ny) 0 (nl (nM y)) (nE y e)).run=some (.inl (0,ep,aC (x.natAbs / 2 ^ m) (nl (x.natAbs / 2 ^ m)),nl (x.natAbs / 2 ^ m),aC (y.natAbs / 2 ^ m) (nl (y.natAbs / 2 ^ m)),nl (y.natAbs / 2 ^ m))):=by
    unfold Gg
    rw [ch x2,ch y2,l1]
    exact aK (di (bo x2) (di (bo y2) (ae rfl)))
  refine aY (ag (a:=(0,nS x,aC (nM x) Nx,0,nl (nM x),nE x e,nS y,aC (nM y) Ny,0,nl (nM y),nE y e)) ?_ (ag t7 (ag t8 ?_)))
  · unfold LR
    rw [aq,aq,RH hx,RH hy,x1,y1]
    exact aX (ae (aG (ae (aK (aG (ae (ae (aX (ae (aG (ae (aK (aG (ae (ae (aK rfl))))))))))))))))
  · have h9:∀ n18,tl (nS x) (aC (nM x) Nx) 0 (nl (nM x)) (nS y) (aC (nM y) Ny) 0 (nl (nM y)) n18=tl (nS x) (aC (nM x) Nx) 0 (nl (nM x)) (nS y) (aC (nM y) Ny) 0 (nl (nM y)) n18:=fun _=>rfl
    by_cases hs:Qv x=Qv y
    · by_cases hn:x < 0
      · have e1:nS x=true:=decide_eq_true hn
        have hy0:y < 0:=by unfold Qv at hs;rw [if_pos hn] at hs;revert hs;split <;> (try split) <;> omega
        have ev:(0:Int) - sgn (x.natAbs:Int) (y.natAbs:Int)=sgn x y:=by
          rw [apm];congr 1 <;> omega
        refine bK ?_
        unfold tl
        rw [ch x2,ch y2,DR,DR]
        simp only [ld,gk]
        refine di (bo x2) (ae (di (bo y2) (ae (cy (by rw [hs,bne_self_eq_false]) (lU e1 (di ?_ ?_))))))
        · rw [ev,dh];unfold sgn;split <;> (try split) <;> omega
        · rw [ev];rfl
      · have e1:nS x=false:=decide_eq_false hn
        have hy0 : ¬ y < 0:=by unfold Qv at hs;rw [if_neg hn] at hs;revert hs;split <;> (try split) <;> (try split) <;> omega
        have ev:sgn (x.natAbs:Int) (y.natAbs:Int)=sgn x y:=by congr 1 <;> omega
        refine ag (a:=()) ?_ (by rw [ev];rfl)
        unfold tl
        rw [ch x2,ch y2,DR,DR]
        simp only [ld,gk]
        exact di (bo x2) (ae (di (bo y2) (ae (cy (by rw [hs,bne_self_eq_false]) (cy e1 rfl)))))
    · have ev:rH (-1) (B0 1 (Qv x - Qv y))=sgn x y:=by
        unfold rH B0 sgn;unfold Qv at hs ⊢
        revert hs
        repeat' split
        all_goals omega
      refine bK ?_
      unfold tl
      rw [ch x2,ch y2,DR,DR]
      simp only [ld,gk]
      rw [ev]
      refine di (bo x2) (ae (di (bo y2) (ae (lU (bne_iff_ne.2 hs) (di (bo x2) (ae (di (bo y2) (ae (di ?_ rfl)))))))))
      rw [dh];unfold Qv;split <;> (try split) <;> (try split) <;> (try split) <;> omega
theorem ajx{x e k:Int}(hx:Sm x e)(hk : -30000≤k∧k≤30000) :
    ∃ N,eZ (nS x) (aC (nM x) (nl (nM x))) (nE x e) k=some (.r0 0 (nS x) (aC (nM x) N) 0 (nl (nM x)) (nE x (e+k)))∧nl (nM x)≤N∧N≤4096:=by
  obtain ⟨Nx,x1,x2,x3⟩:=Ke (s:=nS x) (fun _=>rfl) hx
  have xm:=hx.m
  have xb:=hx.b
  have t5:(AC (nS x) (aC (nM x) (nl (nM x))) (nE x e)).run=some (.inl (0,nS x,aC (nM x) Nx,0,nl (nM x),nE x e,false)):=by
    unfold AC
    rw [aq,RH hx,x1]
    exact aX (ae (aG (ae (aK (aG (ae (ae (aK rfl))))))))
  by_cases h0:x=0
  · subst h0
    rw [k8,fE] at t5
    rw [k8,fE,ib,Y9]
    refine ⟨0,aY (ag (by rw [ib,Y9] at t5;exact t5) (ag (a:=true) (aK rfl) (bK (aX rfl)))),Nat.le_refl _,Nat.zero_le _⟩
  · have hl:nl (nM x) ≠ 0:=fun q=>N8 h0 (lW.1 q)
    have ek:rH (-1048576) (B0 1048576 k)=k:=by rw [ahD (by omega),ahE (by omega)]
    obtain ⟨N,h1,h2,h3⟩:=RI (nS x) (v:=nM x) (cZ _) (by omega) (by omega) (e:=nE x e+k) (by omega)
    obtain ⟨a,b,c⟩:=Z4 (z:=x) (e:=e) (s:=nS x) (fun _=>rfl)
    have c':nE (sg (nS x) (nM x)) (nE x e+k)=nE x (e+k):=by
      have q:sg (nS x) (nM x) ≠ 0:=fun w=>N8 h0 (Av.1 w)
      rw [lr q,lr h0] at c
      rw [lr q,lr h0,lr h0];omega
    rw [a,b,c'] at h1
    rw [b] at h2
    refine ⟨N,aY (ag t5 (ag (a:=false) (aK (by show some (Sum.inl _)=_;rw [beq_eq_false_iff_ne.2 (by omega)])) (ag (a:=(0,nS x,aC (nM x) N,0,nl (nM x),nE x (e+k))) ?_ rfl))),h2,h3⟩
    show (AD _ _ _ _ _ _ _ _).run=_
    unfold AD
    rw [ch x2,ek,h1]
    exact aK (di (by rw [dh];omega) (di (bo x2) (ae rfl)))
theorem Nk{n:Nat}(h:n < 9223372036854775808) :
    ∃ N,bk (n:Int)=some (.r0 (nS (n:Int)) (aC (nM (n:Int)) N) 0 (nl (nM (n:Int))) (nE (n:Int) 0))∧nl (nM (n:Int))≤N∧N≤4096:=by
  have hW:n < W:=Nat.lt_trans h (by decide)
  have hn:nl n≤1:=ju (by rw [Nat.pow_one];exact hW)
  obtain ⟨N,h1,h2,h3⟩:=w8 false (v:=n) (cZ _) (by omega) (by omega) (e:=0) (by omega)
  have e:sg false n=(n:Int):=rfl
  rw [e] at h1 h2
  refine ⟨N,aY (ag (a:=((n:Int),false)) ?_ (ag (a:=(nS (n:Int),aC (nM (n:Int)) N,0,nl (nM (n:Int)),nE (n:Int) 0)) ?_ rfl)),h2,h3⟩
  · unfold GY
    rw [kt hW]
    exact cy (by rw [decide_eq_false_iff_not];omega) rfl
  · show (AG _ _).run=_
    unfold AG
    have d:decide ((n:Int) < 0)=false:=by rw [decide_eq_false_iff_not];omega
    rw [amf hW,d]
    simp only [zI,eT,eU,eV]
    rw [ch hn,h1]
    exact ae (di (bo hn) (ae rfl))
theorem Io{x:Nat}(hx:x < RL) :fv .and .u64 (Int.fdiv (x:Int) (2 ^ (min (Int.toNat (52:Int)) IntKind.u64.bits))) 2047=((Vq x:Nat):Int):=by
  have e:(52:Int)=((52:Nat):Int):=by omega
  have e':(2047:Int)=((2047:Nat):Int):=by omega
  rw [e,FU _ (by decide),e',Sk]
  have h1:x / 2 ^ 52 < W:=Nat.lt_of_le_of_lt (Nat.div_le_self _ _) hx
  rw [Nat.mod_eq_of_lt h1,Nat.mod_eq_of_lt (show 2047 < W by decide)]
  congr 1
  exact Nat.and_two_pow_sub_one_eq_mod _ 11
theorem DS{x:Nat}(hx:x < RL) :fv .and .u64 (x:Int) 4503599627370495=((x % 4503599627370496:Nat):Int):=by
  have e':(4503599627370495:Int)=((4503599627370495:Nat):Int):=by omega
  rw [e',Sk,Nat.mod_eq_of_lt hx,Nat.mod_eq_of_lt (show 4503599627370495 < W by decide)]
  congr 1
  exact Nat.and_two_pow_sub_one_eq_mod _ 52
theorem am0{x:Nat}(hx:x < RL) :Int.fdiv (x:Int) (2 ^ (min (Int.toNat (63:Int)) IntKind.u64.bits))=((x / 9223372036854775808:Nat):Int):=by
  have e:(63:Int)=((63:Nat):Int):=by omega
  rw [e,FU _ (by decide)]
theorem aoJ{y:Nat}(h:y < 4503599627370496) :fv .or .u64 (y:Int) 4503599627370496=((y+4503599627370496:Nat):Int):=by
  have e':(4503599627370496:Int)=((4503599627370496:Nat):Int):=by omega
  have hy:y < W:=Nat.lt_trans h (by decide)
  rw [e',af5,Nat.mod_eq_of_lt hy,Nat.mod_eq_of_lt (show 4503599627370496 < W by decide)]
  congr 1
  have:=akz (h:=y) (x:=1) (r:=52) h
  rw [Nat.one_mul] at this
  exact this
def uR(x:Nat) :Nat:=if Vq x ≠ 0 then 3 else if x % 4503599627370496 ≠ 0 then 2 else 1
theorem aln{x:Nat}(hx:x < RL)(h:xV x=true) :uo (x:Int)=some (.r0 (uR x)):=by
  have h':Vq x ≠ 2047:=by unfold xV at h;exact bne_iff_ne.1 h
  unfold uR
  by_cases h1:Vq x=0
  · by_cases h2:x % 4503599627370496=0
    · rw [if_neg (by omega),if_neg (by omega)]
      refine aY (ag (a:=()) ?_ rfl)
      unfold ve
      rw [Io hx,DS hx,h1,h2]
      exact ae (aK (aK (aK (aK rfl))))
    · rw [if_neg (by omega),if_pos h2]
      refine aY (bK ?_)
      unfold ve
      rw [Io hx,DS hx,h1]
      exact ae (aK (aK (aK (cS rfl))))
  · rw [if_pos h1]
    refine aY (bK ?_)
    unfold ve
    rw [Io hx,DS hx]
    exact ae (dr (dr (cS rfl)))
def fm(x:Nat) :Nat:=if Vq x ≠ 0 then x % 4503599627370496+4503599627370496 else x % 4503599627370496
def fe(x:Nat) :Int:=if Vq x ≠ 0 then -1074+((Vq x:Int) - 1) else if x % 4503599627370496 ≠ 0 then -1074 else 0
theorem afe{z:Nat}(h:z < 4096) :IntKind.i64.wrap ((z:Nat):Int)=((z:Nat):Int):=by
  simp only [IntKind.wrap,IntKind.signed,IntKind.bits]
  simp
  omega
theorem acf(x:Nat) :Vq x < 2048:=Nat.mod_lt _ (by decide)
theorem alo{x:Nat}(hx:x < RL)(h:xV x=true) :er (x:Int)=some (.r0 0 (x / 9223372036854775808 == 1) ((fm x:Nat):Int) (fe x)):=by
  have hl:=acf x
  have hs:(((x / 9223372036854775808:Nat):Int) == (1:Int))=(x / 9223372036854775808 == 1):=by
    rw [Bool.eq_iff_iff,beq_iff_eq,beq_iff_eq];omega
  refine aY (ag (a:=(uR x,false,(x / 9223372036854775808 == 1),((x % 4503599627370496:Nat):Int))) ?_ ?_)
  · unfold GZ
    rw [aln hx h,DS hx,am0 hx,hs]
    exact ae (ae rfl)
  · show (AI _ _ _ _).run=_
    unfold AI uR fm fe
    rw [Io hx,afe (by omega),aoJ (Nat.mod_lt _ (by decide))]
    by_cases h1:Vq x=0
    · by_cases h2:x % 4503599627370496=0
      · rw [if_neg (by omega),if_neg (by omega),if_neg (by omega),if_neg (by omega),if_neg (by omega)]
        exact aK (aK (aX rfl))
      · rw [if_neg (by omega),if_pos h2,if_neg (by omega),if_neg (by omega),if_pos h2]
        exact aK (aX rfl)
    · rw [if_pos h1,if_pos h1,if_pos h1]
      exact aX (ae (di (by rw [dh];omega) (di (by rw [dh];omega) rfl)))
theorem apH(x:Nat) :fm x < W:=by
  have:=Nat.mod_lt x (show 4503599627370496 > 0 by decide)
  have w:(9007199254740992:Nat) < W:=by decide
  unfold fm;split <;> omega
theorem ajy{x:Nat}(hx:x < RL)(h:xV x=true) :nS (sg (x / 9223372036854775808 == 1) (fm x))=nS (fz x)∧nM (sg (x / 9223372036854775808 == 1) (fm x))=nM (fz x)∧nE (sg (x / 9223372036854775808 == 1) (fm x)) (fe x)=nE (fz x) (-1074):=by
  have hx':x < 18446744073709551616:=hx
  have hl:=acf x
  unfold fz fm fe
  have hmod:x % 4503599627370496=x % 9223372036854775808 % 4503599627370496:=by omega
  by_cases h1:Vq x=0
  · have h3:x % 9223372036854775808 < 4503599627370496:=by unfold Vq at h1;omega
    have h4:oc (x % 9223372036854775808)=0:=by unfold oc;omega
    have h5:GE (x % 9223372036854775808)=x % 4503599627370496:=by unfold GE;rw [if_pos h3];omega
    rw [h4,h5,Nat.pow_zero,Nat.mul_one,if_neg (by omega),if_neg (by omega)]
    by_cases h2:x % 4503599627370496=0
    · rw [h2,if_neg (by omega)]
      have z:sg (x / 9223372036854775808 == 1) 0=0:=Av.2 rfl
      rw [z,ib,ib];exact ⟨rfl,rfl,rfl⟩
    · rw [if_pos h2];exact ⟨rfl,rfl,rfl⟩
  · have h3 : ¬ x % 9223372036854775808 < 4503599627370496:=by unfold Vq at h1;omega
    have h4:oc (x % 9223372036854775808)=Vq x - 1:=by unfold oc Vq;omega
    have h5:GE (x % 9223372036854775808)=x % 4503599627370496+4503599627370496:=by unfold GE;rw [if_neg h3];omega
    rw [h4,h5,if_pos h1,if_pos h1]
    obtain ⟨a,b,c⟩:=H5 (z:=sg (x / 9223372036854775808 == 1) ((x % 4503599627370496+4503599627370496) * 2 ^ (Vq x - 1))) (z':=sg (x / 9223372036854775808 == 1) (x % 4503599627370496+4503599627370496)) (m:=Vq x - 1) akA (-1074)
    refine ⟨a.symm,b.symm,?_⟩
    rw [c];congr 1;omega
theorem aoK{x:Nat}(hx:x < RL)(h:xV x=true) :
    ∃ N,il x=some (.r0 0 (nS (fz x)) (aC (nM (fz x)) N) 0 (nl (nM (fz x))) (nE (fz x) (-1074)))∧nl (nM (fz x))≤N∧N≤4096:=by
  have hm:=apH x
  have hn:nl (fm x)≤1:=ju (by rw [Nat.pow_one];exact hm)
  have hl:=acf x
  have he : -1000000≤fe x∧fe x≤1000000:=by unfold fe;split <;> (try split) <;> omega
  obtain ⟨N,h1,h2,h3⟩:=w8 (x / 9223372036854775808 == 1) (v:=fm x) (cZ _) (by omega) (by omega) he
  obtain ⟨a,b,c⟩:=ajy hx h
  rw [a,b,c] at h1
  rw [b] at h2
  refine ⟨N,aY (ag (a:=(0,false,(x / 9223372036854775808 == 1),((fm x:Nat):Int),fe x)) ?_ (ag (a:=(nS (fz x),aC (nM (fz x)) N,0,nl (nM (fz x)),nE (fz x) (-1074))) ?_ rfl)),h2,h3⟩
  · unfold Rk
    rw [alo hx h]
    exact cy (af9 hx h) (ao4 (di (by rw [al9 hx h];rfl) (ae rfl)))
  · show (Jt _ _ _ _).run=_
    unfold Jt
    rw [amf hm]
    simp only [zI,eT,eU,eV]
    rw [ch hn,h1]
    exact aK (ae (di (bo hn) (ae rfl)))
end Go.Plb.Seat
namespace Go.Plb
set_option linter.unusedSimpArgs false
set_option linter.unusedVariables false
set_option linter.unusedSectionVars false
variable [Rom]
abbrev H:Nat:=4294967296
def lmh(v i:Nat) :Int:=((v / H ^ i % H:Nat):Int)
def gD(v n:Nat) :List Int:=kq (lmh v) n
theorem xz(n:Nat) :0 < H ^ n:=Nat.pow_pos (by decide)
theorem eL{v n:Nat} :(gD v n).length=n:=fZ
theorem UY{v i:Nat}(h:v < H ^ i) :lmh v i=0:=by unfold lmh;rw [Nat.div_eq_of_lt h];rfl
theorem acg{v n i:Nat}(h:i < n) :(gD v n).getD i 0=lmh v i:=wK h
theorem Al{v n:Nat}(h:v < H ^ n)(i:Nat) :(gD v n).getD i 0=lmh v i:=by
  by_cases hi:i < n
  · exact acg hi
  · rw [List.getD_eq_getElem?_getD,List.getElem?_eq_none (by rw [eL];omega)]
    exact (UY (Nat.lt_of_lt_of_le h (Nat.pow_le_pow_right (by decide) (by omega)))).symm
theorem am2{v n m:Nat}(h:m≤n) :aa 0 m (gD v n)=gD v m:=aeA h
theorem alp{n:Nat} :List.replicate n (0:Int)=gD 0 n:=by
  rw [vX];exact dw fun i _=>(UY (xz i)).symm
theorem Gu{u x j:Nat}(hu:u < H ^ j)(hx:x < H)(i:Nat) :lmh (u+x * H ^ j) i=if i=j then (x:Int) else lmh u i:=by
  unfold lmh
  by_cases e:i=j
  · subst e
    rw [if_pos rfl,Nat.add_mul_div_right _ _ (xz i),Nat.div_eq_of_lt hu,Nat.zero_add,Nat.mod_eq_of_lt hx]
  · rw [if_neg e]
    congr 1
    rcases Nat.lt_or_ge i j with h | h
    · obtain ⟨d,rfl⟩:∃ d,j=i+1+d:=⟨j - i - 1,by omega⟩
      have:x * H ^ (i+1+d)=(x * H ^ d * H) * H ^ i:=by
        rw [Nat.pow_add,Nat.pow_succ];simp only [Nat.mul_assoc,Nat.mul_comm,Nat.mul_left_comm]
      rw [this,Nat.add_mul_div_right _ _ (xz i),Nat.add_mul_mod_self_right]
    · have h1:H ^ (j+1)≤H ^ i:=Nat.pow_le_pow_right (by decide) (by omega)
      have h2:u+x * H ^ j < H ^ (j+1):=by
        rw [Nat.pow_succ,Nat.mul_comm (H ^ j)]
        have:(x+1) * H ^ j≤H * H ^ j:=Nat.mul_le_mul_right _ hx
        rw [Nat.add_mul,Nat.one_mul] at this
        omega
      have h3:H ^ j≤H ^ (j+1):=Nat.pow_le_pow_right (by decide) (by omega)
      rw [Nat.div_eq_of_lt (Nat.lt_of_lt_of_le h2 h1),Nat.div_eq_of_lt (by omega)]
theorem aek{u x j n:Nat}(hu:u < H ^ j)(hx:x < H)(hj:j < n) :(gD u n).set j (x:Int)=gD (u+x * H ^ j) n:=by
  unfold gD
  rw [xc hj]
  exact dw fun i _=>(Gu hu hx i).symm
theorem xA(v j:Nat) :v % H ^ (j+1)=v % H ^ j+(v / H ^ j % H) * H ^ j:=by
  rw [Nat.pow_succ,Nat.mod_mul,Nat.mul_comm (H ^ j)]
theorem am3{v n:Nat} :gD (v % H ^ n) n=gD v n:=by
  refine dw fun i hi=>?_
  unfold lmh
  obtain ⟨d,rfl⟩:∃ d,n=i+1+d:=⟨n - i - 1,by omega⟩
  congr 1
  have h:=Nat.mod_mul (a:=H ^ i) (b:=H ^ (d+1)) (x:=v)
  have e:H ^ (i+1+d)=H ^ i * H ^ (d+1):=by rw [← Nat.pow_add];congr 1;omega
  rw [e,h,Nat.add_mul_div_left _ _ (xz i),Nat.div_eq_of_lt (Nat.mod_lt _ (xz i)),Nat.zero_add,Nat.pow_succ,Nat.mod_mul_left_mod]
theorem Nl{S t j:Nat}(hS:S < H ^ j) :(S+t * H ^ j) / H ^ (j+1)=t / H∧(S+t * H ^ j) % H ^ (j+1)=S+(t % H) * H ^ j:=by
  have e1:(S+t * H ^ j) / H ^ j=t:=by rw [Nat.add_mul_div_right _ _ (xz j),Nat.div_eq_of_lt hS,Nat.zero_add]
  have e2:(S+t * H ^ j) % H ^ j=S:=by rw [Nat.add_mul_mod_self_right,Nat.mod_eq_of_lt hS]
  constructor
  · rw [Nat.pow_succ,← Nat.div_div_eq_div_mul,e1]
  · rw [xA,e1,e2]
theorem Gv(v i:Nat) :lmh v i=((v / H ^ i % H:Nat):Int):=rfl
def tQ(x y j:Nat) :Nat:=x % H ^ j+y % H ^ j
theorem alq(x y j:Nat) :tQ x y (j+1)=tQ x y j % H ^ j+(x / H ^ j % H+y / H ^ j % H+tQ x y j / H ^ j) * H ^ j:=by
  have h:=Nat.div_add_mod (tQ x y j) (H ^ j)
  unfold tQ at h ⊢
  rw [xA x,xA y]
  rw [Nat.add_mul,Nat.add_mul,Nat.mul_comm ((x % H ^ j+y % H ^ j) / H ^ j)]
  omega
theorem Yh{x y j:Nat} :tQ x y j / H ^ j≤1:=by
  have h1:=Nat.mod_lt x (xz j)
  have h2:=Nat.mod_lt y (xz j)
  have:tQ x y j < 2 * H ^ j:=by unfold tQ;omega
  have:=(Nat.div_lt_iff_lt_mul (xz j)).2 this
  omega
def xD(a b j:Nat) :Nat:=if a % H ^ j < b % H ^ j then 1 else 0
def Gw(a b j:Nat) :Nat:=a % H ^ j+xD a b j * H ^ j - b % H ^ j
theorem ajz{a b j:Nat} :Gw a b j < H ^ j∧b % H ^ j≤a % H ^ j+xD a b j * H ^ j:=by
  have h1:=Nat.mod_lt a (xz j)
  have h2:=Nat.mod_lt b (xz j)
  unfold Gw xD
  generalize a % H ^ j=A at *
  generalize b % H ^ j=B at *
  generalize H ^ j=P at *
  split
  · rw [Nat.one_mul];omega
  · rw [Nat.zero_mul];omega
theorem am4(a b j:Nat) :xD a b (j+1)=(if a / H ^ j % H < b / H ^ j % H+xD a b j then 1 else 0) ∧
    Gw a b (j+1)=Gw a b j+((a / H ^ j % H+H - b / H ^ j % H - xD a b j) % H) * H ^ j:=by
  obtain ⟨hD,hle⟩:=ajz (a:=a) (b:=b) (j:=j)
  have hbr:xD a b j≤1:=by unfold xD;split <;> omega
  have hla:=Nat.mod_lt (a / H ^ j) (show H > 0 by decide)
  have hlb:=Nat.mod_lt (b / H ^ j) (show H > 0 by decide)
  have eD:Gw a b j+b % H ^ j=a % H ^ j+xD a b j * H ^ j:=by unfold Gw at hD ⊢;omega
  have eW:H ^ (j+1)=H * H ^ j:=by rw [Nat.pow_succ,Nat.mul_comm]
  have ea:=xA a j
  have eb:=xA b j
  generalize a / H ^ j % H=la at *
  generalize b / H ^ j % H=lb at *
  generalize xD a b j=br at *
  generalize Gw a b j=D at *
  by_cases h:la < lb+br
  · obtain ⟨d,hd⟩:∃ d,la+H=lb+br+d:=⟨la+H - lb - br,by omega⟩
    have hdW:d < H:=by omega
    have e3:la * H ^ j+H ^ (j+1)=lb * H ^ j+br * H ^ j+d * H ^ j:=by rw [eW,← Nat.add_mul,← Nat.add_mul,← Nat.add_mul,hd]
    have hlt:a % H ^ (j+1) < b % H ^ (j+1):=by
      have:(d+1) * H ^ j≤H * H ^ j:=Nat.mul_le_mul_right _ hdW
      rw [Nat.add_mul,Nat.one_mul] at this
      rw [ea,eb];omega
    have e1:xD a b (j+1)=1:=by unfold xD;rw [if_pos hlt]
    refine ⟨by rw [if_pos h,e1],?_⟩
    have e4:(la+H - lb - br) % H=d:=by
      have:la+H - lb - br=d:=by omega
      rw [this,Nat.mod_eq_of_lt hdW]
    unfold Gw
    rw [e1,e4,ea,eb,Nat.one_mul];omega
  · obtain ⟨d,hd⟩:∃ d,la=lb+br+d:=⟨la - lb - br,by omega⟩
    have hdW:d < H:=by omega
    have e3:la * H ^ j=lb * H ^ j+br * H ^ j+d * H ^ j:=by rw [← Nat.add_mul,← Nat.add_mul,hd]
    have hlt : ¬ a % H ^ (j+1) < b % H ^ (j+1):=by rw [ea,eb];omega
    have e1:xD a b (j+1)=0:=by unfold xD;rw [if_neg hlt]
    refine ⟨by rw [if_neg h,e1],?_⟩
    have e4:(la+H - lb - br) % H=d:=by
      have:la+H - lb - br=d+H:=by omega
      rw [this,Nat.add_mod_right,Nat.mod_eq_of_lt hdW]
    unfold Gw
    rw [e1,e4,ea,eb,Nat.zero_mul];omega
def n4(O a m k i:Nat) :Nat:=O % H ^ (k+i)+a % H ^ i * m * H ^ k
theorem ach(O a m k i:Nat) :n4 O a m k (i+1)=n4 O a m k i % H ^ (k+i)+(O / H ^ (k+i) % H+a / H ^ i % H * m+n4 O a m k i / H ^ (k+i)) * H ^ (k+i):=by
  have h:=Nat.div_add_mod (n4 O a m k i) (H ^ (k+i))
  have e:H ^ i * H ^ k=H ^ (k+i):=by rw [Nat.pow_add,Nat.mul_comm]
  have e2:(a / H ^ i % H) * H ^ i * m * H ^ k=a / H ^ i % H * m * H ^ (k+i):=by
    rw [← e];generalize a / H ^ i % H=x;ac_rfl
  have e3:n4 O a m k (i+1)=n4 O a m k i+(O / H ^ (k+i) % H * H ^ (k+i)+a / H ^ i % H * m * H ^ (k+i)):=by
    unfold n4
    rw [← Nat.add_assoc k i 1,xA O,xA a,Nat.add_mul,Nat.add_mul,e2]
    omega
  rw [e3,Nat.add_mul,Nat.add_mul,Nat.mul_comm (n4 O a m k i / H ^ (k+i))]
  omega
theorem ajA{O a m k i:Nat} :n4 O a m k i / H ^ (k+i)≤m:=by
  have h1:=Nat.mod_lt O (xz (k+i))
  have h2:=Nat.mod_lt a (xz i)
  have e:H ^ i * H ^ k=H ^ (k+i):=by rw [Nat.pow_add,Nat.mul_comm]
  have h3:a % H ^ i * m * H ^ k≤H ^ (k+i) * m:=by
    have:a % H ^ i * (m * H ^ k)≤H ^ i * (m * H ^ k):=Nat.mul_le_mul_right _ (by omega)
    have e4:H ^ i * (m * H ^ k)=H ^ (k+i) * m:=by rw [← e];ac_rfl
    rw [Nat.mul_assoc];omega
  have:n4 O a m k i < (m+1) * H ^ (k+i):=by
    rw [Nat.add_mul,Nat.one_mul,Nat.mul_comm m]
    unfold n4;omega
  have:=(Nat.div_lt_iff_lt_mul (xz (k+i))).2 this
  omega
def Qw(O a m k n i:Nat) :List Int:=kq (fun q=>if q < k+i then lmh (n4 O a m k i % H ^ (k+i)) q else lmh O q) n
theorem am5{O a m k n i:Nat} :(Qw O a m k n i).length=n:=fZ
theorem aoL{O a m k n i:Nat}(h:k+i < n) :(Qw O a m k n i).getD (k+i) 0=lmh O (k+i):=by
  unfold Qw;rw [wK h,if_neg (Nat.lt_irrefl _)]
theorem alr{O a m k n:Nat} :Qw O a m k n 0=gD O n:=by
  refine dw fun q hq=>?_
  by_cases h:q < k+0
  · rw [if_pos h]
    have e:n4 O a m k 0 % H ^ (k+0)=O % H ^ k:=by unfold n4;rw [Nat.pow_zero,Nat.mod_one,Nat.zero_mul,Nat.zero_mul,Nat.add_zero,Nat.add_zero,Nat.mod_mod]
    rw [e]
    have:(gD (O % H ^ k) k).getD q 0=(gD O k).getD q 0:=by rw [am3]
    rwa [acg (by omega),acg (by omega)] at this
  · rw [if_neg h]
theorem als{O a m k n i:Nat}(h:k+i < n) :(Qw O a m k n i).set (k+i) (((O / H ^ (k+i) % H+a / H ^ i % H * m+n4 O a m k i / H ^ (k+i)) % H:Nat):Int)=Qw O a m k n (i+1):=by
  unfold Qw
  rw [xc h]
  refine dw fun q hq=>?_
  have hS:=Nat.mod_lt (n4 O a m k i) (xz (k+i))
  obtain ⟨_,d2⟩:=Nl (t:=O / H ^ (k+i) % H+a / H ^ i % H * m+n4 O a m k i / H ^ (k+i)) hS
  rw [← ach] at d2
  have hl:=Gu hS (Nat.mod_lt (O / H ^ (k+i) % H+a / H ^ i % H * m+n4 O a m k i / H ^ (k+i)) (show H > 0 by decide)) q
  rw [← d2] at hl
  rw [← Nat.add_assoc k i 1]
  by_cases e:q=k+i
  · rw [if_pos e] at hl ⊢
    rw [if_pos (by omega),hl]
  · rw [if_neg e] at hl ⊢
    by_cases r:q < k+i
    · rw [if_pos r,if_pos (by omega),hl]
    · rw [if_neg r,if_neg (by omega)]
theorem am6{O a m k n:Nat}(hO:O < H ^ (k+n))(ha:a < H ^ n) :n4 O a m k n=O+a * m * H ^ k:=by
  unfold n4;rw [Nat.mod_eq_of_lt hO,Nat.mod_eq_of_lt ha]
theorem am7{O a m k n N:Nat}(hO:O < H ^ (k+n)) :Qw O a m k N n=gD (n4 O a m k n % H ^ (k+n)) N:=by
  refine dw fun q hq=>?_
  by_cases h:q < k+n
  · rw [if_pos h]
  · rw [if_neg h,UY (Nat.lt_of_lt_of_le hO (Nat.pow_le_pow_right (by decide) (by omega))),UY (Nat.lt_of_lt_of_le (Nat.mod_lt _ (xz _)) (Nat.pow_le_pow_right (by decide) (by omega)))]
theorem alu{u x j:Nat}(hu:u < H ^ j)(hx:x < H) :gD u j ++ [(x:Int)]=gD (u+x * H ^ j) (j+1):=by
  show _=kq _ (j+1)
  simp only [kq]
  rw [Gu hu hx,if_pos rfl]
  congr 1
  refine dw fun i hi=>?_
  rw [Gu hu hx,if_neg (by omega)]
theorem H2(i:Nat) :W ^ i=H ^ (2 * i):=by rw [Nat.pow_mul,show H ^ 2=W by decide]
theorem ami(v i:Nat) :v / W ^ i % W % H=v / H ^ (2 * i) % H:=by
  rw [H2,show W=H * H by decide,Nat.mod_mul_right_mod]
theorem amj(v i:Nat) :v / W ^ i % W / H=v / H ^ (2 * i+1) % H:=by
  rw [H2,show W=H * H by decide,Nat.mod_mul_right_div_self,Nat.div_div_eq_div_mul,Nat.pow_succ]
theorem ajB(v i:Nat) :v / W ^ i % W=v / H ^ (2 * i) % H+v / H ^ (2 * i+1) % H * H:=by
  rw [← ami,← amj,Nat.mul_comm];exact (Nat.mod_add_div _ _).symm
end Go.Plb
namespace Go.Plb.Seat
open Go Go.Plb
set_option linter.unusedSimpArgs false
set_option linter.unusedVariables false
theorem Ip{v n m:Nat}(h:m≤n) :List.take m (aC v n)=aC v m:=by
  have:=ch (v:=v) h
  rwa [NC,List.drop_zero] at this
theorem Am{v n:Nat}(h:v < W ^ n)(hn:n≤1000000) :cY (aC v n)=some (.r0 (nl v) (aC v (nl v))):=by
  have hl:=ju h
  refine aY (ag rfl (ag (a:=((nl v:Nat):Int)) (cD (fun j=>((n - j:Nat):Int)) (n - nl v) (by simp only [au];rfl) (fun j hj=>?_) ?_) ?_))
  · show aH (qh _ _).run _=_
    have e:Int.toNat (((n - j:Nat):Int) - 1)=n - (j+1):=by omega
    have z:(aC v n).getD (n - (j+1)) 0=0:=by
      rw [cN h]
      exact FS (Nat.lt_of_lt_of_le (cZ v) (Nat.pow_le_pow_right (by decide) (by omega)))
    refine ag (a:=true) ?_ ?_
    · unfold qh
      rw [e,z,au]
      exact cS (ao (ao (ao rfl)))
    · unfold Er
      refine aX (ao ?_)
      show some (Sum.inl _)=_
      congr 2;omega
  · have e0:n - (n - nl v)=nl v:=by omega
    show aH (qh _ _).run _=_
    rw [e0]
    by_cases h0:v=0
    · have z:=lW.2 h0
      rw [z]
      exact ag (a:=false) (aK rfl) (aK rfl)
    · have hp:=B4 h0
      have e:Int.toNat (((nl v:Nat):Int) - 1)=nl v - 1:=by omega
      refine ag (a:=false) ?_ (aK rfl)
      unfold qh
      rw [e,cN h,au]
      refine cS (ao (ao (ao ?_)))
      show some (Sum.inl _)=_
      congr 2
      rw [beq_eq_false_iff_ne];exact af4 h0
  · unfold Et
    rw [au,cH,Ip hl]
    exact ao (ao (ao (ao (ao rfl))))
theorem am8{v n:Nat}(h:v < W ^ n)(hn:n≤1000000)(hv:nl v≤4096) :xo (aC v n)=some (.r0 true):=by
  have hl:=ju h
  refine aY (ag rfl (ag (a:=((nl v:Nat):Int)) (cD (fun j=>((n - j:Nat):Int)) (n - nl v) (by simp only [au];rfl) (fun j hj=>?_) ?_) ?_))
  · show aH (sF _ _).run _=_
    have e:Int.toNat (((n - j:Nat):Int) - 1)=n - (j+1):=by omega
    have z:(aC v n).getD (n - (j+1)) 0=0:=by
      rw [cN h]
      exact FS (Nat.lt_of_lt_of_le (cZ v) (Nat.pow_le_pow_right (by decide) (by omega)))
    refine ag (a:=true) ?_ ?_
    · unfold sF
      rw [e,z,au]
      exact cS (ao (ao (ao rfl)))
    · unfold Hh
      refine aX (ao ?_)
      show some (Sum.inl _)=_
      congr 2;omega
  · have e0:n - (n - nl v)=nl v:=by omega
    show aH (sF _ _).run _=_
    rw [e0]
    by_cases h0:v=0
    · have z:=lW.2 h0
      rw [z]
      exact ag (a:=false) (aK rfl) (aK rfl)
    · have hp:=B4 h0
      have e:Int.toNat (((nl v:Nat):Int) - 1)=nl v - 1:=by omega
      refine ag (a:=false) ?_ (aK rfl)
      unfold sF
      rw [e,cN h,au]
      refine cS (ao (ao (ao ?_)))
      show some (Sum.inl _)=_
      congr 2
      rw [beq_eq_false_iff_ne];exact af4 h0
  · show some (Sum.inr (jf.r0 (decide (((nl v:Nat):Int)≤4096))))=_
    rw [decide_eq_true (by omega)]
theorem amk(x:Nat) :Int.tmod (x:Int) (4294967296:Int)=((x % 4294967296:Nat):Int):=rfl
theorem aml(x:Nat) :Int.tdiv (x:Int) (4294967296:Int)=((x / 4294967296:Nat):Int):=rfl
theorem Kf{v n m:Nat}(h:m≤n) :List.take m (gD v n)=gD v m:=by
  have:=am2 (v:=v) h
  rwa [NC,List.drop_zero] at this
theorem Kg(v n:Nat) :v % H ^ n < H ^ n:=Nat.mod_lt _ (xz n)
theorem Iq{v n:Nat}(h:v < W ^ n)(hn:n≤100000) :dn (aC v n)=some (.r0 (2 * n) (2 * n) (gD v (2 * n))):=by
  refine aY (ag rfl (ag (a:=(2 * n,2 * n,gD v (2 * n))) (cD (fun i=>(2 * i,2 * i,i,gD v (2 * i))) n rfl (fun i hi=>?_) ?_) rfl))
  · show (vh _ _ _ _ _).run=_
    unfold vh
    have e1:gD v (2 * (i+1))=gD v (2 * i) ++ [((v / H ^ (2 * i) % H:Nat):Int),((v / H ^ (2 * i+1) % H:Nat):Int)]:=by
      show kq _ (2 * i+1+1)=_
      simp only [kq,gD,Gv,List.append_assoc];rfl
    rw [cN h,xT,au,eL,amk,aml]
    have hlt:v / W ^ i % W / 4294967296 < W:=Nat.lt_of_le_of_lt (Nat.div_le_self _ _) (Nat.mod_lt _ (by decide))
    rw [kt hlt,Kf (Nat.le_refl _)]
    have w1:v / W ^ i % W % 4294967296=v / H ^ (2 * i) % H:=ami v i
    have w2:v / W ^ i % W / 4294967296=v / H ^ (2 * i+1) % H:=amj v i
    rw [w1,w2]
    refine cS (ao (ao (ae (ao (ao (ae (ao (ao (ae (ao (ao ?_)))))))))))
    show some (Sum.inl (2 * i+2,2 * i+2,i+1,gD v (2 * i) ++ [((v / H ^ (2 * i) % H:Nat):Int),((v / H ^ (2 * i+1) % H:Nat):Int)]))=_
    rw [← e1];rfl
  · show (vh _ _ _ _ _).run=_
    exact cy (by rw [au];exact (by simp only [dh,CM,D2,p8,qT,im,qU,qV,decide_eq_true_eq,decide_eq_false_iff_not,beq_iff_eq,beq_eq_false_iff_ne,bne_iff_ne,bne_eq_false_iff_eq,Bool.not_eq_true',Bool.not_eq_false',List.length_set,ne_eq,ge_iff_le,gt_iff_lt,ma,cH,zr];omega)) rfl
theorem RJ{v n i:Nat}(h:v < H ^ n) :d8 (gD v n) (i:Int)=some (.r0 ((v / H ^ i % H:Nat):Int)):=by
  refine aY ?_
  unfold Eu
  rw [eL,Al h,Gv]
  by_cases hi:i < n
  · exact cS (ao (ao rfl))
  · have:v / H ^ i % H=0:=by rw [Nat.div_eq_of_lt (Nat.lt_of_lt_of_le h (Nat.pow_le_pow_right (by decide) (by omega)))];rfl
    rw [this]
    exact dr rfl
theorem V1{v m:Nat}(h:v < H ^ m)(hm:m≤200000) :fQ (gD v m)=some (.r0 (aC v (nl v)) (nl v)):=by
  have hW:v < W ^ ((m+1) / 2):=by
    rw [H2];exact Nat.lt_of_lt_of_le h (Nat.pow_le_pow_right (by decide) (by omega))
  refine aY (ag rfl (ag (a:=((m+1) / 2,(m+1) / 2,aC v ((m+1) / 2))) (cD (fun j=>(j,j,2 * j,aC v j)) ((m+1) / 2) rfl (fun j hj=>?_) ?_) (ag (a:=(aC v (nl v),nl v)) ?_ rfl)))
  · show aH (tn _ _ _ _ _).run _=_
    have e1:aC v (j+1)=aC v j ++ [((v / W ^ j % W:Nat):Int)]:=rfl
    refine ag (a:=(j+1,aC v (j+1))) ?_ (ao rfl)
    unfold tn
    rw [Al h,Al h,Gv,Gv,eL,au,Ip (Nat.le_refl _)]
    have lo:=Nat.mod_lt (v / H ^ (2 * j)) (show H > 0 by decide)
    have hi:=Nat.mod_lt (v / H ^ (2 * j+1)) (show H > 0 by decide)
    have hb:=ajB v j
    have hlt:v / W ^ j % W < W:=Nat.mod_lt _ (by decide)
    by_cases hlast:2 * j+1 < m
    · have w1:IntKind.u64.wrap (((v / H ^ (2 * j+1) % H:Nat):Int) * (4294967296:Int))=((v / H ^ (2 * j+1) % H * H:Nat):Int):=by
        rw [show (4294967296:Int)=((H:Nat):Int) from rfl,BH,Nat.mod_eq_of_lt (by omega)]
      rw [w1,qa,← hb,Nat.mod_eq_of_lt hlt]
      exact cS (ao (ao (ao (cS (ao (ao (ao (ao (ao (ae (ao rfl)))))))))))
    · have z:v / H ^ (2 * j+1) % H=0:=by
        rw [Nat.div_eq_of_lt (Nat.lt_of_lt_of_le h (Nat.pow_le_pow_right (by decide) (by omega)))];rfl
      rw [z,Nat.zero_mul,Nat.add_zero] at hb
      rw [← hb]
      exact cS (ao (ao (ao (dr (ao (ao (ae (ao rfl))))))))
  · show aH (tn _ _ _ _ _).run _=_
    exact bK (cy (by rw [eL];exact (by simp only [dh,CM,D2,p8,qT,im,qU,qV,decide_eq_true_eq,decide_eq_false_iff_not,beq_iff_eq,beq_eq_false_iff_ne,bne_iff_ne,bne_eq_false_iff_eq,Bool.not_eq_true',Bool.not_eq_false',List.length_set,ne_eq,ge_iff_le,gt_iff_lt,ma,cH,zr];omega)) rfl)
  · show (yg _ _).run=_
    unfold yg
    rw [bQ au,Am hW (by omega)]
    exact dY (ae rfl)
theorem am9{a b n m:Nat}(ha:a < W ^ n)(hb:b < W ^ m)(hn:n≤10000)(hm:m≤10000) :d6 (aC a n) (aC b m)=some (.r0 (aC (a+b) (nl (a+b))) (nl (a+b))):=by
  have ha':a < H ^ (2 * n):=by rw [← H2];exact ha
  have hb':b < H ^ (2 * m):=by rw [← H2];exact hb
  have hg:max (2 * n) (2 * m)≤20000:=by omega
  have hgn:2 * n≤max (2 * n) (2 * m):=Nat.le_max_left _ _
  have hgm:2 * m≤max (2 * n) (2 * m):=Nat.le_max_right _ _
  have hgx:∀ j,j < max (2 * n) (2 * m)→j < 2 * n∨j < 2 * m:=fun j hj=>by omega
  revert hg hgn hgm hgx
  generalize max (2 * n) (2 * m)=g
  intro hg hgn hgm hgx
  have ha2:a < H ^ g:=Nat.lt_of_lt_of_le ha' (Nat.pow_le_pow_right (by decide) hgn)
  have hb2:b < H ^ g:=Nat.lt_of_lt_of_le hb' (Nat.pow_le_pow_right (by decide) hgm)
  have hs:tQ a b g=a+b:=by unfold tQ;rw [Nat.mod_eq_of_lt ha2,Nat.mod_eq_of_lt hb2]
  have hc:=Yh (x:=a) (y:=b) (j:=g)
  rw [hs] at hc
  have hpush:=alu (u:=(a+b) % H ^ g) (x:=(a+b) / H ^ g) (j:=g) (Kg _ _) (Nat.lt_of_le_of_lt hc (by decide))
  have hv:(a+b) % H ^ g+(a+b) / H ^ g * H ^ g=a+b:=by rw [Nat.mul_comm];exact Nat.mod_add_div _ _
  rw [hv] at hpush
  have hlt:a+b < H ^ (g+1):=by
    rw [Nat.pow_succ]
    have:H ^ g * 2≤H ^ g * H:=Nat.mul_le_mul_left _ (by decide)
    omega
  refine aY (ag (a:=(gD a (2 * n),2 * n,gD b (2 * m),2 * m)) ?_ (ag rfl (ag (a:=(g,g,(((a+b) / H ^ g:Nat):Int),gD ((a+b) % H ^ g) g)) (cD (fun j=>(j,j,((tQ a b j / H ^ j:Nat):Int),j,gD (tQ a b j % H ^ j) j)) g (by simp [tQ,Nat.mod_one];rfl) (fun j hj=>?_) ?_) (ag (a:=(aC (a+b) (nl (a+b)),nl (a+b))) ?_ rfl))))
  · unfold G2
    rw [aq,aq,Iq ha (by omega),Iq hb (by omega)]
    exact aG (ae (aG (ae rfl)))
  · have hcj:=Yh (x:=a) (y:=b) (j:=j)
    have hS:=Kg (tQ a b j) j
    have hst:=alq a b j
    obtain ⟨d1,d2⟩:=Nl (t:=a / H ^ j % H+b / H ^ j % H+tQ a b j / H ^ j) hS
    rw [← hst] at d1 d2
    have hp:=alu hS (Nat.mod_lt (a / H ^ j % H+b / H ^ j % H+tQ a b j / H ^ j) (show H > 0 by decide))
    rw [← d2] at hp
    have l1:a / H ^ j % H < 4294967296:=Nat.mod_lt _ (show H > 0 by decide)
    have l2:b / H ^ j % H < 4294967296:=Nat.mod_lt _ (show H > 0 by decide)
    have hW:W=18446744073709551616:=rfl
    show aH (so _ _ _).run _=_
    refine ag (a:=true) ?_ (ag (a:=(j+1,((tQ a b (j+1) / H ^ (j+1):Nat):Int),gD (tQ a b (j+1) % H ^ (j+1)) (j+1))) ?_ (ao rfl))
    · unfold so
      rcases hgx j hj with q | q
      · exact cS rfl
      · by_cases p:j < 2 * n
        · exact cS rfl
        · refine dr ?_
          show some (Sum.inl (decide _))=_
          rw [decide_eq_true (by omega)]
    · show (AL _ _ _ _ _ _ _ _ _ _).run=_
      unfold AL
      rw [bQ eL,bQ eL,RJ ha',RJ hb']
      simp only [lD,dR]
      rw [qa,qa,Nat.mod_eq_of_lt (by omega:a / H ^ j % H+b / H ^ j % H < W),Nat.mod_eq_of_lt (by omega),amk,aml,eL,Kf (Nat.le_refl _)]
      rw [kt (by omega)]
      have d1':(a / H ^ j % H+b / H ^ j % H+tQ a b j / H ^ j) / 4294967296=tQ a b (j+1) / H ^ (j+1):=d1.symm
      rw [d1']
      refine aX (di (JO eL) (ae (di (JO eL) (ae (ae (ao (ao (ae (ao (ae ?_))))))))))
      show some (Sum.inl (j+1,((tQ a b (j+1) / H ^ (j+1):Nat):Int),gD (tQ a b j % H ^ j) j ++ [(((a / H ^ j % H+b / H ^ j % H+tQ a b j / H ^ j) % H:Nat):Int)]))=_
      rw [hp]
  · show aH (so _ _ _).run _=_
    refine ag (a:=false) ?_ (bK (aK (by rw [hs];rfl)))
    unfold so
    refine dr ?_
    show some (Sum.inl (decide _))=_
    rw [decide_eq_false (by omega)]
  · show (AM _ _ _).run=_
    unfold AM
    have et:List.take 1 [(((a+b) / H ^ g:Nat):Int)] = [(((a+b) / H ^ g:Nat):Int)]:=rfl
    rw [Kf (Nat.le_refl _),et,hpush,bQ eL,V1 hlt (by omega),eL]
    exact ao (ao (ae (ao (di (JO eL) (ae rfl)))))
theorem aff{a b n m:Nat}(ha:a < W ^ n)(hb:b < W ^ m)(hn:n≤10000)(hm:m≤10000)(hle:b≤a) :bT (aC a n) (aC b m)=some (.r0 (aC (a - b) (nl (a - b))) (nl (a - b))):=by
  have ha':a < H ^ (2 * n):=by rw [← H2];exact ha
  have hb':b < H ^ (2 * m):=by rw [← H2];exact hb
  have hd:Gw a b (2 * n)=a - b:=by
    unfold Gw xD
    rw [Nat.mod_eq_of_lt ha',Nat.mod_eq_of_lt (Nat.lt_of_le_of_lt hle ha'),if_neg (by omega),Nat.zero_mul,Nat.add_zero]
  have b0:xD a b 0=0:=by unfold xD;rw [Nat.pow_zero,Nat.mod_one,Nat.mod_one];rfl
  have hlt:a - b < H ^ (2 * n):=Nat.lt_of_le_of_lt (Nat.sub_le _ _) ha'
  refine aY (ag (a:=(gD a (2 * n),2 * n,gD b (2 * m),2 * m)) ?_ (ag rfl (ag (a:=(2 * n,2 * n,gD (a - b) (2 * n))) (cD (fun j=>(j,j,((xD a b j:Nat):Int),j,gD (Gw a b j) j)) (2 * n) (by rw [b0];rfl) (fun j hj=>?_) ?_) (ag (a:=(aC (a - b) (nl (a - b)),nl (a - b))) ?_ rfl))))
  · unfold G4
    rw [aq,aq,Iq ha (by omega),Iq hb (by omega)]
    exact aG (ae (aG (ae rfl)))
  · have hbr:xD a b j≤1:=by unfold xD;split <;> omega
    have hD:=(ajz (a:=a) (b:=b) (j:=j)).1
    obtain ⟨s1,s2⟩:=am4 a b j
    have l1:a / H ^ j % H < 4294967296:=Nat.mod_lt _ (show H > 0 by decide)
    have l2:b / H ^ j % H < 4294967296:=Nat.mod_lt _ (show H > 0 by decide)
    have hp:=alu hD (Nat.mod_lt (a / H ^ j % H+H - b / H ^ j % H - xD a b j) (show H > 0 by decide))
    rw [← s2] at hp
    have eH:H=4294967296:=rfl
    have q1:(4294967296:Int)+((a / H ^ j % H:Nat):Int)=((4294967296+a / H ^ j % H:Nat):Int):=by omega
    have q2:((4294967296+a / H ^ j % H:Nat):Int) - ((b / H ^ j % H:Nat):Int)=((4294967296+a / H ^ j % H - b / H ^ j % H:Nat):Int):=by omega
    have q3:((4294967296+a / H ^ j % H - b / H ^ j % H:Nat):Int) - ((xD a b j:Nat):Int)=((a / H ^ j % H+H - b / H ^ j % H - xD a b j:Nat):Int):=by omega
    have hW:W=18446744073709551616:=rfl
    have q4:(1:Int) - (((a / H ^ j % H+H - b / H ^ j % H - xD a b j) / 4294967296:Nat):Int)=((xD a b (j+1):Nat):Int):=by
      rw [s1];split <;> omega
    have hb1:xD a b (j+1) < W:=by unfold xD;split <;> decide
    show aH (vl _ _ _ _ _ _ _ _ _).run _=_
    refine ag (a:=(j+1,((xD a b (j+1):Nat):Int),gD (Gw a b (j+1)) (j+1))) ?_ (ao rfl)
    unfold vl
    rw [bQ eL,RJ hb',Al ha',Gv]
    simp only [lD,dR]
    rw [q1,kt (by omega),q2,kt (by omega),q3,kt (by omega),amk,aml,kt (by omega),q4,kt hb1,eL,eL,Kf (Nat.le_refl _)]
    refine cS (ao (ao (di (JO eL) (ae (ae (ao (ao (ae (ao (ae ?_))))))))))
    show some (Sum.inl (j+1,((xD a b (j+1):Nat):Int),gD (Gw a b j) j ++ [(((a / H ^ j % H+H - b / H ^ j % H - xD a b j) % H:Nat):Int)]))=_
    rw [hp]
  · show aH (vl _ _ _ _ _ _ _ _ _).run _=_
    exact bK (dr (by rw [hd];rfl))
  · show (AN _ _).run=_
    unfold AN
    rw [bQ eL,V1 hlt (by omega)]
    exact di (JO eL) (ae rfl)
end Go.Plb.Seat
namespace Go.Plb.Seat
open Go Go.Plb
set_option linter.unusedSimpArgs false
set_option linter.unusedVariables false
theorem ana{a b n m:Nat}(ha:a < W ^ n)(hb:b < W ^ m)(hn:n≤10000)(hm:m≤10000) :xn (aC a n) (aC b m)=some (.r0 (rM a b)):=by
  have la:=ju ha
  have lb:=ju hb
  refine aY (ag (a:=(aC a (nl a),nl a,aC b (nl b),nl b)) ?_ ?_)
  · unfold JC
    rw [aq,aq,Am ha (by omega),Am hb (by omega)]
    exact aG (ae (aG (ae rfl)))
  by_cases h1:nl a < nl b
  · have:rM a b = -1:=by unfold rM;rw [if_pos (Sj h1)]
    rw [this]
    exact bK (cS (cS rfl))
  by_cases h2:nl b < nl a
  · have hlt:=Sj h2
    have:rM a b=1:=by unfold rM;rw [if_neg (by omega),if_pos hlt]
    rw [this]
    exact bK (cS (dr rfl))
  have hn':nl b=nl a:=by omega
  have hA:=cZ a
  have hB:=cZ b
  have hk:nl a≤10000:=by omega
  rw [hn'] at hB ⊢
  clear la lb h1 h2 hn'
  generalize nl a=n at *
  refine ag (a:=((n:Int) - 1)) (cy (by simp) (ao rfl)) ?_
  have step:∀ j,j < n→lm a (n - 1 - j)=lm b (n - 1 - j)→A2 (aC a n) n (aC b n) n ((n:Int) - 1 - j)=some (.inl ((n:Int) - 1 - (j+1:Nat))):=by
    intro j hj he
    show (sE _ _ _ _ _).run=_
    unfold sE
    have e:Int.toNat ((n:Int) - 1 - (j:Int))=n - 1 - j:=by omega
    rw [e,cN hA,cN hB,au,au,he]
    refine cS (ao (ao (ao (ao (cy (by simp) (ao (ao (ao (ao (cy (by simp) (ao ?_)))))))))))
    show some (Sum.inl _)=_
    congr 2;omega
  by_cases hall:∀ j,j < n→lm a (n - 1 - j)=lm b (n - 1 - j)
  · have hab:a=b:=by
      have:=K9 hA hB (d:=n) (Nat.le_refl _) fun k _ h2=>by
        have:=hall (n - 1 - k) (by omega)
        rwa [show n - 1 - (n - 1 - k)=k by omega] at this
      simpa using this
    subst hab
    have:rM a a=0:=by unfold rM;rw [if_neg (Nat.lt_irrefl _),if_neg (Nat.lt_irrefl _)]
    rw [this]
    exact ag (cD (fun j=>(n:Int) - 1 - (j:Nat)) n (by omega) (fun j hj=>step j hj (hall j hj)) (dr rfl)) rfl
  · obtain ⟨k,hk,hb',hf⟩:=DM hall
    have hup:a / W ^ (n - 1 - k+1)=b / W ^ (n - 1 - k+1):=by
      have:=K9 hA hB (d:=k) (by omega) fun i h1 h2=>by
        have:=hf (n - 1 - i) (by omega)
        rwa [show n - 1 - (n - 1 - i)=i by omega] at this
      rwa [show n - k=n - 1 - k+1 by omega] at this
    refine bK (cD (fun j=>(n:Int) - 1 - (j:Nat)) k (by omega) (fun j hj=>step j (by omega) (hf j hj)) ?_)
    show (sE _ _ _ _ _).run=_
    unfold sE
    have e:Int.toNat ((n:Int) - 1 - (k:Int))=n - 1 - k:=by omega
    rw [e,cN hA,cN hB,au,au]
    refine cS (ao (ao (ao (ao ?_))))
    by_cases hlt:lm a (n - 1 - k) < lm b (n - 1 - k)
    · have:=IJ hup hlt
      have:rM a b = -1:=by unfold rM;rw [if_pos this]
      rw [this]
      exact lU (decide_eq_true hlt) rfl
    · have hgt:lm b (n - 1 - k) < lm a (n - 1 - k):=by omega
      have hlt':=IJ hup.symm hgt
      have:rM a b=1:=by unfold rM;rw [if_neg (by omega),if_pos hlt']
      rw [this]
      exact cy (decide_eq_false hlt) (ao (ao (ao (ao (lU (decide_eq_true hgt) rfl)))))
theorem aci{a b n m:Nat}(ha:a < H ^ n)(hb:b < H ^ m) :a * b < H ^ (n+m):=by
  rw [Nat.pow_add]
  rcases Nat.eq_zero_or_pos b with h | h
  · rw [h,Nat.mul_zero];exact Nat.mul_pos (xz _) (xz _)
  · exact Nat.mul_lt_mul_of_lt_of_le ha (Nat.le_of_lt hb) (xz _)
theorem anb{x y c o:Nat}(hx:x < H)(hy:y < H)(hc:c≤x)(ho:o < H) :o+x * y+c < W:=by
  have hp:x * y≤4294967295 * 4294967295:=Nat.mul_le_mul (by have:x < 4294967296:=hx;omega) (by have:y < 4294967296:=hy;omega)
  have h1:x < 4294967296:=hx
  have h2:o < 4294967296:=ho
  show _ < 18446744073709551616
  omega
theorem afg{a b n m:Nat}(ha:a < W ^ n)(hb:b < W ^ m)(hn:n≤10000)(hm:m≤10000) :dA (aC a n) (aC b m)=some (.r0 (aC (a * b) (nl (a * b))) (nl (a * b))):=by
  have ha':a < H ^ (2 * n):=by rw [← H2];exact ha
  have hb':b < H ^ (2 * m):=by rw [← H2];exact hb
  have hab:=aci ha' hb'
  have hab1:a * b < H ^ (2 * n+2 * m+1):=Nat.lt_of_lt_of_le hab (Nat.pow_le_pow_right (by decide) (by omega))
  refine aY (ag (a:=(gD a (2 * n),2 * n,gD b (2 * m),2 * m)) ?_ (ag (a:=(2 * n+2 * m+1,gD 0 (2 * n+2 * m+1))) ?_ (ag (a:=gD (a * b) (2 * n+2 * m+1)) (cD (fun i=>(i,gD (a % H ^ i * b) (2 * n+2 * m+1))) (2 * n) (by simp [Nat.mod_one]) (fun i hi=>?_) ?_) (ag (a:=(aC (a * b) (nl (a * b)),nl (a * b))) ?_ rfl))))
  · unfold G7
    rw [aq,aq,Iq ha (by omega),Iq hb (by omega)]
    exact aG (ae (aG (ae rfl)))
  · show (AO _ _).run=_
    unfold AO
    rw [alp]
    exact ao (ao (ao (ao (ao (ao rfl)))))
  · have hO:a % H ^ i * b < H ^ (i+2 * m):=aci (Kg _ _) hb'
    have lx:=Nat.mod_lt (a / H ^ i) (show H > 0 by decide)
    have e2:a % H ^ i * b+b * (a / H ^ i % H) * H ^ i=a % H ^ (i+1) * b:=by rw [xA,Nat.add_mul,Nat.mul_comm b,Nat.mul_right_comm]
    have hA:=am6 (O:=a % H ^ i * b) (a:=b) (m:=a / H ^ i % H) (k:=i) hO hb'
    have hL:=am7 (O:=a % H ^ i * b) (a:=b) (m:=a / H ^ i % H) (k:=i) (N:=2 * n+2 * m+1) hO
    rw [e2] at hA
    rw [hA] at hL
    show aH (AP _ _ _).run _=_
    refine ag (a:=()) (cS rfl) (ag (a:=gD (a % H ^ (i+1) * b) (2 * n+2 * m+1)) (K7 (ag rfl (ag (a:=(((a % H ^ (i+1) * b / H ^ (i+2 * m):Nat):Int),gD (a % H ^ (i+1) * b % H ^ (i+2 * m)) (2 * n+2 * m+1))) ?_ ?_))) (ao rfl))
    · have c0:n4 (a % H ^ i * b) b (a / H ^ i % H) i 0 / H ^ (i+0)=0:=by
        have e:n4 (a % H ^ i * b) b (a / H ^ i % H) i 0=a % H ^ i * b % H ^ i:=by unfold n4;rw [Nat.pow_zero,Nat.mod_one,Nat.zero_mul,Nat.zero_mul,Nat.add_zero,Nat.add_zero]
        rw [e,Nat.add_zero,Nat.div_eq_of_lt (Kg _ _)]
      refine cD (fun k=>(((n4 (a % H ^ i * b) b (a / H ^ i % H) i k / H ^ (i+k):Nat):Int),k,Qw (a % H ^ i * b) b (a / H ^ i % H) i (2 * n+2 * m+1) k)) (2 * m) (by rw [c0,alr];rfl) (fun k hk=>?_) ?_
      · have hc:=ajA (O:=a % H ^ i * b) (a:=b) (m:=a / H ^ i % H) (k:=i) (i:=k)
        have ly:=Nat.mod_lt (b / H ^ k) (show H > 0 by decide)
        have lO:=Nat.mod_lt (a % H ^ i * b / H ^ (i+k)) (show H > 0 by decide)
        have hl:=am5 (O:=a % H ^ i * b) (a:=b) (m:=a / H ^ i % H) (k:=i) (n:=2 * n+2 * m+1) (i:=k)
        have hat:=aoL (O:=a % H ^ i * b) (a:=b) (m:=a / H ^ i % H) (k:=i) (n:=2 * n+2 * m+1) (i:=k) (by omega)
        have hst:=als (O:=a % H ^ i * b) (a:=b) (m:=a / H ^ i % H) (k:=i) (n:=2 * n+2 * m+1) (i:=k) (by omega)
        have hw:=anb (x:=a / H ^ i % H) (y:=b / H ^ k % H) (c:=n4 (a % H ^ i * b) b (a / H ^ i % H) i k / H ^ (i+k)) (o:=a % H ^ i * b / H ^ (i+k) % H) lx ly hc lO
        have hS:=Kg (n4 (a % H ^ i * b) b (a / H ^ i % H) i k) (i+k)
        obtain ⟨d1,_⟩:=Nl (t:=a % H ^ i * b / H ^ (i+k) % H+b / H ^ k % H * (a / H ^ i % H)+n4 (a % H ^ i * b) b (a / H ^ i % H) i k / H ^ (i+k)) hS
        rw [← ach] at d1
        rw [Nat.mul_comm (a / H ^ i % H)] at hw
        show (vn _ _ _ _ _ _ _ _ _).run=_
        unfold vn
        rw [hat,Gv,Al ha',Al hb',Gv,Gv,hl,eL,eL,BH,Nat.mul_comm (a / H ^ i % H),Nat.mod_eq_of_lt (Nat.lt_of_le_of_lt (Nat.le_trans (Nat.le_add_left _ _) (Nat.le_add_right _ _)) hw:b / H ^ k % H * (a / H ^ i % H) < W),qa,Nat.mod_eq_of_lt (Nat.lt_of_le_of_lt (Nat.le_add_right _ _) hw:a % H ^ i * b / H ^ (i+k) % H+b / H ^ k % H * (a / H ^ i % H) < W),qa,Nat.mod_eq_of_lt hw,amk,aml,kt (Nat.lt_of_le_of_lt (Nat.div_le_self _ _) hw)]
        have d1':(a % H ^ i * b / H ^ (i+k) % H+b / H ^ k % H * (a / H ^ i % H)+n4 (a % H ^ i * b) b (a / H ^ i % H) i k / H ^ (i+k)) / 4294967296=n4 (a % H ^ i * b) b (a / H ^ i % H) i (k+1) / H ^ (i+(k+1)):=d1.symm
        have hst':(Qw (a % H ^ i * b) b (a / H ^ i % H) i (2 * n+2 * m+1) k).set (i+k) (((a % H ^ i * b / H ^ (i+k) % H+b / H ^ k % H * (a / H ^ i % H)+n4 (a % H ^ i * b) b (a / H ^ i % H) i k / H ^ (i+k)) % 4294967296:Nat):Int)=_:=hst
        rw [d1',hst']
        exact cS (ao (ao (ao (ao (ao (ao (ao (ao (ae (ao (ao (ae (ao rfl)))))))))))))
      · show (vn _ _ _ _ _ _ _ _ _).run=_
        refine cy (by rw [decide_eq_false_iff_not];omega) ?_
        rw [hL,hA];rfl
    · have hO1:a % H ^ (i+1) * b < H ^ (i+1+2 * m):=aci (Kg _ _) hb'
      have hcar:a % H ^ (i+1) * b / H ^ (i+2 * m) < H:=by
        refine Nat.div_lt_of_lt_mul ?_
        rw [← Nat.pow_succ,show (i+2 * m).succ=i+1+2 * m by omega];exact hO1
      have ij:=aek (u:=a % H ^ (i+1) * b % H ^ (i+2 * m)) (x:=a % H ^ (i+1) * b / H ^ (i+2 * m)) (j:=i+2 * m) (n:=2 * n+2 * m+1) (Kg _ _) hcar (by omega)
      have hv:a % H ^ (i+1) * b % H ^ (i+2 * m)+a % H ^ (i+1) * b / H ^ (i+2 * m) * H ^ (i+2 * m)=a % H ^ (i+1) * b:=by rw [Nat.mul_comm (a % H ^ (i+1) * b / H ^ (i+2 * m))];exact Nat.mod_add_div _ _
      rw [hv] at ij
      show (AR _ _ _ _ _).run=_
      unfold AR
      rw [ij,eL]
      exact ao (ao (ao rfl))
  · show aH (AP _ _ _).run _=_
    refine bK (cy (by rw [decide_eq_false_iff_not];omega) ?_)
    rw [Nat.mod_eq_of_lt ha'];rfl
  · unfold Ha
    rw [bQ eL,V1 hab1 (by omega)]
    exact di (JO eL) (ae rfl)
theorem alv{k:Nat}(hk:k≤1000000) :fR (k:Int)=some (.r0 (k / 64+1) (aC (2 ^ k) (k / 64+1))):=by
  have hr:k % 64 < 64:=Nat.mod_lt _ (by decide)
  have ij:=xR (u:=0) (x:=2 ^ (k % 64)) (j:=k / 64) (n:=k / 64+1) (ia _) (DN hr) (by omega)
  rw [Nat.zero_add,← La] at ij
  have e1:((k / 64:Nat):Int)+(1:Int)=((k / 64+1:Nat):Int):=by omega
  have hp:2 ^ (k % 64) < W:=DN hr
  have e2:IntKind.u64.wrap ((1:Int) * 2 ^ (min (Int.toNat (((k % 64:Nat)):Int)) IntKind.u64.bits))=((2 ^ (k % 64):Nat):Int):=by
    rw [show (1:Int)=((1:Nat):Int) from rfl,Sl _ (by omega),Nat.one_mul,Nat.mod_eq_of_lt hp]
  refine aY ?_
  unfold Hb
  rw [VK,VL,e1,e2,cH,cH,H3,ij,au]
  exact ae (ao (ao (ao (ao (ao (ao (ae (ao (ae (ao (ao (ao rfl))))))))))))
theorem anc(k:Nat) :2 ^ k < W ^ (k / 64+1):=by
  rw [La,Nat.pow_succ,Nat.mul_comm]
  exact Nat.mul_lt_mul_of_pos_left (DN (Nat.mod_lt _ (by decide))) (ia _)
theorem afh{v n k:Nat}(hv:v < W ^ n)(hn:n≤10000)(hk:k≤600000) :je (aC v n) (k:Int)=some (.r0 (aC (v * 2 ^ k) (nl (v * 2 ^ k))) (nl (v * 2 ^ k))):=by
  refine aY (ag (a:=(aC (v * 2 ^ k) (nl (v * 2 ^ k)),nl (v * 2 ^ k))) ?_ rfl)
  unfold Jz
  rw [alv (by omega)]
  simp only [vo,l5,l6]
  rw [aq,bQ au,afg hv (anc k) hn (by omega)]
  exact ae (aG (dY (ae rfl)))
def bl(v:Nat) :Nat:=if v=0 then 0 else v.log2+1
theorem apn(v:Nat) :v < 2 ^ bl v∧∀ j,j < bl v→0 < v / 2 ^ j:=by
  unfold bl
  by_cases h:v=0
  · subst h;exact ⟨by decide,fun j hj=>absurd hj (by simp)⟩
  · rw [if_neg h]
    refine ⟨Nat.lt_log2_self,fun j hj=>?_⟩
    exact Nat.div_pos (Nat.le_trans (Nat.pow_le_pow_right (by decide) (by omega)) (Nat.log2_self_le h)) (mE j)
theorem acj{v n:Nat}(hv:v < W ^ n)(hn:n≤10000) :∃ b:Nat,pm (aC v n)=some (.r0 (b:Int))∧v < 2 ^ b∧b≤64 * nl v:=by
  have hl:=ju hv
  have t8:(AT (aC v n)).run=some (.inl (aC v (nl v),nl v)):=by
    unfold AT
    rw [aq,Am hv (by omega)]
    exact aG (ae rfl)
  by_cases h0:v=0
  · refine ⟨0,aY (ag t8 (bK ?_)),by rw [h0];decide,Nat.zero_le _⟩
    rw [h0,fE];exact aX rfl
  · have hp:=B4 h0
    obtain ⟨b1,b2⟩:=apn (v / W ^ (nl v - 1) % W)
    have hlt:v / W ^ (nl v - 1) % W < W:=Nat.mod_lt _ (by decide)
    have hb64:bl (v / W ^ (nl v - 1) % W)≤64:=by
      rcases Nat.lt_or_ge 64 (bl (v / W ^ (nl v - 1) % W)) with q | q
      · exfalso
        have:=b2 64 q
        have e:v / W ^ (nl v - 1) % W / 2 ^ 64=0:=Nat.div_eq_of_lt hlt
        omega
      · exact q
    have hdiv:v / W ^ (nl v - 1) % W=v / W ^ (nl v - 1):=by
      refine Nat.mod_eq_of_lt (Nat.div_lt_of_lt_mul ?_)
      rw [← Nat.pow_succ,show (nl v - 1).succ=nl v by omega];exact cZ v
    refine ⟨64 * (nl v - 1)+bl (v / W ^ (nl v - 1) % W),aY (ag t8 (ag (a:=(((64 * (nl v - 1):Nat):Int),((v / W ^ (nl v - 1) % W:Nat):Int))) ?_ (ag (a:=((64 * (nl v - 1)+bl (v / W ^ (nl v - 1) % W):Nat):Int)) (cD (fun j=>(((64 * (nl v - 1)+j:Nat):Int),((v / W ^ (nl v - 1) % W / 2 ^ j:Nat):Int))) (bl (v / W ^ (nl v - 1) % W)) (by simp) (fun j hj=>?_) ?_) rfl))),?_,by omega⟩
    · show (AU _ _).run=_
      unfold AU
      have e1:Int.toNat (((nl v:Nat):Int) - 1)=nl v - 1:=by omega
      have e2:(64:Int) * (((nl v:Nat):Int) - 1)=((64 * (nl v - 1):Nat):Int):=by omega
      rw [e1,e2,cN (cZ v),xT,au]
      exact dr (ao (ao (ao (ao (ao rfl)))))
    · show (tq _ _).run=_
      have hpos:=b2 j hj
      unfold tq
      have e1:((64 * (nl v - 1)+j:Nat):Int)+(1:Int)=((64 * (nl v - 1)+(j+1):Nat):Int):=by omega
      have e2:Int.tdiv ((v / W ^ (nl v - 1) % W / 2 ^ j:Nat):Int) (2:Int)=((v / W ^ (nl v - 1) % W / 2 ^ (j+1):Nat):Int):=by
        show ((v / W ^ (nl v - 1) % W / 2 ^ j / 2:Nat):Int)=_
        rw [Nat.pow_succ,Nat.div_div_eq_div_mul]
      rw [e1,e2,kt (Nat.lt_of_le_of_lt (Nat.div_le_self _ _) hlt)]
      exact cS (ao (ae rfl))
    · show (tq _ _).run=_
      have z:v / W ^ (nl v - 1) % W / 2 ^ bl (v / W ^ (nl v - 1) % W)=0:=Nat.div_eq_of_lt b1
      rw [z]
      exact aK rfl
    · have e:W ^ (nl v - 1)=2 ^ (64 * (nl v - 1)):=by rw [Nat.pow_mul]
      rw [Nat.pow_add,← e]
      rw [hdiv] at b1 ⊢
      have:=(Nat.div_lt_iff_lt_mul (ia (nl v - 1))).1 b1
      rw [Nat.mul_comm];exact this
theorem aoM(v i:Nat) :v / W ^ (i / 64) % W / 2 ^ (i % 64) % 2=v / 2 ^ i % 2:=by
  have hr:i % 64 < 64:=Nat.mod_lt _ (by decide)
  have e64:W=2 ^ (i % 64) * (2 * 2 ^ (63 - i % 64)):=by
    rw [← Nat.mul_assoc,← Nat.pow_succ,← Nat.pow_add];show 2 ^ 64=_;congr 1;omega
  rw [La i,Nat.mul_comm (2 ^ (i % 64)),← Nat.div_div_eq_div_mul]
  generalize v / W ^ (i / 64)=y
  rw [e64,Nat.mod_mul_right_div_self,Nat.mod_mul_right_mod]
theorem NM{v n i:Nat}(hv:v < W ^ n)(hn:n≤10000)(hi:i≤1000000) :m7 (aC v n) (i:Int)=some (.r0 (v / 2 ^ i % 2 == 1)):=by
  have hr:i % 64 < 64:=Nat.mod_lt _ (by decide)
  refine aY (ag (a:=(v / 2 ^ i % 2 == 1)) ?_ rfl)
  unfold JB
  rw [VK,VL,cH,cN hv,xT,FU _ (by omega),au]
  by_cases h:i / 64 < n
  · refine cS (ae (ao (cS (ae (ao (ao (ao (ae (ao (ae ?_))))))))))
    have e:Int.tmod ((v / W ^ (i / 64) % W / 2 ^ (i % 64):Nat):Int) (2:Int)=((v / W ^ (i / 64) % W / 2 ^ (i % 64) % 2:Nat):Int):=rfl
    rw [e,aoM]
    show some (Sum.inl _)=_
    congr 2
    rw [Bool.eq_iff_iff,beq_iff_eq,beq_iff_eq];omega
  · have z:v / 2 ^ i=0:=aiH hv (by omega)
    rw [z]
    exact cS (ae (ao (dr rfl)))
theorem ajC{v n:Nat}(hv:v < W ^ n)(hn:n≤10000)(h0:v ≠ 0) :sD (aC v n)=some (.r0 (tz v)):=by
  have hl:=ju hv
  obtain ⟨b,h1,h2,h3⟩:=acj hv hn
  have ht:=aeC h0 h2
  obtain ⟨z1,z2⟩:=FV v h0
  refine aY (ag (a:=(b:Int)) ?_ (ag rfl (bK (cD (fun i=>i) (tz v) rfl (fun j hj=>?_) ?_))))
  · unfold Cm
    rw [aq,h1]
    exact aG (ae rfl)
  · have z:v / 2 ^ j % 2=0:=by
      obtain ⟨d,hd⟩:∃ d,tz v=j+1+d:=⟨tz v - j - 1,by omega⟩
      obtain ⟨c,hc⟩:=Nat.dvd_of_mod_eq_zero z1
      have:v=(2 ^ d * c * 2) * 2 ^ j:=by
        rw [hd,Nat.pow_add,Nat.pow_succ] at hc
        rw [hc];simp only [Nat.mul_assoc,Nat.mul_comm,Nat.mul_left_comm]
      rw [this,Nat.mul_div_cancel _ (mE j),Nat.mul_mod_left]
    show aH (om _ _ _).run _=_
    refine ag (a:=()) ?_ (ao rfl)
    unfold om
    rw [aq,NM hv hn (by omega),z]
    exact cS (aG (ae (aK rfl)))
  · show aH (om _ _ _).run _=_
    refine bK ?_
    unfold om
    rw [aq,NM hv hn (by omega),z2]
    exact cS (aG (ae (aX rfl)))
theorem aoN(v k j:Nat) :v % 2 ^ (k+(j+1)) / 2 ^ k=v % 2 ^ (k+j) / 2 ^ k+v / 2 ^ (k+j) % 2 * 2 ^ j:=by
  rw [← Nat.add_assoc,Nat.pow_succ,Nat.mod_mul,Nat.pow_add,Nat.mul_assoc,Nat.add_mul_div_left _ _ (mE k),Nat.mul_comm (2 ^ j)]
theorem ane{v n k:Nat}(hv:v < W ^ n)(hn:n≤10000)(hk:k≤1000000) :
    ∃ b,po (aC v n) (k:Int)=some (.r0 (aC (v / 2 ^ k) (nl (v / 2 ^ k))) (nl (v / 2 ^ k)) b):=by
  have hl:=ju hv
  obtain ⟨b,h1,h2,h3⟩:=acj hv hn
  let f:Nat→Bool:=fun j=>Nat.rec (motive:=fun _=>Bool) false (fun j b=>b || (v / 2 ^ j % 2 == 1)) j
  have t20:(AX (aC v n)).run=some (.inl (false,(b:Int))):=by
    unfold AX
    rw [aq,h1]
    exact aG (ae rfl)
  have hmin:min k b≤640000:=by omega
  have hm1:∀ j,j < min k b→j < k∧j < b:=fun j hj=>by omega
  have hm2 : ¬ (min k b < k∧min k b < b):=by omega
  have l26:eh (A0 (aC v n) (k:Int) (b:Int)) (false,0)=some (.inl (f (min k b))):=by
    revert hmin hm1 hm2
    generalize min k b=g
    intro hmin hm1 hm2
    refine cD (fun j=>(f j,j)) g rfl (fun j hj=>?_) ?_
    · obtain ⟨q1,q2⟩:=hm1 j hj
      show aH (sB _ _ _).run _=_
      refine ag (a:=true) ?_ (ag (a:=f (j+1)) ?_ (ao rfl))
      · unfold sB
        refine cS ?_
        show some (Sum.inl (decide _))=_
        rw [decide_eq_true (by omega)]
      · show (AZ _ _ _ _).run=_
        unfold AZ
        rw [aq,NM hv hn (by omega)]
        have hf:f (j+1)=(f j || (v / 2 ^ j % 2 == 1)):=rfl
        rw [hf]
        refine aX ?_
        cases f j
        · exact aK (aG (ae rfl))
        · exact aX rfl
    · show aH (sB _ _ _).run _=_
      refine ag (a:=false) ?_ (bK (aK rfl))
      unfold sB
      by_cases q:g < k
      · refine cS ?_
        show some (Sum.inl (decide _))=_
        rw [decide_eq_false (by omega)]
      · exact dr rfl
  refine ⟨f (min k b),aY (ag t20 (ag rfl (ag l26 ?_)))⟩
  by_cases hkb:b≤k
  · have z:v / 2 ^ k=0:=Nat.div_eq_of_lt (Nat.lt_of_lt_of_le h2 (Nat.pow_le_pow_right (by decide) hkb))
    rw [z,fE]
    refine bK ?_
    unfold A1
    exact cS rfl
  · have e0:v % 2 ^ (k+0) / 2 ^ k=0:=Nat.div_eq_of_lt (Nat.mod_lt _ (mE _))
    have eb:v % 2 ^ (k+(b - k)) / 2 ^ k=v / 2 ^ k:=by rw [show k+(b - k)=b by omega,Nat.mod_eq_of_lt h2]
    refine ag (a:=aC 0 n) ?_ (ag (a:=aC (v / 2 ^ k) n) (cD (fun j=>(((k+j:Nat):Int),aC (v % 2 ^ (k+j) / 2 ^ k) n)) (b - k) (by rw [e0];rfl) (fun j hj=>?_) ?_) (ag (a:=(aC (v / 2 ^ k) (nl (v / 2 ^ k)),nl (v / 2 ^ k))) ?_ rfl))
    · unfold A1
      rw [au,H3]
      exact dr (ao (ao (ao (ao rfl))))
    · show aH (vr _ _ _ _ _).run _=_
      refine ag (a:=aC (v % 2 ^ (k+(j+1)) / 2 ^ k) n) ?_ (di (by rw [dh];omega) rfl)
      unfold vr
      have hbs:=aoN v k j
      have es:((k+j:Nat):Int) - (k:Int)=(j:Int):=by omega
      rw [aq,NM hv hn (by omega),es,VK,VL,cH]
      simp only [re,qj]
      refine lU (by rw [decide_eq_true_eq];omega) (aG (ae ?_))
      have hr:j % 64 < 64:=Nat.mod_lt _ (by decide)
      have hjn:j / 64 < n:=by omega
      by_cases hbit:v / 2 ^ (k+j) % 2=1
      · rw [hbit,Nat.one_mul] at hbs
        have hU:v % 2 ^ (k+j) / 2 ^ k < 2 ^ j:=by
          refine Nat.div_lt_of_lt_mul ?_
          rw [← Nat.pow_add];exact Nat.mod_lt _ (mE _)
        have hUW:v % 2 ^ (k+j) / 2 ^ k < W ^ n:=by
          refine Nat.lt_of_lt_of_le hU ?_
          rw [show W ^ n=2 ^ (64 * n) by rw [Nat.pow_mul]]
          exact Nat.pow_le_pow_right (by decide) (by omega)
        rw [hbs]
        revert hU hUW
        generalize v % 2 ^ (k+j) / 2 ^ k=U
        intro hU hUW
        have hd:U / W ^ (j / 64) < 2 ^ (j % 64):=by
          refine Nat.div_lt_of_lt_mul ?_
          rw [Nat.mul_comm,← La];exact hU
        have hp:2 ^ (j % 64) < W:=DN hr
        have hp2:2 ^ (j % 64)+2 ^ (j % 64)≤W:=by
          have:2 ^ (j % 64+1)≤2 ^ 64:=Nat.pow_le_pow_right (by decide) hr
          rw [Nat.pow_succ] at this
          have w:W=2 ^ 64:=by decide
          omega
        have hx:U / W ^ (j / 64) % W+2 ^ (j % 64) < W:=by
          have:=Nat.mod_le (U / W ^ (j / 64)) W
          omega
        have ij:=aiG (n:=n) hx hjn
        rw [← La] at ij
        have e2:IntKind.u64.wrap ((1:Int) * 2 ^ (min (Int.toNat (((j % 64:Nat)):Int)) IntKind.u64.bits))=((2 ^ (j % 64):Nat):Int):=by
          rw [show (1:Int)=((1:Nat):Int) from rfl,Sl _ (by omega),Nat.one_mul,Nat.mod_eq_of_lt hp]
        rw [hbit,e2,cN hUW,xT,qa,Nat.mod_eq_of_lt hx,ij,au,au]
        exact aX (ao (ae (ao (ao (ae (ao (ao (ao (ao (ae (ao (ao (ao rfl)))))))))))))
      · have z:v / 2 ^ (k+j) % 2=0:=by omega
        rw [z,Nat.zero_mul,Nat.add_zero] at hbs
        rw [z,hbs]
        exact aK rfl
    · show aH (vr _ _ _ _ _).run _=_
      refine bK (cy (by rw [decide_eq_false_iff_not];omega) ?_)
      rw [eb];rfl
    · have hq:v / 2 ^ k < W ^ n:=Nat.lt_of_le_of_lt (Nat.div_le_self _ _) hv
      unfold He
      rw [au,bQ au,Am hq (by omega)]
      exact dY (ae rfl)
end Go.Plb.Seat
namespace Go.Plb.Seat
open Go Go.Plb
set_option linter.unusedSimpArgs false
set_option linter.unusedVariables false
theorem Kh(s:Bool){v n:Nat}(hv:v < W ^ n)(hn:n≤10000)(hl:nl v≤4096){e:Int}(he : -1000000≤e∧e≤1000000) :
    bh s (aC v n) e=some (.r0 (nS (sg s v)) (aC (nM (sg s v)) (nl (nM (sg s v)))) (nl (nM (sg s v))) (nE (sg s v) e)):=by
  have t5:(A4 (aC v n)).run=some (.inl (aC v (nl v),nl v,false)):=by
    unfold A4
    rw [aq,Am hv (by omega)]
    exact aG (ae rfl)
  by_cases h0:v=0
  · have z:sg s v=0:=Av.2 h0
    rw [z,ib,Y9,k8,fE]
    refine aY (ag t5 (bK ?_))
    rw [h0,fE]
    exact aX rfl
  · have z:sg s v ≠ 0:=fun q=>h0 (Av.1 q)
    have hp:=B4 h0
    have ht:=aiI (v:=v)
    obtain ⟨b,h1⟩:=ane (k:=tz v) (cZ v) (by omega) (by omega)
    have eM:nM (sg s v)=v / 2 ^ tz v:=by unfold nM;rw [Lb]
    have eE:nE (sg s v) e=e+((tz v:Nat):Int):=by rw [lr z,Lb]
    rw [apC h0,eM,eE]
    refine aY (ag t5 (ag (a:=tz v) ?_ (ag (a:=(aC (v / 2 ^ tz v) (nl (v / 2 ^ tz v)),nl (v / 2 ^ tz v))) ?_ ?_)))
    · show (A5 _ _).run=_
      unfold A5
      rw [bQ au,ajC (cZ v) (by omega) h0]
      exact dr (dY (ae rfl))
    · show (A6 _ _ _).run=_
      unfold A6
      rw [bQ au,h1]
      exact dY (ae rfl)
    · exact di (by rw [dh];omega) rfl
theorem afi{v n:Nat}(hv:v < W ^ n)(hn:n≤1000000)(hl:nl v≤4096){e:Int}(he : -262144≤e∧e≤262144) :gu (aC v n) e=some (.r0 true):=by
  refine aY (ag (a:=true) ?_ rfl)
  unfold JD
  rw [aq,am8 hv hn hl]
  refine aG (ae (aX (cS ?_)))
  show some (Sum.inl (decide (e≤262144)))=_
  rw [decide_eq_true he.2]
theorem UZ{z e:Int}{s:Bool}(hs:z ≠ 0→s=nS z)(h:Sm z e) :bh s (aC (nM z) (nl (nM z))) (nE z e)=some (.r0 (nS z) (aC (nM z) (nl (nM z))) (nl (nM z)) (nE z e)):=by
  have hm:=h.m
  have hb:=h.b
  have h1:=Kh s (cZ (nM z)) (by omega) (by omega) (e:=nE z e) (by omega)
  obtain ⟨a,b,c⟩:=Z4 (e:=e) hs
  rw [a,b,c] at h1
  exact h1
theorem Za{z e:Int}(h:Sm z e) :gu (aC (nM z) (nl (nM z))) (nE z e)=some (.r0 true):=by
  have hm:=h.m
  have hb:=h.b
  exact afi (cZ (nM z)) (by omega) (by omega) (by omega)
theorem Ki(s:Bool){v n:Nat}(hv:v < W ^ n)(hn:n≤10000)(hl:nl v≤1000){e:Int}(he : -150000≤e∧e≤150000) :
    bM s (aC v n) e=some (.r0 0 (nS (sg s v)) (aC (nM (sg s v)) (nl (nM (sg s v)))) (nl (nM (sg s v))) (nE (sg s v) e)):=by
  have h1:=Kh s hv hn (by omega) (e:=e) (by omega)
  have ht:=aiI (v:=v)
  have hE' : -262144≤nE (sg s v) e∧nE (sg s v) e≤262144:=by
    unfold nE;rw [Lb];split <;> omega
  have hM:nl (nM (sg s v))≤nl v:=by have:=sO (apD (z:=sg s v));rwa [Lb] at this
  refine aY (ag (a:=(nS (sg s v),aC (nM (sg s v)) (nl (nM (sg s v))),nl (nM (sg s v)),nE (sg s v) e,false)) ?_ (ag (a:=false) ?_ rfl))
  · unfold Hm
    rw [aq,h1]
    exact aG (ae rfl)
  · show (A7 _ _ _).run=_
    unfold A7
    rw [bQ au,afi (cZ _) (by omega) (by omega) hE']
    exact dY (ae rfl)
theorem alw{z e:Int}{m:Nat}(h:Sm z e)(h0:z ≠ 0)(hm:m≤tz z.natAbs){k:Int}(hk:k=((tz z.natAbs - m:Nat):Int)) :
    je (aC (nM z) (nl (nM z))) k=some (.r0 (aC (z.natAbs / 2 ^ m) (nl (z.natAbs / 2 ^ m))) (nl (z.natAbs / 2 ^ m))):=by
  obtain ⟨e1,e2⟩:=BB hm
  have ht:=h.t
  have hM:=h.m
  rw [hk,afh (cZ _) (by omega) (by omega),e1]
theorem aqg{k:Nat}(hk:k≤100000) :je (aC (nM 0) (nl (nM 0))) (k:Int)=some (.r0 (aC 0 0) 0):=by
  rw [k8,fE,afh (v:=0) (n:=0) (by decide) (by omega) (by omega),Nat.zero_mul,fE]
theorem ajD{z e ep:Int}{m:Nat}(h:Sm z e)(hp:z ≠ 0→m≤tz z.natAbs∧ep=e+m)(hb : -50000≤ep∧ep≤94800) :
    (tC (aC (nM z) (nl (nM z))) (nE z e) ep).run=some (.inl (aC (z.natAbs / 2 ^ m) (nl (z.natAbs / 2 ^ m)),nl (z.natAbs / 2 ^ m))) ∧
    (tD (aC (nM z) (nl (nM z))) (nE z e) ep).run=some (.inl (aC (z.natAbs / 2 ^ m) (nl (z.natAbs / 2 ^ m)),nl (z.natAbs / 2 ^ m))):=by
  by_cases h0:z=0
  · subst h0
    rw [Int.natAbs_zero,Nat.zero_div,fE,ib]
    unfold tC tD
    rw [aq]
    by_cases hq:(0:Int) > ep
    · obtain ⟨k,hk⟩:∃ k:Nat,(0:Int) - ep=(k:Int):=⟨(0 - ep).toNat,by omega⟩
      rw [hk,aqg (by omega)]
      exact ⟨lU (decide_eq_true hq) (di (by rw [dh];omega) (aG (ae rfl))),lU (decide_eq_true hq) (di (by rw [dh];omega) (aG (ae rfl)))⟩
    · rw [k8,fE]
      exact ⟨cy (decide_eq_false hq) rfl,cy (decide_eq_false hq) rfl⟩
  · obtain ⟨h1,h2⟩:=hp h0
    have e1:=lr (e:=e) h0
    have ht:=h.t
    have hM:=h.m
    unfold tC tD
    rw [aq]
    by_cases hq:nE z e > ep
    · rw [alw h h0 h1 (k:=nE z e - ep) (by omega)]
      exact ⟨lU (decide_eq_true hq) (di (by rw [dh];omega) (aG (ae rfl))),lU (decide_eq_true hq) (di (by rw [dh];omega) (aG (ae rfl)))⟩
    · have hm:m=tz z.natAbs:=by omega
      have e2:z.natAbs / 2 ^ m=nM z:=by rw [hm];rfl
      rw [e2]
      exact ⟨cy (decide_eq_false hq) (by rw [au];rfl),cy (decide_eq_false hq) (by rw [au];rfl)⟩
theorem ajE{x y e:Int}(hx:Sm x e)(hy:Sm y e) :∃ m ep,eJ (aC (nM x) (nl (nM x))) (nE x e) (aC (nM y) (nl (nM y))) (nE y e) =
    some (.r0 (aC (x.natAbs / 2 ^ m) (nl (x.natAbs / 2 ^ m))) (nl (x.natAbs / 2 ^ m)) (aC (y.natAbs / 2 ^ m) (nl (y.natAbs / 2 ^ m))) (nl (y.natAbs / 2 ^ m)) ep)∧Lvl x y e m ep:=by
  have hxt:=hx.t
  have hyt:=hy.t
  have hxb:=hx.b
  have hyb:=hy.b
  have he:=hx.2
  have key:∀ m ep,(x ≠ 0→m≤tz x.natAbs∧ep=e+m)→(y ≠ 0→m≤tz y.natAbs∧ep=e+m)→(-50000≤ep∧ep≤94800) →
      (∃ e1,(nO (aC (nM x) (nl (nM x))) (nE x e) (nE y e)).run=some (.inl e1)∧(nP (nE x e) (aC (nM y) (nl (nM y))) e1).run=some (.inl ep)) →
      eJ (aC (nM x) (nl (nM x))) (nE x e) (aC (nM y) (nl (nM y))) (nE y e)=some (.r0 (aC (x.natAbs / 2 ^ m) (nl (x.natAbs / 2 ^ m))) (nl (x.natAbs / 2 ^ m)) (aC (y.natAbs / 2 ^ m) (nl (y.natAbs / 2 ^ m))) (nl (y.natAbs / 2 ^ m)) ep):=by
    intro m ep h1 h2 h3 ⟨e1,h4,h5⟩
    exact aY (ag h4 (ag h5 (ag (ajD hx h1 h3).1 (ag (ajD hy h2 h3).2 rfl))))
  have dz:∀ m,(0:Int).natAbs / 2 ^ m * 2 ^ m=(0:Int).natAbs:=fun m=>by rw [Int.natAbs_zero,Nat.zero_div,Nat.zero_mul]
  by_cases h1:x=0
  · have l0:nl (nM x)=0:=by rw [h1,k8,fE]
    by_cases h2:y=0
    · have l1:nl (nM y)=0:=by rw [h2,k8,fE]
      refine ⟨0,0,key 0 0 (fun q=>absurd h1 q) (fun q=>absurd h2 q) (by omega) ⟨nE y e,?_,?_⟩,⟨by rw [h1];exact dz 0,by rw [h2];exact dz 0,.inl ⟨h1,h2,rfl⟩,by omega⟩⟩
      · unfold nO;rw [au,l0];exact aX rfl
      · unfold nP;rw [au,l1];refine aX ?_;rw [h1,ib];rfl
    · have ly:nl (nM y) ≠ 0:=fun q=>N8 h2 (lW.1 q)
      have ey:=lr (e:=e) h2
      refine ⟨tz y.natAbs,nE y e,key _ _ (fun q=>absurd h1 q) (fun _=>⟨Nat.le_refl _,ey⟩) (by omega) ⟨nE y e,?_,?_⟩,⟨by rw [h1];exact dz _,(BB (Nat.le_refl _)).2,.inr ey,by omega⟩⟩
      · unfold nO;rw [au,l0];exact aX rfl
      · unfold nP;rw [au];exact dr rfl
  · have lx:nl (nM x) ≠ 0:=fun q=>N8 h1 (lW.1 q)
    have ex:=lr (e:=e) h1
    by_cases h2:y=0
    · have l1:nl (nM y)=0:=by rw [h2,k8,fE]
      refine ⟨tz x.natAbs,nE x e,key _ _ (fun _=>⟨Nat.le_refl _,ex⟩) (fun q=>absurd h2 q) (by omega) ⟨B0 (nE x e) (nE y e),?_,?_⟩,⟨(BB (Nat.le_refl _)).2,by rw [h2];exact dz _,.inr ex,by omega⟩⟩
      · unfold nO;rw [au];exact dr rfl
      · unfold nP;rw [au,l1];exact aX rfl
    · have ly:nl (nM y) ≠ 0:=fun q=>N8 h2 (lW.1 q)
      have ey:=lr (e:=e) h2
      have emin:B0 (nE x e) (nE y e)=e+((min (tz x.natAbs) (tz y.natAbs):Nat):Int):=by
        rw [ex,ey]
        rcases Nat.le_total (tz x.natAbs) (tz y.natAbs) with q | q
        · rw [amg (by omega),Nat.min_eq_left q]
        · rw [ahD (by omega),Nat.min_eq_right q]
      have mx:min (tz x.natAbs) (tz y.natAbs)≤tz x.natAbs:=Nat.min_le_left _ _
      have my:min (tz x.natAbs) (tz y.natAbs)≤tz y.natAbs:=Nat.min_le_right _ _
      revert emin mx my
      generalize min (tz x.natAbs) (tz y.natAbs)=m
      intro emin mx my
      refine ⟨m,e+m,key m _ (fun _=>⟨mx,rfl⟩) (fun _=>⟨my,rfl⟩) (by omega) ⟨e+m,?_,?_⟩,⟨(BB mx).2,(BB my).2,.inr rfl,by omega⟩⟩
      · unfold nO;rw [au,emin];exact dr rfl
      · unfold nP;rw [au];exact dr rfl
theorem anf{x y e:Int}(hx:Sm x e)(hy:Sm y e) :xp (aC (nM x) (nl (nM x))) (nE x e) (aC (nM y) (nl (nM y))) (nE y e)=some (.r0 false):=by
  have hxb:=hx.b
  have hyb:=hy.b
  refine aY (ag (a:=false) ?_ rfl)
  unfold JF
  rw [au,au]
  by_cases h1:nl (nM x)=0
  · exact dr rfl
  · by_cases h2:nl (nM y)=0
    · exact cS (dr rfl)
    · refine cS (cS (di (by rw [dh];omega) (cy (by rw [decide_eq_false_iff_not];omega) (di (by rw [dh];omega) ?_))))
      show some (Sum.inl (decide _))=_
      rw [decide_eq_false (by omega)]
theorem apI{x y e:Int}{s t:Bool}(hs:x ≠ 0→s=nS x)(ht:y ≠ 0→t=nS y)(hx:Sm x e)(hy:Sm y e) :
    ew s (aC (nM x) (nl (nM x))) (nE x e) t (aC (nM y) (nl (nM y))) (nE y e)=some (.r0 0 (nS (x+y)) (aC (nM (x+y)) (nl (nM (x+y)))) (nl (nM (x+y))) (nE (x+y) e)):=by
  have x1:=UZ hs hx
  have y1:=UZ ht hy
  obtain ⟨m,ep,l1,l2⟩:=ajE hx hy
  have xl:=hx.l
  have yl:=hy.l
  have hX:nl (x.natAbs / 2 ^ m)≤300:=Nat.le_trans (sO (Nat.div_le_self _ _)) xl
  have hY:nl (y.natAbs / 2 ^ m)≤300:=Nat.le_trans (sO (Nat.div_le_self _ _)) yl
  have ox:=al8 l2.x2
  have oy:=al8 l2.y2
  have z0:∀ {z:Int},z=0→z.natAbs / 2 ^ m=0:=fun h=>by rw [h,Int.natAbs_zero,Nat.zero_div]
  have zx:x=0→x.natAbs / 2 ^ m=0:=z0
  have zy:y=0→y.natAbs / 2 ^ m=0:=z0
  have hb:=l2.b
  have t10:(A8 (aC (nM x) (nl (nM x))) (nE x e) (aC (nM y) (nl (nM y))) (nE y e)).run=some (.inl (false,false)):=by
    unfold A8
    rw [aq,aq,Za hx,Za hy]
    exact aG (ae (aK (aG (ae rfl))))
  have t11:(A9 s (aC (nM x) (nl (nM x))) (nE x e) t (aC (nM y) (nl (nM y))) (nE y e) false).run=some (.inl (nS x,aC (nM x) (nl (nM x)),nl (nM x),nE x e,nS y,aC (nM y) (nl (nM y)),nl (nM y),nE y e)):=by
    unfold A9
    rw [aq,aq,x1,y1]
    exact aK (aG (ae (aG (ae rfl))))
  have t12:(Ba (aC (nM x) (nl (nM x))) (nl (nM x)) (nE x e) (aC (nM y) (nl (nM y))) (nl (nM y)) (nE y e)).run=some (.inl false):=by
    unfold Ba
    rw [bQ au,bQ au,anf hx hy]
    exact dY (dY (ae rfl))
  have t13:(Bb (aC (nM x) (nl (nM x))) (nl (nM x)) (nE x e) (aC (nM y) (nl (nM y))) (nl (nM y)) (nE y e) false).run=some (.inl (aC (x.natAbs / 2 ^ m) (nl (x.natAbs / 2 ^ m)),nl (x.natAbs / 2 ^ m),aC (y.natAbs / 2 ^ m) (nl (y.natAbs / 2 ^ m)),nl (y.natAbs / 2 ^ m),ep)):=by
    unfold Bb
    rw [bQ au,bQ au,l1]
    exact aK (dY (dY (ae rfl)))
  clear l1 x1 y1
  have sum:=fun {z z':Int} (a:z=z' * ((2 ^ m:Nat):Int)) (b:x=0→y=0→z'=0)=>l2.sum a b
  revert t13 hX hY ox oy zx zy
  generalize x.natAbs / 2 ^ m=X
  generalize y.natAbs / 2 ^ m=Y
  intro hX hY ox oy zx zy t13
  have hXY:=af7 hX hY
  by_cases hsg:nS x=nS y
  · have hz:x+y=sg (nS x) (X+Y) * ((2 ^ m:Nat):Int):=by
      rw [← aop,Int.add_mul,← ox]
      rw [hsg,← oy]
    obtain ⟨a,b,c⟩:=sum hz (fun p q=>by rw [zx p,zy q];cases nS x <;> rfl)
    have h1:=Ki (nS x) (v:=X+Y) (cZ _) (by omega) (by omega) (e:=ep) (by omega)
    rw [a,b,c]
    refine aY (ag t10 (ag t11 (ag t12 (ag t13 (bK ?_)))))
    show (sH _ _ _ _ _ _ _).run=_
    unfold sH
    rw [bQ au,bQ au,am9 (cZ X) (cZ Y) (by omega) (by omega)]
    simp only [yh,iu,iv]
    rw [bQ au,h1]
    exact lU (by rw [hsg];cases nS y <;> rfl) (dY (dY (ae (dY (ae rfl)))))
  · have hn:nS y = !(nS x):=by revert hsg;cases nS x <;> cases nS y <;> simp
    have t14:(sH (nS x) (nS y) (aC X (nl X)) (nl X) (aC Y (nl Y)) (nl Y) ep).run=some (.inl ()):=by
      unfold sH
      exact cy (by rw [hn];cases nS x <;> rfl) rfl
    have t15:(Bc (aC X (nl X)) (nl X) (aC Y (nl Y)) (nl Y)).run=some (.inl (decide (rM X Y ≥ 0))):=by
      unfold Bc
      rw [bQ au,bQ au,ana (cZ X) (cZ Y) (by omega) (by omega)]
      exact dY (dY (ae rfl))
    have hxy:x+y=(sg (nS x) X - sg (nS x) Y) * ((2 ^ m:Nat):Int):=by
      rw [Int.sub_mul,← ox]
      have:y = -(sg (nS x) Y) * ((2 ^ m:Nat):Int):=by rw [← Vp,← hn];exact oy
      rw [Int.neg_mul] at this
      omega
    by_cases hlt:X < Y
    · have hz:x+y=sg (nS y) (Y - X) * ((2 ^ m:Nat):Int):=by
        rw [hxy,← af8 (Nat.le_of_lt hlt),hn,Vp,Vp];congr 1;omega
      obtain ⟨a,b,c⟩:=sum hz (fun p q=>by rw [zx p,zy q];cases nS y <;> rfl)
      have hd:nl (Y - X)≤nl Y:=sO (Nat.sub_le _ _)
      have h1:=Ki (nS y) (v:=Y - X) (cZ _) (by omega) (by omega) (e:=ep) (by omega)
      rw [a,b,c]
      have hc:decide (rM X Y ≥ 0)=false:=by unfold rM;rw [if_pos hlt];rfl
      rw [hc] at t15
      refine aY (ag t10 (ag t11 (ag t12 (ag t13 (ag t14 (ag t15 (ag (a:=()) (aK rfl) (ag (a:=(0,nS (sg (nS y) (Y - X)),aC (nM (sg (nS y) (Y - X))) (nl (nM (sg (nS y) (Y - X)))),nl (nM (sg (nS y) (Y - X))),nE (sg (nS y) (Y - X)) ep)) ?_ rfl))))))))
      show (Be _ _ _ _ _ _).run=_
      unfold Be
      rw [bQ au,bQ au,aff (cZ Y) (cZ X) (by omega) (by omega) (Nat.le_of_lt hlt)]
      simp only [rb,dj,dk]
      rw [bQ au,h1]
      exact dY (dY (ae (dY (ae rfl))))
    · have hz:x+y=sg (nS x) (X - Y) * ((2 ^ m:Nat):Int):=by
        rw [hxy,← af8 (by omega)]
      obtain ⟨a,b,c⟩:=sum hz (fun p q=>by rw [zx p,zy q];cases nS x <;> rfl)
      have hd:nl (X - Y)≤nl X:=sO (Nat.sub_le _ _)
      have h1:=Ki (nS x) (v:=X - Y) (cZ _) (by omega) (by omega) (e:=ep) (by omega)
      rw [a,b,c]
      have hc:decide (rM X Y ≥ 0)=true:=by
        rw [decide_eq_true_eq];unfold rM;rw [if_neg hlt];split <;> omega
      rw [hc] at t15
      refine aY (ag t10 (ag t11 (ag t12 (ag t13 (ag t14 (ag t15 (bK ?_)))))))
      show (Bd _ _ _ _ _ _ _).run=_
      unfold Bd
      rw [bQ au,bQ au,aff (cZ X) (cZ Y) (by omega) (by omega) (by omega)]
      simp only [rb,dj,dk]
      rw [bQ au,h1]
      exact aX (dY (dY (ae (dY (ae rfl)))))
theorem aqN{x y e:Int}(hx:Sm x e)(hy:Sm y e) :
    jn (nS x) (aC (nM x) (nl (nM x))) (nE x e) (nS y) (aC (nM y) (nl (nM y))) (nE y e)=some (.r0 0 (nS (x - y)) (aC (nM (x - y)) (nl (nM (x - y)))) (nl (nM (x - y))) (nE (x - y) e)):=by
  have h1:=apI (x:=x) (y:=-y) (e:=e) (s:=nS x) (t:=!(nS y)) (fun _=>rfl) (fun h=>by
    unfold nS;rw [← decide_not];congr 1;exact propext (by omega)) hx hy.n
  rw [aon,aoo,← Int.sub_eq_add_neg] at h1
  have hT:bJ (nS y) (aC (nM y) (nl (nM y))) (nE y e)=some (.r0 (!(nS y)) (aC (nM y) (nl (nM y))) (nl (nM y)) (nE y e)):=by
    refine aY ?_
    unfold HO
    rw [au];rfl
  refine aY (ag (a:=(0,nS (x - y),aC (nM (x - y)) (nl (nM (x - y))),nl (nM (x - y)),nE (x - y) e)) ?_ rfl)
  unfold Ka
  rw [aq,aq,hT]
  simp only [vT,iX,gI,gJ,iY]
  rw [bQ au,h1]
  exact aG (ae (aG (dY (ae rfl))))
theorem aqh{x y e f:Int} :nS (x * y)=nS (sg (nS x != nS y) (nM x * nM y))∧nM (x * y)=nM (sg (nS x != nS y) (nM x * nM y))∧nE (x * y) (e+f)=nE (sg (nS x != nS y) (nM x * nM y)) (nE x e+nE y f):=by
  have hz:x * y=sg (nS x != nS y) (nM x * nM y) * ((2 ^ (tz x.natAbs+tz y.natAbs):Nat):Int):=by
    have a:=Sn x
    have b:=Sn y
    rw [← aeE,Nat.pow_add,Int.natCast_mul]
    conv=>lhs;rw [← a,← b]
    simp only [Int.mul_assoc,Int.mul_comm,Int.mul_left_comm]
  obtain ⟨a,b,c⟩:=H5 hz (e+f)
  refine ⟨a,b,?_⟩
  rw [c]
  by_cases p:x=0
  · subst p;rw [k8,Nat.zero_mul]
    have:sg (nS 0 != nS y) 0=0:=Av.2 rfl
    rw [this,ib,ib]
  · by_cases q:y=0
    · subst q;rw [k8,Nat.mul_zero]
      have:sg (nS x != nS 0) 0=0:=Av.2 rfl
      rw [this,ib,ib]
    · rw [lr p,lr q];congr 1;omega
theorem aqO{x y e f:Int}(hx:Sm x e)(hy:Sm y f) :
    jg (nS x) (aC (nM x) (nl (nM x))) (nE x e) (nS y) (aC (nM y) (nl (nM y))) (nE y f)=some (.r0 0 (nS (x * y)) (aC (nM (x * y)) (nl (nM (x * y)))) (nl (nM (x * y))) (nE (x * y) (e+f))):=by
  have x1:=UZ (s:=nS x) (fun _=>rfl) hx
  have y1:=UZ (s:=nS y) (fun _=>rfl) hy
  have xm:=hx.m
  have ym:=hy.m
  have xb:=hx.b
  have yb:=hy.b
  have hm:=akC (a:=nM x) (b:=nM y)
  have h1:=Ki (nS x != nS y) (v:=nM x * nM y) (cZ _) (by omega) (by omega) (e:=nE x e+nE y f) (by omega)
  obtain ⟨a,b,c⟩:=aqh (x:=x) (y:=y) (e:=e) (f:=f)
  rw [a,b,c]
  refine aY (ag (a:=(false,false)) ?_ (ag (a:=(nS x,aC (nM x) (nl (nM x)),nl (nM x),nE x e,nS y,aC (nM y) (nl (nM y)),nl (nM y),nE y f)) ?_ (ag (a:=(0,nS (sg (nS x != nS y) (nM x * nM y)),aC (nM (sg (nS x != nS y) (nM x * nM y))) (nl (nM (sg (nS x != nS y) (nM x * nM y)))),nl (nM (sg (nS x != nS y) (nM x * nM y))),nE (sg (nS x != nS y) (nM x * nM y)) (nE x e+nE y f))) ?_ rfl)))
  · unfold JI
    rw [aq,aq,Za hx,Za hy]
    exact aG (ae (aK (aG (ae rfl))))
  · show (Dq _ _ _ _ _ _ _).run=_
    unfold Dq
    rw [aq,aq,x1,y1]
    exact aK (aG (ae (aG (ae rfl))))
  · show (Dr _ _ _ _ _ _ _ _).run=_
    unfold Dr
    have h1':bM (!(nS x == nS y)) (aC (nM x * nM y) (nl (nM x * nM y))) (nE x e+nE y f)=_:=h1
    rw [bQ au,bQ au,afg (cZ (nM x)) (cZ (nM y)) (by omega) (by omega)]
    simp only [uu,gp,gq]
    rw [bQ au,h1']
    exact dY (dY (ae (di (by rw [dh];omega) (dY (ae rfl)))))
theorem ajF{m:Nat}(h:m < W) :([(m:Int)]:List Int)=aC m 1:=by
  show [(m:Int)] = [] ++ [lm m 0]
  unfold lm;rw [Nat.pow_zero,Nat.div_one,Nat.mod_eq_of_lt h];rfl
theorem Yi{n:Nat}(h:n < 9223372036854775808) :
    bL (n:Int)=some (.r0 (nS (n:Int)) (aC (nM (n:Int)) (nl (nM (n:Int)))) (nl (nM (n:Int))) (nE (n:Int) 0)):=by
  have hW:n < W:=Nat.lt_trans h (by decide)
  have hn:nl n≤1:=ju (by rw [Nat.pow_one];exact hW)
  have h1:=Kh false (v:=n) (n:=1) (by rw [Nat.pow_one];exact hW) (by omega) (by omega) (e:=0) (by omega)
  have e:sg false n=(n:Int):=rfl
  rw [e] at h1
  refine aY (ag (a:=((n:Int),false)) ?_ (ag (a:=(nS (n:Int),aC (nM (n:Int)) (nl (nM (n:Int))),nl (nM (n:Int)),nE (n:Int) 0)) ?_ rfl))
  · unfold Fb
    rw [kt hW]
    exact cy (by rw [decide_eq_false_iff_not];omega) rfl
  · show (yX _ _).run=_
    unfold yX
    have d:decide ((n:Int) < 0)=false:=by rw [decide_eq_false_iff_not];omega
    rw [ajF hW,bQ au,d,h1]
    exact dY (ae rfl)
theorem Yj{x:Nat}(hx:x < RL)(h:xV x=true) :nv (x:Int)=some (.r0 (uR x)):=by
  have h':Vq x ≠ 2047:=by unfold xV at h;exact bne_iff_ne.1 h
  refine aY ?_
  unfold Fd uR
  rw [Io hx,DS hx]
  by_cases h1:Vq x=0
  · by_cases h2:x % 4503599627370496=0
    · rw [if_neg (by omega),if_neg (by omega),h1,h2]
      exact ae (aK (aK (aK rfl)))
    · rw [if_neg (by omega),if_pos h2,h1]
      exact ae (aK (aK (cS rfl)))
  · rw [if_pos h1]
    exact ae (dr (cS rfl))
theorem ajG{x:Nat}(hx:x < RL)(h:xV x=true) :jD (x:Int)=some (.r0 (x / 9223372036854775808 == 1) ((fm x:Nat):Int) (fe x)):=by
  have hx':x < 18446744073709551616:=hx
  have hl:=acf x
  have hs:decide (((x:Nat):Int) ≥ (9223372036854775808:Int))=(x / 9223372036854775808 == 1):=by
    rw [Bool.eq_iff_iff,decide_eq_true_eq,beq_iff_eq];omega
  have hf:=Nat.mod_lt x (show 4503599627370496 > 0 by decide)
  have hW:W=18446744073709551616:=rfl
  refine aY (ag (a:=((uR x == 1),false,(x / 9223372036854775808 == 1),((x % 4503599627370496:Nat):Int))) ?_ (ag (a:=if uR x=1 then 0 else -1074) ?_ (ag (a:=(uR x == 3)) ?_ (ag (a:=(((fm x:Nat):Int),fe x)) ?_ rfl))))
  · unfold Fe
    rw [Yj hx h,DS hx,hs]
    refine ae ?_
    show some (Sum.inl ((((uR x:Nat):Int) == 1),_,_,_))=_
    have:(((uR x:Nat):Int) == 1)=(uR x == 1):=by rw [Bool.eq_iff_iff,beq_iff_eq,beq_iff_eq];omega
    rw [this]
  · show (yZ _).run=_
    unfold yZ
    by_cases q:uR x=1
    · rw [if_pos q];exact lU (beq_iff_eq.2 q) rfl
    · rw [if_neg q];exact cy (beq_eq_false_iff_ne.2 q) rfl
  · show (y4 _).run=_
    unfold y4
    rw [Yj hx h]
    refine ae ?_
    show some (Sum.inl (((uR x:Nat):Int) == 3))=_
    have:(((uR x:Nat):Int) == 3)=(uR x == 3):=by rw [Bool.eq_iff_iff,beq_iff_eq,beq_iff_eq];omega
    rw [this]
  · show (y5 _ _ _ _).run=_
    unfold y5
    rw [Io hx,afe (by omega)]
    by_cases h1:Vq x=0
    · have hfm:fm x=x % 4503599627370496:=by unfold fm;rw [if_neg (by omega)]
      by_cases h2:x % 4503599627370496=0
      · have hk:uR x=1:=by unfold uR;rw [if_neg (by omega),if_neg (by omega)]
        have hfe:fe x=0:=by unfold fe;rw [if_neg (by omega),if_neg (by omega)]
        rw [hk,hfm,hfe,if_pos rfl]
        exact aK rfl
      · have hk:uR x=2:=by unfold uR;rw [if_neg (by omega),if_pos h2]
        have hfe:fe x = -1074:=by unfold fe;rw [if_neg (by omega),if_pos h2]
        rw [hk,hfm,hfe,if_neg (by omega)]
        exact aK rfl
    · have hk:uR x=3:=by unfold uR;rw [if_pos h1]
      have hfm:fm x=x % 4503599627370496+4503599627370496:=by unfold fm;rw [if_pos h1]
      have hfe:fe x = -1074+(((Vq x:Nat):Int) - 1):=by unfold fe;rw [if_pos h1]
      rw [hk,hfm,hfe,if_neg (by omega)]
      have e1:IntKind.u64.wrap (((x % 4503599627370496:Nat):Int)+(4503599627370496:Int))=((x % 4503599627370496+4503599627370496:Nat):Int):=by
        have e':(4503599627370496:Int)=((4503599627370496:Nat):Int):=by omega
        rw [e',qa,Nat.mod_eq_of_lt (by omega)]
      rw [e1]
      refine aX (ae (di (by rw [dh];omega) ?_))
      have e2:((Vq x:Nat):Int) - 1075 = -1074+(((Vq x:Nat):Int) - 1):=by omega
      rw [e2];rfl
theorem alx{x:Nat}(hx:x < RL)(h:xV x=true) :
    iW (x:Int)=some (.r0 (nS (fz x)) (aC (nM (fz x)) (nl (nM (fz x)))) (nl (nM (fz x))) (nE (fz x) (-1074))):=by
  have hm:=apH x
  have hn:nl (fm x)≤1:=ju (by rw [Nat.pow_one];exact hm)
  have hl:=acf x
  have he : -1000000≤fe x∧fe x≤1000000:=by unfold fe;split <;> (try split) <;> omega
  have h1:=Kh (x / 9223372036854775808 == 1) (v:=fm x) (n:=1) (by rw [Nat.pow_one];exact hm) (by omega) (by omega) he
  obtain ⟨a,b,c⟩:=ajy hx h
  rw [a,b,c] at h1
  refine aY (ag (a:=(false,(x / 9223372036854775808 == 1),((fm x:Nat):Int),fe x)) ?_ (ag (a:=(nS (fz x),aC (nM (fz x)) (nl (nM (fz x))),nl (nM (fz x)),nE (fz x) (-1074))) ?_ rfl))
  · unfold HL
    rw [ajG hx h]
    exact ae rfl
  · show (By _ _ _).run=_
    unfold By
    rw [ajF hm,bQ au,h1]
    exact dY (ae rfl)
theorem Kj{x:Nat}(hx:x < RL)(h:xV x=true) :
    ab x=some (.r0 (nS (fz x)) (aC (nM (fz x)) (nl (nM (fz x)))) (nl (nM (fz x))) (nE (fz x) (-1074))):=by
  refine aY (ag (a:=(nS (fz x),aC (nM (fz x)) (nl (nM (fz x))),nl (nM (fz x)),nE (fz x) (-1074))) ?_ rfl)
  unfold Ff
  rw [alx hx h]
  exact ao4 (di (by rw [al9 hx h];rfl) (ae rfl))
theorem ajH{x y e:Int}(hx:Sm x e)(hy:Sm y e) :
    eB (nS x) (aC (nM x) (nl (nM x))) (nE x e) (nS y) (aC (nM y) (nl (nM y))) (nE y e)=some (.r0 (nS (x+y)) (aC (nM (x+y)) (nl (nM (x+y)))) (nl (nM (x+y))) (nE (x+y) e)):=by
  refine aY (ag (a:=(false,nS (x+y),aC (nM (x+y)) (nl (nM (x+y))),nl (nM (x+y)),nE (x+y) e)) ?_ rfl)
  unfold J8
  rw [aq,aq,apI (fun _=>rfl) (fun _=>rfl) hx hy]
  exact aG (aG (ae rfl))
theorem ang{x y e:Int}(hx:Sm x e)(hy:Sm y e) :
    gW (nS x) (aC (nM x) (nl (nM x))) (nE x e) (nS y) (aC (nM y) (nl (nM y))) (nE y e)=some (.r0 (nS (x - y)) (aC (nM (x - y)) (nl (nM (x - y)))) (nl (nM (x - y))) (nE (x - y) e)):=by
  refine aY (ag (a:=(false,nS (x - y),aC (nM (x - y)) (nl (nM (x - y))),nl (nM (x - y)),nE (x - y) e)) ?_ rfl)
  unfold HP
  rw [aq,aq,aqN hx hy]
  exact aG (aG (ae rfl))
theorem RK{x y e f:Int}(hx:Sm x e)(hy:Sm y f) :
    aB (nS x) (aC (nM x) (nl (nM x))) (nE x e) (nS y) (aC (nM y) (nl (nM y))) (nE y f)=some (.r0 (nS (x * y)) (aC (nM (x * y)) (nl (nM (x * y)))) (nl (nM (x * y))) (nE (x * y) (e+f))):=by
  refine aY (ag (a:=(false,nS (x * y),aC (nM (x * y)) (nl (nM (x * y))),nl (nM (x * y)),nE (x * y) (e+f))) ?_ rfl)
  unfold Fc
  rw [aq,aq,aqO hx hy]
  exact aG (aG (ae rfl))
theorem afj{v n:Nat}(hn:n≤1000000) :mN (aC v n) (aC v n)=some (.r0 true):=by
  refine aY (ag (a:=()) (cy (by simp) rfl) (ag (a:=()) (cD (fun i=>i) n rfl (fun j hj=>?_) ?_) rfl))
  · show (Bw _ _ _).run=_
    unfold Bw
    rw [au]
    exact cS (ao (ao (ao (ao (cy (by simp) (ao rfl))))))
  · exact cy (by rw [au];exact (by simp only [dh,CM,D2,p8,qT,im,qU,qV,decide_eq_true_eq,decide_eq_false_iff_not,beq_iff_eq,beq_eq_false_iff_ne,bne_iff_ne,bne_eq_false_iff_eq,Bool.not_eq_true',Bool.not_eq_false',List.length_set,ne_eq,ge_iff_le,gt_iff_lt,ma,cH,zr];omega)) rfl
theorem V2(s:Bool){v n:Nat}(e:Int)(hn:n≤1000000) :lp s (aC v n) e s (aC v n) e=some (.r0 true):=by
  refine aY (ag (a:=true) ?_ rfl)
  unfold HD
  rw [aq,afj hn]
  refine lU (by cases s <;> rfl) (aG (aG (ae (aX ?_))))
  show some (Sum.inl (e == e))=_
  rw [beq_self_eq_true]
end Go.Plb.Seat
namespace Go.Plb.Seat
open Go Go.Plb
set_option linter.unusedSimpArgs false
set_option linter.unusedVariables false
theorem xB{l:List Nat}(hw:Wd l)(hf:Fn l)(hn:l.length≤1000000) :
    aA l=some (.r0 l.length (od (gz l) l.length) (oe (gz l) l.length) (og (gz l) (-1074) l.length)):=by
  have hn':∀ n,l.length=n→n≤1000000:=fun n h=>by omega
  generalize hL:l.length=n at *
  have hn:=hn' n rfl
  refine aY (ag (a:=(uZ (fun i=>nS (gz l i)) false 0 n,uZ (fun i=>Z6 (gz l i)) [] 0 n,uZ (fun i=>nE (gz l i) (-1074)) 0 0 n)) ?_ (ag (a:=(od (gz l) n,oe (gz l) n,og (gz l) (-1074) n)) (cD (fun j=>(j,uZ (fun i=>nS (gz l i)) false j n,uZ (fun i=>Z6 (gz l i)) [] j n,uZ (fun i=>nE (gz l i) (-1074)) 0 j n)) n rfl (fun j hj=>?_) ?_) (by rw [← hL];rfl)))
  · unfold Hr
    rw [hL,← DO,← DO,← DO]
    exact ao (ao (ao (ao rfl)))
  · show aH (tH _ _ _ _ _).run _=_
    refine ag (a:=(uZ (fun i=>nS (gz l i)) false (j+1) n,uZ (fun i=>Z6 (gz l i)) [] (j+1) n,uZ (fun i=>nE (gz l i) (-1074)) 0 (j+1) n)) ?_ (ao rfl)
    obtain ⟨N,h1,h2,h3⟩:=aoK (hw j) (hf j (by omega))
    unfold tH
    rw [h1,H6,H6,H6,hL]
    simp only [Ep,De,ya,yc,yd,Df]
    rw [List.drop_zero,Ip h2]
    refine cS (ao (ao (ae (ao (ao (ao (di (decide_eq_true (by rw [au];omega)) (ao ?_))))))))
    rw [← DP hj,← DP hj,← DP hj];rfl
  · show aH (tH _ _ _ _ _).run _=_
    refine bK (cy (by rw [hL];exact (by simp only [dh,CM,D2,p8,qT,im,qU,qV,decide_eq_true_eq,decide_eq_false_iff_not,beq_iff_eq,beq_eq_false_iff_ne,bne_iff_ne,bne_eq_false_iff_eq,Bool.not_eq_true',Bool.not_eq_false',List.length_set,ne_eq,ge_iff_le,gt_iff_lt,ma,cH,zr];omega)) ?_)
    rw [H7,H7,H7];rfl
theorem NN{g:Nat→Int}{e:Int}{n from' far many:Nat}(h:∀ i,i < many→from'+i * far < n)(hn:n≤1000000)(hm:many≤1000000)(hfar:far≤1000)(hfr:from'≤1000000) :
    ac n (od g n) (oe g n) (og g e n) (from':Int) (far:Int) (many:Int)=some (.r0 many (od (fun i=>g (from'+i * far)) many) (oe (fun i=>g (from'+i * far)) many) (og (fun i=>g (from'+i * far)) e many)):=by
  refine aY (ag (a:=(many,many,uZ (fun i=>nS (g (from'+i * far))) false 0 many,uZ (fun i=>Z6 (g (from'+i * far))) [] 0 many,uZ (fun i=>nE (g (from'+i * far)) e) 0 0 many)) ?_ (ag (a:=(od (fun i=>g (from'+i * far)) many,oe (fun i=>g (from'+i * far)) many,og (fun i=>g (from'+i * far)) e many)) (cD (fun j=>(j,uZ (fun i=>nS (g (from'+i * far))) false j many,uZ (fun i=>Z6 (g (from'+i * far))) [] j many,uZ (fun i=>nE (g (from'+i * far)) e) 0 j many)) many rfl (fun j hj=>?_) ?_) rfl))
  · unfold JU
    rw [cH,← DO,← DO,← DO]
    exact ao (ao (ao (ao rfl)))
  · have hi:=h j hj
    have e1:((j:Nat):Int) * (far:Int)=((j * far:Nat):Int):=by rw [Int.natCast_mul]
    have e2:(from':Int)+((j * far:Nat):Int)=((from'+j * far:Nat):Int):=by rw [Int.natCast_add]
    show (yO _ _ _ _ _ _ _ _ _ _ _ _).run=_
    unfold yO
    rw [e1,e2,cH,H8,H9,Ia,H6,H6,H6,So hi,Sp hi,Sq hi,List.drop_zero,List.take_length]
    refine cS (ao (ao (ao (ao (ao (ao (ao (ao (ao (di (by rw [decide_eq_true_eq];omega) (ao (ao ?_))))))))))))
    rw [← DP hj,← DP hj,← DP hj];rfl
  · show (yO _ _ _ _ _ _ _ _ _ _ _ _).run=_
    refine dr ?_
    rw [H7,H7,H7];rfl
theorem ack{g h:Nat→Int}{e f:Int}{n k:Nat}(hg:∀ i,i < n→Sm (g i) e)(hh:∀ i,i < n→Sm (h i) f)(hk:∀ i,i < n→nl (g i * h i).natAbs≤k)(hk2:k≤200)(hn:n≤1000000)(he : -30000≤e+f∧e+f≤30000) :
    ∃ N,cR n (od g n) (oe g n) (og g e n) n (od h n) (oe h n) (og h f n)=some (.r0 0 (nS (eQ (fun i=>g i * h i) n)) (aC (nM (eQ (fun i=>g i * h i) n)) N) 0 (nl (nM (eQ (fun i=>g i * h i) n))) (nE (eQ (fun i=>g i * h i) n) (e+f)))∧nl (nM (eQ (fun i=>g i * h i) n))≤N∧N≤4096:=by
  have hS:∀ j,j≤n→Sm (eQ (fun i=>g i * h i) j) (e+f):=fun j hj=>sP (NH (fun i hi=>hk i (by omega)) (by omega)) (by omega) he
  have hp:∀ j,j < n→Sm (g j * h j) (e+f):=fun j hj=>sP (hk j hj) (by omega) he
  have loop:∃ y,eh (Dx n (od g n) (oe g n) (og g e n) n (od h n) (oe h n) (og h f n)) (0,0,false,([]:List Int),0,0,(0:Int))=some y ∧
      ∃ N,y=.inl (0,nS (eQ (fun i=>g i * h i) n),aC (nM (eQ (fun i=>g i * h i) n)) N,0,nl (nM (eQ (fun i=>g i * h i) n)),nE (eQ (fun i=>g i * h i) n) (e+f))∧nl (nM (eQ (fun i=>g i * h i) n))≤N∧N≤4096:=by
    refine akE (fun j s=>∃ N,s=(0,j,nS (eQ (fun i=>g i * h i) j),aC (nM (eQ (fun i=>g i * h i) j)) N,0,nl (nM (eQ (fun i=>g i * h i) j)),nE (eQ (fun i=>g i * h i) j) (e+f))∧nl (nM (eQ (fun i=>g i * h i) j))≤N∧N≤4096) n ?_ (fun j s hj hs=>?_) (fun s hs=>?_)
    · refine ⟨0,?_,?_,by omega⟩
      · show _=(0,0,nS 0,aC (nM 0) 0,0,nl (nM 0),nE 0 (e+f))
        rw [k8,fE,ib];rfl
      · show nl (nM 0)≤0
        rw [k8,fE];exact Nat.le_refl _
    · obtain ⟨N,rfl,hN1,hN2⟩:=hs
      obtain ⟨M,m1,m2,m3⟩:=NL (hg j hj) (hh j hj)
      obtain ⟨A,a1,a2,a3⟩:=amY (hS j (by omega)) (hp j hj)
      refine ⟨_,?_,A,rfl,a2,a3⟩
      show aH (Dw _ _ _ _ _ _ _ _ _ _ _ _ _ _ _).run _=_
      refine ag (a:=(0,nS (eQ (fun i=>g i * h i) j+g j * h j),aC (nM (eQ (fun i=>g i * h i) j+g j * h j)) A,0,nl (nM (eQ (fun i=>g i * h i) j+g j * h j)),nE (eQ (fun i=>g i * h i) j+g j * h j) (e+f))) ?_ (ao rfl)
      unfold Dw
      have m1':ay (nS (g j)) (Z6 (g j)) (nE (g j) e) (nS (h j)) (Z6 (h j)) (nE (h j) f)=_:=m1
      rw [H8,H9,Ia,H8,H9,Ia,So hj,Sp hj,Sq hj,So hj,Sp hj,Sq hj,aq,aq,m1']
      simp only [qE,mW,da,cT,cU,cV,db]
      rw [ch hN1,ch m2,a1]
      exact cS (ao (ao (ao (ao (ao (ao (ao (ao (aG (aG (ae (aK (di (bo hN1) (di (bo m2) (ae (aK rfl))))))))))))))))
    · obtain ⟨N,rfl,hN1,hN2⟩:=hs
      exact ⟨_,bK (dr rfl),N,rfl,hN1,hN2⟩
  obtain ⟨y,l1,N,rfl,l2,l3⟩:=loop
  exact ⟨N,aY (ag (a:=false) rfl (ag (a:=false) (cy (by simp) rfl) (ag l1 (aK rfl)))),l2,l3⟩
theorem Kk{g:Nat→Int}{e:Int}{n k:Nat}(hg:∀ i,i < n→nl (g i).natAbs≤k)(hk2:k≤100)(hn:n≤1000000)(he : -10000≤e∧e≤10000) :
    ∃ N,bE n (od g n) (oe g n) (og g e n)=some (.r0 0 (nS (eQ (fun i=>g i * g i) n)) (aC (nM (eQ (fun i=>g i * g i) n)) N) 0 (nl (nM (eQ (fun i=>g i * g i) n))) (nE (eQ (fun i=>g i * g i) n) (e+e)))∧nl (nM (eQ (fun i=>g i * g i) n))≤N∧N≤4096:=by
  obtain ⟨N,h1,h2,h3⟩:=ack (g:=g) (h:=g) (e:=e) (f:=e) (n:=n) (k:=k+k) (fun i hi=>sP (hg i hi) (by omega) (by omega)) (fun i hi=>sP (hg i hi) (by omega) (by omega)) (fun i hi=>qW (hg i hi) (hg i hi)) (by omega) hn (by omega)
  refine ⟨N,aY (ag (a:=(0,nS (eQ (fun i=>g i * g i) n),aC (nM (eQ (fun i=>g i * g i) n)) N,0,nl (nM (eQ (fun i=>g i * g i) n)),nE (eQ (fun i=>g i * g i) n) (e+e))) ?_ rfl),h2,h3⟩
  unfold Cq
  rw [io,ip,iq,h1]
  exact s8 (s8 (ae rfl))
end Go.Plb.Seat
namespace Go.Plb.Seat
open Go Go.Plb
set_option linter.unusedSimpArgs false
set_option linter.unusedVariables false
def RM(r c:Int)(n:Nat) :Bool:=decide (0≤r∧r≤512∧0≤c∧c≤512∧(n:Int)=r * c)
theorem ahF{r c:Int}{n:Nat} :RM r c n=true↔0≤r∧r≤512∧0≤c∧c≤512∧(n:Int)=r * c:=decide_eq_true_iff
theorem aly{r c:Int}(h1:0≤r)(h2:r≤512)(h3:0≤c)(h4:c≤512) :0≤r * c∧r * c≤262144:=by
  refine ⟨Int.mul_nonneg h1 h3,?_⟩
  have:r * c≤512 * 512:=Int.mul_le_mul h2 h4 h3 (by decide)
  omega
theorem Zb{r c:Int}{n:Nat}(h:RM r c n=true) :∃ p q:Nat,r=(p:Int)∧c=(q:Int)∧p≤512∧q≤512∧n=p * q∧n≤262144:=by
  obtain ⟨h1,h2,h3,h4,h5⟩:=ahF.1 h
  have hb:=aly h1 h2 h3 h4
  refine ⟨r.toNat,c.toNat,by omega,by omega,by omega,by omega,?_,by omega⟩
  have e1:r=((r.toNat:Nat):Int):=by omega
  have e2:c=((c.toNat:Nat):Int):=by omega
  rw [e1,e2,← Int.natCast_mul] at h5
  have:=Int.ofNat_inj.1 h5
  simpa using this
theorem cC(r c:Int)(l:List Nat) :d4 r c l=some (.r0 (!(RM r c l.length))):=by
  refine aY (ag (a:=!(RM r c l.length)) ?_ rfl)
  unfold Ho
  by_cases h1:r < 0
  · have:RM r c l.length=false:=by unfold RM;rw [decide_eq_false_iff_not];omega
    rw [this];exact lU (decide_eq_true h1) rfl
  by_cases h2:r > 512
  · have:RM r c l.length=false:=by unfold RM;rw [decide_eq_false_iff_not];omega
    rw [this];exact cy (decide_eq_false h1) (lU (decide_eq_true h2) rfl)
  by_cases h3:c < 0
  · have:RM r c l.length=false:=by unfold RM;rw [decide_eq_false_iff_not];omega
    rw [this];exact cy (decide_eq_false h1) (cy (decide_eq_false h2) (lU (decide_eq_true h3) rfl))
  by_cases h4:c > 512
  · have:RM r c l.length=false:=by unfold RM;rw [decide_eq_false_iff_not];omega
    rw [this];exact cy (decide_eq_false h1) (cy (decide_eq_false h2) (cy (decide_eq_false h3) (lU (decide_eq_true h4) rfl)))
  have hb:=aly (by omega:0≤r) (by omega:r≤512) (by omega:0≤c) (by omega:c≤512)
  refine cy (decide_eq_false h1) (cy (decide_eq_false h2) (cy (decide_eq_false h3) (cy (decide_eq_false h4) (di (by rw [dh];omega) ?_))))
  show some (Sum.inl (((l.length:Nat):Int) != r * c))=_
  congr 2
  unfold RM
  by_cases h5:((l.length:Nat):Int)=r * c
  · rw [decide_eq_true ⟨by omega,by omega,by omega,by omega,h5⟩,h5];simp
  · rw [decide_eq_false (by omega),bne_iff_ne.2 h5];rfl
theorem cA(r c:Int)(l:List Nat) :nt r c l=some (.r0 (RM r c l.length)):=by
  refine aY (ag (a:=RM r c l.length) ?_ rfl)
  unfold J6
  by_cases h1:r ≥ 0
  · by_cases h2:r≤512
    · by_cases h3:c ≥ 0
      · by_cases h4:c≤512
        · have hb:=aly h1 h2 h3 h4
          refine lU (decide_eq_true h1) (lU (decide_eq_true h2) (lU (decide_eq_true h3) (lU (decide_eq_true h4) (di (by rw [dh];omega) ?_))))
          show some (Sum.inl (((l.length:Nat):Int) == r * c))=_
          congr 2
          unfold RM
          by_cases h5:((l.length:Nat):Int)=r * c
          · rw [decide_eq_true ⟨by omega,by omega,by omega,by omega,h5⟩,beq_iff_eq.2 h5]
          · rw [decide_eq_false (by omega),beq_eq_false_iff_ne.2 h5]
        · have:RM r c l.length=false:=by unfold RM;rw [decide_eq_false_iff_not];omega
          rw [this];exact lU (decide_eq_true h1) (lU (decide_eq_true h2) (lU (decide_eq_true h3) (cy (decide_eq_false h4) rfl)))
      · have:RM r c l.length=false:=by unfold RM;rw [decide_eq_false_iff_not];omega
        rw [this];exact lU (decide_eq_true h1) (lU (decide_eq_true h2) (cy (decide_eq_false h3) rfl))
    · have:RM r c l.length=false:=by unfold RM;rw [decide_eq_false_iff_not];omega
      rw [this];exact lU (decide_eq_true h1) (cy (decide_eq_false h2) rfl)
  · have:RM r c l.length=false:=by unfold RM;rw [decide_eq_false_iff_not];omega
    rw [this];exact cy (decide_eq_false h1) rfl
noncomputable def ael(l:List Nat) :Bool:=@decide (Fn l) (Classical.propDecidable _)
theorem oE{l:List Nat} :ael l=true↔Fn l:=@decide_eq_true_iff _ (Classical.propDecidable _)
theorem acl{l:List Nat} :ael l=false↔¬ Fn l:=@decide_eq_false_iff_not _ (Classical.propDecidable _)
theorem FD{l:List Nat}(hw:Wd l)(hn:l.length≤1000000000) :∃ k:Int,az l=some (.r0 k)∧decide (k ≥ 0) = !(ael l):=by
  have step:∀ j,j < l.length→xV (l.getD j 0)=true→d5 l j=some (.inl (j+1)):=by
    intro j hj hf
    show (cG _ _).run=_
    unfold cG
    exact cS (ao (ao (cy (af9 (hw j) hf) (aX (cy (apa (hw j) hf) (ao rfl))))))
  by_cases h:Fn l
  · refine ⟨-1,aY (ag (a:=()) rfl (ag (a:=()) (cD (fun j=>j) l.length rfl (fun j hj=>step j hj (h j hj)) (dr rfl)) rfl)),?_⟩
    rw [oE.2 h];rfl
  · obtain ⟨k,hk,hb,hf⟩:=DM (p:=fun i=>xV (l.getD i 0)=true) h
    have hbf:xV (l.getD k 0)=false:=by cases q:xV (l.getD k 0) with | true=>exact absurd q hb | false=>rfl
    refine ⟨(k:Int),aY (ag (a:=()) rfl (bK (cD (fun j=>j) k rfl (fun j hj=>step j (by omega) (hf j hj)) ?_))),?_⟩
    · show (cG _ _).run=_
      unfold cG
      refine cS (ao (ao ?_))
      rcases aeH (hw k) hbf with q | ⟨q1,q2,q3⟩
      · exact lU (ama q) rfl
      · exact cy q3 (aX (lU (apb (hw k) q2) rfl))
    · rw [acl.2 h,decide_eq_true (by omega)];rfl
theorem NO{l:List Nat}(hw:Wd l)(hn:l.length≤1000000000) :fC l=some (.r0 (ael l)):=by
  have step:∀ j,j < l.length→xV (l.getD j 0)=true→uO l j=some (.inl (j+1)):=by
    intro j hj hf
    show (oD _ _).run=_
    unfold oD
    exact cS (ao (ao (ao (ao (cy (by rw [aiK (hw j),hf];rfl) (ao rfl))))))
  by_cases h:Fn l
  · rw [oE.2 h]
    exact aY (ag (a:=()) rfl (ag (a:=()) (cD (fun j=>j) l.length rfl (fun j hj=>step j hj (h j hj)) (dr rfl)) rfl))
  · obtain ⟨k,hk,hb,hf⟩:=DM (p:=fun i=>xV (l.getD i 0)=true) h
    have hbf:xV (l.getD k 0)=false:=by cases q:xV (l.getD k 0) with | true=>exact absurd q hb | false=>rfl
    rw [acl.2 h]
    refine aY (ag (a:=()) rfl (bK (cD (fun j=>j) k rfl (fun j hj=>step j (by omega) (hf j hj)) ?_)))
    show (oD _ _).run=_
    unfold oD
    exact cS (ao (ao (ao (ao (lU (by rw [aiK (hw k),hbf];rfl) rfl)))))
def szI(l:List Nat) :Int:=eQ (fun i=>gz l i * gz l i) l.length
theorem aqi{l:List Nat}(hw:Wd l)(hf:Fn l)(hn:l.length≤1000000) :nl (szI l).natAbs≤67 :=
  NH (fun i hi=>qW (D3 hw hf hi) (D3 hw hf hi)) hn
theorem afk{r c:Int}{l:List Nat}(hw:Wd l)(h:RM r c l.length=true)(hf:ael l=true) :
    ∃ N,dp r c l=some (.r0 0 (nS (szI l)) (aC (nM (szI l)) N) 0 (nl (nM (szI l))) (nE (szI l) (-2148)))∧nl (nM (szI l))≤N∧N≤4096:=by
  obtain ⟨_,_,_,_,_,_,_,hn⟩:=Zb h
  obtain ⟨k,k1,k2⟩:=FD hw (by omega)
  have hF:=oE.1 hf
  obtain ⟨N,h1,h2,h3⟩:=Kk (g:=gz l) (e:=-1074) (n:=l.length) (k:=33) (fun i hi=>D3 hw hF hi) (by omega) (by omega) (by omega)
  refine ⟨N,aY (ag (a:=false) ?_ (ag (a:=(0,nS (szI l),aC (nM (szI l)) N,0,nl (nM (szI l)),nE (szI l) (-2148))) ?_ rfl)),h2,h3⟩
  · unfold JR
    rw [aq,cC,h,k1]
    exact aX (ae (aG (ae (aK (ae (aK (aK (aX (ae (aG (ae (cy (by rw [hf] at k2;exact k2) (ae (aK rfl))))))))))))))
  · unfold JS
    rw [aq,xB hw hF (by omega)]
    simp only [jA,aW,dD,dE,dF]
    rw [io,ip,iq,h1]
    exact aG (ae (s8 (ae rfl)))
def bF(m n:Nat) :Nat:=64 * max m 1 * max n 1
def bI(m n:Nat) :Int:=(bF m n:Int) * (bF m n:Int)
theorem apJ{m n:Nat}(hm:m≤512)(hn:n≤512) :bF m n≤16777216:=by
  unfold bF
  have h1:max m 1≤512:=by omega
  have h2:max n 1≤512:=by omega
  have:max m 1 * max n 1≤512 * 512:=Nat.mul_le_mul h1 h2
  rw [Nat.mul_assoc];omega
theorem apK{m n:Nat}(hm:m≤512)(hn:n≤512) :nl (bF m n)≤1:=by
  have:=apJ hm hn
  exact ju (by rw [Nat.pow_one];exact Nat.lt_of_le_of_lt this (by decide))
theorem amm{m n:Nat}(hm:m≤512)(hn:n≤512) :nl (bI m n).natAbs≤2:=by
  have h:=apK hm hn
  exact qW (a:=1) (b:=1) (by rw [Int.natAbs_natCast];exact h) (by rw [Int.natAbs_natCast];exact h)
theorem apL{m n:Nat}(hm:m≤512)(hn:n≤512) :Sm (bF m n:Int) 0:=sP (k:=1) (by rw [Int.natAbs_natCast];exact apK hm hn) (by omega) (by omega)
theorem ajI(m:Nat) :rH (m:Int) 1=((max m 1:Nat):Int):=by
  by_cases h:m≤1
  · rw [ahE (by omega),Nat.max_eq_right h];rfl
  · rw [amh (by omega),Nat.max_eq_left (by omega)]
theorem aqj(m n:Nat) :((64:Int) * ((max m 1:Nat):Int)) * ((max n 1:Nat):Int)=((bF m n:Nat):Int):=by
  unfold bF;rw [Int.natCast_mul,Int.natCast_mul];rfl
theorem acm{m n:Nat}(hm:m≤512)(hn:n≤512) :
    ∃ N,cQ (m:Int) (n:Int)=some (.r0 0 (nS (bI m n)) (aC (nM (bI m n)) N) 0 (nl (nM (bI m n))) (nE (bI m n) (-106)))∧nl (nM (bI m n))≤N∧N≤4096:=by
  have hb:=apJ hm hn
  obtain ⟨A,a1,a2,a3⟩:=Nk (n:=bF m n) (by omega)
  obtain ⟨B,b1,b2,b3⟩:=NL (apL hm hn) (apL hm hn)
  have b2:nl (nM (bI m n))≤B:=b2
  have hB:Sm (bI m n) (0+0):=sP (amm hm hn) (by omega) (by omega)
  obtain ⟨C,c1,c2,c3⟩:=ajx (k:=-106) hB (by omega)
  have hmx:max m 1≤512:=by omega
  refine ⟨C,aY (ag (a:=(false,false)) ?_ (ag (a:=(nS (bF m n:Int),aC (nM (bF m n:Int)) A,0,nl (nM (bF m n:Int)),nE (bF m n:Int) 0)) ?_ (ag (a:=(0,nS (bI m n),aC (nM (bI m n)) B,0,nl (nM (bI m n)),nE (bI m n) (0+0))) ?_ (ag (a:=(0,nS (bI m n),aC (nM (bI m n)) C,0,nl (nM (bI m n)),nE (bI m n) (-106))) ?_ rfl)))),c2,c3⟩
  · unfold Hq
    refine cy (by rw [decide_eq_false_iff_not];omega) (cy (by rw [decide_eq_false_iff_not];omega) (cy (by rw [decide_eq_false_iff_not];omega) ?_))
    show some (Sum.inl (decide ((n:Int) > 512),false))=_
    rw [decide_eq_false (by omega)]
  · show (Bg _ _ _).run=_
    unfold Bg
    rw [ajI,ajI,aqj,a1]
    exact aK (di (by rw [dh];omega) (di (by rw [dh];omega) (ae rfl)))
  · show (Bh _ _ _ _ _).run=_
    unfold Bh
    rw [ch a2,b1]
    exact di (bo a2) (di (bo a2) (ae rfl))
  · show (Bi _ _ _ _ _ _).run=_
    unfold Bi
    rw [ch b2,c1]
    exact aK (di (bo b2) (ae rfl))
end Go.Plb.Seat
