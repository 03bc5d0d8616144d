/-
  Part 3 of what the claim leans on: an evaluator of the model, proved sound; the contracts of the functions.
-/
import Derived.Test.YthikcnkmglbbbaaDoorA2
namespace Go.Plb.Seat
open Go Go.Plb
set_option linter.unusedSimpArgs false
set_option linter.unusedVariables false
set_option maxRecDepth 100000
def sG(n:Nat) :Bool:=Nat.ble n 1000000000
noncomputable def ae6:Empty→aF:=fun a=>a.elim
noncomputable def ae7:Unit→AE×aF:=fun _=>(.ret,⟨ah 8 [(2,.sl 0 1 1 0 0 0)],[(0,.fl [])],1⟩)
noncomputable def afq:Unit→iK:=fun _=>⟨.sl 0 1 1 0 0 0,[some (.fl [])]⟩
theorem adA:aj prog c9 [] [.zsl true] ⟨.sl 0 1 1 0 0 0,[some (.fl [])]⟩ :=
  Sg.contract (x:=()) (X:=Unit) (N:=ae6) (E:=ae7) (m:=some (.inr ())) false afq (by kernel_rfl:prog.funcs[c9]? = some (FN c9)) (by kernel_rfl:(FN c9).body=some (mV c9))
    (Sg.seg (C:=C0) v4 x4 60 (cY (mV c9)) (rT (FN c9) [] [.zsl true]) (.leaf (.inr ())) ae6 ae7 [⟨[(.slot 2,.own 1 1 (.fl []))],[64],[2]⟩] (by kernel_rfl))
    (fun _=>⟨.inr rfl,[.sl 0 1 1 0 0 0],[],by kernel_rfl,trivial,by kernel_rfl⟩) rfl
theorem acJ:aj prog c9 [] [.zsl false] ⟨.sl 0 1 1 0 0 0,[some (.fl [])]⟩ :=
  aj.run v4 x4 (some []) 0 60 (p':=some []) (obs:=[]) (by kernel_rfl) nob
theorem adB(l:Lv) :aj prog c9 [] [.imm l (.fl []) 1 1 0 0] ⟨.sl 0 1 1 0 0 0,[some (.fl [])]⟩:=by
  intro ρ w us hN hv
  cases hv with | cons _ u _ _ h1 h2 =>
  cases h2
  have key:∀ (a:Option Addr) cap,fu ρ w [.zsl a.isNone] [.slice a 0 cap]:=fun a cap=>.cons _ _ _ _ (.zsl a cap) .nil
  have all:∀ b,aj prog c9 [] [.zsl b] ⟨.sl 0 1 1 0 0 0,[some (.fl [])]⟩:=fun b=>by
    cases b
    · exact acJ
    · exact adA
  cases h1 with
  | imm _ _ _ _ _ _ cap bl o u'=>exact all _ ρ w _ hN (key _ cap)
  | immEnd _ _ _ _ _ cap a=>exact all _ ρ w _ hN (key a cap)
theorem adC(l:Lv)(xs:List Nat)(hl:xs.length≤1000000000) :aj prog c9 [] [.imm l (.fl xs) 1 1 0 xs.length] ⟨.sl 0 1 1 0 xs.length xs.length,[some (.fl xs)]⟩:=by
  rcases Nat.eq_zero_or_pos xs.length with h0 | h0
  · have:xs=[]:=List.length_eq_zero_iff.1 h0
    subst this
    exact adB l
  · have h:vP C0 E0 (j4 C0 E0 0 60) c9 [] [.imm l (.fl xs) 1 1 0 xs.length] (some [])=some (⟨.sl 0 1 1 0 (0+xs.length) (0+xs.length),[some (.fl (List.take 0 []++List.take xs.length xs))]⟩,
        [Nat.blt 0 xs.length,qG ((0+xs.length)*8) 140737488355328,qG (0+xs.length) 9223372036854775807,qG xs.length xs.length,qG 0 ([]:List Nat).length],some []):=by kernel_rfl
    have:=aj.run v4 x4 _ _ _ h (ob (by rw [Nat.blt_eq];exact h0)<|ob (by simp [qG];omega)<|ob (by simp [qG];omega)<|ob (by simp [qG])<|ob rfl nob)
    simp only [Nat.zero_add,List.take_zero,List.nil_append,List.take_length] at this
    exact this
noncomputable def aat:aE:=bT c9 (.cons .fl .nil) fun t=>[⟨⟨.sl 0 1 1 0 t.1.2.length t.1.2.length,[some (.fl t.1.2)]⟩,[sG t.1.2.length]⟩]
theorem Yp:aO prog aat:=aJ fun t=>aK (fun h=>adC t.1.1 t.1.2 (Nat.le_of_ble_eq_true h)) bb
noncomputable def L2c:List aE:=aat::L1
theorem aet:bc prog (bh L2c):=ap Yp ae5
noncomputable def Ve:Empty→aF:=fun a=>a.elim
noncomputable def Vf:Unit→AE×aF:=fun _=>(.ret,⟨ah 8 [(2,.sl 0 1 1 0 0 0)],[(0,.ns .u64 [])],1⟩)
noncomputable def acK:Unit→iK:=fun _=>⟨.sl 0 1 1 0 0 0,[some (.ns .u64 [])]⟩
theorem Vg:aj prog bS [] [.zsl true] ⟨.sl 0 1 1 0 0 0,[some (.ns .u64 [])]⟩ :=
  Sg.contract (x:=()) (X:=Unit) (N:=Ve) (E:=Vf) (m:=some (.inr ())) false acK (by kernel_rfl:prog.funcs[bS]? = some (FN bS)) (by kernel_rfl:(FN bS).body=some (mV bS))
    (Sg.seg (C:=C0) v4 x4 60 (cY (mV bS)) (rT (FN bS) [] [.zsl true]) (.leaf (.inr ())) Ve Vf [⟨[(.slot 2,.own 1 1 (.ns .u64 []))],[64],[2]⟩] (by kernel_rfl))
    (fun _=>⟨.inr rfl,[.sl 0 1 1 0 0 0],[],by kernel_rfl,trivial,by kernel_rfl⟩) rfl
theorem Sn:aj prog bS [] [.zsl false] ⟨.sl 0 1 1 0 0 0,[some (.ns .u64 [])]⟩ :=
  aj.run v4 x4 (some []) 0 60 (p':=some []) (obs:=[]) (by kernel_rfl) nob
theorem Vh(l:Lv) :aj prog bS [] [.imm l (.ns .u64 []) 1 1 0 0] ⟨.sl 0 1 1 0 0 0,[some (.ns .u64 [])]⟩:=by
  intro ρ w us hN hv
  cases hv with | cons _ u _ _ h1 h2 =>
  cases h2
  have key:∀ (a:Option Addr) cap,fu ρ w [.zsl a.isNone] [.slice a 0 cap]:=fun a cap=>.cons _ _ _ _ (.zsl a cap) .nil
  have all:∀ b,aj prog bS [] [.zsl b] ⟨.sl 0 1 1 0 0 0,[some (.ns .u64 [])]⟩:=fun b=>by
    cases b
    · exact Sn
    · exact Vg
  cases h1 with
  | imm _ _ _ _ _ _ cap bl o u'=>exact all _ ρ w _ hN (key _ cap)
  | immEnd _ _ _ _ _ cap a=>exact all _ ρ w _ hN (key a cap)
theorem Vi(l:Lv)(xs:List Int)(hl:xs.length≤1000000000) :aj prog bS [] [.imm l (.ns .u64 xs) 1 1 0 xs.length] ⟨.sl 0 1 1 0 xs.length xs.length,[some (.ns .u64 xs)]⟩:=by
  rcases Nat.eq_zero_or_pos xs.length with h0 | h0
  · have:xs=[]:=List.length_eq_zero_iff.1 h0
    subst this
    exact Vh l
  · have h:vP C0 E0 (j4 C0 E0 0 60) bS [] [.imm l (.ns .u64 xs) 1 1 0 xs.length] (some [])=some (⟨.sl 0 1 1 0 (0+xs.length) (0+xs.length),[some (.ns .u64 (List.take 0 ([]:List Int)++List.take xs.length xs))]⟩,
        [Nat.blt 0 xs.length,qG ((0+xs.length)*8) 140737488355328,qG (0+xs.length) 9223372036854775807,qG xs.length xs.length,qG 0 ([]:List Int).length],some []):=by kernel_rfl
    have:=aj.run v4 x4 _ _ _ h (ob (by rw [Nat.blt_eq];exact h0)<|ob (by simp [qG];omega)<|ob (by simp [qG];omega)<|ob (by simp [qG])<|ob rfl nob)
    simp only [Nat.zero_add,List.take_zero,List.nil_append,List.take_length] at this
    exact this
noncomputable def IS:aE:=bT bS (.cons (.ns .u64) .nil) fun t=>[⟨⟨.sl 0 1 1 0 t.1.2.length t.1.2.length,[some (.ns .u64 t.1.2)]⟩,[sG t.1.2.length]⟩]
theorem LM:aO prog IS:=aJ fun t=>aK (fun h=>Vi t.1.1 t.1.2 (Nat.le_of_ble_eq_true h)) bb
noncomputable def aau:List aE:=IS::L2c
theorem Yq:bc prog (bh aau):=ap LM aet
noncomputable def L2:List aE:=aau
theorem ae8:bc prog (bh L2):=Yq
end Go.Plb.Seat
namespace Go.Plb.Seat
open Go Go.Plb
set_option linter.unusedSimpArgs false
set_option linter.unusedVariables false
theorem acL{n:Nat}(h:isNaN n=true) :n/4503599627370496%2048=2047:=by
  rw [sA,decide_eq_true_eq] at h;omega
theorem Vj(n:Nat) :Int.tmod (Int.fdiv (n:Int) (2^min (Int.toNat 52) IntKind.u64.bits)) 2048=((n/4503599627370496%2048:Nat):Int):=by
  have e:(2^min (Int.toNat 52) IntKind.u64.bits:Int)=((4503599627370496:Nat):Int):=by decide
  rw [e,Int.fdiv_eq_ediv_of_nonneg _ (by omega)];exact Int.tmod_eq_emod_of_nonneg (Int.natCast_nonneg _)
theorem aj.nan{f:FuncId}{g:Nat→iK}{r:iK}(h:∀ n:Nat,aj prog f [] [.int .u64 (n:Int)] (g n))(e:∀ n:Nat,isNaN n=true→g n=r) :aj prog f [] [.nan] r:=by
  intro ρ w us hN hv
  cases hv with | cons _ u _ _ h1 h2 =>
  cases h2
  cases h1 with | nan n hn =>
  rw [←e n hn]
  exact h n ρ w _ hN (.cons _ _ _ _ (.int _ _) .nil)
theorem abf:aj prog pT [] [.nan] ⟨.bool false false,[]⟩:=by
  refine aj.nan (g:=fun n=>⟨.bool false ((Int.tmod (Int.fdiv (n:Int) (2^min (Int.toNat 52) IntKind.u64.bits)) 2048) != 2047),[]⟩) (fun n=>?_) (fun n hn=>?_)
  · have h:vP C0 E0 (j4 C0 E0 0 50) pT [] [.int .u64 n] (some [])=some (⟨.bool false ((Int.tmod (Int.fdiv (n:Int) (2^min (Int.toNat 52) IntKind.u64.bits)) 2048) != 2047),[]⟩,[(decide ((0:Int)≤52)),((2048:Int) != 0)],some []):=by kernel_rfl
    exact aj.run v4 x4 _ _ _ h ⟨rfl,rfl,trivial⟩
  · simp only [Vj,acL hn];rfl
theorem Yr:aj prog pT [] [.nan] ⟨.bool true false,[]⟩:=abf.weak (Ls _ _ _)
def HX:aE:=⟨pT,fun L args=>match L,args with | [],[.nan]=>one (.bool true false) [] | _,_=>none⟩
theorem So:aO prog HX:=by
  intro L args alts a h ha ho
  simp only [HX] at h
  split at h
  · exact uw h ha ho fun q=>Yr
  · cases h
noncomputable def L3:List aE:=HX::L2
theorem adZ:bc prog (bh L3):=ap So ae8
end Go.Plb.Seat
namespace Go.Plb.Seat
open Go Go.Plb
set_option linter.unusedVariables false
set_option maxRecDepth 100000
theorem bo{S:Fz}(hS:bc prog S){lent:List aM}{α X:Type}{cs:List Code}{st:aF}{t:T (α⊕X)}(N:α→aF){E:X→AE×aF}(ks:List NS) 
    (h:ack C0 S 60 cs st t.leaves ks lent.length=aad N E t.leaves:=by kernel_rfl):Sg prog lent cs st t.run N E:=Sg.seg v4 hS 60 cs st t N E ks h
theorem Ej{lent:List aM}{σ ρ X:Type}{cs:List Code}{st:aF}{E:X→AE×aF}{B:σ→Option (σ⊕(ρ⊕X))}{ent:σ}(s:NS)(I:σ→aF)(J:ρ→aF)(id:Nat)(hE:j9 E)(hI:mB id E) 
    (hb:∀ a,Sg prog lent (cY (d7 (cs.headD .skip))) (I a) (B a) I (dH id J E)) (hn:s.ok lent.length=true:=by exact rfl) (h1:s.on st=I ent:=by kernel_rfl) (hcs:cs=[.block id (.loop (d7 (cs.headD .skip)))]:=by kernel_rfl) :
    Sg prog lent cs st (df B ent) J E:=Sg.pre s hn h1 (aa4 hcs hE hI hb ent)
theorem sgb{lent:List aM}{κ X:Type}{cs:List Code}{st:aF}{E:X→AE×aF}{m:Option (κ⊕(κ⊕X))}(K:κ→aF)(id:Nat)(hE:j9 E)(hI:mB id E) 
    (hb:Sg prog lent (cY (inBlock (cs.headD .skip))) st m K (dH id K E)) (hcs:cs=[.block id (inBlock (cs.headD .skip))]:=by kernel_rfl):Sg prog lent cs st (LA m) K E:=X7 hcs hE hI hb
def noE:Empty→aF:=fun a=>a.elim
theorem lC{fn:Func}{k:Nat}{keep:Bool}{o:iK}{st:aF}(vs:List AV)(h1:kV prog fn st fn.results.toList=some (vs,[]):=by kernel_rfl)(h2:Lg k keep st.heap (HJ vs)=some o:=by kernel_rfl) :Z7 prog fn k keep o .ret st :=
  ⟨.inr rfl,vs,[],h1,trivial,h2⟩
theorem lO{f:FuncId}{X:Type}{m:Option (Empty⊕X)}{lent:List aM}{args:List AV}{x:X}(keep:Bool)(o:X→iK)(E:X→AE×aF)(hx:lB m=some x) 
    (h:Sg prog lent (cY (mV f)) (rT (FN f) lent args) m noE E) (hE:∀ x,Z7 prog (FN f) lent.length keep (o x) (E x).1 (E x).2)
    (hf:prog.funcs[f]? = some (FN f):=by kernel_rfl) (hc:(FN f).body=some (mV f):=by kernel_rfl):aj prog f lent args (o x) :=
  Sg.contract (P:=prog) (f:=f) (fn:=FN f) (c:=mV f) (N:=noE) (E:=E) (lent:=lent) (args:=args) keep o hf hc h hE hx
end Go.Plb.Seat
namespace Go.Plb.Seat
open Go Go.Plb
set_option linter.unusedVariables false
set_option maxRecDepth 100000
noncomputable section
inductive bR where
  | r0 (a:Int)
def t0:bR→AE×aF
  | .r0 a=>(.ret,⟨ah 14 [(2,.int .i64 a)],[],0⟩)
def iD:bR→iK
  | .r0 a=>⟨.int .i64 a,[]⟩
def kW(a:Int) :T ((Empty)⊕(bR)) :=
  .ask (a==(0:Int))
    (.leaf (.inr (.r0 (64:Int))))
    (.need (decide ((0:Int)≤(58:Int)))<|.need (gA (Int.fdiv (IntKind.u64.wrap ((dp .and .u64 a (IntKind.u64.wrap ((0:Int)-a)))*(285870213051353865:Int))) (2^(min (Int.toNat (58:Int)) (IntKind.u64.bits)))) 64)<|.need (gM (im (im 0 (KN (Int.toNat (Int.fdiv (IntKind.u64.wrap ((dp .and .u64 a (IntKind.u64.wrap ((0:Int)-a)))*(285870213051353865:Int))) (2^(min (Int.toNat (58:Int)) (IntKind.u64.bits))))) 1)) 0) (List.length aQ))<|.leaf (.inr (.r0 (IntKind.i64.wrap (List.getD aQ (im (im 0 (KN (Int.toNat (Int.fdiv (IntKind.u64.wrap ((dp .and .u64 a (IntKind.u64.wrap ((0:Int)-a)))*(285870213051353865:Int))) (2^(min (Int.toNat (58:Int)) (IntKind.u64.bits))))) 1)) 0) 0)))))
def cV(a:Int) :Option bR:=lB ((kW a).run)
theorem sX(a:Int){x:bR}(h:cV a=some x) :aj prog lG [] [.int .u64 a] (iD x) :=
  lO false iD t0 h (bo adZ _ [⟨[],[],[2]⟩,⟨[],[],[2]⟩])
    (fun x=>by cases x with | r0 b=>exact lC [.int .i64 b])
def dq:Option bR→Bool
  | some _=>true
  | none=>false
def da:Option bR→Int
  | some (.r0 x)=>x
  | _=>0
theorem sY{x:Option bR}(h:dq x=true) :x=some (.r0 (da x)):=by
  unfold dq at h
  split at h<;>first | rfl | (cases h;done) | (rename_i y;cases y;rfl)
def lJ:aE:=bT lG (.cons (.int .u64) .nil) fun t=>(fun q=>[⟨iD (.r0 (da q)),[dq q]⟩]) (cV t.1)
theorem rm:aO prog lJ:=aJ fun t=>(aK (fun h=>sX t.1 (sY h)) bb)
def lK:List aE:=lJ::L3
theorem gN:bc prog (bh lK):=ap rm adZ
inductive dg where
  | r0 (a:Int) (b:Int)
def v9:dg→AE×aF
  | .r0 a b=>(.ret,⟨ah 51 [(4,.int .u64 a),(5,.int .u64 b)],[],0⟩)
theorem Ek:j9 v9:=by intro x;cases x<;>(intro h;cases h)
def pZ:dg→iK
  | .r0 a b=>⟨.tup [.int .u64 a,.int .u64 b],[]⟩
def El(a:Int)(b:Int) :Int×Int×Int×Int→aF:=fun (c,d,e,f)=>⟨ah 51 [(0,.int .u64 a),(1,.int .u64 b),(6,.int .u64 c),(7,.int .u64 d),(9,.int .u64 e),(11,.int .u64 f)],[],0⟩
def uS(a:Int)(b:Int) :T ((Int×Int×Int×Int)⊕(dg)) :=
  .need (decide ((0:Int)≤(32:Int)))<|.need (decide ((0:Int)≤(32:Int)))<|.need (decide ((0:Int)≤(32:Int)))<|.leaf (.inl ((dp .and .u64 a (4294967295:Int)),(Int.fdiv a (2^(min (Int.toNat (32:Int)) (IntKind.u64.bits)))),(Int.fdiv b (2^(min (Int.toNat (32:Int)) (IntKind.u64.bits)))),(IntKind.u64.wrap ((IntKind.u64.wrap ((Int.fdiv a (2^(min (Int.toNat (32:Int)) (IntKind.u64.bits))))*(dp .and .u64 b (4294967295:Int))))+(Int.fdiv (IntKind.u64.wrap ((dp .and .u64 a (4294967295:Int))*(dp .and .u64 b (4294967295:Int)))) (2^(min (Int.toNat (32:Int)) (IntKind.u64.bits))))))))
def o7(c:Int)(d:Int)(e:Int)(f:Int)(a:Int)(b:Int) :T ((Empty)⊕(dg)) :=
  .need (decide ((0:Int)≤(32:Int)))<|.need (decide ((0:Int)≤(32:Int)))<|.leaf (.inr (.r0 (IntKind.u64.wrap ((IntKind.u64.wrap ((IntKind.u64.wrap (f*a))+(Int.fdiv b (2^(min (Int.toNat (32:Int)) (IntKind.u64.bits))))))+(Int.fdiv (IntKind.u64.wrap ((dp .and .u64 b (4294967295:Int))+(IntKind.u64.wrap (e*a)))) (2^(min (Int.toNat (32:Int)) (IntKind.u64.bits)))))) (IntKind.u64.wrap (c*d))))
def eA(a:Int)(b:Int) :Option dg:=lB (aC ((uS a b).run) fun (c,d,e,f) =>
  (o7 a b c d e f).run)
theorem Em(a:Int)(b:Int){x:dg}(h:eA a b=some x) :aj prog vY [] [.int .u64 a,.int .u64 b] (pZ x) :=
  lO false pZ v9 h (Sg.cut 7 Ek (bo gN (El a b) [⟨[],[],[0,1,6,7,9,11]⟩]) (fun ⟨e,f,g,i⟩=>bo gN _ [⟨[],[],[4,5]⟩]))
    (fun x=>by cases x with | r0 c d=>exact lC [.int .u64 c,.int .u64 d])
def i6:Option dg→Bool
  | some _=>true
  | none=>false
def ju:Option dg→Int
  | some (.r0 x _)=>x
  | _=>0
def fw:Option dg→Int
  | some (.r0 _ x)=>x
  | _=>0
theorem En{x:Option dg}(h:i6 x=true) :x=some (.r0 (ju x) (fw x)):=by
  unfold i6 at h
  split at h<;>first | rfl | (cases h;done) | (rename_i y;cases y;rfl)
def wa:aE:=bT vY (.cons (.int .u64) (.cons (.int .u64) .nil)) fun t=>(fun q=>[⟨pZ (.r0 (ju q) (fw q)),[i6 q]⟩]) (eA t.1 t.2.1)
theorem AS:aO prog wa:=aJ fun t=>(aK (fun h=>Em t.1 t.2.1 (En h)) bb)
def wb:List aE:=wa::lK
theorem hH:bc prog (bh wb):=ap AS gN
inductive gO where
  | r0 (a:List Int) (b:Nat)
def yK(a:Lv) :gO→AE×aF
  | .r0 b c=>(.ret,⟨ah 21 [(2,.imm a (.ns .u64 b) 1 1 0 c)],[],0⟩)
theorem wc{a:Lv} :j9 (yK a):=by intro x;cases x<;>(intro h;cases h)
theorem Vk{a:Lv}(id:Nat) :mB id (yK a):=by intro x;cases x<;>(intro h;cases h)
def Eo(a:Lv) :gO→iK
  | .r0 b c=>⟨.imm a (.ns .u64 b) 1 1 0 c,[]⟩
def Vl:List Code:=cY (mV o0)
def Vm(b:Lv)(a:List Int)(_:Unit) :aF:=⟨ah 21 [(0,.imm b (.ns .u64 a) 1 1 0 (List.length a))],[],0⟩
def Vn:T ((Unit)⊕(gO)) :=
  .leaf (.inl ())
def AT(a:Lv)(b:List Int)(c:Nat) :aF:=⟨ah 21 [(0,.imm a (.ns .u64 b) 1 1 0 c)],[],0⟩
def IT(a:Lv)(b:List Int)(c:Nat) :aF:=⟨ah 21 [(0,.imm a (.ns .u64 b) 1 1 0 c)],[],0⟩
def Sp:List Code:=cY (d7 ((((Vl.drop 1).take 1)).headD .skip))
def Vo(a:Lv)(b:List Int)(c:Nat)(d:Bool) :aF:=⟨ah 21 [(0,.imm a (.ns .u64 b) 1 1 0 c),(14,.bool false d)],[],0⟩
def p5(b:List Int)(a:Nat) :T ((Bool)⊕((Nat)⊕(gO))) :=
  .ask (decide (((a:Nat):Int)>(0:Int)))
    (.need (dI .i64 (((a:Nat):Int)-(1:Int)))<|.need (gA (((a:Nat):Int)-(1:Int)) a)<|.need (gM (Int.toNat (((a:Nat):Int)-(1:Int))) (List.length b))<|.leaf (.inl ((List.getD b (Int.toNat (((a:Nat):Int)-(1:Int))) 0)==(0:Int))))
    (.leaf (.inl false))
def FX(a:Nat)(b:Bool) :T ((Nat)⊕((Nat)⊕(gO))) :=
  .ask b
    (.need (dI .i64 (((a:Nat):Int)-(1:Int)))<|.need (CW (((a:Nat):Int)-(1:Int)) a)<|.need (CW (0:Int) (Int.toNat (((a:Nat):Int)-(1:Int))))<|.leaf (.inl (Int.toNat (((a:Nat):Int)-(1:Int)))))
    (.leaf (.inr (.inl a)))
def yL(b:List Int) :Nat→Option ((Nat)⊕((Nat)⊕(gO))):=fun a =>
  aC ((p5 b a).run) fun c =>
  (FX a c).run
theorem Sq(a:Lv)(b:List Int)(c:Nat) :Sg prog [] Sp (AT a b c) (yL b c) (AT a b) (dH 0 (IT a b) (yK a)):=by
  unfold yL;exact Sg.cut 1 (bB wc) (bo hH (Vo a b c) [⟨[],[],[0,14]⟩,⟨[],[],[0,14]⟩]) (fun d=>bo hH _ [⟨[],[],[0]⟩,⟨[],[],[0]⟩])
def Sr(a:List Int)(b:Nat) :T ((Empty)⊕(gO)) :=
  .leaf (.inr (.r0 a b))
def au(a:List Int) :Option gO:=lB (aC ((Vn).run) fun _ =>
  aC (df (yL a) (List.length a)) fun b =>
  (Sr a b).run)
theorem Vp(a:Lv)(b:List Int){x:gO}(h:au b=some x) :aj prog o0 [] [.imm a (.ns .u64 b) 1 1 0 (List.length b)] (Eo a x) :=
  lO false (Eo a) (yK a) h (Sg.cut 1 wc (bo hH (Vm a b) [⟨[],[],[0]⟩]) (fun _=>Sg.cut 1 wc (Ej ⟨[],[],[0]⟩ (AT a b) (IT a b) 0 wc (Vk _) (fun c=>Sq a b c)) (fun f=>bo hH _ [⟨[],[],[2]⟩])))
    (fun x=>by cases x with | r0 d e=>exact lC [.imm a (.ns .u64 d) 1 1 0 e])
def bM:Option gO→Bool
  | some _=>true
  | none=>false
def aG:Option gO→List Int
  | some (.r0 x _)=>x
  | _=>[]
def aA:Option gO→Nat
  | some (.r0 _ x)=>x
  | _=>0
theorem Vq{x:Option gO}(h:bM x=true) :x=some (.r0 (aG x) (aA x)):=by
  unfold bM at h
  split at h<;>first | rfl | (cases h;done) | (rename_i y;cases y;rfl)
def LN:aE:=bT o0 (.cons (.ns .u64) .nil) fun t=>(fun q=>[⟨Eo t.1.1 (.r0 (aG q) (aA q)),[bM q]⟩]) (au t.1.2)
theorem Oq:aO prog LN:=aJ fun t=>(aK (fun h=>Vp t.1.1 t.1.2 (Vq h)) bb)
def LO:List aE:=LN::wb
theorem wJ:bc prog (bh LO):=ap Oq hH
inductive i7 where
  | r0 (a:Nat) (b:Nat) (c:List Int)
def LP:i7→AE×aF
  | .r0 a b c=>(.ret,⟨ah 12 [(2,.sl 0 1 1 0 a a),(3,.int .i64 ((b:Nat):Int))],[(0,.ns .u64 c)],1⟩)
theorem Vr:j9 LP:=by intro x;cases x<;>(intro h;cases h)
def Ep:i7→iK
  | .r0 a b c=>⟨.tup [.imm .free (.ns .u64 c) 1 1 0 a,.int .i64 ((b:Nat):Int)],[]⟩
def Vs(a:Lv) :Nat×(List Int)×Nat→aF:=fun (b,c,d)=>⟨ah 12 [(1,.ptr 0 1 0 0),(4,.int .i64 ((b:Nat):Int))],[(0,.vs [.imm a (.ns .u64 c) 1 1 0 d])],1⟩
def AU(a:List Int) :T ((Nat×(List Int)×Nat)⊕(i7)) :=
  .ask (decide ((0:Int)<(1:Int)))
    (.need (gA (0:Int) 1)<|.need (aP 0 (List.length a) a)<|.need (bM (au (aa 0 (List.length a) a)))<|.ask (decide ((((aA (au (aa 0 (List.length a) a))):Nat):Int)>(4096:Int)))
      (.leaf (.inl (2,(aG (au (aa 0 (List.length a) a))),(aA (au (aa 0 (List.length a) a))))))
      (.need (dI .i64 (1:Int))<|.ask (decide ((1:Int)<(1:Int)))
        (.fail)
        (.leaf (.inl (0,(aG (au (aa 0 (List.length a) a))),(aA (au (aa 0 (List.length a) a))))))))
    (.fail)
def AW(c:Nat)(a:List Int)(b:Nat) :T ((Empty)⊕(i7)) :=
  .ask (((c:Nat):Int) != (0:Int))
    (.leaf (.inr (.r0 0 c ([]:List Int))))
    (.need (aP 0 b a)<|.need (sG (List.length (aa 0 b a)))<|.leaf (.inr (.r0 (List.length (aa 0 b a)) 0 (aa 0 b a))))
def l4(a:List Int) :Option i7:=lB (aC ((AU a).run) fun (b,c,d) =>
  (AW b c d).run)
theorem Vt(b:Lv)(a:List Int){x:i7}(h:l4 a=some x) :aj prog Eb [] [.imm b (.ns .u64 a) 1 1 0 (List.length a)] (Ep x) :=
  lO true Ep LP h (Sg.cut 2 Vr (bo wJ (Vs b) [⟨[],[0],[1,4]⟩,⟨[],[0],[1,4]⟩]) (fun ⟨e,f,g⟩=>bo wJ _ [⟨[(.slot 2,.own 1 1 (.ns .u64 ([]:List Int)))],[81],[2,3]⟩,⟨[],[49],[2,3]⟩]))
    (fun x=>by cases x with | r0 c d i=>exact lC [.sl 0 1 1 0 c c,.int .i64 ((d:Nat):Int)])
def sH:Option i7→Bool
  | some _=>true
  | none=>false
def wK:Option i7→Nat
  | some (.r0 x _ _)=>x
  | _=>0
def wL:Option i7→Nat
  | some (.r0 _ x _)=>x
  | _=>0
def wM:Option i7→List Int
  | some (.r0 _ _ x)=>x
  | _=>[]
theorem Vu{x:Option i7}(h:sH x=true) :x=some (.r0 (wK x) (wL x) (wM x)):=by
  unfold sH at h
  split at h<;>first | rfl | (cases h;done) | (rename_i y;cases y;rfl)
def LQ:aE:=bT Eb (.cons (.ns .u64) .nil) fun t=>(fun q=>[⟨Ep (.r0 (wK q) (wL q) (wM q)),[sH q]⟩]) (l4 t.1.2)
theorem Ot:aO prog LQ:=aJ fun t=>(aK (fun h=>Vt t.1.1 t.1.2 (Vu h)) bb)
def LR:List aE:=LQ::LO
theorem nq:bc prog (bh LR):=ap Ot wJ
inductive cQ where
  | r0 (a:Nat) (b:Nat) (c:Nat) (d:List Int)
def rW:cQ→AE×aF
  | .r0 a b c d=>(.ret,⟨ah 21 [(2,.sl 0 1 1 a b c)],[(0,.ns .u64 d)],1⟩)
theorem p6:j9 rW:=by intro x;cases x<;>(intro h;cases h)
theorem LS(id:Nat) :mB id rW:=by intro x;cases x<;>(intro h;cases h)
def wN:cQ→iK
  | .r0 a b c d=>⟨.sl 0 1 1 a b c,[some (.ns .u64 d)]⟩
def LT:List Code:=cY (mV o0)
def LU(a:List Int)(b:Nat)(c:Nat)(d:Nat)(_:Unit) :aF:=⟨ah 21 [(0,.sl 0 1 1 b c d)],[(0,.ns .u64 a)],1⟩
def LV:T ((Unit)⊕(cQ)) :=
  .leaf (.inl ())
def uT(a:List Int)(b:Nat) :Nat×Nat→aF:=fun (c,d)=>⟨ah 21 [(0,.sl 0 1 1 c d b)],[(0,.ns .u64 a)],1⟩
def AX(a:List Int)(b:Nat) :Nat×Nat→aF:=fun (c,d)=>⟨ah 21 [(0,.sl 0 1 1 c d b)],[(0,.ns .u64 a)],1⟩
def JO:List Code:=cY (d7 ((((LT.drop 1).take 1)).headD .skip))
def LW(a:List Int)(b:Nat)(c:Nat)(d:Nat)(e:Bool) :aF:=⟨ah 21 [(0,.sl 0 1 1 c d b),(14,.bool false e)],[(0,.ns .u64 a)],1⟩
def kX(b:List Int)(c:Nat)(a:Nat) :T ((Bool)⊕((Nat×Nat)⊕(cQ))) :=
  .ask (decide (((a:Nat):Int)>(0:Int)))
    (.need (dI .i64 (((a:Nat):Int)-(1:Int)))<|.need (gA (((a:Nat):Int)-(1:Int)) a)<|.need (gM (im c (Int.toNat (((a:Nat):Int)-(1:Int)))) (List.length b))<|.leaf (.inl ((List.getD b (im c (Int.toNat (((a:Nat):Int)-(1:Int)))) 0)==(0:Int))))
    (.leaf (.inl false))
def z9(c:Nat)(b:Nat)(a:Nat)(d:Bool) :T ((Nat×Nat)⊕((Nat×Nat)⊕(cQ))) :=
  .ask d
    (.need (dI .i64 (((a:Nat):Int)-(1:Int)))<|.need (CW (((a:Nat):Int)-(1:Int)) c)<|.need (CW (0:Int) (Int.toNat (((a:Nat):Int)-(1:Int))))<|.leaf (.inl ((im b 0),(Int.toNat (((a:Nat):Int)-(1:Int))))))
    (.leaf (.inr (.inl (b,a))))
def sZ(c:List Int)(d:Nat) :Nat×Nat→Option ((Nat×Nat)⊕((Nat×Nat)⊕(cQ))):=fun (a,b) =>
  aC ((kX c a b).run) fun e =>
  (z9 d a b e).run
theorem JP(a:List Int)(b:Nat)(c:Nat)(d:Nat) :Sg prog [.ns .u64 a] JO (uT a b (c,d)) (sZ a b (c,d)) (uT a b) (dH 0 (AX a b) rW):=by
  unfold sZ;exact Sg.cut 1 (bB p6) (bo nq (LW a b c d) [⟨[],[0],[0,14]⟩,⟨[],[0],[0,14]⟩]) (fun e=>bo nq _ [⟨[],[0],[0]⟩,⟨[],[0],[0]⟩])
def JQ(a:List Int)(b:Nat)(c:Nat)(d:Nat) :T ((Empty)⊕(cQ)) :=
  .leaf (.inr (.r0 c d b a))
def bi(a:List Int)(c:Nat)(d:Nat)(b:Nat) :Option cQ:=lB (aC ((LV).run) fun _ =>
  aC (df (sZ a b) (c,d)) fun (e,f) =>
  (JQ a b e f).run)
theorem LX(a:List Int)(c:Nat)(d:Nat)(b:Nat){x:cQ}(h:bi a c d b=some x) :aj prog o0 [.ns .u64 a] [.sl 0 1 1 c d b] (wN x) :=
  lO false wN rW h (Sg.cut 1 p6 (bo nq (LU a c d b) [⟨[],[0],[0]⟩]) (fun _=>Sg.cut 1 p6 (Ej ⟨[],[0],[0]⟩ (uT a b) (AX a b) 0 p6 (LS _) (fun ⟨e,f⟩=>JP a b e f)) (fun ⟨k,l⟩=>bo nq _ [⟨[],[0],[2]⟩])))
    (fun x=>by cases x with | r0 g i j m=>exact lC [.sl 0 1 1 g i j])
def hJ:Option cQ→Bool
  | some _=>true
  | none=>false
def gP:Option cQ→Nat
  | some (.r0 x _ _ _)=>x
  | _=>0
def gQ:Option cQ→Nat
  | some (.r0 _ x _ _)=>x
  | _=>0
def gS:Option cQ→Nat
  | some (.r0 _ _ x _)=>x
  | _=>0
def gT:Option cQ→List Int
  | some (.r0 _ _ _ x)=>x
  | _=>[]
theorem LY{x:Option cQ}(h:hJ x=true) :x=some (.r0 (gP x) (gQ x) (gS x) (gT x)):=by
  unfold hJ at h
  split at h<;>first | rfl | (cases h;done) | (rename_i y;cases y;rfl)
def C9:aE:=UT o0 [.ns .u64] (.cons (.lsl 0) .nil) fun x t=>(fun q=>[⟨wN (.r0 (gP q) (gQ q) (gS q) (gT q)),[hJ q]⟩]) (bi x.1 t.1.1 t.1.2.1 t.1.2.2)
theorem HY:aO prog C9:=Lw fun x t=>(Cg (fun h=>LX x.1 t.1.1 t.1.2.1 t.1.2.2 (LY h)) Lx)
def Da:List aE:=C9::LR
theorem rn:bc prog (bh Da):=ap HY nq
inductive kY where
  | r0 (a:Nat) (b:Nat) (c:Nat) (d:List Int)
def Vv:kY→AE×aF
  | .r0 a b c d=>(.ret,⟨ah 6 [(2,.sl 0 1 1 a b c)],[(0,.ns .u64 d)],1⟩)
theorem abg:j9 Vv:=by intro x;cases x<;>(intro h;cases h)
def LZ:kY→iK
  | .r0 a b d c=>⟨.imm .free (.ns .u64 c) 1 1 a b,[]⟩
def abh:Nat×Nat×Nat×(List Int)→aF:=fun (a,b,c,d)=>⟨ah 6 [(2,.sl 0 1 1 a b c)],[(0,.ns .u64 d)],1⟩
def Q0(a:Int) :T ((Nat×Nat×Nat×(List Int))⊕(kY)) :=
  .need (hJ (bi [a] 0 1 1))<|.leaf (.inl ((gP (bi [a] 0 1 1)),(gQ (bi [a] 0 1 1)),(gS (bi [a] 0 1 1)),(gT (bi [a] 0 1 1))))
def abi(a:Nat)(b:Nat)(c:Nat)(d:List Int) :T ((Empty)⊕(kY)) :=
  .leaf (.inr (.r0 a b c d))
def bt(a:Int) :Option kY:=lB (aC ((Q0 a).run) fun (b,c,d,e) =>
  (abi b c d e).run)
theorem abj(a:Int){x:kY}(h:bt a=some x) :aj prog Ly [] [.int .u64 a] (LZ x) :=
  lO true LZ Vv h (Sg.cut 2 abg (bo rn abh [⟨[],[32],[2]⟩]) (fun ⟨e,f,g,i⟩=>bo rn _ [⟨[],[0],[2]⟩]))
    (fun x=>by cases x with | r0 b c d j=>exact lC [.sl 0 1 1 b c d])
def rp:Option kY→Bool
  | some _=>true
  | none=>false
def cZ:Option kY→Nat
  | some (.r0 x _ _ _)=>x
  | _=>0
def c5:Option kY→Nat
  | some (.r0 _ x _ _)=>x
  | _=>0
def IU:Option kY→Nat
  | some (.r0 _ _ x _)=>x
  | _=>0
def c6:Option kY→List Int
  | some (.r0 _ _ _ x)=>x
  | _=>[]
theorem abk{x:Option kY}(h:rp x=true) :x=some (.r0 (cZ x) (c5 x) (IU x) (c6 x)):=by
  unfold rp at h
  split at h<;>first | rfl | (cases h;done) | (rename_i y;cases y;rfl)
def Vw:aE:=bT Ly (.cons (.int .u64) .nil) fun t=>(fun q=>[⟨LZ (.r0 (cZ q) (c5 q) (IU q) (c6 q)),[rp q]⟩]) (bt t.1)
theorem Vx:aO prog Vw:=aJ fun t=>(aK (fun h=>abj t.1 (abk h)) bb)
def Vy:List aE:=Vw::Da
theorem wd:bc prog (bh Vy):=ap Vx rn
inductive kd where
  | r0 (a:Int)
def Cs:kd→AE×aF
  | .r0 a=>(.ret,⟨ah 45 [(4,.int .i64 a)],[],0⟩)
theorem Eq:j9 Cs:=by intro x;cases x<;>(intro h;cases h)
theorem Ys(id:Nat) :mB id Cs:=by intro x;cases x<;>(intro h;cases h)
def HZ:kd→iK
  | .r0 a=>⟨.int .i64 a,[]⟩
def Yt:List Code:=cY (mV HQ)
def Yu(c:Lv)(a:List Int)(d:Lv)(b:List Int)(e:Int) :aF:=⟨ah 45 [(0,.imm c (.ns .u64 a) 1 1 0 (List.length a)),(1,.imm d (.ns .u64 b) 1 1 0 (List.length b)),(5,.int .i64 e)],[],0⟩
def yM(a:List Int)(b:List Int) :T ((Int)⊕(kd)) :=
  .ask (decide ((((List.length a):Nat):Int)<(((List.length b):Nat):Int)))
    (.leaf (.inr (.r0 (-1:Int))))
    (.ask (decide ((((List.length a):Nat):Int)>(((List.length b):Nat):Int)))
      (.leaf (.inr (.r0 (1:Int))))
      (.need (dI .i64 ((((List.length a):Nat):Int)-(1:Int)))<|.leaf (.inl ((((List.length a):Nat):Int)-(1:Int)))))
def Er(c:Lv)(a:List Int)(d:Lv)(b:List Int)(e:Int) :aF:=⟨ah 45 [(0,.imm c (.ns .u64 a) 1 1 0 (List.length a)),(1,.imm d (.ns .u64 b) 1 1 0 (List.length b)),(5,.int .i64 e)],[],0⟩
def L0(_:Unit) :aF:=⟨ah 45 [],[],0⟩
def Yv:List Code:=cY (d7 ((((Yt.drop 3).take 1)).headD .skip))
def uU(b:List Int)(c:List Int)(a:Int) :T ((Int)⊕((Unit)⊕(kd))) :=
  .ask (decide (a≥(0:Int)))
    (.need (gA a (List.length b))<|.need (gM (Int.toNat a) (List.length b))<|.need (gA a (List.length c))<|.need (gM (Int.toNat a) (List.length c))<|.ask (decide ((List.getD b (Int.toNat a) 0)<(List.getD c (Int.toNat a) 0)))
      (.leaf (.inr (.inr (.r0 (-1:Int)))))
      (.need (gA a (List.length b))<|.need (gM (Int.toNat a) (List.length b))<|.need (gA a (List.length c))<|.need (gM (Int.toNat a) (List.length c))<|.ask (decide ((List.getD b (Int.toNat a) 0)>(List.getD c (Int.toNat a) 0)))
        (.leaf (.inr (.inr (.r0 (1:Int)))))
        (.need (dI .i64 (a-(1:Int)))<|.leaf (.inl (a-(1:Int))))))
    (.leaf (.inr (.inl ())))
def we(a:List Int)(b:List Int) :Int→Option ((Int)⊕((Unit)⊕(kd))):=fun c =>
  (uU a b c).run
theorem Vz(c:Lv)(a:List Int)(d:Lv)(b:List Int)(e:Int) :Sg prog [] Yv (Er c a d b e) (we a b e) (Er c a d b) (dH 1 L0 Cs):=by
  unfold we;exact bo wd _ [⟨[],[],[4]⟩,⟨[],[],[4]⟩,⟨[],[],[0,1,5]⟩,⟨[],[],[]⟩]
def VA:T ((Empty)⊕(kd)) :=
  .leaf (.inr (.r0 (0:Int)))
def rq(a:List Int)(b:List Int) :Option kd:=lB (aC ((yM a b).run) fun c =>
  aC (df (we a b) c) fun _ =>
  (VA).run)
theorem Yw(c:Lv)(a:List Int)(d:Lv)(b:List Int){x:kd}(h:rq a b=some x) :aj prog HQ [] [.imm c (.ns .u64 a) 1 1 0 (List.length a),.imm d (.ns .u64 b) 1 1 0 (List.length b)] (HZ x) :=
  lO false HZ Cs h (Sg.cut 3 Eq (bo wd (Yu c a d b) [⟨[],[],[4]⟩,⟨[],[],[4]⟩,⟨[],[],[0,1,5]⟩]) (fun g=>Sg.cut 1 Eq (Ej ⟨[],[],[0,1,5]⟩ (Er c a d b) (L0) 1 Eq (Ys _) (fun e=>Vz c a d b e)) (fun _=>bo wd _ [⟨[],[],[4]⟩])))
    (fun x=>by cases x with | r0 f=>exact lC [.int .i64 f])
def uV:Option kd→Bool
  | some _=>true
  | none=>false
def ua:Option kd→Int
  | some (.r0 x)=>x
  | _=>0
theorem Yx{x:Option kd}(h:uV x=true) :x=some (.r0 (ua x)):=by
  unfold uV at h
  split at h<;>first | rfl | (cases h;done) | (rename_i y;cases y;rfl)
def Q2:aE:=bT HQ (.cons (.ns .u64) (.cons (.ns .u64) .nil)) fun t=>(fun q=>[⟨HZ (.r0 (ua q)),[uV q]⟩]) (rq t.1.2 t.2.1.2)
theorem Ss:aO prog Q2:=aJ fun t=>(aK (fun h=>Yw t.1.1 t.1.2 t.2.1.1 t.2.1.2 (Yx h)) bb)
def Q3:List aE:=Q2::Vy
theorem ub:bc prog (bh Q3):=ap Ss wd
inductive ke where
  | r0 (a:Int) (b:Nat)
def Q4:ke→AE×aF
  | .r0 a b=>(.ret,⟨ah 15 [(4,.int .i64 a),(5,.int .i64 ((b:Nat):Int))],[],0⟩)
theorem L4:j9 Q4:=by intro x;cases x<;>(intro h;cases h)
def H0:ke→iK
  | .r0 a b=>⟨.tup [.int .i64 a,.int .i64 ((b:Nat):Int)],[]⟩
def Yy(a:Lv)(b:Lv) :Nat×(List Int)×Nat×(List Int)×Nat→aF:=fun (c,d,e,f,g)=>⟨ah 15 [(2,.ptr 0 1 0 0),(3,.ptr 1 1 0 0),(6,.int .i64 ((c:Nat):Int))],[(0,.vs [.imm a (.ns .u64 d) 1 1 0 e]),(1,.vs [.imm b (.ns .u64 f) 1 1 0 g])],2⟩
def L5(a : List Int)(b : List Int) : T ((Nat × (List Int) × Nat × (List Int) × Nat) ⊕ (ke)) :=
  .ask (decide ((0:Int)<(2:Int)))
    (.need (gA (0:Int) 2)<|.need (aP 0 (List.length a) a)<|.need (bM (au (aa 0 (List.length a) a)))<|.ask (decide ((((aA (au (aa 0 (List.length a) a))):Nat):Int)>(4096:Int)))
      (.leaf (.inl (2,(aG (au (aa 0 (List.length a) a))),(aA (au (aa 0 (List.length a) a))),b,(List.length b))))
      (.need (dI .i64 (1:Int))<|.ask (decide ((1:Int)<(2:Int)))
        (.need (gA (1:Int) 2)<|.need (aP 0 (List.length b) b)<|.need (bM (au (aa 0 (List.length b) b)))<|.ask (decide ((((aA (au (aa 0 (List.length b) b))):Nat):Int)>(4096:Int)))
          (.leaf (.inl (2,(aG (au (aa 0 (List.length a) a))),(aA (au (aa 0 (List.length a) a))),(aG (au (aa 0 (List.length b) b))),(aA (au (aa 0 (List.length b) b))))))
          (.need (dI .i64 (2:Int))<|.ask (decide ((2:Int)<(2:Int)))
            (.fail)
            (.leaf (.inl (0,(aG (au (aa 0 (List.length a) a))),(aA (au (aa 0 (List.length a) a))),(aG (au (aa 0 (List.length b) b))),(aA (au (aa 0 (List.length b) b))))))))
        (.fail)))
    (.fail)
def Yz(a:Int) :aF:=⟨ah 15 [(4,.int .i64 a),(5,.int .i64 (0:Int))],[],0⟩
def L6(e:Nat)(a:List Int)(b:Nat)(c:List Int)(d:Nat) :T ((Int)⊕(ke)) :=
  .ask (((e:Nat):Int) != (0:Int))
    (.leaf (.inr (.r0 (0:Int) e)))
    (.need (aP 0 b a)<|.need (aP 0 d c)<|.need (uV (rq (aa 0 b a) (aa 0 d c)))<|.leaf (.inl (ua (rq (aa 0 b a) (aa 0 d c)))))
def YA(a:Int) :T ((Empty)⊕(ke)) :=
  .leaf (.inr (.r0 a 0))
def rr(a:List Int)(b:List Int) :Option ke:=lB (aC ((L5 a b).run) fun (c,d,e,f,g) =>
  aC ((L6 c d e f g).run) fun h =>
  (YA h).run)
theorem YB(c:Lv)(a:List Int)(d:Lv)(b:List Int){x:ke}(h:rr a b=some x) :aj prog HN [] [.imm c (.ns .u64 a) 1 1 0 (List.length a),.imm d (.ns .u64 b) 1 1 0 (List.length b)] (H0 x) :=
  lO true H0 Q4 h (Sg.cut 2 L4 (bo ub (Yy c d) [⟨[],[0,16],[2,3,6]⟩,⟨[],[0,16],[2,3,6]⟩,⟨[],[0,16],[2,3,6]⟩]) (fun ⟨g,i,j,k,l⟩=>Sg.cut 3 L4 (bo ub Yz [⟨[],[],[4,5]⟩,⟨[],[],[4,5]⟩]) (fun m=>bo ub _ [⟨[],[],[4,5]⟩])))
    (fun x=>by cases x with | r0 e f=>exact lC [.int .i64 e,.int .i64 ((f:Nat):Int)])
def uW:Option ke→Bool
  | some _=>true
  | none=>false
def uc:Option ke→Int
  | some (.r0 x _)=>x
  | _=>0
def FY:Option ke→Nat
  | some (.r0 _ x)=>x
  | _=>0
theorem YC{x:Option ke}(h:uW x=true) :x=some (.r0 (uc x) (FY x)):=by
  unfold uW at h
  split at h<;>first | rfl | (cases h;done) | (rename_i y;cases y;rfl)
def Q5:aE:=bT HN (.cons (.ns .u64) (.cons (.ns .u64) .nil)) fun t=>(fun q=>[⟨H0 (.r0 (uc q) (FY q)),[uW q]⟩]) (rr t.1.2 t.2.1.2)
theorem St:aO prog Q5:=aJ fun t=>(aK (fun h=>YB t.1.1 t.1.2 t.2.1.1 t.2.1.2 (YC h)) bb)
def Q6:List aE:=Q5::Q3
theorem yN:bc prog (bh Q6):=ap St ub
inductive fk where
  | r0 (a:List Int)
  | r1 (b:Nat) (c:Nat) (d:Nat) (e:List Int)
def L7:fk→AE×aF
  | .r0 a=>(.ret,⟨ah 10 [(2,.nsl),(3,.int .i64 (3:Int))],[(0,.ns .u64 a)],1⟩)
  | .r1 b c d e=>(.ret,⟨ah 10 [(2,.sl 0 1 1 b c d),(3,.int .i64 (0:Int))],[(0,.ns .u64 e)],1⟩)
theorem VB:j9 L7:=by intro x;cases x<;>(intro h;cases h)
def yO:fk→iK
  | .r0 a=>⟨.tup [.nsl,.int .i64 (3:Int)],[some (.ns .u64 a)]⟩
  | .r1 b c d e=>⟨.tup [.sl 0 1 1 b c d,.int .i64 (0:Int)],[some (.ns .u64 e)]⟩
def VC:Nat×Nat×Nat×(List Int)→aF:=fun (a,b,c,d)=>⟨ah 10 [(0,.sl 0 1 1 a b c)],[(0,.ns .u64 d)],1⟩
def IV(a:List Int)(b:Nat)(c:Nat)(d:Nat) :T ((Nat×Nat×Nat×(List Int))⊕(fk)) :=
  .need (hJ (bi a b c d))<|.leaf (.inl ((gP (bi a b c d)),(gQ (bi a b c d)),(gS (bi a b c d)),(gT (bi a b c d))))
def VD(c:Nat)(a:Nat)(d:Nat)(b:List Int) :T ((Empty)⊕(fk)) :=
  .ask (decide (((a:Nat):Int)>(4096:Int)))
    (.leaf (.inr (.r0 b)))
    (.leaf (.inr (.r1 c a d b)))
def fo(a:List Int)(b:Nat)(c:Nat)(d:Nat) :Option fk:=lB (aC ((IV a b c d).run) fun (e,f,g,h) =>
  (VD e f g h).run)
theorem IW(a:List Int)(b:Nat)(c:Nat)(d:Nat){x:fk}(h:fo a b c d=some x) :aj prog uO [.ns .u64 a] [.sl 0 1 1 b c d] (yO x) :=
  lO false yO L7 h (Sg.cut 2 VB (bo yN VC [⟨[],[0],[0]⟩]) (fun ⟨i,j,k,l⟩=>bo yN _ [⟨[],[0],[2,3]⟩,⟨[],[0],[2,3]⟩]))
    (fun x=>by cases x with | r0 m=>exact lC [.nsl,.int .i64 (3:Int)] | r1 e f g n=>exact lC [.sl 0 1 1 e f g,.int .i64 (0:Int)])
def sI:Option fk→Bool
  | some (.r0 _)=>true
  | _=>false
def Db:Option fk→List Int
  | some (.r0 x)=>x
  | _=>[]
theorem VE{x:Option fk}(h:sI x=true) :x=some (.r0 (Db x)):=by
  unfold sI at h
  split at h<;>first | rfl | (cases h;done) | (rename_i y;cases y;rfl)
def sJ:Option fk→Bool
  | some (.r1 _ _ _ _)=>true
  | _=>false
def rX:Option fk→Nat
  | some (.r1 x _ _ _)=>x
  | _=>0
def rY:Option fk→Nat
  | some (.r1 _ x _ _)=>x
  | _=>0
def rZ:Option fk→Nat
  | some (.r1 _ _ x _)=>x
  | _=>0
def r5:Option fk→List Int
  | some (.r1 _ _ _ x)=>x
  | _=>[]
theorem VF{x:Option fk}(h:sJ x=true) :x=some (.r1 (rX x) (rY x) (rZ x) (r5 x)):=by
  unfold sJ at h
  split at h<;>first | rfl | (cases h;done) | (rename_i y;cases y;rfl)
def L8:aE:=UT uO [.ns .u64] (.cons (.lsl 0) .nil) fun x t=>(fun q=>[⟨yO (.r0 (Db q)),[sI q]⟩,⟨yO (.r1 (rX q) (rY q) (rZ q) (r5 q)),[sJ q]⟩]) (fo x.1 t.1.1 t.1.2.1 t.1.2.2)
theorem Ou:aO prog L8:=Lw fun x t=>(Cg (fun h=>IW x.1 t.1.1 t.1.2.1 t.1.2.2 (VE h)) (Cg (fun h=>IW x.1 t.1.1 t.1.2.1 t.1.2.2 (VF h)) Lx))
def L9:List aE:=L8::Q6
theorem iL:bc prog (bh L9):=ap Ou yN
inductive dV where
  | r0 (a:Nat) (b:Nat) (c:Nat) (d:Nat) (e:List Int)
def Ct:dV→AE×aF
  | .r0 a b c d e=>(.ret,⟨ah 62 [(4,.sl 0 1 1 a b c),(5,.int .i64 ((d:Nat):Int))],[(0,.ns .u64 e)],1⟩)
theorem o8:j9 Ct:=by intro x;cases x<;>(intro h;cases h)
theorem YD(id:Nat) :mB id Ct:=by intro x;cases x<;>(intro h;cases h)
def H2:dV→iK
  | .r0 a b e c d=>⟨.tup [.imm .free (.ns .u64 d) 1 1 a b,.int .i64 ((c:Nat):Int)],[]⟩
def VG:List Code:=cY (mV Ci)
def YE(a:Lv)(b:Lv) :Nat×(List Int)×Nat×(List Int)×Nat→aF:=fun (c,d,e,f,g)=>⟨ah 62 [(2,.ptr 0 1 0 0),(3,.ptr 1 1 0 0),(6,.int .i64 ((c:Nat):Int))],[(0,.vs [.imm a (.ns .u64 d) 1 1 0 e]),(1,.vs [.imm b (.ns .u64 f) 1 1 0 g])],2⟩
def IX(a : List Int)(b : List Int) : T ((Nat × (List Int) × Nat × (List Int) × Nat) ⊕ (dV)) :=
  .ask (decide ((0:Int)<(2:Int)))
    (.need (gA (0:Int) 2)<|.need (aP 0 (List.length a) a)<|.need (bM (au (aa 0 (List.length a) a)))<|.ask (decide ((((aA (au (aa 0 (List.length a) a))):Nat):Int)>(4096:Int)))
      (.leaf (.inl (2,(aG (au (aa 0 (List.length a) a))),(aA (au (aa 0 (List.length a) a))),b,(List.length b))))
      (.need (dI .i64 (1:Int))<|.ask (decide ((1:Int)<(2:Int)))
        (.need (gA (1:Int) 2)<|.need (aP 0 (List.length b) b)<|.need (bM (au (aa 0 (List.length b) b)))<|.ask (decide ((((aA (au (aa 0 (List.length b) b))):Nat):Int)>(4096:Int)))
          (.leaf (.inl (2,(aG (au (aa 0 (List.length a) a))),(aA (au (aa 0 (List.length a) a))),(aG (au (aa 0 (List.length b) b))),(aA (au (aa 0 (List.length b) b))))))
          (.need (dI .i64 (2:Int))<|.ask (decide ((2:Int)<(2:Int)))
            (.fail)
            (.leaf (.inl (0,(aG (au (aa 0 (List.length a) a))),(aA (au (aa 0 (List.length a) a))),(aG (au (aa 0 (List.length b) b))),(aA (au (aa 0 (List.length b) b))))))))
        (.fail)))
    (.fail)
def YF:(List Int)×Nat×(List Int)×Nat→aF:=fun (a,b,c,d)=>⟨ah 62 [(2,.ptr 0 1 0 0),(3,.ptr 1 1 0 0)],[(0,.vs [.imm .lent (.ns .u64 a) 1 1 0 b]),(1,.vs [.imm .lent (.ns .u64 c) 1 1 0 d])],2⟩
def VH(c:Nat)(d:List Int)(a:Nat)(e:List Int)(b:Nat) :T (((List Int)×Nat×(List Int)×Nat)⊕(dV)) :=
  .ask (((c:Nat):Int) != (0:Int))
    (.leaf (.inr (.r0 0 0 0 c ([]:List Int))))
    (.ask (decide (((a:Nat):Int)<((b:Nat):Int)))
      (.leaf (.inl (e,b,d,a)))
      (.leaf (.inl (d,a,e,b))))
def YG(c:List Int)(a:Nat)(d:List Int)(e:Nat) :Nat×(List Int)→aF:=fun (b,f)=>⟨ah 62 [(2,.ptr 0 1 0 0),(3,.ptr 1 1 0 0),(7,.ptr 2 1 0 0),(8,.fn (.func vX) [] [.ptr 2 1 0 0]),(9,.sl 3 1 1 0 b b),(30,.int .i64 ((a:Nat):Int)),(31,.int .i64 (0:Int))],[(0,.vs [.imm .lent (.ns .u64 c) 1 1 0 a]),(1,.vs [.imm .lent (.ns .u64 d) 1 1 0 e]),(2,.vs [.int .u64 (0:Int)]),(3,.ns .u64 f)],4⟩
def AY(a:Nat) :T ((Nat×(List Int))⊕(dV)) :=
  .need (dI .i64 (((a+1):Nat):Int))<|.need (decide ((0:Int)≤(((a+1):Nat):Int)))<|.need (decide ((((a+1):Nat):Int)≤(((a+1):Nat):Int)))<|.need (decide ((8:Int)*(((a+1):Nat):Int)≤140737488355328))<|.need (dI .i64 (((a+1):Nat):Int))<|.leaf (.inl ((a+1),(List.replicate (a+1) (0:Int))))
def Es(c:List Int)(a:Nat)(d:List Int)(e:Nat)(b:Nat) :Nat×Nat×(List Int)→aF:=fun (f,g,h)=>⟨ah 62 [(2,.ptr 0 1 0 0),(3,.ptr 1 1 0 0),(7,.ptr 2 1 0 0),(8,.fn (.func vX) [] [.ptr 2 1 0 0]),(9,.sl 3 1 1 0 b b),(30,.int .i64 ((a:Nat):Int)),(31,.int .i64 ((f:Nat):Int))],[(0,.vs [.imm .lent (.ns .u64 c) 1 1 0 a]),(1,.vs [.imm .lent (.ns .u64 d) 1 1 0 e]),(2,.vs [.int .u64 ((g:Nat):Int)]),(3,.ns .u64 h)],4⟩
def Ma(b:List Int)(c:Nat)(a:Nat) :Nat×(List Int)→aF:=fun (d,e)=>⟨ah 62 [(2,.ptr 0 1 0 0),(7,.ptr 1 1 0 0),(9,.sl 2 1 1 0 a a)],[(0,.vs [.imm .lent (.ns .u64 b) 1 1 0 c]),(1,.vs [.int .u64 ((d:Nat):Int)]),(2,.ns .u64 e)],3⟩
def VI:List Code:=cY (d7 ((((((VG.drop 2).drop 4).drop 4).take 1)).headD .skip))
def YH(c:List Int)(a:Nat)(d:List Int)(e:Nat)(b:Nat)(f:Nat) :Nat×(List Int)→aF:=fun (g,h)=>⟨ah 62 [(2,.ptr 0 1 0 0),(3,.ptr 1 1 0 0),(7,.ptr 2 1 0 0),(8,.fn (.func vX) [] [.ptr 2 1 0 0]),(9,.sl 3 1 1 0 b b),(30,.int .i64 ((a:Nat):Int)),(31,.int .i64 ((f:Nat):Int))],[(0,.vs [.imm .lent (.ns .u64 c) 1 1 0 a]),(1,.vs [.imm .lent (.ns .u64 d) 1 1 0 e]),(2,.vs [.int .u64 ((g:Nat):Int)]),(3,.ns .u64 h)],4⟩
def AZ(c:List Int)(e:Nat)(f:List Int)(g:Nat)(h:Nat)(a:Nat)(b:Nat)(d:List Int) :T ((Nat×(List Int))⊕((Nat×(List Int))⊕(dV))) :=
  .ask (decide (((a:Nat):Int)<((e:Nat):Int)))
    (.ask (decide (((a:Nat):Int)<((g:Nat):Int)))
      (.need (gA ((a:Nat):Int) g)<|.need (gM a (List.length f))<|.need (gA ((a:Nat):Int) e)<|.need (gM a (List.length c))<|.need (qG b 1)<|.need (gA ((a:Nat):Int) h)<|.need (gM a (List.length d))<|.leaf (.inl ((((Int.toNat (List.getD c a 0))+(Int.toNat (List.getD f a 0))+b)/18446744073709551616),(List.set d a (((((Int.toNat (List.getD c a 0))+(Int.toNat (List.getD f a 0))+b)%18446744073709551616):Nat):Int)))))
      (.need (gA ((a:Nat):Int) e)<|.need (gM a (List.length c))<|.need (qG b 1)<|.need (gA ((a:Nat):Int) h)<|.need (gM a (List.length d))<|.leaf (.inl ((((Int.toNat (List.getD c a 0))+0+b)/18446744073709551616),(List.set d a (((((Int.toNat (List.getD c a 0))+0+b)%18446744073709551616):Nat):Int))))))
    (.leaf (.inr (.inl (b,d))))
def VJ(a:Nat)(b:Nat)(c:List Int) :T ((Nat×Nat×(List Int))⊕((Nat×(List Int))⊕(dV))) :=
  .need (dI .i64 (((a+1):Nat):Int))<|.leaf (.inl ((a+1),b,c))
def sK(b:List Int)(c:Nat)(d:List Int)(e:Nat)(f:Nat) :Nat×Nat×(List Int)→Option ((Nat×Nat×(List Int))⊕((Nat×(List Int))⊕(dV))):=fun (a,g,h) =>
  aC ((AZ b c d e f a g h).run) fun (i,j) =>
  (VJ a i j).run
theorem VK(a:List Int)(b:Nat)(d:List Int)(e:Nat)(c:Nat)(f:Nat)(g:Nat)(h:List Int) :Sg prog [] VI (Es a b d e c (f,g,h)) (sK a b d e c (f,g,h)) (Es a b d e c) (dH 0 (Ma a b c) Ct):=by
  unfold sK;exact Sg.cut 3 (bB o8) (bo iL (YH a b d e c f) [⟨[],[0,1,2,3],[2,3,7,8,9,30,31]⟩,⟨[],[0,1,2,3],[2,3,7,8,9,30,31]⟩,⟨[],[0,2,3],[2,7,9]⟩]) (fun ⟨i,j⟩=>bo iL _ [⟨[],[0,1,2,3],[2,3,7,8,9,30,31]⟩])
def VL:Nat×Nat×Nat×Nat×(List Int)→aF:=fun (a,b,c,d,e)=>⟨ah 62 [(4,.sl 0 1 1 a b c),(5,.int .i64 ((d:Nat):Int))],[(0,.ns .u64 e)],1⟩
def A0(b:Nat)(a:Nat)(d:Nat)(c:List Int) :T ((Nat×Nat×Nat×Nat×(List Int))⊕(dV)) :=
  .need (gA ((b:Nat):Int) a)<|.need (gM b (List.length c))<|.alt 0
    (.need (sI (fo (List.set c b ((d:Nat):Int)) 0 a a))<|.leaf (.inl (0,0,0,3,([]:List Int))))
    (.alt 1
      (.need (sJ (fo (List.set c b ((d:Nat):Int)) 0 a a))<|.leaf (.inl ((rX (fo (List.set c b ((d:Nat):Int)) 0 a a)),(rY (fo (List.set c b ((d:Nat):Int)) 0 a a)),(rZ (fo (List.set c b ((d:Nat):Int)) 0 a a)),0,(r5 (fo (List.set c b ((d:Nat):Int)) 0 a a)))))
      (.fail))
def IY(a:Nat)(b:Nat)(c:Nat)(d:Nat)(e:List Int) :T ((Empty)⊕(dV)) :=
  .leaf (.inr (.r0 a b c d e))
def bD(c:List Int)(d:List Int) :Option dV:=lB (aC ((IX c d).run) fun (e,f,g,h,i) =>
  aC ((VH e f g h i).run) fun (j,a,k,l) =>
  aC ((AY a).run) fun (b,m) =>
  aC (df (sK j a k l b) (0,0,m)) fun (n,o) =>
  aC ((A0 a b n o).run) fun (p,q,r,s,t) =>
  (IY p q r s t).run)
theorem YI(i:Lv)(c:List Int)(j:Lv)(d:List Int){x:dV}(h:bD c d=some x) :aj prog Ci [] [.imm i (.ns .u64 c) 1 1 0 (List.length c),.imm j (.ns .u64 d) 1 1 0 (List.length d)] (H2 x) :=
  lO true H2 Ct h (Sg.cut 2 o8 (bo iL (YE i j) [⟨[],[0,16],[2,3,6]⟩,⟨[],[0,16],[2,3,6]⟩,⟨[],[0,16],[2,3,6]⟩]) (fun ⟨r,s,t,u,v⟩=>Sg.cut 4 o8 (bo iL YF [⟨[(.slot 4,.own 1 1 (.ns .u64 ([]:List Int)))],[82],[4,5]⟩,⟨[(.cell 0 0,.low),(.cell 1 0,.low)],[0,1],[2,3]⟩,⟨[(.cell 0 0,.low),(.cell 1 0,.low)],[0,1],[2,3]⟩]) (fun ⟨a,b,e,f⟩=>Sg.cut 4 o8 (bo iL (YG a b e f) [⟨[],[0,1,2,114],[2,3,7,8,9,30,31]⟩]) (fun ⟨g,w⟩=>Sg.cut 1 o8 (Ej ⟨[],[0,1,2,3],[2,3,7,8,9,30,31]⟩ (Es a b e f g) (Ma a b g) 0 o8 (YD _) (fun ⟨k,l,m⟩=>VK a b e f g k l m)) (fun ⟨y,z⟩=>Sg.cut 2 o8 (bo iL VL [⟨[(.slot 4,.own 1 1 (.ns .u64 ([]:List Int)))],[195],[4,5]⟩,⟨[],[2],[4,5]⟩]) (fun ⟨A,B,C,D,E⟩=>bo iL _ [⟨[],[0],[4,5]⟩]))))))
    (fun x=>by cases x with | r0 n o p q F=>exact lC [.sl 0 1 1 n o p,.int .i64 ((q:Nat):Int)])
def uX:Option dV→Bool
  | some _=>true
  | none=>false
def fO:Option dV→Nat
  | some (.r0 x _ _ _ _)=>x
  | _=>0
def fP:Option dV→Nat
  | some (.r0 _ x _ _ _)=>x
  | _=>0
def FZ:Option dV→Nat
  | some (.r0 _ _ x _ _)=>x
  | _=>0
def g7:Option dV→Nat
  | some (.r0 _ _ _ x _)=>x
  | _=>0
def fQ:Option dV→List Int
  | some (.r0 _ _ _ _ x)=>x
  | _=>[]
theorem YJ{x:Option dV}(h:uX x=true) :x=some (.r0 (fO x) (fP x) (FZ x) (g7 x) (fQ x)):=by
  unfold uX at h
  split at h<;>first | rfl | (cases h;done) | (rename_i y;cases y;rfl)
def Q7:aE:=bT Ci (.cons (.ns .u64) (.cons (.ns .u64) .nil)) fun t=>(fun q=>[⟨H2 (.r0 (fO q) (fP q) (FZ q) (g7 q) (fQ q)),[uX q]⟩]) (bD t.1.2 t.2.1.2)
theorem Su:aO prog Q7:=aJ fun t=>(aK (fun h=>YI t.1.1 t.1.2 t.2.1.1 t.2.1.2 (YJ h)) bb)
def Q8:List aE:=Q7::L9
theorem mH:bc prog (bh Q8):=ap Su iL
inductive gp where
  | r0 (a:Nat) (b:Nat) (c:Nat) (d:List Int)
def Cu:gp→AE×aF
  | .r0 a b c d=>(.ret,⟨ah 40 [(4,.sl 0 1 1 a b c)],[(0,.ns .u64 d)],1⟩)
theorem uY:j9 Cu:=by intro x;cases x<;>(intro h;cases h)
theorem YK(id:Nat) :mB id Cu:=by intro x;cases x<;>(intro h;cases h)
def H3:gp→iK
  | .r0 a b d c=>⟨.imm .free (.ns .u64 c) 1 1 a b,[]⟩
def VM:List Code:=cY (mV Ck)
def YL(d:Lv)(a:List Int)(e:Lv)(b:List Int) :Nat×(List Int)→aF:=fun (c,f)=>⟨ah 40 [(0,.imm d (.ns .u64 a) 1 1 0 (List.length a)),(1,.imm e (.ns .u64 b) 1 1 0 (List.length b)),(5,.sl 0 1 1 0 c c),(6,.int .u64 (0:Int)),(12,.int .i64 (((List.length a):Nat):Int)),(13,.int .i64 (0:Int))],[(0,.ns .u64 f)],1⟩
def IZ(a:List Int) :T ((Nat×(List Int))⊕(gp)) :=
  .need (aP 0 (List.length a) a)<|.need (sG (List.length (aa 0 (List.length a) a)))<|.leaf (.inl ((List.length (aa 0 (List.length a) a)),(aa 0 (List.length a) a)))
def Et(d:Lv)(a:List Int)(e:Lv)(b:List Int)(c:Nat) :Int×Nat×(List Int)→aF:=fun (f,g,h)=>⟨ah 40 [(0,.imm d (.ns .u64 a) 1 1 0 (List.length a)),(1,.imm e (.ns .u64 b) 1 1 0 (List.length b)),(5,.sl 0 1 1 0 c c),(6,.int .u64 f),(12,.int .i64 (((List.length a):Nat):Int)),(13,.int .i64 ((g:Nat):Int))],[(0,.ns .u64 h)],1⟩
def Mb(a:Nat)(b:(List Int)) :aF:=⟨ah 40 [(5,.sl 0 1 1 0 a a)],[(0,.ns .u64 b)],1⟩
def VN:List Code:=cY (d7 ((((VM.drop 4).take 1)).headD .skip))
def YM(d:Lv)(a:List Int)(e:Lv)(b:List Int)(c:Nat)(f:Nat) :Int×(List Int)→aF:=fun (g,h)=>⟨ah 40 [(0,.imm d (.ns .u64 a) 1 1 0 (List.length a)),(1,.imm e (.ns .u64 b) 1 1 0 (List.length b)),(5,.sl 0 1 1 0 c c),(6,.int .u64 g),(12,.int .i64 (((List.length a):Nat):Int)),(13,.int .i64 ((f:Nat):Int))],[(0,.ns .u64 h)],1⟩
def A1(b:List Int)(d:List Int)(f:Nat)(c:Int)(a:Nat)(e:List Int) :T ((Int×(List Int))⊕(((List Int))⊕(gp))) :=
  .ask (decide (((a:Nat):Int)<(((List.length b):Nat):Int)))
    (.ask (decide (((a:Nat):Int)<(((List.length d):Nat):Int)))
      (.need (gA ((a:Nat):Int) (List.length d))<|.need (gM a (List.length d))<|.need (gA ((a:Nat):Int) (List.length b))<|.need (gM a (List.length b))<|.need (qG (Int.toNat c) 1)<|.need (gA ((a:Nat):Int) f)<|.need (gM a (List.length e))<|.leaf (.inl ((bif Nat.blt (Int.toNat (List.getD b a 0)) ((Int.toNat (List.getD d a 0))+(Int.toNat c)) then (1:Int) else (0:Int)),(List.set e a (((((Int.toNat (List.getD b a 0))+18446744073709551616-(Int.toNat (List.getD d a 0))-(Int.toNat c))%18446744073709551616):Nat):Int)))))
      (.need (gA ((a:Nat):Int) (List.length b))<|.need (gM a (List.length b))<|.need (qG (Int.toNat c) 1)<|.need (gA ((a:Nat):Int) f)<|.need (gM a (List.length e))<|.leaf (.inl ((bif Nat.blt (Int.toNat (List.getD b a 0)) (0+(Int.toNat c)) then (1:Int) else (0:Int)),(List.set e a (((((Int.toNat (List.getD b a 0))+18446744073709551616-0-(Int.toNat c))%18446744073709551616):Nat):Int))))))
    (.leaf (.inr (.inl e)))
def VO(a:Nat)(b:Int)(c:List Int) :T ((Int×Nat×(List Int))⊕(((List Int))⊕(gp))) :=
  .need (dI .i64 (((a+1):Nat):Int))<|.leaf (.inl (b,(a+1),c))
def A2(b:List Int)(c:List Int)(d:Nat) :Int×Nat×(List Int)→Option ((Int×Nat×(List Int))⊕(((List Int))⊕(gp))):=fun (e,a,f) =>
  aC ((A1 b c d e a f).run) fun (g,h) =>
  (VO a g h).run
theorem VP(d:Lv)(b:List Int)(e:Lv)(c:List Int)(a:Nat)(g:Int)(f:Nat)(h:List Int) :Sg prog [] VN (Et d b e c a (g,f,h)) (A2 b c a (g,f,h)) (Et d b e c a) (dH 0 (Mb a) Cu):=by
  unfold A2;exact Sg.cut 3 (bB uY) (bo mH (YM d b e c a f) [⟨[],[0],[0,1,5,6,12,13]⟩,⟨[],[0],[0,1,5,6,12,13]⟩,⟨[],[0],[5]⟩]) (fun ⟨i,j⟩=>bo mH _ [⟨[],[0],[0,1,5,6,12,13]⟩])
def VQ:Nat×Nat×Nat×(List Int)→aF:=fun (a,b,c,d)=>⟨ah 40 [(4,.sl 0 1 1 a b c)],[(0,.ns .u64 d)],1⟩
def I0(a:Nat)(b:List Int) :T ((Nat×Nat×Nat×(List Int))⊕(gp)) :=
  .need (hJ (bi b 0 a a))<|.leaf (.inl ((gP (bi b 0 a a)),(gQ (bi b 0 a a)),(gS (bi b 0 a a)),(gT (bi b 0 a a))))
def VS(a:Nat)(b:Nat)(c:Nat)(d:List Int) :T ((Empty)⊕(gp)) :=
  .leaf (.inr (.r0 a b c d))
def rt(a:List Int)(c:List Int) :Option gp:=lB (aC ((IZ a).run) fun (b,d) =>
  aC (df (A2 a c b) ((0:Int),0,d)) fun e =>
  aC ((I0 b e).run) fun (f,g,h,i) =>
  (VS f g h i).run)
theorem YN(c:Lv)(a:List Int)(d:Lv)(b:List Int){x:gp}(h:rt a b=some x) :aj prog Ck [] [.imm c (.ns .u64 a) 1 1 0 (List.length a),.imm d (.ns .u64 b) 1 1 0 (List.length b)] (H3 x) :=
  lO true H3 Cu h (Sg.cut 4 uY (bo mH (YL c a d b) [⟨[],[32],[0,1,5,6,12,13]⟩]) (fun ⟨e,m⟩=>Sg.cut 1 uY (Ej ⟨[],[0],[0,1,5,6,12,13]⟩ (Et c a d b e) (Mb e) 0 uY (YK _) (fun ⟨f,g,i⟩=>VP c a d b e f g i)) (fun n=>Sg.cut 1 uY (bo mH VQ [⟨[],[0],[4]⟩]) (fun ⟨o,p,q,r⟩=>bo mH _ [⟨[],[0],[4]⟩]))))
    (fun x=>by cases x with | r0 j k l s=>exact lC [.sl 0 1 1 j k l])
def yP:Option gp→Bool
  | some _=>true
  | none=>false
def yQ:Option gp→Nat
  | some (.r0 x _ _ _)=>x
  | _=>0
def yR:Option gp→Nat
  | some (.r0 _ x _ _)=>x
  | _=>0
def F0:Option gp→Nat
  | some (.r0 _ _ x _)=>x
  | _=>0
def yS:Option gp→List Int
  | some (.r0 _ _ _ x)=>x
  | _=>[]
theorem YO{x:Option gp}(h:yP x=true) :x=some (.r0 (yQ x) (yR x) (F0 x) (yS x)):=by
  unfold yP at h
  split at h<;>first | rfl | (cases h;done) | (rename_i y;cases y;rfl)
def Q9:aE:=bT Ck (.cons (.ns .u64) (.cons (.ns .u64) .nil)) fun t=>(fun q=>[⟨H3 (.r0 (yQ q) (yR q) (F0 q) (yS q)),[yP q]⟩]) (rt t.1.2 t.2.1.2)
theorem Sv:aO prog Q9:=aJ fun t=>(aK (fun h=>YN t.1.1 t.1.2 t.2.1.1 t.2.1.2 (YO h)) bb)
def Ra:List aE:=Q9::Q8
theorem p7:bc prog (bh Ra):=ap Sv mH
inductive iq where
  | r0 (a:List Int) (b:Nat) (c:Nat) (d:Nat)
def Rb:iq→AE×aF
  | .r0 a b c d=>(.ret,⟨ah 20 [(4,.imm .free (.ns .u64 a) 1 1 b c),(5,.int .i64 ((d:Nat):Int))],[],0⟩)
theorem Eu:j9 Rb:=by intro x;cases x<;>(intro h;cases h)
def H4:iq→iK
  | .r0 a b c d=>⟨.tup [.imm .free (.ns .u64 a) 1 1 b c,.int .i64 ((d:Nat):Int)],[]⟩
def YP(a:Lv)(b:Lv) :Nat×(List Int)×Nat×(List Int)×Nat→aF:=fun (c,d,e,f,g)=>⟨ah 20 [(2,.ptr 0 1 0 0),(3,.ptr 1 1 0 0),(6,.int .i64 ((c:Nat):Int))],[(0,.vs [.imm a (.ns .u64 d) 1 1 0 e]),(1,.vs [.imm b (.ns .u64 f) 1 1 0 g])],2⟩
def Mc(a : List Int)(b : List Int) : T ((Nat × (List Int) × Nat × (List Int) × Nat) ⊕ (iq)) :=
  .ask (decide ((0:Int)<(2:Int)))
    (.need (gA (0:Int) 2)<|.need (aP 0 (List.length a) a)<|.need (bM (au (aa 0 (List.length a) a)))<|.ask (decide ((((aA (au (aa 0 (List.length a) a))):Nat):Int)>(4096:Int)))
      (.leaf (.inl (2,(aG (au (aa 0 (List.length a) a))),(aA (au (aa 0 (List.length a) a))),b,(List.length b))))
      (.need (dI .i64 (1:Int))<|.ask (decide ((1:Int)<(2:Int)))
        (.need (gA (1:Int) 2)<|.need (aP 0 (List.length b) b)<|.need (bM (au (aa 0 (List.length b) b)))<|.ask (decide ((((aA (au (aa 0 (List.length b) b))):Nat):Int)>(4096:Int)))
          (.leaf (.inl (2,(aG (au (aa 0 (List.length a) a))),(aA (au (aa 0 (List.length a) a))),(aG (au (aa 0 (List.length b) b))),(aA (au (aa 0 (List.length b) b))))))
          (.need (dI .i64 (2:Int))<|.ask (decide ((2:Int)<(2:Int)))
            (.fail)
            (.leaf (.inl (0,(aG (au (aa 0 (List.length a) a))),(aA (au (aa 0 (List.length a) a))),(aG (au (aa 0 (List.length b) b))),(aA (au (aa 0 (List.length b) b))))))))
        (.fail)))
    (.fail)
def YQ(a:Lv)(b:Lv)(c:List Int)(d:Nat)(e:List Int)(f:Nat)(g:Bool) :aF:=⟨ah 20 [(2,.ptr 0 1 0 0),(3,.ptr 1 1 0 0),(16,.bool false g)],[(0,.vs [.imm a (.ns .u64 c) 1 1 0 d]),(1,.vs [.imm b (.ns .u64 e) 1 1 0 f])],2⟩
def Md(e:Nat)(a:List Int)(b:Nat)(c:List Int)(d:Nat) :T ((Bool)⊕(iq)) :=
  .ask (((e:Nat):Int) != (0:Int))
    (.leaf (.inl true))
    (.need (aP 0 b a)<|.need (aP 0 d c)<|.need (uV (rq (aa 0 b a) (aa 0 d c)))<|.leaf (.inl (decide ((ua (rq (aa 0 b a) (aa 0 d c)))<(0:Int)))))
def YR:(List Int)×Nat×Nat→aF:=fun (a,b,c)=>⟨ah 20 [(4,.imm .free (.ns .u64 a) 1 1 b c),(5,.int .i64 (0:Int))],[],0⟩
def Me(a:List Int)(b:Nat)(c:List Int)(d:Nat)(e:Bool) :T (((List Int)×Nat×Nat)⊕(iq)) :=
  .ask e
    (.leaf (.inr (.r0 ([]:List Int) 0 0 2)))
    (.need (aP 0 b a)<|.need (aP 0 d c)<|.need (yP (rt (aa 0 b a) (aa 0 d c)))<|.leaf (.inl ((yS (rt (aa 0 b a) (aa 0 d c))),(yQ (rt (aa 0 b a) (aa 0 d c))),(yR (rt (aa 0 b a) (aa 0 d c))))))
def YS(a:List Int)(b:Nat)(c:Nat) :T ((Empty)⊕(iq)) :=
  .leaf (.inr (.r0 a b c 0))
def bu(e:List Int)(f:List Int) :Option iq:=lB (aC ((Mc e f).run) fun (g,a,b,c,d) =>
  aC ((Md g a b c d).run) fun h =>
  aC ((Me a b c d h).run) fun (i,j,k) =>
  (YS i j k).run)
theorem YT(a:Lv)(b:List Int)(c:Lv)(d:List Int){x:iq}(h:bu b d=some x) :aj prog HO [] [.imm a (.ns .u64 b) 1 1 0 (List.length b),.imm c (.ns .u64 d) 1 1 0 (List.length d)] (H4 x) :=
  lO true H4 Rb h (Sg.cut 2 Eu (bo p7 (YP a c) [⟨[],[0,16],[2,3,6]⟩,⟨[],[0,16],[2,3,6]⟩,⟨[],[0,16],[2,3,6]⟩]) (fun ⟨n,e,f,g,i⟩=>Sg.cut 1 Eu (bo p7 (YQ a c e f g i) [⟨[],[0,1],[2,3,16]⟩,⟨[],[0,1],[2,3,16]⟩]) (fun o=>Sg.cut 2 Eu (bo p7 YR [⟨[(.slot 4,.fre 1 1 (.ns .u64 ([]:List Int)))],[],[4,5]⟩,⟨[],[],[4,5]⟩]) (fun ⟨p,q,r⟩=>bo p7 _ [⟨[],[],[4,5]⟩]))))
    (fun x=>by cases x with | r0 j k l m=>exact lC [.imm .free (.ns .u64 j) 1 1 k l,.int .i64 ((m:Nat):Int)])
def ru:Option iq→Bool
  | some _=>true
  | none=>false
def eX:Option iq→List Int
  | some (.r0 x _ _ _)=>x
  | _=>[]
def eY:Option iq→Nat
  | some (.r0 _ x _ _)=>x
  | _=>0
def eZ:Option iq→Nat
  | some (.r0 _ _ x _)=>x
  | _=>0
def fR:Option iq→Nat
  | some (.r0 _ _ _ x)=>x
  | _=>0
theorem YU{x:Option iq}(h:ru x=true) :x=some (.r0 (eX x) (eY x) (eZ x) (fR x)):=by
  unfold ru at h
  split at h<;>first | rfl | (cases h;done) | (rename_i y;cases y;rfl)
def Rc:aE:=bT HO (.cons (.ns .u64) (.cons (.ns .u64) .nil)) fun t=>(fun q=>[⟨H4 (.r0 (eX q) (eY q) (eZ q) (fR q)),[ru q]⟩]) (bu t.1.2 t.2.1.2)
theorem Sw:aO prog Rc:=aJ fun t=>(aK (fun h=>YT t.1.1 t.1.2 t.2.1.1 t.2.1.2 (YU h)) bb)
def Rd:List aE:=Rc::Ra
theorem p8:bc prog (bh Rd):=ap Sw p7
inductive iU where
  | r0 (a:Int) (b:List Int)
def Cv:iU→AE×aF
  | .r0 a b=>(.ret,⟨ah 52 [(6,.int .u64 a)],[(0,.ns .u64 b)],1⟩)
theorem yT:j9 Cv:=by intro x;cases x<;>(intro h;cases h)
theorem YV(id:Nat) :mB id Cv:=by intro x;cases x<;>(intro h;cases h)
def H5:iU→iK
  | .r0 a b=>⟨.int .u64 a,[some (.ns .u64 b)]⟩
def VT:List Code:=cY (mV Cj)
def YW(b:List Int)(c:Nat)(d:Nat)(e:Nat)(f:Lv)(a:List Int)(g:Int)(_:Unit) :aF:=⟨ah 52 [(0,.sl 0 1 1 c d e),(1,.imm f (.ns .u64 a) 1 1 0 (List.length a)),(2,.int .u64 g),(7,.int .u64 (0:Int)),(13,.int .i64 (((List.length a):Nat):Int)),(14,.int .i64 (0:Int))],[(0,.ns .u64 b)],1⟩
def VU:T ((Unit)⊕(iU)) :=
  .leaf (.inl ())
def Ev(b:Nat)(c:Nat)(d:Nat)(e:Lv)(a:List Int)(f:Int) :Int×Nat×(List Int)→aF:=fun (g,h,i)=>⟨ah 52 [(0,.sl 0 1 1 b c d),(1,.imm e (.ns .u64 a) 1 1 0 (List.length a)),(2,.int .u64 f),(7,.int .u64 g),(13,.int .i64 (((List.length a):Nat):Int)),(14,.int .i64 ((h:Nat):Int))],[(0,.ns .u64 i)],1⟩
def Mf:Int×(List Int)→aF:=fun (a,b)=>⟨ah 52 [(7,.int .u64 a)],[(0,.ns .u64 b)],1⟩
def VV:List Code:=cY (d7 ((((VT.drop 3).take 1)).headD .skip))
def YX(b:Nat)(c:Nat)(d:Nat)(e:Lv)(a:List Int)(f:Int)(g:Nat) :Int×(List Int)→aF:=fun (h,i)=>⟨ah 52 [(0,.sl 0 1 1 b c d),(1,.imm e (.ns .u64 a) 1 1 0 (List.length a)),(2,.int .u64 f),(7,.int .u64 h),(13,.int .i64 (((List.length a):Nat):Int)),(14,.int .i64 ((g:Nat):Int))],[(0,.ns .u64 i)],1⟩
def sL(d:Nat)(g:Nat)(b:List Int)(e:Int)(f:Int)(a:Nat)(c:List Int) :T ((Int×(List Int))⊕((Int×(List Int))⊕(iU))) :=
  .ask (decide (((a:Nat):Int)<(((List.length b):Nat):Int)))
    (.need (gA ((a:Nat):Int) (List.length b))<|.need (gM a (List.length b))<|.need (i6 (eA (List.getD b a 0) e))<|.need (qG 0 1)<|.need (gA ((a:Nat):Int) g)<|.need (gM (im d a) (List.length c))<|.need (qG 0 1)<|.need (gA ((a:Nat):Int) g)<|.need (gM (im d a) (List.length c))<|.leaf (.inl ((IntKind.u64.wrap ((IntKind.u64.wrap ((ju (eA (List.getD b a 0) e))+(((((Int.toNat (fw (eA (List.getD b a 0) e)))+(Int.toNat f)+0)/18446744073709551616):Nat):Int)))+(((((Int.toNat (List.getD c (im d a) 0))+(((Int.toNat (fw (eA (List.getD b a 0) e)))+(Int.toNat f)+0)%18446744073709551616)+0)/18446744073709551616):Nat):Int))),(List.set c (im d a) (((((Int.toNat (List.getD c (im d a) 0))+(((Int.toNat (fw (eA (List.getD b a 0) e)))+(Int.toNat f)+0)%18446744073709551616)+0)%18446744073709551616):Nat):Int)))))
    (.leaf (.inr (.inl (f,c))))
def VW(a:Nat)(b:Int)(c:List Int) :T ((Int×Nat×(List Int))⊕((Int×(List Int))⊕(iU))) :=
  .need (dI .i64 (((a+1):Nat):Int))<|.leaf (.inl (b,(a+1),c))
def A3(b:Nat)(c:Nat)(d:List Int)(e:Int) :Int×Nat×(List Int)→Option ((Int×Nat×(List Int))⊕((Int×(List Int))⊕(iU))):=fun (f,a,g) =>
  aC ((sL b c d e f a g).run) fun (h,i) =>
  (VW a h i).run
theorem VX(j:List Int)(a:Nat)(b:Nat)(e:Nat)(f:Lv)(c:List Int)(d:Int)(h:Int)(g:Nat)(i:List Int) :Sg prog [.ns .u64 j] VV (Ev a b e f c d (h,g,i)) (A3 a b c d (h,g,i)) (Ev a b e f c d) (dH 0 Mf Cv):=by
  unfold A3;exact Sg.cut 3 (bB yT) (bo p8 (YX a b e f c d g) [⟨[],[0],[0,1,2,7,13,14]⟩,⟨[],[0],[7]⟩]) (fun ⟨k,l⟩=>bo p8 _ [⟨[],[0],[0,1,2,7,13,14]⟩])
def VY(a:Int)(b:List Int) :T ((Empty)⊕(iU)) :=
  .leaf (.inr (.r0 a b))
def rv(a:List Int)(b:Nat)(c:Nat)(d:List Int)(e:Int) :Option iU:=lB (aC ((VU).run) fun _ =>
  aC (df (A3 b c d e) ((0:Int),0,a)) fun (f,g) =>
  (VY f g).run)
theorem YY(e:List Int)(b:Nat)(c:Nat)(f:Nat)(g:Lv)(a:List Int)(d:Int){x:iU}(h:rv e b c a d=some x) :aj prog Cj [.ns .u64 e] [.sl 0 1 1 b c f,.imm g (.ns .u64 a) 1 1 0 (List.length a),.int .u64 d] (H5 x) :=
  lO false H5 Cv h (Sg.cut 3 yT (bo p8 (YW e b c f g a d) [⟨[],[0],[0,1,2,7,13,14]⟩]) (fun _=>Sg.cut 1 yT (Ej ⟨[],[0],[0,1,2,7,13,14]⟩ (Ev b c f g a d) (Mf) 0 yT (YV _) (fun ⟨i,j,k⟩=>VX e b c f g a d i j k)) (fun ⟨m,n⟩=>bo p8 _ [⟨[],[0],[6]⟩])))
    (fun x=>by cases x with | r0 l o=>exact lC [.int .u64 l])
def uZ:Option iU→Bool
  | some _=>true
  | none=>false
def ud:Option iU→Int
  | some (.r0 x _)=>x
  | _=>0
def p9:Option iU→List Int
  | some (.r0 _ x)=>x
  | _=>[]
theorem YZ{x:Option iU}(h:uZ x=true) :x=some (.r0 (ud x) (p9 x)):=by
  unfold uZ at h
  split at h<;>first | rfl | (cases h;done) | (rename_i y;cases y;rfl)
def Re:aE:=UT Cj [.ns .u64] (.cons (.lsl 0) (.cons (.ns .u64) (.cons (.int .u64) .nil))) fun x t=>(fun q=>[⟨H5 (.r0 (ud q) (p9 q)),[uZ q]⟩]) (rv x.1 t.1.1 t.1.2.1 t.2.1.2 t.2.2.1)
theorem Sx:aO prog Re:=Lw fun x t=>(Cg (fun h=>YY x.1 t.1.1 t.1.2.1 t.1.2.2 t.2.1.1 t.2.1.2 t.2.2.1 (YZ h)) Lx)
def Rf:List aE:=Re::Rd
theorem jv:bc prog (bh Rf):=ap Sx p8
inductive dW where
  | r0 (a:Nat) (b:Nat) (c:Nat) (d:Nat) (e:List Int)
def Cw:dW→AE×aF
  | .r0 a b c d e=>(.ret,⟨ah 61 [(4,.sl 0 1 1 a b c),(5,.int .i64 ((d:Nat):Int))],[(0,.ns .u64 e)],1⟩)
theorem o9:j9 Cw:=by intro x;cases x<;>(intro h;cases h)
theorem Y0(id:Nat) :mB id Cw:=by intro x;cases x<;>(intro h;cases h)
def H6:dW→iK
  | .r0 a b e c d=>⟨.tup [.imm .free (.ns .u64 d) 1 1 a b,.int .i64 ((c:Nat):Int)],[]⟩
def VZ:List Code:=cY (mV Ch)
def Y1(a:Lv)(b:Lv) :Nat×(List Int)×Nat×(List Int)×Nat→aF:=fun (c,d,e,f,g)=>⟨ah 61 [(2,.ptr 0 1 0 0),(3,.ptr 1 1 0 0),(6,.int .i64 ((c:Nat):Int))],[(0,.vs [.imm a (.ns .u64 d) 1 1 0 e]),(1,.vs [.imm b (.ns .u64 f) 1 1 0 g])],2⟩
def I1(a : List Int)(b : List Int) : T ((Nat × (List Int) × Nat × (List Int) × Nat) ⊕ (dW)) :=
  .ask (decide ((0:Int)<(2:Int)))
    (.need (gA (0:Int) 2)<|.need (aP 0 (List.length a) a)<|.need (bM (au (aa 0 (List.length a) a)))<|.ask (decide ((((aA (au (aa 0 (List.length a) a))):Nat):Int)>(4096:Int)))
      (.leaf (.inl (2,(aG (au (aa 0 (List.length a) a))),(aA (au (aa 0 (List.length a) a))),b,(List.length b))))
      (.need (dI .i64 (1:Int))<|.ask (decide ((1:Int)<(2:Int)))
        (.need (gA (1:Int) 2)<|.need (aP 0 (List.length b) b)<|.need (bM (au (aa 0 (List.length b) b)))<|.ask (decide ((((aA (au (aa 0 (List.length b) b))):Nat):Int)>(4096:Int)))
          (.leaf (.inl (2,(aG (au (aa 0 (List.length a) a))),(aA (au (aa 0 (List.length a) a))),(aG (au (aa 0 (List.length b) b))),(aA (au (aa 0 (List.length b) b))))))
          (.need (dI .i64 (2:Int))<|.ask (decide ((2:Int)<(2:Int)))
            (.fail)
            (.leaf (.inl (0,(aG (au (aa 0 (List.length a) a))),(aA (au (aa 0 (List.length a) a))),(aG (au (aa 0 (List.length b) b))),(aA (au (aa 0 (List.length b) b))))))))
        (.fail)))
    (.fail)
def Y2(a:Lv)(b:Lv)(c:List Int)(d:Nat)(e:List Int)(f:Nat)(g:Bool) :aF:=⟨ah 61 [(2,.ptr 0 1 0 0),(3,.ptr 1 1 0 0),(29,.bool false g)],[(0,.vs [.imm a (.ns .u64 c) 1 1 0 d]),(1,.vs [.imm b (.ns .u64 e) 1 1 0 f])],2⟩
def V0(c:Nat)(a:Nat)(b:Nat) :T ((Bool)⊕(dW)) :=
  .ask (((c:Nat):Int) != (0:Int))
    (.leaf (.inr (.r0 0 0 0 c ([]:List Int))))
    (.need (dI .i64 (((a+b):Nat):Int))<|.ask (decide ((((a+b):Nat):Int)>(4097:Int)))
      (.ask (decide (((a:Nat):Int)>(0:Int)))
        (.leaf (.inl (decide (((b:Nat):Int)>(0:Int)))))
        (.leaf (.inl false)))
      (.leaf (.inl false)))
def Y3(c:Lv)(d:Lv)(e:List Int)(f:Nat)(g:List Int)(a:Nat) :Nat×(List Int)→aF:=fun (b,h)=>⟨ah 61 [(2,.ptr 0 1 0 0),(3,.ptr 1 1 0 0),(7,.sl 2 1 1 0 b b),(37,.int .i64 ((a:Nat):Int)),(38,.int .i64 (0:Int))],[(0,.vs [.imm c (.ns .u64 e) 1 1 0 f]),(1,.vs [.imm d (.ns .u64 g) 1 1 0 a]),(2,.ns .u64 h)],3⟩
def I2(a:Nat)(b:Nat)(c:Bool) :T ((Nat×(List Int))⊕(dW)) :=
  .ask c
    (.leaf (.inr (.r0 0 0 0 3 ([]:List Int))))
    (.need (dI .i64 (((a+b):Nat):Int))<|.need (decide ((0:Int)≤(((a+b):Nat):Int)))<|.need (decide ((((a+b):Nat):Int)≤(((a+b):Nat):Int)))<|.need (decide ((8:Int)*(((a+b):Nat):Int)≤140737488355328))<|.need (dI .i64 (((a+b):Nat):Int))<|.leaf (.inl ((a+b),(List.replicate (a+b) (0:Int)))))
def Ew(c:Lv)(d:Lv)(e:List Int)(f:Nat)(g:List Int)(a:Nat)(b:Nat) :Nat×(List Int)→aF:=fun (h,i)=>⟨ah 61 [(2,.ptr 0 1 0 0),(3,.ptr 1 1 0 0),(7,.sl 2 1 1 0 b b),(37,.int .i64 ((a:Nat):Int)),(38,.int .i64 ((h:Nat):Int))],[(0,.vs [.imm c (.ns .u64 e) 1 1 0 f]),(1,.vs [.imm d (.ns .u64 g) 1 1 0 a]),(2,.ns .u64 i)],3⟩
def Mg(a:Nat)(b:(List Int)) :aF:=⟨ah 61 [(7,.sl 0 1 1 0 a a)],[(0,.ns .u64 b)],1⟩
def V1:List Code:=cY (d7 ((((((VZ.drop 2).drop 3).drop 3).take 1)).headD .skip))
def Y4(c:Lv)(d:Lv)(e:List Int)(f:Nat)(g:List Int)(a:Nat)(b:Nat)(h:Nat)(i:(List Int)) :aF:=⟨ah 61 [(2,.ptr 0 1 0 0),(3,.ptr 1 1 0 0),(7,.sl 2 1 1 0 b b),(37,.int .i64 ((a:Nat):Int)),(38,.int .i64 ((h:Nat):Int))],[(0,.vs [.imm c (.ns .u64 e) 1 1 0 f]),(1,.vs [.imm d (.ns .u64 g) 1 1 0 a]),(2,.ns .u64 i)],3⟩
def A4(d:List Int)(b:Nat)(e:List Int)(g:Nat)(c:Nat)(a:Nat)(f:List Int) :T (((List Int))⊕(((List Int))⊕(dW))) :=
  .ask (decide (((a:Nat):Int)<((g:Nat):Int)))
    (.need (dI .i64 (((a+b):Nat):Int))<|.need (CW ((c:Nat):Int) c)<|.need (CW ((a:Nat):Int) c)<|.need (gA ((a:Nat):Int) g)<|.need (gM a (List.length e))<|.need (aP 0 b d)<|.need (uZ (rv f a (c-a) (aa 0 b d) (List.getD e a 0)))<|.need (gA (((a+b):Nat):Int) c)<|.need (gM (a+b) (List.length (p9 (rv f a (c-a) (aa 0 b d) (List.getD e a 0)))))<|.leaf (.inl (List.set (p9 (rv f a (c-a) (aa 0 b d) (List.getD e a 0))) (a+b) (ud (rv f a (c-a) (aa 0 b d) (List.getD e a 0))))))
    (.leaf (.inr (.inl f)))
def V2(a:Nat)(b:List Int) :T ((Nat×(List Int))⊕(((List Int))⊕(dW))) :=
  .need (dI .i64 (((a+1):Nat):Int))<|.leaf (.inl ((a+1),b))
def A5(b:List Int)(c:Nat)(d:List Int)(e:Nat)(f:Nat) :Nat×(List Int)→Option ((Nat×(List Int))⊕(((List Int))⊕(dW))):=fun (a,g) =>
  aC ((A4 b c d e f a g).run) fun h =>
  (V2 a h).run
theorem V3(f:Lv)(g:Lv)(b:List Int)(c:Nat)(d:List Int)(e:Nat)(a:Nat)(h:Nat)(i:List Int) :Sg prog [] V1 (Ew f g b c d e a (h,i)) (A5 b c d e a (h,i)) (Ew f g b c d e a) (dH 0 (Mg a) Cw):=by
  unfold A5;exact Sg.cut 3 (bB o9) (bo jv (Y4 f g b c d e a h) [⟨[],[0,1,2],[2,3,7,37,38]⟩,⟨[],[2],[7]⟩]) (fun j=>bo jv _ [⟨[],[0,1,2],[2,3,7,37,38]⟩])
def V4:Nat×Nat×Nat×Nat×(List Int)→aF:=fun (a,b,c,d,e)=>⟨ah 61 [(4,.sl 0 1 1 a b c),(5,.int .i64 ((d:Nat):Int))],[(0,.ns .u64 e)],1⟩
def I3(a:Nat)(b:List Int) :T ((Nat×Nat×Nat×Nat×(List Int))⊕(dW)) :=
  .alt 0
    (.need (sI (fo b 0 a a))<|.leaf (.inl (0,0,0,3,([]:List Int))))
    (.alt 1
      (.need (sJ (fo b 0 a a))<|.leaf (.inl ((rX (fo b 0 a a)),(rY (fo b 0 a a)),(rZ (fo b 0 a a)),0,(r5 (fo b 0 a a)))))
      (.fail))
def V5(a:Nat)(b:Nat)(c:Nat)(d:Nat)(e:List Int) :T ((Empty)⊕(dW)) :=
  .leaf (.inr (.r0 a b c d e))
def pB(d:List Int)(e:List Int) :Option dW:=lB (aC ((I1 d e).run) fun (f,g,a,h,b) =>
  aC ((V0 f a b).run) fun i =>
  aC ((I2 a b i).run) fun (c,j) =>
  aC (df (A5 g a h b c) (0,j)) fun k =>
  aC ((I3 c k).run) fun (l,m,n,o,p) =>
  (V5 l m n o p).run)
theorem Y5(a:Lv)(g:List Int)(b:Lv)(i:List Int){x:dW}(h:pB g i=some x) :aj prog Ch [] [.imm a (.ns .u64 g) 1 1 0 (List.length g),.imm b (.ns .u64 i) 1 1 0 (List.length i)] (H6 x) :=
  lO true H6 Cw h (Sg.cut 2 o9 (bo jv (Y1 a b) [⟨[],[0,16],[2,3,6]⟩,⟨[],[0,16],[2,3,6]⟩,⟨[],[0,16],[2,3,6]⟩]) (fun ⟨q,c,d,e,f⟩=>Sg.cut 3 o9 (bo jv (Y2 a b c d e f) [⟨[(.slot 4,.own 1 1 (.ns .u64 ([]:List Int)))],[82],[4,5]⟩,⟨[],[0,1],[2,3,29]⟩,⟨[],[0,1],[2,3,29]⟩,⟨[],[0,1],[2,3,29]⟩]) (fun r=>Sg.cut 3 o9 (bo jv (Y3 a b c d e f) [⟨[(.slot 4,.own 1 1 (.ns .u64 ([]:List Int)))],[34],[4,5]⟩,⟨[],[0,1,82],[2,3,7,37,38]⟩]) (fun ⟨j,s⟩=>Sg.cut 1 o9 (Ej ⟨[],[0,1,2],[2,3,7,37,38]⟩ (Ew a b c d e f j) (Mg j) 0 o9 (Y0 _) (fun ⟨k,l⟩=>V3 a b c d e f j k l)) (fun t=>Sg.cut 1 o9 (bo jv V4 [⟨[(.slot 4,.own 1 1 (.ns .u64 ([]:List Int)))],[97],[4,5]⟩,⟨[],[0],[4,5]⟩]) (fun ⟨u,v,w,y,z⟩=>bo jv _ [⟨[],[0],[4,5]⟩]))))))
    (fun x=>by cases x with | r0 m n o p A=>exact lC [.sl 0 1 1 m n o,.int .i64 ((p:Nat):Int)])
def yU:Option dW→Bool
  | some _=>true
  | none=>false
def yV:Option dW→Nat
  | some (.r0 x _ _ _ _)=>x
  | _=>0
def yW:Option dW→Nat
  | some (.r0 _ x _ _ _)=>x
  | _=>0
def F1:Option dW→Nat
  | some (.r0 _ _ x _ _)=>x
  | _=>0
def yX:Option dW→Nat
  | some (.r0 _ _ _ x _)=>x
  | _=>0
def yY:Option dW→List Int
  | some (.r0 _ _ _ _ x)=>x
  | _=>[]
theorem Y6{x:Option dW}(h:yU x=true) :x=some (.r0 (yV x) (yW x) (F1 x) (yX x) (yY x)):=by
  unfold yU at h
  split at h<;>first | rfl | (cases h;done) | (rename_i y;cases y;rfl)
def Rg:aE:=bT Ch (.cons (.ns .u64) (.cons (.ns .u64) .nil)) fun t=>(fun q=>[⟨H6 (.r0 (yV q) (yW q) (F1 q) (yX q) (yY q)),[yU q]⟩]) (pB t.1.2 t.2.1.2)
theorem Sy:aO prog Rg:=aJ fun t=>(aK (fun h=>Y5 t.1.1 t.1.2 t.2.1.1 t.2.1.2 (Y6 h)) bb)
def Rh:List aE:=Rg::Rf
theorem mI:bc prog (bh Rh):=ap Sy jv
inductive gq where
  | r0 (a:Nat) (b:Nat) (c:Nat) (d:List Int)
def Cx:gq→AE×aF
  | .r0 a b c d=>(.ret,⟨ah 59 [(4,.sl 0 1 1 a b c)],[(0,.ns .u64 d)],1⟩)
theorem u4:j9 Cx:=by intro x;cases x<;>(intro h;cases h)
theorem Y7(id:Nat) :mB id Cx:=by intro x;cases x<;>(intro h;cases h)
def H7:gq→iK
  | .r0 a b d c=>⟨.imm .free (.ns .u64 c) 1 1 a b,[]⟩
def Y8:List Code:=cY (mV Cm)
def Y9(c:Lv)(a:List Int) :Int×Int×Nat×(List Int)→aF:=fun (d,r2,b,e)=>⟨ah 59 [(0,.imm c (.ns .u64 a) 1 1 0 (List.length a)),(5,.int .i64 d),(6,.int .u64 r2),(7,.sl 0 1 1 0 b b),(24,.int .i64 (((List.length a):Nat):Int)),(25,.int .i64 (0:Int))],[(0,.ns .u64 e)],1⟩
def I4(b:List Int)(a:Int) :T ((Int×Int×Nat×(List Int))⊕(gq)) :=
  .ask ((((List.length b):Nat):Int)==(0:Int))
    (.leaf (.inr (.r0 0 0 0 ([]:List Int))))
    (.need ((64:Int) != (0:Int))<|.need (dI .i64 (Int.tdiv a (64:Int)))<|.need ((64:Int) != (0:Int))<|.need (dI .i64 ((((List.length b):Nat):Int)+(Int.tdiv a (64:Int))))<|.need (dI .i64 (((((List.length b):Nat):Int)+(Int.tdiv a (64:Int)))+(1:Int)))<|.need (decide ((0:Int)≤(((((List.length b):Nat):Int)+(Int.tdiv a (64:Int)))+(1:Int))))<|.need (decide ((((((List.length b):Nat):Int)+(Int.tdiv a (64:Int)))+(1:Int))≤(((((List.length b):Nat):Int)+(Int.tdiv a (64:Int)))+(1:Int))))<|.need (decide ((8:Int)*(((((List.length b):Nat):Int)+(Int.tdiv a (64:Int)))+(1:Int))≤140737488355328))<|.need (dI .i64 (((((List.length b):Nat):Int)+(Int.tdiv a (64:Int)))+(1:Int)))<|.leaf (.inl ((Int.tdiv a (64:Int)),(IntKind.u64.wrap (Int.tmod a (64:Int))),(Int.toNat (((((List.length b):Nat):Int)+(Int.tdiv a (64:Int)))+(1:Int))),(List.replicate (Int.toNat (((((List.length b):Nat):Int)+(Int.tdiv a (64:Int)))+(1:Int))) (0:Int)))))
def Ex(c:Lv)(a:List Int)(d:Int)(r2:Int)(b:Nat) :Nat×(List Int)→aF:=fun (e,f)=>⟨ah 59 [(0,.imm c (.ns .u64 a) 1 1 0 (List.length a)),(5,.int .i64 d),(6,.int .u64 r2),(7,.sl 0 1 1 0 b b),(24,.int .i64 (((List.length a):Nat):Int)),(25,.int .i64 ((e:Nat):Int))],[(0,.ns .u64 f)],1⟩
def Mh(a:Nat)(b:(List Int)) :aF:=⟨ah 59 [(7,.sl 0 1 1 0 a a)],[(0,.ns .u64 b)],1⟩
def V6:List Code:=cY (d7 ((((Y8.drop 6).take 1)).headD .skip))
def Za(c:Lv)(a:List Int)(d:Int)(r2:Int)(b:Nat)(e:Nat)(f:(List Int)) :aF:=⟨ah 59 [(0,.imm c (.ns .u64 a) 1 1 0 (List.length a)),(5,.int .i64 d),(6,.int .u64 r2),(7,.sl 0 1 1 0 b b),(24,.int .i64 (((List.length a):Nat):Int)),(25,.int .i64 ((e:Nat):Int))],[(0,.ns .u64 f)],1⟩
def wg(c:List Int)(b:Int)(r2:Int)(e:Nat)(a:Nat)(d:List Int) :T (((List Int))⊕(((List Int))⊕(gq))) :=
  .ask (decide (((a:Nat):Int)<(((List.length c):Nat):Int)))
    (.need (dI .i64 (((a:Nat):Int)+b))<|.need (gA (((a:Nat):Int)+b) e)<|.need (gM (Int.toNat (((a:Nat):Int)+b)) (List.length d))<|.need (gA ((a:Nat):Int) (List.length c))<|.need (gM a (List.length c))<|.need (decide ((0:Int)≤r2))<|.need (gA (((a:Nat):Int)+b) e)<|.need (gM (Int.toNat (((a:Nat):Int)+b)) (List.length d))<|.need (dI .i64 (((a:Nat):Int)+b))<|.need (dI .i64 ((((a:Nat):Int)+b)+(1:Int)))<|.need (gA ((a:Nat):Int) (List.length c))<|.need (gM a (List.length c))<|.need (decide ((0:Int)≤(1:Int)))<|.need (decide ((0:Int)≤(IntKind.u64.wrap ((63:Int)-r2))))<|.need (gA ((((a:Nat):Int)+b)+(1:Int)) e)<|.need (gM (Int.toNat ((((a:Nat):Int)+b)+(1:Int))) (List.length (List.set d (Int.toNat (((a:Nat):Int)+b)) (dp .or .u64 (List.getD d (Int.toNat (((a:Nat):Int)+b)) 0) (IntKind.u64.wrap ((List.getD c a 0)*2^(min (Int.toNat r2) (IntKind.u64.bits))))))))<|.leaf (.inl (List.set (List.set d (Int.toNat (((a:Nat):Int)+b)) (dp .or .u64 (List.getD d (Int.toNat (((a:Nat):Int)+b)) 0) (IntKind.u64.wrap ((List.getD c a 0)*2^(min (Int.toNat r2) (IntKind.u64.bits)))))) (Int.toNat ((((a:Nat):Int)+b)+(1:Int))) (Int.fdiv (Int.fdiv (List.getD c a 0) (2^(min (Int.toNat (1:Int)) (IntKind.u64.bits)))) (2^(min (Int.toNat (IntKind.u64.wrap ((63:Int)-r2))) (IntKind.u64.bits)))))))
    (.leaf (.inr (.inl d)))
def V7(a:Nat)(b:List Int) :T ((Nat×(List Int))⊕(((List Int))⊕(gq))) :=
  .need (dI .i64 (((a+1):Nat):Int))<|.leaf (.inl ((a+1),b))
def A6(b:List Int)(c:Int)(r2:Int)(d:Nat) :Nat×(List Int)→Option ((Nat×(List Int))⊕(((List Int))⊕(gq))):=fun (a,e) =>
  aC ((wg b c r2 d a e).run) fun f =>
  (V7 a f).run
theorem V8(d:Lv)(b:List Int)(c:Int)(r2:Int)(a:Nat)(e:Nat)(f:List Int) :Sg prog [] V6 (Ex d b c r2 a (e,f)) (A6 b c r2 a (e,f)) (Ex d b c r2 a) (dH 0 (Mh a) Cx):=by
  unfold A6;exact Sg.cut 3 (bB u4) (bo mI (Za d b c r2 a e) [⟨[],[0],[0,5,6,7,24,25]⟩,⟨[],[0],[7]⟩]) (fun g=>bo mI _ [⟨[],[0],[0,5,6,7,24,25]⟩])
def Zb:Nat×Nat×Nat×(List Int)→aF:=fun (a,b,c,d)=>⟨ah 59 [(4,.sl 0 1 1 a b c)],[(0,.ns .u64 d)],1⟩
def I5(a:Nat)(b:List Int) :T ((Nat×Nat×Nat×(List Int))⊕(gq)) :=
  .need (hJ (bi b 0 a a))<|.leaf (.inl ((gP (bi b 0 a a)),(gQ (bi b 0 a a)),(gS (bi b 0 a a)),(gT (bi b 0 a a))))
def V9(a:Nat)(b:Nat)(c:Nat)(d:List Int) :T ((Empty)⊕(gq)) :=
  .leaf (.inr (.r0 a b c d))
def dX(a:List Int)(c:Int) :Option gq:=lB (aC ((I4 a c).run) fun (d,r2,b,e) =>
  aC (df (A6 a d r2 b) (0,e)) fun f =>
  aC ((I5 b f).run) fun (g,h,i,j) =>
  (V9 g h i j).run)
theorem Zc(b:Lv)(a:List Int)(d:Int){x:gq}(h:dX a d=some x) :aj prog Cm [] [.imm b (.ns .u64 a) 1 1 0 (List.length a),.int .i64 d] (H7 x) :=
  lO true H7 Cx h (Sg.cut 6 u4 (bo mI (Y9 b a) [⟨[(.slot 4,.own 1 1 (.ns .u64 ([]:List Int)))],[80],[4]⟩,⟨[],[256],[0,5,6,7,24,25]⟩]) (fun ⟨e,r2,c,l⟩=>Sg.cut 1 u4 (Ej ⟨[],[0],[0,5,6,7,24,25]⟩ (Ex b a e r2 c) (Mh c) 0 u4 (Y7 _) (fun ⟨f,g⟩=>V8 b a e r2 c f g)) (fun m=>Sg.cut 1 u4 (bo mI Zb [⟨[],[0],[4]⟩]) (fun ⟨n,o,p,q⟩=>bo mI _ [⟨[],[0],[4]⟩]))))
    (fun x=>by cases x with | r0 i j k r=>exact lC [.sl 0 1 1 i j k])
def u5:Option gq→Bool
  | some _=>true
  | none=>false
def jw:Option gq→Nat
  | some (.r0 x _ _ _)=>x
  | _=>0
def jx:Option gq→Nat
  | some (.r0 _ x _ _)=>x
  | _=>0
def F2:Option gq→Nat
  | some (.r0 _ _ x _)=>x
  | _=>0
def jy:Option gq→List Int
  | some (.r0 _ _ _ x)=>x
  | _=>[]
theorem Zd{x:Option gq}(h:u5 x=true) :x=some (.r0 (jw x) (jx x) (F2 x) (jy x)):=by
  unfold u5 at h
  split at h<;>first | rfl | (cases h;done) | (rename_i y;cases y;rfl)
def Ri:aE:=bT Cm (.cons (.ns .u64) (.cons (.int .i64) .nil)) fun t=>(fun q=>[⟨H7 (.r0 (jw q) (jx q) (F2 q) (jy q)),[u5 q]⟩]) (dX t.1.2 t.2.1)
theorem Sz:aO prog Ri:=aJ fun t=>(aK (fun h=>Zc t.1.1 t.1.2 t.2.1 (Zd h)) bb)
def Rj:List aE:=Ri::Rh
theorem yZ:bc prog (bh Rj):=ap Sz mI
inductive eJ where
  | r0 (a:List Int) (b:Nat) (c:Nat)
def Dc(a:Lv) :eJ→AE×aF
  | .r0 b c d=>(.ret,⟨ah 10 [(2,.imm a (.ns .u64 b) 1 1 0 c),(3,.int .i64 ((d:Nat):Int))],[],0⟩)
theorem Mi{a:Lv} :j9 (Dc a):=by intro x;cases x<;>(intro h;cases h)
def wO(a:Lv) :eJ→iK
  | .r0 b c d=>⟨.tup [.imm a (.ns .u64 b) 1 1 0 c,.int .i64 ((d:Nat):Int)],[]⟩
def Mj(a:Lv) :(List Int)×Nat→aF:=fun (b,c)=>⟨ah 10 [(0,.imm a (.ns .u64 b) 1 1 0 c)],[],0⟩
def A7(a:List Int) :T (((List Int)×Nat)⊕(eJ)) :=
  .need (aP 0 (List.length a) a)<|.need (bM (au (aa 0 (List.length a) a)))<|.leaf (.inl ((aG (au (aa 0 (List.length a) a))),(aA (au (aa 0 (List.length a) a)))))
def Mk(b:List Int)(a:Nat) :T ((Empty)⊕(eJ)) :=
  .ask (decide (((a:Nat):Int)>(4096:Int)))
    (.leaf (.inr (.r0 ([]:List Int) 0 3)))
    (.leaf (.inr (.r0 b a 0)))
def jU(a:List Int) :Option eJ:=lB (aC ((A7 a).run) fun (b,c) =>
  (Mk b c).run)
theorem Ml(a:Lv)(b:List Int){x:eJ}(h:jU b=some x) :aj prog uO [] [.imm a (.ns .u64 b) 1 1 0 (List.length b)] (wO a x) :=
  lO false (wO a) (Dc a) h (Sg.cut 2 Mi (bo yZ (Mj a) [⟨[],[],[0]⟩]) (fun ⟨f,g⟩=>bo yZ _ [⟨[(.slot 2,.fre 1 1 (.ns .u64 ([]:List Int))),(.slot 2,.lev a)],[],[2,3]⟩,⟨[],[],[2,3]⟩]))
    (fun x=>by cases x with | r0 c d e=>exact lC [.imm a (.ns .u64 c) 1 1 0 d,.int .i64 ((e:Nat):Int)])
def qa:Option eJ→Bool
  | some _=>true
  | none=>false
def rx:Option eJ→List Int
  | some (.r0 x _ _)=>x
  | _=>[]
def ry:Option eJ→Nat
  | some (.r0 _ x _)=>x
  | _=>0
def rz:Option eJ→Nat
  | some (.r0 _ _ x)=>x
  | _=>0
theorem Mm{x:Option eJ}(h:qa x=true) :x=some (.r0 (rx x) (ry x) (rz x)):=by
  unfold qa at h
  split at h<;>first | rfl | (cases h;done) | (rename_i y;cases y;rfl)
def Dd:aE:=bT uO (.cons (.ns .u64) .nil) fun t=>(fun q=>[⟨wO t.1.1 (.r0 (rx q) (ry q) (rz q)),[qa q]⟩]) (jU t.1.2)
theorem H8:aO prog Dd:=aJ fun t=>(aK (fun h=>Ml t.1.1 t.1.2 (Mm h)) bb)
def De:List aE:=Dd::Rj
theorem kf:bc prog (bh De):=ap H8 yZ
inductive iW where
  | r0 (a:List Int) (b:Nat) (c:Nat)
def Rk:iW→AE×aF
  | .r0 a b c=>(.ret,⟨ah 30 [(4,.imm .free (.ns .u64 a) 1 1 0 b),(5,.int .i64 ((c:Nat):Int))],[],0⟩)
theorem Ey:j9 Rk:=by intro x;cases x<;>(intro h;cases h)
def H9:iW→iK
  | .r0 a b c=>⟨.tup [.imm .free (.ns .u64 a) 1 1 0 b,.int .i64 ((c:Nat):Int)],[]⟩
def Ze(a:Lv)(b:Int) :Nat×(List Int)×Nat→aF:=fun (c,d,e)=>⟨ah 30 [(1,.int .i64 b),(2,.ptr 0 1 0 0),(6,.int .i64 ((c:Nat):Int))],[(0,.vs [.imm a (.ns .u64 d) 1 1 0 e])],1⟩
def Mn(a:List Int) :T ((Nat×(List Int)×Nat)⊕(iW)) :=
  .ask (decide ((0:Int)<(1:Int)))
    (.need (gA (0:Int) 1)<|.need (aP 0 (List.length a) a)<|.need (bM (au (aa 0 (List.length a) a)))<|.ask (decide ((((aA (au (aa 0 (List.length a) a))):Nat):Int)>(4096:Int)))
      (.leaf (.inl (2,(aG (au (aa 0 (List.length a) a))),(aA (au (aa 0 (List.length a) a))))))
      (.need (dI .i64 (1:Int))<|.ask (decide ((1:Int)<(1:Int)))
        (.fail)
        (.leaf (.inl (0,(aG (au (aa 0 (List.length a) a))),(aA (au (aa 0 (List.length a) a))))))))
    (.fail)
def Zf(a:Lv)(b:Int)(c:List Int)(d:Nat)(_:Unit) :aF:=⟨ah 30 [(1,.int .i64 b),(2,.ptr 0 1 0 0)],[(0,.vs [.imm a (.ns .u64 c) 1 1 0 d])],1⟩
def Zg(a:Int)(b:Nat)(c:Nat) :T ((Unit)⊕(iW)) :=
  .ask (((b:Nat):Int) != (0:Int))
    (.leaf (.inr (.r0 ([]:List Int) 0 2)))
    (.ask (decide (a<(0:Int)))
      (.leaf (.inr (.r0 ([]:List Int) 0 2)))
      (.ask (decide (((c:Nat):Int)>(0:Int)))
        (.ask (decide (a≥(262144:Int)))
          (.leaf (.inr (.r0 ([]:List Int) 0 3)))
          (.leaf (.inl ())))
        (.leaf (.inl ()))))
def Zh:(List Int)×Nat×Nat→aF:=fun (a,b,c)=>⟨ah 30 [(4,.imm .free (.ns .u64 a) 1 1 0 b),(5,.int .i64 ((c:Nat):Int))],[],0⟩
def Ez(c:Int)(a:List Int)(b:Nat) :T (((List Int)×Nat×Nat)⊕(iW)) :=
  .need (aP 0 b a)<|.need (u5 (dX (aa 0 b a) c))<|.need (aP (jw (dX (aa 0 b a) c)) (jx (dX (aa 0 b a) c)) (jy (dX (aa 0 b a) c)))<|.need (qa (jU (aa (jw (dX (aa 0 b a) c)) (jx (dX (aa 0 b a) c)) (jy (dX (aa 0 b a) c)))))<|.leaf (.inl ((rx (jU (aa (jw (dX (aa 0 b a) c)) (jx (dX (aa 0 b a) c)) (jy (dX (aa 0 b a) c))))),(ry (jU (aa (jw (dX (aa 0 b a) c)) (jx (dX (aa 0 b a) c)) (jy (dX (aa 0 b a) c))))),(rz (jU (aa (jw (dX (aa 0 b a) c)) (jx (dX (aa 0 b a) c)) (jy (dX (aa 0 b a) c)))))))
def Zi(a:List Int)(b:Nat)(c:Nat) :T ((Empty)⊕(iW)) :=
  .leaf (.inr (.r0 a b c))
def gU(c:List Int)(a:Int) :Option iW:=lB (aC ((Mn c).run) fun (d,e,b) =>
  aC ((Zg a d b).run) fun _ =>
  aC ((Ez a e b).run) fun (f,g,h) =>
  (Zi f g h).run)
theorem Zj(b:Lv)(c:List Int)(a:Int){x:iW}(h:gU c a=some x) :aj prog HS [] [.imm b (.ns .u64 c) 1 1 0 (List.length c),.int .i64 a] (H9 x) :=
  lO true H9 Rk h (Sg.cut 2 Ey (bo kf (Ze b a) [⟨[],[0],[1,2,6]⟩,⟨[],[0],[1,2,6]⟩]) (fun ⟨j,d,e⟩=>Sg.cut 1 Ey (bo kf (Zf b a d e) [⟨[(.slot 4,.fre 1 1 (.ns .u64 ([]:List Int)))],[],[4,5]⟩,⟨[(.slot 4,.fre 1 1 (.ns .u64 ([]:List Int)))],[],[4,5]⟩,⟨[(.slot 4,.fre 1 1 (.ns .u64 ([]:List Int)))],[],[4,5]⟩,⟨[],[0],[1,2]⟩,⟨[],[0],[1,2]⟩]) (fun _=>Sg.cut 1 Ey (bo kf Zh [⟨[],[],[4,5]⟩]) (fun ⟨k,l,m⟩=>bo kf _ [⟨[],[],[4,5]⟩]))))
    (fun x=>by cases x with | r0 f g i=>exact lC [.imm .free (.ns .u64 f) 1 1 0 g,.int .i64 ((i:Nat):Int)])
def rA:Option iW→Bool
  | some _=>true
  | none=>false
def mJ:Option iW→List Int
  | some (.r0 x _ _)=>x
  | _=>[]
def mK:Option iW→Nat
  | some (.r0 _ x _)=>x
  | _=>0
def F3:Option iW→Nat
  | some (.r0 _ _ x)=>x
  | _=>0
theorem Zk{x:Option iW}(h:rA x=true) :x=some (.r0 (mJ x) (mK x) (F3 x)):=by
  unfold rA at h
  split at h<;>first | rfl | (cases h;done) | (rename_i y;cases y;rfl)
def Rl:aE:=bT HS (.cons (.ns .u64) (.cons (.int .i64) .nil)) fun t=>(fun q=>[⟨H9 (.r0 (mJ q) (mK q) (F3 q)),[rA q]⟩]) (gU t.1.2 t.2.1)
theorem SA:aO prog Rl:=aJ fun t=>(aK (fun h=>Zj t.1.1 t.1.2 t.2.1 (Zk h)) bb)
def Rm:List aE:=Rl::De
theorem iE:bc prog (bh Rm):=ap SA kf
inductive du where
  | r0 (a:Nat) (b:Nat) (c:Nat) (d:Bool) (e:List Int)
def x5:du→AE×aF
  | .r0 a b c d e=>(.ret,⟨ah 97 [(4,.sl 0 1 1 a b c),(5,.bool false d)],[(0,.ns .u64 e)],1⟩)
theorem kF:j9 x5:=by intro x;cases x<;>(intro h;cases h)
theorem Mo(id:Nat) :mB id x5:=by intro x;cases x<;>(intro h;cases h)
def Ia:du→iK
  | .r0 a b e c d=>⟨.tup [.imm .free (.ns .u64 d) 1 1 a b,.bool false c],[]⟩
def I6:List Code:=cY (mV Cl)
def Zl(b:Lv)(a:List Int) :Int×Int×Bool×Nat×Nat→aF:=fun (c,r2,d,e,f)=>⟨ah 97 [(0,.imm b (.ns .u64 a) 1 1 0 (List.length a)),(6,.int .i64 c),(7,.int .u64 r2),(8,.bool false d),(36,.imm b (.ns .u64 a) 1 1 0 e),(37,.int .i64 ((f:Nat):Int)),(38,.int .i64 (0:Int))],[],0⟩
def A8(b:List Int)(a:Int) :T ((Int×Int×Bool×Nat×Nat)⊕(du)) :=
  .need ((64:Int) != (0:Int))<|.need (dI .i64 (Int.tdiv a (64:Int)))<|.need ((64:Int) != (0:Int))<|.ask (decide ((Int.tdiv a (64:Int))≥(((List.length b):Nat):Int)))
    (.leaf (.inr (.r0 0 0 0 (decide ((((List.length b):Nat):Int)>(0:Int))) ([]:List Int))))
    (.need (gA (Int.tdiv a (64:Int)) (List.length b))<|.need (gM (Int.toNat (Int.tdiv a (64:Int))) (List.length b))<|.need (decide ((0:Int)≤(IntKind.u64.wrap (Int.tmod a (64:Int)))))<|.need (CW (Int.tdiv a (64:Int)) (List.length b))<|.need (CW (0:Int) (Int.toNat (Int.tdiv a (64:Int))))<|.leaf (.inl ((Int.tdiv a (64:Int)),(IntKind.u64.wrap (Int.tmod a (64:Int))),((dp .and .u64 (List.getD b (Int.toNat (Int.tdiv a (64:Int))) 0) (IntKind.u64.wrap ((IntKind.u64.wrap ((1:Int)*2^(min (Int.toNat (IntKind.u64.wrap (Int.tmod a (64:Int)))) (IntKind.u64.bits))))-(1:Int)))) != (0:Int)),(Int.toNat (Int.tdiv a (64:Int))),(Int.toNat (Int.tdiv a (64:Int))))))
def EA(b:Lv)(a:List Int)(c:Int)(r2:Int)(d:Nat)(e:Nat) :Bool×Nat→aF:=fun (f,g)=>⟨ah 97 [(0,.imm b (.ns .u64 a) 1 1 0 (List.length a)),(6,.int .i64 c),(7,.int .u64 r2),(8,.bool false f),(36,.imm b (.ns .u64 a) 1 1 0 d),(37,.int .i64 ((e:Nat):Int)),(38,.int .i64 ((g:Nat):Int))],[],0⟩
def Mp(b:Lv)(a:List Int)(c:Int)(r2:Int)(d:Bool) :aF:=⟨ah 97 [(0,.imm b (.ns .u64 a) 1 1 0 (List.length a)),(6,.int .i64 c),(7,.int .u64 r2),(8,.bool false d)],[],0⟩
def Wa:List Code:=cY (d7 ((((I6.drop 6).take 1)).headD .skip))
def Zm(b:Lv)(a:List Int)(c:Int)(r2:Int)(d:Nat)(e:Nat)(f:Nat)(g:Bool) :aF:=⟨ah 97 [(0,.imm b (.ns .u64 a) 1 1 0 (List.length a)),(6,.int .i64 c),(7,.int .u64 r2),(8,.bool false g),(36,.imm b (.ns .u64 a) 1 1 0 d),(37,.int .i64 ((e:Nat):Int)),(38,.int .i64 ((f:Nat):Int))],[],0⟩
def wh(b:List Int)(d:Nat)(e:Nat)(c:Bool)(a:Nat) :T ((Bool)⊕((Bool)⊕(du))) :=
  .ask (decide (((a:Nat):Int)<((e:Nat):Int)))
    (.need (gA ((a:Nat):Int) d)<|.need (gM a (List.length b))<|.ask c
      (.leaf (.inl true))
      (.leaf (.inl ((List.getD b a 0) != (0:Int)))))
    (.leaf (.inr (.inl c)))
def Wb(a:Nat)(b:Bool) :T ((Bool×Nat)⊕((Bool)⊕(du))) :=
  .need (dI .i64 (((a+1):Nat):Int))<|.leaf (.inl (b,(a+1)))
def A9(b:List Int)(c:Nat)(d:Nat) :Bool×Nat→Option ((Bool×Nat)⊕((Bool)⊕(du))):=fun (e,a) =>
  aC ((wh b c d e a).run) fun f =>
  (Wb a f).run
theorem Wc(b:Lv)(a:List Int)(c:Int)(r2:Int)(d:Nat)(e:Nat)(g:Bool)(f:Nat) :Sg prog [] Wa (EA b a c r2 d e (g,f)) (A9 a d e (g,f)) (EA b a c r2 d e) (dH 0 (Mp b a c r2) x5):=by
  unfold A9;exact Sg.cut 3 (bB kF) (bo iE (Zm b a c r2 d e f) [⟨[],[],[0,6,7,8,36,37,38]⟩,⟨[],[],[0,6,7,8,36,37,38]⟩,⟨[],[],[0,6,7,8]⟩]) (fun h=>bo iE _ [⟨[],[],[0,6,7,8,36,37,38]⟩])
def Zn(c:Lv)(a:List Int)(d:Int)(r2:Int)(e:Bool) :Nat×Nat×(List Int)→aF:=fun (b,f,g)=>⟨ah 97 [(0,.imm c (.ns .u64 a) 1 1 0 (List.length a)),(6,.int .i64 d),(7,.int .u64 r2),(8,.bool false e),(11,.sl 0 1 1 0 b b),(54,.int .i64 ((f:Nat):Int)),(55,.int .i64 (0:Int))],[(0,.ns .u64 g)],1⟩
def Ba(a:List Int)(b:Int) :T ((Nat×Nat×(List Int))⊕(du)) :=
  .need (dI .i64 ((((List.length a):Nat):Int)-b))<|.need (decide ((0:Int)≤((((List.length a):Nat):Int)-b)))<|.need (decide (((((List.length a):Nat):Int)-b)≤((((List.length a):Nat):Int)-b)))<|.need (decide ((8:Int)*((((List.length a):Nat):Int)-b)≤140737488355328))<|.need (dI .i64 ((((List.length a):Nat):Int)-b))<|.leaf (.inl ((Int.toNat ((((List.length a):Nat):Int)-b)),(Int.toNat ((((List.length a):Nat):Int)-b)),(List.replicate (Int.toNat ((((List.length a):Nat):Int)-b)) (0:Int))))
def Bb(c:Lv)(a:List Int)(d:Int)(r2:Int)(e:Bool)(b:Nat)(f:Nat) :Nat×(List Int)→aF:=fun (g,h)=>⟨ah 97 [(0,.imm c (.ns .u64 a) 1 1 0 (List.length a)),(6,.int .i64 d),(7,.int .u64 r2),(8,.bool false e),(11,.sl 0 1 1 0 b b),(54,.int .i64 ((f:Nat):Int)),(55,.int .i64 ((g:Nat):Int))],[(0,.ns .u64 h)],1⟩
def I7(b:Bool)(a:Nat)(c:(List Int)) :aF:=⟨ah 97 [(8,.bool false b),(11,.sl 0 1 1 0 a a)],[(0,.ns .u64 c)],1⟩
def We:List Code:=cY (d7 ((((((I6.drop 6).drop 1).drop 2).take 1)).headD .skip))
def Wf(c:Lv)(a:List Int)(d:Int)(r2:Int)(e:Bool)(b:Nat)(f:Nat)(g:Nat)(h:(List Int)) :aF:=⟨ah 97 [(0,.imm c (.ns .u64 a) 1 1 0 (List.length a)),(6,.int .i64 d),(7,.int .u64 r2),(8,.bool false e),(11,.sl 0 1 1 0 b b),(54,.int .i64 ((f:Nat):Int)),(55,.int .i64 ((g:Nat):Int))],[(0,.ns .u64 h)],1⟩
def wi(c:List Int)(b:Int)(r2:Int)(e:Nat)(f:Nat)(a:Nat)(d:List Int) :T (((List Int))⊕(((List Int))⊕(du))) :=
  .ask (decide (((a:Nat):Int)<((f:Nat):Int)))
    (.need (dI .i64 (((a:Nat):Int)+b))<|.need (gA (((a:Nat):Int)+b) (List.length c))<|.need (gM (Int.toNat (((a:Nat):Int)+b)) (List.length c))<|.need (decide ((0:Int)≤r2))<|.need (gA ((a:Nat):Int) e)<|.need (gM a (List.length d))<|.need (dI .i64 (((a:Nat):Int)+b))<|.need (dI .i64 ((((a:Nat):Int)+b)+(1:Int)))<|.ask (decide (((((a:Nat):Int)+b)+(1:Int))<(((List.length c):Nat):Int)))
      (.need (gA ((a:Nat):Int) e)<|.need (gM a (List.length (List.set d a (Int.fdiv (List.getD c (Int.toNat (((a:Nat):Int)+b)) 0) (2^(min (Int.toNat r2) (IntKind.u64.bits)))))))<|.need (dI .i64 (((a:Nat):Int)+b))<|.need (dI .i64 ((((a:Nat):Int)+b)+(1:Int)))<|.need (gA ((((a:Nat):Int)+b)+(1:Int)) (List.length c))<|.need (gM (Int.toNat ((((a:Nat):Int)+b)+(1:Int))) (List.length c))<|.need (decide ((0:Int)≤(1:Int)))<|.need (decide ((0:Int)≤(IntKind.u64.wrap ((63:Int)-r2))))<|.need (gA ((a:Nat):Int) e)<|.need (gM a (List.length (List.set d a (Int.fdiv (List.getD c (Int.toNat (((a:Nat):Int)+b)) 0) (2^(min (Int.toNat r2) (IntKind.u64.bits)))))))<|.leaf (.inl (List.set (List.set d a (Int.fdiv (List.getD c (Int.toNat (((a:Nat):Int)+b)) 0) (2^(min (Int.toNat r2) (IntKind.u64.bits))))) a (dp .or .u64 (List.getD (List.set d a (Int.fdiv (List.getD c (Int.toNat (((a:Nat):Int)+b)) 0) (2^(min (Int.toNat r2) (IntKind.u64.bits))))) a 0) (IntKind.u64.wrap ((IntKind.u64.wrap ((List.getD c (Int.toNat ((((a:Nat):Int)+b)+(1:Int))) 0)*2^(min (Int.toNat (1:Int)) (IntKind.u64.bits))))*2^(min (Int.toNat (IntKind.u64.wrap ((63:Int)-r2))) (IntKind.u64.bits))))))))
      (.leaf (.inl (List.set d a (Int.fdiv (List.getD c (Int.toNat (((a:Nat):Int)+b)) 0) (2^(min (Int.toNat r2) (IntKind.u64.bits))))))))
    (.leaf (.inr (.inl d)))
def Wg(a:Nat)(b:List Int) :T ((Nat×(List Int))⊕(((List Int))⊕(du))) :=
  .need (dI .i64 (((a+1):Nat):Int))<|.leaf (.inl ((a+1),b))
def Bc(b:List Int)(c:Int)(r2:Int)(d:Nat)(e:Nat) :Nat×(List Int)→Option ((Nat×(List Int))⊕(((List Int))⊕(du))):=fun (a,f) =>
  aC ((wi b c r2 d e a f).run) fun g =>
  (Wg a g).run
theorem Wh(f:Lv)(b:List Int)(c:Int)(r2:Int)(d:Bool)(a:Nat)(e:Nat)(g:Nat)(h:List Int) :Sg prog [] We (Bb f b c r2 d a e (g,h)) (Bc b c r2 a e (g,h)) (Bb f b c r2 d a e) (dH 2 (I7 d a) x5):=by
  unfold Bc;exact Sg.cut 3 (bB kF) (bo iE (Wf f b c r2 d a e g) [⟨[],[0],[0,6,7,8,11,54,55]⟩,⟨[],[0],[0,6,7,8,11,54,55]⟩,⟨[],[0],[8,11]⟩]) (fun i=>bo iE _ [⟨[],[0],[0,6,7,8,11,54,55]⟩])
def Wi(a:Bool) :Nat×Nat×Nat×(List Int)→aF:=fun (b,c,d,e)=>⟨ah 97 [(4,.sl 0 1 1 b c d),(5,.bool false a)],[(0,.ns .u64 e)],1⟩
def I8(a:Nat)(b:List Int) :T ((Nat×Nat×Nat×(List Int))⊕(du)) :=
  .need (hJ (bi b 0 a a))<|.leaf (.inl ((gP (bi b 0 a a)),(gQ (bi b 0 a a)),(gS (bi b 0 a a)),(gT (bi b 0 a a))))
def Wj(a:Bool)(b:Nat)(c:Nat)(d:Nat)(e:List Int) :T ((Empty)⊕(du)) :=
  .leaf (.inr (.r0 b c d a e))
def pC(a:List Int)(d:Int) :Option du:=lB (aC ((A8 a d).run) fun (b,r2,e,f,g) =>
  aC (df (A9 a f g) (e,0)) fun h =>
  aC ((Ba a b).run) fun (c,i,j) =>
  aC (df (Bc a b r2 c i) (0,j)) fun k =>
  aC ((I8 c k).run) fun (l,m,n,o) =>
  (Wj h l m n o).run)
theorem Zo(b:Lv)(a:List Int)(f:Int){x:du}(h:pC a f=some x) :aj prog Cl [] [.imm b (.ns .u64 a) 1 1 0 (List.length a),.int .i64 f] (Ia x) :=
  lO true Ia x5 h (Sg.cut 6 kF (bo iE (Zl b a) [⟨[(.slot 4,.own 1 1 (.ns .u64 ([]:List Int)))],[288],[4,5]⟩,⟨[],[],[0,6,7,8,36,37,38]⟩]) (fun ⟨c,r2,s,g,i⟩=>Sg.cut 1 kF (Ej ⟨[],[],[0,6,7,8,36,37,38]⟩ (EA b a c r2 g i) (Mp b a c r2) 0 kF (Mo _) (fun ⟨k,l⟩=>Wc b a c r2 g i k l)) (fun d=>Sg.cut 2 kF (bo iE (Zn b a c r2 d) [⟨[],[64],[0,6,7,8,11,54,55]⟩]) (fun ⟨e,j,t⟩=>Sg.cut 1 kF (Ej ⟨[],[0],[0,6,7,8,11,54,55]⟩ (Bb b a c r2 d e j) (I7 d e) 2 kF (Mo _) (fun ⟨m,n⟩=>Wh b a c r2 d e j m n)) (fun u=>Sg.cut 1 kF (bo iE (Wi d) [⟨[],[0],[4,5]⟩]) (fun ⟨v,w,y,z⟩=>bo iE _ [⟨[],[0],[4,5]⟩]))))))
    (fun x=>by cases x with | r0 o p q r A=>exact lC [.sl 0 1 1 o p q,.bool false r])
def y4:Option du→Bool
  | some _=>true
  | none=>false
def y5:Option du→Nat
  | some (.r0 x _ _ _ _)=>x
  | _=>0
def y6:Option du→Nat
  | some (.r0 _ x _ _ _)=>x
  | _=>0
def F4:Option du→Nat
  | some (.r0 _ _ x _ _)=>x
  | _=>0
def y7:Option du→Bool
  | some (.r0 _ _ _ x _)=>x
  | _=>false
def y8:Option du→List Int
  | some (.r0 _ _ _ _ x)=>x
  | _=>[]
theorem Zp{x:Option du}(h:y4 x=true) :x=some (.r0 (y5 x) (y6 x) (F4 x) (y7 x) (y8 x)):=by
  unfold y4 at h
  split at h<;>first | rfl | (cases h;done) | (rename_i y;cases y;rfl)
def Rn:aE:=bT Cl (.cons (.ns .u64) (.cons (.int .i64) .nil)) fun t=>(fun q=>[⟨Ia (.r0 (y5 q) (y6 q) (F4 q) (y7 q) (y8 q)),[y4 q]⟩]) (pC t.1.2 t.2.1)
theorem SB:aO prog Rn:=aJ fun t=>(aK (fun h=>Zo t.1.1 t.1.2 t.2.1 (Zp h)) bb)
def Ro:List aE:=Rn::Rm
theorem qb:bc prog (bh Ro):=ap SB iE
inductive gV where
  | r0 (a:List Int) (b:Nat) (c:Nat) (d:Bool) (e:Nat)
def Rp:gV→AE×aF
  | .r0 a b c d e=>(.ret,⟨ah 23 [(4,.imm .free (.ns .u64 a) 1 1 b c),(5,.bool false d),(6,.int .i64 ((e:Nat):Int))],[],0⟩)
theorem EB:j9 Rp:=by intro x;cases x<;>(intro h;cases h)
def Ib:gV→iK
  | .r0 a b c d e=>⟨.tup [.imm .free (.ns .u64 a) 1 1 b c,.bool false d,.int .i64 ((e:Nat):Int)],[]⟩
def Zq(a:Lv)(b:Int) :Nat×(List Int)×Nat→aF:=fun (c,d,e)=>⟨ah 23 [(1,.int .i64 b),(2,.ptr 0 1 0 0),(6,.int .i64 ((c:Nat):Int))],[(0,.vs [.imm a (.ns .u64 d) 1 1 0 e])],1⟩
def Mq(a:List Int) :T ((Nat×(List Int)×Nat)⊕(gV)) :=
  .ask (decide ((0:Int)<(1:Int)))
    (.need (gA (0:Int) 1)<|.need (aP 0 (List.length a) a)<|.need (bM (au (aa 0 (List.length a) a)))<|.ask (decide ((((aA (au (aa 0 (List.length a) a))):Nat):Int)>(4096:Int)))
      (.leaf (.inl (2,(aG (au (aa 0 (List.length a) a))),(aA (au (aa 0 (List.length a) a))))))
      (.need (dI .i64 (1:Int))<|.ask (decide ((1:Int)<(1:Int)))
        (.fail)
        (.leaf (.inl (0,(aG (au (aa 0 (List.length a) a))),(aA (au (aa 0 (List.length a) a))))))))
    (.fail)
def Zr(a:Lv)(b:Int)(c:List Int)(d:Nat)(e:Bool) :aF:=⟨ah 23 [(1,.int .i64 b),(2,.ptr 0 1 0 0),(14,.bool false e)],[(0,.vs [.imm a (.ns .u64 c) 1 1 0 d])],1⟩
def Zs(a:Int)(b:Nat) :T ((Bool)⊕(gV)) :=
  .ask (((b:Nat):Int) != (0:Int))
    (.leaf (.inl true))
    (.leaf (.inl (decide (a<(0:Int)))))
def Zt:(List Int)×Nat×Nat×Bool→aF:=fun (a,b,c,d)=>⟨ah 23 [(4,.imm .free (.ns .u64 a) 1 1 b c),(5,.bool false d)],[],0⟩
def EC(c:Int)(a:List Int)(b:Nat)(d:Bool) :T (((List Int)×Nat×Nat×Bool)⊕(gV)) :=
  .ask d
    (.leaf (.inr (.r0 ([]:List Int) 0 0 false 2)))
    (.need (aP 0 b a)<|.need (y4 (pC (aa 0 b a) c))<|.leaf (.inl ((y8 (pC (aa 0 b a) c)),(y5 (pC (aa 0 b a) c)),(y6 (pC (aa 0 b a) c)),(y7 (pC (aa 0 b a) c)))))
def Zu(a:List Int)(b:Nat)(c:Nat)(d:Bool) :T ((Empty)⊕(gV)) :=
  .leaf (.inr (.r0 a b c d 0))
def rB(b:List Int)(a:Int) :Option gV:=lB (aC ((Mq b).run) fun (c,d,e) =>
  aC ((Zs a c).run) fun f =>
  aC ((EC a d e f).run) fun (g,h,i,j) =>
  (Zu g h i j).run)
theorem Zv(b:Lv)(c:List Int)(a:Int){x:gV}(h:rB c a=some x) :aj prog HP [] [.imm b (.ns .u64 c) 1 1 0 (List.length c),.int .i64 a] (Ib x) :=
  lO true Ib Rp h (Sg.cut 2 EB (bo qb (Zq b a) [⟨[],[0],[1,2,6]⟩,⟨[],[0],[1,2,6]⟩]) (fun ⟨l,d,e⟩=>Sg.cut 1 EB (bo qb (Zr b a d e) [⟨[],[0],[1,2,14]⟩,⟨[],[0],[1,2,14]⟩]) (fun m=>Sg.cut 2 EB (bo qb Zt [⟨[(.slot 4,.fre 1 1 (.ns .u64 ([]:List Int)))],[],[4,5,6]⟩,⟨[],[],[4,5]⟩]) (fun ⟨n,o,p,q⟩=>bo qb _ [⟨[],[],[4,5,6]⟩]))))
    (fun x=>by cases x with | r0 f g i j k=>exact lC [.imm .free (.ns .u64 f) 1 1 g i,.bool false j,.int .i64 ((k:Nat):Int)])
def y9:Option gV→Bool
  | some _=>true
  | none=>false
def za:Option gV→List Int
  | some (.r0 x _ _ _ _)=>x
  | _=>[]
def zb:Option gV→Nat
  | some (.r0 _ x _ _ _)=>x
  | _=>0
def zc:Option gV→Nat
  | some (.r0 _ _ x _ _)=>x
  | _=>0
def F5:Option gV→Bool
  | some (.r0 _ _ _ x _)=>x
  | _=>false
def F6:Option gV→Nat
  | some (.r0 _ _ _ _ x)=>x
  | _=>0
theorem Zw{x:Option gV}(h:y9 x=true) :x=some (.r0 (za x) (zb x) (zc x) (F5 x) (F6 x)):=by
  unfold y9 at h
  split at h<;>first | rfl | (cases h;done) | (rename_i y;cases y;rfl)
def Rq:aE:=bT HP (.cons (.ns .u64) (.cons (.int .i64) .nil)) fun t=>(fun q=>[⟨Ib (.r0 (za q) (zb q) (zc q) (F5 q) (F6 q)),[y9 q]⟩]) (rB t.1.2 t.2.1)
theorem SC:aO prog Rq:=aJ fun t=>(aK (fun h=>Zv t.1.1 t.1.2 t.2.1 (Zw h)) bb)
def Rr:List aE:=Rq::Ro
theorem kG:bc prog (bh Rr):=ap SC qb
inductive dL where
  | r0 (a:Int) (b:Nat)
def wj:dL→AE×aF
  | .r0 a b=>(.ret,⟨ah 31 [(2,.int .i64 a),(3,.int .i64 ((b:Nat):Int))],[],0⟩)
theorem mL:j9 wj:=by intro x;cases x<;>(intro h;cases h)
theorem SD(id:Nat) :mB id wj:=by intro x;cases x<;>(intro h;cases h)
def Bd:dL→iK
  | .r0 a b=>⟨.tup [.int .i64 a,.int .i64 ((b:Nat):Int)],[]⟩
def SE:List Code:=cY (mV vV)
def SF(a:Lv) :Nat×(List Int)×Nat→aF:=fun (b,c,d)=>⟨ah 31 [(1,.ptr 0 1 0 0),(4,.int .i64 ((b:Nat):Int))],[(0,.vs [.imm a (.ns .u64 c) 1 1 0 d])],1⟩
def Df(a:List Int) :T ((Nat×(List Int)×Nat)⊕(dL)) :=
  .ask (decide ((0:Int)<(1:Int)))
    (.need (gA (0:Int) 1)<|.need (aP 0 (List.length a) a)<|.need (bM (au (aa 0 (List.length a) a)))<|.ask (decide ((((aA (au (aa 0 (List.length a) a))):Nat):Int)>(4096:Int)))
      (.leaf (.inl (2,(aG (au (aa 0 (List.length a) a))),(aA (au (aa 0 (List.length a) a))))))
      (.need (dI .i64 (1:Int))<|.ask (decide ((1:Int)<(1:Int)))
        (.fail)
        (.leaf (.inl (0,(aG (au (aa 0 (List.length a) a))),(aA (au (aa 0 (List.length a) a))))))))
    (.fail)
def SG(a:Lv)(b:Nat)(c:List Int)(d:Nat)(e:Bool) :aF:=⟨ah 31 [(1,.ptr 0 1 0 0),(4,.int .i64 ((b:Nat):Int)),(14,.bool false e)],[(0,.vs [.imm a (.ns .u64 c) 1 1 0 d])],1⟩
def Ov(a:Nat)(b:Nat) :T ((Bool)⊕(dL)) :=
  .ask (((a:Nat):Int) != (0:Int))
    (.leaf (.inl true))
    (.leaf (.inl (((b:Nat):Int)==(0:Int))))
def SH(a:Lv)(b:List Int)(c:Nat)(_:Unit) :aF:=⟨ah 31 [(1,.ptr 0 1 0 0),(5,.int .i64 (0:Int))],[(0,.vs [.imm a (.ns .u64 b) 1 1 0 c])],1⟩
def Ow(a:Nat)(b:Bool) :T ((Unit)⊕(dL)) :=
  .ask b
    (.leaf (.inr (.r0 (0:Int) a)))
    (.leaf (.inl ()))
def zd(a:Lv)(b:List Int)(c:Nat)(d:Nat) :aF:=⟨ah 31 [(1,.ptr 0 1 0 0),(5,.int .i64 ((d:Nat):Int))],[(0,.vs [.imm a (.ns .u64 b) 1 1 0 c])],1⟩
def F7(a:Lv)(b:List Int)(c:Nat)(d:Nat) :aF:=⟨ah 31 [(1,.ptr 0 1 0 0),(5,.int .i64 ((d:Nat):Int))],[(0,.vs [.imm a (.ns .u64 b) 1 1 0 c])],1⟩
def Ox:List Code:=cY (d7 ((((((SE.drop 2).drop 1).drop 2).take 1)).headD .skip))
def nr(b:List Int)(c:Nat)(a:Nat) :T ((Nat)⊕((Nat)⊕(dL))) :=
  .need (gA ((a:Nat):Int) c)<|.need (gM a (List.length b))<|.ask ((List.getD b a 0)==(0:Int))
    (.need (dI .i64 (((a+1):Nat):Int))<|.leaf (.inl (a+1)))
    (.leaf (.inr (.inl a)))
def wP(a:List Int)(b:Nat) :Nat→Option ((Nat)⊕((Nat)⊕(dL))):=fun c =>
  (nr a b c).run
theorem Oy(c:Lv)(a:List Int)(b:Nat)(d:Nat) :Sg prog [] Ox (zd c a b d) (wP a b d) (zd c a b) (dH 0 (F7 c a b) wj):=by
  unfold wP;exact bo kG _ [⟨[],[0],[1,5]⟩,⟨[],[0],[1,5]⟩]
def SI(a:Int) :aF:=⟨ah 31 [(2,.int .i64 a),(3,.int .i64 (0:Int))],[],0⟩
def Dg(b:List Int)(c:Nat)(a:Nat) :T ((Int)⊕(dL)) :=
  .need (dI .i64 (((64*a):Nat):Int))<|.need (gA ((a:Nat):Int) c)<|.need (gM a (List.length b))<|.need (dq (cV (List.getD b a 0)))<|.need (dI .i64 ((((64*a):Nat):Int)+(da (cV (List.getD b a 0)))))<|.leaf (.inl ((((64*a):Nat):Int)+(da (cV (List.getD b a 0)))))
def Oz(a:Int) :T ((Empty)⊕(dL)) :=
  .leaf (.inr (.r0 a 0))
def sM(d:List Int) :Option dL:=lB (aC ((Df d).run) fun (b,c,a) =>
  aC ((Ov b a).run) fun e =>
  aC ((Ow b e).run) fun _ =>
  aC (df (wP c a) 0) fun f =>
  aC ((Dg c a f).run) fun g =>
  (Oz g).run)
theorem SJ(a:Lv)(d:List Int){x:dL}(h:sM d=some x) :aj prog vV [] [.imm a (.ns .u64 d) 1 1 0 (List.length d)] (Bd x) :=
  lO true Bd wj h (Sg.cut 2 mL (bo kG (SF a) [⟨[],[0],[1,4]⟩,⟨[],[0],[1,4]⟩]) (fun ⟨e,b,c⟩=>Sg.cut 1 mL (bo kG (SG a e b c) [⟨[],[0],[1,4,14]⟩,⟨[],[0],[1,4,14]⟩]) (fun j=>Sg.cut 2 mL (bo kG (SH a b c) [⟨[],[],[2,3]⟩,⟨[],[0],[1,5]⟩]) (fun _=>Sg.cut 1 mL (Ej ⟨[],[0],[1,5]⟩ (zd a b c) (F7 a b c) 0 mL (SD _) (fun f=>Oy a b c f)) (fun k=>Sg.cut 1 mL (bo kG SI [⟨[],[],[2,3]⟩]) (fun l=>bo kG _ [⟨[],[],[2,3]⟩]))))))
    (fun x=>by cases x with | r0 g i=>exact lC [.int .i64 g,.int .i64 ((i:Nat):Int)])
def ue:Option dL→Bool
  | some _=>true
  | none=>false
def u6:Option dL→Int
  | some (.r0 x _)=>x
  | _=>0
def Be:Option dL→Nat
  | some (.r0 _ x)=>x
  | _=>0
theorem SK{x:Option dL}(h:ue x=true) :x=some (.r0 (u6 x) (Be x)):=by
  unfold ue at h
  split at h<;>first | rfl | (cases h;done) | (rename_i y;cases y;rfl)
def I9:aE:=bT vV (.cons (.ns .u64) .nil) fun t=>(fun q=>[⟨Bd (.r0 (u6 q) (Be q)),[ue q]⟩]) (sM t.1.2)
theorem Mr:aO prog I9:=aJ fun t=>(aK (fun h=>SJ t.1.1 t.1.2 (SK h)) bb)
def Ja:List aE:=I9::Rr
theorem l5:bc prog (bh Ja):=ap Mr kG
inductive dM where
  | r0 (a:Bool) (b:List Int) (c:Nat) (d:Nat) (e:Int)
def Jb:dM→AE×aF
  | .r0 a b c d e=>(.ret,⟨ah 37 [(2,.ptr 0 1 0 0)],[(0,.vs [.bool false a,.imm .free (.ns .u64 b) 1 1 c d,.int .i64 e])],1⟩)
theorem ze:j9 Jb:=by intro x;cases x<;>(intro h;cases h)
def Bf:dM→iK
  | .r0 a b c d e=>⟨.agg [.bool false a,.imm .free (.ns .u64 b) 1 1 c d,.int .i64 e],[]⟩
def SL(b:Bool)(c:Lv)(a:List Int)(d:Int) :(List Int)×Nat×Bool→aF:=fun (e,f,g)=>⟨ah 37 [(1,.ptr 0 1 0 0),(2,.ptr 1 1 0 0),(3,.imm .free (.ns .u64 e) 1 1 0 f)],[(0,.vs [.bool false b,.imm c (.ns .u64 a) 1 1 0 (List.length a),.int .i64 d]),(1,.vs [.bool false g,.nsl,.int .i64 (0:Int)])],2⟩
def zf(a:List Int) :T (((List Int)×Nat×Bool)⊕(dM)) :=
  .need (aP 0 (List.length a) a)<|.need (sH (l4 (aa 0 (List.length a) a)))<|.leaf (.inl ((wM (l4 (aa 0 (List.length a) a))),(wK (l4 (aa 0 (List.length a) a))),false))
def SM(b:Bool)(c:Lv)(a:List Int)(d:Int)(e:List Int)(f:Nat)(g:Bool)(h:Int) :aF:=⟨ah 37 [(1,.ptr 0 1 0 0),(2,.ptr 1 1 0 0),(3,.imm .free (.ns .u64 e) 1 1 0 f),(5,.int .i64 h)],[(0,.vs [.bool false b,.imm c (.ns .u64 a) 1 1 0 (List.length a),.int .i64 d]),(1,.vs [.bool false g,.nsl,.int .i64 (0:Int)])],2⟩
def zg(b:List Int)(a:Nat) :T ((Int)⊕(dM)) :=
  .ask (((a:Nat):Int)==(0:Int))
    (.leaf (.inr (.r0 false ([]:List Int) 0 0 (0:Int))))
    (.need (aP 0 a b)<|.need (ue (sM (aa 0 a b)))<|.leaf (.inl (u6 (sM (aa 0 a b)))))
def SN(b:Bool)(c:Lv)(a:List Int)(d:Int)(e:Bool)(f:Int) :(List Int)×Nat×Nat→aF:=fun (g,h,i)=>⟨ah 37 [(1,.ptr 0 1 0 0),(2,.ptr 1 1 0 0),(3,.imm .free (.ns .u64 g) 1 1 h i),(5,.int .i64 f)],[(0,.vs [.bool false b,.imm c (.ns .u64 a) 1 1 0 (List.length a),.int .i64 d]),(1,.vs [.bool false e,.nsl,.int .i64 (0:Int)])],2⟩
def zh(a:List Int)(b:Nat)(c:Int) :T (((List Int)×Nat×Nat)⊕(dM)) :=
  .need (aP 0 b a)<|.need (y9 (rB (aa 0 b a) c))<|.leaf (.inl ((za (rB (aa 0 b a) c)),(zb (rB (aa 0 b a) c)),(zc (rB (aa 0 b a) c))))
def SO(c:Bool)(a:Int)(b:Int)(d:List Int)(e:Nat)(f:Nat) :T ((Empty)⊕(dM)) :=
  .need (dI .i64 (a+b))<|.leaf (.inr (.r0 c d e f (a+b)))
def aq(d:Bool)(e:List Int)(f:Int) :Option dM:=lB (aC ((zf e).run) fun (a,b,j) =>
  aC ((zg a b).run) fun c =>
  aC ((zh a b c).run) fun (g,h,i) =>
  (SO d f c g h i).run)
theorem SP(b:Bool)(d:Lv)(a:List Int)(c:Int){x:dM}(h:aq b a c=some x) :aj prog AG [] [.agg [.bool false b,.imm d (.ns .u64 a) 1 1 0 (List.length a),.int .i64 c]] (Bf x) :=
  lO true Bf Jb h (Sg.cut 2 ze (bo l5 (SL b d a c) [⟨[],[0,16],[1,2,3]⟩]) (fun ⟨f,g,e⟩=>Sg.cut 3 ze (bo l5 (SM b d a c f g e) [⟨[(.cell 1 1,.fre 1 1 (.ns .u64 ([]:List Int)))],[1],[2]⟩,⟨[],[0,1],[1,2,3,5]⟩]) (fun i=>Sg.cut 1 ze (bo l5 (SN b d a c e i) [⟨[],[0,1],[1,2,3,5]⟩]) (fun ⟨o,p,q⟩=>bo l5 _ [⟨[],[1],[2]⟩]))))
    (fun x=>by cases x with | r0 j k l m n=>exact lC [.agg [.bool false j,.imm .free (.ns .u64 k) 1 1 l m,.int .i64 n]])
def dY:Option dM→Bool
  | some _=>true
  | none=>false
def cz:Option dM→Bool
  | some (.r0 x _ _ _ _)=>x
  | _=>false
def cA:Option dM→List Int
  | some (.r0 _ x _ _ _)=>x
  | _=>[]
def cB:Option dM→Nat
  | some (.r0 _ _ x _ _)=>x
  | _=>0
def cC:Option dM→Nat
  | some (.r0 _ _ _ x _)=>x
  | _=>0
def cD:Option dM→Int
  | some (.r0 _ _ _ _ x)=>x
  | _=>0
theorem SQ{x:Option dM}(h:dY x=true) :x=some (.r0 (cz x) (cA x) (cB x) (cC x) (cD x)):=by
  unfold dY at h
  split at h<;>first | rfl | (cases h;done) | (rename_i y;cases y;rfl)
def Jc:aE:=bT AG (.cons (.agg (.cons .bool (.cons (.ns .u64) (.cons (.int .i64) .nil)))) .nil) fun t=>(fun q=>[⟨Bf (.r0 (cz q) (cA q) (cB q) (cC q) (cD q)),[dY q]⟩]) (aq t.1.1 t.1.2.1.2 t.1.2.2.1)
theorem Ms:aO prog Jc:=aJ fun t=>(aK (fun h=>SP t.1.1 t.1.2.1.1 t.1.2.1.2 t.1.2.2.1 (SQ h)) bb)
def Jd:List aE:=Jc::Ja
theorem qc:bc prog (bh Jd):=ap Ms l5
inductive jV where
  | r0 (a:Bool)
def Mt:jV→AE×aF
  | .r0 a=>(.ret,⟨ah 18 [(2,.bool false a)],[],0⟩)
theorem Je:j9 Mt:=by intro x;cases x<;>(intro h;cases h)
def ED:jV→iK
  | .r0 a=>⟨.bool false a,[]⟩
def Wl(b:Bool)(c:Lv)(a:List Int)(d:Int)(e:Nat) :aF:=⟨ah 18 [(1,.ptr 0 1 0 0),(4,.int .i64 ((e:Nat):Int))],[(0,.vs [.bool false b,.imm c (.ns .u64 a) 1 1 0 (List.length a),.int .i64 d])],1⟩
def Jf(a:List Int) :T ((Nat)⊕(jV)) :=
  .need (aP 0 (List.length a) a)<|.need (sH (l4 (aa 0 (List.length a) a)))<|.leaf (.inl (wL (l4 (aa 0 (List.length a) a))))
def Wm(a:Bool) :aF:=⟨ah 18 [(2,.bool false a)],[],0⟩
def Wn(a:Int)(b:Nat) :T ((Bool)⊕(jV)) :=
  .ask (((b:Nat):Int)==(0:Int))
    (.ask (decide (a≥(-262144:Int)))
      (.leaf (.inl (decide (a≤(262144:Int)))))
      (.leaf (.inl false)))
    (.leaf (.inl false))
def Wo(a:Bool) :T ((Empty)⊕(jV)) :=
  .leaf (.inr (.r0 a))
def db(a:List Int)(b:Int) :Option jV:=lB (aC ((Jf a).run) fun c =>
  aC ((Wn b c).run) fun d =>
  (Wo d).run)
theorem Wp(c:Bool)(d:Lv)(a:List Int)(b:Int){x:jV}(h:db a b=some x) :aj prog Ec [] [.agg [.bool false c,.imm d (.ns .u64 a) 1 1 0 (List.length a),.int .i64 b]] (ED x) :=
  lO true ED Mt h (Sg.cut 2 Je (bo qc (Wl c d a b) [⟨[],[0],[1,4]⟩]) (fun f=>Sg.cut 1 Je (bo qc Wm [⟨[],[],[2]⟩,⟨[],[],[2]⟩,⟨[],[],[2]⟩]) (fun g=>bo qc _ [⟨[],[],[2]⟩])))
    (fun x=>by cases x with | r0 e=>exact lC [.bool false e])
def ia:Option jV→Bool
  | some _=>true
  | none=>false
def fJ:Option jV→Bool
  | some (.r0 x)=>x
  | _=>false
theorem Wq{x:Option jV}(h:ia x=true) :x=some (.r0 (fJ x)):=by
  unfold ia at h
  split at h<;>first | rfl | (cases h;done) | (rename_i y;cases y;rfl)
def Mu:aE:=bT Ec (.cons (.agg (.cons .bool (.cons (.ns .u64) (.cons (.int .i64) .nil)))) .nil) fun t=>(fun q=>[⟨ED (.r0 (fJ q)),[ia q]⟩]) (db t.1.2.1.2 t.1.2.2.1)
theorem OA:aO prog Mu:=aJ fun t=>(aK (fun h=>Wp t.1.1 t.1.2.1.1 t.1.2.1.2 t.1.2.2.1 (Wq h)) bb)
def Mv:List aE:=Mu::Jd
theorem r6:bc prog (bh Mv):=ap OA qc
inductive dl where
  | r0 (a:Nat) (b:Int) (c:List Int) (d:Nat) (e:List Int) (f:Nat)
def F8:dl→AE×aF
  | .r0 a b c d e f=>(.ret,⟨ah 57 [(4,.ptr 0 1 0 0),(5,.int .i64 ((a:Nat):Int))],[(0,.vs [.int .i64 b,.imm .free (.ns .u64 c) 1 1 0 d,.imm .free (.ns .u64 e) 1 1 0 f])],1⟩)
theorem Dh:j9 F8:=by intro x;cases x<;>(intro h;cases h)
def zi:dl→iK
  | .r0 a b c d e f=>⟨.tup [.agg [.int .i64 b,.imm .free (.ns .u64 c) 1 1 0 d,.imm .free (.ns .u64 e) 1 1 0 f],.int .i64 ((a:Nat):Int)],[]⟩
def OB(c:Bool)(d:Lv)(a:List Int)(e:Int)(f:Bool)(g:Lv)(b:List Int)(h:Int)(i:Int) :aF:=⟨ah 57 [(2,.ptr 0 1 0 0),(3,.ptr 1 1 0 0),(4,.ptr 2 1 0 0),(6,.ptr 3 1 0 0)],[(0,.vs [.bool false c,.imm d (.ns .u64 a) 1 1 0 (List.length a),.int .i64 e]),(1,.vs [.bool false f,.imm g (.ns .u64 b) 1 1 0 (List.length b),.int .i64 h]),(2,.vs [.int .i64 (0:Int),.nsl,.nsl]),(3,.vs [.int .i64 i,.nsl,.nsl])],4⟩
def nt(c:List Int)(a:Int)(d:List Int)(b:Int) :T ((Int)⊕(dl)) :=
  .ask ((((List.length c):Nat):Int)==(0:Int))
    (.leaf (.inl b))
    (.ask ((((List.length d):Nat):Int)==(0:Int))
      (.leaf (.inl a))
      (.need (dI .i64 ((kR a b)-(vG a b)))<|.ask (decide (((kR a b)-(vG a b))>(262144:Int)))
        (.leaf (.inr (.r0 3 (0:Int) ([]:List Int) 0 ([]:List Int) 0)))
        (.leaf (.inl (vG a b)))))
def OC(a:Int) :(List Int)×Nat×(List Int)×Nat→aF:=fun (b,c,d,e)=>⟨ah 57 [(4,.ptr 0 1 0 0),(6,.ptr 1 1 0 0)],[(0,.vs [.int .i64 (0:Int),.nsl,.nsl]),(1,.vs [.int .i64 a,.imm .free (.ns .u64 b) 1 1 0 c,.imm .free (.ns .u64 d) 1 1 0 e])],2⟩
def iM(c:List Int)(e:Int)(a:List Int)(d:Int)(b:Int) :T (((List Int)×Nat×(List Int)×Nat)⊕(dl)) :=
  .ask ((((List.length c):Nat):Int)==(0:Int))
    (.ask ((((List.length a):Nat):Int)==(0:Int))
      (.leaf (.inl (([]:List Int),0,([]:List Int),0)))
      (.need (dI .i64 (d-b))<|.need (aP 0 (List.length a) a)<|.need (rA (gU (aa 0 (List.length a) a) (d-b)))<|.leaf (.inl (([]:List Int),0,(mJ (gU (aa 0 (List.length a) a) (d-b))),(mK (gU (aa 0 (List.length a) a) (d-b)))))))
    (.need (dI .i64 (e-b))<|.need (aP 0 (List.length c) c)<|.need (rA (gU (aa 0 (List.length c) c) (e-b)))<|.ask ((((List.length a):Nat):Int)==(0:Int))
      (.leaf (.inl ((mJ (gU (aa 0 (List.length c) c) (e-b))),(mK (gU (aa 0 (List.length c) c) (e-b))),([]:List Int),0)))
      (.need (dI .i64 (d-b))<|.need (aP 0 (List.length a) a)<|.need (rA (gU (aa 0 (List.length a) a) (d-b)))<|.leaf (.inl ((mJ (gU (aa 0 (List.length c) c) (e-b))),(mK (gU (aa 0 (List.length c) c) (e-b))),(mJ (gU (aa 0 (List.length a) a) (d-b))),(mK (gU (aa 0 (List.length a) a) (d-b)))))))
def OD(a:Int)(b:List Int)(c:Nat)(d:List Int)(e:Nat) :T ((Empty)⊕(dl)) :=
  .leaf (.inr (.r0 0 a b c d e))
def cL(a:List Int)(b:Int)(c:List Int)(d:Int) :Option dl:=lB (aC ((nt a b c d).run) fun e =>
  aC ((iM a b c d e).run) fun (f,g,h,i) =>
  (OD e f g h i).run)
theorem OE(e:Bool)(f:Lv)(a:List Int)(c:Int)(g:Bool)(i:Lv)(b:List Int)(d:Int){x:dl}(h:cL a c b d=some x) :aj prog yC [] [.agg [.bool false e,.imm f (.ns .u64 a) 1 1 0 (List.length a),.int .i64 c],.agg [.bool false g,.imm i (.ns .u64 b) 1 1 0 (List.length b),.int .i64 d]] (zi x) :=
  lO true zi F8 h (Sg.cut 3 Dh (bo r6 (OB e f a c g i b d) [⟨[],[0,16,32,176],[2,3,4,6]⟩,⟨[],[0,16,32,176],[2,3,4,6]⟩,⟨[(.cell 32 1,.fre 1 1 (.ns .u64 ([]:List Int))),(.cell 32 2,.fre 1 1 (.ns .u64 ([]:List Int)))],[32],[4,5]⟩,⟨[],[0,16,32,176],[2,3,4,6]⟩]) (fun j=>Sg.cut 2 Dh (bo r6 (OC j) [⟨[(.cell 3 1,.fre 1 1 (.ns .u64 ([]:List Int))),(.cell 3 2,.fre 1 1 (.ns .u64 ([]:List Int)))],[2,3],[4,6]⟩,⟨[(.cell 3 1,.fre 1 1 (.ns .u64 ([]:List Int)))],[2,3],[4,6]⟩,⟨[(.cell 3 2,.fre 1 1 (.ns .u64 ([]:List Int)))],[2,3],[4,6]⟩,⟨[],[2,3],[4,6]⟩]) (fun ⟨q,r,s,t⟩=>bo r6 _ [⟨[],[0],[4,5]⟩])))
    (fun x=>by cases x with | r0 k l m n o p=>exact lC [.agg [.int .i64 l,.imm .free (.ns .u64 m) 1 1 0 n,.imm .free (.ns .u64 o) 1 1 0 p],.int .i64 ((k:Nat):Int)])
def nu:Option dl→Bool
  | some _=>true
  | none=>false
def ot:Option dl→Nat
  | some (.r0 x _ _ _ _ _)=>x
  | _=>0
def ou:Option dl→Int
  | some (.r0 _ x _ _ _ _)=>x
  | _=>0
def ov:Option dl→List Int
  | some (.r0 _ _ x _ _ _)=>x
  | _=>[]
def ow:Option dl→Nat
  | some (.r0 _ _ _ x _ _)=>x
  | _=>0
def oz:Option dl→List Int
  | some (.r0 _ _ _ _ x _)=>x
  | _=>[]
def oA:Option dl→Nat
  | some (.r0 _ _ _ _ _ x)=>x
  | _=>0
theorem OF{x:Option dl}(h:nu x=true) :x=some (.r0 (ot x) (ou x) (ov x) (ow x) (oz x) (oA x)):=by
  unfold nu at h
  split at h<;>first | rfl | (cases h;done) | (rename_i y;cases y;rfl)
def F9:aE:=bT yC (.cons (.agg (.cons .bool (.cons (.ns .u64) (.cons (.int .i64) .nil)))) (.cons (.agg (.cons .bool (.cons (.ns .u64) (.cons (.int .i64) .nil)))) .nil)) fun t=>(fun q=>[⟨zi (.r0 (ot q) (ou q) (ov q) (ow q) (oz q) (oA q)),[nu q]⟩]) (cL t.1.2.1.2 t.1.2.2.1 t.2.1.2.1.2 t.2.1.2.2.1)
theorem JR:aO prog F9:=aJ fun t=>(aK (fun h=>OE t.1.1 t.1.2.1.1 t.1.2.1.2 t.1.2.2.1 t.2.1.1 t.2.1.2.1.1 t.2.1.2.1.2 t.2.1.2.2.1 (OF h)) bb)
def Ga:List aE:=F9::Mv
theorem oB:bc prog (bh Ga):=ap JR r6
inductive dN where
  | r0 (a:Nat) (b:Bool) (c:List Int) (d:Nat) (e:Nat) (f:Int)
def Jg:dN→AE×aF
  | .r0 a b c d e f=>(.ret,⟨ah 11 [(2,.ptr 0 1 0 0),(3,.int .i64 ((a:Nat):Int))],[(0,.vs [.bool false b,.imm .free (.ns .u64 c) 1 1 d e,.int .i64 f])],1⟩)
theorem Gb:j9 Jg:=by intro x;cases x<;>(intro h;cases h)
def Bg:dN→iK
  | .r0 a b c d e f=>⟨.tup [.agg [.bool false b,.imm .free (.ns .u64 c) 1 1 d e,.int .i64 f],.int .i64 ((a:Nat):Int)],[]⟩
def SS:Bool×(List Int)×Nat×Nat×Int×Bool→aF:=fun (a,b,c,d,e,f)=>⟨ah 11 [(1,.ptr 0 1 0 0),(2,.ptr 1 1 0 0)],[(0,.vs [.bool false a,.imm .free (.ns .u64 b) 1 1 c d,.int .i64 e]),(1,.vs [.bool false f,.nsl,.int .i64 (0:Int)])],2⟩
def Gc(b:Bool)(a:List Int)(c:Int) :T ((Bool×(List Int)×Nat×Nat×Int×Bool)⊕(dN)) :=
  .need (aP 0 (List.length a) a)<|.need (dY (aq b (aa 0 (List.length a) a) c))<|.leaf (.inl ((cz (aq b (aa 0 (List.length a) a) c)),(cA (aq b (aa 0 (List.length a) a) c)),(cB (aq b (aa 0 (List.length a) a) c)),(cC (aq b (aa 0 (List.length a) a) c)),(cD (aq b (aa 0 (List.length a) a) c)),false))
def ST(a:Bool)(b:List Int)(c:Nat)(d:Nat)(e:Int)(f:Bool)(g:Bool) :aF:=⟨ah 11 [(1,.ptr 0 1 0 0),(2,.ptr 1 1 0 0),(8,.bool false g)],[(0,.vs [.bool false a,.imm .free (.ns .u64 b) 1 1 c d,.int .i64 e]),(1,.vs [.bool false f,.nsl,.int .i64 (0:Int)])],2⟩
def zj(a:List Int)(b:Nat)(c:Nat)(d:Int) :T ((Bool)⊕(dN)) :=
  .need (aP b c a)<|.need (ia (db (aa b c a) d))<|.leaf (.inl (!(fJ (db (aa b c a) d))))
def SU(a:Bool)(b:List Int)(c:Nat)(d:Nat)(e:Int)(f:Bool) :T ((Empty)⊕(dN)) :=
  .ask f
    (.leaf (.inr (.r0 3 false ([]:List Int) 0 0 (0:Int))))
    (.leaf (.inr (.r0 0 a b c d e)))
def bN(e:Bool)(f:List Int)(g:Int) :Option dN:=lB (aC ((Gc e f g).run) fun (h,a,b,c,d,j) =>
  aC ((zj a b c d).run) fun i =>
  (SU h a b c d i).run)
theorem SV(b:Bool)(d:Lv)(a:List Int)(c:Int){x:dN}(h:bN b a c=some x) :aj prog AH [] [.agg [.bool false b,.imm d (.ns .u64 a) 1 1 0 (List.length a),.int .i64 c]] (Bg x) :=
  lO true Bg Jg h (Sg.cut 2 Gb (bo oB SS [⟨[],[0,16],[1,2]⟩]) (fun ⟨e,f,g,i,j,k⟩=>Sg.cut 1 Gb (bo oB (ST e f g i j k) [⟨[],[0,1],[1,2,8]⟩]) (fun r=>bo oB _ [⟨[(.cell 1 1,.fre 1 1 (.ns .u64 ([]:List Int)))],[1],[2,3]⟩,⟨[],[1],[2,3]⟩])))
    (fun x=>by cases x with | r0 l m n o p q=>exact lC [.agg [.bool false m,.imm .free (.ns .u64 n) 1 1 o p,.int .i64 q],.int .i64 ((l:Nat):Int)])
def mM:Option dN→Bool
  | some _=>true
  | none=>false
def l6:Option dN→Nat
  | some (.r0 x _ _ _ _ _)=>x
  | _=>0
def l7:Option dN→Bool
  | some (.r0 _ x _ _ _ _)=>x
  | _=>false
def l8:Option dN→List Int
  | some (.r0 _ _ x _ _ _)=>x
  | _=>[]
def l9:Option dN→Nat
  | some (.r0 _ _ _ x _ _)=>x
  | _=>0
def ma:Option dN→Nat
  | some (.r0 _ _ _ _ x _)=>x
  | _=>0
def mb:Option dN→Int
  | some (.r0 _ _ _ _ _ x)=>x
  | _=>0
theorem SW{x:Option dN}(h:mM x=true) :x=some (.r0 (l6 x) (l7 x) (l8 x) (l9 x) (ma x) (mb x)):=by
  unfold mM at h
  split at h<;>first | rfl | (cases h;done) | (rename_i y;cases y;rfl)
def Jh:aE:=bT AH (.cons (.agg (.cons .bool (.cons (.ns .u64) (.cons (.int .i64) .nil)))) .nil) fun t=>(fun q=>[⟨Bg (.r0 (l6 q) (l7 q) (l8 q) (l9 q) (ma q) (mb q)),[mM q]⟩]) (bN t.1.1 t.1.2.1.2 t.1.2.2.1)
theorem Mw:aO prog Jh:=aJ fun t=>(aK (fun h=>SV t.1.1 t.1.2.1.1 t.1.2.1.2 t.1.2.2.1 (SW h)) bb)
def Ji:List aE:=Jh::Ga
theorem u7:bc prog (bh Ji):=ap Mw oB
inductive dD where
  | r0 (a:Nat) (b:Bool) (c:List Int) (d:Nat) (e:Nat) (f:Int)
def Gd:dD→AE×aF
  | .r0 a b c d e f=>(.ret,⟨ah 21 [(7,.ptr 0 1 0 0),(8,.int .i64 ((a:Nat):Int))],[(0,.vs [.bool false b,.imm .free (.ns .u64 c) 1 1 d e,.int .i64 f])],1⟩)
theorem OG:j9 Gd:=by intro x;cases x<;>(intro h;cases h)
def zk:dD→iK
  | .r0 a b c d e f=>⟨.tup [.agg [.bool false b,.imm .free (.ns .u64 c) 1 1 d e,.int .i64 f],.int .i64 ((a:Nat):Int)],[]⟩
def OH:Nat×Bool×(List Int)×Nat×Nat×Int→aF:=fun (a,b,c,d,e,f)=>⟨ah 21 [(7,.ptr 0 1 0 0),(8,.int .i64 ((a:Nat):Int))],[(0,.vs [.bool false b,.imm .free (.ns .u64 c) 1 1 d e,.int .i64 f])],1⟩
def Di(b:Bool)(a:List Int)(d:Int)(c:Int) :T ((Nat×Bool×(List Int)×Nat×Nat×Int)⊕(dD)) :=
  .ask (d != (0:Int))
    (.leaf (.inr (.r0 3 false ([]:List Int) 0 0 (0:Int))))
    (.need (aP 0 (List.length a) a)<|.need (mM (bN b (aa 0 (List.length a) a) c))<|.leaf (.inl ((l6 (bN b (aa 0 (List.length a) a) c)),(l7 (bN b (aa 0 (List.length a) a) c)),(l8 (bN b (aa 0 (List.length a) a) c)),(l9 (bN b (aa 0 (List.length a) a) c)),(ma (bN b (aa 0 (List.length a) a) c)),(mb (bN b (aa 0 (List.length a) a) c)))))
def OI(a:Nat)(b:Bool)(c:List Int)(d:Nat)(e:Nat)(f:Int) :T ((Empty)⊕(dD)) :=
  .leaf (.inr (.r0 a b c d e f))
def bE(a:Bool)(b:List Int)(c:Int)(d:Int) :Option dD:=lB (aC ((Di a b c d).run) fun (e,f,g,h,i,j) =>
  (OI e f g h i j).run)
theorem OJ(b:Bool)(g:Lv)(a:List Int)(c:Int)(i:Lv)(d:Int)(j:Lv)(e:List Int)(k:Lv)(f:List Int){x:dD}(h:bE b a c d=some x) :aj prog mz [] [.bool false b,.imm g (.ns .u64 a) 1 1 0 (List.length a),.int .i64 c,.iptr i (.vs [.int .i64 d,.imm j (.ns .u64 e) 1 1 0 (List.length e),.imm k (.ns .u64 f) 1 1 0 (List.length f)]) 1 0 0] (zk x) :=
  lO false zk Gd h (Sg.cut 4 OG (bo u7 OH [⟨[(.cell 0 1,.fre 1 1 (.ns .u64 ([]:List Int)))],[0],[7,8]⟩,⟨[],[0],[7,8]⟩]) (fun ⟨r,s,t,u,v,w⟩=>bo u7 _ [⟨[],[0],[7,8]⟩]))
    (fun x=>by cases x with | r0 l m n o p q=>exact lC [.agg [.bool false m,.imm .free (.ns .u64 n) 1 1 o p,.int .i64 q],.int .i64 ((l:Nat):Int)])
def lD:Option dD→Bool
  | some _=>true
  | none=>false
def kZ:Option dD→Nat
  | some (.r0 x _ _ _ _ _)=>x
  | _=>0
def k6:Option dD→Bool
  | some (.r0 _ x _ _ _ _)=>x
  | _=>false
def k7:Option dD→List Int
  | some (.r0 _ _ x _ _ _)=>x
  | _=>[]
def k8:Option dD→Nat
  | some (.r0 _ _ _ x _ _)=>x
  | _=>0
def k9:Option dD→Nat
  | some (.r0 _ _ _ _ x _)=>x
  | _=>0
def lc:Option dD→Int
  | some (.r0 _ _ _ _ _ x)=>x
  | _=>0
theorem OK{x:Option dD}(h:lD x=true) :x=some (.r0 (kZ x) (k6 x) (k7 x) (k8 x) (k9 x) (lc x)):=by
  unfold lD at h
  split at h<;>first | rfl | (cases h;done) | (rename_i y;cases y;rfl)
def Ge:aE:=bT mz (.cons .bool (.cons (.ns .u64) (.cons (.int .i64) (.cons (.ivs (.cons (.int .i64) (.cons (.ns .u64) (.cons (.ns .u64) .nil))) 1 0 0) .nil)))) fun t=>(fun q=>[⟨zk (.r0 (kZ q) (k6 q) (k7 q) (k8 q) (k9 q) (lc q)),[lD q]⟩]) (bE t.1 t.2.1.2 t.2.2.1 t.2.2.2.1.2.1)
theorem JS:aO prog Ge:=aJ fun t=>(aK (fun h=>OJ t.1 t.2.1.1 t.2.1.2 t.2.2.1 t.2.2.2.1.1 t.2.2.2.1.2.1 t.2.2.2.1.2.2.1.1 t.2.2.2.1.2.2.1.2 t.2.2.2.1.2.2.2.1.1 t.2.2.2.1.2.2.2.1.2 (OK h)) bb)
def Gf:List aE:=Ge::Ji
theorem e7:bc prog (bh Gf):=ap JS u7
inductive dc where
  | r0 (a:Nat) (b:Bool) (c:List Int) (d:Nat) (e:Nat) (f:Int)
def Mx:dc→AE×aF
  | .r0 a b c d e f=>(.ret,⟨ah 97 [(4,.ptr 0 1 0 0),(5,.int .i64 ((a:Nat):Int))],[(0,.vs [.bool false b,.imm .free (.ns .u64 c) 1 1 d e,.int .i64 f])],1⟩)
theorem mc:j9 Mx:=by intro x;cases x<;>(intro h;cases h)
def EE:dc→iK
  | .r0 a b c d e f=>⟨.tup [.agg [.bool false b,.imm .free (.ns .u64 c) 1 1 d e,.int .i64 f],.int .i64 ((a:Nat):Int)],[]⟩
def Wr(a:Lv)(b:Lv) :Nat×Bool×(List Int)×Nat×Nat×Int×Bool×(List Int)×Nat×Nat×Int×Bool→aF:=fun (c,d,e,f,g,h,i,j,k,l,m,n)=>⟨ah 97 [(2,.ptr 0 1 0 0),(3,.ptr 1 1 0 0),(4,.ptr 2 1 0 0),(6,.int .i64 ((c:Nat):Int))],[(0,.vs [.bool false d,.imm a (.ns .u64 e) 1 1 f g,.int .i64 h]),(1,.vs [.bool false i,.imm b (.ns .u64 j) 1 1 k l,.int .i64 m]),(2,.vs [.bool false n,.nsl,.int .i64 (0:Int)])],3⟩
def Bh(d : Bool)(a : List Int)(c : Int)(f : Bool)(b : List Int)(e : Int) : T ((Nat × Bool × (List Int) × Nat × Nat × Int × Bool × (List Int) × Nat × Nat × Int × Bool) ⊕ (dc)) :=
  .ask (decide ((0:Int)<(2:Int)))
    (.need (gA (0:Int) 2)<|.need (aP 0 (List.length a) a)<|.need (ia (db (aa 0 (List.length a) a) c))<|.ask (!(fJ (db (aa 0 (List.length a) a) c)))
      (.leaf (.inl (2,d,a,0,(List.length a),c,f,b,0,(List.length b),e,false)))
      (.need (aP 0 (List.length a) a)<|.need (dY (aq d (aa 0 (List.length a) a) c))<|.need (dI .i64 (1:Int))<|.ask (decide ((1:Int)<(2:Int)))
        (.need (gA (1:Int) 2)<|.need (aP 0 (List.length b) b)<|.need (ia (db (aa 0 (List.length b) b) e))<|.ask (!(fJ (db (aa 0 (List.length b) b) e)))
          (.leaf (.inl (2,(cz (aq d (aa 0 (List.length a) a) c)),(cA (aq d (aa 0 (List.length a) a) c)),(cB (aq d (aa 0 (List.length a) a) c)),(cC (aq d (aa 0 (List.length a) a) c)),(cD (aq d (aa 0 (List.length a) a) c)),f,b,0,(List.length b),e,false)))
          (.need (aP 0 (List.length b) b)<|.need (dY (aq f (aa 0 (List.length b) b) e))<|.need (dI .i64 (2:Int))<|.ask (decide ((2:Int)<(2:Int)))
            (.fail)
            (.leaf (.inl (0,(cz (aq d (aa 0 (List.length a) a) c)),(cA (aq d (aa 0 (List.length a) a) c)),(cB (aq d (aa 0 (List.length a) a) c)),(cC (aq d (aa 0 (List.length a) a) c)),(cD (aq d (aa 0 (List.length a) a) c)),(cz (aq f (aa 0 (List.length b) b) e)),(cA (aq f (aa 0 (List.length b) b) e)),(cB (aq f (aa 0 (List.length b) b) e)),(cC (aq f (aa 0 (List.length b) b) e)),(cD (aq f (aa 0 (List.length b) b) e)),false)))))
        (.fail)))
    (.fail)
def Ws(a:Lv)(b:Lv)(c:Bool)(d:List Int)(e:Nat)(f:Nat)(g:Int)(h:Bool)(i:List Int)(j:Nat)(k:Nat)(l:Int)(m:Bool) :Nat×Int×(List Int)×Nat×(List Int)×Nat→aF:=fun (n,o,p,q,r,s)=>⟨ah 97 [(2,.ptr 0 1 0 0),(3,.ptr 1 1 0 0),(4,.ptr 2 1 0 0),(7,.ptr 3 1 0 0),(8,.int .i64 ((n:Nat):Int))],[(0,.vs [.bool false c,.imm a (.ns .u64 d) 1 1 e f,.int .i64 g]),(1,.vs [.bool false h,.imm b (.ns .u64 i) 1 1 j k,.int .i64 l]),(2,.vs [.bool false m,.nsl,.int .i64 (0:Int)]),(3,.vs [.int .i64 o,.imm .free (.ns .u64 p) 1 1 0 q,.imm .free (.ns .u64 r) 1 1 0 s])],4⟩
def zl(i:Nat)(a:List Int)(b:Nat)(c:Nat)(g:Int)(d:List Int)(e:Nat)(f:Nat)(h:Int) :T ((Nat×Int×(List Int)×Nat×(List Int)×Nat)⊕(dc)) :=
  .ask (((i:Nat):Int) != (0:Int))
    (.leaf (.inr (.r0 i false ([]:List Int) 0 0 (0:Int))))
    (.need (aP b c a)<|.need (aP e f d)<|.need (nu (cL (aa b c a) g (aa e f d) h))<|.leaf (.inl ((ot (cL (aa b c a) g (aa e f d) h)),(ou (cL (aa b c a) g (aa e f d) h)),(ov (cL (aa b c a) g (aa e f d) h)),(ow (cL (aa b c a) g (aa e f d) h)),(oz (cL (aa b c a) g (aa e f d) h)),(oA (cL (aa b c a) g (aa e f d) h)))))
def Wt(a:Lv)(b:Lv)(c:Bool)(d:List Int)(e:Nat)(f:Nat)(g:Int)(h:Bool)(i:List Int)(j:Nat)(k:Nat)(l:Int)(m:Bool)(n:Int)(o:List Int)(p:Nat)(q:List Int)(r:Nat)(_:Unit) :aF:=⟨ah 97 [(2,.ptr 0 1 0 0),(3,.ptr 1 1 0 0),(4,.ptr 2 1 0 0),(7,.ptr 3 1 0 0),(9,.fn (.func mz) [] [.ptr 3 1 0 0])],[(0,.vs [.bool false c,.imm a (.ns .u64 d) 1 1 e f,.int .i64 g]),(1,.vs [.bool false h,.imm b (.ns .u64 i) 1 1 j k,.int .i64 l]),(2,.vs [.bool false m,.nsl,.int .i64 (0:Int)]),(3,.vs [.int .i64 n,.imm .free (.ns .u64 o) 1 1 0 p,.imm .free (.ns .u64 q) 1 1 0 r])],4⟩
def qd(e:Bool)(h:Bool)(g:Nat)(f:Int)(a:List Int)(b:Nat)(c:List Int)(d:Nat) :T ((Unit)⊕(dc)) :=
  .ask (((g:Nat):Int) != (0:Int))
    (.leaf (.inr (.r0 g false ([]:List Int) 0 0 (0:Int))))
    (.ask (e==h)
      (.need (aP 0 b a)<|.need (aP 0 d c)<|.need (uX (bD (aa 0 b a) (aa 0 d c)))<|.need (aP (fO (bD (aa 0 b a) (aa 0 d c))) (fP (bD (aa 0 b a) (aa 0 d c))) (fQ (bD (aa 0 b a) (aa 0 d c))))<|.need (aP 0 b a)<|.need (aP 0 d c)<|.need (lD (bE e (aa (fO (bD (aa 0 b a) (aa 0 d c))) (fP (bD (aa 0 b a) (aa 0 d c))) (fQ (bD (aa 0 b a) (aa 0 d c)))) (((g7 (bD (aa 0 b a) (aa 0 d c))):Nat):Int) f))<|.leaf (.inr (.r0 (kZ (bE e (aa (fO (bD (aa 0 b a) (aa 0 d c))) (fP (bD (aa 0 b a) (aa 0 d c))) (fQ (bD (aa 0 b a) (aa 0 d c)))) (((g7 (bD (aa 0 b a) (aa 0 d c))):Nat):Int) f)) (k6 (bE e (aa (fO (bD (aa 0 b a) (aa 0 d c))) (fP (bD (aa 0 b a) (aa 0 d c))) (fQ (bD (aa 0 b a) (aa 0 d c)))) (((g7 (bD (aa 0 b a) (aa 0 d c))):Nat):Int) f)) (k7 (bE e (aa (fO (bD (aa 0 b a) (aa 0 d c))) (fP (bD (aa 0 b a) (aa 0 d c))) (fQ (bD (aa 0 b a) (aa 0 d c)))) (((g7 (bD (aa 0 b a) (aa 0 d c))):Nat):Int) f)) (k8 (bE e (aa (fO (bD (aa 0 b a) (aa 0 d c))) (fP (bD (aa 0 b a) (aa 0 d c))) (fQ (bD (aa 0 b a) (aa 0 d c)))) (((g7 (bD (aa 0 b a) (aa 0 d c))):Nat):Int) f)) (k9 (bE e (aa (fO (bD (aa 0 b a) (aa 0 d c))) (fP (bD (aa 0 b a) (aa 0 d c))) (fQ (bD (aa 0 b a) (aa 0 d c)))) (((g7 (bD (aa 0 b a) (aa 0 d c))):Nat):Int) f)) (lc (bE e (aa (fO (bD (aa 0 b a) (aa 0 d c))) (fP (bD (aa 0 b a) (aa 0 d c))) (fQ (bD (aa 0 b a) (aa 0 d c)))) (((g7 (bD (aa 0 b a) (aa 0 d c))):Nat):Int) f)))))
      (.leaf (.inl ())))
def Wu(a:Lv)(b:Lv)(c:Bool)(d:List Int)(e:Nat)(f:Nat)(g:Int)(h:Bool)(i:List Int)(j:Nat)(k:Nat)(l:Int)(m:Bool)(n:Int)(o:List Int)(p:Nat)(q:List Int)(r:Nat)(s:Int) :aF:=⟨ah 97 [(2,.ptr 0 1 0 0),(3,.ptr 1 1 0 0),(4,.ptr 2 1 0 0),(7,.ptr 3 1 0 0),(9,.fn (.func mz) [] [.ptr 3 1 0 0]),(12,.int .i64 s)],[(0,.vs [.bool false c,.imm a (.ns .u64 d) 1 1 e f,.int .i64 g]),(1,.vs [.bool false h,.imm b (.ns .u64 i) 1 1 j k,.int .i64 l]),(2,.vs [.bool false m,.nsl,.int .i64 (0:Int)]),(3,.vs [.int .i64 n,.imm .free (.ns .u64 o) 1 1 0 p,.imm .free (.ns .u64 q) 1 1 0 r])],4⟩
def zm(a:List Int)(b:Nat)(c:List Int)(d:Nat) :T ((Int)⊕(dc)) :=
  .need (aP 0 b a)<|.need (aP 0 d c)<|.need (uW (rr (aa 0 b a) (aa 0 d c)))<|.leaf (.inl (uc (rr (aa 0 b a) (aa 0 d c))))
def Wv(a:Lv)(b:Bool)(c:List Int)(d:Nat)(e:Nat)(f:Int)(g:Bool)(h:Int)(i:List Int)(j:Nat)(k:List Int)(l:Nat)(_:Unit) :aF:=⟨ah 97 [(2,.ptr 0 1 0 0),(4,.ptr 1 1 0 0),(7,.ptr 2 1 0 0),(9,.fn (.func mz) [] [.ptr 2 1 0 0])],[(0,.vs [.bool false b,.imm a (.ns .u64 c) 1 1 d e,.int .i64 f]),(1,.vs [.bool false g,.nsl,.int .i64 (0:Int)]),(2,.vs [.int .i64 h,.imm .free (.ns .u64 i) 1 1 0 j,.imm .free (.ns .u64 k) 1 1 0 l])],3⟩
def zo(e:Bool)(f:Int)(a:List Int)(b:Nat)(c:List Int)(d:Nat)(g:Int) :T ((Unit)⊕(dc)) :=
  .ask (decide (g<(0:Int)))
    (.need (aP 0 d c)<|.need (aP 0 b a)<|.need (ru (bu (aa 0 d c) (aa 0 b a)))<|.need (aP (eY (bu (aa 0 d c) (aa 0 b a))) (eZ (bu (aa 0 d c) (aa 0 b a))) (eX (bu (aa 0 d c) (aa 0 b a))))<|.need (aP 0 b a)<|.need (aP 0 d c)<|.need (lD (bE e (aa (eY (bu (aa 0 d c) (aa 0 b a))) (eZ (bu (aa 0 d c) (aa 0 b a))) (eX (bu (aa 0 d c) (aa 0 b a)))) (((fR (bu (aa 0 d c) (aa 0 b a))):Nat):Int) f))<|.leaf (.inr (.r0 (kZ (bE e (aa (eY (bu (aa 0 d c) (aa 0 b a))) (eZ (bu (aa 0 d c) (aa 0 b a))) (eX (bu (aa 0 d c) (aa 0 b a)))) (((fR (bu (aa 0 d c) (aa 0 b a))):Nat):Int) f)) (k6 (bE e (aa (eY (bu (aa 0 d c) (aa 0 b a))) (eZ (bu (aa 0 d c) (aa 0 b a))) (eX (bu (aa 0 d c) (aa 0 b a)))) (((fR (bu (aa 0 d c) (aa 0 b a))):Nat):Int) f)) (k7 (bE e (aa (eY (bu (aa 0 d c) (aa 0 b a))) (eZ (bu (aa 0 d c) (aa 0 b a))) (eX (bu (aa 0 d c) (aa 0 b a)))) (((fR (bu (aa 0 d c) (aa 0 b a))):Nat):Int) f)) (k8 (bE e (aa (eY (bu (aa 0 d c) (aa 0 b a))) (eZ (bu (aa 0 d c) (aa 0 b a))) (eX (bu (aa 0 d c) (aa 0 b a)))) (((fR (bu (aa 0 d c) (aa 0 b a))):Nat):Int) f)) (k9 (bE e (aa (eY (bu (aa 0 d c) (aa 0 b a))) (eZ (bu (aa 0 d c) (aa 0 b a))) (eX (bu (aa 0 d c) (aa 0 b a)))) (((fR (bu (aa 0 d c) (aa 0 b a))):Nat):Int) f)) (lc (bE e (aa (eY (bu (aa 0 d c) (aa 0 b a))) (eZ (bu (aa 0 d c) (aa 0 b a))) (eX (bu (aa 0 d c) (aa 0 b a)))) (((fR (bu (aa 0 d c) (aa 0 b a))):Nat):Int) f)))))
    (.leaf (.inl ()))
def Ww(a:Lv)(b:Bool)(c:List Int)(d:Nat)(e:Nat)(f:Int)(g:Bool)(h:Int)(i:List Int)(j:Nat)(k:List Int)(l:Nat) :Nat×(List Int)×Nat×Nat→aF:=fun (m,n,o,p)=>⟨ah 97 [(2,.ptr 0 1 0 0),(4,.ptr 1 1 0 0),(8,.int .i64 ((m:Nat):Int)),(9,.fn (.func mz) [] [.ptr 2 1 0 0]),(16,.imm .free (.ns .u64 n) 1 1 o p)],[(0,.vs [.bool false b,.imm a (.ns .u64 c) 1 1 d e,.int .i64 f]),(1,.vs [.bool false g,.nsl,.int .i64 (0:Int)]),(2,.vs [.int .i64 h,.imm .free (.ns .u64 i) 1 1 0 j,.imm .free (.ns .u64 k) 1 1 0 l])],3⟩
def zp(a:List Int)(b:Nat)(c:List Int)(d:Nat) :T ((Nat×(List Int)×Nat×Nat)⊕(dc)) :=
  .need (aP 0 b a)<|.need (aP 0 d c)<|.need (ru (bu (aa 0 b a) (aa 0 d c)))<|.leaf (.inl ((fR (bu (aa 0 b a) (aa 0 d c))),(eX (bu (aa 0 b a) (aa 0 d c))),(eY (bu (aa 0 b a) (aa 0 d c))),(eZ (bu (aa 0 b a) (aa 0 d c)))))
def Wx:Nat×Bool×(List Int)×Nat×Nat×Int→aF:=fun (a,b,c,d,e,f)=>⟨ah 97 [(4,.ptr 0 1 0 0),(5,.int .i64 ((a:Nat):Int))],[(0,.vs [.bool false b,.imm .free (.ns .u64 c) 1 1 d e,.int .i64 f])],1⟩
def zq(d:Bool)(e:Int)(g:List Int)(h:Nat)(i:List Int)(j:Nat)(f:Nat)(a:List Int)(b:Nat)(c:Nat) :T ((Nat×Bool×(List Int)×Nat×Nat×Int)⊕(dc)) :=
  .need (aP b c a)<|.need (aP 0 h g)<|.need (aP 0 j i)<|.need (lD (bE d (aa b c a) ((f:Nat):Int) e))<|.leaf (.inl ((kZ (bE d (aa b c a) ((f:Nat):Int) e)),(k6 (bE d (aa b c a) ((f:Nat):Int) e)),(k7 (bE d (aa b c a) ((f:Nat):Int) e)),(k8 (bE d (aa b c a) ((f:Nat):Int) e)),(k9 (bE d (aa b c a) ((f:Nat):Int) e)),(lc (bE d (aa b c a) ((f:Nat):Int) e))))
def SX(a:Nat)(b:Bool)(c:List Int)(d:Nat)(e:Nat)(f:Int) :T ((Empty)⊕(dc)) :=
  .leaf (.inr (.r0 a b c d e f))
def ch(h:Bool)(i:List Int)(j:Int)(k:Bool)(l:List Int)(m:Int) :Option dc:=lB (aC ((Bh h i j k l m).run) fun (n,f,o,p,q,r,g,s,t,u,v,I) =>
  aC ((zl n o p q r s t u v).run) fun (w,e,a,b,c,d) =>
  aC ((qd f g w e a b c d).run) fun _ =>
  aC ((zm a b c d).run) fun x =>
  aC ((zo g e a b c d x).run) fun _ =>
  aC ((zp a b c d).run) fun (y,z,A,B) =>
  aC ((zq f e a b c d y z A B).run) fun (C,D,E,F,G,H) =>
  (SX C D E F G H).run)
theorem Wy(v:Bool)(a:Lv)(o:List Int)(w:Int)(y:Bool)(b:Lv)(p:List Int)(z:Int){x:dc}(h:ch v o w y p z=some x) :aj prog Ea [] [.agg [.bool false v,.imm a (.ns .u64 o) 1 1 0 (List.length o),.int .i64 w],.agg [.bool false y,.imm b (.ns .u64 p) 1 1 0 (List.length p),.int .i64 z]] (EE x) :=
  lO true EE Mx h (Sg.cut 2 mc (bo e7 (Wr a b) [⟨[],[0,16,32],[2,3,4,6]⟩,⟨[(.cell 0 1,.lev a)],[0,16,32],[2,3,4,6]⟩,⟨[(.cell 0 1,.lev a),(.cell 16 1,.lev b)],[0,16,32],[2,3,4,6]⟩]) (fun ⟨G,c,d,e,f,g,q,r,s,t,u,i⟩=>Sg.cut 3 mc (bo e7 (Ws a b c d e f g q r s t u i) [⟨[(.cell 2 1,.fre 1 1 (.ns .u64 ([]:List Int)))],[2],[4,5]⟩,⟨[],[0,1,2,131],[2,3,4,7,8]⟩]) (fun ⟨H,j,k,l,m,n⟩=>Sg.cut 5 mc (bo e7 (Wt a b c d e f g q r s t u i j k l m n) [⟨[(.cell 2 1,.fre 1 1 (.ns .u64 ([]:List Int)))],[2],[4,5]⟩,⟨[],[2],[4,5]⟩,⟨[],[0,1,2,3],[2,3,4,7,9]⟩]) (fun _=>Sg.cut 1 mc (bo e7 (Wu a b c d e f g q r s t u i j k l m n) [⟨[],[0,1,2,3],[2,3,4,7,9,12]⟩]) (fun I=>Sg.cut 2 mc (bo e7 (Wv a c d e f g i j k l m n) [⟨[],[2],[4,5]⟩,⟨[],[0,2,3],[2,4,7,9]⟩]) (fun _=>Sg.cut 1 mc (bo e7 (Ww a c d e f g i j k l m n) [⟨[],[0,1,2],[2,4,8,9,16]⟩]) (fun ⟨J,K,L,M⟩=>Sg.cut 1 mc (bo e7 Wx [⟨[],[1],[4,5]⟩]) (fun ⟨N,O,P,Q,R,S⟩=>bo e7 _ [⟨[],[0],[4,5]⟩]))))))))
    (fun x=>by cases x with | r0 A B C D E F=>exact lC [.agg [.bool false B,.imm .free (.ns .u64 C) 1 1 D E,.int .i64 F],.int .i64 ((A:Nat):Int)])
def sN:Option dc→Bool
  | some _=>true
  | none=>false
def lE:Option dc→Nat
  | some (.r0 x _ _ _ _ _)=>x
  | _=>0
def nv:Option dc→Bool
  | some (.r0 _ x _ _ _ _)=>x
  | _=>false
def nw:Option dc→List Int
  | some (.r0 _ _ x _ _ _)=>x
  | _=>[]
def nA:Option dc→Nat
  | some (.r0 _ _ _ x _ _)=>x
  | _=>0
def nB:Option dc→Nat
  | some (.r0 _ _ _ _ x _)=>x
  | _=>0
def nC:Option dc→Int
  | some (.r0 _ _ _ _ _ x)=>x
  | _=>0
theorem Wz{x:Option dc}(h:sN x=true) :x=some (.r0 (lE x) (nv x) (nw x) (nA x) (nB x) (nC x)):=by
  unfold sN at h
  split at h<;>first | rfl | (cases h;done) | (rename_i y;cases y;rfl)
def My:aE:=bT Ea (.cons (.agg (.cons .bool (.cons (.ns .u64) (.cons (.int .i64) .nil)))) (.cons (.agg (.cons .bool (.cons (.ns .u64) (.cons (.int .i64) .nil)))) .nil)) fun t=>(fun q=>[⟨EE (.r0 (lE q) (nv q) (nw q) (nA q) (nB q) (nC q)),[sN q]⟩]) (ch t.1.1 t.1.2.1.2 t.1.2.2.1 t.2.1.1 t.2.1.2.1.2 t.2.1.2.2.1)
theorem OL:aO prog My:=aJ fun t=>(aK (fun h=>Wy t.1.1 t.1.2.1.1 t.1.2.1.2 t.1.2.2.1 t.2.1.1 t.2.1.2.1.1 t.2.1.2.1.2 t.2.1.2.2.1 (Wz h)) bb)
def Mz:List aE:=My::Gf
theorem nD:bc prog (bh Mz):=ap OL e7
inductive d8 where
  | r0 (a:Nat) (b:Bool) (c:List Int) (d:Nat) (e:Nat) (f:Int)
def MA:d8→AE×aF
  | .r0 a b c d e f=>(.ret,⟨ah 41 [(4,.ptr 0 1 0 0),(5,.int .i64 ((a:Nat):Int))],[(0,.vs [.bool false b,.imm .free (.ns .u64 c) 1 1 d e,.int .i64 f])],1⟩)
theorem Bi:j9 MA:=by intro x;cases x<;>(intro h;cases h)
def EF:d8→iK
  | .r0 a b c d e f=>⟨.tup [.agg [.bool false b,.imm .free (.ns .u64 c) 1 1 d e,.int .i64 f],.int .i64 ((a:Nat):Int)],[]⟩
def WA(a:Lv)(b:Lv) :Nat×Bool×(List Int)×Nat×Nat×Int×Bool×(List Int)×Nat×Nat×Int×Bool→aF:=fun (c,d,e,f,g,h,i,j,k,l,m,n)=>⟨ah 41 [(2,.ptr 0 1 0 0),(3,.ptr 1 1 0 0),(4,.ptr 2 1 0 0),(6,.int .i64 ((c:Nat):Int))],[(0,.vs [.bool false d,.imm a (.ns .u64 e) 1 1 f g,.int .i64 h]),(1,.vs [.bool false i,.imm b (.ns .u64 j) 1 1 k l,.int .i64 m]),(2,.vs [.bool false n,.nsl,.int .i64 (0:Int)])],3⟩
def Jj(d : Bool)(a : List Int)(c : Int)(f : Bool)(b : List Int)(e : Int) : T ((Nat × Bool × (List Int) × Nat × Nat × Int × Bool × (List Int) × Nat × Nat × Int × Bool) ⊕ (d8)) :=
  .ask (decide ((0:Int)<(2:Int)))
    (.need (gA (0:Int) 2)<|.need (aP 0 (List.length a) a)<|.need (ia (db (aa 0 (List.length a) a) c))<|.ask (!(fJ (db (aa 0 (List.length a) a) c)))
      (.leaf (.inl (2,d,a,0,(List.length a),c,f,b,0,(List.length b),e,false)))
      (.need (aP 0 (List.length a) a)<|.need (dY (aq d (aa 0 (List.length a) a) c))<|.need (dI .i64 (1:Int))<|.ask (decide ((1:Int)<(2:Int)))
        (.need (gA (1:Int) 2)<|.need (aP 0 (List.length b) b)<|.need (ia (db (aa 0 (List.length b) b) e))<|.ask (!(fJ (db (aa 0 (List.length b) b) e)))
          (.leaf (.inl (2,(cz (aq d (aa 0 (List.length a) a) c)),(cA (aq d (aa 0 (List.length a) a) c)),(cB (aq d (aa 0 (List.length a) a) c)),(cC (aq d (aa 0 (List.length a) a) c)),(cD (aq d (aa 0 (List.length a) a) c)),f,b,0,(List.length b),e,false)))
          (.need (aP 0 (List.length b) b)<|.need (dY (aq f (aa 0 (List.length b) b) e))<|.need (dI .i64 (2:Int))<|.ask (decide ((2:Int)<(2:Int)))
            (.fail)
            (.leaf (.inl (0,(cz (aq d (aa 0 (List.length a) a) c)),(cA (aq d (aa 0 (List.length a) a) c)),(cB (aq d (aa 0 (List.length a) a) c)),(cC (aq d (aa 0 (List.length a) a) c)),(cD (aq d (aa 0 (List.length a) a) c)),(cz (aq f (aa 0 (List.length b) b) e)),(cA (aq f (aa 0 (List.length b) b) e)),(cB (aq f (aa 0 (List.length b) b) e)),(cC (aq f (aa 0 (List.length b) b) e)),(cD (aq f (aa 0 (List.length b) b) e)),false)))))
        (.fail)))
    (.fail)
def WB(a:Lv)(b:Lv)(c:Bool)(d:List Int)(e:Nat)(f:Nat)(g:Int)(h:Bool)(i:List Int)(j:Nat)(k:Nat)(l:Int)(m:Bool) :(List Int)×Nat×Nat×Nat→aF:=fun (n,o,p,q)=>⟨ah 41 [(2,.ptr 0 1 0 0),(3,.ptr 1 1 0 0),(4,.ptr 2 1 0 0),(7,.imm .free (.ns .u64 n) 1 1 o p),(8,.int .i64 ((q:Nat):Int))],[(0,.vs [.bool false c,.imm a (.ns .u64 d) 1 1 e f,.int .i64 g]),(1,.vs [.bool false h,.imm b (.ns .u64 i) 1 1 j k,.int .i64 l]),(2,.vs [.bool false m,.nsl,.int .i64 (0:Int)])],3⟩
def Bj(g:Nat)(a:List Int)(b:Nat)(c:Nat)(d:List Int)(e:Nat)(f:Nat) :T (((List Int)×Nat×Nat×Nat)⊕(d8)) :=
  .ask (((g:Nat):Int) != (0:Int))
    (.leaf (.inr (.r0 g false ([]:List Int) 0 0 (0:Int))))
    (.need (aP b c a)<|.need (aP e f d)<|.need (yU (pB (aa b c a) (aa e f d)))<|.leaf (.inl ((yY (pB (aa b c a) (aa e f d))),(yV (pB (aa b c a) (aa e f d))),(yW (pB (aa b c a) (aa e f d))),(yX (pB (aa b c a) (aa e f d))))))
def WC:Nat×Bool×(List Int)×Nat×Nat×Int→aF:=fun (a,b,c,d,e,f)=>⟨ah 41 [(4,.ptr 0 1 0 0),(5,.int .i64 ((a:Nat):Int))],[(0,.vs [.bool false b,.imm .free (.ns .u64 c) 1 1 d e,.int .i64 f])],1⟩
def Bk(f:Bool)(a:Int)(g:Bool)(b:Int)(c:List Int)(d:Nat)(e:Nat)(h:Nat) :T ((Nat×Bool×(List Int)×Nat×Nat×Int)⊕(d8)) :=
  .ask (((h:Nat):Int) != (0:Int))
    (.leaf (.inr (.r0 3 false ([]:List Int) 0 0 (0:Int))))
    (.need (dI .i64 (a+b))<|.need (aP d e c)<|.need (mM (bN (!(f==g)) (aa d e c) (a+b)))<|.leaf (.inl ((l6 (bN (!(f==g)) (aa d e c) (a+b))),(l7 (bN (!(f==g)) (aa d e c) (a+b))),(l8 (bN (!(f==g)) (aa d e c) (a+b))),(l9 (bN (!(f==g)) (aa d e c) (a+b))),(ma (bN (!(f==g)) (aa d e c) (a+b))),(mb (bN (!(f==g)) (aa d e c) (a+b))))))
def WD(a:Nat)(b:Bool)(c:List Int)(d:Nat)(e:Nat)(f:Int) :T ((Empty)⊕(d8)) :=
  .leaf (.inr (.r0 a b c d e f))
def ak(a:Bool)(b:List Int)(c:Int)(d:Bool)(e:List Int)(f:Int) :Option d8:=lB (aC ((Jj a b c d e f).run) fun (g,h,i,j,k,l,m,n,o,p,q,B) =>
  aC ((Bj g i j k n o p).run) fun (r,s,t,u) =>
  aC ((Bk h l m q r s t u).run) fun (v,w,x,y,z,A) =>
  (WD v w x y z A).run)
theorem WE(e:Bool)(a:Lv)(c:List Int)(f:Int)(g:Bool)(b:Lv)(d:List Int)(i:Int){x:d8}(h:ak e c f g d i=some x) :aj prog D7 [] [.agg [.bool false e,.imm a (.ns .u64 c) 1 1 0 (List.length c),.int .i64 f],.agg [.bool false g,.imm b (.ns .u64 d) 1 1 0 (List.length d),.int .i64 i]] (EF x) :=
  lO true EF MA h (Sg.cut 2 Bi (bo nD (WA a b) [⟨[],[0,16,32],[2,3,4,6]⟩,⟨[(.cell 0 1,.lev a)],[0,16,32],[2,3,4,6]⟩,⟨[(.cell 0 1,.lev a),(.cell 16 1,.lev b)],[0,16,32],[2,3,4,6]⟩]) (fun ⟨B,j,k,l,m,n,o,p,q,r,s,t⟩=>Sg.cut 3 Bi (bo nD (WB a b j k l m n o p q r s t) [⟨[(.cell 2 1,.fre 1 1 (.ns .u64 ([]:List Int)))],[2],[4,5]⟩,⟨[],[0,1,2],[2,3,4,7,8]⟩]) (fun ⟨C,D,E,F⟩=>Sg.cut 3 Bi (bo nD WC [⟨[(.cell 2 1,.fre 1 1 (.ns .u64 ([]:List Int)))],[2],[4,5]⟩,⟨[],[2],[4,5]⟩]) (fun ⟨G,H,I,J,K,L⟩=>bo nD _ [⟨[],[0],[4,5]⟩]))))
    (fun x=>by cases x with | r0 u v w y z A=>exact lC [.agg [.bool false v,.imm .free (.ns .u64 w) 1 1 y z,.int .i64 A],.int .i64 ((u:Nat):Int)])
def ku:Option d8→Bool
  | some _=>true
  | none=>false
def iN:Option d8→Nat
  | some (.r0 x _ _ _ _ _)=>x
  | _=>0
def bO:Option d8→Bool
  | some (.r0 _ x _ _ _ _)=>x
  | _=>false
def bG:Option d8→List Int
  | some (.r0 _ _ x _ _ _)=>x
  | _=>[]
def bH:Option d8→Nat
  | some (.r0 _ _ _ x _ _)=>x
  | _=>0
def bJ:Option d8→Nat
  | some (.r0 _ _ _ _ x _)=>x
  | _=>0
def bP:Option d8→Int
  | some (.r0 _ _ _ _ _ x)=>x
  | _=>0
theorem WF{x:Option d8}(h:ku x=true) :x=some (.r0 (iN x) (bO x) (bG x) (bH x) (bJ x) (bP x)):=by
  unfold ku at h
  split at h<;>first | rfl | (cases h;done) | (rename_i y;cases y;rfl)
def MB:aE:=bT D7 (.cons (.agg (.cons .bool (.cons (.ns .u64) (.cons (.int .i64) .nil)))) (.cons (.agg (.cons .bool (.cons (.ns .u64) (.cons (.int .i64) .nil)))) .nil)) fun t=>(fun q=>[⟨EF (.r0 (iN q) (bO q) (bG q) (bH q) (bJ q) (bP q)),[ku q]⟩]) (ak t.1.1 t.1.2.1.2 t.1.2.2.1 t.2.1.1 t.2.1.2.1.2 t.2.1.2.2.1)
theorem OM:aO prog MB:=aJ fun t=>(aK (fun h=>WE t.1.1 t.1.2.1.1 t.1.2.1.2 t.1.2.2.1 t.2.1.1 t.2.1.2.1.1 t.2.1.2.1.2 t.2.1.2.2.1 (WF h)) bb)
def MC:List aE:=MB::Mz
theorem Dj:bc prog (bh MC):=ap OM nD
inductive kv where
  | r0 (a:Int)
def WG:kv→AE×aF
  | .r0 a=>(.ret,⟨ah 11 [(2,.int .i64 a)],[],0⟩)
def Bl:kv→iK
  | .r0 a=>⟨.int .i64 a,[]⟩
def Gg(a:Bool)(b:List Int) :T ((Empty)⊕(kv)) :=
  .ask ((((List.length b):Nat):Int)==(0:Int))
    (.leaf (.inr (.r0 (0:Int))))
    (.ask a
      (.leaf (.inr (.r0 (-1:Int))))
      (.leaf (.inr (.r0 (1:Int)))))
def fC(a:Bool)(b:List Int) :Option kv:=lB ((Gg a b).run)
theorem SY(b:Bool)(c:Lv)(a:List Int)(d:Int){x:kv}(h:fC b a=some x) :aj prog AI [] [.agg [.bool false b,.imm c (.ns .u64 a) 1 1 0 (List.length a),.int .i64 d]] (Bl x) :=
  lO true Bl WG h (bo Dj _ [⟨[],[],[2]⟩,⟨[],[],[2]⟩,⟨[],[],[2]⟩])
    (fun x=>by cases x with | r0 e=>exact lC [.int .i64 e])
def g8:Option kv→Bool
  | some _=>true
  | none=>false
def dO:Option kv→Int
  | some (.r0 x)=>x
  | _=>0
theorem SZ{x:Option kv}(h:g8 x=true) :x=some (.r0 (dO x)):=by
  unfold g8 at h
  split at h<;>first | rfl | (cases h;done) | (rename_i y;cases y;rfl)
def Jk:aE:=bT AI (.cons (.agg (.cons .bool (.cons (.ns .u64) (.cons (.int .i64) .nil)))) .nil) fun t=>(fun q=>[⟨Bl (.r0 (dO q)),[g8 q]⟩]) (fC t.1.1 t.1.2.1.2)
theorem MD:aO prog Jk:=aJ fun t=>(aK (fun h=>SY t.1.1 t.1.2.1.1 t.1.2.1.2 t.1.2.2.1 (SZ h)) bb)
def Jl:List aE:=Jk::MC
theorem kg:bc prog (bh Jl):=ap MD Dj
inductive gW where
  | r0 (a:Int) (b:Nat)
def ME:gW→AE×aF
  | .r0 a b=>(.ret,⟨ah 52 [(4,.int .i64 a),(5,.int .i64 ((b:Nat):Int))],[],0⟩)
theorem wk:j9 ME:=by intro x;cases x<;>(intro h;cases h)
def EG:gW→iK
  | .r0 a b=>⟨.tup [.int .i64 a,.int .i64 ((b:Nat):Int)],[]⟩
def WH(a:Lv)(b:Lv) :Nat×Bool×(List Int)×Nat×Nat×Int×Bool×(List Int)×Nat×Nat×Int→aF:=fun (c,d,e,f,g,h,i,j,k,l,m)=>⟨ah 52 [(2,.ptr 0 1 0 0),(3,.ptr 1 1 0 0),(6,.int .i64 ((c:Nat):Int))],[(0,.vs [.bool false d,.imm a (.ns .u64 e) 1 1 f g,.int .i64 h]),(1,.vs [.bool false i,.imm b (.ns .u64 j) 1 1 k l,.int .i64 m])],2⟩
def Jm(d : Bool)(a : List Int)(c : Int)(f : Bool)(b : List Int)(e : Int) : T ((Nat × Bool × (List Int) × Nat × Nat × Int × Bool × (List Int) × Nat × Nat × Int) ⊕ (gW)) :=
  .ask (decide ((0:Int)<(2:Int)))
    (.need (gA (0:Int) 2)<|.need (aP 0 (List.length a) a)<|.need (ia (db (aa 0 (List.length a) a) c))<|.ask (!(fJ (db (aa 0 (List.length a) a) c)))
      (.leaf (.inl (2,d,a,0,(List.length a),c,f,b,0,(List.length b),e)))
      (.need (aP 0 (List.length a) a)<|.need (dY (aq d (aa 0 (List.length a) a) c))<|.need (dI .i64 (1:Int))<|.ask (decide ((1:Int)<(2:Int)))
        (.need (gA (1:Int) 2)<|.need (aP 0 (List.length b) b)<|.need (ia (db (aa 0 (List.length b) b) e))<|.ask (!(fJ (db (aa 0 (List.length b) b) e)))
          (.leaf (.inl (2,(cz (aq d (aa 0 (List.length a) a) c)),(cA (aq d (aa 0 (List.length a) a) c)),(cB (aq d (aa 0 (List.length a) a) c)),(cC (aq d (aa 0 (List.length a) a) c)),(cD (aq d (aa 0 (List.length a) a) c)),f,b,0,(List.length b),e)))
          (.need (aP 0 (List.length b) b)<|.need (dY (aq f (aa 0 (List.length b) b) e))<|.need (dI .i64 (2:Int))<|.ask (decide ((2:Int)<(2:Int)))
            (.fail)
            (.leaf (.inl (0,(cz (aq d (aa 0 (List.length a) a) c)),(cA (aq d (aa 0 (List.length a) a) c)),(cB (aq d (aa 0 (List.length a) a) c)),(cC (aq d (aa 0 (List.length a) a) c)),(cD (aq d (aa 0 (List.length a) a) c)),(cz (aq f (aa 0 (List.length b) b) e)),(cA (aq f (aa 0 (List.length b) b) e)),(cB (aq f (aa 0 (List.length b) b) e)),(cC (aq f (aa 0 (List.length b) b) e)),(cD (aq f (aa 0 (List.length b) b) e)))))))
        (.fail)))
    (.fail)
def WI(a:Lv)(b:Lv)(c:Bool)(d:List Int)(e:Nat)(f:Nat)(g:Int)(h:Bool)(i:List Int)(j:Nat)(k:Nat)(l:Int) :Nat×Int×(List Int)×Nat×(List Int)×Nat→aF:=fun (m,n,o,p,q,r)=>⟨ah 52 [(2,.ptr 0 1 0 0),(3,.ptr 1 1 0 0),(7,.ptr 2 1 0 0),(8,.int .i64 ((m:Nat):Int))],[(0,.vs [.bool false c,.imm a (.ns .u64 d) 1 1 e f,.int .i64 g]),(1,.vs [.bool false h,.imm b (.ns .u64 i) 1 1 j k,.int .i64 l]),(2,.vs [.int .i64 n,.imm .free (.ns .u64 o) 1 1 0 p,.imm .free (.ns .u64 q) 1 1 0 r])],3⟩
def Bm(i:Nat)(a:List Int)(b:Nat)(c:Nat)(g:Int)(d:List Int)(e:Nat)(f:Nat)(h:Int) :T ((Nat×Int×(List Int)×Nat×(List Int)×Nat)⊕(gW)) :=
  .ask (((i:Nat):Int) != (0:Int))
    (.leaf (.inr (.r0 (0:Int) i)))
    (.need (aP b c a)<|.need (aP e f d)<|.need (nu (cL (aa b c a) g (aa e f d) h))<|.leaf (.inl ((ot (cL (aa b c a) g (aa e f d) h)),(ou (cL (aa b c a) g (aa e f d) h)),(ov (cL (aa b c a) g (aa e f d) h)),(ow (cL (aa b c a) g (aa e f d) h)),(oz (cL (aa b c a) g (aa e f d) h)),(oA (cL (aa b c a) g (aa e f d) h)))))
def WJ(a:Lv)(b:Lv)(c:Bool)(d:List Int)(e:Nat)(f:Nat)(g:Int)(h:Bool)(i:List Int)(j:Nat)(k:Nat)(l:Int)(m:Int) :aF:=⟨ah 52 [(2,.ptr 0 1 0 0),(3,.ptr 1 1 0 0),(9,.int .i64 m)],[(0,.vs [.bool false c,.imm a (.ns .u64 d) 1 1 e f,.int .i64 g]),(1,.vs [.bool false h,.imm b (.ns .u64 i) 1 1 j k,.int .i64 l])],2⟩
def Bn(e:Nat)(a:List Int)(b:Nat)(c:List Int)(d:Nat) :T ((Int)⊕(gW)) :=
  .ask (((e:Nat):Int) != (0:Int))
    (.leaf (.inr (.r0 (0:Int) e)))
    (.need (aP 0 b a)<|.need (aP 0 d c)<|.need (uW (rr (aa 0 b a) (aa 0 d c)))<|.leaf (.inl (uc (rr (aa 0 b a) (aa 0 d c)))))
def WK(a:Int)(_:Unit) :aF:=⟨ah 52 [(9,.int .i64 a)],[],0⟩
def pD(g:Bool)(a:List Int)(b:Nat)(c:Nat)(h:Bool)(d:List Int)(e:Nat)(f:Nat)(i:Int) :T ((Unit)⊕(gW)) :=
  .need (aP b c a)<|.need (g8 (fC g (aa b c a)))<|.need (aP e f d)<|.need (g8 (fC h (aa e f d)))<|.ask ((dO (fC g (aa b c a))) != (dO (fC h (aa e f d))))
    (.need (aP b c a)<|.need (g8 (fC g (aa b c a)))<|.need (aP e f d)<|.need (g8 (fC h (aa e f d)))<|.need (dI .i64 ((dO (fC g (aa b c a)))-(dO (fC h (aa e f d)))))<|.leaf (.inr (.r0 (kR (-1:Int) (vG (1:Int) ((dO (fC g (aa b c a)))-(dO (fC h (aa e f d)))))) 0)))
    (.ask g
      (.need (dI .i64 ((0:Int)-i))<|.leaf (.inr (.r0 ((0:Int)-i) 0)))
      (.leaf (.inl ())))
def S0(a:Int) :T ((Empty)⊕(gW)) :=
  .leaf (.inr (.r0 a 0))
def pa(h:Bool)(i:List Int)(j:Int)(k:Bool)(l:List Int)(m:Int) :Option gW:=lB (aC ((Jm h i j k l m).run) fun (n,o,a,b,c,p,q,d,e,f,r) =>
  aC ((Bm n a b c p d e f r).run) fun (s,x,t,u,v,w) =>
  aC ((Bn s t u v w).run) fun g =>
  aC ((pD o a b c q d e f g).run) fun _ =>
  (S0 g).run)
theorem WL(e:Bool)(a:Lv)(c:List Int)(f:Int)(g:Bool)(b:Lv)(d:List Int)(i:Int){x:gW}(h:pa e c f g d i=some x) :aj prog D8 [] [.agg [.bool false e,.imm a (.ns .u64 c) 1 1 0 (List.length c),.int .i64 f],.agg [.bool false g,.imm b (.ns .u64 d) 1 1 0 (List.length d),.int .i64 i]] (EG x) :=
  lO true EG ME h (Sg.cut 2 wk (bo kg (WH a b) [⟨[],[0,16],[2,3,6]⟩,⟨[(.cell 0 1,.lev a)],[0,16],[2,3,6]⟩,⟨[(.cell 0 1,.lev a),(.cell 16 1,.lev b)],[0,16],[2,3,6]⟩]) (fun ⟨w,j,k,l,m,n,o,p,q,r,s⟩=>Sg.cut 3 wk (bo kg (WI a b j k l m n o p q r s) [⟨[],[],[4,5]⟩,⟨[],[0,1,130],[2,3,7,8]⟩]) (fun ⟨y,z,A,B,C,D⟩=>Sg.cut 3 wk (bo kg (WJ a b j k l m n o p q r s) [⟨[],[],[4,5]⟩,⟨[],[0,1],[2,3,9]⟩]) (fun t=>Sg.cut 1 wk (bo kg (WK t) [⟨[],[],[4,5]⟩,⟨[],[],[4,5]⟩,⟨[],[],[9]⟩]) (fun _=>bo kg _ [⟨[],[],[4,5]⟩])))))
    (fun x=>by cases x with | r0 u v=>exact lC [.int .i64 u,.int .i64 ((v:Nat):Int)])
def wl:Option gW→Bool
  | some _=>true
  | none=>false
def wQ:Option gW→Int
  | some (.r0 x _)=>x
  | _=>0
def wR:Option gW→Nat
  | some (.r0 _ x)=>x
  | _=>0
theorem WM{x:Option gW}(h:wl x=true) :x=some (.r0 (wQ x) (wR x)):=by
  unfold wl at h
  split at h<;>first | rfl | (cases h;done) | (rename_i y;cases y;rfl)
def MF:aE:=bT D8 (.cons (.agg (.cons .bool (.cons (.ns .u64) (.cons (.int .i64) .nil)))) (.cons (.agg (.cons .bool (.cons (.ns .u64) (.cons (.int .i64) .nil)))) .nil)) fun t=>(fun q=>[⟨EG (.r0 (wQ q) (wR q)),[wl q]⟩]) (pa t.1.1 t.1.2.1.2 t.1.2.2.1 t.2.1.1 t.2.1.2.1.2 t.2.1.2.2.1)
theorem ON:aO prog MF:=aJ fun t=>(aK (fun h=>WL t.1.1 t.1.2.1.1 t.1.2.1.2 t.1.2.2.1 t.2.1.1 t.2.1.2.1.1 t.2.1.2.1.2 t.2.1.2.2.1 (WM h)) bb)
def MG:List aE:=MF::Jl
theorem nF:bc prog (bh MG):=ap ON kg
inductive c8 where
  | r0 (a:Nat) (b:Bool) (c:List Int) (d:Nat) (e:Nat) (f:Int)
def Gh:c8→AE×aF
  | .r0 a b c d e f=>(.ret,⟨ah 30 [(4,.ptr 0 1 0 0),(5,.int .i64 ((a:Nat):Int))],[(0,.vs [.bool false b,.imm .free (.ns .u64 c) 1 1 d e,.int .i64 f])],1⟩)
theorem wS:j9 Gh:=by intro x;cases x<;>(intro h;cases h)
def zr:c8→iK
  | .r0 a b c d e f=>⟨.tup [.agg [.bool false b,.imm .free (.ns .u64 c) 1 1 d e,.int .i64 f],.int .i64 ((a:Nat):Int)],[]⟩
def OO(a:Lv)(b:Int) :Nat×Bool×(List Int)×Nat×Nat×Int×Bool→aF:=fun (c,d,e,f,g,h,i)=>⟨ah 30 [(1,.int .i64 b),(2,.ptr 0 1 0 0),(4,.ptr 1 1 0 0),(6,.int .i64 ((c:Nat):Int))],[(0,.vs [.bool false d,.imm a (.ns .u64 e) 1 1 f g,.int .i64 h]),(1,.vs [.bool false i,.nsl,.int .i64 (0:Int)])],2⟩
def wT(c:Bool)(a:List Int)(b:Int) :T ((Nat×Bool×(List Int)×Nat×Nat×Int×Bool)⊕(c8)) :=
  .ask (decide ((0:Int)<(1:Int)))
    (.need (gA (0:Int) 1)<|.need (aP 0 (List.length a) a)<|.need (ia (db (aa 0 (List.length a) a) b))<|.ask (!(fJ (db (aa 0 (List.length a) a) b)))
      (.leaf (.inl (2,c,a,0,(List.length a),b,false)))
      (.need (aP 0 (List.length a) a)<|.need (dY (aq c (aa 0 (List.length a) a) b))<|.need (dI .i64 (1:Int))<|.ask (decide ((1:Int)<(1:Int)))
        (.fail)
        (.leaf (.inl (0,(cz (aq c (aa 0 (List.length a) a) b)),(cA (aq c (aa 0 (List.length a) a) b)),(cB (aq c (aa 0 (List.length a) a) b)),(cC (aq c (aa 0 (List.length a) a) b)),(cD (aq c (aa 0 (List.length a) a) b)),false)))))
    (.fail)
def OP(a:Lv)(b:Int)(c:Nat)(d:Bool)(e:List Int)(f:Nat)(g:Nat)(h:Int)(i:Bool)(j:Bool) :aF:=⟨ah 30 [(1,.int .i64 b),(2,.ptr 0 1 0 0),(4,.ptr 1 1 0 0),(6,.int .i64 ((c:Nat):Int)),(16,.bool false j)],[(0,.vs [.bool false d,.imm a (.ns .u64 e) 1 1 f g,.int .i64 h]),(1,.vs [.bool false i,.nsl,.int .i64 (0:Int)])],2⟩
def OQ(a:Nat)(b:Nat) :T ((Bool)⊕(c8)) :=
  .ask (((a:Nat):Int) != (0:Int))
    (.leaf (.inl true))
    (.leaf (.inl (((b:Nat):Int)==(0:Int))))
def OR:Nat×Bool×(List Int)×Nat×Nat×Int→aF:=fun (a,b,c,d,e,f)=>⟨ah 30 [(4,.ptr 0 1 0 0),(5,.int .i64 ((a:Nat):Int))],[(0,.vs [.bool false b,.imm .free (.ns .u64 c) 1 1 d e,.int .i64 f])],1⟩
def wW(a:Int)(g:Nat)(f:Bool)(b:List Int)(c:Nat)(d:Nat)(e:Int)(h:Bool) :T ((Nat×Bool×(List Int)×Nat×Nat×Int)⊕(c8)) :=
  .ask h
    (.leaf (.inr (.r0 g false ([]:List Int) 0 0 (0:Int))))
    (.need (dI .i64 (e+(kR (-1048576:Int) (vG (1048576:Int) a))))<|.need (aP c d b)<|.need (mM (bN f (aa c d b) (e+(kR (-1048576:Int) (vG (1048576:Int) a)))))<|.leaf (.inl ((l6 (bN f (aa c d b) (e+(kR (-1048576:Int) (vG (1048576:Int) a))))),(l7 (bN f (aa c d b) (e+(kR (-1048576:Int) (vG (1048576:Int) a))))),(l8 (bN f (aa c d b) (e+(kR (-1048576:Int) (vG (1048576:Int) a))))),(l9 (bN f (aa c d b) (e+(kR (-1048576:Int) (vG (1048576:Int) a))))),(ma (bN f (aa c d b) (e+(kR (-1048576:Int) (vG (1048576:Int) a))))),(mb (bN f (aa c d b) (e+(kR (-1048576:Int) (vG (1048576:Int) a))))))))
def OS(a:Nat)(b:Bool)(c:List Int)(d:Nat)(e:Nat)(f:Int) :T ((Empty)⊕(c8)) :=
  .leaf (.inr (.r0 a b c d e f))
def g9(c:Bool)(d:List Int)(e:Int)(f:Int) :Option c8:=lB (aC ((wT c d e).run) fun (a,g,h,i,b,j,r) =>
  aC ((OQ a b).run) fun k =>
  aC ((wW f a g h i b j k).run) fun (l,m,n,o,p,q) =>
  (OS l m n o p q).run)
theorem OT(d:Bool)(a:Lv)(c:List Int)(e:Int)(b:Int){x:c8}(h:g9 d c e b=some x) :aj prog yB [] [.agg [.bool false d,.imm a (.ns .u64 c) 1 1 0 (List.length c),.int .i64 e],.int .i64 b] (zr x) :=
  lO true zr Gh h (Sg.cut 2 wS (bo nF (OO a b) [⟨[],[0,16],[1,2,4,6]⟩,⟨[(.cell 0 1,.lev a)],[0,16],[1,2,4,6]⟩]) (fun ⟨f,g,i,j,k,l,m⟩=>Sg.cut 1 wS (bo nF (OP a b f g i j k l m) [⟨[],[0,1],[1,2,4,6,16]⟩,⟨[],[0,1],[1,2,4,6,16]⟩]) (fun t=>Sg.cut 3 wS (bo nF OR [⟨[(.cell 1 1,.fre 1 1 (.ns .u64 ([]:List Int)))],[1],[4,5]⟩,⟨[],[1],[4,5]⟩]) (fun ⟨u,v,w,y,z,A⟩=>bo nF _ [⟨[],[0],[4,5]⟩]))))
    (fun x=>by cases x with | r0 n o p q r s=>exact lC [.agg [.bool false o,.imm .free (.ns .u64 p) 1 1 q r,.int .i64 s],.int .i64 ((n:Nat):Int)])
def r7:Option c8→Bool
  | some _=>true
  | none=>false
def s4:Option c8→Nat
  | some (.r0 x _ _ _ _ _)=>x
  | _=>0
def s5:Option c8→Bool
  | some (.r0 _ x _ _ _ _)=>x
  | _=>false
def s6:Option c8→List Int
  | some (.r0 _ _ x _ _ _)=>x
  | _=>[]
def s7:Option c8→Nat
  | some (.r0 _ _ _ x _ _)=>x
  | _=>0
def s8:Option c8→Nat
  | some (.r0 _ _ _ _ x _)=>x
  | _=>0
def s9:Option c8→Int
  | some (.r0 _ _ _ _ _ x)=>x
  | _=>0
theorem OU{x:Option c8}(h:r7 x=true) :x=some (.r0 (s4 x) (s5 x) (s6 x) (s7 x) (s8 x) (s9 x)):=by
  unfold r7 at h
  split at h<;>first | rfl | (cases h;done) | (rename_i y;cases y;rfl)
def Gi:aE:=bT yB (.cons (.agg (.cons .bool (.cons (.ns .u64) (.cons (.int .i64) .nil)))) (.cons (.int .i64) .nil)) fun t=>(fun q=>[⟨zr (.r0 (s4 q) (s5 q) (s6 q) (s7 q) (s8 q) (s9 q)),[r7 q]⟩]) (g9 t.1.1 t.1.2.1.2 t.1.2.2.1 t.2.1)
theorem JT:aO prog Gi:=aJ fun t=>(aK (fun h=>OT t.1.1 t.1.2.1.1 t.1.2.1.2 t.1.2.2.1 t.2.1 (OU h)) bb)
def Gj:List aE:=Gi::MG
theorem oC:bc prog (bh Gj):=ap JT nF
inductive dE where
  | r0 (a:Bool) (b:List Int) (c:Nat) (d:Nat) (e:Int)
def Gk:dE→AE×aF
  | .r0 a b c d e=>(.ret,⟨ah 16 [(2,.ptr 0 1 0 0)],[(0,.vs [.bool false a,.imm .free (.ns .u64 b) 1 1 c d,.int .i64 e])],1⟩)
theorem Dk:j9 Gk:=by intro x;cases x<;>(intro h;cases h)
def zt:dE→iK
  | .r0 a b c d e=>⟨.agg [.bool false a,.imm .free (.ns .u64 b) 1 1 c d,.int .i64 e],[]⟩
def OV(a:Int) :Int×Bool→aF:=fun (b,c)=>⟨ah 16 [(0,.int .i64 a),(2,.ptr 0 1 0 0),(3,.int .u64 b)],[(0,.vs [.bool false c,.nsl,.int .i64 (0:Int)])],1⟩
def Dl(a:Int) :T ((Int×Bool)⊕(dE)) :=
  .ask (decide (a<(0:Int)))
    (.leaf (.inl ((IntKind.u64.wrap ((0:Int)-(IntKind.u64.wrap a))),false)))
    (.leaf (.inl ((IntKind.u64.wrap a),false)))
def OW:Bool×(List Int)×Nat×Nat×Int→aF:=fun (a,b,c,d,e)=>⟨ah 16 [(2,.ptr 0 1 0 0)],[(0,.vs [.bool false a,.imm .free (.ns .u64 b) 1 1 c d,.int .i64 e])],1⟩
def w6(b:Int)(a:Int) :T ((Bool×(List Int)×Nat×Nat×Int)⊕(dE)) :=
  .need (rp (bt a))<|.need (aP (cZ (bt a)) (c5 (bt a)) (c6 (bt a)))<|.need (dY (aq (decide (b<(0:Int))) (aa (cZ (bt a)) (c5 (bt a)) (c6 (bt a))) (0:Int)))<|.leaf (.inl ((cz (aq (decide (b<(0:Int))) (aa (cZ (bt a)) (c5 (bt a)) (c6 (bt a))) (0:Int))),(cA (aq (decide (b<(0:Int))) (aa (cZ (bt a)) (c5 (bt a)) (c6 (bt a))) (0:Int))),(cB (aq (decide (b<(0:Int))) (aa (cZ (bt a)) (c5 (bt a)) (c6 (bt a))) (0:Int))),(cC (aq (decide (b<(0:Int))) (aa (cZ (bt a)) (c5 (bt a)) (c6 (bt a))) (0:Int))),(cD (aq (decide (b<(0:Int))) (aa (cZ (bt a)) (c5 (bt a)) (c6 (bt a))) (0:Int)))))
def OX(a:Bool)(b:List Int)(c:Nat)(d:Nat)(e:Int) :T ((Empty)⊕(dE)) :=
  .leaf (.inr (.r0 a b c d e))
def aZ(a:Int) :Option dE:=lB (aC ((Dl a).run) fun (b,h) =>
  aC ((w6 a b).run) fun (c,d,e,f,g) =>
  (OX c d e f g).run)
theorem OY(a:Int){x:dE}(h:aZ a=some x) :aj prog yA [] [.int .i64 a] (zt x) :=
  lO true zt Gk h (Sg.cut 4 Dk (bo oC (OV a) [⟨[],[0],[0,2,3]⟩,⟨[],[0],[0,2,3]⟩]) (fun ⟨g,i⟩=>Sg.cut 1 Dk (bo oC OW [⟨[],[0],[2]⟩]) (fun ⟨j,k,l,m,n⟩=>bo oC _ [⟨[],[0],[2]⟩])))
    (fun x=>by cases x with | r0 b c d e f=>exact lC [.agg [.bool false b,.imm .free (.ns .u64 c) 1 1 d e,.int .i64 f]])
def jW:Option dE→Bool
  | some _=>true
  | none=>false
def gu:Option dE→Bool
  | some (.r0 x _ _ _ _)=>x
  | _=>false
def e8:Option dE→List Int
  | some (.r0 _ x _ _ _)=>x
  | _=>[]
def e9:Option dE→Nat
  | some (.r0 _ _ x _ _)=>x
  | _=>0
def fa:Option dE→Nat
  | some (.r0 _ _ _ x _)=>x
  | _=>0
def gv:Option dE→Int
  | some (.r0 _ _ _ _ x)=>x
  | _=>0
theorem OZ{x:Option dE}(h:jW x=true) :x=some (.r0 (gu x) (e8 x) (e9 x) (fa x) (gv x)):=by
  unfold jW at h
  split at h<;>first | rfl | (cases h;done) | (rename_i y;cases y;rfl)
def Gl:aE:=bT yA (.cons (.int .i64) .nil) fun t=>(fun q=>[⟨zt (.r0 (gu q) (e8 q) (e9 q) (fa q) (gv q)),[jW q]⟩]) (aZ t.1)
theorem JU:aO prog Gl:=aJ fun t=>(aK (fun h=>OY t.1 (OZ h)) bb)
def Gm:List aE:=Gl::Gj
theorem ta:bc prog (bh Gm):=ap JU oC
inductive iF where
  | r0 (a:Nat)
def Gn:iF→AE×aF
  | .r0 a=>(.ret,⟨ah 26 [(2,.int .i64 ((a:Nat):Int))],[],0⟩)
theorem O0:j9 Gn:=by intro x;cases x<;>(intro h;cases h)
def zu:iF→iK
  | .r0 a=>⟨.int .i64 ((a:Nat):Int),[]⟩
def O1(_:Unit) :aF:=⟨ah 26 [],[],0⟩
def r8(a : Int) : T ((Unit) ⊕ (iF)) :=
  .need (decide ((0:Int)≤(52:Int)))<|.ask ((dp .and .u64 (Int.fdiv a (2^(min (Int.toNat (52:Int)) (IntKind.u64.bits)))) (2047:Int))==(2047:Int))
    (.ask ((dp .and .u64 a (4503599627370495:Int)) != (0:Int))
      (.leaf (.inr (.r0 5)))
      (.ask ((dp .and .u64 (Int.fdiv a (2^(min (Int.toNat (52:Int)) (IntKind.u64.bits)))) (2047:Int))==(2047:Int))
        (.leaf (.inr (.r0 4)))
        (.ask ((dp .and .u64 (Int.fdiv a (2^(min (Int.toNat (52:Int)) (IntKind.u64.bits)))) (2047:Int)) != (0:Int))
          (.leaf (.inr (.r0 3)))
          (.ask ((dp .and .u64 a (4503599627370495:Int)) != (0:Int))
            (.leaf (.inr (.r0 2)))
            (.leaf (.inl ()))))))
    (.ask ((dp .and .u64 (Int.fdiv a (2^(min (Int.toNat (52:Int)) (IntKind.u64.bits)))) (2047:Int))==(2047:Int))
      (.leaf (.inr (.r0 4)))
      (.ask ((dp .and .u64 (Int.fdiv a (2^(min (Int.toNat (52:Int)) (IntKind.u64.bits)))) (2047:Int)) != (0:Int))
        (.leaf (.inr (.r0 3)))
        (.ask ((dp .and .u64 a (4503599627370495:Int)) != (0:Int))
          (.leaf (.inr (.r0 2)))
          (.leaf (.inl ())))))
def O2:T ((Empty)⊕(iF)) :=
  .leaf (.inr (.r0 1))
def qe(a:Int) :Option iF:=lB (aC ((r8 a).run) fun _ =>
  (O2).run)
theorem O3(a:Int){x:iF}(h:qe a=some x) :aj prog FL [] [.int .u64 a] (zu x) :=
  lO false zu Gn h (Sg.cut 3 O0 (bo ta O1 [⟨[],[],[2]⟩,⟨[],[],[2]⟩,⟨[],[],[2]⟩,⟨[],[],[2]⟩,⟨[],[],[]⟩,⟨[],[],[2]⟩,⟨[],[],[2]⟩,⟨[],[],[2]⟩,⟨[],[],[]⟩]) (fun _=>bo ta _ [⟨[],[],[2]⟩]))
    (fun x=>by cases x with | r0 b=>exact lC [.int .i64 ((b:Nat):Int)])
def r9:Option iF→Bool
  | some _=>true
  | none=>false
def tc:Option iF→Nat
  | some (.r0 x)=>x
  | _=>0
theorem O4{x:Option iF}(h:r9 x=true) :x=some (.r0 (tc x)):=by
  unfold r9 at h
  split at h<;>first | rfl | (cases h;done) | (rename_i y;cases y;rfl)
def Gp:aE:=bT FL (.cons (.int .u64) .nil) fun t=>(fun q=>[⟨zu (.r0 (tc q)),[r9 q]⟩]) (qe t.1)
theorem JV:aO prog Gp:=aJ fun t=>(aK (fun h=>O3 t.1 (O4 h)) bb)
def Gq:List aE:=Gp::Gm
theorem td:bc prog (bh Gq):=ap JV ta
inductive fb where
  | r0 (a:Nat) (b:Bool) (c:Int) (d:Int)
def Gr:fb→AE×aF
  | .r0 a b c d=>(.ret,⟨ah 36 [(2,.ptr 0 1 0 0),(3,.int .i64 ((a:Nat):Int))],[(0,.vs [.bool false b,.int .u64 c,.int .i64 d])],1⟩)
theorem O5:j9 Gr:=by intro x;cases x<;>(intro h;cases h)
def zw:fb→iK
  | .r0 a b c d=>⟨.tup [.agg [.bool false b,.int .u64 c,.int .i64 d],.int .i64 ((a:Nat):Int)],[]⟩
def O6(a:Int) :Nat×Bool×Bool×Int→aF:=fun (b,c,d,e)=>⟨ah 36 [(0,.int .u64 a),(2,.ptr 0 1 0 0),(4,.ptr 1 1 0 0),(12,.int .i64 ((b:Nat):Int))],[(0,.vs [.bool false c,.int .u64 (0:Int),.int .i64 (0:Int)]),(1,.vs [.bool false d,.int .u64 e,.int .i64 (-1074:Int)])],2⟩
def Dm(a:Int) :T ((Nat×Bool×Bool×Int)⊕(fb)) :=
  .need (decide ((0:Int)≤(63:Int)))<|.need (r9 (qe a))<|.leaf (.inl ((tc (qe a)),false,((Int.fdiv a (2^(min (Int.toNat (63:Int)) (IntKind.u64.bits))))==(1:Int)),(dp .and .u64 a (4503599627370495:Int))))
def w7(a:Int)(b:Nat)(c:Bool)(d:Int) :T ((Empty)⊕(fb)) :=
  .ask (((b:Nat):Int)==(3:Int))
    (.need (decide ((0:Int)≤(52:Int)))<|.need (dI .i64 ((IntKind.i64.wrap (dp .and .u64 (Int.fdiv a (2^(min (Int.toNat (52:Int)) (IntKind.u64.bits)))) (2047:Int)))-(1:Int)))<|.need (dI .i64 ((-1074:Int)+((IntKind.i64.wrap (dp .and .u64 (Int.fdiv a (2^(min (Int.toNat (52:Int)) (IntKind.u64.bits)))) (2047:Int)))-(1:Int))))<|.leaf (.inr (.r0 0 c (dp .or .u64 d (4503599627370496:Int)) ((-1074:Int)+((IntKind.i64.wrap (dp .and .u64 (Int.fdiv a (2^(min (Int.toNat (52:Int)) (IntKind.u64.bits)))) (2047:Int)))-(1:Int))))))
    (.ask (((b:Nat):Int)==(2:Int))
      (.leaf (.inr (.r0 0 c d (-1074:Int))))
      (.ask (((b:Nat):Int)==(1:Int))
        (.leaf (.inr (.r0 0 c d (0:Int))))
        (.leaf (.inr (.r0 2 false (0:Int) (0:Int))))))
def dZ(a:Int) :Option fb:=lB (aC ((Dm a).run) fun (b,e,c,d) =>
  (w7 a b c d).run)
theorem O7(a:Int){x:fb}(h:dZ a=some x) :aj prog FJ [] [.int .u64 a] (zw x) :=
  lO false zw Gr h (Sg.cut 3 O5 (bo td (O6 a) [⟨[],[0,128],[0,2,4,12]⟩]) (fun ⟨f,g,i,j⟩=>bo td _ [⟨[],[0],[2,3]⟩,⟨[],[0],[2,3]⟩,⟨[],[0],[2,3]⟩,⟨[],[0],[2,3]⟩]))
    (fun x=>by cases x with | r0 b c d e=>exact lC [.agg [.bool false c,.int .u64 d,.int .i64 e],.int .i64 ((b:Nat):Int)])
def nG:Option fb→Bool
  | some _=>true
  | none=>false
def oD:Option fb→Nat
  | some (.r0 x _ _ _)=>x
  | _=>0
def oE:Option fb→Bool
  | some (.r0 _ x _ _)=>x
  | _=>false
def oF:Option fb→Int
  | some (.r0 _ _ x _)=>x
  | _=>0
def oG:Option fb→Int
  | some (.r0 _ _ _ x)=>x
  | _=>0
theorem O8{x:Option fb}(h:nG x=true) :x=some (.r0 (oD x) (oE x) (oF x) (oG x)):=by
  unfold nG at h
  split at h<;>first | rfl | (cases h;done) | (rename_i y;cases y;rfl)
def Gs:aE:=bT FJ (.cons (.int .u64) .nil) fun t=>(fun q=>[⟨zw (.r0 (oD q) (oE q) (oF q) (oG q)),[nG q]⟩]) (dZ t.1)
theorem JW:aO prog Gs:=aJ fun t=>(aK (fun h=>O7 t.1 (O8 h)) bb)
def Gt:List aE:=Gs::Gq
theorem oH:bc prog (bh Gt):=ap JW td
inductive gX where
  | r0 (a:Nat) (b:Bool) (c:List Int) (d:Nat) (e:Nat) (f:Int)
def Rs:gX→AE×aF
  | .r0 a b c d e f=>(.ret,⟨ah 25 [(2,.ptr 0 1 0 0),(3,.int .i64 ((a:Nat):Int))],[(0,.vs [.bool false b,.imm .free (.ns .u64 c) 1 1 d e,.int .i64 f])],1⟩)
theorem MH:j9 Rs:=by intro x;cases x<;>(intro h;cases h)
def Ic:gX→iK
  | .r0 a b c d e f=>⟨.tup [.agg [.bool false b,.imm .free (.ns .u64 c) 1 1 d e,.int .i64 f],.int .i64 ((a:Nat):Int)],[]⟩
def Zx:Nat×Bool×Bool×Int×Int→aF:=fun (a,b,c,d,e)=>⟨ah 25 [(2,.ptr 0 1 0 0),(4,.ptr 1 1 0 0),(5,.int .i64 ((a:Nat):Int))],[(0,.vs [.bool false b,.nsl,.int .i64 (0:Int)]),(1,.vs [.bool false c,.int .u64 d,.int .i64 e])],2⟩
def MI(a:Nat) :T ((Nat×Bool×Bool×Int×Int)⊕(gX)) :=
  .ask (Fa a a)
    (.need (nG (dZ (9221120237041090560:Int)))<|.leaf (.inl ((oD (dZ (9221120237041090560:Int))),false,(oE (dZ (9221120237041090560:Int))),(oF (dZ (9221120237041090560:Int))),(oG (dZ (9221120237041090560:Int))))))
    (.alt 0
      (.need (!isNaN a)<|.need (nG (dZ ((a:Nat):Int)))<|.leaf (.inl ((oD (dZ ((a:Nat):Int))),false,(oE (dZ ((a:Nat):Int))),(oF (dZ ((a:Nat):Int))),(oG (dZ ((a:Nat):Int))))))
      (.fail))
def Zy:Bool×(List Int)×Nat×Nat×Int→aF:=fun (a,b,c,d,e)=>⟨ah 25 [(2,.ptr 0 1 0 0),(3,.int .i64 (0:Int))],[(0,.vs [.bool false a,.imm .free (.ns .u64 b) 1 1 c d,.int .i64 e])],1⟩
def EH(d:Nat)(b:Bool)(a:Int)(c:Int) :T ((Bool×(List Int)×Nat×Nat×Int)⊕(gX)) :=
  .ask (((d:Nat):Int) != (0:Int))
    (.leaf (.inr (.r0 d false ([]:List Int) 0 0 (0:Int))))
    (.need (rp (bt a))<|.need (aP (cZ (bt a)) (c5 (bt a)) (c6 (bt a)))<|.need (dY (aq b (aa (cZ (bt a)) (c5 (bt a)) (c6 (bt a))) c))<|.leaf (.inl ((cz (aq b (aa (cZ (bt a)) (c5 (bt a)) (c6 (bt a))) c)),(cA (aq b (aa (cZ (bt a)) (c5 (bt a)) (c6 (bt a))) c)),(cB (aq b (aa (cZ (bt a)) (c5 (bt a)) (c6 (bt a))) c)),(cC (aq b (aa (cZ (bt a)) (c5 (bt a)) (c6 (bt a))) c)),(cD (aq b (aa (cZ (bt a)) (c5 (bt a)) (c6 (bt a))) c)))))
def Zz(a:Bool)(b:List Int)(c:Nat)(d:Nat)(e:Int) :T ((Empty)⊕(gX)) :=
  .leaf (.inr (.r0 0 a b c d e))
def jm(a:Nat) :Option gX:=lB (aC ((MI a).run) fun (b,k,c,d,e) =>
  aC ((EH b c d e).run) fun (f,g,h,i,j) =>
  (Zz f g h i j).run)
theorem ZA(a:Nat){x:gX}(h:jm a=some x) :aj prog HM [] [.flt false a] (Ic x) :=
  lO true Ic Rs h (Sg.cut 2 MH (bo oH Zx [⟨[],[0,128],[2,4,5]⟩,⟨[],[0,128],[2,4,5]⟩]) (fun ⟨i,j,k,l,m⟩=>Sg.cut 3 MH (bo oH Zy [⟨[(.cell 0 1,.fre 1 1 (.ns .u64 ([]:List Int)))],[0],[2,3]⟩,⟨[],[0],[2,3]⟩]) (fun ⟨n,o,p,q,r⟩=>bo oH _ [⟨[],[0],[2,3]⟩])))
    (fun x=>by cases x with | r0 b c d e f g=>exact lC [.agg [.bool false c,.imm .free (.ns .u64 d) 1 1 e f,.int .i64 g],.int .i64 ((b:Nat):Int)])
def u9:Option gX→Bool
  | some _=>true
  | none=>false
def Gu:Option gX→Nat
  | some (.r0 x _ _ _ _ _)=>x
  | _=>0
def uf:Option gX→Bool
  | some (.r0 _ x _ _ _ _)=>x
  | _=>false
def qf:Option gX→List Int
  | some (.r0 _ _ x _ _ _)=>x
  | _=>[]
def qg:Option gX→Nat
  | some (.r0 _ _ _ x _ _)=>x
  | _=>0
def qh:Option gX→Nat
  | some (.r0 _ _ _ _ x _)=>x
  | _=>0
def ug:Option gX→Int
  | some (.r0 _ _ _ _ _ x)=>x
  | _=>0
theorem ZB{x:Option gX}(h:u9 x=true) :x=some (.r0 (Gu x) (uf x) (qf x) (qg x) (qh x) (ug x)):=by
  unfold u9 at h
  split at h<;>first | rfl | (cases h;done) | (rename_i y;cases y;rfl)
def Rt:aE:=bT HM (.cons (.flt false) .nil) fun t=>(fun q=>[⟨Ic (.r0 (Gu q) (uf q) (qf q) (qg q) (qh q) (ug q)),[u9 q]⟩]) (jm t.1)
theorem S2:aO prog Rt:=aJ fun t=>(aK (fun h=>ZA t.1 (ZB h)) bb)
def Ru:List aE:=Rt::Gt
theorem qi:bc prog (bh Ru):=ap S2 oH
inductive d4 where
  | r0 (a:Nat) (b:List Int)
def uh:d4→AE×aF
  | .r0 a b=>(.ret,⟨ah 22 [(2,.sl 0 1 1 0 a a)],[(0,.ns .u64 b)],1⟩)
theorem sa:j9 uh:=by intro x;cases x<;>(intro h;cases h)
theorem O9(id:Nat) :mB id uh:=by intro x;cases x<;>(intro h;cases h)
def zz:d4→iK
  | .r0 a b=>⟨.imm .free (.ns .u64 b) 1 1 0 a,[]⟩
def MJ:List Code:=cY (mV tT)
def Pa(b:Lv)(a:List Int)(_:Unit) :aF:=⟨ah 22 [(0,.imm b (.ns .u64 a) 1 1 0 (List.length a)),(3,.int .i64 (((List.length a):Nat):Int))],[],0⟩
def MK:T ((Unit)⊕(d4)) :=
  .leaf (.inl ())
def w8(b:Lv)(a:List Int)(c:Int) :aF:=⟨ah 22 [(0,.imm b (.ns .u64 a) 1 1 0 (List.length a)),(3,.int .i64 c)],[],0⟩
def Dn(b:Lv)(a:List Int)(c:Int) :aF:=⟨ah 22 [(0,.imm b (.ns .u64 a) 1 1 0 (List.length a)),(3,.int .i64 c)],[],0⟩
def ML:List Code:=cY (d7 ((((MJ.drop 2).take 1)).headD .skip))
def Pb(b:Lv)(a:List Int)(c:Int)(d:Bool) :aF:=⟨ah 22 [(0,.imm b (.ns .u64 a) 1 1 0 (List.length a)),(3,.int .i64 c),(15,.bool false d)],[],0⟩
def md(b:List Int)(a:Int) :T ((Bool)⊕((Int)⊕(d4))) :=
  .ask (decide (a>(0:Int)))
    (.need (dI .i64 (a-(1:Int)))<|.need (gA (a-(1:Int)) (List.length b))<|.need (gM (Int.toNat (a-(1:Int))) (List.length b))<|.leaf (.inl ((List.getD b (Int.toNat (a-(1:Int))) 0)==(0:Int))))
    (.leaf (.inl false))
def Bo(a:Int)(b:Bool) :T ((Int)⊕((Int)⊕(d4))) :=
  .ask b
    (.need (dI .i64 (a-(1:Int)))<|.leaf (.inl (a-(1:Int))))
    (.leaf (.inr (.inl a)))
def va(b:List Int) :Int→Option ((Int)⊕((Int)⊕(d4))):=fun a =>
  aC ((md b a).run) fun c =>
  (Bo a c).run
theorem MM(b:Lv)(a:List Int)(c:Int) :Sg prog [] ML (w8 b a c) (va a c) (w8 b a) (dH 0 (Dn b a) uh):=by
  unfold va;exact Sg.cut 1 (bB sa) (bo qi (Pb b a c) [⟨[],[],[0,3,15]⟩,⟨[],[],[0,3,15]⟩]) (fun d=>bo qi _ [⟨[],[],[0,3]⟩,⟨[],[],[0,3]⟩])
def Bp(b:List Int)(a:Int) :T ((Empty)⊕(d4)) :=
  .need (CW a (List.length b))<|.need (CW (0:Int) (Int.toNat a))<|.need (qG ((Int.toNat a)*8) 140737488355328)<|.need (qG (Int.toNat a) 9223372036854775807)<|.need (qG (Int.toNat a) (List.length b))<|.leaf (.inr (.r0 (Int.toNat a) (List.take (Int.toNat a) b)))
def fc(a:List Int) :Option d4:=lB (aC ((MK).run) fun _ =>
  aC (df (va a) (((List.length a):Nat):Int)) fun b =>
  (Bp a b).run)
theorem Pc(b:Lv)(a:List Int){x:d4}(h:fc a=some x) :aj prog tT [] [.imm b (.ns .u64 a) 1 1 0 (List.length a)] (zz x) :=
  lO true zz uh h (Sg.cut 2 sa (bo qi (Pa b a) [⟨[],[],[0,3]⟩]) (fun _=>Sg.cut 1 sa (Ej ⟨[],[],[0,3]⟩ (w8 b a) (Dn b a) 0 sa (O9 _) (fun d=>MM b a d)) (fun e=>bo qi _ [⟨[],[48],[2]⟩])))
    (fun x=>by cases x with | r0 c f=>exact lC [.sl 0 1 1 0 c c])
def lF:Option d4→Bool
  | some _=>true
  | none=>false
def ld:Option d4→Nat
  | some (.r0 x _)=>x
  | _=>0
def lf:Option d4→List Int
  | some (.r0 _ x)=>x
  | _=>[]
theorem Pd{x:Option d4}(h:lF x=true) :x=some (.r0 (ld x) (lf x)):=by
  unfold lF at h
  split at h<;>first | rfl | (cases h;done) | (rename_i y;cases y;rfl)
def Gv:aE:=bT tT (.cons (.ns .u64) .nil) fun t=>(fun q=>[⟨zz (.r0 (ld q) (lf q)),[lF q]⟩]) (fc t.1.2)
theorem JX:aO prog Gv:=aJ fun t=>(aK (fun h=>Pc t.1.1 t.1.2 (Pd h)) bb)
def Gw:List aE:=Gv::Ru
theorem lg:bc prog (bh Gw):=ap JX qi
inductive ff where
  | r0 (a:Int)
def ui:ff→AE×aF
  | .r0 a=>(.ret,⟨ah 27 [(2,.int .i64 a)],[],0⟩)
theorem sb:j9 ui:=by intro x;cases x<;>(intro h;cases h)
theorem Pe(id:Nat) :mB id ui:=by intro x;cases x<;>(intro h;cases h)
def zA:ff→iK
  | .r0 a=>⟨.int .i64 a,[]⟩
def Pf:List Code:=cY (mV tU)
def Pg:(List Int)×Nat→aF:=fun (a,b)=>⟨ah 27 [(0,.imm .free (.ns .u64 a) 1 1 0 b)],[],0⟩
def w9(a:List Int) :T (((List Int)×Nat)⊕(ff)) :=
  .need (aP 0 (List.length a) a)<|.need (lF (fc (aa 0 (List.length a) a)))<|.leaf (.inl ((lf (fc (aa 0 (List.length a) a))),(ld (fc (aa 0 (List.length a) a)))))
def Ph:Int×Int→aF:=fun (a,b)=>⟨ah 27 [(3,.int .i64 a),(4,.int .u64 b)],[],0⟩
def xa(b:List Int)(a:Nat) :T ((Int×Int)⊕(ff)) :=
  .ask (((a:Nat):Int)==(0:Int))
    (.leaf (.inr (.r0 (0:Int))))
    (.need (dI .i64 (((a:Nat):Int)-(1:Int)))<|.need (dI .i64 ((64:Int)*(((a:Nat):Int)-(1:Int))))<|.need (dI .i64 (((a:Nat):Int)-(1:Int)))<|.need (gA (((a:Nat):Int)-(1:Int)) a)<|.need (gM (Int.toNat (((a:Nat):Int)-(1:Int))) (List.length b))<|.leaf (.inl (((64:Int)*(((a:Nat):Int)-(1:Int))),(List.getD b (Int.toNat (((a:Nat):Int)-(1:Int))) 0))))
def xc:Int×Int→aF:=fun (a,b)=>⟨ah 27 [(3,.int .i64 a),(4,.int .u64 b)],[],0⟩
def Do(a:Int) :aF:=⟨ah 27 [(3,.int .i64 a)],[],0⟩
def MN:List Code:=cY (d7 (((((Pf.drop 2).drop 4).take 1)).headD .skip))
def qj(a:Int)(b:Int) :T ((Int×Int)⊕((Int)⊕(ff))) :=
  .ask (decide (b>(0:Int)))
    (.need (dI .i64 (a+(1:Int)))<|.need ((2:Int) != (0:Int))<|.leaf (.inl ((a+(1:Int)),(IntKind.u64.wrap (Int.tdiv b (2:Int))))))
    (.leaf (.inr (.inl a)))
def vb:Int×Int→Option ((Int×Int)⊕((Int)⊕(ff))):=fun (a,b) =>
  (qj a b).run
theorem MO(a:Int)(b:Int) :Sg prog [] MN (xc (a,b)) (vb (a,b)) xc (dH 0 Do ui):=by
  unfold vb;exact bo lg _ [⟨[],[],[3,4]⟩,⟨[],[],[3]⟩]
def MP(a:Int) :T ((Empty)⊕(ff)) :=
  .leaf (.inr (.r0 a))
def kH(a:List Int) :Option ff:=lB (aC ((w9 a).run) fun (b,c) =>
  aC ((xa b c).run) fun (d,e) =>
  aC (df (vb) (d,e)) fun f =>
  (MP f).run)
theorem Pi(b:Lv)(a:List Int){x:ff}(h:kH a=some x) :aj prog tU [] [.imm b (.ns .u64 a) 1 1 0 (List.length a)] (zA x) :=
  lO true zA ui h (Sg.cut 2 sb (bo lg Pg [⟨[],[],[0]⟩]) (fun ⟨f,g⟩=>Sg.cut 4 sb (bo lg Ph [⟨[],[],[2]⟩,⟨[],[],[3,4]⟩]) (fun ⟨i,j⟩=>Sg.cut 1 sb (Ej ⟨[],[],[3,4]⟩ (xc) (Do) 0 sb (Pe _) (fun ⟨c,d⟩=>MO c d)) (fun k=>bo lg _ [⟨[],[],[2]⟩]))))
    (fun x=>by cases x with | r0 e=>exact lC [.int .i64 e])
def nH:Option ff→Bool
  | some _=>true
  | none=>false
def oI:Option ff→Int
  | some (.r0 x)=>x
  | _=>0
theorem Pj{x:Option ff}(h:nH x=true) :x=some (.r0 (oI x)):=by
  unfold nH at h
  split at h<;>first | rfl | (cases h;done) | (rename_i y;cases y;rfl)
def Gx:aE:=bT tU (.cons (.ns .u64) .nil) fun t=>(fun q=>[⟨zA (.r0 (oI q)),[nH q]⟩]) (kH t.1.2)
theorem JY:aO prog Gx:=aJ fun t=>(aK (fun h=>Pi t.1.1 t.1.2 (Pj h)) bb)
def Gy:List aE:=Gx::Gw
theorem te:bc prog (bh Gy):=ap JY lg
inductive jz where
  | r0 (a:Bool)
def Jn:jz→AE×aF
  | .r0 a=>(.ret,⟨ah 27 [(4,.bool false a)],[],0⟩)
theorem S3:j9 Jn:=by intro x;cases x<;>(intro h;cases h)
def Bq:jz→iK
  | .r0 a=>⟨.bool false a,[]⟩
def S4(a:Bool) :aF:=⟨ah 27 [(4,.bool false a)],[],0⟩
def Gz(b:List Int)(a:Int) :T ((Bool)⊕(jz)) :=
  .ask (decide (a≥(0:Int)))
    (.need ((64:Int) != (0:Int))<|.need (dI .i64 (Int.tdiv a (64:Int)))<|.ask (decide ((Int.tdiv a (64:Int))<(((List.length b):Nat):Int)))
      (.need ((64:Int) != (0:Int))<|.need (dI .i64 (Int.tdiv a (64:Int)))<|.need (gA (Int.tdiv a (64:Int)) (List.length b))<|.need (gM (Int.toNat (Int.tdiv a (64:Int))) (List.length b))<|.need ((64:Int) != (0:Int))<|.need (decide ((0:Int)≤(IntKind.u64.wrap (Int.tmod a (64:Int)))))<|.need ((2:Int) != (0:Int))<|.leaf (.inl ((Int.tmod (Int.fdiv (List.getD b (Int.toNat (Int.tdiv a (64:Int))) 0) (2^(min (Int.toNat (IntKind.u64.wrap (Int.tmod a (64:Int)))) (IntKind.u64.bits)))) (2:Int))==(1:Int))))
      (.leaf (.inl false)))
    (.leaf (.inl false))
def S5(a:Bool) :T ((Empty)⊕(jz)) :=
  .leaf (.inr (.r0 a))
def jA(a:List Int)(b:Int) :Option jz:=lB (aC ((Gz a b).run) fun c =>
  (S5 c).run)
theorem S6(c:Lv)(a:List Int)(b:Int){x:jz}(h:jA a b=some x) :aj prog AM [] [.imm c (.ns .u64 a) 1 1 0 (List.length a),.int .i64 b] (Bq x) :=
  lO true Bq Jn h (Sg.cut 2 S3 (bo te S4 [⟨[],[],[4]⟩,⟨[],[],[4]⟩,⟨[],[],[4]⟩]) (fun e=>bo te _ [⟨[],[],[4]⟩]))
    (fun x=>by cases x with | r0 d=>exact lC [.bool false d])
def kJ:Option jz→Bool
  | some _=>true
  | none=>false
def kh:Option jz→Bool
  | some (.r0 x)=>x
  | _=>false
theorem S7{x:Option jz}(h:kJ x=true) :x=some (.r0 (kh x)):=by
  unfold kJ at h
  split at h<;>first | rfl | (cases h;done) | (rename_i y;cases y;rfl)
def Jo:aE:=bT AM (.cons (.ns .u64) (.cons (.int .i64) .nil)) fun t=>(fun q=>[⟨Bq (.r0 (kh q)),[kJ q]⟩]) (jA t.1.2 t.2.1)
theorem MQ:aO prog Jo:=aJ fun t=>(aK (fun h=>S6 t.1.1 t.1.2 t.2.1 (S7 h)) bb)
def Jp:List aE:=Jo::Gy
theorem dP:bc prog (bh Jp):=ap MQ te
inductive cv where
  | r0 (a:List Int) (b:Nat) (c:Bool)
def sO:cv→AE×aF
  | .r0 a b c=>(.ret,⟨ah 68 [(4,.imm .free (.ns .u64 a) 1 1 0 b),(5,.bool false c)],[],0⟩)
theorem fS:j9 sO:=by intro x;cases x<;>(intro h;cases h)
theorem GA(id:Nat) :mB id sO:=by intro x;cases x<;>(intro h;cases h)
def Br:cv→iK
  | .r0 a b c=>⟨.tup [.imm .free (.ns .u64 a) 1 1 0 b,.bool false c],[]⟩
def Dp:List Code:=cY (mV vZ)
def S8(b:Lv)(a:List Int)(c:Int) :Bool×Int→aF:=fun (d,e)=>⟨ah 68 [(0,.imm b (.ns .u64 a) 1 1 0 (List.length a)),(1,.int .i64 c),(6,.bool false d),(7,.int .i64 e)],[],0⟩
def xd(a:List Int) :T ((Bool×Int)⊕(cv)) :=
  .need (aP 0 (List.length a) a)<|.need (nH (kH (aa 0 (List.length a) a)))<|.leaf (.inl (false,(oI (kH (aa 0 (List.length a) a)))))
def S9(b:Lv)(a:List Int)(c:Int)(d:Bool)(e:Int)(_:Unit) :aF:=⟨ah 68 [(0,.imm b (.ns .u64 a) 1 1 0 (List.length a)),(1,.int .i64 c),(6,.bool false d),(7,.int .i64 e),(8,.int .i64 (0:Int))],[],0⟩
def Pk:T ((Unit)⊕(cv)) :=
  .leaf (.inl ())
def zB(b:Lv)(a:List Int)(c:Int)(d:Int) :Bool×Nat→aF:=fun (e,f)=>⟨ah 68 [(0,.imm b (.ns .u64 a) 1 1 0 (List.length a)),(1,.int .i64 c),(6,.bool false e),(7,.int .i64 d),(8,.int .i64 ((f:Nat):Int))],[],0⟩
def GB(b:Lv)(a:List Int)(c:Int)(d:Int)(e:Bool) :aF:=⟨ah 68 [(0,.imm b (.ns .u64 a) 1 1 0 (List.length a)),(1,.int .i64 c),(6,.bool false e),(7,.int .i64 d)],[],0⟩
def Pm:List Code:=cY (d7 (((((Dp.drop 3).drop 1).take 1)).headD .skip))
def Ta(b:Lv)(a:List Int)(c:Int)(d:Int)(e:Bool)(f:Nat)(g:Bool) :aF:=⟨ah 68 [(0,.imm b (.ns .u64 a) 1 1 0 (List.length a)),(1,.int .i64 c),(6,.bool false e),(7,.int .i64 d),(8,.int .i64 ((f:Nat):Int)),(20,.bool false g)],[],0⟩
def nI(b:Int)(c:Int)(a:Nat) :T ((Bool)⊕((Bool)⊕(cv))) :=
  .ask (decide (((a:Nat):Int)<b))
    (.leaf (.inl (decide (((a:Nat):Int)<c))))
    (.leaf (.inl false))
def Tb(b:Lv)(a:List Int)(c:Int)(d:Int)(e:Nat)(f:Bool) :aF:=⟨ah 68 [(0,.imm b (.ns .u64 a) 1 1 0 (List.length a)),(1,.int .i64 c),(6,.bool false f),(7,.int .i64 d),(8,.int .i64 ((e:Nat):Int))],[],0⟩
def xe(a:List Int)(b:Bool)(c:Nat)(d:Bool) :T ((Bool)⊕((Bool)⊕(cv))) :=
  .ask d
    (.ask b
      (.leaf (.inl true))
      (.need (aP 0 (List.length a) a)<|.need (kJ (jA (aa 0 (List.length a) a) ((c:Nat):Int)))<|.leaf (.inl (kh (jA (aa 0 (List.length a) a) ((c:Nat):Int))))))
    (.leaf (.inr (.inl b)))
def Pn(a:Nat)(b:Bool) :T ((Bool×Nat)⊕((Bool)⊕(cv))) :=
  .need (dI .i64 (((a+1):Nat):Int))<|.leaf (.inl (b,(a+1)))
def sc(b:List Int)(c:Int)(d:Int) :Bool×Nat→Option ((Bool×Nat)⊕((Bool)⊕(cv))):=fun (e,a) =>
  aC ((nI c d a).run) fun f =>
  aC ((xe b e a f).run) fun g =>
  (Pn a g).run
theorem Po(d:Lv)(a:List Int)(b:Int)(c:Int)(f:Bool)(e:Nat) :Sg prog [] Pm (zB d a b c (f,e)) (sc a b c (f,e)) (zB d a b c) (dH 0 (GB d a b c) sO):=by
  unfold sc;exact Sg.cut 1 (bB fS) (bo dP (Ta d a b c f e) [⟨[],[],[0,1,6,7,8,20]⟩,⟨[],[],[0,1,6,7,8,20]⟩]) (fun g=>Sg.cut 2 (bB fS) (bo dP (Tb d a b c e) [⟨[],[],[0,1,6,7,8]⟩,⟨[],[],[0,1,6,7,8]⟩,⟨[],[],[0,1,6,7]⟩]) (fun h=>bo dP _ [⟨[],[],[0,1,6,7,8]⟩]))
def Pp(c:Lv)(a:List Int)(b:Int)(d:Int)(e:Bool)(f:(List Int)) :aF:=⟨ah 68 [(0,.imm c (.ns .u64 a) 1 1 0 (List.length a)),(1,.int .i64 b),(6,.bool false e),(7,.int .i64 d),(9,.sl 0 1 1 0 (List.length a) (List.length a)),(10,.int .i64 b)],[(0,.ns .u64 f)],1⟩
def xf(a:List Int)(b:Int)(c:Int)(d:Bool) :T (((List Int))⊕(cv)) :=
  .ask (decide (b≥c))
    (.leaf (.inr (.r0 ([]:List Int) 0 d)))
    (.need (decide ((0:Int)≤(((List.length a):Nat):Int)))<|.need (decide ((((List.length a):Nat):Int)≤(((List.length a):Nat):Int)))<|.need (decide ((8:Int)*(((List.length a):Nat):Int)≤140737488355328))<|.need (dI .i64 (((List.length a):Nat):Int))<|.leaf (.inl (List.replicate (List.length a) (0:Int))))
def xg(b:Lv)(a:List Int)(c:Int)(d:Int)(e:Bool) :Int×(List Int)→aF:=fun (f,g)=>⟨ah 68 [(0,.imm b (.ns .u64 a) 1 1 0 (List.length a)),(1,.int .i64 c),(6,.bool false e),(7,.int .i64 d),(9,.sl 0 1 1 0 (List.length a) (List.length a)),(10,.int .i64 f)],[(0,.ns .u64 g)],1⟩
def Dq(a:List Int)(b:Bool)(c:(List Int)) :aF:=⟨ah 68 [(6,.bool false b),(9,.sl 0 1 1 0 (List.length a) (List.length a))],[(0,.ns .u64 c)],1⟩
def Pq:List Code:=cY (d7 (((((((Dp.drop 3).drop 1).drop 1).drop 4).take 1)).headD .skip))
def Pr(b:Lv)(a:List Int)(c:Int)(d:Int)(e:Bool)(f:Int)(g:(List Int)) :aF:=⟨ah 68 [(0,.imm b (.ns .u64 a) 1 1 0 (List.length a)),(1,.int .i64 c),(6,.bool false e),(7,.int .i64 d),(9,.sl 0 1 1 0 (List.length a) (List.length a)),(10,.int .i64 f)],[(0,.ns .u64 g)],1⟩
def sd(c:List Int)(b:Int)(e:Int)(a:Int)(d:List Int) :T (((List Int))⊕(((List Int))⊕(cv))) :=
  .ask (decide (a<e))
    (.need (aP 0 (List.length c) c)<|.need (kJ (jA (aa 0 (List.length c) c) a))<|.ask (kh (jA (aa 0 (List.length c) c) a))
      (.need (dI .i64 (a-b))<|.need ((64:Int) != (0:Int))<|.need (dI .i64 (Int.tdiv (a-b) (64:Int)))<|.need (dI .i64 (a-b))<|.need ((64:Int) != (0:Int))<|.need (dI .i64 (Int.tdiv (a-b) (64:Int)))<|.need (gA (Int.tdiv (a-b) (64:Int)) (List.length c))<|.need (gM (Int.toNat (Int.tdiv (a-b) (64:Int))) (List.length d))<|.need (dI .i64 (a-b))<|.need ((64:Int) != (0:Int))<|.need (decide ((0:Int)≤(IntKind.u64.wrap (Int.tmod (a-b) (64:Int)))))<|.need (gA (Int.tdiv (a-b) (64:Int)) (List.length c))<|.need (gM (Int.toNat (Int.tdiv (a-b) (64:Int))) (List.length d))<|.leaf (.inl (List.set d (Int.toNat (Int.tdiv (a-b) (64:Int))) (IntKind.u64.wrap ((List.getD d (Int.toNat (Int.tdiv (a-b) (64:Int))) 0)+(IntKind.u64.wrap ((1:Int)*2^(min (Int.toNat (IntKind.u64.wrap (Int.tmod (a-b) (64:Int)))) (IntKind.u64.bits)))))))))
      (.leaf (.inl d)))
    (.leaf (.inr (.inl d)))
def Ps(a:Int)(b:List Int) :T ((Int×(List Int))⊕(((List Int))⊕(cv))) :=
  .need (dI .i64 (a+(1:Int)))<|.leaf (.inl ((a+(1:Int)),b))
def xh(b:List Int)(c:Int)(d:Int) :Int×(List Int)→Option ((Int×(List Int))⊕(((List Int))⊕(cv))):=fun (a,e) =>
  aC ((sd b c d a e).run) fun f =>
  (Ps a f).run
theorem Pt(e:Lv)(a:List Int)(b:Int)(c:Int)(d:Bool)(f:Int)(g:List Int) :Sg prog [] Pq (xg e a b c d (f,g)) (xh a b c (f,g)) (xg e a b c d) (dH 2 (Dq a d) sO):=by
  unfold xh;exact Sg.cut 3 (bB fS) (bo dP (Pr e a b c d f) [⟨[],[0],[0,1,6,7,9,10]⟩,⟨[],[0],[0,1,6,7,9,10]⟩,⟨[],[0],[6,9]⟩]) (fun h=>bo dP _ [⟨[],[0],[0,1,6,7,9,10]⟩])
def Pu(a:Bool) :(List Int)×Nat→aF:=fun (b,c)=>⟨ah 68 [(4,.imm .free (.ns .u64 b) 1 1 0 c),(5,.bool false a)],[],0⟩
def Dr(a:List Int)(b:List Int) :T (((List Int)×Nat)⊕(cv)) :=
  .need (aP 0 (List.length a) b)<|.need (lF (fc (aa 0 (List.length a) b)))<|.leaf (.inl ((lf (fc (aa 0 (List.length a) b))),(ld (fc (aa 0 (List.length a) b)))))
def Pv(a:Bool)(b:List Int)(c:Nat) :T ((Empty)⊕(cv)) :=
  .leaf (.inr (.r0 b c a))
def pE(a:List Int)(b:Int) :Option cv:=lB (aC ((xd a).run) fun (e,c) =>
  aC ((Pk).run) fun _ =>
  aC (df (sc a b c) (e,0)) fun d =>
  aC ((xf a b c d).run) fun f =>
  aC (df (xh a b c) (b,f)) fun g =>
  aC ((Dr a g).run) fun (h,i) =>
  (Pv d h i).run)
theorem Tc(c:Lv)(a:List Int)(b:Int){x:cv}(h:pE a b=some x) :aj prog vZ [] [.imm c (.ns .u64 a) 1 1 0 (List.length a),.int .i64 b] (Br x) :=
  lO true Br sO h (Sg.cut 3 fS (bo dP (S8 c a b) [⟨[],[],[0,1,6,7]⟩]) (fun ⟨f,d⟩=>Sg.cut 1 fS (bo dP (S9 c a b f d) [⟨[],[],[0,1,6,7,8]⟩]) (fun _=>Sg.cut 1 fS (Ej ⟨[],[],[0,1,6,7,8]⟩ (zB c a b d) (GB c a b d) 0 fS (GA _) (fun ⟨g,i⟩=>Po c a b d g i)) (fun e=>Sg.cut 4 fS (bo dP (Pp c a b d e) [⟨[(.slot 4,.fre 1 1 (.ns .u64 ([]:List Int)))],[],[4,5]⟩,⟨[],[80],[0,1,6,7,9,10]⟩]) (fun o=>Sg.cut 1 fS (Ej ⟨[],[0],[0,1,6,7,9,10]⟩ (xg c a b d e) (Dq a e) 2 fS (GA _) (fun ⟨j,k⟩=>Pt c a b d e j k)) (fun p=>Sg.cut 1 fS (bo dP (Pu e) [⟨[],[],[4,5]⟩]) (fun ⟨q,r⟩=>bo dP _ [⟨[],[],[4,5]⟩])))))))
    (fun x=>by cases x with | r0 l m n=>exact lC [.imm .free (.ns .u64 l) 1 1 0 m,.bool false n])
def uj:Option cv→Bool
  | some _=>true
  | none=>false
def vc:Option cv→List Int
  | some (.r0 x _ _)=>x
  | _=>[]
def vd:Option cv→Nat
  | some (.r0 _ x _)=>x
  | _=>0
def Bs:Option cv→Bool
  | some (.r0 _ _ x)=>x
  | _=>false
theorem Td{x:Option cv}(h:uj x=true) :x=some (.r0 (vc x) (vd x) (Bs x)):=by
  unfold uj at h
  split at h<;>first | rfl | (cases h;done) | (rename_i y;cases y;rfl)
def Jq:aE:=bT vZ (.cons (.ns .u64) (.cons (.int .i64) .nil)) fun t=>(fun q=>[⟨Br (.r0 (vc q) (vd q) (Bs q)),[uj q]⟩]) (pE t.1.2 t.2.1)
theorem MR:aO prog Jq:=aJ fun t=>(aK (fun h=>Tc t.1.1 t.1.2 t.2.1 (Td h)) bb)
def Jr:List aE:=Jq::Jp
theorem ki:bc prog (bh Jr):=ap MR dP
inductive dw where
  | r0 (a:Nat)
def se:dw→AE×aF
  | .r0 a=>(.ret,⟨ah 16 [(2,.int .i64 ((a:Nat):Int))],[],0⟩)
theorem me:j9 se:=by intro x;cases x<;>(intro h;cases h)
theorem MS(id:Nat) :mB id se:=by intro x;cases x<;>(intro h;cases h)
def xi:dw→iK
  | .r0 a=>⟨.int .i64 ((a:Nat):Int),[]⟩
def MT:List Code:=cY (mV rV)
def MU(b:Lv)(a:List Int)(c:Int) :aF:=⟨ah 16 [(0,.imm b (.ns .u64 a) 1 1 0 (List.length a)),(3,.int .i64 c)],[],0⟩
def Aa(a:List Int) :T ((Int)⊕(dw)) :=
  .need (aP 0 (List.length a) a)<|.need (nH (kH (aa 0 (List.length a) a)))<|.leaf (.inl (oI (kH (aa 0 (List.length a) a))))
def MV(b:Lv)(a:List Int)(c:Int)(_:Unit) :aF:=⟨ah 16 [(0,.imm b (.ns .u64 a) 1 1 0 (List.length a)),(3,.int .i64 c),(4,.int .i64 (0:Int))],[],0⟩
def JZ:T ((Unit)⊕(dw)) :=
  .leaf (.inl ())
def ve(b:Lv)(a:List Int)(c:Int)(d:Nat) :aF:=⟨ah 16 [(0,.imm b (.ns .u64 a) 1 1 0 (List.length a)),(3,.int .i64 c),(4,.int .i64 ((d:Nat):Int))],[],0⟩
def Bt(_:Unit) :aF:=⟨ah 16 [],[],0⟩
def J0:List Code:=cY (d7 (((((MT.drop 2).drop 1).take 1)).headD .skip))
def MW(b:Lv)(a:List Int)(c:Int)(d:Nat)(_:Unit) :aF:=⟨ah 16 [(0,.imm b (.ns .u64 a) 1 1 0 (List.length a)),(3,.int .i64 c),(4,.int .i64 ((d:Nat):Int))],[],0⟩
def lh(a:List Int)(c:Int)(b:Nat) :T ((Unit)⊕((Unit)⊕(dw))) :=
  .ask (decide (((b:Nat):Int)<c))
    (.need (aP 0 (List.length a) a)<|.need (kJ (jA (aa 0 (List.length a) a) ((b:Nat):Int)))<|.ask (kh (jA (aa 0 (List.length a) a) ((b:Nat):Int)))
      (.leaf (.inr (.inr (.r0 b))))
      (.leaf (.inl ())))
    (.leaf (.inr (.inl ())))
def J1(a:Nat) :T ((Nat)⊕((Unit)⊕(dw))) :=
  .need (dI .i64 (((a+1):Nat):Int))<|.leaf (.inl (a+1))
def tf(b:List Int)(c:Int) :Nat→Option ((Nat)⊕((Unit)⊕(dw))):=fun a =>
  aC ((lh b c a).run) fun _ =>
  (J1 a).run
theorem J2(c:Lv)(a:List Int)(b:Int)(d:Nat) :Sg prog [] J0 (ve c a b d) (tf a b d) (ve c a b) (dH 0 Bt se):=by
  unfold tf;exact Sg.cut 3 (bB me) (bo ki (MW c a b d) [⟨[],[],[2]⟩,⟨[],[],[0,3,4]⟩,⟨[],[],[]⟩]) (fun _=>bo ki _ [⟨[],[],[0,3,4]⟩])
def J3:T ((Empty)⊕(dw)) :=
  .leaf (.inr (.r0 0))
def nJ(a:List Int) :Option dw:=lB (aC ((Aa a).run) fun b =>
  aC ((JZ).run) fun _ =>
  aC (df (tf a b) 0) fun _ =>
  (J3).run)
theorem MX(b:Lv)(a:List Int){x:dw}(h:nJ a=some x) :aj prog rV [] [.imm b (.ns .u64 a) 1 1 0 (List.length a)] (xi x) :=
  lO true xi se h (Sg.cut 2 me (bo ki (MU b a) [⟨[],[],[0,3]⟩]) (fun c=>Sg.cut 1 me (bo ki (MV b a c) [⟨[],[],[0,3,4]⟩]) (fun _=>Sg.cut 1 me (Ej ⟨[],[],[0,3,4]⟩ (ve b a c) (Bt) 0 me (MS _) (fun d=>J2 b a c d)) (fun _=>bo ki _ [⟨[],[],[2]⟩]))))
    (fun x=>by cases x with | r0 e=>exact lC [.int .i64 ((e:Nat):Int)])
def qk:Option dw→Bool
  | some _=>true
  | none=>false
def rC:Option dw→Nat
  | some (.r0 x)=>x
  | _=>0
theorem MY{x:Option dw}(h:qk x=true) :x=some (.r0 (rC x)):=by
  unfold qk at h
  split at h<;>first | rfl | (cases h;done) | (rename_i y;cases y;rfl)
def Ds:aE:=bT rV (.cons (.ns .u64) .nil) fun t=>(fun q=>[⟨xi (.r0 (rC q)),[qk q]⟩]) (nJ t.1.2)
theorem Id:aO prog Ds:=aJ fun t=>(aK (fun h=>MX t.1.1 t.1.2 (MY h)) bb)
def Dt:List aE:=Ds::Jr
theorem rD:bc prog (bh Dt):=ap Id ki
inductive jB where
  | r0 (a:Bool)
def Js:jB→AE×aF
  | .r0 a=>(.ret,⟨ah 32 [(2,.bool false a)],[],0⟩)
theorem Te:j9 Js:=by intro x;cases x<;>(intro h;cases h)
def Bu:jB→iK
  | .r0 a=>⟨.bool false a,[]⟩
def Tf(a:Bool) :aF:=⟨ah 32 [(2,.bool false a)],[],0⟩
def GC(a:Int)(b:Int)(c:List Nat) :T ((Bool)⊕(jB)) :=
  .ask (decide (a≥(0:Int)))
    (.ask (decide (a≤(512:Int)))
      (.ask (decide (b≥(0:Int)))
        (.ask (decide (b≤(512:Int)))
          (.need (dI .i64 (a*b))<|.leaf (.inl ((((List.length c):Nat):Int)==(a*b))))
          (.leaf (.inl false)))
        (.leaf (.inl false)))
      (.leaf (.inl false)))
    (.leaf (.inl false))
def Tg(a:Bool) :T ((Empty)⊕(jB)) :=
  .leaf (.inr (.r0 a))
def mf(a:Int)(b:Int)(c:List Nat) :Option jB:=lB (aC ((GC a b c).run) fun d =>
  (Tg d).run)
theorem Th(b:Int)(c:Int)(d:Lv)(a:List Nat){x:jB}(h:mf b c a=some x) :aj prog IQ [] [.agg [.int .i64 b,.int .i64 c,.imm d (.fl a) 1 1 0 (List.length a)]] (Bu x) :=
  lO false Bu Js h (Sg.cut 2 Te (bo rD Tf [⟨[],[],[2]⟩,⟨[],[],[2]⟩,⟨[],[],[2]⟩,⟨[],[],[2]⟩,⟨[],[],[2]⟩]) (fun f=>bo rD _ [⟨[],[],[2]⟩]))
    (fun x=>by cases x with | r0 e=>exact lC [.bool false e])
def ql:Option jB→Bool
  | some _=>true
  | none=>false
def qm:Option jB→Bool
  | some (.r0 x)=>x
  | _=>false
theorem Ti{x:Option jB}(h:ql x=true) :x=some (.r0 (qm x)):=by
  unfold ql at h
  split at h<;>first | rfl | (cases h;done) | (rename_i y;cases y;rfl)
def Jt:aE:=bT IQ (.cons (.agg (.cons (.int .i64) (.cons (.int .i64) (.cons .fl .nil)))) .nil) fun t=>(fun q=>[⟨Bu (.r0 (qm q)),[ql q]⟩]) (mf t.1.1 t.1.2.1 t.1.2.2.1.2)
theorem MZ:aO prog Jt:=aJ fun t=>(aK (fun h=>Th t.1.1 t.1.2.1 t.1.2.2.1.1 t.1.2.2.1.2 (Ti h)) bb)
def Ju:List aE:=Jt::Dt
theorem qn:bc prog (bh Ju):=ap MZ rD
inductive dQ where
  | r0 (a:Bool)
def qo:dQ→AE×aF
  | .r0 a=>(.ret,⟨ah 20 [(2,.bool false a)],[],0⟩)
theorem tg:j9 qo:=by intro x;cases x<;>(intro h;cases h)
theorem J4(id:Nat) :mB id qo:=by intro x;cases x<;>(intro h;cases h)
def vf:dQ→iK
  | .r0 a=>⟨.bool false a,[]⟩
def J5:List Code:=cY (mV uN)
def J6(b:Lv)(a:List Nat)(_:Unit) :aF:=⟨ah 20 [(0,.imm b (.fl a) 1 1 0 (List.length a)),(3,.int .i64 (0:Int))],[],0⟩
def J7:T ((Unit)⊕(dQ)) :=
  .leaf (.inl ())
def th(b:Lv)(a:List Nat)(c:Nat) :aF:=⟨ah 20 [(0,.imm b (.fl a) 1 1 0 (List.length a)),(3,.int .i64 ((c:Nat):Int))],[],0⟩
def Ab(_:Unit) :aF:=⟨ah 20 [],[],0⟩
def J8:List Code:=cY (d7 ((((J5.drop 2).take 1)).headD .skip))
def lk(b:List Nat)(a:Nat) :T ((Nat)⊕((Unit)⊕(dQ))) :=
  .ask (decide (((a:Nat):Int)<(((List.length b):Nat):Int)))
    (.need (gA ((a:Nat):Int) (List.length b))<|.need (gM a (List.length b))<|.need (gA ((a:Nat):Int) (List.length b))<|.need (gM a (List.length b))<|.ask (Fa (Ua (List.getD b a 0) (List.getD b a 0)) 0)
      (.leaf (.inr (.inr (.r0 false))))
      (.need (dI .i64 (((a+1):Nat):Int))<|.leaf (.inl (a+1))))
    (.leaf (.inr (.inl ())))
def mN(a:List Nat) :Nat→Option ((Nat)⊕((Unit)⊕(dQ))):=fun b =>
  (lk a b).run
theorem Ie(b:Lv)(a:List Nat)(c:Nat) :Sg prog [] J8 (th b a c) (mN a c) (th b a) (dH 0 Ab qo):=by
  unfold mN;exact bo qn _ [⟨[],[],[2]⟩,⟨[],[],[0,3]⟩,⟨[],[],[]⟩]
def If:T ((Empty)⊕(dQ)) :=
  .leaf (.inr (.r0 true))
def fT(a:List Nat) :Option dQ:=lB (aC ((J7).run) fun _ =>
  aC (df (mN a) 0) fun _ =>
  (If).run)
theorem J9(b:Lv)(a:List Nat){x:dQ}(h:fT a=some x) :aj prog uN [] [.imm b (.fl a) 1 1 0 (List.length a)] (vf x) :=
  lO false vf qo h (Sg.cut 2 tg (bo qn (J6 b a) [⟨[],[],[0,3]⟩]) (fun _=>Sg.cut 1 tg (Ej ⟨[],[],[0,3]⟩ (th b a) (Ab) 0 tg (J4 _) (fun c=>Ie b a c)) (fun _=>bo qn _ [⟨[],[],[2]⟩])))
    (fun x=>by cases x with | r0 d=>exact lC [.bool false d])
def jn:Option dQ→Bool
  | some _=>true
  | none=>false
def jC:Option dQ→Bool
  | some (.r0 x)=>x
  | _=>false
theorem Ka{x:Option dQ}(h:jn x=true) :x=some (.r0 (jC x)):=by
  unfold jn at h
  split at h<;>first | rfl | (cases h;done) | (rename_i y;cases y;rfl)
def Bv:aE:=bT uN (.cons .fl .nil) fun t=>(fun q=>[⟨vf (.r0 (jC q)),[jn q]⟩]) (fT t.1.2)
theorem GD:aO prog Bv:=aJ fun t=>(aK (fun h=>J9 t.1.1 t.1.2 (Ka h)) bb)
def Bw:List aE:=Bv::Ju
theorem jD:bc prog (bh Bw):=ap GD qn
inductive dd where
  | r0 (a:Nat)
def x6:dd→AE×aF
  | .r0 a=>(.ret,⟨ah 56 [(6,.int .i64 ((a:Nat):Int))],[],0⟩)
theorem qp:j9 x6:=by intro x;cases x<;>(intro h;cases h)
def rE:dd→iK
  | .r0 a=>⟨.int .i64 ((a:Nat):Int),[]⟩
def GE(d:Int)(e:Int)(f:Lv)(a:List Nat)(g:Lv)(b:List Nat)(h:Int)(i:Int)(j:Lv)(c:List Nat)(k:Bool) :aF:=⟨ah 56 [(1,.imm g (.fl b) 1 1 0 (List.length b)),(3,.ptr 0 1 0 0),(5,.ptr 1 1 0 0),(14,.bool false k)],[(0,.vs [.int .i64 d,.int .i64 e,.imm f (.fl a) 1 1 0 (List.length a)]),(1,.vs [.int .i64 h,.int .i64 i,.imm j (.fl c) 1 1 0 (List.length c)])],2⟩
def qq(c:Int)(d:Int)(a:List Nat)(e:Int)(f:Int)(b:List Nat) :T ((Bool)⊕(dd)) :=
  .need (aP 0 (List.length a) a)<|.need (ql (mf c d (aa 0 (List.length a) a)))<|.ask (!(qm (mf c d (aa 0 (List.length a) a))))
    (.leaf (.inl true))
    (.need (aP 0 (List.length b) b)<|.need (ql (mf e f (aa 0 (List.length b) b)))<|.leaf (.inl (!(qm (mf e f (aa 0 (List.length b) b))))))
def GF(d:Int)(e:Int)(f:Lv)(a:List Nat)(g:Lv)(b:List Nat)(h:Int)(i:Int)(j:Lv)(c:List Nat)(k:Bool) :aF:=⟨ah 56 [(1,.imm g (.fl b) 1 1 0 (List.length b)),(3,.ptr 0 1 0 0),(5,.ptr 1 1 0 0),(40,.bool false k)],[(0,.vs [.int .i64 d,.int .i64 e,.imm f (.fl a) 1 1 0 (List.length a)]),(1,.vs [.int .i64 h,.int .i64 i,.imm j (.fl c) 1 1 0 (List.length c)])],2⟩
def jE(a:Int)(b:Int)(c:List Nat)(d:Int)(e:Int)(f:Bool) :T ((Bool)⊕(dd)) :=
  .ask f
    (.leaf (.inr (.r0 2)))
    (.ask (a != b)
      (.leaf (.inl true))
      (.ask ((((List.length c):Nat):Int) != a)
        (.leaf (.inl true))
        (.ask (d != a)
          (.leaf (.inl true))
          (.leaf (.inl (e != a))))))
def GG(a:Bool) :aF:=⟨ah 56 [(55,.bool false a)],[],0⟩
def qr(a:List Nat)(b:List Nat)(c:List Nat)(d:Bool) :T ((Bool)⊕(dd)) :=
  .ask d
    (.leaf (.inr (.r0 8)))
    (.need (aP 0 (List.length a) a)<|.need (jn (fT (aa 0 (List.length a) a)))<|.ask (!(jC (fT (aa 0 (List.length a) a))))
      (.leaf (.inl true))
      (.need (aP 0 (List.length b) b)<|.need (jn (fT (aa 0 (List.length b) b)))<|.ask (!(jC (fT (aa 0 (List.length b) b))))
        (.leaf (.inl true))
        (.need (aP 0 (List.length c) c)<|.need (jn (fT (aa 0 (List.length c) c)))<|.leaf (.inl (!(jC (fT (aa 0 (List.length c) c))))))))
def GH(a:Bool) :T ((Empty)⊕(dd)) :=
  .ask a
    (.leaf (.inr (.r0 10)))
    (.leaf (.inr (.r0 0)))
def kj(a:Int)(b:Int)(c:List Nat)(d:List Nat)(e:Int)(f:Int)(g:List Nat) :Option dd:=lB (aC ((qq a b c e f g).run) fun h =>
  aC ((jE a b d e f h).run) fun i =>
  aC ((qr c d g i).run) fun j =>
  (GH j).run)
theorem GI(d:Int)(e:Int)(i:Lv)(a:List Nat)(j:Lv)(b:List Nat)(f:Int)(g:Int)(k:Lv)(c:List Nat){x:dd}(h:kj d e a b f g c=some x) :aj prog rh [] [.agg [.int .i64 d,.int .i64 e,.imm i (.fl a) 1 1 0 (List.length a)],.imm j (.fl b) 1 1 0 (List.length b),.agg [.int .i64 f,.int .i64 g,.imm k (.fl c) 1 1 0 (List.length c)]] (rE x) :=
  lO true rE x6 h (Sg.cut 2 qp (bo jD (GE d e i a j b f g k c) [⟨[],[0,16],[1,3,5,14]⟩,⟨[],[0,16],[1,3,5,14]⟩]) (fun m=>Sg.cut 2 qp (bo jD (GF d e i a j b f g k c) [⟨[],[],[6]⟩,⟨[],[0,1],[1,3,5,40]⟩,⟨[],[0,1],[1,3,5,40]⟩,⟨[],[0,1],[1,3,5,40]⟩,⟨[],[0,1],[1,3,5,40]⟩]) (fun n=>Sg.cut 2 qp (bo jD GG [⟨[],[],[6]⟩,⟨[],[],[55]⟩,⟨[],[],[55]⟩,⟨[],[],[55]⟩]) (fun o=>bo jD _ [⟨[],[],[6]⟩,⟨[],[],[6]⟩]))))
    (fun x=>by cases x with | r0 l=>exact lC [.int .i64 ((l:Nat):Int)])
def lL:Option dd→Bool
  | some _=>true
  | none=>false
def mW:Option dd→Nat
  | some (.r0 x)=>x
  | _=>0
theorem GJ{x:Option dd}(h:lL x=true) :x=some (.r0 (mW x)):=by
  unfold lL at h
  split at h<;>first | rfl | (cases h;done) | (rename_i y;cases y;rfl)
def x7:aE:=bT rh (.cons (.agg (.cons (.int .i64) (.cons (.int .i64) (.cons .fl .nil)))) (.cons .fl (.cons (.agg (.cons (.int .i64) (.cons (.int .i64) (.cons .fl .nil)))) .nil))) fun t=>(fun q=>[⟨rE (.r0 (mW q)),[lL q]⟩]) (kj t.1.1 t.1.2.1 t.1.2.2.1.2 t.2.1.2 t.2.2.1.1 t.2.2.1.2.1 t.2.2.1.2.2.1.2)
theorem CJ:aO prog x7:=aJ fun t=>(aK (fun h=>GI t.1.1 t.1.2.1 t.1.2.2.1.1 t.1.2.2.1.2 t.2.1.1 t.2.1.2 t.2.2.1.1 t.2.2.1.2.1 t.2.2.1.2.2.1.1 t.2.2.1.2.2.1.2 (GJ h)) bb)
def x8:List aE:=x7::Bw
theorem j5:bc prog (bh x8):=ap CJ jD
inductive fD where
  | r0 (a:Int) (b:Nat) (c:List Nat)
def wn:fD→AE×aF
  | .r0 a b c=>(.ret,⟨ah 26 [(2,.ptr 0 1 0 0)],[(0,.vs [.int .i64 a,.int .i64 a,.sl 1 1 1 0 b b]),(1,.fl c)],2⟩)
theorem zC:j9 wn:=by intro x;cases x<;>(intro h;cases h)
theorem Tj(id:Nat) :mB id wn:=by intro x;cases x<;>(intro h;cases h)
def Bx:fD→iK
  | .r0 a b c=>⟨.agg [.int .i64 a,.int .i64 a,.sl 0 1 1 0 b b],[some (.fl c)]⟩
def Tk:List Code:=cY (mV AF)
def Tl(a:Int) :Nat×(List Nat)→aF:=fun (b,c)=>⟨ah 26 [(0,.int .i64 a),(2,.ptr 0 1 0 0),(3,.ptr 1 1 0 0),(4,.int .i64 (0:Int))],[(0,.vs [.int .i64 (0:Int),.int .i64 (0:Int),.nsl]),(1,.vs [.int .i64 a,.int .i64 a,.sl 2 1 1 0 b b]),(2,.fl c)],3⟩
def Tm(a:Int) :T ((Nat×(List Nat))⊕(fD)) :=
  .need (dI .i64 (a*a))<|.need (decide ((0:Int)≤(a*a)))<|.need (decide ((a*a)≤(a*a)))<|.need (decide ((8:Int)*(a*a)≤140737488355328))<|.need (dI .i64 (a*a))<|.leaf (.inl ((Int.toNat (a*a)),(List.replicate (Int.toNat (a*a)) 0)))
def zD(a:Int)(b:Nat) :Nat×(List Nat)→aF:=fun (c,d)=>⟨ah 26 [(0,.int .i64 a),(2,.ptr 0 1 0 0),(3,.ptr 1 1 0 0),(4,.int .i64 ((c:Nat):Int))],[(0,.vs [.int .i64 (0:Int),.int .i64 (0:Int),.nsl]),(1,.vs [.int .i64 a,.int .i64 a,.sl 2 1 1 0 b b]),(2,.fl d)],3⟩
def GM(a:Int)(b:Nat)(c:(List Nat)) :aF:=⟨ah 26 [(2,.ptr 0 1 0 0),(3,.ptr 1 1 0 0)],[(0,.vs [.int .i64 (0:Int),.int .i64 (0:Int),.nsl]),(1,.vs [.int .i64 a,.int .i64 a,.sl 2 1 1 0 b b]),(2,.fl c)],3⟩
def Tn:List Code:=cY (d7 ((((Tk.drop 3).take 1)).headD .skip))
def To(b:Int)(d:Nat)(a:Nat)(c:List Nat) :T ((Nat×(List Nat))⊕(((List Nat))⊕(fD))) :=
  .ask (decide (((a:Nat):Int)<b))
    (.need (dI .i64 (((a:Nat):Int)*b))<|.need (dI .i64 ((((a:Nat):Int)*b)+((a:Nat):Int)))<|.need (gA ((((a:Nat):Int)*b)+((a:Nat):Int)) d)<|.need (gM (Int.toNat ((((a:Nat):Int)*b)+((a:Nat):Int))) (List.length c))<|.need (dI .i64 (((a+1):Nat):Int))<|.leaf (.inl ((a+1),(List.set c (Int.toNat ((((a:Nat):Int)*b)+((a:Nat):Int))) 4607182418800017408))))
    (.leaf (.inr (.inl c)))
def xj(a:Int)(b:Nat) :Nat×(List Nat)→Option ((Nat×(List Nat))⊕(((List Nat))⊕(fD))):=fun (c,d) =>
  (To a b c d).run
theorem Pw(a:Int)(b:Nat)(c:Nat)(d:List Nat) :Sg prog [] Tn (zD a b (c,d)) (xj a b (c,d)) (zD a b) (dH 0 (GM a b) wn):=by
  unfold xj;exact bo j5 _ [⟨[],[0,1,2],[0,2,3,4]⟩,⟨[],[0,1,2],[2,3]⟩]
def Px(a:Int)(b:Nat)(c:List Nat) :T ((Empty)⊕(fD)) :=
  .leaf (.inr (.r0 a b c))
def mg(a:Int) :Option fD:=lB (aC ((Tm a).run) fun (b,c) =>
  aC (df (xj a b) (0,c)) fun d =>
  (Px a b d).run)
theorem Tp(a:Int){x:fD}(h:mg a=some x) :aj prog AF [] [.int .i64 a] (Bx x) :=
  lO false Bx wn h (Sg.cut 3 zC (bo j5 (Tl a) [⟨[],[0,128,96],[0,2,3,4]⟩]) (fun ⟨b,g⟩=>Sg.cut 1 zC (Ej ⟨[],[0,1,2],[0,2,3,4]⟩ (zD a b) (GM a b) 0 zC (Tj _) (fun ⟨e,f⟩=>Pw a b e f)) (fun i=>bo j5 _ [⟨[],[0,2],[2]⟩])))
    (fun x=>by cases x with | r0 c d j=>exact lC [.agg [.int .i64 c,.int .i64 c,.sl 1 1 1 0 d d]])
def uk:Option fD→Bool
  | some _=>true
  | none=>false
def vg:Option fD→Int
  | some (.r0 x _ _)=>x
  | _=>0
def vh:Option fD→Nat
  | some (.r0 _ x _)=>x
  | _=>0
def vi:Option fD→List Nat
  | some (.r0 _ _ x)=>x
  | _=>[]
theorem Tq{x:Option fD}(h:uk x=true) :x=some (.r0 (vg x) (vh x) (vi x)):=by
  unfold uk at h
  split at h<;>first | rfl | (cases h;done) | (rename_i y;cases y;rfl)
def Jv:aE:=bT AF (.cons (.int .i64) .nil) fun t=>(fun q=>[⟨Bx (.r0 (vg q) (vh q) (vi q)),[uk q]⟩]) (mg t.1)
theorem M0:aO prog Jv:=aJ fun t=>(aK (fun h=>Tp t.1 (Tq h)) bb)
def Jw:List aE:=Jv::x8
theorem vj:bc prog (bh Jw):=ap M0 j5
inductive iG where
  | r0 (a:Bool)
def GN:iG→AE×aF
  | .r0 a=>(.ret,⟨ah 32 [(2,.bool false a)],[],0⟩)
theorem Py:j9 GN:=by intro x;cases x<;>(intro h;cases h)
def zE:iG→iK
  | .r0 a=>⟨.bool false a,[]⟩
def Pz(a:Bool) :aF:=⟨ah 32 [(2,.bool false a)],[],0⟩
def Du(a:Int)(b:Int)(c:List Nat) :T ((Bool)⊕(iG)) :=
  .ask (decide (a<(0:Int)))
    (.leaf (.inl true))
    (.ask (decide (a>(512:Int)))
      (.leaf (.inl true))
      (.ask (decide (b<(0:Int)))
        (.leaf (.inl true))
        (.ask (decide (b>(512:Int)))
          (.leaf (.inl true))
          (.need (dI .i64 (a*b))<|.leaf (.inl ((((List.length c):Nat):Int) != (a*b)))))))
def PA(a:Bool) :T ((Empty)⊕(iG)) :=
  .leaf (.inr (.r0 a))
def cM(a:Int)(b:Int)(c:List Nat) :Option iG:=lB (aC ((Du a b c).run) fun d =>
  (PA d).run)
theorem PB(b:Int)(c:Int)(d:Lv)(a:List Nat){x:iG}(h:cM b c a=some x) :aj prog FK [] [.agg [.int .i64 b,.int .i64 c,.imm d (.fl a) 1 1 0 (List.length a)]] (zE x) :=
  lO false zE GN h (Sg.cut 2 Py (bo vj Pz [⟨[],[],[2]⟩,⟨[],[],[2]⟩,⟨[],[],[2]⟩,⟨[],[],[2]⟩,⟨[],[],[2]⟩]) (fun f=>bo vj _ [⟨[],[],[2]⟩]))
    (fun x=>by cases x with | r0 e=>exact lC [.bool false e])
def fK:Option iG→Bool
  | some _=>true
  | none=>false
def fg:Option iG→Bool
  | some (.r0 x)=>x
  | _=>false
theorem PC{x:Option iG}(h:fK x=true) :x=some (.r0 (fg x)):=by
  unfold fK at h
  split at h<;>first | rfl | (cases h;done) | (rename_i y;cases y;rfl)
def GO:aE:=bT FK (.cons (.agg (.cons (.int .i64) (.cons (.int .i64) (.cons .fl .nil)))) .nil) fun t=>(fun q=>[⟨zE (.r0 (fg q)),[fK q]⟩]) (cM t.1.1 t.1.2.1 t.1.2.2.1.2)
theorem Kb:aO prog GO:=aJ fun t=>(aK (fun h=>PB t.1.1 t.1.2.1 t.1.2.2.1.1 t.1.2.2.1.2 (PC h)) bb)
def GQ:List aE:=GO::Jw
theorem oJ:bc prog (bh GQ):=ap Kb vj
inductive aU where
  | r0 (a:Int)
def dh:aU→AE×aF
  | .r0 a=>(.ret,⟨ah 19 [(4,.int .i64 a)],[],0⟩)
theorem d9:j9 dh:=by intro x;cases x<;>(intro h;cases h)
theorem m4(id:Nat) :mB id dh:=by intro x;cases x<;>(intro h;cases h)
def eK:aU→iK
  | .r0 a=>⟨.int .i64 a,[]⟩
def m5:List Code:=cY (mV o5)
def m6(b:Lv)(a:List Nat)(_:Unit) :aF:=⟨ah 19 [(0,.imm b (.fl a) 1 1 0 (List.length a)),(1,.fn (.func oq) [] []),(7,.int .i64 (((List.length a):Nat):Int)),(8,.int .i64 (0:Int))],[],0⟩
def m7:T ((Unit)⊕(aU)) :=
  .leaf (.inl ())
def ee(b:Lv)(a:List Nat)(c:Nat) :aF:=⟨ah 19 [(0,.imm b (.fl a) 1 1 0 (List.length a)),(1,.fn (.func oq) [] []),(7,.int .i64 (((List.length a):Nat):Int)),(8,.int .i64 ((c:Nat):Int))],[],0⟩
def iy(_:Unit) :aF:=⟨ah 19 [],[],0⟩
def m8:List Code:=cY (d7 ((((m5.drop 2).take 1)).headD .skip))
def cp(b:List Nat)(a:Nat) :T ((Nat)⊕((Unit)⊕(aU))) :=
  .ask (decide (((a:Nat):Int)<(((List.length b):Nat):Int)))
    (.need (gA ((a:Nat):Int) (List.length b))<|.need (gM a (List.length b))<|.ask (Fa (List.getD b a 0) (List.getD b a 0))
      (.leaf (.inr (.inr (.r0 ((a:Nat):Int)))))
      (.ask ((0:Int)==(0:Int))
        (.ask (fgt (lS (List.getD b a 0)) 9218868437227405311)
          (.leaf (.inr (.inr (.r0 ((a:Nat):Int)))))
          (.need (dI .i64 (((a+1):Nat):Int))<|.leaf (.inl (a+1))))
        (.fail)))
    (.leaf (.inr (.inl ())))
def cW(a:List Nat) :Nat→Option ((Nat)⊕((Unit)⊕(aU))):=fun b =>
  (cp a b).run
theorem mO(b:Lv)(a:List Nat)(c:Nat) :Sg prog [] m8 (ee b a c) (cW a c) (ee b a) (dH 0 iy dh):=by
  unfold cW;exact bo oJ _ [⟨[],[],[4]⟩,⟨[],[],[4]⟩,⟨[],[],[0,1,7,8]⟩,⟨[],[],[]⟩]
def mP:T ((Empty)⊕(aU)) :=
  .leaf (.inr (.r0 (-1:Int)))
def ao(a:List Nat) :Option aU:=lB (aC ((m7).run) fun _ =>
  aC (df (cW a) 0) fun _ =>
  (mP).run)
theorem m9(b:Lv)(a:List Nat){x:aU}(h:ao a=some x) :aj prog o5 [] [.imm b (.fl a) 1 1 0 (List.length a),.fn (.func oq) [] []] (eK x) :=
  lO false eK dh h (Sg.cut 2 d9 (bo oJ (m6 b a) [⟨[],[],[0,1,7,8]⟩]) (fun _=>Sg.cut 1 d9 (Ej ⟨[],[],[0,1,7,8]⟩ (ee b a) (iy) 0 d9 (m4 _) (fun c=>mO b a c)) (fun _=>bo oJ _ [⟨[],[],[4]⟩])))
    (fun x=>by cases x with | r0 d=>exact lC [.int .i64 d])
def aI:Option aU→Bool
  | some _=>true
  | none=>false
def aL:Option aU→Int
  | some (.r0 x)=>x
  | _=>0
theorem na{x:Option aU}(h:aI x=true) :x=some (.r0 (aL x)):=by
  unfold aI at h
  split at h<;>first | rfl | (cases h;done) | (rename_i y;cases y;rfl)
def iO:aE:=bT o5 (.cons .fl (.cons (.fn oq .nil .nil) .nil)) fun t=>(fun q=>[⟨eK (.r0 (aL q)),[aI q]⟩]) (ao t.1.2)
theorem mh:aO prog iO:=aJ fun t=>(aK (fun h=>m9 t.1.1 t.1.2 (na h)) bb)
def iP:List aE:=iO::GQ
theorem dR:bc prog (bh iP):=ap mh oJ
inductive kK where
  | r0 (a:Bool)
def M1:kK→AE×aF
  | .r0 a=>(.ret,⟨ah 17 [(4,.bool false a)],[],0⟩)
theorem WN:j9 M1:=by intro x;cases x<;>(intro h;cases h)
def EI:kK→iK
  | .r0 a=>⟨.bool false a,[]⟩
def WO(a:Bool) :aF:=⟨ah 17 [(4,.bool false a)],[],0⟩
def WP(a:Nat)(b:Nat) :T ((Bool)⊕(kK)) :=
  .ask (Fa a a)
    (.ask (!(Fa b b))
      (.leaf (.inl true))
      (.leaf (.inl (flt a b))))
    (.leaf (.inl (flt a b)))
def WQ(a:Bool) :T ((Empty)⊕(kK)) :=
  .leaf (.inr (.r0 a))
def vk(a:Nat)(b:Nat) :Option kK:=lB (aC ((WP a b).run) fun c =>
  (WQ c).run)
theorem WR(a:Nat)(b:Nat){x:kK}(h:vk a b=some x) :aj prog Lz [] [.flt false a,.flt false b] (EI x) :=
  lO false EI M1 h (Sg.cut 2 WN (bo dR WO [⟨[],[],[4]⟩,⟨[],[],[4]⟩,⟨[],[],[4]⟩]) (fun d=>bo dR _ [⟨[],[],[4]⟩]))
    (fun x=>by cases x with | r0 c=>exact lC [.bool false c])
def wo:Option kK→Bool
  | some _=>true
  | none=>false
def xk:Option kK→Bool
  | some (.r0 x)=>x
  | _=>false
theorem WS{x:Option kK}(h:wo x=true) :x=some (.r0 (xk x)):=by
  unfold wo at h
  split at h<;>first | rfl | (cases h;done) | (rename_i y;cases y;rfl)
def M2:aE:=bT Lz (.cons (.flt false) (.cons (.flt false) .nil)) fun t=>(fun q=>[⟨EI (.r0 (xk q)),[wo q]⟩]) (vk t.1 t.2.1)
theorem PD:aO prog M2:=aJ fun t=>(aK (fun h=>WR t.1 t.2.1 (WS h)) bb)
def M3:List aE:=M2::iP
theorem nK:bc prog (bh M3):=ap PD dR
inductive cy where
  | r0 (a:Bool)
def lM:cy→AE×aF
  | .r0 a=>(.ret,⟨ah 21 [(2,.bool false a)],[],0⟩)
theorem kL:j9 lM:=by intro x;cases x<;>(intro h;cases h)
theorem EJ(id:Nat) :mB id lM:=by intro x;cases x<;>(intro h;cases h)
def qs:cy→iK
  | .r0 a=>⟨.bool false a,[]⟩
def EK:List Code:=cY (mV pU)
def EL(b:Lv)(a:List Nat)(c:Int) :aF:=⟨ah 21 [(0,.imm b (.fl a) 1 1 0 (List.length a)),(3,.int .i64 c)],[],0⟩
def EM(a:List Nat) :T ((Int)⊕(cy)) :=
  .need (dI .i64 ((((List.length a):Nat):Int)-(1:Int)))<|.leaf (.inl ((((List.length a):Nat):Int)-(1:Int)))
def pb(b:Lv)(a:List Nat)(c:Int) :aF:=⟨ah 21 [(0,.imm b (.fl a) 1 1 0 (List.length a)),(3,.int .i64 c)],[],0⟩
def vl(_:Unit) :aF:=⟨ah 21 [],[],0⟩
def CL:List Code:=cY (d7 ((((EK.drop 2).take 1)).headD .skip))
def EN(b:Lv)(a:List Nat)(c:Int)(_:Unit) :aF:=⟨ah 21 [(0,.imm b (.fl a) 1 1 0 (List.length a)),(3,.int .i64 c)],[],0⟩
def j6(b:List Nat)(a:Int) :T ((Unit)⊕((Unit)⊕(cy))) :=
  .ask (decide (a>(0:Int)))
    (.need (gA a (List.length b))<|.need (gM (Int.toNat a) (List.length b))<|.need (dI .i64 (a-(1:Int)))<|.need (gA (a-(1:Int)) (List.length b))<|.need (gM (Int.toNat (a-(1:Int))) (List.length b))<|.need (wo (vk (List.getD b (Int.toNat a) 0) (List.getD b (Int.toNat (a-(1:Int))) 0)))<|.ask (xk (vk (List.getD b (Int.toNat a) 0) (List.getD b (Int.toNat (a-(1:Int))) 0)))
      (.leaf (.inr (.inr (.r0 false))))
      (.leaf (.inl ())))
    (.leaf (.inr (.inl ())))
def CM(a:Int) :T ((Int)⊕((Unit)⊕(cy))) :=
  .need (dI .i64 (a-(1:Int)))<|.leaf (.inl (a-(1:Int)))
def j7(b:List Nat) :Int→Option ((Int)⊕((Unit)⊕(cy))):=fun a =>
  aC ((j6 b a).run) fun _ =>
  (CM a).run
theorem CN(b:Lv)(a:List Nat)(c:Int) :Sg prog [] CL (pb b a c) (j7 a c) (pb b a) (dH 0 vl lM):=by
  unfold j7;exact Sg.cut 3 (bB kL) (bo nK (EN b a c) [⟨[],[],[2]⟩,⟨[],[],[0,3]⟩,⟨[],[],[]⟩]) (fun _=>bo nK _ [⟨[],[],[0,3]⟩])
def CO:T ((Empty)⊕(cy)) :=
  .leaf (.inr (.r0 true))
def jF(a:List Nat) :Option cy:=lB (aC ((EM a).run) fun b =>
  aC (df (j7 a) b) fun _ =>
  (CO).run)
theorem EO(b:Lv)(a:List Nat){x:cy}(h:jF a=some x) :aj prog pU [] [.imm b (.fl a) 1 1 0 (List.length a)] (qs x) :=
  lO false qs lM h (Sg.cut 2 kL (bo nK (EL b a) [⟨[],[],[0,3]⟩]) (fun e=>Sg.cut 1 kL (Ej ⟨[],[],[0,3]⟩ (pb b a) (vl) 0 kL (EJ _) (fun c=>CN b a c)) (fun _=>bo nK _ [⟨[],[],[2]⟩])))
    (fun x=>by cases x with | r0 d=>exact lC [.bool false d])
def kM:Option cy→Bool
  | some _=>true
  | none=>false
def mi:Option cy→Bool
  | some (.r0 x)=>x
  | _=>false
theorem EP{x:Option cy}(h:kM x=true) :x=some (.r0 (mi x)):=by
  unfold kM at h
  split at h<;>first | rfl | (cases h;done) | (rename_i y;cases y;rfl)
def wq:aE:=bT pU (.cons .fl .nil) fun t=>(fun q=>[⟨qs (.r0 (mi q)),[kM q]⟩]) (jF t.1.2)
theorem By:aO prog wq:=aJ fun t=>(aK (fun h=>EO t.1.1 t.1.2 (EP h)) bb)
def ws:List aE:=wq::M3
theorem fE:bc prog (bh ws):=ap By nK
inductive cN where
  | r0 (a:Nat) (b:Bool) (c:List Int) (d:Nat) (e:Nat) (f:Int)
def GR:cN→AE×aF
  | .r0 a b c d e f=>(.ret,⟨ah 45 [(4,.ptr 0 1 0 0),(5,.int .i64 ((a:Nat):Int))],[(0,.vs [.bool false b,.imm .free (.ns .u64 c) 1 1 d e,.int .i64 f])],1⟩)
theorem sf:j9 GR:=by intro x;cases x<;>(intro h;cases h)
def zF:cN→iK
  | .r0 a b c d e f=>⟨.tup [.agg [.bool false b,.imm .free (.ns .u64 c) 1 1 d e,.int .i64 f],.int .i64 ((a:Nat):Int)],[]⟩
def PE(a:Int)(b:Int) :Bool×Bool→aF:=fun (c,d)=>⟨ah 45 [(0,.int .i64 a),(1,.int .i64 b),(4,.ptr 0 1 0 0),(22,.bool false c)],[(0,.vs [.bool false d,.nsl,.int .i64 (0:Int)])],1⟩
def Dv(a:Int)(b:Int) :T ((Bool×Bool)⊕(cN)) :=
  .ask (decide (a<(0:Int)))
    (.leaf (.inl (true,false)))
    (.ask (decide (a>(512:Int)))
      (.leaf (.inl (true,false)))
      (.ask (decide (b<(0:Int)))
        (.leaf (.inl (true,false)))
        (.leaf (.inl ((decide (b>(512:Int))),false)))))
def PF(a:Bool) :Bool×(List Int)×Nat×Nat×Int→aF:=fun (b,c,d,e,f)=>⟨ah 45 [(4,.ptr 0 1 0 0),(6,.ptr 1 1 0 0)],[(0,.vs [.bool false a,.nsl,.int .i64 (0:Int)]),(1,.vs [.bool false b,.imm .free (.ns .u64 c) 1 1 d e,.int .i64 f])],2⟩
def xn(a:Int)(b:Int)(c:Bool) :T ((Bool×(List Int)×Nat×Nat×Int)⊕(cN)) :=
  .ask c
    (.leaf (.inr (.r0 2 false ([]:List Int) 0 0 (0:Int))))
    (.need (dI .i64 ((64:Int)*(kR a (1:Int))))<|.need (dI .i64 (((64:Int)*(kR a (1:Int)))*(kR b (1:Int))))<|.need (jW (aZ (((64:Int)*(kR a (1:Int)))*(kR b (1:Int)))))<|.leaf (.inl ((gu (aZ (((64:Int)*(kR a (1:Int)))*(kR b (1:Int))))),(e8 (aZ (((64:Int)*(kR a (1:Int)))*(kR b (1:Int))))),(e9 (aZ (((64:Int)*(kR a (1:Int)))*(kR b (1:Int))))),(fa (aZ (((64:Int)*(kR a (1:Int)))*(kR b (1:Int))))),(gv (aZ (((64:Int)*(kR a (1:Int)))*(kR b (1:Int))))))))
def PG(a:Bool) :Nat×Bool×(List Int)×Nat×Nat×Int→aF:=fun (b,c,d,e,f,g)=>⟨ah 45 [(4,.ptr 0 1 0 0),(7,.ptr 1 1 0 0),(8,.int .i64 ((b:Nat):Int))],[(0,.vs [.bool false a,.nsl,.int .i64 (0:Int)]),(1,.vs [.bool false c,.imm .free (.ns .u64 d) 1 1 e f,.int .i64 g])],2⟩
def xo(d:Bool)(a:List Int)(b:Nat)(c:Nat)(e:Int) :T ((Nat×Bool×(List Int)×Nat×Nat×Int)⊕(cN)) :=
  .need (aP b c a)<|.need (aP b c a)<|.need (ku (ak d (aa b c a) e d (aa b c a) e))<|.leaf (.inl ((iN (ak d (aa b c a) e d (aa b c a) e)),(bO (ak d (aa b c a) e d (aa b c a) e)),(bG (ak d (aa b c a) e d (aa b c a) e)),(bH (ak d (aa b c a) e d (aa b c a) e)),(bJ (ak d (aa b c a) e d (aa b c a) e)),(bP (ak d (aa b c a) e d (aa b c a) e))))
def PH:Nat×Bool×(List Int)×Nat×Nat×Int→aF:=fun (a,b,c,d,e,f)=>⟨ah 45 [(4,.ptr 0 1 0 0),(5,.int .i64 ((a:Nat):Int))],[(0,.vs [.bool false b,.imm .free (.ns .u64 c) 1 1 d e,.int .i64 f])],1⟩
def xp(f:Nat)(d:Bool)(a:List Int)(b:Nat)(c:Nat)(e:Int) :T ((Nat×Bool×(List Int)×Nat×Nat×Int)⊕(cN)) :=
  .ask (((f:Nat):Int) != (0:Int))
    (.leaf (.inr (.r0 f false ([]:List Int) 0 0 (0:Int))))
    (.need (aP b c a)<|.need (r7 (g9 d (aa b c a) e (-106:Int)))<|.leaf (.inl ((s4 (g9 d (aa b c a) e (-106:Int))),(s5 (g9 d (aa b c a) e (-106:Int))),(s6 (g9 d (aa b c a) e (-106:Int))),(s7 (g9 d (aa b c a) e (-106:Int))),(s8 (g9 d (aa b c a) e (-106:Int))),(s9 (g9 d (aa b c a) e (-106:Int))))))
def M4(a:Nat)(b:Bool)(c:List Int)(d:Nat)(e:Nat)(f:Int) :T ((Empty)⊕(cN)) :=
  .leaf (.inr (.r0 a b c d e f))
def cE(a:Int)(b:Int) :Option cN:=lB (aC ((Dv a b).run) fun (c,u) =>
  aC ((xn a b c).run) fun (d,e,f,g,h) =>
  aC ((xo d e f g h).run) fun (i,j,k,l,m,n) =>
  aC ((xp i j k l m n).run) fun (o,p,q,r,s,t) =>
  (M4 o p q r s t).run)
theorem PI(a:Int)(b:Int){x:cN}(h:cE a b=some x) :aj prog yD [] [.int .i64 a,.int .i64 b] (zF x) :=
  lO true zF GR h (Sg.cut 2 sf (bo fE (PE a b) [⟨[],[0],[0,1,4,22]⟩,⟨[],[0],[0,1,4,22]⟩,⟨[],[0],[0,1,4,22]⟩,⟨[],[0],[0,1,4,22]⟩]) (fun ⟨k,c⟩=>Sg.cut 2 sf (bo fE (PF c) [⟨[(.cell 0 1,.fre 1 1 (.ns .u64 ([]:List Int)))],[0],[4,5]⟩,⟨[],[0,113],[4,6]⟩]) (fun ⟨l,m,n,o,p⟩=>Sg.cut 1 sf (bo fE (PG c) [⟨[],[0,98],[4,7,8]⟩]) (fun ⟨q,r,s,t,u,v⟩=>Sg.cut 3 sf (bo fE PH [⟨[(.cell 0 1,.fre 1 1 (.ns .u64 ([]:List Int)))],[0],[4,5]⟩,⟨[],[0],[4,5]⟩]) (fun ⟨w,y,z,A,B,C⟩=>bo fE _ [⟨[],[0],[4,5]⟩])))))
    (fun x=>by cases x with | r0 d e f g i j=>exact lC [.agg [.bool false e,.imm .free (.ns .u64 f) 1 1 g i,.int .i64 j],.int .i64 ((d:Nat):Int)])
def nL:Option cN→Bool
  | some _=>true
  | none=>false
def oK:Option cN→Nat
  | some (.r0 x _ _ _ _ _)=>x
  | _=>0
def oL:Option cN→Bool
  | some (.r0 _ x _ _ _ _)=>x
  | _=>false
def oM:Option cN→List Int
  | some (.r0 _ _ x _ _ _)=>x
  | _=>[]
def oN:Option cN→Nat
  | some (.r0 _ _ _ x _ _)=>x
  | _=>0
def oO:Option cN→Nat
  | some (.r0 _ _ _ _ x _)=>x
  | _=>0
def oP:Option cN→Int
  | some (.r0 _ _ _ _ _ x)=>x
  | _=>0
theorem PJ{x:Option cN}(h:nL x=true) :x=some (.r0 (oK x) (oL x) (oM x) (oN x) (oO x) (oP x)):=by
  unfold nL at h
  split at h<;>first | rfl | (cases h;done) | (rename_i y;cases y;rfl)
def GS:aE:=bT yD (.cons (.int .i64) (.cons (.int .i64) .nil)) fun t=>(fun q=>[⟨zF (.r0 (oK q) (oL q) (oM q) (oN q) (oO q) (oP q)),[nL q]⟩]) (cE t.1 t.2.1)
theorem Kc:aO prog GS:=aJ fun t=>(aK (fun h=>PI t.1 t.2.1 (PJ h)) bb)
def GT:List aE:=GS::ws
theorem ln:bc prog (bh GT):=ap Kc fE
inductive dm where
  | r0 (a:Nat) (b:List Bool) (c:List (List Int)) (d:List Int)
def ul:dm→AE×aF
  | .r0 a b c d=>(.ret,⟨ah 26 [(2,.sl 0 3 3 0 a a)],[(0,.cols a [.cb b,.cns .u64 c,.ci .i64 d])],1⟩)
theorem sh:j9 ul:=by intro x;cases x<;>(intro h;cases h)
theorem PK(id:Nat) :mB id ul:=by intro x;cases x<;>(intro h;cases h)
def zG:dm→iK
  | .r0 a b c d=>⟨.imm .free (.cols a [.cb b,.cns .u64 c,.ci .i64 d]) 3 3 0 a,[]⟩
def PL:List Code:=cY (mV tQ)
def PM(b:Lv)(a:List Nat) :(List Bool)×(List (List Int))×(List Int)→aF:=fun (c,d,e)=>⟨ah 26 [(3,.sl 0 3 3 0 (List.length a) (List.length a)),(9,.imm b (.fl a) 1 1 0 (List.length a)),(10,.int .i64 (((List.length a):Nat):Int)),(11,.int .i64 (0:Int))],[(0,.cols (List.length a) [.cb c,.cns .u64 d,.ci .i64 e])],1⟩
def Dw(a:List Nat) :T (((List Bool)×(List (List Int))×(List Int))⊕(dm)) :=
  .need (decide ((0:Int)≤(((List.length a):Nat):Int)))<|.need (decide ((((List.length a):Nat):Int)≤(((List.length a):Nat):Int)))<|.need (decide ((40:Int)*(((List.length a):Nat):Int)≤140737488355328))<|.need (dI .i64 (((List.length a):Nat):Int))<|.leaf (.inl ((List.replicate (List.length a) false),(List.replicate (List.length a) []),(List.replicate (List.length a) (0:Int))))
def xq(b:Lv)(a:List Nat) :Nat×(List Bool)×(List (List Int))×(List Int)→aF:=fun (c,d,e,f)=>⟨ah 26 [(3,.sl 0 3 3 0 (List.length a) (List.length a)),(9,.imm b (.fl a) 1 1 0 (List.length a)),(10,.int .i64 (((List.length a):Nat):Int)),(11,.int .i64 ((c:Nat):Int))],[(0,.cols (List.length a) [.cb d,.cns .u64 e,.ci .i64 f])],1⟩
def Dx(a:List Nat) :(List Bool)×(List (List Int))×(List Int)→aF:=fun (b,c,d)=>⟨ah 26 [(3,.sl 0 3 3 0 (List.length a) (List.length a))],[(0,.cols (List.length a) [.cb b,.cns .u64 c,.ci .i64 d])],1⟩
def M5:List Code:=cY (d7 ((((PL.drop 3).take 1)).headD .skip))
def PN(b:Lv)(a:List Nat)(c:Nat) :(List Bool)×(List (List Int))×(List Int)→aF:=fun (d,e,f)=>⟨ah 26 [(3,.sl 0 3 3 0 (List.length a) (List.length a)),(9,.imm b (.fl a) 1 1 0 (List.length a)),(10,.int .i64 (((List.length a):Nat):Int)),(11,.int .i64 ((c:Nat):Int))],[(0,.cols (List.length a) [.cb d,.cns .u64 e,.ci .i64 f])],1⟩
def qt(b:List Nat)(a:Nat)(c:List Bool)(d:List (List Int))(e:List Int) :T (((List Bool)×(List (List Int))×(List Int))⊕(((List Bool)×(List (List Int))×(List Int))⊕(dm))) :=
  .ask (decide (((a:Nat):Int)<(((List.length b):Nat):Int)))
    (.need (gA ((a:Nat):Int) (List.length b))<|.need (gM a (List.length b))<|.need (u9 (jm (List.getD b a 0)))<|.need (gA ((a:Nat):Int) (List.length b))<|.need (gM a (List.length c))<|.need (gM a (List.length d))<|.need (decide ((qg (jm (List.getD b a 0)))+(qh (jm (List.getD b a 0)))≤List.length (qf (jm (List.getD b a 0)))))<|.need (gM a (List.length e))<|.leaf (.inl ((List.set c a (uf (jm (List.getD b a 0)))),(List.set d a (List.take (qh (jm (List.getD b a 0))) (List.drop (qg (jm (List.getD b a 0))) (qf (jm (List.getD b a 0)))))),(List.set e a (ug (jm (List.getD b a 0)))))))
    (.leaf (.inr (.inl (c,d,e))))
def M6(a:Nat)(b:List Bool)(c:List (List Int))(d:List Int) :T ((Nat×(List Bool)×(List (List Int))×(List Int))⊕(((List Bool)×(List (List Int))×(List Int))⊕(dm))) :=
  .need (dI .i64 (((a+1):Nat):Int))<|.leaf (.inl ((a+1),b,c,d))
def vm(b:List Nat) :Nat×(List Bool)×(List (List Int))×(List Int)→Option ((Nat×(List Bool)×(List (List Int))×(List Int))⊕(((List Bool)×(List (List Int))×(List Int))⊕(dm))):=fun (a,c,d,e) =>
  aC ((qt b a c d e).run) fun (f,g,h) =>
  (M6 a f g h).run
theorem M7(b:Lv)(a:List Nat)(c:Nat)(d:List Bool)(e:List (List Int))(f:List Int) :Sg prog [] M5 (xq b a (c,d,e,f)) (vm a (c,d,e,f)) (xq b a) (dH 0 (Dx a) ul):=by
  unfold vm;exact Sg.cut 3 (bB sh) (bo ln (PN b a c) [⟨[],[0],[3,9,10,11]⟩,⟨[],[0],[3]⟩]) (fun ⟨g,h,i⟩=>bo ln _ [⟨[],[0],[3,9,10,11]⟩])
def M8(a:List Nat)(b:List Bool)(c:List (List Int))(d:List Int) :T ((Empty)⊕(dm)) :=
  .leaf (.inr (.r0 (List.length a) b c d))
def am(a:List Nat) :Option dm:=lB (aC ((Dw a).run) fun (b,c,d) =>
  aC (df (vm a) (0,b,c,d)) fun (e,f,g) =>
  (M8 a e f g).run)
theorem PO(b:Lv)(a:List Nat){x:dm}(h:am a=some x) :aj prog tQ [] [.imm b (.fl a) 1 1 0 (List.length a)] (zG x) :=
  lO true zG ul h (Sg.cut 3 sh (bo ln (PM b a) [⟨[],[48],[3,9,10,11]⟩]) (fun ⟨i,j,k⟩=>Sg.cut 1 sh (Ej ⟨[],[0],[3,9,10,11]⟩ (xq b a) (Dx a) 0 sh (PK _) (fun ⟨d,e,f,g⟩=>M7 b a d e f g)) (fun ⟨l,m,n⟩=>bo ln _ [⟨[],[0],[2]⟩])))
    (fun x=>by cases x with | r0 c o p q=>exact lC [.sl 0 3 3 0 c c])
def fL:Option dm→Bool
  | some _=>true
  | none=>false
def aD:Option dm→Nat
  | some (.r0 x _ _ _)=>x
  | _=>0
def cj:Option dm→List Bool
  | some (.r0 _ x _ _)=>x
  | _=>[]
def ck:Option dm→List (List Int)
  | some (.r0 _ _ x _)=>x
  | _=>[]
def cm:Option dm→List Int
  | some (.r0 _ _ _ x)=>x
  | _=>[]
theorem PP{x:Option dm}(h:fL x=true) :x=some (.r0 (aD x) (cj x) (ck x) (cm x)):=by
  unfold fL at h
  split at h<;>first | rfl | (cases h;done) | (rename_i y;cases y;rfl)
def GU:aE:=bT tQ (.cons .fl .nil) fun t=>(fun q=>[⟨zG (.r0 (aD q) (cj q) (ck q) (cm q)),[fL q]⟩]) (am t.1.2)
theorem Kd:aO prog GU:=aJ fun t=>(aK (fun h=>PO t.1.1 t.1.2 (PP h)) bb)
def GV:List aE:=GU::GT
theorem jo:bc prog (bh GV):=ap Kd ln
inductive dC where
  | r0 (a:Nat) (b:Bool) (c:List Int) (d:Nat) (e:Nat) (f:Int)
def zH:dC→AE×aF
  | .r0 a b c d e f=>(.ret,⟨ah 51 [(4,.ptr 0 1 0 0),(5,.int .i64 ((a:Nat):Int))],[(0,.vs [.bool false b,.imm .free (.ns .u64 c) 1 1 d e,.int .i64 f])],1⟩)
theorem pF:j9 zH:=by intro x;cases x<;>(intro h;cases h)
theorem WT(id:Nat) :mB id zH:=by intro x;cases x<;>(intro h;cases h)
def EQ:dC→iK
  | .r0 a b c d e f=>⟨.tup [.agg [.bool false b,.imm .free (.ns .u64 c) 1 1 d e,.int .i64 f],.int .i64 ((a:Nat):Int)],[]⟩
def zI:List Code:=cY (mV yz)
def WU(c:Lv)(a:Nat)(d:List Bool)(e:List (List Int))(f:List Int)(g:Lv)(b:Nat)(h:List Bool)(i:List (List Int))(j:List Int)(k:Bool) :aF:=⟨ah 51 [(0,.imm c (.cols a [.cb d,.cns .u64 e,.ci .i64 f]) 3 3 0 a),(1,.imm g (.cols b [.cb h,.cns .u64 i,.ci .i64 j]) 3 3 0 b),(4,.ptr 0 1 0 0)],[(0,.vs [.bool false k,.nsl,.int .i64 (0:Int)])],1⟩
def Tr:T ((Bool)⊕(dC)) :=
  .leaf (.inl false)
def Ts:List Code:=cY (Co (((zI.drop 1)).headD .skip))
def WV(c:Lv)(a:Nat)(d:List Bool)(e:List (List Int))(f:List Int)(g:Lv)(b:Nat)(h:List Bool)(i:List (List Int))(j:List Int)(k:Bool)(l:Bool) :aF:=⟨ah 51 [(0,.imm c (.cols a [.cb d,.cns .u64 e,.ci .i64 f]) 3 3 0 a),(1,.imm g (.cols b [.cb h,.cns .u64 i,.ci .i64 j]) 3 3 0 b),(4,.ptr 0 1 0 0),(6,.ptr 1 1 0 0),(7,.int .i64 (0:Int)),(18,.int .i64 ((a:Nat):Int)),(19,.int .i64 (0:Int))],[(0,.vs [.bool false k,.nsl,.int .i64 (0:Int)]),(1,.vs [.bool false l,.nsl,.int .i64 (0:Int)])],2⟩
def Tt(a:Nat)(b:Nat) :T ((Bool)⊕(dC)) :=
  .ask (((a:Nat):Int) != ((b:Nat):Int))
    (.leaf (.inr (.r0 2 false ([]:List Int) 0 0 (0:Int))))
    (.leaf (.inl false))
def Bz(c:Lv)(a:Nat)(d:List Bool)(e:List (List Int))(f:List Int)(g:Lv)(b:Nat)(h:List Bool)(i:List (List Int))(j:List Int)(k:Bool) :Nat×Nat×Bool×(List Int)×Nat×Nat×Int→aF:=fun (l,m,n,o,p,q,r)=>⟨ah 51 [(0,.imm c (.cols a [.cb d,.cns .u64 e,.ci .i64 f]) 3 3 0 a),(1,.imm g (.cols b [.cb h,.cns .u64 i,.ci .i64 j]) 3 3 0 b),(4,.ptr 0 1 0 0),(6,.ptr 1 1 0 0),(7,.int .i64 ((l:Nat):Int)),(18,.int .i64 ((a:Nat):Int)),(19,.int .i64 ((m:Nat):Int))],[(0,.vs [.bool false k,.nsl,.int .i64 (0:Int)]),(1,.vs [.bool false n,.imm .free (.ns .u64 o) 1 1 p q,.int .i64 r])],2⟩
def GW(a:Bool) :Nat×Bool×(List Int)×Nat×Nat×Int→aF:=fun (b,c,d,e,f,g)=>⟨ah 51 [(4,.ptr 0 1 0 0),(6,.ptr 1 1 0 0),(7,.int .i64 ((b:Nat):Int))],[(0,.vs [.bool false a,.nsl,.int .i64 (0:Int)]),(1,.vs [.bool false c,.imm .free (.ns .u64 d) 1 1 e f,.int .i64 g])],2⟩
def Tu:List Code:=cY (d7 ((((Ts.drop 5).take 1)).headD .skip))
def Tv(c:Lv)(a:Nat)(d:List Bool)(e:List (List Int))(f:List Int)(g:Lv)(b:Nat)(h:List Bool)(i:List (List Int))(j:List Int)(k:Bool)(l:Nat) :Nat×Bool×(List Int)×Nat×Nat×Int→aF:=fun (m,n,o,p,q,r)=>⟨ah 51 [(0,.imm c (.cols a [.cb d,.cns .u64 e,.ci .i64 f]) 3 3 0 a),(1,.imm g (.cols b [.cb h,.cns .u64 i,.ci .i64 j]) 3 3 0 b),(4,.ptr 0 1 0 0),(6,.ptr 1 1 0 0),(7,.int .i64 ((m:Nat):Int)),(18,.int .i64 ((a:Nat):Int)),(19,.int .i64 ((l:Nat):Int))],[(0,.vs [.bool false k,.nsl,.int .i64 (0:Int)]),(1,.vs [.bool false n,.imm .free (.ns .u64 o) 1 1 p q,.int .i64 r])],2⟩
def zJ(m:Nat)(d:List Bool)(b:List (List Int))(e:List Int)(n:Nat)(f:List Bool)(c:List (List Int))(g:List Int)(o:Nat)(a:Nat)(k:Bool)(h:List Int)(i:Nat)(j:Nat)(l:Int) :T ((Nat×Bool×(List Int)×Nat×Nat×Int)⊕((Nat×Bool×(List Int)×Nat×Nat×Int)⊕(dC))) :=
  .ask (decide (((a:Nat):Int)<((m:Nat):Int)))
    (.need (gA ((a:Nat):Int) m)<|.need (gM a (List.length d))<|.need (gM a (List.length b))<|.need (gM a (List.length e))<|.need (gA ((a:Nat):Int) n)<|.need (gM a (List.length f))<|.need (gM a (List.length c))<|.need (gM a (List.length g))<|.need (aP 0 (List.length (List.getD b a [])) (List.getD b a []))<|.need (aP 0 (List.length (List.getD c a [])) (List.getD c a []))<|.need (ku (ak (List.getD d a false) (aa 0 (List.length (List.getD b a [])) (List.getD b a [])) (List.getD e a 0) (List.getD f a false) (aa 0 (List.length (List.getD c a [])) (List.getD c a [])) (List.getD g a 0)))<|.ask ((((iN (ak (List.getD d a false) (aa 0 (List.length (List.getD b a [])) (List.getD b a [])) (List.getD e a 0) (List.getD f a false) (aa 0 (List.length (List.getD c a [])) (List.getD c a [])) (List.getD g a 0))):Nat):Int) != (0:Int))
      (.leaf (.inr (.inl ((iN (ak (List.getD d a false) (aa 0 (List.length (List.getD b a [])) (List.getD b a [])) (List.getD e a 0) (List.getD f a false) (aa 0 (List.length (List.getD c a [])) (List.getD c a [])) (List.getD g a 0))),k,h,i,j,l))))
      (.need (aP i j h)<|.need (aP (bH (ak (List.getD d a false) (aa 0 (List.length (List.getD b a [])) (List.getD b a [])) (List.getD e a 0) (List.getD f a false) (aa 0 (List.length (List.getD c a [])) (List.getD c a [])) (List.getD g a 0))) (bJ (ak (List.getD d a false) (aa 0 (List.length (List.getD b a [])) (List.getD b a [])) (List.getD e a 0) (List.getD f a false) (aa 0 (List.length (List.getD c a [])) (List.getD c a [])) (List.getD g a 0))) (bG (ak (List.getD d a false) (aa 0 (List.length (List.getD b a [])) (List.getD b a [])) (List.getD e a 0) (List.getD f a false) (aa 0 (List.length (List.getD c a [])) (List.getD c a [])) (List.getD g a 0))))<|.need (sN (ch k (aa i j h) l (bO (ak (List.getD d a false) (aa 0 (List.length (List.getD b a [])) (List.getD b a [])) (List.getD e a 0) (List.getD f a false) (aa 0 (List.length (List.getD c a [])) (List.getD c a [])) (List.getD g a 0))) (aa (bH (ak (List.getD d a false) (aa 0 (List.length (List.getD b a [])) (List.getD b a [])) (List.getD e a 0) (List.getD f a false) (aa 0 (List.length (List.getD c a [])) (List.getD c a [])) (List.getD g a 0))) (bJ (ak (List.getD d a false) (aa 0 (List.length (List.getD b a [])) (List.getD b a [])) (List.getD e a 0) (List.getD f a false) (aa 0 (List.length (List.getD c a [])) (List.getD c a [])) (List.getD g a 0))) (bG (ak (List.getD d a false) (aa 0 (List.length (List.getD b a [])) (List.getD b a [])) (List.getD e a 0) (List.getD f a false) (aa 0 (List.length (List.getD c a [])) (List.getD c a [])) (List.getD g a 0)))) (bP (ak (List.getD d a false) (aa 0 (List.length (List.getD b a [])) (List.getD b a [])) (List.getD e a 0) (List.getD f a false) (aa 0 (List.length (List.getD c a [])) (List.getD c a [])) (List.getD g a 0)))))<|.ask ((((lE (ch k (aa i j h) l (bO (ak (List.getD d a false) (aa 0 (List.length (List.getD b a [])) (List.getD b a [])) (List.getD e a 0) (List.getD f a false) (aa 0 (List.length (List.getD c a [])) (List.getD c a [])) (List.getD g a 0))) (aa (bH (ak (List.getD d a false) (aa 0 (List.length (List.getD b a [])) (List.getD b a [])) (List.getD e a 0) (List.getD f a false) (aa 0 (List.length (List.getD c a [])) (List.getD c a [])) (List.getD g a 0))) (bJ (ak (List.getD d a false) (aa 0 (List.length (List.getD b a [])) (List.getD b a [])) (List.getD e a 0) (List.getD f a false) (aa 0 (List.length (List.getD c a [])) (List.getD c a [])) (List.getD g a 0))) (bG (ak (List.getD d a false) (aa 0 (List.length (List.getD b a [])) (List.getD b a [])) (List.getD e a 0) (List.getD f a false) (aa 0 (List.length (List.getD c a [])) (List.getD c a [])) (List.getD g a 0)))) (bP (ak (List.getD d a false) (aa 0 (List.length (List.getD b a [])) (List.getD b a [])) (List.getD e a 0) (List.getD f a false) (aa 0 (List.length (List.getD c a [])) (List.getD c a [])) (List.getD g a 0))))):Nat):Int) != (0:Int))
        (.leaf (.inr (.inl ((lE (ch k (aa i j h) l (bO (ak (List.getD d a false) (aa 0 (List.length (List.getD b a [])) (List.getD b a [])) (List.getD e a 0) (List.getD f a false) (aa 0 (List.length (List.getD c a [])) (List.getD c a [])) (List.getD g a 0))) (aa (bH (ak (List.getD d a false) (aa 0 (List.length (List.getD b a [])) (List.getD b a [])) (List.getD e a 0) (List.getD f a false) (aa 0 (List.length (List.getD c a [])) (List.getD c a [])) (List.getD g a 0))) (bJ (ak (List.getD d a false) (aa 0 (List.length (List.getD b a [])) (List.getD b a [])) (List.getD e a 0) (List.getD f a false) (aa 0 (List.length (List.getD c a [])) (List.getD c a [])) (List.getD g a 0))) (bG (ak (List.getD d a false) (aa 0 (List.length (List.getD b a [])) (List.getD b a [])) (List.getD e a 0) (List.getD f a false) (aa 0 (List.length (List.getD c a [])) (List.getD c a [])) (List.getD g a 0)))) (bP (ak (List.getD d a false) (aa 0 (List.length (List.getD b a [])) (List.getD b a [])) (List.getD e a 0) (List.getD f a false) (aa 0 (List.length (List.getD c a [])) (List.getD c a [])) (List.getD g a 0))))),(nv (ch k (aa i j h) l (bO (ak (List.getD d a false) (aa 0 (List.length (List.getD b a [])) (List.getD b a [])) (List.getD e a 0) (List.getD f a false) (aa 0 (List.length (List.getD c a [])) (List.getD c a [])) (List.getD g a 0))) (aa (bH (ak (List.getD d a false) (aa 0 (List.length (List.getD b a [])) (List.getD b a [])) (List.getD e a 0) (List.getD f a false) (aa 0 (List.length (List.getD c a [])) (List.getD c a [])) (List.getD g a 0))) (bJ (ak (List.getD d a false) (aa 0 (List.length (List.getD b a [])) (List.getD b a [])) (List.getD e a 0) (List.getD f a false) (aa 0 (List.length (List.getD c a [])) (List.getD c a [])) (List.getD g a 0))) (bG (ak (List.getD d a false) (aa 0 (List.length (List.getD b a [])) (List.getD b a [])) (List.getD e a 0) (List.getD f a false) (aa 0 (List.length (List.getD c a [])) (List.getD c a [])) (List.getD g a 0)))) (bP (ak (List.getD d a false) (aa 0 (List.length (List.getD b a [])) (List.getD b a [])) (List.getD e a 0) (List.getD f a false) (aa 0 (List.length (List.getD c a [])) (List.getD c a [])) (List.getD g a 0))))),(nw (ch k (aa i j h) l (bO (ak (List.getD d a false) (aa 0 (List.length (List.getD b a [])) (List.getD b a [])) (List.getD e a 0) (List.getD f a false) (aa 0 (List.length (List.getD c a [])) (List.getD c a [])) (List.getD g a 0))) (aa (bH (ak (List.getD d a false) (aa 0 (List.length (List.getD b a [])) (List.getD b a [])) (List.getD e a 0) (List.getD f a false) (aa 0 (List.length (List.getD c a [])) (List.getD c a [])) (List.getD g a 0))) (bJ (ak (List.getD d a false) (aa 0 (List.length (List.getD b a [])) (List.getD b a [])) (List.getD e a 0) (List.getD f a false) (aa 0 (List.length (List.getD c a [])) (List.getD c a [])) (List.getD g a 0))) (bG (ak (List.getD d a false) (aa 0 (List.length (List.getD b a [])) (List.getD b a [])) (List.getD e a 0) (List.getD f a false) (aa 0 (List.length (List.getD c a [])) (List.getD c a [])) (List.getD g a 0)))) (bP (ak (List.getD d a false) (aa 0 (List.length (List.getD b a [])) (List.getD b a [])) (List.getD e a 0) (List.getD f a false) (aa 0 (List.length (List.getD c a [])) (List.getD c a [])) (List.getD g a 0))))),(nA (ch k (aa i j h) l (bO (ak (List.getD d a false) (aa 0 (List.length (List.getD b a [])) (List.getD b a [])) (List.getD e a 0) (List.getD f a false) (aa 0 (List.length (List.getD c a [])) (List.getD c a [])) (List.getD g a 0))) (aa (bH (ak (List.getD d a false) (aa 0 (List.length (List.getD b a [])) (List.getD b a [])) (List.getD e a 0) (List.getD f a false) (aa 0 (List.length (List.getD c a [])) (List.getD c a [])) (List.getD g a 0))) (bJ (ak (List.getD d a false) (aa 0 (List.length (List.getD b a [])) (List.getD b a [])) (List.getD e a 0) (List.getD f a false) (aa 0 (List.length (List.getD c a [])) (List.getD c a [])) (List.getD g a 0))) (bG (ak (List.getD d a false) (aa 0 (List.length (List.getD b a [])) (List.getD b a [])) (List.getD e a 0) (List.getD f a false) (aa 0 (List.length (List.getD c a [])) (List.getD c a [])) (List.getD g a 0)))) (bP (ak (List.getD d a false) (aa 0 (List.length (List.getD b a [])) (List.getD b a [])) (List.getD e a 0) (List.getD f a false) (aa 0 (List.length (List.getD c a [])) (List.getD c a [])) (List.getD g a 0))))),(nB (ch k (aa i j h) l (bO (ak (List.getD d a false) (aa 0 (List.length (List.getD b a [])) (List.getD b a [])) (List.getD e a 0) (List.getD f a false) (aa 0 (List.length (List.getD c a [])) (List.getD c a [])) (List.getD g a 0))) (aa (bH (ak (List.getD d a false) (aa 0 (List.length (List.getD b a [])) (List.getD b a [])) (List.getD e a 0) (List.getD f a false) (aa 0 (List.length (List.getD c a [])) (List.getD c a [])) (List.getD g a 0))) (bJ (ak (List.getD d a false) (aa 0 (List.length (List.getD b a [])) (List.getD b a [])) (List.getD e a 0) (List.getD f a false) (aa 0 (List.length (List.getD c a [])) (List.getD c a [])) (List.getD g a 0))) (bG (ak (List.getD d a false) (aa 0 (List.length (List.getD b a [])) (List.getD b a [])) (List.getD e a 0) (List.getD f a false) (aa 0 (List.length (List.getD c a [])) (List.getD c a [])) (List.getD g a 0)))) (bP (ak (List.getD d a false) (aa 0 (List.length (List.getD b a [])) (List.getD b a [])) (List.getD e a 0) (List.getD f a false) (aa 0 (List.length (List.getD c a [])) (List.getD c a [])) (List.getD g a 0))))),(nC (ch k (aa i j h) l (bO (ak (List.getD d a false) (aa 0 (List.length (List.getD b a [])) (List.getD b a [])) (List.getD e a 0) (List.getD f a false) (aa 0 (List.length (List.getD c a [])) (List.getD c a [])) (List.getD g a 0))) (aa (bH (ak (List.getD d a false) (aa 0 (List.length (List.getD b a [])) (List.getD b a [])) (List.getD e a 0) (List.getD f a false) (aa 0 (List.length (List.getD c a [])) (List.getD c a [])) (List.getD g a 0))) (bJ (ak (List.getD d a false) (aa 0 (List.length (List.getD b a [])) (List.getD b a [])) (List.getD e a 0) (List.getD f a false) (aa 0 (List.length (List.getD c a [])) (List.getD c a [])) (List.getD g a 0))) (bG (ak (List.getD d a false) (aa 0 (List.length (List.getD b a [])) (List.getD b a [])) (List.getD e a 0) (List.getD f a false) (aa 0 (List.length (List.getD c a [])) (List.getD c a [])) (List.getD g a 0)))) (bP (ak (List.getD d a false) (aa 0 (List.length (List.getD b a [])) (List.getD b a [])) (List.getD e a 0) (List.getD f a false) (aa 0 (List.length (List.getD c a [])) (List.getD c a [])) (List.getD g a 0)))))))))
        (.leaf (.inl ((lE (ch k (aa i j h) l (bO (ak (List.getD d a false) (aa 0 (List.length (List.getD b a [])) (List.getD b a [])) (List.getD e a 0) (List.getD f a false) (aa 0 (List.length (List.getD c a [])) (List.getD c a [])) (List.getD g a 0))) (aa (bH (ak (List.getD d a false) (aa 0 (List.length (List.getD b a [])) (List.getD b a [])) (List.getD e a 0) (List.getD f a false) (aa 0 (List.length (List.getD c a [])) (List.getD c a [])) (List.getD g a 0))) (bJ (ak (List.getD d a false) (aa 0 (List.length (List.getD b a [])) (List.getD b a [])) (List.getD e a 0) (List.getD f a false) (aa 0 (List.length (List.getD c a [])) (List.getD c a [])) (List.getD g a 0))) (bG (ak (List.getD d a false) (aa 0 (List.length (List.getD b a [])) (List.getD b a [])) (List.getD e a 0) (List.getD f a false) (aa 0 (List.length (List.getD c a [])) (List.getD c a [])) (List.getD g a 0)))) (bP (ak (List.getD d a false) (aa 0 (List.length (List.getD b a [])) (List.getD b a [])) (List.getD e a 0) (List.getD f a false) (aa 0 (List.length (List.getD c a [])) (List.getD c a [])) (List.getD g a 0))))),(nv (ch k (aa i j h) l (bO (ak (List.getD d a false) (aa 0 (List.length (List.getD b a [])) (List.getD b a [])) (List.getD e a 0) (List.getD f a false) (aa 0 (List.length (List.getD c a [])) (List.getD c a [])) (List.getD g a 0))) (aa (bH (ak (List.getD d a false) (aa 0 (List.length (List.getD b a [])) (List.getD b a [])) (List.getD e a 0) (List.getD f a false) (aa 0 (List.length (List.getD c a [])) (List.getD c a [])) (List.getD g a 0))) (bJ (ak (List.getD d a false) (aa 0 (List.length (List.getD b a [])) (List.getD b a [])) (List.getD e a 0) (List.getD f a false) (aa 0 (List.length (List.getD c a [])) (List.getD c a [])) (List.getD g a 0))) (bG (ak (List.getD d a false) (aa 0 (List.length (List.getD b a [])) (List.getD b a [])) (List.getD e a 0) (List.getD f a false) (aa 0 (List.length (List.getD c a [])) (List.getD c a [])) (List.getD g a 0)))) (bP (ak (List.getD d a false) (aa 0 (List.length (List.getD b a [])) (List.getD b a [])) (List.getD e a 0) (List.getD f a false) (aa 0 (List.length (List.getD c a [])) (List.getD c a [])) (List.getD g a 0))))),(nw (ch k (aa i j h) l (bO (ak (List.getD d a false) (aa 0 (List.length (List.getD b a [])) (List.getD b a [])) (List.getD e a 0) (List.getD f a false) (aa 0 (List.length (List.getD c a [])) (List.getD c a [])) (List.getD g a 0))) (aa (bH (ak (List.getD d a false) (aa 0 (List.length (List.getD b a [])) (List.getD b a [])) (List.getD e a 0) (List.getD f a false) (aa 0 (List.length (List.getD c a [])) (List.getD c a [])) (List.getD g a 0))) (bJ (ak (List.getD d a false) (aa 0 (List.length (List.getD b a [])) (List.getD b a [])) (List.getD e a 0) (List.getD f a false) (aa 0 (List.length (List.getD c a [])) (List.getD c a [])) (List.getD g a 0))) (bG (ak (List.getD d a false) (aa 0 (List.length (List.getD b a [])) (List.getD b a [])) (List.getD e a 0) (List.getD f a false) (aa 0 (List.length (List.getD c a [])) (List.getD c a [])) (List.getD g a 0)))) (bP (ak (List.getD d a false) (aa 0 (List.length (List.getD b a [])) (List.getD b a [])) (List.getD e a 0) (List.getD f a false) (aa 0 (List.length (List.getD c a [])) (List.getD c a [])) (List.getD g a 0))))),(nA (ch k (aa i j h) l (bO (ak (List.getD d a false) (aa 0 (List.length (List.getD b a [])) (List.getD b a [])) (List.getD e a 0) (List.getD f a false) (aa 0 (List.length (List.getD c a [])) (List.getD c a [])) (List.getD g a 0))) (aa (bH (ak (List.getD d a false) (aa 0 (List.length (List.getD b a [])) (List.getD b a [])) (List.getD e a 0) (List.getD f a false) (aa 0 (List.length (List.getD c a [])) (List.getD c a [])) (List.getD g a 0))) (bJ (ak (List.getD d a false) (aa 0 (List.length (List.getD b a [])) (List.getD b a [])) (List.getD e a 0) (List.getD f a false) (aa 0 (List.length (List.getD c a [])) (List.getD c a [])) (List.getD g a 0))) (bG (ak (List.getD d a false) (aa 0 (List.length (List.getD b a [])) (List.getD b a [])) (List.getD e a 0) (List.getD f a false) (aa 0 (List.length (List.getD c a [])) (List.getD c a [])) (List.getD g a 0)))) (bP (ak (List.getD d a false) (aa 0 (List.length (List.getD b a [])) (List.getD b a [])) (List.getD e a 0) (List.getD f a false) (aa 0 (List.length (List.getD c a [])) (List.getD c a [])) (List.getD g a 0))))),(nB (ch k (aa i j h) l (bO (ak (List.getD d a false) (aa 0 (List.length (List.getD b a [])) (List.getD b a [])) (List.getD e a 0) (List.getD f a false) (aa 0 (List.length (List.getD c a [])) (List.getD c a [])) (List.getD g a 0))) (aa (bH (ak (List.getD d a false) (aa 0 (List.length (List.getD b a [])) (List.getD b a [])) (List.getD e a 0) (List.getD f a false) (aa 0 (List.length (List.getD c a [])) (List.getD c a [])) (List.getD g a 0))) (bJ (ak (List.getD d a false) (aa 0 (List.length (List.getD b a [])) (List.getD b a [])) (List.getD e a 0) (List.getD f a false) (aa 0 (List.length (List.getD c a [])) (List.getD c a [])) (List.getD g a 0))) (bG (ak (List.getD d a false) (aa 0 (List.length (List.getD b a [])) (List.getD b a [])) (List.getD e a 0) (List.getD f a false) (aa 0 (List.length (List.getD c a [])) (List.getD c a [])) (List.getD g a 0)))) (bP (ak (List.getD d a false) (aa 0 (List.length (List.getD b a [])) (List.getD b a [])) (List.getD e a 0) (List.getD f a false) (aa 0 (List.length (List.getD c a [])) (List.getD c a [])) (List.getD g a 0))))),(nC (ch k (aa i j h) l (bO (ak (List.getD d a false) (aa 0 (List.length (List.getD b a [])) (List.getD b a [])) (List.getD e a 0) (List.getD f a false) (aa 0 (List.length (List.getD c a [])) (List.getD c a [])) (List.getD g a 0))) (aa (bH (ak (List.getD d a false) (aa 0 (List.length (List.getD b a [])) (List.getD b a [])) (List.getD e a 0) (List.getD f a false) (aa 0 (List.length (List.getD c a [])) (List.getD c a [])) (List.getD g a 0))) (bJ (ak (List.getD d a false) (aa 0 (List.length (List.getD b a [])) (List.getD b a [])) (List.getD e a 0) (List.getD f a false) (aa 0 (List.length (List.getD c a [])) (List.getD c a [])) (List.getD g a 0))) (bG (ak (List.getD d a false) (aa 0 (List.length (List.getD b a [])) (List.getD b a [])) (List.getD e a 0) (List.getD f a false) (aa 0 (List.length (List.getD c a [])) (List.getD c a [])) (List.getD g a 0)))) (bP (ak (List.getD d a false) (aa 0 (List.length (List.getD b a [])) (List.getD b a [])) (List.getD e a 0) (List.getD f a false) (aa 0 (List.length (List.getD c a [])) (List.getD c a [])) (List.getD g a 0))))))))))
    (.leaf (.inr (.inl (o,k,h,i,j,l))))
def Tw(a:Nat)(b:Nat)(c:Bool)(d:List Int)(e:Nat)(f:Nat)(g:Int) :T ((Nat×Nat×Bool×(List Int)×Nat×Nat×Int)⊕((Nat×Bool×(List Int)×Nat×Nat×Int)⊕(dC))) :=
  .need (dI .i64 (((a+1):Nat):Int))<|.leaf (.inl (b,(a+1),c,d,e,f,g))
def um(b:Nat)(c:List Bool)(d:List (List Int))(e:List Int)(f:Nat)(g:List Bool)(h:List (List Int))(i:List Int) :Nat×Nat×Bool×(List Int)×Nat×Nat×Int→Option ((Nat×Nat×Bool×(List Int)×Nat×Nat×Int)⊕((Nat×Bool×(List Int)×Nat×Nat×Int)⊕(dC))):=fun (j,a,k,l,m,n,o) =>
  aC ((zJ b c d e f g h i j a k l m n o).run) fun (p,q,r,s,t,u) =>
  (Tw a p q r s t u).run
theorem Tx(j:Lv)(a:Nat)(b:List Bool)(c:List (List Int))(d:List Int)(k:Lv)(e:Nat)(f:List Bool)(g:List (List Int))(h:List Int)(i:Bool)(m:Nat)(l:Nat)(n:Bool)(o:List Int)(p:Nat)(q:Nat)(r:Int) :Sg prog [] Tu (Bz j a b c d k e f g h i (m,l,n,o,p,q,r)) (um a b c d e f g h (m,l,n,o,p,q,r)) (Bz j a b c d k e f g h i) (dH 0 (GW i) zH):=by
  unfold um;exact Sg.cut 3 (bB pF) (bo jo (Tv j a b c d k e f g h i l) [⟨[],[0,1],[4,6,7]⟩,⟨[],[0,1],[4,6,7]⟩,⟨[],[0,1],[0,1,4,6,7,18,19]⟩,⟨[],[0,1],[4,6,7]⟩]) (fun ⟨s,t,u,v,w,x⟩=>bo jo _ [⟨[],[0,1],[0,1,4,6,7,18,19]⟩])
def Tz(a:Nat)(b:Bool)(c:List Int)(d:Nat)(e:Nat)(f:Int) :T ((Empty)⊕(dC)) :=
  .ask (((a:Nat):Int) != (0:Int))
    (.leaf (.inr (.r0 a false ([]:List Int) 0 0 (0:Int))))
    (.leaf (.inr (.r0 0 b c d e f)))
def cu(a:Nat)(c:List Bool)(d:List (List Int))(e:List Int)(b:Nat)(f:List Bool)(g:List (List Int))(h:List Int) :Option dC:=lB (aC ((Tr).run) fun p =>
  aC ((Tt a b).run) fun i =>
  aC (df (um a c d e b f g h) (0,0,i,([]:List Int),0,0,(0:Int))) fun (j,k,l,m,n,o) =>
  (Tz j k l m n o).run)
theorem WW(j:Lv)(a:Nat)(c:List Bool)(d:List (List Int))(e:List Int)(k:Lv)(b:Nat)(f:List Bool)(g:List (List Int))(i:List Int){x:dC}(h:cu a c d e b f g i=some x) :aj prog yz [] [.imm j (.cols a [.cb c,.cns .u64 d,.ci .i64 e]) 3 3 0 a,.imm k (.cols b [.cb f,.cns .u64 g,.ci .i64 i]) 3 3 0 b] (EQ x) :=
  lO true EQ zH h (Sg.cut 1 pF (bo jo (WU j a c d e k b f g i) [⟨[],[0],[0,1,4]⟩]) (fun l=>Ee (by kernel_rfl:(zI.drop 1)=[.scope (Co (((zI.drop 1)).headD .skip))]) pF (Sg.cut 5 pF (bo jo (WV j a c d e k b f g i l) [⟨[(.cell 0 1,.fre 1 1 (.ns .u64 ([]:List Int)))],[0],[4,5]⟩,⟨[],[0,81],[0,1,4,6,7,18,19]⟩]) (fun A=>Sg.cut 1 pF (Ej ⟨[(.cell 1 1,.fre 1 1 (.ns .u64 ([]:List Int)))],[0,1],[0,1,4,6,7,18,19]⟩ (Bz j a c d e k b f g i l) (GW l) 0 pF (WT _) (fun ⟨m,n,o,p,q,r,s⟩=>Tx j a c d e k b f g i l m n o p q r s)) (fun ⟨B,C,D,E,F,G⟩=>bo jo _ [⟨[(.cell 0 1,.fre 1 1 (.ns .u64 ([]:List Int)))],[0],[4,5]⟩,⟨[],[0],[4,5]⟩])))))
    (fun x=>by cases x with | r0 t u v w y z=>exact lC [.agg [.bool false u,.imm .free (.ns .u64 v) 1 1 w y,.int .i64 z],.int .i64 ((t:Nat):Int)])
def pG:Option dC→Bool
  | some _=>true
  | none=>false
def nN:Option dC→Nat
  | some (.r0 x _ _ _ _ _)=>x
  | _=>0
def nO:Option dC→Bool
  | some (.r0 _ x _ _ _ _)=>x
  | _=>false
def nP:Option dC→List Int
  | some (.r0 _ _ x _ _ _)=>x
  | _=>[]
def nQ:Option dC→Nat
  | some (.r0 _ _ _ x _ _)=>x
  | _=>0
def nR:Option dC→Nat
  | some (.r0 _ _ _ _ x _)=>x
  | _=>0
def nT:Option dC→Int
  | some (.r0 _ _ _ _ _ x)=>x
  | _=>0
theorem WX{x:Option dC}(h:pG x=true) :x=some (.r0 (nN x) (nO x) (nP x) (nQ x) (nR x) (nT x)):=by
  unfold pG at h
  split at h<;>first | rfl | (cases h;done) | (rename_i y;cases y;rfl)
def M9:aE:=bT yz (.cons (.cols [.cb,.cns .u64,.ci .i64]) (.cons (.cols [.cb,.cns .u64,.ci .i64]) .nil)) fun t=>(fun q=>[⟨EQ (.r0 (nN q) (nO q) (nP q) (nQ q) (nR q) (nT q)),[pG q]⟩]) (cu t.1.2.1 t.1.2.2.1 t.1.2.2.2.1 t.1.2.2.2.2.1 t.2.1.2.1 t.2.1.2.2.1 t.2.1.2.2.2.1 t.2.1.2.2.2.2.1)
theorem PQ:aO prog M9:=aJ fun t=>(aK (fun h=>WW t.1.1 t.1.2.1 t.1.2.2.1 t.1.2.2.2.1 t.1.2.2.2.2.1 t.2.1.1 t.2.1.2.1 t.2.1.2.2.1 t.2.1.2.2.2.1 t.2.1.2.2.2.2.1 (WX h)) bb)
def Na:List aE:=M9::GV
theorem xr:bc prog (bh Na):=ap PQ jo
inductive cO where
  | r0 (a:Nat) (b:Bool) (c:List Int) (d:Nat) (e:Nat) (f:Int)
def BA:cO→AE×aF
  | .r0 a b c d e f=>(.ret,⟨ah 9 [(2,.ptr 0 1 0 0),(3,.int .i64 ((a:Nat):Int))],[(0,.vs [.bool false b,.imm .free (.ns .u64 c) 1 1 d e,.int .i64 f])],1⟩)
theorem Ke:j9 BA:=by intro x;cases x<;>(intro h;cases h)
def vn:cO→iK
  | .r0 a b c d e f=>⟨.tup [.agg [.bool false b,.imm .free (.ns .u64 c) 1 1 d e,.int .i64 f],.int .i64 ((a:Nat):Int)],[]⟩
def Kf:Nat×Bool×(List Int)×Nat×Nat×Int→aF:=fun (a,b,c,d,e,f)=>⟨ah 9 [(2,.ptr 0 1 0 0),(3,.int .i64 ((a:Nat):Int))],[(0,.vs [.bool false b,.imm .free (.ns .u64 c) 1 1 d e,.int .i64 f])],1⟩
def Ac(a:Nat)(b:List Bool)(c:List (List Int))(d:List Int) :T ((Nat×Bool×(List Int)×Nat×Nat×Int)⊕(cO)) :=
  .need (Nat.ble (0+a) a)<|.need (Nat.ble (0+a) a)<|.need (pG (cu a (aa 0 a b) (aa 0 a c) (aa 0 a d) a (aa 0 a b) (aa 0 a c) (aa 0 a d)))<|.leaf (.inl ((nN (cu a (aa 0 a b) (aa 0 a c) (aa 0 a d) a (aa 0 a b) (aa 0 a c) (aa 0 a d))),(nO (cu a (aa 0 a b) (aa 0 a c) (aa 0 a d) a (aa 0 a b) (aa 0 a c) (aa 0 a d))),(nP (cu a (aa 0 a b) (aa 0 a c) (aa 0 a d) a (aa 0 a b) (aa 0 a c) (aa 0 a d))),(nQ (cu a (aa 0 a b) (aa 0 a c) (aa 0 a d) a (aa 0 a b) (aa 0 a c) (aa 0 a d))),(nR (cu a (aa 0 a b) (aa 0 a c) (aa 0 a d) a (aa 0 a b) (aa 0 a c) (aa 0 a d))),(nT (cu a (aa 0 a b) (aa 0 a c) (aa 0 a d) a (aa 0 a b) (aa 0 a c) (aa 0 a d)))))
def Kg(a:Nat)(b:Bool)(c:List Int)(d:Nat)(e:Nat)(f:Int) :T ((Empty)⊕(cO)) :=
  .leaf (.inr (.r0 a b c d e f))
def bk(a:Nat)(b:List Bool)(c:List (List Int))(d:List Int) :Option cO:=lB (aC ((Ac a b c d).run) fun (e,f,g,h,i,j) =>
  (Kg e f g h i j).run)
theorem Kh(e:Lv)(a:Nat)(b:List Bool)(c:List (List Int))(d:List Int){x:cO}(h:bk a b c d=some x) :aj prog uP [] [.imm e (.cols a [.cb b,.cns .u64 c,.ci .i64 d]) 3 3 0 a] (vn x) :=
  lO true vn BA h (Sg.cut 2 Ke (bo xr Kf [⟨[],[0],[2,3]⟩]) (fun ⟨m,n,o,p,q,r⟩=>bo xr _ [⟨[],[0],[2,3]⟩]))
    (fun x=>by cases x with | r0 f g i j k l=>exact lC [.agg [.bool false g,.imm .free (.ns .u64 i) 1 1 j k,.int .i64 l],.int .i64 ((f:Nat):Int)])
def jp:Option cO→Bool
  | some _=>true
  | none=>false
def jG:Option cO→Nat
  | some (.r0 x _ _ _ _ _)=>x
  | _=>0
def jH:Option cO→Bool
  | some (.r0 _ x _ _ _ _)=>x
  | _=>false
def jI:Option cO→List Int
  | some (.r0 _ _ x _ _ _)=>x
  | _=>[]
def jJ:Option cO→Nat
  | some (.r0 _ _ _ x _ _)=>x
  | _=>0
def jK:Option cO→Nat
  | some (.r0 _ _ _ _ x _)=>x
  | _=>0
def jL:Option cO→Int
  | some (.r0 _ _ _ _ _ x)=>x
  | _=>0
theorem Ki{x:Option cO}(h:jp x=true) :x=some (.r0 (jG x) (jH x) (jI x) (jJ x) (jK x) (jL x)):=by
  unfold jp at h
  split at h<;>first | rfl | (cases h;done) | (rename_i y;cases y;rfl)
def BB:aE:=bT uP (.cons (.cols [.cb,.cns .u64,.ci .i64]) .nil) fun t=>(fun q=>[⟨vn (.r0 (jG q) (jH q) (jI q) (jJ q) (jK q) (jL q)),[jp q]⟩]) (bk t.1.2.1 t.1.2.2.1 t.1.2.2.2.1 t.1.2.2.2.2.1)
theorem GX:aO prog BB:=aJ fun t=>(aK (fun h=>Kh t.1.1 t.1.2.1 t.1.2.2.1 t.1.2.2.2.1 t.1.2.2.2.2.1 (Ki h)) bb)
def BC:List aE:=BB::Na
theorem lN:bc prog (bh BC):=ap GX xr
inductive dS where
  | r0 (a:Nat) (b:Bool) (c:List Int) (d:Nat) (e:Nat) (f:Int)
def Jx:dS→AE×aF
  | .r0 a b c d e f=>(.ret,⟨ah 23 [(2,.ptr 0 1 0 0),(3,.int .i64 ((a:Nat):Int))],[(0,.vs [.bool false b,.imm .free (.ns .u64 c) 1 1 d e,.int .i64 f])],1⟩)
theorem GY:j9 Jx:=by intro x;cases x<;>(intro h;cases h)
def BD:dS→iK
  | .r0 a b c d e f=>⟨.tup [.agg [.bool false b,.imm .free (.ns .u64 c) 1 1 d e,.int .i64 f],.int .i64 ((a:Nat):Int)],[]⟩
def TA(b:Int)(c:Int)(d:Lv)(a:List Nat)(e:Bool) :aF:=⟨ah 23 [(1,.ptr 0 1 0 0),(2,.ptr 1 1 0 0)],[(0,.vs [.int .i64 b,.int .i64 c,.imm d (.fl a) 1 1 0 (List.length a)]),(1,.vs [.bool false e,.nsl,.int .i64 (0:Int)])],2⟩
def GZ(b : Int)(c : Int)(a : List Nat) : T ((Bool) ⊕ (dS)) :=
  .ask (decide ((0:Int)<(1:Int)))
    (.need (gA (0:Int) 1)<|.need (aP 0 (List.length a) a)<|.need (fK (cM b c (aa 0 (List.length a) a)))<|.ask (fg (cM b c (aa 0 (List.length a) a)))
      (.ask (!(!(decide ((0:Int)≥(0:Int)))))
        (.leaf (.inr (.r0 2 false ([]:List Int) 0 0 (0:Int))))
        (.fail))
      (.need (dI .i64 (1:Int))<|.ask (decide ((1:Int)<(1:Int)))
        (.fail)
        (.ask (!(!(decide ((-1:Int)≥(0:Int)))))
          (.fail)
          (.ask (decide ((0:Int)<(1:Int)))
            (.need (gA (0:Int) 1)<|.need (aP 0 (List.length a) a)<|.need (aI (ao (aa 0 (List.length a) a)))<|.ask (decide ((aL (ao (aa 0 (List.length a) a)))≥(0:Int)))
              (.leaf (.inr (.r0 10 false ([]:List Int) 0 0 (0:Int))))
              (.need (dI .i64 (1:Int))<|.ask (decide ((1:Int)<(1:Int)))
                (.fail)
                (.leaf (.inl false))))
            (.fail)))))
    (.fail)
def TB:Nat×Bool×(List Int)×Nat×Nat×Int→aF:=fun (a,b,c,d,e,f)=>⟨ah 23 [(2,.ptr 0 1 0 0),(3,.int .i64 ((a:Nat):Int))],[(0,.vs [.bool false b,.imm .free (.ns .u64 c) 1 1 d e,.int .i64 f])],1⟩
def G0(a:List Nat) :T ((Nat×Bool×(List Int)×Nat×Nat×Int)⊕(dS)) :=
  .need (aP 0 (List.length a) a)<|.need (fL (am (aa 0 (List.length a) a)))<|.need (Nat.ble (0+(aD (am (aa 0 (List.length a) a)))) (aD (am (aa 0 (List.length a) a))))<|.need (jp (bk (aD (am (aa 0 (List.length a) a))) (aa 0 (aD (am (aa 0 (List.length a) a))) (cj (am (aa 0 (List.length a) a)))) (aa 0 (aD (am (aa 0 (List.length a) a))) (ck (am (aa 0 (List.length a) a)))) (aa 0 (aD (am (aa 0 (List.length a) a))) (cm (am (aa 0 (List.length a) a))))))<|.leaf (.inl ((jG (bk (aD (am (aa 0 (List.length a) a))) (aa 0 (aD (am (aa 0 (List.length a) a))) (cj (am (aa 0 (List.length a) a)))) (aa 0 (aD (am (aa 0 (List.length a) a))) (ck (am (aa 0 (List.length a) a)))) (aa 0 (aD (am (aa 0 (List.length a) a))) (cm (am (aa 0 (List.length a) a)))))),(jH (bk (aD (am (aa 0 (List.length a) a))) (aa 0 (aD (am (aa 0 (List.length a) a))) (cj (am (aa 0 (List.length a) a)))) (aa 0 (aD (am (aa 0 (List.length a) a))) (ck (am (aa 0 (List.length a) a)))) (aa 0 (aD (am (aa 0 (List.length a) a))) (cm (am (aa 0 (List.length a) a)))))),(jI (bk (aD (am (aa 0 (List.length a) a))) (aa 0 (aD (am (aa 0 (List.length a) a))) (cj (am (aa 0 (List.length a) a)))) (aa 0 (aD (am (aa 0 (List.length a) a))) (ck (am (aa 0 (List.length a) a)))) (aa 0 (aD (am (aa 0 (List.length a) a))) (cm (am (aa 0 (List.length a) a)))))),(jJ (bk (aD (am (aa 0 (List.length a) a))) (aa 0 (aD (am (aa 0 (List.length a) a))) (cj (am (aa 0 (List.length a) a)))) (aa 0 (aD (am (aa 0 (List.length a) a))) (ck (am (aa 0 (List.length a) a)))) (aa 0 (aD (am (aa 0 (List.length a) a))) (cm (am (aa 0 (List.length a) a)))))),(jK (bk (aD (am (aa 0 (List.length a) a))) (aa 0 (aD (am (aa 0 (List.length a) a))) (cj (am (aa 0 (List.length a) a)))) (aa 0 (aD (am (aa 0 (List.length a) a))) (ck (am (aa 0 (List.length a) a)))) (aa 0 (aD (am (aa 0 (List.length a) a))) (cm (am (aa 0 (List.length a) a)))))),(jL (bk (aD (am (aa 0 (List.length a) a))) (aa 0 (aD (am (aa 0 (List.length a) a))) (cj (am (aa 0 (List.length a) a)))) (aa 0 (aD (am (aa 0 (List.length a) a))) (ck (am (aa 0 (List.length a) a)))) (aa 0 (aD (am (aa 0 (List.length a) a))) (cm (am (aa 0 (List.length a) a))))))))
def TC(a:Nat)(b:Bool)(c:List Int)(d:Nat)(e:Nat)(f:Int) :T ((Empty)⊕(dS)) :=
  .leaf (.inr (.r0 a b c d e f))
def c7(b:Int)(c:Int)(a:List Nat) :Option dS:=lB (aC ((GZ b c a).run) fun j =>
  aC ((G0 a).run) fun (d,e,f,g,h,i) =>
  (TC d e f g h i).run)
theorem TD(b:Int)(c:Int)(d:Lv)(a:List Nat){x:dS}(h:c7 b c a=some x) :aj prog AJ [] [.agg [.int .i64 b,.int .i64 c,.imm d (.fl a) 1 1 0 (List.length a)]] (BD x) :=
  lO true BD Jx h (Sg.cut 2 GY (bo lN (TA b c d a) [⟨[(.cell 16 1,.fre 1 1 (.ns .u64 ([]:List Int)))],[16],[2,3]⟩,⟨[(.cell 16 1,.fre 1 1 (.ns .u64 ([]:List Int)))],[16],[2,3]⟩,⟨[],[0,16],[1,2]⟩]) (fun l=>Sg.cut 1 GY (bo lN TB [⟨[],[1],[2,3]⟩]) (fun ⟨m,n,o,p,q,r⟩=>bo lN _ [⟨[],[0],[2,3]⟩])))
    (fun x=>by cases x with | r0 e f g i j k=>exact lC [.agg [.bool false f,.imm .free (.ns .u64 g) 1 1 i j,.int .i64 k],.int .i64 ((e:Nat):Int)])
def qu:Option dS→Bool
  | some _=>true
  | none=>false
def qv:Option dS→Nat
  | some (.r0 x _ _ _ _ _)=>x
  | _=>0
def qw:Option dS→Bool
  | some (.r0 _ x _ _ _ _)=>x
  | _=>false
def qx:Option dS→List Int
  | some (.r0 _ _ x _ _ _)=>x
  | _=>[]
def qy:Option dS→Nat
  | some (.r0 _ _ _ x _ _)=>x
  | _=>0
def qz:Option dS→Nat
  | some (.r0 _ _ _ _ x _)=>x
  | _=>0
def qA:Option dS→Int
  | some (.r0 _ _ _ _ _ x)=>x
  | _=>0
theorem TE{x:Option dS}(h:qu x=true) :x=some (.r0 (qv x) (qw x) (qx x) (qy x) (qz x) (qA x)):=by
  unfold qu at h
  split at h<;>first | rfl | (cases h;done) | (rename_i y;cases y;rfl)
def Jy:aE:=bT AJ (.cons (.agg (.cons (.int .i64) (.cons (.int .i64) (.cons .fl .nil)))) .nil) fun t=>(fun q=>[⟨BD (.r0 (qv q) (qw q) (qx q) (qy q) (qz q) (qA q)),[qu q]⟩]) (c7 t.1.1 t.1.2.1 t.1.2.2.1.2)
theorem Nb:aO prog Jy:=aJ fun t=>(aK (fun h=>TD t.1.1 t.1.2.1 t.1.2.2.1.1 t.1.2.2.1.2 (TE h)) bb)
def Jz:List aE:=Jy::BC
theorem qB:bc prog (bh Jz):=ap Nb lN
inductive eB where
  | r0 (a:Nat) (b:List Bool) (c:List (List Int)) (d:List Int)
def wt:eB→AE×aF
  | .r0 a b c d=>(.ret,⟨ah 31 [(8,.sl 0 3 3 0 a a)],[(0,.cols a [.cb b,.cns .u64 c,.ci .i64 d])],1⟩)
theorem zK:j9 wt:=by intro x;cases x<;>(intro h;cases h)
theorem TF(id:Nat) :mB id wt:=by intro x;cases x<;>(intro h;cases h)
def BE:eB→iK
  | .r0 a b c d=>⟨.imm .free (.cols a [.cb b,.cns .u64 c,.ci .i64 d]) 3 3 0 a,[]⟩
def TG:List Code:=cY (mV vW)
def TH(c:Lv)(b:Nat)(d:List Bool)(e:List (List Int))(f:List Int)(g:Int)(h:Int) :Nat×Nat×(List Bool)×(List (List Int))×(List Int)→aF:=fun (a,i,j,k,l)=>⟨ah 31 [(0,.imm c (.cols b [.cb d,.cns .u64 e,.ci .i64 f]) 3 3 0 b),(1,.int .i64 g),(2,.int .i64 h),(9,.sl 0 3 3 0 a a),(14,.int .i64 ((i:Nat):Int)),(15,.int .i64 (0:Int))],[(0,.cols a [.cb j,.cns .u64 k,.ci .i64 l])],1⟩
def G1(a:Int) :T ((Nat×Nat×(List Bool)×(List (List Int))×(List Int))⊕(eB)) :=
  .need (decide ((0:Int)≤a))<|.need (decide (a≤a))<|.need (decide ((40:Int)*a≤140737488355328))<|.need (dI .i64 a)<|.leaf (.inl ((Int.toNat a),(Int.toNat a),(List.replicate (Int.toNat a) false),(List.replicate (Int.toNat a) []),(List.replicate (Int.toNat a) (0:Int))))
def zL(c:Lv)(b:Nat)(d:List Bool)(e:List (List Int))(f:List Int)(g:Int)(h:Int)(a:Nat)(i:Nat) :Nat×(List Bool)×(List (List Int))×(List Int)→aF:=fun (j,k,l,m)=>⟨ah 31 [(0,.imm c (.cols b [.cb d,.cns .u64 e,.ci .i64 f]) 3 3 0 b),(1,.int .i64 g),(2,.int .i64 h),(9,.sl 0 3 3 0 a a),(14,.int .i64 ((i:Nat):Int)),(15,.int .i64 ((j:Nat):Int))],[(0,.cols a [.cb k,.cns .u64 l,.ci .i64 m])],1⟩
def G2(a:Nat) :(List Bool)×(List (List Int))×(List Int)→aF:=fun (b,c,d)=>⟨ah 31 [(9,.sl 0 3 3 0 a a)],[(0,.cols a [.cb b,.cns .u64 c,.ci .i64 d])],1⟩
def TI:List Code:=cY (d7 ((((TG.drop 3).take 1)).headD .skip))
def un(j:Nat)(h:List Bool)(d:List (List Int))(i:List Int)(c:Int)(b:Int)(k:Nat)(l:Nat)(a:Nat)(e:List Bool)(f:List (List Int))(g:List Int) :T ((Nat×(List Bool)×(List (List Int))×(List Int))⊕(((List Bool)×(List (List Int))×(List Int))⊕(eB))) :=
  .ask (decide (((a:Nat):Int)<((l:Nat):Int)))
    (.need (dI .i64 (((a:Nat):Int)*b))<|.need (dI .i64 (c+(((a:Nat):Int)*b)))<|.need (gA (c+(((a:Nat):Int)*b)) j)<|.need (gM (Int.toNat (c+(((a:Nat):Int)*b))) (List.length h))<|.need (gM (Int.toNat (c+(((a:Nat):Int)*b))) (List.length d))<|.need (gM (Int.toNat (c+(((a:Nat):Int)*b))) (List.length i))<|.need (gA ((a:Nat):Int) k)<|.need (gM a (List.length e))<|.need (gM a (List.length f))<|.need (decide (0+(List.length (List.getD d (Int.toNat (c+(((a:Nat):Int)*b))) []))≤List.length (List.getD d (Int.toNat (c+(((a:Nat):Int)*b))) [])))<|.need (gM a (List.length g))<|.need (dI .i64 (((a+1):Nat):Int))<|.leaf (.inl ((a+1),(List.set e a (List.getD h (Int.toNat (c+(((a:Nat):Int)*b))) false)),(List.set f a (List.take (List.length (List.getD d (Int.toNat (c+(((a:Nat):Int)*b))) [])) (List.drop 0 (List.getD d (Int.toNat (c+(((a:Nat):Int)*b))) [])))),(List.set g a (List.getD i (Int.toNat (c+(((a:Nat):Int)*b))) 0)))))
    (.leaf (.inr (.inl (e,f,g))))
def xt(a:Nat)(b:List Bool)(c:List (List Int))(d:List Int)(e:Int)(f:Int)(g:Nat)(h:Nat) :Nat×(List Bool)×(List (List Int))×(List Int)→Option ((Nat×(List Bool)×(List (List Int))×(List Int))⊕(((List Bool)×(List (List Int))×(List Int))⊕(eB))):=fun (i,j,k,l) =>
  (un a b c d e f g h i j k l).run
theorem PR(i:Lv)(b:Nat)(c:List Bool)(d:List (List Int))(e:List Int)(f:Int)(g:Int)(a:Nat)(h:Nat)(j:Nat)(k:List Bool)(l:List (List Int))(m:List Int) :Sg prog [] TI (zL i b c d e f g a h (j,k,l,m)) (xt b c d e f g a h (j,k,l,m)) (zL i b c d e f g a h) (dH 0 (G2 a) wt):=by
  unfold xt;exact bo qB _ [⟨[],[0],[0,1,2,9,14,15]⟩,⟨[],[0],[9]⟩]
def PS(a:Nat)(b:List Bool)(c:List (List Int))(d:List Int) :T ((Empty)⊕(eB)) :=
  .leaf (.inr (.r0 a b c d))
def ab(b:Nat)(c:List Bool)(d:List (List Int))(e:List Int)(f:Int)(g:Int)(h:Int) :Option eB:=lB (aC ((G1 h).run) fun (a,i,j,k,l) =>
  aC (df (xt b c d e f g a i) (0,j,k,l)) fun (m,n,o) =>
  (PS a m n o).run)
theorem TJ(g:Lv)(a:Nat)(b:List Bool)(c:List (List Int))(d:List Int)(e:Int)(f:Int)(j:Int){x:eB}(h:ab a b c d e f j=some x) :aj prog vW [] [.imm g (.cols a [.cb b,.cns .u64 c,.ci .i64 d]) 3 3 0 a,.int .i64 e,.int .i64 f,.int .i64 j] (BE x) :=
  lO true BE wt h (Sg.cut 3 zK (bo qB (TH g a b c d e f) [⟨[],[32],[0,1,2,9,14,15]⟩]) (fun ⟨i,k,q,r,s⟩=>Sg.cut 1 zK (Ej ⟨[],[0],[0,1,2,9,14,15]⟩ (zL g a b c d e f i k) (G2 i) 0 zK (TF _) (fun ⟨m,n,o,p⟩=>PR g a b c d e f i k m n o p)) (fun ⟨t,u,v⟩=>bo qB _ [⟨[],[0],[8]⟩])))
    (fun x=>by cases x with | r0 l w y z=>exact lC [.sl 0 3 3 0 l l])
def iH:Option eB→Bool
  | some _=>true
  | none=>false
def ac:Option eB→Nat
  | some (.r0 x _ _ _)=>x
  | _=>0
def aV:Option eB→List Bool
  | some (.r0 _ x _ _)=>x
  | _=>[]
def aW:Option eB→List (List Int)
  | some (.r0 _ _ x _)=>x
  | _=>[]
def aX:Option eB→List Int
  | some (.r0 _ _ _ x)=>x
  | _=>[]
theorem TK{x:Option eB}(h:iH x=true) :x=some (.r0 (ac x) (aV x) (aW x) (aX x)):=by
  unfold iH at h
  split at h<;>first | rfl | (cases h;done) | (rename_i y;cases y;rfl)
def JA:aE:=bT vW (.cons (.cols [.cb,.cns .u64,.ci .i64]) (.cons (.int .i64) (.cons (.int .i64) (.cons (.int .i64) .nil)))) fun t=>(fun q=>[⟨BE (.r0 (ac q) (aV q) (aW q) (aX q)),[iH q]⟩]) (ab t.1.2.1 t.1.2.2.1 t.1.2.2.2.1 t.1.2.2.2.2.1 t.2.1 t.2.2.1 t.2.2.2.1)
theorem Nc:aO prog JA:=aJ fun t=>(aK (fun h=>TJ t.1.1 t.1.2.1 t.1.2.2.1 t.1.2.2.2.1 t.1.2.2.2.2.1 t.2.1 t.2.2.1 t.2.2.2.1 (TK h)) bb)
def JB:List aE:=JA::Jz
theorem vo:bc prog (bh JB):=ap Nc qB
inductive fW where
  | r0 (a:Nat) (b:Bool) (c:List Int) (d:Nat) (e:Nat) (f:Int)
def Nd:fW→AE×aF
  | .r0 a b c d e f=>(.ret,⟨ah 15 [(4,.ptr 0 1 0 0),(5,.int .i64 ((a:Nat):Int))],[(0,.vs [.bool false b,.imm .free (.ns .u64 c) 1 1 d e,.int .i64 f])],1⟩)
theorem WY:j9 Nd:=by intro x;cases x<;>(intro h;cases h)
def ER:fW→iK
  | .r0 a b c d e f=>⟨.tup [.agg [.bool false b,.imm .free (.ns .u64 c) 1 1 d e,.int .i64 f],.int .i64 ((a:Nat):Int)],[]⟩
def WZ:Nat×Bool×(List Int)×Nat×Nat×Int→aF:=fun (a,b,c,d,e,f)=>⟨ah 15 [(4,.ptr 0 1 0 0),(5,.int .i64 ((a:Nat):Int))],[(0,.vs [.bool false b,.imm .free (.ns .u64 c) 1 1 d e,.int .i64 f])],1⟩
def JC(c:Bool)(a:List Int)(d:Int)(e:Bool)(b:List Int)(f:Int) :T ((Nat×Bool×(List Int)×Nat×Nat×Int)⊕(fW)) :=
  .need (aP 0 (List.length a) a)<|.need (aP 0 (List.length b) b)<|.need (sN (ch c (aa 0 (List.length a) a) d (!e) (aa 0 (List.length b) b) f))<|.leaf (.inl ((lE (ch c (aa 0 (List.length a) a) d (!e) (aa 0 (List.length b) b) f)),(nv (ch c (aa 0 (List.length a) a) d (!e) (aa 0 (List.length b) b) f)),(nw (ch c (aa 0 (List.length a) a) d (!e) (aa 0 (List.length b) b) f)),(nA (ch c (aa 0 (List.length a) a) d (!e) (aa 0 (List.length b) b) f)),(nB (ch c (aa 0 (List.length a) a) d (!e) (aa 0 (List.length b) b) f)),(nC (ch c (aa 0 (List.length a) a) d (!e) (aa 0 (List.length b) b) f))))
def W1(a:Nat)(b:Bool)(c:List Int)(d:Nat)(e:Nat)(f:Int) :T ((Empty)⊕(fW)) :=
  .leaf (.inr (.r0 a b c d e f))
def dT(a:Bool)(b:List Int)(c:Int)(d:Bool)(e:List Int)(f:Int) :Option fW:=lB (aC ((JC a b c d e f).run) fun (g,h,i,j,k,l) =>
  (W1 g h i j k l).run)
theorem W2(c:Bool)(g:Lv)(a:List Int)(d:Int)(e:Bool)(i:Lv)(b:List Int)(f:Int){x:fW}(h:dT c a d e b f=some x) :aj prog D6 [] [.agg [.bool false c,.imm g (.ns .u64 a) 1 1 0 (List.length a),.int .i64 d],.agg [.bool false e,.imm i (.ns .u64 b) 1 1 0 (List.length b),.int .i64 f]] (ER x) :=
  lO true ER Nd h (Sg.cut 3 WY (bo vo WZ [⟨[],[32],[4,5]⟩]) (fun ⟨p,q,r,s,t,u⟩=>bo vo _ [⟨[],[0],[4,5]⟩]))
    (fun x=>by cases x with | r0 j k l m n o=>exact lC [.agg [.bool false k,.imm .free (.ns .u64 l) 1 1 m n,.int .i64 o],.int .i64 ((j:Nat):Int)])
def sP:Option fW→Bool
  | some _=>true
  | none=>false
def si:Option fW→Nat
  | some (.r0 x _ _ _ _ _)=>x
  | _=>0
def sj:Option fW→Bool
  | some (.r0 _ x _ _ _ _)=>x
  | _=>false
def sk:Option fW→List Int
  | some (.r0 _ _ x _ _ _)=>x
  | _=>[]
def sm:Option fW→Nat
  | some (.r0 _ _ _ x _ _)=>x
  | _=>0
def sn:Option fW→Nat
  | some (.r0 _ _ _ _ x _)=>x
  | _=>0
def so:Option fW→Int
  | some (.r0 _ _ _ _ _ x)=>x
  | _=>0
theorem W3{x:Option fW}(h:sP x=true) :x=some (.r0 (si x) (sj x) (sk x) (sm x) (sn x) (so x)):=by
  unfold sP at h
  split at h<;>first | rfl | (cases h;done) | (rename_i y;cases y;rfl)
def Ne:aE:=bT D6 (.cons (.agg (.cons .bool (.cons (.ns .u64) (.cons (.int .i64) .nil)))) (.cons (.agg (.cons .bool (.cons (.ns .u64) (.cons (.int .i64) .nil)))) .nil)) fun t=>(fun q=>[⟨ER (.r0 (si q) (sj q) (sk q) (sm q) (sn q) (so q)),[sP q]⟩]) (dT t.1.1 t.1.2.1.2 t.1.2.2.1 t.2.1.1 t.2.1.2.1.2 t.2.1.2.2.1)
theorem PT:aO prog Ne:=aJ fun t=>(aK (fun h=>W2 t.1.1 t.1.2.1.1 t.1.2.1.2 t.1.2.2.1 t.2.1.1 t.2.1.2.1.1 t.2.1.2.1.2 t.2.1.2.2.1 (W3 h)) bb)
def Nf:List aE:=Ne::JB
theorem nU:bc prog (bh Nf):=ap PT vo
inductive cG where
  | r0 (a:Nat) (b:Bool) (c:List Int) (d:Nat) (e:Nat) (f:Int)
def Dy:cG→AE×aF
  | .r0 a b c d e f=>(.ret,⟨ah 43 [(7,.ptr 0 1 0 0),(8,.int .i64 ((a:Nat):Int))],[(0,.vs [.bool false b,.imm .free (.ns .u64 c) 1 1 d e,.int .i64 f])],1⟩)
theorem vp:j9 Dy:=by intro x;cases x<;>(intro h;cases h)
def xu:cG→iK
  | .r0 a b c d e f=>⟨.tup [.agg [.bool false b,.imm .free (.ns .u64 c) 1 1 d e,.int .i64 f],.int .i64 ((a:Nat):Int)],[]⟩
def Ng(b:Int)(c:Int)(d:Lv)(e:Bool)(f:Lv)(a:List Int)(g:Int) :Nat×Bool×Bool×(List Int)×Nat×Nat×Int→aF:=fun (h,i,j,k,l,m,n)=>⟨ah 43 [(0,.int .i64 b),(1,.int .i64 c),(4,.iptr d (.vs [.bool false e,.imm f (.ns .u64 a) 1 1 0 (List.length a),.int .i64 g]) 1 0 0),(7,.ptr 0 1 0 0),(9,.ptr 1 1 0 0),(10,.int .i64 ((h:Nat):Int))],[(0,.vs [.bool false i,.nsl,.int .i64 (0:Int)]),(1,.vs [.bool false j,.imm .free (.ns .u64 k) 1 1 l m,.int .i64 n])],2⟩
def vq(g:Int)(h:Int)(a:Nat)(b:List Bool)(c:List (List Int))(d:List Int)(e:Int)(f:Int) :T ((Nat×Bool×Bool×(List Int)×Nat×Nat×Int)⊕(cG)) :=
  .need (Nat.ble (0+a) a)<|.need (iH (ab a (aa 0 a b) (aa 0 a c) (aa 0 a d) g f e))<|.need (Nat.ble (0+a) a)<|.need (iH (ab a (aa 0 a b) (aa 0 a c) (aa 0 a d) h f e))<|.need (Nat.ble (0+(ac (ab a (aa 0 a b) (aa 0 a c) (aa 0 a d) g f e))) (ac (ab a (aa 0 a b) (aa 0 a c) (aa 0 a d) g f e)))<|.need (Nat.ble (0+(ac (ab a (aa 0 a b) (aa 0 a c) (aa 0 a d) h f e))) (ac (ab a (aa 0 a b) (aa 0 a c) (aa 0 a d) h f e)))<|.need (pG (cu (ac (ab a (aa 0 a b) (aa 0 a c) (aa 0 a d) g f e)) (aa 0 (ac (ab a (aa 0 a b) (aa 0 a c) (aa 0 a d) g f e)) (aV (ab a (aa 0 a b) (aa 0 a c) (aa 0 a d) g f e))) (aa 0 (ac (ab a (aa 0 a b) (aa 0 a c) (aa 0 a d) g f e)) (aW (ab a (aa 0 a b) (aa 0 a c) (aa 0 a d) g f e))) (aa 0 (ac (ab a (aa 0 a b) (aa 0 a c) (aa 0 a d) g f e)) (aX (ab a (aa 0 a b) (aa 0 a c) (aa 0 a d) g f e))) (ac (ab a (aa 0 a b) (aa 0 a c) (aa 0 a d) h f e)) (aa 0 (ac (ab a (aa 0 a b) (aa 0 a c) (aa 0 a d) h f e)) (aV (ab a (aa 0 a b) (aa 0 a c) (aa 0 a d) h f e))) (aa 0 (ac (ab a (aa 0 a b) (aa 0 a c) (aa 0 a d) h f e)) (aW (ab a (aa 0 a b) (aa 0 a c) (aa 0 a d) h f e))) (aa 0 (ac (ab a (aa 0 a b) (aa 0 a c) (aa 0 a d) h f e)) (aX (ab a (aa 0 a b) (aa 0 a c) (aa 0 a d) h f e)))))<|.leaf (.inl ((nN (cu (ac (ab a (aa 0 a b) (aa 0 a c) (aa 0 a d) g f e)) (aa 0 (ac (ab a (aa 0 a b) (aa 0 a c) (aa 0 a d) g f e)) (aV (ab a (aa 0 a b) (aa 0 a c) (aa 0 a d) g f e))) (aa 0 (ac (ab a (aa 0 a b) (aa 0 a c) (aa 0 a d) g f e)) (aW (ab a (aa 0 a b) (aa 0 a c) (aa 0 a d) g f e))) (aa 0 (ac (ab a (aa 0 a b) (aa 0 a c) (aa 0 a d) g f e)) (aX (ab a (aa 0 a b) (aa 0 a c) (aa 0 a d) g f e))) (ac (ab a (aa 0 a b) (aa 0 a c) (aa 0 a d) h f e)) (aa 0 (ac (ab a (aa 0 a b) (aa 0 a c) (aa 0 a d) h f e)) (aV (ab a (aa 0 a b) (aa 0 a c) (aa 0 a d) h f e))) (aa 0 (ac (ab a (aa 0 a b) (aa 0 a c) (aa 0 a d) h f e)) (aW (ab a (aa 0 a b) (aa 0 a c) (aa 0 a d) h f e))) (aa 0 (ac (ab a (aa 0 a b) (aa 0 a c) (aa 0 a d) h f e)) (aX (ab a (aa 0 a b) (aa 0 a c) (aa 0 a d) h f e))))),false,(nO (cu (ac (ab a (aa 0 a b) (aa 0 a c) (aa 0 a d) g f e)) (aa 0 (ac (ab a (aa 0 a b) (aa 0 a c) (aa 0 a d) g f e)) (aV (ab a (aa 0 a b) (aa 0 a c) (aa 0 a d) g f e))) (aa 0 (ac (ab a (aa 0 a b) (aa 0 a c) (aa 0 a d) g f e)) (aW (ab a (aa 0 a b) (aa 0 a c) (aa 0 a d) g f e))) (aa 0 (ac (ab a (aa 0 a b) (aa 0 a c) (aa 0 a d) g f e)) (aX (ab a (aa 0 a b) (aa 0 a c) (aa 0 a d) g f e))) (ac (ab a (aa 0 a b) (aa 0 a c) (aa 0 a d) h f e)) (aa 0 (ac (ab a (aa 0 a b) (aa 0 a c) (aa 0 a d) h f e)) (aV (ab a (aa 0 a b) (aa 0 a c) (aa 0 a d) h f e))) (aa 0 (ac (ab a (aa 0 a b) (aa 0 a c) (aa 0 a d) h f e)) (aW (ab a (aa 0 a b) (aa 0 a c) (aa 0 a d) h f e))) (aa 0 (ac (ab a (aa 0 a b) (aa 0 a c) (aa 0 a d) h f e)) (aX (ab a (aa 0 a b) (aa 0 a c) (aa 0 a d) h f e))))),(nP (cu (ac (ab a (aa 0 a b) (aa 0 a c) (aa 0 a d) g f e)) (aa 0 (ac (ab a (aa 0 a b) (aa 0 a c) (aa 0 a d) g f e)) (aV (ab a (aa 0 a b) (aa 0 a c) (aa 0 a d) g f e))) (aa 0 (ac (ab a (aa 0 a b) (aa 0 a c) (aa 0 a d) g f e)) (aW (ab a (aa 0 a b) (aa 0 a c) (aa 0 a d) g f e))) (aa 0 (ac (ab a (aa 0 a b) (aa 0 a c) (aa 0 a d) g f e)) (aX (ab a (aa 0 a b) (aa 0 a c) (aa 0 a d) g f e))) (ac (ab a (aa 0 a b) (aa 0 a c) (aa 0 a d) h f e)) (aa 0 (ac (ab a (aa 0 a b) (aa 0 a c) (aa 0 a d) h f e)) (aV (ab a (aa 0 a b) (aa 0 a c) (aa 0 a d) h f e))) (aa 0 (ac (ab a (aa 0 a b) (aa 0 a c) (aa 0 a d) h f e)) (aW (ab a (aa 0 a b) (aa 0 a c) (aa 0 a d) h f e))) (aa 0 (ac (ab a (aa 0 a b) (aa 0 a c) (aa 0 a d) h f e)) (aX (ab a (aa 0 a b) (aa 0 a c) (aa 0 a d) h f e))))),(nQ (cu (ac (ab a (aa 0 a b) (aa 0 a c) (aa 0 a d) g f e)) (aa 0 (ac (ab a (aa 0 a b) (aa 0 a c) (aa 0 a d) g f e)) (aV (ab a (aa 0 a b) (aa 0 a c) (aa 0 a d) g f e))) (aa 0 (ac (ab a (aa 0 a b) (aa 0 a c) (aa 0 a d) g f e)) (aW (ab a (aa 0 a b) (aa 0 a c) (aa 0 a d) g f e))) (aa 0 (ac (ab a (aa 0 a b) (aa 0 a c) (aa 0 a d) g f e)) (aX (ab a (aa 0 a b) (aa 0 a c) (aa 0 a d) g f e))) (ac (ab a (aa 0 a b) (aa 0 a c) (aa 0 a d) h f e)) (aa 0 (ac (ab a (aa 0 a b) (aa 0 a c) (aa 0 a d) h f e)) (aV (ab a (aa 0 a b) (aa 0 a c) (aa 0 a d) h f e))) (aa 0 (ac (ab a (aa 0 a b) (aa 0 a c) (aa 0 a d) h f e)) (aW (ab a (aa 0 a b) (aa 0 a c) (aa 0 a d) h f e))) (aa 0 (ac (ab a (aa 0 a b) (aa 0 a c) (aa 0 a d) h f e)) (aX (ab a (aa 0 a b) (aa 0 a c) (aa 0 a d) h f e))))),(nR (cu (ac (ab a (aa 0 a b) (aa 0 a c) (aa 0 a d) g f e)) (aa 0 (ac (ab a (aa 0 a b) (aa 0 a c) (aa 0 a d) g f e)) (aV (ab a (aa 0 a b) (aa 0 a c) (aa 0 a d) g f e))) (aa 0 (ac (ab a (aa 0 a b) (aa 0 a c) (aa 0 a d) g f e)) (aW (ab a (aa 0 a b) (aa 0 a c) (aa 0 a d) g f e))) (aa 0 (ac (ab a (aa 0 a b) (aa 0 a c) (aa 0 a d) g f e)) (aX (ab a (aa 0 a b) (aa 0 a c) (aa 0 a d) g f e))) (ac (ab a (aa 0 a b) (aa 0 a c) (aa 0 a d) h f e)) (aa 0 (ac (ab a (aa 0 a b) (aa 0 a c) (aa 0 a d) h f e)) (aV (ab a (aa 0 a b) (aa 0 a c) (aa 0 a d) h f e))) (aa 0 (ac (ab a (aa 0 a b) (aa 0 a c) (aa 0 a d) h f e)) (aW (ab a (aa 0 a b) (aa 0 a c) (aa 0 a d) h f e))) (aa 0 (ac (ab a (aa 0 a b) (aa 0 a c) (aa 0 a d) h f e)) (aX (ab a (aa 0 a b) (aa 0 a c) (aa 0 a d) h f e))))),(nT (cu (ac (ab a (aa 0 a b) (aa 0 a c) (aa 0 a d) g f e)) (aa 0 (ac (ab a (aa 0 a b) (aa 0 a c) (aa 0 a d) g f e)) (aV (ab a (aa 0 a b) (aa 0 a c) (aa 0 a d) g f e))) (aa 0 (ac (ab a (aa 0 a b) (aa 0 a c) (aa 0 a d) g f e)) (aW (ab a (aa 0 a b) (aa 0 a c) (aa 0 a d) g f e))) (aa 0 (ac (ab a (aa 0 a b) (aa 0 a c) (aa 0 a d) g f e)) (aX (ab a (aa 0 a b) (aa 0 a c) (aa 0 a d) g f e))) (ac (ab a (aa 0 a b) (aa 0 a c) (aa 0 a d) h f e)) (aa 0 (ac (ab a (aa 0 a b) (aa 0 a c) (aa 0 a d) h f e)) (aV (ab a (aa 0 a b) (aa 0 a c) (aa 0 a d) h f e))) (aa 0 (ac (ab a (aa 0 a b) (aa 0 a c) (aa 0 a d) h f e)) (aW (ab a (aa 0 a b) (aa 0 a c) (aa 0 a d) h f e))) (aa 0 (ac (ab a (aa 0 a b) (aa 0 a c) (aa 0 a d) h f e)) (aX (ab a (aa 0 a b) (aa 0 a c) (aa 0 a d) h f e)))))))
def Nh(b:Lv)(c:Bool)(d:Lv)(a:List Int)(e:Int)(f:Nat)(g:Bool)(h:Bool)(i:List Int)(j:Nat)(k:Nat)(l:Int)(m:Bool) :aF:=⟨ah 43 [(4,.iptr b (.vs [.bool false c,.imm d (.ns .u64 a) 1 1 0 (List.length a),.int .i64 e]) 1 0 0),(7,.ptr 0 1 0 0),(9,.ptr 1 1 0 0),(10,.int .i64 ((f:Nat):Int)),(35,.bool false m)],[(0,.vs [.bool false g,.nsl,.int .i64 (0:Int)]),(1,.vs [.bool false h,.imm .free (.ns .u64 i) 1 1 j k,.int .i64 l])],2⟩
def vr(a:Int)(b:Int)(c:Nat) :T ((Bool)⊕(cG)) :=
  .ask (((c:Nat):Int) != (0:Int))
    (.leaf (.inl true))
    (.leaf (.inl (a != b)))
def Ni:Nat×Bool×(List Int)×Nat×Nat×Int→aF:=fun (a,b,c,d,e,f)=>⟨ah 43 [(7,.ptr 0 1 0 0),(8,.int .i64 ((a:Nat):Int))],[(0,.vs [.bool false b,.imm .free (.ns .u64 c) 1 1 d e,.int .i64 f])],1⟩
def vt(g:Bool)(a:List Int)(h:Int)(i:Nat)(e:Bool)(b:List Int)(c:Nat)(d:Nat)(f:Int)(j:Bool) :T ((Nat×Bool×(List Int)×Nat×Nat×Int)⊕(cG)) :=
  .ask j
    (.leaf (.inr (.r0 i e b c d f)))
    (.need (aP c d b)<|.need (aP 0 (List.length a) a)<|.need (sP (dT e (aa c d b) f g (aa 0 (List.length a) a) h))<|.leaf (.inl ((si (dT e (aa c d b) f g (aa 0 (List.length a) a) h)),(sj (dT e (aa c d b) f g (aa 0 (List.length a) a) h)),(sk (dT e (aa c d b) f g (aa 0 (List.length a) a) h)),(sm (dT e (aa c d b) f g (aa 0 (List.length a) a) h)),(sn (dT e (aa c d b) f g (aa 0 (List.length a) a) h)),(so (dT e (aa c d b) f g (aa 0 (List.length a) a) h)))))
def Nj(a:Nat)(b:Bool)(c:List Int)(d:Nat)(e:Nat)(f:Int) :T ((Empty)⊕(cG)) :=
  .leaf (.inr (.r0 a b c d e f))
def cR(a:Int)(b:Int)(d:Nat)(e:List Bool)(f:List (List Int))(g:List Int)(h:Int)(i:Int)(j:Bool)(k:List Int)(l:Int) :Option cG:=lB (aC ((vq a b d e f g h i).run) fun (c,y,m,n,o,p,q) =>
  aC ((vr a b c).run) fun r =>
  aC ((vt j k l c m n o p q r).run) fun (s,t,u,v,w,x) =>
  (Nj s t u v w x).run)
theorem Nk(d:Int)(e:Int)(p:Lv)(q:Lv)(f:Nat)(j:List Bool)(k:List (List Int))(l:List Int)(r:Lv)(m:Int)(n:Int)(s:Lv)(o:List Nat)(g:Lv)(b:Bool)(i:Lv)(a:List Int)(c:Int){x:cG}(h:cR d e f j k l m n b a c=some x) :aj prog dt [] [.int .i64 d,.int .i64 e,.iptr p (.vs [.imm q (.cols f [.cb j,.cns .u64 k,.ci .i64 l]) 3 3 0 f]) 1 0 0,.iptr r (.vs [.int .i64 m,.int .i64 n,.imm s (.fl o) 1 1 0 (List.length o)]) 1 0 0,.iptr g (.vs [.bool false b,.imm i (.ns .u64 a) 1 1 0 (List.length a),.int .i64 c]) 1 0 0] (xu x) :=
  lO false xu Dy h (Sg.cut 2 vp (bo nU (Ng d e g b i a c) [⟨[],[0,320],[0,1,4,7,9,10]⟩]) (fun ⟨t,u,v,w,y,z,A⟩=>Sg.cut 1 vp (bo nU (Nh g b i a c t u v w y z A) [⟨[],[0,1],[4,7,9,10,35]⟩,⟨[],[0,1],[4,7,9,10,35]⟩]) (fun H=>Sg.cut 2 vp (bo nU Ni [⟨[],[0],[7,8]⟩,⟨[],[0],[7,8]⟩]) (fun ⟨I,J,K,L,M,N⟩=>bo nU _ [⟨[],[0],[7,8]⟩]))))
    (fun x=>by cases x with | r0 B C D E F G=>exact lC [.agg [.bool false C,.imm .free (.ns .u64 D) 1 1 E F,.int .i64 G],.int .i64 ((B:Nat):Int)])
def mj:Option cG→Bool
  | some _=>true
  | none=>false
def iX:Option cG→Nat
  | some (.r0 x _ _ _ _ _)=>x
  | _=>0
def mQ:Option cG→Bool
  | some (.r0 _ x _ _ _ _)=>x
  | _=>false
def km:Option cG→List Int
  | some (.r0 _ _ x _ _ _)=>x
  | _=>[]
def ko:Option cG→Nat
  | some (.r0 _ _ _ x _ _)=>x
  | _=>0
def kp:Option cG→Nat
  | some (.r0 _ _ _ _ x _)=>x
  | _=>0
def mR:Option cG→Int
  | some (.r0 _ _ _ _ _ x)=>x
  | _=>0
theorem Nl{x:Option cG}(h:mj x=true) :x=some (.r0 (iX x) (mQ x) (km x) (ko x) (kp x) (mR x)):=by
  unfold mj at h
  split at h<;>first | rfl | (cases h;done) | (rename_i y;cases y;rfl)
def Dz:aE:=bT dt (.cons (.int .i64) (.cons (.int .i64) (.cons (.ivs (.cons (.cols [.cb,.cns .u64,.ci .i64]) .nil) 1 0 0) (.cons (.ivs (.cons (.int .i64) (.cons (.int .i64) (.cons .fl .nil))) 1 0 0) (.cons (.ivs (.cons .bool (.cons (.ns .u64) (.cons (.int .i64) .nil))) 1 0 0) .nil))))) fun t=>(fun q=>[⟨xu (.r0 (iX q) (mQ q) (km q) (ko q) (kp q) (mR q)),[mj q]⟩]) (cR t.1 t.2.1 t.2.2.1.2.1.2.1 t.2.2.1.2.1.2.2.1 t.2.2.1.2.1.2.2.2.1 t.2.2.1.2.1.2.2.2.2.1 t.2.2.2.1.2.1 t.2.2.2.1.2.2.1 t.2.2.2.2.1.2.1 t.2.2.2.2.1.2.2.1.2 t.2.2.2.2.1.2.2.2.1)
theorem Ig:aO prog Dz:=aJ fun t=>(aK (fun h=>Nk t.1 t.2.1 t.2.2.1.1 t.2.2.1.2.1.1 t.2.2.1.2.1.2.1 t.2.2.1.2.1.2.2.1 t.2.2.1.2.1.2.2.2.1 t.2.2.1.2.1.2.2.2.2.1 t.2.2.2.1.1 t.2.2.2.1.2.1 t.2.2.2.1.2.2.1 t.2.2.2.1.2.2.2.1.1 t.2.2.2.1.2.2.2.1.2 t.2.2.2.2.1.1 t.2.2.2.2.1.2.1 t.2.2.2.2.1.2.2.1.1 t.2.2.2.2.1.2.2.1.2 t.2.2.2.2.1.2.2.2.1 (Nl h)) bb)
def DA:List aE:=Dz::Nf
theorem de:bc prog (bh DA):=ap Ig nU
end
end Go.Plb.Seat
