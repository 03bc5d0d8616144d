/-
  Part 1 of what the claim leans on: an evaluator of the model, proved sound; the contracts of the functions.
-/
import Derived.Orders
import Derived.Laws.World
import Derived.Laws.FloatArith
import Derived.Laws.Sem
import Derived.ChangeKeysEq
import Derived.Laws.MakeOwn
import Derived.Laws.AppendOwn
namespace Go.Plb
set_option linter.unusedSimpArgs false
set_option linter.unusedVariables false
def EQ:Nat:=0x7FF8000000000000
def isNaN(x:Nat) :Bool:=(FloatKind.f64.decode x).isNaN
def FR(ex:Bool)(x y:Nat) :Prop:=y=x∨(ex=false∧isNaN x=true∧isNaN y=true)
inductive Lv where
  | free
  | lent
  | up (l:Lv)
mutual
inductive AV where
  | int (k:IntKind) (n:Int)
  | bool (kn b:Bool)
  | flt (ex:Bool) (x:Nat)
  | str (s:ByteArray)
  | nptr
  | ptr (b w i j:Nat)
  | iptr (bw:Lv) (d:aE) (w i j:Nat)
  | nsl
  | esl
  | zsl (b:Bool)
  | nan
  | sl (b w es i len cap:Nat)
  | imm (bw:Lv) (d:aE) (w es i len:Nat)
  | fn (f:Fn) (first caps:List AV)
  | nfn
  | agg (l:List AV)
  | tup (l:List AV)
  | iface (t:TypeId) (v:AV)
  | niface
  | any
inductive aE where
  | fl (xs:List Nat)
  | ns (k:IntKind) (xs:List Int)
  | bs (xs:List Bool)
  | ss (xs:List ByteArray)
  | vs (xs:List AV)
  | rows (w n:Nat) (get:Nat→Nat→AV)
  | cols (n:Nat) (cs:List dU)
inductive dU where
  | cf (xs:List Nat)
  | ci (k:IntKind) (xs:List Int)
  | cb (xs:List Bool)
  | cs (xs:List ByteArray)
  | cfl (xs:List (List Nat))
  | cns (k:IntKind) (xs:List (List Int))
end
instance:Inhabited AV:=⟨.any⟩
def dU.cell?:dU→Nat→Option AV
  | .cf xs,i=>(xs[i]?).map (AV.flt false)
  | .ci k xs,i=>(xs[i]?).map (AV.int k)
  | .cb xs,i=>(xs[i]?).map (AV.bool false)
  | .cs xs,i=>(xs[i]?).map AV.str
  | .cfl xs,i=>(xs[i]?).map fun l=>.imm .free (.fl l) 1 1 0 l.length
  | .cns k xs,i=>(xs[i]?).map fun l=>.imm .free (.ns k l) 1 1 0 l.length
def aE.cell?:aE→Nat→Option AV
  | .fl xs,i=>(xs[i]?).map (AV.flt false)
  | .ns k xs,i=>(xs[i]?).map (AV.int k)
  | .bs xs,i=>(xs[i]?).map (AV.bool false)
  | .ss xs,i=>(xs[i]?).map AV.str
  | .vs xs,i=>xs[i]?
  | .rows w n get,i=>if i/w<n then some (get (i/w) (i%w)) else none
  | .cols n cs,i=>(cs[i%cs.length]?).bind fun c=>c.cell? (i/cs.length)
def Lv.isFree:Lv→Bool
  | .free=>true
  | .lent=>false
  | .up l=>l.isFree
mutual
def AV.kept:AV→Bool
  | .ptr .. | .sl ..=>false
  | .iptr bw .. | .imm bw ..=>bw.isFree
  | .fn _ l1 l2=>cQ l1&&cQ l2
  | .agg l | .tup l=>cQ l
  | .iface _ v=>v.kept
  | _=>true
def cQ:List AV→Bool
  | []=>true
  | v::l=>v.kept&&cQ l
end
def AV.one:AV→Bool
  | .agg _ | .tup _ | .any=>false
  | _=>true
def e7:List AV→Bool
  | []=>true
  | v::l=>v.one&&e7 l
def aE.kept:aE→Bool
  | .vs xs=>cQ xs
  | _=>true
def dU.len:dU→Nat
  | .cf xs=>xs.length
  | .ci _ xs=>xs.length
  | .cb xs=>xs.length
  | .cs xs=>xs.length
  | .cfl xs=>xs.length
  | .cns _ xs=>xs.length
def aE.recKept:aE→Prop
  | .rows _ _ get=>∀ i j,(get i j).kept=true∧(get i j).one=true
  | .cols n cs=>∀ c∈cs,c.len=n
  | _=>True
mutual
def AV.foreign:AV→Bool
  | .ptr .. | .sl ..=>false
  | .fn _ l1 l2=>bt l1&&bt l2
  | .agg l | .tup l=>bt l
  | .iface _ v=>v.foreign
  | _=>true
def bt:List AV→Bool
  | []=>true
  | v::l=>v.foreign&&bt l
end
def aE.foreign:aE→Bool
  | .vs xs=>bt xs
  | _=>true
theorem n6{c:dU}{i:Nat}{v:AV}(h:c.cell? i=some v) :v.kept=true∧v.foreign=true∧v.one=true:=by
  cases c<;>simp only [dU.cell?,Option.map_eq_some_iff] at h<;>obtain ⟨_,_,rfl⟩:=h<;>exact ⟨rfl,rfl,rfl⟩
theorem qw{c:dU}{i:Nat}{v:AV}(h:c.cell? i=some v) :i<c.len:=by
  cases c<;>simp only [dU.cell?,Option.map_eq_some_iff] at h<;>obtain ⟨_,h,_⟩:=h<;>exact (List.getElem?_eq_some_iff.1 h).1
theorem ER{c:dU}{i:Nat}(h:i<c.len) :∃ v,c.cell? i=some v:=by
  cases c<;>simp only [dU.len] at h<;>simp only [dU.cell?]<;>exact ⟨_,by rw [List.getElem?_eq_getElem h];rfl⟩
theorem d7{n:Nat}{cs:List dU}{x:Nat}{v:AV}(h:(aE.cols n cs).cell? x=some v) :∃ c,cs[x%cs.length]? = some c∧c∈cs∧c.cell? (x/cs.length)=some v:=by
  simp only [aE.cell?,Option.bind_eq_some_iff] at h
  obtain ⟨c,h1,h2⟩:=h
  exact ⟨c,h1,List.mem_of_getElem? h1,h2⟩
structure ag where
  at_:Nat→Nat
  live:Nat→Prop

  out:Nat→Nat→Prop

  ok:Nat→Prop
def Lv.av(O:Nat→Nat→Prop) :Lv→Nat→Nat→Prop
  | .free,i,bl=>∀ j,i≤j→¬ O j bl
  | .lent,i,bl=>¬ O i bl
  | .up l,i,bl=>¬ O i bl∧l.av O (i+1) bl
def ag.own(ρ:ag) :Nat→Nat→Prop
  | 0=>ρ.live
  | j+1=>ρ.out j
def ag.avoid(ρ:ag)(bw:Lv)(bl:Nat) :Prop:=bw.av ρ.own 0 bl
theorem tQ{O:Nat→Nat→Prop} :∀ {l:Lv} {i bl:Nat},l.av O i bl→¬ O i bl
  | .free,i,bl,h=>h i (Nat.le_refl _)
  | .lent,i,bl,h=>h
  | .up l,i,bl,h=>h.1
theorem o7{O O':Nat→Nat→Prop}{bl d:Nat} :∀ {l:Lv} {i:Nat},(∀ j,i≤j→O' (j+d) bl→O j bl)→l.av O i bl→l.av O' (i+d) bl
  | .free,i,h,k=>fun j hj q=>by
    obtain ⟨j',rfl⟩:∃ j',j=j'+d:=⟨j-d,by omega⟩
    exact k j' (by omega) (h j' (by omega) q)
  | .lent,i,h,k=>fun q=>k (h i (Nat.le_refl _) q)
  | .up l,i,h,k=>⟨fun q=>k.1 (h i (Nat.le_refl _) q),by
      have:=o7 (l:=l) (i:=i+1) (d:=d) (fun j hj=>h j (by omega)) k.2
      have e:i+1+d=i+d+1:=by omega
      rwa [e] at this⟩
theorem jQ{O:Nat→Nat→Prop} :∀ {l:Lv} {i bl:Nat},l.isFree=true→l.av O i bl→∀ j,i≤j→¬ O j bl
  | .free,i,bl,_,h,j,hj=>h j hj
  | .lent,i,bl,hl,_,_,_=>by cases hl
  | .up l,i,bl,hl,h,j,hj=>by
    rcases Nat.eq_or_lt_of_le hj with rfl | q
    · exact h.1
    · exact jQ (l:=l) hl h.2 j q
theorem jR{ρ:ag}{l:Lv}{bl:Nat}(h:ρ.avoid l bl) : ¬ ρ.live bl:=tQ (O:=ρ.own) h
class Rom where
  tab:List (Nat×aE)
mutual
inductive VR (ρ:ag) (w:World):AV→Value→Prop
  | int (k:IntKind) (n:Int):VR ρ w (.int k n) (.int k n)
  | bool (kn b:Bool):VR ρ w (.bool kn b) (.bool b)
  | flt (ex:Bool) (x y:Nat) (h:FR ex x y):VR ρ w (.flt ex x) (.float .f64 y)
  | str (s:ByteArray):VR ρ w (.str s) (.string s)
  | nptr:VR ρ w .nptr (.pointer none)
  | ptr (b k i j:Nat) (hb:ρ.ok b):VR ρ w (.ptr b k i j) (.pointer (some ⟨ρ.at_ b,i*k+j,none⟩))
  | iptr (bw:Lv) (d:aE) (k i j bl o:Nat) (u:Nat→Value) (ha:ρ.avoid bw bl) (hb:bl<w.heap.size)
      (hc:∀ x v,d.cell? x=some v→w.cell? ⟨bl,o+x,none⟩=some (u x)) (hv:∀ x v,d.cell? x=some v→VR ρ w v (u x))
      (hr:d.recKept) (hk:bw.isFree=true→d.kept=true) (hg:d.foreign=true) :
      VR ρ w (.iptr bw d k i j) (.pointer (some ⟨bl,o+(i*k+j),none⟩))
  | nsl:VR ρ w .nsl (.slice none 0 0)
  | esl (a:Option Addr):VR ρ w .esl (.slice a 0 0)
  | zsl (a:Option Addr) (cap:Nat):VR ρ w (.zsl a.isNone) (.slice a 0 cap)
  | nan (n:Nat) (h:isNaN n=true):VR ρ w .nan (.int .u64 n)
  | sl (b k es i len cap cap':Nat) (hb:ρ.ok b) (hcap:cap≤cap') (hl:len≤cap) (c:Array Value) (t:TypeId) (hh:w.heap[ρ.at_ b]? = some (.cells c t (0,0)))
      (hs:i*k+cap'*es≤c.size):VR ρ w (.sl b k es i len cap) (.slice (some ⟨ρ.at_ b,i*k,none⟩) len cap')
  | slEnd (b k es i:Nat) (a:Option Addr):VR ρ w (.sl b k es i 0 0) (.slice a 0 0)
  | imm (bw:Lv) (d:aE) (k es i len cap bl o:Nat) (u:Nat→Value) (ha:ρ.avoid bw bl) (hb:bl<w.heap.size)
      (hc:∀ x v,d.cell? x=some v→w.cell? ⟨bl,o+x,none⟩=some (u x)) (hv:∀ x v,d.cell? x=some v→VR ρ w v (u x)) (hl:len≤cap)
      (hr:d.recKept) (hk:bw.isFree=true→d.kept=true) (hg:d.foreign=true) :
      VR ρ w (.imm bw d k es i len) (.slice (some ⟨bl,o+i*k,none⟩) len cap)
  | immEnd (bw:Lv) (d:aE) (k es i cap:Nat) (a:Option Addr) (hr:d.recKept) (hk:bw.isFree=true→d.kept=true) (hg:d.foreign=true):VR ρ w (.imm bw d k es i 0) (.slice a 0 cap)
  | fn (f:Fn) (l1 l2:List AV) (c1 c2:Array Value) (h1:c7 ρ w l1 c1.toList) (h2:c7 ρ w l2 c2.toList):VR ρ w (.fn f l1 l2) (.func f c1 c2)
  | nfn:VR ρ w .nfn .nilFunc
  | agg (l:List AV) (c:Array Value) (h:c7 ρ w l c.toList):VR ρ w (.agg l) (.agg c)
  | tup (l:List AV) (c:Array Value) (h:c7 ρ w l c.toList):VR ρ w (.tup l) (.tuple c)
  | iface (t:TypeId) (v:AV) (u:Value) (h:VR ρ w v u):VR ρ w (.iface t v) (.iface t u)
  | niface:VR ρ w .niface .nilIface
  | any (u:Value):VR ρ w .any u
inductive c7 (ρ:ag) (w:World):List AV→List Value→Prop
  | nil:c7 ρ w [] []
  | cons (v:AV) (u:Value) (l:List AV) (c:List Value) (h:VR ρ w v u) (t:c7 ρ w l c):c7 ρ w (v::l) (u::c)
end
def BR(ρ:ag)(w:World)(bl:Nat)(d:aE) :Prop :=
  d.recKept∧∃ c t,w.heap[bl]? = some (.cells c t (0,0))∧∀ x v,d.cell? x=some v→∃ u,c[x]? = some u∧VR ρ w v u
structure fA (M:Nat→Prop) (w w':World):Prop where
  os:w'.os=w.os
  tape:w'.tape=w.tape
  output:w'.output=w.output
  size:w.heap.size≤w'.heap.size
  same:∀ b,b<w.heap.size→¬ M b→w'.heap[b]? = w.heap[b]?
  sized:∀ (b:Nat) c t fz,w.heap[b]? = some (.cells c t fz)→∃ c',w'.heap[b]? = some (.cells c' t fz)∧c'.size=c.size
theorem fA.refl(M:Nat→Prop)(w:World) :fA M w w:=⟨rfl,rfl,rfl,Nat.le_refl _,fun _ _ _=>rfl,fun _ c _ _ h=>⟨c,h,rfl⟩⟩
theorem fA.trans{M M':Nat→Prop}{a b c:World}(h:fA M a b)(k:fA M' b c)(hM:∀ x,x<a.heap.size→M' x→M x) :fA M a c :=
  ⟨k.os.trans h.os,k.tape.trans h.tape,k.output.trans h.output,Nat.le_trans h.size k.size,
   fun x hx hn=>(k.same x (Nat.lt_of_lt_of_le hx h.size) (fun m=>hn (hM x hx m))).trans (h.same x hx hn),
   fun x c t fz hc=>by
     obtain ⟨c1,h1,e1⟩:=h.sized x c t fz hc
     obtain ⟨c2,h2,e2⟩:=k.sized x c1 t fz h1
     exact ⟨c2,h2,e2.trans e1⟩⟩
theorem fA.mono{M M':Nat→Prop}{w w':World}(h:fA M w w')(hM:∀ x,x<w.heap.size→M x→M' x) :fA M' w w' :=
  ⟨h.os,h.tape,h.output,h.size,fun x hx hn=>h.same x hx (fun m=>hn (hM x hx m)),h.sized⟩
theorem tc{w w':World}{a:Addr}(h:w'.heap[a.block]? = w.heap[a.block]?) :w'.cell? a=w.cell? a:=by
  unfold World.cell?;rw [h]
structure jb (ρ ρ':ag) (w:World):Prop where
  at_:∀ b,ρ.ok b→ρ'.at_ b=ρ.at_ b
  ok:∀ b,ρ.ok b→ρ'.ok b
  live:∀ b,ρ.live b→ρ'.live b
  new:∀ b,b<w.heap.size→ρ'.live b→ρ.live b
  out:ρ'.out=ρ.out
theorem jb.refl(ρ:ag)(w:World) :jb ρ ρ w:=⟨fun _ _=>rfl,fun _ h=>h,fun _ h=>h,fun _ _ h=>h,rfl⟩
theorem jb.trans{a b c:ag}{w w':World}(h:jb a b w)(k:jb b c w')(hw:w.heap.size≤w'.heap.size) :jb a c w :=
  ⟨fun x hx=>(k.at_ x (h.ok x hx)).trans (h.at_ x hx),fun x hx=>k.ok x (h.ok x hx),fun x hx=>k.live x (h.live x hx),
   fun x hx hl=>h.new x hx (k.new x (Nat.lt_of_lt_of_le hx hw) hl),k.out.trans h.out⟩
theorem jb.avoid{ρ ρ':ag}{w:World}(E:jb ρ ρ' w){l:Lv}{bl:Nat}(hb:bl<w.heap.size)(h:ρ.avoid l bl) :ρ'.avoid l bl:=by
  refine o7 (d:=0) (fun j _ q=>?_) h
  cases j with
  | zero=>exact E.new bl hb q
  | succ j=>simp only [Nat.add_zero,ag.own] at q ⊢;rw [E.out] at q;exact q
theorem VR.mono{ρ ρ':ag}{w w':World}(E:jb ρ ρ' w)(W:fA ρ.live w w'){v:AV}{u:Value}(h:VR ρ w v u) :VR ρ' w' v u:=by
  induction h using VR.rec (motive_2:=fun l c _=>c7 ρ' w' l c) with
  | int k n=>exact .int k n
  | bool kn b=>exact .bool kn b
  | flt ex x y h=>exact .flt ex x y h
  | str s=>exact .str s
  | nptr=>exact .nptr
  | ptr b k i j hb=>rw [←E.at_ b hb];exact .ptr b k i j (E.ok b hb)
  | iptr bw d k i j bl o u ha hb hc hv hr hk hg ih =>
    refine .iptr bw d k i j bl o u (E.avoid hb ha) (Nat.lt_of_lt_of_le hb W.size) ?_ ih hr hk hg
    intro x v hx
    rw [tc (W.same bl hb (jR ha))];exact hc x v hx
  | nsl=>exact .nsl
  | esl a=>exact .esl a
  | zsl a c=>exact .zsl a c
  | nan n h=>exact .nan n h
  | sl b k es i len cap cap' hb hcap hl c t hh hs =>
    obtain ⟨c',h1,h2⟩:=W.sized _ _ _ _ hh
    rw [←E.at_ b hb] at h1 ⊢
    exact .sl b k es i len cap cap' (E.ok b hb) hcap hl c' t h1 (by omega)
  | slEnd b k es i a=>exact .slEnd b k es i a
  | imm bw d k es i len cap bl o u ha hb hc hv hl hr hk hg ih =>
    refine .imm bw d k es i len cap bl o u (E.avoid hb ha) (Nat.lt_of_lt_of_le hb W.size) ?_ ih hl hr hk hg
    intro x v hx
    rw [tc (W.same bl hb (jR ha))];exact hc x v hx
  | immEnd bw d k es i cap a hr hk hg=>exact .immEnd bw d k es i cap a hr hk hg
  | fn f l1 l2 c1 c2 h1 h2 i1 i2=>exact .fn f l1 l2 c1 c2 i1 i2
  | nfn=>exact .nfn
  | agg l c h ih=>exact .agg l c ih
  | tup l c h ih=>exact .tup l c ih
  | iface t v u h ih=>exact .iface t v u ih
  | niface=>exact .niface
  | any u=>exact .any u
  | nil=>exact .nil
  | cons v u l c h t i1 i2=>exact .cons v u l c i1 i2
theorem c7.mono{ρ ρ':ag}{w w':World}(E:jb ρ ρ' w)(W:fA ρ.live w w') :∀ {l:List AV} {c:List Value},c7 ρ w l c→c7 ρ' w' l c
  | _,_,.nil=>.nil
  | _,_,.cons v u l c h t=>.cons v u l c (h.mono E W) (c7.mono E W t)
end Go.Plb
namespace Go.Plb
set_option linter.unusedSimpArgs false
set_option linter.unusedVariables false
set_option linter.unusedSectionVars false
variable [Rom]
abbrev bI:=List (Nat×aE)
def aR:bI→Nat→Option aE
  | [],_=>none
  | (k,d)::t,b=>bif Nat.beq k b then some d else aR t b
def dm:bI→Nat→aE→bI
  | [],b,d=>[(b,d)]
  | (k,e)::t,b,d=>bif Nat.beq k b then (k,d)::t else (k,e)::dm t b d
def qr:bI→Nat→bI
  | [],_=>[]
  | (k,e)::t,b=>bif Nat.beq k b then qr t b else (k,e)::qr t b
theorem mw{a b:Nat}(h : ¬ a=b) :Nat.beq a b=false:=by
  cases e:Nat.beq a b with
  | false=>rfl
  | true=>exact absurd (Nat.eq_of_beq_eq_true e) h
theorem jS(a:Nat) :Nat.beq a a=true:=Nat.beq_refl a
theorem cS(h:bI)(b c:Nat)(d:aE) :aR (dm h b d) c=if b=c then some d else aR h c:=by
  induction h with
  | nil =>
    by_cases e:b=c
    · subst e;simp [dm,aR,jS]
    · simp [dm,aR,mw e,e]
  | cons x t ih =>
    obtain ⟨k,e⟩:=x
    by_cases h1:k=b
    · subst h1
      by_cases h2:k=c
      · subst h2;simp [dm,aR,jS]
      · simp [dm,aR,h2,mw h2,jS]
    · by_cases h2:k=c
      · subst h2;simp [dm,aR,mw h1,jS];intro e;exact absurd e.symm h1
      · simp [dm,aR,mw h1,mw h2,ih]
theorem jT(h:bI)(b c:Nat) :aR (qr h b) c=if b=c then none else aR h c:=by
  induction h with
  | nil=>by_cases e:b=c<;>simp [qr,aR,e]
  | cons x t ih =>
    obtain ⟨k,e⟩:=x
    by_cases h1:k=b
    · subst h1
      by_cases h2:k=c
      · subst h2;simp [qr,ih,jS]
      · simp [qr,aR,ih,h2,mw h2,jS]
    · by_cases h2:k=c
      · subst h2;simp [qr,aR,mw h1,jS];intro e;exact absurd e.symm h1
      · simp [qr,aR,mw h1,mw h2,ih]
def aE.void(d:aE) :Prop:=∀ x,d.cell? x=none
structure HR (ρ:ag) (w:World) (h:bI) (n:Nat):Prop where
  cell:∀ b d,aR h b=some d→(ρ.ok b∧ρ.live (ρ.at_ b)∧BR ρ w (ρ.at_ b) d)∨(¬ ρ.ok b∧b<n∧d.recKept∧d.void)
  inj:∀ b c d e,aR h b=some d→aR h c=some e→ρ.ok b→ρ.ok c→ρ.at_ b=ρ.at_ c→b=c
  fresh:∀ bl,ρ.live bl→∀ j,¬ ρ.out j bl
  liveLt:∀ bl,ρ.live bl→bl<w.heap.size
  outLt:∀ j bl,ρ.out j bl→bl<w.heap.size
  lt:∀ b,ρ.ok b→b<n
  rom:∀ x∈Rom.tab,VR ρ w (.iptr .free x.2 1 0 0) (.pointer (some ⟨x.1,0,none⟩))
theorem HR.real{ρ:ag}{w:World}{h:bI}{n b:Nat}{d:aE}(hh:HR ρ w h n)(hg:aR h b=some d)(hok:ρ.ok b) :ρ.live (ρ.at_ b)∧BR ρ w (ρ.at_ b) d:=by
  rcases hh.cell b d hg with q | q
  · exact q.2
  · exact (q.1 hok).elim
theorem HR.solid{ρ:ag}{w:World}{h:bI}{n b:Nat}{d:aE}(hh:HR ρ w h n)(hg:aR h b=some d)(he:∃ x e,d.cell? x=some e) :ρ.ok b∧ρ.live (ρ.at_ b)∧BR ρ w (ρ.at_ b) d:=by
  rcases hh.cell b d hg with q | q
  · exact q
  · obtain ⟨x,e,hx⟩:=he
    rw [q.2.2.2 x] at hx;cases hx
theorem HR.rk{ρ:ag}{w:World}{h:bI}{n b:Nat}{d:aE}(hh:HR ρ w h n)(hg:aR h b=some d) :d.recKept:=by
  rcases hh.cell b d hg with q | q
  · exact q.2.2.1
  · exact q.2.2.1
theorem BR.mono{ρ ρ':ag}{w w':World}{bl:Nat}{d:aE}(E:jb ρ ρ' w)(W:fA ρ.live w w')(hs:w'.heap[bl]? = w.heap[bl]?)(h:BR ρ w bl d) :BR ρ' w' bl d:=by
  obtain ⟨hr,c,t,hc,hv⟩:=h
  refine ⟨hr,c,t,hs.trans hc,fun x v hx=>?_⟩
  obtain ⟨u,h1,h2⟩:=hv x v hx
  exact ⟨u,h1,h2.mono E W⟩
theorem HR.del{ρ:ag}{w:World}{h:bI}{n:Nat}(hh:HR ρ w h n)(b:Nat) :HR ρ w (qr h b) n:=by
  have key:∀ c d,aR (qr h b) c=some d→aR h c=some d:=by
    intro c d e
    rw [jT] at e
    split at e
    · cases e
    · exact e
  exact ⟨fun c d e=>hh.cell c d (key c d e),fun a c d e h1 h2=>hh.inj a c d e (key _ _ h1) (key _ _ h2),hh.fresh,hh.liveLt,hh.outLt,hh.lt,hh.rom⟩
theorem HR.le{ρ:ag}{w:World}{h:bI}{n m:Nat}(hh:HR ρ w h n)(hm:n≤m) :HR ρ w h m :=
  ⟨fun b d e=>(hh.cell b d e).imp id (fun q=>⟨q.1,Nat.lt_of_lt_of_le q.2.1 hm,q.2.2⟩),hh.inj,hh.fresh,hh.liveLt,hh.outLt,fun b hb=>Nat.lt_of_lt_of_le (hh.lt b hb) hm,hh.rom⟩
theorem HR.step{ρ:ag}{w w':World}{h:bI}{n:Nat}(hh:HR ρ w h n)(W:fA ρ.live w w')(hs:∀ bl,ρ.live bl→w'.heap[bl]? = w.heap[bl]?) :HR ρ w' h n :=
  ⟨fun b d e=>(hh.cell b d e).imp (fun q=>⟨q.1,q.2.1,q.2.2.mono (jb.refl ρ w) W (hs _ q.2.1)⟩) id,hh.inj,hh.fresh,
   fun bl hl=>Nat.lt_of_lt_of_le (hh.liveLt bl hl) W.size,fun j bl hl=>Nat.lt_of_lt_of_le (hh.outLt j bl hl) W.size,hh.lt,fun x hx=>(hh.rom x hx).mono (jb.refl ρ w) W⟩
theorem fA.drawn(M:Nat→Prop)(w:World)(k:Nat) :fA M w { w with drawn:=k } :=
  ⟨rfl,rfl,rfl,Nat.le_refl _,fun _ _ _=>rfl,fun _ c _ _ h=>⟨c,h,rfl⟩⟩
theorem HR.drawn{ρ:ag}{w:World}{h:bI}{n:Nat}(hh:HR ρ w h n)(k:Nat) :HR ρ { w with drawn:=k } h n :=
  hh.step (fA.drawn _ w k) (fun _ _=>rfl)
theorem fA.alloc(M:Nat→Prop)(w:World)(o:Obj) :fA M w (w.alloc o):=by
  refine ⟨rfl,rfl,rfl,by simp,fun b hb _=>?_,fun b c t fz hc=>⟨c,?_,rfl⟩⟩
  · simp only [World.alloc,Array.getElem?_push];rw [if_neg (by omega)]
  · have:b<w.heap.size:=by
      rcases Nat.lt_or_ge b w.heap.size with h | h
      · exact h
      · rw [Array.getElem?_eq_none h] at hc;cases hc
    simp only [World.alloc,Array.getElem?_push];rw [if_neg (by omega)];exact hc
theorem yL{w:World}{o:Obj}{b:Nat}(hb:b<w.heap.size) :(w.alloc o).heap[b]? = w.heap[b]?:=by
  simp only [World.alloc,Array.getElem?_push];rw [if_neg (by omega)]
theorem gi(w:World)(o:Obj) :(w.alloc o).heap[w.heap.size]? = some o:=by
  unfold World.alloc;simp
def ag.give(ρ:ag)(b bl:Nat) :ag :=
  { at_:=fun x=>if x=b then bl else ρ.at_ x,ok:=fun x=>x=b∨ρ.ok x,live:=fun x=>x=bl∨ρ.live x,out:=ρ.out }
theorem jb.give{ρ:ag}{w:World}{b bl:Nat}(hb : ¬ ρ.ok b)(hl:w.heap.size≤bl) :jb ρ (ρ.give b bl) w :=
  ⟨fun x hx=>by simp only [ag.give];rw [if_neg (fun e:x=b=>hb (by rw [←e];exact hx))],fun _ h=>.inr h,fun _ h=>.inr h,
   fun x hx h=>h.resolve_left (by omega),rfl⟩
theorem HR.alloc{ρ:ag}{w:World}{h:bI}{n b:Nat}(hh:HR ρ w h n)(hb : ¬ ρ.ok b)(hn:b<n)(d:aE)(c:Array Value)(t:TypeId) 
    (hd:d.recKept) (hc:∀ x v,d.cell? x=some v→∃ u,c[x]? = some u∧VR ρ w v u) :
    HR (ρ.give b w.heap.size) (w.alloc (.cells c t)) (dm h b d) n∧jb ρ (ρ.give b w.heap.size) w∧fA ρ.live w (w.alloc (.cells c t)):=by
  have E:jb ρ (ρ.give b w.heap.size) w:=jb.give hb (Nat.le_refl _)
  have W:=fA.alloc ρ.live w (.cells c t)
  refine ⟨⟨fun x e hx=>?_,fun x y e f h1 h2 ok1 ok2 he=>?_,fun bl hl j ho=>?_,fun bl hl=>?_,fun j bl ho=>?_,fun x hx=>?_,fun x hx=>(hh.rom x hx).mono E W⟩,E,W⟩
  · rw [cS] at hx
    by_cases hxb:b=x
    · subst hxb
      rw [if_pos rfl] at hx
      cases hx
      refine .inl ⟨.inl rfl,.inl (by simp [ag.give]),hd,c,t,?_,fun y v hy=>?_⟩
      · simp only [ag.give,if_true];exact gi w _
      · obtain ⟨u,h1,h2⟩:=hc y v hy
        exact ⟨u,h1,h2.mono E W⟩
    · rw [if_neg hxb] at hx
      rcases hh.cell x e hx with ⟨h1,h2,h3⟩ | ⟨h1,h2⟩
      · have e1:(ρ.give b w.heap.size).at_ x=ρ.at_ x:=E.at_ x h1
        rw [e1]
        exact .inl ⟨.inr h1,.inr h2,h3.mono E W (yL (hh.liveLt _ h2))⟩
      · exact .inr ⟨fun q=>q.elim (fun q=>hxb q.symm) h1,h2⟩
  · rw [cS] at h1 h2
    have old:∀ z g,b≠z→(if b=z then some d else aR h z)=some g→(ρ.give b w.heap.size).ok z→ρ.ok z∧(ρ.give b w.heap.size).at_ z=ρ.at_ z∧ρ.at_ z<w.heap.size∧aR h z=some g:=by
      intro z g hz hg hok
      rw [if_neg hz] at hg
      have k1:ρ.ok z:=hok.resolve_left (fun q=>hz q.symm)
      exact ⟨k1,E.at_ z k1,hh.liveLt _ (hh.real hg k1).1,hg⟩
    have new:(ρ.give b w.heap.size).at_ b=w.heap.size:=by simp [ag.give]
    by_cases hx:b=x
    · by_cases hy:b=y
      · omega
      · obtain ⟨_,q1,q2,_⟩:=old y f hy h2 ok2
        subst hx;omega
    · obtain ⟨q0,q1,q2,q3⟩:=old x e hx h1 ok1
      by_cases hy:b=y
      · subst hy;omega
      · obtain ⟨r0,r1,r2,r3⟩:=old y f hy h2 ok2
        exact hh.inj x y e f q3 r3 q0 r0 (by omega)
  · rcases hl with rfl | hl
    · exact absurd (hh.outLt _ _ ho) (by omega)
    · exact hh.fresh bl hl j ho
  · rcases hl with rfl | hl
    · simp
    · have:=hh.liveLt bl hl;simp;omega
  · have:=hh.outLt j bl ho;simp;omega
  · rcases hx with rfl | hx
    · exact hn
    · exact hh.lt x hx
theorem fA.setCell{M:Nat→Prop}(w:World)(a:Addr)(v:Value)(hM:M a.block) :fA M w (w.setCell a v):=by
  refine ⟨rfl,rfl,rfl,by simp,fun b _ hb=>?_,fun b c t fz hc=>?_⟩
  · simp only [World.setCell,Array.getElem?_modify]
    rw [if_neg (fun e:a.block=b=>hb (by rw [←e];exact hM))]
  · by_cases e:a.block=b
    · subst e
      simp only [World.setCell,Array.getElem?_modify,if_true,hc,Option.map_some]
      refine ⟨_,rfl,?_⟩
      split<;>simp
    · refine ⟨c,?_,rfl⟩
      simp only [World.setCell,Array.getElem?_modify]
      rw [if_neg e];exact hc
theorem HR.store{ρ:ag}{w:World}{h:bI}{n b x:Nat}{d d':aE}{u:Value}(hh:HR ρ w h n)(hg:aR h b=some d) 
    (hd:d'.recKept) (hx:∀ y e,d'.cell? y=some e→(y=x∧VR ρ w e u)∨(y≠x∧d.cell? y=some e)) (he:∃ e,d.cell? x=some e) :
    HR ρ (w.setCell ⟨ρ.at_ b,x,none⟩ u) (dm h b d') n∧fA ρ.live w (w.setCell ⟨ρ.at_ b,x,none⟩ u):=by
  obtain ⟨hok,hl,hr,c,t,hc,hcv⟩:=hh.solid hg ⟨x,he⟩
  have W:fA ρ.live w (w.setCell ⟨ρ.at_ b,x,none⟩ u):=fA.setCell w _ u hl
  have E:=jb.refl ρ w
  refine ⟨⟨fun y e hy=>?_,fun y z e f h1 h2 ok1 ok2 he=>?_,hh.fresh,fun bl hl=>?_,fun j bl ho=>?_,hh.lt,fun x hx=>(hh.rom x hx).mono E W⟩,W⟩
  · rw [cS] at hy
    by_cases hb:b=y
    · subst hb
      rw [if_pos rfl] at hy
      cases hy
      refine .inl ⟨hok,hl,hd,c.setIfInBounds x u,t,?_,fun y e hy=>?_⟩
      · simp [World.setCell,Array.getElem?_modify,hc]
      · obtain ⟨e0,he0⟩:=he
        obtain ⟨u0,hu0,_⟩:=hcv x e0 he0
        have hlt:x<c.size:=by
          rcases Nat.lt_or_ge x c.size with h | h
          · exact h
          · rw [Array.getElem?_eq_none h] at hu0;cases hu0
        rcases hx y e hy with ⟨rfl,hv⟩ | ⟨hne,ho⟩
        · exact ⟨u,by simp [hlt],hv.mono E W⟩
        · obtain ⟨u1,h1,h2⟩:=hcv y e ho
          exact ⟨u1,by rw [Array.getElem?_setIfInBounds,if_neg (fun q=>hne q.symm)];exact h1,h2.mono E W⟩
    · rw [if_neg hb] at hy
      rcases hh.cell y e hy with ⟨k1,k2,k3⟩ | k
      · refine .inl ⟨k1,k2,k3.mono E W ?_⟩
        simp only [World.setCell,Array.getElem?_modify]
        rw [if_neg (fun q=>hb (hh.inj b y d e hg hy hok k1 q))]
      · exact .inr k
  · have key:∀ z g,(if b=z then some d' else aR h z)=some g→∃ g',aR h z=some g':=by
      intro z g hz
      by_cases q:b=z
      · subst q;exact ⟨d,hg⟩
      · rw [if_neg q] at hz;exact ⟨g,hz⟩
    rw [cS] at h1 h2
    obtain ⟨_,g1⟩:=key y e h1
    obtain ⟨_,g2⟩:=key z f h2
    exact hh.inj y z _ _ g1 g2 ok1 ok2 he
  · have:=hh.liveLt bl hl;simp;exact this
  · have:=hh.outLt j bl ho;simp;exact this
structure aK where
  tmps:List AV
  heap:bI
  next:Nat
structure SR (ρ:ag) (st:aK) (a:Act) (w:World):Prop where
  defers:a.defers=[]
  tmps:c7 ρ w st.tmps a.tmps.toList
  heap:HR ρ w st.heap st.next
theorem c7.length{ρ:ag}{w:World} :∀ {l:List AV} {c:List Value},c7 ρ w l c→l.length=c.length
  | _,_,.nil=>rfl
  | _,_,.cons _ _ _ _ _ t=>by simp [t.length]
theorem c7.get{ρ:ag}{w:World} :∀ {l:List AV} {c:List Value} (_:c7 ρ w l c) (i:Nat) (v:AV),l[i]? = some v→∃ u,c[i]? = some u∧VR ρ w v u
  | _,_,.nil,i,v,e=>by simp at e
  | _,_,.cons _ u _ _ h t,0,v,e=>by simp at e;subst e;exact ⟨u,by simp,h⟩
  | _,_,.cons _ _ _ _ h t,i+1,v,e=>by simp at e ⊢;exact t.get i v e
theorem c7.set{ρ:ag}{w:World}{v:AV}{u:Value}(hv:VR ρ w v u) :∀ {l:List AV} {c:List Value} (_:c7 ρ w l c) (i:Nat),c7 ρ w (l.set i v) (c.set i u)
  | _,_,.nil,i=>by simp;exact .nil
  | _,_,.cons a b l c h t,0=>by simp;exact .cons _ _ _ _ hv t
  | _,_,.cons a b l c h t,i+1=>by simp;exact .cons _ _ _ _ h (t.set hv i)
theorem c7.append{ρ:ag}{w:World}{l':List AV}{c':List Value}(h':c7 ρ w l' c') :∀ {l:List AV} {c:List Value} (_:c7 ρ w l c),c7 ρ w (l++l') (c++c')
  | _,_,.nil=>h'
  | _,_,.cons a b l c h t=>.cons _ _ _ _ h (c7.append h' t)
theorem c7.replicate{ρ:ag}{w:World}(n:Nat)(u:Value) :c7 ρ w (List.replicate n .any) (List.replicate n u):=by
  induction n with
  | zero=>exact .nil
  | succ n ih=>exact .cons _ _ _ _ (.any u) ih
def OX(x y:Nat) :Nat:=(FloatKind.f64.format.add x y).getD EQ
def sW(x y:Nat) :Nat:=(FloatKind.f64.format.sub x y).getD EQ
def OY(x y:Nat) :Nat:=(FloatKind.f64.format.mul x y).getD EQ
def fdiv(x y:Nat) :Nat:=(FloatKind.f64.format.div x y).getD EQ
def Li(x:Nat) :Nat:=(FloatKind.f64.format.sqrt x).getD EQ
def Lj(x:Nat) :Nat:=x ^^^ 2^63
def jU(x y:Nat) :Option Ordering:=FloatKind.f64.format.order x y
def O5(x y:Nat) :Bool:=jU x y==some .eq
def flt(x y:Nat) :Bool:=jU x y==some .lt
def O6(x y:Nat) :Bool:=jU x y==some .lt||jU x y==some .eq
def ES(x y:Nat) :Bool:=jU x y==some .gt
def O7(x y:Nat) :Bool:=jU x y==some .gt||jU x y==some .eq
def oP(x y:Nat) :Bool:=jU x y != some .eq
theorem FR.refl(ex:Bool)(x:Nat) :FR ex x x:=.inl rfl
theorem mz{x:Nat}(h:isNaN x=true) :∃ s t,FloatKind.f64.format.read x=.nan s t:=by
  unfold isNaN FloatKind.decode Ieee.Datum.isNaN at h
  split at h
  · rename_i s t e;exact ⟨s,t,e⟩
  · cases h
theorem tR:isNaN EQ=true:=by decide +kernel
theorem Kn(s:Bool)(t:Nat)(d:Ieee.Datum) :(Ieee.Datum.nan s t).sum d=none:=by cases d<;>rfl
theorem Ko(s:Bool)(t:Nat)(d:Ieee.Datum) :d.sum (.nan s t)=none:=by cases d<;>rfl
theorem Bj(s:Bool)(t:Nat)(d:Ieee.Datum) :(Ieee.Datum.nan s t).product d=none:=by cases d<;>rfl
theorem Bk(s:Bool)(t:Nat)(d:Ieee.Datum) :d.product (.nan s t)=none:=by cases d<;>rfl
theorem yM(k:Nat)(s:Bool)(t:Nat)(d:Ieee.Datum) :(Ieee.Datum.nan s t).quotient k d=none:=by cases d<;>rfl
theorem yN(k:Nat)(s:Bool)(t:Nat)(d:Ieee.Datum) :d.quotient k (.nan s t)=none:=by cases d<;>rfl
theorem ET(s:Bool)(t:Nat)(d:Ieee.Datum) :(Ieee.Datum.nan s t).order d=none:=by cases d<;>rfl
theorem EU(s:Bool)(t:Nat)(d:Ieee.Datum) :d.order (.nan s t)=none:=by cases d<;>rfl
theorem yA(op:BinOp){x y:Nat}(h:isNaN x=true∨isNaN y=true) :floatBits op .f64 x y=none:=by
  have hn:∀ {z:Nat} {P:Prop},isNaN z=true→(∀ s t,FloatKind.f64.format.read z=.nan s t→P)→P:=fun h k=>let ⟨s,t,e⟩:=mz h;k s t e
  unfold floatBits
  rcases h with h | h<;>obtain ⟨s,t,e⟩:=mz h<;>cases op <;>
    simp [Ieee.Format.add,Ieee.Format.sub,Ieee.Format.mul,Ieee.Format.div,e,Kn,Ko,Bj,Bk,yM,yN,Ieee.Datum.opposite]
def NO(op:BinOp)(x y:Nat) :Nat:=(floatBits op .f64 x y).getD EQ
theorem NP{op:BinOp}{e1 e2:Bool}{x y x' y':Nat}(h1:FR e1 x x')(h2:FR e2 y y') :floatBits op .f64 x' y'=floatBits op .f64 x y:=by
  rcases h1 with rfl | ⟨_,n1,n1'⟩
  · rcases h2 with rfl | ⟨_,n2,n2'⟩
    · rfl
    · rw [yA op (.inr n2),yA op (.inr n2')]
  · rw [yA op (.inl n1),yA op (.inl n1')]
theorem uH{x y:Nat}(h:isNaN x=true∨isNaN y=true) :jU x y=none:=by
  unfold jU Ieee.Format.order
  rcases h with h | h<;>obtain ⟨s,t,e⟩:=mz h<;>simp [e,ET,EU]
theorem NQ{e1 e2:Bool}{x y x' y':Nat}(h1:FR e1 x x')(h2:FR e2 y y') :jU x' y'=jU x y:=by
  rcases h1 with rfl | ⟨_,n1,n1'⟩
  · rcases h2 with rfl | ⟨_,n2,n2'⟩
    · rfl
    · rw [uH (.inr n2),uH (.inr n2')]
  · rw [uH (.inl n1),uH (.inl n1')]
theorem mA(x:Nat) :isNaN x=decide (9218868437227405312<x%9223372036854775808):=by
  unfold isNaN FloatKind.decode Ieee.Format.read Ieee.Datum.isNaN
  have h1:Ieee.Format.signWeight FloatKind.f64.format=9223372036854775808:=by decide
  have h2:Ieee.Format.binade FloatKind.f64.format=4503599627370496:=by decide
  have h3:Ieee.Format.infRung FloatKind.f64.format=9218868437227405312:=by decide
  simp only [h1,h2,h3]
  generalize x%9223372036854775808=r
  by_cases c1:r<4503599627370496
  · simp [c1];omega
  · by_cases c2:r<9218868437227405312
    · simp [c1,c2];omega
    · by_cases c3:r=9218868437227405312
      · simp [c3]
      · simp [c1,c2,c3];omega
theorem JC(x y t:Nat) :isNaN ((Question.nanBits .f64 x y).cut t)=true:=by
  rw [mA]
  have e:(Question.nanBits .f64 x y).cut t=t%2*2^63+0x7ff0000000000000+1+t/2%(2^52-1):=rfl
  rw [e]
  have hb:t/2%(2^52-1)<2^52-1:=Nat.mod_lt _ (by decide)
  generalize t/2%(2^52-1)=r at hb
  apply decide_eq_true
  rcases Nat.mod_two_eq_zero_or_one t with h | h<;>rw [h]<;>omega
theorem nt{P:Program}{op:BinOp}(ho:op=.add∨op=.sub∨op=.mul∨op=.quo){e1 e2:Bool}{x y x' y':Nat}(h1:FR e1 x x')(h2:FR e2 y y')(w:World) :
    ∃ u k,(Op.floatArith op .f64 x' y').run P w=.ok (.float .f64 u) { w with drawn:=k }∧FR false (NO op x y) u:=by
  have e:=NP (op:=op) h1 h2
  have key:∀ r,floatBits op .f64 x' y'=r→(Op.floatArith op .f64 x' y')=(match r with | some r=>pure (.float .f64 r) | none=>do pure (.float .f64 (←choose (.nanBits .f64 x' y')))):=by
    intro r hr
    subst hr
    rcases ho with rfl | rfl | rfl | rfl<;>rfl
  cases hr:floatBits op .f64 x' y' with
  | some r =>
    rw [key _ hr]
    refine ⟨r,w.drawn,rfl,.inl ?_⟩
    rw [e] at hr;simp [NO,hr]
  | none =>
    rw [key _ hr]
    refine ⟨_,w.drawn+1,rfl,.inr ⟨rfl,?_,JC x' y' _⟩⟩
    rw [e] at hr;simp [NO,hr,tR]
def eX(k:IntKind)(e:Int) :Bool:=decide (k.min≤e)&&decide (e≤k.max)
def fB(i:Int)(n:Nat) :Bool:=decide (0≤i)&&decide (i<(n:Int))
def qv(i:Int)(n:Nat) :Bool:=decide (0≤i)&&decide (i≤(n:Int))
def er:Nat→Nat→Nat
  | 0,k=>k
  | i+1,k=>i+1+k
def yO(l:Nat) :Nat→Nat
  | 1=>l
  | s=>l*s
@[simp] theorem fj (i k:Nat):er i k=i+k:=by cases i<;>simp [er]
@[simp] theorem o8 (l s:Nat):yO l s=l*s:=by unfold yO;split<;>simp_all
def wa(w es:Nat) :Option Nat:=bif Nat.beq es w then some 1 else bif Nat.beq w 1 then some es else none
theorem so{w es s:Nat}(h:wa w es=some s) :s*w=es:=by
  unfold wa at h
  cases e1:Nat.beq es w with
  | true=>simp only [e1,cond_true] at h;cases h;have:=Nat.eq_of_beq_eq_true e1;omega
  | false =>
    simp only [e1,cond_false] at h
    cases e2:Nat.beq w 1 with
    | true=>simp only [e2,cond_true] at h;cases h;have:=Nat.eq_of_beq_eq_true e2;subst this;omega
    | false=>simp only [e2,cond_false] at h;cases h
def dQ:Value→AV
  | .bool b=>.bool true b
  | .int k n=>.int k n
  | .float .f64 b=>.flt true b
  | .string s=>.str s
  | .pointer none=>.nptr
  | .slice none 0 0=>.nsl
  | .nilFunc=>.nfn
  | .nilIface=>.niface
  | _=>.any
theorem mB(ρ:ag)(w:World)(v:Value) :VR ρ w (dQ v) v:=by
  unfold dQ
  split<;>first | exact .bool _ _ | exact .int _ _ | exact .flt _ _ _ (.inl rfl) | exact .str _ | exact .nptr | exact .nsl | exact .nfn | exact .niface | exact .any _
def JD:List (Nat×aE)→Nat→AV
  | [],_=>.any
  | (k,d)::l,g=>match Nat.beq k g with
    | true=>.iptr .free d 1 0 0
    | false=>JD l g
theorem EV{ρ:ag}{w:World}{g:Nat} :∀ {l:List (Nat×aE)},(∀ x∈l,VR ρ w (.iptr .free x.2 1 0 0) (.pointer (some ⟨x.1,0,none⟩)))→VR ρ w (JD l g) (.pointer (some ⟨g,0,none⟩))
  | [],_=>.any _
  | (k,d)::l,h=>by
    simp only [JD]
    split
    · rename_i e
      have:=h (k,d) (by simp)
      rw [←Nat.eq_of_beq_eq_true e];exact this
    · exact EV fun x hx=>h x (by simp [hx])
def MO(tmps:List AV) :Operand→AV
  | .tmp t=>(tmps[t]?).getD .any
  | .const v=>dQ v
  | .func f=>.fn (.func f) [] []
  | .global g=>JD Rom.tab g
theorem yP{ρ:ag}{w:World}{tmps:List AV}{a:Act}(hr:∀ x∈Rom.tab,VR ρ w (.iptr .free x.2 1 0 0) (.pointer (some ⟨x.1,0,none⟩)))(h:c7 ρ w tmps a.tmps.toList)(x:Operand) :VR ρ w (MO tmps x) (a.eval x):=by
  cases x with
  | tmp t =>
    simp only [MO,Act.eval]
    cases e:tmps[t]? with
    | none=>exact .any _
    | some v =>
      obtain ⟨u,h1,h2⟩:=h.get t v e
      have:a.tmps.getD t undef=u:=by
        rw [Array.getD_eq_getD_getElem?];rw [Array.getElem?_toList] at h1;rw [h1];rfl
      rw [this];exact h2
  | const v=>exact mB ρ w v
  | func f=>exact .fn _ _ _ _ _ .nil .nil
  | global g=>exact EV hr
def td(k:IntKind)(e:Int) :AV×List Bool :=
  match k with
  | .i64=>(.int .i64 e,[eX .i64 e])
  | k=>(.int k (k.wrap e),[])
def cN(op:BinOp)(k:IntKind)(x y:Int) :Int :=
  k.wrap ((match op with
    | .and=>BitVec.ofInt k.bits x &&& BitVec.ofInt k.bits y
    | .or=>BitVec.ofInt k.bits x ||| BitVec.ofInt k.bits y
    | .xor=>BitVec.ofInt k.bits x ^^^ BitVec.ofInt k.bits y
    | _=>BitVec.ofInt k.bits x &&& ~~~ BitVec.ofInt k.bits y).toNat)
def dp(a b:IntKind) :Bool:=decide (a=b)
def Ox(op:BinOp)(x y:Int) :Option Bool :=
  match op with
  | .eql=>some (x==y)
  | .neq=>some (x != y)
  | .lss=>some (decide (x<y))
  | .leq=>some (decide (x≤y))
  | .gtr=>some (decide (x>y))
  | .geq=>some (decide (x≥y))
  | _=>none
def Hx(op:BinOp)(k:IntKind)(x y:Int) :Option (AV×List Bool) :=
  match op with
  | .add=>some (td k (x+y))
  | .sub=>some (td k (x-y))
  | .mul=>some (td k (x*y))
  | .quo=>some ((td k (x.tdiv y)).1,(y != 0)::(td k (x.tdiv y)).2)
  | .rem=>some (.int k (x.tmod y),[y != 0])
  | .and | .or | .xor | .andNot=>some (.int k (cN op k x y),[])
  | .shl | .shr=>none
  | op=>(Ox op x y).map fun b=>(.bool false b,[])
def Hy(op:BinOp)(x y:Nat) :Option AV :=
  match op with
  | .add=>some (.flt false (OX x y))
  | .sub=>some (.flt false (sW x y))
  | .mul=>some (.flt false (OY x y))
  | .quo=>some (.flt false (fdiv x y))
  | .eql=>some (.bool false (O5 x y))
  | .neq=>some (.bool false (oP x y))
  | .lss=>some (.bool false (flt x y))
  | .leq=>some (.bool false (O6 x y))
  | .gtr=>some (.bool false (ES x y))
  | .geq=>some (.bool false (O7 x y))
  | _=>none
def Hz(op:BinOp)(x y:ByteArray) :Option (AV×List Bool) :=
  match op with
  | .add=>some (.str (x++y),[decide (x.size+y.size≤9223372036854775807)])
  | .eql=>some (.bool false (x.toList==y.toList),[])
  | .neq=>some (.bool false (!(x.toList==y.toList)),[])
  | .lss=>some (.bool false (Op.bytesLess x.toList y.toList),[])
  | .leq=>some (.bool false (Op.bytesLess x.toList y.toList||x.toList==y.toList),[])
  | .gtr=>some (.bool false (!(Op.bytesLess x.toList y.toList||x.toList==y.toList)),[])
  | .geq=>some (.bool false (!Op.bytesLess x.toList y.toList),[])
  | _=>none
def yQ:AV→Option (Bool×List Bool)
  | .nsl=>some (true,[])
  | .imm _ _ _ _ _ len=>some (false,[Nat.blt 0 len])
  | .sl _ _ _ _ len _=>some (false,[Nat.blt 0 len])
  | .zsl b=>some (b,[])
  | _=>none
def uI:AV→Option (Bool×List Bool)
  | .nptr=>some (true,[])
  | .ptr .. | .iptr ..=>some (false,[])
  | _=>none
def wb(op:BinOp)(r:Option (Bool×List Bool)) :Option (AV×List Bool) :=
  match op,r with
  | .eql,some (b,o)=>some (.bool true b,o)
  | .neq,some (b,o)=>some (.bool true (!b),o)
  | _,_=>none
def Di(wr:Bool)(op:BinOp)(k:IntKind)(x y:Int) :Option (AV×List Bool) :=
  match wr,k,op with
  | true,.i64,.add=>some (.int .i64 (IntKind.i64.wrap (x+y)),[])
  | true,.i64,.sub=>some (.int .i64 (IntKind.i64.wrap (x-y)),[])
  | true,.i64,.mul=>some (.int .i64 (IntKind.i64.wrap (x*y)),[])
  | _,k,op=>Hx op k x y
def wc(P:Program)(t:TypeId) :Bool:=match P.underlying t with | some (.int _)=>true | _=>false
def qx(P:Program)(t:TypeId) :Bool :=
  match P.underlying t with
  | some (.struct fs)=>match fs.toList with
    | [f, g] => (wc P f.type && wc P g.type) && ((Nat.beq f.offset 0 && Nat.beq g.offset 1) && ((f.name != "_" && g.name != "_") && (!P.stoodInHeld t && !P.eqGuardType P.depth t)))
    | _=>false
  | _=>false
def JE:AV→AV→Option Bool
  | .agg [.int k a,.int q b],.agg [.int k' a',.int q' b']=>bif dp k k'&&dp q q' then some (a==a'&&b==b') else none
  | _,_=>none
def MP(wr:Bool)(P:Program)(op:BinOp)(t:TypeId)(x y:AV) :Option (AV×List Bool) :=
  match op,x,y with
  | .shl,.int k a,.int _ b=>some (.int k (k.wrap (a*2^(min b.toNat k.bits))),[decide (0≤b)])
  | .shr,.int k a,.int _ b=>some (.int k (a.fdiv (2^(min b.toNat k.bits))),[decide (0≤b)])
  | op,.int k a,.int k' b=>bif dp k k' then Di wr op k a b else none
  | op,.flt _ a,.flt _ b=>(Hy op a b).map fun v=>(v,[])
  | op,.str a,.str b=>Hz op a b
  | .eql,.bool _ a,.bool _ b=>match P.underlying t with | some .bool=>some (.bool false (a==b),[]) | _=>none
  | .neq,.bool _ a,.bool _ b=>match P.underlying t with | some .bool=>some (.bool false (!(a==b)),[]) | _=>none
  | .eql,.agg xs,.agg ys=>bif qx P t then (JE (.agg xs) (.agg ys)).map fun b=>(.bool false b,[]) else none
  | .neq,.agg xs,.agg ys=>bif qx P t then (JE (.agg xs) (.agg ys)).map fun b=>(.bool false (!b),[]) else none
  | op,a,.nsl=>match P.underlying t with | some (.slice _)=>wb op (yQ a) | _=>none
  | op,a,.nptr=>match P.underlying t with | some (.pointer _)=>wb op (uI a) | _=>none
  | _,_,_=>none
def fC(P:Program)(ρ:ag)(w:World)(s:Sem Value)(v:AV) :Prop:=∃ u k,s.run P w=.ok u { w with drawn:=k }∧VR ρ w v u
theorem fC.plain{P:Program}{ρ:ag}{w:World}{s:Sem Value}{v:AV}{u:Value}(h:s.run P w=.ok u w)(hv:VR ρ w v u) :fC P ρ w s v:=⟨u,w.drawn,h,hv⟩
theorem fC.ret{P:Program}{ρ:ag}{w:World}{v:AV}{u:Value}(hv:VR ρ w v u) :fC P ρ w (Pure.pure u) v:=.plain rfl hv
theorem Lk{k:IntKind}{e:Int}(h:eX k e=true) :k.wrap e=e:=by
  simp only [eX,Bool.and_eq_true,decide_eq_true_eq] at h
  cases k<;>simp [IntKind.min,IntKind.max,IntKind.signed,IntKind.bits] at h<;>simp [IntKind.wrap,IntKind.signed,IntKind.bits]<;>(try split)<;>omega
def az:List Bool→Prop
  | []=>True
  | b::l=>b=true∧az l
theorem yR(ρ:ag)(w:World)(k:IntKind)(e:Int)(h:az (td k e).2) :VR ρ w (td k e).1 (.int k (k.wrap e)):=by
  cases k<;>simp only [td] at h ⊢ <;> first | exact .int _ _ | (rw [Lk h.1];exact .int _ _)
theorem Dj{P:Program}{ρ:ag}{w:World}{op:BinOp}{k:IntKind}{x y:Int}{v:AV}{obs:List Bool}(h:Hx op k x y=some (v,obs))(ho:az obs)(t:TypeId) :
    fC P ρ w (binOp op t (.int k x) (.int k y)) v:=by
  have nz:∀ {z:Int},(z != 0)=true→¬ z=0:=fun h e=>by subst e;simp at h
  have ar:∀ e,td k e=(v,obs)→VR ρ w v (.int k (k.wrap e)):=by
    intro e h
    have h1:=congrArg Prod.fst h
    have h2:=congrArg Prod.snd h
    simp only at h1 h2
    rw [←h1];exact yR ρ w k e (by rw [h2];exact ho)
  cases op<;>simp only [Hx,Ox,Option.map,Option.some.injEq,reduceCtorEq] at h
  case add=>simp only [binOp,Op.intArith,ne_eq,not_true_eq_false,if_false];exact .ret (ar _ h)
  case sub=>simp only [binOp,Op.intArith,ne_eq,not_true_eq_false,if_false];exact .ret (ar _ h)
  case mul=>simp only [binOp,Op.intArith,ne_eq,not_true_eq_false,if_false];exact .ret (ar _ h)
  case quo =>
    simp only [Prod.mk.injEq] at h;obtain ⟨rfl,rfl⟩:=h
    have:=nz ho.1
    simp only [binOp,Op.intDiv,this,if_false,ne_eq,not_true_eq_false]
    exact .ret (yR ρ w k _ ho.2)
  case rem =>
    simp only [Prod.mk.injEq] at h;obtain ⟨rfl,rfl⟩:=h
    have:=nz ho.1
    simp only [binOp,Op.intDiv,this,if_false,ne_eq,not_true_eq_false]
    exact .ret (.int _ _)
  all_goals (simp only [Prod.mk.injEq] at h;obtain ⟨rfl,rfl⟩:=h;simp only [binOp,Op.intBits,Op.intCmp,ne_eq,not_true_eq_false,if_false];first | exact .ret (.int _ _) | exact .ret (.bool _ _))
theorem Dk{P:Program}{ρ:ag}{w:World}{op:BinOp}{e1 e2:Bool}{x y x' y':Nat}{v:AV}(h1:FR e1 x x')(h2:FR e2 y y')(h:Hy op x y=some v)(t:TypeId) :
    fC P ρ w (binOp op t (.float .f64 x') (.float .f64 y')) v:=by
  have eo:=NQ h1 h2
  unfold jU at eo
  cases op<;>simp only [Hy,Option.some.injEq,reduceCtorEq] at h<;>subst h
  case add=>obtain ⟨u,k,r,hv⟩:=nt (P:=P) (op:=.add) (by simp) h1 h2 w;exact ⟨_,k,by simpa [binOp] using r,.flt _ _ _ hv⟩
  case sub=>obtain ⟨u,k,r,hv⟩:=nt (P:=P) (op:=.sub) (by simp) h1 h2 w;exact ⟨_,k,by simpa [binOp] using r,.flt _ _ _ hv⟩
  case mul=>obtain ⟨u,k,r,hv⟩:=nt (P:=P) (op:=.mul) (by simp) h1 h2 w;exact ⟨_,k,by simpa [binOp] using r,.flt _ _ _ hv⟩
  case quo=>obtain ⟨u,k,r,hv⟩:=nt (P:=P) (op:=.quo) (by simp) h1 h2 w;exact ⟨_,k,by simpa [binOp] using r,.flt _ _ _ hv⟩
  all_goals
    simp only [binOp,Op.floatCmp,ne_eq,not_true_eq_false,if_false]
    refine .ret ?_
    simp only [O5,oP,flt,O6,ES,O7,jU,←eo]
    exact .bool _ _
theorem Dl{P:Program}{ρ:ag}{w:World}{op:BinOp}{x y:ByteArray}{v:AV}{obs:List Bool}(h:Hz op x y=some (v,obs))(ho:az obs)(t:TypeId) :
    fC P ρ w (binOp op t (.string x) (.string y)) v:=by
  cases op<;>simp only [Hz,Option.some.injEq,Prod.mk.injEq,reduceCtorEq] at h<;>obtain ⟨rfl,rfl⟩:=h
  case add =>
    have h1:x.size+y.size≤9223372036854775807:=of_decide_eq_true ho.1
    have h2 : ¬ ((x.size+y.size:Nat):Int)>IntKind.i64.max:=by
      have:IntKind.i64.max=9223372036854775807:=by decide
      rw [this];omega
    simp only [binOp,Op.stringOp,h2,if_false]
    exact .ret (.str _)
  all_goals (simp only [binOp,Op.stringOp];exact .ret (.bool _ _))
theorem oQ{P:Program}{t:TypeId}(hu:P.underlying t=some .bool)(d:Nat)(a b:Bool)(w:World) :(Op.equalIn (d+1) t (.bool a) (.bool b)).run P w=.ok (a==b) w:=by
  unfold Op.equalIn;simp [run_underlying hu]
theorem EW{P:Program}{t:TypeId}(hu:P.underlying t=some .bool)(a b:Bool)(w:World) :(binOp .eql t (.bool a) (.bool b)).run P w=.ok (.bool (a==b)) w:=by
  have h:=oQ hu 9999 a b w
  show (do pure (Value.bool (←Op.equalIn 10000 t (.bool a) (.bool b))):Sem Value).run P w=_
  rw [Sem.run_bind,h];rfl
theorem EX{P:Program}{t:TypeId}(hu:P.underlying t=some .bool)(a b:Bool)(w:World) :(binOp .neq t (.bool a) (.bool b)).run P w=.ok (.bool (!(a==b))) w:=by
  have h:=oQ hu 9999 a b w
  show (do pure (Value.bool (!(←Op.equalIn 10000 t (.bool a) (.bool b)))):Sem Value).run P w=_
  rw [Sem.run_bind,h];rfl
theorem JF{P:Program}{t:TypeId}{x y:Value}{b:Bool}{w:World}(h:∀ d,(Op.equalIn (d+1) t x y).run P w=.ok b w) :
    (do pure (Value.bool (←Op.equal t x y)):Sem Value).run P w=.ok (.bool b) w∧(do pure (Value.bool (!(←Op.equal t x y))):Sem Value).run P w=.ok (.bool (!b)) w:=by
  have h':(Op.equal t x y).run P w=.ok b w:=h 9999
  constructor<;>(rw [Sem.run_bind,h'];rfl)
theorem uJ{P:Program}{ρ:ag}{w:World}{op:BinOp}{t:TypeId}{x y:Value}{v:AV}{obs:List Bool}{r:Option (Bool×List Bool)}(h:wb op r=some (v,obs)) 
    (e1:binOp .eql t x y=(do pure (Value.bool (←Op.equal t x y)):Sem Value)) (e2:binOp .neq t x y=(do pure (Value.bool (!(←Op.equal t x y))):Sem Value))
    (hr:∀ b o,r=some (b,o)→o=obs→∀ d,(Op.equalIn (d+1) t x y).run P w=.ok b w):fC P ρ w (binOp op t x y) v:=by
  unfold wb at h
  split at h
  · rename_i b o
    simp only [Option.some.injEq,Prod.mk.injEq] at h;obtain ⟨rfl,rfl⟩:=h
    rw [e1];exact .plain (JF (hr b o rfl rfl)).1 (.bool _ _)
  · rename_i b o
    simp only [Option.some.injEq,Prod.mk.injEq] at h;obtain ⟨rfl,rfl⟩:=h
    rw [e2];exact .plain (JF (hr b o rfl rfl)).2 (.bool _ _)
  · cases h
theorem Kp{P:Program}{ρ:ag}{w:World}{t e:TypeId}(hu:P.underlying t=some (.slice e)){x:AV}{x':Value}(hx:VR ρ w x x'){b:Bool}{o:List Bool}(h:yQ x=some (b,o))(ho:az o)(d:Nat) :
    (Op.equalIn (d+1) t x' (.slice none 0 0)).run P w=.ok b w:=by
  unfold yQ at h
  split at h<;>simp only [Option.some.injEq,Prod.mk.injEq,reduceCtorEq] at h<;>obtain ⟨rfl,rfl⟩:=h
  · cases hx
    unfold Op.equalIn;simp [run_underlying hu]
  · have h0:=ho.1
    cases hx with
    | imm=>unfold Op.equalIn;simp [run_underlying hu]
    | immEnd=>simp at h0
  · have h0:=ho.1
    cases hx with
    | sl=>unfold Op.equalIn;simp [run_underlying hu]
    | slEnd=>simp at h0
  · cases hx with | zsl a c=>cases a<;>(unfold Op.equalIn;simp [run_underlying hu])
theorem HA{P:Program}{ρ:ag}{w:World}{t e:TypeId}(hu:P.underlying t=some (.pointer e)){x:AV}{x':Value}(hx:VR ρ w x x'){b:Bool}{o:List Bool}(h:uI x=some (b,o))(d:Nat) :
    (Op.equalIn (d+1) t x' (.pointer none)).run P w=.ok b w:=by
  unfold uI at h
  split at h<;>simp only [Option.some.injEq,Prod.mk.injEq,reduceCtorEq] at h<;>obtain ⟨rfl,rfl⟩:=h
  all_goals (cases hx;unfold Op.equalIn;simp [run_underlying hu])
theorem uK{ρ:ag}{w:World}{x:AV}{x':Value}(hx:VR ρ w x x'){b:Bool}{o:List Bool}(h:yQ x=some (b,o)) :∃ a l c,x'=.slice a l c:=by
  unfold yQ at h
  split at h<;>first | (cases hx<;>exact ⟨_,_,_,rfl⟩) | cases h
theorem te{ρ:ag}{w:World}{x:AV}{x':Value}(hx:VR ρ w x x'){b:Bool}{o:List Bool}(h:uI x=some (b,o)) :∃ a,x'=.pointer a:=by
  unfold uI at h
  split at h<;>first | (cases hx<;>exact ⟨_,rfl⟩) | cases h
theorem nu{op:BinOp}{r:Option (Bool×List Bool)}{v:AV}{obs:List Bool}(h:wb op r=some (v,obs)) :∃ b,r=some (b,obs)∧(op=.eql∨op=.neq):=by
  unfold wb at h
  split at h<;>simp only [Option.some.injEq,Prod.mk.injEq,reduceCtorEq] at h<;>obtain ⟨_,rfl⟩:=h
  · exact ⟨_,rfl,.inl rfl⟩
  · exact ⟨_,rfl,.inr rfl⟩
theorem Bl{P:Program}{ρ:ag}{w:World}{wr:Bool}{op:BinOp}{k:IntKind}{x y:Int}{v:AV}{obs:List Bool}(h:Di wr op k x y=some (v,obs))(ho:az obs)(t:TypeId) :
    fC P ρ w (binOp op t (.int k x) (.int k y)) v:=by
  unfold Di at h
  split at h
  · simp only [Option.some.injEq,Prod.mk.injEq] at h;obtain ⟨rfl,rfl⟩:=h
    simp only [binOp,Op.intArith,ne_eq,not_true_eq_false,if_false];exact .ret (.int _ _)
  · simp only [Option.some.injEq,Prod.mk.injEq] at h;obtain ⟨rfl,rfl⟩:=h
    simp only [binOp,Op.intArith,ne_eq,not_true_eq_false,if_false];exact .ret (.int _ _)
  · simp only [Option.some.injEq,Prod.mk.injEq] at h;obtain ⟨rfl,rfl⟩:=h
    simp only [binOp,Op.intArith,ne_eq,not_true_eq_false,if_false];exact .ret (.int _ _)
  · exact Dj h ho t
theorem wY{P:Program}{t:TypeId}(h:qx P t=true) :P.eqGuardType P.depth t=false:=by
  unfold qx at h
  split at h
  case h_2=>cases h
  split at h
  case h_2=>cases h
  simp only [Bool.and_eq_true,Bool.not_eq_true'] at h
  exact h.2.2.2.2
theorem l8{P:Program}{t:TypeId}(h:wc P t=true){xs:Array Value}{i:Nat}{v:Value}{w:World}(hx:xs[i]? = some v) :(part t xs i).run P w=.ok v w:=by
  unfold wc at h
  split at h
  · rename_i q hu
    simp [part,isAgg,run_underlying hu,hx]
  · cases h
theorem uL{P:Program}{t:TypeId}(h:wc P t=true){k:IntKind}{a b:Int}{w:World}(d:Nat) :(Op.equalIn (d+1) t (.int k a) (.int k b)).run P w=.ok (a==b) w:=by
  unfold wc at h
  split at h
  · rename_i q hu
    unfold Op.equalIn
    simp [run_underlying hu]
  · cases h
theorem EY{P:Program}{t:TypeId}(h:qx P t=true){k q:IntKind}{a b a' b':Int}{w:World}(d:Nat) :
    (Op.equalIn (d+2) t (.agg #[.int k a,.int q b]) (.agg #[.int k a',.int q b'])).run P w=.ok (a==a'&&b==b') w:=by
  unfold qx at h
  split at h
  case h_2=>cases h
  rename_i fs hu
  split at h
  case h_2=>cases h
  rename_i f g hfs
  have hfs:fs = #[f,g]:=by rw [←fs.toArray_toList,hfs]
  subst hfs
  simp only [Bool.and_eq_true,bne_iff_ne,ne_eq,Bool.not_eq_true'] at h
  obtain ⟨⟨h1,h2⟩,⟨h3,h4⟩,⟨h5,h6⟩,h7,_⟩:=h
  have h3:=Nat.eq_of_beq_eq_true h3
  have h4:=Nat.eq_of_beq_eq_true h4
  have p1:∀ w,(part f.type #[.int k a,.int q b] 0).run P w=.ok (.int k a) w:=fun w=>l8 h1 rfl
  have p2:∀ w,(part f.type #[.int k a',.int q b'] 0).run P w=.ok (.int k a') w:=fun w=>l8 h1 rfl
  have p3:∀ w,(part g.type #[.int k a,.int q b] 1).run P w=.ok (.int q b) w:=fun w=>l8 h2 rfl
  have p4:∀ w,(part g.type #[.int k a',.int q b'] 1).run P w=.ok (.int q b') w:=fun w=>l8 h2 rfl
  rw [Op.equalIn]
  simp [run_underlying hu,h7,h5,h6,h3,h4,p1,p2,p3,p4,uL h1,uL h2]
  by_cases q1:a=a'
  · by_cases q2:b=b'<;>simp [q1,q2]
  · simp [q1]
theorem Cp{P:Program}{ρ:ag}{w:World}{t:TypeId}(ht:qx P t=true){xs ys:List AV}{x' y':Value}(hx:VR ρ w (.agg xs) x')(hy:VR ρ w (.agg ys) y'){b:Bool}(h:JE (.agg xs) (.agg ys)=some b)(d:Nat) :
    (Op.equalIn (d+2) t x' y').run P w=.ok b w:=by
  unfold JE at h
  split at h
  · rename_i k a q b1 k' a' q' b' e1 e2
    cases e1;cases e2
    cases hs:(dp k k'&&dp q q') with
    | false=>rw [hs] at h;cases h
    | true =>
      rw [hs] at h;cases h
      rw [Bool.and_eq_true] at hs
      have hk:k=k':=of_decide_eq_true hs.1
      have hq:q=q':=of_decide_eq_true hs.2
      subst hk;subst hq
      have two:∀ {c:Array Value} {m n:Int},c7 ρ w [.int k m,.int q n] c.toList→c = #[.int k m,.int q n]:=by
        intro c m n h
        have h:c.toList=[.int k m,.int q n]:=by
          generalize c.toList=l at h
          cases h with | cons _ u1 _ _ h1 t1 =>
          cases t1 with | cons _ u2 _ _ h2 t2 =>
          cases t2;cases h1;cases h2;rfl
        rw [←c.toArray_toList,h]
      cases hx with | agg _ c hc =>
      cases hy with | agg _ c' hc' =>
      rw [two hc,two hc']
      exact EY ht d
  · cases h
theorem i5{ρ:ag}{w:World}{xs:List AV}{x':Value}(hx:VR ρ w (.agg xs) x') :∃ c,x'=.agg c:=by cases hx;exact ⟨_,rfl⟩
theorem HB{P:Program}{ρ:ag}{w:World}{op:BinOp}{t:TypeId}{x y:AV}{x' y':Value}{v:AV}{obs:List Bool}(hx:VR ρ w x x')(hy:VR ρ w y y') 
    {wr:Bool} (h:MP wr P op t x y=some (v,obs)) (ho:az obs):fC P ρ w (binOp op t x' y') v:=by
  unfold MP at h
  split at h
  · cases hx;cases hy
    simp only [Option.some.injEq,Prod.mk.injEq] at h;obtain ⟨rfl,rfl⟩:=h
    have:=Int.not_lt.2 (of_decide_eq_true ho.1)
    simp only [binOp,Op.shift,this,if_false]
    exact .ret (.int _ _)
  · cases hx;cases hy
    simp only [Option.some.injEq,Prod.mk.injEq] at h;obtain ⟨rfl,rfl⟩:=h
    have:=Int.not_lt.2 (of_decide_eq_true ho.1)
    simp only [binOp,Op.shift,this,if_false]
    exact .ret (.int _ _)
  · rename_i k a k' b n1 n2
    cases hx;cases hy
    cases e:dp k k' with
    | false=>rw [e] at h;cases h
    | true =>
      rw [e] at h
      have:k=k':=of_decide_eq_true e
      subst this
      exact Bl h ho t
  · cases hx with | flt _ _ _ h1=>cases hy with | flt _ _ _ h2 =>
      simp only [Option.map_eq_some_iff] at h
      obtain ⟨v',h,e⟩:=h
      cases e
      exact Dk h1 h2 h t
  · cases hx;cases hy
    exact Dl h ho t
  · cases hx;cases hy
    split at h
    · rename_i hu
      simp only [Option.some.injEq,Prod.mk.injEq] at h;obtain ⟨rfl,rfl⟩:=h
      refine .plain (u:=.bool _) ?_ (.bool _ _)
      exact EW hu _ _ w
    · cases h
  · cases hx;cases hy
    split at h
    · rename_i hu
      simp only [Option.some.injEq,Prod.mk.injEq] at h;obtain ⟨rfl,rfl⟩:=h
      refine .plain (u:=.bool _) ?_ (.bool _ _)
      exact EX hu _ _ w
    · cases h
  · cases ht:qx P t with
    | false=>rw [ht] at h;cases h
    | true =>
      rw [ht] at h
      simp only [cond_true,Option.map_eq_some_iff] at h
      obtain ⟨b,h,e⟩:=h
      cases e
      have hr:=Cp ht hx hy h 9998
      obtain ⟨c,rfl⟩:=i5 hx
      obtain ⟨c',rfl⟩:=i5 hy
      refine .plain (u:=.bool b) ?_ (.bool _ _)
      show (do pure (Value.bool (←Op.equalIn 10000 t (.agg c) (.agg c'))):Sem Value).run P w=_
      rw [Sem.run_bind,hr];rfl
  · cases ht:qx P t with
    | false=>rw [ht] at h;cases h
    | true =>
      rw [ht] at h
      simp only [cond_true,Option.map_eq_some_iff] at h
      obtain ⟨b,h,e⟩:=h
      cases e
      have hr:=Cp ht hx hy h 9998
      obtain ⟨c,rfl⟩:=i5 hx
      obtain ⟨c',rfl⟩:=i5 hy
      refine .plain (u:=.bool (!b)) ?_ (.bool _ _)
      show (do pure (Value.bool (!(←Op.equalIn 10000 t (.agg c) (.agg c')))):Sem Value).run P w=_
      rw [Sem.run_bind,hr];rfl
  · split at h
    · rename_i hu
      obtain ⟨b,hr,hop⟩:=nu h
      obtain ⟨a,l,c,rfl⟩:=uK hx hr
      cases hy
      exact uJ h rfl rfl fun b' o' q1 q2 d=>Kp hu hx q1 (by rw [q2];exact ho) d
    · cases h
  · split at h
    · rename_i hu
      obtain ⟨b,hr,hop⟩:=nu h
      obtain ⟨a,rfl⟩:=te hx hr
      cases hy
      exact uJ h rfl rfl fun b' o' q1 q2 d=>HA hu hx q1 d
    · cases h
  · cases h
def OZ(op:UnOp)(x:AV) :Option (AV×List Bool) :=
  match op,x with
  | .neg,.int k n=>some (td k (0-n))
  | .neg,.flt ex x=>some (.flt ex (Lj x),[])
  | .not,.bool kn b=>some (.bool kn (!b),[])
  | .xor,.int k n=>some (.int k (cN .xor k (if k.signed then -1 else k.max) n),[])
  | _,_=>none
def Ll(P:Program)(src dst:TypeId)(x:AV) :Option (AV×List Bool) :=
  match P.underlying src,P.underlying dst,x with
  | some _,some (.int k),.int _ n=>some (.int k (k.wrap n),[])
  | some _,some (.float .f64),.int _ n=>some (.flt true (floatOfInt .f64 n),[])
  | some _,some (.int k),.flt _ x=>some (.int k ((floatToIntVal .f64 x k).getD 0),[(floatToIntVal .f64 x k).isSome])
  | some _,some (.float .f64),.flt ex x=>some (.flt ex x,[])
  | some _,some .string,.str s=>some (.str s,[])
  | _,_,_=>none
def yS(x:Option AV)(d:Int) :Option Int :=
  match x with
  | none=>some d
  | some (.int _ n)=>some n
  | some _=>none
def HC(P:Program)(t:TypeId)(x:AV)(lo hi:Option AV) :Option (AV×List Bool) :=
  match P.underlying t,x with
  | some .string,.str s =>
    match yS hi s.size,yS lo 0 with
    | some h,some l=>some (.str (s.extract l.toNat h.toNat),[qv h s.size,qv l h.toNat])
    | _,_=>none
  | some (.slice e),.nsl =>
    match yS hi 0,yS lo 0,P.info? e with
    | some h,some l,some _=>some (.nsl,[qv h 0,qv l h.toNat])
    | _,_,_=>none
  | some (.slice e),.imm bw d w es i len =>
    match yS hi len,yS lo 0,wa w es,Nat.beq es (P.cellsOf e),P.info? e with
    | some h,some l,some s,true,some _=>some (.imm bw d w es (er i (yO l.toNat s)) (h.toNat-l.toNat),[qv h len,qv l h.toNat])
    | _,_,_,_,_=>none
  | some (.slice e),.sl b w es i len cap =>
    match yS hi len,yS lo 0,wa w es,Nat.beq es (P.cellsOf e),P.info? e with
    | some h,some l,some s,true,some _=>some (.sl b w es (er i (yO l.toNat s)) (h.toNat-l.toNat) (cap-l.toNat),[qv h cap,qv l h.toNat])
    | _,_,_,_,_=>none
  | _,_=>none
def Dm(P:Program)(t:TypeId)(x:AV)(lo hi mx:Option AV) :Option (AV×List Bool) :=
  match P.underlying t,x,lo,hi,mx with
  | some (.slice e),.nsl,none,some (.int _ h),some (.int _ m)=>match P.info? e with | some _=>some (.nsl,[qv m 0,qv h 0]) | none=>none
  | some (.slice e),.imm ..,none,some (.int _ h),some (.int _ m)=>match P.info? e with | some _=>some (.esl,[qv m 0,qv h 0]) | none=>none
  | some (.slice e),.sl ..,none,some (.int _ h),some (.int _ m)=>match P.info? e with | some _=>some (.esl,[qv m 0,qv h 0]) | none=>none
  | some (.slice e),.esl,none,some (.int _ h),some (.int _ m)=>match P.info? e with | some _=>some (.esl,[qv m 0,qv h 0]) | none=>none
  | _,_,_,_,_=>none
def mC(x y:Int) :Int:=if y>x then y else x
def np(x y:Int) :Int:=if y<x then y else x
def Lm:AV→List AV→Option AV
  | v,[]=>some v
  | .int k x,.int k' y::l=>Lm (.int k (mC x y)) l
  | _,_=>none
def Ln:AV→List AV→Option AV
  | v,[]=>some v
  | .int k x,.int k' y::l=>Ln (.int k (np x y)) l
  | _,_=>none
def tS(P:Program)(s:TypeId)(x:AV)(f:Nat) :Option AV :=
  match P.underlying s with
  | some (.struct fs) =>
    match fs[f]? with
    | some fd =>
      match (P.info? fd.type).map (·.size),x with
      | some (_+1),.ptr b w i j=>some (.ptr b w i (j+fd.offset))
      | some (_+1),.iptr bw d w i j=>some (.iptr bw d w i (j+fd.offset))
      | _,_=>none
    | none=>none
  | _=>none
def EZ(P:Program)(t:TypeId) :Option Bool :=
  match P.underlying t with
  | some (.struct _) | some (.array _ _)=>some true
  | some _=>some false
  | none=>none
def JG(P:Program)(t:TypeId)(l:List AV)(off:Nat) :Option AV :=
  match EZ P t with
  | some true=>(P.info? t).bind fun i=>bif Nat.ble (off+i.size) l.length then some (.agg ((l.drop off).take i.size)) else none
  | some false=>l[off]?
  | none=>none
def HD(P:Program)(t:TypeId)(x:AV)(f:Nat) :Option AV :=
  match P.underlying t,x with
  | some (.struct fs),.agg l =>
    match fs[f]? with
    | some fd=>JG P fd.type l fd.offset
    | none=>none
  | _,_=>none
def tT(P:Program)(t:TypeId)(x ix:AV) :Option (AV×List Bool) :=
  match ix with
  | .int _ k =>
    match P.underlying t,x with
    | some (.slice e),.imm bw d w es i len =>
      match wa w es,Nat.beq es (P.cellsOf e),P.info? e with
      | some s,true,some _=>some (.iptr bw d w (er i (yO k.toNat s)) 0,[fB k len])
      | _,_,_=>none
    | some (.slice e),.sl b w es i len cap =>
      match wa w es,Nat.beq es (P.cellsOf e),P.info? e with
      | some s,true,some _=>some (.ptr b w (er i (yO k.toNat s)) 0,[fB k len])
      | _,_,_=>none
    | some (.array n e),.ptr b w i j =>
      match P.info? e with
      | some ie=>some (.ptr b w i (er j (yO k.toNat ie.size)),[fB k n])
      | _=>none
    | some (.array n e),.iptr bw d w i j =>
      match P.info? e with
      | some ie=>some (.iptr bw d w i (er j (yO k.toNat ie.size)),[fB k n])
      | _=>none
    | _,_=>none
  | _=>none
def HE(s:ByteArray)(i:Nat) :Int:=((s.data[i]?).getD 0).toNat
def HF(P:Program)(t:TypeId)(x ix:AV) :Option (AV×List Bool) :=
  match ix with
  | .int _ k =>
    match P.underlying t,x with
    | some .string,.str s=>some (.int .u8 (HE s k.toNat),[fB k s.size])
    | some (.array n e),.agg l =>
      match P.info? e with
      | some ie=>(JG P e l (k.toNat*ie.size)).map fun v=>(v,[fB k n])
      | none=>none
    | _,_=>none
  | _=>none
def NR(P:Program)(t:TypeId)(x:AV) :Option AV :=
  match P.underlying t,x with
  | some .string,.str s=>some (.int .i64 s.size)
  | some (.array n _),_=>some (.int .i64 n)
  | some (.slice _),.nsl=>some (.int .i64 0)
  | some (.slice _),.esl=>some (.int .i64 0)
  | some (.slice _),.sl _ _ _ _ len _=>some (.int .i64 len)
  | some (.slice _),.imm _ _ _ _ _ len=>some (.int .i64 len)
  | _,_=>none
def Nv(c a b:AV) :Option AV :=
  match c,a,b with
  | .bool true true,a,_=>some a
  | .bool true false,_,b=>some b
  | .bool false c,.bool _ x,.bool _ y=>some (.bool false (bif c then x else y))
  | .bool false c,.int k x,.int k' y=>bif dp k k' then some (.int k (bif c then x else y)) else none
  | _,_,_=>none
def tf(v:Option AV) :Option (AV×List Bool):=v.map fun v=>(v,[])
def wd(wr:Bool)(P:Program)(e:Operand→AV)(op:Op) :Option (AV×List Bool) :=
  match op with
  | .move x | .assign x=>some (e x,[])
  | .pick c a b=>tf (Nv (e c) (e a) (e b))
  | .nilCheck x =>
    match e x with
    | .ptr b w i j=>some (.ptr b w i j,[])
    | .iptr bw d w i j=>some (.iptr bw d w i j,[])
    | .fn (.func f) l c=>some (.fn (.func f) l c,[])
    | _=>none
  | .binOp op t x y _=>MP wr P op t (e x) (e y)
  | .unOp op _ x=>OZ op (e x)
  | .convert s d x=>Ll P s d (e x)
  | .makeInterface t x =>
    match P.underlying t with
    | some (.interface _) | none=>none
    | some _=>some (.iface t (e x),[])
  | .makeFunc fn first caps=>some (.fn fn (first.toList.map e) (caps.toList.map e),[])
  | .slice t x lo hi none=>HC P t (e x) (lo.map e) (hi.map e)
  | .slice t x lo hi (some mx)=>Dm P t (e x) (lo.map e) (hi.map e) (some (e mx))
  | .fieldAddr s x f=>tf (tS P s (e x) f)
  | .field t x f=>tf (HD P t (e x) f)
  | .indexAddr t x ix=>tT P t (e x) (e ix)
  | .index t x ix=>HF P t (e x) (e ix)
  | .extract x i =>
    match e x with
    | .tup l=>tf (l[i]?)
    | _=>none
  | .call { callee:=.builtin .len,args:=xs,argTypes:=ts } =>
    match xs.toList,ts.toList with
    | [x],[t]=>tf (NR P t (e x))
    | _,_=>none
  | .call { callee:=.builtin .max,args:=xs,argTypes:=_ } =>
    match xs.toList with
    | x::l=>tf (Lm (e x) (l.map e))
    | _=>none
  | .call { callee:=.builtin .min,args:=xs,argTypes:=_ } =>
    match xs.toList with
    | x::l=>tf (Ln (e x) (l.map e))
    | _=>none
  | _=>none
theorem cp{P:Program}{w w':World}{s:Sem Value}{u:Value}(h:s.run P w=.ok u w') :(do pure (Next.value (←s)):Sem Next).run P w=.ok (.value u) w':=by
  rw [Sem.run_bind,h];rfl
theorem fC.value{P:Program}{ρ:ag}{w:World}{s:Sem Value}{v:AV}(h:fC P ρ w s v) :
    ∃ u k,(do pure (Next.value (←s)):Sem Next).run P w=.ok (.value u) { w with drawn:=k }∧VR ρ w v u :=
  let ⟨u,k,h1,h2⟩:=h;⟨u,k,cp h1,h2⟩
theorem FR.neg{ex:Bool}{x y:Nat}(h:FR ex x y) :FR ex (Lj x) (Lj y):=by
  rcases h with rfl | ⟨h1,h2,h3⟩
  · exact .inl rfl
  · have e:∀ x,isNaN (Lj x)=isNaN x:=by
      intro x
      rw [mA,mA]
      have e1:(x ^^^ 2^63)%2^63=x%2^63:=by
        apply Nat.eq_of_testBit_eq;intro i
        simp only [Nat.testBit_mod_two_pow,Nat.testBit_xor,Nat.testBit_two_pow]
        by_cases hi:i<63
        · have : ¬ 63=i:=by omega
          simp [hi,this]
        · simp [hi]
      have e2:(9223372036854775808:Nat)=2^63:=by decide
      unfold Lj
      rw [e2,e1]
    exact .inr ⟨h1,by rw [e];exact h2,by rw [e];exact h3⟩
theorem Kq{P:Program}{ρ:ag}{w:World}{op:UnOp}{x:AV}{x':Value}{v:AV}{obs:List Bool}(hx:VR ρ w x x')(h:OZ op x=some (v,obs))(ho:az obs) :
    fC P ρ w (Op.unary op x') v:=by
  unfold OZ at h
  split at h
  · rename_i k n
    cases hx
    have h1:=congrArg Prod.fst (Option.some.inj h)
    have h2:=congrArg Prod.snd (Option.some.inj h)
    simp only at h1 h2
    simp only [Op.unary,Op.intArith]
    rw [←h1]
    exact .ret (yR ρ w k (0-n) (by rw [h2];exact ho))
  · simp only [Option.some.injEq,Prod.mk.injEq] at h;obtain ⟨rfl,rfl⟩:=h
    cases hx with | flt _ _ _ h1 =>
    exact .ret (.flt _ _ _ h1.neg)
  · simp only [Option.some.injEq,Prod.mk.injEq] at h;obtain ⟨rfl,rfl⟩:=h
    cases hx;exact .ret (.bool _ _)
  · simp only [Option.some.injEq,Prod.mk.injEq] at h;obtain ⟨rfl,rfl⟩:=h
    cases hx;exact .ret (.int _ _)
  · cases h
theorem Bm{ex:Bool}{x y:Nat}{k:IntKind}(h:FR ex x y)(hs:(floatToIntVal .f64 x k).isSome=true) :y=x:=by
  rcases h with h | ⟨_,h2,_⟩
  · exact h
  · obtain ⟨s,t,e⟩:=mz h2
    unfold floatToIntVal FloatKind.decode at hs
    rw [e] at hs
    cases hs
theorem E1{P:Program}{ρ:ag}{w:World}{src dst:TypeId}{x:AV}{x':Value}{v:AV}{obs:List Bool}(hx:VR ρ w x x')(h:Ll P src dst x=some (v,obs))(ho:az obs) :
    fC P ρ w (convert src dst x') v:=by
  unfold Ll at h
  split at h
  · rename_i d k q n h1 h2
    simp only [Option.some.injEq,Prod.mk.injEq] at h;obtain ⟨rfl,rfl⟩:=h
    cases hx
    refine .plain (u:=.int k (k.wrap n)) ?_ (.int _ _)
    cases d<;>simp [convert,run_underlying h1,run_underlying h2,Conv.intToInt]
  · rename_i d q n h1 h2
    simp only [Option.some.injEq,Prod.mk.injEq] at h;obtain ⟨rfl,rfl⟩:=h
    cases hx
    exact .plain (run_convert_int_float w src dst q .f64 n (by rw [h1];rfl) h2) (.flt _ _ _ (.inl rfl))
  · rename_i d k ex y h1 h2
    simp only [Option.some.injEq,Prod.mk.injEq] at h;obtain ⟨rfl,rfl⟩:=h
    cases hx with | flt _ _ z hf =>
    have e:=Bm hf ho.1
    subst e
    obtain ⟨n,hn⟩:=Option.isSome_iff_exists.1 ho.1
    rw [hn]
    exact .plain (run_convert_float_int w src dst .f64 k _ n (by rw [h1];rfl) h2 hn) (.int _ _)
  · rename_i d ex y h1 h2
    simp only [Option.some.injEq,Prod.mk.injEq] at h;obtain ⟨rfl,rfl⟩:=h
    cases hx with | flt _ _ z hf =>
    refine .plain (u:=.float .f64 z) ?_ (.flt _ _ _ hf)
    exact run_convert_float_float w src dst .f64 .f64 z z (by rw [h1];rfl) h2 (by simp [floatToFloatBits])
  · rename_i d s h1 h2
    simp only [Option.some.injEq,Prod.mk.injEq] at h;obtain ⟨rfl,rfl⟩:=h
    cases hx
    refine .plain (u:=.string s) ?_ (.str _)
    cases d<;>simp [convert,run_underlying h1,run_underlying h2]
  · cases h
theorem c7.drop{ρ:ag}{w:World} :∀ (n:Nat) {l:List AV} {c:List Value},c7 ρ w l c→c7 ρ w (l.drop n) (c.drop n)
  | 0,_,_,h=>by simpa using h
  | n+1,_,_,.nil=>by simp;exact .nil
  | n+1,_,_,.cons _ _ _ _ _ t=>by simp;exact t.drop n
theorem c7.take{ρ:ag}{w:World} :∀ (n:Nat) {l:List AV} {c:List Value},c7 ρ w l c→c7 ρ w (l.take n) (c.take n)
  | 0,_,_,h=>by simp;exact .nil
  | n+1,_,_,.nil=>by simp;exact .nil
  | n+1,_,_,.cons _ _ _ _ h t=>by simp;exact .cons _ _ _ _ h (t.take n)
theorem jd{P:Program}{w:World}(k:IntKind)(i:Int)(y:Nat)(code:BoundsCode)(h:0≤i∧i≤(y:Int)) :(Instr.sliceBound (.int k i) y code).run P w=.ok i.toNat w:=by
  simp [Instr.sliceBound,asIntOf,h]
theorem iE{P:Program}{w:World}(isSlice:Bool)(len cap:Nat)(lo hi:Option Value)(l h:Int)(hl:lo=none∧l=0∨∃ k,lo=some (.int k l))(hh:hi=none∧h=len∨∃ k,hi=some (.int k h)) 
    (b1:0≤h∧h≤(cap:Int)) (b2:0≤l∧l≤h):(Instr.sliceBounds isSlice len cap lo hi none).run P w=.ok (l.toNat,h.toNat,cap) w:=by
  have e:l≤(h.toNat:Int):=by omega
  rcases hl with ⟨rfl,rfl⟩ | ⟨k,rfl⟩<;>rcases hh with ⟨rfl,rfl⟩ | ⟨k',rfl⟩
  · simp [Instr.sliceBounds]
  · simp [Instr.sliceBounds,jd _ _ _ _ b1]
  · simp [Instr.sliceBounds,jd _ _ _ _ (And.intro b2.1 b2.2)]
  · simp [Instr.sliceBounds,jd _ _ _ _ b1,jd _ _ _ _ (And.intro b2.1 e)]
theorem kj{i:Int}{n:Nat}(h:qv i n=true) :0≤i∧i≤(n:Int):=by simpa [qv] using h
theorem sq{i:Int}{n:Nat}(h:fB i n=true) :0≤i∧i<(n:Int):=by simpa [fB] using h
theorem kT{ρ:ag}{w:World}{e:Operand→AV}{g:Operand→Value}(hops:∀ x,VR ρ w (e x) (g x)){x:Option Operand}{d n:Int}(h:yS (x.map e) d=some n) :
    (x.map g=none∧n=d)∨∃ k,x.map g=some (.int k n):=by
  cases x with
  | none=>simp [yS] at h;exact .inl ⟨rfl,h.symm⟩
  | some o =>
    have hv:=hops o
    simp only [Option.map_some] at h ⊢
    generalize e o=v at h hv
    generalize g o=u at hv
    cases v<;>simp [yS] at h
    subst h
    cases hv
    exact .inr ⟨_,rfl⟩
theorem Dn{P:Program}{ρ:ag}{w:World}{e:Operand→AV}{g:Operand→Value}(hops:∀ x,VR ρ w (e x) (g x)){t:TypeId}{x:AV}{x':Value}{lo hi:Option Operand}{v:AV}{obs:List Bool} 
    (hx:VR ρ w x x') (h:HC P t x (lo.map e) (hi.map e)=some (v,obs)) (ho:az obs):fC P ρ w (Instr.sliceAt t x' (lo.map g) (hi.map g) none) v:=by
  unfold HC at h
  split at h
  · rename_i s hu
    cases hx
    split at h
    · rename_i hh ll e1 e2
      simp only [Option.some.injEq,Prod.mk.injEq] at h;obtain ⟨rfl,rfl⟩:=h
      have b1:=kj ho.1
      have b2:=kj ho.2.1
      refine .plain (u:=.string (s.extract ll.toNat hh.toNat)) ?_ (.str _)
      have:=iE (P:=P) (w:=w) false s.size s.size (lo.map g) (hi.map g) ll hh (kT hops e2) (kT hops e1) b1 ⟨b2.1,by omega⟩
      simp [Instr.sliceAt,Instr.slice,run_underlying hu,this]
    · cases h
  · rename_i el hu
    cases hx
    split at h
    · rename_i hh ll i e1 e2 hs
      simp only [Option.some.injEq,Prod.mk.injEq] at h;obtain ⟨rfl,rfl⟩:=h
      have b1:=kj ho.1
      have b2:=kj ho.2.1
      refine .plain (u:=.slice none 0 0) ?_ .nsl
      have h0:hh=0:=by omega
      subst h0
      have l0:ll=0:=by simp at b2;omega
      subst l0
      have:=iE (P:=P) (w:=w) true 0 0 (lo.map g) (hi.map g) 0 0 (kT hops e2) (kT hops e1) (by omega) (by omega)
      simp [Instr.sliceAt,Instr.slice,run_underlying hu,this,run_sizeOf w hs]
    · cases h
  · rename_i el bw d k es i len hu
    split at h
    · rename_i hh ll s inf e1 e2 e3 e4 hs
      simp only [Option.some.injEq,Prod.mk.injEq] at h;obtain ⟨rfl,rfl⟩:=h
      have b1:=kj ho.1
      have b2:=kj ho.2.1
      have e5:es=P.cellsOf el:=Nat.eq_of_beq_eq_true e4
      have hst:=so e3
      have run:∀ (a:Option Addr) (cap:Nat),len≤cap→(Instr.sliceAt t (.slice a len cap) (lo.map g) (hi.map g) none).run P w =
          .ok (.slice (if cap=ll.toNat then a else a.map (·.add (ll.toNat*P.cellsOf el))) (hh.toNat-ll.toNat) (cap-ll.toNat)) w:=by
        intro a cap hc
        have:=iE (P:=P) (w:=w) true len cap (lo.map g) (hi.map g) ll hh (kT hops e2) (kT hops e1) (by omega) ⟨b2.1,by omega⟩
        simp [Instr.sliceAt,Instr.slice,run_underlying hu,this,run_sizeOf w hs]
      cases hx with
      | imm _ _ _ _ _ _ cap bl o u ha hb hc hv hl hr hk hg =>
        refine .plain (run _ _ hl) ?_
        by_cases hz:cap=ll.toNat
        · have:hh.toNat-ll.toNat=0:=by omega
          rw [this,if_pos hz]
          exact .immEnd _ _ _ _ _ _ _ hr hk hg
        · rw [if_neg hz]
          have ea:Addr.add ⟨bl,o+i*k,none⟩ (ll.toNat*P.cellsOf el)=⟨bl,o+(i+ll.toNat*s)*k,none⟩:=by
            have:o+i*k+ll.toNat*P.cellsOf el=o+(i+ll.toNat*s)*k:=by rw [←e5,←hst,Nat.add_mul,Nat.mul_assoc];omega
            unfold Addr.add
            split
            · rename_i h0;rw [h0] at this;simp only [Nat.add_zero] at this;rw [this]
            · simp only [this]
          simp only [Option.map_some,ea,fj,o8]
          exact .imm _ _ _ _ _ _ _ bl o u ha hb hc hv (by omega) hr hk hg
      | immEnd _ _ _ _ _ cap a hr hk hg =>
        refine .plain (run _ _ (Nat.zero_le _)) ?_
        have:hh.toNat-ll.toNat=0:=by omega
        rw [this]
        exact .immEnd _ _ _ _ _ _ _ hr hk hg
    · cases h
  · rename_i el b k es i len cap hu
    split at h
    · rename_i hh ll s inf e1 e2 e3 e4 hs
      simp only [Option.some.injEq,Prod.mk.injEq] at h;obtain ⟨rfl,rfl⟩:=h
      have b1:=kj ho.1
      have b2:=kj ho.2.1
      have e5:es=P.cellsOf el:=Nat.eq_of_beq_eq_true e4
      have hst:=so e3
      have run:∀ (a:Option Addr) (cap':Nat),cap≤cap'→len≤cap→(Instr.sliceAt t (.slice a len cap') (lo.map g) (hi.map g) none).run P w =
          .ok (.slice (if cap'=ll.toNat then a else a.map (·.add (ll.toNat*P.cellsOf el))) (hh.toNat-ll.toNat) (cap'-ll.toNat)) w:=by
        intro a cap' hc hl
        have:=iE (P:=P) (w:=w) true len cap' (lo.map g) (hi.map g) ll hh (kT hops e2) (kT hops e1) (by omega) ⟨b2.1,by omega⟩
        simp [Instr.sliceAt,Instr.slice,run_underlying hu,this,run_sizeOf w hs]
      cases hx with
      | sl _ _ _ _ _ _ cap' hb hcap hl c ty hh2 hsz =>
        refine .plain (run _ _ hcap hl) ?_
        by_cases hz:cap'=ll.toNat
        · have q1:hh.toNat-ll.toNat=0:=by omega
          have q2:cap-ll.toNat=0:=by omega
          have q3:cap'-ll.toNat=0:=by omega
          rw [q1,q2,q3]
          exact .slEnd _ _ _ _ _
        · rw [if_neg hz]
          have e6:i*k+ll.toNat*P.cellsOf el=(i+ll.toNat*s)*k:=by rw [←e5,←hst,Nat.add_mul,Nat.mul_assoc]
          have ea:Addr.add ⟨ρ.at_ b,i*k,none⟩ (ll.toNat*P.cellsOf el)=⟨ρ.at_ b,(i+ll.toNat*s)*k,none⟩:=by
            unfold Addr.add
            split
            · rename_i h0;rw [h0] at e6;simp only [Nat.add_zero] at e6;rw [e6]
            · simp only [e6]
          simp only [Option.map_some,ea,fj,o8]
          refine .sl _ _ _ _ _ _ _ hb (by omega) (by omega) c ty hh2 ?_
          rw [←e6,←e5]
          by_cases hle:ll.toNat≤cap'
          · have:ll.toNat*es+(cap'-ll.toNat)*es=cap'*es:=by rw [←Nat.add_mul];congr 1;omega
            omega
          · omega
      | slEnd _ _ _ _ a =>
        refine .plain (run _ _ (Nat.le_refl _) (Nat.le_refl _)) ?_
        have q1:hh.toNat-ll.toNat=0:=by omega
        have q2:0-ll.toNat=0:=by omega
        rw [q1,q2]
        exact .slEnd _ _ _ _ _
    · cases h
  · cases h
theorem Bn{P:Program}{ρ:ag}{w:World}{e:Operand→AV}{g:Operand→Value}(hops:∀ x,VR ρ w (e x) (g x)){t:TypeId}{x:AV}{x':Value}{lo hi:Option Operand}{mx:Operand}{v:AV}{obs:List Bool} 
    (hx:VR ρ w x x') (h:Dm P t x (lo.map e) (hi.map e) (some (e mx))=some (v,obs)) (ho:az obs):fC P ρ w (Instr.sliceAt t x' (lo.map g) (hi.map g) (some (g mx))) v:=by
  have key:∀ {el:TypeId} {hh mm:Int} {k1 k2:IntKind} {inf:TypeInfo} {a:Option Addr} {len cap:Nat},P.underlying t=some (.slice el)→P.info? el=some inf→lo.map e=none→hi.map e=some (.int k1 hh)→e mx=.int k2 mm→qv mm 0=true→qv hh 0=true →
      (Instr.sliceAt t (.slice a len cap) (lo.map g) (hi.map g) (some (g mx))).run P w=.ok (.slice a 0 0) w:=by
    intro el hh mm k1 k2 inf a len cap hu hi' h1 h2 h3 b1 b2
    have b1:=kj b1
    have b2:=kj b2
    have m0:mm=0:=by omega
    have h0:hh=0:=by omega
    subst m0;subst h0
    have e1:lo=none:=by cases lo<;>simp_all
    subst e1
    have hm:=hops mx
    rw [h3] at hm
    generalize hgm:g mx=gm at hm
    cases hm
    cases hi with
    | none=>cases h2
    | some y =>
      simp only [Option.map_some,Option.some.injEq] at h2
      have hy:=hops y
      rw [h2] at hy
      generalize hgy:g y=gy at hy
      cases hy
      simp [Instr.sliceAt,Instr.slice,run_underlying hu,Instr.sliceBounds,Instr.sliceBound,asIntOf,run_sizeOf w hi',hgy]
  unfold Dm at h
  split at h<;>rename_i q1 q2 q3<;>(try cases h)<;>(split at h<;>(try cases h))
  · cases hx;exact .plain (key (by assumption) (by assumption) q1 q2 (Option.some.inj q3) ho.1 ho.2.1) .nsl
  · cases hx with
    | imm=>exact .plain (key (by assumption) (by assumption) q1 q2 (Option.some.inj q3) ho.1 ho.2.1) (.esl _)
    | immEnd=>exact .plain (key (by assumption) (by assumption) q1 q2 (Option.some.inj q3) ho.1 ho.2.1) (.esl _)
  · cases hx with
    | sl=>exact .plain (key (by assumption) (by assumption) q1 q2 (Option.some.inj q3) ho.1 ho.2.1) (.esl _)
    | slEnd=>exact .plain (key (by assumption) (by assumption) q1 q2 (Option.some.inj q3) ho.1 ho.2.1) (.esl _)
  · cases hx;exact .plain (key (by assumption) (by assumption) q1 q2 (Option.some.inj q3) ho.1 ho.2.1) (.esl _)
theorem yT{P:Program}{ρ:ag}{w:World} :∀ {l:List AV} {v:AV} {us:List Value} {u:Value} {r:AV},VR ρ w v u→c7 ρ w l us→Lm v l=some r→∃ u',(us.foldlM Builtin.max2 u).run P w=.ok u' w∧VR ρ w r u'
  | [],v,us,u,r,hv,hl,h=>by
    cases hl
    simp only [Lm,Option.some.injEq] at h;subst h
    exact ⟨u,rfl,hv⟩
  | a::l,v,us,u,r,hv,hl,h=>by
    unfold Lm at h
    split at h
    · rename_i q;cases q
    · rename_i k x k' y l' q
      cases q
      cases hv
      cases hl with | cons _ u2 _ us' h1 h2 =>
      cases h1
      obtain ⟨u',q1,q2⟩:=yT (P:=P) (VR.int (ρ:=ρ) (w:=w) k (mC x y)) h2 h
      exact ⟨u',by rw [List.foldlM_cons,Sem.run_bind];simp only [Builtin.max2,Sem.run_pure,Result.andThen_ok];exact q1,q2⟩
    · cases h
theorem yU{P:Program}{ρ:ag}{w:World} :∀ {l:List AV} {v:AV} {us:List Value} {u:Value} {r:AV},VR ρ w v u→c7 ρ w l us→Ln v l=some r→∃ u',(us.foldlM Builtin.min2 u).run P w=.ok u' w∧VR ρ w r u'
  | [],v,us,u,r,hv,hl,h=>by
    cases hl
    simp only [Ln,Option.some.injEq] at h;subst h
    exact ⟨u,rfl,hv⟩
  | a::l,v,us,u,r,hv,hl,h=>by
    unfold Ln at h
    split at h
    · rename_i q;cases q
    · rename_i k x k' y l' q
      cases q
      cases hv
      cases hl with | cons _ u2 _ us' h1 h2 =>
      cases h1
      obtain ⟨u',q1,q2⟩:=yU (P:=P) (VR.int (ρ:=ρ) (w:=w) k (np x y)) h2 h
      exact ⟨u',by rw [List.foldlM_cons,Sem.run_bind];simp only [Builtin.min2,Sem.run_pure,Result.andThen_ok];exact q1,q2⟩
    · cases h
theorem io(bl o n:Nat) :Addr.add ⟨bl,o,none⟩ n=⟨bl,o+n,none⟩:=by
  unfold Addr.add;split
  · rename_i h;subst h;rfl
  · rfl
theorem su{P:Program}{w:World}{t:TypeId}{b:Bool}(h:EZ P t=some b) :(isAgg t).run P w=.ok b w:=by
  unfold EZ at h
  split at h
  · rename_i hu;cases h;simp [isAgg,run_underlying hu]
  · rename_i hu;cases h;simp [isAgg,run_underlying hu]
  · rename_i d n1 n2 hu
    cases h
    cases d<;>simp_all [isAgg,run_underlying hu]
  · cases h
theorem we{P:Program}{ρ:ag}{w:World}{s:TypeId}{x:AV}{x':Value}{f:Nat}{v:AV}(hx:VR ρ w x x')(h:tS P s x f=some v) :fC P ρ w (Instr.fieldAt s x' f) v:=by
  unfold tS at h
  split at h
  case h_2=>cases h
  rename_i fs hu
  split at h
  case h_2=>cases h
  rename_i fd hf
  have run:∀ (a:Addr) (n:Nat),(P.info? fd.type).map (·.size)=some (n+1)→(Instr.fieldAt s (.pointer (some a)) f).run P w=.ok (.pointer (some (a.add fd.offset))) w:=by
    intro a n hn
    simp only [Option.map_eq_some_iff] at hn
    obtain ⟨i,hi,hsz⟩:=hn
    have hc:P.cellsOf fd.type=n+1:=by simp [Program.cellsOf,hi,hsz]
    simp [Instr.fieldAt,run_underlying hu,hf,Instr.sureAddr,fieldPlace,run_sizeOf w hi,hc]
  split at h
  · rename_i n b k i j hn
    cases h
    cases hx with
    | ptr _ _ _ _ hb =>
      refine .plain (run _ _ hn) ?_
      rw [io,show i*k+j+fd.offset=i*k+(j+fd.offset) from by omega]
      exact .ptr _ _ _ _ hb
  · rename_i n bw d k i j hn
    cases h
    cases hx with
    | iptr _ _ _ _ _ bl o u ha hb hc hv hr hk hg =>
      refine .plain (run _ _ hn) ?_
      rw [io,show o+(i*k+j)+fd.offset=o+(i*k+(j+fd.offset)) from by omega]
      exact .iptr _ _ _ _ _ bl o u ha hb hc hv hr hk hg
  · cases h
theorem wZ{P:Program}{ρ:ag}{w:World}{t:TypeId}{l:List AV}{c:Array Value}{off:Nat}{v:AV}(hl:c7 ρ w l c.toList)(h:JG P t l off=some v) :fC P ρ w (part t c off) v:=by
  unfold JG at h
  split at h
  · rename_i ha
    simp only [Option.bind_eq_some_iff] at h
    obtain ⟨i,hi,h⟩:=h
    cases e:Nat.ble (off+i.size) l.length with
    | false=>rw [e] at h;cases h
    | true =>
      rw [e] at h
      simp only [cond_true,Option.some.injEq] at h
      subst h
      refine .plain (u:=.agg (c.extract off (off+P.cellsOf t))) ?_ (.agg _ _ ?_)
      · simp [part,su ha,run_sizeOf w hi]
      · have hs:P.cellsOf t=i.size:=by simp [Program.cellsOf,hi]
        rw [Array.toList_extract,hs,List.extract_eq_take_drop,Nat.add_sub_cancel_left]
        exact (hl.drop off).take i.size
  · rename_i ha
    obtain ⟨u,h1,h2⟩:=hl.get off v h
    rw [Array.getElem?_toList] at h1
    refine .plain (u:=u) ?_ h2
    simp [part,su ha,h1]
  · cases h
theorem Do{P:Program}{ρ:ag}{w:World}{t:TypeId}{x:AV}{x':Value}{f:Nat}{v:AV}(hx:VR ρ w x x')(h:HD P t x f=some v) :fC P ρ w (Instr.field t x' f) v:=by
  unfold HD at h
  split at h
  case h_2=>cases h
  rename_i fs l hu
  cases hx with
  | agg _ c hl =>
    split at h
    · rename_i fd hf
      obtain ⟨u,k,hr,hv⟩:=wZ hl h
      exact ⟨u,k,by simp [Instr.field,run_underlying hu,hf,asAgg,hr],hv⟩
    · cases h
theorem nv{P:Program}{w:World}{t e:TypeId}{i:TypeInfo}(hu:P.underlying t=some (.slice e))(hi:P.info? e=some i)(a:Addr)(len cap:Nat)(q:IntKind)(k:Int)(hk:0≤k∧k<(len:Int)) :
    (Instr.indexAt t (.slice (some a) len cap) (.int q k)).run P w=.ok (.pointer (some (a.add (k.toNat*P.cellsOf e)))) w:=by
  simp [Instr.indexAt,asIntOf,run_underlying hu,hk,run_sizeOf w hi]
theorem nw{P:Program}{w:World}{t e:TypeId}{n:Nat}{i:TypeInfo}(hu:P.underlying t=some (.array n e))(hi:P.info? e=some i)(a:Addr)(q:IntKind)(k:Int)(hk:0≤k∧k<(n:Int)) :
    (Instr.indexAt t (.pointer (some a)) (.int q k)).run P w=.ok (.pointer (some (a.add (k.toNat*P.cellsOf e)))) w:=by
  simp [Instr.indexAt,asIntOf,run_underlying hu,Instr.sureAddr,hk,run_sizeOf w hi]
theorem wg{P:Program}{ρ:ag}{w:World}{t:TypeId}{x ix:AV}{x' ix':Value}{v:AV}{obs:List Bool}(hx:VR ρ w x x')(hi:VR ρ w ix ix') 
    (h:tT P t x ix=some (v,obs)) (ho:az obs):fC P ρ w (Instr.indexAt t x' ix') v:=by
  unfold tT at h
  split at h
  case h_2=>cases h
  rename_i q k
  cases hi
  split at h
  · rename_i e bw d kk es i len hu
    split at h
    case h_2=>cases h
    rename_i s inf e1 e2 e3
    simp only [Option.some.injEq,Prod.mk.injEq] at h;obtain ⟨rfl,rfl⟩:=h
    have hb:=sq ho.1
    have e4:es=P.cellsOf e:=Nat.eq_of_beq_eq_true e2
    have hst:=so e1
    cases hx with
    | imm _ _ _ _ _ _ cap bl o u ha hbl hc hv hl hr hk hg =>
      refine .plain (nv hu e3 _ _ _ q k hb) ?_
      have:o+i*kk+k.toNat*P.cellsOf e=o+((i+k.toNat*s)*kk+0):=by rw [←e4,←hst,Nat.add_mul,Nat.mul_assoc];omega
      rw [io,this,fj,o8]
      exact .iptr _ _ _ _ _ bl o u ha hbl hc hv hr hk hg
    | immEnd=>omega
  · rename_i e b kk es i len cap hu
    split at h
    case h_2=>cases h
    rename_i s inf e1 e2 e3
    simp only [Option.some.injEq,Prod.mk.injEq] at h;obtain ⟨rfl,rfl⟩:=h
    have hb:=sq ho.1
    have e4:es=P.cellsOf e:=Nat.eq_of_beq_eq_true e2
    have hst:=so e1
    cases hx with
    | sl _ _ _ _ _ _ cap' hbo hcap hl c ty hh hs =>
      refine .plain (nv hu e3 _ _ _ q k hb) ?_
      have:i*kk+k.toNat*P.cellsOf e=(i+k.toNat*s)*kk+0:=by rw [←e4,←hst,Nat.add_mul,Nat.mul_assoc];omega
      rw [io,this,fj,o8]
      exact .ptr _ _ _ _ hbo
    | slEnd=>omega
  · rename_i n e b kk i j hu
    split at h
    case h_2=>cases h
    rename_i ie e3
    simp only [Option.some.injEq,Prod.mk.injEq] at h;obtain ⟨rfl,rfl⟩:=h
    have hb:=sq ho.1
    have hs:P.cellsOf e=ie.size:=by simp [Program.cellsOf,e3]
    cases hx with
    | ptr _ _ _ _ hbo =>
      refine .plain (nw hu e3 _ q k hb) ?_
      rw [io,hs,fj,o8,Nat.add_assoc]
      exact .ptr _ _ _ _ hbo
  · rename_i n e bw d kk i j hu
    split at h
    case h_2=>cases h
    rename_i ie e3
    simp only [Option.some.injEq,Prod.mk.injEq] at h;obtain ⟨rfl,rfl⟩:=h
    have hb:=sq ho.1
    have hs:P.cellsOf e=ie.size:=by simp [Program.cellsOf,e3]
    cases hx with
    | iptr _ _ _ _ _ bl o u ha hbl hc hv hr hk hg =>
      refine .plain (nw hu e3 _ q k hb) ?_
      rw [io,hs,fj,o8,Nat.add_assoc,Nat.add_assoc]
      exact .iptr _ _ _ _ _ bl o u ha hbl hc hv hr hk hg
  · cases h
theorem Dp{P:Program}{ρ:ag}{w:World}{t:TypeId}{x ix:AV}{x' ix':Value}{v:AV}{obs:List Bool}(hx:VR ρ w x x')(hi:VR ρ w ix ix') 
    (h:HF P t x ix=some (v,obs)) (ho:az obs):fC P ρ w (Instr.index t x' ix') v:=by
  unfold HF at h
  split at h
  case h_2=>cases h
  rename_i q k
  cases hi
  split at h
  · rename_i s hu
    simp only [Option.some.injEq,Prod.mk.injEq] at h;obtain ⟨rfl,rfl⟩:=h
    have hb:=sq ho.1
    cases hx
    have hlt:k.toNat<s.size:=by omega
    have hlt':k.toNat<s.data.size:=hlt
    have aR:s[k.toNat]? = some (s.data[k.toNat]'hlt'):=by
      rw [getElem?_pos s k.toNat hlt];rfl
    refine .plain (u:=.int .u8 (HE s k.toNat)) ?_ (.int _ _)
    simp [Instr.index,asIntOf,run_underlying hu,hb.1,aR,HE,Array.getElem?_eq_getElem hlt']
  · rename_i n e l hu
    split at h
    · rename_i ie e3
      simp only [Option.map_eq_some_iff,Prod.mk.injEq] at h
      obtain ⟨v',hp,rfl,rfl⟩:=h
      have hb:=sq ho.1
      have hs:P.cellsOf e=ie.size:=by simp [Program.cellsOf,e3]
      cases hx with
      | agg _ c hl =>
        rw [←hs] at hp
        obtain ⟨u,kk,hr,hv⟩:=wZ hl hp
        exact ⟨u,kk,by simp [Instr.index,asIntOf,run_underlying hu,hb,run_sizeOf w e3,hr],hv⟩
    · cases h
  · cases h
theorem HG{P:Program}{ρ:ag}{w:World}{t:TypeId}{x:AV}{x':Value}{v:AV}(hx:VR ρ w x x')(h:NR P t x=some v)(T:TypeId) :fC P ρ w (Builtin.len_ #[t] T #[x']) v:=by
  unfold NR at h
  split at h
  · rename_i s hu;cases h;cases hx;exact .plain (u:=.int .i64 s.size) (by simp [Builtin.len_,run_underlying hu,goInt]) (.int _ _)
  · rename_i n e hu;cases h;exact .plain (u:=.int .i64 n) (by simp [Builtin.len_,run_underlying hu,goInt]) (.int _ _)
  · rename_i e hu;cases h;cases hx;exact .plain (u:=.int .i64 0) (by simp [Builtin.len_,run_underlying hu,goInt]) (.int _ _)
  · rename_i e hu;cases h;cases hx;exact .plain (u:=.int .i64 0) (by simp [Builtin.len_,run_underlying hu,goInt]) (.int _ _)
  · rename_i e b k es i len cap hu
    cases h
    cases hx<;>exact .plain (u:=.int .i64 _) (by simp [Builtin.len_,run_underlying hu,goInt]) (.int _ _)
  · rename_i e bw d k es i len hu
    cases h
    cases hx<;>exact .plain (u:=.int .i64 _) (by simp [Builtin.len_,run_underlying hu,goInt]) (.int _ _)
  · cases h
theorem c7.map{ρ:ag}{w:World}{e:Operand→AV}{g:Operand→Value}(h:∀ x,VR ρ w (e x) (g x)) :∀ l:List Operand,c7 ρ w (l.map e) (l.map g)
  | []=>.nil
  | x::l=>.cons _ _ _ _ (h x) (c7.map h l)
theorem gj{v:Option AV}{u:AV}{obs:List Bool}(h:tf v=some (u,obs)) :v=some u∧obs=[]:=by
  cases v<;>simp [tf] at h
  exact ⟨by rw [h.1],h.2⟩
theorem fF{P:Program}{w:World}(g:Operand→Value)(b:Builtin)(xs:Array Operand)(ts:Array TypeId)(T:TypeId)(s:Sem Next) 
    (h:s=invoke (.builtin b ts T (xs.map fun | .const _=>true | _=>false)) (xs.map g)):(do let d ← resolve g { callee:=.builtin b,args:=xs,argTypes:=ts } T;invoke d.target d.args:Sem Next).run P w=s.run P w:=by
  subst h;rfl
def Lo:Value→Bool
  | .int .. | .float .. | .string _ | .bool _ | .slice .. | .pointer _=>true
  | _=>false
theorem Bo{P:Program}{w:World}{op:BinOp}{t:TypeId}{x y:Operand}{a b:Value}(h:Lo a=true) :(eqGuard op t x y a b).run P w=.ok () w:=by
  have:eqGuard op t x y a b=pure ():=by
    unfold eqGuard
    cases a<;>first | (cases h;done) | (cases op<;>rfl)
  rw [this];rfl
theorem w3{P:Program}{w:World}{op:BinOp}{t:TypeId}{x y:Operand}{a b:Array Value}(h:P.eqGuardType P.depth t=false) :(eqGuard op t x y (.agg a) (.agg b)).run P w=.ok () w:=by
  cases op<;>first | rfl | simp [eqGuard,h]
theorem Dq{P:Program}{ρ:ag}{w:World}{e:Operand→AV}{g:Operand→Value}(hops:∀ x,VR ρ w (e x) (g x)){o:Oper}{v:AV}{obs:List Bool}{wr:Bool}(h:wd wr P e o.op=some (v,obs))(ho:az obs) :
    ∃ u k,(execOp g o).run P w=.ok (.value u) { w with drawn:=k }∧VR ρ w v u:=by
  unfold execOp
  generalize o.type=T
  generalize o.op=op at h
  unfold wd at h
  split at h
  · simp only [Option.some.injEq,Prod.mk.injEq] at h;obtain ⟨rfl,rfl⟩:=h
    exact ⟨_,w.drawn,rfl,hops _⟩
  · simp only [Option.some.injEq,Prod.mk.injEq] at h;obtain ⟨rfl,rfl⟩:=h
    exact ⟨_,w.drawn,rfl,hops _⟩
  · rename_i c a b
    obtain ⟨h',rfl⟩:=gj h
    clear h;have h:=h'
    have hc:=hops c;have ha:=hops a;have hb:=hops b
    simp only
    generalize e c=ec at *;generalize e a=ea at *;generalize e b=eb at *
    generalize g c=gc at *;generalize g a=ga at *;generalize g b=gb at *
    unfold Nv at h
    split at h
    · cases h;cases hc;exact ⟨ga,w.drawn,by simp [asBool],ha⟩
    · cases h;cases hc;exact ⟨gb,w.drawn,by simp [asBool],hb⟩
    · rename_i b1 k2 b2 k3 b3
      cases h;cases hc;cases ha;cases hb
      refine ⟨.bool (bif b1 then b2 else b3),w.drawn,by cases b1<;>simp [asBool],.bool _ _⟩
    · rename_i c1 k1 x k2 y
      cases hs:dp k1 k2 with
      | false=>rw [hs] at h;cases h
      | true =>
        rw [hs] at h
        have:k1=k2:=of_decide_eq_true hs
        subst this
        cases h;cases hc;cases ha;cases hb
        refine ⟨.int k1 (bif c1 then x else y),w.drawn,by cases c1<;>simp [asBool],.int _ _⟩
    · cases h
  · rename_i x
    have hx:=hops x
    simp only
    generalize e x=ex at *;generalize g x=gx at *
    split at h
    · simp only [Option.some.injEq,Prod.mk.injEq] at h;obtain ⟨rfl,rfl⟩:=h
      cases hx with | ptr _ _ _ _ hb=>exact ⟨_,w.drawn,rfl,.ptr _ _ _ _ hb⟩
    · simp only [Option.some.injEq,Prod.mk.injEq] at h;obtain ⟨rfl,rfl⟩:=h
      cases hx with | iptr _ _ _ _ _ bl o u ha hbl hc hv hr hk hg=>exact ⟨_,w.drawn,rfl,.iptr _ _ _ _ _ bl o u ha hbl hc hv hr hk hg⟩
    · simp only [Option.some.injEq,Prod.mk.injEq] at h;obtain ⟨rfl,rfl⟩:=h
      cases hx with | fn _ _ _ _ _ h1 h2=>exact ⟨_,w.drawn,rfl,.fn _ _ _ _ _ h1 h2⟩
    · cases h
  · rename_i bop t x y yt
    obtain ⟨u,k,hr,hv⟩:=HB (hops x) (hops y) h ho
    refine ⟨u,k,?_,hv⟩
    apply cp
    have hg:(eqGuard bop t x y (g x) (g y)).run P w=.ok () w:=by
      have hx:=hops x
      have hy:=hops y
      generalize e x=ex at *;generalize e y=ey at *
      generalize g x=gx at *;generalize g y=gy at *
      clear hr
      have pl:Lo gx=true→(eqGuard bop t x y gx gy).run P w=.ok () w:=Bo
      unfold MP at h
      split at h<;>first | (cases h;done) | (refine pl ?_;cases hx<;>rfl) | skip
      · cases ht:qx P t with
        | false=>rw [ht] at h;cases h
        | true =>
          obtain ⟨c,rfl⟩:=i5 hx
          obtain ⟨c',rfl⟩:=i5 hy
          exact w3 (wY ht)
      · cases ht:qx P t with
        | false=>rw [ht] at h;cases h
        | true =>
          obtain ⟨c,rfl⟩:=i5 hx
          obtain ⟨c',rfl⟩:=i5 hy
          exact w3 (wY ht)
      · split at h
        · obtain ⟨b,hr,hop⟩:=nu h
          obtain ⟨a,l,c,e⟩:=uK hx hr
          refine pl ?_;rw [e];rfl
        · cases h
      · split at h
        · obtain ⟨b,hr,hop⟩:=nu h
          obtain ⟨a,e⟩:=te hx hr
          refine pl ?_;rw [e];rfl
        · cases h
    simp only [Sem.run_bind,hg,Result.andThen_ok,hr]
  · rename_i uop t x
    obtain ⟨u,k,hr,hv⟩:=Kq (P:=P) (hops x) h ho
    exact ⟨u,k,cp hr,hv⟩
  · rename_i s d x
    obtain ⟨u,k,hr,hv⟩:=E1 (hops x) h ho
    exact ⟨u,k,cp hr,hv⟩
  · rename_i t x
    split at h
    · cases h
    · cases h
    · rename_i d n hu
      simp only [Option.some.injEq,Prod.mk.injEq] at h;obtain ⟨rfl,rfl⟩:=h
      refine ⟨.iface t (g x),w.drawn,cp ?_,.iface _ _ _ (hops x)⟩
      cases d<;>simp_all [Instr.makeInterface,run_underlying hu]
  · rename_i fn first caps
    simp only [Option.some.injEq,Prod.mk.injEq] at h;obtain ⟨rfl,rfl⟩:=h
    refine ⟨.func fn (first.map g) (caps.map g),w.drawn,cp rfl,.fn _ _ _ _ _ ?_ ?_⟩
    · simpa using c7.map hops first.toList
    · simpa using c7.map hops caps.toList
  · rename_i t x lo hi
    obtain ⟨u,k,hr,hv⟩:=Dn hops (hops x) h ho
    exact ⟨u,k,cp hr,hv⟩
  · rename_i t x lo hi mx
    obtain ⟨u,k,hr,hv⟩:=Bn hops (hops x) h ho
    exact ⟨u,k,cp hr,hv⟩
  · rename_i s x f
    obtain ⟨h',rfl⟩:=gj h
    clear h;have h:=h'
    obtain ⟨u,k,hr,hv⟩:=we (hops x) h
    exact ⟨u,k,cp hr,hv⟩
  · rename_i t x f
    obtain ⟨h',rfl⟩:=gj h
    clear h;have h:=h'
    obtain ⟨u,k,hr,hv⟩:=Do (hops x) h
    exact ⟨u,k,cp hr,hv⟩
  · rename_i t x ix
    obtain ⟨u,k,hr,hv⟩:=wg (hops x) (hops ix) h ho
    exact ⟨u,k,cp hr,hv⟩
  · rename_i t x ix
    obtain ⟨u,k,hr,hv⟩:=Dp (hops x) (hops ix) h ho
    exact ⟨u,k,cp hr,hv⟩
  · rename_i x i
    have hx:=hops x
    simp only
    generalize e x=ex at *;generalize g x=gx at *
    split at h
    · obtain ⟨h',rfl⟩:=gj h
      clear h;have h:=h'
      cases hx with
      | tup _ c hl =>
        obtain ⟨u,h1,h2⟩:=hl.get i v h
        rw [Array.getElem?_toList] at h1
        exact ⟨u,w.drawn,cp (by simp [Instr.extract,h1]),h2⟩
    · cases h
  · rename_i xs ts
    split at h
    · rename_i x t hx ht
      obtain ⟨h',rfl⟩:=gj h
      clear h;have h:=h'
      obtain ⟨u,k,hr,hv⟩:=HG (hops x) h T
      refine ⟨u,k,?_,hv⟩
      have e1:xs = #[x]:=by rw [←hx]
      have e2:ts = #[t]:=by rw [←ht]
      subst e1;subst e2
      have:=cp hr
      simp only [fF g .len #[x] #[t] T _ rfl]
      simpa [invoke,builtin] using this
    · cases h
  · rename_i xs ts
    split at h
    · rename_i x l hx
      obtain ⟨h',rfl⟩:=gj h
      obtain ⟨u,hr,hv⟩:=yT (P:=P) (hops x) (c7.map hops l) h'
      refine ⟨u,w.drawn,?_,hv⟩
      have e1:xs=(x::l).toArray:=by rw [←hx]
      subst e1
      have hr2:(Builtin.max_ ts T ((x::l).toArray.map g)).run P w=.ok u w:=by simpa [Builtin.max_] using hr
      have:=cp hr2
      simp only [fF g .max (x::l).toArray ts T _ rfl]
      simpa [invoke,builtin] using this
    · cases h
  · rename_i xs ts
    split at h
    · rename_i x l hx
      obtain ⟨h',rfl⟩:=gj h
      obtain ⟨u,hr,hv⟩:=yU (P:=P) (hops x) (c7.map hops l) h'
      refine ⟨u,w.drawn,?_,hv⟩
      have e1:xs=(x::l).toArray:=by rw [←hx]
      subst e1
      have hr2:(Builtin.min_ ts T ((x::l).toArray.map g)).run P w=.ok u w:=by simpa [Builtin.min_] using hr
      have:=cp hr2
      simp only [fF g .min (x::l).toArray ts T _ rfl]
      simpa [invoke,builtin] using this
    · cases h
  · cases h
def fg(i n:Nat) :Bool:=decide (i<n)
def dU.rd(c:dU)(i:Nat) :Option (AV×List Bool) :=
  match c with
  | .cf xs=>some (.flt false (xs.getD i 0),[fg i xs.length])
  | .ci k xs=>some (.int k (xs.getD i 0),[fg i xs.length])
  | .cb xs=>some (.bool false (xs.getD i false),[fg i xs.length])
  | .cs xs=>some (.str (xs.getD i .empty),[fg i xs.length])
  | .cfl xs=>some (.imm .free (.fl (xs.getD i [])) 1 1 0 (xs.getD i []).length,[fg i xs.length])
  | .cns k xs=>some (.imm .free (.ns k (xs.getD i [])) 1 1 0 (xs.getD i []).length,[fg i xs.length])
def aE.rd(d:aE)(w i j:Nat) :Option (AV×List Bool) :=
  match d with
  | .fl xs=>bif Nat.beq w 1 then some (.flt false (xs.getD (er j i) 0),[fg (er j i) xs.length]) else none
  | .ns k xs=>bif Nat.beq w 1 then some (.int k (xs.getD (er j i) 0),[fg (er j i) xs.length]) else none
  | .bs xs=>bif Nat.beq w 1 then some (.bool false (xs.getD (er j i) false),[fg (er j i) xs.length]) else none
  | .ss xs=>bif Nat.beq w 1 then some (.str (xs.getD (er j i) .empty),[fg (er j i) xs.length]) else none
  | .vs xs=>bif Nat.beq w 1 then tf (xs[er j i]?) else none
  | .rows w' n get=>bif Nat.beq w w'&&Nat.blt j w then some (get i j,[fg i n]) else none
  | .cols n cs=>bif Nat.beq w cs.length then (cs[j]?).bind fun c=>c.rd i else none
theorem km{α:Type}{xs:List α}{i:Nat}{d:α}(h:fg i xs.length=true) :xs[i]? = some (xs.getD i d):=by
  have:i<xs.length:=of_decide_eq_true h
  rw [List.getD_eq_getElem?_getD,List.getElem?_eq_getElem this];rfl
theorem dU.rd_spec{c:dU}{i:Nat}{v:AV}{obs:List Bool}(h:c.rd i=some (v,obs))(ho:az obs) :c.cell? i=some v:=by
  cases c<;>simp only [dU.rd,Option.some.injEq,Prod.mk.injEq] at h<;>obtain ⟨rfl,rfl⟩:=h
  · simp only [dU.cell?,km (d:=0) ho.1,Option.map_some]
  · simp only [dU.cell?,km (d:=0) ho.1,Option.map_some]
  · simp only [dU.cell?,km (d:=false) ho.1,Option.map_some]
  · simp only [dU.cell?,km (d:=ByteArray.empty) ho.1,Option.map_some]
  · simp only [dU.cell?,km (d:=[]) ho.1,Option.map_some]
  · simp only [dU.cell?,km (d:=[]) ho.1,Option.map_some]
theorem Cq{w i j:Nat}(e2:j<w) :(i*w+j)/w=i∧(i*w+j)%w=j :=
  ⟨by rw [Nat.add_comm,Nat.add_mul_div_right _ _ (by omega),Nat.div_eq_of_lt e2,Nat.zero_add],by rw [Nat.add_comm,Nat.add_mul_mod_self_right,Nat.mod_eq_of_lt e2]⟩
theorem aE.rd_spec{d:aE}{w i j:Nat}{v:AV}{obs:List Bool}(h:d.rd w i j=some (v,obs))(ho:az obs) :d.cell? (i*w+j)=some v:=by
  have one:∀ {α:Type} {x y:α},(bif Nat.beq w 1 then some x else none)=some y→w=1∧x=y:=by
    intro α x y h
    cases e:Nat.beq w 1 with
    | true=>rw [e] at h;cases h;exact ⟨Nat.eq_of_beq_eq_true e,rfl⟩
    | false=>rw [e] at h;cases h
  cases d with
  | fl xs=>obtain ⟨e1,h'⟩:=one h;subst e1;obtain ⟨rfl,rfl⟩:=Prod.mk.inj h';have:=km (d:=0) ho.1;simp only [fj] at this ⊢;rw [Nat.mul_one,Nat.add_comm];simp only [aE.cell?,this,Option.map_some]
  | ns k xs=>obtain ⟨e1,h'⟩:=one h;subst e1;obtain ⟨rfl,rfl⟩:=Prod.mk.inj h';have:=km (d:=0) ho.1;simp only [fj] at this ⊢;rw [Nat.mul_one,Nat.add_comm];simp only [aE.cell?,this,Option.map_some]
  | bs xs=>obtain ⟨e1,h'⟩:=one h;subst e1;obtain ⟨rfl,rfl⟩:=Prod.mk.inj h';have:=km (d:=false) ho.1;simp only [fj] at this ⊢;rw [Nat.mul_one,Nat.add_comm];simp only [aE.cell?,this,Option.map_some]
  | ss xs=>obtain ⟨e1,h'⟩:=one h;subst e1;obtain ⟨rfl,rfl⟩:=Prod.mk.inj h';have:=km (d:=ByteArray.empty) ho.1;simp only [fj] at this ⊢;rw [Nat.mul_one,Nat.add_comm];simp only [aE.cell?,this,Option.map_some]
  | vs xs =>
    simp only [aE.rd] at h
    cases e:Nat.beq w 1 with
    | false=>rw [e] at h;cases h
    | true =>
      rw [e] at h
      obtain ⟨h',rfl⟩:=gj h
      have:=Nat.eq_of_beq_eq_true e
      subst this
      simp only [fj] at h'
      rw [Nat.mul_one,Nat.add_comm];simp only [aE.cell?,h']
  | rows w' n get =>
    simp only [aE.rd] at h
    cases e:(Nat.beq w w'&&Nat.blt j w) with
    | false=>rw [e] at h;cases h
    | true =>
      rw [e] at h
      simp only [cond_true,Option.some.injEq,Prod.mk.injEq] at h;obtain ⟨rfl,rfl⟩:=h
      rw [Bool.and_eq_true] at e
      have e1:=Nat.eq_of_beq_eq_true e.1
      subst e1
      have e2:j<w:=by have:=e.2;simpa [Nat.blt_eq] using this
      have hi:i<n:=of_decide_eq_true ho.1
      have q1:(i*w+j)/w=i:=by rw [Nat.add_comm,Nat.add_mul_div_right _ _ (by omega),Nat.div_eq_of_lt e2,Nat.zero_add]
      have q2:(i*w+j)%w=j:=by rw [Nat.add_comm,Nat.add_mul_mod_self_right,Nat.mod_eq_of_lt e2]
      simp [aE.cell?,q1,q2,hi]
  | cols n cs =>
    simp only [aE.rd] at h
    cases e:Nat.beq w cs.length with
    | false=>rw [e] at h;cases h
    | true =>
      rw [e] at h
      have:=Nat.eq_of_beq_eq_true e
      subst this
      simp only [cond_true,Option.bind_eq_some_iff] at h
      obtain ⟨c,h1,h2⟩:=h
      have e2:j<cs.length:=(List.getElem?_eq_some_iff.1 h1).1
      obtain ⟨q1,q2⟩:=Cq (i:=i) e2
      simp only [aE.cell?,q1,q2,h1,Option.bind_some]
      exact dU.rd_spec h2 ho
def aE.rdN(d:aE)(w i:Nat) :Nat→Nat→Option (List AV×List Bool)
  | 0,_=>some ([],[])
  | n+1,j =>
    match d.rd w i j,d.rdN w i n (j+1) with
    | some (v,o),some (l,o')=>some (v::l,o++o')
    | _,_=>none
theorem aZ{a b:List Bool} :az (a++b)↔az a∧az b:=by
  induction a with
  | nil=>simp [az]
  | cons x l ih=>simp [az,ih,and_assoc]
theorem uM{d:aE}{w i:Nat} :∀ {n j:Nat} {l:List AV} {obs:List Bool},d.rdN w i n j=some (l,obs)→az obs→l.length=n∧∀ x,x<n→d.cell? (i*w+j+x)=l[x]?
  | 0,j,l,obs,h,_=>by simp [aE.rdN] at h;obtain ⟨rfl,rfl⟩:=h;exact ⟨rfl,fun x hx=>by omega⟩
  | n+1,j,l,obs,h,ho=>by
    simp only [aE.rdN] at h
    split at h
    · rename_i v o l' o' h1 h2
      simp only [Option.some.injEq,Prod.mk.injEq] at h;obtain ⟨rfl,rfl⟩:=h
      rw [aZ] at ho
      have s1:=aE.rd_spec h1 ho.1
      obtain ⟨s2,s3⟩:=uM h2 ho.2
      refine ⟨by simp [s2],fun x hx=>?_⟩
      cases x with
      | zero=>simpa using s1
      | succ x=>have:=s3 x (by omega);rw [show i*w+j+(x+1)=i*w+(j+1)+x from by omega];simpa using this
    · cases h
theorem nA{P:Program}{w:World}(bl o:Nat) :∀ (n i:Nat) (us:List Value) (acc:Array Value),us.length=n→(∀ x,x<n→w.cell? ⟨bl,o+i+x,none⟩=us[x]?) →
    (loadCellsFrom ⟨bl,o,none⟩ i n acc).run P w=.ok (acc++us.toArray) w
  | 0,i,us,acc,hl,_=>by
    have:us=[]:=List.length_eq_zero_iff.1 hl
    subst this;simp [loadCellsFrom]
  | n + 1, i, us, acc, hl, h => by
    match us,hl with
    | u::us,hl =>
      have h0:=h 0 (by omega)
      simp at h0
      have ih:=nA (P:=P) (w:=w) bl o n (i+1) us (acc.push u) (by simpa using hl) (fun x hx=>by
        have:=h (x+1) (by omega);rw [show o+(i+1)+x=o+i+(x+1) from by omega];simpa using this)
      have hld:(load (Addr.add ⟨bl,o,none⟩ i)).run P w=.ok u w:=by rw [io];simp [load,Sem.run,h0]
      simp only [loadCellsFrom,Sem.run_bind,hld,Result.andThen_ok,ih]
      simp
theorem mD{ρ:ag}{w:World} :∀ {l:List AV} {us:List Value},us.length=l.length→(∀ (x:Nat) (v:AV) (u:Value),l[x]? = some v→us[x]? = some u→VR ρ w v u)→c7 ρ w l us
  | [],[],_,_=>.nil
  | v::l,u::us,hl,h=>.cons _ _ _ _ (h 0 v u rfl rfl) (mD (by simpa using hl) fun x v u h1 h2=>h (x+1) v u (by simpa using h1) (by simpa using h2))
  | [],_::_,hl,_=>by cases hl
  | _::_,[],hl,_=>by cases hl
theorem E3{ρ:ag}{w:World}{bl o:Nat}{d:aE}{k i n j:Nat}{l:List AV}{obs:List Bool}(hc:∀ x v,d.cell? x=some v→∃ u,w.cell? ⟨bl,o+x,none⟩=some u∧VR ρ w v u) 
    (h:d.rdN k i n j=some (l,obs)) (ho:az obs):∃ us:List Value,us.length=n∧(∀ x,x<n→w.cell? ⟨bl,o+(i*k+j)+x,none⟩=us[x]?)∧c7 ρ w l us:=by
  obtain ⟨hl,hx⟩:=uM h ho
  have each:∀ x,x<n→∃ v u,l[x]? = some v∧w.cell? ⟨bl,o+(i*k+j)+x,none⟩=some u∧VR ρ w v u:=by
    intro x hlt
    have h1:=hx x hlt
    rw [List.getElem?_eq_getElem (by omega)] at h1
    obtain ⟨u,h2,h3⟩:=hc _ _ h1
    refine ⟨l[x],u,List.getElem?_eq_getElem (by omega),?_,h3⟩
    rw [show o+(i*k+j)+x=o+(i*k+j+x) from by omega];exact h2
  refine ⟨(List.range n).map fun x=>(w.cell? ⟨bl,o+(i*k+j)+x,none⟩).getD undef,by simp,fun x hlt=>?_,mD (by simp [hl]) ?_⟩
  · obtain ⟨v,u,_,h2,_⟩:=each x hlt
    rw [List.getElem?_map,List.getElem?_range hlt];simp [h2]
  · intro x v u h1 h2
    have hlt:x<n:=by
      rcases Nat.lt_or_ge x n with q | q
      · exact q
      · rw [List.getElem?_eq_none (by omega)] at h1;cases h1
    obtain ⟨v',u',q1,q2,q3⟩:=each x hlt
    rw [List.getElem?_map,List.getElem?_range hlt] at h2
    simp [q2] at h2
    rw [h1] at q1;cases q1;subst h2;exact q3
def uN(P:Program)(g:Nat→Option aE)(t:TypeId)(x:AV) :Option (AV×List Bool×List Nat) :=
  let go (d:aE) (w i j:Nat):Option (AV×List Bool) :=
    match EZ P t,P.info? t with
    | some true,some inf=>(d.rdN w i inf.size j).map fun r=>(.agg r.1,r.2)
    | some false,some _=>d.rd w i j
    | _,_=>none
  match x with
  | .ptr b w i j=>match g b with
    | some d=>(go d w i j).map fun r=>(r.1,r.2,[b])
    | none=>none
  | .iptr _ d w i j=>(go d w i j).map fun r=>(r.1,r.2,[])
  | _=>none
def JH(P:Program)(ρ:ag)(w:World)(s:Sem Value)(v:AV) :Prop:=∃ u,s.run P w=.ok u w∧VR ρ w v u
theorem JH.plain{P:Program}{ρ:ag}{w:World}{s:Sem Value}{v:AV}{u:Value}(h:s.run P w=.ok u w)(hv:VR ρ w v u) :JH P ρ w s v:=⟨u,h,hv⟩
theorem w4{P:Program}{ρ:ag}{w:World}{h:bI}{n:Nat}(hh:HR ρ w h n){t:TypeId}{x:AV}{x':Value}{v:AV}{obs:List Bool}{rs:List Nat}(hx:VR ρ w x x') 
    (hl:uN P (aR h) t x=some (v,obs,rs)) (ho:az obs):JH P ρ w (Instr.loadAt t x') v:=by
  have go:∀ (d:aE) (k i j bl o:Nat),(∀ x v,d.cell? x=some v→∃ u,w.cell? ⟨bl,o+x,none⟩=some u∧VR ρ w v u) →
      (match EZ P t,P.info? t with
        | some true,some inf=>(d.rdN k i inf.size j).map fun r=>(AV.agg r.1,r.2)
        | some false,some _=>d.rd k i j
        | _,_=>none)=some (v,obs)→JH P ρ w (Instr.loadAt t (.pointer (some ⟨bl,o+(i*k+j),none⟩))) v:=by
    intro d k i j bl o hc hg
    split at hg
    · rename_i inf ha hi
      simp only [Option.map_eq_some_iff,Prod.mk.injEq] at hg
      obtain ⟨⟨l,o'⟩,h1,rfl,rfl⟩:=hg
      obtain ⟨us,q1,q2,q3⟩:=E3 hc h1 ho
      refine .plain (u:=.agg us.toArray) ?_ (.agg _ _ (by simpa using q3))
      have hs:P.cellsOf t=inf.size:=by simp [Program.cellsOf,hi]
      have:=nA (P:=P) (w:=w) bl (o+(i*k+j)) inf.size 0 us #[] q1 (by simpa using q2)
      simp only [Instr.loadAt,Instr.sureAddr,loadVar,Sem.run_bind,Sem.run_pure,Result.andThen_ok,su ha,if_true,run_sizeOf w hi,hs,loadCells,this]
      simp
    · rename_i inf ha hi
      have s:=aE.rd_spec hg ho
      obtain ⟨u,h2,h3⟩:=hc _ _ s
      refine .plain (u:=u) ?_ h3
      simp [Instr.loadAt,Instr.sureAddr,loadVar,su ha,load,Sem.run,h2]
    · cases hg
  unfold uN at hl
  simp only at hl
  split at hl
  · rename_i b k i j
    split at hl
    · rename_i d hd
      simp only [Option.map_eq_some_iff,Prod.mk.injEq] at hl
      obtain ⟨⟨v',o'⟩,h1,rfl,rfl,rfl⟩:=hl
      cases hx with | ptr _ _ _ _ hok =>
      obtain ⟨_,_,c,ty,hc,hv⟩:=hh.real hd hok
      have:=go d k i j (ρ.at_ b) 0 (fun x v hx=>by
        obtain ⟨u,h1,h2⟩:=hv x v hx
        exact ⟨u,by simp [World.cell?,hc,h1],h2⟩) h1
      simpa using this
    · cases hl
  · rename_i bw d k i j
    simp only [Option.map_eq_some_iff,Prod.mk.injEq] at hl
    obtain ⟨⟨v',o'⟩,h1,rfl,rfl,rfl⟩:=hl
    cases hx with
    | iptr _ _ _ _ _ bl o u ha hb hc hv hr hk hg =>
      exact go d k i j bl o (fun x v hx=>⟨u x,hc x v hx,hv x v hx⟩) h1
  · cases hl
theorem E4{P:Program}{ρ:ag}{w:World}{h:bI}{n:Nat}(hh:HR ρ w h n){t:TypeId}{x:AV}{x':Value}{v:AV}{obs:List Bool}{rs:List Nat}(hx:VR ρ w x x') 
    (hl:uN P (aR h) t x=some (v,obs,rs)) (ho:az obs):fC P ρ w (Instr.loadAt t x') v :=
  let ⟨_,h1,h2⟩:=w4 hh hx hl ho;.plain h1 h2
def dU.wr(c:dU)(i:Nat)(v:AV) :Option (dU×List Bool) :=
  match c,v with
  | .cf xs,.flt _ x=>some (.cf (xs.set i x),[fg i xs.length])
  | .ci k xs,.int k' x=>bif dp k k' then some (.ci k (xs.set i x),[fg i xs.length]) else none
  | .cb xs,.bool _ x=>some (.cb (xs.set i x),[fg i xs.length])
  | .cs xs,.str x=>some (.cs (xs.set i x),[fg i xs.length])
  | .cfl xs,.nsl=>some (.cfl (xs.set i []),[fg i xs.length])
  | .cfl xs,.imm l (.fl ys) 1 1 o n=>bif l.isFree then some (.cfl (xs.set i ((ys.drop o).take n)),[fg i xs.length,decide (o+n≤ys.length)]) else none
  | .cns k xs,.nsl=>some (.cns k (xs.set i []),[fg i xs.length])
  | .cns k xs,.imm l (.ns k' ys) 1 1 o n=>bif dp k k'&&l.isFree then some (.cns k (xs.set i ((ys.drop o).take n)),[fg i xs.length,decide (o+n≤ys.length)]) else none
  | _,_=>none
def aE.wr(d:aE)(w i j:Nat)(v:AV) :Option (aE×List Bool) :=
  match d,v with
  | .fl xs,.flt _ x=>bif Nat.beq w 1 then some (.fl (xs.set (er j i) x),[fg (er j i) xs.length]) else none
  | .ns k xs,.int k' x=>bif Nat.beq w 1&&dp k k' then some (.ns k (xs.set (er j i) x),[fg (er j i) xs.length]) else none
  | .bs xs,.bool _ x=>bif Nat.beq w 1 then some (.bs (xs.set (er j i) x),[fg (er j i) xs.length]) else none
  | .ss xs,.str x=>bif Nat.beq w 1 then some (.ss (xs.set (er j i) x),[fg (er j i) xs.length]) else none
  | .vs xs,v=>bif Nat.beq w 1&&Nat.blt (er j i) xs.length then some (.vs (xs.set (er j i) v),[]) else none
  | .rows w' n get,v=>bif Nat.beq w w'&&(Nat.blt j w&&(v.kept&&v.one)) then some (.rows w' n (fun a c=>bif Nat.beq a i&&Nat.beq c j then v else get a c),[fg i n]) else none
  | .cols n cs,v=>bif Nat.beq w cs.length then (cs[j]?).bind fun c=>(c.wr i v).map fun r=>(.cols n (cs.set j r.1),r.2) else none
  | _,_=>none
def aP(v e:AV) :Prop:=∀ (ρ:ag) (w:World) (u:Value),VR ρ w v u→VR ρ w e u
theorem aP.refl(v:AV) :aP v v:=fun _ _ _ h=>h
theorem uO{l:Lv}{ys:List Nat}{o n:Nat}(hl:l.isFree=true)(h:o+n≤ys.length) :aP (.imm l (.fl ys) 1 1 o n) (.imm .free (.fl ((ys.drop o).take n)) 1 1 0 ((ys.drop o).take n).length):=by
  intro ρ w u hv
  have hlen:((ys.drop o).take n).length=n:=by simp;omega
  rw [hlen]
  cases hv with
  | imm _ _ _ _ _ _ cap bl o' u' ha hb hc hv' hl' hr hk hg =>
    have:=VR.imm (ρ:=ρ) (w:=w) .free (.fl ((ys.drop o).take n)) 1 1 0 n cap bl (o'+o) (fun x=>u' (o+x)) (fun j hj=>jQ (O:=ρ.own) hl ha j hj) hb
      (fun x v hx=>by
        simp only [aE.cell?,Option.map_eq_some_iff,List.getElem?_take,List.getElem?_drop] at hx
        obtain ⟨y,h1,h2⟩:=hx
        split at h1
        · rw [Nat.add_assoc];exact hc (o+x) v (by simp [aE.cell?,h1,h2])
        · cases h1)
      (fun x v hx=>by
        simp only [aE.cell?,Option.map_eq_some_iff,List.getElem?_take,List.getElem?_drop] at hx
        obtain ⟨y,h1,h2⟩:=hx
        split at h1
        · exact hv' (o+x) v (by simp [aE.cell?,h1,h2])
        · cases h1) hl' trivial (fun _=>rfl) rfl
    simpa using this
  | immEnd=>exact .immEnd _ _ _ _ _ _ _ trivial (fun _=>rfl) rfl
theorem uP{l:Lv}{k:IntKind}{ys:List Int}{o n:Nat}(hl:l.isFree=true)(h:o+n≤ys.length) :aP (.imm l (.ns k ys) 1 1 o n) (.imm .free (.ns k ((ys.drop o).take n)) 1 1 0 ((ys.drop o).take n).length):=by
  intro ρ w u hv
  have hlen:((ys.drop o).take n).length=n:=by simp;omega
  rw [hlen]
  cases hv with
  | imm _ _ _ _ _ _ cap bl o' u' ha hb hc hv' hl' hr hk hg =>
    have:=VR.imm (ρ:=ρ) (w:=w) .free (.ns k ((ys.drop o).take n)) 1 1 0 n cap bl (o'+o) (fun x=>u' (o+x)) (fun j hj=>jQ (O:=ρ.own) hl ha j hj) hb
      (fun x v hx=>by
        simp only [aE.cell?,Option.map_eq_some_iff,List.getElem?_take,List.getElem?_drop] at hx
        obtain ⟨y,h1,h2⟩:=hx
        split at h1
        · rw [Nat.add_assoc];exact hc (o+x) v (by simp [aE.cell?,h1,h2])
        · cases h1)
      (fun x v hx=>by
        simp only [aE.cell?,Option.map_eq_some_iff,List.getElem?_take,List.getElem?_drop] at hx
        obtain ⟨y,h1,h2⟩:=hx
        split at h1
        · exact hv' (o+x) v (by simp [aE.cell?,h1,h2])
        · cases h1) hl' trivial (fun _=>rfl) rfl
    simpa using this
  | immEnd=>exact .immEnd _ _ _ _ _ _ _ trivial (fun _=>rfl) rfl
theorem oR(d:aE)(hr:d.recKept)(hk:d.kept=true)(hg:d.foreign=true) :aP .nsl (.imm .free d 1 1 0 0):=by
  intro ρ w u hv;cases hv;exact .immEnd _ _ _ _ _ _ _ hr (fun _=>hk) hg
def aE.weak(d:aE)(v:AV) :AV :=
  match d,v with
  | .fl _,.flt _ x=>.flt false x
  | .bs _,.bool _ x=>.bool false x
  | _,v=>v
theorem l9{d:aE}{v:AV} :aP v (d.weak v):=by
  intro ρ w u h
  unfold aE.weak
  split
  · cases h with | flt _ _ y hf =>
    refine .flt _ _ _ ?_
    rcases hf with rfl | ⟨_,h2,h3⟩
    · exact .inl rfl
    · exact .inr ⟨rfl,h2,h3⟩
  · cases h;exact .bool _ _
  · exact h
theorem oS{α:Type}{f:α→AV}{xs:List α}{i:Nat}{x:α}(hi:i<xs.length) :
    (∃ e,(xs[i]?).map f=some e)∧∀ y e,((xs.set i x)[y]?).map f=some e→(y=i∧e=f x)∨(y≠i∧(xs[y]?).map f=some e):=by
  refine ⟨⟨f xs[i],by simp [hi]⟩,fun y e h=>?_⟩
  rw [List.getElem?_set] at h
  by_cases hy:i=y
  · subst hy;simp [hi] at h;exact .inl ⟨rfl,h.symm⟩
  · rw [if_neg hy] at h;exact .inr ⟨fun q=>hy q.symm,h⟩
theorem dU.wr_spec{c c':dU}{i:Nat}{v:AV}{obs:List Bool}(h:c.wr i v=some (c',obs))(ho:az obs) :
    (∃ e,c.cell? i=some e)∧(∀ y e,c'.cell? y=some e→(y=i∧aP v e)∨(y≠i∧c.cell? y=some e)):=by
  have fin:∀ {α:Type} {f:α→AV} {xs:List α} {x:α},fg i xs.length=true→aP v (f x)→(∃ e,(xs[i]?).map f=some e)∧∀ y e,((xs.set i x)[y]?).map f=some e→(y=i∧aP v e)∨(y≠i∧(xs[y]?).map f=some e):=by
    intro α f xs x h1 h2
    obtain ⟨q1,q2⟩:=oS (f:=f) (x:=x) (of_decide_eq_true h1:i<xs.length)
    exact ⟨q1,fun y e hy=>(q2 y e hy).imp (fun q=>⟨q.1,by rw [q.2];exact h2⟩) id⟩
  unfold dU.wr at h
  split at h
  · simp only [Option.some.injEq,Prod.mk.injEq] at h;obtain ⟨rfl,rfl⟩:=h
    exact fin ho.1 (l9 (d:=.fl []))
  · rename_i k xs k' x
    cases e:dp k k' with
    | false=>rw [e] at h;cases h
    | true =>
      rw [e] at h;simp only [cond_true,Option.some.injEq,Prod.mk.injEq] at h;obtain ⟨rfl,rfl⟩:=h
      have hk:k=k':=of_decide_eq_true e
      subst hk
      exact fin ho.1 (aP.refl _)
  · simp only [Option.some.injEq,Prod.mk.injEq] at h;obtain ⟨rfl,rfl⟩:=h
    exact fin ho.1 (l9 (d:=.bs []))
  · simp only [Option.some.injEq,Prod.mk.injEq] at h;obtain ⟨rfl,rfl⟩:=h
    exact fin ho.1 (aP.refl _)
  · simp only [Option.some.injEq,Prod.mk.injEq] at h;obtain ⟨rfl,rfl⟩:=h
    exact fin (f:=fun l=>.imm .free (.fl l) 1 1 0 l.length) ho.1 (oR _ trivial rfl rfl)
  · rename_i xs l ys o n
    cases e:l.isFree with
    | false=>rw [e] at h;cases h
    | true =>
      rw [e] at h;simp only [cond_true,Option.some.injEq,Prod.mk.injEq] at h;obtain ⟨rfl,rfl⟩:=h
      exact fin (f:=fun l=>.imm .free (.fl l) 1 1 0 l.length) ho.1 (uO e (of_decide_eq_true ho.2.1))
  · simp only [Option.some.injEq,Prod.mk.injEq] at h;obtain ⟨rfl,rfl⟩:=h
    exact fin (f:=fun l=>.imm .free (.ns _ l) 1 1 0 l.length) ho.1 (oR _ trivial rfl rfl)
  · rename_i k xs l k' ys o n
    cases e:(dp k k'&&l.isFree) with
    | false=>rw [e] at h;cases h
    | true =>
      rw [e] at h;simp only [cond_true,Option.some.injEq,Prod.mk.injEq] at h;obtain ⟨rfl,rfl⟩:=h
      rw [Bool.and_eq_true] at e
      have hk:k=k':=of_decide_eq_true e.1
      subst hk
      exact fin (f:=fun l=>.imm .free (.ns k l) 1 1 0 l.length) ho.1 (uP e.2 (of_decide_eq_true ho.2.1))
  · cases h
theorem HH{c c':dU}{i:Nat}{v:AV}{obs:List Bool}(h:c.wr i v=some (c',obs)) :c'.len=c.len:=by
  unfold dU.wr at h
  split at h
  case h_2 =>
    rename_i k xs k' x
    cases e:dp k k'<;>rw [e] at h<;>cases h
    simp [dU.len]
  case h_6 =>
    rename_i xs l ys o n
    cases e:l.isFree<;>rw [e] at h<;>cases h
    simp [dU.len]
  case h_8 =>
    rename_i k xs l k' ys o n
    cases e:(dp k k'&&l.isFree)<;>rw [e] at h<;>cases h
    simp [dU.len]
  all_goals first | (cases h;simp [dU.len];done) | cases h
theorem aE.wr_spec{d d':aE}{w i j:Nat}{v:AV}{obs:List Bool}(hrk:d.recKept)(h:d.wr w i j v=some (d',obs))(ho:az obs) :
    d'.recKept∧(∃ e,d.cell? (i*w+j)=some e)∧(∀ y e,d'.cell? y=some e→(y=i*w+j∧aP v e)∨(y≠i*w+j∧d.cell? y=some e)):=by
  have old:∀ {e0:AV} {A:Prop},(d'.recKept∧(∃ e,d.cell? (i*w+j)=some e)∧(∀ y e,d'.cell? y=some e→(y=i*w+j∧e=d.weak v)∨(y≠i*w+j∧d.cell? y=some e))) →
      d'.recKept∧(∃ e,d.cell? (i*w+j)=some e)∧(∀ y e,d'.cell? y=some e→(y=i*w+j∧aP v e)∨(y≠i*w+j∧d.cell? y=some e)) :=
    fun q=>⟨q.1,q.2.1,fun y e hy=>(q.2.2 y e hy).imp (fun r=>⟨r.1,by rw [r.2];exact l9⟩) id⟩
  have lt:∀ {n:Nat},fg (er j i) n=true→j+i<n:=fun h=>by have:=of_decide_eq_true h;simpa using this
  unfold aE.wr at h
  split at h
  · rename_i xs ex x
    refine old (e0:=.any) (A:=True) ?_
    cases e:Nat.beq w 1 with
    | false=>rw [e] at h;cases h
    | true =>
      rw [e] at h;simp only [cond_true,Option.some.injEq,Prod.mk.injEq] at h;obtain ⟨rfl,rfl⟩:=h
      have:=Nat.eq_of_beq_eq_true e;subst this
      obtain ⟨h1,h2⟩:=oS (f:=AV.flt false) (x:=x) (lt ho.1)
      rw [Nat.mul_one,Nat.add_comm i j]
      exact ⟨trivial,h1,by simpa [aE.cell?,aE.weak] using h2⟩
  · rename_i k xs k' x
    refine old (e0:=.any) (A:=True) ?_
    cases e:(Nat.beq w 1&&dp k k') with
    | false=>rw [e] at h;cases h
    | true =>
      rw [e] at h;simp only [cond_true,Option.some.injEq,Prod.mk.injEq] at h;obtain ⟨rfl,rfl⟩:=h
      rw [Bool.and_eq_true] at e
      have:=Nat.eq_of_beq_eq_true e.1;subst this
      have hk:k=k':=of_decide_eq_true e.2
      subst hk
      obtain ⟨h1,h2⟩:=oS (f:=AV.int k) (x:=x) (lt ho.1)
      rw [Nat.mul_one,Nat.add_comm i j]
      exact ⟨trivial,h1,by simpa [aE.cell?,aE.weak] using h2⟩
  · rename_i xs kn x
    refine old (e0:=.any) (A:=True) ?_
    cases e:Nat.beq w 1 with
    | false=>rw [e] at h;cases h
    | true =>
      rw [e] at h;simp only [cond_true,Option.some.injEq,Prod.mk.injEq] at h;obtain ⟨rfl,rfl⟩:=h
      have:=Nat.eq_of_beq_eq_true e;subst this
      obtain ⟨h1,h2⟩:=oS (f:=AV.bool false) (x:=x) (lt ho.1)
      rw [Nat.mul_one,Nat.add_comm i j]
      exact ⟨trivial,h1,by simpa [aE.cell?,aE.weak] using h2⟩
  · rename_i xs x
    refine old (e0:=.any) (A:=True) ?_
    cases e:Nat.beq w 1 with
    | false=>rw [e] at h;cases h
    | true =>
      rw [e] at h;simp only [cond_true,Option.some.injEq,Prod.mk.injEq] at h;obtain ⟨rfl,rfl⟩:=h
      have:=Nat.eq_of_beq_eq_true e;subst this
      obtain ⟨h1,h2⟩:=oS (f:=AV.str) (x:=x) (lt ho.1)
      rw [Nat.mul_one,Nat.add_comm i j]
      exact ⟨trivial,h1,by simpa [aE.cell?,aE.weak] using h2⟩
  · rename_i xs
    refine old (e0:=.any) (A:=True) ?_
    cases e:(Nat.beq w 1&&Nat.blt (er j i) xs.length) with
    | false=>rw [e] at h;cases h
    | true =>
      rw [e] at h;simp only [cond_true,Option.some.injEq,Prod.mk.injEq] at h;obtain ⟨rfl,rfl⟩:=h
      rw [Bool.and_eq_true] at e
      have:=Nat.eq_of_beq_eq_true e.1;subst this
      have e2:j+i<xs.length:=by have:=e.2;simpa [Nat.blt_eq] using this
      obtain ⟨h1,h2⟩:=oS (f:=id) (x:=v) e2
      rw [Nat.mul_one,Nat.add_comm i j]
      simp at h1 h2
      refine ⟨trivial,?_,?_⟩
      · exact ⟨_,List.getElem?_eq_getElem e2⟩
      · simpa [aE.cell?,aE.weak] using h2
  · rename_i w' n get
    refine old (e0:=.any) (A:=True) ?_
    cases e:(Nat.beq w w'&&(Nat.blt j w&&(v.kept&&v.one))) with
    | false=>rw [e] at h;cases h
    | true =>
      rw [e] at h;simp only [cond_true,Option.some.injEq,Prod.mk.injEq] at h;obtain ⟨rfl,rfl⟩:=h
      simp only [Bool.and_eq_true] at e
      obtain ⟨e1,e2,e3,e4⟩:=e
      have:=Nat.eq_of_beq_eq_true e1
      subst this
      have e2:j<w:=by simpa [Nat.blt_eq] using e2
      have hi:i<n:=of_decide_eq_true ho.1
      have q1:(i*w+j)/w=i:=by rw [Nat.add_comm,Nat.add_mul_div_right _ _ (by omega),Nat.div_eq_of_lt e2,Nat.zero_add]
      have q2:(i*w+j)%w=j:=by rw [Nat.add_comm,Nat.add_mul_mod_self_right,Nat.mod_eq_of_lt e2]
      refine ⟨fun a c=>?_,⟨get i j,by simp [aE.cell?,q1,q2,hi]⟩,fun y e' hy=>?_⟩
      · cases e5:(Nat.beq a i&&Nat.beq c j) with
        | true=>simp only [e5,cond_true];exact ⟨e3,e4⟩
        | false=>simp only [e5,cond_false];exact hrk a c
      · simp only [aE.cell?] at hy ⊢
        split at hy
        · rename_i hlt
          by_cases hy2:y=i*w+j
          · subst hy2
            simp only [q1,q2,Nat.beq_refl,Bool.and_self,cond_true,Option.some.injEq] at hy
            exact .inl ⟨rfl,hy.symm⟩
          · refine .inr ⟨hy2,?_⟩
            rw [if_pos hlt]
            cases e5:(Nat.beq (y/w) i&&Nat.beq (y%w) j) with
            | true =>
              rw [Bool.and_eq_true] at e5
              have a1:=Nat.eq_of_beq_eq_true e5.1
              have a2:=Nat.eq_of_beq_eq_true e5.2
              have:=Nat.div_add_mod y w
              rw [a1,a2,Nat.mul_comm] at this
              exact absurd this.symm hy2
            | false=>rw [e5] at hy;exact hy
        · cases hy
  · rename_i n cs
    cases e:Nat.beq w cs.length with
    | false=>rw [e] at h;cases h
    | true =>
      rw [e] at h
      have:=Nat.eq_of_beq_eq_true e
      subst this
      simp only [cond_true,Option.bind_eq_some_iff,Option.map_eq_some_iff,Prod.mk.injEq] at h
      obtain ⟨c,h1,⟨c',o'⟩,h2,rfl,rfl⟩:=h
      have e2:j<cs.length:=(List.getElem?_eq_some_iff.1 h1).1
      obtain ⟨q1,q2⟩:=Cq (i:=i) e2
      obtain ⟨r1,r2⟩:=dU.wr_spec h2 ho
      obtain ⟨e0,he0⟩:=r1
      have hl:=HH h2
      refine ⟨fun x hx=>?_,⟨e0,by simp [aE.cell?,q1,q2,h1,he0]⟩,fun y e' hy=>?_⟩
      · rcases List.mem_or_eq_of_mem_set hx with q | rfl
        · exact hrk x q
        · rw [hl];exact hrk c (List.mem_of_getElem? h1)
      simp only [aE.cell?,List.length_set,Option.bind_eq_some_iff] at hy ⊢
      obtain ⟨c2,h3,h4⟩:=hy
      rw [List.getElem?_set] at h3
      have hdm:=Nat.div_add_mod y cs.length
      by_cases hj:j=y%cs.length
      · rw [if_pos hj,if_pos e2] at h3
        cases h3
        rcases r2 _ _ h4 with ⟨a1,a2⟩ | ⟨a1,a2⟩
        · refine .inl ⟨?_,a2⟩
          rw [a1,←hj,Nat.mul_comm] at hdm;exact hdm.symm
        · refine .inr ⟨fun q=>a1 (by rw [q];exact q1),c,by rw [←hj];exact h1,a2⟩
      · rw [if_neg hj] at h3
        exact .inr ⟨fun q=>hj (by rw [q];exact q2.symm),c2,h3,h4⟩
  · cases h
def aE.wrN(d:aE)(w i:Nat) :List AV→Nat→Option (aE×List Bool)
  | [],_=>some (d,[])
  | v::l,j =>
    match d.wr w i j v with
    | some (d',o) =>
      match d'.wrN w i l (j+1) with
      | some (d'',o')=>some (d'',o++o')
      | none=>none
    | none=>none
def AV.cells(v:AV) :Option (List AV) :=
  match v with
  | .agg l=>bif e7 l then some l else none
  | v=>bif v.one then some [v] else none
theorem Lp{ρ:ag}{w:World}{v:AV}{u:Value}(h:VR ρ w v u)(ho:v.one=true) :(∀ c,u ≠ .agg c)∧(∀ c,u ≠ .tuple c)∧u.cells = #[u]:=by
  cases h<;>simp [AV.one] at ho<;>simp [Value.cells]
theorem yV{ρ:ag}{w:World}{v:AV}{u:Value}{l:List AV}(h:VR ρ w v u)(hc:v.cells=some l) :c7 ρ w l u.cells.toList∧e7 l=true:=by
  unfold AV.cells at hc
  split at hc
  · rename_i l'
    cases e:e7 l' with
    | false=>rw [e] at hc;cases hc
    | true=>rw [e] at hc;cases hc;cases h with | agg _ c hl=>exact ⟨by simpa [Value.cells] using hl,e⟩
  · cases e:v.one with
    | false=>rw [e] at hc;cases hc
    | true =>
      rw [e] at hc;cases hc
      obtain ⟨_,_,h3⟩:=Lp h e
      rw [h3]
      exact ⟨.cons _ _ _ _ h .nil,by simp [e7,e]⟩
theorem Kr{P:Program}{w:World}{a:Addr}{u:Value}(h1:∀ c,u ≠ .agg c)(h2:∀ c,u ≠ .tuple c){x:Value}(hc:w.cell? a=some x)(hf:w.frozen? a=false) :
    (store a u).run P w=.ok () (w.setCell a u):=by
  unfold store
  cases u<;>first | exact absurd rfl (h1 _) | exact absurd rfl (h2 _) | simp [Sem.run,hc,hf]
theorem mE{P:Program}{ρ:ag} :∀ {us:List Value} {l:List AV} {w:World} {h:bI} {n b k i j x0:Nat} {d d':aE} {obs:List Bool},HR ρ w h n→aR h b=some d→c7 ρ w l us→e7 l=true →
    d.wrN k i l (j+x0)=some (d',obs)→az obs→∃ w',(storeCells ⟨ρ.at_ b,i*k+j,none⟩ us x0).run P w=.ok () w'∧HR ρ w' (dm h b d') n∧fA ρ.live w w'
  | [],[],w,h,n,b,k,i,j,x0,d,d',obs,hh,hg,_,_,hw,_=>by
    simp only [aE.wrN,Option.some.injEq,Prod.mk.injEq] at hw;obtain ⟨rfl,rfl⟩:=hw
    refine ⟨w,by simp [storeCells],?_,fA.refl _ _⟩
    have e:∀ c,aR (dm h b d) c=aR h c:=by
      intro c;rw [cS];split
      · rename_i q;subst q;exact hg.symm
      · rfl
    exact ⟨fun c e' he=>hh.cell c e' (by rw [←e];exact he),fun a c d e' h1 h2=>hh.inj a c d e' (by rw [←e];exact h1) (by rw [←e];exact h2),hh.fresh,hh.liveLt,hh.outLt,hh.lt,hh.rom⟩
  | u::us,v::l,w,h,n,b,k,i,j,x0,d,d',obs,hh,hg,hv,h1,hw,ho=>by
    simp only [aE.wrN] at hw
    split at hw
    case h_2=>cases hw
    rename_i d1 o1 q1
    split at hw
    case h_2=>cases hw
    rename_i d2 o2 q2
    simp only [Option.some.injEq,Prod.mk.injEq] at hw;obtain ⟨rfl,rfl⟩:=hw
    rw [aZ] at ho
    cases hv with | cons _ _ _ _ hv1 hv2 =>
    simp only [e7,Bool.and_eq_true] at h1
    have hrk:=hh.rk hg
    obtain ⟨r1,r2,r3⟩:=aE.wr_spec hrk q1 ho.1
    obtain ⟨s1,s2,s3⟩:=Lp hv1 h1.1
    obtain ⟨e0,he0⟩:=r2
    obtain ⟨_,_,_,c,ty,hc,hcv⟩:=hh.solid hg ⟨_,_,he0⟩
    obtain ⟨u0,hu0,_⟩:=hcv _ _ he0
    have hcell:w.cell? ⟨ρ.at_ b,i*k+(j+x0),none⟩=some u0:=by simp [World.cell?,hc,hu0]
    have hfz:w.frozen? ⟨ρ.at_ b,i*k+(j+x0),none⟩=false:=by simp [World.frozen?,hc]
    have hst:=Kr (P:=P) s1 s2 hcell hfz
    obtain ⟨hh',W⟩:=hh.store hg r1 (fun y e hy=>(r3 y e hy).imp (fun q=>⟨q.1,q.2 _ _ _ hv1⟩) id) ⟨e0,he0⟩
    have hg':aR (dm h b d1) b=some d1:=by rw [cS,if_pos rfl]
    obtain ⟨w2,t1,t2,t3⟩:=mE (P:=P) (x0:=x0+1) hh' hg' (hv2.mono (jb.refl _ _) W) h1.2 (by rw [←Nat.add_assoc];exact q2) ho.2
    refine ⟨w2,?_,?_,W.trans t3 (fun _ _ m=>m)⟩
    · rw [storeCells]
      have ea:Addr.add ⟨ρ.at_ b,i*k+j,none⟩ x0=⟨ρ.at_ b,i*k+(j+x0),none⟩:=by rw [io,Nat.add_assoc]
      rw [ea]
      simp only [Sem.run_bind,hst,Result.andThen_ok]
      exact t1
    · have e:∀ c,aR (dm (dm h b d1) b d2) c=aR (dm h b d2) c:=by
        intro c;rw [cS,cS,cS];split<;>rfl
      exact ⟨fun c e' he=>t2.cell c e' (by rw [e];exact he),fun a c d e' q3 q4=>t2.inj a c d e' (by rw [e];exact q3) (by rw [e];exact q4),t2.fresh,t2.liveLt,t2.outLt,t2.lt,t2.rom⟩
  | [],_::_,_,_,_,_,_,_,_,_,_,_,_,_,_,hv,_,_,_=>by cases hv
  | _::_,[],_,_,_,_,_,_,_,_,_,_,_,_,_,hv,_,_,_=>by cases hv
def wh(P:Program)(g:Nat→Option aE)(t:TypeId)(x v:AV) :Option (Nat×aE×List Bool) :=
  match x,v.cells,P.info? t with
  | .ptr b w i j,some l,some inf =>
    match g b with
    | some d=>bif Nat.beq l.length inf.size then (d.wrN w i l j).map fun r=>(b,r.1,r.2) else none
    | none=>none
  | _,_,_=>none
theorem Dr{P:Program}{ρ:ag}{w:World}{h:bI}{n:Nat}(hh:HR ρ w h n){t:TypeId}{x v:AV}{x' v':Value}{b:Nat}{d:aE}{obs:List Bool}(hx:VR ρ w x x')(hv:VR ρ w v v') 
    (hs:wh P (aR h) t x v=some (b,d,obs)) (ho:az obs):∃ w',(Instr.storeAt t x' v').run P w=.ok () w'∧HR ρ w' (dm h b d) n∧fA ρ.live w w':=by
  unfold wh at hs
  split at hs
  case h_2=>cases hs
  rename_i b' k i j l inf hl hi
  split at hs
  case h_2=>cases hs
  rename_i d0 hd
  cases e:Nat.beq l.length inf.size with
  | false=>rw [e] at hs;cases hs
  | true =>
    rw [e] at hs
    simp only [cond_true,Option.map_eq_some_iff,Prod.mk.injEq] at hs
    obtain ⟨⟨d',o'⟩,hw,rfl,rfl,rfl⟩:=hs
    obtain ⟨c1,c2⟩:=yV hv hl
    cases hx with | ptr _ _ _ _ hb =>
    obtain ⟨w',r1,r2,r3⟩:=mE (P:=P) (x0:=0) (j:=j) hh hd c1 c2 hw ho
    refine ⟨w',?_,r2,r3⟩
    have hs:P.cellsOf t=inf.size:=by simp [Program.cellsOf,hi]
    have hsz:v'.cells.size=inf.size:=by
      have:=c1.length;rw [Nat.eq_of_beq_eq_true e] at this;simpa using this.symm
    simp only [Instr.storeAt,Instr.sureAddr,storeVar,Sem.run_bind,Sem.run_pure,Result.andThen_ok,run_sizeOf w hi,hs,hsz,ne_eq,not_true_eq_false,if_false]
    exact r1
def HI:List AV→Option (List Nat)
  | []=>some []
  | .flt _ x::l=>(HI l).map (x :: ·)
  | _::_=>none
def HJ(k:IntKind) :List AV→Option (List Int)
  | []=>some []
  | .int k' x::l=>bif dp k k' then (HJ k l).map (x :: ·) else none
  | _::_=>none
def HK:List AV→Option (List Bool)
  | []=>some []
  | .bool _ x::l=>(HK l).map (x :: ·)
  | _::_=>none
def HL:List AV→Option (List ByteArray)
  | []=>some []
  | .str x::l=>(HL l).map (x :: ·)
  | _::_=>none
def JI(P:Program)(e:TypeId)(l:List AV) :aE :=
  match P.underlying e with
  | some (.float .f64)=>match HI l with | some xs=>.fl xs | none=>.vs l
  | some (.int k)=>match HJ k l with | some xs=>.ns k xs | none=>.vs l
  | some .bool=>match HK l with | some xs=>.bs xs | none=>.vs l
  | some .string=>match HL l with | some xs=>.ss xs | none=>.vs l
  | _=>.vs l
def Ds(d:aE)(l:List AV) :Prop:=d.recKept∧∀ x v,d.cell? x=some v→∃ v0,l[x]? = some v0∧∀ (ρ:ag) (w:World) (u:Value),VR ρ w v0 u→VR ρ w v u
theorem sw(l:List AV) :Ds (.vs l) l:=⟨trivial,fun x v h=>⟨v,h,fun _ _ _ h=>h⟩⟩
theorem Ks:∀ {l:List AV} {xs:List Nat},HI l=some xs→Ds (.fl xs) l:=by
  intro l xs h
  refine ⟨trivial,fun x v hv=>?_⟩
  induction l generalizing xs x with
  | nil=>cases h;simp [aE.cell?] at hv
  | cons a l ih =>
    cases a<;>simp only [HI,Option.map_eq_some_iff,reduceCtorEq] at h
    obtain ⟨ys,h1,rfl⟩:=h
    cases x with
    | zero=>simp [aE.cell?] at hv;subst hv;exact ⟨_,rfl,fun ρ w u hu=>l9 (d:=.fl []) _ _ _ hu⟩
    | succ x=>exact ih h1 x (by simpa [aE.cell?] using hv)
theorem Kt{k:IntKind} :∀ {l:List AV} {xs:List Int},HJ k l=some xs→Ds (.ns k xs) l:=by
  intro l xs h
  refine ⟨trivial,fun x v hv=>?_⟩
  induction l generalizing xs x with
  | nil=>cases h;simp [aE.cell?] at hv
  | cons a l ih =>
    cases a<;>simp only [HJ,Option.map_eq_some_iff,reduceCtorEq] at h
    rename_i k' y
    cases e:dp k k' with
    | false=>rw [e] at h;cases h
    | true =>
      rw [e] at h
      simp only [cond_true,Option.map_eq_some_iff] at h
      obtain ⟨ys,h1,rfl⟩:=h
      have:k=k':=of_decide_eq_true e
      subst this
      cases x with
      | zero=>simp [aE.cell?] at hv;subst hv;exact ⟨_,rfl,fun ρ w u hu=>hu⟩
      | succ x=>exact ih h1 x (by simpa [aE.cell?] using hv)
theorem Ku:∀ {l:List AV} {xs:List Bool},HK l=some xs→Ds (.bs xs) l:=by
  intro l xs h
  refine ⟨trivial,fun x v hv=>?_⟩
  induction l generalizing xs x with
  | nil=>cases h;simp [aE.cell?] at hv
  | cons a l ih =>
    cases a<;>simp only [HK,Option.map_eq_some_iff,reduceCtorEq] at h
    obtain ⟨ys,h1,rfl⟩:=h
    cases x with
    | zero=>simp [aE.cell?] at hv;subst hv;exact ⟨_,rfl,fun ρ w u hu=>l9 (d:=.bs []) _ _ _ hu⟩
    | succ x=>exact ih h1 x (by simpa [aE.cell?] using hv)
theorem Kv:∀ {l:List AV} {xs:List ByteArray},HL l=some xs→Ds (.ss xs) l:=by
  intro l xs h
  refine ⟨trivial,fun x v hv=>?_⟩
  induction l generalizing xs x with
  | nil=>cases h;simp [aE.cell?] at hv
  | cons a l ih =>
    cases a<;>simp only [HL,Option.map_eq_some_iff,reduceCtorEq] at h
    obtain ⟨ys,h1,rfl⟩:=h
    cases x with
    | zero=>simp [aE.cell?] at hv;subst hv;exact ⟨_,rfl,fun ρ w u hu=>hu⟩
    | succ x=>exact ih h1 x (by simpa [aE.cell?] using hv)
theorem yW(P:Program)(e:TypeId)(l:List AV) :Ds (JI P e l) l:=by
  unfold JI
  split
  · split
    · rename_i h;exact Ks h
    · exact sw l
  · split
    · rename_i h;exact Kt h
    · exact sw l
  · split
    · rename_i h;exact Ku h
    · exact sw l
  · split
    · rename_i h;exact Kv h
    · exact sw l
  · exact sw l
theorem HM{ρ:ag}{w:World}{h:bI}{n b:Nat}(hh:HR ρ w h n)(hb : ¬ ρ.ok b)(hn:b<n){d:aE}{l:List AV}(hd:Ds d l)(c:Array Value)(t:TypeId) 
    (hc:∀ (x:Nat) (v:AV),l[x]? = some v→∃ u,c[x]? = some u∧VR ρ w v u) :
    HR (ρ.give b w.heap.size) (w.alloc (.cells c t)) (dm h b d) n∧jb ρ (ρ.give b w.heap.size) w∧fA ρ.live w (w.alloc (.cells c t)) :=
  hh.alloc hb hn d c t hd.1 fun x v hx=>by
    obtain ⟨v0,h1,h2⟩:=hd.2 x v hx
    obtain ⟨u,h3,h4⟩:=hc x v0 h1
    exact ⟨u,h3,h2 ρ w u h4⟩
def tg(P:Program)(ρ:ag)(w:World)(h:bI)(n nid:Nat)(s:Sem Value)(v:AV)(h':bI) :Prop :=
  ∃ u w' ρ',s.run P w=.ok u w'∧jb ρ ρ' w∧fA ρ.live w w'∧HR ρ' w' h' n∧VR ρ' w' v u∧∀ b,ρ'.ok b→ρ.ok b∨b=nid
theorem sx{P:Program}{ρ:ag}{w w1:World}{h:bI}{n nid:Nat}(hh:HR ρ w h n)(hb : ¬ ρ.ok nid)(hn:nid<n){s:Sem Value}{d:aE}{l:List AV}(hd:Ds d l){c:Array Value}{t:TypeId} 
    (hw:w1=w∨∃ k,w1 = { w with drawn:=k }) {u:Value} (hr:s.run P w=.ok u (w1.alloc (.cells c t)))
    (hc:∀ (x:Nat) (v:AV),l[x]? = some v→∃ u,c[x]? = some u∧VR ρ w v u) {v:AV} (hv:∀ ρ' w',ρ'=ρ.give nid w.heap.size→w'=w1.alloc (.cells c t)→VR ρ' w' v u) :
    tg P ρ w h n nid s v (dm h nid d):=by
  have key:∀ w1:World,(w1=w∨∃ k,w1 = { w with drawn:=k })→HR ρ w1 h n∧fA ρ.live w w1∧w1.heap=w.heap∧(∀ v u,VR ρ w v u→VR ρ w1 v u):=by
    rintro w1 (rfl | ⟨k,rfl⟩)
    · exact ⟨hh,fA.refl _ _,rfl,fun _ _ h=>h⟩
    · exact ⟨hh.drawn k,fA.drawn _ _ _,rfl,fun _ _ h=>h.mono (jb.refl _ _) (fA.drawn _ _ _)⟩
  obtain ⟨k1,k2,k3,k4⟩:=key w1 hw
  obtain ⟨a1,a2,a3⟩:=HM k1 hb hn hd c t (fun x v hx=>by obtain ⟨u,q1,q2⟩:=hc x v hx;exact ⟨u,q1,k4 _ _ q2⟩)
  rw [k3] at a1 a2
  refine ⟨u,_,ρ.give nid w.heap.size,hr,?_,k2.trans a3 (fun _ _ m=>m),a1,hv _ _ rfl rfl,fun b hb=>?_⟩
  · exact ⟨a2.at_,a2.ok,a2.live,fun b hb=>a2.new b (by rw [k3];exact hb),a2.out⟩
  · rcases hb with h | h
    · exact .inr h
    · exact .inl h
theorem tU(ρ:ag)(w:World) :∀ l:List Value,c7 ρ w (l.map dQ) l
  | []=>.nil
  | v::l=>.cons _ _ _ _ (mB ρ w v) (tU ρ w l)
theorem c7.cells{ρ:ag}{w:World}{l:List AV}{c:Array Value}(h:c7 ρ w l c.toList) :∀ (x:Nat) (v:AV),l[x]? = some v→∃ u,c[x]? = some u∧VR ρ w v u:=by
  intro x v hx
  obtain ⟨u,h1,h2⟩:=h.get x v hx
  rw [Array.getElem?_toList] at h1
  exact ⟨u,h1,h2⟩
def Dt(P:Program)(t:TypeId)(l:List AV) :aE :=
  match P.underlying t with
  | some (.array _ e)=>JI P e l
  | _=>.vs l
theorem w5(P:Program)(t:TypeId)(l:List AV) :Ds (Dt P t l) l:=by
  unfold Dt;split
  · exact yW _ _ _
  · exact sw _
def HN(P:Program)(nid:Nat)(t:TypeId) :Option (AV×aE) :=
  match (P.info? t).bind (·.zero) with
  | some z=>some (.ptr nid 1 0 0,Dt P t (z.cells.toList.map dQ))
  | none=>none
theorem E5(ρ:ag)(w:World)(nid bl:Nat) :VR (ρ.give nid bl) w (.ptr nid 1 0 0) (.pointer (some ⟨bl,0,none⟩)):=by
  have:=VR.ptr (ρ:=ρ.give nid bl) (w:=w) nid 1 0 0 (.inl rfl)
  simpa [ag.give] using this
theorem Du{P:Program}{ρ:ag}{w:World}{h:bI}{n nid:Nat}(hh:HR ρ w h n)(hb : ¬ ρ.ok nid)(hn:nid<n){t:TypeId}{v:AV}{d:aE}(ha:HN P nid t=some (v,d))(heap:Bool) :
    tg P ρ w h n nid (Instr.alloc t true (.tuple #[])) v (dm h nid d):=by
  unfold HN at ha
  split at ha
  case h_2=>cases ha
  rename_i z hz
  simp only [Option.some.injEq,Prod.mk.injEq] at ha;obtain ⟨rfl,rfl⟩:=ha
  simp only [Option.bind_eq_some_iff] at hz
  obtain ⟨i,hi,hz⟩:=hz
  refine sx hh hb hn (w5 P t _) (.inl rfl) (c:=z.cells) (t:=t) (u:=.pointer (some ⟨w.heap.size,0,none⟩)) ?_ (c7.cells (by simpa using tU ρ w z.cells.toList)) ?_
  · simp [Instr.alloc,zeroValue,typeInfo,hi,hz,newVar,newRow]
  · rintro _ _ rfl rfl;exact E5 _ _ _ _
def NT(P:Program)(nid:Nat)(t:TypeId)(x:AV) :Option (AV×aE) :=
  (x.cells).map fun l=>(.ptr nid 1 0 0,Dt P t l)
theorem HO{P:Program}{ρ:ag}{w:World}{h:bI}{n nid:Nat}(hh:HR ρ w h n)(hb : ¬ ρ.ok nid)(hn:nid<n){t:TypeId}{x v:AV}{x':Value}{d:aE}(hx:VR ρ w x x')(ha:NT P nid t x=some (v,d)) :
    tg P ρ w h n nid (Instr.box t x') v (dm h nid d):=by
  simp only [NT,Option.map_eq_some_iff,Prod.mk.injEq] at ha
  obtain ⟨l,hl,rfl,rfl⟩:=ha
  obtain ⟨c1,_⟩:=yV hx hl
  refine sx hh hb hn (w5 P t _) (.inl rfl) (c:=x'.cells) (t:=t) (u:=.pointer (some ⟨w.heap.size,0,none⟩)) ?_ (c7.cells c1) ?_
  · simp [Instr.box,newVar,newRow]
  · rintro _ _ rfl rfl;exact E5 _ _ _ _
def aE.wid:aE→Nat
  | .rows w _ _=>w
  | .cols _ cs=>cs.length
  | _=>1
def Dv(P:Program)(n:Nat)(t:TypeId)(z:AV) :Option dU :=
  match z with
  | .flt _ x=>some (.cf (List.replicate n x))
  | .int k x=>some (.ci k (List.replicate n x))
  | .bool _ x=>some (.cb (List.replicate n x))
  | .str x=>some (.cs (List.replicate n x))
  | .nsl =>
    match P.underlying t with
    | some (.slice e) =>
      match P.underlying e with
      | some (.float .f64)=>some (.cfl (List.replicate n []))
      | some (.int k)=>some (.cns k (List.replicate n []))
      | _=>none
    | _=>none
  | _=>none
def uQ(P:Program)(n:Nat) :List TypeId→List AV→Option (List dU)
  | [],[]=>some []
  | t::ts,z::zs =>
    match Dv P n t z,uQ P n ts zs with
    | some c,some cs=>some (c::cs)
    | _,_=>none
  | _,_=>none
theorem Dw{P:Program}{n:Nat}{t:TypeId}{z:AV}{c:dU}(h:Dv P n t z=some c) :c.len=n∧∀ i v,c.cell? i=some v→aP z v:=by
  have rep:∀ {α:Type} {f:α→AV} {y:α},aP z (f y)→∀ (i:Nat) (v:AV),((List.replicate n y)[i]?).map f=some v→aP z v:=by
    intro α f y hw i v hv
    simp only [Option.map_eq_some_iff] at hv
    obtain ⟨a,h1,rfl⟩:=hv
    rw [List.getElem?_replicate] at h1
    split at h1<;>cases h1
    exact hw
  unfold Dv at h
  split at h
  · cases h;exact ⟨by simp [dU.len],rep (f:=AV.flt false) (l9 (d:=.fl []))⟩
  · cases h;exact ⟨by simp [dU.len],rep (f:=AV.int _) (aP.refl _)⟩
  · cases h;exact ⟨by simp [dU.len],rep (f:=AV.bool false) (l9 (d:=.bs []))⟩
  · cases h;exact ⟨by simp [dU.len],rep (f:=AV.str) (aP.refl _)⟩
  · split at h
    case h_2=>cases h
    split at h
    · cases h;exact ⟨by simp [dU.len],rep (f:=fun l=>.imm .free (.fl l) 1 1 0 l.length) (oR _ trivial rfl rfl)⟩
    · cases h;exact ⟨by simp [dU.len],rep (f:=fun l=>.imm .free (.ns _ l) 1 1 0 l.length) (oR _ trivial rfl rfl)⟩
    · cases h
  · cases h
theorem th{P:Program}{n:Nat} :∀ {ts:List TypeId} {zs:List AV} {cs:List dU},uQ P n ts zs=some cs→cs.length=zs.length∧(∀ c∈cs,c.len=n)∧∀ (j:Nat) c i v,cs[j]? = some c→c.cell? i=some v→∃ z,zs[j]? = some z∧aP z v
  | [],[],cs,h=>by cases h;exact ⟨rfl,(fun c hc=>by cases hc),(fun j c i v hj=>by simp at hj)⟩
  | [],_::_,cs,h=>by cases h
  | _::_,[],cs,h=>by cases h
  | t::ts,z::zs,cs,h=>by
    simp only [uQ] at h
    split at h
    case h_2=>cases h
    rename_i c cs' h1 h2
    cases h
    obtain ⟨a1,a2,a3⟩:=th h2
    obtain ⟨b1,b2⟩:=Dw h1
    refine ⟨by simp [a1],fun x hx=>?_,fun j x i v hj hx=>?_⟩
    · rcases List.mem_cons.1 hx with rfl | q
      · exact b1
      · exact a2 x q
    · cases j with
      | zero=>simp at hj;subst hj;exact ⟨z,rfl,b2 i v hx⟩
      | succ j=>exact a3 j x i v (by simpa using hj) hx
def JJ(P:Program)(e:TypeId) :List TypeId:=(P.cellTypes P.depth e).getD []
def Dx(P:Program)(e:TypeId)(inf:TypeInfo)(z:Value)(n:Nat) :Option aE :=
  match P.underlying e,inf.size,z.cells.toList with
  | some (.float .f64),1,[.float .f64 x]=>some (.fl (List.replicate n x))
  | some (.int k),1,[.int k' x]=>bif dp k k' then some (.ns k (List.replicate n x)) else none
  | some .bool,1,[.bool x]=>some (.bs (List.replicate n x))
  | some .string,1,[.string x]=>some (.ss (List.replicate n x))
  | _,s,zs =>
    match uQ P n (JJ P e) (zs.map dQ) with
    | some cs=>bif Nat.beq s zs.length&&Nat.blt 0 s then some (.cols n cs) else none
    | none=>bif Nat.beq s zs.length&&(Nat.blt 0 s&&e7 (zs.map dQ)) then some (.rows s n fun _ j=>(zs.map dQ).getD j .nptr) else none
def Lq(P:Program)(nid:Nat)(t:TypeId)(l c:AV) :Option (AV×aE×List Bool) :=
  match P.underlying t,l,c with
  | some (.slice e),.int _ l,.int _ c =>
    match P.info? e with
    | some inf =>
      match inf.zero with
      | some z =>
        (Dx P e inf z c.toNat).map fun d =>
          (.sl nid d.wid inf.size 0 l.toNat c.toNat,d,[decide (0≤l),decide (l≤c),decide ((inf.bytes:Int)*c≤140737488355328),eX .i64 c])
      | none=>none
    | none=>none
  | _,_,_=>none
theorem ko{z:Array Value}{n x:Nat}(h:x<n) :(madeCells z n)[x]? = some (z[x%z.size]!):=by
  unfold madeCells;simp [h]
theorem o9:∀ {l:List AV},e7 l=true→∀ (x:Nat) (v:AV),l[x]? = some v→v.one=true
  | [],_,x,v,h=>by simp at h
  | a::l,ha,0,v,h=>by simp at h;subst h;simp only [e7,Bool.and_eq_true] at ha;exact ha.1
  | a::l,ha,x+1,v,h=>by simp only [e7,Bool.and_eq_true] at ha;exact o9 ha.2 x v (by simpa using h)
theorem HP(v:Value) :(dQ v).kept=true:=by
  unfold dQ;split<;>rfl
theorem Dy{P:Program}{e:TypeId}{inf:TypeInfo}{z:Value}{n:Nat}{d:aE}(h:Dx P e inf z n=some d)(ρ:ag)(w:World) :
    d.recKept∧(∀ x v,d.cell? x=some v→∃ u,(madeCells z.cells (n*inf.size))[x]? = some u∧VR ρ w v u)∧(d.wid=inf.size∨inf.size=1):=by
  have one:∀ {α:Type} {f:α→AV} {y:α} {u:Value},z.cells.toList=[u]→inf.size=1→VR ρ w (f y) u→∀ (x:Nat) (v:AV),((List.replicate n y)[x]?).map f=some v→∃ u,(madeCells z.cells (n*inf.size))[x]? = some u∧VR ρ w v u:=by
    intro α f y u hz hs hv x v h
    simp only [Option.map_eq_some_iff] at h
    obtain ⟨a,h1,rfl⟩:=h
    rw [List.getElem?_replicate] at h1
    split at h1
    · rename_i hlt
      cases h1
      have hc:z.cells = #[u]:=by rw [←hz]
      refine ⟨u,?_,hv⟩
      rw [ko (by rw [hs];omega),hc];simp [Nat.mod_one]
    · cases h1
  unfold Dx at h
  split at h
  · rename_i x hu hs hz;cases h;exact ⟨trivial,one hz hs (.flt _ _ _ (.inl rfl)),.inr hs⟩
  · rename_i k k' x hu hs hz
    cases e:dp k k' with
    | false=>rw [e] at h;cases h
    | true =>
      rw [e] at h;cases h
      have:k=k':=of_decide_eq_true e
      subst this
      exact ⟨trivial,one hz hs (.int _ _),.inr hs⟩
  · rename_i x hu hs hz;cases h;exact ⟨trivial,one hz hs (.bool _ _),.inr hs⟩
  · rename_i x hu hs hz;cases h;exact ⟨trivial,one hz hs (.str _),.inr hs⟩
  · split at h
    · rename_i cs hcs
      obtain ⟨z1,z2,z3⟩:=th hcs
      rw [List.length_map] at z1
      cases e:(Nat.beq inf.size z.cells.toList.length&&Nat.blt 0 inf.size) with
      | false=>rw [e] at h;cases h
      | true =>
      rw [e] at h;simp only [cond_true,Option.some.injEq] at h
      subst h
      rw [Bool.and_eq_true] at e
      have e1:=Nat.eq_of_beq_eq_true e.1
      have e2:0<inf.size:=by simpa [Nat.blt_eq] using e.2
      have hw:cs.length=inf.size:=by omega
      refine ⟨z2,fun x v hx=>?_,.inl hw⟩
      obtain ⟨c,h1,h2,h3⟩:=d7 hx
      have hlt:=qw h3
      rw [z2 c h2,hw] at hlt
      have hx2:x<n*inf.size:=(Nat.div_lt_iff_lt_mul e2).1 hlt
      obtain ⟨zv,k1,k2⟩:=z3 _ c _ v h1 h3
      rw [hw] at k1
      have hsz:z.cells.size=inf.size:=by rw [e1];simp
      have hm':x%z.cells.size<z.cells.size:=by rw [hsz];exact Nat.mod_lt _ e2
      refine ⟨_,ko hx2,k2 _ _ _ ?_⟩
      rw [getElem!_pos z.cells (x%z.cells.size) hm']
      rw [List.getElem?_map,←hsz,List.getElem?_eq_getElem (by simpa using hm')] at k1
      simp only [Option.map_some,Option.some.injEq] at k1
      rw [←k1,Array.getElem_toList]
      exact mB _ _ _
    rename_i hnone
    cases e:(Nat.beq inf.size z.cells.toList.length&&(Nat.blt 0 inf.size&&e7 (z.cells.toList.map dQ))) with
    | false=>rw [e] at h;cases h
    | true =>
      rw [e] at h;simp only [cond_true,Option.some.injEq] at h
      subst h
      rw [Bool.and_eq_true] at e
      have e1:=Nat.eq_of_beq_eq_true e.1
      have e':=e.2
      rw [Bool.and_eq_true] at e'
      have e2:0<inf.size:=by have:=e'.1;simpa [Nat.blt_eq] using this
      have e3:=o9 e'.2
      have kc:∀ j,((z.cells.toList.map dQ).getD j AV.nptr).kept=true∧((z.cells.toList.map dQ).getD j AV.nptr).one=true:=by
        intro j
        rw [List.getD_eq_getElem?_getD]
        cases hq:(z.cells.toList.map dQ)[j]? with
        | none=>exact ⟨rfl,rfl⟩
        | some v =>
          refine ⟨?_,e3 j v hq⟩
          rw [List.getElem?_map] at hq
          cases hr:z.cells.toList[j]? with
          | none=>rw [hr] at hq;cases hq
          | some u=>rw [hr] at hq;cases hq;exact HP u
      refine ⟨fun _ j=>kc j,fun x v hx=>?_,.inl rfl⟩
      simp only [aE.cell?] at hx
      split at hx
      · rename_i hlt
        cases hx
        have hx2:x<n*inf.size:=by
          have:=(Nat.div_lt_iff_lt_mul e2).1 hlt;exact this
        have hm:x%inf.size<z.cells.toList.length:=by rw [←e1];exact Nat.mod_lt _ e2
        refine ⟨_,ko hx2,?_⟩
        have hsz:z.cells.size=inf.size:=by rw [e1];simp
        have hm':x%z.cells.size<z.cells.size:=by rw [hsz];exact Nat.mod_lt _ e2
        rw [getElem!_pos z.cells (x%z.cells.size) hm',List.getD_eq_getElem?_getD,List.getElem?_map,List.getElem?_eq_getElem hm]
        simp only [hsz,Array.getElem_toList,Option.map_some,Option.getD_some]
        exact mB _ _ _
      · cases hx
theorem E6{P:Program}{ρ:ag}{w:World}{h:bI}{n nid:Nat}(hh:HR ρ w h n)(hb : ¬ ρ.ok nid)(hn:nid<n){t:TypeId}{l c v:AV}{l' c':Value}{d:aE}{obs:List Bool} 
    (hl:VR ρ w l l') (hc:VR ρ w c c') (ha:Lq P nid t l c=some (v,d,obs)) (ho:az obs):tg P ρ w h n nid (Instr.makeSlice t l' c') v (dm h nid d):=by
  unfold Lq at ha
  split at ha
  case h_2=>cases ha
  rename_i e k1 l k2 c ht
  cases hl;cases hc
  split at ha
  case h_2=>cases ha
  rename_i inf hi
  split at ha
  case h_2=>cases ha
  rename_i z hz
  simp only [Option.map_eq_some_iff,Prod.mk.injEq] at ha
  obtain ⟨d',hd,rfl,rfl,rfl⟩:=ha
  have o1:0≤l:=of_decide_eq_true ho.1
  have o2:l≤c:=of_decide_eq_true ho.2.1
  have o3:(inf.bytes:Int)*c≤140737488355328:=of_decide_eq_true ho.2.2.1
  have o4:c≤9223372036854775807:=by
    have:=ho.2.2.2.1
    simp only [eX,Bool.and_eq_true,decide_eq_true_eq] at this
    have e:IntKind.max .i64=9223372036854775807:=by decide
    rw [e] at this;exact this.2
  obtain ⟨s1,s2,s3⟩:=Dy hd ρ w
  have hrun:=run_make (P:=P) w t e inf z ht hi hz k1 k2 l c o1 o2 (by omega) o4
  obtain ⟨a1,a2,a3⟩:=hh.alloc hb hn d' (madeCells z.cells (c.toNat*inf.size)) e s1 s2
  refine ⟨_,_,_,hrun,a2,a3,a1,?_,fun b hb=>hb.elim .inr .inl⟩
  have:VR (ρ.give nid w.heap.size) (w.alloc (.cells (madeCells z.cells (c.toNat*inf.size)) e)) (.sl nid d'.wid inf.size 0 l.toNat c.toNat) (.slice (some ⟨(ρ.give nid w.heap.size).at_ nid,0*d'.wid,none⟩) l.toNat c.toNat) :=
    .sl _ _ _ _ _ _ _ (.inl rfl) (Nat.le_refl _) (by omega) (madeCells z.cells (c.toNat*inf.size)) e (by simp only [ag.give,if_true];exact gi w _) (by simp [size_madeCells])
  simpa [ag.give] using this
def tV(off:Nat) :List AV→Nat→List AV→List AV
  | [],_,cs=>cs
  | v::l,k,cs=>tV off l (k+1) (cs.set (off+k) v)
def yX(place:Nat→Option (Nat×Nat))(cells:List AV) :List (Nat×AV)→Option (List AV)
  | []=>some cells
  | (i,v)::rest =>
    match place i,v.cells with
    | some (off,size),some l=>bif Nat.beq l.length size&&Nat.ble (off+l.length) cells.length then yX place (tV off l 0 cells) rest else none
    | _,_=>none
theorem Cr{ρ:ag}{w:World}{off:Nat} :∀ {l:List AV} {us:List Value} {k:Nat} {cs:List AV} {c:Array Value},c7 ρ w l us→c7 ρ w cs c.toList →
    c7 ρ w (tV off l k cs) ((us.zipIdx k).foldl (fun cs (x:Value×Nat)=>cs.setIfInBounds (off+x.2) x.1) c).toList
  | _,_,k,cs,c,.nil,h=>by simpa [tV] using h
  | _,_,k,cs,c,.cons v u l us hv ht,h=>by
    simp only [tV,List.zipIdx_cons,List.foldl_cons]
    refine Cr ht ?_
    rw [Array.toList_setIfInBounds]
    exact h.set hv _
theorem ti(off:Nat) :∀ (l:List AV) (k:Nat) (cs:List AV),(tV off l k cs).length=cs.length
  | [],_,_=>rfl
  | v::l,k,cs=>by simp [tV,ti off l]
theorem uR{ρ:ag}{w:World}{place:Nat→Option (Nat×Nat)} :∀ {parts:List (Nat×AV)} {ps:List (Nat×Value)} {cs l:List AV} {c:Array Value},
    (parts.map Prod.fst=ps.map Prod.fst)→c7 ρ w (parts.map Prod.snd) (ps.map Prod.snd)→c7 ρ w cs c.toList→yX place cs parts=some l →
    ∃ c',Instr.fill place c ps=some c'∧c7 ρ w l c'.toList∧l.length=cs.length
  | [],[],cs,l,c,_,_,hc,h=>by simp only [yX,Option.some.injEq] at h;subst h;exact ⟨c,rfl,hc,rfl⟩
  | (i, v) :: parts, (i', u) :: ps, cs, l, c, h1, h2, hc, h => by
    simp only [List.map_cons,List.cons.injEq] at h1
    obtain ⟨rfl,h1⟩:=h1
    simp only [List.map_cons] at h2
    cases h2 with | cons _ _ _ _ hv ht =>
    simp only [yX] at h
    split at h
    case h_2=>cases h
    rename_i off size l' hp hl
    obtain ⟨k1,_⟩:=yV hv hl
    have kl:=k1.length
    have cl:=hc.length
    cases e:(Nat.beq l'.length size&&Nat.ble (off+l'.length) cs.length) with
    | false=>rw [e] at h;cases h
    | true =>
      rw [e] at h;simp only [cond_true] at h
      rw [Bool.and_eq_true] at e
      have e1:=Nat.eq_of_beq_eq_true e.1
      have e2:off+l'.length≤cs.length:=by simpa [Nat.ble_eq] using e.2
      have r:=Cr (off:=off) (k:=0) k1 hc
      obtain ⟨c',q1,q2,q3⟩:=uR h1 ht (c:=(u.cells.toList.zipIdx 0).foldl (fun cs (x:Value×Nat)=>cs.setIfInBounds (off+x.2) x.1) c) r h
      refine ⟨c',?_,q2,by rw [q3,ti]⟩
      simp only [Instr.fill,hp]
      have g1:u.cells.size=size:=by rw [←e1,kl];simp
      have g2 : ¬ (off+u.cells.size>c.size):=by
        have:u.cells.size=l'.length:=by rw [kl];simp
        have:c.size=cs.length:=by rw [cl];simp
        omega
      have e0:∀ c:Array Value,u.cells.zipIdx.foldl (fun cs (x:Value×Nat)=>cs.setIfInBounds (off+x.2) x.1) c=(u.cells.toList.zipIdx 0).foldl (fun cs (x:Value×Nat)=>cs.setIfInBounds (off+x.2) x.1) c:=by
        intro c
        rw [←Array.foldl_toList];simp
      rw [if_neg (by simp only [g1,ne_eq,not_true_eq_false,decide_false,Bool.false_or,decide_eq_true_eq];rw [←g1];exact g2)]
      have e3:=e0 c
      rw [e3]
      exact q1
  | [],_::_,_,_,_,h1,_,_,_=>by cases h1
  | _::_,[],_,_,_,h1,_,_,_=>by cases h1
def HQ(P:Program)(t:TypeId)(parts:List (Nat×AV)) :Option AV :=
  match (P.info? t).bind (·.zero) with
  | none=>none
  | some z =>
    let zs:=z.cells.toList.map dQ
    match P.underlying t with
    | some (.struct fs) =>
      bif fs.toList.all (fun f=>(P.info? f.type).isSome) then (yX (fun i=>(fs[i]?).map fun f=>(f.offset,P.cellsOf f.type)) zs parts).map .agg else none
    | some (.array _ e)=>match P.info? e with
      | some inf=>(yX (fun i=>some (i*inf.size,inf.size)) zs parts).map .agg
      | none=>none
    | _=>none
theorem qh{P:Program}{w:World} :∀ (l:List Field),(l.all fun f=>(P.info? f.type).isSome)=true →
    (l.mapM (m:=Sem) fun f=>do pure (f.offset,←sizeOf f.type)).run P w=.ok (l.map fun f=>(f.offset,P.cellsOf f.type)) w
  | [],_=>by simp
  | f::l,h=>by
    simp only [List.all_cons,Bool.and_eq_true] at h
    obtain ⟨i,hi⟩:=Option.isSome_iff_exists.1 h.1
    have ih:=qh (P:=P) (w:=w) l h.2
    simp only [List.mapM_cons,Sem.run_bind,run_sizeOf w hi,Result.andThen_ok,Sem.run_pure,ih,List.map_cons]
theorem Dz{P:Program}{ρ:ag}{w:World}{t:TypeId}{parts:List (Nat×AV)}{ps:Array (Nat×Value)}{v:AV}(h1:parts.map Prod.fst=ps.toList.map Prod.fst) 
    (h2:c7 ρ w (parts.map Prod.snd) (ps.toList.map Prod.snd)) (h:HQ P t parts=some v):fC P ρ w (Instr.build t ps) v:=by
  unfold HQ at h
  split at h
  case h_1=>cases h
  rename_i z hz
  simp only [Option.bind_eq_some_iff] at hz
  obtain ⟨i,hi,hz⟩:=hz
  have hzv:(zeroValue t).run P w=.ok z w:=by simp [zeroValue,typeInfo,hi,hz]
  have hzs:c7 ρ w (z.cells.toList.map dQ) z.cells.toList:=tU ρ w _
  simp only at h
  split at h
  · rename_i fs hu
    cases e:(fs.toList.all fun f=>(P.info? f.type).isSome) with
    | false=>rw [e] at h;cases h
    | true =>
      rw [e] at h
      simp only [cond_true,Option.map_eq_some_iff] at h
      obtain ⟨l,hf,rfl⟩:=h
      obtain ⟨c',q1,q2,_⟩:=uR h1 h2 hzs hf
      refine .plain (u:=.agg c') ?_ (.agg _ _ q2)
      have hm:(fs.mapM (m:=Sem) fun f=>do pure (f.offset,←sizeOf f.type)).run P w=.ok (fs.map fun f=>(f.offset,P.cellsOf f.type)) w:=by
        have:=qh (P:=P) (w:=w) fs.toList e
        rw [Array.mapM_eq_mapM_toList]
        rw [map_eq_pure_bind,Sem.run_bind,this,Result.andThen_ok,Sem.run_pure]
        congr 1
        simp [←List.map_toArray]
      have hp:(fun i:Nat=>(fs.map fun (f:Field)=>(f.offset,P.cellsOf f.type))[i]?)=fun i:Nat=>(fs[i]?).map fun f=>(f.offset,P.cellsOf f.type):=by
        funext i;simp
      simp only [Instr.build,Sem.run_bind,hzv,Result.andThen_ok,run_underlying hu,hm,hp,q1]
      simp
  · rename_i n e hu
    split at h
    case h_2=>cases h
    rename_i inf he
    simp only [Option.map_eq_some_iff] at h
    obtain ⟨l,hf,rfl⟩:=h
    obtain ⟨c',q1,q2,_⟩:=uR h1 h2 hzs hf
    refine .plain (u:=.agg c') ?_ (.agg _ _ q2)
    have hs:P.cellsOf e=inf.size:=by simp [Program.cellsOf,he]
    simp only [Instr.build,Sem.run_bind,hzv,Result.andThen_ok,run_underlying hu,run_sizeOf w he,hs,q1]
    simp
  · cases h
def qy(P : Program)(nid : Nat)(t : TypeId)(len : Nat)(parts : List (Nat × AV)) : Option (AV × aE) :=
  match P.underlying t with
  | some (.slice e) =>
    match P.info? e with
    | some inf =>
      match inf.zero with
      | some z =>
        let zs:=z.cells.toList.map dQ
        bif Nat.beq zs.length inf.size&&Nat.ble (len*inf.size) 16777216 then
          (yX (fun i=>some (i*inf.size,inf.size)) ((List.range (len*inf.size)).map fun x=>zs.getD (x%zs.length) .any) parts).map fun l =>
            (.sl nid 1 inf.size 0 len len,JI P e l)
        else none
      | none=>none
    | none=>none
  | _=>none
theorem uS{P:Program}{ρ:ag}{w:World}{h:bI}{n nid:Nat}(hh:HR ρ w h n)(hb : ¬ ρ.ok nid)(hn:nid<n){t:TypeId}{len:Nat}{parts:List (Nat×AV)}{ps:Array (Nat×Value)}{v:AV}{d:aE} 
    (h1:parts.map Prod.fst=ps.toList.map Prod.fst) (h2:c7 ρ w (parts.map Prod.snd) (ps.toList.map Prod.snd)) (ha:qy P nid t len parts=some (v,d)) :
    tg P ρ w h n nid (Instr.buildSlice t len ps) v (dm h nid d):=by
  unfold qy at ha
  split at ha
  case h_2=>cases ha
  rename_i e ht
  split at ha
  case h_2=>cases ha
  rename_i inf hi
  split at ha
  case h_2=>cases ha
  rename_i z hz
  simp only at ha
  cases hc:(Nat.beq (z.cells.toList.map dQ).length inf.size&&Nat.ble (len*inf.size) 16777216) with
  | false=>rw [hc] at ha;cases ha
  | true =>
    rw [hc] at ha
    simp only [cond_true,Option.map_eq_some_iff,Prod.mk.injEq] at ha
    obtain ⟨l,hf,rfl,rfl⟩:=ha
    rw [Bool.and_eq_true] at hc
    have c1:z.cells.size=inf.size:=by have:=Nat.eq_of_beq_eq_true hc.1;simpa using this
    have c2:len*inf.size≤16777216:=by simpa [Nat.ble_eq] using hc.2
    have hbase:c7 ρ w ((List.range (len*inf.size)).map fun x=>(z.cells.toList.map dQ).getD (x%(z.cells.toList.map dQ).length) .any) (madeCells z.cells (len*inf.size)).toList:=by
      refine mD (by simp [size_madeCells]) fun x v u q1 q2=>?_
      rw [List.getElem?_map] at q1
      have hx:x<len*inf.size:=by
        rcases Nat.lt_or_ge x (len*inf.size) with q | q
        · exact q
        · rw [List.getElem?_eq_none (by simpa using q)] at q1;cases q1
      rw [List.getElem?_range hx] at q1
      rw [Array.getElem?_toList,ko hx] at q2
      simp only [Option.map_some,Option.some.injEq] at q1 q2
      subst q1;subst q2
      have hpos : 0 < z.cells.size := by rw [c1]; rcases Nat.eq_zero_or_pos inf.size with q | q; · rw [q] at hx; omega
                                         · exact q
      have hm:x%z.cells.size<z.cells.size:=Nat.mod_lt _ hpos
      rw [getElem!_pos z.cells (x%z.cells.size) hm,List.getD_eq_getElem?_getD,List.getElem?_map]
      simp only [List.length_map,Array.length_toList,Array.getElem?_toList,Array.getElem?_eq_getElem hm,Option.map_some,Option.getD_some]
      exact mB _ _ _
    obtain ⟨c',q1,q2,q3⟩:=uR h1 h2 hbase hf
    have hlen:c'.size=len*inf.size:=by
      have:=q2.length;rw [q3] at this;simpa using this.symm
    have hs:P.cellsOf e=inf.size:=by simp [Program.cellsOf,hi]
    refine sx hh hb hn (yW P e l) (.inl rfl) (c:=c') (t:=e) (u:=.slice (some ⟨w.heap.size,0,none⟩) len len) ?_ (c7.cells q2) ?_
    · have hzv:(zeroValue e).run P w=.ok z w:=by simp [zeroValue,typeInfo,hi,hz]
      have nb : ¬ (16777216<len*inf.size):=by omega
      have hm:madeCells z.cells (len*inf.size)=(Array.range (len*inf.size)).map (fun x=>z.cells[x%z.cells.size]!):=rfl
      by_cases h0:len*inf.size=0
      · have hm0:madeCells z.cells 0 = #[]:=by simp [madeCells,Array.range_zero']
        rw [h0,hm0] at q1
        simp [Instr.buildSlice,run_underlying ht,run_sizeOf w hi,hs,nb,h0,Array.range_zero',q1,newRow]
      · simp only [Instr.buildSlice,Sem.run_bind,run_underlying ht,Result.andThen_ok,run_sizeOf w hi,hs]
        rw [if_neg (by simpa using nb)]
        simp only [Sem.run_bind,Sem.run_pure,Result.andThen_ok,if_neg h0,hzv,←hm,q1]
        simp [newRow]
    · rintro _ _ rfl rfl
      have:VR (ρ.give nid w.heap.size) (w.alloc (.cells c' e)) (.sl nid 1 inf.size 0 len len) (.slice (some ⟨(ρ.give nid w.heap.size).at_ nid,0*1,none⟩) len len) :=
        .sl _ _ _ _ _ _ _ (.inl rfl) (Nat.le_refl _) (Nat.le_refl _) c' e (by simp only [ag.give,if_true];exact gi w _) (by omega)
      simpa [ag.give] using this
def aE.count:aE→Nat
  | .fl xs=>xs.length
  | .ns _ xs=>xs.length
  | .bs xs=>xs.length
  | .ss xs=>xs.length
  | .vs xs=>xs.length
  | .rows w n _=>n*w
  | .cols n cs=>n*cs.length
def je{α:Type}(i:Nat)(l:List α) :List α :=
  match i with
  | 0=>l
  | i=>l.drop i
theorem uT{α:Type}(i:Nat)(l:List α) :je i l=l.drop i:=by
  unfold je;split<;>simp
def qi(a b:Nat) :Bool:=decide (a≤b)
def dU.part(i len:Nat) :dU→dU
  | .cf xs=>.cf ((je i xs).take len)
  | .ci k xs=>.ci k ((je i xs).take len)
  | .cb xs=>.cb ((je i xs).take len)
  | .cs xs=>.cs ((je i xs).take len)
  | .cfl xs=>.cfl ((je i xs).take len)
  | .cns k xs=>.cns k ((je i xs).take len)
def kU(i len:Nat) :List dU→List dU
  | []=>[]
  | c::cs=>c.part i len::kU i len cs
def aE.sub(d:aE)(w es i len:Nat) :Option (aE×List Bool) :=
  match d with
  | .fl xs=>bif Nat.beq w 1&&Nat.beq es 1 then some (.fl ((je i xs).take len),[qi (er i len) xs.length]) else none
  | .ns k xs=>bif Nat.beq w 1&&Nat.beq es 1 then some (.ns k ((je i xs).take len),[qi (er i len) xs.length]) else none
  | .bs xs=>bif Nat.beq w 1&&Nat.beq es 1 then some (.bs ((je i xs).take len),[qi (er i len) xs.length]) else none
  | .ss xs=>bif Nat.beq w 1&&Nat.beq es 1 then some (.ss ((je i xs).take len),[qi (er i len) xs.length]) else none
  | .vs xs=>bif Nat.beq w 1&&e7 xs then some (.vs ((je i xs).take (len*es)),[qi (er i (len*es)) xs.length]) else none
  | .rows w' n get=>bif Nat.beq w w'&&(Nat.beq w es&&Nat.blt 0 w) then some (.rows w len (fun a j=>get (er i a) j),[qi (er i len) n]) else none
  | .cols n cs=>bif Nat.beq w cs.length&&(Nat.beq w es&&Nat.blt 0 w) then some (.cols len (kU i len cs),[qi (er i len) n]) else none
theorem pa(i len:Nat) :∀ (cs:List dU) (j:Nat),(kU i len cs)[j]? = (cs[j]?).map (dU.part i len)
  | [],j=>by simp [kU]
  | c::cs,0=>by simp [kU]
  | c::cs,j+1=>by simp [kU,pa i len cs j]
theorem lc(i len:Nat) :∀ (cs:List dU),(kU i len cs).length=cs.length
  | []=>rfl
  | c::cs=>by simp [kU,lc i len cs]
theorem yY{α:Type}{f:α→AV}{xs:List α}{i m x:Nat}{v:AV}(h:(((je i xs).take m)[x]?).map f=some v) :x<m∧(xs[i+x]?).map f=some v:=by
  rw [uT] at h
  simp only [Option.map_eq_some_iff] at h
  obtain ⟨a,h1,h2⟩:=h
  rw [List.getElem?_take] at h1
  split at h1
  · rename_i hx
    rw [List.getElem?_drop] at h1
    exact ⟨hx,by rw [h1];simp [h2]⟩
  · cases h1
theorem DA{i len:Nat}{c:dU}(h:i+len≤c.len) :(c.part i len).len=len:=by
  cases c<;>simp only [dU.part,dU.len,uT,List.length_take,List.length_drop] at h ⊢ <;> omega
theorem Bp{i len x:Nat}{c:dU}{v:AV}(h:(c.part i len).cell? x=some v) :x<len∧c.cell? (i+x)=some v:=by
  cases c<;>simp only [dU.part,dU.cell?] at h ⊢ <;> exact yY h
structure JK (d':aE) (n:Nat) (cell:Nat→Option AV):Prop where
  rk:d'.recKept
  cells:∀ x v,d'.cell? x=some v→x<n∧cell x=some v
  all:∀ x,x<n→∃ v,cell x=some v∧v.one=true
  count:d'.count=n
theorem oT{d d':aE}{w es i len:Nat}{obs:List Bool}(hrk:d.recKept)(h:d.sub w es i len=some (d',obs))(ho:az obs) :JK d' (len*es) (fun x=>d.cell? (i*w+x)):=by
  have le:∀ {a b:Nat},qi (er i a) b=true→i+a≤b:=fun h=>by have:=of_decide_eq_true h;simpa using this
  have two:∀ {a b:Nat},(Nat.beq w a&&Nat.beq es b)=true→w=a∧es=b:=fun h=>by rw [Bool.and_eq_true] at h;exact ⟨Nat.eq_of_beq_eq_true h.1,Nat.eq_of_beq_eq_true h.2⟩
  have typed:∀ {α:Type} {f:α→AV} {xs:List α} {c:Nat→Option AV} {bl:aE},w=1→es=1→(∀ x,bl.cell? x=(((je i xs).take len)[x]?).map f)→bl.recKept→bl.count=((je i xs).take len).length →
      (∀ x,c x=(xs[x]?).map f)→(∀ a,(f a).one=true)→i+len≤xs.length→JK bl (len*es) (fun x=>c (i*w+x)):=by
    intro α f xs c bl hw he hb hr hcnt hc h1 hle
    subst hw;subst he
    refine ⟨hr,fun x v hv=>?_,fun x hx=>?_,?_⟩
    · rw [hb] at hv
      obtain ⟨q1,q2⟩:=yY hv
      exact ⟨by omega,by rw [Nat.mul_one,hc];exact q2⟩
    · refine ⟨f (xs[i+x]'(by omega)),?_,h1 _⟩
      rw [Nat.mul_one,hc,List.getElem?_eq_getElem (by omega)];rfl
    · rw [hcnt,uT,List.length_take,List.length_drop];omega
  cases d with
  | fl xs =>
    simp only [aE.sub] at h
    cases e:(Nat.beq w 1&&Nat.beq es 1) with
    | false=>rw [e] at h;cases h
    | true=>rw [e] at h;simp only [cond_true,Option.some.injEq,Prod.mk.injEq] at h;obtain ⟨rfl,rfl⟩:=h;exact typed (f:=AV.flt false) (two e).1 (two e).2 (fun _=>rfl) trivial rfl (fun _=>rfl) (fun _=>rfl) (le ho.1)
  | ns k xs =>
    simp only [aE.sub] at h
    cases e:(Nat.beq w 1&&Nat.beq es 1) with
    | false=>rw [e] at h;cases h
    | true=>rw [e] at h;simp only [cond_true,Option.some.injEq,Prod.mk.injEq] at h;obtain ⟨rfl,rfl⟩:=h;exact typed (f:=AV.int k) (two e).1 (two e).2 (fun _=>rfl) trivial rfl (fun _=>rfl) (fun _=>rfl) (le ho.1)
  | bs xs =>
    simp only [aE.sub] at h
    cases e:(Nat.beq w 1&&Nat.beq es 1) with
    | false=>rw [e] at h;cases h
    | true=>rw [e] at h;simp only [cond_true,Option.some.injEq,Prod.mk.injEq] at h;obtain ⟨rfl,rfl⟩:=h;exact typed (f:=AV.bool false) (two e).1 (two e).2 (fun _=>rfl) trivial rfl (fun _=>rfl) (fun _=>rfl) (le ho.1)
  | ss xs =>
    simp only [aE.sub] at h
    cases e:(Nat.beq w 1&&Nat.beq es 1) with
    | false=>rw [e] at h;cases h
    | true=>rw [e] at h;simp only [cond_true,Option.some.injEq,Prod.mk.injEq] at h;obtain ⟨rfl,rfl⟩:=h;exact typed (f:=AV.str) (two e).1 (two e).2 (fun _=>rfl) trivial rfl (fun _=>rfl) (fun _=>rfl) (le ho.1)
  | vs xs =>
    simp only [aE.sub] at h
    cases e:(Nat.beq w 1&&e7 xs) with
    | false=>rw [e] at h;cases h
    | true =>
      rw [e] at h;simp only [cond_true,Option.some.injEq,Prod.mk.injEq] at h;obtain ⟨rfl,rfl⟩:=h
      rw [Bool.and_eq_true] at e
      have e1:=Nat.eq_of_beq_eq_true e.1
      subst e1
      have hle:=le ho.1
      refine ⟨trivial,fun x v hv=>?_,fun x hx=>?_,?_⟩
      · have:(((je i xs).take (len*es))[x]?).map id=some v:=by simpa [aE.cell?] using hv
        obtain ⟨q1,q2⟩:=yY this
        exact ⟨q1,by rw [Nat.mul_one];simpa [aE.cell?] using q2⟩
      · refine ⟨xs[i+x]'(by omega),?_,o9 e.2 (i+x) _ (List.getElem?_eq_getElem (by omega))⟩
        rw [Nat.mul_one];simp only [aE.cell?];exact List.getElem?_eq_getElem (by omega)
      · simp only [aE.count,uT,List.length_take,List.length_drop];omega
  | rows w' n get =>
    simp only [aE.sub] at h
    cases e:(Nat.beq w w'&&(Nat.beq w es&&Nat.blt 0 w)) with
    | false=>rw [e] at h;cases h
    | true =>
      rw [e] at h;simp only [cond_true,Option.some.injEq,Prod.mk.injEq] at h;obtain ⟨rfl,rfl⟩:=h
      simp only [Bool.and_eq_true] at e
      obtain ⟨e1,e2,e3⟩:=e
      have e1:=Nat.eq_of_beq_eq_true e1;have e2:=Nat.eq_of_beq_eq_true e2
      subst e1;subst e2
      have hw:0<w:=by simpa [Nat.blt_eq] using e3
      have hle:=le ho.1
      have key:∀ x,(i*w+x)/w=i+x/w∧(i*w+x)%w=x%w:=by
        intro x
        exact ⟨by rw [Nat.add_comm,Nat.add_mul_div_right _ _ hw,Nat.add_comm],by rw [Nat.add_comm,Nat.add_mul_mod_self_right]⟩
      refine ⟨fun a j=>hrk _ _,fun x v hv=>?_,fun x hx=>?_,rfl⟩
      · simp only [aE.cell?,fj] at hv ⊢
        split at hv
        · rename_i hlt
          refine ⟨(Nat.div_lt_iff_lt_mul hw).1 hlt,?_⟩
          rw [(key x).1,(key x).2,if_pos (by omega)];exact hv
        · cases hv
      · have hlt:=(Nat.div_lt_iff_lt_mul hw).2 hx
        refine ⟨get (i+x/w) (x%w),?_,(hrk _ _).2⟩
        simp only [aE.cell?]
        rw [(key x).1,(key x).2,if_pos (by omega)]
  | cols n cs =>
    simp only [aE.sub] at h
    cases e:(Nat.beq w cs.length&&(Nat.beq w es&&Nat.blt 0 w)) with
    | false=>rw [e] at h;cases h
    | true =>
      rw [e] at h;simp only [cond_true,Option.some.injEq,Prod.mk.injEq] at h;obtain ⟨rfl,rfl⟩:=h
      simp only [Bool.and_eq_true] at e
      obtain ⟨e1,e2,e3⟩:=e
      have e1:=Nat.eq_of_beq_eq_true e1;have e2:=Nat.eq_of_beq_eq_true e2
      subst e1;subst e2
      have hw:0<cs.length:=by simpa [Nat.blt_eq] using e3
      have hle:=le ho.1
      have key:∀ x,(i*cs.length+x)/cs.length=i+x/cs.length∧(i*cs.length+x)%cs.length=x%cs.length:=by
        intro x
        exact ⟨by rw [Nat.add_comm,Nat.add_mul_div_right _ _ hw,Nat.add_comm],by rw [Nat.add_comm,Nat.add_mul_mod_self_right]⟩
      refine ⟨fun c hc=>?_,fun x v hv=>?_,fun x hx=>?_,by simp [aE.count,lc]⟩
      · obtain ⟨j,hj⟩:=List.getElem?_of_mem hc
        rw [pa,Option.map_eq_some_iff] at hj
        obtain ⟨c',h1,rfl⟩:=hj
        exact DA (by rw [hrk c' (List.mem_of_getElem? h1)];exact hle)
      · obtain ⟨c,h1,_,h3⟩:=d7 hv
        rw [lc] at h1 h3
        rw [pa,Option.map_eq_some_iff] at h1
        obtain ⟨c',h1,rfl⟩:=h1
        obtain ⟨q1,q2⟩:=Bp h3
        refine ⟨(Nat.div_lt_iff_lt_mul hw).1 q1,?_⟩
        simp only [aE.cell?,(key x).1,(key x).2,h1,Option.bind_some];exact q2
      · have hlt:=(Nat.div_lt_iff_lt_mul hw).2 hx
        have hm:x%cs.length<cs.length:=Nat.mod_lt _ hw
        obtain ⟨v,hv⟩:=ER (c:=cs[x%cs.length]) (i:=i+x/cs.length) (by rw [hrk _ (List.getElem_mem hm)];omega)
        refine ⟨v,?_,(n6 hv).2.2⟩
        simp only [aE.cell?,(key x).1,(key x).2,List.getElem?_eq_getElem hm,Option.bind_some];exact hv
def dU.app:dU→dU→Option dU
  | .cf a,.cf b=>some (.cf (a++b))
  | .ci k a,.ci k' b=>bif dp k k' then some (.ci k (a++b)) else none
  | .cb a,.cb b=>some (.cb (a++b))
  | .cs a,.cs b=>some (.cs (a++b))
  | .cfl a,.cfl b=>some (.cfl (a++b))
  | .cns k a,.cns k' b=>bif dp k k' then some (.cns k (a++b)) else none
  | _,_=>none
def yB:List dU→List dU→Option (List dU)
  | [],[]=>some []
  | a::l,b::m =>
    match a.app b,yB l m with
    | some c,some cs=>some (c::cs)
    | _,_=>none
  | _,_=>none
def HS(old new:aE) :Option aE :=
  match old,new with
  | .fl a,.fl b=>some (.fl (a++b))
  | .ns k a,.ns k' b=>bif dp k k' then some (.ns k (a++b)) else none
  | .bs a,.bs b=>some (.bs (a++b))
  | .ss a,.ss b=>some (.ss (a++b))
  | .vs a,.vs b=>some (.vs (a++b))
  | .rows w n g,.rows w' n' g'=>bif Nat.beq w w'&&Nat.blt 0 w then some (.rows w (n+n') fun i j=>bif Nat.blt i n then g i j else g' (i-n) j) else none
  | .rows w n g,.vs l=>bif cQ l&&(e7 l&&(Nat.blt 0 w&&Nat.beq (l.length/w*w) l.length)) then some (.rows w (n+l.length/w) fun i j=>bif Nat.blt i n then g i j else l.getD ((i-n)*w+j) .nptr) else none
  | .cols n cs,.cols n' cs'=>bif Nat.blt 0 cs.length then (yB cs cs').map (.cols (n+n')) else none
  | _,_=>none
def E7:List AV→Option (List (List Nat)×List Bool)
  | []=>some ([],[])
  | .nsl::l=>(E7 l).map fun r=>([]::r.1,r.2)
  | .imm lv (.fl ys) 1 1 o n::l=>bif lv.isFree then (E7 l).map fun r=>(((ys.drop o).take n)::r.1,decide (o+n≤ys.length)::r.2) else none
  | _::_=>none
def E8(k:IntKind) :List AV→Option (List (List Int)×List Bool)
  | []=>some ([],[])
  | .nsl::l=>(E8 k l).map fun r=>([]::r.1,r.2)
  | .imm lv (.ns k' ys) 1 1 o n::l=>bif dp k k'&&lv.isFree then (E8 k l).map fun r=>(((ys.drop o).take n)::r.1,decide (o+n≤ys.length)::r.2) else none
  | _::_=>none
def Lr(P:Program)(t:TypeId)(l:List AV) :Option (dU×List Bool) :=
  match P.underlying t with
  | some (.float .f64)=>(HI l).map fun xs=>(.cf xs,[])
  | some (.int k)=>(HJ k l).map fun xs=>(.ci k xs,[])
  | some .bool=>(HK l).map fun xs=>(.cb xs,[])
  | some .string=>(HL l).map fun xs=>(.cs xs,[])
  | some (.slice e) =>
    match P.underlying e with
    | some (.float .f64)=>(E7 l).map fun r=>(.cfl r.1,r.2)
    | some (.int k)=>(E8 k l).map fun r=>(.cns k r.1,r.2)
    | _=>none
  | _=>none
def tW(l:List AV)(es j:Nat) :Nat→Nat→List AV
  | 0,_=>[]
  | m+1,i=>l.getD (i*es+j) .nptr::tW l es j m (i+1)
def DB(P:Program)(l:List AV)(es m:Nat) :List TypeId→Nat→Option (List dU×List Bool)
  | [],_=>some ([],[])
  | t::ts,j =>
    match Lr P t (tW l es j m 0),DB P l es m ts (j+1) with
    | some (c,o),some (cs,o')=>some (c::cs,o++o')
    | _,_=>none
def aE.norm(P:Program)(e:TypeId)(d:aE)(es:Nat) :aE×List Bool :=
  match d with
  | .vs l =>
    match DB P l es (l.length/es) (JJ P e) 0 with
    | some (cs,o)=>bif Nat.beq cs.length es&&(Nat.blt 0 es&&Nat.beq (l.length/es*es) l.length) then (.cols (l.length/es) cs,o) else (.vs l,[])
    | none=>(.vs l,[])
  | d=>(d,[])
theorem qz:∀ {l:List AV},cQ l=true→∀ (x:Nat) (v:AV),l[x]? = some v→v.kept=true
  | [],_,x,v,h=>by simp at h
  | a::l,ha,0,v,h=>by simp at h;subst h;simp only [cQ,Bool.and_eq_true] at ha;exact ha.1
  | a::l,ha,x+1,v,h=>by simp only [cQ,Bool.and_eq_true] at ha;exact qz ha.2 x v (by simpa using h)
theorem Kw{l:List AV}(h1:cQ l=true)(h2:e7 l=true)(x:Nat) :(l.getD x .nptr).kept=true∧(l.getD x .nptr).one=true:=by
  rw [List.getD_eq_getElem?_getD]
  cases h:l[x]? with
  | none=>exact ⟨rfl,rfl⟩
  | some v=>exact ⟨qz h1 x v h,o9 h2 x v h⟩
theorem E9:∀ {l:List AV} {xs:List Nat},HI l=some xs→xs.length=l.length∧∀ (i:Nat) v,(xs[i]?).map (AV.flt false)=some v→∃ v0,l[i]? = some v0∧aP v0 v
  | [],xs,h=>by cases h;exact ⟨rfl,fun i v hv=>by simp at hv⟩
  | .flt ex x::l,xs,h=>by
    simp only [HI,Option.map_eq_some_iff] at h
    obtain ⟨ys,h1,rfl⟩:=h
    obtain ⟨a1,a2⟩:=E9 h1
    refine ⟨by simp [a1],fun i v hv=>?_⟩
    cases i with
    | zero=>simp at hv;subst hv;exact ⟨_,rfl,l9 (d:=.fl [])⟩
    | succ i=>exact a2 i v (by simpa using hv)
  | .int .. :: _,_,h | .bool .. :: _,_,h | .str _::_,_,h | .nptr::_,_,h | .ptr .. :: _,_,h | .iptr .. :: _,_,h | .nsl::_,_,h | .esl::_,_,h | .zsl _::_,_,h | .nan::_,_,h | .sl .. :: _,_,h | .imm .. :: _,_,h | .fn .. :: _,_,h | .nfn::_,_,h
  | .agg _::_,_,h | .tup _::_,_,h | .iface .. :: _,_,h | .niface::_,_,h | .any::_,_,h=>by cases h
theorem Fa{k:IntKind} :∀ {l:List AV} {xs:List Int},HJ k l=some xs→xs.length=l.length∧∀ (i:Nat) v,(xs[i]?).map (AV.int k)=some v→∃ v0,l[i]? = some v0∧aP v0 v
  | [],xs,h=>by cases h;exact ⟨rfl,fun i v hv=>by simp at hv⟩
  | .int k' x::l,xs,h=>by
    simp only [HJ] at h
    cases e:dp k k' with
    | false=>rw [e] at h;cases h
    | true =>
    rw [e] at h
    have hk:k=k':=of_decide_eq_true e
    subst hk
    simp only [cond_true,Option.map_eq_some_iff] at h
    obtain ⟨ys,h1,rfl⟩:=h
    obtain ⟨a1,a2⟩:=Fa h1
    refine ⟨by simp [a1],fun i v hv=>?_⟩
    cases i with
    | zero=>simp at hv;subst hv;exact ⟨_,rfl,aP.refl _⟩
    | succ i=>exact a2 i v (by simpa using hv)
  | .flt .. :: _,_,h | .bool .. :: _,_,h | .str _::_,_,h | .nptr::_,_,h | .ptr .. :: _,_,h | .iptr .. :: _,_,h | .nsl::_,_,h | .esl::_,_,h | .zsl _::_,_,h | .nan::_,_,h | .sl .. :: _,_,h | .imm .. :: _,_,h | .fn .. :: _,_,h | .nfn::_,_,h
  | .agg _::_,_,h | .tup _::_,_,h | .iface .. :: _,_,h | .niface::_,_,h | .any::_,_,h=>by cases h
theorem Fb:∀ {l:List AV} {xs:List Bool},HK l=some xs→xs.length=l.length∧∀ (i:Nat) v,(xs[i]?).map (AV.bool false)=some v→∃ v0,l[i]? = some v0∧aP v0 v
  | [],xs,h=>by cases h;exact ⟨rfl,fun i v hv=>by simp at hv⟩
  | .bool kn x::l,xs,h=>by
    simp only [HK,Option.map_eq_some_iff] at h
    obtain ⟨ys,h1,rfl⟩:=h
    obtain ⟨a1,a2⟩:=Fb h1
    refine ⟨by simp [a1],fun i v hv=>?_⟩
    cases i with
    | zero=>simp at hv;subst hv;exact ⟨_,rfl,l9 (d:=.bs [])⟩
    | succ i=>exact a2 i v (by simpa using hv)
  | .flt .. :: _,_,h | .int .. :: _,_,h | .str _::_,_,h | .nptr::_,_,h | .ptr .. :: _,_,h | .iptr .. :: _,_,h | .nsl::_,_,h | .esl::_,_,h | .zsl _::_,_,h | .nan::_,_,h | .sl .. :: _,_,h | .imm .. :: _,_,h | .fn .. :: _,_,h | .nfn::_,_,h
  | .agg _::_,_,h | .tup _::_,_,h | .iface .. :: _,_,h | .niface::_,_,h | .any::_,_,h=>by cases h
theorem Fc:∀ {l:List AV} {xs:List ByteArray},HL l=some xs→xs.length=l.length∧∀ (i:Nat) v,(xs[i]?).map AV.str=some v→∃ v0,l[i]? = some v0∧aP v0 v
  | [],xs,h=>by cases h;exact ⟨rfl,fun i v hv=>by simp at hv⟩
  | .str x::l,xs,h=>by
    simp only [HL,Option.map_eq_some_iff] at h
    obtain ⟨ys,h1,rfl⟩:=h
    obtain ⟨a1,a2⟩:=Fc h1
    refine ⟨by simp [a1],fun i v hv=>?_⟩
    cases i with
    | zero=>simp at hv;subst hv;exact ⟨_,rfl,aP.refl _⟩
    | succ i=>exact a2 i v (by simpa using hv)
  | .flt .. :: _,_,h | .int .. :: _,_,h | .bool .. :: _,_,h | .nptr::_,_,h | .ptr .. :: _,_,h | .iptr .. :: _,_,h | .nsl::_,_,h | .esl::_,_,h | .zsl _::_,_,h | .nan::_,_,h | .sl .. :: _,_,h | .imm .. :: _,_,h | .fn .. :: _,_,h | .nfn::_,_,h
  | .agg _::_,_,h | .tup _::_,_,h | .iface .. :: _,_,h | .niface::_,_,h | .any::_,_,h=>by cases h
theorem wi:∀ {l:List AV} {r:List (List Nat)×List Bool},E7 l=some r→az r.2→r.1.length=l.length∧∀ (i:Nat) v,(r.1[i]?).map (fun l=>AV.imm .free (.fl l) 1 1 0 l.length)=some v→∃ v0,l[i]? = some v0∧aP v0 v
  | [],r,h,_=>by cases h;exact ⟨rfl,fun i v hv=>by simp at hv⟩
  | a::l,r,h,ho=>by
    unfold E7 at h
    split at h
    · rename_i q;cases q
    · rename_i l' q
      cases q
      simp only [Option.map_eq_some_iff] at h
      obtain ⟨r',h1,rfl⟩:=h
      obtain ⟨a1,a2⟩:=wi h1 ho
      refine ⟨by simp [a1],fun i v hv=>?_⟩
      cases i with
      | zero=>simp at hv;subst hv;exact ⟨_,rfl,oR _ trivial rfl rfl⟩
      | succ i=>exact a2 i v (by simpa using hv)
    · rename_i lv ys o n l' q
      cases q
      cases e:lv.isFree with
      | false=>rw [e] at h;cases h
      | true =>
      rw [e] at h
      simp only [cond_true,Option.map_eq_some_iff] at h
      obtain ⟨r',h1,rfl⟩:=h
      obtain ⟨a1,a2⟩:=wi h1 ho.2
      refine ⟨by simp [a1],fun i v hv=>?_⟩
      cases i with
      | zero=>simp only [List.getElem?_cons_zero,Option.map_some,Option.some.injEq] at hv;subst hv;exact ⟨_,rfl,uO e (of_decide_eq_true ho.1)⟩
      | succ i=>exact a2 i v (by simpa using hv)
    · cases h
theorem wj{k:IntKind} :∀ {l:List AV} {r:List (List Int)×List Bool},E8 k l=some r→az r.2→r.1.length=l.length∧∀ (i:Nat) v,(r.1[i]?).map (fun l=>AV.imm .free (.ns k l) 1 1 0 l.length)=some v→∃ v0,l[i]? = some v0∧aP v0 v
  | [],r,h,_=>by cases h;exact ⟨rfl,fun i v hv=>by simp at hv⟩
  | a::l,r,h,ho=>by
    unfold E8 at h
    split at h
    · rename_i q;cases q
    · rename_i l' q
      cases q
      simp only [Option.map_eq_some_iff] at h
      obtain ⟨r',h1,rfl⟩:=h
      obtain ⟨a1,a2⟩:=wj h1 ho
      refine ⟨by simp [a1],fun i v hv=>?_⟩
      cases i with
      | zero=>simp at hv;subst hv;exact ⟨_,rfl,oR _ trivial rfl rfl⟩
      | succ i=>exact a2 i v (by simpa using hv)
    · rename_i lv k' ys o n l' q
      cases q
      cases e:(dp k k'&&lv.isFree) with
      | false=>rw [e] at h;cases h
      | true =>
      rw [e] at h
      rw [Bool.and_eq_true] at e
      have hk:k=k':=of_decide_eq_true e.1
      subst hk
      simp only [cond_true,Option.map_eq_some_iff] at h
      obtain ⟨r',h1,rfl⟩:=h
      obtain ⟨a1,a2⟩:=wj h1 ho.2
      refine ⟨by simp [a1],fun i v hv=>?_⟩
      cases i with
      | zero=>simp only [List.getElem?_cons_zero,Option.map_some,Option.some.injEq] at hv;subst hv;exact ⟨_,rfl,uP e.2 (of_decide_eq_true ho.1)⟩
      | succ i=>exact a2 i v (by simpa using hv)
    · cases h
theorem HT{P:Program}{t:TypeId}{l:List AV}{c:dU}{o:List Bool}(h:Lr P t l=some (c,o))(ho:az o) :c.len=l.length∧∀ i v,c.cell? i=some v→∃ v0,l[i]? = some v0∧aP v0 v:=by
  unfold Lr at h
  split at h
  · simp only [Option.map_eq_some_iff,Prod.mk.injEq] at h;obtain ⟨xs,h1,rfl,rfl⟩:=h;exact E9 h1
  · simp only [Option.map_eq_some_iff,Prod.mk.injEq] at h;obtain ⟨xs,h1,rfl,rfl⟩:=h;exact Fa h1
  · simp only [Option.map_eq_some_iff,Prod.mk.injEq] at h;obtain ⟨xs,h1,rfl,rfl⟩:=h;exact Fb h1
  · simp only [Option.map_eq_some_iff,Prod.mk.injEq] at h;obtain ⟨xs,h1,rfl,rfl⟩:=h;exact Fc h1
  · split at h
    · simp only [Option.map_eq_some_iff,Prod.mk.injEq] at h;obtain ⟨xs,h1,rfl,rfl⟩:=h;exact wi h1 ho
    · simp only [Option.map_eq_some_iff,Prod.mk.injEq] at h;obtain ⟨xs,h1,rfl,rfl⟩:=h;exact wj h1 ho
    · cases h
  · cases h
theorem w6(l:List AV)(es j:Nat) :∀ (m i:Nat),(tW l es j m i).length=m∧∀ x,x<m→(tW l es j m i)[x]? = some (l.getD ((i+x)*es+j) .nptr)
  | 0,i=>⟨rfl,fun x hx=>by omega⟩
  | m+1,i=>by
    obtain ⟨a1,a2⟩:=w6 l es j m (i+1)
    refine ⟨by simp [tW,a1],fun x hx=>?_⟩
    cases x with
    | zero=>simp [tW]
    | succ x =>
      simp only [tW,List.getElem?_cons_succ]
      rw [a2 x (by omega)]
      have:i+1+x=i+(x+1):=by omega
      rw [this]
theorem w7{P:Program}{l:List AV}{es m:Nat} :∀ {ts:List TypeId} {j:Nat} {cs:List dU} {o:List Bool},DB P l es m ts j=some (cs,o)→az o →
    (∀ c∈cs,c.len=m)∧∀ (q:Nat) c i v,cs[q]? = some c→c.cell? i=some v→i<m∧aP (l.getD (i*es+(j+q)) .nptr) v
  | [],j,cs,o,h,_=>by cases h;exact ⟨(fun c hc=>by cases hc),(fun q c i v hq=>by simp at hq)⟩
  | t::ts,j,cs,o,h,ho=>by
    simp only [DB] at h
    split at h
    case h_2=>cases h
    rename_i c o1 cs' o2 h1 h2
    simp only [Option.some.injEq,Prod.mk.injEq] at h;obtain ⟨rfl,rfl⟩:=h
    rw [aZ] at ho
    obtain ⟨a1,a2⟩:=w7 h2 ho.2
    obtain ⟨b1,b2⟩:=HT h1 ho.1
    obtain ⟨s1,s2⟩:=w6 l es j m 0
    refine ⟨fun x hx=>?_,fun q x i v hq hx=>?_⟩
    · rcases List.mem_cons.1 hx with rfl | r
      · rw [b1,s1]
      · exact a1 x r
    · cases q with
      | zero =>
        simp at hq;subst hq
        have hlt:i<m:=by have:=qw hx;rw [b1,s1] at this;exact this
        obtain ⟨v0,k1,k2⟩:=b2 i v hx
        rw [s2 i hlt,Option.some.injEq,Nat.zero_add] at k1
        rw [Nat.add_zero,k1];exact ⟨hlt,k2⟩
      | succ q =>
        have:=a2 q x i v (by simpa using hq) hx
        have e:j+1+q=j+(q+1):=by omega
        rw [e] at this;exact this
theorem jV(P:Program)(e:TypeId)(d:aE)(es:Nat)(hrk:d.recKept)(ho:az (d.norm P e es).2) :(d.norm P e es).1.recKept∧(∀ x v,(d.norm P e es).1.cell? x=some v→∃ v0,d.cell? x=some v0∧aP v0 v)∧(d.norm P e es).1.count=d.count:=by
  have same:∀ {d':aE},d'=d→d'.recKept∧(∀ x v,d'.cell? x=some v→∃ v0,d.cell? x=some v0∧aP v0 v)∧d'.count=d.count:=by
    rintro d' rfl;exact ⟨hrk,fun x v h=>⟨v,h,aP.refl _⟩,rfl⟩
  cases d with
  | vs l =>
    simp only [aE.norm] at ho ⊢
    split
    · rename_i cs o hc
      rw [hc] at ho
      cases e1:(Nat.beq cs.length es&&(Nat.blt 0 es&&Nat.beq (l.length/es*es) l.length)) with
      | false=>exact same rfl
      | true =>
        simp only [e1,cond_true] at ho ⊢
        simp only [Bool.and_eq_true] at e1
        obtain ⟨q1,q2,q3⟩:=e1
        have q1:=Nat.eq_of_beq_eq_true q1
        have q3:=Nat.eq_of_beq_eq_true q3
        have q2:0<es:=by simpa [Nat.blt_eq] using q2
        subst q1
        obtain ⟨a1,a2⟩:=w7 hc ho
        refine ⟨a1,fun x v hx=>?_,by simp only [aE.count];exact q3⟩
        obtain ⟨c,h1,_,h3⟩:=d7 hx
        obtain ⟨r1,r2⟩:=a2 _ c _ v h1 h3
        have hdm:=Nat.div_add_mod x cs.length
        rw [Nat.zero_add,Nat.mul_comm,hdm] at r2
        have hlt:x<l.length:=by rw [←q3];exact (Nat.div_lt_iff_lt_mul q2).1 r1
        refine ⟨l[x],by simp only [aE.cell?];exact List.getElem?_eq_getElem hlt,?_⟩
        rw [List.getD_eq_getElem?_getD,List.getElem?_eq_getElem hlt] at r2;exact r2
    · exact same rfl
  | _=>exact same rfl
theorem Ls{a b:Nat}(h : ¬ a<b) :Nat.blt a b=false:=by
  cases e:Nat.blt a b with
  | false=>rfl
  | true=>exact absurd (by simpa [Nat.blt_eq] using e) h
theorem gk{α:Type}{f:α→AV}{a b:List α}{x:Nat}{v:AV}(h:((a++b)[x]?).map f=some v) :(x<a.length∧(a[x]?).map f=some v)∨(a.length≤x∧(b[x-a.length]?).map f=some v):=by
  rw [List.getElem?_append] at h
  split at h
  · rename_i hx;exact .inl ⟨hx,h⟩
  · rename_i hx;exact .inr ⟨by omega,h⟩
theorem DC{a b c:dU}(h:a.app b=some c) :c.len=a.len+b.len∧∀ i v,c.cell? i=some v→(i<a.len∧a.cell? i=some v)∨(a.len≤i∧b.cell? (i-a.len)=some v):=by
  unfold dU.app at h
  split at h
  · cases h;exact ⟨by simp [dU.len],fun i v hv=>gk (f:=AV.flt false) hv⟩
  · rename_i k a k' b
    cases e:dp k k' with
    | false=>rw [e] at h;cases h
    | true =>
      rw [e] at h;cases h
      have hk:k=k':=of_decide_eq_true e
      subst hk
      exact ⟨by simp [dU.len],fun i v hv=>gk (f:=AV.int k) hv⟩
  · cases h;exact ⟨by simp [dU.len],fun i v hv=>gk (f:=AV.bool false) hv⟩
  · cases h;exact ⟨by simp [dU.len],fun i v hv=>gk (f:=AV.str) hv⟩
  · cases h;exact ⟨by simp [dU.len],fun i v hv=>gk (f:=fun l=>AV.imm .free (.fl l) 1 1 0 l.length) hv⟩
  · rename_i k a k' b
    cases e:dp k k' with
    | false=>rw [e] at h;cases h
    | true =>
      rw [e] at h;cases h
      have hk:k=k':=of_decide_eq_true e
      subst hk
      exact ⟨by simp [dU.len],fun i v hv=>gk (f:=fun l=>AV.imm .free (.ns k l) 1 1 0 l.length) hv⟩
  · cases h
theorem uU:∀ {a b c:List dU},yB a b=some c→a.length=c.length∧b.length=c.length∧∀ (j:Nat) (z:dU),c[j]? = some z→∃ x y:dU,a[j]? = some x∧b[j]? = some y∧x.app y=some z
  | [],[],c,h=>by cases h;exact ⟨rfl,rfl,(fun j z hz=>by simp at hz)⟩
  | [],_::_,c,h=>by cases h
  | _::_,[],c,h=>by cases h
  | a::l,b::m,c,h=>by
    simp only [yB] at h
    split at h
    case h_2=>cases h
    rename_i d ds h1 h2
    cases h
    obtain ⟨a1,a2,a3⟩:=uU h2
    refine ⟨by simp [a1],by simp [a2],fun j z hz=>?_⟩
    cases j with
    | zero=>simp at hz;subst hz;exact ⟨a,b,rfl,rfl,h1⟩
    | succ j=>obtain ⟨x,y,q1,q2,q3⟩:=a3 j z (by simpa using hz);exact ⟨x,y,by simpa using q1,by simpa using q2,q3⟩
theorem app_spec{old new d:aE}(ho:old.recKept)(hn:new.recKept)(h:HS old new=some d) :
    d.recKept∧(∀ x v,d.cell? x=some v→(x<old.count∧old.cell? x=some v)∨(old.count≤x∧new.cell? (x-old.count)=some v)):=by
  unfold HS at h
  split at h
  · cases h;exact ⟨trivial,fun x v hx=>gk (f:=AV.flt false) hx⟩
  · rename_i k a k' b
    cases e:dp k k' with
    | false=>rw [e] at h;cases h
    | true =>
      rw [e] at h;cases h
      have:k=k':=of_decide_eq_true e
      subst this
      exact ⟨trivial,fun x v hx=>gk (f:=AV.int k) hx⟩
  · cases h;exact ⟨trivial,fun x v hx=>gk (f:=AV.bool false) hx⟩
  · cases h;exact ⟨trivial,fun x v hx=>gk (f:=AV.str) hx⟩
  · cases h
    refine ⟨trivial,fun x v hx=>?_⟩
    have:=gk (f:=id) (v:=v) (by simpa [aE.cell?] using hx)
    simpa [aE.cell?,aE.count] using this
  · rename_i w n g w' n' g'
    cases e:(Nat.beq w w'&&Nat.blt 0 w) with
    | false=>rw [e] at h;cases h
    | true =>
      rw [e] at h;cases h
      rw [Bool.and_eq_true] at e
      have e1:=Nat.eq_of_beq_eq_true e.1
      subst e1
      have hw:0<w:=by simpa [Nat.blt_eq] using e.2
      refine ⟨fun i j=>?_,fun x v hx=>?_⟩
      · cases q:Nat.blt i n with
        | true=>simp only [q,cond_true];exact ho i j
        | false=>simp only [q,cond_false];exact hn _ j
      · simp only [aE.cell?, aE.count] at hx ⊢
        split at hx
        · rename_i hlt
          by_cases hl:x/w<n
          · have:Nat.blt (x/w) n=true:=by simpa [Nat.blt_eq] using hl
            rw [this] at hx
            exact .inl ⟨(Nat.div_lt_iff_lt_mul hw).1 hl,by rw [if_pos hl];exact hx⟩
          · have : Nat.blt (x / w) n = false := Ls hl
            rw [this] at hx
            have hge : n * w ≤ x := by rcases Nat.lt_or_ge x (n * w) with q | q; · exact absurd ((Nat.div_lt_iff_lt_mul hw).2 q) hl
                                       · exact q
            have d1:(x-n*w)/w=x/w-n:=by rw [Nat.mul_comm n w,Nat.sub_mul_div]
            have d2:(x-n*w)%w=x%w:=by rw [Nat.mul_comm n w,Nat.sub_mul_mod (by rw [Nat.mul_comm];exact hge)]
            refine .inr ⟨hge,?_⟩
            have hx':some (g' (x/w-n) (x%w))=some v:=hx
            have d3:(x-n*w)/w<n':=by omega
            rw [←hx',←d1,←d2];exact if_pos d3
        · cases hx
  · rename_i w n g l
    cases e:(cQ l&&(e7 l&&(Nat.blt 0 w&&Nat.beq (l.length/w*w) l.length))) with
    | false=>rw [e] at h;cases h
    | true =>
      rw [e] at h;cases h
      simp only [Bool.and_eq_true] at e
      obtain ⟨e1,e2,e3,e4⟩:=e
      have e4:=Nat.eq_of_beq_eq_true e4
      have hw:0<w:=by simpa [Nat.blt_eq] using e3
      refine ⟨fun i j=>?_,fun x v hx=>?_⟩
      · cases q:Nat.blt i n with
        | true=>simp only [q,cond_true];exact ho i j
        | false=>simp only [q,cond_false];exact Kw e1 e2 _
      · simp only [aE.cell?, aE.count] at hx ⊢
        split at hx
        · rename_i hlt
          by_cases hl:x/w<n
          · have:Nat.blt (x/w) n=true:=by simpa [Nat.blt_eq] using hl
            rw [this] at hx
            exact .inl ⟨(Nat.div_lt_iff_lt_mul hw).1 hl,by rw [if_pos hl];exact hx⟩
          · have : Nat.blt (x / w) n = false := Ls hl
            rw [this] at hx
            have hge : n * w ≤ x := by rcases Nat.lt_or_ge x (n * w) with q | q; · exact absurd ((Nat.div_lt_iff_lt_mul hw).2 q) hl
                                       · exact q
            have e5:(x/w-n)*w+x%w=x-n*w:=by
              rw [Nat.sub_mul]
              have:=Nat.div_add_mod x w
              rw [Nat.mul_comm] at this
              have h6:n*w≤x/w*w:=Nat.mul_le_mul_right w (by omega)
              omega
            have hlt2:x-n*w<l.length:=by
              have:=(Nat.div_lt_iff_lt_mul hw).1 hlt
              rw [Nat.add_mul,e4] at this;omega
            simp only [cond_false,e5] at hx
            rw [List.getD_eq_getElem?_getD,List.getElem?_eq_getElem hlt2] at hx
            exact .inr ⟨hge,by rw [List.getElem?_eq_getElem hlt2];exact hx⟩
        · cases hx
  · rename_i n cs n' cs'
    cases e:Nat.blt 0 cs.length with
    | false=>rw [e] at h;cases h
    | true =>
      rw [e] at h
      simp only [cond_true,Option.map_eq_some_iff] at h
      obtain ⟨ds,h1,rfl⟩:=h
      have hw:0<cs.length:=by simpa [Nat.blt_eq] using e
      obtain ⟨l1,l2,l3⟩:=uU h1
      have len:∀ {j:Nat} {z:dU},ds[j]? = some z→∃ x y,cs[j]? = some x∧cs'[j]? = some y∧x.len=n∧z.len=n+n'∧∀ i v,z.cell? i=some v→(i<n∧x.cell? i=some v)∨(n≤i∧y.cell? (i-n)=some v):=by
        intro j z hz
        obtain ⟨x,y,q1,q2,q3⟩:=l3 j z hz
        have e1:=ho x (List.mem_of_getElem? q1)
        have e2:=hn y (List.mem_of_getElem? q2)
        obtain ⟨r1,r2⟩:=DC q3
        rw [e1,e2] at r1
        rw [e1] at r2
        exact ⟨x,y,q1,q2,e1,r1,r2⟩
      refine ⟨fun z hz=>?_,fun x v hx=>?_⟩
      · obtain ⟨j,hj⟩:=List.getElem?_of_mem hz
        obtain ⟨_,_,_,_,_,q,_⟩:=len hj
        exact q
      · obtain ⟨z,q1,_,q3⟩:=d7 hx
        obtain ⟨a,b,k1,k2,k3,_,k5⟩:=len q1
        have hdm:=Nat.div_add_mod x ds.length
        simp only [aE.count]
        rw [l1] at hw ⊢
        rcases k5 _ v q3 with ⟨r1,r2⟩ | ⟨r1,r2⟩
        · refine .inl ⟨(Nat.div_lt_iff_lt_mul hw).1 r1,?_⟩
          simp only [aE.cell?,l1,k1,Option.bind_some];exact r2
        · have hge:n*ds.length≤x:=by
            have:=Nat.mul_le_mul_right ds.length r1
            rw [Nat.mul_comm (x/ds.length)] at this;omega
          have d1:(x-n*ds.length)/ds.length=x/ds.length-n:=by rw [Nat.mul_comm n,Nat.sub_mul_div]
          have d2:(x-n*ds.length)%ds.length=x%ds.length:=by rw [Nat.mul_comm n,Nat.sub_mul_mod (by rw [Nat.mul_comm];exact hge)]
          refine .inr ⟨hge,?_⟩
          simp only [aE.cell?,l2,d1,d2,k2,Option.bind_some];exact r2
  · cases h
def Bq(g:Nat→Option aE)(x:AV) :Option (Nat×Nat×aE×List Bool×List Nat) :=
  match x with
  | .sl b w es i len _=>match g b with
    | some d=>(d.sub w es i len).map fun r=>(len,es,r.1,r.2,[b])
    | none=>none
  | .imm _ d w es i len=>(d.sub w es i len).map fun r=>(len,es,r.1,r.2,[])
  | _=>none
structure Oy (ρ:ag) (w:World) (u:Value) (m es:Nat) (nb:aE):Prop where
  rk:nb.recKept
  count:nb.count=m*es
  val:∃ a c,u=.slice a m c∧(m=0∨∃ bl o,a=some ⟨bl,o,none⟩∧∃ news:List Value,news.length=m*es∧(∀ j v,news[j]? = some v→w.cell? ((⟨bl,o,none⟩:Addr).add j)=some v) ∧
    (∀ v∈news,v.oneCell'=true)∧∀ x v,nb.cell? x=some v→∃ u,news[x]? = some u∧VR ρ w v u)
  none_:m=0→∀ x,nb.cell? x=none
theorem Fd{ρ:ag}{w:World}{v:AV}{u:Value}(h:VR ρ w v u)(ho:v.one=true) :u.oneCell'=true:=by
  cases h<;>simp [AV.one] at ho<;>rfl
theorem JL{ρ:ag}{w:World}{bl o n:Nat}{cell:Nat→Option AV}{nb:aE}(hc:∀ x v,cell x=some v→∃ u,w.cell? ⟨bl,o+x,none⟩=some u∧VR ρ w v u)(hs:JK nb n cell) :
    ∃ news:List Value,news.length=n∧(∀ j v,news[j]? = some v→w.cell? ((⟨bl,o,none⟩:Addr).add j)=some v)∧(∀ v∈news,v.oneCell'=true)∧∀ x v,nb.cell? x=some v→∃ u,news[x]? = some u∧VR ρ w v u:=by
  refine ⟨(List.range n).map fun x=>(w.cell? ⟨bl,o+x,none⟩).getD undef,by simp,fun j v hj=>?_,fun v hv=>?_,fun x v hx=>?_⟩
  · rw [List.getElem?_map] at hj
    have hlt:j<n:=by
      rcases Nat.lt_or_ge j n with q | q
      · exact q
      · rw [List.getElem?_eq_none (by simpa using q)] at hj;cases hj
    rw [List.getElem?_range hlt] at hj
    obtain ⟨a,q1,_⟩:=hs.all j hlt
    obtain ⟨u,q2,_⟩:=hc j a q1
    rw [io,q2]
    simp [q2] at hj;rw [hj]
  · simp only [List.mem_map,List.mem_range] at hv
    obtain ⟨j,hlt,rfl⟩:=hv
    obtain ⟨a,q1,q3⟩:=hs.all j hlt
    obtain ⟨u,q2,q4⟩:=hc j a q1
    simp only [q2,Option.getD_some]
    exact Fd q4 q3
  · obtain ⟨hlt,q1⟩:=hs.cells x v hx
    obtain ⟨u,q2,q3⟩:=hc x v q1
    refine ⟨u,?_,q3⟩
    rw [List.getElem?_map,List.getElem?_range hlt];simp [q2]
theorem yZ{ρ:ag}{w:World}{h:bI}{n:Nat}(hh:HR ρ w h n){x:AV}{u:Value}{m es:Nat}{nb:aE}{obs:List Bool}{rs:List Nat}(hx:VR ρ w x u)(hs:Bq (aR h) x=some (m,es,nb,obs,rs))(ho:az obs) :
    Oy ρ w u m es nb:=by
  have none_:∀ {cell:Nat→Option AV},JK nb (m*es) cell→m=0→∀ x,nb.cell? x=none:=by
    intro cell hs h0 x
    cases hc:nb.cell? x with
    | none=>rfl
    | some v=>have:=(hs.cells x v hc).1;rw [h0] at this;omega
  unfold Bq at hs
  split at hs
  · rename_i b k es' i len cap
    split at hs
    case h_2=>cases hs
    rename_i d hd
    simp only [Option.map_eq_some_iff,Prod.mk.injEq] at hs
    obtain ⟨⟨nb',o'⟩,hsub,rfl,rfl,rfl,rfl,rfl⟩:=hs
    have hrk:=hh.rk hd
    have hS:=oT hrk hsub ho
    refine ⟨hS.rk,hS.count,?_,none_ hS⟩
    cases hx with
    | sl _ _ _ _ _ _ cap' hb hcap hl c' t hh' hsz =>
      obtain ⟨_,_,c,ty,hc,hcv⟩:=hh.real hd hb
      refine ⟨_,_,rfl,.inr ⟨_,_,rfl,JL (fun x v hx=>?_) hS⟩⟩
      obtain ⟨u,q1,q2⟩:=hcv _ v hx
      exact ⟨u,by simp [World.cell?,hc,q1],q2⟩
    | slEnd=>exact ⟨_,_,rfl,.inl rfl⟩
  · rename_i bw d k es' i len
    simp only [Option.map_eq_some_iff,Prod.mk.injEq] at hs
    obtain ⟨⟨nb',o'⟩,hsub,rfl,rfl,rfl,rfl,rfl⟩:=hs
    cases hx with
    | imm _ _ _ _ _ _ cap bl o u ha hb hc hv hl hr hk hg =>
      have hS:=oT hr hsub ho
      refine ⟨hS.rk,hS.count,?_,none_ hS⟩
      refine ⟨_,_,rfl,.inr ⟨_,_,rfl,JL (fun x v hx=>⟨u (i*k+x),?_,hv _ v hx⟩) hS⟩⟩
      rw [Nat.add_assoc];exact hc _ v hx
    | immEnd _ _ _ _ _ cap a hr hk hg =>
      have hS:=oT hr hsub ho
      exact ⟨hS.rk,hS.count,⟨_,_,rfl,.inl rfl⟩,none_ hS⟩
  · cases hs
structure xZ where
  v:AV
  sets:List (Nat×Option aE)
  obs:List Bool
def cq:List (Nat×Option aE)→bI→bI
  | [],h=>h
  | (b,some d)::l,h=>cq l (dm h b d)
  | (b,none)::l,h=>cq l (qr h b)
def sy(P : Program)(g : Nat → Option aE)(nid : Nat)(t : TypeId)(s x : AV) : Option (List xZ × List Nat) :=
  match P.underlying t with
  | some (.slice e) =>
    match P.info? e with
    | some inf =>
      match inf.zero with
      | some z =>
        bif Nat.beq z.cells.size inf.size then
        match s,x with
        | .nsl,.nsl=>some ([{ v:=.nsl,sets:=[],obs:=[] }],[])
        | .sl b w es i len cap,.nsl=>some ([{ v:=.sl b w es i len cap,sets:=[],obs:=[] }],[])
        | .sl b w es i len cap,.zsl _=>some ([{ v:=.sl b w es i len cap,sets:=[],obs:=[] }],[])
        | .nsl,x =>
          match Bq g x with
          | some (m,es,nb,obs,rs) =>
            bif Nat.beq es inf.size then
              let nb':=nb.norm P e es
              some ([{ v:=.sl nid nb'.1.wid es 0 m m,sets:=[(nid,some nb'.1)],obs:=qi (m*inf.bytes) 140737488355328::qi m 9223372036854775807::(obs++nb'.2) }],rs)
            else none
          | none=>none
        | .esl,.nsl=>some ([{ v:=.esl,sets:=[],obs:=[] }],[])
        | .esl,x =>
          match Bq g x with
          | some (m,es,nb,obs,rs) =>
            bif Nat.beq es inf.size then
              let nb':=nb.norm P e es
              some ([{ v:=.sl nid nb'.1.wid es 0 m m,sets:=[(nid,some nb'.1)],obs:=qi (m*inf.bytes) 140737488355328::qi m 9223372036854775807::(obs++nb'.2) }],rs)
            else none
          | none=>none
        | .sl b w es 0 len cap,x =>
          match g b,Bq g x with
          | some d,some (m,es',nb,obs,rs) =>
            bif Nat.beq es inf.size&&Nat.beq es' es then
              match d.sub w es 0 len with
              | some (old,obs') =>
                let nb':=nb.norm P e es
                let old':=old.norm P e es
                (HS old'.1 nb'.1).map fun d' =>
                  ([{ v:=.sl nid d'.wid es 0 (len+m) (len+m),sets:=[(b,none),(nid,some d')],obs:=qi ((len+m)*inf.bytes) 140737488355328::qi (len+m) 9223372036854775807::(obs++(obs'++(nb'.2++old'.2))) }],b::rs)
              | none=>none
            else none
          | _,_=>none
        | _,_=>none
        else none
      | none=>none
    | none=>none
  | _=>none
theorem cV{P:Program}{w:World}{t T e:TypeId}{inf:TypeInfo}(ht:P.underlying t=some (.slice e))(hi:P.info? e=some inf)(s a:Option Addr)(n cap c:Nat)(hle:n≤cap) :
    (Builtin.append_ #[t,t] T #[.slice s n cap,.slice a 0 c]).run P w=.ok (.slice s n cap) w:=by
  cases a<;>cases s<;>simp [Builtin.append_,run_underlying ht,sizeOf,typeInfo,hi,Builtin.lenOf,Builtin.firstCells,hle,storeCells,loadCells,loadCellsFrom]
theorem y4{P:Program}{w:World}{t ty e T:TypeId}{i:TypeInfo}(ht:P.underlying t=some (.slice e))(hi:P.info? e=some i) 
    (g sLen sCap:Nat) (cur:Array Value) (hg:w.heap[g]? = some (.cells cur T (0,0)))
    (a:Addr) (m c:Nat) (news:List Value) (hl:news.length=m*i.size) (hnews:∀ j u,news[j]? = some u→w.cell? (a.add j)=some u) (h1:∀ u∈news,u.oneCell'=true)
    (hroom:sLen+m≤sCap) (hfit:sLen*i.size+news.length≤cur.size) :
    (Builtin.append_ #[t,t] ty #[.slice (some ⟨g,0,none⟩) sLen sCap,.slice (some a) m c]).run P w =
      .ok (.slice (some ⟨g,0,none⟩) (sLen+m) sCap) (w.setRow g (cur.toList.take (sLen*i.size)++news++cur.toList.drop (sLen*i.size+news.length)).toArray):=by
  have hf:=run_firstCells_some (P:=P) w i.size m a m c news hl hnews
  have hst:=run_storeCells_at P g (sLen*i.size) T news 0 cur w hg (by simpa using hfit) h1
  simp only [Nat.add_zero] at hst
  simp [Builtin.append_,run_underlying ht,sizeOf,typeInfo,hi,Builtin.lenOf,hroom,hf,Addr.add_lit,hst]
theorem fA.setRow{M:Nat→Prop}(w:World)(g:Nat)(cs old:Array Value)(t:TypeId)(fr:Nat×Nat)(hg:w.heap[g]? = some (.cells old t fr))(hs:cs.size=old.size)(hM:M g) :fA M w (w.setRow g cs):=by
  refine ⟨rfl,rfl,rfl,by simp,fun b _ hb=>setRow_other w g b cs (fun e=>hb (by rw [e];exact hM)),fun b c t' fz hc=>?_⟩
  by_cases e:b=g
  · subst e
    rw [hg] at hc;cases hc
    exact ⟨cs,setRow_heap w b old cs t fr hg,hs⟩
  · exact ⟨c,by rw [setRow_other w g b cs e];exact hc,rfl⟩
theorem HR.again{ρ:ag}{w w':World}{h:bI}{n b nid:Nat}{d d':aE}(hh:HR ρ w h n)(hg:aR h b=some d)(hok:ρ.ok b)(hb : ¬ ρ.ok nid)(hn:nid<n)(W:fA ρ.live w w') 
    (ho:∀ bl,bl≠ρ.at_ b→w'.heap[bl]? = w.heap[bl]?) (hB:BR ρ w' (ρ.at_ b) d') :
    HR (ρ.give nid (ρ.at_ b)) w' (dm (qr h b) nid d') n∧jb ρ (ρ.give nid (ρ.at_ b)) w:=by
  obtain ⟨hl,_⟩:=hh.real hg hok
  have hne:nid≠b:=fun e=>hb (by rw [e];exact hok)
  have E:jb ρ (ρ.give nid (ρ.at_ b)) w :=
    ⟨fun x hx=>by simp only [ag.give];rw [if_neg (fun e:x=nid=>hb (by rw [←e];exact hx))],fun _ q=>.inr q,fun _ q=>.inr q,fun x _ q=>q.elim (fun e=>by rw [e];exact hl) id,rfl⟩
  have E':jb ρ (ρ.give nid (ρ.at_ b)) w':=⟨E.at_,E.ok,E.live,fun x _ q=>q.elim (fun e=>by rw [e];exact hl) id,E.out⟩
  have look:∀ x e,aR (dm (qr h b) nid d') x=some e→(x=nid∧e=d')∨(x≠nid∧x≠b∧aR h x=some e):=by
    intro x e hx
    rw [cS,jT] at hx
    by_cases q:nid=x
    · rw [if_pos q] at hx;cases hx;exact .inl ⟨q.symm,rfl⟩
    · rw [if_neg q] at hx
      by_cases r:b=x
      · rw [if_pos r] at hx;cases hx
      · rw [if_neg r] at hx;exact .inr ⟨fun e=>q e.symm,fun e=>r e.symm,hx⟩
  have atn:(ρ.give nid (ρ.at_ b)).at_ nid=ρ.at_ b:=by simp [ag.give]
  have back:∀ {x:Nat},x≠nid→(ρ.give nid (ρ.at_ b)).ok x→ρ.ok x:=fun hx q=>q.resolve_left hx
  refine ⟨⟨fun x e hx=>?_,fun x y e f h1 h2 ok1 ok2 he=>?_,fun bl q=>?_,fun bl q=>?_,fun j bl q=>?_,fun x hx=>?_,fun x hx=>(hh.rom x hx).mono E W⟩,E⟩
  · rcases look x e hx with ⟨rfl,rfl⟩ | ⟨q1,q2,q3⟩
    · rw [atn]
      refine .inl ⟨.inl rfl,.inr hl,?_⟩
      obtain ⟨r1,c,t,r2,r3⟩:=hB
      exact ⟨r1,c,t,r2,fun y v hy=>by obtain ⟨u,k1,k2⟩:=r3 y v hy;exact ⟨u,k1,k2.mono E' (fA.refl _ _)⟩⟩
    · rcases hh.cell x e q3 with ⟨k1,k2,k3⟩ | ⟨k1,k2⟩
      · rw [E.at_ x k1]
        exact .inl ⟨.inr k1,.inr k2,k3.mono E W (ho _ (fun z=>q2 (hh.inj x b e d q3 hg k1 hok z)))⟩
      · exact .inr ⟨fun q=>k1 (back q1 q),k2⟩
  · rcases look x e h1 with ⟨rfl,rfl⟩ | ⟨q1,q2,q3⟩<;>rcases look y f h2 with ⟨rfl,rfl⟩ | ⟨r1,r2,r3⟩
    · rfl
    · have k:=back r1 ok2;rw [atn,E.at_ y k] at he;exact absurd (hh.inj y b f d r3 hg k hok he.symm) r2
    · have k:=back q1 ok1;rw [atn,E.at_ x k] at he;exact absurd (hh.inj x b e d q3 hg k hok he) q2
    · have k:=back q1 ok1;have k':=back r1 ok2;rw [E.at_ x k,E.at_ y k'] at he;exact hh.inj x y e f q3 r3 k k' he
  · rcases q with rfl | q
    · exact hh.fresh _ hl
    · exact hh.fresh bl q
  · rcases q with rfl | q
    · exact Nat.lt_of_lt_of_le (hh.liveLt _ hl) W.size
    · exact Nat.lt_of_lt_of_le (hh.liveLt bl q) W.size
  · exact Nat.lt_of_lt_of_le (hh.outLt j bl q) W.size
  · rcases hx with rfl | hx
    · exact hn
    · exact hh.lt x hx
theorem HR.ghost{ρ:ag}{w:World}{h:bI}{n nid:Nat}{d:aE}(hh:HR ρ w h n)(hb : ¬ ρ.ok nid)(hn:nid<n)(hr:d.recKept)(hv:d.void) :HR ρ w (dm h nid d) n:=by
  have look:∀ x e,aR (dm h nid d) x=some e→(x=nid∧e=d)∨(x≠nid∧aR h x=some e):=by
    intro x e hx
    rw [cS] at hx
    by_cases q:nid=x
    · rw [if_pos q] at hx;cases hx;exact .inl ⟨q.symm,rfl⟩
    · rw [if_neg q] at hx;exact .inr ⟨fun e=>q e.symm,hx⟩
  refine ⟨fun x e hx=>?_,fun x y e f h1 h2 ok1 ok2 he=>?_,hh.fresh,hh.liveLt,hh.outLt,hh.lt,hh.rom⟩
  · rcases look x e hx with ⟨rfl,rfl⟩ | ⟨_,q⟩
    · exact .inr ⟨hb,hn,hr,hv⟩
    · exact hh.cell x e q
  · rcases look x e h1 with ⟨rfl,rfl⟩ | ⟨_,q⟩
    · exact (hb ok1).elim
    · rcases look y f h2 with ⟨rfl,rfl⟩ | ⟨_,r⟩
      · exact (hb ok2).elim
      · exact hh.inj x y e f q r ok1 ok2 he
theorem Br{P:Program}{ρ:ag}{w:World}{h:bI}{n nid:Nat}(hh:HR ρ w h n)(hb : ¬ ρ.ok nid)(hn:nid<n){t:TypeId}{s x:AV}{s' x':Value}(hs:VR ρ w s s')(hx:VR ρ w x x') 
    {alts:List xZ} {rs:List Nat} (ha:sy P (aR h) nid t s x=some (alts,rs)) {alt:xZ} (hm:alt∈alts) (ho:az alt.obs) (T:TypeId) :
    tg P ρ w h n nid (Builtin.append_ #[t,t] T #[s',x']) alt.v (cq alt.sets h):=by
  have bq:∀ {a b:Nat},Nat.beq a b=true→a=b:=Nat.eq_of_beq_eq_true
  unfold sy at ha
  split at ha
  case h_2=>cases ha
  rename_i e ht
  split at ha
  case h_2=>cases ha
  rename_i inf hi
  split at ha
  case h_2=>cases ha
  rename_i z hz
  cases hzs:Nat.beq z.cells.size inf.size with
  | false=>rw [hzs] at ha;cases ha
  | true =>
  rw [hzs] at ha
  have hzs:=bq hzs
  simp only [cond_true] at ha
  have empty:∀ (s0:Option Addr) (alts:List xZ) (rs:List Nat),(match Bq (aR h) x with
          | some (m,es,nb,obs,rs) =>
            bif Nat.beq es inf.size then
              let nb':=nb.norm P e es
              some (([{ v:=.sl nid nb'.1.wid es 0 m m,sets:=[(nid,some nb'.1)],obs:=qi (m*inf.bytes) 140737488355328::qi m 9223372036854775807::(obs++nb'.2) }]:List xZ),rs)
            else none
          | none=>none)=some (alts,rs)→alt∈alts→tg P ρ w h n nid (Builtin.append_ #[t,t] T #[.slice s0 0 0,x']) alt.v (cq alt.sets h):=by
    intro s0 alts rs ha hm
    split at ha
    case h_2=>cases ha
    rename_i m es nb obs rs' hsrc
    cases hes:Nat.beq es inf.size with
    | false=>rw [hes] at ha;cases ha
    | true =>
    rw [hes] at ha
    have hes:=bq hes
    subst hes
    simp only [cond_true,Option.some.injEq,Prod.mk.injEq] at ha;obtain ⟨rfl,rfl⟩:=ha
    simp only [List.mem_singleton] at hm;subst hm
    obtain ⟨o2,o3,o4⟩:=ho
    rw [aZ] at o4
    have hS:=yZ hh hx hsrc o4.1
    obtain ⟨n1,n2,n3⟩:=jV P e nb inf.size hS.rk o4.2
    obtain ⟨a,c,rfl,hv⟩:=hS.val
    have b1:m*inf.bytes≤140737488355328:=of_decide_eq_true o2
    have b2:m≤9223372036854775807:=of_decide_eq_true o3
    by_cases hm0:m=0
    · subst hm0
      have hvoid:(nb.norm P e inf.size).1.void:=by
        intro y
        cases q:(nb.norm P e inf.size).1.cell? y with
        | none=>rfl
        | some v=>obtain ⟨v0,q1,_⟩:=n2 y v q;rw [hS.none_ rfl] at q1;cases q1
      exact ⟨_,w,ρ,cV ht hi s0 a 0 0 c (Nat.le_refl _),jb.refl _ _,fA.refl _ _,hh.ghost hb hn n1 hvoid,.slEnd _ _ _ _ _,fun b q=>.inl q⟩
    · rcases hv with e | ⟨bl,o,rfl,news,hl,hnews,hone,hrel⟩
      · exact absurd e hm0
      have hrun:(Builtin.append_ #[t,t] T #[.slice s0 0 0,.slice (some ⟨bl,o,none⟩) m c]).run P w=.ok (.slice (some ⟨w.heap.size,0,none⟩) m (grownCap w m 0 e)) (w.drew.alloc (.cells (news.toArray++Builtin.zeroCells z.cells (grownCap w m 0 e-m)) e)):=by
        cases s0 with
        | none=>exact run_append_nil (P:=P) w t T e inf z ht hi hz ⟨bl,o,none⟩ m c news hl hnews (by omega) (by omega) (by omega)
        | some s1 =>
          have hfit:=growslice_fits (old:=0) (need:=0+m) (bytes:=inf.bytes) (by omega) (by rw [Nat.zero_add];exact b1)
          have:=run_append_grow (P:=P) w t T e inf z ht hi hz s1 0 0 [] (by simp) (fun j v hj=>by simp at hj) ⟨bl,o,none⟩ m c news hl hnews (by omega) (by omega) hfit
          simpa using this
      refine sx hh hb hn (d:=(nb.norm P e inf.size).1) (l:=(List.range (m*inf.size)).map fun x=>(nb.cell? x).getD .any) ⟨n1,fun y v hy=>?_⟩ (.inr ⟨w.drawn+1,rfl⟩) hrun (fun y v hy=>?_) ?_
      · obtain ⟨v0,this,hw⟩:=n2 y v hy
        obtain ⟨u,q1,q2⟩:=hrel y v0 this
        have hlt:y<m*inf.size:=by rw [←hl];exact (List.getElem?_eq_some_iff.1 q1).1
        exact ⟨v0,by rw [List.getElem?_map,List.getElem?_range hlt];simp [this],hw⟩
      · rw [List.getElem?_map] at hy
        have hlt:y<m*inf.size:=by
          rcases Nat.lt_or_ge y (m*inf.size) with q | q
          · exact q
          · rw [List.getElem?_eq_none (by simpa using q)] at hy;cases hy
        rw [List.getElem?_range hlt] at hy
        simp only [Option.map_some,Option.some.injEq] at hy
        have hlt':y<news.length:=by omega
        refine ⟨news[y],?_,?_⟩
        · rw [Array.getElem?_append_left (by simpa using hlt')];simp [hlt']
        · subst hy
          cases q:nb.cell? y with
          | none=>exact .any _
          | some v=>obtain ⟨u,q1,q2⟩:=hrel y v q;rw [List.getElem?_eq_getElem hlt'] at q1;cases q1;exact q2
      · rintro _ _ rfl rfl
        have hcap:m≤grownCap w m 0 e:=grownCap_ge w m 0 e
        have:VR (ρ.give nid w.heap.size) (w.drew.alloc (.cells (news.toArray++Builtin.zeroCells z.cells (grownCap w m 0 e-m)) e)) (.sl nid (nb.norm P e inf.size).1.wid inf.size 0 m m) (.slice (some ⟨(ρ.give nid w.heap.size).at_ nid,0*(nb.norm P e inf.size).1.wid,none⟩) m (grownCap w m 0 e)):=by
          refine .sl _ _ _ _ _ _ _ (.inl rfl) hcap (Nat.le_refl _) _ e (by simp only [ag.give,if_true];exact gi w.drew _) ?_
          simp only [Array.size_append,List.size_toArray,size_zeroCells,hl,hzs]
          have:m*inf.size+(grownCap w m 0 e-m)*inf.size=grownCap w m 0 e*inf.size:=by rw [←Nat.add_mul];congr 1;omega
          omega
        simpa [ag.give] using this
  split at ha
  · simp only [Option.some.injEq,Prod.mk.injEq] at ha;obtain ⟨rfl,rfl⟩:=ha
    simp only [List.mem_singleton] at hm;subst hm
    cases hs;cases hx
    exact ⟨_,w,ρ,cV ht hi none none 0 0 0 (Nat.le_refl _),jb.refl _ _,fA.refl _ _,hh,.nsl,fun b q=>.inl q⟩
  · rename_i b k es i len cap
    simp only [Option.some.injEq,Prod.mk.injEq] at ha;obtain ⟨rfl,rfl⟩:=ha
    simp only [List.mem_singleton] at hm;subst hm
    cases hx
    have hs0:=hs
    cases hs with
    | sl _ _ _ _ _ _ cap' q1 q2 q3 c ty q4 q5=>exact ⟨_,w,ρ,cV ht hi _ none len cap' 0 (by omega),jb.refl _ _,fA.refl _ _,hh,hs0,fun b q=>.inl q⟩
    | slEnd=>exact ⟨_,w,ρ,cV ht hi _ none 0 0 0 (Nat.le_refl _),jb.refl _ _,fA.refl _ _,hh,hs0,fun b q=>.inl q⟩
  · rename_i b k es i len cap _
    simp only [Option.some.injEq,Prod.mk.injEq] at ha;obtain ⟨rfl,rfl⟩:=ha
    simp only [List.mem_singleton] at hm;subst hm
    cases hx
    have hs0:=hs
    cases hs with
    | sl _ _ _ _ _ _ cap' q1 q2 q3 c ty q4 q5=>exact ⟨_,w,ρ,cV ht hi _ _ len cap' _ (by omega),jb.refl _ _,fA.refl _ _,hh,hs0,fun b q=>.inl q⟩
    | slEnd=>exact ⟨_,w,ρ,cV ht hi _ _ 0 0 _ (Nat.le_refl _),jb.refl _ _,fA.refl _ _,hh,hs0,fun b q=>.inl q⟩
  · cases hs
    exact empty none _ _ ha hm
  · simp only [Option.some.injEq,Prod.mk.injEq] at ha;obtain ⟨rfl,rfl⟩:=ha
    simp only [List.mem_singleton] at hm;subst hm
    cases hs;cases hx
    exact ⟨_,w,ρ,cV ht hi _ none 0 0 0 (Nat.le_refl _),jb.refl _ _,fA.refl _ _,hh,.esl _,fun b q=>.inl q⟩
  · cases hs
    exact empty _ _ _ ha hm
  · rename_i b k es len cap hx0 _
    split at ha
    case h_2=>cases ha
    rename_i d m es' nb obs rs' hd hsrc
    cases hes:(Nat.beq es inf.size&&Nat.beq es' es) with
    | false=>rw [hes] at ha;cases ha
    | true =>
    rw [hes] at ha
    rw [Bool.and_eq_true] at hes
    have e1:=bq hes.1;have e2:=bq hes.2
    subst e1;subst e2
    simp only [cond_true] at ha
    split at ha
    case h_2=>cases ha
    rename_i old obs' hsub
    simp only [Option.map_eq_some_iff,Prod.mk.injEq] at ha
    obtain ⟨d',happ,rfl,rfl⟩:=ha
    simp only [List.mem_singleton] at hm;subst hm
    obtain ⟨o1,o2,o3⟩:=ho
    rw [aZ,aZ,aZ] at o3
    obtain ⟨o31,o32,o33,o34⟩:=o3
    have hS:=yZ hh hx hsrc o31
    have hrk:=hh.rk hd
    have hO:=oT hrk hsub o32
    obtain ⟨m1,m2,m3⟩:=jV P e nb inf.size hS.rk o33
    obtain ⟨p1,p2,p3⟩:=jV P e old inf.size hO.rk o34
    obtain ⟨a1,a2'⟩:=app_spec p1 m1 happ
    have a2:∀ x v,d'.cell? x=some v→(x<old.count∧∃ v0,old.cell? x=some v0∧aP v0 v)∨(old.count≤x∧∃ v0,nb.cell? (x-old.count)=some v0∧aP v0 v):=by
      intro x v hx
      rw [p3] at a2'
      rcases a2' x v hx with ⟨q,r⟩ | ⟨q,r⟩
      · exact .inl ⟨q,p2 x v r⟩
      · exact .inr ⟨q,m2 _ v r⟩

    have hblk:∃ (cur:Array Value) (ty:TypeId),(ρ.ok b→ρ.live (ρ.at_ b)∧w.heap[ρ.at_ b]? = some (.cells cur ty (0,0)))∧∀ x v,d.cell? x=some v→∃ u,cur[x]? = some u∧VR ρ w v u:=by
      rcases hh.cell b d hd with ⟨_,q1,_,c,t,q2,q3⟩ | ⟨q1,_,_,q2⟩
      · exact ⟨c,t,fun _=>⟨q1,q2⟩,q3⟩
      · exact ⟨#[],0,fun q=>(q1 q).elim,fun x v hx=>by rw [q2 x] at hx;cases hx⟩
    obtain ⟨cur,ty,hreal,hcv⟩:=hblk
    have b1:(len+m)*inf.bytes≤140737488355328:=of_decide_eq_true o1
    have b2:len+m≤9223372036854775807:=of_decide_eq_true o2
    obtain ⟨a,c,rfl,hv⟩:=hS.val
    have hsets:cq [(b,none),(nid,some d')] h=dm (qr h b) nid d':=rfl
    simp only [hsets]

    have hold:∀ x,x<len*inf.size→∃ v u,d.cell? x=some v∧v.one=true∧cur[x]? = some u∧VR ρ w v u:=by
      intro x hx
      obtain ⟨v,q1,q2⟩:=hO.all x hx
      simp only [Nat.zero_mul,Nat.zero_add] at q1
      obtain ⟨u,q3,q4⟩:=hcv x v q1
      exact ⟨v,u,q1,q2,q3,q4⟩
    have hcurlen:len*inf.size≤cur.size:=by
      rcases Nat.eq_zero_or_pos (len*inf.size) with q | q
      · omega
      · obtain ⟨_,u,_,_,q3,_⟩:=hold (len*inf.size-1) (by omega)
        have:=(Array.getElem?_eq_some_iff.1 q3).1;omega

    have zero:m=0→∀ cap' (s0:Option Addr),len≤cap'→VR ρ w (.sl b k inf.size 0 len cap) (.slice s0 len cap') →
        tg P ρ w h n nid (Builtin.append_ #[t,t] T #[.slice s0 len cap',.slice a m c]) (.sl nid d'.wid inf.size 0 (len+m) (len+m)) (dm (qr h b) nid d'):=by
      intro h0 cap' s0 hle hvs
      subst h0
      have hcell:∀ x v,d'.cell? x=some v→∃ u,cur[x]? = some u∧VR ρ w v u:=by
        intro x v hx
        rcases a2 x v hx with ⟨_,v0,q,hw⟩ | ⟨_,v0,q,_⟩
        · obtain ⟨_,q1⟩:=hO.cells x v0 q
          simp only [Nat.zero_mul,Nat.zero_add] at q1
          obtain ⟨u,r1,r2⟩:=hcv x v0 q1
          exact ⟨u,r1,hw _ _ _ r2⟩
        · rw [hS.none_ rfl] at q;cases q
      rw [Nat.add_zero]
      by_cases hok:ρ.ok b
      · obtain ⟨hlive,hcur⟩:=hreal hok
        obtain ⟨r1,r2⟩:=hh.again hd hok hb hn (fA.refl _ w) (fun _ _=>rfl) ⟨a1,cur,ty,hcur,hcell⟩
        refine ⟨_,w,_,cV ht hi s0 a len cap' c hle,r2,fA.refl _ _,r1,?_,fun b q=>q.elim .inr .inl⟩
        have atn:(ρ.give nid (ρ.at_ b)).at_ nid=ρ.at_ b:=by simp [ag.give]
        cases hvs with
        | sl _ _ _ _ _ _ _ q1 q2 q3 c' ty' q4 q5 =>
          have:VR (ρ.give nid (ρ.at_ b)) w (.sl nid d'.wid inf.size 0 len len) (.slice (some ⟨(ρ.give nid (ρ.at_ b)).at_ nid,0*d'.wid,none⟩) len cap') :=
            .sl _ _ _ _ _ _ _ (.inl rfl) hle (Nat.le_refl _) c' ty' (by rw [atn];exact q4) (by omega)
          rw [atn,Nat.zero_mul] at this;rw [Nat.zero_mul];exact this
        | slEnd=>exact .slEnd _ _ _ _ _
      · have hgh:cap'=0∧len=0:=by
          cases hvs with
          | sl _ _ _ _ _ _ _ q1=>exact (hok q1).elim
          | slEnd=>exact ⟨rfl,rfl⟩
        obtain ⟨rfl,rfl⟩:=hgh
        have hvoid:d'.void:=by
          intro y
          cases q:d'.cell? y with
          | none=>rfl
          | some v =>
            rcases a2 y v q with ⟨q1,_⟩ | ⟨_,v0,q1,_⟩
            · rw [hO.count,Nat.zero_mul] at q1;omega
            · rw [hS.none_ rfl] at q1;cases q1
        exact ⟨_,w,ρ,cV ht hi s0 a 0 0 c (Nat.le_refl _),jb.refl _ _,fA.refl _ _,(hh.del b).ghost hb hn a1 hvoid,.slEnd _ _ _ _ _,fun b q=>.inl q⟩
    rcases hv with h0 | ⟨bl,o,rfl,news,hl,hnews,hone,hrel⟩
    · have hs0:=hs
      cases hs with
      | sl _ _ _ _ _ _ cap' q1 q2 q3 c' ty' q4 q5=>exact zero h0 cap' _ (by omega) hs0
      | slEnd=>exact zero h0 0 _ (Nat.le_refl _) hs0
    ·
      have grow:∀ cap' (s0:Option Addr) (g:World→Prop),cap'<len+m→(s0=some ⟨ρ.at_ b,0,none⟩∧ρ.ok b∨len=0∧cap'=0) →
          tg P ρ w h n nid (Builtin.append_ #[t,t] T #[.slice s0 len cap',.slice (some ⟨bl,o,none⟩) m c]) (.sl nid d'.wid inf.size 0 (len+m) (len+m)) (dm (qr h b) nid d'):=by
        intro cap' s0 _ hlt hs0
        have hcells:∀ y v,d'.cell? y=some v→∃ u,((cur.toList.take (len*inf.size))++news)[y]? = some u∧VR ρ w v u:=by
          intro y v hy
          have htl:(cur.toList.take (len*inf.size)).length=len*inf.size:=by simp;omega
          rcases a2 y v hy with ⟨q0,v0,q,hw⟩ | ⟨q0,v0,q,hw⟩
          · obtain ⟨q2,q1⟩:=hO.cells y v0 q
            simp only [Nat.zero_mul,Nat.zero_add] at q1
            obtain ⟨u,q3,q4⟩:=hcv y v0 q1
            refine ⟨u,?_,hw _ _ _ q4⟩
            rw [List.getElem?_append_left (by omega),List.getElem?_take,if_pos q2];simpa using q3
          · rw [hO.count] at q0 q
            obtain ⟨u,q3,q4⟩:=hrel _ v0 q
            refine ⟨u,?_,hw _ _ _ q4⟩
            rw [List.getElem?_append_right (by omega),htl];exact q3
        have hfit:=growslice_fits (old:=cap') (need:=len+m) (bytes:=inf.bytes) hlt b1
        have hrun:∃ cells:Array Value,cells.size=grownCap w (len+m) cap' e*inf.size∧(∀ (y:Nat) (u:Value),((cur.toList.take (len*inf.size))++news)[y]? = some u→cells[y]? = some u) ∧
            (Builtin.append_ #[t,t] T #[.slice s0 len cap',.slice (some ⟨bl,o,none⟩) m c]).run P w=.ok (.slice (some ⟨w.heap.size,0,none⟩) (len+m) (grownCap w (len+m) cap' e)) (w.drew.alloc (.cells cells e)):=by
          have hcap:len+m≤grownCap w (len+m) cap' e:=grownCap_ge w (len+m) cap' e
          have hsize:(len+m)*inf.size+(grownCap w (len+m) cap' e-(len+m))*inf.size=grownCap w (len+m) cap' e*inf.size:=by rw [←Nat.add_mul];congr 1;omega
          rcases hs0 with ⟨rfl,hok⟩ | ⟨rfl,rfl⟩
          · obtain ⟨hlive,hcur⟩:=hreal hok
            have hlo:(cur.toList.take (len*inf.size)).length=len*inf.size:=by simp;omega
            have:=run_append_grow (P:=P) w t T e inf z ht hi hz ⟨ρ.at_ b,0,none⟩ len cap' (cur.toList.take (len*inf.size)) hlo (fun j v hj=>by
              rw [io];simp only [Nat.zero_add,World.cell?,hcur]
              rw [List.getElem?_take] at hj;split at hj
              · simpa using hj
              · cases hj) ⟨bl,o,none⟩ m c news hl hnews hlt (by omega) hfit
            refine ⟨_,?_,fun y u hy=>?_,this⟩
            · simp only [Array.size_append,List.size_toArray,size_zeroCells,hl,hzs,hlo];rw [←Nat.add_mul];exact hsize
            · have hlt2:y<(cur.toList.take (len*inf.size)++news).length:=(List.getElem?_eq_some_iff.1 hy).1
              rw [Array.getElem?_append_left (by simpa using hlt2)];simpa using hy
          · cases s0 with
            | none =>
              have hm0:0<m:=by omega
              have:=run_append_nil (P:=P) w t T e inf z ht hi hz ⟨bl,o,none⟩ m c news hl hnews hm0 (by omega) (by rw [Nat.zero_add] at b1;omega)
              rw [Nat.zero_add] at hsize ⊢
              refine ⟨_,?_,fun y u hy=>?_,this⟩
              · simp only [Array.size_append,List.size_toArray,size_zeroCells,hl,hzs];exact hsize
              · simp only [Nat.zero_mul,List.take_zero,List.nil_append] at hy
                have hlt2:y<news.length:=(List.getElem?_eq_some_iff.1 hy).1
                rw [Array.getElem?_append_left (by simpa using hlt2)];simpa using hy
            | some s1 =>
              have:=run_append_grow (P:=P) w t T e inf z ht hi hz s1 0 0 [] (by simp) (fun j v hj=>by simp at hj) ⟨bl,o,none⟩ m c news hl hnews hlt (by omega) hfit
              refine ⟨_,?_,fun y u hy=>?_,this⟩
              · simp only [Array.size_append,List.size_toArray,List.length_nil,size_zeroCells,hl,hzs,Nat.zero_add];rw [Nat.zero_add] at hsize;exact hsize
              · simp only [Nat.zero_mul,List.take_zero,List.nil_append] at hy
                have hlt2:y<news.length:=(List.getElem?_eq_some_iff.1 hy).1
                rw [Array.getElem?_append_left (by simpa using hlt2)];simpa using hy
        obtain ⟨cells,k1,k2,k3⟩:=hrun
        have hcap:len+m≤grownCap w (len+m) cap' e:=grownCap_ge w (len+m) cap' e
        have H1:HR ρ w.drew (qr h b) n:=(hh.del b).drawn _
        obtain ⟨r1,r2,r3⟩:=H1.alloc hb hn d' cells e a1 (fun y v hy=>by
          obtain ⟨u,q1,q2⟩:=hcells y v hy
          exact ⟨u,k2 y u q1,q2.mono (jb.refl _ _) (fA.drawn _ _ _)⟩)
        refine ⟨_,_,_,k3,⟨r2.at_,r2.ok,r2.live,r2.new,r2.out⟩,(fA.drawn _ w _).trans r3 (fun _ _ q=>q),r1,?_,fun b q=>q.elim .inr .inl⟩
        have:VR (ρ.give nid w.heap.size) (w.drew.alloc (.cells cells e)) (.sl nid d'.wid inf.size 0 (len+m) (len+m)) (.slice (some ⟨(ρ.give nid w.heap.size).at_ nid,0*d'.wid,none⟩) (len+m) (grownCap w (len+m) cap' e)) :=
          .sl _ _ _ _ _ _ _ (.inl rfl) hcap (Nat.le_refl _) cells e (by simp only [ag.give,if_true];exact gi w.drew _) (by rw [k1];omega)
        simpa [ag.give] using this
      cases hs with
      | sl _ _ _ _ _ _ cap' q1 q2 q3 c' ty' q4 q5 =>
        rw [Nat.zero_mul]
        obtain ⟨hlive,hcur⟩:=hreal q1
        rw [hcur] at q4;cases q4
        by_cases hroom:len+m≤cap'
        · have hfit:len*inf.size+news.length≤cur.size:=by
            have:(len+m)*inf.size≤cap'*inf.size:=Nat.mul_le_mul_right _ hroom
            rw [Nat.add_mul] at this;omega
          have hrun:=y4 (P:=P) (ty:=T) ht hi (ρ.at_ b) len cap' cur hcur ⟨bl,o,none⟩ m c news hl hnews hone hroom hfit
          have hsz:(cur.toList.take (len*inf.size)++news++cur.toList.drop (len*inf.size+news.length)).toArray.size=cur.size:=by
            simp;omega
          have W:fA ρ.live w (w.setRow (ρ.at_ b) (cur.toList.take (len*inf.size)++news++cur.toList.drop (len*inf.size+news.length)).toArray):=fA.setRow w _ _ cur ty (0,0) hcur hsz hlive
          have hB:BR ρ (w.setRow (ρ.at_ b) (cur.toList.take (len*inf.size)++news++cur.toList.drop (len*inf.size+news.length)).toArray) (ρ.at_ b) d':=by
            refine ⟨a1,_,ty,setRow_heap w _ cur _ ty (0,0) hcur,fun y v hy=>?_⟩
            have htl:(cur.toList.take (len*inf.size)).length=len*inf.size:=by simp;omega
            rcases a2 y v hy with ⟨q0,v0,q,hw⟩ | ⟨q0,v0,q,hw⟩
            · obtain ⟨k2,k1⟩:=hO.cells y v0 q
              simp only [Nat.zero_mul,Nat.zero_add] at k1
              obtain ⟨u,k3,k4⟩:=hcv y v0 k1
              refine ⟨u,?_,(hw _ _ _ k4).mono (jb.refl _ _) W⟩
              rw [List.getElem?_toArray,List.append_assoc,List.getElem?_append_left (by omega),List.getElem?_take,if_pos k2];simpa using k3
            · rw [hO.count] at q0 q
              obtain ⟨u,k3,k4⟩:=hrel _ v0 q
              have hlt:=(List.getElem?_eq_some_iff.1 k3).1
              refine ⟨u,?_,(hw _ _ _ k4).mono (jb.refl _ _) W⟩
              rw [List.getElem?_toArray,List.append_assoc,List.getElem?_append_right (by omega),htl,List.getElem?_append_left hlt];exact k3
          obtain ⟨r1,r2⟩:=hh.again hd q1 hb hn W (fun x hx=>setRow_other w _ x _ hx) hB
          refine ⟨_,_,_,hrun,r2,W,r1,?_,fun b q=>q.elim .inr .inl⟩
          have atn:(ρ.give nid (ρ.at_ b)).at_ nid=ρ.at_ b:=by simp [ag.give]
          have:VR (ρ.give nid (ρ.at_ b)) (w.setRow (ρ.at_ b) (cur.toList.take (len*inf.size)++news++cur.toList.drop (len*inf.size+news.length)).toArray) (.sl nid d'.wid inf.size 0 (len+m) (len+m)) (.slice (some ⟨(ρ.give nid (ρ.at_ b)).at_ nid,0*d'.wid,none⟩) (len+m) cap') :=
            .sl _ _ _ _ _ _ _ (.inl rfl) hroom (Nat.le_refl _) _ ty (by rw [atn];exact setRow_heap w _ cur _ ty (0,0) hcur) (by rw [hsz];rw [Nat.zero_mul] at q5 ⊢;exact q5)
          rw [atn,Nat.zero_mul] at this;exact this
        · exact grow cap' _ (fun _=>True) (by omega) (.inl ⟨rfl,q1⟩)
      | slEnd =>
        by_cases hm0:m=0
        · exact zero hm0 0 _ (Nat.le_refl _) (.slEnd _ _ _ _ _)
        · exact grow 0 _ (fun _=>True) (by omega) (.inr ⟨rfl,rfl⟩)
  · cases ha
mutual
theorem pb:∀ {v:AV},v.kept=true→v.foreign=true
  | .fn _ l1 l2,h=>by simp only [AV.kept,AV.foreign,Bool.and_eq_true] at h ⊢;exact ⟨eJ h.1,eJ h.2⟩
  | .agg l,h=>by simp only [AV.kept,AV.foreign] at h ⊢;exact eJ h
  | .tup l,h=>by simp only [AV.kept,AV.foreign] at h ⊢;exact eJ h
  | .iface _ v,h=>by simp only [AV.kept,AV.foreign] at h ⊢;exact pb h
  | .ptr ..,h=>by simp [AV.kept] at h
  | .sl ..,h=>by simp [AV.kept] at h
  | .int ..,_ | .bool ..,_ | .flt ..,_ | .str _,_ | .nptr,_ | .iptr ..,_ | .nsl,_ | .esl,_ | .zsl _,_ | .nan,_ | .imm ..,_ | .nfn,_ | .niface,_ | .any,_=>rfl
theorem eJ:∀ {l:List AV},cQ l=true→bt l=true
  | [],_=>rfl
  | v::l,h=>by simp only [cQ,bt,Bool.and_eq_true] at h ⊢;exact ⟨pb h.1,eJ h.2⟩
end
theorem qA:∀ {l:List AV},bt l=true→∀ (x:Nat) (v:AV),l[x]? = some v→v.foreign=true
  | [],_,x,v,h=>by simp at h
  | a::l,ha,0,v,h=>by simp at h;subst h;simp only [bt,Bool.and_eq_true] at ha;exact ha.1
  | a::l,ha,x+1,v,h=>by simp only [bt,Bool.and_eq_true] at ha;exact qA ha.2 x v (by simpa using h)
theorem aV{d:aE}(hr:d.recKept)(hk:d.foreign=true)(x:Nat)(v:AV)(hx:d.cell? x=some v) :v.foreign=true:=by
  cases d with
  | fl xs=>simp only [aE.cell?,Option.map_eq_some_iff] at hx;obtain ⟨_,_,rfl⟩:=hx;rfl
  | ns k xs=>simp only [aE.cell?,Option.map_eq_some_iff] at hx;obtain ⟨_,_,rfl⟩:=hx;rfl
  | bs xs=>simp only [aE.cell?,Option.map_eq_some_iff] at hx;obtain ⟨_,_,rfl⟩:=hx;rfl
  | ss xs=>simp only [aE.cell?,Option.map_eq_some_iff] at hx;obtain ⟨_,_,rfl⟩:=hx;rfl
  | vs xs=>exact qA hk x v hx
  | rows k n get =>
    simp only [aE.cell?] at hx
    split at hx
    · cases hx;exact pb (hr _ _).1
    · cases hx
  | cols n cs=>obtain ⟨c,_,_,h⟩:=d7 hx;exact (n6 h).2.1
theorem bm{d:aE}(hr:d.recKept)(hk:d.kept=true)(x:Nat)(v:AV)(hx:d.cell? x=some v) :v.kept=true:=by
  cases d with
  | fl xs=>simp only [aE.cell?,Option.map_eq_some_iff] at hx;obtain ⟨_,_,rfl⟩:=hx;rfl
  | ns k xs=>simp only [aE.cell?,Option.map_eq_some_iff] at hx;obtain ⟨_,_,rfl⟩:=hx;rfl
  | bs xs=>simp only [aE.cell?,Option.map_eq_some_iff] at hx;obtain ⟨_,_,rfl⟩:=hx;rfl
  | ss xs=>simp only [aE.cell?,Option.map_eq_some_iff] at hx;obtain ⟨_,_,rfl⟩:=hx;rfl
  | vs xs=>exact qz hk x v hx
  | rows k n get =>
    simp only [aE.cell?] at hx
    split at hx
    · cases hx;exact (hr _ _).1
    · cases hx
  | cols n cs=>obtain ⟨c,_,_,h⟩:=d7 hx;exact (n6 h).1
def HU(ρ τ:ag)(w:World) :Prop:=∀ bl,bl<w.heap.size→(∀ j,¬ ρ.own j bl)→∀ j,¬ τ.own j bl
theorem fX{O:Nat→Nat→Prop}{bl:Nat}(h:∀ j,¬ O j bl) :∀ (l:Lv) (i:Nat),l.av O i bl
  | .free,i=>fun j _=>h j
  | .lent,i=>h i
  | .up l,i=>⟨h i,fX h l (i+1)⟩
theorem fk{ρ τ:ag}{w:World}(hN:HU ρ τ w){v:AV}{u:Value}(h:VR ρ w v u) :v.kept=true→VR τ w v u:=by
  have av:∀ {l:Lv} {bl:Nat},bl<w.heap.size→l.isFree=true→ρ.avoid l bl→τ.avoid l bl:=fun hb hl h =>
    fX (hN _ hb fun j=>jQ (O:=ρ.own) hl h j (Nat.zero_le _)) _ _
  induction h using VR.rec (motive_2:=fun l c _=>cQ l=true→c7 τ w l c) with
  | int k n=>exact fun _=>.int k n
  | bool kn b=>exact fun _=>.bool kn b
  | flt ex x y h=>exact fun _=>.flt ex x y h
  | str s=>exact fun _=>.str s
  | nptr=>exact fun _=>.nptr
  | ptr b k i j hb=>intro hk;simp [AV.kept] at hk
  | iptr bw d k i j bl o u ha hb hc hv hr hk hg ih =>
    intro hkept
    have hf:bw.isFree=true:=by simpa [AV.kept] using hkept
    exact .iptr bw d k i j bl o u (av hb hf ha) hb hc (fun x v hx=>ih x v hx (bm hr (hk hf) x v hx)) hr hk hg
  | nsl=>exact fun _=>.nsl
  | esl a=>exact fun _=>.esl a
  | zsl a c=>exact fun _=>.zsl a c
  | nan n h=>exact fun _=>.nan n h
  | sl b k es i len cap cap' hb hcap hl c t hh hs=>intro hk;simp [AV.kept] at hk
  | slEnd b k es i a=>intro hk;simp [AV.kept] at hk
  | imm bw d k es i len cap bl o u ha hb hc hv hl hr hk hg ih =>
    intro hkept
    have hf:bw.isFree=true:=by simpa [AV.kept] using hkept
    exact .imm bw d k es i len cap bl o u (av hb hf ha) hb hc (fun x v hx=>ih x v hx (bm hr (hk hf) x v hx)) hl hr hk hg
  | immEnd bw d k es i cap a hr hk hg=>exact fun _=>.immEnd bw d k es i cap a hr hk hg
  | fn f l1 l2 c1 c2 h1 h2 i1 i2=>intro hk;simp only [AV.kept,Bool.and_eq_true] at hk;exact .fn f l1 l2 c1 c2 (i1 hk.1) (i2 hk.2)
  | nfn=>exact fun _=>.nfn
  | agg l c h ih=>intro hk;exact .agg l c (ih hk)
  | tup l c h ih=>intro hk;exact .tup l c (ih hk)
  | iface t v u h ih=>intro hk;exact .iface t v u (ih hk)
  | niface=>exact fun _=>.niface
  | any u=>exact fun _=>.any u
  | nil=>exact c7.nil
  | cons v u l c h t i1 i2=>rename_i hk;simp only [cQ,Bool.and_eq_true] at hk;exact c7.cons v u l c (i1 hk.1) (i2 hk.2)
mutual
def yC (σ:Nat→Option Nat):AV→AV
  | .ptr b w i j=>match σ b with | some c=>.ptr c w i j | none=>.any
  | .sl b w es i len cap=>match σ b with | some c=>.sl c w es i len cap | none=>.any
  | .iptr l d w i j=>.iptr (.up l) (Bs σ d) w i j
  | .imm l d w es i len=>.imm (.up l) (Bs σ d) w es i len
  | .fn f l1 l2=>.fn f (tX σ l1) (tX σ l2)
  | .agg l=>.agg (tX σ l)
  | .tup l=>.tup (tX σ l)
  | .iface t v=>.iface t (yC σ v)
  | v=>v
def tX (σ:Nat→Option Nat):List AV→List AV
  | []=>[]
  | v::l=>yC σ v::tX σ l
def Bs (σ:Nat→Option Nat):aE→aE
  | .vs l=>.vs (tX σ l)
  | d=>d
end
mutual
theorem Fe (σ:Nat→Option Nat):∀ (v:AV),v.kept=true→(yC σ v).kept=true
  | .fn _ l1 l2,h=>by simp only [AV.kept,yC,Bool.and_eq_true] at h ⊢;exact ⟨mp σ l1 h.1,mp σ l2 h.2⟩
  | .agg l,h=>by simp only [AV.kept,yC] at h ⊢;exact mp σ l h
  | .tup l,h=>by simp only [AV.kept,yC] at h ⊢;exact mp σ l h
  | .iface _ v,h=>by simp only [AV.kept,yC] at h ⊢;exact Fe σ v h
  | .ptr ..,h=>by simp [AV.kept] at h
  | .sl ..,h=>by simp [AV.kept] at h
  | .iptr ..,h=>by simpa [AV.kept,yC,Lv.isFree] using h
  | .imm ..,h=>by simpa [AV.kept,yC,Lv.isFree] using h
  | .int ..,_ | .bool ..,_ | .flt ..,_ | .str _,_ | .nptr,_ | .nsl,_ | .esl,_ | .zsl _,_ | .nan,_ | .nfn,_ | .niface,_ | .any,_=>rfl
theorem mp (σ:Nat→Option Nat):∀ (l:List AV),cQ l=true→cQ (tX σ l)=true
  | [],_=>rfl
  | v::l,h=>by simp only [cQ,tX,Bool.and_eq_true] at h ⊢;exact ⟨Fe σ v h.1,mp σ l h.2⟩
end
mutual
theorem qB (σ:Nat→Option Nat):∀ (v:AV),v.foreign=true→(yC σ v).foreign=true
  | .fn _ l1 l2,h=>by simp only [AV.foreign,yC,Bool.and_eq_true] at h ⊢;exact ⟨gT σ l1 h.1,gT σ l2 h.2⟩
  | .agg l,h=>by simp only [AV.foreign,yC] at h ⊢;exact gT σ l h
  | .tup l,h=>by simp only [AV.foreign,yC] at h ⊢;exact gT σ l h
  | .iface _ v,h=>by simp only [AV.foreign,yC] at h ⊢;exact qB σ v h
  | .ptr ..,h=>by simp [AV.foreign] at h
  | .sl ..,h=>by simp [AV.foreign] at h
  | .iptr ..,h=>rfl
  | .imm ..,h=>rfl
  | .int ..,_ | .bool ..,_ | .flt ..,_ | .str _,_ | .nptr,_ | .nsl,_ | .esl,_ | .zsl _,_ | .nan,_ | .nfn,_ | .niface,_ | .any,_=>rfl
theorem gT (σ:Nat→Option Nat):∀ (l:List AV),bt l=true→bt (tX σ l)=true
  | [],_=>rfl
  | v::l,h=>by simp only [bt,tX,Bool.and_eq_true] at h ⊢;exact ⟨qB σ v h.1,gT σ l h.2⟩
end
theorem wk{σ:Nat→Option Nat}{d:aE}(h:d.kept=true) :(Bs σ d).kept=true:=by
  cases d<;>first | exact h | exact mp σ _ h
theorem pc{σ:Nat→Option Nat}{d:aE}(h:d.foreign=true) :(Bs σ d).foreign=true:=by
  cases d<;>first | exact h | exact gT σ _ h
theorem uV{σ:Nat→Option Nat}{d:aE}(h:d.recKept) :(Bs σ d).recKept:=by
  cases d<;>first | exact h | trivial
theorem Ff(σ:Nat→Option Nat) :∀ (l:List AV) (x:Nat),(tX σ l)[x]? = (l[x]?).map (yC σ)
  | [],x=>by simp [tX]
  | v::l,0=>by simp [tX]
  | v::l,x+1=>by simp [tX,Ff σ l x]
theorem mq{σ:Nat→Option Nat}{d:aE}(hr:d.recKept){x:Nat}{v:AV}(h:(Bs σ d).cell? x=some v) :∃ v0,d.cell? x=some v0∧(v=yC σ v0∨(v=v0∧v0.kept=true)):=by
  cases d with
  | vs l =>
    simp only [Bs,aE.cell?,Ff,Option.map_eq_some_iff] at h
    obtain ⟨v0,h1,rfl⟩:=h
    exact ⟨v0,h1,.inl rfl⟩
  | fl xs=>exact ⟨v,h,.inr ⟨rfl,bm hr rfl x v h⟩⟩
  | ns k xs=>exact ⟨v,h,.inr ⟨rfl,bm hr rfl x v h⟩⟩
  | bs xs=>exact ⟨v,h,.inr ⟨rfl,bm hr rfl x v h⟩⟩
  | ss xs=>exact ⟨v,h,.inr ⟨rfl,bm hr rfl x v h⟩⟩
  | rows k n g=>exact ⟨v,h,.inr ⟨rfl,bm hr rfl x v h⟩⟩
  | cols n cs=>exact ⟨v,h,.inr ⟨rfl,bm hr rfl x v h⟩⟩
structure Fg (ρ τ:ag) (w:World) (h:bI) (σ:Nat→Option Nat):Prop where
  id:∀ b c,σ b=some c→ρ.ok b→τ.ok c∧τ.at_ c=ρ.at_ b
  up:∀ l bl,bl<w.heap.size→ρ.avoid l bl→τ.avoid (.up l) bl
  nobody:HU ρ τ w
  ro:∀ b d,aR h b=some d→ρ.ok b→σ b=none→¬ τ.live (ρ.at_ b)
theorem ij{ρ τ:ag}{w:World}{h:bI}{σ:Nat→Option Nat}(L:Fg ρ τ w h σ){v:AV}{u:Value}(hv:VR ρ w v u) :VR τ w (yC σ v) u:=by
  induction hv using VR.rec (motive_2:=fun l c _=>c7 τ w (tX σ l) c) with
  | int k n=>exact .int k n
  | bool kn b=>exact .bool kn b
  | flt ex x y h=>exact .flt ex x y h
  | str s=>exact .str s
  | nptr=>exact .nptr
  | ptr b k i j hb =>
    simp only [yC]
    split
    · rename_i c hc
      obtain ⟨h1,h2⟩:=L.id b c hc hb
      rw [←h2];exact .ptr _ _ _ _ h1
    · exact .any _
  | iptr bw d k i j bl o u ha hb hc hv hr hk hg ih =>
    simp only [yC]
    refine .iptr _ _ k i j bl o u (L.up bw bl hb ha) hb (fun x v hx=>?_) (fun x v hx=>?_) (uV hr) (fun e=>wk (hk e)) (pc hg)
    · obtain ⟨v0,h1,_⟩:=mq hr hx;exact hc x v0 h1
    · obtain ⟨v0,h1,h2⟩:=mq hr hx
      rcases h2 with rfl | ⟨rfl,h3⟩
      · exact ih x v0 h1
      · exact fk L.nobody (hv x v h1) h3
  | nsl=>exact .nsl
  | esl a=>exact .esl a
  | zsl a c=>exact .zsl a c
  | nan n h=>exact .nan n h
  | sl b k es i len cap cap' hb hcap hl c t hh hs =>
    simp only [yC]
    split
    · rename_i c' hc
      obtain ⟨h1,h2⟩:=L.id b c' hc hb
      rw [←h2] at hh ⊢;exact .sl _ _ _ _ _ _ _ h1 hcap hl c t hh hs
    · exact .any _
  | slEnd b k es i a =>
    simp only [yC]
    split
    · exact .slEnd _ _ _ _ _
    · exact .any _
  | imm bw d k es i len cap bl o u ha hb hc hv hl hr hk hg ih =>
    simp only [yC]
    refine .imm _ _ k es i len cap bl o u (L.up bw bl hb ha) hb (fun x v hx=>?_) (fun x v hx=>?_) hl (uV hr) (fun e=>wk (hk e)) (pc hg)
    · obtain ⟨v0,h1,_⟩:=mq hr hx;exact hc x v0 h1
    · obtain ⟨v0,h1,h2⟩:=mq hr hx
      rcases h2 with rfl | ⟨rfl,h3⟩
      · exact ih x v0 h1
      · exact fk L.nobody (hv x v h1) h3
  | immEnd bw d k es i cap a hr hk hg=>exact .immEnd _ _ k es i cap a (uV hr) (fun e=>wk (hk e)) (pc hg)
  | fn f l1 l2 c1 c2 h1 h2 i1 i2=>exact .fn f _ _ c1 c2 i1 i2
  | nfn=>exact .nfn
  | agg l c h ih=>exact .agg _ c ih
  | tup l c h ih=>exact .tup _ c ih
  | iface t v u h ih=>exact .iface t _ u ih
  | niface=>exact .niface
  | any u=>exact .any u
  | nil=>exact c7.nil
  | cons v u l c h t i1 i2=>exact c7.cons _ u _ c i1 i2
def Nw:Nat→Option Nat:=fun _=>none
mutual
def wl (σ:Nat→Option Nat) (g:Nat→Option aE):Nat→AV→AV×List Nat
  | 0,_=>(.any,[])
  | n + 1, v =>
    match v with
    | .ptr b w i j=>match σ b with
      | some _=>(.any,[])
      | none=>match g b with
        | some d=>let r:=tY σ g n d;(.iptr .lent r.1 w i j,b::r.2)
        | none=>(.any,[b])
    | .sl b w es i len _=>match σ b with
      | some _=>(.any,[])
      | none=>match g b with
        | some d=>let r:=tY σ g n d;(.imm .lent r.1 w es i len,b::r.2)
        | none=>(.any,[b])
    | .fn f l1 l2=>let r1:=uW σ g n l1;let r2:=uW σ g n l2;(.fn f r1.1 r2.1,r1.2++r2.2)
    | .agg l=>let r:=uW σ g n l;(.agg r.1,r.2)
    | .tup l=>let r:=uW σ g n l;(.tup r.1,r.2)
    | .iface t v=>let r:=wl σ g n v;(.iface t r.1,r.2)
    | v=>(yC Nw v,[])
def uW (σ:Nat→Option Nat) (g:Nat→Option aE):Nat→List AV→List AV×List Nat
  | 0,l=>(l.map fun _=>.any,[])
  | n+1,l =>
    match l with
    | []=>([],[])
    | v::l=>let r:=wl σ g n v;let s:=uW σ g n l;(r.1::s.1,r.2++s.2)
def tY (σ:Nat→Option Nat) (g:Nat→Option aE):Nat→aE→aE×List Nat
  | 0,d=>(.vs [],[])
  | n+1,d =>
    match d with
    | .vs l=>let r:=uW σ g n l;(.vs r.1,r.2)
    | d=>(d,[])
end
mutual
theorem w8 (σ:Nat→Option Nat) (g:Nat→Option aE):∀ (n:Nat) (v:AV),(wl σ g n v).1.foreign=true
  | 0,v=>rfl
  | n+1,v=>by
    cases v<;>simp only [wl]<;>first
      | (split;rfl;split<;>rfl)
      | (simp only [AV.foreign,Bool.and_eq_true];exact ⟨jf σ g n _,jf σ g n _⟩)
      | (simp only [AV.foreign];exact jf σ g n _)
      | (simp only [AV.foreign];exact w8 σ g n _)
      | exact qB _ _ rfl
theorem jf (σ:Nat→Option Nat) (g:Nat→Option aE):∀ (n:Nat) (l:List AV),bt (uW σ g n l).1=true
  | 0,l=>by
    simp only [uW]
    induction l with
    | nil=>rfl
    | cons a l ih=>simp only [List.map_cons,bt,AV.foreign,Bool.true_and];exact ih
  | n+1,[]=>rfl
  | n+1,v::l=>by simp only [uW,bt,Bool.and_eq_true];exact ⟨w8 σ g n v,jf σ g n l⟩
end
theorem pd(σ:Nat→Option Nat)(g:Nat→Option aE)(n:Nat)(d:aE) :(tY σ g n d).1.foreign=true:=by
  cases n with
  | zero=>rfl
  | succ n=>cases d<;>simp only [tY,aE.foreign];exact jf σ g n _
theorem DD(σ:Nat→Option Nat)(g:Nat→Option aE)(n:Nat)(d:aE)(h:d.recKept) :(tY σ g n d).1.recKept:=by
  cases n with
  | zero=>trivial
  | succ n=>cases d<;>first | exact h | trivial
theorem dR{ρ τ:ag}{w:World}{h:bI}{σ:Nat→Option Nat}(L:Fg ρ τ w h σ) :Fg ρ τ w [] Nw :=
  ⟨fun b c q=>(by cases q),L.up,L.nobody,fun b d q=>(by cases q)⟩
mutual
theorem DE {ρ τ:ag} {w:World} {h:bI} {m:Nat} {σ:Nat→Option Nat} (hh:HR ρ w h m) (L:Fg ρ τ w h σ):∀ (n:Nat) {v:AV} {u:Value},VR ρ w v u→VR τ w (wl σ (aR h) n v).1 u
  | 0,v,u,hv=>.any u
  | n + 1, v, u, hv => by
    have content:∀ (b:Nat) (d:aE),aR h b=some d→ρ.ok b→∀ x v,(tY σ (aR h) n d).1.cell? x=some v→w.cell? ⟨ρ.at_ b,0+x,none⟩=some ((w.cell? ⟨ρ.at_ b,x,none⟩).getD undef)∧VR τ w v ((w.cell? ⟨ρ.at_ b,x,none⟩).getD undef):=by
      intro b d hd hok x v hx
      obtain ⟨_,hrk,c,t,hc,hcv⟩:=hh.real hd hok
      obtain ⟨u,q1,q2⟩:=HV hh L n (ρ.at_ b) (fun x v hx=>by
        obtain ⟨u,k1,k2⟩:=hcv x v hx
        exact ⟨u,by simp [World.cell?,hc,k1],k2⟩) hrk x v hx
      rw [Nat.zero_add,q1];exact ⟨rfl,q2⟩
    cases v with
    | ptr b k i j =>
      simp only [wl]
      split
      · exact .any _
      · rename_i hσ
        split
        · rename_i d hd
          cases hv with | ptr _ _ _ _ hb =>
          have:=VR.iptr (ρ:=τ) (w:=w) .lent (tY σ (aR h) n d).1 k i j (ρ.at_ b) 0 (fun x=>(w.cell? ⟨ρ.at_ b,x,none⟩).getD undef) (L.ro b d hd hb hσ) (hh.liveLt _ (hh.real hd hb).1)
            (fun x v hx=>(content b d hd hb x v hx).1) (fun x v hx=>(content b d hd hb x v hx).2) (DD _ _ _ _ (hh.rk hd)) (fun e=>by cases e) (pd _ _ _ _)
          simpa using this
        · exact .any _
    | sl b k es i len cap =>
      simp only [wl]
      split
      · exact .any _
      · rename_i hσ
        split
        · rename_i d hd
          cases hv with
          | sl _ _ _ _ _ _ cap' hb hcap hl' c t hh' hs =>
            have:=VR.imm (ρ:=τ) (w:=w) .lent (tY σ (aR h) n d).1 k es i len cap' (ρ.at_ b) 0 (fun x=>(w.cell? ⟨ρ.at_ b,x,none⟩).getD undef) (L.ro b d hd hb hσ) (hh.liveLt _ (hh.real hd hb).1)
              (fun x v hx=>(content b d hd hb x v hx).1) (fun x v hx=>(content b d hd hb x v hx).2) (by omega) (DD _ _ _ _ (hh.rk hd)) (fun e=>by cases e) (pd _ _ _ _)
            simpa using this
          | slEnd=>exact .immEnd _ _ _ _ _ _ _ (DD _ _ _ _ (hh.rk hd)) (fun e=>by cases e) (pd _ _ _ _)
        · exact .any _
    | fn f l1 l2=>cases hv with | fn _ _ _ _ _ h1 h2=>exact .fn _ _ _ _ _ (pe hh L n h1) (pe hh L n h2)
    | agg l=>cases hv with | agg _ _ h1=>exact .agg _ _ (pe hh L n h1)
    | tup l=>cases hv with | tup _ _ h1=>exact .tup _ _ (pe hh L n h1)
    | iface t v=>cases hv with | iface _ _ _ h1=>exact .iface _ _ _ (DE hh L n h1)
    | int=>exact ij (dR L) hv
    | bool=>exact ij (dR L) hv
    | flt=>exact ij (dR L) hv
    | str=>exact ij (dR L) hv
    | nptr=>exact ij (dR L) hv
    | iptr=>exact ij (dR L) hv
    | nsl=>exact ij (dR L) hv
    | esl=>exact ij (dR L) hv
    | zsl=>exact ij (dR L) hv
    | nan=>exact ij (dR L) hv
    | imm=>exact ij (dR L) hv
    | nfn=>exact ij (dR L) hv
    | niface=>exact ij (dR L) hv
    | any=>exact ij (dR L) hv
theorem pe {ρ τ:ag} {w:World} {h:bI} {m:Nat} {σ:Nat→Option Nat} (hh:HR ρ w h m) (L:Fg ρ τ w h σ):∀ (n:Nat) {l:List AV} {c:List Value},c7 ρ w l c→c7 τ w (uW σ (aR h) n l).1 c
  | 0,[],c,hv=>by cases hv;exact .nil
  | 0,v::l,c,hv=>by
    cases hv with | cons _ u _ c' h1 h2 =>
    have:=pe hh L 0 h2
    exact .cons _ _ _ _ (.any u) this
  | n+1,[],c,hv=>by cases hv;exact .nil
  | n+1,v::l,c,hv=>by
    cases hv with | cons _ u _ c' h1 h2=>exact .cons _ _ _ _ (DE hh L n h1) (pe hh L n h2)
theorem HV {ρ τ:ag} {w:World} {h:bI} {m:Nat} {σ:Nat→Option Nat} (hh:HR ρ w h m) (L:Fg ρ τ w h σ):∀ (n:Nat) (bl:Nat) {d:aE},(∀ x v,d.cell? x=some v→∃ u,w.cell? ⟨bl,x,none⟩=some u∧VR ρ w v u)→d.recKept →
    ∀ x v,(tY σ (aR h) n d).1.cell? x=some v→∃ u,w.cell? ⟨bl,x,none⟩=some u∧VR τ w v u
  | 0,bl,d,hc,hr,x,v,hx=>by simp [tY,aE.cell?] at hx
  | n + 1, bl, d, hc, hr, x, v, hx => by
    cases d with
    | vs l =>
      simp only [tY,aE.cell?] at hx
      have hus:c7 ρ w l ((List.range l.length).map fun x=>(w.cell? ⟨bl,x,none⟩).getD undef):=by
        refine mD (by simp) fun y v u q1 q2=>?_
        obtain ⟨u',k1,k2⟩:=hc y v q1
        have hlt:y<l.length:=(List.getElem?_eq_some_iff.1 q1).1
        rw [List.getElem?_map,List.getElem?_range hlt] at q2
        simp [k1] at q2;subst q2;exact k2
      have hr2:=pe hh L n hus
      obtain ⟨u,q1,q2⟩:=hr2.get x v hx
      rw [List.getElem?_map] at q1
      have hlt:x<l.length:=by
        rcases Nat.lt_or_ge x l.length with q | q
        · exact q
        · rw [List.getElem?_eq_none (by simpa using q)] at q1;cases q1
      rw [List.getElem?_range hlt] at q1
      obtain ⟨u',k1,_⟩:=hc x (l[x]) (List.getElem?_eq_getElem hlt)
      simp [k1] at q1;subst q1
      exact ⟨u',k1,q2⟩
    | fl xs=>obtain ⟨u,q1,q2⟩:=hc x v hx;exact ⟨u,q1,fk L.nobody q2 (bm (d:=.fl xs) hr rfl x v hx)⟩
    | ns k xs=>obtain ⟨u,q1,q2⟩:=hc x v hx;exact ⟨u,q1,fk L.nobody q2 (bm (d:=.ns k xs) hr rfl x v hx)⟩
    | bs xs=>obtain ⟨u,q1,q2⟩:=hc x v hx;exact ⟨u,q1,fk L.nobody q2 (bm (d:=.bs xs) hr rfl x v hx)⟩
    | ss xs=>obtain ⟨u,q1,q2⟩:=hc x v hx;exact ⟨u,q1,fk L.nobody q2 (bm (d:=.ss xs) hr rfl x v hx)⟩
    | rows k m get=>obtain ⟨u,q1,q2⟩:=hc x v hx;exact ⟨u,q1,fk L.nobody q2 (bm (d:=.rows k m get) hr rfl x v hx)⟩
    | cols k cs=>obtain ⟨u,q1,q2⟩:=hc x v hx;exact ⟨u,q1,fk L.nobody q2 (bm (d:=.cols k cs) hr rfl x v hx)⟩
end
def c8:Nat→List (Option aE)→bI
  | _,[]=>[]
  | i,some d::l=>(i,d)::c8 (i+1) l
  | i,none::l=>c8 (i+1) l
theorem pf:∀ (l:List (Option aE)) (i x:Nat),aR (c8 i l) x=if i≤x then (l[x-i]?).join else none
  | [],i,x=>by simp [c8,aR]
  | some d::l,i,x=>by
    simp only [c8,aR]
    by_cases h:i=x
    · subst h;simp [jS]
    · rw [mw h,cond_false,pf l (i+1) x]
      by_cases hx:i≤x
      · have e:x-i=(x-(i+1))+1:=by omega
        rw [if_pos (by omega),if_pos hx,e];simp
      · rw [if_neg (by omega),if_neg hx]
  | none::l,i,x=>by
    simp only [c8]
    rw [pf l (i+1) x]
    by_cases hx:i≤x
    · rw [if_pos hx]
      by_cases h:i=x
      · subst h;rw [if_neg (by omega)];simp
      · have e:x-i=(x-(i+1))+1:=by omega
        rw [if_pos (by omega),e];simp
    · rw [if_neg (by omega),if_neg hx]
theorem tj(l:List (Option aE))(x:Nat) :aR (c8 0 l) x=(l[x]?).join:=by
  rw [pf];simp
theorem fY{l:List (Option aE)}{x:Nat}{d:aE}(h:aR (c8 0 l) x=some d) :l[x]? = some (some d):=by
  rw [tj] at h
  cases q:l[x]? with
  | none=>rw [q] at h;cases h
  | some o=>rw [q] at h;simp at h;rw [h]
structure i6 (ρ:ag) (w:World) (lent:List aE):Prop where
  heap:HR ρ w (c8 0 (lent.map some)) lent.length
  only:∀ bl,ρ.live bl→∃ i,ρ.ok i∧ρ.at_ i=bl
structure gS where
  v:AV
  own:List (Option aE)
def gS.Holds(ρ:ag)(w w':World)(k:Nat)(r:gS)(u:Value) :Prop :=
  ∃ ρ',jb ρ ρ' w∧(∀ i,i<k→ρ'.ok i→ρ.ok i)∧HR ρ' w' (c8 0 r.own) r.own.length∧VR ρ' w' r.v u
def wm(ρ:ag)(bs:List Nat)(bl:Nat) :Prop:=∃ b,b∈bs∧ρ.ok b∧bl=ρ.at_ b
def ag.lend(ρ:ag)(bs:List Nat) :ag :=
  { at_:=fun i=>ρ.at_ ((bs[i]?).getD 0),ok:=fun i=>∃ b,bs[i]? = some b∧ρ.ok b,live:=wm ρ bs,
    out:=fun j bl=>match j with
      | 0=>ρ.live bl∧¬ wm ρ bs bl
      | j+1=>ρ.out j bl }
def ii:List Nat→Nat→Nat→Option Nat
  | [],_,_=>none
  | k::l,i,b=>bif Nat.beq k b then some i else ii l (i+1) b
theorem sz:∀ {l:List Nat} {i b c:Nat},ii l i b=some c→i≤c∧l[c-i]? = some b
  | [],i,b,c,h=>by cases h
  | k::l,i,b,c,h=>by
    simp only [ii] at h
    cases e:Nat.beq k b with
    | true=>rw [e] at h;simp only [cond_true,Option.some.injEq] at h;subst h;have:=Nat.eq_of_beq_eq_true e;subst this;simp
    | false =>
      rw [e] at h;simp only [cond_false] at h
      obtain ⟨h1,h2⟩:=sz h
      refine ⟨by omega,?_⟩
      have:c-i=(c-(i+1))+1:=by omega
      rw [this];simpa using h2
theorem y5:∀ {l:List Nat} {i b:Nat},ii l i b=none→b ∉ l
  | [],i,b,_,h=>by cases h
  | k::l,i,b,h,hm=>by
    simp only [ii] at h
    cases e:Nat.beq k b with
    | true=>rw [e] at h;cases h
    | false =>
      rw [e] at h
      rcases List.mem_cons.1 hm with rfl | q
      · rw [jS] at e;cases e
      · exact y5 h q
structure Fh (h:bI) (bs:List Nat):Prop where
  nodup:∀ {i j b:Nat},bs[i]? = some b→bs[j]? = some b→i=j
  there:∀ b,b∈bs→∃ d,aR h b=some d
theorem mr{ρ:ag}{w:World}{h:bI}{n:Nat}{bs:List Nat}(hh:HR ρ w h n)(hb:Fh h bs){bl:Nat}(q:wm ρ bs bl) :ρ.live bl:=by
  obtain ⟨b,h1,h2,rfl⟩:=q
  obtain ⟨d,hd⟩:=hb.there b h1
  exact (hh.real hd h2).1
theorem JM{ρ:ag}{w:World}{h:bI}{n:Nat}{bs:List Nat}(hh:HR ρ w h n)(hb:Fh h bs) :Fg ρ (ρ.lend bs) w h (ii bs 0):=by
  refine ⟨fun b c hc hok=>?_,fun l bl _ ha=>?_,fun bl _ hN j=>?_,fun b d hd hok hσ=>?_⟩
  · obtain ⟨_,h2⟩:=sz hc
    rw [Nat.sub_zero] at h2
    exact ⟨⟨b,h2,hok⟩,by simp [ag.lend,h2]⟩
  · refine ⟨fun q=>jR ha (mr hh hb q),?_⟩
    refine o7 (d:=1) (i:=0) (fun j _ q=>?_) ha
    cases j with
    | zero=>exact q.1
    | succ j=>exact q
  · cases j with
    | zero=>exact fun q=>hN 0 (mr hh hb q)
    | succ j =>
      cases j with
      | zero=>exact fun q=>hN 0 q.1
      | succ j=>exact fun q=>hN (j+1) q
  · rintro ⟨b',h1,h2,h3⟩
    obtain ⟨d',hd'⟩:=hb.there b' h1
    have:=hh.inj b b' d d' hd hd' hok h2 h3
    subst this
    exact y5 hσ h1
def ld(σ:Nat→Option Nat)(g:Nat→Option aE) :List Nat→List aE
  | []=>[]
  | b::l=>(match g b with | some d=>Bs σ d | none=>.vs [])::ld σ g l
theorem kp(σ:Nat→Option Nat)(g:Nat→Option aE) :∀ l,(ld σ g l).length=l.length
  | []=>rfl
  | b::l=>by simp [ld,kp σ g l]
theorem y6(σ:Nat→Option Nat)(g:Nat→Option aE) :∀ (l:List Nat) (i:Nat) (d:aE),(ld σ g l)[i]? = some d→∃ b,l[i]? = some b∧d=(match g b with | some d=>Bs σ d | none=>.vs [])
  | [],i,d,h=>by simp [ld] at h
  | b::l,0,d,h=>by simp [ld] at h;exact ⟨b,rfl,h.symm⟩
  | b::l,i+1,d,h=>y6 σ g l i d (by simpa [ld] using h)
theorem HW{ρ:ag}{w:World}{h:bI}{n:Nat}{bs:List Nat}(hh:HR ρ w h n)(hb:Fh h bs) :i6 (ρ.lend bs) w (ld (ii bs 0) (aR h) bs):=by
  have L:=JM hh hb
  have atE:∀ {i b:Nat},bs[i]? = some b→(ρ.lend bs).at_ i=ρ.at_ b:=fun q=>by simp [ag.lend,q]
  refine ⟨⟨fun i d hi=>?_,fun i j d e h1 h2 ok1 ok2 he=>?_,fun bl q j=>?_,fun bl q=>hh.liveLt bl (mr hh hb q),fun j bl q=>?_,fun i q=>?_,fun x hx=>fk L.nobody (hh.rom x hx) rfl⟩,fun bl q=>?_⟩
  · have hi:=fY hi
    rw [List.getElem?_map,Option.map_eq_some_iff] at hi
    obtain ⟨d',q1,q2⟩:=hi
    simp only [Option.some.injEq] at q2;subst q2
    obtain ⟨b,q3,q4⟩:=y6 _ _ _ _ _ q1
    obtain ⟨d0,hd0⟩:=hb.there b (List.mem_of_getElem? q3)
    rw [hd0] at q4
    simp only at q4;subst q4
    have hlt:i<bs.length:=(List.getElem?_eq_some_iff.1 q3).1
    rcases hh.cell b d0 hd0 with ⟨k1,k2,k3⟩ | ⟨k1,k2,k3,k4⟩
    · refine .inl ⟨⟨b,q3,k1⟩,⟨b,List.mem_of_getElem? q3,k1,atE q3⟩,?_⟩
      rw [atE q3]
      obtain ⟨hr,c,t,r1,r2⟩:=k3
      refine ⟨uV hr,c,t,r1,fun x v hx=>?_⟩
      obtain ⟨v0,s1,s2⟩:=mq hr hx
      obtain ⟨u,t1,t2⟩:=r2 x v0 s1
      refine ⟨u,t1,?_⟩
      rcases s2 with rfl | ⟨rfl,s3⟩
      · exact ij L t2
      · exact fk L.nobody t2 s3
    · refine .inr ⟨?_,by rw [kp];exact hlt,uV k3,fun x=>?_⟩
      · rintro ⟨b',q5,q6⟩
        rw [q3] at q5;cases q5
        exact k1 q6
      · cases hc:(Bs (ii bs 0) d0).cell? x with
        | none=>rfl
        | some v=>obtain ⟨v0,s1,_⟩:=mq k3 hc;rw [k4 x] at s1;cases s1
  · obtain ⟨b,r1,r2⟩:=ok1
    obtain ⟨b',r3,r4⟩:=ok2
    rw [atE r1,atE r3] at he
    obtain ⟨d1,k1⟩:=hb.there b (List.mem_of_getElem? r1)
    obtain ⟨d2,k2⟩:=hb.there b' (List.mem_of_getElem? r3)
    have:=hh.inj b b' d1 d2 k1 k2 r2 r4 he
    subst this
    exact hb.nodup r1 r3
  · cases j with
    | zero=>exact fun r=>r.2 q
    | succ j=>exact hh.fresh bl (mr hh hb q) j
  · cases j with
    | zero=>exact hh.liveLt bl q.1
    | succ j=>exact hh.outLt j bl q
  · obtain ⟨b,q1,_⟩:=q
    rw [kp];exact (List.getElem?_eq_some_iff.1 q1).1
  · obtain ⟨b,q1,q2,rfl⟩:=q
    obtain ⟨i,hi⟩:=List.getElem?_of_mem q1
    exact ⟨i,⟨b,hi,q2⟩,atE hi⟩
mutual
def ip (τ:Nat→Nat):AV→AV
  | .ptr b w i j=>.ptr (τ b) w i j
  | .sl b w es i len cap=>.sl (τ b) w es i len cap
  | .iptr (.up l) d w i j=>.iptr l (qj τ d) w i j
  | .iptr .free d w i j=>.iptr .free d w i j
  | .iptr .lent _ _ _ _=>.any
  | .imm (.up l) d w es i len=>.imm l (qj τ d) w es i len
  | .imm .free d w es i len=>.imm .free d w es i len
  | .imm .lent _ _ _ _ _=>.any
  | .fn f l1 l2=>.fn f (mF τ l1) (mF τ l2)
  | .agg l=>.agg (mF τ l)
  | .tup l=>.tup (mF τ l)
  | .iface t v=>.iface t (ip τ v)
  | v=>v
def mF (τ:Nat→Nat):List AV→List AV
  | []=>[]
  | v::l=>ip τ v::mF τ l
def qj (τ:Nat→Nat):aE→aE
  | .vs l=>.vs (mF τ l)
  | d=>d
end
mutual
theorem y7 (τ:Nat→Nat):∀ (v:AV),v.kept=true→(ip τ v).kept=true
  | .fn _ l1 l2,h=>by simp only [AV.kept,ip,Bool.and_eq_true] at h ⊢;exact ⟨jW τ l1 h.1,jW τ l2 h.2⟩
  | .agg l,h=>by simp only [AV.kept,ip] at h ⊢;exact jW τ l h
  | .tup l,h=>by simp only [AV.kept,ip] at h ⊢;exact jW τ l h
  | .iface _ v,h=>by simp only [AV.kept,ip] at h ⊢;exact y7 τ v h
  | .ptr ..,h=>by simp [AV.kept] at h
  | .sl ..,h=>by simp [AV.kept] at h
  | .iptr .free ..,h=>rfl
  | .iptr .lent ..,h=>rfl
  | .iptr (.up l) ..,h=>by simpa [AV.kept,ip,Lv.isFree] using h
  | .imm .free ..,h=>rfl
  | .imm .lent ..,h=>rfl
  | .imm (.up l) ..,h=>by simpa [AV.kept,ip,Lv.isFree] using h
  | .int ..,_ | .bool ..,_ | .flt ..,_ | .str _,_ | .nptr,_ | .nsl,_ | .esl,_ | .zsl _,_ | .nan,_ | .nfn,_ | .niface,_ | .any,_=>rfl
theorem jW (τ:Nat→Nat):∀ (l:List AV),cQ l=true→cQ (mF τ l)=true
  | [],_=>rfl
  | v::l,h=>by simp only [cQ,mF,Bool.and_eq_true] at h ⊢;exact ⟨y7 τ v h.1,jW τ l h.2⟩
end
mutual
theorem tk (τ:Nat→Nat):∀ (v:AV),v.foreign=true→(ip τ v).foreign=true
  | .fn _ l1 l2,h=>by simp only [AV.foreign,ip,Bool.and_eq_true] at h ⊢;exact ⟨fZ τ l1 h.1,fZ τ l2 h.2⟩
  | .agg l,h=>by simp only [AV.foreign,ip] at h ⊢;exact fZ τ l h
  | .tup l,h=>by simp only [AV.foreign,ip] at h ⊢;exact fZ τ l h
  | .iface _ v,h=>by simp only [AV.foreign,ip] at h ⊢;exact tk τ v h
  | .ptr ..,h=>by simp [AV.foreign] at h
  | .sl ..,h=>by simp [AV.foreign] at h
  | .iptr .free ..,h=>rfl
  | .iptr .lent ..,h=>rfl
  | .iptr (.up l) ..,h=>rfl
  | .imm .free ..,h=>rfl
  | .imm .lent ..,h=>rfl
  | .imm (.up l) ..,h=>rfl
  | .int ..,_ | .bool ..,_ | .flt ..,_ | .str _,_ | .nptr,_ | .nsl,_ | .esl,_ | .zsl _,_ | .nan,_ | .nfn,_ | .niface,_ | .any,_=>rfl
theorem fZ (τ:Nat→Nat):∀ (l:List AV),bt l=true→bt (mF τ l)=true
  | [],_=>rfl
  | v::l,h=>by simp only [bt,mF,Bool.and_eq_true] at h ⊢;exact ⟨tk τ v h.1,fZ τ l h.2⟩
end
theorem tZ{τ:Nat→Nat}{d:aE}(h:d.kept=true) :(qj τ d).kept=true:=by
  cases d<;>first | exact h | exact jW τ _ h
theorem n7{τ:Nat→Nat}{d:aE}(h:d.foreign=true) :(qj τ d).foreign=true:=by
  cases d<;>first | exact h | exact fZ τ _ h
theorem qC{τ:Nat→Nat}{d:aE}(h:d.recKept) :(qj τ d).recKept:=by
  cases d<;>first | exact h | trivial
theorem Cs(τ:Nat→Nat) :∀ (l:List AV) (x:Nat),(mF τ l)[x]? = (l[x]?).map (ip τ)
  | [],x=>by simp [mF]
  | v::l,0=>by simp [mF]
  | v::l,x+1=>by simp [mF,Cs τ l x]
theorem jX{τ:Nat→Nat}{d:aE}(hr:d.recKept){x:Nat}{v:AV}(h:(qj τ d).cell? x=some v) :∃ v0,d.cell? x=some v0∧(v=ip τ v0∨(v=v0∧v0.kept=true)):=by
  cases d with
  | vs l =>
    simp only [qj,aE.cell?,Cs,Option.map_eq_some_iff] at h
    obtain ⟨v0,h1,rfl⟩:=h
    exact ⟨v0,h1,.inl rfl⟩
  | fl xs=>exact ⟨v,h,.inr ⟨rfl,bm hr rfl x v h⟩⟩
  | ns k xs=>exact ⟨v,h,.inr ⟨rfl,bm hr rfl x v h⟩⟩
  | bs xs=>exact ⟨v,h,.inr ⟨rfl,bm hr rfl x v h⟩⟩
  | ss xs=>exact ⟨v,h,.inr ⟨rfl,bm hr rfl x v h⟩⟩
  | rows k n g=>exact ⟨v,h,.inr ⟨rfl,bm hr rfl x v h⟩⟩
  | cols n cs=>exact ⟨v,h,.inr ⟨rfl,bm hr rfl x v h⟩⟩
structure Oz (ρ' τp:ag) (w:World) (τ:Nat→Nat):Prop where
  id:∀ b,ρ'.ok b→τp.ok (τ b)∧τp.at_ (τ b)=ρ'.at_ b
  down:∀ l bl,bl<w.heap.size→ρ'.avoid (.up l) bl→τp.avoid l bl
  nobody:HU ρ' τp w
theorem JN{ρ' τp:ag}{w:World}{τ:Nat→Nat}(L:Oz ρ' τp w τ){v:AV}{u:Value}(hv:VR ρ' w v u) :VR τp w (ip τ v) u:=by
  induction hv using VR.rec (motive_2:=fun l c _=>c7 τp w (mF τ l) c) with
  | int k n=>exact .int k n
  | bool kn b=>exact .bool kn b
  | flt ex x y h=>exact .flt ex x y h
  | str s=>exact .str s
  | nptr=>exact .nptr
  | ptr b k i j hb =>
    obtain ⟨h1,h2⟩:=L.id b hb
    simp only [ip];rw [←h2];exact .ptr _ _ _ _ h1
  | iptr bw d k i j bl o u ha hb hc hv hr hk hg ih =>
    cases bw with
    | lent=>exact .any _
    | free =>
      exact .iptr _ _ k i j bl o u (fX (L.nobody bl hb fun j=>jQ (O:=ρ'.own) (l:=.free) rfl ha j (Nat.zero_le _)) .free 0) hb hc
        (fun x v hx=>fk L.nobody (hv x v hx) (bm hr (hk rfl) x v hx)) hr hk hg
    | up l =>
      refine .iptr l _ k i j bl o u (L.down l bl hb ha) hb (fun x v hx=>?_) (fun x v hx=>?_) (qC hr) (fun e=>tZ (hk e)) (n7 hg)
      · obtain ⟨v0,h1,_⟩:=jX hr hx;exact hc x v0 h1
      · obtain ⟨v0,h1,h2⟩:=jX hr hx
        rcases h2 with rfl | ⟨rfl,h3⟩
        · exact ih x v0 h1
        · exact fk L.nobody (hv x v h1) h3
  | nsl=>exact .nsl
  | esl a=>exact .esl a
  | zsl a c=>exact .zsl a c
  | nan n h=>exact .nan n h
  | sl b k es i len cap cap' hb hcap hl c t hh hs =>
    obtain ⟨h1,h2⟩:=L.id b hb
    simp only [ip];rw [←h2] at hh ⊢;exact .sl _ _ _ _ _ _ _ h1 hcap hl c t hh hs
  | slEnd b k es i a=>exact .slEnd _ _ _ _ _
  | imm bw d k es i len cap bl o u ha hb hc hv hl hr hk hg ih =>
    cases bw with
    | lent=>exact .any _
    | free =>
      exact .imm _ _ k es i len cap bl o u (fX (L.nobody bl hb fun j=>jQ (O:=ρ'.own) (l:=.free) rfl ha j (Nat.zero_le _)) .free 0) hb hc
        (fun x v hx=>fk L.nobody (hv x v hx) (bm hr (hk rfl) x v hx)) hl hr hk hg
    | up l =>
      refine .imm l _ k es i len cap bl o u (L.down l bl hb ha) hb (fun x v hx=>?_) (fun x v hx=>?_) hl (qC hr) (fun e=>tZ (hk e)) (n7 hg)
      · obtain ⟨v0,h1,_⟩:=jX hr hx;exact hc x v0 h1
      · obtain ⟨v0,h1,h2⟩:=jX hr hx
        rcases h2 with rfl | ⟨rfl,h3⟩
        · exact ih x v0 h1
        · exact fk L.nobody (hv x v h1) h3
  | immEnd bw d k es i cap a hr hk hg =>
    cases bw with
    | lent=>exact .any _
    | free=>exact .immEnd _ _ k es i cap a hr hk hg
    | up l=>exact .immEnd _ _ k es i cap a (qC hr) (fun e=>tZ (hk e)) (n7 hg)
  | fn f l1 l2 c1 c2 h1 h2 i1 i2=>exact .fn f _ _ c1 c2 i1 i2
  | nfn=>exact .nfn
  | agg l c h ih=>exact .agg _ c ih
  | tup l c h ih=>exact .tup _ c ih
  | iface t v u h ih=>exact .iface t _ u ih
  | niface=>exact .niface
  | any u=>exact .any u
  | nil=>exact c7.nil
  | cons v u l c h t i1 i2=>exact c7.cons _ u _ c i1 i2
def kV:Nat:=16
def dn(bs:List Nat)(nid i:Nat) :Nat :=
  match bs[i]? with
  | some b=>b
  | none=>nid+(i-bs.length)
def fG(τ:Nat→Nat) :Nat→List (Option aE)→List (Nat×Option aE)
  | _,[]=>[]
  | i,o::l=>(τ i,o.map (qj τ))::fG τ (i+1) l
theorem w9:∀ (s:List (Nat×Option aE)) (h:bI) (x:Nat),(∀ (i j:Nat) (p q:Nat×Option aE),s[i]? = some p→s[j]? = some q→p.1=q.1→i=j) →
    aR (cq s h) x=match s.find? (fun p=>Nat.beq p.1 x) with | some p=>p.2 | none=>aR h x
  | [],h,x,_=>rfl
  | (b, o) :: s, h, x, hn => by
    have hn':∀ (i j:Nat) (p q:Nat×Option aE),s[i]? = some p→s[j]? = some q→p.1=q.1→i=j:=fun i j p q h1 h2 h3=>by
      have:=hn (i+1) (j+1) p q (by simpa using h1) (by simpa using h2) h3;omega
    have key:aR (cq ((b,o)::s) h) x=aR (cq s (match o with | some d=>dm h b d | none=>qr h b)) x:=by
      cases o<;>rfl
    rw [key,w9 s _ x hn']
    by_cases hb:b=x
    · subst hb
      rw [List.find?_cons_of_pos (by simp [jS])]
      have hno:s.find? (fun p=>Nat.beq p.1 b)=none:=by
        rw [List.find?_eq_none]
        intro p hp hq
        obtain ⟨j,hj⟩:=List.getElem?_of_mem hp
        have:=hn 0 (j+1) (b,o) p rfl (by simpa using hj) (Nat.eq_of_beq_eq_true hq).symm
        omega
      rw [hno]
      cases o with
      | some d=>simp only [cS,if_true]
      | none=>simp only [jT,if_true]
    · rw [List.find?_cons_of_neg (by simp [mw hb])]
      split
      · rfl
      · cases o with
        | some d=>simp only [cS,if_neg hb]
        | none=>simp only [jT,if_neg hb]
theorem ma(τ:Nat→Nat) :∀ (l:List (Option aE)) (i j:Nat),(fG τ i l)[j]? = (l[j]?).map fun o=>(τ (i+j),o.map (qj τ))
  | [],i,j=>by simp [fG]
  | o::l,i,0=>by simp [fG]
  | o::l,i,j+1=>by
    simp only [fG,List.getElem?_cons_succ]
    rw [ma τ l (i+1) j]
    have:i+1+j=i+(j+1):=by omega
    rw [this]
def ag.adopt(ρ ρ':ag)(k nid m:Nat) :ag :=
  { at_:=fun x=>if nid≤x∧x-nid+k<m then ρ'.at_ (x-nid+k) else ρ.at_ x,
    ok:=fun x=>ρ.ok x∨(nid≤x∧x-nid+k<m∧ρ'.ok (x-nid+k)),
    live:=fun bl=>ρ.live bl∨ρ'.live bl,out:=ρ.out }
theorem Lt{ρ ρ':ag}{w w':World}{h:bI}{n nid:Nat}{bs:List Nat}{own:List (Option aE)}(hh:HR ρ w h n)(hbs:Fh h bs)(hid:∀ x,nid≤x→x<nid+kV→¬ ρ.ok x)(hfr:∀ b,b∈bs→b<nid∨nid+kV≤b) 
    (hn:nid+kV≤n) (hm:own.length≤bs.length+kV) (W:fA (ρ.lend bs).live w w') (E:jb (ρ.lend bs) ρ' w) (hbk:∀ i,i<bs.length→ρ'.ok i→(ρ.lend bs).ok i)
    (H:HR ρ' w' (c8 0 own) own.length) {v:AV} {u:Value} (hv:VR ρ' w' v u) :
    jb ρ (ρ.adopt ρ' bs.length nid own.length) w∧fA ρ.live w w'∧HR (ρ.adopt ρ' bs.length nid own.length) w' (cq (fG (dn bs nid) 0 own) h) n ∧
    VR (ρ.adopt ρ' bs.length nid own.length) w' (ip (dn bs nid) v) u∧∀ b,(ρ.adopt ρ' bs.length nid own.length).ok b→ρ.ok b∨(nid≤b∧b<nid+kV):=by
  have W':fA ρ.live w w':=W.mono (fun b _ q=>mr hh hbs q)
  have old:∀ {bl:Nat},bl<w.heap.size→ρ'.live bl→wm ρ bs bl:=fun hb q=>E.new _ hb q
  have newOk:∀ {x:Nat},nid≤x→x-nid+bs.length<own.length→¬ ρ.ok x:=fun h1 h2=>hid _ h1 (by omega)
  have E2:jb ρ (ρ.adopt ρ' bs.length nid own.length) w:=by
    refine ⟨fun x hx=>?_,fun _ q=>.inl q,fun _ q=>.inl q,fun x hx q=>q.elim id (fun q=>mr hh hbs (old hx q)),rfl⟩
    simp only [ag.adopt]
    rw [if_neg (fun q=>newOk q.1 q.2 hx)]

  have name_old:∀ {i b:Nat},bs[i]? = some b→dn bs nid i=b:=fun q=>by simp [dn,q]
  have name_new:∀ {i:Nat},bs.length≤i→dn bs nid i=nid+(i-bs.length):=fun q=>by simp [dn,List.getElem?_eq_none q]
  have name_inj:∀ {i j:Nat},i<own.length→j<own.length→dn bs nid i=dn bs nid j→i=j:=by
    intro i j li lj e
    rcases Nat.lt_or_ge i bs.length with hi | hi<;>rcases Nat.lt_or_ge j bs.length with hj | hj
    · have a:=List.getElem?_eq_getElem hi
      have b:=List.getElem?_eq_getElem hj
      rw [name_old a,name_old b] at e
      rw [e] at a
      exact hbs.nodup a b
    · have a:=List.getElem?_eq_getElem hi
      rw [name_old a,name_new hj] at e
      have:=hfr _ (List.getElem_mem hi);omega
    · have b:=List.getElem?_eq_getElem hj
      rw [name_new hi,name_old b] at e
      have:=hfr _ (List.getElem_mem hj);omega
    · rw [name_new hi,name_new hj] at e;omega
  have lendOk:∀ {i b:Nat},bs[i]? = some b→ρ'.ok i→ρ.ok b:=by
    intro i b q hok
    obtain ⟨b',r1,r2⟩:=hbk i (List.getElem?_eq_some_iff.1 q).1 hok
    rw [q] at r1;cases r1;exact r2
  have atOld:∀ {i b:Nat},bs[i]? = some b→ρ'.ok i→ρ'.at_ i=ρ.at_ b:=by
    intro i b q hok
    have:=E.at_ i ⟨b,q,lendOk q hok⟩
    rw [this];simp [ag.lend,q]
  have idOk:∀ i,ρ'.ok i→(ρ.adopt ρ' bs.length nid own.length).ok (dn bs nid i)∧(ρ.adopt ρ' bs.length nid own.length).at_ (dn bs nid i)=ρ'.at_ i:=by
    intro i hok
    have hlt:=H.lt i hok
    rcases Nat.lt_or_ge i bs.length with hi | hi
    · have a:=List.getElem?_eq_getElem hi
      have k:=lendOk a hok
      rw [name_old a]
      exact ⟨.inl k,by rw [E2.at_ _ k,atOld a hok]⟩
    · rw [name_new hi]
      have e:nid+(i-bs.length)-nid+bs.length=i:=by omega
      refine ⟨.inr ⟨by omega,by omega,by rw [e];exact hok⟩,?_⟩
      simp only [ag.adopt]
      rw [if_pos ⟨by omega,by omega⟩,e]
  have L:Oz ρ' (ρ.adopt ρ' bs.length nid own.length) w' (dn bs nid):=by
    have own0:∀ {bl:Nat},(ρ.adopt ρ' bs.length nid own.length).own 0 bl→ρ'.own 0 bl∨ρ'.own 1 bl:=by
      intro bl q
      rcases q with q | q
      · by_cases hl:wm ρ bs bl
        · exact .inl (E.live bl hl)
        · right;simp only [ag.own];rw [E.out];exact ⟨q,hl⟩
      · exact .inl q
    have ownS:∀ {j bl:Nat},(ρ.adopt ρ' bs.length nid own.length).own (j+1) bl→ρ'.own (j+2) bl:=by
      intro j bl q
      simp only [ag.own,ag.adopt] at q ⊢
      rw [E.out];exact q
    refine ⟨idOk,fun l bl _ ha=>?_,fun bl _ hN j q=>?_⟩
    · obtain ⟨a1,a2⟩:=ha
      have:∀ {l:Lv} {i:Nat},l.av ρ'.own (i+1) bl→l.av (ρ.adopt ρ' bs.length nid own.length).own i bl:=by
        intro l
        have sub:∀ {i:Nat},(ρ.adopt ρ' bs.length nid own.length).own i bl→ρ'.own (i+1) bl:=by
          intro i q
          cases i with
          | zero=>exact (own0 q).resolve_left a1
          | succ i=>exact ownS q
        induction l with
        | free=>intro i h j hj q;exact h (j+1) (by omega) (sub q)
        | lent=>intro i h q;exact h (sub q)
        | up l ih=>intro i h;exact ⟨fun q=>h.1 (sub q),ih h.2⟩
      exact this a2
    · cases j with
      | zero=>rcases own0 q with q | q;exact hN 0 q;exact hN 1 q
      | succ j=>exact hN (j+2) (ownS q)
  refine ⟨E2,W',?_,JN L hv,fun b q=>q.elim .inl (fun q=>.inr ⟨q.1,by omega⟩)⟩

  have nn:∀ (i j:Nat) (p q:Nat×Option aE),(fG (dn bs nid) 0 own)[i]? = some p→(fG (dn bs nid) 0 own)[j]? = some q→p.1=q.1→i=j:=by
    intro i j p q h1 h2 h3
    rw [ma,Option.map_eq_some_iff] at h1 h2
    obtain ⟨_,l1,rfl⟩:=h1
    obtain ⟨_,l2,rfl⟩:=h2
    simp only [Nat.zero_add] at h3
    exact name_inj (List.getElem?_eq_some_iff.1 l1).1 (List.getElem?_eq_some_iff.1 l2).1 h3

  have look:∀ x d,aR (cq (fG (dn bs nid) 0 own) h) x=some d→(∃ i d0,aR (c8 0 own) i=some d0∧x=dn bs nid i∧d=qj (dn bs nid) d0) ∨
      (aR h x=some d∧∀ i,i<own.length→x≠dn bs nid i):=by
    intro x d hx
    rw [w9 _ _ _ nn] at hx
    split at hx
    · rename_i p hp
      have hmem:=List.mem_of_find?_eq_some hp
      have hpx:p.1=x:=Nat.eq_of_beq_eq_true (List.find?_some (p:=fun p:Nat×Option aE=>Nat.beq p.1 x) hp)
      obtain ⟨i,hi⟩:=List.getElem?_of_mem hmem
      rw [ma,Option.map_eq_some_iff] at hi
      obtain ⟨o,h1,rfl⟩:=hi
      simp only [Nat.zero_add] at hpx hx
      rw [Option.map_eq_some_iff] at hx
      obtain ⟨d0,rfl,rfl⟩:=hx
      exact .inl ⟨i,d0,by rw [tj,h1];rfl,hpx.symm,rfl⟩
    · rename_i hp
      rw [List.find?_eq_none] at hp
      refine .inr ⟨hx,fun i hi e=>?_⟩
      have hi':=List.getElem?_eq_getElem hi
      have:(fG (dn bs nid) 0 own)[i]? = some (dn bs nid i,own[i].map (qj (dn bs nid))):=by
        rw [ma,hi'];simp
      exact hp _ (List.mem_of_getElem? this) (by simp only;rw [e];exact jS _)
  have ownLive:∀ {i d0},aR (c8 0 own) i=some d0→ρ'.ok i→ρ'.live (ρ'.at_ i):=fun h1 h2=>(H.real h1 h2).1

  have jO:∀ {x d},aR h x=some d→ρ.ok x→(∀ i,i<own.length→x≠dn bs nid i)→x∈bs→own.length≤bs.length→False∨True:=fun _ _ _ _ _=>.inr trivial
  refine ⟨fun x d hx=>?_,fun x y d e h1 h2 ok1 ok2 he=>?_,fun bl q j=>?_,fun bl q=>?_,fun j bl q=>?_,fun x q=>?_,fun x hx=>(hh.rom x hx).mono E2 W'⟩
  · rcases look x d hx with ⟨i,d0,h1,rfl,rfl⟩ | ⟨h1,h2⟩
    · have hlt:i<own.length:=(List.getElem?_eq_some_iff.1 (fY h1)).1
      rcases H.cell i d0 h1 with ⟨k1,k2,k3⟩ | ⟨k1,k2,k3,k4⟩
      · obtain ⟨q1,q2⟩:=idOk i k1
        refine .inl ⟨q1,by rw [q2];exact .inr k2,?_⟩
        rw [q2]
        obtain ⟨hr,c,t,r1,r2⟩:=k3
        refine ⟨qC hr,c,t,r1,fun y v hy=>?_⟩
        obtain ⟨v0,s1,s2⟩:=jX hr hy
        obtain ⟨u,t1,t2⟩:=r2 y v0 s1
        refine ⟨u,t1,?_⟩
        rcases s2 with rfl | ⟨rfl,s3⟩
        · exact JN L t2
        · exact fk L.nobody t2 s3
      ·
        refine .inr ⟨?_,?_,qC k3,fun y=>?_⟩
        · rintro (q | ⟨q1,q2,q3⟩)
          · rcases Nat.lt_or_ge i bs.length with hi | hi
            · have a:=List.getElem?_eq_getElem hi
              rw [name_old a] at q
              exact k1 (E.ok i ⟨_,a,q⟩)
            · rw [name_new hi] at q
              exact hid _ (by omega) (by omega) q
          · rcases Nat.lt_or_ge i bs.length with hi | hi
            · have a:=List.getElem?_eq_getElem hi
              rw [name_old a] at q1 q2
              have:=hfr _ (List.getElem_mem hi);omega
            · rw [name_new hi] at q3
              have e:nid+(i-bs.length)-nid+bs.length=i:=by omega
              rw [e] at q3;exact k1 q3
        · rcases Nat.lt_or_ge i bs.length with hi | hi
          · have a:=List.getElem?_eq_getElem hi
            rw [name_old a]
            obtain ⟨d',hd'⟩:=hbs.there _ (List.getElem_mem hi)
            rcases hh.cell _ d' hd' with q | q
            · exact hh.lt _ q.1
            · exact q.2.1
          · rw [name_new hi];omega
        · cases hc:(qj (dn bs nid) d0).cell? y with
          | none=>rfl
          | some v=>obtain ⟨v0,s1,_⟩:=jX k3 hc;rw [k4 y] at s1;cases s1
    · rcases hh.cell x d h1 with ⟨k1,k2,k3⟩ | ⟨k1,k2,k3⟩
      · rw [E2.at_ x k1]
        refine .inl ⟨.inl k1,.inl k2,?_⟩
        by_cases hl:wm ρ bs (ρ.at_ x)
        ·
          obtain ⟨b,r1,r2,r3⟩:=hl
          obtain ⟨d',hd'⟩:=hbs.there b r1
          have:=hh.inj x b d d' h1 hd' k1 r2 r3
          subst this
          obtain ⟨i,hi⟩:=List.getElem?_of_mem r1
          have hlen : ¬ i<own.length:=fun q=>h2 i q (name_old hi).symm
          have hio:ρ'.ok i:=E.ok i ⟨x,hi,k1⟩
          exact absurd (H.lt i hio) hlen
        · exact k3.mono E2 W' (W.same _ (hh.liveLt _ k2) hl)
      · refine .inr ⟨?_,k2,k3⟩
        rintro (q | ⟨q1,q2,q3⟩)
        · exact k1 q
        · have:=h2 (x-nid+bs.length) q2
          rw [name_new (by omega)] at this
          exact this (by omega)
  ·
    have real:∀ {x d},aR (cq (fG (dn bs nid) 0 own) h) x=some d→(ρ.adopt ρ' bs.length nid own.length).ok x →
        (∃ i d0,aR (c8 0 own) i=some d0∧x=dn bs nid i∧ρ'.ok i)∨(aR h x=some d∧ρ.ok x∧∀ i,i<own.length→x≠dn bs nid i):=by
      intro x d hx hok
      rcases look x d hx with ⟨i,d0,h1,rfl,rfl⟩ | ⟨h1,h2⟩
      · refine .inl ⟨i,d0,h1,rfl,?_⟩
        rcases hok with q | ⟨q1,q2,q3⟩
        · rcases Nat.lt_or_ge i bs.length with hi | hi
          · have a:=List.getElem?_eq_getElem hi
            rw [name_old a] at q
            exact E.ok i ⟨_,a,q⟩
          · have hlt:i<own.length:=(List.getElem?_eq_some_iff.1 (fY h1)).1
            rw [name_new hi] at q
            exact (hid _ (by omega) (by omega) q).elim
        · rcases Nat.lt_or_ge i bs.length with hi | hi
          · have a:=List.getElem?_eq_getElem hi
            rw [name_old a] at q1 q2
            have:=hfr _ (List.getElem_mem hi);omega
          · rw [name_new hi] at q3
            have e:nid+(i-bs.length)-nid+bs.length=i:=by omega
            rw [e] at q3;exact q3
      · refine .inr ⟨h1,?_,h2⟩
        rcases hok with q | ⟨q1,q2,q3⟩
        · exact q
        · have:=h2 (x-nid+bs.length) q2
          rw [name_new (by omega)] at this
          exact (this (by omega)).elim
    have cross:∀ {i d0 y e},aR (c8 0 own) i=some d0→ρ'.ok i→aR h y=some e→ρ.ok y→(∀ i,i<own.length→y≠dn bs nid i)→ρ'.at_ i=ρ.at_ y→False:=by
      intro i d0 y e h1 k1 h2 k2 h3 he
      have hl:=ownLive h1 k1
      rw [he] at hl
      obtain ⟨b,r1,r2,r3⟩:=old (hh.liveLt _ (hh.real h2 k2).1) hl
      obtain ⟨d',hd'⟩:=hbs.there b r1
      have:=hh.inj y b e d' h2 hd' k2 r2 r3
      subst this
      obtain ⟨j,hj⟩:=List.getElem?_of_mem r1
      exact h3 j (H.lt j (E.ok j ⟨y,hj,k2⟩)) (name_old hj).symm
    rcases real h1 ok1 with ⟨i,d0,a1,rfl,a2⟩ | ⟨a1,a2,a3⟩<;>rcases real h2 ok2 with ⟨j,e0,b1,rfl,b2⟩ | ⟨b1,b2,b3⟩
    · rw [(idOk i a2).2,(idOk j b2).2] at he
      rw [H.inj i j d0 e0 a1 b1 a2 b2 he]
    · rw [(idOk i a2).2,E2.at_ y b2] at he
      exact (cross a1 a2 b1 b2 b3 he).elim
    · rw [E2.at_ x a2,(idOk j b2).2] at he
      exact (cross b1 b2 a1 a2 a3 he.symm).elim
    · rw [E2.at_ x a2,E2.at_ y b2] at he
      exact hh.inj x y d e a1 b1 a2 b2 he
  · rcases q with q | q
    · exact hh.fresh bl q j
    · intro r
      have:=H.fresh bl q (j+1)
      rw [E.out] at this
      exact this r
  · rcases q with q | q
    · exact Nat.lt_of_lt_of_le (hh.liveLt bl q) W'.size
    · exact H.liveLt bl q
  · exact Nat.lt_of_lt_of_le (hh.outLt j bl q) W'.size
  · rcases q with q | ⟨q1,q2,q3⟩
    · exact hh.lt x q
    · omega
def y8(d:aE) :Nat→Nat→Option (List AV)
  | 0,_=>some []
  | n+1,x=>match d.cell? x,y8 d n (x+1) with
    | some v,some l=>some (v::l)
    | _,_=>none
theorem xa{d:aE} :∀ {n x:Nat} {l:List AV},y8 d n x=some l→l.length=n∧∀ j,j<n→d.cell? (x+j)=l[j]?
  | 0,x,l,h=>by simp only [y8,Option.some.injEq] at h;subst h;exact ⟨rfl,fun j hj=>absurd hj (Nat.not_lt_zero _)⟩
  | n+1,x,l,h=>by
    unfold y8 at h
    split at h
    case h_2=>cases h
    rename_i v l' h1 h2
    simp only [Option.some.injEq] at h;subst h
    obtain ⟨a,b⟩:=xa h2
    refine ⟨by simp [a],fun j hj=>?_⟩
    cases j with
    | zero=>simpa using h1
    | succ j =>
      have:=b j (by omega)
      rw [show x+(j+1)=x+1+j by omega,this];simp
def Ct(P:Program)(g:Nat→Option aE)(t:TypeId)(d x:AV) :Option (Nat×Nat×aE×List Bool×List Nat) :=
  match P.underlying t,d with
  | some (.slice e),.sl b w es i len _ =>
    match P.info? e,g b,Bq g x with
    | some inf,some blk,some (m,es',nb,obs,rs) =>
      bif Nat.beq inf.size 1&&Nat.beq es' 1 then
        match y8 nb (Nat.min m len) 0 with
        | some l=>bif e7 l then (blk.wrN w i l 0).map fun r=>(Nat.min m len,b,r.1,obs++r.2,b::rs) else none
        | none=>none
      else none
    | _,_,_=>none
  | _,_=>none
theorem HR.same{ρ:ag}{w:World}{h:bI}{n b:Nat}{d:aE}(hh:HR ρ w h n)(hg:aR h b=some d) :HR ρ w (dm h b d) n:=by
  have e:∀ c,aR (dm h b d) c=aR h c:=by
    intro c;rw [cS];split
    · rename_i q;subst q;exact hg.symm
    · rfl
  exact ⟨fun c e' he=>hh.cell c e' (by rw [←e];exact he),fun a c d e' h1 h2=>hh.inj a c d e' (by rw [←e];exact h1) (by rw [←e];exact h2),hh.fresh,hh.liveLt,hh.outLt,hh.lt,hh.rom⟩
theorem Fi{P:Program}{ρ:ag}{w:World}{h:bI}{n:Nat}(hh:HR ρ w h n){t t' T:TypeId}{d x:AV}{d' x':Value}(hd:VR ρ w d d')(hx:VR ρ w x x'){k b:Nat}{blk:aE}{obs:List Bool}{rs:List Nat} 
    (hc:Ct P (aR h) t d x=some (k,b,blk,obs,rs)) (ho:az obs):∃ w',(Builtin.copy_ #[t,t'] T #[d',x']).run P w=.ok (.int .i64 (k:Int)) w'∧HR ρ w' (dm h b blk) n∧fA ρ.live w w':=by
  unfold Ct at hc
  split at hc
  case h_2=>cases hc
  rename_i e b' kk es i len cap ht
  split at hc
  case h_2=>cases hc
  rename_i inf blk0 m es' nb obs' rs' hi hg hsrc
  cases h1:Nat.beq inf.size 1&&Nat.beq es' 1 with
  | false=>rw [h1] at hc;cases hc
  | true =>
  rw [h1] at hc
  simp only [Bool.and_eq_true] at h1
  have hsz:=Nat.eq_of_beq_eq_true h1.1
  have hes:=Nat.eq_of_beq_eq_true h1.2
  subst hes
  simp only [cond_true] at hc
  split at hc
  case h_2=>cases hc
  rename_i l hl
  cases h2:e7 l with
  | false=>rw [h2] at hc;cases hc
  | true =>
  rw [h2] at hc
  simp only [cond_true,Option.map_eq_some_iff,Prod.mk.injEq] at hc
  obtain ⟨⟨blk',o'⟩,hw,rfl,rfl,rfl,rfl,rfl⟩:=hc
  rw [aZ] at ho
  have hS:=yZ hh hx hsrc ho.1
  obtain ⟨l1,l2⟩:=xa hl
  obtain ⟨a,c,rfl,hv⟩:=hS.val
  have hsize:P.cellsOf e=1:=by simp [Program.cellsOf,hi,hsz]
  by_cases hn0:Nat.min m len=0
  · have el:l=[]:=List.length_eq_zero_iff.1 (by rw [l1,hn0])
    subst el
    simp only [aE.wrN,Option.some.injEq,Prod.mk.injEq] at hw
    obtain ⟨rfl,rfl⟩:=hw
    refine ⟨w,?_,hh.same hg,fA.refl _ _⟩
    rw [hn0]
    cases hd with
    | sl _ _ _ _ _ _ cap' hb hcap hle c' t' hhh hss =>
      have hn0':min m len=0:=hn0
      cases a<;>simp [Builtin.copy_,run_underlying ht,sizeOf,typeInfo,hi,Builtin.lenOf,Builtin.firstCells,storeCells,loadCells,loadCellsFrom,hn0',goInt]<;>rfl
    | slEnd _ _ _ _ a' =>
      cases a<;>cases a'<;>simp [Builtin.copy_,run_underlying ht,sizeOf,typeInfo,hi,Builtin.lenOf,Builtin.firstCells,storeCells,loadCells,loadCellsFrom,goInt]<;>rfl
  · have hmn : ¬ m=0:=fun q=>hn0 (by subst q;exact Nat.zero_min _)
    rcases hv with q | ⟨bl,o,rfl,news,hnl,hnews,hone,hrel⟩
    · exact absurd q hmn
    have hle:Nat.min m len≤news.length:=by rw [hnl,Nat.mul_one];exact Nat.min_le_left _ _
    have hvs:c7 ρ w l (news.take (Nat.min m len)):=by
      have key:∀ (l:List AV) (us:List Value),l.length=us.length→(∀ (j:Nat) (v:AV) (u:Value),l[j]? = some v→us[j]? = some u→VR ρ w v u)→c7 ρ w l us:=by
        intro l
        induction l with
        | nil=>intro us h1 _;have:us=[]:=List.length_eq_zero_iff.1 h1.symm;subst this;exact .nil
        | cons v l ih =>
          intro us h1 h2
          cases us with
          | nil=>simp at h1
          | cons u us=>exact .cons _ _ _ _ (h2 0 v u rfl rfl) (ih us (by simpa using h1) fun j v' u' q1 q2=>h2 (j+1) v' u' (by simpa using q1) (by simpa using q2))
      refine key _ _ (by rw [l1,List.length_take];omega) fun j v u q1 q2=>?_
      have hj:j<Nat.min m len:=by
        rcases Nat.lt_or_ge j (Nat.min m len) with z | z
        · exact z
        · rw [List.getElem?_eq_none (by omega)] at q1;cases q1
      have:=l2 j hj
      rw [Nat.zero_add,q1] at this
      obtain ⟨u',r1,r2⟩:=hrel j v this
      rw [List.getElem?_take,if_pos hj,r1] at q2
      cases q2
      exact r2
    cases hd with
    | slEnd=>exact absurd (Nat.min_zero m) hn0
    | sl _ _ _ _ _ _ cap' hb hcap hle' c' t'' hhh hss =>
      obtain ⟨w',r1,r2,r3⟩:=mE (P:=P) (x0:=0) (j:=0) hh hg hvs h2 hw ho.2
      refine ⟨w',?_,r2,r3⟩
      have hf:=run_firstCells_some (P:=P) w 1 (Nat.min m len) ⟨bl,o,none⟩ m c (news.take (Nat.min m len)) (by rw [List.length_take];omega) (fun j v hj=>by
        rw [List.getElem?_take] at hj
        split at hj
        · exact hnews j v hj
        · cases hj)
      simp only [Nat.add_zero] at r1
      have hf':(Builtin.firstCells 1 (min m len) (.slice (some ⟨bl,o,none⟩) m c)).run P w=.ok (news.take (min m len)).toArray w:=hf
      have r1':(storeCells ⟨ρ.at_ b',i*kk,none⟩ (news.take (min m len)) 0).run P w=.ok () w':=r1
      have hm:((Nat.min m len:Nat):Int)=((min m len:Nat):Int):=rfl
      simp [Builtin.copy_,run_underlying ht,sizeOf,typeInfo,hi,hsz,Builtin.lenOf,hf',r1',goInt,hm]
end Go.Plb
