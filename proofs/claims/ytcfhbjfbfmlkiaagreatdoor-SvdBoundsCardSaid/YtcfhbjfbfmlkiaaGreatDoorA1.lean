/-
  Part 1 of what the claim leans on: an evaluator of the model, proved sound; the contracts of the functions.
-/
import Derived.Orders
import Derived.Laws.World
import Derived.Laws.FloatArith
import Derived.Laws.Sem
import Derived.ChangeKeysEq
import Derived.Laws.MakeOwn
import Derived.Laws.AppendOwn
namespace Go.Plb
set_option linter.unusedSimpArgs false
set_option linter.unusedVariables false
def Dg:Nat:=0x7FF8000000000000
def isNaN(x:Nat) :Bool:=(FloatKind.f64.decode x).isNaN
def FR(ex:Bool)(x y:Nat) :Prop:=y=x∨(ex=false∧isNaN x=true∧isNaN y=true)
inductive Lv where
  | free
  | lent
  | up (l:Lv)
inductive bA where
  | i (k:IntKind) (n:Int)
  | s (b:ByteArray)
  | p (k:IntKind) (x y:Int)
def bA.val:bA→Value
  | .i k n=>.int k n
  | .s b=>.string b
  | .p k x y=>.agg #[.int k x,.int k y]
mutual
inductive AV where
  | int (k:IntKind) (n:Int)
  | bool (kn b:Bool)
  | flt (ex:Bool) (x:Nat)
  | str (s:ByteArray)
  | nptr
  | ptr (b w i j:Nat)
  | iptr (bw:Lv) (d:aq) (w i j:Nat)
  | nsl
  | esl
  | zsl (b:Bool)
  | nan
  | sl (b w es i len cap:Nat)
  | imm (bw:Lv) (d:aq) (w es i len:Nat)
  | fn (f:Fn) (first caps:List AV)
  | nfn
  | gmap (ks:List bA) (vs:List AV)
  | gvar (c:Array Value)
  | agg (l:List AV)
  | tup (l:List AV)
  | iface (t:TypeId) (v:AV)
  | niface
  | yld (b:Nat)
  | any
inductive aq where
  | fl (xs:List Nat)
  | ns (k:IntKind) (xs:List Int)
  | bs (xs:List Bool)
  | ss (xs:List ByteArray)
  | vs (xs:List AV)
  | rows (w n:Nat) (get:Nat→Nat→AV)
  | cols (n:Nat) (cs:List dd)
inductive dd where
  | cf (xs:List Nat)
  | ci (k:IntKind) (xs:List Int)
  | cb (xs:List Bool)
  | cs (xs:List ByteArray)
  | cfl (xs:List (List Nat))
  | cns (k:IntKind) (xs:List (List Int))
end
instance:Inhabited AV:=⟨.any⟩
def dd.cell?:dd→Nat→Option AV
  | .cf xs,i=>(xs[i]?).map (AV.flt false)
  | .ci k xs,i=>(xs[i]?).map (AV.int k)
  | .cb xs,i=>(xs[i]?).map (AV.bool false)
  | .cs xs,i=>(xs[i]?).map AV.str
  | .cfl xs,i=>(xs[i]?).map fun l=>.imm .free (.fl l) 1 1 0 l.length
  | .cns k xs,i=>(xs[i]?).map fun l=>.imm .free (.ns k l) 1 1 0 l.length
def aq.cell?:aq→Nat→Option AV
  | .fl xs,i=>(xs[i]?).map (AV.flt false)
  | .ns k xs,i=>(xs[i]?).map (AV.int k)
  | .bs xs,i=>(xs[i]?).map (AV.bool false)
  | .ss xs,i=>(xs[i]?).map AV.str
  | .vs xs,i=>xs[i]?
  | .rows w n get,i=>if i/w<n then some (get (i/w) (i%w)) else none
  | .cols n cs,i=>(cs[i%cs.length]?).bind fun c=>c.cell? (i/cs.length)
def Lv.isFree:Lv→Bool
  | .free=>true
  | .lent=>false
  | .up l=>l.isFree
mutual
def AV.kept:AV→Bool
  | .ptr .. | .sl ..=>false
  | .iptr bw .. | .imm bw ..=>bw.isFree
  | .fn _ l1 l2=>bK l1&&bK l2
  | .agg l | .tup l=>bK l
  | .iface _ v=>v.kept
  | .yld _=>false
  | _=>true
def bK:List AV→Bool
  | []=>true
  | v::l=>v.kept&&bK l
end
def AV.one:AV→Bool
  | .agg _ | .tup _ | .any=>false
  | _=>true
def dy:List AV→Bool
  | []=>true
  | v::l=>v.one&&dy l
def aq.kept:aq→Bool
  | .vs xs=>bK xs
  | _=>true
def dd.len:dd→Nat
  | .cf xs=>xs.length
  | .ci _ xs=>xs.length
  | .cb xs=>xs.length
  | .cs xs=>xs.length
  | .cfl xs=>xs.length
  | .cns _ xs=>xs.length
def aq.recKept:aq→Prop
  | .rows _ _ get=>∀ i j,(get i j).kept=true∧(get i j).one=true
  | .cols n cs=>∀ c∈cs,c.len=n
  | _=>True
mutual
def AV.foreign:AV→Bool
  | .ptr .. | .sl ..=>false
  | .fn _ l1 l2=>aN l1&&aN l2
  | .agg l | .tup l=>aN l
  | .iface _ v=>v.foreign
  | .yld _=>false
  | _=>true
def aN:List AV→Bool
  | []=>true
  | v::l=>v.foreign&&aN l
end
def aq.foreign:aq→Bool
  | .vs xs=>aN xs
  | _=>true
theorem kP{c:dd}{i:Nat}{v:AV}(h:c.cell? i=some v) :v.kept=true∧v.foreign=true∧v.one=true:=by
  cases c<;>simp only [dd.cell?,Option.map_eq_some_iff] at h<;>obtain ⟨_,_,rfl⟩:=h<;>exact ⟨rfl,rfl,rfl⟩
theorem oa{c:dd}{i:Nat}{v:AV}(h:c.cell? i=some v) :i<c.len:=by
  cases c<;>simp only [dd.cell?,Option.map_eq_some_iff] at h<;>obtain ⟨_,h,_⟩:=h<;>exact (List.getElem?_eq_some_iff.1 h).1
theorem Fu{c:dd}{i:Nat}(h:i<c.len) :∃ v,c.cell? i=some v:=by
  cases c<;>simp only [dd.len] at h<;>simp only [dd.cell?]<;>exact ⟨_,by rw [List.getElem?_eq_getElem h];rfl⟩
theorem dq{n:Nat}{cs:List dd}{x:Nat}{v:AV}(h:(aq.cols n cs).cell? x=some v) :∃ c,cs[x%cs.length]? = some c∧c∈cs∧c.cell? (x/cs.length)=some v:=by
  simp only [aq.cell?,Option.bind_eq_some_iff] at h
  obtain ⟨c,h1,h2⟩:=h
  exact ⟨c,h1,List.mem_of_getElem? h1,h2⟩
structure af where
  at_:Nat→Nat
  live:Nat→Prop

  out:Nat→Nat→Prop

  ok:Nat→Prop

  pin:Nat×Option (Nat×Nat)
def Lv.av(O:Nat→Nat→Prop) :Lv→Nat→Nat→Prop
  | .free,i,bl=>∀ j,i≤j→¬ O j bl
  | .lent,i,bl=>¬ O i bl
  | .up l,i,bl=>¬ O i bl∧l.av O (i+1) bl
def af.own(ρ:af) :Nat→Nat→Prop
  | 0=>ρ.live
  | j+1=>ρ.out j
def af.avoid(ρ:af)(bw:Lv)(bl:Nat) :Prop:=bw.av ρ.own 0 bl
theorem qL{O:Nat→Nat→Prop} :∀ {l:Lv} {i bl:Nat},l.av O i bl→¬ O i bl
  | .free,i,bl,h=>h i (Nat.le_refl _)
  | .lent,i,bl,h=>h
  | .up l,i,bl,h=>h.1
theorem lT{O O':Nat→Nat→Prop}{bl d:Nat} :∀ {l:Lv} {i:Nat},(∀ j,i≤j→O' (j+d) bl→O j bl)→l.av O i bl→l.av O' (i+d) bl
  | .free,i,h,k=>fun j hj q=>by
    obtain ⟨j',rfl⟩:∃ j',j=j'+d:=⟨j-d,by omega⟩
    exact k j' (by omega) (h j' (by omega) q)
  | .lent,i,h,k=>fun q=>k (h i (Nat.le_refl _) q)
  | .up l,i,h,k=>⟨fun q=>k.1 (h i (Nat.le_refl _) q),by
      have:=lT (l:=l) (i:=i+1) (d:=d) (fun j hj=>h j (by omega)) k.2
      have e:i+1+d=i+d+1:=by omega
      rwa [e] at this⟩
theorem ib{O:Nat→Nat→Prop} :∀ {l:Lv} {i bl:Nat},l.isFree=true→l.av O i bl→∀ j,i≤j→¬ O j bl
  | .free,i,bl,_,h,j,hj=>h j hj
  | .lent,i,bl,hl,_,_,_=>by cases hl
  | .up l,i,bl,hl,h,j,hj=>by
    rcases Nat.eq_or_lt_of_le hj with rfl | q
    · exact h.1
    · exact ib (l:=l) hl h.2 j q
theorem dt{ρ:af}{l:Lv}{bl:Nat}(h:ρ.avoid l bl) : ¬ ρ.live bl:=qL (O:=ρ.own) h
class Rom where
  tab:List (Nat×AV)
  kept:∀ x∈tab,x.2.kept=true
mutual
inductive VR (ρ:af) (w:World):AV→Value→Prop
  | int (k:IntKind) (n:Int):VR ρ w (.int k n) (.int k n)
  | bool (kn b:Bool):VR ρ w (.bool kn b) (.bool b)
  | flt (ex:Bool) (x y:Nat) (h:FR ex x y):VR ρ w (.flt ex x) (.float .f64 y)
  | str (s:ByteArray):VR ρ w (.str s) (.string s)
  | nptr:VR ρ w .nptr (.pointer none)
  | ptr (b k i j:Nat) (hb:ρ.ok b):VR ρ w (.ptr b k i j) (.pointer (some ⟨ρ.at_ b,i*k+j,none⟩))
  | iptr (bw:Lv) (d:aq) (k i j bl o:Nat) (u:Nat→Value) (ha:ρ.avoid bw bl) (hb:bl<w.heap.size)
      (hc:∀ x v,d.cell? x=some v→w.cell? ⟨bl,o+x,none⟩=some (u x)) (hv:∀ x v,d.cell? x=some v→VR ρ w v (u x))
      (hr:d.recKept) (hk:bw.isFree=true→d.kept=true) (hg:d.foreign=true) :
      VR ρ w (.iptr bw d k i j) (.pointer (some ⟨bl,o+(i*k+j),none⟩))
  | nsl:VR ρ w .nsl (.slice none 0 0)
  | esl (a:Option Addr):VR ρ w .esl (.slice a 0 0)
  | zsl (a:Option Addr) (cap:Nat):VR ρ w (.zsl a.isNone) (.slice a 0 cap)
  | nan (n:Nat) (h:isNaN n=true):VR ρ w .nan (.int .u64 n)
  | sl (b k es i len cap cap':Nat) (hb:ρ.ok b) (hcap:cap≤cap') (hl:len≤cap) (c:Array Value) (t:TypeId) (hh:w.heap[ρ.at_ b]? = some (.cells c t (0,0)))
      (hs:i*k+cap'*es≤c.size):VR ρ w (.sl b k es i len cap) (.slice (some ⟨ρ.at_ b,i*k,none⟩) len cap')
  | slEnd (b k es i:Nat) (a:Option Addr):VR ρ w (.sl b k es i 0 0) (.slice a 0 0)
  | imm (bw:Lv) (d:aq) (k es i len cap bl o:Nat) (u:Nat→Value) (ha:ρ.avoid bw bl) (hb:bl<w.heap.size)
      (hc:∀ x v,d.cell? x=some v→w.cell? ⟨bl,o+x,none⟩=some (u x)) (hv:∀ x v,d.cell? x=some v→VR ρ w v (u x)) (hl:len≤cap)
      (hr:d.recKept) (hk:bw.isFree=true→d.kept=true) (hg:d.foreign=true) :
      VR ρ w (.imm bw d k es i len) (.slice (some ⟨bl,o+i*k,none⟩) len cap)
  | immEnd (bw:Lv) (d:aq) (k es i cap:Nat) (a:Option Addr) (hr:d.recKept) (hk:bw.isFree=true→d.kept=true) (hg:d.foreign=true):VR ρ w (.imm bw d k es i 0) (.slice a 0 cap)
  | fn (f:Fn) (l1 l2:List AV) (c1 c2:Array Value) (h1:bh ρ w l1 c1.toList) (h2:bh ρ w l2 c2.toList):VR ρ w (.fn f l1 l2) (.func f c1 c2)
  | nfn:VR ρ w .nfn .nilFunc
  | gmap (ks:List bA) (vs:List AV) (bl:Nat) (es:Array MapEntry) (cl:Nat) (u:Nat→Value) (ha:ρ.avoid .free bl) (hb:bl<w.heap.size) (hh:w.heap[bl]? = some (.map es cl))
      (hin:∀ e∈es.toList,∃ (i:Nat) (k:bA),ks[i]? = some k∧e.key=k.val∧e.val=u i) (hex:∀ (i:Nat) (k:bA),ks[i]? = some k→∃ e∈es.toList,e.key=k.val∧e.val=u i)
      (hv:∀ x v,vs[x]? = some v→VR ρ w v (u x)) (hl:vs.length=ks.length) (hk:bK vs=true):VR ρ w (.gmap ks vs) (.map (some bl))
  | gvar (c:Array Value) (bl:Nat) (t:TypeId) (fr:Nat×Nat) (ha:ρ.avoid .free bl) (hb:bl<w.heap.size) (hh:w.heap[bl]? = some (.cells c t fr)):VR ρ w (.gvar c) (.pointer (some ⟨bl,0,none⟩))
  | agg (l:List AV) (c:Array Value) (h:bh ρ w l c.toList):VR ρ w (.agg l) (.agg c)
  | tup (l:List AV) (c:Array Value) (h:bh ρ w l c.toList):VR ρ w (.tup l) (.tuple c)
  | iface (t:TypeId) (v:AV) (u:Value) (h:VR ρ w v u):VR ρ w (.iface t v) (.iface t u)
  | niface:VR ρ w .niface .nilIface
  | yld (b L:Nat) (h:ρ.pin.2=some (L,b)):VR ρ w (.yld b) (.func (.yield L) #[] #[])
  | any (u:Value):VR ρ w .any u
inductive bh (ρ:af) (w:World):List AV→List Value→Prop
  | nil:bh ρ w [] []
  | cons (v:AV) (u:Value) (l:List AV) (c:List Value) (h:VR ρ w v u) (t:bh ρ w l c):bh ρ w (v::l) (u::c)
end
def BR(ρ:af)(w:World)(bl:Nat)(d:aq) :Prop :=
  d.recKept∧∃ c t,w.heap[bl]? = some (.cells c t (0,0))∧∀ x v,d.cell? x=some v→∃ u,c[x]? = some u∧VR ρ w v u
structure dx (M:Nat→Prop) (w w':World):Prop where
  os:w'.os=w.os
  tape:w'.tape=w.tape
  output:w'.output=w.output
  size:w.heap.size≤w'.heap.size
  same:∀ b,b<w.heap.size→¬ M b→w'.heap[b]? = w.heap[b]?
  sized:∀ (b:Nat) c t fz,w.heap[b]? = some (.cells c t fz)→∃ c',w'.heap[b]? = some (.cells c' t fz)∧c'.size=c.size
theorem dx.refl(M:Nat→Prop)(w:World) :dx M w w:=⟨rfl,rfl,rfl,Nat.le_refl _,fun _ _ _=>rfl,fun _ c _ _ h=>⟨c,h,rfl⟩⟩
theorem dx.trans{M M':Nat→Prop}{a b c:World}(h:dx M a b)(k:dx M' b c)(hM:∀ x,x<a.heap.size→M' x→M x) :dx M a c :=
  ⟨k.os.trans h.os,k.tape.trans h.tape,k.output.trans h.output,Nat.le_trans h.size k.size,
   fun x hx hn=>(k.same x (Nat.lt_of_lt_of_le hx h.size) (fun m=>hn (hM x hx m))).trans (h.same x hx hn),
   fun x c t fz hc=>by
     obtain ⟨c1,h1,e1⟩:=h.sized x c t fz hc
     obtain ⟨c2,h2,e2⟩:=k.sized x c1 t fz h1
     exact ⟨c2,h2,e2.trans e1⟩⟩
theorem dx.mono{M M':Nat→Prop}{w w':World}(h:dx M w w')(hM:∀ x,x<w.heap.size→M x→M' x) :dx M' w w' :=
  ⟨h.os,h.tape,h.output,h.size,fun x hx hn=>h.same x hx (fun m=>hn (hM x hx m)),h.sized⟩
theorem kQ{w w':World}{a:Addr}(h:w'.heap[a.block]? = w.heap[a.block]?) :w'.cell? a=w.cell? a:=by
  unfold World.cell?;rw [h]
structure eI (ρ ρ':af) (w:World):Prop where
  at_:∀ b,ρ.ok b→ρ'.at_ b=ρ.at_ b
  ok:∀ b,ρ.ok b→ρ'.ok b
  live:∀ b,ρ.live b→ρ'.live b
  new:∀ b,b<w.heap.size→ρ'.live b→ρ.live b
  out:ρ'.out=ρ.out
  pin:ρ'.pin=ρ.pin
theorem eI.refl(ρ:af)(w:World) :eI ρ ρ w:=⟨fun _ _=>rfl,fun _ h=>h,fun _ h=>h,fun _ _ h=>h,rfl,rfl⟩
theorem eI.trans{a b c:af}{w w':World}(h:eI a b w)(k:eI b c w')(hw:w.heap.size≤w'.heap.size) :eI a c w :=
  ⟨fun x hx=>(k.at_ x (h.ok x hx)).trans (h.at_ x hx),fun x hx=>k.ok x (h.ok x hx),fun x hx=>k.live x (h.live x hx),
   fun x hx hl=>h.new x hx (k.new x (Nat.lt_of_lt_of_le hx hw) hl),k.out.trans h.out,k.pin.trans h.pin⟩
theorem eI.avoid{ρ ρ':af}{w:World}(E:eI ρ ρ' w){l:Lv}{bl:Nat}(hb:bl<w.heap.size)(h:ρ.avoid l bl) :ρ'.avoid l bl:=by
  refine lT (d:=0) (fun j _ q=>?_) h
  cases j with
  | zero=>exact E.new bl hb q
  | succ j=>simp only [Nat.add_zero,af.own] at q ⊢;rw [E.out] at q;exact q
theorem VR.mono{ρ ρ':af}{w w':World}(E:eI ρ ρ' w)(W:dx ρ.live w w'){v:AV}{u:Value}(h:VR ρ w v u) :VR ρ' w' v u:=by
  induction h using VR.rec (motive_2:=fun l c _=>bh ρ' w' l c) with
  | int k n=>exact .int k n
  | bool kn b=>exact .bool kn b
  | flt ex x y h=>exact .flt ex x y h
  | str s=>exact .str s
  | nptr=>exact .nptr
  | ptr b k i j hb=>rw [←E.at_ b hb];exact .ptr b k i j (E.ok b hb)
  | iptr bw d k i j bl o u ha hb hc hv hr hk hg ih =>
    refine .iptr bw d k i j bl o u (E.avoid hb ha) (Nat.lt_of_lt_of_le hb W.size) ?_ ih hr hk hg
    intro x v hx
    rw [kQ (W.same bl hb (dt ha))];exact hc x v hx
  | nsl=>exact .nsl
  | esl a=>exact .esl a
  | zsl a c=>exact .zsl a c
  | nan n h=>exact .nan n h
  | sl b k es i len cap cap' hb hcap hl c t hh hs =>
    obtain ⟨c',h1,h2⟩:=W.sized _ _ _ _ hh
    rw [←E.at_ b hb] at h1 ⊢
    exact .sl b k es i len cap cap' (E.ok b hb) hcap hl c' t h1 (by omega)
  | slEnd b k es i a=>exact .slEnd b k es i a
  | imm bw d k es i len cap bl o u ha hb hc hv hl hr hk hg ih =>
    refine .imm bw d k es i len cap bl o u (E.avoid hb ha) (Nat.lt_of_lt_of_le hb W.size) ?_ ih hl hr hk hg
    intro x v hx
    rw [kQ (W.same bl hb (dt ha))];exact hc x v hx
  | immEnd bw d k es i cap a hr hk hg=>exact .immEnd bw d k es i cap a hr hk hg
  | fn f l1 l2 c1 c2 h1 h2 i1 i2=>exact .fn f l1 l2 c1 c2 i1 i2
  | nfn=>exact .nfn
  | gmap ks vs bl es cl u ha hb hh hin hex hv hl hk ih=>exact .gmap ks vs bl es cl u (E.avoid hb ha) (Nat.lt_of_lt_of_le hb W.size) ((W.same bl hb (dt ha)).trans hh) hin hex ih hl hk
  | gvar c bl t fr ha hb hh=>exact .gvar c bl t fr (E.avoid hb ha) (Nat.lt_of_lt_of_le hb W.size) ((W.same bl hb (dt ha)).trans hh)
  | agg l c h ih=>exact .agg l c ih
  | tup l c h ih=>exact .tup l c ih
  | iface t v u h ih=>exact .iface t v u ih
  | niface=>exact .niface
  | yld b L h=>exact .yld b L (by rw [E.pin];exact h)
  | any u=>exact .any u
  | nil=>exact .nil
  | cons v u l c h t i1 i2=>exact .cons v u l c i1 i2
theorem bh.mono{ρ ρ':af}{w w':World}(E:eI ρ ρ' w)(W:dx ρ.live w w') :∀ {l:List AV} {c:List Value},bh ρ w l c→bh ρ' w' l c
  | _,_,.nil=>.nil
  | _,_,.cons v u l c h t=>.cons v u l c (h.mono E W) (bh.mono E W t)
end Go.Plb
namespace Go.Plb
noncomputable section
set_option linter.unusedSimpArgs false
set_option linter.unusedVariables false
set_option linter.unusedSectionVars false
variable [Rom]
abbrev aM:=List (Nat×aq)
def aB:aM→Nat→Option aq:=fun h b=>List.rec (motive:=fun _=>Option aq) none (fun x _ ih=>Bool.rec (motive:=fun _=>Option aq) ih (some x.2) (Nat.beq x.1 b)) h
def cH:aM→Nat→aq→aM:=fun h b d=>List.rec (motive:=fun _=>aM) [(b,d)] (fun x t ih=>Bool.rec (motive:=fun _=>aM) (x::ih) ((x.1,d)::t) (Nat.beq x.1 b)) h
def lU:aM→Nat→aM:=fun h b=>List.rec (motive:=fun _=>aM) [] (fun x _ ih=>Bool.rec (motive:=fun _=>aM) (x::ih) ih (Nat.beq x.1 b)) h
theorem cq(b:Nat) :aB [] b=none:=rfl
theorem bP(k:Nat)(d:aq)(t:aM)(b:Nat) :aB ((k,d)::t) b=bif Nat.beq k b then some d else aB t b:=by cases hq:Nat.beq k b<;>simp only [aB,hq]<;>rfl
theorem lH(b:Nat)(d:aq) :cH [] b d=[(b,d)]:=rfl
theorem jA(k:Nat)(e:aq)(t:aM)(b:Nat)(d:aq) :cH ((k,e)::t) b d=bif Nat.beq k b then (k,d)::t else (k,e)::cH t b d:=by cases hq:Nat.beq k b<;>simp only [cH,hq]<;>rfl
theorem oc(b:Nat) :lU [] b=[]:=rfl
theorem lI(k:Nat)(e:aq)(t:aM)(b:Nat) :lU ((k,e)::t) b=bif Nat.beq k b then lU t b else (k,e)::lU t b:=by cases hq:Nat.beq k b<;>simp only [lU,hq]<;>rfl
theorem jL{a b:Nat}(h : ¬ a=b) :Nat.beq a b=false:=by
  cases e:Nat.beq a b with
  | false=>rfl
  | true=>exact absurd (Nat.eq_of_beq_eq_true e) h
theorem gB(a:Nat) :Nat.beq a a=true:=Nat.beq_refl a
theorem be(h:aM)(b c:Nat)(d:aq) :aB (cH h b d) c=if b=c then some d else aB h c:=by
  induction h with
  | nil =>
    by_cases e:b=c
    · subst e;simp [lH,jA,cq,bP,gB]
    · simp [lH,jA,cq,bP,jL e,e]
  | cons x t ih =>
    obtain ⟨k,e⟩:=x
    by_cases h1:k=b
    · subst h1
      by_cases h2:k=c
      · subst h2;simp [lH,jA,cq,bP,gB]
      · simp [lH,jA,cq,bP,h2,jL h2,gB]
    · by_cases h2:k=c
      · subst h2;simp [lH,jA,cq,bP,jL h1,gB];intro e;exact absurd e.symm h1
      · simp [lH,jA,cq,bP,jL h1,jL h2,ih]
theorem gk(h:aM)(b c:Nat) :aB (lU h b) c=if b=c then none else aB h c:=by
  induction h with
  | nil=>by_cases e:b=c<;>simp [oc,lI,cq,bP,e]
  | cons x t ih =>
    obtain ⟨k,e⟩:=x
    by_cases h1:k=b
    · subst h1
      by_cases h2:k=c
      · subst h2;simp [oc,lI,ih,gB]
      · simp [oc,lI,cq,bP,ih,h2,jL h2,gB]
    · by_cases h2:k=c
      · subst h2;simp [oc,lI,cq,bP,jL h1,gB];intro e;exact absurd e.symm h1
      · simp [oc,lI,cq,bP,jL h1,jL h2,ih]
def aq.void(d:aq) :Prop:=∀ x,d.cell? x=none
structure HR (ρ:af) (w:World) (h:aM) (n:Nat):Prop where
  cell:∀ b d,aB h b=some d→(ρ.ok b∧ρ.live (ρ.at_ b)∧BR ρ w (ρ.at_ b) d)∨(¬ ρ.ok b∧b<n∧d.recKept∧d.void)
  inj:∀ b c d e,aB h b=some d→aB h c=some e→ρ.ok b→ρ.ok c→ρ.at_ b=ρ.at_ c→b=c
  fresh:∀ bl,ρ.live bl→∀ j,¬ ρ.out j bl
  liveLt:∀ bl,ρ.live bl→bl<w.heap.size
  outLt:∀ j bl,ρ.out j bl→bl<w.heap.size
  lt:∀ b,ρ.ok b→b<n
  rom:∀ x∈Rom.tab,VR ρ w x.2 (.pointer (some ⟨x.1,0,none⟩))
theorem HR.real{ρ:af}{w:World}{h:aM}{n b:Nat}{d:aq}(hh:HR ρ w h n)(hg:aB h b=some d)(hok:ρ.ok b) :ρ.live (ρ.at_ b)∧BR ρ w (ρ.at_ b) d:=by
  rcases hh.cell b d hg with q | q
  · exact q.2
  · exact (q.1 hok).elim
theorem HR.solid{ρ:af}{w:World}{h:aM}{n b:Nat}{d:aq}(hh:HR ρ w h n)(hg:aB h b=some d)(he:∃ x e,d.cell? x=some e) :ρ.ok b∧ρ.live (ρ.at_ b)∧BR ρ w (ρ.at_ b) d:=by
  rcases hh.cell b d hg with q | q
  · exact q
  · obtain ⟨x,e,hx⟩:=he
    rw [q.2.2.2 x] at hx;cases hx
theorem HR.rk{ρ:af}{w:World}{h:aM}{n b:Nat}{d:aq}(hh:HR ρ w h n)(hg:aB h b=some d) :d.recKept:=by
  rcases hh.cell b d hg with q | q
  · exact q.2.2.1
  · exact q.2.2.1
theorem BR.mono{ρ ρ':af}{w w':World}{bl:Nat}{d:aq}(E:eI ρ ρ' w)(W:dx ρ.live w w')(hs:w'.heap[bl]? = w.heap[bl]?)(h:BR ρ w bl d) :BR ρ' w' bl d:=by
  obtain ⟨hr,c,t,hc,hv⟩:=h
  refine ⟨hr,c,t,hs.trans hc,fun x v hx=>?_⟩
  obtain ⟨u,h1,h2⟩:=hv x v hx
  exact ⟨u,h1,h2.mono E W⟩
theorem HR.del{ρ:af}{w:World}{h:aM}{n:Nat}(hh:HR ρ w h n)(b:Nat) :HR ρ w (lU h b) n:=by
  have key:∀ c d,aB (lU h b) c=some d→aB h c=some d:=by
    intro c d e
    rw [gk] at e
    split at e
    · cases e
    · exact e
  exact ⟨fun c d e=>hh.cell c d (key c d e),fun a c d e h1 h2=>hh.inj a c d e (key _ _ h1) (key _ _ h2),hh.fresh,hh.liveLt,hh.outLt,hh.lt,hh.rom⟩
theorem HR.le{ρ:af}{w:World}{h:aM}{n m:Nat}(hh:HR ρ w h n)(hm:n≤m) :HR ρ w h m :=
  ⟨fun b d e=>(hh.cell b d e).imp id (fun q=>⟨q.1,Nat.lt_of_lt_of_le q.2.1 hm,q.2.2⟩),hh.inj,hh.fresh,hh.liveLt,hh.outLt,fun b hb=>Nat.lt_of_lt_of_le (hh.lt b hb) hm,hh.rom⟩
theorem HR.step{ρ:af}{w w':World}{h:aM}{n:Nat}(hh:HR ρ w h n)(W:dx ρ.live w w')(hs:∀ bl,ρ.live bl→w'.heap[bl]? = w.heap[bl]?) :HR ρ w' h n :=
  ⟨fun b d e=>(hh.cell b d e).imp (fun q=>⟨q.1,q.2.1,q.2.2.mono (eI.refl ρ w) W (hs _ q.2.1)⟩) id,hh.inj,hh.fresh,
   fun bl hl=>Nat.lt_of_lt_of_le (hh.liveLt bl hl) W.size,fun j bl hl=>Nat.lt_of_lt_of_le (hh.outLt j bl hl) W.size,hh.lt,fun x hx=>(hh.rom x hx).mono (eI.refl ρ w) W⟩
theorem dx.drawn(M:Nat→Prop)(w:World)(k:Nat) :dx M w { w with drawn:=k } :=
  ⟨rfl,rfl,rfl,Nat.le_refl _,fun _ _ _=>rfl,fun _ c _ _ h=>⟨c,h,rfl⟩⟩
theorem HR.drawn{ρ:af}{w:World}{h:aM}{n:Nat}(hh:HR ρ w h n)(k:Nat) :HR ρ { w with drawn:=k } h n :=
  hh.step (dx.drawn _ w k) (fun _ _=>rfl)
theorem dx.alloc(M:Nat→Prop)(w:World)(o:Obj) :dx M w (w.alloc o):=by
  refine ⟨rfl,rfl,rfl,by simp,fun b hb _=>?_,fun b c t fz hc=>⟨c,?_,rfl⟩⟩
  · simp only [World.alloc,Array.getElem?_push];rw [if_neg (by omega)]
  · have:b<w.heap.size:=by
      rcases Nat.lt_or_ge b w.heap.size with h | h
      · exact h
      · rw [Array.getElem?_eq_none h] at hc;cases hc
    simp only [World.alloc,Array.getElem?_push];rw [if_neg (by omega)];exact hc
theorem bW{w:World}{o:Obj}{b:Nat}(hb:b<w.heap.size) :(w.alloc o).heap[b]? = w.heap[b]?:=by
  simp only [World.alloc,Array.getElem?_push];rw [if_neg (by omega)]
theorem aR(w:World)(o:Obj) :(w.alloc o).heap[w.heap.size]? = some o:=by
  unfold World.alloc;simp
def af.give(ρ:af)(b bl:Nat) :af :=
  { at_:=fun x=>if x=b then bl else ρ.at_ x,ok:=fun x=>x=b∨ρ.ok x,live:=fun x=>x=bl∨ρ.live x,out:=ρ.out,pin:=ρ.pin }
theorem eI.give{ρ:af}{w:World}{b bl:Nat}(hb : ¬ ρ.ok b)(hl:w.heap.size≤bl) :eI ρ (ρ.give b bl) w :=
  ⟨fun x hx=>by simp only [af.give];rw [if_neg (fun e:x=b=>hb (by rw [←e];exact hx))],fun _ h=>.inr h,fun _ h=>.inr h,
   fun x hx h=>h.resolve_left (by omega),rfl,rfl⟩
theorem HR.alloc{ρ:af}{w:World}{h:aM}{n b:Nat}(hh:HR ρ w h n)(hb : ¬ ρ.ok b)(hn:b<n)(d:aq)(c:Array Value)(t:TypeId) 
    (hd:d.recKept) (hc:∀ x v,d.cell? x=some v→∃ u,c[x]? = some u∧VR ρ w v u) :
    HR (ρ.give b w.heap.size) (w.alloc (.cells c t)) (cH h b d) n∧eI ρ (ρ.give b w.heap.size) w∧dx ρ.live w (w.alloc (.cells c t)):=by
  have E:eI ρ (ρ.give b w.heap.size) w:=eI.give hb (Nat.le_refl _)
  have W:=dx.alloc ρ.live w (.cells c t)
  refine ⟨⟨fun x e hx=>?_,fun x y e f h1 h2 ok1 ok2 he=>?_,fun bl hl j ho=>?_,fun bl hl=>?_,fun j bl ho=>?_,fun x hx=>?_,fun x hx=>(hh.rom x hx).mono E W⟩,E,W⟩
  · rw [be] at hx
    by_cases hxb:b=x
    · subst hxb
      rw [if_pos rfl] at hx
      cases hx
      refine .inl ⟨.inl rfl,.inl (by simp [af.give]),hd,c,t,?_,fun y v hy=>?_⟩
      · simp only [af.give,if_true];exact aR w _
      · obtain ⟨u,h1,h2⟩:=hc y v hy
        exact ⟨u,h1,h2.mono E W⟩
    · rw [if_neg hxb] at hx
      rcases hh.cell x e hx with ⟨h1,h2,h3⟩ | ⟨h1,h2⟩
      · have e1:(ρ.give b w.heap.size).at_ x=ρ.at_ x:=E.at_ x h1
        rw [e1]
        exact .inl ⟨.inr h1,.inr h2,h3.mono E W (bW (hh.liveLt _ h2))⟩
      · exact .inr ⟨fun q=>q.elim (fun q=>hxb q.symm) h1,h2⟩
  · rw [be] at h1 h2
    have old:∀ z g,b≠z→(if b=z then some d else aB h z)=some g→(ρ.give b w.heap.size).ok z→ρ.ok z∧(ρ.give b w.heap.size).at_ z=ρ.at_ z∧ρ.at_ z<w.heap.size∧aB h z=some g:=by
      intro z g hz hg hok
      rw [if_neg hz] at hg
      have k1:ρ.ok z:=hok.resolve_left (fun q=>hz q.symm)
      exact ⟨k1,E.at_ z k1,hh.liveLt _ (hh.real hg k1).1,hg⟩
    have new:(ρ.give b w.heap.size).at_ b=w.heap.size:=by simp [af.give]
    by_cases hx:b=x
    · by_cases hy:b=y
      · omega
      · obtain ⟨_,q1,q2,_⟩:=old y f hy h2 ok2
        subst hx;omega
    · obtain ⟨q0,q1,q2,q3⟩:=old x e hx h1 ok1
      by_cases hy:b=y
      · subst hy;omega
      · obtain ⟨r0,r1,r2,r3⟩:=old y f hy h2 ok2
        exact hh.inj x y e f q3 r3 q0 r0 (by omega)
  · rcases hl with rfl | hl
    · exact absurd (hh.outLt _ _ ho) (by omega)
    · exact hh.fresh bl hl j ho
  · rcases hl with rfl | hl
    · simp
    · have:=hh.liveLt bl hl;simp;omega
  · have:=hh.outLt j bl ho;simp;omega
  · rcases hx with rfl | hx
    · exact hn
    · exact hh.lt x hx
theorem dx.setCell{M:Nat→Prop}(w:World)(a:Addr)(v:Value)(hM:M a.block) :dx M w (w.setCell a v):=by
  refine ⟨rfl,rfl,rfl,by simp,fun b _ hb=>?_,fun b c t fz hc=>?_⟩
  · simp only [World.setCell,Array.getElem?_modify]
    rw [if_neg (fun e:a.block=b=>hb (by rw [←e];exact hM))]
  · by_cases e:a.block=b
    · subst e
      simp only [World.setCell,Array.getElem?_modify,if_true,hc,Option.map_some]
      refine ⟨_,rfl,?_⟩
      split<;>simp
    · refine ⟨c,?_,rfl⟩
      simp only [World.setCell,Array.getElem?_modify]
      rw [if_neg e];exact hc
theorem HR.store{ρ:af}{w:World}{h:aM}{n b x:Nat}{d d':aq}{u:Value}(hh:HR ρ w h n)(hg:aB h b=some d) 
    (hd:d'.recKept) (hx:∀ y e,d'.cell? y=some e→(y=x∧VR ρ w e u)∨(y≠x∧d.cell? y=some e)) (he:∃ e,d.cell? x=some e) :
    HR ρ (w.setCell ⟨ρ.at_ b,x,none⟩ u) (cH h b d') n∧dx ρ.live w (w.setCell ⟨ρ.at_ b,x,none⟩ u):=by
  obtain ⟨hok,hl,hr,c,t,hc,hcv⟩:=hh.solid hg ⟨x,he⟩
  have W:dx ρ.live w (w.setCell ⟨ρ.at_ b,x,none⟩ u):=dx.setCell w _ u hl
  have E:=eI.refl ρ w
  refine ⟨⟨fun y e hy=>?_,fun y z e f h1 h2 ok1 ok2 he=>?_,hh.fresh,fun bl hl=>?_,fun j bl ho=>?_,hh.lt,fun x hx=>(hh.rom x hx).mono E W⟩,W⟩
  · rw [be] at hy
    by_cases hb:b=y
    · subst hb
      rw [if_pos rfl] at hy
      cases hy
      refine .inl ⟨hok,hl,hd,c.setIfInBounds x u,t,?_,fun y e hy=>?_⟩
      · simp [World.setCell,Array.getElem?_modify,hc]
      · obtain ⟨e0,he0⟩:=he
        obtain ⟨u0,hu0,_⟩:=hcv x e0 he0
        have hlt:x<c.size:=by
          rcases Nat.lt_or_ge x c.size with h | h
          · exact h
          · rw [Array.getElem?_eq_none h] at hu0;cases hu0
        rcases hx y e hy with ⟨rfl,hv⟩ | ⟨hne,ho⟩
        · exact ⟨u,by simp [hlt],hv.mono E W⟩
        · obtain ⟨u1,h1,h2⟩:=hcv y e ho
          exact ⟨u1,by rw [Array.getElem?_setIfInBounds,if_neg (fun q=>hne q.symm)];exact h1,h2.mono E W⟩
    · rw [if_neg hb] at hy
      rcases hh.cell y e hy with ⟨k1,k2,k3⟩ | k
      · refine .inl ⟨k1,k2,k3.mono E W ?_⟩
        simp only [World.setCell,Array.getElem?_modify]
        rw [if_neg (fun q=>hb (hh.inj b y d e hg hy hok k1 q))]
      · exact .inr k
  · have key:∀ z g,(if b=z then some d' else aB h z)=some g→∃ g',aB h z=some g':=by
      intro z g hz
      by_cases q:b=z
      · subst q;exact ⟨d,hg⟩
      · rw [if_neg q] at hz;exact ⟨g,hz⟩
    rw [be] at h1 h2
    obtain ⟨_,g1⟩:=key y e h1
    obtain ⟨_,g2⟩:=key z f h2
    exact hh.inj y z _ _ g1 g2 ok1 ok2 he
  · have:=hh.liveLt bl hl;simp;exact this
  · have:=hh.outLt j bl ho;simp;exact this
def ei(ρ:af)(w:World) :List Deferred→Prop
  | []=>ρ.pin.1≤w.heap.size
  | d::ds=>(∃ D,d = { target:=.collected D,args:=#[] }∧ρ.pin.1≤D∧D<w.heap.size∧¬ ρ.live D∧w.heap[D]? = some (.deferred (some []))∧∀ e∈ds,e ≠ { target:=.collected D,args:=#[] })∧ei ρ w ds
theorem ei.mono{ρ ρ':af}{w w':World}(E:eI ρ ρ' w)(W:dx ρ.live w w') :∀ {l:List Deferred},ei ρ w l→ei ρ' w' l
  | [],h=>by show ρ'.pin.1≤_;rw [E.pin];exact Nat.le_trans h W.size
  | d::ds,⟨⟨D,h1,hb,h2,h3,h4,h5⟩,h⟩=>⟨⟨D,h1,by rw [E.pin];exact hb,Nat.lt_of_lt_of_le h2 W.size,fun q=>h3 (E.new D h2 q),(W.same D h2 h3).trans h4,h5⟩,ei.mono E W h⟩
structure aF where
  tmps:List AV
  heap:aM
  next:Nat
structure SR (ρ:af) (st:aF) (a:Act) (w:World):Prop where
  defers:ei ρ w a.defers
  tmps:bh ρ w st.tmps a.tmps.toList
  heap:HR ρ w st.heap st.next
theorem bh.length{ρ:af}{w:World} :∀ {l:List AV} {c:List Value},bh ρ w l c→l.length=c.length
  | _,_,.nil=>rfl
  | _,_,.cons _ _ _ _ _ t=>by simp [t.length]
theorem bh.get{ρ:af}{w:World} :∀ {l:List AV} {c:List Value} (_:bh ρ w l c) (i:Nat) (v:AV),l[i]? = some v→∃ u,c[i]? = some u∧VR ρ w v u
  | _,_,.nil,i,v,e=>by simp at e
  | _,_,.cons _ u _ _ h t,0,v,e=>by simp at e;subst e;exact ⟨u,by simp,h⟩
  | _,_,.cons _ _ _ _ h t,i+1,v,e=>by simp at e ⊢;exact t.get i v e
theorem bh.set{ρ:af}{w:World}{v:AV}{u:Value}(hv:VR ρ w v u) :∀ {l:List AV} {c:List Value} (_:bh ρ w l c) (i:Nat),bh ρ w (l.set i v) (c.set i u)
  | _,_,.nil,i=>by simp;exact .nil
  | _,_,.cons a b l c h t,0=>by simp;exact .cons _ _ _ _ hv t
  | _,_,.cons a b l c h t,i+1=>by simp;exact .cons _ _ _ _ h (t.set hv i)
theorem bh.append{ρ:af}{w:World}{l':List AV}{c':List Value}(h':bh ρ w l' c') :∀ {l:List AV} {c:List Value} (_:bh ρ w l c),bh ρ w (l++l') (c++c')
  | _,_,.nil=>h'
  | _,_,.cons a b l c h t=>.cons _ _ _ _ h (bh.append h' t)
theorem bh.replicate{ρ:af}{w:World}(n:Nat)(u:Value) :bh ρ w (List.replicate n .any) (List.replicate n u):=by
  induction n with
  | zero=>exact .nil
  | succ n ih=>exact .cons _ _ _ _ (.any u) ih
def Wd(x y:Nat) :Nat:=(FloatKind.f64.format.add x y).getD Dg
def We(x y:Nat) :Nat:=(FloatKind.f64.format.sub x y).getD Dg
def Wf(x y:Nat) :Nat:=(FloatKind.f64.format.mul x y).getD Dg
def fdiv(x y:Nat) :Nat:=(FloatKind.f64.format.div x y).getD Dg
def P8(x:Nat) :Nat:=(FloatKind.f64.format.sqrt x).getD Dg
def P9(x:Nat) :Nat:=x ^^^ 2^63
def kR(x y:Nat) :Option Ordering:=FloatKind.f64.format.order x y
def Wu(x y:Nat) :Bool:=kR x y==some .eq
def flt(x y:Nat) :Bool:=kR x y==some .lt
def Wv(x y:Nat) :Bool:=kR x y==some .lt||kR x y==some .eq
def Ww(x y:Nat) :Bool:=kR x y==some .gt
def Wx(x y:Nat) :Bool:=kR x y==some .gt||kR x y==some .eq
def Wg(x y:Nat) :Bool:=kR x y != some .eq
def T6(x y:Nat) :Nat:=match kR x y with
  | none=>Dg
  | some .lt=>y
  | some .gt=>x
  | some .eq=>if (FloatKind.f64.decode x).neg then y else x
def T7(x y:Nat) :Nat:=match kR x y with
  | none=>Dg
  | some .lt=>x
  | some .gt=>y
  | some .eq=>if (FloatKind.f64.decode x).neg then x else y
theorem FR.refl(ex:Bool)(x:Nat) :FR ex x x:=.inl rfl
theorem od{x:Nat}(h:isNaN x=true) :∃ s t,FloatKind.f64.format.read x=.nan s t:=by
  unfold isNaN FloatKind.decode Ieee.Datum.isNaN at h
  split at h
  · rename_i s t e;exact ⟨s,t,e⟩
  · cases h
theorem lV:isNaN Dg=true:=by decide +kernel
theorem OC(s:Bool)(t:Nat)(d:Ieee.Datum) :(Ieee.Datum.nan s t).sum d=none:=by cases d<;>rfl
theorem OD(s:Bool)(t:Nat)(d:Ieee.Datum) :d.sum (.nan s t)=none:=by cases d<;>rfl
theorem zq(s:Bool)(t:Nat)(d:Ieee.Datum) :(Ieee.Datum.nan s t).product d=none:=by cases d<;>rfl
theorem zr(s:Bool)(t:Nat)(d:Ieee.Datum) :d.product (.nan s t)=none:=by cases d<;>rfl
theorem wh(k:Nat)(s:Bool)(t:Nat)(d:Ieee.Datum) :(Ieee.Datum.nan s t).quotient k d=none:=by cases d<;>rfl
theorem wj(k:Nat)(s:Bool)(t:Nat)(d:Ieee.Datum) :d.quotient k (.nan s t)=none:=by cases d<;>rfl
theorem Fv(s:Bool)(t:Nat)(d:Ieee.Datum) :(Ieee.Datum.nan s t).order d=none:=by cases d<;>rfl
theorem Fw(s:Bool)(t:Nat)(d:Ieee.Datum) :d.order (.nan s t)=none:=by cases d<;>rfl
theorem vV(op:BinOp){x y:Nat}(h:isNaN x=true∨isNaN y=true) :floatBits op .f64 x y=none:=by
  have hn:∀ {z:Nat} {P:Prop},isNaN z=true→(∀ s t,FloatKind.f64.format.read z=.nan s t→P)→P:=fun h k=>let ⟨s,t,e⟩:=od h;k s t e
  unfold floatBits
  rcases h with h | h<;>obtain ⟨s,t,e⟩:=od h<;>cases op <;>
    simp [Ieee.Format.add,Ieee.Format.sub,Ieee.Format.mul,Ieee.Format.div,e,OC,OD,zq,zr,wh,wj,Ieee.Datum.opposite]
def U3(op:BinOp)(x y:Nat) :Nat:=(floatBits op .f64 x y).getD Dg
theorem U4{op:BinOp}{e1 e2:Bool}{x y x' y':Nat}(h1:FR e1 x x')(h2:FR e2 y y') :floatBits op .f64 x' y'=floatBits op .f64 x y:=by
  rcases h1 with rfl | ⟨_,n1,n1'⟩
  · rcases h2 with rfl | ⟨_,n2,n2'⟩
    · rfl
    · rw [vV op (.inr n2),vV op (.inr n2')]
  · rw [vV op (.inl n1),vV op (.inl n1')]
theorem pk{x y:Nat}(h:isNaN x=true∨isNaN y=true) :kR x y=none:=by
  unfold kR Ieee.Format.order
  rcases h with h | h<;>obtain ⟨s,t,e⟩:=od h<;>simp [e,Fv,Fw]
theorem JB{e1 e2:Bool}{x y x' y':Nat}(h1:FR e1 x x')(h2:FR e2 y y') :kR x' y'=kR x y:=by
  rcases h1 with rfl | ⟨_,n1,n1'⟩
  · rcases h2 with rfl | ⟨_,n2,n2'⟩
    · rfl
    · rw [pk (.inr n2),pk (.inr n2')]
  · rw [pk (.inl n1),pk (.inl n1')]
theorem fA(x:Nat) :isNaN x=decide (9218868437227405312<x%9223372036854775808):=by
  unfold isNaN FloatKind.decode Ieee.Format.read Ieee.Datum.isNaN
  have h1:Ieee.Format.signWeight FloatKind.f64.format=9223372036854775808:=by decide
  have h2:Ieee.Format.binade FloatKind.f64.format=4503599627370496:=by decide
  have h3:Ieee.Format.infRung FloatKind.f64.format=9218868437227405312:=by decide
  simp only [h1,h2,h3]
  generalize x%9223372036854775808=r
  by_cases c1:r<4503599627370496
  · simp [c1];omega
  · by_cases c2:r<9218868437227405312
    · simp [c1,c2];omega
    · by_cases c3:r=9218868437227405312
      · simp [c3]
      · simp [c1,c2,c3];omega
theorem Mk(x y t:Nat) :isNaN ((Question.nanBits .f64 x y).cut t)=true:=by
  rw [fA]
  have e:(Question.nanBits .f64 x y).cut t=t%2*2^63+0x7ff0000000000000+1+t/2%(2^52-1):=rfl
  rw [e]
  have hb:t/2%(2^52-1)<2^52-1:=Nat.mod_lt _ (by decide)
  generalize t/2%(2^52-1)=r at hb
  apply decide_eq_true
  rcases Nat.mod_two_eq_zero_or_one t with h | h<;>rw [h]<;>omega
theorem kj{P:Program}{op:BinOp}(ho:op=.add∨op=.sub∨op=.mul∨op=.quo){e1 e2:Bool}{x y x' y':Nat}(h1:FR e1 x x')(h2:FR e2 y y')(w:World) :
    ∃ u k,(Op.floatArith op .f64 x' y').run P w=.ok (.float .f64 u) { w with drawn:=k }∧FR false (U3 op x y) u:=by
  have e:=U4 (op:=op) h1 h2
  have key:∀ r,floatBits op .f64 x' y'=r→(Op.floatArith op .f64 x' y')=(match r with | some r=>pure (.float .f64 r) | none=>do pure (.float .f64 (←choose (.nanBits .f64 x' y')))):=by
    intro r hr
    subst hr
    rcases ho with rfl | rfl | rfl | rfl<;>rfl
  cases hr:floatBits op .f64 x' y' with
  | some r =>
    rw [key _ hr]
    refine ⟨r,w.drawn,rfl,.inl ?_⟩
    rw [e] at hr;simp [U3,hr]
  | none =>
    rw [key _ hr]
    refine ⟨_,w.drawn+1,rfl,.inr ⟨rfl,?_,Mk x' y' _⟩⟩
    rw [e] at hr;simp [U3,hr,lV]
theorem A9{e1 e2:Bool}{x y x' y':Nat}{o:Ordering}(h1:FR e1 x x')(h2:FR e2 y y')(h:kR x y=some o) :x'=x∧y'=y:=by
  constructor
  · rcases h1 with q | ⟨_,n,_⟩
    · exact q
    · rw [pk (.inl n)] at h;cases h
  · rcases h2 with q | ⟨_,n,_⟩
    · exact q
    · rw [pk (.inr n)] at h;cases h
theorem Ml(b:Bool)(x y t:Nat) :isNaN ((Question.nanMinMax .f64 b x y).cut t)=true:=by
  rw [fA]
  have e:(Question.nanMinMax .f64 b x y).cut t=t%2*2^63+0x7ff0000000000000+1+t/2%(2^52-1):=rfl
  rw [e]
  have hb:t/2%(2^52-1)<2^52-1:=Nat.mod_lt _ (by decide)
  generalize t/2%(2^52-1)=r at hb
  apply decide_eq_true
  rcases Nat.mod_two_eq_zero_or_one t with h | h<;>rw [h]<;>omega
theorem OE{P:Program}{e1 e2:Bool}{x y x' y':Nat}(h1:FR e1 x x')(h2:FR e2 y y')(w:World) :
    ∃ u k,(Builtin.max2 (.float .f64 x') (.float .f64 y')).run P w=.ok (.float .f64 u) { w with drawn:=k }∧FR false (T6 x y) u:=by
  have e:=JB h1 h2
  have key:∀ r,kR x' y'=r→Builtin.max2 (.float .f64 x') (.float .f64 y')=(match r with
    | none=>do pure (.float .f64 (←choose (.nanMinMax .f64 true x' y')))
    | some .lt=>pure (.float .f64 y')
    | some .gt=>pure (.float .f64 x')
    | some .eq=>pure (.float .f64 (if (FloatKind.f64.decode x').neg then y' else x'))):=by
    intro r hr
    subst hr
    rfl
  cases hr:kR x' y' with
  | none =>
    rw [key _ hr]
    refine ⟨_,w.drawn+1,rfl,.inr ⟨rfl,?_,Ml true x' y' _⟩⟩
    rw [e] at hr;simp [T6,hr,lV]
  | some o =>
    have hr':=hr
    rw [e] at hr
    obtain ⟨rfl,rfl⟩:=A9 h1 h2 hr
    rw [key _ hr']
    cases o<;>exact ⟨_,w.drawn,rfl,.inl (by simp [T6,hr])⟩
theorem OF{P:Program}{e1 e2:Bool}{x y x' y':Nat}(h1:FR e1 x x')(h2:FR e2 y y')(w:World) :
    ∃ u k,(Builtin.min2 (.float .f64 x') (.float .f64 y')).run P w=.ok (.float .f64 u) { w with drawn:=k }∧FR false (T7 x y) u:=by
  have e:=JB h1 h2
  have key:∀ r,kR x' y'=r→Builtin.min2 (.float .f64 x') (.float .f64 y')=(match r with
    | none=>do pure (.float .f64 (←choose (.nanMinMax .f64 false x' y')))
    | some .lt=>pure (.float .f64 x')
    | some .gt=>pure (.float .f64 y')
    | some .eq=>pure (.float .f64 (if (FloatKind.f64.decode x').neg then x' else y'))):=by
    intro r hr
    subst hr
    rfl
  cases hr:kR x' y' with
  | none =>
    rw [key _ hr]
    refine ⟨_,w.drawn+1,rfl,.inr ⟨rfl,?_,Ml false x' y' _⟩⟩
    rw [e] at hr;simp [T7,hr,lV]
  | some o =>
    have hr':=hr
    rw [e] at hr
    obtain ⟨rfl,rfl⟩:=A9 h1 h2 hr
    rw [key _ hr']
    cases o<;>exact ⟨_,w.drawn,rfl,.inl (by simp [T7,hr])⟩
def eQ(k:IntKind)(e:Int) :Bool:=decide (k.min≤e)&&decide (e≤k.max)
def fK(i:Int)(n:Nat) :Bool:=decide (0≤i)&&decide (i<(n:Int))
def nW(i:Int)(n:Nat) :Bool:=decide (0≤i)&&decide (i≤(n:Int))
def cD:Nat→Nat→Nat
  | 0,k=>k
  | i+1,k=>i+1+k
def zt(l:Nat) :Nat→Nat
  | 1=>l
  | s=>l*s
@[simp] theorem fj (i k:Nat):cD i k=i+k:=by cases i<;>simp [cD]
@[simp] theorem pm (l s:Nat):zt l s=l*s:=by unfold zt;split<;>simp_all
def tI(w es:Nat) :Option Nat:=bif Nat.beq es w then some 1 else bif Nat.beq w 1 then some es else none
theorem po{w es s:Nat}(h:tI w es=some s) :s*w=es:=by
  unfold tI at h
  cases e1:Nat.beq es w with
  | true=>simp only [e1,cond_true] at h;cases h;have:=Nat.eq_of_beq_eq_true e1;omega
  | false =>
    simp only [e1,cond_false] at h
    cases e2:Nat.beq w 1 with
    | true=>simp only [e2,cond_true] at h;cases h;have:=Nat.eq_of_beq_eq_true e2;subst this;omega
    | false=>simp only [e2,cond_false] at h;cases h
def cF:Value→AV
  | .bool b=>.bool true b
  | .int k n=>.int k n
  | .float .f64 b=>.flt true b
  | .string s=>.str s
  | .pointer none=>.nptr
  | .slice none 0 0=>.nsl
  | .nilFunc=>.nfn
  | .nilIface=>.niface
  | _=>.any
theorem ic(ρ:af)(w:World)(v:Value) :VR ρ w (cF v) v:=by
  unfold cF
  split<;>first | exact .bool _ _ | exact .int _ _ | exact .flt _ _ _ (.inl rfl) | exact .str _ | exact .nptr | exact .nsl | exact .nfn | exact .niface | exact .any _
def Mm:List (Nat×AV)→Nat→AV
  | [],_=>.any
  | (k,d)::l,g=>match Nat.beq k g with
    | true=>d
    | false=>Mm l g
theorem Fx{ρ:af}{w:World}{g:Nat} :∀ {l:List (Nat×AV)},(∀ x∈l,VR ρ w x.2 (.pointer (some ⟨x.1,0,none⟩)))→VR ρ w (Mm l g) (.pointer (some ⟨g,0,none⟩))
  | [],_=>.any _
  | (k,d)::l,h=>by
    simp only [Mm]
    split
    · rename_i e
      have:=h (k,d) (by simp)
      rw [←Nat.eq_of_beq_eq_true e];exact this
    · exact Fx fun x hx=>h x (by simp [hx])
def OG:List AV→Nat→AV:=fun l=>List.rec (motive:=fun _=>Nat→AV) (fun _=>.any) (fun v _ ih n=>Nat.rec (motive:=fun _=>AV) v (fun m _=>ih m) n) l
def T8:List AV→Nat→Option AV:=fun l=>List.rec (motive:=fun _=>Nat→Option AV) (fun _=>none) (fun v _ ih n=>Nat.rec (motive:=fun _=>Option AV) (some v) (fun m _=>ih m) n) l
def OH:List AV→Nat→AV→List AV:=fun l n x=>List.rec (motive:=fun _=>Nat→List AV) (fun _=>[]) (fun v t ih n=>Nat.rec (motive:=fun _=>List AV) (x::t) (fun m _=>v::ih m) n) l n
theorem Dh:∀ (l:List AV) (n:Nat),OG l n=(l[n]?).getD .any
  | [],n=>by simp [OG]
  | v::l,0=>rfl
  | v::l,n+1=>by show OG l n=_;rw [Dh l n];simp
theorem Di:∀ (l:List AV) (n:Nat),T8 l n=l[n]?
  | [],n=>by simp [T8]
  | v::l,0=>rfl
  | v::l,n+1=>by show T8 l n=_;rw [Di l n];simp
theorem pq:∀ (l:List AV) (n:Nat) (x:AV),OH l n x=l.set n x
  | [],n,x=>by simp [OH]
  | v::l,0,x=>rfl
  | v::l,n+1,x=>by have:=pq l n x;show v::OH l n x=_;rw [this];rfl
def OI(tmps:List AV) :Operand→AV
  | .tmp t=>OG tmps t
  | .const v=>cF v
  | .func f=>.fn (.func f) [] []
  | .global g=>Mm Rom.tab g
theorem oe{ρ:af}{w:World}{tmps:List AV}{a:Act}(hr:∀ x∈Rom.tab,VR ρ w x.2 (.pointer (some ⟨x.1,0,none⟩)))(h:bh ρ w tmps a.tmps.toList)(x:Operand) :VR ρ w (OI tmps x) (a.eval x):=by
  cases x with
  | tmp t =>
    simp only [OI,Dh,Act.eval]
    cases e:tmps[t]? with
    | none=>exact .any _
    | some v =>
      obtain ⟨u,h1,h2⟩:=h.get t v e
      have:a.tmps.getD t undef=u:=by
        rw [Array.getD_eq_getD_getElem?];rw [Array.getElem?_toList] at h1;rw [h1];rfl
      rw [this];exact h2
  | const v=>exact ic ρ w v
  | func f=>exact .fn _ _ _ _ _ .nil .nil
  | global g=>exact Fx hr
def qa(k:IntKind)(e:Int) :AV×List Bool :=
  match k with
  | .i64=>(.int .i64 e,[eQ .i64 e])
  | k=>(.int k (k.wrap e),[])
def cj(op:BinOp)(k:IntKind)(x y:Int) :Int :=
  k.wrap ((match op with
    | .and=>BitVec.ofInt k.bits x &&& BitVec.ofInt k.bits y
    | .or=>BitVec.ofInt k.bits x ||| BitVec.ofInt k.bits y
    | .xor=>BitVec.ofInt k.bits x ^^^ BitVec.ofInt k.bits y
    | _=>BitVec.ofInt k.bits x &&& ~~~ BitVec.ofInt k.bits y).toNat)
def bc(a b:IntKind) :Bool:=decide (a=b)
def VG(op:BinOp)(x y:Int) :Option Bool :=
  match op with
  | .eql=>some (x==y)
  | .neq=>some (x != y)
  | .lss=>some (decide (x<y))
  | .leq=>some (decide (x≤y))
  | .gtr=>some (decide (x>y))
  | .geq=>some (decide (x≥y))
  | _=>none
def JC(op:BinOp)(k:IntKind)(x y:Int) :Option (AV×List Bool) :=
  match op with
  | .add=>some (qa k (x+y))
  | .sub=>some (qa k (x-y))
  | .mul=>some (qa k (x*y))
  | .quo=>some ((qa k (x.tdiv y)).1,(y != 0)::(qa k (x.tdiv y)).2)
  | .rem=>some (.int k (x.tmod y),[y != 0])
  | .and | .or | .xor | .andNot=>some (.int k (cj op k x y),[])
  | .shl | .shr=>none
  | op=>(VG op x y).map fun b=>(.bool false b,[])
def JD(op:BinOp)(x y:Nat) :Option AV :=
  match op with
  | .add=>some (.flt false (Wd x y))
  | .sub=>some (.flt false (We x y))
  | .mul=>some (.flt false (Wf x y))
  | .quo=>some (.flt false (fdiv x y))
  | .eql=>some (.bool false (Wu x y))
  | .neq=>some (.bool false (Wg x y))
  | .lss=>some (.bool false (flt x y))
  | .leq=>some (.bool false (Wv x y))
  | .gtr=>some (.bool false (Ww x y))
  | .geq=>some (.bool false (Wx x y))
  | _=>none
def JE(op:BinOp)(x y:ByteArray) :Option (AV×List Bool) :=
  match op with
  | .add=>some (.str (x++y),[decide (x.size+y.size≤9223372036854775807)])
  | .eql=>some (.bool false (x.toList==y.toList),[])
  | .neq=>some (.bool false (!(x.toList==y.toList)),[])
  | .lss=>some (.bool false (Op.bytesLess x.toList y.toList),[])
  | .leq=>some (.bool false (Op.bytesLess x.toList y.toList||x.toList==y.toList),[])
  | .gtr=>some (.bool false (!(Op.bytesLess x.toList y.toList||x.toList==y.toList)),[])
  | .geq=>some (.bool false (!Op.bytesLess x.toList y.toList),[])
  | _=>none
def wk:AV→Option (Bool×List Bool)
  | .nsl=>some (true,[])
  | .imm _ _ _ _ _ len=>some (false,[Nat.blt 0 len])
  | .sl _ _ _ _ len _=>some (false,[Nat.blt 0 len])
  | .zsl b=>some (b,[])
  | _=>none
def rP:AV→Option (Bool×List Bool)
  | .nptr=>some (true,[])
  | .ptr .. | .iptr ..=>some (false,[])
  | _=>none
def wl:AV→Option (Bool×List Bool)
  | .nfn=>some (true,[])
  | .fn ..=>some (false,[])
  | _=>none
def og(op:BinOp)(r:Option (Bool×List Bool)) :Option (AV×List Bool) :=
  match op,r with
  | .eql,some (b,o)=>some (.bool true b,o)
  | .neq,some (b,o)=>some (.bool true (!b),o)
  | _,_=>none
def Dj(wr:Bool)(op:BinOp)(k:IntKind)(x y:Int) :Option (AV×List Bool) :=
  match wr,k,op with
  | true,.i64,.add=>some (.int .i64 (IntKind.i64.wrap (x+y)),[])
  | true,.i64,.sub=>some (.int .i64 (IntKind.i64.wrap (x-y)),[])
  | true,.i64,.mul=>some (.int .i64 (IntKind.i64.wrap (x*y)),[])
  | _,k,op=>JC op k x y
def tJ(P:Program)(t:TypeId) :Bool:=match P.underlying t with | some (.int _)=>true | _=>false
def oh(P:Program)(t:TypeId) :Bool :=
  match P.underlying t with
  | some (.struct fs)=>match fs.toList with
    | [f, g] => (tJ P f.type && tJ P g.type) && ((Nat.beq f.offset 0 && Nat.beq g.offset 1) && ((f.name != "_" && g.name != "_") && (!P.stoodInHeld t && !P.eqGuardType P.depth t)))
    | _=>false
  | _=>false
def Mn:AV→AV→Option Bool
  | .agg [.int k a,.int q b],.agg [.int k' a',.int q' b']=>bif bc k k'&&bc q q' then some (a==a'&&b==b') else none
  | _,_=>none
def Qa(wr:Bool)(P:Program)(op:BinOp)(t:TypeId)(x y:AV) :Option (AV×List Bool) :=
  match op,x,y with
  | .shl,.int k a,.int _ b=>some (.int k (k.wrap (a*2^(min b.toNat k.bits))),[decide (0≤b)])
  | .shr,.int k a,.int _ b=>some (.int k (a.fdiv (2^(min b.toNat k.bits))),[decide (0≤b)])
  | op,.int k a,.int k' b=>bif bc k k' then Dj wr op k a b else none
  | op,.flt _ a,.flt _ b=>(JD op a b).map fun v=>(v,[])
  | op,.str a,.str b=>JE op a b
  | .eql,.bool _ a,.bool _ b=>match P.underlying t with | some .bool=>some (.bool false (a==b),[]) | _=>none
  | .neq,.bool _ a,.bool _ b=>match P.underlying t with | some .bool=>some (.bool false (!(a==b)),[]) | _=>none
  | .eql,.agg xs,.agg ys=>bif oh P t then (Mn (.agg xs) (.agg ys)).map fun b=>(.bool false b,[]) else none
  | .neq,.agg xs,.agg ys=>bif oh P t then (Mn (.agg xs) (.agg ys)).map fun b=>(.bool false (!b),[]) else none
  | op,a,.nsl=>match P.underlying t with | some (.slice _)=>og op (wk a) | _=>none
  | op,a,.nptr=>match P.underlying t with | some (.pointer _)=>og op (rP a) | _=>none
  | op,a,.nfn=>match P.underlying t with | some (.func ..)=>og op (wl a) | _=>none
  | op,.ptr b w i j,.ptr b' w' i' j'=>match P.underlying t with
    | some (.pointer e)=>match P.info? e with
      | some inf=>bif Nat.beq b b'&&Nat.blt 0 inf.size then og op (some (Nat.beq (i*w+j) (i'*w'+j'),[])) else none
      | none=>none
    | _=>none
  | _,_,_=>none
def dM(P:Program)(ρ:af)(w:World)(s:Sem Value)(v:AV) :Prop:=∃ u k,s.run P w=.ok u { w with drawn:=k }∧VR ρ w v u
theorem dM.plain{P:Program}{ρ:af}{w:World}{s:Sem Value}{v:AV}{u:Value}(h:s.run P w=.ok u w)(hv:VR ρ w v u) :dM P ρ w s v:=⟨u,w.drawn,h,hv⟩
theorem dM.ret{P:Program}{ρ:af}{w:World}{v:AV}{u:Value}(hv:VR ρ w v u) :dM P ρ w (Pure.pure u) v:=.plain rfl hv
theorem Qb{k:IntKind}{e:Int}(h:eQ k e=true) :k.wrap e=e:=by
  simp only [eQ,Bool.and_eq_true,decide_eq_true_eq] at h
  cases k<;>simp [IntKind.min,IntKind.max,IntKind.signed,IntKind.bits] at h<;>simp [IntKind.wrap,IntKind.signed,IntKind.bits]<;>(try split)<;>omega
def ap:List Bool→Prop
  | []=>True
  | b::l=>b=true∧ap l
theorem wn(ρ:af)(w:World)(k:IntKind)(e:Int)(h:ap (qa k e).2) :VR ρ w (qa k e).1 (.int k (k.wrap e)):=by
  cases k<;>simp only [qa] at h ⊢ <;> first | exact .int _ _ | (rw [Qb h.1];exact .int _ _)
theorem Dk{P:Program}{ρ:af}{w:World}{op:BinOp}{k:IntKind}{x y:Int}{v:AV}{obs:List Bool}(h:JC op k x y=some (v,obs))(ho:ap obs)(t:TypeId) :
    dM P ρ w (binOp op t (.int k x) (.int k y)) v:=by
  have nz:∀ {z:Int},(z != 0)=true→¬ z=0:=fun h e=>by subst e;simp at h
  have ar:∀ e,qa k e=(v,obs)→VR ρ w v (.int k (k.wrap e)):=by
    intro e h
    have h1:=congrArg Prod.fst h
    have h2:=congrArg Prod.snd h
    simp only at h1 h2
    rw [←h1];exact wn ρ w k e (by rw [h2];exact ho)
  cases op<;>simp only [JC,VG,Option.map,Option.some.injEq,reduceCtorEq] at h
  case add=>simp only [binOp,Op.intArith,ne_eq,not_true_eq_false,if_false];exact .ret (ar _ h)
  case sub=>simp only [binOp,Op.intArith,ne_eq,not_true_eq_false,if_false];exact .ret (ar _ h)
  case mul=>simp only [binOp,Op.intArith,ne_eq,not_true_eq_false,if_false];exact .ret (ar _ h)
  case quo =>
    simp only [Prod.mk.injEq] at h;obtain ⟨rfl,rfl⟩:=h
    have:=nz ho.1
    simp only [binOp,Op.intDiv,this,if_false,ne_eq,not_true_eq_false]
    exact .ret (wn ρ w k _ ho.2)
  case rem =>
    simp only [Prod.mk.injEq] at h;obtain ⟨rfl,rfl⟩:=h
    have:=nz ho.1
    simp only [binOp,Op.intDiv,this,if_false,ne_eq,not_true_eq_false]
    exact .ret (.int _ _)
  all_goals (simp only [Prod.mk.injEq] at h;obtain ⟨rfl,rfl⟩:=h;simp only [binOp,Op.intBits,Op.intCmp,ne_eq,not_true_eq_false,if_false];first | exact .ret (.int _ _) | exact .ret (.bool _ _))
theorem Dl{P:Program}{ρ:af}{w:World}{op:BinOp}{e1 e2:Bool}{x y x' y':Nat}{v:AV}(h1:FR e1 x x')(h2:FR e2 y y')(h:JD op x y=some v)(t:TypeId) :
    dM P ρ w (binOp op t (.float .f64 x') (.float .f64 y')) v:=by
  have eo:=JB h1 h2
  unfold kR at eo
  cases op<;>simp only [JD,Option.some.injEq,reduceCtorEq] at h<;>subst h
  case add=>obtain ⟨u,k,r,hv⟩:=kj (P:=P) (op:=.add) (by simp) h1 h2 w;exact ⟨_,k,by simpa [binOp] using r,.flt _ _ _ hv⟩
  case sub=>obtain ⟨u,k,r,hv⟩:=kj (P:=P) (op:=.sub) (by simp) h1 h2 w;exact ⟨_,k,by simpa [binOp] using r,.flt _ _ _ hv⟩
  case mul=>obtain ⟨u,k,r,hv⟩:=kj (P:=P) (op:=.mul) (by simp) h1 h2 w;exact ⟨_,k,by simpa [binOp] using r,.flt _ _ _ hv⟩
  case quo=>obtain ⟨u,k,r,hv⟩:=kj (P:=P) (op:=.quo) (by simp) h1 h2 w;exact ⟨_,k,by simpa [binOp] using r,.flt _ _ _ hv⟩
  all_goals
    simp only [binOp,Op.floatCmp,ne_eq,not_true_eq_false,if_false]
    refine .ret ?_
    simp only [Wu,Wg,flt,Wv,Ww,Wx,kR,←eo]
    exact .bool _ _
theorem Dm{P:Program}{ρ:af}{w:World}{op:BinOp}{x y:ByteArray}{v:AV}{obs:List Bool}(h:JE op x y=some (v,obs))(ho:ap obs)(t:TypeId) :
    dM P ρ w (binOp op t (.string x) (.string y)) v:=by
  cases op<;>simp only [JE,Option.some.injEq,Prod.mk.injEq,reduceCtorEq] at h<;>obtain ⟨rfl,rfl⟩:=h
  case add =>
    have h1:x.size+y.size≤9223372036854775807:=of_decide_eq_true ho.1
    have h2 : ¬ ((x.size+y.size:Nat):Int)>IntKind.i64.max:=by
      have:IntKind.i64.max=9223372036854775807:=by decide
      rw [this];omega
    simp only [binOp,Op.stringOp,h2,if_false]
    exact .ret (.str _)
  all_goals (simp only [binOp,Op.stringOp];exact .ret (.bool _ _))
theorem lJ{P:Program}{t:TypeId}(hu:P.underlying t=some .bool)(d:Nat)(a b:Bool)(w:World) :(Op.equalIn (d+1) t (.bool a) (.bool b)).run P w=.ok (a==b) w:=by
  unfold Op.equalIn;simp [run_underlying hu]
theorem Fy{P:Program}{t:TypeId}(hu:P.underlying t=some .bool)(a b:Bool)(w:World) :(binOp .eql t (.bool a) (.bool b)).run P w=.ok (.bool (a==b)) w:=by
  have h:=lJ hu 9999 a b w
  show (do pure (Value.bool (←Op.equalIn 10000 t (.bool a) (.bool b))):Sem Value).run P w=_
  rw [Sem.run_bind,h];rfl
theorem Fz{P:Program}{t:TypeId}(hu:P.underlying t=some .bool)(a b:Bool)(w:World) :(binOp .neq t (.bool a) (.bool b)).run P w=.ok (.bool (!(a==b))) w:=by
  have h:=lJ hu 9999 a b w
  show (do pure (Value.bool (!(←Op.equalIn 10000 t (.bool a) (.bool b)))):Sem Value).run P w=_
  rw [Sem.run_bind,h];rfl
theorem Mo{P:Program}{t:TypeId}{x y:Value}{b:Bool}{w:World}(h:∀ d,(Op.equalIn (d+1) t x y).run P w=.ok b w) :
    (do pure (Value.bool (←Op.equal t x y)):Sem Value).run P w=.ok (.bool b) w∧(do pure (Value.bool (!(←Op.equal t x y))):Sem Value).run P w=.ok (.bool (!b)) w:=by
  have h':(Op.equal t x y).run P w=.ok b w:=h 9999
  constructor<;>(rw [Sem.run_bind,h'];rfl)
theorem gC{P:Program}{ρ:af}{w:World}{op:BinOp}{t:TypeId}{x y:Value}{v:AV}{obs:List Bool}{r:Option (Bool×List Bool)}(h:og op r=some (v,obs)) 
    (e1:binOp .eql t x y=(do pure (Value.bool (←Op.equal t x y)):Sem Value)) (e2:binOp .neq t x y=(do pure (Value.bool (!(←Op.equal t x y))):Sem Value))
    (hr:∀ b o,r=some (b,o)→o=obs→∀ d,(Op.equalIn (d+1) t x y).run P w=.ok b w):dM P ρ w (binOp op t x y) v:=by
  unfold og at h
  split at h
  · rename_i b o
    simp only [Option.some.injEq,Prod.mk.injEq] at h;obtain ⟨rfl,rfl⟩:=h
    rw [e1];exact .plain (Mo (hr b o rfl rfl)).1 (.bool _ _)
  · rename_i b o
    simp only [Option.some.injEq,Prod.mk.injEq] at h;obtain ⟨rfl,rfl⟩:=h
    rw [e2];exact .plain (Mo (hr b o rfl rfl)).2 (.bool _ _)
  · cases h
theorem OJ{P:Program}{ρ:af}{w:World}{t e:TypeId}(hu:P.underlying t=some (.slice e)){x:AV}{x':Value}(hx:VR ρ w x x'){b:Bool}{o:List Bool}(h:wk x=some (b,o))(ho:ap o)(d:Nat) :
    (Op.equalIn (d+1) t x' (.slice none 0 0)).run P w=.ok b w:=by
  unfold wk at h
  split at h<;>simp only [Option.some.injEq,Prod.mk.injEq,reduceCtorEq] at h<;>obtain ⟨rfl,rfl⟩:=h
  · cases hx
    unfold Op.equalIn;simp [run_underlying hu]
  · have h0:=ho.1
    cases hx with
    | imm=>unfold Op.equalIn;simp [run_underlying hu]
    | immEnd=>simp at h0
  · have h0:=ho.1
    cases hx with
    | sl=>unfold Op.equalIn;simp [run_underlying hu]
    | slEnd=>simp at h0
  · cases hx with | zsl a c=>cases a<;>(unfold Op.equalIn;simp [run_underlying hu])
theorem JF{P:Program}{ρ:af}{w:World}{t e:TypeId}(hu:P.underlying t=some (.pointer e)){x:AV}{x':Value}(hx:VR ρ w x x'){b:Bool}{o:List Bool}(h:rP x=some (b,o))(d:Nat) :
    (Op.equalIn (d+1) t x' (.pointer none)).run P w=.ok b w:=by
  unfold rP at h
  split at h<;>simp only [Option.some.injEq,Prod.mk.injEq,reduceCtorEq] at h<;>obtain ⟨rfl,rfl⟩:=h
  all_goals (cases hx;unfold Op.equalIn;simp [run_underlying hu])
theorem rQ{ρ:af}{w:World}{x:AV}{x':Value}(hx:VR ρ w x x'){b:Bool}{o:List Bool}(h:wk x=some (b,o)) :∃ a l c,x'=.slice a l c:=by
  unfold wk at h
  split at h<;>first | (cases hx<;>exact ⟨_,_,_,rfl⟩) | cases h
theorem qb{ρ:af}{w:World}{x:AV}{x':Value}(hx:VR ρ w x x'){b:Bool}{o:List Bool}(h:rP x=some (b,o)) :∃ a,x'=.pointer a:=by
  unfold rP at h
  split at h<;>first | (cases hx<;>exact ⟨_,rfl⟩) | cases h
theorem Ba{P:Program}{ρ:af}{w:World}{t:TypeId}{ps rs:Array TypeId}{vd:Bool}(hu:P.underlying t=some (.func ps rs vd)){x:AV}{x':Value}(hx:VR ρ w x x'){b:Bool}{o:List Bool}(h:wl x=some (b,o))(d:Nat) :
    (Op.equalIn (d+1) t x' .nilFunc).run P w=.ok b w:=by
  unfold wl at h
  split at h<;>simp only [Option.some.injEq,Prod.mk.injEq,reduceCtorEq] at h<;>obtain ⟨rfl,rfl⟩:=h
  all_goals (cases hx;unfold Op.equalIn;simp [run_underlying hu])
theorem rR{ρ:af}{w:World}{x:AV}{x':Value}(hx:VR ρ w x x'){b:Bool}{o:List Bool}(h:wl x=some (b,o)) :(∃ f c d,x'=.func f c d)∨x'=.nilFunc:=by
  unfold wl at h
  split at h<;>first | (cases hx<;>first | exact .inr rfl | exact .inl ⟨_,_,_,rfl⟩) | cases h
theorem gl{op:BinOp}{r:Option (Bool×List Bool)}{v:AV}{obs:List Bool}(h:og op r=some (v,obs)) :∃ b,r=some (b,obs)∧(op=.eql∨op=.neq):=by
  unfold og at h
  split at h<;>simp only [Option.some.injEq,Prod.mk.injEq,reduceCtorEq] at h<;>obtain ⟨_,rfl⟩:=h
  · exact ⟨_,rfl,.inl rfl⟩
  · exact ⟨_,rfl,.inr rfl⟩
theorem zu{P:Program}{ρ:af}{w:World}{wr:Bool}{op:BinOp}{k:IntKind}{x y:Int}{v:AV}{obs:List Bool}(h:Dj wr op k x y=some (v,obs))(ho:ap obs)(t:TypeId) :
    dM P ρ w (binOp op t (.int k x) (.int k y)) v:=by
  unfold Dj at h
  split at h
  · simp only [Option.some.injEq,Prod.mk.injEq] at h;obtain ⟨rfl,rfl⟩:=h
    simp only [binOp,Op.intArith,ne_eq,not_true_eq_false,if_false];exact .ret (.int _ _)
  · simp only [Option.some.injEq,Prod.mk.injEq] at h;obtain ⟨rfl,rfl⟩:=h
    simp only [binOp,Op.intArith,ne_eq,not_true_eq_false,if_false];exact .ret (.int _ _)
  · simp only [Option.some.injEq,Prod.mk.injEq] at h;obtain ⟨rfl,rfl⟩:=h
    simp only [binOp,Op.intArith,ne_eq,not_true_eq_false,if_false];exact .ret (.int _ _)
  · exact Dk h ho t
theorem uL{P:Program}{t:TypeId}(h:oh P t=true) :P.eqGuardType P.depth t=false:=by
  unfold oh at h
  split at h
  case h_2=>cases h
  split at h
  case h_2=>cases h
  simp only [Bool.and_eq_true,Bool.not_eq_true'] at h
  exact h.2.2.2.2
theorem jj{P:Program}{t:TypeId}(h:tJ P t=true){xs:Array Value}{i:Nat}{v:Value}{w:World}(hx:xs[i]? = some v) :(part t xs i).run P w=.ok v w:=by
  unfold tJ at h
  split at h
  · rename_i q hu
    simp [part,isAgg,run_underlying hu,hx]
  · cases h
theorem rS{P:Program}{t:TypeId}(h:tJ P t=true){k:IntKind}{a b:Int}{w:World}(d:Nat) :(Op.equalIn (d+1) t (.int k a) (.int k b)).run P w=.ok (a==b) w:=by
  unfold tJ at h
  split at h
  · rename_i q hu
    unfold Op.equalIn
    simp [run_underlying hu]
  · cases h
theorem FB{P:Program}{t:TypeId}(h:oh P t=true){k q:IntKind}{a b a' b':Int}{w:World}(d:Nat) :
    (Op.equalIn (d+2) t (.agg #[.int k a,.int q b]) (.agg #[.int k a',.int q b'])).run P w=.ok (a==a'&&b==b') w:=by
  unfold oh at h
  split at h
  case h_2=>cases h
  rename_i fs hu
  split at h
  case h_2=>cases h
  rename_i f g hfs
  have hfs:fs = #[f,g]:=by rw [←fs.toArray_toList,hfs]
  subst hfs
  simp only [Bool.and_eq_true,bne_iff_ne,ne_eq,Bool.not_eq_true'] at h
  obtain ⟨⟨h1,h2⟩,⟨h3,h4⟩,⟨h5,h6⟩,h7,_⟩:=h
  have h3:=Nat.eq_of_beq_eq_true h3
  have h4:=Nat.eq_of_beq_eq_true h4
  have p1:∀ w,(part f.type #[.int k a,.int q b] 0).run P w=.ok (.int k a) w:=fun w=>jj h1 rfl
  have p2:∀ w,(part f.type #[.int k a',.int q b'] 0).run P w=.ok (.int k a') w:=fun w=>jj h1 rfl
  have p3:∀ w,(part g.type #[.int k a,.int q b] 1).run P w=.ok (.int q b) w:=fun w=>jj h2 rfl
  have p4:∀ w,(part g.type #[.int k a',.int q b'] 1).run P w=.ok (.int q b') w:=fun w=>jj h2 rfl
  rw [Op.equalIn]
  simp [run_underlying hu,h7,h5,h6,h3,h4,p1,p2,p3,p4,rS h1,rS h2]
  by_cases q1:a=a'
  · by_cases q2:b=b'<;>simp [q1,q2]
  · simp [q1]
theorem Bb{P:Program}{ρ:af}{w:World}{t:TypeId}(ht:oh P t=true){xs ys:List AV}{x' y':Value}(hx:VR ρ w (.agg xs) x')(hy:VR ρ w (.agg ys) y'){b:Bool}(h:Mn (.agg xs) (.agg ys)=some b)(d:Nat) :
    (Op.equalIn (d+2) t x' y').run P w=.ok b w:=by
  unfold Mn at h
  split at h
  · rename_i k a q b1 k' a' q' b' e1 e2
    cases e1;cases e2
    cases hs:(bc k k'&&bc q q') with
    | false=>rw [hs] at h;cases h
    | true =>
      rw [hs] at h;cases h
      rw [Bool.and_eq_true] at hs
      have hk:k=k':=of_decide_eq_true hs.1
      have hq:q=q':=of_decide_eq_true hs.2
      subst hk;subst hq
      have two:∀ {c:Array Value} {m n:Int},bh ρ w [.int k m,.int q n] c.toList→c = #[.int k m,.int q n]:=by
        intro c m n h
        have h:c.toList=[.int k m,.int q n]:=by
          generalize c.toList=l at h
          cases h with | cons _ u1 _ _ h1 t1 =>
          cases t1 with | cons _ u2 _ _ h2 t2 =>
          cases t2;cases h1;cases h2;rfl
        rw [←c.toArray_toList,h]
      cases hx with | agg _ c hc =>
      cases hy with | agg _ c' hc' =>
      rw [two hc,two hc']
      exact FB ht d
  · cases h
theorem gn{ρ:af}{w:World}{xs:List AV}{x':Value}(hx:VR ρ w (.agg xs) x') :∃ c,x'=.agg c:=by cases hx;exact ⟨_,rfl⟩
theorem JG{P:Program}{ρ:af}{w:World}{op:BinOp}{t:TypeId}{x y:AV}{x' y':Value}{v:AV}{obs:List Bool}(hx:VR ρ w x x')(hy:VR ρ w y y') 
    {wr:Bool} (h:Qa wr P op t x y=some (v,obs)) (ho:ap obs):dM P ρ w (binOp op t x' y') v:=by
  unfold Qa at h
  split at h
  · cases hx;cases hy
    simp only [Option.some.injEq,Prod.mk.injEq] at h;obtain ⟨rfl,rfl⟩:=h
    have:=Int.not_lt.2 (of_decide_eq_true ho.1)
    simp only [binOp,Op.shift,this,if_false]
    exact .ret (.int _ _)
  · cases hx;cases hy
    simp only [Option.some.injEq,Prod.mk.injEq] at h;obtain ⟨rfl,rfl⟩:=h
    have:=Int.not_lt.2 (of_decide_eq_true ho.1)
    simp only [binOp,Op.shift,this,if_false]
    exact .ret (.int _ _)
  · rename_i k a k' b n1 n2
    cases hx;cases hy
    cases e:bc k k' with
    | false=>rw [e] at h;cases h
    | true =>
      rw [e] at h
      have:k=k':=of_decide_eq_true e
      subst this
      exact zu h ho t
  · cases hx with | flt _ _ _ h1=>cases hy with | flt _ _ _ h2 =>
      simp only [Option.map_eq_some_iff] at h
      obtain ⟨v',h,e⟩:=h
      cases e
      exact Dl h1 h2 h t
  · cases hx;cases hy
    exact Dm h ho t
  · cases hx;cases hy
    split at h
    · rename_i hu
      simp only [Option.some.injEq,Prod.mk.injEq] at h;obtain ⟨rfl,rfl⟩:=h
      refine .plain (u:=.bool _) ?_ (.bool _ _)
      exact Fy hu _ _ w
    · cases h
  · cases hx;cases hy
    split at h
    · rename_i hu
      simp only [Option.some.injEq,Prod.mk.injEq] at h;obtain ⟨rfl,rfl⟩:=h
      refine .plain (u:=.bool _) ?_ (.bool _ _)
      exact Fz hu _ _ w
    · cases h
  · cases ht:oh P t with
    | false=>rw [ht] at h;cases h
    | true =>
      rw [ht] at h
      simp only [cond_true,Option.map_eq_some_iff] at h
      obtain ⟨b,h,e⟩:=h
      cases e
      have hr:=Bb ht hx hy h 9998
      obtain ⟨c,rfl⟩:=gn hx
      obtain ⟨c',rfl⟩:=gn hy
      refine .plain (u:=.bool b) ?_ (.bool _ _)
      show (do pure (Value.bool (←Op.equalIn 10000 t (.agg c) (.agg c'))):Sem Value).run P w=_
      rw [Sem.run_bind,hr];rfl
  · cases ht:oh P t with
    | false=>rw [ht] at h;cases h
    | true =>
      rw [ht] at h
      simp only [cond_true,Option.map_eq_some_iff] at h
      obtain ⟨b,h,e⟩:=h
      cases e
      have hr:=Bb ht hx hy h 9998
      obtain ⟨c,rfl⟩:=gn hx
      obtain ⟨c',rfl⟩:=gn hy
      refine .plain (u:=.bool (!b)) ?_ (.bool _ _)
      show (do pure (Value.bool (!(←Op.equalIn 10000 t (.agg c) (.agg c')))):Sem Value).run P w=_
      rw [Sem.run_bind,hr];rfl
  · split at h
    · rename_i hu
      obtain ⟨b,hr,hop⟩:=gl h
      obtain ⟨a,l,c,rfl⟩:=rQ hx hr
      cases hy
      exact gC h rfl rfl fun b' o' q1 q2 d=>OJ hu hx q1 (by rw [q2];exact ho) d
    · cases h
  · split at h
    · rename_i hu
      obtain ⟨b,hr,hop⟩:=gl h
      obtain ⟨a,rfl⟩:=qb hx hr
      cases hy
      exact gC h rfl rfl fun b' o' q1 q2 d=>JF hu hx q1 d
    · cases h
  · split at h
    · rename_i hu
      obtain ⟨b,hr,hop⟩:=gl h
      have hs:=rR hx hr
      cases hy
      rcases hs with ⟨f,c,d,rfl⟩ | rfl
      · exact gC h rfl rfl fun b' o' q1 q2 d=>Ba hu hx q1 d
      · exact gC h rfl rfl fun b' o' q1 q2 d=>Ba hu hx q1 d
    · cases h
  · split at h
    case h_2=>cases h
    rename_i e hu
    split at h
    case h_2=>cases h
    rename_i inf hi
    cases hb:Nat.beq _ _&&Nat.blt 0 inf.size with
    | false=>rw [hb] at h;cases h
    | true =>
      rw [hb] at h
      simp only [Bool.and_eq_true] at hb
      have hbb:=Nat.eq_of_beq_eq_true hb.1
      subst hbb
      have hs : ¬ inf.size=0:=by have:=hb.2;simp [Nat.blt_eq] at this;omega
      cases hx with | ptr _ _ _ _ ok1 =>
      cases hy with | ptr _ _ _ _ ok2 =>
      refine gC h rfl rfl fun b' o' q1 q2 d=>?_
      simp only [Option.some.injEq,Prod.mk.injEq] at q1
      obtain ⟨rfl,_⟩:=q1
      unfold Op.equalIn
      simp only [Sem.run_bind,run_underlying hu,Result.andThen_ok]
      have hz:(sizeOf e).run P w=.ok inf.size w:=by simp [sizeOf,typeInfo,Sem.run_bind,hi]
      have hsa : ∀ b0 x y : Nat, (sameAddr ⟨b0, x, none⟩ ⟨b0, y, none⟩).run P w = .ok (Nat.beq x y) w := fun b0 x y => by
        simp [sameAddr]
        cases hq:Nat.beq x y with
        | true=>have:=Nat.eq_of_beq_eq_true hq;subst this;simp
        | false => have : ¬ x = y := fun q => by rw [q, Nat.beq_refl] at hq; cases hq
                   simp [this]
      simp only [Sem.run_bind,hz,Result.andThen_ok,ne_eq,hs,not_false_eq_true,if_true]
      exact hsa _ _ _
  · cases h
def V5(op:UnOp)(x:AV) :Option (AV×List Bool) :=
  match op,x with
  | .neg,.int k n=>some (qa k (0-n))
  | .neg,.flt ex x=>some (.flt ex (P9 x),[])
  | .not,.bool kn b=>some (.bool kn (!b),[])
  | .xor,.int k n=>some (.int k (cj .xor k (if k.signed then -1 else k.max) n),[])
  | _,_=>none
def Qc(P:Program)(src dst:TypeId)(x:AV) :Option (AV×List Bool) :=
  match P.underlying src,P.underlying dst,x with
  | some _,some (.int k),.int _ n=>some (.int k (k.wrap n),[])
  | some _,some (.float .f64),.int _ n=>some (.flt true (floatOfInt .f64 n),[])
  | some _,some (.int k),.flt _ x=>some (.int k ((floatToIntVal .f64 x k).getD 0),[(floatToIntVal .f64 x k).isSome])
  | some _,some (.float .f64),.flt ex x=>some (.flt ex x,[])
  | some _,some .string,.str s=>some (.str s,[])
  | _,_,_=>none
def tK(x:Option AV)(d:Int) :Option Int :=
  match x with
  | none=>some d
  | some (.int _ n)=>some n
  | some _=>none
def JH(P:Program)(t:TypeId)(x:AV)(lo hi:Option AV) :Option (AV×List Bool) :=
  match P.underlying t,x with
  | some .string,.str s =>
    match tK hi s.size,tK lo 0 with
    | some h,some l=>some (.str (s.extract l.toNat h.toNat),[nW h s.size,nW l h.toNat])
    | _,_=>none
  | some (.slice e),.nsl =>
    match tK hi 0,tK lo 0,P.info? e with
    | some h,some l,some _=>some (.nsl,[nW h 0,nW l h.toNat])
    | _,_,_=>none
  | some (.slice e),.imm bw d w es i len =>
    match tK hi len,tK lo 0,tI w es,Nat.beq es (P.cellsOf e),P.info? e with
    | some h,some l,some s,true,some _=>some (.imm bw d w es (cD i (zt l.toNat s)) (h.toNat-l.toNat),[nW h len,nW l h.toNat])
    | _,_,_,_,_=>none
  | some (.slice e),.sl b w es i len cap =>
    match tK hi len,tK lo 0,tI w es,Nat.beq es (P.cellsOf e),P.info? e with
    | some h,some l,some s,true,some _=>some (.sl b w es (cD i (zt l.toNat s)) (h.toNat-l.toNat) (cap-l.toNat),[nW h cap,nW l h.toNat])
    | _,_,_,_,_=>none
  | _,_=>none
def Dn(P:Program)(t:TypeId)(x:AV)(lo hi mx:Option AV) :Option (AV×List Bool) :=
  match P.underlying t,x,lo,hi,mx with
  | some (.slice e),.nsl,none,some (.int _ h),some (.int _ m)=>match P.info? e with | some _=>some (.nsl,[nW m 0,nW h 0]) | none=>none
  | some (.slice e),.imm ..,none,some (.int _ h),some (.int _ m)=>match P.info? e with | some _=>some (.esl,[nW m 0,nW h 0]) | none=>none
  | some (.slice e),.sl b w es i len cap,none,some (.int _ h),some (.int _ m)=>match P.info? e,Nat.beq m.toNat 0 with
    | some _,true=>some (.esl,[nW m 0,nW h 0])
    | some _,false=>some (.sl b w es i h.toNat m.toNat,[nW m cap,nW h m.toNat])
    | none,_=>none
  | some (.slice e),.esl,none,some (.int _ h),some (.int _ m)=>match P.info? e with | some _=>some (.esl,[nW m 0,nW h 0]) | none=>none
  | _,_,_,_,_=>none
def tL(x y:Int) :Int:=if y>x then y else x
def rT(x y:Int) :Int:=if y<x then y else x
def Qd:AV→List AV→Option AV
  | v,[]=>some v
  | .int k x,.int k' y::l=>Qd (.int k (tL x y)) l
  | .flt _ x,[.flt _ y]=>some (.flt false (T6 x y))
  | _,_=>none
def Qe:AV→List AV→Option AV
  | v,[]=>some v
  | .int k x,.int k' y::l=>Qe (.int k (rT x y)) l
  | .flt _ x,[.flt _ y]=>some (.flt false (T7 x y))
  | _,_=>none
def lW(P:Program)(s:TypeId)(x:AV)(f:Nat) :Option AV :=
  match P.underlying s with
  | some (.struct fs) =>
    match fs[f]? with
    | some fd =>
      match (P.info? fd.type).map (·.size),x with
      | some (_+1),.ptr b w i j=>some (.ptr b w i (j+fd.offset))
      | some (_+1),.iptr bw d w i j=>some (.iptr bw d w i (j+fd.offset))
      | _,_=>none
    | none=>none
  | _=>none
def FC(P:Program)(t:TypeId) :Option Bool :=
  match P.underlying t with
  | some (.struct _) | some (.array _ _)=>some true
  | some _=>some false
  | none=>none
def Mp(P:Program)(t:TypeId)(l:List AV)(off:Nat) :Option AV :=
  match FC P t with
  | some true=>(P.info? t).bind fun i=>bif Nat.ble (off+i.size) l.length then some (.agg ((l.drop off).take i.size)) else none
  | some false=>l[off]?
  | none=>none
def Do(P:Program)(t:TypeId)(x:AV)(f:Nat) :Option AV :=
  match P.underlying t,x with
  | some (.struct fs),.agg l =>
    match fs[f]? with
    | some fd=>Mp P fd.type l fd.offset
    | none=>none
  | _,_=>none
def lX(P:Program)(t:TypeId)(x ix:AV) :Option (AV×List Bool) :=
  match ix with
  | .int _ k =>
    match P.underlying t,x with
    | some (.slice e),.imm bw d w es i len =>
      match tI w es,Nat.beq es (P.cellsOf e),P.info? e with
      | some s,true,some _=>some (.iptr bw d w (cD i (zt k.toNat s)) 0,[fK k len])
      | _,_,_=>none
    | some (.slice e),.sl b w es i len cap =>
      match tI w es,Nat.beq es (P.cellsOf e),P.info? e with
      | some s,true,some _=>some (.ptr b w (cD i (zt k.toNat s)) 0,[fK k len])
      | _,_,_=>none
    | some (.array n e),.ptr b w i j =>
      match P.info? e with
      | some ie=>some (.ptr b w i (cD j (zt k.toNat ie.size)),[fK k n])
      | _=>none
    | some (.array n e),.iptr bw d w i j =>
      match P.info? e with
      | some ie=>some (.iptr bw d w i (cD j (zt k.toNat ie.size)),[fK k n])
      | _=>none
    | _,_=>none
  | _=>none
def JI(s:ByteArray)(i:Nat) :Int:=((s.data[i]?).getD 0).toNat
def JJ(P:Program)(t:TypeId)(x ix:AV) :Option (AV×List Bool) :=
  match ix with
  | .int _ k =>
    match P.underlying t,x with
    | some .string,.str s=>some (.int .u8 (JI s k.toNat),[fK k s.size])
    | some (.array n e),.agg l =>
      match P.info? e with
      | some ie=>(Mp P e l (k.toNat*ie.size)).map fun v=>(v,[fK k n])
      | none=>none
    | _,_=>none
  | _=>none
def U5(P:Program)(t:TypeId)(x:AV) :Option AV :=
  match P.underlying t,x with
  | some .string,.str s=>some (.int .i64 s.size)
  | some (.array n _),_=>some (.int .i64 n)
  | some (.slice _),.nsl=>some (.int .i64 0)
  | some (.slice _),.esl=>some (.int .i64 0)
  | some (.slice _),.sl _ _ _ _ len _=>some (.int .i64 len)
  | some (.slice _),.imm _ _ _ _ _ len=>some (.int .i64 len)
  | _,_=>none
def UK(c a b:AV) :Option AV :=
  match c,a,b with
  | .bool true true,a,_=>some a
  | .bool true false,_,b=>some b
  | .bool false c,.bool _ x,.bool _ y=>some (.bool false (bif c then x else y))
  | .bool false c,.int k x,.int k' y=>bif bc k k' then some (.int k (bif c then x else y)) else none
  | _,_,_=>none
def nC(v:Option AV) :Option (AV×List Bool):=v.map fun v=>(v,[])
def jM(wr:Bool)(P:Program)(e:Operand→AV)(op:Op) :Option (AV×List Bool) :=
  match op with
  | .move x | .assign x=>some (e x,[])
  | .pick c a b=>nC (UK (e c) (e a) (e b))
  | .nilCheck x =>
    match e x with
    | .ptr b w i j=>some (.ptr b w i j,[])
    | .iptr bw d w i j=>some (.iptr bw d w i j,[])
    | .fn (.func f) l c=>some (.fn (.func f) l c,[])
    | _=>none
  | .binOp op t x y _=>Qa wr P op t (e x) (e y)
  | .unOp op _ x=>V5 op (e x)
  | .convert s d x=>Qc P s d (e x)
  | .makeInterface t x =>
    match P.underlying t with
    | some (.interface _) | none=>none
    | some _=>some (.iface t (e x),[])
  | .makeFunc fn first caps=>some (.fn fn (first.toList.map e) (caps.toList.map e),[])
  | .slice t x lo hi none=>JH P t (e x) (lo.map e) (hi.map e)
  | .slice t x lo hi (some mx)=>Dn P t (e x) (lo.map e) (hi.map e) (some (e mx))
  | .fieldAddr s x f=>nC (lW P s (e x) f)
  | .field t x f=>nC (Do P t (e x) f)
  | .indexAddr t x ix=>lX P t (e x) (e ix)
  | .index t x ix=>JJ P t (e x) (e ix)
  | .extract x i =>
    match e x with
    | .tup l=>nC (l[i]?)
    | _=>none
  | .call { callee:=.builtin .len,args:=xs,argTypes:=ts } =>
    match xs.toList,ts.toList with
    | [x],[t]=>nC (U5 P t (e x))
    | _,_=>none
  | .call { callee:=.builtin .max,args:=xs,argTypes:=_ } =>
    match xs.toList with
    | x::l=>nC (Qd (e x) (l.map e))
    | _=>none
  | .call { callee:=.builtin .min,args:=xs,argTypes:=_ } =>
    match xs.toList with
    | x::l=>nC (Qe (e x) (l.map e))
    | _=>none
  | _=>none
theorem bn{P:Program}{w w':World}{s:Sem Value}{u:Value}(h:s.run P w=.ok u w') :(do pure (Next.value (←s)):Sem Next).run P w=.ok (.value u) w':=by
  rw [Sem.run_bind,h];rfl
theorem dM.value{P:Program}{ρ:af}{w:World}{s:Sem Value}{v:AV}(h:dM P ρ w s v) :
    ∃ u k,(do pure (Next.value (←s)):Sem Next).run P w=.ok (.value u) { w with drawn:=k }∧VR ρ w v u :=
  let ⟨u,k,h1,h2⟩:=h;⟨u,k,bn h1,h2⟩
theorem FR.neg{ex:Bool}{x y:Nat}(h:FR ex x y) :FR ex (P9 x) (P9 y):=by
  rcases h with rfl | ⟨h1,h2,h3⟩
  · exact .inl rfl
  · have e:∀ x,isNaN (P9 x)=isNaN x:=by
      intro x
      rw [fA,fA]
      have e1:(x ^^^ 2^63)%2^63=x%2^63:=by
        apply Nat.eq_of_testBit_eq;intro i
        simp only [Nat.testBit_mod_two_pow,Nat.testBit_xor,Nat.testBit_two_pow]
        by_cases hi:i<63
        · have : ¬ 63=i:=by omega
          simp [hi,this]
        · simp [hi]
      have e2:(9223372036854775808:Nat)=2^63:=by decide
      unfold P9
      rw [e2,e1]
    exact .inr ⟨h1,by rw [e];exact h2,by rw [e];exact h3⟩
theorem OK{P:Program}{ρ:af}{w:World}{op:UnOp}{x:AV}{x':Value}{v:AV}{obs:List Bool}(hx:VR ρ w x x')(h:V5 op x=some (v,obs))(ho:ap obs) :
    dM P ρ w (Op.unary op x') v:=by
  unfold V5 at h
  split at h
  · rename_i k n
    cases hx
    have h1:=congrArg Prod.fst (Option.some.inj h)
    have h2:=congrArg Prod.snd (Option.some.inj h)
    simp only at h1 h2
    simp only [Op.unary,Op.intArith]
    rw [←h1]
    exact .ret (wn ρ w k (0-n) (by rw [h2];exact ho))
  · simp only [Option.some.injEq,Prod.mk.injEq] at h;obtain ⟨rfl,rfl⟩:=h
    cases hx with | flt _ _ _ h1 =>
    exact .ret (.flt _ _ _ h1.neg)
  · simp only [Option.some.injEq,Prod.mk.injEq] at h;obtain ⟨rfl,rfl⟩:=h
    cases hx;exact .ret (.bool _ _)
  · simp only [Option.some.injEq,Prod.mk.injEq] at h;obtain ⟨rfl,rfl⟩:=h
    cases hx;exact .ret (.int _ _)
  · cases h
theorem zw{ex:Bool}{x y:Nat}{k:IntKind}(h:FR ex x y)(hs:(floatToIntVal .f64 x k).isSome=true) :y=x:=by
  rcases h with h | ⟨_,h2,_⟩
  · exact h
  · obtain ⟨s,t,e⟩:=od h2
    unfold floatToIntVal FloatKind.decode at hs
    rw [e] at hs
    cases hs
theorem FD{P:Program}{ρ:af}{w:World}{src dst:TypeId}{x:AV}{x':Value}{v:AV}{obs:List Bool}(hx:VR ρ w x x')(h:Qc P src dst x=some (v,obs))(ho:ap obs) :
    dM P ρ w (convert src dst x') v:=by
  unfold Qc at h
  split at h
  · rename_i d k q n h1 h2
    simp only [Option.some.injEq,Prod.mk.injEq] at h;obtain ⟨rfl,rfl⟩:=h
    cases hx
    refine .plain (u:=.int k (k.wrap n)) ?_ (.int _ _)
    cases d<;>simp [convert,run_underlying h1,run_underlying h2,Conv.intToInt]
  · rename_i d q n h1 h2
    simp only [Option.some.injEq,Prod.mk.injEq] at h;obtain ⟨rfl,rfl⟩:=h
    cases hx
    exact .plain (run_convert_int_float w src dst q .f64 n (by rw [h1];rfl) h2) (.flt _ _ _ (.inl rfl))
  · rename_i d k ex y h1 h2
    simp only [Option.some.injEq,Prod.mk.injEq] at h;obtain ⟨rfl,rfl⟩:=h
    cases hx with | flt _ _ z hf =>
    have e:=zw hf ho.1
    subst e
    obtain ⟨n,hn⟩:=Option.isSome_iff_exists.1 ho.1
    rw [hn]
    exact .plain (run_convert_float_int w src dst .f64 k _ n (by rw [h1];rfl) h2 hn) (.int _ _)
  · rename_i d ex y h1 h2
    simp only [Option.some.injEq,Prod.mk.injEq] at h;obtain ⟨rfl,rfl⟩:=h
    cases hx with | flt _ _ z hf =>
    refine .plain (u:=.float .f64 z) ?_ (.flt _ _ _ hf)
    exact run_convert_float_float w src dst .f64 .f64 z z (by rw [h1];rfl) h2 (by simp [floatToFloatBits])
  · rename_i d s h1 h2
    simp only [Option.some.injEq,Prod.mk.injEq] at h;obtain ⟨rfl,rfl⟩:=h
    cases hx
    refine .plain (u:=.string s) ?_ (.str _)
    cases d<;>simp [convert,run_underlying h1,run_underlying h2]
  · cases h
theorem bh.drop{ρ:af}{w:World} :∀ (n:Nat) {l:List AV} {c:List Value},bh ρ w l c→bh ρ w (l.drop n) (c.drop n)
  | 0,_,_,h=>by simpa using h
  | n+1,_,_,.nil=>by simp;exact .nil
  | n+1,_,_,.cons _ _ _ _ _ t=>by simp;exact t.drop n
theorem bh.take{ρ:af}{w:World} :∀ (n:Nat) {l:List AV} {c:List Value},bh ρ w l c→bh ρ w (l.take n) (c.take n)
  | 0,_,_,h=>by simp;exact .nil
  | n+1,_,_,.nil=>by simp;exact .nil
  | n+1,_,_,.cons _ _ _ _ h t=>by simp;exact .cons _ _ _ _ h (t.take n)
theorem gD{P:Program}{w:World}(k:IntKind)(i:Int)(y:Nat)(code:BoundsCode)(h:0≤i∧i≤(y:Int)) :(Instr.sliceBound (.int k i) y code).run P w=.ok i.toNat w:=by
  simp [Instr.sliceBound,asIntOf,h]
theorem ej{P:Program}{w:World}(isSlice:Bool)(len cap:Nat)(lo hi:Option Value)(l h:Int)(hl:lo=none∧l=0∨∃ k,lo=some (.int k l))(hh:hi=none∧h=len∨∃ k,hi=some (.int k h)) 
    (b1:0≤h∧h≤(cap:Int)) (b2:0≤l∧l≤h):(Instr.sliceBounds isSlice len cap lo hi none).run P w=.ok (l.toNat,h.toNat,cap) w:=by
  have e:l≤(h.toNat:Int):=by omega
  rcases hl with ⟨rfl,rfl⟩ | ⟨k,rfl⟩<;>rcases hh with ⟨rfl,rfl⟩ | ⟨k',rfl⟩
  · simp [Instr.sliceBounds]
  · simp [Instr.sliceBounds,gD _ _ _ _ b1]
  · simp [Instr.sliceBounds,gD _ _ _ _ (And.intro b2.1 b2.2)]
  · simp [Instr.sliceBounds,gD _ _ _ _ b1,gD _ _ _ _ (And.intro b2.1 e)]
theorem dG{i:Int}{n:Nat}(h:nW i n=true) :0≤i∧i≤(n:Int):=by simpa [nW] using h
theorem pr{i:Int}{n:Nat}(h:fK i n=true) :0≤i∧i<(n:Int):=by simpa [fK] using h
theorem fB{ρ:af}{w:World}{e:Operand→AV}{g:Operand→Value}(hops:∀ x,VR ρ w (e x) (g x)){x:Option Operand}{d n:Int}(h:tK (x.map e) d=some n) :
    (x.map g=none∧n=d)∨∃ k,x.map g=some (.int k n):=by
  cases x with
  | none=>simp [tK] at h;exact .inl ⟨rfl,h.symm⟩
  | some o =>
    have hv:=hops o
    simp only [Option.map_some] at h ⊢
    generalize e o=v at h hv
    generalize g o=u at hv
    cases v<;>simp [tK] at h
    subst h
    cases hv
    exact .inr ⟨_,rfl⟩
theorem Dp{P:Program}{ρ:af}{w:World}{e:Operand→AV}{g:Operand→Value}(hops:∀ x,VR ρ w (e x) (g x)){t:TypeId}{x:AV}{x':Value}{lo hi:Option Operand}{v:AV}{obs:List Bool} 
    (hx:VR ρ w x x') (h:JH P t x (lo.map e) (hi.map e)=some (v,obs)) (ho:ap obs):dM P ρ w (Instr.sliceAt t x' (lo.map g) (hi.map g) none) v:=by
  unfold JH at h
  split at h
  · rename_i s hu
    cases hx
    split at h
    · rename_i hh ll e1 e2
      simp only [Option.some.injEq,Prod.mk.injEq] at h;obtain ⟨rfl,rfl⟩:=h
      have b1:=dG ho.1
      have b2:=dG ho.2.1
      refine .plain (u:=.string (s.extract ll.toNat hh.toNat)) ?_ (.str _)
      have:=ej (P:=P) (w:=w) false s.size s.size (lo.map g) (hi.map g) ll hh (fB hops e2) (fB hops e1) b1 ⟨b2.1,by omega⟩
      simp [Instr.sliceAt,Instr.slice,run_underlying hu,this]
    · cases h
  · rename_i el hu
    cases hx
    split at h
    · rename_i hh ll i e1 e2 hs
      simp only [Option.some.injEq,Prod.mk.injEq] at h;obtain ⟨rfl,rfl⟩:=h
      have b1:=dG ho.1
      have b2:=dG ho.2.1
      refine .plain (u:=.slice none 0 0) ?_ .nsl
      have h0:hh=0:=by omega
      subst h0
      have l0:ll=0:=by simp at b2;omega
      subst l0
      have:=ej (P:=P) (w:=w) true 0 0 (lo.map g) (hi.map g) 0 0 (fB hops e2) (fB hops e1) (by omega) (by omega)
      simp [Instr.sliceAt,Instr.slice,run_underlying hu,this,run_sizeOf w hs]
    · cases h
  · rename_i el bw d k es i len hu
    split at h
    · rename_i hh ll s inf e1 e2 e3 e4 hs
      simp only [Option.some.injEq,Prod.mk.injEq] at h;obtain ⟨rfl,rfl⟩:=h
      have b1:=dG ho.1
      have b2:=dG ho.2.1
      have e5:es=P.cellsOf el:=Nat.eq_of_beq_eq_true e4
      have hst:=po e3
      have run:∀ (a:Option Addr) (cap:Nat),len≤cap→(Instr.sliceAt t (.slice a len cap) (lo.map g) (hi.map g) none).run P w =
          .ok (.slice (if cap=ll.toNat then a else a.map (·.add (ll.toNat*P.cellsOf el))) (hh.toNat-ll.toNat) (cap-ll.toNat)) w:=by
        intro a cap hc
        have:=ej (P:=P) (w:=w) true len cap (lo.map g) (hi.map g) ll hh (fB hops e2) (fB hops e1) (by omega) ⟨b2.1,by omega⟩
        simp [Instr.sliceAt,Instr.slice,run_underlying hu,this,run_sizeOf w hs]
      cases hx with
      | imm _ _ _ _ _ _ cap bl o u ha hb hc hv hl hr hk hg =>
        refine .plain (run _ _ hl) ?_
        by_cases hz:cap=ll.toNat
        · have:hh.toNat-ll.toNat=0:=by omega
          rw [this,if_pos hz]
          exact .immEnd _ _ _ _ _ _ _ hr hk hg
        · rw [if_neg hz]
          have ea:Addr.add ⟨bl,o+i*k,none⟩ (ll.toNat*P.cellsOf el)=⟨bl,o+(i+ll.toNat*s)*k,none⟩:=by
            have:o+i*k+ll.toNat*P.cellsOf el=o+(i+ll.toNat*s)*k:=by rw [←e5,←hst,Nat.add_mul,Nat.mul_assoc];omega
            unfold Addr.add
            split
            · rename_i h0;rw [h0] at this;simp only [Nat.add_zero] at this;rw [this]
            · simp only [this]
          simp only [Option.map_some,ea,fj,pm]
          exact .imm _ _ _ _ _ _ _ bl o u ha hb hc hv (by omega) hr hk hg
      | immEnd _ _ _ _ _ cap a hr hk hg =>
        refine .plain (run _ _ (Nat.zero_le _)) ?_
        have:hh.toNat-ll.toNat=0:=by omega
        rw [this]
        exact .immEnd _ _ _ _ _ _ _ hr hk hg
    · cases h
  · rename_i el b k es i len cap hu
    split at h
    · rename_i hh ll s inf e1 e2 e3 e4 hs
      simp only [Option.some.injEq,Prod.mk.injEq] at h;obtain ⟨rfl,rfl⟩:=h
      have b1:=dG ho.1
      have b2:=dG ho.2.1
      have e5:es=P.cellsOf el:=Nat.eq_of_beq_eq_true e4
      have hst:=po e3
      have run:∀ (a:Option Addr) (cap':Nat),cap≤cap'→len≤cap→(Instr.sliceAt t (.slice a len cap') (lo.map g) (hi.map g) none).run P w =
          .ok (.slice (if cap'=ll.toNat then a else a.map (·.add (ll.toNat*P.cellsOf el))) (hh.toNat-ll.toNat) (cap'-ll.toNat)) w:=by
        intro a cap' hc hl
        have:=ej (P:=P) (w:=w) true len cap' (lo.map g) (hi.map g) ll hh (fB hops e2) (fB hops e1) (by omega) ⟨b2.1,by omega⟩
        simp [Instr.sliceAt,Instr.slice,run_underlying hu,this,run_sizeOf w hs]
      cases hx with
      | sl _ _ _ _ _ _ cap' hb hcap hl c ty hh2 hsz =>
        refine .plain (run _ _ hcap hl) ?_
        by_cases hz:cap'=ll.toNat
        · have q1:hh.toNat-ll.toNat=0:=by omega
          have q2:cap-ll.toNat=0:=by omega
          have q3:cap'-ll.toNat=0:=by omega
          rw [q1,q2,q3]
          exact .slEnd _ _ _ _ _
        · rw [if_neg hz]
          have e6:i*k+ll.toNat*P.cellsOf el=(i+ll.toNat*s)*k:=by rw [←e5,←hst,Nat.add_mul,Nat.mul_assoc]
          have ea:Addr.add ⟨ρ.at_ b,i*k,none⟩ (ll.toNat*P.cellsOf el)=⟨ρ.at_ b,(i+ll.toNat*s)*k,none⟩:=by
            unfold Addr.add
            split
            · rename_i h0;rw [h0] at e6;simp only [Nat.add_zero] at e6;rw [e6]
            · simp only [e6]
          simp only [Option.map_some,ea,fj,pm]
          refine .sl _ _ _ _ _ _ _ hb (by omega) (by omega) c ty hh2 ?_
          rw [←e6,←e5]
          by_cases hle:ll.toNat≤cap'
          · have:ll.toNat*es+(cap'-ll.toNat)*es=cap'*es:=by rw [←Nat.add_mul];congr 1;omega
            omega
          · omega
      | slEnd _ _ _ _ a =>
        refine .plain (run _ _ (Nat.le_refl _) (Nat.le_refl _)) ?_
        have q1:hh.toNat-ll.toNat=0:=by omega
        have q2:0-ll.toNat=0:=by omega
        rw [q1,q2]
        exact .slEnd _ _ _ _ _
    · cases h
  · cases h
theorem Qf{k:Int}{n m:Nat}(h:nW k n=true)(q:n≤m) :nW k m=true:=by
  have:=dG h
  simp only [nW,Bool.and_eq_true,decide_eq_true_eq]
  omega
theorem zx{P:Program}{ρ:af}{w:World}{e:Operand→AV}{g:Operand→Value}(hops:∀ x,VR ρ w (e x) (g x)){t:TypeId}{x:AV}{x':Value}{lo hi:Option Operand}{mx:Operand}{v:AV}{obs:List Bool} 
    (hx:VR ρ w x x') (h:Dn P t x (lo.map e) (hi.map e) (some (e mx))=some (v,obs)) (ho:ap obs):dM P ρ w (Instr.sliceAt t x' (lo.map g) (hi.map g) (some (g mx))) v:=by
  have key0:∀ {el:TypeId} {hh mm:Int} {k1 k2:IntKind} {inf:TypeInfo} {a:Option Addr} {len cap:Nat},P.underlying t=some (.slice el)→P.info? el=some inf→lo.map e=none→hi.map e=some (.int k1 hh)→e mx=.int k2 mm→nW mm cap=true→nW hh mm.toNat=true →
      (Instr.sliceAt t (.slice a len cap) (lo.map g) (hi.map g) (some (g mx))).run P w=.ok (.slice a hh.toNat mm.toNat) w:=by
    intro el hh mm k1 k2 inf a len cap hu hi' h1 h2 h3 b1 b2
    have b1:=dG b1
    have b2:=dG b2
    obtain ⟨m,rfl⟩:=Int.eq_ofNat_of_zero_le b1.1
    obtain ⟨n,rfl⟩:=Int.eq_ofNat_of_zero_le b2.1
    have hn:n≤m:=by have:=b2.2;simp at this;omega
    have hm':m≤cap:=by have:=b1.2;omega
    have e1:lo=none:=by cases lo<;>simp_all
    subst e1
    have hm:=hops mx
    rw [h3] at hm
    generalize hgm:g mx=gm at hm
    cases hm
    cases hi with
    | none=>cases h2
    | some y =>
      simp only [Option.map_some,Option.some.injEq] at h2
      have hy:=hops y
      rw [h2] at hy
      generalize hgy:g y=gy at hy
      cases hy
      simp [Instr.sliceAt,Instr.slice,run_underlying hu,Instr.sliceBounds,Instr.sliceBound,asIntOf,run_sizeOf w hi',hgy,hn,hm']
      intro _
      cases a with
      | none=>rfl
      | some a=>simp [Addr.add]
  have key:∀ {el:TypeId} {hh mm:Int} {k1 k2:IntKind} {inf:TypeInfo} {a:Option Addr} {len cap:Nat},P.underlying t=some (.slice el)→P.info? el=some inf→lo.map e=none→hi.map e=some (.int k1 hh)→e mx=.int k2 mm→nW mm 0=true→nW hh 0=true →
      (Instr.sliceAt t (.slice a len cap) (lo.map g) (hi.map g) (some (g mx))).run P w=.ok (.slice a 0 0) w:=by
    intro el hh mm k1 k2 inf a len cap hu hi' h1 h2 h3 b1 b2
    have b1:=dG b1
    have b2:=dG b2
    have m0:mm=0:=by omega
    have h0:hh=0:=by omega
    subst m0;subst h0
    have e1:lo=none:=by cases lo<;>simp_all
    subst e1
    have hm:=hops mx
    rw [h3] at hm
    generalize hgm:g mx=gm at hm
    cases hm
    cases hi with
    | none=>cases h2
    | some y =>
      simp only [Option.map_some,Option.some.injEq] at h2
      have hy:=hops y
      rw [h2] at hy
      generalize hgy:g y=gy at hy
      cases hy
      simp [Instr.sliceAt,Instr.slice,run_underlying hu,Instr.sliceBounds,Instr.sliceBound,asIntOf,run_sizeOf w hi',hgy]
  unfold Dn at h
  split at h<;>rename_i q1 q2 q3<;>(try cases h)<;>(split at h<;>(try cases h))
  · cases hx;exact .plain (key (by assumption) (by assumption) q1 q2 (Option.some.inj q3) ho.1 ho.2.1) .nsl
  · cases hx with
    | imm=>exact .plain (key (by assumption) (by assumption) q1 q2 (Option.some.inj q3) ho.1 ho.2.1) (.esl _)
    | immEnd=>exact .plain (key (by assumption) (by assumption) q1 q2 (Option.some.inj q3) ho.1 ho.2.1) (.esl _)
  · cases hx with
    | sl=>exact .plain (key (by assumption) (by assumption) q1 q2 (Option.some.inj q3) ho.1 ho.2.1) (.esl _)
    | slEnd=>exact .plain (key (by assumption) (by assumption) q1 q2 (Option.some.inj q3) ho.1 ho.2.1) (.esl _)
  · rename_i hm0
    have b1:=dG ho.1
    have b2:=dG ho.2.1
    have hle:∀ {a b:Int} {n:Nat},0≤a→a≤(n:Int)→a.toNat≤n:=by intros;omega
    cases hx with
    | sl _ _ _ _ _ _ cap' hb hcap hl c ty hh2 hsz =>
      refine .plain (key0 (by assumption) (by assumption) q1 q2 (Option.some.inj q3) (Qf ho.1 hcap) ho.2.1) ?_
      refine .sl _ _ _ _ _ _ _ hb (Nat.le_refl _) (by omega) c ty hh2 ?_
      refine Nat.le_trans (Nat.add_le_add_left (Nat.mul_le_mul_right _ (show _≤cap' by omega)) _) hsz
    | slEnd =>
      exfalso
      have b0:=b1.2
      have b3:=b1.1
      have hz:∀ {m:Int},Nat.beq m.toNat 0=false→0≤m→m≤((0:Nat):Int)→False:=fun {m} q p1 p2=>by
        rw [show m.toNat=0 by omega] at q
        cases q
      exact hz hm0 b3 b0
  · cases hx;exact .plain (key (by assumption) (by assumption) q1 q2 (Option.some.inj q3) ho.1 ho.2.1) (.esl _)
theorem wo{P:Program}{ρ:af}{w:World} :∀ {l:List AV} {v:AV} {us:List Value} {u:Value} {r:AV},VR ρ w v u→bh ρ w l us→Qd v l=some r→∃ u' k,(us.foldlM Builtin.max2 u).run P w=.ok u' { w with drawn:=k }∧VR ρ w r u'
  | [],v,us,u,r,hv,hl,h=>by
    cases hl
    simp only [Qd,Option.some.injEq] at h;subst h
    exact ⟨u,w.drawn,rfl,hv⟩
  | a::l,v,us,u,r,hv,hl,h=>by
    unfold Qd at h
    split at h
    · rename_i q;cases q
    · rename_i k x k' y l' q
      cases q
      cases hv
      cases hl with | cons _ u2 _ us' h1 h2 =>
      cases h1
      obtain ⟨u',kd,q1,q2⟩:=wo (P:=P) (VR.int (ρ:=ρ) (w:=w) k (tL x y)) h2 h
      exact ⟨u',kd,by rw [List.foldlM_cons,Sem.run_bind];simp only [Builtin.max2,Sem.run_pure,Result.andThen_ok];exact q1,q2⟩
    · rename_i e1 x e2 y q
      cases q
      cases hv with | flt _ _ x' f1 =>
      cases hl with | cons _ u2 _ us' h1 h2 =>
      cases h1 with | flt _ _ y' f2 =>
      cases h2
      cases h
      obtain ⟨u',kd,q1,q2⟩:=OE (P:=P) f1 f2 w
      exact ⟨_,kd,by rw [List.foldlM_cons,Sem.run_bind,q1];rfl,.flt _ _ _ q2⟩
    · cases h
theorem wq{P:Program}{ρ:af}{w:World} :∀ {l:List AV} {v:AV} {us:List Value} {u:Value} {r:AV},VR ρ w v u→bh ρ w l us→Qe v l=some r→∃ u' k,(us.foldlM Builtin.min2 u).run P w=.ok u' { w with drawn:=k }∧VR ρ w r u'
  | [],v,us,u,r,hv,hl,h=>by
    cases hl
    simp only [Qe,Option.some.injEq] at h;subst h
    exact ⟨u,w.drawn,rfl,hv⟩
  | a::l,v,us,u,r,hv,hl,h=>by
    unfold Qe at h
    split at h
    · rename_i q;cases q
    · rename_i k x k' y l' q
      cases q
      cases hv
      cases hl with | cons _ u2 _ us' h1 h2 =>
      cases h1
      obtain ⟨u',kd,q1,q2⟩:=wq (P:=P) (VR.int (ρ:=ρ) (w:=w) k (rT x y)) h2 h
      exact ⟨u',kd,by rw [List.foldlM_cons,Sem.run_bind];simp only [Builtin.min2,Sem.run_pure,Result.andThen_ok];exact q1,q2⟩
    · rename_i e1 x e2 y q
      cases q
      cases hv with | flt _ _ x' f1 =>
      cases hl with | cons _ u2 _ us' h1 h2 =>
      cases h1 with | flt _ _ y' f2 =>
      cases h2
      cases h
      obtain ⟨u',kd,q1,q2⟩:=OF (P:=P) f1 f2 w
      exact ⟨_,kd,by rw [List.foldlM_cons,Sem.run_bind,q1];rfl,.flt _ _ _ q2⟩
    · cases h
theorem eR(bl o n:Nat) :Addr.add ⟨bl,o,none⟩ n=⟨bl,o+n,none⟩:=by
  unfold Addr.add;split
  · rename_i h;subst h;rfl
  · rfl
theorem lK{P:Program}{w:World}{t:TypeId}{b:Bool}(h:FC P t=some b) :(isAgg t).run P w=.ok b w:=by
  unfold FC at h
  split at h
  · rename_i hu;cases h;simp [isAgg,run_underlying hu]
  · rename_i hu;cases h;simp [isAgg,run_underlying hu]
  · rename_i d n1 n2 hu
    cases h
    cases d<;>simp_all [isAgg,run_underlying hu]
  · cases h
theorem tM{P:Program}{ρ:af}{w:World}{s:TypeId}{x:AV}{x':Value}{f:Nat}{v:AV}(hx:VR ρ w x x')(h:lW P s x f=some v) :dM P ρ w (Instr.fieldAt s x' f) v:=by
  unfold lW at h
  split at h
  case h_2=>cases h
  rename_i fs hu
  split at h
  case h_2=>cases h
  rename_i fd hf
  have run:∀ (a:Addr) (n:Nat),(P.info? fd.type).map (·.size)=some (n+1)→(Instr.fieldAt s (.pointer (some a)) f).run P w=.ok (.pointer (some (a.add fd.offset))) w:=by
    intro a n hn
    simp only [Option.map_eq_some_iff] at hn
    obtain ⟨i,hi,hsz⟩:=hn
    have hc:P.cellsOf fd.type=n+1:=by simp [Program.cellsOf,hi,hsz]
    simp [Instr.fieldAt,run_underlying hu,hf,Instr.sureAddr,fieldPlace,run_sizeOf w hi,hc]
  split at h
  · rename_i n b k i j hn
    cases h
    cases hx with
    | ptr _ _ _ _ hb =>
      refine .plain (run _ _ hn) ?_
      rw [eR,show i*k+j+fd.offset=i*k+(j+fd.offset) from by omega]
      exact .ptr _ _ _ _ hb
  · rename_i n bw d k i j hn
    cases h
    cases hx with
    | iptr _ _ _ _ _ bl o u ha hb hc hv hr hk hg =>
      refine .plain (run _ _ hn) ?_
      rw [eR,show o+(i*k+j)+fd.offset=o+(i*k+(j+fd.offset)) from by omega]
      exact .iptr _ _ _ _ _ bl o u ha hb hc hv hr hk hg
  · cases h
theorem uM{P:Program}{ρ:af}{w:World}{t:TypeId}{l:List AV}{c:Array Value}{off:Nat}{v:AV}(hl:bh ρ w l c.toList)(h:Mp P t l off=some v) :dM P ρ w (part t c off) v:=by
  unfold Mp at h
  split at h
  · rename_i ha
    simp only [Option.bind_eq_some_iff] at h
    obtain ⟨i,hi,h⟩:=h
    cases e:Nat.ble (off+i.size) l.length with
    | false=>rw [e] at h;cases h
    | true =>
      rw [e] at h
      simp only [cond_true,Option.some.injEq] at h
      subst h
      refine .plain (u:=.agg (c.extract off (off+P.cellsOf t))) ?_ (.agg _ _ ?_)
      · simp [part,lK ha,run_sizeOf w hi]
      · have hs:P.cellsOf t=i.size:=by simp [Program.cellsOf,hi]
        rw [Array.toList_extract,hs,List.extract_eq_take_drop,Nat.add_sub_cancel_left]
        exact (hl.drop off).take i.size
  · rename_i ha
    obtain ⟨u,h1,h2⟩:=hl.get off v h
    rw [Array.getElem?_toList] at h1
    refine .plain (u:=u) ?_ h2
    simp [part,lK ha,h1]
  · cases h
theorem Dq{P:Program}{ρ:af}{w:World}{t:TypeId}{x:AV}{x':Value}{f:Nat}{v:AV}(hx:VR ρ w x x')(h:Do P t x f=some v) :dM P ρ w (Instr.field t x' f) v:=by
  unfold Do at h
  split at h
  case h_2=>cases h
  rename_i fs l hu
  cases hx with
  | agg _ c hl =>
    split at h
    · rename_i fd hf
      obtain ⟨u,k,hr,hv⟩:=uM hl h
      exact ⟨u,k,by simp [Instr.field,run_underlying hu,hf,asAgg,hr],hv⟩
    · cases h
theorem km{P:Program}{w:World}{t e:TypeId}{i:TypeInfo}(hu:P.underlying t=some (.slice e))(hi:P.info? e=some i)(a:Addr)(len cap:Nat)(q:IntKind)(k:Int)(hk:0≤k∧k<(len:Int)) :
    (Instr.indexAt t (.slice (some a) len cap) (.int q k)).run P w=.ok (.pointer (some (a.add (k.toNat*P.cellsOf e)))) w:=by
  simp [Instr.indexAt,asIntOf,run_underlying hu,hk,run_sizeOf w hi]
theorem ko{P:Program}{w:World}{t e:TypeId}{n:Nat}{i:TypeInfo}(hu:P.underlying t=some (.array n e))(hi:P.info? e=some i)(a:Addr)(q:IntKind)(k:Int)(hk:0≤k∧k<(n:Int)) :
    (Instr.indexAt t (.pointer (some a)) (.int q k)).run P w=.ok (.pointer (some (a.add (k.toNat*P.cellsOf e)))) w:=by
  simp [Instr.indexAt,asIntOf,run_underlying hu,Instr.sureAddr,hk,run_sizeOf w hi]
theorem tN{P:Program}{ρ:af}{w:World}{t:TypeId}{x ix:AV}{x' ix':Value}{v:AV}{obs:List Bool}(hx:VR ρ w x x')(hi:VR ρ w ix ix') 
    (h:lX P t x ix=some (v,obs)) (ho:ap obs):dM P ρ w (Instr.indexAt t x' ix') v:=by
  unfold lX at h
  split at h
  case h_2=>cases h
  rename_i q k
  cases hi
  split at h
  · rename_i e bw d kk es i len hu
    split at h
    case h_2=>cases h
    rename_i s inf e1 e2 e3
    simp only [Option.some.injEq,Prod.mk.injEq] at h;obtain ⟨rfl,rfl⟩:=h
    have hb:=pr ho.1
    have e4:es=P.cellsOf e:=Nat.eq_of_beq_eq_true e2
    have hst:=po e1
    cases hx with
    | imm _ _ _ _ _ _ cap bl o u ha hbl hc hv hl hr hk hg =>
      refine .plain (km hu e3 _ _ _ q k hb) ?_
      have:o+i*kk+k.toNat*P.cellsOf e=o+((i+k.toNat*s)*kk+0):=by rw [←e4,←hst,Nat.add_mul,Nat.mul_assoc];omega
      rw [eR,this,fj,pm]
      exact .iptr _ _ _ _ _ bl o u ha hbl hc hv hr hk hg
    | immEnd=>omega
  · rename_i e b kk es i len cap hu
    split at h
    case h_2=>cases h
    rename_i s inf e1 e2 e3
    simp only [Option.some.injEq,Prod.mk.injEq] at h;obtain ⟨rfl,rfl⟩:=h
    have hb:=pr ho.1
    have e4:es=P.cellsOf e:=Nat.eq_of_beq_eq_true e2
    have hst:=po e1
    cases hx with
    | sl _ _ _ _ _ _ cap' hbo hcap hl c ty hh hs =>
      refine .plain (km hu e3 _ _ _ q k hb) ?_
      have:i*kk+k.toNat*P.cellsOf e=(i+k.toNat*s)*kk+0:=by rw [←e4,←hst,Nat.add_mul,Nat.mul_assoc];omega
      rw [eR,this,fj,pm]
      exact .ptr _ _ _ _ hbo
    | slEnd=>omega
  · rename_i n e b kk i j hu
    split at h
    case h_2=>cases h
    rename_i ie e3
    simp only [Option.some.injEq,Prod.mk.injEq] at h;obtain ⟨rfl,rfl⟩:=h
    have hb:=pr ho.1
    have hs:P.cellsOf e=ie.size:=by simp [Program.cellsOf,e3]
    cases hx with
    | ptr _ _ _ _ hbo =>
      refine .plain (ko hu e3 _ q k hb) ?_
      rw [eR,hs,fj,pm,Nat.add_assoc]
      exact .ptr _ _ _ _ hbo
  · rename_i n e bw d kk i j hu
    split at h
    case h_2=>cases h
    rename_i ie e3
    simp only [Option.some.injEq,Prod.mk.injEq] at h;obtain ⟨rfl,rfl⟩:=h
    have hb:=pr ho.1
    have hs:P.cellsOf e=ie.size:=by simp [Program.cellsOf,e3]
    cases hx with
    | iptr _ _ _ _ _ bl o u ha hbl hc hv hr hk hg =>
      refine .plain (ko hu e3 _ q k hb) ?_
      rw [eR,hs,fj,pm,Nat.add_assoc,Nat.add_assoc]
      exact .iptr _ _ _ _ _ bl o u ha hbl hc hv hr hk hg
  · cases h
theorem Dr{P:Program}{ρ:af}{w:World}{t:TypeId}{x ix:AV}{x' ix':Value}{v:AV}{obs:List Bool}(hx:VR ρ w x x')(hi:VR ρ w ix ix') 
    (h:JJ P t x ix=some (v,obs)) (ho:ap obs):dM P ρ w (Instr.index t x' ix') v:=by
  unfold JJ at h
  split at h
  case h_2=>cases h
  rename_i q k
  cases hi
  split at h
  · rename_i s hu
    simp only [Option.some.injEq,Prod.mk.injEq] at h;obtain ⟨rfl,rfl⟩:=h
    have hb:=pr ho.1
    cases hx
    have hlt:k.toNat<s.size:=by omega
    have hlt':k.toNat<s.data.size:=hlt
    have aB:s[k.toNat]? = some (s.data[k.toNat]'hlt'):=by
      rw [getElem?_pos s k.toNat hlt];rfl
    refine .plain (u:=.int .u8 (JI s k.toNat)) ?_ (.int _ _)
    simp [Instr.index,asIntOf,run_underlying hu,hb.1,aB,JI,Array.getElem?_eq_getElem hlt']
  · rename_i n e l hu
    split at h
    · rename_i ie e3
      simp only [Option.map_eq_some_iff,Prod.mk.injEq] at h
      obtain ⟨v',hp,rfl,rfl⟩:=h
      have hb:=pr ho.1
      have hs:P.cellsOf e=ie.size:=by simp [Program.cellsOf,e3]
      cases hx with
      | agg _ c hl =>
        rw [←hs] at hp
        obtain ⟨u,kk,hr,hv⟩:=uM hl hp
        exact ⟨u,kk,by simp [Instr.index,asIntOf,run_underlying hu,hb,run_sizeOf w e3,hr],hv⟩
    · cases h
  · cases h
theorem JK{P:Program}{ρ:af}{w:World}{t:TypeId}{x:AV}{x':Value}{v:AV}(hx:VR ρ w x x')(h:U5 P t x=some v)(T:TypeId) :dM P ρ w (Builtin.len_ #[t] T #[x']) v:=by
  unfold U5 at h
  split at h
  · rename_i s hu;cases h;cases hx;exact .plain (u:=.int .i64 s.size) (by simp [Builtin.len_,run_underlying hu,goInt]) (.int _ _)
  · rename_i n e hu;cases h;exact .plain (u:=.int .i64 n) (by simp [Builtin.len_,run_underlying hu,goInt]) (.int _ _)
  · rename_i e hu;cases h;cases hx;exact .plain (u:=.int .i64 0) (by simp [Builtin.len_,run_underlying hu,goInt]) (.int _ _)
  · rename_i e hu;cases h;cases hx;exact .plain (u:=.int .i64 0) (by simp [Builtin.len_,run_underlying hu,goInt]) (.int _ _)
  · rename_i e b k es i len cap hu
    cases h
    cases hx<;>exact .plain (u:=.int .i64 _) (by simp [Builtin.len_,run_underlying hu,goInt]) (.int _ _)
  · rename_i e bw d k es i len hu
    cases h
    cases hx<;>exact .plain (u:=.int .i64 _) (by simp [Builtin.len_,run_underlying hu,goInt]) (.int _ _)
  · cases h
theorem bh.map{ρ:af}{w:World}{e:Operand→AV}{g:Operand→Value}(h:∀ x,VR ρ w (e x) (g x)) :∀ l:List Operand,bh ρ w (l.map e) (l.map g)
  | []=>.nil
  | x::l=>.cons _ _ _ _ (h x) (bh.map h l)
theorem eS{v:Option AV}{u:AV}{obs:List Bool}(h:nC v=some (u,obs)) :v=some u∧obs=[]:=by
  cases v<;>simp [nC] at h
  exact ⟨by rw [h.1],h.2⟩
theorem dD{P:Program}{w:World}(g:Operand→Value)(b:Builtin)(xs:Array Operand)(ts:Array TypeId)(T:TypeId)(s:Sem Next) 
    (h:s=invoke (.builtin b ts T (xs.map fun | .const _=>true | _=>false)) (xs.map g)):(do let d ← resolve g { callee:=.builtin b,args:=xs,argTypes:=ts } T;invoke d.target d.args:Sem Next).run P w=s.run P w:=by
  subst h;rfl
def Qg:Value→Bool
  | .int .. | .float .. | .string _ | .bool _ | .slice .. | .pointer _ | .func .. | .nilFunc=>true
  | _=>false
theorem zy{P:Program}{w:World}{op:BinOp}{t:TypeId}{x y:Operand}{a b:Value}(h:Qg a=true) :(eqGuard op t x y a b).run P w=.ok () w:=by
  have:eqGuard op t x y a b=pure ():=by
    unfold eqGuard
    cases a<;>first | (cases h;done) | (cases op<;>rfl)
  rw [this];rfl
theorem uN{P:Program}{w:World}{op:BinOp}{t:TypeId}{x y:Operand}{a b:Array Value}(h:P.eqGuardType P.depth t=false) :(eqGuard op t x y (.agg a) (.agg b)).run P w=.ok () w:=by
  cases op<;>first | rfl | simp [eqGuard,h]
theorem Ds{P:Program}{ρ:af}{w:World}{e:Operand→AV}{g:Operand→Value}(hops:∀ x,VR ρ w (e x) (g x)){o:Oper}{v:AV}{obs:List Bool}{wr:Bool}(h:jM wr P e o.op=some (v,obs))(ho:ap obs) :
    ∃ u k,(execOp g o).run P w=.ok (.value u) { w with drawn:=k }∧VR ρ w v u:=by
  unfold execOp
  generalize o.type=T
  generalize o.op=op at h
  unfold jM at h
  split at h
  · simp only [Option.some.injEq,Prod.mk.injEq] at h;obtain ⟨rfl,rfl⟩:=h
    exact ⟨_,w.drawn,rfl,hops _⟩
  · simp only [Option.some.injEq,Prod.mk.injEq] at h;obtain ⟨rfl,rfl⟩:=h
    exact ⟨_,w.drawn,rfl,hops _⟩
  · rename_i c a b
    obtain ⟨h',rfl⟩:=eS h
    clear h;have h:=h'
    have hc:=hops c;have ha:=hops a;have hb:=hops b
    simp only
    generalize e c=ec at *;generalize e a=ea at *;generalize e b=eb at *
    generalize g c=gc at *;generalize g a=ga at *;generalize g b=gb at *
    unfold UK at h
    split at h
    · cases h;cases hc;exact ⟨ga,w.drawn,by simp [asBool],ha⟩
    · cases h;cases hc;exact ⟨gb,w.drawn,by simp [asBool],hb⟩
    · rename_i b1 k2 b2 k3 b3
      cases h;cases hc;cases ha;cases hb
      refine ⟨.bool (bif b1 then b2 else b3),w.drawn,by cases b1<;>simp [asBool],.bool _ _⟩
    · rename_i c1 k1 x k2 y
      cases hs:bc k1 k2 with
      | false=>rw [hs] at h;cases h
      | true =>
        rw [hs] at h
        have:k1=k2:=of_decide_eq_true hs
        subst this
        cases h;cases hc;cases ha;cases hb
        refine ⟨.int k1 (bif c1 then x else y),w.drawn,by cases c1<;>simp [asBool],.int _ _⟩
    · cases h
  · rename_i x
    have hx:=hops x
    simp only
    generalize e x=ex at *;generalize g x=gx at *
    split at h
    · simp only [Option.some.injEq,Prod.mk.injEq] at h;obtain ⟨rfl,rfl⟩:=h
      cases hx with | ptr _ _ _ _ hb=>exact ⟨_,w.drawn,rfl,.ptr _ _ _ _ hb⟩
    · simp only [Option.some.injEq,Prod.mk.injEq] at h;obtain ⟨rfl,rfl⟩:=h
      cases hx with | iptr _ _ _ _ _ bl o u ha hbl hc hv hr hk hg=>exact ⟨_,w.drawn,rfl,.iptr _ _ _ _ _ bl o u ha hbl hc hv hr hk hg⟩
    · simp only [Option.some.injEq,Prod.mk.injEq] at h;obtain ⟨rfl,rfl⟩:=h
      cases hx with | fn _ _ _ _ _ h1 h2=>exact ⟨_,w.drawn,rfl,.fn _ _ _ _ _ h1 h2⟩
    · cases h
  · rename_i bop t x y yt
    obtain ⟨u,k,hr,hv⟩:=JG (hops x) (hops y) h ho
    refine ⟨u,k,?_,hv⟩
    apply bn
    have hg:(eqGuard bop t x y (g x) (g y)).run P w=.ok () w:=by
      have hx:=hops x
      have hy:=hops y
      generalize e x=ex at *;generalize e y=ey at *
      generalize g x=gx at *;generalize g y=gy at *
      clear hr
      have pl:Qg gx=true→(eqGuard bop t x y gx gy).run P w=.ok () w:=zy
      unfold Qa at h
      split at h<;>first | (cases h;done) | (refine pl ?_;cases hx<;>rfl) | skip
      · cases ht:oh P t with
        | false=>rw [ht] at h;cases h
        | true =>
          obtain ⟨c,rfl⟩:=gn hx
          obtain ⟨c',rfl⟩:=gn hy
          exact uN (uL ht)
      · cases ht:oh P t with
        | false=>rw [ht] at h;cases h
        | true =>
          obtain ⟨c,rfl⟩:=gn hx
          obtain ⟨c',rfl⟩:=gn hy
          exact uN (uL ht)
      · split at h
        · obtain ⟨b,hr,hop⟩:=gl h
          obtain ⟨a,l,c,e⟩:=rQ hx hr
          refine pl ?_;rw [e];rfl
        · cases h
      · split at h
        · obtain ⟨b,hr,hop⟩:=gl h
          obtain ⟨a,e⟩:=qb hx hr
          refine pl ?_;rw [e];rfl
        · cases h
      · split at h
        · obtain ⟨b,hr,hop⟩:=gl h
          rcases rR hx hr with ⟨f,c,d,e⟩ | e<;>(refine pl ?_;rw [e];rfl)
        · cases h
    simp only [Sem.run_bind,hg,Result.andThen_ok,hr]
  · rename_i uop t x
    obtain ⟨u,k,hr,hv⟩:=OK (P:=P) (hops x) h ho
    exact ⟨u,k,bn hr,hv⟩
  · rename_i s d x
    obtain ⟨u,k,hr,hv⟩:=FD (hops x) h ho
    exact ⟨u,k,bn hr,hv⟩
  · rename_i t x
    split at h
    · cases h
    · cases h
    · rename_i d n hu
      simp only [Option.some.injEq,Prod.mk.injEq] at h;obtain ⟨rfl,rfl⟩:=h
      refine ⟨.iface t (g x),w.drawn,bn ?_,.iface _ _ _ (hops x)⟩
      cases d<;>simp_all [Instr.makeInterface,run_underlying hu]
  · rename_i fn first caps
    simp only [Option.some.injEq,Prod.mk.injEq] at h;obtain ⟨rfl,rfl⟩:=h
    refine ⟨.func fn (first.map g) (caps.map g),w.drawn,bn rfl,.fn _ _ _ _ _ ?_ ?_⟩
    · simpa using bh.map hops first.toList
    · simpa using bh.map hops caps.toList
  · rename_i t x lo hi
    obtain ⟨u,k,hr,hv⟩:=Dp hops (hops x) h ho
    exact ⟨u,k,bn hr,hv⟩
  · rename_i t x lo hi mx
    obtain ⟨u,k,hr,hv⟩:=zx hops (hops x) h ho
    exact ⟨u,k,bn hr,hv⟩
  · rename_i s x f
    obtain ⟨h',rfl⟩:=eS h
    clear h;have h:=h'
    obtain ⟨u,k,hr,hv⟩:=tM (hops x) h
    exact ⟨u,k,bn hr,hv⟩
  · rename_i t x f
    obtain ⟨h',rfl⟩:=eS h
    clear h;have h:=h'
    obtain ⟨u,k,hr,hv⟩:=Dq (hops x) h
    exact ⟨u,k,bn hr,hv⟩
  · rename_i t x ix
    obtain ⟨u,k,hr,hv⟩:=tN (hops x) (hops ix) h ho
    exact ⟨u,k,bn hr,hv⟩
  · rename_i t x ix
    obtain ⟨u,k,hr,hv⟩:=Dr (hops x) (hops ix) h ho
    exact ⟨u,k,bn hr,hv⟩
  · rename_i x i
    have hx:=hops x
    simp only
    generalize e x=ex at *;generalize g x=gx at *
    split at h
    · obtain ⟨h',rfl⟩:=eS h
      clear h;have h:=h'
      cases hx with
      | tup _ c hl =>
        obtain ⟨u,h1,h2⟩:=hl.get i v h
        rw [Array.getElem?_toList] at h1
        exact ⟨u,w.drawn,bn (by simp [Instr.extract,h1]),h2⟩
    · cases h
  · rename_i xs ts
    split at h
    · rename_i x t hx ht
      obtain ⟨h',rfl⟩:=eS h
      clear h;have h:=h'
      obtain ⟨u,k,hr,hv⟩:=JK (hops x) h T
      refine ⟨u,k,?_,hv⟩
      have e1:xs = #[x]:=by rw [←hx]
      have e2:ts = #[t]:=by rw [←ht]
      subst e1;subst e2
      have:=bn hr
      simp only [dD g .len #[x] #[t] T _ rfl]
      simpa [invoke,builtin] using this
    · cases h
  · rename_i xs ts
    split at h
    · rename_i x l hx
      obtain ⟨h',rfl⟩:=eS h
      obtain ⟨u,kd,hr,hv⟩:=wo (P:=P) (hops x) (bh.map hops l) h'
      refine ⟨u,kd,?_,hv⟩
      have e1:xs=(x::l).toArray:=by rw [←hx]
      subst e1
      have hr2:(Builtin.max_ ts T ((x::l).toArray.map g)).run P w=.ok u { w with drawn:=kd }:=by simpa [Builtin.max_] using hr
      have:=bn hr2
      simp only [dD g .max (x::l).toArray ts T _ rfl]
      simpa [invoke,builtin] using this
    · cases h
  · rename_i xs ts
    split at h
    · rename_i x l hx
      obtain ⟨h',rfl⟩:=eS h
      obtain ⟨u,kd,hr,hv⟩:=wq (P:=P) (hops x) (bh.map hops l) h'
      refine ⟨u,kd,?_,hv⟩
      have e1:xs=(x::l).toArray:=by rw [←hx]
      subst e1
      have hr2:(Builtin.min_ ts T ((x::l).toArray.map g)).run P w=.ok u { w with drawn:=kd }:=by simpa [Builtin.min_] using hr
      have:=bn hr2
      simp only [dD g .min (x::l).toArray ts T _ rfl]
      simpa [invoke,builtin] using this
    · cases h
  · cases h
def fw(i n:Nat) :Bool:=decide (i<n)
def dd.rd(c:dd)(i:Nat) :Option (AV×List Bool) :=
  match c with
  | .cf xs=>some (.flt false (xs.getD i 0),[fw i xs.length])
  | .ci k xs=>some (.int k (xs.getD i 0),[fw i xs.length])
  | .cb xs=>some (.bool false (xs.getD i false),[fw i xs.length])
  | .cs xs=>some (.str (xs.getD i .empty),[fw i xs.length])
  | .cfl xs=>some (.imm .free (.fl (xs.getD i [])) 1 1 0 (xs.getD i []).length,[fw i xs.length])
  | .cns k xs=>some (.imm .free (.ns k (xs.getD i [])) 1 1 0 (xs.getD i []).length,[fw i xs.length])
def aq.rd(d:aq)(w i j:Nat) :Option (AV×List Bool) :=
  match d with
  | .fl xs=>bif Nat.beq w 1 then some (.flt false (xs.getD (cD j i) 0),[fw (cD j i) xs.length]) else none
  | .ns k xs=>bif Nat.beq w 1 then some (.int k (xs.getD (cD j i) 0),[fw (cD j i) xs.length]) else none
  | .bs xs=>bif Nat.beq w 1 then some (.bool false (xs.getD (cD j i) false),[fw (cD j i) xs.length]) else none
  | .ss xs=>bif Nat.beq w 1 then some (.str (xs.getD (cD j i) .empty),[fw (cD j i) xs.length]) else none
  | .vs xs=>bif Nat.beq w 1 then nC (xs[cD j i]?) else none
  | .rows w' n get=>bif Nat.beq w w'&&Nat.blt j w then some (get i j,[fw i n]) else none
  | .cols n cs=>bif Nat.beq w cs.length then (cs[j]?).bind fun c=>c.rd i else none
theorem iy{α:Type}{xs:List α}{i:Nat}{d:α}(h:fw i xs.length=true) :xs[i]? = some (xs.getD i d):=by
  have:i<xs.length:=of_decide_eq_true h
  rw [List.getD_eq_getElem?_getD,List.getElem?_eq_getElem this];rfl
theorem dd.rd_spec{c:dd}{i:Nat}{v:AV}{obs:List Bool}(h:c.rd i=some (v,obs))(ho:ap obs) :c.cell? i=some v:=by
  cases c<;>simp only [dd.rd,Option.some.injEq,Prod.mk.injEq] at h<;>obtain ⟨rfl,rfl⟩:=h
  · simp only [dd.cell?,iy (d:=0) ho.1,Option.map_some]
  · simp only [dd.cell?,iy (d:=0) ho.1,Option.map_some]
  · simp only [dd.cell?,iy (d:=false) ho.1,Option.map_some]
  · simp only [dd.cell?,iy (d:=ByteArray.empty) ho.1,Option.map_some]
  · simp only [dd.cell?,iy (d:=[]) ho.1,Option.map_some]
  · simp only [dd.cell?,iy (d:=[]) ho.1,Option.map_some]
theorem Bc{w i j:Nat}(e2:j<w) :(i*w+j)/w=i∧(i*w+j)%w=j :=
  ⟨by rw [Nat.add_comm,Nat.add_mul_div_right _ _ (by omega),Nat.div_eq_of_lt e2,Nat.zero_add],by rw [Nat.add_comm,Nat.add_mul_mod_self_right,Nat.mod_eq_of_lt e2]⟩
theorem aq.rd_spec{d:aq}{w i j:Nat}{v:AV}{obs:List Bool}(h:d.rd w i j=some (v,obs))(ho:ap obs) :d.cell? (i*w+j)=some v:=by
  have one:∀ {α:Type} {x y:α},(bif Nat.beq w 1 then some x else none)=some y→w=1∧x=y:=by
    intro α x y h
    cases e:Nat.beq w 1 with
    | true=>rw [e] at h;cases h;exact ⟨Nat.eq_of_beq_eq_true e,rfl⟩
    | false=>rw [e] at h;cases h
  cases d with
  | fl xs=>obtain ⟨e1,h'⟩:=one h;subst e1;obtain ⟨rfl,rfl⟩:=Prod.mk.inj h';have:=iy (d:=0) ho.1;simp only [fj] at this ⊢;rw [Nat.mul_one,Nat.add_comm];simp only [aq.cell?,this,Option.map_some]
  | ns k xs=>obtain ⟨e1,h'⟩:=one h;subst e1;obtain ⟨rfl,rfl⟩:=Prod.mk.inj h';have:=iy (d:=0) ho.1;simp only [fj] at this ⊢;rw [Nat.mul_one,Nat.add_comm];simp only [aq.cell?,this,Option.map_some]
  | bs xs=>obtain ⟨e1,h'⟩:=one h;subst e1;obtain ⟨rfl,rfl⟩:=Prod.mk.inj h';have:=iy (d:=false) ho.1;simp only [fj] at this ⊢;rw [Nat.mul_one,Nat.add_comm];simp only [aq.cell?,this,Option.map_some]
  | ss xs=>obtain ⟨e1,h'⟩:=one h;subst e1;obtain ⟨rfl,rfl⟩:=Prod.mk.inj h';have:=iy (d:=ByteArray.empty) ho.1;simp only [fj] at this ⊢;rw [Nat.mul_one,Nat.add_comm];simp only [aq.cell?,this,Option.map_some]
  | vs xs =>
    simp only [aq.rd] at h
    cases e:Nat.beq w 1 with
    | false=>rw [e] at h;cases h
    | true =>
      rw [e] at h
      obtain ⟨h',rfl⟩:=eS h
      have:=Nat.eq_of_beq_eq_true e
      subst this
      simp only [fj] at h'
      rw [Nat.mul_one,Nat.add_comm];simp only [aq.cell?,h']
  | rows w' n get =>
    simp only [aq.rd] at h
    cases e:(Nat.beq w w'&&Nat.blt j w) with
    | false=>rw [e] at h;cases h
    | true =>
      rw [e] at h
      simp only [cond_true,Option.some.injEq,Prod.mk.injEq] at h;obtain ⟨rfl,rfl⟩:=h
      rw [Bool.and_eq_true] at e
      have e1:=Nat.eq_of_beq_eq_true e.1
      subst e1
      have e2:j<w:=by have:=e.2;simpa [Nat.blt_eq] using this
      have hi:i<n:=of_decide_eq_true ho.1
      have q1:(i*w+j)/w=i:=by rw [Nat.add_comm,Nat.add_mul_div_right _ _ (by omega),Nat.div_eq_of_lt e2,Nat.zero_add]
      have q2:(i*w+j)%w=j:=by rw [Nat.add_comm,Nat.add_mul_mod_self_right,Nat.mod_eq_of_lt e2]
      simp [aq.cell?,q1,q2,hi]
  | cols n cs =>
    simp only [aq.rd] at h
    cases e:Nat.beq w cs.length with
    | false=>rw [e] at h;cases h
    | true =>
      rw [e] at h
      have:=Nat.eq_of_beq_eq_true e
      subst this
      simp only [cond_true,Option.bind_eq_some_iff] at h
      obtain ⟨c,h1,h2⟩:=h
      have e2:j<cs.length:=(List.getElem?_eq_some_iff.1 h1).1
      obtain ⟨q1,q2⟩:=Bc (i:=i) e2
      simp only [aq.cell?,q1,q2,h1,Option.bind_some]
      exact dd.rd_spec h2 ho
def aq.rdN(d:aq)(w i:Nat) :Nat→Nat→Option (List AV×List Bool)
  | 0,_=>some ([],[])
  | n+1,j =>
    match d.rd w i j,d.rdN w i n (j+1) with
    | some (v,o),some (l,o')=>some (v::l,o++o')
    | _,_=>none
theorem aE{a b:List Bool} :ap (a++b)↔ap a∧ap b:=by
  induction a with
  | nil=>simp [ap]
  | cons x l ih=>simp [ap,ih,and_assoc]
theorem rU{d:aq}{w i:Nat} :∀ {n j:Nat} {l:List AV} {obs:List Bool},d.rdN w i n j=some (l,obs)→ap obs→l.length=n∧∀ x,x<n→d.cell? (i*w+j+x)=l[x]?
  | 0,j,l,obs,h,_=>by simp [aq.rdN] at h;obtain ⟨rfl,rfl⟩:=h;exact ⟨rfl,fun x hx=>by omega⟩
  | n+1,j,l,obs,h,ho=>by
    simp only [aq.rdN] at h
    split at h
    · rename_i v o l' o' h1 h2
      simp only [Option.some.injEq,Prod.mk.injEq] at h;obtain ⟨rfl,rfl⟩:=h
      rw [aE] at ho
      have s1:=aq.rd_spec h1 ho.1
      obtain ⟨s2,s3⟩:=rU h2 ho.2
      refine ⟨by simp [s2],fun x hx=>?_⟩
      cases x with
      | zero=>simpa using s1
      | succ x=>have:=s3 x (by omega);rw [show i*w+j+(x+1)=i*w+(j+1)+x from by omega];simpa using this
    · cases h
theorem kp{P:Program}{w:World}(bl o:Nat) :∀ (n i:Nat) (us:List Value) (acc:Array Value),us.length=n→(∀ x,x<n→w.cell? ⟨bl,o+i+x,none⟩=us[x]?) →
    (loadCellsFrom ⟨bl,o,none⟩ i n acc).run P w=.ok (acc++us.toArray) w
  | 0,i,us,acc,hl,_=>by
    have:us=[]:=List.length_eq_zero_iff.1 hl
    subst this;simp [loadCellsFrom]
  | n + 1, i, us, acc, hl, h => by
    match us,hl with
    | u::us,hl =>
      have h0:=h 0 (by omega)
      simp at h0
      have ih:=kp (P:=P) (w:=w) bl o n (i+1) us (acc.push u) (by simpa using hl) (fun x hx=>by
        have:=h (x+1) (by omega);rw [show o+(i+1)+x=o+i+(x+1) from by omega];simpa using this)
      have hld:(load (Addr.add ⟨bl,o,none⟩ i)).run P w=.ok u w:=by rw [eR];simp [load,Sem.run,h0]
      simp only [loadCellsFrom,Sem.run_bind,hld,Result.andThen_ok,ih]
      simp
theorem jN{ρ:af}{w:World} :∀ {l:List AV} {us:List Value},us.length=l.length→(∀ (x:Nat) (v:AV) (u:Value),l[x]? = some v→us[x]? = some u→VR ρ w v u)→bh ρ w l us
  | [],[],_,_=>.nil
  | v::l,u::us,hl,h=>.cons _ _ _ _ (h 0 v u rfl rfl) (jN (by simpa using hl) fun x v u h1 h2=>h (x+1) v u (by simpa using h1) (by simpa using h2))
  | [],_::_,hl,_=>by cases hl
  | _::_,[],hl,_=>by cases hl
theorem FE{ρ:af}{w:World}{bl o:Nat}{d:aq}{k i n j:Nat}{l:List AV}{obs:List Bool}(hc:∀ x v,d.cell? x=some v→∃ u,w.cell? ⟨bl,o+x,none⟩=some u∧VR ρ w v u) 
    (h:d.rdN k i n j=some (l,obs)) (ho:ap obs):∃ us:List Value,us.length=n∧(∀ x,x<n→w.cell? ⟨bl,o+(i*k+j)+x,none⟩=us[x]?)∧bh ρ w l us:=by
  obtain ⟨hl,hx⟩:=rU h ho
  have each:∀ x,x<n→∃ v u,l[x]? = some v∧w.cell? ⟨bl,o+(i*k+j)+x,none⟩=some u∧VR ρ w v u:=by
    intro x hlt
    have h1:=hx x hlt
    rw [List.getElem?_eq_getElem (by omega)] at h1
    obtain ⟨u,h2,h3⟩:=hc _ _ h1
    refine ⟨l[x],u,List.getElem?_eq_getElem (by omega),?_,h3⟩
    rw [show o+(i*k+j)+x=o+(i*k+j+x) from by omega];exact h2
  refine ⟨(List.range n).map fun x=>(w.cell? ⟨bl,o+(i*k+j)+x,none⟩).getD undef,by simp,fun x hlt=>?_,jN (by simp [hl]) ?_⟩
  · obtain ⟨v,u,_,h2,_⟩:=each x hlt
    rw [List.getElem?_map,List.getElem?_range hlt];simp [h2]
  · intro x v u h1 h2
    have hlt:x<n:=by
      rcases Nat.lt_or_ge x n with q | q
      · exact q
      · rw [List.getElem?_eq_none (by omega)] at h1;cases h1
    obtain ⟨v',u',q1,q2,q3⟩:=each x hlt
    rw [List.getElem?_map,List.getElem?_range hlt] at h2
    simp [q2] at h2
    rw [h1] at q1;cases q1;subst h2;exact q3
def qc(P:Program)(g:Nat→Option aq)(t:TypeId)(x:AV) :Option (AV×List Bool×List Nat) :=
  let go (d:aq) (w i j:Nat):Option (AV×List Bool) :=
    match FC P t,P.info? t with
    | some true,some inf=>(d.rdN w i inf.size j).map fun r=>(.agg r.1,r.2)
    | some false,some _=>d.rd w i j
    | _,_=>none
  match x with
  | .ptr b w i j=>match g b with
    | some d=>(go d w i j).map fun r=>(r.1,r.2,[b])
    | none=>none
  | .iptr _ d w i j=>(go d w i j).map fun r=>(r.1,r.2,[])
  | _=>none
def Mq(P:Program)(ρ:af)(w:World)(s:Sem Value)(v:AV) :Prop:=∃ u,s.run P w=.ok u w∧VR ρ w v u
theorem Mq.plain{P:Program}{ρ:af}{w:World}{s:Sem Value}{v:AV}{u:Value}(h:s.run P w=.ok u w)(hv:VR ρ w v u) :Mq P ρ w s v:=⟨u,h,hv⟩
theorem uO{P:Program}{ρ:af}{w:World}{h:aM}{n:Nat}(hh:HR ρ w h n){t:TypeId}{x:AV}{x':Value}{v:AV}{obs:List Bool}{rs:List Nat}(hx:VR ρ w x x') 
    (hl:qc P (aB h) t x=some (v,obs,rs)) (ho:ap obs):Mq P ρ w (Instr.loadAt t x') v:=by
  have go:∀ (d:aq) (k i j bl o:Nat),(∀ x v,d.cell? x=some v→∃ u,w.cell? ⟨bl,o+x,none⟩=some u∧VR ρ w v u) →
      (match FC P t,P.info? t with
        | some true,some inf=>(d.rdN k i inf.size j).map fun r=>(AV.agg r.1,r.2)
        | some false,some _=>d.rd k i j
        | _,_=>none)=some (v,obs)→Mq P ρ w (Instr.loadAt t (.pointer (some ⟨bl,o+(i*k+j),none⟩))) v:=by
    intro d k i j bl o hc hg
    split at hg
    · rename_i inf ha hi
      simp only [Option.map_eq_some_iff,Prod.mk.injEq] at hg
      obtain ⟨⟨l,o'⟩,h1,rfl,rfl⟩:=hg
      obtain ⟨us,q1,q2,q3⟩:=FE hc h1 ho
      refine .plain (u:=.agg us.toArray) ?_ (.agg _ _ (by simpa using q3))
      have hs:P.cellsOf t=inf.size:=by simp [Program.cellsOf,hi]
      have:=kp (P:=P) (w:=w) bl (o+(i*k+j)) inf.size 0 us #[] q1 (by simpa using q2)
      simp only [Instr.loadAt,Instr.sureAddr,loadVar,Sem.run_bind,Sem.run_pure,Result.andThen_ok,lK ha,if_true,run_sizeOf w hi,hs,loadCells,this]
      simp
    · rename_i inf ha hi
      have s:=aq.rd_spec hg ho
      obtain ⟨u,h2,h3⟩:=hc _ _ s
      refine .plain (u:=u) ?_ h3
      simp [Instr.loadAt,Instr.sureAddr,loadVar,lK ha,load,Sem.run,h2]
    · cases hg
  unfold qc at hl
  simp only at hl
  split at hl
  · rename_i b k i j
    split at hl
    · rename_i d hd
      simp only [Option.map_eq_some_iff,Prod.mk.injEq] at hl
      obtain ⟨⟨v',o'⟩,h1,rfl,rfl,rfl⟩:=hl
      cases hx with | ptr _ _ _ _ hok =>
      obtain ⟨_,_,c,ty,hc,hv⟩:=hh.real hd hok
      have:=go d k i j (ρ.at_ b) 0 (fun x v hx=>by
        obtain ⟨u,h1,h2⟩:=hv x v hx
        exact ⟨u,by simp [World.cell?,hc,h1],h2⟩) h1
      simpa using this
    · cases hl
  · rename_i bw d k i j
    simp only [Option.map_eq_some_iff,Prod.mk.injEq] at hl
    obtain ⟨⟨v',o'⟩,h1,rfl,rfl,rfl⟩:=hl
    cases hx with
    | iptr _ _ _ _ _ bl o u ha hb hc hv hr hk hg =>
      exact go d k i j bl o (fun x v hx=>⟨u x,hc x v hx,hv x v hx⟩) h1
  · cases hl
theorem FF{P:Program}{ρ:af}{w:World}{h:aM}{n:Nat}(hh:HR ρ w h n){t:TypeId}{x:AV}{x':Value}{v:AV}{obs:List Bool}{rs:List Nat}(hx:VR ρ w x x') 
    (hl:qc P (aB h) t x=some (v,obs,rs)) (ho:ap obs):dM P ρ w (Instr.loadAt t x') v :=
  let ⟨_,h1,h2⟩:=uO hh hx hl ho;.plain h1 h2
def dd.wr(c:dd)(i:Nat)(v:AV) :Option (dd×List Bool) :=
  match c,v with
  | .cf xs,.flt _ x=>some (.cf (xs.set i x),[fw i xs.length])
  | .ci k xs,.int k' x=>bif bc k k' then some (.ci k (xs.set i x),[fw i xs.length]) else none
  | .cb xs,.bool _ x=>some (.cb (xs.set i x),[fw i xs.length])
  | .cs xs,.str x=>some (.cs (xs.set i x),[fw i xs.length])
  | .cfl xs,.nsl=>some (.cfl (xs.set i []),[fw i xs.length])
  | .cfl xs,.imm l (.fl ys) 1 1 o n=>bif l.isFree then some (.cfl (xs.set i ((ys.drop o).take n)),[fw i xs.length,decide (o+n≤ys.length)]) else none
  | .cns k xs,.nsl=>some (.cns k (xs.set i []),[fw i xs.length])
  | .cns k xs,.imm l (.ns k' ys) 1 1 o n=>bif bc k k'&&l.isFree then some (.cns k (xs.set i ((ys.drop o).take n)),[fw i xs.length,decide (o+n≤ys.length)]) else none
  | _,_=>none
def aq.wr(d:aq)(w i j:Nat)(v:AV) :Option (aq×List Bool) :=
  match d,v with
  | .fl xs,.flt _ x=>bif Nat.beq w 1 then some (.fl (xs.set (cD j i) x),[fw (cD j i) xs.length]) else none
  | .ns k xs,.int k' x=>bif Nat.beq w 1&&bc k k' then some (.ns k (xs.set (cD j i) x),[fw (cD j i) xs.length]) else none
  | .bs xs,.bool _ x=>bif Nat.beq w 1 then some (.bs (xs.set (cD j i) x),[fw (cD j i) xs.length]) else none
  | .ss xs,.str x=>bif Nat.beq w 1 then some (.ss (xs.set (cD j i) x),[fw (cD j i) xs.length]) else none
  | .vs xs,v=>bif Nat.beq w 1&&Nat.blt (cD j i) xs.length then some (.vs (xs.set (cD j i) v),[]) else none
  | .rows w' n get,v=>bif Nat.beq w w'&&(Nat.blt j w&&(v.kept&&v.one)) then some (.rows w' n (fun a c=>bif Nat.beq a i&&Nat.beq c j then v else get a c),[fw i n]) else none
  | .cols n cs,v=>bif Nat.beq w cs.length then (cs[j]?).bind fun c=>(c.wr i v).map fun r=>(.cols n (cs.set j r.1),r.2) else none
  | _,_=>none
def aH(v e:AV) :Prop:=∀ (ρ:af) (w:World) (u:Value),VR ρ w v u→VR ρ w e u
theorem aH.refl(v:AV) :aH v v:=fun _ _ _ h=>h
theorem rV{l:Lv}{ys:List Nat}{o n:Nat}(hl:l.isFree=true)(h:o+n≤ys.length) :aH (.imm l (.fl ys) 1 1 o n) (.imm .free (.fl ((ys.drop o).take n)) 1 1 0 ((ys.drop o).take n).length):=by
  intro ρ w u hv
  have hlen:((ys.drop o).take n).length=n:=by simp;omega
  rw [hlen]
  cases hv with
  | imm _ _ _ _ _ _ cap bl o' u' ha hb hc hv' hl' hr hk hg =>
    have:=VR.imm (ρ:=ρ) (w:=w) .free (.fl ((ys.drop o).take n)) 1 1 0 n cap bl (o'+o) (fun x=>u' (o+x)) (fun j hj=>ib (O:=ρ.own) hl ha j hj) hb
      (fun x v hx=>by
        simp only [aq.cell?,Option.map_eq_some_iff,List.getElem?_take,List.getElem?_drop] at hx
        obtain ⟨y,h1,h2⟩:=hx
        split at h1
        · rw [Nat.add_assoc];exact hc (o+x) v (by simp [aq.cell?,h1,h2])
        · cases h1)
      (fun x v hx=>by
        simp only [aq.cell?,Option.map_eq_some_iff,List.getElem?_take,List.getElem?_drop] at hx
        obtain ⟨y,h1,h2⟩:=hx
        split at h1
        · exact hv' (o+x) v (by simp [aq.cell?,h1,h2])
        · cases h1) hl' trivial (fun _=>rfl) rfl
    simpa using this
  | immEnd=>exact .immEnd _ _ _ _ _ _ _ trivial (fun _=>rfl) rfl
theorem rW{l:Lv}{k:IntKind}{ys:List Int}{o n:Nat}(hl:l.isFree=true)(h:o+n≤ys.length) :aH (.imm l (.ns k ys) 1 1 o n) (.imm .free (.ns k ((ys.drop o).take n)) 1 1 0 ((ys.drop o).take n).length):=by
  intro ρ w u hv
  have hlen:((ys.drop o).take n).length=n:=by simp;omega
  rw [hlen]
  cases hv with
  | imm _ _ _ _ _ _ cap bl o' u' ha hb hc hv' hl' hr hk hg =>
    have:=VR.imm (ρ:=ρ) (w:=w) .free (.ns k ((ys.drop o).take n)) 1 1 0 n cap bl (o'+o) (fun x=>u' (o+x)) (fun j hj=>ib (O:=ρ.own) hl ha j hj) hb
      (fun x v hx=>by
        simp only [aq.cell?,Option.map_eq_some_iff,List.getElem?_take,List.getElem?_drop] at hx
        obtain ⟨y,h1,h2⟩:=hx
        split at h1
        · rw [Nat.add_assoc];exact hc (o+x) v (by simp [aq.cell?,h1,h2])
        · cases h1)
      (fun x v hx=>by
        simp only [aq.cell?,Option.map_eq_some_iff,List.getElem?_take,List.getElem?_drop] at hx
        obtain ⟨y,h1,h2⟩:=hx
        split at h1
        · exact hv' (o+x) v (by simp [aq.cell?,h1,h2])
        · cases h1) hl' trivial (fun _=>rfl) rfl
    simpa using this
  | immEnd=>exact .immEnd _ _ _ _ _ _ _ trivial (fun _=>rfl) rfl
theorem lL(d:aq)(hr:d.recKept)(hk:d.kept=true)(hg:d.foreign=true) :aH .nsl (.imm .free d 1 1 0 0):=by
  intro ρ w u hv;cases hv;exact .immEnd _ _ _ _ _ _ _ hr (fun _=>hk) hg
def aq.weak(d:aq)(v:AV) :AV :=
  match d,v with
  | .fl _,.flt _ x=>.flt false x
  | .bs _,.bool _ x=>.bool false x
  | _,v=>v
theorem jk{d:aq}{v:AV} :aH v (d.weak v):=by
  intro ρ w u h
  unfold aq.weak
  split
  · cases h with | flt _ _ y hf =>
    refine .flt _ _ _ ?_
    rcases hf with rfl | ⟨_,h2,h3⟩
    · exact .inl rfl
    · exact .inr ⟨rfl,h2,h3⟩
  · cases h;exact .bool _ _
  · exact h
theorem lM{α:Type}{f:α→AV}{xs:List α}{i:Nat}{x:α}(hi:i<xs.length) :
    (∃ e,(xs[i]?).map f=some e)∧∀ y e,((xs.set i x)[y]?).map f=some e→(y=i∧e=f x)∨(y≠i∧(xs[y]?).map f=some e):=by
  refine ⟨⟨f xs[i],by simp [hi]⟩,fun y e h=>?_⟩
  rw [List.getElem?_set] at h
  by_cases hy:i=y
  · subst hy;simp [hi] at h;exact .inl ⟨rfl,h.symm⟩
  · rw [if_neg hy] at h;exact .inr ⟨fun q=>hy q.symm,h⟩
theorem dd.wr_spec{c c':dd}{i:Nat}{v:AV}{obs:List Bool}(h:c.wr i v=some (c',obs))(ho:ap obs) :
    (∃ e,c.cell? i=some e)∧(∀ y e,c'.cell? y=some e→(y=i∧aH v e)∨(y≠i∧c.cell? y=some e)):=by
  have fin:∀ {α:Type} {f:α→AV} {xs:List α} {x:α},fw i xs.length=true→aH v (f x)→(∃ e,(xs[i]?).map f=some e)∧∀ y e,((xs.set i x)[y]?).map f=some e→(y=i∧aH v e)∨(y≠i∧(xs[y]?).map f=some e):=by
    intro α f xs x h1 h2
    obtain ⟨q1,q2⟩:=lM (f:=f) (x:=x) (of_decide_eq_true h1:i<xs.length)
    exact ⟨q1,fun y e hy=>(q2 y e hy).imp (fun q=>⟨q.1,by rw [q.2];exact h2⟩) id⟩
  unfold dd.wr at h
  split at h
  · simp only [Option.some.injEq,Prod.mk.injEq] at h;obtain ⟨rfl,rfl⟩:=h
    exact fin ho.1 (jk (d:=.fl []))
  · rename_i k xs k' x
    cases e:bc k k' with
    | false=>rw [e] at h;cases h
    | true =>
      rw [e] at h;simp only [cond_true,Option.some.injEq,Prod.mk.injEq] at h;obtain ⟨rfl,rfl⟩:=h
      have hk:k=k':=of_decide_eq_true e
      subst hk
      exact fin ho.1 (aH.refl _)
  · simp only [Option.some.injEq,Prod.mk.injEq] at h;obtain ⟨rfl,rfl⟩:=h
    exact fin ho.1 (jk (d:=.bs []))
  · simp only [Option.some.injEq,Prod.mk.injEq] at h;obtain ⟨rfl,rfl⟩:=h
    exact fin ho.1 (aH.refl _)
  · simp only [Option.some.injEq,Prod.mk.injEq] at h;obtain ⟨rfl,rfl⟩:=h
    exact fin (f:=fun l=>.imm .free (.fl l) 1 1 0 l.length) ho.1 (lL _ trivial rfl rfl)
  · rename_i xs l ys o n
    cases e:l.isFree with
    | false=>rw [e] at h;cases h
    | true =>
      rw [e] at h;simp only [cond_true,Option.some.injEq,Prod.mk.injEq] at h;obtain ⟨rfl,rfl⟩:=h
      exact fin (f:=fun l=>.imm .free (.fl l) 1 1 0 l.length) ho.1 (rV e (of_decide_eq_true ho.2.1))
  · simp only [Option.some.injEq,Prod.mk.injEq] at h;obtain ⟨rfl,rfl⟩:=h
    exact fin (f:=fun l=>.imm .free (.ns _ l) 1 1 0 l.length) ho.1 (lL _ trivial rfl rfl)
  · rename_i k xs l k' ys o n
    cases e:(bc k k'&&l.isFree) with
    | false=>rw [e] at h;cases h
    | true =>
      rw [e] at h;simp only [cond_true,Option.some.injEq,Prod.mk.injEq] at h;obtain ⟨rfl,rfl⟩:=h
      rw [Bool.and_eq_true] at e
      have hk:k=k':=of_decide_eq_true e.1
      subst hk
      exact fin (f:=fun l=>.imm .free (.ns k l) 1 1 0 l.length) ho.1 (rW e.2 (of_decide_eq_true ho.2.1))
  · cases h
theorem JL{c c':dd}{i:Nat}{v:AV}{obs:List Bool}(h:c.wr i v=some (c',obs)) :c'.len=c.len:=by
  unfold dd.wr at h
  split at h
  case h_2 =>
    rename_i k xs k' x
    cases e:bc k k'<;>rw [e] at h<;>cases h
    simp [dd.len]
  case h_6 =>
    rename_i xs l ys o n
    cases e:l.isFree<;>rw [e] at h<;>cases h
    simp [dd.len]
  case h_8 =>
    rename_i k xs l k' ys o n
    cases e:(bc k k'&&l.isFree)<;>rw [e] at h<;>cases h
    simp [dd.len]
  all_goals first | (cases h;simp [dd.len];done) | cases h
theorem aq.wr_spec{d d':aq}{w i j:Nat}{v:AV}{obs:List Bool}(hrk:d.recKept)(h:d.wr w i j v=some (d',obs))(ho:ap obs) :
    d'.recKept∧(∃ e,d.cell? (i*w+j)=some e)∧(∀ y e,d'.cell? y=some e→(y=i*w+j∧aH v e)∨(y≠i*w+j∧d.cell? y=some e)):=by
  have old:∀ {e0:AV} {A:Prop},(d'.recKept∧(∃ e,d.cell? (i*w+j)=some e)∧(∀ y e,d'.cell? y=some e→(y=i*w+j∧e=d.weak v)∨(y≠i*w+j∧d.cell? y=some e))) →
      d'.recKept∧(∃ e,d.cell? (i*w+j)=some e)∧(∀ y e,d'.cell? y=some e→(y=i*w+j∧aH v e)∨(y≠i*w+j∧d.cell? y=some e)) :=
    fun q=>⟨q.1,q.2.1,fun y e hy=>(q.2.2 y e hy).imp (fun r=>⟨r.1,by rw [r.2];exact jk⟩) id⟩
  have lt:∀ {n:Nat},fw (cD j i) n=true→j+i<n:=fun h=>by have:=of_decide_eq_true h;simpa using this
  unfold aq.wr at h
  split at h
  · rename_i xs ex x
    refine old (e0:=.any) (A:=True) ?_
    cases e:Nat.beq w 1 with
    | false=>rw [e] at h;cases h
    | true =>
      rw [e] at h;simp only [cond_true,Option.some.injEq,Prod.mk.injEq] at h;obtain ⟨rfl,rfl⟩:=h
      have:=Nat.eq_of_beq_eq_true e;subst this
      obtain ⟨h1,h2⟩:=lM (f:=AV.flt false) (x:=x) (lt ho.1)
      rw [Nat.mul_one,Nat.add_comm i j]
      exact ⟨trivial,h1,by simpa [aq.cell?,aq.weak] using h2⟩
  · rename_i k xs k' x
    refine old (e0:=.any) (A:=True) ?_
    cases e:(Nat.beq w 1&&bc k k') with
    | false=>rw [e] at h;cases h
    | true =>
      rw [e] at h;simp only [cond_true,Option.some.injEq,Prod.mk.injEq] at h;obtain ⟨rfl,rfl⟩:=h
      rw [Bool.and_eq_true] at e
      have:=Nat.eq_of_beq_eq_true e.1;subst this
      have hk:k=k':=of_decide_eq_true e.2
      subst hk
      obtain ⟨h1,h2⟩:=lM (f:=AV.int k) (x:=x) (lt ho.1)
      rw [Nat.mul_one,Nat.add_comm i j]
      exact ⟨trivial,h1,by simpa [aq.cell?,aq.weak] using h2⟩
  · rename_i xs kn x
    refine old (e0:=.any) (A:=True) ?_
    cases e:Nat.beq w 1 with
    | false=>rw [e] at h;cases h
    | true =>
      rw [e] at h;simp only [cond_true,Option.some.injEq,Prod.mk.injEq] at h;obtain ⟨rfl,rfl⟩:=h
      have:=Nat.eq_of_beq_eq_true e;subst this
      obtain ⟨h1,h2⟩:=lM (f:=AV.bool false) (x:=x) (lt ho.1)
      rw [Nat.mul_one,Nat.add_comm i j]
      exact ⟨trivial,h1,by simpa [aq.cell?,aq.weak] using h2⟩
  · rename_i xs x
    refine old (e0:=.any) (A:=True) ?_
    cases e:Nat.beq w 1 with
    | false=>rw [e] at h;cases h
    | true =>
      rw [e] at h;simp only [cond_true,Option.some.injEq,Prod.mk.injEq] at h;obtain ⟨rfl,rfl⟩:=h
      have:=Nat.eq_of_beq_eq_true e;subst this
      obtain ⟨h1,h2⟩:=lM (f:=AV.str) (x:=x) (lt ho.1)
      rw [Nat.mul_one,Nat.add_comm i j]
      exact ⟨trivial,h1,by simpa [aq.cell?,aq.weak] using h2⟩
  · rename_i xs
    refine old (e0:=.any) (A:=True) ?_
    cases e:(Nat.beq w 1&&Nat.blt (cD j i) xs.length) with
    | false=>rw [e] at h;cases h
    | true =>
      rw [e] at h;simp only [cond_true,Option.some.injEq,Prod.mk.injEq] at h;obtain ⟨rfl,rfl⟩:=h
      rw [Bool.and_eq_true] at e
      have:=Nat.eq_of_beq_eq_true e.1;subst this
      have e2:j+i<xs.length:=by have:=e.2;simpa [Nat.blt_eq] using this
      obtain ⟨h1,h2⟩:=lM (f:=id) (x:=v) e2
      rw [Nat.mul_one,Nat.add_comm i j]
      simp at h1 h2
      refine ⟨trivial,?_,?_⟩
      · exact ⟨_,List.getElem?_eq_getElem e2⟩
      · simpa [aq.cell?,aq.weak] using h2
  · rename_i w' n get
    refine old (e0:=.any) (A:=True) ?_
    cases e:(Nat.beq w w'&&(Nat.blt j w&&(v.kept&&v.one))) with
    | false=>rw [e] at h;cases h
    | true =>
      rw [e] at h;simp only [cond_true,Option.some.injEq,Prod.mk.injEq] at h;obtain ⟨rfl,rfl⟩:=h
      simp only [Bool.and_eq_true] at e
      obtain ⟨e1,e2,e3,e4⟩:=e
      have:=Nat.eq_of_beq_eq_true e1
      subst this
      have e2:j<w:=by simpa [Nat.blt_eq] using e2
      have hi:i<n:=of_decide_eq_true ho.1
      have q1:(i*w+j)/w=i:=by rw [Nat.add_comm,Nat.add_mul_div_right _ _ (by omega),Nat.div_eq_of_lt e2,Nat.zero_add]
      have q2:(i*w+j)%w=j:=by rw [Nat.add_comm,Nat.add_mul_mod_self_right,Nat.mod_eq_of_lt e2]
      refine ⟨fun a c=>?_,⟨get i j,by simp [aq.cell?,q1,q2,hi]⟩,fun y e' hy=>?_⟩
      · cases e5:(Nat.beq a i&&Nat.beq c j) with
        | true=>simp only [e5,cond_true];exact ⟨e3,e4⟩
        | false=>simp only [e5,cond_false];exact hrk a c
      · simp only [aq.cell?] at hy ⊢
        split at hy
        · rename_i hlt
          by_cases hy2:y=i*w+j
          · subst hy2
            simp only [q1,q2,Nat.beq_refl,Bool.and_self,cond_true,Option.some.injEq] at hy
            exact .inl ⟨rfl,hy.symm⟩
          · refine .inr ⟨hy2,?_⟩
            rw [if_pos hlt]
            cases e5:(Nat.beq (y/w) i&&Nat.beq (y%w) j) with
            | true =>
              rw [Bool.and_eq_true] at e5
              have a1:=Nat.eq_of_beq_eq_true e5.1
              have a2:=Nat.eq_of_beq_eq_true e5.2
              have:=Nat.div_add_mod y w
              rw [a1,a2,Nat.mul_comm] at this
              exact absurd this.symm hy2
            | false=>rw [e5] at hy;exact hy
        · cases hy
  · rename_i n cs
    cases e:Nat.beq w cs.length with
    | false=>rw [e] at h;cases h
    | true =>
      rw [e] at h
      have:=Nat.eq_of_beq_eq_true e
      subst this
      simp only [cond_true,Option.bind_eq_some_iff,Option.map_eq_some_iff,Prod.mk.injEq] at h
      obtain ⟨c,h1,⟨c',o'⟩,h2,rfl,rfl⟩:=h
      have e2:j<cs.length:=(List.getElem?_eq_some_iff.1 h1).1
      obtain ⟨q1,q2⟩:=Bc (i:=i) e2
      obtain ⟨r1,r2⟩:=dd.wr_spec h2 ho
      obtain ⟨e0,he0⟩:=r1
      have hl:=JL h2
      refine ⟨fun x hx=>?_,⟨e0,by simp [aq.cell?,q1,q2,h1,he0]⟩,fun y e' hy=>?_⟩
      · rcases List.mem_or_eq_of_mem_set hx with q | rfl
        · exact hrk x q
        · rw [hl];exact hrk c (List.mem_of_getElem? h1)
      simp only [aq.cell?,List.length_set,Option.bind_eq_some_iff] at hy ⊢
      obtain ⟨c2,h3,h4⟩:=hy
      rw [List.getElem?_set] at h3
      have hdm:=Nat.div_add_mod y cs.length
      by_cases hj:j=y%cs.length
      · rw [if_pos hj,if_pos e2] at h3
        cases h3
        rcases r2 _ _ h4 with ⟨a1,a2⟩ | ⟨a1,a2⟩
        · refine .inl ⟨?_,a2⟩
          rw [a1,←hj,Nat.mul_comm] at hdm;exact hdm.symm
        · refine .inr ⟨fun q=>a1 (by rw [q];exact q1),c,by rw [←hj];exact h1,a2⟩
      · rw [if_neg hj] at h3
        exact .inr ⟨fun q=>hj (by rw [q];exact q2.symm),c2,h3,h4⟩
  · cases h
def aq.wrN(d:aq)(w i:Nat) :List AV→Nat→Option (aq×List Bool)
  | [],_=>some (d,[])
  | v::l,j =>
    match d.wr w i j v with
    | some (d',o) =>
      match d'.wrN w i l (j+1) with
      | some (d'',o')=>some (d'',o++o')
      | none=>none
    | none=>none
def AV.cells(v:AV) :Option (List AV) :=
  match v with
  | .agg l=>bif dy l then some l else none
  | v=>bif v.one then some [v] else none
theorem Qh{ρ:af}{w:World}{v:AV}{u:Value}(h:VR ρ w v u)(ho:v.one=true) :(∀ c,u ≠ .agg c)∧(∀ c,u ≠ .tuple c)∧u.cells = #[u]:=by
  cases h<;>simp [AV.one] at ho<;>simp [Value.cells]
theorem ws{ρ:af}{w:World}{v:AV}{u:Value}{l:List AV}(h:VR ρ w v u)(hc:v.cells=some l) :bh ρ w l u.cells.toList∧dy l=true:=by
  unfold AV.cells at hc
  split at hc
  · rename_i l'
    cases e:dy l' with
    | false=>rw [e] at hc;cases hc
    | true=>rw [e] at hc;cases hc;cases h with | agg _ c hl=>exact ⟨by simpa [Value.cells] using hl,e⟩
  · cases e:v.one with
    | false=>rw [e] at hc;cases hc
    | true =>
      rw [e] at hc;cases hc
      obtain ⟨_,_,h3⟩:=Qh h e
      rw [h3]
      exact ⟨.cons _ _ _ _ h .nil,by simp [dy,e]⟩
theorem OL{P:Program}{w:World}{a:Addr}{u:Value}(h1:∀ c,u ≠ .agg c)(h2:∀ c,u ≠ .tuple c){x:Value}(hc:w.cell? a=some x)(hf:w.frozen? a=false) :
    (store a u).run P w=.ok () (w.setCell a u):=by
  unfold store
  cases u<;>first | exact absurd rfl (h1 _) | exact absurd rfl (h2 _) | simp [Sem.run,hc,hf]
theorem jO{P:Program}{ρ:af} :∀ {us:List Value} {l:List AV} {w:World} {h:aM} {n b k i j x0:Nat} {d d':aq} {obs:List Bool},HR ρ w h n→aB h b=some d→bh ρ w l us→dy l=true →
    d.wrN k i l (j+x0)=some (d',obs)→ap obs→∃ w',(storeCells ⟨ρ.at_ b,i*k+j,none⟩ us x0).run P w=.ok () w'∧HR ρ w' (cH h b d') n∧dx ρ.live w w'
  | [],[],w,h,n,b,k,i,j,x0,d,d',obs,hh,hg,_,_,hw,_=>by
    simp only [aq.wrN,Option.some.injEq,Prod.mk.injEq] at hw;obtain ⟨rfl,rfl⟩:=hw
    refine ⟨w,by simp [storeCells],?_,dx.refl _ _⟩
    have e:∀ c,aB (cH h b d) c=aB h c:=by
      intro c;rw [be];split
      · rename_i q;subst q;exact hg.symm
      · rfl
    exact ⟨fun c e' he=>hh.cell c e' (by rw [←e];exact he),fun a c d e' h1 h2=>hh.inj a c d e' (by rw [←e];exact h1) (by rw [←e];exact h2),hh.fresh,hh.liveLt,hh.outLt,hh.lt,hh.rom⟩
  | u::us,v::l,w,h,n,b,k,i,j,x0,d,d',obs,hh,hg,hv,h1,hw,ho=>by
    simp only [aq.wrN] at hw
    split at hw
    case h_2=>cases hw
    rename_i d1 o1 q1
    split at hw
    case h_2=>cases hw
    rename_i d2 o2 q2
    simp only [Option.some.injEq,Prod.mk.injEq] at hw;obtain ⟨rfl,rfl⟩:=hw
    rw [aE] at ho
    cases hv with | cons _ _ _ _ hv1 hv2 =>
    simp only [dy,Bool.and_eq_true] at h1
    have hrk:=hh.rk hg
    obtain ⟨r1,r2,r3⟩:=aq.wr_spec hrk q1 ho.1
    obtain ⟨s1,s2,s3⟩:=Qh hv1 h1.1
    obtain ⟨e0,he0⟩:=r2
    obtain ⟨_,_,_,c,ty,hc,hcv⟩:=hh.solid hg ⟨_,_,he0⟩
    obtain ⟨u0,hu0,_⟩:=hcv _ _ he0
    have hcell:w.cell? ⟨ρ.at_ b,i*k+(j+x0),none⟩=some u0:=by simp [World.cell?,hc,hu0]
    have hfz:w.frozen? ⟨ρ.at_ b,i*k+(j+x0),none⟩=false:=by simp [World.frozen?,hc]
    have hst:=OL (P:=P) s1 s2 hcell hfz
    obtain ⟨hh',W⟩:=hh.store hg r1 (fun y e hy=>(r3 y e hy).imp (fun q=>⟨q.1,q.2 _ _ _ hv1⟩) id) ⟨e0,he0⟩
    have hg':aB (cH h b d1) b=some d1:=by rw [be,if_pos rfl]
    obtain ⟨w2,t1,t2,t3⟩:=jO (P:=P) (x0:=x0+1) hh' hg' (hv2.mono (eI.refl _ _) W) h1.2 (by rw [←Nat.add_assoc];exact q2) ho.2
    refine ⟨w2,?_,?_,W.trans t3 (fun _ _ m=>m)⟩
    · rw [storeCells]
      have ea:Addr.add ⟨ρ.at_ b,i*k+j,none⟩ x0=⟨ρ.at_ b,i*k+(j+x0),none⟩:=by rw [eR,Nat.add_assoc]
      rw [ea]
      simp only [Sem.run_bind,hst,Result.andThen_ok]
      exact t1
    · have e:∀ c,aB (cH (cH h b d1) b d2) c=aB (cH h b d2) c:=by
        intro c;rw [be,be,be];split<;>rfl
      exact ⟨fun c e' he=>t2.cell c e' (by rw [e];exact he),fun a c d e' q3 q4=>t2.inj a c d e' (by rw [e];exact q3) (by rw [e];exact q4),t2.fresh,t2.liveLt,t2.outLt,t2.lt,t2.rom⟩
  | [],_::_,_,_,_,_,_,_,_,_,_,_,_,_,_,hv,_,_,_=>by cases hv
  | _::_,[],_,_,_,_,_,_,_,_,_,_,_,_,_,hv,_,_,_=>by cases hv
def qM(P:Program)(g:Nat→Option aq)(t:TypeId)(x v:AV) :Option (Nat×aq×List Bool) :=
  match x,v.cells,P.info? t with
  | .ptr b w i j,some l,some inf =>
    match g b with
    | some d=>bif Nat.beq l.length inf.size then (d.wrN w i l j).map fun r=>(b,r.1,r.2) else none
    | none=>none
  | _,_,_=>none
theorem Dt{P:Program}{ρ:af}{w:World}{h:aM}{n:Nat}(hh:HR ρ w h n){t:TypeId}{x v:AV}{x' v':Value}{b:Nat}{d:aq}{obs:List Bool}(hx:VR ρ w x x')(hv:VR ρ w v v') 
    (hs:qM P (aB h) t x v=some (b,d,obs)) (ho:ap obs):∃ w',(Instr.storeAt t x' v').run P w=.ok () w'∧HR ρ w' (cH h b d) n∧dx ρ.live w w':=by
  unfold qM at hs
  split at hs
  case h_2=>cases hs
  rename_i b' k i j l inf hl hi
  split at hs
  case h_2=>cases hs
  rename_i d0 hd
  cases e:Nat.beq l.length inf.size with
  | false=>rw [e] at hs;cases hs
  | true =>
    rw [e] at hs
    simp only [cond_true,Option.map_eq_some_iff,Prod.mk.injEq] at hs
    obtain ⟨⟨d',o'⟩,hw,rfl,rfl,rfl⟩:=hs
    obtain ⟨c1,c2⟩:=ws hv hl
    cases hx with | ptr _ _ _ _ hb =>
    obtain ⟨w',r1,r2,r3⟩:=jO (P:=P) (x0:=0) (j:=j) hh hd c1 c2 hw ho
    refine ⟨w',?_,r2,r3⟩
    have hs:P.cellsOf t=inf.size:=by simp [Program.cellsOf,hi]
    have hsz:v'.cells.size=inf.size:=by
      have:=c1.length;rw [Nat.eq_of_beq_eq_true e] at this;simpa using this.symm
    simp only [Instr.storeAt,Instr.sureAddr,storeVar,Sem.run_bind,Sem.run_pure,Result.andThen_ok,run_sizeOf w hi,hs,hsz,ne_eq,not_true_eq_false,if_false]
    exact r1
def JM:List AV→Option (List Nat)
  | []=>some []
  | .flt _ x::l=>(JM l).map (x :: ·)
  | _::_=>none
def JN(k:IntKind) :List AV→Option (List Int)
  | []=>some []
  | .int k' x::l=>bif bc k k' then (JN k l).map (x :: ·) else none
  | _::_=>none
def JO:List AV→Option (List Bool)
  | []=>some []
  | .bool _ x::l=>(JO l).map (x :: ·)
  | _::_=>none
def JP:List AV→Option (List ByteArray)
  | []=>some []
  | .str x::l=>(JP l).map (x :: ·)
  | _::_=>none
def Mr(P:Program)(e:TypeId)(l:List AV) :aq :=
  match P.underlying e with
  | some (.float .f64)=>match JM l with | some xs=>.fl xs | none=>.vs l
  | some (.int k)=>match JN k l with | some xs=>.ns k xs | none=>.vs l
  | some .bool=>match JO l with | some xs=>.bs xs | none=>.vs l
  | some .string=>match JP l with | some xs=>.ss xs | none=>.vs l
  | _=>.vs l
def Du(d:aq)(l:List AV) :Prop:=d.recKept∧∀ x v,d.cell? x=some v→∃ v0,l[x]? = some v0∧∀ (ρ:af) (w:World) (u:Value),VR ρ w v0 u→VR ρ w v u
theorem pt(l:List AV) :Du (.vs l) l:=⟨trivial,fun x v h=>⟨v,h,fun _ _ _ h=>h⟩⟩
theorem OM:∀ {l:List AV} {xs:List Nat},JM l=some xs→Du (.fl xs) l:=by
  intro l xs h
  refine ⟨trivial,fun x v hv=>?_⟩
  induction l generalizing xs x with
  | nil=>cases h;simp [aq.cell?] at hv
  | cons a l ih =>
    cases a<;>simp only [JM,Option.map_eq_some_iff,reduceCtorEq] at h
    obtain ⟨ys,h1,rfl⟩:=h
    cases x with
    | zero=>simp [aq.cell?] at hv;subst hv;exact ⟨_,rfl,fun ρ w u hu=>jk (d:=.fl []) _ _ _ hu⟩
    | succ x=>exact ih h1 x (by simpa [aq.cell?] using hv)
theorem ON{k:IntKind} :∀ {l:List AV} {xs:List Int},JN k l=some xs→Du (.ns k xs) l:=by
  intro l xs h
  refine ⟨trivial,fun x v hv=>?_⟩
  induction l generalizing xs x with
  | nil=>cases h;simp [aq.cell?] at hv
  | cons a l ih =>
    cases a<;>simp only [JN,Option.map_eq_some_iff,reduceCtorEq] at h
    rename_i k' y
    cases e:bc k k' with
    | false=>rw [e] at h;cases h
    | true =>
      rw [e] at h
      simp only [cond_true,Option.map_eq_some_iff] at h
      obtain ⟨ys,h1,rfl⟩:=h
      have:k=k':=of_decide_eq_true e
      subst this
      cases x with
      | zero=>simp [aq.cell?] at hv;subst hv;exact ⟨_,rfl,fun ρ w u hu=>hu⟩
      | succ x=>exact ih h1 x (by simpa [aq.cell?] using hv)
theorem OO:∀ {l:List AV} {xs:List Bool},JO l=some xs→Du (.bs xs) l:=by
  intro l xs h
  refine ⟨trivial,fun x v hv=>?_⟩
  induction l generalizing xs x with
  | nil=>cases h;simp [aq.cell?] at hv
  | cons a l ih =>
    cases a<;>simp only [JO,Option.map_eq_some_iff,reduceCtorEq] at h
    obtain ⟨ys,h1,rfl⟩:=h
    cases x with
    | zero=>simp [aq.cell?] at hv;subst hv;exact ⟨_,rfl,fun ρ w u hu=>jk (d:=.bs []) _ _ _ hu⟩
    | succ x=>exact ih h1 x (by simpa [aq.cell?] using hv)
theorem OP:∀ {l:List AV} {xs:List ByteArray},JP l=some xs→Du (.ss xs) l:=by
  intro l xs h
  refine ⟨trivial,fun x v hv=>?_⟩
  induction l generalizing xs x with
  | nil=>cases h;simp [aq.cell?] at hv
  | cons a l ih =>
    cases a<;>simp only [JP,Option.map_eq_some_iff,reduceCtorEq] at h
    obtain ⟨ys,h1,rfl⟩:=h
    cases x with
    | zero=>simp [aq.cell?] at hv;subst hv;exact ⟨_,rfl,fun ρ w u hu=>hu⟩
    | succ x=>exact ih h1 x (by simpa [aq.cell?] using hv)
theorem wt(P:Program)(e:TypeId)(l:List AV) :Du (Mr P e l) l:=by
  unfold Mr
  split
  · split
    · rename_i h;exact OM h
    · exact pt l
  · split
    · rename_i h;exact ON h
    · exact pt l
  · split
    · rename_i h;exact OO h
    · exact pt l
  · split
    · rename_i h;exact OP h
    · exact pt l
  · exact pt l
theorem JQ{ρ:af}{w:World}{h:aM}{n b:Nat}(hh:HR ρ w h n)(hb : ¬ ρ.ok b)(hn:b<n){d:aq}{l:List AV}(hd:Du d l)(c:Array Value)(t:TypeId) 
    (hc:∀ (x:Nat) (v:AV),l[x]? = some v→∃ u,c[x]? = some u∧VR ρ w v u) :
    HR (ρ.give b w.heap.size) (w.alloc (.cells c t)) (cH h b d) n∧eI ρ (ρ.give b w.heap.size) w∧dx ρ.live w (w.alloc (.cells c t)) :=
  hh.alloc hb hn d c t hd.1 fun x v hx=>by
    obtain ⟨v0,h1,h2⟩:=hd.2 x v hx
    obtain ⟨u,h3,h4⟩:=hc x v0 h1
    exact ⟨u,h3,h2 ρ w u h4⟩
def nD(P:Program)(ρ:af)(w:World)(h:aM)(n nid:Nat)(s:Sem Value)(v:AV)(h':aM) :Prop :=
  ∃ u w' ρ',s.run P w=.ok u w'∧eI ρ ρ' w∧dx ρ.live w w'∧HR ρ' w' h' n∧VR ρ' w' v u∧∀ b,ρ'.ok b→ρ.ok b∨b=nid
theorem pu{P:Program}{ρ:af}{w w1:World}{h:aM}{n nid:Nat}(hh:HR ρ w h n)(hb : ¬ ρ.ok nid)(hn:nid<n){s:Sem Value}{d:aq}{l:List AV}(hd:Du d l){c:Array Value}{t:TypeId} 
    (hw:w1=w∨∃ k,w1 = { w with drawn:=k }) {u:Value} (hr:s.run P w=.ok u (w1.alloc (.cells c t)))
    (hc:∀ (x:Nat) (v:AV),l[x]? = some v→∃ u,c[x]? = some u∧VR ρ w v u) {v:AV} (hv:∀ ρ' w',ρ'=ρ.give nid w.heap.size→w'=w1.alloc (.cells c t)→VR ρ' w' v u) :
    nD P ρ w h n nid s v (cH h nid d):=by
  have key:∀ w1:World,(w1=w∨∃ k,w1 = { w with drawn:=k })→HR ρ w1 h n∧dx ρ.live w w1∧w1.heap=w.heap∧(∀ v u,VR ρ w v u→VR ρ w1 v u):=by
    rintro w1 (rfl | ⟨k,rfl⟩)
    · exact ⟨hh,dx.refl _ _,rfl,fun _ _ h=>h⟩
    · exact ⟨hh.drawn k,dx.drawn _ _ _,rfl,fun _ _ h=>h.mono (eI.refl _ _) (dx.drawn _ _ _)⟩
  obtain ⟨k1,k2,k3,k4⟩:=key w1 hw
  obtain ⟨a1,a2,a3⟩:=JQ k1 hb hn hd c t (fun x v hx=>by obtain ⟨u,q1,q2⟩:=hc x v hx;exact ⟨u,q1,k4 _ _ q2⟩)
  rw [k3] at a1 a2
  refine ⟨u,_,ρ.give nid w.heap.size,hr,?_,k2.trans a3 (fun _ _ m=>m),a1,hv _ _ rfl rfl,fun b hb=>?_⟩
  · exact ⟨a2.at_,a2.ok,a2.live,fun b hb=>a2.new b (by rw [k3];exact hb),a2.out,a2.pin⟩
  · rcases hb with h | h
    · exact .inr h
    · exact .inl h
theorem lY(ρ:af)(w:World) :∀ l:List Value,bh ρ w (l.map cF) l
  | []=>.nil
  | v::l=>.cons _ _ _ _ (ic ρ w v) (lY ρ w l)
theorem bh.cells{ρ:af}{w:World}{l:List AV}{c:Array Value}(h:bh ρ w l c.toList) :∀ (x:Nat) (v:AV),l[x]? = some v→∃ u,c[x]? = some u∧VR ρ w v u:=by
  intro x v hx
  obtain ⟨u,h1,h2⟩:=h.get x v hx
  rw [Array.getElem?_toList] at h1
  exact ⟨u,h1,h2⟩
def Dv(P:Program)(t:TypeId)(l:List AV) :aq :=
  match P.underlying t with
  | some (.array _ e)=>Mr P e l
  | _=>.vs l
theorem uP(P:Program)(t:TypeId)(l:List AV) :Du (Dv P t l) l:=by
  unfold Dv;split
  · exact wt _ _ _
  · exact pt _
def Dw(P:Program)(nid:Nat)(t:TypeId) :Option (AV×aq) :=
  match (P.info? t).bind (·.zero) with
  | some z=>some (.ptr nid 1 0 0,Dv P t (z.cells.toList.map cF))
  | none=>none
theorem FG(ρ:af)(w:World)(nid bl:Nat) :VR (ρ.give nid bl) w (.ptr nid 1 0 0) (.pointer (some ⟨bl,0,none⟩)):=by
  have:=VR.ptr (ρ:=ρ.give nid bl) (w:=w) nid 1 0 0 (.inl rfl)
  simpa [af.give] using this
theorem Dx{P:Program}{ρ:af}{w:World}{h:aM}{n nid:Nat}(hh:HR ρ w h n)(hb : ¬ ρ.ok nid)(hn:nid<n){t:TypeId}{v:AV}{d:aq}(ha:Dw P nid t=some (v,d))(heap:Bool) :
    nD P ρ w h n nid (Instr.alloc t true (.tuple #[])) v (cH h nid d):=by
  unfold Dw at ha
  split at ha
  case h_2=>cases ha
  rename_i z hz
  simp only [Option.some.injEq,Prod.mk.injEq] at ha;obtain ⟨rfl,rfl⟩:=ha
  simp only [Option.bind_eq_some_iff] at hz
  obtain ⟨i,hi,hz⟩:=hz
  refine pu hh hb hn (uP P t _) (.inl rfl) (c:=z.cells) (t:=t) (u:=.pointer (some ⟨w.heap.size,0,none⟩)) ?_ (bh.cells (by simpa using lY ρ w z.cells.toList)) ?_
  · simp [Instr.alloc,zeroValue,typeInfo,hi,hz,newVar,newRow]
  · rintro _ _ rfl rfl;exact FG _ _ _ _
def T9(P:Program)(nid:Nat)(t:TypeId)(x:AV) :Option (AV×aq) :=
  (x.cells).map fun l=>(.ptr nid 1 0 0,Dv P t l)
theorem JR{P:Program}{ρ:af}{w:World}{h:aM}{n nid:Nat}(hh:HR ρ w h n)(hb : ¬ ρ.ok nid)(hn:nid<n){t:TypeId}{x v:AV}{x':Value}{d:aq}(hx:VR ρ w x x')(ha:T9 P nid t x=some (v,d)) :
    nD P ρ w h n nid (Instr.box t x') v (cH h nid d):=by
  simp only [T9,Option.map_eq_some_iff,Prod.mk.injEq] at ha
  obtain ⟨l,hl,rfl,rfl⟩:=ha
  obtain ⟨c1,_⟩:=ws hx hl
  refine pu hh hb hn (uP P t _) (.inl rfl) (c:=x'.cells) (t:=t) (u:=.pointer (some ⟨w.heap.size,0,none⟩)) ?_ (bh.cells c1) ?_
  · simp [Instr.box,newVar,newRow]
  · rintro _ _ rfl rfl;exact FG _ _ _ _
def aq.wid:aq→Nat
  | .rows w _ _=>w
  | .cols _ cs=>cs.length
  | _=>1
def Dy(P:Program)(n:Nat)(t:TypeId)(z:AV) :Option dd :=
  match z with
  | .flt _ x=>some (.cf (List.replicate n x))
  | .int k x=>some (.ci k (List.replicate n x))
  | .bool _ x=>some (.cb (List.replicate n x))
  | .str x=>some (.cs (List.replicate n x))
  | .nsl =>
    match P.underlying t with
    | some (.slice e) =>
      match P.underlying e with
      | some (.float .f64)=>some (.cfl (List.replicate n []))
      | some (.int k)=>some (.cns k (List.replicate n []))
      | _=>none
    | _=>none
  | _=>none
def rX(P:Program)(n:Nat) :List TypeId→List AV→Option (List dd)
  | [],[]=>some []
  | t::ts,z::zs =>
    match Dy P n t z,rX P n ts zs with
    | some c,some cs=>some (c::cs)
    | _,_=>none
  | _,_=>none
theorem Dz{P:Program}{n:Nat}{t:TypeId}{z:AV}{c:dd}(h:Dy P n t z=some c) :c.len=n∧∀ i v,c.cell? i=some v→aH z v:=by
  have rep:∀ {α:Type} {f:α→AV} {y:α},aH z (f y)→∀ (i:Nat) (v:AV),((List.replicate n y)[i]?).map f=some v→aH z v:=by
    intro α f y hw i v hv
    simp only [Option.map_eq_some_iff] at hv
    obtain ⟨a,h1,rfl⟩:=hv
    rw [List.getElem?_replicate] at h1
    split at h1<;>cases h1
    exact hw
  unfold Dy at h
  split at h
  · cases h;exact ⟨by simp [dd.len],rep (f:=AV.flt false) (jk (d:=.fl []))⟩
  · cases h;exact ⟨by simp [dd.len],rep (f:=AV.int _) (aH.refl _)⟩
  · cases h;exact ⟨by simp [dd.len],rep (f:=AV.bool false) (jk (d:=.bs []))⟩
  · cases h;exact ⟨by simp [dd.len],rep (f:=AV.str) (aH.refl _)⟩
  · split at h
    case h_2=>cases h
    split at h
    · cases h;exact ⟨by simp [dd.len],rep (f:=fun l=>.imm .free (.fl l) 1 1 0 l.length) (lL _ trivial rfl rfl)⟩
    · cases h;exact ⟨by simp [dd.len],rep (f:=fun l=>.imm .free (.ns _ l) 1 1 0 l.length) (lL _ trivial rfl rfl)⟩
    · cases h
  · cases h
theorem qd{P:Program}{n:Nat} :∀ {ts:List TypeId} {zs:List AV} {cs:List dd},rX P n ts zs=some cs→cs.length=zs.length∧(∀ c∈cs,c.len=n)∧∀ (j:Nat) c i v,cs[j]? = some c→c.cell? i=some v→∃ z,zs[j]? = some z∧aH z v
  | [],[],cs,h=>by cases h;exact ⟨rfl,(fun c hc=>by cases hc),(fun j c i v hj=>by simp at hj)⟩
  | [],_::_,cs,h=>by cases h
  | _::_,[],cs,h=>by cases h
  | t::ts,z::zs,cs,h=>by
    simp only [rX] at h
    split at h
    case h_2=>cases h
    rename_i c cs' h1 h2
    cases h
    obtain ⟨a1,a2,a3⟩:=qd h2
    obtain ⟨b1,b2⟩:=Dz h1
    refine ⟨by simp [a1],fun x hx=>?_,fun j x i v hj hx=>?_⟩
    · rcases List.mem_cons.1 hx with rfl | q
      · exact b1
      · exact a2 x q
    · cases j with
      | zero=>simp at hj;subst hj;exact ⟨z,rfl,b2 i v hx⟩
      | succ j=>exact a3 j x i v (by simpa using hj) hx
def Ms(P:Program)(e:TypeId) :List TypeId:=(P.cellTypes P.depth e).getD []
def DA(P:Program)(e:TypeId)(inf:TypeInfo)(z:Value)(n:Nat) :Option aq :=
  match P.underlying e,inf.size,z.cells.toList with
  | some (.float .f64),1,[.float .f64 x]=>some (.fl (List.replicate n x))
  | some (.int k),1,[.int k' x]=>bif bc k k' then some (.ns k (List.replicate n x)) else none
  | some .bool,1,[.bool x]=>some (.bs (List.replicate n x))
  | some .string,1,[.string x]=>some (.ss (List.replicate n x))
  | _,s,zs =>
    match rX P n (Ms P e) (zs.map cF) with
    | some cs=>bif Nat.beq s zs.length&&Nat.blt 0 s then some (.cols n cs) else none
    | none=>bif Nat.beq s zs.length&&(Nat.blt 0 s&&dy (zs.map cF)) then some (.rows s n fun _ j=>(zs.map cF).getD j .nptr) else none
def Qj(P:Program)(nid:Nat)(t:TypeId)(l c:AV) :Option (AV×aq×List Bool) :=
  match P.underlying t,l,c with
  | some (.slice e),.int _ l,.int _ c =>
    match P.info? e with
    | some inf =>
      match inf.zero with
      | some z =>
        (DA P e inf z c.toNat).map fun d =>
          (.sl nid d.wid inf.size 0 l.toNat c.toNat,d,[decide (0≤l),decide (l≤c),decide ((inf.bytes:Int)*c≤140737488355328),eQ .i64 c])
      | none=>none
    | none=>none
  | _,_,_=>none
theorem iz{z:Array Value}{n x:Nat}(h:x<n) :(madeCells z n)[x]? = some (z[x%z.size]!):=by
  unfold madeCells;simp [h]
theorem lZ:∀ {l:List AV},dy l=true→∀ (x:Nat) (v:AV),l[x]? = some v→v.one=true
  | [],_,x,v,h=>by simp at h
  | a::l,ha,0,v,h=>by simp at h;subst h;simp only [dy,Bool.and_eq_true] at ha;exact ha.1
  | a::l,ha,x+1,v,h=>by simp only [dy,Bool.and_eq_true] at ha;exact lZ ha.2 x v (by simpa using h)
theorem JS(v:Value) :(cF v).kept=true:=by
  unfold cF;split<;>rfl
theorem DB{P:Program}{e:TypeId}{inf:TypeInfo}{z:Value}{n:Nat}{d:aq}(h:DA P e inf z n=some d)(ρ:af)(w:World) :
    d.recKept∧(∀ x v,d.cell? x=some v→∃ u,(madeCells z.cells (n*inf.size))[x]? = some u∧VR ρ w v u)∧(d.wid=inf.size∨inf.size=1):=by
  have one:∀ {α:Type} {f:α→AV} {y:α} {u:Value},z.cells.toList=[u]→inf.size=1→VR ρ w (f y) u→∀ (x:Nat) (v:AV),((List.replicate n y)[x]?).map f=some v→∃ u,(madeCells z.cells (n*inf.size))[x]? = some u∧VR ρ w v u:=by
    intro α f y u hz hs hv x v h
    simp only [Option.map_eq_some_iff] at h
    obtain ⟨a,h1,rfl⟩:=h
    rw [List.getElem?_replicate] at h1
    split at h1
    · rename_i hlt
      cases h1
      have hc:z.cells = #[u]:=by rw [←hz]
      refine ⟨u,?_,hv⟩
      rw [iz (by rw [hs];omega),hc];simp [Nat.mod_one]
    · cases h1
  unfold DA at h
  split at h
  · rename_i x hu hs hz;cases h;exact ⟨trivial,one hz hs (.flt _ _ _ (.inl rfl)),.inr hs⟩
  · rename_i k k' x hu hs hz
    cases e:bc k k' with
    | false=>rw [e] at h;cases h
    | true =>
      rw [e] at h;cases h
      have:k=k':=of_decide_eq_true e
      subst this
      exact ⟨trivial,one hz hs (.int _ _),.inr hs⟩
  · rename_i x hu hs hz;cases h;exact ⟨trivial,one hz hs (.bool _ _),.inr hs⟩
  · rename_i x hu hs hz;cases h;exact ⟨trivial,one hz hs (.str _),.inr hs⟩
  · split at h
    · rename_i cs hcs
      obtain ⟨z1,z2,z3⟩:=qd hcs
      rw [List.length_map] at z1
      cases e:(Nat.beq inf.size z.cells.toList.length&&Nat.blt 0 inf.size) with
      | false=>rw [e] at h;cases h
      | true =>
      rw [e] at h;simp only [cond_true,Option.some.injEq] at h
      subst h
      rw [Bool.and_eq_true] at e
      have e1:=Nat.eq_of_beq_eq_true e.1
      have e2:0<inf.size:=by simpa [Nat.blt_eq] using e.2
      have hw:cs.length=inf.size:=by omega
      refine ⟨z2,fun x v hx=>?_,.inl hw⟩
      obtain ⟨c,h1,h2,h3⟩:=dq hx
      have hlt:=oa h3
      rw [z2 c h2,hw] at hlt
      have hx2:x<n*inf.size:=(Nat.div_lt_iff_lt_mul e2).1 hlt
      obtain ⟨zv,k1,k2⟩:=z3 _ c _ v h1 h3
      rw [hw] at k1
      have hsz:z.cells.size=inf.size:=by rw [e1];simp
      have hm':x%z.cells.size<z.cells.size:=by rw [hsz];exact Nat.mod_lt _ e2
      refine ⟨_,iz hx2,k2 _ _ _ ?_⟩
      rw [getElem!_pos z.cells (x%z.cells.size) hm']
      rw [List.getElem?_map,←hsz,List.getElem?_eq_getElem (by simpa using hm')] at k1
      simp only [Option.map_some,Option.some.injEq] at k1
      rw [←k1,Array.getElem_toList]
      exact ic _ _ _
    rename_i hnone
    cases e:(Nat.beq inf.size z.cells.toList.length&&(Nat.blt 0 inf.size&&dy (z.cells.toList.map cF))) with
    | false=>rw [e] at h;cases h
    | true =>
      rw [e] at h;simp only [cond_true,Option.some.injEq] at h
      subst h
      rw [Bool.and_eq_true] at e
      have e1:=Nat.eq_of_beq_eq_true e.1
      have e':=e.2
      rw [Bool.and_eq_true] at e'
      have e2:0<inf.size:=by have:=e'.1;simpa [Nat.blt_eq] using this
      have e3:=lZ e'.2
      have kc:∀ j,((z.cells.toList.map cF).getD j AV.nptr).kept=true∧((z.cells.toList.map cF).getD j AV.nptr).one=true:=by
        intro j
        rw [List.getD_eq_getElem?_getD]
        cases hq:(z.cells.toList.map cF)[j]? with
        | none=>exact ⟨rfl,rfl⟩
        | some v =>
          refine ⟨?_,e3 j v hq⟩
          rw [List.getElem?_map] at hq
          cases hr:z.cells.toList[j]? with
          | none=>rw [hr] at hq;cases hq
          | some u=>rw [hr] at hq;cases hq;exact JS u
      refine ⟨fun _ j=>kc j,fun x v hx=>?_,.inl rfl⟩
      simp only [aq.cell?] at hx
      split at hx
      · rename_i hlt
        cases hx
        have hx2:x<n*inf.size:=by
          have:=(Nat.div_lt_iff_lt_mul e2).1 hlt;exact this
        have hm:x%inf.size<z.cells.toList.length:=by rw [←e1];exact Nat.mod_lt _ e2
        refine ⟨_,iz hx2,?_⟩
        have hsz:z.cells.size=inf.size:=by rw [e1];simp
        have hm':x%z.cells.size<z.cells.size:=by rw [hsz];exact Nat.mod_lt _ e2
        rw [getElem!_pos z.cells (x%z.cells.size) hm',List.getD_eq_getElem?_getD,List.getElem?_map,List.getElem?_eq_getElem hm]
        simp only [hsz,Array.getElem_toList,Option.map_some,Option.getD_some]
        exact ic _ _ _
      · cases hx
theorem FH{P:Program}{ρ:af}{w:World}{h:aM}{n nid:Nat}(hh:HR ρ w h n)(hb : ¬ ρ.ok nid)(hn:nid<n){t:TypeId}{l c v:AV}{l' c':Value}{d:aq}{obs:List Bool} 
    (hl:VR ρ w l l') (hc:VR ρ w c c') (ha:Qj P nid t l c=some (v,d,obs)) (ho:ap obs):nD P ρ w h n nid (Instr.makeSlice t l' c') v (cH h nid d):=by
  unfold Qj at ha
  split at ha
  case h_2=>cases ha
  rename_i e k1 l k2 c ht
  cases hl;cases hc
  split at ha
  case h_2=>cases ha
  rename_i inf hi
  split at ha
  case h_2=>cases ha
  rename_i z hz
  simp only [Option.map_eq_some_iff,Prod.mk.injEq] at ha
  obtain ⟨d',hd,rfl,rfl,rfl⟩:=ha
  have o1:0≤l:=of_decide_eq_true ho.1
  have o2:l≤c:=of_decide_eq_true ho.2.1
  have o3:(inf.bytes:Int)*c≤140737488355328:=of_decide_eq_true ho.2.2.1
  have o4:c≤9223372036854775807:=by
    have:=ho.2.2.2.1
    simp only [eQ,Bool.and_eq_true,decide_eq_true_eq] at this
    have e:IntKind.max .i64=9223372036854775807:=by decide
    rw [e] at this;exact this.2
  obtain ⟨s1,s2,s3⟩:=DB hd ρ w
  have hrun:=run_make (P:=P) w t e inf z ht hi hz k1 k2 l c o1 o2 (by omega) o4
  obtain ⟨a1,a2,a3⟩:=hh.alloc hb hn d' (madeCells z.cells (c.toNat*inf.size)) e s1 s2
  refine ⟨_,_,_,hrun,a2,a3,a1,?_,fun b hb=>hb.elim .inr .inl⟩
  have:VR (ρ.give nid w.heap.size) (w.alloc (.cells (madeCells z.cells (c.toNat*inf.size)) e)) (.sl nid d'.wid inf.size 0 l.toNat c.toNat) (.slice (some ⟨(ρ.give nid w.heap.size).at_ nid,0*d'.wid,none⟩) l.toNat c.toNat) :=
    .sl _ _ _ _ _ _ _ (.inl rfl) (Nat.le_refl _) (by omega) (madeCells z.cells (c.toNat*inf.size)) e (by simp only [af.give,if_true];exact aR w _) (by simp [size_madeCells])
  simpa [af.give] using this
def qN(off:Nat) :List AV→Nat→List AV→List AV
  | [],_,cs=>cs
  | v::l,k,cs=>qN off l (k+1) (cs.set (off+k) v)
def wu(place:Nat→Option (Nat×Nat))(cells:List AV) :List (Nat×AV)→Option (List AV)
  | []=>some cells
  | (i,v)::rest =>
    match place i,v.cells with
    | some (off,size),some l=>bif Nat.beq l.length size&&Nat.ble (off+l.length) cells.length then wu place (qN off l 0 cells) rest else none
    | _,_=>none
theorem Bd{ρ:af}{w:World}{off:Nat} :∀ {l:List AV} {us:List Value} {k:Nat} {cs:List AV} {c:Array Value},bh ρ w l us→bh ρ w cs c.toList →
    bh ρ w (qN off l k cs) ((us.zipIdx k).foldl (fun cs (x:Value×Nat)=>cs.setIfInBounds (off+x.2) x.1) c).toList
  | _,_,k,cs,c,.nil,h=>by simpa [qN] using h
  | _,_,k,cs,c,.cons v u l us hv ht,h=>by
    simp only [qN,List.zipIdx_cons,List.foldl_cons]
    refine Bd ht ?_
    rw [Array.toList_setIfInBounds]
    exact h.set hv _
theorem qe(off:Nat) :∀ (l:List AV) (k:Nat) (cs:List AV),(qN off l k cs).length=cs.length
  | [],_,_=>rfl
  | v::l,k,cs=>by simp [qN,qe off l]
theorem rY{ρ:af}{w:World}{place:Nat→Option (Nat×Nat)} :∀ {parts:List (Nat×AV)} {ps:List (Nat×Value)} {cs l:List AV} {c:Array Value},
    (parts.map Prod.fst=ps.map Prod.fst)→bh ρ w (parts.map Prod.snd) (ps.map Prod.snd)→bh ρ w cs c.toList→wu place cs parts=some l →
    ∃ c',Instr.fill place c ps=some c'∧bh ρ w l c'.toList∧l.length=cs.length
  | [],[],cs,l,c,_,_,hc,h=>by simp only [wu,Option.some.injEq] at h;subst h;exact ⟨c,rfl,hc,rfl⟩
  | (i, v) :: parts, (i', u) :: ps, cs, l, c, h1, h2, hc, h => by
    simp only [List.map_cons,List.cons.injEq] at h1
    obtain ⟨rfl,h1⟩:=h1
    simp only [List.map_cons] at h2
    cases h2 with | cons _ _ _ _ hv ht =>
    simp only [wu] at h
    split at h
    case h_2=>cases h
    rename_i off size l' hp hl
    obtain ⟨k1,_⟩:=ws hv hl
    have kl:=k1.length
    have cl:=hc.length
    cases e:(Nat.beq l'.length size&&Nat.ble (off+l'.length) cs.length) with
    | false=>rw [e] at h;cases h
    | true =>
      rw [e] at h;simp only [cond_true] at h
      rw [Bool.and_eq_true] at e
      have e1:=Nat.eq_of_beq_eq_true e.1
      have e2:off+l'.length≤cs.length:=by simpa [Nat.ble_eq] using e.2
      have r:=Bd (off:=off) (k:=0) k1 hc
      obtain ⟨c',q1,q2,q3⟩:=rY h1 ht (c:=(u.cells.toList.zipIdx 0).foldl (fun cs (x:Value×Nat)=>cs.setIfInBounds (off+x.2) x.1) c) r h
      refine ⟨c',?_,q2,by rw [q3,qe]⟩
      simp only [Instr.fill,hp]
      have g1:u.cells.size=size:=by rw [←e1,kl];simp
      have g2 : ¬ (off+u.cells.size>c.size):=by
        have:u.cells.size=l'.length:=by rw [kl];simp
        have:c.size=cs.length:=by rw [cl];simp
        omega
      have e0:∀ c:Array Value,u.cells.zipIdx.foldl (fun cs (x:Value×Nat)=>cs.setIfInBounds (off+x.2) x.1) c=(u.cells.toList.zipIdx 0).foldl (fun cs (x:Value×Nat)=>cs.setIfInBounds (off+x.2) x.1) c:=by
        intro c
        rw [←Array.foldl_toList];simp
      rw [if_neg (by simp only [g1,ne_eq,not_true_eq_false,decide_false,Bool.false_or,decide_eq_true_eq];rw [←g1];exact g2)]
      have e3:=e0 c
      rw [e3]
      exact q1
  | [],_::_,_,_,_,h1,_,_,_=>by cases h1
  | _::_,[],_,_,_,h1,_,_,_=>by cases h1
def JT(P:Program)(t:TypeId)(parts:List (Nat×AV)) :Option AV :=
  match (P.info? t).bind (·.zero) with
  | none=>none
  | some z =>
    let zs:=z.cells.toList.map cF
    match P.underlying t with
    | some (.struct fs) =>
      bif fs.toList.all (fun f=>(P.info? f.type).isSome) then (wu (fun i=>(fs[i]?).map fun f=>(f.offset,P.cellsOf f.type)) zs parts).map .agg else none
    | some (.array _ e)=>match P.info? e with
      | some inf=>(wu (fun i=>some (i*inf.size,inf.size)) zs parts).map .agg
      | none=>none
    | _=>none
theorem nE{P:Program}{w:World} :∀ (l:List Field),(l.all fun f=>(P.info? f.type).isSome)=true →
    (l.mapM (m:=Sem) fun f=>do pure (f.offset,←sizeOf f.type)).run P w=.ok (l.map fun f=>(f.offset,P.cellsOf f.type)) w
  | [],_=>by simp
  | f::l,h=>by
    simp only [List.all_cons,Bool.and_eq_true] at h
    obtain ⟨i,hi⟩:=Option.isSome_iff_exists.1 h.1
    have ih:=nE (P:=P) (w:=w) l h.2
    simp only [List.mapM_cons,Sem.run_bind,run_sizeOf w hi,Result.andThen_ok,Sem.run_pure,ih,List.map_cons]
theorem DC{P:Program}{ρ:af}{w:World}{t:TypeId}{parts:List (Nat×AV)}{ps:Array (Nat×Value)}{v:AV}(h1:parts.map Prod.fst=ps.toList.map Prod.fst) 
    (h2:bh ρ w (parts.map Prod.snd) (ps.toList.map Prod.snd)) (h:JT P t parts=some v):dM P ρ w (Instr.build t ps) v:=by
  unfold JT at h
  split at h
  case h_1=>cases h
  rename_i z hz
  simp only [Option.bind_eq_some_iff] at hz
  obtain ⟨i,hi,hz⟩:=hz
  have hzv:(zeroValue t).run P w=.ok z w:=by simp [zeroValue,typeInfo,hi,hz]
  have hzs:bh ρ w (z.cells.toList.map cF) z.cells.toList:=lY ρ w _
  simp only at h
  split at h
  · rename_i fs hu
    cases e:(fs.toList.all fun f=>(P.info? f.type).isSome) with
    | false=>rw [e] at h;cases h
    | true =>
      rw [e] at h
      simp only [cond_true,Option.map_eq_some_iff] at h
      obtain ⟨l,hf,rfl⟩:=h
      obtain ⟨c',q1,q2,_⟩:=rY h1 h2 hzs hf
      refine .plain (u:=.agg c') ?_ (.agg _ _ q2)
      have hm:(fs.mapM (m:=Sem) fun f=>do pure (f.offset,←sizeOf f.type)).run P w=.ok (fs.map fun f=>(f.offset,P.cellsOf f.type)) w:=by
        have:=nE (P:=P) (w:=w) fs.toList e
        rw [Array.mapM_eq_mapM_toList]
        rw [map_eq_pure_bind,Sem.run_bind,this,Result.andThen_ok,Sem.run_pure]
        congr 1
        simp [←List.map_toArray]
      have hp:(fun i:Nat=>(fs.map fun (f:Field)=>(f.offset,P.cellsOf f.type))[i]?)=fun i:Nat=>(fs[i]?).map fun f=>(f.offset,P.cellsOf f.type):=by
        funext i;simp
      simp only [Instr.build,Sem.run_bind,hzv,Result.andThen_ok,run_underlying hu,hm,hp,q1]
      simp
  · rename_i n e hu
    split at h
    case h_2=>cases h
    rename_i inf he
    simp only [Option.map_eq_some_iff] at h
    obtain ⟨l,hf,rfl⟩:=h
    obtain ⟨c',q1,q2,_⟩:=rY h1 h2 hzs hf
    refine .plain (u:=.agg c') ?_ (.agg _ _ q2)
    have hs:P.cellsOf e=inf.size:=by simp [Program.cellsOf,he]
    simp only [Instr.build,Sem.run_bind,hzv,Result.andThen_ok,run_underlying hu,run_sizeOf w he,hs,q1]
    simp
  · cases h
def oi(P : Program)(nid : Nat)(t : TypeId)(len : Nat)(parts : List (Nat × AV)) : Option (AV × aq) :=
  match P.underlying t with
  | some (.slice e) =>
    match P.info? e with
    | some inf =>
      match inf.zero with
      | some z =>
        let zs:=z.cells.toList.map cF
        bif Nat.beq zs.length inf.size&&Nat.ble (len*inf.size) 16777216 then
          (wu (fun i=>some (i*inf.size,inf.size)) ((List.range (len*inf.size)).map fun x=>zs.getD (x%zs.length) .any) parts).map fun l =>
            (.sl nid 1 inf.size 0 len len,Mr P e l)
        else none
      | none=>none
    | none=>none
  | _=>none
theorem rZ{P:Program}{ρ:af}{w:World}{h:aM}{n nid:Nat}(hh:HR ρ w h n)(hb : ¬ ρ.ok nid)(hn:nid<n){t:TypeId}{len:Nat}{parts:List (Nat×AV)}{ps:Array (Nat×Value)}{v:AV}{d:aq} 
    (h1:parts.map Prod.fst=ps.toList.map Prod.fst) (h2:bh ρ w (parts.map Prod.snd) (ps.toList.map Prod.snd)) (ha:oi P nid t len parts=some (v,d)) :
    nD P ρ w h n nid (Instr.buildSlice t len ps) v (cH h nid d):=by
  unfold oi at ha
  split at ha
  case h_2=>cases ha
  rename_i e ht
  split at ha
  case h_2=>cases ha
  rename_i inf hi
  split at ha
  case h_2=>cases ha
  rename_i z hz
  simp only at ha
  cases hc:(Nat.beq (z.cells.toList.map cF).length inf.size&&Nat.ble (len*inf.size) 16777216) with
  | false=>rw [hc] at ha;cases ha
  | true =>
    rw [hc] at ha
    simp only [cond_true,Option.map_eq_some_iff,Prod.mk.injEq] at ha
    obtain ⟨l,hf,rfl,rfl⟩:=ha
    rw [Bool.and_eq_true] at hc
    have c1:z.cells.size=inf.size:=by have:=Nat.eq_of_beq_eq_true hc.1;simpa using this
    have c2:len*inf.size≤16777216:=by simpa [Nat.ble_eq] using hc.2
    have hbase:bh ρ w ((List.range (len*inf.size)).map fun x=>(z.cells.toList.map cF).getD (x%(z.cells.toList.map cF).length) .any) (madeCells z.cells (len*inf.size)).toList:=by
      refine jN (by simp [size_madeCells]) fun x v u q1 q2=>?_
      rw [List.getElem?_map] at q1
      have hx:x<len*inf.size:=by
        rcases Nat.lt_or_ge x (len*inf.size) with q | q
        · exact q
        · rw [List.getElem?_eq_none (by simpa using q)] at q1;cases q1
      rw [List.getElem?_range hx] at q1
      rw [Array.getElem?_toList,iz hx] at q2
      simp only [Option.map_some,Option.some.injEq] at q1 q2
      subst q1;subst q2
      have hpos : 0 < z.cells.size := by rw [c1]; rcases Nat.eq_zero_or_pos inf.size with q | q; · rw [q] at hx; omega
                                         · exact q
      have hm:x%z.cells.size<z.cells.size:=Nat.mod_lt _ hpos
      rw [getElem!_pos z.cells (x%z.cells.size) hm,List.getD_eq_getElem?_getD,List.getElem?_map]
      simp only [List.length_map,Array.length_toList,Array.getElem?_toList,Array.getElem?_eq_getElem hm,Option.map_some,Option.getD_some]
      exact ic _ _ _
    obtain ⟨c',q1,q2,q3⟩:=rY h1 h2 hbase hf
    have hlen:c'.size=len*inf.size:=by
      have:=q2.length;rw [q3] at this;simpa using this.symm
    have hs:P.cellsOf e=inf.size:=by simp [Program.cellsOf,hi]
    refine pu hh hb hn (wt P e l) (.inl rfl) (c:=c') (t:=e) (u:=.slice (some ⟨w.heap.size,0,none⟩) len len) ?_ (bh.cells q2) ?_
    · have hzv:(zeroValue e).run P w=.ok z w:=by simp [zeroValue,typeInfo,hi,hz]
      have nb : ¬ (16777216<len*inf.size):=by omega
      have hm:madeCells z.cells (len*inf.size)=(Array.range (len*inf.size)).map (fun x=>z.cells[x%z.cells.size]!):=rfl
      by_cases h0:len*inf.size=0
      · have hm0:madeCells z.cells 0 = #[]:=by simp [madeCells,Array.range_zero']
        rw [h0,hm0] at q1
        simp [Instr.buildSlice,run_underlying ht,run_sizeOf w hi,hs,nb,h0,Array.range_zero',q1,newRow]
      · simp only [Instr.buildSlice,Sem.run_bind,run_underlying ht,Result.andThen_ok,run_sizeOf w hi,hs]
        rw [if_neg (by simpa using nb)]
        simp only [Sem.run_bind,Sem.run_pure,Result.andThen_ok,if_neg h0,hzv,←hm,q1]
        simp [newRow]
    · rintro _ _ rfl rfl
      have:VR (ρ.give nid w.heap.size) (w.alloc (.cells c' e)) (.sl nid 1 inf.size 0 len len) (.slice (some ⟨(ρ.give nid w.heap.size).at_ nid,0*1,none⟩) len len) :=
        .sl _ _ _ _ _ _ _ (.inl rfl) (Nat.le_refl _) (Nat.le_refl _) c' e (by simp only [af.give,if_true];exact aR w _) (by omega)
      simpa [af.give] using this
def aq.count:aq→Nat
  | .fl xs=>xs.length
  | .ns _ xs=>xs.length
  | .bs xs=>xs.length
  | .ss xs=>xs.length
  | .vs xs=>xs.length
  | .rows w n _=>n*w
  | .cols n cs=>n*cs.length
def gE{α:Type}(i:Nat)(l:List α) :List α :=
  match i with
  | 0=>l
  | i=>l.drop i
theorem sa{α:Type}(i:Nat)(l:List α) :gE i l=l.drop i:=by
  unfold gE;split<;>simp
def jl(a b:Nat) :Bool:=decide (a≤b)
def dd.part(i len:Nat) :dd→dd
  | .cf xs=>.cf ((gE i xs).take len)
  | .ci k xs=>.ci k ((gE i xs).take len)
  | .cb xs=>.cb ((gE i xs).take len)
  | .cs xs=>.cs ((gE i xs).take len)
  | .cfl xs=>.cfl ((gE i xs).take len)
  | .cns k xs=>.cns k ((gE i xs).take len)
def iO(i len:Nat) :List dd→List dd
  | []=>[]
  | c::cs=>c.part i len::iO i len cs
def aq.sub(d:aq)(w es i len:Nat) :Option (aq×List Bool) :=
  match d with
  | .fl xs=>bif Nat.beq w 1&&Nat.beq es 1 then some (.fl ((gE i xs).take len),[jl (cD i len) xs.length]) else none
  | .ns k xs=>bif Nat.beq w 1&&Nat.beq es 1 then some (.ns k ((gE i xs).take len),[jl (cD i len) xs.length]) else none
  | .bs xs=>bif Nat.beq w 1&&Nat.beq es 1 then some (.bs ((gE i xs).take len),[jl (cD i len) xs.length]) else none
  | .ss xs=>bif Nat.beq w 1&&Nat.beq es 1 then some (.ss ((gE i xs).take len),[jl (cD i len) xs.length]) else none
  | .vs xs=>bif Nat.beq w 1&&dy xs then some (.vs ((gE i xs).take (len*es)),[jl (cD i (len*es)) xs.length]) else none
  | .rows w' n get=>bif Nat.beq w w'&&(Nat.beq w es&&Nat.blt 0 w) then some (.rows w len (fun a j=>get (cD i a) j),[jl (cD i len) n]) else none
  | .cols n cs=>bif Nat.beq w cs.length&&(Nat.beq w es&&Nat.blt 0 w) then some (.cols len (iO i len cs),[jl (cD i len) n]) else none
theorem ma(i len:Nat) :∀ (cs:List dd) (j:Nat),(iO i len cs)[j]? = (cs[j]?).map (dd.part i len)
  | [],j=>by simp [iO]
  | c::cs,0=>by simp [iO]
  | c::cs,j+1=>by simp [iO,ma i len cs j]
theorem iX(i len:Nat) :∀ (cs:List dd),(iO i len cs).length=cs.length
  | []=>rfl
  | c::cs=>by simp [iO,iX i len cs]
theorem wv{α:Type}{f:α→AV}{xs:List α}{i m x:Nat}{v:AV}(h:(((gE i xs).take m)[x]?).map f=some v) :x<m∧(xs[i+x]?).map f=some v:=by
  rw [sa] at h
  simp only [Option.map_eq_some_iff] at h
  obtain ⟨a,h1,h2⟩:=h
  rw [List.getElem?_take] at h1
  split at h1
  · rename_i hx
    rw [List.getElem?_drop] at h1
    exact ⟨hx,by rw [h1];simp [h2]⟩
  · cases h1
theorem DD{i len:Nat}{c:dd}(h:i+len≤c.len) :(c.part i len).len=len:=by
  cases c<;>simp only [dd.part,dd.len,sa,List.length_take,List.length_drop] at h ⊢ <;> omega
theorem zz{i len x:Nat}{c:dd}{v:AV}(h:(c.part i len).cell? x=some v) :x<len∧c.cell? (i+x)=some v:=by
  cases c<;>simp only [dd.part,dd.cell?] at h ⊢ <;> exact wv h
structure Mt (d':aq) (n:Nat) (cell:Nat→Option AV):Prop where
  rk:d'.recKept
  cells:∀ x v,d'.cell? x=some v→x<n∧cell x=some v
  all:∀ x,x<n→∃ v,cell x=some v∧v.one=true
  count:d'.count=n
theorem sc{d d':aq}{w es i len:Nat}{obs:List Bool}(hrk:d.recKept)(h:d.sub w es i len=some (d',obs))(ho:ap obs) :Mt d' (len*es) (fun x=>d.cell? (i*w+x)):=by
  have le:∀ {a b:Nat},jl (cD i a) b=true→i+a≤b:=fun h=>by have:=of_decide_eq_true h;simpa using this
  have two:∀ {a b:Nat},(Nat.beq w a&&Nat.beq es b)=true→w=a∧es=b:=fun h=>by rw [Bool.and_eq_true] at h;exact ⟨Nat.eq_of_beq_eq_true h.1,Nat.eq_of_beq_eq_true h.2⟩
  have typed:∀ {α:Type} {f:α→AV} {xs:List α} {c:Nat→Option AV} {bl:aq},w=1→es=1→(∀ x,bl.cell? x=(((gE i xs).take len)[x]?).map f)→bl.recKept→bl.count=((gE i xs).take len).length →
      (∀ x,c x=(xs[x]?).map f)→(∀ a,(f a).one=true)→i+len≤xs.length→Mt bl (len*es) (fun x=>c (i*w+x)):=by
    intro α f xs c bl hw he hb hr hcnt hc h1 hle
    subst hw;subst he
    refine ⟨hr,fun x v hv=>?_,fun x hx=>?_,?_⟩
    · rw [hb] at hv
      obtain ⟨q1,q2⟩:=wv hv
      exact ⟨by omega,by rw [Nat.mul_one,hc];exact q2⟩
    · refine ⟨f (xs[i+x]'(by omega)),?_,h1 _⟩
      rw [Nat.mul_one,hc,List.getElem?_eq_getElem (by omega)];rfl
    · rw [hcnt,sa,List.length_take,List.length_drop];omega
  cases d with
  | fl xs =>
    simp only [aq.sub] at h
    cases e:(Nat.beq w 1&&Nat.beq es 1) with
    | false=>rw [e] at h;cases h
    | true=>rw [e] at h;simp only [cond_true,Option.some.injEq,Prod.mk.injEq] at h;obtain ⟨rfl,rfl⟩:=h;exact typed (f:=AV.flt false) (two e).1 (two e).2 (fun _=>rfl) trivial rfl (fun _=>rfl) (fun _=>rfl) (le ho.1)
  | ns k xs =>
    simp only [aq.sub] at h
    cases e:(Nat.beq w 1&&Nat.beq es 1) with
    | false=>rw [e] at h;cases h
    | true=>rw [e] at h;simp only [cond_true,Option.some.injEq,Prod.mk.injEq] at h;obtain ⟨rfl,rfl⟩:=h;exact typed (f:=AV.int k) (two e).1 (two e).2 (fun _=>rfl) trivial rfl (fun _=>rfl) (fun _=>rfl) (le ho.1)
  | bs xs =>
    simp only [aq.sub] at h
    cases e:(Nat.beq w 1&&Nat.beq es 1) with
    | false=>rw [e] at h;cases h
    | true=>rw [e] at h;simp only [cond_true,Option.some.injEq,Prod.mk.injEq] at h;obtain ⟨rfl,rfl⟩:=h;exact typed (f:=AV.bool false) (two e).1 (two e).2 (fun _=>rfl) trivial rfl (fun _=>rfl) (fun _=>rfl) (le ho.1)
  | ss xs =>
    simp only [aq.sub] at h
    cases e:(Nat.beq w 1&&Nat.beq es 1) with
    | false=>rw [e] at h;cases h
    | true=>rw [e] at h;simp only [cond_true,Option.some.injEq,Prod.mk.injEq] at h;obtain ⟨rfl,rfl⟩:=h;exact typed (f:=AV.str) (two e).1 (two e).2 (fun _=>rfl) trivial rfl (fun _=>rfl) (fun _=>rfl) (le ho.1)
  | vs xs =>
    simp only [aq.sub] at h
    cases e:(Nat.beq w 1&&dy xs) with
    | false=>rw [e] at h;cases h
    | true =>
      rw [e] at h;simp only [cond_true,Option.some.injEq,Prod.mk.injEq] at h;obtain ⟨rfl,rfl⟩:=h
      rw [Bool.and_eq_true] at e
      have e1:=Nat.eq_of_beq_eq_true e.1
      subst e1
      have hle:=le ho.1
      refine ⟨trivial,fun x v hv=>?_,fun x hx=>?_,?_⟩
      · have:(((gE i xs).take (len*es))[x]?).map id=some v:=by simpa [aq.cell?] using hv
        obtain ⟨q1,q2⟩:=wv this
        exact ⟨q1,by rw [Nat.mul_one];simpa [aq.cell?] using q2⟩
      · refine ⟨xs[i+x]'(by omega),?_,lZ e.2 (i+x) _ (List.getElem?_eq_getElem (by omega))⟩
        rw [Nat.mul_one];simp only [aq.cell?];exact List.getElem?_eq_getElem (by omega)
      · simp only [aq.count,sa,List.length_take,List.length_drop];omega
  | rows w' n get =>
    simp only [aq.sub] at h
    cases e:(Nat.beq w w'&&(Nat.beq w es&&Nat.blt 0 w)) with
    | false=>rw [e] at h;cases h
    | true =>
      rw [e] at h;simp only [cond_true,Option.some.injEq,Prod.mk.injEq] at h;obtain ⟨rfl,rfl⟩:=h
      simp only [Bool.and_eq_true] at e
      obtain ⟨e1,e2,e3⟩:=e
      have e1:=Nat.eq_of_beq_eq_true e1;have e2:=Nat.eq_of_beq_eq_true e2
      subst e1;subst e2
      have hw:0<w:=by simpa [Nat.blt_eq] using e3
      have hle:=le ho.1
      have key:∀ x,(i*w+x)/w=i+x/w∧(i*w+x)%w=x%w:=by
        intro x
        exact ⟨by rw [Nat.add_comm,Nat.add_mul_div_right _ _ hw,Nat.add_comm],by rw [Nat.add_comm,Nat.add_mul_mod_self_right]⟩
      refine ⟨fun a j=>hrk _ _,fun x v hv=>?_,fun x hx=>?_,rfl⟩
      · simp only [aq.cell?,fj] at hv ⊢
        split at hv
        · rename_i hlt
          refine ⟨(Nat.div_lt_iff_lt_mul hw).1 hlt,?_⟩
          rw [(key x).1,(key x).2,if_pos (by omega)];exact hv
        · cases hv
      · have hlt:=(Nat.div_lt_iff_lt_mul hw).2 hx
        refine ⟨get (i+x/w) (x%w),?_,(hrk _ _).2⟩
        simp only [aq.cell?]
        rw [(key x).1,(key x).2,if_pos (by omega)]
  | cols n cs =>
    simp only [aq.sub] at h
    cases e:(Nat.beq w cs.length&&(Nat.beq w es&&Nat.blt 0 w)) with
    | false=>rw [e] at h;cases h
    | true =>
      rw [e] at h;simp only [cond_true,Option.some.injEq,Prod.mk.injEq] at h;obtain ⟨rfl,rfl⟩:=h
      simp only [Bool.and_eq_true] at e
      obtain ⟨e1,e2,e3⟩:=e
      have e1:=Nat.eq_of_beq_eq_true e1;have e2:=Nat.eq_of_beq_eq_true e2
      subst e1;subst e2
      have hw:0<cs.length:=by simpa [Nat.blt_eq] using e3
      have hle:=le ho.1
      have key:∀ x,(i*cs.length+x)/cs.length=i+x/cs.length∧(i*cs.length+x)%cs.length=x%cs.length:=by
        intro x
        exact ⟨by rw [Nat.add_comm,Nat.add_mul_div_right _ _ hw,Nat.add_comm],by rw [Nat.add_comm,Nat.add_mul_mod_self_right]⟩
      refine ⟨fun c hc=>?_,fun x v hv=>?_,fun x hx=>?_,by simp [aq.count,iX]⟩
      · obtain ⟨j,hj⟩:=List.getElem?_of_mem hc
        rw [ma,Option.map_eq_some_iff] at hj
        obtain ⟨c',h1,rfl⟩:=hj
        exact DD (by rw [hrk c' (List.mem_of_getElem? h1)];exact hle)
      · obtain ⟨c,h1,_,h3⟩:=dq hv
        rw [iX] at h1 h3
        rw [ma,Option.map_eq_some_iff] at h1
        obtain ⟨c',h1,rfl⟩:=h1
        obtain ⟨q1,q2⟩:=zz h3
        refine ⟨(Nat.div_lt_iff_lt_mul hw).1 q1,?_⟩
        simp only [aq.cell?,(key x).1,(key x).2,h1,Option.bind_some];exact q2
      · have hlt:=(Nat.div_lt_iff_lt_mul hw).2 hx
        have hm:x%cs.length<cs.length:=Nat.mod_lt _ hw
        obtain ⟨v,hv⟩:=Fu (c:=cs[x%cs.length]) (i:=i+x/cs.length) (by rw [hrk _ (List.getElem_mem hm)];omega)
        refine ⟨v,?_,(kP hv).2.2⟩
        simp only [aq.cell?,(key x).1,(key x).2,List.getElem?_eq_getElem hm,Option.bind_some];exact hv
def dd.app:dd→dd→Option dd
  | .cf a,.cf b=>some (.cf (a++b))
  | .ci k a,.ci k' b=>bif bc k k' then some (.ci k (a++b)) else none
  | .cb a,.cb b=>some (.cb (a++b))
  | .cs a,.cs b=>some (.cs (a++b))
  | .cfl a,.cfl b=>some (.cfl (a++b))
  | .cns k a,.cns k' b=>bif bc k k' then some (.cns k (a++b)) else none
  | _,_=>none
def vW:List dd→List dd→Option (List dd)
  | [],[]=>some []
  | a::l,b::m =>
    match a.app b,vW l m with
    | some c,some cs=>some (c::cs)
    | _,_=>none
  | _,_=>none
def JU(old new:aq) :Option aq :=
  match old,new with
  | .fl a,.fl b=>some (.fl (a++b))
  | .ns k a,.ns k' b=>bif bc k k' then some (.ns k (a++b)) else none
  | .bs a,.bs b=>some (.bs (a++b))
  | .ss a,.ss b=>some (.ss (a++b))
  | .vs a,.vs b=>some (.vs (a++b))
  | .rows w n g,.rows w' n' g'=>bif Nat.beq w w'&&Nat.blt 0 w then some (.rows w (n+n') fun i j=>bif Nat.blt i n then g i j else g' (i-n) j) else none
  | .rows w n g,.vs l=>bif bK l&&(dy l&&(Nat.blt 0 w&&Nat.beq (l.length/w*w) l.length)) then some (.rows w (n+l.length/w) fun i j=>bif Nat.blt i n then g i j else l.getD ((i-n)*w+j) .nptr) else none
  | .cols n cs,.cols n' cs'=>bif Nat.blt 0 cs.length then (vW cs cs').map (.cols (n+n')) else none
  | _,_=>none
def FI:List AV→Option (List (List Nat)×List Bool)
  | []=>some ([],[])
  | .nsl::l=>(FI l).map fun r=>([]::r.1,r.2)
  | .imm lv (.fl ys) 1 1 o n::l=>bif lv.isFree then (FI l).map fun r=>(((ys.drop o).take n)::r.1,decide (o+n≤ys.length)::r.2) else none
  | _::_=>none
def FJ(k:IntKind) :List AV→Option (List (List Int)×List Bool)
  | []=>some ([],[])
  | .nsl::l=>(FJ k l).map fun r=>([]::r.1,r.2)
  | .imm lv (.ns k' ys) 1 1 o n::l=>bif bc k k'&&lv.isFree then (FJ k l).map fun r=>(((ys.drop o).take n)::r.1,decide (o+n≤ys.length)::r.2) else none
  | _::_=>none
def Qk(P:Program)(t:TypeId)(l:List AV) :Option (dd×List Bool) :=
  match P.underlying t with
  | some (.float .f64)=>(JM l).map fun xs=>(.cf xs,[])
  | some (.int k)=>(JN k l).map fun xs=>(.ci k xs,[])
  | some .bool=>(JO l).map fun xs=>(.cb xs,[])
  | some .string=>(JP l).map fun xs=>(.cs xs,[])
  | some (.slice e) =>
    match P.underlying e with
    | some (.float .f64)=>(FI l).map fun r=>(.cfl r.1,r.2)
    | some (.int k)=>(FJ k l).map fun r=>(.cns k r.1,r.2)
    | _=>none
  | _=>none
def qO(l:List AV)(es j:Nat) :Nat→Nat→List AV
  | 0,_=>[]
  | m+1,i=>l.getD (i*es+j) .nptr::qO l es j m (i+1)
def DE(P:Program)(l:List AV)(es m:Nat) :List TypeId→Nat→Option (List dd×List Bool)
  | [],_=>some ([],[])
  | t::ts,j =>
    match Qk P t (qO l es j m 0),DE P l es m ts (j+1) with
    | some (c,o),some (cs,o')=>some (c::cs,o++o')
    | _,_=>none
def aq.norm(P:Program)(e:TypeId)(d:aq)(es:Nat) :aq×List Bool :=
  match d with
  | .vs l =>
    match DE P l es (l.length/es) (Ms P e) 0 with
    | some (cs,o)=>bif Nat.beq cs.length es&&(Nat.blt 0 es&&Nat.beq (l.length/es*es) l.length) then (.cols (l.length/es) cs,o) else (.vs l,[])
    | none=>(.vs l,[])
  | d=>(d,[])
theorem gp:∀ {l:List AV},bK l=true→∀ (x:Nat) (v:AV),l[x]? = some v→v.kept=true
  | [],_,x,v,h=>by simp at h
  | a::l,ha,0,v,h=>by simp at h;subst h;simp only [bK,Bool.and_eq_true] at ha;exact ha.1
  | a::l,ha,x+1,v,h=>by simp only [bK,Bool.and_eq_true] at ha;exact gp ha.2 x v (by simpa using h)
theorem OQ{l:List AV}(h1:bK l=true)(h2:dy l=true)(x:Nat) :(l.getD x .nptr).kept=true∧(l.getD x .nptr).one=true:=by
  rw [List.getD_eq_getElem?_getD]
  cases h:l[x]? with
  | none=>exact ⟨rfl,rfl⟩
  | some v=>exact ⟨gp h1 x v h,lZ h2 x v h⟩
theorem FK:∀ {l:List AV} {xs:List Nat},JM l=some xs→xs.length=l.length∧∀ (i:Nat) v,(xs[i]?).map (AV.flt false)=some v→∃ v0,l[i]? = some v0∧aH v0 v
  | [],xs,h=>by cases h;exact ⟨rfl,fun i v hv=>by simp at hv⟩
  | .flt ex x::l,xs,h=>by
    simp only [JM,Option.map_eq_some_iff] at h
    obtain ⟨ys,h1,rfl⟩:=h
    obtain ⟨a1,a2⟩:=FK h1
    refine ⟨by simp [a1],fun i v hv=>?_⟩
    cases i with
    | zero=>simp at hv;subst hv;exact ⟨_,rfl,jk (d:=.fl [])⟩
    | succ i=>exact a2 i v (by simpa using hv)
  | .int .. :: _,_,h | .bool .. :: _,_,h | .str _::_,_,h | .nptr::_,_,h | .ptr .. :: _,_,h | .iptr .. :: _,_,h | .nsl::_,_,h | .esl::_,_,h | .zsl _::_,_,h | .nan::_,_,h | .sl .. :: _,_,h | .imm .. :: _,_,h | .fn .. :: _,_,h | .nfn::_,_,h
  | .agg _::_,_,h | .tup _::_,_,h | .iface .. :: _,_,h | .niface::_,_,h | .yld _::_,_,h | .any::_,_,h=>by cases h
theorem FL{k:IntKind} :∀ {l:List AV} {xs:List Int},JN k l=some xs→xs.length=l.length∧∀ (i:Nat) v,(xs[i]?).map (AV.int k)=some v→∃ v0,l[i]? = some v0∧aH v0 v
  | [],xs,h=>by cases h;exact ⟨rfl,fun i v hv=>by simp at hv⟩
  | .int k' x::l,xs,h=>by
    simp only [JN] at h
    cases e:bc k k' with
    | false=>rw [e] at h;cases h
    | true =>
    rw [e] at h
    have hk:k=k':=of_decide_eq_true e
    subst hk
    simp only [cond_true,Option.map_eq_some_iff] at h
    obtain ⟨ys,h1,rfl⟩:=h
    obtain ⟨a1,a2⟩:=FL h1
    refine ⟨by simp [a1],fun i v hv=>?_⟩
    cases i with
    | zero=>simp at hv;subst hv;exact ⟨_,rfl,aH.refl _⟩
    | succ i=>exact a2 i v (by simpa using hv)
  | .flt .. :: _,_,h | .bool .. :: _,_,h | .str _::_,_,h | .nptr::_,_,h | .ptr .. :: _,_,h | .iptr .. :: _,_,h | .nsl::_,_,h | .esl::_,_,h | .zsl _::_,_,h | .nan::_,_,h | .sl .. :: _,_,h | .imm .. :: _,_,h | .fn .. :: _,_,h | .nfn::_,_,h
  | .agg _::_,_,h | .tup _::_,_,h | .iface .. :: _,_,h | .niface::_,_,h | .yld _::_,_,h | .any::_,_,h=>by cases h
theorem FM:∀ {l:List AV} {xs:List Bool},JO l=some xs→xs.length=l.length∧∀ (i:Nat) v,(xs[i]?).map (AV.bool false)=some v→∃ v0,l[i]? = some v0∧aH v0 v
  | [],xs,h=>by cases h;exact ⟨rfl,fun i v hv=>by simp at hv⟩
  | .bool kn x::l,xs,h=>by
    simp only [JO,Option.map_eq_some_iff] at h
    obtain ⟨ys,h1,rfl⟩:=h
    obtain ⟨a1,a2⟩:=FM h1
    refine ⟨by simp [a1],fun i v hv=>?_⟩
    cases i with
    | zero=>simp at hv;subst hv;exact ⟨_,rfl,jk (d:=.bs [])⟩
    | succ i=>exact a2 i v (by simpa using hv)
  | .flt .. :: _,_,h | .int .. :: _,_,h | .str _::_,_,h | .nptr::_,_,h | .ptr .. :: _,_,h | .iptr .. :: _,_,h | .nsl::_,_,h | .esl::_,_,h | .zsl _::_,_,h | .nan::_,_,h | .sl .. :: _,_,h | .imm .. :: _,_,h | .fn .. :: _,_,h | .nfn::_,_,h
  | .agg _::_,_,h | .tup _::_,_,h | .iface .. :: _,_,h | .niface::_,_,h | .yld _::_,_,h | .any::_,_,h=>by cases h
theorem FO:∀ {l:List AV} {xs:List ByteArray},JP l=some xs→xs.length=l.length∧∀ (i:Nat) v,(xs[i]?).map AV.str=some v→∃ v0,l[i]? = some v0∧aH v0 v
  | [],xs,h=>by cases h;exact ⟨rfl,fun i v hv=>by simp at hv⟩
  | .str x::l,xs,h=>by
    simp only [JP,Option.map_eq_some_iff] at h
    obtain ⟨ys,h1,rfl⟩:=h
    obtain ⟨a1,a2⟩:=FO h1
    refine ⟨by simp [a1],fun i v hv=>?_⟩
    cases i with
    | zero=>simp at hv;subst hv;exact ⟨_,rfl,aH.refl _⟩
    | succ i=>exact a2 i v (by simpa using hv)
  | .flt .. :: _,_,h | .int .. :: _,_,h | .bool .. :: _,_,h | .nptr::_,_,h | .ptr .. :: _,_,h | .iptr .. :: _,_,h | .nsl::_,_,h | .esl::_,_,h | .zsl _::_,_,h | .nan::_,_,h | .sl .. :: _,_,h | .imm .. :: _,_,h | .fn .. :: _,_,h | .nfn::_,_,h
  | .agg _::_,_,h | .tup _::_,_,h | .iface .. :: _,_,h | .niface::_,_,h | .yld _::_,_,h | .any::_,_,h=>by cases h
theorem tO:∀ {l:List AV} {r:List (List Nat)×List Bool},FI l=some r→ap r.2→r.1.length=l.length∧∀ (i:Nat) v,(r.1[i]?).map (fun l=>AV.imm .free (.fl l) 1 1 0 l.length)=some v→∃ v0,l[i]? = some v0∧aH v0 v
  | [],r,h,_=>by cases h;exact ⟨rfl,fun i v hv=>by simp at hv⟩
  | a::l,r,h,ho=>by
    unfold FI at h
    split at h
    · rename_i q;cases q
    · rename_i l' q
      cases q
      simp only [Option.map_eq_some_iff] at h
      obtain ⟨r',h1,rfl⟩:=h
      obtain ⟨a1,a2⟩:=tO h1 ho
      refine ⟨by simp [a1],fun i v hv=>?_⟩
      cases i with
      | zero=>simp at hv;subst hv;exact ⟨_,rfl,lL _ trivial rfl rfl⟩
      | succ i=>exact a2 i v (by simpa using hv)
    · rename_i lv ys o n l' q
      cases q
      cases e:lv.isFree with
      | false=>rw [e] at h;cases h
      | true =>
      rw [e] at h
      simp only [cond_true,Option.map_eq_some_iff] at h
      obtain ⟨r',h1,rfl⟩:=h
      obtain ⟨a1,a2⟩:=tO h1 ho.2
      refine ⟨by simp [a1],fun i v hv=>?_⟩
      cases i with
      | zero=>simp only [List.getElem?_cons_zero,Option.map_some,Option.some.injEq] at hv;subst hv;exact ⟨_,rfl,rV e (of_decide_eq_true ho.1)⟩
      | succ i=>exact a2 i v (by simpa using hv)
    · cases h
theorem tP{k:IntKind} :∀ {l:List AV} {r:List (List Int)×List Bool},FJ k l=some r→ap r.2→r.1.length=l.length∧∀ (i:Nat) v,(r.1[i]?).map (fun l=>AV.imm .free (.ns k l) 1 1 0 l.length)=some v→∃ v0,l[i]? = some v0∧aH v0 v
  | [],r,h,_=>by cases h;exact ⟨rfl,fun i v hv=>by simp at hv⟩
  | a::l,r,h,ho=>by
    unfold FJ at h
    split at h
    · rename_i q;cases q
    · rename_i l' q
      cases q
      simp only [Option.map_eq_some_iff] at h
      obtain ⟨r',h1,rfl⟩:=h
      obtain ⟨a1,a2⟩:=tP h1 ho
      refine ⟨by simp [a1],fun i v hv=>?_⟩
      cases i with
      | zero=>simp at hv;subst hv;exact ⟨_,rfl,lL _ trivial rfl rfl⟩
      | succ i=>exact a2 i v (by simpa using hv)
    · rename_i lv k' ys o n l' q
      cases q
      cases e:(bc k k'&&lv.isFree) with
      | false=>rw [e] at h;cases h
      | true =>
      rw [e] at h
      rw [Bool.and_eq_true] at e
      have hk:k=k':=of_decide_eq_true e.1
      subst hk
      simp only [cond_true,Option.map_eq_some_iff] at h
      obtain ⟨r',h1,rfl⟩:=h
      obtain ⟨a1,a2⟩:=tP h1 ho.2
      refine ⟨by simp [a1],fun i v hv=>?_⟩
      cases i with
      | zero=>simp only [List.getElem?_cons_zero,Option.map_some,Option.some.injEq] at hv;subst hv;exact ⟨_,rfl,rW e.2 (of_decide_eq_true ho.1)⟩
      | succ i=>exact a2 i v (by simpa using hv)
    · cases h
theorem JV{P:Program}{t:TypeId}{l:List AV}{c:dd}{o:List Bool}(h:Qk P t l=some (c,o))(ho:ap o) :c.len=l.length∧∀ i v,c.cell? i=some v→∃ v0,l[i]? = some v0∧aH v0 v:=by
  unfold Qk at h
  split at h
  · simp only [Option.map_eq_some_iff,Prod.mk.injEq] at h;obtain ⟨xs,h1,rfl,rfl⟩:=h;exact FK h1
  · simp only [Option.map_eq_some_iff,Prod.mk.injEq] at h;obtain ⟨xs,h1,rfl,rfl⟩:=h;exact FL h1
  · simp only [Option.map_eq_some_iff,Prod.mk.injEq] at h;obtain ⟨xs,h1,rfl,rfl⟩:=h;exact FM h1
  · simp only [Option.map_eq_some_iff,Prod.mk.injEq] at h;obtain ⟨xs,h1,rfl,rfl⟩:=h;exact FO h1
  · split at h
    · simp only [Option.map_eq_some_iff,Prod.mk.injEq] at h;obtain ⟨xs,h1,rfl,rfl⟩:=h;exact tO h1 ho
    · simp only [Option.map_eq_some_iff,Prod.mk.injEq] at h;obtain ⟨xs,h1,rfl,rfl⟩:=h;exact tP h1 ho
    · cases h
  · cases h
theorem uQ(l:List AV)(es j:Nat) :∀ (m i:Nat),(qO l es j m i).length=m∧∀ x,x<m→(qO l es j m i)[x]? = some (l.getD ((i+x)*es+j) .nptr)
  | 0,i=>⟨rfl,fun x hx=>by omega⟩
  | m+1,i=>by
    obtain ⟨a1,a2⟩:=uQ l es j m (i+1)
    refine ⟨by simp [qO,a1],fun x hx=>?_⟩
    cases x with
    | zero=>simp [qO]
    | succ x =>
      simp only [qO,List.getElem?_cons_succ]
      rw [a2 x (by omega)]
      have:i+1+x=i+(x+1):=by omega
      rw [this]
theorem uR{P:Program}{l:List AV}{es m:Nat} :∀ {ts:List TypeId} {j:Nat} {cs:List dd} {o:List Bool},DE P l es m ts j=some (cs,o)→ap o →
    (∀ c∈cs,c.len=m)∧∀ (q:Nat) c i v,cs[q]? = some c→c.cell? i=some v→i<m∧aH (l.getD (i*es+(j+q)) .nptr) v
  | [],j,cs,o,h,_=>by cases h;exact ⟨(fun c hc=>by cases hc),(fun q c i v hq=>by simp at hq)⟩
  | t::ts,j,cs,o,h,ho=>by
    simp only [DE] at h
    split at h
    case h_2=>cases h
    rename_i c o1 cs' o2 h1 h2
    simp only [Option.some.injEq,Prod.mk.injEq] at h;obtain ⟨rfl,rfl⟩:=h
    rw [aE] at ho
    obtain ⟨a1,a2⟩:=uR h2 ho.2
    obtain ⟨b1,b2⟩:=JV h1 ho.1
    obtain ⟨s1,s2⟩:=uQ l es j m 0
    refine ⟨fun x hx=>?_,fun q x i v hq hx=>?_⟩
    · rcases List.mem_cons.1 hx with rfl | r
      · rw [b1,s1]
      · exact a1 x r
    · cases q with
      | zero =>
        simp at hq;subst hq
        have hlt:i<m:=by have:=oa hx;rw [b1,s1] at this;exact this
        obtain ⟨v0,k1,k2⟩:=b2 i v hx
        rw [s2 i hlt,Option.some.injEq,Nat.zero_add] at k1
        rw [Nat.add_zero,k1];exact ⟨hlt,k2⟩
      | succ q =>
        have:=a2 q x i v (by simpa using hq) hx
        have e:j+1+q=j+(q+1):=by omega
        rw [e] at this;exact this
theorem tQ(P:Program)(e:TypeId)(d:aq)(es:Nat)(hrk:d.recKept)(ho:ap (d.norm P e es).2) :(d.norm P e es).1.recKept∧(∀ x v,(d.norm P e es).1.cell? x=some v→∃ v0,d.cell? x=some v0∧aH v0 v)∧(d.norm P e es).1.count=d.count:=by
  have same:∀ {d':aq},d'=d→d'.recKept∧(∀ x v,d'.cell? x=some v→∃ v0,d.cell? x=some v0∧aH v0 v)∧d'.count=d.count:=by
    rintro d' rfl;exact ⟨hrk,fun x v h=>⟨v,h,aH.refl _⟩,rfl⟩
  cases d with
  | vs l =>
    simp only [aq.norm] at ho ⊢
    split
    · rename_i cs o hc
      rw [hc] at ho
      cases e1:(Nat.beq cs.length es&&(Nat.blt 0 es&&Nat.beq (l.length/es*es) l.length)) with
      | false=>exact same rfl
      | true =>
        simp only [e1,cond_true] at ho ⊢
        simp only [Bool.and_eq_true] at e1
        obtain ⟨q1,q2,q3⟩:=e1
        have q1:=Nat.eq_of_beq_eq_true q1
        have q3:=Nat.eq_of_beq_eq_true q3
        have q2:0<es:=by simpa [Nat.blt_eq] using q2
        subst q1
        obtain ⟨a1,a2⟩:=uR hc ho
        refine ⟨a1,fun x v hx=>?_,by simp only [aq.count];exact q3⟩
        obtain ⟨c,h1,_,h3⟩:=dq hx
        obtain ⟨r1,r2⟩:=a2 _ c _ v h1 h3
        have hdm:=Nat.div_add_mod x cs.length
        rw [Nat.zero_add,Nat.mul_comm,hdm] at r2
        have hlt:x<l.length:=by rw [←q3];exact (Nat.div_lt_iff_lt_mul q2).1 r1
        refine ⟨l[x],by simp only [aq.cell?];exact List.getElem?_eq_getElem hlt,?_⟩
        rw [List.getD_eq_getElem?_getD,List.getElem?_eq_getElem hlt] at r2;exact r2
    · exact same rfl
  | _=>exact same rfl
theorem Ql{a b:Nat}(h : ¬ a<b) :Nat.blt a b=false:=by
  cases e:Nat.blt a b with
  | false=>rfl
  | true=>exact absurd (by simpa [Nat.blt_eq] using e) h
theorem eT{α:Type}{f:α→AV}{a b:List α}{x:Nat}{v:AV}(h:((a++b)[x]?).map f=some v) :(x<a.length∧(a[x]?).map f=some v)∨(a.length≤x∧(b[x-a.length]?).map f=some v):=by
  rw [List.getElem?_append] at h
  split at h
  · rename_i hx;exact .inl ⟨hx,h⟩
  · rename_i hx;exact .inr ⟨by omega,h⟩
theorem DF{a b c:dd}(h:a.app b=some c) :c.len=a.len+b.len∧∀ i v,c.cell? i=some v→(i<a.len∧a.cell? i=some v)∨(a.len≤i∧b.cell? (i-a.len)=some v):=by
  unfold dd.app at h
  split at h
  · cases h;exact ⟨by simp [dd.len],fun i v hv=>eT (f:=AV.flt false) hv⟩
  · rename_i k a k' b
    cases e:bc k k' with
    | false=>rw [e] at h;cases h
    | true =>
      rw [e] at h;cases h
      have hk:k=k':=of_decide_eq_true e
      subst hk
      exact ⟨by simp [dd.len],fun i v hv=>eT (f:=AV.int k) hv⟩
  · cases h;exact ⟨by simp [dd.len],fun i v hv=>eT (f:=AV.bool false) hv⟩
  · cases h;exact ⟨by simp [dd.len],fun i v hv=>eT (f:=AV.str) hv⟩
  · cases h;exact ⟨by simp [dd.len],fun i v hv=>eT (f:=fun l=>AV.imm .free (.fl l) 1 1 0 l.length) hv⟩
  · rename_i k a k' b
    cases e:bc k k' with
    | false=>rw [e] at h;cases h
    | true =>
      rw [e] at h;cases h
      have hk:k=k':=of_decide_eq_true e
      subst hk
      exact ⟨by simp [dd.len],fun i v hv=>eT (f:=fun l=>AV.imm .free (.ns k l) 1 1 0 l.length) hv⟩
  · cases h
theorem sd:∀ {a b c:List dd},vW a b=some c→a.length=c.length∧b.length=c.length∧∀ (j:Nat) (z:dd),c[j]? = some z→∃ x y:dd,a[j]? = some x∧b[j]? = some y∧x.app y=some z
  | [],[],c,h=>by cases h;exact ⟨rfl,rfl,(fun j z hz=>by simp at hz)⟩
  | [],_::_,c,h=>by cases h
  | _::_,[],c,h=>by cases h
  | a::l,b::m,c,h=>by
    simp only [vW] at h
    split at h
    case h_2=>cases h
    rename_i d ds h1 h2
    cases h
    obtain ⟨a1,a2,a3⟩:=sd h2
    refine ⟨by simp [a1],by simp [a2],fun j z hz=>?_⟩
    cases j with
    | zero=>simp at hz;subst hz;exact ⟨a,b,rfl,rfl,h1⟩
    | succ j=>obtain ⟨x,y,q1,q2,q3⟩:=a3 j z (by simpa using hz);exact ⟨x,y,by simpa using q1,by simpa using q2,q3⟩
theorem app_spec{old new d:aq}(ho:old.recKept)(hn:new.recKept)(h:JU old new=some d) :
    d.recKept∧(∀ x v,d.cell? x=some v→(x<old.count∧old.cell? x=some v)∨(old.count≤x∧new.cell? (x-old.count)=some v)):=by
  unfold JU at h
  split at h
  · cases h;exact ⟨trivial,fun x v hx=>eT (f:=AV.flt false) hx⟩
  · rename_i k a k' b
    cases e:bc k k' with
    | false=>rw [e] at h;cases h
    | true =>
      rw [e] at h;cases h
      have:k=k':=of_decide_eq_true e
      subst this
      exact ⟨trivial,fun x v hx=>eT (f:=AV.int k) hx⟩
  · cases h;exact ⟨trivial,fun x v hx=>eT (f:=AV.bool false) hx⟩
  · cases h;exact ⟨trivial,fun x v hx=>eT (f:=AV.str) hx⟩
  · cases h
    refine ⟨trivial,fun x v hx=>?_⟩
    have:=eT (f:=id) (v:=v) (by simpa [aq.cell?] using hx)
    simpa [aq.cell?,aq.count] using this
  · rename_i w n g w' n' g'
    cases e:(Nat.beq w w'&&Nat.blt 0 w) with
    | false=>rw [e] at h;cases h
    | true =>
      rw [e] at h;cases h
      rw [Bool.and_eq_true] at e
      have e1:=Nat.eq_of_beq_eq_true e.1
      subst e1
      have hw:0<w:=by simpa [Nat.blt_eq] using e.2
      refine ⟨fun i j=>?_,fun x v hx=>?_⟩
      · cases q:Nat.blt i n with
        | true=>simp only [q,cond_true];exact ho i j
        | false=>simp only [q,cond_false];exact hn _ j
      · simp only [aq.cell?, aq.count] at hx ⊢
        split at hx
        · rename_i hlt
          by_cases hl:x/w<n
          · have:Nat.blt (x/w) n=true:=by simpa [Nat.blt_eq] using hl
            rw [this] at hx
            exact .inl ⟨(Nat.div_lt_iff_lt_mul hw).1 hl,by rw [if_pos hl];exact hx⟩
          · have : Nat.blt (x / w) n = false := Ql hl
            rw [this] at hx
            have hge : n * w ≤ x := by rcases Nat.lt_or_ge x (n * w) with q | q; · exact absurd ((Nat.div_lt_iff_lt_mul hw).2 q) hl
                                       · exact q
            have d1:(x-n*w)/w=x/w-n:=by rw [Nat.mul_comm n w,Nat.sub_mul_div]
            have d2:(x-n*w)%w=x%w:=by rw [Nat.mul_comm n w,Nat.sub_mul_mod (by rw [Nat.mul_comm];exact hge)]
            refine .inr ⟨hge,?_⟩
            have hx':some (g' (x/w-n) (x%w))=some v:=hx
            have d3:(x-n*w)/w<n':=by omega
            rw [←hx',←d1,←d2];exact if_pos d3
        · cases hx
  · rename_i w n g l
    cases e:(bK l&&(dy l&&(Nat.blt 0 w&&Nat.beq (l.length/w*w) l.length))) with
    | false=>rw [e] at h;cases h
    | true =>
      rw [e] at h;cases h
      simp only [Bool.and_eq_true] at e
      obtain ⟨e1,e2,e3,e4⟩:=e
      have e4:=Nat.eq_of_beq_eq_true e4
      have hw:0<w:=by simpa [Nat.blt_eq] using e3
      refine ⟨fun i j=>?_,fun x v hx=>?_⟩
      · cases q:Nat.blt i n with
        | true=>simp only [q,cond_true];exact ho i j
        | false=>simp only [q,cond_false];exact OQ e1 e2 _
      · simp only [aq.cell?, aq.count] at hx ⊢
        split at hx
        · rename_i hlt
          by_cases hl:x/w<n
          · have:Nat.blt (x/w) n=true:=by simpa [Nat.blt_eq] using hl
            rw [this] at hx
            exact .inl ⟨(Nat.div_lt_iff_lt_mul hw).1 hl,by rw [if_pos hl];exact hx⟩
          · have : Nat.blt (x / w) n = false := Ql hl
            rw [this] at hx
            have hge : n * w ≤ x := by rcases Nat.lt_or_ge x (n * w) with q | q; · exact absurd ((Nat.div_lt_iff_lt_mul hw).2 q) hl
                                       · exact q
            have e5:(x/w-n)*w+x%w=x-n*w:=by
              rw [Nat.sub_mul]
              have:=Nat.div_add_mod x w
              rw [Nat.mul_comm] at this
              have h6:n*w≤x/w*w:=Nat.mul_le_mul_right w (by omega)
              omega
            have hlt2:x-n*w<l.length:=by
              have:=(Nat.div_lt_iff_lt_mul hw).1 hlt
              rw [Nat.add_mul,e4] at this;omega
            simp only [cond_false,e5] at hx
            rw [List.getD_eq_getElem?_getD,List.getElem?_eq_getElem hlt2] at hx
            exact .inr ⟨hge,by rw [List.getElem?_eq_getElem hlt2];exact hx⟩
        · cases hx
  · rename_i n cs n' cs'
    cases e:Nat.blt 0 cs.length with
    | false=>rw [e] at h;cases h
    | true =>
      rw [e] at h
      simp only [cond_true,Option.map_eq_some_iff] at h
      obtain ⟨ds,h1,rfl⟩:=h
      have hw:0<cs.length:=by simpa [Nat.blt_eq] using e
      obtain ⟨l1,l2,l3⟩:=sd h1
      have len:∀ {j:Nat} {z:dd},ds[j]? = some z→∃ x y,cs[j]? = some x∧cs'[j]? = some y∧x.len=n∧z.len=n+n'∧∀ i v,z.cell? i=some v→(i<n∧x.cell? i=some v)∨(n≤i∧y.cell? (i-n)=some v):=by
        intro j z hz
        obtain ⟨x,y,q1,q2,q3⟩:=l3 j z hz
        have e1:=ho x (List.mem_of_getElem? q1)
        have e2:=hn y (List.mem_of_getElem? q2)
        obtain ⟨r1,r2⟩:=DF q3
        rw [e1,e2] at r1
        rw [e1] at r2
        exact ⟨x,y,q1,q2,e1,r1,r2⟩
      refine ⟨fun z hz=>?_,fun x v hx=>?_⟩
      · obtain ⟨j,hj⟩:=List.getElem?_of_mem hz
        obtain ⟨_,_,_,_,_,q,_⟩:=len hj
        exact q
      · obtain ⟨z,q1,_,q3⟩:=dq hx
        obtain ⟨a,b,k1,k2,k3,_,k5⟩:=len q1
        have hdm:=Nat.div_add_mod x ds.length
        simp only [aq.count]
        rw [l1] at hw ⊢
        rcases k5 _ v q3 with ⟨r1,r2⟩ | ⟨r1,r2⟩
        · refine .inl ⟨(Nat.div_lt_iff_lt_mul hw).1 r1,?_⟩
          simp only [aq.cell?,l1,k1,Option.bind_some];exact r2
        · have hge:n*ds.length≤x:=by
            have:=Nat.mul_le_mul_right ds.length r1
            rw [Nat.mul_comm (x/ds.length)] at this;omega
          have d1:(x-n*ds.length)/ds.length=x/ds.length-n:=by rw [Nat.mul_comm n,Nat.sub_mul_div]
          have d2:(x-n*ds.length)%ds.length=x%ds.length:=by rw [Nat.mul_comm n,Nat.sub_mul_mod (by rw [Nat.mul_comm];exact hge)]
          refine .inr ⟨hge,?_⟩
          simp only [aq.cell?,l2,d1,d2,k2,Option.bind_some];exact r2
  · cases h
end
end Go.Plb
