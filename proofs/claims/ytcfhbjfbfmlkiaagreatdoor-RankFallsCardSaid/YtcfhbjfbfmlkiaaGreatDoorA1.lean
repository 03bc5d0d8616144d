/-
  Part 1 of what the claim leans on: an evaluator of the model, proved sound; the contracts of the functions.
-/
import Derived.Orders
import Derived.Laws.World
import Derived.Laws.FloatArith
import Derived.Laws.Sem
import Derived.ChangeKeysEq
import Derived.Laws.MakeOwn
import Derived.Laws.AppendOwn
namespace Go.Plb
set_option linter.unusedSimpArgs false
set_option linter.unusedVariables false
def J2:Nat:=0x7FF8000000000000
def isNaN(x:Nat) :Bool:=(FloatKind.f64.decode x).isNaN
def FR(ex:Bool)(x y:Nat) :Prop:=y=x∨(ex=false∧isNaN x=true∧isNaN y=true)
inductive Lv where
  | free
  | lent
  | up (l:Lv)
inductive dz where
  | i (k:IntKind) (n:Int)
  | s (b:ByteArray)
  | p (k:IntKind) (x y:Int)
def dz.val:dz→Value
  | .i k n=>.int k n
  | .s b=>.string b
  | .p k x y=>.agg #[.int k x,.int k y]
mutual
inductive AV where
  | int (k:IntKind) (n:Int)
  | bool (kn b:Bool)
  | flt (ex:Bool) (x:Nat)
  | str (s:ByteArray)
  | nptr
  | ptr (b w i j:Nat)
  | iptr (bw:Lv) (d:aD) (w i j:Nat)
  | nsl
  | esl
  | zsl (b:Bool)
  | nan
  | sl (b w es i len cap:Nat)
  | imm (bw:Lv) (d:aD) (w es i len:Nat)
  | fn (f:Fn) (first caps:List AV)
  | nfn
  | gmap (ks:List dz) (vs:List AV)
  | gvar (c:Array Value)
  | agg (l:List AV)
  | tup (l:List AV)
  | iface (t:TypeId) (v:AV)
  | niface
  | yld (b:Nat)
  | any
inductive aD where
  | fl (xs:List Nat)
  | ns (k:IntKind) (xs:List Int)
  | bs (xs:List Bool)
  | ss (xs:List ByteArray)
  | vs (xs:List AV)
  | rows (w n:Nat) (get:Nat→Nat→AV)
  | cols (n:Nat) (cs:List gL)
inductive gL where
  | cf (xs:List Nat)
  | ci (k:IntKind) (xs:List Int)
  | cb (xs:List Bool)
  | cs (xs:List ByteArray)
  | cfl (xs:List (List Nat))
  | cns (k:IntKind) (xs:List (List Int))
end
instance:Inhabited AV:=⟨.any⟩
def gL.cell?:gL→Nat→Option AV
  | .cf xs,i=>(xs[i]?).map (AV.flt false)
  | .ci k xs,i=>(xs[i]?).map (AV.int k)
  | .cb xs,i=>(xs[i]?).map (AV.bool false)
  | .cs xs,i=>(xs[i]?).map AV.str
  | .cfl xs,i=>(xs[i]?).map fun l=>.imm .free (.fl l) 1 1 0 l.length
  | .cns k xs,i=>(xs[i]?).map fun l=>.imm .free (.ns k l) 1 1 0 l.length
def aD.cell?:aD→Nat→Option AV
  | .fl xs,i=>(xs[i]?).map (AV.flt false)
  | .ns k xs,i=>(xs[i]?).map (AV.int k)
  | .bs xs,i=>(xs[i]?).map (AV.bool false)
  | .ss xs,i=>(xs[i]?).map AV.str
  | .vs xs,i=>xs[i]?
  | .rows w n get,i=>if i/w<n then some (get (i/w) (i%w)) else none
  | .cols n cs,i=>(cs[i%cs.length]?).bind fun c=>c.cell? (i/cs.length)
def Lv.isFree:Lv→Bool
  | .free=>true
  | .lent=>false
  | .up l=>l.isFree
mutual
def AV.kept:AV→Bool
  | .ptr .. | .sl ..=>false
  | .iptr bw .. | .imm bw ..=>bw.isFree
  | .fn _ l1 l2=>dM l1&&dM l2
  | .agg l | .tup l=>dM l
  | .iface _ v=>v.kept
  | .yld _=>false
  | _=>true
def dM:List AV→Bool
  | []=>true
  | v::l=>v.kept&&dM l
end
def AV.one:AV→Bool
  | .agg _ | .tup _ | .any=>false
  | _=>true
def iw:List AV→Bool
  | []=>true
  | v::l=>v.one&&iw l
def aD.kept:aD→Bool
  | .vs xs=>dM xs
  | _=>true
def gL.len:gL→Nat
  | .cf xs=>xs.length
  | .ci _ xs=>xs.length
  | .cb xs=>xs.length
  | .cs xs=>xs.length
  | .cfl xs=>xs.length
  | .cns _ xs=>xs.length
def aD.recKept:aD→Prop
  | .rows _ _ get=>∀ i j,(get i j).kept=true∧(get i j).one=true
  | .cols n cs=>∀ c∈cs,c.len=n
  | _=>True
mutual
def AV.foreign:AV→Bool
  | .ptr .. | .sl ..=>false
  | .fn _ l1 l2=>bR l1&&bR l2
  | .agg l | .tup l=>bR l
  | .iface _ v=>v.foreign
  | .yld _=>false
  | _=>true
def bR:List AV→Bool
  | []=>true
  | v::l=>v.foreign&&bR l
end
def aD.foreign:aD→Bool
  | .vs xs=>bR xs
  | _=>true
theorem vz{c:gL}{i:Nat}{v:AV}(h:c.cell? i=some v) :v.kept=true∧v.foreign=true∧v.one=true:=by
  cases c<;>simp only [gL.cell?,Option.map_eq_some_iff] at h<;>obtain ⟨_,_,rfl⟩:=h<;>exact ⟨rfl,rfl,rfl⟩
theorem AF{c:gL}{i:Nat}{v:AV}(h:c.cell? i=some v) :i<c.len:=by
  cases c<;>simp only [gL.cell?,Option.map_eq_some_iff] at h<;>obtain ⟨_,h,_⟩:=h<;>exact (List.getElem?_eq_some_iff.1 h).1
theorem TS{c:gL}{i:Nat}(h:i<c.len) :∃ v,c.cell? i=some v:=by
  cases c<;>simp only [gL.len] at h<;>simp only [gL.cell?]<;>exact ⟨_,by rw [List.getElem?_eq_getElem h];rfl⟩
theorem ij{n:Nat}{cs:List gL}{x:Nat}{v:AV}(h:(aD.cols n cs).cell? x=some v) :∃ c,cs[x%cs.length]? = some c∧c∈cs∧c.cell? (x/cs.length)=some v:=by
  simp only [aD.cell?,Option.bind_eq_some_iff] at h
  obtain ⟨c,h1,h2⟩:=h
  exact ⟨c,h1,List.mem_of_getElem? h1,h2⟩
structure ac where
  at_:Nat→Nat
  live:Nat→Prop

  out:Nat→Nat→Prop

  ok:Nat→Prop

  pin:Nat×Option (Nat×Nat)
def Lv.av(O:Nat→Nat→Prop) :Lv→Nat→Nat→Prop
  | .free,i,bl=>∀ j,i≤j→¬ O j bl
  | .lent,i,bl=>¬ O i bl
  | .up l,i,bl=>¬ O i bl∧l.av O (i+1) bl
def ac.own(ρ:ac) :Nat→Nat→Prop
  | 0=>ρ.live
  | j+1=>ρ.out j
def ac.avoid(ρ:ac)(bw:Lv)(bl:Nat) :Prop:=bw.av ρ.own 0 bl
theorem D1{O:Nat→Nat→Prop} :∀ {l:Lv} {i bl:Nat},l.av O i bl→¬ O i bl
  | .free,i,bl,h=>h i (Nat.le_refl _)
  | .lent,i,bl,h=>h
  | .up l,i,bl,h=>h.1
theorem xp{O O':Nat→Nat→Prop}{bl d:Nat} :∀ {l:Lv} {i:Nat},(∀ j,i≤j→O' (j+d) bl→O j bl)→l.av O i bl→l.av O' (i+d) bl
  | .free,i,h,k=>fun j hj q=>by
    obtain ⟨j',rfl⟩:∃ j',j=j'+d:=⟨j-d,by omega⟩
    exact k j' (by omega) (h j' (by omega) q)
  | .lent,i,h,k=>fun q=>k (h i (Nat.le_refl _) q)
  | .up l,i,h,k=>⟨fun q=>k.1 (h i (Nat.le_refl _) q),by
      have:=xp (l:=l) (i:=i+1) (d:=d) (fun j hj=>h j (by omega)) k.2
      have e:i+1+d=i+d+1:=by omega
      rwa [e] at this⟩
theorem pY{O:Nat→Nat→Prop} :∀ {l:Lv} {i bl:Nat},l.isFree=true→l.av O i bl→∀ j,i≤j→¬ O j bl
  | .free,i,bl,_,h,j,hj=>h j hj
  | .lent,i,bl,hl,_,_,_=>by cases hl
  | .up l,i,bl,hl,h,j,hj=>by
    rcases Nat.eq_or_lt_of_le hj with rfl | q
    · exact h.1
    · exact pY (l:=l) hl h.2 j q
theorem ip{ρ:ac}{l:Lv}{bl:Nat}(h:ρ.avoid l bl) : ¬ ρ.live bl:=D1 (O:=ρ.own) h
class Rom where
  tab:List (Nat×AV)
  kept:∀ x∈tab,x.2.kept=true
mutual
inductive VR (ρ:ac) (w:World):AV→Value→Prop
  | int (k:IntKind) (n:Int):VR ρ w (.int k n) (.int k n)
  | bool (kn b:Bool):VR ρ w (.bool kn b) (.bool b)
  | flt (ex:Bool) (x y:Nat) (h:FR ex x y):VR ρ w (.flt ex x) (.float .f64 y)
  | str (s:ByteArray):VR ρ w (.str s) (.string s)
  | nptr:VR ρ w .nptr (.pointer none)
  | ptr (b k i j:Nat) (hb:ρ.ok b):VR ρ w (.ptr b k i j) (.pointer (some ⟨ρ.at_ b,i*k+j,none⟩))
  | iptr (bw:Lv) (d:aD) (k i j bl o:Nat) (u:Nat→Value) (ha:ρ.avoid bw bl) (hb:bl<w.heap.size)
      (hc:∀ x v,d.cell? x=some v→w.cell? ⟨bl,o+x,none⟩=some (u x)) (hv:∀ x v,d.cell? x=some v→VR ρ w v (u x))
      (hr:d.recKept) (hk:bw.isFree=true→d.kept=true) (hg:d.foreign=true) :
      VR ρ w (.iptr bw d k i j) (.pointer (some ⟨bl,o+(i*k+j),none⟩))
  | nsl:VR ρ w .nsl (.slice none 0 0)
  | esl (a:Option Addr):VR ρ w .esl (.slice a 0 0)
  | zsl (a:Option Addr) (cap:Nat):VR ρ w (.zsl a.isNone) (.slice a 0 cap)
  | nan (n:Nat) (h:isNaN n=true):VR ρ w .nan (.int .u64 n)
  | sl (b k es i len cap cap':Nat) (hb:ρ.ok b) (hcap:cap≤cap') (hl:len≤cap) (c:Array Value) (t:TypeId) (hh:w.heap[ρ.at_ b]? = some (.cells c t (0,0)))
      (hs:i*k+cap'*es≤c.size):VR ρ w (.sl b k es i len cap) (.slice (some ⟨ρ.at_ b,i*k,none⟩) len cap')
  | slEnd (b k es i:Nat) (a:Option Addr):VR ρ w (.sl b k es i 0 0) (.slice a 0 0)
  | imm (bw:Lv) (d:aD) (k es i len cap bl o:Nat) (u:Nat→Value) (ha:ρ.avoid bw bl) (hb:bl<w.heap.size)
      (hc:∀ x v,d.cell? x=some v→w.cell? ⟨bl,o+x,none⟩=some (u x)) (hv:∀ x v,d.cell? x=some v→VR ρ w v (u x)) (hl:len≤cap)
      (hr:d.recKept) (hk:bw.isFree=true→d.kept=true) (hg:d.foreign=true) :
      VR ρ w (.imm bw d k es i len) (.slice (some ⟨bl,o+i*k,none⟩) len cap)
  | immEnd (bw:Lv) (d:aD) (k es i cap:Nat) (a:Option Addr) (hr:d.recKept) (hk:bw.isFree=true→d.kept=true) (hg:d.foreign=true):VR ρ w (.imm bw d k es i 0) (.slice a 0 cap)
  | fn (f:Fn) (l1 l2:List AV) (c1 c2:Array Value) (h1:cV ρ w l1 c1.toList) (h2:cV ρ w l2 c2.toList):VR ρ w (.fn f l1 l2) (.func f c1 c2)
  | nfn:VR ρ w .nfn .nilFunc
  | gmap (ks:List dz) (vs:List AV) (bl:Nat) (es:Array MapEntry) (cl:Nat) (u:Nat→Value) (ha:ρ.avoid .free bl) (hb:bl<w.heap.size) (hh:w.heap[bl]? = some (.map es cl))
      (hin:∀ e∈es.toList,∃ (i:Nat) (k:dz),ks[i]? = some k∧e.key=k.val∧e.val=u i) (hex:∀ (i:Nat) (k:dz),ks[i]? = some k→∃ e∈es.toList,e.key=k.val∧e.val=u i)
      (hv:∀ x v,vs[x]? = some v→VR ρ w v (u x)) (hl:vs.length=ks.length) (hk:dM vs=true):VR ρ w (.gmap ks vs) (.map (some bl))
  | gvar (c:Array Value) (bl:Nat) (t:TypeId) (fr:Nat×Nat) (ha:ρ.avoid .free bl) (hb:bl<w.heap.size) (hh:w.heap[bl]? = some (.cells c t fr)):VR ρ w (.gvar c) (.pointer (some ⟨bl,0,none⟩))
  | agg (l:List AV) (c:Array Value) (h:cV ρ w l c.toList):VR ρ w (.agg l) (.agg c)
  | tup (l:List AV) (c:Array Value) (h:cV ρ w l c.toList):VR ρ w (.tup l) (.tuple c)
  | iface (t:TypeId) (v:AV) (u:Value) (h:VR ρ w v u):VR ρ w (.iface t v) (.iface t u)
  | niface:VR ρ w .niface .nilIface
  | yld (b L:Nat) (h:ρ.pin.2=some (L,b)):VR ρ w (.yld b) (.func (.yield L) #[] #[])
  | any (u:Value):VR ρ w .any u
inductive cV (ρ:ac) (w:World):List AV→List Value→Prop
  | nil:cV ρ w [] []
  | cons (v:AV) (u:Value) (l:List AV) (c:List Value) (h:VR ρ w v u) (t:cV ρ w l c):cV ρ w (v::l) (u::c)
end
def BR(ρ:ac)(w:World)(bl:Nat)(d:aD) :Prop :=
  d.recKept∧∃ c t,w.heap[bl]? = some (.cells c t (0,0))∧∀ x v,d.cell? x=some v→∃ u,c[x]? = some u∧VR ρ w v u
structure iq (M:Nat→Prop) (w w':World):Prop where
  os:w'.os=w.os
  tape:w'.tape=w.tape
  output:w'.output=w.output
  size:w.heap.size≤w'.heap.size
  same:∀ b,b<w.heap.size→¬ M b→w'.heap[b]? = w.heap[b]?
  sized:∀ (b:Nat) c t fz,w.heap[b]? = some (.cells c t fz)→∃ c',w'.heap[b]? = some (.cells c' t fz)∧c'.size=c.size
theorem iq.refl(M:Nat→Prop)(w:World) :iq M w w:=⟨rfl,rfl,rfl,Nat.le_refl _,fun _ _ _=>rfl,fun _ c _ _ h=>⟨c,h,rfl⟩⟩
theorem iq.trans{M M':Nat→Prop}{a b c:World}(h:iq M a b)(k:iq M' b c)(hM:∀ x,x<a.heap.size→M' x→M x) :iq M a c :=
  ⟨k.os.trans h.os,k.tape.trans h.tape,k.output.trans h.output,Nat.le_trans h.size k.size,
   fun x hx hn=>(k.same x (Nat.lt_of_lt_of_le hx h.size) (fun m=>hn (hM x hx m))).trans (h.same x hx hn),
   fun x c t fz hc=>by
     obtain ⟨c1,h1,e1⟩:=h.sized x c t fz hc
     obtain ⟨c2,h2,e2⟩:=k.sized x c1 t fz h1
     exact ⟨c2,h2,e2.trans e1⟩⟩
theorem iq.mono{M M':Nat→Prop}{w w':World}(h:iq M w w')(hM:∀ x,x<w.heap.size→M x→M' x) :iq M' w w' :=
  ⟨h.os,h.tape,h.output,h.size,fun x hx hn=>h.same x hx (fun m=>hn (hM x hx m)),h.sized⟩
theorem vA{w w':World}{a:Addr}(h:w'.heap[a.block]? = w.heap[a.block]?) :w'.cell? a=w.cell? a:=by
  unfold World.cell?;rw [h]
structure kI (ρ ρ':ac) (w:World):Prop where
  at_:∀ b,ρ.ok b→ρ'.at_ b=ρ.at_ b
  ok:∀ b,ρ.ok b→ρ'.ok b
  live:∀ b,ρ.live b→ρ'.live b
  new:∀ b,b<w.heap.size→ρ'.live b→ρ.live b
  out:ρ'.out=ρ.out
  pin:ρ'.pin=ρ.pin
theorem kI.refl(ρ:ac)(w:World) :kI ρ ρ w:=⟨fun _ _=>rfl,fun _ h=>h,fun _ h=>h,fun _ _ h=>h,rfl,rfl⟩
theorem kI.trans{a b c:ac}{w w':World}(h:kI a b w)(k:kI b c w')(hw:w.heap.size≤w'.heap.size) :kI a c w :=
  ⟨fun x hx=>(k.at_ x (h.ok x hx)).trans (h.at_ x hx),fun x hx=>k.ok x (h.ok x hx),fun x hx=>k.live x (h.live x hx),
   fun x hx hl=>h.new x hx (k.new x (Nat.lt_of_lt_of_le hx hw) hl),k.out.trans h.out,k.pin.trans h.pin⟩
theorem kI.avoid{ρ ρ':ac}{w:World}(E:kI ρ ρ' w){l:Lv}{bl:Nat}(hb:bl<w.heap.size)(h:ρ.avoid l bl) :ρ'.avoid l bl:=by
  refine xp (d:=0) (fun j _ q=>?_) h
  cases j with
  | zero=>exact E.new bl hb q
  | succ j=>simp only [Nat.add_zero,ac.own] at q ⊢;rw [E.out] at q;exact q
theorem VR.mono{ρ ρ':ac}{w w':World}(E:kI ρ ρ' w)(W:iq ρ.live w w'){v:AV}{u:Value}(h:VR ρ w v u) :VR ρ' w' v u:=by
  induction h using VR.rec (motive_2:=fun l c _=>cV ρ' w' l c) with
  | int k n=>exact .int k n
  | bool kn b=>exact .bool kn b
  | flt ex x y h=>exact .flt ex x y h
  | str s=>exact .str s
  | nptr=>exact .nptr
  | ptr b k i j hb=>rw [←E.at_ b hb];exact .ptr b k i j (E.ok b hb)
  | iptr bw d k i j bl o u ha hb hc hv hr hk hg ih =>
    refine .iptr bw d k i j bl o u (E.avoid hb ha) (Nat.lt_of_lt_of_le hb W.size) ?_ ih hr hk hg
    intro x v hx
    rw [vA (W.same bl hb (ip ha))];exact hc x v hx
  | nsl=>exact .nsl
  | esl a=>exact .esl a
  | zsl a c=>exact .zsl a c
  | nan n h=>exact .nan n h
  | sl b k es i len cap cap' hb hcap hl c t hh hs =>
    obtain ⟨c',h1,h2⟩:=W.sized _ _ _ _ hh
    rw [←E.at_ b hb] at h1 ⊢
    exact .sl b k es i len cap cap' (E.ok b hb) hcap hl c' t h1 (by omega)
  | slEnd b k es i a=>exact .slEnd b k es i a
  | imm bw d k es i len cap bl o u ha hb hc hv hl hr hk hg ih =>
    refine .imm bw d k es i len cap bl o u (E.avoid hb ha) (Nat.lt_of_lt_of_le hb W.size) ?_ ih hl hr hk hg
    intro x v hx
    rw [vA (W.same bl hb (ip ha))];exact hc x v hx
  | immEnd bw d k es i cap a hr hk hg=>exact .immEnd bw d k es i cap a hr hk hg
  | fn f l1 l2 c1 c2 h1 h2 i1 i2=>exact .fn f l1 l2 c1 c2 i1 i2
  | nfn=>exact .nfn
  | gmap ks vs bl es cl u ha hb hh hin hex hv hl hk ih=>exact .gmap ks vs bl es cl u (E.avoid hb ha) (Nat.lt_of_lt_of_le hb W.size) ((W.same bl hb (ip ha)).trans hh) hin hex ih hl hk
  | gvar c bl t fr ha hb hh=>exact .gvar c bl t fr (E.avoid hb ha) (Nat.lt_of_lt_of_le hb W.size) ((W.same bl hb (ip ha)).trans hh)
  | agg l c h ih=>exact .agg l c ih
  | tup l c h ih=>exact .tup l c ih
  | iface t v u h ih=>exact .iface t v u ih
  | niface=>exact .niface
  | yld b L h=>exact .yld b L (by rw [E.pin];exact h)
  | any u=>exact .any u
  | nil=>exact .nil
  | cons v u l c h t i1 i2=>exact .cons v u l c i1 i2
theorem cV.mono{ρ ρ':ac}{w w':World}(E:kI ρ ρ' w)(W:iq ρ.live w w') :∀ {l:List AV} {c:List Value},cV ρ w l c→cV ρ' w' l c
  | _,_,.nil=>.nil
  | _,_,.cons v u l c h t=>.cons v u l c (h.mono E W) (cV.mono E W t)
end Go.Plb
namespace Go.Plb
noncomputable section
set_option linter.unusedSimpArgs false
set_option linter.unusedVariables false
set_option linter.unusedSectionVars false
variable [Rom]
abbrev bN:=List (Nat×aD)
def be:bN→Nat→Option aD:=fun h b=>List.rec (motive:=fun _=>Option aD) none (fun x _ ih=>Bool.rec (motive:=fun _=>Option aD) ih (some x.2) (Nat.beq x.1 b)) h
def eY:bN→Nat→aD→bN:=fun h b d=>List.rec (motive:=fun _=>bN) [(b,d)] (fun x t ih=>Bool.rec (motive:=fun _=>bN) (x::ih) ((x.1,d)::t) (Nat.beq x.1 b)) h
def tl:bN→Nat→bN:=fun h b=>List.rec (motive:=fun _=>bN) [] (fun x _ ih=>Bool.rec (motive:=fun _=>bN) (x::ih) ih (Nat.beq x.1 b)) h
theorem fb(b:Nat) :be [] b=none:=rfl
theorem dA(k:Nat)(d:aD)(t:bN)(b:Nat) :be ((k,d)::t) b=bif Nat.beq k b then some d else be t b:=by cases hq:Nat.beq k b<;>simp only [be,hq]<;>rfl
theorem wC(b:Nat)(d:aD) :eY [] b d=[(b,d)]:=rfl
theorem td(k:Nat)(e:aD)(t:bN)(b:Nat)(d:aD) :eY ((k,e)::t) b d=bif Nat.beq k b then (k,d)::t else (k,e)::eY t b d:=by cases hq:Nat.beq k b<;>simp only [eY,hq]<;>rfl
theorem AG(b:Nat) :tl [] b=[]:=rfl
theorem wD(k:Nat)(e:aD)(t:bN)(b:Nat) :tl ((k,e)::t) b=bif Nat.beq k b then tl t b else (k,e)::tl t b:=by cases hq:Nat.beq k b<;>simp only [tl,hq]<;>rfl
theorem tm{a b:Nat}(h : ¬ a=b) :Nat.beq a b=false:=by
  cases e:Nat.beq a b with
  | false=>rfl
  | true=>exact absurd (Nat.eq_of_beq_eq_true e) h
theorem nv(a:Nat) :Nat.beq a a=true:=Nat.beq_refl a
theorem cR(h:bN)(b c:Nat)(d:aD) :be (eY h b d) c=if b=c then some d else be h c:=by
  induction h with
  | nil =>
    by_cases e:b=c
    · subst e;simp [wC,td,fb,dA,nv]
    · simp [wC,td,fb,dA,tm e,e]
  | cons x t ih =>
    obtain ⟨k,e⟩:=x
    by_cases h1:k=b
    · subst h1
      by_cases h2:k=c
      · subst h2;simp [wC,td,fb,dA,nv]
      · simp [wC,td,fb,dA,h2,tm h2,nv]
    · by_cases h2:k=c
      · subst h2;simp [wC,td,fb,dA,tm h1,nv];intro e;exact absurd e.symm h1
      · simp [wC,td,fb,dA,tm h1,tm h2,ih]
theorem nU(h:bN)(b c:Nat) :be (tl h b) c=if b=c then none else be h c:=by
  induction h with
  | nil=>by_cases e:b=c<;>simp [AG,wD,fb,dA,e]
  | cons x t ih =>
    obtain ⟨k,e⟩:=x
    by_cases h1:k=b
    · subst h1
      by_cases h2:k=c
      · subst h2;simp [AG,wD,ih,nv]
      · simp [AG,wD,fb,dA,ih,h2,tm h2,nv]
    · by_cases h2:k=c
      · subst h2;simp [AG,wD,fb,dA,tm h1,nv];intro e;exact absurd e.symm h1
      · simp [AG,wD,fb,dA,tm h1,tm h2,ih]
def aD.void(d:aD) :Prop:=∀ x,d.cell? x=none
structure HR (ρ:ac) (w:World) (h:bN) (n:Nat):Prop where
  cell:∀ b d,be h b=some d→(ρ.ok b∧ρ.live (ρ.at_ b)∧BR ρ w (ρ.at_ b) d)∨(¬ ρ.ok b∧b<n∧d.recKept∧d.void)
  inj:∀ b c d e,be h b=some d→be h c=some e→ρ.ok b→ρ.ok c→ρ.at_ b=ρ.at_ c→b=c
  fresh:∀ bl,ρ.live bl→∀ j,¬ ρ.out j bl
  liveLt:∀ bl,ρ.live bl→bl<w.heap.size
  outLt:∀ j bl,ρ.out j bl→bl<w.heap.size
  lt:∀ b,ρ.ok b→b<n
  rom:∀ x∈Rom.tab,VR ρ w x.2 (.pointer (some ⟨x.1,0,none⟩))
theorem HR.real{ρ:ac}{w:World}{h:bN}{n b:Nat}{d:aD}(hh:HR ρ w h n)(hg:be h b=some d)(hok:ρ.ok b) :ρ.live (ρ.at_ b)∧BR ρ w (ρ.at_ b) d:=by
  rcases hh.cell b d hg with q | q
  · exact q.2
  · exact (q.1 hok).elim
theorem HR.solid{ρ:ac}{w:World}{h:bN}{n b:Nat}{d:aD}(hh:HR ρ w h n)(hg:be h b=some d)(he:∃ x e,d.cell? x=some e) :ρ.ok b∧ρ.live (ρ.at_ b)∧BR ρ w (ρ.at_ b) d:=by
  rcases hh.cell b d hg with q | q
  · exact q
  · obtain ⟨x,e,hx⟩:=he
    rw [q.2.2.2 x] at hx;cases hx
theorem HR.rk{ρ:ac}{w:World}{h:bN}{n b:Nat}{d:aD}(hh:HR ρ w h n)(hg:be h b=some d) :d.recKept:=by
  rcases hh.cell b d hg with q | q
  · exact q.2.2.1
  · exact q.2.2.1
theorem BR.mono{ρ ρ':ac}{w w':World}{bl:Nat}{d:aD}(E:kI ρ ρ' w)(W:iq ρ.live w w')(hs:w'.heap[bl]? = w.heap[bl]?)(h:BR ρ w bl d) :BR ρ' w' bl d:=by
  obtain ⟨hr,c,t,hc,hv⟩:=h
  refine ⟨hr,c,t,hs.trans hc,fun x v hx=>?_⟩
  obtain ⟨u,h1,h2⟩:=hv x v hx
  exact ⟨u,h1,h2.mono E W⟩
theorem HR.del{ρ:ac}{w:World}{h:bN}{n:Nat}(hh:HR ρ w h n)(b:Nat) :HR ρ w (tl h b) n:=by
  have key:∀ c d,be (tl h b) c=some d→be h c=some d:=by
    intro c d e
    rw [nU] at e
    split at e
    · cases e
    · exact e
  exact ⟨fun c d e=>hh.cell c d (key c d e),fun a c d e h1 h2=>hh.inj a c d e (key _ _ h1) (key _ _ h2),hh.fresh,hh.liveLt,hh.outLt,hh.lt,hh.rom⟩
theorem HR.le{ρ:ac}{w:World}{h:bN}{n m:Nat}(hh:HR ρ w h n)(hm:n≤m) :HR ρ w h m :=
  ⟨fun b d e=>(hh.cell b d e).imp id (fun q=>⟨q.1,Nat.lt_of_lt_of_le q.2.1 hm,q.2.2⟩),hh.inj,hh.fresh,hh.liveLt,hh.outLt,fun b hb=>Nat.lt_of_lt_of_le (hh.lt b hb) hm,hh.rom⟩
theorem HR.step{ρ:ac}{w w':World}{h:bN}{n:Nat}(hh:HR ρ w h n)(W:iq ρ.live w w')(hs:∀ bl,ρ.live bl→w'.heap[bl]? = w.heap[bl]?) :HR ρ w' h n :=
  ⟨fun b d e=>(hh.cell b d e).imp (fun q=>⟨q.1,q.2.1,q.2.2.mono (kI.refl ρ w) W (hs _ q.2.1)⟩) id,hh.inj,hh.fresh,
   fun bl hl=>Nat.lt_of_lt_of_le (hh.liveLt bl hl) W.size,fun j bl hl=>Nat.lt_of_lt_of_le (hh.outLt j bl hl) W.size,hh.lt,fun x hx=>(hh.rom x hx).mono (kI.refl ρ w) W⟩
theorem iq.drawn(M:Nat→Prop)(w:World)(k:Nat) :iq M w { w with drawn:=k } :=
  ⟨rfl,rfl,rfl,Nat.le_refl _,fun _ _ _=>rfl,fun _ c _ _ h=>⟨c,h,rfl⟩⟩
theorem HR.drawn{ρ:ac}{w:World}{h:bN}{n:Nat}(hh:HR ρ w h n)(k:Nat) :HR ρ { w with drawn:=k } h n :=
  hh.step (iq.drawn _ w k) (fun _ _=>rfl)
theorem iq.alloc(M:Nat→Prop)(w:World)(o:Obj) :iq M w (w.alloc o):=by
  refine ⟨rfl,rfl,rfl,by simp,fun b hb _=>?_,fun b c t fz hc=>⟨c,?_,rfl⟩⟩
  · simp only [World.alloc,Array.getElem?_push];rw [if_neg (by omega)]
  · have:b<w.heap.size:=by
      rcases Nat.lt_or_ge b w.heap.size with h | h
      · exact h
      · rw [Array.getElem?_eq_none h] at hc;cases hc
    simp only [World.alloc,Array.getElem?_push];rw [if_neg (by omega)];exact hc
theorem jk{w:World}{o:Obj}{b:Nat}(hb:b<w.heap.size) :(w.alloc o).heap[b]? = w.heap[b]?:=by
  simp only [World.alloc,Array.getElem?_push];rw [if_neg (by omega)]
theorem eG(w:World)(o:Obj) :(w.alloc o).heap[w.heap.size]? = some o:=by
  unfold World.alloc;simp
def ac.give(ρ:ac)(b bl:Nat) :ac :=
  { at_:=fun x=>if x=b then bl else ρ.at_ x,ok:=fun x=>x=b∨ρ.ok x,live:=fun x=>x=bl∨ρ.live x,out:=ρ.out,pin:=ρ.pin }
theorem kI.give{ρ:ac}{w:World}{b bl:Nat}(hb : ¬ ρ.ok b)(hl:w.heap.size≤bl) :kI ρ (ρ.give b bl) w :=
  ⟨fun x hx=>by simp only [ac.give];rw [if_neg (fun e:x=b=>hb (by rw [←e];exact hx))],fun _ h=>.inr h,fun _ h=>.inr h,
   fun x hx h=>h.resolve_left (by omega),rfl,rfl⟩
theorem HR.alloc{ρ:ac}{w:World}{h:bN}{n b:Nat}(hh:HR ρ w h n)(hb : ¬ ρ.ok b)(hn:b<n)(d:aD)(c:Array Value)(t:TypeId) 
    (hd:d.recKept) (hc:∀ x v,d.cell? x=some v→∃ u,c[x]? = some u∧VR ρ w v u) :
    HR (ρ.give b w.heap.size) (w.alloc (.cells c t)) (eY h b d) n∧kI ρ (ρ.give b w.heap.size) w∧iq ρ.live w (w.alloc (.cells c t)):=by
  have E:kI ρ (ρ.give b w.heap.size) w:=kI.give hb (Nat.le_refl _)
  have W:=iq.alloc ρ.live w (.cells c t)
  refine ⟨⟨fun x e hx=>?_,fun x y e f h1 h2 ok1 ok2 he=>?_,fun bl hl j ho=>?_,fun bl hl=>?_,fun j bl ho=>?_,fun x hx=>?_,fun x hx=>(hh.rom x hx).mono E W⟩,E,W⟩
  · rw [cR] at hx
    by_cases hxb:b=x
    · subst hxb
      rw [if_pos rfl] at hx
      cases hx
      refine .inl ⟨.inl rfl,.inl (by simp [ac.give]),hd,c,t,?_,fun y v hy=>?_⟩
      · simp only [ac.give,if_true];exact eG w _
      · obtain ⟨u,h1,h2⟩:=hc y v hy
        exact ⟨u,h1,h2.mono E W⟩
    · rw [if_neg hxb] at hx
      rcases hh.cell x e hx with ⟨h1,h2,h3⟩ | ⟨h1,h2⟩
      · have e1:(ρ.give b w.heap.size).at_ x=ρ.at_ x:=E.at_ x h1
        rw [e1]
        exact .inl ⟨.inr h1,.inr h2,h3.mono E W (jk (hh.liveLt _ h2))⟩
      · exact .inr ⟨fun q=>q.elim (fun q=>hxb q.symm) h1,h2⟩
  · rw [cR] at h1 h2
    have old:∀ z g,b≠z→(if b=z then some d else be h z)=some g→(ρ.give b w.heap.size).ok z→ρ.ok z∧(ρ.give b w.heap.size).at_ z=ρ.at_ z∧ρ.at_ z<w.heap.size∧be h z=some g:=by
      intro z g hz hg hok
      rw [if_neg hz] at hg
      have k1:ρ.ok z:=hok.resolve_left (fun q=>hz q.symm)
      exact ⟨k1,E.at_ z k1,hh.liveLt _ (hh.real hg k1).1,hg⟩
    have new:(ρ.give b w.heap.size).at_ b=w.heap.size:=by simp [ac.give]
    by_cases hx:b=x
    · by_cases hy:b=y
      · omega
      · obtain ⟨_,q1,q2,_⟩:=old y f hy h2 ok2
        subst hx;omega
    · obtain ⟨q0,q1,q2,q3⟩:=old x e hx h1 ok1
      by_cases hy:b=y
      · subst hy;omega
      · obtain ⟨r0,r1,r2,r3⟩:=old y f hy h2 ok2
        exact hh.inj x y e f q3 r3 q0 r0 (by omega)
  · rcases hl with rfl | hl
    · exact absurd (hh.outLt _ _ ho) (by omega)
    · exact hh.fresh bl hl j ho
  · rcases hl with rfl | hl
    · simp
    · have:=hh.liveLt bl hl;simp;omega
  · have:=hh.outLt j bl ho;simp;omega
  · rcases hx with rfl | hx
    · exact hn
    · exact hh.lt x hx
theorem iq.setCell{M:Nat→Prop}(w:World)(a:Addr)(v:Value)(hM:M a.block) :iq M w (w.setCell a v):=by
  refine ⟨rfl,rfl,rfl,by simp,fun b _ hb=>?_,fun b c t fz hc=>?_⟩
  · simp only [World.setCell,Array.getElem?_modify]
    rw [if_neg (fun e:a.block=b=>hb (by rw [←e];exact hM))]
  · by_cases e:a.block=b
    · subst e
      simp only [World.setCell,Array.getElem?_modify,if_true,hc,Option.map_some]
      refine ⟨_,rfl,?_⟩
      split<;>simp
    · refine ⟨c,?_,rfl⟩
      simp only [World.setCell,Array.getElem?_modify]
      rw [if_neg e];exact hc
theorem HR.store{ρ:ac}{w:World}{h:bN}{n b x:Nat}{d d':aD}{u:Value}(hh:HR ρ w h n)(hg:be h b=some d) 
    (hd:d'.recKept) (hx:∀ y e,d'.cell? y=some e→(y=x∧VR ρ w e u)∨(y≠x∧d.cell? y=some e)) (he:∃ e,d.cell? x=some e) :
    HR ρ (w.setCell ⟨ρ.at_ b,x,none⟩ u) (eY h b d') n∧iq ρ.live w (w.setCell ⟨ρ.at_ b,x,none⟩ u):=by
  obtain ⟨hok,hl,hr,c,t,hc,hcv⟩:=hh.solid hg ⟨x,he⟩
  have W:iq ρ.live w (w.setCell ⟨ρ.at_ b,x,none⟩ u):=iq.setCell w _ u hl
  have E:=kI.refl ρ w
  refine ⟨⟨fun y e hy=>?_,fun y z e f h1 h2 ok1 ok2 he=>?_,hh.fresh,fun bl hl=>?_,fun j bl ho=>?_,hh.lt,fun x hx=>(hh.rom x hx).mono E W⟩,W⟩
  · rw [cR] at hy
    by_cases hb:b=y
    · subst hb
      rw [if_pos rfl] at hy
      cases hy
      refine .inl ⟨hok,hl,hd,c.setIfInBounds x u,t,?_,fun y e hy=>?_⟩
      · simp [World.setCell,Array.getElem?_modify,hc]
      · obtain ⟨e0,he0⟩:=he
        obtain ⟨u0,hu0,_⟩:=hcv x e0 he0
        have hlt:x<c.size:=by
          rcases Nat.lt_or_ge x c.size with h | h
          · exact h
          · rw [Array.getElem?_eq_none h] at hu0;cases hu0
        rcases hx y e hy with ⟨rfl,hv⟩ | ⟨hne,ho⟩
        · exact ⟨u,by simp [hlt],hv.mono E W⟩
        · obtain ⟨u1,h1,h2⟩:=hcv y e ho
          exact ⟨u1,by rw [Array.getElem?_setIfInBounds,if_neg (fun q=>hne q.symm)];exact h1,h2.mono E W⟩
    · rw [if_neg hb] at hy
      rcases hh.cell y e hy with ⟨k1,k2,k3⟩ | k
      · refine .inl ⟨k1,k2,k3.mono E W ?_⟩
        simp only [World.setCell,Array.getElem?_modify]
        rw [if_neg (fun q=>hb (hh.inj b y d e hg hy hok k1 q))]
      · exact .inr k
  · have key:∀ z g,(if b=z then some d' else be h z)=some g→∃ g',be h z=some g':=by
      intro z g hz
      by_cases q:b=z
      · subst q;exact ⟨d,hg⟩
      · rw [if_neg q] at hz;exact ⟨g,hz⟩
    rw [cR] at h1 h2
    obtain ⟨_,g1⟩:=key y e h1
    obtain ⟨_,g2⟩:=key z f h2
    exact hh.inj y z _ _ g1 g2 ok1 ok2 he
  · have:=hh.liveLt bl hl;simp;exact this
  · have:=hh.outLt j bl ho;simp;exact this
def ke(ρ:ac)(w:World) :List Deferred→Prop
  | []=>ρ.pin.1≤w.heap.size
  | d::ds=>(∃ D,d = { target:=.collected D,args:=#[] }∧ρ.pin.1≤D∧D<w.heap.size∧¬ ρ.live D∧w.heap[D]? = some (.deferred (some []))∧∀ e∈ds,e ≠ { target:=.collected D,args:=#[] })∧ke ρ w ds
theorem ke.mono{ρ ρ':ac}{w w':World}(E:kI ρ ρ' w)(W:iq ρ.live w w') :∀ {l:List Deferred},ke ρ w l→ke ρ' w' l
  | [],h=>by show ρ'.pin.1≤_;rw [E.pin];exact Nat.le_trans h W.size
  | d::ds,⟨⟨D,h1,hb,h2,h3,h4,h5⟩,h⟩=>⟨⟨D,h1,by rw [E.pin];exact hb,Nat.lt_of_lt_of_le h2 W.size,fun q=>h3 (E.new D h2 q),(W.same D h2 h3).trans h4,h5⟩,ke.mono E W h⟩
structure aC where
  tmps:List AV
  heap:bN
  next:Nat
structure SR (ρ:ac) (st:aC) (a:Act) (w:World):Prop where
  defers:ke ρ w a.defers
  tmps:cV ρ w st.tmps a.tmps.toList
  heap:HR ρ w st.heap st.next
theorem cV.length{ρ:ac}{w:World} :∀ {l:List AV} {c:List Value},cV ρ w l c→l.length=c.length
  | _,_,.nil=>rfl
  | _,_,.cons _ _ _ _ _ t=>by simp [t.length]
theorem cV.get{ρ:ac}{w:World} :∀ {l:List AV} {c:List Value} (_:cV ρ w l c) (i:Nat) (v:AV),l[i]? = some v→∃ u,c[i]? = some u∧VR ρ w v u
  | _,_,.nil,i,v,e=>by simp at e
  | _,_,.cons _ u _ _ h t,0,v,e=>by simp at e;subst e;exact ⟨u,by simp,h⟩
  | _,_,.cons _ _ _ _ h t,i+1,v,e=>by simp at e ⊢;exact t.get i v e
theorem cV.set{ρ:ac}{w:World}{v:AV}{u:Value}(hv:VR ρ w v u) :∀ {l:List AV} {c:List Value} (_:cV ρ w l c) (i:Nat),cV ρ w (l.set i v) (c.set i u)
  | _,_,.nil,i=>by simp;exact .nil
  | _,_,.cons a b l c h t,0=>by simp;exact .cons _ _ _ _ hv t
  | _,_,.cons a b l c h t,i+1=>by simp;exact .cons _ _ _ _ h (t.set hv i)
theorem cV.append{ρ:ac}{w:World}{l':List AV}{c':List Value}(h':cV ρ w l' c') :∀ {l:List AV} {c:List Value} (_:cV ρ w l c),cV ρ w (l++l') (c++c')
  | _,_,.nil=>h'
  | _,_,.cons a b l c h t=>.cons _ _ _ _ h (cV.append h' t)
theorem cV.replicate{ρ:ac}{w:World}(n:Nat)(u:Value) :cV ρ w (List.replicate n .any) (List.replicate n u):=by
  induction n with
  | zero=>exact .nil
  | succ n ih=>exact .cons _ _ _ _ (.any u) ih
def rZ(x y:Nat) :Nat:=(FloatKind.f64.format.add x y).getD J2
def ais(x y:Nat) :Nat:=(FloatKind.f64.format.sub x y).getD J2
def lT(x y:Nat) :Nat:=(FloatKind.f64.format.mul x y).getD J2
def fdiv(x y:Nat) :Nat:=(FloatKind.f64.format.div x y).getD J2
def adw(x:Nat) :Nat:=(FloatKind.f64.format.sqrt x).getD J2
def adx(x:Nat) :Nat:=x ^^^ 2^63
def nw(x y:Nat) :Option Ordering:=FloatKind.f64.format.order x y
def feq(x y:Nat) :Bool:=nw x y==some .eq
def flt(x y:Nat) :Bool:=nw x y==some .lt
def fle(x y:Nat) :Bool:=nw x y==some .lt||nw x y==some .eq
def fgt(x y:Nat) :Bool:=nw x y==some .gt
def fge(x y:Nat) :Bool:=nw x y==some .gt||nw x y==some .eq
def fne(x y:Nat) :Bool:=nw x y != some .eq
def wE(x y:Nat) :Nat:=match nw x y with
  | none=>J2
  | some .lt=>y
  | some .gt=>x
  | some .eq=>if (FloatKind.f64.decode x).neg then y else x
def uw(x y:Nat) :Nat:=match nw x y with
  | none=>J2
  | some .lt=>x
  | some .gt=>y
  | some .eq=>if (FloatKind.f64.decode x).neg then x else y
theorem FR.refl(ex:Bool)(x:Nat) :FR ex x x:=.inl rfl
theorem tn{x:Nat}(h:isNaN x=true) :∃ s t,FloatKind.f64.format.read x=.nan s t:=by
  unfold isNaN FloatKind.decode Ieee.Datum.isNaN at h
  split at h
  · rename_i s t e;exact ⟨s,t,e⟩
  · cases h
theorem xq:isNaN J2=true:=by decide +kernel
theorem ab7(s:Bool)(t:Nat)(d:Ieee.Datum) :(Ieee.Datum.nan s t).sum d=none:=by cases d<;>rfl
theorem ab8(s:Bool)(t:Nat)(d:Ieee.Datum) :d.sum (.nan s t)=none:=by cases d<;>rfl
theorem Og(s:Bool)(t:Nat)(d:Ieee.Datum) :(Ieee.Datum.nan s t).product d=none:=by cases d<;>rfl
theorem Oh(s:Bool)(t:Nat)(d:Ieee.Datum) :d.product (.nan s t)=none:=by cases d<;>rfl
theorem La(k:Nat)(s:Bool)(t:Nat)(d:Ieee.Datum) :(Ieee.Datum.nan s t).quotient k d=none:=by cases d<;>rfl
theorem Lb(k:Nat)(s:Bool)(t:Nat)(d:Ieee.Datum) :d.quotient k (.nan s t)=none:=by cases d<;>rfl
theorem TT(s:Bool)(t:Nat)(d:Ieee.Datum) :(Ieee.Datum.nan s t).order d=none:=by cases d<;>rfl
theorem TU(s:Bool)(t:Nat)(d:Ieee.Datum) :d.order (.nan s t)=none:=by cases d<;>rfl
theorem KO(op:BinOp){x y:Nat}(h:isNaN x=true∨isNaN y=true) :floatBits op .f64 x y=none:=by
  have hn:∀ {z:Nat} {P:Prop},isNaN z=true→(∀ s t,FloatKind.f64.format.read z=.nan s t→P)→P:=fun h k=>let ⟨s,t,e⟩:=tn h;k s t e
  unfold floatBits
  rcases h with h | h<;>obtain ⟨s,t,e⟩:=tn h<;>cases op <;>
    simp [Ieee.Format.add,Ieee.Format.sub,Ieee.Format.mul,Ieee.Format.div,e,ab7,ab8,Og,Oh,La,Lb,Ieee.Datum.opposite]
def ag0(op:BinOp)(x y:Nat) :Nat:=(floatBits op .f64 x y).getD J2
theorem ag1{op:BinOp}{e1 e2:Bool}{x y x' y':Nat}(h1:FR e1 x x')(h2:FR e2 y y') :floatBits op .f64 x' y'=floatBits op .f64 x y:=by
  rcases h1 with rfl | ⟨_,n1,n1'⟩
  · rcases h2 with rfl | ⟨_,n2,n2'⟩
    · rfl
    · rw [KO op (.inr n2),KO op (.inr n2')]
  · rw [KO op (.inl n1),KO op (.inl n1')]
theorem B6{x y:Nat}(h:isNaN x=true∨isNaN y=true) :nw x y=none:=by
  unfold nw Ieee.Format.order
  rcases h with h | h<;>obtain ⟨s,t,e⟩:=tn h<;>simp [e,TT,TU]
theorem XM{e1 e2:Bool}{x y x' y':Nat}(h1:FR e1 x x')(h2:FR e2 y y') :nw x' y'=nw x y:=by
  rcases h1 with rfl | ⟨_,n1,n1'⟩
  · rcases h2 with rfl | ⟨_,n2,n2'⟩
    · rfl
    · rw [B6 (.inr n2),B6 (.inr n2')]
  · rw [B6 (.inl n1),B6 (.inl n1')]
theorem kf(x:Nat) :isNaN x=decide (9218868437227405312<x%9223372036854775808):=by
  unfold isNaN FloatKind.decode Ieee.Format.read Ieee.Datum.isNaN
  have h1:Ieee.Format.signWeight FloatKind.f64.format=9223372036854775808:=by decide
  have h2:Ieee.Format.binade FloatKind.f64.format=4503599627370496:=by decide
  have h3:Ieee.Format.infRung FloatKind.f64.format=9218868437227405312:=by decide
  simp only [h1,h2,h3]
  generalize x%9223372036854775808=r
  by_cases c1:r<4503599627370496
  · simp [c1];omega
  · by_cases c2:r<9218868437227405312
    · simp [c1,c2];omega
    · by_cases c3:r=9218868437227405312
      · simp [c3]
      · simp [c1,c2,c3];omega
theorem aaQ(x y t:Nat) :isNaN ((Question.nanBits .f64 x y).cut t)=true:=by
  rw [kf]
  have e:(Question.nanBits .f64 x y).cut t=t%2*2^63+0x7ff0000000000000+1+t/2%(2^52-1):=rfl
  rw [e]
  have hb:t/2%(2^52-1)<2^52-1:=Nat.mod_lt _ (by decide)
  generalize t/2%(2^52-1)=r at hb
  apply decide_eq_true
  rcases Nat.mod_two_eq_zero_or_one t with h | h<;>rw [h]<;>omega
theorem uy{P:Program}{op:BinOp}(ho:op=.add∨op=.sub∨op=.mul∨op=.quo){e1 e2:Bool}{x y x' y':Nat}(h1:FR e1 x x')(h2:FR e2 y y')(w:World) :
    ∃ u k,(Op.floatArith op .f64 x' y').run P w=.ok (.float .f64 u) { w with drawn:=k }∧FR false (ag0 op x y) u:=by
  have e:=ag1 (op:=op) h1 h2
  have key:∀ r,floatBits op .f64 x' y'=r→(Op.floatArith op .f64 x' y')=(match r with | some r=>pure (.float .f64 r) | none=>do pure (.float .f64 (←choose (.nanBits .f64 x' y')))):=by
    intro r hr
    subst hr
    rcases ho with rfl | rfl | rfl | rfl<;>rfl
  cases hr:floatBits op .f64 x' y' with
  | some r =>
    rw [key _ hr]
    refine ⟨r,w.drawn,rfl,.inl ?_⟩
    rw [e] at hr;simp [ag0,hr]
  | none =>
    rw [key _ hr]
    refine ⟨_,w.drawn+1,rfl,.inr ⟨rfl,?_,aaQ x' y' _⟩⟩
    rw [e] at hr;simp [ag0,hr,xq]
theorem PZ{e1 e2:Bool}{x y x' y':Nat}{o:Ordering}(h1:FR e1 x x')(h2:FR e2 y y')(h:nw x y=some o) :x'=x∧y'=y:=by
  constructor
  · rcases h1 with q | ⟨_,n,_⟩
    · exact q
    · rw [B6 (.inl n)] at h;cases h
  · rcases h2 with q | ⟨_,n,_⟩
    · exact q
    · rw [B6 (.inr n)] at h;cases h
theorem aaR(b:Bool)(x y t:Nat) :isNaN ((Question.nanMinMax .f64 b x y).cut t)=true:=by
  rw [kf]
  have e:(Question.nanMinMax .f64 b x y).cut t=t%2*2^63+0x7ff0000000000000+1+t/2%(2^52-1):=rfl
  rw [e]
  have hb:t/2%(2^52-1)<2^52-1:=Nat.mod_lt _ (by decide)
  generalize t/2%(2^52-1)=r at hb
  apply decide_eq_true
  rcases Nat.mod_two_eq_zero_or_one t with h | h<;>rw [h]<;>omega
theorem ab9{P:Program}{e1 e2:Bool}{x y x' y':Nat}(h1:FR e1 x x')(h2:FR e2 y y')(w:World) :
    ∃ u k,(Builtin.max2 (.float .f64 x') (.float .f64 y')).run P w=.ok (.float .f64 u) { w with drawn:=k }∧FR false (wE x y) u:=by
  have e:=XM h1 h2
  have key:∀ r,nw x' y'=r→Builtin.max2 (.float .f64 x') (.float .f64 y')=(match r with
    | none=>do pure (.float .f64 (←choose (.nanMinMax .f64 true x' y')))
    | some .lt=>pure (.float .f64 y')
    | some .gt=>pure (.float .f64 x')
    | some .eq=>pure (.float .f64 (if (FloatKind.f64.decode x').neg then y' else x'))):=by
    intro r hr
    subst hr
    rfl
  cases hr:nw x' y' with
  | none =>
    rw [key _ hr]
    refine ⟨_,w.drawn+1,rfl,.inr ⟨rfl,?_,aaR true x' y' _⟩⟩
    rw [e] at hr;simp [wE,hr,xq]
  | some o =>
    have hr':=hr
    rw [e] at hr
    obtain ⟨rfl,rfl⟩:=PZ h1 h2 hr
    rw [key _ hr']
    cases o<;>exact ⟨_,w.drawn,rfl,.inl (by simp [wE,hr])⟩
theorem aca{P:Program}{e1 e2:Bool}{x y x' y':Nat}(h1:FR e1 x x')(h2:FR e2 y y')(w:World) :
    ∃ u k,(Builtin.min2 (.float .f64 x') (.float .f64 y')).run P w=.ok (.float .f64 u) { w with drawn:=k }∧FR false (uw x y) u:=by
  have e:=XM h1 h2
  have key:∀ r,nw x' y'=r→Builtin.min2 (.float .f64 x') (.float .f64 y')=(match r with
    | none=>do pure (.float .f64 (←choose (.nanMinMax .f64 false x' y')))
    | some .lt=>pure (.float .f64 x')
    | some .gt=>pure (.float .f64 y')
    | some .eq=>pure (.float .f64 (if (FloatKind.f64.decode x').neg then x' else y'))):=by
    intro r hr
    subst hr
    rfl
  cases hr:nw x' y' with
  | none =>
    rw [key _ hr]
    refine ⟨_,w.drawn+1,rfl,.inr ⟨rfl,?_,aaR false x' y' _⟩⟩
    rw [e] at hr;simp [uw,hr,xq]
  | some o =>
    have hr':=hr
    rw [e] at hr
    obtain ⟨rfl,rfl⟩:=PZ h1 h2 hr
    rw [key _ hr']
    cases o<;>exact ⟨_,w.drawn,rfl,.inl (by simp [uw,hr])⟩
def cI(k:IntKind)(e:Int) :Bool:=decide (k.min≤e)&&decide (e≤k.max)
def fO(i:Int)(n:Nat) :Bool:=decide (0≤i)&&decide (i<(n:Int))
def xr(i:Int)(n:Nat) :Bool:=decide (0≤i)&&decide (i≤(n:Int))
def fc:Nat→Nat→Nat
  | 0,k=>k
  | i+1,k=>i+1+k
def Lc(l:Nat) :Nat→Nat
  | 1=>l
  | s=>l*s
@[simp] theorem iM (i k:Nat):fc i k=i+k:=by cases i<;>simp [fc]
@[simp] theorem xt (l s:Nat):Lc l s=l*s:=by unfold Lc;split<;>simp_all
def G9(w es:Nat) :Option Nat:=bif Nat.beq es w then some 1 else bif Nat.beq w 1 then some es else none
theorem B7{w es s:Nat}(h:G9 w es=some s) :s*w=es:=by
  unfold G9 at h
  cases e1:Nat.beq es w with
  | true=>simp only [e1,cond_true] at h;cases h;have:=Nat.eq_of_beq_eq_true e1;omega
  | false =>
    simp only [e1,cond_false] at h
    cases e2:Nat.beq w 1 with
    | true=>simp only [e2,cond_true] at h;cases h;have:=Nat.eq_of_beq_eq_true e2;subst this;omega
    | false=>simp only [e2,cond_false] at h;cases h
def fH:Value→AV
  | .bool b=>.bool true b
  | .int k n=>.int k n
  | .float .f64 b=>.flt true b
  | .string s=>.str s
  | .pointer none=>.nptr
  | .slice none 0 0=>.nsl
  | .nilFunc=>.nfn
  | .nilIface=>.niface
  | _=>.any
theorem pZ(ρ:ac)(w:World)(v:Value) :VR ρ w (fH v) v:=by
  unfold fH
  split<;>first | exact .bool _ _ | exact .int _ _ | exact .flt _ _ _ (.inl rfl) | exact .str _ | exact .nptr | exact .nsl | exact .nfn | exact .niface | exact .any _
def aaS:List (Nat×AV)→Nat→AV
  | [],_=>.any
  | (k,d)::l,g=>match Nat.beq k g with
    | true=>d
    | false=>aaS l g
theorem TV{ρ:ac}{w:World}{g:Nat} :∀ {l:List (Nat×AV)},(∀ x∈l,VR ρ w x.2 (.pointer (some ⟨x.1,0,none⟩)))→VR ρ w (aaS l g) (.pointer (some ⟨g,0,none⟩))
  | [],_=>.any _
  | (k,d)::l,h=>by
    simp only [aaS]
    split
    · rename_i e
      have:=h (k,d) (by simp)
      rw [←Nat.eq_of_beq_eq_true e];exact this
    · exact TV fun x hx=>h x (by simp [hx])
def acb:List AV→Nat→AV:=fun l=>List.rec (motive:=fun _=>Nat→AV) (fun _=>.any) (fun v _ ih n=>Nat.rec (motive:=fun _=>AV) v (fun m _=>ih m) n) l
def afD:List AV→Nat→Option AV:=fun l=>List.rec (motive:=fun _=>Nat→Option AV) (fun _=>none) (fun v _ ih n=>Nat.rec (motive:=fun _=>Option AV) (some v) (fun m _=>ih m) n) l
def acd:List AV→Nat→AV→List AV:=fun l n x=>List.rec (motive:=fun _=>Nat→List AV) (fun _=>[]) (fun v t ih n=>Nat.rec (motive:=fun _=>List AV) (x::t) (fun m _=>v::ih m) n) l n
theorem Rc:∀ (l:List AV) (n:Nat),acb l n=(l[n]?).getD .any
  | [],n=>by simp [acb]
  | v::l,0=>rfl
  | v::l,n+1=>by show acb l n=_;rw [Rc l n];simp
theorem Rd:∀ (l:List AV) (n:Nat),afD l n=l[n]?
  | [],n=>by simp [afD]
  | v::l,0=>rfl
  | v::l,n+1=>by show afD l n=_;rw [Rd l n];simp
theorem B8:∀ (l:List AV) (n:Nat) (x:AV),acd l n x=l.set n x
  | [],n,x=>by simp [acd]
  | v::l,0,x=>rfl
  | v::l,n+1,x=>by have:=B8 l n x;show v::acd l n x=_;rw [this];rfl
def XN(tmps:List AV) :Operand→AV
  | .tmp t=>acb tmps t
  | .const v=>fH v
  | .func f=>.fn (.func f) [] []
  | .global g=>aaS Rom.tab g
theorem AH{ρ:ac}{w:World}{tmps:List AV}{a:Act}(hr:∀ x∈Rom.tab,VR ρ w x.2 (.pointer (some ⟨x.1,0,none⟩)))(h:cV ρ w tmps a.tmps.toList)(x:Operand) :VR ρ w (XN tmps x) (a.eval x):=by
  cases x with
  | tmp t =>
    simp only [XN,Rc,Act.eval]
    cases e:tmps[t]? with
    | none=>exact .any _
    | some v =>
      obtain ⟨u,h1,h2⟩:=h.get t v e
      have:a.tmps.getD t undef=u:=by
        rw [Array.getD_eq_getD_getElem?];rw [Array.getElem?_toList] at h1;rw [h1];rfl
      rw [this];exact h2
  | const v=>exact pZ ρ w v
  | func f=>exact .fn _ _ _ _ _ .nil .nil
  | global g=>exact TV hr
def Dl(k:IntKind)(e:Int) :AV×List Bool :=
  match k with
  | .i64=>(.int .i64 e,[cI .i64 e])
  | k=>(.int k (k.wrap e),[])
def bE(op:BinOp)(k:IntKind)(x y:Int) :Int :=
  k.wrap ((match op with
    | .and=>BitVec.ofInt k.bits x &&& BitVec.ofInt k.bits y
    | .or=>BitVec.ofInt k.bits x ||| BitVec.ofInt k.bits y
    | .xor=>BitVec.ofInt k.bits x ^^^ BitVec.ofInt k.bits y
    | _=>BitVec.ofInt k.bits x &&& ~~~ BitVec.ofInt k.bits y).toNat)
def cJ(a b:IntKind) :Bool:=decide (a=b)
def ahM(op:BinOp)(x y:Int) :Option Bool :=
  match op with
  | .eql=>some (x==y)
  | .neq=>some (x != y)
  | .lss=>some (decide (x<y))
  | .leq=>some (decide (x≤y))
  | .gtr=>some (decide (x>y))
  | .geq=>some (decide (x≥y))
  | _=>none
def XO(op:BinOp)(k:IntKind)(x y:Int) :Option (AV×List Bool) :=
  match op with
  | .add=>some (Dl k (x+y))
  | .sub=>some (Dl k (x-y))
  | .mul=>some (Dl k (x*y))
  | .quo=>some ((Dl k (x.tdiv y)).1,(y != 0)::(Dl k (x.tdiv y)).2)
  | .rem=>some (.int k (x.tmod y),[y != 0])
  | .and | .or | .xor | .andNot=>some (.int k (bE op k x y),[])
  | .shl | .shr=>none
  | op=>(ahM op x y).map fun b=>(.bool false b,[])
def XP(op:BinOp)(x y:Nat) :Option AV :=
  match op with
  | .add=>some (.flt false (rZ x y))
  | .sub=>some (.flt false (ais x y))
  | .mul=>some (.flt false (lT x y))
  | .quo=>some (.flt false (fdiv x y))
  | .eql=>some (.bool false (feq x y))
  | .neq=>some (.bool false (fne x y))
  | .lss=>some (.bool false (flt x y))
  | .leq=>some (.bool false (fle x y))
  | .gtr=>some (.bool false (fgt x y))
  | .geq=>some (.bool false (fge x y))
  | _=>none
def XQ(op:BinOp)(x y:ByteArray) :Option (AV×List Bool) :=
  match op with
  | .add=>some (.str (x++y),[decide (x.size+y.size≤9223372036854775807)])
  | .eql=>some (.bool false (x.toList==y.toList),[])
  | .neq=>some (.bool false (!(x.toList==y.toList)),[])
  | .lss=>some (.bool false (Op.bytesLess x.toList y.toList),[])
  | .leq=>some (.bool false (Op.bytesLess x.toList y.toList||x.toList==y.toList),[])
  | .gtr=>some (.bool false (!(Op.bytesLess x.toList y.toList||x.toList==y.toList)),[])
  | .geq=>some (.bool false (!Op.bytesLess x.toList y.toList),[])
  | _=>none
def Ld:AV→Option (Bool×List Bool)
  | .nsl=>some (true,[])
  | .imm _ _ _ _ _ len=>some (false,[Nat.blt 0 len])
  | .sl _ _ _ _ len _=>some (false,[Nat.blt 0 len])
  | .zsl b=>some (b,[])
  | _=>none
def Fk:AV→Option (Bool×List Bool)
  | .nptr=>some (true,[])
  | .ptr .. | .iptr ..=>some (false,[])
  | _=>none
def Le:AV→Option (Bool×List Bool)
  | .nfn=>some (true,[])
  | .fn ..=>some (false,[])
  | _=>none
def AI(op:BinOp)(r:Option (Bool×List Bool)) :Option (AV×List Bool) :=
  match op,r with
  | .eql,some (b,o)=>some (.bool true b,o)
  | .neq,some (b,o)=>some (.bool true (!b),o)
  | _,_=>none
def Re(wr:Bool)(op:BinOp)(k:IntKind)(x y:Int) :Option (AV×List Bool) :=
  match wr,k,op with
  | true,.i64,.add=>some (.int .i64 (IntKind.i64.wrap (x+y)),[])
  | true,.i64,.sub=>some (.int .i64 (IntKind.i64.wrap (x-y)),[])
  | true,.i64,.mul=>some (.int .i64 (IntKind.i64.wrap (x*y)),[])
  | _,k,op=>XO op k x y
def Ha(P:Program)(t:TypeId) :Bool:=match P.underlying t with | some (.int _)=>true | _=>false
def AJ(P:Program)(t:TypeId) :Bool :=
  match P.underlying t with
  | some (.struct fs)=>match fs.toList with
    | [f, g] => (Ha P f.type && Ha P g.type) && ((Nat.beq f.offset 0 && Nat.beq g.offset 1) && ((f.name != "_" && g.name != "_") && (!P.stoodInHeld t && !P.eqGuardType P.depth t)))
    | _=>false
  | _=>false
def aaT:AV→AV→Option Bool
  | .agg [.int k a,.int q b],.agg [.int k' a',.int q' b']=>bif cJ k k'&&cJ q q' then some (a==a'&&b==b') else none
  | _,_=>none
def adz(wr:Bool)(P:Program)(op:BinOp)(t:TypeId)(x y:AV) :Option (AV×List Bool) :=
  match op,x,y with
  | .shl,.int k a,.int _ b=>some (.int k (k.wrap (a*2^(min b.toNat k.bits))),[decide (0≤b)])
  | .shr,.int k a,.int _ b=>some (.int k (a.fdiv (2^(min b.toNat k.bits))),[decide (0≤b)])
  | op,.int k a,.int k' b=>bif cJ k k' then Re wr op k a b else none
  | op,.flt _ a,.flt _ b=>(XP op a b).map fun v=>(v,[])
  | op,.str a,.str b=>XQ op a b
  | .eql,.bool _ a,.bool _ b=>match P.underlying t with | some .bool=>some (.bool false (a==b),[]) | _=>none
  | .neq,.bool _ a,.bool _ b=>match P.underlying t with | some .bool=>some (.bool false (!(a==b)),[]) | _=>none
  | .eql,.agg xs,.agg ys=>bif AJ P t then (aaT (.agg xs) (.agg ys)).map fun b=>(.bool false b,[]) else none
  | .neq,.agg xs,.agg ys=>bif AJ P t then (aaT (.agg xs) (.agg ys)).map fun b=>(.bool false (!b),[]) else none
  | op,a,.nsl=>match P.underlying t with | some (.slice _)=>AI op (Ld a) | _=>none
  | op,a,.nptr=>match P.underlying t with | some (.pointer _)=>AI op (Fk a) | _=>none
  | op,a,.nfn=>match P.underlying t with | some (.func ..)=>AI op (Le a) | _=>none
  | op,.ptr b w i j,.ptr b' w' i' j'=>match P.underlying t with
    | some (.pointer e)=>match P.info? e with
      | some inf=>bif Nat.beq b b'&&Nat.blt 0 inf.size then AI op (some (Nat.beq (i*w+j) (i'*w'+j'),[])) else none
      | none=>none
    | _=>none
  | _,_,_=>none
def jl(P:Program)(ρ:ac)(w:World)(s:Sem Value)(v:AV) :Prop:=∃ u k,s.run P w=.ok u { w with drawn:=k }∧VR ρ w v u
theorem jl.plain{P:Program}{ρ:ac}{w:World}{s:Sem Value}{v:AV}{u:Value}(h:s.run P w=.ok u w)(hv:VR ρ w v u) :jl P ρ w s v:=⟨u,w.drawn,h,hv⟩
theorem jl.ret{P:Program}{ρ:ac}{w:World}{v:AV}{u:Value}(hv:VR ρ w v u) :jl P ρ w (Pure.pure u) v:=.plain rfl hv
theorem adA{k:IntKind}{e:Int}(h:cI k e=true) :k.wrap e=e:=by
  simp only [cI,Bool.and_eq_true,decide_eq_true_eq] at h
  cases k<;>simp [IntKind.min,IntKind.max,IntKind.signed,IntKind.bits] at h<;>simp [IntKind.wrap,IntKind.signed,IntKind.bits]<;>(try split)<;>omega
def aB:List Bool→Prop
  | []=>True
  | b::l=>b=true∧aB l
theorem Lf(ρ:ac)(w:World)(k:IntKind)(e:Int)(h:aB (Dl k e).2) :VR ρ w (Dl k e).1 (.int k (k.wrap e)):=by
  cases k<;>simp only [Dl] at h ⊢ <;> first | exact .int _ _ | (rw [adA h.1];exact .int _ _)
theorem Rf{P:Program}{ρ:ac}{w:World}{op:BinOp}{k:IntKind}{x y:Int}{v:AV}{obs:List Bool}(h:XO op k x y=some (v,obs))(ho:aB obs)(t:TypeId) :
    jl P ρ w (binOp op t (.int k x) (.int k y)) v:=by
  have nz:∀ {z:Int},(z != 0)=true→¬ z=0:=fun h e=>by subst e;simp at h
  have ar:∀ e,Dl k e=(v,obs)→VR ρ w v (.int k (k.wrap e)):=by
    intro e h
    have h1:=congrArg Prod.fst h
    have h2:=congrArg Prod.snd h
    simp only at h1 h2
    rw [←h1];exact Lf ρ w k e (by rw [h2];exact ho)
  cases op<;>simp only [XO,ahM,Option.map,Option.some.injEq,reduceCtorEq] at h
  case add=>simp only [binOp,Op.intArith,ne_eq,not_true_eq_false,if_false];exact .ret (ar _ h)
  case sub=>simp only [binOp,Op.intArith,ne_eq,not_true_eq_false,if_false];exact .ret (ar _ h)
  case mul=>simp only [binOp,Op.intArith,ne_eq,not_true_eq_false,if_false];exact .ret (ar _ h)
  case quo =>
    simp only [Prod.mk.injEq] at h;obtain ⟨rfl,rfl⟩:=h
    have:=nz ho.1
    simp only [binOp,Op.intDiv,this,if_false,ne_eq,not_true_eq_false]
    exact .ret (Lf ρ w k _ ho.2)
  case rem =>
    simp only [Prod.mk.injEq] at h;obtain ⟨rfl,rfl⟩:=h
    have:=nz ho.1
    simp only [binOp,Op.intDiv,this,if_false,ne_eq,not_true_eq_false]
    exact .ret (.int _ _)
  all_goals (simp only [Prod.mk.injEq] at h;obtain ⟨rfl,rfl⟩:=h;simp only [binOp,Op.intBits,Op.intCmp,ne_eq,not_true_eq_false,if_false];first | exact .ret (.int _ _) | exact .ret (.bool _ _))
theorem Rg{P:Program}{ρ:ac}{w:World}{op:BinOp}{e1 e2:Bool}{x y x' y':Nat}{v:AV}(h1:FR e1 x x')(h2:FR e2 y y')(h:XP op x y=some v)(t:TypeId) :
    jl P ρ w (binOp op t (.float .f64 x') (.float .f64 y')) v:=by
  have eo:=XM h1 h2
  unfold nw at eo
  cases op<;>simp only [XP,Option.some.injEq,reduceCtorEq] at h<;>subst h
  case add=>obtain ⟨u,k,r,hv⟩:=uy (P:=P) (op:=.add) (by simp) h1 h2 w;exact ⟨_,k,by simpa [binOp] using r,.flt _ _ _ hv⟩
  case sub=>obtain ⟨u,k,r,hv⟩:=uy (P:=P) (op:=.sub) (by simp) h1 h2 w;exact ⟨_,k,by simpa [binOp] using r,.flt _ _ _ hv⟩
  case mul=>obtain ⟨u,k,r,hv⟩:=uy (P:=P) (op:=.mul) (by simp) h1 h2 w;exact ⟨_,k,by simpa [binOp] using r,.flt _ _ _ hv⟩
  case quo=>obtain ⟨u,k,r,hv⟩:=uy (P:=P) (op:=.quo) (by simp) h1 h2 w;exact ⟨_,k,by simpa [binOp] using r,.flt _ _ _ hv⟩
  all_goals
    simp only [binOp,Op.floatCmp,ne_eq,not_true_eq_false,if_false]
    refine .ret ?_
    simp only [feq,fne,flt,fle,fgt,fge,nw,←eo]
    exact .bool _ _
theorem Rh{P:Program}{ρ:ac}{w:World}{op:BinOp}{x y:ByteArray}{v:AV}{obs:List Bool}(h:XQ op x y=some (v,obs))(ho:aB obs)(t:TypeId) :
    jl P ρ w (binOp op t (.string x) (.string y)) v:=by
  cases op<;>simp only [XQ,Option.some.injEq,Prod.mk.injEq,reduceCtorEq] at h<;>obtain ⟨rfl,rfl⟩:=h
  case add =>
    have h1:x.size+y.size≤9223372036854775807:=of_decide_eq_true ho.1
    have h2 : ¬ ((x.size+y.size:Nat):Int)>IntKind.i64.max:=by
      have:IntKind.i64.max=9223372036854775807:=by decide
      rw [this];omega
    simp only [binOp,Op.stringOp,h2,if_false]
    exact .ret (.str _)
  all_goals (simp only [binOp,Op.stringOp];exact .ret (.bool _ _))
theorem wF{P:Program}{t:TypeId}(hu:P.underlying t=some .bool)(d:Nat)(a b:Bool)(w:World) :(Op.equalIn (d+1) t (.bool a) (.bool b)).run P w=.ok (a==b) w:=by
  unfold Op.equalIn;simp [run_underlying hu]
theorem TW{P:Program}{t:TypeId}(hu:P.underlying t=some .bool)(a b:Bool)(w:World) :(binOp .eql t (.bool a) (.bool b)).run P w=.ok (.bool (a==b)) w:=by
  have h:=wF hu 9999 a b w
  show (do pure (Value.bool (←Op.equalIn 10000 t (.bool a) (.bool b))):Sem Value).run P w=_
  rw [Sem.run_bind,h];rfl
theorem TX{P:Program}{t:TypeId}(hu:P.underlying t=some .bool)(a b:Bool)(w:World) :(binOp .neq t (.bool a) (.bool b)).run P w=.ok (.bool (!(a==b))) w:=by
  have h:=wF hu 9999 a b w
  show (do pure (Value.bool (!(←Op.equalIn 10000 t (.bool a) (.bool b)))):Sem Value).run P w=_
  rw [Sem.run_bind,h];rfl
theorem aaU{P:Program}{t:TypeId}{x y:Value}{b:Bool}{w:World}(h:∀ d,(Op.equalIn (d+1) t x y).run P w=.ok b w) :
    (do pure (Value.bool (←Op.equal t x y)):Sem Value).run P w=.ok (.bool b) w∧(do pure (Value.bool (!(←Op.equal t x y))):Sem Value).run P w=.ok (.bool (!b)) w:=by
  have h':(Op.equal t x y).run P w=.ok b w:=h 9999
  constructor<;>(rw [Sem.run_bind,h'];rfl)
theorem oo{P:Program}{ρ:ac}{w:World}{op:BinOp}{t:TypeId}{x y:Value}{v:AV}{obs:List Bool}{r:Option (Bool×List Bool)}(h:AI op r=some (v,obs)) 
    (e1:binOp .eql t x y=(do pure (Value.bool (←Op.equal t x y)):Sem Value)) (e2:binOp .neq t x y=(do pure (Value.bool (!(←Op.equal t x y))):Sem Value))
    (hr:∀ b o,r=some (b,o)→o=obs→∀ d,(Op.equalIn (d+1) t x y).run P w=.ok b w):jl P ρ w (binOp op t x y) v:=by
  unfold AI at h
  split at h
  · rename_i b o
    simp only [Option.some.injEq,Prod.mk.injEq] at h;obtain ⟨rfl,rfl⟩:=h
    rw [e1];exact .plain (aaU (hr b o rfl rfl)).1 (.bool _ _)
  · rename_i b o
    simp only [Option.some.injEq,Prod.mk.injEq] at h;obtain ⟨rfl,rfl⟩:=h
    rw [e2];exact .plain (aaU (hr b o rfl rfl)).2 (.bool _ _)
  · cases h
theorem ace{P:Program}{ρ:ac}{w:World}{t e:TypeId}(hu:P.underlying t=some (.slice e)){x:AV}{x':Value}(hx:VR ρ w x x'){b:Bool}{o:List Bool}(h:Ld x=some (b,o))(ho:aB o)(d:Nat) :
    (Op.equalIn (d+1) t x' (.slice none 0 0)).run P w=.ok b w:=by
  unfold Ld at h
  split at h<;>simp only [Option.some.injEq,Prod.mk.injEq,reduceCtorEq] at h<;>obtain ⟨rfl,rfl⟩:=h
  · cases hx
    unfold Op.equalIn;simp [run_underlying hu]
  · have h0:=ho.1
    cases hx with
    | imm=>unfold Op.equalIn;simp [run_underlying hu]
    | immEnd=>simp at h0
  · have h0:=ho.1
    cases hx with
    | sl=>unfold Op.equalIn;simp [run_underlying hu]
    | slEnd=>simp at h0
  · cases hx with | zsl a c=>cases a<;>(unfold Op.equalIn;simp [run_underlying hu])
theorem XR{P:Program}{ρ:ac}{w:World}{t e:TypeId}(hu:P.underlying t=some (.pointer e)){x:AV}{x':Value}(hx:VR ρ w x x'){b:Bool}{o:List Bool}(h:Fk x=some (b,o))(d:Nat) :
    (Op.equalIn (d+1) t x' (.pointer none)).run P w=.ok b w:=by
  unfold Fk at h
  split at h<;>simp only [Option.some.injEq,Prod.mk.injEq,reduceCtorEq] at h<;>obtain ⟨rfl,rfl⟩:=h
  all_goals (cases hx;unfold Op.equalIn;simp [run_underlying hu])
theorem Fl{ρ:ac}{w:World}{x:AV}{x':Value}(hx:VR ρ w x x'){b:Bool}{o:List Bool}(h:Ld x=some (b,o)) :∃ a l c,x'=.slice a l c:=by
  unfold Ld at h
  split at h<;>first | (cases hx<;>exact ⟨_,_,_,rfl⟩) | cases h
theorem Dm{ρ:ac}{w:World}{x:AV}{x':Value}(hx:VR ρ w x x'){b:Bool}{o:List Bool}(h:Fk x=some (b,o)) :∃ a,x'=.pointer a:=by
  unfold Fk at h
  split at h<;>first | (cases hx<;>exact ⟨_,rfl⟩) | cases h
theorem P3{P:Program}{ρ:ac}{w:World}{t:TypeId}{ps rs:Array TypeId}{vd:Bool}(hu:P.underlying t=some (.func ps rs vd)){x:AV}{x':Value}(hx:VR ρ w x x'){b:Bool}{o:List Bool}(h:Le x=some (b,o))(d:Nat) :
    (Op.equalIn (d+1) t x' .nilFunc).run P w=.ok b w:=by
  unfold Le at h
  split at h<;>simp only [Option.some.injEq,Prod.mk.injEq,reduceCtorEq] at h<;>obtain ⟨rfl,rfl⟩:=h
  all_goals (cases hx;unfold Op.equalIn;simp [run_underlying hu])
theorem Fm{ρ:ac}{w:World}{x:AV}{x':Value}(hx:VR ρ w x x'){b:Bool}{o:List Bool}(h:Le x=some (b,o)) :(∃ f c d,x'=.func f c d)∨x'=.nilFunc:=by
  unfold Le at h
  split at h<;>first | (cases hx<;>first | exact .inr rfl | exact .inl ⟨_,_,_,rfl⟩) | cases h
theorem nV{op:BinOp}{r:Option (Bool×List Bool)}{v:AV}{obs:List Bool}(h:AI op r=some (v,obs)) :∃ b,r=some (b,obs)∧(op=.eql∨op=.neq):=by
  unfold AI at h
  split at h<;>simp only [Option.some.injEq,Prod.mk.injEq,reduceCtorEq] at h<;>obtain ⟨_,rfl⟩:=h
  · exact ⟨_,rfl,.inl rfl⟩
  · exact ⟨_,rfl,.inr rfl⟩
theorem Oi{P:Program}{ρ:ac}{w:World}{wr:Bool}{op:BinOp}{k:IntKind}{x y:Int}{v:AV}{obs:List Bool}(h:Re wr op k x y=some (v,obs))(ho:aB obs)(t:TypeId) :
    jl P ρ w (binOp op t (.int k x) (.int k y)) v:=by
  unfold Re at h
  split at h
  · simp only [Option.some.injEq,Prod.mk.injEq] at h;obtain ⟨rfl,rfl⟩:=h
    simp only [binOp,Op.intArith,ne_eq,not_true_eq_false,if_false];exact .ret (.int _ _)
  · simp only [Option.some.injEq,Prod.mk.injEq] at h;obtain ⟨rfl,rfl⟩:=h
    simp only [binOp,Op.intArith,ne_eq,not_true_eq_false,if_false];exact .ret (.int _ _)
  · simp only [Option.some.injEq,Prod.mk.injEq] at h;obtain ⟨rfl,rfl⟩:=h
    simp only [binOp,Op.intArith,ne_eq,not_true_eq_false,if_false];exact .ret (.int _ _)
  · exact Rf h ho t
theorem I3{P:Program}{t:TypeId}(h:AJ P t=true) :P.eqGuardType P.depth t=false:=by
  unfold AJ at h
  split at h
  case h_2=>cases h
  split at h
  case h_2=>cases h
  simp only [Bool.and_eq_true,Bool.not_eq_true'] at h
  exact h.2.2.2.2
theorem sI{P:Program}{t:TypeId}(h:Ha P t=true){xs:Array Value}{i:Nat}{v:Value}{w:World}(hx:xs[i]? = some v) :(part t xs i).run P w=.ok v w:=by
  unfold Ha at h
  split at h
  · rename_i q hu
    simp [part,isAgg,run_underlying hu,hx]
  · cases h
theorem Fo{P:Program}{t:TypeId}(h:Ha P t=true){k:IntKind}{a b:Int}{w:World}(d:Nat) :(Op.equalIn (d+1) t (.int k a) (.int k b)).run P w=.ok (a==b) w:=by
  unfold Ha at h
  split at h
  · rename_i q hu
    unfold Op.equalIn
    simp [run_underlying hu]
  · cases h
theorem TY{P:Program}{t:TypeId}(h:AJ P t=true){k q:IntKind}{a b a' b':Int}{w:World}(d:Nat) :
    (Op.equalIn (d+2) t (.agg #[.int k a,.int q b]) (.agg #[.int k a',.int q b'])).run P w=.ok (a==a'&&b==b') w:=by
  unfold AJ at h
  split at h
  case h_2=>cases h
  rename_i fs hu
  split at h
  case h_2=>cases h
  rename_i f g hfs
  have hfs:fs = #[f,g]:=by rw [←fs.toArray_toList,hfs]
  subst hfs
  simp only [Bool.and_eq_true,bne_iff_ne,ne_eq,Bool.not_eq_true'] at h
  obtain ⟨⟨h1,h2⟩,⟨h3,h4⟩,⟨h5,h6⟩,h7,_⟩:=h
  have h3:=Nat.eq_of_beq_eq_true h3
  have h4:=Nat.eq_of_beq_eq_true h4
  have p1:∀ w,(part f.type #[.int k a,.int q b] 0).run P w=.ok (.int k a) w:=fun w=>sI h1 rfl
  have p2:∀ w,(part f.type #[.int k a',.int q b'] 0).run P w=.ok (.int k a') w:=fun w=>sI h1 rfl
  have p3:∀ w,(part g.type #[.int k a,.int q b] 1).run P w=.ok (.int q b) w:=fun w=>sI h2 rfl
  have p4:∀ w,(part g.type #[.int k a',.int q b'] 1).run P w=.ok (.int q b') w:=fun w=>sI h2 rfl
  rw [Op.equalIn]
  simp [run_underlying hu,h7,h5,h6,h3,h4,p1,p2,p3,p4,Fo h1,Fo h2]
  by_cases q1:a=a'
  · by_cases q2:b=b'<;>simp [q1,q2]
  · simp [q1]
theorem P5{P:Program}{ρ:ac}{w:World}{t:TypeId}(ht:AJ P t=true){xs ys:List AV}{x' y':Value}(hx:VR ρ w (.agg xs) x')(hy:VR ρ w (.agg ys) y'){b:Bool}(h:aaT (.agg xs) (.agg ys)=some b)(d:Nat) :
    (Op.equalIn (d+2) t x' y').run P w=.ok b w:=by
  unfold aaT at h
  split at h
  · rename_i k a q b1 k' a' q' b' e1 e2
    cases e1;cases e2
    cases hs:(cJ k k'&&cJ q q') with
    | false=>rw [hs] at h;cases h
    | true =>
      rw [hs] at h;cases h
      rw [Bool.and_eq_true] at hs
      have hk:k=k':=of_decide_eq_true hs.1
      have hq:q=q':=of_decide_eq_true hs.2
      subst hk;subst hq
      have two:∀ {c:Array Value} {m n:Int},cV ρ w [.int k m,.int q n] c.toList→c = #[.int k m,.int q n]:=by
        intro c m n h
        have h:c.toList=[.int k m,.int q n]:=by
          generalize c.toList=l at h
          cases h with | cons _ u1 _ _ h1 t1 =>
          cases t1 with | cons _ u2 _ _ h2 t2 =>
          cases t2;cases h1;cases h2;rfl
        rw [←c.toArray_toList,h]
      cases hx with | agg _ c hc =>
      cases hy with | agg _ c' hc' =>
      rw [two hc,two hc']
      exact TY ht d
  · cases h
theorem nW{ρ:ac}{w:World}{xs:List AV}{x':Value}(hx:VR ρ w (.agg xs) x') :∃ c,x'=.agg c:=by cases hx;exact ⟨_,rfl⟩
theorem XS{P:Program}{ρ:ac}{w:World}{op:BinOp}{t:TypeId}{x y:AV}{x' y':Value}{v:AV}{obs:List Bool}(hx:VR ρ w x x')(hy:VR ρ w y y') 
    {wr:Bool} (h:adz wr P op t x y=some (v,obs)) (ho:aB obs):jl P ρ w (binOp op t x' y') v:=by
  unfold adz at h
  split at h
  · cases hx;cases hy
    simp only [Option.some.injEq,Prod.mk.injEq] at h;obtain ⟨rfl,rfl⟩:=h
    have:=Int.not_lt.2 (of_decide_eq_true ho.1)
    simp only [binOp,Op.shift,this,if_false]
    exact .ret (.int _ _)
  · cases hx;cases hy
    simp only [Option.some.injEq,Prod.mk.injEq] at h;obtain ⟨rfl,rfl⟩:=h
    have:=Int.not_lt.2 (of_decide_eq_true ho.1)
    simp only [binOp,Op.shift,this,if_false]
    exact .ret (.int _ _)
  · rename_i k a k' b n1 n2
    cases hx;cases hy
    cases e:cJ k k' with
    | false=>rw [e] at h;cases h
    | true =>
      rw [e] at h
      have:k=k':=of_decide_eq_true e
      subst this
      exact Oi h ho t
  · cases hx with | flt _ _ _ h1=>cases hy with | flt _ _ _ h2 =>
      simp only [Option.map_eq_some_iff] at h
      obtain ⟨v',h,e⟩:=h
      cases e
      exact Rg h1 h2 h t
  · cases hx;cases hy
    exact Rh h ho t
  · cases hx;cases hy
    split at h
    · rename_i hu
      simp only [Option.some.injEq,Prod.mk.injEq] at h;obtain ⟨rfl,rfl⟩:=h
      refine .plain (u:=.bool _) ?_ (.bool _ _)
      exact TW hu _ _ w
    · cases h
  · cases hx;cases hy
    split at h
    · rename_i hu
      simp only [Option.some.injEq,Prod.mk.injEq] at h;obtain ⟨rfl,rfl⟩:=h
      refine .plain (u:=.bool _) ?_ (.bool _ _)
      exact TX hu _ _ w
    · cases h
  · cases ht:AJ P t with
    | false=>rw [ht] at h;cases h
    | true =>
      rw [ht] at h
      simp only [cond_true,Option.map_eq_some_iff] at h
      obtain ⟨b,h,e⟩:=h
      cases e
      have hr:=P5 ht hx hy h 9998
      obtain ⟨c,rfl⟩:=nW hx
      obtain ⟨c',rfl⟩:=nW hy
      refine .plain (u:=.bool b) ?_ (.bool _ _)
      show (do pure (Value.bool (←Op.equalIn 10000 t (.agg c) (.agg c'))):Sem Value).run P w=_
      rw [Sem.run_bind,hr];rfl
  · cases ht:AJ P t with
    | false=>rw [ht] at h;cases h
    | true =>
      rw [ht] at h
      simp only [cond_true,Option.map_eq_some_iff] at h
      obtain ⟨b,h,e⟩:=h
      cases e
      have hr:=P5 ht hx hy h 9998
      obtain ⟨c,rfl⟩:=nW hx
      obtain ⟨c',rfl⟩:=nW hy
      refine .plain (u:=.bool (!b)) ?_ (.bool _ _)
      show (do pure (Value.bool (!(←Op.equalIn 10000 t (.agg c) (.agg c')))):Sem Value).run P w=_
      rw [Sem.run_bind,hr];rfl
  · split at h
    · rename_i hu
      obtain ⟨b,hr,hop⟩:=nV h
      obtain ⟨a,l,c,rfl⟩:=Fl hx hr
      cases hy
      exact oo h rfl rfl fun b' o' q1 q2 d=>ace hu hx q1 (by rw [q2];exact ho) d
    · cases h
  · split at h
    · rename_i hu
      obtain ⟨b,hr,hop⟩:=nV h
      obtain ⟨a,rfl⟩:=Dm hx hr
      cases hy
      exact oo h rfl rfl fun b' o' q1 q2 d=>XR hu hx q1 d
    · cases h
  · split at h
    · rename_i hu
      obtain ⟨b,hr,hop⟩:=nV h
      have hs:=Fm hx hr
      cases hy
      rcases hs with ⟨f,c,d,rfl⟩ | rfl
      · exact oo h rfl rfl fun b' o' q1 q2 d=>P3 hu hx q1 d
      · exact oo h rfl rfl fun b' o' q1 q2 d=>P3 hu hx q1 d
    · cases h
  · split at h
    case h_2=>cases h
    rename_i e hu
    split at h
    case h_2=>cases h
    rename_i inf hi
    cases hb:Nat.beq _ _&&Nat.blt 0 inf.size with
    | false=>rw [hb] at h;cases h
    | true =>
      rw [hb] at h
      simp only [Bool.and_eq_true] at hb
      have hbb:=Nat.eq_of_beq_eq_true hb.1
      subst hbb
      have hs : ¬ inf.size=0:=by have:=hb.2;simp [Nat.blt_eq] at this;omega
      cases hx with | ptr _ _ _ _ ok1 =>
      cases hy with | ptr _ _ _ _ ok2 =>
      refine oo h rfl rfl fun b' o' q1 q2 d=>?_
      simp only [Option.some.injEq,Prod.mk.injEq] at q1
      obtain ⟨rfl,_⟩:=q1
      unfold Op.equalIn
      simp only [Sem.run_bind,run_underlying hu,Result.andThen_ok]
      have hz:(sizeOf e).run P w=.ok inf.size w:=by simp [sizeOf,typeInfo,Sem.run_bind,hi]
      have hsa : ∀ b0 x y : Nat, (sameAddr ⟨b0, x, none⟩ ⟨b0, y, none⟩).run P w = .ok (Nat.beq x y) w := fun b0 x y => by
        simp [sameAddr]
        cases hq:Nat.beq x y with
        | true=>have:=Nat.eq_of_beq_eq_true hq;subst this;simp
        | false => have : ¬ x = y := fun q => by rw [q, Nat.beq_refl] at hq; cases hq
                   simp [this]
      simp only [Sem.run_bind,hz,Result.andThen_ok,ne_eq,hs,not_false_eq_true,if_true]
      exact hsa _ _ _
  · cases h
def unA(op:UnOp)(x:AV) :Option (AV×List Bool) :=
  match op,x with
  | .neg,.int k n=>some (Dl k (0-n))
  | .neg,.flt ex x=>some (.flt ex (adx x),[])
  | .not,.bool kn b=>some (.bool kn (!b),[])
  | .xor,.int k n=>some (.int k (bE .xor k (if k.signed then -1 else k.max) n),[])
  | _,_=>none
def adB(P:Program)(src dst:TypeId)(x:AV) :Option (AV×List Bool) :=
  match P.underlying src,P.underlying dst,x with
  | some _,some (.int k),.int _ n=>some (.int k (k.wrap n),[])
  | some _,some (.float .f64),.int _ n=>some (.flt true (floatOfInt .f64 n),[])
  | some _,some (.int k),.flt _ x=>some (.int k ((floatToIntVal .f64 x k).getD 0),[(floatToIntVal .f64 x k).isSome])
  | some _,some (.float .f64),.flt ex x=>some (.flt ex x,[])
  | some _,some .string,.str s=>some (.str s,[])
  | _,_,_=>none
def Hb(x:Option AV)(d:Int) :Option Int :=
  match x with
  | none=>some d
  | some (.int _ n)=>some n
  | some _=>none
def XT(P:Program)(t:TypeId)(x:AV)(lo hi:Option AV) :Option (AV×List Bool) :=
  match P.underlying t,x with
  | some .string,.str s =>
    match Hb hi s.size,Hb lo 0 with
    | some h,some l=>some (.str (s.extract l.toNat h.toNat),[xr h s.size,xr l h.toNat])
    | _,_=>none
  | some (.slice e),.nsl =>
    match Hb hi 0,Hb lo 0,P.info? e with
    | some h,some l,some _=>some (.nsl,[xr h 0,xr l h.toNat])
    | _,_,_=>none
  | some (.slice e),.imm bw d w es i len =>
    match Hb hi len,Hb lo 0,G9 w es,Nat.beq es (P.cellsOf e),P.info? e with
    | some h,some l,some s,true,some _=>some (.imm bw d w es (fc i (Lc l.toNat s)) (h.toNat-l.toNat),[xr h len,xr l h.toNat])
    | _,_,_,_,_=>none
  | some (.slice e),.sl b w es i len cap =>
    match Hb hi len,Hb lo 0,G9 w es,Nat.beq es (P.cellsOf e),P.info? e with
    | some h,some l,some s,true,some _=>some (.sl b w es (fc i (Lc l.toNat s)) (h.toNat-l.toNat) (cap-l.toNat),[xr h cap,xr l h.toNat])
    | _,_,_,_,_=>none
  | _,_=>none
def Ri(P:Program)(t:TypeId)(x:AV)(lo hi mx:Option AV) :Option (AV×List Bool) :=
  match P.underlying t,x,lo,hi,mx with
  | some (.slice e),.nsl,none,some (.int _ h),some (.int _ m)=>match P.info? e with | some _=>some (.nsl,[xr m 0,xr h 0]) | none=>none
  | some (.slice e),.imm ..,none,some (.int _ h),some (.int _ m)=>match P.info? e with | some _=>some (.esl,[xr m 0,xr h 0]) | none=>none
  | some (.slice e),.sl b w es i len cap,none,some (.int _ h),some (.int _ m)=>match P.info? e,Nat.beq m.toNat 0 with
    | some _,true=>some (.esl,[xr m 0,xr h 0])
    | some _,false=>some (.sl b w es i h.toNat m.toNat,[xr m cap,xr h m.toNat])
    | none,_=>none
  | some (.slice e),.esl,none,some (.int _ h),some (.int _ m)=>match P.info? e with | some _=>some (.esl,[xr m 0,xr h 0]) | none=>none
  | _,_,_,_,_=>none
def wG(x y:Int) :Int:=if y>x then y else x
def vB(x y:Int) :Int:=if y<x then y else x
def adC:AV→List AV→Option AV
  | v,[]=>some v
  | .int k x,.int k' y::l=>adC (.int k (wG x y)) l
  | .flt _ x,[.flt _ y]=>some (.flt false (wE x y))
  | _,_=>none
def adD:AV→List AV→Option AV
  | v,[]=>some v
  | .int k x,.int k' y::l=>adD (.int k (vB x y)) l
  | .flt _ x,[.flt _ y]=>some (.flt false (uw x y))
  | _,_=>none
def xu(P:Program)(s:TypeId)(x:AV)(f:Nat) :Option AV :=
  match P.underlying s with
  | some (.struct fs) =>
    match fs[f]? with
    | some fd =>
      match (P.info? fd.type).map (·.size),x with
      | some (_+1),.ptr b w i j=>some (.ptr b w i (j+fd.offset))
      | some (_+1),.iptr bw d w i j=>some (.iptr bw d w i (j+fd.offset))
      | _,_=>none
    | none=>none
  | _=>none
def TZ(P:Program)(t:TypeId) :Option Bool :=
  match P.underlying t with
  | some (.struct _) | some (.array _ _)=>some true
  | some _=>some false
  | none=>none
def aaV(P:Program)(t:TypeId)(l:List AV)(off:Nat) :Option AV :=
  match TZ P t with
  | some true=>(P.info? t).bind fun i=>bif Nat.ble (off+i.size) l.length then some (.agg ((l.drop off).take i.size)) else none
  | some false=>l[off]?
  | none=>none
def Rj(P:Program)(t:TypeId)(x:AV)(f:Nat) :Option AV :=
  match P.underlying t,x with
  | some (.struct fs),.agg l =>
    match fs[f]? with
    | some fd=>aaV P fd.type l fd.offset
    | none=>none
  | _,_=>none
def xv(P:Program)(t:TypeId)(x ix:AV) :Option (AV×List Bool) :=
  match ix with
  | .int _ k =>
    match P.underlying t,x with
    | some (.slice e),.imm bw d w es i len =>
      match G9 w es,Nat.beq es (P.cellsOf e),P.info? e with
      | some s,true,some _=>some (.iptr bw d w (fc i (Lc k.toNat s)) 0,[fO k len])
      | _,_,_=>none
    | some (.slice e),.sl b w es i len cap =>
      match G9 w es,Nat.beq es (P.cellsOf e),P.info? e with
      | some s,true,some _=>some (.ptr b w (fc i (Lc k.toNat s)) 0,[fO k len])
      | _,_,_=>none
    | some (.array n e),.ptr b w i j =>
      match P.info? e with
      | some ie=>some (.ptr b w i (fc j (Lc k.toNat ie.size)),[fO k n])
      | _=>none
    | some (.array n e),.iptr bw d w i j =>
      match P.info? e with
      | some ie=>some (.iptr bw d w i (fc j (Lc k.toNat ie.size)),[fO k n])
      | _=>none
    | _,_=>none
  | _=>none
def XU(s:ByteArray)(i:Nat) :Int:=((s.data[i]?).getD 0).toNat
def XV(P:Program)(t:TypeId)(x ix:AV) :Option (AV×List Bool) :=
  match ix with
  | .int _ k =>
    match P.underlying t,x with
    | some .string,.str s=>some (.int .u8 (XU s k.toNat),[fO k s.size])
    | some (.array n e),.agg l =>
      match P.info? e with
      | some ie=>(aaV P e l (k.toNat*ie.size)).map fun v=>(v,[fO k n])
      | none=>none
    | _,_=>none
  | _=>none
def ag2(P:Program)(t:TypeId)(x:AV) :Option AV :=
  match P.underlying t,x with
  | some .string,.str s=>some (.int .i64 s.size)
  | some (.array n _),_=>some (.int .i64 n)
  | some (.slice _),.nsl=>some (.int .i64 0)
  | some (.slice _),.esl=>some (.int .i64 0)
  | some (.slice _),.sl _ _ _ _ len _=>some (.int .i64 len)
  | some (.slice _),.imm _ _ _ _ _ len=>some (.int .i64 len)
  | _,_=>none
def agE(c a b:AV) :Option AV :=
  match c,a,b with
  | .bool true true,a,_=>some a
  | .bool true false,_,b=>some b
  | .bool false c,.bool _ x,.bool _ y=>some (.bool false (bif c then x else y))
  | .bool false c,.int k x,.int k' y=>bif cJ k k' then some (.int k (bif c then x else y)) else none
  | _,_,_=>none
def zC(v:Option AV) :Option (AV×List Bool):=v.map fun v=>(v,[])
def tp(wr:Bool)(P:Program)(e:Operand→AV)(op:Op) :Option (AV×List Bool) :=
  match op with
  | .move x | .assign x=>some (e x,[])
  | .pick c a b=>zC (agE (e c) (e a) (e b))
  | .nilCheck x =>
    match e x with
    | .ptr b w i j=>some (.ptr b w i j,[])
    | .iptr bw d w i j=>some (.iptr bw d w i j,[])
    | .fn (.func f) l c=>some (.fn (.func f) l c,[])
    | _=>none
  | .binOp op t x y _=>adz wr P op t (e x) (e y)
  | .unOp op _ x=>unA op (e x)
  | .convert s d x=>adB P s d (e x)
  | .makeInterface t x =>
    match P.underlying t with
    | some (.interface _) | none=>none
    | some _=>some (.iface t (e x),[])
  | .makeFunc fn first caps=>some (.fn fn (first.toList.map e) (caps.toList.map e),[])
  | .slice t x lo hi none=>XT P t (e x) (lo.map e) (hi.map e)
  | .slice t x lo hi (some mx)=>Ri P t (e x) (lo.map e) (hi.map e) (some (e mx))
  | .fieldAddr s x f=>zC (xu P s (e x) f)
  | .field t x f=>zC (Rj P t (e x) f)
  | .indexAddr t x ix=>xv P t (e x) (e ix)
  | .index t x ix=>XV P t (e x) (e ix)
  | .extract x i =>
    match e x with
    | .tup l=>zC (l[i]?)
    | _=>none
  | .call { callee:=.builtin .len,args:=xs,argTypes:=ts } =>
    match xs.toList,ts.toList with
    | [x],[t]=>zC (ag2 P t (e x))
    | _,_=>none
  | .call { callee:=.builtin .max,args:=xs,argTypes:=_ } =>
    match xs.toList with
    | x::l=>zC (adC (e x) (l.map e))
    | _=>none
  | .call { callee:=.builtin .min,args:=xs,argTypes:=_ } =>
    match xs.toList with
    | x::l=>zC (adD (e x) (l.map e))
    | _=>none
  | _=>none
theorem cX{P:Program}{w w':World}{s:Sem Value}{u:Value}(h:s.run P w=.ok u w') :(do pure (Next.value (←s)):Sem Next).run P w=.ok (.value u) w':=by
  rw [Sem.run_bind,h];rfl
theorem jl.value{P:Program}{ρ:ac}{w:World}{s:Sem Value}{v:AV}(h:jl P ρ w s v) :
    ∃ u k,(do pure (Next.value (←s)):Sem Next).run P w=.ok (.value u) { w with drawn:=k }∧VR ρ w v u :=
  let ⟨u,k,h1,h2⟩:=h;⟨u,k,cX h1,h2⟩
theorem FR.neg{ex:Bool}{x y:Nat}(h:FR ex x y) :FR ex (adx x) (adx y):=by
  rcases h with rfl | ⟨h1,h2,h3⟩
  · exact .inl rfl
  · have e:∀ x,isNaN (adx x)=isNaN x:=by
      intro x
      rw [kf,kf]
      have e1:(x ^^^ 2^63)%2^63=x%2^63:=by
        apply Nat.eq_of_testBit_eq;intro i
        simp only [Nat.testBit_mod_two_pow,Nat.testBit_xor,Nat.testBit_two_pow]
        by_cases hi:i<63
        · have : ¬ 63=i:=by omega
          simp [hi,this]
        · simp [hi]
      have e2:(9223372036854775808:Nat)=2^63:=by decide
      unfold adx
      rw [e2,e1]
    exact .inr ⟨h1,by rw [e];exact h2,by rw [e];exact h3⟩
theorem acf{P:Program}{ρ:ac}{w:World}{op:UnOp}{x:AV}{x':Value}{v:AV}{obs:List Bool}(hx:VR ρ w x x')(h:unA op x=some (v,obs))(ho:aB obs) :
    jl P ρ w (Op.unary op x') v:=by
  unfold unA at h
  split at h
  · rename_i k n
    cases hx
    have h1:=congrArg Prod.fst (Option.some.inj h)
    have h2:=congrArg Prod.snd (Option.some.inj h)
    simp only at h1 h2
    simp only [Op.unary,Op.intArith]
    rw [←h1]
    exact .ret (Lf ρ w k (0-n) (by rw [h2];exact ho))
  · simp only [Option.some.injEq,Prod.mk.injEq] at h;obtain ⟨rfl,rfl⟩:=h
    cases hx with | flt _ _ _ h1 =>
    exact .ret (.flt _ _ _ h1.neg)
  · simp only [Option.some.injEq,Prod.mk.injEq] at h;obtain ⟨rfl,rfl⟩:=h
    cases hx;exact .ret (.bool _ _)
  · simp only [Option.some.injEq,Prod.mk.injEq] at h;obtain ⟨rfl,rfl⟩:=h
    cases hx;exact .ret (.int _ _)
  · cases h
theorem Oj{ex:Bool}{x y:Nat}{k:IntKind}(h:FR ex x y)(hs:(floatToIntVal .f64 x k).isSome=true) :y=x:=by
  rcases h with h | ⟨_,h2,_⟩
  · exact h
  · obtain ⟨s,t,e⟩:=tn h2
    unfold floatToIntVal FloatKind.decode at hs
    rw [e] at hs
    cases hs
theorem T1{P:Program}{ρ:ac}{w:World}{src dst:TypeId}{x:AV}{x':Value}{v:AV}{obs:List Bool}(hx:VR ρ w x x')(h:adB P src dst x=some (v,obs))(ho:aB obs) :
    jl P ρ w (convert src dst x') v:=by
  unfold adB at h
  split at h
  · rename_i d k q n h1 h2
    simp only [Option.some.injEq,Prod.mk.injEq] at h;obtain ⟨rfl,rfl⟩:=h
    cases hx
    refine .plain (u:=.int k (k.wrap n)) ?_ (.int _ _)
    cases d<;>simp [convert,run_underlying h1,run_underlying h2,Conv.intToInt]
  · rename_i d q n h1 h2
    simp only [Option.some.injEq,Prod.mk.injEq] at h;obtain ⟨rfl,rfl⟩:=h
    cases hx
    exact .plain (run_convert_int_float w src dst q .f64 n (by rw [h1];rfl) h2) (.flt _ _ _ (.inl rfl))
  · rename_i d k ex y h1 h2
    simp only [Option.some.injEq,Prod.mk.injEq] at h;obtain ⟨rfl,rfl⟩:=h
    cases hx with | flt _ _ z hf =>
    have e:=Oj hf ho.1
    subst e
    obtain ⟨n,hn⟩:=Option.isSome_iff_exists.1 ho.1
    rw [hn]
    exact .plain (run_convert_float_int w src dst .f64 k _ n (by rw [h1];rfl) h2 hn) (.int _ _)
  · rename_i d ex y h1 h2
    simp only [Option.some.injEq,Prod.mk.injEq] at h;obtain ⟨rfl,rfl⟩:=h
    cases hx with | flt _ _ z hf =>
    refine .plain (u:=.float .f64 z) ?_ (.flt _ _ _ hf)
    exact run_convert_float_float w src dst .f64 .f64 z z (by rw [h1];rfl) h2 (by simp [floatToFloatBits])
  · rename_i d s h1 h2
    simp only [Option.some.injEq,Prod.mk.injEq] at h;obtain ⟨rfl,rfl⟩:=h
    cases hx
    refine .plain (u:=.string s) ?_ (.str _)
    cases d<;>simp [convert,run_underlying h1,run_underlying h2]
  · cases h
theorem cV.drop{ρ:ac}{w:World} :∀ (n:Nat) {l:List AV} {c:List Value},cV ρ w l c→cV ρ w (l.drop n) (c.drop n)
  | 0,_,_,h=>by simpa using h
  | n+1,_,_,.nil=>by simp;exact .nil
  | n+1,_,_,.cons _ _ _ _ _ t=>by simp;exact t.drop n
theorem cV.take{ρ:ac}{w:World} :∀ (n:Nat) {l:List AV} {c:List Value},cV ρ w l c→cV ρ w (l.take n) (c.take n)
  | 0,_,_,h=>by simp;exact .nil
  | n+1,_,_,.nil=>by simp;exact .nil
  | n+1,_,_,.cons _ _ _ _ h t=>by simp;exact .cons _ _ _ _ h (t.take n)
theorem oq{P:Program}{w:World}(k:IntKind)(i:Int)(y:Nat)(code:BoundsCode)(h:0≤i∧i≤(y:Int)) :(Instr.sliceBound (.int k i) y code).run P w=.ok i.toNat w:=by
  simp [Instr.sliceBound,asIntOf,h]
theorem kg{P:Program}{w:World}(isSlice:Bool)(len cap:Nat)(lo hi:Option Value)(l h:Int)(hl:lo=none∧l=0∨∃ k,lo=some (.int k l))(hh:hi=none∧h=len∨∃ k,hi=some (.int k h)) 
    (b1:0≤h∧h≤(cap:Int)) (b2:0≤l∧l≤h):(Instr.sliceBounds isSlice len cap lo hi none).run P w=.ok (l.toNat,h.toNat,cap) w:=by
  have e:l≤(h.toNat:Int):=by omega
  rcases hl with ⟨rfl,rfl⟩ | ⟨k,rfl⟩<;>rcases hh with ⟨rfl,rfl⟩ | ⟨k',rfl⟩
  · simp [Instr.sliceBounds]
  · simp [Instr.sliceBounds,oq _ _ _ _ b1]
  · simp [Instr.sliceBounds,oq _ _ _ _ (And.intro b2.1 b2.2)]
  · simp [Instr.sliceBounds,oq _ _ _ _ b1,oq _ _ _ _ (And.intro b2.1 e)]
theorem iN{i:Int}{n:Nat}(h:xr i n=true) :0≤i∧i≤(n:Int):=by simpa [xr] using h
theorem B9{i:Int}{n:Nat}(h:fO i n=true) :0≤i∧i<(n:Int):=by simpa [fO] using h
theorem mG{ρ:ac}{w:World}{e:Operand→AV}{g:Operand→Value}(hops:∀ x,VR ρ w (e x) (g x)){x:Option Operand}{d n:Int}(h:Hb (x.map e) d=some n) :
    (x.map g=none∧n=d)∨∃ k,x.map g=some (.int k n):=by
  cases x with
  | none=>simp [Hb] at h;exact .inl ⟨rfl,h.symm⟩
  | some o =>
    have hv:=hops o
    simp only [Option.map_some] at h ⊢
    generalize e o=v at h hv
    generalize g o=u at hv
    cases v<;>simp [Hb] at h
    subst h
    cases hv
    exact .inr ⟨_,rfl⟩
theorem Rk{P:Program}{ρ:ac}{w:World}{e:Operand→AV}{g:Operand→Value}(hops:∀ x,VR ρ w (e x) (g x)){t:TypeId}{x:AV}{x':Value}{lo hi:Option Operand}{v:AV}{obs:List Bool} 
    (hx:VR ρ w x x') (h:XT P t x (lo.map e) (hi.map e)=some (v,obs)) (ho:aB obs):jl P ρ w (Instr.sliceAt t x' (lo.map g) (hi.map g) none) v:=by
  unfold XT at h
  split at h
  · rename_i s hu
    cases hx
    split at h
    · rename_i hh ll e1 e2
      simp only [Option.some.injEq,Prod.mk.injEq] at h;obtain ⟨rfl,rfl⟩:=h
      have b1:=iN ho.1
      have b2:=iN ho.2.1
      refine .plain (u:=.string (s.extract ll.toNat hh.toNat)) ?_ (.str _)
      have:=kg (P:=P) (w:=w) false s.size s.size (lo.map g) (hi.map g) ll hh (mG hops e2) (mG hops e1) b1 ⟨b2.1,by omega⟩
      simp [Instr.sliceAt,Instr.slice,run_underlying hu,this]
    · cases h
  · rename_i el hu
    cases hx
    split at h
    · rename_i hh ll i e1 e2 hs
      simp only [Option.some.injEq,Prod.mk.injEq] at h;obtain ⟨rfl,rfl⟩:=h
      have b1:=iN ho.1
      have b2:=iN ho.2.1
      refine .plain (u:=.slice none 0 0) ?_ .nsl
      have h0:hh=0:=by omega
      subst h0
      have l0:ll=0:=by simp at b2;omega
      subst l0
      have:=kg (P:=P) (w:=w) true 0 0 (lo.map g) (hi.map g) 0 0 (mG hops e2) (mG hops e1) (by omega) (by omega)
      simp [Instr.sliceAt,Instr.slice,run_underlying hu,this,run_sizeOf w hs]
    · cases h
  · rename_i el bw d k es i len hu
    split at h
    · rename_i hh ll s inf e1 e2 e3 e4 hs
      simp only [Option.some.injEq,Prod.mk.injEq] at h;obtain ⟨rfl,rfl⟩:=h
      have b1:=iN ho.1
      have b2:=iN ho.2.1
      have e5:es=P.cellsOf el:=Nat.eq_of_beq_eq_true e4
      have hst:=B7 e3
      have run:∀ (a:Option Addr) (cap:Nat),len≤cap→(Instr.sliceAt t (.slice a len cap) (lo.map g) (hi.map g) none).run P w =
          .ok (.slice (if cap=ll.toNat then a else a.map (·.add (ll.toNat*P.cellsOf el))) (hh.toNat-ll.toNat) (cap-ll.toNat)) w:=by
        intro a cap hc
        have:=kg (P:=P) (w:=w) true len cap (lo.map g) (hi.map g) ll hh (mG hops e2) (mG hops e1) (by omega) ⟨b2.1,by omega⟩
        simp [Instr.sliceAt,Instr.slice,run_underlying hu,this,run_sizeOf w hs]
      cases hx with
      | imm _ _ _ _ _ _ cap bl o u ha hb hc hv hl hr hk hg =>
        refine .plain (run _ _ hl) ?_
        by_cases hz:cap=ll.toNat
        · have:hh.toNat-ll.toNat=0:=by omega
          rw [this,if_pos hz]
          exact .immEnd _ _ _ _ _ _ _ hr hk hg
        · rw [if_neg hz]
          have ea:Addr.add ⟨bl,o+i*k,none⟩ (ll.toNat*P.cellsOf el)=⟨bl,o+(i+ll.toNat*s)*k,none⟩:=by
            have:o+i*k+ll.toNat*P.cellsOf el=o+(i+ll.toNat*s)*k:=by rw [←e5,←hst,Nat.add_mul,Nat.mul_assoc];omega
            unfold Addr.add
            split
            · rename_i h0;rw [h0] at this;simp only [Nat.add_zero] at this;rw [this]
            · simp only [this]
          simp only [Option.map_some,ea,iM,xt]
          exact .imm _ _ _ _ _ _ _ bl o u ha hb hc hv (by omega) hr hk hg
      | immEnd _ _ _ _ _ cap a hr hk hg =>
        refine .plain (run _ _ (Nat.zero_le _)) ?_
        have:hh.toNat-ll.toNat=0:=by omega
        rw [this]
        exact .immEnd _ _ _ _ _ _ _ hr hk hg
    · cases h
  · rename_i el b k es i len cap hu
    split at h
    · rename_i hh ll s inf e1 e2 e3 e4 hs
      simp only [Option.some.injEq,Prod.mk.injEq] at h;obtain ⟨rfl,rfl⟩:=h
      have b1:=iN ho.1
      have b2:=iN ho.2.1
      have e5:es=P.cellsOf el:=Nat.eq_of_beq_eq_true e4
      have hst:=B7 e3
      have run:∀ (a:Option Addr) (cap':Nat),cap≤cap'→len≤cap→(Instr.sliceAt t (.slice a len cap') (lo.map g) (hi.map g) none).run P w =
          .ok (.slice (if cap'=ll.toNat then a else a.map (·.add (ll.toNat*P.cellsOf el))) (hh.toNat-ll.toNat) (cap'-ll.toNat)) w:=by
        intro a cap' hc hl
        have:=kg (P:=P) (w:=w) true len cap' (lo.map g) (hi.map g) ll hh (mG hops e2) (mG hops e1) (by omega) ⟨b2.1,by omega⟩
        simp [Instr.sliceAt,Instr.slice,run_underlying hu,this,run_sizeOf w hs]
      cases hx with
      | sl _ _ _ _ _ _ cap' hb hcap hl c ty hh2 hsz =>
        refine .plain (run _ _ hcap hl) ?_
        by_cases hz:cap'=ll.toNat
        · have q1:hh.toNat-ll.toNat=0:=by omega
          have q2:cap-ll.toNat=0:=by omega
          have q3:cap'-ll.toNat=0:=by omega
          rw [q1,q2,q3]
          exact .slEnd _ _ _ _ _
        · rw [if_neg hz]
          have e6:i*k+ll.toNat*P.cellsOf el=(i+ll.toNat*s)*k:=by rw [←e5,←hst,Nat.add_mul,Nat.mul_assoc]
          have ea:Addr.add ⟨ρ.at_ b,i*k,none⟩ (ll.toNat*P.cellsOf el)=⟨ρ.at_ b,(i+ll.toNat*s)*k,none⟩:=by
            unfold Addr.add
            split
            · rename_i h0;rw [h0] at e6;simp only [Nat.add_zero] at e6;rw [e6]
            · simp only [e6]
          simp only [Option.map_some,ea,iM,xt]
          refine .sl _ _ _ _ _ _ _ hb (by omega) (by omega) c ty hh2 ?_
          rw [←e6,←e5]
          by_cases hle:ll.toNat≤cap'
          · have:ll.toNat*es+(cap'-ll.toNat)*es=cap'*es:=by rw [←Nat.add_mul];congr 1;omega
            omega
          · omega
      | slEnd _ _ _ _ a =>
        refine .plain (run _ _ (Nat.le_refl _) (Nat.le_refl _)) ?_
        have q1:hh.toNat-ll.toNat=0:=by omega
        have q2:0-ll.toNat=0:=by omega
        rw [q1,q2]
        exact .slEnd _ _ _ _ _
    · cases h
  · cases h
theorem adE{k:Int}{n m:Nat}(h:xr k n=true)(q:n≤m) :xr k m=true:=by
  have:=iN h
  simp only [xr,Bool.and_eq_true,decide_eq_true_eq]
  omega
theorem Ol{P:Program}{ρ:ac}{w:World}{e:Operand→AV}{g:Operand→Value}(hops:∀ x,VR ρ w (e x) (g x)){t:TypeId}{x:AV}{x':Value}{lo hi:Option Operand}{mx:Operand}{v:AV}{obs:List Bool} 
    (hx:VR ρ w x x') (h:Ri P t x (lo.map e) (hi.map e) (some (e mx))=some (v,obs)) (ho:aB obs):jl P ρ w (Instr.sliceAt t x' (lo.map g) (hi.map g) (some (g mx))) v:=by
  have key0:∀ {el:TypeId} {hh mm:Int} {k1 k2:IntKind} {inf:TypeInfo} {a:Option Addr} {len cap:Nat},P.underlying t=some (.slice el)→P.info? el=some inf→lo.map e=none→hi.map e=some (.int k1 hh)→e mx=.int k2 mm→xr mm cap=true→xr hh mm.toNat=true →
      (Instr.sliceAt t (.slice a len cap) (lo.map g) (hi.map g) (some (g mx))).run P w=.ok (.slice a hh.toNat mm.toNat) w:=by
    intro el hh mm k1 k2 inf a len cap hu hi' h1 h2 h3 b1 b2
    have b1:=iN b1
    have b2:=iN b2
    obtain ⟨m,rfl⟩:=Int.eq_ofNat_of_zero_le b1.1
    obtain ⟨n,rfl⟩:=Int.eq_ofNat_of_zero_le b2.1
    have hn:n≤m:=by have:=b2.2;simp at this;omega
    have hm':m≤cap:=by have:=b1.2;omega
    have e1:lo=none:=by cases lo<;>simp_all
    subst e1
    have hm:=hops mx
    rw [h3] at hm
    generalize hgm:g mx=gm at hm
    cases hm
    cases hi with
    | none=>cases h2
    | some y =>
      simp only [Option.map_some,Option.some.injEq] at h2
      have hy:=hops y
      rw [h2] at hy
      generalize hgy:g y=gy at hy
      cases hy
      simp [Instr.sliceAt,Instr.slice,run_underlying hu,Instr.sliceBounds,Instr.sliceBound,asIntOf,run_sizeOf w hi',hgy,hn,hm']
      intro _
      cases a with
      | none=>rfl
      | some a=>simp [Addr.add]
  have key:∀ {el:TypeId} {hh mm:Int} {k1 k2:IntKind} {inf:TypeInfo} {a:Option Addr} {len cap:Nat},P.underlying t=some (.slice el)→P.info? el=some inf→lo.map e=none→hi.map e=some (.int k1 hh)→e mx=.int k2 mm→xr mm 0=true→xr hh 0=true →
      (Instr.sliceAt t (.slice a len cap) (lo.map g) (hi.map g) (some (g mx))).run P w=.ok (.slice a 0 0) w:=by
    intro el hh mm k1 k2 inf a len cap hu hi' h1 h2 h3 b1 b2
    have b1:=iN b1
    have b2:=iN b2
    have m0:mm=0:=by omega
    have h0:hh=0:=by omega
    subst m0;subst h0
    have e1:lo=none:=by cases lo<;>simp_all
    subst e1
    have hm:=hops mx
    rw [h3] at hm
    generalize hgm:g mx=gm at hm
    cases hm
    cases hi with
    | none=>cases h2
    | some y =>
      simp only [Option.map_some,Option.some.injEq] at h2
      have hy:=hops y
      rw [h2] at hy
      generalize hgy:g y=gy at hy
      cases hy
      simp [Instr.sliceAt,Instr.slice,run_underlying hu,Instr.sliceBounds,Instr.sliceBound,asIntOf,run_sizeOf w hi',hgy]
  unfold Ri at h
  split at h<;>rename_i q1 q2 q3<;>(try cases h)<;>(split at h<;>(try cases h))
  · cases hx;exact .plain (key (by assumption) (by assumption) q1 q2 (Option.some.inj q3) ho.1 ho.2.1) .nsl
  · cases hx with
    | imm=>exact .plain (key (by assumption) (by assumption) q1 q2 (Option.some.inj q3) ho.1 ho.2.1) (.esl _)
    | immEnd=>exact .plain (key (by assumption) (by assumption) q1 q2 (Option.some.inj q3) ho.1 ho.2.1) (.esl _)
  · cases hx with
    | sl=>exact .plain (key (by assumption) (by assumption) q1 q2 (Option.some.inj q3) ho.1 ho.2.1) (.esl _)
    | slEnd=>exact .plain (key (by assumption) (by assumption) q1 q2 (Option.some.inj q3) ho.1 ho.2.1) (.esl _)
  · rename_i hm0
    have b1:=iN ho.1
    have b2:=iN ho.2.1
    have hle:∀ {a b:Int} {n:Nat},0≤a→a≤(n:Int)→a.toNat≤n:=by intros;omega
    cases hx with
    | sl _ _ _ _ _ _ cap' hb hcap hl c ty hh2 hsz =>
      refine .plain (key0 (by assumption) (by assumption) q1 q2 (Option.some.inj q3) (adE ho.1 hcap) ho.2.1) ?_
      refine .sl _ _ _ _ _ _ _ hb (Nat.le_refl _) (by omega) c ty hh2 ?_
      refine Nat.le_trans (Nat.add_le_add_left (Nat.mul_le_mul_right _ (show _≤cap' by omega)) _) hsz
    | slEnd =>
      exfalso
      have b0:=b1.2
      have b3:=b1.1
      have hz:∀ {m:Int},Nat.beq m.toNat 0=false→0≤m→m≤((0:Nat):Int)→False:=fun {m} q p1 p2=>by
        rw [show m.toNat=0 by omega] at q
        cases q
      exact hz hm0 b3 b0
  · cases hx;exact .plain (key (by assumption) (by assumption) q1 q2 (Option.some.inj q3) ho.1 ho.2.1) (.esl _)
theorem Lg{P:Program}{ρ:ac}{w:World} :∀ {l:List AV} {v:AV} {us:List Value} {u:Value} {r:AV},VR ρ w v u→cV ρ w l us→adC v l=some r→∃ u' k,(us.foldlM Builtin.max2 u).run P w=.ok u' { w with drawn:=k }∧VR ρ w r u'
  | [],v,us,u,r,hv,hl,h=>by
    cases hl
    simp only [adC,Option.some.injEq] at h;subst h
    exact ⟨u,w.drawn,rfl,hv⟩
  | a::l,v,us,u,r,hv,hl,h=>by
    unfold adC at h
    split at h
    · rename_i q;cases q
    · rename_i k x k' y l' q
      cases q
      cases hv
      cases hl with | cons _ u2 _ us' h1 h2 =>
      cases h1
      obtain ⟨u',kd,q1,q2⟩:=Lg (P:=P) (VR.int (ρ:=ρ) (w:=w) k (wG x y)) h2 h
      exact ⟨u',kd,by rw [List.foldlM_cons,Sem.run_bind];simp only [Builtin.max2,Sem.run_pure,Result.andThen_ok];exact q1,q2⟩
    · rename_i e1 x e2 y q
      cases q
      cases hv with | flt _ _ x' f1 =>
      cases hl with | cons _ u2 _ us' h1 h2 =>
      cases h1 with | flt _ _ y' f2 =>
      cases h2
      cases h
      obtain ⟨u',kd,q1,q2⟩:=ab9 (P:=P) f1 f2 w
      exact ⟨_,kd,by rw [List.foldlM_cons,Sem.run_bind,q1];rfl,.flt _ _ _ q2⟩
    · cases h
theorem Lh{P:Program}{ρ:ac}{w:World} :∀ {l:List AV} {v:AV} {us:List Value} {u:Value} {r:AV},VR ρ w v u→cV ρ w l us→adD v l=some r→∃ u' k,(us.foldlM Builtin.min2 u).run P w=.ok u' { w with drawn:=k }∧VR ρ w r u'
  | [],v,us,u,r,hv,hl,h=>by
    cases hl
    simp only [adD,Option.some.injEq] at h;subst h
    exact ⟨u,w.drawn,rfl,hv⟩
  | a::l,v,us,u,r,hv,hl,h=>by
    unfold adD at h
    split at h
    · rename_i q;cases q
    · rename_i k x k' y l' q
      cases q
      cases hv
      cases hl with | cons _ u2 _ us' h1 h2 =>
      cases h1
      obtain ⟨u',kd,q1,q2⟩:=Lh (P:=P) (VR.int (ρ:=ρ) (w:=w) k (vB x y)) h2 h
      exact ⟨u',kd,by rw [List.foldlM_cons,Sem.run_bind];simp only [Builtin.min2,Sem.run_pure,Result.andThen_ok];exact q1,q2⟩
    · rename_i e1 x e2 y q
      cases q
      cases hv with | flt _ _ x' f1 =>
      cases hl with | cons _ u2 _ us' h1 h2 =>
      cases h1 with | flt _ _ y' f2 =>
      cases h2
      cases h
      obtain ⟨u',kd,q1,q2⟩:=aca (P:=P) f1 f2 w
      exact ⟨_,kd,by rw [List.foldlM_cons,Sem.run_bind,q1];rfl,.flt _ _ _ q2⟩
    · cases h
theorem kY(bl o n:Nat) :Addr.add ⟨bl,o,none⟩ n=⟨bl,o+n,none⟩:=by
  unfold Addr.add;split
  · rename_i h;subst h;rfl
  · rfl
theorem Ca{P:Program}{w:World}{t:TypeId}{b:Bool}(h:TZ P t=some b) :(isAgg t).run P w=.ok b w:=by
  unfold TZ at h
  split at h
  · rename_i hu;cases h;simp [isAgg,run_underlying hu]
  · rename_i hu;cases h;simp [isAgg,run_underlying hu]
  · rename_i d n1 n2 hu
    cases h
    cases d<;>simp_all [isAgg,run_underlying hu]
  · cases h
theorem Hc{P:Program}{ρ:ac}{w:World}{s:TypeId}{x:AV}{x':Value}{f:Nat}{v:AV}(hx:VR ρ w x x')(h:xu P s x f=some v) :jl P ρ w (Instr.fieldAt s x' f) v:=by
  unfold xu at h
  split at h
  case h_2=>cases h
  rename_i fs hu
  split at h
  case h_2=>cases h
  rename_i fd hf
  have run:∀ (a:Addr) (n:Nat),(P.info? fd.type).map (·.size)=some (n+1)→(Instr.fieldAt s (.pointer (some a)) f).run P w=.ok (.pointer (some (a.add fd.offset))) w:=by
    intro a n hn
    simp only [Option.map_eq_some_iff] at hn
    obtain ⟨i,hi,hsz⟩:=hn
    have hc:P.cellsOf fd.type=n+1:=by simp [Program.cellsOf,hi,hsz]
    simp [Instr.fieldAt,run_underlying hu,hf,Instr.sureAddr,fieldPlace,run_sizeOf w hi,hc]
  split at h
  · rename_i n b k i j hn
    cases h
    cases hx with
    | ptr _ _ _ _ hb =>
      refine .plain (run _ _ hn) ?_
      rw [kY,show i*k+j+fd.offset=i*k+(j+fd.offset) from by omega]
      exact .ptr _ _ _ _ hb
  · rename_i n bw d k i j hn
    cases h
    cases hx with
    | iptr _ _ _ _ _ bl o u ha hb hc hv hr hk hg =>
      refine .plain (run _ _ hn) ?_
      rw [kY,show o+(i*k+j)+fd.offset=o+(i*k+(j+fd.offset)) from by omega]
      exact .iptr _ _ _ _ _ bl o u ha hb hc hv hr hk hg
  · cases h
theorem I4{P:Program}{ρ:ac}{w:World}{t:TypeId}{l:List AV}{c:Array Value}{off:Nat}{v:AV}(hl:cV ρ w l c.toList)(h:aaV P t l off=some v) :jl P ρ w (part t c off) v:=by
  unfold aaV at h
  split at h
  · rename_i ha
    simp only [Option.bind_eq_some_iff] at h
    obtain ⟨i,hi,h⟩:=h
    cases e:Nat.ble (off+i.size) l.length with
    | false=>rw [e] at h;cases h
    | true =>
      rw [e] at h
      simp only [cond_true,Option.some.injEq] at h
      subst h
      refine .plain (u:=.agg (c.extract off (off+P.cellsOf t))) ?_ (.agg _ _ ?_)
      · simp [part,Ca ha,run_sizeOf w hi]
      · have hs:P.cellsOf t=i.size:=by simp [Program.cellsOf,hi]
        rw [Array.toList_extract,hs,List.extract_eq_take_drop,Nat.add_sub_cancel_left]
        exact (hl.drop off).take i.size
  · rename_i ha
    obtain ⟨u,h1,h2⟩:=hl.get off v h
    rw [Array.getElem?_toList] at h1
    refine .plain (u:=u) ?_ h2
    simp [part,Ca ha,h1]
  · cases h
theorem Rl{P:Program}{ρ:ac}{w:World}{t:TypeId}{x:AV}{x':Value}{f:Nat}{v:AV}(hx:VR ρ w x x')(h:Rj P t x f=some v) :jl P ρ w (Instr.field t x' f) v:=by
  unfold Rj at h
  split at h
  case h_2=>cases h
  rename_i fs l hu
  cases hx with
  | agg _ c hl =>
    split at h
    · rename_i fd hf
      obtain ⟨u,k,hr,hv⟩:=I4 hl h
      exact ⟨u,k,by simp [Instr.field,run_underlying hu,hf,asAgg,hr],hv⟩
    · cases h
theorem uz{P:Program}{w:World}{t e:TypeId}{i:TypeInfo}(hu:P.underlying t=some (.slice e))(hi:P.info? e=some i)(a:Addr)(len cap:Nat)(q:IntKind)(k:Int)(hk:0≤k∧k<(len:Int)) :
    (Instr.indexAt t (.slice (some a) len cap) (.int q k)).run P w=.ok (.pointer (some (a.add (k.toNat*P.cellsOf e)))) w:=by
  simp [Instr.indexAt,asIntOf,run_underlying hu,hk,run_sizeOf w hi]
theorem uA{P:Program}{w:World}{t e:TypeId}{n:Nat}{i:TypeInfo}(hu:P.underlying t=some (.array n e))(hi:P.info? e=some i)(a:Addr)(q:IntKind)(k:Int)(hk:0≤k∧k<(n:Int)) :
    (Instr.indexAt t (.pointer (some a)) (.int q k)).run P w=.ok (.pointer (some (a.add (k.toNat*P.cellsOf e)))) w:=by
  simp [Instr.indexAt,asIntOf,run_underlying hu,Instr.sureAddr,hk,run_sizeOf w hi]
theorem Hd{P:Program}{ρ:ac}{w:World}{t:TypeId}{x ix:AV}{x' ix':Value}{v:AV}{obs:List Bool}(hx:VR ρ w x x')(hi:VR ρ w ix ix') 
    (h:xv P t x ix=some (v,obs)) (ho:aB obs):jl P ρ w (Instr.indexAt t x' ix') v:=by
  unfold xv at h
  split at h
  case h_2=>cases h
  rename_i q k
  cases hi
  split at h
  · rename_i e bw d kk es i len hu
    split at h
    case h_2=>cases h
    rename_i s inf e1 e2 e3
    simp only [Option.some.injEq,Prod.mk.injEq] at h;obtain ⟨rfl,rfl⟩:=h
    have hb:=B9 ho.1
    have e4:es=P.cellsOf e:=Nat.eq_of_beq_eq_true e2
    have hst:=B7 e1
    cases hx with
    | imm _ _ _ _ _ _ cap bl o u ha hbl hc hv hl hr hk hg =>
      refine .plain (uz hu e3 _ _ _ q k hb) ?_
      have:o+i*kk+k.toNat*P.cellsOf e=o+((i+k.toNat*s)*kk+0):=by rw [←e4,←hst,Nat.add_mul,Nat.mul_assoc];omega
      rw [kY,this,iM,xt]
      exact .iptr _ _ _ _ _ bl o u ha hbl hc hv hr hk hg
    | immEnd=>omega
  · rename_i e b kk es i len cap hu
    split at h
    case h_2=>cases h
    rename_i s inf e1 e2 e3
    simp only [Option.some.injEq,Prod.mk.injEq] at h;obtain ⟨rfl,rfl⟩:=h
    have hb:=B9 ho.1
    have e4:es=P.cellsOf e:=Nat.eq_of_beq_eq_true e2
    have hst:=B7 e1
    cases hx with
    | sl _ _ _ _ _ _ cap' hbo hcap hl c ty hh hs =>
      refine .plain (uz hu e3 _ _ _ q k hb) ?_
      have:i*kk+k.toNat*P.cellsOf e=(i+k.toNat*s)*kk+0:=by rw [←e4,←hst,Nat.add_mul,Nat.mul_assoc];omega
      rw [kY,this,iM,xt]
      exact .ptr _ _ _ _ hbo
    | slEnd=>omega
  · rename_i n e b kk i j hu
    split at h
    case h_2=>cases h
    rename_i ie e3
    simp only [Option.some.injEq,Prod.mk.injEq] at h;obtain ⟨rfl,rfl⟩:=h
    have hb:=B9 ho.1
    have hs:P.cellsOf e=ie.size:=by simp [Program.cellsOf,e3]
    cases hx with
    | ptr _ _ _ _ hbo =>
      refine .plain (uA hu e3 _ q k hb) ?_
      rw [kY,hs,iM,xt,Nat.add_assoc]
      exact .ptr _ _ _ _ hbo
  · rename_i n e bw d kk i j hu
    split at h
    case h_2=>cases h
    rename_i ie e3
    simp only [Option.some.injEq,Prod.mk.injEq] at h;obtain ⟨rfl,rfl⟩:=h
    have hb:=B9 ho.1
    have hs:P.cellsOf e=ie.size:=by simp [Program.cellsOf,e3]
    cases hx with
    | iptr _ _ _ _ _ bl o u ha hbl hc hv hr hk hg =>
      refine .plain (uA hu e3 _ q k hb) ?_
      rw [kY,hs,iM,xt,Nat.add_assoc,Nat.add_assoc]
      exact .iptr _ _ _ _ _ bl o u ha hbl hc hv hr hk hg
  · cases h
theorem Rm{P:Program}{ρ:ac}{w:World}{t:TypeId}{x ix:AV}{x' ix':Value}{v:AV}{obs:List Bool}(hx:VR ρ w x x')(hi:VR ρ w ix ix') 
    (h:XV P t x ix=some (v,obs)) (ho:aB obs):jl P ρ w (Instr.index t x' ix') v:=by
  unfold XV at h
  split at h
  case h_2=>cases h
  rename_i q k
  cases hi
  split at h
  · rename_i s hu
    simp only [Option.some.injEq,Prod.mk.injEq] at h;obtain ⟨rfl,rfl⟩:=h
    have hb:=B9 ho.1
    cases hx
    have hlt:k.toNat<s.size:=by omega
    have hlt':k.toNat<s.data.size:=hlt
    have be:s[k.toNat]? = some (s.data[k.toNat]'hlt'):=by
      rw [getElem?_pos s k.toNat hlt];rfl
    refine .plain (u:=.int .u8 (XU s k.toNat)) ?_ (.int _ _)
    simp [Instr.index,asIntOf,run_underlying hu,hb.1,be,XU,Array.getElem?_eq_getElem hlt']
  · rename_i n e l hu
    split at h
    · rename_i ie e3
      simp only [Option.map_eq_some_iff,Prod.mk.injEq] at h
      obtain ⟨v',hp,rfl,rfl⟩:=h
      have hb:=B9 ho.1
      have hs:P.cellsOf e=ie.size:=by simp [Program.cellsOf,e3]
      cases hx with
      | agg _ c hl =>
        rw [←hs] at hp
        obtain ⟨u,kk,hr,hv⟩:=I4 hl hp
        exact ⟨u,kk,by simp [Instr.index,asIntOf,run_underlying hu,hb,run_sizeOf w e3,hr],hv⟩
    · cases h
  · cases h
theorem XW{P:Program}{ρ:ac}{w:World}{t:TypeId}{x:AV}{x':Value}{v:AV}(hx:VR ρ w x x')(h:ag2 P t x=some v)(T:TypeId) :jl P ρ w (Builtin.len_ #[t] T #[x']) v:=by
  unfold ag2 at h
  split at h
  · rename_i s hu;cases h;cases hx;exact .plain (u:=.int .i64 s.size) (by simp [Builtin.len_,run_underlying hu,goInt]) (.int _ _)
  · rename_i n e hu;cases h;exact .plain (u:=.int .i64 n) (by simp [Builtin.len_,run_underlying hu,goInt]) (.int _ _)
  · rename_i e hu;cases h;cases hx;exact .plain (u:=.int .i64 0) (by simp [Builtin.len_,run_underlying hu,goInt]) (.int _ _)
  · rename_i e hu;cases h;cases hx;exact .plain (u:=.int .i64 0) (by simp [Builtin.len_,run_underlying hu,goInt]) (.int _ _)
  · rename_i e b k es i len cap hu
    cases h
    cases hx<;>exact .plain (u:=.int .i64 _) (by simp [Builtin.len_,run_underlying hu,goInt]) (.int _ _)
  · rename_i e bw d k es i len hu
    cases h
    cases hx<;>exact .plain (u:=.int .i64 _) (by simp [Builtin.len_,run_underlying hu,goInt]) (.int _ _)
  · cases h
theorem cV.map{ρ:ac}{w:World}{e:Operand→AV}{g:Operand→Value}(h:∀ x,VR ρ w (e x) (g x)) :∀ l:List Operand,cV ρ w (l.map e) (l.map g)
  | []=>.nil
  | x::l=>.cons _ _ _ _ (h x) (cV.map h l)
theorem kZ{v:Option AV}{u:AV}{obs:List Bool}(h:zC v=some (u,obs)) :v=some u∧obs=[]:=by
  cases v<;>simp [zC] at h
  exact ⟨by rw [h.1],h.2⟩
theorem iG{P:Program}{w:World}(g:Operand→Value)(b:Builtin)(xs:Array Operand)(ts:Array TypeId)(T:TypeId)(s:Sem Next) 
    (h:s=invoke (.builtin b ts T (xs.map fun | .const _=>true | _=>false)) (xs.map g)):(do let d ← resolve g { callee:=.builtin b,args:=xs,argTypes:=ts } T;invoke d.target d.args:Sem Next).run P w=s.run P w:=by
  subst h;rfl
def adF:Value→Bool
  | .int .. | .float .. | .string _ | .bool _ | .slice .. | .pointer _ | .func .. | .nilFunc=>true
  | _=>false
theorem Om{P:Program}{w:World}{op:BinOp}{t:TypeId}{x y:Operand}{a b:Value}(h:adF a=true) :(eqGuard op t x y a b).run P w=.ok () w:=by
  have:eqGuard op t x y a b=pure ():=by
    unfold eqGuard
    cases a<;>first | (cases h;done) | (cases op<;>rfl)
  rw [this];rfl
theorem I5{P:Program}{w:World}{op:BinOp}{t:TypeId}{x y:Operand}{a b:Array Value}(h:P.eqGuardType P.depth t=false) :(eqGuard op t x y (.agg a) (.agg b)).run P w=.ok () w:=by
  cases op<;>first | rfl | simp [eqGuard,h]
theorem Rn{P:Program}{ρ:ac}{w:World}{e:Operand→AV}{g:Operand→Value}(hops:∀ x,VR ρ w (e x) (g x)){o:Oper}{v:AV}{obs:List Bool}{wr:Bool}(h:tp wr P e o.op=some (v,obs))(ho:aB obs) :
    ∃ u k,(execOp g o).run P w=.ok (.value u) { w with drawn:=k }∧VR ρ w v u:=by
  unfold execOp
  generalize o.type=T
  generalize o.op=op at h
  unfold tp at h
  split at h
  · simp only [Option.some.injEq,Prod.mk.injEq] at h;obtain ⟨rfl,rfl⟩:=h
    exact ⟨_,w.drawn,rfl,hops _⟩
  · simp only [Option.some.injEq,Prod.mk.injEq] at h;obtain ⟨rfl,rfl⟩:=h
    exact ⟨_,w.drawn,rfl,hops _⟩
  · rename_i c a b
    obtain ⟨h',rfl⟩:=kZ h
    clear h;have h:=h'
    have hc:=hops c;have ha:=hops a;have hb:=hops b
    simp only
    generalize e c=ec at *;generalize e a=ea at *;generalize e b=eb at *
    generalize g c=gc at *;generalize g a=ga at *;generalize g b=gb at *
    unfold agE at h
    split at h
    · cases h;cases hc;exact ⟨ga,w.drawn,by simp [asBool],ha⟩
    · cases h;cases hc;exact ⟨gb,w.drawn,by simp [asBool],hb⟩
    · rename_i b1 k2 b2 k3 b3
      cases h;cases hc;cases ha;cases hb
      refine ⟨.bool (bif b1 then b2 else b3),w.drawn,by cases b1<;>simp [asBool],.bool _ _⟩
    · rename_i c1 k1 x k2 y
      cases hs:cJ k1 k2 with
      | false=>rw [hs] at h;cases h
      | true =>
        rw [hs] at h
        have:k1=k2:=of_decide_eq_true hs
        subst this
        cases h;cases hc;cases ha;cases hb
        refine ⟨.int k1 (bif c1 then x else y),w.drawn,by cases c1<;>simp [asBool],.int _ _⟩
    · cases h
  · rename_i x
    have hx:=hops x
    simp only
    generalize e x=ex at *;generalize g x=gx at *
    split at h
    · simp only [Option.some.injEq,Prod.mk.injEq] at h;obtain ⟨rfl,rfl⟩:=h
      cases hx with | ptr _ _ _ _ hb=>exact ⟨_,w.drawn,rfl,.ptr _ _ _ _ hb⟩
    · simp only [Option.some.injEq,Prod.mk.injEq] at h;obtain ⟨rfl,rfl⟩:=h
      cases hx with | iptr _ _ _ _ _ bl o u ha hbl hc hv hr hk hg=>exact ⟨_,w.drawn,rfl,.iptr _ _ _ _ _ bl o u ha hbl hc hv hr hk hg⟩
    · simp only [Option.some.injEq,Prod.mk.injEq] at h;obtain ⟨rfl,rfl⟩:=h
      cases hx with | fn _ _ _ _ _ h1 h2=>exact ⟨_,w.drawn,rfl,.fn _ _ _ _ _ h1 h2⟩
    · cases h
  · rename_i bop t x y yt
    obtain ⟨u,k,hr,hv⟩:=XS (hops x) (hops y) h ho
    refine ⟨u,k,?_,hv⟩
    apply cX
    have hg:(eqGuard bop t x y (g x) (g y)).run P w=.ok () w:=by
      have hx:=hops x
      have hy:=hops y
      generalize e x=ex at *;generalize e y=ey at *
      generalize g x=gx at *;generalize g y=gy at *
      clear hr
      have pl:adF gx=true→(eqGuard bop t x y gx gy).run P w=.ok () w:=Om
      unfold adz at h
      split at h<;>first | (cases h;done) | (refine pl ?_;cases hx<;>rfl) | skip
      · cases ht:AJ P t with
        | false=>rw [ht] at h;cases h
        | true =>
          obtain ⟨c,rfl⟩:=nW hx
          obtain ⟨c',rfl⟩:=nW hy
          exact I5 (I3 ht)
      · cases ht:AJ P t with
        | false=>rw [ht] at h;cases h
        | true =>
          obtain ⟨c,rfl⟩:=nW hx
          obtain ⟨c',rfl⟩:=nW hy
          exact I5 (I3 ht)
      · split at h
        · obtain ⟨b,hr,hop⟩:=nV h
          obtain ⟨a,l,c,e⟩:=Fl hx hr
          refine pl ?_;rw [e];rfl
        · cases h
      · split at h
        · obtain ⟨b,hr,hop⟩:=nV h
          obtain ⟨a,e⟩:=Dm hx hr
          refine pl ?_;rw [e];rfl
        · cases h
      · split at h
        · obtain ⟨b,hr,hop⟩:=nV h
          rcases Fm hx hr with ⟨f,c,d,e⟩ | e<;>(refine pl ?_;rw [e];rfl)
        · cases h
    simp only [Sem.run_bind,hg,Result.andThen_ok,hr]
  · rename_i uop t x
    obtain ⟨u,k,hr,hv⟩:=acf (P:=P) (hops x) h ho
    exact ⟨u,k,cX hr,hv⟩
  · rename_i s d x
    obtain ⟨u,k,hr,hv⟩:=T1 (hops x) h ho
    exact ⟨u,k,cX hr,hv⟩
  · rename_i t x
    split at h
    · cases h
    · cases h
    · rename_i d n hu
      simp only [Option.some.injEq,Prod.mk.injEq] at h;obtain ⟨rfl,rfl⟩:=h
      refine ⟨.iface t (g x),w.drawn,cX ?_,.iface _ _ _ (hops x)⟩
      cases d<;>simp_all [Instr.makeInterface,run_underlying hu]
  · rename_i fn first caps
    simp only [Option.some.injEq,Prod.mk.injEq] at h;obtain ⟨rfl,rfl⟩:=h
    refine ⟨.func fn (first.map g) (caps.map g),w.drawn,cX rfl,.fn _ _ _ _ _ ?_ ?_⟩
    · simpa using cV.map hops first.toList
    · simpa using cV.map hops caps.toList
  · rename_i t x lo hi
    obtain ⟨u,k,hr,hv⟩:=Rk hops (hops x) h ho
    exact ⟨u,k,cX hr,hv⟩
  · rename_i t x lo hi mx
    obtain ⟨u,k,hr,hv⟩:=Ol hops (hops x) h ho
    exact ⟨u,k,cX hr,hv⟩
  · rename_i s x f
    obtain ⟨h',rfl⟩:=kZ h
    clear h;have h:=h'
    obtain ⟨u,k,hr,hv⟩:=Hc (hops x) h
    exact ⟨u,k,cX hr,hv⟩
  · rename_i t x f
    obtain ⟨h',rfl⟩:=kZ h
    clear h;have h:=h'
    obtain ⟨u,k,hr,hv⟩:=Rl (hops x) h
    exact ⟨u,k,cX hr,hv⟩
  · rename_i t x ix
    obtain ⟨u,k,hr,hv⟩:=Hd (hops x) (hops ix) h ho
    exact ⟨u,k,cX hr,hv⟩
  · rename_i t x ix
    obtain ⟨u,k,hr,hv⟩:=Rm (hops x) (hops ix) h ho
    exact ⟨u,k,cX hr,hv⟩
  · rename_i x i
    have hx:=hops x
    simp only
    generalize e x=ex at *;generalize g x=gx at *
    split at h
    · obtain ⟨h',rfl⟩:=kZ h
      clear h;have h:=h'
      cases hx with
      | tup _ c hl =>
        obtain ⟨u,h1,h2⟩:=hl.get i v h
        rw [Array.getElem?_toList] at h1
        exact ⟨u,w.drawn,cX (by simp [Instr.extract,h1]),h2⟩
    · cases h
  · rename_i xs ts
    split at h
    · rename_i x t hx ht
      obtain ⟨h',rfl⟩:=kZ h
      clear h;have h:=h'
      obtain ⟨u,k,hr,hv⟩:=XW (hops x) h T
      refine ⟨u,k,?_,hv⟩
      have e1:xs = #[x]:=by rw [←hx]
      have e2:ts = #[t]:=by rw [←ht]
      subst e1;subst e2
      have:=cX hr
      simp only [iG g .len #[x] #[t] T _ rfl]
      simpa [invoke,builtin] using this
    · cases h
  · rename_i xs ts
    split at h
    · rename_i x l hx
      obtain ⟨h',rfl⟩:=kZ h
      obtain ⟨u,kd,hr,hv⟩:=Lg (P:=P) (hops x) (cV.map hops l) h'
      refine ⟨u,kd,?_,hv⟩
      have e1:xs=(x::l).toArray:=by rw [←hx]
      subst e1
      have hr2:(Builtin.max_ ts T ((x::l).toArray.map g)).run P w=.ok u { w with drawn:=kd }:=by simpa [Builtin.max_] using hr
      have:=cX hr2
      simp only [iG g .max (x::l).toArray ts T _ rfl]
      simpa [invoke,builtin] using this
    · cases h
  · rename_i xs ts
    split at h
    · rename_i x l hx
      obtain ⟨h',rfl⟩:=kZ h
      obtain ⟨u,kd,hr,hv⟩:=Lh (P:=P) (hops x) (cV.map hops l) h'
      refine ⟨u,kd,?_,hv⟩
      have e1:xs=(x::l).toArray:=by rw [←hx]
      subst e1
      have hr2:(Builtin.min_ ts T ((x::l).toArray.map g)).run P w=.ok u { w with drawn:=kd }:=by simpa [Builtin.min_] using hr
      have:=cX hr2
      simp only [iG g .min (x::l).toArray ts T _ rfl]
      simpa [invoke,builtin] using this
    · cases h
  · cases h
def fD(i n:Nat) :Bool:=decide (i<n)
def gL.rd(c:gL)(i:Nat) :Option (AV×List Bool) :=
  match c with
  | .cf xs=>some (.flt false (xs.getD i 0),[fD i xs.length])
  | .ci k xs=>some (.int k (xs.getD i 0),[fD i xs.length])
  | .cb xs=>some (.bool false (xs.getD i false),[fD i xs.length])
  | .cs xs=>some (.str (xs.getD i .empty),[fD i xs.length])
  | .cfl xs=>some (.imm .free (.fl (xs.getD i [])) 1 1 0 (xs.getD i []).length,[fD i xs.length])
  | .cns k xs=>some (.imm .free (.ns k (xs.getD i [])) 1 1 0 (xs.getD i []).length,[fD i xs.length])
def aD.rd(d:aD)(w i j:Nat) :Option (AV×List Bool) :=
  match d with
  | .fl xs=>bif Nat.beq w 1 then some (.flt false (xs.getD (fc j i) 0),[fD (fc j i) xs.length]) else none
  | .ns k xs=>bif Nat.beq w 1 then some (.int k (xs.getD (fc j i) 0),[fD (fc j i) xs.length]) else none
  | .bs xs=>bif Nat.beq w 1 then some (.bool false (xs.getD (fc j i) false),[fD (fc j i) xs.length]) else none
  | .ss xs=>bif Nat.beq w 1 then some (.str (xs.getD (fc j i) .empty),[fD (fc j i) xs.length]) else none
  | .vs xs=>bif Nat.beq w 1 then zC (xs[fc j i]?) else none
  | .rows w' n get=>bif Nat.beq w w'&&Nat.blt j w then some (get i j,[fD i n]) else none
  | .cols n cs=>bif Nat.beq w cs.length then (cs[j]?).bind fun c=>c.rd i else none
theorem qP{α:Type}{xs:List α}{i:Nat}{d:α}(h:fD i xs.length=true) :xs[i]? = some (xs.getD i d):=by
  have:i<xs.length:=of_decide_eq_true h
  rw [List.getD_eq_getElem?_getD,List.getElem?_eq_getElem this];rfl
theorem gL.rd_spec{c:gL}{i:Nat}{v:AV}{obs:List Bool}(h:c.rd i=some (v,obs))(ho:aB obs) :c.cell? i=some v:=by
  cases c<;>simp only [gL.rd,Option.some.injEq,Prod.mk.injEq] at h<;>obtain ⟨rfl,rfl⟩:=h
  · simp only [gL.cell?,qP (d:=0) ho.1,Option.map_some]
  · simp only [gL.cell?,qP (d:=0) ho.1,Option.map_some]
  · simp only [gL.cell?,qP (d:=false) ho.1,Option.map_some]
  · simp only [gL.cell?,qP (d:=ByteArray.empty) ho.1,Option.map_some]
  · simp only [gL.cell?,qP (d:=[]) ho.1,Option.map_some]
  · simp only [gL.cell?,qP (d:=[]) ho.1,Option.map_some]
theorem P6{w i j:Nat}(e2:j<w) :(i*w+j)/w=i∧(i*w+j)%w=j :=
  ⟨by rw [Nat.add_comm,Nat.add_mul_div_right _ _ (by omega),Nat.div_eq_of_lt e2,Nat.zero_add],by rw [Nat.add_comm,Nat.add_mul_mod_self_right,Nat.mod_eq_of_lt e2]⟩
theorem aD.rd_spec{d:aD}{w i j:Nat}{v:AV}{obs:List Bool}(h:d.rd w i j=some (v,obs))(ho:aB obs) :d.cell? (i*w+j)=some v:=by
  have one:∀ {α:Type} {x y:α},(bif Nat.beq w 1 then some x else none)=some y→w=1∧x=y:=by
    intro α x y h
    cases e:Nat.beq w 1 with
    | true=>rw [e] at h;cases h;exact ⟨Nat.eq_of_beq_eq_true e,rfl⟩
    | false=>rw [e] at h;cases h
  cases d with
  | fl xs=>obtain ⟨e1,h'⟩:=one h;subst e1;obtain ⟨rfl,rfl⟩:=Prod.mk.inj h';have:=qP (d:=0) ho.1;simp only [iM] at this ⊢;rw [Nat.mul_one,Nat.add_comm];simp only [aD.cell?,this,Option.map_some]
  | ns k xs=>obtain ⟨e1,h'⟩:=one h;subst e1;obtain ⟨rfl,rfl⟩:=Prod.mk.inj h';have:=qP (d:=0) ho.1;simp only [iM] at this ⊢;rw [Nat.mul_one,Nat.add_comm];simp only [aD.cell?,this,Option.map_some]
  | bs xs=>obtain ⟨e1,h'⟩:=one h;subst e1;obtain ⟨rfl,rfl⟩:=Prod.mk.inj h';have:=qP (d:=false) ho.1;simp only [iM] at this ⊢;rw [Nat.mul_one,Nat.add_comm];simp only [aD.cell?,this,Option.map_some]
  | ss xs=>obtain ⟨e1,h'⟩:=one h;subst e1;obtain ⟨rfl,rfl⟩:=Prod.mk.inj h';have:=qP (d:=ByteArray.empty) ho.1;simp only [iM] at this ⊢;rw [Nat.mul_one,Nat.add_comm];simp only [aD.cell?,this,Option.map_some]
  | vs xs =>
    simp only [aD.rd] at h
    cases e:Nat.beq w 1 with
    | false=>rw [e] at h;cases h
    | true =>
      rw [e] at h
      obtain ⟨h',rfl⟩:=kZ h
      have:=Nat.eq_of_beq_eq_true e
      subst this
      simp only [iM] at h'
      rw [Nat.mul_one,Nat.add_comm];simp only [aD.cell?,h']
  | rows w' n get =>
    simp only [aD.rd] at h
    cases e:(Nat.beq w w'&&Nat.blt j w) with
    | false=>rw [e] at h;cases h
    | true =>
      rw [e] at h
      simp only [cond_true,Option.some.injEq,Prod.mk.injEq] at h;obtain ⟨rfl,rfl⟩:=h
      rw [Bool.and_eq_true] at e
      have e1:=Nat.eq_of_beq_eq_true e.1
      subst e1
      have e2:j<w:=by have:=e.2;simpa [Nat.blt_eq] using this
      have hi:i<n:=of_decide_eq_true ho.1
      have q1:(i*w+j)/w=i:=by rw [Nat.add_comm,Nat.add_mul_div_right _ _ (by omega),Nat.div_eq_of_lt e2,Nat.zero_add]
      have q2:(i*w+j)%w=j:=by rw [Nat.add_comm,Nat.add_mul_mod_self_right,Nat.mod_eq_of_lt e2]
      simp [aD.cell?,q1,q2,hi]
  | cols n cs =>
    simp only [aD.rd] at h
    cases e:Nat.beq w cs.length with
    | false=>rw [e] at h;cases h
    | true =>
      rw [e] at h
      have:=Nat.eq_of_beq_eq_true e
      subst this
      simp only [cond_true,Option.bind_eq_some_iff] at h
      obtain ⟨c,h1,h2⟩:=h
      have e2:j<cs.length:=(List.getElem?_eq_some_iff.1 h1).1
      obtain ⟨q1,q2⟩:=P6 (i:=i) e2
      simp only [aD.cell?,q1,q2,h1,Option.bind_some]
      exact gL.rd_spec h2 ho
def aD.rdN(d:aD)(w i:Nat) :Nat→Nat→Option (List AV×List Bool)
  | 0,_=>some ([],[])
  | n+1,j =>
    match d.rd w i j,d.rdN w i n (j+1) with
    | some (v,o),some (l,o')=>some (v::l,o++o')
    | _,_=>none
theorem bh{a b:List Bool} :aB (a++b)↔aB a∧aB b:=by
  induction a with
  | nil=>simp [aB]
  | cons x l ih=>simp [aB,ih,and_assoc]
theorem Fp{d:aD}{w i:Nat} :∀ {n j:Nat} {l:List AV} {obs:List Bool},d.rdN w i n j=some (l,obs)→aB obs→l.length=n∧∀ x,x<n→d.cell? (i*w+j+x)=l[x]?
  | 0,j,l,obs,h,_=>by simp [aD.rdN] at h;obtain ⟨rfl,rfl⟩:=h;exact ⟨rfl,fun x hx=>by omega⟩
  | n+1,j,l,obs,h,ho=>by
    simp only [aD.rdN] at h
    split at h
    · rename_i v o l' o' h1 h2
      simp only [Option.some.injEq,Prod.mk.injEq] at h;obtain ⟨rfl,rfl⟩:=h
      rw [bh] at ho
      have s1:=aD.rd_spec h1 ho.1
      obtain ⟨s2,s3⟩:=Fp h2 ho.2
      refine ⟨by simp [s2],fun x hx=>?_⟩
      cases x with
      | zero=>simpa using s1
      | succ x=>have:=s3 x (by omega);rw [show i*w+j+(x+1)=i*w+(j+1)+x from by omega];simpa using this
    · cases h
theorem uB{P:Program}{w:World}(bl o:Nat) :∀ (n i:Nat) (us:List Value) (acc:Array Value),us.length=n→(∀ x,x<n→w.cell? ⟨bl,o+i+x,none⟩=us[x]?) →
    (loadCellsFrom ⟨bl,o,none⟩ i n acc).run P w=.ok (acc++us.toArray) w
  | 0,i,us,acc,hl,_=>by
    have:us=[]:=List.length_eq_zero_iff.1 hl
    subst this;simp [loadCellsFrom]
  | n + 1, i, us, acc, hl, h => by
    match us,hl with
    | u::us,hl =>
      have h0:=h 0 (by omega)
      simp at h0
      have ih:=uB (P:=P) (w:=w) bl o n (i+1) us (acc.push u) (by simpa using hl) (fun x hx=>by
        have:=h (x+1) (by omega);rw [show o+(i+1)+x=o+i+(x+1) from by omega];simpa using this)
      have hld:(load (Addr.add ⟨bl,o,none⟩ i)).run P w=.ok u w:=by rw [kY];simp [load,Sem.run,h0]
      simp only [loadCellsFrom,Sem.run_bind,hld,Result.andThen_ok,ih]
      simp
theorem tq{ρ:ac}{w:World} :∀ {l:List AV} {us:List Value},us.length=l.length→(∀ (x:Nat) (v:AV) (u:Value),l[x]? = some v→us[x]? = some u→VR ρ w v u)→cV ρ w l us
  | [],[],_,_=>.nil
  | v::l,u::us,hl,h=>.cons _ _ _ _ (h 0 v u rfl rfl) (tq (by simpa using hl) fun x v u h1 h2=>h (x+1) v u (by simpa using h1) (by simpa using h2))
  | [],_::_,hl,_=>by cases hl
  | _::_,[],hl,_=>by cases hl
theorem T3{ρ:ac}{w:World}{bl o:Nat}{d:aD}{k i n j:Nat}{l:List AV}{obs:List Bool}(hc:∀ x v,d.cell? x=some v→∃ u,w.cell? ⟨bl,o+x,none⟩=some u∧VR ρ w v u) 
    (h:d.rdN k i n j=some (l,obs)) (ho:aB obs):∃ us:List Value,us.length=n∧(∀ x,x<n→w.cell? ⟨bl,o+(i*k+j)+x,none⟩=us[x]?)∧cV ρ w l us:=by
  obtain ⟨hl,hx⟩:=Fp h ho
  have each:∀ x,x<n→∃ v u,l[x]? = some v∧w.cell? ⟨bl,o+(i*k+j)+x,none⟩=some u∧VR ρ w v u:=by
    intro x hlt
    have h1:=hx x hlt
    rw [List.getElem?_eq_getElem (by omega)] at h1
    obtain ⟨u,h2,h3⟩:=hc _ _ h1
    refine ⟨l[x],u,List.getElem?_eq_getElem (by omega),?_,h3⟩
    rw [show o+(i*k+j)+x=o+(i*k+j+x) from by omega];exact h2
  refine ⟨(List.range n).map fun x=>(w.cell? ⟨bl,o+(i*k+j)+x,none⟩).getD undef,by simp,fun x hlt=>?_,tq (by simp [hl]) ?_⟩
  · obtain ⟨v,u,_,h2,_⟩:=each x hlt
    rw [List.getElem?_map,List.getElem?_range hlt];simp [h2]
  · intro x v u h1 h2
    have hlt:x<n:=by
      rcases Nat.lt_or_ge x n with q | q
      · exact q
      · rw [List.getElem?_eq_none (by omega)] at h1;cases h1
    obtain ⟨v',u',q1,q2,q3⟩:=each x hlt
    rw [List.getElem?_map,List.getElem?_range hlt] at h2
    simp [q2] at h2
    rw [h1] at q1;cases q1;subst h2;exact q3
def Dn(P:Program)(g:Nat→Option aD)(t:TypeId)(x:AV) :Option (AV×List Bool×List Nat) :=
  let go (d:aD) (w i j:Nat):Option (AV×List Bool) :=
    match TZ P t,P.info? t with
    | some true,some inf=>(d.rdN w i inf.size j).map fun r=>(.agg r.1,r.2)
    | some false,some _=>d.rd w i j
    | _,_=>none
  match x with
  | .ptr b w i j=>match g b with
    | some d=>(go d w i j).map fun r=>(r.1,r.2,[b])
    | none=>none
  | .iptr _ d w i j=>(go d w i j).map fun r=>(r.1,r.2,[])
  | _=>none
def aaW(P:Program)(ρ:ac)(w:World)(s:Sem Value)(v:AV) :Prop:=∃ u,s.run P w=.ok u w∧VR ρ w v u
theorem aaW.plain{P:Program}{ρ:ac}{w:World}{s:Sem Value}{v:AV}{u:Value}(h:s.run P w=.ok u w)(hv:VR ρ w v u) :aaW P ρ w s v:=⟨u,h,hv⟩
theorem I6{P:Program}{ρ:ac}{w:World}{h:bN}{n:Nat}(hh:HR ρ w h n){t:TypeId}{x:AV}{x':Value}{v:AV}{obs:List Bool}{rs:List Nat}(hx:VR ρ w x x') 
    (hl:Dn P (be h) t x=some (v,obs,rs)) (ho:aB obs):aaW P ρ w (Instr.loadAt t x') v:=by
  have go:∀ (d:aD) (k i j bl o:Nat),(∀ x v,d.cell? x=some v→∃ u,w.cell? ⟨bl,o+x,none⟩=some u∧VR ρ w v u) →
      (match TZ P t,P.info? t with
        | some true,some inf=>(d.rdN k i inf.size j).map fun r=>(AV.agg r.1,r.2)
        | some false,some _=>d.rd k i j
        | _,_=>none)=some (v,obs)→aaW P ρ w (Instr.loadAt t (.pointer (some ⟨bl,o+(i*k+j),none⟩))) v:=by
    intro d k i j bl o hc hg
    split at hg
    · rename_i inf ha hi
      simp only [Option.map_eq_some_iff,Prod.mk.injEq] at hg
      obtain ⟨⟨l,o'⟩,h1,rfl,rfl⟩:=hg
      obtain ⟨us,q1,q2,q3⟩:=T3 hc h1 ho
      refine .plain (u:=.agg us.toArray) ?_ (.agg _ _ (by simpa using q3))
      have hs:P.cellsOf t=inf.size:=by simp [Program.cellsOf,hi]
      have:=uB (P:=P) (w:=w) bl (o+(i*k+j)) inf.size 0 us #[] q1 (by simpa using q2)
      simp only [Instr.loadAt,Instr.sureAddr,loadVar,Sem.run_bind,Sem.run_pure,Result.andThen_ok,Ca ha,if_true,run_sizeOf w hi,hs,loadCells,this]
      simp
    · rename_i inf ha hi
      have s:=aD.rd_spec hg ho
      obtain ⟨u,h2,h3⟩:=hc _ _ s
      refine .plain (u:=u) ?_ h3
      simp [Instr.loadAt,Instr.sureAddr,loadVar,Ca ha,load,Sem.run,h2]
    · cases hg
  unfold Dn at hl
  simp only at hl
  split at hl
  · rename_i b k i j
    split at hl
    · rename_i d hd
      simp only [Option.map_eq_some_iff,Prod.mk.injEq] at hl
      obtain ⟨⟨v',o'⟩,h1,rfl,rfl,rfl⟩:=hl
      cases hx with | ptr _ _ _ _ hok =>
      obtain ⟨_,_,c,ty,hc,hv⟩:=hh.real hd hok
      have:=go d k i j (ρ.at_ b) 0 (fun x v hx=>by
        obtain ⟨u,h1,h2⟩:=hv x v hx
        exact ⟨u,by simp [World.cell?,hc,h1],h2⟩) h1
      simpa using this
    · cases hl
  · rename_i bw d k i j
    simp only [Option.map_eq_some_iff,Prod.mk.injEq] at hl
    obtain ⟨⟨v',o'⟩,h1,rfl,rfl,rfl⟩:=hl
    cases hx with
    | iptr _ _ _ _ _ bl o u ha hb hc hv hr hk hg =>
      exact go d k i j bl o (fun x v hx=>⟨u x,hc x v hx,hv x v hx⟩) h1
  · cases hl
theorem T4{P:Program}{ρ:ac}{w:World}{h:bN}{n:Nat}(hh:HR ρ w h n){t:TypeId}{x:AV}{x':Value}{v:AV}{obs:List Bool}{rs:List Nat}(hx:VR ρ w x x') 
    (hl:Dn P (be h) t x=some (v,obs,rs)) (ho:aB obs):jl P ρ w (Instr.loadAt t x') v :=
  let ⟨_,h1,h2⟩:=I6 hh hx hl ho;.plain h1 h2
def gL.wr(c:gL)(i:Nat)(v:AV) :Option (gL×List Bool) :=
  match c,v with
  | .cf xs,.flt _ x=>some (.cf (xs.set i x),[fD i xs.length])
  | .ci k xs,.int k' x=>bif cJ k k' then some (.ci k (xs.set i x),[fD i xs.length]) else none
  | .cb xs,.bool _ x=>some (.cb (xs.set i x),[fD i xs.length])
  | .cs xs,.str x=>some (.cs (xs.set i x),[fD i xs.length])
  | .cfl xs,.nsl=>some (.cfl (xs.set i []),[fD i xs.length])
  | .cfl xs,.imm l (.fl ys) 1 1 o n=>bif l.isFree then some (.cfl (xs.set i ((ys.drop o).take n)),[fD i xs.length,decide (o+n≤ys.length)]) else none
  | .cns k xs,.nsl=>some (.cns k (xs.set i []),[fD i xs.length])
  | .cns k xs,.imm l (.ns k' ys) 1 1 o n=>bif cJ k k'&&l.isFree then some (.cns k (xs.set i ((ys.drop o).take n)),[fD i xs.length,decide (o+n≤ys.length)]) else none
  | _,_=>none
def aD.wr(d:aD)(w i j:Nat)(v:AV) :Option (aD×List Bool) :=
  match d,v with
  | .fl xs,.flt _ x=>bif Nat.beq w 1 then some (.fl (xs.set (fc j i) x),[fD (fc j i) xs.length]) else none
  | .ns k xs,.int k' x=>bif Nat.beq w 1&&cJ k k' then some (.ns k (xs.set (fc j i) x),[fD (fc j i) xs.length]) else none
  | .bs xs,.bool _ x=>bif Nat.beq w 1 then some (.bs (xs.set (fc j i) x),[fD (fc j i) xs.length]) else none
  | .ss xs,.str x=>bif Nat.beq w 1 then some (.ss (xs.set (fc j i) x),[fD (fc j i) xs.length]) else none
  | .vs xs,v=>bif Nat.beq w 1&&Nat.blt (fc j i) xs.length then some (.vs (xs.set (fc j i) v),[]) else none
  | .rows w' n get,v=>bif Nat.beq w w'&&(Nat.blt j w&&(v.kept&&v.one)) then some (.rows w' n (fun a c=>bif Nat.beq a i&&Nat.beq c j then v else get a c),[fD i n]) else none
  | .cols n cs,v=>bif Nat.beq w cs.length then (cs[j]?).bind fun c=>(c.wr i v).map fun r=>(.cols n (cs.set j r.1),r.2) else none
  | _,_=>none
def bp(v e:AV) :Prop:=∀ (ρ:ac) (w:World) (u:Value),VR ρ w v u→VR ρ w e u
theorem bp.refl(v:AV) :bp v v:=fun _ _ _ h=>h
theorem Fq{l:Lv}{ys:List Nat}{o n:Nat}(hl:l.isFree=true)(h:o+n≤ys.length) :bp (.imm l (.fl ys) 1 1 o n) (.imm .free (.fl ((ys.drop o).take n)) 1 1 0 ((ys.drop o).take n).length):=by
  intro ρ w u hv
  have hlen:((ys.drop o).take n).length=n:=by simp;omega
  rw [hlen]
  cases hv with
  | imm _ _ _ _ _ _ cap bl o' u' ha hb hc hv' hl' hr hk hg =>
    have:=VR.imm (ρ:=ρ) (w:=w) .free (.fl ((ys.drop o).take n)) 1 1 0 n cap bl (o'+o) (fun x=>u' (o+x)) (fun j hj=>pY (O:=ρ.own) hl ha j hj) hb
      (fun x v hx=>by
        simp only [aD.cell?,Option.map_eq_some_iff,List.getElem?_take,List.getElem?_drop] at hx
        obtain ⟨y,h1,h2⟩:=hx
        split at h1
        · rw [Nat.add_assoc];exact hc (o+x) v (by simp [aD.cell?,h1,h2])
        · cases h1)
      (fun x v hx=>by
        simp only [aD.cell?,Option.map_eq_some_iff,List.getElem?_take,List.getElem?_drop] at hx
        obtain ⟨y,h1,h2⟩:=hx
        split at h1
        · exact hv' (o+x) v (by simp [aD.cell?,h1,h2])
        · cases h1) hl' trivial (fun _=>rfl) rfl
    simpa using this
  | immEnd=>exact .immEnd _ _ _ _ _ _ _ trivial (fun _=>rfl) rfl
theorem Fr{l:Lv}{k:IntKind}{ys:List Int}{o n:Nat}(hl:l.isFree=true)(h:o+n≤ys.length) :bp (.imm l (.ns k ys) 1 1 o n) (.imm .free (.ns k ((ys.drop o).take n)) 1 1 0 ((ys.drop o).take n).length):=by
  intro ρ w u hv
  have hlen:((ys.drop o).take n).length=n:=by simp;omega
  rw [hlen]
  cases hv with
  | imm _ _ _ _ _ _ cap bl o' u' ha hb hc hv' hl' hr hk hg =>
    have:=VR.imm (ρ:=ρ) (w:=w) .free (.ns k ((ys.drop o).take n)) 1 1 0 n cap bl (o'+o) (fun x=>u' (o+x)) (fun j hj=>pY (O:=ρ.own) hl ha j hj) hb
      (fun x v hx=>by
        simp only [aD.cell?,Option.map_eq_some_iff,List.getElem?_take,List.getElem?_drop] at hx
        obtain ⟨y,h1,h2⟩:=hx
        split at h1
        · rw [Nat.add_assoc];exact hc (o+x) v (by simp [aD.cell?,h1,h2])
        · cases h1)
      (fun x v hx=>by
        simp only [aD.cell?,Option.map_eq_some_iff,List.getElem?_take,List.getElem?_drop] at hx
        obtain ⟨y,h1,h2⟩:=hx
        split at h1
        · exact hv' (o+x) v (by simp [aD.cell?,h1,h2])
        · cases h1) hl' trivial (fun _=>rfl) rfl
    simpa using this
  | immEnd=>exact .immEnd _ _ _ _ _ _ _ trivial (fun _=>rfl) rfl
theorem wH(d:aD)(hr:d.recKept)(hk:d.kept=true)(hg:d.foreign=true) :bp .nsl (.imm .free d 1 1 0 0):=by
  intro ρ w u hv;cases hv;exact .immEnd _ _ _ _ _ _ _ hr (fun _=>hk) hg
def aD.weak(d:aD)(v:AV) :AV :=
  match d,v with
  | .fl _,.flt _ x=>.flt false x
  | .bs _,.bool _ x=>.bool false x
  | _,v=>v
theorem sJ{d:aD}{v:AV} :bp v (d.weak v):=by
  intro ρ w u h
  unfold aD.weak
  split
  · cases h with | flt _ _ y hf =>
    refine .flt _ _ _ ?_
    rcases hf with rfl | ⟨_,h2,h3⟩
    · exact .inl rfl
    · exact .inr ⟨rfl,h2,h3⟩
  · cases h;exact .bool _ _
  · exact h
theorem wI{α:Type}{f:α→AV}{xs:List α}{i:Nat}{x:α}(hi:i<xs.length) :
    (∃ e,(xs[i]?).map f=some e)∧∀ y e,((xs.set i x)[y]?).map f=some e→(y=i∧e=f x)∨(y≠i∧(xs[y]?).map f=some e):=by
  refine ⟨⟨f xs[i],by simp [hi]⟩,fun y e h=>?_⟩
  rw [List.getElem?_set] at h
  by_cases hy:i=y
  · subst hy;simp [hi] at h;exact .inl ⟨rfl,h.symm⟩
  · rw [if_neg hy] at h;exact .inr ⟨fun q=>hy q.symm,h⟩
theorem gL.wr_spec{c c':gL}{i:Nat}{v:AV}{obs:List Bool}(h:c.wr i v=some (c',obs))(ho:aB obs) :
    (∃ e,c.cell? i=some e)∧(∀ y e,c'.cell? y=some e→(y=i∧bp v e)∨(y≠i∧c.cell? y=some e)):=by
  have pQ:∀ {α:Type} {f:α→AV} {xs:List α} {x:α},fD i xs.length=true→bp v (f x)→(∃ e,(xs[i]?).map f=some e)∧∀ y e,((xs.set i x)[y]?).map f=some e→(y=i∧bp v e)∨(y≠i∧(xs[y]?).map f=some e):=by
    intro α f xs x h1 h2
    obtain ⟨q1,q2⟩:=wI (f:=f) (x:=x) (of_decide_eq_true h1:i<xs.length)
    exact ⟨q1,fun y e hy=>(q2 y e hy).imp (fun q=>⟨q.1,by rw [q.2];exact h2⟩) id⟩
  unfold gL.wr at h
  split at h
  · simp only [Option.some.injEq,Prod.mk.injEq] at h;obtain ⟨rfl,rfl⟩:=h
    exact pQ ho.1 (sJ (d:=.fl []))
  · rename_i k xs k' x
    cases e:cJ k k' with
    | false=>rw [e] at h;cases h
    | true =>
      rw [e] at h;simp only [cond_true,Option.some.injEq,Prod.mk.injEq] at h;obtain ⟨rfl,rfl⟩:=h
      have hk:k=k':=of_decide_eq_true e
      subst hk
      exact pQ ho.1 (bp.refl _)
  · simp only [Option.some.injEq,Prod.mk.injEq] at h;obtain ⟨rfl,rfl⟩:=h
    exact pQ ho.1 (sJ (d:=.bs []))
  · simp only [Option.some.injEq,Prod.mk.injEq] at h;obtain ⟨rfl,rfl⟩:=h
    exact pQ ho.1 (bp.refl _)
  · simp only [Option.some.injEq,Prod.mk.injEq] at h;obtain ⟨rfl,rfl⟩:=h
    exact pQ (f:=fun l=>.imm .free (.fl l) 1 1 0 l.length) ho.1 (wH _ trivial rfl rfl)
  · rename_i xs l ys o n
    cases e:l.isFree with
    | false=>rw [e] at h;cases h
    | true =>
      rw [e] at h;simp only [cond_true,Option.some.injEq,Prod.mk.injEq] at h;obtain ⟨rfl,rfl⟩:=h
      exact pQ (f:=fun l=>.imm .free (.fl l) 1 1 0 l.length) ho.1 (Fq e (of_decide_eq_true ho.2.1))
  · simp only [Option.some.injEq,Prod.mk.injEq] at h;obtain ⟨rfl,rfl⟩:=h
    exact pQ (f:=fun l=>.imm .free (.ns _ l) 1 1 0 l.length) ho.1 (wH _ trivial rfl rfl)
  · rename_i k xs l k' ys o n
    cases e:(cJ k k'&&l.isFree) with
    | false=>rw [e] at h;cases h
    | true =>
      rw [e] at h;simp only [cond_true,Option.some.injEq,Prod.mk.injEq] at h;obtain ⟨rfl,rfl⟩:=h
      rw [Bool.and_eq_true] at e
      have hk:k=k':=of_decide_eq_true e.1
      subst hk
      exact pQ (f:=fun l=>.imm .free (.ns k l) 1 1 0 l.length) ho.1 (Fr e.2 (of_decide_eq_true ho.2.1))
  · cases h
theorem XX{c c':gL}{i:Nat}{v:AV}{obs:List Bool}(h:c.wr i v=some (c',obs)) :c'.len=c.len:=by
  unfold gL.wr at h
  split at h
  case h_2 =>
    rename_i k xs k' x
    cases e:cJ k k'<;>rw [e] at h<;>cases h
    simp [gL.len]
  case h_6 =>
    rename_i xs l ys o n
    cases e:l.isFree<;>rw [e] at h<;>cases h
    simp [gL.len]
  case h_8 =>
    rename_i k xs l k' ys o n
    cases e:(cJ k k'&&l.isFree)<;>rw [e] at h<;>cases h
    simp [gL.len]
  all_goals first | (cases h;simp [gL.len];done) | cases h
theorem aD.wr_spec{d d':aD}{w i j:Nat}{v:AV}{obs:List Bool}(hrk:d.recKept)(h:d.wr w i j v=some (d',obs))(ho:aB obs) :
    d'.recKept∧(∃ e,d.cell? (i*w+j)=some e)∧(∀ y e,d'.cell? y=some e→(y=i*w+j∧bp v e)∨(y≠i*w+j∧d.cell? y=some e)):=by
  have old:∀ {e0:AV} {A:Prop},(d'.recKept∧(∃ e,d.cell? (i*w+j)=some e)∧(∀ y e,d'.cell? y=some e→(y=i*w+j∧e=d.weak v)∨(y≠i*w+j∧d.cell? y=some e))) →
      d'.recKept∧(∃ e,d.cell? (i*w+j)=some e)∧(∀ y e,d'.cell? y=some e→(y=i*w+j∧bp v e)∨(y≠i*w+j∧d.cell? y=some e)) :=
    fun q=>⟨q.1,q.2.1,fun y e hy=>(q.2.2 y e hy).imp (fun r=>⟨r.1,by rw [r.2];exact sJ⟩) id⟩
  have lt:∀ {n:Nat},fD (fc j i) n=true→j+i<n:=fun h=>by have:=of_decide_eq_true h;simpa using this
  unfold aD.wr at h
  split at h
  · rename_i xs ex x
    refine old (e0:=.any) (A:=True) ?_
    cases e:Nat.beq w 1 with
    | false=>rw [e] at h;cases h
    | true =>
      rw [e] at h;simp only [cond_true,Option.some.injEq,Prod.mk.injEq] at h;obtain ⟨rfl,rfl⟩:=h
      have:=Nat.eq_of_beq_eq_true e;subst this
      obtain ⟨h1,h2⟩:=wI (f:=AV.flt false) (x:=x) (lt ho.1)
      rw [Nat.mul_one,Nat.add_comm i j]
      exact ⟨trivial,h1,by simpa [aD.cell?,aD.weak] using h2⟩
  · rename_i k xs k' x
    refine old (e0:=.any) (A:=True) ?_
    cases e:(Nat.beq w 1&&cJ k k') with
    | false=>rw [e] at h;cases h
    | true =>
      rw [e] at h;simp only [cond_true,Option.some.injEq,Prod.mk.injEq] at h;obtain ⟨rfl,rfl⟩:=h
      rw [Bool.and_eq_true] at e
      have:=Nat.eq_of_beq_eq_true e.1;subst this
      have hk:k=k':=of_decide_eq_true e.2
      subst hk
      obtain ⟨h1,h2⟩:=wI (f:=AV.int k) (x:=x) (lt ho.1)
      rw [Nat.mul_one,Nat.add_comm i j]
      exact ⟨trivial,h1,by simpa [aD.cell?,aD.weak] using h2⟩
  · rename_i xs kn x
    refine old (e0:=.any) (A:=True) ?_
    cases e:Nat.beq w 1 with
    | false=>rw [e] at h;cases h
    | true =>
      rw [e] at h;simp only [cond_true,Option.some.injEq,Prod.mk.injEq] at h;obtain ⟨rfl,rfl⟩:=h
      have:=Nat.eq_of_beq_eq_true e;subst this
      obtain ⟨h1,h2⟩:=wI (f:=AV.bool false) (x:=x) (lt ho.1)
      rw [Nat.mul_one,Nat.add_comm i j]
      exact ⟨trivial,h1,by simpa [aD.cell?,aD.weak] using h2⟩
  · rename_i xs x
    refine old (e0:=.any) (A:=True) ?_
    cases e:Nat.beq w 1 with
    | false=>rw [e] at h;cases h
    | true =>
      rw [e] at h;simp only [cond_true,Option.some.injEq,Prod.mk.injEq] at h;obtain ⟨rfl,rfl⟩:=h
      have:=Nat.eq_of_beq_eq_true e;subst this
      obtain ⟨h1,h2⟩:=wI (f:=AV.str) (x:=x) (lt ho.1)
      rw [Nat.mul_one,Nat.add_comm i j]
      exact ⟨trivial,h1,by simpa [aD.cell?,aD.weak] using h2⟩
  · rename_i xs
    refine old (e0:=.any) (A:=True) ?_
    cases e:(Nat.beq w 1&&Nat.blt (fc j i) xs.length) with
    | false=>rw [e] at h;cases h
    | true =>
      rw [e] at h;simp only [cond_true,Option.some.injEq,Prod.mk.injEq] at h;obtain ⟨rfl,rfl⟩:=h
      rw [Bool.and_eq_true] at e
      have:=Nat.eq_of_beq_eq_true e.1;subst this
      have e2:j+i<xs.length:=by have:=e.2;simpa [Nat.blt_eq] using this
      obtain ⟨h1,h2⟩:=wI (f:=id) (x:=v) e2
      rw [Nat.mul_one,Nat.add_comm i j]
      simp at h1 h2
      refine ⟨trivial,?_,?_⟩
      · exact ⟨_,List.getElem?_eq_getElem e2⟩
      · simpa [aD.cell?,aD.weak] using h2
  · rename_i w' n get
    refine old (e0:=.any) (A:=True) ?_
    cases e:(Nat.beq w w'&&(Nat.blt j w&&(v.kept&&v.one))) with
    | false=>rw [e] at h;cases h
    | true =>
      rw [e] at h;simp only [cond_true,Option.some.injEq,Prod.mk.injEq] at h;obtain ⟨rfl,rfl⟩:=h
      simp only [Bool.and_eq_true] at e
      obtain ⟨e1,e2,e3,e4⟩:=e
      have:=Nat.eq_of_beq_eq_true e1
      subst this
      have e2:j<w:=by simpa [Nat.blt_eq] using e2
      have hi:i<n:=of_decide_eq_true ho.1
      have q1:(i*w+j)/w=i:=by rw [Nat.add_comm,Nat.add_mul_div_right _ _ (by omega),Nat.div_eq_of_lt e2,Nat.zero_add]
      have q2:(i*w+j)%w=j:=by rw [Nat.add_comm,Nat.add_mul_mod_self_right,Nat.mod_eq_of_lt e2]
      refine ⟨fun a c=>?_,⟨get i j,by simp [aD.cell?,q1,q2,hi]⟩,fun y e' hy=>?_⟩
      · cases e5:(Nat.beq a i&&Nat.beq c j) with
        | true=>simp only [e5,cond_true];exact ⟨e3,e4⟩
        | false=>simp only [e5,cond_false];exact hrk a c
      · simp only [aD.cell?] at hy ⊢
        split at hy
        · rename_i hlt
          by_cases hy2:y=i*w+j
          · subst hy2
            simp only [q1,q2,Nat.beq_refl,Bool.and_self,cond_true,Option.some.injEq] at hy
            exact .inl ⟨rfl,hy.symm⟩
          · refine .inr ⟨hy2,?_⟩
            rw [if_pos hlt]
            cases e5:(Nat.beq (y/w) i&&Nat.beq (y%w) j) with
            | true =>
              rw [Bool.and_eq_true] at e5
              have a1:=Nat.eq_of_beq_eq_true e5.1
              have a2:=Nat.eq_of_beq_eq_true e5.2
              have:=Nat.div_add_mod y w
              rw [a1,a2,Nat.mul_comm] at this
              exact absurd this.symm hy2
            | false=>rw [e5] at hy;exact hy
        · cases hy
  · rename_i n cs
    cases e:Nat.beq w cs.length with
    | false=>rw [e] at h;cases h
    | true =>
      rw [e] at h
      have:=Nat.eq_of_beq_eq_true e
      subst this
      simp only [cond_true,Option.bind_eq_some_iff,Option.map_eq_some_iff,Prod.mk.injEq] at h
      obtain ⟨c,h1,⟨c',o'⟩,h2,rfl,rfl⟩:=h
      have e2:j<cs.length:=(List.getElem?_eq_some_iff.1 h1).1
      obtain ⟨q1,q2⟩:=P6 (i:=i) e2
      obtain ⟨r1,r2⟩:=gL.wr_spec h2 ho
      obtain ⟨e0,he0⟩:=r1
      have hl:=XX h2
      refine ⟨fun x hx=>?_,⟨e0,by simp [aD.cell?,q1,q2,h1,he0]⟩,fun y e' hy=>?_⟩
      · rcases List.mem_or_eq_of_mem_set hx with q | rfl
        · exact hrk x q
        · rw [hl];exact hrk c (List.mem_of_getElem? h1)
      simp only [aD.cell?,List.length_set,Option.bind_eq_some_iff] at hy ⊢
      obtain ⟨c2,h3,h4⟩:=hy
      rw [List.getElem?_set] at h3
      have hdm:=Nat.div_add_mod y cs.length
      by_cases hj:j=y%cs.length
      · rw [if_pos hj,if_pos e2] at h3
        cases h3
        rcases r2 _ _ h4 with ⟨a1,a2⟩ | ⟨a1,a2⟩
        · refine .inl ⟨?_,a2⟩
          rw [a1,←hj,Nat.mul_comm] at hdm;exact hdm.symm
        · refine .inr ⟨fun q=>a1 (by rw [q];exact q1),c,by rw [←hj];exact h1,a2⟩
      · rw [if_neg hj] at h3
        exact .inr ⟨fun q=>hj (by rw [q];exact q2.symm),c2,h3,h4⟩
  · cases h
def aD.wrN(d:aD)(w i:Nat) :List AV→Nat→Option (aD×List Bool)
  | [],_=>some (d,[])
  | v::l,j =>
    match d.wr w i j v with
    | some (d',o) =>
      match d'.wrN w i l (j+1) with
      | some (d'',o')=>some (d'',o++o')
      | none=>none
    | none=>none
def AV.cells(v:AV) :Option (List AV) :=
  match v with
  | .agg l=>bif iw l then some l else none
  | v=>bif v.one then some [v] else none
theorem adG{ρ:ac}{w:World}{v:AV}{u:Value}(h:VR ρ w v u)(ho:v.one=true) :(∀ c,u ≠ .agg c)∧(∀ c,u ≠ .tuple c)∧u.cells = #[u]:=by
  cases h<;>simp [AV.one] at ho<;>simp [Value.cells]
theorem Li{ρ:ac}{w:World}{v:AV}{u:Value}{l:List AV}(h:VR ρ w v u)(hc:v.cells=some l) :cV ρ w l u.cells.toList∧iw l=true:=by
  unfold AV.cells at hc
  split at hc
  · rename_i l'
    cases e:iw l' with
    | false=>rw [e] at hc;cases hc
    | true=>rw [e] at hc;cases hc;cases h with | agg _ c hl=>exact ⟨by simpa [Value.cells] using hl,e⟩
  · cases e:v.one with
    | false=>rw [e] at hc;cases hc
    | true =>
      rw [e] at hc;cases hc
      obtain ⟨_,_,h3⟩:=adG h e
      rw [h3]
      exact ⟨.cons _ _ _ _ h .nil,by simp [iw,e]⟩
theorem acg{P:Program}{w:World}{a:Addr}{u:Value}(h1:∀ c,u ≠ .agg c)(h2:∀ c,u ≠ .tuple c){x:Value}(hc:w.cell? a=some x)(hf:w.frozen? a=false) :
    (store a u).run P w=.ok () (w.setCell a u):=by
  unfold store
  cases u<;>first | exact absurd rfl (h1 _) | exact absurd rfl (h2 _) | simp [Sem.run,hc,hf]
theorem tr{P:Program}{ρ:ac} :∀ {us:List Value} {l:List AV} {w:World} {h:bN} {n b k i j x0:Nat} {d d':aD} {obs:List Bool},HR ρ w h n→be h b=some d→cV ρ w l us→iw l=true →
    d.wrN k i l (j+x0)=some (d',obs)→aB obs→∃ w',(storeCells ⟨ρ.at_ b,i*k+j,none⟩ us x0).run P w=.ok () w'∧HR ρ w' (eY h b d') n∧iq ρ.live w w'
  | [],[],w,h,n,b,k,i,j,x0,d,d',obs,hh,hg,_,_,hw,_=>by
    simp only [aD.wrN,Option.some.injEq,Prod.mk.injEq] at hw;obtain ⟨rfl,rfl⟩:=hw
    refine ⟨w,by simp [storeCells],?_,iq.refl _ _⟩
    have e:∀ c,be (eY h b d) c=be h c:=by
      intro c;rw [cR];split
      · rename_i q;subst q;exact hg.symm
      · rfl
    exact ⟨fun c e' he=>hh.cell c e' (by rw [←e];exact he),fun a c d e' h1 h2=>hh.inj a c d e' (by rw [←e];exact h1) (by rw [←e];exact h2),hh.fresh,hh.liveLt,hh.outLt,hh.lt,hh.rom⟩
  | u::us,v::l,w,h,n,b,k,i,j,x0,d,d',obs,hh,hg,hv,h1,hw,ho=>by
    simp only [aD.wrN] at hw
    split at hw
    case h_2=>cases hw
    rename_i d1 o1 q1
    split at hw
    case h_2=>cases hw
    rename_i d2 o2 q2
    simp only [Option.some.injEq,Prod.mk.injEq] at hw;obtain ⟨rfl,rfl⟩:=hw
    rw [bh] at ho
    cases hv with | cons _ _ _ _ hv1 hv2 =>
    simp only [iw,Bool.and_eq_true] at h1
    have hrk:=hh.rk hg
    obtain ⟨r1,r2,r3⟩:=aD.wr_spec hrk q1 ho.1
    obtain ⟨s1,s2,s3⟩:=adG hv1 h1.1
    obtain ⟨e0,he0⟩:=r2
    obtain ⟨_,_,_,c,ty,hc,hcv⟩:=hh.solid hg ⟨_,_,he0⟩
    obtain ⟨u0,hu0,_⟩:=hcv _ _ he0
    have hcell:w.cell? ⟨ρ.at_ b,i*k+(j+x0),none⟩=some u0:=by simp [World.cell?,hc,hu0]
    have hfz:w.frozen? ⟨ρ.at_ b,i*k+(j+x0),none⟩=false:=by simp [World.frozen?,hc]
    have hst:=acg (P:=P) s1 s2 hcell hfz
    obtain ⟨hh',W⟩:=hh.store hg r1 (fun y e hy=>(r3 y e hy).imp (fun q=>⟨q.1,q.2 _ _ _ hv1⟩) id) ⟨e0,he0⟩
    have hg':be (eY h b d1) b=some d1:=by rw [cR,if_pos rfl]
    obtain ⟨w2,t1,t2,t3⟩:=tr (P:=P) (x0:=x0+1) hh' hg' (hv2.mono (kI.refl _ _) W) h1.2 (by rw [←Nat.add_assoc];exact q2) ho.2
    refine ⟨w2,?_,?_,W.trans t3 (fun _ _ m=>m)⟩
    · rw [storeCells]
      have ea:Addr.add ⟨ρ.at_ b,i*k+j,none⟩ x0=⟨ρ.at_ b,i*k+(j+x0),none⟩:=by rw [kY,Nat.add_assoc]
      rw [ea]
      simp only [Sem.run_bind,hst,Result.andThen_ok]
      exact t1
    · have e:∀ c,be (eY (eY h b d1) b d2) c=be (eY h b d2) c:=by
        intro c;rw [cR,cR,cR];split<;>rfl
      exact ⟨fun c e' he=>t2.cell c e' (by rw [e];exact he),fun a c d e' q3 q4=>t2.inj a c d e' (by rw [e];exact q3) (by rw [e];exact q4),t2.fresh,t2.liveLt,t2.outLt,t2.lt,t2.rom⟩
  | [],_::_,_,_,_,_,_,_,_,_,_,_,_,_,_,hv,_,_,_=>by cases hv
  | _::_,[],_,_,_,_,_,_,_,_,_,_,_,_,_,hv,_,_,_=>by cases hv
def D2(P:Program)(g:Nat→Option aD)(t:TypeId)(x v:AV) :Option (Nat×aD×List Bool) :=
  match x,v.cells,P.info? t with
  | .ptr b w i j,some l,some inf =>
    match g b with
    | some d=>bif Nat.beq l.length inf.size then (d.wrN w i l j).map fun r=>(b,r.1,r.2) else none
    | none=>none
  | _,_,_=>none
theorem Ro{P:Program}{ρ:ac}{w:World}{h:bN}{n:Nat}(hh:HR ρ w h n){t:TypeId}{x v:AV}{x' v':Value}{b:Nat}{d:aD}{obs:List Bool}(hx:VR ρ w x x')(hv:VR ρ w v v') 
    (hs:D2 P (be h) t x v=some (b,d,obs)) (ho:aB obs):∃ w',(Instr.storeAt t x' v').run P w=.ok () w'∧HR ρ w' (eY h b d) n∧iq ρ.live w w':=by
  unfold D2 at hs
  split at hs
  case h_2=>cases hs
  rename_i b' k i j l inf hl hi
  split at hs
  case h_2=>cases hs
  rename_i d0 hd
  cases e:Nat.beq l.length inf.size with
  | false=>rw [e] at hs;cases hs
  | true =>
    rw [e] at hs
    simp only [cond_true,Option.map_eq_some_iff,Prod.mk.injEq] at hs
    obtain ⟨⟨d',o'⟩,hw,rfl,rfl,rfl⟩:=hs
    obtain ⟨c1,c2⟩:=Li hv hl
    cases hx with | ptr _ _ _ _ hb =>
    obtain ⟨w',r1,r2,r3⟩:=tr (P:=P) (x0:=0) (j:=j) hh hd c1 c2 hw ho
    refine ⟨w',?_,r2,r3⟩
    have hs:P.cellsOf t=inf.size:=by simp [Program.cellsOf,hi]
    have hsz:v'.cells.size=inf.size:=by
      have:=c1.length;rw [Nat.eq_of_beq_eq_true e] at this;simpa using this.symm
    simp only [Instr.storeAt,Instr.sureAddr,storeVar,Sem.run_bind,Sem.run_pure,Result.andThen_ok,run_sizeOf w hi,hs,hsz,ne_eq,not_true_eq_false,if_false]
    exact r1
def XY:List AV→Option (List Nat)
  | []=>some []
  | .flt _ x::l=>(XY l).map (x :: ·)
  | _::_=>none
def XZ(k:IntKind) :List AV→Option (List Int)
  | []=>some []
  | .int k' x::l=>bif cJ k k' then (XZ k l).map (x :: ·) else none
  | _::_=>none
def X0:List AV→Option (List Bool)
  | []=>some []
  | .bool _ x::l=>(X0 l).map (x :: ·)
  | _::_=>none
def X1:List AV→Option (List ByteArray)
  | []=>some []
  | .str x::l=>(X1 l).map (x :: ·)
  | _::_=>none
def aaX(P:Program)(e:TypeId)(l:List AV) :aD :=
  match P.underlying e with
  | some (.float .f64)=>match XY l with | some xs=>.fl xs | none=>.vs l
  | some (.int k)=>match XZ k l with | some xs=>.ns k xs | none=>.vs l
  | some .bool=>match X0 l with | some xs=>.bs xs | none=>.vs l
  | some .string=>match X1 l with | some xs=>.ss xs | none=>.vs l
  | _=>.vs l
def Rp(d:aD)(l:List AV) :Prop:=d.recKept∧∀ x v,d.cell? x=some v→∃ v0,l[x]? = some v0∧∀ (ρ:ac) (w:World) (u:Value),VR ρ w v0 u→VR ρ w v u
theorem Cb(l:List AV) :Rp (.vs l) l:=⟨trivial,fun x v h=>⟨v,h,fun _ _ _ h=>h⟩⟩
theorem ach:∀ {l:List AV} {xs:List Nat},XY l=some xs→Rp (.fl xs) l:=by
  intro l xs h
  refine ⟨trivial,fun x v hv=>?_⟩
  induction l generalizing xs x with
  | nil=>cases h;simp [aD.cell?] at hv
  | cons a l ih =>
    cases a<;>simp only [XY,Option.map_eq_some_iff,reduceCtorEq] at h
    obtain ⟨ys,h1,rfl⟩:=h
    cases x with
    | zero=>simp [aD.cell?] at hv;subst hv;exact ⟨_,rfl,fun ρ w u hu=>sJ (d:=.fl []) _ _ _ hu⟩
    | succ x=>exact ih h1 x (by simpa [aD.cell?] using hv)
theorem aci{k:IntKind} :∀ {l:List AV} {xs:List Int},XZ k l=some xs→Rp (.ns k xs) l:=by
  intro l xs h
  refine ⟨trivial,fun x v hv=>?_⟩
  induction l generalizing xs x with
  | nil=>cases h;simp [aD.cell?] at hv
  | cons a l ih =>
    cases a<;>simp only [XZ,Option.map_eq_some_iff,reduceCtorEq] at h
    rename_i k' y
    cases e:cJ k k' with
    | false=>rw [e] at h;cases h
    | true =>
      rw [e] at h
      simp only [cond_true,Option.map_eq_some_iff] at h
      obtain ⟨ys,h1,rfl⟩:=h
      have:k=k':=of_decide_eq_true e
      subst this
      cases x with
      | zero=>simp [aD.cell?] at hv;subst hv;exact ⟨_,rfl,fun ρ w u hu=>hu⟩
      | succ x=>exact ih h1 x (by simpa [aD.cell?] using hv)
theorem acj:∀ {l:List AV} {xs:List Bool},X0 l=some xs→Rp (.bs xs) l:=by
  intro l xs h
  refine ⟨trivial,fun x v hv=>?_⟩
  induction l generalizing xs x with
  | nil=>cases h;simp [aD.cell?] at hv
  | cons a l ih =>
    cases a<;>simp only [X0,Option.map_eq_some_iff,reduceCtorEq] at h
    obtain ⟨ys,h1,rfl⟩:=h
    cases x with
    | zero=>simp [aD.cell?] at hv;subst hv;exact ⟨_,rfl,fun ρ w u hu=>sJ (d:=.bs []) _ _ _ hu⟩
    | succ x=>exact ih h1 x (by simpa [aD.cell?] using hv)
theorem ack:∀ {l:List AV} {xs:List ByteArray},X1 l=some xs→Rp (.ss xs) l:=by
  intro l xs h
  refine ⟨trivial,fun x v hv=>?_⟩
  induction l generalizing xs x with
  | nil=>cases h;simp [aD.cell?] at hv
  | cons a l ih =>
    cases a<;>simp only [X1,Option.map_eq_some_iff,reduceCtorEq] at h
    obtain ⟨ys,h1,rfl⟩:=h
    cases x with
    | zero=>simp [aD.cell?] at hv;subst hv;exact ⟨_,rfl,fun ρ w u hu=>hu⟩
    | succ x=>exact ih h1 x (by simpa [aD.cell?] using hv)
theorem Lj(P:Program)(e:TypeId)(l:List AV) :Rp (aaX P e l) l:=by
  unfold aaX
  split
  · split
    · rename_i h;exact ach h
    · exact Cb l
  · split
    · rename_i h;exact aci h
    · exact Cb l
  · split
    · rename_i h;exact acj h
    · exact Cb l
  · split
    · rename_i h;exact ack h
    · exact Cb l
  · exact Cb l
theorem X2{ρ:ac}{w:World}{h:bN}{n b:Nat}(hh:HR ρ w h n)(hb : ¬ ρ.ok b)(hn:b<n){d:aD}{l:List AV}(hd:Rp d l)(c:Array Value)(t:TypeId) 
    (hc:∀ (x:Nat) (v:AV),l[x]? = some v→∃ u,c[x]? = some u∧VR ρ w v u) :
    HR (ρ.give b w.heap.size) (w.alloc (.cells c t)) (eY h b d) n∧kI ρ (ρ.give b w.heap.size) w∧iq ρ.live w (w.alloc (.cells c t)) :=
  hh.alloc hb hn d c t hd.1 fun x v hx=>by
    obtain ⟨v0,h1,h2⟩:=hd.2 x v hx
    obtain ⟨u,h3,h4⟩:=hc x v0 h1
    exact ⟨u,h3,h2 ρ w u h4⟩
def zD(P:Program)(ρ:ac)(w:World)(h:bN)(n nid:Nat)(s:Sem Value)(v:AV)(h':bN) :Prop :=
  ∃ u w' ρ',s.run P w=.ok u w'∧kI ρ ρ' w∧iq ρ.live w w'∧HR ρ' w' h' n∧VR ρ' w' v u∧∀ b,ρ'.ok b→ρ.ok b∨b=nid
theorem Cc{P:Program}{ρ:ac}{w w1:World}{h:bN}{n nid:Nat}(hh:HR ρ w h n)(hb : ¬ ρ.ok nid)(hn:nid<n){s:Sem Value}{d:aD}{l:List AV}(hd:Rp d l){c:Array Value}{t:TypeId} 
    (hw:w1=w∨∃ k,w1 = { w with drawn:=k }) {u:Value} (hr:s.run P w=.ok u (w1.alloc (.cells c t)))
    (hc:∀ (x:Nat) (v:AV),l[x]? = some v→∃ u,c[x]? = some u∧VR ρ w v u) {v:AV} (hv:∀ ρ' w',ρ'=ρ.give nid w.heap.size→w'=w1.alloc (.cells c t)→VR ρ' w' v u) :
    zD P ρ w h n nid s v (eY h nid d):=by
  have key:∀ w1:World,(w1=w∨∃ k,w1 = { w with drawn:=k })→HR ρ w1 h n∧iq ρ.live w w1∧w1.heap=w.heap∧(∀ v u,VR ρ w v u→VR ρ w1 v u):=by
    rintro w1 (rfl | ⟨k,rfl⟩)
    · exact ⟨hh,iq.refl _ _,rfl,fun _ _ h=>h⟩
    · exact ⟨hh.drawn k,iq.drawn _ _ _,rfl,fun _ _ h=>h.mono (kI.refl _ _) (iq.drawn _ _ _)⟩
  obtain ⟨k1,k2,k3,k4⟩:=key w1 hw
  obtain ⟨a1,a2,a3⟩:=X2 k1 hb hn hd c t (fun x v hx=>by obtain ⟨u,q1,q2⟩:=hc x v hx;exact ⟨u,q1,k4 _ _ q2⟩)
  rw [k3] at a1 a2
  refine ⟨u,_,ρ.give nid w.heap.size,hr,?_,k2.trans a3 (fun _ _ m=>m),a1,hv _ _ rfl rfl,fun b hb=>?_⟩
  · exact ⟨a2.at_,a2.ok,a2.live,fun b hb=>a2.new b (by rw [k3];exact hb),a2.out,a2.pin⟩
  · rcases hb with h | h
    · exact .inr h
    · exact .inl h
theorem xw(ρ:ac)(w:World) :∀ l:List Value,cV ρ w (l.map fH) l
  | []=>.nil
  | v::l=>.cons _ _ _ _ (pZ ρ w v) (xw ρ w l)
theorem cV.cells{ρ:ac}{w:World}{l:List AV}{c:Array Value}(h:cV ρ w l c.toList) :∀ (x:Nat) (v:AV),l[x]? = some v→∃ u,c[x]? = some u∧VR ρ w v u:=by
  intro x v hx
  obtain ⟨u,h1,h2⟩:=h.get x v hx
  rw [Array.getElem?_toList] at h1
  exact ⟨u,h1,h2⟩
def Rq(P:Program)(t:TypeId)(l:List AV) :aD :=
  match P.underlying t with
  | some (.array _ e)=>aaX P e l
  | _=>.vs l
theorem I7(P:Program)(t:TypeId)(l:List AV) :Rp (Rq P t l) l:=by
  unfold Rq;split
  · exact Lj _ _ _
  · exact Cb _
def Rr(P:Program)(nid:Nat)(t:TypeId) :Option (AV×aD) :=
  match (P.info? t).bind (·.zero) with
  | some z=>some (.ptr nid 1 0 0,Rq P t (z.cells.toList.map fH))
  | none=>none
theorem T5(ρ:ac)(w:World)(nid bl:Nat) :VR (ρ.give nid bl) w (.ptr nid 1 0 0) (.pointer (some ⟨bl,0,none⟩)):=by
  have:=VR.ptr (ρ:=ρ.give nid bl) (w:=w) nid 1 0 0 (.inl rfl)
  simpa [ac.give] using this
theorem Rs{P:Program}{ρ:ac}{w:World}{h:bN}{n nid:Nat}(hh:HR ρ w h n)(hb : ¬ ρ.ok nid)(hn:nid<n){t:TypeId}{v:AV}{d:aD}(ha:Rr P nid t=some (v,d))(heap:Bool) :
    zD P ρ w h n nid (Instr.alloc t true (.tuple #[])) v (eY h nid d):=by
  unfold Rr at ha
  split at ha
  case h_2=>cases ha
  rename_i z hz
  simp only [Option.some.injEq,Prod.mk.injEq] at ha;obtain ⟨rfl,rfl⟩:=ha
  simp only [Option.bind_eq_some_iff] at hz
  obtain ⟨i,hi,hz⟩:=hz
  refine Cc hh hb hn (I7 P t _) (.inl rfl) (c:=z.cells) (t:=t) (u:=.pointer (some ⟨w.heap.size,0,none⟩)) ?_ (cV.cells (by simpa using xw ρ w z.cells.toList)) ?_
  · simp [Instr.alloc,zeroValue,typeInfo,hi,hz,newVar,newRow]
  · rintro _ _ rfl rfl;exact T5 _ _ _ _
def afE(P:Program)(nid:Nat)(t:TypeId)(x:AV) :Option (AV×aD) :=
  (x.cells).map fun l=>(.ptr nid 1 0 0,Rq P t l)
theorem X3{P:Program}{ρ:ac}{w:World}{h:bN}{n nid:Nat}(hh:HR ρ w h n)(hb : ¬ ρ.ok nid)(hn:nid<n){t:TypeId}{x v:AV}{x':Value}{d:aD}(hx:VR ρ w x x')(ha:afE P nid t x=some (v,d)) :
    zD P ρ w h n nid (Instr.box t x') v (eY h nid d):=by
  simp only [afE,Option.map_eq_some_iff,Prod.mk.injEq] at ha
  obtain ⟨l,hl,rfl,rfl⟩:=ha
  obtain ⟨c1,_⟩:=Li hx hl
  refine Cc hh hb hn (I7 P t _) (.inl rfl) (c:=x'.cells) (t:=t) (u:=.pointer (some ⟨w.heap.size,0,none⟩)) ?_ (cV.cells c1) ?_
  · simp [Instr.box,newVar,newRow]
  · rintro _ _ rfl rfl;exact T5 _ _ _ _
def aD.wid:aD→Nat
  | .rows w _ _=>w
  | .cols _ cs=>cs.length
  | _=>1
def Rt(P:Program)(n:Nat)(t:TypeId)(z:AV) :Option gL :=
  match z with
  | .flt _ x=>some (.cf (List.replicate n x))
  | .int k x=>some (.ci k (List.replicate n x))
  | .bool _ x=>some (.cb (List.replicate n x))
  | .str x=>some (.cs (List.replicate n x))
  | .nsl =>
    match P.underlying t with
    | some (.slice e) =>
      match P.underlying e with
      | some (.float .f64)=>some (.cfl (List.replicate n []))
      | some (.int k)=>some (.cns k (List.replicate n []))
      | _=>none
    | _=>none
  | _=>none
def Fs(P:Program)(n:Nat) :List TypeId→List AV→Option (List gL)
  | [],[]=>some []
  | t::ts,z::zs =>
    match Rt P n t z,Fs P n ts zs with
    | some c,some cs=>some (c::cs)
    | _,_=>none
  | _,_=>none
theorem Ru{P:Program}{n:Nat}{t:TypeId}{z:AV}{c:gL}(h:Rt P n t z=some c) :c.len=n∧∀ i v,c.cell? i=some v→bp z v:=by
  have rep:∀ {α:Type} {f:α→AV} {y:α},bp z (f y)→∀ (i:Nat) (v:AV),((List.replicate n y)[i]?).map f=some v→bp z v:=by
    intro α f y hw i v hv
    simp only [Option.map_eq_some_iff] at hv
    obtain ⟨a,h1,rfl⟩:=hv
    rw [List.getElem?_replicate] at h1
    split at h1<;>cases h1
    exact hw
  unfold Rt at h
  split at h
  · cases h;exact ⟨by simp [gL.len],rep (f:=AV.flt false) (sJ (d:=.fl []))⟩
  · cases h;exact ⟨by simp [gL.len],rep (f:=AV.int _) (bp.refl _)⟩
  · cases h;exact ⟨by simp [gL.len],rep (f:=AV.bool false) (sJ (d:=.bs []))⟩
  · cases h;exact ⟨by simp [gL.len],rep (f:=AV.str) (bp.refl _)⟩
  · split at h
    case h_2=>cases h
    split at h
    · cases h;exact ⟨by simp [gL.len],rep (f:=fun l=>.imm .free (.fl l) 1 1 0 l.length) (wH _ trivial rfl rfl)⟩
    · cases h;exact ⟨by simp [gL.len],rep (f:=fun l=>.imm .free (.ns _ l) 1 1 0 l.length) (wH _ trivial rfl rfl)⟩
    · cases h
  · cases h
theorem Do{P:Program}{n:Nat} :∀ {ts:List TypeId} {zs:List AV} {cs:List gL},Fs P n ts zs=some cs→cs.length=zs.length∧(∀ c∈cs,c.len=n)∧∀ (j:Nat) c i v,cs[j]? = some c→c.cell? i=some v→∃ z,zs[j]? = some z∧bp z v
  | [],[],cs,h=>by cases h;exact ⟨rfl,(fun c hc=>by cases hc),(fun j c i v hj=>by simp at hj)⟩
  | [],_::_,cs,h=>by cases h
  | _::_,[],cs,h=>by cases h
  | t::ts,z::zs,cs,h=>by
    simp only [Fs] at h
    split at h
    case h_2=>cases h
    rename_i c cs' h1 h2
    cases h
    obtain ⟨a1,a2,a3⟩:=Do h2
    obtain ⟨b1,b2⟩:=Ru h1
    refine ⟨by simp [a1],fun x hx=>?_,fun j x i v hj hx=>?_⟩
    · rcases List.mem_cons.1 hx with rfl | q
      · exact b1
      · exact a2 x q
    · cases j with
      | zero=>simp at hj;subst hj;exact ⟨z,rfl,b2 i v hx⟩
      | succ j=>exact a3 j x i v (by simpa using hj) hx
def aaY(P:Program)(e:TypeId) :List TypeId:=(P.cellTypes P.depth e).getD []
def Rv(P:Program)(e:TypeId)(inf:TypeInfo)(z:Value)(n:Nat) :Option aD :=
  match P.underlying e,inf.size,z.cells.toList with
  | some (.float .f64),1,[.float .f64 x]=>some (.fl (List.replicate n x))
  | some (.int k),1,[.int k' x]=>bif cJ k k' then some (.ns k (List.replicate n x)) else none
  | some .bool,1,[.bool x]=>some (.bs (List.replicate n x))
  | some .string,1,[.string x]=>some (.ss (List.replicate n x))
  | _,s,zs =>
    match Fs P n (aaY P e) (zs.map fH) with
    | some cs=>bif Nat.beq s zs.length&&Nat.blt 0 s then some (.cols n cs) else none
    | none=>bif Nat.beq s zs.length&&(Nat.blt 0 s&&iw (zs.map fH)) then some (.rows s n fun _ j=>(zs.map fH).getD j .nptr) else none
def adH(P:Program)(nid:Nat)(t:TypeId)(l c:AV) :Option (AV×aD×List Bool) :=
  match P.underlying t,l,c with
  | some (.slice e),.int _ l,.int _ c =>
    match P.info? e with
    | some inf =>
      match inf.zero with
      | some z =>
        (Rv P e inf z c.toNat).map fun d =>
          (.sl nid d.wid inf.size 0 l.toNat c.toNat,d,[decide (0≤l),decide (l≤c),decide ((inf.bytes:Int)*c≤140737488355328),cI .i64 c])
      | none=>none
    | none=>none
  | _,_,_=>none
theorem qQ{z:Array Value}{n x:Nat}(h:x<n) :(madeCells z n)[x]? = some (z[x%z.size]!):=by
  unfold madeCells;simp [h]
theorem xx:∀ {l:List AV},iw l=true→∀ (x:Nat) (v:AV),l[x]? = some v→v.one=true
  | [],_,x,v,h=>by simp at h
  | a::l,ha,0,v,h=>by simp at h;subst h;simp only [iw,Bool.and_eq_true] at ha;exact ha.1
  | a::l,ha,x+1,v,h=>by simp only [iw,Bool.and_eq_true] at ha;exact xx ha.2 x v (by simpa using h)
theorem X4(v:Value) :(fH v).kept=true:=by
  unfold fH;split<;>rfl
theorem Rw{P:Program}{e:TypeId}{inf:TypeInfo}{z:Value}{n:Nat}{d:aD}(h:Rv P e inf z n=some d)(ρ:ac)(w:World) :
    d.recKept∧(∀ x v,d.cell? x=some v→∃ u,(madeCells z.cells (n*inf.size))[x]? = some u∧VR ρ w v u)∧(d.wid=inf.size∨inf.size=1):=by
  have one:∀ {α:Type} {f:α→AV} {y:α} {u:Value},z.cells.toList=[u]→inf.size=1→VR ρ w (f y) u→∀ (x:Nat) (v:AV),((List.replicate n y)[x]?).map f=some v→∃ u,(madeCells z.cells (n*inf.size))[x]? = some u∧VR ρ w v u:=by
    intro α f y u hz hs hv x v h
    simp only [Option.map_eq_some_iff] at h
    obtain ⟨a,h1,rfl⟩:=h
    rw [List.getElem?_replicate] at h1
    split at h1
    · rename_i hlt
      cases h1
      have hc:z.cells = #[u]:=by rw [←hz]
      refine ⟨u,?_,hv⟩
      rw [qQ (by rw [hs];omega),hc];simp [Nat.mod_one]
    · cases h1
  unfold Rv at h
  split at h
  · rename_i x hu hs hz;cases h;exact ⟨trivial,one hz hs (.flt _ _ _ (.inl rfl)),.inr hs⟩
  · rename_i k k' x hu hs hz
    cases e:cJ k k' with
    | false=>rw [e] at h;cases h
    | true =>
      rw [e] at h;cases h
      have:k=k':=of_decide_eq_true e
      subst this
      exact ⟨trivial,one hz hs (.int _ _),.inr hs⟩
  · rename_i x hu hs hz;cases h;exact ⟨trivial,one hz hs (.bool _ _),.inr hs⟩
  · rename_i x hu hs hz;cases h;exact ⟨trivial,one hz hs (.str _),.inr hs⟩
  · split at h
    · rename_i cs hcs
      obtain ⟨z1,z2,z3⟩:=Do hcs
      rw [List.length_map] at z1
      cases e:(Nat.beq inf.size z.cells.toList.length&&Nat.blt 0 inf.size) with
      | false=>rw [e] at h;cases h
      | true =>
      rw [e] at h;simp only [cond_true,Option.some.injEq] at h
      subst h
      rw [Bool.and_eq_true] at e
      have e1:=Nat.eq_of_beq_eq_true e.1
      have e2:0<inf.size:=by simpa [Nat.blt_eq] using e.2
      have hw:cs.length=inf.size:=by omega
      refine ⟨z2,fun x v hx=>?_,.inl hw⟩
      obtain ⟨c,h1,h2,h3⟩:=ij hx
      have hlt:=AF h3
      rw [z2 c h2,hw] at hlt
      have hx2:x<n*inf.size:=(Nat.div_lt_iff_lt_mul e2).1 hlt
      obtain ⟨zv,k1,k2⟩:=z3 _ c _ v h1 h3
      rw [hw] at k1
      have hsz:z.cells.size=inf.size:=by rw [e1];simp
      have hm':x%z.cells.size<z.cells.size:=by rw [hsz];exact Nat.mod_lt _ e2
      refine ⟨_,qQ hx2,k2 _ _ _ ?_⟩
      rw [getElem!_pos z.cells (x%z.cells.size) hm']
      rw [List.getElem?_map,←hsz,List.getElem?_eq_getElem (by simpa using hm')] at k1
      simp only [Option.map_some,Option.some.injEq] at k1
      rw [←k1,Array.getElem_toList]
      exact pZ _ _ _
    rename_i hnone
    cases e:(Nat.beq inf.size z.cells.toList.length&&(Nat.blt 0 inf.size&&iw (z.cells.toList.map fH))) with
    | false=>rw [e] at h;cases h
    | true =>
      rw [e] at h;simp only [cond_true,Option.some.injEq] at h
      subst h
      rw [Bool.and_eq_true] at e
      have e1:=Nat.eq_of_beq_eq_true e.1
      have e':=e.2
      rw [Bool.and_eq_true] at e'
      have e2:0<inf.size:=by have:=e'.1;simpa [Nat.blt_eq] using this
      have e3:=xx e'.2
      have kc:∀ j,((z.cells.toList.map fH).getD j AV.nptr).kept=true∧((z.cells.toList.map fH).getD j AV.nptr).one=true:=by
        intro j
        rw [List.getD_eq_getElem?_getD]
        cases hq:(z.cells.toList.map fH)[j]? with
        | none=>exact ⟨rfl,rfl⟩
        | some v =>
          refine ⟨?_,e3 j v hq⟩
          rw [List.getElem?_map] at hq
          cases hr:z.cells.toList[j]? with
          | none=>rw [hr] at hq;cases hq
          | some u=>rw [hr] at hq;cases hq;exact X4 u
      refine ⟨fun _ j=>kc j,fun x v hx=>?_,.inl rfl⟩
      simp only [aD.cell?] at hx
      split at hx
      · rename_i hlt
        cases hx
        have hx2:x<n*inf.size:=by
          have:=(Nat.div_lt_iff_lt_mul e2).1 hlt;exact this
        have hm:x%inf.size<z.cells.toList.length:=by rw [←e1];exact Nat.mod_lt _ e2
        refine ⟨_,qQ hx2,?_⟩
        have hsz:z.cells.size=inf.size:=by rw [e1];simp
        have hm':x%z.cells.size<z.cells.size:=by rw [hsz];exact Nat.mod_lt _ e2
        rw [getElem!_pos z.cells (x%z.cells.size) hm',List.getD_eq_getElem?_getD,List.getElem?_map,List.getElem?_eq_getElem hm]
        simp only [hsz,Array.getElem_toList,Option.map_some,Option.getD_some]
        exact pZ _ _ _
      · cases hx
theorem T6{P:Program}{ρ:ac}{w:World}{h:bN}{n nid:Nat}(hh:HR ρ w h n)(hb : ¬ ρ.ok nid)(hn:nid<n){t:TypeId}{l c v:AV}{l' c':Value}{d:aD}{obs:List Bool} 
    (hl:VR ρ w l l') (hc:VR ρ w c c') (ha:adH P nid t l c=some (v,d,obs)) (ho:aB obs):zD P ρ w h n nid (Instr.makeSlice t l' c') v (eY h nid d):=by
  unfold adH at ha
  split at ha
  case h_2=>cases ha
  rename_i e k1 l k2 c ht
  cases hl;cases hc
  split at ha
  case h_2=>cases ha
  rename_i inf hi
  split at ha
  case h_2=>cases ha
  rename_i z hz
  simp only [Option.map_eq_some_iff,Prod.mk.injEq] at ha
  obtain ⟨d',hd,rfl,rfl,rfl⟩:=ha
  have o1:0≤l:=of_decide_eq_true ho.1
  have o2:l≤c:=of_decide_eq_true ho.2.1
  have o3:(inf.bytes:Int)*c≤140737488355328:=of_decide_eq_true ho.2.2.1
  have o4:c≤9223372036854775807:=by
    have:=ho.2.2.2.1
    simp only [cI,Bool.and_eq_true,decide_eq_true_eq] at this
    have e:IntKind.max .i64=9223372036854775807:=by decide
    rw [e] at this;exact this.2
  obtain ⟨s1,s2,s3⟩:=Rw hd ρ w
  have hrun:=run_make (P:=P) w t e inf z ht hi hz k1 k2 l c o1 o2 (by omega) o4
  obtain ⟨a1,a2,a3⟩:=hh.alloc hb hn d' (madeCells z.cells (c.toNat*inf.size)) e s1 s2
  refine ⟨_,_,_,hrun,a2,a3,a1,?_,fun b hb=>hb.elim .inr .inl⟩
  have:VR (ρ.give nid w.heap.size) (w.alloc (.cells (madeCells z.cells (c.toNat*inf.size)) e)) (.sl nid d'.wid inf.size 0 l.toNat c.toNat) (.slice (some ⟨(ρ.give nid w.heap.size).at_ nid,0*d'.wid,none⟩) l.toNat c.toNat) :=
    .sl _ _ _ _ _ _ _ (.inl rfl) (Nat.le_refl _) (by omega) (madeCells z.cells (c.toNat*inf.size)) e (by simp only [ac.give,if_true];exact eG w _) (by simp [size_madeCells])
  simpa [ac.give] using this
def D3(off:Nat) :List AV→Nat→List AV→List AV
  | [],_,cs=>cs
  | v::l,k,cs=>D3 off l (k+1) (cs.set (off+k) v)
def Lk(place:Nat→Option (Nat×Nat))(cells:List AV) :List (Nat×AV)→Option (List AV)
  | []=>some cells
  | (i,v)::rest =>
    match place i,v.cells with
    | some (off,size),some l=>bif Nat.beq l.length size&&Nat.ble (off+l.length) cells.length then Lk place (D3 off l 0 cells) rest else none
    | _,_=>none
theorem P7{ρ:ac}{w:World}{off:Nat} :∀ {l:List AV} {us:List Value} {k:Nat} {cs:List AV} {c:Array Value},cV ρ w l us→cV ρ w cs c.toList →
    cV ρ w (D3 off l k cs) ((us.zipIdx k).foldl (fun cs (x:Value×Nat)=>cs.setIfInBounds (off+x.2) x.1) c).toList
  | _,_,k,cs,c,.nil,h=>by simpa [D3] using h
  | _,_,k,cs,c,.cons v u l us hv ht,h=>by
    simp only [D3,List.zipIdx_cons,List.foldl_cons]
    refine P7 ht ?_
    rw [Array.toList_setIfInBounds]
    exact h.set hv _
theorem Dp(off:Nat) :∀ (l:List AV) (k:Nat) (cs:List AV),(D3 off l k cs).length=cs.length
  | [],_,_=>rfl
  | v::l,k,cs=>by simp [D3,Dp off l]
theorem Ft{ρ:ac}{w:World}{place:Nat→Option (Nat×Nat)} :∀ {parts:List (Nat×AV)} {ps:List (Nat×Value)} {cs l:List AV} {c:Array Value},
    (parts.map Prod.fst=ps.map Prod.fst)→cV ρ w (parts.map Prod.snd) (ps.map Prod.snd)→cV ρ w cs c.toList→Lk place cs parts=some l →
    ∃ c',Instr.fill place c ps=some c'∧cV ρ w l c'.toList∧l.length=cs.length
  | [],[],cs,l,c,_,_,hc,h=>by simp only [Lk,Option.some.injEq] at h;subst h;exact ⟨c,rfl,hc,rfl⟩
  | (i, v) :: parts, (i', u) :: ps, cs, l, c, h1, h2, hc, h => by
    simp only [List.map_cons,List.cons.injEq] at h1
    obtain ⟨rfl,h1⟩:=h1
    simp only [List.map_cons] at h2
    cases h2 with | cons _ _ _ _ hv ht =>
    simp only [Lk] at h
    split at h
    case h_2=>cases h
    rename_i off size l' hp hl
    obtain ⟨k1,_⟩:=Li hv hl
    have kl:=k1.length
    have cl:=hc.length
    cases e:(Nat.beq l'.length size&&Nat.ble (off+l'.length) cs.length) with
    | false=>rw [e] at h;cases h
    | true =>
      rw [e] at h;simp only [cond_true] at h
      rw [Bool.and_eq_true] at e
      have e1:=Nat.eq_of_beq_eq_true e.1
      have e2:off+l'.length≤cs.length:=by simpa [Nat.ble_eq] using e.2
      have r:=P7 (off:=off) (k:=0) k1 hc
      obtain ⟨c',q1,q2,q3⟩:=Ft h1 ht (c:=(u.cells.toList.zipIdx 0).foldl (fun cs (x:Value×Nat)=>cs.setIfInBounds (off+x.2) x.1) c) r h
      refine ⟨c',?_,q2,by rw [q3,Dp]⟩
      simp only [Instr.fill,hp]
      have g1:u.cells.size=size:=by rw [←e1,kl];simp
      have g2 : ¬ (off+u.cells.size>c.size):=by
        have:u.cells.size=l'.length:=by rw [kl];simp
        have:c.size=cs.length:=by rw [cl];simp
        omega
      have e0:∀ c:Array Value,u.cells.zipIdx.foldl (fun cs (x:Value×Nat)=>cs.setIfInBounds (off+x.2) x.1) c=(u.cells.toList.zipIdx 0).foldl (fun cs (x:Value×Nat)=>cs.setIfInBounds (off+x.2) x.1) c:=by
        intro c
        rw [←Array.foldl_toList];simp
      rw [if_neg (by simp only [g1,ne_eq,not_true_eq_false,decide_false,Bool.false_or,decide_eq_true_eq];rw [←g1];exact g2)]
      have e3:=e0 c
      rw [e3]
      exact q1
  | [],_::_,_,_,_,h1,_,_,_=>by cases h1
  | _::_,[],_,_,_,h1,_,_,_=>by cases h1
def X5(P:Program)(t:TypeId)(parts:List (Nat×AV)) :Option AV :=
  match (P.info? t).bind (·.zero) with
  | none=>none
  | some z =>
    let zs:=z.cells.toList.map fH
    match P.underlying t with
    | some (.struct fs) =>
      bif fs.toList.all (fun f=>(P.info? f.type).isSome) then (Lk (fun i=>(fs[i]?).map fun f=>(f.offset,P.cellsOf f.type)) zs parts).map .agg else none
    | some (.array _ e)=>match P.info? e with
      | some inf=>(Lk (fun i=>some (i*inf.size,inf.size)) zs parts).map .agg
      | none=>none
    | _=>none
theorem zE{P:Program}{w:World} :∀ (l:List Field),(l.all fun f=>(P.info? f.type).isSome)=true →
    (l.mapM (m:=Sem) fun f=>do pure (f.offset,←sizeOf f.type)).run P w=.ok (l.map fun f=>(f.offset,P.cellsOf f.type)) w
  | [],_=>by simp
  | f::l,h=>by
    simp only [List.all_cons,Bool.and_eq_true] at h
    obtain ⟨i,hi⟩:=Option.isSome_iff_exists.1 h.1
    have ih:=zE (P:=P) (w:=w) l h.2
    simp only [List.mapM_cons,Sem.run_bind,run_sizeOf w hi,Result.andThen_ok,Sem.run_pure,ih,List.map_cons]
theorem Rx{P:Program}{ρ:ac}{w:World}{t:TypeId}{parts:List (Nat×AV)}{ps:Array (Nat×Value)}{v:AV}(h1:parts.map Prod.fst=ps.toList.map Prod.fst) 
    (h2:cV ρ w (parts.map Prod.snd) (ps.toList.map Prod.snd)) (h:X5 P t parts=some v):jl P ρ w (Instr.build t ps) v:=by
  unfold X5 at h
  split at h
  case h_1=>cases h
  rename_i z hz
  simp only [Option.bind_eq_some_iff] at hz
  obtain ⟨i,hi,hz⟩:=hz
  have hzv:(zeroValue t).run P w=.ok z w:=by simp [zeroValue,typeInfo,hi,hz]
  have hzs:cV ρ w (z.cells.toList.map fH) z.cells.toList:=xw ρ w _
  simp only at h
  split at h
  · rename_i fs hu
    cases e:(fs.toList.all fun f=>(P.info? f.type).isSome) with
    | false=>rw [e] at h;cases h
    | true =>
      rw [e] at h
      simp only [cond_true,Option.map_eq_some_iff] at h
      obtain ⟨l,hf,rfl⟩:=h
      obtain ⟨c',q1,q2,_⟩:=Ft h1 h2 hzs hf
      refine .plain (u:=.agg c') ?_ (.agg _ _ q2)
      have hm:(fs.mapM (m:=Sem) fun f=>do pure (f.offset,←sizeOf f.type)).run P w=.ok (fs.map fun f=>(f.offset,P.cellsOf f.type)) w:=by
        have:=zE (P:=P) (w:=w) fs.toList e
        rw [Array.mapM_eq_mapM_toList]
        rw [map_eq_pure_bind,Sem.run_bind,this,Result.andThen_ok,Sem.run_pure]
        congr 1
        simp [←List.map_toArray]
      have hp:(fun i:Nat=>(fs.map fun (f:Field)=>(f.offset,P.cellsOf f.type))[i]?)=fun i:Nat=>(fs[i]?).map fun f=>(f.offset,P.cellsOf f.type):=by
        funext i;simp
      simp only [Instr.build,Sem.run_bind,hzv,Result.andThen_ok,run_underlying hu,hm,hp,q1]
      simp
  · rename_i n e hu
    split at h
    case h_2=>cases h
    rename_i inf he
    simp only [Option.map_eq_some_iff] at h
    obtain ⟨l,hf,rfl⟩:=h
    obtain ⟨c',q1,q2,_⟩:=Ft h1 h2 hzs hf
    refine .plain (u:=.agg c') ?_ (.agg _ _ q2)
    have hs:P.cellsOf e=inf.size:=by simp [Program.cellsOf,he]
    simp only [Instr.build,Sem.run_bind,hzv,Result.andThen_ok,run_underlying hu,run_sizeOf w he,hs,q1]
    simp
  · cases h
def AL(P : Program)(nid : Nat)(t : TypeId)(len : Nat)(parts : List (Nat × AV)) : Option (AV × aD) :=
  match P.underlying t with
  | some (.slice e) =>
    match P.info? e with
    | some inf =>
      match inf.zero with
      | some z =>
        let zs:=z.cells.toList.map fH
        bif Nat.beq zs.length inf.size&&Nat.ble (len*inf.size) 16777216 then
          (Lk (fun i=>some (i*inf.size,inf.size)) ((List.range (len*inf.size)).map fun x=>zs.getD (x%zs.length) .any) parts).map fun l =>
            (.sl nid 1 inf.size 0 len len,aaX P e l)
        else none
      | none=>none
    | none=>none
  | _=>none
theorem Fu{P:Program}{ρ:ac}{w:World}{h:bN}{n nid:Nat}(hh:HR ρ w h n)(hb : ¬ ρ.ok nid)(hn:nid<n){t:TypeId}{len:Nat}{parts:List (Nat×AV)}{ps:Array (Nat×Value)}{v:AV}{d:aD} 
    (h1:parts.map Prod.fst=ps.toList.map Prod.fst) (h2:cV ρ w (parts.map Prod.snd) (ps.toList.map Prod.snd)) (ha:AL P nid t len parts=some (v,d)) :
    zD P ρ w h n nid (Instr.buildSlice t len ps) v (eY h nid d):=by
  unfold AL at ha
  split at ha
  case h_2=>cases ha
  rename_i e ht
  split at ha
  case h_2=>cases ha
  rename_i inf hi
  split at ha
  case h_2=>cases ha
  rename_i z hz
  simp only at ha
  cases hc:(Nat.beq (z.cells.toList.map fH).length inf.size&&Nat.ble (len*inf.size) 16777216) with
  | false=>rw [hc] at ha;cases ha
  | true =>
    rw [hc] at ha
    simp only [cond_true,Option.map_eq_some_iff,Prod.mk.injEq] at ha
    obtain ⟨l,hf,rfl,rfl⟩:=ha
    rw [Bool.and_eq_true] at hc
    have c1:z.cells.size=inf.size:=by have:=Nat.eq_of_beq_eq_true hc.1;simpa using this
    have c2:len*inf.size≤16777216:=by simpa [Nat.ble_eq] using hc.2
    have hbase:cV ρ w ((List.range (len*inf.size)).map fun x=>(z.cells.toList.map fH).getD (x%(z.cells.toList.map fH).length) .any) (madeCells z.cells (len*inf.size)).toList:=by
      refine tq (by simp [size_madeCells]) fun x v u q1 q2=>?_
      rw [List.getElem?_map] at q1
      have hx:x<len*inf.size:=by
        rcases Nat.lt_or_ge x (len*inf.size) with q | q
        · exact q
        · rw [List.getElem?_eq_none (by simpa using q)] at q1;cases q1
      rw [List.getElem?_range hx] at q1
      rw [Array.getElem?_toList,qQ hx] at q2
      simp only [Option.map_some,Option.some.injEq] at q1 q2
      subst q1;subst q2
      have hpos : 0 < z.cells.size := by rw [c1]; rcases Nat.eq_zero_or_pos inf.size with q | q; · rw [q] at hx; omega
                                         · exact q
      have hm:x%z.cells.size<z.cells.size:=Nat.mod_lt _ hpos
      rw [getElem!_pos z.cells (x%z.cells.size) hm,List.getD_eq_getElem?_getD,List.getElem?_map]
      simp only [List.length_map,Array.length_toList,Array.getElem?_toList,Array.getElem?_eq_getElem hm,Option.map_some,Option.getD_some]
      exact pZ _ _ _
    obtain ⟨c',q1,q2,q3⟩:=Ft h1 h2 hbase hf
    have hlen:c'.size=len*inf.size:=by
      have:=q2.length;rw [q3] at this;simpa using this.symm
    have hs:P.cellsOf e=inf.size:=by simp [Program.cellsOf,hi]
    refine Cc hh hb hn (Lj P e l) (.inl rfl) (c:=c') (t:=e) (u:=.slice (some ⟨w.heap.size,0,none⟩) len len) ?_ (cV.cells q2) ?_
    · have hzv:(zeroValue e).run P w=.ok z w:=by simp [zeroValue,typeInfo,hi,hz]
      have nb : ¬ (16777216<len*inf.size):=by omega
      have hm:madeCells z.cells (len*inf.size)=(Array.range (len*inf.size)).map (fun x=>z.cells[x%z.cells.size]!):=rfl
      by_cases h0:len*inf.size=0
      · have hm0:madeCells z.cells 0 = #[]:=by simp [madeCells,Array.range_zero']
        rw [h0,hm0] at q1
        simp [Instr.buildSlice,run_underlying ht,run_sizeOf w hi,hs,nb,h0,Array.range_zero',q1,newRow]
      · simp only [Instr.buildSlice,Sem.run_bind,run_underlying ht,Result.andThen_ok,run_sizeOf w hi,hs]
        rw [if_neg (by simpa using nb)]
        simp only [Sem.run_bind,Sem.run_pure,Result.andThen_ok,if_neg h0,hzv,←hm,q1]
        simp [newRow]
    · rintro _ _ rfl rfl
      have:VR (ρ.give nid w.heap.size) (w.alloc (.cells c' e)) (.sl nid 1 inf.size 0 len len) (.slice (some ⟨(ρ.give nid w.heap.size).at_ nid,0*1,none⟩) len len) :=
        .sl _ _ _ _ _ _ _ (.inl rfl) (Nat.le_refl _) (Nat.le_refl _) c' e (by simp only [ac.give,if_true];exact eG w _) (by omega)
      simpa [ac.give] using this
def aD.count:aD→Nat
  | .fl xs=>xs.length
  | .ns _ xs=>xs.length
  | .bs xs=>xs.length
  | .ss xs=>xs.length
  | .vs xs=>xs.length
  | .rows w n _=>n*w
  | .cols n cs=>n*cs.length
def ot{α:Type}(i:Nat)(l:List α) :List α :=
  match i with
  | 0=>l
  | i=>l.drop i
theorem Fv{α:Type}(i:Nat)(l:List α) :ot i l=l.drop i:=by
  unfold ot;split<;>simp
def mt(a b:Nat) :Bool:=decide (a≤b)
def gL.part(i len:Nat) :gL→gL
  | .cf xs=>.cf ((ot i xs).take len)
  | .ci k xs=>.ci k ((ot i xs).take len)
  | .cb xs=>.cb ((ot i xs).take len)
  | .cs xs=>.cs ((ot i xs).take len)
  | .cfl xs=>.cfl ((ot i xs).take len)
  | .cns k xs=>.cns k ((ot i xs).take len)
def rr(i len:Nat) :List gL→List gL
  | []=>[]
  | c::cs=>c.part i len::rr i len cs
def aD.sub(d:aD)(w es i len:Nat) :Option (aD×List Bool) :=
  match d with
  | .fl xs=>bif Nat.beq w 1&&Nat.beq es 1 then some (.fl ((ot i xs).take len),[mt (fc i len) xs.length]) else none
  | .ns k xs=>bif Nat.beq w 1&&Nat.beq es 1 then some (.ns k ((ot i xs).take len),[mt (fc i len) xs.length]) else none
  | .bs xs=>bif Nat.beq w 1&&Nat.beq es 1 then some (.bs ((ot i xs).take len),[mt (fc i len) xs.length]) else none
  | .ss xs=>bif Nat.beq w 1&&Nat.beq es 1 then some (.ss ((ot i xs).take len),[mt (fc i len) xs.length]) else none
  | .vs xs=>bif Nat.beq w 1&&iw xs then some (.vs ((ot i xs).take (len*es)),[mt (fc i (len*es)) xs.length]) else none
  | .rows w' n get=>bif Nat.beq w w'&&(Nat.beq w es&&Nat.blt 0 w) then some (.rows w len (fun a j=>get (fc i a) j),[mt (fc i len) n]) else none
  | .cols n cs=>bif Nat.beq w cs.length&&(Nat.beq w es&&Nat.blt 0 w) then some (.cols len (rr i len cs),[mt (fc i len) n]) else none
theorem xy(i len:Nat) :∀ (cs:List gL) (j:Nat),(rr i len cs)[j]? = (cs[j]?).map (gL.part i len)
  | [],j=>by simp [rr]
  | c::cs,0=>by simp [rr]
  | c::cs,j+1=>by simp [rr,xy i len cs j]
theorem sa(i len:Nat) :∀ (cs:List gL),(rr i len cs).length=cs.length
  | []=>rfl
  | c::cs=>by simp [rr,sa i len cs]
theorem Ll{α:Type}{f:α→AV}{xs:List α}{i m x:Nat}{v:AV}(h:(((ot i xs).take m)[x]?).map f=some v) :x<m∧(xs[i+x]?).map f=some v:=by
  rw [Fv] at h
  simp only [Option.map_eq_some_iff] at h
  obtain ⟨a,h1,h2⟩:=h
  rw [List.getElem?_take] at h1
  split at h1
  · rename_i hx
    rw [List.getElem?_drop] at h1
    exact ⟨hx,by rw [h1];simp [h2]⟩
  · cases h1
theorem Ry{i len:Nat}{c:gL}(h:i+len≤c.len) :(c.part i len).len=len:=by
  cases c<;>simp only [gL.part,gL.len,Fv,List.length_take,List.length_drop] at h ⊢ <;> omega
theorem On{i len x:Nat}{c:gL}{v:AV}(h:(c.part i len).cell? x=some v) :x<len∧c.cell? (i+x)=some v:=by
  cases c<;>simp only [gL.part,gL.cell?] at h ⊢ <;> exact Ll h
structure aaZ (d':aD) (n:Nat) (cell:Nat→Option AV):Prop where
  rk:d'.recKept
  cells:∀ x v,d'.cell? x=some v→x<n∧cell x=some v
  all:∀ x,x<n→∃ v,cell x=some v∧v.one=true
  count:d'.count=n
theorem AM{d d':aD}{w es i len:Nat}{obs:List Bool}(hrk:d.recKept)(h:d.sub w es i len=some (d',obs))(ho:aB obs) :aaZ d' (len*es) (fun x=>d.cell? (i*w+x)):=by
  have le:∀ {a b:Nat},mt (fc i a) b=true→i+a≤b:=fun h=>by have:=of_decide_eq_true h;simpa using this
  have two:∀ {a b:Nat},(Nat.beq w a&&Nat.beq es b)=true→w=a∧es=b:=fun h=>by rw [Bool.and_eq_true] at h;exact ⟨Nat.eq_of_beq_eq_true h.1,Nat.eq_of_beq_eq_true h.2⟩
  have typed:∀ {α:Type} {f:α→AV} {xs:List α} {c:Nat→Option AV} {bl:aD},w=1→es=1→(∀ x,bl.cell? x=(((ot i xs).take len)[x]?).map f)→bl.recKept→bl.count=((ot i xs).take len).length →
      (∀ x,c x=(xs[x]?).map f)→(∀ a,(f a).one=true)→i+len≤xs.length→aaZ bl (len*es) (fun x=>c (i*w+x)):=by
    intro α f xs c bl hw he hb hr hcnt hc h1 hle
    subst hw;subst he
    refine ⟨hr,fun x v hv=>?_,fun x hx=>?_,?_⟩
    · rw [hb] at hv
      obtain ⟨q1,q2⟩:=Ll hv
      exact ⟨by omega,by rw [Nat.mul_one,hc];exact q2⟩
    · refine ⟨f (xs[i+x]'(by omega)),?_,h1 _⟩
      rw [Nat.mul_one,hc,List.getElem?_eq_getElem (by omega)];rfl
    · rw [hcnt,Fv,List.length_take,List.length_drop];omega
  cases d with
  | fl xs =>
    simp only [aD.sub] at h
    cases e:(Nat.beq w 1&&Nat.beq es 1) with
    | false=>rw [e] at h;cases h
    | true=>rw [e] at h;simp only [cond_true,Option.some.injEq,Prod.mk.injEq] at h;obtain ⟨rfl,rfl⟩:=h;exact typed (f:=AV.flt false) (two e).1 (two e).2 (fun _=>rfl) trivial rfl (fun _=>rfl) (fun _=>rfl) (le ho.1)
  | ns k xs =>
    simp only [aD.sub] at h
    cases e:(Nat.beq w 1&&Nat.beq es 1) with
    | false=>rw [e] at h;cases h
    | true=>rw [e] at h;simp only [cond_true,Option.some.injEq,Prod.mk.injEq] at h;obtain ⟨rfl,rfl⟩:=h;exact typed (f:=AV.int k) (two e).1 (two e).2 (fun _=>rfl) trivial rfl (fun _=>rfl) (fun _=>rfl) (le ho.1)
  | bs xs =>
    simp only [aD.sub] at h
    cases e:(Nat.beq w 1&&Nat.beq es 1) with
    | false=>rw [e] at h;cases h
    | true=>rw [e] at h;simp only [cond_true,Option.some.injEq,Prod.mk.injEq] at h;obtain ⟨rfl,rfl⟩:=h;exact typed (f:=AV.bool false) (two e).1 (two e).2 (fun _=>rfl) trivial rfl (fun _=>rfl) (fun _=>rfl) (le ho.1)
  | ss xs =>
    simp only [aD.sub] at h
    cases e:(Nat.beq w 1&&Nat.beq es 1) with
    | false=>rw [e] at h;cases h
    | true=>rw [e] at h;simp only [cond_true,Option.some.injEq,Prod.mk.injEq] at h;obtain ⟨rfl,rfl⟩:=h;exact typed (f:=AV.str) (two e).1 (two e).2 (fun _=>rfl) trivial rfl (fun _=>rfl) (fun _=>rfl) (le ho.1)
  | vs xs =>
    simp only [aD.sub] at h
    cases e:(Nat.beq w 1&&iw xs) with
    | false=>rw [e] at h;cases h
    | true =>
      rw [e] at h;simp only [cond_true,Option.some.injEq,Prod.mk.injEq] at h;obtain ⟨rfl,rfl⟩:=h
      rw [Bool.and_eq_true] at e
      have e1:=Nat.eq_of_beq_eq_true e.1
      subst e1
      have hle:=le ho.1
      refine ⟨trivial,fun x v hv=>?_,fun x hx=>?_,?_⟩
      · have:(((ot i xs).take (len*es))[x]?).map id=some v:=by simpa [aD.cell?] using hv
        obtain ⟨q1,q2⟩:=Ll this
        exact ⟨q1,by rw [Nat.mul_one];simpa [aD.cell?] using q2⟩
      · refine ⟨xs[i+x]'(by omega),?_,xx e.2 (i+x) _ (List.getElem?_eq_getElem (by omega))⟩
        rw [Nat.mul_one];simp only [aD.cell?];exact List.getElem?_eq_getElem (by omega)
      · simp only [aD.count,Fv,List.length_take,List.length_drop];omega
  | rows w' n get =>
    simp only [aD.sub] at h
    cases e:(Nat.beq w w'&&(Nat.beq w es&&Nat.blt 0 w)) with
    | false=>rw [e] at h;cases h
    | true =>
      rw [e] at h;simp only [cond_true,Option.some.injEq,Prod.mk.injEq] at h;obtain ⟨rfl,rfl⟩:=h
      simp only [Bool.and_eq_true] at e
      obtain ⟨e1,e2,e3⟩:=e
      have e1:=Nat.eq_of_beq_eq_true e1;have e2:=Nat.eq_of_beq_eq_true e2
      subst e1;subst e2
      have hw:0<w:=by simpa [Nat.blt_eq] using e3
      have hle:=le ho.1
      have key:∀ x,(i*w+x)/w=i+x/w∧(i*w+x)%w=x%w:=by
        intro x
        exact ⟨by rw [Nat.add_comm,Nat.add_mul_div_right _ _ hw,Nat.add_comm],by rw [Nat.add_comm,Nat.add_mul_mod_self_right]⟩
      refine ⟨fun a j=>hrk _ _,fun x v hv=>?_,fun x hx=>?_,rfl⟩
      · simp only [aD.cell?,iM] at hv ⊢
        split at hv
        · rename_i hlt
          refine ⟨(Nat.div_lt_iff_lt_mul hw).1 hlt,?_⟩
          rw [(key x).1,(key x).2,if_pos (by omega)];exact hv
        · cases hv
      · have hlt:=(Nat.div_lt_iff_lt_mul hw).2 hx
        refine ⟨get (i+x/w) (x%w),?_,(hrk _ _).2⟩
        simp only [aD.cell?]
        rw [(key x).1,(key x).2,if_pos (by omega)]
  | cols n cs =>
    simp only [aD.sub] at h
    cases e:(Nat.beq w cs.length&&(Nat.beq w es&&Nat.blt 0 w)) with
    | false=>rw [e] at h;cases h
    | true =>
      rw [e] at h;simp only [cond_true,Option.some.injEq,Prod.mk.injEq] at h;obtain ⟨rfl,rfl⟩:=h
      simp only [Bool.and_eq_true] at e
      obtain ⟨e1,e2,e3⟩:=e
      have e1:=Nat.eq_of_beq_eq_true e1;have e2:=Nat.eq_of_beq_eq_true e2
      subst e1;subst e2
      have hw:0<cs.length:=by simpa [Nat.blt_eq] using e3
      have hle:=le ho.1
      have key:∀ x,(i*cs.length+x)/cs.length=i+x/cs.length∧(i*cs.length+x)%cs.length=x%cs.length:=by
        intro x
        exact ⟨by rw [Nat.add_comm,Nat.add_mul_div_right _ _ hw,Nat.add_comm],by rw [Nat.add_comm,Nat.add_mul_mod_self_right]⟩
      refine ⟨fun c hc=>?_,fun x v hv=>?_,fun x hx=>?_,by simp [aD.count,sa]⟩
      · obtain ⟨j,hj⟩:=List.getElem?_of_mem hc
        rw [xy,Option.map_eq_some_iff] at hj
        obtain ⟨c',h1,rfl⟩:=hj
        exact Ry (by rw [hrk c' (List.mem_of_getElem? h1)];exact hle)
      · obtain ⟨c,h1,_,h3⟩:=ij hv
        rw [sa] at h1 h3
        rw [xy,Option.map_eq_some_iff] at h1
        obtain ⟨c',h1,rfl⟩:=h1
        obtain ⟨q1,q2⟩:=On h3
        refine ⟨(Nat.div_lt_iff_lt_mul hw).1 q1,?_⟩
        simp only [aD.cell?,(key x).1,(key x).2,h1,Option.bind_some];exact q2
      · have hlt:=(Nat.div_lt_iff_lt_mul hw).2 hx
        have hm:x%cs.length<cs.length:=Nat.mod_lt _ hw
        obtain ⟨v,hv⟩:=TS (c:=cs[x%cs.length]) (i:=i+x/cs.length) (by rw [hrk _ (List.getElem_mem hm)];omega)
        refine ⟨v,?_,(vz hv).2.2⟩
        simp only [aD.cell?,(key x).1,(key x).2,List.getElem?_eq_getElem hm,Option.bind_some];exact hv
def gL.app:gL→gL→Option gL
  | .cf a,.cf b=>some (.cf (a++b))
  | .ci k a,.ci k' b=>bif cJ k k' then some (.ci k (a++b)) else none
  | .cb a,.cb b=>some (.cb (a++b))
  | .cs a,.cs b=>some (.cs (a++b))
  | .cfl a,.cfl b=>some (.cfl (a++b))
  | .cns k a,.cns k' b=>bif cJ k k' then some (.cns k (a++b)) else none
  | _,_=>none
def KP:List gL→List gL→Option (List gL)
  | [],[]=>some []
  | a::l,b::m =>
    match a.app b,KP l m with
    | some c,some cs=>some (c::cs)
    | _,_=>none
  | _,_=>none
def X6(old new:aD) :Option aD :=
  match old,new with
  | .fl a,.fl b=>some (.fl (a++b))
  | .ns k a,.ns k' b=>bif cJ k k' then some (.ns k (a++b)) else none
  | .bs a,.bs b=>some (.bs (a++b))
  | .ss a,.ss b=>some (.ss (a++b))
  | .vs a,.vs b=>some (.vs (a++b))
  | .rows w n g,.rows w' n' g'=>bif Nat.beq w w'&&Nat.blt 0 w then some (.rows w (n+n') fun i j=>bif Nat.blt i n then g i j else g' (i-n) j) else none
  | .rows w n g,.vs l=>bif dM l&&(iw l&&(Nat.blt 0 w&&Nat.beq (l.length/w*w) l.length)) then some (.rows w (n+l.length/w) fun i j=>bif Nat.blt i n then g i j else l.getD ((i-n)*w+j) .nptr) else none
  | .cols n cs,.cols n' cs'=>bif Nat.blt 0 cs.length then (KP cs cs').map (.cols (n+n')) else none
  | _,_=>none
def T7:List AV→Option (List (List Nat)×List Bool)
  | []=>some ([],[])
  | .nsl::l=>(T7 l).map fun r=>([]::r.1,r.2)
  | .imm lv (.fl ys) 1 1 o n::l=>bif lv.isFree then (T7 l).map fun r=>(((ys.drop o).take n)::r.1,decide (o+n≤ys.length)::r.2) else none
  | _::_=>none
def T8(k:IntKind) :List AV→Option (List (List Int)×List Bool)
  | []=>some ([],[])
  | .nsl::l=>(T8 k l).map fun r=>([]::r.1,r.2)
  | .imm lv (.ns k' ys) 1 1 o n::l=>bif cJ k k'&&lv.isFree then (T8 k l).map fun r=>(((ys.drop o).take n)::r.1,decide (o+n≤ys.length)::r.2) else none
  | _::_=>none
def adI(P:Program)(t:TypeId)(l:List AV) :Option (gL×List Bool) :=
  match P.underlying t with
  | some (.float .f64)=>(XY l).map fun xs=>(.cf xs,[])
  | some (.int k)=>(XZ k l).map fun xs=>(.ci k xs,[])
  | some .bool=>(X0 l).map fun xs=>(.cb xs,[])
  | some .string=>(X1 l).map fun xs=>(.cs xs,[])
  | some (.slice e) =>
    match P.underlying e with
    | some (.float .f64)=>(T7 l).map fun r=>(.cfl r.1,r.2)
    | some (.int k)=>(T8 k l).map fun r=>(.cns k r.1,r.2)
    | _=>none
  | _=>none
def D4(l:List AV)(es j:Nat) :Nat→Nat→List AV
  | 0,_=>[]
  | m+1,i=>l.getD (i*es+j) .nptr::D4 l es j m (i+1)
def Rz(P:Program)(l:List AV)(es m:Nat) :List TypeId→Nat→Option (List gL×List Bool)
  | [],_=>some ([],[])
  | t::ts,j =>
    match adI P t (D4 l es j m 0),Rz P l es m ts (j+1) with
    | some (c,o),some (cs,o')=>some (c::cs,o++o')
    | _,_=>none
def aD.norm(P:Program)(e:TypeId)(d:aD)(es:Nat) :aD×List Bool :=
  match d with
  | .vs l =>
    match Rz P l es (l.length/es) (aaY P e) 0 with
    | some (cs,o)=>bif Nat.beq cs.length es&&(Nat.blt 0 es&&Nat.beq (l.length/es*es) l.length) then (.cols (l.length/es) cs,o) else (.vs l,[])
    | none=>(.vs l,[])
  | d=>(d,[])
theorem nX:∀ {l:List AV},dM l=true→∀ (x:Nat) (v:AV),l[x]? = some v→v.kept=true
  | [],_,x,v,h=>by simp at h
  | a::l,ha,0,v,h=>by simp at h;subst h;simp only [dM,Bool.and_eq_true] at ha;exact ha.1
  | a::l,ha,x+1,v,h=>by simp only [dM,Bool.and_eq_true] at ha;exact nX ha.2 x v (by simpa using h)
theorem acl{l:List AV}(h1:dM l=true)(h2:iw l=true)(x:Nat) :(l.getD x .nptr).kept=true∧(l.getD x .nptr).one=true:=by
  rw [List.getD_eq_getElem?_getD]
  cases h:l[x]? with
  | none=>exact ⟨rfl,rfl⟩
  | some v=>exact ⟨nX h1 x v h,xx h2 x v h⟩
theorem T9:∀ {l:List AV} {xs:List Nat},XY l=some xs→xs.length=l.length∧∀ (i:Nat) v,(xs[i]?).map (AV.flt false)=some v→∃ v0,l[i]? = some v0∧bp v0 v
  | [],xs,h=>by cases h;exact ⟨rfl,fun i v hv=>by simp at hv⟩
  | .flt ex x::l,xs,h=>by
    simp only [XY,Option.map_eq_some_iff] at h
    obtain ⟨ys,h1,rfl⟩:=h
    obtain ⟨a1,a2⟩:=T9 h1
    refine ⟨by simp [a1],fun i v hv=>?_⟩
    cases i with
    | zero=>simp at hv;subst hv;exact ⟨_,rfl,sJ (d:=.fl [])⟩
    | succ i=>exact a2 i v (by simpa using hv)
  | .int .. :: _,_,h | .bool .. :: _,_,h | .str _::_,_,h | .nptr::_,_,h | .ptr .. :: _,_,h | .iptr .. :: _,_,h | .nsl::_,_,h | .esl::_,_,h | .zsl _::_,_,h | .nan::_,_,h | .sl .. :: _,_,h | .imm .. :: _,_,h | .fn .. :: _,_,h | .nfn::_,_,h
  | .agg _::_,_,h | .tup _::_,_,h | .iface .. :: _,_,h | .niface::_,_,h | .yld _::_,_,h | .any::_,_,h=>by cases h
theorem Ua{k:IntKind} :∀ {l:List AV} {xs:List Int},XZ k l=some xs→xs.length=l.length∧∀ (i:Nat) v,(xs[i]?).map (AV.int k)=some v→∃ v0,l[i]? = some v0∧bp v0 v
  | [],xs,h=>by cases h;exact ⟨rfl,fun i v hv=>by simp at hv⟩
  | .int k' x::l,xs,h=>by
    simp only [XZ] at h
    cases e:cJ k k' with
    | false=>rw [e] at h;cases h
    | true =>
    rw [e] at h
    have hk:k=k':=of_decide_eq_true e
    subst hk
    simp only [cond_true,Option.map_eq_some_iff] at h
    obtain ⟨ys,h1,rfl⟩:=h
    obtain ⟨a1,a2⟩:=Ua h1
    refine ⟨by simp [a1],fun i v hv=>?_⟩
    cases i with
    | zero=>simp at hv;subst hv;exact ⟨_,rfl,bp.refl _⟩
    | succ i=>exact a2 i v (by simpa using hv)
  | .flt .. :: _,_,h | .bool .. :: _,_,h | .str _::_,_,h | .nptr::_,_,h | .ptr .. :: _,_,h | .iptr .. :: _,_,h | .nsl::_,_,h | .esl::_,_,h | .zsl _::_,_,h | .nan::_,_,h | .sl .. :: _,_,h | .imm .. :: _,_,h | .fn .. :: _,_,h | .nfn::_,_,h
  | .agg _::_,_,h | .tup _::_,_,h | .iface .. :: _,_,h | .niface::_,_,h | .yld _::_,_,h | .any::_,_,h=>by cases h
theorem Ub:∀ {l:List AV} {xs:List Bool},X0 l=some xs→xs.length=l.length∧∀ (i:Nat) v,(xs[i]?).map (AV.bool false)=some v→∃ v0,l[i]? = some v0∧bp v0 v
  | [],xs,h=>by cases h;exact ⟨rfl,fun i v hv=>by simp at hv⟩
  | .bool kn x::l,xs,h=>by
    simp only [X0,Option.map_eq_some_iff] at h
    obtain ⟨ys,h1,rfl⟩:=h
    obtain ⟨a1,a2⟩:=Ub h1
    refine ⟨by simp [a1],fun i v hv=>?_⟩
    cases i with
    | zero=>simp at hv;subst hv;exact ⟨_,rfl,sJ (d:=.bs [])⟩
    | succ i=>exact a2 i v (by simpa using hv)
  | .flt .. :: _,_,h | .int .. :: _,_,h | .str _::_,_,h | .nptr::_,_,h | .ptr .. :: _,_,h | .iptr .. :: _,_,h | .nsl::_,_,h | .esl::_,_,h | .zsl _::_,_,h | .nan::_,_,h | .sl .. :: _,_,h | .imm .. :: _,_,h | .fn .. :: _,_,h | .nfn::_,_,h
  | .agg _::_,_,h | .tup _::_,_,h | .iface .. :: _,_,h | .niface::_,_,h | .yld _::_,_,h | .any::_,_,h=>by cases h
theorem Uc:∀ {l:List AV} {xs:List ByteArray},X1 l=some xs→xs.length=l.length∧∀ (i:Nat) v,(xs[i]?).map AV.str=some v→∃ v0,l[i]? = some v0∧bp v0 v
  | [],xs,h=>by cases h;exact ⟨rfl,fun i v hv=>by simp at hv⟩
  | .str x::l,xs,h=>by
    simp only [X1,Option.map_eq_some_iff] at h
    obtain ⟨ys,h1,rfl⟩:=h
    obtain ⟨a1,a2⟩:=Uc h1
    refine ⟨by simp [a1],fun i v hv=>?_⟩
    cases i with
    | zero=>simp at hv;subst hv;exact ⟨_,rfl,bp.refl _⟩
    | succ i=>exact a2 i v (by simpa using hv)
  | .flt .. :: _,_,h | .int .. :: _,_,h | .bool .. :: _,_,h | .nptr::_,_,h | .ptr .. :: _,_,h | .iptr .. :: _,_,h | .nsl::_,_,h | .esl::_,_,h | .zsl _::_,_,h | .nan::_,_,h | .sl .. :: _,_,h | .imm .. :: _,_,h | .fn .. :: _,_,h | .nfn::_,_,h
  | .agg _::_,_,h | .tup _::_,_,h | .iface .. :: _,_,h | .niface::_,_,h | .yld _::_,_,h | .any::_,_,h=>by cases h
theorem He:∀ {l:List AV} {r:List (List Nat)×List Bool},T7 l=some r→aB r.2→r.1.length=l.length∧∀ (i:Nat) v,(r.1[i]?).map (fun l=>AV.imm .free (.fl l) 1 1 0 l.length)=some v→∃ v0,l[i]? = some v0∧bp v0 v
  | [],r,h,_=>by cases h;exact ⟨rfl,fun i v hv=>by simp at hv⟩
  | a::l,r,h,ho=>by
    unfold T7 at h
    split at h
    · rename_i q;cases q
    · rename_i l' q
      cases q
      simp only [Option.map_eq_some_iff] at h
      obtain ⟨r',h1,rfl⟩:=h
      obtain ⟨a1,a2⟩:=He h1 ho
      refine ⟨by simp [a1],fun i v hv=>?_⟩
      cases i with
      | zero=>simp at hv;subst hv;exact ⟨_,rfl,wH _ trivial rfl rfl⟩
      | succ i=>exact a2 i v (by simpa using hv)
    · rename_i lv ys o n l' q
      cases q
      cases e:lv.isFree with
      | false=>rw [e] at h;cases h
      | true =>
      rw [e] at h
      simp only [cond_true,Option.map_eq_some_iff] at h
      obtain ⟨r',h1,rfl⟩:=h
      obtain ⟨a1,a2⟩:=He h1 ho.2
      refine ⟨by simp [a1],fun i v hv=>?_⟩
      cases i with
      | zero=>simp only [List.getElem?_cons_zero,Option.map_some,Option.some.injEq] at hv;subst hv;exact ⟨_,rfl,Fq e (of_decide_eq_true ho.1)⟩
      | succ i=>exact a2 i v (by simpa using hv)
    · cases h
theorem Hf{k:IntKind} :∀ {l:List AV} {r:List (List Int)×List Bool},T8 k l=some r→aB r.2→r.1.length=l.length∧∀ (i:Nat) v,(r.1[i]?).map (fun l=>AV.imm .free (.ns k l) 1 1 0 l.length)=some v→∃ v0,l[i]? = some v0∧bp v0 v
  | [],r,h,_=>by cases h;exact ⟨rfl,fun i v hv=>by simp at hv⟩
  | a::l,r,h,ho=>by
    unfold T8 at h
    split at h
    · rename_i q;cases q
    · rename_i l' q
      cases q
      simp only [Option.map_eq_some_iff] at h
      obtain ⟨r',h1,rfl⟩:=h
      obtain ⟨a1,a2⟩:=Hf h1 ho
      refine ⟨by simp [a1],fun i v hv=>?_⟩
      cases i with
      | zero=>simp at hv;subst hv;exact ⟨_,rfl,wH _ trivial rfl rfl⟩
      | succ i=>exact a2 i v (by simpa using hv)
    · rename_i lv k' ys o n l' q
      cases q
      cases e:(cJ k k'&&lv.isFree) with
      | false=>rw [e] at h;cases h
      | true =>
      rw [e] at h
      rw [Bool.and_eq_true] at e
      have hk:k=k':=of_decide_eq_true e.1
      subst hk
      simp only [cond_true,Option.map_eq_some_iff] at h
      obtain ⟨r',h1,rfl⟩:=h
      obtain ⟨a1,a2⟩:=Hf h1 ho.2
      refine ⟨by simp [a1],fun i v hv=>?_⟩
      cases i with
      | zero=>simp only [List.getElem?_cons_zero,Option.map_some,Option.some.injEq] at hv;subst hv;exact ⟨_,rfl,Fr e.2 (of_decide_eq_true ho.1)⟩
      | succ i=>exact a2 i v (by simpa using hv)
    · cases h
theorem X7{P:Program}{t:TypeId}{l:List AV}{c:gL}{o:List Bool}(h:adI P t l=some (c,o))(ho:aB o) :c.len=l.length∧∀ i v,c.cell? i=some v→∃ v0,l[i]? = some v0∧bp v0 v:=by
  unfold adI at h
  split at h
  · simp only [Option.map_eq_some_iff,Prod.mk.injEq] at h;obtain ⟨xs,h1,rfl,rfl⟩:=h;exact T9 h1
  · simp only [Option.map_eq_some_iff,Prod.mk.injEq] at h;obtain ⟨xs,h1,rfl,rfl⟩:=h;exact Ua h1
  · simp only [Option.map_eq_some_iff,Prod.mk.injEq] at h;obtain ⟨xs,h1,rfl,rfl⟩:=h;exact Ub h1
  · simp only [Option.map_eq_some_iff,Prod.mk.injEq] at h;obtain ⟨xs,h1,rfl,rfl⟩:=h;exact Uc h1
  · split at h
    · simp only [Option.map_eq_some_iff,Prod.mk.injEq] at h;obtain ⟨xs,h1,rfl,rfl⟩:=h;exact He h1 ho
    · simp only [Option.map_eq_some_iff,Prod.mk.injEq] at h;obtain ⟨xs,h1,rfl,rfl⟩:=h;exact Hf h1 ho
    · cases h
  · cases h
theorem I8(l:List AV)(es j:Nat) :∀ (m i:Nat),(D4 l es j m i).length=m∧∀ x,x<m→(D4 l es j m i)[x]? = some (l.getD ((i+x)*es+j) .nptr)
  | 0,i=>⟨rfl,fun x hx=>by omega⟩
  | m+1,i=>by
    obtain ⟨a1,a2⟩:=I8 l es j m (i+1)
    refine ⟨by simp [D4,a1],fun x hx=>?_⟩
    cases x with
    | zero=>simp [D4]
    | succ x =>
      simp only [D4,List.getElem?_cons_succ]
      rw [a2 x (by omega)]
      have:i+1+x=i+(x+1):=by omega
      rw [this]
theorem I9{P:Program}{l:List AV}{es m:Nat} :∀ {ts:List TypeId} {j:Nat} {cs:List gL} {o:List Bool},Rz P l es m ts j=some (cs,o)→aB o →
    (∀ c∈cs,c.len=m)∧∀ (q:Nat) c i v,cs[q]? = some c→c.cell? i=some v→i<m∧bp (l.getD (i*es+(j+q)) .nptr) v
  | [],j,cs,o,h,_=>by cases h;exact ⟨(fun c hc=>by cases hc),(fun q c i v hq=>by simp at hq)⟩
  | t::ts,j,cs,o,h,ho=>by
    simp only [Rz] at h
    split at h
    case h_2=>cases h
    rename_i c o1 cs' o2 h1 h2
    simp only [Option.some.injEq,Prod.mk.injEq] at h;obtain ⟨rfl,rfl⟩:=h
    rw [bh] at ho
    obtain ⟨a1,a2⟩:=I9 h2 ho.2
    obtain ⟨b1,b2⟩:=X7 h1 ho.1
    obtain ⟨s1,s2⟩:=I8 l es j m 0
    refine ⟨fun x hx=>?_,fun q x i v hq hx=>?_⟩
    · rcases List.mem_cons.1 hx with rfl | r
      · rw [b1,s1]
      · exact a1 x r
    · cases q with
      | zero =>
        simp at hq;subst hq
        have hlt:i<m:=by have:=AF hx;rw [b1,s1] at this;exact this
        obtain ⟨v0,k1,k2⟩:=b2 i v hx
        rw [s2 i hlt,Option.some.injEq,Nat.zero_add] at k1
        rw [Nat.add_zero,k1];exact ⟨hlt,k2⟩
      | succ q =>
        have:=a2 q x i v (by simpa using hq) hx
        have e:j+1+q=j+(q+1):=by omega
        rw [e] at this;exact this
theorem qa(P:Program)(e:TypeId)(d:aD)(es:Nat)(hrk:d.recKept)(ho:aB (d.norm P e es).2) :(d.norm P e es).1.recKept∧(∀ x v,(d.norm P e es).1.cell? x=some v→∃ v0,d.cell? x=some v0∧bp v0 v)∧(d.norm P e es).1.count=d.count:=by
  have same:∀ {d':aD},d'=d→d'.recKept∧(∀ x v,d'.cell? x=some v→∃ v0,d.cell? x=some v0∧bp v0 v)∧d'.count=d.count:=by
    rintro d' rfl;exact ⟨hrk,fun x v h=>⟨v,h,bp.refl _⟩,rfl⟩
  cases d with
  | vs l =>
    simp only [aD.norm] at ho ⊢
    split
    · rename_i cs o hc
      rw [hc] at ho
      cases e1:(Nat.beq cs.length es&&(Nat.blt 0 es&&Nat.beq (l.length/es*es) l.length)) with
      | false=>exact same rfl
      | true =>
        simp only [e1,cond_true] at ho ⊢
        simp only [Bool.and_eq_true] at e1
        obtain ⟨q1,q2,q3⟩:=e1
        have q1:=Nat.eq_of_beq_eq_true q1
        have q3:=Nat.eq_of_beq_eq_true q3
        have q2:0<es:=by simpa [Nat.blt_eq] using q2
        subst q1
        obtain ⟨a1,a2⟩:=I9 hc ho
        refine ⟨a1,fun x v hx=>?_,by simp only [aD.count];exact q3⟩
        obtain ⟨c,h1,_,h3⟩:=ij hx
        obtain ⟨r1,r2⟩:=a2 _ c _ v h1 h3
        have hdm:=Nat.div_add_mod x cs.length
        rw [Nat.zero_add,Nat.mul_comm,hdm] at r2
        have hlt:x<l.length:=by rw [←q3];exact (Nat.div_lt_iff_lt_mul q2).1 r1
        refine ⟨l[x],by simp only [aD.cell?];exact List.getElem?_eq_getElem hlt,?_⟩
        rw [List.getD_eq_getElem?_getD,List.getElem?_eq_getElem hlt] at r2;exact r2
    · exact same rfl
  | _=>exact same rfl
theorem adJ{a b:Nat}(h : ¬ a<b) :Nat.blt a b=false:=by
  cases e:Nat.blt a b with
  | false=>rfl
  | true=>exact absurd (by simpa [Nat.blt_eq] using e) h
theorem lc{α:Type}{f:α→AV}{a b:List α}{x:Nat}{v:AV}(h:((a++b)[x]?).map f=some v) :(x<a.length∧(a[x]?).map f=some v)∨(a.length≤x∧(b[x-a.length]?).map f=some v):=by
  rw [List.getElem?_append] at h
  split at h
  · rename_i hx;exact .inl ⟨hx,h⟩
  · rename_i hx;exact .inr ⟨by omega,h⟩
theorem RA{a b c:gL}(h:a.app b=some c) :c.len=a.len+b.len∧∀ i v,c.cell? i=some v→(i<a.len∧a.cell? i=some v)∨(a.len≤i∧b.cell? (i-a.len)=some v):=by
  unfold gL.app at h
  split at h
  · cases h;exact ⟨by simp [gL.len],fun i v hv=>lc (f:=AV.flt false) hv⟩
  · rename_i k a k' b
    cases e:cJ k k' with
    | false=>rw [e] at h;cases h
    | true =>
      rw [e] at h;cases h
      have hk:k=k':=of_decide_eq_true e
      subst hk
      exact ⟨by simp [gL.len],fun i v hv=>lc (f:=AV.int k) hv⟩
  · cases h;exact ⟨by simp [gL.len],fun i v hv=>lc (f:=AV.bool false) hv⟩
  · cases h;exact ⟨by simp [gL.len],fun i v hv=>lc (f:=AV.str) hv⟩
  · cases h;exact ⟨by simp [gL.len],fun i v hv=>lc (f:=fun l=>AV.imm .free (.fl l) 1 1 0 l.length) hv⟩
  · rename_i k a k' b
    cases e:cJ k k' with
    | false=>rw [e] at h;cases h
    | true =>
      rw [e] at h;cases h
      have hk:k=k':=of_decide_eq_true e
      subst hk
      exact ⟨by simp [gL.len],fun i v hv=>lc (f:=fun l=>AV.imm .free (.ns k l) 1 1 0 l.length) hv⟩
  · cases h
theorem Fw:∀ {a b c:List gL},KP a b=some c→a.length=c.length∧b.length=c.length∧∀ (j:Nat) (z:gL),c[j]? = some z→∃ x y:gL,a[j]? = some x∧b[j]? = some y∧x.app y=some z
  | [],[],c,h=>by cases h;exact ⟨rfl,rfl,(fun j z hz=>by simp at hz)⟩
  | [],_::_,c,h=>by cases h
  | _::_,[],c,h=>by cases h
  | a::l,b::m,c,h=>by
    simp only [KP] at h
    split at h
    case h_2=>cases h
    rename_i d ds h1 h2
    cases h
    obtain ⟨a1,a2,a3⟩:=Fw h2
    refine ⟨by simp [a1],by simp [a2],fun j z hz=>?_⟩
    cases j with
    | zero=>simp at hz;subst hz;exact ⟨a,b,rfl,rfl,h1⟩
    | succ j=>obtain ⟨x,y,q1,q2,q3⟩:=a3 j z (by simpa using hz);exact ⟨x,y,by simpa using q1,by simpa using q2,q3⟩
theorem app_spec{old new d:aD}(ho:old.recKept)(hn:new.recKept)(h:X6 old new=some d) :
    d.recKept∧(∀ x v,d.cell? x=some v→(x<old.count∧old.cell? x=some v)∨(old.count≤x∧new.cell? (x-old.count)=some v)):=by
  unfold X6 at h
  split at h
  · cases h;exact ⟨trivial,fun x v hx=>lc (f:=AV.flt false) hx⟩
  · rename_i k a k' b
    cases e:cJ k k' with
    | false=>rw [e] at h;cases h
    | true =>
      rw [e] at h;cases h
      have:k=k':=of_decide_eq_true e
      subst this
      exact ⟨trivial,fun x v hx=>lc (f:=AV.int k) hx⟩
  · cases h;exact ⟨trivial,fun x v hx=>lc (f:=AV.bool false) hx⟩
  · cases h;exact ⟨trivial,fun x v hx=>lc (f:=AV.str) hx⟩
  · cases h
    refine ⟨trivial,fun x v hx=>?_⟩
    have:=lc (f:=id) (v:=v) (by simpa [aD.cell?] using hx)
    simpa [aD.cell?,aD.count] using this
  · rename_i w n g w' n' g'
    cases e:(Nat.beq w w'&&Nat.blt 0 w) with
    | false=>rw [e] at h;cases h
    | true =>
      rw [e] at h;cases h
      rw [Bool.and_eq_true] at e
      have e1:=Nat.eq_of_beq_eq_true e.1
      subst e1
      have hw:0<w:=by simpa [Nat.blt_eq] using e.2
      refine ⟨fun i j=>?_,fun x v hx=>?_⟩
      · cases q:Nat.blt i n with
        | true=>simp only [q,cond_true];exact ho i j
        | false=>simp only [q,cond_false];exact hn _ j
      · simp only [aD.cell?, aD.count] at hx ⊢
        split at hx
        · rename_i hlt
          by_cases hl:x/w<n
          · have:Nat.blt (x/w) n=true:=by simpa [Nat.blt_eq] using hl
            rw [this] at hx
            exact .inl ⟨(Nat.div_lt_iff_lt_mul hw).1 hl,by rw [if_pos hl];exact hx⟩
          · have : Nat.blt (x / w) n = false := adJ hl
            rw [this] at hx
            have hge : n * w ≤ x := by rcases Nat.lt_or_ge x (n * w) with q | q; · exact absurd ((Nat.div_lt_iff_lt_mul hw).2 q) hl
                                       · exact q
            have d1:(x-n*w)/w=x/w-n:=by rw [Nat.mul_comm n w,Nat.sub_mul_div]
            have d2:(x-n*w)%w=x%w:=by rw [Nat.mul_comm n w,Nat.sub_mul_mod (by rw [Nat.mul_comm];exact hge)]
            refine .inr ⟨hge,?_⟩
            have hx':some (g' (x/w-n) (x%w))=some v:=hx
            have d3:(x-n*w)/w<n':=by omega
            rw [←hx',←d1,←d2];exact if_pos d3
        · cases hx
  · rename_i w n g l
    cases e:(dM l&&(iw l&&(Nat.blt 0 w&&Nat.beq (l.length/w*w) l.length))) with
    | false=>rw [e] at h;cases h
    | true =>
      rw [e] at h;cases h
      simp only [Bool.and_eq_true] at e
      obtain ⟨e1,e2,e3,e4⟩:=e
      have e4:=Nat.eq_of_beq_eq_true e4
      have hw:0<w:=by simpa [Nat.blt_eq] using e3
      refine ⟨fun i j=>?_,fun x v hx=>?_⟩
      · cases q:Nat.blt i n with
        | true=>simp only [q,cond_true];exact ho i j
        | false=>simp only [q,cond_false];exact acl e1 e2 _
      · simp only [aD.cell?, aD.count] at hx ⊢
        split at hx
        · rename_i hlt
          by_cases hl:x/w<n
          · have:Nat.blt (x/w) n=true:=by simpa [Nat.blt_eq] using hl
            rw [this] at hx
            exact .inl ⟨(Nat.div_lt_iff_lt_mul hw).1 hl,by rw [if_pos hl];exact hx⟩
          · have : Nat.blt (x / w) n = false := adJ hl
            rw [this] at hx
            have hge : n * w ≤ x := by rcases Nat.lt_or_ge x (n * w) with q | q; · exact absurd ((Nat.div_lt_iff_lt_mul hw).2 q) hl
                                       · exact q
            have e5:(x/w-n)*w+x%w=x-n*w:=by
              rw [Nat.sub_mul]
              have:=Nat.div_add_mod x w
              rw [Nat.mul_comm] at this
              have h6:n*w≤x/w*w:=Nat.mul_le_mul_right w (by omega)
              omega
            have hlt2:x-n*w<l.length:=by
              have:=(Nat.div_lt_iff_lt_mul hw).1 hlt
              rw [Nat.add_mul,e4] at this;omega
            simp only [cond_false,e5] at hx
            rw [List.getD_eq_getElem?_getD,List.getElem?_eq_getElem hlt2] at hx
            exact .inr ⟨hge,by rw [List.getElem?_eq_getElem hlt2];exact hx⟩
        · cases hx
  · rename_i n cs n' cs'
    cases e:Nat.blt 0 cs.length with
    | false=>rw [e] at h;cases h
    | true =>
      rw [e] at h
      simp only [cond_true,Option.map_eq_some_iff] at h
      obtain ⟨ds,h1,rfl⟩:=h
      have hw:0<cs.length:=by simpa [Nat.blt_eq] using e
      obtain ⟨l1,l2,l3⟩:=Fw h1
      have len:∀ {j:Nat} {z:gL},ds[j]? = some z→∃ x y,cs[j]? = some x∧cs'[j]? = some y∧x.len=n∧z.len=n+n'∧∀ i v,z.cell? i=some v→(i<n∧x.cell? i=some v)∨(n≤i∧y.cell? (i-n)=some v):=by
        intro j z hz
        obtain ⟨x,y,q1,q2,q3⟩:=l3 j z hz
        have e1:=ho x (List.mem_of_getElem? q1)
        have e2:=hn y (List.mem_of_getElem? q2)
        obtain ⟨r1,r2⟩:=RA q3
        rw [e1,e2] at r1
        rw [e1] at r2
        exact ⟨x,y,q1,q2,e1,r1,r2⟩
      refine ⟨fun z hz=>?_,fun x v hx=>?_⟩
      · obtain ⟨j,hj⟩:=List.getElem?_of_mem hz
        obtain ⟨_,_,_,_,_,q,_⟩:=len hj
        exact q
      · obtain ⟨z,q1,_,q3⟩:=ij hx
        obtain ⟨a,b,k1,k2,k3,_,k5⟩:=len q1
        have hdm:=Nat.div_add_mod x ds.length
        simp only [aD.count]
        rw [l1] at hw ⊢
        rcases k5 _ v q3 with ⟨r1,r2⟩ | ⟨r1,r2⟩
        · refine .inl ⟨(Nat.div_lt_iff_lt_mul hw).1 r1,?_⟩
          simp only [aD.cell?,l1,k1,Option.bind_some];exact r2
        · have hge:n*ds.length≤x:=by
            have:=Nat.mul_le_mul_right ds.length r1
            rw [Nat.mul_comm (x/ds.length)] at this;omega
          have d1:(x-n*ds.length)/ds.length=x/ds.length-n:=by rw [Nat.mul_comm n,Nat.sub_mul_div]
          have d2:(x-n*ds.length)%ds.length=x%ds.length:=by rw [Nat.mul_comm n,Nat.sub_mul_mod (by rw [Nat.mul_comm];exact hge)]
          refine .inr ⟨hge,?_⟩
          simp only [aD.cell?,l2,d1,d2,k2,Option.bind_some];exact r2
  · cases h
def Ud(g:Nat→Option aD)(x:AV) :Option (Nat×Nat×aD×List Bool×List Nat) :=
  match x with
  | .sl b w es i len _=>match g b with
    | some d=>(d.sub w es i len).map fun r=>(len,es,r.1,r.2,[b])
    | none=>none
  | .imm _ d w es i len=>(d.sub w es i len).map fun r=>(len,es,r.1,r.2,[])
  | _=>none
structure adK (ρ:ac) (w:World) (u:Value) (m es:Nat) (nb:aD):Prop where
  rk:nb.recKept
  count:nb.count=m*es
  val:∃ a c,u=.slice a m c∧(m=0∨∃ bl o,a=some ⟨bl,o,none⟩∧∃ news:List Value,news.length=m*es∧(∀ j v,news[j]? = some v→w.cell? ((⟨bl,o,none⟩:Addr).add j)=some v) ∧
    (∀ v∈news,v.oneCell'=true)∧∀ x v,nb.cell? x=some v→∃ u,news[x]? = some u∧VR ρ w v u)
  none_:m=0→∀ x,nb.cell? x=none
theorem Ue{ρ:ac}{w:World}{v:AV}{u:Value}(h:VR ρ w v u)(ho:v.one=true) :u.oneCell'=true:=by
  cases h<;>simp [AV.one] at ho<;>rfl
theorem aa0{ρ:ac}{w:World}{bl o n:Nat}{cell:Nat→Option AV}{nb:aD}(hc:∀ x v,cell x=some v→∃ u,w.cell? ⟨bl,o+x,none⟩=some u∧VR ρ w v u)(hs:aaZ nb n cell) :
    ∃ news:List Value,news.length=n∧(∀ j v,news[j]? = some v→w.cell? ((⟨bl,o,none⟩:Addr).add j)=some v)∧(∀ v∈news,v.oneCell'=true)∧∀ x v,nb.cell? x=some v→∃ u,news[x]? = some u∧VR ρ w v u:=by
  refine ⟨(List.range n).map fun x=>(w.cell? ⟨bl,o+x,none⟩).getD undef,by simp,fun j v hj=>?_,fun v hv=>?_,fun x v hx=>?_⟩
  · rw [List.getElem?_map] at hj
    have hlt:j<n:=by
      rcases Nat.lt_or_ge j n with q | q
      · exact q
      · rw [List.getElem?_eq_none (by simpa using q)] at hj;cases hj
    rw [List.getElem?_range hlt] at hj
    obtain ⟨a,q1,_⟩:=hs.all j hlt
    obtain ⟨u,q2,_⟩:=hc j a q1
    rw [kY,q2]
    simp [q2] at hj;rw [hj]
  · simp only [List.mem_map,List.mem_range] at hv
    obtain ⟨j,hlt,rfl⟩:=hv
    obtain ⟨a,q1,q3⟩:=hs.all j hlt
    obtain ⟨u,q2,q4⟩:=hc j a q1
    simp only [q2,Option.getD_some]
    exact Ue q4 q3
  · obtain ⟨hlt,q1⟩:=hs.cells x v hx
    obtain ⟨u,q2,q3⟩:=hc x v q1
    refine ⟨u,?_,q3⟩
    rw [List.getElem?_map,List.getElem?_range hlt];simp [q2]
theorem Lm{ρ:ac}{w:World}{h:bN}{n:Nat}(hh:HR ρ w h n){x:AV}{u:Value}{m es:Nat}{nb:aD}{obs:List Bool}{rs:List Nat}(hx:VR ρ w x u)(hs:Ud (be h) x=some (m,es,nb,obs,rs))(ho:aB obs) :
    adK ρ w u m es nb:=by
  have none_:∀ {cell:Nat→Option AV},aaZ nb (m*es) cell→m=0→∀ x,nb.cell? x=none:=by
    intro cell hs h0 x
    cases hc:nb.cell? x with
    | none=>rfl
    | some v=>have:=(hs.cells x v hc).1;rw [h0] at this;omega
  unfold Ud at hs
  split at hs
  · rename_i b k es' i len cap
    split at hs
    case h_2=>cases hs
    rename_i d hd
    simp only [Option.map_eq_some_iff,Prod.mk.injEq] at hs
    obtain ⟨⟨nb',o'⟩,hsub,rfl,rfl,rfl,rfl,rfl⟩:=hs
    have hrk:=hh.rk hd
    have hS:=AM hrk hsub ho
    refine ⟨hS.rk,hS.count,?_,none_ hS⟩
    cases hx with
    | sl _ _ _ _ _ _ cap' hb hcap hl c' t hh' hsz =>
      obtain ⟨_,_,c,ty,hc,hcv⟩:=hh.real hd hb
      refine ⟨_,_,rfl,.inr ⟨_,_,rfl,aa0 (fun x v hx=>?_) hS⟩⟩
      obtain ⟨u,q1,q2⟩:=hcv _ v hx
      exact ⟨u,by simp [World.cell?,hc,q1],q2⟩
    | slEnd=>exact ⟨_,_,rfl,.inl rfl⟩
  · rename_i bw d k es' i len
    simp only [Option.map_eq_some_iff,Prod.mk.injEq] at hs
    obtain ⟨⟨nb',o'⟩,hsub,rfl,rfl,rfl,rfl,rfl⟩:=hs
    cases hx with
    | imm _ _ _ _ _ _ cap bl o u ha hb hc hv hl hr hk hg =>
      have hS:=AM hr hsub ho
      refine ⟨hS.rk,hS.count,?_,none_ hS⟩
      refine ⟨_,_,rfl,.inr ⟨_,_,rfl,aa0 (fun x v hx=>⟨u (i*k+x),?_,hv _ v hx⟩) hS⟩⟩
      rw [Nat.add_assoc];exact hc _ v hx
    | immEnd _ _ _ _ _ cap a hr hk hg =>
      have hS:=AM hr hsub ho
      exact ⟨hS.rk,hS.count,⟨_,_,rfl,.inl rfl⟩,none_ hS⟩
  · cases hs
structure sK where
  v:AV
  sets:List (Nat×Option aD)
  obs:List Bool
def cS:List (Nat×Option aD)→bN→bN
  | [],h=>h
  | (b,some d)::l,h=>cS l (eY h b d)
  | (b,none)::l,h=>cS l (tl h b)
def xz(P : Program)(g : Nat → Option aD)(nid : Nat)(e : TypeId)(inf : TypeInfo)(s : AV)(m es' : Nat)(nb : aD)(obs : List Bool)(rs : List Nat) : Option (List sK × List Nat) :=
  match s with
  | .nsl =>
    bif Nat.beq es' inf.size then
      let nb':=nb.norm P e es'
      some ([{ v:=.sl nid nb'.1.wid es' 0 m m,sets:=[(nid,some nb'.1)],obs:=mt (m*inf.bytes) 140737488355328::mt m 9223372036854775807::(obs++nb'.2) }],rs)
    else none
  | .esl =>
    bif Nat.beq es' inf.size then
      let nb':=nb.norm P e es'
      some ([{ v:=.sl nid nb'.1.wid es' 0 m m,sets:=[(nid,some nb'.1)],obs:=mt (m*inf.bytes) 140737488355328::mt m 9223372036854775807::(obs++nb'.2) }],rs)
    else none
  | .sl b w es 0 len cap =>
    match g b with
    | some d =>
      bif Nat.beq es inf.size&&Nat.beq es' es then
        match d.sub w es 0 len with
        | some (old,obs') =>
          let nb':=nb.norm P e es
          let old':=old.norm P e es
          (X6 old'.1 nb'.1).map fun d' =>
            ([{ v:=.sl nid d'.wid es 0 (len+m) (len+m),sets:=[(b,none),(nid,some d')],obs:=mt ((len+m)*inf.bytes) 140737488355328::mt (len+m) 9223372036854775807::(obs++(obs'++(nb'.2++old'.2))) }],b::rs)
        | none=>none
      else none
    | none=>none
  | _=>none
def Cd(P:Program)(g:Nat→Option aD)(nid:Nat)(t:TypeId)(s x:AV) :Option (List sK×List Nat) :=
  match P.underlying t with
  | some (.slice e) =>
    match P.info? e with
    | some inf =>
      match inf.zero with
      | some z =>
        bif Nat.beq z.cells.size inf.size then
        match s,x with
        | .nsl,.nsl=>some ([{ v:=.nsl,sets:=[],obs:=[] }],[])
        | .sl b w es i len cap,.nsl=>some ([{ v:=.sl b w es i len cap,sets:=[],obs:=[] }],[])
        | .sl b w es i len cap,.zsl _=>some ([{ v:=.sl b w es i len cap,sets:=[],obs:=[] }],[])
        | .esl,.nsl=>some ([{ v:=.esl,sets:=[],obs:=[] }],[])
        | s,x =>
          match Ud g x with
          | some (m,es,nb,obs,rs)=>xz P g nid e inf s m es nb obs rs
          | none=>none
        else none
      | none=>none
    | none=>none
  | _=>none
def vC(s:ByteArray) :List Int:=s.data.toList.map fun b=>(b.toNat:Int)
def Ce(P:Program)(g:Nat→Option aD)(nid:Nat)(t t':TypeId)(s x:AV) :Option (List sK×List Nat) :=
  match P.underlying t,P.underlying t',x with
  | some (.slice e),some .string,.str y =>
    match P.underlying e,P.info? e with
    | some (.int .u8),some inf =>
      match inf.zero with
      | some z=>bif Nat.beq z.cells.size inf.size&&Nat.beq inf.size 1 then xz P g nid e inf s y.size 1 (.ns .u8 (vC y)) [] [] else none
      | none=>none
    | _,_=>none
  | _,_,_=>none
structure Add (P:Program) (w:World) (t':TypeId) (x:Value) (size m:Nat) (news:List Value):Prop where
  ty:(∃ e',P.underlying t'=some (.slice e'))∨P.underlying t'=some .string
  len:∀ w',(Builtin.lenOf x).run P w'=.ok m w'
  cells:∀ k,(Builtin.firstCells size m x).run P { w with drawn:=k }=.ok news.toArray { w with drawn:=k }
  hl:news.length=m*size
structure adL (P:Program) (ρ:ac) (w:World) (t':TypeId) (x:Value) (m es:Nat) (nb:aD):Prop where
  rk:nb.recKept
  count:nb.count=m*es
  none_:m=0→∀ x,nb.cell? x=none
  news:∃ news:List Value,Add P w t' x es m news∧(∀ v∈news,v.oneCell'=true)∧∀ x v,nb.cell? x=some v→∃ u,news[x]? = some u∧VR ρ w v u
theorem adK.add{P:Program}{ρ:ac}{w:World}{t e:TypeId}{u:Value}{m es:Nat}{nb:aD}(h:adK ρ w u m es nb)(ht:P.underlying t=some (.slice e)) :adL P ρ w t u m es nb:=by
  refine ⟨h.rk,h.count,h.none_,?_⟩
  have hty:(∃ e',P.underlying t=some (.slice e'))∨P.underlying t=some .string:=.inl ⟨_,ht⟩
  obtain ⟨a,c,rfl,hv⟩:=h.val
  rcases hv with h0 | ⟨bl,o,rfl,news,hl,hnews,hone,hrel⟩
  · subst h0
    refine ⟨[],⟨hty,fun w'=>rfl,fun k=>?_,by simp⟩,(fun v hv=>by cases hv),fun x v hx=>by rw [h.none_ rfl] at hx;cases hx⟩
    cases a with
    | none=>rfl
    | some a=>simp [Builtin.firstCells,loadCells,loadCellsFrom]
  · exact ⟨news,⟨hty,fun w'=>rfl,fun k=>run_firstCells_some (P:=P) _ es m ⟨bl,o,none⟩ m c news hl hnews,hl⟩,hone,hrel⟩
section add
variable {P : Program} {w : World} {t t' T e : TypeId} {inf : TypeInfo} {x : Value} {m : Nat} {news : List Value}
theorem add_zero(ht:P.underlying t=some (.slice e))(hi:P.info? e=some inf)(hA:Add P w t' x inf.size 0 news)(s:Option Addr)(n cap:Nat)(hle:n≤cap) :
    (Builtin.append_ #[t,t'] T #[.slice s n cap,x]).run P w=.ok (.slice s n cap) w:=by
  have hc:=hA.cells w.drawn
  have hl:=hA.hl
  have hn:news=[]:=List.length_eq_zero_iff.1 (by omega)
  subst hn
  have hc':(Builtin.firstCells inf.size 0 x).run P w=.ok #[] w:=hc
  rcases hA.ty with ⟨e',hd⟩ | hd<;>cases s<;>simp [Builtin.append_,run_underlying ht,sizeOf,typeInfo,hi,run_underlying hd,hA.len,hle,hc',storeCells]
theorem adM(ht:P.underlying t=some (.slice e))(hi:P.info? e=some inf)(hA:Add P w t' x inf.size m news) 
    (g sLen sCap:Nat) (cur:Array Value) {T':TypeId} (hg:w.heap[g]? = some (.cells cur T' (0,0))) (h1:∀ u∈news,u.oneCell'=true) (hroom:sLen+m≤sCap) (hfit:sLen*inf.size+news.length≤cur.size) :
    (Builtin.append_ #[t,t'] T #[.slice (some ⟨g,0,none⟩) sLen sCap,x]).run P w =
      .ok (.slice (some ⟨g,0,none⟩) (sLen+m) sCap) (w.setRow g (cur.toList.take (sLen*inf.size)++news++cur.toList.drop (sLen*inf.size+news.length)).toArray):=by
  have hc:(Builtin.firstCells inf.size m x).run P w=.ok news.toArray w:=hA.cells w.drawn
  have hst:=run_storeCells_at P g (sLen*inf.size) T' news 0 cur w hg (by simpa using hfit) h1
  simp only [Nat.add_zero] at hst
  rcases hA.ty with ⟨e',hd⟩ | hd<;>simp [Builtin.append_,run_underlying ht,sizeOf,typeInfo,hi,run_underlying hd,hA.len,hroom,hc,Addr.add_lit,hst]
theorem aa1{z:Value}(ht:P.underlying t=some (.slice e))(hi:P.info? e=some inf)(hz:inf.zero=some z)(hA:Add P w t' x inf.size m news) 
    (h0:0<m) (h63:(m:Int)≤9223372036854775807) (h48:m*inf.bytes≤281474976710656) :
    (Builtin.append_ #[t,t'] T #[.slice none 0 0,x]).run P w =
      .ok (.slice (some ⟨w.heap.size,0,none⟩) m (grownCap w m 0 e)) (w.drew.alloc (.cells (news.toArray++Builtin.zeroCells z.cells (grownCap w m 0 e-m)) e)):=by
  have hn:m≠0:=by omega
  have h63' : ¬ (9223372036854775807<(m:Int)):=by omega
  have h48' : ¬ (281474976710656<Builtin.nextslicecap m 0*inf.bytes):=by rw [nextslicecap_zero h0];omega
  have hc:(Builtin.firstCells inf.size m x).run P w.drew=.ok news.toArray w.drew:=hA.cells (w.drawn+1)
  rcases hA.ty with ⟨e',hd⟩ | hd<;>simp [Builtin.append_,run_underlying ht,sizeOf,typeInfo,zeroValue,hi,hz,run_underlying hd,hA.len,hn,h63',h48',Question.forced,run_firstCells_none,hc,newRow,grownCap]
theorem Ln{z:Value}(ht:P.underlying t=some (.slice e))(hi:P.info? e=some inf)(hz:inf.zero=some z)(hA:Add P w t' x inf.size m news) 
    (b:Addr) (sLen sCap:Nat) (olds:List Value) (hlo:olds.length=sLen*inf.size) (holds:∀ j v,olds[j]? = some v→w.cell? (b.add j)=some v)
    (hg:sCap<sLen+m) (h63:((sLen+m:Nat):Int)≤9223372036854775807) (hfit:Builtin.nextslicecap (sLen+m) sCap*inf.bytes≤281474976710656) :
    (Builtin.append_ #[t,t'] T #[.slice (some b) sLen sCap,x]).run P w =
      .ok (.slice (some ⟨w.heap.size,0,none⟩) (sLen+m) (grownCap w (sLen+m) sCap e))
        (w.drew.alloc (.cells (olds.toArray++news.toArray++Builtin.zeroCells z.cells (grownCap w (sLen+m) sCap e-(sLen+m))) e)):=by
  have hn : ¬ (sLen+m≤sCap):=by omega
  have h63' : ¬ (9223372036854775807<((sLen:Int)+(m:Int))):=by omega
  have h48' : ¬ (281474976710656<Builtin.nextslicecap (sLen+m) sCap*inf.bytes):=by omega
  have hc:(Builtin.firstCells inf.size m x).run P w.drew=.ok news.toArray w.drew:=hA.cells (w.drawn+1)
  have hfo:=run_firstCells_some (P:=P) w.drew inf.size sLen b sLen sCap olds hlo (by simpa using holds)
  rcases hA.ty with ⟨e',hd⟩ | hd<;>simp [Builtin.append_,run_underlying ht,sizeOf,typeInfo,zeroValue,hi,hz,run_underlying hd,hA.len,hn,h63',h48',Question.forced,hc,hfo,newRow,grownCap]
  all_goals (congr 2;apply Array.ext';simp)
end add
theorem iH{P:Program}{w:World}{t T e:TypeId}{inf:TypeInfo}(ht:P.underlying t=some (.slice e))(hi:P.info? e=some inf)(s a:Option Addr)(n cap c:Nat)(hle:n≤cap) :
    (Builtin.append_ #[t,t] T #[.slice s n cap,.slice a 0 c]).run P w=.ok (.slice s n cap) w:=by
  cases a<;>cases s<;>simp [Builtin.append_,run_underlying ht,sizeOf,typeInfo,hi,Builtin.lenOf,Builtin.firstCells,hle,storeCells,loadCells,loadCellsFrom]
theorem iq.setRow{M:Nat→Prop}(w:World)(g:Nat)(cs old:Array Value)(t:TypeId)(fr:Nat×Nat)(hg:w.heap[g]? = some (.cells old t fr))(hs:cs.size=old.size)(hM:M g) :iq M w (w.setRow g cs):=by
  refine ⟨rfl,rfl,rfl,by simp,fun b _ hb=>setRow_other w g b cs (fun e=>hb (by rw [e];exact hM)),fun b c t' fz hc=>?_⟩
  by_cases e:b=g
  · subst e
    rw [hg] at hc;cases hc
    exact ⟨cs,setRow_heap w b old cs t fr hg,hs⟩
  · exact ⟨c,by rw [setRow_other w g b cs e];exact hc,rfl⟩
theorem HR.again{ρ:ac}{w w':World}{h:bN}{n b nid:Nat}{d d':aD}(hh:HR ρ w h n)(hg:be h b=some d)(hok:ρ.ok b)(hb : ¬ ρ.ok nid)(hn:nid<n)(W:iq ρ.live w w') 
    (ho:∀ bl,bl≠ρ.at_ b→w'.heap[bl]? = w.heap[bl]?) (hB:BR ρ w' (ρ.at_ b) d') :
    HR (ρ.give nid (ρ.at_ b)) w' (eY (tl h b) nid d') n∧kI ρ (ρ.give nid (ρ.at_ b)) w:=by
  obtain ⟨hl,_⟩:=hh.real hg hok
  have hne:nid≠b:=fun e=>hb (by rw [e];exact hok)
  have E:kI ρ (ρ.give nid (ρ.at_ b)) w :=
    ⟨fun x hx=>by simp only [ac.give];rw [if_neg (fun e:x=nid=>hb (by rw [←e];exact hx))],fun _ q=>.inr q,fun _ q=>.inr q,fun x _ q=>q.elim (fun e=>by rw [e];exact hl) id,rfl,rfl⟩
  have E':kI ρ (ρ.give nid (ρ.at_ b)) w':=⟨E.at_,E.ok,E.live,fun x _ q=>q.elim (fun e=>by rw [e];exact hl) id,E.out,E.pin⟩
  have look:∀ x e,be (eY (tl h b) nid d') x=some e→(x=nid∧e=d')∨(x≠nid∧x≠b∧be h x=some e):=by
    intro x e hx
    rw [cR,nU] at hx
    by_cases q:nid=x
    · rw [if_pos q] at hx;cases hx;exact .inl ⟨q.symm,rfl⟩
    · rw [if_neg q] at hx
      by_cases r:b=x
      · rw [if_pos r] at hx;cases hx
      · rw [if_neg r] at hx;exact .inr ⟨fun e=>q e.symm,fun e=>r e.symm,hx⟩
  have atn:(ρ.give nid (ρ.at_ b)).at_ nid=ρ.at_ b:=by simp [ac.give]
  have back:∀ {x:Nat},x≠nid→(ρ.give nid (ρ.at_ b)).ok x→ρ.ok x:=fun hx q=>q.resolve_left hx
  refine ⟨⟨fun x e hx=>?_,fun x y e f h1 h2 ok1 ok2 he=>?_,fun bl q=>?_,fun bl q=>?_,fun j bl q=>?_,fun x hx=>?_,fun x hx=>(hh.rom x hx).mono E W⟩,E⟩
  · rcases look x e hx with ⟨rfl,rfl⟩ | ⟨q1,q2,q3⟩
    · rw [atn]
      refine .inl ⟨.inl rfl,.inr hl,?_⟩
      obtain ⟨r1,c,t,r2,r3⟩:=hB
      exact ⟨r1,c,t,r2,fun y v hy=>by obtain ⟨u,k1,k2⟩:=r3 y v hy;exact ⟨u,k1,k2.mono E' (iq.refl _ _)⟩⟩
    · rcases hh.cell x e q3 with ⟨k1,k2,k3⟩ | ⟨k1,k2⟩
      · rw [E.at_ x k1]
        exact .inl ⟨.inr k1,.inr k2,k3.mono E W (ho _ (fun z=>q2 (hh.inj x b e d q3 hg k1 hok z)))⟩
      · exact .inr ⟨fun q=>k1 (back q1 q),k2⟩
  · rcases look x e h1 with ⟨rfl,rfl⟩ | ⟨q1,q2,q3⟩<;>rcases look y f h2 with ⟨rfl,rfl⟩ | ⟨r1,r2,r3⟩
    · rfl
    · have k:=back r1 ok2;rw [atn,E.at_ y k] at he;exact absurd (hh.inj y b f d r3 hg k hok he.symm) r2
    · have k:=back q1 ok1;rw [atn,E.at_ x k] at he;exact absurd (hh.inj x b e d q3 hg k hok he) q2
    · have k:=back q1 ok1;have k':=back r1 ok2;rw [E.at_ x k,E.at_ y k'] at he;exact hh.inj x y e f q3 r3 k k' he
  · rcases q with rfl | q
    · exact hh.fresh _ hl
    · exact hh.fresh bl q
  · rcases q with rfl | q
    · exact Nat.lt_of_lt_of_le (hh.liveLt _ hl) W.size
    · exact Nat.lt_of_lt_of_le (hh.liveLt bl q) W.size
  · exact Nat.lt_of_lt_of_le (hh.outLt j bl q) W.size
  · rcases hx with rfl | hx
    · exact hn
    · exact hh.lt x hx
theorem HR.ghost{ρ:ac}{w:World}{h:bN}{n nid:Nat}{d:aD}(hh:HR ρ w h n)(hb : ¬ ρ.ok nid)(hn:nid<n)(hr:d.recKept)(hv:d.void) :HR ρ w (eY h nid d) n:=by
  have look:∀ x e,be (eY h nid d) x=some e→(x=nid∧e=d)∨(x≠nid∧be h x=some e):=by
    intro x e hx
    rw [cR] at hx
    by_cases q:nid=x
    · rw [if_pos q] at hx;cases hx;exact .inl ⟨q.symm,rfl⟩
    · rw [if_neg q] at hx;exact .inr ⟨fun e=>q e.symm,hx⟩
  refine ⟨fun x e hx=>?_,fun x y e f h1 h2 ok1 ok2 he=>?_,hh.fresh,hh.liveLt,hh.outLt,hh.lt,hh.rom⟩
  · rcases look x e hx with ⟨rfl,rfl⟩ | ⟨_,q⟩
    · exact .inr ⟨hb,hn,hr,hv⟩
    · exact hh.cell x e q
  · rcases look x e h1 with ⟨rfl,rfl⟩ | ⟨_,q⟩
    · exact (hb ok1).elim
    · rcases look y f h2 with ⟨rfl,rfl⟩ | ⟨_,r⟩
      · exact (hb ok2).elim
      · exact hh.inj x y e f q r ok1 ok2 he
theorem Dq{P:Program}{ρ:ac}{w:World}{h:bN}{n nid:Nat}(hh:HR ρ w h n)(hb : ¬ ρ.ok nid)(hn:nid<n){t t' e:TypeId}{inf:TypeInfo}{z:Value}(ht:P.underlying t=some (.slice e))(hi:P.info? e=some inf)(hz:inf.zero=some z)(hzs:z.cells.size=inf.size) 
    {s:AV} {s' x':Value} (hs:VR ρ w s s') {m es:Nat} {nb:aD} {obs:List Bool} {rs0:List Nat} (hadd:aB obs→adL P ρ w t' x' m es nb)
    {alts:List sK} {rs:List Nat} (ha:xz P (be h) nid e inf s m es nb obs rs0=some (alts,rs)) {alt:sK} (hm:alt∈alts) (ho:aB alt.obs) (T:TypeId) :
    zD P ρ w h n nid (Builtin.append_ #[t,t'] T #[s',x']) alt.v (cS alt.sets h):=by
  have bq:∀ {a b:Nat},Nat.beq a b=true→a=b:=Nat.eq_of_beq_eq_true
  have empty:∀ (s0:Option Addr) (alts:List sK) (rs:List Nat),(bif Nat.beq es inf.size then
              let nb':=nb.norm P e es
              some (([{ v:=.sl nid nb'.1.wid es 0 m m,sets:=[(nid,some nb'.1)],obs:=mt (m*inf.bytes) 140737488355328::mt m 9223372036854775807::(obs++nb'.2) }]:List sK),rs0)
            else none)=some (alts,rs)→alt∈alts→zD P ρ w h n nid (Builtin.append_ #[t,t'] T #[.slice s0 0 0,x']) alt.v (cS alt.sets h):=by
    intro s0 alts rs ha hm
    cases hes:Nat.beq es inf.size with
    | false=>rw [hes] at ha;cases ha
    | true =>
    rw [hes] at ha
    have hes:=bq hes
    subst hes
    simp only [cond_true,Option.some.injEq,Prod.mk.injEq] at ha;obtain ⟨rfl,rfl⟩:=ha
    simp only [List.mem_singleton] at hm;subst hm
    obtain ⟨o2,o3,o4⟩:=ho
    rw [bh] at o4
    have hS:=hadd o4.1
    obtain ⟨n1,n2,n3⟩:=qa P e nb inf.size hS.rk o4.2
    obtain ⟨news,hA,hone,hrel⟩:=hS.news
    have hl:=hA.hl
    have b1:m*inf.bytes≤140737488355328:=of_decide_eq_true o2
    have b2:m≤9223372036854775807:=of_decide_eq_true o3
    by_cases hm0:m=0
    · subst hm0
      have hvoid:(nb.norm P e inf.size).1.void:=by
        intro y
        cases q:(nb.norm P e inf.size).1.cell? y with
        | none=>rfl
        | some v=>obtain ⟨v0,q1,_⟩:=n2 y v q;rw [hS.none_ rfl] at q1;cases q1
      exact ⟨_,w,ρ,add_zero ht hi hA s0 0 0 (Nat.le_refl _),kI.refl _ _,iq.refl _ _,hh.ghost hb hn n1 hvoid,.slEnd _ _ _ _ _,fun b q=>.inl q⟩
    · have hrun:(Builtin.append_ #[t,t'] T #[.slice s0 0 0,x']).run P w=.ok (.slice (some ⟨w.heap.size,0,none⟩) m (grownCap w m 0 e)) (w.drew.alloc (.cells (news.toArray++Builtin.zeroCells z.cells (grownCap w m 0 e-m)) e)):=by
        cases s0 with
        | none=>exact aa1 ht hi hz hA (by omega) (by omega) (by omega)
        | some s1 =>
          have hfit:=growslice_fits (old:=0) (need:=0+m) (bytes:=inf.bytes) (by omega) (by rw [Nat.zero_add];exact b1)
          have:=Ln (T:=T) ht hi hz hA s1 0 0 [] (by simp) (fun j v hj=>by simp at hj) (by omega) (by omega) hfit
          simpa using this
      refine Cc hh hb hn (d:=(nb.norm P e inf.size).1) (l:=(List.range (m*inf.size)).map fun x=>(nb.cell? x).getD .any) ⟨n1,fun y v hy=>?_⟩ (.inr ⟨w.drawn+1,rfl⟩) hrun (fun y v hy=>?_) ?_
      · obtain ⟨v0,this,hw⟩:=n2 y v hy
        obtain ⟨u,q1,q2⟩:=hrel y v0 this
        have hlt:y<m*inf.size:=by rw [←hl];exact (List.getElem?_eq_some_iff.1 q1).1
        exact ⟨v0,by rw [List.getElem?_map,List.getElem?_range hlt];simp [this],hw⟩
      · rw [List.getElem?_map] at hy
        have hlt:y<m*inf.size:=by
          rcases Nat.lt_or_ge y (m*inf.size) with q | q
          · exact q
          · rw [List.getElem?_eq_none (by simpa using q)] at hy;cases hy
        rw [List.getElem?_range hlt] at hy
        simp only [Option.map_some,Option.some.injEq] at hy
        have hlt':y<news.length:=by omega
        refine ⟨news[y],?_,?_⟩
        · rw [Array.getElem?_append_left (by simpa using hlt')];simp [hlt']
        · subst hy
          cases q:nb.cell? y with
          | none=>exact .any _
          | some v=>obtain ⟨u,q1,q2⟩:=hrel y v q;rw [List.getElem?_eq_getElem hlt'] at q1;cases q1;exact q2
      · rintro _ _ rfl rfl
        have hcap:m≤grownCap w m 0 e:=grownCap_ge w m 0 e
        have:VR (ρ.give nid w.heap.size) (w.drew.alloc (.cells (news.toArray++Builtin.zeroCells z.cells (grownCap w m 0 e-m)) e)) (.sl nid (nb.norm P e inf.size).1.wid inf.size 0 m m) (.slice (some ⟨(ρ.give nid w.heap.size).at_ nid,0*(nb.norm P e inf.size).1.wid,none⟩) m (grownCap w m 0 e)):=by
          refine .sl _ _ _ _ _ _ _ (.inl rfl) hcap (Nat.le_refl _) _ e (by simp only [ac.give,if_true];exact eG w.drew _) ?_
          simp only [Array.size_append,List.size_toArray,size_zeroCells,hl,hzs]
          have:m*inf.size+(grownCap w m 0 e-m)*inf.size=grownCap w m 0 e*inf.size:=by rw [←Nat.add_mul];congr 1;omega
          omega
        simpa [ac.give] using this
  unfold xz at ha
  split at ha
  · cases hs
    exact empty none _ _ ha hm
  · cases hs
    exact empty _ _ _ ha hm
  · rename_i b k es' len cap
    split at ha
    case h_2=>cases ha
    rename_i d hd
    cases hes:(Nat.beq es' inf.size&&Nat.beq es es') with
    | false=>rw [hes] at ha;cases ha
    | true =>
    rw [hes] at ha
    rw [Bool.and_eq_true] at hes
    have e1:=bq hes.1;have e2:=bq hes.2
    subst e1;subst e2
    simp only [cond_true] at ha
    split at ha
    case h_2=>cases ha
    rename_i old obs' hsub
    simp only [Option.map_eq_some_iff,Prod.mk.injEq] at ha
    obtain ⟨d',happ,rfl,rfl⟩:=ha
    simp only [List.mem_singleton] at hm;subst hm
    obtain ⟨o1,o2,o3⟩:=ho
    rw [bh,bh,bh] at o3
    obtain ⟨o31,o32,o33,o34⟩:=o3
    have hS:=hadd o31
    have hrk:=hh.rk hd
    have hO:=AM hrk hsub o32
    obtain ⟨m1,m2,m3⟩:=qa P e nb inf.size hS.rk o33
    obtain ⟨p1,p2,p3⟩:=qa P e old inf.size hO.rk o34
    obtain ⟨a1,a2'⟩:=app_spec p1 m1 happ
    have a2:∀ x v,d'.cell? x=some v→(x<old.count∧∃ v0,old.cell? x=some v0∧bp v0 v)∨(old.count≤x∧∃ v0,nb.cell? (x-old.count)=some v0∧bp v0 v):=by
      intro x v hx
      rw [p3] at a2'
      rcases a2' x v hx with ⟨q,r⟩ | ⟨q,r⟩
      · exact .inl ⟨q,p2 x v r⟩
      · exact .inr ⟨q,m2 _ v r⟩

    have hblk:∃ (cur:Array Value) (ty:TypeId),(ρ.ok b→ρ.live (ρ.at_ b)∧w.heap[ρ.at_ b]? = some (.cells cur ty (0,0)))∧∀ x v,d.cell? x=some v→∃ u,cur[x]? = some u∧VR ρ w v u:=by
      rcases hh.cell b d hd with ⟨_,q1,_,c,t,q2,q3⟩ | ⟨q1,_,_,q2⟩
      · exact ⟨c,t,fun _=>⟨q1,q2⟩,q3⟩
      · exact ⟨#[],0,fun q=>(q1 q).elim,fun x v hx=>by rw [q2 x] at hx;cases hx⟩
    obtain ⟨cur,ty,hreal,hcv⟩:=hblk
    have b1:(len+m)*inf.bytes≤140737488355328:=of_decide_eq_true o1
    have b2:len+m≤9223372036854775807:=of_decide_eq_true o2
    obtain ⟨news,hA,hone,hrel⟩:=hS.news
    have hl:=hA.hl
    have hsets:cS [(b,none),(nid,some d')] h=eY (tl h b) nid d':=rfl
    simp only [hsets]

    have hold:∀ x,x<len*inf.size→∃ v u,d.cell? x=some v∧v.one=true∧cur[x]? = some u∧VR ρ w v u:=by
      intro x hx
      obtain ⟨v,q1,q2⟩:=hO.all x hx
      simp only [Nat.zero_mul,Nat.zero_add] at q1
      obtain ⟨u,q3,q4⟩:=hcv x v q1
      exact ⟨v,u,q1,q2,q3,q4⟩
    have hcurlen:len*inf.size≤cur.size:=by
      rcases Nat.eq_zero_or_pos (len*inf.size) with q | q
      · omega
      · obtain ⟨_,u,_,_,q3,_⟩:=hold (len*inf.size-1) (by omega)
        have:=(Array.getElem?_eq_some_iff.1 q3).1;omega

    have zero:m=0→∀ cap' (s0:Option Addr),len≤cap'→VR ρ w (.sl b k inf.size 0 len cap) (.slice s0 len cap') →
        zD P ρ w h n nid (Builtin.append_ #[t,t'] T #[.slice s0 len cap',x']) (.sl nid d'.wid inf.size 0 (len+m) (len+m)) (eY (tl h b) nid d'):=by
      intro h0 cap' s0 hle hvs
      subst h0
      have hcell:∀ x v,d'.cell? x=some v→∃ u,cur[x]? = some u∧VR ρ w v u:=by
        intro x v hx
        rcases a2 x v hx with ⟨_,v0,q,hw⟩ | ⟨_,v0,q,_⟩
        · obtain ⟨_,q1⟩:=hO.cells x v0 q
          simp only [Nat.zero_mul,Nat.zero_add] at q1
          obtain ⟨u,r1,r2⟩:=hcv x v0 q1
          exact ⟨u,r1,hw _ _ _ r2⟩
        · rw [hS.none_ rfl] at q;cases q
      rw [Nat.add_zero]
      by_cases hok:ρ.ok b
      · obtain ⟨hlive,hcur⟩:=hreal hok
        obtain ⟨r1,r2⟩:=hh.again hd hok hb hn (iq.refl _ w) (fun _ _=>rfl) ⟨a1,cur,ty,hcur,hcell⟩
        refine ⟨_,w,_,add_zero ht hi hA s0 len cap' hle,r2,iq.refl _ _,r1,?_,fun b q=>q.elim .inr .inl⟩
        have atn:(ρ.give nid (ρ.at_ b)).at_ nid=ρ.at_ b:=by simp [ac.give]
        cases hvs with
        | sl _ _ _ _ _ _ _ q1 q2 q3 c' ty' q4 q5 =>
          have:VR (ρ.give nid (ρ.at_ b)) w (.sl nid d'.wid inf.size 0 len len) (.slice (some ⟨(ρ.give nid (ρ.at_ b)).at_ nid,0*d'.wid,none⟩) len cap') :=
            .sl _ _ _ _ _ _ _ (.inl rfl) hle (Nat.le_refl _) c' ty' (by rw [atn];exact q4) (by omega)
          rw [atn,Nat.zero_mul] at this;rw [Nat.zero_mul];exact this
        | slEnd=>exact .slEnd _ _ _ _ _
      · have hgh:cap'=0∧len=0:=by
          cases hvs with
          | sl _ _ _ _ _ _ _ q1=>exact (hok q1).elim
          | slEnd=>exact ⟨rfl,rfl⟩
        obtain ⟨rfl,rfl⟩:=hgh
        have hvoid:d'.void:=by
          intro y
          cases q:d'.cell? y with
          | none=>rfl
          | some v =>
            rcases a2 y v q with ⟨q1,_⟩ | ⟨_,v0,q1,_⟩
            · rw [hO.count,Nat.zero_mul] at q1;omega
            · rw [hS.none_ rfl] at q1;cases q1
        exact ⟨_,w,ρ,add_zero ht hi hA s0 0 0 (Nat.le_refl _),kI.refl _ _,iq.refl _ _,(hh.del b).ghost hb hn a1 hvoid,.slEnd _ _ _ _ _,fun b q=>.inl q⟩
    by_cases h0:m=0
    · have hs0:=hs
      cases hs with
      | sl _ _ _ _ _ _ cap' q1 q2 q3 c' ty' q4 q5=>exact zero h0 cap' _ (by omega) hs0
      | slEnd=>exact zero h0 0 _ (Nat.le_refl _) hs0
    ·
      have grow:∀ cap' (s0:Option Addr) (g:World→Prop),cap'<len+m→(s0=some ⟨ρ.at_ b,0,none⟩∧ρ.ok b∨len=0∧cap'=0) →
          zD P ρ w h n nid (Builtin.append_ #[t,t'] T #[.slice s0 len cap',x']) (.sl nid d'.wid inf.size 0 (len+m) (len+m)) (eY (tl h b) nid d'):=by
        intro cap' s0 _ hlt hs0
        have hcells:∀ y v,d'.cell? y=some v→∃ u,((cur.toList.take (len*inf.size))++news)[y]? = some u∧VR ρ w v u:=by
          intro y v hy
          have htl:(cur.toList.take (len*inf.size)).length=len*inf.size:=by simp;omega
          rcases a2 y v hy with ⟨q0,v0,q,hw⟩ | ⟨q0,v0,q,hw⟩
          · obtain ⟨q2,q1⟩:=hO.cells y v0 q
            simp only [Nat.zero_mul,Nat.zero_add] at q1
            obtain ⟨u,q3,q4⟩:=hcv y v0 q1
            refine ⟨u,?_,hw _ _ _ q4⟩
            rw [List.getElem?_append_left (by omega),List.getElem?_take,if_pos q2];simpa using q3
          · rw [hO.count] at q0 q
            obtain ⟨u,q3,q4⟩:=hrel _ v0 q
            refine ⟨u,?_,hw _ _ _ q4⟩
            rw [List.getElem?_append_right (by omega),htl];exact q3
        have hfit:=growslice_fits (old:=cap') (need:=len+m) (bytes:=inf.bytes) hlt b1
        have hrun:∃ cells:Array Value,cells.size=grownCap w (len+m) cap' e*inf.size∧(∀ (y:Nat) (u:Value),((cur.toList.take (len*inf.size))++news)[y]? = some u→cells[y]? = some u) ∧
            (Builtin.append_ #[t,t'] T #[.slice s0 len cap',x']).run P w=.ok (.slice (some ⟨w.heap.size,0,none⟩) (len+m) (grownCap w (len+m) cap' e)) (w.drew.alloc (.cells cells e)):=by
          have hcap:len+m≤grownCap w (len+m) cap' e:=grownCap_ge w (len+m) cap' e
          have hsize:(len+m)*inf.size+(grownCap w (len+m) cap' e-(len+m))*inf.size=grownCap w (len+m) cap' e*inf.size:=by rw [←Nat.add_mul];congr 1;omega
          rcases hs0 with ⟨rfl,hok⟩ | ⟨rfl,rfl⟩
          · obtain ⟨hlive,hcur⟩:=hreal hok
            have hlo:(cur.toList.take (len*inf.size)).length=len*inf.size:=by simp;omega
            have:=Ln (T:=T) ht hi hz hA ⟨ρ.at_ b,0,none⟩ len cap' (cur.toList.take (len*inf.size)) hlo (fun j v hj=>by
              rw [kY];simp only [Nat.zero_add,World.cell?,hcur]
              rw [List.getElem?_take] at hj;split at hj
              · simpa using hj
              · cases hj) hlt (by omega) hfit
            refine ⟨_,?_,fun y u hy=>?_,this⟩
            · simp only [Array.size_append,List.size_toArray,size_zeroCells,hl,hzs,hlo];rw [←Nat.add_mul];exact hsize
            · have hlt2:y<(cur.toList.take (len*inf.size)++news).length:=(List.getElem?_eq_some_iff.1 hy).1
              rw [Array.getElem?_append_left (by simpa using hlt2)];simpa using hy
          · cases s0 with
            | none =>
              have hm0:0<m:=by omega
              have:=aa1 (T:=T) ht hi hz hA hm0 (by omega) (by rw [Nat.zero_add] at b1;omega)
              rw [Nat.zero_add] at hsize ⊢
              refine ⟨_,?_,fun y u hy=>?_,this⟩
              · simp only [Array.size_append,List.size_toArray,size_zeroCells,hl,hzs];exact hsize
              · simp only [Nat.zero_mul,List.take_zero,List.nil_append] at hy
                have hlt2:y<news.length:=(List.getElem?_eq_some_iff.1 hy).1
                rw [Array.getElem?_append_left (by simpa using hlt2)];simpa using hy
            | some s1 =>
              have:=Ln (T:=T) ht hi hz hA s1 0 0 [] (by simp) (fun j v hj=>by simp at hj) hlt (by omega) hfit
              refine ⟨_,?_,fun y u hy=>?_,this⟩
              · simp only [Array.size_append,List.size_toArray,List.length_nil,size_zeroCells,hl,hzs,Nat.zero_add];rw [Nat.zero_add] at hsize;exact hsize
              · simp only [Nat.zero_mul,List.take_zero,List.nil_append] at hy
                have hlt2:y<news.length:=(List.getElem?_eq_some_iff.1 hy).1
                rw [Array.getElem?_append_left (by simpa using hlt2)];simpa using hy
        obtain ⟨cells,k1,k2,k3⟩:=hrun
        have hcap:len+m≤grownCap w (len+m) cap' e:=grownCap_ge w (len+m) cap' e
        have H1:HR ρ w.drew (tl h b) n:=(hh.del b).drawn _
        obtain ⟨r1,r2,r3⟩:=H1.alloc hb hn d' cells e a1 (fun y v hy=>by
          obtain ⟨u,q1,q2⟩:=hcells y v hy
          exact ⟨u,k2 y u q1,q2.mono (kI.refl _ _) (iq.drawn _ _ _)⟩)
        refine ⟨_,_,_,k3,⟨r2.at_,r2.ok,r2.live,r2.new,r2.out,r2.pin⟩,(iq.drawn _ w _).trans r3 (fun _ _ q=>q),r1,?_,fun b q=>q.elim .inr .inl⟩
        have:VR (ρ.give nid w.heap.size) (w.drew.alloc (.cells cells e)) (.sl nid d'.wid inf.size 0 (len+m) (len+m)) (.slice (some ⟨(ρ.give nid w.heap.size).at_ nid,0*d'.wid,none⟩) (len+m) (grownCap w (len+m) cap' e)) :=
          .sl _ _ _ _ _ _ _ (.inl rfl) hcap (Nat.le_refl _) cells e (by simp only [ac.give,if_true];exact eG w.drew _) (by rw [k1];omega)
        simpa [ac.give] using this
      cases hs with
      | sl _ _ _ _ _ _ cap' q1 q2 q3 c' ty' q4 q5 =>
        rw [Nat.zero_mul]
        obtain ⟨hlive,hcur⟩:=hreal q1
        rw [hcur] at q4;cases q4
        by_cases hroom:len+m≤cap'
        · have hfit:len*inf.size+news.length≤cur.size:=by
            have:(len+m)*inf.size≤cap'*inf.size:=Nat.mul_le_mul_right _ hroom
            rw [Nat.add_mul] at this;omega
          have hrun:=adM (T:=T) ht hi hA (ρ.at_ b) len cap' cur hcur hone hroom hfit
          have hsz:(cur.toList.take (len*inf.size)++news++cur.toList.drop (len*inf.size+news.length)).toArray.size=cur.size:=by
            simp;omega
          have W:iq ρ.live w (w.setRow (ρ.at_ b) (cur.toList.take (len*inf.size)++news++cur.toList.drop (len*inf.size+news.length)).toArray):=iq.setRow w _ _ cur ty (0,0) hcur hsz hlive
          have hB:BR ρ (w.setRow (ρ.at_ b) (cur.toList.take (len*inf.size)++news++cur.toList.drop (len*inf.size+news.length)).toArray) (ρ.at_ b) d':=by
            refine ⟨a1,_,ty,setRow_heap w _ cur _ ty (0,0) hcur,fun y v hy=>?_⟩
            have htl:(cur.toList.take (len*inf.size)).length=len*inf.size:=by simp;omega
            rcases a2 y v hy with ⟨q0,v0,q,hw⟩ | ⟨q0,v0,q,hw⟩
            · obtain ⟨k2,k1⟩:=hO.cells y v0 q
              simp only [Nat.zero_mul,Nat.zero_add] at k1
              obtain ⟨u,k3,k4⟩:=hcv y v0 k1
              refine ⟨u,?_,(hw _ _ _ k4).mono (kI.refl _ _) W⟩
              rw [List.getElem?_toArray,List.append_assoc,List.getElem?_append_left (by omega),List.getElem?_take,if_pos k2];simpa using k3
            · rw [hO.count] at q0 q
              obtain ⟨u,k3,k4⟩:=hrel _ v0 q
              have hlt:=(List.getElem?_eq_some_iff.1 k3).1
              refine ⟨u,?_,(hw _ _ _ k4).mono (kI.refl _ _) W⟩
              rw [List.getElem?_toArray,List.append_assoc,List.getElem?_append_right (by omega),htl,List.getElem?_append_left hlt];exact k3
          obtain ⟨r1,r2⟩:=hh.again hd q1 hb hn W (fun x hx=>setRow_other w _ x _ hx) hB
          refine ⟨_,_,_,hrun,r2,W,r1,?_,fun b q=>q.elim .inr .inl⟩
          have atn:(ρ.give nid (ρ.at_ b)).at_ nid=ρ.at_ b:=by simp [ac.give]
          have:VR (ρ.give nid (ρ.at_ b)) (w.setRow (ρ.at_ b) (cur.toList.take (len*inf.size)++news++cur.toList.drop (len*inf.size+news.length)).toArray) (.sl nid d'.wid inf.size 0 (len+m) (len+m)) (.slice (some ⟨(ρ.give nid (ρ.at_ b)).at_ nid,0*d'.wid,none⟩) (len+m) cap') :=
            .sl _ _ _ _ _ _ _ (.inl rfl) hroom (Nat.le_refl _) _ ty (by rw [atn];exact setRow_heap w _ cur _ ty (0,0) hcur) (by rw [hsz];rw [Nat.zero_mul] at q5 ⊢;exact q5)
          rw [atn,Nat.zero_mul] at this;exact this
        · exact grow cap' _ (fun _=>True) (by omega) (.inl ⟨rfl,q1⟩)
      | slEnd =>
        by_cases hm0:m=0
        · exact zero hm0 0 _ (Nat.le_refl _) (.slEnd _ _ _ _ _)
        · exact grow 0 _ (fun _=>True) (by omega) (.inr ⟨rfl,rfl⟩)
  · cases ha
theorem Oo{P:Program}{ρ:ac}{w:World}{h:bN}{n nid:Nat}(hh:HR ρ w h n)(hb : ¬ ρ.ok nid)(hn:nid<n){t:TypeId}{s x:AV}{s' x':Value}(hs:VR ρ w s s')(hx:VR ρ w x x') 
    {alts:List sK} {rs:List Nat} (ha:Cd P (be h) nid t s x=some (alts,rs)) {alt:sK} (hm:alt∈alts) (ho:aB alt.obs) (T:TypeId) :
    zD P ρ w h n nid (Builtin.append_ #[t,t] T #[s',x']) alt.v (cS alt.sets h):=by
  have bq:∀ {a b:Nat},Nat.beq a b=true→a=b:=Nat.eq_of_beq_eq_true
  unfold Cd at ha
  split at ha
  case h_2=>cases ha
  rename_i e ht
  split at ha
  case h_2=>cases ha
  rename_i inf hi
  split at ha
  case h_2=>cases ha
  rename_i z hz
  cases hzs:Nat.beq z.cells.size inf.size with
  | false=>rw [hzs] at ha;cases ha
  | true =>
  rw [hzs] at ha
  have hzs:=bq hzs
  simp only [cond_true] at ha
  split at ha
  · simp only [Option.some.injEq,Prod.mk.injEq] at ha;obtain ⟨rfl,rfl⟩:=ha
    simp only [List.mem_singleton] at hm;subst hm
    cases hs;cases hx
    exact ⟨_,w,ρ,iH ht hi none none 0 0 0 (Nat.le_refl _),kI.refl _ _,iq.refl _ _,hh,.nsl,fun b q=>.inl q⟩
  · rename_i b k es i len cap
    simp only [Option.some.injEq,Prod.mk.injEq] at ha;obtain ⟨rfl,rfl⟩:=ha
    simp only [List.mem_singleton] at hm;subst hm
    cases hx
    have hs0:=hs
    cases hs with
    | sl _ _ _ _ _ _ cap' q1 q2 q3 c ty q4 q5=>exact ⟨_,w,ρ,iH ht hi _ none len cap' 0 (by omega),kI.refl _ _,iq.refl _ _,hh,hs0,fun b q=>.inl q⟩
    | slEnd=>exact ⟨_,w,ρ,iH ht hi _ none 0 0 0 (Nat.le_refl _),kI.refl _ _,iq.refl _ _,hh,hs0,fun b q=>.inl q⟩
  · rename_i b k es i len cap _
    simp only [Option.some.injEq,Prod.mk.injEq] at ha;obtain ⟨rfl,rfl⟩:=ha
    simp only [List.mem_singleton] at hm;subst hm
    cases hx
    have hs0:=hs
    cases hs with
    | sl _ _ _ _ _ _ cap' q1 q2 q3 c ty q4 q5=>exact ⟨_,w,ρ,iH ht hi _ _ len cap' _ (by omega),kI.refl _ _,iq.refl _ _,hh,hs0,fun b q=>.inl q⟩
    | slEnd=>exact ⟨_,w,ρ,iH ht hi _ _ 0 0 _ (Nat.le_refl _),kI.refl _ _,iq.refl _ _,hh,hs0,fun b q=>.inl q⟩
  · simp only [Option.some.injEq,Prod.mk.injEq] at ha;obtain ⟨rfl,rfl⟩:=ha
    simp only [List.mem_singleton] at hm;subst hm
    cases hs;cases hx
    exact ⟨_,w,ρ,iH ht hi _ none 0 0 0 (Nat.le_refl _),kI.refl _ _,iq.refl _ _,hh,.esl _,fun b q=>.inl q⟩
  · split at ha
    case h_2=>cases ha
    rename_i m es nb obs rs' hsrc
    exact Dq hh hb hn ht hi hz hzs hs (fun o=>(Lm hh hx hsrc o).add ht) ha hm ho T
theorem Dr(y:ByteArray) :(vC y).length=y.size:=by
  unfold vC
  rw [List.length_map]
  exact Array.length_toList
theorem X8{y:ByteArray}{j:Nat}{n:Int}(h:(vC y)[j]? = some n) :(y.data.toList.map fun b=>Value.int .u8 b.toNat)[j]? = some (.int .u8 n):=by
  unfold vC at h
  rw [List.getElem?_map,Option.map_eq_some_iff] at h ⊢
  obtain ⟨b,h1,h2⟩:=h
  exact ⟨b,h1,by rw [h2]⟩
theorem afF{P:Program}{ρ:ac}{w:World}{t':TypeId}(ht':P.underlying t'=some .string)(y:ByteArray) :adL P ρ w t' (.string y) y.size 1 (.ns .u8 (vC y)):=by
  have hl:(y.data.toList.map fun b=>Value.int .u8 b.toNat).length=y.size*1:=by
    rw [List.length_map,Nat.mul_one];exact Array.length_toList
  have cell:∀ j v,(aD.ns .u8 (vC y)).cell? j=some v→∃ n,(vC y)[j]? = some n∧v=.int .u8 n:=fun j v h=>by
    have h':((vC y)[j]?).map (AV.int .u8)=some v:=h
    rw [Option.map_eq_some_iff] at h'
    obtain ⟨n,h1,rfl⟩:=h'
    exact ⟨n,h1,rfl⟩
  refine ⟨show True from trivial,?_,fun h0 j=>?_,_,⟨.inr ht',fun w'=>rfl,fun k=>?_,hl⟩,fun v hv=>?_,fun j v hj=>?_⟩
  · rw [Nat.mul_one];exact Dr y
  · cases q:(aD.ns .u8 (vC y)).cell? j with
    | none=>rfl
    | some v =>
      obtain ⟨n,h1,_⟩:=cell j v q
      have:=(List.getElem?_eq_some_iff.1 h1).1
      rw [Dr] at this;omega
  · have e1:y.extract 0 y.size=y:=ByteArray.extract_zero_size
    have e2:(y.data.map fun b=>Value.int .u8 b.toNat)=(y.data.toList.map fun b=>Value.int .u8 b.toNat).toArray:=by
      apply Array.ext'
      rw [Array.toList_map]
    show (pure ((y.extract 0 y.size).data.map fun b=>Value.int .u8 b.toNat):Sem (Array Value)).run P { w with drawn:=k }=_
    rw [e1,e2]
    rfl
  · rw [List.mem_map] at hv
    obtain ⟨b,_,rfl⟩:=hv
    rfl
  · obtain ⟨n,h1,rfl⟩:=cell j v hj
    exact ⟨_,X8 h1,.int _ _⟩
theorem Oq{P:Program}{ρ:ac}{w:World}{h:bN}{n nid:Nat}(hh:HR ρ w h n)(hb : ¬ ρ.ok nid)(hn:nid<n){t t':TypeId}{s x:AV}{s' x':Value}(hs:VR ρ w s s')(hx:VR ρ w x x') 
    {alts:List sK} {rs:List Nat} (ha:Ce P (be h) nid t t' s x=some (alts,rs)) {alt:sK} (hm:alt∈alts) (ho:aB alt.obs) (T:TypeId) :
    zD P ρ w h n nid (Builtin.append_ #[t,t'] T #[s',x']) alt.v (cS alt.sets h):=by
  have bq:∀ {a b:Nat},Nat.beq a b=true→a=b:=Nat.eq_of_beq_eq_true
  unfold Ce at ha
  split at ha
  case h_2=>cases ha
  rename_i e y ht ht'
  split at ha
  case h_2=>cases ha
  rename_i inf he hi
  split at ha
  case h_2=>cases ha
  rename_i z hz
  cases hzs:(Nat.beq z.cells.size inf.size&&Nat.beq inf.size 1) with
  | false=>rw [hzs] at ha;cases ha
  | true =>
  rw [hzs] at ha
  rw [Bool.and_eq_true] at hzs
  have h1:=bq hzs.1
  simp only [cond_true] at ha
  cases hx
  exact Dq hh hb hn ht hi hz h1 hs (fun _=>afF ht' y) ha hm ho T
mutual
theorem gS:∀ {v:AV},v.kept=true→v.foreign=true
  | .fn _ l1 l2,h=>by simp only [AV.kept,AV.foreign,Bool.and_eq_true] at h ⊢;exact ⟨gM h.1,gM h.2⟩
  | .agg l,h=>by simp only [AV.kept,AV.foreign] at h ⊢;exact gM h
  | .tup l,h=>by simp only [AV.kept,AV.foreign] at h ⊢;exact gM h
  | .iface _ v,h=>by simp only [AV.kept,AV.foreign] at h ⊢;exact gS h
  | .ptr ..,h=>by simp [AV.kept] at h
  | .sl ..,h=>by simp [AV.kept] at h
  | .yld _,h=>by simp [AV.kept] at h
  | .int ..,_ | .bool ..,_ | .flt ..,_ | .str _,_ | .nptr,_ | .iptr ..,_ | .nsl,_ | .esl,_ | .zsl _,_ | .nan,_ | .imm ..,_ | .nfn,_ | .gmap ..,_ | .gvar _,_ | .niface,_ | .any,_=>rfl
theorem gM:∀ {l:List AV},dM l=true→bR l=true
  | [],_=>rfl
  | v::l,h=>by simp only [dM,bR,Bool.and_eq_true] at h ⊢;exact ⟨gS h.1,gM h.2⟩
end
theorem AN:∀ {l:List AV},bR l=true→∀ (x:Nat) (v:AV),l[x]? = some v→v.foreign=true
  | [],_,x,v,h=>by simp at h
  | a::l,ha,0,v,h=>by simp at h;subst h;simp only [bR,Bool.and_eq_true] at ha;exact ha.1
  | a::l,ha,x+1,v,h=>by simp only [bR,Bool.and_eq_true] at ha;exact AN ha.2 x v (by simpa using h)
theorem aU{d:aD}(hr:d.recKept)(hk:d.foreign=true)(x:Nat)(v:AV)(hx:d.cell? x=some v) :v.foreign=true:=by
  cases d with
  | fl xs=>simp only [aD.cell?,Option.map_eq_some_iff] at hx;obtain ⟨_,_,rfl⟩:=hx;rfl
  | ns k xs=>simp only [aD.cell?,Option.map_eq_some_iff] at hx;obtain ⟨_,_,rfl⟩:=hx;rfl
  | bs xs=>simp only [aD.cell?,Option.map_eq_some_iff] at hx;obtain ⟨_,_,rfl⟩:=hx;rfl
  | ss xs=>simp only [aD.cell?,Option.map_eq_some_iff] at hx;obtain ⟨_,_,rfl⟩:=hx;rfl
  | vs xs=>exact AN hk x v hx
  | rows k n get =>
    simp only [aD.cell?] at hx
    split at hx
    · cases hx;exact gS (hr _ _).1
    · cases hx
  | cols n cs=>obtain ⟨c,_,_,h⟩:=ij hx;exact (vz h).2.1
theorem bT{d:aD}(hr:d.recKept)(hk:d.kept=true)(x:Nat)(v:AV)(hx:d.cell? x=some v) :v.kept=true:=by
  cases d with
  | fl xs=>simp only [aD.cell?,Option.map_eq_some_iff] at hx;obtain ⟨_,_,rfl⟩:=hx;rfl
  | ns k xs=>simp only [aD.cell?,Option.map_eq_some_iff] at hx;obtain ⟨_,_,rfl⟩:=hx;rfl
  | bs xs=>simp only [aD.cell?,Option.map_eq_some_iff] at hx;obtain ⟨_,_,rfl⟩:=hx;rfl
  | ss xs=>simp only [aD.cell?,Option.map_eq_some_iff] at hx;obtain ⟨_,_,rfl⟩:=hx;rfl
  | vs xs=>exact nX hk x v hx
  | rows k n get =>
    simp only [aD.cell?] at hx
    split at hx
    · cases hx;exact (hr _ _).1
    · cases hx
  | cols n cs=>obtain ⟨c,_,_,h⟩:=ij hx;exact (vz h).1
def X9(ρ τ:ac)(w:World) :Prop:=∀ bl,bl<w.heap.size→(∀ j,¬ ρ.own j bl)→∀ j,¬ τ.own j bl
theorem kB{O:Nat→Nat→Prop}{bl:Nat}(h:∀ j,¬ O j bl) :∀ (l:Lv) (i:Nat),l.av O i bl
  | .free,i=>fun j _=>h j
  | .lent,i=>h i
  | .up l,i=>⟨h i,kB h l (i+1)⟩
theorem gT{ρ τ:ac}{w:World}(hN:X9 ρ τ w){v:AV}{u:Value}(h:VR ρ w v u) :v.kept=true→VR τ w v u:=by
  have av:∀ {l:Lv} {bl:Nat},bl<w.heap.size→l.isFree=true→ρ.avoid l bl→τ.avoid l bl:=fun hb hl h =>
    kB (hN _ hb fun j=>pY (O:=ρ.own) hl h j (Nat.zero_le _)) _ _
  induction h using VR.rec (motive_2:=fun l c _=>dM l=true→cV τ w l c) with
  | int k n=>exact fun _=>.int k n
  | bool kn b=>exact fun _=>.bool kn b
  | flt ex x y h=>exact fun _=>.flt ex x y h
  | str s=>exact fun _=>.str s
  | nptr=>exact fun _=>.nptr
  | ptr b k i j hb=>intro hk;simp [AV.kept] at hk
  | iptr bw d k i j bl o u ha hb hc hv hr hk hg ih =>
    intro hkept
    have hf:bw.isFree=true:=by simpa [AV.kept] using hkept
    exact .iptr bw d k i j bl o u (av hb hf ha) hb hc (fun x v hx=>ih x v hx (bT hr (hk hf) x v hx)) hr hk hg
  | nsl=>exact fun _=>.nsl
  | esl a=>exact fun _=>.esl a
  | zsl a c=>exact fun _=>.zsl a c
  | nan n h=>exact fun _=>.nan n h
  | sl b k es i len cap cap' hb hcap hl c t hh hs=>intro hk;simp [AV.kept] at hk
  | slEnd b k es i a=>intro hk;simp [AV.kept] at hk
  | imm bw d k es i len cap bl o u ha hb hc hv hl hr hk hg ih =>
    intro hkept
    have hf:bw.isFree=true:=by simpa [AV.kept] using hkept
    exact .imm bw d k es i len cap bl o u (av hb hf ha) hb hc (fun x v hx=>ih x v hx (bT hr (hk hf) x v hx)) hl hr hk hg
  | immEnd bw d k es i cap a hr hk hg=>exact fun _=>.immEnd bw d k es i cap a hr hk hg
  | fn f l1 l2 c1 c2 h1 h2 i1 i2=>intro hk;simp only [AV.kept,Bool.and_eq_true] at hk;exact .fn f l1 l2 c1 c2 (i1 hk.1) (i2 hk.2)
  | nfn=>exact fun _=>.nfn
  | gmap ks vs bl es cl u ha hb hh hin hex hv hl hk ih=>exact fun _=>.gmap ks vs bl es cl u (av hb rfl ha) hb hh hin hex (fun x v hx=>ih x v hx (nX hk x v hx)) hl hk
  | gvar c bl t fr ha hb hh=>exact fun _=>.gvar c bl t fr (av hb rfl ha) hb hh
  | agg l c h ih=>intro hk;exact .agg l c (ih hk)
  | tup l c h ih=>intro hk;exact .tup l c (ih hk)
  | iface t v u h ih=>intro hk;exact .iface t v u (ih hk)
  | niface=>exact fun _=>.niface
  | yld b L h=>intro hk;simp [AV.kept] at hk
  | any u=>exact fun _=>.any u
  | nil=>exact cV.nil
  | cons v u l c h t i1 i2=>rename_i hk;simp only [dM,Bool.and_eq_true] at hk;exact cV.cons v u l c (i1 hk.1) (i2 hk.2)
mutual
def KQ (σ:Nat→Option Nat):AV→AV
  | .ptr b w i j=>match σ b with | some c=>.ptr c w i j | none=>.any
  | .sl b w es i len cap=>match σ b with | some c=>.sl c w es i len cap | none=>.any
  | .iptr l d w i j=>.iptr (.up l) (Ot σ d) w i j
  | .imm l d w es i len=>.imm (.up l) (Ot σ d) w es i len
  | .fn f l1 l2=>.fn f (D5 σ l1) (D5 σ l2)
  | .agg l=>.agg (D5 σ l)
  | .tup l=>.tup (D5 σ l)
  | .iface t v=>.iface t (KQ σ v)
  | .yld _=>.any
  | v=>v
def D5 (σ:Nat→Option Nat):List AV→List AV
  | []=>[]
  | v::l=>KQ σ v::D5 σ l
def Ot (σ:Nat→Option Nat):aD→aD
  | .vs l=>.vs (D5 σ l)
  | d=>d
end
mutual
theorem Uf (σ:Nat→Option Nat):∀ (v:AV),v.kept=true→(KQ σ v).kept=true
  | .fn _ l1 l2,h=>by simp only [AV.kept,KQ,Bool.and_eq_true] at h ⊢;exact ⟨te σ l1 h.1,te σ l2 h.2⟩
  | .agg l,h=>by simp only [AV.kept,KQ] at h ⊢;exact te σ l h
  | .tup l,h=>by simp only [AV.kept,KQ] at h ⊢;exact te σ l h
  | .iface _ v,h=>by simp only [AV.kept,KQ] at h ⊢;exact Uf σ v h
  | .ptr ..,h=>by simp [AV.kept] at h
  | .sl ..,h=>by simp [AV.kept] at h
  | .iptr ..,h=>by simpa [AV.kept,KQ,Lv.isFree] using h
  | .imm ..,h=>by simpa [AV.kept,KQ,Lv.isFree] using h
  | .yld _,h=>by simp [AV.kept] at h
  | .int ..,_ | .bool ..,_ | .flt ..,_ | .str _,_ | .nptr,_ | .nsl,_ | .esl,_ | .zsl _,_ | .nan,_ | .nfn,_ | .gmap ..,_ | .gvar _,_ | .niface,_ | .any,_=>rfl
theorem te (σ:Nat→Option Nat):∀ (l:List AV),dM l=true→dM (D5 σ l)=true
  | [],_=>rfl
  | v::l,h=>by simp only [dM,D5,Bool.and_eq_true] at h ⊢;exact ⟨Uf σ v h.1,te σ l h.2⟩
end
mutual
theorem AO (σ:Nat→Option Nat):∀ (v:AV),v.foreign=true→(KQ σ v).foreign=true
  | .fn _ l1 l2,h=>by simp only [AV.foreign,KQ,Bool.and_eq_true] at h ⊢;exact ⟨lU σ l1 h.1,lU σ l2 h.2⟩
  | .agg l,h=>by simp only [AV.foreign,KQ] at h ⊢;exact lU σ l h
  | .tup l,h=>by simp only [AV.foreign,KQ] at h ⊢;exact lU σ l h
  | .iface _ v,h=>by simp only [AV.foreign,KQ] at h ⊢;exact AO σ v h
  | .ptr ..,h=>by simp [AV.foreign] at h
  | .sl ..,h=>by simp [AV.foreign] at h
  | .iptr ..,h=>rfl
  | .imm ..,h=>rfl
  | .yld _,h=>by simp [AV.foreign] at h
  | .int ..,_ | .bool ..,_ | .flt ..,_ | .str _,_ | .nptr,_ | .nsl,_ | .esl,_ | .zsl _,_ | .nan,_ | .nfn,_ | .gmap ..,_ | .gvar _,_ | .niface,_ | .any,_=>rfl
theorem lU (σ:Nat→Option Nat):∀ (l:List AV),bR l=true→bR (D5 σ l)=true
  | [],_=>rfl
  | v::l,h=>by simp only [bR,D5,Bool.and_eq_true] at h ⊢;exact ⟨AO σ v h.1,lU σ l h.2⟩
end
theorem Hg{σ:Nat→Option Nat}{d:aD}(h:d.kept=true) :(Ot σ d).kept=true:=by
  cases d<;>first | exact h | exact te σ _ h
theorem xA{σ:Nat→Option Nat}{d:aD}(h:d.foreign=true) :(Ot σ d).foreign=true:=by
  cases d<;>first | exact h | exact lU σ _ h
theorem Fx{σ:Nat→Option Nat}{d:aD}(h:d.recKept) :(Ot σ d).recKept:=by
  cases d<;>first | exact h | trivial
theorem Ug(σ:Nat→Option Nat) :∀ (l:List AV) (x:Nat),(D5 σ l)[x]? = (l[x]?).map (KQ σ)
  | [],x=>by simp [D5]
  | v::l,0=>by simp [D5]
  | v::l,x+1=>by simp [D5,Ug σ l x]
theorem tf{σ:Nat→Option Nat}{d:aD}(hr:d.recKept){x:Nat}{v:AV}(h:(Ot σ d).cell? x=some v) :∃ v0,d.cell? x=some v0∧(v=KQ σ v0∨(v=v0∧v0.kept=true)):=by
  cases d with
  | vs l =>
    simp only [Ot,aD.cell?,Ug,Option.map_eq_some_iff] at h
    obtain ⟨v0,h1,rfl⟩:=h
    exact ⟨v0,h1,.inl rfl⟩
  | fl xs=>exact ⟨v,h,.inr ⟨rfl,bT hr rfl x v h⟩⟩
  | ns k xs=>exact ⟨v,h,.inr ⟨rfl,bT hr rfl x v h⟩⟩
  | bs xs=>exact ⟨v,h,.inr ⟨rfl,bT hr rfl x v h⟩⟩
  | ss xs=>exact ⟨v,h,.inr ⟨rfl,bT hr rfl x v h⟩⟩
  | rows k n g=>exact ⟨v,h,.inr ⟨rfl,bT hr rfl x v h⟩⟩
  | cols n cs=>exact ⟨v,h,.inr ⟨rfl,bT hr rfl x v h⟩⟩
structure Uh (ρ τ:ac) (w:World) (h:bN) (σ:Nat→Option Nat):Prop where
  id:∀ b c,σ b=some c→ρ.ok b→τ.ok c∧τ.at_ c=ρ.at_ b
  up:∀ l bl,bl<w.heap.size→ρ.avoid l bl→τ.avoid (.up l) bl
  nobody:X9 ρ τ w
  ro:∀ b d,be h b=some d→ρ.ok b→σ b=none→¬ τ.live (ρ.at_ b)
theorem jD{ρ τ:ac}{w:World}{h:bN}{σ:Nat→Option Nat}(L:Uh ρ τ w h σ){v:AV}{u:Value}(hv:VR ρ w v u) :VR τ w (KQ σ v) u:=by
  induction hv using VR.rec (motive_2:=fun l c _=>cV τ w (D5 σ l) c) with
  | int k n=>exact .int k n
  | bool kn b=>exact .bool kn b
  | flt ex x y h=>exact .flt ex x y h
  | str s=>exact .str s
  | nptr=>exact .nptr
  | ptr b k i j hb =>
    simp only [KQ]
    split
    · rename_i c hc
      obtain ⟨h1,h2⟩:=L.id b c hc hb
      rw [←h2];exact .ptr _ _ _ _ h1
    · exact .any _
  | iptr bw d k i j bl o u ha hb hc hv hr hk hg ih =>
    simp only [KQ]
    refine .iptr _ _ k i j bl o u (L.up bw bl hb ha) hb (fun x v hx=>?_) (fun x v hx=>?_) (Fx hr) (fun e=>Hg (hk e)) (xA hg)
    · obtain ⟨v0,h1,_⟩:=tf hr hx;exact hc x v0 h1
    · obtain ⟨v0,h1,h2⟩:=tf hr hx
      rcases h2 with rfl | ⟨rfl,h3⟩
      · exact ih x v0 h1
      · exact gT L.nobody (hv x v h1) h3
  | nsl=>exact .nsl
  | esl a=>exact .esl a
  | zsl a c=>exact .zsl a c
  | nan n h=>exact .nan n h
  | sl b k es i len cap cap' hb hcap hl c t hh hs =>
    simp only [KQ]
    split
    · rename_i c' hc
      obtain ⟨h1,h2⟩:=L.id b c' hc hb
      rw [←h2] at hh ⊢;exact .sl _ _ _ _ _ _ _ h1 hcap hl c t hh hs
    · exact .any _
  | slEnd b k es i a =>
    simp only [KQ]
    split
    · exact .slEnd _ _ _ _ _
    · exact .any _
  | imm bw d k es i len cap bl o u ha hb hc hv hl hr hk hg ih =>
    simp only [KQ]
    refine .imm _ _ k es i len cap bl o u (L.up bw bl hb ha) hb (fun x v hx=>?_) (fun x v hx=>?_) hl (Fx hr) (fun e=>Hg (hk e)) (xA hg)
    · obtain ⟨v0,h1,_⟩:=tf hr hx;exact hc x v0 h1
    · obtain ⟨v0,h1,h2⟩:=tf hr hx
      rcases h2 with rfl | ⟨rfl,h3⟩
      · exact ih x v0 h1
      · exact gT L.nobody (hv x v h1) h3
  | immEnd bw d k es i cap a hr hk hg=>exact .immEnd _ _ k es i cap a (Fx hr) (fun e=>Hg (hk e)) (xA hg)
  | fn f l1 l2 c1 c2 h1 h2 i1 i2=>exact .fn f _ _ c1 c2 i1 i2
  | nfn=>exact .nfn
  | gmap ks vs bl es cl u ha hb hh hin hex hv hl hk ih=>exact gT L.nobody (.gmap ks vs bl es cl u ha hb hh hin hex hv hl hk) rfl
  | gvar c bl t fr ha hb hh=>exact gT L.nobody (.gvar c bl t fr ha hb hh) rfl
  | agg l c h ih=>exact .agg _ c ih
  | tup l c h ih=>exact .tup _ c ih
  | iface t v u h ih=>exact .iface t _ u ih
  | niface=>exact .niface
  | yld b L h=>exact .any _
  | any u=>exact .any u
  | nil=>exact cV.nil
  | cons v u l c h t i1 i2=>exact cV.cons _ u _ c i1 i2
def agF:Nat→Option Nat:=fun _=>none
mutual
def Hh (σ:Nat→Option Nat) (g:Nat→Option aD):Nat→AV→AV×List Nat
  | 0,_=>(.any,[])
  | n + 1, v =>
    match v with
    | .ptr b w i j=>match σ b with
      | some _=>(.any,[])
      | none=>match g b with
        | some d=>let r:=D6 σ g n d;(.iptr .lent r.1 w i j,b::r.2)
        | none=>(.any,[b])
    | .sl b w es i len _=>match σ b with
      | some _=>(.any,[])
      | none=>match g b with
        | some d=>let r:=D6 σ g n d;(.imm .lent r.1 w es i len,b::r.2)
        | none=>(.any,[b])
    | .fn f l1 l2=>let r1:=Fy σ g n l1;let r2:=Fy σ g n l2;(.fn f r1.1 r2.1,r1.2++r2.2)
    | .agg l=>let r:=Fy σ g n l;(.agg r.1,r.2)
    | .tup l=>let r:=Fy σ g n l;(.tup r.1,r.2)
    | .iface t v=>let r:=Hh σ g n v;(.iface t r.1,r.2)
    | v=>(KQ agF v,[])
def Fy (σ:Nat→Option Nat) (g:Nat→Option aD):Nat→List AV→List AV×List Nat
  | 0,l=>(l.map fun _=>.any,[])
  | n+1,l =>
    match l with
    | []=>([],[])
    | v::l=>let r:=Hh σ g n v;let s:=Fy σ g n l;(r.1::s.1,r.2++s.2)
def D6 (σ:Nat→Option Nat) (g:Nat→Option aD):Nat→aD→aD×List Nat
  | 0,d=>(.vs [],[])
  | n+1,d =>
    match d with
    | .vs l=>let r:=Fy σ g n l;(.vs r.1,r.2)
    | d=>(d,[])
end
mutual
theorem Ja (σ:Nat→Option Nat) (g:Nat→Option aD):∀ (n:Nat) (v:AV),(Hh σ g n v).1.foreign=true
  | 0,v=>rfl
  | n+1,v=>by
    cases v<;>simp only [Hh]<;>first
      | (split;rfl;split<;>rfl)
      | (simp only [AV.foreign,Bool.and_eq_true];exact ⟨ou σ g n _,ou σ g n _⟩)
      | (simp only [AV.foreign];exact ou σ g n _)
      | (simp only [AV.foreign];exact Ja σ g n _)
      | exact AO _ _ rfl
      | rfl
theorem ou (σ:Nat→Option Nat) (g:Nat→Option aD):∀ (n:Nat) (l:List AV),bR (Fy σ g n l).1=true
  | 0,l=>by
    simp only [Fy]
    induction l with
    | nil=>rfl
    | cons a l ih=>simp only [List.map_cons,bR,AV.foreign,Bool.true_and];exact ih
  | n+1,[]=>rfl
  | n+1,v::l=>by simp only [Fy,bR,Bool.and_eq_true];exact ⟨Ja σ g n v,ou σ g n l⟩
end
theorem xB(σ:Nat→Option Nat)(g:Nat→Option aD)(n:Nat)(d:aD) :(D6 σ g n d).1.foreign=true:=by
  cases n with
  | zero=>rfl
  | succ n=>cases d<;>simp only [D6,aD.foreign];exact ou σ g n _
theorem RB(σ:Nat→Option Nat)(g:Nat→Option aD)(n:Nat)(d:aD)(h:d.recKept) :(D6 σ g n d).1.recKept:=by
  cases n with
  | zero=>trivial
  | succ n=>cases d<;>first | exact h | trivial
theorem eQ{ρ τ:ac}{w:World}{h:bN}{σ:Nat→Option Nat}(L:Uh ρ τ w h σ) :Uh ρ τ w [] agF :=
  ⟨fun b c q=>(by cases q),L.up,L.nobody,fun b d q=>(by cases q)⟩
mutual
theorem RC {ρ τ:ac} {w:World} {h:bN} {m:Nat} {σ:Nat→Option Nat} (hh:HR ρ w h m) (L:Uh ρ τ w h σ):∀ (n:Nat) {v:AV} {u:Value},VR ρ w v u→VR τ w (Hh σ (be h) n v).1 u
  | 0,v,u,hv=>.any u
  | n + 1, v, u, hv => by
    have content:∀ (b:Nat) (d:aD),be h b=some d→ρ.ok b→∀ x v,(D6 σ (be h) n d).1.cell? x=some v→w.cell? ⟨ρ.at_ b,0+x,none⟩=some ((w.cell? ⟨ρ.at_ b,x,none⟩).getD undef)∧VR τ w v ((w.cell? ⟨ρ.at_ b,x,none⟩).getD undef):=by
      intro b d hd hok x v hx
      obtain ⟨_,hrk,c,t,hc,hcv⟩:=hh.real hd hok
      obtain ⟨u,q1,q2⟩:=Ya hh L n (ρ.at_ b) (fun x v hx=>by
        obtain ⟨u,k1,k2⟩:=hcv x v hx
        exact ⟨u,by simp [World.cell?,hc,k1],k2⟩) hrk x v hx
      rw [Nat.zero_add,q1];exact ⟨rfl,q2⟩
    cases v with
    | ptr b k i j =>
      simp only [Hh]
      split
      · exact .any _
      · rename_i hσ
        split
        · rename_i d hd
          cases hv with | ptr _ _ _ _ hb =>
          have:=VR.iptr (ρ:=τ) (w:=w) .lent (D6 σ (be h) n d).1 k i j (ρ.at_ b) 0 (fun x=>(w.cell? ⟨ρ.at_ b,x,none⟩).getD undef) (L.ro b d hd hb hσ) (hh.liveLt _ (hh.real hd hb).1)
            (fun x v hx=>(content b d hd hb x v hx).1) (fun x v hx=>(content b d hd hb x v hx).2) (RB _ _ _ _ (hh.rk hd)) (fun e=>by cases e) (xB _ _ _ _)
          simpa using this
        · exact .any _
    | sl b k es i len cap =>
      simp only [Hh]
      split
      · exact .any _
      · rename_i hσ
        split
        · rename_i d hd
          cases hv with
          | sl _ _ _ _ _ _ cap' hb hcap hl' c t hh' hs =>
            have:=VR.imm (ρ:=τ) (w:=w) .lent (D6 σ (be h) n d).1 k es i len cap' (ρ.at_ b) 0 (fun x=>(w.cell? ⟨ρ.at_ b,x,none⟩).getD undef) (L.ro b d hd hb hσ) (hh.liveLt _ (hh.real hd hb).1)
              (fun x v hx=>(content b d hd hb x v hx).1) (fun x v hx=>(content b d hd hb x v hx).2) (by omega) (RB _ _ _ _ (hh.rk hd)) (fun e=>by cases e) (xB _ _ _ _)
            simpa using this
          | slEnd=>exact .immEnd _ _ _ _ _ _ _ (RB _ _ _ _ (hh.rk hd)) (fun e=>by cases e) (xB _ _ _ _)
        · exact .any _
    | fn f l1 l2=>cases hv with | fn _ _ _ _ _ h1 h2=>exact .fn _ _ _ _ _ (xC hh L n h1) (xC hh L n h2)
    | agg l=>cases hv with | agg _ _ h1=>exact .agg _ _ (xC hh L n h1)
    | tup l=>cases hv with | tup _ _ h1=>exact .tup _ _ (xC hh L n h1)
    | iface t v=>cases hv with | iface _ _ _ h1=>exact .iface _ _ _ (RC hh L n h1)
    | int=>exact jD (eQ L) hv
    | bool=>exact jD (eQ L) hv
    | flt=>exact jD (eQ L) hv
    | str=>exact jD (eQ L) hv
    | nptr=>exact jD (eQ L) hv
    | iptr=>exact jD (eQ L) hv
    | nsl=>exact jD (eQ L) hv
    | esl=>exact jD (eQ L) hv
    | zsl=>exact jD (eQ L) hv
    | nan=>exact jD (eQ L) hv
    | imm=>exact jD (eQ L) hv
    | nfn=>exact jD (eQ L) hv
    | gmap=>exact jD (eQ L) hv
    | gvar=>exact jD (eQ L) hv
    | niface=>exact jD (eQ L) hv
    | yld=>exact jD (eQ L) hv
    | any=>exact jD (eQ L) hv
theorem xC {ρ τ:ac} {w:World} {h:bN} {m:Nat} {σ:Nat→Option Nat} (hh:HR ρ w h m) (L:Uh ρ τ w h σ):∀ (n:Nat) {l:List AV} {c:List Value},cV ρ w l c→cV τ w (Fy σ (be h) n l).1 c
  | 0,[],c,hv=>by cases hv;exact .nil
  | 0,v::l,c,hv=>by
    cases hv with | cons _ u _ c' h1 h2 =>
    have:=xC hh L 0 h2
    exact .cons _ _ _ _ (.any u) this
  | n+1,[],c,hv=>by cases hv;exact .nil
  | n+1,v::l,c,hv=>by
    cases hv with | cons _ u _ c' h1 h2=>exact .cons _ _ _ _ (RC hh L n h1) (xC hh L n h2)
theorem Ya {ρ τ:ac} {w:World} {h:bN} {m:Nat} {σ:Nat→Option Nat} (hh:HR ρ w h m) (L:Uh ρ τ w h σ):∀ (n:Nat) (bl:Nat) {d:aD},(∀ x v,d.cell? x=some v→∃ u,w.cell? ⟨bl,x,none⟩=some u∧VR ρ w v u)→d.recKept →
    ∀ x v,(D6 σ (be h) n d).1.cell? x=some v→∃ u,w.cell? ⟨bl,x,none⟩=some u∧VR τ w v u
  | 0,bl,d,hc,hr,x,v,hx=>by simp [D6,aD.cell?] at hx
  | n + 1, bl, d, hc, hr, x, v, hx => by
    cases d with
    | vs l =>
      simp only [D6,aD.cell?] at hx
      have hus:cV ρ w l ((List.range l.length).map fun x=>(w.cell? ⟨bl,x,none⟩).getD undef):=by
        refine tq (by simp) fun y v u q1 q2=>?_
        obtain ⟨u',k1,k2⟩:=hc y v q1
        have hlt:y<l.length:=(List.getElem?_eq_some_iff.1 q1).1
        rw [List.getElem?_map,List.getElem?_range hlt] at q2
        simp [k1] at q2;subst q2;exact k2
      have hr2:=xC hh L n hus
      obtain ⟨u,q1,q2⟩:=hr2.get x v hx
      rw [List.getElem?_map] at q1
      have hlt:x<l.length:=by
        rcases Nat.lt_or_ge x l.length with q | q
        · exact q
        · rw [List.getElem?_eq_none (by simpa using q)] at q1;cases q1
      rw [List.getElem?_range hlt] at q1
      obtain ⟨u',k1,_⟩:=hc x (l[x]) (List.getElem?_eq_getElem hlt)
      simp [k1] at q1;subst q1
      exact ⟨u',k1,q2⟩
    | fl xs=>obtain ⟨u,q1,q2⟩:=hc x v hx;exact ⟨u,q1,gT L.nobody q2 (bT (d:=.fl xs) hr rfl x v hx)⟩
    | ns k xs=>obtain ⟨u,q1,q2⟩:=hc x v hx;exact ⟨u,q1,gT L.nobody q2 (bT (d:=.ns k xs) hr rfl x v hx)⟩
    | bs xs=>obtain ⟨u,q1,q2⟩:=hc x v hx;exact ⟨u,q1,gT L.nobody q2 (bT (d:=.bs xs) hr rfl x v hx)⟩
    | ss xs=>obtain ⟨u,q1,q2⟩:=hc x v hx;exact ⟨u,q1,gT L.nobody q2 (bT (d:=.ss xs) hr rfl x v hx)⟩
    | rows k m get=>obtain ⟨u,q1,q2⟩:=hc x v hx;exact ⟨u,q1,gT L.nobody q2 (bT (d:=.rows k m get) hr rfl x v hx)⟩
    | cols k cs=>obtain ⟨u,q1,q2⟩:=hc x v hx;exact ⟨u,q1,gT L.nobody q2 (bT (d:=.cols k cs) hr rfl x v hx)⟩
end
def eR:Nat→List (Option aD)→bN
  | _,[]=>[]
  | i,some d::l=>(i,d)::eR (i+1) l
  | i,none::l=>eR (i+1) l
theorem xD:∀ (l:List (Option aD)) (i x:Nat),be (eR i l) x=if i≤x then (l[x-i]?).join else none
  | [],i,x=>by simp [eR,fb,dA]
  | some d::l,i,x=>by
    simp only [eR,fb,dA]
    by_cases h:i=x
    · subst h;simp [nv]
    · rw [tm h,cond_false,xD l (i+1) x]
      by_cases hx:i≤x
      · have e:x-i=(x-(i+1))+1:=by omega
        rw [if_pos (by omega),if_pos hx,e];simp
      · rw [if_neg (by omega),if_neg hx]
  | none::l,i,x=>by
    simp only [eR]
    rw [xD l (i+1) x]
    by_cases hx:i≤x
    · rw [if_pos hx]
      by_cases h:i=x
      · subst h;rw [if_neg (by omega)];simp
      · have e:x-i=(x-(i+1))+1:=by omega
        rw [if_pos (by omega),e];simp
    · rw [if_neg (by omega),if_neg hx]
theorem Ds(l:List (Option aD))(x:Nat) :be (eR 0 l) x=(l[x]?).join:=by
  rw [xD];simp
theorem kC{l:List (Option aD)}{x:Nat}{d:aD}(h:be (eR 0 l) x=some d) :l[x]? = some (some d):=by
  rw [Ds] at h
  cases q:l[x]? with
  | none=>rw [q] at h;cases h
  | some o=>rw [q] at h;simp at h;rw [h]
structure iI (ρ:ac) (w:World) (lent:List aD):Prop where
  heap:HR ρ w (eR 0 (lent.map some)) lent.length
  only:∀ bl,ρ.live bl→∃ i,ρ.ok i∧ρ.at_ i=bl
  pin:ρ.pin.2=none
structure ir where
  v:AV
  own:List (Option aD)
def ir.Holds(ρ:ac)(w w':World)(k:Nat)(r:ir)(u:Value) :Prop :=
  ∃ ρ',kI ρ ρ' w∧(∀ i,i<k→ρ'.ok i→ρ.ok i)∧HR ρ' w' (eR 0 r.own) r.own.length∧VR ρ' w' r.v u
def Hi(ρ:ac)(bs:List Nat)(bl:Nat) :Prop:=∃ b,b∈bs∧ρ.ok b∧bl=ρ.at_ b
def ac.lend(ρ:ac)(bs:List Nat) :ac :=
  { at_:=fun i=>ρ.at_ ((bs[i]?).getD 0),ok:=fun i=>∃ b,bs[i]? = some b∧ρ.ok b,live:=Hi ρ bs,
    out:=fun j bl=>match j with
      | 0=>ρ.live bl∧¬ Hi ρ bs bl
      | j+1=>ρ.out j bl
    pin:=(0,none) }
def jB:List Nat→Nat→Nat→Option Nat
  | [],_,_=>none
  | k::l,i,b=>bif Nat.beq k b then some i else jB l (i+1) b
theorem wJ:∀ {l:List Nat} {i b c:Nat},jB l i b=some c→i≤c∧l[c-i]? = some b
  | [],i,b,c,h=>by cases h
  | k::l,i,b,c,h=>by
    simp only [jB] at h
    cases e:Nat.beq k b with
    | true=>rw [e] at h;simp only [cond_true,Option.some.injEq] at h;subst h;have:=Nat.eq_of_beq_eq_true e;subst this;simp
    | false =>
      rw [e] at h;simp only [cond_false] at h
      obtain ⟨h1,h2⟩:=wJ h
      refine ⟨by omega,?_⟩
      have:c-i=(c-(i+1))+1:=by omega
      rw [this];simpa using h2
theorem D7:∀ {l:List Nat} {i b:Nat},jB l i b=none→b ∉ l
  | [],i,b,_,h=>by cases h
  | k::l,i,b,h,hm=>by
    simp only [jB] at h
    cases e:Nat.beq k b with
    | true=>rw [e] at h;cases h
    | false =>
      rw [e] at h
      rcases List.mem_cons.1 hm with rfl | q
      · rw [nv] at e;cases e
      · exact D7 h q
structure Ui (h:bN) (bs:List Nat):Prop where
  nodup:∀ {i j b:Nat},bs[i]? = some b→bs[j]? = some b→i=j
  there:∀ b,b∈bs→∃ d,be h b=some d
theorem tg{ρ:ac}{w:World}{h:bN}{n:Nat}{bs:List Nat}(hh:HR ρ w h n)(hb:Ui h bs){bl:Nat}(q:Hi ρ bs bl) :ρ.live bl:=by
  obtain ⟨b,h1,h2,rfl⟩:=q
  obtain ⟨d,hd⟩:=hb.there b h1
  exact (hh.real hd h2).1
theorem aa2{ρ:ac}{w:World}{h:bN}{n:Nat}{bs:List Nat}(hh:HR ρ w h n)(hb:Ui h bs) :Uh ρ (ρ.lend bs) w h (jB bs 0):=by
  refine ⟨fun b c hc hok=>?_,fun l bl _ ha=>?_,fun bl _ hN j=>?_,fun b d hd hok hσ=>?_⟩
  · obtain ⟨_,h2⟩:=wJ hc
    rw [Nat.sub_zero] at h2
    exact ⟨⟨b,h2,hok⟩,by simp [ac.lend,h2]⟩
  · refine ⟨fun q=>ip ha (tg hh hb q),?_⟩
    refine xp (d:=1) (i:=0) (fun j _ q=>?_) ha
    cases j with
    | zero=>exact q.1
    | succ j=>exact q
  · cases j with
    | zero=>exact fun q=>hN 0 (tg hh hb q)
    | succ j =>
      cases j with
      | zero=>exact fun q=>hN 0 q.1
      | succ j=>exact fun q=>hN (j+1) q
  · rintro ⟨b',h1,h2,h3⟩
    obtain ⟨d',hd'⟩:=hb.there b' h1
    have:=hh.inj b b' d d' hd hd' hok h2 h3
    subst this
    exact D7 hσ h1
def sb(σ:Nat→Option Nat)(g:Nat→Option aD) :List Nat→List aD
  | []=>[]
  | b::l=>(match g b with | some d=>Ot σ d | none=>.vs [])::sb σ g l
theorem qR(σ:Nat→Option Nat)(g:Nat→Option aD) :∀ l,(sb σ g l).length=l.length
  | []=>rfl
  | b::l=>by simp [sb,qR σ g l]
theorem Lo(σ:Nat→Option Nat)(g:Nat→Option aD) :∀ (l:List Nat) (i:Nat) (d:aD),(sb σ g l)[i]? = some d→∃ b,l[i]? = some b∧d=(match g b with | some d=>Ot σ d | none=>.vs [])
  | [],i,d,h=>by simp [sb] at h
  | b::l,0,d,h=>by simp [sb] at h;exact ⟨b,rfl,h.symm⟩
  | b::l,i+1,d,h=>Lo σ g l i d (by simpa [sb] using h)
theorem Yb{ρ:ac}{w:World}{h:bN}{n:Nat}{bs:List Nat}(hh:HR ρ w h n)(hb:Ui h bs) :iI (ρ.lend bs) w (sb (jB bs 0) (be h) bs):=by
  have L:=aa2 hh hb
  have atE:∀ {i b:Nat},bs[i]? = some b→(ρ.lend bs).at_ i=ρ.at_ b:=fun q=>by simp [ac.lend,q]
  refine ⟨⟨fun i d hi=>?_,fun i j d e h1 h2 ok1 ok2 he=>?_,fun bl q j=>?_,fun bl q=>hh.liveLt bl (tg hh hb q),fun j bl q=>?_,fun i q=>?_,fun x hx=>gT L.nobody (hh.rom x hx) (Rom.kept x hx)⟩,fun bl q=>?_,rfl⟩
  · have hi:=kC hi
    rw [List.getElem?_map,Option.map_eq_some_iff] at hi
    obtain ⟨d',q1,q2⟩:=hi
    simp only [Option.some.injEq] at q2;subst q2
    obtain ⟨b,q3,q4⟩:=Lo _ _ _ _ _ q1
    obtain ⟨d0,hd0⟩:=hb.there b (List.mem_of_getElem? q3)
    rw [hd0] at q4
    simp only at q4;subst q4
    have hlt:i<bs.length:=(List.getElem?_eq_some_iff.1 q3).1
    rcases hh.cell b d0 hd0 with ⟨k1,k2,k3⟩ | ⟨k1,k2,k3,k4⟩
    · refine .inl ⟨⟨b,q3,k1⟩,⟨b,List.mem_of_getElem? q3,k1,atE q3⟩,?_⟩
      rw [atE q3]
      obtain ⟨hr,c,t,r1,r2⟩:=k3
      refine ⟨Fx hr,c,t,r1,fun x v hx=>?_⟩
      obtain ⟨v0,s1,s2⟩:=tf hr hx
      obtain ⟨u,t1,t2⟩:=r2 x v0 s1
      refine ⟨u,t1,?_⟩
      rcases s2 with rfl | ⟨rfl,s3⟩
      · exact jD L t2
      · exact gT L.nobody t2 s3
    · refine .inr ⟨?_,by rw [qR];exact hlt,Fx k3,fun x=>?_⟩
      · rintro ⟨b',q5,q6⟩
        rw [q3] at q5;cases q5
        exact k1 q6
      · cases hc:(Ot (jB bs 0) d0).cell? x with
        | none=>rfl
        | some v=>obtain ⟨v0,s1,_⟩:=tf k3 hc;rw [k4 x] at s1;cases s1
  · obtain ⟨b,r1,r2⟩:=ok1
    obtain ⟨b',r3,r4⟩:=ok2
    rw [atE r1,atE r3] at he
    obtain ⟨d1,k1⟩:=hb.there b (List.mem_of_getElem? r1)
    obtain ⟨d2,k2⟩:=hb.there b' (List.mem_of_getElem? r3)
    have:=hh.inj b b' d1 d2 k1 k2 r2 r4 he
    subst this
    exact hb.nodup r1 r3
  · cases j with
    | zero=>exact fun r=>r.2 q
    | succ j=>exact hh.fresh bl (tg hh hb q) j
  · cases j with
    | zero=>exact hh.liveLt bl q.1
    | succ j=>exact hh.outLt j bl q
  · obtain ⟨b,q1,_⟩:=q
    rw [qR];exact (List.getElem?_eq_some_iff.1 q1).1
  · obtain ⟨b,q1,q2,rfl⟩:=q
    obtain ⟨i,hi⟩:=List.getElem?_of_mem q1
    exact ⟨i,⟨b,hi,q2⟩,atE hi⟩
mutual
def mH (τ:Nat→Nat):AV→AV
  | .ptr b w i j=>.ptr (τ b) w i j
  | .sl b w es i len cap=>.sl (τ b) w es i len cap
  | .iptr (.up l) d w i j=>.iptr l (zF τ d) w i j
  | .iptr .free d w i j=>.iptr .free d w i j
  | .iptr .lent _ _ _ _=>.any
  | .imm (.up l) d w es i len=>.imm l (zF τ d) w es i len
  | .imm .free d w es i len=>.imm .free d w es i len
  | .imm .lent _ _ _ _ _=>.any
  | .fn f l1 l2=>.fn f (tt τ l1) (tt τ l2)
  | .agg l=>.agg (tt τ l)
  | .tup l=>.tup (tt τ l)
  | .iface t v=>.iface t (mH τ v)
  | .yld _=>.any
  | v=>v
def tt (τ:Nat→Nat):List AV→List AV
  | []=>[]
  | v::l=>mH τ v::tt τ l
def zF (τ:Nat→Nat):aD→aD
  | .vs l=>.vs (tt τ l)
  | d=>d
end
mutual
theorem Lp (τ:Nat→Nat):∀ (v:AV),v.kept=true→(mH τ v).kept=true
  | .fn _ l1 l2,h=>by simp only [AV.kept,mH,Bool.and_eq_true] at h ⊢;exact ⟨qb τ l1 h.1,qb τ l2 h.2⟩
  | .agg l,h=>by simp only [AV.kept,mH] at h ⊢;exact qb τ l h
  | .tup l,h=>by simp only [AV.kept,mH] at h ⊢;exact qb τ l h
  | .iface _ v,h=>by simp only [AV.kept,mH] at h ⊢;exact Lp τ v h
  | .ptr ..,h=>by simp [AV.kept] at h
  | .sl ..,h=>by simp [AV.kept] at h
  | .iptr .free ..,h=>rfl
  | .iptr .lent ..,h=>rfl
  | .iptr (.up l) ..,h=>by simpa [AV.kept,mH,Lv.isFree] using h
  | .imm .free ..,h=>rfl
  | .imm .lent ..,h=>rfl
  | .imm (.up l) ..,h=>by simpa [AV.kept,mH,Lv.isFree] using h
  | .yld _,h=>by simp [AV.kept] at h
  | .int ..,_ | .bool ..,_ | .flt ..,_ | .str _,_ | .nptr,_ | .nsl,_ | .esl,_ | .zsl _,_ | .nan,_ | .nfn,_ | .gmap ..,_ | .gvar _,_ | .niface,_ | .any,_=>rfl
theorem qb (τ:Nat→Nat):∀ (l:List AV),dM l=true→dM (tt τ l)=true
  | [],_=>rfl
  | v::l,h=>by simp only [dM,tt,Bool.and_eq_true] at h ⊢;exact ⟨Lp τ v h.1,qb τ l h.2⟩
end
mutual
theorem Dt (τ:Nat→Nat):∀ (v:AV),v.foreign=true→(mH τ v).foreign=true
  | .fn _ l1 l2,h=>by simp only [AV.foreign,mH,Bool.and_eq_true] at h ⊢;exact ⟨kD τ l1 h.1,kD τ l2 h.2⟩
  | .agg l,h=>by simp only [AV.foreign,mH] at h ⊢;exact kD τ l h
  | .tup l,h=>by simp only [AV.foreign,mH] at h ⊢;exact kD τ l h
  | .iface _ v,h=>by simp only [AV.foreign,mH] at h ⊢;exact Dt τ v h
  | .ptr ..,h=>by simp [AV.foreign] at h
  | .sl ..,h=>by simp [AV.foreign] at h
  | .iptr .free ..,h=>rfl
  | .iptr .lent ..,h=>rfl
  | .iptr (.up l) ..,h=>rfl
  | .imm .free ..,h=>rfl
  | .imm .lent ..,h=>rfl
  | .imm (.up l) ..,h=>rfl
  | .yld _,h=>by simp [AV.foreign] at h
  | .int ..,_ | .bool ..,_ | .flt ..,_ | .str _,_ | .nptr,_ | .nsl,_ | .esl,_ | .zsl _,_ | .nan,_ | .nfn,_ | .gmap ..,_ | .gvar _,_ | .niface,_ | .any,_=>rfl
theorem kD (τ:Nat→Nat):∀ (l:List AV),bR l=true→bR (tt τ l)=true
  | [],_=>rfl
  | v::l,h=>by simp only [bR,tt,Bool.and_eq_true] at h ⊢;exact ⟨Dt τ v h.1,kD τ l h.2⟩
end
theorem D8{τ:Nat→Nat}{d:aD}(h:d.kept=true) :(zF τ d).kept=true:=by
  cases d<;>first | exact h | exact qb τ _ h
theorem vD{τ:Nat→Nat}{d:aD}(h:d.foreign=true) :(zF τ d).foreign=true:=by
  cases d<;>first | exact h | exact kD τ _ h
theorem AP{τ:Nat→Nat}{d:aD}(h:d.recKept) :(zF τ d).recKept:=by
  cases d<;>first | exact h | trivial
theorem P8(τ:Nat→Nat) :∀ (l:List AV) (x:Nat),(tt τ l)[x]? = (l[x]?).map (mH τ)
  | [],x=>by simp [tt]
  | v::l,0=>by simp [tt]
  | v::l,x+1=>by simp [tt,P8 τ l x]
theorem qc{τ:Nat→Nat}{d:aD}(hr:d.recKept){x:Nat}{v:AV}(h:(zF τ d).cell? x=some v) :∃ v0,d.cell? x=some v0∧(v=mH τ v0∨(v=v0∧v0.kept=true)):=by
  cases d with
  | vs l =>
    simp only [zF,aD.cell?,P8,Option.map_eq_some_iff] at h
    obtain ⟨v0,h1,rfl⟩:=h
    exact ⟨v0,h1,.inl rfl⟩
  | fl xs=>exact ⟨v,h,.inr ⟨rfl,bT hr rfl x v h⟩⟩
  | ns k xs=>exact ⟨v,h,.inr ⟨rfl,bT hr rfl x v h⟩⟩
  | bs xs=>exact ⟨v,h,.inr ⟨rfl,bT hr rfl x v h⟩⟩
  | ss xs=>exact ⟨v,h,.inr ⟨rfl,bT hr rfl x v h⟩⟩
  | rows k n g=>exact ⟨v,h,.inr ⟨rfl,bT hr rfl x v h⟩⟩
  | cols n cs=>exact ⟨v,h,.inr ⟨rfl,bT hr rfl x v h⟩⟩
structure ahO (ρ' τp:ac) (w:World) (τ:Nat→Nat):Prop where
  id:∀ b,ρ'.ok b→τp.ok (τ b)∧τp.at_ (τ b)=ρ'.at_ b
  down:∀ l bl,bl<w.heap.size→ρ'.avoid (.up l) bl→τp.avoid l bl
  nobody:X9 ρ' τp w
theorem aa3{ρ' τp:ac}{w:World}{τ:Nat→Nat}(L:ahO ρ' τp w τ){v:AV}{u:Value}(hv:VR ρ' w v u) :VR τp w (mH τ v) u:=by
  induction hv using VR.rec (motive_2:=fun l c _=>cV τp w (tt τ l) c) with
  | int k n=>exact .int k n
  | bool kn b=>exact .bool kn b
  | flt ex x y h=>exact .flt ex x y h
  | str s=>exact .str s
  | nptr=>exact .nptr
  | ptr b k i j hb =>
    obtain ⟨h1,h2⟩:=L.id b hb
    simp only [mH];rw [←h2];exact .ptr _ _ _ _ h1
  | iptr bw d k i j bl o u ha hb hc hv hr hk hg ih =>
    cases bw with
    | lent=>exact .any _
    | free =>
      exact .iptr _ _ k i j bl o u (kB (L.nobody bl hb fun j=>pY (O:=ρ'.own) (l:=.free) rfl ha j (Nat.zero_le _)) .free 0) hb hc
        (fun x v hx=>gT L.nobody (hv x v hx) (bT hr (hk rfl) x v hx)) hr hk hg
    | up l =>
      refine .iptr l _ k i j bl o u (L.down l bl hb ha) hb (fun x v hx=>?_) (fun x v hx=>?_) (AP hr) (fun e=>D8 (hk e)) (vD hg)
      · obtain ⟨v0,h1,_⟩:=qc hr hx;exact hc x v0 h1
      · obtain ⟨v0,h1,h2⟩:=qc hr hx
        rcases h2 with rfl | ⟨rfl,h3⟩
        · exact ih x v0 h1
        · exact gT L.nobody (hv x v h1) h3
  | nsl=>exact .nsl
  | esl a=>exact .esl a
  | zsl a c=>exact .zsl a c
  | nan n h=>exact .nan n h
  | sl b k es i len cap cap' hb hcap hl c t hh hs =>
    obtain ⟨h1,h2⟩:=L.id b hb
    simp only [mH];rw [←h2] at hh ⊢;exact .sl _ _ _ _ _ _ _ h1 hcap hl c t hh hs
  | slEnd b k es i a=>exact .slEnd _ _ _ _ _
  | imm bw d k es i len cap bl o u ha hb hc hv hl hr hk hg ih =>
    cases bw with
    | lent=>exact .any _
    | free =>
      exact .imm _ _ k es i len cap bl o u (kB (L.nobody bl hb fun j=>pY (O:=ρ'.own) (l:=.free) rfl ha j (Nat.zero_le _)) .free 0) hb hc
        (fun x v hx=>gT L.nobody (hv x v hx) (bT hr (hk rfl) x v hx)) hl hr hk hg
    | up l =>
      refine .imm l _ k es i len cap bl o u (L.down l bl hb ha) hb (fun x v hx=>?_) (fun x v hx=>?_) hl (AP hr) (fun e=>D8 (hk e)) (vD hg)
      · obtain ⟨v0,h1,_⟩:=qc hr hx;exact hc x v0 h1
      · obtain ⟨v0,h1,h2⟩:=qc hr hx
        rcases h2 with rfl | ⟨rfl,h3⟩
        · exact ih x v0 h1
        · exact gT L.nobody (hv x v h1) h3
  | immEnd bw d k es i cap a hr hk hg =>
    cases bw with
    | lent=>exact .any _
    | free=>exact .immEnd _ _ k es i cap a hr hk hg
    | up l=>exact .immEnd _ _ k es i cap a (AP hr) (fun e=>D8 (hk e)) (vD hg)
  | fn f l1 l2 c1 c2 h1 h2 i1 i2=>exact .fn f _ _ c1 c2 i1 i2
  | nfn=>exact .nfn
  | gmap ks vs bl es cl u ha hb hh hin hex hv hl hk ih=>exact gT L.nobody (.gmap ks vs bl es cl u ha hb hh hin hex hv hl hk) rfl
  | gvar c bl t fr ha hb hh=>exact gT L.nobody (.gvar c bl t fr ha hb hh) rfl
  | agg l c h ih=>exact .agg _ c ih
  | tup l c h ih=>exact .tup _ c ih
  | iface t v u h ih=>exact .iface t _ u ih
  | niface=>exact .niface
  | yld b L h=>exact .any _
  | any u=>exact .any u
  | nil=>exact cV.nil
  | cons v u l c h t i1 i2=>exact cV.cons _ u _ c i1 i2
def rt:Nat:=16
def fE(bs:List Nat)(nid i:Nat) :Nat :=
  match bs[i]? with
  | some b=>b
  | none=>nid+(i-bs.length)
def kh(τ:Nat→Nat) :Nat→List (Option aD)→List (Nat×Option aD)
  | _,[]=>[]
  | i,o::l=>(τ i,o.map (zF τ))::kh τ (i+1) l
theorem Jb:∀ (s:List (Nat×Option aD)) (h:bN) (x:Nat),(∀ (i j:Nat) (p q:Nat×Option aD),s[i]? = some p→s[j]? = some q→p.1=q.1→i=j) →
    be (cS s h) x=match s.find? (fun p=>Nat.beq p.1 x) with | some p=>p.2 | none=>be h x
  | [],h,x,_=>rfl
  | (b, o) :: s, h, x, hn => by
    have hn':∀ (i j:Nat) (p q:Nat×Option aD),s[i]? = some p→s[j]? = some q→p.1=q.1→i=j:=fun i j p q h1 h2 h3=>by
      have:=hn (i+1) (j+1) p q (by simpa using h1) (by simpa using h2) h3;omega
    have key:be (cS ((b,o)::s) h) x=be (cS s (match o with | some d=>eY h b d | none=>tl h b)) x:=by
      cases o<;>rfl
    rw [key,Jb s _ x hn']
    by_cases hb:b=x
    · subst hb
      rw [List.find?_cons_of_pos (by simp [nv])]
      have hno:s.find? (fun p=>Nat.beq p.1 b)=none:=by
        rw [List.find?_eq_none]
        intro p hp hq
        obtain ⟨j,hj⟩:=List.getElem?_of_mem hp
        have:=hn 0 (j+1) (b,o) p rfl (by simpa using hj) (Nat.eq_of_beq_eq_true hq).symm
        omega
      rw [hno]
      cases o with
      | some d=>simp only [cR,if_true]
      | none=>simp only [nU,if_true]
    · rw [List.find?_cons_of_neg (by simp [tm hb])]
      split
      · rfl
      · cases o with
        | some d=>simp only [cR,if_neg hb]
        | none=>simp only [nU,if_neg hb]
theorem sL(τ:Nat→Nat) :∀ (l:List (Option aD)) (i j:Nat),(kh τ i l)[j]? = (l[j]?).map fun o=>(τ (i+j),o.map (zF τ))
  | [],i,j=>by simp [kh]
  | o::l,i,0=>by simp [kh]
  | o::l,i,j+1=>by
    simp only [kh,List.getElem?_cons_succ]
    rw [sL τ l (i+1) j]
    have:i+1+j=i+(j+1):=by omega
    rw [this]
def ac.adopt(ρ ρ':ac)(k nid m:Nat) :ac :=
  { at_:=fun x=>if nid≤x∧x-nid+k<m then ρ'.at_ (x-nid+k) else ρ.at_ x,
    ok:=fun x=>ρ.ok x∨(nid≤x∧x-nid+k<m∧ρ'.ok (x-nid+k)),
    live:=fun bl=>ρ.live bl∨ρ'.live bl,out:=ρ.out,pin:=ρ.pin }
theorem adN{ρ ρ':ac}{w w':World}{h:bN}{n nid:Nat}{bs:List Nat}{own:List (Option aD)}(hh:HR ρ w h n)(hbs:Ui h bs)(hid:∀ x,nid≤x→x<nid+rt→¬ ρ.ok x)(hfr:∀ b,b∈bs→b<nid∨nid+rt≤b) 
    (hn:nid+rt≤n) (hm:own.length≤bs.length+rt) (W:iq (ρ.lend bs).live w w') (E:kI (ρ.lend bs) ρ' w) (hbk:∀ i,i<bs.length→ρ'.ok i→(ρ.lend bs).ok i)
    (H:HR ρ' w' (eR 0 own) own.length) {v:AV} {u:Value} (hv:VR ρ' w' v u) :
    kI ρ (ρ.adopt ρ' bs.length nid own.length) w∧iq ρ.live w w'∧HR (ρ.adopt ρ' bs.length nid own.length) w' (cS (kh (fE bs nid) 0 own) h) n ∧
    VR (ρ.adopt ρ' bs.length nid own.length) w' (mH (fE bs nid) v) u∧∀ b,(ρ.adopt ρ' bs.length nid own.length).ok b→ρ.ok b∨(nid≤b∧b<nid+rt):=by
  have W':iq ρ.live w w':=W.mono (fun b _ q=>tg hh hbs q)
  have old:∀ {bl:Nat},bl<w.heap.size→ρ'.live bl→Hi ρ bs bl:=fun hb q=>E.new _ hb q
  have newOk:∀ {x:Nat},nid≤x→x-nid+bs.length<own.length→¬ ρ.ok x:=fun h1 h2=>hid _ h1 (by omega)
  have E2:kI ρ (ρ.adopt ρ' bs.length nid own.length) w:=by
    refine ⟨fun x hx=>?_,fun _ q=>.inl q,fun _ q=>.inl q,fun x hx q=>q.elim id (fun q=>tg hh hbs (old hx q)),rfl,rfl⟩
    simp only [ac.adopt]
    rw [if_neg (fun q=>newOk q.1 q.2 hx)]

  have name_old:∀ {i b:Nat},bs[i]? = some b→fE bs nid i=b:=fun q=>by simp [fE,q]
  have name_new:∀ {i:Nat},bs.length≤i→fE bs nid i=nid+(i-bs.length):=fun q=>by simp [fE,List.getElem?_eq_none q]
  have name_inj:∀ {i j:Nat},i<own.length→j<own.length→fE bs nid i=fE bs nid j→i=j:=by
    intro i j li lj e
    rcases Nat.lt_or_ge i bs.length with hi | hi<;>rcases Nat.lt_or_ge j bs.length with hj | hj
    · have a:=List.getElem?_eq_getElem hi
      have b:=List.getElem?_eq_getElem hj
      rw [name_old a,name_old b] at e
      rw [e] at a
      exact hbs.nodup a b
    · have a:=List.getElem?_eq_getElem hi
      rw [name_old a,name_new hj] at e
      have:=hfr _ (List.getElem_mem hi);omega
    · have b:=List.getElem?_eq_getElem hj
      rw [name_new hi,name_old b] at e
      have:=hfr _ (List.getElem_mem hj);omega
    · rw [name_new hi,name_new hj] at e;omega
  have lendOk:∀ {i b:Nat},bs[i]? = some b→ρ'.ok i→ρ.ok b:=by
    intro i b q hok
    obtain ⟨b',r1,r2⟩:=hbk i (List.getElem?_eq_some_iff.1 q).1 hok
    rw [q] at r1;cases r1;exact r2
  have atOld:∀ {i b:Nat},bs[i]? = some b→ρ'.ok i→ρ'.at_ i=ρ.at_ b:=by
    intro i b q hok
    have:=E.at_ i ⟨b,q,lendOk q hok⟩
    rw [this];simp [ac.lend,q]
  have idOk:∀ i,ρ'.ok i→(ρ.adopt ρ' bs.length nid own.length).ok (fE bs nid i)∧(ρ.adopt ρ' bs.length nid own.length).at_ (fE bs nid i)=ρ'.at_ i:=by
    intro i hok
    have hlt:=H.lt i hok
    rcases Nat.lt_or_ge i bs.length with hi | hi
    · have a:=List.getElem?_eq_getElem hi
      have k:=lendOk a hok
      rw [name_old a]
      exact ⟨.inl k,by rw [E2.at_ _ k,atOld a hok]⟩
    · rw [name_new hi]
      have e:nid+(i-bs.length)-nid+bs.length=i:=by omega
      refine ⟨.inr ⟨by omega,by omega,by rw [e];exact hok⟩,?_⟩
      simp only [ac.adopt]
      rw [if_pos ⟨by omega,by omega⟩,e]
  have L:ahO ρ' (ρ.adopt ρ' bs.length nid own.length) w' (fE bs nid):=by
    have own0:∀ {bl:Nat},(ρ.adopt ρ' bs.length nid own.length).own 0 bl→ρ'.own 0 bl∨ρ'.own 1 bl:=by
      intro bl q
      rcases q with q | q
      · by_cases hl:Hi ρ bs bl
        · exact .inl (E.live bl hl)
        · right;simp only [ac.own];rw [E.out];exact ⟨q,hl⟩
      · exact .inl q
    have ownS:∀ {j bl:Nat},(ρ.adopt ρ' bs.length nid own.length).own (j+1) bl→ρ'.own (j+2) bl:=by
      intro j bl q
      simp only [ac.own,ac.adopt] at q ⊢
      rw [E.out];exact q
    refine ⟨idOk,fun l bl _ ha=>?_,fun bl _ hN j q=>?_⟩
    · obtain ⟨a1,a2⟩:=ha
      have:∀ {l:Lv} {i:Nat},l.av ρ'.own (i+1) bl→l.av (ρ.adopt ρ' bs.length nid own.length).own i bl:=by
        intro l
        have sub:∀ {i:Nat},(ρ.adopt ρ' bs.length nid own.length).own i bl→ρ'.own (i+1) bl:=by
          intro i q
          cases i with
          | zero=>exact (own0 q).resolve_left a1
          | succ i=>exact ownS q
        induction l with
        | free=>intro i h j hj q;exact h (j+1) (by omega) (sub q)
        | lent=>intro i h q;exact h (sub q)
        | up l ih=>intro i h;exact ⟨fun q=>h.1 (sub q),ih h.2⟩
      exact this a2
    · cases j with
      | zero=>rcases own0 q with q | q;exact hN 0 q;exact hN 1 q
      | succ j=>exact hN (j+2) (ownS q)
  refine ⟨E2,W',?_,aa3 L hv,fun b q=>q.elim .inl (fun q=>.inr ⟨q.1,by omega⟩)⟩

  have mw:∀ (i j:Nat) (p q:Nat×Option aD),(kh (fE bs nid) 0 own)[i]? = some p→(kh (fE bs nid) 0 own)[j]? = some q→p.1=q.1→i=j:=by
    intro i j p q h1 h2 h3
    rw [sL,Option.map_eq_some_iff] at h1 h2
    obtain ⟨_,l1,rfl⟩:=h1
    obtain ⟨_,l2,rfl⟩:=h2
    simp only [Nat.zero_add] at h3
    exact name_inj (List.getElem?_eq_some_iff.1 l1).1 (List.getElem?_eq_some_iff.1 l2).1 h3

  have look:∀ x d,be (cS (kh (fE bs nid) 0 own) h) x=some d→(∃ i d0,be (eR 0 own) i=some d0∧x=fE bs nid i∧d=zF (fE bs nid) d0) ∨
      (be h x=some d∧∀ i,i<own.length→x≠fE bs nid i):=by
    intro x d hx
    rw [Jb _ _ _ mw] at hx
    split at hx
    · rename_i p hp
      have hmem:=List.mem_of_find?_eq_some hp
      have hpx:p.1=x:=Nat.eq_of_beq_eq_true (List.find?_some (p:=fun p:Nat×Option aD=>Nat.beq p.1 x) hp)
      obtain ⟨i,hi⟩:=List.getElem?_of_mem hmem
      rw [sL,Option.map_eq_some_iff] at hi
      obtain ⟨o,h1,rfl⟩:=hi
      simp only [Nat.zero_add] at hpx hx
      rw [Option.map_eq_some_iff] at hx
      obtain ⟨d0,rfl,rfl⟩:=hx
      exact .inl ⟨i,d0,by rw [Ds,h1];rfl,hpx.symm,rfl⟩
    · rename_i hp
      rw [List.find?_eq_none] at hp
      refine .inr ⟨hx,fun i hi e=>?_⟩
      have hi':=List.getElem?_eq_getElem hi
      have:(kh (fE bs nid) 0 own)[i]? = some (fE bs nid i,own[i].map (zF (fE bs nid))):=by
        rw [sL,hi'];simp
      exact hp _ (List.mem_of_getElem? this) (by simp only;rw [e];exact nv _)
  have ownLive:∀ {i d0},be (eR 0 own) i=some d0→ρ'.ok i→ρ'.live (ρ'.at_ i):=fun h1 h2=>(H.real h1 h2).1

  have oz:∀ {x d},be h x=some d→ρ.ok x→(∀ i,i<own.length→x≠fE bs nid i)→x∈bs→own.length≤bs.length→False∨True:=fun _ _ _ _ _=>.inr trivial
  refine ⟨fun x d hx=>?_,fun x y d e h1 h2 ok1 ok2 he=>?_,fun bl q j=>?_,fun bl q=>?_,fun j bl q=>?_,fun x q=>?_,fun x hx=>(hh.rom x hx).mono E2 W'⟩
  · rcases look x d hx with ⟨i,d0,h1,rfl,rfl⟩ | ⟨h1,h2⟩
    · have hlt:i<own.length:=(List.getElem?_eq_some_iff.1 (kC h1)).1
      rcases H.cell i d0 h1 with ⟨k1,k2,k3⟩ | ⟨k1,k2,k3,k4⟩
      · obtain ⟨q1,q2⟩:=idOk i k1
        refine .inl ⟨q1,by rw [q2];exact .inr k2,?_⟩
        rw [q2]
        obtain ⟨hr,c,t,r1,r2⟩:=k3
        refine ⟨AP hr,c,t,r1,fun y v hy=>?_⟩
        obtain ⟨v0,s1,s2⟩:=qc hr hy
        obtain ⟨u,t1,t2⟩:=r2 y v0 s1
        refine ⟨u,t1,?_⟩
        rcases s2 with rfl | ⟨rfl,s3⟩
        · exact aa3 L t2
        · exact gT L.nobody t2 s3
      ·
        refine .inr ⟨?_,?_,AP k3,fun y=>?_⟩
        · rintro (q | ⟨q1,q2,q3⟩)
          · rcases Nat.lt_or_ge i bs.length with hi | hi
            · have a:=List.getElem?_eq_getElem hi
              rw [name_old a] at q
              exact k1 (E.ok i ⟨_,a,q⟩)
            · rw [name_new hi] at q
              exact hid _ (by omega) (by omega) q
          · rcases Nat.lt_or_ge i bs.length with hi | hi
            · have a:=List.getElem?_eq_getElem hi
              rw [name_old a] at q1 q2
              have:=hfr _ (List.getElem_mem hi);omega
            · rw [name_new hi] at q3
              have e:nid+(i-bs.length)-nid+bs.length=i:=by omega
              rw [e] at q3;exact k1 q3
        · rcases Nat.lt_or_ge i bs.length with hi | hi
          · have a:=List.getElem?_eq_getElem hi
            rw [name_old a]
            obtain ⟨d',hd'⟩:=hbs.there _ (List.getElem_mem hi)
            rcases hh.cell _ d' hd' with q | q
            · exact hh.lt _ q.1
            · exact q.2.1
          · rw [name_new hi];omega
        · cases hc:(zF (fE bs nid) d0).cell? y with
          | none=>rfl
          | some v=>obtain ⟨v0,s1,_⟩:=qc k3 hc;rw [k4 y] at s1;cases s1
    · rcases hh.cell x d h1 with ⟨k1,k2,k3⟩ | ⟨k1,k2,k3⟩
      · rw [E2.at_ x k1]
        refine .inl ⟨.inl k1,.inl k2,?_⟩
        by_cases hl:Hi ρ bs (ρ.at_ x)
        ·
          obtain ⟨b,r1,r2,r3⟩:=hl
          obtain ⟨d',hd'⟩:=hbs.there b r1
          have:=hh.inj x b d d' h1 hd' k1 r2 r3
          subst this
          obtain ⟨i,hi⟩:=List.getElem?_of_mem r1
          have hlen : ¬ i<own.length:=fun q=>h2 i q (name_old hi).symm
          have hio:ρ'.ok i:=E.ok i ⟨x,hi,k1⟩
          exact absurd (H.lt i hio) hlen
        · exact k3.mono E2 W' (W.same _ (hh.liveLt _ k2) hl)
      · refine .inr ⟨?_,k2,k3⟩
        rintro (q | ⟨q1,q2,q3⟩)
        · exact k1 q
        · have:=h2 (x-nid+bs.length) q2
          rw [name_new (by omega)] at this
          exact this (by omega)
  ·
    have real:∀ {x d},be (cS (kh (fE bs nid) 0 own) h) x=some d→(ρ.adopt ρ' bs.length nid own.length).ok x →
        (∃ i d0,be (eR 0 own) i=some d0∧x=fE bs nid i∧ρ'.ok i)∨(be h x=some d∧ρ.ok x∧∀ i,i<own.length→x≠fE bs nid i):=by
      intro x d hx hok
      rcases look x d hx with ⟨i,d0,h1,rfl,rfl⟩ | ⟨h1,h2⟩
      · refine .inl ⟨i,d0,h1,rfl,?_⟩
        rcases hok with q | ⟨q1,q2,q3⟩
        · rcases Nat.lt_or_ge i bs.length with hi | hi
          · have a:=List.getElem?_eq_getElem hi
            rw [name_old a] at q
            exact E.ok i ⟨_,a,q⟩
          · have hlt:i<own.length:=(List.getElem?_eq_some_iff.1 (kC h1)).1
            rw [name_new hi] at q
            exact (hid _ (by omega) (by omega) q).elim
        · rcases Nat.lt_or_ge i bs.length with hi | hi
          · have a:=List.getElem?_eq_getElem hi
            rw [name_old a] at q1 q2
            have:=hfr _ (List.getElem_mem hi);omega
          · rw [name_new hi] at q3
            have e:nid+(i-bs.length)-nid+bs.length=i:=by omega
            rw [e] at q3;exact q3
      · refine .inr ⟨h1,?_,h2⟩
        rcases hok with q | ⟨q1,q2,q3⟩
        · exact q
        · have:=h2 (x-nid+bs.length) q2
          rw [name_new (by omega)] at this
          exact (this (by omega)).elim
    have cross:∀ {i d0 y e},be (eR 0 own) i=some d0→ρ'.ok i→be h y=some e→ρ.ok y→(∀ i,i<own.length→y≠fE bs nid i)→ρ'.at_ i=ρ.at_ y→False:=by
      intro i d0 y e h1 k1 h2 k2 h3 he
      have hl:=ownLive h1 k1
      rw [he] at hl
      obtain ⟨b,r1,r2,r3⟩:=old (hh.liveLt _ (hh.real h2 k2).1) hl
      obtain ⟨d',hd'⟩:=hbs.there b r1
      have:=hh.inj y b e d' h2 hd' k2 r2 r3
      subst this
      obtain ⟨j,hj⟩:=List.getElem?_of_mem r1
      exact h3 j (H.lt j (E.ok j ⟨y,hj,k2⟩)) (name_old hj).symm
    rcases real h1 ok1 with ⟨i,d0,a1,rfl,a2⟩ | ⟨a1,a2,a3⟩<;>rcases real h2 ok2 with ⟨j,e0,b1,rfl,b2⟩ | ⟨b1,b2,b3⟩
    · rw [(idOk i a2).2,(idOk j b2).2] at he
      rw [H.inj i j d0 e0 a1 b1 a2 b2 he]
    · rw [(idOk i a2).2,E2.at_ y b2] at he
      exact (cross a1 a2 b1 b2 b3 he).elim
    · rw [E2.at_ x a2,(idOk j b2).2] at he
      exact (cross b1 b2 a1 a2 a3 he.symm).elim
    · rw [E2.at_ x a2,E2.at_ y b2] at he
      exact hh.inj x y d e a1 b1 a2 b2 he
  · rcases q with q | q
    · exact hh.fresh bl q j
    · intro r
      have:=H.fresh bl q (j+1)
      rw [E.out] at this
      exact this r
  · rcases q with q | q
    · exact Nat.lt_of_lt_of_le (hh.liveLt bl q) W'.size
    · exact H.liveLt bl q
  · exact Nat.lt_of_lt_of_le (hh.outLt j bl q) W'.size
  · rcases q with q | ⟨q1,q2,q3⟩
    · exact hh.lt x q
    · omega
end
end Go.Plb
