/-
  Part 1 of what the claim leans on: an evaluator of the model, proved sound; the contracts of the functions.
-/
import Derived.Orders
import Derived.Laws.World
import Derived.Laws.FloatArith
import Derived.Laws.Sem
import Derived.ChangeKeysEq
import Derived.Laws.MakeOwn
import Derived.Laws.AppendOwn
namespace Go.Plb
set_option linter.unusedSimpArgs false
set_option linter.unusedVariables false
def QV:Nat:=0x7FF8000000000000
def isNaN(x:Nat) :Bool:=(FloatKind.f64.decode x).isNaN
def FR(ex:Bool)(x y:Nat) :Prop:=y=x∨(ex=false∧isNaN x=true∧isNaN y=true)
inductive Lv where
  | free
  | lent
  | up (l:Lv)
mutual
inductive AV where
  | int (k:IntKind) (n:Int)
  | bool (kn b:Bool)
  | flt (ex:Bool) (x:Nat)
  | str (s:ByteArray)
  | nptr
  | ptr (b w i j:Nat)
  | iptr (bw:Lv) (d:ba) (w i j:Nat)
  | nsl
  | esl
  | zsl (b:Bool)
  | nan
  | sl (b w es i len cap:Nat)
  | imm (bw:Lv) (d:ba) (w es i len:Nat)
  | fn (f:Fn) (first caps:List AV)
  | nfn
  | agg (l:List AV)
  | tup (l:List AV)
  | iface (t:TypeId) (v:AV)
  | niface
  | any
inductive ba where
  | fl (xs:List Nat)
  | ns (k:IntKind) (xs:List Int)
  | bs (xs:List Bool)
  | ss (xs:List ByteArray)
  | vs (xs:List AV)
  | rows (w n:Nat) (get:Nat→Nat→AV)
  | cols (n:Nat) (cs:List lG)
inductive lG where
  | cf (xs:List Nat)
  | ci (k:IntKind) (xs:List Int)
  | cb (xs:List Bool)
  | cs (xs:List ByteArray)
  | cfl (xs:List (List Nat))
  | cns (k:IntKind) (xs:List (List Int))
end
instance:Inhabited AV:=⟨.any⟩
def lG.cell?:lG→Nat→Option AV
  | .cf xs,i=>(xs[i]?).map (AV.flt false)
  | .ci k xs,i=>(xs[i]?).map (AV.int k)
  | .cb xs,i=>(xs[i]?).map (AV.bool false)
  | .cs xs,i=>(xs[i]?).map AV.str
  | .cfl xs,i=>(xs[i]?).map fun l=>.imm .free (.fl l) 1 1 0 l.length
  | .cns k xs,i=>(xs[i]?).map fun l=>.imm .free (.ns k l) 1 1 0 l.length
def ba.cell?:ba→Nat→Option AV
  | .fl xs,i=>(xs[i]?).map (AV.flt false)
  | .ns k xs,i=>(xs[i]?).map (AV.int k)
  | .bs xs,i=>(xs[i]?).map (AV.bool false)
  | .ss xs,i=>(xs[i]?).map AV.str
  | .vs xs,i=>xs[i]?
  | .rows w n get,i=>if i/w<n then some (get (i/w) (i%w)) else none
  | .cols n cs,i=>(cs[i%cs.length]?).bind fun c=>c.cell? (i/cs.length)
def Lv.isFree:Lv→Bool
  | .free=>true
  | .lent=>false
  | .up l=>l.isFree
mutual
def AV.kept:AV→Bool
  | .ptr .. | .sl ..=>false
  | .iptr bw .. | .imm bw ..=>bw.isFree
  | .fn _ l1 l2=>iR l1&&iR l2
  | .agg l | .tup l=>iR l
  | .iface _ v=>v.kept
  | _=>true
def iR:List AV→Bool
  | []=>true
  | v::l=>v.kept&&iR l
end
def AV.one:AV→Bool
  | .agg _ | .tup _ | .any=>false
  | _=>true
def nN:List AV→Bool
  | []=>true
  | v::l=>v.one&&nN l
def ba.kept:ba→Bool
  | .vs xs=>iR xs
  | _=>true
def lG.len:lG→Nat
  | .cf xs=>xs.length
  | .ci _ xs=>xs.length
  | .cb xs=>xs.length
  | .cs xs=>xs.length
  | .cfl xs=>xs.length
  | .cns _ xs=>xs.length
def ba.recKept:ba→Prop
  | .rows _ _ get=>∀ i j,(get i j).kept=true∧(get i j).one=true
  | .cols n cs=>∀ c∈cs,c.len=n
  | _=>True
mutual
def AV.foreign:AV→Bool
  | .ptr .. | .sl ..=>false
  | .fn _ l1 l2=>dm l1&&dm l2
  | .agg l | .tup l=>dm l
  | .iface _ v=>v.foreign
  | _=>true
def dm:List AV→Bool
  | []=>true
  | v::l=>v.foreign&&dm l
end
def ba.foreign:ba→Bool
  | .vs xs=>dm xs
  | _=>true
theorem BE{c:lG}{i:Nat}{v:AV}(h:c.cell? i=some v) :v.kept=true∧v.foreign=true∧v.one=true:=by
  cases c<;>simp only [lG.cell?,Option.map_eq_some_iff] at h<;>obtain ⟨_,_,rfl⟩:=h<;>exact ⟨rfl,rfl,rfl⟩
theorem Fj{c:lG}{i:Nat}{v:AV}(h:c.cell? i=some v) :i<c.len:=by
  cases c<;>simp only [lG.cell?,Option.map_eq_some_iff] at h<;>obtain ⟨_,h,_⟩:=h<;>exact (List.getElem?_eq_some_iff.1 h).1
theorem QW{c:lG}{i:Nat}(h:i<c.len) :∃ v,c.cell? i=some v:=by
  cases c<;>simp only [lG.len] at h<;>simp only [lG.cell?]<;>exact ⟨_,by rw [List.getElem?_eq_getElem h];rfl⟩
theorem mV{n:Nat}{cs:List lG}{x:Nat}{v:AV}(h:(ba.cols n cs).cell? x=some v) :∃ c,cs[x%cs.length]? = some c∧c∈cs∧c.cell? (x/cs.length)=some v:=by
  simp only [ba.cell?,Option.bind_eq_some_iff] at h
  obtain ⟨c,h1,h2⟩:=h
  exact ⟨c,h1,List.mem_of_getElem? h1,h2⟩
structure aH where
  at_:Nat→Nat
  live:Nat→Prop

  out:Nat→Nat→Prop

  ok:Nat→Prop
def Lv.av(O:Nat→Nat→Prop) :Lv→Nat→Nat→Prop
  | .free,i,bl=>∀ j,i≤j→¬ O j bl
  | .lent,i,bl=>¬ O i bl
  | .up l,i,bl=>¬ O i bl∧l.av O (i+1) bl
def aH.own(ρ:aH) :Nat→Nat→Prop
  | 0=>ρ.live
  | j+1=>ρ.out j
def aH.avoid(ρ:aH)(bw:Lv)(bl:Nat) :Prop:=bw.av ρ.own 0 bl
theorem Ij{O:Nat→Nat→Prop} :∀ {l:Lv} {i bl:Nat},l.av O i bl→¬ O i bl
  | .free,i,bl,h=>h i (Nat.le_refl _)
  | .lent,i,bl,h=>h
  | .up l,i,bl,h=>h.1
theorem DG{O O':Nat→Nat→Prop}{bl d:Nat} :∀ {l:Lv} {i:Nat},(∀ j,i≤j→O' (j+d) bl→O j bl)→l.av O i bl→l.av O' (i+d) bl
  | .free,i,h,k=>fun j hj q=>by
    obtain ⟨j',rfl⟩:∃ j',j=j'+d:=⟨j-d,by omega⟩
    exact k j' (by omega) (h j' (by omega) q)
  | .lent,i,h,k=>fun q=>k (h i (Nat.le_refl _) q)
  | .up l,i,h,k=>⟨fun q=>k.1 (h i (Nat.le_refl _) q),by
      have:=DG (l:=l) (i:=i+1) (d:=d) (fun j hj=>h j (by omega)) k.2
      have e:i+1+d=i+d+1:=by omega
      rwa [e] at this⟩
theorem xp{O:Nat→Nat→Prop} :∀ {l:Lv} {i bl:Nat},l.isFree=true→l.av O i bl→∀ j,i≤j→¬ O j bl
  | .free,i,bl,_,h,j,hj=>h j hj
  | .lent,i,bl,hl,_,_,_=>by cases hl
  | .up l,i,bl,hl,h,j,hj=>by
    rcases Nat.eq_or_lt_of_le hj with rfl | q
    · exact h.1
    · exact xp (l:=l) hl h.2 j q
theorem xq{ρ:aH}{l:Lv}{bl:Nat}(h:ρ.avoid l bl) : ¬ ρ.live bl:=Ij (O:=ρ.own) h
class Rom where
  tab:List (Nat×ba)
mutual
inductive VR (ρ:aH) (w:World):AV→Value→Prop
  | int (k:IntKind) (n:Int):VR ρ w (.int k n) (.int k n)
  | bool (kn b:Bool):VR ρ w (.bool kn b) (.bool b)
  | flt (ex:Bool) (x y:Nat) (h:FR ex x y):VR ρ w (.flt ex x) (.float .f64 y)
  | str (s:ByteArray):VR ρ w (.str s) (.string s)
  | nptr:VR ρ w .nptr (.pointer none)
  | ptr (b k i j:Nat) (hb:ρ.ok b):VR ρ w (.ptr b k i j) (.pointer (some ⟨ρ.at_ b,i*k+j,none⟩))
  | iptr (bw:Lv) (d:ba) (k i j bl o:Nat) (u:Nat→Value) (ha:ρ.avoid bw bl) (hb:bl<w.heap.size)
      (hc:∀ x v,d.cell? x=some v→w.cell? ⟨bl,o+x,none⟩=some (u x)) (hv:∀ x v,d.cell? x=some v→VR ρ w v (u x))
      (hr:d.recKept) (hk:bw.isFree=true→d.kept=true) (hg:d.foreign=true) :
      VR ρ w (.iptr bw d k i j) (.pointer (some ⟨bl,o+(i*k+j),none⟩))
  | nsl:VR ρ w .nsl (.slice none 0 0)
  | esl (a:Option Addr):VR ρ w .esl (.slice a 0 0)
  | zsl (a:Option Addr) (cap:Nat):VR ρ w (.zsl a.isNone) (.slice a 0 cap)
  | nan (n:Nat) (h:isNaN n=true):VR ρ w .nan (.int .u64 n)
  | sl (b k es i len cap cap':Nat) (hb:ρ.ok b) (hcap:cap≤cap') (hl:len≤cap) (c:Array Value) (t:TypeId) (hh:w.heap[ρ.at_ b]? = some (.cells c t (0,0)))
      (hs:i*k+cap'*es≤c.size):VR ρ w (.sl b k es i len cap) (.slice (some ⟨ρ.at_ b,i*k,none⟩) len cap')
  | slEnd (b k es i:Nat) (a:Option Addr):VR ρ w (.sl b k es i 0 0) (.slice a 0 0)
  | imm (bw:Lv) (d:ba) (k es i len cap bl o:Nat) (u:Nat→Value) (ha:ρ.avoid bw bl) (hb:bl<w.heap.size)
      (hc:∀ x v,d.cell? x=some v→w.cell? ⟨bl,o+x,none⟩=some (u x)) (hv:∀ x v,d.cell? x=some v→VR ρ w v (u x)) (hl:len≤cap)
      (hr:d.recKept) (hk:bw.isFree=true→d.kept=true) (hg:d.foreign=true) :
      VR ρ w (.imm bw d k es i len) (.slice (some ⟨bl,o+i*k,none⟩) len cap)
  | immEnd (bw:Lv) (d:ba) (k es i cap:Nat) (a:Option Addr) (hr:d.recKept) (hk:bw.isFree=true→d.kept=true) (hg:d.foreign=true):VR ρ w (.imm bw d k es i 0) (.slice a 0 cap)
  | fn (f:Fn) (l1 l2:List AV) (c1 c2:Array Value) (h1:jk ρ w l1 c1.toList) (h2:jk ρ w l2 c2.toList):VR ρ w (.fn f l1 l2) (.func f c1 c2)
  | nfn:VR ρ w .nfn .nilFunc
  | agg (l:List AV) (c:Array Value) (h:jk ρ w l c.toList):VR ρ w (.agg l) (.agg c)
  | tup (l:List AV) (c:Array Value) (h:jk ρ w l c.toList):VR ρ w (.tup l) (.tuple c)
  | iface (t:TypeId) (v:AV) (u:Value) (h:VR ρ w v u):VR ρ w (.iface t v) (.iface t u)
  | niface:VR ρ w .niface .nilIface
  | any (u:Value):VR ρ w .any u
inductive jk (ρ:aH) (w:World):List AV→List Value→Prop
  | nil:jk ρ w [] []
  | cons (v:AV) (u:Value) (l:List AV) (c:List Value) (h:VR ρ w v u) (t:jk ρ w l c):jk ρ w (v::l) (u::c)
end
def BR(ρ:aH)(w:World)(bl:Nat)(d:ba) :Prop :=
  d.recKept∧∃ c t,w.heap[bl]? = some (.cells c t (0,0))∧∀ x v,d.cell? x=some v→∃ u,c[x]? = some u∧VR ρ w v u
structure rc (M:Nat→Prop) (w w':World):Prop where
  os:w'.os=w.os
  tape:w'.tape=w.tape
  output:w'.output=w.output
  size:w.heap.size≤w'.heap.size
  same:∀ b,b<w.heap.size→¬ M b→w'.heap[b]? = w.heap[b]?
  sized:∀ (b:Nat) c t fz,w.heap[b]? = some (.cells c t fz)→∃ c',w'.heap[b]? = some (.cells c' t fz)∧c'.size=c.size
theorem rc.refl(M:Nat→Prop)(w:World) :rc M w w:=⟨rfl,rfl,rfl,Nat.le_refl _,fun _ _ _=>rfl,fun _ c _ _ h=>⟨c,h,rfl⟩⟩
theorem rc.trans{M M':Nat→Prop}{a b c:World}(h:rc M a b)(k:rc M' b c)(hM:∀ x,x<a.heap.size→M' x→M x) :rc M a c :=
  ⟨k.os.trans h.os,k.tape.trans h.tape,k.output.trans h.output,Nat.le_trans h.size k.size,
   fun x hx hn=>(k.same x (Nat.lt_of_lt_of_le hx h.size) (fun m=>hn (hM x hx m))).trans (h.same x hx hn),
   fun x c t fz hc=>by
     obtain ⟨c1,h1,e1⟩:=h.sized x c t fz hc
     obtain ⟨c2,h2,e2⟩:=k.sized x c1 t fz h1
     exact ⟨c2,h2,e2.trans e1⟩⟩
theorem rc.mono{M M':Nat→Prop}{w w':World}(h:rc M w w')(hM:∀ x,x<w.heap.size→M x→M' x) :rc M' w w' :=
  ⟨h.os,h.tape,h.output,h.size,fun x hx hn=>h.same x hx (fun m=>hn (hM x hx m)),h.sized⟩
theorem Hk{w w':World}{a:Addr}(h:w'.heap[a.block]? = w.heap[a.block]?) :w'.cell? a=w.cell? a:=by
  unfold World.cell?;rw [h]
structure vY (ρ ρ':aH) (w:World):Prop where
  at_:∀ b,ρ.ok b→ρ'.at_ b=ρ.at_ b
  ok:∀ b,ρ.ok b→ρ'.ok b
  live:∀ b,ρ.live b→ρ'.live b
  new:∀ b,b<w.heap.size→ρ'.live b→ρ.live b
  out:ρ'.out=ρ.out
theorem vY.refl(ρ:aH)(w:World) :vY ρ ρ w:=⟨fun _ _=>rfl,fun _ h=>h,fun _ h=>h,fun _ _ h=>h,rfl⟩
theorem vY.trans{a b c:aH}{w w':World}(h:vY a b w)(k:vY b c w')(hw:w.heap.size≤w'.heap.size) :vY a c w :=
  ⟨fun x hx=>(k.at_ x (h.ok x hx)).trans (h.at_ x hx),fun x hx=>k.ok x (h.ok x hx),fun x hx=>k.live x (h.live x hx),
   fun x hx hl=>h.new x hx (k.new x (Nat.lt_of_lt_of_le hx hw) hl),k.out.trans h.out⟩
theorem vY.avoid{ρ ρ':aH}{w:World}(E:vY ρ ρ' w){l:Lv}{bl:Nat}(hb:bl<w.heap.size)(h:ρ.avoid l bl) :ρ'.avoid l bl:=by
  refine DG (d:=0) (fun j _ q=>?_) h
  cases j with
  | zero=>exact E.new bl hb q
  | succ j=>simp only [Nat.add_zero,aH.own] at q ⊢;rw [E.out] at q;exact q
theorem VR.mono{ρ ρ':aH}{w w':World}(E:vY ρ ρ' w)(W:rc ρ.live w w'){v:AV}{u:Value}(h:VR ρ w v u) :VR ρ' w' v u:=by
  induction h using VR.rec (motive_2:=fun l c _=>jk ρ' w' l c) with
  | int k n=>exact .int k n
  | bool kn b=>exact .bool kn b
  | flt ex x y h=>exact .flt ex x y h
  | str s=>exact .str s
  | nptr=>exact .nptr
  | ptr b k i j hb=>rw [←E.at_ b hb];exact .ptr b k i j (E.ok b hb)
  | iptr bw d k i j bl o u ha hb hc hv hr hk hg ih =>
    refine .iptr bw d k i j bl o u (E.avoid hb ha) (Nat.lt_of_lt_of_le hb W.size) ?_ ih hr hk hg
    intro x v hx
    rw [Hk (W.same bl hb (xq ha))];exact hc x v hx
  | nsl=>exact .nsl
  | esl a=>exact .esl a
  | zsl a c=>exact .zsl a c
  | nan n h=>exact .nan n h
  | sl b k es i len cap cap' hb hcap hl c t hh hs =>
    obtain ⟨c',h1,h2⟩:=W.sized _ _ _ _ hh
    rw [←E.at_ b hb] at h1 ⊢
    exact .sl b k es i len cap cap' (E.ok b hb) hcap hl c' t h1 (by omega)
  | slEnd b k es i a=>exact .slEnd b k es i a
  | imm bw d k es i len cap bl o u ha hb hc hv hl hr hk hg ih =>
    refine .imm bw d k es i len cap bl o u (E.avoid hb ha) (Nat.lt_of_lt_of_le hb W.size) ?_ ih hl hr hk hg
    intro x v hx
    rw [Hk (W.same bl hb (xq ha))];exact hc x v hx
  | immEnd bw d k es i cap a hr hk hg=>exact .immEnd bw d k es i cap a hr hk hg
  | fn f l1 l2 c1 c2 h1 h2 i1 i2=>exact .fn f l1 l2 c1 c2 i1 i2
  | nfn=>exact .nfn
  | agg l c h ih=>exact .agg l c ih
  | tup l c h ih=>exact .tup l c ih
  | iface t v u h ih=>exact .iface t v u ih
  | niface=>exact .niface
  | any u=>exact .any u
  | nil=>exact .nil
  | cons v u l c h t i1 i2=>exact .cons v u l c i1 i2
theorem jk.mono{ρ ρ':aH}{w w':World}(E:vY ρ ρ' w)(W:rc ρ.live w w') :∀ {l:List AV} {c:List Value},jk ρ w l c→jk ρ' w' l c
  | _,_,.nil=>.nil
  | _,_,.cons v u l c h t=>.cons v u l c (h.mono E W) (jk.mono E W t)
end Go.Plb
namespace Go.Plb
set_option linter.unusedSimpArgs false
set_option linter.unusedVariables false
set_option linter.unusedSectionVars false
variable [Rom]
abbrev fj:=List (Nat×ba)
def bQ:fj→Nat→Option ba
  | [],_=>none
  | (k,d)::t,b=>bif Nat.beq k b then some d else bQ t b
def lQ:fj→Nat→ba→fj
  | [],b,d=>[(b,d)]
  | (k,e)::t,b,d=>bif Nat.beq k b then (k,d)::t else (k,e)::lQ t b d
def E9:fj→Nat→fj
  | [],_=>[]
  | (k,e)::t,b=>bif Nat.beq k b then E9 t b else (k,e)::E9 t b
theorem zO{a b:Nat}(h : ¬ a=b) :Nat.beq a b=false:=by
  cases e:Nat.beq a b with
  | false=>rfl
  | true=>exact absurd (Nat.eq_of_beq_eq_true e) h
theorem xu(a:Nat) :Nat.beq a a=true:=Nat.beq_refl a
theorem iV(h:fj)(b c:Nat)(d:ba) :bQ (lQ h b d) c=if b=c then some d else bQ h c:=by
  induction h with
  | nil =>
    by_cases e:b=c
    · subst e;simp [lQ,bQ,xu]
    · simp [lQ,bQ,zO e,e]
  | cons x t ih =>
    obtain ⟨k,e⟩:=x
    by_cases h1:k=b
    · subst h1
      by_cases h2:k=c
      · subst h2;simp [lQ,bQ,xu]
      · simp [lQ,bQ,h2,zO h2,xu]
    · by_cases h2:k=c
      · subst h2;simp [lQ,bQ,zO h1,xu];intro e;exact absurd e.symm h1
      · simp [lQ,bQ,zO h1,zO h2,ih]
theorem xv(h:fj)(b c:Nat) :bQ (E9 h b) c=if b=c then none else bQ h c:=by
  induction h with
  | nil=>by_cases e:b=c<;>simp [E9,bQ,e]
  | cons x t ih =>
    obtain ⟨k,e⟩:=x
    by_cases h1:k=b
    · subst h1
      by_cases h2:k=c
      · subst h2;simp [E9,ih,xu]
      · simp [E9,bQ,ih,h2,zO h2,xu]
    · by_cases h2:k=c
      · subst h2;simp [E9,bQ,zO h1,xu];intro e;exact absurd e.symm h1
      · simp [E9,bQ,zO h1,zO h2,ih]
def ba.void(d:ba) :Prop:=∀ x,d.cell? x=none
structure HR (ρ:aH) (w:World) (h:fj) (n:Nat):Prop where
  cell:∀ b d,bQ h b=some d→(ρ.ok b∧ρ.live (ρ.at_ b)∧BR ρ w (ρ.at_ b) d)∨(¬ ρ.ok b∧b<n∧d.recKept∧d.void)
  inj:∀ b c d e,bQ h b=some d→bQ h c=some e→ρ.ok b→ρ.ok c→ρ.at_ b=ρ.at_ c→b=c
  fresh:∀ bl,ρ.live bl→∀ j,¬ ρ.out j bl
  liveLt:∀ bl,ρ.live bl→bl<w.heap.size
  outLt:∀ j bl,ρ.out j bl→bl<w.heap.size
  lt:∀ b,ρ.ok b→b<n
  rom:∀ x∈Rom.tab,VR ρ w (.iptr .free x.2 1 0 0) (.pointer (some ⟨x.1,0,none⟩))
theorem HR.real{ρ:aH}{w:World}{h:fj}{n b:Nat}{d:ba}(hh:HR ρ w h n)(hg:bQ h b=some d)(hok:ρ.ok b) :ρ.live (ρ.at_ b)∧BR ρ w (ρ.at_ b) d:=by
  rcases hh.cell b d hg with q | q
  · exact q.2
  · exact (q.1 hok).elim
theorem HR.solid{ρ:aH}{w:World}{h:fj}{n b:Nat}{d:ba}(hh:HR ρ w h n)(hg:bQ h b=some d)(he:∃ x e,d.cell? x=some e) :ρ.ok b∧ρ.live (ρ.at_ b)∧BR ρ w (ρ.at_ b) d:=by
  rcases hh.cell b d hg with q | q
  · exact q
  · obtain ⟨x,e,hx⟩:=he
    rw [q.2.2.2 x] at hx;cases hx
theorem HR.rk{ρ:aH}{w:World}{h:fj}{n b:Nat}{d:ba}(hh:HR ρ w h n)(hg:bQ h b=some d) :d.recKept:=by
  rcases hh.cell b d hg with q | q
  · exact q.2.2.1
  · exact q.2.2.1
theorem BR.mono{ρ ρ':aH}{w w':World}{bl:Nat}{d:ba}(E:vY ρ ρ' w)(W:rc ρ.live w w')(hs:w'.heap[bl]? = w.heap[bl]?)(h:BR ρ w bl d) :BR ρ' w' bl d:=by
  obtain ⟨hr,c,t,hc,hv⟩:=h
  refine ⟨hr,c,t,hs.trans hc,fun x v hx=>?_⟩
  obtain ⟨u,h1,h2⟩:=hv x v hx
  exact ⟨u,h1,h2.mono E W⟩
theorem HR.del{ρ:aH}{w:World}{h:fj}{n:Nat}(hh:HR ρ w h n)(b:Nat) :HR ρ w (E9 h b) n:=by
  have yH:∀ c d,bQ (E9 h b) c=some d→bQ h c=some d:=by
    intro c d e
    rw [xv] at e
    split at e
    · cases e
    · exact e
  exact ⟨fun c d e=>hh.cell c d (yH c d e),fun a c d e h1 h2=>hh.inj a c d e (yH _ _ h1) (yH _ _ h2),hh.fresh,hh.liveLt,hh.outLt,hh.lt,hh.rom⟩
theorem HR.le{ρ:aH}{w:World}{h:fj}{n m:Nat}(hh:HR ρ w h n)(hm:n≤m) :HR ρ w h m :=
  ⟨fun b d e=>(hh.cell b d e).imp id (fun q=>⟨q.1,Nat.lt_of_lt_of_le q.2.1 hm,q.2.2⟩),hh.inj,hh.fresh,hh.liveLt,hh.outLt,fun b hb=>Nat.lt_of_lt_of_le (hh.lt b hb) hm,hh.rom⟩
theorem HR.step{ρ:aH}{w w':World}{h:fj}{n:Nat}(hh:HR ρ w h n)(W:rc ρ.live w w')(hs:∀ bl,ρ.live bl→w'.heap[bl]? = w.heap[bl]?) :HR ρ w' h n :=
  ⟨fun b d e=>(hh.cell b d e).imp (fun q=>⟨q.1,q.2.1,q.2.2.mono (vY.refl ρ w) W (hs _ q.2.1)⟩) id,hh.inj,hh.fresh,
   fun bl hl=>Nat.lt_of_lt_of_le (hh.liveLt bl hl) W.size,fun j bl hl=>Nat.lt_of_lt_of_le (hh.outLt j bl hl) W.size,hh.lt,fun x hx=>(hh.rom x hx).mono (vY.refl ρ w) W⟩
theorem rc.drawn(M:Nat→Prop)(w:World)(k:Nat) :rc M w { w with drawn:=k } :=
  ⟨rfl,rfl,rfl,Nat.le_refl _,fun _ _ _=>rfl,fun _ c _ _ h=>⟨c,h,rfl⟩⟩
theorem HR.drawn{ρ:aH}{w:World}{h:fj}{n:Nat}(hh:HR ρ w h n)(k:Nat) :HR ρ { w with drawn:=k } h n :=
  hh.step (rc.drawn _ w k) (fun _ _=>rfl)
theorem rc.alloc(M:Nat→Prop)(w:World)(o:Obj) :rc M w (w.alloc o):=by
  refine ⟨rfl,rfl,rfl,by simp,fun b hb _=>?_,fun b c t fz hc=>⟨c,?_,rfl⟩⟩
  · simp only [World.alloc,Array.getElem?_push];rw [if_neg (by omega)]
  · have:b<w.heap.size:=by
      rcases Nat.lt_or_ge b w.heap.size with h | h
      · exact h
      · rw [Array.getElem?_eq_none h] at hc;cases hc
    simp only [World.alloc,Array.getElem?_push];rw [if_neg (by omega)];exact hc
theorem MA{w:World}{o:Obj}{b:Nat}(hb:b<w.heap.size) :(w.alloc o).heap[b]? = w.heap[b]?:=by
  simp only [World.alloc,Array.getElem?_push];rw [if_neg (by omega)]
theorem r7(w:World)(o:Obj) :(w.alloc o).heap[w.heap.size]? = some o:=by
  unfold World.alloc;simp
def aH.give(ρ:aH)(b bl:Nat) :aH :=
  { at_:=fun x=>if x=b then bl else ρ.at_ x,ok:=fun x=>x=b∨ρ.ok x,live:=fun x=>x=bl∨ρ.live x,out:=ρ.out }
theorem vY.give{ρ:aH}{w:World}{b bl:Nat}(hb : ¬ ρ.ok b)(hl:w.heap.size≤bl) :vY ρ (ρ.give b bl) w :=
  ⟨fun x hx=>by simp only [aH.give];rw [if_neg (fun e:x=b=>hb (by rw [←e];exact hx))],fun _ h=>.inr h,fun _ h=>.inr h,
   fun x hx h=>h.resolve_left (by omega),rfl⟩
theorem HR.alloc{ρ:aH}{w:World}{h:fj}{n b:Nat}(hh:HR ρ w h n)(hb : ¬ ρ.ok b)(hn:b<n)(d:ba)(c:Array Value)(t:TypeId) 
    (hd:d.recKept) (hc:∀ x v,d.cell? x=some v→∃ u,c[x]? = some u∧VR ρ w v u) :
    HR (ρ.give b w.heap.size) (w.alloc (.cells c t)) (lQ h b d) n∧vY ρ (ρ.give b w.heap.size) w∧rc ρ.live w (w.alloc (.cells c t)):=by
  have E:vY ρ (ρ.give b w.heap.size) w:=vY.give hb (Nat.le_refl _)
  have W:=rc.alloc ρ.live w (.cells c t)
  refine ⟨⟨fun x e hx=>?_,fun x y e f h1 h2 ok1 ok2 he=>?_,fun bl hl j ho=>?_,fun bl hl=>?_,fun j bl ho=>?_,fun x hx=>?_,fun x hx=>(hh.rom x hx).mono E W⟩,E,W⟩
  · rw [iV] at hx
    by_cases hxb:b=x
    · subst hxb
      rw [if_pos rfl] at hx
      cases hx
      refine .inl ⟨.inl rfl,.inl (by simp [aH.give]),hd,c,t,?_,fun y v hy=>?_⟩
      · simp only [aH.give,if_true];exact r7 w _
      · obtain ⟨u,h1,h2⟩:=hc y v hy
        exact ⟨u,h1,h2.mono E W⟩
    · rw [if_neg hxb] at hx
      rcases hh.cell x e hx with ⟨h1,h2,h3⟩ | ⟨h1,h2⟩
      · have e1:(ρ.give b w.heap.size).at_ x=ρ.at_ x:=E.at_ x h1
        rw [e1]
        exact .inl ⟨.inr h1,.inr h2,h3.mono E W (MA (hh.liveLt _ h2))⟩
      · exact .inr ⟨fun q=>q.elim (fun q=>hxb q.symm) h1,h2⟩
  · rw [iV] at h1 h2
    have old:∀ z g,b≠z→(if b=z then some d else bQ h z)=some g→(ρ.give b w.heap.size).ok z→ρ.ok z∧(ρ.give b w.heap.size).at_ z=ρ.at_ z∧ρ.at_ z<w.heap.size∧bQ h z=some g:=by
      intro z g hz hg hok
      rw [if_neg hz] at hg
      have k1:ρ.ok z:=hok.resolve_left (fun q=>hz q.symm)
      exact ⟨k1,E.at_ z k1,hh.liveLt _ (hh.real hg k1).1,hg⟩
    have new:(ρ.give b w.heap.size).at_ b=w.heap.size:=by simp [aH.give]
    by_cases hx:b=x
    · by_cases hy:b=y
      · omega
      · obtain ⟨_,q1,q2,_⟩:=old y f hy h2 ok2
        subst hx;omega
    · obtain ⟨q0,q1,q2,q3⟩:=old x e hx h1 ok1
      by_cases hy:b=y
      · subst hy;omega
      · obtain ⟨r0,r1,r2,r3⟩:=old y f hy h2 ok2
        exact hh.inj x y e f q3 r3 q0 r0 (by omega)
  · rcases hl with rfl | hl
    · exact absurd (hh.outLt _ _ ho) (by omega)
    · exact hh.fresh bl hl j ho
  · rcases hl with rfl | hl
    · simp
    · have:=hh.liveLt bl hl;simp;omega
  · have:=hh.outLt j bl ho;simp;omega
  · rcases hx with rfl | hx
    · exact hn
    · exact hh.lt x hx
theorem rc.setCell{M:Nat→Prop}(w:World)(a:Addr)(v:Value)(hM:M a.block) :rc M w (w.setCell a v):=by
  refine ⟨rfl,rfl,rfl,by simp,fun b _ hb=>?_,fun b c t fz hc=>?_⟩
  · simp only [World.setCell,Array.getElem?_modify]
    rw [if_neg (fun e:a.block=b=>hb (by rw [←e];exact hM))]
  · by_cases e:a.block=b
    · subst e
      simp only [World.setCell,Array.getElem?_modify,if_true,hc,Option.map_some]
      refine ⟨_,rfl,?_⟩
      split<;>simp
    · refine ⟨c,?_,rfl⟩
      simp only [World.setCell,Array.getElem?_modify]
      rw [if_neg e];exact hc
theorem HR.store{ρ:aH}{w:World}{h:fj}{n b x:Nat}{d d':ba}{u:Value}(hh:HR ρ w h n)(hg:bQ h b=some d) 
    (hd:d'.recKept) (hx:∀ y e,d'.cell? y=some e→(y=x∧VR ρ w e u)∨(y≠x∧d.cell? y=some e)) (he:∃ e,d.cell? x=some e) :
    HR ρ (w.setCell ⟨ρ.at_ b,x,none⟩ u) (lQ h b d') n∧rc ρ.live w (w.setCell ⟨ρ.at_ b,x,none⟩ u):=by
  obtain ⟨hok,hl,hr,c,t,hc,hcv⟩:=hh.solid hg ⟨x,he⟩
  have W:rc ρ.live w (w.setCell ⟨ρ.at_ b,x,none⟩ u):=rc.setCell w _ u hl
  have E:=vY.refl ρ w
  refine ⟨⟨fun y e hy=>?_,fun y z e f h1 h2 ok1 ok2 he=>?_,hh.fresh,fun bl hl=>?_,fun j bl ho=>?_,hh.lt,fun x hx=>(hh.rom x hx).mono E W⟩,W⟩
  · rw [iV] at hy
    by_cases hb:b=y
    · subst hb
      rw [if_pos rfl] at hy
      cases hy
      refine .inl ⟨hok,hl,hd,c.setIfInBounds x u,t,?_,fun y e hy=>?_⟩
      · simp [World.setCell,Array.getElem?_modify,hc]
      · obtain ⟨e0,he0⟩:=he
        obtain ⟨u0,hu0,_⟩:=hcv x e0 he0
        have hlt:x<c.size:=by
          rcases Nat.lt_or_ge x c.size with h | h
          · exact h
          · rw [Array.getElem?_eq_none h] at hu0;cases hu0
        rcases hx y e hy with ⟨rfl,hv⟩ | ⟨hne,ho⟩
        · exact ⟨u,by simp [hlt],hv.mono E W⟩
        · obtain ⟨u1,h1,h2⟩:=hcv y e ho
          exact ⟨u1,by rw [Array.getElem?_setIfInBounds,if_neg (fun q=>hne q.symm)];exact h1,h2.mono E W⟩
    · rw [if_neg hb] at hy
      rcases hh.cell y e hy with ⟨k1,k2,k3⟩ | k
      · refine .inl ⟨k1,k2,k3.mono E W ?_⟩
        simp only [World.setCell,Array.getElem?_modify]
        rw [if_neg (fun q=>hb (hh.inj b y d e hg hy hok k1 q))]
      · exact .inr k
  · have yH:∀ z g,(if b=z then some d' else bQ h z)=some g→∃ g',bQ h z=some g':=by
      intro z g hz
      by_cases q:b=z
      · subst q;exact ⟨d,hg⟩
      · rw [if_neg q] at hz;exact ⟨g,hz⟩
    rw [iV] at h1 h2
    obtain ⟨_,g1⟩:=yH y e h1
    obtain ⟨_,g2⟩:=yH z f h2
    exact hh.inj y z _ _ g1 g2 ok1 ok2 he
  · have:=hh.liveLt bl hl;simp;exact this
  · have:=hh.outLt j bl ho;simp;exact this
structure aW where
  tmps:List AV
  heap:fj
  next:Nat
structure SR (ρ:aH) (st:aW) (a:Act) (w:World):Prop where
  defers:a.defers=[]
  tmps:jk ρ w st.tmps a.tmps.toList
  heap:HR ρ w st.heap st.next
theorem jk.length{ρ:aH}{w:World} :∀ {l:List AV} {c:List Value},jk ρ w l c→l.length=c.length
  | _,_,.nil=>rfl
  | _,_,.cons _ _ _ _ _ t=>by simp [t.length]
theorem jk.get{ρ:aH}{w:World} :∀ {l:List AV} {c:List Value} (_:jk ρ w l c) (i:Nat) (v:AV),l[i]? = some v→∃ u,c[i]? = some u∧VR ρ w v u
  | _,_,.nil,i,v,e=>by simp at e
  | _,_,.cons _ u _ _ h t,0,v,e=>by simp at e;subst e;exact ⟨u,by simp,h⟩
  | _,_,.cons _ _ _ _ h t,i+1,v,e=>by simp at e ⊢;exact t.get i v e
theorem jk.set{ρ:aH}{w:World}{v:AV}{u:Value}(hv:VR ρ w v u) :∀ {l:List AV} {c:List Value} (_:jk ρ w l c) (i:Nat),jk ρ w (l.set i v) (c.set i u)
  | _,_,.nil,i=>by simp;exact .nil
  | _,_,.cons a b l c h t,0=>by simp;exact .cons _ _ _ _ hv t
  | _,_,.cons a b l c h t,i+1=>by simp;exact .cons _ _ _ _ h (t.set hv i)
theorem jk.append{ρ:aH}{w:World}{l':List AV}{c':List Value}(h':jk ρ w l' c') :∀ {l:List AV} {c:List Value} (_:jk ρ w l c),jk ρ w (l++l') (c++c')
  | _,_,.nil=>h'
  | _,_,.cons a b l c h t=>.cons _ _ _ _ h (jk.append h' t)
theorem jk.replicate{ρ:aH}{w:World}(n:Nat)(u:Value) :jk ρ w (List.replicate n .any) (List.replicate n u):=by
  induction n with
  | zero=>exact .nil
  | succ n ih=>exact .cons _ _ _ _ (.any u) ih
def v3(x y:Nat) :Nat:=(FloatKind.f64.format.add x y).getD QV
def kZ(x y:Nat) :Nat:=(FloatKind.f64.format.sub x y).getD QV
def cY(x y:Nat) :Nat:=(FloatKind.f64.format.mul x y).getD QV
def fdiv(x y:Nat) :Nat:=(FloatKind.f64.format.div x y).getD QV
def Eh(x:Nat) :Nat:=(FloatKind.f64.format.sqrt x).getD QV
def TH(x:Nat) :Nat:=x ^^^ 2^63
def yr(x y:Nat) :Option Ordering:=FloatKind.f64.format.order x y
def UE(x y:Nat) :Bool:=yr x y==some .eq
def flt(x y:Nat) :Bool:=yr x y==some .lt
def Xg(x y:Nat) :Bool:=yr x y==some .lt||yr x y==some .eq
def KT(x y:Nat) :Bool:=yr x y==some .gt
def XG(x y:Nat) :Bool:=yr x y==some .gt||yr x y==some .eq
def zI(x y:Nat) :Bool:=yr x y != some .eq
theorem FR.refl(ex:Bool)(x:Nat) :FR ex x x:=.inl rfl
theorem yu{x:Nat}(h:isNaN x=true) :∃ s t,FloatKind.f64.format.read x=.nan s t:=by
  unfold isNaN FloatKind.decode Ieee.Datum.isNaN at h
  split at h
  · rename_i s t e;exact ⟨s,t,e⟩
  · cases h
theorem DH:isNaN QV=true:=by decide +kernel
theorem TI(s:Bool)(t:Nat)(d:Ieee.Datum) :(Ieee.Datum.nan s t).sum d=none:=by cases d<;>rfl
theorem TJ(s:Bool)(t:Nat)(d:Ieee.Datum) :d.sum (.nan s t)=none:=by cases d<;>rfl
theorem Hl(s:Bool)(t:Nat)(d:Ieee.Datum) :(Ieee.Datum.nan s t).product d=none:=by cases d<;>rfl
theorem OA(s:Bool)(t:Nat)(d:Ieee.Datum) :d.product (.nan s t)=none:=by cases d<;>rfl
theorem MB(k:Nat)(s:Bool)(t:Nat)(d:Ieee.Datum) :(Ieee.Datum.nan s t).quotient k d=none:=by cases d<;>rfl
theorem MC(k:Nat)(s:Bool)(t:Nat)(d:Ieee.Datum) :d.quotient k (.nan s t)=none:=by cases d<;>rfl
theorem QX(s:Bool)(t:Nat)(d:Ieee.Datum) :(Ieee.Datum.nan s t).order d=none:=by cases d<;>rfl
theorem QY(s:Bool)(t:Nat)(d:Ieee.Datum) :d.order (.nan s t)=none:=by cases d<;>rfl
theorem Mq(op:BinOp){x y:Nat}(h:isNaN x=true∨isNaN y=true) :floatBits op .f64 x y=none:=by
  have hn:∀ {z:Nat} {P:Prop},isNaN z=true→(∀ s t,FloatKind.f64.format.read z=.nan s t→P)→P:=fun h k=>let ⟨s,t,e⟩:=yu h;k s t e
  unfold floatBits
  rcases h with h | h<;>obtain ⟨s,t,e⟩:=yu h<;>cases op <;>
    simp [Ieee.Format.add,Ieee.Format.sub,Ieee.Format.mul,Ieee.Format.div,e,TI,TJ,Hl,OA,MB,MC,Ieee.Datum.opposite]
def WS(op:BinOp)(x y:Nat) :Nat:=(floatBits op .f64 x y).getD QV
theorem WT{op:BinOp}{e1 e2:Bool}{x y x' y':Nat}(h1:FR e1 x x')(h2:FR e2 y y') :floatBits op .f64 x' y'=floatBits op .f64 x y:=by
  rcases h1 with rfl | ⟨_,n1,n1'⟩
  · rcases h2 with rfl | ⟨_,n2,n2'⟩
    · rfl
    · rw [Mq op (.inr n2),Mq op (.inr n2')]
  · rw [Mq op (.inl n1),Mq op (.inl n1')]
theorem DI{x y:Nat}(h:isNaN x=true∨isNaN y=true) :yr x y=none:=by
  unfold yr Ieee.Format.order
  rcases h with h | h<;>obtain ⟨s,t,e⟩:=yu h<;>simp [e,QX,QY]
theorem WU{e1 e2:Bool}{x y x' y':Nat}(h1:FR e1 x x')(h2:FR e2 y y') :yr x' y'=yr x y:=by
  rcases h1 with rfl | ⟨_,n1,n1'⟩
  · rcases h2 with rfl | ⟨_,n2,n2'⟩
    · rfl
    · rw [DI (.inr n2),DI (.inr n2')]
  · rw [DI (.inl n1),DI (.inl n1')]
theorem zP(x:Nat) :isNaN x=decide (9218868437227405312<x%9223372036854775808):=by
  unfold isNaN FloatKind.decode Ieee.Format.read Ieee.Datum.isNaN
  have h1:Ieee.Format.signWeight FloatKind.f64.format=9223372036854775808:=by decide
  have h2:Ieee.Format.binade FloatKind.f64.format=4503599627370496:=by decide
  have h3:Ieee.Format.infRung FloatKind.f64.format=9218868437227405312:=by decide
  simp only [h1,h2,h3]
  generalize x%9223372036854775808=r
  by_cases c1:r<4503599627370496
  · simp [c1];omega
  · by_cases c2:r<9218868437227405312
    · simp [c1,c2];omega
    · by_cases c3:r=9218868437227405312
      · simp [c3]
      · simp [c1,c2,c3];omega
theorem S6(x y t:Nat) :isNaN ((Question.nanBits .f64 x y).cut t)=true:=by
  rw [zP]
  have e:(Question.nanBits .f64 x y).cut t=t%2*2^63+0x7ff0000000000000+1+t/2%(2^52-1):=rfl
  rw [e]
  have hb:t/2%(2^52-1)<2^52-1:=Nat.mod_lt _ (by decide)
  generalize t/2%(2^52-1)=r at hb
  apply decide_eq_true
  rcases Nat.mod_two_eq_zero_or_one t with h | h<;>rw [h]<;>omega
theorem Bk{P:Program}{op:BinOp}(ho:op=.add∨op=.sub∨op=.mul∨op=.quo){e1 e2:Bool}{x y x' y':Nat}(h1:FR e1 x x')(h2:FR e2 y y')(w:World) :
    ∃ u k,(Op.floatArith op .f64 x' y').run P w=.ok (.float .f64 u) { w with drawn:=k }∧FR false (WS op x y) u:=by
  have e:=WT (op:=op) h1 h2
  have yH:∀ r,floatBits op .f64 x' y'=r→(Op.floatArith op .f64 x' y')=(match r with | some r=>pure (.float .f64 r) | none=>do pure (.float .f64 (←choose (.nanBits .f64 x' y')))):=by
    intro r hr
    subst hr
    rcases ho with rfl | rfl | rfl | rfl<;>rfl
  cases hr:floatBits op .f64 x' y' with
  | some r =>
    rw [yH _ hr]
    refine ⟨r,w.drawn,rfl,.inl ?_⟩
    rw [e] at hr;simp [WS,hr]
  | none =>
    rw [yH _ hr]
    refine ⟨_,w.drawn+1,rfl,.inr ⟨rfl,?_,S6 x' y' _⟩⟩
    rw [e] at hr;simp [WS,hr,DH]
def fq(k:IntKind)(e:Int) :Bool:=decide (k.min≤e)&&decide (e≤k.max)
def fU(i:Int)(n:Nat) :Bool:=decide (0≤i)&&decide (i<(n:Int))
def AL(i:Int)(n:Nat) :Bool:=decide (0≤i)&&decide (i≤(n:Int))
def bV:Nat→Nat→Nat
  | 0,k=>k
  | i+1,k=>i+1+k
def QZ(l:Nat) :Nat→Nat
  | 1=>l
  | s=>l*s
@[simp] theorem aB (i k:Nat):bV i k=i+k:=by cases i<;>simp [bV]
@[simp] theorem GF (l s:Nat):QZ l s=l*s:=by unfold QZ;split<;>simp_all
def JS(w es:Nat) :Option Nat:=bif Nat.beq es w then some 1 else bif Nat.beq w 1 then some es else none
theorem GG{w es s:Nat}(h:JS w es=some s) :s*w=es:=by
  unfold JS at h
  cases e1:Nat.beq es w with
  | true=>simp only [e1,cond_true] at h;cases h;have:=Nat.eq_of_beq_eq_true e1;omega
  | false =>
    simp only [e1,cond_false] at h
    cases e2:Nat.beq w 1 with
    | true=>simp only [e2,cond_true] at h;cases h;have:=Nat.eq_of_beq_eq_true e2;subst this;omega
    | false=>simp only [e2,cond_false] at h;cases h
def lk:Value→AV
  | .bool b=>.bool true b
  | .int k n=>.int k n
  | .float .f64 b=>.flt true b
  | .string s=>.str s
  | .pointer none=>.nptr
  | .slice none 0 0=>.nsl
  | .nilFunc=>.nfn
  | .nilIface=>.niface
  | _=>.any
theorem zQ(ρ:aH)(w:World)(v:Value) :VR ρ w (lk v) v:=by
  unfold lk
  split<;>first | exact .bool _ _ | exact .int _ _ | exact .flt _ _ _ (.inl rfl) | exact .str _ | exact .nptr | exact .nsl | exact .nfn | exact .niface | exact .any _
def S7:List (Nat×ba)→Nat→AV
  | [],_=>.any
  | (k,d)::l,g=>match Nat.beq k g with
    | true=>.iptr .free d 1 0 0
    | false=>S7 l g
theorem Q0{ρ:aH}{w:World}{g:Nat} :∀ {l:List (Nat×ba)},(∀ x∈l,VR ρ w (.iptr .free x.2 1 0 0) (.pointer (some ⟨x.1,0,none⟩)))→VR ρ w (S7 l g) (.pointer (some ⟨g,0,none⟩))
  | [],_=>.any _
  | (k,d)::l,h=>by
    simp only [S7]
    split
    · rename_i e
      have:=h (k,d) (by simp)
      rw [←Nat.eq_of_beq_eq_true e];exact this
    · exact Q0 fun x hx=>h x (by simp [hx])
def VY(tmps:List AV) :Operand→AV
  | .tmp t=>(tmps[t]?).getD .any
  | .const v=>lk v
  | .func f=>.fn (.func f) [] []
  | .global g=>S7 Rom.tab g
theorem MD{ρ:aH}{w:World}{tmps:List AV}{a:Act}(hr:∀ x∈Rom.tab,VR ρ w (.iptr .free x.2 1 0 0) (.pointer (some ⟨x.1,0,none⟩)))(h:jk ρ w tmps a.tmps.toList)(x:Operand) :VR ρ w (VY tmps x) (a.eval x):=by
  cases x with
  | tmp t =>
    simp only [VY,Act.eval]
    cases e:tmps[t]? with
    | none=>exact .any _
    | some v =>
      obtain ⟨u,h1,h2⟩:=h.get t v e
      have:a.tmps.getD t undef=u:=by
        rw [Array.getD_eq_getD_getElem?];rw [Array.getElem?_toList] at h1;rw [h1];rfl
      rw [this];exact h2
  | const v=>exact zQ ρ w v
  | func f=>exact .fn _ _ _ _ _ .nil .nil
  | global g=>exact Q0 hr
def Hm(k:IntKind)(e:Int) :AV×List Bool :=
  match k with
  | .i64=>(.int .i64 e,[fq .i64 e])
  | k=>(.int k (k.wrap e),[])
def Ei(op:BinOp)(k:IntKind)(x y:Int) :Int :=
  k.wrap ((match op with
    | .and=>BitVec.ofInt k.bits x &&& BitVec.ofInt k.bits y
    | .or=>BitVec.ofInt k.bits x ||| BitVec.ofInt k.bits y
    | .xor=>BitVec.ofInt k.bits x ^^^ BitVec.ofInt k.bits y
    | _=>BitVec.ofInt k.bits x &&& ~~~ BitVec.ofInt k.bits y).toNat)
def jh(a b:IntKind) :Bool:=decide (a=b)
def Xj(op:BinOp)(x y:Int) :Option Bool :=
  match op with
  | .eql=>some (x==y)
  | .neq=>some (x != y)
  | .lss=>some (decide (x<y))
  | .leq=>some (decide (x≤y))
  | .gtr=>some (decide (x>y))
  | .geq=>some (decide (x≥y))
  | _=>none
def Sc(op:BinOp)(k:IntKind)(x y:Int) :Option (AV×List Bool) :=
  match op with
  | .add=>some (Hm k (x+y))
  | .sub=>some (Hm k (x-y))
  | .mul=>some (Hm k (x*y))
  | .quo=>some ((Hm k (x.tdiv y)).1,(y != 0)::(Hm k (x.tdiv y)).2)
  | .rem=>some (.int k (x.tmod y),[y != 0])
  | .and | .or | .xor | .andNot=>some (.int k (Ei op k x y),[])
  | .shl | .shr=>none
  | op=>(Xj op x y).map fun b=>(.bool false b,[])
def Sd(op:BinOp)(x y:Nat) :Option AV :=
  match op with
  | .add=>some (.flt false (v3 x y))
  | .sub=>some (.flt false (kZ x y))
  | .mul=>some (.flt false (cY x y))
  | .quo=>some (.flt false (fdiv x y))
  | .eql=>some (.bool false (UE x y))
  | .neq=>some (.bool false (zI x y))
  | .lss=>some (.bool false (flt x y))
  | .leq=>some (.bool false (Xg x y))
  | .gtr=>some (.bool false (KT x y))
  | .geq=>some (.bool false (XG x y))
  | _=>none
def Se(op:BinOp)(x y:ByteArray) :Option (AV×List Bool) :=
  match op with
  | .add=>some (.str (x++y),[decide (x.size+y.size≤9223372036854775807)])
  | .eql=>some (.bool false (x.toList==y.toList),[])
  | .neq=>some (.bool false (!(x.toList==y.toList)),[])
  | .lss=>some (.bool false (Op.bytesLess x.toList y.toList),[])
  | .leq=>some (.bool false (Op.bytesLess x.toList y.toList||x.toList==y.toList),[])
  | .gtr=>some (.bool false (!(Op.bytesLess x.toList y.toList||x.toList==y.toList)),[])
  | .geq=>some (.bool false (!Op.bytesLess x.toList y.toList),[])
  | _=>none
def ME:AV→Option (Bool×List Bool)
  | .nsl=>some (true,[])
  | .imm _ _ _ _ _ len=>some (false,[Nat.blt 0 len])
  | .sl _ _ _ _ len _=>some (false,[Nat.blt 0 len])
  | .zsl b=>some (b,[])
  | _=>none
def IP:AV→Option (Bool×List Bool)
  | .nptr=>some (true,[])
  | .ptr .. | .iptr ..=>some (false,[])
  | _=>none
def JT(op:BinOp)(r:Option (Bool×List Bool)) :Option (AV×List Bool) :=
  match op,r with
  | .eql,some (b,o)=>some (.bool true b,o)
  | .neq,some (b,o)=>some (.bool true (!b),o)
  | _,_=>none
def PI(wr:Bool)(op:BinOp)(k:IntKind)(x y:Int) :Option (AV×List Bool) :=
  match wr,k,op with
  | true,.i64,.add=>some (.int .i64 (IntKind.i64.wrap (x+y)),[])
  | true,.i64,.sub=>some (.int .i64 (IntKind.i64.wrap (x-y)),[])
  | true,.i64,.mul=>some (.int .i64 (IntKind.i64.wrap (x*y)),[])
  | _,k,op=>Sc op k x y
def JU(P:Program)(t:TypeId) :Bool:=match P.underlying t with | some (.int _)=>true | _=>false
def Fk(P:Program)(t:TypeId) :Bool :=
  match P.underlying t with
  | some (.struct fs)=>match fs.toList with
    | [f, g] => (JU P f.type && JU P g.type) && ((Nat.beq f.offset 0 && Nat.beq g.offset 1) && ((f.name != "_" && g.name != "_") && (!P.stoodInHeld t && !P.eqGuardType P.depth t)))
    | _=>false
  | _=>false
def S8:AV→AV→Option Bool
  | .agg [.int k a,.int q b],.agg [.int k' a',.int q' b']=>bif jh k k'&&jh q q' then some (a==a'&&b==b') else none
  | _,_=>none
def V0(wr:Bool)(P:Program)(op:BinOp)(t:TypeId)(x y:AV) :Option (AV×List Bool) :=
  match op,x,y with
  | .shl,.int k a,.int _ b=>some (.int k (k.wrap (a*2^(min b.toNat k.bits))),[decide (0≤b)])
  | .shr,.int k a,.int _ b=>some (.int k (a.fdiv (2^(min b.toNat k.bits))),[decide (0≤b)])
  | op,.int k a,.int k' b=>bif jh k k' then PI wr op k a b else none
  | op,.flt _ a,.flt _ b=>(Sd op a b).map fun v=>(v,[])
  | op,.str a,.str b=>Se op a b
  | .eql,.bool _ a,.bool _ b=>match P.underlying t with | some .bool=>some (.bool false (a==b),[]) | _=>none
  | .neq,.bool _ a,.bool _ b=>match P.underlying t with | some .bool=>some (.bool false (!(a==b)),[]) | _=>none
  | .eql,.agg xs,.agg ys=>bif Fk P t then (S8 (.agg xs) (.agg ys)).map fun b=>(.bool false b,[]) else none
  | .neq,.agg xs,.agg ys=>bif Fk P t then (S8 (.agg xs) (.agg ys)).map fun b=>(.bool false (!b),[]) else none
  | op,a,.nsl=>match P.underlying t with | some (.slice _)=>JT op (ME a) | _=>none
  | op,a,.nptr=>match P.underlying t with | some (.pointer _)=>JT op (IP a) | _=>none
  | _,_,_=>none
def re(P:Program)(ρ:aH)(w:World)(s:Sem Value)(v:AV) :Prop:=∃ u k,s.run P w=.ok u { w with drawn:=k }∧VR ρ w v u
theorem re.plain{P:Program}{ρ:aH}{w:World}{s:Sem Value}{v:AV}{u:Value}(h:s.run P w=.ok u w)(hv:VR ρ w v u) :re P ρ w s v:=⟨u,w.drawn,h,hv⟩
theorem re.ret{P:Program}{ρ:aH}{w:World}{v:AV}{u:Value}(hv:VR ρ w v u) :re P ρ w (Pure.pure u) v:=.plain rfl hv
theorem UH{k:IntKind}{e:Int}(h:fq k e=true) :k.wrap e=e:=by
  simp only [fq,Bool.and_eq_true,decide_eq_true_eq] at h
  cases k<;>simp [IntKind.min,IntKind.max,IntKind.signed,IntKind.bits] at h<;>simp [IntKind.wrap,IntKind.signed,IntKind.bits]<;>(try split)<;>omega
def aY:List Bool→Prop
  | []=>True
  | b::l=>b=true∧aY l
theorem MG(ρ:aH)(w:World)(k:IntKind)(e:Int)(h:aY (Hm k e).2) :VR ρ w (Hm k e).1 (.int k (k.wrap e)):=by
  cases k<;>simp only [Hm] at h ⊢ <;> first | exact .int _ _ | (rw [UH h.1];exact .int _ _)
theorem PJ{P:Program}{ρ:aH}{w:World}{op:BinOp}{k:IntKind}{x y:Int}{v:AV}{obs:List Bool}(h:Sc op k x y=some (v,obs))(ho:aY obs)(t:TypeId) :
    re P ρ w (binOp op t (.int k x) (.int k y)) v:=by
  have nz:∀ {z:Int},(z != 0)=true→¬ z=0:=fun h e=>by subst e;simp at h
  have ar:∀ e,Hm k e=(v,obs)→VR ρ w v (.int k (k.wrap e)):=by
    intro e h
    have h1:=congrArg Prod.fst h
    have h2:=congrArg Prod.snd h
    simp only at h1 h2
    rw [←h1];exact MG ρ w k e (by rw [h2];exact ho)
  cases op<;>simp only [Sc,Xj,Option.map,Option.some.injEq,reduceCtorEq] at h
  case add=>simp only [binOp,Op.intArith,ne_eq,not_true_eq_false,if_false];exact .ret (ar _ h)
  case sub=>simp only [binOp,Op.intArith,ne_eq,not_true_eq_false,if_false];exact .ret (ar _ h)
  case mul=>simp only [binOp,Op.intArith,ne_eq,not_true_eq_false,if_false];exact .ret (ar _ h)
  case quo =>
    simp only [Prod.mk.injEq] at h;obtain ⟨rfl,rfl⟩:=h
    have:=nz ho.1
    simp only [binOp,Op.intDiv,this,if_false,ne_eq,not_true_eq_false]
    exact .ret (MG ρ w k _ ho.2)
  case rem =>
    simp only [Prod.mk.injEq] at h;obtain ⟨rfl,rfl⟩:=h
    have:=nz ho.1
    simp only [binOp,Op.intDiv,this,if_false,ne_eq,not_true_eq_false]
    exact .ret (.int _ _)
  all_goals (simp only [Prod.mk.injEq] at h;obtain ⟨rfl,rfl⟩:=h;simp only [binOp,Op.intBits,Op.intCmp,ne_eq,not_true_eq_false,if_false];first | exact .ret (.int _ _) | exact .ret (.bool _ _))
theorem PK{P:Program}{ρ:aH}{w:World}{op:BinOp}{e1 e2:Bool}{x y x' y':Nat}{v:AV}(h1:FR e1 x x')(h2:FR e2 y y')(h:Sd op x y=some v)(t:TypeId) :
    re P ρ w (binOp op t (.float .f64 x') (.float .f64 y')) v:=by
  have eo:=WU h1 h2
  unfold yr at eo
  cases op<;>simp only [Sd,Option.some.injEq,reduceCtorEq] at h<;>subst h
  case add=>obtain ⟨u,k,r,hv⟩:=Bk (P:=P) (op:=.add) (by simp) h1 h2 w;exact ⟨_,k,by simpa [binOp] using r,.flt _ _ _ hv⟩
  case sub=>obtain ⟨u,k,r,hv⟩:=Bk (P:=P) (op:=.sub) (by simp) h1 h2 w;exact ⟨_,k,by simpa [binOp] using r,.flt _ _ _ hv⟩
  case mul=>obtain ⟨u,k,r,hv⟩:=Bk (P:=P) (op:=.mul) (by simp) h1 h2 w;exact ⟨_,k,by simpa [binOp] using r,.flt _ _ _ hv⟩
  case quo=>obtain ⟨u,k,r,hv⟩:=Bk (P:=P) (op:=.quo) (by simp) h1 h2 w;exact ⟨_,k,by simpa [binOp] using r,.flt _ _ _ hv⟩
  all_goals
    simp only [binOp,Op.floatCmp,ne_eq,not_true_eq_false,if_false]
    refine .ret ?_
    simp only [UE,zI,flt,Xg,KT,XG,yr,←eo]
    exact .bool _ _
theorem PL{P:Program}{ρ:aH}{w:World}{op:BinOp}{x y:ByteArray}{v:AV}{obs:List Bool}(h:Se op x y=some (v,obs))(ho:aY obs)(t:TypeId) :
    re P ρ w (binOp op t (.string x) (.string y)) v:=by
  cases op<;>simp only [Se,Option.some.injEq,Prod.mk.injEq,reduceCtorEq] at h<;>obtain ⟨rfl,rfl⟩:=h
  case add =>
    have h1:x.size+y.size≤9223372036854775807:=of_decide_eq_true ho.1
    have h2 : ¬ ((x.size+y.size:Nat):Int)>IntKind.i64.max:=by
      have:IntKind.i64.max=9223372036854775807:=by decide
      rw [this];omega
    simp only [binOp,Op.stringOp,h2,if_false]
    exact .ret (.str _)
  all_goals (simp only [binOp,Op.stringOp];exact .ret (.bool _ _))
theorem CZ{P:Program}{t:TypeId}(hu:P.underlying t=some .bool)(d:Nat)(a b:Bool)(w:World) :(Op.equalIn (d+1) t (.bool a) (.bool b)).run P w=.ok (a==b) w:=by
  unfold Op.equalIn;simp [run_underlying hu]
theorem Q2{P:Program}{t:TypeId}(hu:P.underlying t=some .bool)(a b:Bool)(w:World) :(binOp .eql t (.bool a) (.bool b)).run P w=.ok (.bool (a==b)) w:=by
  have h:=CZ hu 9999 a b w
  show (do pure (Value.bool (←Op.equalIn 10000 t (.bool a) (.bool b))):Sem Value).run P w=_
  rw [Sem.run_bind,h];rfl
theorem Q3{P:Program}{t:TypeId}(hu:P.underlying t=some .bool)(a b:Bool)(w:World) :(binOp .neq t (.bool a) (.bool b)).run P w=.ok (.bool (!(a==b))) w:=by
  have h:=CZ hu 9999 a b w
  show (do pure (Value.bool (!(←Op.equalIn 10000 t (.bool a) (.bool b)))):Sem Value).run P w=_
  rw [Sem.run_bind,h];rfl
theorem S9{P:Program}{t:TypeId}{x y:Value}{b:Bool}{w:World}(h:∀ d,(Op.equalIn (d+1) t x y).run P w=.ok b w) :
    (do pure (Value.bool (←Op.equal t x y)):Sem Value).run P w=.ok (.bool b) w∧(do pure (Value.bool (!(←Op.equal t x y))):Sem Value).run P w=.ok (.bool (!b)) w:=by
  have h':(Op.equal t x y).run P w=.ok b w:=h 9999
  constructor<;>(rw [Sem.run_bind,h'];rfl)
theorem IQ{P:Program}{ρ:aH}{w:World}{op:BinOp}{t:TypeId}{x y:Value}{v:AV}{obs:List Bool}{r:Option (Bool×List Bool)}(h:JT op r=some (v,obs)) 
    (e1:binOp .eql t x y=(do pure (Value.bool (←Op.equal t x y)):Sem Value)) (e2:binOp .neq t x y=(do pure (Value.bool (!(←Op.equal t x y))):Sem Value))
    (hr:∀ b o,r=some (b,o)→o=obs→∀ d,(Op.equalIn (d+1) t x y).run P w=.ok b w):re P ρ w (binOp op t x y) v:=by
  unfold JT at h
  split at h
  · rename_i b o
    simp only [Option.some.injEq,Prod.mk.injEq] at h;obtain ⟨rfl,rfl⟩:=h
    rw [e1];exact .plain (S9 (hr b o rfl rfl)).1 (.bool _ _)
  · rename_i b o
    simp only [Option.some.injEq,Prod.mk.injEq] at h;obtain ⟨rfl,rfl⟩:=h
    rw [e2];exact .plain (S9 (hr b o rfl rfl)).2 (.bool _ _)
  · cases h
theorem TK{P:Program}{ρ:aH}{w:World}{t e:TypeId}(hu:P.underlying t=some (.slice e)){x:AV}{x':Value}(hx:VR ρ w x x'){b:Bool}{o:List Bool}(h:ME x=some (b,o))(ho:aY o)(d:Nat) :
    (Op.equalIn (d+1) t x' (.slice none 0 0)).run P w=.ok b w:=by
  unfold ME at h
  split at h<;>simp only [Option.some.injEq,Prod.mk.injEq,reduceCtorEq] at h<;>obtain ⟨rfl,rfl⟩:=h
  · cases hx
    unfold Op.equalIn;simp [run_underlying hu]
  · have h0:=ho.1
    cases hx with
    | imm=>unfold Op.equalIn;simp [run_underlying hu]
    | immEnd=>simp at h0
  · have h0:=ho.1
    cases hx with
    | sl=>unfold Op.equalIn;simp [run_underlying hu]
    | slEnd=>simp at h0
  · cases hx with | zsl a c=>cases a<;>(unfold Op.equalIn;simp [run_underlying hu])
theorem Sf{P:Program}{ρ:aH}{w:World}{t e:TypeId}(hu:P.underlying t=some (.pointer e)){x:AV}{x':Value}(hx:VR ρ w x x'){b:Bool}{o:List Bool}(h:IP x=some (b,o))(d:Nat) :
    (Op.equalIn (d+1) t x' (.pointer none)).run P w=.ok b w:=by
  unfold IP at h
  split at h<;>simp only [Option.some.injEq,Prod.mk.injEq,reduceCtorEq] at h<;>obtain ⟨rfl,rfl⟩:=h
  all_goals (cases hx;unfold Op.equalIn;simp [run_underlying hu])
theorem IR{ρ:aH}{w:World}{x:AV}{x':Value}(hx:VR ρ w x x'){b:Bool}{o:List Bool}(h:ME x=some (b,o)) :∃ a l c,x'=.slice a l c:=by
  unfold ME at h
  split at h<;>first | (cases hx<;>exact ⟨_,_,_,rfl⟩) | cases h
theorem Hn{ρ:aH}{w:World}{x:AV}{x':Value}(hx:VR ρ w x x'){b:Bool}{o:List Bool}(h:IP x=some (b,o)) :∃ a,x'=.pointer a:=by
  unfold IP at h
  split at h<;>first | (cases hx<;>exact ⟨_,rfl⟩) | cases h
theorem Bl{op:BinOp}{r:Option (Bool×List Bool)}{v:AV}{obs:List Bool}(h:JT op r=some (v,obs)) :∃ b,r=some (b,obs)∧(op=.eql∨op=.neq):=by
  unfold JT at h
  split at h<;>simp only [Option.some.injEq,Prod.mk.injEq,reduceCtorEq] at h<;>obtain ⟨_,rfl⟩:=h
  · exact ⟨_,rfl,.inl rfl⟩
  · exact ⟨_,rfl,.inr rfl⟩
theorem OB{P:Program}{ρ:aH}{w:World}{wr:Bool}{op:BinOp}{k:IntKind}{x y:Int}{v:AV}{obs:List Bool}(h:PI wr op k x y=some (v,obs))(ho:aY obs)(t:TypeId) :
    re P ρ w (binOp op t (.int k x) (.int k y)) v:=by
  unfold PI at h
  split at h
  · simp only [Option.some.injEq,Prod.mk.injEq] at h;obtain ⟨rfl,rfl⟩:=h
    simp only [binOp,Op.intArith,ne_eq,not_true_eq_false,if_false];exact .ret (.int _ _)
  · simp only [Option.some.injEq,Prod.mk.injEq] at h;obtain ⟨rfl,rfl⟩:=h
    simp only [binOp,Op.intArith,ne_eq,not_true_eq_false,if_false];exact .ret (.int _ _)
  · simp only [Option.some.injEq,Prod.mk.injEq] at h;obtain ⟨rfl,rfl⟩:=h
    simp only [binOp,Op.intArith,ne_eq,not_true_eq_false,if_false];exact .ret (.int _ _)
  · exact PJ h ho t
theorem KU{P:Program}{t:TypeId}(h:Fk P t=true) :P.eqGuardType P.depth t=false:=by
  unfold Fk at h
  split at h
  case h_2=>cases h
  split at h
  case h_2=>cases h
  simp only [Bool.and_eq_true,Bool.not_eq_true'] at h
  exact h.2.2.2.2
theorem zp{P:Program}{t:TypeId}(h:JU P t=true){xs:Array Value}{i:Nat}{v:Value}{w:World}(hx:xs[i]? = some v) :(part t xs i).run P w=.ok v w:=by
  unfold JU at h
  split at h
  · rename_i q hu
    simp [part,isAgg,run_underlying hu,hx]
  · cases h
theorem IS{P:Program}{t:TypeId}(h:JU P t=true){k:IntKind}{a b:Int}{w:World}(d:Nat) :(Op.equalIn (d+1) t (.int k a) (.int k b)).run P w=.ok (a==b) w:=by
  unfold JU at h
  split at h
  · rename_i q hu
    unfold Op.equalIn
    simp [run_underlying hu]
  · cases h
theorem Q4{P:Program}{t:TypeId}(h:Fk P t=true){k q:IntKind}{a b a' b':Int}{w:World}(d:Nat) :
    (Op.equalIn (d+2) t (.agg #[.int k a,.int q b]) (.agg #[.int k a',.int q b'])).run P w=.ok (a==a'&&b==b') w:=by
  unfold Fk at h
  split at h
  case h_2=>cases h
  rename_i fs hu
  split at h
  case h_2=>cases h
  rename_i f g hfs
  have hfs:fs = #[f,g]:=by rw [←fs.toArray_toList,hfs]
  subst hfs
  simp only [Bool.and_eq_true,bne_iff_ne,ne_eq,Bool.not_eq_true'] at h
  obtain ⟨⟨h1,h2⟩,⟨h3,h4⟩,⟨h5,h6⟩,h7,_⟩:=h
  have h3:=Nat.eq_of_beq_eq_true h3
  have h4:=Nat.eq_of_beq_eq_true h4
  have p1:∀ w,(part f.type #[.int k a,.int q b] 0).run P w=.ok (.int k a) w:=fun w=>zp h1 rfl
  have p2:∀ w,(part f.type #[.int k a',.int q b'] 0).run P w=.ok (.int k a') w:=fun w=>zp h1 rfl
  have p3:∀ w,(part g.type #[.int k a,.int q b] 1).run P w=.ok (.int q b) w:=fun w=>zp h2 rfl
  have p4:∀ w,(part g.type #[.int k a',.int q b'] 1).run P w=.ok (.int q b') w:=fun w=>zp h2 rfl
  rw [Op.equalIn]
  simp [run_underlying hu,h7,h5,h6,h3,h4,p1,p2,p3,p4,IS h1,IS h2]
  by_cases q1:a=a'
  · by_cases q2:b=b'<;>simp [q1,q2]
  · simp [q1]
theorem Pk{P:Program}{ρ:aH}{w:World}{t:TypeId}(ht:Fk P t=true){xs ys:List AV}{x' y':Value}(hx:VR ρ w (.agg xs) x')(hy:VR ρ w (.agg ys) y'){b:Bool}(h:S8 (.agg xs) (.agg ys)=some b)(d:Nat) :
    (Op.equalIn (d+2) t x' y').run P w=.ok b w:=by
  unfold S8 at h
  split at h
  · rename_i k a q b1 k' a' q' b' e1 e2
    cases e1;cases e2
    cases hs:(jh k k'&&jh q q') with
    | false=>rw [hs] at h;cases h
    | true =>
      rw [hs] at h;cases h
      rw [Bool.and_eq_true] at hs
      have hk:k=k':=of_decide_eq_true hs.1
      have hq:q=q':=of_decide_eq_true hs.2
      subst hk;subst hq
      have two:∀ {c:Array Value} {m n:Int},jk ρ w [.int k m,.int q n] c.toList→c = #[.int k m,.int q n]:=by
        intro c m n h
        have h:c.toList=[.int k m,.int q n]:=by
          generalize c.toList=l at h
          cases h with | cons _ u1 _ _ h1 t1 =>
          cases t1 with | cons _ u2 _ _ h2 t2 =>
          cases t2;cases h1;cases h2;rfl
        rw [←c.toArray_toList,h]
      cases hx with | agg _ c hc =>
      cases hy with | agg _ c' hc' =>
      rw [two hc,two hc']
      exact Q4 ht d
  · cases h
theorem vM{ρ:aH}{w:World}{xs:List AV}{x':Value}(hx:VR ρ w (.agg xs) x') :∃ c,x'=.agg c:=by cases hx;exact ⟨_,rfl⟩
theorem Sh{P:Program}{ρ:aH}{w:World}{op:BinOp}{t:TypeId}{x y:AV}{x' y':Value}{v:AV}{obs:List Bool}(hx:VR ρ w x x')(hy:VR ρ w y y') 
    {wr:Bool} (h:V0 wr P op t x y=some (v,obs)) (ho:aY obs):re P ρ w (binOp op t x' y') v:=by
  unfold V0 at h
  split at h
  · cases hx;cases hy
    simp only [Option.some.injEq,Prod.mk.injEq] at h;obtain ⟨rfl,rfl⟩:=h
    have:=Int.not_lt.2 (of_decide_eq_true ho.1)
    simp only [binOp,Op.shift,this,if_false]
    exact .ret (.int _ _)
  · cases hx;cases hy
    simp only [Option.some.injEq,Prod.mk.injEq] at h;obtain ⟨rfl,rfl⟩:=h
    have:=Int.not_lt.2 (of_decide_eq_true ho.1)
    simp only [binOp,Op.shift,this,if_false]
    exact .ret (.int _ _)
  · rename_i k a k' b n1 n2
    cases hx;cases hy
    cases e:jh k k' with
    | false=>rw [e] at h;cases h
    | true =>
      rw [e] at h
      have:k=k':=of_decide_eq_true e
      subst this
      exact OB h ho t
  · cases hx with | flt _ _ _ h1=>cases hy with | flt _ _ _ h2 =>
      simp only [Option.map_eq_some_iff] at h
      obtain ⟨v',h,e⟩:=h
      cases e
      exact PK h1 h2 h t
  · cases hx;cases hy
    exact PL h ho t
  · cases hx;cases hy
    split at h
    · rename_i hu
      simp only [Option.some.injEq,Prod.mk.injEq] at h;obtain ⟨rfl,rfl⟩:=h
      refine .plain (u:=.bool _) ?_ (.bool _ _)
      exact Q2 hu _ _ w
    · cases h
  · cases hx;cases hy
    split at h
    · rename_i hu
      simp only [Option.some.injEq,Prod.mk.injEq] at h;obtain ⟨rfl,rfl⟩:=h
      refine .plain (u:=.bool _) ?_ (.bool _ _)
      exact Q3 hu _ _ w
    · cases h
  · cases ht:Fk P t with
    | false=>rw [ht] at h;cases h
    | true =>
      rw [ht] at h
      simp only [cond_true,Option.map_eq_some_iff] at h
      obtain ⟨b,h,e⟩:=h
      cases e
      have hr:=Pk ht hx hy h 9998
      obtain ⟨c,rfl⟩:=vM hx
      obtain ⟨c',rfl⟩:=vM hy
      refine .plain (u:=.bool b) ?_ (.bool _ _)
      show (do pure (Value.bool (←Op.equalIn 10000 t (.agg c) (.agg c'))):Sem Value).run P w=_
      rw [Sem.run_bind,hr];rfl
  · cases ht:Fk P t with
    | false=>rw [ht] at h;cases h
    | true =>
      rw [ht] at h
      simp only [cond_true,Option.map_eq_some_iff] at h
      obtain ⟨b,h,e⟩:=h
      cases e
      have hr:=Pk ht hx hy h 9998
      obtain ⟨c,rfl⟩:=vM hx
      obtain ⟨c',rfl⟩:=vM hy
      refine .plain (u:=.bool (!b)) ?_ (.bool _ _)
      show (do pure (Value.bool (!(←Op.equalIn 10000 t (.agg c) (.agg c')))):Sem Value).run P w=_
      rw [Sem.run_bind,hr];rfl
  · split at h
    · rename_i hu
      obtain ⟨b,hr,hop⟩:=Bl h
      obtain ⟨a,l,c,rfl⟩:=IR hx hr
      cases hy
      exact IQ h rfl rfl fun b' o' q1 q2 d=>TK hu hx q1 (by rw [q2];exact ho) d
    · cases h
  · split at h
    · rename_i hu
      obtain ⟨b,hr,hop⟩:=Bl h
      obtain ⟨a,rfl⟩:=Hn hx hr
      cases hy
      exact IQ h rfl rfl fun b' o' q1 q2 d=>Sf hu hx q1 d
    · cases h
  · cases h
def XL(op:UnOp)(x:AV) :Option (AV×List Bool) :=
  match op,x with
  | .neg,.int k n=>some (Hm k (0-n))
  | .neg,.flt ex x=>some (.flt ex (TH x),[])
  | .not,.bool kn b=>some (.bool kn (!b),[])
  | .xor,.int k n=>some (.int k (Ei .xor k (if k.signed then -1 else k.max) n),[])
  | _,_=>none
def UI(P:Program)(src dst:TypeId)(x:AV) :Option (AV×List Bool) :=
  match P.underlying src,P.underlying dst,x with
  | some _,some (.int k),.int _ n=>some (.int k (k.wrap n),[])
  | some _,some (.float .f64),.int _ n=>some (.flt true (floatOfInt .f64 n),[])
  | some _,some (.int k),.flt _ x=>some (.int k ((floatToIntVal .f64 x k).getD 0),[(floatToIntVal .f64 x k).isSome])
  | some _,some (.float .f64),.flt ex x=>some (.flt ex x,[])
  | some _,some .string,.str s=>some (.str s,[])
  | _,_,_=>none
def MH(x:Option AV)(d:Int) :Option Int :=
  match x with
  | none=>some d
  | some (.int _ n)=>some n
  | some _=>none
def Si(P:Program)(t:TypeId)(x:AV)(lo hi:Option AV) :Option (AV×List Bool) :=
  match P.underlying t,x with
  | some .string,.str s =>
    match MH hi s.size,MH lo 0 with
    | some h,some l=>some (.str (s.extract l.toNat h.toNat),[AL h s.size,AL l h.toNat])
    | _,_=>none
  | some (.slice e),.nsl =>
    match MH hi 0,MH lo 0,P.info? e with
    | some h,some l,some _=>some (.nsl,[AL h 0,AL l h.toNat])
    | _,_,_=>none
  | some (.slice e),.imm bw d w es i len =>
    match MH hi len,MH lo 0,JS w es,Nat.beq es (P.cellsOf e),P.info? e with
    | some h,some l,some s,true,some _=>some (.imm bw d w es (bV i (QZ l.toNat s)) (h.toNat-l.toNat),[AL h len,AL l h.toNat])
    | _,_,_,_,_=>none
  | some (.slice e),.sl b w es i len cap =>
    match MH hi len,MH lo 0,JS w es,Nat.beq es (P.cellsOf e),P.info? e with
    | some h,some l,some s,true,some _=>some (.sl b w es (bV i (QZ l.toNat s)) (h.toNat-l.toNat) (cap-l.toNat),[AL h cap,AL l h.toNat])
    | _,_,_,_,_=>none
  | _,_=>none
def PM(P:Program)(t:TypeId)(x:AV)(lo hi mx:Option AV) :Option (AV×List Bool) :=
  match P.underlying t,x,lo,hi,mx with
  | some (.slice e),.nsl,none,some (.int _ h),some (.int _ m)=>match P.info? e with | some _=>some (.nsl,[AL m 0,AL h 0]) | none=>none
  | some (.slice e),.imm ..,none,some (.int _ h),some (.int _ m)=>match P.info? e with | some _=>some (.esl,[AL m 0,AL h 0]) | none=>none
  | some (.slice e),.sl ..,none,some (.int _ h),some (.int _ m)=>match P.info? e with | some _=>some (.esl,[AL m 0,AL h 0]) | none=>none
  | some (.slice e),.esl,none,some (.int _ h),some (.int _ m)=>match P.info? e with | some _=>some (.esl,[AL m 0,AL h 0]) | none=>none
  | _,_,_,_,_=>none
def V1(x y:Int) :Int:=if y>x then y else x
def Xk(x y:Int) :Int:=if y<x then y else x
def UJ:AV→List AV→Option AV
  | v,[]=>some v
  | .int k x,.int k' y::l=>UJ (.int k (V1 x y)) l
  | _,_=>none
def UK:AV→List AV→Option AV
  | v,[]=>some v
  | .int k x,.int k' y::l=>UK (.int k (Xk x y)) l
  | _,_=>none
def Ik(P:Program)(s:TypeId)(x:AV)(f:Nat) :Option AV :=
  match P.underlying s with
  | some (.struct fs) =>
    match fs[f]? with
    | some fd =>
      match (P.info? fd.type).map (·.size),x with
      | some (_+1),.ptr b w i j=>some (.ptr b w i (j+fd.offset))
      | some (_+1),.iptr bw d w i j=>some (.iptr bw d w i (j+fd.offset))
      | _,_=>none
    | none=>none
  | _=>none
def Q5(P:Program)(t:TypeId) :Option Bool :=
  match P.underlying t with
  | some (.struct _) | some (.array _ _)=>some true
  | some _=>some false
  | none=>none
def Ta(P:Program)(t:TypeId)(l:List AV)(off:Nat) :Option AV :=
  match Q5 P t with
  | some true=>(P.info? t).bind fun i=>bif Nat.ble (off+i.size) l.length then some (.agg ((l.drop off).take i.size)) else none
  | some false=>l[off]?
  | none=>none
def Sj(P:Program)(t:TypeId)(x:AV)(f:Nat) :Option AV :=
  match P.underlying t,x with
  | some (.struct fs),.agg l =>
    match fs[f]? with
    | some fd=>Ta P fd.type l fd.offset
    | none=>none
  | _,_=>none
def Il(P:Program)(t:TypeId)(x ix:AV) :Option (AV×List Bool) :=
  match ix with
  | .int _ k =>
    match P.underlying t,x with
    | some (.slice e),.imm bw d w es i len =>
      match JS w es,Nat.beq es (P.cellsOf e),P.info? e with
      | some s,true,some _=>some (.iptr bw d w (bV i (QZ k.toNat s)) 0,[fU k len])
      | _,_,_=>none
    | some (.slice e),.sl b w es i len cap =>
      match JS w es,Nat.beq es (P.cellsOf e),P.info? e with
      | some s,true,some _=>some (.ptr b w (bV i (QZ k.toNat s)) 0,[fU k len])
      | _,_,_=>none
    | some (.array n e),.ptr b w i j =>
      match P.info? e with
      | some ie=>some (.ptr b w i (bV j (QZ k.toNat ie.size)),[fU k n])
      | _=>none
    | some (.array n e),.iptr bw d w i j =>
      match P.info? e with
      | some ie=>some (.iptr bw d w i (bV j (QZ k.toNat ie.size)),[fU k n])
      | _=>none
    | _,_=>none
  | _=>none
def qN(s:ByteArray)(i:Nat) :Int:=((s.data[i]?).getD 0).toNat
def Sk(P:Program)(t:TypeId)(x ix:AV) :Option (AV×List Bool) :=
  match ix with
  | .int _ k =>
    match P.underlying t,x with
    | some .string,.str s=>some (.int .u8 (qN s k.toNat),[fU k s.size])
    | some (.array n e),.agg l =>
      match P.info? e with
      | some ie=>(Ta P e l (k.toNat*ie.size)).map fun v=>(v,[fU k n])
      | none=>none
    | _,_=>none
  | _=>none
def WV(P:Program)(t:TypeId)(x:AV) :Option AV :=
  match P.underlying t,x with
  | some .string,.str s=>some (.int .i64 s.size)
  | some (.array n _),_=>some (.int .i64 n)
  | some (.slice _),.nsl=>some (.int .i64 0)
  | some (.slice _),.esl=>some (.int .i64 0)
  | some (.slice _),.sl _ _ _ _ len _=>some (.int .i64 len)
  | some (.slice _),.imm _ _ _ _ _ len=>some (.int .i64 len)
  | _,_=>none
def Wz(c a b:AV) :Option AV :=
  match c,a,b with
  | .bool true true,a,_=>some a
  | .bool true false,_,b=>some b
  | .bool false c,.bool _ x,.bool _ y=>some (.bool false (bif c then x else y))
  | .bool false c,.int k x,.int k' y=>bif jh k k' then some (.int k (bif c then x else y)) else none
  | _,_,_=>none
def Ho(v:Option AV) :Option (AV×List Bool):=v.map fun v=>(v,[])
def JV(wr:Bool)(P:Program)(e:Operand→AV)(op:Op) :Option (AV×List Bool) :=
  match op with
  | .move x | .assign x=>some (e x,[])
  | .pick c a b=>Ho (Wz (e c) (e a) (e b))
  | .nilCheck x =>
    match e x with
    | .ptr b w i j=>some (.ptr b w i j,[])
    | .iptr bw d w i j=>some (.iptr bw d w i j,[])
    | .fn (.func f) l c=>some (.fn (.func f) l c,[])
    | _=>none
  | .binOp op t x y _=>V0 wr P op t (e x) (e y)
  | .unOp op _ x=>XL op (e x)
  | .convert s d x=>UI P s d (e x)
  | .makeInterface t x =>
    match P.underlying t with
    | some (.interface _) | none=>none
    | some _=>some (.iface t (e x),[])
  | .makeFunc fn first caps=>some (.fn fn (first.toList.map e) (caps.toList.map e),[])
  | .slice t x lo hi none=>Si P t (e x) (lo.map e) (hi.map e)
  | .slice t x lo hi (some mx)=>PM P t (e x) (lo.map e) (hi.map e) (some (e mx))
  | .fieldAddr s x f=>Ho (Ik P s (e x) f)
  | .field t x f=>Ho (Sj P t (e x) f)
  | .indexAddr t x ix=>Il P t (e x) (e ix)
  | .index t x ix=>Sk P t (e x) (e ix)
  | .extract x i =>
    match e x with
    | .tup l=>Ho (l[i]?)
    | _=>none
  | .call { callee:=.builtin .len,args:=xs,argTypes:=ts } =>
    match xs.toList,ts.toList with
    | [x],[t]=>Ho (WV P t (e x))
    | _,_=>none
  | .call { callee:=.builtin .max,args:=xs,argTypes:=_ } =>
    match xs.toList with
    | x::l=>Ho (UJ (e x) (l.map e))
    | _=>none
  | .call { callee:=.builtin .min,args:=xs,argTypes:=_ } =>
    match xs.toList with
    | x::l=>Ho (UK (e x) (l.map e))
    | _=>none
  | _=>none
theorem gW{P:Program}{w w':World}{s:Sem Value}{u:Value}(h:s.run P w=.ok u w') :(do pure (Next.value (←s)):Sem Next).run P w=.ok (.value u) w':=by
  rw [Sem.run_bind,h];rfl
theorem re.value{P:Program}{ρ:aH}{w:World}{s:Sem Value}{v:AV}(h:re P ρ w s v) :
    ∃ u k,(do pure (Next.value (←s)):Sem Next).run P w=.ok (.value u) { w with drawn:=k }∧VR ρ w v u :=
  let ⟨u,k,h1,h2⟩:=h;⟨u,k,gW h1,h2⟩
theorem FR.neg{ex:Bool}{x y:Nat}(h:FR ex x y) :FR ex (TH x) (TH y):=by
  rcases h with rfl | ⟨h1,h2,h3⟩
  · exact .inl rfl
  · have e:∀ x,isNaN (TH x)=isNaN x:=by
      intro x
      rw [zP,zP]
      have e1:(x ^^^ 2^63)%2^63=x%2^63:=by
        apply Nat.eq_of_testBit_eq;intro i
        simp only [Nat.testBit_mod_two_pow,Nat.testBit_xor,Nat.testBit_two_pow]
        by_cases hi:i<63
        · have : ¬ 63=i:=by omega
          simp [hi,this]
        · simp [hi]
      have e2:(9223372036854775808:Nat)=2^63:=by decide
      unfold TH
      rw [e2,e1]
    exact .inr ⟨h1,by rw [e];exact h2,by rw [e];exact h3⟩
theorem TL{P:Program}{ρ:aH}{w:World}{op:UnOp}{x:AV}{x':Value}{v:AV}{obs:List Bool}(hx:VR ρ w x x')(h:XL op x=some (v,obs))(ho:aY obs) :
    re P ρ w (Op.unary op x') v:=by
  unfold XL at h
  split at h
  · rename_i k n
    cases hx
    have h1:=congrArg Prod.fst (Option.some.inj h)
    have h2:=congrArg Prod.snd (Option.some.inj h)
    simp only at h1 h2
    simp only [Op.unary,Op.intArith]
    rw [←h1]
    exact .ret (MG ρ w k (0-n) (by rw [h2];exact ho))
  · simp only [Option.some.injEq,Prod.mk.injEq] at h;obtain ⟨rfl,rfl⟩:=h
    cases hx with | flt _ _ _ h1 =>
    exact .ret (.flt _ _ _ h1.neg)
  · simp only [Option.some.injEq,Prod.mk.injEq] at h;obtain ⟨rfl,rfl⟩:=h
    cases hx;exact .ret (.bool _ _)
  · simp only [Option.some.injEq,Prod.mk.injEq] at h;obtain ⟨rfl,rfl⟩:=h
    cases hx;exact .ret (.int _ _)
  · cases h
theorem OC{ex:Bool}{x y:Nat}{k:IntKind}(h:FR ex x y)(hs:(floatToIntVal .f64 x k).isSome=true) :y=x:=by
  rcases h with h | ⟨_,h2,_⟩
  · exact h
  · obtain ⟨s,t,e⟩:=yu h2
    unfold floatToIntVal FloatKind.decode at hs
    rw [e] at hs
    cases hs
theorem Q6{P:Program}{ρ:aH}{w:World}{src dst:TypeId}{x:AV}{x':Value}{v:AV}{obs:List Bool}(hx:VR ρ w x x')(h:UI P src dst x=some (v,obs))(ho:aY obs) :
    re P ρ w (convert src dst x') v:=by
  unfold UI at h
  split at h
  · rename_i d k q n h1 h2
    simp only [Option.some.injEq,Prod.mk.injEq] at h;obtain ⟨rfl,rfl⟩:=h
    cases hx
    refine .plain (u:=.int k (k.wrap n)) ?_ (.int _ _)
    cases d<;>simp [convert,run_underlying h1,run_underlying h2,Conv.intToInt]
  · rename_i d q n h1 h2
    simp only [Option.some.injEq,Prod.mk.injEq] at h;obtain ⟨rfl,rfl⟩:=h
    cases hx
    exact .plain (run_convert_int_float w src dst q .f64 n (by rw [h1];rfl) h2) (.flt _ _ _ (.inl rfl))
  · rename_i d k ex y h1 h2
    simp only [Option.some.injEq,Prod.mk.injEq] at h;obtain ⟨rfl,rfl⟩:=h
    cases hx with | flt _ _ z hf =>
    have e:=OC hf ho.1
    subst e
    obtain ⟨n,hn⟩:=Option.isSome_iff_exists.1 ho.1
    rw [hn]
    exact .plain (run_convert_float_int w src dst .f64 k _ n (by rw [h1];rfl) h2 hn) (.int _ _)
  · rename_i d ex y h1 h2
    simp only [Option.some.injEq,Prod.mk.injEq] at h;obtain ⟨rfl,rfl⟩:=h
    cases hx with | flt _ _ z hf =>
    refine .plain (u:=.float .f64 z) ?_ (.flt _ _ _ hf)
    exact run_convert_float_float w src dst .f64 .f64 z z (by rw [h1];rfl) h2 (by simp [floatToFloatBits])
  · rename_i d s h1 h2
    simp only [Option.some.injEq,Prod.mk.injEq] at h;obtain ⟨rfl,rfl⟩:=h
    cases hx
    refine .plain (u:=.string s) ?_ (.str _)
    cases d<;>simp [convert,run_underlying h1,run_underlying h2]
  · cases h
theorem jk.drop{ρ:aH}{w:World} :∀ (n:Nat) {l:List AV} {c:List Value},jk ρ w l c→jk ρ w (l.drop n) (c.drop n)
  | 0,_,_,h=>by simpa using h
  | n+1,_,_,.nil=>by simp;exact .nil
  | n+1,_,_,.cons _ _ _ _ _ t=>by simp;exact t.drop n
theorem jk.take{ρ:aH}{w:World} :∀ (n:Nat) {l:List AV} {c:List Value},jk ρ w l c→jk ρ w (l.take n) (c.take n)
  | 0,_,_,h=>by simp;exact .nil
  | n+1,_,_,.nil=>by simp;exact .nil
  | n+1,_,_,.cons _ _ _ _ h t=>by simp;exact .cons _ _ _ _ h (t.take n)
theorem v4{P:Program}{w:World}(k:IntKind)(i:Int)(y:Nat)(code:BoundsCode)(h:0≤i∧i≤(y:Int)) :(Instr.sliceBound (.int k i) y code).run P w=.ok i.toNat w:=by
  simp [Instr.sliceBound,asIntOf,h]
theorem vl{P:Program}{w:World}(isSlice:Bool)(len cap:Nat)(lo hi:Option Value)(l h:Int)(hl:lo=none∧l=0∨∃ k,lo=some (.int k l))(hh:hi=none∧h=len∨∃ k,hi=some (.int k h)) 
    (b1:0≤h∧h≤(cap:Int)) (b2:0≤l∧l≤h):(Instr.sliceBounds isSlice len cap lo hi none).run P w=.ok (l.toNat,h.toNat,cap) w:=by
  have e:l≤(h.toNat:Int):=by omega
  rcases hl with ⟨rfl,rfl⟩ | ⟨k,rfl⟩<;>rcases hh with ⟨rfl,rfl⟩ | ⟨k',rfl⟩
  · simp [Instr.sliceBounds]
  · simp [Instr.sliceBounds,v4 _ _ _ _ b1]
  · simp [Instr.sliceBounds,v4 _ _ _ _ (And.intro b2.1 b2.2)]
  · simp [Instr.sliceBounds,v4 _ _ _ _ b1,v4 _ _ _ _ (And.intro b2.1 e)]
theorem xW{i:Int}{n:Nat}(h:AL i n=true) :0≤i∧i≤(n:Int):=by simpa [AL] using h
theorem GH{i:Int}{n:Nat}(h:fU i n=true) :0≤i∧i<(n:Int):=by simpa [fU] using h
theorem yv{ρ:aH}{w:World}{e:Operand→AV}{g:Operand→Value}(hops:∀ x,VR ρ w (e x) (g x)){x:Option Operand}{d n:Int}(h:MH (x.map e) d=some n) :
    (x.map g=none∧n=d)∨∃ k,x.map g=some (.int k n):=by
  cases x with
  | none=>simp [MH] at h;exact .inl ⟨rfl,h.symm⟩
  | some o =>
    have hv:=hops o
    simp only [Option.map_some] at h ⊢
    generalize e o=v at h hv
    generalize g o=u at hv
    cases v<;>simp [MH] at h
    subst h
    cases hv
    exact .inr ⟨_,rfl⟩
theorem PN{P:Program}{ρ:aH}{w:World}{e:Operand→AV}{g:Operand→Value}(hops:∀ x,VR ρ w (e x) (g x)){t:TypeId}{x:AV}{x':Value}{lo hi:Option Operand}{v:AV}{obs:List Bool} 
    (hx:VR ρ w x x') (h:Si P t x (lo.map e) (hi.map e)=some (v,obs)) (ho:aY obs):re P ρ w (Instr.sliceAt t x' (lo.map g) (hi.map g) none) v:=by
  unfold Si at h
  split at h
  · rename_i s hu
    cases hx
    split at h
    · rename_i hh ll e1 e2
      simp only [Option.some.injEq,Prod.mk.injEq] at h;obtain ⟨rfl,rfl⟩:=h
      have b1:=xW ho.1
      have b2:=xW ho.2.1
      refine .plain (u:=.string (s.extract ll.toNat hh.toNat)) ?_ (.str _)
      have:=vl (P:=P) (w:=w) false s.size s.size (lo.map g) (hi.map g) ll hh (yv hops e2) (yv hops e1) b1 ⟨b2.1,by omega⟩
      simp [Instr.sliceAt,Instr.slice,run_underlying hu,this]
    · cases h
  · rename_i el hu
    cases hx
    split at h
    · rename_i hh ll i e1 e2 hs
      simp only [Option.some.injEq,Prod.mk.injEq] at h;obtain ⟨rfl,rfl⟩:=h
      have b1:=xW ho.1
      have b2:=xW ho.2.1
      refine .plain (u:=.slice none 0 0) ?_ .nsl
      have h0:hh=0:=by omega
      subst h0
      have l0:ll=0:=by simp at b2;omega
      subst l0
      have:=vl (P:=P) (w:=w) true 0 0 (lo.map g) (hi.map g) 0 0 (yv hops e2) (yv hops e1) (by omega) (by omega)
      simp [Instr.sliceAt,Instr.slice,run_underlying hu,this,run_sizeOf w hs]
    · cases h
  · rename_i el bw d k es i len hu
    split at h
    · rename_i hh ll s inf e1 e2 e3 e4 hs
      simp only [Option.some.injEq,Prod.mk.injEq] at h;obtain ⟨rfl,rfl⟩:=h
      have b1:=xW ho.1
      have b2:=xW ho.2.1
      have e5:es=P.cellsOf el:=Nat.eq_of_beq_eq_true e4
      have hst:=GG e3
      have run:∀ (a:Option Addr) (cap:Nat),len≤cap→(Instr.sliceAt t (.slice a len cap) (lo.map g) (hi.map g) none).run P w =
          .ok (.slice (if cap=ll.toNat then a else a.map (·.add (ll.toNat*P.cellsOf el))) (hh.toNat-ll.toNat) (cap-ll.toNat)) w:=by
        intro a cap hc
        have:=vl (P:=P) (w:=w) true len cap (lo.map g) (hi.map g) ll hh (yv hops e2) (yv hops e1) (by omega) ⟨b2.1,by omega⟩
        simp [Instr.sliceAt,Instr.slice,run_underlying hu,this,run_sizeOf w hs]
      cases hx with
      | imm _ _ _ _ _ _ cap bl o u ha hb hc hv hl hr hk hg =>
        refine .plain (run _ _ hl) ?_
        by_cases hz:cap=ll.toNat
        · have:hh.toNat-ll.toNat=0:=by omega
          rw [this,if_pos hz]
          exact .immEnd _ _ _ _ _ _ _ hr hk hg
        · rw [if_neg hz]
          have ea:Addr.add ⟨bl,o+i*k,none⟩ (ll.toNat*P.cellsOf el)=⟨bl,o+(i+ll.toNat*s)*k,none⟩:=by
            have:o+i*k+ll.toNat*P.cellsOf el=o+(i+ll.toNat*s)*k:=by rw [←e5,←hst,Nat.add_mul,Nat.mul_assoc];omega
            unfold Addr.add
            split
            · rename_i h0;rw [h0] at this;simp only [Nat.add_zero] at this;rw [this]
            · simp only [this]
          simp only [Option.map_some,ea,aB,GF]
          exact .imm _ _ _ _ _ _ _ bl o u ha hb hc hv (by omega) hr hk hg
      | immEnd _ _ _ _ _ cap a hr hk hg =>
        refine .plain (run _ _ (Nat.zero_le _)) ?_
        have:hh.toNat-ll.toNat=0:=by omega
        rw [this]
        exact .immEnd _ _ _ _ _ _ _ hr hk hg
    · cases h
  · rename_i el b k es i len cap hu
    split at h
    · rename_i hh ll s inf e1 e2 e3 e4 hs
      simp only [Option.some.injEq,Prod.mk.injEq] at h;obtain ⟨rfl,rfl⟩:=h
      have b1:=xW ho.1
      have b2:=xW ho.2.1
      have e5:es=P.cellsOf el:=Nat.eq_of_beq_eq_true e4
      have hst:=GG e3
      have run:∀ (a:Option Addr) (cap':Nat),cap≤cap'→len≤cap→(Instr.sliceAt t (.slice a len cap') (lo.map g) (hi.map g) none).run P w =
          .ok (.slice (if cap'=ll.toNat then a else a.map (·.add (ll.toNat*P.cellsOf el))) (hh.toNat-ll.toNat) (cap'-ll.toNat)) w:=by
        intro a cap' hc hl
        have:=vl (P:=P) (w:=w) true len cap' (lo.map g) (hi.map g) ll hh (yv hops e2) (yv hops e1) (by omega) ⟨b2.1,by omega⟩
        simp [Instr.sliceAt,Instr.slice,run_underlying hu,this,run_sizeOf w hs]
      cases hx with
      | sl _ _ _ _ _ _ cap' hb hcap hl c ty hh2 hsz =>
        refine .plain (run _ _ hcap hl) ?_
        by_cases hz:cap'=ll.toNat
        · have q1:hh.toNat-ll.toNat=0:=by omega
          have q2:cap-ll.toNat=0:=by omega
          have q3:cap'-ll.toNat=0:=by omega
          rw [q1,q2,q3]
          exact .slEnd _ _ _ _ _
        · rw [if_neg hz]
          have e6:i*k+ll.toNat*P.cellsOf el=(i+ll.toNat*s)*k:=by rw [←e5,←hst,Nat.add_mul,Nat.mul_assoc]
          have ea:Addr.add ⟨ρ.at_ b,i*k,none⟩ (ll.toNat*P.cellsOf el)=⟨ρ.at_ b,(i+ll.toNat*s)*k,none⟩:=by
            unfold Addr.add
            split
            · rename_i h0;rw [h0] at e6;simp only [Nat.add_zero] at e6;rw [e6]
            · simp only [e6]
          simp only [Option.map_some,ea,aB,GF]
          refine .sl _ _ _ _ _ _ _ hb (by omega) (by omega) c ty hh2 ?_
          rw [←e6,←e5]
          by_cases hle:ll.toNat≤cap'
          · have:ll.toNat*es+(cap'-ll.toNat)*es=cap'*es:=by rw [←Nat.add_mul];congr 1;omega
            omega
          · omega
      | slEnd _ _ _ _ a =>
        refine .plain (run _ _ (Nat.le_refl _) (Nat.le_refl _)) ?_
        have q1:hh.toNat-ll.toNat=0:=by omega
        have q2:0-ll.toNat=0:=by omega
        rw [q1,q2]
        exact .slEnd _ _ _ _ _
    · cases h
  · cases h
theorem OD{P:Program}{ρ:aH}{w:World}{e:Operand→AV}{g:Operand→Value}(hops:∀ x,VR ρ w (e x) (g x)){t:TypeId}{x:AV}{x':Value}{lo hi:Option Operand}{mx:Operand}{v:AV}{obs:List Bool} 
    (hx:VR ρ w x x') (h:PM P t x (lo.map e) (hi.map e) (some (e mx))=some (v,obs)) (ho:aY obs):re P ρ w (Instr.sliceAt t x' (lo.map g) (hi.map g) (some (g mx))) v:=by
  have yH:∀ {el:TypeId} {hh mm:Int} {k1 k2:IntKind} {inf:TypeInfo} {a:Option Addr} {len cap:Nat},P.underlying t=some (.slice el)→P.info? el=some inf→lo.map e=none→hi.map e=some (.int k1 hh)→e mx=.int k2 mm→AL mm 0=true→AL hh 0=true →
      (Instr.sliceAt t (.slice a len cap) (lo.map g) (hi.map g) (some (g mx))).run P w=.ok (.slice a 0 0) w:=by
    intro el hh mm k1 k2 inf a len cap hu hi' h1 h2 h3 b1 b2
    have b1:=xW b1
    have b2:=xW b2
    have m0:mm=0:=by omega
    have h0:hh=0:=by omega
    subst m0;subst h0
    have e1:lo=none:=by cases lo<;>simp_all
    subst e1
    have hm:=hops mx
    rw [h3] at hm
    generalize hgm:g mx=gm at hm
    cases hm
    cases hi with
    | none=>cases h2
    | some y =>
      simp only [Option.map_some,Option.some.injEq] at h2
      have hy:=hops y
      rw [h2] at hy
      generalize hgy:g y=gy at hy
      cases hy
      simp [Instr.sliceAt,Instr.slice,run_underlying hu,Instr.sliceBounds,Instr.sliceBound,asIntOf,run_sizeOf w hi',hgy]
  unfold PM at h
  split at h<;>rename_i q1 q2 q3<;>(try cases h)<;>(split at h<;>(try cases h))
  · cases hx;exact .plain (yH (by assumption) (by assumption) q1 q2 (Option.some.inj q3) ho.1 ho.2.1) .nsl
  · cases hx with
    | imm=>exact .plain (yH (by assumption) (by assumption) q1 q2 (Option.some.inj q3) ho.1 ho.2.1) (.esl _)
    | immEnd=>exact .plain (yH (by assumption) (by assumption) q1 q2 (Option.some.inj q3) ho.1 ho.2.1) (.esl _)
  · cases hx with
    | sl=>exact .plain (yH (by assumption) (by assumption) q1 q2 (Option.some.inj q3) ho.1 ho.2.1) (.esl _)
    | slEnd=>exact .plain (yH (by assumption) (by assumption) q1 q2 (Option.some.inj q3) ho.1 ho.2.1) (.esl _)
  · cases hx;exact .plain (yH (by assumption) (by assumption) q1 q2 (Option.some.inj q3) ho.1 ho.2.1) (.esl _)
theorem MI{P:Program}{ρ:aH}{w:World} :∀ {l:List AV} {v:AV} {us:List Value} {u:Value} {r:AV},VR ρ w v u→jk ρ w l us→UJ v l=some r→∃ u',(us.foldlM Builtin.max2 u).run P w=.ok u' w∧VR ρ w r u'
  | [],v,us,u,r,hv,hl,h=>by
    cases hl
    simp only [UJ,Option.some.injEq] at h;subst h
    exact ⟨u,rfl,hv⟩
  | a::l,v,us,u,r,hv,hl,h=>by
    unfold UJ at h
    split at h
    · rename_i q;cases q
    · rename_i k x k' y l' q
      cases q
      cases hv
      cases hl with | cons _ u2 _ us' h1 h2 =>
      cases h1
      obtain ⟨u',q1,q2⟩:=MI (P:=P) (VR.int (ρ:=ρ) (w:=w) k (V1 x y)) h2 h
      exact ⟨u',by rw [List.foldlM_cons,Sem.run_bind];simp only [Builtin.max2,Sem.run_pure,Result.andThen_ok];exact q1,q2⟩
    · cases h
theorem MJ{P:Program}{ρ:aH}{w:World} :∀ {l:List AV} {v:AV} {us:List Value} {u:Value} {r:AV},VR ρ w v u→jk ρ w l us→UK v l=some r→∃ u',(us.foldlM Builtin.min2 u).run P w=.ok u' w∧VR ρ w r u'
  | [],v,us,u,r,hv,hl,h=>by
    cases hl
    simp only [UK,Option.some.injEq] at h;subst h
    exact ⟨u,rfl,hv⟩
  | a::l,v,us,u,r,hv,hl,h=>by
    unfold UK at h
    split at h
    · rename_i q;cases q
    · rename_i k x k' y l' q
      cases q
      cases hv
      cases hl with | cons _ u2 _ us' h1 h2 =>
      cases h1
      obtain ⟨u',q1,q2⟩:=MJ (P:=P) (VR.int (ρ:=ρ) (w:=w) k (Xk x y)) h2 h
      exact ⟨u',by rw [List.foldlM_cons,Sem.run_bind];simp only [Builtin.min2,Sem.run_pure,Result.andThen_ok];exact q1,q2⟩
    · cases h
theorem uy(bl o n:Nat) :Addr.add ⟨bl,o,none⟩ n=⟨bl,o+n,none⟩:=by
  unfold Addr.add;split
  · rename_i h;subst h;rfl
  · rfl
theorem GI{P:Program}{w:World}{t:TypeId}{b:Bool}(h:Q5 P t=some b) :(isAgg t).run P w=.ok b w:=by
  unfold Q5 at h
  split at h
  · rename_i hu;cases h;simp [isAgg,run_underlying hu]
  · rename_i hu;cases h;simp [isAgg,run_underlying hu]
  · rename_i d n1 n2 hu
    cases h
    cases d<;>simp_all [isAgg,run_underlying hu]
  · cases h
theorem JW{P:Program}{ρ:aH}{w:World}{s:TypeId}{x:AV}{x':Value}{f:Nat}{v:AV}(hx:VR ρ w x x')(h:Ik P s x f=some v) :re P ρ w (Instr.fieldAt s x' f) v:=by
  unfold Ik at h
  split at h
  case h_2=>cases h
  rename_i fs hu
  split at h
  case h_2=>cases h
  rename_i fd hf
  have run:∀ (a:Addr) (n:Nat),(P.info? fd.type).map (·.size)=some (n+1)→(Instr.fieldAt s (.pointer (some a)) f).run P w=.ok (.pointer (some (a.add fd.offset))) w:=by
    intro a n hn
    simp only [Option.map_eq_some_iff] at hn
    obtain ⟨i,hi,hsz⟩:=hn
    have hc:P.cellsOf fd.type=n+1:=by simp [Program.cellsOf,hi,hsz]
    simp [Instr.fieldAt,run_underlying hu,hf,Instr.sureAddr,fieldPlace,run_sizeOf w hi,hc]
  split at h
  · rename_i n b k i j hn
    cases h
    cases hx with
    | ptr _ _ _ _ hb =>
      refine .plain (run _ _ hn) ?_
      rw [uy,show i*k+j+fd.offset=i*k+(j+fd.offset) from by omega]
      exact .ptr _ _ _ _ hb
  · rename_i n bw d k i j hn
    cases h
    cases hx with
    | iptr _ _ _ _ _ bl o u ha hb hc hv hr hk hg =>
      refine .plain (run _ _ hn) ?_
      rw [uy,show o+(i*k+j)+fd.offset=o+(i*k+(j+fd.offset)) from by omega]
      exact .iptr _ _ _ _ _ bl o u ha hb hc hv hr hk hg
  · cases h
theorem KV{P:Program}{ρ:aH}{w:World}{t:TypeId}{l:List AV}{c:Array Value}{off:Nat}{v:AV}(hl:jk ρ w l c.toList)(h:Ta P t l off=some v) :re P ρ w (part t c off) v:=by
  unfold Ta at h
  split at h
  · rename_i ha
    simp only [Option.bind_eq_some_iff] at h
    obtain ⟨i,hi,h⟩:=h
    cases e:Nat.ble (off+i.size) l.length with
    | false=>rw [e] at h;cases h
    | true =>
      rw [e] at h
      simp only [cond_true,Option.some.injEq] at h
      subst h
      refine .plain (u:=.agg (c.extract off (off+P.cellsOf t))) ?_ (.agg _ _ ?_)
      · simp [part,GI ha,run_sizeOf w hi]
      · have hs:P.cellsOf t=i.size:=by simp [Program.cellsOf,hi]
        rw [Array.toList_extract,hs,List.extract_eq_take_drop,Nat.add_sub_cancel_left]
        exact (hl.drop off).take i.size
  · rename_i ha
    obtain ⟨u,h1,h2⟩:=hl.get off v h
    rw [Array.getElem?_toList] at h1
    refine .plain (u:=u) ?_ h2
    simp [part,GI ha,h1]
  · cases h
theorem PO{P:Program}{ρ:aH}{w:World}{t:TypeId}{x:AV}{x':Value}{f:Nat}{v:AV}(hx:VR ρ w x x')(h:Sj P t x f=some v) :re P ρ w (Instr.field t x' f) v:=by
  unfold Sj at h
  split at h
  case h_2=>cases h
  rename_i fs l hu
  cases hx with
  | agg _ c hl =>
    split at h
    · rename_i fd hf
      obtain ⟨u,k,hr,hv⟩:=KV hl h
      exact ⟨u,k,by simp [Instr.field,run_underlying hu,hf,asAgg,hr],hv⟩
    · cases h
theorem Bm{P:Program}{w:World}{t e:TypeId}{i:TypeInfo}(hu:P.underlying t=some (.slice e))(hi:P.info? e=some i)(a:Addr)(len cap:Nat)(q:IntKind)(k:Int)(hk:0≤k∧k<(len:Int)) :
    (Instr.indexAt t (.slice (some a) len cap) (.int q k)).run P w=.ok (.pointer (some (a.add (k.toNat*P.cellsOf e)))) w:=by
  simp [Instr.indexAt,asIntOf,run_underlying hu,hk,run_sizeOf w hi]
theorem Bo{P:Program}{w:World}{t e:TypeId}{n:Nat}{i:TypeInfo}(hu:P.underlying t=some (.array n e))(hi:P.info? e=some i)(a:Addr)(q:IntKind)(k:Int)(hk:0≤k∧k<(n:Int)) :
    (Instr.indexAt t (.pointer (some a)) (.int q k)).run P w=.ok (.pointer (some (a.add (k.toNat*P.cellsOf e)))) w:=by
  simp [Instr.indexAt,asIntOf,run_underlying hu,Instr.sureAddr,hk,run_sizeOf w hi]
theorem JX{P:Program}{ρ:aH}{w:World}{t:TypeId}{x ix:AV}{x' ix':Value}{v:AV}{obs:List Bool}(hx:VR ρ w x x')(hi:VR ρ w ix ix') 
    (h:Il P t x ix=some (v,obs)) (ho:aY obs):re P ρ w (Instr.indexAt t x' ix') v:=by
  unfold Il at h
  split at h
  case h_2=>cases h
  rename_i q k
  cases hi
  split at h
  · rename_i e bw d kk es i len hu
    split at h
    case h_2=>cases h
    rename_i s inf e1 e2 e3
    simp only [Option.some.injEq,Prod.mk.injEq] at h;obtain ⟨rfl,rfl⟩:=h
    have hb:=GH ho.1
    have e4:es=P.cellsOf e:=Nat.eq_of_beq_eq_true e2
    have hst:=GG e1
    cases hx with
    | imm _ _ _ _ _ _ cap bl o u ha hbl hc hv hl hr hk hg =>
      refine .plain (Bm hu e3 _ _ _ q k hb) ?_
      have:o+i*kk+k.toNat*P.cellsOf e=o+((i+k.toNat*s)*kk+0):=by rw [←e4,←hst,Nat.add_mul,Nat.mul_assoc];omega
      rw [uy,this,aB,GF]
      exact .iptr _ _ _ _ _ bl o u ha hbl hc hv hr hk hg
    | immEnd=>omega
  · rename_i e b kk es i len cap hu
    split at h
    case h_2=>cases h
    rename_i s inf e1 e2 e3
    simp only [Option.some.injEq,Prod.mk.injEq] at h;obtain ⟨rfl,rfl⟩:=h
    have hb:=GH ho.1
    have e4:es=P.cellsOf e:=Nat.eq_of_beq_eq_true e2
    have hst:=GG e1
    cases hx with
    | sl _ _ _ _ _ _ cap' hbo hcap hl c ty hh hs =>
      refine .plain (Bm hu e3 _ _ _ q k hb) ?_
      have:i*kk+k.toNat*P.cellsOf e=(i+k.toNat*s)*kk+0:=by rw [←e4,←hst,Nat.add_mul,Nat.mul_assoc];omega
      rw [uy,this,aB,GF]
      exact .ptr _ _ _ _ hbo
    | slEnd=>omega
  · rename_i n e b kk i j hu
    split at h
    case h_2=>cases h
    rename_i ie e3
    simp only [Option.some.injEq,Prod.mk.injEq] at h;obtain ⟨rfl,rfl⟩:=h
    have hb:=GH ho.1
    have hs:P.cellsOf e=ie.size:=by simp [Program.cellsOf,e3]
    cases hx with
    | ptr _ _ _ _ hbo =>
      refine .plain (Bo hu e3 _ q k hb) ?_
      rw [uy,hs,aB,GF,Nat.add_assoc]
      exact .ptr _ _ _ _ hbo
  · rename_i n e bw d kk i j hu
    split at h
    case h_2=>cases h
    rename_i ie e3
    simp only [Option.some.injEq,Prod.mk.injEq] at h;obtain ⟨rfl,rfl⟩:=h
    have hb:=GH ho.1
    have hs:P.cellsOf e=ie.size:=by simp [Program.cellsOf,e3]
    cases hx with
    | iptr _ _ _ _ _ bl o u ha hbl hc hv hr hk hg =>
      refine .plain (Bo hu e3 _ q k hb) ?_
      rw [uy,hs,aB,GF,Nat.add_assoc,Nat.add_assoc]
      exact .iptr _ _ _ _ _ bl o u ha hbl hc hv hr hk hg
  · cases h
theorem PP{P:Program}{ρ:aH}{w:World}{t:TypeId}{x ix:AV}{x' ix':Value}{v:AV}{obs:List Bool}(hx:VR ρ w x x')(hi:VR ρ w ix ix') 
    (h:Sk P t x ix=some (v,obs)) (ho:aY obs):re P ρ w (Instr.index t x' ix') v:=by
  unfold Sk at h
  split at h
  case h_2=>cases h
  rename_i q k
  cases hi
  split at h
  · rename_i s hu
    simp only [Option.some.injEq,Prod.mk.injEq] at h;obtain ⟨rfl,rfl⟩:=h
    have hb:=GH ho.1
    cases hx
    have hlt:k.toNat<s.size:=by omega
    have hlt':k.toNat<s.data.size:=hlt
    have bQ:s[k.toNat]? = some (s.data[k.toNat]'hlt'):=by
      rw [getElem?_pos s k.toNat hlt];rfl
    refine .plain (u:=.int .u8 (qN s k.toNat)) ?_ (.int _ _)
    simp [Instr.index,asIntOf,run_underlying hu,hb.1,bQ,qN,Array.getElem?_eq_getElem hlt']
  · rename_i n e l hu
    split at h
    · rename_i ie e3
      simp only [Option.map_eq_some_iff,Prod.mk.injEq] at h
      obtain ⟨v',hp,rfl,rfl⟩:=h
      have hb:=GH ho.1
      have hs:P.cellsOf e=ie.size:=by simp [Program.cellsOf,e3]
      cases hx with
      | agg _ c hl =>
        rw [←hs] at hp
        obtain ⟨u,kk,hr,hv⟩:=KV hl hp
        exact ⟨u,kk,by simp [Instr.index,asIntOf,run_underlying hu,hb,run_sizeOf w e3,hr],hv⟩
    · cases h
  · cases h
theorem Sl{P:Program}{ρ:aH}{w:World}{t:TypeId}{x:AV}{x':Value}{v:AV}(hx:VR ρ w x x')(h:WV P t x=some v)(T:TypeId) :re P ρ w (Builtin.len_ #[t] T #[x']) v:=by
  unfold WV at h
  split at h
  · rename_i s hu;cases h;cases hx;exact .plain (u:=.int .i64 s.size) (by simp [Builtin.len_,run_underlying hu,goInt]) (.int _ _)
  · rename_i n e hu;cases h;exact .plain (u:=.int .i64 n) (by simp [Builtin.len_,run_underlying hu,goInt]) (.int _ _)
  · rename_i e hu;cases h;cases hx;exact .plain (u:=.int .i64 0) (by simp [Builtin.len_,run_underlying hu,goInt]) (.int _ _)
  · rename_i e hu;cases h;cases hx;exact .plain (u:=.int .i64 0) (by simp [Builtin.len_,run_underlying hu,goInt]) (.int _ _)
  · rename_i e b k es i len cap hu
    cases h
    cases hx<;>exact .plain (u:=.int .i64 _) (by simp [Builtin.len_,run_underlying hu,goInt]) (.int _ _)
  · rename_i e bw d k es i len hu
    cases h
    cases hx<;>exact .plain (u:=.int .i64 _) (by simp [Builtin.len_,run_underlying hu,goInt]) (.int _ _)
  · cases h
theorem jk.map{ρ:aH}{w:World}{e:Operand→AV}{g:Operand→Value}(h:∀ x,VR ρ w (e x) (g x)) :∀ l:List Operand,jk ρ w (l.map e) (l.map g)
  | []=>.nil
  | x::l=>.cons _ _ _ _ (h x) (jk.map h l)
theorem r8{v:Option AV}{u:AV}{obs:List Bool}(h:Ho v=some (u,obs)) :v=some u∧obs=[]:=by
  cases v<;>simp [Ho] at h
  exact ⟨by rw [h.1],h.2⟩
theorem rf{P:Program}{w:World}(g:Operand→Value)(b:Builtin)(xs:Array Operand)(ts:Array TypeId)(T:TypeId)(s:Sem Next) 
    (h:s=invoke (.builtin b ts T (xs.map fun | .const _=>true | _=>false)) (xs.map g)):(do let d ← resolve g { callee:=.builtin b,args:=xs,argTypes:=ts } T;invoke d.target d.args:Sem Next).run P w=s.run P w:=by
  subst h;rfl
def UL:Value→Bool
  | .int .. | .float .. | .string _ | .bool _ | .slice .. | .pointer _=>true
  | _=>false
theorem OE{P:Program}{w:World}{op:BinOp}{t:TypeId}{x y:Operand}{a b:Value}(h:UL a=true) :(eqGuard op t x y a b).run P w=.ok () w:=by
  have:eqGuard op t x y a b=pure ():=by
    unfold eqGuard
    cases a<;>first | (cases h;done) | (cases op<;>rfl)
  rw [this];rfl
theorem KW{P:Program}{w:World}{op:BinOp}{t:TypeId}{x y:Operand}{a b:Array Value}(h:P.eqGuardType P.depth t=false) :(eqGuard op t x y (.agg a) (.agg b)).run P w=.ok () w:=by
  cases op<;>first | rfl | simp [eqGuard,h]
theorem PQ{P:Program}{ρ:aH}{w:World}{e:Operand→AV}{g:Operand→Value}(hops:∀ x,VR ρ w (e x) (g x)){o:Oper}{v:AV}{obs:List Bool}{wr:Bool}(h:JV wr P e o.op=some (v,obs))(ho:aY obs) :
    ∃ u k,(execOp g o).run P w=.ok (.value u) { w with drawn:=k }∧VR ρ w v u:=by
  unfold execOp
  generalize o.type=T
  generalize o.op=op at h
  unfold JV at h
  split at h
  · simp only [Option.some.injEq,Prod.mk.injEq] at h;obtain ⟨rfl,rfl⟩:=h
    exact ⟨_,w.drawn,rfl,hops _⟩
  · simp only [Option.some.injEq,Prod.mk.injEq] at h;obtain ⟨rfl,rfl⟩:=h
    exact ⟨_,w.drawn,rfl,hops _⟩
  · rename_i c a b
    obtain ⟨h',rfl⟩:=r8 h
    clear h;have h:=h'
    have hc:=hops c;have ha:=hops a;have hb:=hops b
    simp only
    generalize e c=ec at *;generalize e a=ea at *;generalize e b=eb at *
    generalize g c=gc at *;generalize g a=ga at *;generalize g b=gb at *
    unfold Wz at h
    split at h
    · cases h;cases hc;exact ⟨ga,w.drawn,by simp [asBool],ha⟩
    · cases h;cases hc;exact ⟨gb,w.drawn,by simp [asBool],hb⟩
    · rename_i b1 k2 b2 k3 b3
      cases h;cases hc;cases ha;cases hb
      refine ⟨.bool (bif b1 then b2 else b3),w.drawn,by cases b1<;>simp [asBool],.bool _ _⟩
    · rename_i c1 k1 x k2 y
      cases hs:jh k1 k2 with
      | false=>rw [hs] at h;cases h
      | true =>
        rw [hs] at h
        have:k1=k2:=of_decide_eq_true hs
        subst this
        cases h;cases hc;cases ha;cases hb
        refine ⟨.int k1 (bif c1 then x else y),w.drawn,by cases c1<;>simp [asBool],.int _ _⟩
    · cases h
  · rename_i x
    have hx:=hops x
    simp only
    generalize e x=ex at *;generalize g x=gx at *
    split at h
    · simp only [Option.some.injEq,Prod.mk.injEq] at h;obtain ⟨rfl,rfl⟩:=h
      cases hx with | ptr _ _ _ _ hb=>exact ⟨_,w.drawn,rfl,.ptr _ _ _ _ hb⟩
    · simp only [Option.some.injEq,Prod.mk.injEq] at h;obtain ⟨rfl,rfl⟩:=h
      cases hx with | iptr _ _ _ _ _ bl o u ha hbl hc hv hr hk hg=>exact ⟨_,w.drawn,rfl,.iptr _ _ _ _ _ bl o u ha hbl hc hv hr hk hg⟩
    · simp only [Option.some.injEq,Prod.mk.injEq] at h;obtain ⟨rfl,rfl⟩:=h
      cases hx with | fn _ _ _ _ _ h1 h2=>exact ⟨_,w.drawn,rfl,.fn _ _ _ _ _ h1 h2⟩
    · cases h
  · rename_i bop t x y yt
    obtain ⟨u,k,hr,hv⟩:=Sh (hops x) (hops y) h ho
    refine ⟨u,k,?_,hv⟩
    apply gW
    have hg:(eqGuard bop t x y (g x) (g y)).run P w=.ok () w:=by
      have hx:=hops x
      have hy:=hops y
      generalize e x=ex at *;generalize e y=ey at *
      generalize g x=gx at *;generalize g y=gy at *
      clear hr
      have pl:UL gx=true→(eqGuard bop t x y gx gy).run P w=.ok () w:=OE
      unfold V0 at h
      split at h<;>first | (cases h;done) | (refine pl ?_;cases hx<;>rfl) | skip
      · cases ht:Fk P t with
        | false=>rw [ht] at h;cases h
        | true =>
          obtain ⟨c,rfl⟩:=vM hx
          obtain ⟨c',rfl⟩:=vM hy
          exact KW (KU ht)
      · cases ht:Fk P t with
        | false=>rw [ht] at h;cases h
        | true =>
          obtain ⟨c,rfl⟩:=vM hx
          obtain ⟨c',rfl⟩:=vM hy
          exact KW (KU ht)
      · split at h
        · obtain ⟨b,hr,hop⟩:=Bl h
          obtain ⟨a,l,c,e⟩:=IR hx hr
          refine pl ?_;rw [e];rfl
        · cases h
      · split at h
        · obtain ⟨b,hr,hop⟩:=Bl h
          obtain ⟨a,e⟩:=Hn hx hr
          refine pl ?_;rw [e];rfl
        · cases h
    simp only [Sem.run_bind,hg,Result.andThen_ok,hr]
  · rename_i uop t x
    obtain ⟨u,k,hr,hv⟩:=TL (P:=P) (hops x) h ho
    exact ⟨u,k,gW hr,hv⟩
  · rename_i s d x
    obtain ⟨u,k,hr,hv⟩:=Q6 (hops x) h ho
    exact ⟨u,k,gW hr,hv⟩
  · rename_i t x
    split at h
    · cases h
    · cases h
    · rename_i d n hu
      simp only [Option.some.injEq,Prod.mk.injEq] at h;obtain ⟨rfl,rfl⟩:=h
      refine ⟨.iface t (g x),w.drawn,gW ?_,.iface _ _ _ (hops x)⟩
      cases d<;>simp_all [Instr.makeInterface,run_underlying hu]
  · rename_i fn first caps
    simp only [Option.some.injEq,Prod.mk.injEq] at h;obtain ⟨rfl,rfl⟩:=h
    refine ⟨.func fn (first.map g) (caps.map g),w.drawn,gW rfl,.fn _ _ _ _ _ ?_ ?_⟩
    · simpa using jk.map hops first.toList
    · simpa using jk.map hops caps.toList
  · rename_i t x lo hi
    obtain ⟨u,k,hr,hv⟩:=PN hops (hops x) h ho
    exact ⟨u,k,gW hr,hv⟩
  · rename_i t x lo hi mx
    obtain ⟨u,k,hr,hv⟩:=OD hops (hops x) h ho
    exact ⟨u,k,gW hr,hv⟩
  · rename_i s x f
    obtain ⟨h',rfl⟩:=r8 h
    clear h;have h:=h'
    obtain ⟨u,k,hr,hv⟩:=JW (hops x) h
    exact ⟨u,k,gW hr,hv⟩
  · rename_i t x f
    obtain ⟨h',rfl⟩:=r8 h
    clear h;have h:=h'
    obtain ⟨u,k,hr,hv⟩:=PO (hops x) h
    exact ⟨u,k,gW hr,hv⟩
  · rename_i t x ix
    obtain ⟨u,k,hr,hv⟩:=JX (hops x) (hops ix) h ho
    exact ⟨u,k,gW hr,hv⟩
  · rename_i t x ix
    obtain ⟨u,k,hr,hv⟩:=PP (hops x) (hops ix) h ho
    exact ⟨u,k,gW hr,hv⟩
  · rename_i x i
    have hx:=hops x
    simp only
    generalize e x=ex at *;generalize g x=gx at *
    split at h
    · obtain ⟨h',rfl⟩:=r8 h
      clear h;have h:=h'
      cases hx with
      | tup _ c hl =>
        obtain ⟨u,h1,h2⟩:=hl.get i v h
        rw [Array.getElem?_toList] at h1
        exact ⟨u,w.drawn,gW (by simp [Instr.extract,h1]),h2⟩
    · cases h
  · rename_i xs ts
    split at h
    · rename_i x t hx ht
      obtain ⟨h',rfl⟩:=r8 h
      clear h;have h:=h'
      obtain ⟨u,k,hr,hv⟩:=Sl (hops x) h T
      refine ⟨u,k,?_,hv⟩
      have e1:xs = #[x]:=by rw [←hx]
      have e2:ts = #[t]:=by rw [←ht]
      subst e1;subst e2
      have:=gW hr
      simp only [rf g .len #[x] #[t] T _ rfl]
      simpa [invoke,builtin] using this
    · cases h
  · rename_i xs ts
    split at h
    · rename_i x l hx
      obtain ⟨h',rfl⟩:=r8 h
      obtain ⟨u,hr,hv⟩:=MI (P:=P) (hops x) (jk.map hops l) h'
      refine ⟨u,w.drawn,?_,hv⟩
      have e1:xs=(x::l).toArray:=by rw [←hx]
      subst e1
      have hr2:(Builtin.max_ ts T ((x::l).toArray.map g)).run P w=.ok u w:=by simpa [Builtin.max_] using hr
      have:=gW hr2
      simp only [rf g .max (x::l).toArray ts T _ rfl]
      simpa [invoke,builtin] using this
    · cases h
  · rename_i xs ts
    split at h
    · rename_i x l hx
      obtain ⟨h',rfl⟩:=r8 h
      obtain ⟨u,hr,hv⟩:=MJ (P:=P) (hops x) (jk.map hops l) h'
      refine ⟨u,w.drawn,?_,hv⟩
      have e1:xs=(x::l).toArray:=by rw [←hx]
      subst e1
      have hr2:(Builtin.min_ ts T ((x::l).toArray.map g)).run P w=.ok u w:=by simpa [Builtin.min_] using hr
      have:=gW hr2
      simp only [rf g .min (x::l).toArray ts T _ rfl]
      simpa [invoke,builtin] using this
    · cases h
  · cases h
def fi(i n:Nat) :Bool:=decide (i<n)
def lG.rd(c:lG)(i:Nat) :Option (AV×List Bool) :=
  match c with
  | .cf xs=>some (.flt false (xs.getD i 0),[fi i xs.length])
  | .ci k xs=>some (.int k (xs.getD i 0),[fi i xs.length])
  | .cb xs=>some (.bool false (xs.getD i false),[fi i xs.length])
  | .cs xs=>some (.str (xs.getD i .empty),[fi i xs.length])
  | .cfl xs=>some (.imm .free (.fl (xs.getD i [])) 1 1 0 (xs.getD i []).length,[fi i xs.length])
  | .cns k xs=>some (.imm .free (.ns k (xs.getD i [])) 1 1 0 (xs.getD i []).length,[fi i xs.length])
def ba.rd(d:ba)(w i j:Nat) :Option (AV×List Bool) :=
  match d with
  | .fl xs=>bif Nat.beq w 1 then some (.flt false (xs.getD (bV j i) 0),[fi (bV j i) xs.length]) else none
  | .ns k xs=>bif Nat.beq w 1 then some (.int k (xs.getD (bV j i) 0),[fi (bV j i) xs.length]) else none
  | .bs xs=>bif Nat.beq w 1 then some (.bool false (xs.getD (bV j i) false),[fi (bV j i) xs.length]) else none
  | .ss xs=>bif Nat.beq w 1 then some (.str (xs.getD (bV j i) .empty),[fi (bV j i) xs.length]) else none
  | .vs xs=>bif Nat.beq w 1 then Ho (xs[bV j i]?) else none
  | .rows w' n get=>bif Nat.beq w w'&&Nat.blt j w then some (get i j,[fi i n]) else none
  | .cols n cs=>bif Nat.beq w cs.length then (cs[j]?).bind fun c=>c.rd i else none
theorem xX{α:Type}{xs:List α}{i:Nat}{d:α}(h:fi i xs.length=true) :xs[i]? = some (xs.getD i d):=by
  have:i<xs.length:=of_decide_eq_true h
  rw [List.getD_eq_getElem?_getD,List.getElem?_eq_getElem this];rfl
theorem lG.rd_spec{c:lG}{i:Nat}{v:AV}{obs:List Bool}(h:c.rd i=some (v,obs))(ho:aY obs) :c.cell? i=some v:=by
  cases c<;>simp only [lG.rd,Option.some.injEq,Prod.mk.injEq] at h<;>obtain ⟨rfl,rfl⟩:=h
  · simp only [lG.cell?,xX (d:=0) ho.1,Option.map_some]
  · simp only [lG.cell?,xX (d:=0) ho.1,Option.map_some]
  · simp only [lG.cell?,xX (d:=false) ho.1,Option.map_some]
  · simp only [lG.cell?,xX (d:=ByteArray.empty) ho.1,Option.map_some]
  · simp only [lG.cell?,xX (d:=[]) ho.1,Option.map_some]
  · simp only [lG.cell?,xX (d:=[]) ho.1,Option.map_some]
theorem Pm{w i j:Nat}(e2:j<w) :(i*w+j)/w=i∧(i*w+j)%w=j :=
  ⟨by rw [Nat.add_comm,Nat.add_mul_div_right _ _ (by omega),Nat.div_eq_of_lt e2,Nat.zero_add],by rw [Nat.add_comm,Nat.add_mul_mod_self_right,Nat.mod_eq_of_lt e2]⟩
theorem ba.rd_spec{d:ba}{w i j:Nat}{v:AV}{obs:List Bool}(h:d.rd w i j=some (v,obs))(ho:aY obs) :d.cell? (i*w+j)=some v:=by
  have one:∀ {α:Type} {x y:α},(bif Nat.beq w 1 then some x else none)=some y→w=1∧x=y:=by
    intro α x y h
    cases e:Nat.beq w 1 with
    | true=>rw [e] at h;cases h;exact ⟨Nat.eq_of_beq_eq_true e,rfl⟩
    | false=>rw [e] at h;cases h
  cases d with
  | fl xs=>obtain ⟨e1,h'⟩:=one h;subst e1;obtain ⟨rfl,rfl⟩:=Prod.mk.inj h';have:=xX (d:=0) ho.1;simp only [aB] at this ⊢;rw [Nat.mul_one,Nat.add_comm];simp only [ba.cell?,this,Option.map_some]
  | ns k xs=>obtain ⟨e1,h'⟩:=one h;subst e1;obtain ⟨rfl,rfl⟩:=Prod.mk.inj h';have:=xX (d:=0) ho.1;simp only [aB] at this ⊢;rw [Nat.mul_one,Nat.add_comm];simp only [ba.cell?,this,Option.map_some]
  | bs xs=>obtain ⟨e1,h'⟩:=one h;subst e1;obtain ⟨rfl,rfl⟩:=Prod.mk.inj h';have:=xX (d:=false) ho.1;simp only [aB] at this ⊢;rw [Nat.mul_one,Nat.add_comm];simp only [ba.cell?,this,Option.map_some]
  | ss xs=>obtain ⟨e1,h'⟩:=one h;subst e1;obtain ⟨rfl,rfl⟩:=Prod.mk.inj h';have:=xX (d:=ByteArray.empty) ho.1;simp only [aB] at this ⊢;rw [Nat.mul_one,Nat.add_comm];simp only [ba.cell?,this,Option.map_some]
  | vs xs =>
    simp only [ba.rd] at h
    cases e:Nat.beq w 1 with
    | false=>rw [e] at h;cases h
    | true =>
      rw [e] at h
      obtain ⟨h',rfl⟩:=r8 h
      have:=Nat.eq_of_beq_eq_true e
      subst this
      simp only [aB] at h'
      rw [Nat.mul_one,Nat.add_comm];simp only [ba.cell?,h']
  | rows w' n get =>
    simp only [ba.rd] at h
    cases e:(Nat.beq w w'&&Nat.blt j w) with
    | false=>rw [e] at h;cases h
    | true =>
      rw [e] at h
      simp only [cond_true,Option.some.injEq,Prod.mk.injEq] at h;obtain ⟨rfl,rfl⟩:=h
      rw [Bool.and_eq_true] at e
      have e1:=Nat.eq_of_beq_eq_true e.1
      subst e1
      have e2:j<w:=by have:=e.2;simpa [Nat.blt_eq] using this
      have hi:i<n:=of_decide_eq_true ho.1
      have q1:(i*w+j)/w=i:=by rw [Nat.add_comm,Nat.add_mul_div_right _ _ (by omega),Nat.div_eq_of_lt e2,Nat.zero_add]
      have q2:(i*w+j)%w=j:=by rw [Nat.add_comm,Nat.add_mul_mod_self_right,Nat.mod_eq_of_lt e2]
      simp [ba.cell?,q1,q2,hi]
  | cols n cs =>
    simp only [ba.rd] at h
    cases e:Nat.beq w cs.length with
    | false=>rw [e] at h;cases h
    | true =>
      rw [e] at h
      have:=Nat.eq_of_beq_eq_true e
      subst this
      simp only [cond_true,Option.bind_eq_some_iff] at h
      obtain ⟨c,h1,h2⟩:=h
      have e2:j<cs.length:=(List.getElem?_eq_some_iff.1 h1).1
      obtain ⟨q1,q2⟩:=Pm (i:=i) e2
      simp only [ba.cell?,q1,q2,h1,Option.bind_some]
      exact lG.rd_spec h2 ho
def ba.rdN(d:ba)(w i:Nat) :Nat→Nat→Option (List AV×List Bool)
  | 0,_=>some ([],[])
  | n+1,j =>
    match d.rd w i j,d.rdN w i n (j+1) with
    | some (v,o),some (l,o')=>some (v::l,o++o')
    | _,_=>none
theorem ck{a b:List Bool} :aY (a++b)↔aY a∧aY b:=by
  induction a with
  | nil=>simp [aY]
  | cons x l ih=>simp [aY,ih,and_assoc]
theorem IT{d:ba}{w i:Nat} :∀ {n j:Nat} {l:List AV} {obs:List Bool},d.rdN w i n j=some (l,obs)→aY obs→l.length=n∧∀ x,x<n→d.cell? (i*w+j+x)=l[x]?
  | 0,j,l,obs,h,_=>by simp [ba.rdN] at h;obtain ⟨rfl,rfl⟩:=h;exact ⟨rfl,fun x hx=>by omega⟩
  | n+1,j,l,obs,h,ho=>by
    simp only [ba.rdN] at h
    split at h
    · rename_i v o l' o' h1 h2
      simp only [Option.some.injEq,Prod.mk.injEq] at h;obtain ⟨rfl,rfl⟩:=h
      rw [ck] at ho
      have s1:=ba.rd_spec h1 ho.1
      obtain ⟨s2,s3⟩:=IT h2 ho.2
      refine ⟨by simp [s2],fun x hx=>?_⟩
      cases x with
      | zero=>simpa using s1
      | succ x=>have:=s3 x (by omega);rw [show i*w+j+(x+1)=i*w+(j+1)+x from by omega];simpa using this
    · cases h
theorem Bp{P:Program}{w:World}(bl o:Nat) :∀ (n i:Nat) (us:List Value) (acc:Array Value),us.length=n→(∀ x,x<n→w.cell? ⟨bl,o+i+x,none⟩=us[x]?) →
    (loadCellsFrom ⟨bl,o,none⟩ i n acc).run P w=.ok (acc++us.toArray) w
  | 0,i,us,acc,hl,_=>by
    have:us=[]:=List.length_eq_zero_iff.1 hl
    subst this;simp [loadCellsFrom]
  | n + 1, i, us, acc, hl, h => by
    match us,hl with
    | u::us,hl =>
      have h0:=h 0 (by omega)
      simp at h0
      have ih:=Bp (P:=P) (w:=w) bl o n (i+1) us (acc.push u) (by simpa using hl) (fun x hx=>by
        have:=h (x+1) (by omega);rw [show o+(i+1)+x=o+i+(x+1) from by omega];simpa using this)
      have hld:(load (Addr.add ⟨bl,o,none⟩ i)).run P w=.ok u w:=by rw [uy];simp [load,Sem.run,h0]
      simp only [loadCellsFrom,Sem.run_bind,hld,Result.andThen_ok,ih]
      simp
theorem zR{ρ:aH}{w:World} :∀ {l:List AV} {us:List Value},us.length=l.length→(∀ (x:Nat) (v:AV) (u:Value),l[x]? = some v→us[x]? = some u→VR ρ w v u)→jk ρ w l us
  | [],[],_,_=>.nil
  | v::l,u::us,hl,h=>.cons _ _ _ _ (h 0 v u rfl rfl) (zR (by simpa using hl) fun x v u h1 h2=>h (x+1) v u (by simpa using h1) (by simpa using h2))
  | [],_::_,hl,_=>by cases hl
  | _::_,[],hl,_=>by cases hl
theorem Q7{ρ:aH}{w:World}{bl o:Nat}{d:ba}{k i n j:Nat}{l:List AV}{obs:List Bool}(hc:∀ x v,d.cell? x=some v→∃ u,w.cell? ⟨bl,o+x,none⟩=some u∧VR ρ w v u) 
    (h:d.rdN k i n j=some (l,obs)) (ho:aY obs):∃ us:List Value,us.length=n∧(∀ x,x<n→w.cell? ⟨bl,o+(i*k+j)+x,none⟩=us[x]?)∧jk ρ w l us:=by
  obtain ⟨hl,hx⟩:=IT h ho
  have each:∀ x,x<n→∃ v u,l[x]? = some v∧w.cell? ⟨bl,o+(i*k+j)+x,none⟩=some u∧VR ρ w v u:=by
    intro x hlt
    have h1:=hx x hlt
    rw [List.getElem?_eq_getElem (by omega)] at h1
    obtain ⟨u,h2,h3⟩:=hc _ _ h1
    refine ⟨l[x],u,List.getElem?_eq_getElem (by omega),?_,h3⟩
    rw [show o+(i*k+j)+x=o+(i*k+j+x) from by omega];exact h2
  refine ⟨(List.range n).map fun x=>(w.cell? ⟨bl,o+(i*k+j)+x,none⟩).getD undef,by simp,fun x hlt=>?_,zR (by simp [hl]) ?_⟩
  · obtain ⟨v,u,_,h2,_⟩:=each x hlt
    rw [List.getElem?_map,List.getElem?_range hlt];simp [h2]
  · intro x v u h1 h2
    have hlt:x<n:=by
      rcases Nat.lt_or_ge x n with q | q
      · exact q
      · rw [List.getElem?_eq_none (by omega)] at h1;cases h1
    obtain ⟨v',u',q1,q2,q3⟩:=each x hlt
    rw [List.getElem?_map,List.getElem?_range hlt] at h2
    simp [q2] at h2
    rw [h1] at q1;cases q1;subst h2;exact q3
def IU(P:Program)(g:Nat→Option ba)(t:TypeId)(x:AV) :Option (AV×List Bool×List Nat) :=
  let go (d:ba) (w i j:Nat):Option (AV×List Bool) :=
    match Q5 P t,P.info? t with
    | some true,some inf=>(d.rdN w i inf.size j).map fun r=>(.agg r.1,r.2)
    | some false,some _=>d.rd w i j
    | _,_=>none
  match x with
  | .ptr b w i j=>match g b with
    | some d=>(go d w i j).map fun r=>(r.1,r.2,[b])
    | none=>none
  | .iptr _ d w i j=>(go d w i j).map fun r=>(r.1,r.2,[])
  | _=>none
def Tb(P:Program)(ρ:aH)(w:World)(s:Sem Value)(v:AV) :Prop:=∃ u,s.run P w=.ok u w∧VR ρ w v u
theorem Tb.plain{P:Program}{ρ:aH}{w:World}{s:Sem Value}{v:AV}{u:Value}(h:s.run P w=.ok u w)(hv:VR ρ w v u) :Tb P ρ w s v:=⟨u,h,hv⟩
theorem KX{P:Program}{ρ:aH}{w:World}{h:fj}{n:Nat}(hh:HR ρ w h n){t:TypeId}{x:AV}{x':Value}{v:AV}{obs:List Bool}{rs:List Nat}(hx:VR ρ w x x') 
    (hl:IU P (bQ h) t x=some (v,obs,rs)) (ho:aY obs):Tb P ρ w (Instr.loadAt t x') v:=by
  have go:∀ (d:ba) (k i j bl o:Nat),(∀ x v,d.cell? x=some v→∃ u,w.cell? ⟨bl,o+x,none⟩=some u∧VR ρ w v u) →
      (match Q5 P t,P.info? t with
        | some true,some inf=>(d.rdN k i inf.size j).map fun r=>(AV.agg r.1,r.2)
        | some false,some _=>d.rd k i j
        | _,_=>none)=some (v,obs)→Tb P ρ w (Instr.loadAt t (.pointer (some ⟨bl,o+(i*k+j),none⟩))) v:=by
    intro d k i j bl o hc hg
    split at hg
    · rename_i inf ha hi
      simp only [Option.map_eq_some_iff,Prod.mk.injEq] at hg
      obtain ⟨⟨l,o'⟩,h1,rfl,rfl⟩:=hg
      obtain ⟨us,q1,q2,q3⟩:=Q7 hc h1 ho
      refine .plain (u:=.agg us.toArray) ?_ (.agg _ _ (by simpa using q3))
      have hs:P.cellsOf t=inf.size:=by simp [Program.cellsOf,hi]
      have:=Bp (P:=P) (w:=w) bl (o+(i*k+j)) inf.size 0 us #[] q1 (by simpa using q2)
      simp only [Instr.loadAt,Instr.sureAddr,loadVar,Sem.run_bind,Sem.run_pure,Result.andThen_ok,GI ha,if_true,run_sizeOf w hi,hs,loadCells,this]
      simp
    · rename_i inf ha hi
      have s:=ba.rd_spec hg ho
      obtain ⟨u,h2,h3⟩:=hc _ _ s
      refine .plain (u:=u) ?_ h3
      simp [Instr.loadAt,Instr.sureAddr,loadVar,GI ha,load,Sem.run,h2]
    · cases hg
  unfold IU at hl
  simp only at hl
  split at hl
  · rename_i b k i j
    split at hl
    · rename_i d hd
      simp only [Option.map_eq_some_iff,Prod.mk.injEq] at hl
      obtain ⟨⟨v',o'⟩,h1,rfl,rfl,rfl⟩:=hl
      cases hx with | ptr _ _ _ _ hok =>
      obtain ⟨_,_,c,ty,hc,hv⟩:=hh.real hd hok
      have:=go d k i j (ρ.at_ b) 0 (fun x v hx=>by
        obtain ⟨u,h1,h2⟩:=hv x v hx
        exact ⟨u,by simp [World.cell?,hc,h1],h2⟩) h1
      simpa using this
    · cases hl
  · rename_i bw d k i j
    simp only [Option.map_eq_some_iff,Prod.mk.injEq] at hl
    obtain ⟨⟨v',o'⟩,h1,rfl,rfl,rfl⟩:=hl
    cases hx with
    | iptr _ _ _ _ _ bl o u ha hb hc hv hr hk hg =>
      exact go d k i j bl o (fun x v hx=>⟨u x,hc x v hx,hv x v hx⟩) h1
  · cases hl
theorem Q8{P:Program}{ρ:aH}{w:World}{h:fj}{n:Nat}(hh:HR ρ w h n){t:TypeId}{x:AV}{x':Value}{v:AV}{obs:List Bool}{rs:List Nat}(hx:VR ρ w x x') 
    (hl:IU P (bQ h) t x=some (v,obs,rs)) (ho:aY obs):re P ρ w (Instr.loadAt t x') v :=
  let ⟨_,h1,h2⟩:=KX hh hx hl ho;.plain h1 h2
def lG.wr(c:lG)(i:Nat)(v:AV) :Option (lG×List Bool) :=
  match c,v with
  | .cf xs,.flt _ x=>some (.cf (xs.set i x),[fi i xs.length])
  | .ci k xs,.int k' x=>bif jh k k' then some (.ci k (xs.set i x),[fi i xs.length]) else none
  | .cb xs,.bool _ x=>some (.cb (xs.set i x),[fi i xs.length])
  | .cs xs,.str x=>some (.cs (xs.set i x),[fi i xs.length])
  | .cfl xs,.nsl=>some (.cfl (xs.set i []),[fi i xs.length])
  | .cfl xs,.imm l (.fl ys) 1 1 o n=>bif l.isFree then some (.cfl (xs.set i ((ys.drop o).take n)),[fi i xs.length,decide (o+n≤ys.length)]) else none
  | .cns k xs,.nsl=>some (.cns k (xs.set i []),[fi i xs.length])
  | .cns k xs,.imm l (.ns k' ys) 1 1 o n=>bif jh k k'&&l.isFree then some (.cns k (xs.set i ((ys.drop o).take n)),[fi i xs.length,decide (o+n≤ys.length)]) else none
  | _,_=>none
def ba.wr(d:ba)(w i j:Nat)(v:AV) :Option (ba×List Bool) :=
  match d,v with
  | .fl xs,.flt _ x=>bif Nat.beq w 1 then some (.fl (xs.set (bV j i) x),[fi (bV j i) xs.length]) else none
  | .ns k xs,.int k' x=>bif Nat.beq w 1&&jh k k' then some (.ns k (xs.set (bV j i) x),[fi (bV j i) xs.length]) else none
  | .bs xs,.bool _ x=>bif Nat.beq w 1 then some (.bs (xs.set (bV j i) x),[fi (bV j i) xs.length]) else none
  | .ss xs,.str x=>bif Nat.beq w 1 then some (.ss (xs.set (bV j i) x),[fi (bV j i) xs.length]) else none
  | .vs xs,v=>bif Nat.beq w 1&&Nat.blt (bV j i) xs.length then some (.vs (xs.set (bV j i) v),[]) else none
  | .rows w' n get,v=>bif Nat.beq w w'&&(Nat.blt j w&&(v.kept&&v.one)) then some (.rows w' n (fun a c=>bif Nat.beq a i&&Nat.beq c j then v else get a c),[fi i n]) else none
  | .cols n cs,v=>bif Nat.beq w cs.length then (cs[j]?).bind fun c=>(c.wr i v).map fun r=>(.cols n (cs.set j r.1),r.2) else none
  | _,_=>none
def bL(v e:AV) :Prop:=∀ (ρ:aH) (w:World) (u:Value),VR ρ w v u→VR ρ w e u
theorem bL.refl(v:AV) :bL v v:=fun _ _ _ h=>h
theorem IV{l:Lv}{ys:List Nat}{o n:Nat}(hl:l.isFree=true)(h:o+n≤ys.length) :bL (.imm l (.fl ys) 1 1 o n) (.imm .free (.fl ((ys.drop o).take n)) 1 1 0 ((ys.drop o).take n).length):=by
  intro ρ w u hv
  have hlen:((ys.drop o).take n).length=n:=by simp;omega
  rw [hlen]
  cases hv with
  | imm _ _ _ _ _ _ cap bl o' u' ha hb hc hv' hl' hr hk hg =>
    have:=VR.imm (ρ:=ρ) (w:=w) .free (.fl ((ys.drop o).take n)) 1 1 0 n cap bl (o'+o) (fun x=>u' (o+x)) (fun j hj=>xp (O:=ρ.own) hl ha j hj) hb
      (fun x v hx=>by
        simp only [ba.cell?,Option.map_eq_some_iff,List.getElem?_take,List.getElem?_drop] at hx
        obtain ⟨y,h1,h2⟩:=hx
        split at h1
        · rw [Nat.add_assoc];exact hc (o+x) v (by simp [ba.cell?,h1,h2])
        · cases h1)
      (fun x v hx=>by
        simp only [ba.cell?,Option.map_eq_some_iff,List.getElem?_take,List.getElem?_drop] at hx
        obtain ⟨y,h1,h2⟩:=hx
        split at h1
        · exact hv' (o+x) v (by simp [ba.cell?,h1,h2])
        · cases h1) hl' trivial (fun _=>rfl) rfl
    simpa using this
  | immEnd=>exact .immEnd _ _ _ _ _ _ _ trivial (fun _=>rfl) rfl
theorem IW{l:Lv}{k:IntKind}{ys:List Int}{o n:Nat}(hl:l.isFree=true)(h:o+n≤ys.length) :bL (.imm l (.ns k ys) 1 1 o n) (.imm .free (.ns k ((ys.drop o).take n)) 1 1 0 ((ys.drop o).take n).length):=by
  intro ρ w u hv
  have hlen:((ys.drop o).take n).length=n:=by simp;omega
  rw [hlen]
  cases hv with
  | imm _ _ _ _ _ _ cap bl o' u' ha hb hc hv' hl' hr hk hg =>
    have:=VR.imm (ρ:=ρ) (w:=w) .free (.ns k ((ys.drop o).take n)) 1 1 0 n cap bl (o'+o) (fun x=>u' (o+x)) (fun j hj=>xp (O:=ρ.own) hl ha j hj) hb
      (fun x v hx=>by
        simp only [ba.cell?,Option.map_eq_some_iff,List.getElem?_take,List.getElem?_drop] at hx
        obtain ⟨y,h1,h2⟩:=hx
        split at h1
        · rw [Nat.add_assoc];exact hc (o+x) v (by simp [ba.cell?,h1,h2])
        · cases h1)
      (fun x v hx=>by
        simp only [ba.cell?,Option.map_eq_some_iff,List.getElem?_take,List.getElem?_drop] at hx
        obtain ⟨y,h1,h2⟩:=hx
        split at h1
        · exact hv' (o+x) v (by simp [ba.cell?,h1,h2])
        · cases h1) hl' trivial (fun _=>rfl) rfl
    simpa using this
  | immEnd=>exact .immEnd _ _ _ _ _ _ _ trivial (fun _=>rfl) rfl
theorem C1(d:ba)(hr:d.recKept)(hk:d.kept=true)(hg:d.foreign=true) :bL .nsl (.imm .free d 1 1 0 0):=by
  intro ρ w u hv;cases hv;exact .immEnd _ _ _ _ _ _ _ hr (fun _=>hk) hg
def ba.weak(d:ba)(v:AV) :AV :=
  match d,v with
  | .fl _,.flt _ x=>.flt false x
  | .bs _,.bool _ x=>.bool false x
  | _,v=>v
theorem zq{d:ba}{v:AV} :bL v (d.weak v):=by
  intro ρ w u h
  unfold ba.weak
  split
  · cases h with | flt _ _ y hf =>
    refine .flt _ _ _ ?_
    rcases hf with rfl | ⟨_,h2,h3⟩
    · exact .inl rfl
    · exact .inr ⟨rfl,h2,h3⟩
  · cases h;exact .bool _ _
  · exact h
theorem C2{α:Type}{f:α→AV}{xs:List α}{i:Nat}{x:α}(hi:i<xs.length) :
    (∃ e,(xs[i]?).map f=some e)∧∀ y e,((xs.set i x)[y]?).map f=some e→(y=i∧e=f x)∨(y≠i∧(xs[y]?).map f=some e):=by
  refine ⟨⟨f xs[i],by simp [hi]⟩,fun y e h=>?_⟩
  rw [List.getElem?_set] at h
  by_cases hy:i=y
  · subst hy;simp [hi] at h;exact .inl ⟨rfl,h.symm⟩
  · rw [if_neg hy] at h;exact .inr ⟨fun q=>hy q.symm,h⟩
theorem lG.wr_spec{c c':lG}{i:Nat}{v:AV}{obs:List Bool}(h:c.wr i v=some (c',obs))(ho:aY obs) :
    (∃ e,c.cell? i=some e)∧(∀ y e,c'.cell? y=some e→(y=i∧bL v e)∨(y≠i∧c.cell? y=some e)):=by
  have Fh:∀ {α:Type} {f:α→AV} {xs:List α} {x:α},fi i xs.length=true→bL v (f x)→(∃ e,(xs[i]?).map f=some e)∧∀ y e,((xs.set i x)[y]?).map f=some e→(y=i∧bL v e)∨(y≠i∧(xs[y]?).map f=some e):=by
    intro α f xs x h1 h2
    obtain ⟨q1,q2⟩:=C2 (f:=f) (x:=x) (of_decide_eq_true h1:i<xs.length)
    exact ⟨q1,fun y e hy=>(q2 y e hy).imp (fun q=>⟨q.1,by rw [q.2];exact h2⟩) id⟩
  unfold lG.wr at h
  split at h
  · simp only [Option.some.injEq,Prod.mk.injEq] at h;obtain ⟨rfl,rfl⟩:=h
    exact Fh ho.1 (zq (d:=.fl []))
  · rename_i k xs k' x
    cases e:jh k k' with
    | false=>rw [e] at h;cases h
    | true =>
      rw [e] at h;simp only [cond_true,Option.some.injEq,Prod.mk.injEq] at h;obtain ⟨rfl,rfl⟩:=h
      have hk:k=k':=of_decide_eq_true e
      subst hk
      exact Fh ho.1 (bL.refl _)
  · simp only [Option.some.injEq,Prod.mk.injEq] at h;obtain ⟨rfl,rfl⟩:=h
    exact Fh ho.1 (zq (d:=.bs []))
  · simp only [Option.some.injEq,Prod.mk.injEq] at h;obtain ⟨rfl,rfl⟩:=h
    exact Fh ho.1 (bL.refl _)
  · simp only [Option.some.injEq,Prod.mk.injEq] at h;obtain ⟨rfl,rfl⟩:=h
    exact Fh (f:=fun l=>.imm .free (.fl l) 1 1 0 l.length) ho.1 (C1 _ trivial rfl rfl)
  · rename_i xs l ys o n
    cases e:l.isFree with
    | false=>rw [e] at h;cases h
    | true =>
      rw [e] at h;simp only [cond_true,Option.some.injEq,Prod.mk.injEq] at h;obtain ⟨rfl,rfl⟩:=h
      exact Fh (f:=fun l=>.imm .free (.fl l) 1 1 0 l.length) ho.1 (IV e (of_decide_eq_true ho.2.1))
  · simp only [Option.some.injEq,Prod.mk.injEq] at h;obtain ⟨rfl,rfl⟩:=h
    exact Fh (f:=fun l=>.imm .free (.ns _ l) 1 1 0 l.length) ho.1 (C1 _ trivial rfl rfl)
  · rename_i k xs l k' ys o n
    cases e:(jh k k'&&l.isFree) with
    | false=>rw [e] at h;cases h
    | true =>
      rw [e] at h;simp only [cond_true,Option.some.injEq,Prod.mk.injEq] at h;obtain ⟨rfl,rfl⟩:=h
      rw [Bool.and_eq_true] at e
      have hk:k=k':=of_decide_eq_true e.1
      subst hk
      exact Fh (f:=fun l=>.imm .free (.ns k l) 1 1 0 l.length) ho.1 (IW e.2 (of_decide_eq_true ho.2.1))
  · cases h
theorem Sn{c c':lG}{i:Nat}{v:AV}{obs:List Bool}(h:c.wr i v=some (c',obs)) :c'.len=c.len:=by
  unfold lG.wr at h
  split at h
  case h_2 =>
    rename_i k xs k' x
    cases e:jh k k'<;>rw [e] at h<;>cases h
    simp [lG.len]
  case h_6 =>
    rename_i xs l ys o n
    cases e:l.isFree<;>rw [e] at h<;>cases h
    simp [lG.len]
  case h_8 =>
    rename_i k xs l k' ys o n
    cases e:(jh k k'&&l.isFree)<;>rw [e] at h<;>cases h
    simp [lG.len]
  all_goals first | (cases h;simp [lG.len];done) | cases h
theorem ba.wr_spec{d d':ba}{w i j:Nat}{v:AV}{obs:List Bool}(hrk:d.recKept)(h:d.wr w i j v=some (d',obs))(ho:aY obs) :
    d'.recKept∧(∃ e,d.cell? (i*w+j)=some e)∧(∀ y e,d'.cell? y=some e→(y=i*w+j∧bL v e)∨(y≠i*w+j∧d.cell? y=some e)):=by
  have old:∀ {e0:AV} {A:Prop},(d'.recKept∧(∃ e,d.cell? (i*w+j)=some e)∧(∀ y e,d'.cell? y=some e→(y=i*w+j∧e=d.weak v)∨(y≠i*w+j∧d.cell? y=some e))) →
      d'.recKept∧(∃ e,d.cell? (i*w+j)=some e)∧(∀ y e,d'.cell? y=some e→(y=i*w+j∧bL v e)∨(y≠i*w+j∧d.cell? y=some e)) :=
    fun q=>⟨q.1,q.2.1,fun y e hy=>(q.2.2 y e hy).imp (fun r=>⟨r.1,by rw [r.2];exact zq⟩) id⟩
  have lt:∀ {n:Nat},fi (bV j i) n=true→j+i<n:=fun h=>by have:=of_decide_eq_true h;simpa using this
  unfold ba.wr at h
  split at h
  · rename_i xs ex x
    refine old (e0:=.any) (A:=True) ?_
    cases e:Nat.beq w 1 with
    | false=>rw [e] at h;cases h
    | true =>
      rw [e] at h;simp only [cond_true,Option.some.injEq,Prod.mk.injEq] at h;obtain ⟨rfl,rfl⟩:=h
      have:=Nat.eq_of_beq_eq_true e;subst this
      obtain ⟨h1,h2⟩:=C2 (f:=AV.flt false) (x:=x) (lt ho.1)
      rw [Nat.mul_one,Nat.add_comm i j]
      exact ⟨trivial,h1,by simpa [ba.cell?,ba.weak] using h2⟩
  · rename_i k xs k' x
    refine old (e0:=.any) (A:=True) ?_
    cases e:(Nat.beq w 1&&jh k k') with
    | false=>rw [e] at h;cases h
    | true =>
      rw [e] at h;simp only [cond_true,Option.some.injEq,Prod.mk.injEq] at h;obtain ⟨rfl,rfl⟩:=h
      rw [Bool.and_eq_true] at e
      have:=Nat.eq_of_beq_eq_true e.1;subst this
      have hk:k=k':=of_decide_eq_true e.2
      subst hk
      obtain ⟨h1,h2⟩:=C2 (f:=AV.int k) (x:=x) (lt ho.1)
      rw [Nat.mul_one,Nat.add_comm i j]
      exact ⟨trivial,h1,by simpa [ba.cell?,ba.weak] using h2⟩
  · rename_i xs kn x
    refine old (e0:=.any) (A:=True) ?_
    cases e:Nat.beq w 1 with
    | false=>rw [e] at h;cases h
    | true =>
      rw [e] at h;simp only [cond_true,Option.some.injEq,Prod.mk.injEq] at h;obtain ⟨rfl,rfl⟩:=h
      have:=Nat.eq_of_beq_eq_true e;subst this
      obtain ⟨h1,h2⟩:=C2 (f:=AV.bool false) (x:=x) (lt ho.1)
      rw [Nat.mul_one,Nat.add_comm i j]
      exact ⟨trivial,h1,by simpa [ba.cell?,ba.weak] using h2⟩
  · rename_i xs x
    refine old (e0:=.any) (A:=True) ?_
    cases e:Nat.beq w 1 with
    | false=>rw [e] at h;cases h
    | true =>
      rw [e] at h;simp only [cond_true,Option.some.injEq,Prod.mk.injEq] at h;obtain ⟨rfl,rfl⟩:=h
      have:=Nat.eq_of_beq_eq_true e;subst this
      obtain ⟨h1,h2⟩:=C2 (f:=AV.str) (x:=x) (lt ho.1)
      rw [Nat.mul_one,Nat.add_comm i j]
      exact ⟨trivial,h1,by simpa [ba.cell?,ba.weak] using h2⟩
  · rename_i xs
    refine old (e0:=.any) (A:=True) ?_
    cases e:(Nat.beq w 1&&Nat.blt (bV j i) xs.length) with
    | false=>rw [e] at h;cases h
    | true =>
      rw [e] at h;simp only [cond_true,Option.some.injEq,Prod.mk.injEq] at h;obtain ⟨rfl,rfl⟩:=h
      rw [Bool.and_eq_true] at e
      have:=Nat.eq_of_beq_eq_true e.1;subst this
      have e2:j+i<xs.length:=by have:=e.2;simpa [Nat.blt_eq] using this
      obtain ⟨h1,h2⟩:=C2 (f:=id) (x:=v) e2
      rw [Nat.mul_one,Nat.add_comm i j]
      simp at h1 h2
      refine ⟨trivial,?_,?_⟩
      · exact ⟨_,List.getElem?_eq_getElem e2⟩
      · simpa [ba.cell?,ba.weak] using h2
  · rename_i w' n get
    refine old (e0:=.any) (A:=True) ?_
    cases e:(Nat.beq w w'&&(Nat.blt j w&&(v.kept&&v.one))) with
    | false=>rw [e] at h;cases h
    | true =>
      rw [e] at h;simp only [cond_true,Option.some.injEq,Prod.mk.injEq] at h;obtain ⟨rfl,rfl⟩:=h
      simp only [Bool.and_eq_true] at e
      obtain ⟨e1,e2,e3,e4⟩:=e
      have:=Nat.eq_of_beq_eq_true e1
      subst this
      have e2:j<w:=by simpa [Nat.blt_eq] using e2
      have hi:i<n:=of_decide_eq_true ho.1
      have q1:(i*w+j)/w=i:=by rw [Nat.add_comm,Nat.add_mul_div_right _ _ (by omega),Nat.div_eq_of_lt e2,Nat.zero_add]
      have q2:(i*w+j)%w=j:=by rw [Nat.add_comm,Nat.add_mul_mod_self_right,Nat.mod_eq_of_lt e2]
      refine ⟨fun a c=>?_,⟨get i j,by simp [ba.cell?,q1,q2,hi]⟩,fun y e' hy=>?_⟩
      · cases e5:(Nat.beq a i&&Nat.beq c j) with
        | true=>simp only [e5,cond_true];exact ⟨e3,e4⟩
        | false=>simp only [e5,cond_false];exact hrk a c
      · simp only [ba.cell?] at hy ⊢
        split at hy
        · rename_i hlt
          by_cases hy2:y=i*w+j
          · subst hy2
            simp only [q1,q2,Nat.beq_refl,Bool.and_self,cond_true,Option.some.injEq] at hy
            exact .inl ⟨rfl,hy.symm⟩
          · refine .inr ⟨hy2,?_⟩
            rw [if_pos hlt]
            cases e5:(Nat.beq (y/w) i&&Nat.beq (y%w) j) with
            | true =>
              rw [Bool.and_eq_true] at e5
              have a1:=Nat.eq_of_beq_eq_true e5.1
              have a2:=Nat.eq_of_beq_eq_true e5.2
              have:=Nat.div_add_mod y w
              rw [a1,a2,Nat.mul_comm] at this
              exact absurd this.symm hy2
            | false=>rw [e5] at hy;exact hy
        · cases hy
  · rename_i n cs
    cases e:Nat.beq w cs.length with
    | false=>rw [e] at h;cases h
    | true =>
      rw [e] at h
      have:=Nat.eq_of_beq_eq_true e
      subst this
      simp only [cond_true,Option.bind_eq_some_iff,Option.map_eq_some_iff,Prod.mk.injEq] at h
      obtain ⟨c,h1,⟨c',o'⟩,h2,rfl,rfl⟩:=h
      have e2:j<cs.length:=(List.getElem?_eq_some_iff.1 h1).1
      obtain ⟨q1,q2⟩:=Pm (i:=i) e2
      obtain ⟨r1,r2⟩:=lG.wr_spec h2 ho
      obtain ⟨e0,he0⟩:=r1
      have hl:=Sn h2
      refine ⟨fun x hx=>?_,⟨e0,by simp [ba.cell?,q1,q2,h1,he0]⟩,fun y e' hy=>?_⟩
      · rcases List.mem_or_eq_of_mem_set hx with q | rfl
        · exact hrk x q
        · rw [hl];exact hrk c (List.mem_of_getElem? h1)
      simp only [ba.cell?,List.length_set,Option.bind_eq_some_iff] at hy ⊢
      obtain ⟨c2,h3,h4⟩:=hy
      rw [List.getElem?_set] at h3
      have hdm:=Nat.div_add_mod y cs.length
      by_cases hj:j=y%cs.length
      · rw [if_pos hj,if_pos e2] at h3
        cases h3
        rcases r2 _ _ h4 with ⟨a1,a2⟩ | ⟨a1,a2⟩
        · refine .inl ⟨?_,a2⟩
          rw [a1,←hj,Nat.mul_comm] at hdm;exact hdm.symm
        · refine .inr ⟨fun q=>a1 (by rw [q];exact q1),c,by rw [←hj];exact h1,a2⟩
      · rw [if_neg hj] at h3
        exact .inr ⟨fun q=>hj (by rw [q];exact q2.symm),c2,h3,h4⟩
  · cases h
def ba.wrN(d:ba)(w i:Nat) :List AV→Nat→Option (ba×List Bool)
  | [],_=>some (d,[])
  | v::l,j =>
    match d.wr w i j v with
    | some (d',o) =>
      match d'.wrN w i l (j+1) with
      | some (d'',o')=>some (d'',o++o')
      | none=>none
    | none=>none
def AV.cells(v:AV) :Option (List AV) :=
  match v with
  | .agg l=>bif nN l then some l else none
  | v=>bif v.one then some [v] else none
theorem UM{ρ:aH}{w:World}{v:AV}{u:Value}(h:VR ρ w v u)(ho:v.one=true) :(∀ c,u ≠ .agg c)∧(∀ c,u ≠ .tuple c)∧u.cells = #[u]:=by
  cases h<;>simp [AV.one] at ho<;>simp [Value.cells]
theorem MK{ρ:aH}{w:World}{v:AV}{u:Value}{l:List AV}(h:VR ρ w v u)(hc:v.cells=some l) :jk ρ w l u.cells.toList∧nN l=true:=by
  unfold AV.cells at hc
  split at hc
  · rename_i l'
    cases e:nN l' with
    | false=>rw [e] at hc;cases hc
    | true=>rw [e] at hc;cases hc;cases h with | agg _ c hl=>exact ⟨by simpa [Value.cells] using hl,e⟩
  · cases e:v.one with
    | false=>rw [e] at hc;cases hc
    | true =>
      rw [e] at hc;cases hc
      obtain ⟨_,_,h3⟩:=UM h e
      rw [h3]
      exact ⟨.cons _ _ _ _ h .nil,by simp [nN,e]⟩
theorem TM{P:Program}{w:World}{a:Addr}{u:Value}(h1:∀ c,u ≠ .agg c)(h2:∀ c,u ≠ .tuple c){x:Value}(hc:w.cell? a=some x)(hf:w.frozen? a=false) :
    (store a u).run P w=.ok () (w.setCell a u):=by
  unfold store
  cases u<;>first | exact absurd rfl (h1 _) | exact absurd rfl (h2 _) | simp [Sem.run,hc,hf]
theorem zS{P:Program}{ρ:aH} :∀ {us:List Value} {l:List AV} {w:World} {h:fj} {n b k i j x0:Nat} {d d':ba} {obs:List Bool},HR ρ w h n→bQ h b=some d→jk ρ w l us→nN l=true →
    d.wrN k i l (j+x0)=some (d',obs)→aY obs→∃ w',(storeCells ⟨ρ.at_ b,i*k+j,none⟩ us x0).run P w=.ok () w'∧HR ρ w' (lQ h b d') n∧rc ρ.live w w'
  | [],[],w,h,n,b,k,i,j,x0,d,d',obs,hh,hg,_,_,hw,_=>by
    simp only [ba.wrN,Option.some.injEq,Prod.mk.injEq] at hw;obtain ⟨rfl,rfl⟩:=hw
    refine ⟨w,by simp [storeCells],?_,rc.refl _ _⟩
    have e:∀ c,bQ (lQ h b d) c=bQ h c:=by
      intro c;rw [iV];split
      · rename_i q;subst q;exact hg.symm
      · rfl
    exact ⟨fun c e' he=>hh.cell c e' (by rw [←e];exact he),fun a c d e' h1 h2=>hh.inj a c d e' (by rw [←e];exact h1) (by rw [←e];exact h2),hh.fresh,hh.liveLt,hh.outLt,hh.lt,hh.rom⟩
  | u::us,v::l,w,h,n,b,k,i,j,x0,d,d',obs,hh,hg,hv,h1,hw,ho=>by
    simp only [ba.wrN] at hw
    split at hw
    case h_2=>cases hw
    rename_i d1 o1 q1
    split at hw
    case h_2=>cases hw
    rename_i d2 o2 q2
    simp only [Option.some.injEq,Prod.mk.injEq] at hw;obtain ⟨rfl,rfl⟩:=hw
    rw [ck] at ho
    cases hv with | cons _ _ _ _ hv1 hv2 =>
    simp only [nN,Bool.and_eq_true] at h1
    have hrk:=hh.rk hg
    obtain ⟨r1,r2,r3⟩:=ba.wr_spec hrk q1 ho.1
    obtain ⟨s1,s2,s3⟩:=UM hv1 h1.1
    obtain ⟨e0,he0⟩:=r2
    obtain ⟨_,_,_,c,ty,hc,hcv⟩:=hh.solid hg ⟨_,_,he0⟩
    obtain ⟨u0,hu0,_⟩:=hcv _ _ he0
    have hcell:w.cell? ⟨ρ.at_ b,i*k+(j+x0),none⟩=some u0:=by simp [World.cell?,hc,hu0]
    have hfz:w.frozen? ⟨ρ.at_ b,i*k+(j+x0),none⟩=false:=by simp [World.frozen?,hc]
    have hst:=TM (P:=P) s1 s2 hcell hfz
    obtain ⟨hh',W⟩:=hh.store hg r1 (fun y e hy=>(r3 y e hy).imp (fun q=>⟨q.1,q.2 _ _ _ hv1⟩) id) ⟨e0,he0⟩
    have hg':bQ (lQ h b d1) b=some d1:=by rw [iV,if_pos rfl]
    obtain ⟨w2,t1,t2,t3⟩:=zS (P:=P) (x0:=x0+1) hh' hg' (hv2.mono (vY.refl _ _) W) h1.2 (by rw [←Nat.add_assoc];exact q2) ho.2
    refine ⟨w2,?_,?_,W.trans t3 (fun _ _ m=>m)⟩
    · rw [storeCells]
      have ea:Addr.add ⟨ρ.at_ b,i*k+j,none⟩ x0=⟨ρ.at_ b,i*k+(j+x0),none⟩:=by rw [uy,Nat.add_assoc]
      rw [ea]
      simp only [Sem.run_bind,hst,Result.andThen_ok]
      exact t1
    · have e:∀ c,bQ (lQ (lQ h b d1) b d2) c=bQ (lQ h b d2) c:=by
        intro c;rw [iV,iV,iV];split<;>rfl
      exact ⟨fun c e' he=>t2.cell c e' (by rw [e];exact he),fun a c d e' q3 q4=>t2.inj a c d e' (by rw [e];exact q3) (by rw [e];exact q4),t2.fresh,t2.liveLt,t2.outLt,t2.lt,t2.rom⟩
  | [],_::_,_,_,_,_,_,_,_,_,_,_,_,_,_,hv,_,_,_=>by cases hv
  | _::_,[],_,_,_,_,_,_,_,_,_,_,_,_,_,hv,_,_,_=>by cases hv
def JY(P:Program)(g:Nat→Option ba)(t:TypeId)(x v:AV) :Option (Nat×ba×List Bool) :=
  match x,v.cells,P.info? t with
  | .ptr b w i j,some l,some inf =>
    match g b with
    | some d=>bif Nat.beq l.length inf.size then (d.wrN w i l j).map fun r=>(b,r.1,r.2) else none
    | none=>none
  | _,_,_=>none
theorem PR{P:Program}{ρ:aH}{w:World}{h:fj}{n:Nat}(hh:HR ρ w h n){t:TypeId}{x v:AV}{x' v':Value}{b:Nat}{d:ba}{obs:List Bool}(hx:VR ρ w x x')(hv:VR ρ w v v') 
    (hs:JY P (bQ h) t x v=some (b,d,obs)) (ho:aY obs):∃ w',(Instr.storeAt t x' v').run P w=.ok () w'∧HR ρ w' (lQ h b d) n∧rc ρ.live w w':=by
  unfold JY at hs
  split at hs
  case h_2=>cases hs
  rename_i b' k i j l inf hl hi
  split at hs
  case h_2=>cases hs
  rename_i d0 hd
  cases e:Nat.beq l.length inf.size with
  | false=>rw [e] at hs;cases hs
  | true =>
    rw [e] at hs
    simp only [cond_true,Option.map_eq_some_iff,Prod.mk.injEq] at hs
    obtain ⟨⟨d',o'⟩,hw,rfl,rfl,rfl⟩:=hs
    obtain ⟨c1,c2⟩:=MK hv hl
    cases hx with | ptr _ _ _ _ hb =>
    obtain ⟨w',r1,r2,r3⟩:=zS (P:=P) (x0:=0) (j:=j) hh hd c1 c2 hw ho
    refine ⟨w',?_,r2,r3⟩
    have hs:P.cellsOf t=inf.size:=by simp [Program.cellsOf,hi]
    have hsz:v'.cells.size=inf.size:=by
      have:=c1.length;rw [Nat.eq_of_beq_eq_true e] at this;simpa using this.symm
    simp only [Instr.storeAt,Instr.sureAddr,storeVar,Sem.run_bind,Sem.run_pure,Result.andThen_ok,run_sizeOf w hi,hs,hsz,ne_eq,not_true_eq_false,if_false]
    exact r1
def So:List AV→Option (List Nat)
  | []=>some []
  | .flt _ x::l=>(So l).map (x :: ·)
  | _::_=>none
def Sp(k:IntKind) :List AV→Option (List Int)
  | []=>some []
  | .int k' x::l=>bif jh k k' then (Sp k l).map (x :: ·) else none
  | _::_=>none
def Sq:List AV→Option (List Bool)
  | []=>some []
  | .bool _ x::l=>(Sq l).map (x :: ·)
  | _::_=>none
def Sr:List AV→Option (List ByteArray)
  | []=>some []
  | .str x::l=>(Sr l).map (x :: ·)
  | _::_=>none
def Tc(P:Program)(e:TypeId)(l:List AV) :ba :=
  match P.underlying e with
  | some (.float .f64)=>match So l with | some xs=>.fl xs | none=>.vs l
  | some (.int k)=>match Sp k l with | some xs=>.ns k xs | none=>.vs l
  | some .bool=>match Sq l with | some xs=>.bs xs | none=>.vs l
  | some .string=>match Sr l with | some xs=>.ss xs | none=>.vs l
  | _=>.vs l
def PS(d:ba)(l:List AV) :Prop:=d.recKept∧∀ x v,d.cell? x=some v→∃ v0,l[x]? = some v0∧∀ (ρ:aH) (w:World) (u:Value),VR ρ w v0 u→VR ρ w v u
theorem GJ(l:List AV) :PS (.vs l) l:=⟨trivial,fun x v h=>⟨v,h,fun _ _ _ h=>h⟩⟩
theorem TN:∀ {l:List AV} {xs:List Nat},So l=some xs→PS (.fl xs) l:=by
  intro l xs h
  refine ⟨trivial,fun x v hv=>?_⟩
  induction l generalizing xs x with
  | nil=>cases h;simp [ba.cell?] at hv
  | cons a l ih =>
    cases a<;>simp only [So,Option.map_eq_some_iff,reduceCtorEq] at h
    obtain ⟨ys,h1,rfl⟩:=h
    cases x with
    | zero=>simp [ba.cell?] at hv;subst hv;exact ⟨_,rfl,fun ρ w u hu=>zq (d:=.fl []) _ _ _ hu⟩
    | succ x=>exact ih h1 x (by simpa [ba.cell?] using hv)
theorem TO{k:IntKind} :∀ {l:List AV} {xs:List Int},Sp k l=some xs→PS (.ns k xs) l:=by
  intro l xs h
  refine ⟨trivial,fun x v hv=>?_⟩
  induction l generalizing xs x with
  | nil=>cases h;simp [ba.cell?] at hv
  | cons a l ih =>
    cases a<;>simp only [Sp,Option.map_eq_some_iff,reduceCtorEq] at h
    rename_i k' y
    cases e:jh k k' with
    | false=>rw [e] at h;cases h
    | true =>
      rw [e] at h
      simp only [cond_true,Option.map_eq_some_iff] at h
      obtain ⟨ys,h1,rfl⟩:=h
      have:k=k':=of_decide_eq_true e
      subst this
      cases x with
      | zero=>simp [ba.cell?] at hv;subst hv;exact ⟨_,rfl,fun ρ w u hu=>hu⟩
      | succ x=>exact ih h1 x (by simpa [ba.cell?] using hv)
theorem TP:∀ {l:List AV} {xs:List Bool},Sq l=some xs→PS (.bs xs) l:=by
  intro l xs h
  refine ⟨trivial,fun x v hv=>?_⟩
  induction l generalizing xs x with
  | nil=>cases h;simp [ba.cell?] at hv
  | cons a l ih =>
    cases a<;>simp only [Sq,Option.map_eq_some_iff,reduceCtorEq] at h
    obtain ⟨ys,h1,rfl⟩:=h
    cases x with
    | zero=>simp [ba.cell?] at hv;subst hv;exact ⟨_,rfl,fun ρ w u hu=>zq (d:=.bs []) _ _ _ hu⟩
    | succ x=>exact ih h1 x (by simpa [ba.cell?] using hv)
theorem TQ:∀ {l:List AV} {xs:List ByteArray},Sr l=some xs→PS (.ss xs) l:=by
  intro l xs h
  refine ⟨trivial,fun x v hv=>?_⟩
  induction l generalizing xs x with
  | nil=>cases h;simp [ba.cell?] at hv
  | cons a l ih =>
    cases a<;>simp only [Sr,Option.map_eq_some_iff,reduceCtorEq] at h
    obtain ⟨ys,h1,rfl⟩:=h
    cases x with
    | zero=>simp [ba.cell?] at hv;subst hv;exact ⟨_,rfl,fun ρ w u hu=>hu⟩
    | succ x=>exact ih h1 x (by simpa [ba.cell?] using hv)
theorem ML(P:Program)(e:TypeId)(l:List AV) :PS (Tc P e l) l:=by
  unfold Tc
  split
  · split
    · rename_i h;exact TN h
    · exact GJ l
  · split
    · rename_i h;exact TO h
    · exact GJ l
  · split
    · rename_i h;exact TP h
    · exact GJ l
  · split
    · rename_i h;exact TQ h
    · exact GJ l
  · exact GJ l
theorem Ss{ρ:aH}{w:World}{h:fj}{n b:Nat}(hh:HR ρ w h n)(hb : ¬ ρ.ok b)(hn:b<n){d:ba}{l:List AV}(hd:PS d l)(c:Array Value)(t:TypeId) 
    (hc:∀ (x:Nat) (v:AV),l[x]? = some v→∃ u,c[x]? = some u∧VR ρ w v u) :
    HR (ρ.give b w.heap.size) (w.alloc (.cells c t)) (lQ h b d) n∧vY ρ (ρ.give b w.heap.size) w∧rc ρ.live w (w.alloc (.cells c t)) :=
  hh.alloc hb hn d c t hd.1 fun x v hx=>by
    obtain ⟨v0,h1,h2⟩:=hd.2 x v hx
    obtain ⟨u,h3,h4⟩:=hc x v0 h1
    exact ⟨u,h3,h2 ρ w u h4⟩
def Hp(P:Program)(ρ:aH)(w:World)(h:fj)(n nid:Nat)(s:Sem Value)(v:AV)(h':fj) :Prop :=
  ∃ u w' ρ',s.run P w=.ok u w'∧vY ρ ρ' w∧rc ρ.live w w'∧HR ρ' w' h' n∧VR ρ' w' v u∧∀ b,ρ'.ok b→ρ.ok b∨b=nid
theorem GM{P:Program}{ρ:aH}{w w1:World}{h:fj}{n nid:Nat}(hh:HR ρ w h n)(hb : ¬ ρ.ok nid)(hn:nid<n){s:Sem Value}{d:ba}{l:List AV}(hd:PS d l){c:Array Value}{t:TypeId} 
    (hw:w1=w∨∃ k,w1 = { w with drawn:=k }) {u:Value} (hr:s.run P w=.ok u (w1.alloc (.cells c t)))
    (hc:∀ (x:Nat) (v:AV),l[x]? = some v→∃ u,c[x]? = some u∧VR ρ w v u) {v:AV} (hv:∀ ρ' w',ρ'=ρ.give nid w.heap.size→w'=w1.alloc (.cells c t)→VR ρ' w' v u) :
    Hp P ρ w h n nid s v (lQ h nid d):=by
  have yH:∀ w1:World,(w1=w∨∃ k,w1 = { w with drawn:=k })→HR ρ w1 h n∧rc ρ.live w w1∧w1.heap=w.heap∧(∀ v u,VR ρ w v u→VR ρ w1 v u):=by
    rintro w1 (rfl | ⟨k,rfl⟩)
    · exact ⟨hh,rc.refl _ _,rfl,fun _ _ h=>h⟩
    · exact ⟨hh.drawn k,rc.drawn _ _ _,rfl,fun _ _ h=>h.mono (vY.refl _ _) (rc.drawn _ _ _)⟩
  obtain ⟨k1,k2,k3,k4⟩:=yH w1 hw
  obtain ⟨a1,a2,a3⟩:=Ss k1 hb hn hd c t (fun x v hx=>by obtain ⟨u,q1,q2⟩:=hc x v hx;exact ⟨u,q1,k4 _ _ q2⟩)
  rw [k3] at a1 a2
  refine ⟨u,_,ρ.give nid w.heap.size,hr,?_,k2.trans a3 (fun _ _ m=>m),a1,hv _ _ rfl rfl,fun b hb=>?_⟩
  · exact ⟨a2.at_,a2.ok,a2.live,fun b hb=>a2.new b (by rw [k3];exact hb),a2.out⟩
  · rcases hb with h | h
    · exact .inr h
    · exact .inl h
theorem Im(ρ:aH)(w:World) :∀ l:List Value,jk ρ w (l.map lk) l
  | []=>.nil
  | v::l=>.cons _ _ _ _ (zQ ρ w v) (Im ρ w l)
theorem jk.cells{ρ:aH}{w:World}{l:List AV}{c:Array Value}(h:jk ρ w l c.toList) :∀ (x:Nat) (v:AV),l[x]? = some v→∃ u,c[x]? = some u∧VR ρ w v u:=by
  intro x v hx
  obtain ⟨u,h1,h2⟩:=h.get x v hx
  rw [Array.getElem?_toList] at h1
  exact ⟨u,h1,h2⟩
def PT(P:Program)(t:TypeId)(l:List AV) :ba :=
  match P.underlying t with
  | some (.array _ e)=>Tc P e l
  | _=>.vs l
theorem KY(P:Program)(t:TypeId)(l:List AV) :PS (PT P t l) l:=by
  unfold PT;split
  · exact ML _ _ _
  · exact GJ _
def St(P:Program)(nid:Nat)(t:TypeId) :Option (AV×ba) :=
  match (P.info? t).bind (·.zero) with
  | some z=>some (.ptr nid 1 0 0,PT P t (z.cells.toList.map lk))
  | none=>none
theorem Q9(ρ:aH)(w:World)(nid bl:Nat) :VR (ρ.give nid bl) w (.ptr nid 1 0 0) (.pointer (some ⟨bl,0,none⟩)):=by
  have:=VR.ptr (ρ:=ρ.give nid bl) (w:=w) nid 1 0 0 (.inl rfl)
  simpa [aH.give] using this
theorem PU{P:Program}{ρ:aH}{w:World}{h:fj}{n nid:Nat}(hh:HR ρ w h n)(hb : ¬ ρ.ok nid)(hn:nid<n){t:TypeId}{v:AV}{d:ba}(ha:St P nid t=some (v,d))(heap:Bool) :
    Hp P ρ w h n nid (Instr.alloc t true (.tuple #[])) v (lQ h nid d):=by
  unfold St at ha
  split at ha
  case h_2=>cases ha
  rename_i z hz
  simp only [Option.some.injEq,Prod.mk.injEq] at ha;obtain ⟨rfl,rfl⟩:=ha
  simp only [Option.bind_eq_some_iff] at hz
  obtain ⟨i,hi,hz⟩:=hz
  refine GM hh hb hn (KY P t _) (.inl rfl) (c:=z.cells) (t:=t) (u:=.pointer (some ⟨w.heap.size,0,none⟩)) ?_ (jk.cells (by simpa using Im ρ w z.cells.toList)) ?_
  · simp [Instr.alloc,zeroValue,typeInfo,hi,hz,newVar,newRow]
  · rintro _ _ rfl rfl;exact Q9 _ _ _ _
def WW(P:Program)(nid:Nat)(t:TypeId)(x:AV) :Option (AV×ba) :=
  (x.cells).map fun l=>(.ptr nid 1 0 0,PT P t l)
theorem Su{P:Program}{ρ:aH}{w:World}{h:fj}{n nid:Nat}(hh:HR ρ w h n)(hb : ¬ ρ.ok nid)(hn:nid<n){t:TypeId}{x v:AV}{x':Value}{d:ba}(hx:VR ρ w x x')(ha:WW P nid t x=some (v,d)) :
    Hp P ρ w h n nid (Instr.box t x') v (lQ h nid d):=by
  simp only [WW,Option.map_eq_some_iff,Prod.mk.injEq] at ha
  obtain ⟨l,hl,rfl,rfl⟩:=ha
  obtain ⟨c1,_⟩:=MK hx hl
  refine GM hh hb hn (KY P t _) (.inl rfl) (c:=x'.cells) (t:=t) (u:=.pointer (some ⟨w.heap.size,0,none⟩)) ?_ (jk.cells c1) ?_
  · simp [Instr.box,newVar,newRow]
  · rintro _ _ rfl rfl;exact Q9 _ _ _ _
def ba.wid:ba→Nat
  | .rows w _ _=>w
  | .cols _ cs=>cs.length
  | _=>1
def PV(P:Program)(n:Nat)(t:TypeId)(z:AV) :Option lG :=
  match z with
  | .flt _ x=>some (.cf (List.replicate n x))
  | .int k x=>some (.ci k (List.replicate n x))
  | .bool _ x=>some (.cb (List.replicate n x))
  | .str x=>some (.cs (List.replicate n x))
  | .nsl =>
    match P.underlying t with
    | some (.slice e) =>
      match P.underlying e with
      | some (.float .f64)=>some (.cfl (List.replicate n []))
      | some (.int k)=>some (.cns k (List.replicate n []))
      | _=>none
    | _=>none
  | _=>none
def IX(P:Program)(n:Nat) :List TypeId→List AV→Option (List lG)
  | [],[]=>some []
  | t::ts,z::zs =>
    match PV P n t z,IX P n ts zs with
    | some c,some cs=>some (c::cs)
    | _,_=>none
  | _,_=>none
theorem PW{P:Program}{n:Nat}{t:TypeId}{z:AV}{c:lG}(h:PV P n t z=some c) :c.len=n∧∀ i v,c.cell? i=some v→bL z v:=by
  have rep:∀ {α:Type} {f:α→AV} {y:α},bL z (f y)→∀ (i:Nat) (v:AV),((List.replicate n y)[i]?).map f=some v→bL z v:=by
    intro α f y hw i v hv
    simp only [Option.map_eq_some_iff] at hv
    obtain ⟨a,h1,rfl⟩:=hv
    rw [List.getElem?_replicate] at h1
    split at h1<;>cases h1
    exact hw
  unfold PV at h
  split at h
  · cases h;exact ⟨by simp [lG.len],rep (f:=AV.flt false) (zq (d:=.fl []))⟩
  · cases h;exact ⟨by simp [lG.len],rep (f:=AV.int _) (bL.refl _)⟩
  · cases h;exact ⟨by simp [lG.len],rep (f:=AV.bool false) (zq (d:=.bs []))⟩
  · cases h;exact ⟨by simp [lG.len],rep (f:=AV.str) (bL.refl _)⟩
  · split at h
    case h_2=>cases h
    split at h
    · cases h;exact ⟨by simp [lG.len],rep (f:=fun l=>.imm .free (.fl l) 1 1 0 l.length) (C1 _ trivial rfl rfl)⟩
    · cases h;exact ⟨by simp [lG.len],rep (f:=fun l=>.imm .free (.ns _ l) 1 1 0 l.length) (C1 _ trivial rfl rfl)⟩
    · cases h
  · cases h
theorem Hq{P:Program}{n:Nat} :∀ {ts:List TypeId} {zs:List AV} {cs:List lG},IX P n ts zs=some cs→cs.length=zs.length∧(∀ c∈cs,c.len=n)∧∀ (j:Nat) c i v,cs[j]? = some c→c.cell? i=some v→∃ z,zs[j]? = some z∧bL z v
  | [],[],cs,h=>by cases h;exact ⟨rfl,(fun c hc=>by cases hc),(fun j c i v hj=>by simp at hj)⟩
  | [],_::_,cs,h=>by cases h
  | _::_,[],cs,h=>by cases h
  | t::ts,z::zs,cs,h=>by
    simp only [IX] at h
    split at h
    case h_2=>cases h
    rename_i c cs' h1 h2
    cases h
    obtain ⟨a1,a2,a3⟩:=Hq h2
    obtain ⟨b1,b2⟩:=PW h1
    refine ⟨by simp [a1],fun x hx=>?_,fun j x i v hj hx=>?_⟩
    · rcases List.mem_cons.1 hx with rfl | q
      · exact b1
      · exact a2 x q
    · cases j with
      | zero=>simp at hj;subst hj;exact ⟨z,rfl,b2 i v hx⟩
      | succ j=>exact a3 j x i v (by simpa using hj) hx
def Td(P:Program)(e:TypeId) :List TypeId:=(P.cellTypes P.depth e).getD []
def PX(P:Program)(e:TypeId)(inf:TypeInfo)(z:Value)(n:Nat) :Option ba :=
  match P.underlying e,inf.size,z.cells.toList with
  | some (.float .f64),1,[.float .f64 x]=>some (.fl (List.replicate n x))
  | some (.int k),1,[.int k' x]=>bif jh k k' then some (.ns k (List.replicate n x)) else none
  | some .bool,1,[.bool x]=>some (.bs (List.replicate n x))
  | some .string,1,[.string x]=>some (.ss (List.replicate n x))
  | _,s,zs =>
    match IX P n (Td P e) (zs.map lk) with
    | some cs=>bif Nat.beq s zs.length&&Nat.blt 0 s then some (.cols n cs) else none
    | none=>bif Nat.beq s zs.length&&(Nat.blt 0 s&&nN (zs.map lk)) then some (.rows s n fun _ j=>(zs.map lk).getD j .nptr) else none
def UN(P:Program)(nid:Nat)(t:TypeId)(l c:AV) :Option (AV×ba×List Bool) :=
  match P.underlying t,l,c with
  | some (.slice e),.int _ l,.int _ c =>
    match P.info? e with
    | some inf =>
      match inf.zero with
      | some z =>
        (PX P e inf z c.toNat).map fun d =>
          (.sl nid d.wid inf.size 0 l.toNat c.toNat,d,[decide (0≤l),decide (l≤c),decide ((inf.bytes:Int)*c≤140737488355328),fq .i64 c])
      | none=>none
    | none=>none
  | _,_,_=>none
theorem xY{z:Array Value}{n x:Nat}(h:x<n) :(madeCells z n)[x]? = some (z[x%z.size]!):=by
  unfold madeCells;simp [h]
theorem DJ:∀ {l:List AV},nN l=true→∀ (x:Nat) (v:AV),l[x]? = some v→v.one=true
  | [],_,x,v,h=>by simp at h
  | a::l,ha,0,v,h=>by simp at h;subst h;simp only [nN,Bool.and_eq_true] at ha;exact ha.1
  | a::l,ha,x+1,v,h=>by simp only [nN,Bool.and_eq_true] at ha;exact DJ ha.2 x v (by simpa using h)
theorem Sv(v:Value) :(lk v).kept=true:=by
  unfold lk;split<;>rfl
theorem PY{P:Program}{e:TypeId}{inf:TypeInfo}{z:Value}{n:Nat}{d:ba}(h:PX P e inf z n=some d)(ρ:aH)(w:World) :
    d.recKept∧(∀ x v,d.cell? x=some v→∃ u,(madeCells z.cells (n*inf.size))[x]? = some u∧VR ρ w v u)∧(d.wid=inf.size∨inf.size=1):=by
  have one:∀ {α:Type} {f:α→AV} {y:α} {u:Value},z.cells.toList=[u]→inf.size=1→VR ρ w (f y) u→∀ (x:Nat) (v:AV),((List.replicate n y)[x]?).map f=some v→∃ u,(madeCells z.cells (n*inf.size))[x]? = some u∧VR ρ w v u:=by
    intro α f y u hz hs hv x v h
    simp only [Option.map_eq_some_iff] at h
    obtain ⟨a,h1,rfl⟩:=h
    rw [List.getElem?_replicate] at h1
    split at h1
    · rename_i hlt
      cases h1
      have hc:z.cells = #[u]:=by rw [←hz]
      refine ⟨u,?_,hv⟩
      rw [xY (by rw [hs];omega),hc];simp [Nat.mod_one]
    · cases h1
  unfold PX at h
  split at h
  · rename_i x hu hs hz;cases h;exact ⟨trivial,one hz hs (.flt _ _ _ (.inl rfl)),.inr hs⟩
  · rename_i k k' x hu hs hz
    cases e:jh k k' with
    | false=>rw [e] at h;cases h
    | true =>
      rw [e] at h;cases h
      have:k=k':=of_decide_eq_true e
      subst this
      exact ⟨trivial,one hz hs (.int _ _),.inr hs⟩
  · rename_i x hu hs hz;cases h;exact ⟨trivial,one hz hs (.bool _ _),.inr hs⟩
  · rename_i x hu hs hz;cases h;exact ⟨trivial,one hz hs (.str _),.inr hs⟩
  · split at h
    · rename_i cs hcs
      obtain ⟨z1,z2,z3⟩:=Hq hcs
      rw [List.length_map] at z1
      cases e:(Nat.beq inf.size z.cells.toList.length&&Nat.blt 0 inf.size) with
      | false=>rw [e] at h;cases h
      | true =>
      rw [e] at h;simp only [cond_true,Option.some.injEq] at h
      subst h
      rw [Bool.and_eq_true] at e
      have e1:=Nat.eq_of_beq_eq_true e.1
      have e2:0<inf.size:=by simpa [Nat.blt_eq] using e.2
      have hw:cs.length=inf.size:=by omega
      refine ⟨z2,fun x v hx=>?_,.inl hw⟩
      obtain ⟨c,h1,h2,h3⟩:=mV hx
      have hlt:=Fj h3
      rw [z2 c h2,hw] at hlt
      have hx2:x<n*inf.size:=(Nat.div_lt_iff_lt_mul e2).1 hlt
      obtain ⟨zv,k1,k2⟩:=z3 _ c _ v h1 h3
      rw [hw] at k1
      have hsz:z.cells.size=inf.size:=by rw [e1];simp
      have hm':x%z.cells.size<z.cells.size:=by rw [hsz];exact Nat.mod_lt _ e2
      refine ⟨_,xY hx2,k2 _ _ _ ?_⟩
      rw [getElem!_pos z.cells (x%z.cells.size) hm']
      rw [List.getElem?_map,←hsz,List.getElem?_eq_getElem (by simpa using hm')] at k1
      simp only [Option.map_some,Option.some.injEq] at k1
      rw [←k1,Array.getElem_toList]
      exact zQ _ _ _
    rename_i hnone
    cases e:(Nat.beq inf.size z.cells.toList.length&&(Nat.blt 0 inf.size&&nN (z.cells.toList.map lk))) with
    | false=>rw [e] at h;cases h
    | true =>
      rw [e] at h;simp only [cond_true,Option.some.injEq] at h
      subst h
      rw [Bool.and_eq_true] at e
      have e1:=Nat.eq_of_beq_eq_true e.1
      have e':=e.2
      rw [Bool.and_eq_true] at e'
      have e2:0<inf.size:=by have:=e'.1;simpa [Nat.blt_eq] using this
      have e3:=DJ e'.2
      have kc:∀ j,((z.cells.toList.map lk).getD j AV.nptr).kept=true∧((z.cells.toList.map lk).getD j AV.nptr).one=true:=by
        intro j
        rw [List.getD_eq_getElem?_getD]
        cases hq:(z.cells.toList.map lk)[j]? with
        | none=>exact ⟨rfl,rfl⟩
        | some v =>
          refine ⟨?_,e3 j v hq⟩
          rw [List.getElem?_map] at hq
          cases hr:z.cells.toList[j]? with
          | none=>rw [hr] at hq;cases hq
          | some u=>rw [hr] at hq;cases hq;exact Sv u
      refine ⟨fun _ j=>kc j,fun x v hx=>?_,.inl rfl⟩
      simp only [ba.cell?] at hx
      split at hx
      · rename_i hlt
        cases hx
        have hx2:x<n*inf.size:=by
          have:=(Nat.div_lt_iff_lt_mul e2).1 hlt;exact this
        have hm:x%inf.size<z.cells.toList.length:=by rw [←e1];exact Nat.mod_lt _ e2
        refine ⟨_,xY hx2,?_⟩
        have hsz:z.cells.size=inf.size:=by rw [e1];simp
        have hm':x%z.cells.size<z.cells.size:=by rw [hsz];exact Nat.mod_lt _ e2
        rw [getElem!_pos z.cells (x%z.cells.size) hm',List.getD_eq_getElem?_getD,List.getElem?_map,List.getElem?_eq_getElem hm]
        simp only [hsz,Array.getElem_toList,Option.map_some,Option.getD_some]
        exact zQ _ _ _
      · cases hx
theorem Ra{P:Program}{ρ:aH}{w:World}{h:fj}{n nid:Nat}(hh:HR ρ w h n)(hb : ¬ ρ.ok nid)(hn:nid<n){t:TypeId}{l c v:AV}{l' c':Value}{d:ba}{obs:List Bool} 
    (hl:VR ρ w l l') (hc:VR ρ w c c') (ha:UN P nid t l c=some (v,d,obs)) (ho:aY obs):Hp P ρ w h n nid (Instr.makeSlice t l' c') v (lQ h nid d):=by
  unfold UN at ha
  split at ha
  case h_2=>cases ha
  rename_i e k1 l k2 c ht
  cases hl;cases hc
  split at ha
  case h_2=>cases ha
  rename_i inf hi
  split at ha
  case h_2=>cases ha
  rename_i z hz
  simp only [Option.map_eq_some_iff,Prod.mk.injEq] at ha
  obtain ⟨d',hd,rfl,rfl,rfl⟩:=ha
  have o1:0≤l:=of_decide_eq_true ho.1
  have o2:l≤c:=of_decide_eq_true ho.2.1
  have o3:(inf.bytes:Int)*c≤140737488355328:=of_decide_eq_true ho.2.2.1
  have o4:c≤9223372036854775807:=by
    have:=ho.2.2.2.1
    simp only [fq,Bool.and_eq_true,decide_eq_true_eq] at this
    have e:IntKind.max .i64=9223372036854775807:=by decide
    rw [e] at this;exact this.2
  obtain ⟨s1,s2,s3⟩:=PY hd ρ w
  have hrun:=run_make (P:=P) w t e inf z ht hi hz k1 k2 l c o1 o2 (by omega) o4
  obtain ⟨a1,a2,a3⟩:=hh.alloc hb hn d' (madeCells z.cells (c.toNat*inf.size)) e s1 s2
  refine ⟨_,_,_,hrun,a2,a3,a1,?_,fun b hb=>hb.elim .inr .inl⟩
  have:VR (ρ.give nid w.heap.size) (w.alloc (.cells (madeCells z.cells (c.toNat*inf.size)) e)) (.sl nid d'.wid inf.size 0 l.toNat c.toNat) (.slice (some ⟨(ρ.give nid w.heap.size).at_ nid,0*d'.wid,none⟩) l.toNat c.toNat) :=
    .sl _ _ _ _ _ _ _ (.inl rfl) (Nat.le_refl _) (by omega) (madeCells z.cells (c.toNat*inf.size)) e (by simp only [aH.give,if_true];exact r7 w _) (by simp [size_madeCells])
  simpa [aH.give] using this
def Io(off:Nat) :List AV→Nat→List AV→List AV
  | [],_,cs=>cs
  | v::l,k,cs=>Io off l (k+1) (cs.set (off+k) v)
def MM(place:Nat→Option (Nat×Nat))(cells:List AV) :List (Nat×AV)→Option (List AV)
  | []=>some cells
  | (i,v)::rest =>
    match place i,v.cells with
    | some (off,size),some l=>bif Nat.beq l.length size&&Nat.ble (off+l.length) cells.length then MM place (Io off l 0 cells) rest else none
    | _,_=>none
theorem Pn{ρ:aH}{w:World}{off:Nat} :∀ {l:List AV} {us:List Value} {k:Nat} {cs:List AV} {c:Array Value},jk ρ w l us→jk ρ w cs c.toList →
    jk ρ w (Io off l k cs) ((us.zipIdx k).foldl (fun cs (x:Value×Nat)=>cs.setIfInBounds (off+x.2) x.1) c).toList
  | _,_,k,cs,c,.nil,h=>by simpa [Io] using h
  | _,_,k,cs,c,.cons v u l us hv ht,h=>by
    simp only [Io,List.zipIdx_cons,List.foldl_cons]
    refine Pn ht ?_
    rw [Array.toList_setIfInBounds]
    exact h.set hv _
theorem Hr(off:Nat) :∀ (l:List AV) (k:Nat) (cs:List AV),(Io off l k cs).length=cs.length
  | [],_,_=>rfl
  | v::l,k,cs=>by simp [Io,Hr off l]
theorem IY{ρ:aH}{w:World}{place:Nat→Option (Nat×Nat)} :∀ {parts:List (Nat×AV)} {ps:List (Nat×Value)} {cs l:List AV} {c:Array Value},
    (parts.map Prod.fst=ps.map Prod.fst)→jk ρ w (parts.map Prod.snd) (ps.map Prod.snd)→jk ρ w cs c.toList→MM place cs parts=some l →
    ∃ c',Instr.fill place c ps=some c'∧jk ρ w l c'.toList∧l.length=cs.length
  | [],[],cs,l,c,_,_,hc,h=>by simp only [MM,Option.some.injEq] at h;subst h;exact ⟨c,rfl,hc,rfl⟩
  | (i, v) :: parts, (i', u) :: ps, cs, l, c, h1, h2, hc, h => by
    simp only [List.map_cons,List.cons.injEq] at h1
    obtain ⟨rfl,h1⟩:=h1
    simp only [List.map_cons] at h2
    cases h2 with | cons _ _ _ _ hv ht =>
    simp only [MM] at h
    split at h
    case h_2=>cases h
    rename_i off size l' hp hl
    obtain ⟨k1,_⟩:=MK hv hl
    have kl:=k1.length
    have cl:=hc.length
    cases e:(Nat.beq l'.length size&&Nat.ble (off+l'.length) cs.length) with
    | false=>rw [e] at h;cases h
    | true =>
      rw [e] at h;simp only [cond_true] at h
      rw [Bool.and_eq_true] at e
      have e1:=Nat.eq_of_beq_eq_true e.1
      have e2:off+l'.length≤cs.length:=by simpa [Nat.ble_eq] using e.2
      have r:=Pn (off:=off) (k:=0) k1 hc
      obtain ⟨c',q1,q2,q3⟩:=IY h1 ht (c:=(u.cells.toList.zipIdx 0).foldl (fun cs (x:Value×Nat)=>cs.setIfInBounds (off+x.2) x.1) c) r h
      refine ⟨c',?_,q2,by rw [q3,Hr]⟩
      simp only [Instr.fill,hp]
      have g1:u.cells.size=size:=by rw [←e1,kl];simp
      have g2 : ¬ (off+u.cells.size>c.size):=by
        have:u.cells.size=l'.length:=by rw [kl];simp
        have:c.size=cs.length:=by rw [cl];simp
        omega
      have e0:∀ c:Array Value,u.cells.zipIdx.foldl (fun cs (x:Value×Nat)=>cs.setIfInBounds (off+x.2) x.1) c=(u.cells.toList.zipIdx 0).foldl (fun cs (x:Value×Nat)=>cs.setIfInBounds (off+x.2) x.1) c:=by
        intro c
        rw [←Array.foldl_toList];simp
      rw [if_neg (by simp only [g1,ne_eq,not_true_eq_false,decide_false,Bool.false_or,decide_eq_true_eq];rw [←g1];exact g2)]
      have e3:=e0 c
      rw [e3]
      exact q1
  | [],_::_,_,_,_,h1,_,_,_=>by cases h1
  | _::_,[],_,_,_,h1,_,_,_=>by cases h1
def Sw(P:Program)(t:TypeId)(parts:List (Nat×AV)) :Option AV :=
  match (P.info? t).bind (·.zero) with
  | none=>none
  | some z =>
    let zs:=z.cells.toList.map lk
    match P.underlying t with
    | some (.struct fs) =>
      bif fs.toList.all (fun f=>(P.info? f.type).isSome) then (MM (fun i=>(fs[i]?).map fun f=>(f.offset,P.cellsOf f.type)) zs parts).map .agg else none
    | some (.array _ e)=>match P.info? e with
      | some inf=>(MM (fun i=>some (i*inf.size,inf.size)) zs parts).map .agg
      | none=>none
    | _=>none
theorem Ej{P:Program}{w:World} :∀ (l:List Field),(l.all fun f=>(P.info? f.type).isSome)=true →
    (l.mapM (m:=Sem) fun f=>do pure (f.offset,←sizeOf f.type)).run P w=.ok (l.map fun f=>(f.offset,P.cellsOf f.type)) w
  | [],_=>by simp
  | f::l,h=>by
    simp only [List.all_cons,Bool.and_eq_true] at h
    obtain ⟨i,hi⟩:=Option.isSome_iff_exists.1 h.1
    have ih:=Ej (P:=P) (w:=w) l h.2
    simp only [List.mapM_cons,Sem.run_bind,run_sizeOf w hi,Result.andThen_ok,Sem.run_pure,ih,List.map_cons]
theorem PZ{P:Program}{ρ:aH}{w:World}{t:TypeId}{parts:List (Nat×AV)}{ps:Array (Nat×Value)}{v:AV}(h1:parts.map Prod.fst=ps.toList.map Prod.fst) 
    (h2:jk ρ w (parts.map Prod.snd) (ps.toList.map Prod.snd)) (h:Sw P t parts=some v):re P ρ w (Instr.build t ps) v:=by
  unfold Sw at h
  split at h
  case h_1=>cases h
  rename_i z hz
  simp only [Option.bind_eq_some_iff] at hz
  obtain ⟨i,hi,hz⟩:=hz
  have hzv:(zeroValue t).run P w=.ok z w:=by simp [zeroValue,typeInfo,hi,hz]
  have hzs:jk ρ w (z.cells.toList.map lk) z.cells.toList:=Im ρ w _
  simp only at h
  split at h
  · rename_i fs hu
    cases e:(fs.toList.all fun f=>(P.info? f.type).isSome) with
    | false=>rw [e] at h;cases h
    | true =>
      rw [e] at h
      simp only [cond_true,Option.map_eq_some_iff] at h
      obtain ⟨l,hf,rfl⟩:=h
      obtain ⟨c',q1,q2,_⟩:=IY h1 h2 hzs hf
      refine .plain (u:=.agg c') ?_ (.agg _ _ q2)
      have hm:(fs.mapM (m:=Sem) fun f=>do pure (f.offset,←sizeOf f.type)).run P w=.ok (fs.map fun f=>(f.offset,P.cellsOf f.type)) w:=by
        have:=Ej (P:=P) (w:=w) fs.toList e
        rw [Array.mapM_eq_mapM_toList]
        rw [map_eq_pure_bind,Sem.run_bind,this,Result.andThen_ok,Sem.run_pure]
        congr 1
        simp [←List.map_toArray]
      have hp:(fun i:Nat=>(fs.map fun (f:Field)=>(f.offset,P.cellsOf f.type))[i]?)=fun i:Nat=>(fs[i]?).map fun f=>(f.offset,P.cellsOf f.type):=by
        funext i;simp
      simp only [Instr.build,Sem.run_bind,hzv,Result.andThen_ok,run_underlying hu,hm,hp,q1]
      simp
  · rename_i n e hu
    split at h
    case h_2=>cases h
    rename_i inf he
    simp only [Option.map_eq_some_iff] at h
    obtain ⟨l,hf,rfl⟩:=h
    obtain ⟨c',q1,q2,_⟩:=IY h1 h2 hzs hf
    refine .plain (u:=.agg c') ?_ (.agg _ _ q2)
    have hs:P.cellsOf e=inf.size:=by simp [Program.cellsOf,he]
    simp only [Instr.build,Sem.run_bind,hzv,Result.andThen_ok,run_underlying hu,run_sizeOf w he,hs,q1]
    simp
  · cases h
def Fl(P : Program)(nid : Nat)(t : TypeId)(len : Nat)(parts : List (Nat × AV)) : Option (AV × ba) :=
  match P.underlying t with
  | some (.slice e) =>
    match P.info? e with
    | some inf =>
      match inf.zero with
      | some z =>
        let zs:=z.cells.toList.map lk
        bif Nat.beq zs.length inf.size&&Nat.ble (len*inf.size) 16777216 then
          (MM (fun i=>some (i*inf.size,inf.size)) ((List.range (len*inf.size)).map fun x=>zs.getD (x%zs.length) .any) parts).map fun l =>
            (.sl nid 1 inf.size 0 len len,Tc P e l)
        else none
      | none=>none
    | none=>none
  | _=>none
theorem IZ{P:Program}{ρ:aH}{w:World}{h:fj}{n nid:Nat}(hh:HR ρ w h n)(hb : ¬ ρ.ok nid)(hn:nid<n){t:TypeId}{len:Nat}{parts:List (Nat×AV)}{ps:Array (Nat×Value)}{v:AV}{d:ba} 
    (h1:parts.map Prod.fst=ps.toList.map Prod.fst) (h2:jk ρ w (parts.map Prod.snd) (ps.toList.map Prod.snd)) (ha:Fl P nid t len parts=some (v,d)) :
    Hp P ρ w h n nid (Instr.buildSlice t len ps) v (lQ h nid d):=by
  unfold Fl at ha
  split at ha
  case h_2=>cases ha
  rename_i e ht
  split at ha
  case h_2=>cases ha
  rename_i inf hi
  split at ha
  case h_2=>cases ha
  rename_i z hz
  simp only at ha
  cases hc:(Nat.beq (z.cells.toList.map lk).length inf.size&&Nat.ble (len*inf.size) 16777216) with
  | false=>rw [hc] at ha;cases ha
  | true =>
    rw [hc] at ha
    simp only [cond_true,Option.map_eq_some_iff,Prod.mk.injEq] at ha
    obtain ⟨l,hf,rfl,rfl⟩:=ha
    rw [Bool.and_eq_true] at hc
    have c1:z.cells.size=inf.size:=by have:=Nat.eq_of_beq_eq_true hc.1;simpa using this
    have c2:len*inf.size≤16777216:=by simpa [Nat.ble_eq] using hc.2
    have hbase:jk ρ w ((List.range (len*inf.size)).map fun x=>(z.cells.toList.map lk).getD (x%(z.cells.toList.map lk).length) .any) (madeCells z.cells (len*inf.size)).toList:=by
      refine zR (by simp [size_madeCells]) fun x v u q1 q2=>?_
      rw [List.getElem?_map] at q1
      have hx:x<len*inf.size:=by
        rcases Nat.lt_or_ge x (len*inf.size) with q | q
        · exact q
        · rw [List.getElem?_eq_none (by simpa using q)] at q1;cases q1
      rw [List.getElem?_range hx] at q1
      rw [Array.getElem?_toList,xY hx] at q2
      simp only [Option.map_some,Option.some.injEq] at q1 q2
      subst q1;subst q2
      have hpos : 0 < z.cells.size := by rw [c1]; rcases Nat.eq_zero_or_pos inf.size with q | q; · rw [q] at hx; omega
                                         · exact q
      have hm:x%z.cells.size<z.cells.size:=Nat.mod_lt _ hpos
      rw [getElem!_pos z.cells (x%z.cells.size) hm,List.getD_eq_getElem?_getD,List.getElem?_map]
      simp only [List.length_map,Array.length_toList,Array.getElem?_toList,Array.getElem?_eq_getElem hm,Option.map_some,Option.getD_some]
      exact zQ _ _ _
    obtain ⟨c',q1,q2,q3⟩:=IY h1 h2 hbase hf
    have hlen:c'.size=len*inf.size:=by
      have:=q2.length;rw [q3] at this;simpa using this.symm
    have hs:P.cellsOf e=inf.size:=by simp [Program.cellsOf,hi]
    refine GM hh hb hn (ML P e l) (.inl rfl) (c:=c') (t:=e) (u:=.slice (some ⟨w.heap.size,0,none⟩) len len) ?_ (jk.cells q2) ?_
    · have hzv:(zeroValue e).run P w=.ok z w:=by simp [zeroValue,typeInfo,hi,hz]
      have nb : ¬ (16777216<len*inf.size):=by omega
      have hm:madeCells z.cells (len*inf.size)=(Array.range (len*inf.size)).map (fun x=>z.cells[x%z.cells.size]!):=rfl
      by_cases h0:len*inf.size=0
      · have hm0:madeCells z.cells 0 = #[]:=by simp [madeCells,Array.range_zero']
        rw [h0,hm0] at q1
        simp [Instr.buildSlice,run_underlying ht,run_sizeOf w hi,hs,nb,h0,Array.range_zero',q1,newRow]
      · simp only [Instr.buildSlice,Sem.run_bind,run_underlying ht,Result.andThen_ok,run_sizeOf w hi,hs]
        rw [if_neg (by simpa using nb)]
        simp only [Sem.run_bind,Sem.run_pure,Result.andThen_ok,if_neg h0,hzv,←hm,q1]
        simp [newRow]
    · rintro _ _ rfl rfl
      have:VR (ρ.give nid w.heap.size) (w.alloc (.cells c' e)) (.sl nid 1 inf.size 0 len len) (.slice (some ⟨(ρ.give nid w.heap.size).at_ nid,0*1,none⟩) len len) :=
        .sl _ _ _ _ _ _ _ (.inl rfl) (Nat.le_refl _) (Nat.le_refl _) c' e (by simp only [aH.give,if_true];exact r7 w _) (by omega)
      simpa [aH.give] using this
def ba.count:ba→Nat
  | .fl xs=>xs.length
  | .ns _ xs=>xs.length
  | .bs xs=>xs.length
  | .ss xs=>xs.length
  | .vs xs=>xs.length
  | .rows w n _=>n*w
  | .cols n cs=>n*cs.length
def r9{α:Type}(i:Nat)(l:List α) :List α :=
  match i with
  | 0=>l
  | i=>l.drop i
theorem C3{α:Type}(i:Nat)(l:List α) :r9 i l=l.drop i:=by
  unfold r9;split<;>simp
def kj(a b:Nat) :Bool:=decide (a≤b)
def lG.part(i len:Nat) :lG→lG
  | .cf xs=>.cf ((r9 i xs).take len)
  | .ci k xs=>.ci k ((r9 i xs).take len)
  | .cb xs=>.cb ((r9 i xs).take len)
  | .cs xs=>.cs ((r9 i xs).take len)
  | .cfl xs=>.cfl ((r9 i xs).take len)
  | .cns k xs=>.cns k ((r9 i xs).take len)
def yw(i len:Nat) :List lG→List lG
  | []=>[]
  | c::cs=>c.part i len::yw i len cs
def ba.sub(d:ba)(w es i len:Nat) :Option (ba×List Bool) :=
  match d with
  | .fl xs=>bif Nat.beq w 1&&Nat.beq es 1 then some (.fl ((r9 i xs).take len),[kj (bV i len) xs.length]) else none
  | .ns k xs=>bif Nat.beq w 1&&Nat.beq es 1 then some (.ns k ((r9 i xs).take len),[kj (bV i len) xs.length]) else none
  | .bs xs=>bif Nat.beq w 1&&Nat.beq es 1 then some (.bs ((r9 i xs).take len),[kj (bV i len) xs.length]) else none
  | .ss xs=>bif Nat.beq w 1&&Nat.beq es 1 then some (.ss ((r9 i xs).take len),[kj (bV i len) xs.length]) else none
  | .vs xs=>bif Nat.beq w 1&&nN xs then some (.vs ((r9 i xs).take (len*es)),[kj (bV i (len*es)) xs.length]) else none
  | .rows w' n get=>bif Nat.beq w w'&&(Nat.beq w es&&Nat.blt 0 w) then some (.rows w len (fun a j=>get (bV i a) j),[kj (bV i len) n]) else none
  | .cols n cs=>bif Nat.beq w cs.length&&(Nat.beq w es&&Nat.blt 0 w) then some (.cols len (yw i len cs),[kj (bV i len) n]) else none
theorem DK(i len:Nat) :∀ (cs:List lG) (j:Nat),(yw i len cs)[j]? = (cs[j]?).map (lG.part i len)
  | [],j=>by simp [yw]
  | c::cs,0=>by simp [yw]
  | c::cs,j+1=>by simp [yw,DK i len cs j]
theorem yI(i len:Nat) :∀ (cs:List lG),(yw i len cs).length=cs.length
  | []=>rfl
  | c::cs=>by simp [yw,yI i len cs]
theorem MN{α:Type}{f:α→AV}{xs:List α}{i m x:Nat}{v:AV}(h:(((r9 i xs).take m)[x]?).map f=some v) :x<m∧(xs[i+x]?).map f=some v:=by
  rw [C3] at h
  simp only [Option.map_eq_some_iff] at h
  obtain ⟨a,h1,h2⟩:=h
  rw [List.getElem?_take] at h1
  split at h1
  · rename_i hx
    rw [List.getElem?_drop] at h1
    exact ⟨hx,by rw [h1];simp [h2]⟩
  · cases h1
theorem P0{i len:Nat}{c:lG}(h:i+len≤c.len) :(c.part i len).len=len:=by
  cases c<;>simp only [lG.part,lG.len,C3,List.length_take,List.length_drop] at h ⊢ <;> omega
theorem OF{i len x:Nat}{c:lG}{v:AV}(h:(c.part i len).cell? x=some v) :x<len∧c.cell? (i+x)=some v:=by
  cases c<;>simp only [lG.part,lG.cell?] at h ⊢ <;> exact MN h
structure Te (d':ba) (n:Nat) (cell:Nat→Option AV):Prop where
  rk:d'.recKept
  cells:∀ x v,d'.cell? x=some v→x<n∧cell x=some v
  all:∀ x,x<n→∃ v,cell x=some v∧v.one=true
  count:d'.count=n
theorem I0{d d':ba}{w es i len:Nat}{obs:List Bool}(hrk:d.recKept)(h:d.sub w es i len=some (d',obs))(ho:aY obs) :Te d' (len*es) (fun x=>d.cell? (i*w+x)):=by
  have le:∀ {a b:Nat},kj (bV i a) b=true→i+a≤b:=fun h=>by have:=of_decide_eq_true h;simpa using this
  have two:∀ {a b:Nat},(Nat.beq w a&&Nat.beq es b)=true→w=a∧es=b:=fun h=>by rw [Bool.and_eq_true] at h;exact ⟨Nat.eq_of_beq_eq_true h.1,Nat.eq_of_beq_eq_true h.2⟩
  have typed:∀ {α:Type} {f:α→AV} {xs:List α} {c:Nat→Option AV} {bl:ba},w=1→es=1→(∀ x,bl.cell? x=(((r9 i xs).take len)[x]?).map f)→bl.recKept→bl.count=((r9 i xs).take len).length →
      (∀ x,c x=(xs[x]?).map f)→(∀ a,(f a).one=true)→i+len≤xs.length→Te bl (len*es) (fun x=>c (i*w+x)):=by
    intro α f xs c bl hw he hb hr hcnt hc h1 hle
    subst hw;subst he
    refine ⟨hr,fun x v hv=>?_,fun x hx=>?_,?_⟩
    · rw [hb] at hv
      obtain ⟨q1,q2⟩:=MN hv
      exact ⟨by omega,by rw [Nat.mul_one,hc];exact q2⟩
    · refine ⟨f (xs[i+x]'(by omega)),?_,h1 _⟩
      rw [Nat.mul_one,hc,List.getElem?_eq_getElem (by omega)];rfl
    · rw [hcnt,C3,List.length_take,List.length_drop];omega
  cases d with
  | fl xs =>
    simp only [ba.sub] at h
    cases e:(Nat.beq w 1&&Nat.beq es 1) with
    | false=>rw [e] at h;cases h
    | true=>rw [e] at h;simp only [cond_true,Option.some.injEq,Prod.mk.injEq] at h;obtain ⟨rfl,rfl⟩:=h;exact typed (f:=AV.flt false) (two e).1 (two e).2 (fun _=>rfl) trivial rfl (fun _=>rfl) (fun _=>rfl) (le ho.1)
  | ns k xs =>
    simp only [ba.sub] at h
    cases e:(Nat.beq w 1&&Nat.beq es 1) with
    | false=>rw [e] at h;cases h
    | true=>rw [e] at h;simp only [cond_true,Option.some.injEq,Prod.mk.injEq] at h;obtain ⟨rfl,rfl⟩:=h;exact typed (f:=AV.int k) (two e).1 (two e).2 (fun _=>rfl) trivial rfl (fun _=>rfl) (fun _=>rfl) (le ho.1)
  | bs xs =>
    simp only [ba.sub] at h
    cases e:(Nat.beq w 1&&Nat.beq es 1) with
    | false=>rw [e] at h;cases h
    | true=>rw [e] at h;simp only [cond_true,Option.some.injEq,Prod.mk.injEq] at h;obtain ⟨rfl,rfl⟩:=h;exact typed (f:=AV.bool false) (two e).1 (two e).2 (fun _=>rfl) trivial rfl (fun _=>rfl) (fun _=>rfl) (le ho.1)
  | ss xs =>
    simp only [ba.sub] at h
    cases e:(Nat.beq w 1&&Nat.beq es 1) with
    | false=>rw [e] at h;cases h
    | true=>rw [e] at h;simp only [cond_true,Option.some.injEq,Prod.mk.injEq] at h;obtain ⟨rfl,rfl⟩:=h;exact typed (f:=AV.str) (two e).1 (two e).2 (fun _=>rfl) trivial rfl (fun _=>rfl) (fun _=>rfl) (le ho.1)
  | vs xs =>
    simp only [ba.sub] at h
    cases e:(Nat.beq w 1&&nN xs) with
    | false=>rw [e] at h;cases h
    | true =>
      rw [e] at h;simp only [cond_true,Option.some.injEq,Prod.mk.injEq] at h;obtain ⟨rfl,rfl⟩:=h
      rw [Bool.and_eq_true] at e
      have e1:=Nat.eq_of_beq_eq_true e.1
      subst e1
      have hle:=le ho.1
      refine ⟨trivial,fun x v hv=>?_,fun x hx=>?_,?_⟩
      · have:(((r9 i xs).take (len*es))[x]?).map id=some v:=by simpa [ba.cell?] using hv
        obtain ⟨q1,q2⟩:=MN this
        exact ⟨q1,by rw [Nat.mul_one];simpa [ba.cell?] using q2⟩
      · refine ⟨xs[i+x]'(by omega),?_,DJ e.2 (i+x) _ (List.getElem?_eq_getElem (by omega))⟩
        rw [Nat.mul_one];simp only [ba.cell?];exact List.getElem?_eq_getElem (by omega)
      · simp only [ba.count,C3,List.length_take,List.length_drop];omega
  | rows w' n get =>
    simp only [ba.sub] at h
    cases e:(Nat.beq w w'&&(Nat.beq w es&&Nat.blt 0 w)) with
    | false=>rw [e] at h;cases h
    | true =>
      rw [e] at h;simp only [cond_true,Option.some.injEq,Prod.mk.injEq] at h;obtain ⟨rfl,rfl⟩:=h
      simp only [Bool.and_eq_true] at e
      obtain ⟨e1,e2,e3⟩:=e
      have e1:=Nat.eq_of_beq_eq_true e1;have e2:=Nat.eq_of_beq_eq_true e2
      subst e1;subst e2
      have hw:0<w:=by simpa [Nat.blt_eq] using e3
      have hle:=le ho.1
      have yH:∀ x,(i*w+x)/w=i+x/w∧(i*w+x)%w=x%w:=by
        intro x
        exact ⟨by rw [Nat.add_comm,Nat.add_mul_div_right _ _ hw,Nat.add_comm],by rw [Nat.add_comm,Nat.add_mul_mod_self_right]⟩
      refine ⟨fun a j=>hrk _ _,fun x v hv=>?_,fun x hx=>?_,rfl⟩
      · simp only [ba.cell?,aB] at hv ⊢
        split at hv
        · rename_i hlt
          refine ⟨(Nat.div_lt_iff_lt_mul hw).1 hlt,?_⟩
          rw [(yH x).1,(yH x).2,if_pos (by omega)];exact hv
        · cases hv
      · have hlt:=(Nat.div_lt_iff_lt_mul hw).2 hx
        refine ⟨get (i+x/w) (x%w),?_,(hrk _ _).2⟩
        simp only [ba.cell?]
        rw [(yH x).1,(yH x).2,if_pos (by omega)]
  | cols n cs =>
    simp only [ba.sub] at h
    cases e:(Nat.beq w cs.length&&(Nat.beq w es&&Nat.blt 0 w)) with
    | false=>rw [e] at h;cases h
    | true =>
      rw [e] at h;simp only [cond_true,Option.some.injEq,Prod.mk.injEq] at h;obtain ⟨rfl,rfl⟩:=h
      simp only [Bool.and_eq_true] at e
      obtain ⟨e1,e2,e3⟩:=e
      have e1:=Nat.eq_of_beq_eq_true e1;have e2:=Nat.eq_of_beq_eq_true e2
      subst e1;subst e2
      have hw:0<cs.length:=by simpa [Nat.blt_eq] using e3
      have hle:=le ho.1
      have yH:∀ x,(i*cs.length+x)/cs.length=i+x/cs.length∧(i*cs.length+x)%cs.length=x%cs.length:=by
        intro x
        exact ⟨by rw [Nat.add_comm,Nat.add_mul_div_right _ _ hw,Nat.add_comm],by rw [Nat.add_comm,Nat.add_mul_mod_self_right]⟩
      refine ⟨fun c hc=>?_,fun x v hv=>?_,fun x hx=>?_,by simp [ba.count,yI]⟩
      · obtain ⟨j,hj⟩:=List.getElem?_of_mem hc
        rw [DK,Option.map_eq_some_iff] at hj
        obtain ⟨c',h1,rfl⟩:=hj
        exact P0 (by rw [hrk c' (List.mem_of_getElem? h1)];exact hle)
      · obtain ⟨c,h1,_,h3⟩:=mV hv
        rw [yI] at h1 h3
        rw [DK,Option.map_eq_some_iff] at h1
        obtain ⟨c',h1,rfl⟩:=h1
        obtain ⟨q1,q2⟩:=OF h3
        refine ⟨(Nat.div_lt_iff_lt_mul hw).1 q1,?_⟩
        simp only [ba.cell?,(yH x).1,(yH x).2,h1,Option.bind_some];exact q2
      · have hlt:=(Nat.div_lt_iff_lt_mul hw).2 hx
        have hm:x%cs.length<cs.length:=Nat.mod_lt _ hw
        obtain ⟨v,hv⟩:=QW (c:=cs[x%cs.length]) (i:=i+x/cs.length) (by rw [hrk _ (List.getElem_mem hm)];omega)
        refine ⟨v,?_,(BE hv).2.2⟩
        simp only [ba.cell?,(yH x).1,(yH x).2,List.getElem?_eq_getElem hm,Option.bind_some];exact hv
def lG.app:lG→lG→Option lG
  | .cf a,.cf b=>some (.cf (a++b))
  | .ci k a,.ci k' b=>bif jh k k' then some (.ci k (a++b)) else none
  | .cb a,.cb b=>some (.cb (a++b))
  | .cs a,.cs b=>some (.cs (a++b))
  | .cfl a,.cfl b=>some (.cfl (a++b))
  | .cns k a,.cns k' b=>bif jh k k' then some (.cns k (a++b)) else none
  | _,_=>none
def Mr:List lG→List lG→Option (List lG)
  | [],[]=>some []
  | a::l,b::m =>
    match a.app b,Mr l m with
    | some c,some cs=>some (c::cs)
    | _,_=>none
  | _,_=>none
def Sx(old new:ba) :Option ba :=
  match old,new with
  | .fl a,.fl b=>some (.fl (a++b))
  | .ns k a,.ns k' b=>bif jh k k' then some (.ns k (a++b)) else none
  | .bs a,.bs b=>some (.bs (a++b))
  | .ss a,.ss b=>some (.ss (a++b))
  | .vs a,.vs b=>some (.vs (a++b))
  | .rows w n g,.rows w' n' g'=>bif Nat.beq w w'&&Nat.blt 0 w then some (.rows w (n+n') fun i j=>bif Nat.blt i n then g i j else g' (i-n) j) else none
  | .rows w n g,.vs l=>bif iR l&&(nN l&&(Nat.blt 0 w&&Nat.beq (l.length/w*w) l.length)) then some (.rows w (n+l.length/w) fun i j=>bif Nat.blt i n then g i j else l.getD ((i-n)*w+j) .nptr) else none
  | .cols n cs,.cols n' cs'=>bif Nat.blt 0 cs.length then (Mr cs cs').map (.cols (n+n')) else none
  | _,_=>none
def Rb:List AV→Option (List (List Nat)×List Bool)
  | []=>some ([],[])
  | .nsl::l=>(Rb l).map fun r=>([]::r.1,r.2)
  | .imm lv (.fl ys) 1 1 o n::l=>bif lv.isFree then (Rb l).map fun r=>(((ys.drop o).take n)::r.1,decide (o+n≤ys.length)::r.2) else none
  | _::_=>none
def Rc(k:IntKind) :List AV→Option (List (List Int)×List Bool)
  | []=>some ([],[])
  | .nsl::l=>(Rc k l).map fun r=>([]::r.1,r.2)
  | .imm lv (.ns k' ys) 1 1 o n::l=>bif jh k k'&&lv.isFree then (Rc k l).map fun r=>(((ys.drop o).take n)::r.1,decide (o+n≤ys.length)::r.2) else none
  | _::_=>none
def UO(P:Program)(t:TypeId)(l:List AV) :Option (lG×List Bool) :=
  match P.underlying t with
  | some (.float .f64)=>(So l).map fun xs=>(.cf xs,[])
  | some (.int k)=>(Sp k l).map fun xs=>(.ci k xs,[])
  | some .bool=>(Sq l).map fun xs=>(.cb xs,[])
  | some .string=>(Sr l).map fun xs=>(.cs xs,[])
  | some (.slice e) =>
    match P.underlying e with
    | some (.float .f64)=>(Rb l).map fun r=>(.cfl r.1,r.2)
    | some (.int k)=>(Rc k l).map fun r=>(.cns k r.1,r.2)
    | _=>none
  | _=>none
def Ip(l:List AV)(es j:Nat) :Nat→Nat→List AV
  | 0,_=>[]
  | m+1,i=>l.getD (i*es+j) .nptr::Ip l es j m (i+1)
def P3(P:Program)(l:List AV)(es m:Nat) :List TypeId→Nat→Option (List lG×List Bool)
  | [],_=>some ([],[])
  | t::ts,j =>
    match UO P t (Ip l es j m 0),P3 P l es m ts (j+1) with
    | some (c,o),some (cs,o')=>some (c::cs,o++o')
    | _,_=>none
def ba.norm(P:Program)(e:TypeId)(d:ba)(es:Nat) :ba×List Bool :=
  match d with
  | .vs l =>
    match P3 P l es (l.length/es) (Td P e) 0 with
    | some (cs,o)=>bif Nat.beq cs.length es&&(Nat.blt 0 es&&Nat.beq (l.length/es*es) l.length) then (.cols (l.length/es) cs,o) else (.vs l,[])
    | none=>(.vs l,[])
  | d=>(d,[])
theorem Fm:∀ {l:List AV},iR l=true→∀ (x:Nat) (v:AV),l[x]? = some v→v.kept=true
  | [],_,x,v,h=>by simp at h
  | a::l,ha,0,v,h=>by simp at h;subst h;simp only [iR,Bool.and_eq_true] at ha;exact ha.1
  | a::l,ha,x+1,v,h=>by simp only [iR,Bool.and_eq_true] at ha;exact Fm ha.2 x v (by simpa using h)
theorem TR{l:List AV}(h1:iR l=true)(h2:nN l=true)(x:Nat) :(l.getD x .nptr).kept=true∧(l.getD x .nptr).one=true:=by
  rw [List.getD_eq_getElem?_getD]
  cases h:l[x]? with
  | none=>exact ⟨rfl,rfl⟩
  | some v=>exact ⟨Fm h1 x v h,DJ h2 x v h⟩
theorem Rd:∀ {l:List AV} {xs:List Nat},So l=some xs→xs.length=l.length∧∀ (i:Nat) v,(xs[i]?).map (AV.flt false)=some v→∃ v0,l[i]? = some v0∧bL v0 v
  | [],xs,h=>by cases h;exact ⟨rfl,fun i v hv=>by simp at hv⟩
  | .flt ex x::l,xs,h=>by
    simp only [So,Option.map_eq_some_iff] at h
    obtain ⟨ys,h1,rfl⟩:=h
    obtain ⟨a1,a2⟩:=Rd h1
    refine ⟨by simp [a1],fun i v hv=>?_⟩
    cases i with
    | zero=>simp at hv;subst hv;exact ⟨_,rfl,zq (d:=.fl [])⟩
    | succ i=>exact a2 i v (by simpa using hv)
  | .int .. :: _,_,h | .bool .. :: _,_,h | .str _::_,_,h | .nptr::_,_,h | .ptr .. :: _,_,h | .iptr .. :: _,_,h | .nsl::_,_,h | .esl::_,_,h | .zsl _::_,_,h | .nan::_,_,h | .sl .. :: _,_,h | .imm .. :: _,_,h | .fn .. :: _,_,h | .nfn::_,_,h
  | .agg _::_,_,h | .tup _::_,_,h | .iface .. :: _,_,h | .niface::_,_,h | .any::_,_,h=>by cases h
theorem Re{k:IntKind} :∀ {l:List AV} {xs:List Int},Sp k l=some xs→xs.length=l.length∧∀ (i:Nat) v,(xs[i]?).map (AV.int k)=some v→∃ v0,l[i]? = some v0∧bL v0 v
  | [],xs,h=>by cases h;exact ⟨rfl,fun i v hv=>by simp at hv⟩
  | .int k' x::l,xs,h=>by
    simp only [Sp] at h
    cases e:jh k k' with
    | false=>rw [e] at h;cases h
    | true =>
    rw [e] at h
    have hk:k=k':=of_decide_eq_true e
    subst hk
    simp only [cond_true,Option.map_eq_some_iff] at h
    obtain ⟨ys,h1,rfl⟩:=h
    obtain ⟨a1,a2⟩:=Re h1
    refine ⟨by simp [a1],fun i v hv=>?_⟩
    cases i with
    | zero=>simp at hv;subst hv;exact ⟨_,rfl,bL.refl _⟩
    | succ i=>exact a2 i v (by simpa using hv)
  | .flt .. :: _,_,h | .bool .. :: _,_,h | .str _::_,_,h | .nptr::_,_,h | .ptr .. :: _,_,h | .iptr .. :: _,_,h | .nsl::_,_,h | .esl::_,_,h | .zsl _::_,_,h | .nan::_,_,h | .sl .. :: _,_,h | .imm .. :: _,_,h | .fn .. :: _,_,h | .nfn::_,_,h
  | .agg _::_,_,h | .tup _::_,_,h | .iface .. :: _,_,h | .niface::_,_,h | .any::_,_,h=>by cases h
theorem Rf:∀ {l:List AV} {xs:List Bool},Sq l=some xs→xs.length=l.length∧∀ (i:Nat) v,(xs[i]?).map (AV.bool false)=some v→∃ v0,l[i]? = some v0∧bL v0 v
  | [],xs,h=>by cases h;exact ⟨rfl,fun i v hv=>by simp at hv⟩
  | .bool kn x::l,xs,h=>by
    simp only [Sq,Option.map_eq_some_iff] at h
    obtain ⟨ys,h1,rfl⟩:=h
    obtain ⟨a1,a2⟩:=Rf h1
    refine ⟨by simp [a1],fun i v hv=>?_⟩
    cases i with
    | zero=>simp at hv;subst hv;exact ⟨_,rfl,zq (d:=.bs [])⟩
    | succ i=>exact a2 i v (by simpa using hv)
  | .flt .. :: _,_,h | .int .. :: _,_,h | .str _::_,_,h | .nptr::_,_,h | .ptr .. :: _,_,h | .iptr .. :: _,_,h | .nsl::_,_,h | .esl::_,_,h | .zsl _::_,_,h | .nan::_,_,h | .sl .. :: _,_,h | .imm .. :: _,_,h | .fn .. :: _,_,h | .nfn::_,_,h
  | .agg _::_,_,h | .tup _::_,_,h | .iface .. :: _,_,h | .niface::_,_,h | .any::_,_,h=>by cases h
theorem Rg:∀ {l:List AV} {xs:List ByteArray},Sr l=some xs→xs.length=l.length∧∀ (i:Nat) v,(xs[i]?).map AV.str=some v→∃ v0,l[i]? = some v0∧bL v0 v
  | [],xs,h=>by cases h;exact ⟨rfl,fun i v hv=>by simp at hv⟩
  | .str x::l,xs,h=>by
    simp only [Sr,Option.map_eq_some_iff] at h
    obtain ⟨ys,h1,rfl⟩:=h
    obtain ⟨a1,a2⟩:=Rg h1
    refine ⟨by simp [a1],fun i v hv=>?_⟩
    cases i with
    | zero=>simp at hv;subst hv;exact ⟨_,rfl,bL.refl _⟩
    | succ i=>exact a2 i v (by simpa using hv)
  | .flt .. :: _,_,h | .int .. :: _,_,h | .bool .. :: _,_,h | .nptr::_,_,h | .ptr .. :: _,_,h | .iptr .. :: _,_,h | .nsl::_,_,h | .esl::_,_,h | .zsl _::_,_,h | .nan::_,_,h | .sl .. :: _,_,h | .imm .. :: _,_,h | .fn .. :: _,_,h | .nfn::_,_,h
  | .agg _::_,_,h | .tup _::_,_,h | .iface .. :: _,_,h | .niface::_,_,h | .any::_,_,h=>by cases h
theorem JZ:∀ {l:List AV} {r:List (List Nat)×List Bool},Rb l=some r→aY r.2→r.1.length=l.length∧∀ (i:Nat) v,(r.1[i]?).map (fun l=>AV.imm .free (.fl l) 1 1 0 l.length)=some v→∃ v0,l[i]? = some v0∧bL v0 v
  | [],r,h,_=>by cases h;exact ⟨rfl,fun i v hv=>by simp at hv⟩
  | a::l,r,h,ho=>by
    unfold Rb at h
    split at h
    · rename_i q;cases q
    · rename_i l' q
      cases q
      simp only [Option.map_eq_some_iff] at h
      obtain ⟨r',h1,rfl⟩:=h
      obtain ⟨a1,a2⟩:=JZ h1 ho
      refine ⟨by simp [a1],fun i v hv=>?_⟩
      cases i with
      | zero=>simp at hv;subst hv;exact ⟨_,rfl,C1 _ trivial rfl rfl⟩
      | succ i=>exact a2 i v (by simpa using hv)
    · rename_i lv ys o n l' q
      cases q
      cases e:lv.isFree with
      | false=>rw [e] at h;cases h
      | true =>
      rw [e] at h
      simp only [cond_true,Option.map_eq_some_iff] at h
      obtain ⟨r',h1,rfl⟩:=h
      obtain ⟨a1,a2⟩:=JZ h1 ho.2
      refine ⟨by simp [a1],fun i v hv=>?_⟩
      cases i with
      | zero=>simp only [List.getElem?_cons_zero,Option.map_some,Option.some.injEq] at hv;subst hv;exact ⟨_,rfl,IV e (of_decide_eq_true ho.1)⟩
      | succ i=>exact a2 i v (by simpa using hv)
    · cases h
theorem J0{k:IntKind} :∀ {l:List AV} {r:List (List Int)×List Bool},Rc k l=some r→aY r.2→r.1.length=l.length∧∀ (i:Nat) v,(r.1[i]?).map (fun l=>AV.imm .free (.ns k l) 1 1 0 l.length)=some v→∃ v0,l[i]? = some v0∧bL v0 v
  | [],r,h,_=>by cases h;exact ⟨rfl,fun i v hv=>by simp at hv⟩
  | a::l,r,h,ho=>by
    unfold Rc at h
    split at h
    · rename_i q;cases q
    · rename_i l' q
      cases q
      simp only [Option.map_eq_some_iff] at h
      obtain ⟨r',h1,rfl⟩:=h
      obtain ⟨a1,a2⟩:=J0 h1 ho
      refine ⟨by simp [a1],fun i v hv=>?_⟩
      cases i with
      | zero=>simp at hv;subst hv;exact ⟨_,rfl,C1 _ trivial rfl rfl⟩
      | succ i=>exact a2 i v (by simpa using hv)
    · rename_i lv k' ys o n l' q
      cases q
      cases e:(jh k k'&&lv.isFree) with
      | false=>rw [e] at h;cases h
      | true =>
      rw [e] at h
      rw [Bool.and_eq_true] at e
      have hk:k=k':=of_decide_eq_true e.1
      subst hk
      simp only [cond_true,Option.map_eq_some_iff] at h
      obtain ⟨r',h1,rfl⟩:=h
      obtain ⟨a1,a2⟩:=J0 h1 ho.2
      refine ⟨by simp [a1],fun i v hv=>?_⟩
      cases i with
      | zero=>simp only [List.getElem?_cons_zero,Option.map_some,Option.some.injEq] at hv;subst hv;exact ⟨_,rfl,IW e.2 (of_decide_eq_true ho.1)⟩
      | succ i=>exact a2 i v (by simpa using hv)
    · cases h
theorem Sy{P:Program}{t:TypeId}{l:List AV}{c:lG}{o:List Bool}(h:UO P t l=some (c,o))(ho:aY o) :c.len=l.length∧∀ i v,c.cell? i=some v→∃ v0,l[i]? = some v0∧bL v0 v:=by
  unfold UO at h
  split at h
  · simp only [Option.map_eq_some_iff,Prod.mk.injEq] at h;obtain ⟨xs,h1,rfl,rfl⟩:=h;exact Rd h1
  · simp only [Option.map_eq_some_iff,Prod.mk.injEq] at h;obtain ⟨xs,h1,rfl,rfl⟩:=h;exact Re h1
  · simp only [Option.map_eq_some_iff,Prod.mk.injEq] at h;obtain ⟨xs,h1,rfl,rfl⟩:=h;exact Rf h1
  · simp only [Option.map_eq_some_iff,Prod.mk.injEq] at h;obtain ⟨xs,h1,rfl,rfl⟩:=h;exact Rg h1
  · split at h
    · simp only [Option.map_eq_some_iff,Prod.mk.injEq] at h;obtain ⟨xs,h1,rfl,rfl⟩:=h;exact JZ h1 ho
    · simp only [Option.map_eq_some_iff,Prod.mk.injEq] at h;obtain ⟨xs,h1,rfl,rfl⟩:=h;exact J0 h1 ho
    · cases h
  · cases h
theorem KZ(l:List AV)(es j:Nat) :∀ (m i:Nat),(Ip l es j m i).length=m∧∀ x,x<m→(Ip l es j m i)[x]? = some (l.getD ((i+x)*es+j) .nptr)
  | 0,i=>⟨rfl,fun x hx=>by omega⟩
  | m+1,i=>by
    obtain ⟨a1,a2⟩:=KZ l es j m (i+1)
    refine ⟨by simp [Ip,a1],fun x hx=>?_⟩
    cases x with
    | zero=>simp [Ip]
    | succ x =>
      simp only [Ip,List.getElem?_cons_succ]
      rw [a2 x (by omega)]
      have:i+1+x=i+(x+1):=by omega
      rw [this]
theorem K0{P:Program}{l:List AV}{es m:Nat} :∀ {ts:List TypeId} {j:Nat} {cs:List lG} {o:List Bool},P3 P l es m ts j=some (cs,o)→aY o →
    (∀ c∈cs,c.len=m)∧∀ (q:Nat) c i v,cs[q]? = some c→c.cell? i=some v→i<m∧bL (l.getD (i*es+(j+q)) .nptr) v
  | [],j,cs,o,h,_=>by cases h;exact ⟨(fun c hc=>by cases hc),(fun q c i v hq=>by simp at hq)⟩
  | t::ts,j,cs,o,h,ho=>by
    simp only [P3] at h
    split at h
    case h_2=>cases h
    rename_i c o1 cs' o2 h1 h2
    simp only [Option.some.injEq,Prod.mk.injEq] at h;obtain ⟨rfl,rfl⟩:=h
    rw [ck] at ho
    obtain ⟨a1,a2⟩:=K0 h2 ho.2
    obtain ⟨b1,b2⟩:=Sy h1 ho.1
    obtain ⟨s1,s2⟩:=KZ l es j m 0
    refine ⟨fun x hx=>?_,fun q x i v hq hx=>?_⟩
    · rcases List.mem_cons.1 hx with rfl | r
      · rw [b1,s1]
      · exact a1 x r
    · cases q with
      | zero =>
        simp at hq;subst hq
        have hlt:i<m:=by have:=Fj hx;rw [b1,s1] at this;exact this
        obtain ⟨v0,k1,k2⟩:=b2 i v hx
        rw [s2 i hlt,Option.some.injEq,Nat.zero_add] at k1
        rw [Nat.add_zero,k1];exact ⟨hlt,k2⟩
      | succ q =>
        have:=a2 q x i v (by simpa using hq) hx
        have e:j+1+q=j+(q+1):=by omega
        rw [e] at this;exact this
theorem J1(P:Program)(e:TypeId)(d:ba)(es:Nat)(hrk:d.recKept)(ho:aY (d.norm P e es).2) :(d.norm P e es).1.recKept∧(∀ x v,(d.norm P e es).1.cell? x=some v→∃ v0,d.cell? x=some v0∧bL v0 v)∧(d.norm P e es).1.count=d.count:=by
  have same:∀ {d':ba},d'=d→d'.recKept∧(∀ x v,d'.cell? x=some v→∃ v0,d.cell? x=some v0∧bL v0 v)∧d'.count=d.count:=by
    rintro d' rfl;exact ⟨hrk,fun x v h=>⟨v,h,bL.refl _⟩,rfl⟩
  cases d with
  | vs l =>
    simp only [ba.norm] at ho ⊢
    split
    · rename_i cs o hc
      rw [hc] at ho
      cases e1:(Nat.beq cs.length es&&(Nat.blt 0 es&&Nat.beq (l.length/es*es) l.length)) with
      | false=>exact same rfl
      | true =>
        simp only [e1,cond_true] at ho ⊢
        simp only [Bool.and_eq_true] at e1
        obtain ⟨q1,q2,q3⟩:=e1
        have q1:=Nat.eq_of_beq_eq_true q1
        have q3:=Nat.eq_of_beq_eq_true q3
        have q2:0<es:=by simpa [Nat.blt_eq] using q2
        subst q1
        obtain ⟨a1,a2⟩:=K0 hc ho
        refine ⟨a1,fun x v hx=>?_,by simp only [ba.count];exact q3⟩
        obtain ⟨c,h1,_,h3⟩:=mV hx
        obtain ⟨r1,r2⟩:=a2 _ c _ v h1 h3
        have hdm:=Nat.div_add_mod x cs.length
        rw [Nat.zero_add,Nat.mul_comm,hdm] at r2
        have hlt:x<l.length:=by rw [←q3];exact (Nat.div_lt_iff_lt_mul q2).1 r1
        refine ⟨l[x],by simp only [ba.cell?];exact List.getElem?_eq_getElem hlt,?_⟩
        rw [List.getD_eq_getElem?_getD,List.getElem?_eq_getElem hlt] at r2;exact r2
    · exact same rfl
  | _=>exact same rfl
theorem UP{a b:Nat}(h : ¬ a<b) :Nat.blt a b=false:=by
  cases e:Nat.blt a b with
  | false=>rfl
  | true=>exact absurd (by simpa [Nat.blt_eq] using e) h
theorem sa{α:Type}{f:α→AV}{a b:List α}{x:Nat}{v:AV}(h:((a++b)[x]?).map f=some v) :(x<a.length∧(a[x]?).map f=some v)∨(a.length≤x∧(b[x-a.length]?).map f=some v):=by
  rw [List.getElem?_append] at h
  split at h
  · rename_i hx;exact .inl ⟨hx,h⟩
  · rename_i hx;exact .inr ⟨by omega,h⟩
theorem P4{a b c:lG}(h:a.app b=some c) :c.len=a.len+b.len∧∀ i v,c.cell? i=some v→(i<a.len∧a.cell? i=some v)∨(a.len≤i∧b.cell? (i-a.len)=some v):=by
  unfold lG.app at h
  split at h
  · cases h;exact ⟨by simp [lG.len],fun i v hv=>sa (f:=AV.flt false) hv⟩
  · rename_i k a k' b
    cases e:jh k k' with
    | false=>rw [e] at h;cases h
    | true =>
      rw [e] at h;cases h
      have hk:k=k':=of_decide_eq_true e
      subst hk
      exact ⟨by simp [lG.len],fun i v hv=>sa (f:=AV.int k) hv⟩
  · cases h;exact ⟨by simp [lG.len],fun i v hv=>sa (f:=AV.bool false) hv⟩
  · cases h;exact ⟨by simp [lG.len],fun i v hv=>sa (f:=AV.str) hv⟩
  · cases h;exact ⟨by simp [lG.len],fun i v hv=>sa (f:=fun l=>AV.imm .free (.fl l) 1 1 0 l.length) hv⟩
  · rename_i k a k' b
    cases e:jh k k' with
    | false=>rw [e] at h;cases h
    | true =>
      rw [e] at h;cases h
      have hk:k=k':=of_decide_eq_true e
      subst hk
      exact ⟨by simp [lG.len],fun i v hv=>sa (f:=fun l=>AV.imm .free (.ns k l) 1 1 0 l.length) hv⟩
  · cases h
theorem I1:∀ {a b c:List lG},Mr a b=some c→a.length=c.length∧b.length=c.length∧∀ (j:Nat) (z:lG),c[j]? = some z→∃ x y:lG,a[j]? = some x∧b[j]? = some y∧x.app y=some z
  | [],[],c,h=>by cases h;exact ⟨rfl,rfl,(fun j z hz=>by simp at hz)⟩
  | [],_::_,c,h=>by cases h
  | _::_,[],c,h=>by cases h
  | a::l,b::m,c,h=>by
    simp only [Mr] at h
    split at h
    case h_2=>cases h
    rename_i d ds h1 h2
    cases h
    obtain ⟨a1,a2,a3⟩:=I1 h2
    refine ⟨by simp [a1],by simp [a2],fun j z hz=>?_⟩
    cases j with
    | zero=>simp at hz;subst hz;exact ⟨a,b,rfl,rfl,h1⟩
    | succ j=>obtain ⟨x,y,q1,q2,q3⟩:=a3 j z (by simpa using hz);exact ⟨x,y,by simpa using q1,by simpa using q2,q3⟩
theorem app_spec{old new d:ba}(ho:old.recKept)(hn:new.recKept)(h:Sx old new=some d) :
    d.recKept∧(∀ x v,d.cell? x=some v→(x<old.count∧old.cell? x=some v)∨(old.count≤x∧new.cell? (x-old.count)=some v)):=by
  unfold Sx at h
  split at h
  · cases h;exact ⟨trivial,fun x v hx=>sa (f:=AV.flt false) hx⟩
  · rename_i k a k' b
    cases e:jh k k' with
    | false=>rw [e] at h;cases h
    | true =>
      rw [e] at h;cases h
      have:k=k':=of_decide_eq_true e
      subst this
      exact ⟨trivial,fun x v hx=>sa (f:=AV.int k) hx⟩
  · cases h;exact ⟨trivial,fun x v hx=>sa (f:=AV.bool false) hx⟩
  · cases h;exact ⟨trivial,fun x v hx=>sa (f:=AV.str) hx⟩
  · cases h
    refine ⟨trivial,fun x v hx=>?_⟩
    have:=sa (f:=id) (v:=v) (by simpa [ba.cell?] using hx)
    simpa [ba.cell?,ba.count] using this
  · rename_i w n g w' n' g'
    cases e:(Nat.beq w w'&&Nat.blt 0 w) with
    | false=>rw [e] at h;cases h
    | true =>
      rw [e] at h;cases h
      rw [Bool.and_eq_true] at e
      have e1:=Nat.eq_of_beq_eq_true e.1
      subst e1
      have hw:0<w:=by simpa [Nat.blt_eq] using e.2
      refine ⟨fun i j=>?_,fun x v hx=>?_⟩
      · cases q:Nat.blt i n with
        | true=>simp only [q,cond_true];exact ho i j
        | false=>simp only [q,cond_false];exact hn _ j
      · simp only [ba.cell?, ba.count] at hx ⊢
        split at hx
        · rename_i hlt
          by_cases hl:x/w<n
          · have:Nat.blt (x/w) n=true:=by simpa [Nat.blt_eq] using hl
            rw [this] at hx
            exact .inl ⟨(Nat.div_lt_iff_lt_mul hw).1 hl,by rw [if_pos hl];exact hx⟩
          · have : Nat.blt (x / w) n = false := UP hl
            rw [this] at hx
            have hge : n * w ≤ x := by rcases Nat.lt_or_ge x (n * w) with q | q; · exact absurd ((Nat.div_lt_iff_lt_mul hw).2 q) hl
                                       · exact q
            have d1:(x-n*w)/w=x/w-n:=by rw [Nat.mul_comm n w,Nat.sub_mul_div]
            have d2:(x-n*w)%w=x%w:=by rw [Nat.mul_comm n w,Nat.sub_mul_mod (by rw [Nat.mul_comm];exact hge)]
            refine .inr ⟨hge,?_⟩
            have hx':some (g' (x/w-n) (x%w))=some v:=hx
            have d3:(x-n*w)/w<n':=by omega
            rw [←hx',←d1,←d2];exact if_pos d3
        · cases hx
  · rename_i w n g l
    cases e:(iR l&&(nN l&&(Nat.blt 0 w&&Nat.beq (l.length/w*w) l.length))) with
    | false=>rw [e] at h;cases h
    | true =>
      rw [e] at h;cases h
      simp only [Bool.and_eq_true] at e
      obtain ⟨e1,e2,e3,e4⟩:=e
      have e4:=Nat.eq_of_beq_eq_true e4
      have hw:0<w:=by simpa [Nat.blt_eq] using e3
      refine ⟨fun i j=>?_,fun x v hx=>?_⟩
      · cases q:Nat.blt i n with
        | true=>simp only [q,cond_true];exact ho i j
        | false=>simp only [q,cond_false];exact TR e1 e2 _
      · simp only [ba.cell?, ba.count] at hx ⊢
        split at hx
        · rename_i hlt
          by_cases hl:x/w<n
          · have:Nat.blt (x/w) n=true:=by simpa [Nat.blt_eq] using hl
            rw [this] at hx
            exact .inl ⟨(Nat.div_lt_iff_lt_mul hw).1 hl,by rw [if_pos hl];exact hx⟩
          · have : Nat.blt (x / w) n = false := UP hl
            rw [this] at hx
            have hge : n * w ≤ x := by rcases Nat.lt_or_ge x (n * w) with q | q; · exact absurd ((Nat.div_lt_iff_lt_mul hw).2 q) hl
                                       · exact q
            have e5:(x/w-n)*w+x%w=x-n*w:=by
              rw [Nat.sub_mul]
              have:=Nat.div_add_mod x w
              rw [Nat.mul_comm] at this
              have h6:n*w≤x/w*w:=Nat.mul_le_mul_right w (by omega)
              omega
            have hlt2:x-n*w<l.length:=by
              have:=(Nat.div_lt_iff_lt_mul hw).1 hlt
              rw [Nat.add_mul,e4] at this;omega
            simp only [cond_false,e5] at hx
            rw [List.getD_eq_getElem?_getD,List.getElem?_eq_getElem hlt2] at hx
            exact .inr ⟨hge,by rw [List.getElem?_eq_getElem hlt2];exact hx⟩
        · cases hx
  · rename_i n cs n' cs'
    cases e:Nat.blt 0 cs.length with
    | false=>rw [e] at h;cases h
    | true =>
      rw [e] at h
      simp only [cond_true,Option.map_eq_some_iff] at h
      obtain ⟨ds,h1,rfl⟩:=h
      have hw:0<cs.length:=by simpa [Nat.blt_eq] using e
      obtain ⟨l1,l2,l3⟩:=I1 h1
      have len:∀ {j:Nat} {z:lG},ds[j]? = some z→∃ x y,cs[j]? = some x∧cs'[j]? = some y∧x.len=n∧z.len=n+n'∧∀ i v,z.cell? i=some v→(i<n∧x.cell? i=some v)∨(n≤i∧y.cell? (i-n)=some v):=by
        intro j z hz
        obtain ⟨x,y,q1,q2,q3⟩:=l3 j z hz
        have e1:=ho x (List.mem_of_getElem? q1)
        have e2:=hn y (List.mem_of_getElem? q2)
        obtain ⟨r1,r2⟩:=P4 q3
        rw [e1,e2] at r1
        rw [e1] at r2
        exact ⟨x,y,q1,q2,e1,r1,r2⟩
      refine ⟨fun z hz=>?_,fun x v hx=>?_⟩
      · obtain ⟨j,hj⟩:=List.getElem?_of_mem hz
        obtain ⟨_,_,_,_,_,q,_⟩:=len hj
        exact q
      · obtain ⟨z,q1,_,q3⟩:=mV hx
        obtain ⟨a,b,k1,k2,k3,_,k5⟩:=len q1
        have hdm:=Nat.div_add_mod x ds.length
        simp only [ba.count]
        rw [l1] at hw ⊢
        rcases k5 _ v q3 with ⟨r1,r2⟩ | ⟨r1,r2⟩
        · refine .inl ⟨(Nat.div_lt_iff_lt_mul hw).1 r1,?_⟩
          simp only [ba.cell?,l1,k1,Option.bind_some];exact r2
        · have hge:n*ds.length≤x:=by
            have:=Nat.mul_le_mul_right ds.length r1
            rw [Nat.mul_comm (x/ds.length)] at this;omega
          have d1:(x-n*ds.length)/ds.length=x/ds.length-n:=by rw [Nat.mul_comm n,Nat.sub_mul_div]
          have d2:(x-n*ds.length)%ds.length=x%ds.length:=by rw [Nat.mul_comm n,Nat.sub_mul_mod (by rw [Nat.mul_comm];exact hge)]
          refine .inr ⟨hge,?_⟩
          simp only [ba.cell?,l2,d1,d2,k2,Option.bind_some];exact r2
  · cases h
def OG(g:Nat→Option ba)(x:AV) :Option (Nat×Nat×ba×List Bool×List Nat) :=
  match x with
  | .sl b w es i len _=>match g b with
    | some d=>(d.sub w es i len).map fun r=>(len,es,r.1,r.2,[b])
    | none=>none
  | .imm _ d w es i len=>(d.sub w es i len).map fun r=>(len,es,r.1,r.2,[])
  | _=>none
structure Xl (ρ:aH) (w:World) (u:Value) (m es:Nat) (nb:ba):Prop where
  rk:nb.recKept
  count:nb.count=m*es
  val:∃ a c,u=.slice a m c∧(m=0∨∃ bl o,a=some ⟨bl,o,none⟩∧∃ news:List Value,news.length=m*es∧(∀ j v,news[j]? = some v→w.cell? ((⟨bl,o,none⟩:Addr).add j)=some v) ∧
    (∀ v∈news,v.oneCell'=true)∧∀ x v,nb.cell? x=some v→∃ u,news[x]? = some u∧VR ρ w v u)
  none_:m=0→∀ x,nb.cell? x=none
theorem Rh{ρ:aH}{w:World}{v:AV}{u:Value}(h:VR ρ w v u)(ho:v.one=true) :u.oneCell'=true:=by
  cases h<;>simp [AV.one] at ho<;>rfl
theorem Tf{ρ:aH}{w:World}{bl o n:Nat}{cell:Nat→Option AV}{nb:ba}(hc:∀ x v,cell x=some v→∃ u,w.cell? ⟨bl,o+x,none⟩=some u∧VR ρ w v u)(hs:Te nb n cell) :
    ∃ news:List Value,news.length=n∧(∀ j v,news[j]? = some v→w.cell? ((⟨bl,o,none⟩:Addr).add j)=some v)∧(∀ v∈news,v.oneCell'=true)∧∀ x v,nb.cell? x=some v→∃ u,news[x]? = some u∧VR ρ w v u:=by
  refine ⟨(List.range n).map fun x=>(w.cell? ⟨bl,o+x,none⟩).getD undef,by simp,fun j v hj=>?_,fun v hv=>?_,fun x v hx=>?_⟩
  · rw [List.getElem?_map] at hj
    have hlt:j<n:=by
      rcases Nat.lt_or_ge j n with q | q
      · exact q
      · rw [List.getElem?_eq_none (by simpa using q)] at hj;cases hj
    rw [List.getElem?_range hlt] at hj
    obtain ⟨a,q1,_⟩:=hs.all j hlt
    obtain ⟨u,q2,_⟩:=hc j a q1
    rw [uy,q2]
    simp [q2] at hj;rw [hj]
  · simp only [List.mem_map,List.mem_range] at hv
    obtain ⟨j,hlt,rfl⟩:=hv
    obtain ⟨a,q1,q3⟩:=hs.all j hlt
    obtain ⟨u,q2,q4⟩:=hc j a q1
    simp only [q2,Option.getD_some]
    exact Rh q4 q3
  · obtain ⟨hlt,q1⟩:=hs.cells x v hx
    obtain ⟨u,q2,q3⟩:=hc x v q1
    refine ⟨u,?_,q3⟩
    rw [List.getElem?_map,List.getElem?_range hlt];simp [q2]
theorem MO{ρ:aH}{w:World}{h:fj}{n:Nat}(hh:HR ρ w h n){x:AV}{u:Value}{m es:Nat}{nb:ba}{obs:List Bool}{rs:List Nat}(hx:VR ρ w x u)(hs:OG (bQ h) x=some (m,es,nb,obs,rs))(ho:aY obs) :
    Xl ρ w u m es nb:=by
  have none_:∀ {cell:Nat→Option AV},Te nb (m*es) cell→m=0→∀ x,nb.cell? x=none:=by
    intro cell hs h0 x
    cases hc:nb.cell? x with
    | none=>rfl
    | some v=>have:=(hs.cells x v hc).1;rw [h0] at this;omega
  unfold OG at hs
  split at hs
  · rename_i b k es' i len cap
    split at hs
    case h_2=>cases hs
    rename_i d hd
    simp only [Option.map_eq_some_iff,Prod.mk.injEq] at hs
    obtain ⟨⟨nb',o'⟩,hsub,rfl,rfl,rfl,rfl,rfl⟩:=hs
    have hrk:=hh.rk hd
    have hS:=I0 hrk hsub ho
    refine ⟨hS.rk,hS.count,?_,none_ hS⟩
    cases hx with
    | sl _ _ _ _ _ _ cap' hb hcap hl c' t hh' hsz =>
      obtain ⟨_,_,c,ty,hc,hcv⟩:=hh.real hd hb
      refine ⟨_,_,rfl,.inr ⟨_,_,rfl,Tf (fun x v hx=>?_) hS⟩⟩
      obtain ⟨u,q1,q2⟩:=hcv _ v hx
      exact ⟨u,by simp [World.cell?,hc,q1],q2⟩
    | slEnd=>exact ⟨_,_,rfl,.inl rfl⟩
  · rename_i bw d k es' i len
    simp only [Option.map_eq_some_iff,Prod.mk.injEq] at hs
    obtain ⟨⟨nb',o'⟩,hsub,rfl,rfl,rfl,rfl,rfl⟩:=hs
    cases hx with
    | imm _ _ _ _ _ _ cap bl o u ha hb hc hv hl hr hk hg =>
      have hS:=I0 hr hsub ho
      refine ⟨hS.rk,hS.count,?_,none_ hS⟩
      refine ⟨_,_,rfl,.inr ⟨_,_,rfl,Tf (fun x v hx=>⟨u (i*k+x),?_,hv _ v hx⟩) hS⟩⟩
      rw [Nat.add_assoc];exact hc _ v hx
    | immEnd _ _ _ _ _ cap a hr hk hg =>
      have hS:=I0 hr hsub ho
      exact ⟨hS.rk,hS.count,⟨_,_,rfl,.inl rfl⟩,none_ hS⟩
  · cases hs
structure Lt where
  v:AV
  sets:List (Nat×Option ba)
  obs:List Bool
def ib:List (Nat×Option ba)→fj→fj
  | [],h=>h
  | (b,some d)::l,h=>ib l (lQ h b d)
  | (b,none)::l,h=>ib l (E9 h b)
def GN(P : Program)(g : Nat → Option ba)(nid : Nat)(t : TypeId)(s x : AV) : Option (List Lt × List Nat) :=
  match P.underlying t with
  | some (.slice e) =>
    match P.info? e with
    | some inf =>
      match inf.zero with
      | some z =>
        bif Nat.beq z.cells.size inf.size then
        match s,x with
        | .nsl,.nsl=>some ([{ v:=.nsl,sets:=[],obs:=[] }],[])
        | .sl b w es i len cap,.nsl=>some ([{ v:=.sl b w es i len cap,sets:=[],obs:=[] }],[])
        | .sl b w es i len cap,.zsl _=>some ([{ v:=.sl b w es i len cap,sets:=[],obs:=[] }],[])
        | .nsl,x =>
          match OG g x with
          | some (m,es,nb,obs,rs) =>
            bif Nat.beq es inf.size then
              let nb':=nb.norm P e es
              some ([{ v:=.sl nid nb'.1.wid es 0 m m,sets:=[(nid,some nb'.1)],obs:=kj (m*inf.bytes) 140737488355328::kj m 9223372036854775807::(obs++nb'.2) }],rs)
            else none
          | none=>none
        | .esl,.nsl=>some ([{ v:=.esl,sets:=[],obs:=[] }],[])
        | .esl,x =>
          match OG g x with
          | some (m,es,nb,obs,rs) =>
            bif Nat.beq es inf.size then
              let nb':=nb.norm P e es
              some ([{ v:=.sl nid nb'.1.wid es 0 m m,sets:=[(nid,some nb'.1)],obs:=kj (m*inf.bytes) 140737488355328::kj m 9223372036854775807::(obs++nb'.2) }],rs)
            else none
          | none=>none
        | .sl b w es 0 len cap,x =>
          match g b,OG g x with
          | some d,some (m,es',nb,obs,rs) =>
            bif Nat.beq es inf.size&&Nat.beq es' es then
              match d.sub w es 0 len with
              | some (old,obs') =>
                let nb':=nb.norm P e es
                let old':=old.norm P e es
                (Sx old'.1 nb'.1).map fun d' =>
                  ([{ v:=.sl nid d'.wid es 0 (len+m) (len+m),sets:=[(b,none),(nid,some d')],obs:=kj ((len+m)*inf.bytes) 140737488355328::kj (len+m) 9223372036854775807::(obs++(obs'++(nb'.2++old'.2))) }],b::rs)
              | none=>none
            else none
          | _,_=>none
        | _,_=>none
        else none
      | none=>none
    | none=>none
  | _=>none
theorem jd{P:Program}{w:World}{t T e:TypeId}{inf:TypeInfo}(ht:P.underlying t=some (.slice e))(hi:P.info? e=some inf)(s a:Option Addr)(n cap c:Nat)(hle:n≤cap) :
    (Builtin.append_ #[t,t] T #[.slice s n cap,.slice a 0 c]).run P w=.ok (.slice s n cap) w:=by
  cases a<;>cases s<;>simp [Builtin.append_,run_underlying ht,sizeOf,typeInfo,hi,Builtin.lenOf,Builtin.firstCells,hle,storeCells,loadCells,loadCellsFrom]
theorem MP{P:Program}{w:World}{t ty e T:TypeId}{i:TypeInfo}(ht:P.underlying t=some (.slice e))(hi:P.info? e=some i) 
    (g sLen sCap:Nat) (cur:Array Value) (hg:w.heap[g]? = some (.cells cur T (0,0)))
    (a:Addr) (m c:Nat) (news:List Value) (hl:news.length=m*i.size) (hnews:∀ j u,news[j]? = some u→w.cell? (a.add j)=some u) (h1:∀ u∈news,u.oneCell'=true)
    (hroom:sLen+m≤sCap) (hfit:sLen*i.size+news.length≤cur.size) :
    (Builtin.append_ #[t,t] ty #[.slice (some ⟨g,0,none⟩) sLen sCap,.slice (some a) m c]).run P w =
      .ok (.slice (some ⟨g,0,none⟩) (sLen+m) sCap) (w.setRow g (cur.toList.take (sLen*i.size)++news++cur.toList.drop (sLen*i.size+news.length)).toArray):=by
  have hf:=run_firstCells_some (P:=P) w i.size m a m c news hl hnews
  have hst:=run_storeCells_at P g (sLen*i.size) T news 0 cur w hg (by simpa using hfit) h1
  simp only [Nat.add_zero] at hst
  simp [Builtin.append_,run_underlying ht,sizeOf,typeInfo,hi,Builtin.lenOf,hroom,hf,Addr.add_lit,hst]
theorem rc.setRow{M:Nat→Prop}(w:World)(g:Nat)(cs old:Array Value)(t:TypeId)(fr:Nat×Nat)(hg:w.heap[g]? = some (.cells old t fr))(hs:cs.size=old.size)(hM:M g) :rc M w (w.setRow g cs):=by
  refine ⟨rfl,rfl,rfl,by simp,fun b _ hb=>setRow_other w g b cs (fun e=>hb (by rw [e];exact hM)),fun b c t' fz hc=>?_⟩
  by_cases e:b=g
  · subst e
    rw [hg] at hc;cases hc
    exact ⟨cs,setRow_heap w b old cs t fr hg,hs⟩
  · exact ⟨c,by rw [setRow_other w g b cs e];exact hc,rfl⟩
theorem HR.again{ρ:aH}{w w':World}{h:fj}{n b nid:Nat}{d d':ba}(hh:HR ρ w h n)(hg:bQ h b=some d)(hok:ρ.ok b)(hb : ¬ ρ.ok nid)(hn:nid<n)(W:rc ρ.live w w') 
    (ho:∀ bl,bl≠ρ.at_ b→w'.heap[bl]? = w.heap[bl]?) (hB:BR ρ w' (ρ.at_ b) d') :
    HR (ρ.give nid (ρ.at_ b)) w' (lQ (E9 h b) nid d') n∧vY ρ (ρ.give nid (ρ.at_ b)) w:=by
  obtain ⟨hl,_⟩:=hh.real hg hok
  have hne:nid≠b:=fun e=>hb (by rw [e];exact hok)
  have E:vY ρ (ρ.give nid (ρ.at_ b)) w :=
    ⟨fun x hx=>by simp only [aH.give];rw [if_neg (fun e:x=nid=>hb (by rw [←e];exact hx))],fun _ q=>.inr q,fun _ q=>.inr q,fun x _ q=>q.elim (fun e=>by rw [e];exact hl) id,rfl⟩
  have E':vY ρ (ρ.give nid (ρ.at_ b)) w':=⟨E.at_,E.ok,E.live,fun x _ q=>q.elim (fun e=>by rw [e];exact hl) id,E.out⟩
  have look:∀ x e,bQ (lQ (E9 h b) nid d') x=some e→(x=nid∧e=d')∨(x≠nid∧x≠b∧bQ h x=some e):=by
    intro x e hx
    rw [iV,xv] at hx
    by_cases q:nid=x
    · rw [if_pos q] at hx;cases hx;exact .inl ⟨q.symm,rfl⟩
    · rw [if_neg q] at hx
      by_cases r:b=x
      · rw [if_pos r] at hx;cases hx
      · rw [if_neg r] at hx;exact .inr ⟨fun e=>q e.symm,fun e=>r e.symm,hx⟩
  have atn:(ρ.give nid (ρ.at_ b)).at_ nid=ρ.at_ b:=by simp [aH.give]
  have back:∀ {x:Nat},x≠nid→(ρ.give nid (ρ.at_ b)).ok x→ρ.ok x:=fun hx q=>q.resolve_left hx
  refine ⟨⟨fun x e hx=>?_,fun x y e f h1 h2 ok1 ok2 he=>?_,fun bl q=>?_,fun bl q=>?_,fun j bl q=>?_,fun x hx=>?_,fun x hx=>(hh.rom x hx).mono E W⟩,E⟩
  · rcases look x e hx with ⟨rfl,rfl⟩ | ⟨q1,q2,q3⟩
    · rw [atn]
      refine .inl ⟨.inl rfl,.inr hl,?_⟩
      obtain ⟨r1,c,t,r2,r3⟩:=hB
      exact ⟨r1,c,t,r2,fun y v hy=>by obtain ⟨u,k1,k2⟩:=r3 y v hy;exact ⟨u,k1,k2.mono E' (rc.refl _ _)⟩⟩
    · rcases hh.cell x e q3 with ⟨k1,k2,k3⟩ | ⟨k1,k2⟩
      · rw [E.at_ x k1]
        exact .inl ⟨.inr k1,.inr k2,k3.mono E W (ho _ (fun z=>q2 (hh.inj x b e d q3 hg k1 hok z)))⟩
      · exact .inr ⟨fun q=>k1 (back q1 q),k2⟩
  · rcases look x e h1 with ⟨rfl,rfl⟩ | ⟨q1,q2,q3⟩<;>rcases look y f h2 with ⟨rfl,rfl⟩ | ⟨r1,r2,r3⟩
    · rfl
    · have k:=back r1 ok2;rw [atn,E.at_ y k] at he;exact absurd (hh.inj y b f d r3 hg k hok he.symm) r2
    · have k:=back q1 ok1;rw [atn,E.at_ x k] at he;exact absurd (hh.inj x b e d q3 hg k hok he) q2
    · have k:=back q1 ok1;have k':=back r1 ok2;rw [E.at_ x k,E.at_ y k'] at he;exact hh.inj x y e f q3 r3 k k' he
  · rcases q with rfl | q
    · exact hh.fresh _ hl
    · exact hh.fresh bl q
  · rcases q with rfl | q
    · exact Nat.lt_of_lt_of_le (hh.liveLt _ hl) W.size
    · exact Nat.lt_of_lt_of_le (hh.liveLt bl q) W.size
  · exact Nat.lt_of_lt_of_le (hh.outLt j bl q) W.size
  · rcases hx with rfl | hx
    · exact hn
    · exact hh.lt x hx
theorem HR.ghost{ρ:aH}{w:World}{h:fj}{n nid:Nat}{d:ba}(hh:HR ρ w h n)(hb : ¬ ρ.ok nid)(hn:nid<n)(hr:d.recKept)(hv:d.void) :HR ρ w (lQ h nid d) n:=by
  have look:∀ x e,bQ (lQ h nid d) x=some e→(x=nid∧e=d)∨(x≠nid∧bQ h x=some e):=by
    intro x e hx
    rw [iV] at hx
    by_cases q:nid=x
    · rw [if_pos q] at hx;cases hx;exact .inl ⟨q.symm,rfl⟩
    · rw [if_neg q] at hx;exact .inr ⟨fun e=>q e.symm,hx⟩
  refine ⟨fun x e hx=>?_,fun x y e f h1 h2 ok1 ok2 he=>?_,hh.fresh,hh.liveLt,hh.outLt,hh.lt,hh.rom⟩
  · rcases look x e hx with ⟨rfl,rfl⟩ | ⟨_,q⟩
    · exact .inr ⟨hb,hn,hr,hv⟩
    · exact hh.cell x e q
  · rcases look x e h1 with ⟨rfl,rfl⟩ | ⟨_,q⟩
    · exact (hb ok1).elim
    · rcases look y f h2 with ⟨rfl,rfl⟩ | ⟨_,r⟩
      · exact (hb ok2).elim
      · exact hh.inj x y e f q r ok1 ok2 he
theorem OH{P:Program}{ρ:aH}{w:World}{h:fj}{n nid:Nat}(hh:HR ρ w h n)(hb : ¬ ρ.ok nid)(hn:nid<n){t:TypeId}{s x:AV}{s' x':Value}(hs:VR ρ w s s')(hx:VR ρ w x x') 
    {alts:List Lt} {rs:List Nat} (ha:GN P (bQ h) nid t s x=some (alts,rs)) {alt:Lt} (hm:alt∈alts) (ho:aY alt.obs) (T:TypeId) :
    Hp P ρ w h n nid (Builtin.append_ #[t,t] T #[s',x']) alt.v (ib alt.sets h):=by
  have bq:∀ {a b:Nat},Nat.beq a b=true→a=b:=Nat.eq_of_beq_eq_true
  unfold GN at ha
  split at ha
  case h_2=>cases ha
  rename_i e ht
  split at ha
  case h_2=>cases ha
  rename_i inf hi
  split at ha
  case h_2=>cases ha
  rename_i z hz
  cases hzs:Nat.beq z.cells.size inf.size with
  | false=>rw [hzs] at ha;cases ha
  | true =>
  rw [hzs] at ha
  have hzs:=bq hzs
  simp only [cond_true] at ha
  have empty:∀ (s0:Option Addr) (alts:List Lt) (rs:List Nat),(match OG (bQ h) x with
          | some (m,es,nb,obs,rs) =>
            bif Nat.beq es inf.size then
              let nb':=nb.norm P e es
              some (([{ v:=.sl nid nb'.1.wid es 0 m m,sets:=[(nid,some nb'.1)],obs:=kj (m*inf.bytes) 140737488355328::kj m 9223372036854775807::(obs++nb'.2) }]:List Lt),rs)
            else none
          | none=>none)=some (alts,rs)→alt∈alts→Hp P ρ w h n nid (Builtin.append_ #[t,t] T #[.slice s0 0 0,x']) alt.v (ib alt.sets h):=by
    intro s0 alts rs ha hm
    split at ha
    case h_2=>cases ha
    rename_i m es nb obs rs' hsrc
    cases hes:Nat.beq es inf.size with
    | false=>rw [hes] at ha;cases ha
    | true =>
    rw [hes] at ha
    have hes:=bq hes
    subst hes
    simp only [cond_true,Option.some.injEq,Prod.mk.injEq] at ha;obtain ⟨rfl,rfl⟩:=ha
    simp only [List.mem_singleton] at hm;subst hm
    obtain ⟨o2,o3,o4⟩:=ho
    rw [ck] at o4
    have hS:=MO hh hx hsrc o4.1
    obtain ⟨n1,n2,n3⟩:=J1 P e nb inf.size hS.rk o4.2
    obtain ⟨a,c,rfl,hv⟩:=hS.val
    have b1:m*inf.bytes≤140737488355328:=of_decide_eq_true o2
    have b2:m≤9223372036854775807:=of_decide_eq_true o3
    by_cases hm0:m=0
    · subst hm0
      have hvoid:(nb.norm P e inf.size).1.void:=by
        intro y
        cases q:(nb.norm P e inf.size).1.cell? y with
        | none=>rfl
        | some v=>obtain ⟨v0,q1,_⟩:=n2 y v q;rw [hS.none_ rfl] at q1;cases q1
      exact ⟨_,w,ρ,jd ht hi s0 a 0 0 c (Nat.le_refl _),vY.refl _ _,rc.refl _ _,hh.ghost hb hn n1 hvoid,.slEnd _ _ _ _ _,fun b q=>.inl q⟩
    · rcases hv with e | ⟨bl,o,rfl,news,hl,hnews,hone,hrel⟩
      · exact absurd e hm0
      have hrun:(Builtin.append_ #[t,t] T #[.slice s0 0 0,.slice (some ⟨bl,o,none⟩) m c]).run P w=.ok (.slice (some ⟨w.heap.size,0,none⟩) m (grownCap w m 0 e)) (w.drew.alloc (.cells (news.toArray++Builtin.zeroCells z.cells (grownCap w m 0 e-m)) e)):=by
        cases s0 with
        | none=>exact run_append_nil (P:=P) w t T e inf z ht hi hz ⟨bl,o,none⟩ m c news hl hnews (by omega) (by omega) (by omega)
        | some s1 =>
          have hfit:=growslice_fits (old:=0) (need:=0+m) (bytes:=inf.bytes) (by omega) (by rw [Nat.zero_add];exact b1)
          have:=run_append_grow (P:=P) w t T e inf z ht hi hz s1 0 0 [] (by simp) (fun j v hj=>by simp at hj) ⟨bl,o,none⟩ m c news hl hnews (by omega) (by omega) hfit
          simpa using this
      refine GM hh hb hn (d:=(nb.norm P e inf.size).1) (l:=(List.range (m*inf.size)).map fun x=>(nb.cell? x).getD .any) ⟨n1,fun y v hy=>?_⟩ (.inr ⟨w.drawn+1,rfl⟩) hrun (fun y v hy=>?_) ?_
      · obtain ⟨v0,this,hw⟩:=n2 y v hy
        obtain ⟨u,q1,q2⟩:=hrel y v0 this
        have hlt:y<m*inf.size:=by rw [←hl];exact (List.getElem?_eq_some_iff.1 q1).1
        exact ⟨v0,by rw [List.getElem?_map,List.getElem?_range hlt];simp [this],hw⟩
      · rw [List.getElem?_map] at hy
        have hlt:y<m*inf.size:=by
          rcases Nat.lt_or_ge y (m*inf.size) with q | q
          · exact q
          · rw [List.getElem?_eq_none (by simpa using q)] at hy;cases hy
        rw [List.getElem?_range hlt] at hy
        simp only [Option.map_some,Option.some.injEq] at hy
        have hlt':y<news.length:=by omega
        refine ⟨news[y],?_,?_⟩
        · rw [Array.getElem?_append_left (by simpa using hlt')];simp [hlt']
        · subst hy
          cases q:nb.cell? y with
          | none=>exact .any _
          | some v=>obtain ⟨u,q1,q2⟩:=hrel y v q;rw [List.getElem?_eq_getElem hlt'] at q1;cases q1;exact q2
      · rintro _ _ rfl rfl
        have hcap:m≤grownCap w m 0 e:=grownCap_ge w m 0 e
        have:VR (ρ.give nid w.heap.size) (w.drew.alloc (.cells (news.toArray++Builtin.zeroCells z.cells (grownCap w m 0 e-m)) e)) (.sl nid (nb.norm P e inf.size).1.wid inf.size 0 m m) (.slice (some ⟨(ρ.give nid w.heap.size).at_ nid,0*(nb.norm P e inf.size).1.wid,none⟩) m (grownCap w m 0 e)):=by
          refine .sl _ _ _ _ _ _ _ (.inl rfl) hcap (Nat.le_refl _) _ e (by simp only [aH.give,if_true];exact r7 w.drew _) ?_
          simp only [Array.size_append,List.size_toArray,size_zeroCells,hl,hzs]
          have:m*inf.size+(grownCap w m 0 e-m)*inf.size=grownCap w m 0 e*inf.size:=by rw [←Nat.add_mul];congr 1;omega
          omega
        simpa [aH.give] using this
  split at ha
  · simp only [Option.some.injEq,Prod.mk.injEq] at ha;obtain ⟨rfl,rfl⟩:=ha
    simp only [List.mem_singleton] at hm;subst hm
    cases hs;cases hx
    exact ⟨_,w,ρ,jd ht hi none none 0 0 0 (Nat.le_refl _),vY.refl _ _,rc.refl _ _,hh,.nsl,fun b q=>.inl q⟩
  · rename_i b k es i len cap
    simp only [Option.some.injEq,Prod.mk.injEq] at ha;obtain ⟨rfl,rfl⟩:=ha
    simp only [List.mem_singleton] at hm;subst hm
    cases hx
    have hs0:=hs
    cases hs with
    | sl _ _ _ _ _ _ cap' q1 q2 q3 c ty q4 q5=>exact ⟨_,w,ρ,jd ht hi _ none len cap' 0 (by omega),vY.refl _ _,rc.refl _ _,hh,hs0,fun b q=>.inl q⟩
    | slEnd=>exact ⟨_,w,ρ,jd ht hi _ none 0 0 0 (Nat.le_refl _),vY.refl _ _,rc.refl _ _,hh,hs0,fun b q=>.inl q⟩
  · rename_i b k es i len cap _
    simp only [Option.some.injEq,Prod.mk.injEq] at ha;obtain ⟨rfl,rfl⟩:=ha
    simp only [List.mem_singleton] at hm;subst hm
    cases hx
    have hs0:=hs
    cases hs with
    | sl _ _ _ _ _ _ cap' q1 q2 q3 c ty q4 q5=>exact ⟨_,w,ρ,jd ht hi _ _ len cap' _ (by omega),vY.refl _ _,rc.refl _ _,hh,hs0,fun b q=>.inl q⟩
    | slEnd=>exact ⟨_,w,ρ,jd ht hi _ _ 0 0 _ (Nat.le_refl _),vY.refl _ _,rc.refl _ _,hh,hs0,fun b q=>.inl q⟩
  · cases hs
    exact empty none _ _ ha hm
  · simp only [Option.some.injEq,Prod.mk.injEq] at ha;obtain ⟨rfl,rfl⟩:=ha
    simp only [List.mem_singleton] at hm;subst hm
    cases hs;cases hx
    exact ⟨_,w,ρ,jd ht hi _ none 0 0 0 (Nat.le_refl _),vY.refl _ _,rc.refl _ _,hh,.esl _,fun b q=>.inl q⟩
  · cases hs
    exact empty _ _ _ ha hm
  · rename_i b k es len cap hx0 _
    split at ha
    case h_2=>cases ha
    rename_i d m es' nb obs rs' hd hsrc
    cases hes:(Nat.beq es inf.size&&Nat.beq es' es) with
    | false=>rw [hes] at ha;cases ha
    | true =>
    rw [hes] at ha
    rw [Bool.and_eq_true] at hes
    have e1:=bq hes.1;have e2:=bq hes.2
    subst e1;subst e2
    simp only [cond_true] at ha
    split at ha
    case h_2=>cases ha
    rename_i old obs' hsub
    simp only [Option.map_eq_some_iff,Prod.mk.injEq] at ha
    obtain ⟨d',happ,rfl,rfl⟩:=ha
    simp only [List.mem_singleton] at hm;subst hm
    obtain ⟨o1,o2,o3⟩:=ho
    rw [ck,ck,ck] at o3
    obtain ⟨o31,o32,o33,o34⟩:=o3
    have hS:=MO hh hx hsrc o31
    have hrk:=hh.rk hd
    have hO:=I0 hrk hsub o32
    obtain ⟨m1,m2,m3⟩:=J1 P e nb inf.size hS.rk o33
    obtain ⟨p1,p2,p3⟩:=J1 P e old inf.size hO.rk o34
    obtain ⟨a1,a2'⟩:=app_spec p1 m1 happ
    have a2:∀ x v,d'.cell? x=some v→(x<old.count∧∃ v0,old.cell? x=some v0∧bL v0 v)∨(old.count≤x∧∃ v0,nb.cell? (x-old.count)=some v0∧bL v0 v):=by
      intro x v hx
      rw [p3] at a2'
      rcases a2' x v hx with ⟨q,r⟩ | ⟨q,r⟩
      · exact .inl ⟨q,p2 x v r⟩
      · exact .inr ⟨q,m2 _ v r⟩

    have hblk:∃ (cur:Array Value) (ty:TypeId),(ρ.ok b→ρ.live (ρ.at_ b)∧w.heap[ρ.at_ b]? = some (.cells cur ty (0,0)))∧∀ x v,d.cell? x=some v→∃ u,cur[x]? = some u∧VR ρ w v u:=by
      rcases hh.cell b d hd with ⟨_,q1,_,c,t,q2,q3⟩ | ⟨q1,_,_,q2⟩
      · exact ⟨c,t,fun _=>⟨q1,q2⟩,q3⟩
      · exact ⟨#[],0,fun q=>(q1 q).elim,fun x v hx=>by rw [q2 x] at hx;cases hx⟩
    obtain ⟨cur,ty,hreal,hcv⟩:=hblk
    have b1:(len+m)*inf.bytes≤140737488355328:=of_decide_eq_true o1
    have b2:len+m≤9223372036854775807:=of_decide_eq_true o2
    obtain ⟨a,c,rfl,hv⟩:=hS.val
    have hsets:ib [(b,none),(nid,some d')] h=lQ (E9 h b) nid d':=rfl
    simp only [hsets]

    have hold:∀ x,x<len*inf.size→∃ v u,d.cell? x=some v∧v.one=true∧cur[x]? = some u∧VR ρ w v u:=by
      intro x hx
      obtain ⟨v,q1,q2⟩:=hO.all x hx
      simp only [Nat.zero_mul,Nat.zero_add] at q1
      obtain ⟨u,q3,q4⟩:=hcv x v q1
      exact ⟨v,u,q1,q2,q3,q4⟩
    have hcurlen:len*inf.size≤cur.size:=by
      rcases Nat.eq_zero_or_pos (len*inf.size) with q | q
      · omega
      · obtain ⟨_,u,_,_,q3,_⟩:=hold (len*inf.size-1) (by omega)
        have:=(Array.getElem?_eq_some_iff.1 q3).1;omega

    have zero:m=0→∀ cap' (s0:Option Addr),len≤cap'→VR ρ w (.sl b k inf.size 0 len cap) (.slice s0 len cap') →
        Hp P ρ w h n nid (Builtin.append_ #[t,t] T #[.slice s0 len cap',.slice a m c]) (.sl nid d'.wid inf.size 0 (len+m) (len+m)) (lQ (E9 h b) nid d'):=by
      intro h0 cap' s0 hle hvs
      subst h0
      have hcell:∀ x v,d'.cell? x=some v→∃ u,cur[x]? = some u∧VR ρ w v u:=by
        intro x v hx
        rcases a2 x v hx with ⟨_,v0,q,hw⟩ | ⟨_,v0,q,_⟩
        · obtain ⟨_,q1⟩:=hO.cells x v0 q
          simp only [Nat.zero_mul,Nat.zero_add] at q1
          obtain ⟨u,r1,r2⟩:=hcv x v0 q1
          exact ⟨u,r1,hw _ _ _ r2⟩
        · rw [hS.none_ rfl] at q;cases q
      rw [Nat.add_zero]
      by_cases hok:ρ.ok b
      · obtain ⟨hlive,hcur⟩:=hreal hok
        obtain ⟨r1,r2⟩:=hh.again hd hok hb hn (rc.refl _ w) (fun _ _=>rfl) ⟨a1,cur,ty,hcur,hcell⟩
        refine ⟨_,w,_,jd ht hi s0 a len cap' c hle,r2,rc.refl _ _,r1,?_,fun b q=>q.elim .inr .inl⟩
        have atn:(ρ.give nid (ρ.at_ b)).at_ nid=ρ.at_ b:=by simp [aH.give]
        cases hvs with
        | sl _ _ _ _ _ _ _ q1 q2 q3 c' ty' q4 q5 =>
          have:VR (ρ.give nid (ρ.at_ b)) w (.sl nid d'.wid inf.size 0 len len) (.slice (some ⟨(ρ.give nid (ρ.at_ b)).at_ nid,0*d'.wid,none⟩) len cap') :=
            .sl _ _ _ _ _ _ _ (.inl rfl) hle (Nat.le_refl _) c' ty' (by rw [atn];exact q4) (by omega)
          rw [atn,Nat.zero_mul] at this;rw [Nat.zero_mul];exact this
        | slEnd=>exact .slEnd _ _ _ _ _
      · have hgh:cap'=0∧len=0:=by
          cases hvs with
          | sl _ _ _ _ _ _ _ q1=>exact (hok q1).elim
          | slEnd=>exact ⟨rfl,rfl⟩
        obtain ⟨rfl,rfl⟩:=hgh
        have hvoid:d'.void:=by
          intro y
          cases q:d'.cell? y with
          | none=>rfl
          | some v =>
            rcases a2 y v q with ⟨q1,_⟩ | ⟨_,v0,q1,_⟩
            · rw [hO.count,Nat.zero_mul] at q1;omega
            · rw [hS.none_ rfl] at q1;cases q1
        exact ⟨_,w,ρ,jd ht hi s0 a 0 0 c (Nat.le_refl _),vY.refl _ _,rc.refl _ _,(hh.del b).ghost hb hn a1 hvoid,.slEnd _ _ _ _ _,fun b q=>.inl q⟩
    rcases hv with h0 | ⟨bl,o,rfl,news,hl,hnews,hone,hrel⟩
    · have hs0:=hs
      cases hs with
      | sl _ _ _ _ _ _ cap' q1 q2 q3 c' ty' q4 q5=>exact zero h0 cap' _ (by omega) hs0
      | slEnd=>exact zero h0 0 _ (Nat.le_refl _) hs0
    ·
      have grow:∀ cap' (s0:Option Addr) (g:World→Prop),cap'<len+m→(s0=some ⟨ρ.at_ b,0,none⟩∧ρ.ok b∨len=0∧cap'=0) →
          Hp P ρ w h n nid (Builtin.append_ #[t,t] T #[.slice s0 len cap',.slice (some ⟨bl,o,none⟩) m c]) (.sl nid d'.wid inf.size 0 (len+m) (len+m)) (lQ (E9 h b) nid d'):=by
        intro cap' s0 _ hlt hs0
        have hcells:∀ y v,d'.cell? y=some v→∃ u,((cur.toList.take (len*inf.size))++news)[y]? = some u∧VR ρ w v u:=by
          intro y v hy
          have htl:(cur.toList.take (len*inf.size)).length=len*inf.size:=by simp;omega
          rcases a2 y v hy with ⟨q0,v0,q,hw⟩ | ⟨q0,v0,q,hw⟩
          · obtain ⟨q2,q1⟩:=hO.cells y v0 q
            simp only [Nat.zero_mul,Nat.zero_add] at q1
            obtain ⟨u,q3,q4⟩:=hcv y v0 q1
            refine ⟨u,?_,hw _ _ _ q4⟩
            rw [List.getElem?_append_left (by omega),List.getElem?_take,if_pos q2];simpa using q3
          · rw [hO.count] at q0 q
            obtain ⟨u,q3,q4⟩:=hrel _ v0 q
            refine ⟨u,?_,hw _ _ _ q4⟩
            rw [List.getElem?_append_right (by omega),htl];exact q3
        have hfit:=growslice_fits (old:=cap') (need:=len+m) (bytes:=inf.bytes) hlt b1
        have hrun:∃ cells:Array Value,cells.size=grownCap w (len+m) cap' e*inf.size∧(∀ (y:Nat) (u:Value),((cur.toList.take (len*inf.size))++news)[y]? = some u→cells[y]? = some u) ∧
            (Builtin.append_ #[t,t] T #[.slice s0 len cap',.slice (some ⟨bl,o,none⟩) m c]).run P w=.ok (.slice (some ⟨w.heap.size,0,none⟩) (len+m) (grownCap w (len+m) cap' e)) (w.drew.alloc (.cells cells e)):=by
          have hcap:len+m≤grownCap w (len+m) cap' e:=grownCap_ge w (len+m) cap' e
          have hsize:(len+m)*inf.size+(grownCap w (len+m) cap' e-(len+m))*inf.size=grownCap w (len+m) cap' e*inf.size:=by rw [←Nat.add_mul];congr 1;omega
          rcases hs0 with ⟨rfl,hok⟩ | ⟨rfl,rfl⟩
          · obtain ⟨hlive,hcur⟩:=hreal hok
            have hlo:(cur.toList.take (len*inf.size)).length=len*inf.size:=by simp;omega
            have:=run_append_grow (P:=P) w t T e inf z ht hi hz ⟨ρ.at_ b,0,none⟩ len cap' (cur.toList.take (len*inf.size)) hlo (fun j v hj=>by
              rw [uy];simp only [Nat.zero_add,World.cell?,hcur]
              rw [List.getElem?_take] at hj;split at hj
              · simpa using hj
              · cases hj) ⟨bl,o,none⟩ m c news hl hnews hlt (by omega) hfit
            refine ⟨_,?_,fun y u hy=>?_,this⟩
            · simp only [Array.size_append,List.size_toArray,size_zeroCells,hl,hzs,hlo];rw [←Nat.add_mul];exact hsize
            · have hlt2:y<(cur.toList.take (len*inf.size)++news).length:=(List.getElem?_eq_some_iff.1 hy).1
              rw [Array.getElem?_append_left (by simpa using hlt2)];simpa using hy
          · cases s0 with
            | none =>
              have hm0:0<m:=by omega
              have:=run_append_nil (P:=P) w t T e inf z ht hi hz ⟨bl,o,none⟩ m c news hl hnews hm0 (by omega) (by rw [Nat.zero_add] at b1;omega)
              rw [Nat.zero_add] at hsize ⊢
              refine ⟨_,?_,fun y u hy=>?_,this⟩
              · simp only [Array.size_append,List.size_toArray,size_zeroCells,hl,hzs];exact hsize
              · simp only [Nat.zero_mul,List.take_zero,List.nil_append] at hy
                have hlt2:y<news.length:=(List.getElem?_eq_some_iff.1 hy).1
                rw [Array.getElem?_append_left (by simpa using hlt2)];simpa using hy
            | some s1 =>
              have:=run_append_grow (P:=P) w t T e inf z ht hi hz s1 0 0 [] (by simp) (fun j v hj=>by simp at hj) ⟨bl,o,none⟩ m c news hl hnews hlt (by omega) hfit
              refine ⟨_,?_,fun y u hy=>?_,this⟩
              · simp only [Array.size_append,List.size_toArray,List.length_nil,size_zeroCells,hl,hzs,Nat.zero_add];rw [Nat.zero_add] at hsize;exact hsize
              · simp only [Nat.zero_mul,List.take_zero,List.nil_append] at hy
                have hlt2:y<news.length:=(List.getElem?_eq_some_iff.1 hy).1
                rw [Array.getElem?_append_left (by simpa using hlt2)];simpa using hy
        obtain ⟨cells,k1,k2,k3⟩:=hrun
        have hcap:len+m≤grownCap w (len+m) cap' e:=grownCap_ge w (len+m) cap' e
        have H1:HR ρ w.drew (E9 h b) n:=(hh.del b).drawn _
        obtain ⟨r1,r2,r3⟩:=H1.alloc hb hn d' cells e a1 (fun y v hy=>by
          obtain ⟨u,q1,q2⟩:=hcells y v hy
          exact ⟨u,k2 y u q1,q2.mono (vY.refl _ _) (rc.drawn _ _ _)⟩)
        refine ⟨_,_,_,k3,⟨r2.at_,r2.ok,r2.live,r2.new,r2.out⟩,(rc.drawn _ w _).trans r3 (fun _ _ q=>q),r1,?_,fun b q=>q.elim .inr .inl⟩
        have:VR (ρ.give nid w.heap.size) (w.drew.alloc (.cells cells e)) (.sl nid d'.wid inf.size 0 (len+m) (len+m)) (.slice (some ⟨(ρ.give nid w.heap.size).at_ nid,0*d'.wid,none⟩) (len+m) (grownCap w (len+m) cap' e)) :=
          .sl _ _ _ _ _ _ _ (.inl rfl) hcap (Nat.le_refl _) cells e (by simp only [aH.give,if_true];exact r7 w.drew _) (by rw [k1];omega)
        simpa [aH.give] using this
      cases hs with
      | sl _ _ _ _ _ _ cap' q1 q2 q3 c' ty' q4 q5 =>
        rw [Nat.zero_mul]
        obtain ⟨hlive,hcur⟩:=hreal q1
        rw [hcur] at q4;cases q4
        by_cases hroom:len+m≤cap'
        · have hfit:len*inf.size+news.length≤cur.size:=by
            have:(len+m)*inf.size≤cap'*inf.size:=Nat.mul_le_mul_right _ hroom
            rw [Nat.add_mul] at this;omega
          have hrun:=MP (P:=P) (ty:=T) ht hi (ρ.at_ b) len cap' cur hcur ⟨bl,o,none⟩ m c news hl hnews hone hroom hfit
          have hsz:(cur.toList.take (len*inf.size)++news++cur.toList.drop (len*inf.size+news.length)).toArray.size=cur.size:=by
            simp;omega
          have W:rc ρ.live w (w.setRow (ρ.at_ b) (cur.toList.take (len*inf.size)++news++cur.toList.drop (len*inf.size+news.length)).toArray):=rc.setRow w _ _ cur ty (0,0) hcur hsz hlive
          have hB:BR ρ (w.setRow (ρ.at_ b) (cur.toList.take (len*inf.size)++news++cur.toList.drop (len*inf.size+news.length)).toArray) (ρ.at_ b) d':=by
            refine ⟨a1,_,ty,setRow_heap w _ cur _ ty (0,0) hcur,fun y v hy=>?_⟩
            have htl:(cur.toList.take (len*inf.size)).length=len*inf.size:=by simp;omega
            rcases a2 y v hy with ⟨q0,v0,q,hw⟩ | ⟨q0,v0,q,hw⟩
            · obtain ⟨k2,k1⟩:=hO.cells y v0 q
              simp only [Nat.zero_mul,Nat.zero_add] at k1
              obtain ⟨u,k3,k4⟩:=hcv y v0 k1
              refine ⟨u,?_,(hw _ _ _ k4).mono (vY.refl _ _) W⟩
              rw [List.getElem?_toArray,List.append_assoc,List.getElem?_append_left (by omega),List.getElem?_take,if_pos k2];simpa using k3
            · rw [hO.count] at q0 q
              obtain ⟨u,k3,k4⟩:=hrel _ v0 q
              have hlt:=(List.getElem?_eq_some_iff.1 k3).1
              refine ⟨u,?_,(hw _ _ _ k4).mono (vY.refl _ _) W⟩
              rw [List.getElem?_toArray,List.append_assoc,List.getElem?_append_right (by omega),htl,List.getElem?_append_left hlt];exact k3
          obtain ⟨r1,r2⟩:=hh.again hd q1 hb hn W (fun x hx=>setRow_other w _ x _ hx) hB
          refine ⟨_,_,_,hrun,r2,W,r1,?_,fun b q=>q.elim .inr .inl⟩
          have atn:(ρ.give nid (ρ.at_ b)).at_ nid=ρ.at_ b:=by simp [aH.give]
          have:VR (ρ.give nid (ρ.at_ b)) (w.setRow (ρ.at_ b) (cur.toList.take (len*inf.size)++news++cur.toList.drop (len*inf.size+news.length)).toArray) (.sl nid d'.wid inf.size 0 (len+m) (len+m)) (.slice (some ⟨(ρ.give nid (ρ.at_ b)).at_ nid,0*d'.wid,none⟩) (len+m) cap') :=
            .sl _ _ _ _ _ _ _ (.inl rfl) hroom (Nat.le_refl _) _ ty (by rw [atn];exact setRow_heap w _ cur _ ty (0,0) hcur) (by rw [hsz];rw [Nat.zero_mul] at q5 ⊢;exact q5)
          rw [atn,Nat.zero_mul] at this;exact this
        · exact grow cap' _ (fun _=>True) (by omega) (.inl ⟨rfl,q1⟩)
      | slEnd =>
        by_cases hm0:m=0
        · exact zero hm0 0 _ (Nat.le_refl _) (.slEnd _ _ _ _ _)
        · exact grow 0 _ (fun _=>True) (by omega) (.inr ⟨rfl,rfl⟩)
  · cases ha
mutual
theorem DL:∀ {v:AV},v.kept=true→v.foreign=true
  | .fn _ l1 l2,h=>by simp only [AV.kept,AV.foreign,Bool.and_eq_true] at h ⊢;exact ⟨pP h.1,pP h.2⟩
  | .agg l,h=>by simp only [AV.kept,AV.foreign] at h ⊢;exact pP h
  | .tup l,h=>by simp only [AV.kept,AV.foreign] at h ⊢;exact pP h
  | .iface _ v,h=>by simp only [AV.kept,AV.foreign] at h ⊢;exact DL h
  | .ptr ..,h=>by simp [AV.kept] at h
  | .sl ..,h=>by simp [AV.kept] at h
  | .int ..,_ | .bool ..,_ | .flt ..,_ | .str _,_ | .nptr,_ | .iptr ..,_ | .nsl,_ | .esl,_ | .zsl _,_ | .nan,_ | .imm ..,_ | .nfn,_ | .niface,_ | .any,_=>rfl
theorem pP:∀ {l:List AV},iR l=true→dm l=true
  | [],_=>rfl
  | v::l,h=>by simp only [iR,dm,Bool.and_eq_true] at h ⊢;exact ⟨DL h.1,pP h.2⟩
end
theorem Fo:∀ {l:List AV},dm l=true→∀ (x:Nat) (v:AV),l[x]? = some v→v.foreign=true
  | [],_,x,v,h=>by simp at h
  | a::l,ha,0,v,h=>by simp at h;subst h;simp only [dm,Bool.and_eq_true] at ha;exact ha.1
  | a::l,ha,x+1,v,h=>by simp only [dm,Bool.and_eq_true] at ha;exact Fo ha.2 x v (by simpa using h)
theorem bX{d:ba}(hr:d.recKept)(hk:d.foreign=true)(x:Nat)(v:AV)(hx:d.cell? x=some v) :v.foreign=true:=by
  cases d with
  | fl xs=>simp only [ba.cell?,Option.map_eq_some_iff] at hx;obtain ⟨_,_,rfl⟩:=hx;rfl
  | ns k xs=>simp only [ba.cell?,Option.map_eq_some_iff] at hx;obtain ⟨_,_,rfl⟩:=hx;rfl
  | bs xs=>simp only [ba.cell?,Option.map_eq_some_iff] at hx;obtain ⟨_,_,rfl⟩:=hx;rfl
  | ss xs=>simp only [ba.cell?,Option.map_eq_some_iff] at hx;obtain ⟨_,_,rfl⟩:=hx;rfl
  | vs xs=>exact Fo hk x v hx
  | rows k n get =>
    simp only [ba.cell?] at hx
    split at hx
    · cases hx;exact DL (hr _ _).1
    · cases hx
  | cols n cs=>obtain ⟨c,_,_,h⟩:=mV hx;exact (BE h).2.1
theorem dd{d:ba}(hr:d.recKept)(hk:d.kept=true)(x:Nat)(v:AV)(hx:d.cell? x=some v) :v.kept=true:=by
  cases d with
  | fl xs=>simp only [ba.cell?,Option.map_eq_some_iff] at hx;obtain ⟨_,_,rfl⟩:=hx;rfl
  | ns k xs=>simp only [ba.cell?,Option.map_eq_some_iff] at hx;obtain ⟨_,_,rfl⟩:=hx;rfl
  | bs xs=>simp only [ba.cell?,Option.map_eq_some_iff] at hx;obtain ⟨_,_,rfl⟩:=hx;rfl
  | ss xs=>simp only [ba.cell?,Option.map_eq_some_iff] at hx;obtain ⟨_,_,rfl⟩:=hx;rfl
  | vs xs=>exact Fm hk x v hx
  | rows k n get =>
    simp only [ba.cell?] at hx
    split at hx
    · cases hx;exact (hr _ _).1
    · cases hx
  | cols n cs=>obtain ⟨c,_,_,h⟩:=mV hx;exact (BE h).1
def Sz(ρ τ:aH)(w:World) :Prop:=∀ bl,bl<w.heap.size→(∀ j,¬ ρ.own j bl)→∀ j,¬ τ.own j bl
theorem rv{O:Nat→Nat→Prop}{bl:Nat}(h:∀ j,¬ O j bl) :∀ (l:Lv) (i:Nat),l.av O i bl
  | .free,i=>fun j _=>h j
  | .lent,i=>h i
  | .up l,i=>⟨h i,rv h l (i+1)⟩
theorem qO{ρ τ:aH}{w:World}(hN:Sz ρ τ w){v:AV}{u:Value}(h:VR ρ w v u) :v.kept=true→VR τ w v u:=by
  have av:∀ {l:Lv} {bl:Nat},bl<w.heap.size→l.isFree=true→ρ.avoid l bl→τ.avoid l bl:=fun hb hl h =>
    rv (hN _ hb fun j=>xp (O:=ρ.own) hl h j (Nat.zero_le _)) _ _
  induction h using VR.rec (motive_2:=fun l c _=>iR l=true→jk τ w l c) with
  | int k n=>exact fun _=>.int k n
  | bool kn b=>exact fun _=>.bool kn b
  | flt ex x y h=>exact fun _=>.flt ex x y h
  | str s=>exact fun _=>.str s
  | nptr=>exact fun _=>.nptr
  | ptr b k i j hb=>intro hk;simp [AV.kept] at hk
  | iptr bw d k i j bl o u ha hb hc hv hr hk hg ih =>
    intro hkept
    have hf:bw.isFree=true:=by simpa [AV.kept] using hkept
    exact .iptr bw d k i j bl o u (av hb hf ha) hb hc (fun x v hx=>ih x v hx (dd hr (hk hf) x v hx)) hr hk hg
  | nsl=>exact fun _=>.nsl
  | esl a=>exact fun _=>.esl a
  | zsl a c=>exact fun _=>.zsl a c
  | nan n h=>exact fun _=>.nan n h
  | sl b k es i len cap cap' hb hcap hl c t hh hs=>intro hk;simp [AV.kept] at hk
  | slEnd b k es i a=>intro hk;simp [AV.kept] at hk
  | imm bw d k es i len cap bl o u ha hb hc hv hl hr hk hg ih =>
    intro hkept
    have hf:bw.isFree=true:=by simpa [AV.kept] using hkept
    exact .imm bw d k es i len cap bl o u (av hb hf ha) hb hc (fun x v hx=>ih x v hx (dd hr (hk hf) x v hx)) hl hr hk hg
  | immEnd bw d k es i cap a hr hk hg=>exact fun _=>.immEnd bw d k es i cap a hr hk hg
  | fn f l1 l2 c1 c2 h1 h2 i1 i2=>intro hk;simp only [AV.kept,Bool.and_eq_true] at hk;exact .fn f l1 l2 c1 c2 (i1 hk.1) (i2 hk.2)
  | nfn=>exact fun _=>.nfn
  | agg l c h ih=>intro hk;exact .agg l c (ih hk)
  | tup l c h ih=>intro hk;exact .tup l c (ih hk)
  | iface t v u h ih=>intro hk;exact .iface t v u (ih hk)
  | niface=>exact fun _=>.niface
  | any u=>exact fun _=>.any u
  | nil=>exact jk.nil
  | cons v u l c h t i1 i2=>rename_i hk;simp only [iR,Bool.and_eq_true] at hk;exact jk.cons v u l c (i1 hk.1) (i2 hk.2)
mutual
def Ms (σ:Nat→Option Nat):AV→AV
  | .ptr b w i j=>match σ b with | some c=>.ptr c w i j | none=>.any
  | .sl b w es i len cap=>match σ b with | some c=>.sl c w es i len cap | none=>.any
  | .iptr l d w i j=>.iptr (.up l) (OI σ d) w i j
  | .imm l d w es i len=>.imm (.up l) (OI σ d) w es i len
  | .fn f l1 l2=>.fn f (Iq σ l1) (Iq σ l2)
  | .agg l=>.agg (Iq σ l)
  | .tup l=>.tup (Iq σ l)
  | .iface t v=>.iface t (Ms σ v)
  | v=>v
def Iq (σ:Nat→Option Nat):List AV→List AV
  | []=>[]
  | v::l=>Ms σ v::Iq σ l
def OI (σ:Nat→Option Nat):ba→ba
  | .vs l=>.vs (Iq σ l)
  | d=>d
end
mutual
theorem Ri (σ:Nat→Option Nat):∀ (v:AV),v.kept=true→(Ms σ v).kept=true
  | .fn _ l1 l2,h=>by simp only [AV.kept,Ms,Bool.and_eq_true] at h ⊢;exact ⟨zJ σ l1 h.1,zJ σ l2 h.2⟩
  | .agg l,h=>by simp only [AV.kept,Ms] at h ⊢;exact zJ σ l h
  | .tup l,h=>by simp only [AV.kept,Ms] at h ⊢;exact zJ σ l h
  | .iface _ v,h=>by simp only [AV.kept,Ms] at h ⊢;exact Ri σ v h
  | .ptr ..,h=>by simp [AV.kept] at h
  | .sl ..,h=>by simp [AV.kept] at h
  | .iptr ..,h=>by simpa [AV.kept,Ms,Lv.isFree] using h
  | .imm ..,h=>by simpa [AV.kept,Ms,Lv.isFree] using h
  | .int ..,_ | .bool ..,_ | .flt ..,_ | .str _,_ | .nptr,_ | .nsl,_ | .esl,_ | .zsl _,_ | .nan,_ | .nfn,_ | .niface,_ | .any,_=>rfl
theorem zJ (σ:Nat→Option Nat):∀ (l:List AV),iR l=true→iR (Iq σ l)=true
  | [],_=>rfl
  | v::l,h=>by simp only [iR,Iq,Bool.and_eq_true] at h ⊢;exact ⟨Ri σ v h.1,zJ σ l h.2⟩
end
mutual
theorem Fp (σ:Nat→Option Nat):∀ (v:AV),v.foreign=true→(Ms σ v).foreign=true
  | .fn _ l1 l2,h=>by simp only [AV.foreign,Ms,Bool.and_eq_true] at h ⊢;exact ⟨sS σ l1 h.1,sS σ l2 h.2⟩
  | .agg l,h=>by simp only [AV.foreign,Ms] at h ⊢;exact sS σ l h
  | .tup l,h=>by simp only [AV.foreign,Ms] at h ⊢;exact sS σ l h
  | .iface _ v,h=>by simp only [AV.foreign,Ms] at h ⊢;exact Fp σ v h
  | .ptr ..,h=>by simp [AV.foreign] at h
  | .sl ..,h=>by simp [AV.foreign] at h
  | .iptr ..,h=>rfl
  | .imm ..,h=>rfl
  | .int ..,_ | .bool ..,_ | .flt ..,_ | .str _,_ | .nptr,_ | .nsl,_ | .esl,_ | .zsl _,_ | .nan,_ | .nfn,_ | .niface,_ | .any,_=>rfl
theorem sS (σ:Nat→Option Nat):∀ (l:List AV),dm l=true→dm (Iq σ l)=true
  | [],_=>rfl
  | v::l,h=>by simp only [dm,Iq,Bool.and_eq_true] at h ⊢;exact ⟨Fp σ v h.1,sS σ l h.2⟩
end
theorem J2{σ:Nat→Option Nat}{d:ba}(h:d.kept=true) :(OI σ d).kept=true:=by
  cases d<;>first | exact h | exact zJ σ _ h
theorem DM{σ:Nat→Option Nat}{d:ba}(h:d.foreign=true) :(OI σ d).foreign=true:=by
  cases d<;>first | exact h | exact sS σ _ h
theorem I2{σ:Nat→Option Nat}{d:ba}(h:d.recKept) :(OI σ d).recKept:=by
  cases d<;>first | exact h | trivial
theorem Rj(σ:Nat→Option Nat) :∀ (l:List AV) (x:Nat),(Iq σ l)[x]? = (l[x]?).map (Ms σ)
  | [],x=>by simp [Iq]
  | v::l,0=>by simp [Iq]
  | v::l,x+1=>by simp [Iq,Rj σ l x]
theorem zK{σ:Nat→Option Nat}{d:ba}(hr:d.recKept){x:Nat}{v:AV}(h:(OI σ d).cell? x=some v) :∃ v0,d.cell? x=some v0∧(v=Ms σ v0∨(v=v0∧v0.kept=true)):=by
  cases d with
  | vs l =>
    simp only [OI,ba.cell?,Rj,Option.map_eq_some_iff] at h
    obtain ⟨v0,h1,rfl⟩:=h
    exact ⟨v0,h1,.inl rfl⟩
  | fl xs=>exact ⟨v,h,.inr ⟨rfl,dd hr rfl x v h⟩⟩
  | ns k xs=>exact ⟨v,h,.inr ⟨rfl,dd hr rfl x v h⟩⟩
  | bs xs=>exact ⟨v,h,.inr ⟨rfl,dd hr rfl x v h⟩⟩
  | ss xs=>exact ⟨v,h,.inr ⟨rfl,dd hr rfl x v h⟩⟩
  | rows k n g=>exact ⟨v,h,.inr ⟨rfl,dd hr rfl x v h⟩⟩
  | cols n cs=>exact ⟨v,h,.inr ⟨rfl,dd hr rfl x v h⟩⟩
structure Rk (ρ τ:aH) (w:World) (h:fj) (σ:Nat→Option Nat):Prop where
  id:∀ b c,σ b=some c→ρ.ok b→τ.ok c∧τ.at_ c=ρ.at_ b
  up:∀ l bl,bl<w.heap.size→ρ.avoid l bl→τ.avoid (.up l) bl
  nobody:Sz ρ τ w
  ro:∀ b d,bQ h b=some d→ρ.ok b→σ b=none→¬ τ.live (ρ.at_ b)
theorem ut{ρ τ:aH}{w:World}{h:fj}{σ:Nat→Option Nat}(L:Rk ρ τ w h σ){v:AV}{u:Value}(hv:VR ρ w v u) :VR τ w (Ms σ v) u:=by
  induction hv using VR.rec (motive_2:=fun l c _=>jk τ w (Iq σ l) c) with
  | int k n=>exact .int k n
  | bool kn b=>exact .bool kn b
  | flt ex x y h=>exact .flt ex x y h
  | str s=>exact .str s
  | nptr=>exact .nptr
  | ptr b k i j hb =>
    simp only [Ms]
    split
    · rename_i c hc
      obtain ⟨h1,h2⟩:=L.id b c hc hb
      rw [←h2];exact .ptr _ _ _ _ h1
    · exact .any _
  | iptr bw d k i j bl o u ha hb hc hv hr hk hg ih =>
    simp only [Ms]
    refine .iptr _ _ k i j bl o u (L.up bw bl hb ha) hb (fun x v hx=>?_) (fun x v hx=>?_) (I2 hr) (fun e=>J2 (hk e)) (DM hg)
    · obtain ⟨v0,h1,_⟩:=zK hr hx;exact hc x v0 h1
    · obtain ⟨v0,h1,h2⟩:=zK hr hx
      rcases h2 with rfl | ⟨rfl,h3⟩
      · exact ih x v0 h1
      · exact qO L.nobody (hv x v h1) h3
  | nsl=>exact .nsl
  | esl a=>exact .esl a
  | zsl a c=>exact .zsl a c
  | nan n h=>exact .nan n h
  | sl b k es i len cap cap' hb hcap hl c t hh hs =>
    simp only [Ms]
    split
    · rename_i c' hc
      obtain ⟨h1,h2⟩:=L.id b c' hc hb
      rw [←h2] at hh ⊢;exact .sl _ _ _ _ _ _ _ h1 hcap hl c t hh hs
    · exact .any _
  | slEnd b k es i a =>
    simp only [Ms]
    split
    · exact .slEnd _ _ _ _ _
    · exact .any _
  | imm bw d k es i len cap bl o u ha hb hc hv hl hr hk hg ih =>
    simp only [Ms]
    refine .imm _ _ k es i len cap bl o u (L.up bw bl hb ha) hb (fun x v hx=>?_) (fun x v hx=>?_) hl (I2 hr) (fun e=>J2 (hk e)) (DM hg)
    · obtain ⟨v0,h1,_⟩:=zK hr hx;exact hc x v0 h1
    · obtain ⟨v0,h1,h2⟩:=zK hr hx
      rcases h2 with rfl | ⟨rfl,h3⟩
      · exact ih x v0 h1
      · exact qO L.nobody (hv x v h1) h3
  | immEnd bw d k es i cap a hr hk hg=>exact .immEnd _ _ k es i cap a (I2 hr) (fun e=>J2 (hk e)) (DM hg)
  | fn f l1 l2 c1 c2 h1 h2 i1 i2=>exact .fn f _ _ c1 c2 i1 i2
  | nfn=>exact .nfn
  | agg l c h ih=>exact .agg _ c ih
  | tup l c h ih=>exact .tup _ c ih
  | iface t v u h ih=>exact .iface t _ u ih
  | niface=>exact .niface
  | any u=>exact .any u
  | nil=>exact jk.nil
  | cons v u l c h t i1 i2=>exact jk.cons _ u _ c i1 i2
def WA:Nat→Option Nat:=fun _=>none
mutual
def J3 (σ:Nat→Option Nat) (g:Nat→Option ba):Nat→AV→AV×List Nat
  | 0,_=>(.any,[])
  | n + 1, v =>
    match v with
    | .ptr b w i j=>match σ b with
      | some _=>(.any,[])
      | none=>match g b with
        | some d=>let r:=Ir σ g n d;(.iptr .lent r.1 w i j,b::r.2)
        | none=>(.any,[b])
    | .sl b w es i len _=>match σ b with
      | some _=>(.any,[])
      | none=>match g b with
        | some d=>let r:=Ir σ g n d;(.imm .lent r.1 w es i len,b::r.2)
        | none=>(.any,[b])
    | .fn f l1 l2=>let r1:=I3 σ g n l1;let r2:=I3 σ g n l2;(.fn f r1.1 r2.1,r1.2++r2.2)
    | .agg l=>let r:=I3 σ g n l;(.agg r.1,r.2)
    | .tup l=>let r:=I3 σ g n l;(.tup r.1,r.2)
    | .iface t v=>let r:=J3 σ g n v;(.iface t r.1,r.2)
    | v=>(Ms WA v,[])
def I3 (σ:Nat→Option Nat) (g:Nat→Option ba):Nat→List AV→List AV×List Nat
  | 0,l=>(l.map fun _=>.any,[])
  | n+1,l =>
    match l with
    | []=>([],[])
    | v::l=>let r:=J3 σ g n v;let s:=I3 σ g n l;(r.1::s.1,r.2++s.2)
def Ir (σ:Nat→Option Nat) (g:Nat→Option ba):Nat→ba→ba×List Nat
  | 0,d=>(.vs [],[])
  | n+1,d =>
    match d with
    | .vs l=>let r:=I3 σ g n l;(.vs r.1,r.2)
    | d=>(d,[])
end
mutual
theorem K1 (σ:Nat→Option Nat) (g:Nat→Option ba):∀ (n:Nat) (v:AV),(J3 σ g n v).1.foreign=true
  | 0,v=>rfl
  | n+1,v=>by
    cases v<;>simp only [J3]<;>first
      | (split;rfl;split<;>rfl)
      | (simp only [AV.foreign,Bool.and_eq_true];exact ⟨v5 σ g n _,v5 σ g n _⟩)
      | (simp only [AV.foreign];exact v5 σ g n _)
      | (simp only [AV.foreign];exact K1 σ g n _)
      | exact Fp _ _ rfl
theorem v5 (σ:Nat→Option Nat) (g:Nat→Option ba):∀ (n:Nat) (l:List AV),dm (I3 σ g n l).1=true
  | 0,l=>by
    simp only [I3]
    induction l with
    | nil=>rfl
    | cons a l ih=>simp only [List.map_cons,dm,AV.foreign,Bool.true_and];exact ih
  | n+1,[]=>rfl
  | n+1,v::l=>by simp only [I3,dm,Bool.and_eq_true];exact ⟨K1 σ g n v,v5 σ g n l⟩
end
theorem DN(σ:Nat→Option Nat)(g:Nat→Option ba)(n:Nat)(d:ba) :(Ir σ g n d).1.foreign=true:=by
  cases n with
  | zero=>rfl
  | succ n=>cases d<;>simp only [Ir,ba.foreign];exact v5 σ g n _
theorem P5(σ:Nat→Option Nat)(g:Nat→Option ba)(n:Nat)(d:ba)(h:d.recKept) :(Ir σ g n d).1.recKept:=by
  cases n with
  | zero=>trivial
  | succ n=>cases d<;>first | exact h | trivial
theorem lm{ρ τ:aH}{w:World}{h:fj}{σ:Nat→Option Nat}(L:Rk ρ τ w h σ) :Rk ρ τ w [] WA :=
  ⟨fun b c q=>(by cases q),L.up,L.nobody,fun b d q=>(by cases q)⟩
mutual
theorem P6 {ρ τ:aH} {w:World} {h:fj} {m:Nat} {σ:Nat→Option Nat} (hh:HR ρ w h m) (L:Rk ρ τ w h σ):∀ (n:Nat) {v:AV} {u:Value},VR ρ w v u→VR τ w (J3 σ (bQ h) n v).1 u
  | 0,v,u,hv=>.any u
  | n + 1, v, u, hv => by
    have content:∀ (b:Nat) (d:ba),bQ h b=some d→ρ.ok b→∀ x v,(Ir σ (bQ h) n d).1.cell? x=some v→w.cell? ⟨ρ.at_ b,0+x,none⟩=some ((w.cell? ⟨ρ.at_ b,x,none⟩).getD undef)∧VR τ w v ((w.cell? ⟨ρ.at_ b,x,none⟩).getD undef):=by
      intro b d hd hok x v hx
      obtain ⟨_,hrk,c,t,hc,hcv⟩:=hh.real hd hok
      obtain ⟨u,q1,q2⟩:=SA hh L n (ρ.at_ b) (fun x v hx=>by
        obtain ⟨u,k1,k2⟩:=hcv x v hx
        exact ⟨u,by simp [World.cell?,hc,k1],k2⟩) hrk x v hx
      rw [Nat.zero_add,q1];exact ⟨rfl,q2⟩
    cases v with
    | ptr b k i j =>
      simp only [J3]
      split
      · exact .any _
      · rename_i hσ
        split
        · rename_i d hd
          cases hv with | ptr _ _ _ _ hb =>
          have:=VR.iptr (ρ:=τ) (w:=w) .lent (Ir σ (bQ h) n d).1 k i j (ρ.at_ b) 0 (fun x=>(w.cell? ⟨ρ.at_ b,x,none⟩).getD undef) (L.ro b d hd hb hσ) (hh.liveLt _ (hh.real hd hb).1)
            (fun x v hx=>(content b d hd hb x v hx).1) (fun x v hx=>(content b d hd hb x v hx).2) (P5 _ _ _ _ (hh.rk hd)) (fun e=>by cases e) (DN _ _ _ _)
          simpa using this
        · exact .any _
    | sl b k es i len cap =>
      simp only [J3]
      split
      · exact .any _
      · rename_i hσ
        split
        · rename_i d hd
          cases hv with
          | sl _ _ _ _ _ _ cap' hb hcap hl' c t hh' hs =>
            have:=VR.imm (ρ:=τ) (w:=w) .lent (Ir σ (bQ h) n d).1 k es i len cap' (ρ.at_ b) 0 (fun x=>(w.cell? ⟨ρ.at_ b,x,none⟩).getD undef) (L.ro b d hd hb hσ) (hh.liveLt _ (hh.real hd hb).1)
              (fun x v hx=>(content b d hd hb x v hx).1) (fun x v hx=>(content b d hd hb x v hx).2) (by omega) (P5 _ _ _ _ (hh.rk hd)) (fun e=>by cases e) (DN _ _ _ _)
            simpa using this
          | slEnd=>exact .immEnd _ _ _ _ _ _ _ (P5 _ _ _ _ (hh.rk hd)) (fun e=>by cases e) (DN _ _ _ _)
        · exact .any _
    | fn f l1 l2=>cases hv with | fn _ _ _ _ _ h1 h2=>exact .fn _ _ _ _ _ (DO hh L n h1) (DO hh L n h2)
    | agg l=>cases hv with | agg _ _ h1=>exact .agg _ _ (DO hh L n h1)
    | tup l=>cases hv with | tup _ _ h1=>exact .tup _ _ (DO hh L n h1)
    | iface t v=>cases hv with | iface _ _ _ h1=>exact .iface _ _ _ (P6 hh L n h1)
    | int=>exact ut (lm L) hv
    | bool=>exact ut (lm L) hv
    | flt=>exact ut (lm L) hv
    | str=>exact ut (lm L) hv
    | nptr=>exact ut (lm L) hv
    | iptr=>exact ut (lm L) hv
    | nsl=>exact ut (lm L) hv
    | esl=>exact ut (lm L) hv
    | zsl=>exact ut (lm L) hv
    | nan=>exact ut (lm L) hv
    | imm=>exact ut (lm L) hv
    | nfn=>exact ut (lm L) hv
    | niface=>exact ut (lm L) hv
    | any=>exact ut (lm L) hv
theorem DO {ρ τ:aH} {w:World} {h:fj} {m:Nat} {σ:Nat→Option Nat} (hh:HR ρ w h m) (L:Rk ρ τ w h σ):∀ (n:Nat) {l:List AV} {c:List Value},jk ρ w l c→jk τ w (I3 σ (bQ h) n l).1 c
  | 0,[],c,hv=>by cases hv;exact .nil
  | 0,v::l,c,hv=>by
    cases hv with | cons _ u _ c' h1 h2 =>
    have:=DO hh L 0 h2
    exact .cons _ _ _ _ (.any u) this
  | n+1,[],c,hv=>by cases hv;exact .nil
  | n+1,v::l,c,hv=>by
    cases hv with | cons _ u _ c' h1 h2=>exact .cons _ _ _ _ (P6 hh L n h1) (DO hh L n h2)
theorem SA {ρ τ:aH} {w:World} {h:fj} {m:Nat} {σ:Nat→Option Nat} (hh:HR ρ w h m) (L:Rk ρ τ w h σ):∀ (n:Nat) (bl:Nat) {d:ba},(∀ x v,d.cell? x=some v→∃ u,w.cell? ⟨bl,x,none⟩=some u∧VR ρ w v u)→d.recKept →
    ∀ x v,(Ir σ (bQ h) n d).1.cell? x=some v→∃ u,w.cell? ⟨bl,x,none⟩=some u∧VR τ w v u
  | 0,bl,d,hc,hr,x,v,hx=>by simp [Ir,ba.cell?] at hx
  | n + 1, bl, d, hc, hr, x, v, hx => by
    cases d with
    | vs l =>
      simp only [Ir,ba.cell?] at hx
      have hus:jk ρ w l ((List.range l.length).map fun x=>(w.cell? ⟨bl,x,none⟩).getD undef):=by
        refine zR (by simp) fun y v u q1 q2=>?_
        obtain ⟨u',k1,k2⟩:=hc y v q1
        have hlt:y<l.length:=(List.getElem?_eq_some_iff.1 q1).1
        rw [List.getElem?_map,List.getElem?_range hlt] at q2
        simp [k1] at q2;subst q2;exact k2
      have hr2:=DO hh L n hus
      obtain ⟨u,q1,q2⟩:=hr2.get x v hx
      rw [List.getElem?_map] at q1
      have hlt:x<l.length:=by
        rcases Nat.lt_or_ge x l.length with q | q
        · exact q
        · rw [List.getElem?_eq_none (by simpa using q)] at q1;cases q1
      rw [List.getElem?_range hlt] at q1
      obtain ⟨u',k1,_⟩:=hc x (l[x]) (List.getElem?_eq_getElem hlt)
      simp [k1] at q1;subst q1
      exact ⟨u',k1,q2⟩
    | fl xs=>obtain ⟨u,q1,q2⟩:=hc x v hx;exact ⟨u,q1,qO L.nobody q2 (dd (d:=.fl xs) hr rfl x v hx)⟩
    | ns k xs=>obtain ⟨u,q1,q2⟩:=hc x v hx;exact ⟨u,q1,qO L.nobody q2 (dd (d:=.ns k xs) hr rfl x v hx)⟩
    | bs xs=>obtain ⟨u,q1,q2⟩:=hc x v hx;exact ⟨u,q1,qO L.nobody q2 (dd (d:=.bs xs) hr rfl x v hx)⟩
    | ss xs=>obtain ⟨u,q1,q2⟩:=hc x v hx;exact ⟨u,q1,qO L.nobody q2 (dd (d:=.ss xs) hr rfl x v hx)⟩
    | rows k m get=>obtain ⟨u,q1,q2⟩:=hc x v hx;exact ⟨u,q1,qO L.nobody q2 (dd (d:=.rows k m get) hr rfl x v hx)⟩
    | cols k cs=>obtain ⟨u,q1,q2⟩:=hc x v hx;exact ⟨u,q1,qO L.nobody q2 (dd (d:=.cols k cs) hr rfl x v hx)⟩
end
def jm:Nat→List (Option ba)→fj
  | _,[]=>[]
  | i,some d::l=>(i,d)::jm (i+1) l
  | i,none::l=>jm (i+1) l
theorem DP:∀ (l:List (Option ba)) (i x:Nat),bQ (jm i l) x=if i≤x then (l[x-i]?).join else none
  | [],i,x=>by simp [jm,bQ]
  | some d::l,i,x=>by
    simp only [jm,bQ]
    by_cases h:i=x
    · subst h;simp [xu]
    · rw [zO h,cond_false,DP l (i+1) x]
      by_cases hx:i≤x
      · have e:x-i=(x-(i+1))+1:=by omega
        rw [if_pos (by omega),if_pos hx,e];simp
      · rw [if_neg (by omega),if_neg hx]
  | none::l,i,x=>by
    simp only [jm]
    rw [DP l (i+1) x]
    by_cases hx:i≤x
    · rw [if_pos hx]
      by_cases h:i=x
      · subst h;rw [if_neg (by omega)];simp
      · have e:x-i=(x-(i+1))+1:=by omega
        rw [if_pos (by omega),e];simp
    · rw [if_neg (by omega),if_neg hx]
theorem Hs(l:List (Option ba))(x:Nat) :bQ (jm 0 l) x=(l[x]?).join:=by
  rw [DP];simp
theorem rx{l:List (Option ba)}{x:Nat}{d:ba}(h:bQ (jm 0 l) x=some d) :l[x]? = some (some d):=by
  rw [Hs] at h
  cases q:l[x]? with
  | none=>rw [q] at h;cases h
  | some o=>rw [q] at h;simp at h;rw [h]
structure vN (ρ:aH) (w:World) (lent:List ba):Prop where
  heap:HR ρ w (jm 0 (lent.map some)) lent.length
  only:∀ bl,ρ.live bl→∃ i,ρ.ok i∧ρ.at_ i=bl
structure rU where
  v:AV
  own:List (Option ba)
def rU.Holds(ρ:aH)(w w':World)(k:Nat)(r:rU)(u:Value) :Prop :=
  ∃ ρ',vY ρ ρ' w∧(∀ i,i<k→ρ'.ok i→ρ.ok i)∧HR ρ' w' (jm 0 r.own) r.own.length∧VR ρ' w' r.v u
def J4(ρ:aH)(bs:List Nat)(bl:Nat) :Prop:=∃ b,b∈bs∧ρ.ok b∧bl=ρ.at_ b
def aH.lend(ρ:aH)(bs:List Nat) :aH :=
  { at_:=fun i=>ρ.at_ ((bs[i]?).getD 0),ok:=fun i=>∃ b,bs[i]? = some b∧ρ.ok b,live:=J4 ρ bs,
    out:=fun j bl=>match j with
      | 0=>ρ.live bl∧¬ J4 ρ bs bl
      | j+1=>ρ.out j bl }
def tA:List Nat→Nat→Nat→Option Nat
  | [],_,_=>none
  | k::l,i,b=>bif Nat.beq k b then some i else tA l (i+1) b
theorem GO:∀ {l:List Nat} {i b c:Nat},tA l i b=some c→i≤c∧l[c-i]? = some b
  | [],i,b,c,h=>by cases h
  | k::l,i,b,c,h=>by
    simp only [tA] at h
    cases e:Nat.beq k b with
    | true=>rw [e] at h;simp only [cond_true,Option.some.injEq] at h;subst h;have:=Nat.eq_of_beq_eq_true e;subst this;simp
    | false =>
      rw [e] at h;simp only [cond_false] at h
      obtain ⟨h1,h2⟩:=GO h
      refine ⟨by omega,?_⟩
      have:c-i=(c-(i+1))+1:=by omega
      rw [this];simpa using h2
theorem MQ:∀ {l:List Nat} {i b:Nat},tA l i b=none→b ∉ l
  | [],i,b,_,h=>by cases h
  | k::l,i,b,h,hm=>by
    simp only [tA] at h
    cases e:Nat.beq k b with
    | true=>rw [e] at h;cases h
    | false =>
      rw [e] at h
      rcases List.mem_cons.1 hm with rfl | q
      · rw [xu] at e;cases e
      · exact MQ h q
structure Rl (h:fj) (bs:List Nat):Prop where
  nodup:∀ {i j b:Nat},bs[i]? = some b→bs[j]? = some b→i=j
  there:∀ b,b∈bs→∃ d,bQ h b=some d
theorem zL{ρ:aH}{w:World}{h:fj}{n:Nat}{bs:List Nat}(hh:HR ρ w h n)(hb:Rl h bs){bl:Nat}(q:J4 ρ bs bl) :ρ.live bl:=by
  obtain ⟨b,h1,h2,rfl⟩:=q
  obtain ⟨d,hd⟩:=hb.there b h1
  exact (hh.real hd h2).1
theorem Tg{ρ:aH}{w:World}{h:fj}{n:Nat}{bs:List Nat}(hh:HR ρ w h n)(hb:Rl h bs) :Rk ρ (ρ.lend bs) w h (tA bs 0):=by
  refine ⟨fun b c hc hok=>?_,fun l bl _ ha=>?_,fun bl _ hN j=>?_,fun b d hd hok hσ=>?_⟩
  · obtain ⟨_,h2⟩:=GO hc
    rw [Nat.sub_zero] at h2
    exact ⟨⟨b,h2,hok⟩,by simp [aH.lend,h2]⟩
  · refine ⟨fun q=>xq ha (zL hh hb q),?_⟩
    refine DG (d:=1) (i:=0) (fun j _ q=>?_) ha
    cases j with
    | zero=>exact q.1
    | succ j=>exact q
  · cases j with
    | zero=>exact fun q=>hN 0 (zL hh hb q)
    | succ j =>
      cases j with
      | zero=>exact fun q=>hN 0 q.1
      | succ j=>exact fun q=>hN (j+1) q
  · rintro ⟨b',h1,h2,h3⟩
    obtain ⟨d',hd'⟩:=hb.there b' h1
    have:=hh.inj b b' d d' hd hd' hok h2 h3
    subst this
    exact MQ hσ h1
def yJ(σ:Nat→Option Nat)(g:Nat→Option ba) :List Nat→List ba
  | []=>[]
  | b::l=>(match g b with | some d=>OI σ d | none=>.vs [])::yJ σ g l
theorem xZ(σ:Nat→Option Nat)(g:Nat→Option ba) :∀ l,(yJ σ g l).length=l.length
  | []=>rfl
  | b::l=>by simp [yJ,xZ σ g l]
theorem MR(σ:Nat→Option Nat)(g:Nat→Option ba) :∀ (l:List Nat) (i:Nat) (d:ba),(yJ σ g l)[i]? = some d→∃ b,l[i]? = some b∧d=(match g b with | some d=>OI σ d | none=>.vs [])
  | [],i,d,h=>by simp [yJ] at h
  | b::l,0,d,h=>by simp [yJ] at h;exact ⟨b,rfl,h.symm⟩
  | b::l,i+1,d,h=>MR σ g l i d (by simpa [yJ] using h)
theorem SB{ρ:aH}{w:World}{h:fj}{n:Nat}{bs:List Nat}(hh:HR ρ w h n)(hb:Rl h bs) :vN (ρ.lend bs) w (yJ (tA bs 0) (bQ h) bs):=by
  have L:=Tg hh hb
  have atE:∀ {i b:Nat},bs[i]? = some b→(ρ.lend bs).at_ i=ρ.at_ b:=fun q=>by simp [aH.lend,q]
  refine ⟨⟨fun i d hi=>?_,fun i j d e h1 h2 ok1 ok2 he=>?_,fun bl q j=>?_,fun bl q=>hh.liveLt bl (zL hh hb q),fun j bl q=>?_,fun i q=>?_,fun x hx=>qO L.nobody (hh.rom x hx) rfl⟩,fun bl q=>?_⟩
  · have hi:=rx hi
    rw [List.getElem?_map,Option.map_eq_some_iff] at hi
    obtain ⟨d',q1,q2⟩:=hi
    simp only [Option.some.injEq] at q2;subst q2
    obtain ⟨b,q3,q4⟩:=MR _ _ _ _ _ q1
    obtain ⟨d0,hd0⟩:=hb.there b (List.mem_of_getElem? q3)
    rw [hd0] at q4
    simp only at q4;subst q4
    have hlt:i<bs.length:=(List.getElem?_eq_some_iff.1 q3).1
    rcases hh.cell b d0 hd0 with ⟨k1,k2,k3⟩ | ⟨k1,k2,k3,k4⟩
    · refine .inl ⟨⟨b,q3,k1⟩,⟨b,List.mem_of_getElem? q3,k1,atE q3⟩,?_⟩
      rw [atE q3]
      obtain ⟨hr,c,t,r1,r2⟩:=k3
      refine ⟨I2 hr,c,t,r1,fun x v hx=>?_⟩
      obtain ⟨v0,s1,s2⟩:=zK hr hx
      obtain ⟨u,t1,t2⟩:=r2 x v0 s1
      refine ⟨u,t1,?_⟩
      rcases s2 with rfl | ⟨rfl,s3⟩
      · exact ut L t2
      · exact qO L.nobody t2 s3
    · refine .inr ⟨?_,by rw [xZ];exact hlt,I2 k3,fun x=>?_⟩
      · rintro ⟨b',q5,q6⟩
        rw [q3] at q5;cases q5
        exact k1 q6
      · cases hc:(OI (tA bs 0) d0).cell? x with
        | none=>rfl
        | some v=>obtain ⟨v0,s1,_⟩:=zK k3 hc;rw [k4 x] at s1;cases s1
  · obtain ⟨b,r1,r2⟩:=ok1
    obtain ⟨b',r3,r4⟩:=ok2
    rw [atE r1,atE r3] at he
    obtain ⟨d1,k1⟩:=hb.there b (List.mem_of_getElem? r1)
    obtain ⟨d2,k2⟩:=hb.there b' (List.mem_of_getElem? r3)
    have:=hh.inj b b' d1 d2 k1 k2 r2 r4 he
    subst this
    exact hb.nodup r1 r3
  · cases j with
    | zero=>exact fun r=>r.2 q
    | succ j=>exact hh.fresh bl (zL hh hb q) j
  · cases j with
    | zero=>exact hh.liveLt bl q.1
    | succ j=>exact hh.outLt j bl q
  · obtain ⟨b,q1,_⟩:=q
    rw [xZ];exact (List.getElem?_eq_some_iff.1 q1).1
  · obtain ⟨b,q1,q2,rfl⟩:=q
    obtain ⟨i,hi⟩:=List.getElem?_of_mem q1
    exact ⟨i,⟨b,hi,q2⟩,atE hi⟩
mutual
def uz (τ:Nat→Nat):AV→AV
  | .ptr b w i j=>.ptr (τ b) w i j
  | .sl b w es i len cap=>.sl (τ b) w es i len cap
  | .iptr (.up l) d w i j=>.iptr l (Ek τ d) w i j
  | .iptr .free d w i j=>.iptr .free d w i j
  | .iptr .lent _ _ _ _=>.any
  | .imm (.up l) d w es i len=>.imm l (Ek τ d) w es i len
  | .imm .free d w es i len=>.imm .free d w es i len
  | .imm .lent _ _ _ _ _=>.any
  | .fn f l1 l2=>.fn f (zT τ l1) (zT τ l2)
  | .agg l=>.agg (zT τ l)
  | .tup l=>.tup (zT τ l)
  | .iface t v=>.iface t (uz τ v)
  | v=>v
def zT (τ:Nat→Nat):List AV→List AV
  | []=>[]
  | v::l=>uz τ v::zT τ l
def Ek (τ:Nat→Nat):ba→ba
  | .vs l=>.vs (zT τ l)
  | d=>d
end
mutual
theorem MT (τ:Nat→Nat):∀ (v:AV),v.kept=true→(uz τ v).kept=true
  | .fn _ l1 l2,h=>by simp only [AV.kept,uz,Bool.and_eq_true] at h ⊢;exact ⟨xy τ l1 h.1,xy τ l2 h.2⟩
  | .agg l,h=>by simp only [AV.kept,uz] at h ⊢;exact xy τ l h
  | .tup l,h=>by simp only [AV.kept,uz] at h ⊢;exact xy τ l h
  | .iface _ v,h=>by simp only [AV.kept,uz] at h ⊢;exact MT τ v h
  | .ptr ..,h=>by simp [AV.kept] at h
  | .sl ..,h=>by simp [AV.kept] at h
  | .iptr .free ..,h=>rfl
  | .iptr .lent ..,h=>rfl
  | .iptr (.up l) ..,h=>by simpa [AV.kept,uz,Lv.isFree] using h
  | .imm .free ..,h=>rfl
  | .imm .lent ..,h=>rfl
  | .imm (.up l) ..,h=>by simpa [AV.kept,uz,Lv.isFree] using h
  | .int ..,_ | .bool ..,_ | .flt ..,_ | .str _,_ | .nptr,_ | .nsl,_ | .esl,_ | .zsl _,_ | .nan,_ | .nfn,_ | .niface,_ | .any,_=>rfl
theorem xy (τ:Nat→Nat):∀ (l:List AV),iR l=true→iR (zT τ l)=true
  | [],_=>rfl
  | v::l,h=>by simp only [iR,zT,Bool.and_eq_true] at h ⊢;exact ⟨MT τ v h.1,xy τ l h.2⟩
end
mutual
theorem Ht (τ:Nat→Nat):∀ (v:AV),v.foreign=true→(uz τ v).foreign=true
  | .fn _ l1 l2,h=>by simp only [AV.foreign,uz,Bool.and_eq_true] at h ⊢;exact ⟨ry τ l1 h.1,ry τ l2 h.2⟩
  | .agg l,h=>by simp only [AV.foreign,uz] at h ⊢;exact ry τ l h
  | .tup l,h=>by simp only [AV.foreign,uz] at h ⊢;exact ry τ l h
  | .iface _ v,h=>by simp only [AV.foreign,uz] at h ⊢;exact Ht τ v h
  | .ptr ..,h=>by simp [AV.foreign] at h
  | .sl ..,h=>by simp [AV.foreign] at h
  | .iptr .free ..,h=>rfl
  | .iptr .lent ..,h=>rfl
  | .iptr (.up l) ..,h=>rfl
  | .imm .free ..,h=>rfl
  | .imm .lent ..,h=>rfl
  | .imm (.up l) ..,h=>rfl
  | .int ..,_ | .bool ..,_ | .flt ..,_ | .str _,_ | .nptr,_ | .nsl,_ | .esl,_ | .zsl _,_ | .nan,_ | .nfn,_ | .niface,_ | .any,_=>rfl
theorem ry (τ:Nat→Nat):∀ (l:List AV),dm l=true→dm (zT τ l)=true
  | [],_=>rfl
  | v::l,h=>by simp only [dm,zT,Bool.and_eq_true] at h ⊢;exact ⟨Ht τ v h.1,ry τ l h.2⟩
end
theorem Is{τ:Nat→Nat}{d:ba}(h:d.kept=true) :(Ek τ d).kept=true:=by
  cases d<;>first | exact h | exact xy τ _ h
theorem BF{τ:Nat→Nat}{d:ba}(h:d.foreign=true) :(Ek τ d).foreign=true:=by
  cases d<;>first | exact h | exact ry τ _ h
theorem Fq{τ:Nat→Nat}{d:ba}(h:d.recKept) :(Ek τ d).recKept:=by
  cases d<;>first | exact h | trivial
theorem Po(τ:Nat→Nat) :∀ (l:List AV) (x:Nat),(zT τ l)[x]? = (l[x]?).map (uz τ)
  | [],x=>by simp [zT]
  | v::l,0=>by simp [zT]
  | v::l,x+1=>by simp [zT,Po τ l x]
theorem xz{τ:Nat→Nat}{d:ba}(hr:d.recKept){x:Nat}{v:AV}(h:(Ek τ d).cell? x=some v) :∃ v0,d.cell? x=some v0∧(v=uz τ v0∨(v=v0∧v0.kept=true)):=by
  cases d with
  | vs l =>
    simp only [Ek,ba.cell?,Po,Option.map_eq_some_iff] at h
    obtain ⟨v0,h1,rfl⟩:=h
    exact ⟨v0,h1,.inl rfl⟩
  | fl xs=>exact ⟨v,h,.inr ⟨rfl,dd hr rfl x v h⟩⟩
  | ns k xs=>exact ⟨v,h,.inr ⟨rfl,dd hr rfl x v h⟩⟩
  | bs xs=>exact ⟨v,h,.inr ⟨rfl,dd hr rfl x v h⟩⟩
  | ss xs=>exact ⟨v,h,.inr ⟨rfl,dd hr rfl x v h⟩⟩
  | rows k n g=>exact ⟨v,h,.inr ⟨rfl,dd hr rfl x v h⟩⟩
  | cols n cs=>exact ⟨v,h,.inr ⟨rfl,dd hr rfl x v h⟩⟩
structure Xm (ρ' τp:aH) (w:World) (τ:Nat→Nat):Prop where
  id:∀ b,ρ'.ok b→τp.ok (τ b)∧τp.at_ (τ b)=ρ'.at_ b
  down:∀ l bl,bl<w.heap.size→ρ'.avoid (.up l) bl→τp.avoid l bl
  nobody:Sz ρ' τp w
theorem Th{ρ' τp:aH}{w:World}{τ:Nat→Nat}(L:Xm ρ' τp w τ){v:AV}{u:Value}(hv:VR ρ' w v u) :VR τp w (uz τ v) u:=by
  induction hv using VR.rec (motive_2:=fun l c _=>jk τp w (zT τ l) c) with
  | int k n=>exact .int k n
  | bool kn b=>exact .bool kn b
  | flt ex x y h=>exact .flt ex x y h
  | str s=>exact .str s
  | nptr=>exact .nptr
  | ptr b k i j hb =>
    obtain ⟨h1,h2⟩:=L.id b hb
    simp only [uz];rw [←h2];exact .ptr _ _ _ _ h1
  | iptr bw d k i j bl o u ha hb hc hv hr hk hg ih =>
    cases bw with
    | lent=>exact .any _
    | free =>
      exact .iptr _ _ k i j bl o u (rv (L.nobody bl hb fun j=>xp (O:=ρ'.own) (l:=.free) rfl ha j (Nat.zero_le _)) .free 0) hb hc
        (fun x v hx=>qO L.nobody (hv x v hx) (dd hr (hk rfl) x v hx)) hr hk hg
    | up l =>
      refine .iptr l _ k i j bl o u (L.down l bl hb ha) hb (fun x v hx=>?_) (fun x v hx=>?_) (Fq hr) (fun e=>Is (hk e)) (BF hg)
      · obtain ⟨v0,h1,_⟩:=xz hr hx;exact hc x v0 h1
      · obtain ⟨v0,h1,h2⟩:=xz hr hx
        rcases h2 with rfl | ⟨rfl,h3⟩
        · exact ih x v0 h1
        · exact qO L.nobody (hv x v h1) h3
  | nsl=>exact .nsl
  | esl a=>exact .esl a
  | zsl a c=>exact .zsl a c
  | nan n h=>exact .nan n h
  | sl b k es i len cap cap' hb hcap hl c t hh hs =>
    obtain ⟨h1,h2⟩:=L.id b hb
    simp only [uz];rw [←h2] at hh ⊢;exact .sl _ _ _ _ _ _ _ h1 hcap hl c t hh hs
  | slEnd b k es i a=>exact .slEnd _ _ _ _ _
  | imm bw d k es i len cap bl o u ha hb hc hv hl hr hk hg ih =>
    cases bw with
    | lent=>exact .any _
    | free =>
      exact .imm _ _ k es i len cap bl o u (rv (L.nobody bl hb fun j=>xp (O:=ρ'.own) (l:=.free) rfl ha j (Nat.zero_le _)) .free 0) hb hc
        (fun x v hx=>qO L.nobody (hv x v hx) (dd hr (hk rfl) x v hx)) hl hr hk hg
    | up l =>
      refine .imm l _ k es i len cap bl o u (L.down l bl hb ha) hb (fun x v hx=>?_) (fun x v hx=>?_) hl (Fq hr) (fun e=>Is (hk e)) (BF hg)
      · obtain ⟨v0,h1,_⟩:=xz hr hx;exact hc x v0 h1
      · obtain ⟨v0,h1,h2⟩:=xz hr hx
        rcases h2 with rfl | ⟨rfl,h3⟩
        · exact ih x v0 h1
        · exact qO L.nobody (hv x v h1) h3
  | immEnd bw d k es i cap a hr hk hg =>
    cases bw with
    | lent=>exact .any _
    | free=>exact .immEnd _ _ k es i cap a hr hk hg
    | up l=>exact .immEnd _ _ k es i cap a (Fq hr) (fun e=>Is (hk e)) (BF hg)
  | fn f l1 l2 c1 c2 h1 h2 i1 i2=>exact .fn f _ _ c1 c2 i1 i2
  | nfn=>exact .nfn
  | agg l c h ih=>exact .agg _ c ih
  | tup l c h ih=>exact .tup _ c ih
  | iface t v u h ih=>exact .iface t _ u ih
  | niface=>exact .niface
  | any u=>exact .any u
  | nil=>exact jk.nil
  | cons v u l c h t i1 i2=>exact jk.cons _ u _ c i1 i2
def yx:Nat:=16
def jL(bs:List Nat)(nid i:Nat) :Nat :=
  match bs[i]? with
  | some b=>b
  | none=>nid+(i-bs.length)
def rg(τ:Nat→Nat) :Nat→List (Option ba)→List (Nat×Option ba)
  | _,[]=>[]
  | i,o::l=>(τ i,o.map (Ek τ))::rg τ (i+1) l
theorem K2:∀ (s:List (Nat×Option ba)) (h:fj) (x:Nat),(∀ (i j:Nat) (p q:Nat×Option ba),s[i]? = some p→s[j]? = some q→p.1=q.1→i=j) →
    bQ (ib s h) x=match s.find? (fun p=>Nat.beq p.1 x) with | some p=>p.2 | none=>bQ h x
  | [],h,x,_=>rfl
  | (b, o) :: s, h, x, hn => by
    have hn':∀ (i j:Nat) (p q:Nat×Option ba),s[i]? = some p→s[j]? = some q→p.1=q.1→i=j:=fun i j p q h1 h2 h3=>by
      have:=hn (i+1) (j+1) p q (by simpa using h1) (by simpa using h2) h3;omega
    have yH:bQ (ib ((b,o)::s) h) x=bQ (ib s (match o with | some d=>lQ h b d | none=>E9 h b)) x:=by
      cases o<;>rfl
    rw [yH,K2 s _ x hn']
    by_cases hb:b=x
    · subst hb
      rw [List.find?_cons_of_pos (by simp [xu])]
      have hno:s.find? (fun p=>Nat.beq p.1 b)=none:=by
        rw [List.find?_eq_none]
        intro p hp hq
        obtain ⟨j,hj⟩:=List.getElem?_of_mem hp
        have:=hn 0 (j+1) (b,o) p rfl (by simpa using hj) (Nat.eq_of_beq_eq_true hq).symm
        omega
      rw [hno]
      cases o with
      | some d=>simp only [iV,if_true]
      | none=>simp only [xv,if_true]
    · rw [List.find?_cons_of_neg (by simp [zO hb])]
      split
      · rfl
      · cases o with
        | some d=>simp only [iV,if_neg hb]
        | none=>simp only [xv,if_neg hb]
theorem zr(τ:Nat→Nat) :∀ (l:List (Option ba)) (i j:Nat),(rg τ i l)[j]? = (l[j]?).map fun o=>(τ (i+j),o.map (Ek τ))
  | [],i,j=>by simp [rg]
  | o::l,i,0=>by simp [rg]
  | o::l,i,j+1=>by
    simp only [rg,List.getElem?_cons_succ]
    rw [zr τ l (i+1) j]
    have:i+1+j=i+(j+1):=by omega
    rw [this]
def aH.adopt(ρ ρ':aH)(k nid m:Nat) :aH :=
  { at_:=fun x=>if nid≤x∧x-nid+k<m then ρ'.at_ (x-nid+k) else ρ.at_ x,
    ok:=fun x=>ρ.ok x∨(nid≤x∧x-nid+k<m∧ρ'.ok (x-nid+k)),
    live:=fun bl=>ρ.live bl∨ρ'.live bl,out:=ρ.out }
theorem UQ{ρ ρ':aH}{w w':World}{h:fj}{n nid:Nat}{bs:List Nat}{own:List (Option ba)}(hh:HR ρ w h n)(hbs:Rl h bs)(hid:∀ x,nid≤x→x<nid+yx→¬ ρ.ok x)(hfr:∀ b,b∈bs→b<nid∨nid+yx≤b) 
    (hn:nid+yx≤n) (hm:own.length≤bs.length+yx) (W:rc (ρ.lend bs).live w w') (E:vY (ρ.lend bs) ρ' w) (hbk:∀ i,i<bs.length→ρ'.ok i→(ρ.lend bs).ok i)
    (H:HR ρ' w' (jm 0 own) own.length) {v:AV} {u:Value} (hv:VR ρ' w' v u) :
    vY ρ (ρ.adopt ρ' bs.length nid own.length) w∧rc ρ.live w w'∧HR (ρ.adopt ρ' bs.length nid own.length) w' (ib (rg (jL bs nid) 0 own) h) n ∧
    VR (ρ.adopt ρ' bs.length nid own.length) w' (uz (jL bs nid) v) u∧∀ b,(ρ.adopt ρ' bs.length nid own.length).ok b→ρ.ok b∨(nid≤b∧b<nid+yx):=by
  have W':rc ρ.live w w':=W.mono (fun b _ q=>zL hh hbs q)
  have old:∀ {bl:Nat},bl<w.heap.size→ρ'.live bl→J4 ρ bs bl:=fun hb q=>E.new _ hb q
  have newOk:∀ {x:Nat},nid≤x→x-nid+bs.length<own.length→¬ ρ.ok x:=fun h1 h2=>hid _ h1 (by omega)
  have E2:vY ρ (ρ.adopt ρ' bs.length nid own.length) w:=by
    refine ⟨fun x hx=>?_,fun _ q=>.inl q,fun _ q=>.inl q,fun x hx q=>q.elim id (fun q=>zL hh hbs (old hx q)),rfl⟩
    simp only [aH.adopt]
    rw [if_neg (fun q=>newOk q.1 q.2 hx)]

  have name_old:∀ {i b:Nat},bs[i]? = some b→jL bs nid i=b:=fun q=>by simp [jL,q]
  have name_new:∀ {i:Nat},bs.length≤i→jL bs nid i=nid+(i-bs.length):=fun q=>by simp [jL,List.getElem?_eq_none q]
  have name_inj:∀ {i j:Nat},i<own.length→j<own.length→jL bs nid i=jL bs nid j→i=j:=by
    intro i j li lj e
    rcases Nat.lt_or_ge i bs.length with hi | hi<;>rcases Nat.lt_or_ge j bs.length with hj | hj
    · have a:=List.getElem?_eq_getElem hi
      have b:=List.getElem?_eq_getElem hj
      rw [name_old a,name_old b] at e
      rw [e] at a
      exact hbs.nodup a b
    · have a:=List.getElem?_eq_getElem hi
      rw [name_old a,name_new hj] at e
      have:=hfr _ (List.getElem_mem hi);omega
    · have b:=List.getElem?_eq_getElem hj
      rw [name_new hi,name_old b] at e
      have:=hfr _ (List.getElem_mem hj);omega
    · rw [name_new hi,name_new hj] at e;omega
  have lendOk:∀ {i b:Nat},bs[i]? = some b→ρ'.ok i→ρ.ok b:=by
    intro i b q hok
    obtain ⟨b',r1,r2⟩:=hbk i (List.getElem?_eq_some_iff.1 q).1 hok
    rw [q] at r1;cases r1;exact r2
  have atOld:∀ {i b:Nat},bs[i]? = some b→ρ'.ok i→ρ'.at_ i=ρ.at_ b:=by
    intro i b q hok
    have:=E.at_ i ⟨b,q,lendOk q hok⟩
    rw [this];simp [aH.lend,q]
  have idOk:∀ i,ρ'.ok i→(ρ.adopt ρ' bs.length nid own.length).ok (jL bs nid i)∧(ρ.adopt ρ' bs.length nid own.length).at_ (jL bs nid i)=ρ'.at_ i:=by
    intro i hok
    have hlt:=H.lt i hok
    rcases Nat.lt_or_ge i bs.length with hi | hi
    · have a:=List.getElem?_eq_getElem hi
      have k:=lendOk a hok
      rw [name_old a]
      exact ⟨.inl k,by rw [E2.at_ _ k,atOld a hok]⟩
    · rw [name_new hi]
      have e:nid+(i-bs.length)-nid+bs.length=i:=by omega
      refine ⟨.inr ⟨by omega,by omega,by rw [e];exact hok⟩,?_⟩
      simp only [aH.adopt]
      rw [if_pos ⟨by omega,by omega⟩,e]
  have L:Xm ρ' (ρ.adopt ρ' bs.length nid own.length) w' (jL bs nid):=by
    have own0:∀ {bl:Nat},(ρ.adopt ρ' bs.length nid own.length).own 0 bl→ρ'.own 0 bl∨ρ'.own 1 bl:=by
      intro bl q
      rcases q with q | q
      · by_cases hl:J4 ρ bs bl
        · exact .inl (E.live bl hl)
        · right;simp only [aH.own];rw [E.out];exact ⟨q,hl⟩
      · exact .inl q
    have ownS:∀ {j bl:Nat},(ρ.adopt ρ' bs.length nid own.length).own (j+1) bl→ρ'.own (j+2) bl:=by
      intro j bl q
      simp only [aH.own,aH.adopt] at q ⊢
      rw [E.out];exact q
    refine ⟨idOk,fun l bl _ ha=>?_,fun bl _ hN j q=>?_⟩
    · obtain ⟨a1,a2⟩:=ha
      have:∀ {l:Lv} {i:Nat},l.av ρ'.own (i+1) bl→l.av (ρ.adopt ρ' bs.length nid own.length).own i bl:=by
        intro l
        have sub:∀ {i:Nat},(ρ.adopt ρ' bs.length nid own.length).own i bl→ρ'.own (i+1) bl:=by
          intro i q
          cases i with
          | zero=>exact (own0 q).resolve_left a1
          | succ i=>exact ownS q
        induction l with
        | free=>intro i h j hj q;exact h (j+1) (by omega) (sub q)
        | lent=>intro i h q;exact h (sub q)
        | up l ih=>intro i h;exact ⟨fun q=>h.1 (sub q),ih h.2⟩
      exact this a2
    · cases j with
      | zero=>rcases own0 q with q | q;exact hN 0 q;exact hN 1 q
      | succ j=>exact hN (j+2) (ownS q)
  refine ⟨E2,W',?_,Th L hv,fun b q=>q.elim .inl (fun q=>.inr ⟨q.1,by omega⟩)⟩

  have Fi:∀ (i j:Nat) (p q:Nat×Option ba),(rg (jL bs nid) 0 own)[i]? = some p→(rg (jL bs nid) 0 own)[j]? = some q→p.1=q.1→i=j:=by
    intro i j p q h1 h2 h3
    rw [zr,Option.map_eq_some_iff] at h1 h2
    obtain ⟨_,l1,rfl⟩:=h1
    obtain ⟨_,l2,rfl⟩:=h2
    simp only [Nat.zero_add] at h3
    exact name_inj (List.getElem?_eq_some_iff.1 l1).1 (List.getElem?_eq_some_iff.1 l2).1 h3

  have look:∀ x d,bQ (ib (rg (jL bs nid) 0 own) h) x=some d→(∃ i d0,bQ (jm 0 own) i=some d0∧x=jL bs nid i∧d=Ek (jL bs nid) d0) ∨
      (bQ h x=some d∧∀ i,i<own.length→x≠jL bs nid i):=by
    intro x d hx
    rw [K2 _ _ _ Fi] at hx
    split at hx
    · rename_i p hp
      have hmem:=List.mem_of_find?_eq_some hp
      have hpx:p.1=x:=Nat.eq_of_beq_eq_true (List.find?_some (p:=fun p:Nat×Option ba=>Nat.beq p.1 x) hp)
      obtain ⟨i,hi⟩:=List.getElem?_of_mem hmem
      rw [zr,Option.map_eq_some_iff] at hi
      obtain ⟨o,h1,rfl⟩:=hi
      simp only [Nat.zero_add] at hpx hx
      rw [Option.map_eq_some_iff] at hx
      obtain ⟨d0,rfl,rfl⟩:=hx
      exact .inl ⟨i,d0,by rw [Hs,h1];rfl,hpx.symm,rfl⟩
    · rename_i hp
      rw [List.find?_eq_none] at hp
      refine .inr ⟨hx,fun i hi e=>?_⟩
      have hi':=List.getElem?_eq_getElem hi
      have:(rg (jL bs nid) 0 own)[i]? = some (jL bs nid i,own[i].map (Ek (jL bs nid))):=by
        rw [zr,hi'];simp
      exact hp _ (List.mem_of_getElem? this) (by simp only;rw [e];exact xu _)
  have ownLive:∀ {i d0},bQ (jm 0 own) i=some d0→ρ'.ok i→ρ'.live (ρ'.at_ i):=fun h1 h2=>(H.real h1 h2).1

  have xb:∀ {x d},bQ h x=some d→ρ.ok x→(∀ i,i<own.length→x≠jL bs nid i)→x∈bs→own.length≤bs.length→False∨True:=fun _ _ _ _ _=>.inr trivial
  refine ⟨fun x d hx=>?_,fun x y d e h1 h2 ok1 ok2 he=>?_,fun bl q j=>?_,fun bl q=>?_,fun j bl q=>?_,fun x q=>?_,fun x hx=>(hh.rom x hx).mono E2 W'⟩
  · rcases look x d hx with ⟨i,d0,h1,rfl,rfl⟩ | ⟨h1,h2⟩
    · have hlt:i<own.length:=(List.getElem?_eq_some_iff.1 (rx h1)).1
      rcases H.cell i d0 h1 with ⟨k1,k2,k3⟩ | ⟨k1,k2,k3,k4⟩
      · obtain ⟨q1,q2⟩:=idOk i k1
        refine .inl ⟨q1,by rw [q2];exact .inr k2,?_⟩
        rw [q2]
        obtain ⟨hr,c,t,r1,r2⟩:=k3
        refine ⟨Fq hr,c,t,r1,fun y v hy=>?_⟩
        obtain ⟨v0,s1,s2⟩:=xz hr hy
        obtain ⟨u,t1,t2⟩:=r2 y v0 s1
        refine ⟨u,t1,?_⟩
        rcases s2 with rfl | ⟨rfl,s3⟩
        · exact Th L t2
        · exact qO L.nobody t2 s3
      ·
        refine .inr ⟨?_,?_,Fq k3,fun y=>?_⟩
        · rintro (q | ⟨q1,q2,q3⟩)
          · rcases Nat.lt_or_ge i bs.length with hi | hi
            · have a:=List.getElem?_eq_getElem hi
              rw [name_old a] at q
              exact k1 (E.ok i ⟨_,a,q⟩)
            · rw [name_new hi] at q
              exact hid _ (by omega) (by omega) q
          · rcases Nat.lt_or_ge i bs.length with hi | hi
            · have a:=List.getElem?_eq_getElem hi
              rw [name_old a] at q1 q2
              have:=hfr _ (List.getElem_mem hi);omega
            · rw [name_new hi] at q3
              have e:nid+(i-bs.length)-nid+bs.length=i:=by omega
              rw [e] at q3;exact k1 q3
        · rcases Nat.lt_or_ge i bs.length with hi | hi
          · have a:=List.getElem?_eq_getElem hi
            rw [name_old a]
            obtain ⟨d',hd'⟩:=hbs.there _ (List.getElem_mem hi)
            rcases hh.cell _ d' hd' with q | q
            · exact hh.lt _ q.1
            · exact q.2.1
          · rw [name_new hi];omega
        · cases hc:(Ek (jL bs nid) d0).cell? y with
          | none=>rfl
          | some v=>obtain ⟨v0,s1,_⟩:=xz k3 hc;rw [k4 y] at s1;cases s1
    · rcases hh.cell x d h1 with ⟨k1,k2,k3⟩ | ⟨k1,k2,k3⟩
      · rw [E2.at_ x k1]
        refine .inl ⟨.inl k1,.inl k2,?_⟩
        by_cases hl:J4 ρ bs (ρ.at_ x)
        ·
          obtain ⟨b,r1,r2,r3⟩:=hl
          obtain ⟨d',hd'⟩:=hbs.there b r1
          have:=hh.inj x b d d' h1 hd' k1 r2 r3
          subst this
          obtain ⟨i,hi⟩:=List.getElem?_of_mem r1
          have hlen : ¬ i<own.length:=fun q=>h2 i q (name_old hi).symm
          have hio:ρ'.ok i:=E.ok i ⟨x,hi,k1⟩
          exact absurd (H.lt i hio) hlen
        · exact k3.mono E2 W' (W.same _ (hh.liveLt _ k2) hl)
      · refine .inr ⟨?_,k2,k3⟩
        rintro (q | ⟨q1,q2,q3⟩)
        · exact k1 q
        · have:=h2 (x-nid+bs.length) q2
          rw [name_new (by omega)] at this
          exact this (by omega)
  ·
    have real:∀ {x d},bQ (ib (rg (jL bs nid) 0 own) h) x=some d→(ρ.adopt ρ' bs.length nid own.length).ok x →
        (∃ i d0,bQ (jm 0 own) i=some d0∧x=jL bs nid i∧ρ'.ok i)∨(bQ h x=some d∧ρ.ok x∧∀ i,i<own.length→x≠jL bs nid i):=by
      intro x d hx hok
      rcases look x d hx with ⟨i,d0,h1,rfl,rfl⟩ | ⟨h1,h2⟩
      · refine .inl ⟨i,d0,h1,rfl,?_⟩
        rcases hok with q | ⟨q1,q2,q3⟩
        · rcases Nat.lt_or_ge i bs.length with hi | hi
          · have a:=List.getElem?_eq_getElem hi
            rw [name_old a] at q
            exact E.ok i ⟨_,a,q⟩
          · have hlt:i<own.length:=(List.getElem?_eq_some_iff.1 (rx h1)).1
            rw [name_new hi] at q
            exact (hid _ (by omega) (by omega) q).elim
        · rcases Nat.lt_or_ge i bs.length with hi | hi
          · have a:=List.getElem?_eq_getElem hi
            rw [name_old a] at q1 q2
            have:=hfr _ (List.getElem_mem hi);omega
          · rw [name_new hi] at q3
            have e:nid+(i-bs.length)-nid+bs.length=i:=by omega
            rw [e] at q3;exact q3
      · refine .inr ⟨h1,?_,h2⟩
        rcases hok with q | ⟨q1,q2,q3⟩
        · exact q
        · have:=h2 (x-nid+bs.length) q2
          rw [name_new (by omega)] at this
          exact (this (by omega)).elim
    have cross:∀ {i d0 y e},bQ (jm 0 own) i=some d0→ρ'.ok i→bQ h y=some e→ρ.ok y→(∀ i,i<own.length→y≠jL bs nid i)→ρ'.at_ i=ρ.at_ y→False:=by
      intro i d0 y e h1 k1 h2 k2 h3 he
      have hl:=ownLive h1 k1
      rw [he] at hl
      obtain ⟨b,r1,r2,r3⟩:=old (hh.liveLt _ (hh.real h2 k2).1) hl
      obtain ⟨d',hd'⟩:=hbs.there b r1
      have:=hh.inj y b e d' h2 hd' k2 r2 r3
      subst this
      obtain ⟨j,hj⟩:=List.getElem?_of_mem r1
      exact h3 j (H.lt j (E.ok j ⟨y,hj,k2⟩)) (name_old hj).symm
    rcases real h1 ok1 with ⟨i,d0,a1,rfl,a2⟩ | ⟨a1,a2,a3⟩<;>rcases real h2 ok2 with ⟨j,e0,b1,rfl,b2⟩ | ⟨b1,b2,b3⟩
    · rw [(idOk i a2).2,(idOk j b2).2] at he
      rw [H.inj i j d0 e0 a1 b1 a2 b2 he]
    · rw [(idOk i a2).2,E2.at_ y b2] at he
      exact (cross a1 a2 b1 b2 b3 he).elim
    · rw [E2.at_ x a2,(idOk j b2).2] at he
      exact (cross b1 b2 a1 a2 a3 he.symm).elim
    · rw [E2.at_ x a2,E2.at_ y b2] at he
      exact hh.inj x y d e a1 b1 a2 b2 he
  · rcases q with q | q
    · exact hh.fresh bl q j
    · intro r
      have:=H.fresh bl q (j+1)
      rw [E.out] at this
      exact this r
  · rcases q with q | q
    · exact Nat.lt_of_lt_of_le (hh.liveLt bl q) W'.size
    · exact H.liveLt bl q
  · exact Nat.lt_of_lt_of_le (hh.outLt j bl q) W'.size
  · rcases q with q | ⟨q1,q2,q3⟩
    · exact hh.lt x q
    · omega
def BG(d:ba) :Nat→Nat→Option (List AV)
  | 0,_=>some []
  | n+1,x=>match d.cell? x,BG d n (x+1) with
    | some v,some l=>some (v::l)
    | _,_=>none
theorem K3{d:ba} :∀ {n x:Nat} {l:List AV},BG d n x=some l→l.length=n∧∀ j,j<n→d.cell? (x+j)=l[j]?
  | 0,x,l,h=>by simp only [BG,Option.some.injEq] at h;subst h;exact ⟨rfl,fun j hj=>absurd hj (Nat.not_lt_zero _)⟩
  | n+1,x,l,h=>by
    unfold BG at h
    split at h
    case h_2=>cases h
    rename_i v l' h1 h2
    simp only [Option.some.injEq] at h;subst h
    obtain ⟨a,b⟩:=K3 h2
    refine ⟨by simp [a],fun j hj=>?_⟩
    cases j with
    | zero=>simpa using h1
    | succ j =>
      have:=b j (by omega)
      rw [show x+(j+1)=x+1+j by omega,this];simp
def WB{α:Type}(xs:List α)(i k:Nat)(ys:List α) :List α:=xs.take i++(ys.take k++xs.drop (i+k))
def WX(blk nb:ba)(w i k:Nat) :Option (ba×List Bool) :=
  match blk,nb with
  | .fl xs,.fl ys=>bif Nat.beq w 1 then some (.fl (WB xs i k ys),[kj (i+k) xs.length,kj k ys.length]) else none
  | .ns kd xs,.ns kd' ys=>bif Nat.beq w 1&&jh kd kd' then some (.ns kd (WB xs i k ys),[kj (i+k) xs.length,kj k ys.length]) else none
  | .bs xs,.bs ys=>bif Nat.beq w 1 then some (.bs (WB xs i k ys),[kj (i+k) xs.length,kj k ys.length]) else none
  | blk,nb=>match BG nb k 0 with
    | some l=>bif nN l then blk.wrN w i l 0 else none
    | none=>none
theorem MU{α:Type}{d:ba}{f:α→AV}{ys:List α}(hd:∀ x,d.cell? x=(ys[x]?).map f) :∀ {k x:Nat},x+k≤ys.length→BG d k x=some (((ys.drop x).take k).map f)
  | 0,x,h=>by simp [BG]
  | k+1,x,h=>by
    have e1:ys[x]? = some (ys[x]'(by omega)):=List.getElem?_eq_getElem (by omega)
    have e2:=MU hd (k:=k) (x:=x+1) (by omega)
    unfold BG
    rw [hd,e1,e2]
    simp only [Option.map_some]
    rw [List.drop_eq_getElem_cons (show x<ys.length by omega),List.take_succ_cons,List.map_cons]
theorem Ti{α:Type}{g:List α→ba}{f:α→AV}{i:Nat}(hg:∀ xs j z,(g xs).wr 1 i j (f z)=some (g (xs.set (bV j i) z),[fi (bV j i) xs.length])) :
    ∀ {zs xs:List α} {j:Nat},i+j+zs.length≤xs.length→∃ o,(g xs).wrN 1 i (zs.map f) j=some (g (xs.take (i+j)++(zs++xs.drop (i+j+zs.length))),o)∧aY o
  | [],xs,j,h=>⟨[],by simp [ba.wrN],trivial⟩
  | z::zs,xs,j,h=>by
    rw [List.length_cons] at h
    have ad:bV j i=i+j:=by rw [aB];omega
    obtain ⟨o,h1,h2⟩:=Ti hg (zs:=zs) (xs:=xs.set (bV j i) z) (j:=j+1) (by rw [List.length_set];omega)
    refine ⟨fi (bV j i) xs.length::o,?_,by rw [ad];unfold fi;exact decide_eq_true (by omega),h2⟩
    simp only [List.map_cons,ba.wrN,hg,h1,List.singleton_append,Option.some.injEq,Prod.mk.injEq,and_true]
    congr 1
    rw [ad]
    have hp:i+j<xs.length:=by omega
    rw [show i+(j+1)=i+j+1 by omega,show i+j+(z::zs).length=i+j+1+zs.length by rw [List.length_cons];omega]
    generalize i+j=p at hp
    rw [List.drop_set_of_lt (by omega),List.take_succ_eq_append_getElem (by rw [List.length_set];exact hp),List.take_set_of_le (Nat.le_refl p),List.getElem_set_self]
    simp
theorem MV{α:Type}{f:α→AV}(hf:∀ z,(f z).one=true) :∀ (zs:List α),nN (zs.map f)=true
  | []=>rfl
  | z::zs=>by simp only [List.map_cons,nN,hf,MV hf zs,Bool.and_self]
theorem P7{α:Type}{g:List α→ba}{f:α→AV}{i k:Nat}{xs ys:List α}(hg:∀ xs j z,(g xs).wr 1 i j (f z)=some (g (xs.set (bV j i) z),[fi (bV j i) xs.length]))(hd:∀ x,(g ys).cell? x=(ys[x]?).map f)(hf:∀ z,(f z).one=true) 
    (h1:kj (i+k) xs.length=true) (h2:kj k ys.length=true):∃ l o',BG (g ys) k 0=some l∧nN l=true∧(g xs).wrN 1 i l 0=some (g (WB xs i k ys),o')∧aY o':=by
  unfold kj at h1 h2
  rw [decide_eq_true_eq] at h1 h2
  have hlen:(ys.take k).length=k:=by rw [List.length_take];omega
  obtain ⟨o,w1,w2⟩:=Ti hg (zs:=ys.take k) (xs:=xs) (j:=0) (by rw [hlen];omega)
  refine ⟨_,o,MU hd (by omega),MV hf _,?_,w2⟩
  rw [List.drop_zero,w1,hlen];rfl
theorem TS{blk nb blk':ba}{w i k:Nat}{o:List Bool}(h:WX blk nb w i k=some (blk',o))(ho:aY o) :∃ l o',BG nb k 0=some l∧nN l=true∧blk.wrN w i l 0=some (blk',o')∧aY o':=by
  unfold WX at h
  split at h
  · cases e:Nat.beq w 1 with
    | false=>rw [e] at h;cases h
    | true =>
      rw [e] at h;cases h
      cases Nat.eq_of_beq_eq_true e
      exact P7 (g:=.fl) (f:=.flt false) (fun _ _ _=>rfl) (fun _=>rfl) (fun _=>rfl) ho.1 ho.2.1
  · rename_i kd xs kd' ys
    cases e:Nat.beq w 1&&jh kd kd' with
    | false=>rw [e] at h;cases h
    | true =>
      rw [e] at h;cases h
      rw [Bool.and_eq_true] at e
      cases Nat.eq_of_beq_eq_true e.1
      have e2:kd=kd':=by have:=e.2;simpa [jh] using this
      cases e2
      exact P7 (g:=.ns kd) (f:=.int kd) (fun xs j z=>by simp [ba.wr,jh]) (fun _=>rfl) (fun _=>rfl) ho.1 ho.2.1
  · cases e:Nat.beq w 1 with
    | false=>rw [e] at h;cases h
    | true =>
      rw [e] at h;cases h
      cases Nat.eq_of_beq_eq_true e
      exact P7 (g:=.bs) (f:=.bool false) (fun _ _ _=>rfl) (fun _=>rfl) (fun _=>rfl) ho.1 ho.2.1
  · split at h
    case h_2=>cases h
    rename_i l hl
    cases e:nN l with
    | false=>rw [e] at h;cases h
    | true=>rw [e] at h;exact ⟨l,o,hl,e,h,ho⟩
def Pp(P:Program)(g:Nat→Option ba)(t:TypeId)(d x:AV) :Option (Nat×Nat×ba×List Bool×List Nat) :=
  match P.underlying t,d with
  | some (.slice e),.sl b w es i len _ =>
    match P.info? e,g b,OG g x with
    | some inf,some blk,some (m,es',nb,obs,rs) =>
      bif Nat.beq inf.size 1&&Nat.beq es' 1 then (WX blk nb w i (Nat.min m len)).map fun r=>(Nat.min m len,b,r.1,obs++r.2,b::rs) else none
    | _,_,_=>none
  | _,_=>none
theorem HR.same{ρ:aH}{w:World}{h:fj}{n b:Nat}{d:ba}(hh:HR ρ w h n)(hg:bQ h b=some d) :HR ρ w (lQ h b d) n:=by
  have e:∀ c,bQ (lQ h b d) c=bQ h c:=by
    intro c;rw [iV];split
    · rename_i q;subst q;exact hg.symm
    · rfl
  exact ⟨fun c e' he=>hh.cell c e' (by rw [←e];exact he),fun a c d e' h1 h2=>hh.inj a c d e' (by rw [←e];exact h1) (by rw [←e];exact h2),hh.fresh,hh.liveLt,hh.outLt,hh.lt,hh.rom⟩
theorem Rm{P:Program}{ρ:aH}{w:World}{h:fj}{n:Nat}(hh:HR ρ w h n){t t' T:TypeId}{d x:AV}{d' x':Value}(hd:VR ρ w d d')(hx:VR ρ w x x'){k b:Nat}{blk:ba}{obs:List Bool}{rs:List Nat} 
    (hc:Pp P (bQ h) t d x=some (k,b,blk,obs,rs)) (ho:aY obs):∃ w',(Builtin.copy_ #[t,t'] T #[d',x']).run P w=.ok (.int .i64 (k:Int)) w'∧HR ρ w' (lQ h b blk) n∧rc ρ.live w w':=by
  unfold Pp at hc
  split at hc
  case h_2=>cases hc
  rename_i e b' kk es i len cap ht
  split at hc
  case h_2=>cases hc
  rename_i inf blk0 m es' nb obs' rs' hi hg hsrc
  cases h1:Nat.beq inf.size 1&&Nat.beq es' 1 with
  | false=>rw [h1] at hc;cases hc
  | true =>
  rw [h1] at hc
  simp only [Bool.and_eq_true] at h1
  have hsz:=Nat.eq_of_beq_eq_true h1.1
  have hes:=Nat.eq_of_beq_eq_true h1.2
  subst hes
  simp only [cond_true,Option.map_eq_some_iff,Prod.mk.injEq] at hc
  obtain ⟨⟨blk',o'0⟩,hc2,rfl,rfl,rfl,rfl,rfl⟩:=hc
  rw [ck] at ho
  obtain ⟨l,o',hl,h2,hw,ho2⟩:=TS hc2 ho.2
  replace ho:aY obs'∧aY o':=⟨ho.1,ho2⟩
  have hS:=MO hh hx hsrc ho.1
  obtain ⟨l1,l2⟩:=K3 hl
  obtain ⟨a,c,rfl,hv⟩:=hS.val
  have hsize:P.cellsOf e=1:=by simp [Program.cellsOf,hi,hsz]
  by_cases hn0:Nat.min m len=0
  · have el:l=[]:=List.length_eq_zero_iff.1 (by rw [l1,hn0])
    subst el
    simp only [ba.wrN,Option.some.injEq,Prod.mk.injEq] at hw
    obtain ⟨rfl,rfl⟩:=hw
    refine ⟨w,?_,hh.same hg,rc.refl _ _⟩
    rw [hn0]
    cases hd with
    | sl _ _ _ _ _ _ cap' hb hcap hle c' t' hhh hss =>
      have hn0':min m len=0:=hn0
      cases a<;>simp [Builtin.copy_,run_underlying ht,sizeOf,typeInfo,hi,Builtin.lenOf,Builtin.firstCells,storeCells,loadCells,loadCellsFrom,hn0',goInt]<;>rfl
    | slEnd _ _ _ _ a' =>
      cases a<;>cases a'<;>simp [Builtin.copy_,run_underlying ht,sizeOf,typeInfo,hi,Builtin.lenOf,Builtin.firstCells,storeCells,loadCells,loadCellsFrom,goInt]<;>rfl
  · have hmn : ¬ m=0:=fun q=>hn0 (by subst q;exact Nat.zero_min _)
    rcases hv with q | ⟨bl,o,rfl,news,hnl,hnews,hone,hrel⟩
    · exact absurd q hmn
    have hle:Nat.min m len≤news.length:=by rw [hnl,Nat.mul_one];exact Nat.min_le_left _ _
    have hvs:jk ρ w l (news.take (Nat.min m len)):=by
      have yH:∀ (l:List AV) (us:List Value),l.length=us.length→(∀ (j:Nat) (v:AV) (u:Value),l[j]? = some v→us[j]? = some u→VR ρ w v u)→jk ρ w l us:=by
        intro l
        induction l with
        | nil=>intro us h1 _;have:us=[]:=List.length_eq_zero_iff.1 h1.symm;subst this;exact .nil
        | cons v l ih =>
          intro us h1 h2
          cases us with
          | nil=>simp at h1
          | cons u us=>exact .cons _ _ _ _ (h2 0 v u rfl rfl) (ih us (by simpa using h1) fun j v' u' q1 q2=>h2 (j+1) v' u' (by simpa using q1) (by simpa using q2))
      refine yH _ _ (by rw [l1,List.length_take];omega) fun j v u q1 q2=>?_
      have hj:j<Nat.min m len:=by
        rcases Nat.lt_or_ge j (Nat.min m len) with z | z
        · exact z
        · rw [List.getElem?_eq_none (by omega)] at q1;cases q1
      have:=l2 j hj
      rw [Nat.zero_add,q1] at this
      obtain ⟨u',r1,r2⟩:=hrel j v this
      rw [List.getElem?_take,if_pos hj,r1] at q2
      cases q2
      exact r2
    cases hd with
    | slEnd=>exact absurd (Nat.min_zero m) hn0
    | sl _ _ _ _ _ _ cap' hb hcap hle' c' t'' hhh hss =>
      obtain ⟨w',r1,r2,r3⟩:=zS (P:=P) (x0:=0) (j:=0) hh hg hvs h2 hw ho.2
      refine ⟨w',?_,r2,r3⟩
      have hf:=run_firstCells_some (P:=P) w 1 (Nat.min m len) ⟨bl,o,none⟩ m c (news.take (Nat.min m len)) (by rw [List.length_take];omega) (fun j v hj=>by
        rw [List.getElem?_take] at hj
        split at hj
        · exact hnews j v hj
        · cases hj)
      simp only [Nat.add_zero] at r1
      have hf':(Builtin.firstCells 1 (min m len) (.slice (some ⟨bl,o,none⟩) m c)).run P w=.ok (news.take (min m len)).toArray w:=hf
      have r1':(storeCells ⟨ρ.at_ b',i*kk,none⟩ (news.take (min m len)) 0).run P w=.ok () w':=r1
      have hm:((Nat.min m len:Nat):Int)=((min m len:Nat):Int):=rfl
      simp [Builtin.copy_,run_underlying ht,sizeOf,typeInfo,hi,hsz,Builtin.lenOf,hf',r1',goInt,hm]
end Go.Plb
