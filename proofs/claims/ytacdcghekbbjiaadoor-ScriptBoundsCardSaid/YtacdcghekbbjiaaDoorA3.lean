/-
  Part 3 of what the claim leans on: an evaluator of the model, proved sound; the contracts of the functions.
-/
import Derived.Test.YtacdcghekbbjiaaDoorChecked
import Derived.KernelRfl
import Derived.Test.YtacdcghekbbjiaaDoorRows
import Derived.LaidLaws
import Derived.LaidHandle
import Derived.Lib.LaidTab
import Derived.Stop.LaidErr
import Derived.JoinedOf
import Derived.Below
import Derived.WalkKit
import Derived.WalkSpells
import Derived.Maps.RangeRun
import Derived.Maps.RangeWalk
import Derived.Maps.OwnIn
import Derived.Shelf.Strings.OnBuilder
import Derived.Shelf.Strings.BuilderF
import Derived.Shelf.Strings.BuilderK
import Derived.Shelf.Strconv.Itoa3
import Derived.Shelf.Strconv.AtoiAll
import Derived.Shelf.Strings.Search2
import Derived.Shelf.Strings.Search3
import Derived.Test.YtacdcghekbbjiaaDoorProg
import Derived.Lib.OthersKept
import Derived.Lib.Hide
import Derived.Lib.Strings
import Derived.Laws.RangeAny
import Derived.Lib.AtoiAllCases
import Derived.Lib.AtoiErrMem
import Derived.RangeFuncBox
import Derived.RangeFuncLeaves
import Derived.RangeFuncNested
import Derived.Shelf.Abstract
import Derived.Shelf.RegionOpen
import Derived.OwnWalkIn
import Derived.TacticsInMore
import Derived.LoopNIn
import Derived.LoopIn
import Derived.RegionIn
import Derived.Stop.RegionWithIn
import Derived.Test.YtacdcghekbbjiaaDoorA2
namespace Go.Plb
noncomputable section
set_option linter.unusedSimpArgs false
set_option linter.unusedVariables false
set_option linter.unusedSectionVars false
variable [Rom]
def ba{α:Type}(o n:Nat)(l:List α) :List α:=(jU o l).take n
theorem yW{α:Type}(o n:Nat)(l:List α) :ba o n l=(l.drop o).take n:=by
  unfold ba jU;cases o<;>rfl
theorem Ak{α:Type}(l:List α) :ba 0 l.length l=l:=by simp [yW]
theorem jp{α:Type}{o n:Nat}{l:List α}(h:o+n≤l.length) :(ba o n l).length=n:=by rw [yW];simp;omega
theorem Kb{α:Type}{o n:Nat}{l:List α}{i:Nat}{v:α}(h:(ba o n l)[i]? = some v) :l[o+i]? = some v:=by
  rw [yW,List.getElem?_take] at h
  split at h
  · rw [List.getElem?_drop] at h;exact h
  · cases h
def ue{α:Type}(o n:Nat)(xs:List α) :Bool:=Nat.ble (o+n) xs.length
theorem oI{α:Type}{o n:Nat}{xs:List α} :ue o n xs=true↔o+n≤xs.length:=by unfold ue;rw [Nat.ble_eq]
theorem yn{l:Lv}{d d':an}{w es o n:Nat}(h:∀ x v,d'.cell? x=some v→d.cell? (o*w+x)=some v)(hr:d.recKept→d'.recKept)(hk:d'.kept=true)(hg:d'.foreign=true) :
    az (.imm l d w es o n) (.imm l d' w es 0 n):=by
  intro ρ w' u hv
  cases hv with
  | imm _ _ _ _ _ _ cap bl o' u' ha hb hc hv' hl' hr' _ _ =>
    have:=VR.imm (ρ:=ρ) (w:=w') l d' w es 0 n cap bl (o'+o*w) (fun x=>u' (o*w+x)) ha hb
      (fun x v hx=>by rw [Nat.add_assoc];exact hc _ v (h x v hx)) (fun x v hx=>hv' _ v (h x v hx)) hl' (hr hr') (fun _=>hk) hg
    simpa using this
  | immEnd _ _ _ _ _ _ _ hr'=>exact .immEnd _ _ _ _ _ _ _ (hr hr') (fun _=>hk) hg
theorem yo{l:Lv}{d':an}{w es:Nat}(hr:d'.recKept)(hk:d'.kept=true)(hg:d'.foreign=true) :az .nsl (.imm l d' w es 0 0):=by
  intro ρ w' u hv;cases hv;exact .immEnd _ _ _ _ _ _ _ hr (fun _=>hk) hg
theorem yp{l:Lv}{d':an}{w es:Nat}(hr:d'.recKept)(hk:d'.kept=true)(hg:d'.foreign=true) :az .esl (.imm l d' w es 0 0):=by
  intro ρ w' u hv;cases hv;exact .immEnd _ _ _ _ _ _ _ hr (fun _=>hk) hg
theorem dc.get:∀ {l1 l2:List AV},dc l1 l2→∀ {x:Nat} {v:AV},l2[x]? = some v→∃ v0,l1[x]? = some v0∧az v0 v
  | _,_,.nil,x,v,h=>by simp at h
  | _,_,.cons a t,0,v,h=>by simp at h;subst h;exact ⟨_,rfl,a⟩
  | _,_,.cons a t,x+1,v,h=>by
    obtain ⟨v0,h1,h2⟩:=dc.get t (by simpa using h)
    exact ⟨v0,by simpa using h1,h2⟩
theorem Al{lv:Lv}{l1 l2:List AV}{k i j:Nat}(h:dc l1 l2)(hk:bE l1=true→bE l2=true)(hg:aL l1=true→aL l2=true) :az (.iptr lv (.vs l1) k i j) (.iptr lv (.vs l2) k i j):=by
  intro ρ w u hv
  cases hv with | iptr _ _ _ _ _ bl o u' ha hb hc hv' hr hk' hg' =>
  refine .iptr _ _ _ _ _ bl o u' ha hb (fun x v hx=>?_) (fun x v hx=>?_) trivial (fun q=>hk (hk' q)) (hg hg')
  · obtain ⟨v0,h1,h2⟩:=h.get hx
    exact hc x v0 h1
  · obtain ⟨v0,h1,h2⟩:=h.get hx
    exact h2 _ _ _ (hv' x v0 h1)
theorem az.fn{f:Fn}{a b a' b':List AV}(h:dc a a')(k:dc b b') :az (.fn f a b) (.fn f a' b'):=by
  intro ρ w u hv
  cases hv with | fn _ _ _ c1 c2 h1 h2=>exact .fn _ _ _ _ _ (h.vrs h1) (k.vrs h2)
theorem az.iface{t:TypeId}{a b:AV}(h:az a b) :az (.iface t a) (.iface t b):=by
  intro ρ w u hv
  cases hv with | iface _ _ u h1=>exact .iface _ _ _ (h _ _ _ h1)
theorem az.any(v:AV) :az v .any:=fun _ _ u _=>.any u
inductive CK where
  | cf
  | ci (k:IntKind)
  | cb
  | cs
  | cfl
  | cns (k:IntKind)
def CK.Ty:CK→Type
  | .cf=>List Nat
  | .ci _=>List Int
  | .cb=>List Bool
  | .cs=>List ByteArray
  | .cfl=>List (List Nat)
  | .cns _=>List (List Int)
def CK.fit:(k:CK)→(o n:Nat)→cB→Option k.Ty
  | .cf,o,n,.cf xs=>some (ba o n xs)
  | .ci k,o,n,.ci k' xs=>bif bg k k' then some (ba o n xs) else none
  | .cb,o,n,.cb xs=>some (ba o n xs)
  | .cs,o,n,.cs xs=>some (ba o n xs)
  | .cfl,o,n,.cfl xs=>some (ba o n xs)
  | .cns k,o,n,.cns k' xs=>bif bg k k' then some (ba o n xs) else none
  | _,_,_,_=>none
def CK.emp:(k:CK)→k.Ty
  | .cf=>([]:List Nat)
  | .ci _=>([]:List Int)
  | .cb=>([]:List Bool)
  | .cs=>([]:List ByteArray)
  | .cfl=>([]:List (List Nat))
  | .cns _=>([]:List (List Int))
def CK.col:(k:CK)→k.Ty→cB
  | .cf,xs=>.cf xs
  | .ci k,xs=>.ci k xs
  | .cb,xs=>.cb xs
  | .cs,xs=>.cs xs
  | .cfl,xs=>.cfl xs
  | .cns k,xs=>.cns k xs
theorem mI{a b:IntKind} :bg a b=true↔a=b:=by simp [bg]
theorem lu{α:Type}{f:α→AV}{o n i:Nat}{xs:List α}{v:AV}(h:((ba o n xs)[i]?).map f=some v) :(xs[o+i]?).map f=some v:=by
  simp only [Option.map_eq_some_iff] at h ⊢
  obtain ⟨y,h1,h2⟩:=h
  exact ⟨y,Kb h1,h2⟩
theorem CK.fit_spec:∀ {k:CK} {o n:Nat} {c:cB} {t:k.Ty},k.fit o n c=some t→(o+n≤c.len→(k.col t).len=n)∧∀ i v,(k.col t).cell? i=some v→c.cell? (o+i)=some v:=by
  intro k o n c t h
  cases k<;>cases c<;>simp only [CK.fit] at h<;>try (cases h;done)
  case cf.cf xs=>cases h;exact ⟨fun q=>jp q,fun i v q=>lu q⟩
  case ci.ci k k' xs =>
    cases e:bg k k' with
    | false=>rw [e] at h;cases h
    | true=>rw [e] at h;cases h;cases (mI.1 e);exact ⟨fun q=>jp q,fun i v q=>lu q⟩
  case cb.cb xs=>cases h;exact ⟨fun q=>jp q,fun i v q=>lu q⟩
  case cs.cs xs=>cases h;exact ⟨fun q=>jp q,fun i v q=>lu q⟩
  case cfl.cfl xs=>cases h;exact ⟨fun q=>jp q,fun i v q=>lu q⟩
  case cns.cns k k' xs =>
    cases e:bg k k' with
    | false=>rw [e] at h;cases h
    | true=>rw [e] at h;cases h;cases (mI.1 e);exact ⟨fun q=>jp q,fun i v q=>lu q⟩
theorem CK.emp_len:∀ (k:CK),(k.col k.emp).len=0:=by intro k;cases k<;>rfl
def CKs.Ty:List CK→Type
  | []=>Unit
  | k::l=>k.Ty×CKs.Ty l
def CKs.fit:(l:List CK)→(o n:Nat)→List cB→Option (CKs.Ty l)
  | [],_,_,[]=>some ()
  | k::l,o,n,c::cs=>(k.fit o n c).bind fun t=>(CKs.fit l o n cs).map fun r=>(t,r)
  | _,_,_,_=>none
def CKs.emp:(l:List CK)→CKs.Ty l
  | []=>()
  | k::l=>(k.emp,CKs.emp l)
def CKs.cols:(l:List CK)→CKs.Ty l→List cB
  | [],_=>[]
  | k::l,t=>k.col t.1::CKs.cols l t.2
theorem CKs.len:∀ {l:List CK} {t:CKs.Ty l},(CKs.cols l t).length=l.length
  | [],t=>rfl
  | k::l,t=>by simp [CKs.cols,CKs.len]
theorem xV:∀ {l:List CK} {o n:Nat} {cs:List cB} {t:CKs.Ty l},CKs.fit l o n cs=some t→cs.length=l.length
  | [],o,n,[],t,h=>rfl
  | [],o,n,c::cs,t,h=>by simp [CKs.fit] at h
  | k::l,o,n,[],t,h=>by simp [CKs.fit] at h
  | k::l,o,n,c::cs,t,h=>by
    simp only [CKs.fit] at h
    cases e1:k.fit o n c with
    | none=>rw [e1] at h;cases h
    | some a =>
      rw [e1] at h
      cases e2:CKs.fit l o n cs with
      | none=>simp only [Option.bind_some,e2] at h;cases h
      | some b=>simp [xV e2]
theorem CKs.fit_spec:∀ {l:List CK} {o n:Nat} {cs:List cB} {t:CKs.Ty l},CKs.fit l o n cs=some t→∀ (j:Nat) (c':cB),(CKs.cols l t)[j]? = some c'→∃ c:cB,cs[j]? = some c∧(o+n≤c.len→c'.len=n)∧∀ i v,c'.cell? i=some v→c.cell? (o+i)=some v
  | [],o,n,cs,t,h,j,c',q=>by simp [CKs.cols] at q
  | k::l,o,n,[],t,h,j,c',q=>by simp [CKs.fit] at h
  | k::l,o,n,c::cs,t,h,j,c',q=>by
    simp only [CKs.fit] at h
    cases e1:k.fit o n c with
    | none=>rw [e1] at h;cases h
    | some a =>
      rw [e1] at h
      cases e2:CKs.fit l o n cs with
      | none=>simp only [Option.bind_some,e2] at h;cases h
      | some b =>
        simp only [Option.bind_some,e2] at h
        cases h
        cases j with
        | zero=>simp [CKs.cols] at q;subst q;exact ⟨c,rfl,CK.fit_spec e1⟩
        | succ j=>exact CKs.fit_spec e2 j c' (by simpa [CKs.cols] using q)
theorem CKs.emp_len:∀ (l:List CK),∀ c∈CKs.cols l (CKs.emp l),c.len=0
  | [],c,h=>by cases h
  | k::l,c,h=>by
    simp only [CKs.cols,CKs.emp,List.mem_cons] at h
    rcases h with rfl | h
    · exact CK.emp_len k
    · exact CKs.emp_len l c h
mutual
inductive uN where
  | int (k:IntKind)
  | flt (ex:Bool)
  | bool
  | kbool (b:Bool)
  | str
  | fl
  | ns (k:IntKind)
  | bs
  | ss
  | cols (l:List CK)
  | ivs (ps:lZ) (w i j:Nat)
  | fn (f:FuncId) (a b:lZ)
  | nfn
  | nptr
  | nsl
  | agg (ps:lZ)
  | tup (ps:lZ)
  | iface (t:TypeId) (p:uN)
  | niface
  | any
  | lsl (b:Nat)
  | lptr (b w i j:Nat)
inductive lZ where
  | nil
  | cons (p:uN) (ps:lZ)
end
mutual
def uN.Ty:uN→Type
  | .int _=>Int
  | .flt _=>Nat
  | .bool=>Bool
  | .str=>ByteArray
  | .fl=>Lv×List Nat
  | .ns _=>Lv×List Int
  | .bs=>Lv×List Bool
  | .ss=>Lv×List ByteArray
  | .cols l=>Lv×Nat×CKs.Ty l
  | .ivs ps _ _ _=>Lv×ps.Ty
  | .fn _ a b=>a.Ty×b.Ty
  | .agg ps=>ps.Ty
  | .tup ps=>ps.Ty
  | .iface _ p=>p.Ty
  | .kbool _=>Unit
  | .nfn=>Unit
  | .nptr=>Unit
  | .nsl=>Unit
  | .niface=>Unit
  | .any=>Unit
  | .lsl _=>Nat×Nat×Nat
  | .lptr _ _ _ _=>Unit
def lZ.Ty:lZ→Type
  | .nil=>Unit
  | .cons p ps=>p.Ty×ps.Ty
end
mutual
def uN.av:(p:uN)→p.Ty→AV
  | .int k,n=>.int k n
  | .flt ex,x=>.flt ex x
  | .bool,b=>.bool false b
  | .str,s=>.str s
  | .fl,t=>.imm t.1 (.fl t.2) 1 1 0 t.2.length
  | .ns k,t=>.imm t.1 (.ns k t.2) 1 1 0 t.2.length
  | .bs,t=>.imm t.1 (.bs t.2) 1 1 0 t.2.length
  | .ss,t=>.imm t.1 (.ss t.2) 1 1 0 t.2.length
  | .cols l,t=>.imm t.1 (.cols t.2.1 (CKs.cols l t.2.2)) l.length l.length 0 t.2.1
  | .ivs ps w i j,t=>.iptr t.1 (.vs (ps.avs t.2)) w i j
  | .fn f a b,t=>.fn (.func f) (a.avs t.1) (b.avs t.2)
  | .agg ps,t=>.agg (ps.avs t)
  | .tup ps,t=>.tup (ps.avs t)
  | .iface y p,t=>.iface y (p.av t)
  | .kbool b,_=>.bool true b
  | .nfn,_=>.nfn
  | .nptr,_=>.nptr
  | .nsl,_=>.nsl
  | .niface,_=>.niface
  | .any,_=>.any
  | .lsl b,t=>.sl b 1 1 t.1 t.2.1 t.2.2
  | .lptr b w i j,_=>.ptr b w i j
def lZ.avs:(ps:lZ)→ps.Ty→List AV
  | .nil,_=>[]
  | .cons p ps,t=>p.av t.1::ps.avs t.2
end
def Gv(a b:Bool) :Bool:=bif a then b else !b
theorem Gw{a b:Bool} :Gv a b=true↔a=b:=by cases a<;>cases b<;>simp [Gv]
def CKs.ok(n:Nat)(m:Nat) :Bool:=Nat.ble n m
def Kc(k:IntKind) :AV→Option (Int×List Bool)
  | .int k' n=>bif bg k k' then some (n,[]) else none
  | _=>none
def Kd(ex:Bool) :AV→Option (Nat×List Bool)
  | .flt ex' x=>bif ex && !ex' then none else some (x,[])
  | _=>none
def Hx:AV→Option (Bool×List Bool)
  | .bool kn b=>bif kn then none else some (b,[])
  | _=>none
def Fa(b:Bool) :AV→Option (Unit×List Bool)
  | .bool kn b'=>bif kn&&Gv b b' then some ((),[]) else none
  | _=>none
def Ke:AV→Option (ByteArray×List Bool)
  | .str s=>some (s,[])
  | _=>none
def Cw{α:Type}(f:an→Option (List α)) :AV→Option ((Lv×List α)×List Bool)
  | .imm l d w es o n=>(f d).bind fun xs=>bif Nat.beq w 1&&Nat.beq es 1 then some ((l,ba o n xs),[ue o n xs]) else none
  | .nsl=>some ((.free,[]),[])
  | .esl=>some ((.free,[]),[])
  | _=>none
def Kf:an→Option (List Nat)
  | .fl xs=>some xs
  | _=>none
def Kg(k:IntKind) :an→Option (List Int)
  | .ns k' xs=>bif bg k k' then some xs else none
  | _=>none
def Kh:an→Option (List Bool)
  | .bs xs=>some xs
  | _=>none
def Mi:an→Option (List ByteArray)
  | .ss xs=>some xs
  | _=>none
def Mj:an→Option (List AV)
  | .vs xs=>some xs
  | _=>none
def Hy:an→Option (Nat×List cB)
  | .cols m cs=>some (m,cs)
  | _=>none
def DJ(ks:List CK) :AV→Option ((Lv×Nat×CKs.Ty ks)×List Bool)
  | .imm l d w es o n=>(Hy d).bind fun q=>bif Nat.beq w ks.length&&Nat.beq es ks.length then (CKs.fit ks o n q.2).map fun t=>((l,n,t),[Nat.ble (o+n) q.1]) else none
  | .nsl=>some ((.free,0,CKs.emp ks),[])
  | .esl=>some ((.free,0,CKs.emp ks),[])
  | _=>none
def Mk(w i j:Nat) :AV→Option (Lv×List AV)
  | .iptr l d w' i' j'=>(Mj d).bind fun xs=>bif Nat.beq w w'&&(Nat.beq i i'&&Nat.beq j j') then some (l,xs) else none
  | _=>none
def Nq(f:FuncId) :AV→Option (List AV×List AV)
  | .fn (.func f') x y=>bif Nat.beq f f' then some (x,y) else none
  | _=>none
def Ml:AV→Option (List AV)
  | .agg l=>some l
  | _=>none
def Mm:AV→Option (List AV)
  | .tup l=>some l
  | _=>none
def Hz(t:TypeId) :AV→Option AV
  | .iface t' v=>bif Nat.beq t t' then some v else none
  | _=>none
def Mn:AV→Option (Unit×List Bool)
  | .nfn=>some ((),[])
  | _=>none
def Ki:AV→Option (Unit×List Bool)
  | .nptr=>some ((),[])
  | _=>none
def Mo:AV→Option (Unit×List Bool)
  | .nsl=>some ((),[])
  | _=>none
def Kj(b:Nat) :AV→Option ((Nat×Nat×Nat)×List Bool)
  | .sl b' w es i len cap=>bif Nat.beq b b'&&(Nat.beq w 1&&Nat.beq es 1) then some ((i,len,cap),[]) else none
  | _=>none
def HA(b w i j:Nat) :AV→Option (Unit×List Bool)
  | .ptr b' w' i' j'=>bif (Nat.beq b b'&&Nat.beq w w')&&(Nat.beq i i'&&Nat.beq j j') then some ((),[]) else none
  | _=>none
def Fb:AV→Option (Unit×List Bool)
  | .niface=>some ((),[])
  | _=>none
mutual
def uN.fit:(p:uN)→AV→Option (p.Ty×List Bool)
  | .int k=>Kc k
  | .flt ex=>Kd ex
  | .bool=>Hx
  | .kbool b=>Fa b
  | .str=>Ke
  | .fl=>Cw Kf
  | .ns k=>Cw (Kg k)
  | .bs=>Cw Kh
  | .ss=>Cw Mi
  | .cols ks=>DJ ks
  | .ivs ps w i j=>fun v=>match Mk w i j v with
    | some q=>match ps.fit q.2 with
      | some r=>some ((q.1,r.1),r.2)
      | none=>none
    | none=>none
  | .fn f a b=>fun v=>match Nq f v with
    | some q=>match a.fit q.1 with
      | some r=>match b.fit q.2 with
        | some s=>some ((r.1,s.1),r.2++s.2)
        | none=>none
      | none=>none
    | none=>none
  | .agg ps=>fun v=>match Ml v with
    | some l=>ps.fit l
    | none=>none
  | .tup ps=>fun v=>match Mm v with
    | some l=>ps.fit l
    | none=>none
  | .iface t p=>fun v=>match Hz t v with
    | some u=>p.fit u
    | none=>none
  | .nfn=>Mn
  | .nptr=>Ki
  | .nsl=>Mo
  | .niface=>Fb
  | .any=>fun _=>some ((),[])
  | .lsl b=>Kj b
  | .lptr b w i j=>HA b w i j
def lZ.fit:(ps:lZ)→List AV→Option (ps.Ty×List Bool)
  | .nil=>fun l=>match l with
    | []=>some ((),[])
    | _::_=>none
  | .cons p ps=>fun l=>match l with
    | []=>none
    | v::l=>match p.fit v with
      | some r=>match ps.fit l with
        | some s=>some ((r.1,s.1),r.2++s.2)
        | none=>none
      | none=>none
end
theorem ID{ks:List CK}{o n m:Nat}{cs:List cB}{t:CKs.Ty ks}(h:CKs.fit ks o n cs=some t) :∀ x v,(an.cols n (CKs.cols ks t)).cell? x=some v→(an.cols m cs).cell? (o*ks.length+x)=some v:=by
  intro x v hx
  have hl:=xV h
  obtain ⟨c',h1,_,h3⟩:=de hx
  obtain ⟨c,q1,_,q3⟩:=CKs.fit_spec h _ _ h1
  rw [CKs.len] at h1 h3 q1
  have hpos:0<ks.length:=by
    have:=(List.getElem?_eq_some_iff.1 q1).1
    omega
  simp only [an.cell?,hl,Option.bind_eq_some_iff]
  refine ⟨c,?_,?_⟩
  · rw [Nat.add_comm,Nat.add_mul_mod_self_right];exact q1
  · rw [Nat.add_comm,Nat.add_mul_div_right _ _ hpos,Nat.add_comm];exact q3 _ _ h3
structure Wk (v v':AV):Prop where
  weak:az v v'
  kept:v.kept=true→v'.kept=true
  foreign:v.foreign=true→v'.foreign=true
structure NU (v v':List AV):Prop where
  weak:dc v v'
  kept:bE v=true→bE v'=true
  foreign:aL v=true→aL v'=true
theorem Wk.refl(v:AV) :Wk v v:=⟨az.refl v,id,id⟩
theorem Wk.fltL(x:Nat) :Wk (.flt true x) (.flt false x):=⟨fun ρ w u h=>(by
  cases h with | flt _ _ y hf =>
  rcases hf with rfl | ⟨q,_⟩
  · exact .flt _ _ _ (.inl rfl)
  · cases q),id,id⟩
theorem NU.cons{v v':AV}{l l':List AV}(h:Wk v v')(k:NU l l') :NU (v::l) (v'::l') :=
  ⟨.cons h.weak k.weak,fun q=>by simp only [bE,Bool.and_eq_true] at q ⊢;exact ⟨h.kept q.1,k.kept q.2⟩,fun q=>by simp only [aL,Bool.and_eq_true] at q ⊢;exact ⟨h.foreign q.1,k.foreign q.2⟩⟩
theorem Wk.part{l:Lv}{d d':an}{w es o n:Nat}(h:∀ x v,d'.cell? x=some v→d.cell? (o*w+x)=some v)(hr:d.recKept→d'.recKept)(hk:d'.kept=true)(hg:d'.foreign=true) :Wk (.imm l d w es o n) (.imm l d' w es 0 n) :=
  ⟨yn h hr hk hg,id,id⟩
theorem Wk.nsl{d':an}{w es:Nat}(hr:d'.recKept)(hk:d'.kept=true)(hg:d'.foreign=true) :Wk .nsl (.imm .free d' w es 0 0):=⟨yo hr hk hg,id,id⟩
theorem Wk.esl{d':an}{w es:Nat}(hr:d'.recKept)(hk:d'.kept=true)(hg:d'.foreign=true) :Wk .esl (.imm .free d' w es 0 0):=⟨yp hr hk hg,id,id⟩
theorem Wk.fl{l:Lv}{xs:List Nat}{o n:Nat}(h:ue o n xs=true) :Wk (.imm l (.fl xs) 1 1 o n) (.imm l (.fl (ba o n xs)) 1 1 0 (ba o n xs).length):=by
  rw [jp (oI.1 h)];exact .part (fun x v q=>by rw [Nat.mul_one];exact lu q) (fun _=>trivial) rfl rfl
theorem Wk.ns{k:IntKind}{l:Lv}{xs:List Int}{o n:Nat}(h:ue o n xs=true) :Wk (.imm l (.ns k xs) 1 1 o n) (.imm l (.ns k (ba o n xs)) 1 1 0 (ba o n xs).length):=by
  rw [jp (oI.1 h)];exact .part (fun x v q=>by rw [Nat.mul_one];exact lu q) (fun _=>trivial) rfl rfl
theorem Wk.bs{l:Lv}{xs:List Bool}{o n:Nat}(h:ue o n xs=true) :Wk (.imm l (.bs xs) 1 1 o n) (.imm l (.bs (ba o n xs)) 1 1 0 (ba o n xs).length):=by
  rw [jp (oI.1 h)];exact .part (fun x v q=>by rw [Nat.mul_one];exact lu q) (fun _=>trivial) rfl rfl
theorem Wk.ss{l:Lv}{xs:List ByteArray}{o n:Nat}(h:ue o n xs=true) :Wk (.imm l (.ss xs) 1 1 o n) (.imm l (.ss (ba o n xs)) 1 1 0 (ba o n xs).length):=by
  rw [jp (oI.1 h)];exact .part (fun x v q=>by rw [Nat.mul_one];exact lu q) (fun _=>trivial) rfl rfl
theorem Kk{ks:List CK}{o n m:Nat}{cs:List cB}{t:CKs.Ty ks}(h:CKs.fit ks o n cs=some t)(hm:o+n≤m) :(an.cols m cs).recKept→(an.cols n (CKs.cols ks t)).recKept:=by
  intro hr c hc
  obtain ⟨j,hj⟩:=List.getElem?_of_mem hc
  obtain ⟨c0,q1,q2,_⟩:=CKs.fit_spec h j c hj
  exact q2 (by rw [hr c0 (List.mem_of_getElem? q1)];exact hm)
theorem Nr{w es n:Nat}(h:(Nat.beq w n&&Nat.beq es n)=true) :w=n∧es=n:=by
  rw [Bool.and_eq_true] at h;exact ⟨Nat.eq_of_beq_eq_true h.1,Nat.eq_of_beq_eq_true h.2⟩
theorem mw{α:Type}{c:Bool}{a:α}{x:α}(h:(bif c then some a else none)=some x) :c=true∧a=x:=by
  cases c with
  | true=>exact ⟨rfl,by simpa using h⟩
  | false=>cases h
theorem Ns{α:Type}{c:Bool}{a:Option α}{x:α}(h:(bif c then a else none)=some x) :c=true∧a=some x:=by
  cases c with
  | true=>exact ⟨rfl,h⟩
  | false=>cases h
theorem pD{α:Type}{f:an→Option (List α)}{g:List α→an}(hg:∀ {d xs},f d=some xs→d=g xs) 
    (hw:∀ {l xs o n},ue o n xs=true→Wk (.imm l (g xs) 1 1 o n) (.imm l (g (ba o n xs)) 1 1 0 (ba o n xs).length)) (h0:(g []).recKept∧(g []).kept=true∧(g []).foreign=true)
    {v:AV} {t:Lv×List α} {o:List Bool} (h:Cw f v=some (t,o)) (ho:am o):Wk v (.imm t.1 (g t.2) 1 1 0 t.2.length):=by
  unfold Cw at h
  split at h
  · rename_i l d w es i n
    cases e:f d with
    | none=>rw [e] at h;cases h
    | some xs =>
      rw [e] at h
      obtain ⟨e2,h⟩:=mw h
      obtain ⟨rfl,rfl⟩:=Nr e2
      cases h;cases hg e;exact hw ho.1
  · cases h;exact .nsl h0.1 h0.2.1 h0.2.2
  · cases h;exact .esl h0.1 h0.2.1 h0.2.2
  · cases h
theorem DK{ks:List CK}{v:AV}{t:Lv×Nat×CKs.Ty ks}{o:List Bool}(h:DJ ks v=some (t,o))(ho:am o) :Wk v (.imm t.1 (.cols t.2.1 (CKs.cols ks t.2.2)) ks.length ks.length 0 t.2.1):=by
  unfold DJ at h
  split at h
  · rename_i l d w es i n
    cases d<;>simp only [Hy,Option.bind_none,Option.bind_some,reduceCtorEq] at h
    rename_i m cs
    have e:=(Ns h).1;replace h:=(Ns h).2
    obtain ⟨rfl,rfl⟩:=Nr e
    cases e2:CKs.fit ks i n cs with
    | none=>rw [e2] at h;cases h
    | some r =>
      rw [e2] at h;cases h
      have:i+n≤m:=Nat.le_of_ble_eq_true ho.1
      exact .part (ID e2) (Kk e2 this) rfl rfl
  · cases h;exact .nsl (CKs.emp_len ks) rfl rfl
  · cases h;exact .esl (CKs.emp_len ks) rfl rfl
  · cases h
mutual
theorem uN.fit_spec:∀ (p:uN) (v:AV) {t:p.Ty} {o:List Bool},p.fit v=some (t,o)→am o→Wk v (p.av t)
  | .int k,v,t,o,h,ho=>by
    simp only [uN.fit,Kc] at h
    split at h
    · obtain ⟨e,h⟩:=mw h
      cases h;cases mI.1 e;exact .refl _
    · cases h
  | .flt ex,v,t,o,h,ho=>by
    simp only [uN.fit,Kd] at h
    split at h
    · rename_i ex' x
      cases ex with
      | true =>
        cases ex' with
        | true=>cases h;exact .refl _
        | false=>cases h
      | false =>
        cases ex' with
        | true=>cases h;exact .fltL x
        | false=>cases h;exact .refl _
    · cases h
  | .bool,v,t,o,h,ho=>by
    simp only [uN.fit,Hx] at h
    split at h
    · rename_i kn b
      cases kn with
      | true=>cases h
      | false=>cases h;exact .refl _
    · cases h
  | .kbool b,v,t,o,h,ho=>by
    simp only [uN.fit,Fa] at h
    split at h
    · obtain ⟨e,h⟩:=mw h
      rw [Bool.and_eq_true] at e
      cases e.1;cases Gw.1 e.2;exact .refl _
    · cases h
  | .str,v,t,o,h,ho=>by
    simp only [uN.fit,Ke] at h
    split at h
    · cases h;exact .refl _
    · cases h
  | .fl,v,t,o,h,ho=>pD (g:=.fl) (f:=Kf) (fun {d xs} e=>by cases d<;>cases e;rfl) (fun q=>.fl q) ⟨trivial,rfl,rfl⟩ h ho
  | .ns k,v,t,o,h,ho=>pD (g:=.ns k) (f:=Kg k) (fun {d xs} e=>by
      cases d<;>try (cases e;done)
      have e1:=(mw e).1;replace e:=(mw e).2
      cases mI.1 e1;cases e;rfl) (fun q=>.ns q) ⟨trivial,rfl,rfl⟩ h ho
  | .bs,v,t,o,h,ho=>pD (g:=.bs) (f:=Kh) (fun {d xs} e=>by cases d<;>cases e;rfl) (fun q=>.bs q) ⟨trivial,rfl,rfl⟩ h ho
  | .ss,v,t,o,h,ho=>pD (g:=.ss) (f:=Mi) (fun {d xs} e=>by cases d<;>cases e;rfl) (fun q=>.ss q) ⟨trivial,rfl,rfl⟩ h ho
  | .cols ks,v,t,o,h,ho=>DK h ho
  | .ivs ps w i j,v,t,o,h,ho=>by
    simp only [uN.fit] at h
    split at h
    case h_2=>cases h
    rename_i q hq
    split at h
    case h_2=>cases h
    rename_i r hr
    cases h
    unfold Mk at hq
    split at hq
    case h_2=>cases hq
    rename_i l d w' i' j'
    cases d<;>simp only [Mj,Option.bind_none,Option.bind_some,reduceCtorEq] at hq
    rename_i xs
    have e:=(mw hq).1;replace hq:=(mw hq).2
    rw [Bool.and_eq_true,Bool.and_eq_true] at e
    cases Nat.eq_of_beq_eq_true e.1
    cases Nat.eq_of_beq_eq_true e.2.1
    cases Nat.eq_of_beq_eq_true e.2.2
    cases hq
    have:=lZ.fit_spec ps xs hr ho
    exact ⟨Al this.weak this.kept this.foreign,id,id⟩
  | .fn f a b,v,t,o,h,ho=>by
    simp only [uN.fit] at h
    split at h
    case h_2=>cases h
    rename_i q hq
    split at h
    case h_2=>cases h
    rename_i r hr
    split at h
    case h_2=>cases h
    rename_i s hs
    cases h
    unfold Nq at hq
    split at hq
    case h_2=>cases hq
    have e:=(mw hq).1;replace hq:=(mw hq).2
    cases Nat.eq_of_beq_eq_true e
    cases hq
    rw [aA] at ho
    have h1:=lZ.fit_spec a _ hr ho.1
    have h2:=lZ.fit_spec b _ hs ho.2
    refine ⟨az.fn h1.weak h2.weak,fun q=>?_,fun q=>?_⟩
    · simp only [uN.av,AV.kept,Bool.and_eq_true] at q ⊢;exact ⟨h1.kept q.1,h2.kept q.2⟩
    · simp only [uN.av,AV.foreign,Bool.and_eq_true] at q ⊢;exact ⟨h1.foreign q.1,h2.foreign q.2⟩
  | .agg ps,v,t,o,h,ho=>by
    simp only [uN.fit] at h
    split at h
    case h_2=>cases h
    rename_i l hl
    cases v<;>simp only [Ml,reduceCtorEq,Option.some.injEq] at hl
    subst hl
    have:=lZ.fit_spec ps _ h ho
    exact ⟨az.agg this.weak,this.kept,this.foreign⟩
  | .tup ps,v,t,o,h,ho=>by
    simp only [uN.fit] at h
    split at h
    case h_2=>cases h
    rename_i l hl
    cases v<;>simp only [Mm,reduceCtorEq,Option.some.injEq] at hl
    subst hl
    have:=lZ.fit_spec ps _ h ho
    exact ⟨az.tup this.weak,this.kept,this.foreign⟩
  | .iface y p,v,t,o,h,ho=>by
    simp only [uN.fit] at h
    split at h
    case h_2=>cases h
    rename_i u hu
    unfold Hz at hu
    split at hu
    case h_2=>cases hu
    have e:=(mw hu).1;replace hu:=(mw hu).2
    cases Nat.eq_of_beq_eq_true e
    subst hu
    have:=uN.fit_spec p _ h ho
    exact ⟨az.iface this.weak,this.kept,this.foreign⟩
  | .nfn,v,t,o,h,ho=>by
    cases v<;>simp only [uN.fit,Mn,reduceCtorEq] at h
    exact .refl _
  | .nptr,v,t,o,h,ho=>by
    cases v<;>simp only [uN.fit,Ki,reduceCtorEq] at h
    exact .refl _
  | .nsl,v,t,o,h,ho=>by
    cases v<;>simp only [uN.fit,Mo,reduceCtorEq] at h
    exact .refl _
  | .niface,v,t,o,h,ho=>by
    cases v<;>simp only [uN.fit,Fb,reduceCtorEq] at h
    exact .refl _
  | .any,v,t,o,h,ho=>⟨az.any v,fun _=>rfl,fun _=>rfl⟩
  | .lsl b,v,t,o,h,ho=>by
    simp only [uN.fit,Kj] at h
    split at h
    · have e:=(mw h).1;replace h:=(mw h).2
      rw [Bool.and_eq_true,Bool.and_eq_true] at e
      cases Nat.eq_of_beq_eq_true e.1
      cases Nat.eq_of_beq_eq_true e.2.1
      cases Nat.eq_of_beq_eq_true e.2.2
      cases h;exact .refl _
    · cases h
  | .lptr b w i j,v,t,o,h,ho=>by
    simp only [uN.fit,HA] at h
    split at h
    · have e:=(mw h).1;replace h:=(mw h).2
      rw [Bool.and_eq_true,Bool.and_eq_true,Bool.and_eq_true] at e
      cases Nat.eq_of_beq_eq_true e.1.1
      cases Nat.eq_of_beq_eq_true e.1.2
      cases Nat.eq_of_beq_eq_true e.2.1
      cases Nat.eq_of_beq_eq_true e.2.2
      exact .refl _
    · cases h
theorem lZ.fit_spec:∀ (ps:lZ) (l:List AV) {t:ps.Ty} {o:List Bool},ps.fit l=some (t,o)→am o→NU l (ps.avs t)
  | .nil,[],t,o,h,ho=>⟨.nil,id,id⟩
  | .nil,v::l,t,o,h,ho=>by simp [lZ.fit] at h
  | .cons p ps,[],t,o,h,ho=>by simp [lZ.fit] at h
  | .cons p ps,v::l,t,o,h,ho=>by
    simp only [lZ.fit] at h
    split at h
    case h_2=>cases h
    rename_i r hr
    split at h
    case h_2=>cases h
    rename_i s hs
    cases h
    rw [aA] at ho
    exact .cons (uN.fit_spec p v hr ho.1) (lZ.fit_spec ps l hs ho.2)
end
def eh(f:FuncId)(ps:lZ)(alts:ps.Ty→List ny) :aU :=
  ⟨f, fun L args => match L with
    | []=>match ps.fit args with
      | some r=>some ((alts r.1).map fun a=>⟨a.out,r.2++a.obs⟩)
      | none=>none
    | _=>none⟩
theorem bA{P:Program}{f:FuncId}{ps:lZ}{alts:ps.Ty→List ny}(h:∀ t,∀ a∈alts t,am a.obs→ao P f [] (ps.avs t) a.out) :bm P (eh f ps alts):=by
  intro L args al a hal ha ho
  simp only [eh] at hal
  split at hal
  case h_2=>cases hal
  split at hal
  case h_2=>cases hal
  rename_i r hr
  obtain ⟨t,o⟩:=r
  simp only [Option.some.injEq] at hal
  subst hal
  simp only [List.mem_map] at ha
  obtain ⟨b,hb,rfl⟩:=ha
  simp only [aA] at ho
  exact (h t b hb ho.2).args (lZ.fit_spec ps args hr ho.1).weak
inductive CP where
  | int (k:IntKind)
  | flt
  | fltx
  | bool
  | str
  | lsl (b:Nat)
  | lsl0 (b:Nat)
  | lptr (b w i j:Nat)
  | nsl
  | nptr
def CP.Ty:CP→Type
  | .int _=>Int
  | .flt=>Nat
  | .fltx=>Nat
  | .bool=>Bool
  | .str=>ByteArray
  | .lsl _=>Nat×Nat×Nat
  | .lsl0 _=>Nat×Nat
  | .lptr _ _ _ _=>Unit
  | .nsl=>Unit
  | .nptr=>Unit
def CP.av:(p:CP)→p.Ty→AV
  | .int k,n=>.int k n
  | .flt,x=>.flt false x
  | .fltx,x=>.flt true x
  | .bool,b=>.bool false b
  | .str,s=>.str s
  | .lsl b,t=>.sl b 1 1 t.1 t.2.1 t.2.2
  | .lsl0 b,t=>.sl b 1 1 0 t.1 t.2
  | .lptr b w i j,_=>.ptr b w i j
  | .nsl,_=>.nsl
  | .nptr,_=>.nptr
def Mp(k:IntKind) :AV→Option Int
  | .int k' n=>bif bg k k' then some n else none
  | _=>none
def Mq:AV→Option Nat
  | .flt ex x=>bif ex then none else some x
  | _=>none
def Kl:AV→Option Nat
  | .flt ex x=>bif ex then some x else none
  | _=>none
def Km:AV→Option Bool
  | .bool kn b=>bif kn then none else some b
  | _=>none
def Mr:AV→Option ByteArray
  | .str s=>some s
  | _=>none
def Ms(b:Nat) :AV→Option (Nat×Nat×Nat)
  | .sl b' w es i len cap=>bif Nat.beq b b'&&(Nat.beq w 1&&Nat.beq es 1) then some (i,len,cap) else none
  | _=>none
def Kn(b:Nat) :AV→Option (Nat×Nat)
  | .sl b' w es i len cap=>bif Nat.beq b b'&&(Nat.beq w 1&&Nat.beq es 1)&&Nat.beq i 0 then some (len,cap) else none
  | _=>none
def Ko(b w i j:Nat) :AV→Option Unit
  | .ptr b' w' i' j'=>bif (Nat.beq b b'&&Nat.beq w w')&&(Nat.beq i i'&&Nat.beq j j') then some () else none
  | _=>none
def Mt:AV→Option Unit
  | .nsl=>some ()
  | _=>none
def Kp:AV→Option Unit
  | .nptr=>some ()
  | _=>none
def CP.fit:(p:CP)→AV→Option p.Ty
  | .int k=>Mp k
  | .flt=>Mq
  | .fltx=>Kl
  | .bool=>Km
  | .str=>Mr
  | .lsl b=>Ms b
  | .lsl0 b=>Kn b
  | .lptr b w i j=>Ko b w i j
  | .nsl=>Mt
  | .nptr=>Kp
theorem Nt{c:Bool}{α:Type}{a x:α}(h:(bif c then none else some a)=some x) :c=false∧a=x:=by
  cases c with
  | true=>cases h
  | false=>exact ⟨rfl,by simpa using h⟩
theorem CP.fit_spec:∀ (p:CP) {v:AV} {t:p.Ty},p.fit v=some t→v=p.av t
  | .int k,v,t,h=>by
    simp only [CP.fit,Mp] at h
    split at h
    · obtain ⟨e,h⟩:=mw h
      cases h;cases mI.1 e;rfl
    · cases h
  | .flt,v,t,h=>by
    simp only [CP.fit,Mq] at h
    split at h
    · obtain ⟨e,h⟩:=Nt h
      cases h;cases e;rfl
    · cases h
  | .fltx,v,t,h=>by
    simp only [CP.fit,Kl] at h
    split at h
    · obtain ⟨e,h⟩:=mw h
      cases h;cases e;rfl
    · cases h
  | .bool,v,t,h=>by
    simp only [CP.fit,Km] at h
    split at h
    · obtain ⟨e,h⟩:=Nt h
      cases h;cases e;rfl
    · cases h
  | .str,v,t,h=>by
    simp only [CP.fit,Mr] at h
    split at h
    · cases h;rfl
    · cases h
  | .lsl b,v,t,h=>by
    simp only [CP.fit,Ms] at h
    split at h
    · have e:=(mw h).1;replace h:=(mw h).2
      rw [Bool.and_eq_true,Bool.and_eq_true] at e
      cases Nat.eq_of_beq_eq_true e.1
      cases Nat.eq_of_beq_eq_true e.2.1
      cases Nat.eq_of_beq_eq_true e.2.2
      cases h;rfl
    · cases h
  | .lsl0 b,v,t,h=>by
    simp only [CP.fit,Kn] at h
    split at h
    · have e:=(mw h).1;replace h:=(mw h).2
      rw [Bool.and_eq_true,Bool.and_eq_true,Bool.and_eq_true] at e
      cases Nat.eq_of_beq_eq_true e.1.1
      cases Nat.eq_of_beq_eq_true e.1.2.1
      cases Nat.eq_of_beq_eq_true e.1.2.2
      cases Nat.eq_of_beq_eq_true e.2
      cases h;rfl
    · cases h
  | .lptr b w i j,v,t,h=>by
    simp only [CP.fit,Ko] at h
    split at h
    · have e:=(mw h).1;clear h
      rw [Bool.and_eq_true,Bool.and_eq_true,Bool.and_eq_true] at e
      cases Nat.eq_of_beq_eq_true e.1.1
      cases Nat.eq_of_beq_eq_true e.1.2
      cases Nat.eq_of_beq_eq_true e.2.1
      cases Nat.eq_of_beq_eq_true e.2.2
      rfl
    · cases h
  | .nsl,v,t,h=>by
    simp only [CP.fit,Mt] at h
    split at h
    · rfl
    · cases h
  | .nptr,v,t,h=>by
    simp only [CP.fit,Kp] at h
    split at h
    · rfl
    · cases h
def CPs.Ty:List CP→Type
  | []=>Unit
  | p::l=>p.Ty×CPs.Ty l
def CPs.avs:(l:List CP)→CPs.Ty l→List AV
  | [],_=>[]
  | p::l,t=>p.av t.1::CPs.avs l t.2
def CPs.fit:(l:List CP)→List AV→Option (CPs.Ty l)
  | []=>fun vs=>match vs with
    | []=>some ()
    | _::_=>none
  | p::l=>fun vs=>match vs with
    | []=>none
    | v::vs=>match p.fit v with
      | some t=>match CPs.fit l vs with
        | some r=>some (t,r)
        | none=>none
      | none=>none
theorem CPs.fit_spec:∀ (l:List CP) {vs:List AV} {t:CPs.Ty l},CPs.fit l vs=some t→vs=CPs.avs l t
  | [],[],t,h=>rfl
  | [],_::_,t,h=>by cases h
  | _::_,[],t,h=>by cases h
  | p::l,v::vs,t,h=>by
    simp only [CPs.fit] at h
    split at h
    case h_2=>cases h
    rename_i x hx
    split at h
    case h_2=>cases h
    rename_i r hr
    cases h
    simp only [CPs.avs]
    rw [←CP.fit_spec p hx,←CPs.fit_spec l hr]
inductive BK where
  | fl
  | ns (k:IntKind)
  | bs
  | vs (l:List CP)
def BK.Ty:BK→Type
  | .fl=>List Nat
  | .ns _=>List Int
  | .bs=>List Bool
  | .vs l=>CPs.Ty l
def BK.blk:(k:BK)→k.Ty→an
  | .fl,xs=>.fl xs
  | .ns k,xs=>.ns k xs
  | .bs,xs=>.bs xs
  | .vs l,t=>.vs (CPs.avs l t)
def N4(l:List CP) :an→Option (CPs.Ty l)
  | .vs xs=>CPs.fit l xs
  | _=>none
def BK.fit:(k:BK)→an→Option k.Ty
  | .fl=>Kf
  | .ns k=>Kg k
  | .bs=>Kh
  | .vs l=>N4 l
theorem BK.fit_spec:∀ (k:BK) {d:an} {t:k.Ty},k.fit d=some t→d=k.blk t
  | .fl,d,t,h=>by cases d<;>cases h;rfl
  | .ns k,d,t,h=>by
    cases d<;>try (cases h;done)
    have e1:=(mw h).1;replace h:=(mw h).2
    cases mI.1 e1;cases h;rfl
  | .bs,d,t,h=>by cases d<;>cases h;rfl
  | .vs l,d,t,h=>by
    cases d<;>try (cases h;done)
    exact congrArg an.vs (CPs.fit_spec l h)
def BKs.Ty:List BK→Type
  | []=>Unit
  | k::l=>k.Ty×BKs.Ty l
def Am:(l:List BK)→BKs.Ty l→List an
  | [],_=>[]
  | k::l,t=>k.blk t.1::Am l t.2
def BKs.fit:(l:List BK)→List an→Option (BKs.Ty l)
  | [],[]=>some ()
  | [],_::_=>none
  | _::_,[]=>none
  | k::l,d::ds=>match k.fit d with
    | some t=>match BKs.fit l ds with
      | some r=>some (t,r)
      | none=>none
    | none=>none
theorem BKs.fit_spec:∀ (l:List BK) {ds:List an} {t:BKs.Ty l},BKs.fit l ds=some t→ds=Am l t
  | [],[],t,h=>rfl
  | [],_::_,t,h=>by cases h
  | _::_,[],t,h=>by cases h
  | k::l,d::ds,t,h=>by
    simp only [BKs.fit] at h
    split at h
    case h_2=>cases h
    rename_i x hx
    split at h
    case h_2=>cases h
    rename_i r hr
    cases h
    simp only [Am]
    rw [←BK.fit_spec k hx,←BKs.fit_spec l hr]
theorem cC{P:Program}{f:FuncId}{l:List AV} :∀ a∈([]:List ny),am a.obs→ao P f [] l a.out:=fun a h=>by cases h
theorem bQ{P:Program}{f:FuncId}{l:List AV}{o:nE}{b:Bool}{al:List ny}(h:b=true→ao P f [] l o)(t:∀ a∈al,am a.obs→ao P f [] l a.out) :∀ a∈(⟨o,[b]⟩:ny)::al,am a.obs→ao P f [] l a.out:=by
  intro a ha ho
  rcases List.mem_cons.1 ha with rfl | ha
  · exact h ho.1
  · exact t a ha ho
end
end Go.Plb
namespace Go.Plb
open Go.ChangeShapes Go.WideShapes Go.ChangeAt Go.RowKit Go.Deep
set_option linter.unusedSimpArgs false
set_option linter.unusedVariables false
set_option linter.unusedSectionVars false
variable [Rom]
def FA.n:FA→Nat
  | .f x=>x
  | _=>0
def FA.ss:FA→ByteArray
  | .s x=>x
  | _=>ByteArray.empty
def FA.lf:FA→List Nat
  | .fl x=>x
  | _=>[]
variable {H : Type} {enc : TypeId × Value → H} {P : Program} {W : World}
instance:Inhabited FA:=⟨.b false⟩
end Go.Plb
namespace Go.Plb.Seat
open Go Go.Plb Go.Proofs
noncomputable abbrev prog:Program:=Tryd.prog
def aO:List Int:=[1,10,100,1000,10000,100000,1000000,10000000,100000000,1000000000,10000000000,100000000000,1000000000000,10000000000000,100000000000000,1000000000000000,10000000000000000,100000000000000000,1000000000000000000,10000000000000000000]
instance:Rom:=⟨[(5,.gvar (aO.map fun z=>Value.int .u64 z).toArray),(3,.iptr .free (.vs [.iface 147 .any]) 1 0 0),(4,.iptr .free (.vs [.iface 147 .any]) 1 0 0)],by intro x hx;simp only [List.mem_cons,List.not_mem_nil,or_false] at hx;rcases hx with rfl | rfl | rfl<;>rfl⟩
abbrev fD:FuncId:=5
abbrev ol:FuncId:=8
abbrev dX:FuncId:=9
abbrev pE:FuncId:=11
abbrev qh:FuncId:=15
abbrev fe:FuncId:=19
abbrev ki:FuncId:=20
abbrev sR:FuncId:=21
abbrev nM:FuncId:=26
abbrev lE:FuncId:=29
abbrev mT:FuncId:=30
abbrev qi:FuncId:=32
abbrev gQ:FuncId:=33
abbrev re:FuncId:=34
abbrev sS:FuncId:=35
abbrev vu:FuncId:=41
abbrev sT:FuncId:=46
abbrev bD:FuncId:=47
abbrev jx:FuncId:=51
abbrev kj:FuncId:=52
abbrev cy:FuncId:=53
abbrev jt:FuncId:=54
abbrev ko:FuncId:=55
abbrev sU:FuncId:=57
abbrev sV:FuncId:=59
abbrev ma:FuncId:=68
abbrev eR:FuncId:=73
abbrev cz:FuncId:=77
abbrev bW:FuncId:=94
noncomputable def FN(f:FuncId) :Func:=(prog.funcs[f]?).getD default
noncomputable def yq(f:FuncId) :Code:=((FN f).body).getD .skip
noncomputable def C0:oH:=Hq prog [(cz,.cntb),(bW,.idxb)] [(bD,⟨[true,false],false⟩)]
theorem kp:JX prog cz .cntb:=⟨FN cz,by kernel_rfl,by kernel_rfl,by kernel_rfl,by kernel_rfl,by kernel_rfl⟩
theorem hU:JX prog bW .idxb:=⟨FN bW,by kernel_rfl,by kernel_rfl,by kernel_rfl,by kernel_rfl,by kernel_rfl⟩
theorem mixed:prog.follows .mixedOrders=true:=by kernel_rfl
theorem Nu:Hr prog=true:=by kernel_rfl
theorem Mu:C0.Ok:=JY mixed Nu (by
  intro x hx
  simp only [List.mem_cons,List.not_mem_nil,or_false] at hx
  rcases hx with rfl | rfl
  · exact kp
  · exact hU
  )
end Go.Plb.Seat
namespace Go.Proofs.YtacdcghekbbjiaaDoor
open Go.ChangeShapes Go.WideShapes Go.ChangeAt Go.RowKit Go.Plb Go.Plb.Seat
set_option maxRecDepth 100000
theorem MO:ownKnob Tryd.prog.godebug=none:=by kernel_rfl
theorem LA:laidOutB Tryd.prog=true:=by kernel_rfl
def An : List (String × DataW Unit) := [("math/bits.deBruijn32tab", Rows.laid_math_bits_deBruijn32tab), ("math/bits.deBruijn64tab", Rows.laid_math_bits_deBruijn64tab), ("internal/strconv.uint64pow10", Rows.laid_internal_strconv_uint64pow10), ("unicode/utf8.acceptRanges", Rows.laid_unicode_utf8_acceptRanges), ("strconv.ErrRange", Rows.laid_strconv_ErrRange), ("strconv.ErrSyntax", Rows.laid_strconv_ErrSyntax), ("unicode/utf8.first", Rows.laid_unicode_utf8_first)]
theorem HB : Tryd.prog.globalNamed "internal/strconv.uint64pow10" = some 5 := by kernel_rfl
theorem HC : Tryd.prog.globalNamed "strconv.ErrRange" = some 4 := by kernel_rfl
theorem HD : Tryd.prog.globalNamed "strconv.ErrSyntax" = some 3 := by kernel_rfl
theorem LB:(Rows.laid_internal_strconv_uint64pow10:DataW Unit)=Lib.tabData .u64 aO:=by rfl
theorem Nv : "*" ++ "errors.errorString" = "*errors.errorString" := by decide
noncomputable def Og:Field:=match Tryd.prog.underlying 149 with
  | some (.struct l)=>l[0]?.getD default
  | _=>default
noncomputable def Nw:Array (String×TypeId):=match Tryd.prog.underlying 77 with
  | some (.interface l)=>l
  | _=>#[]
theorem Kq(u : TypeId)(h : Tryd.prog.typeName? 3 u = some "*errors.errorString") : u = 147 :=
  typeName_ptr_named (nm := "errors.errorString") (by rw [Nv]; kernel_rfl) (by kernel_rfl) (by decide) u (by rw [Nv]; exact h)
theorem Ao{W:World}{n:String}{g:Nat}{cs:Array Value}(hg:Tryd.prog.globalNamed n=some g)(h:W.var? Tryd.prog n=some cs) :∃ t fr,W.heap[g]? = some (.cells cs t fr):=by
  unfold World.var? at h
  rw [hg] at h
  simp only [Option.bind_some] at h
  split at h
  · rename_i cs' t fr e
    cases h
    exact ⟨t,fr,e⟩
  · cases h
theorem Fc{W:World}{g:Nat}{v:Value}(h:∃ t fr,W.heap[g]? = some (.cells #[.iface 147 v] t fr)) :VR ae.none_ W (.iptr .free (.vs [.iface 147 .any]) 1 0 0) (.pointer (some ⟨g,0,none⟩)):=by
  obtain ⟨t,fr,h⟩:=h
  refine .iptr .free _ 1 0 0 g 0 (fun _=>.iface 147 v) (Aj _ _) (Array.getElem?_eq_some_iff.1 h).1 (fun x u hx=>?_) (fun x u hx=>?_) trivial (fun _=>rfl) rfl
  · cases x with
    | zero=>simp [World.cell?,h]
    | succ x=>cases hx
  · cases x with
    | zero=>cases hx;exact .iface _ _ _ (.any _)
    | succ x=>cases hx
theorem LC{W:World}(h:laidMetH Tryd.prog An W) :∀ x∈Rom.tab,VR ae.none_ W x.2 (.pointer (some ⟨x.1,0,none⟩)):=by
  have h':laidMet Tryd.prog An W:=h
  have h3:=h'.tail.tail
  have ht : Lib.TabIs Tryd.prog W "internal/strconv.uint64pow10" .u64 aO := by
    rw [LB] at h3
    exact Lib.tabIs_of_head HB (t:=143) (e:=35) (n:=aO.length) (by kernel_rfl) (by kernel_rfl) (by kernel_rfl) (by kernel_rfl) (by kernel_rfl) h3
  have h5:=h3.tail.tail
  obtain ⟨a0,s0,hv0,-,-,-⟩:=laid_sentinel (te:=149) (ts:=9) (f:=Og) (ms:=Nw) h5 HC (ti:=77) (by kernel_rfl) (by kernel_rfl) Kq (by kernel_rfl) (by kernel_rfl) (by kernel_rfl) (by kernel_rfl) (by kernel_rfl) (by kernel_rfl) (by kernel_rfl)
  have h6:=h5.tail
  obtain ⟨a1,s1,hv1,-,-,-⟩:=laid_sentinel (te:=149) (ts:=9) (f:=Og) (ms:=Nw) h6 HD (ti:=77) (by kernel_rfl) (by kernel_rfl) Kq (by kernel_rfl) (by kernel_rfl) (by kernel_rfl) (by kernel_rfl) (by kernel_rfl) (by kernel_rfl) (by kernel_rfl)
  intro x hx
  simp only [Rom.tab,List.mem_cons,List.not_mem_nil,or_false] at hx
  rcases hx with rfl | rfl | rfl
  · obtain ⟨t,fr,hh⟩:=Ao HB ht
    exact .gvar _ 5 t fr (Aj _ _) (Array.getElem?_eq_some_iff.1 hh).1 hh
  · exact Fc (Ao HD hv1)
  · exact Fc (Ao HC hv0)
def N5:DataW Unit→List Value
  | .lit (.int k z)=>[.int k z]
  | .agg l=>l.flatMap fun
    | .lit (.int k z)=>[.int k z]
    | _=>[]
  | _=>[]
def Kr:DataW Unit→Array Value
  | .agg l=>(l.flatMap N5).toArray
  | _=>#[]
def Ap(g:Nat)(c:Array Value)(h:Array Obj) :Array Obj:=h.modify g fun
  | .cells _ t frozen=>.cells c t frozen
  | o=>o
def HE:DataW Unit→Value
  | .iface _ (.ptr (.agg [.lit (.string s)]))=>.string ⟨s.toArray⟩
  | _=>undef
noncomputable def Cx(os:Os) :World :=
  let w0:=World.holding Tryd.prog os ⟨#[],#[],[]⟩
  let n:=w0.heap.size
  { w0 with heap:=(((Ap 1 (Kr Rows.laid_unicode_utf8_first) (Ap 2 (Kr Rows.laid_unicode_utf8_acceptRanges) (Ap 5 (Kr Rows.laid_internal_strconv_uint64pow10) (Ap 6 (Kr Rows.laid_math_bits_deBruijn32tab) (Ap 7 (Kr Rows.laid_math_bits_deBruijn64tab)
      (Ap 4 #[.iface 147 (.pointer (some ⟨n,0,none⟩))] (Ap 3 #[.iface 147 (.pointer (some ⟨n+1,0,none⟩))] w0.heap))))))).push (.cells #[HE Rows.laid_strconv_ErrRange] 149 (0,0))).push (.cells #[HE Rows.laid_strconv_ErrSyntax] 149 (0,0))) }
theorem Ks(os:Os)(args:Array Value) :laidMetH Tryd.prog An ((Cx os).forCall (fun _ _=>0) ⟨#[],args,[]⟩).memory :=
  (laidMet_of_run' 8 (by kernel_rfl) (by kernel_rfl):laidMet Tryd.prog An _)
end Go.Proofs.YtacdcghekbbjiaaDoor
namespace Go.Plb
noncomputable section
open Go.RowKit
set_option linter.unusedSimpArgs false
set_option linter.unusedVariables false
set_option linter.unusedSectionVars false
variable [Rom]
theorem oJ{M:Nat→Prop}{w w':World}(h:Below w.heap.size w w') :dl M w w' :=
  ⟨h.os,h.tape,h.output,h.size,fun b hb _=>h.block b hb,fun b c t fz hc=>⟨c,(h.block b (by
    rcases Nat.lt_or_ge b w.heap.size with q | q
    · exact q
    · rw [Array.getElem?_eq_none q] at hc;cases hc)).trans hc,rfl⟩⟩
theorem cx.new{ρ:ae}{w:World}{l:List an}(hN:cx ρ w l)(bl:Nat)(h:w.heap.size≤bl) :ρ.avoid .free bl:=by
  intro j _
  cases j with
  | zero=>exact fun q=>by have:=hN.heap.liveLt bl q;omega
  | succ j=>exact fun q=>by have:=hN.heap.outLt j bl q;omega
def eS(w:World) :Prop:=∀ x∈Rom.tab,VR ae.none_ w x.2 (.pointer (some ⟨x.1,0,none⟩))
theorem Fd(ρ:ae)(w:World) :Dk ρ ae.none_ w:=fun _ _ _ j=>by cases j<;>exact fun h=>h
theorem cx.romOk{ρ:ae}{w:World}{l:List an}(hN:cx ρ w l) :eS w:=fun x hx=>cK (Fd ρ w) (hN.heap.rom x hx) (Rom.kept x hx)
theorem eS.below{w w':World}(h:eS w){B:Nat}(hb:Below B w w')(hB:w.heap.size≤B) :eS w':=fun x hx =>
  (h x hx).mono (eM.refl _ _) (oJ (hb.mono hB))
theorem IE{w w':World}(W:dl ae.none_.live w w') :Below w.heap.size w w':=⟨W.os,W.tape,W.output,W.size,fun k hk=>W.same k hk (fun h=>h)⟩
theorem ao.calls{P:Program}{f:FuncId}{args:List AV}{v:AV}{us:List Value}(h:ao P f [] args ⟨v,[]⟩)(w:World)(hr:eS w)(hv:bc ae.none_ w args us) :
    Calls P f us.toArray w fun e w'=>∃ u ρ',e=.returned u∧Below w.heap.size w w'∧VR ρ' w' v u:=by
  refine (h ae.none_ w us (Hw w hr) hv).2.mono ?_
  rintro e w' ⟨u,rfl,W,ρ',_,_,_,hu⟩
  exact ⟨u,ρ',rfl,IE W,hu⟩
theorem cp{P:Program}{f:FuncId}{args:List AV}{v:AV}(hf:∃ fn,P.funcs[f]? = some fn∧fn.body.isSome=true) 
    (h:∀ (ρ:ae) (w:World) (us:List Value),cx ρ w []→bc ρ w args us→Calls P f us.toArray w fun e w'=>∃ u,e=.returned u∧Below w.heap.size w w'∧VR ρ w' v u):ao P f [] args ⟨v,[]⟩:=by
  intro ρ w us hN hv
  refine ⟨hf,(h ρ w us hN hv).mono ?_⟩
  rintro e w' ⟨u,rfl,hb,hu⟩
  have W:dl ρ.live w w':=oJ hb
  exact ⟨u,rfl,W,ρ,eM.refl _ _,fun _ _ q=>q,hN.heap.step W (fun bl q=>hb.block bl (hN.heap.liveLt bl q)),hu⟩
end
end Go.Plb
namespace Go.Plb.Seat
open Go Go.Plb Go.Proofs Go.RowKit
set_option maxRecDepth 100000
set_option linter.unusedSimpArgs false
set_option linter.unusedVariables false
def nN(s:List UInt8)(n:Int)(a b:Bool) :Value:=.agg #[.string ⟨s.toArray⟩,.int .i64 n,.bool a,.bool b]
def dJ:List MapEntry:=[⟨.int .i64 1,nN [101,105,103,101,110] 3 false true,0⟩,⟨.int .i64 2,nN [118,97,108,117,101,115] 0 false true,1⟩,⟨.int .i64 3,nN [115,118,100] 2 false false,2⟩,
  ⟨.int .i64 4,nN [114,97,110,107] 2 true false,3⟩,⟨.int .i64 5,nN [105,110,118,101,114,115,101] 2 true false,4⟩,⟨.int .i64 6,nN [99,111,110,100] 2 false false,5⟩]
theorem Kt{α:Type}(a:Array α)(x y:α) :(a.push x).setIfInBounds a.size y=a.push y:=by
  apply Array.ext
  · simp
  · intro i h1 h2
    rw [Array.getElem_setIfInBounds]
    · rw [Array.getElem_push,Array.getElem_push]
      by_cases q:a.size=i
      · subst q;simp
      · have:i<a.size:=by simp at h2;omega
        simp [q,this]
    · simp at h2 ⊢;omega
theorem Fe(w:World)(o:Obj)(h:∀ c t f,o ≠ .cells c t f) :(getObj w.heap.size).run prog (w.alloc o)=.ok o (w.alloc o):=by
  have hn:(w.alloc o).heap[w.heap.size]? = some o:=aT w o
  simp only [getObj,Sem.run]
  rw [hn]
  cases o<;>first | rfl | exact absurd rfl (h _ _ _)
theorem Ff(w:World)(o o':Obj)(h:∀ c t f,o ≠ .cells c t f) :(setObj w.heap.size o').run prog (w.alloc o)=.ok () (w.alloc o'):=by
  have hn:(w.alloc o).heap[w.heap.size]? = some o:=aT w o
  simp only [setObj,Sem.run]
  rw [hn]
  have he:({ (w.alloc o) with heap:=(w.alloc o).heap.setIfInBounds w.heap.size o' }:World)=w.alloc o':=by
    simp only [World.alloc]
    congr 1
    exact Kt _ _ _
  cases o<;>first | exact congrArg _ he | exact absurd rfl (h _ _ _)
theorem Oh:prog.underlying 91=some (.map 34 94):=by kernel_rfl
theorem Nf:prog.underlying 34=some (.int .i64):=by kernel_rfl
theorem sd(w:World)(es:Array MapEntry)(cl:Nat)(k:Int)(v:Value)(h:Instr.findNow (.int .i64) (.int .i64 k) es.toList 0=some none) :
    (Instr.mapUpdate 91 (.map (some w.heap.size)) (.int .i64 k) v).run prog (w.alloc (.map es cl))=.ok () (w.alloc (.map (es.push ⟨.int .i64 k,v,cl⟩) (cl+1))):=by
  have hg:=Fe w (.map es cl) (fun _ _ _ e=>by cases e)
  have hc:(Instr.checkKey false 10000 34 (.int .i64 k)).run prog (w.alloc (.map es cl))=.ok () (w.alloc (.map es cl)):=wG Nf (key:=.i .i64 k) rfl false 9999
  have hf:(Instr.findKey 34 (.int .i64 k) es.toList).run prog (w.alloc (.map es cl))=.ok none (w.alloc (.map es cl)):=by
    unfold Instr.findKey
    simp only [Sem.run_bind,run_underlying Nf,Result.andThen_ok,h]
    rfl
  unfold Instr.mapUpdate
  simp only [Sem.run_bind,run_underlying Oh,Result.andThen_ok,hg,hc,hf]
  exact Ff w (.map es cl) _ (fun _ _ _ e=>by cases e)
set_option maxHeartbeats 1000000 in
theorem xW (w : World) : Calls prog kj #[] w fun e w' => e = .returned (.map (some w.heap.size)) ∧ w' = w.alloc (.map dJ.toArray 6) := by
  have hmm := @run_makeMap prog
  have h1 := sd w #[] 0 1 (nN [101, 105, 103, 101, 110] 3 false true) rfl
  have h2 := sd w (dJ.take 1).toArray 1 2 (nN [118, 97, 108, 117, 101, 115] 0 false true) rfl
  have h3 := sd w (dJ.take 2).toArray 2 3 (nN [115, 118, 100] 2 false false) rfl
  have h4 := sd w (dJ.take 3).toArray 3 4 (nN [114, 97, 110, 107] 2 true false) rfl
  have h5 := sd w (dJ.take 4).toArray 4 5 (nN [105, 110, 118, 101, 114, 115, 101] 2 true false) rfl
  have h6 := sd w (dJ.take 5).toArray 5 6 (nN [99, 111, 110, 100] 2 false false) rfl
  simp only [dJ, nN, List.take, List.push_toArray, List.cons_append, List.nil_append, Nat.reduceAdd] at h1 h2 h3 h4 h5 h6
  go_enter Tryd.func52, Tryd.ntmps52
  go_wp2
  go_ret
  exact ⟨rfl, rfl⟩
def Aq(s:List UInt8)(n:Int)(a b:Bool) :AV:=.agg [.str ⟨s.toArray⟩,.int .i64 n,.bool true a,.bool true b]
def DL:List bv:=[.i .i64 1,.i .i64 2,.i .i64 3,.i .i64 4,.i .i64 5,.i .i64 6]
def Gx:List AV:=[Aq [101,105,103,101,110] 3 false true,Aq [118,97,108,117,101,115] 0 false true,Aq [115,118,100] 2 false false,Aq [114,97,110,107] 2 true false,Aq [105,110,118,101,114,115,101] 2 true false,Aq [99,111,110,100] 2 false false]
theorem oK(ρ:ae)(w:World)(s:List UInt8)(n:Int)(a b:Bool) :VR ρ w (Aq s n a b) (nN s n a b) :=
  .agg _ _ (.cons _ _ _ _ (.str _) (.cons _ _ _ _ (.int _ _) (.cons _ _ _ _ (.bool _ _) (.cons _ _ _ _ (.bool _ _) .nil))))
theorem Oo{i:Nat}{k:bv}(h:DL[i]? = some k) :i<6:=by
  have:=(List.getElem?_eq_some_iff.1 h).1
  exact this
theorem Ku{ρ:ae}{w:World}{bl:Nat}(ha:ρ.avoid .free bl)(hb:bl<w.heap.size)(hh:w.heap[bl]? = some (.map dJ.toArray 6)) :VR ρ w (.gmap DL Gx) (.map (some bl)):=by
  refine .gmap _ _ bl _ 6 (fun i=>((dJ.map (·.val))[i]?).getD undef) ha hb hh (fun e he=>?_) (fun i k hk=>?_) (fun x v hx=>?_) rfl rfl
  · have he:e∈dJ:=he
    simp only [dJ,List.mem_cons,List.not_mem_nil,or_false] at he
    rcases he with rfl | rfl | rfl | rfl | rfl | rfl
    · exact ⟨0,_,rfl,rfl,rfl⟩
    · exact ⟨1,_,rfl,rfl,rfl⟩
    · exact ⟨2,_,rfl,rfl,rfl⟩
    · exact ⟨3,_,rfl,rfl,rfl⟩
    · exact ⟨4,_,rfl,rfl,rfl⟩
    · exact ⟨5,_,rfl,rfl,rfl⟩
  · have hi:=Oo hk
    refine ⟨(dJ[i]?).getD default,?_,?_⟩
    · have h6:dJ.length=6:=rfl
      show (dJ[i]?).getD default∈dJ
      rw [List.getElem?_eq_getElem (by omega)]
      exact List.getElem_mem _
    · rcases i with _ | _ | _ | _ | _ | _ | i
      · cases hk;exact ⟨rfl,rfl⟩
      · cases hk;exact ⟨rfl,rfl⟩
      · cases hk;exact ⟨rfl,rfl⟩
      · cases hk;exact ⟨rfl,rfl⟩
      · cases hk;exact ⟨rfl,rfl⟩
      · cases hk;exact ⟨rfl,rfl⟩
      · omega
  · rcases x with _ | _ | _ | _ | _ | _ | x
    · cases hx;exact oK ..
    · cases hx;exact oK ..
    · cases hx;exact oK ..
    · cases hx;exact oK ..
    · cases hx;exact oK ..
    · cases hx;exact oK ..
    · cases hx
theorem Fg(w:World)(o:Obj) :Below w.heap.size w (w.alloc o):=(Below.refl _ w).alloc (Nat.le_refl _) o
theorem LD:ao prog kj [] [] ⟨.gmap DL Gx,[]⟩:=by
  refine cp ⟨FN kj,by kernel_rfl,by kernel_rfl⟩ fun ρ w us hN hv=>?_
  cases hv
  refine (xW w).mono ?_
  rintro e w' ⟨rfl,rfl⟩
  refine ⟨_,rfl,Fg _ _,Ku (hN.new _ (Nat.le_refl _)) (by simp) (aT w _)⟩
def DM:aU:=⟨kj,fun lent args=>match lent,args with | [],[]=>some [⟨⟨.gmap DL Gx,[]⟩,[]⟩] | _,_=>none⟩
theorem Gy:bm prog DM:=by
  intro lent args alts a h ha ho
  simp only [DM] at h
  split at h
  · simp only [Option.some.injEq] at h;subst h
    simp only [List.mem_singleton] at ha;subst ha
    exact LD
  · cases h
end Go.Plb.Seat
namespace Go.Plb.Seat
open Go Go.Plb Go.Proofs Go.RowKit
open Go.ChangeMaps (setBlock)
set_option maxRecDepth 100000
set_option linter.unusedSimpArgs false
set_option linter.unusedVariables false
def kq(i:Nat) :ByteArray:=⟨(([[101,105,103,101,110],[118,97,108,117,101,115],[115,118,100],[114,97,110,107],[105,110,118,101,114,115,101],[99,111,110,100]]:List (List UInt8))[i]?.getD []).toArray⟩
def kn(i:Nat) :Int:=([3,0,2,2,2,2]:List Int)[i]?.getD 0
def kt(i:Nat) :Bool:=([false,false,false,true,true,false]:List Bool)[i]?.getD false
def ks(i:Nat) :Bool:=([true,true,false,false,false,false]:List Bool)[i]?.getD false
def Gz(i:Nat) :Array Value:=#[.string (kq i),.int .i64 (kn i),.bool (kt i),.bool (ks i)]
def kE(i:Nat) :MapEntry:=⟨.int .i64 (i+1),.agg (Gz i),i⟩
theorem rf:dJ=[kE 0,kE 1,kE 2,kE 3,kE 4,kE 5]:=rfl
theorem Kv{seen:List Nat}{e:MapEntry}(h:e∈(leftOf dJ.toArray seen.toArray).toList) :∃ i,i<6∧i ∉ seen∧e=kE i:=by
  simp only [leftOf,rf,List.filter_toArray,List.mem_filter,List.mem_cons,List.not_mem_nil,or_false,Bool.not_eq_true',List.contains_toArray] at h
  obtain ⟨h1,h2⟩:=h
  have hb:∀ i,(kE i).born=i:=fun i=>rfl
  rcases h1 with rfl | rfl | rfl | rfl | rfl | rfl
  · exact ⟨0,by decide,by simpa [hb] using h2,rfl⟩
  · exact ⟨1,by decide,by simpa [hb] using h2,rfl⟩
  · exact ⟨2,by decide,by simpa [hb] using h2,rfl⟩
  · exact ⟨3,by decide,by simpa [hb] using h2,rfl⟩
  · exact ⟨4,by decide,by simpa [hb] using h2,rfl⟩
  · exact ⟨5,by decide,by simpa [hb] using h2,rfl⟩
theorem IF{seen:List Nat}(h:(leftOf dJ.toArray seen.toArray).size=0) :∀ i,i<6→i∈seen:=by
  intro i hi
  have h0:(leftOf dJ.toArray seen.toArray).toList=[]:=List.length_eq_zero_iff.1 (by simpa using h)
  simp only [leftOf,rf,List.filter_toArray,List.filter_eq_nil_iff,Bool.not_eq_true',List.contains_toArray,Bool.not_eq_false] at h0
  have:seen.contains (kE i).born=true:=h0 (kE i) (by
    rcases i with _ | _ | _ | _ | _ | _ | i
    · simp
    · simp
    · simp
    · simp
    · simp
    · simp
    · omega)
  simpa [kE] using this
def RE(B:Nat)(W:World)(i:Nat)(e:MapEntry) :Prop :=
  e.key=.string (kq i)∧∃ bn bk,B≤bn∧B≤bk∧e.val=.func (.func cy) #[] #[.pointer (some ⟨bn,0,none⟩),.pointer (some ⟨bk,0,none⟩)] ∧
    W.heap[bn]? = some (.cells #[.int .i64 (i+1)] 34 (0,0))∧W.heap[bk]? = some (.cells (Gz i) 94 (0,0))
structure RI (w:World) (W:World) (seen:List Nat):Prop where
  it:W.heap[w.heap.size+2]? = some (.mapIter (some (w.heap.size+1)) 6 seen.toArray 6)
  src:W.heap[w.heap.size+1]? = some (.map dJ.toArray 6)
  nodup:seen.Nodup
  lt:∀ i∈seen,i<6
  low:Below w.heap.size w W
  all:∃ es cl,W.heap[w.heap.size]? = some (.map es cl)∧(∀ e∈es.toList,∃ i∈seen,RE w.heap.size W i e)∧(∀ i∈seen,∃ e∈es.toList,RE w.heap.size W i e)∧∀ e∈es.toList,∀ e'∈es.toList,e.key=e'.key→e=e'
theorem BQ(W:World)(m cl:Nat)(es:Array MapEntry)(h:W.heap[m]? = some (.map es cl)) :(Instr.range 91 (.map (some m))).run prog W=.ok (.pointer (some ⟨W.heap.size,0,none⟩)) (W.alloc (.mapIter (some m) cl #[] cl)):=by
  have hg:(getObj m).run prog W=.ok (.map es cl) W:=by simp only [getObj,Sem.run];rw [h]
  unfold Instr.range
  simp only [Sem.run_bind,run_underlying Oh,Result.andThen_ok,hg]
  rfl
theorem Mv(w:World)(a b:Obj) :((w.alloc a).alloc b).heap.size=w.heap.size+2:=by simp
theorem Oq:prog.underlying 67=some (.map 9 66):=by kernel_rfl
theorem u9:prog.underlying 9=some .string:=by kernel_rfl
theorem jy{w:World}{b:Nat}{o:Obj}(h:b<w.heap.size) :(setBlock w b o).heap[b]? = some o:=by simp [setBlock,h]
theorem dM{w:World}{b c:Nat}{o:Obj}(h:c≠b) :(setBlock w b o).heap[c]? = w.heap[c]?:=by
  simp only [setBlock,Array.getElem?_setIfInBounds]
  rw [if_neg (fun e:b=c=>h e.symm)]
theorem om{w:World}{b:Nat}{o:Obj} :(setBlock w b o).heap.size=w.heap.size:=by simp [setBlock]
theorem Cy{i j:Nat}(hi:i<6)(hj:j<6)(h:kq i=kq j) :i=j:=by
  have h':(kq i).data.toList=(kq j).data.toList:=by rw [h]
  rcases i with _ | _ | _ | _ | _ | _ | i<;>rcases j with _ | _ | _ | _ | _ | _ | j<;>first | rfl | omega | (exfalso;revert h';decide)
theorem DN(W:World)(m cl:Nat)(es:Array MapEntry)(h:W.heap[m]? = some (.map es cl))(k:ByteArray)(v:Value)(hk:∀ e∈es.toList,∃ s,e.key=.string s∧s≠k) :
    (Instr.mapUpdate 67 (.map (some m)) (.string k) v).run prog W=.ok () (setBlock W m (.map (es.push ⟨.string k,v,cl⟩) (cl+1))):=by
  have hg:(getObj m).run prog W=.ok (.map es cl) W:=by simp only [getObj,Sem.run];rw [h]
  have hc:(Instr.checkKey false 10000 9 (.string k)).run prog W=.ok () W:=wG u9 (key:=.s k) rfl false 9999
  have hn:Instr.findNow .string (.string k) es.toList 0=some none:=by
    rcases pn (d:=.string) (key:=.s k) rfl es.toList 0 (fun e he=>by obtain ⟨s,h1,_⟩:=hk e he;exact ⟨.s s,rfl,h1⟩) with q | ⟨j,e,h1,h2,_⟩
    · exact q.1
    · obtain ⟨s,k1,k2⟩:=hk e h1
      rw [k1] at h2
      exact absurd (by simpa [bv.val] using h2) k2
  have hf:(Instr.findKey 9 (.string k) es.toList).run prog W=.ok none W:=by
    unfold Instr.findKey
    simp only [Sem.run_bind,run_underlying u9,Result.andThen_ok,hn]
    rfl
  unfold Instr.mapUpdate
  simp only [Sem.run_bind,run_underlying Oq,Result.andThen_ok,hg,hc,hf]
  simp only [setObj,Sem.run]
  rw [h]
  rfl
theorem Fh:∀ (n:Nat) (l:List Nat),l.Nodup→(∀ i∈l,i<n)→l.length≤n
  | 0,l,_,h=>by
    cases l with
    | nil=>simp
    | cons a l=>have:=h a (by simp);omega
  | n+1,l,hn,h=>by
    have:=Fh n (l.erase n) (hn.erase n) (fun i hi=>by
      have h1:=h i (List.mem_of_mem_erase hi)
      have h2:i≠n:=fun e=>by subst e;exact (List.Nodup.not_mem_erase hn) hi
      omega)
    rw [List.length_erase] at this
    split at this<;>omega
theorem RE.mono{B:Nat}{W W':World}{i:Nat}{e:MapEntry}(h:RE B W i e)(hs:∀ b c t,B≤b→W.heap[b]? = some (.cells c t (0,0))→W'.heap[b]? = some (.cells c t (0,0))) :RE B W' i e:=by
  obtain ⟨h1,bn,bk,h2,h3,h4,h5,h6⟩:=h
  exact ⟨h1,bn,bk,h2,h3,h4,hs _ _ _ h2 h5,hs _ _ _ h3 h6⟩
set_option maxHeartbeats 1000000 in
theorem RI.step {w W2 : World} {wr : World} {seen : List Nat} (hI : RI w wr seen) {i : Nat} (hi : i < 6) (his : i ∉ seen) {w1 : World} (hw1 : w1 = wr ∨ w1 = wr.drew)
    (hW2 : setBlock w1 (w.heap.size + 2) (.mapIter (some (w.heap.size + 1)) 6 (seen.toArray.push (kE i).born) 6) = W2) {es : Array MapEntry} {cl : Nat} (hes : wr.heap[w.heap.size]? = some (.map es cl))
    (h1 : ∀ e ∈ es.toList, ∃ i ∈ seen, RE w.heap.size wr i e) (h2 : ∀ i ∈ seen, ∃ e ∈ es.toList, RE w.heap.size wr i e) (h3 : ∀ e ∈ es.toList, ∀ e' ∈ es.toList, e.key = e'.key → e = e') :
    RI w (setBlock ((W2.alloc (.cells #[.int .i64 (i + 1)] 34)).alloc (.cells (Gz i) 94)) w.heap.size (.map (es.push ⟨.string (kq i), .func (.func 53) #[] #[.pointer (some ⟨W2.heap.size, 0, none⟩), .pointer (some ⟨W2.heap.size + 1, 0, none⟩)], cl⟩) (cl + 1))) (seen ++ [i]) := by
  have hh1 : w1.heap = wr.heap := by rcases hw1 with rfl | rfl <;> rfl
  have hlt : ∀ {b : Nat} {o : Obj}, wr.heap[b]? = some o → b < wr.heap.size := fun h => (Array.getElem?_eq_some_iff.1 h).1
  have hsz : W2.heap.size = wr.heap.size := by rw [← hW2, om, hh1]
  have L2 := hlt hI.it
  have L1 := hlt hI.src
  have L0 := hlt hes
  have e2 : ∀ c, c ≠ w.heap.size + 2 → W2.heap[c]? = wr.heap[c]? := fun c hc => by rw [← hW2, dM hc, hh1]
  obtain ⟨W3, hW3⟩ : ∃ W3, (W2.alloc (.cells #[.int .i64 (i + 1)] 34)).alloc (.cells (Gz i) 94) = W3 := ⟨_, rfl⟩
  have e3 : ∀ c, c < wr.heap.size → W3.heap[c]? = W2.heap[c]? := fun c hc => by
    rw [← hW3, bp (by simp; omega), bp (by omega)]
  have n1 : W3.heap[wr.heap.size]? = some (.cells #[.int .i64 (i + 1)] 34 (0, 0)) := by
    rw [← hW3, bp (by simp; omega), ← hsz]; exact aT _ _
  have n2 : W3.heap[wr.heap.size + 1]? = some (.cells (Gz i) 94 (0, 0)) := by
    have := aT (W2.alloc (.cells #[.int .i64 (i + 1)] 34)) (.cells (Gz i) 94)
    rw [hW3] at this
    simpa [hsz] using this
  rw [hW3]
  obtain ⟨W4, hW4⟩ : ∃ W4, setBlock W3 w.heap.size (.map (es.push ⟨.string (kq i), .func (.func 53) #[] #[.pointer (some ⟨W2.heap.size, 0, none⟩), .pointer (some ⟨W2.heap.size + 1, 0, none⟩)], cl⟩) (cl + 1)) = W4 := ⟨_, rfl⟩
  rw [hW4]
  have e4 : ∀ c, c ≠ w.heap.size → W4.heap[c]? = W3.heap[c]? := fun c hc => by rw [← hW4, dM hc]
  have s3 : W3.heap.size = wr.heap.size + 2 := by rw [← hW3]; simp [hsz]
  have old : ∀ b c t, w.heap.size ≤ b → wr.heap[b]? = some (.cells c t (0, 0)) → W4.heap[b]? = some (.cells c t (0, 0)) := fun b c t hb h => by
    have hne : b ≠ w.heap.size := fun e => by rw [e, hes] at h; cases h
    have hne2 : b ≠ w.heap.size + 2 := fun e => by rw [e, hI.it] at h; cases h
    rw [e4 b hne, e3 b (hlt h), e2 b hne2]; exact h
  refine ⟨?_, ?_, ?_, ?_, ?_, ⟨_, _, by rw [← hW4]; exact jy (by omega), ?_, ?_, ?_⟩⟩
  · rw [e4 _ (by omega), e3 _ L2, ← hW2, jy (by rw [hh1]; exact L2)]
    simp [kE]
  · rw [e4 _ (by omega), e3 _ L1, e2 _ (by omega)]; exact hI.src
  · exact List.nodup_append.2 ⟨hI.nodup, by simp, fun a ha b hb e => by simp at hb; subst hb; subst e; exact his ha⟩
  · intro j hj
    simp at hj
    rcases hj with hj | rfl
    · exact hI.lt j hj
    · exact hi
  · have a1 : W4.os = wr.os ∧ W4.tape = wr.tape ∧ W4.output = wr.output := by
      rw [← hW4, ← hW3, ← hW2]; rcases hw1 with rfl | rfl <;> exact ⟨rfl, rfl, rfl⟩
    have s4 : W4.heap.size = wr.heap.size + 2 := by rw [← hW4, om, s3]
    refine hI.low.trans ⟨a1.1, a1.2.1, a1.2.2, by omega, fun k hk => ?_⟩
    rw [e4 k (by omega), e3 k (by omega), e2 k (by omega)]
  · intro e he
    simp at he
    rcases he with he | rfl
    · obtain ⟨j, hj, hr⟩ := h1 e (by simpa using he)
      exact ⟨j, by simp [hj], hr.mono old⟩
    · exact ⟨i, by simp, rfl, W2.heap.size, W2.heap.size + 1, by omega, by omega, rfl, by rw [hsz, e4 _ (by omega)]; exact n1, by rw [hsz, e4 _ (by omega)]; exact n2⟩
  · intro j hj
    simp at hj
    rcases hj with hj | rfl
    · obtain ⟨e, he, hr⟩ := h2 j hj
      exact ⟨e, by simp; exact .inl (by simpa using he), hr.mono old⟩
    · exact ⟨_, by simp; exact .inr rfl, rfl, W2.heap.size, W2.heap.size + 1, by omega, by omega, rfl, by rw [hsz, e4 _ (by omega)]; exact n1, by rw [hsz, e4 _ (by omega)]; exact n2⟩
  · have fresh : ∀ e ∈ es.toList, e.key ≠ .string (kq i) := fun e he c => by
      obtain ⟨j, hj, hk, _⟩ := h1 e he
      rw [hk] at c
      exact his (Cy (hI.lt j hj) hi (by simpa using c) ▸ hj)
    intro e he e' he' hk
    simp at he he'
    rcases he with he | rfl <;> rcases he' with he' | rfl
    · exact h3 e (by simpa using he) e' (by simpa using he') hk
    · exact absurd hk (fresh e (by simpa using he))
    · exact absurd hk.symm (fresh e' (by simpa using he'))
    · rfl
set_option maxHeartbeats 2000000 in
theorem BS (w : World) : Calls prog gQ #[] w fun e w' => e = .returned (.map (some w.heap.size)) ∧ ∃ seen, RI w w' seen ∧ ∀ i, i < 6 → i ∈ seen := by
  have hmm := @run_makeMap prog
  have hmf : ∀ (fn : Fn) (first cap : Array Value) (w : World), (Instr.makeFunc fn first cap).run prog w = .ok (.func fn first cap) w := fun _ _ _ _ => rfl
  have hrg := BQ ((w.alloc (.map #[] 0)).alloc (.map dJ.toArray 6)) (w.heap.size + 1) 6 dJ.toArray (by have := aT (w.alloc (.map #[] 0)) (.map dJ.toArray 6); simpa using this)
  rw [Mv] at hrg
  go_enter Tryd.func33, Tryd.ntmps33
  go_wp2_with (go_at_call 52; refine (xW _).mono ?_; rintro e w' ⟨rfl, rfl⟩)
  go_loopw [7] (fun _ wr => ∃ seen, RI w wr seen) (fun _ wr => match wr.heap[w.heap.size + 2]? with | some (.mapIter _ _ s _) => 6 - s.size | _ => 0)
  case atStart =>
    have hb : ∀ o, Below w.heap.size w (((w.alloc (.map #[] 0)).alloc (.map dJ.toArray 6)).alloc o) := fun o => (((Below.refl _ w).alloc (Nat.le_refl _) _).alloc (by simp) _).alloc (by simp; omega) _
    refine ⟨[], ?_, ?_, by simp, by simp, hb _, ⟨#[], 0, ?_, by simp, by simp, by simp⟩⟩
    · have := aT ((w.alloc (.map #[] 0)).alloc (.map dJ.toArray 6)) (.mapIter (some (w.heap.size + 1)) 6 #[] 6)
      rw [Mv] at this
      exact this
    · rw [bp (by simp)]
      have := aT (w.alloc (.map #[] 0)) (.map dJ.toArray 6)
      simpa using this
    · rw [bp (by simp; omega), bp (by simp)]
      exact aT _ _
  case round =>
    obtain ⟨seen, hI⟩ := hrel
    rcases run_next_at (P := prog) wr 0 (w.heap.size + 2) (w.heap.size + 1) 6 6 seen.toArray dJ.toArray 6 hI.it hI.src (by intro x hx; rw [rf] at hx; simp at hx; rcases hx with rfl | rfl | rfl | rfl | rfl | rfl <;> decide) (Nat.le_refl _) with ⟨h0, hn⟩ | ⟨e, he, w1, hw1, hn⟩
    · have hnx : ∀ ty, (Instr.next (.pointer (some ⟨w.heap.size + 2, 0, none⟩)) false ty).run prog wr = .ok (.tuple #[.bool false]) wr := fun ty => hn
      go_wp2
      go_ret
      exact ⟨rfl, seen, hI, IF h0⟩
    · obtain ⟨i, hi, his, rfl⟩ := Kv he
      obtain ⟨W2, hW2⟩ : ∃ W2, setBlock w1 (w.heap.size + 2) (.mapIter (some (w.heap.size + 1)) 6 (seen.toArray.push (kE i).born) 6) = W2 := ⟨_, rfl⟩
      rw [hW2] at hn
      have hnx : ∀ ty, (Instr.next (.pointer (some ⟨w.heap.size + 2, 0, none⟩)) false ty).run prog wr = .ok (.tuple #[.bool true, .int .i64 (i + 1), .agg #[.string (kq i), .int .i64 (kn i), .bool (kt i), .bool (ks i)]]) W2 := fun ty => hn
      have hh1 : w1.heap = wr.heap := by rcases hw1 with rfl | rfl <;> rfl
      have hen : (Instr.entry (.pointer (some ⟨w.heap.size + 2, 0, none⟩))).run prog W2 = .ok (.tuple #[.int .i64 (i + 1), .agg #[.string (kq i), .int .i64 (kn i), .bool (kt i), .bool (ks i)]]) W2 := by
        refine run_entry_at (P := prog) W2 (w.heap.size + 2) (w.heap.size + 1) 6 seen.toArray dJ.toArray 6 (kE i) ?_ ?_ ?_ ?_
        · rw [← hW2]; exact jy (by rw [hh1]; exact (Array.getElem?_eq_some_iff.1 hI.it).1)
        · rw [← hW2, dM (by omega), hh1]; exact hI.src
        · rw [rf]
          rcases i with _ | _ | _ | _ | _ | _ | i
          · simp
          · simp
          · simp
          · simp
          · simp
          · simp
          · omega
        · rw [rf]; decide
      obtain ⟨es, cl, hes, h1, h2, h3⟩ := hI.all
      have hstep := hI.step hi his hw1 hW2 hes h1 h2 h3
      have hA : ((W2.alloc (.cells #[.int .i64 (i + 1)] 34)).alloc (.cells #[.string (kq i), .int .i64 (kn i), .bool (kt i), .bool (ks i)] 94)).heap[w.heap.size]? = some (.map es cl) := by
        have L0 := (Array.getElem?_eq_some_iff.1 hes).1
        have hsz : W2.heap.size = wr.heap.size := by rw [← hW2, om, hh1]
        rw [bp (by simp; omega), bp (by omega), ← hW2, dM (by omega), hh1]; exact hes
      have hmu := fun v => DN _ _ _ _ hA (kq i) v (fun e he => by
        obtain ⟨j, hj, hk, _⟩ := h1 e he
        exact ⟨_, hk, fun c => his (Cy (hI.lt j hj) hi c ▸ hj)⟩)
      have hit := hstep.it
      have hir := hI.it
      clear hn
      go_wp2
      go_roundw
      case rel => exact ⟨seen ++ [i], hstep⟩
      case measure =>
        have hlen : seen.length < 6 := by
          have hx : (seen ++ [i]).length ≤ 6 := by
            exact Fh 6 _ hstep.nodup hstep.lt
          simp at hx; omega
        have hit' := hit
        simp only [Gz] at hit'
        rw [hir]
        first | rw [hit'] | skip
        simp
        omega
def uf:List bv:=(List.range 6).map fun i=>.s (kq i)
def Ar:List AV:=(List.range 6).map fun (i:Nat)=>.fn (.func cy) [] [.iptr .free (.vs [.int .i64 ((i:Int)+1)]) 1 0 0,.iptr .free (.vs [.str (kq i),.int .i64 (kn i),.bool false (kt i),.bool false (ks i)]) 1 0 0]
theorem GA{i:Nat}{k:bv}(h:uf[i]? = some k) :i<6∧k=.s (kq i):=by
  simp only [uf,List.getElem?_map,Option.map_eq_some_iff] at h
  obtain ⟨j,h1,rfl⟩:=h
  have hl:=(List.getElem?_eq_some_iff.1 h1).1
  have hi:i<6:=by simpa using hl
  rw [List.getElem?_range hi] at h1
  cases h1
  exact ⟨hi,rfl⟩
theorem IG{i:Nat}(h:i<6) :uf[i]? = some (.s (kq i)):=by
  simp only [uf,List.getElem?_map,List.getElem?_range h,Option.map_some]
theorem GB{i:Nat}{v:AV}(h:Ar[i]? = some v) :i<6∧v=.fn (.func cy) [] [.iptr .free (.vs [.int .i64 ((i:Int)+1)]) 1 0 0,.iptr .free (.vs [.str (kq i),.int .i64 (kn i),.bool false (kt i),.bool false (ks i)]) 1 0 0]:=by
  simp only [Ar,List.getElem?_map,Option.map_eq_some_iff] at h
  obtain ⟨j,h1,rfl⟩:=h
  have hl:=(List.getElem?_eq_some_iff.1 h1).1
  have hi:i<6:=by simpa using hl
  rw [List.getElem?_range hi] at h1
  cases h1
  exact ⟨hi,rfl⟩
theorem cell_of{w:World}{b:Nat}{c:Array Value}{t:TypeId}(h:w.heap[b]? = some (.cells c t (0,0)))(x:Nat) :w.cell? ⟨b,x,none⟩=c[x]?:=by
  simp [World.cell?,h]
theorem Kw{ρ:ae}{w:World}{bl:Nat}{c:Array Value}{t:TypeId}{l:List AV}(ha:ρ.avoid .free bl)(hh:w.heap[bl]? = some (.cells c t (0,0)))(hv:bc ρ w l c.toList)(hk:bE l=true) :
    VR ρ w (.iptr .free (.vs l) 1 0 0) (.pointer (some ⟨bl,0,none⟩)):=by
  have hb:bl<w.heap.size:=(Array.getElem?_eq_some_iff.1 hh).1
  have:=VR.iptr (ρ:=ρ) (w:=w) .free (.vs l) 1 0 0 bl 0 (fun x=>(c[x]?).getD undef) ha hb (fun x v hx=>?_) (fun x v hx=>?_) trivial (fun _=>hk) (cM hk)
  · simpa using this
  · obtain ⟨u,q1,_⟩:=hv.get x v hx
    rw [Nat.zero_add,cell_of hh]
    simp at q1
    rw [q1];rfl
  · obtain ⟨u,q1,q2⟩:=hv.get x v hx
    simp at q1
    rw [q1];exact q2
theorem GC{ρ:ae}{w w':World}{seen:List Nat}(hI:RI w w' seen)(hall:∀ i,i<6→i∈seen)(ha:∀ bl,w.heap.size≤bl→ρ.avoid .free bl) :VR ρ w' (.gmap uf Ar) (.map (some w.heap.size)):=by
  obtain ⟨es,cl,hes,h1,h2,h3⟩:=hI.all
  have pick:∀ i,∃ v,i<6→∃ e∈es.toList,RE w.heap.size w' i e∧e.val=v:=fun i=>by
    by_cases h:i<6
    · obtain ⟨e,he,hr⟩:=h2 i (hall i h)
      exact ⟨e.val,fun _=>⟨e,he,hr,rfl⟩⟩
    · exact ⟨undef,fun q=>absurd q h⟩
  obtain ⟨u,hu⟩:=Classical.axiomOfChoice pick
  refine .gmap _ _ w.heap.size es cl u (ha _ (Nat.le_refl _)) (Array.getElem?_eq_some_iff.1 hes).1 hes (fun e he=>?_) (fun i k hk=>?_) (fun x v hx=>?_) rfl (by decide)
  · obtain ⟨i,hi,hr⟩:=h1 e he
    have h6:=hI.lt i hi
    obtain ⟨e',he',hr',hv⟩:=hu i h6
    refine ⟨i,.s (kq i),IG h6,hr.1,?_⟩
    rw [←hv,h3 e he e' he' (hr.1.trans hr'.1.symm)]
  · obtain ⟨h6,rfl⟩:=GA hk
    obtain ⟨e',he',hr',hv⟩:=hu i h6
    exact ⟨e',he',hr'.1,hv⟩
  · obtain ⟨h6,rfl⟩:=GB hx
    obtain ⟨e',he',⟨_,bn,bk,g1,g2,g3,g4,g5⟩,hv⟩:=hu x h6
    rw [←hv,g3]
    refine .fn _ _ _ _ _ .nil (.cons _ _ _ _ (Kw (ha _ g1) g4 (.cons _ _ _ _ (.int _ _) .nil) rfl) (.cons _ _ _ _ (Kw (ha _ g2) g5 ?_ rfl) .nil))
    exact .cons _ _ _ _ (.str _) (.cons _ _ _ _ (.int _ _) (.cons _ _ _ _ (.bool _ _) (.cons _ _ _ _ (.bool _ _) .nil)))
theorem IH:ao prog gQ [] [] ⟨.gmap uf Ar,[]⟩:=by
  refine cp ⟨FN gQ,by kernel_rfl,by kernel_rfl⟩ fun ρ w us hN hv=>?_
  cases hv
  refine (BS w).mono ?_
  rintro e w' ⟨rfl,seen,hI,hall⟩
  exact ⟨_,rfl,hI.low,GC hI hall hN.new⟩
def wP:aU:=⟨gQ,fun lent args=>match lent,args with | [],[]=>some [⟨⟨.gmap uf Ar,[]⟩,[]⟩] | _,_=>none⟩
theorem DO:bm prog wP:=by
  intro lent args alts a h ha ho
  simp only [wP] at h
  split at h
  · simp only [Option.some.injEq] at h;subst h
    simp only [List.mem_singleton] at ha;subst ha
    exact IH
  · cases h
end Go.Plb.Seat
namespace Go.Proofs
open Go.Shelf
def wQ:Go.Shelf.Ren:=⟨fun | 170=>44 | n=>n,fun | 70=>72 | 3=>3 | 0=>0 | 72=>74 | 37=>50 | 5=>5 | n=>n,fun | n=>n⟩
theorem DP:Go.Proofs.Lays.n170 Tryd.prog wQ:={
  mixed:=by kernel_rfl
  f170:=Tryd.func44.trans (congrArg some (by kernel_rfl))
  t0:=Tryd.underlying0
  a0:=Tryd.isAgg0
  z0:=Tryd.sizeOf0
  v0:=Tryd.zeroValue0
  t3:=Tryd.underlying3
  a3:=Tryd.isAgg3
  z3:=Tryd.sizeOf3
  v3:=Tryd.zeroValue3
  t37:=Tryd.underlying50
  a37:=Tryd.isAgg50
  z37:=Tryd.sizeOf50
  v37:=Tryd.zeroValue50
  t70:=Tryd.underlying72
  a70:=Tryd.isAgg72
  z70:=Tryd.sizeOf72
  v70:=Tryd.zeroValue72
  t72:=Tryd.underlying74
  a72:=Tryd.isAgg74
  z72:=Tryd.sizeOf74
  v72:=Tryd.zeroValue74 }
def oL:Go.Shelf.Ren:=⟨fun | 169=>45 | n=>n,fun | 70=>72 | 9=>9 | 0=>0 | 72=>74 | 37=>50 | 127=>104 | 3=>3 | 5=>5 | n=>n,fun | n=>n⟩
theorem DQ:Go.Proofs.Lays.n169 Tryd.prog oL:={
  mixed:=by kernel_rfl
  f169:=Tryd.func45.trans (congrArg some (by kernel_rfl))
  t0:=Tryd.underlying0
  a0:=Tryd.isAgg0
  z0:=Tryd.sizeOf0
  v0:=Tryd.zeroValue0
  t3:=Tryd.underlying3
  a3:=Tryd.isAgg3
  z3:=Tryd.sizeOf3
  v3:=Tryd.zeroValue3
  t9:=Tryd.underlying9
  a9:=Tryd.isAgg9
  z9:=Tryd.sizeOf9
  v9:=Tryd.zeroValue9
  t37:=Tryd.underlying50
  a37:=Tryd.isAgg50
  z37:=Tryd.sizeOf50
  v37:=Tryd.zeroValue50
  t70:=Tryd.underlying72
  a70:=Tryd.isAgg72
  z70:=Tryd.sizeOf72
  v70:=Tryd.zeroValue72
  t72:=Tryd.underlying74
  a72:=Tryd.isAgg74
  z72:=Tryd.sizeOf74
  v72:=Tryd.zeroValue74
  t127:=Tryd.underlying104
  a127:=Tryd.isAgg104
  z127:=Tryd.sizeOf104
  v127:=Tryd.zeroValue104 }
theorem pF:Builder.Extra Tryd.prog oL:={
  sizeBuilder:=by kernel_rfl
  liesBuilder:=by kernel_rfl
  t5:=Tryd.underlying5
  a5:=Tryd.isAgg5
  z5:=Tryd.sizeOf5
  v5:=Tryd.zeroValue5
  infoByte:=by kernel_rfl
  cellsByte:=by kernel_rfl
  sizeByte:=by kernel_rfl
  neB5:=by decide }
def oM:Go.Shelf.Ren:=⟨fun | 156=>30 | 165=>50 | 166=>43 | 169=>45 | 240=>61 | 241=>66 | 276=>72 | 277=>75 | n=>n,fun | 31=>59 | 9=>9 | 3=>3 | 4=>4 | 0=>0 | 20=>20 | 72=>74 | 76=>78 | 70=>72 | 37=>50 | 75=>77 | 127=>104 | 164=>111 | 5=>5 | 80=>81 | n=>n,fun | n=>n⟩
theorem pG:Go.Proofs.Lays.n156 Tryd.prog oM:={
  mixed:=by kernel_rfl
  f156:=Tryd.func30.trans (congrArg some (by kernel_rfl))
  f165:=Tryd.func50.trans (congrArg some (by kernel_rfl))
  f166:=Tryd.func43.trans (congrArg some (by kernel_rfl))
  f169:=Tryd.func45.trans (congrArg some (by kernel_rfl))
  f240:=Tryd.func61.trans (congrArg some (by kernel_rfl))
  f241:=Tryd.func66.trans (congrArg some (by kernel_rfl))
  f276:=Tryd.func72.trans (congrArg some (by kernel_rfl))
  f277:=Tryd.func75.trans (congrArg some (by kernel_rfl))
  t0:=Tryd.underlying0
  a0:=Tryd.isAgg0
  z0:=Tryd.sizeOf0
  v0:=Tryd.zeroValue0
  t3:=Tryd.underlying3
  a3:=Tryd.isAgg3
  z3:=Tryd.sizeOf3
  v3:=Tryd.zeroValue3
  t4:=Tryd.underlying4
  a4:=Tryd.isAgg4
  z4:=Tryd.sizeOf4
  v4:=Tryd.zeroValue4
  t9:=Tryd.underlying9
  a9:=Tryd.isAgg9
  z9:=Tryd.sizeOf9
  v9:=Tryd.zeroValue9
  t20:=Tryd.underlying20
  a20:=Tryd.isAgg20
  z20:=Tryd.sizeOf20
  v20:=Tryd.zeroValue20
  t31:=Tryd.underlying59
  a31:=Tryd.isAgg59
  z31:=Tryd.sizeOf59
  v31:=Tryd.zeroValue59
  t37:=Tryd.underlying50
  a37:=Tryd.isAgg50
  z37:=Tryd.sizeOf50
  v37:=Tryd.zeroValue50
  t70:=Tryd.underlying72
  a70:=Tryd.isAgg72
  z70:=Tryd.sizeOf72
  v70:=Tryd.zeroValue72
  t72:=Tryd.underlying74
  a72:=Tryd.isAgg74
  z72:=Tryd.sizeOf74
  v72:=Tryd.zeroValue74
  t75:=Tryd.underlying77
  a75:=Tryd.isAgg77
  z75:=Tryd.sizeOf77
  v75:=Tryd.zeroValue77
  t76:=Tryd.underlying78
  a76:=Tryd.isAgg78
  z76:=Tryd.sizeOf78
  v76:=Tryd.zeroValue78
  t127:=Tryd.underlying104
  a127:=Tryd.isAgg104
  z127:=Tryd.sizeOf104
  v127:=Tryd.zeroValue104
  t164:=Tryd.underlying111
  a164:=Tryd.isAgg111
  z164:=Tryd.sizeOf111
  v164:=Tryd.zeroValue111 }
theorem ep:Builder.Extra Tryd.prog oM:={
  sizeBuilder:=by kernel_rfl
  liesBuilder:=by kernel_rfl
  t5:=Tryd.underlying5
  a5:=Tryd.isAgg5
  z5:=Tryd.sizeOf5
  v5:=Tryd.zeroValue5
  infoByte:=by kernel_rfl
  cellsByte:=by kernel_rfl
  sizeByte:=by kernel_rfl
  neB5:=by decide }
open Go.RowKit in
theorem Tryd.strings_Join_none (a : Option Addr) (c : Nat) (sep : ByteArray) (w : World) :
    Calls Tryd.prog 30 #[.slice a 0 c, .string sep] w fun e w' => e = .returned (.string ⟨#[]⟩) ∧ w' = w := Any.strings_Join_none pG ep a c sep w
open Go.RowKit in
theorem Tryd.strings_Join (bk o c : Nat) (xs : List ByteArray) (sep : ByteArray) (w : World) (hcells : ∀ (j : Nat) x, xs[j]? = some x → w.cell? ⟨bk, o + j, none⟩ = some (.string x)) (hbk : bk < w.heap.size) (hN : xs.length ≤ 140737488355328) (hcap : xs.length ≤ c) (hlen : (Lib.join (xs.map (·.data.toList)) sep.data.toList).length ≤ 140737488355328) :
    Calls Tryd.prog 30 #[.slice (some ⟨bk, o, none⟩) xs.length c, .string sep] w fun e w' => e = .returned (.string ⟨(Lib.join (xs.map (·.data.toList)) sep.data.toList).toArray⟩) ∧ Below w.heap.size w w' := Any.strings_Join pG ep bk o c xs sep w hcells hbk hN hcap hlen
open Go.RowKit in
theorem Tryd.Builder_Len_f (B b : Nat) (bs : List Value) (w : World) (h : Lib.IsBuilderF 74 5 B b bs w) :
    Calls Tryd.prog 44 #[.pointer (some ⟨b, 0, none⟩)] w fun e w' => e = .returned (.int .i64 bs.length) ∧ w' = w := Any.Builder_Len_f DP B b bs w h
def vv:Go.Shelf.Ren:=⟨fun | 171=>55 | 243=>70 | 246=>80 | 283=>90 | 284=>91 | 285=>92 | 286=>93 | 129=>100 | 317=>99 | 318=>101 | 319=>102 | 320=>103 | 337=>106 | 338=>107 | n=>n,fun | 3=>3 | 9=>9 | 2=>2 | 4=>4 | 171=>128 | 0=>0 | 53=>35 | 37=>50 | 5=>5 | 173=>131 | 212=>143 | 51=>133 | 20=>20 | 213=>144 | 46=>87 | 232=>151 | 233=>152 | n=>n,fun | 17=>5 | 18=>6 | 19=>7 | n=>n⟩
theorem BT:Go.Proofs.LaysM.n171 Tryd.prog vv:={
  mixed:=by kernel_rfl
  f129:=Tryd.func100.trans (congrArg some (by kernel_rfl))
  f171:=Tryd.func55.trans (congrArg some (by kernel_rfl))
  f243:=Tryd.func70.trans (congrArg some (by kernel_rfl))
  f246:=Tryd.func80.trans (congrArg some (by kernel_rfl))
  f283:=Tryd.func90.trans (congrArg some (by kernel_rfl))
  f284:=Tryd.func91.trans (congrArg some (by kernel_rfl))
  f285:=Tryd.func92.trans (congrArg some (by kernel_rfl))
  f286:=Tryd.func93.trans (congrArg some (by kernel_rfl))
  f317:=Tryd.func99.trans (congrArg some (by kernel_rfl))
  f318:=Tryd.func101.trans (congrArg some (by kernel_rfl))
  f319:=Tryd.func102.trans (congrArg some (by kernel_rfl))
  f320:=Tryd.func103.trans (congrArg some (by kernel_rfl))
  f337:=Tryd.func106.trans (congrArg some (by kernel_rfl))
  f338:=Tryd.func107.trans (congrArg some (by kernel_rfl))
  t0:=Tryd.underlying0
  a0:=Tryd.isAgg0
  z0:=Tryd.sizeOf0
  v0:=Tryd.zeroValue0
  t2:=Tryd.underlying2
  a2:=Tryd.isAgg2
  z2:=Tryd.sizeOf2
  v2:=Tryd.zeroValue2
  t3:=Tryd.underlying3
  a3:=Tryd.isAgg3
  z3:=Tryd.sizeOf3
  v3:=Tryd.zeroValue3
  t4:=Tryd.underlying4
  a4:=Tryd.isAgg4
  z4:=Tryd.sizeOf4
  v4:=Tryd.zeroValue4
  t5:=Tryd.underlying5
  a5:=Tryd.isAgg5
  z5:=Tryd.sizeOf5
  v5:=Tryd.zeroValue5
  t9:=Tryd.underlying9
  a9:=Tryd.isAgg9
  z9:=Tryd.sizeOf9
  v9:=Tryd.zeroValue9
  t20:=Tryd.underlying20
  a20:=Tryd.isAgg20
  z20:=Tryd.sizeOf20
  v20:=Tryd.zeroValue20
  t37:=Tryd.underlying50
  a37:=Tryd.isAgg50
  z37:=Tryd.sizeOf50
  v37:=Tryd.zeroValue50
  t46:=Tryd.underlying87
  a46:=Tryd.isAgg87
  z46:=Tryd.sizeOf87
  v46:=Tryd.zeroValue87
  t51:=Tryd.underlying133
  a51:=Tryd.isAgg133
  z51:=Tryd.sizeOf133
  v51:=Tryd.zeroValue133
  t53:=Tryd.underlying35
  a53:=Tryd.isAgg35
  z53:=Tryd.sizeOf35
  v53:=Tryd.zeroValue35
  t171:=Tryd.underlying128
  a171:=Tryd.isAgg128
  z171:=Tryd.sizeOf128
  v171:=Tryd.zeroValue128
  t173:=Tryd.underlying131
  a173:=Tryd.isAgg131
  z173:=Tryd.sizeOf131
  v173:=Tryd.zeroValue131
  t212:=Tryd.underlying143
  a212:=Tryd.isAgg143
  z212:=Tryd.sizeOf143
  v212:=Tryd.zeroValue143
  t213:=Tryd.underlying144
  a213:=Tryd.isAgg144
  z213:=Tryd.sizeOf144
  t232:=Tryd.underlying151
  a232:=Tryd.isAgg151
  z232:=Tryd.sizeOf151
  v232:=Tryd.zeroValue151
  t233:=Tryd.underlying152
  a233:=Tryd.isAgg152
  z233:=Tryd.sizeOf152
  v233:=Tryd.zeroValue152
  g17:=by kernel_rfl
  g18:=by kernel_rfl
  g19:=by kernel_rfl
  i0:=by kernel_rfl
  i2:=by kernel_rfl
  i3:=by kernel_rfl
  i4:=by kernel_rfl
  i5:=by kernel_rfl
  i9:=by kernel_rfl
  i20:=by kernel_rfl
  i37:=by kernel_rfl
  i46:=by kernel_rfl
  i51:=by kernel_rfl
  i53:=by kernel_rfl
  i171:=by kernel_rfl
  i173:=by kernel_rfl
  i212:=by kernel_rfl
  i232:=by kernel_rfl
  i233:=by kernel_rfl
  m17:=by kernel_rfl
  m18:=by kernel_rfl
  m19:=by kernel_rfl }
open Go.RowKit Go.Sort Go.Lib in
theorem Tryd.strconv_Itoa (n : Int) (h0 : -9223372036854775808 ≤ n) (h1 : n ≤ 9223372036854775807) (w : World) (htab : Lib.TabIs Tryd.prog w "internal/strconv.uint64pow10" .u64 Lib.pow10Tab) :
    Calls Tryd.prog 55 #[.int .i64 n] w fun e w' => e = .returned (.string ⟨(Lib.itoa n).toArray⟩) ∧ ∃ k os, w' = grow (w.drewN k) os := Any.strconv_Itoa BT n h0 h1 w htab
def vx:Go.Shelf.Ren:=⟨fun | 172=>69 | 244=>78 | 245=>79 | 247=>85 | 279=>86 | 280=>87 | 281=>88 | 282=>89 | 287=>96 | 316=>97 | 171=>55 | 205=>98 | 321=>104 | 322=>105 | 243=>70 | 246=>80 | 283=>90 | 284=>91 | 285=>92 | 286=>93 | 129=>100 | 317=>99 | 318=>101 | 319=>102 | 320=>103 | 337=>106 | 338=>107 | n=>n,fun | 9=>9 | 3=>3 | 75=>77 | 76=>78 | 4=>4 | 5=>5 | 167=>122 | 37=>50 | 0=>0 | 85=>123 | 2=>2 | 168=>125 | 53=>35 | 175=>136 | 46=>87 | 210=>140 | 127=>104 | 145=>149 | 143=>147 | 21=>21 | 171=>128 | 173=>131 | 212=>143 | 51=>133 | 20=>20 | 213=>144 | 232=>151 | 233=>152 | 80=>81 | n=>n,fun | 15=>3 | 16=>4 | 17=>5 | 18=>6 | 19=>7 | n=>n⟩
theorem oo:Go.Proofs.LaysC.n172 Tryd.prog vx:={
  mixed:=by kernel_rfl
  f129:=Tryd.func100.trans (congrArg some (by kernel_rfl))
  f171:=Tryd.func55.trans (congrArg some (by kernel_rfl))
  f172:=Tryd.func69.trans (congrArg some (by kernel_rfl))
  f205:=Tryd.func98.trans (congrArg some (by kernel_rfl))
  f243:=Tryd.func70.trans (congrArg some (by kernel_rfl))
  f244:=Tryd.func78.trans (congrArg some (by kernel_rfl))
  f245:=Tryd.func79.trans (congrArg some (by kernel_rfl))
  f246:=Tryd.func80.trans (congrArg some (by kernel_rfl))
  f247:=Tryd.func85.trans (congrArg some (by kernel_rfl))
  f279:=Tryd.func86.trans (congrArg some (by kernel_rfl))
  f280:=Tryd.func87.trans (congrArg some (by kernel_rfl))
  f281:=Tryd.func88.trans (congrArg some (by kernel_rfl))
  f282:=Tryd.func89.trans (congrArg some (by kernel_rfl))
  f283:=Tryd.func90.trans (congrArg some (by kernel_rfl))
  f284:=Tryd.func91.trans (congrArg some (by kernel_rfl))
  f285:=Tryd.func92.trans (congrArg some (by kernel_rfl))
  f286:=Tryd.func93.trans (congrArg some (by kernel_rfl))
  f287:=Tryd.func96.trans (congrArg some (by kernel_rfl))
  f316:=Tryd.func97.trans (congrArg some (by kernel_rfl))
  f317:=Tryd.func99.trans (congrArg some (by kernel_rfl))
  f318:=Tryd.func101.trans (congrArg some (by kernel_rfl))
  f319:=Tryd.func102.trans (congrArg some (by kernel_rfl))
  f320:=Tryd.func103.trans (congrArg some (by kernel_rfl))
  f321:=Tryd.func104.trans (congrArg some (by kernel_rfl))
  f322:=Tryd.func105.trans (congrArg some (by kernel_rfl))
  f337:=Tryd.func106.trans (congrArg some (by kernel_rfl))
  f338:=Tryd.func107.trans (congrArg some (by kernel_rfl))
  t0:=Tryd.underlying0
  a0:=Tryd.isAgg0
  z0:=Tryd.sizeOf0
  v0:=Tryd.zeroValue0
  t2:=Tryd.underlying2
  a2:=Tryd.isAgg2
  z2:=Tryd.sizeOf2
  v2:=Tryd.zeroValue2
  t3:=Tryd.underlying3
  a3:=Tryd.isAgg3
  z3:=Tryd.sizeOf3
  v3:=Tryd.zeroValue3
  t4:=Tryd.underlying4
  a4:=Tryd.isAgg4
  z4:=Tryd.sizeOf4
  v4:=Tryd.zeroValue4
  t5:=Tryd.underlying5
  a5:=Tryd.isAgg5
  z5:=Tryd.sizeOf5
  v5:=Tryd.zeroValue5
  t9:=Tryd.underlying9
  a9:=Tryd.isAgg9
  z9:=Tryd.sizeOf9
  v9:=Tryd.zeroValue9
  t20:=Tryd.underlying20
  a20:=Tryd.isAgg20
  z20:=Tryd.sizeOf20
  v20:=Tryd.zeroValue20
  t21:=Tryd.underlying21
  a21:=Tryd.isAgg21
  z21:=Tryd.sizeOf21
  v21:=Tryd.zeroValue21
  t37:=Tryd.underlying50
  a37:=Tryd.isAgg50
  z37:=Tryd.sizeOf50
  v37:=Tryd.zeroValue50
  t46:=Tryd.underlying87
  a46:=Tryd.isAgg87
  z46:=Tryd.sizeOf87
  v46:=Tryd.zeroValue87
  t51:=Tryd.underlying133
  a51:=Tryd.isAgg133
  z51:=Tryd.sizeOf133
  v51:=Tryd.zeroValue133
  t53:=Tryd.underlying35
  a53:=Tryd.isAgg35
  z53:=Tryd.sizeOf35
  v53:=Tryd.zeroValue35
  t75:=Tryd.underlying77
  a75:=Tryd.isAgg77
  z75:=Tryd.sizeOf77
  v75:=Tryd.zeroValue77
  t76:=Tryd.underlying78
  a76:=Tryd.isAgg78
  z76:=Tryd.sizeOf78
  v76:=Tryd.zeroValue78
  t85:=Tryd.underlying123
  a85:=Tryd.isAgg123
  z85:=Tryd.sizeOf123
  v85:=Tryd.zeroValue123
  t127:=Tryd.underlying104
  a127:=Tryd.isAgg104
  z127:=Tryd.sizeOf104
  v127:=Tryd.zeroValue104
  t143:=Tryd.underlying147
  a143:=Tryd.isAgg147
  z143:=Tryd.sizeOf147
  v143:=Tryd.zeroValue147
  t145:=Tryd.underlying149
  a145:=Tryd.isAgg149
  z145:=Tryd.sizeOf149
  v145:=Tryd.zeroValue149
  t167:=Tryd.underlying122
  a167:=Tryd.isAgg122
  z167:=Tryd.sizeOf122
  v167:=Tryd.zeroValue122
  t168:=Tryd.underlying125
  a168:=Tryd.isAgg125
  z168:=Tryd.sizeOf125
  v168:=Tryd.zeroValue125
  t171:=Tryd.underlying128
  a171:=Tryd.isAgg128
  z171:=Tryd.sizeOf128
  v171:=Tryd.zeroValue128
  t173:=Tryd.underlying131
  a173:=Tryd.isAgg131
  z173:=Tryd.sizeOf131
  v173:=Tryd.zeroValue131
  t175:=Tryd.underlying136
  a175:=Tryd.isAgg136
  z175:=Tryd.sizeOf136
  v175:=Tryd.zeroValue136
  t210:=Tryd.underlying140
  a210:=Tryd.isAgg140
  z210:=Tryd.sizeOf140
  v210:=Tryd.zeroValue140
  t212:=Tryd.underlying143
  a212:=Tryd.isAgg143
  z212:=Tryd.sizeOf143
  v212:=Tryd.zeroValue143
  t213:=Tryd.underlying144
  a213:=Tryd.isAgg144
  z213:=Tryd.sizeOf144
  t232:=Tryd.underlying151
  a232:=Tryd.isAgg151
  z232:=Tryd.sizeOf151
  v232:=Tryd.zeroValue151
  t233:=Tryd.underlying152
  a233:=Tryd.isAgg152
  z233:=Tryd.sizeOf152
  v233:=Tryd.zeroValue152
  g15:=by kernel_rfl
  g16:=by kernel_rfl
  g17:=by kernel_rfl
  g18:=by kernel_rfl
  g19:=by kernel_rfl
  t80:=Tryd.underlying81
  a80:=Tryd.isAgg81
  z80:=Tryd.sizeOf81
  v80:=Tryd.zeroValue81
  i0:=by kernel_rfl
  i2:=by kernel_rfl
  i3:=by kernel_rfl
  i4:=by kernel_rfl
  i5:=by kernel_rfl
  i9:=by kernel_rfl
  i20:=by kernel_rfl
  i21:=by kernel_rfl
  i37:=by kernel_rfl
  i46:=by kernel_rfl
  i51:=by kernel_rfl
  i53:=by kernel_rfl
  i75:=by kernel_rfl
  i76:=by kernel_rfl
  i80:=by kernel_rfl
  i85:=by kernel_rfl
  i127:=by kernel_rfl
  i143:=by kernel_rfl
  i145:=by kernel_rfl
  i167:=by kernel_rfl
  i168:=by kernel_rfl
  i171:=by kernel_rfl
  i173:=by kernel_rfl
  i175:=by kernel_rfl
  i210:=by kernel_rfl
  i212:=by kernel_rfl
  i232:=by kernel_rfl
  i233:=by kernel_rfl
  m15:=by kernel_rfl
  m16:=by kernel_rfl
  m17:=by kernel_rfl
  m18:=by kernel_rfl
  m19:=by kernel_rfl
  c0:=by kernel_rfl
  c2:=by kernel_rfl
  c3:=by kernel_rfl
  c4:=by kernel_rfl
  c5:=by kernel_rfl
  c9:=by kernel_rfl
  c20:=by kernel_rfl
  c21:=by kernel_rfl
  c37:=by kernel_rfl
  c46:=by kernel_rfl
  c51:=by kernel_rfl
  c53:=by kernel_rfl
  c75:=by kernel_rfl
  c76:=by kernel_rfl
  c80:=by kernel_rfl
  c85:=by kernel_rfl
  c127:=by kernel_rfl
  c143:=by kernel_rfl
  c145:=by kernel_rfl
  c167:=by kernel_rfl
  c168:=by kernel_rfl
  c171:=by kernel_rfl
  c173:=by kernel_rfl
  c175:=by kernel_rfl
  c210:=by kernel_rfl
  c212:=by kernel_rfl
  c213:=by kernel_rfl
  c232:=by kernel_rfl
  c233:=by kernel_rfl }
open Go.RowKit in
theorem Tryd.strconv_Atoi_ok (s : ByteArray) (hmax : s.size ≤ 9223372036854775806) (v : Int) (h : Lib.atoiAll s.data.toList = .ok v) (w : World) :
    Calls Tryd.prog 69 #[.string s] w fun e w' => e = .returned (.tuple #[.int .i64 v, .nilIface]) ∧ (w' = w ∨ ∃ t, w' = Lib.bytesWorld w 5 t) := Any.strconv_Atoi_ok oo s hmax v h w
open Go.RowKit in
theorem Tryd.strconv_Atoi_syntax (s : ByteArray) (hlim : s.size ≤ 281474976710656) (h : Lib.atoiAll s.data.toList = Lib.atoiAll []) (ev : Value) (w : World) (hv : w.cell? ⟨3, 0, none⟩ = some ev) (hev : ev = .nilIface ∨ ∃ te pe, ev = .iface te pe) :
    Calls Tryd.prog 69 #[.string s] w fun e w' => ∃ N, e = .returned (.tuple #[.int .i64 (0), .iface 125 (.pointer (some ⟨N, 0, none⟩))]) ∧ w.heap.size ≤ N ∧ w'.heap[N]? = some (.cells #[.string ⟨#[65, 116, 111, 105]⟩, .string s, ev] 140 (0, 0)) ∧ Below w.heap.size w w' := Any.strconv_Atoi_syntax oo s hlim h ev w hv hev
open Go.RowKit in
theorem Tryd.strconv_Atoi_range (s : ByteArray) (hlim : s.size ≤ 281474976710656) (h : Lib.atoiAll s.data.toList = .range) (ev : Value) (w : World) (hv : w.cell? ⟨4, 0, none⟩ = some ev) (hev : ev = .nilIface ∨ ∃ te pe, ev = .iface te pe) :
    Calls Tryd.prog 69 #[.string s] w fun e w' => ∃ N, e = .returned (.tuple #[.int .i64 (Lib.atoiSat s.data.toList), .iface 125 (.pointer (some ⟨N, 0, none⟩))]) ∧ w.heap.size ≤ N ∧ w'.heap[N]? = some (.cells #[.string ⟨#[65, 116, 111, 105]⟩, .string s, ev] 140 (0, 0)) ∧ Below w.heap.size w w' := Any.strconv_Atoi_range oo s hlim h ev w hv hev
def wR:Go.Shelf.Ren:=⟨fun | 143=>65 | 219=>73 | 217=>81 | 225=>82 | 224=>83 | 267=>84 | 266=>94 | 314=>95 | n=>n,fun | 9=>9 | 3=>3 | 4=>4 | 5=>5 | 46=>87 | 146=>134 | 51=>133 | n=>n,fun | 1=>0 | n=>n⟩
theorem DR:Go.Proofs.Lays.n143 Tryd.prog wR:={
  mixed:=by kernel_rfl
  f143:=Tryd.func65.trans (congrArg some (by kernel_rfl))
  f217:=Tryd.func81.trans (congrArg some (by kernel_rfl))
  f219:=Tryd.func73.trans (congrArg some (by kernel_rfl))
  f224:=Tryd.func83.trans (congrArg some (by kernel_rfl))
  f225:=Tryd.func82.trans (congrArg some (by kernel_rfl))
  f266:=Tryd.func94.trans (congrArg some (by kernel_rfl))
  f267:=Tryd.func84.trans (congrArg some (by kernel_rfl))
  f314:=Tryd.func95.trans (congrArg some (by kernel_rfl))
  t3:=Tryd.underlying3
  a3:=Tryd.isAgg3
  z3:=Tryd.sizeOf3
  v3:=Tryd.zeroValue3
  t4:=Tryd.underlying4
  a4:=Tryd.isAgg4
  z4:=Tryd.sizeOf4
  v4:=Tryd.zeroValue4
  t5:=Tryd.underlying5
  a5:=Tryd.isAgg5
  z5:=Tryd.sizeOf5
  v5:=Tryd.zeroValue5
  t9:=Tryd.underlying9
  a9:=Tryd.isAgg9
  z9:=Tryd.sizeOf9
  v9:=Tryd.zeroValue9
  t46:=Tryd.underlying87
  a46:=Tryd.isAgg87
  z46:=Tryd.sizeOf87
  v46:=Tryd.zeroValue87
  t51:=Tryd.underlying133
  a51:=Tryd.isAgg133
  z51:=Tryd.sizeOf133
  v51:=Tryd.zeroValue133
  t146:=Tryd.underlying134
  a146:=Tryd.isAgg134
  z146:=Tryd.sizeOf134
  v146:=Tryd.zeroValue134
  g1:=by kernel_rfl }
open Go.RowKit Go.Lib in
theorem Tryd.strings_Index_one (s : ByteArray) (c : UInt8) (w : World) :
    Calls Tryd.prog 65 #[.string s, .string ⟨#[c]⟩] w fun e w' => e = .returned (.int .i64 (Lib.indexByte s.data.toList c)) ∧ w' = w := Any.strings_Index_one DR s c w
end Go.Proofs
namespace Go.Plb
noncomputable section
set_option linter.unusedSimpArgs false
set_option linter.unusedVariables false
set_option linter.unusedSectionVars false
variable [Rom]
inductive T (α:Type) where
  | fail
  | leaf (a:α)
  | ask (b:Bool) (t f:T α)
  | need (b:Bool) (t:T α)
  | alt (k:Nat) (t e:T α)
def T.run{α:Type} :T α→Option α
  | .fail=>none
  | .leaf a=>some a
  | .ask b t f=>bif b then t.run else f.run
  | .need b t=>bif b then t.run else none
  | .alt _ t e=>match t.run with
    | some a=>some a
    | none=>e.run
structure sm (α:Type) where
  path:List Nat
  obs:List Bool
  val:α
def sm.ask{α:Type}(n:Nat)(b:Bool)(l:sm α) :sm α:=⟨n::l.path,b::l.obs,l.val⟩
def sm.need{α:Type}(b:Bool)(l:sm α) :sm α:=⟨l.path,b::l.obs,l.val⟩
def sm.alt{α:Type}(n:Nat)(l:sm α) :sm α:=⟨n::l.path,l.obs,l.val⟩
def T.leaves{α:Type} :T α→List (sm α)
  | .fail=>[]
  | .leaf a=>[⟨[],[],a⟩]
  | .ask b t f=>t.leaves.map (sm.ask 1 (b==true))++f.leaves.map (sm.ask 0 (b==false))
  | .need b t=>t.leaves.map (sm.need b)
  | .alt k t e=>t.leaves.map (sm.alt k)++e.leaves
theorem kO{α:Type} :∀ (t:T α) {a:α},t.run=some a→∃ l∈t.leaves,l.val=a∧am l.obs
  | .fail,a,h=>by cases h
  | .leaf b,a,h=>by
    simp only [T.run,Option.some.injEq] at h;subst h
    exact ⟨⟨[],[],b⟩,by simp [T.leaves],rfl,trivial⟩
  | .ask b t f,a,h=>by
    simp only [T.run] at h
    cases b with
    | true =>
      simp only [cond_true] at h
      obtain ⟨l,h1,h2,h3⟩:=kO t h
      exact ⟨l.ask 1 (true==true),by simp only [T.leaves,List.mem_append];exact .inl (List.mem_map_of_mem h1),h2,⟨rfl,h3⟩⟩
    | false =>
      simp only [cond_false] at h
      obtain ⟨l,h1,h2,h3⟩:=kO f h
      exact ⟨l.ask 0 (false==false),by simp only [T.leaves,List.mem_append];exact .inr (List.mem_map_of_mem h1),h2,⟨rfl,h3⟩⟩
  | .need b t,a,h=>by
    simp only [T.run] at h
    cases b with
    | true =>
      simp only [cond_true] at h
      obtain ⟨l,h1,h2,h3⟩:=kO t h
      exact ⟨l.need true,by simp only [T.leaves];exact List.mem_map_of_mem h1,h2,⟨rfl,h3⟩⟩
    | false=>cases h
  | .alt k t e,a,h=>by
    simp only [T.run] at h
    split at h
    · rename_i a' ht
      cases h
      obtain ⟨l,h1,h2,h3⟩:=kO t ht
      exact ⟨l.alt k,by simp only [T.leaves,List.mem_append];exact .inl (List.mem_map_of_mem h1),h2,h3⟩
    · obtain ⟨l,h1,h2,h3⟩:=kO e h
      exact ⟨l,by simp only [T.leaves,List.mem_append];exact .inr h1,h2,h3⟩
def rg{α X:Type}(N:α→aG)(E:X→AE×aG) :α⊕X→AE×aG
  | .inl a=>(.normal,N a)
  | .inr x=>E x
def Sg{α X:Type}(P:Program)(lent:List an)(cs:List Code)(st:aG)(m:Option (α⊕X))(N:α→aG)(E:X→AE×aG) :Prop :=
  ∀ r,m=some r→dn P lent cs st fun e st'=>(e,st')=rg N E r
def Kx{α X:Type}(C:oH)(S:qX)(n:Nat)(cs:List Code)(st:aG)(ls:List (sm (α⊕X)))(ks:List NS)(k:Nat) :List (Bool×Option (AE×aG×List Bool)) :=
  List.zipWith (fun l s=>(s.ok k,J5 s (IA (sc C S 12 n) cs st (some l.path)))) ls ks
def HF{α X:Type}(N:α→aG)(E:X→AE×aG)(ls:List (sm (α⊕X))) :List (Bool×Option (AE×aG×List Bool)) :=
  ls.map fun l=>(true,some ((rg N E l.val).1,(rg N E l.val).2,l.obs))
theorem HG{α β γ:Type}{f:α→β→γ}{g:α→γ} :∀ {l:List α} {k:List β},List.zipWith f l k=l.map g→∀ a∈l,∃ b,f a b=g a
  | [],_,_,a,ha=>by cases ha
  | x::l,[],h,a,ha=>by simp at h
  | x::l,y::k,h,a,ha=>by
    simp only [List.zipWith_cons_cons,List.map_cons,List.cons.injEq] at h
    rcases List.mem_cons.1 ha with rfl | ha
    · exact ⟨y,h.1⟩
    · exact HG h.2 a ha
theorem Sg.seg{C:oH}(hC:C.Ok){S:qX}(hS:bC C.P S){lent:List an}{α X:Type}(n:Nat)(cs:List Code)(st:aG)(t:T (α⊕X))(N:α→aG)(E:X→AE×aG)(ks:List NS) 
    (h:Kx C S n cs st t.leaves ks lent.length=HF N E t.leaves):Sg C.P lent cs st t.run N E:=by
  intro r hr
  obtain ⟨l,h1,h2,h3⟩:=kO t hr
  obtain ⟨k,hk⟩:=HG h l h1
  simp only [Prod.mk.injEq] at hk
  obtain ⟨hn,he⟩:=hk
  have:=dn.seg hC hS (lent:=lent) (Q:=fun e st'=>(e,st')=rg N E r) cs.length (some l.path) k (cs:=cs) (st:=st) (by rw [List.take_length];exact he) hn h3
  refine this ?_
  rw [h2,List.drop_length]
  generalize hg:rg N E r=x
  obtain ⟨e,s⟩:=x
  cases e with
  | normal=>exact dn.nil rfl
  | ret=>rfl
  | exit id=>rfl
theorem dn.append{P:Program}{lent:List an}{cs1 cs2:List Code}{st:aG}{Q1 Q:AE→aG→Prop}(h:dn P lent cs1 st Q1)(k:∀ e st',Q1 e st'→BO P lent cs2 e st' Q) :dn P lent (cs1++cs2) st Q:=by
  intro ρ0 w0 hN K hK a w hA
  apply ub
  refine h ρ0 w0 hN _ ?_ a w hA
  intro e st' a' w' q hA'
  have:=k e st' q
  cases e with
  | normal=>exact this ρ0 w0 hN K hK a' w' hA'
  | ret=>exact hK _ _ _ _ this hA'
  | exit id=>exact hK _ _ _ _ this hA'
def ug{X:Type}(E:X→AE×aG) :Prop:=∀ x,(E x).1 ≠ .normal
theorem HH{P:Program}{lent:List an}{cs:List Code}{e:AE}{st:aG}{Q:AE→aG→Prop}(hn:e ≠ .normal)(h:Q e st) :BO P lent cs e st Q:=by
  cases e with
  | normal=>exact (hn rfl).elim
  | ret=>exact h
  | exit id=>exact h
def ch{α β X:Type}(m:Option (α⊕X))(k:α→Option (β⊕X)) :Option (β⊕X) :=
  match m with
  | none=>none
  | some (.inl a)=>k a
  | some (.inr x)=>some (.inr x)
theorem Sg.seq{P:Program}{lent:List an}{α β X:Type}{cs1 cs2:List Code}{st:aG}{m:Option (α⊕X)}{N1:α→aG}{E:X→AE×aG}{k:α→Option (β⊕X)}{N:β→aG}(hE:ug E) 
    (h:Sg P lent cs1 st m N1 E) (hk:∀ a,Sg P lent cs2 (N1 a) (k a) N E):Sg P lent (cs1++cs2) st (ch m k) N E:=by
  intro r hr
  unfold ch at hr
  split at hr
  · cases hr
  · rename_i a
    refine dn.append (h _ rfl) ?_
    intro e st' q
    simp only [rg,Prod.mk.injEq] at q
    obtain ⟨rfl,rfl⟩:=q
    exact hk a r hr
  · rename_i x
    simp only [Option.some.injEq] at hr;subst hr
    refine dn.append (h _ rfl) ?_
    intro e st' q
    simp only [rg] at q
    refine HH ?_ q
    have:=hE x
    rw [←q] at this;exact this
def mU{σ Y:Type}(B:σ→Option (σ⊕Y)) :Nat→σ→Option Y
  | 0,_=>none
  | n+1,s=>match B s with
    | none=>none
    | some (.inl s')=>mU B n s'
    | some (.inr y)=>some y
theorem mV{σ Y:Type}{B:σ→Option (σ⊕Y)} :∀ (n:Nat) {s:σ} {y:Y},mU B n s=some y→∀ m,n≤m→mU B m s=some y
  | 0,s,y,h,_,_=>by cases h
  | n+1,s,y,h,m,hm=>by
    obtain ⟨m',rfl⟩:∃ m',m=m'+1:=⟨m-1,by omega⟩
    simp only [mU] at h ⊢
    split at h
    · cases h
    · exact mV n h m' (by omega)
    · exact h
open Classical in
noncomputable def Ky {σ Y : Type} (B : σ → Option (σ ⊕ Y)) (s : σ) : Option Y :=
  if h : ∃ n y, mU B n s = some y then some h.choose_spec.choose else none
theorem II{σ Y:Type}{B:σ→Option (σ⊕Y)}{s:σ}{y:Y} :Ky B s=some y↔∃ n,mU B n s=some y:=by
  unfold Ky
  constructor
  · intro h
    split at h
    · rename_i q
      simp only [Option.some.injEq] at h
      exact ⟨q.choose,by rw [←h];exact q.choose_spec.choose_spec⟩
    · cases h
  · rintro ⟨n,h⟩
    rw [dif_pos ⟨n,y,h⟩]
    generalize hq:(⟨n,y,h⟩:∃ n y,mU B n s=some y)=q
    have h1:=q.choose_spec.choose_spec
    have a1:=mV n h (max n q.choose) (by omega)
    have a2:=mV _ h1 (max n q.choose) (by omega)
    rw [a1] at a2
    exact a2.symm
noncomputable def ei{σ Y:Type}(B:σ→Option (σ⊕Y))(s:σ) :Option Y :=
  match mU B 1000000000000 s with
  | some y=>some y
  | none=>Ky B s
theorem se{σ Y:Type}{B:σ→Option (σ⊕Y)}{s:σ}{y:Y} :ei B s=some y↔∃ n,mU B n s=some y:=by
  unfold ei
  generalize 1000000000000=k
  cases h:mU B k s with
  | none=>exact II
  | some z =>
    constructor
    · intro e;cases e;exact ⟨k,h⟩
    · rintro ⟨n,hn⟩
      have a1:=mV n hn (max n k) (by omega)
      have a2:=mV _ h (max n k) (by omega)
      rw [a1] at a2
      exact a2.symm
theorem Fi{σ Y:Type}(B:σ→Option (σ⊕Y))(s:σ) :ei B s=match B s with
    | none=>none
    | some (.inl s')=>ei B s'
    | some (.inr y)=>some y:=by
  have key:∀ y,ei B s=some y↔(match B s with | none=>none | some (.inl s')=>ei B s' | some (.inr y)=>some y)=some y:=by
    intro y
    rw [se]
    constructor
    · rintro ⟨n,h⟩
      cases n with
      | zero=>cases h
      | succ n =>
        simp only [mU] at h
        cases q:B s with
        | none=>rw [q] at h;cases h
        | some z=>cases z with
          | inl s'=>rw [q] at h;exact se.2 ⟨n,h⟩
          | inr z=>rw [q] at h;exact h
    · intro h
      split at h<;>rename_i q
      · cases h
      · obtain ⟨n,hn⟩:=se.1 h
        exact ⟨n+1,by simp only [mU,q];exact hn⟩
      · exact ⟨1,by simp only [mU,q];exact h⟩
  generalize (match B s with | none=>none | some (.inl s')=>ei B s' | some (.inr y)=>some y)=x at key
  cases hl:ei B s with
  | none=>cases x with
    | none=>rfl
    | some y=>rw [(key y).2 rfl] at hl;cases hl
  | some y=>rw [hl] at key;exact ((key y).1 rfl).symm
theorem As{σ Y:Type}{B:σ→Option (σ⊕Y)}{s s':σ}(h:B s=some (.inl s')) :ei B s=ei B s':=by rw [Fi,h]
theorem kP{σ Y:Type}{B:σ→Option (σ⊕Y)}{s:σ}{y:Y}(h:B s=some (.inr y)) :ei B s=some y:=by rw [Fi,h]
theorem IJ{σ Y:Type}{B:σ→Option (σ⊕Y)}(G:σ→Prop)(m:σ→Nat)(Q:Y→Prop)(h:∀ s,G s→(∃ s',B s=some (.inl s')∧G s'∧m s'<m s)∨∃ y,B s=some (.inr y)∧Q y) :
    ∀ s,G s→∃ y,ei B s=some y∧Q y:=by
  have key:∀ n s,m s<n→G s→∃ y,ei B s=some y∧Q y:=by
    intro n
    induction n with
    | zero=>intro s q;omega
    | succ n ih =>
      intro s q hs
      rcases h s hs with ⟨s',h1,h2,h3⟩ | ⟨y,h1,h2⟩
      · obtain ⟨y,k1,k2⟩:=ih s' (by omega) h2
        exact ⟨y,by rw [As h1];exact k1,k2⟩
      · exact ⟨y,kP h1,h2⟩
  exact fun s hs=>key _ s (Nat.lt_succ_self _) hs
def jP{ρ X:Type}(id:Nat)(J:ρ→aG)(E:X→AE×aG) :ρ⊕X→AE×aG
  | .inl r=>(.exit id,J r)
  | .inr x=>E x
def vy{X:Type}(id:Nat)(E:X→AE×aG) :Prop:=∀ x,(E x).1 ≠ .exit id
theorem Sg.loop{P:Program}{lent:List an}{σ ρ X:Type}{I:σ→aG}{J:ρ→aG}{E:X→AE×aG}{B:σ→Option (σ⊕(ρ⊕X))}{id:Nat}{b:Code}(hE:ug E)(hI:vy id E) 
    (hb:∀ s,Sg P lent (dW b) (I s) (B s) I (jP id J E)) (s:σ):Sg P lent [.block id (.loop b)] (I s) (ei B s) J E:=by
  intro y hy
  obtain ⟨n,hn⟩:=se.1 hy

  have:=dn.loop (P:=P) (lent:=lent) (id:=id) (b:=b) (rest:=[]) (Q:=fun e st'=>(e,st')=rg J E y) (σ:=Nat×σ) (fun s=>I s.2) (fun s=>mU B s.1 s.2=some y) (fun s=>s.1) rfl (fun s hs=>?_) (n,s) hn
  · exact this
  · obtain ⟨n,s⟩:=s
    simp only at hs ⊢
    cases n with
    | zero=>cases hs
    | succ n =>
      simp only [mU] at hs
      split at hs
      · cases hs
      · rename_i s' hB
        refine (hb s _ hB).mono ?_
        intro e st' q
        simp only [rg,Prod.mk.injEq] at q
        obtain ⟨rfl,rfl⟩:=q
        exact ⟨(n,s'),hs,by simp,rfl⟩
      · rename_i y' hB
        simp only [Option.some.injEq] at hs;subst hs
        refine (hb s _ hB).mono ?_
        intro e st' q
        cases y' with
        | inl r =>
          simp only [rg,jP,Prod.mk.injEq] at q
          obtain ⟨rfl,rfl⟩:=q
          simp only [vt,if_true]
          exact dn.nil rfl
        | inr x =>
          simp only [rg,jP] at q
          have h1:=hE x
          have h2:=hI x
          rw [←q] at h1 h2
          simp only at h1 h2
          cases e with
          | normal=>exact (h1 rfl).elim
          | ret=>exact q
          | exit j =>
            have hj : ¬ j=id:=fun h=>h2 (by rw [h])
            simp only [vt,hj,if_false]
            exact q
def sW{κ X:Type}(m:Option (κ⊕(κ⊕X))) :Option (κ⊕X) :=
  match m with
  | none=>none
  | some (.inl a)=>some (.inl a)
  | some (.inr (.inl a))=>some (.inl a)
  | some (.inr (.inr x))=>some (.inr x)
theorem Sg.block{P:Program}{lent:List an}{κ X:Type}{K:κ→aG}{E:X→AE×aG}{m:Option (κ⊕(κ⊕X))}{id:Nat}{b:Code}{st:aG}(hE:ug E)(hI:vy id E) 
    (hb:Sg P lent (dW b) st m K (jP id K E)):Sg P lent [.block id b] st (sW m) K E:=by
  intro r hr
  unfold sW at hr
  refine dn.block (rest:=[]) rfl ?_
  split at hr
  · cases hr
  · simp only [Option.some.injEq] at hr;subst hr
    refine (hb _ rfl).mono ?_
    intro e st' q
    simp only [rg,Prod.mk.injEq] at q
    obtain ⟨rfl,rfl⟩:=q
    exact dn.nil rfl
  · simp only [Option.some.injEq] at hr;subst hr
    refine (hb _ rfl).mono ?_
    intro e st' q
    simp only [rg,jP,Prod.mk.injEq] at q
    obtain ⟨rfl,rfl⟩:=q
    simp only [if_true]
    exact dn.nil rfl
  · rename_i x
    simp only [Option.some.injEq] at hr;subst hr
    refine (hb _ rfl).mono ?_
    intro e st' q
    simp only [rg,jP] at q
    have h1:=hE x
    have h2:=hI x
    rw [←q] at h1 h2
    simp only at h1 h2
    cases e with
    | normal=>exact (h1 rfl).elim
    | ret=>exact q
    | exit j =>
      have hj : ¬ j=id:=fun h=>h2 (by rw [h])
      simp only [hj,if_false]
      exact q
theorem Sg.scope{P:Program}{lent:List an}{α X:Type}{N:α→aG}{E:X→AE×aG}{m:Option (α⊕X)}{b:Code}{st:aG}(hE:ug E)(hb:Sg P lent (dW b) st m N E) :Sg P lent [.scope b] st m N E:=by
  intro r hr
  refine dn.scope (rest:=[]) rfl ((hb r hr).mono ?_)
  intro e st' q
  cases r with
  | inl a =>
    simp only [rg,Prod.mk.injEq] at q
    obtain ⟨rfl,rfl⟩:=q
    exact dn.nil rfl
  | inr x =>
    refine HH ?_ q
    have:=hE x
    simp only [rg] at q
    rw [←q] at this;exact this
theorem Fj{k:Nat}{ρ0:ae}{w0:World}{st:aG}{a:Act}{w:World}{c:Operand}{b kn:Bool}(h:At k ρ0 w0 st a w)(hc:Ha st.tmps c=.bool kn b) :At k ρ0 w0 { st with tmps:=kf st.tmps c b } a w∧a.eval c=.bool b:=by
  obtain ⟨ρ,E,W,hs,hbk,hle⟩:=h
  have hb:a.eval c=.bool b:=by
    have:=qH hs.heap.rom hs.tmps c
    rw [hc] at this
    generalize a.eval c=z at this
    cases this;rfl
  refine ⟨⟨ρ,E,W,⟨hs.defers,?_,hs.heap⟩,hbk,hle⟩,hb⟩
  cases c with
  | tmp t =>
    simp only [kf,rP]
    have:bc ρ w (st.tmps.set t (.bool true b)) (a.tmps.toList.set t (.bool b)):=hs.tmps.set (.bool _ _) t
    have e:a.tmps.toList.set t (.bool b)=a.tmps.toList:=by
      apply List.ext_getElem?
      intro j
      rw [List.getElem?_set]
      split
      · rename_i q;subst q
        split
        · rename_i hlt
          simp only [Act.eval] at hb
          rw [Array.getD_eq_getD_getElem?] at hb
          have hlt':t<a.tmps.size:=by simpa using hlt
          rw [Array.getElem?_eq_getElem hlt'] at hb
          simp only [Option.getD_some] at hb
          simp [hlt',hb]
        · rename_i hge
          rw [List.getElem?_eq_none (by omega)]
      · rfl
    rw [e] at this;exact this
  | const v=>exact hs.tmps
  | global g=>exact hs.tmps
  | func f=>exact hs.tmps
theorem Sg.cond{P:Program}{lent:List an}{α X:Type}{N:α→aG}{E:X→AE×aG}{m1 m2:Option (α⊕X)}{c:Operand}{A B:Code}{st:aG}{kn b:Bool}(hE:ug E)(hc:Ha st.tmps c=.bool kn b) 
    (h1:Sg P lent (dW A) { st with tmps:=kf st.tmps c true } m1 N E) (h2:Sg P lent (dW B) { st with tmps:=kf st.tmps c false } m2 N E):Sg P lent [.cond c A B] st (bif b then m1 else m2) N E:=by
  intro r hr
  intro ρ0 w0 hN K hK a w hA
  simp only [Bx]
  obtain ⟨hA',hb⟩:=Fj hA hc
  refine wp_cond hb ?_
  have fin:∀ (D:Code) (m:Option (α⊕X)) (st1:aG),Sg P lent (dW D) st1 m N E→m=some r→At lent.length ρ0 w0 st1 a w→D.wp P (fun e a' w'=>match e with | .normal=>K .normal a' w' | e=>K e a' w') a w:=by
    intro D m st1 hS hm hA1
    refine pC D (hS r hm ρ0 w0 hN _ ?_ a w hA1)
    intro e st' a' w' q hA2
    cases e with
    | normal=>exact hK .normal st' a' w' q hA2
    | ret=>exact hK .ret st' a' w' q hA2
    | exit id=>exact hK (.exit id) st' a' w' q hA2
  cases b with
  | true=>exact fin A m1 _ h1 hr hA'
  | false=>exact fin B m2 _ h2 hr hA'
theorem Sg.pre{P:Program}{lent:List an}{α X:Type}{N:α→aG}{E:X→AE×aG}{m:Option (α⊕X)}{cs:List Code}{st st1:aG}(s:NS)(hn:s.ok lent.length=true)(h1:s.on st=st1)(h:Sg P lent cs st1 m N E) :Sg P lent cs st m N E :=
  fun r hr=>dn.weak (by rw [←h1];exact J4 hn st) (h r hr)
def Au{X:Type} :Option (Empty⊕X)→Option X
  | some (.inr x)=>some x
  | _=>none
theorem Sg.contract{P:Program}{f:FuncId}{fn:Func}{c:Code}{X:Type}{N:Empty→aG}{E:X→AE×aG}{m:Option (Empty⊕X)}{lent:List an}{args:List AV}(keep:Bool)(o:X→nE)(hf:P.funcs[f]? = some fn)(hc:fn.body=some c) 
    (h:Sg P lent (dW c) (nH fn lent args) m N E) (hE:∀ x,Hu P fn lent.length keep (o x) (E x).1 (E x).2) {x:X} (hx:Au m=some x):ao P f lent args (o x):=by
  unfold Au at hx
  split at hx
  · rename_i x'
    simp only [Option.some.injEq] at hx;subst hx
    refine dn.contract (keep:=keep) hf hc ((h _ rfl).mono ?_)
    intro e st' q
    simp only [rg] at q
    have:=hE x'
    rw [←q] at this;exact this
  · cases hx
end
end Go.Plb
namespace Go.Plb
set_option linter.unusedSectionVars false
variable [Rom]
theorem eT{ρ X:Type}{id:Nat}{J:ρ→aG}{E:X→AE×aG}(h:ug E) :ug (jP id J E):=by
  intro x
  cases x with
  | inl r=>intro q;cases q
  | inr x=>exact h x
def pH:Code→Code
  | .block _ (.loop b)=>b
  | _=>.skip
def inBlock:Code→Code
  | .block _ b=>b
  | _=>.skip
def HI:Code→Code
  | .scope b=>b
  | _=>.skip
def Kz:Code→Code
  | .cond _ a _=>a
  | _=>.skip
def KA:Code→Code
  | .cond _ _ b=>b
  | _=>.skip
theorem Sg.cut{P:Program}{lent:List an}{α β X:Type}{cs:List Code}{st:aG}{m:Option (α⊕X)}{N1:α→aG}{E:X→AE×aG}{k:α→Option (β⊕X)}{N:β→aG}(n:Nat)(hE:ug E) 
    (h:Sg P lent (cs.take n) st m N1 E) (hk:∀ a,Sg P lent (cs.drop n) (N1 a) (k a) N E):Sg P lent cs st (ch m k) N E:=by
  have:=Sg.seq hE h hk
  rwa [List.take_append_drop] at this
theorem Cz{P:Program}{lent:List an}{σ ρ X:Type}{I:σ→aG}{J:ρ→aG}{E:X→AE×aG}{B:σ→Option (σ⊕(ρ⊕X))}{id:Nat}{b:Code}{cs:List Code}(hcs:cs=[.block id (.loop b)])(hE:ug E)(hI:vy id E) 
    (hb:∀ s,Sg P lent (dW b) (I s) (B s) I (jP id J E)) (s:σ):Sg P lent cs (I s) (ei B s) J E:=by rw [hcs];exact Sg.loop hE hI hb s
theorem GD{P:Program}{lent:List an}{κ X:Type}{K:κ→aG}{E:X→AE×aG}{m:Option (κ⊕(κ⊕X))}{id:Nat}{b:Code}{st:aG}{cs:List Code}(hcs:cs=[.block id b])(hE:ug E)(hI:vy id E) 
    (hb:Sg P lent (dW b) st m K (jP id K E)):Sg P lent cs st (sW m) K E:=by rw [hcs];exact Sg.block hE hI hb
theorem GE{P:Program}{lent:List an}{α X:Type}{N:α→aG}{E:X→AE×aG}{m:Option (α⊕X)}{b:Code}{st:aG}{cs:List Code}(hcs:cs=[.scope b])(hE:ug E)(hb:Sg P lent (dW b) st m N E) :Sg P lent cs st m N E:=by
  rw [hcs];exact Sg.scope hE hb
theorem CA{P:Program}{lent:List an}{α X:Type}{N:α→aG}{E:X→AE×aG}{m1 m2:Option (α⊕X)}{c:Operand}{A B:Code}{st:aG}{kn b:Bool}{cs:List Code}(hcs:cs=[.cond c A B])(hE:ug E)(hc:Ha st.tmps c=.bool kn b) 
    (h1:Sg P lent (dW A) { st with tmps:=kf st.tmps c true } m1 N E) (h2:Sg P lent (dW B) { st with tmps:=kf st.tmps c false } m2 N E):Sg P lent cs st (bif b then m1 else m2) N E:=by rw [hcs];exact Sg.cond hE hc h1 h2
end Go.Plb
namespace Go.Plb.Seat
open Go Go.Plb
set_option linter.unusedSimpArgs false
set_option linter.unusedVariables false
noncomputable abbrev E0:qX:=bG []
def L1:List aU:=[]
def S1:qX:=bG L1
theorem Nx:bC prog S1:=ud _
end Go.Plb.Seat
namespace Go.Plb.Seat
open Go Go.Plb
set_option linter.unusedSimpArgs false
set_option linter.unusedVariables false
set_option maxRecDepth 100000
def ek(n:Nat) :Bool:=Nat.ble n 1000000000
noncomputable def L2:List aU:=L1
theorem Ny:bC prog (bG L2):=Nx
end Go.Plb.Seat
namespace Go.Plb.Seat
open Go Go.Plb
set_option linter.unusedSimpArgs false
set_option linter.unusedVariables false
theorem ao.nan{f:FuncId}{g:Nat→nE}{r:nE}(h:∀ n:Nat,ao prog f [] [.int .u64 (n:Int)] (g n))(e:∀ n:Nat,isNaN n=true→g n=r) :ao prog f [] [.nan] r:=by
  intro ρ w us hN hv
  cases hv with | cons _ u _ _ h1 h2 =>
  cases h2
  cases h1 with | nan n hn =>
  rw [←e n hn]
  exact h n ρ w _ hN (.cons _ _ _ _ (.int _ _) .nil)
noncomputable def L3:List aU:=L2
theorem Oi:bC prog (bG L3):=Ny
end Go.Plb.Seat
namespace Go.Plb.Seat
noncomputable section
open Go Go.Plb
set_option linter.unusedVariables false
set_option maxRecDepth 100000
theorem eL{S:qX}(hS:bC prog S){lent:List an}{α X:Type}{cs:List Code}{st:aG}{t:T (α⊕X)}(N:α→aG){E:X→AE×aG}(ks:List NS) 
    (h:Kx C0 S 60 cs st t.leaves ks lent.length=HF N E t.leaves:=by kernel_rfl):Sg prog lent cs st t.run N E:=Sg.seg Mu hS 60 cs st t N E ks h
theorem Nz{lent:List an}{σ ρ X:Type}{cs:List Code}{st:aG}{E:X→AE×aG}{B:σ→Option (σ⊕(ρ⊕X))}{ent:σ}(s:NS)(I:σ→aG)(J:ρ→aG)(id:Nat)(hE:ug E)(hI:vy id E) 
    (hb:∀ a,Sg prog lent (dW (pH (cs.headD .skip))) (I a) (B a) I (jP id J E)) (hn:s.ok lent.length=true:=by exact rfl) (h1:s.on st=I ent:=by kernel_rfl) (hcs:cs=[.block id (.loop (pH (cs.headD .skip)))]:=by kernel_rfl) :
    Sg prog lent cs st (ei B ent) J E:=Sg.pre s hn h1 (Cz hcs hE hI hb ent)
theorem Oj{lent:List an}{κ X:Type}{cs:List Code}{st:aG}{E:X→AE×aG}{m:Option (κ⊕(κ⊕X))}(K:κ→aG)(id:Nat)(hE:ug E)(hI:vy id E) 
    (hb:Sg prog lent (dW (inBlock (cs.headD .skip))) st m K (jP id K E)) (hcs:cs=[.block id (inBlock (cs.headD .skip))]:=by kernel_rfl):Sg prog lent cs st (sW m) K E:=GD hcs hE hI hb
def Av:Empty→aG:=fun a=>a.elim
theorem uh{fn:Func}{k:Nat}{keep:Bool}{o:nE}{st:aG}(vs:List AV)(h1:eQ prog fn st fn.results.toList=some (vs,[]):=by kernel_rfl)(h2:zW k keep st.heap (wN vs)=some o:=by kernel_rfl) :Hu prog fn k keep o .ret st :=
  ⟨.inr rfl,vs,[],h1,trivial,h2⟩
theorem DS{f:FuncId}{X:Type}{m:Option (Empty⊕X)}{lent:List an}{args:List AV}{x:X}(keep:Bool)(o:X→nE)(E:X→AE×aG)(hx:Au m=some x) 
    (h:Sg prog lent (dW (yq f)) (nH (FN f) lent args) m Av E) (hE:∀ x,Hu prog (FN f) lent.length keep (o x) (E x).1 (E x).2)
    (hf:prog.funcs[f]? = some (FN f):=by kernel_rfl) (hc:(FN f).body=some (yq f):=by kernel_rfl):ao prog f lent args (o x) :=
  Sg.contract (P:=prog) (f:=f) (fn:=FN f) (c:=yq f) (N:=Av) (E:=E) (lent:=lent) (args:=args) keep o hf hc h hE hx
end
end Go.Plb.Seat
namespace Go.Plb.Seat
open Go Go.Plb
noncomputable def NA:List aU:=[]
theorem yX:bC prog (bG NA):=ud prog
end Go.Plb.Seat
namespace Go.Plb.Seat
open Go Go.Plb
set_option linter.unusedVariables false
set_option maxRecDepth 100000
noncomputable section
inductive cF where
  | r0 (s5:ByteArray)
def nO:cF→AE×aG
  | .r0 s5=>(.ret,⟨aF 20 [(2,.str s5)],[],0⟩)
theorem pK:ug nO:=by intro x;cases x<;>(intro h;cases h)
theorem DT(id:Nat) :vy id nO:=by intro x;cases x<;>(intro h;cases h)
def rh:cF→nE
  | .r0 s5=>⟨.str s5,[]⟩
noncomputable def DU:List Code:=dW (yq lE)
def DV(w_0:Int)(l1:(List Int)) :aG:=⟨aF 20 [(0,.int .u64 w_0),(3,.ptr 0 1 0 0),(5,.int .i64 (0:Int))],[(0,.ns .u8 l1)],1⟩
def DW:T (((List Int))⊕(cF)) :=
  .leaf (.inl [(0:Int),(0:Int),(0:Int),(0:Int),(0:Int),(0:Int),(0:Int),(0:Int),(0:Int),(0:Int),(0:Int),(0:Int),(0:Int),(0:Int),(0:Int),(0:Int)])
def my(w_0:Int) :Nat×(List Int)→aG:=fun (a2,l3)=>⟨aF 20 [(0,.int .u64 w_0),(3,.ptr 0 1 0 0),(5,.int .i64 ((a2:Nat):Int))],[(0,.ns .u8 l3)],1⟩
def vz(l4:(List Int)) :aG:=⟨aF 20 [(3,.ptr 0 1 0 0)],[(0,.ns .u8 l4)],1⟩
noncomputable def DX:List Code:=dW (pH ((((DU.drop 3).take 1)).headD .skip))
def pL(w_0:Int)(a2:Nat)(l3:List Int) :T ((Nat×(List Int))⊕(((List Int))⊕(cF))) :=
  .ask (decide (((a2:Nat):Int)<(16:Int)))
    (.need (kJ .i64 (((4*a2):Nat):Int))<|.need (kJ .i64 ((60:Int)-(((4*a2):Nat):Int)))<|.need (decide ((0:Int)≤((60:Int)-(((4*a2):Nat):Int))))<|.need (yh (ze .and .u64 (Int.fdiv w_0 (2^(min (Int.toNat ((60:Int)-(((4*a2):Nat):Int))) (IntKind.u64.bits)))) (15:Int)) (ByteArray.mk #[48,49,50,51,52,53,54,55,56,57,65,66,67,68,69,70]).size)<|.need (yh ((a2:Nat):Int) 16)<|.need (nv (cJ (cJ 0 (yj a2 1)) 0) (List.length l3))<|.need (kJ .i64 (((a2+1):Nat):Int))<|.leaf (.inl ((a2+1),(List.set l3 (cJ (cJ 0 (yj a2 1)) 0) (bF (ByteArray.mk #[48,49,50,51,52,53,54,55,56,57,65,66,67,68,69,70]) (Int.toNat (ze .and .u64 (Int.fdiv w_0 (2^(min (Int.toNat ((60:Int)-(((4*a2):Nat):Int))) (IntKind.u64.bits)))) (15:Int))))))))
    (.leaf (.inr (.inl l3)))
noncomputable def jq(w_0:Int) :Nat×(List Int)→Option ((Nat×(List Int))⊕(((List Int))⊕(cF))):=fun (a2,l3) =>
  (pL w_0 a2 l3).run
theorem BU(w_0:Int)(a2:Nat)(l3:List Int) :Sg prog [] DX (my w_0 (a2,l3)) (jq w_0 (a2,l3)) (my w_0) (jP 0 vz nO):=by
  unfold jq;exact eL yX (my w_0) [⟨[],[0],[0,3,5]⟩,⟨[],[0],[3]⟩]
def sX(l4:List Int) :T ((Empty)⊕(cF)) :=
  .need (lU (16:Int) 16)<|.need (lU (0:Int) 16)<|.need (kF 16 (List.length l4))<|.need (kF 16 (List.length l4))<|.leaf (.inr (.r0 (jN (List.take 16 l4))))
noncomputable def nP(w_0:Int) :Option cF:=Au (ch ((DW).run) fun l1 =>
  ch (ei (jq w_0) (0,l1)) fun l4 =>
  (sX l4).run)
theorem vA(w_0:Int){x:cF}(h:nP w_0=some x) :ao prog lE [] [.int .u64 w_0] (rh x) :=
  DS false rh nO h (Sg.cut 3 pK (eL yX (DV w_0) [⟨[],[16],[0,3,5]⟩]) (fun l1=>Sg.cut 1 pK (Nz ⟨[],[0],[0,3,5]⟩ (my w_0) (vz) 0 pK (DT _) (fun ⟨a2,l3⟩=>BU w_0 a2 l3)) (fun l4=>eL yX Av [⟨[],[],[2]⟩])))
    (fun x=>by cases x with | r0 s5=>exact uh [.str s5])
def pM:Option cF→Bool
  | some _=>true
  | none=>false
def ri:Option cF→ByteArray
  | some (.r0 x)=>x
  | _=>ByteArray.empty
theorem DY{x:Option cF}(h:pM x=true) :x=some (.r0 (ri x)):=by
  unfold pM at h
  split at h<;>first | rfl | (cases h;done) | (rename_i y;cases y;rfl)
noncomputable def xX:aU:=eh lE (.cons (.int .u64) .nil) fun t=>(fun q=>[⟨rh (.r0 (ri q)),[pM q]⟩]) (nP t.1)
theorem Aw:bm prog xX:=bA fun t=>(bQ (fun h=>vA t.1 (DY h)) cC)
noncomputable def Fk:List aU:=xX::NA
theorem KB:bC prog (bG Fk):=aE Aw yX
end
end Go.Plb.Seat
namespace Go.Plb
set_option linter.unusedSimpArgs false
set_option linter.unusedVariables false
set_option linter.unusedSectionVars false
variable [Rom]
theorem aC{α:Type}{b:Bool}{t:T α}{x:Option α}(h:b=true)(k:t.run=x) :(T.need b t).run=x:=by subst h;exact k
theorem lF{α:Type}{b:Bool}{t f:T α}{x:Option α}(h:b=true)(k:t.run=x) :(T.ask b t f).run=x:=by subst h;exact k
theorem lG{α:Type}{b:Bool}{t f:T α}{x:Option α}(h:b=false)(k:f.run=x) :(T.ask b t f).run=x:=by subst h;exact k
theorem rj{α:Type}{k:Nat}{t f:T α}{a:α}(h:t.run=some a) :(T.alt k t f).run=some a:=by simp only [T.run,h]
theorem pN{α:Type}{k:Nat}{t f:T α}{x:Option α}(h:t.run=none)(q:f.run=x) :(T.alt k t f).run=x:=by simp only [T.run,h];exact q
theorem pO{α:Type}{b:Bool}{t:T α}(h:b=false) :(T.need b t).run=none:=by subst h;rfl
theorem bB{α:Type}{b:Bool}{t:T α}{x:Option α}(k:t.run=x)(h:b=true:=by exact rfl) :(T.need b t).run=x:=aC h k
theorem bo{α:Type}{b:Bool}{t f:T α}{x:Option α}(k:t.run=x)(h:b=true:=by exact rfl) :(T.ask b t f).run=x:=lF h k
theorem dK{α:Type}{b:Bool}{t f:T α}{x:Option α}(k:f.run=x)(h:b=false:=by exact rfl) :(T.ask b t f).run=x:=lG h k
theorem ay{α β X:Type}{m:Option (α⊕X)}{k:α→Option (β⊕X)}{a:α}{x:Option (β⊕X)}(h:m=some (.inl a))(q:k a=x) :ch m k=x:=by subst h;exact q
theorem dY{α β X:Type}{m:Option (α⊕X)}{k:α→Option (β⊕X)}{y:X}(h:m=some (.inr y)) :ch m k=some (.inr y):=by subst h;rfl
theorem Fl{κ X:Type}{m:Option (κ⊕(κ⊕X))}{a:κ}(h:m=some (.inl a)) :sW m=some (.inl a):=by subst h;rfl
theorem IK{κ X:Type}{m:Option (κ⊕(κ⊕X))}{a:κ}(h:m=some (.inr (.inl a))) :sW m=some (.inl a):=by subst h;rfl
theorem oN{κ X:Type}{m:Option (κ⊕(κ⊕X))}{a:X}(h:m=some (.inr (.inr a))) :sW m=some (.inr a):=by subst h;rfl
theorem cN{X:Type}{m:Option (Empty⊕X)}{x:X}(h:m=some (.inr x)) :Au m=some x:=by subst h;rfl
theorem IL{σ Y:Type}{B:σ→Option (σ⊕Y)}(st:Nat→σ)(n:Nat){y:Y}(i:Nat)(hi:i≤n)(step:∀ j,i≤j→j<n→B (st j)=some (.inl (st (j+1))))(done:B (st n)=some (.inr y)) :ei B (st i)=some y:=by
  obtain ⟨d,rfl⟩:∃ d,n=i+d:=⟨n-i,by omega⟩
  clear hi
  induction d generalizing i with
  | zero=>exact kP done
  | succ d ih =>
    rw [As (step i (Nat.le_refl _) (by omega))]
    have e:i+(d+1)=i+1+d:=by omega
    rw [e] at step done
    exact ih (i+1) (fun j h1 h2=>step j (by omega) h2) done
theorem vB{σ Y:Type}{B:σ→Option (σ⊕Y)}(st:Nat→σ)(n:Nat){y:Y}{s0:σ}(h0:s0=st 0)(step:∀ j,j<n→B (st j)=some (.inl (st (j+1))))(done:B (st n)=some (.inr y)) :ei B s0=some y:=by
  rw [h0];exact IL st n 0 (Nat.zero_le _) (fun j _=>step j) done
theorem bV{n:Int} :kJ .i64 n=true↔-9223372036854775808≤n∧n≤9223372036854775807:=by
  have e1:IntKind.i64.min = -9223372036854775808:=by decide
  have e2:IntKind.i64.max=9223372036854775807:=by decide
  simp only [kJ,e1,e2,Bool.and_eq_true,decide_eq_true_eq]
theorem xY{k:Int}{n:Nat} :yh k n=true↔0≤k∧k<n:=by simp only [yh,Bool.and_eq_true,decide_eq_true_eq]
theorem mh{k:Int}{n:Nat} :lU k n=true↔0≤k∧k≤n:=by simp only [lU,Bool.and_eq_true,decide_eq_true_eq]
theorem mz{k n:Nat} :nv k n=true↔k<n:=by simp [nv]
theorem dD{k n:Nat} :kF k n=true↔k≤n:=by simp [kF]
theorem DZ{k n:Nat} :Nat.ble k n=true↔k≤n:=by rw [Nat.ble_eq]
theorem HJ{k n:Nat} :Nat.blt k n=true↔k<n:=by rw [Nat.blt_eq]
def BV{α:Type}(pos:Nat→Nat)(val:Nat→α)(l:List α) :Nat→List α
  | 0=>l
  | n+1=>(BV pos val l n).set (pos n) (val n)
theorem vC{α:Type}{pos:Nat→Nat}{val:Nat→α}{l:List α} :∀ {n:Nat},(BV pos val l n).length=l.length
  | 0=>rfl
  | n+1=>by simp only [BV,List.length_set];exact vC
theorem KC{α:Type}(l:List α) :ue 0 l.length l=true:=by rw [oI];omega
theorem NB{α:Type}{b:Bool}{t:T α}{x:Option α}(k:t.run=x)(h:b=true:=by exact KC _) :(T.need b t).run=x:=aC h k
theorem KD(n:Nat) :kF n n=true:=by rw [dD];exact Nat.le_refl n
theorem LG{α:Type}{n:Nat}{l:List α}(h:l.length=n) :ba 0 n l=l:=by rw [←h];exact Ak l
def Ee{α:Type}(m:Option α)(Q:α→Prop) :Prop:=∃ r,m=some r∧Q r
theorem Ee.mono{α:Type}{m:Option α}{Q R:α→Prop}(h:Ee m Q)(k:∀ r,Q r→R r) :Ee m R:=by
  obtain ⟨r,a,b⟩:=h
  exact ⟨r,a,k r b⟩
def T.wp{α:Type}(Q:α→Prop) :T α→Prop
  | .fail=>False
  | .leaf a=>Q a
  | .ask b t f=>(b=true→t.wp Q)∧(b=false→f.wp Q)
  | .need b t=>b=true∧t.wp Q
  | .alt _ t e=>t.wp Q∨(t.run=none∧e.wp Q)
theorem Ee.seq{α β X:Type}{m:Option (α⊕X)}{k:α→Option (β⊕X)}{N:β→Prop}{E:X→Prop}(h:Ee m (Sum.elim (fun a=>Ee (k a) (Sum.elim N E)) E)) :Ee (ch m k) (Sum.elim N E):=by
  obtain ⟨r,a,b⟩:=h
  cases r with
  | inl x =>
    obtain ⟨r',a',b'⟩:=b
    exact ⟨r',ay a a',b'⟩
  | inr x=>exact ⟨.inr x,dY a,b⟩
theorem Ee.join{κ X:Type}{m:Option (κ⊕(κ⊕X))}{N:κ→Prop}{E:X→Prop}(h:Ee m (Sum.elim N (Sum.elim N E))) :Ee (sW m) (Sum.elim N E):=by
  obtain ⟨r,a,b⟩:=h
  rcases r with x | x | x
  · exact ⟨.inl x,Fl a,b⟩
  · exact ⟨.inl x,IK a,b⟩
  · exact ⟨.inr x,oN a,b⟩
theorem Ee.loop{σ Y:Type}{B:σ→Option (σ⊕Y)}(I:σ→Prop)(m:σ→Nat){Q:Y→Prop}{s:σ}(h0:I s)(h:∀ s,I s→Ee (B s) (Sum.elim (fun s'=>I s'∧m s'<m s) Q)) :Ee (ei B s) Q:=by
  obtain ⟨y,a,b⟩:=IJ I m Q (fun s hs=>by
    obtain ⟨r,a,b⟩:=h s hs
    cases r with
    | inl x=>exact .inl ⟨x,a,b.1,b.2⟩
    | inr y=>exact .inr ⟨y,a,b⟩) s h0
  exact ⟨y,a,b⟩
theorem Ee.map{α R:Type}{m:Option α}{g:α→R}{E:R→Prop}(h:Ee m fun a=>E (g a)) :Ee (Option.map g m) E:=by
  obtain ⟨r,a,b⟩:=h
  exact ⟨g r,by rw [a];rfl,b⟩
theorem Ee.some{α:Type}{a:α}{Q:α→Prop}(h:Q a) :Ee (some a) Q:=⟨a,rfl,h⟩
end Go.Plb
namespace Go.Plb.Seat
open Go Go.Plb
set_option linter.unusedSimpArgs false
set_option linter.unusedVariables false
set_option maxRecDepth 100000
def mW:ByteArray:=ByteArray.mk #[48,49,50,51,52,53,54,55,56,57,65,66,67,68,69,70]
def dg(w:Int)(j:Nat) :Nat:=((Int.fdiv w (2^(60-4*j)))%16).toNat
theorem KE(w:Int)(j:Nat) :dg w j<16:=by unfold dg;omega
def Ax(w:Int) :List Int:=(List.range 16).map fun j=>bF mW (dg w j)
def bd(w:Int) :ByteArray:=jN (Ax w)
theorem MP(x:Int) :ze .and .u64 x (15:Int)=(x%16):=by
  have e:ze .and .u64 x (15:Int)=IntKind.u64.wrap ((BitVec.ofInt 64 x &&& BitVec.ofInt 64 15).toNat:Int):=rfl
  rw [e,BitVec.toNat_and]
  have h15:(BitVec.ofInt 64 15).toNat=15:=by decide
  rw [h15]
  have hm:∀ n:Nat,n &&& 15=n%16:=fun n=>Nat.and_two_pow_sub_one_eq_mod n 4
  rw [hm]
  have hx:(BitVec.ofInt 64 x).toNat=(x%18446744073709551616).toNat:=by rw [BitVec.toNat_ofInt];rfl
  rw [hx]
  have:IntKind.u64.wrap (((x%18446744073709551616).toNat%16:Nat):Int)=(((x%18446744073709551616).toNat%16:Nat):Int):=by
    show ((((x%18446744073709551616).toNat%16:Nat):Int)%18446744073709551616)=_
    omega
  rw [this]
  omega
theorem LH(w:Int){j:Nat}(hj:j<16) :ze .and .u64 (Int.fdiv w (2^(min (Int.toNat ((60:Int)-(((4*j):Nat):Int))) (IntKind.u64.bits)))) (15:Int)=((dg w j:Nat):Int):=by
  rw [MP]
  have e:min (Int.toNat ((60:Int)-(((4*j):Nat):Int))) (IntKind.u64.bits)=60-4*j:=by
    have:IntKind.u64.bits=64:=rfl
    rw [this];omega
  rw [e]
  unfold dg
  omega
theorem CB{α:Type}(val:Nat→α)(l:List α) :∀ (n:Nat),n≤l.length→List.take n (BV (fun j=>j) val l n)=(List.range n).map val
  | 0,_=>rfl
  | n+1,h=>by
    have ih:=CB val l n (by omega)
    have hl:(BV (fun j=>j) val l n).length=l.length:=vC
    simp only [BV]
    rw [List.take_add_one,List.take_set_of_le (Nat.le_refl _),ih,List.getElem?_set,if_pos rfl,if_pos (by omega),List.range_succ,List.map_append]
    rfl
theorem D0(w:Int) :nP w=some (.r0 (bd w)):=by
  unfold nP
  refine cN (ay rfl (ay (a:=BV (fun j=>j) (fun j=>bF mW (dg w j)) (List.replicate 16 (0:Int)) 16) (vB (fun j=>(j,BV (fun j=>j) (fun j=>bF mW (dg w j)) (List.replicate 16 (0:Int)) j)) 16 rfl (fun j hj=>?_) ?_) ?_))
  · simp only [jq,pL]
    have hl:(BV (fun j=>j) (fun j=>bF mW (dg w j)) (List.replicate 16 (0:Int)) j).length=16:=by rw [vC];rfl
    have hd:=KE w j
    have ha:cJ (cJ 0 (yj j 1)) 0=j:=by cases j<;>simp [cJ,yj]
    rw [LH w hj,ha,hl]
    refine lF (by simp;omega) (aC (by rw [bV];omega) (aC (by rw [bV];omega) (aC (by simp;omega) (aC ?_ (aC (by rw [xY];omega) (aC (by rw [mz];omega) (aC (by rw [bV];omega) rfl)))))))
    rw [xY]
    exact ⟨by omega,by show ((dg w j:Nat):Int)<((16:Nat):Int);omega⟩
  · simp only [jq,pL]
    exact lG (by simp) rfl
  · simp only [sX]
    have hl:(BV (fun j=>j) (fun j=>bF mW (dg w j)) (List.replicate 16 (0:Int)) 16).length=16:=by rw [vC];rfl
    rw [hl]
    refine aC (by decide) (aC (by decide) (aC (by decide) (aC (by decide) ?_)))
    rw [CB _ _ 16 (by decide)]
    rfl
theorem KF(w:Int) :ao prog lE [] [.int .u64 w] ⟨.str (bd w),[]⟩:=vA w (D0 w)
end Go.Plb.Seat
namespace Go.Plb.Seat
open Go Go.Plb Go.Proofs Go.RowKit
set_option maxRecDepth 100000
set_option linter.unusedSimpArgs false
set_option linter.unusedVariables false
theorem xZ(s:ByteArray)(pos:Nat)(h:pos<s.size) :1≤(Utf8.decode s pos).2:=by
  by_cases ha:(s[pos]'h).toNat<128
  · rw [decode_ascii s pos h ha]
    exact Nat.le_refl _
  · exact (decode_high s pos h (by omega)).2
theorem GF(n:Int)(w:World)(hr:eS w) :Calls prog 29 #[.int .u64 n] w fun e w'=>e=.returned (.string (bd n))∧Below w.heap.size w w':=by
  refine ((KF n).calls w hr (us:=[.int .u64 n]) (.cons _ _ _ _ (.int _ _) .nil)).mono ?_
  rintro e w' ⟨u,ρ',rfl,hb,hu⟩
  cases hu
  exact ⟨rfl,hb⟩
def Ju(r:Int) :Nat:=if 48≤r∧r≤57 then (r-48).toNat else if 65≤r∧r≤70 then (r-55).toNat else 16
def Fm(acc:Int)(r:Int) :Int:=bits .or .u64 (IntKind.u64.wrap (acc*16)) (IntKind.u64.wrap (bits .and .i64 (Ju r:Int) 15))
def lH(s:ByteArray) :Nat→Nat→Int→Int
  | 0,_,acc=>acc
  | f+1,pos,acc=>if pos<s.size then lH s f (pos+(Utf8.decode s pos).2) (Fm acc (Utf8.decode s pos).1) else acc
def cG(s:ByteArray) :Bool:=decide (s.size=16)&&decide (bd (lH s s.size 0 0)=s)
def fE(s:ByteArray) :Int:=bif cG s then lH s s.size 0 0 else 0
def oO(s:ByteArray) :Int:=bif cG s then 0 else 4
theorem MQ(r:Int) :Ju r≤16:=by unfold Ju;split<;>(try split)<;>omega
theorem D1{n:Nat}(h:n<16) :(bF mW n=if n<10 then (48+n:Int) else (55+n:Int)):=by
  rcases n with _ | _ | _ | _ | _ | _ | _ | _ | _ | _ | _ | _ | _ | _ | _ | _ | n
  all_goals first | rfl | omega
theorem LI{n:Nat}(h:n<16)(r:Int) :bF mW n=r↔n=Ju r:=by
  rw [D1 h]
  unfold Ju
  split<;>split<;>(try split)<;>omega
theorem KG{n:Nat}(h:n<16) :∃ b:UInt8,(⟨#[48,49,50,51,52,53,54,55,56,57,65,66,67,68,69,70]⟩:ByteArray)[n]? = some b∧(b.toNat:Int)=bF mW n:=by
  have:∀ n:Fin 16,∃ b:UInt8,(⟨#[48,49,50,51,52,53,54,55,56,57,65,66,67,68,69,70]⟩:ByteArray)[n.val]? = some b∧(b.toNat:Int)=bF mW n.val:=by
    intro n
    rcases n with ⟨_ | _ | _ | _ | _ | _ | _ | _ | _ | _ | _ | _ | _ | _ | _ | _ | n,h⟩
    all_goals first | exact ⟨_,rfl,rfl⟩ | omega
  exact this ⟨n,h⟩
theorem LJ(n:Nat)(h:n<16)(W:World) :(Instr.index 9 (.string ⟨#[48,49,50,51,52,53,54,55,56,57,65,66,67,68,69,70]⟩) (.int .i64 n)).run prog W=.ok (.int .u8 (bF mW n)) W:=by
  have u9:prog.underlying 9=some .string:=by kernel_rfl
  obtain ⟨b,h1,h2⟩:=KG h
  have ha:(asIntOf (.int .i64 n)).run prog W=.ok (.i64,(n:Int)) W:=rfl
  unfold Instr.index
  simp only [Sem.run_bind,ha,Result.andThen_ok,run_underlying u9]
  rw [if_pos (Int.natCast_nonneg n),Int.toNat_natCast,h1,←h2]
  rfl
theorem CC(s:ByteArray) :∀ (f pos:Nat) (acc:Int),¬ pos<s.size→lH s f pos acc=acc
  | 0,_,_,_=>rfl
  | f+1,pos,acc,h=>by simp only [lH,h,if_false]
theorem toList_inj{a b:ByteArray}(h:a.toList=b.toList) :a=b:=by
  have ha:=Go.Lib.toList_data a
  have hb:=Go.Lib.toList_data b
  rw [h] at ha
  have:a.data.toList=b.data.toList:=ha.symm.trans hb
  cases a;cases b
  simp only [ByteArray.mk.injEq]
  exact Array.toList_inj.1 this
set_option maxHeartbeats 2000000 in
theorem Ay (s : ByteArray) (hs : s.size ≤ 1000000000) (w : World) (hR : Hid (eS w)) : Calls prog nM #[.string s] w fun e w' => e = .returned (.tuple #[.int .u64 (fE s), .int .i64 (oO s)]) ∧ Below w.heap.size w w' := by
  go_enter Tryd.func26, Tryd.ntmps26
  go_wp2
  go_loopw [4] (fun t wr => ∃ (pos fuel : Nat) (acc : Int), t = .int .u64 acc ∧ wr.heap[w.heap.size]? = some (.stringIter s pos) ∧ Below w.heap.size w wr ∧ lH s fuel pos acc = lH s s.size 0 0 ∧ s.size ≤ pos + fuel) (fun _ wr => s.size - wr.iterPos w.heap.size)
  case atStart =>
    exact ⟨0, s.size, 0, rfl, World.iter_heap w s 0, (Below.refl _ w).alloc (Nat.le_refl _) _, rfl, by omega⟩
  case round =>
    obtain ⟨pos, fuel, acc, rfl, hit, hbw, hacc, hfu⟩ := hrel
    by_cases hp : pos < s.size
    · have hnx : ∀ ty, (Instr.next (.pointer (some ⟨w.heap.size, 0, none⟩)) true ty).run prog wr = _ := fun ty => Lib.run_next_any_at wr w.heap.size s pos ty hit hp
      obtain ⟨r, hr⟩ : ∃ r : Nat, (Utf8.decode s pos).1 = r := ⟨_, rfl⟩
      obtain ⟨wd, hwd⟩ : ∃ wd : Nat, (Utf8.decode s pos).2 = wd := ⟨_, rfl⟩
      rw [hr, hwd] at hnx
      have hit2 := Lib.iterAt_heap wr w.heap.size s pos (pos + wd) hit
      have hbw2 := Lib.below_iterAt hbw (k := w.heap.size) (Nat.le_refl _) s (pos + wd)
      obtain ⟨W1, hW1⟩ : ∃ W1, wr.iterAt w.heap.size s (pos + wd) = W1 := ⟨_, rfl⟩
      rw [hW1] at hnx hit2 hbw2
      go_wp2
      go_loopw [7] (fun t W => W = W1 ∧ ∃ n : Nat, t = .int .i64 n ∧ n ≤ Ju r) (fun t _ => 16 - (intOf t).toNat)
      case atStart => exact ⟨rfl, 0, rfl, Nat.zero_le _⟩
      case round =>
        obtain ⟨hWW, n, rfl, hn⟩ := hrel
        replace hWW := hWW.symm
        subst hWW
        have hd := MQ r
        have hstep : n = Ju r → ∃ (pos' fuel' : Nat) (acc' : Int), Value.int .u64 (bits .or .u64 (IntKind.u64.wrap (acc * 16)) (IntKind.u64.wrap (bits .and .i64 (n : Int) 15))) = .int .u64 acc' ∧
            W1.heap[w.heap.size]? = some (.stringIter s pos') ∧ Below w.heap.size w W1 ∧ lH s fuel' pos' acc' = lH s s.size 0 0 ∧ s.size ≤ pos' + fuel' := fun e => by
          obtain ⟨f, rfl⟩ : ∃ f, fuel = f + 1 := ⟨fuel - 1, by omega⟩
          have hw1 := xZ s pos hp
          refine ⟨pos + wd, f, Fm acc r, by rw [e]; rfl, hit2, hbw2, ?_, by omega⟩
          rw [← hacc]
          simp only [lH, hp, if_true, hr, hwd]
        have hmeas : s.size - W1.iterPos w.heap.size < s.size - wr.iterPos w.heap.size := by
          have hw1 := xZ s pos hp
          simp only [World.iterPos, hit, hit2]
          omega
        have HS := Lib.hid hstep
        clear hstep
        by_cases h16 : n < 16
        · have hix := LJ n h16
          have hdi := Lib.hid (LI h16 r)
          have hb : 0 ≤ bF mW n ∧ bF mW n < 256 := by rw [D1 h16]; split <;> omega
          have hwr : wrap32 (bF mW n) = bF mW n := by simp only [wrap32]; omega
          go_wp2
          · have ht : (bF mW n != (r : Int)) = true := by assumption
            have hne : ¬ n = Ju r := fun c => by
              have := hdi.out.2 c
              rw [this] at ht
              simp at ht
            exact ⟨⟨trivial, n + 1, by go_num, by omega⟩, by simp [intOf]; omega⟩
          · have ht : (bF mW n != (r : Int)) = false := by assumption
            have he : n = Ju r := hdi.out.1 (by simpa using ht)
            exact ⟨HS.out he, hmeas⟩
        · have h16' : ¬ ((n : Int) < 16) := by omega
          have he : Hid (n = Ju r) := Lib.hid (by omega)
          go_wp2
          exact ⟨HS.out he.out, hmeas⟩
    · have hnx : ∀ ty, (Instr.next (.pointer (some ⟨w.heap.size, 0, none⟩)) true ty).run prog wr = _ := fun ty => Lib.run_next_end_at wr w.heap.size s pos ty hit hp
      have hR2 : Hid (eS wr) := Lib.hid (hR.out.below hbw (Nat.le_refl _))
      go_wp2_with (go_at_call 29; refine (GF _ _ hR2.out).mono ?_; rintro e W1 ⟨rfl, hb1⟩)
      all_goals clear hnx
      all_goals have hacc' : acc = lH s s.size 0 0 := (CC s fuel pos acc hp).symm.trans hacc
      · have h2 : (!(bd acc).toList == s.toList) = true := by assumption
        have ho : cG s = false := by
          unfold cG
          have : ¬ bd (lH s s.size 0 0) = s := fun c => by
            rw [← hacc'] at c
            rw [c] at h2
            simp at h2
          rw [decide_eq_false this, Bool.and_false]
        have hW : fE s = 0 := by rw [fE, ho]; rfl
        have hE : oO s = 4 := by rw [oO, ho]; rfl
        go_ret2
        exact ⟨by rw [hW, hE]; rfl, hbw.trans (hb1.mono hbw.size)⟩
      · have h1 : (s.size : Int) = 16 := by assumption
        have h2 : (!(bd acc).toList == s.toList) = false := by assumption
        have ho : cG s = true := by
          unfold cG
          have h3 : bd (lH s s.size 0 0) = s := by
            rw [← hacc']
            exact toList_inj (by simpa using h2)
          rw [decide_eq_true h3, decide_eq_true (show s.size = 16 by omega)]; rfl
        have hW : fE s = acc := by rw [fE, ho, hacc']; rfl
        have hE : oO s = 0 := by rw [oO, ho]; rfl
        go_ret2
        exact ⟨by rw [hW, hE]; rfl, hbw.trans (hb1.mono hbw.size)⟩
      · have h1 : ¬ (s.size : Int) = 16 := by assumption
        have ho : cG s = false := by
          unfold cG
          rw [decide_eq_false (show ¬ s.size = 16 by omega)]; rfl
        have hW : fE s = 0 := by rw [fE, ho]; rfl
        have hE : oO s = 4 := by rw [oO, ho]; rfl
        go_ret2
        exact ⟨by rw [hW, hE]; rfl, hbw⟩
theorem MR(s:ByteArray)(hs:s.size≤1000000000) :ao prog nM [] [.str s] ⟨.tup [.int .u64 (fE s),.int .i64 (oO s)],[]⟩:=by
  refine cp ⟨FN nM,by kernel_rfl,by kernel_rfl⟩ fun ρ w us hN hv=>?_
  cases hv with | cons _ u _ _ h1 h2 =>
  cases h2;cases h1
  refine (Ay s hs w (Lib.hid hN.romOk)).mono ?_
  rintro e w' ⟨rfl,hb⟩
  exact ⟨_,rfl,hb,.tup _ _ (.cons _ _ _ _ (.int _ _) (.cons _ _ _ _ (.int _ _) .nil))⟩
noncomputable def KH:aU:=eh nM (.cons .str .nil) fun t=>[⟨⟨.tup [.int .u64 (fE t.1),.int .i64 (oO t.1)],[]⟩,[ek t.1.size]⟩]
theorem IM:bm prog KH:=bA fun t=>bQ (fun h=>MR t.1 (Nat.le_of_ble_eq_true h)) cC
end Go.Plb.Seat
namespace Go.Plb.Seat
open Go Go.Plb Go.Proofs Go.RowKit Go.Shelf
set_option maxRecDepth 100000
set_option linter.unusedSimpArgs false
set_option linter.unusedVariables false
theorem LK:(5,AV.gvar (aO.map fun z=>Value.int .u64 z).toArray)∈(Rom.tab:List (Nat×AV)):=by simp [Rom.tab]
theorem LL:(3,AV.iptr .free (.vs [.iface 147 .any]) 1 0 0)∈(Rom.tab:List (Nat×AV)):=by simp [Rom.tab]
theorem LM:(4,AV.iptr .free (.vs [.iface 147 .any]) 1 0 0)∈(Rom.tab:List (Nat×AV)):=by simp [Rom.tab]
theorem MS{w : World}(h : eS w) : Lib.TabIs prog w "internal/strconv.uint64pow10" .u64 Lib.pow10Tab := by
  have h1:=h _ LK
  cases h1 with | gvar _ _ t fr ha hb hh =>
  have hg : prog.globalNamed "internal/strconv.uint64pow10" = some 5 := by kernel_rfl
  have e:aO=Lib.pow10Tab:=by decide
  unfold Lib.TabIs World.var?
  rw [hg,←e]
  simp [hh]
theorem KI{w:World}{g:Nat}(h:VR ae.none_ w (.iptr .free (.vs [.iface 147 .any]) 1 0 0) (.pointer (some ⟨g,0,none⟩))) :∃ v,w.cell? ⟨g,0,none⟩=some (.iface 147 v):=by
  generalize hu:Value.pointer (some ⟨g,0,none⟩)=u at h
  cases h with | iptr _ _ _ _ _ bl o u' ha hb hc hv hr hk hg =>
  simp only [Value.pointer.injEq,Option.some.injEq,Addr.mk.injEq] at hu
  obtain ⟨rfl,ho,_⟩:=hu
  have ho:o=0:=by omega
  subst ho
  have h1:=hc 0 _ rfl
  have h2:=hv 0 _ rfl
  generalize u' 0=x at h1 h2
  cases h2 with | iface _ _ v hv'=>exact ⟨v,by simpa using h1⟩
def BP:Nat→Nat→List UInt8
  | 0,_=>[]
  | f+1,n=>if n<10 then [UInt8.ofNat (48+n)] else BP f (n/10)++[UInt8.ofNat (48+n%10)]
def Fo(n:Int) :List UInt8:=if n<0 then 45::BP 20 n.natAbs else BP 20 n.toNat
def bR(n:Int) :ByteArray:=⟨(Fo n).toArray⟩
theorem D2:∀ (f n:Nat),n<10^(f+1)→BP (f+1) n=Lib.decDigits n
  | 0,n,h=>by
    have hn:n<10:=by simpa using h
    rw [Lib.decDigits]
    simp [BP,hn]
  | f+1,n,h=>by
    rw [Lib.decDigits]
    rw [BP]
    split
    · rfl
    · rw [D2 f (n/10) (by rw [Nat.pow_succ] at h;omega)]
theorem KJ{n:Int}(h1 : -9223372036854775808≤n)(h2:n≤9223372036854775807) :Fo n=Lib.itoa n:=by
  have hp:10^20=100000000000000000000:=by decide
  unfold Fo Lib.itoa
  split
  · rw [D2 19 _ (by rw [hp];omega)]
  · rw [D2 19 _ (by rw [hp];omega)]
theorem Az(n:Int)(h1 : -9223372036854775808≤n)(h2:n≤9223372036854775807)(w:World)(hr:eS w) :Calls prog ko #[.int .i64 n] w fun e w'=>e=.returned (.string (bR n))∧Below w.heap.size w w':=by
  refine (Tryd.strconv_Itoa n h1 h2 w (MS hr)).mono ?_
  rintro e w' ⟨rfl,k,os,rfl⟩
  rw [bR,KJ h1 h2]
  refine ⟨rfl,rfl,rfl,rfl,by simp [Go.Sort.grow],fun i hi=>?_⟩
  show ((w.drewN k).heap++os)[i]? = _
  rw [Array.getElem?_append_left (by simpa using hi)]
  rfl
theorem MT(n:Int)(hk:kJ .i64 n=true) :ao prog ko [] [.int .i64 n] ⟨.str (bR n),[]⟩:=by
  rw [bV] at hk
  refine cp ⟨FN ko,by kernel_rfl,by kernel_rfl⟩ fun ρ w us hN hv=>?_
  cases hv with | cons _ u _ _ h1 h2 =>
  cases h2;cases h1
  refine (Az n hk.1 hk.2 w hN.romOk).mono ?_
  rintro e w' ⟨rfl,hb⟩
  exact ⟨_,rfl,hb,.str _⟩
noncomputable def KK:aU:=eh ko (.cons (.int .i64) .nil) fun t=>[⟨⟨.str (bR t.1),[]⟩,[kJ .i64 t.1]⟩]
theorem IN:bm prog KK:=bA fun t=>bQ (fun h=>MT t.1 h) cC
def cS(s:ByteArray) :Int:=match Lib.atoiAll s.data.toList with
  | .ok v=>if bR v=s then v else -1
  | _=>-1
theorem LN{a b:ByteArray}(h:(!a.toList==b.toList)=true) :a≠b:=fun c=>by subst c;simp at h
set_option maxHeartbeats 2000000 in
theorem D3 (s : ByteArray) (hs : s.size ≤ 1000000000) (w : World) (hR : Hid (eS w)) : Calls prog jt #[.string s] w fun e w' => e = .returned (.int .i64 (cS s)) ∧ Below w.heap.size w w' := by
  cases h : Lib.atoiAll s.data.toList with
  | ok v =>
    have hv := Lib.atoiAll_bounds h
    have cA := Tryd.strconv_Atoi_ok s (by omega) v h w
    go_enter Tryd.func54, Tryd.ntmps54
    go_wp2_with (go_at_call 69; refine cA.mono ?_; rintro e W1 ⟨rfl, hw1⟩; refine Hid.out ?_)
    refine Lib.hid ?_
    have hb1 : Below w.heap.size w W1 := by
      rcases hw1 with rfl | ⟨t, rfl⟩
      · exact Below.refl _ _
      · exact Go.Lib.bytesWorld_below _ _ _
    have hR1 : Hid (eS W1) := Lib.hid (hR.out.below hb1 (Nat.le_refl _))
    clear hw1 cA
    go_wp2_with (go_at_call 55; refine (Az v hv.1 hv.2 _ hR1.out).mono ?_; rintro e W2 ⟨rfl, hb2⟩)
    · have h2 : (!(bR v).toList == s.toList) = true := by assumption
      have hn : cS s = -1 := by simp only [cS, h]; rw [if_neg (LN h2)]
      go_ret
      exact ⟨by rw [hn]; rfl, hb1.trans (hb2.mono hb1.size)⟩
    · have h2 : (!(bR v).toList == s.toList) = false := by assumption
      have hn : cS s = v := by simp only [cS, h]; rw [if_pos (toList_inj (by simpa using h2))]
      go_ret
      exact ⟨by rw [hn]; rfl, hb1.trans (hb2.mono hb1.size)⟩
  | range =>
    obtain ⟨ev, hev⟩ := KI (hR.out _ LM)
    have hn : cS s = -1 := by simp only [cS, h]
    have cA := Tryd.strconv_Atoi_range s (by omega) h (.iface 147 ev) w hev (.inr ⟨_, _, rfl⟩)
    go_enter Tryd.func54, Tryd.ntmps54
    go_wp2_with (go_at_call 69; refine cA.mono ?_; rintro e W1 ⟨N, rfl, _, _, hb⟩)
    go_ret
    exact ⟨by rw [hn]; rfl, hb⟩
  | _ =>
    obtain ⟨ev, hev⟩ := KI (hR.out _ LL)
    have hn : cS s = -1 := by simp only [cS, h]
    have cA := Tryd.strconv_Atoi_syntax s (by omega) h (.iface 147 ev) w hev (.inr ⟨_, _, rfl⟩)
    go_enter Tryd.func54, Tryd.ntmps54
    go_wp2_with (go_at_call 69; refine cA.mono ?_; rintro e W1 ⟨N, rfl, _, _, hb⟩)
    go_ret
    exact ⟨by rw [hn]; rfl, hb⟩
theorem KL(s:ByteArray)(hs:s.size≤1000000000) :ao prog jt [] [.str s] ⟨.int .i64 (cS s),[]⟩:=by
  refine cp ⟨FN jt,by kernel_rfl,by kernel_rfl⟩ fun ρ w us hN hv=>?_
  cases hv with | cons _ u _ _ h1 h2 =>
  cases h2;cases h1
  refine (D3 s hs w (Lib.hid hN.romOk)).mono ?_
  rintro e w' ⟨rfl,hb⟩
  exact ⟨_,rfl,hb,.int _ _⟩
noncomputable def Fp:aU:=eh jt (.cons .str .nil) fun t=>[⟨⟨.int .i64 (cS t.1),[]⟩,[ek t.1.size]⟩]
theorem Fq:bm prog Fp:=bA fun t=>bQ (fun h=>KL t.1 (Nat.le_of_ble_eq_true h)) cC
def oP:List ByteArray→List UInt8
  | []=>[]
  | [x]=>x.data.toList
  | x::y::r=>x.data.toList++32::oP (y::r)
def oQ(l:List ByteArray) :ByteArray:=⟨(oP l).toArray⟩
theorem AA:∀ l:List ByteArray,oP l=Lib.join (l.map (·.data.toList)) [32]
  | []=>rfl
  | [x]=>by rw [List.map_cons,List.map_nil,Lib.join_one];rfl
  | x::y::r=>by
    rw [List.map_cons,Lib.join_cons,oP,AA (y::r),List.map_cons,Lib.join_cons]
    simp [Lib.joinTail]
theorem MU(l:Lv)(xs:List ByteArray)(h1:(oQ xs).size≤1000000000)(h2:xs.length≤1000000000) :ao prog mT [] [.imm l (.ss xs) 1 1 0 xs.length,.str ⟨#[32]⟩] ⟨.str (oQ xs),[]⟩:=by
  refine cp ⟨FN mT,by kernel_rfl,by kernel_rfl⟩ fun ρ w us hN hv=>?_
  cases hv with | cons _ u _ _ v1 v2 =>
  cases v2 with | cons _ u2 _ _ v3 v4 =>
  cases v4;cases v3
  have hz:(oP xs).length≤1000000000:=by
    have:(oQ xs).size=(oP xs).length:=by simp [oQ,ByteArray.size]
    omega
  generalize hn:xs.length=n at v1
  cases v1 with
  | imm _ _ _ _ _ _ cap bl o u' ha hb hc hv' hl hr hk hg =>
    have:=Tryd.strings_Join bl (o+0*1) cap xs ⟨#[32]⟩ w (fun j x hj=>by
      have hcell:(an.ss xs).cell? j=some (.str x):=by show (xs[j]?).map AV.str=_;rw [hj];rfl
      have q1:=hc j _ hcell
      have q2:=hv' j _ hcell
      cases hu:u' j<;>rw [hu] at q2<;>cases q2
      rw [hu] at q1
      simpa using q1) hb (by omega) (by omega) (by
        rw [←AA];omega)
    rw [hn] at this
    refine this.mono ?_
    rintro e w' ⟨rfl,hb⟩
    refine ⟨_,rfl,hb,?_⟩
    rw [←AA]
    exact .str _
  | immEnd _ _ _ _ _ cap a hr hk hg =>
    have hx:xs=[]:=List.length_eq_zero_iff.1 hn
    subst hx
    refine (Tryd.strings_Join_none a cap ⟨#[32]⟩ w).mono ?_
    rintro e w' ⟨rfl,rfl⟩
    exact ⟨_,rfl,Below.refl _ _,.str _⟩
def MV(z:ByteArray) :Bool:=decide (z=⟨#[32]⟩)
theorem LO{z:ByteArray}(h:MV z=true) :z=⟨#[32]⟩:=of_decide_eq_true h
noncomputable def KM:aU:=eh mT (.cons .ss (.cons .str .nil)) fun t=>[⟨⟨.str (oQ t.1.2),[]⟩,[MV t.2.1,ek (oQ t.1.2).size,ek t.1.2.length]⟩]
theorem IP:bm prog KM:=bA fun t a ha ho=>by
  simp only [List.mem_singleton] at ha
  subst ha
  obtain ⟨⟨l,xs⟩,z,_⟩:=t
  have hz:=LO ho.1
  subst hz
  exact MU l xs (Nat.le_of_ble_eq_true ho.2.1) (Nat.le_of_ble_eq_true ho.2.2.1)
end Go.Plb.Seat
namespace Go.Plb.Seat
open Go Go.Plb Go.Proofs Go.RowKit Go.Shelf
set_option maxRecDepth 100000
set_option linter.unusedSimpArgs false
set_option linter.unusedVariables false
attribute [local go_sem] Oper.semAt_some
theorem yu(s sep:ByteArray)(w:World) :Calls prog 49 #[.string s,.string sep,.int .i64 0] w fun e w' =>
    e=.returned (.func (.func 63) #[] #[.pointer (some ⟨w.heap.size+1,0,none⟩),.pointer (some ⟨w.heap.size,0,none⟩),.pointer (some ⟨w.heap.size+2,0,none⟩)]) ∧
    w'=((w.alloc (.cells #[.string s] 9)).alloc (.cells #[.string sep] 9)).alloc (.cells #[.int .i64 0] 3):=by
  have hmf:∀ (fn:Fn) (first cap:Array Value) (w:World),(Instr.makeFunc fn first cap).run prog w=.ok (.func fn first cap) w:=fun _ _ _ _=>rfl
  go_enter Tryd.func49,Tryd.ntmps49
  go_wp2
  go_ret
  exact ⟨rfl,rfl⟩
theorem AB(s sep:ByteArray)(w:World) :Calls prog 25 #[.string s,.string sep] w fun e w' =>
    e=.returned (.func (.func 63) #[] #[.pointer (some ⟨w.heap.size+1,0,none⟩),.pointer (some ⟨w.heap.size,0,none⟩),.pointer (some ⟨w.heap.size+2,0,none⟩)]) ∧
    w'=((w.alloc (.cells #[.string s] 9)).alloc (.cells #[.string sep] 9)).alloc (.cells #[.int .i64 0] 3):=by
  go_enter Tryd.func25,Tryd.ntmps25
  go_wp2_with (go_at_call 49;refine (yu s sep _).mono ?_;rintro e w' ⟨rfl,rfl⟩)
  go_ret
  exact ⟨rfl,rfl⟩
theorem ui{g:Operand}{ps:Array Tmp}{assign body:Code}{Q:Exit→Act→World→Prop}{a:Act}{w:World}{gf m:Nat}{lb:Array Value}(hg:a.eval g=.func (.func gf) #[] lb)(eg:∀ args w,(callFunc gf args).run prog w=.ok (.enter gf args) w) 
    (h : ∀ (fn : FuncId) (rec : LoopState → Option Code → Loop), (∀ st pe, (rec st pe).state = st ∧ (rec st pe).pending = pe) →
      (∀ (m':Nat) (args:Array Value) (W:World) (R:Ending→World→Prop),W.heap[w.heap.size+1]? = some (.loop (rec .ready none))→args.size=ps.size →
        assign.wpIn (Fence.wide.inRound (w.heap.size+1)) m' prog (Exit.then (fun a₁ w₁=>w₁.heap[w.heap.size+1]? = some (.loop (rec .ready none))∧body.wpIn (Fence.wide.inRound (w.heap.size+1)) m' prog
            (fun x _ w'=>match x with
              | .normal=>w'.heap[w.heap.size+1]? = some (.loop (rec .busy none))∧R (.returned (.bool true)) (w'.putObj (w.heap.size+1) (.loop (rec .ready none)))
              | .ret=>w'.heap[w.heap.size+1]? = some (.loop (rec .busy none))∧R (.returned (.bool false)) (w'.putObj (w.heap.size+1) (.loop (rec .done (some .ret))))
              | _=>False) a₁ (w₁.putObj (w.heap.size+1) (.loop (rec .busy none)))) (fun _ _ _=>False))
          { tmps:=(ps.zip args).foldl (fun t (p,v)=>t.setIfInBounds p v) a.tmps,defers:=[] } W →
        YieldAt Fence.wide m' prog (w.heap.size+1) args W R) →
      CallsIn Fence.wide m prog gf (#[.func (.yield (w.heap.size+1)) #[] #[]]++lb) ((w.alloc (.deferred (some []))).alloc (.loop (rec .ready none))) (fun e W'=>(∃ v,e=.returned v) ∧
        ((W'.heap[w.heap.size+1]? = some (.loop (rec .ready none))∧Q .normal { a with defers:={ target:=.collected w.heap.size,args:=#[] }::a.defers } (W'.putObj (w.heap.size+1) (.loop (rec .exhausted none)))) ∨
         (∃ c,W'.heap[w.heap.size+1]? = some (.loop (rec .done (some c)))∧c.wpIn Fence.wide (m+1) prog Q { a with defers:={ target:=.collected w.heap.size,args:=#[] }::a.defers } (W'.putObj (w.heap.size+1) (.loop (rec .exhausted (some c)))))))) :
    (Code.rangeFunc g ps assign body).wpIn Fence.wide (m+1) prog Q a w:=by
  refine wpIn_rangeFunc ?_
  intro fn hfn
  obtain ⟨rec,hrec⟩:∃ rec:LoopState→Option Code→Loop,rec=fun st pe=>{ state:=st,pending:=pe,fn,tmps:=a.tmps,params:=ps,assign,body,defers:=w.heap.size }:=⟨_,rfl⟩
  have key:=h fn rec (by intro st pe;rw [hrec];exact ⟨rfl,rfl⟩) (fun m' args W R hl hs hr=>by
    have hy:=run_yield (P:=prog) (args:=args) hl (by rw [hrec];exact hs)
    rw [hrec] at hy
    refine ⟨fn,_,assign,body,hy,roundIn_of_wpIn hfn (wpIn_mono hr ?_)⟩
    rintro e a1 w1 hp
    cases e<;>first | exact hp.elim | skip
    obtain ⟨h1,h2⟩:=hp
    refine ⟨_,run_beginRound h1 (by rw [hrec]),?_⟩
    have hb:({ rec .ready none with state:=.busy }:Loop)=rec .busy none:=by rw [hrec]
    rw [hb]
    refine wpIn_mono h2 ?_
    rintro e a2 w2 hp
    have hput:∀ jump,(Instr.endRound (w.heap.size+1) jump).run prog w2=_:=fun jump=>run_endRound (P:=prog) jump (r:=rec .busy none) (by cases e<;>first | exact hp.1 | exact hp.elim)
    cases e with
    | normal=>exact ⟨_,_,hput none,by have:=hp.2;rw [hrec] at this ⊢;exact this⟩
    | ret=>exact ⟨_,_,hput (some .ret),by have:=hp.2;rw [hrec] at this ⊢;exact this⟩
    | exit id=>exact hp.elim
    | goto t=>exact hp.elim
    | panic c=>exact hp.elim
    | outgrown=>exact hp.elim)
  refine ⟨w.heap.size+1,[{ target:=.collected w.heap.size,args:=#[] }],(w.alloc (.deferred (some []))).alloc (.loop (rec .ready none)),{ target:=.fn (.func gf) lb,args:=#[.func (.yield (w.heap.size+1)) #[] #[]] },(w.alloc (.deferred (some []))).alloc (.loop (rec .ready none)),gf,
    #[.func (.yield (w.heap.size+1)) #[] #[]]++lb,(w.alloc (.deferred (some []))).alloc (.loop (rec .ready none)),?_,?_,fun _ _=>trivial,?_,fun _=>by omega,?_⟩
  · rw [hrec];exact run_enterLoop_outer _ _ _ _ _
  · simp only [resolve,hg]
    simp [go_sem]
  · simp [invoke,go_sem,eg]
  · refine key.mono ?_
    rintro e W2 ⟨⟨v,rfl⟩,⟨hl,hq⟩ | ⟨c,hl,hq⟩⟩
    · exact ⟨none,W2.putObj (w.heap.size+1) (.loop (rec .exhausted none)),by have:=run_endLoop (P:=prog) hl (by rw [hrec];simp);rw [hrec] at this ⊢;exact this,hq⟩
    · exact ⟨some c,W2.putObj (w.heap.size+1) (.loop (rec .exhausted (some c))),by have:=run_endLoop (P:=prog) hl (by rw [hrec];simp);rw [hrec] at this ⊢;exact this,hq⟩
theorem ya{P:Program}{t:TypeId}{W:World}{a:Addr}{v:Value}(h:xE P t=some false)(hc:W.cell? a=some v) :(loadVar t a).run P W=.ok v W:=by
  unfold loadVar
  rw [Sem.run_bind,mE h]
  simp [Result.andThen,hc]
theorem sY{P:Program}{fn:Func}{p q:Tmp}{t u:TypeId}(h:fn.results = #[.cell p t,.cell q u]){tmps:Array Value}{W:World}{a b:Addr}{v v':Value}(hp:tmps.getD p undef=.pointer (some a))(hq:tmps.getD q undef=.pointer (some b)) 
    (ht:xE P t=some false) (hu:xE P u=some false) (hc:W.cell? a=some v) (hd:W.cell? b=some v'):(results fn tmps).run P W=.ok (.tuple #[v,v']) W:=by
  have h1:=ya ht hc
  have h2:=ya hu hd
  rw [Ab,h]
  simp [wO,hp,hq,asAddr,Sem.run_bind,Result.andThen,h1,h2]
theorem gR{B:Nat}{a w:World}(h:Below B a w){r:Nat}(hr:B≤r)(o:Obj) :Below B a (w.putObj r o) :=
  ⟨h.os,h.tape,h.output,by simp only [World.putObj_size];exact h.size,fun k hk=>(World.putObj_heap_other (by omega)).trans (h.block k hk)⟩
theorem mA{W W':World}{base:Nat}{e:TypeId}{size:Nat}{v:Value}{n:Nat}{xs:List Value}(h:W.ownsRow base e size v n xs)(hb:∀ k,base≤k→k<W.heap.size→W'.heap[k]? = W.heap[k]?) :W'.ownsRow base e size v n xs:=by
  refine ⟨h.1,?_⟩
  rcases h.2 with q | ⟨g,cap,cur,h1,h2,h3,h4⟩
  · exact .inl q
  · exact .inr ⟨g,cap,cur,h1,h2,(hb g h2 (Array.getElem?_eq_some_iff.1 h3).1).trans h3,h4⟩
structure Mw (w:World) (rec:LoopState→Option Code→Loop) (pre:List Int) (W:World):Prop where
  r:Boxed W w.heap.size 22 (.slice none 0 0)
  e:Boxed W (w.heap.size+1) 24 (.int .i64 0)
  l:∃ v,Boxed W (w.heap.size+1+1) 22 v∧W.ownsRow (w.heap.size+8) 35 1 v pre.length (pre.map (Value.int .u64))
  d:W.heap[w.heap.size+6]? = some (.deferred (some []))
  o:W.heap[w.heap.size+6+1]? = some (.loop (rec .ready none))
  low:Below w.heap.size w W
theorem Mw.set{w:World}{rec:LoopState→Option Code→Loop}{pre:List Int}{W:World}(h:Mw w rec pre W)(k:Nat)(h1:w.heap.size+3≤k)(h2:k<w.heap.size+6)(u:Value) :Mw w rec pre (W.setCell ⟨k,0,none⟩ u):=by
  have hk:∀ j,j≠k→(W.setCell ⟨k,0,none⟩ u).heap[j]? = W.heap[j]?:=fun j hj=>Below.heap_setCell _ _ _ _ hj
  obtain ⟨v,hv,ho⟩:=h.l
  exact ⟨(hk _ (by omega)).trans h.r,(hk _ (by omega)).trans h.e,⟨v,(hk _ (by omega)).trans hv,mA ho fun j hj _=>hk j (by omega)⟩,(hk _ (by omega)).trans h.d,(hk _ (by omega)).trans h.o,h.low.setCell (by show w.heap.size≤k;omega) _⟩
def GG(W:World)(k:Nat) :Nat:=match W.cell? ⟨k,0,none⟩ with
  | some (.string r)=>r.size
  | _=>0
theorem CD{W:World}{k:Nat}{t:TypeId}{r:ByteArray}(h:Boxed W k t (.string r)) :GG W k=r.size:=by
  unfold GG
  rw [h.cell]
structure Ol (w:World) (rec:LoopState→Option Code→Loop) (W:World):Prop where
  r:Boxed W w.heap.size 22 (.slice none 0 0)
  e:Boxed W (w.heap.size+1) 24 (.int .i64 4)
  d:W.heap[w.heap.size+6]? = some (.deferred (some []))
  o:W.heap[w.heap.size+6+1]? = some (.loop (rec .done (some .ret)))
  low:Below w.heap.size w W
theorem pP(l:List UInt8)(c:UInt8) :Lib.indexByte l c<l.length∨l=[]:=by
  induction l with
  | nil=>exact .inr rfl
  | cons b l ih =>
    left
    unfold Lib.indexByte
    simp only [List.length_cons]
    split
    · omega
    · split
      · omega
      · rcases ih with h | rfl
        · omega
        · exact absurd rfl ‹¬ (Lib.indexByte [] c == -1)=true›
theorem NC{α:Type}(h:Array α)(a b c d e f g i:α)(k:Nat) :((((((((h.push a).push b).push c).push d).push e).push f).push g).push i)[h.size+k]? = #[a,b,c,d,e,f,g,i][k]?:=by
  have e1:((((((((h.push a).push b).push c).push d).push e).push f).push g).push i)=h ++ #[a,b,c,d,e,f,g,i]:=by
    apply Array.toList_inj.1
    simp
  rw [e1,Array.getElem?_append_right (Nat.le_add_right _ _),Nat.add_sub_cancel_left]
def wS:Nat→ByteArray→List Int→Option (List Int)
  | 0,_,_=>none
  | f+1,s,acc =>
    if Lib.indexByte s.data.toList 32<0 then (if cG s=true then some (acc++[fE s]) else none)
    else if cG (s.extract 0 (Lib.indexByte s.data.toList 32).toNat)=true then wS f (s.extract ((Lib.indexByte s.data.toList 32).toNat+1) s.size) (acc++[fE (s.extract 0 (Lib.indexByte s.data.toList 32).toNat)]) else none
def mX(s:ByteArray) :Option (List Int):=wS (s.size+1) s []
set_option maxHeartbeats 2000000 in
theorem yb (s : ByteArray) (hs : s.size ≤ 1000000000) (w : World) (hR : Hid (eS w)) : Calls prog dX #[.string s] w fun e w' => Below w.heap.size w w' ∧
    ((∃ xs v, mX s = some xs ∧ e = .returned (.tuple #[v, .int .i64 0]) ∧ w'.ownsRow (w.heap.size + 8) 35 1 v xs.length (xs.map (Value.int .u64))) ∨ (mX s = none ∧ e = .returned (.tuple #[.slice none 0 0, .int .i64 4]))) := by
  refine (callsIn_wide (n := 6)).1 (callsIn_of_wp_marks Tryd.func9 rfl trivial ?_)
  simp only [Tryd.ntmps9, List.size_toArray, List.length_cons, List.length_nil, Nat.reduceAdd, Nat.reduceSub, Array.replicate_succ, Array.replicate_zero, List.push_toArray, List.append_toArray, List.nil_append, List.cons_append]
  gi_wp2_with (refine ⟨trivial, ?_⟩; gi_at_call 25; refine (callsIn_wide.2 (AB s _ _)).mono ?_; rintro e w' ⟨rfl, rfl⟩)
  obtain ⟨w0, hw0⟩ : ∃ w0, (((((w.alloc (.cells #[.slice none 0 0] 22)).alloc (.cells #[.int .i64 0] 24)).alloc (.cells #[.slice none 0 0] 22)).alloc (.cells #[.string s] 9)).alloc (.cells #[.string ⟨#[32]⟩] 9)).alloc (.cells #[.int .i64 0] 3) = w0 := ⟨_, rfl⟩
  rw [hw0]
  have hsz : w0.heap.size = w.heap.size + 6 := by rw [← hw0]; simp
  refine ui (gf := 63) (m := 5) rfl (enters_of Tryd.func63 (by kernel_rfl) rfl) fun fn rec hrec hy => ?_
  rw [hsz] at hy ⊢
  have round : ∀ (pre : List Int) (x : ByteArray) (W : World), x.size ≤ 1000000000 → pre.length ≤ 1000000000 → Mw w rec pre W → YieldAt Fence.wide 4 prog (w.heap.size + 6 + 1) #[.string x] W (fun e W' =>
      (∀ k, w.heap.size + 3 ≤ k → k < w.heap.size + 6 → W'.heap[k]? = W.heap[k]?) ∧ ((cG x = true ∧ e = .returned (.bool true) ∧ Mw w rec (pre ++ [fE x]) W') ∨ (cG x = false ∧ e = .returned (.bool false) ∧ Ol w rec W'))) := by
    intro pre x W hx hlen hS
    refine hy 4 _ W _ hS.o rfl ?_
    clear hy
    have cR := Ay x hx
    gi_wp2
    refine ⟨hS.o, ?_⟩
    obtain ⟨W1, hW1⟩ : ∃ W1, W.putObj (w.heap.size + 6 + 1) (.loop (rec .busy none)) = W1 := ⟨_, rfl⟩
    rw [hW1]
    have hlt : w.heap.size + 6 + 1 < W.heap.size := (Array.getElem?_eq_some_iff.1 hS.o).1
    have hs1 : W1.heap.size = W.heap.size := by rw [← hW1]; simp
    have hk1 : ∀ k, k ≠ w.heap.size + 6 + 1 → W1.heap[k]? = W.heap[k]? := fun k hk => by rw [← hW1]; exact World.putObj_heap_other hk
    have ho1 : W1.heap[w.heap.size + 6 + 1]? = some (.loop (rec .busy none)) := by rw [← hW1]; exact World.putObj_heap_same hlt
    have hb1 : Below w.heap.size w W1 := hS.low.trans (by rw [← hW1]; exact ⟨rfl, rfl, rfl, by simp, fun k hk => World.putObj_heap_other (by omega)⟩)
    have hr1 : Hid (eS W1) := Lib.hid (hR.out.below hb1 (Nat.le_refl _))
    obtain ⟨v0, hv0, hown0⟩ := hS.l
    have hown1 : W1.ownsRow (w.heap.size + 8) 35 1 v0 pre.length (pre.map (Value.int .u64)) := by rw [← hW1]; exact ownsRow_putObj hown0 _ hS.o rfl
    obtain ⟨i0, hi, hz0, hz1, hz2⟩ := info_parts (show (prog.info? 35).map (fun i => (i.zero, i.size, i.bytes)) = some (some (.int .u64 0), 1, 8) by kernel_rfl)
    gi_wp2_with first
      | (refine ⟨trivial, ?_⟩; gi_at_call 26; refine (callsIn_wide.2 (cR _ hr1)).mono ?_; rintro e W2 ⟨rfl, hb2⟩
         have hkb : ∀ k, k < w.heap.size + 6 + 1 → W2.heap[k]? = W.heap[k]? := (fun k hk => (hb2.block k (by omega)).trans (hk1 k (by omega)))
         have hbr : Boxed W2 w.heap.size 22 (.slice none 0 0) := (hkb _ (by omega)).trans hS.r
         have hbe : Boxed W2 (w.heap.size + 1) 24 (.int .i64 0) := (hkb _ (by omega)).trans hS.e
         have hbl : Boxed W2 (w.heap.size + 1 + 1) 22 v0 := (hkb _ (by omega)).trans hv0
         have hbe2 : Boxed (W2.setCell ⟨w.heap.size, 0, none⟩ (.slice none 0 0)) (w.heap.size + 1) 24 (.int .i64 0) := (Below.heap_setCell _ _ _ _ (by first | (simp; done) | (simp; omega))).trans hbe
         have hcl := hbl.cell
         have hcr := hbr.cell
         have hfr := hbr.frozen
         have hce := hbe2.cell
         have hfe := hbe2.frozen
         have hown2 : W2.ownsRow (w.heap.size + 8) 35 1 v0 pre.length (pre.map (Value.int .u64)) := mA hown1 fun k _ hk => hb2.block k hk
         have ho2 := (hb2.block _ (by omega)).trans ho1)
      | (gi_at_builtin; refine wpListIn_append_own _ rfl _ _ 22 rfl (w.heap.size + 8) 35 i0 (.int .u64 0) 1 8 (by kernel_rfl) hi hz0 hz1 hz2 rfl (by decide) _ _ _ rfl (hown2.alloc _) ⟨W2.heap.size, 0, none⟩ 1 1 [.int .u64 (fE x)] rfl rfl (cell_one_new _ _ _) (by simp [Value.oneCell']) (by unfold maxLen; omega) (by omega) (by have := hb2.size; simp; omega) ?_
         intro v' w3 hown3 hgrow _
         obtain ⟨g', cap', rfl⟩ := ownsRow_succ hown3
         have hsz2 := hb2.size
         have hb3 : Below (w.heap.size + 8) W2 w3 := ((Below.refl _ W2).alloc (by omega) _).grown (show (W2.alloc (.cells #[.int .u64 (fE x)] 35)).grownBy w3 v0.ownBlock from hgrow) (by simp; omega) (fun j ej => by
           rcases hown2.2 with ⟨rfl, _⟩ | ⟨g, cap, cur, rfl, hb, _, _⟩
           · simp [Value.ownBlock] at ej
           · obtain rfl : g = j := by simpa [Value.ownBlock] using ej
             exact hb)
         have hbl3 : Boxed w3 (w.heap.size + 1 + 1) 22 v0 := (hb3.block _ (by omega)).trans hbl
         have hcl3 := hbl3.cell
         have hfl3 := hbl3.frozen)
    · have ho : cG x = false := by
        cases q : cG x with
        | false => rfl
        | true =>
          have h1 : (oO x != 0) = true := by assumption
          rw [oO, q] at h1
          exact absurd h1 (by decide)
      have hlow : Below w.heap.size w W2 := hb1.trans (hb2.mono (by omega))
      have hlt2 : w.heap.size + 6 + 1 < W2.heap.size := by have := hb2.size; omega
      have hd2 : W2.heap[w.heap.size + 6]? = some (.deferred (some [])) := (hkb _ (by omega)).trans hS.d
      refine ⟨?_, fun k h1 h2 => ?_, ho, ?_⟩
      · rw [Below.heap_setCell _ _ _ _ (by first | (simp; done) | (simp; omega)), Below.heap_setCell _ _ _ _ (by first | (simp; done) | (simp; omega))]; exact ho2
      · rw [World.putObj_heap_other (by omega), Below.heap_setCell _ _ _ _ (by first | (simp; done) | (simp; omega)), Below.heap_setCell _ _ _ _ (by first | (simp; done) | (simp; omega))]; exact hkb k (by omega)
      · refine ⟨?_, ?_, ?_, ?_, ?_⟩
        · unfold Boxed
          rw [World.putObj_heap_other (by omega), Below.heap_setCell _ _ _ _ (by first | (simp; done) | (simp; omega))]
          exact hbr.set _
        · unfold Boxed
          rw [World.putObj_heap_other (by omega)]
          exact hbe2.set _
        · rw [World.putObj_heap_other (by omega), Below.heap_setCell _ _ _ _ (by first | (simp; done) | (simp; omega)), Below.heap_setCell _ _ _ _ (by first | (simp; done) | (simp; omega))]; exact hd2
        · exact World.putObj_heap_same (by simpa using hlt2)
        · exact gR ((hlow.setCell (p := ⟨w.heap.size, 0, none⟩) (by simp) _).setCell (p := ⟨w.heap.size + 1, 0, none⟩) (by simp) _) (by omega) _
    · have ho : cG x = true := by
        cases q : cG x with
        | true => rfl
        | false =>
          have h1 : (oO x != 0) = false := by assumption
          rw [oO, q] at h1
          exact absurd h1 (by decide)
      have hlow : Below w.heap.size w w3 := (hb1.trans (hb2.mono (by omega))).trans (hb3.mono (by omega))
      have hlt3 : w.heap.size + 6 + 1 < w3.heap.size := by have := hb2.size; have := hb3.size; omega
      have hk3 : ∀ k, k < w.heap.size + 6 + 1 → w3.heap[k]? = W.heap[k]? := fun k hk => (hb3.block k (by omega)).trans (hkb k hk)
      refine ⟨?_, fun k h1 h2 => ?_, ho, ?_⟩
      · rw [Below.heap_setCell _ _ _ _ (by first | (simp; done) | (simp; omega)), hb3.block _ (by omega)]; exact ho2
      · rw [World.putObj_heap_other (by omega), Below.heap_setCell _ _ _ _ (by first | (simp; done) | (simp; omega))]; exact hk3 k (by omega)
      · refine ⟨?_, ?_, ⟨.slice (some ⟨g', 0, none⟩) (pre.length + 1) cap', ?_, ?_⟩, ?_, ?_, ?_⟩
        · unfold Boxed
          rw [World.putObj_heap_other (by omega), Below.heap_setCell _ _ _ _ (by first | (simp; done) | (simp; omega))]
          exact (hk3 _ (by omega)).trans hS.r
        · unfold Boxed
          rw [World.putObj_heap_other (by omega), Below.heap_setCell _ _ _ _ (by first | (simp; done) | (simp; omega))]
          exact (hk3 _ (by omega)).trans hS.e
        · unfold Boxed
          rw [World.putObj_heap_other (by omega)]
          exact hbl3.set _
        · have h9 := ownsRow_setCell_below hown3 (a := ⟨w.heap.size + 1 + 1, 0, none⟩) (by first | (simp; done) | (simp; omega)) (.slice (some ⟨g', 0, none⟩) (pre.length + 1) cap')
          refine mA ?_ fun k hk _ => World.putObj_heap_other (by omega)
          simpa using h9
        · rw [World.putObj_heap_other (by omega), Below.heap_setCell _ _ _ _ (by first | (simp; done) | (simp; omega))]; exact (hk3 _ (by omega)).trans hS.d
        · exact World.putObj_heap_same (by simpa using hlt3)
        · exact gR (hlow.setCell (p := ⟨w.heap.size + 1 + 1, 0, none⟩) (by show w.heap.size ≤ w.heap.size + 1 + 1; omega) _) (by omega) _
  obtain ⟨W0, hW0⟩ : ∃ W0, (w0.alloc (.deferred (some []))).alloc (.loop (rec .ready none)) = W0 := ⟨_, rfl⟩
  have it : CallsIn Fence.wide 5 prog 63 #[.func (.yield (w.heap.size + 6 + 1)) #[] #[], .pointer (some ⟨w.heap.size + 1 + 1 + 1 + 1, 0, none⟩), .pointer (some ⟨w.heap.size + 1 + 1 + 1, 0, none⟩), .pointer (some ⟨w.heap.size + 1 + 1 + 1 + 2, 0, none⟩)] W0
      (fun e W' => (∃ v, e = .returned v) ∧ ((∃ xs, mX s = some xs ∧ Mw w rec xs W') ∨ (mX s = none ∧ Ol w rec W'))) := by
    refine callsIn_of_wp Tryd.func63 rfl trivial ?_ rfl
    simp only [Tryd.ntmps63, List.size_toArray, List.length_cons, List.length_nil, Nat.reduceAdd, Nat.reduceSub, Array.replicate_succ, Array.replicate_zero, List.push_toArray, List.append_toArray, List.nil_append, List.cons_append]
    have hat : ∀ k, k < 8 → W0.heap[w.heap.size + k]? = #[Obj.cells #[.slice none 0 0] 22, .cells #[.int .i64 0] 24, .cells #[.slice none 0 0] 22, .cells #[.string s] 9, .cells #[.string ⟨#[32]⟩] 9, .cells #[.int .i64 0] 3, .deferred (some []), .loop (rec .ready none)][k]? := fun k hk => by
      rw [← hW0, ← hw0]
      exact NC w.heap _ _ _ _ _ _ _ _ k
    have hlow0 : Below w.heap.size w W0 := by
      rw [← hW0, ← hw0]
      refine Below.alloc (Below.alloc (Below.alloc (Below.alloc (Below.alloc (Below.alloc (Below.alloc (Below.alloc (Below.refl _ w) ?_ _) ?_ _) ?_ _) ?_ _) ?_ _) ?_ _) ?_ _) ?_ _
      all_goals simp
      all_goals try omega
    have hSt : Mw w rec [] W0 := ⟨hat 0 (by omega), hat 1 (by omega), ⟨_, hat 2 (by omega), World.ownsRow_nil _ _ _ _⟩, hat 6 (by omega), hat 7 (by omega), hlow0⟩
    have hq0 : Boxed W0 (w.heap.size + 3) 9 (.string s) := hat 3 (by omega)
    have hq1 : Boxed W0 (w.heap.size + 4) 9 (.string ⟨#[32]⟩) := hat 4 (by omega)
    have hq2 : Boxed W0 (w.heap.size + 5) 3 (.int .i64 0) := hat 5 (by omega)
    clear hat hlow0 hy
    have hc1 : W0.cell? ⟨w.heap.size + 1 + 1 + 1 + 1, 0, none⟩ = some (.string ⟨#[32]⟩) := hq1.cell
    gi_wp2
    gi_loopw [7] (fun _ W => ∃ (r : ByteArray) (pre : List Int) (f : Nat), Boxed W (w.heap.size + 3) 9 (.string r) ∧ Boxed W (w.heap.size + 4) 9 (.string ⟨#[32]⟩) ∧ Boxed W (w.heap.size + 5) 3 (.int .i64 0) ∧
        wS f r pre = mX s ∧ r.size < f ∧ pre.length + r.size ≤ s.size ∧ Mw w rec pre W) (fun _ W => GG W (w.heap.size + 3))
    case atStart => exact ⟨s, [], s.size + 1, hq0, hq1, hq2, rfl, by omega, by simp, hSt⟩
    case round =>
      obtain ⟨r, pre, f, hb3, hb4, hb5, hu, hf, hl, hS⟩ := hrel
      have cI := fun w' => callsIn_wide (n := 3).2 (Tryd.strings_Index_one r 32 w')
      have h9 : Lib.indexByte r.data.toList 32 < r.size ∨ Lib.indexByte r.data.toList 32 = -1 := by
        rcases pP r.data.toList 32 with h | h
        · exact .inl (by simpa using h)
        · rw [h]; exact .inr rfl
      have hge := Lib.indexByte_ge r.data.toList 32
      obtain ⟨i, hi⟩ : ∃ i, Lib.indexByte r.data.toList 32 = i := ⟨_, rfl⟩
      have cIx : Calls prog 65 #[.string r, .string ⟨#[32]⟩] wr (fun e w' => e = .returned (.int .i64 i) ∧ w' = wr) := by rw [← hi]; exact Tryd.strings_Index_one r 32 wr
      obtain ⟨f, rfl⟩ : ∃ g, f = g + 1 := ⟨f - 1, by omega⟩
      simp only [wS, hi] at hu
      rw [hi] at h9 hge
      clear cI
      have hc3 := hb3.cell
      have hc4 := hb4.cell
      have hc5 := hb5.cell
      by_cases hneg : i < 0
      · obtain ⟨fn', tmps', assign', body', hy', hR'⟩ := round pre r wr (by omega) (by omega) hS
        gi_wp2_with (refine ⟨trivial, ?_⟩; gi_at_call 65; refine (callsIn_wide.2 cIx).mono ?_; rintro e w' ⟨rfl, rfl⟩)
        refine hR'.mono ?_
        rintro e W3 ⟨_, ⟨ho, rfl, hS3⟩ | ⟨ho, rfl, hS3⟩⟩
        · gi_wp2
          go_end0
          exact ⟨⟨_, rfl⟩, .inl ⟨_, by rw [← hu, if_pos hneg, if_pos ho], hS3⟩⟩
        · gi_wp2
          go_end0
          exact ⟨⟨_, rfl⟩, .inr ⟨by rw [← hu, if_pos hneg, if_neg (by rw [ho]; decide)], hS3⟩⟩
      · obtain ⟨n, rfl⟩ := Int.eq_ofNat_of_zero_le (Int.not_lt.1 hneg)
        obtain ⟨fn', tmps', assign', body', hy', hR'⟩ := round pre (r.extract 0 n) wr (by simp; omega) (by omega) hS
        gi_wp2_with (refine ⟨trivial, ?_⟩; gi_at_call 65; refine (callsIn_wide.2 cIx).mono ?_; rintro e w' ⟨rfl, rfl⟩)
        rw [if_neg (show ¬ ((n : Int) < 0) by omega), Int.toNat_natCast] at hu
        refine hR'.mono ?_
        rintro e W3 ⟨hk, ⟨ho, rfl, hS3⟩ | ⟨ho, rfl, hS3⟩⟩
        · rw [if_pos ho] at hu
          have hb3' : Boxed W3 (w.heap.size + 3) 9 (.string r) := (hk _ (by omega) (by omega)).trans hb3
          have hb4' : Boxed W3 (w.heap.size + 4) 9 (.string ⟨#[32]⟩) := (hk _ (by omega) (by omega)).trans hb4
          have hb5' : Boxed W3 (w.heap.size + 5) 3 (.int .i64 0) := (hk _ (by omega) (by omega)).trans hb5
          have hc3' := hb3'.cell
          have hc4' := hb4'.cell
          have hf3' := hb3'.frozen
          gi_wp2
          have hb6 := hb3'.set (.string (r.extract (n + 1) r.size))
          go_roundw
          case rel =>
            refine ⟨r.extract (n + 1) r.size, pre ++ [fE (r.extract 0 n)], f, hb6, ?_, ?_, hu, ?_, ?_, hS3.set _ (by omega) (by omega) _⟩
            · exact (Below.heap_setCell _ _ _ _ (show w.heap.size + 4 ≠ w.heap.size + 1 + 1 + 1 by omega)).trans hb4'
            · exact (Below.heap_setCell _ _ _ _ (show w.heap.size + 5 ≠ w.heap.size + 1 + 1 + 1 by omega)).trans hb5'
            · simp; omega
            · simp; omega
          case measure =>
            rw [CD hb6, CD hb3]
            simp
            omega
        · rw [if_neg (by rw [ho]; decide)] at hu
          gi_wp2
          refine bodyPost_ret (results_none rfl _ _ _) rfl ?_
          exact ⟨⟨_, rfl⟩, .inr ⟨hu.symm, hS3⟩⟩
  clear round hy
  rw [hW0]
  refine it.mono ?_
  rintro e W' ⟨hv, ⟨xs, hxs, hS⟩ | ⟨hxs, hS⟩⟩
  · refine ⟨hv, .inl ⟨hS.o, ?_⟩⟩
    have hlt : w.heap.size + 6 + 1 < W'.heap.size := (Array.getElem?_eq_some_iff.1 hS.o).1
    obtain ⟨W2, hW2⟩ : ∃ W2, W'.putObj (w.heap.size + 6 + 1) (.loop (rec .exhausted none)) = W2 := ⟨_, rfl⟩
    rw [hW2]
    have hk : ∀ k, k ≠ w.heap.size + 6 + 1 → W2.heap[k]? = W'.heap[k]? := fun k hk => by rw [← hW2]; exact World.putObj_heap_other hk
    obtain ⟨v, hv, ho⟩ := hS.l
    have br : Boxed W2 w.heap.size 22 (.slice none 0 0) := (hk _ (by omega)).trans hS.r
    have be : Boxed W2 (w.heap.size + 1) 24 (.int .i64 0) := (hk _ (by omega)).trans hS.e
    have bl : Boxed W2 (w.heap.size + 1 + 1) 22 v := (hk _ (by omega)).trans hv
    have hcl := bl.cell
    have hcr := br.cell
    have hfr := br.frozen
    obtain ⟨p, n, cap, rfl⟩ : ∃ p n cap, v = .slice p n cap := by
      rcases ho.2 with ⟨rfl, _⟩ | ⟨g, cap, cur, rfl, _⟩
      · exact ⟨_, _, _, rfl⟩
      · exact ⟨_, _, _, rfl⟩
    have be2 : Boxed (W2.setCell ⟨w.heap.size, 0, none⟩ (.slice p n cap)) (w.heap.size + 1) 24 (.int .i64 0) := (Below.heap_setCell _ _ _ _ (by first | (simp; done) | (simp; omega))).trans be
    have hce := be2.cell
    have hfe := be2.frozen
    gi_wp2
    obtain ⟨W3, hW3⟩ : ∃ W3, (W2.setCell ⟨w.heap.size, 0, none⟩ (.slice p n cap)).setCell ⟨w.heap.size + 1, 0, none⟩ (.int .i64 0) = W3 := ⟨_, rfl⟩
    rw [hW3]
    have be3 : Boxed W3 (w.heap.size + 1) 24 (.int .i64 0) := by rw [← hW3]; exact be2.set _
    have br3 : Boxed W3 w.heap.size 22 (.slice p n cap) := by
      rw [← hW3]
      exact (Below.heap_setCell _ _ _ _ (by first | (simp; done) | (simp; omega))).trans (br.set _)
    have hk3 : ∀ k, w.heap.size + 2 ≤ k → k ≠ w.heap.size + 6 + 1 → W3.heap[k]? = W'.heap[k]? := fun k h1 h2 => by
      rw [← hW3, Below.heap_setCell _ _ _ _ (by show k ≠ w.heap.size + 1; omega), Below.heap_setCell _ _ _ _ (by show k ≠ w.heap.size; omega)]; exact hk k h2
    have hd : W3.heap[w.heap.size + 6]? = some (.deferred (some [])) := (hk3 _ (by omega) (by omega)).trans hS.d
    have hlow : Below w.heap.size w W3 := by
      rw [← hW3, ← hW2]
      exact ((gR hS.low (by omega) _).setCell (p := ⟨w.heap.size, 0, none⟩) (by simp) _).setCell (p := ⟨w.heap.size + 1, 0, none⟩) (by simp) _
    have hown : (W3.putObj (w.heap.size + 6) (.deferred none)).ownsRow (w.heap.size + 8) 35 1 (.slice p n cap) xs.length (xs.map (Value.int .u64)) :=
      mA ho fun k h1 _ => (World.putObj_heap_other (by omega)).trans (hk3 k (by omega) (by omega))
    refine ⟨by simp, .inl ⟨_, _, rfl, run_takeDeferred hd, ?_⟩⟩
    exact ⟨_, sY (a := ⟨w.heap.size, 0, none⟩) (b := ⟨w.heap.size + 1, 0, none⟩) rfl rfl rfl (by kernel_rfl) (by kernel_rfl) (Boxed.cell ((World.putObj_heap_other (by omega)).trans br3)) (Boxed.cell ((World.putObj_heap_other (by omega)).trans be3)), gR hlow (by omega) _, .inl ⟨xs, _, hxs, rfl, hown⟩⟩
  · refine ⟨hv, .inr ⟨_, hS.o, ?_⟩⟩
    have hlt : w.heap.size + 6 + 1 < W'.heap.size := (Array.getElem?_eq_some_iff.1 hS.o).1
    obtain ⟨W2, hW2⟩ : ∃ W2, W'.putObj (w.heap.size + 6 + 1) (.loop (rec .exhausted (some .ret))) = W2 := ⟨_, rfl⟩
    rw [hW2]
    have hk : ∀ k, k ≠ w.heap.size + 6 + 1 → W2.heap[k]? = W'.heap[k]? := fun k hk => by rw [← hW2]; exact World.putObj_heap_other hk
    have br : Boxed W2 w.heap.size 22 (.slice none 0 0) := (hk _ (by omega)).trans hS.r
    have be : Boxed W2 (w.heap.size + 1) 24 (.int .i64 4) := (hk _ (by omega)).trans hS.e
    have hcr := br.cell
    have hce := be.cell
    have hd : W2.heap[w.heap.size + 6]? = some (.deferred (some [])) := (hk _ (by omega)).trans hS.d
    have hlow : Below w.heap.size w W2 := by rw [← hW2]; exact gR hS.low (by omega) _
    gi_wp2
    refine ⟨by simp, .inl ⟨_, _, rfl, run_takeDeferred hd, ?_⟩⟩
    exact ⟨_, sY (a := ⟨w.heap.size, 0, none⟩) (b := ⟨w.heap.size + 1, 0, none⟩) rfl rfl rfl (by kernel_rfl) (by kernel_rfl) (Boxed.cell ((World.putObj_heap_other (by omega)).trans br)) (Boxed.cell ((World.putObj_heap_other (by omega)).trans be)), gR hlow (by omega) _, .inr ⟨hxs, rfl⟩⟩
def dE(s:ByteArray) :Bool:=(mX s).isSome
def cd(s:ByteArray) :List Int:=(mX s).getD []
theorem GH{ρ:ae}{W:World}{base:Nat}{t:TypeId}{k:IntKind}{v:Value}{xs:List Int}(h:W.ownsRow base t 1 v xs.length (xs.map (Value.int k)))(ha:∀ bl,base≤bl→ρ.avoid .free bl) :
    VR ρ W (.imm .free (.ns k xs) 1 1 0 xs.length) v:=by
  rcases h.2 with ⟨rfl,h0⟩ | ⟨g,cap,cur,rfl,hg,hc,hn,_,hs,ht⟩
  · rw [h0];exact .immEnd _ _ _ _ _ _ _ trivial (fun _=>rfl) rfl
  · refine .imm .free (.ns k xs) 1 1 0 xs.length cap g 0 (fun x=>.int k (xs.getD x 0)) (ha g hg) (Array.getElem?_eq_some_iff.1 hc).1 (fun x v hx=>?_) (fun x v hx=>?_) hn trivial (fun _=>rfl) rfl
    · simp only [an.cell?] at hx
      cases hq:xs[x]? with
      | none=>rw [hq] at hx;cases hx
      | some z =>
        have hlt:=(List.getElem?_eq_some_iff.1 hq).1
        have h1:(cur.toList.take (xs.length*1))[x]? = some (.int k z):=by rw [ht,List.getElem?_map,hq];rfl
        rw [List.getElem?_take,if_pos (by omega)] at h1
        simp only [World.cell?,hc,Nat.zero_add]
        rw [List.getD_eq_getElem?_getD,hq]
        simpa using h1
    · simp only [an.cell?] at hx
      cases hq:xs[x]? with
      | none=>rw [hq] at hx;cases hx
      | some z =>
        rw [hq] at hx
        cases hx
        rw [List.getD_eq_getElem?_getD,hq]
        exact .int _ _
theorem HK(s:ByteArray)(hs:s.size≤1000000000) :(∀ h:dE s=true,ao prog dX [] [.str s] ⟨.tup [.imm .free (.ns .u64 (cd s)) 1 1 0 (cd s).length,.int .i64 0],[]⟩) ∧
    (∀ h:(!dE s)=true,ao prog dX [] [.str s] ⟨.tup [.nsl,.int .i64 4],[]⟩):=by
  refine ⟨fun ho=>?_,fun ho=>?_⟩
  · refine cp ⟨FN dX,by kernel_rfl,by kernel_rfl⟩ fun ρ w us hN hv=>?_
    cases hv with | cons _ u _ _ h1 h2 =>
    cases h2;cases h1
    refine (yb s hs w (Lib.hid hN.romOk)).mono ?_
    rintro e w' ⟨hb,⟨xs,v,hx,rfl,hown⟩ | ⟨hx,rfl⟩⟩
    · have e1:cd s=xs:=by unfold cd;rw [hx];rfl
      rw [e1]
      exact ⟨_,rfl,hb,.tup _ _ (.cons _ _ _ _ (GH hown fun bl hbl=>cx.new hN bl (by omega)) (.cons _ _ _ _ (.int _ _) .nil))⟩
    · unfold dE at ho;rw [hx] at ho;cases ho
  · refine cp ⟨FN dX,by kernel_rfl,by kernel_rfl⟩ fun ρ w us hN hv=>?_
    cases hv with | cons _ u _ _ h1 h2 =>
    cases h2;cases h1
    refine (yb s hs w (Lib.hid hN.romOk)).mono ?_
    rintro e w' ⟨hb,⟨xs,v,hx,rfl,hown⟩ | ⟨hx,rfl⟩⟩
    · unfold dE at ho;rw [hx] at ho;cases ho
    · exact ⟨_,rfl,hb,.tup _ _ (.cons _ _ _ _ .nsl (.cons _ _ _ _ (.int _ _) .nil))⟩
noncomputable def HL:aU:=eh dX (.cons .str .nil) fun t =>
  [⟨⟨.tup [.imm .free (.ns .u64 (cd t.1)) 1 1 0 (cd t.1).length,.int .i64 0],[]⟩,[dE t.1,ek t.1.size]⟩,⟨⟨.tup [.nsl,.int .i64 4],[]⟩,[!dE t.1,ek t.1.size]⟩]
theorem GI:bm prog HL:=bA fun t a ha ho=>by
  simp only [List.mem_cons,List.not_mem_nil,or_false] at ha
  rcases ha with rfl | rfl
  · exact (HK t.1 (Nat.le_of_ble_eq_true ho.2.1)).1 ho.1
  · exact (HK t.1 (Nat.le_of_ble_eq_true ho.2.1)).2 ho.1
end Go.Plb.Seat
namespace Go.Plb.Seat
open Go Go.Plb
noncomputable def KN:aU:=eh lE (.cons (.int .u64) .nil) fun t=>[⟨⟨.str (bd t.1),[]⟩,[]⟩]
theorem IQ:bm prog KN:=bA fun t a ha ho=>by
  simp only [List.mem_singleton] at ha
  subst ha
  exact KF t.1
noncomputable def MW:List aU:=[DM,wP,KH,KK,Fp,KM,HL,KN]
theorem vD:bC prog (bG MW):=aE Gy (aE DO (aE IM (aE IN (aE Fq (aE IP (aE GI (aE IQ (ud prog))))))))
end Go.Plb.Seat
namespace Go.Plb.Seat
open Go Go.Plb
set_option linter.unusedVariables false
set_option maxRecDepth 100000
noncomputable section
inductive cq where
  | r0 (s9:ByteArray)
def mB:cq→AE×aG
  | .r0 s9=>(.ret,⟨aF 20 [(2,.str s9)],[],0⟩)
theorem oq:ug mB:=by intro x;cases x<;>(intro h;cases h)
theorem BW(id:Nat) :vy id mB:=by intro x;cases x<;>(intro h;cases h)
def pQ:cq→nE
  | .r0 s9=>⟨.str s9,[]⟩
noncomputable def BX:List Code:=dW (yq pE)
def BY(v_0:Lv)(words_1:List Int)(_:Unit) :aG:=⟨aF 20 [(3,.nsl),(6,.imm v_0 (.ns .u64 words_1) 1 1 0 (List.length words_1)),(7,.int .i64 (((List.length words_1):Nat):Int)),(8,.int .i64 (0:Int))],[],0⟩
def BZ:T ((Unit)⊕(cq)) :=
  .leaf (.inl ())
def lw(v_0:Lv)(words_1:List Int) :Nat×Nat×Nat×(List ByteArray)→aG:=fun (l2,l3,a4,l5)=>⟨aF 20 [(3,.sl 0 1 1 0 l2 l3),(6,.imm v_0 (.ns .u64 words_1) 1 1 0 (List.length words_1)),(7,.int .i64 (((List.length words_1):Nat):Int)),(8,.int .i64 ((a4:Nat):Int))],[(0,.ss l5)],1⟩
def sZ:Nat×Nat×(List ByteArray)→aG:=fun (l6,l7,l8)=>⟨aF 20 [(3,.sl 0 1 1 0 l6 l7)],[(0,.ss l8)],1⟩
noncomputable def B0:List Code:=dW (pH ((((BX.drop 3).take 1)).headD .skip))
def AC(words_1:List Int)(l2:Nat)(l3:Nat)(a4:Nat)(l5:List ByteArray) :T ((Nat×Nat×Nat×(List ByteArray))⊕((Nat×Nat×(List ByteArray))⊕(cq))) :=
  .ask (decide (((a4:Nat):Int)<(((List.length words_1):Nat):Int)))
    (.need (yh ((a4:Nat):Int) (List.length words_1))<|.need (nv a4 (List.length words_1))<|.need (kF ((l2+1)*16) 140737488355328)<|.need (kF (l2+1) 9223372036854775807)<|.need (kF 1 (List.length [(bd (List.getD words_1 a4 0))]))<|.need (kF l2 (List.length l5))<|.need (kJ .i64 (((a4+1):Nat):Int))<|.leaf (.inl ((l2+1),(l2+1),(a4+1),((List.take l2 l5)++(List.take 1 [(bd (List.getD words_1 a4 0))])))))
    (.leaf (.inr (.inl (l2,l3,l5))))
noncomputable def mY(words_1:List Int) :Nat×Nat×Nat×(List ByteArray)→Option ((Nat×Nat×Nat×(List ByteArray))⊕((Nat×Nat×(List ByteArray))⊕(cq))):=fun (l2,l3,a4,l5) =>
  (AC words_1 l2 l3 a4 l5).run
theorem AD(v_0:Lv)(words_1:List Int)(l2:Nat)(l3:Nat)(a4:Nat)(l5:List ByteArray) :Sg prog [] B0 (lw v_0 words_1 (l2,l3,a4,l5)) (mY words_1 (l2,l3,a4,l5)) (lw v_0 words_1) (jP 0 sZ mB):=by
  unfold mY;exact eL vD (lw v_0 words_1) [⟨[],[129],[3,6,7,8]⟩,⟨[],[0],[3]⟩]
def mZ(l6:Nat)(l8:List ByteArray) :T ((Empty)⊕(cq)) :=
  .need (ue 0 l6 l8)<|.need (MV (ByteArray.mk #[32]))<|.need (ek (oQ (ba 0 l6 l8)).size)<|.need (ek (List.length (ba 0 l6 l8)))<|.leaf (.inr (.r0 (oQ (ba 0 l6 l8))))
noncomputable def kr(words_1:List Int) :Option cq:=Au (ch ((BZ).run) fun _ =>
  ch (ei (mY words_1) (0,0,0,([]:List ByteArray))) fun (l6,l7,l8) =>
  (mZ l6 l8).run)
theorem ta(v_0:Lv)(words_1:List Int){x:cq}(h:kr words_1=some x) :ao prog pE [] [.imm v_0 (.ns .u64 words_1) 1 1 0 (List.length words_1)] (pQ x) :=
  DS false pQ mB h (Sg.cut 3 oq (eL vD (BY v_0 words_1) [⟨[],[],[3,6,7,8]⟩]) (fun _=>Sg.cut 1 oq (Nz ⟨[(.slot 3,.own 1 1 (.ss ([]:List ByteArray)))],[0],[3,6,7,8]⟩ (lw v_0 words_1) (sZ) 0 oq (BW _) (fun ⟨l2,l3,a4,l5⟩=>AD v_0 words_1 l2 l3 a4 l5)) (fun ⟨l6,l7,l8⟩=>eL vD Av [⟨[],[],[2]⟩])))
    (fun x=>by cases x with | r0 s9=>exact uh [.str s9])
def lx:Option cq→Bool
  | some _=>true
  | none=>false
def mb:Option cq→ByteArray
  | some (.r0 x)=>x
  | _=>ByteArray.empty
theorem B1{x:Option cq}(h:lx x=true) :x=some (.r0 (mb x)):=by
  unfold lx at h
  split at h<;>first | rfl | (cases h;done) | (rename_i y;cases y;rfl)
noncomputable def vE:aU:=eh pE (.cons (.ns .u64) .nil) fun t=>(fun q=>[⟨pQ (.r0 (mb q)),[lx q]⟩]) (kr t.1.2)
theorem yv:bm prog vE:=bA fun t=>(bQ (fun h=>ta t.1.1 t.1.2 (B1 h)) cC)
noncomputable def vF:List aU:=vE::MW
theorem qj:bC prog (bG vF):=aE yv vD
inductive df where
  | r0 (s1:ByteArray)
def B2:df→AE×aG
  | .r0 s1=>(.ret,⟨aF 12 [(4,.str s1)],[],0⟩)
def ot:df→nE
  | .r0 s1=>⟨.str s1,[]⟩
def AF(m_0:Int)(n_1:Int) :T ((Empty)⊕(df)) :=
  .need (kJ .i64 m_0)<|.need (decide ((ByteArray.mk #[109,97,116,114,105,120,32]).size+(bR m_0).size≤9223372036854775807))<|.need (decide (((ByteArray.mk #[109,97,116,114,105,120,32])++(bR m_0)).size+(ByteArray.mk #[32]).size≤9223372036854775807))<|.need (kJ .i64 n_1)<|.need (decide ((((ByteArray.mk #[109,97,116,114,105,120,32])++(bR m_0))++(ByteArray.mk #[32])).size+(bR n_1).size≤9223372036854775807))<|.leaf (.inr (.r0 ((((ByteArray.mk #[109,97,116,114,105,120,32])++(bR m_0))++(ByteArray.mk #[32]))++(bR n_1))))
noncomputable def dh(m_0:Int)(n_1:Int) :Option df:=Au ((AF m_0 n_1).run)
theorem rl(m_0:Int)(n_1:Int){x:df}(h:dh m_0 n_1=some x) :ao prog sV [] [.int .i64 m_0,.int .i64 n_1] (ot x) :=
  DS false ot B2 h (eL qj Av [⟨[],[],[4]⟩])
    (fun x=>by cases x with | r0 s1=>exact uh [.str s1])
def fF:Option df→Bool
  | some _=>true
  | none=>false
def gS:Option df→ByteArray
  | some (.r0 x)=>x
  | _=>ByteArray.empty
theorem AG{x:Option df}(h:fF x=true) :x=some (.r0 (gS x)):=by
  unfold fF at h
  split at h<;>first | rfl | (cases h;done) | (rename_i y;cases y;rfl)
noncomputable def tc:aU:=eh sV (.cons (.int .i64) (.cons (.int .i64) .nil)) fun t=>(fun q=>[⟨ot (.r0 (gS q)),[fF q]⟩]) (dh t.1 t.2.1)
theorem wT:bm prog tc:=bA fun t=>(bQ (fun h=>rl t.1 t.2.1 (AG h)) cC)
noncomputable def td:List aU:=tc::vF
theorem gT:bC prog (bG td):=aE wT qj
inductive bH where
  | r0 (b7:Bool)
def rm:bH→AE×aG
  | .r0 b7=>(.ret,⟨aF 37 [(2,.bool false b7)],[],0⟩)
theorem qk:ug rm:=by intro x;cases x<;>(intro h;cases h)
def na:bH→nE
  | .r0 b7=>⟨.bool false b7,[]⟩
def yw(a_0:Int)(a_1:Int)(a_2:Int)(v_3:Lv)(a_4:List Int)(a_5:Int)(a_6:Int) :Bool×ByteArray×Nat×Bool×Bool→aG:=fun (is1,s2,a3,b4,b5)=>⟨aF 37 [(1,.ptr 0 1 0 0),(3,.ptr 1 1 0 0),(4,.bool false is1)],[(0,.vs [.int .i64 a_0,.int .i64 a_1,.int .i64 a_2,.imm v_3 (.ns .u64 a_4) 1 1 0 (List.length a_4),.int .i64 a_5,.int .u64 a_6]),(1,.vs [.str s2,.int .i64 ((a3:Nat):Int),.bool false b4,.bool false b5])],2⟩
def yx(a_0 : Int) : T ((Bool × ByteArray × Nat × Bool × Bool) ⊕ (bH)) :=
  .alt 0
    (.need (a_0==(1:Int))<|.leaf (.inl (true,(ByteArray.mk #[101,105,103,101,110]),3,false,true)))
    (.alt 1
      (.need (a_0==(2:Int))<|.leaf (.inl (true,(ByteArray.mk #[118,97,108,117,101,115]),0,false,true)))
      (.alt 2
        (.need (a_0==(3:Int))<|.leaf (.inl (true,(ByteArray.mk #[115,118,100]),2,false,false)))
        (.alt 3
          (.need (a_0==(4:Int))<|.leaf (.inl (true,(ByteArray.mk #[114,97,110,107]),2,true,false)))
          (.alt 4
            (.need (a_0==(5:Int))<|.leaf (.inl (true,(ByteArray.mk #[105,110,118,101,114,115,101]),2,true,false)))
            (.alt 5
              (.need (a_0==(6:Int))<|.leaf (.inl (true,(ByteArray.mk #[99,111,110,100]),2,false,false)))
              (.alt 6
                (.need (!(a_0==(1:Int)))<|.need (!(a_0==(2:Int)))<|.need (!(a_0==(3:Int)))<|.need (!(a_0==(4:Int)))<|.need (!(a_0==(5:Int)))<|.need (!(a_0==(6:Int)))<|.leaf (.inl (false,ByteArray.empty,0,false,false)))
                (.fail)))))))
def yy(b6:Bool) :aG:=⟨aF 37 [(2,.bool false b6)],[],0⟩
def ql(a_5:Int)(a_6:Int)(is1:Bool)(a3:Nat)(b4:Bool) :T ((Bool)⊕(bH)) :=
  .ask is1
    (.ask (decide (a_5≥(nY (1:Int) ((a3:Nat):Int))))
      (.ask (decide (a_5≤((a3:Nat):Int)))
        (.ask b4
          (.leaf (.inl true))
          (.leaf (.inl (a_6==(0:Int)))))
        (.leaf (.inl false)))
      (.leaf (.inl false)))
    (.leaf (.inl false))
def yz(b6:Bool) :T ((Empty)⊕(bH)) :=
  .leaf (.inr (.r0 b6))
noncomputable def dp(a_0:Int)(a_5:Int)(a_6:Int) :Option bH:=Au (ch ((yx a_0).run) fun (is1,s2,a3,b4,b5) =>
  ch ((ql a_5 a_6 is1 a3 b4).run) fun b6 =>
  (yz b6).run)
theorem yA(a_0:Int)(a_1:Int)(a_2:Int)(v_3:Lv)(a_4:List Int)(a_5:Int)(a_6:Int){x:bH}(h:dp a_0 a_5 a_6=some x) :ao prog re [] [.agg [.int .i64 a_0,.int .i64 a_1,.int .i64 a_2,.imm v_3 (.ns .u64 a_4) 1 1 0 (List.length a_4),.int .i64 a_5,.int .u64 a_6]] (na x) :=
  DS false na rm h (Sg.cut 2 qk (eL gT (yw a_0 a_1 a_2 v_3 a_4 a_5 a_6) [⟨[],[0,144],[1,3,4]⟩,⟨[],[0,144],[1,3,4]⟩,⟨[],[0,144],[1,3,4]⟩,⟨[],[0,144],[1,3,4]⟩,⟨[],[0,144],[1,3,4]⟩,⟨[],[0,144],[1,3,4]⟩,⟨[],[0,144],[1,3,4]⟩]) (fun ⟨is1,s2,a3,b4,b5⟩=>Sg.cut 1 qk (eL gT yy [⟨[],[],[2]⟩,⟨[],[],[2]⟩,⟨[],[],[2]⟩,⟨[],[],[2]⟩,⟨[],[],[2]⟩]) (fun b6=>eL gT Av [⟨[],[],[2]⟩])))
    (fun x=>by cases x with | r0 b7=>exact uh [.bool false b7])
def eU:Option bH→Bool
  | some _=>true
  | none=>false
def fm:Option bH→Bool
  | some (.r0 x)=>x
  | _=>false
theorem yB{x:Option bH}(h:eU x=true) :x=some (.r0 (fm x)):=by
  unfold eU at h
  split at h<;>first | rfl | (cases h;done) | (rename_i y;cases y;rfl)
noncomputable def rn:aU:=eh re (.cons (.agg (.cons (.int .i64) (.cons (.int .i64) (.cons (.int .i64) (.cons (.ns .u64) (.cons (.int .i64) (.cons (.int .u64) .nil))))))) .nil) fun t=>(fun q=>[⟨na (.r0 (fm q)),[eU q]⟩]) (dp t.1.1 t.1.2.2.2.2.1 t.1.2.2.2.2.2.1)
theorem vG:bm prog rn:=bA fun t=>(bQ (fun h=>yA t.1.1 t.1.2.1 t.1.2.2.1 t.1.2.2.2.1.1 t.1.2.2.2.1.2 t.1.2.2.2.2.1 t.1.2.2.2.2.2.1 (yB h)) cC)
noncomputable def rp:List aU:=rn::td
theorem ku:bC prog (bG rp):=aE vG gT
inductive cD where
  | r0 (b2:Bool)
def vH:cD→AE×aG
  | .r0 b2=>(.ret,⟨aF 41 [(2,.bool false b2)],[],0⟩)
theorem B3:ug vH:=by intro x;cases x<;>(intro h;cases h)
def pR:cD→nE
  | .r0 b2=>⟨.bool false b2,[]⟩
def B4(b1:Bool) :aG:=⟨aF 41 [(2,.bool false b1)],[],0⟩
def B5(a_0 : Int)(a_1 : Int)(a_2 : Int)(a_4 : List Int)(a_5 : Int)(a_6 : Int) : T ((Bool) ⊕ (cD)) :=
  .ask (decide (a_1 ≥ (0 : Int)))
    (.ask (decide (a_1 ≤ (512 : Int)))
      (.ask (decide (a_2 ≥ (0 : Int)))
        (.ask (decide (a_2≤(512:Int)))
          (.need (kJ .i64 (a_1*a_2))<|.ask ((((List.length a_4):Nat):Int)==(a_1*a_2))
            (.need (ue 0 (List.length a_4) a_4)<|.need (eU (dp a_0 a_5 a_6))<|.ask (fm (dp a_0 a_5 a_6))
              (.ask (a_1 == a_2)
                (.leaf (.inl true))
                (.alt 0
                  (.need (a_0==(1:Int))<|.leaf (.inl false))
                  (.alt 1
                    (.need (a_0==(2:Int))<|.leaf (.inl false))
                    (.alt 2
                      (.need (a_0==(3:Int))<|.leaf (.inl true))
                      (.alt 3
                        (.need (a_0==(4:Int))<|.leaf (.inl true))
                        (.alt 4
                          (.need (a_0==(5:Int))<|.leaf (.inl true))
                          (.alt 5
                            (.need (a_0==(6:Int))<|.leaf (.inl true))
                            (.alt 6
                              (.need (!(a_0==(1:Int)))<|.need (!(a_0==(2:Int)))<|.need (!(a_0==(3:Int)))<|.need (!(a_0==(4:Int)))<|.need (!(a_0==(5:Int)))<|.need (!(a_0==(6:Int)))<|.leaf (.inl true))
                              (.fail)))))))))
              (.leaf (.inl false)))
            (.leaf (.inl false)))
          (.leaf (.inl false)))
        (.leaf (.inl false)))
      (.leaf (.inl false)))
    (.leaf (.inl false))
def B6(b1:Bool) :T ((Empty)⊕(cD)) :=
  .leaf (.inr (.r0 b1))
noncomputable def kv(a_0:Int)(a_1:Int)(a_2:Int)(a_4:List Int)(a_5:Int)(a_6:Int) :Option cD:=Au (ch ((B5 a_0 a_1 a_2 a_4 a_5 a_6).run) fun b1 =>
  (B6 b1).run)
theorem tf(a_0:Int)(a_1:Int)(a_2:Int)(v_3:Lv)(a_4:List Int)(a_5:Int)(a_6:Int){x:cD}(h:kv a_0 a_1 a_2 a_4 a_5 a_6=some x) :ao prog vu [] [.agg [.int .i64 a_0,.int .i64 a_1,.int .i64 a_2,.imm v_3 (.ns .u64 a_4) 1 1 0 (List.length a_4),.int .i64 a_5,.int .u64 a_6]] (pR x) :=
  DS false pR vH h (Sg.cut 2 B3 (eL ku B4 [⟨[],[],[2]⟩,⟨[],[],[2]⟩,⟨[],[],[2]⟩,⟨[],[],[2]⟩,⟨[],[],[2]⟩,⟨[],[],[2]⟩,⟨[],[],[2]⟩,⟨[],[],[2]⟩,⟨[],[],[2]⟩,⟨[],[],[2]⟩,⟨[],[],[2]⟩,⟨[],[],[2]⟩,⟨[],[],[2]⟩,⟨[],[],[2]⟩]) (fun b1=>eL ku Av [⟨[],[],[2]⟩]))
    (fun x=>by cases x with | r0 b2=>exact uh [.bool false b2])
def ly:Option cD→Bool
  | some _=>true
  | none=>false
def mc:Option cD→Bool
  | some (.r0 x)=>x
  | _=>false
theorem B7{x:Option cD}(h:ly x=true) :x=some (.r0 (mc x)):=by
  unfold ly at h
  split at h<;>first | rfl | (cases h;done) | (rename_i y;cases y;rfl)
noncomputable def vI:aU:=eh vu (.cons (.agg (.cons (.int .i64) (.cons (.int .i64) (.cons (.int .i64) (.cons (.ns .u64) (.cons (.int .i64) (.cons (.int .u64) .nil))))))) .nil) fun t=>(fun q=>[⟨pR (.r0 (mc q)),[ly q]⟩]) (kv t.1.1 t.1.2.1 t.1.2.2.1 t.1.2.2.2.1.2 t.1.2.2.2.2.1 t.1.2.2.2.2.2.1)
theorem yC:bm prog vI:=bA fun t=>(bQ (fun h=>tf t.1.1 t.1.2.1 t.1.2.2.1 t.1.2.2.2.1.1 t.1.2.2.2.1.2 t.1.2.2.2.2.1 t.1.2.2.2.2.2.1 (B7 h)) cC)
noncomputable def vJ:List aU:=vI::rp
theorem eV:bC prog (bG vJ):=aE yC ku
inductive bK where
  | r0 (s7:ByteArray)
def tg:bK→AE×aG
  | .r0 s7=>(.ret,⟨aF 29 [(2,.str s7)],[],0⟩)
theorem ng:ug tg:=by intro x;cases x<;>(intro h;cases h)
def ou:bK→nE
  | .r0 s7=>⟨.str s7,[]⟩
def AH(a_0:Int)(a_1:Int)(a_2:Int)(v_3:Lv)(a_4:List Int)(a_5:Int)(a_6:Int) :ByteArray×Nat×Bool×Bool→aG:=fun (s1,a2,b3,b4)=>⟨aF 29 [(1,.ptr 0 1 0 0),(3,.ptr 1 1 0 0)],[(0,.vs [.int .i64 a_0,.int .i64 a_1,.int .i64 a_2,.imm v_3 (.ns .u64 a_4) 1 1 0 (List.length a_4),.int .i64 a_5,.int .u64 a_6]),(1,.vs [.str s1,.int .i64 ((a2:Nat):Int),.bool false b3,.bool false b4])],2⟩
def AI(a_0 : Int) : T ((ByteArray × Nat × Bool × Bool) ⊕ (bK)) :=
  .alt 0
    (.need (a_0==(1:Int))<|.leaf (.inl ((ByteArray.mk #[101,105,103,101,110]),3,false,true)))
    (.alt 1
      (.need (a_0==(2:Int))<|.leaf (.inl ((ByteArray.mk #[118,97,108,117,101,115]),0,false,true)))
      (.alt 2
        (.need (a_0==(3:Int))<|.leaf (.inl ((ByteArray.mk #[115,118,100]),2,false,false)))
        (.alt 3
          (.need (a_0==(4:Int))<|.leaf (.inl ((ByteArray.mk #[114,97,110,107]),2,true,false)))
          (.alt 4
            (.need (a_0==(5:Int))<|.leaf (.inl ((ByteArray.mk #[105,110,118,101,114,115,101]),2,true,false)))
            (.alt 5
              (.need (a_0==(6:Int))<|.leaf (.inl ((ByteArray.mk #[99,111,110,100]),2,false,false)))
              (.alt 6
                (.need (!(a_0==(1:Int)))<|.need (!(a_0==(2:Int)))<|.need (!(a_0==(3:Int)))<|.need (!(a_0==(4:Int)))<|.need (!(a_0==(5:Int)))<|.need (!(a_0==(6:Int)))<|.leaf (.inl (ByteArray.empty,0,false,false)))
                (.fail)))))))
def AJ(a_0:Int)(a_1:Int)(a_2:Int)(v_3:Lv)(a_4:List Int)(a_5:Int)(a_6:Int)(s1:ByteArray)(a2:Nat)(b3:Bool)(b4:Bool)(s5:ByteArray) :aG:=⟨aF 29 [(1,.ptr 0 1 0 0),(3,.ptr 1 1 0 0),(4,.str s5)],[(0,.vs [.int .i64 a_0,.int .i64 a_1,.int .i64 a_2,.imm v_3 (.ns .u64 a_4) 1 1 0 (List.length a_4),.int .i64 a_5,.int .u64 a_6]),(1,.vs [.str s1,.int .i64 ((a2:Nat):Int),.bool false b3,.bool false b4])],2⟩
def rq(a_5:Int)(s1:ByteArray)(a2:Nat) :T ((ByteArray)⊕(bK)) :=
  .ask (decide (((a2:Nat):Int)>(0:Int)))
    (.need (kJ .i64 a_5)<|.need (decide ((ByteArray.mk #[32]).size+(bR a_5).size≤9223372036854775807))<|.need (decide (s1.size+((ByteArray.mk #[32])++(bR a_5)).size≤9223372036854775807))<|.leaf (.inl (s1++((ByteArray.mk #[32])++(bR a_5)))))
    (.leaf (.inl s1))
def AK(s6:ByteArray) :aG:=⟨aF 29 [(4,.str s6)],[],0⟩
def AL(a_6:Int)(b3:Bool)(s5:ByteArray) :T ((ByteArray)⊕(bK)) :=
  .ask b3
    (.need (decide ((ByteArray.mk #[32]).size+(bd a_6).size≤9223372036854775807))<|.need (decide (s5.size+((ByteArray.mk #[32])++(bd a_6)).size≤9223372036854775807))<|.leaf (.inl (s5++((ByteArray.mk #[32])++(bd a_6)))))
    (.leaf (.inl s5))
def AM(s6:ByteArray) :T ((Empty)⊕(bK)) :=
  .leaf (.inr (.r0 s6))
noncomputable def jr(a_0:Int)(a_5:Int)(a_6:Int) :Option bK:=Au (ch ((AI a_0).run) fun (s1,a2,b3,b4) =>
  ch ((rq a_5 s1 a2).run) fun s5 =>
  ch ((AL a_6 b3 s5).run) fun s6 =>
  (AM s6).run)
theorem rr(a_0:Int)(a_1:Int)(a_2:Int)(v_3:Lv)(a_4:List Int)(a_5:Int)(a_6:Int){x:bK}(h:jr a_0 a_5 a_6=some x) :ao prog sS [] [.agg [.int .i64 a_0,.int .i64 a_1,.int .i64 a_2,.imm v_3 (.ns .u64 a_4) 1 1 0 (List.length a_4),.int .i64 a_5,.int .u64 a_6]] (ou x) :=
  DS false ou tg h (Sg.cut 2 ng (eL eV (AH a_0 a_1 a_2 v_3 a_4 a_5 a_6) [⟨[],[0,96],[1,3]⟩,⟨[],[0,96],[1,3]⟩,⟨[],[0,96],[1,3]⟩,⟨[],[0,96],[1,3]⟩,⟨[],[0,96],[1,3]⟩,⟨[],[0,96],[1,3]⟩,⟨[],[0,96],[1,3]⟩]) (fun ⟨s1,a2,b3,b4⟩=>Sg.cut 3 ng (eL eV (AJ a_0 a_1 a_2 v_3 a_4 a_5 a_6 s1 a2 b3 b4) [⟨[],[0,1],[1,3,4]⟩,⟨[],[0,1],[1,3,4]⟩]) (fun s5=>Sg.cut 2 ng (eL eV AK [⟨[],[],[4]⟩,⟨[],[],[4]⟩]) (fun s6=>eL eV Av [⟨[],[],[2]⟩]))))
    (fun x=>by cases x with | r0 s7=>exact uh [.str s7])
def kw:Option bK→Bool
  | some _=>true
  | none=>false
def kQ:Option bK→ByteArray
  | some (.r0 x)=>x
  | _=>ByteArray.empty
theorem AN{x:Option bK}(h:kw x=true) :x=some (.r0 (kQ x)):=by
  unfold kw at h
  split at h<;>first | rfl | (cases h;done) | (rename_i y;cases y;rfl)
noncomputable def th:aU:=eh sS (.cons (.agg (.cons (.int .i64) (.cons (.int .i64) (.cons (.int .i64) (.cons (.ns .u64) (.cons (.int .i64) (.cons (.int .u64) .nil))))))) .nil) fun t=>(fun q=>[⟨ou (.r0 (kQ q)),[kw q]⟩]) (jr t.1.1 t.1.2.2.2.2.1 t.1.2.2.2.2.2.1)
theorem wU:bm prog th:=bA fun t=>(bQ (fun h=>rr t.1.1 t.1.2.1 t.1.2.2.1 t.1.2.2.2.1.1 t.1.2.2.2.1.2 t.1.2.2.2.2.1 t.1.2.2.2.2.2.1 (AN h)) cC)
noncomputable def tj:List aU:=th::vJ
theorem wV:bC prog (bG tj):=aE wU eV
end
end Go.Plb.Seat
namespace Go.Plb.Seat
open Go Go.Plb
set_option linter.unusedSimpArgs false
set_option linter.unusedVariables false
set_option maxRecDepth 100000
def nh(k:Int) :Bool×ByteArray×Nat×Bool×Bool :=
  if k=1 then (true,ByteArray.mk #[101,105,103,101,110],3,false,true)
  else if k=2 then (true,ByteArray.mk #[118,97,108,117,101,115],0,false,true)
  else if k=3 then (true,ByteArray.mk #[115,118,100],2,false,false)
  else if k=4 then (true,ByteArray.mk #[114,97,110,107],2,true,false)
  else if k=5 then (true,ByteArray.mk #[105,110,118,101,114,115,101],2,true,false)
  else if k=6 then (true,ByteArray.mk #[99,111,110,100],2,false,false)
  else (false,ByteArray.empty,0,false,false)
def fg(k y t:Int) :Bool:=bif (nh k).1 then bif decide (y≥nY 1 ((nh k).2.2.1:Nat)) then bif decide (y≤((nh k).2.2.1:Nat)) then bif (nh k).2.2.2.1 then true else t==0 else false else false else false
def rt(k m n:Int)(len:Nat)(y t:Int) :Bool :=
  bif decide (m≥0) then bif decide (m≤512) then bif decide (n≥0) then bif decide (n≤512) then bif (len:Int)==m*n then bif fg k y t then bif m==n then true else !(nh k).2.2.2.2 else false else false else false else false else false else false
def wW:ByteArray:=ByteArray.mk #[32]
def fG(k y t:Int) :ByteArray :=
  let s:=bif decide (((nh k).2.2.1:Int)>0) then (nh k).2.1++(wW++bR y) else (nh k).2.1
  bif (nh k).2.2.2.1 then s++(wW++bd t) else s
def eW(m n:Int) :ByteArray:=((ByteArray.mk #[109,97,116,114,105,120,32]++bR m)++wW)++bR n
def ru(ws:List Int) :ByteArray:=oQ (ws.map bd)
theorem wX{α:Type}(f:Bool×ByteArray×Nat×Bool×Bool→α)(k:Int) :(T.alt 0 (.need (k==(1:Int))<|.leaf (f (nh 1))) (.alt 1 (.need (k==(2:Int))<|.leaf (f (nh 2))) (.alt 2 (.need (k==(3:Int))<|.leaf (f (nh 3))) (.alt 3 (.need (k==(4:Int))<|.leaf (f (nh 4))) (.alt 4 (.need (k==(5:Int))<|.leaf (f (nh 5))) (.alt 5 (.need (k==(6:Int))<|.leaf (f (nh 6)))
    (.alt 6 (.need (!(k==(1:Int)))<|.need (!(k==(2:Int)))<|.need (!(k==(3:Int)))<|.need (!(k==(4:Int)))<|.need (!(k==(5:Int)))<|.need (!(k==(6:Int)))<|.leaf (f (false,ByteArray.empty,0,false,false))) .fail))))))).run=some (f (nh k)):=by
  by_cases h1:k=1
  · subst h1;rfl
  by_cases h2:k=2
  · subst h2;rfl
  by_cases h3:k=3
  · subst h3;rfl
  by_cases h4:k=4
  · subst h4;rfl
  by_cases h5:k=5
  · subst h5;rfl
  by_cases h6:k=6
  · subst h6;rfl
  have e:nh k=(false,ByteArray.empty,0,false,false):=by simp [nh,h1,h2,h3,h4,h5,h6]
  rw [e]
  have q:∀ j:Int,¬ k=j→(k==j)=false:=fun j h=>beq_eq_false_iff_ne.2 h
  simp [T.run,q _ h1,q _ h2,q _ h3,q _ h4,q _ h5,q _ h6]
theorem ju(k y t:Int) :dp k y t=some (.r0 (fg k y t)):=by
  refine cN (ay (a:=nh k) (wX (fun x=>(Sum.inl x:(Bool×ByteArray×Nat×Bool×Bool)⊕bH)) k) ?_)
  generalize h:nh k=p
  obtain ⟨b,w,n,tt,sq⟩:=p
  refine ay (a:=fg k y t) ?_ rfl
  unfold fg
  rw [h]
  simp only [ql,T.run]
  generalize decide (y≥nY (1:Int) (n:Int))=z1
  generalize decide (y≤(n:Int))=z2
  cases b<;>cases z1<;>cases z2<;>cases tt<;>rfl
theorem tl(k m n:Int)(ws:List Int)(y t:Int) :kv k m n ws y t=some (.r0 (rt k m n ws.length y t)):=by
  refine cN (ay (a:=rt k m n ws.length y t) ?_ rfl)
  unfold rt
  cases h1:decide (m≥0) with
  | false=>exact lG h1 rfl
  | true =>
    refine lF h1 ?_
    cases h2:decide (m≤512) with
    | false=>exact dK rfl
    | true =>
      refine bo ?_
      cases h3:decide (n≥0) with
      | false=>exact dK rfl
      | true =>
        refine bo ?_
        cases h4:decide (n≤512) with
        | false=>exact dK rfl
        | true =>
          refine bo (aC ?_ ?_)
          · have g1:=of_decide_eq_true h1
            have g2:=of_decide_eq_true h2
            have g3:=of_decide_eq_true h3
            have g4:=of_decide_eq_true h4
            have:=Int.mul_le_mul g2 g4 g3 (by omega)
            have:=Int.mul_nonneg g1 g3
            rw [bV];omega
          cases h5:((ws.length:Int)==m*n) with
          | false=>exact dK rfl
          | true =>
            refine bo (aC (by simp [ue]) (aC (by rw [ju];rfl) ?_))
            cases h6:fg k y t with
            | false=>exact lG (by rw [ju];exact h6) rfl
            | true =>
              refine lF (by rw [ju];exact h6) ?_
              cases h7:(m==n) with
              | true=>exact bo rfl
              | false=>exact dK (wX (fun x=>(Sum.inl (!x.2.2.2.2):Bool⊕cD)) k)
theorem IR(w:Int) :(Ax w).length=16:=by simp [Ax]
theorem AO(l:List Int) :(jN l).size=l.length:=by
  have key:∀ (l:List Int) (r:ByteArray),(l.foldl (fun r n=>r.push (UInt8.ofNat n.toNat)) r).size=r.size+l.length:=by
    intro l
    induction l with
    | nil=>intro r;rfl
    | cons x l ih=>intro r;rw [List.foldl_cons,ih,ByteArray.size_push,List.length_cons];omega
  have:=key l ByteArray.empty
  simpa [jN] using this
theorem pS(w:Int) :(bd w).size=16:=by rw [bd,AO,IR]
theorem wY:∀ l:List ByteArray,(oP l).length≤(l.map fun s=>s.size+1).sum
  | []=>by simp [oP]
  | [x]=>by
    simp only [oP,List.map_cons,List.map_nil,List.sum_cons,List.sum_nil,Array.length_toList]
    show x.size≤_
    omega
  | x::y::r=>by
    have:=wY (y::r)
    simp only [oP,List.map_cons,List.sum_cons,List.length_append,List.length_cons] at this ⊢
    simp only [ByteArray.size,Array.length_toList] at this ⊢
    omega
theorem AP(l:List ByteArray) :(oQ l).size=(oP l).length:=by simp [oQ,ByteArray.size]
theorem AQ:∀ f n,(BP f n).length≤f
  | 0,_=>by simp [BP]
  | f+1,n=>by
    have:=AQ f (n/10)
    rw [BP]
    split<;>simp<;>omega
theorem kR(n:Int) :(bR n).size≤21:=by
  have:(bR n).size=(Fo n).length:=by simp [bR,ByteArray.size]
  rw [this,Fo]
  have h1:=AQ 20 n.natAbs
  have h2:=AQ 20 n.toNat
  split<;>simp<;>omega
theorem rv(m n:Int)(hm:kJ .i64 m=true)(hn:kJ .i64 n=true) :dh m n=some (.r0 (eW m n)):=by
  refine cN ?_
  have h1:=kR m
  have h2:=kR n
  have e1:(ByteArray.mk #[109,97,116,114,105,120,32]).size=7:=rfl
  have e2:(ByteArray.mk #[32]).size=1:=rfl
  refine aC hm (aC ?_ (aC ?_ (aC hn (aC ?_ rfl))))
  all_goals simp only [ByteArray.size_append,e1,e2,decide_eq_true_eq];omega
theorem Fr(k:Int) :(nh k).2.1.size≤7:=by
  unfold nh
  repeat' split
  all_goals decide
theorem rx(k y t:Int)(hy:kJ .i64 y=true) :jr k y t=some (.r0 (fG k y t)):=by
  have hw:=Fr k
  refine cN (ay (a:=(nh k).2) (wX (fun x=>(Sum.inl x.2:(ByteArray×Nat×Bool×Bool)⊕bK)) k) ?_)
  generalize h:nh k=p at hw
  obtain ⟨b,w,n,tt,sq⟩:=p
  have hw:w.size≤7:=hw
  have h1:=kR y
  have h2:=pS t
  have e2:(ByteArray.mk #[32]).size=1:=rfl
  have hs1:(rq y w n).run=some (.inl (bif decide ((n:Int)>0) then w++(wW++bR y) else w)):=by
    cases hz:decide ((n:Int)>0) with
    | false=>exact lG hz rfl
    | true =>
      refine lF hz (aC hy (aC ?_ (aC ?_ rfl)))
      all_goals simp only [ByteArray.size_append,e2,decide_eq_true_eq];omega
  have hsz:(bif decide ((n:Int)>0) then w++(wW++bR y) else w).size≤29:=by
    have e3:wW.size=1:=rfl
    cases decide ((n:Int)>0)<;>simp only [cond_true,cond_false,ByteArray.size_append,e3]<;>omega
  unfold fG
  rw [h]
  refine ay hs1 ?_
  generalize (bif decide ((n:Int)>0) then w++(wW++bR y) else w)=s5 at hsz
  refine ay (a:=bif tt then s5++(wW++bd t) else s5) ?_ rfl
  cases tt with
  | false=>exact dK rfl
  | true =>
    refine bo (aC ?_ (aC ?_ rfl))
    all_goals simp only [ByteArray.size_append,e2,decide_eq_true_eq];omega
theorem tm(ws:List Int)(h:ws.length≤1000000) :kr ws=some (.r0 (ru ws)):=by
  have hsz:(ru ws).size≤17*ws.length:=by
    have:=wY (ws.map bd)
    rw [ru,AP]
    have e:((ws.map bd).map fun s=>s.size+1).sum=17*ws.length:=by
      clear this h
      induction ws with
      | nil=>rfl
      | cons x l ih=>simp only [List.map_cons,List.sum_cons,List.length_cons,pS] at ih ⊢;omega
    omega
  refine cN (ay rfl (ay (a:=(ws.length,ws.length,ws.map bd)) (vB (fun j=>(j,j,j,(ws.take j).map bd)) ws.length rfl (fun j hj=>?_) ?_) ?_))
  · have hl:((ws.take j).map bd).length=j:=by rw [List.length_map,List.length_take];omega
    have hg:ws[j]? = some (ws.getD j 0):=by rw [List.getD_eq_getElem?_getD,List.getElem?_eq_getElem hj];rfl
    have hn:List.take j ((ws.take j).map bd)++List.take 1 [bd (ws.getD j 0)]=(ws.take (j+1)).map bd:=by
      rw [List.take_of_length_le (by omega),List.take_add_one (l:=ws),hg,List.map_append];rfl
    rw [←hn]
    refine lF (by simp;omega) (aC (by rw [xY];omega) (aC (by rw [mz];omega) (aC (by rw [dD];omega) (aC (by rw [dD];omega) (bB (aC (by rw [dD];omega) (aC (by rw [bV];omega) rfl)))))))
  · rw [List.take_length]
    exact lG (by simp) rfl
  · show (mZ ws.length (ws.map bd)).run=_
    have hc:ba 0 ws.length (ws.map bd)=ws.map bd:=by
      have:=Ak (ws.map bd)
      rwa [List.length_map] at this
    rw [mZ,hc]
    refine aC (by simp [ue]) (bB (aC ?_ (aC ?_ rfl)))
    · show Nat.ble (ru ws).size 1000000000=true
      exact Nat.ble_eq_true_of_le (by omega)
    · show Nat.ble (ws.map bd).length 1000000000=true
      rw [List.length_map]
      exact Nat.ble_eq_true_of_le (by omega)
end Go.Plb.Seat
namespace Go.Plb.Seat
open Go Go.Plb Go.Proofs Go.RowKit Go.Shelf
set_option maxRecDepth 100000
set_option linter.unusedSimpArgs false
set_option linter.unusedVariables false
attribute [local go_sem] Oper.semAt_some
set_option maxHeartbeats 2000000 in
theorem KO (d l cb nb : Nat) (p : Option Addr) (m n cap : Nat) (hn : 1 ≤ n) (hL : m * n ≤ 1000000) (hcap : m * n ≤ cap) (hp : 1 ≤ m → p.isSome = true) (W : World) (J : Option Nat → World → Prop)
    (hJb : ∀ i W', J (some i) W' → W'.heap[cb]? = W.heap[cb]? ∧ W'.heap[nb]? = W.heap[nb]?) (hJm : ∀ i W' W'', J i W' → Below W'.heap.size W' W'' → J i W'')
    (hY : ∀ j a W', j < m → p = some a → J (some j) W' → YieldAt Fence.wide d prog l #[.slice (some (a.add (j * n))) n n] W' (fun e W'' => (e = .returned (.bool true) ∧ J (some (j + 1)) W'') ∨ (e = .returned (.bool false) ∧ J none W'')))
    (hc : Boxed W cb 22 (.slice p (m * n) cap)) (hnb : Boxed W nb 3 (.int .i64 n)) (h0 : J (some 0) W) :
    CallsIn Fence.wide (d + 1) prog 71 #[.func (.yield l) #[] #[], .pointer (some ⟨cb, 0, none⟩), .pointer (some ⟨nb, 0, none⟩)] W (fun e W' => (∃ v, e = .returned v) ∧ (J (some m) W' ∨ J none W')) := by
  refine callsIn_of_wp Tryd.func71 rfl trivial ?_ rfl
  simp only [Tryd.ntmps71, List.size_toArray, List.length_cons, List.length_nil, Nat.reduceAdd, Nat.reduceSub, Array.replicate_succ, Array.replicate_zero, List.push_toArray, List.append_toArray, List.nil_append, List.cons_append]
  gi_wp2
  gi_loopw [4] (fun t W' => ∃ (j i : Nat), t = .int .i64 (i : Nat) ∧ i = j * n ∧ j ≤ m ∧ J (some j) W') (fun t _ => m * n - (intOf t).toNat)
  case atStart => exact ⟨0, 0, rfl, by simp, Nat.zero_le _, h0⟩
  case round =>
    obtain ⟨j, i, rfl, hi, hj, hJ⟩ := hrel
    have hb := hJb j wr hJ
    have hc' : Boxed wr cb 22 (.slice p (m * n) cap) := hb.1.trans hc
    have hn' : Boxed wr nb 3 (.int .i64 n) := hb.2.trans hnb
    have c1 := hc'.cell
    have c2 := hn'.cell
    generalize hLe : m * n = L at *
    have hlt : i < L ↔ j < m := by
      rw [hi, ← hLe]
      exact ⟨fun h => Nat.lt_of_mul_lt_mul_right h, fun h => Nat.mul_lt_mul_of_pos_right h (by omega)⟩
    by_cases hjm : j < m
    · have h1 : i < L := hlt.2 hjm
      have h2 : i + n ≤ L := by
        rw [hi, ← hLe]
        calc j * n + n = (j + 1) * n := by rw [Nat.add_mul, Nat.one_mul]
          _ ≤ m * n := Nat.mul_le_mul_right n hjm
      obtain ⟨a, rfl⟩ := Option.isSome_iff_exists.1 (hp (by omega))
      have hJ' : J (some j) wr.drew := hJm _ _ _ hJ (Below.refl _ _).drew
      have hY' := hY j a wr.drew hjm rfl hJ'
      rw [← hi] at hY'
      obtain ⟨fn', tmps', assign', body', hy', hR'⟩ := hY'
      replace hi := Lib.hid hi
      clear hlt
      gi_wp2
      gi_region
      rw [show min (n : Int) ((L - i : Nat) : Int) = (n : Int) by omega]
      gi_wp2
      refine hR'.mono ?_
      rintro e W3 (⟨rfl, hJ3⟩ | ⟨rfl, hJ3⟩)
      · have hb3 := hJb (j + 1) W3 hJ3
        have c3 := (show Boxed W3 nb 3 (.int .i64 n) from hb3.2.trans hnb).cell
        gi_wp2
        go_roundw
        case rel => exact ⟨j + 1, i + n, by go_num, by rw [hi.out, Nat.add_mul, Nat.one_mul], by omega, hJ3⟩
        case measure => simp [intOf]; omega
      · gi_wp2
        refine bodyPost_ret (results_none rfl _ _ _) rfl ?_
        exact ⟨⟨_, rfl⟩, .inr hJ3⟩
    · have h1 : ¬ i < L := fun h => hjm (hlt.1 h)
      have hjm' : j = m := by omega
      gi_wp2
      go_end0
      exact ⟨⟨_, rfl⟩, .inl (hjm' ▸ hJ)⟩
theorem Fs(p:Option Addr)(len cap n:Nat)(hn:1≤n)(w:World) :Calls prog 60 #[.slice p len cap,.int .i64 n] w fun e w' =>
    e=.returned (.func (.func 71) #[] #[.pointer (some ⟨w.heap.size,0,none⟩),.pointer (some ⟨w.heap.size+1,0,none⟩)])∧w'=(w.alloc (.cells #[.slice p len cap] 22)).alloc (.cells #[.int .i64 n] 3):=by
  have hmf:∀ (fn:Fn) (first cap:Array Value) (w:World),(Instr.makeFunc fn first cap).run prog w=.ok (.func fn first cap) w:=fun _ _ _ _=>rfl
  go_enter Tryd.func60,Tryd.ntmps60
  go_wp2
  go_ret
  exact ⟨rfl,rfl⟩
def cO(k m n:Int)(ws:List Int)(y t:Int) :List ByteArray :=
  bif rt k m n ws.length y t then eW m n::((bif decide (n>0) then (List.range m.toNat).map (fun i=>ru ((ws.drop (i*n.toNat)).take n.toNat)) else [])++[fG k y t]) else []
abbrev GJ(k m n:Int)(vw:Value)(y t:Int) :Array Value:=#[.int .i64 k,.int .i64 m,.int .i64 n,vw,.int .i64 y,.int .u64 t]
abbrev hX(ws:List Int) :AV:=.imm .free (.ns .u64 ws) 1 1 0 ws.length
theorem CE(k m n:Int)(ws:List Int)(vw:Value)(y t:Int)(w:World)(hr:eS w)(hv:VR ae.none_ w (hX ws) vw) :
    Calls prog 41 #[.agg (GJ k m n vw y t)] w fun e w'=>e=.returned (.bool (rt k m n ws.length y t))∧Below w.heap.size w w':=by
  have h:=tf k m n .free ws y t (tl k m n ws y t)
  refine (ao.calls (v:=.bool false (rt k m n ws.length y t)) h w hr (us:=[.agg (GJ k m n vw y t)]) (.cons _ _ _ _ (.agg _ _ (.cons _ _ _ _ (.int _ _) (.cons _ _ _ _ (.int _ _) (.cons _ _ _ _ (.int _ _) (.cons _ _ _ _ hv (.cons _ _ _ _ (.int _ _) (.cons _ _ _ _ (.int _ _) .nil))))))) .nil)).mono ?_
  rintro e w' ⟨u,ρ',rfl,hb,hu⟩
  cases hu
  exact ⟨rfl,hb⟩
theorem GM(k m n:Int)(ws:List Int)(vw:Value)(y t:Int)(hy:kJ .i64 y=true)(w:World)(hr:eS w)(hv:VR ae.none_ w (hX ws) vw) :
    Calls prog 35 #[.agg (GJ k m n vw y t)] w fun e w'=>e=.returned (.string (fG k y t))∧Below w.heap.size w w':=by
  have h:=rr k m n .free ws y t (rx k y t hy)
  refine (ao.calls (v:=.str (fG k y t)) h w hr (us:=[.agg (GJ k m n vw y t)]) (.cons _ _ _ _ (.agg _ _ (.cons _ _ _ _ (.int _ _) (.cons _ _ _ _ (.int _ _) (.cons _ _ _ _ (.int _ _) (.cons _ _ _ _ hv (.cons _ _ _ _ (.int _ _) (.cons _ _ _ _ (.int _ _) .nil))))))) .nil)).mono ?_
  rintro e w' ⟨u,ρ',rfl,hb,hu⟩
  cases hu
  exact ⟨rfl,hb⟩
theorem GN(m n:Int)(hm:kJ .i64 m=true)(hn:kJ .i64 n=true)(w:World)(hr:eS w) :Calls prog 59 #[.int .i64 m,.int .i64 n] w fun e w'=>e=.returned (.string (eW m n))∧Below w.heap.size w w':=by
  have h:=rl m n (rv m n hm hn)
  refine (ao.calls (v:=.str (eW m n)) h w hr (us:=[.int .i64 m,.int .i64 n]) (.cons _ _ _ _ (.int _ _) (.cons _ _ _ _ (.int _ _) .nil))).mono ?_
  rintro e w' ⟨u,ρ',rfl,hb,hu⟩
  cases hu
  exact ⟨rfl,hb⟩
theorem IS(ws:List Int)(h6:ws.length≤1000000)(vw:Value)(w:World)(hr:eS w)(hv:VR ae.none_ w (hX ws) vw) :Calls prog 11 #[vw] w fun e w'=>e=.returned (.string (ru ws))∧Below w.heap.size w w':=by
  have h:=ta .free ws (tm ws h6)
  refine (ao.calls (v:=.str (ru ws)) h w hr (us:=[vw]) (.cons _ _ _ _ hv .nil)).mono ?_
  rintro e w' ⟨u,ρ',rfl,hb,hu⟩
  cases hu
  exact ⟨rfl,hb⟩
theorem lI{k m n:Int}{len:Nat}{y t:Int}(h:rt k m n len y t=true) :0≤m∧m≤512∧0≤n∧n≤512∧(len:Int)=m*n∧0≤y∧y≤3:=by
  unfold rt at h
  simp only [Bool.cond_eq_ite,Bool.if_false_right,Bool.and_eq_true,decide_eq_true_eq,beq_iff_eq,ge_iff_le] at h
  obtain ⟨h1,h2,h3,h4,h5,h6,_⟩:=h
  refine ⟨h1,h2,h3,h4,h5,?_⟩
  unfold fg at h6
  simp only [Bool.cond_eq_ite,Bool.if_false_right,Bool.and_eq_true,decide_eq_true_eq,beq_iff_eq,ge_iff_le] at h6
  obtain ⟨_,g1,g2,_⟩:=h6
  have hk:(nh k).2.2.1≤3:=by
    unfold nh
    repeat' split
    all_goals decide
  have g3:nY 1 ((nh k).2.2.1:Nat)≥0:=by unfold nY;split<;>omega
  omega
theorem vK(w:World) :(isAgg 37).run prog w=.ok true w:=mE (by kernel_rfl)
theorem ry(w:World) :(sizeOf 37).run prog w=.ok 6 w:=by
  have hi:(prog.info? 37).map (·.size)=some 6:=by kernel_rfl
  cases hq:prog.info? 37 with
  | none=>rw [hq] at hi;cases hi
  | some i =>
    rw [hq] at hi
    simp only [Option.map_some,Option.some.injEq] at hi
    simp [sizeOf,Sem.run_bind,typeInfo,hq,hi]
theorem cv{W:World}{k:Nat}{o:Obj}(h:W.heap[k]? = some o) :k<W.heap.size:=(Array.getElem?_eq_some_iff.1 h).1
structure IT (B ab:Nat) (k m n:Int) (ws:List Int) (vw:Value) (y t:Int) (J:Option Nat→World→Prop):Prop where
  ask:∀ i W,J (some i) W→W.heap[ab]? = some (.cells (GJ k m n vw y t) 37 (0,0))∧eS W∧VR ae.none_ W (hX ws) vw
  mono:∀ i W W',J i W→Below W.heap.size W W'→J i W'
  put:∀ i W r o o',J i W→B≤r→W.heap[r]? = some o'→o'.isCells=false→J i (W.putObj r o)
def Ft(o:Obj) :Prop:=∀ c fz,o ≠ .cells c 5 fz
def wZ(B:Nat)(W W':World) :Prop:=W.heap.size≤W'.heap.size∧∀ r o,B≤r→W.heap[r]? = some o→Ft o→W'.heap[r]? = some o
theorem lJ{c:Array Value}{t:TypeId}{fz:Nat×Nat}(h:t≠5) :Ft (.cells c t fz):=fun _ _ e=>by injection e with _ e;exact h e
theorem sf(l:Option (List Deferred)) :Ft (.deferred l):=fun _ _ e=>by cases e
theorem AR(l:Loop) :Ft (.loop l):=fun _ _ e=>by cases e
structure LF (ab bx:Nat) (l:Nat) (k m n:Int) (ws:List Int) (vw:Value) (y t:Int) (W:World):Prop where
  c0:W.cell? ⟨ab,0,none⟩=some (.int .i64 k)
  c1:W.cell? ⟨ab,1,none⟩=some (.int .i64 m)
  c2:W.cell? ⟨ab,2,none⟩=some (.int .i64 n)
  c3:W.cell? ⟨ab,3,none⟩=some vw
  c4:W.cell? ⟨ab,4,none⟩=some (.int .i64 y)
  c5:W.cell? ⟨ab,5,none⟩=some (.int .u64 t)
  cb:W.cell? ⟨bx,0,none⟩=some (.func (.yield l) #[] #[])
  rom:eS W
  hv:VR ae.none_ W (hX ws) vw
theorem LF.of{ab bx l:Nat}{k m n:Int}{ws:List Int}{vw:Value}{y t:Int}{W:World}(h:W.heap[ab]? = some (.cells (GJ k m n vw y t) 37 (0,0))∧eS W∧VR ae.none_ W (hX ws) vw)(hbx:Boxed W bx 44 (.func (.yield l) #[] #[])) :
    LF ab bx l k m n ws vw y t W:=by
  obtain ⟨h1,h2,h3⟩:=h
  exact ⟨by simp [World.cell?,h1],by simp [World.cell?,h1],by simp [World.cell?,h1],by simp [World.cell?,h1],by simp [World.cell?,h1],by simp [World.cell?,h1],hbx.cell,h2,h3⟩
theorem IT.lf{B ab bx l:Nat}{k m n:Int}{ws:List Int}{vw:Value}{y t:Int}{J:Option Nat→World→Prop}(hI:IT B ab k m n ws vw y t J){i:Nat}{W W':World}(hJ:J (some i) W)(hbx:Boxed W bx 44 (.func (.yield l) #[] #[]))(hb:Below W.heap.size W W') :
    LF ab bx l k m n ws vw y t W':=LF.of (hI.ask i W' (hI.mono _ _ _ hJ hb)) ((hb.block bx hbx.lt).trans hbx)
theorem CF{ρ:ae}{W:World}{ws:List Int}{v:Value}(hv:VR ρ W (hX ws) v) :∃ p cap,v=.slice p ws.length cap∧ws.length≤cap∧(1≤ws.length→p.isSome=true):=by
  generalize hA:hX ws=A at hv
  cases hv with
  | imm bw d k es i len cap bl o u ha hb hc hv hl hr hk hg=>cases hA;exact ⟨_,_,rfl,hl,fun _=>rfl⟩
  | immEnd bw d k es i cap a hr hk hg =>
    simp only [hX,AV.imm.injEq] at hA
    obtain ⟨_,_,_,_,_,h0⟩:=hA
    rw [h0]
    exact ⟨_,_,rfl,Nat.zero_le _,fun h=>by omega⟩
  | _=>cases hA
theorem IU{ρ:ae}{W:World}{ws:List Int}{a:Addr}{cap:Nat}(hv:VR ρ W (hX ws) (.slice (some a) ws.length cap))(j c:Nat)(h:j+c≤ws.length) :VR ρ W (hX ((ws.drop j).take c)) (.slice (some (a.add j)) c c):=by
  have hlen:((ws.drop j).take c).length=c:=by rw [List.length_take,List.length_drop];omega
  by_cases hc0:c=0
  · subst hc0
    show VR ρ W (.imm .free (.ns .u64 _) 1 1 0 _) _
    rw [List.take_zero]
    exact .immEnd _ _ _ _ _ _ _ trivial (fun _=>rfl) rfl
  generalize hA:hX ws=A at hv
  generalize hV:Value.slice (some a) ws.length cap=V at hv
  cases hv with
  | imm bw d k es i len cap bl o u ha hb hc hv hl hr hk hg =>
    cases hA
    cases hV
    have:=VR.imm (ρ:=ρ) (w:=W) .free (.ns .u64 ((ws.drop j).take c)) 1 1 0 c c bl (o+0*1+j) (fun x=>u (j+x)) ha hb (fun x v hx=>?_) (fun x v hx=>?_) (Nat.le_refl _) trivial (fun _=>rfl) rfl
    · show VR ρ W (.imm .free (.ns .u64 ((ws.drop j).take c)) 1 1 0 ((ws.drop j).take c).length) _
      rw [hlen]
      have e1:(Addr.mk bl (o+0*1) none).add j=Addr.mk bl (o+0*1+j+0*1) none:=by simp [Addr.add]
      rw [e1]
      exact this
    all_goals
      simp only [an.cell?,List.getElem?_take,List.getElem?_drop] at hx
      split at hx
      case isFalse=>cases hx
    · have:=hc (j+x) v (by simpa [an.cell?] using hx)
      rw [show o+0*1+j+x=o+(j+x) by omega]
      exact this
    · exact hv (j+x) v (by simpa [an.cell?] using hx)
  | immEnd bw d k es i cap a hr hk hg =>
    simp only [hX,AV.imm.injEq] at hA
    obtain ⟨_,_,_,_,_,h0⟩:=hA
    omega
  | _=>cases hA
noncomputable def AS:Code:=match Tryd.f58.body with
  | some (.seq _ (.seq _ t))=>t
  | _=>.skip
noncomputable def KP:Code:=match AS with
  | .seq _ t=>t
  | _=>.skip
set_option maxHeartbeats 4000000 in
theorem AT (d l ab bx B : Nat) (k m n : Int) (ws : List Int) (vw : Value) (y t : Int) (J : Option Nat → World → Prop) (hI : IT B ab k m n ws vw y t J)
    (hm : rt k m n ws.length y t = true) (hbx : B ≤ bx)
    (hY : ∀ d' j x W', (cO k m n ws y t)[j]? = some x → J (some j) W' → YieldAt Fence.wide (d' + 4) prog l #[.string x] W' (fun e W'' => ∃ b : Bool, e = .returned (.bool b) ∧ J (bif b then some (j + 1) else none) W'' ∧ wZ B W' W''))
    (Q : Exit → Act → World → Prop) (D : List Deferred) (W3 : World) (hQ : ∀ a W', a.defers = D → wZ B W3 W' → J (some (cO k m n ws y t).length) W' ∨ J none W' → Q .normal a W' ∧ Q .ret a W')
    (j : Nat) (hj : (cO k m n ws y t).length = j + 1) (hl : (cO k m n ws y t)[j]? = some (fG k y t)) (h1 : J (some j) W3) (hx : Boxed W3 bx 44 (.func (.yield l) #[] #[])) (u3 u4 u5 u6 u7 u8 u9 u10 u11 u12 u13 u14 u15 u16 u17 u18 u19 u20 u21 u22 u23 u24 u25 u26 u27 u28 u29 u30 u31 u32 u33 Nf : Value) : Code.wpIn Fence.wide (d + 10) prog KP Q { tmps := #[.func (.yield l) #[] #[], .pointer (some ⟨ab, 0, none⟩), .pointer (some ⟨bx, 0, none⟩), u3, u4, u5, u6, u7, u8, u9, u10, u11, u12, u13, u14, u15, u16, u17, u18, u19, u20, u21, u22, u23, u24, u25, u26, u27, u28, u29, u30, u31, u32, u33, Nf], defers := D } W3 := by
  obtain ⟨hm0, hm5, hn0, hn5, hlen, hy0, hy3⟩ := lI hm
  have ky : kJ .i64 y = true := bV.2 (by omega)
  delta KP AS Tryd.f58
  dsimp only
  obtain ⟨c0, c1, c2, c3, c4, c5, cb, rom, hv⟩ := hI.lf h1 hx (Below.refl _ W3).drew
  have ag := vK
  have sz := ry
  have hline := GM k m n ws vw y t ky _ rom hv
  have hY1 := fun W' h => hY (d + 5) j _ W' hl h
  first
    | gi_region_with first
        | (refine ⟨trivial, ?_⟩; gi_at_call 35; refine (callsIn_wide.2 hline).mono ?_; rintro e W1 ⟨rfl, hb1⟩; have hb13 := (Below.refl _ W3).drew.trans hb1; obtain ⟨c10, c11, c12, c13, c14, c15, c1b, rom1, hv1⟩ := hI.lf h1 hx hb13; obtain ⟨fn', tmps', assign', body', hy', hR'⟩ := hY1 W1 (hI.mono _ _ _ h1 hb13))
        | (refine hR'.mono ?_; rintro e W4 ⟨b, rfl, hJ3, hK3⟩)
    | fail
  all_goals
    have hk3 : wZ B W3 W4 := ⟨Nat.le_trans hb13.size hK3.1, fun r o h2 h3 h4 => hK3.2 r o h2 ((hb13.block r (cv h3)).trans h3) h4⟩
    refine (hQ _ _ rfl hk3 ?_).1
    rw [hj]
    cases b
    · exact .inr hJ3
    · exact .inl hJ3
theorem Mx{α:Type}(h:Array α)(a b c d:α)(k:Nat) :((((h.push a).push b).push c).push d)[h.size+k]? = #[a,b,c,d][k]?:=by
  have e1:((((h.push a).push b).push c).push d)=h ++ #[a,b,c,d]:=by
    apply Array.toList_inj.1
    simp
  rw [e1,Array.getElem?_append_right (Nat.le_add_right _ _),Nat.add_sub_cancel_left]
structure ND (S bx l:Nat) (p:Option Addr) (L cap N:Nat) (rec:LoopState→Option Code→Loop) (J:Option Nat→World→Prop) (j:Nat) (W:World):Prop where
  j:J (some (1+j)) W
  x:Boxed W bx 44 (.func (.yield l) #[] #[])
  c:Boxed W S 22 (.slice p L cap)
  n:Boxed W (S+1) 3 (.int .i64 N)
  d:W.heap[S+2]? = some (.deferred (some []))
  o:W.heap[S+2+1]? = some (.loop (rec .ready none))
structure N6 (S:Nat) (rec:LoopState→Option Code→Loop) (J:Option Nat→World→Prop) (W:World):Prop where
  j:J none W
  d:W.heap[S+2]? = some (.deferred (some []))
  o:W.heap[S+2+1]? = some (.loop (rec .done (some .ret)))
def CJ(S bx l:Nat)(p:Option Addr)(L cap N:Nat)(rec:LoopState→Option Code→Loop)(J:Option Nat→World→Prop) :Option Nat→World→Prop
  | some j,W=>ND S bx l p L cap N rec J j W
  | none,W=>N6 S rec J W
theorem CJ.mono{S bx l:Nat}{p:Option Addr}{L cap N:Nat}{rec:LoopState→Option Code→Loop}{J:Option Nat→World→Prop}(hJ:∀ i W W',J i W→Below W.heap.size W W'→J i W') :
    ∀ i W W',CJ S bx l p L cap N rec J i W→Below W.heap.size W W'→CJ S bx l p L cap N rec J i W'
  | some j,W,W',h,hb=>⟨hJ _ _ _ h.j hb,(hb.block _ h.x.lt).trans h.x,(hb.block _ h.c.lt).trans h.c,(hb.block _ h.n.lt).trans h.n,(hb.block _ (cv h.d)).trans h.d,(hb.block _ (cv h.o)).trans h.o⟩
  | none,W,W',h,hb=>⟨hJ _ _ _ h.j hb,(hb.block _ (cv h.d)).trans h.d,(hb.block _ (cv h.o)).trans h.o⟩
set_option maxHeartbeats 4000000 in
theorem GO (d l ab bx B : Nat) (k m n : Int) (ws : List Int) (vw : Value) (y t : Int) (J : Option Nat → World → Prop) (hI : IT B ab k m n ws vw y t J)
    (hm : rt k m n ws.length y t = true) (hbx : B ≤ bx)
    (hY : ∀ d' j x W', (cO k m n ws y t)[j]? = some x → J (some j) W' → YieldAt Fence.wide (d' + 4) prog l #[.string x] W' (fun e W'' => ∃ b : Bool, e = .returned (.bool b) ∧ J (bif b then some (j + 1) else none) W'' ∧ wZ B W' W''))
    (Q : Exit → Act → World → Prop) (W3 : World)
    (hQ : ∀ a W', (a.defers = [] ∨ ∃ D, B ≤ D ∧ a.defers = [{ target := .collected D, args := #[] }] ∧ W'.heap[D]? = some (.deferred (some []))) → J (some (cO k m n ws y t).length) W' ∨ J none W' → Q .normal a W' ∧ Q .ret a W')
    (h1 : J (some 1) W3) (hx : Boxed W3 bx 44 (.func (.yield l) #[] #[])) (u3 u4 u5 u6 u7 u8 u9 u10 u11 u12 u13 u14 u15 u16 u17 u18 u19 u20 u21 u22 u23 u24 u25 u26 u27 u28 u29 u30 u31 u32 u33 Nf : Value) : Code.wpIn Fence.wide (d + 10) prog AS Q { tmps := #[.func (.yield l) #[] #[], .pointer (some ⟨ab, 0, none⟩), .pointer (some ⟨bx, 0, none⟩), u3, u4, u5, u6, u7, u8, u9, u10, u11, u12, u13, u14, u15, u16, u17, u18, u19, u20, u21, u22, u23, u24, u25, u26, u27, u28, u29, u30, u31, u32, u33, Nf], defers := [] } W3 := by
  obtain ⟨hm0, hm5, hn0, hn5, hlen, hy0, hy3⟩ := lI hm
  have hch : ∃ x, AS = .seq x KP ∧ x = (match AS with | .seq x _ => x | _ => .skip) := ⟨_, rfl, rfl⟩
  obtain ⟨x, hx', he⟩ := hch
  rw [hx']
  delta AS Tryd.f58 at he
  dsimp only at he
  rw [he]
  obtain ⟨c0, c1, c2, c3, c4, c5, cb, rom, hv⟩ := hI.lf h1 hx (Below.refl _ W3)
  obtain ⟨N, rfl⟩ := Int.eq_ofNat_of_zero_le hn0
  obtain ⟨M, rfl⟩ := Int.eq_ofNat_of_zero_le hm0
  clear he hx'
  by_cases hN : N = 0
  · subst hN
    have hlin : cO k M ((0 : Nat) : Int) ws y t = [eW M ((0 : Nat) : Int), fG k y t] := by rw [cO, hm]; rfl
    gi_wp2
    exact AT d l ab bx B k M ((0 : Nat) : Int) ws vw y t J hI hm hbx hY Q [] W3 (fun a W' h2 _ h4 => hQ a W' (.inl h2) h4) 1 (by rw [hlin]; rfl) (by rw [hlin]; rfl) h1 hx _ _ _ _ _ _ _ _ _ _ _ _ _ _ _ _ _ _ _ _ _ _ _ _ _ _ _ _ _ _ _ _
  · have hN1 : (0 : Int) < (N : Int) := by omega
    obtain ⟨p, cap, rfl, hcap, hp⟩ := CF hv
    have hle : ws.length = M * N := by
      have : ((M * N : Nat) : Int) = (ws.length : Int) := by rw [hlen, Int.natCast_mul]
      omega
    rw [hle] at hcap hp hv
    gi_wp2_with (refine ⟨trivial, ?_⟩; gi_at_call 60; refine (callsIn_wide.2 (Fs p (M * N) cap N (by omega) W3)).mono ?_; rintro e w' ⟨rfl, rfl⟩)
    obtain ⟨W4, hW4⟩ : ∃ W4, (W3.alloc (.cells #[.slice p (M * N) cap] 22)).alloc (.cells #[.int .i64 N] 3) = W4 := ⟨_, rfl⟩
    rw [hW4]
    have hs4 : W4.heap.size = W3.heap.size + 2 := by rw [← hW4]; simp
    refine ui (gf := 71) (m := d + 9) rfl (enters_of Tryd.func71 (by kernel_rfl) rfl) fun fn rec hrec hy => ?_
    rw [hs4] at hy ⊢
    have hlin : cO k M N ws y t = eW M N :: (((List.range M).map (fun i => ru ((ws.drop (i * N)).take N))) ++ [fG k y t]) := by
      have hd0 : decide ((N : Int) > 0) = true := decide_eq_true hN1
      rw [cO, hm, hd0]
      rfl
    have hBS : B ≤ W3.heap.size := Nat.le_trans hbx (Nat.le_of_lt hx.lt)
    have hlen1 : (cO k M N ws y t).length = M + 1 + 1 := by rw [hlin]; simp
    have round : ∀ j a W', j < M → p = some a → ND W3.heap.size bx l p (M * N) cap N rec J j W' → YieldAt Fence.wide (d + 8) prog (W3.heap.size + 2 + 1) #[.slice (some (a.add (j * N))) N N] W' (fun e W'' =>
        (e = .returned (.bool true) ∧ ND W3.heap.size bx l p (M * N) cap N rec J (j + 1) W'') ∨ (e = .returned (.bool false) ∧ N6 W3.heap.size rec J W'')) := by
      rintro j a W' hj rfl hS
      refine hy (d + 8) _ W' _ hS.o rfl ?_
      clear hy
      have hL1 : (cO k M N ws y t)[1 + j]? = some (ru ((ws.drop (j * N)).take N)) := by
        rw [hlin, Nat.add_comm, List.getElem?_cons_succ, List.getElem?_append_left (by simpa using hj), List.getElem?_map, List.getElem?_range hj]
        rfl
      have hjN : j * N + N ≤ ws.length := by
        rw [hle]
        calc j * N + N = (j + 1) * N := by rw [Nat.add_mul, Nat.one_mul]
          _ ≤ M * N := Nat.mul_le_mul_right N hj
      gi_wp2
      refine ⟨hS.o, ?_⟩
      obtain ⟨V1, hV1⟩ : ∃ V1, W'.putObj (W3.heap.size + 2 + 1) (.loop (rec .busy none)) = V1 := ⟨_, rfl⟩
      rw [hV1]
      have hlt := cv hS.o
      have hs1 : V1.heap.size = W'.heap.size := by rw [← hV1]; simp
      have hk1 : ∀ r, r ≠ W3.heap.size + 2 + 1 → V1.heap[r]? = W'.heap[r]? := fun r hr => by rw [← hV1]; exact World.putObj_heap_other hr
      have ho1 : V1.heap[W3.heap.size + 2 + 1]? = some (.loop (rec .busy none)) := by rw [← hV1]; exact World.putObj_heap_same hlt
      have hp1 := hI.put _ W' (W3.heap.size + 2 + 1) (.loop (rec .busy none)) _ hS.j (by omega) hS.o rfl
      rw [hV1] at hp1
      have hx1 : Boxed V1 bx 44 (.func (.yield l) #[] #[]) := (hk1 bx (by have := hx.lt; omega)).trans hS.x
      have hbd : Below V1.heap.size V1 V1.drew := (Below.refl _ V1).drew
      obtain ⟨c10, c11, c12, c13, c14, c15, c1b, rom1, hv1⟩ := hI.lf hp1 hx1 hbd
      rw [hle] at hv1
      have hw1 := IU (ws := ws) (a := a) (cap := cap) (by rw [hle]; exact hv1) (j * N) N hjN
      have hrow := IS _ (by rw [List.length_take, List.length_drop]; have := Nat.mul_le_mul (show M ≤ 512 by omega) (show N ≤ 512 by omega); omega) _ _ rom1 hw1
      have hY1 := fun W' h => hY (d + 3) (1 + j) _ W' hL1 h
      gi_wp2
      first
        | gi_region_with first
            | (refine ⟨trivial, ?_⟩; gi_at_call 11; refine (callsIn_wide.2 hrow).mono ?_; rintro e W5 ⟨rfl, hb5⟩; have hb15 := hbd.trans hb5; have hm5 := hI.mono _ _ _ hp1 hb15; obtain ⟨c50, c51, c52, c53, c54, c55, c5b, rom5, hv5⟩ := hI.lf hp1 hx1 hb15; obtain ⟨fn', tmps', assign', body', hy', hR'⟩ := hY1 W5 hm5)
            | (refine hR'.mono ?_; rintro e W6 ⟨b, rfl, hJ6, hK6⟩)
        | fail
      all_goals
        have hk6 : ∀ r o, B ≤ r → r ≠ W3.heap.size + 2 + 1 → W'.heap[r]? = some o → Ft o → W6.heap[r]? = some o := fun r o h1 h2 h3 h4 =>
          hK6.2 r o h1 ((hb15.block r (by rw [hs1]; exact cv h3)).trans ((hk1 r h2).trans h3)) h4
        have hs6 : Hid (W3.heap.size + 2 + 1 < W6.heap.size) := Lib.hid (Nat.lt_of_lt_of_le (by omega) (Nat.le_trans hb15.size hK6.1))
        have ho6 : W6.heap[W3.heap.size + 2 + 1]? = some (.loop (rec .busy none)) := hK6.2 _ _ (by omega) ((hb15.block _ (by omega)).trans ho1) (AR _)
        have hxl := hx.lt
        have g1 := hk6 _ _ (by omega) (by omega) hS.d (sf _)
        have g2 := hk6 _ _ hbx (by omega) hS.x (lJ (by decide))
        have g3 := hk6 _ _ (by omega) (by omega) hS.c (lJ (by decide))
        have g4 := hk6 _ _ (by omega) (by omega) hS.n (lJ (by decide))
        replace g1 := Lib.hid g1
        replace g2 := Lib.hid g2
        replace g3 := Lib.hid g3
        replace g4 := Lib.hid g4
        cases b
        · have hp6 := hI.put _ W6 (W3.heap.size + 2 + 1) (.loop (rec .done (some .ret))) _ hJ6 (by omega) ho6 rfl
          have hfin : N6 W3.heap.size rec J (W6.putObj (W3.heap.size + 2 + 1) (.loop (rec .done (some .ret)))) := ⟨hp6, (World.putObj_heap_other (by omega)).trans g1.out, World.putObj_heap_same hs6.out⟩
          gi_wp2
          all_goals first
            | exact ⟨ho6, hfin⟩
            | exact hfin
        · have hp6 := hI.put _ W6 (W3.heap.size + 2 + 1) (.loop (rec .ready none)) _ hJ6 (by omega) ho6 rfl
          have hfin : ND W3.heap.size bx l (some a) (M * N) cap N rec J (j + 1) (W6.putObj (W3.heap.size + 2 + 1) (.loop (rec .ready none))) := ⟨hp6, (World.putObj_heap_other (by omega)).trans g2.out,
            (World.putObj_heap_other (by omega)).trans g3.out, (World.putObj_heap_other (by omega)).trans g4.out, (World.putObj_heap_other (by omega)).trans g1.out, World.putObj_heap_same hs6.out⟩
          gi_wp2
          all_goals first
            | exact ⟨ho6, hfin⟩
            | exact hfin
    clear hy
    have hlow : Below W3.heap.size W3 ((W4.alloc (.deferred (some []))).alloc (.loop (rec .ready none))) := by
      rw [← hW4]
      refine Below.alloc (Below.alloc (Below.alloc (Below.alloc (Below.refl _ W3) ?_ _) ?_ _) ?_ _) ?_ _
      all_goals simp
      all_goals try omega
    obtain ⟨W0, hW0⟩ : ∃ W0, (W4.alloc (.deferred (some []))).alloc (.loop (rec .ready none)) = W0 := ⟨_, rfl⟩
    rw [hW0] at hlow
    have hat : ∀ r, r < 4 → W0.heap[W3.heap.size + r]? = #[Obj.cells #[.slice p (M * N) cap] 22, .cells #[.int .i64 N] 3, .deferred (some []), .loop (rec .ready none)][r]? := fun r hr => by
      have hh : W0.heap = (((W3.heap.push (.cells #[.slice p (M * N) cap] 22)).push (.cells #[.int .i64 N] 3)).push (.deferred (some []))).push (.loop (rec .ready none)) := by rw [← hW0, ← hW4]; rfl
      rw [hh]
      exact Mx W3.heap _ _ _ _ r
    have hJ0 := hI.mono _ _ _ h1 hlow
    have hS0 : ND W3.heap.size bx l p (M * N) cap N rec J 0 W0 := ⟨hJ0, (hlow.block bx hx.lt).trans hx, hat 0 (by omega), hat 1 (by omega), hat 2 (by omega), hat 3 (by omega)⟩
    rw [hW0]
    refine (KO (d + 8) (W3.heap.size + 2 + 1) W3.heap.size (W3.heap.size + 1) p M N cap (by omega) (by have := Nat.mul_le_mul (show M ≤ 512 by omega) (show N ≤ 512 by omega); omega) hcap (fun hM => hp (Nat.mul_pos hM (by omega))) W0
      (CJ W3.heap.size bx l p (M * N) cap N rec J) (fun i W' h => ⟨h.c.trans hS0.c.symm, h.n.trans hS0.n.symm⟩) (CJ.mono hI.mono) (fun j a W' h1 h2 h3 => round j a W' h1 h2 h3) hS0.c hS0.n hS0).mono ?_
    rintro e W' ⟨hv', hS | hS⟩
    · refine ⟨hv', .inl ⟨hS.o, ?_⟩⟩
      have hpe := hI.put _ W' (W3.heap.size + 2 + 1) (.loop (rec .exhausted none)) _ hS.j (by omega) hS.o rfl
      have hxl := hx.lt
      have hde : (W'.putObj (W3.heap.size + 2 + 1) (.loop (rec .exhausted none))).heap[W3.heap.size + 2]? = some (.deferred (some [])) := (World.putObj_heap_other (by omega)).trans hS.d
      have hxe : Boxed (W'.putObj (W3.heap.size + 2 + 1) (.loop (rec .exhausted none))) bx 44 (.func (.yield l) #[] #[]) := (World.putObj_heap_other (by omega)).trans hS.x
      obtain ⟨W7, hW7⟩ : ∃ W7, W'.putObj (W3.heap.size + 2 + 1) (.loop (rec .exhausted none)) = W7 := ⟨_, rfl⟩
      rw [hW7] at hpe hde hxe ⊢
      gi_wp2
      exact AT d l ab bx B k M N ws _ y t J hI hm hbx hY Q [{ target := .collected (W3.heap.size + 2), args := #[] }] W7
        (fun a W8 h2 h3 h4 => hQ a W8 (.inr ⟨W3.heap.size + 2, by omega, h2, h3.2 _ _ (by omega) hde (sf _)⟩) h4) (M + 1) hlen1
        (by rw [hlin, List.getElem?_cons_succ, List.getElem?_append_right (by simp)]; simp) (by rw [Nat.add_comm]; exact hpe) hxe _ _ _ _ _ _ _ _ _ _ _ _ _ _ _ _ _ _ _ _ _ _ _ _ _ _ _ _ _ _ _ _
    · refine ⟨hv', .inr ⟨_, hS.o, ?_⟩⟩
      have hpe := hI.put _ W' (W3.heap.size + 2 + 1) (.loop (rec .exhausted (some .ret))) _ hS.j (by omega) hS.o rfl
      have hde : (W'.putObj (W3.heap.size + 2 + 1) (.loop (rec .exhausted (some .ret)))).heap[W3.heap.size + 2]? = some (.deferred (some [])) := (World.putObj_heap_other (by omega)).trans hS.d
      obtain ⟨W7, hW7⟩ : ∃ W7, W'.putObj (W3.heap.size + 2 + 1) (.loop (rec .exhausted (some .ret))) = W7 := ⟨_, rfl⟩
      rw [hW7] at hpe hde ⊢
      gi_wp2
      exact (hQ _ W7 (.inr ⟨W3.heap.size + 2, by omega, rfl, hde⟩) (.inr hpe)).2
set_option maxHeartbeats 4000000 in
theorem KQ (d l ab B : Nat) (k m n : Int) (ws : List Int) (vw : Value) (y t : Int) (J : Option Nat → World → Prop) (hI : IT B ab k m n ws vw y t J)
    (hY : ∀ d' j x W', (cO k m n ws y t)[j]? = some x → J (some j) W' → YieldAt Fence.wide (d' + 4) prog l #[.string x] W' (fun e W'' => ∃ b : Bool, e = .returned (.bool b) ∧ J (bif b then some (j + 1) else none) W'' ∧ wZ B W' W''))
    (W : World) (hB : B = W.heap.size) (h0 : J (some 0) W) :
    CallsIn Fence.wide (d + 10) prog 58 #[.func (.yield l) #[] #[], .pointer (some ⟨ab, 0, none⟩)] W (fun e W' => (∃ v, e = .returned v) ∧ (J (some (cO k m n ws y t).length) W' ∨ J none W')) := by
  refine callsIn_of_wp_marks Tryd.func58 rfl trivial ?_ rfl
  simp only [Tryd.ntmps58, List.size_toArray, List.length_cons, List.length_nil, Nat.reduceAdd, Nat.reduceSub, Array.replicate_succ, Array.replicate_zero, List.push_toArray, List.append_toArray, List.nil_append, List.cons_append]
  obtain ⟨W0, hW0⟩ : ∃ W0, W.alloc (.cells #[.func (.yield l) #[] #[]] 44) = W0 := ⟨_, rfl⟩
  have hs0 : W0.heap.size = W.heap.size + 1 := by rw [← hW0]; simp
  have hb0 : Below W.heap.size W W0 := by rw [← hW0]; exact (Below.refl _ _).alloc (Nat.le_refl _) _
  have hx0 : Boxed W0 W.heap.size 44 (.func (.yield l) #[] #[]) := by rw [← hW0]; exact Boxed.new _ _ _
  have hJ0 := hI.mono _ _ _ h0 hb0
  obtain ⟨c0, c1, c2, c3, c4, c5, cb, rom, hv⟩ := hI.lf hJ0 hx0 (Below.refl _ W0).drew
  have ag := vK
  have sz := ry
  have hmay := CE k m n ws vw y t _ rom hv
  cases hm : rt k m n ws.length y t with
  | false =>
    have hlin : cO k m n ws y t = [] := by simp [cO, hm]
    rw [hlin] at hY ⊢
    rw [hm] at hmay
    gi_wp2
    first
      | gi_region_with first
          | (refine ⟨trivial, ?_⟩; gi_at_call 41; refine (callsIn_wide.2 hmay).mono ?_; rintro e W1 ⟨rfl, hb1⟩)
          | (refine (⟨trivial, ?_⟩ : Fence.wide.fn 59 ∧ _))
          | (refine (⟨by simp, ?_⟩ : (∀ (f : FuncId), none = some f → Fence.wide.fn f) ∧ _))
      | fail
    all_goals gi_wp2
    all_goals exact ⟨_, results_none rfl _ _ _, ⟨_, rfl⟩, .inl (hI.mono _ _ _ hJ0 ((Below.refl _ W0).drew.trans hb1))⟩
  | true =>
    rw [hm] at hmay
    obtain ⟨hm0, hm5, hn0, hn5, hlen, hy0, hy3⟩ := lI hm
    have km : kJ .i64 m = true := bV.2 (by omega)
    have kn : kJ .i64 n = true := bV.2 (by omega)
    have hl1 : (cO k m n ws y t)[0]? = some (eW m n) := by rw [cO, hm]; rfl
    have hY1 := fun W' h => hY (d + 5) 0 _ W' hl1 h
    change Code.wpIn _ _ _ (.seq _ (.seq _ AS)) _ _ _
    gi_wp2
    first
      | gi_region_with first
          | (refine ⟨trivial, ?_⟩; gi_at_call 41; refine (callsIn_wide.2 hmay).mono ?_; rintro e W1 ⟨rfl, hb1⟩; have hb01 := (Below.refl _ W0).drew.trans hb1; obtain ⟨c10, c11, c12, c13, c14, c15, c1b, rom1, hv1⟩ := hI.lf hJ0 hx0 hb01; have hhead := GN m n km kn _ rom1)
          | (refine ⟨trivial, ?_⟩; gi_at_call 59; refine (callsIn_wide.2 hhead).mono ?_; rintro e W2 ⟨rfl, hb2⟩; have hb02 := hb01.trans (hb2.mono (show W0.heap.size ≤ W1.heap.size from hb01.size)); have hJ2 := hI.mono _ _ _ hJ0 hb02; obtain ⟨c20, c21, c22, c23, c24, c25, c2b, rom2, hv2⟩ := hI.lf hJ0 hx0 hb02; obtain ⟨fn', tmps', assign', body', hy', hR'⟩ := hY1 W2 hJ2)
          | (refine hR'.mono ?_; rintro e W3 ⟨b, rfl, hJ3, hK3⟩)
      | fail
    all_goals
      cases b
      · gi_wp2
        exact ⟨_, results_none rfl _ _ _, ⟨_, rfl⟩, .inr hJ3⟩
      · gi_wp2
        have hx3 : Boxed W3 W.heap.size 44 (.func (.yield l) #[] #[]) := hK3.2 _ _ (by omega) ((hb02.block _ hx0.lt).trans hx0) (lJ (by decide))
        refine GO d l ab W.heap.size B k m n ws vw y t J hI hm (by omega) hY _ W3 (fun a W' h1 h2 => ?_) hJ3 hx3 _ _ _ _ _ _ _ _ _ _ _ _ _ _ _ _ _ _ _ _ _ _ _ _ _ _ _ _ _ _ _ _
        have key : LeavesInM Fence.wide (d + 10) prog Tryd.f58 a.tmps (fun e W' => (∃ v, e = .returned v) ∧ (J (some (cO k m n ws y t).length) W' ∨ J none W')) a.defers .returning W' := by
          rcases h1 with h1 | ⟨D, h3, h1, h4⟩
          · rw [h1]
            exact ⟨_, results_none rfl _ _ _, ⟨_, rfl⟩, h2⟩
          · rw [h1]
            refine ⟨by simp, .inl ⟨_, _, rfl, run_takeDeferred h4, ?_⟩⟩
            refine ⟨_, results_none rfl _ _ _, ⟨_, rfl⟩, ?_⟩
            rcases h2 with h2 | h2
            · exact .inl (hI.put _ _ _ _ _ h2 h3 h4 rfl)
            · exact .inr (hI.put _ _ _ _ _ h2 h3 h4 rfl)
        exact ⟨key, key⟩
structure kC where
  k:Int
  m:Int
  n:Int
  ws:List Int
  y:Int
  t:Int
def kC.may(a:kC) :Bool:=rt a.k a.m a.n a.ws.length a.y a.t
def kC.lines(a:kC) :List ByteArray:=cO a.k a.m a.n a.ws a.y a.t
def My(s:ByteArray) :List UInt8:=s.data.toList++[10]
def lK(l:List ByteArray) :List UInt8:=(l.map My).flatten
def dL(l:List kC) :List UInt8:=(l.map fun a=>lK a.lines).flatten
def tn(l:List kC) :ByteArray:=if l.any (fun a=>!a.may)=true then ByteArray.empty else if 64<l.length then ByteArray.empty else if 8388608<(dL l).length then ByteArray.empty else ⟨(dL l).toArray⟩
def hH(l:List kC) :Int:=if l.any (fun a=>!a.may)=true then 2 else if 64<l.length then 3 else if 8388608<(dL l).length then 3 else 0
structure HM (W:World) (bl o:Nat) (a:kC) (vw:Value):Prop where
  c0:W.cell? ⟨bl,o,none⟩=some (.int .i64 a.k)
  c1:W.cell? ⟨bl,o+1,none⟩=some (.int .i64 a.m)
  c2:W.cell? ⟨bl,o+2,none⟩=some (.int .i64 a.n)
  c3:W.cell? ⟨bl,o+3,none⟩=some vw
  c4:W.cell? ⟨bl,o+4,none⟩=some (.int .i64 a.y)
  c5:W.cell? ⟨bl,o+5,none⟩=some (.int .u64 a.t)
  v:VR ae.none_ W (hX a.ws) vw
  lt:bl<W.heap.size
abbrev kC.V(a:kC)(vw:Value) :Array Value:=GJ a.k a.m a.n vw a.y a.t
theorem HM.below{W W':World}{bl o:Nat}{a:kC}{vw:Value}(h:HM W bl o a vw)(hb:Below W.heap.size W W') :HM W' bl o a vw:=by
  have e:∀ j,W'.cell? ⟨bl,j,none⟩=W.cell? ⟨bl,j,none⟩:=fun j=>hb.cell (p:=⟨bl,j,none⟩) h.lt
  exact ⟨(e _).trans h.c0,(e _).trans h.c1,(e _).trans h.c2,(e _).trans h.c3,(e _).trans h.c4,(e _).trans h.c5,h.v.mono (eM.refl _ _) (oJ hb),Nat.lt_of_lt_of_le h.lt hb.size⟩
def uj(W:World)(bl o:Nat)(l:List kC) :Prop:=∀ i a,l[i]? = some a→∃ vw,HM W bl (o+i*6) a vw
theorem uj.below{W W':World}{bl o:Nat}{l:List kC}(h:uj W bl o l)(hb:Below W.heap.size W W') :uj W' bl o l:=fun i a hi=>(h i a hi).imp fun _ q=>q.below hb
set_option maxHeartbeats 2000000 in
theorem D4 (a : kC) (vw : Value) (w : World) (hR : eS w) (hv : VR ae.none_ w (hX a.ws) vw) : Calls prog 40 #[.agg (a.V vw)] w fun e w' => e = .returned (.bool (!a.may)) ∧ Below w.heap.size w w' := by
  have hb : Below w.heap.size w (w.alloc (.cells (a.V vw) 37)) := (Below.refl _ w).alloc (Nat.le_refl _) _
  have hmay := CE a.k a.m a.n a.ws vw a.y a.t (w.alloc (.cells (a.V vw) 37)) (hR.below hb (Nat.le_refl _)) (hv.mono (eM.refl _ _) (oJ hb))
  have ag := vK
  have sz := ry
  go_enter Tryd.func40, Tryd.ntmps40
  go_wp2_with (go_at_call 41; refine hmay.mono ?_; rintro e w' ⟨rfl, hb1⟩)
  go_ret
  exact ⟨rfl, hb.trans (hb1.mono (by simp))⟩
theorem rz{F:Fence}{n:Nat}{P:Program}{fn:Func}{tmps:Array Value}{R:Ending→World→Prop}{v:Value}(n0:Nat)(hr:∀ W,(results fn tmps).run P W=.ok v W)(Pw:World→Prop) 
    (hP:∀ W D,n0≤D→Pw W→Pw (W.putObj D (.deferred none))) (hR:∀ W,Pw W→R (.returned v) W):∀ (Ds:List Nat) (W:World),Ds.Nodup→(∀ D∈Ds,n0≤D∧W.heap[D]? = some (.deferred (some [])))→Pw W →
      LeavesInM F n P fn tmps R (Ds.map fun D=>({ target:=.collected D,args:=#[] }:Deferred)) .returning W
  | [],W,_,_,h=>⟨_,hr W,hR W h⟩
  | D::Ds,W,hn,hD,h=>by
    have h1:=hD D (List.mem_cons_self ..)
    obtain ⟨hn1,hn2⟩:=List.nodup_cons.1 hn
    refine ⟨by simp,.inl ⟨_,_,rfl,run_takeDeferred h1.2,?_⟩⟩
    refine rz n0 hr Pw hP hR Ds _ hn2 (fun D' h'=>?_) (hP W D h1.1 h)
    have h2:=hD D' (List.mem_cons_of_mem _ h')
    exact ⟨h2.1,(World.putObj_heap_other (fun e=>hn1 (by rw [←e];exact h'))).trans h2.2⟩
set_option maxHeartbeats 2000000 in
theorem IV (bl o cap : Nat) (l : List kC) (hl : l.length ≤ 1000000000) (w : World) (hR : eS w) (hA : uj w bl o l) (p : Option Addr) (hp : 1 ≤ l.length → p = some ⟨bl, o, none⟩) :
    Calls prog 56 #[.slice p l.length cap, .func (.func 40) #[] #[]] w fun e w' => (∃ r : Int, e = .returned (.int .i64 r) ∧ (0 ≤ r ↔ l.any (fun a => !a.may) = true)) ∧ Below w.heap.size w w' := by
  have ag := vK
  have sz := ry
  go_enter Tryd.func56, Tryd.ntmps56
  go_wp2
  go_loopw [8] (fun t W => ∃ i : Nat, t = .int .i64 i ∧ i ≤ l.length ∧ (l.take i).any (fun a => !a.may) = false ∧ Below w.heap.size w W) (fun t _ => l.length - (intOf t).toNat)
  case atStart => exact ⟨0, rfl, Nat.zero_le _, rfl, Below.refl _ _⟩
  case round =>
    obtain ⟨i, rfl, hi, hany, hb⟩ := hrel
    by_cases hlt : i < l.length
    · obtain ⟨a, ha⟩ : ∃ a, l[i]? = some a := ⟨_, List.getElem?_eq_getElem hlt⟩
      have hA' := hA.below hb
      obtain ⟨vw, hk⟩ := hA' i a ha
      obtain ⟨c0, c1, c2, c3, c4, c5, hv, hbl⟩ := hk
      have hcall := D4 a vw wr (hR.below hb (Nat.le_refl _)) hv
      have hpp := hp (by omega)
      subst hpp
      go_wp2_with (go_at_call 40; refine hcall.mono ?_; rintro e w' ⟨rfl, hb1⟩)
      · go_ret
        have h1 : (!a.may) = true := by assumption
        exact ⟨⟨i, rfl, fun _ => List.any_eq_true.2 ⟨a, List.mem_of_getElem? ha, h1⟩, fun _ => Int.natCast_nonneg _⟩, hb.trans (hb1.mono hb.size)⟩
      · have h1 : (!a.may) = false := by assumption
        refine ⟨⟨i + 1, by go_num, by omega, ?_, hb.trans (hb1.mono hb.size)⟩, by simp [intOf]; omega⟩
        rw [List.take_add_one, ha, List.any_append, hany]
        simpa using h1
    · have he : i = l.length := by omega
      rw [he, List.take_length] at hany
      go_wp2
      go_ret
      exact ⟨⟨-1, rfl, fun h => absurd h (by decide), fun h => by rw [hany] at h; cases h⟩, hb⟩
theorem AU(bl o cap:Nat)(l:List kC)(hl:l.length≤1000000000)(w:World)(hR:eS w)(hA:uj w bl o l)(p:Option Addr)(hp:1≤l.length→p=some ⟨bl,o,none⟩) :
    Calls prog 39 #[.slice p l.length cap,.func (.func 40) #[] #[]] w fun e w'=>e=.returned (.bool (l.any fun a=>!a.may))∧Below w.heap.size w w':=by
  have h:=IV bl o cap l hl w hR hA p hp
  go_enter Tryd.func39,Tryd.ntmps39
  go_wp2_with (go_at_call 56;refine h.mono ?_;rintro e w' ⟨⟨r,rfl,hr⟩,hb⟩;replace hr:=Lib.hid hr)
  go_ret
  replace hr:=hr.out
  refine ⟨?_,hb⟩
  show Ending.returned (Value.bool (decide (r≥0)))=_
  cases hq:l.any (fun a=>!a.may) with
  | true=>rw [decide_eq_true (show r≥0 from hr.2 hq)]
  | false =>
    have : ¬ r≥0:=fun c=>by rw [hr.1 c] at hq;cases hq
    rw [decide_eq_false this]
theorem IW(ws:List Int) :(ru ws).size≤17*ws.length:=by
  have:=wY (ws.map bd)
  rw [ru,AP]
  have e:((ws.map bd).map fun s=>s.size+1).sum=17*ws.length:=by
    clear this
    induction ws with
    | nil=>rfl
    | cons x l ih=>simp only [List.map_cons,List.sum_cons,List.length_cons,pS] at ih ⊢;omega
  omega
theorem AW(m n:Int) :(eW m n).size≤50:=by
  have h1:=kR m
  have h2:=kR n
  have e1:(ByteArray.mk #[109,97,116,114,105,120,32]).size=7:=rfl
  have e2:wW.size=1:=rfl
  unfold eW
  simp only [ByteArray.size_append,e1,e2]
  omega
theorem AX(k y t:Int) :(fG k y t).size≤46:=by
  have hw:=Fr k
  have h1:=kR y
  have h2:=pS t
  have e3:wW.size=1:=rfl
  unfold fG
  cases decide (((nh k).2.2.1:Int)>0)<;>cases (nh k).2.2.2.1<;>simp only [cond_true,cond_false,ByteArray.size_append,e3]<;>omega
theorem AY{a:kC}(h:a.may=true) :a.lines.length≤514∧∀ x∈a.lines,x.size≤9000:=by
  obtain ⟨h1,h2,h3,h4,h5,_⟩:=lI h
  unfold kC.lines cO
  rw [show rt a.k a.m a.n a.ws.length a.y a.t=true from h]
  simp only [cond_true]
  cases hd:decide (a.n>0) with
  | false =>
    refine ⟨by simp,fun x hx=>?_⟩
    simp only [cond_false,List.nil_append,List.mem_cons,List.not_mem_nil,or_false] at hx
    rcases hx with rfl | rfl
    · have:=AW a.m a.n;omega
    · have:=AX a.k a.y a.t;omega
  | true =>
    refine ⟨by simp;omega,fun x hx=>?_⟩
    simp only [cond_true,List.mem_cons,List.mem_append,List.mem_map,List.not_mem_nil,or_false] at hx
    rcases hx with rfl | ⟨i,_,rfl⟩ | rfl
    · have:=AW a.m a.n;omega
    · have h9:=IW ((a.ws.drop (i*a.n.toNat)).take a.n.toNat)
      have:=List.length_take_le a.n.toNat (a.ws.drop (i*a.n.toNat))
      omega
    · have:=AX a.k a.y a.t;omega
theorem Fu{L:List ByteArray}(h:∀ x∈L,x.size≤9000) :(lK L).length≤L.length*9001:=by
  induction L with
  | nil=>simp [lK]
  | cons x L ih =>
    have h1:=h x (List.mem_cons_self ..)
    have h2:=ih fun y hy=>h y (List.mem_cons_of_mem _ hy)
    have h3:(My x).length=x.size+1:=by simp [My]
    unfold lK at h2 ⊢
    simp only [List.map_cons,List.flatten_cons,List.length_append,List.length_cons,h3]
    omega
theorem IX{l:List kC}(hm:∀ a∈l,a.may=true) :(dL l).length≤l.length*5000000:=by
  induction l with
  | nil=>simp [dL]
  | cons a l ih =>
    have h1:=AY (hm a (List.mem_cons_self ..))
    have h2:=ih fun y hy=>hm y (List.mem_cons_of_mem _ hy)
    have h3:=Fu h1.2
    unfold dL at h2 ⊢
    simp only [List.map_cons,List.flatten_cons,List.length_append,List.length_cons]
    omega
theorem IY(L:List ByteArray)(x:ByteArray) :lK (L++[x])=lK L++My x:=by simp [lK]
theorem AZ(L:List kC)(a:kC) :dL (L++[a])=dL L++lK a.lines:=by simp [dL]
theorem xa(x y:List UInt8) :Lib.byteCells (x++y)=Lib.byteCells x++Lib.byteCells y:=by simp [Lib.byteCells]
theorem Fv(a:kC)(vw:Value)(w:World) :Calls prog 42 #[.agg (a.V vw)] w fun e w'=>e=.returned (.func (.func 58) #[] #[.pointer (some ⟨w.heap.size,0,none⟩)])∧w'=w.alloc (.cells (a.V vw) 37):=by
  have hmf:∀ (fn:Fn) (first cap:Array Value) (w:World),(Instr.makeFunc fn first cap).run prog w=.ok (.func fn first cap) w:=fun _ _ _ _=>rfl
  go_enter Tryd.func42,Tryd.ntmps42
  go_wp2
  go_ret
  exact ⟨rfl,rfl⟩
theorem pT{T e:TypeId}{B b:Nat}{bs:List Value}{W W':World}(h:Lib.IsBuilderF T e B b bs W)(hk:∀ (k:Nat) (c:Array Value) (t:TypeId) (fz:Nat×Nat),W.heap[k]? = some (Obj.cells c t fz)→W'.heap[k]? = some (Obj.cells c t fz)) :Lib.IsBuilderF T e B b bs W':=by
  have key:∀ p,Lib.BuilderAtF T e B b p bs W→Lib.BuilderAtF T e B b p bs W':=by
    rintro p ⟨h1,v,h2,h3,h4⟩
    refine ⟨h1,v,hk _ _ _ _ h2,⟨h3.1,?_⟩,h4⟩
    rcases h3.2 with q | ⟨g,cap,cur,fz,q1,q2,q3,q4⟩
    · exact .inl q
    · exact .inr ⟨g,cap,cur,fz,q1,q2,hk _ _ _ _ q3,q4⟩
  exact h.imp (key _) (key _)
theorem uk{T e:TypeId}{B b:Nat}{bs:List Value}{W:World}(h:Lib.IsBuilderF T e B b bs W) :b<W.heap.size:=by
  rcases h with ⟨_,v,h,_⟩ | ⟨_,v,h,_⟩
  · exact cv h
  · exact cv h
theorem Fw(W:World) :Lib.IsBuilderF 74 5 W.heap.size W.heap.size (Lib.byteCells []) (W.alloc (.cells #[.pointer none,.slice none 0 0] 74)):=by
  refine .inl ⟨Nat.le_refl _,.slice none 0 0,World.alloc_heap_new W _,⟨rfl,.inl ⟨rfl,rfl⟩⟩,by simp [Value.ownBlock]⟩
abbrev KR(D:Nat) :Deferred:={ target:=.collected D,args:=#[] }
theorem vL(B b:Nat)(bs:List Value)(s:ByteArray)(w:World)(h:Lib.IsBuilderF 74 5 B b bs w)(hlen:bs.length+s.size≤140737488355328)(hBw:B≤w.heap.size) :
    Calls Tryd.prog 43 #[.pointer (some ⟨b,0,none⟩),.string s] w fun e w'=>e=.returned (.tuple #[.int .i64 s.size,.nilIface])∧(Lib.BuilderAtF 74 5 B b (.pointer (some ⟨b,0,none⟩)) (bs++Lib.strCells s) w'∧Below B w w'∧Lib.OthersKept 5 (some b) w w') :=
  Any.Builder_WriteString_k { pG with } ep B b bs s w h hlen hBw
structure TJ (w:World) (bb ab L:Nat) (cs:Array Value) (Ds:List Nat) (obj:Obj) (pre:List UInt8) (W:World):Prop where
  b:Lib.IsBuilderF 74 5 bb bb (Lib.byteCells pre) W
  a:W.heap[ab]? = some (.cells cs 37 (0,0))
  low:Below w.heap.size w W
  ds:∀ D∈Ds,W.heap[D]? = some (.deferred (some []))
  o:W.heap[L]? = some obj
def Ot(w:World)(bb ab L:Nat)(cs:Array Value)(Ds:List Nat)(obj:Obj)(pre:List UInt8)(lines:List ByteArray) :Option Nat→World→Prop
  | some j,W=>TJ w bb ab L cs Ds obj (pre++lK (lines.take j)) W
  | none,_=>False
theorem TJ.below{w:World}{bb ab L:Nat}{cs:Array Value}{Ds:List Nat}{obj:Obj}{pre:List UInt8}{W W':World}(h:TJ w bb ab L cs Ds obj pre W)(hb:Below W.heap.size W W') :TJ w bb ab L cs Ds obj pre W' :=
  ⟨pT h.b fun k c t fz q=>(hb.block k (cv q)).trans q,(hb.block _ (cv h.a)).trans h.a,h.low.trans (hb.mono h.low.size),fun D hD=>(hb.block _ (cv (h.ds D hD))).trans (h.ds D hD),(hb.block _ (cv h.o)).trans h.o⟩
theorem TJ.put{w:World}{bb ab L:Nat}{cs:Array Value}{Ds:List Nat}{obj obj':Obj}{pre:List UInt8}{W:World}(h:TJ w bb ab L cs Ds obj pre W)(r:Nat)(ob o':Obj)(hw:w.heap.size≤r)(ho:W.heap[r]? = some o')(hc:o'.isCells=false)(hD:∀ D∈Ds,r≠D) 
    (hL:(r≠L∧obj'=obj)∨(r=L∧obj'=ob)):TJ w bb ab L cs Ds obj' pre (W.putObj r ob):=by
  have nc:∀ k c t fz,W.heap[k]? = some (.cells c t fz)→k≠r:=fun k c t fz q e=>by
    rw [e,ho] at q;cases q;cases hc
  refine ⟨pT h.b fun k c t fz q=>(World.putObj_heap_other (nc k c t fz q)).trans q,(World.putObj_heap_other (nc _ _ _ _ h.a)).trans h.a,gR h.low hw _,fun D q=>(World.putObj_heap_other (fun e=>hD D q e.symm)).trans (h.ds D q),?_⟩
  rcases hL with ⟨h1,rfl⟩ | ⟨rfl,rfl⟩
  · exact (World.putObj_heap_other (fun e=>h1 e.symm)).trans h.o
  · exact World.putObj_heap_same (cv ho)
def NE(w:World)(bb:Nat)(p:Option Addr)(cap:Nat)(l:List kC)(a:Act)(W:World) :Prop :=
  ∃ (i:Nat) (Ds:List Nat) (u6 u7 u12 u16 u17 u18 u19 u20 u21 u22 u23 u24 u25:Value),a = { tmps:=#[.slice p l.length cap,undef,.string ⟨#[]⟩,.int .i64 0,.pointer (some ⟨bb,0,none⟩),undef,u6,u7,.slice p l.length cap,.bool false,.slice p l.length cap,.int .i64 l.length,u12,.slice p l.length cap,.int .i64 l.length,.int .i64 i,u16,u17,u18,u19,u20,u21,u22,u23,u24,u25,undef,undef,undef],defers:=Ds.map KR }∧i≤l.length∧Lib.IsBuilderF 74 5 bb bb (Lib.byteCells (dL (l.take i))) W∧Below w.heap.size w W∧Ds.Nodup ∧
    ∀ D∈Ds,w.heap.size≤D∧W.heap[D]? = some (.deferred (some []))
set_option maxHeartbeats 4000000 in
theorem Fx (bl o cap : Nat) (l : List kC) (hl : l.length ≤ 1000000000) (w : World) (hR : eS w) (hA : uj w bl o l) (p : Option Addr) (hp : 1 ≤ l.length → p = some ⟨bl, o, none⟩) :
    Calls prog fe #[.slice p l.length cap] w fun e w' => e = .returned (.tuple #[.string (tn l), .int .i64 (hH l)]) ∧ Below w.heap.size w w' := by
  have hany := AU bl o cap l hl w hR hA p hp
  refine (callsIn_wide (n := 20)).1 (callsIn_of_wp_marks Tryd.func19 rfl trivial ?_)
  simp only [Tryd.ntmps19, List.size_toArray, List.length_cons, List.length_nil, Nat.reduceAdd, Nat.reduceSub, Array.replicate_succ, Array.replicate_zero, List.push_toArray, List.append_toArray, List.nil_append, List.cons_append]
  cases ha : l.any (fun a => !a.may) with
  | true =>
    have e1 : tn l = ByteArray.empty ∧ hH l = 2 := ⟨if_pos ha, if_pos ha⟩
    rw [ha] at hany
    rw [e1.1, e1.2]
    gi_wp2_with (refine ⟨trivial, ?_⟩; gi_at_call 39; refine (callsIn_wide.2 hany).mono ?_; rintro e w' ⟨rfl, hb⟩)
    exact ⟨_, results_tmp2 rfl _ _ _, rfl, hb⟩
  | false =>
    have hf : ¬ l.any (fun a => !a.may) = true := by rw [ha]; decide
    rw [ha] at hany
    by_cases h64 : 64 < l.length
    · have e1 : tn l = ByteArray.empty ∧ hH l = 3 := by unfold tn hH; rw [if_neg hf, if_neg hf, if_pos h64, if_pos h64]; exact ⟨rfl, rfl⟩
      rw [e1.1, e1.2]
      gi_wp2_with (refine ⟨trivial, ?_⟩; gi_at_call 39; refine (callsIn_wide.2 hany).mono ?_; rintro e w' ⟨rfl, hb⟩)
      exact ⟨_, results_tmp2 rfl _ _ _, rfl, hb⟩
    · have e1 : tn l = (if 8388608 < (dL l).length then ByteArray.empty else ⟨(dL l).toArray⟩) ∧ hH l = (if 8388608 < (dL l).length then 3 else 0) := by unfold tn hH; rw [if_neg hf, if_neg hf, if_neg h64, if_neg h64]; exact ⟨rfl, rfl⟩
      rw [e1.1, e1.2]
      clear hf e1
      gi_wp2_with (refine ⟨trivial, ?_⟩; gi_at_call 39; refine (callsIn_wide.2 hany).mono ?_; rintro e w1 ⟨rfl, hb⟩)
      have hbn := Fw w1
      have hbw : Below w.heap.size w (w1.alloc (.cells #[.pointer none, .slice none 0 0] 74)) := hb.alloc hb.size _
      have hwb : w.heap.size ≤ w1.heap.size := hb.size
      obtain ⟨W1, hW1⟩ : ∃ W1, w1.alloc (.cells #[.pointer none, .slice none 0 0] 74) = W1 := ⟨_, rfl⟩
      obtain ⟨bb, hbb⟩ : ∃ bb, w1.heap.size = bb := ⟨_, rfl⟩
      have hs1 : W1.heap.size = bb + 1 := by rw [← hW1, ← hbb]; simp
      rw [hW1, hbb] at hbn ⊢
      rw [hW1] at hbw
      rw [hbb] at hwb
      clear hW1 hbb hb hany
      refine wpIn_loop (NE w bb p cap l) (fun a _ => l.length - (intOf (a.tmps.getD 15 undef)).toNat) ⟨0, [], _, _, _, _, _, _, _, _, _, _, _, _, _, rfl, Nat.zero_le _, hbn, hbw, List.nodup_nil, by simp⟩ ?_
      rintro a W ⟨i, Ds, u6, u7, u12, u16, u17, u18, u19, u20, u21, u22, u23, u24, u25, rfl, hi, hbld, hlow, uh, hds⟩
      by_cases hlt : i < l.length
      · obtain ⟨a, hai⟩ : ∃ a, l[i]? = some a := ⟨_, List.getElem?_eq_getElem hlt⟩
        obtain ⟨vw, hk0⟩ := hA i a hai
        have hk := hk0.below (hlow.mono (Nat.le_refl _))
        have hv0 := hk0.v
        obtain ⟨c0, c1, c2, c3, c4, c5, hv, hbl⟩ := hk
        have hpp := hp (by omega)
        subst hpp
        obtain ⟨pw, cw, rfl, hcw, hpw⟩ := CF hv
        have ag := vK
        have sz := ry
        gi_wp2_with (refine ⟨trivial, ?_⟩; gi_at_call 42; refine (callsIn_wide.2 (Fv a (.slice pw a.ws.length cw) _)).mono ?_; rintro e w' ⟨rfl, rfl⟩)
        have hin : a ∈ l := List.mem_of_getElem? hai
        have hmay : ∀ b ∈ l, b.may = true := fun b hb => by
          have := List.any_eq_false.1 ha b hb
          simpa using this
        have hsz := AY (hmay a hin)
        have hpre : (dL (l.take i)).length ≤ 64 * 5000000 := by
          have := IX (l := l.take i) fun b hb => hmay b (List.mem_of_mem_take hb)
          have h2 : (l.take i).length ≤ 64 := by rw [List.length_take]; omega
          exact Nat.le_trans this (Nat.mul_le_mul_right _ h2)
        obtain ⟨W2, hW2⟩ : ∃ W2, (W.alloc (.cells (a.V (.slice pw a.ws.length cw)) 37)).alloc (.cells (a.V (.slice pw a.ws.length cw)) 37) = W2 := ⟨_, rfl⟩
        rw [hW2]
        have hs2 : W2.heap.size = W.heap.size + 2 := by rw [← hW2]; simp
        refine ui (gf := 58) (m := 19) rfl (enters_of Tryd.func58 (by kernel_rfl) rfl) fun fn rec hrec hy => ?_
        rw [hs2] at hy ⊢
        have hWb : bb < W.heap.size := uk hbld
        obtain ⟨W0, hW0⟩ : ∃ W0, (W2.alloc (.deferred (some []))).alloc (.loop (rec .ready none)) = W0 := ⟨_, rfl⟩
        have hs0 : W0.heap.size = W.heap.size + 4 := by rw [← hW0]; simp [hs2]
        have hlow0 : Below W.heap.size W W0 := by
          rw [← hW0, ← hW2]
          refine Below.alloc (Below.alloc (Below.alloc (Below.alloc (Below.refl _ W) ?_ _) ?_ _) ?_ _) ?_ _
          all_goals simp
          all_goals try omega
        have hat : ∀ r, W0.heap[W.heap.size + r]? = #[Obj.cells (a.V (.slice pw a.ws.length cw)) 37, .cells (a.V (.slice pw a.ws.length cw)) 37, .deferred (some []), .loop (rec .ready none)][r]? := fun r => by
          rw [← hW0, ← hW2]
          exact Mx W.heap _ _ _ _ r
        obtain ⟨T, hT⟩ : ∃ T, Ot w bb (W.heap.size + 1) (W.heap.size + 2 + 1) (a.V (.slice pw a.ws.length cw)) ((W.heap.size + 2) :: Ds) (.loop (rec .ready none)) (dL (l.take i)) a.lines = T := ⟨_, rfl⟩
        have hI : IT W0.heap.size (W.heap.size + 1) a.k a.m a.n a.ws (.slice pw a.ws.length cw) a.y a.t T := by
          rw [← hT]
          refine ⟨fun j V h => ⟨h.a, hR.below h.low (Nat.le_refl _), hv0.mono (eM.refl _ _) (oJ h.low)⟩, fun j V V' h hb => ?_, fun j V r ob o' h h1 h2 h3 => ?_⟩
          · cases j with
            | none => exact h
            | some j => exact TJ.below h hb
          · cases j with
            | none => exact h
            | some j =>
              refine TJ.put h r ob o' (by have := hlow.size; omega) h2 h3 (fun D hD => ?_) (.inl ⟨by omega, rfl⟩)
              rcases List.mem_cons.1 hD with rfl | hD
              · omega
              · have := cv (hds D hD).2
                omega
        have h0 : T (some 0) W0 := by
          rw [← hT]
          refine ⟨?_, hat 1, hlow.trans (hlow0.mono hlow.size), fun D hD => ?_, hat 3⟩
          · rw [List.take_zero, show dL (l.take i) ++ lK [] = dL (l.take i) by simp [lK]]
            exact pT hbld fun k c t fz q => (hlow0.block k (cv q)).trans q
          · rcases List.mem_cons.1 hD with rfl | hD
            · exact hat 2
            · exact (hlow0.block _ (cv (hds D hD).2)).trans (hds D hD).2
        have hY : ∀ d' j x W', a.lines[j]? = some x → T (some j) W' → YieldAt Fence.wide (d' + 4) prog (W.heap.size + 2 + 1) #[.string x] W' (fun e W'' => ∃ b : Bool, e = .returned (.bool b) ∧ T (bif b then some (j + 1) else none) W'' ∧ wZ W0.heap.size W' W'') := by
          intro d' j x W' hx hS
          rw [← hT] at hS ⊢
          refine hy (d' + 4) _ W' _ hS.o rfl ?_
          clear hy
          have hxm := hsz.2 x (List.mem_of_getElem? hx)
          have hpl : (dL (l.take i) ++ lK (a.lines.take j)).length ≤ 140737488355328 - 20000 := by
            have h1 := Fu (L := a.lines.take j) fun y hy => hsz.2 y (List.mem_of_mem_take hy)
            have h2 := List.length_take_le j a.lines
            have h3 : (a.lines.take j).length ≤ 514 := by rw [List.length_take]; omega
            have h4 := Nat.mul_le_mul_right 9001 h3
            rw [List.length_append]
            omega
          gi_wp2
          refine ⟨hS.o, ?_⟩
          have hSb := TJ.put (obj' := .loop (rec .busy none)) hS (W.heap.size + 2 + 1) (.loop (rec .busy none)) _ (by have := hlow.size; omega) hS.o rfl (fun D hD => by
            rcases List.mem_cons.1 hD with rfl | hD
            · omega
            · have := cv (hds D hD).2
              omega) (.inr ⟨rfl, rfl⟩)
          have hlt := cv hS.o
          obtain ⟨V1, hV1⟩ : ∃ V1, W'.putObj (W.heap.size + 2 + 1) (.loop (rec .busy none)) = V1 := ⟨_, rfl⟩
          have hs1 : V1.heap.size = W'.heap.size := by rw [← hV1]; simp
          have hk1 : ∀ r, r ≠ W.heap.size + 2 + 1 → V1.heap[r]? = W'.heap[r]? := fun r hr => by rw [← hV1]; exact World.putObj_heap_other hr
          rw [hV1] at hSb ⊢
          have hWS := vL bb bb (Lib.byteCells (dL (l.take i) ++ lK (a.lines.take j))) (x ++ ⟨#[10]⟩) V1 hSb.b
            (by rw [Lib.byteCells_length, ByteArray.size_append]; have : (ByteArray.mk #[10]).size = 1 := rfl; omega) (by have := uk hSb.b; omega)
          gi_wp2_with (refine ⟨trivial, ?_⟩; gi_at_call 43; refine (callsIn_wide.2 hWS).mono ?_; rintro e W6 ⟨rfl, hb6, hlow6, hot6⟩)
          have hnb : ∀ r, bb < r → some r ≠ some bb := fun r h e => by cases e; omega
          have hj : a.lines.take (j + 1) = a.lines.take j ++ [x] := by rw [List.take_add_one, hx]; rfl
          have hS6 : TJ w bb (W.heap.size + 1) (W.heap.size + 2 + 1) (a.V (.slice pw a.ws.length cw)) ((W.heap.size + 2) :: Ds) (.loop (rec .busy none)) (dL (l.take i) ++ lK (a.lines.take (j + 1))) W6 := by
            refine ⟨.inr ?_, hot6 _ _ hSb.a (hnb _ (by omega)) (lJ (by decide)), hSb.low.trans (hlow6.mono hwb), fun D hD => hot6 _ _ (hSb.ds D hD) (fun e => ?_) (sf _), hot6 _ _ hSb.o (hnb _ (by omega)) (AR _)⟩
            · rw [hj, IY, ← List.append_assoc, xa _ (My x)]
              have e1 : Lib.strCells (x ++ ⟨#[10]⟩) = Lib.byteCells (My x) := by
                simp [Lib.strCells, Lib.byteCells, My, ByteArray.data_append]
              rw [← e1]
              exact hb6
            · have h1 := hSb.ds D hD
              have h2 := hSb.b
              cases e
              rcases h2 with ⟨_, v, h2, _⟩ | ⟨_, v, h2, _⟩ <;> (rw [h1] at h2; cases h2)
          have hD' : ∀ D ∈ (W.heap.size + 2) :: Ds, W.heap.size + 2 + 1 ≠ D := fun D hD => by
            rcases List.mem_cons.1 hD with rfl | hD
            · omega
            · have := cv (hds D hD).2
              omega
          have hS7 := TJ.put (obj' := .loop (rec .ready none)) hS6 (W.heap.size + 2 + 1) (.loop (rec .ready none)) _ (by have := hlow.size; omega) hS6.o rfl hD' (.inr ⟨rfl, rfl⟩)
          refine ⟨hS6.o, ?_, ?_, fun r ob h1 h2 h3 => ?_⟩
          · rw [← hT]; exact hS7
          · have := hlow6.size
            simp only [World.putObj_size]
            omega
          · exact (World.putObj_heap_other (by omega)).trans (hot6 _ _ ((hk1 r (by omega)).trans h2) (hnb _ (by omega)) h3)
        rw [hW0]
        refine (KQ 9 (W.heap.size + 2 + 1) (W.heap.size + 1) W0.heap.size a.k a.m a.n a.ws (.slice pw a.ws.length cw) a.y a.t T hI hY W0 rfl h0).mono ?_
        rintro e W' ⟨hv', hS | hS⟩
        · rw [← hT] at hS
          have hS : TJ w bb (W.heap.size + 1) (W.heap.size + 2 + 1) (a.V (.slice pw a.ws.length cw)) ((W.heap.size + 2) :: Ds) (.loop (rec .ready none)) (dL (l.take i) ++ lK (a.lines.take a.lines.length)) W' := hS
          refine ⟨hv', .inl ⟨hS.o, ?_⟩⟩
          have hD' : ∀ D ∈ (W.heap.size + 2) :: Ds, W.heap.size + 2 + 1 ≠ D := fun D hD => by
            rcases List.mem_cons.1 hD with rfl | hD
            · omega
            · have := cv (hds D hD).2
              omega
          have hS7 := TJ.put (obj' := .loop (rec .exhausted none)) hS (W.heap.size + 2 + 1) (.loop (rec .exhausted none)) _ (by have := hlow.size; omega) hS.o rfl hD' (.inr ⟨rfl, rfl⟩)
          obtain ⟨W8, hW8⟩ : ∃ W8, W'.putObj (W.heap.size + 2 + 1) (.loop (rec .exhausted none)) = W8 := ⟨_, rfl⟩
          rw [hW8] at hS7 ⊢
          have hnd' : ((W.heap.size + 2) :: Ds).Nodup := List.nodup_cons.2 ⟨fun h => by have := cv (hds _ h).2; omega, uh⟩
          have hfin : ∀ u6 u7 u12 u16 u17 u18 u19 u20 u21 u22 u23 u24 u25 : Value, NE w bb (some ⟨bl, o, none⟩) cap l { tmps := #[.slice (some ⟨bl, o, none⟩) l.length cap, undef, .string ⟨#[]⟩, .int .i64 0, .pointer (some ⟨bb, 0, none⟩), undef, u6, u7, .slice (some ⟨bl, o, none⟩) l.length cap, .bool false, .slice (some ⟨bl, o, none⟩) l.length cap, .int .i64 l.length, u12, .slice (some ⟨bl, o, none⟩) l.length cap, .int .i64 l.length, .int .i64 ((i : Int) + 1), u16, u17, u18, u19, u20, u21, u22, u23, u24, u25, undef, undef, undef], defers := { target := .collected (W.heap.size + 2), args := #[] } :: Ds.map KR } W8 := by
            intro u6 u7 u12 u16 u17 u18 u19 u20 u21 u22 u23 u24 u25
            refine ⟨i + 1, (W.heap.size + 2) :: Ds, u6, u7, u12, u16, u17, u18, u19, u20, u21, u22, u23, u24, u25, rfl, by omega, ?_, hS7.low, hnd', fun D hD => ⟨?_, hS7.ds D hD⟩⟩
            · have h1 := hS7.b
              rw [List.take_length] at h1
              rw [List.take_add_one, hai]
              show Lib.IsBuilderF 74 5 bb bb (Lib.byteCells (dL (l.take i ++ [a]))) W8
              rw [AZ]
              exact h1
            · have := hlow.size
              rcases List.mem_cons.1 hD with rfl | hD
              · omega
              · exact (hds D hD).1
          gi_wp2
          simp [intOf]
          omega
        · rw [← hT] at hS
          exact hS.elim
      · have hil : i = l.length := by omega
        rw [hil, List.take_length] at hbld
        have hLen := Tryd.Builder_Len_f bb bb _ W hbld
        rw [Lib.byteCells_length] at hLen
        have hStr := Any.Builder_String_any_k DQ pF bb bb (dL l) W hbld (Nat.le_of_lt (uk hbld))
        gi_wp2_with first
          | (refine ⟨trivial, ?_⟩; gi_at_call 44; refine (callsIn_wide.2 hLen).mono ?_; rintro e w' ⟨rfl, rfl⟩)
          | (refine ⟨trivial, ?_⟩; gi_at_call 45; refine (callsIn_wide.2 hStr).mono ?_; rintro e W5 ⟨rfl, _, hb5, ho5⟩)
        · exact rz w.heap.size (fun W => results_tmp2 rfl _ _ _) (fun W => Below w.heap.size w W) (fun W D h1 h2 => gR h2 h1 _) (fun W h => ⟨rfl, h⟩) Ds _ uh hds hlow
        · exact rz w.heap.size (fun W => results_tmp2 rfl _ _ _) (fun W => Below w.heap.size w W) (fun W D h1 h2 => gR h2 h1 _) (fun W h => ⟨rfl, h⟩) Ds W5 uh (fun D hD => ⟨(hds D hD).1, ho5 _ _ (hds D hD).2 (fun e => by
            cases e
            rcases hbld with ⟨_, v, h2, _⟩ | ⟨_, v, h2, _⟩ <;> (rw [(hds _ hD).2] at h2; cases h2)) (sf _)⟩) (hlow.trans (hb5.mono hwb))
end Go.Plb.Seat
namespace Go.Plb.Seat
open Go Go.Plb Go.Proofs Go.RowKit
set_option maxRecDepth 100000
set_option linter.unusedSimpArgs false
set_option linter.unusedVariables false
theorem sg{ρ:ae}{W:World}{k:IntKind}{n:Int}{u:Value}(h:VR ρ W (.int k n) u) :u=.int k n:=by cases h;rfl
theorem GQ{ρ:ae}{W:World}{lv:Lv}{ws:List Int}{len:Nat}(hlen:len=ws.length){v:Value}(hv:VR ρ W (.imm lv (.ns .u64 ws) 1 1 0 len) v) :VR ae.none_ W (hX ws) v:=by
  have av:∀ bl,ae.none_.avoid .free bl:=fun bl j _=>by cases j<;>exact fun h=>h
  generalize hA:AV.imm lv (.ns .u64 ws) 1 1 0 len=A at hv
  cases hv with
  | imm bw d k es i len' cap bl o u ha hb hc hv hl hr hk hg =>
    cases hA
    subst hlen
    refine .imm .free (.ns .u64 ws) 1 1 0 ws.length cap bl o u (av bl) hb hc (fun x v hx=>?_) hl trivial (fun _=>rfl) rfl
    have h1:=hv x v hx
    simp only [an.cell?,Option.map_eq_some_iff] at hx
    obtain ⟨z,_,rfl⟩:=hx
    rw [sg h1]
    exact .int _ _
  | immEnd bw d k es i cap a hr hk hg =>
    simp only [AV.imm.injEq] at hA
    obtain ⟨_,_,_,_,_,h0⟩:=hA
    subst h0
    show VR ae.none_ W (.imm .free (.ns .u64 ws) 1 1 0 ws.length) _
    rw [←hlen]
    exact .immEnd _ _ _ _ _ _ _ trivial (fun _=>rfl) rfl
  | _=>cases hA
def KS(d:an)(l:List kC) :Prop:=∀ i a,l[i]? = some a→∃ lv,d.cell? (i*6)=some (.int .i64 a.k)∧d.cell? (i*6+1)=some (.int .i64 a.m)∧d.cell? (i*6+2)=some (.int .i64 a.n) ∧
  d.cell? (i*6+3)=some (.imm lv (.ns .u64 a.ws) 1 1 0 a.ws.length)∧d.cell? (i*6+4)=some (.int .i64 a.y)∧d.cell? (i*6+5)=some (.int .u64 a.t)
theorem HN(bw:Lv)(d:an)(k es:Nat)(l:List kC)(hd:KS d l)(hl:l.length≤1000000000) :ao prog fe [] [.imm bw d k es 0 l.length] ⟨.tup [.str (tn l),.int .i64 (hH l)],[]⟩:=by
  refine cp ⟨FN fe,by kernel_rfl,by kernel_rfl⟩ fun ρ w us hN hv=>?_
  cases hv with | cons _ u _ _ h1 h2 =>
  cases h2
  have key:∃ p bl o cap,u=.slice p l.length cap∧(1≤l.length→p=some ⟨bl,o,none⟩)∧uj w bl o l:=by
    generalize hA:AV.imm bw d k es 0 l.length=A at h1
    cases h1 with
    | imm bw d k es i len cap bl o u ha hb hc hv hl hr hk hg =>
      cases hA
      refine ⟨_,bl,o+0*k,cap,rfl,fun _=>rfl,fun i a hi=>?_⟩
      obtain ⟨lv,g0,g1,g2,g3,g4,g5⟩:=hd i a hi
      refine ⟨u (i*6+3),?_,?_,?_,?_,?_,?_,GQ rfl (hv _ _ g3),hb⟩
      · have:=hc _ _ g0;rw [sg (hv _ _ g0)] at this;rw [show o+0*k+i*6=o+i*6 by omega];exact this
      · have:=hc _ _ g1;rw [sg (hv _ _ g1)] at this;rw [show o+0*k+i*6+1=o+(i*6+1) by omega];exact this
      · have:=hc _ _ g2;rw [sg (hv _ _ g2)] at this;rw [show o+0*k+i*6+2=o+(i*6+2) by omega];exact this
      · have:=hc _ _ g3;rw [show o+0*k+i*6+3=o+(i*6+3) by omega];exact this
      · have:=hc _ _ g4;rw [sg (hv _ _ g4)] at this;rw [show o+0*k+i*6+4=o+(i*6+4) by omega];exact this
      · have:=hc _ _ g5;rw [sg (hv _ _ g5)] at this;rw [show o+0*k+i*6+5=o+(i*6+5) by omega];exact this
    | immEnd bw d k es i cap a hr hk hg =>
      simp only [AV.imm.injEq] at hA
      obtain ⟨_,_,_,_,_,h0⟩:=hA
      rw [h0]
      refine ⟨a,0,0,cap,rfl,fun h=>by omega,fun i a hi=>?_⟩
      have:=(List.getElem?_eq_some_iff.1 hi).1
      omega
    | _=>cases hA
  obtain ⟨p,bl,o,cap,rfl,hp,hA⟩:=key
  refine (Fx bl o cap l hl w hN.romOk hA p hp).mono ?_
  rintro e w' ⟨rfl,hb⟩
  exact ⟨_,rfl,hb,.tup _ _ (.cons _ _ _ _ (.str _) (.cons _ _ _ _ (.int _ _) .nil))⟩
def D5:aU:=⟨fe,fun lent args=>match lent,args with
  | [],[.imm bw (.vs [.int .i64 k,.int .i64 m,.int .i64 n,.imm lv (.ns .u64 ws) 1 1 0 len,.int .i64 y,.int .u64 t]) 1 6 0 1] =>
    some [⟨⟨.tup [.str (tn [⟨k,m,n,ws,y,t⟩]),.int .i64 (hH [⟨k,m,n,ws,y,t⟩])],[]⟩,[Nat.beq len ws.length]⟩]
  | _,_=>none⟩
theorem GR:bm prog D5:=by
  intro lent args alts a h ha ho
  simp only [D5] at h
  split at h
  · simp only [Option.some.injEq] at h;subst h
    simp only [List.mem_singleton] at ha;subst ha
    rename_i bw k m n lv ws len y t
    have hlen:len=ws.length:=Nat.eq_of_beq_eq_true ho.1
    subst hlen
    refine HN bw _ 1 6 [⟨k,m,n,ws,y,t⟩] (fun i a hi=>?_) (show 1≤1000000000 by omega)
    cases i with
    | zero=>cases hi;exact ⟨lv,rfl,rfl,rfl,rfl,rfl,rfl⟩
    | succ i=>simp at hi
  · cases h
end Go.Plb.Seat
namespace Go.Plb.Seat
open Go Go.Plb
set_option linter.unusedSimpArgs false
set_option linter.unusedVariables false
set_option maxRecDepth 100000
noncomputable def MX:List aU:=D5::MW
theorem LP:bC prog (bG MX):=aE GR vD
def N7:Option (nE×List Bool×bZ)→Bool
  | some (⟨.bool _ true,[]⟩,o,_)=>Im o
  | _=>false
theorem KT{r:Option (nE×List Bool×bZ)}(h:N7 r=true) :∃ k o p,r=some (⟨.bool k true,[]⟩,o,p)∧am o:=by
  unfold N7 at h
  split at h
  · exact ⟨_,_,_,rfl,Cj h⟩
  · cases h
theorem IZ:N7 (Cp C0 (bG MX) (sc C0 (bG MX) 50 100) ol [] [] none)=true:=by kernel_rfl
theorem LQ:ao prog ol [] [] ⟨.bool false true,[]⟩:=by
  obtain ⟨k,o,p,h,ho⟩:=KT IZ
  exact (ao.run Mu LP none _ _ h ho).weak (Gu _ _ _)
def D6:aU:=⟨ol,fun L args=>match L,args with | [],[]=>one (.bool false true) [] | _,_=>none⟩
theorem GS:bm prog D6:=by
  intro L args alts a h ha ho
  simp only [D6] at h
  split at h
  · exact IC h ha ho fun q=>LQ
  · cases h
end Go.Plb.Seat
namespace Go.Plb.Seat
open Go Go.Plb
noncomputable def NF:List aU:=D6::tj
theorem HO:bC prog (bG NF):=aE GS wV
end Go.Plb.Seat
namespace Go.Plb.Seat
open Go Go.Plb
set_option linter.unusedVariables false
set_option maxRecDepth 100000
noncomputable section
inductive aB where
  | r0 (i1:Int)
def md:aB→AE×aG
  | .r0 i1=>(.ret,⟨aF 143 [(4,.int .i64 i1)],[],0⟩)
def cP:aB→nE
  | .r0 i1=>⟨.int .i64 i1,[]⟩
def lL(s_0:ByteArray)(substr_1:ByteArray) :T ((Empty)⊕(aB)) :=
  .ask (((substr_1.size:Nat):Int)==(0:Int))
    (.leaf (.inr (.r0 (0:Int))))
    (.ask (substr_1.toList==s_0.toList)
      (.leaf (.inr (.r0 (0:Int))))
      (.ask (((substr_1.size:Nat):Int)==(1:Int))
        (.need (yh (0:Int) substr_1.size)<|.leaf (.inr (.r0 (EI s_0 (bF substr_1 0)))))
        (.ask (decide (((substr_1.size:Nat):Int)≥((s_0.size:Nat):Int)))
          (.leaf (.inr (.r0 (-1:Int))))
          (.fail))))
noncomputable def aj(s_0:ByteArray)(substr_1:ByteArray) :Option aB:=Au ((lL s_0 substr_1).run)
theorem lM(s_0:ByteArray)(substr_1:ByteArray){x:aB}(h:aj s_0 substr_1=some x) :ao prog eR [] [.str s_0,.str substr_1] (cP x) :=
  DS false cP md h (eL HO Av [⟨[],[],[4]⟩,⟨[],[],[4]⟩,⟨[],[],[4]⟩,⟨[],[],[4]⟩])
    (fun x=>by cases x with | r0 i1=>exact uh [.int .i64 i1])
def aW:Option aB→Bool
  | some _=>true
  | none=>false
def ak:Option aB→Int
  | some (.r0 x)=>x
  | _=>0
theorem lN{x:Option aB}(h:aW x=true) :x=some (.r0 (ak x)):=by
  unfold aW at h
  split at h<;>first | rfl | (cases h;done) | (rename_i y;cases y;rfl)
noncomputable def eX:aU:=eh eR (.cons .str (.cons .str .nil)) fun t=>(fun q=>[⟨cP (.r0 (ak q)),[aW q]⟩]) (aj t.1 t.2.1)
theorem kD:bm prog eX:=bA fun t=>(bQ (fun h=>lM t.1 t.2.1 (lN h)) cC)
noncomputable def eY:List aU:=eX::NF
theorem ct:bC prog (bG eY):=aE kD HO
inductive bt where
  | r0 (i3:Int)
def jv:bt→AE×aG
  | .r0 i3=>(.ret,⟨aF 34 [(4,.int .i64 i3)],[],0⟩)
theorem oR:ug jv:=by intro x;cases x<;>(intro h;cases h)
theorem xb(id:Nat) :vy id jv:=by intro x;cases x<;>(intro h;cases h)
def me:bt→nE
  | .r0 i3=>⟨.int .i64 i3,[]⟩
noncomputable def xc:List Code:=dW (yq ma)
def xd(s_0:ByteArray)(substr_1:ByteArray)(_:Unit) :aG:=⟨aF 34 [(0,.str s_0),(1,.str substr_1),(5,.int .i64 (0:Int))],[],0⟩
def xe(s_0:ByteArray)(substr_1:ByteArray) :T ((Unit)⊕(bt)) :=
  .ask (((substr_1.size:Nat):Int)==(0:Int))
    (.fail)
    (.ask (((substr_1.size:Nat):Int)==(1:Int))
      (.need (yh (0:Int) substr_1.size)<|.leaf (.inr (.r0 (Ik s_0 (bF substr_1 0)))))
      (.leaf (.inl ())))
def gU(substr_1:ByteArray) :ByteArray×Nat→aG:=fun (s1,n2)=>⟨aF 34 [(0,.str s1),(1,.str substr_1),(5,.int .i64 ((n2:Nat):Int))],[],0⟩
noncomputable def xf:List Code:=dW (pH (((xc.drop 6)).headD .skip))
def xg(substr_1:ByteArray)(s1:ByteArray)(n2:Nat) :T ((ByteArray×Nat)⊕((Empty)⊕(bt))) :=
  .need (aW (aj s1 substr_1))<|.ask ((ak (aj s1 substr_1))==(-1:Int))
    (.leaf (.inr (.inr (.r0 ((n2:Nat):Int)))))
    (.need (kJ .i64 (((n2+1):Nat):Int))<|.need (kJ .i64 ((ak (aj s1 substr_1))+((substr_1.size:Nat):Int)))<|.need (lU ((s1.size:Nat):Int) s1.size)<|.need (lU ((ak (aj s1 substr_1))+((substr_1.size:Nat):Int)) s1.size)<|.leaf (.inl ((s1.extract (Int.toNat ((ak (aj s1 substr_1))+((substr_1.size:Nat):Int))) s1.size),(n2+1))))
noncomputable def kS(substr_1:ByteArray) :ByteArray×Nat→Option ((ByteArray×Nat)⊕((Empty)⊕(bt))):=fun (s1,n2) =>
  (xg substr_1 s1 n2).run
theorem xh(substr_1:ByteArray)(s1:ByteArray)(n2:Nat) :Sg prog [] xf (gU substr_1 (s1,n2)) (kS substr_1 (s1,n2)) (gU substr_1) (jP (ρ:=Empty) 0 (fun a=>a.elim) jv):=by
  unfold kS;exact eL ct (gU substr_1) [⟨[],[],[4]⟩,⟨[],[],[0,1,5]⟩]
noncomputable def cQ(s_0:ByteArray)(substr_1:ByteArray) :Option bt:=Au (ch ((xe s_0 substr_1).run) fun _ =>
  ei (kS substr_1) (s_0,0))
theorem xi(s_0:ByteArray)(substr_1:ByteArray){x:bt}(h:cQ s_0 substr_1=some x) :ao prog ma [] [.str s_0,.str substr_1] (me x) :=
  DS false me jv h (Sg.cut 6 oR (eL ct (xd s_0 substr_1) [⟨[],[],[4]⟩,⟨[],[],[0,1,5]⟩]) (fun _=>Nz ⟨[],[],[0,1,5]⟩ (gU substr_1) (fun a:Empty=>a.elim) 0 oR (xb _) (fun ⟨s1,n2⟩=>xh substr_1 s1 n2)))
    (fun x=>by cases x with | r0 i3=>exact uh [.int .i64 i3])
def gV:Option bt→Bool
  | some _=>true
  | none=>false
def er:Option bt→Int
  | some (.r0 x)=>x
  | _=>0
theorem xj{x:Option bt}(h:gV x=true) :x=some (.r0 (er x)):=by
  unfold gV at h
  split at h<;>first | rfl | (cases h;done) | (rename_i y;cases y;rfl)
noncomputable def qm:aU:=eh ma (.cons .str (.cons .str .nil)) fun t=>(fun q=>[⟨me (.r0 (er q)),[gV q]⟩]) (cQ t.1 t.2.1)
theorem ul:bm prog qm:=bA fun t=>(bQ (fun h=>xi t.1 t.2.1 (xj h)) cC)
noncomputable def qn:List aU:=qm::eY
theorem dq:bC prog (bG qn):=aE ul ct
inductive aJ where
  | r0 (a11:Nat) (a12:Nat) (l13:List ByteArray)
def eu:aJ→AE×aG
  | .r0 a11 a12 l13=>(.ret,⟨aF 66 [(8,.sl 0 1 1 0 a11 a12)],[(0,.ss l13)],1⟩)
theorem dN:ug eu:=by intro x;cases x<;>(intro h;cases h)
theorem sn(id:Nat) :vy id eu:=by intro x;cases x<;>(intro h;cases h)
def jz:aJ→nE
  | .r0 a11 a12 l13=>⟨.sl 0 1 1 0 a11 a12,[some (.ss l13)]⟩
noncomputable def so:List Code:=dW (yq jx)
def su(s_0:ByteArray)(sep_1:ByteArray)(sepSave_2:Int)(n1:Int) :aG:=⟨aF 66 [(0,.str s_0),(1,.str sep_1),(2,.int .i64 sepSave_2),(3,.int .i64 n1)],[],0⟩
def ia(s_0:ByteArray)(sep_1:ByteArray)(n_3:Int) :T ((Int)⊕(aJ)) :=
  .ask (n_3==(0:Int))
    (.leaf (.inr (.r0 0 0 ([]:List ByteArray))))
    (.ask (sep_1.toList==ByteArray.empty.toList)
      (.fail)
      (.ask (decide (n_3<(0:Int)))
        (.need (gV (cQ s_0 sep_1))<|.need (kJ .i64 ((er (cQ s_0 sep_1))+(1:Int)))<|.leaf (.inl ((er (cQ s_0 sep_1))+(1:Int))))
        (.leaf (.inl n_3))))
def sv(s_0:ByteArray)(sep_1:ByteArray)(sepSave_2:Int) :Int×Nat×(List ByteArray)→aG:=fun (n2,a3,l4)=>⟨aF 66 [(0,.str s_0),(1,.str sep_1),(2,.int .i64 sepSave_2),(3,.int .i64 n2),(9,.sl 0 1 1 0 a3 a3),(10,.int .i64 (0:Int))],[(0,.ss l4)],1⟩
def ib(s_0:ByteArray)(n1:Int) :T ((Int×Nat×(List ByteArray))⊕(aJ)) :=
  .need (kJ .i64 (((s_0.size+1):Nat):Int))<|.need (decide ((0:Int)≤(nY n1 (((s_0.size+1):Nat):Int))))<|.need (decide ((nY n1 (((s_0.size+1):Nat):Int))≤(nY n1 (((s_0.size+1):Nat):Int))))<|.need (decide ((16:Int)*(nY n1 (((s_0.size+1):Nat):Int))≤140737488355328))<|.need (kJ .i64 (nY n1 (((s_0.size+1):Nat):Int)))<|.need (kJ .i64 ((nY n1 (((s_0.size+1):Nat):Int))-(1:Int)))<|.leaf (.inl (((nY n1 (((s_0.size+1):Nat):Int))-(1:Int)),(Int.toNat (nY n1 (((s_0.size+1):Nat):Int))),(List.replicate (Int.toNat (nY n1 (((s_0.size+1):Nat):Int))) ByteArray.empty)))
def dO(sep_1:ByteArray)(sepSave_2:Int)(n2:Int)(a3:Nat) :ByteArray×Nat×(List ByteArray)→aG:=fun (s5,i6,l7)=>⟨aF 66 [(0,.str s5),(1,.str sep_1),(2,.int .i64 sepSave_2),(3,.int .i64 n2),(9,.sl 0 1 1 0 a3 a3),(10,.int .i64 ((i6:Nat):Int))],[(0,.ss l7)],1⟩
def mi(a3:Nat) :ByteArray×Nat×(List ByteArray)→aG:=fun (s8,i9,l10)=>⟨aF 66 [(0,.str s8),(9,.sl 0 1 1 0 a3 a3),(10,.int .i64 ((i9:Nat):Int))],[(0,.ss l10)],1⟩
noncomputable def rA:List Code:=dW (pH (((((so.drop 7).drop 4).take 1)).headD .skip))
def lO(sep_1:ByteArray)(sepSave_2:Int)(n2:Int)(a3:Nat)(s5:ByteArray)(i6:Nat)(l7:List ByteArray) :T ((ByteArray×Nat×(List ByteArray))⊕((ByteArray×Nat×(List ByteArray))⊕(aJ))) :=
  .ask (decide (((i6:Nat):Int)<n2))
    (.need (aW (aj s5 sep_1))<|.ask (decide ((ak (aj s5 sep_1))<(0:Int)))
      (.leaf (.inr (.inl (s5,i6,l7))))
      (.need (kJ .i64 ((ak (aj s5 sep_1))+sepSave_2))<|.need (lU ((ak (aj s5 sep_1))+sepSave_2) s5.size)<|.need (lU (0:Int) (Int.toNat ((ak (aj s5 sep_1))+sepSave_2)))<|.need (yh ((i6:Nat):Int) a3)<|.need (nv i6 (List.length l7))<|.need (kJ .i64 ((ak (aj s5 sep_1))+((sep_1.size:Nat):Int)))<|.need (lU ((s5.size:Nat):Int) s5.size)<|.need (lU ((ak (aj s5 sep_1))+((sep_1.size:Nat):Int)) s5.size)<|.need (kJ .i64 (((i6+1):Nat):Int))<|.leaf (.inl ((s5.extract (Int.toNat ((ak (aj s5 sep_1))+((sep_1.size:Nat):Int))) s5.size),(i6+1),(List.set l7 i6 (s5.extract 0 (Int.toNat ((ak (aj s5 sep_1))+sepSave_2))))))))
    (.leaf (.inr (.inl (s5,i6,l7))))
noncomputable def dF(sep_1:ByteArray)(sepSave_2:Int)(n2:Int)(a3:Nat) :ByteArray×Nat×(List ByteArray)→Option ((ByteArray×Nat×(List ByteArray))⊕((ByteArray×Nat×(List ByteArray))⊕(aJ))):=fun (s5,i6,l7) =>
  (lO sep_1 sepSave_2 n2 a3 s5 i6 l7).run
theorem rB(sep_1:ByteArray)(sepSave_2:Int)(n2:Int)(a3:Nat)(s5:ByteArray)(i6:Nat)(l7:List ByteArray) :Sg prog [] rA (dO sep_1 sepSave_2 n2 a3 (s5,i6,l7)) (dF sep_1 sepSave_2 n2 a3 (s5,i6,l7)) (dO sep_1 sepSave_2 n2 a3) (jP 0 (mi a3) eu):=by
  unfold dF;exact eL dq (dO sep_1 sepSave_2 n2 a3) [⟨[],[0],[0,9,10]⟩,⟨[],[0],[0,1,2,3,9,10]⟩,⟨[],[0],[0,9,10]⟩]
def fH(a3:Nat)(s8:ByteArray)(i9:Nat)(l10:List ByteArray) :T ((Empty)⊕(aJ)) :=
  .need (yh ((i9:Nat):Int) a3)<|.need (nv i9 (List.length l10))<|.need (kJ .i64 (((i9+1):Nat):Int))<|.need (lU (((i9+1):Nat):Int) a3)<|.need (lU (0:Int) (i9+1))<|.leaf (.inr (.r0 (i9+1) a3 (List.set l10 i9 s8)))
noncomputable def aQ(s_0:ByteArray)(sep_1:ByteArray)(sepSave_2:Int)(n_3:Int) :Option aJ:=Au (ch ((ia s_0 sep_1 n_3).run) fun n1 =>
  ch ((ib s_0 n1).run) fun (n2,a3,l4) =>
  ch (ei (dF sep_1 sepSave_2 n2 a3) (s_0,0,l4)) fun (s8,i9,l10) =>
  (fH a3 s8 i9 l10).run)
theorem sw(s_0:ByteArray)(sep_1:ByteArray)(sepSave_2:Int)(n_3:Int){x:aJ}(h:aQ s_0 sep_1 sepSave_2 n_3=some x) :ao prog jx [] [.str s_0,.str sep_1,.int .i64 sepSave_2,.int .i64 n_3] (jz x) :=
  DS false jz eu h (Sg.cut 7 dN (eL dq (su s_0 sep_1 sepSave_2) [⟨[(.slot 8,.own 1 1 (.ss ([]:List ByteArray)))],[64],[8]⟩,⟨[],[],[0,1,2,3]⟩,⟨[],[],[0,1,2,3]⟩]) (fun n1=>Sg.cut 4 dN (eL dq (sv s_0 sep_1 sepSave_2) [⟨[],[112],[0,1,2,3,9,10]⟩]) (fun ⟨n2,a3,l4⟩=>Sg.cut 1 dN (Nz ⟨[],[0],[0,1,2,3,9,10]⟩ (dO sep_1 sepSave_2 n2 a3) (mi a3) 0 dN (sn _) (fun ⟨s5,i6,l7⟩=>rB sep_1 sepSave_2 n2 a3 s5 i6 l7)) (fun ⟨s8,i9,l10⟩=>eL dq Av [⟨[],[0],[8]⟩]))))
    (fun x=>by cases x with | r0 a11 a12 l13=>exact uh [.sl 0 1 1 0 a11 a12])
def cT:Option aJ→Bool
  | some _=>true
  | none=>false
def dv:Option aJ→Nat
  | some (.r0 x _ _)=>x
  | _=>0
def dw:Option aJ→Nat
  | some (.r0 _ x _)=>x
  | _=>0
def dx:Option aJ→List ByteArray
  | some (.r0 _ _ x)=>x
  | _=>[]
theorem sx{x:Option aJ}(h:cT x=true) :x=some (.r0 (dv x) (dw x) (dx x)):=by
  unfold cT at h
  split at h<;>first | rfl | (cases h;done) | (rename_i y;cases y;rfl)
noncomputable def ni:aU:=eh jx (.cons .str (.cons .str (.cons (.int .i64) (.cons (.int .i64) .nil)))) fun t=>(fun q=>[⟨jz (.r0 (dv q) (dw q) (dx q)),[cT q]⟩]) (aQ t.1 t.2.1 t.2.2.1 t.2.2.2.1)
theorem qv:bm prog ni:=bA fun t=>(bQ (fun h=>sw t.1 t.2.1 t.2.2.1 t.2.2.2.1 (sx h)) cC)
noncomputable def nj:List aU:=ni::qn
theorem bS:bC prog (bG nj):=aE qv dq
inductive aK where
  | r0 (i5:Int) (i6:Int) (i7:Int)
def nk:aK→AE×aG
  | .r0 i5 i6 i7=>(.ret,⟨aF 37 [(4,.ptr 0 1 0 0)],[(0,.vs [.int .i64 i5,.int .i64 (0:Int),.int .i64 (0:Int),.nsl,.int .i64 i6,.int .u64 i7])],1⟩)
theorem dP:ug nk:=by intro x;cases x<;>(intro h;cases h)
def jA:aK→nE
  | .r0 i5 i6 i7=>⟨.agg [.int .i64 i5,.int .i64 (0:Int),.int .i64 (0:Int),.nsl,.int .i64 i6,.int .u64 i7],[]⟩
def sy(v_0:Lv)(w_1:List ByteArray)(i_3:Int)(v_4:Lv)(s_5:ByteArray)(i_6:Int)(b_7:Bool)(b_8:Bool)(b1:Bool) :aG:=⟨aF 37 [(0,.imm v_0 (.ss w_1) 1 1 0 (List.length w_1)),(2,.iptr v_4 (.vs [.str s_5,.int .i64 i_6,.bool false b_7,.bool false b_8]) 1 0 0),(4,.ptr 0 1 0 0),(5,.ptr 1 1 0 0),(15,.bool false b1)],[(0,.vs [.int .i64 (0:Int),.int .i64 (0:Int),.int .i64 (0:Int),.nsl,.int .i64 (0:Int),.int .u64 (0:Int)]),(1,.vs [.int .i64 i_3,.int .i64 (0:Int),.int .i64 (0:Int),.nsl,.int .i64 (0:Int),.int .u64 (0:Int)])],2⟩
def mj(w_1:List ByteArray)(i_6:Int) :T ((Bool)⊕(aK)) :=
  .ask (decide (i_6>(0:Int)))
    (.leaf (.inl (decide ((((List.length w_1):Nat):Int)>(0:Int)))))
    (.leaf (.inl false))
def sA(v_0:Lv)(w_1:List ByteArray)(i_3:Int)(v_4:Lv)(s_5:ByteArray)(i_6:Int)(b_7:Bool)(b_8:Bool)(i2:Int) :aG:=⟨aF 37 [(0,.imm v_0 (.ss w_1) 1 1 0 (List.length w_1)),(2,.iptr v_4 (.vs [.str s_5,.int .i64 i_6,.bool false b_7,.bool false b_8]) 1 0 0),(4,.ptr 0 1 0 0),(5,.ptr 1 1 0 0)],[(0,.vs [.int .i64 (0:Int),.int .i64 (0:Int),.int .i64 (0:Int),.nsl,.int .i64 (0:Int),.int .u64 (0:Int)]),(1,.vs [.int .i64 i_3,.int .i64 (0:Int),.int .i64 (0:Int),.nsl,.int .i64 i2,.int .u64 (0:Int)])],2⟩
def sB(w_1:List ByteArray)(b1:Bool) :T ((Int)⊕(aK)) :=
  .ask b1
    (.need (yh (0:Int) (List.length w_1))<|.need (nv 0 (List.length w_1))<|.need (ek (List.getD w_1 0 ByteArray.empty).size)<|.leaf (.inl (cS (List.getD w_1 0 ByteArray.empty))))
    (.leaf (.inl (0:Int)))
def sC(v_0:Lv)(w_1:List ByteArray)(i_3:Int)(i2:Int)(b3:Bool) :aG:=⟨aF 37 [(0,.imm v_0 (.ss w_1) 1 1 0 (List.length w_1)),(4,.ptr 0 1 0 0),(5,.ptr 1 1 0 0),(27,.bool false b3)],[(0,.vs [.int .i64 (0:Int),.int .i64 (0:Int),.int .i64 (0:Int),.nsl,.int .i64 (0:Int),.int .u64 (0:Int)]),(1,.vs [.int .i64 i_3,.int .i64 (0:Int),.int .i64 (0:Int),.nsl,.int .i64 i2,.int .u64 (0:Int)])],2⟩
def ml(w_1:List ByteArray)(b_7:Bool) :T ((Bool)⊕(aK)) :=
  .ask b_7
    (.leaf (.inl (decide ((((List.length w_1):Nat):Int)>(1:Int)))))
    (.leaf (.inl false))
def sD(i_3:Int)(i2:Int)(i4:Int) :aG:=⟨aF 37 [(4,.ptr 0 1 0 0),(5,.ptr 1 1 0 0)],[(0,.vs [.int .i64 (0:Int),.int .i64 (0:Int),.int .i64 (0:Int),.nsl,.int .i64 (0:Int),.int .u64 (0:Int)]),(1,.vs [.int .i64 i_3,.int .i64 (0:Int),.int .i64 (0:Int),.nsl,.int .i64 i2,.int .u64 i4])],2⟩
def sE(w_1:List ByteArray)(b3:Bool) :T ((Int)⊕(aK)) :=
  .ask b3
    (.need (yh (1:Int) (List.length w_1))<|.need (nv 1 (List.length w_1))<|.need (ek (List.getD w_1 1 ByteArray.empty).size)<|.leaf (.inl (fE (List.getD w_1 1 ByteArray.empty))))
    (.leaf (.inl (0:Int)))
def rC(i_3:Int)(i2:Int)(i4:Int) :T ((Empty)⊕(aK)) :=
  .leaf (.inr (.r0 i_3 i2 i4))
noncomputable def bI(w_1:List ByteArray)(i_3:Int)(i_6:Int)(b_7:Bool) :Option aK:=Au (ch ((mj w_1 i_6).run) fun b1 =>
  ch ((sB w_1 b1).run) fun i2 =>
  ch ((ml w_1 b_7).run) fun b3 =>
  ch ((sE w_1 b3).run) fun i4 =>
  (rC i_3 i2 i4).run)
theorem sF(v_0:Lv)(w_1:List ByteArray)(v_2:Lv)(i_3:Int)(v_4:Lv)(s_5:ByteArray)(i_6:Int)(b_7:Bool)(b_8:Bool){x:aK}(h:bI w_1 i_3 i_6 b_7=some x) :ao prog cy [] [.imm v_0 (.ss w_1) 1 1 0 (List.length w_1),.iptr v_2 (.vs [.int .i64 i_3]) 1 0 0,.iptr v_4 (.vs [.str s_5,.int .i64 i_6,.bool false b_7,.bool false b_8]) 1 0 0] (jA x) :=
  DS false jA nk h (Sg.cut 3 dP (eL bS (sy v_0 w_1 i_3 v_4 s_5 i_6 b_7 b_8) [⟨[],[0,48],[0,2,4,5,15]⟩,⟨[],[0,48],[0,2,4,5,15]⟩]) (fun b1=>Sg.cut 1 dP (eL bS (sA v_0 w_1 i_3 v_4 s_5 i_6 b_7 b_8) [⟨[],[0,1],[0,2,4,5]⟩,⟨[],[0,1],[0,2,4,5]⟩]) (fun i2=>Sg.cut 1 dP (eL bS (sC v_0 w_1 i_3 i2) [⟨[],[0,1],[0,4,5,27]⟩,⟨[],[0,1],[0,4,5,27]⟩]) (fun b3=>Sg.cut 1 dP (eL bS (sD i_3 i2) [⟨[],[0,1],[4,5]⟩,⟨[],[0,1],[4,5]⟩]) (fun i4=>eL bS Av [⟨[],[0],[4]⟩])))))
    (fun x=>by cases x with | r0 i5 i6 i7=>exact uh [.agg [.int .i64 i5,.int .i64 (0:Int),.int .i64 (0:Int),.nsl,.int .i64 i6,.int .u64 i7]])
def dQ:Option aK→Bool
  | some _=>true
  | none=>false
def fh:Option aK→Int
  | some (.r0 x _ _)=>x
  | _=>0
def fi:Option aK→Int
  | some (.r0 _ x _)=>x
  | _=>0
def fj:Option aK→Int
  | some (.r0 _ _ x)=>x
  | _=>0
theorem sG{x:Option aK}(h:dQ x=true) :x=some (.r0 (fh x) (fi x) (fj x)):=by
  unfold dQ at h
  split at h<;>first | rfl | (cases h;done) | (rename_i y;cases y;rfl)
noncomputable def np:aU:=eh cy (.cons .ss (.cons (.ivs (.cons (.int .i64) .nil) 1 0 0) (.cons (.ivs (.cons .str (.cons (.int .i64) (.cons .bool (.cons .bool .nil)))) 1 0 0) .nil))) fun t=>(fun q=>[⟨jA (.r0 (fh q) (fi q) (fj q)),[dQ q]⟩]) (bI t.1.2 t.2.1.2.1 t.2.2.1.2.2.1 t.2.2.1.2.2.2.1)
theorem qw:bm prog np:=bA fun t=>(bQ (fun h=>sF t.1.1 t.1.2 t.2.1.1 t.2.1.2.1 t.2.2.1.1 t.2.2.1.2.1 t.2.2.1.2.2.1 t.2.2.1.2.2.2.1 t.2.2.1.2.2.2.2.1 (sG h)) cC)
noncomputable def nq:List aU:=np::nj
theorem bT:bC prog (bG nq):=aE qw bS
inductive aR where
  | r0 (a13:Nat) (i14:Int) (i15:Int) (i17:Int)
def qo:aR→AE×aG
  | .r0 a13 i14 i15 i17=>(.ret,⟨aF 32 [(2,.ptr 0 1 0 0),(3,.int .i64 ((a13:Nat):Int))],[(0,.vs [.int .i64 i14,.int .i64 (0:Int),.int .i64 (0:Int),.nsl,.int .i64 i15,.int .u64 i17])],1⟩)
theorem gW:ug qo:=by intro x;cases x<;>(intro h;cases h)
def mf:aR→nE
  | .r0 a13 i14 i15 i17=>⟨.tup [.agg [.int .i64 i14,.int .i64 (0:Int),.int .i64 (0:Int),.nsl,.int .i64 i15,.int .u64 i17],.int .i64 ((a13:Nat):Int)],[]⟩
def xk(s_0:ByteArray) :Nat×Nat×(List ByteArray)→aG:=fun (w1,w2,l3)=>⟨aF 32 [(0,.str s_0),(2,.ptr 0 1 0 0),(4,.sl 1 1 1 0 w1 w2)],[(0,.vs [.int .i64 (0:Int),.int .i64 (0:Int),.int .i64 (0:Int),.nsl,.int .i64 (0:Int),.int .u64 (0:Int)]),(1,.ss l3)],2⟩
def kT(s_0:ByteArray) :T ((Nat×Nat×(List ByteArray))⊕(aR)) :=
  .need (cT (aQ s_0 (ByteArray.mk #[32]) (0:Int) (-1:Int)))<|.leaf (.inl ((dv (aQ s_0 (ByteArray.mk #[32]) (0:Int) (-1:Int))),(dw (aQ s_0 (ByteArray.mk #[32]) (0:Int) (-1:Int))),(dx (aQ s_0 (ByteArray.mk #[32]) (0:Int) (-1:Int)))))
def xl(s_0:ByteArray)(w1:Nat)(w2:Nat)(l3:List ByteArray) :Nat×ByteArray×Nat×Bool×Bool→aG:=fun (read4,read5,read6,read7,read8)=>⟨aF 32 [(0,.str s_0),(2,.ptr 0 1 0 0),(4,.sl 1 1 1 0 w1 w2),(5,.fn (.func cy) [] [.iptr .free (.vs [.int .i64 ((read4:Nat):Int)]) 1 0 0,.iptr .free (.vs [.str read5,.int .i64 ((read6:Nat):Int),.bool false read7,.bool false read8]) 1 0 0])],[(0,.vs [.int .i64 (0:Int),.int .i64 (0:Int),.int .i64 (0:Int),.nsl,.int .i64 (0:Int),.int .u64 (0:Int)]),(1,.ss l3)],2⟩
def oS(w1:Nat)(l3:List ByteArray) :T ((Nat×ByteArray×Nat×Bool×Bool)⊕(aR)) :=
  .need (yh (0:Int) w1)<|.need (nv 0 (List.length l3))<|.alt 0
    (.need (decide ((List.getD l3 0 ByteArray.empty)=(ByteArray.mk #[101,105,103,101,110])))<|.leaf (.inl (1,(ByteArray.mk #[101,105,103,101,110]),3,false,true)))
    (.alt 1
      (.need (decide ((List.getD l3 0 ByteArray.empty)=(ByteArray.mk #[118,97,108,117,101,115])))<|.leaf (.inl (2,(ByteArray.mk #[118,97,108,117,101,115]),0,false,true)))
      (.alt 2
        (.need (decide ((List.getD l3 0 ByteArray.empty)=(ByteArray.mk #[115,118,100])))<|.leaf (.inl (3,(ByteArray.mk #[115,118,100]),2,false,false)))
        (.alt 3
          (.need (decide ((List.getD l3 0 ByteArray.empty)=(ByteArray.mk #[114,97,110,107])))<|.leaf (.inl (4,(ByteArray.mk #[114,97,110,107]),2,true,false)))
          (.alt 4
            (.need (decide ((List.getD l3 0 ByteArray.empty)=(ByteArray.mk #[105,110,118,101,114,115,101])))<|.leaf (.inl (5,(ByteArray.mk #[105,110,118,101,114,115,101]),2,true,false)))
            (.alt 5
              (.need (decide ((List.getD l3 0 ByteArray.empty)=(ByteArray.mk #[99,111,110,100])))<|.leaf (.inl (6,(ByteArray.mk #[99,111,110,100]),2,false,false)))
              (.alt 6
                (.need (!(decide ((List.getD l3 0 ByteArray.empty)=(ByteArray.mk #[101,105,103,101,110]))))<|.need (!(decide ((List.getD l3 0 ByteArray.empty)=(ByteArray.mk #[118,97,108,117,101,115]))))<|.need (!(decide ((List.getD l3 0 ByteArray.empty)=(ByteArray.mk #[115,118,100]))))<|.need (!(decide ((List.getD l3 0 ByteArray.empty)=(ByteArray.mk #[114,97,110,107]))))<|.need (!(decide ((List.getD l3 0 ByteArray.empty)=(ByteArray.mk #[105,110,118,101,114,115,101]))))<|.need (!(decide ((List.getD l3 0 ByteArray.empty)=(ByteArray.mk #[99,111,110,100]))))<|.leaf (.inr (.r0 4 (0:Int) (0:Int) (0:Int))))
                (.fail)))))))
def xm(s_0:ByteArray) :Int×Int×Int→aG:=fun (i9,i10,i11)=>⟨aF 32 [(0,.str s_0),(2,.ptr 0 1 0 0),(6,.ptr 1 1 0 0)],[(0,.vs [.int .i64 (0:Int),.int .i64 (0:Int),.int .i64 (0:Int),.nsl,.int .i64 (0:Int),.int .u64 (0:Int)]),(1,.vs [.int .i64 i9,.int .i64 (0:Int),.int .i64 (0:Int),.nsl,.int .i64 i10,.int .u64 i11])],2⟩
def kU(w1:Nat)(w2:Nat)(l3:List ByteArray)(read4:Nat)(read6:Nat)(read7:Bool) :T ((Int×Int×Int)⊕(aR)) :=
  .need (lU ((w1:Nat):Int) w2)<|.need (lU (1:Int) w1)<|.need (ue 1 (w1-1) l3)<|.need (dQ (bI (ba 1 (w1-1) l3) ((read4:Nat):Int) ((read6:Nat):Int) read7))<|.leaf (.inl ((fh (bI (ba 1 (w1-1) l3) ((read4:Nat):Int) ((read6:Nat):Int) read7)),(fi (bI (ba 1 (w1-1) l3) ((read4:Nat):Int) ((read6:Nat):Int) read7)),(fj (bI (ba 1 (w1-1) l3) ((read4:Nat):Int) ((read6:Nat):Int) read7))))
def xn(i9:Int)(i10:Int)(i11:Int)(b12:Bool) :aG:=⟨aF 32 [(2,.ptr 0 1 0 0),(6,.ptr 1 1 0 0),(29,.bool false b12)],[(0,.vs [.int .i64 (0:Int),.int .i64 (0:Int),.int .i64 (0:Int),.nsl,.int .i64 (0:Int),.int .u64 (0:Int)]),(1,.vs [.int .i64 i9,.int .i64 (0:Int),.int .i64 (0:Int),.nsl,.int .i64 i10,.int .u64 i11])],2⟩
def kV(s_0:ByteArray)(i9:Int)(i10:Int)(i11:Int) :T ((Bool)⊕(aR)) :=
  .need (eU (dp i9 i10 i11))<|.ask (!(fm (dp i9 i10 i11)))
    (.leaf (.inl true))
    (.need (kw (jr i9 i10 i11))<|.leaf (.inl (!((kQ (jr i9 i10 i11)).toList==s_0.toList))))
def vM(i9:Int)(i10:Int)(i11:Int)(b12:Bool) :T ((Empty)⊕(aR)) :=
  .ask b12
    (.leaf (.inr (.r0 4 (0:Int) (0:Int) (0:Int))))
    (.leaf (.inr (.r0 0 i9 i10 i11)))
noncomputable def aS(s_0:ByteArray) :Option aR:=Au (ch ((kT s_0).run) fun (w1,w2,l3) =>
  ch ((oS w1 l3).run) fun (read4,read5,read6,read7,read8) =>
  ch ((kU w1 w2 l3 read4 read6 read7).run) fun (i9,i10,i11) =>
  ch ((kV s_0 i9 i10 i11).run) fun b12 =>
  (vM i9 i10 i11 b12).run)
theorem xo(s_0:ByteArray){x:aR}(h:aS s_0=some x) :ao prog qh [] [.str s_0] (mf x) :=
  DS false mf qo h (Sg.cut 2 gW (eL bT (xk s_0) [⟨[],[0,48],[0,2,4]⟩]) (fun ⟨w1,w2,l3⟩=>Sg.cut 3 gW (eL bT (xl s_0 w1 w2 l3) [⟨[],[0,1],[0,2,4,5]⟩,⟨[],[0,1],[0,2,4,5]⟩,⟨[],[0,1],[0,2,4,5]⟩,⟨[],[0,1],[0,2,4,5]⟩,⟨[],[0,1],[0,2,4,5]⟩,⟨[],[0,1],[0,2,4,5]⟩,⟨[],[0],[2,3]⟩]) (fun ⟨read4,read5,read6,read7,read8⟩=>Sg.cut 1 gW (eL bT (xm s_0) [⟨[],[0,66],[0,2,6]⟩]) (fun ⟨i9,i10,i11⟩=>Sg.cut 1 gW (eL bT (xn i9 i10 i11) [⟨[],[0,1],[2,6,29]⟩,⟨[],[0,1],[2,6,29]⟩]) (fun b12=>eL bT Av [⟨[],[0],[2,3]⟩,⟨[],[0],[2,3]⟩])))))
    (fun x=>by cases x with | r0 a13 i14 i15 i17=>exact uh [.agg [.int .i64 i14,.int .i64 (0:Int),.int .i64 (0:Int),.nsl,.int .i64 i15,.int .u64 i17],.int .i64 ((a13:Nat):Int)])
def dZ:Option aR→Bool
  | some _=>true
  | none=>false
def ez:Option aR→Nat
  | some (.r0 x _ _ _)=>x
  | _=>0
def eA:Option aR→Int
  | some (.r0 _ x _ _)=>x
  | _=>0
def eB:Option aR→Int
  | some (.r0 _ _ x _)=>x
  | _=>0
def eC:Option aR→Int
  | some (.r0 _ _ _ x)=>x
  | _=>0
theorem xp{x:Option aR}(h:dZ x=true) :x=some (.r0 (ez x) (eA x) (eB x) (eC x)):=by
  unfold dZ at h
  split at h<;>first | rfl | (cases h;done) | (rename_i y;cases y;rfl)
noncomputable def qp:aU:=eh qh (.cons .str .nil) fun t=>(fun q=>[⟨mf (.r0 (ez q) (eA q) (eB q) (eC q)),[dZ q]⟩]) (aS t.1)
theorem um:bm prog qp:=bA fun t=>(bQ (fun h=>xo t.1 (xp h)) cC)
noncomputable def qq:List aU:=qp::nq
theorem jB:bC prog (bG qq):=aE um bT
end
end Go.Plb.Seat
