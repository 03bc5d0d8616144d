/-
  Part 3 of what the claim leans on: an evaluator of the model, proved sound; the contracts of the functions.
-/
import Derived.Test.YtcfhbjfbfmlkiaaGreatDoorA2
namespace Go.Plb
noncomputable section
set_option linter.unusedSimpArgs false
set_option linter.unusedVariables false
set_option linter.unusedSectionVars false
variable [Rom]
def aa{α:Type}(o n:Nat)(l:List α) :List α:=(nm o l).take n
theorem Xd{α:Type}(o n:Nat)(l:List α) :aa o n l=(l.drop o).take n:=by
  unfold aa nm;cases o<;>rfl
theorem ln{α:Type}{o n:Nat}{l:List α}(h:o+n≤l.length) :(aa o n l).length=n:=by rw [Xd];simp;omega
theorem Zu{α:Type}{o n:Nat}{l:List α}{i:Nat}{v:α}(h:(aa o n l)[i]? = some v) :l[o+i]? = some v:=by
  rw [Xd,List.getElem?_take] at h
  split at h
  · rw [List.getElem?_drop] at h;exact h
  · cases h
def aL{α:Type}(o n:Nat)(xs:List α) :Bool:=Nat.ble (o+n) xs.length
theorem jg{α:Type}{o n:Nat}{xs:List α} :aL o n xs=true↔o+n≤xs.length:=by unfold aL;rw [Nat.ble_eq]
theorem Fl{l:Lv}{d d':ay}{w es o n:Nat}(h:∀ x v,d'.cell? x=some v→d.cell? (o*w+x)=some v)(hr:d.recKept→d'.recKept)(hk:d'.kept=true)(hg:d'.foreign=true) :
    aY (.imm l d w es o n) (.imm l d' w es 0 n):=by
  intro ρ w' u hv
  cases hv with
  | imm _ _ _ _ _ _ cap bl o' u' ha hb hc hv' hl' hr' _ _ =>
    have:=VR.imm (ρ:=ρ) (w:=w') l d' w es 0 n cap bl (o'+o*w) (fun x=>u' (o*w+x)) ha hb
      (fun x v hx=>by rw [Nat.add_assoc];exact hc _ v (h x v hx)) (fun x v hx=>hv' _ v (h x v hx)) hl' (hr hr') (fun _=>hk) hg
    simpa using this
  | immEnd _ _ _ _ _ _ _ hr'=>exact .immEnd _ _ _ _ _ _ _ (hr hr') (fun _=>hk) hg
theorem Fm{l:Lv}{d':ay}{w es:Nat}(hr:d'.recKept)(hk:d'.kept=true)(hg:d'.foreign=true) :aY .nsl (.imm l d' w es 0 0):=by
  intro ρ w' u hv;cases hv;exact .immEnd _ _ _ _ _ _ _ hr (fun _=>hk) hg
theorem Fo{l:Lv}{d':ay}{w es:Nat}(hr:d'.recKept)(hk:d'.kept=true)(hg:d'.foreign=true) :aY .esl (.imm l d' w es 0 0):=by
  intro ρ w' u hv;cases hv;exact .immEnd _ _ _ _ _ _ _ hr (fun _=>hk) hg
theorem fN.get:∀ {l1 l2:List AV},fN l1 l2→∀ {x:Nat} {v:AV},l2[x]? = some v→∃ v0,l1[x]? = some v0∧aY v0 v
  | _,_,.nil,x,v,h=>by simp at h
  | _,_,.cons a t,0,v,h=>by simp at h;subst h;exact ⟨_,rfl,a⟩
  | _,_,.cons a t,x+1,v,h=>by
    obtain ⟨v0,h1,h2⟩:=fN.get t (by simpa using h)
    exact ⟨v0,by simpa using h1,h2⟩
theorem HK{lv:Lv}{l1 l2:List AV}{k i j:Nat}(h:fN l1 l2)(hk:cX l1=true→cX l2=true)(hg:bm l1=true→bm l2=true) :aY (.iptr lv (.vs l1) k i j) (.iptr lv (.vs l2) k i j):=by
  intro ρ w u hv
  cases hv with | iptr _ _ _ _ _ bl o u' ha hb hc hv' hr hk' hg' =>
  refine .iptr _ _ _ _ _ bl o u' ha hb (fun x v hx=>?_) (fun x v hx=>?_) trivial (fun q=>hk (hk' q)) (hg hg')
  · obtain ⟨v0,h1,h2⟩:=h.get hx
    exact hc x v0 h1
  · obtain ⟨v0,h1,h2⟩:=h.get hx
    exact h2 _ _ _ (hv' x v0 h1)
theorem aY.fn{f:Fn}{a b a' b':List AV}(h:fN a a')(k:fN b b') :aY (.fn f a b) (.fn f a' b'):=by
  intro ρ w u hv
  cases hv with | fn _ _ _ c1 c2 h1 h2=>exact .fn _ _ _ _ _ (h.vrs h1) (k.vrs h2)
theorem aY.iface{t:TypeId}{a b:AV}(h:aY a b) :aY (.iface t a) (.iface t b):=by
  intro ρ w u hv
  cases hv with | iface _ _ u h1=>exact .iface _ _ _ (h _ _ _ h1)
theorem aY.any(v:AV) :aY v .any:=fun _ _ u _=>.any u
inductive CK where
  | cf
  | ci (k:IntKind)
  | cb
  | cs
  | cfl
  | cns (k:IntKind)
def CK.Ty:CK→Type
  | .cf=>List Nat
  | .ci _=>List Int
  | .cb=>List Bool
  | .cs=>List ByteArray
  | .cfl=>List (List Nat)
  | .cns _=>List (List Int)
def CK.fit:(k:CK)→(o n:Nat)→fF→Option k.Ty
  | .cf,o,n,.cf xs=>some (aa o n xs)
  | .ci k,o,n,.ci k' xs=>bif ca k k' then some (aa o n xs) else none
  | .cb,o,n,.cb xs=>some (aa o n xs)
  | .cs,o,n,.cs xs=>some (aa o n xs)
  | .cfl,o,n,.cfl xs=>some (aa o n xs)
  | .cns k,o,n,.cns k' xs=>bif ca k k' then some (aa o n xs) else none
  | _,_,_,_=>none
def CK.emp:(k:CK)→k.Ty
  | .cf=>([]:List Nat)
  | .ci _=>([]:List Int)
  | .cb=>([]:List Bool)
  | .cs=>([]:List ByteArray)
  | .cfl=>([]:List (List Nat))
  | .cns _=>([]:List (List Int))
def CK.col:(k:CK)→k.Ty→fF
  | .cf,xs=>.cf xs
  | .ci k,xs=>.ci k xs
  | .cb,xs=>.cb xs
  | .cs,xs=>.cs xs
  | .cfl,xs=>.cfl xs
  | .cns k,xs=>.cns k xs
theorem rI{a b:IntKind} :ca a b=true↔a=b:=by simp [ca]
theorem pE{α:Type}{f:α→AV}{o n i:Nat}{xs:List α}{v:AV}(h:((aa o n xs)[i]?).map f=some v) :(xs[o+i]?).map f=some v:=by
  simp only [Option.map_eq_some_iff] at h ⊢
  obtain ⟨y,h1,h2⟩:=h
  exact ⟨y,Zu h1,h2⟩
theorem CK.fit_spec:∀ {k:CK} {o n:Nat} {c:fF} {t:k.Ty},k.fit o n c=some t→(o+n≤c.len→(k.col t).len=n)∧∀ i v,(k.col t).cell? i=some v→c.cell? (o+i)=some v:=by
  intro k o n c t h
  cases k<;>cases c<;>simp only [CK.fit] at h<;>try (cases h;done)
  case cf.cf xs=>cases h;exact ⟨fun q=>ln q,fun i v q=>pE q⟩
  case ci.ci k k' xs =>
    cases e:ca k k' with
    | false=>rw [e] at h;cases h
    | true=>rw [e] at h;cases h;cases (rI.1 e);exact ⟨fun q=>ln q,fun i v q=>pE q⟩
  case cb.cb xs=>cases h;exact ⟨fun q=>ln q,fun i v q=>pE q⟩
  case cs.cs xs=>cases h;exact ⟨fun q=>ln q,fun i v q=>pE q⟩
  case cfl.cfl xs=>cases h;exact ⟨fun q=>ln q,fun i v q=>pE q⟩
  case cns.cns k k' xs =>
    cases e:ca k k' with
    | false=>rw [e] at h;cases h
    | true=>rw [e] at h;cases h;cases (rI.1 e);exact ⟨fun q=>ln q,fun i v q=>pE q⟩
theorem CK.emp_len:∀ (k:CK),(k.col k.emp).len=0:=by intro k;cases k<;>rfl
def CKs.Ty:List CK→Type
  | []=>Unit
  | k::l=>k.Ty×CKs.Ty l
def CKs.fit:(l:List CK)→(o n:Nat)→List fF→Option (CKs.Ty l)
  | [],_,_,[]=>some ()
  | k::l,o,n,c::cs=>(k.fit o n c).bind fun t=>(CKs.fit l o n cs).map fun r=>(t,r)
  | _,_,_,_=>none
def CKs.emp:(l:List CK)→CKs.Ty l
  | []=>()
  | k::l=>(k.emp,CKs.emp l)
def CKs.cols:(l:List CK)→CKs.Ty l→List fF
  | [],_=>[]
  | k::l,t=>k.col t.1::CKs.cols l t.2
theorem CKs.len:∀ {l:List CK} {t:CKs.Ty l},(CKs.cols l t).length=l.length
  | [],t=>rfl
  | k::l,t=>by simp [CKs.cols,CKs.len]
theorem EB:∀ {l:List CK} {o n:Nat} {cs:List fF} {t:CKs.Ty l},CKs.fit l o n cs=some t→cs.length=l.length
  | [],o,n,[],t,h=>rfl
  | [],o,n,c::cs,t,h=>by simp [CKs.fit] at h
  | k::l,o,n,[],t,h=>by simp [CKs.fit] at h
  | k::l,o,n,c::cs,t,h=>by
    simp only [CKs.fit] at h
    cases e1:k.fit o n c with
    | none=>rw [e1] at h;cases h
    | some a =>
      rw [e1] at h
      cases e2:CKs.fit l o n cs with
      | none=>simp only [Option.bind_some,e2] at h;cases h
      | some b=>simp [EB e2]
theorem CKs.fit_spec:∀ {l:List CK} {o n:Nat} {cs:List fF} {t:CKs.Ty l},CKs.fit l o n cs=some t→∀ (j:Nat) (c':fF),(CKs.cols l t)[j]? = some c'→∃ c:fF,cs[j]? = some c∧(o+n≤c.len→c'.len=n)∧∀ i v,c'.cell? i=some v→c.cell? (o+i)=some v
  | [],o,n,cs,t,h,j,c',q=>by simp [CKs.cols] at q
  | k::l,o,n,[],t,h,j,c',q=>by simp [CKs.fit] at h
  | k::l,o,n,c::cs,t,h,j,c',q=>by
    simp only [CKs.fit] at h
    cases e1:k.fit o n c with
    | none=>rw [e1] at h;cases h
    | some a =>
      rw [e1] at h
      cases e2:CKs.fit l o n cs with
      | none=>simp only [Option.bind_some,e2] at h;cases h
      | some b =>
        simp only [Option.bind_some,e2] at h
        cases h
        cases j with
        | zero=>simp [CKs.cols] at q;subst q;exact ⟨c,rfl,CK.fit_spec e1⟩
        | succ j=>exact CKs.fit_spec e2 j c' (by simpa [CKs.cols] using q)
theorem CKs.emp_len:∀ (l:List CK),∀ c∈CKs.cols l (CKs.emp l),c.len=0
  | [],c,h=>by cases h
  | k::l,c,h=>by
    simp only [CKs.cols,CKs.emp,List.mem_cons] at h
    rcases h with rfl | h
    · exact CK.emp_len k
    · exact CKs.emp_len l c h
mutual
inductive A5 where
  | int (k:IntKind)
  | flt (ex:Bool)
  | bool
  | kbool (b:Bool)
  | str
  | fl
  | ns (k:IntKind)
  | bs
  | ss
  | cols (l:List CK)
  | ivs (ps:oo) (w i j:Nat)
  | fn (f:FuncId) (a b:oo)
  | nfn
  | nptr
  | nsl
  | agg (ps:oo)
  | tup (ps:oo)
  | iface (t:TypeId) (p:A5)
  | niface
  | any
  | lsl (b:Nat)
  | lptr (b w i j:Nat)
inductive oo where
  | nil
  | cons (p:A5) (ps:oo)
end
mutual
def A5.Ty:A5→Type
  | .int _=>Int
  | .flt _=>Nat
  | .bool=>Bool
  | .str=>ByteArray
  | .fl=>Lv×List Nat
  | .ns _=>Lv×List Int
  | .bs=>Lv×List Bool
  | .ss=>Lv×List ByteArray
  | .cols l=>Lv×Nat×CKs.Ty l
  | .ivs ps _ _ _=>Lv×ps.Ty
  | .fn _ a b=>a.Ty×b.Ty
  | .agg ps=>ps.Ty
  | .tup ps=>ps.Ty
  | .iface _ p=>p.Ty
  | .kbool _=>Unit
  | .nfn=>Unit
  | .nptr=>Unit
  | .nsl=>Unit
  | .niface=>Unit
  | .any=>Unit
  | .lsl _=>Nat×Nat×Nat
  | .lptr _ _ _ _=>Unit
def oo.Ty:oo→Type
  | .nil=>Unit
  | .cons p ps=>p.Ty×ps.Ty
end
mutual
def A5.av:(p:A5)→p.Ty→AV
  | .int k,n=>.int k n
  | .flt ex,x=>.flt ex x
  | .bool,b=>.bool false b
  | .str,s=>.str s
  | .fl,t=>.imm t.1 (.fl t.2) 1 1 0 t.2.length
  | .ns k,t=>.imm t.1 (.ns k t.2) 1 1 0 t.2.length
  | .bs,t=>.imm t.1 (.bs t.2) 1 1 0 t.2.length
  | .ss,t=>.imm t.1 (.ss t.2) 1 1 0 t.2.length
  | .cols l,t=>.imm t.1 (.cols t.2.1 (CKs.cols l t.2.2)) l.length l.length 0 t.2.1
  | .ivs ps w i j,t=>.iptr t.1 (.vs (ps.avs t.2)) w i j
  | .fn f a b,t=>.fn (.func f) (a.avs t.1) (b.avs t.2)
  | .agg ps,t=>.agg (ps.avs t)
  | .tup ps,t=>.tup (ps.avs t)
  | .iface y p,t=>.iface y (p.av t)
  | .kbool b,_=>.bool true b
  | .nfn,_=>.nfn
  | .nptr,_=>.nptr
  | .nsl,_=>.nsl
  | .niface,_=>.niface
  | .any,_=>.any
  | .lsl b,t=>.sl b 1 1 t.1 t.2.1 t.2.2
  | .lptr b w i j,_=>.ptr b w i j
def oo.avs:(ps:oo)→ps.Ty→List AV
  | .nil,_=>[]
  | .cons p ps,t=>p.av t.1::ps.avs t.2
end
def U0(a b:Bool) :Bool:=bif a then b else !b
theorem U1{a b:Bool} :U0 a b=true↔a=b:=by cases a<;>cases b<;>simp [U0]
def CKs.ok(n:Nat)(m:Nat) :Bool:=Nat.ble n m
def Zv(k:IntKind) :AV→Option (Int×List Bool)
  | .int k' n=>bif ca k k' then some (n,[]) else none
  | _=>none
def Zw(ex:Bool) :AV→Option (Nat×List Bool)
  | .flt ex' x=>bif ex && !ex' then none else some (x,[])
  | _=>none
def Xe:AV→Option (Bool×List Bool)
  | .bool kn b=>bif kn then none else some (b,[])
  | _=>none
def Ro(b:Bool) :AV→Option (Unit×List Bool)
  | .bool kn b'=>bif kn&&U0 b b' then some ((),[]) else none
  | _=>none
def Zx:AV→Option (ByteArray×List Bool)
  | .str s=>some (s,[])
  | _=>none
def Mw{α:Type}(f:ay→Option (List α)) :AV→Option ((Lv×List α)×List Bool)
  | .imm l d w es o n=>(f d).bind fun xs=>bif Nat.beq w 1&&Nat.beq es 1 then some ((l,aa o n xs),[aL o n xs]) else none
  | .nsl=>some ((.free,[]),[])
  | .esl=>some ((.free,[]),[])
  | _=>none
def Zy:ay→Option (List Nat)
  | .fl xs=>some xs
  | _=>none
def Zz(k:IntKind) :ay→Option (List Int)
  | .ns k' xs=>bif ca k k' then some xs else none
  | _=>none
def ZA:ay→Option (List Bool)
  | .bs xs=>some xs
  | _=>none
def aaX:ay→Option (List ByteArray)
  | .ss xs=>some xs
  | _=>none
def aaY:ay→Option (List AV)
  | .vs xs=>some xs
  | _=>none
def Xf:ay→Option (Nat×List fF)
  | .cols m cs=>some (m,cs)
  | _=>none
def Ob(ks:List CK) :AV→Option ((Lv×Nat×CKs.Ty ks)×List Bool)
  | .imm l d w es o n=>(Xf d).bind fun q=>bif Nat.beq w ks.length&&Nat.beq es ks.length then (CKs.fit ks o n q.2).map fun t=>((l,n,t),[Nat.ble (o+n) q.1]) else none
  | .nsl=>some ((.free,0,CKs.emp ks),[])
  | .esl=>some ((.free,0,CKs.emp ks),[])
  | _=>none
def aaZ(w i j:Nat) :AV→Option (Lv×List AV)
  | .iptr l d w' i' j'=>(aaY d).bind fun xs=>bif Nat.beq w w'&&(Nat.beq i i'&&Nat.beq j j') then some (l,xs) else none
  | _=>none
def abS(f:FuncId) :AV→Option (List AV×List AV)
  | .fn (.func f') x y=>bif Nat.beq f f' then some (x,y) else none
  | _=>none
def aa0:AV→Option (List AV)
  | .agg l=>some l
  | _=>none
def aa1:AV→Option (List AV)
  | .tup l=>some l
  | _=>none
def Xg(t:TypeId) :AV→Option AV
  | .iface t' v=>bif Nat.beq t t' then some v else none
  | _=>none
def aa2:AV→Option (Unit×List Bool)
  | .nfn=>some ((),[])
  | _=>none
def ZB:AV→Option (Unit×List Bool)
  | .nptr=>some ((),[])
  | _=>none
def aa3:AV→Option (Unit×List Bool)
  | .nsl=>some ((),[])
  | _=>none
def ZC(b:Nat) :AV→Option ((Nat×Nat×Nat)×List Bool)
  | .sl b' w es i len cap=>bif Nat.beq b b'&&(Nat.beq w 1&&Nat.beq es 1) then some ((i,len,cap),[]) else none
  | _=>none
def Xh(b w i j:Nat) :AV→Option (Unit×List Bool)
  | .ptr b' w' i' j'=>bif (Nat.beq b b'&&Nat.beq w w')&&(Nat.beq i i'&&Nat.beq j j') then some ((),[]) else none
  | _=>none
def Rp:AV→Option (Unit×List Bool)
  | .niface=>some ((),[])
  | _=>none
mutual
def A5.fit:(p:A5)→AV→Option (p.Ty×List Bool)
  | .int k=>Zv k
  | .flt ex=>Zw ex
  | .bool=>Xe
  | .kbool b=>Ro b
  | .str=>Zx
  | .fl=>Mw Zy
  | .ns k=>Mw (Zz k)
  | .bs=>Mw ZA
  | .ss=>Mw aaX
  | .cols ks=>Ob ks
  | .ivs ps w i j=>fun v=>match aaZ w i j v with
    | some q=>match ps.fit q.2 with
      | some r=>some ((q.1,r.1),r.2)
      | none=>none
    | none=>none
  | .fn f a b=>fun v=>match abS f v with
    | some q=>match a.fit q.1 with
      | some r=>match b.fit q.2 with
        | some s=>some ((r.1,s.1),r.2++s.2)
        | none=>none
      | none=>none
    | none=>none
  | .agg ps=>fun v=>match aa0 v with
    | some l=>ps.fit l
    | none=>none
  | .tup ps=>fun v=>match aa1 v with
    | some l=>ps.fit l
    | none=>none
  | .iface t p=>fun v=>match Xg t v with
    | some u=>p.fit u
    | none=>none
  | .nfn=>aa2
  | .nptr=>ZB
  | .nsl=>aa3
  | .niface=>Rp
  | .any=>fun _=>some ((),[])
  | .lsl b=>ZC b
  | .lptr b w i j=>Xh b w i j
def oo.fit:(ps:oo)→List AV→Option (ps.Ty×List Bool)
  | .nil=>fun l=>match l with
    | []=>some ((),[])
    | _::_=>none
  | .cons p ps=>fun l=>match l with
    | []=>none
    | v::l=>match p.fit v with
      | some r=>match ps.fit l with
        | some s=>some ((r.1,s.1),r.2++s.2)
        | none=>none
      | none=>none
end
theorem Ya{ks:List CK}{o n m:Nat}{cs:List fF}{t:CKs.Ty ks}(h:CKs.fit ks o n cs=some t) :∀ x v,(ay.cols n (CKs.cols ks t)).cell? x=some v→(ay.cols m cs).cell? (o*ks.length+x)=some v:=by
  intro x v hx
  have hl:=EB h
  obtain ⟨c',h1,_,h3⟩:=fX hx
  obtain ⟨c,q1,_,q3⟩:=CKs.fit_spec h _ _ h1
  rw [CKs.len] at h1 h3 q1
  have hpos:0<ks.length:=by
    have:=(List.getElem?_eq_some_iff.1 q1).1
    omega
  simp only [ay.cell?,hl,Option.bind_eq_some_iff]
  refine ⟨c,?_,?_⟩
  · rw [Nat.add_comm,Nat.add_mul_mod_self_right];exact q1
  · rw [Nat.add_comm,Nat.add_mul_div_right _ _ hpos,Nat.add_comm];exact q3 _ _ h3
structure Wk (v v':AV):Prop where
  weak:aY v v'
  kept:v.kept=true→v'.kept=true
  foreign:v.foreign=true→v'.foreign=true
structure WkL (v v':List AV):Prop where
  weak:fN v v'
  kept:cX v=true→cX v'=true
  foreign:bm v=true→bm v'=true
theorem Wk.refl(v:AV) :Wk v v:=⟨aY.refl v,id,id⟩
theorem Wk.fltL(x:Nat) :Wk (.flt true x) (.flt false x):=⟨fun ρ w u h=>(by
  cases h with | flt _ _ y hf =>
  rcases hf with rfl | ⟨q,_⟩
  · exact .flt _ _ _ (.inl rfl)
  · cases q),id,id⟩
theorem WkL.cons{v v':AV}{l l':List AV}(h:Wk v v')(k:WkL l l') :WkL (v::l) (v'::l') :=
  ⟨.cons h.weak k.weak,fun q=>by simp only [cX,Bool.and_eq_true] at q ⊢;exact ⟨h.kept q.1,k.kept q.2⟩,fun q=>by simp only [bm,Bool.and_eq_true] at q ⊢;exact ⟨h.foreign q.1,k.foreign q.2⟩⟩
theorem Wk.part{l:Lv}{d d':ay}{w es o n:Nat}(h:∀ x v,d'.cell? x=some v→d.cell? (o*w+x)=some v)(hr:d.recKept→d'.recKept)(hk:d'.kept=true)(hg:d'.foreign=true) :Wk (.imm l d w es o n) (.imm l d' w es 0 n) :=
  ⟨Fl h hr hk hg,id,id⟩
theorem Wk.nsl{d':ay}{w es:Nat}(hr:d'.recKept)(hk:d'.kept=true)(hg:d'.foreign=true) :Wk .nsl (.imm .free d' w es 0 0):=⟨Fm hr hk hg,id,id⟩
theorem Wk.esl{d':ay}{w es:Nat}(hr:d'.recKept)(hk:d'.kept=true)(hg:d'.foreign=true) :Wk .esl (.imm .free d' w es 0 0):=⟨Fo hr hk hg,id,id⟩
theorem Wk.fl{l:Lv}{xs:List Nat}{o n:Nat}(h:aL o n xs=true) :Wk (.imm l (.fl xs) 1 1 o n) (.imm l (.fl (aa o n xs)) 1 1 0 (aa o n xs).length):=by
  rw [ln (jg.1 h)];exact .part (fun x v q=>by rw [Nat.mul_one];exact pE q) (fun _=>trivial) rfl rfl
theorem Wk.ns{k:IntKind}{l:Lv}{xs:List Int}{o n:Nat}(h:aL o n xs=true) :Wk (.imm l (.ns k xs) 1 1 o n) (.imm l (.ns k (aa o n xs)) 1 1 0 (aa o n xs).length):=by
  rw [ln (jg.1 h)];exact .part (fun x v q=>by rw [Nat.mul_one];exact pE q) (fun _=>trivial) rfl rfl
theorem Wk.bs{l:Lv}{xs:List Bool}{o n:Nat}(h:aL o n xs=true) :Wk (.imm l (.bs xs) 1 1 o n) (.imm l (.bs (aa o n xs)) 1 1 0 (aa o n xs).length):=by
  rw [ln (jg.1 h)];exact .part (fun x v q=>by rw [Nat.mul_one];exact pE q) (fun _=>trivial) rfl rfl
theorem Wk.ss{l:Lv}{xs:List ByteArray}{o n:Nat}(h:aL o n xs=true) :Wk (.imm l (.ss xs) 1 1 o n) (.imm l (.ss (aa o n xs)) 1 1 0 (aa o n xs).length):=by
  rw [ln (jg.1 h)];exact .part (fun x v q=>by rw [Nat.mul_one];exact pE q) (fun _=>trivial) rfl rfl
theorem ZD{ks:List CK}{o n m:Nat}{cs:List fF}{t:CKs.Ty ks}(h:CKs.fit ks o n cs=some t)(hm:o+n≤m) :(ay.cols m cs).recKept→(ay.cols n (CKs.cols ks t)).recKept:=by
  intro hr c hc
  obtain ⟨j,hj⟩:=List.getElem?_of_mem hc
  obtain ⟨c0,q1,q2,_⟩:=CKs.fit_spec h j c hj
  exact q2 (by rw [hr c0 (List.mem_of_getElem? q1)];exact hm)
theorem abT{w es n:Nat}(h:(Nat.beq w n&&Nat.beq es n)=true) :w=n∧es=n:=by
  rw [Bool.and_eq_true] at h;exact ⟨Nat.eq_of_beq_eq_true h.1,Nat.eq_of_beq_eq_true h.2⟩
theorem rj{α:Type}{c:Bool}{a:α}{x:α}(h:(bif c then some a else none)=some x) :c=true∧a=x:=by
  cases c with
  | true=>exact ⟨rfl,by simpa using h⟩
  | false=>cases h
theorem abU{α:Type}{c:Bool}{a:Option α}{x:α}(h:(bif c then a else none)=some x) :c=true∧a=some x:=by
  cases c with
  | true=>exact ⟨rfl,h⟩
  | false=>cases h
theorem vl{α:Type}{f:ay→Option (List α)}{g:List α→ay}(hg:∀ {d xs},f d=some xs→d=g xs) 
    (hw:∀ {l xs o n},aL o n xs=true→Wk (.imm l (g xs) 1 1 o n) (.imm l (g (aa o n xs)) 1 1 0 (aa o n xs).length)) (h0:(g []).recKept∧(g []).kept=true∧(g []).foreign=true)
    {v:AV} {t:Lv×List α} {o:List Bool} (h:Mw f v=some (t,o)) (ho:au o):Wk v (.imm t.1 (g t.2) 1 1 0 t.2.length):=by
  unfold Mw at h
  split at h
  · rename_i l d w es i n
    cases e:f d with
    | none=>rw [e] at h;cases h
    | some xs =>
      rw [e] at h
      obtain ⟨e2,h⟩:=rj h
      obtain ⟨rfl,rfl⟩:=abT e2
      cases h;cases hg e;exact hw ho.1
  · cases h;exact .nsl h0.1 h0.2.1 h0.2.2
  · cases h;exact .esl h0.1 h0.2.1 h0.2.2
  · cases h
theorem Oc{ks:List CK}{v:AV}{t:Lv×Nat×CKs.Ty ks}{o:List Bool}(h:Ob ks v=some (t,o))(ho:au o) :Wk v (.imm t.1 (.cols t.2.1 (CKs.cols ks t.2.2)) ks.length ks.length 0 t.2.1):=by
  unfold Ob at h
  split at h
  · rename_i l d w es i n
    cases d<;>simp only [Xf,Option.bind_none,Option.bind_some,reduceCtorEq] at h
    rename_i m cs
    have e:=(abU h).1;replace h:=(abU h).2
    obtain ⟨rfl,rfl⟩:=abT e
    cases e2:CKs.fit ks i n cs with
    | none=>rw [e2] at h;cases h
    | some r =>
      rw [e2] at h;cases h
      have:i+n≤m:=Nat.le_of_ble_eq_true ho.1
      exact .part (Ya e2) (ZD e2 this) rfl rfl
  · cases h;exact .nsl (CKs.emp_len ks) rfl rfl
  · cases h;exact .esl (CKs.emp_len ks) rfl rfl
  · cases h
mutual
theorem A5.fit_spec:∀ (p:A5) (v:AV) {t:p.Ty} {o:List Bool},p.fit v=some (t,o)→au o→Wk v (p.av t)
  | .int k,v,t,o,h,ho=>by
    simp only [A5.fit,Zv] at h
    split at h
    · obtain ⟨e,h⟩:=rj h
      cases h;cases rI.1 e;exact .refl _
    · cases h
  | .flt ex,v,t,o,h,ho=>by
    simp only [A5.fit,Zw] at h
    split at h
    · rename_i ex' x
      cases ex with
      | true =>
        cases ex' with
        | true=>cases h;exact .refl _
        | false=>cases h
      | false =>
        cases ex' with
        | true=>cases h;exact .fltL x
        | false=>cases h;exact .refl _
    · cases h
  | .bool,v,t,o,h,ho=>by
    simp only [A5.fit,Xe] at h
    split at h
    · rename_i kn b
      cases kn with
      | true=>cases h
      | false=>cases h;exact .refl _
    · cases h
  | .kbool b,v,t,o,h,ho=>by
    simp only [A5.fit,Ro] at h
    split at h
    · obtain ⟨e,h⟩:=rj h
      rw [Bool.and_eq_true] at e
      cases e.1;cases U1.1 e.2;exact .refl _
    · cases h
  | .str,v,t,o,h,ho=>by
    simp only [A5.fit,Zx] at h
    split at h
    · cases h;exact .refl _
    · cases h
  | .fl,v,t,o,h,ho=>vl (g:=.fl) (f:=Zy) (fun {d xs} e=>by cases d<;>cases e;rfl) (fun q=>.fl q) ⟨trivial,rfl,rfl⟩ h ho
  | .ns k,v,t,o,h,ho=>vl (g:=.ns k) (f:=Zz k) (fun {d xs} e=>by
      cases d<;>try (cases e;done)
      have e1:=(rj e).1;replace e:=(rj e).2
      cases rI.1 e1;cases e;rfl) (fun q=>.ns q) ⟨trivial,rfl,rfl⟩ h ho
  | .bs,v,t,o,h,ho=>vl (g:=.bs) (f:=ZA) (fun {d xs} e=>by cases d<;>cases e;rfl) (fun q=>.bs q) ⟨trivial,rfl,rfl⟩ h ho
  | .ss,v,t,o,h,ho=>vl (g:=.ss) (f:=aaX) (fun {d xs} e=>by cases d<;>cases e;rfl) (fun q=>.ss q) ⟨trivial,rfl,rfl⟩ h ho
  | .cols ks,v,t,o,h,ho=>Oc h ho
  | .ivs ps w i j,v,t,o,h,ho=>by
    simp only [A5.fit] at h
    split at h
    case h_2=>cases h
    rename_i q hq
    split at h
    case h_2=>cases h
    rename_i r hr
    cases h
    unfold aaZ at hq
    split at hq
    case h_2=>cases hq
    rename_i l d w' i' j'
    cases d<;>simp only [aaY,Option.bind_none,Option.bind_some,reduceCtorEq] at hq
    rename_i xs
    have e:=(rj hq).1;replace hq:=(rj hq).2
    rw [Bool.and_eq_true,Bool.and_eq_true] at e
    cases Nat.eq_of_beq_eq_true e.1
    cases Nat.eq_of_beq_eq_true e.2.1
    cases Nat.eq_of_beq_eq_true e.2.2
    cases hq
    have:=oo.fit_spec ps xs hr ho
    exact ⟨HK this.weak this.kept this.foreign,id,id⟩
  | .fn f a b,v,t,o,h,ho=>by
    simp only [A5.fit] at h
    split at h
    case h_2=>cases h
    rename_i q hq
    split at h
    case h_2=>cases h
    rename_i r hr
    split at h
    case h_2=>cases h
    rename_i s hs
    cases h
    unfold abS at hq
    split at hq
    case h_2=>cases hq
    have e:=(rj hq).1;replace hq:=(rj hq).2
    cases Nat.eq_of_beq_eq_true e
    cases hq
    rw [aW] at ho
    have h1:=oo.fit_spec a _ hr ho.1
    have h2:=oo.fit_spec b _ hs ho.2
    refine ⟨aY.fn h1.weak h2.weak,fun q=>?_,fun q=>?_⟩
    · simp only [A5.av,AV.kept,Bool.and_eq_true] at q ⊢;exact ⟨h1.kept q.1,h2.kept q.2⟩
    · simp only [A5.av,AV.foreign,Bool.and_eq_true] at q ⊢;exact ⟨h1.foreign q.1,h2.foreign q.2⟩
  | .agg ps,v,t,o,h,ho=>by
    simp only [A5.fit] at h
    split at h
    case h_2=>cases h
    rename_i l hl
    cases v<;>simp only [aa0,reduceCtorEq,Option.some.injEq] at hl
    subst hl
    have:=oo.fit_spec ps _ h ho
    exact ⟨aY.agg this.weak,this.kept,this.foreign⟩
  | .tup ps,v,t,o,h,ho=>by
    simp only [A5.fit] at h
    split at h
    case h_2=>cases h
    rename_i l hl
    cases v<;>simp only [aa1,reduceCtorEq,Option.some.injEq] at hl
    subst hl
    have:=oo.fit_spec ps _ h ho
    exact ⟨aY.tup this.weak,this.kept,this.foreign⟩
  | .iface y p,v,t,o,h,ho=>by
    simp only [A5.fit] at h
    split at h
    case h_2=>cases h
    rename_i u hu
    unfold Xg at hu
    split at hu
    case h_2=>cases hu
    have e:=(rj hu).1;replace hu:=(rj hu).2
    cases Nat.eq_of_beq_eq_true e
    subst hu
    have:=A5.fit_spec p _ h ho
    exact ⟨aY.iface this.weak,this.kept,this.foreign⟩
  | .nfn,v,t,o,h,ho=>by
    cases v<;>simp only [A5.fit,aa2,reduceCtorEq] at h
    exact .refl _
  | .nptr,v,t,o,h,ho=>by
    cases v<;>simp only [A5.fit,ZB,reduceCtorEq] at h
    exact .refl _
  | .nsl,v,t,o,h,ho=>by
    cases v<;>simp only [A5.fit,aa3,reduceCtorEq] at h
    exact .refl _
  | .niface,v,t,o,h,ho=>by
    cases v<;>simp only [A5.fit,Rp,reduceCtorEq] at h
    exact .refl _
  | .any,v,t,o,h,ho=>⟨aY.any v,fun _=>rfl,fun _=>rfl⟩
  | .lsl b,v,t,o,h,ho=>by
    simp only [A5.fit,ZC] at h
    split at h
    · have e:=(rj h).1;replace h:=(rj h).2
      rw [Bool.and_eq_true,Bool.and_eq_true] at e
      cases Nat.eq_of_beq_eq_true e.1
      cases Nat.eq_of_beq_eq_true e.2.1
      cases Nat.eq_of_beq_eq_true e.2.2
      cases h;exact .refl _
    · cases h
  | .lptr b w i j,v,t,o,h,ho=>by
    simp only [A5.fit,Xh] at h
    split at h
    · have e:=(rj h).1;replace h:=(rj h).2
      rw [Bool.and_eq_true,Bool.and_eq_true,Bool.and_eq_true] at e
      cases Nat.eq_of_beq_eq_true e.1.1
      cases Nat.eq_of_beq_eq_true e.1.2
      cases Nat.eq_of_beq_eq_true e.2.1
      cases Nat.eq_of_beq_eq_true e.2.2
      exact .refl _
    · cases h
theorem oo.fit_spec:∀ (ps:oo) (l:List AV) {t:ps.Ty} {o:List Bool},ps.fit l=some (t,o)→au o→WkL l (ps.avs t)
  | .nil,[],t,o,h,ho=>⟨.nil,id,id⟩
  | .nil,v::l,t,o,h,ho=>by simp [oo.fit] at h
  | .cons p ps,[],t,o,h,ho=>by simp [oo.fit] at h
  | .cons p ps,v::l,t,o,h,ho=>by
    simp only [oo.fit] at h
    split at h
    case h_2=>cases h
    rename_i r hr
    split at h
    case h_2=>cases h
    rename_i s hs
    cases h
    rw [aW] at ho
    exact .cons (A5.fit_spec p v hr ho.1) (oo.fit_spec ps l hs ho.2)
end
def bL(f:FuncId)(ps:oo)(alts:ps.Ty→List qh) :aw :=
  ⟨f, fun L args => match L with
    | []=>match ps.fit args with
      | some r=>some ((alts r.1).map fun a=>⟨a.out,r.2++a.obs⟩)
      | none=>none
    | _=>none⟩
theorem aJ{P:Program}{f:FuncId}{ps:oo}{alts:ps.Ty→List qh}(h:∀ t,∀ a∈alts t,au a.obs→ag P f [] (ps.avs t) a.out) :aH P (bL f ps alts):=by
  intro L args al a hal ha ho
  simp only [bL] at hal
  split at hal
  case h_2=>cases hal
  split at hal
  case h_2=>cases hal
  rename_i r hr
  obtain ⟨t,o⟩:=r
  simp only [Option.some.injEq] at hal
  subst hal
  simp only [List.mem_map] at ha
  obtain ⟨b,hb,rfl⟩:=ha
  simp only [aW] at ho
  exact (h t b hb ho.2).args (oo.fit_spec ps args hr ho.1).weak
inductive CP where
  | int (k:IntKind)
  | flt
  | fltx
  | bool
  | str
  | lsl (b:Nat)
  | lsl0 (b:Nat)
  | lptr (b w i j:Nat)
  | nsl
  | nptr
def CP.Ty:CP→Type
  | .int _=>Int
  | .flt=>Nat
  | .fltx=>Nat
  | .bool=>Bool
  | .str=>ByteArray
  | .lsl _=>Nat×Nat×Nat
  | .lsl0 _=>Nat×Nat
  | .lptr _ _ _ _=>Unit
  | .nsl=>Unit
  | .nptr=>Unit
def CP.av:(p:CP)→p.Ty→AV
  | .int k,n=>.int k n
  | .flt,x=>.flt false x
  | .fltx,x=>.flt true x
  | .bool,b=>.bool false b
  | .str,s=>.str s
  | .lsl b,t=>.sl b 1 1 t.1 t.2.1 t.2.2
  | .lsl0 b,t=>.sl b 1 1 0 t.1 t.2
  | .lptr b w i j,_=>.ptr b w i j
  | .nsl,_=>.nsl
  | .nptr,_=>.nptr
def aa4(k:IntKind) :AV→Option Int
  | .int k' n=>bif ca k k' then some n else none
  | _=>none
def aa5:AV→Option Nat
  | .flt ex x=>bif ex then none else some x
  | _=>none
def ZE:AV→Option Nat
  | .flt ex x=>bif ex then some x else none
  | _=>none
def ZF:AV→Option Bool
  | .bool kn b=>bif kn then none else some b
  | _=>none
def aa6:AV→Option ByteArray
  | .str s=>some s
  | _=>none
def aa7(b:Nat) :AV→Option (Nat×Nat×Nat)
  | .sl b' w es i len cap=>bif Nat.beq b b'&&(Nat.beq w 1&&Nat.beq es 1) then some (i,len,cap) else none
  | _=>none
def ZG(b:Nat) :AV→Option (Nat×Nat)
  | .sl b' w es i len cap=>bif Nat.beq b b'&&(Nat.beq w 1&&Nat.beq es 1)&&Nat.beq i 0 then some (len,cap) else none
  | _=>none
def ZH(b w i j:Nat) :AV→Option Unit
  | .ptr b' w' i' j'=>bif (Nat.beq b b'&&Nat.beq w w')&&(Nat.beq i i'&&Nat.beq j j') then some () else none
  | _=>none
def aa8:AV→Option Unit
  | .nsl=>some ()
  | _=>none
def ZI:AV→Option Unit
  | .nptr=>some ()
  | _=>none
def CP.fit:(p:CP)→AV→Option p.Ty
  | .int k=>aa4 k
  | .flt=>aa5
  | .fltx=>ZE
  | .bool=>ZF
  | .str=>aa6
  | .lsl b=>aa7 b
  | .lsl0 b=>ZG b
  | .lptr b w i j=>ZH b w i j
  | .nsl=>aa8
  | .nptr=>ZI
theorem abV{c:Bool}{α:Type}{a x:α}(h:(bif c then none else some a)=some x) :c=false∧a=x:=by
  cases c with
  | true=>cases h
  | false=>exact ⟨rfl,by simpa using h⟩
theorem CP.fit_spec:∀ (p:CP) {v:AV} {t:p.Ty},p.fit v=some t→v=p.av t
  | .int k,v,t,h=>by
    simp only [CP.fit,aa4] at h
    split at h
    · obtain ⟨e,h⟩:=rj h
      cases h;cases rI.1 e;rfl
    · cases h
  | .flt,v,t,h=>by
    simp only [CP.fit,aa5] at h
    split at h
    · obtain ⟨e,h⟩:=abV h
      cases h;cases e;rfl
    · cases h
  | .fltx,v,t,h=>by
    simp only [CP.fit,ZE] at h
    split at h
    · obtain ⟨e,h⟩:=rj h
      cases h;cases e;rfl
    · cases h
  | .bool,v,t,h=>by
    simp only [CP.fit,ZF] at h
    split at h
    · obtain ⟨e,h⟩:=abV h
      cases h;cases e;rfl
    · cases h
  | .str,v,t,h=>by
    simp only [CP.fit,aa6] at h
    split at h
    · cases h;rfl
    · cases h
  | .lsl b,v,t,h=>by
    simp only [CP.fit,aa7] at h
    split at h
    · have e:=(rj h).1;replace h:=(rj h).2
      rw [Bool.and_eq_true,Bool.and_eq_true] at e
      cases Nat.eq_of_beq_eq_true e.1
      cases Nat.eq_of_beq_eq_true e.2.1
      cases Nat.eq_of_beq_eq_true e.2.2
      cases h;rfl
    · cases h
  | .lsl0 b,v,t,h=>by
    simp only [CP.fit,ZG] at h
    split at h
    · have e:=(rj h).1;replace h:=(rj h).2
      rw [Bool.and_eq_true,Bool.and_eq_true,Bool.and_eq_true] at e
      cases Nat.eq_of_beq_eq_true e.1.1
      cases Nat.eq_of_beq_eq_true e.1.2.1
      cases Nat.eq_of_beq_eq_true e.1.2.2
      cases Nat.eq_of_beq_eq_true e.2
      cases h;rfl
    · cases h
  | .lptr b w i j,v,t,h=>by
    simp only [CP.fit,ZH] at h
    split at h
    · have e:=(rj h).1;clear h
      rw [Bool.and_eq_true,Bool.and_eq_true,Bool.and_eq_true] at e
      cases Nat.eq_of_beq_eq_true e.1.1
      cases Nat.eq_of_beq_eq_true e.1.2
      cases Nat.eq_of_beq_eq_true e.2.1
      cases Nat.eq_of_beq_eq_true e.2.2
      rfl
    · cases h
  | .nsl,v,t,h=>by
    simp only [CP.fit,aa8] at h
    split at h
    · rfl
    · cases h
  | .nptr,v,t,h=>by
    simp only [CP.fit,ZI] at h
    split at h
    · rfl
    · cases h
def CPs.Ty:List CP→Type
  | []=>Unit
  | p::l=>p.Ty×CPs.Ty l
def CPs.avs:(l:List CP)→CPs.Ty l→List AV
  | [],_=>[]
  | p::l,t=>p.av t.1::CPs.avs l t.2
def CPs.fit:(l:List CP)→List AV→Option (CPs.Ty l)
  | []=>fun vs=>match vs with
    | []=>some ()
    | _::_=>none
  | p::l=>fun vs=>match vs with
    | []=>none
    | v::vs=>match p.fit v with
      | some t=>match CPs.fit l vs with
        | some r=>some (t,r)
        | none=>none
      | none=>none
theorem CPs.fit_spec:∀ (l:List CP) {vs:List AV} {t:CPs.Ty l},CPs.fit l vs=some t→vs=CPs.avs l t
  | [],[],t,h=>rfl
  | [],_::_,t,h=>by cases h
  | _::_,[],t,h=>by cases h
  | p::l,v::vs,t,h=>by
    simp only [CPs.fit] at h
    split at h
    case h_2=>cases h
    rename_i x hx
    split at h
    case h_2=>cases h
    rename_i r hr
    cases h
    simp only [CPs.avs]
    rw [←CP.fit_spec p hx,←CPs.fit_spec l hr]
inductive BK where
  | fl
  | ns (k:IntKind)
  | bs
  | vs (l:List CP)
def BK.Ty:BK→Type
  | .fl=>List Nat
  | .ns _=>List Int
  | .bs=>List Bool
  | .vs l=>CPs.Ty l
def BK.blk:(k:BK)→k.Ty→ay
  | .fl,xs=>.fl xs
  | .ns k,xs=>.ns k xs
  | .bs,xs=>.bs xs
  | .vs l,t=>.vs (CPs.avs l t)
def aci(l:List CP) :ay→Option (CPs.Ty l)
  | .vs xs=>CPs.fit l xs
  | _=>none
def BK.fit:(k:BK)→ay→Option k.Ty
  | .fl=>Zy
  | .ns k=>Zz k
  | .bs=>ZA
  | .vs l=>aci l
theorem BK.fit_spec:∀ (k:BK) {d:ay} {t:k.Ty},k.fit d=some t→d=k.blk t
  | .fl,d,t,h=>by cases d<;>cases h;rfl
  | .ns k,d,t,h=>by
    cases d<;>try (cases h;done)
    have e1:=(rj h).1;replace h:=(rj h).2
    cases rI.1 e1;cases h;rfl
  | .bs,d,t,h=>by cases d<;>cases h;rfl
  | .vs l,d,t,h=>by
    cases d<;>try (cases h;done)
    exact congrArg ay.vs (CPs.fit_spec l h)
def BKs.Ty:List BK→Type
  | []=>Unit
  | k::l=>k.Ty×BKs.Ty l
def BV:(l:List BK)→BKs.Ty l→List ay
  | [],_=>[]
  | k::l,t=>k.blk t.1::BV l t.2
def BKs.fit:(l:List BK)→List ay→Option (BKs.Ty l)
  | [],[]=>some ()
  | [],_::_=>none
  | _::_,[]=>none
  | k::l,d::ds=>match k.fit d with
    | some t=>match BKs.fit l ds with
      | some r=>some (t,r)
      | none=>none
    | none=>none
theorem BKs.fit_spec:∀ (l:List BK) {ds:List ay} {t:BKs.Ty l},BKs.fit l ds=some t→ds=BV l t
  | [],[],t,h=>rfl
  | [],_::_,t,h=>by cases h
  | _::_,[],t,h=>by cases h
  | k::l,d::ds,t,h=>by
    simp only [BKs.fit] at h
    split at h
    case h_2=>cases h
    rename_i x hx
    split at h
    case h_2=>cases h
    rename_i r hr
    cases h
    simp only [BV]
    rw [←BK.fit_spec k hx,←BKs.fit_spec l hr]
def Rq(f:FuncId)(bs:List BK)(ps:oo)(alts:BKs.Ty bs→ps.Ty→List qh) :aw :=
  ⟨f, fun L args => match BKs.fit bs L with
    | some x=>match ps.fit args with
      | some r=>some ((alts x r.1).map fun a=>⟨a.out,r.2++a.obs⟩)
      | none=>none
    | none=>none⟩
theorem HL{P:Program}{f:FuncId}{bs:List BK}{ps:oo}{alts:BKs.Ty bs→ps.Ty→List qh}(h:∀ x t,∀ a∈alts x t,au a.obs→ag P f (BV bs x) (ps.avs t) a.out) :aH P (Rq f bs ps alts):=by
  intro L args al a hal ha ho
  simp only [Rq] at hal
  split at hal
  case h_2=>cases hal
  rename_i x hx
  split at hal
  case h_2=>cases hal
  rename_i r hr
  obtain ⟨t,o⟩:=r
  simp only [Option.some.injEq] at hal
  subst hal
  simp only [List.mem_map] at ha
  obtain ⟨b,hb,rfl⟩:=ha
  simp only [aW] at ho
  have:=(h x t b hb ho.2).args (oo.fit_spec ps args hr ho.1).weak
  rwa [←BKs.fit_spec bs hx] at this
theorem HM{P:Program}{f:FuncId}{L:List ay}{l:List AV} :∀ a∈([]:List qh),au a.obs→ag P f L l a.out:=fun a h=>by cases h
theorem yN{P:Program}{f:FuncId}{L:List ay}{l:List AV}{o:fJ}{b:Bool}{al:List qh}(h:b=true→ag P f L l o)(t:∀ a∈al,au a.obs→ag P f L l a.out) :∀ a∈(⟨o,[b]⟩:qh)::al,au a.obs→ag P f L l a.out:=by
  intro a ha ho
  rcases List.mem_cons.1 ha with rfl | ha
  · exact h ho.1
  · exact t a ha ho
theorem aT{P:Program}{f:FuncId}{l:List AV} :∀ a∈([]:List qh),au a.obs→ag P f [] l a.out:=fun a h=>by cases h
theorem aK{P:Program}{f:FuncId}{l:List AV}{o:fJ}{b:Bool}{al:List qh}(h:b=true→ag P f [] l o)(t:∀ a∈al,au a.obs→ag P f [] l a.out) :∀ a∈(⟨o,[b]⟩:qh)::al,au a.obs→ag P f [] l a.out:=by
  intro a ha ho
  rcases List.mem_cons.1 ha with rfl | ha
  · exact h ho.1
  · exact t a ha ho
inductive T (α:Type) where
  | fail
  | leaf (a:α)
  | ask (b:Bool) (t f:T α)
  | need (b:Bool) (t:T α)
  | alt (k:Nat) (t e:T α)
def T.run{α:Type} :T α→Option α
  | .fail=>none
  | .leaf a=>some a
  | .ask b t f=>bif b then t.run else f.run
  | .need b t=>bif b then t.run else none
  | .alt _ t e=>match t.run with
    | some a=>some a
    | none=>e.run
structure zb (α:Type) where
  path:List Nat
  obs:List Bool
  val:α
def zb.ask{α:Type}(n:Nat)(b:Bool)(l:zb α) :zb α:=⟨n::l.path,b::l.obs,l.val⟩
def zb.need{α:Type}(b:Bool)(l:zb α) :zb α:=⟨l.path,b::l.obs,l.val⟩
def zb.alt{α:Type}(n:Nat)(l:zb α) :zb α:=⟨n::l.path,l.obs,l.val⟩
def T.leaves{α:Type} :T α→List (zb α)
  | .fail=>[]
  | .leaf a=>[⟨[],[],a⟩]
  | .ask b t f=>t.leaves.map (zb.ask 1 (b==true))++f.leaves.map (zb.ask 0 (b==false))
  | .need b t=>t.leaves.map (zb.need b)
  | .alt k t e=>t.leaves.map (zb.alt k)++e.leaves
theorem oT{α:Type} :∀ (t:T α) {a:α},t.run=some a→∃ l∈t.leaves,l.val=a∧au l.obs
  | .fail,a,h=>by cases h
  | .leaf b,a,h=>by
    simp only [T.run,Option.some.injEq] at h;subst h
    exact ⟨⟨[],[],b⟩,by simp [T.leaves],rfl,trivial⟩
  | .ask b t f,a,h=>by
    simp only [T.run] at h
    cases b with
    | true =>
      simp only [cond_true] at h
      obtain ⟨l,h1,h2,h3⟩:=oT t h
      exact ⟨l.ask 1 (true==true),by simp only [T.leaves,List.mem_append];exact .inl (List.mem_map_of_mem h1),h2,⟨rfl,h3⟩⟩
    | false =>
      simp only [cond_false] at h
      obtain ⟨l,h1,h2,h3⟩:=oT f h
      exact ⟨l.ask 0 (false==false),by simp only [T.leaves,List.mem_append];exact .inr (List.mem_map_of_mem h1),h2,⟨rfl,h3⟩⟩
  | .need b t,a,h=>by
    simp only [T.run] at h
    cases b with
    | true =>
      simp only [cond_true] at h
      obtain ⟨l,h1,h2,h3⟩:=oT t h
      exact ⟨l.need true,by simp only [T.leaves];exact List.mem_map_of_mem h1,h2,⟨rfl,h3⟩⟩
    | false=>cases h
  | .alt k t e,a,h=>by
    simp only [T.run] at h
    split at h
    · rename_i a' ht
      cases h
      obtain ⟨l,h1,h2,h3⟩:=oT t ht
      exact ⟨l.alt k,by simp only [T.leaves,List.mem_append];exact .inl (List.mem_map_of_mem h1),h2,h3⟩
    · obtain ⟨l,h1,h2,h3⟩:=oT e h
      exact ⟨l,by simp only [T.leaves,List.mem_append];exact .inr h1,h2,h3⟩
def xF{α X:Type}(N:α→aE)(E:X→AE×aE) :α⊕X→AE×aE
  | .inl a=>(.normal,N a)
  | .inr x=>E x
def Sg{α X:Type}(P:Program)(lent:List ay)(cs:List Code)(st:aE)(m:Option (α⊕X))(N:α→aE)(E:X→AE×aE) :Prop :=
  ∀ r,m=some r→gB P lent cs st fun e st'=>(e,st')=xF N E r
def ZJ{α X:Type}(C:ug)(S:xp)(n:Nat)(cs:List Code)(st:aE)(ls:List (zb (α⊕X)))(ks:List NS)(k:Nat) :List (Bool×Option (AE×aE×List Bool)) :=
  List.zipWith (fun l s=>(s.ok k,Zk s (X6 (gN C S 12 n) cs st (some l.path)))) ls ks
def Xi{α X:Type}(N:α→aE)(E:X→AE×aE)(ls:List (zb (α⊕X))) :List (Bool×Option (AE×aE×List Bool)) :=
  ls.map fun l=>(true,some ((xF N E l.val).1,(xF N E l.val).2,l.obs))
theorem Xj{α β γ:Type}{f:α→β→γ}{g:α→γ} :∀ {l:List α} {k:List β},List.zipWith f l k=l.map g→∀ a∈l,∃ b,f a b=g a
  | [],_,_,a,ha=>by cases ha
  | x::l,[],h,a,ha=>by simp at h
  | x::l,y::k,h,a,ha=>by
    simp only [List.zipWith_cons_cons,List.map_cons,List.cons.injEq] at h
    rcases List.mem_cons.1 ha with rfl | ha
    · exact ⟨y,h.1⟩
    · exact Xj h.2 a ha
theorem Sg.seg{C:ug}(hC:C.Ok){S:xp}(hS:aF C.P S){lent:List ay}{α X:Type}(n:Nat)(cs:List Code)(st:aE)(t:T (α⊕X))(N:α→aE)(E:X→AE×aE)(ks:List NS) 
    (h:ZJ C S n cs st t.leaves ks lent.length=Xi N E t.leaves):Sg C.P lent cs st t.run N E:=by
  intro r hr
  obtain ⟨l,h1,h2,h3⟩:=oT t hr
  obtain ⟨k,hk⟩:=Xj h l h1
  simp only [Prod.mk.injEq] at hk
  obtain ⟨hn,he⟩:=hk
  have:=gB.seg hC hS (lent:=lent) (Q:=fun e st'=>(e,st')=xF N E r) cs.length (some l.path) k (cs:=cs) (st:=st) (by rw [List.take_length];exact he) hn h3
  refine this ?_
  rw [h2,List.drop_length]
  generalize hg:xF N E r=x
  obtain ⟨e,s⟩:=x
  cases e with
  | normal=>exact gB.nil rfl
  | ret=>rfl
  | exit id=>rfl
theorem gB.append{P:Program}{lent:List ay}{cs1 cs2:List Code}{st:aE}{Q1 Q:AE→aE→Prop}(h:gB P lent cs1 st Q1)(k:∀ e st',Q1 e st'→JE P lent cs2 e st' Q) :gB P lent (cs1++cs2) st Q:=by
  intro ρ0 w0 hN K hK a w hA
  apply Ah
  refine h ρ0 w0 hN _ ?_ a w hA
  intro e st' a' w' q hA'
  have:=k e st' q
  cases e with
  | normal=>exact this ρ0 w0 hN K hK a' w' hA'
  | ret=>exact hK _ _ _ _ this hA'
  | exit id=>exact hK _ _ _ _ this hA'
def jK{X:Type}(E:X→AE×aE) :Prop:=∀ x,(E x).1 ≠ .normal
theorem Xk{P:Program}{lent:List ay}{cs:List Code}{e:AE}{st:aE}{Q:AE→aE→Prop}(hn:e ≠ .normal)(h:Q e st) :JE P lent cs e st Q:=by
  cases e with
  | normal=>exact (hn rfl).elim
  | ret=>exact h
  | exit id=>exact h
def aN{α β X:Type}(m:Option (α⊕X))(k:α→Option (β⊕X)) :Option (β⊕X) :=
  match m with
  | none=>none
  | some (.inl a)=>k a
  | some (.inr x)=>some (.inr x)
theorem Sg.seq{P:Program}{lent:List ay}{α β X:Type}{cs1 cs2:List Code}{st:aE}{m:Option (α⊕X)}{N1:α→aE}{E:X→AE×aE}{k:α→Option (β⊕X)}{N:β→aE}(hE:jK E) 
    (h:Sg P lent cs1 st m N1 E) (hk:∀ a,Sg P lent cs2 (N1 a) (k a) N E):Sg P lent (cs1++cs2) st (aN m k) N E:=by
  intro r hr
  unfold aN at hr
  split at hr
  · cases hr
  · rename_i a
    refine gB.append (h _ rfl) ?_
    intro e st' q
    simp only [xF,Prod.mk.injEq] at q
    obtain ⟨rfl,rfl⟩:=q
    exact hk a r hr
  · rename_i x
    simp only [Option.some.injEq] at hr;subst hr
    refine gB.append (h _ rfl) ?_
    intro e st' q
    simp only [xF] at q
    refine Xk ?_ q
    have:=hE x
    rw [←q] at this;exact this
def sb{σ Y:Type}(B:σ→Option (σ⊕Y)) :Nat→σ→Option Y
  | 0,_=>none
  | n+1,s=>match B s with
    | none=>none
    | some (.inl s')=>sb B n s'
    | some (.inr y)=>some y
theorem sc{σ Y:Type}{B:σ→Option (σ⊕Y)} :∀ (n:Nat) {s:σ} {y:Y},sb B n s=some y→∀ m,n≤m→sb B m s=some y
  | 0,s,y,h,_,_=>by cases h
  | n+1,s,y,h,m,hm=>by
    obtain ⟨m',rfl⟩:∃ m',m=m'+1:=⟨m-1,by omega⟩
    simp only [sb] at h ⊢
    split at h
    · cases h
    · exact sc n h m' (by omega)
    · exact h
open Classical in
noncomputable def ZK {σ Y : Type} (B : σ → Option (σ ⊕ Y)) (s : σ) : Option Y :=
  if h : ∃ n y, sb B n s = some y then some h.choose_spec.choose else none
theorem Yb{σ Y:Type}{B:σ→Option (σ⊕Y)}{s:σ}{y:Y} :ZK B s=some y↔∃ n,sb B n s=some y:=by
  unfold ZK
  constructor
  · intro h
    split at h
    · rename_i q
      simp only [Option.some.injEq] at h
      exact ⟨q.choose,by rw [←h];exact q.choose_spec.choose_spec⟩
    · cases h
  · rintro ⟨n,h⟩
    rw [dif_pos ⟨n,y,h⟩]
    generalize hq:(⟨n,y,h⟩:∃ n y,sb B n s=some y)=q
    have h1:=q.choose_spec.choose_spec
    have a1:=sc n h (max n q.choose) (by omega)
    have a2:=sc _ h1 (max n q.choose) (by omega)
    rw [a1] at a2
    exact a2.symm
noncomputable def ej{σ Y:Type}(B:σ→Option (σ⊕Y))(s:σ) :Option Y :=
  match sb B 1000000000000 s with
  | some y=>some y
  | none=>ZK B s
theorem yO{σ Y:Type}{B:σ→Option (σ⊕Y)}{s:σ}{y:Y} :ej B s=some y↔∃ n,sb B n s=some y:=by
  unfold ej
  generalize 1000000000000=k
  cases h:sb B k s with
  | none=>exact Yb
  | some z =>
    constructor
    · intro e;cases e;exact ⟨k,h⟩
    · rintro ⟨n,hn⟩
      have a1:=sc n hn (max n k) (by omega)
      have a2:=sc _ h (max n k) (by omega)
      rw [a1] at a2
      exact a2.symm
theorem Rr{σ Y:Type}(B:σ→Option (σ⊕Y))(s:σ) :ej B s=match B s with
    | none=>none
    | some (.inl s')=>ej B s'
    | some (.inr y)=>some y:=by
  have key:∀ y,ej B s=some y↔(match B s with | none=>none | some (.inl s')=>ej B s' | some (.inr y)=>some y)=some y:=by
    intro y
    rw [yO]
    constructor
    · rintro ⟨n,h⟩
      cases n with
      | zero=>cases h
      | succ n =>
        simp only [sb] at h
        cases q:B s with
        | none=>rw [q] at h;cases h
        | some z=>cases z with
          | inl s'=>rw [q] at h;exact yO.2 ⟨n,h⟩
          | inr z=>rw [q] at h;exact h
    · intro h
      split at h<;>rename_i q
      · cases h
      · obtain ⟨n,hn⟩:=yO.1 h
        exact ⟨n+1,by simp only [sb,q];exact hn⟩
      · exact ⟨1,by simp only [sb,q];exact h⟩
  generalize (match B s with | none=>none | some (.inl s')=>ej B s' | some (.inr y)=>some y)=x at key
  cases hl:ej B s with
  | none=>cases x with
    | none=>rfl
    | some y=>rw [(key y).2 rfl] at hl;cases hl
  | some y=>rw [hl] at key;exact ((key y).1 rfl).symm
theorem ZL{σ Y:Type}{B:σ→Option (σ⊕Y)}{s s':σ}(h:B s=some (.inl s')) :ej B s=ej B s':=by rw [Rr,h]
theorem Yc{σ Y:Type}{B:σ→Option (σ⊕Y)}{s:σ}{y:Y}(h:B s=some (.inr y)) :ej B s=some y:=by rw [Rr,h]
def dR{ρ X:Type}(id:Nat)(J:ρ→aE)(E:X→AE×aE) :ρ⊕X→AE×aE
  | .inl r=>(.exit id,J r)
  | .inr x=>E x
def oU{X:Type}(id:Nat)(E:X→AE×aE) :Prop:=∀ x,(E x).1 ≠ .exit id
theorem Sg.loop{P:Program}{lent:List ay}{σ ρ X:Type}{I:σ→aE}{J:ρ→aE}{E:X→AE×aE}{B:σ→Option (σ⊕(ρ⊕X))}{id:Nat}{b:Code}(hE:jK E)(hI:oU id E) 
    (hb:∀ s,Sg P lent (da b) (I s) (B s) I (dR id J E)) (s:σ):Sg P lent [.block id (.loop b)] (I s) (ej B s) J E:=by
  intro y hy
  obtain ⟨n,hn⟩:=yO.1 hy

  have:=gB.loop (P:=P) (lent:=lent) (id:=id) (b:=b) (rest:=[]) (Q:=fun e st'=>(e,st')=xF J E y) (σ:=Nat×σ) (fun s=>I s.2) (fun s=>sb B s.1 s.2=some y) (fun s=>s.1) rfl (fun s hs=>?_) (n,s) hn
  · exact this
  · obtain ⟨n,s⟩:=s
    simp only at hs ⊢
    cases n with
    | zero=>cases hs
    | succ n =>
      simp only [sb] at hs
      split at hs
      · cases hs
      · rename_i s' hB
        refine (hb s _ hB).mono ?_
        intro e st' q
        simp only [xF,Prod.mk.injEq] at q
        obtain ⟨rfl,rfl⟩:=q
        exact ⟨(n,s'),hs,by simp,rfl⟩
      · rename_i y' hB
        simp only [Option.some.injEq] at hs;subst hs
        refine (hb s _ hB).mono ?_
        intro e st' q
        cases y' with
        | inl r =>
          simp only [xF,dR,Prod.mk.injEq] at q
          obtain ⟨rfl,rfl⟩:=q
          simp only [BC,if_true]
          exact gB.nil rfl
        | inr x =>
          simp only [xF,dR] at q
          have h1:=hE x
          have h2:=hI x
          rw [←q] at h1 h2
          simp only at h1 h2
          cases e with
          | normal=>exact (h1 rfl).elim
          | ret=>exact q
          | exit j =>
            have hj : ¬ j=id:=fun h=>h2 (by rw [h])
            simp only [BC,hj,if_false]
            exact q
def HN{κ X:Type}(m:Option (κ⊕(κ⊕X))) :Option (κ⊕X) :=
  match m with
  | none=>none
  | some (.inl a)=>some (.inl a)
  | some (.inr (.inl a))=>some (.inl a)
  | some (.inr (.inr x))=>some (.inr x)
theorem Sg.block{P:Program}{lent:List ay}{κ X:Type}{K:κ→aE}{E:X→AE×aE}{m:Option (κ⊕(κ⊕X))}{id:Nat}{b:Code}{st:aE}(hE:jK E)(hI:oU id E) 
    (hb:Sg P lent (da b) st m K (dR id K E)):Sg P lent [.block id b] st (HN m) K E:=by
  intro r hr
  unfold HN at hr
  refine gB.block (rest:=[]) rfl ?_
  split at hr
  · cases hr
  · simp only [Option.some.injEq] at hr;subst hr
    refine (hb _ rfl).mono ?_
    intro e st' q
    simp only [xF,Prod.mk.injEq] at q
    obtain ⟨rfl,rfl⟩:=q
    exact gB.nil rfl
  · simp only [Option.some.injEq] at hr;subst hr
    refine (hb _ rfl).mono ?_
    intro e st' q
    simp only [xF,dR,Prod.mk.injEq] at q
    obtain ⟨rfl,rfl⟩:=q
    simp only [if_true]
    exact gB.nil rfl
  · rename_i x
    simp only [Option.some.injEq] at hr;subst hr
    refine (hb _ rfl).mono ?_
    intro e st' q
    simp only [xF,dR] at q
    have h1:=hE x
    have h2:=hI x
    rw [←q] at h1 h2
    simp only at h1 h2
    cases e with
    | normal=>exact (h1 rfl).elim
    | ret=>exact q
    | exit j =>
      have hj : ¬ j=id:=fun h=>h2 (by rw [h])
      simp only [hj,if_false]
      exact q
theorem Sg.scope{P:Program}{lent:List ay}{α X:Type}{N:α→aE}{E:X→AE×aE}{m:Option (α⊕X)}{b:Code}{st:aE}(hE:jK E)(hb:Sg P lent (da b) st m N E) :Sg P lent [.scope b] st m N E:=by
  intro r hr
  refine gB.scope (rest:=[]) rfl ((hb r hr).mono ?_)
  intro e st' q
  cases r with
  | inl a =>
    simp only [xF,Prod.mk.injEq] at q
    obtain ⟨rfl,rfl⟩:=q
    exact gB.nil rfl
  | inr x =>
    refine Xk ?_ q
    have:=hE x
    simp only [xF] at q
    rw [←q] at this;exact this
theorem Rs{k:Nat}{ρ0:ae}{w0:World}{st:aE}{a:Act}{w:World}{c:Operand}{b kn:Bool}(h:At k ρ0 w0 st a w)(hc:YK st.tmps c=.bool kn b) :At k ρ0 w0 { st with tmps:=rW st.tmps c b } a w∧a.eval c=.bool b:=by
  obtain ⟨ρ,E,W,hs,hbk,hle⟩:=h
  have hb:a.eval c=.bool b:=by
    have:=wZ hs.heap.rom hs.tmps c
    rw [hc] at this
    generalize a.eval c=z at this
    cases this;rfl
  refine ⟨⟨ρ,E,W,⟨hs.defers,?_,hs.heap⟩,hbk,hle⟩,hb⟩
  cases c with
  | tmp t =>
    simp only [rW,yq]
    have:ch ρ w (st.tmps.set t (.bool true b)) (a.tmps.toList.set t (.bool b)):=hs.tmps.set (.bool _ _) t
    have e:a.tmps.toList.set t (.bool b)=a.tmps.toList:=by
      apply List.ext_getElem?
      intro j
      rw [List.getElem?_set]
      split
      · rename_i q;subst q
        split
        · rename_i hlt
          simp only [Act.eval] at hb
          rw [Array.getD_eq_getD_getElem?] at hb
          have hlt':t<a.tmps.size:=by simpa using hlt
          rw [Array.getElem?_eq_getElem hlt'] at hb
          simp only [Option.getD_some] at hb
          simp [hlt',hb]
        · rename_i hge
          rw [List.getElem?_eq_none (by omega)]
      · rfl
    rw [e] at this;exact this
  | const v=>exact hs.tmps
  | global g=>exact hs.tmps
  | func f=>exact hs.tmps
theorem Sg.cond{P:Program}{lent:List ay}{α X:Type}{N:α→aE}{E:X→AE×aE}{m1 m2:Option (α⊕X)}{c:Operand}{A B:Code}{st:aE}{kn b:Bool}(hE:jK E)(hc:YK st.tmps c=.bool kn b) 
    (h1:Sg P lent (da A) { st with tmps:=rW st.tmps c true } m1 N E) (h2:Sg P lent (da B) { st with tmps:=rW st.tmps c false } m2 N E):Sg P lent [.cond c A B] st (bif b then m1 else m2) N E:=by
  intro r hr
  intro ρ0 w0 hN K hK a w hA
  simp only [Jm]
  obtain ⟨hA',hb⟩:=Rs hA hc
  refine wp_cond hb ?_
  have uC:∀ (D:Code) (m:Option (α⊕X)) (st1:aE),Sg P lent (da D) st1 m N E→m=some r→At lent.length ρ0 w0 st1 a w→D.wp P (fun e a' w'=>match e with | .normal=>K .normal a' w' | e=>K e a' w') a w:=by
    intro D m st1 hS hm hA1
    refine va D (hS r hm ρ0 w0 hN _ ?_ a w hA1)
    intro e st' a' w' q hA2
    cases e with
    | normal=>exact hK .normal st' a' w' q hA2
    | ret=>exact hK .ret st' a' w' q hA2
    | exit id=>exact hK (.exit id) st' a' w' q hA2
  cases b with
  | true=>exact uC A m1 _ h1 hr hA'
  | false=>exact uC B m2 _ h2 hr hA'
theorem Sg.pre{P:Program}{lent:List ay}{α X:Type}{N:α→aE}{E:X→AE×aE}{m:Option (α⊕X)}{cs:List Code}{st st1:aE}(s:NS)(hn:s.ok lent.length=true)(h1:s.on st=st1)(h:Sg P lent cs st1 m N E) :Sg P lent cs st m N E :=
  fun r hr=>gB.weak (by rw [←h1];exact Zj hn st) (h r hr)
def kx{X:Type} :Option (Empty⊕X)→Option X
  | some (.inr x)=>some x
  | _=>none
theorem Sg.contract{P:Program}{f:FuncId}{fn:Func}{c:Code}{X:Type}{N:Empty→aE}{E:X→AE×aE}{m:Option (Empty⊕X)}{lent:List ay}{args:List AV}(keep:Bool)(o:X→fJ)(hf:P.funcs[f]? = some fn)(hc:fn.body=some c) 
    (h:Sg P lent (da c) (pC fn lent args) m N E) (hE:∀ x,Xa P fn lent.length keep (o x) (E x).1 (E x).2) {x:X} (hx:kx m=some x):ag P f lent args (o x):=by
  unfold kx at hx
  split at hx
  · rename_i x'
    simp only [Option.some.injEq] at hx;subst hx
    refine gB.contract (keep:=keep) hf hc ((h _ rfl).mono ?_)
    intro e st' q
    simp only [xF] at q
    have:=hE x'
    rw [←q] at this;exact this
  · cases hx
end
end Go.Plb
namespace Go.Plb
set_option linter.unusedSectionVars false
variable [Rom]
theorem bc{ρ X:Type}{id:Nat}{J:ρ→aE}{E:X→AE×aE}(h:jK E) :jK (dR id J E):=by
  intro x
  cases x with
  | inl r=>intro q;cases q
  | inr x=>exact h x
theorem ky{ρ X:Type}{id j:Nat}{J:ρ→aE}{E:X→AE×aE}(hj:(j==id)=false)(h:oU id E) :oU id (dR j J E):=by
  intro x
  cases x with
  | inl r =>
    intro q
    simp only [dR,AE.exit.injEq] at q
    subst q
    simp at hj
  | inr x=>exact h x
def fH:Code→Code
  | .block _ (.loop b)=>b
  | _=>.skip
def inBlock:Code→Code
  | .block _ b=>b
  | _=>.skip
def yP:Code→Code
  | .scope b=>b
  | _=>.skip
theorem Sg.cut{P:Program}{lent:List ay}{α β X:Type}{cs:List Code}{st:aE}{m:Option (α⊕X)}{N1:α→aE}{E:X→AE×aE}{k:α→Option (β⊕X)}{N:β→aE}(n:Nat)(hE:jK E) 
    (h:Sg P lent (cs.take n) st m N1 E) (hk:∀ a,Sg P lent (cs.drop n) (N1 a) (k a) N E):Sg P lent cs st (aN m k) N E:=by
  have:=Sg.seq hE h hk
  rwa [List.take_append_drop] at this
theorem Yd{P:Program}{lent:List ay}{σ ρ X:Type}{I:σ→aE}{J:ρ→aE}{E:X→AE×aE}{B:σ→Option (σ⊕(ρ⊕X))}{id:Nat}{b:Code}{cs:List Code}(hcs:cs=[.block id (.loop b)])(hE:jK E)(hI:oU id E) 
    (hb:∀ s,Sg P lent (da b) (I s) (B s) I (dR id J E)) (s:σ):Sg P lent cs (I s) (ej B s) J E:=by rw [hcs];exact Sg.loop hE hI hb s
theorem U2{P:Program}{lent:List ay}{κ X:Type}{K:κ→aE}{E:X→AE×aE}{m:Option (κ⊕(κ⊕X))}{id:Nat}{b:Code}{st:aE}{cs:List Code}(hcs:cs=[.block id b])(hE:jK E)(hI:oU id E) 
    (hb:Sg P lent (da b) st m K (dR id K E)):Sg P lent cs st (HN m) K E:=by rw [hcs];exact Sg.block hE hI hb
theorem Aw{P:Program}{lent:List ay}{α X:Type}{N:α→aE}{E:X→AE×aE}{m:Option (α⊕X)}{b:Code}{st:aE}{cs:List Code}(hcs:cs=[.scope b])(hE:jK E)(hb:Sg P lent (da b) st m N E) :Sg P lent cs st m N E:=by
  rw [hcs];exact Sg.scope hE hb
end Go.Plb
namespace Go.Plb
set_option linter.unusedSimpArgs false
set_option linter.unusedVariables false
set_option linter.unusedSectionVars false
variable [Rom]
theorem JT{α:Type}{b:Bool}{t:T α}{x:Option α}(h:b=true)(k:t.run=x) :(T.need b t).run=x:=by subst h;exact k
theorem JU{α:Type}{b:Bool}{t f:T α}{x:Option α}(h:b=true)(k:t.run=x) :(T.ask b t f).run=x:=by subst h;exact k
theorem Rt{α:Type}{b:Bool}{t f:T α}{x:Option α}(h:b=false)(k:f.run=x) :(T.ask b t f).run=x:=by subst h;exact k
theorem ZM{α:Type}{k:Nat}{t f:T α}{a:α}(h:t.run=some a) :(T.alt k t f).run=some a:=by simp only [T.run,h]
theorem acj{α:Type}{k:Nat}{t f:T α}{x:Option α}(h:t.run=none)(q:f.run=x) :(T.alt k t f).run=x:=by simp only [T.run,h];exact q
theorem ack{α:Type}{b:Bool}{t:T α}(h:b=false) :(T.need b t).run=none:=by subst h;rfl
theorem jh{α:Type}{b:Bool}{t:T α}{x:Option α}(k:t.run=x)(h:b=true:=by exact rfl) :(T.need b t).run=x:=JT h k
theorem zo{α:Type}{b:Bool}{t f:T α}{x:Option α}(k:t.run=x)(h:b=true:=by exact rfl) :(T.ask b t f).run=x:=JU h k
theorem EC{α:Type}{b:Bool}{t f:T α}{x:Option α}(k:f.run=x)(h:b=false:=by exact rfl) :(T.ask b t f).run=x:=Rt h k
theorem fO{α β X:Type}{m:Option (α⊕X)}{k:α→Option (β⊕X)}{a:α}{x:Option (β⊕X)}(h:m=some (.inl a))(q:k a=x) :aN m k=x:=by subst h;exact q
theorem Ru{α β X:Type}{m:Option (α⊕X)}{k:α→Option (β⊕X)}{y:X}(h:m=some (.inr y)) :aN m k=some (.inr y):=by subst h;rfl
theorem iB{X:Type}{m:Option (Empty⊕X)}{x:X}(h:m=some (.inr x)) :kx m=some x:=by subst h;rfl
theorem Ye{σ Y:Type}{B:σ→Option (σ⊕Y)}(st:Nat→σ)(n:Nat){y:Y}(i:Nat)(hi:i≤n)(step:∀ j,i≤j→j<n→B (st j)=some (.inl (st (j+1))))(done:B (st n)=some (.inr y)) :ej B (st i)=some y:=by
  obtain ⟨d,rfl⟩:∃ d,n=i+d:=⟨n-i,by omega⟩
  clear hi
  induction d generalizing i with
  | zero=>exact Yc done
  | succ d ih =>
    rw [ZL (step i (Nat.le_refl _) (by omega))]
    have e:i+(d+1)=i+1+d:=by omega
    rw [e] at step done
    exact ih (i+1) (fun j h1 h2=>step j (by omega) h2) done
theorem Rv{σ Y:Type}{B:σ→Option (σ⊕Y)}(st:Nat→σ)(n:Nat){y:Y}{s0:σ}(h0:s0=st 0)(step:∀ j,j<n→B (st j)=some (.inl (st (j+1))))(done:B (st n)=some (.inr y)) :ej B s0=some y:=by
  rw [h0];exact Ye st n 0 (Nat.zero_le _) (fun j _=>step j) done
theorem sU{n:Int} :dZ .i64 n=true↔-9223372036854775808≤n∧n≤9223372036854775807:=by
  have e1:IntKind.i64.min = -9223372036854775808:=by decide
  have e2:IntKind.i64.max=9223372036854775807:=by decide
  simp only [dZ,e1,e2,Bool.and_eq_true,decide_eq_true_eq]
theorem ED{k:Int}{n:Nat} :fI k n=true↔0≤k∧k<n:=by simp only [fI,Bool.and_eq_true,decide_eq_true_eq]
theorem EE{k:Int}{n:Nat} :uE k n=true↔0≤k∧k≤n:=by simp only [uE,Bool.and_eq_true,decide_eq_true_eq]
theorem sV{k n:Nat} :gj k n=true↔k<n:=by simp [gj]
theorem sW{k n:Nat} :mG k n=true↔k≤n:=by simp [mG]
theorem sX{k n:Nat} :Nat.ble k n=true↔k≤n:=by rw [Nat.ble_eq]
theorem sY{k n:Nat} :Nat.blt k n=true↔k<n:=by rw [Nat.blt_eq]
def abu{α:Type}(pos:Nat→Nat)(val:Nat→α)(l:List α) :Nat→List α
  | 0=>l
  | n+1=>(abu pos val l n).set (pos n) (val n)
theorem nH{α:Type}{pos:Nat→Nat}{val:Nat→α}{l:List α} :∀ {n:Nat},(abu pos val l n).length=l.length
  | 0=>rfl
  | n+1=>by simp only [abu,List.length_set];exact nH
theorem Mx{p:Nat→Prop} [DecidablePred p]:∀ {n:Nat},(¬ ∀ i,i<n→p i)→∃ k,k<n∧¬ p k∧∀ j,j<k→p j
  | 0,h=>(h fun i hi=>absurd hi (Nat.not_lt_zero _)).elim
  | n+1,h=>by
    by_cases q:∀ i,i<n→p i
    · refine ⟨n,Nat.lt_succ_self _,fun r=>h fun i hi=>?_,q⟩
      rcases Nat.lt_succ_iff_lt_or_eq.1 hi with a | rfl
      · exact q i a
      · exact r
    · obtain ⟨k,h1,h2,h3⟩:=Mx q
      exact ⟨k,by omega,h2,h3⟩
theorem jV(n:Nat) :Int.toNat (n:Int)=n:=rfl
def acl(x:Nat) :Nat:=if x<4503599627370496 then x else 4503599627370496+x%4503599627370496
def acm(x:Nat) :Nat:=x/4503599627370496-1
abbrev W:Nat:=18446744073709551616
def nl(v:Nat) :Nat:=if h:v=0 then 0 else nl (v/W)+1
termination_by v
decreasing_by exact Nat.div_lt_self (Nat.pos_of_ne_zero h) (by decide)
theorem abW:∀ (v:Nat),v<W^nl v:=by
  intro v
  induction v using Nat.strongRecOn with
  | _ v ih =>
    rw [nl]
    split
    · rename_i h;subst h;decide
    · rename_i h
      have:=ih (v/W) (Nat.div_lt_self (Nat.pos_of_ne_zero h) (by decide))
      rw [Nat.pow_succ]
      exact (Nat.div_lt_iff_lt_mul (by decide)).1 this
def tz(v:Nat) :Nat:=if h:v%2=1∨v=0 then 0 else tz (v/2)+1
termination_by v
decreasing_by omega
theorem aaI:∀ (v:Nat),v≠0→v%2^tz v=0∧v/2^tz v%2=1:=by
  intro v
  induction v using Nat.strongRecOn with
  | _ v ih =>
    intro h
    rw [tz]
    split
    · rename_i q;rw [Nat.pow_zero,Nat.mod_one,Nat.div_one];omega
    · rename_i q
      obtain ⟨h1,h2⟩:=ih (v/2) (by omega) (by omega)
      rw [Nat.pow_succ,Nat.mul_comm (2^_),Nat.mod_mul,←Nat.div_div_eq_div_mul,h1,h2]
      omega
theorem aaJ:tz 0=0:=by rw [tz,dif_pos (.inr rfl)]
theorem abX{v n:Nat}(h:v≠0)(hv:v<2^n) :tz v<n:=by
  obtain ⟨h1,h2⟩:=aaI v h
  rcases Nat.lt_or_ge (tz v) n with q | q
  · exact q
  · rw [Nat.div_eq_of_lt (Nat.lt_of_lt_of_le hv (Nat.pow_le_pow_right (by decide) q))] at h2;omega
def sg(s:Bool)(v:Nat) :Int:=if s then -(v:Int) else (v:Int)
def nE(z e:Int) :Int:=if z=0 then 0 else e+(tz z.natAbs:Nat)
theorem abY{v:Nat} :tz v≤64*nl v:=by
  by_cases h:v=0
  · subst h;rw [aaJ];exact Nat.zero_le _
  · have:=abW v
    have e:W^nl v=2^(64*nl v):=by rw [Nat.pow_mul]
    rw [e] at this
    exact Nat.le_of_lt (abX h this)
def Sm(z e:Int) :Prop:=nl z.natAbs≤300∧-30000≤e∧e≤30000
theorem acn{z e:Int}(h:Sm z e) :tz z.natAbs≤19200:=Nat.le_trans abY (by have:=h.1;omega)
theorem Sm.b{z e:Int}(h:Sm z e) : -30000≤nE z e∧nE z e≤49200:=by
  have ht:=acn h
  obtain ⟨_,h2,h3⟩:=h
  unfold nE
  split<;>omega
def ZN(x:Nat) :Nat:=x/4503599627370496%2048
def uC(x:Nat) :Bool:=ZN x != 2047
def fz(x:Nat) :Int:=sg (x/9223372036854775808==1) (acl (x%9223372036854775808)*2^acm (x%9223372036854775808))
theorem Sm.of{z e:Int}{k:Nat}(h:nl z.natAbs≤k)(hk:k≤300)(he : -30000≤e∧e≤30000) :Sm z e:=⟨Nat.le_trans h hk,he.1,he.2⟩
def Fn(l:List Nat) :Prop:=∀ i,i<l.length→uC (l.getD i 0)=true
end Go.Plb
namespace Go.Proofs.YtcfhbjfbfmlkiaaGreatDoor
open Go.ChangeShapes Go.WideShapes Go.ChangeAt Go.RowKit Go.Plb Go.Plb.Seat
theorem aco{k:IntKind}{x:Int}(h:(FA.i k x).has (.i .u64)) :0≤x∧x<18446744073709551616:=by
  simp only [FA.has] at h
  obtain ⟨rfl,h⟩:=h
  simp [Lit.wf,IntKind.min,IntKind.max,IntKind.signed,IntKind.bits] at h
  omega
end Go.Proofs.YtcfhbjfbfmlkiaaGreatDoor
namespace Go.Plb.Seat
open Go Go.Plb
set_option linter.unusedSimpArgs false
set_option linter.unusedVariables false
noncomputable abbrev E0:xp:=aD []
theorem wL:aF prog E0:=Hz prog
theorem ZO(y:Nat) :ag prog ve [] [.flt true y] ⟨.flt true (tJ y),[]⟩:=by
  have h:qi C0 E0 (gN C0 E0 0 50) ve [] [.flt true y] (some [])=some (⟨.flt true (cG .andNot .u64 (y:Int) 9223372036854775808).toNat,[]⟩,[],some []):=by kernel_rfl
  have:=ag.run gu wL _ _ _ h trivial
  rw [Zm,Int.toNat_natCast] at this;exact this
theorem abZ(ex:Bool)(x:Nat) :ag prog ve [] [.flt ex x] ⟨.flt ex (tJ x),[]⟩:=by
  cases ex with
  | true=>exact ZO x
  | false=>exact wJ (r:=fun y=>.flt true (tJ y)) ZO (fun y hf ρ w u h=>h.flt_weak (Zn hf))
theorem Xl(y:Nat) :ag prog sQ [] [.flt true y] ⟨.flt true (tJ y),[]⟩:=by
  have h:qi C0 E0 (gN C0 E0 0 50) sQ [] [.flt true y] (some [])=some (⟨.flt true ((IntKind.u64.wrap ((y:Int)*2^min (Int.toNat 1) IntKind.u64.bits)).fdiv (2^min (Int.toNat 1) IntKind.u64.bits)).toNat,[]⟩,[true,true],some []):=by kernel_rfl
  have:=ag.run gu wL _ _ _ h ⟨rfl,rfl,trivial⟩
  rw [Xb,Int.toNat_natCast] at this;exact this
theorem abv(ex:Bool)(x:Nat) :ag prog sQ [] [.flt ex x] ⟨.flt ex (tJ x),[]⟩:=by
  cases ex with
  | true=>exact Xl x
  | false=>exact wJ (r:=fun y=>.flt true (tJ y)) Xl (fun y hf ρ w u h=>h.flt_weak (Zn hf))
theorem EF(x y:Nat) :ag prog md [] [.flt true x,.flt true y] ⟨.flt true (oM x y),[]⟩:=by
  have h:qi C0 E0 (gN C0 E0 0 50) md [] [.flt true x,.flt true y] (some [])=some (⟨.flt true (cG .or .u64 (cG .andNot .u64 (x:Int) 9223372036854775808) (cG .and .u64 (y:Int) 9223372036854775808)).toNat,[]⟩,[],some []):=by kernel_rfl
  have:=ag.run gu wL _ _ _ h trivial
  rw [Zm,abq,aaW,Int.toNat_natCast] at this;exact this
theorem U3(e1 e2:Bool)(x y:Nat)(hn:isNaN y=true→isNaN x=true) :ag prog md [] [.flt e1 x,.flt e2 y] ⟨.flt false (oM x y),[]⟩ :=
  wK (r:=fun x y=>.flt true (oM x y)) EF (fun x' y' h1 h2 ρ w u h=>h.flt_weak (FR.copy h1 h2 hn))
theorem Rw(x y:Nat) :ag prog rh [] [.flt true x,.flt true y] ⟨.flt true (oM x y),[]⟩:=by
  have h:qi C0 E0 (gN C0 E0 0 50) rh [] [.flt true x,.flt true y] (some [])=some (⟨.flt true (cG .or .u64
      ((IntKind.u64.wrap ((x:Int)*2^min (Int.toNat 1) IntKind.u64.bits)).fdiv (2^min (Int.toNat 1) IntKind.u64.bits))
      (IntKind.u64.wrap ((y:Int).fdiv (2^min (Int.toNat 63) IntKind.u64.bits)*2^min (Int.toNat 63) IntKind.u64.bits))).toNat,[]⟩,[true,true,true,true],some []):=by kernel_rfl
  have:=ag.run gu wL _ _ _ h ⟨rfl,rfl,rfl,rfl,trivial⟩
  rw [Xb,aaC,aaW,Int.toNat_natCast] at this;exact this
theorem aaK(e1 e2:Bool)(x y:Nat)(hn:isNaN y=true→isNaN x=true) :ag prog rh [] [.flt e1 x,.flt e2 y] ⟨.flt false (oM x y),[]⟩ :=
  wK (r:=fun x y=>.flt true (oM x y)) Rw (fun x' y' h1 h2 ρ w u h=>h.flt_weak (FR.copy h1 h2 hn))
def Od(L:List ay)(args:List AV) :Option (List qh) :=
  match L,args with
  | [],[.flt e1 x,.flt e2 y]=>bif e1&&e2 then one (.flt true (oM x y)) [] else one (.flt false (oM x y)) [!isNaN y||isNaN x]
  | _,_=>none
def ZP:aw:=⟨ve,fun L args=>match L,args with | [],[.flt e x]=>one (.flt e (tJ x)) [] | _,_=>none⟩
def U4:aw:=⟨sQ,fun L args=>match L,args with | [],[.flt e x]=>one (.flt e (tJ x)) [] | _,_=>none⟩
def HO:aw:=⟨md,Od⟩
def Xm:aw:=⟨rh,Od⟩
theorem ZQ:aH prog ZP:=by
  intro L args alts a h ha ho
  simp only [ZP] at h
  split at h
  · exact rH h ha ho fun _=>abZ _ _
  · cases h
theorem Yf:aH prog U4:=by
  intro L args alts a h ha ho
  simp only [U4] at h
  split at h
  · exact rH h ha ho fun _=>abv _ _
  · cases h
theorem abw{x y:Nat}(h:au [!isNaN y||isNaN x]) :isNaN y=true→isNaN x=true:=by
  intro hy;have:=h.1;rw [hy] at this;simpa using this
theorem Xn{f:FuncId}(hT:∀ x y,ag prog f [] [.flt true x,.flt true y] ⟨.flt true (oM x y),[]⟩) 
    (hF:∀ e1 e2 x y,(isNaN y=true→isNaN x=true)→ag prog f [] [.flt e1 x,.flt e2 y] ⟨.flt false (oM x y),[]⟩):aH prog ⟨f,Od⟩:=by
  intro L args alts a h ha ho
  simp only [Od] at h
  split at h
  · rename_i e1 x e2 y
    cases e1<;>cases e2<;>first | exact rH h ha ho fun q=>hF _ _ _ _ (abw q) | exact rH h ha ho fun q=>hT _ _
  · cases h
theorem JV:aH prog HO:=Xn EF U3
theorem U5:aH prog Xm:=Xn Rw aaK
def L1:List aw:=[ZP,U4,HO,Xm]
def S1:xp:=aD L1
theorem ab0:aF prog S1:=ap ZQ (ap Yf (ap JV (ap U5 (Hz _))))
end Go.Plb.Seat
namespace Go.Plb.Seat
open Go Go.Plb
set_option linter.unusedSimpArgs false
set_option linter.unusedVariables false
set_option maxRecDepth 100000
def wM(n:Nat) :Bool:=Nat.ble n 1000000000
noncomputable def ab1:Empty→aE:=fun a=>a.elim
noncomputable def ab2:Unit→AE×aE:=fun _=>(.ret,⟨ah 8 [(2,.sl 0 1 1 0 0 0)],[(0,.fl [])],1⟩)
noncomputable def acp:Unit→fJ:=fun _=>⟨.sl 0 1 1 0 0 0,[some (.fl [])]⟩
theorem aaL:ag prog cp [] [.zsl true] ⟨.sl 0 1 1 0 0 0,[some (.fl [])]⟩ :=
  Sg.contract (x:=()) (X:=Unit) (N:=ab1) (E:=ab2) (m:=some (.inr ())) false acp (by kernel_rfl:prog.funcs[cp]? = some (FN cp)) (by kernel_rfl:(FN cp).body=some (qj cp))
    (Sg.seg (C:=C0) gu wL 60 (da (qj cp)) (pC (FN cp) [] [.zsl true]) (.leaf (.inr ())) ab1 ab2 [⟨[(.slot 2,.own 1 1 (.fl []))],[64],[2]⟩] (by kernel_rfl))
    (fun _=>⟨.inr rfl,[.sl 0 1 1 0 0 0],[],by kernel_rfl,trivial,by kernel_rfl⟩) rfl
theorem ZR:ag prog cp [] [.zsl false] ⟨.sl 0 1 1 0 0 0,[some (.fl [])]⟩ :=
  ag.run gu wL (some []) 0 60 (p':=some []) (obs:=[]) (by kernel_rfl) nob
theorem aaM(l:Lv) :ag prog cp [] [.imm l (.fl []) 1 1 0 0] ⟨.sl 0 1 1 0 0 0,[some (.fl [])]⟩:=by
  intro ρ w us hN hv
  cases hv with | cons _ u _ _ h1 h2 =>
  cases h2
  have key:∀ (a:Option Addr) cap,ch ρ w [.zsl a.isNone] [.slice a 0 cap]:=fun a cap=>.cons _ _ _ _ (.zsl a cap) .nil
  have all:∀ b,ag prog cp [] [.zsl b] ⟨.sl 0 1 1 0 0 0,[some (.fl [])]⟩:=fun b=>by
    cases b
    · exact ZR
    · exact aaL
  cases h1 with
  | imm _ _ _ _ _ _ cap bl o u'=>exact all _ ρ w _ hN (key _ cap)
  | immEnd _ _ _ _ _ cap a=>exact all _ ρ w _ hN (key a cap)
theorem aaN(l:Lv)(xs:List Nat)(hl:xs.length≤1000000000) :ag prog cp [] [.imm l (.fl xs) 1 1 0 xs.length] ⟨.sl 0 1 1 0 xs.length xs.length,[some (.fl xs)]⟩:=by
  rcases Nat.eq_zero_or_pos xs.length with h0 | h0
  · have:xs=[]:=List.length_eq_zero_iff.1 h0
    subst this
    exact aaM l
  · have h:qi C0 E0 (gN C0 E0 0 60) cp [] [.imm l (.fl xs) 1 1 0 xs.length] (some [])=some (⟨.sl 0 1 1 0 (0+xs.length) (0+xs.length),[some (.fl (List.take 0 []++List.take xs.length xs))]⟩,
        [Nat.blt 0 xs.length,mG ((0+xs.length)*8) 140737488355328,mG (0+xs.length) 9223372036854775807,mG xs.length xs.length,mG 0 ([]:List Nat).length],some []):=by kernel_rfl
    have:=ag.run gu wL _ _ _ h (ob (by rw [Nat.blt_eq];exact h0)<|ob (by simp [mG];omega)<|ob (by simp [mG];omega)<|ob (by simp [mG])<|ob rfl nob)
    simp only [Nat.zero_add,List.take_zero,List.nil_append,List.take_length] at this
    exact this
noncomputable def Xo:aw:=bL cp (.cons .fl .nil) fun t=>[⟨⟨.sl 0 1 1 0 t.1.2.length t.1.2.length,[some (.fl t.1.2)]⟩,[wM t.1.2.length]⟩]
theorem U6:aH prog Xo:=aJ fun t=>aK (fun h=>aaN t.1.1 t.1.2 (Nat.le_of_ble_eq_true h)) aT
noncomputable def L2c:List aw:=Xo::L1
theorem abx:aF prog (aD L2c):=ap U6 ab0
noncomputable def Rx:Empty→aE:=fun a=>a.elim
noncomputable def Ry:Unit→AE×aE:=fun _=>(.ret,⟨ah 8 [(2,.sl 0 1 1 0 0 0)],[(0,.ns .u64 [])],1⟩)
noncomputable def ZS:Unit→fJ:=fun _=>⟨.sl 0 1 1 0 0 0,[some (.ns .u64 [])]⟩
theorem Rz:ag prog bz [] [.zsl true] ⟨.sl 0 1 1 0 0 0,[some (.ns .u64 [])]⟩ :=
  Sg.contract (x:=()) (X:=Unit) (N:=Rx) (E:=Ry) (m:=some (.inr ())) false ZS (by kernel_rfl:prog.funcs[bz]? = some (FN bz)) (by kernel_rfl:(FN bz).body=some (qj bz))
    (Sg.seg (C:=C0) gu wL 60 (da (qj bz)) (pC (FN bz) [] [.zsl true]) (.leaf (.inr ())) Rx Ry [⟨[(.slot 2,.own 1 1 (.ns .u64 []))],[64],[2]⟩] (by kernel_rfl))
    (fun _=>⟨.inr rfl,[.sl 0 1 1 0 0 0],[],by kernel_rfl,trivial,by kernel_rfl⟩) rfl
theorem Oe:ag prog bz [] [.zsl false] ⟨.sl 0 1 1 0 0 0,[some (.ns .u64 [])]⟩ :=
  ag.run gu wL (some []) 0 60 (p':=some []) (obs:=[]) (by kernel_rfl) nob
theorem RA(l:Lv) :ag prog bz [] [.imm l (.ns .u64 []) 1 1 0 0] ⟨.sl 0 1 1 0 0 0,[some (.ns .u64 [])]⟩:=by
  intro ρ w us hN hv
  cases hv with | cons _ u _ _ h1 h2 =>
  cases h2
  have key:∀ (a:Option Addr) cap,ch ρ w [.zsl a.isNone] [.slice a 0 cap]:=fun a cap=>.cons _ _ _ _ (.zsl a cap) .nil
  have all:∀ b,ag prog bz [] [.zsl b] ⟨.sl 0 1 1 0 0 0,[some (.ns .u64 [])]⟩:=fun b=>by
    cases b
    · exact Oe
    · exact Rz
  cases h1 with
  | imm _ _ _ _ _ _ cap bl o u'=>exact all _ ρ w _ hN (key _ cap)
  | immEnd _ _ _ _ _ cap a=>exact all _ ρ w _ hN (key a cap)
theorem RB(l:Lv)(xs:List Int)(hl:xs.length≤1000000000) :ag prog bz [] [.imm l (.ns .u64 xs) 1 1 0 xs.length] ⟨.sl 0 1 1 0 xs.length xs.length,[some (.ns .u64 xs)]⟩:=by
  rcases Nat.eq_zero_or_pos xs.length with h0 | h0
  · have:xs=[]:=List.length_eq_zero_iff.1 h0
    subst this
    exact RA l
  · have h:qi C0 E0 (gN C0 E0 0 60) bz [] [.imm l (.ns .u64 xs) 1 1 0 xs.length] (some [])=some (⟨.sl 0 1 1 0 (0+xs.length) (0+xs.length),[some (.ns .u64 (List.take 0 ([]:List Int)++List.take xs.length xs))]⟩,
        [Nat.blt 0 xs.length,mG ((0+xs.length)*8) 140737488355328,mG (0+xs.length) 9223372036854775807,mG xs.length xs.length,mG 0 ([]:List Int).length],some []):=by kernel_rfl
    have:=ag.run gu wL _ _ _ h (ob (by rw [Nat.blt_eq];exact h0)<|ob (by simp [mG];omega)<|ob (by simp [mG];omega)<|ob (by simp [mG])<|ob rfl nob)
    simp only [Nat.zero_add,List.take_zero,List.nil_append,List.take_length] at this
    exact this
noncomputable def EG:aw:=bL bz (.cons (.ns .u64) .nil) fun t=>[⟨⟨.sl 0 1 1 0 t.1.2.length t.1.2.length,[some (.ns .u64 t.1.2)]⟩,[wM t.1.2.length]⟩]
theorem HP:aH prog EG:=aJ fun t=>aK (fun h=>RB t.1.1 t.1.2 (Nat.le_of_ble_eq_true h)) aT
noncomputable def Xp:List aw:=EG::L2c
theorem U7:aF prog (aD Xp):=ap HP abx
noncomputable def L2:List aw:=Xp
theorem ab3:aF prog (aD L2):=U7
end Go.Plb.Seat
namespace Go.Plb.Seat
open Go Go.Plb
set_option linter.unusedSimpArgs false
set_option linter.unusedVariables false
theorem ZT{n:Nat}(h:isNaN n=true) :n/4503599627370496%2048=2047:=by
  rw [ld,decide_eq_true_eq] at h;omega
theorem ZU(n:Nat) :Int.tmod (Int.fdiv (n:Int) (2^min (Int.toNat 52) IntKind.u64.bits)) 2048=((n/4503599627370496%2048:Nat):Int):=by
  have e:(2^min (Int.toNat 52) IntKind.u64.bits:Int)=((4503599627370496:Nat):Int):=by decide
  rw [e,Int.fdiv_eq_ediv_of_nonneg _ (by omega)];exact Int.tmod_eq_emod_of_nonneg (Int.natCast_nonneg _)
theorem ag.nan{f:FuncId}{g:Nat→fJ}{r:fJ}(h:∀ n:Nat,ag prog f [] [.int .u64 (n:Int)] (g n))(e:∀ n:Nat,isNaN n=true→g n=r) :ag prog f [] [.nan] r:=by
  intro ρ w us hN hv
  cases hv with | cons _ u _ _ h1 h2 =>
  cases h2
  cases h1 with | nan n hn =>
  rw [←e n hn]
  exact h n ρ w _ hN (.cons _ _ _ _ (.int _ _) .nil)
theorem Yg:ag prog nC [] [.nan] ⟨.bool false false,[]⟩:=by
  refine ag.nan (g:=fun n=>⟨.bool false ((Int.tmod (Int.fdiv (n:Int) (2^min (Int.toNat 52) IntKind.u64.bits)) 2048) != 2047),[]⟩) (fun n=>?_) (fun n hn=>?_)
  · have h:qi C0 E0 (gN C0 E0 0 50) nC [] [.int .u64 n] (some [])=some (⟨.bool false ((Int.tmod (Int.fdiv (n:Int) (2^min (Int.toNat 52) IntKind.u64.bits)) 2048) != 2047),[]⟩,[(decide ((0:Int)≤52)),((2048:Int) != 0)],some []):=by kernel_rfl
    exact ag.run gu wL _ _ _ h ⟨rfl,rfl,trivial⟩
  · simp only [ZU,ZT hn];rfl
theorem U8:ag prog nC [] [.nan] ⟨.bool true false,[]⟩:=Yg.weak (Aj _ _ _)
def DJ:aw:=⟨nC,fun L args=>match L,args with | [],[.nan]=>one (.bool true false) [] | _,_=>none⟩
theorem Of:aH prog DJ:=by
  intro L args alts a h ha ho
  simp only [DJ] at h
  split at h
  · exact rH h ha ho fun q=>U8
  · cases h
noncomputable def L3:List aw:=DJ::L2
theorem aa9:aF prog (aD L3):=ap Of ab3
end Go.Plb.Seat
namespace Go.Plb.Seat
noncomputable section
open Go Go.Plb
set_option linter.unusedVariables false
set_option maxRecDepth 100000
theorem bi{S:xp}(hS:aF prog S){lent:List ay}{α X:Type}{cs:List Code}{st:aE}{t:T (α⊕X)}(N:α→aE){E:X→AE×aE}(ks:List NS) 
    (h:ZJ C0 S 60 cs st t.leaves ks lent.length=Xi N E t.leaves:=by kernel_rfl):Sg prog lent cs st t.run N E:=Sg.seg gu hS 60 cs st t N E ks h
theorem HQ{lent:List ay}{σ ρ X:Type}{cs:List Code}{st:aE}{E:X→AE×aE}{B:σ→Option (σ⊕(ρ⊕X))}{ent:σ}(s:NS)(I:σ→aE)(J:ρ→aE)(id:Nat)(hE:jK E)(hI:oU id E) 
    (hb:∀ a,Sg prog lent (da (fH (cs.headD .skip))) (I a) (B a) I (dR id J E)) (hn:s.ok lent.length=true:=by exact rfl) (h1:s.on st=I ent:=by kernel_rfl) (hcs:cs=[.block id (.loop (fH (cs.headD .skip)))]:=by kernel_rfl) :
    Sg prog lent cs st (ej B ent) J E:=Sg.pre s hn h1 (Yd hcs hE hI hb ent)
theorem sgb{lent:List ay}{κ X:Type}{cs:List Code}{st:aE}{E:X→AE×aE}{m:Option (κ⊕(κ⊕X))}(K:κ→aE)(id:Nat)(hE:jK E)(hI:oU id E) 
    (hb:Sg prog lent (da (inBlock (cs.headD .skip))) st m K (dR id K E)) (hcs:cs=[.block id (inBlock (cs.headD .skip))]:=by kernel_rfl):Sg prog lent cs st (HN m) K E:=U2 hcs hE hI hb
def lc:Empty→aE:=fun a=>a.elim
theorem kN{fn:Func}{k:Nat}{keep:Bool}{o:fJ}{st:aE}(vs:List AV)(h1:jf prog fn st fn.results.toList=some (vs,[]):=by kernel_rfl)(h2:Hm k keep st.heap (Dv vs)=some o:=by kernel_rfl) :Xa prog fn k keep o .ret st :=
  ⟨.inr rfl,vs,[],h1,trivial,h2⟩
theorem mf{f:FuncId}{X:Type}{m:Option (Empty⊕X)}{lent:List ay}{args:List AV}{x:X}(keep:Bool)(o:X→fJ)(E:X→AE×aE)(hx:kx m=some x) 
    (h:Sg prog lent (da (qj f)) (pC (FN f) lent args) m lc E) (hE:∀ x,Xa prog (FN f) lent.length keep (o x) (E x).1 (E x).2)
    (hf:prog.funcs[f]? = some (FN f):=by kernel_rfl) (hc:(FN f).body=some (qj f):=by kernel_rfl):ag prog f lent args (o x) :=
  Sg.contract (P:=prog) (f:=f) (fn:=FN f) (c:=qj f) (N:=lc) (E:=E) (lent:=lent) (args:=args) keep o hf hc h hE hx
end
end Go.Plb.Seat
namespace Go.Plb.Seat
open Go Go.Plb
set_option linter.unusedVariables false
set_option maxRecDepth 100000
noncomputable section
inductive bv where
  | r0 (a:Int)
def rl:bv→AE×aE
  | .r0 a=>(.ret,⟨ah 14 [(2,.int .i64 a)],[],0⟩)
def fP:bv→fJ
  | .r0 a=>⟨.int .i64 a,[]⟩
def qu(a:Int) :T ((Empty)⊕(bv)) :=
  .ask (a==(0:Int))
    (.leaf (.inr (.r0 (64:Int))))
    (.need (decide ((0:Int)≤(58:Int)))<|.need (fI (Int.fdiv (IntKind.u64.wrap ((cG .and .u64 a (IntKind.u64.wrap ((0:Int)-a)))*(285870213051353865:Int))) (2^(min (Int.toNat (58:Int)) (IntKind.u64.bits)))) 64)<|.need (gj (eN (eN 0 (Jq (Int.toNat (Int.fdiv (IntKind.u64.wrap ((cG .and .u64 a (IntKind.u64.wrap ((0:Int)-a)))*(285870213051353865:Int))) (2^(min (Int.toNat (58:Int)) (IntKind.u64.bits))))) 1)) 0) (List.length aS))<|.leaf (.inr (.r0 (IntKind.i64.wrap (List.getD aS (eN (eN 0 (Jq (Int.toNat (Int.fdiv (IntKind.u64.wrap ((cG .and .u64 a (IntKind.u64.wrap ((0:Int)-a)))*(285870213051353865:Int))) (2^(min (Int.toNat (58:Int)) (IntKind.u64.bits))))) 1)) 0) 0)))))
def cT(a:Int) :Option bv:=kx ((qu a).run)
theorem qv(a:Int){x:bv}(h:cT a=some x) :ag prog jJ [] [.int .u64 a] (fP x) :=
  mf false fP rl h (bi aa9 lc [⟨[],[],[2]⟩,⟨[],[],[2]⟩])
    (fun x=>by cases x with | r0 b=>exact kN [.int .i64 b])
def dM:Option bv→Bool
  | some _=>true
  | none=>false
def dj:Option bv→Int
  | some (.r0 x)=>x
  | _=>0
theorem qw{x:Option bv}(h:dM x=true) :x=some (.r0 (dj x)):=by
  unfold dM at h
  split at h<;>first | rfl | (cases h;done) | (rename_i y;cases y;rfl)
def jL:aw:=bL jJ (.cons (.int .u64) .nil) fun t=>(fun q=>[⟨fP (.r0 (dj q)),[dM q]⟩]) (cT t.1)
theorem oV:aH prog jL:=aJ fun t=>(aK (fun h=>qv t.1 (qw h)) aT)
def jM:List aw:=jL::L3
theorem eV:aF prog (aD jM):=ap oV aa9
inductive cv where
  | r0 (a:Int) (b:Int)
def sZ:cv→AE×aE
  | .r0 a b=>(.ret,⟨ah 51 [(4,.int .u64 a),(5,.int .u64 b)],[],0⟩)
theorem Ax:jK sZ:=by intro x;cases x<;>(intro h;cases h)
def nI:cv→fJ
  | .r0 a b=>⟨.tup [.int .u64 a,.int .u64 b],[]⟩
def Ay(a:Int)(b:Int) :Int×Int×Int×Int→aE:=fun (c,d,e,f)=>⟨ah 51 [(0,.int .u64 a),(1,.int .u64 b),(6,.int .u64 c),(7,.int .u64 d),(9,.int .u64 e),(11,.int .u64 f)],[],0⟩
def Az(a:Int)(b:Int) :T ((Int×Int×Int×Int)⊕(cv)) :=
  .need (decide ((0:Int)≤(32:Int)))<|.need (decide ((0:Int)≤(32:Int)))<|.need (decide ((0:Int)≤(32:Int)))<|.leaf (.inl ((cG .and .u64 a (4294967295:Int)),(Int.fdiv a (2^(min (Int.toNat (32:Int)) (IntKind.u64.bits)))),(Int.fdiv b (2^(min (Int.toNat (32:Int)) (IntKind.u64.bits)))),(IntKind.u64.wrap ((IntKind.u64.wrap ((Int.fdiv a (2^(min (Int.toNat (32:Int)) (IntKind.u64.bits))))*(cG .and .u64 b (4294967295:Int))))+(Int.fdiv (IntKind.u64.wrap ((cG .and .u64 a (4294967295:Int))*(cG .and .u64 b (4294967295:Int)))) (2^(min (Int.toNat (32:Int)) (IntKind.u64.bits))))))))
def AA(c:Int)(d:Int)(e:Int)(f:Int)(a:Int)(b:Int) :T ((Empty)⊕(cv)) :=
  .need (decide ((0:Int)≤(32:Int)))<|.need (decide ((0:Int)≤(32:Int)))<|.leaf (.inr (.r0 (IntKind.u64.wrap ((IntKind.u64.wrap ((IntKind.u64.wrap (f*a))+(Int.fdiv b (2^(min (Int.toNat (32:Int)) (IntKind.u64.bits))))))+(Int.fdiv (IntKind.u64.wrap ((cG .and .u64 b (4294967295:Int))+(IntKind.u64.wrap (e*a)))) (2^(min (Int.toNat (32:Int)) (IntKind.u64.bits)))))) (IntKind.u64.wrap (c*d))))
def ek(a:Int)(b:Int) :Option cv:=kx (aN ((Az a b).run) fun (c,d,e,f) =>
  (AA a b c d e f).run)
theorem AB(a:Int)(b:Int){x:cv}(h:ek a b=some x) :ag prog sS [] [.int .u64 a,.int .u64 b] (nI x) :=
  mf false nI sZ h (Sg.cut 7 Ax (bi eV (Ay a b) [⟨[],[],[0,1,6,7,9,11]⟩]) (fun ⟨e,f,g,i⟩=>bi eV lc [⟨[],[],[4,5]⟩]))
    (fun x=>by cases x with | r0 c d=>exact kN [.int .u64 c,.int .u64 d])
def iC:Option cv→Bool
  | some _=>true
  | none=>false
def jW:Option cv→Int
  | some (.r0 x _)=>x
  | _=>0
def fq:Option cv→Int
  | some (.r0 _ x)=>x
  | _=>0
theorem AC{x:Option cv}(h:iC x=true) :x=some (.r0 (jW x) (fq x)):=by
  unfold iC at h
  split at h<;>first | rfl | (cases h;done) | (rename_i y;cases y;rfl)
def ta:aw:=bL sS (.cons (.int .u64) (.cons (.int .u64) .nil)) fun t=>(fun q=>[⟨nI (.r0 (jW q) (fq q)),[iC q]⟩]) (ek t.1 t.2.1)
theorem xG:aH prog ta:=aJ fun t=>(aK (fun h=>AB t.1 t.2.1 (AC h)) aT)
def tc:List aw:=ta::jM
theorem fu:aF prog (aD tc):=ap xG eV
inductive eW where
  | r0 (a:List Int) (b:Nat)
def vm(a:Lv) :eW→AE×aE
  | .r0 b c=>(.ret,⟨ah 21 [(2,.imm a (.ns .u64 b) 1 1 0 c)],[],0⟩)
theorem td{a:Lv} :jK (vm a):=by intro x;cases x<;>(intro h;cases h)
theorem RC{a:Lv}(id:Nat) :oU id (vm a):=by intro x;cases x<;>(intro h;cases h)
def AD(a:Lv) :eW→fJ
  | .r0 b c=>⟨.imm a (.ns .u64 b) 1 1 0 c,[]⟩
def RD:List Code:=da (qj mJ)
def RE(b:Lv)(a:List Int)(_:Unit) :aE:=⟨ah 21 [(0,.imm b (.ns .u64 a) 1 1 0 (List.length a))],[],0⟩
def RF:T ((Unit)⊕(eW)) :=
  .leaf (.inl ())
def te(a:Lv)(b:List Int)(c:Nat) :aE:=⟨ah 21 [(0,.imm a (.ns .u64 b) 1 1 0 c)],[],0⟩
def EH(a:Lv)(b:List Int)(c:Nat) :aE:=⟨ah 21 [(0,.imm a (.ns .u64 b) 1 1 0 c)],[],0⟩
def Og:List Code:=da (fH ((((RD.drop 1).take 1)).headD .skip))
def RG(a:Lv)(b:List Int)(c:Nat)(d:Bool) :aE:=⟨ah 21 [(0,.imm a (.ns .u64 b) 1 1 0 c),(14,.bool false d)],[],0⟩
def Oh(b:List Int)(a:Nat) :T ((Bool)⊕((Nat)⊕(eW))) :=
  .ask (decide (((a:Nat):Int)>(0:Int)))
    (.need (dZ .i64 (((a:Nat):Int)-(1:Int)))<|.need (fI (((a:Nat):Int)-(1:Int)) a)<|.need (gj (Int.toNat (((a:Nat):Int)-(1:Int))) (List.length b))<|.leaf (.inl ((List.getD b (Int.toNat (((a:Nat):Int)-(1:Int))) 0)==(0:Int))))
    (.leaf (.inl false))
def Oi(a:Nat)(b:Bool) :T ((Nat)⊕((Nat)⊕(eW))) :=
  .ask b
    (.need (dZ .i64 (((a:Nat):Int)-(1:Int)))<|.need (uE (((a:Nat):Int)-(1:Int)) a)<|.need (uE (0:Int) (Int.toNat (((a:Nat):Int)-(1:Int))))<|.leaf (.inl (Int.toNat (((a:Nat):Int)-(1:Int)))))
    (.leaf (.inr (.inl a)))
def vn(b:List Int) :Nat→Option ((Nat)⊕((Nat)⊕(eW))):=fun a =>
  aN ((Oh b a).run) fun c =>
  (Oi a c).run
theorem Oj(a:Lv)(b:List Int)(c:Nat) :Sg prog [] Og (te a b c) (vn b c) (te a b) (dR 0 (EH a b) (vm a)):=by
  unfold vn;exact Sg.cut 1 (bc td) (bi fu (RG a b c) [⟨[],[],[0,14]⟩,⟨[],[],[0,14]⟩]) (fun d=>bi fu (te a b) [⟨[],[],[0]⟩,⟨[],[],[0]⟩])
def Ol(a:List Int)(b:Nat) :T ((Empty)⊕(eW)) :=
  .leaf (.inr (.r0 a b))
def ao(a:List Int) :Option eW:=kx (aN ((RF).run) fun _ =>
  aN (ej (vn a) (List.length a)) fun b =>
  (Ol a b).run)
theorem RH(a:Lv)(b:List Int){x:eW}(h:ao b=some x) :ag prog mJ [] [.imm a (.ns .u64 b) 1 1 0 (List.length b)] (AD a x) :=
  mf false (AD a) (vm a) h (Sg.cut 1 td (bi fu (RE a b) [⟨[],[],[0]⟩]) (fun _=>Sg.cut 1 td (HQ ⟨[],[],[0]⟩ (te a b) (EH a b) 0 td (RC _) (fun c=>Oj a b c)) (fun f=>bi fu lc [⟨[],[],[2]⟩])))
    (fun x=>by cases x with | r0 d e=>exact kN [.imm a (.ns .u64 d) 1 1 0 e])
def cM:Option eW→Bool
  | some _=>true
  | none=>false
def aR:Option eW→List Int
  | some (.r0 x _)=>x
  | _=>[]
def az:Option eW→Nat
  | some (.r0 _ x)=>x
  | _=>0
theorem RI{x:Option eW}(h:cM x=true) :x=some (.r0 (aR x) (az x)):=by
  unfold cM at h
  split at h<;>first | rfl | (cases h;done) | (rename_i y;cases y;rfl)
def HS:aw:=bL mJ (.cons (.ns .u64) .nil) fun t=>(fun q=>[⟨AD t.1.1 (.r0 (aR q) (az q)),[cM q]⟩]) (ao t.1.2)
theorem JW:aH prog HS:=aJ fun t=>(aK (fun h=>RH t.1.1 t.1.2 (RI h)) aT)
def HT:List aw:=HS::tc
theorem tM:aF prog (aD HT):=ap JW fu
inductive gw where
  | r0 (a:Nat) (b:Nat) (c:List Int)
def HU:gw→AE×aE
  | .r0 a b c=>(.ret,⟨ah 12 [(2,.sl 0 1 1 0 a a),(3,.int .i64 ((b:Nat):Int))],[(0,.ns .u64 c)],1⟩)
theorem RJ:jK HU:=by intro x;cases x<;>(intro h;cases h)
def AF:gw→fJ
  | .r0 a b c=>⟨.tup [.imm .free (.ns .u64 c) 1 1 0 a,.int .i64 ((b:Nat):Int)],[]⟩
def RK(a:Lv) :Nat×(List Int)×Nat→aE:=fun (b,c,d)=>⟨ah 12 [(1,.ptr 0 1 0 0),(4,.int .i64 ((b:Nat):Int))],[(0,.vs [.imm a (.ns .u64 c) 1 1 0 d])],1⟩
def RL(a:List Int) :T ((Nat×(List Int)×Nat)⊕(gw)) :=
  .ask (decide ((0:Int)<(1:Int)))
    (.need (fI (0:Int) 1)<|.need (aL 0 (List.length a) a)<|.need (cM (ao (aa 0 (List.length a) a)))<|.ask (decide ((((az (ao (aa 0 (List.length a) a))):Nat):Int)>(4096:Int)))
      (.leaf (.inl (2,(aR (ao (aa 0 (List.length a) a))),(az (ao (aa 0 (List.length a) a))))))
      (.need (dZ .i64 (1:Int))<|.ask (decide ((1:Int)<(1:Int)))
        (.fail)
        (.leaf (.inl (0,(aR (ao (aa 0 (List.length a) a))),(az (ao (aa 0 (List.length a) a))))))))
    (.fail)
def RM(c:Nat)(a:List Int)(b:Nat) :T ((Empty)⊕(gw)) :=
  .ask (((c:Nat):Int) != (0:Int))
    (.leaf (.inr (.r0 0 c ([]:List Int))))
    (.need (aL 0 b a)<|.need (wM (List.length (aa 0 b a)))<|.leaf (.inr (.r0 (List.length (aa 0 b a)) 0 (aa 0 b a))))
def mK(a:List Int) :Option gw:=kx (aN ((RL a).run) fun (b,c,d) =>
  (RM b c d).run)
theorem RN(b:Lv)(a:List Int){x:gw}(h:mK a=some x) :ag prog Ap [] [.imm b (.ns .u64 a) 1 1 0 (List.length a)] (AF x) :=
  mf true AF HU h (Sg.cut 2 RJ (bi tM (RK b) [⟨[],[0],[1,4]⟩,⟨[],[0],[1,4]⟩]) (fun ⟨e,f,g⟩=>bi tM lc [⟨[(.slot 2,.own 1 1 (.ns .u64 ([]:List Int)))],[81],[2,3]⟩,⟨[],[49],[2,3]⟩]))
    (fun x=>by cases x with | r0 c d i=>exact kN [.sl 0 1 1 0 c c,.int .i64 ((d:Nat):Int)])
def qk:Option gw→Bool
  | some _=>true
  | none=>false
def tN:Option gw→Nat
  | some (.r0 x _ _)=>x
  | _=>0
def tO:Option gw→Nat
  | some (.r0 _ x _)=>x
  | _=>0
def tP:Option gw→List Int
  | some (.r0 _ _ x)=>x
  | _=>[]
theorem RO{x:Option gw}(h:qk x=true) :x=some (.r0 (tN x) (tO x) (tP x)):=by
  unfold qk at h
  split at h<;>first | rfl | (cases h;done) | (rename_i y;cases y;rfl)
def HV:aw:=bL Ap (.cons (.ns .u64) .nil) fun t=>(fun q=>[⟨AF (.r0 (tN q) (tO q) (tP q)),[qk q]⟩]) (mK t.1.2)
theorem JX:aH prog HV:=aJ fun t=>(aK (fun h=>RN t.1.1 t.1.2 (RO h)) aT)
def HW:List aw:=HV::HT
theorem lp:aF prog (aD HW):=ap JX tM
inductive cd where
  | r0 (a:Nat) (b:Nat) (c:Nat) (d:List Int)
def pF:cd→AE×aE
  | .r0 a b c d=>(.ret,⟨ah 21 [(2,.sl 0 1 1 a b c)],[(0,.ns .u64 d)],1⟩)
theorem nJ:jK pF:=by intro x;cases x<;>(intro h;cases h)
theorem HX(id:Nat) :oU id pF:=by intro x;cases x<;>(intro h;cases h)
def tQ:cd→fJ
  | .r0 a b c d=>⟨.sl 0 1 1 a b c,[some (.ns .u64 d)]⟩
def HY:List Code:=da (qj mJ)
def HZ(a:List Int)(b:Nat)(c:Nat)(d:Nat)(_:Unit) :aE:=⟨ah 21 [(0,.sl 0 1 1 b c d)],[(0,.ns .u64 a)],1⟩
def H0:T ((Unit)⊕(cd)) :=
  .leaf (.inl ())
def nK(a:List Int)(b:Nat) :Nat×Nat→aE:=fun (c,d)=>⟨ah 21 [(0,.sl 0 1 1 c d b)],[(0,.ns .u64 a)],1⟩
def xH(a:List Int)(b:Nat) :Nat×Nat→aE:=fun (c,d)=>⟨ah 21 [(0,.sl 0 1 1 c d b)],[(0,.ns .u64 a)],1⟩
def Fp:List Code:=da (fH ((((HY.drop 1).take 1)).headD .skip))
def H3(a:List Int)(b:Nat)(c:Nat)(d:Nat)(e:Bool) :aE:=⟨ah 21 [(0,.sl 0 1 1 c d b),(14,.bool false e)],[(0,.ns .u64 a)],1⟩
def Fq(b:List Int)(c:Nat)(a:Nat) :T ((Bool)⊕((Nat×Nat)⊕(cd))) :=
  .ask (decide (((a:Nat):Int)>(0:Int)))
    (.need (dZ .i64 (((a:Nat):Int)-(1:Int)))<|.need (fI (((a:Nat):Int)-(1:Int)) a)<|.need (gj (eN c (Int.toNat (((a:Nat):Int)-(1:Int)))) (List.length b))<|.leaf (.inl ((List.getD b (eN c (Int.toNat (((a:Nat):Int)-(1:Int)))) 0)==(0:Int))))
    (.leaf (.inl false))
def Fr(c:Nat)(b:Nat)(a:Nat)(d:Bool) :T ((Nat×Nat)⊕((Nat×Nat)⊕(cd))) :=
  .ask d
    (.need (dZ .i64 (((a:Nat):Int)-(1:Int)))<|.need (uE (((a:Nat):Int)-(1:Int)) c)<|.need (uE (0:Int) (Int.toNat (((a:Nat):Int)-(1:Int))))<|.leaf (.inl ((eN b 0),(Int.toNat (((a:Nat):Int)-(1:Int))))))
    (.leaf (.inr (.inl (b,a))))
def qx(c:List Int)(d:Nat) :Nat×Nat→Option ((Nat×Nat)⊕((Nat×Nat)⊕(cd))):=fun (a,b) =>
  aN ((Fq c a b).run) fun e =>
  (Fr d a b e).run
theorem Fs(a:List Int)(b:Nat)(c:Nat)(d:Nat) :Sg prog [.ns .u64 a] Fp (nK a b (c,d)) (qx a b (c,d)) (nK a b) (dR 0 (xH a b) pF):=by
  unfold qx;exact Sg.cut 1 (bc nJ) (bi lp (H3 a b c d) [⟨[],[0],[0,14]⟩,⟨[],[0],[0,14]⟩]) (fun e=>bi lp (nK a b) [⟨[],[0],[0]⟩,⟨[],[0],[0]⟩])
def Ft(a:List Int)(b:Nat)(c:Nat)(d:Nat) :T ((Empty)⊕(cd)) :=
  .leaf (.inr (.r0 c d b a))
def aV(a:List Int)(c:Nat)(d:Nat)(b:Nat) :Option cd:=kx (aN ((H0).run) fun _ =>
  aN (ej (qx a b) (c,d)) fun (e,f) =>
  (Ft a b e f).run)
theorem H4(a:List Int)(c:Nat)(d:Nat)(b:Nat){x:cd}(h:aV a c d b=some x) :ag prog mJ [.ns .u64 a] [.sl 0 1 1 c d b] (tQ x) :=
  mf false tQ pF h (Sg.cut 1 nJ (bi lp (HZ a c d b) [⟨[],[0],[0]⟩]) (fun _=>Sg.cut 1 nJ (HQ ⟨[],[0],[0]⟩ (nK a b) (xH a b) 0 nJ (HX _) (fun ⟨e,f⟩=>Fs a b e f)) (fun ⟨k,l⟩=>bi lp lc [⟨[],[0],[2]⟩])))
    (fun x=>by cases x with | r0 g i j m=>exact kN [.sl 0 1 1 g i j])
def fv:Option cd→Bool
  | some _=>true
  | none=>false
def eX:Option cd→Nat
  | some (.r0 x _ _ _)=>x
  | _=>0
def eY:Option cd→Nat
  | some (.r0 _ x _ _)=>x
  | _=>0
def eZ:Option cd→Nat
  | some (.r0 _ _ x _)=>x
  | _=>0
def fa:Option cd→List Int
  | some (.r0 _ _ _ x)=>x
  | _=>[]
theorem H5{x:Option cd}(h:fv x=true) :x=some (.r0 (eX x) (eY x) (eZ x) (fa x)):=by
  unfold fv at h
  split at h<;>first | rfl | (cases h;done) | (rename_i y;cases y;rfl)
def zp:aw:=Rq mJ [.ns .u64] (.cons (.lsl 0) .nil) fun x t=>(fun q=>[⟨tQ (.r0 (eX q) (eY q) (eZ q) (fa q)),[fv q]⟩]) (aV x.1 t.1.1 t.1.2.1 t.1.2.2)
theorem DK:aH prog zp:=HL fun x t=>(yN (fun h=>H4 x.1 t.1.1 t.1.2.1 t.1.2.2 (H5 h)) HM)
def zq:List aw:=zp::HW
theorem oW:aF prog (aD zq):=ap DK lp
inductive ji where
  | r0 (a:Nat) (b:Nat) (c:Nat) (d:List Int)
def RP:ji→AE×aE
  | .r0 a b c d=>(.ret,⟨ah 6 [(2,.sl 0 1 1 a b c)],[(0,.ns .u64 d)],1⟩)
theorem Yh:jK RP:=by intro x;cases x<;>(intro h;cases h)
def H6:ji→fJ
  | .r0 a b d c=>⟨.imm .free (.ns .u64 c) 1 1 a b,[]⟩
def Yi:Nat×Nat×Nat×(List Int)→aE:=fun (a,b,c,d)=>⟨ah 6 [(2,.sl 0 1 1 a b c)],[(0,.ns .u64 d)],1⟩
def Yj(a:Int) :T ((Nat×Nat×Nat×(List Int))⊕(ji)) :=
  .need (fv (aV [a] 0 1 1))<|.leaf (.inl ((eX (aV [a] 0 1 1)),(eY (aV [a] 0 1 1)),(eZ (aV [a] 0 1 1)),(fa (aV [a] 0 1 1))))
def Yk(a:Nat)(b:Nat)(c:Nat)(d:List Int) :T ((Empty)⊕(ji)) :=
  .leaf (.inr (.r0 a b c d))
def ba(a:Int) :Option ji:=kx (aN ((Yj a).run) fun (b,c,d,e) =>
  (Yk b c d e).run)
theorem Yl(a:Int){x:ji}(h:ba a=some x) :ag prog HE [] [.int .u64 a] (H6 x) :=
  mf true H6 RP h (Sg.cut 2 Yh (bi oW Yi [⟨[],[32],[2]⟩]) (fun ⟨e,f,g,i⟩=>bi oW lc [⟨[],[0],[2]⟩]))
    (fun x=>by cases x with | r0 b c d j=>exact kN [.sl 0 1 1 b c d])
def uo:Option ji→Bool
  | some _=>true
  | none=>false
def cN:Option ji→Nat
  | some (.r0 x _ _ _)=>x
  | _=>0
def cO:Option ji→Nat
  | some (.r0 _ x _ _)=>x
  | _=>0
def EI:Option ji→Nat
  | some (.r0 _ _ x _)=>x
  | _=>0
def cP:Option ji→List Int
  | some (.r0 _ _ _ x)=>x
  | _=>[]
theorem Ym{x:Option ji}(h:uo x=true) :x=some (.r0 (cN x) (cO x) (EI x) (cP x)):=by
  unfold uo at h
  split at h<;>first | rfl | (cases h;done) | (rename_i y;cases y;rfl)
def RQ:aw:=bL HE (.cons (.int .u64) .nil) fun t=>(fun q=>[⟨H6 (.r0 (cN q) (cO q) (EI q) (cP q)),[uo q]⟩]) (ba t.1)
theorem RR:aH prog RQ:=aJ fun t=>(aK (fun h=>Yl t.1 (Ym h)) aT)
def RS:List aw:=RQ::zq
theorem tf:aF prog (aD RS):=ap RR oW
inductive ia where
  | r0 (a:Int)
def yQ:ia→AE×aE
  | .r0 a=>(.ret,⟨ah 45 [(4,.int .i64 a)],[],0⟩)
theorem AG:jK yQ:=by intro x;cases x<;>(intro h;cases h)
theorem U9(id:Nat) :oU id yQ:=by intro x;cases x<;>(intro h;cases h)
def DL:ia→fJ
  | .r0 a=>⟨.int .i64 a,[]⟩
def Va:List Code:=da (qj DE)
def Vb(c:Lv)(a:List Int)(d:Lv)(b:List Int)(e:Int) :aE:=⟨ah 45 [(0,.imm c (.ns .u64 a) 1 1 0 (List.length a)),(1,.imm d (.ns .u64 b) 1 1 0 (List.length b)),(5,.int .i64 e)],[],0⟩
def Vc(a:List Int)(b:List Int) :T ((Int)⊕(ia)) :=
  .ask (decide ((((List.length a):Nat):Int)<(((List.length b):Nat):Int)))
    (.leaf (.inr (.r0 (-1:Int))))
    (.ask (decide ((((List.length a):Nat):Int)>(((List.length b):Nat):Int)))
      (.leaf (.inr (.r0 (1:Int))))
      (.need (dZ .i64 ((((List.length a):Nat):Int)-(1:Int)))<|.leaf (.inl ((((List.length a):Nat):Int)-(1:Int)))))
def vo(c:Lv)(a:List Int)(d:Lv)(b:List Int)(e:Int) :aE:=⟨ah 45 [(0,.imm c (.ns .u64 a) 1 1 0 (List.length a)),(1,.imm d (.ns .u64 b) 1 1 0 (List.length b)),(5,.int .i64 e)],[],0⟩
def H7(_:Unit) :aE:=⟨ah 45 [],[],0⟩
def Vd:List Code:=da (fH ((((Va.drop 3).take 1)).headD .skip))
def Ve(b:List Int)(c:List Int)(a:Int) :T ((Int)⊕((Unit)⊕(ia))) :=
  .ask (decide (a≥(0:Int)))
    (.need (fI a (List.length b))<|.need (gj (Int.toNat a) (List.length b))<|.need (fI a (List.length c))<|.need (gj (Int.toNat a) (List.length c))<|.ask (decide ((List.getD b (Int.toNat a) 0)<(List.getD c (Int.toNat a) 0)))
      (.leaf (.inr (.inr (.r0 (-1:Int)))))
      (.need (fI a (List.length b))<|.need (gj (Int.toNat a) (List.length b))<|.need (fI a (List.length c))<|.need (gj (Int.toNat a) (List.length c))<|.ask (decide ((List.getD b (Int.toNat a) 0)>(List.getD c (Int.toNat a) 0)))
        (.leaf (.inr (.inr (.r0 (1:Int)))))
        (.need (dZ .i64 (a-(1:Int)))<|.leaf (.inl (a-(1:Int))))))
    (.leaf (.inr (.inl ())))
def xI(a:List Int)(b:List Int) :Int→Option ((Int)⊕((Unit)⊕(ia))):=fun c =>
  (Ve a b c).run
theorem RT(c:Lv)(a:List Int)(d:Lv)(b:List Int)(e:Int) :Sg prog [] Vd (vo c a d b e) (xI a b e) (vo c a d b) (dR 1 H7 yQ):=by
  unfold xI;exact bi tf (vo c a d b) [⟨[],[],[4]⟩,⟨[],[],[4]⟩,⟨[],[],[0,1,5]⟩,⟨[],[],[]⟩]
def RU:T ((Empty)⊕(ia)) :=
  .leaf (.inr (.r0 (0:Int)))
def rJ(a:List Int)(b:List Int) :Option ia:=kx (aN ((Vc a b).run) fun c =>
  aN (ej (xI a b) c) fun _ =>
  (RU).run)
theorem Vf(c:Lv)(a:List Int)(d:Lv)(b:List Int){x:ia}(h:rJ a b=some x) :ag prog DE [] [.imm c (.ns .u64 a) 1 1 0 (List.length a),.imm d (.ns .u64 b) 1 1 0 (List.length b)] (DL x) :=
  mf false DL yQ h (Sg.cut 3 AG (bi tf (Vb c a d b) [⟨[],[],[4]⟩,⟨[],[],[4]⟩,⟨[],[],[0,1,5]⟩]) (fun g=>Sg.cut 1 AG (HQ ⟨[],[],[0,1,5]⟩ (vo c a d b) (H7) 1 AG (U9 _) (fun e=>RT c a d b e)) (fun _=>bi tf lc [⟨[],[],[4]⟩])))
    (fun x=>by cases x with | r0 f=>exact kN [.int .i64 f])
def sd:Option ia→Bool
  | some _=>true
  | none=>false
def rm:Option ia→Int
  | some (.r0 x)=>x
  | _=>0
theorem Vg{x:Option ia}(h:sd x=true) :x=some (.r0 (rm x)):=by
  unfold sd at h
  split at h<;>first | rfl | (cases h;done) | (rename_i y;cases y;rfl)
def My:aw:=bL DE (.cons (.ns .u64) (.cons (.ns .u64) .nil)) fun t=>(fun q=>[⟨DL (.r0 (rm q)),[sd q]⟩]) (rJ t.1.2 t.2.1.2)
theorem Om:aH prog My:=aJ fun t=>(aK (fun h=>Vf t.1.1 t.1.2 t.2.1.1 t.2.1.2 (Vg h)) aT)
def Mz:List aw:=My::RS
theorem rn:aF prog (aD Mz):=ap Om tf
inductive ib where
  | r0 (a:Int) (b:Nat)
def MA:ib→AE×aE
  | .r0 a b=>(.ret,⟨ah 15 [(4,.int .i64 a),(5,.int .i64 ((b:Nat):Int))],[],0⟩)
theorem H8:jK MA:=by intro x;cases x<;>(intro h;cases h)
def DM:ib→fJ
  | .r0 a b=>⟨.tup [.int .i64 a,.int .i64 ((b:Nat):Int)],[]⟩
def Vh(a:Lv)(b:Lv) :Nat×(List Int)×Nat×(List Int)×Nat→aE:=fun (c,d,e,f,g)=>⟨ah 15 [(2,.ptr 0 1 0 0),(3,.ptr 1 1 0 0),(6,.int .i64 ((c:Nat):Int))],[(0,.vs [.imm a (.ns .u64 d) 1 1 0 e]),(1,.vs [.imm b (.ns .u64 f) 1 1 0 g])],2⟩
def Vi(a : List Int)(b : List Int) : T ((Nat × (List Int) × Nat × (List Int) × Nat) ⊕ (ib)) :=
  .ask (decide ((0:Int)<(2:Int)))
    (.need (fI (0:Int) 2)<|.need (aL 0 (List.length a) a)<|.need (cM (ao (aa 0 (List.length a) a)))<|.ask (decide ((((az (ao (aa 0 (List.length a) a))):Nat):Int)>(4096:Int)))
      (.leaf (.inl (2,(aR (ao (aa 0 (List.length a) a))),(az (ao (aa 0 (List.length a) a))),b,(List.length b))))
      (.need (dZ .i64 (1:Int))<|.ask (decide ((1:Int)<(2:Int)))
        (.need (fI (1:Int) 2)<|.need (aL 0 (List.length b) b)<|.need (cM (ao (aa 0 (List.length b) b)))<|.ask (decide ((((az (ao (aa 0 (List.length b) b))):Nat):Int)>(4096:Int)))
          (.leaf (.inl (2,(aR (ao (aa 0 (List.length a) a))),(az (ao (aa 0 (List.length a) a))),(aR (ao (aa 0 (List.length b) b))),(az (ao (aa 0 (List.length b) b))))))
          (.need (dZ .i64 (2:Int))<|.ask (decide ((2:Int)<(2:Int)))
            (.fail)
            (.leaf (.inl (0,(aR (ao (aa 0 (List.length a) a))),(az (ao (aa 0 (List.length a) a))),(aR (ao (aa 0 (List.length b) b))),(az (ao (aa 0 (List.length b) b))))))))
        (.fail)))
    (.fail)
def Vj(a:Int) :aE:=⟨ah 15 [(4,.int .i64 a),(5,.int .i64 (0:Int))],[],0⟩
def Vk(e:Nat)(a:List Int)(b:Nat)(c:List Int)(d:Nat) :T ((Int)⊕(ib)) :=
  .ask (((e:Nat):Int) != (0:Int))
    (.leaf (.inr (.r0 (0:Int) e)))
    (.need (aL 0 b a)<|.need (aL 0 d c)<|.need (sd (rJ (aa 0 b a) (aa 0 d c)))<|.leaf (.inl (rm (rJ (aa 0 b a) (aa 0 d c)))))
def Vl(a:Int) :T ((Empty)⊕(ib)) :=
  .leaf (.inr (.r0 a 0))
def rK(a:List Int)(b:List Int) :Option ib:=kx (aN ((Vi a b).run) fun (c,d,e,f,g) =>
  aN ((Vk c d e f g).run) fun h =>
  (Vl h).run)
theorem Vm(c:Lv)(a:List Int)(d:Lv)(b:List Int){x:ib}(h:rK a b=some x) :ag prog DB [] [.imm c (.ns .u64 a) 1 1 0 (List.length a),.imm d (.ns .u64 b) 1 1 0 (List.length b)] (DM x) :=
  mf true DM MA h (Sg.cut 2 H8 (bi rn (Vh c d) [⟨[],[0,16],[2,3,6]⟩,⟨[],[0,16],[2,3,6]⟩,⟨[],[0,16],[2,3,6]⟩]) (fun ⟨g,i,j,k,l⟩=>Sg.cut 3 H8 (bi rn Vj [⟨[],[],[4,5]⟩,⟨[],[],[4,5]⟩]) (fun m=>bi rn lc [⟨[],[],[4,5]⟩])))
    (fun x=>by cases x with | r0 e f=>exact kN [.int .i64 e,.int .i64 ((f:Nat):Int)])
def se:Option ib→Bool
  | some _=>true
  | none=>false
def rp:Option ib→Int
  | some (.r0 x _)=>x
  | _=>0
def BW:Option ib→Nat
  | some (.r0 _ x)=>x
  | _=>0
theorem Vn{x:Option ib}(h:se x=true) :x=some (.r0 (rp x) (BW x)):=by
  unfold se at h
  split at h<;>first | rfl | (cases h;done) | (rename_i y;cases y;rfl)
def MB:aw:=bL DB (.cons (.ns .u64) (.cons (.ns .u64) .nil)) fun t=>(fun q=>[⟨DM (.r0 (rp q) (BW q)),[se q]⟩]) (rK t.1.2 t.2.1.2)
theorem On:aH prog MB:=aJ fun t=>(aK (fun h=>Vm t.1.1 t.1.2 t.2.1.1 t.2.1.2 (Vn h)) aT)
def MC:List aw:=MB::Mz
theorem vp:aF prog (aD MC):=ap On rn
inductive dS where
  | r0 (a:List Int)
  | r1 (b:Nat) (c:Nat) (d:Nat) (e:List Int)
def H9:dS→AE×aE
  | .r0 a=>(.ret,⟨ah 10 [(2,.nsl),(3,.int .i64 (3:Int))],[(0,.ns .u64 a)],1⟩)
  | .r1 b c d e=>(.ret,⟨ah 10 [(2,.sl 0 1 1 b c d),(3,.int .i64 (0:Int))],[(0,.ns .u64 e)],1⟩)
theorem RV:jK H9:=by intro x;cases x<;>(intro h;cases h)
def vq:dS→fJ
  | .r0 a=>⟨.tup [.nsl,.int .i64 (3:Int)],[some (.ns .u64 a)]⟩
  | .r1 b c d e=>⟨.tup [.sl 0 1 1 b c d,.int .i64 (0:Int)],[some (.ns .u64 e)]⟩
def RW:Nat×Nat×Nat×(List Int)→aE:=fun (a,b,c,d)=>⟨ah 10 [(0,.sl 0 1 1 a b c)],[(0,.ns .u64 d)],1⟩
def RX(a:List Int)(b:Nat)(c:Nat)(d:Nat) :T ((Nat×Nat×Nat×(List Int))⊕(dS)) :=
  .need (fv (aV a b c d))<|.leaf (.inl ((eX (aV a b c d)),(eY (aV a b c d)),(eZ (aV a b c d)),(fa (aV a b c d))))
def RY(c:Nat)(a:Nat)(d:Nat)(b:List Int) :T ((Empty)⊕(dS)) :=
  .ask (decide (((a:Nat):Int)>(4096:Int)))
    (.leaf (.inr (.r0 b)))
    (.leaf (.inr (.r1 c a d b)))
def em(a:List Int)(b:Nat)(c:Nat)(d:Nat) :Option dS:=kx (aN ((RX a b c d).run) fun (e,f,g,h) =>
  (RY e f g h).run)
theorem EJ(a:List Int)(b:Nat)(c:Nat)(d:Nat){x:dS}(h:em a b c d=some x) :ag prog sa [.ns .u64 a] [.sl 0 1 1 b c d] (vq x) :=
  mf false vq H9 h (Sg.cut 2 RV (bi vp RW [⟨[],[0],[0]⟩]) (fun ⟨i,j,k,l⟩=>bi vp lc [⟨[],[0],[2,3]⟩,⟨[],[0],[2,3]⟩]))
    (fun x=>by cases x with | r0 m=>exact kN [.nsl,.int .i64 (3:Int)] | r1 e f g n=>exact kN [.sl 0 1 1 e f g,.int .i64 (0:Int)])
def ql:Option dS→Bool
  | some (.r0 _)=>true
  | _=>false
def zr:Option dS→List Int
  | some (.r0 x)=>x
  | _=>[]
theorem RZ{x:Option dS}(h:ql x=true) :x=some (.r0 (zr x)):=by
  unfold ql at h
  split at h<;>first | rfl | (cases h;done) | (rename_i y;cases y;rfl)
def qm:Option dS→Bool
  | some (.r1 _ _ _ _)=>true
  | _=>false
def pG:Option dS→Nat
  | some (.r1 x _ _ _)=>x
  | _=>0
def pH:Option dS→Nat
  | some (.r1 _ x _ _)=>x
  | _=>0
def pI:Option dS→Nat
  | some (.r1 _ _ x _)=>x
  | _=>0
def pJ:Option dS→List Int
  | some (.r1 _ _ _ x)=>x
  | _=>[]
theorem R0{x:Option dS}(h:qm x=true) :x=some (.r1 (pG x) (pH x) (pI x) (pJ x)):=by
  unfold qm at h
  split at h<;>first | rfl | (cases h;done) | (rename_i y;cases y;rfl)
def Ia:aw:=Rq sa [.ns .u64] (.cons (.lsl 0) .nil) fun x t=>(fun q=>[⟨vq (.r0 (zr q)),[ql q]⟩,⟨vq (.r1 (pG q) (pH q) (pI q) (pJ q)),[qm q]⟩]) (em x.1 t.1.1 t.1.2.1 t.1.2.2)
theorem JY:aH prog Ia:=HL fun x t=>(yN (fun h=>EJ x.1 t.1.1 t.1.2.1 t.1.2.2 (RZ h)) (yN (fun h=>EJ x.1 t.1.1 t.1.2.1 t.1.2.2 (R0 h)) HM))
def Ib:List aw:=Ia::MC
theorem fY:aF prog (aD Ib):=ap JY vp
inductive dk where
  | r0 (a:Nat) (b:Nat) (c:Nat) (d:Nat) (e:List Int)
def yR:dk→AE×aE
  | .r0 a b c d e=>(.ret,⟨ah 62 [(4,.sl 0 1 1 a b c),(5,.int .i64 ((d:Nat):Int))],[(0,.ns .u64 e)],1⟩)
theorem mL:jK yR:=by intro x;cases x<;>(intro h;cases h)
theorem Vo(id:Nat) :oU id yR:=by intro x;cases x<;>(intro h;cases h)
def DN:dk→fJ
  | .r0 a b e c d=>⟨.tup [.imm .free (.ns .u64 d) 1 1 a b,.int .i64 ((c:Nat):Int)],[]⟩
def R1:List Code:=da (qj yK)
def Vp(a:Lv)(b:Lv) :Nat×(List Int)×Nat×(List Int)×Nat→aE:=fun (c,d,e,f,g)=>⟨ah 62 [(2,.ptr 0 1 0 0),(3,.ptr 1 1 0 0),(6,.int .i64 ((c:Nat):Int))],[(0,.vs [.imm a (.ns .u64 d) 1 1 0 e]),(1,.vs [.imm b (.ns .u64 f) 1 1 0 g])],2⟩
def R2(a : List Int)(b : List Int) : T ((Nat × (List Int) × Nat × (List Int) × Nat) ⊕ (dk)) :=
  .ask (decide ((0:Int)<(2:Int)))
    (.need (fI (0:Int) 2)<|.need (aL 0 (List.length a) a)<|.need (cM (ao (aa 0 (List.length a) a)))<|.ask (decide ((((az (ao (aa 0 (List.length a) a))):Nat):Int)>(4096:Int)))
      (.leaf (.inl (2,(aR (ao (aa 0 (List.length a) a))),(az (ao (aa 0 (List.length a) a))),b,(List.length b))))
      (.need (dZ .i64 (1:Int))<|.ask (decide ((1:Int)<(2:Int)))
        (.need (fI (1:Int) 2)<|.need (aL 0 (List.length b) b)<|.need (cM (ao (aa 0 (List.length b) b)))<|.ask (decide ((((az (ao (aa 0 (List.length b) b))):Nat):Int)>(4096:Int)))
          (.leaf (.inl (2,(aR (ao (aa 0 (List.length a) a))),(az (ao (aa 0 (List.length a) a))),(aR (ao (aa 0 (List.length b) b))),(az (ao (aa 0 (List.length b) b))))))
          (.need (dZ .i64 (2:Int))<|.ask (decide ((2:Int)<(2:Int)))
            (.fail)
            (.leaf (.inl (0,(aR (ao (aa 0 (List.length a) a))),(az (ao (aa 0 (List.length a) a))),(aR (ao (aa 0 (List.length b) b))),(az (ao (aa 0 (List.length b) b))))))))
        (.fail)))
    (.fail)
def Vq:(List Int)×Nat×(List Int)×Nat→aE:=fun (a,b,c,d)=>⟨ah 62 [(2,.ptr 0 1 0 0),(3,.ptr 1 1 0 0)],[(0,.vs [.imm .lent (.ns .u64 a) 1 1 0 b]),(1,.vs [.imm .lent (.ns .u64 c) 1 1 0 d])],2⟩
def R3(c:Nat)(d:List Int)(a:Nat)(e:List Int)(b:Nat) :T (((List Int)×Nat×(List Int)×Nat)⊕(dk)) :=
  .ask (((c:Nat):Int) != (0:Int))
    (.leaf (.inr (.r0 0 0 0 c ([]:List Int))))
    (.ask (decide (((a:Nat):Int)<((b:Nat):Int)))
      (.leaf (.inl (e,b,d,a)))
      (.leaf (.inl (d,a,e,b))))
def Vr(c:List Int)(a:Nat)(d:List Int)(e:Nat) :Nat×(List Int)→aE:=fun (b,f)=>⟨ah 62 [(2,.ptr 0 1 0 0),(3,.ptr 1 1 0 0),(7,.ptr 2 1 0 0),(8,.fn (.func sT) [] [.ptr 2 1 0 0]),(9,.sl 3 1 1 0 b b),(30,.int .i64 ((a:Nat):Int)),(31,.int .i64 (0:Int))],[(0,.vs [.imm .lent (.ns .u64 c) 1 1 0 a]),(1,.vs [.imm .lent (.ns .u64 d) 1 1 0 e]),(2,.vs [.int .u64 (0:Int)]),(3,.ns .u64 f)],4⟩
def R4(a:Nat) :T ((Nat×(List Int))⊕(dk)) :=
  .need (dZ .i64 (((a+1):Nat):Int))<|.need (decide ((0:Int)≤(((a+1):Nat):Int)))<|.need (decide ((((a+1):Nat):Int)≤(((a+1):Nat):Int)))<|.need (decide ((8:Int)*(((a+1):Nat):Int)≤140737488355328))<|.need (dZ .i64 (((a+1):Nat):Int))<|.leaf (.inl ((a+1),(List.replicate (a+1) (0:Int))))
def vt(c:List Int)(a:Nat)(d:List Int)(e:Nat)(b:Nat) :Nat×Nat×(List Int)→aE:=fun (f,g,h)=>⟨ah 62 [(2,.ptr 0 1 0 0),(3,.ptr 1 1 0 0),(7,.ptr 2 1 0 0),(8,.fn (.func sT) [] [.ptr 2 1 0 0]),(9,.sl 3 1 1 0 b b),(30,.int .i64 ((a:Nat):Int)),(31,.int .i64 ((f:Nat):Int))],[(0,.vs [.imm .lent (.ns .u64 c) 1 1 0 a]),(1,.vs [.imm .lent (.ns .u64 d) 1 1 0 e]),(2,.vs [.int .u64 ((g:Nat):Int)]),(3,.ns .u64 h)],4⟩
def Ic(b:List Int)(c:Nat)(a:Nat) :Nat×(List Int)→aE:=fun (d,e)=>⟨ah 62 [(2,.ptr 0 1 0 0),(7,.ptr 1 1 0 0),(9,.sl 2 1 1 0 a a)],[(0,.vs [.imm .lent (.ns .u64 b) 1 1 0 c]),(1,.vs [.int .u64 ((d:Nat):Int)]),(2,.ns .u64 e)],3⟩
def R5:List Code:=da (fH ((((((R1.drop 2).drop 4).drop 4).take 1)).headD .skip))
def Vs(c:List Int)(a:Nat)(d:List Int)(e:Nat)(b:Nat)(f:Nat) :Nat×(List Int)→aE:=fun (g,h)=>⟨ah 62 [(2,.ptr 0 1 0 0),(3,.ptr 1 1 0 0),(7,.ptr 2 1 0 0),(8,.fn (.func sT) [] [.ptr 2 1 0 0]),(9,.sl 3 1 1 0 b b),(30,.int .i64 ((a:Nat):Int)),(31,.int .i64 ((f:Nat):Int))],[(0,.vs [.imm .lent (.ns .u64 c) 1 1 0 a]),(1,.vs [.imm .lent (.ns .u64 d) 1 1 0 e]),(2,.vs [.int .u64 ((g:Nat):Int)]),(3,.ns .u64 h)],4⟩
def R6(c:List Int)(e:Nat)(f:List Int)(g:Nat)(h:Nat)(a:Nat)(b:Nat)(d:List Int) :T ((Nat×(List Int))⊕((Nat×(List Int))⊕(dk))) :=
  .ask (decide (((a:Nat):Int)<((e:Nat):Int)))
    (.ask (decide (((a:Nat):Int)<((g:Nat):Int)))
      (.need (fI ((a:Nat):Int) g)<|.need (gj a (List.length f))<|.need (fI ((a:Nat):Int) e)<|.need (gj a (List.length c))<|.need (mG b 1)<|.need (fI ((a:Nat):Int) h)<|.need (gj a (List.length d))<|.leaf (.inl ((((Int.toNat (List.getD c a 0))+(Int.toNat (List.getD f a 0))+b)/18446744073709551616),(List.set d a (((((Int.toNat (List.getD c a 0))+(Int.toNat (List.getD f a 0))+b)%18446744073709551616):Nat):Int)))))
      (.need (fI ((a:Nat):Int) e)<|.need (gj a (List.length c))<|.need (mG b 1)<|.need (fI ((a:Nat):Int) h)<|.need (gj a (List.length d))<|.leaf (.inl ((((Int.toNat (List.getD c a 0))+0+b)/18446744073709551616),(List.set d a (((((Int.toNat (List.getD c a 0))+0+b)%18446744073709551616):Nat):Int))))))
    (.leaf (.inr (.inl (b,d))))
def R7(a:Nat)(b:Nat)(c:List Int) :T ((Nat×Nat×(List Int))⊕((Nat×(List Int))⊕(dk))) :=
  .need (dZ .i64 (((a+1):Nat):Int))<|.leaf (.inl ((a+1),b,c))
def xJ(b:List Int)(c:Nat)(d:List Int)(e:Nat)(f:Nat) :Nat×Nat×(List Int)→Option ((Nat×Nat×(List Int))⊕((Nat×(List Int))⊕(dk))):=fun (a,g,h) =>
  aN ((R6 b c d e f a g h).run) fun (i,j) =>
  (R7 a i j).run
theorem R8(a:List Int)(b:Nat)(d:List Int)(e:Nat)(c:Nat)(f:Nat)(g:Nat)(h:List Int) :Sg prog [] R5 (vt a b d e c (f,g,h)) (xJ a b d e c (f,g,h)) (vt a b d e c) (dR 0 (Ic a b c) yR):=by
  unfold xJ;exact Sg.cut 3 (bc mL) (bi fY (Vs a b d e c f) [⟨[],[0,1,2,3],[2,3,7,8,9,30,31]⟩,⟨[],[0,1,2,3],[2,3,7,8,9,30,31]⟩,⟨[],[0,2,3],[2,7,9]⟩]) (fun ⟨i,j⟩=>bi fY (vt a b d e c) [⟨[],[0,1,2,3],[2,3,7,8,9,30,31]⟩])
def R9:Nat×Nat×Nat×Nat×(List Int)→aE:=fun (a,b,c,d,e)=>⟨ah 62 [(4,.sl 0 1 1 a b c),(5,.int .i64 ((d:Nat):Int))],[(0,.ns .u64 e)],1⟩
def Sa(b:Nat)(a:Nat)(d:Nat)(c:List Int) :T ((Nat×Nat×Nat×Nat×(List Int))⊕(dk)) :=
  .need (fI ((b:Nat):Int) a)<|.need (gj b (List.length c))<|.alt 0
    (.need (ql (em (List.set c b ((d:Nat):Int)) 0 a a))<|.leaf (.inl (0,0,0,3,([]:List Int))))
    (.alt 1
      (.need (qm (em (List.set c b ((d:Nat):Int)) 0 a a))<|.leaf (.inl ((pG (em (List.set c b ((d:Nat):Int)) 0 a a)),(pH (em (List.set c b ((d:Nat):Int)) 0 a a)),(pI (em (List.set c b ((d:Nat):Int)) 0 a a)),0,(pJ (em (List.set c b ((d:Nat):Int)) 0 a a)))))
      (.fail))
def Sb(a:Nat)(b:Nat)(c:Nat)(d:Nat)(e:List Int) :T ((Empty)⊕(dk)) :=
  .leaf (.inr (.r0 a b c d e))
def bj(c:List Int)(d:List Int) :Option dk:=kx (aN ((R2 c d).run) fun (e,f,g,h,i) =>
  aN ((R3 e f g h i).run) fun (j,a,k,l) =>
  aN ((R4 a).run) fun (b,m) =>
  aN (ej (xJ j a k l b) (0,0,m)) fun (n,o) =>
  aN ((Sa a b n o).run) fun (p,q,r,s,t) =>
  (Sb p q r s t).run)
theorem Vt(i:Lv)(c:List Int)(j:Lv)(d:List Int){x:dk}(h:bj c d=some x) :ag prog yK [] [.imm i (.ns .u64 c) 1 1 0 (List.length c),.imm j (.ns .u64 d) 1 1 0 (List.length d)] (DN x) :=
  mf true DN yR h (Sg.cut 2 mL (bi fY (Vp i j) [⟨[],[0,16],[2,3,6]⟩,⟨[],[0,16],[2,3,6]⟩,⟨[],[0,16],[2,3,6]⟩]) (fun ⟨r,s,t,u,v⟩=>Sg.cut 4 mL (bi fY Vq [⟨[(.slot 4,.own 1 1 (.ns .u64 ([]:List Int)))],[82],[4,5]⟩,⟨[(.cell 0 0,.low),(.cell 1 0,.low)],[0,1],[2,3]⟩,⟨[(.cell 0 0,.low),(.cell 1 0,.low)],[0,1],[2,3]⟩]) (fun ⟨a,b,e,f⟩=>Sg.cut 4 mL (bi fY (Vr a b e f) [⟨[],[0,1,2,114],[2,3,7,8,9,30,31]⟩]) (fun ⟨g,w⟩=>Sg.cut 1 mL (HQ ⟨[],[0,1,2,3],[2,3,7,8,9,30,31]⟩ (vt a b e f g) (Ic a b g) 0 mL (Vo _) (fun ⟨k,l,m⟩=>R8 a b e f g k l m)) (fun ⟨y,z⟩=>Sg.cut 2 mL (bi fY R9 [⟨[(.slot 4,.own 1 1 (.ns .u64 ([]:List Int)))],[195],[4,5]⟩,⟨[],[2],[4,5]⟩]) (fun ⟨A,B,C,D,E⟩=>bi fY lc [⟨[],[0],[4,5]⟩]))))))
    (fun x=>by cases x with | r0 n o p q F=>exact kN [.sl 0 1 1 n o p,.int .i64 ((q:Nat):Int)])
def vu:Option dk→Bool
  | some _=>true
  | none=>false
def fh:Option dk→Nat
  | some (.r0 x _ _ _ _)=>x
  | _=>0
def fi:Option dk→Nat
  | some (.r0 _ x _ _ _)=>x
  | _=>0
def BX:Option dk→Nat
  | some (.r0 _ _ x _ _)=>x
  | _=>0
def fQ:Option dk→Nat
  | some (.r0 _ _ _ x _)=>x
  | _=>0
def fj:Option dk→List Int
  | some (.r0 _ _ _ _ x)=>x
  | _=>[]
theorem Vu{x:Option dk}(h:vu x=true) :x=some (.r0 (fh x) (fi x) (BX x) (fQ x) (fj x)):=by
  unfold vu at h
  split at h<;>first | rfl | (cases h;done) | (rename_i y;cases y;rfl)
def MD:aw:=bL yK (.cons (.ns .u64) (.cons (.ns .u64) .nil)) fun t=>(fun q=>[⟨DN (.r0 (fh q) (fi q) (BX q) (fQ q) (fj q)),[vu q]⟩]) (bj t.1.2 t.2.1.2)
theorem Oo:aH prog MD:=aJ fun t=>(aK (fun h=>Vt t.1.1 t.1.2 t.2.1.1 t.2.1.2 (Vu h)) aT)
def ME:List aw:=MD::Ib
theorem kz:aF prog (aD ME):=ap Oo fY
inductive eJ where
  | r0 (a:Nat) (b:Nat) (c:Nat) (d:List Int)
def yS:eJ→AE×aE
  | .r0 a b c d=>(.ret,⟨ah 40 [(4,.sl 0 1 1 a b c)],[(0,.ns .u64 d)],1⟩)
theorem sf:jK yS:=by intro x;cases x<;>(intro h;cases h)
theorem Vv(id:Nat) :oU id yS:=by intro x;cases x<;>(intro h;cases h)
def DO:eJ→fJ
  | .r0 a b d c=>⟨.imm .free (.ns .u64 c) 1 1 a b,[]⟩
def Sc:List Code:=da (qj yM)
def Vw(d:Lv)(a:List Int)(e:Lv)(b:List Int) :Nat×(List Int)→aE:=fun (c,f)=>⟨ah 40 [(0,.imm d (.ns .u64 a) 1 1 0 (List.length a)),(1,.imm e (.ns .u64 b) 1 1 0 (List.length b)),(5,.sl 0 1 1 0 c c),(6,.int .u64 (0:Int)),(12,.int .i64 (((List.length a):Nat):Int)),(13,.int .i64 (0:Int))],[(0,.ns .u64 f)],1⟩
def Sd(a:List Int) :T ((Nat×(List Int))⊕(eJ)) :=
  .need (aL 0 (List.length a) a)<|.need (wM (List.length (aa 0 (List.length a) a)))<|.leaf (.inl ((List.length (aa 0 (List.length a) a)),(aa 0 (List.length a) a)))
def vv(d:Lv)(a:List Int)(e:Lv)(b:List Int)(c:Nat) :Int×Nat×(List Int)→aE:=fun (f,g,h)=>⟨ah 40 [(0,.imm d (.ns .u64 a) 1 1 0 (List.length a)),(1,.imm e (.ns .u64 b) 1 1 0 (List.length b)),(5,.sl 0 1 1 0 c c),(6,.int .u64 f),(12,.int .i64 (((List.length a):Nat):Int)),(13,.int .i64 ((g:Nat):Int))],[(0,.ns .u64 h)],1⟩
def Ie(a:Nat)(b:(List Int)) :aE:=⟨ah 40 [(5,.sl 0 1 1 0 a a)],[(0,.ns .u64 b)],1⟩
def Se:List Code:=da (fH ((((Sc.drop 4).take 1)).headD .skip))
def Vx(d:Lv)(a:List Int)(e:Lv)(b:List Int)(c:Nat)(f:Nat) :Int×(List Int)→aE:=fun (g,h)=>⟨ah 40 [(0,.imm d (.ns .u64 a) 1 1 0 (List.length a)),(1,.imm e (.ns .u64 b) 1 1 0 (List.length b)),(5,.sl 0 1 1 0 c c),(6,.int .u64 g),(12,.int .i64 (((List.length a):Nat):Int)),(13,.int .i64 ((f:Nat):Int))],[(0,.ns .u64 h)],1⟩
def Sh(b:List Int)(d:List Int)(f:Nat)(c:Int)(a:Nat)(e:List Int) :T ((Int×(List Int))⊕(((List Int))⊕(eJ))) :=
  .ask (decide (((a:Nat):Int)<(((List.length b):Nat):Int)))
    (.ask (decide (((a:Nat):Int)<(((List.length d):Nat):Int)))
      (.need (fI ((a:Nat):Int) (List.length d))<|.need (gj a (List.length d))<|.need (fI ((a:Nat):Int) (List.length b))<|.need (gj a (List.length b))<|.need (mG (Int.toNat c) 1)<|.need (fI ((a:Nat):Int) f)<|.need (gj a (List.length e))<|.leaf (.inl ((bif Nat.blt (Int.toNat (List.getD b a 0)) ((Int.toNat (List.getD d a 0))+(Int.toNat c)) then (1:Int) else (0:Int)),(List.set e a (((((Int.toNat (List.getD b a 0))+18446744073709551616-(Int.toNat (List.getD d a 0))-(Int.toNat c))%18446744073709551616):Nat):Int)))))
      (.need (fI ((a:Nat):Int) (List.length b))<|.need (gj a (List.length b))<|.need (mG (Int.toNat c) 1)<|.need (fI ((a:Nat):Int) f)<|.need (gj a (List.length e))<|.leaf (.inl ((bif Nat.blt (Int.toNat (List.getD b a 0)) (0+(Int.toNat c)) then (1:Int) else (0:Int)),(List.set e a (((((Int.toNat (List.getD b a 0))+18446744073709551616-0-(Int.toNat c))%18446744073709551616):Nat):Int))))))
    (.leaf (.inr (.inl e)))
def Si(a:Nat)(b:Int)(c:List Int) :T ((Int×Nat×(List Int))⊕(((List Int))⊕(eJ))) :=
  .need (dZ .i64 (((a+1):Nat):Int))<|.leaf (.inl (b,(a+1),c))
def xK(b:List Int)(c:List Int)(d:Nat) :Int×Nat×(List Int)→Option ((Int×Nat×(List Int))⊕(((List Int))⊕(eJ))):=fun (e,a,f) =>
  aN ((Sh b c d e a f).run) fun (g,h) =>
  (Si a g h).run
theorem Sj(d:Lv)(b:List Int)(e:Lv)(c:List Int)(a:Nat)(g:Int)(f:Nat)(h:List Int) :Sg prog [] Se (vv d b e c a (g,f,h)) (xK b c a (g,f,h)) (vv d b e c a) (dR 0 (Ie a) yS):=by
  unfold xK;exact Sg.cut 3 (bc sf) (bi kz (Vx d b e c a f) [⟨[],[0],[0,1,5,6,12,13]⟩,⟨[],[0],[0,1,5,6,12,13]⟩,⟨[],[0],[5]⟩]) (fun ⟨i,j⟩=>bi kz (vv d b e c a) [⟨[],[0],[0,1,5,6,12,13]⟩])
def Sk:Nat×Nat×Nat×(List Int)→aE:=fun (a,b,c,d)=>⟨ah 40 [(4,.sl 0 1 1 a b c)],[(0,.ns .u64 d)],1⟩
def Sl(a:Nat)(b:List Int) :T ((Nat×Nat×Nat×(List Int))⊕(eJ)) :=
  .need (fv (aV b 0 a a))<|.leaf (.inl ((eX (aV b 0 a a)),(eY (aV b 0 a a)),(eZ (aV b 0 a a)),(fa (aV b 0 a a))))
def Sn(a:Nat)(b:Nat)(c:Nat)(d:List Int) :T ((Empty)⊕(eJ)) :=
  .leaf (.inr (.r0 a b c d))
def rL(a:List Int)(c:List Int) :Option eJ:=kx (aN ((Sd a).run) fun (b,d) =>
  aN (ej (xK a c b) ((0:Int),0,d)) fun e =>
  aN ((Sl b e).run) fun (f,g,h,i) =>
  (Sn f g h i).run)
theorem Vy(c:Lv)(a:List Int)(d:Lv)(b:List Int){x:eJ}(h:rL a b=some x) :ag prog yM [] [.imm c (.ns .u64 a) 1 1 0 (List.length a),.imm d (.ns .u64 b) 1 1 0 (List.length b)] (DO x) :=
  mf true DO yS h (Sg.cut 4 sf (bi kz (Vw c a d b) [⟨[],[32],[0,1,5,6,12,13]⟩]) (fun ⟨e,m⟩=>Sg.cut 1 sf (HQ ⟨[],[0],[0,1,5,6,12,13]⟩ (vv c a d b e) (Ie e) 0 sf (Vv _) (fun ⟨f,g,i⟩=>Sj c a d b e f g i)) (fun n=>Sg.cut 1 sf (bi kz Sk [⟨[],[0],[4]⟩]) (fun ⟨o,p,q,r⟩=>bi kz lc [⟨[],[0],[4]⟩]))))
    (fun x=>by cases x with | r0 j k l s=>exact kN [.sl 0 1 1 j k l])
def vw:Option eJ→Bool
  | some _=>true
  | none=>false
def vx:Option eJ→Nat
  | some (.r0 x _ _ _)=>x
  | _=>0
def vy:Option eJ→Nat
  | some (.r0 _ x _ _)=>x
  | _=>0
def BY:Option eJ→Nat
  | some (.r0 _ _ x _)=>x
  | _=>0
def vz:Option eJ→List Int
  | some (.r0 _ _ _ x)=>x
  | _=>[]
theorem Vz{x:Option eJ}(h:vw x=true) :x=some (.r0 (vx x) (vy x) (BY x) (vz x)):=by
  unfold vw at h
  split at h<;>first | rfl | (cases h;done) | (rename_i y;cases y;rfl)
def MF:aw:=bL yM (.cons (.ns .u64) (.cons (.ns .u64) .nil)) fun t=>(fun q=>[⟨DO (.r0 (vx q) (vy q) (BY q) (vz q)),[vw q]⟩]) (rL t.1.2 t.2.1.2)
theorem Oq:aH prog MF:=aJ fun t=>(aK (fun h=>Vy t.1.1 t.1.2 t.2.1.1 t.2.1.2 (Vz h)) aT)
def MG:List aw:=MF::ME
theorem nL:aF prog (aD MG):=ap Oq kz
inductive fD where
  | r0 (a:List Int) (b:Nat) (c:Nat) (d:Nat)
def MH:fD→AE×aE
  | .r0 a b c d=>(.ret,⟨ah 20 [(4,.imm .free (.ns .u64 a) 1 1 b c),(5,.int .i64 ((d:Nat):Int))],[],0⟩)
theorem AH:jK MH:=by intro x;cases x<;>(intro h;cases h)
def DP:fD→fJ
  | .r0 a b c d=>⟨.tup [.imm .free (.ns .u64 a) 1 1 b c,.int .i64 ((d:Nat):Int)],[]⟩
def VA(a:Lv)(b:Lv) :Nat×(List Int)×Nat×(List Int)×Nat→aE:=fun (c,d,e,f,g)=>⟨ah 20 [(2,.ptr 0 1 0 0),(3,.ptr 1 1 0 0),(6,.int .i64 ((c:Nat):Int))],[(0,.vs [.imm a (.ns .u64 d) 1 1 0 e]),(1,.vs [.imm b (.ns .u64 f) 1 1 0 g])],2⟩
def VB(a : List Int)(b : List Int) : T ((Nat × (List Int) × Nat × (List Int) × Nat) ⊕ (fD)) :=
  .ask (decide ((0:Int)<(2:Int)))
    (.need (fI (0:Int) 2)<|.need (aL 0 (List.length a) a)<|.need (cM (ao (aa 0 (List.length a) a)))<|.ask (decide ((((az (ao (aa 0 (List.length a) a))):Nat):Int)>(4096:Int)))
      (.leaf (.inl (2,(aR (ao (aa 0 (List.length a) a))),(az (ao (aa 0 (List.length a) a))),b,(List.length b))))
      (.need (dZ .i64 (1:Int))<|.ask (decide ((1:Int)<(2:Int)))
        (.need (fI (1:Int) 2)<|.need (aL 0 (List.length b) b)<|.need (cM (ao (aa 0 (List.length b) b)))<|.ask (decide ((((az (ao (aa 0 (List.length b) b))):Nat):Int)>(4096:Int)))
          (.leaf (.inl (2,(aR (ao (aa 0 (List.length a) a))),(az (ao (aa 0 (List.length a) a))),(aR (ao (aa 0 (List.length b) b))),(az (ao (aa 0 (List.length b) b))))))
          (.need (dZ .i64 (2:Int))<|.ask (decide ((2:Int)<(2:Int)))
            (.fail)
            (.leaf (.inl (0,(aR (ao (aa 0 (List.length a) a))),(az (ao (aa 0 (List.length a) a))),(aR (ao (aa 0 (List.length b) b))),(az (ao (aa 0 (List.length b) b))))))))
        (.fail)))
    (.fail)
def VC(a:Lv)(b:Lv)(c:List Int)(d:Nat)(e:List Int)(f:Nat)(g:Bool) :aE:=⟨ah 20 [(2,.ptr 0 1 0 0),(3,.ptr 1 1 0 0),(16,.bool false g)],[(0,.vs [.imm a (.ns .u64 c) 1 1 0 d]),(1,.vs [.imm b (.ns .u64 e) 1 1 0 f])],2⟩
def VD(e:Nat)(a:List Int)(b:Nat)(c:List Int)(d:Nat) :T ((Bool)⊕(fD)) :=
  .ask (((e:Nat):Int) != (0:Int))
    (.leaf (.inl true))
    (.need (aL 0 b a)<|.need (aL 0 d c)<|.need (sd (rJ (aa 0 b a) (aa 0 d c)))<|.leaf (.inl (decide ((rm (rJ (aa 0 b a) (aa 0 d c)))<(0:Int)))))
def VE:(List Int)×Nat×Nat→aE:=fun (a,b,c)=>⟨ah 20 [(4,.imm .free (.ns .u64 a) 1 1 b c),(5,.int .i64 (0:Int))],[],0⟩
def VF(a:List Int)(b:Nat)(c:List Int)(d:Nat)(e:Bool) :T (((List Int)×Nat×Nat)⊕(fD)) :=
  .ask e
    (.leaf (.inr (.r0 ([]:List Int) 0 0 2)))
    (.need (aL 0 b a)<|.need (aL 0 d c)<|.need (vw (rL (aa 0 b a) (aa 0 d c)))<|.leaf (.inl ((vz (rL (aa 0 b a) (aa 0 d c))),(vx (rL (aa 0 b a) (aa 0 d c))),(vy (rL (aa 0 b a) (aa 0 d c))))))
def VG(a:List Int)(b:Nat)(c:Nat) :T ((Empty)⊕(fD)) :=
  .leaf (.inr (.r0 a b c 0))
def bb(e:List Int)(f:List Int) :Option fD:=kx (aN ((VB e f).run) fun (g,a,b,c,d) =>
  aN ((VD g a b c d).run) fun h =>
  aN ((VF a b c d h).run) fun (i,j,k) =>
  (VG i j k).run)
theorem VH(a:Lv)(b:List Int)(c:Lv)(d:List Int){x:fD}(h:bb b d=some x) :ag prog DG [] [.imm a (.ns .u64 b) 1 1 0 (List.length b),.imm c (.ns .u64 d) 1 1 0 (List.length d)] (DP x) :=
  mf true DP MH h (Sg.cut 2 AH (bi nL (VA a c) [⟨[],[0,16],[2,3,6]⟩,⟨[],[0,16],[2,3,6]⟩,⟨[],[0,16],[2,3,6]⟩]) (fun ⟨n,e,f,g,i⟩=>Sg.cut 1 AH (bi nL (VC a c e f g i) [⟨[],[0,1],[2,3,16]⟩,⟨[],[0,1],[2,3,16]⟩]) (fun o=>Sg.cut 2 AH (bi nL VE [⟨[(.slot 4,.fre 1 1 (.ns .u64 ([]:List Int)))],[],[4,5]⟩,⟨[],[],[4,5]⟩]) (fun ⟨p,q,r⟩=>bi nL lc [⟨[],[],[4,5]⟩]))))
    (fun x=>by cases x with | r0 j k l m=>exact kN [.imm .free (.ns .u64 j) 1 1 k l,.int .i64 ((m:Nat):Int)])
def sh:Option fD→Bool
  | some _=>true
  | none=>false
def en:Option fD→List Int
  | some (.r0 x _ _ _)=>x
  | _=>[]
def ep:Option fD→Nat
  | some (.r0 _ x _ _)=>x
  | _=>0
def er:Option fD→Nat
  | some (.r0 _ _ x _)=>x
  | _=>0
def fk:Option fD→Nat
  | some (.r0 _ _ _ x)=>x
  | _=>0
theorem VI{x:Option fD}(h:sh x=true) :x=some (.r0 (en x) (ep x) (er x) (fk x)):=by
  unfold sh at h
  split at h<;>first | rfl | (cases h;done) | (rename_i y;cases y;rfl)
def MI:aw:=bL DG (.cons (.ns .u64) (.cons (.ns .u64) .nil)) fun t=>(fun q=>[⟨DP (.r0 (en q) (ep q) (er q) (fk q)),[sh q]⟩]) (bb t.1.2 t.2.1.2)
theorem Ot:aH prog MI:=aJ fun t=>(aK (fun h=>VH t.1.1 t.1.2 t.2.1.1 t.2.1.2 (VI h)) aT)
def MJ:List aw:=MI::MG
theorem nM:aF prog (aD MJ):=ap Ot nL
inductive gk where
  | r0 (a:Int) (b:List Int)
def yT:gk→AE×aE
  | .r0 a b=>(.ret,⟨ah 52 [(6,.int .u64 a)],[(0,.ns .u64 b)],1⟩)
theorem vA:jK yT:=by intro x;cases x<;>(intro h;cases h)
theorem VJ(id:Nat) :oU id yT:=by intro x;cases x<;>(intro h;cases h)
def DQ:gk→fJ
  | .r0 a b=>⟨.int .u64 a,[some (.ns .u64 b)]⟩
def So:List Code:=da (qj yI)
def VK(b:List Int)(c:Nat)(d:Nat)(e:Nat)(f:Lv)(a:List Int)(g:Int)(_:Unit) :aE:=⟨ah 52 [(0,.sl 0 1 1 c d e),(1,.imm f (.ns .u64 a) 1 1 0 (List.length a)),(2,.int .u64 g),(7,.int .u64 (0:Int)),(13,.int .i64 (((List.length a):Nat):Int)),(14,.int .i64 (0:Int))],[(0,.ns .u64 b)],1⟩
def Sp:T ((Unit)⊕(gk)) :=
  .leaf (.inl ())
def vB(b:Nat)(c:Nat)(d:Nat)(e:Lv)(a:List Int)(f:Int) :Int×Nat×(List Int)→aE:=fun (g,h,i)=>⟨ah 52 [(0,.sl 0 1 1 b c d),(1,.imm e (.ns .u64 a) 1 1 0 (List.length a)),(2,.int .u64 f),(7,.int .u64 g),(13,.int .i64 (((List.length a):Nat):Int)),(14,.int .i64 ((h:Nat):Int))],[(0,.ns .u64 i)],1⟩
def If:Int×(List Int)→aE:=fun (a,b)=>⟨ah 52 [(7,.int .u64 a)],[(0,.ns .u64 b)],1⟩
def Sq:List Code:=da (fH ((((So.drop 3).take 1)).headD .skip))
def VL(b:Nat)(c:Nat)(d:Nat)(e:Lv)(a:List Int)(f:Int)(g:Nat) :Int×(List Int)→aE:=fun (h,i)=>⟨ah 52 [(0,.sl 0 1 1 b c d),(1,.imm e (.ns .u64 a) 1 1 0 (List.length a)),(2,.int .u64 f),(7,.int .u64 h),(13,.int .i64 (((List.length a):Nat):Int)),(14,.int .i64 ((g:Nat):Int))],[(0,.ns .u64 i)],1⟩
def Sr(d:Nat)(g:Nat)(b:List Int)(e:Int)(f:Int)(a:Nat)(c:List Int) :T ((Int×(List Int))⊕((Int×(List Int))⊕(gk))) :=
  .ask (decide (((a:Nat):Int)<(((List.length b):Nat):Int)))
    (.need (fI ((a:Nat):Int) (List.length b))<|.need (gj a (List.length b))<|.need (iC (ek (List.getD b a 0) e))<|.need (mG 0 1)<|.need (fI ((a:Nat):Int) g)<|.need (gj (eN d a) (List.length c))<|.need (mG 0 1)<|.need (fI ((a:Nat):Int) g)<|.need (gj (eN d a) (List.length c))<|.leaf (.inl ((IntKind.u64.wrap ((IntKind.u64.wrap ((jW (ek (List.getD b a 0) e))+(((((Int.toNat (fq (ek (List.getD b a 0) e)))+(Int.toNat f)+0)/18446744073709551616):Nat):Int)))+(((((Int.toNat (List.getD c (eN d a) 0))+(((Int.toNat (fq (ek (List.getD b a 0) e)))+(Int.toNat f)+0)%18446744073709551616)+0)/18446744073709551616):Nat):Int))),(List.set c (eN d a) (((((Int.toNat (List.getD c (eN d a) 0))+(((Int.toNat (fq (ek (List.getD b a 0) e)))+(Int.toNat f)+0)%18446744073709551616)+0)%18446744073709551616):Nat):Int)))))
    (.leaf (.inr (.inl (f,c))))
def Ss(a:Nat)(b:Int)(c:List Int) :T ((Int×Nat×(List Int))⊕((Int×(List Int))⊕(gk))) :=
  .need (dZ .i64 (((a+1):Nat):Int))<|.leaf (.inl (b,(a+1),c))
def xL(b:Nat)(c:Nat)(d:List Int)(e:Int) :Int×Nat×(List Int)→Option ((Int×Nat×(List Int))⊕((Int×(List Int))⊕(gk))):=fun (f,a,g) =>
  aN ((Sr b c d e f a g).run) fun (h,i) =>
  (Ss a h i).run
theorem St(j:List Int)(a:Nat)(b:Nat)(e:Nat)(f:Lv)(c:List Int)(d:Int)(h:Int)(g:Nat)(i:List Int) :Sg prog [.ns .u64 j] Sq (vB a b e f c d (h,g,i)) (xL a b c d (h,g,i)) (vB a b e f c d) (dR 0 If yT):=by
  unfold xL;exact Sg.cut 3 (bc vA) (bi nM (VL a b e f c d g) [⟨[],[0],[0,1,2,7,13,14]⟩,⟨[],[0],[7]⟩]) (fun ⟨k,l⟩=>bi nM (vB a b e f c d) [⟨[],[0],[0,1,2,7,13,14]⟩])
def Su(a:Int)(b:List Int) :T ((Empty)⊕(gk)) :=
  .leaf (.inr (.r0 a b))
def rM(a:List Int)(b:Nat)(c:Nat)(d:List Int)(e:Int) :Option gk:=kx (aN ((Sp).run) fun _ =>
  aN (ej (xL b c d e) ((0:Int),0,a)) fun (f,g) =>
  (Su f g).run)
theorem VM(e:List Int)(b:Nat)(c:Nat)(f:Nat)(g:Lv)(a:List Int)(d:Int){x:gk}(h:rM e b c a d=some x) :ag prog yI [.ns .u64 e] [.sl 0 1 1 b c f,.imm g (.ns .u64 a) 1 1 0 (List.length a),.int .u64 d] (DQ x) :=
  mf false DQ yT h (Sg.cut 3 vA (bi nM (VK e b c f g a d) [⟨[],[0],[0,1,2,7,13,14]⟩]) (fun _=>Sg.cut 1 vA (HQ ⟨[],[0],[0,1,2,7,13,14]⟩ (vB b c f g a d) (If) 0 vA (VJ _) (fun ⟨i,j,k⟩=>St e b c f g a d i j k)) (fun ⟨m,n⟩=>bi nM lc [⟨[],[0],[6]⟩])))
    (fun x=>by cases x with | r0 l o=>exact kN [.int .u64 l])
def vC:Option gk→Bool
  | some _=>true
  | none=>false
def vD:Option gk→Int
  | some (.r0 x _)=>x
  | _=>0
def rq:Option gk→List Int
  | some (.r0 _ x)=>x
  | _=>[]
theorem VN{x:Option gk}(h:vC x=true) :x=some (.r0 (vD x) (rq x)):=by
  unfold vC at h
  split at h<;>first | rfl | (cases h;done) | (rename_i y;cases y;rfl)
def MK:aw:=Rq yI [.ns .u64] (.cons (.lsl 0) (.cons (.ns .u64) (.cons (.int .u64) .nil))) fun x t=>(fun q=>[⟨DQ (.r0 (vD q) (rq q)),[vC q]⟩]) (rM x.1 t.1.1 t.1.2.1 t.2.1.2 t.2.2.1)
theorem Ou:aH prog MK:=HL fun x t=>(yN (fun h=>VM x.1 t.1.1 t.1.2.1 t.1.2.2 t.2.1.1 t.2.1.2 t.2.2.1 (VN h)) HM)
def ML:List aw:=MK::MJ
theorem gO:aF prog (aD ML):=ap Ou nM
inductive dl where
  | r0 (a:Nat) (b:Nat) (c:Nat) (d:Nat) (e:List Int)
def yU:dl→AE×aE
  | .r0 a b c d e=>(.ret,⟨ah 61 [(4,.sl 0 1 1 a b c),(5,.int .i64 ((d:Nat):Int))],[(0,.ns .u64 e)],1⟩)
theorem mM:jK yU:=by intro x;cases x<;>(intro h;cases h)
theorem VO(id:Nat) :oU id yU:=by intro x;cases x<;>(intro h;cases h)
def DR:dl→fJ
  | .r0 a b e c d=>⟨.tup [.imm .free (.ns .u64 d) 1 1 a b,.int .i64 ((c:Nat):Int)],[]⟩
def Sv:List Code:=da (qj yH)
def VP(a:Lv)(b:Lv) :Nat×(List Int)×Nat×(List Int)×Nat→aE:=fun (c,d,e,f,g)=>⟨ah 61 [(2,.ptr 0 1 0 0),(3,.ptr 1 1 0 0),(6,.int .i64 ((c:Nat):Int))],[(0,.vs [.imm a (.ns .u64 d) 1 1 0 e]),(1,.vs [.imm b (.ns .u64 f) 1 1 0 g])],2⟩
def Sw(a : List Int)(b : List Int) : T ((Nat × (List Int) × Nat × (List Int) × Nat) ⊕ (dl)) :=
  .ask (decide ((0:Int)<(2:Int)))
    (.need (fI (0:Int) 2)<|.need (aL 0 (List.length a) a)<|.need (cM (ao (aa 0 (List.length a) a)))<|.ask (decide ((((az (ao (aa 0 (List.length a) a))):Nat):Int)>(4096:Int)))
      (.leaf (.inl (2,(aR (ao (aa 0 (List.length a) a))),(az (ao (aa 0 (List.length a) a))),b,(List.length b))))
      (.need (dZ .i64 (1:Int))<|.ask (decide ((1:Int)<(2:Int)))
        (.need (fI (1:Int) 2)<|.need (aL 0 (List.length b) b)<|.need (cM (ao (aa 0 (List.length b) b)))<|.ask (decide ((((az (ao (aa 0 (List.length b) b))):Nat):Int)>(4096:Int)))
          (.leaf (.inl (2,(aR (ao (aa 0 (List.length a) a))),(az (ao (aa 0 (List.length a) a))),(aR (ao (aa 0 (List.length b) b))),(az (ao (aa 0 (List.length b) b))))))
          (.need (dZ .i64 (2:Int))<|.ask (decide ((2:Int)<(2:Int)))
            (.fail)
            (.leaf (.inl (0,(aR (ao (aa 0 (List.length a) a))),(az (ao (aa 0 (List.length a) a))),(aR (ao (aa 0 (List.length b) b))),(az (ao (aa 0 (List.length b) b))))))))
        (.fail)))
    (.fail)
def VQ(a:Lv)(b:Lv)(c:List Int)(d:Nat)(e:List Int)(f:Nat)(g:Bool) :aE:=⟨ah 61 [(2,.ptr 0 1 0 0),(3,.ptr 1 1 0 0),(29,.bool false g)],[(0,.vs [.imm a (.ns .u64 c) 1 1 0 d]),(1,.vs [.imm b (.ns .u64 e) 1 1 0 f])],2⟩
def Sx(c:Nat)(a:Nat)(b:Nat) :T ((Bool)⊕(dl)) :=
  .ask (((c:Nat):Int) != (0:Int))
    (.leaf (.inr (.r0 0 0 0 c ([]:List Int))))
    (.need (dZ .i64 (((a+b):Nat):Int))<|.ask (decide ((((a+b):Nat):Int)>(4097:Int)))
      (.ask (decide (((a:Nat):Int)>(0:Int)))
        (.leaf (.inl (decide (((b:Nat):Int)>(0:Int)))))
        (.leaf (.inl false)))
      (.leaf (.inl false)))
def VS(c:Lv)(d:Lv)(e:List Int)(f:Nat)(g:List Int)(a:Nat) :Nat×(List Int)→aE:=fun (b,h)=>⟨ah 61 [(2,.ptr 0 1 0 0),(3,.ptr 1 1 0 0),(7,.sl 2 1 1 0 b b),(37,.int .i64 ((a:Nat):Int)),(38,.int .i64 (0:Int))],[(0,.vs [.imm c (.ns .u64 e) 1 1 0 f]),(1,.vs [.imm d (.ns .u64 g) 1 1 0 a]),(2,.ns .u64 h)],3⟩
def Sy(a:Nat)(b:Nat)(c:Bool) :T ((Nat×(List Int))⊕(dl)) :=
  .ask c
    (.leaf (.inr (.r0 0 0 0 3 ([]:List Int))))
    (.need (dZ .i64 (((a+b):Nat):Int))<|.need (decide ((0:Int)≤(((a+b):Nat):Int)))<|.need (decide ((((a+b):Nat):Int)≤(((a+b):Nat):Int)))<|.need (decide ((8:Int)*(((a+b):Nat):Int)≤140737488355328))<|.need (dZ .i64 (((a+b):Nat):Int))<|.leaf (.inl ((a+b),(List.replicate (a+b) (0:Int)))))
def vE(c:Lv)(d:Lv)(e:List Int)(f:Nat)(g:List Int)(a:Nat)(b:Nat) :Nat×(List Int)→aE:=fun (h,i)=>⟨ah 61 [(2,.ptr 0 1 0 0),(3,.ptr 1 1 0 0),(7,.sl 2 1 1 0 b b),(37,.int .i64 ((a:Nat):Int)),(38,.int .i64 ((h:Nat):Int))],[(0,.vs [.imm c (.ns .u64 e) 1 1 0 f]),(1,.vs [.imm d (.ns .u64 g) 1 1 0 a]),(2,.ns .u64 i)],3⟩
def Ig(a:Nat)(b:(List Int)) :aE:=⟨ah 61 [(7,.sl 0 1 1 0 a a)],[(0,.ns .u64 b)],1⟩
def Sz:List Code:=da (fH ((((((Sv.drop 2).drop 3).drop 3).take 1)).headD .skip))
def VT(c:Lv)(d:Lv)(e:List Int)(f:Nat)(g:List Int)(a:Nat)(b:Nat)(h:Nat)(i:(List Int)) :aE:=⟨ah 61 [(2,.ptr 0 1 0 0),(3,.ptr 1 1 0 0),(7,.sl 2 1 1 0 b b),(37,.int .i64 ((a:Nat):Int)),(38,.int .i64 ((h:Nat):Int))],[(0,.vs [.imm c (.ns .u64 e) 1 1 0 f]),(1,.vs [.imm d (.ns .u64 g) 1 1 0 a]),(2,.ns .u64 i)],3⟩
def SA(d:List Int)(b:Nat)(e:List Int)(g:Nat)(c:Nat)(a:Nat)(f:List Int) :T (((List Int))⊕(((List Int))⊕(dl))) :=
  .ask (decide (((a:Nat):Int)<((g:Nat):Int)))
    (.need (dZ .i64 (((a+b):Nat):Int))<|.need (uE ((c:Nat):Int) c)<|.need (uE ((a:Nat):Int) c)<|.need (fI ((a:Nat):Int) g)<|.need (gj a (List.length e))<|.need (aL 0 b d)<|.need (vC (rM f a (c-a) (aa 0 b d) (List.getD e a 0)))<|.need (fI (((a+b):Nat):Int) c)<|.need (gj (a+b) (List.length (rq (rM f a (c-a) (aa 0 b d) (List.getD e a 0)))))<|.leaf (.inl (List.set (rq (rM f a (c-a) (aa 0 b d) (List.getD e a 0))) (a+b) (vD (rM f a (c-a) (aa 0 b d) (List.getD e a 0))))))
    (.leaf (.inr (.inl f)))
def SB(a:Nat)(b:List Int) :T ((Nat×(List Int))⊕(((List Int))⊕(dl))) :=
  .need (dZ .i64 (((a+1):Nat):Int))<|.leaf (.inl ((a+1),b))
def xM(b:List Int)(c:Nat)(d:List Int)(e:Nat)(f:Nat) :Nat×(List Int)→Option ((Nat×(List Int))⊕(((List Int))⊕(dl))):=fun (a,g) =>
  aN ((SA b c d e f a g).run) fun h =>
  (SB a h).run
theorem SC(f:Lv)(g:Lv)(b:List Int)(c:Nat)(d:List Int)(e:Nat)(a:Nat)(h:Nat)(i:List Int) :Sg prog [] Sz (vE f g b c d e a (h,i)) (xM b c d e a (h,i)) (vE f g b c d e a) (dR 0 (Ig a) yU):=by
  unfold xM;exact Sg.cut 3 (bc mM) (bi gO (VT f g b c d e a h) [⟨[],[0,1,2],[2,3,7,37,38]⟩,⟨[],[2],[7]⟩]) (fun j=>bi gO (vE f g b c d e a) [⟨[],[0,1,2],[2,3,7,37,38]⟩])
def SD:Nat×Nat×Nat×Nat×(List Int)→aE:=fun (a,b,c,d,e)=>⟨ah 61 [(4,.sl 0 1 1 a b c),(5,.int .i64 ((d:Nat):Int))],[(0,.ns .u64 e)],1⟩
def SE(a:Nat)(b:List Int) :T ((Nat×Nat×Nat×Nat×(List Int))⊕(dl)) :=
  .alt 0
    (.need (ql (em b 0 a a))<|.leaf (.inl (0,0,0,3,([]:List Int))))
    (.alt 1
      (.need (qm (em b 0 a a))<|.leaf (.inl ((pG (em b 0 a a)),(pH (em b 0 a a)),(pI (em b 0 a a)),0,(pJ (em b 0 a a)))))
      (.fail))
def SF(a:Nat)(b:Nat)(c:Nat)(d:Nat)(e:List Int) :T ((Empty)⊕(dl)) :=
  .leaf (.inr (.r0 a b c d e))
def oX(d:List Int)(e:List Int) :Option dl:=kx (aN ((Sw d e).run) fun (f,g,a,h,b) =>
  aN ((Sx f a b).run) fun i =>
  aN ((Sy a b i).run) fun (c,j) =>
  aN (ej (xM g a h b c) (0,j)) fun k =>
  aN ((SE c k).run) fun (l,m,n,o,p) =>
  (SF l m n o p).run)
theorem VU(a:Lv)(g:List Int)(b:Lv)(i:List Int){x:dl}(h:oX g i=some x) :ag prog yH [] [.imm a (.ns .u64 g) 1 1 0 (List.length g),.imm b (.ns .u64 i) 1 1 0 (List.length i)] (DR x) :=
  mf true DR yU h (Sg.cut 2 mM (bi gO (VP a b) [⟨[],[0,16],[2,3,6]⟩,⟨[],[0,16],[2,3,6]⟩,⟨[],[0,16],[2,3,6]⟩]) (fun ⟨q,c,d,e,f⟩=>Sg.cut 3 mM (bi gO (VQ a b c d e f) [⟨[(.slot 4,.own 1 1 (.ns .u64 ([]:List Int)))],[82],[4,5]⟩,⟨[],[0,1],[2,3,29]⟩,⟨[],[0,1],[2,3,29]⟩,⟨[],[0,1],[2,3,29]⟩]) (fun r=>Sg.cut 3 mM (bi gO (VS a b c d e f) [⟨[(.slot 4,.own 1 1 (.ns .u64 ([]:List Int)))],[34],[4,5]⟩,⟨[],[0,1,82],[2,3,7,37,38]⟩]) (fun ⟨j,s⟩=>Sg.cut 1 mM (HQ ⟨[],[0,1,2],[2,3,7,37,38]⟩ (vE a b c d e f j) (Ig j) 0 mM (VO _) (fun ⟨k,l⟩=>SC a b c d e f j k l)) (fun t=>Sg.cut 1 mM (bi gO SD [⟨[(.slot 4,.own 1 1 (.ns .u64 ([]:List Int)))],[97],[4,5]⟩,⟨[],[0],[4,5]⟩]) (fun ⟨u,v,w,y,z⟩=>bi gO lc [⟨[],[0],[4,5]⟩]))))))
    (fun x=>by cases x with | r0 m n o p A=>exact kN [.sl 0 1 1 m n o,.int .i64 ((p:Nat):Int)])
def vF:Option dl→Bool
  | some _=>true
  | none=>false
def vG:Option dl→Nat
  | some (.r0 x _ _ _ _)=>x
  | _=>0
def vH:Option dl→Nat
  | some (.r0 _ x _ _ _)=>x
  | _=>0
def BZ:Option dl→Nat
  | some (.r0 _ _ x _ _)=>x
  | _=>0
def vI:Option dl→Nat
  | some (.r0 _ _ _ x _)=>x
  | _=>0
def vJ:Option dl→List Int
  | some (.r0 _ _ _ _ x)=>x
  | _=>[]
theorem VV{x:Option dl}(h:vF x=true) :x=some (.r0 (vG x) (vH x) (BZ x) (vI x) (vJ x)):=by
  unfold vF at h
  split at h<;>first | rfl | (cases h;done) | (rename_i y;cases y;rfl)
def MM:aw:=bL yH (.cons (.ns .u64) (.cons (.ns .u64) .nil)) fun t=>(fun q=>[⟨DR (.r0 (vG q) (vH q) (BZ q) (vI q) (vJ q)),[vF q]⟩]) (oX t.1.2 t.2.1.2)
theorem Ov:aH prog MM:=aJ fun t=>(aK (fun h=>VU t.1.1 t.1.2 t.2.1.1 t.2.1.2 (VV h)) aT)
def MN:List aw:=MM::ML
theorem kA:aF prog (aD MN):=ap Ov gO
inductive eK where
  | r0 (a:Nat) (b:Nat) (c:Nat) (d:List Int)
def yV:eK→AE×aE
  | .r0 a b c d=>(.ret,⟨ah 59 [(4,.sl 0 1 1 a b c)],[(0,.ns .u64 d)],1⟩)
theorem si:jK yV:=by intro x;cases x<;>(intro h;cases h)
theorem VW(id:Nat) :oU id yV:=by intro x;cases x<;>(intro h;cases h)
def DS:eK→fJ
  | .r0 a b d c=>⟨.imm .free (.ns .u64 c) 1 1 a b,[]⟩
def VX:List Code:=da (qj yL)
def VY(c:Lv)(a:List Int) :Int×Int×Nat×(List Int)→aE:=fun (d,r2,b,e)=>⟨ah 59 [(0,.imm c (.ns .u64 a) 1 1 0 (List.length a)),(5,.int .i64 d),(6,.int .u64 r2),(7,.sl 0 1 1 0 b b),(24,.int .i64 (((List.length a):Nat):Int)),(25,.int .i64 (0:Int))],[(0,.ns .u64 e)],1⟩
def SG(b:List Int)(a:Int) :T ((Int×Int×Nat×(List Int))⊕(eK)) :=
  .ask ((((List.length b):Nat):Int)==(0:Int))
    (.leaf (.inr (.r0 0 0 0 ([]:List Int))))
    (.need ((64:Int) != (0:Int))<|.need (dZ .i64 (Int.tdiv a (64:Int)))<|.need ((64:Int) != (0:Int))<|.need (dZ .i64 ((((List.length b):Nat):Int)+(Int.tdiv a (64:Int))))<|.need (dZ .i64 (((((List.length b):Nat):Int)+(Int.tdiv a (64:Int)))+(1:Int)))<|.need (decide ((0:Int)≤(((((List.length b):Nat):Int)+(Int.tdiv a (64:Int)))+(1:Int))))<|.need (decide ((((((List.length b):Nat):Int)+(Int.tdiv a (64:Int)))+(1:Int))≤(((((List.length b):Nat):Int)+(Int.tdiv a (64:Int)))+(1:Int))))<|.need (decide ((8:Int)*(((((List.length b):Nat):Int)+(Int.tdiv a (64:Int)))+(1:Int))≤140737488355328))<|.need (dZ .i64 (((((List.length b):Nat):Int)+(Int.tdiv a (64:Int)))+(1:Int)))<|.leaf (.inl ((Int.tdiv a (64:Int)),(IntKind.u64.wrap (Int.tmod a (64:Int))),(Int.toNat (((((List.length b):Nat):Int)+(Int.tdiv a (64:Int)))+(1:Int))),(List.replicate (Int.toNat (((((List.length b):Nat):Int)+(Int.tdiv a (64:Int)))+(1:Int))) (0:Int)))))
def vK(c:Lv)(a:List Int)(d:Int)(r2:Int)(b:Nat) :Nat×(List Int)→aE:=fun (e,f)=>⟨ah 59 [(0,.imm c (.ns .u64 a) 1 1 0 (List.length a)),(5,.int .i64 d),(6,.int .u64 r2),(7,.sl 0 1 1 0 b b),(24,.int .i64 (((List.length a):Nat):Int)),(25,.int .i64 ((e:Nat):Int))],[(0,.ns .u64 f)],1⟩
def Ih(a:Nat)(b:(List Int)) :aE:=⟨ah 59 [(7,.sl 0 1 1 0 a a)],[(0,.ns .u64 b)],1⟩
def SH:List Code:=da (fH ((((VX.drop 6).take 1)).headD .skip))
def VZ(c:Lv)(a:List Int)(d:Int)(r2:Int)(b:Nat)(e:Nat)(f:(List Int)) :aE:=⟨ah 59 [(0,.imm c (.ns .u64 a) 1 1 0 (List.length a)),(5,.int .i64 d),(6,.int .u64 r2),(7,.sl 0 1 1 0 b b),(24,.int .i64 (((List.length a):Nat):Int)),(25,.int .i64 ((e:Nat):Int))],[(0,.ns .u64 f)],1⟩
def SI(c:List Int)(b:Int)(r2:Int)(e:Nat)(a:Nat)(d:List Int) :T (((List Int))⊕(((List Int))⊕(eK))) :=
  .ask (decide (((a:Nat):Int)<(((List.length c):Nat):Int)))
    (.need (dZ .i64 (((a:Nat):Int)+b))<|.need (fI (((a:Nat):Int)+b) e)<|.need (gj (Int.toNat (((a:Nat):Int)+b)) (List.length d))<|.need (fI ((a:Nat):Int) (List.length c))<|.need (gj a (List.length c))<|.need (decide ((0:Int)≤r2))<|.need (fI (((a:Nat):Int)+b) e)<|.need (gj (Int.toNat (((a:Nat):Int)+b)) (List.length d))<|.need (dZ .i64 (((a:Nat):Int)+b))<|.need (dZ .i64 ((((a:Nat):Int)+b)+(1:Int)))<|.need (fI ((a:Nat):Int) (List.length c))<|.need (gj a (List.length c))<|.need (decide ((0:Int)≤(1:Int)))<|.need (decide ((0:Int)≤(IntKind.u64.wrap ((63:Int)-r2))))<|.need (fI ((((a:Nat):Int)+b)+(1:Int)) e)<|.need (gj (Int.toNat ((((a:Nat):Int)+b)+(1:Int))) (List.length (List.set d (Int.toNat (((a:Nat):Int)+b)) (cG .or .u64 (List.getD d (Int.toNat (((a:Nat):Int)+b)) 0) (IntKind.u64.wrap ((List.getD c a 0)*2^(min (Int.toNat r2) (IntKind.u64.bits))))))))<|.leaf (.inl (List.set (List.set d (Int.toNat (((a:Nat):Int)+b)) (cG .or .u64 (List.getD d (Int.toNat (((a:Nat):Int)+b)) 0) (IntKind.u64.wrap ((List.getD c a 0)*2^(min (Int.toNat r2) (IntKind.u64.bits)))))) (Int.toNat ((((a:Nat):Int)+b)+(1:Int))) (Int.fdiv (Int.fdiv (List.getD c a 0) (2^(min (Int.toNat (1:Int)) (IntKind.u64.bits)))) (2^(min (Int.toNat (IntKind.u64.wrap ((63:Int)-r2))) (IntKind.u64.bits)))))))
    (.leaf (.inr (.inl d)))
def SJ(a:Nat)(b:List Int) :T ((Nat×(List Int))⊕(((List Int))⊕(eK))) :=
  .need (dZ .i64 (((a+1):Nat):Int))<|.leaf (.inl ((a+1),b))
def xN(b:List Int)(c:Int)(r2:Int)(d:Nat) :Nat×(List Int)→Option ((Nat×(List Int))⊕(((List Int))⊕(eK))):=fun (a,e) =>
  aN ((SI b c r2 d a e).run) fun f =>
  (SJ a f).run
theorem SK(d:Lv)(b:List Int)(c:Int)(r2:Int)(a:Nat)(e:Nat)(f:List Int) :Sg prog [] SH (vK d b c r2 a (e,f)) (xN b c r2 a (e,f)) (vK d b c r2 a) (dR 0 (Ih a) yV):=by
  unfold xN;exact Sg.cut 3 (bc si) (bi kA (VZ d b c r2 a e) [⟨[],[0],[0,5,6,7,24,25]⟩,⟨[],[0],[7]⟩]) (fun g=>bi kA (vK d b c r2 a) [⟨[],[0],[0,5,6,7,24,25]⟩])
def V0:Nat×Nat×Nat×(List Int)→aE:=fun (a,b,c,d)=>⟨ah 59 [(4,.sl 0 1 1 a b c)],[(0,.ns .u64 d)],1⟩
def SL(a:Nat)(b:List Int) :T ((Nat×Nat×Nat×(List Int))⊕(eK)) :=
  .need (fv (aV b 0 a a))<|.leaf (.inl ((eX (aV b 0 a a)),(eY (aV b 0 a a)),(eZ (aV b 0 a a)),(fa (aV b 0 a a))))
def SM(a:Nat)(b:Nat)(c:Nat)(d:List Int) :T ((Empty)⊕(eK)) :=
  .leaf (.inr (.r0 a b c d))
def dB(a:List Int)(c:Int) :Option eK:=kx (aN ((SG a c).run) fun (d,r2,b,e) =>
  aN (ej (xN a d r2 b) (0,e)) fun f =>
  aN ((SL b f).run) fun (g,h,i,j) =>
  (SM g h i j).run)
theorem V1(b:Lv)(a:List Int)(d:Int){x:eK}(h:dB a d=some x) :ag prog yL [] [.imm b (.ns .u64 a) 1 1 0 (List.length a),.int .i64 d] (DS x) :=
  mf true DS yV h (Sg.cut 6 si (bi kA (VY b a) [⟨[(.slot 4,.own 1 1 (.ns .u64 ([]:List Int)))],[80],[4]⟩,⟨[],[256],[0,5,6,7,24,25]⟩]) (fun ⟨e,r2,c,l⟩=>Sg.cut 1 si (HQ ⟨[],[0],[0,5,6,7,24,25]⟩ (vK b a e r2 c) (Ih c) 0 si (VW _) (fun ⟨f,g⟩=>SK b a e r2 c f g)) (fun m=>Sg.cut 1 si (bi kA V0 [⟨[],[0],[4]⟩]) (fun ⟨n,o,p,q⟩=>bi kA lc [⟨[],[0],[4]⟩]))))
    (fun x=>by cases x with | r0 i j k r=>exact kN [.sl 0 1 1 i j k])
def vL:Option eK→Bool
  | some _=>true
  | none=>false
def iD:Option eK→Nat
  | some (.r0 x _ _ _)=>x
  | _=>0
def iE:Option eK→Nat
  | some (.r0 _ x _ _)=>x
  | _=>0
def B1:Option eK→Nat
  | some (.r0 _ _ x _)=>x
  | _=>0
def iF:Option eK→List Int
  | some (.r0 _ _ _ x)=>x
  | _=>[]
theorem V2{x:Option eK}(h:vL x=true) :x=some (.r0 (iD x) (iE x) (B1 x) (iF x)):=by
  unfold vL at h
  split at h<;>first | rfl | (cases h;done) | (rename_i y;cases y;rfl)
def MO:aw:=bL yL (.cons (.ns .u64) (.cons (.int .i64) .nil)) fun t=>(fun q=>[⟨DS (.r0 (iD q) (iE q) (B1 q) (iF q)),[vL q]⟩]) (dB t.1.2 t.2.1)
theorem Ow:aH prog MO:=aJ fun t=>(aK (fun h=>V1 t.1.1 t.1.2 t.2.1 (V2 h)) aT)
def MP:List aw:=MO::MN
theorem vM:aF prog (aD MP):=ap Ow kA
inductive dE where
  | r0 (a:List Int) (b:Nat) (c:Nat)
def zt(a:Lv) :dE→AE×aE
  | .r0 b c d=>(.ret,⟨ah 10 [(2,.imm a (.ns .u64 b) 1 1 0 c),(3,.int .i64 ((d:Nat):Int))],[],0⟩)
theorem Ii{a:Lv} :jK (zt a):=by intro x;cases x<;>(intro h;cases h)
def tR(a:Lv) :dE→fJ
  | .r0 b c d=>⟨.tup [.imm a (.ns .u64 b) 1 1 0 c,.int .i64 ((d:Nat):Int)],[]⟩
def Ij(a:Lv) :(List Int)×Nat→aE:=fun (b,c)=>⟨ah 10 [(0,.imm a (.ns .u64 b) 1 1 0 c)],[],0⟩
def Ik(a:List Int) :T (((List Int)×Nat)⊕(dE)) :=
  .need (aL 0 (List.length a) a)<|.need (cM (ao (aa 0 (List.length a) a)))<|.leaf (.inl ((aR (ao (aa 0 (List.length a) a))),(az (ao (aa 0 (List.length a) a)))))
def Il(b:List Int)(a:Nat) :T ((Empty)⊕(dE)) :=
  .ask (decide (((a:Nat):Int)>(4096:Int)))
    (.leaf (.inr (.r0 ([]:List Int) 0 3)))
    (.leaf (.inr (.r0 b a 0)))
def jE(a:List Int) :Option dE:=kx (aN ((Ik a).run) fun (b,c) =>
  (Il b c).run)
theorem Im(a:Lv)(b:List Int){x:dE}(h:jE b=some x) :ag prog sa [] [.imm a (.ns .u64 b) 1 1 0 (List.length b)] (tR a x) :=
  mf false (tR a) (zt a) h (Sg.cut 2 Ii (bi vM (Ij a) [⟨[],[],[0]⟩]) (fun ⟨f,g⟩=>bi vM lc [⟨[(.slot 2,.fre 1 1 (.ns .u64 ([]:List Int))),(.slot 2,.lev a)],[],[2,3]⟩,⟨[],[],[2,3]⟩]))
    (fun x=>by cases x with | r0 c d e=>exact kN [.imm a (.ns .u64 c) 1 1 0 d,.int .i64 ((e:Nat):Int)])
def nN:Option dE→Bool
  | some _=>true
  | none=>false
def oY:Option dE→List Int
  | some (.r0 x _ _)=>x
  | _=>[]
def oZ:Option dE→Nat
  | some (.r0 _ x _)=>x
  | _=>0
def pa:Option dE→Nat
  | some (.r0 _ _ x)=>x
  | _=>0
theorem In{x:Option dE}(h:nN x=true) :x=some (.r0 (oY x) (oZ x) (pa x)):=by
  unfold nN at h
  split at h<;>first | rfl | (cases h;done) | (rename_i y;cases y;rfl)
def zu:aw:=bL sa (.cons (.ns .u64) .nil) fun t=>(fun q=>[⟨tR t.1.1 (.r0 (oY q) (oZ q) (pa q)),[nN q]⟩]) (jE t.1.2)
theorem DT:aH prog zu:=aJ fun t=>(aK (fun h=>Im t.1.1 t.1.2 (In h)) aT)
def zw:List aw:=zu::MP
theorem ic:aF prog (aD zw):=ap DT vM
inductive gl where
  | r0 (a:List Int) (b:Nat) (c:Nat)
def MQ:gl→AE×aE
  | .r0 a b c=>(.ret,⟨ah 30 [(4,.imm .free (.ns .u64 a) 1 1 0 b),(5,.int .i64 ((c:Nat):Int))],[],0⟩)
theorem AI:jK MQ:=by intro x;cases x<;>(intro h;cases h)
def DU:gl→fJ
  | .r0 a b c=>⟨.tup [.imm .free (.ns .u64 a) 1 1 0 b,.int .i64 ((c:Nat):Int)],[]⟩
def V3(a:Lv)(b:Int) :Nat×(List Int)×Nat→aE:=fun (c,d,e)=>⟨ah 30 [(1,.int .i64 b),(2,.ptr 0 1 0 0),(6,.int .i64 ((c:Nat):Int))],[(0,.vs [.imm a (.ns .u64 d) 1 1 0 e])],1⟩
def V4(a:List Int) :T ((Nat×(List Int)×Nat)⊕(gl)) :=
  .ask (decide ((0:Int)<(1:Int)))
    (.need (fI (0:Int) 1)<|.need (aL 0 (List.length a) a)<|.need (cM (ao (aa 0 (List.length a) a)))<|.ask (decide ((((az (ao (aa 0 (List.length a) a))):Nat):Int)>(4096:Int)))
      (.leaf (.inl (2,(aR (ao (aa 0 (List.length a) a))),(az (ao (aa 0 (List.length a) a))))))
      (.need (dZ .i64 (1:Int))<|.ask (decide ((1:Int)<(1:Int)))
        (.fail)
        (.leaf (.inl (0,(aR (ao (aa 0 (List.length a) a))),(az (ao (aa 0 (List.length a) a))))))))
    (.fail)
def V5(a:Lv)(b:Int)(c:List Int)(d:Nat)(_:Unit) :aE:=⟨ah 30 [(1,.int .i64 b),(2,.ptr 0 1 0 0)],[(0,.vs [.imm a (.ns .u64 c) 1 1 0 d])],1⟩
def V6(a:Int)(b:Nat)(c:Nat) :T ((Unit)⊕(gl)) :=
  .ask (((b:Nat):Int) != (0:Int))
    (.leaf (.inr (.r0 ([]:List Int) 0 2)))
    (.ask (decide (a<(0:Int)))
      (.leaf (.inr (.r0 ([]:List Int) 0 2)))
      (.ask (decide (((c:Nat):Int)>(0:Int)))
        (.ask (decide (a≥(262144:Int)))
          (.leaf (.inr (.r0 ([]:List Int) 0 3)))
          (.leaf (.inl ())))
        (.leaf (.inl ()))))
def V7:(List Int)×Nat×Nat→aE:=fun (a,b,c)=>⟨ah 30 [(4,.imm .free (.ns .u64 a) 1 1 0 b),(5,.int .i64 ((c:Nat):Int))],[],0⟩
def V8(c:Int)(a:List Int)(b:Nat) :T (((List Int)×Nat×Nat)⊕(gl)) :=
  .need (aL 0 b a)<|.need (vL (dB (aa 0 b a) c))<|.need (aL (iD (dB (aa 0 b a) c)) (iE (dB (aa 0 b a) c)) (iF (dB (aa 0 b a) c)))<|.need (nN (jE (aa (iD (dB (aa 0 b a) c)) (iE (dB (aa 0 b a) c)) (iF (dB (aa 0 b a) c)))))<|.leaf (.inl ((oY (jE (aa (iD (dB (aa 0 b a) c)) (iE (dB (aa 0 b a) c)) (iF (dB (aa 0 b a) c))))),(oZ (jE (aa (iD (dB (aa 0 b a) c)) (iE (dB (aa 0 b a) c)) (iF (dB (aa 0 b a) c))))),(pa (jE (aa (iD (dB (aa 0 b a) c)) (iE (dB (aa 0 b a) c)) (iF (dB (aa 0 b a) c)))))))
def V9(a:List Int)(b:Nat)(c:Nat) :T ((Empty)⊕(gl)) :=
  .leaf (.inr (.r0 a b c))
def gn(c:List Int)(a:Int) :Option gl:=kx (aN ((V4 c).run) fun (d,e,b) =>
  aN ((V6 a d b).run) fun _ =>
  aN ((V8 a e b).run) fun (f,g,h) =>
  (V9 f g h).run)
theorem Wa(b:Lv)(c:List Int)(a:Int){x:gl}(h:gn c a=some x) :ag prog DF [] [.imm b (.ns .u64 c) 1 1 0 (List.length c),.int .i64 a] (DU x) :=
  mf true DU MQ h (Sg.cut 2 AI (bi ic (V3 b a) [⟨[],[0],[1,2,6]⟩,⟨[],[0],[1,2,6]⟩]) (fun ⟨j,d,e⟩=>Sg.cut 1 AI (bi ic (V5 b a d e) [⟨[(.slot 4,.fre 1 1 (.ns .u64 ([]:List Int)))],[],[4,5]⟩,⟨[(.slot 4,.fre 1 1 (.ns .u64 ([]:List Int)))],[],[4,5]⟩,⟨[(.slot 4,.fre 1 1 (.ns .u64 ([]:List Int)))],[],[4,5]⟩,⟨[],[0],[1,2]⟩,⟨[],[0],[1,2]⟩]) (fun _=>Sg.cut 1 AI (bi ic V7 [⟨[],[],[4,5]⟩]) (fun ⟨k,l,m⟩=>bi ic lc [⟨[],[],[4,5]⟩]))))
    (fun x=>by cases x with | r0 f g i=>exact kN [.imm .free (.ns .u64 f) 1 1 0 g,.int .i64 ((i:Nat):Int)])
def pb:Option gl→Bool
  | some _=>true
  | none=>false
def kB:Option gl→List Int
  | some (.r0 x _ _)=>x
  | _=>[]
def kC:Option gl→Nat
  | some (.r0 _ x _)=>x
  | _=>0
def B2:Option gl→Nat
  | some (.r0 _ _ x)=>x
  | _=>0
theorem Wb{x:Option gl}(h:pb x=true) :x=some (.r0 (kB x) (kC x) (B2 x)):=by
  unfold pb at h
  split at h<;>first | rfl | (cases h;done) | (rename_i y;cases y;rfl)
def MR:aw:=bL DF (.cons (.ns .u64) (.cons (.int .i64) .nil)) fun t=>(fun q=>[⟨DU (.r0 (kB q) (kC q) (B2 q)),[pb q]⟩]) (gn t.1.2 t.2.1)
theorem Ox:aH prog MR:=aJ fun t=>(aK (fun h=>Wa t.1.1 t.1.2 t.2.1 (Wb h)) aT)
def MS:List aw:=MR::zw
theorem fR:aF prog (aD MS):=ap Ox ic
inductive cK where
  | r0 (a:Nat) (b:Nat) (c:Nat) (d:Bool) (e:List Int)
def uq:cK→AE×aE
  | .r0 a b c d e=>(.ret,⟨ah 97 [(4,.sl 0 1 1 a b c),(5,.bool false d)],[(0,.ns .u64 e)],1⟩)
theorem iG:jK uq:=by intro x;cases x<;>(intro h;cases h)
theorem Io(id:Nat) :oU id uq:=by intro x;cases x<;>(intro h;cases h)
def DV:cK→fJ
  | .r0 a b e c d=>⟨.tup [.imm .free (.ns .u64 d) 1 1 a b,.bool false c],[]⟩
def EK:List Code:=da (qj yJ)
def Wc(b:Lv)(a:List Int) :Int×Int×Bool×Nat×Nat→aE:=fun (c,r2,d,e,f)=>⟨ah 97 [(0,.imm b (.ns .u64 a) 1 1 0 (List.length a)),(6,.int .i64 c),(7,.int .u64 r2),(8,.bool false d),(36,.imm b (.ns .u64 a) 1 1 0 e),(37,.int .i64 ((f:Nat):Int)),(38,.int .i64 (0:Int))],[],0⟩
def SN(b:List Int)(a:Int) :T ((Int×Int×Bool×Nat×Nat)⊕(cK)) :=
  .need ((64:Int) != (0:Int))<|.need (dZ .i64 (Int.tdiv a (64:Int)))<|.need ((64:Int) != (0:Int))<|.ask (decide ((Int.tdiv a (64:Int))≥(((List.length b):Nat):Int)))
    (.leaf (.inr (.r0 0 0 0 (decide ((((List.length b):Nat):Int)>(0:Int))) ([]:List Int))))
    (.need (fI (Int.tdiv a (64:Int)) (List.length b))<|.need (gj (Int.toNat (Int.tdiv a (64:Int))) (List.length b))<|.need (decide ((0:Int)≤(IntKind.u64.wrap (Int.tmod a (64:Int)))))<|.need (uE (Int.tdiv a (64:Int)) (List.length b))<|.need (uE (0:Int) (Int.toNat (Int.tdiv a (64:Int))))<|.leaf (.inl ((Int.tdiv a (64:Int)),(IntKind.u64.wrap (Int.tmod a (64:Int))),((cG .and .u64 (List.getD b (Int.toNat (Int.tdiv a (64:Int))) 0) (IntKind.u64.wrap ((IntKind.u64.wrap ((1:Int)*2^(min (Int.toNat (IntKind.u64.wrap (Int.tmod a (64:Int)))) (IntKind.u64.bits))))-(1:Int)))) != (0:Int)),(Int.toNat (Int.tdiv a (64:Int))),(Int.toNat (Int.tdiv a (64:Int))))))
def vN(b:Lv)(a:List Int)(c:Int)(r2:Int)(d:Nat)(e:Nat) :Bool×Nat→aE:=fun (f,g)=>⟨ah 97 [(0,.imm b (.ns .u64 a) 1 1 0 (List.length a)),(6,.int .i64 c),(7,.int .u64 r2),(8,.bool false f),(36,.imm b (.ns .u64 a) 1 1 0 d),(37,.int .i64 ((e:Nat):Int)),(38,.int .i64 ((g:Nat):Int))],[],0⟩
def Ip(b:Lv)(a:List Int)(c:Int)(r2:Int)(d:Bool) :aE:=⟨ah 97 [(0,.imm b (.ns .u64 a) 1 1 0 (List.length a)),(6,.int .i64 c),(7,.int .u64 r2),(8,.bool false d)],[],0⟩
def SO:List Code:=da (fH ((((EK.drop 6).take 1)).headD .skip))
def Wd(b:Lv)(a:List Int)(c:Int)(r2:Int)(d:Nat)(e:Nat)(f:Nat)(g:Bool) :aE:=⟨ah 97 [(0,.imm b (.ns .u64 a) 1 1 0 (List.length a)),(6,.int .i64 c),(7,.int .u64 r2),(8,.bool false g),(36,.imm b (.ns .u64 a) 1 1 0 d),(37,.int .i64 ((e:Nat):Int)),(38,.int .i64 ((f:Nat):Int))],[],0⟩
def SP(b:List Int)(d:Nat)(e:Nat)(c:Bool)(a:Nat) :T ((Bool)⊕((Bool)⊕(cK))) :=
  .ask (decide (((a:Nat):Int)<((e:Nat):Int)))
    (.need (fI ((a:Nat):Int) d)<|.need (gj a (List.length b))<|.ask c
      (.leaf (.inl true))
      (.leaf (.inl ((List.getD b a 0) != (0:Int)))))
    (.leaf (.inr (.inl c)))
def SQ(a:Nat)(b:Bool) :T ((Bool×Nat)⊕((Bool)⊕(cK))) :=
  .need (dZ .i64 (((a+1):Nat):Int))<|.leaf (.inl (b,(a+1)))
def xO(b:List Int)(c:Nat)(d:Nat) :Bool×Nat→Option ((Bool×Nat)⊕((Bool)⊕(cK))):=fun (e,a) =>
  aN ((SP b c d e a).run) fun f =>
  (SQ a f).run
theorem SS(b:Lv)(a:List Int)(c:Int)(r2:Int)(d:Nat)(e:Nat)(g:Bool)(f:Nat) :Sg prog [] SO (vN b a c r2 d e (g,f)) (xO a d e (g,f)) (vN b a c r2 d e) (dR 0 (Ip b a c r2) uq):=by
  unfold xO;exact Sg.cut 3 (bc iG) (bi fR (Wd b a c r2 d e f) [⟨[],[],[0,6,7,8,36,37,38]⟩,⟨[],[],[0,6,7,8,36,37,38]⟩,⟨[],[],[0,6,7,8]⟩]) (fun h=>bi fR (vN b a c r2 d e) [⟨[],[],[0,6,7,8,36,37,38]⟩])
def We(c:Lv)(a:List Int)(d:Int)(r2:Int)(e:Bool) :Nat×Nat×(List Int)→aE:=fun (b,f,g)=>⟨ah 97 [(0,.imm c (.ns .u64 a) 1 1 0 (List.length a)),(6,.int .i64 d),(7,.int .u64 r2),(8,.bool false e),(11,.sl 0 1 1 0 b b),(54,.int .i64 ((f:Nat):Int)),(55,.int .i64 (0:Int))],[(0,.ns .u64 g)],1⟩
def SU(a:List Int)(b:Int) :T ((Nat×Nat×(List Int))⊕(cK)) :=
  .need (dZ .i64 ((((List.length a):Nat):Int)-b))<|.need (decide ((0:Int)≤((((List.length a):Nat):Int)-b)))<|.need (decide (((((List.length a):Nat):Int)-b)≤((((List.length a):Nat):Int)-b)))<|.need (decide ((8:Int)*((((List.length a):Nat):Int)-b)≤140737488355328))<|.need (dZ .i64 ((((List.length a):Nat):Int)-b))<|.leaf (.inl ((Int.toNat ((((List.length a):Nat):Int)-b)),(Int.toNat ((((List.length a):Nat):Int)-b)),(List.replicate (Int.toNat ((((List.length a):Nat):Int)-b)) (0:Int))))
def tg(c:Lv)(a:List Int)(d:Int)(r2:Int)(e:Bool)(b:Nat)(f:Nat) :Nat×(List Int)→aE:=fun (g,h)=>⟨ah 97 [(0,.imm c (.ns .u64 a) 1 1 0 (List.length a)),(6,.int .i64 d),(7,.int .u64 r2),(8,.bool false e),(11,.sl 0 1 1 0 b b),(54,.int .i64 ((f:Nat):Int)),(55,.int .i64 ((g:Nat):Int))],[(0,.ns .u64 h)],1⟩
def EL(b:Bool)(a:Nat)(c:(List Int)) :aE:=⟨ah 97 [(8,.bool false b),(11,.sl 0 1 1 0 a a)],[(0,.ns .u64 c)],1⟩
def SV:List Code:=da (fH ((((((EK.drop 6).drop 1).drop 2).take 1)).headD .skip))
def SW(c:Lv)(a:List Int)(d:Int)(r2:Int)(e:Bool)(b:Nat)(f:Nat)(g:Nat)(h:(List Int)) :aE:=⟨ah 97 [(0,.imm c (.ns .u64 a) 1 1 0 (List.length a)),(6,.int .i64 d),(7,.int .u64 r2),(8,.bool false e),(11,.sl 0 1 1 0 b b),(54,.int .i64 ((f:Nat):Int)),(55,.int .i64 ((g:Nat):Int))],[(0,.ns .u64 h)],1⟩
def SX(c:List Int)(b:Int)(r2:Int)(e:Nat)(f:Nat)(a:Nat)(d:List Int) :T (((List Int))⊕(((List Int))⊕(cK))) :=
  .ask (decide (((a:Nat):Int)<((f:Nat):Int)))
    (.need (dZ .i64 (((a:Nat):Int)+b))<|.need (fI (((a:Nat):Int)+b) (List.length c))<|.need (gj (Int.toNat (((a:Nat):Int)+b)) (List.length c))<|.need (decide ((0:Int)≤r2))<|.need (fI ((a:Nat):Int) e)<|.need (gj a (List.length d))<|.need (dZ .i64 (((a:Nat):Int)+b))<|.need (dZ .i64 ((((a:Nat):Int)+b)+(1:Int)))<|.ask (decide (((((a:Nat):Int)+b)+(1:Int))<(((List.length c):Nat):Int)))
      (.need (fI ((a:Nat):Int) e)<|.need (gj a (List.length (List.set d a (Int.fdiv (List.getD c (Int.toNat (((a:Nat):Int)+b)) 0) (2^(min (Int.toNat r2) (IntKind.u64.bits)))))))<|.need (dZ .i64 (((a:Nat):Int)+b))<|.need (dZ .i64 ((((a:Nat):Int)+b)+(1:Int)))<|.need (fI ((((a:Nat):Int)+b)+(1:Int)) (List.length c))<|.need (gj (Int.toNat ((((a:Nat):Int)+b)+(1:Int))) (List.length c))<|.need (decide ((0:Int)≤(1:Int)))<|.need (decide ((0:Int)≤(IntKind.u64.wrap ((63:Int)-r2))))<|.need (fI ((a:Nat):Int) e)<|.need (gj a (List.length (List.set d a (Int.fdiv (List.getD c (Int.toNat (((a:Nat):Int)+b)) 0) (2^(min (Int.toNat r2) (IntKind.u64.bits)))))))<|.leaf (.inl (List.set (List.set d a (Int.fdiv (List.getD c (Int.toNat (((a:Nat):Int)+b)) 0) (2^(min (Int.toNat r2) (IntKind.u64.bits))))) a (cG .or .u64 (List.getD (List.set d a (Int.fdiv (List.getD c (Int.toNat (((a:Nat):Int)+b)) 0) (2^(min (Int.toNat r2) (IntKind.u64.bits))))) a 0) (IntKind.u64.wrap ((IntKind.u64.wrap ((List.getD c (Int.toNat ((((a:Nat):Int)+b)+(1:Int))) 0)*2^(min (Int.toNat (1:Int)) (IntKind.u64.bits))))*2^(min (Int.toNat (IntKind.u64.wrap ((63:Int)-r2))) (IntKind.u64.bits))))))))
      (.leaf (.inl (List.set d a (Int.fdiv (List.getD c (Int.toNat (((a:Nat):Int)+b)) 0) (2^(min (Int.toNat r2) (IntKind.u64.bits))))))))
    (.leaf (.inr (.inl d)))
def SY(a:Nat)(b:List Int) :T ((Nat×(List Int))⊕(((List Int))⊕(cK))) :=
  .need (dZ .i64 (((a+1):Nat):Int))<|.leaf (.inl ((a+1),b))
def xP(b:List Int)(c:Int)(r2:Int)(d:Nat)(e:Nat) :Nat×(List Int)→Option ((Nat×(List Int))⊕(((List Int))⊕(cK))):=fun (a,f) =>
  aN ((SX b c r2 d e a f).run) fun g =>
  (SY a g).run
theorem SZ(f:Lv)(b:List Int)(c:Int)(r2:Int)(d:Bool)(a:Nat)(e:Nat)(g:Nat)(h:List Int) :Sg prog [] SV (tg f b c r2 d a e (g,h)) (xP b c r2 a e (g,h)) (tg f b c r2 d a e) (dR 2 (EL d a) uq):=by
  unfold xP;exact Sg.cut 3 (bc iG) (bi fR (SW f b c r2 d a e g) [⟨[],[0],[0,6,7,8,11,54,55]⟩,⟨[],[0],[0,6,7,8,11,54,55]⟩,⟨[],[0],[8,11]⟩]) (fun i=>bi fR (tg f b c r2 d a e) [⟨[],[0],[0,6,7,8,11,54,55]⟩])
def S5(a:Bool) :Nat×Nat×Nat×(List Int)→aE:=fun (b,c,d,e)=>⟨ah 97 [(4,.sl 0 1 1 b c d),(5,.bool false a)],[(0,.ns .u64 e)],1⟩
def S6(a:Nat)(b:List Int) :T ((Nat×Nat×Nat×(List Int))⊕(cK)) :=
  .need (fv (aV b 0 a a))<|.leaf (.inl ((eX (aV b 0 a a)),(eY (aV b 0 a a)),(eZ (aV b 0 a a)),(fa (aV b 0 a a))))
def S7(a:Bool)(b:Nat)(c:Nat)(d:Nat)(e:List Int) :T ((Empty)⊕(cK)) :=
  .leaf (.inr (.r0 b c d a e))
def pc(a:List Int)(d:Int) :Option cK:=kx (aN ((SN a d).run) fun (b,r2,e,f,g) =>
  aN (ej (xO a f g) (e,0)) fun h =>
  aN ((SU a b).run) fun (c,i,j) =>
  aN (ej (xP a b r2 c i) (0,j)) fun k =>
  aN ((S6 c k).run) fun (l,m,n,o) =>
  (S7 h l m n o).run)
theorem Wf(b:Lv)(a:List Int)(f:Int){x:cK}(h:pc a f=some x) :ag prog yJ [] [.imm b (.ns .u64 a) 1 1 0 (List.length a),.int .i64 f] (DV x) :=
  mf true DV uq h (Sg.cut 6 iG (bi fR (Wc b a) [⟨[(.slot 4,.own 1 1 (.ns .u64 ([]:List Int)))],[288],[4,5]⟩,⟨[],[],[0,6,7,8,36,37,38]⟩]) (fun ⟨c,r2,s,g,i⟩=>Sg.cut 1 iG (HQ ⟨[],[],[0,6,7,8,36,37,38]⟩ (vN b a c r2 g i) (Ip b a c r2) 0 iG (Io _) (fun ⟨k,l⟩=>SS b a c r2 g i k l)) (fun d=>Sg.cut 2 iG (bi fR (We b a c r2 d) [⟨[],[64],[0,6,7,8,11,54,55]⟩]) (fun ⟨e,j,t⟩=>Sg.cut 1 iG (HQ ⟨[],[0],[0,6,7,8,11,54,55]⟩ (tg b a c r2 d e j) (EL d e) 2 iG (Io _) (fun ⟨m,n⟩=>SZ b a c r2 d e j m n)) (fun u=>Sg.cut 1 iG (bi fR (S5 d) [⟨[],[0],[4,5]⟩]) (fun ⟨v,w,y,z⟩=>bi fR lc [⟨[],[0],[4,5]⟩]))))))
    (fun x=>by cases x with | r0 o p q r A=>exact kN [.sl 0 1 1 o p q,.bool false r])
def vO:Option cK→Bool
  | some _=>true
  | none=>false
def vP:Option cK→Nat
  | some (.r0 x _ _ _ _)=>x
  | _=>0
def vQ:Option cK→Nat
  | some (.r0 _ x _ _ _)=>x
  | _=>0
def B3:Option cK→Nat
  | some (.r0 _ _ x _ _)=>x
  | _=>0
def vR:Option cK→Bool
  | some (.r0 _ _ _ x _)=>x
  | _=>false
def vS:Option cK→List Int
  | some (.r0 _ _ _ _ x)=>x
  | _=>[]
theorem Wg{x:Option cK}(h:vO x=true) :x=some (.r0 (vP x) (vQ x) (B3 x) (vR x) (vS x)):=by
  unfold vO at h
  split at h<;>first | rfl | (cases h;done) | (rename_i y;cases y;rfl)
def MT:aw:=bL yJ (.cons (.ns .u64) (.cons (.int .i64) .nil)) fun t=>(fun q=>[⟨DV (.r0 (vP q) (vQ q) (B3 q) (vR q) (vS q)),[vO q]⟩]) (pc t.1.2 t.2.1)
theorem Oy:aH prog MT:=aJ fun t=>(aK (fun h=>Wf t.1.1 t.1.2 t.2.1 (Wg h)) aT)
def MU:List aw:=MT::MS
theorem nO:aF prog (aD MU):=ap Oy fR
inductive fb where
  | r0 (a:List Int) (b:Nat) (c:Nat) (d:Bool) (e:Nat)
def MV:fb→AE×aE
  | .r0 a b c d e=>(.ret,⟨ah 23 [(4,.imm .free (.ns .u64 a) 1 1 b c),(5,.bool false d),(6,.int .i64 ((e:Nat):Int))],[],0⟩)
theorem AJ:jK MV:=by intro x;cases x<;>(intro h;cases h)
def DW:fb→fJ
  | .r0 a b c d e=>⟨.tup [.imm .free (.ns .u64 a) 1 1 b c,.bool false d,.int .i64 ((e:Nat):Int)],[]⟩
def Wh(a:Lv)(b:Int) :Nat×(List Int)×Nat→aE:=fun (c,d,e)=>⟨ah 23 [(1,.int .i64 b),(2,.ptr 0 1 0 0),(6,.int .i64 ((c:Nat):Int))],[(0,.vs [.imm a (.ns .u64 d) 1 1 0 e])],1⟩
def Wi(a:List Int) :T ((Nat×(List Int)×Nat)⊕(fb)) :=
  .ask (decide ((0:Int)<(1:Int)))
    (.need (fI (0:Int) 1)<|.need (aL 0 (List.length a) a)<|.need (cM (ao (aa 0 (List.length a) a)))<|.ask (decide ((((az (ao (aa 0 (List.length a) a))):Nat):Int)>(4096:Int)))
      (.leaf (.inl (2,(aR (ao (aa 0 (List.length a) a))),(az (ao (aa 0 (List.length a) a))))))
      (.need (dZ .i64 (1:Int))<|.ask (decide ((1:Int)<(1:Int)))
        (.fail)
        (.leaf (.inl (0,(aR (ao (aa 0 (List.length a) a))),(az (ao (aa 0 (List.length a) a))))))))
    (.fail)
def Wj(a:Lv)(b:Int)(c:List Int)(d:Nat)(e:Bool) :aE:=⟨ah 23 [(1,.int .i64 b),(2,.ptr 0 1 0 0),(14,.bool false e)],[(0,.vs [.imm a (.ns .u64 c) 1 1 0 d])],1⟩
def Wl(a:Int)(b:Nat) :T ((Bool)⊕(fb)) :=
  .ask (((b:Nat):Int) != (0:Int))
    (.leaf (.inl true))
    (.leaf (.inl (decide (a<(0:Int)))))
def Wm:(List Int)×Nat×Nat×Bool→aE:=fun (a,b,c,d)=>⟨ah 23 [(4,.imm .free (.ns .u64 a) 1 1 b c),(5,.bool false d)],[],0⟩
def Wn(c:Int)(a:List Int)(b:Nat)(d:Bool) :T (((List Int)×Nat×Nat×Bool)⊕(fb)) :=
  .ask d
    (.leaf (.inr (.r0 ([]:List Int) 0 0 false 2)))
    (.need (aL 0 b a)<|.need (vO (pc (aa 0 b a) c))<|.leaf (.inl ((vS (pc (aa 0 b a) c)),(vP (pc (aa 0 b a) c)),(vQ (pc (aa 0 b a) c)),(vR (pc (aa 0 b a) c)))))
def Wo(a:List Int)(b:Nat)(c:Nat)(d:Bool) :T ((Empty)⊕(fb)) :=
  .leaf (.inr (.r0 a b c d 0))
def rN(b:List Int)(a:Int) :Option fb:=kx (aN ((Wi b).run) fun (c,d,e) =>
  aN ((Wl a c).run) fun f =>
  aN ((Wn a d e f).run) fun (g,h,i,j) =>
  (Wo g h i j).run)
theorem Wp(b:Lv)(c:List Int)(a:Int){x:fb}(h:rN c a=some x) :ag prog DD [] [.imm b (.ns .u64 c) 1 1 0 (List.length c),.int .i64 a] (DW x) :=
  mf true DW MV h (Sg.cut 2 AJ (bi nO (Wh b a) [⟨[],[0],[1,2,6]⟩,⟨[],[0],[1,2,6]⟩]) (fun ⟨l,d,e⟩=>Sg.cut 1 AJ (bi nO (Wj b a d e) [⟨[],[0],[1,2,14]⟩,⟨[],[0],[1,2,14]⟩]) (fun m=>Sg.cut 2 AJ (bi nO Wm [⟨[(.slot 4,.fre 1 1 (.ns .u64 ([]:List Int)))],[],[4,5,6]⟩,⟨[],[],[4,5]⟩]) (fun ⟨n,o,p,q⟩=>bi nO lc [⟨[],[],[4,5,6]⟩]))))
    (fun x=>by cases x with | r0 f g i j k=>exact kN [.imm .free (.ns .u64 f) 1 1 g i,.bool false j,.int .i64 ((k:Nat):Int)])
def vT:Option fb→Bool
  | some _=>true
  | none=>false
def vU:Option fb→List Int
  | some (.r0 x _ _ _ _)=>x
  | _=>[]
def vV:Option fb→Nat
  | some (.r0 _ x _ _ _)=>x
  | _=>0
def vW:Option fb→Nat
  | some (.r0 _ _ x _ _)=>x
  | _=>0
def B4:Option fb→Bool
  | some (.r0 _ _ _ x _)=>x
  | _=>false
def B5:Option fb→Nat
  | some (.r0 _ _ _ _ x)=>x
  | _=>0
theorem Wq{x:Option fb}(h:vT x=true) :x=some (.r0 (vU x) (vV x) (vW x) (B4 x) (B5 x)):=by
  unfold vT at h
  split at h<;>first | rfl | (cases h;done) | (rename_i y;cases y;rfl)
def MW:aw:=bL DD (.cons (.ns .u64) (.cons (.int .i64) .nil)) fun t=>(fun q=>[⟨DW (.r0 (vU q) (vV q) (vW q) (B4 q) (B5 q)),[vT q]⟩]) (rN t.1.2 t.2.1)
theorem Oz:aH prog MW:=aJ fun t=>(aK (fun h=>Wp t.1.1 t.1.2 t.2.1 (Wq h)) aT)
def MX:List aw:=MW::MU
theorem iH:aF prog (aD MX):=ap Oz nO
inductive db where
  | r0 (a:Int) (b:Nat)
def th:db→AE×aE
  | .r0 a b=>(.ret,⟨ah 31 [(2,.int .i64 a),(3,.int .i64 ((b:Nat):Int))],[],0⟩)
theorem kD:jK th:=by intro x;cases x<;>(intro h;cases h)
theorem OA(id:Nat) :oU id th:=by intro x;cases x<;>(intro h;cases h)
def xQ:db→fJ
  | .r0 a b=>⟨.tup [.int .i64 a,.int .i64 ((b:Nat):Int)],[]⟩
def OB:List Code:=da (qj sR)
def OC(a:Lv) :Nat×(List Int)×Nat→aE:=fun (b,c,d)=>⟨ah 31 [(1,.ptr 0 1 0 0),(4,.int .i64 ((b:Nat):Int))],[(0,.vs [.imm a (.ns .u64 c) 1 1 0 d])],1⟩
def JZ(a:List Int) :T ((Nat×(List Int)×Nat)⊕(db)) :=
  .ask (decide ((0:Int)<(1:Int)))
    (.need (fI (0:Int) 1)<|.need (aL 0 (List.length a) a)<|.need (cM (ao (aa 0 (List.length a) a)))<|.ask (decide ((((az (ao (aa 0 (List.length a) a))):Nat):Int)>(4096:Int)))
      (.leaf (.inl (2,(aR (ao (aa 0 (List.length a) a))),(az (ao (aa 0 (List.length a) a))))))
      (.need (dZ .i64 (1:Int))<|.ask (decide ((1:Int)<(1:Int)))
        (.fail)
        (.leaf (.inl (0,(aR (ao (aa 0 (List.length a) a))),(az (ao (aa 0 (List.length a) a))))))))
    (.fail)
def OD(a:Lv)(b:Nat)(c:List Int)(d:Nat)(e:Bool) :aE:=⟨ah 31 [(1,.ptr 0 1 0 0),(4,.int .i64 ((b:Nat):Int)),(14,.bool false e)],[(0,.vs [.imm a (.ns .u64 c) 1 1 0 d])],1⟩
def J0(a:Nat)(b:Nat) :T ((Bool)⊕(db)) :=
  .ask (((a:Nat):Int) != (0:Int))
    (.leaf (.inl true))
    (.leaf (.inl (((b:Nat):Int)==(0:Int))))
def OE(a:Lv)(b:List Int)(c:Nat)(_:Unit) :aE:=⟨ah 31 [(1,.ptr 0 1 0 0),(5,.int .i64 (0:Int))],[(0,.vs [.imm a (.ns .u64 b) 1 1 0 c])],1⟩
def J1(a:Nat)(b:Bool) :T ((Unit)⊕(db)) :=
  .ask b
    (.leaf (.inr (.r0 (0:Int) a)))
    (.leaf (.inl ()))
def rr(a:Lv)(b:List Int)(c:Nat)(d:Nat) :aE:=⟨ah 31 [(1,.ptr 0 1 0 0),(5,.int .i64 ((d:Nat):Int))],[(0,.vs [.imm a (.ns .u64 b) 1 1 0 c])],1⟩
def B6(a:Lv)(b:List Int)(c:Nat)(d:Nat) :aE:=⟨ah 31 [(1,.ptr 0 1 0 0),(5,.int .i64 ((d:Nat):Int))],[(0,.vs [.imm a (.ns .u64 b) 1 1 0 c])],1⟩
def J2:List Code:=da (fH ((((((OB.drop 2).drop 1).drop 2).take 1)).headD .skip))
def J3(b:List Int)(c:Nat)(a:Nat) :T ((Nat)⊕((Nat)⊕(db))) :=
  .need (fI ((a:Nat):Int) c)<|.need (gj a (List.length b))<|.ask ((List.getD b a 0)==(0:Int))
    (.need (dZ .i64 (((a+1):Nat):Int))<|.leaf (.inl (a+1)))
    (.leaf (.inr (.inl a)))
def tS(a:List Int)(b:Nat) :Nat→Option ((Nat)⊕((Nat)⊕(db))):=fun c =>
  (J3 a b c).run
theorem J4(c:Lv)(a:List Int)(b:Nat)(d:Nat) :Sg prog [] J2 (rr c a b d) (tS a b d) (rr c a b) (dR 0 (B6 c a b) th):=by
  unfold tS;exact bi iH (rr c a b) [⟨[],[0],[1,5]⟩,⟨[],[0],[1,5]⟩]
def OF(a:Int) :aE:=⟨ah 31 [(2,.int .i64 a),(3,.int .i64 (0:Int))],[],0⟩
def J5(b:List Int)(c:Nat)(a:Nat) :T ((Int)⊕(db)) :=
  .need (dZ .i64 (((64*a):Nat):Int))<|.need (fI ((a:Nat):Int) c)<|.need (gj a (List.length b))<|.need (dM (cT (List.getD b a 0)))<|.need (dZ .i64 ((((64*a):Nat):Int)+(dj (cT (List.getD b a 0)))))<|.leaf (.inl ((((64*a):Nat):Int)+(dj (cT (List.getD b a 0)))))
def J6(a:Int) :T ((Empty)⊕(db)) :=
  .leaf (.inr (.r0 a 0))
def ti(d:List Int) :Option db:=kx (aN ((JZ d).run) fun (b,c,a) =>
  aN ((J0 b a).run) fun e =>
  aN ((J1 b e).run) fun _ =>
  aN (ej (tS c a) 0) fun f =>
  aN ((J5 c a f).run) fun g =>
  (J6 g).run)
theorem OG(a:Lv)(d:List Int){x:db}(h:ti d=some x) :ag prog sR [] [.imm a (.ns .u64 d) 1 1 0 (List.length d)] (xQ x) :=
  mf true xQ th h (Sg.cut 2 kD (bi iH (OC a) [⟨[],[0],[1,4]⟩,⟨[],[0],[1,4]⟩]) (fun ⟨e,b,c⟩=>Sg.cut 1 kD (bi iH (OD a e b c) [⟨[],[0],[1,4,14]⟩,⟨[],[0],[1,4,14]⟩]) (fun j=>Sg.cut 2 kD (bi iH (OE a b c) [⟨[],[],[2,3]⟩,⟨[],[0],[1,5]⟩]) (fun _=>Sg.cut 1 kD (HQ ⟨[],[0],[1,5]⟩ (rr a b c) (B6 a b c) 0 kD (OA _) (fun f=>J4 a b c f)) (fun k=>Sg.cut 1 kD (bi iH OF [⟨[],[],[2,3]⟩]) (fun l=>bi iH lc [⟨[],[],[2,3]⟩]))))))
    (fun x=>by cases x with | r0 g i=>exact kN [.int .i64 g,.int .i64 ((i:Nat):Int)])
def rt:Option db→Bool
  | some _=>true
  | none=>false
def sj:Option db→Int
  | some (.r0 x _)=>x
  | _=>0
def xR:Option db→Nat
  | some (.r0 _ x)=>x
  | _=>0
theorem OH{x:Option db}(h:rt x=true) :x=some (.r0 (sj x) (xR x)):=by
  unfold rt at h
  split at h<;>first | rfl | (cases h;done) | (rename_i y;cases y;rfl)
def EM:aw:=bL sR (.cons (.ns .u64) .nil) fun t=>(fun q=>[⟨xQ (.r0 (sj q) (xR q)),[rt q]⟩]) (ti t.1.2)
theorem Iq:aH prog EM:=aJ fun t=>(aK (fun h=>OG t.1.1 t.1.2 (OH h)) aT)
def EN:List aw:=EM::MX
theorem jX:aF prog (aD EN):=ap Iq iH
inductive dc where
  | r0 (a:Bool) (b:List Int) (c:Nat) (d:Nat) (e:Int)
def EO:dc→AE×aE
  | .r0 a b c d e=>(.ret,⟨ah 37 [(2,.ptr 0 1 0 0)],[(0,.vs [.bool false a,.imm .free (.ns .u64 b) 1 1 c d,.int .i64 e])],1⟩)
theorem vX:jK EO:=by intro x;cases x<;>(intro h;cases h)
def xS:dc→fJ
  | .r0 a b c d e=>⟨.agg [.bool false a,.imm .free (.ns .u64 b) 1 1 c d,.int .i64 e],[]⟩
def OI(b:Bool)(c:Lv)(a:List Int)(d:Int) :(List Int)×Nat×Bool→aE:=fun (e,f,g)=>⟨ah 37 [(1,.ptr 0 1 0 0),(2,.ptr 1 1 0 0),(3,.imm .free (.ns .u64 e) 1 1 0 f)],[(0,.vs [.bool false b,.imm c (.ns .u64 a) 1 1 0 (List.length a),.int .i64 d]),(1,.vs [.bool false g,.nsl,.int .i64 (0:Int)])],2⟩
def OJ(a:List Int) :T (((List Int)×Nat×Bool)⊕(dc)) :=
  .need (aL 0 (List.length a) a)<|.need (qk (mK (aa 0 (List.length a) a)))<|.leaf (.inl ((tP (mK (aa 0 (List.length a) a))),(tN (mK (aa 0 (List.length a) a))),false))
def OK(b:Bool)(c:Lv)(a:List Int)(d:Int)(e:List Int)(f:Nat)(g:Bool)(h:Int) :aE:=⟨ah 37 [(1,.ptr 0 1 0 0),(2,.ptr 1 1 0 0),(3,.imm .free (.ns .u64 e) 1 1 0 f),(5,.int .i64 h)],[(0,.vs [.bool false b,.imm c (.ns .u64 a) 1 1 0 (List.length a),.int .i64 d]),(1,.vs [.bool false g,.nsl,.int .i64 (0:Int)])],2⟩
def OL(b:List Int)(a:Nat) :T ((Int)⊕(dc)) :=
  .ask (((a:Nat):Int)==(0:Int))
    (.leaf (.inr (.r0 false ([]:List Int) 0 0 (0:Int))))
    (.need (aL 0 a b)<|.need (rt (ti (aa 0 a b)))<|.leaf (.inl (sj (ti (aa 0 a b)))))
def OM(b:Bool)(c:Lv)(a:List Int)(d:Int)(e:Bool)(f:Int) :(List Int)×Nat×Nat→aE:=fun (g,h,i)=>⟨ah 37 [(1,.ptr 0 1 0 0),(2,.ptr 1 1 0 0),(3,.imm .free (.ns .u64 g) 1 1 h i),(5,.int .i64 f)],[(0,.vs [.bool false b,.imm c (.ns .u64 a) 1 1 0 (List.length a),.int .i64 d]),(1,.vs [.bool false e,.nsl,.int .i64 (0:Int)])],2⟩
def ON(a:List Int)(b:Nat)(c:Int) :T (((List Int)×Nat×Nat)⊕(dc)) :=
  .need (aL 0 b a)<|.need (vT (rN (aa 0 b a) c))<|.leaf (.inl ((vU (rN (aa 0 b a) c)),(vV (rN (aa 0 b a) c)),(vW (rN (aa 0 b a) c))))
def OO(c:Bool)(a:Int)(b:Int)(d:List Int)(e:Nat)(f:Nat) :T ((Empty)⊕(dc)) :=
  .need (dZ .i64 (a+b))<|.leaf (.inr (.r0 c d e f (a+b)))
def an(d:Bool)(e:List Int)(f:Int) :Option dc:=kx (aN ((OJ e).run) fun (a,b,j) =>
  aN ((OL a b).run) fun c =>
  aN ((ON a b c).run) fun (g,h,i) =>
  (OO d f c g h i).run)
theorem OP(b:Bool)(d:Lv)(a:List Int)(c:Int){x:dc}(h:an b a c=some x) :ag prog xz [] [.agg [.bool false b,.imm d (.ns .u64 a) 1 1 0 (List.length a),.int .i64 c]] (xS x) :=
  mf true xS EO h (Sg.cut 2 vX (bi jX (OI b d a c) [⟨[],[0,16],[1,2,3]⟩]) (fun ⟨f,g,e⟩=>Sg.cut 3 vX (bi jX (OK b d a c f g e) [⟨[(.cell 1 1,.fre 1 1 (.ns .u64 ([]:List Int)))],[1],[2]⟩,⟨[],[0,1],[1,2,3,5]⟩]) (fun i=>Sg.cut 1 vX (bi jX (OM b d a c e i) [⟨[],[0,1],[1,2,3,5]⟩]) (fun ⟨o,p,q⟩=>bi jX lc [⟨[],[1],[2]⟩]))))
    (fun x=>by cases x with | r0 j k l m n=>exact kN [.agg [.bool false j,.imm .free (.ns .u64 k) 1 1 l m,.int .i64 n]])
def dm:Option dc→Bool
  | some _=>true
  | none=>false
def bP:Option dc→Bool
  | some (.r0 x _ _ _ _)=>x
  | _=>false
def bQ:Option dc→List Int
  | some (.r0 _ x _ _ _)=>x
  | _=>[]
def bR:Option dc→Nat
  | some (.r0 _ _ x _ _)=>x
  | _=>0
def bS:Option dc→Nat
  | some (.r0 _ _ _ x _)=>x
  | _=>0
def bT:Option dc→Int
  | some (.r0 _ _ _ _ x)=>x
  | _=>0
theorem OQ{x:Option dc}(h:dm x=true) :x=some (.r0 (bP x) (bQ x) (bR x) (bS x) (bT x)):=by
  unfold dm at h
  split at h<;>first | rfl | (cases h;done) | (rename_i y;cases y;rfl)
def EP:aw:=bL xz (.cons (.agg (.cons .bool (.cons (.ns .u64) (.cons (.int .i64) .nil)))) .nil) fun t=>(fun q=>[⟨xS (.r0 (bP q) (bQ q) (bR q) (bS q) (bT q)),[dm q]⟩]) (an t.1.1 t.1.2.1.2 t.1.2.2.1)
theorem Ir:aH prog EP:=aJ fun t=>(aK (fun h=>OP t.1.1 t.1.2.1.1 t.1.2.1.2 t.1.2.2.1 (OQ h)) aT)
def EQ:List aw:=EP::EN
theorem nP:aF prog (aD EQ):=ap Ir jX
inductive hD where
  | r0 (a:Bool)
def Is:hD→AE×aE
  | .r0 a=>(.ret,⟨ah 18 [(2,.bool false a)],[],0⟩)
theorem ER:jK Is:=by intro x;cases x<;>(intro h;cases h)
def AL:hD→fJ
  | .r0 a=>⟨.bool false a,[]⟩
def S8(b:Bool)(c:Lv)(a:List Int)(d:Int)(e:Nat) :aE:=⟨ah 18 [(1,.ptr 0 1 0 0),(4,.int .i64 ((e:Nat):Int))],[(0,.vs [.bool false b,.imm c (.ns .u64 a) 1 1 0 (List.length a),.int .i64 d])],1⟩
def S9(a:List Int) :T ((Nat)⊕(hD)) :=
  .need (aL 0 (List.length a) a)<|.need (qk (mK (aa 0 (List.length a) a)))<|.leaf (.inl (tO (mK (aa 0 (List.length a) a))))
def Ta(a:Bool) :aE:=⟨ah 18 [(2,.bool false a)],[],0⟩
def Tb(a:Int)(b:Nat) :T ((Bool)⊕(hD)) :=
  .ask (((b:Nat):Int)==(0:Int))
    (.ask (decide (a≥(-262144:Int)))
      (.leaf (.inl (decide (a≤(262144:Int)))))
      (.leaf (.inl false)))
    (.leaf (.inl false))
def Tc(a:Bool) :T ((Empty)⊕(hD)) :=
  .leaf (.inr (.r0 a))
def cR(a:List Int)(b:Int) :Option hD:=kx (aN ((S9 a).run) fun c =>
  aN ((Tb b c).run) fun d =>
  (Tc d).run)
theorem Td(c:Bool)(d:Lv)(a:List Int)(b:Int){x:hD}(h:cR a b=some x) :ag prog Aq [] [.agg [.bool false c,.imm d (.ns .u64 a) 1 1 0 (List.length a),.int .i64 b]] (AL x) :=
  mf true AL Is h (Sg.cut 2 ER (bi nP (S8 c d a b) [⟨[],[0],[1,4]⟩]) (fun f=>Sg.cut 1 ER (bi nP Ta [⟨[],[],[2]⟩,⟨[],[],[2]⟩,⟨[],[],[2]⟩]) (fun g=>bi nP lc [⟨[],[],[2]⟩])))
    (fun x=>by cases x with | r0 e=>exact kN [.bool false e])
def fw:Option hD→Bool
  | some _=>true
  | none=>false
def ed:Option hD→Bool
  | some (.r0 x)=>x
  | _=>false
theorem Te{x:Option hD}(h:fw x=true) :x=some (.r0 (ed x)):=by
  unfold fw at h
  split at h<;>first | rfl | (cases h;done) | (rename_i y;cases y;rfl)
def It:aw:=bL Aq (.cons (.agg (.cons .bool (.cons (.ns .u64) (.cons (.int .i64) .nil)))) .nil) fun t=>(fun q=>[⟨AL (.r0 (ed q)),[fw q]⟩]) (cR t.1.2.1.2 t.1.2.2.1)
theorem J7:aH prog It:=aJ fun t=>(aK (fun h=>Td t.1.1 t.1.2.1.1 t.1.2.1.2 t.1.2.2.1 (Te h)) aT)
def Iu:List aw:=It::EQ
theorem pK:aF prog (aD Iu):=ap J7 nP
inductive cD where
  | r0 (a:Nat) (b:Int) (c:List Int) (d:Nat) (e:List Int) (f:Nat)
def B7:cD→AE×aE
  | .r0 a b c d e f=>(.ret,⟨ah 57 [(4,.ptr 0 1 0 0),(5,.int .i64 ((a:Nat):Int))],[(0,.vs [.int .i64 b,.imm .free (.ns .u64 c) 1 1 0 d,.imm .free (.ns .u64 e) 1 1 0 f])],1⟩)
theorem zx:jK B7:=by intro x;cases x<;>(intro h;cases h)
def vY:cD→fJ
  | .r0 a b c d e f=>⟨.tup [.agg [.int .i64 b,.imm .free (.ns .u64 c) 1 1 0 d,.imm .free (.ns .u64 e) 1 1 0 f],.int .i64 ((a:Nat):Int)],[]⟩
def J8(c:Bool)(d:Lv)(a:List Int)(e:Int)(f:Bool)(g:Lv)(b:List Int)(h:Int)(i:Int) :aE:=⟨ah 57 [(2,.ptr 0 1 0 0),(3,.ptr 1 1 0 0),(4,.ptr 2 1 0 0),(6,.ptr 3 1 0 0)],[(0,.vs [.bool false c,.imm d (.ns .u64 a) 1 1 0 (List.length a),.int .i64 e]),(1,.vs [.bool false f,.imm g (.ns .u64 b) 1 1 0 (List.length b),.int .i64 h]),(2,.vs [.int .i64 (0:Int),.nsl,.nsl]),(3,.vs [.int .i64 i,.nsl,.nsl])],4⟩
def J9(c:List Int)(a:Int)(d:List Int)(b:Int) :T ((Int)⊕(cD)) :=
  .ask ((((List.length c):Nat):Int)==(0:Int))
    (.leaf (.inl b))
    (.ask ((((List.length d):Nat):Int)==(0:Int))
      (.leaf (.inl a))
      (.need (dZ .i64 ((nj a b)-(xc a b)))<|.ask (decide (((nj a b)-(xc a b))>(262144:Int)))
        (.leaf (.inr (.r0 3 (0:Int) ([]:List Int) 0 ([]:List Int) 0)))
        (.leaf (.inl (xc a b)))))
def Ka(a:Int) :(List Int)×Nat×(List Int)×Nat→aE:=fun (b,c,d,e)=>⟨ah 57 [(4,.ptr 0 1 0 0),(6,.ptr 1 1 0 0)],[(0,.vs [.int .i64 (0:Int),.nsl,.nsl]),(1,.vs [.int .i64 a,.imm .free (.ns .u64 b) 1 1 0 c,.imm .free (.ns .u64 d) 1 1 0 e])],2⟩
def Kb(c:List Int)(e:Int)(a:List Int)(d:Int)(b:Int) :T (((List Int)×Nat×(List Int)×Nat)⊕(cD)) :=
  .ask ((((List.length c):Nat):Int)==(0:Int))
    (.ask ((((List.length a):Nat):Int)==(0:Int))
      (.leaf (.inl (([]:List Int),0,([]:List Int),0)))
      (.need (dZ .i64 (d-b))<|.need (aL 0 (List.length a) a)<|.need (pb (gn (aa 0 (List.length a) a) (d-b)))<|.leaf (.inl (([]:List Int),0,(kB (gn (aa 0 (List.length a) a) (d-b))),(kC (gn (aa 0 (List.length a) a) (d-b)))))))
    (.need (dZ .i64 (e-b))<|.need (aL 0 (List.length c) c)<|.need (pb (gn (aa 0 (List.length c) c) (e-b)))<|.ask ((((List.length a):Nat):Int)==(0:Int))
      (.leaf (.inl ((kB (gn (aa 0 (List.length c) c) (e-b))),(kC (gn (aa 0 (List.length c) c) (e-b))),([]:List Int),0)))
      (.need (dZ .i64 (d-b))<|.need (aL 0 (List.length a) a)<|.need (pb (gn (aa 0 (List.length a) a) (d-b)))<|.leaf (.inl ((kB (gn (aa 0 (List.length c) c) (e-b))),(kC (gn (aa 0 (List.length c) c) (e-b))),(kB (gn (aa 0 (List.length a) a) (d-b))),(kC (gn (aa 0 (List.length a) a) (d-b)))))))
def Kc(a:Int)(b:List Int)(c:Nat)(d:List Int)(e:Nat) :T ((Empty)⊕(cD)) :=
  .leaf (.inr (.r0 0 a b c d e))
def cj(a:List Int)(b:Int)(c:List Int)(d:Int) :Option cD:=kx (aN ((J9 a b c d).run) fun e =>
  aN ((Kb a b c d e).run) fun (f,g,h,i) =>
  (Kc e f g h i).run)
theorem Kd(e:Bool)(f:Lv)(a:List Int)(c:Int)(g:Bool)(i:Lv)(b:List Int)(d:Int){x:cD}(h:cj a c b d=some x) :ag prog vi [] [.agg [.bool false e,.imm f (.ns .u64 a) 1 1 0 (List.length a),.int .i64 c],.agg [.bool false g,.imm i (.ns .u64 b) 1 1 0 (List.length b),.int .i64 d]] (vY x) :=
  mf true vY B7 h (Sg.cut 3 zx (bi pK (J8 e f a c g i b d) [⟨[],[0,16,32,176],[2,3,4,6]⟩,⟨[],[0,16,32,176],[2,3,4,6]⟩,⟨[(.cell 32 1,.fre 1 1 (.ns .u64 ([]:List Int))),(.cell 32 2,.fre 1 1 (.ns .u64 ([]:List Int)))],[32],[4,5]⟩,⟨[],[0,16,32,176],[2,3,4,6]⟩]) (fun j=>Sg.cut 2 zx (bi pK (Ka j) [⟨[(.cell 3 1,.fre 1 1 (.ns .u64 ([]:List Int))),(.cell 3 2,.fre 1 1 (.ns .u64 ([]:List Int)))],[2,3],[4,6]⟩,⟨[(.cell 3 1,.fre 1 1 (.ns .u64 ([]:List Int)))],[2,3],[4,6]⟩,⟨[(.cell 3 2,.fre 1 1 (.ns .u64 ([]:List Int)))],[2,3],[4,6]⟩,⟨[],[2,3],[4,6]⟩]) (fun ⟨q,r,s,t⟩=>bi pK lc [⟨[],[0],[4,5]⟩])))
    (fun x=>by cases x with | r0 k l m n o p=>exact kN [.agg [.int .i64 l,.imm .free (.ns .u64 m) 1 1 0 n,.imm .free (.ns .u64 o) 1 1 0 p],.int .i64 ((k:Nat):Int)])
def lq:Option cD→Bool
  | some _=>true
  | none=>false
def mg:Option cD→Nat
  | some (.r0 x _ _ _ _ _)=>x
  | _=>0
def mh:Option cD→Int
  | some (.r0 _ x _ _ _ _)=>x
  | _=>0
def mi:Option cD→List Int
  | some (.r0 _ _ x _ _ _)=>x
  | _=>[]
def mj:Option cD→Nat
  | some (.r0 _ _ _ x _ _)=>x
  | _=>0
def ml:Option cD→List Int
  | some (.r0 _ _ _ _ x _)=>x
  | _=>[]
def mn:Option cD→Nat
  | some (.r0 _ _ _ _ _ x)=>x
  | _=>0
theorem Ke{x:Option cD}(h:lq x=true) :x=some (.r0 (mg x) (mh x) (mi x) (mj x) (ml x) (mn x)):=by
  unfold lq at h
  split at h<;>first | rfl | (cases h;done) | (rename_i y;cases y;rfl)
def B8:aw:=bL vi (.cons (.agg (.cons .bool (.cons (.ns .u64) (.cons (.int .i64) .nil)))) (.cons (.agg (.cons .bool (.cons (.ns .u64) (.cons (.int .i64) .nil)))) .nil)) fun t=>(fun q=>[⟨vY (.r0 (mg q) (mh q) (mi q) (mj q) (ml q) (mn q)),[lq q]⟩]) (cj t.1.2.1.2 t.1.2.2.1 t.2.1.2.1.2 t.2.1.2.2.1)
theorem Fu:aH prog B8:=aJ fun t=>(aK (fun h=>Kd t.1.1 t.1.2.1.1 t.1.2.1.2 t.1.2.2.1 t.2.1.1 t.2.1.2.1.1 t.2.1.2.1.2 t.2.1.2.2.1 (Ke h)) aT)
def B9:List aw:=B8::Iu
theorem mo:aF prog (aD B9):=ap Fu pK
inductive dd where
  | r0 (a:Nat) (b:Bool) (c:List Int) (d:Nat) (e:Nat) (f:Int)
def ES:dd→AE×aE
  | .r0 a b c d e f=>(.ret,⟨ah 11 [(2,.ptr 0 1 0 0),(3,.int .i64 ((a:Nat):Int))],[(0,.vs [.bool false b,.imm .free (.ns .u64 c) 1 1 d e,.int .i64 f])],1⟩)
theorem Ca:jK ES:=by intro x;cases x<;>(intro h;cases h)
def xT:dd→fJ
  | .r0 a b c d e f=>⟨.tup [.agg [.bool false b,.imm .free (.ns .u64 c) 1 1 d e,.int .i64 f],.int .i64 ((a:Nat):Int)],[]⟩
def OR:Bool×(List Int)×Nat×Nat×Int×Bool→aE:=fun (a,b,c,d,e,f)=>⟨ah 11 [(1,.ptr 0 1 0 0),(2,.ptr 1 1 0 0)],[(0,.vs [.bool false a,.imm .free (.ns .u64 b) 1 1 c d,.int .i64 e]),(1,.vs [.bool false f,.nsl,.int .i64 (0:Int)])],2⟩
def OS(b:Bool)(a:List Int)(c:Int) :T ((Bool×(List Int)×Nat×Nat×Int×Bool)⊕(dd)) :=
  .need (aL 0 (List.length a) a)<|.need (dm (an b (aa 0 (List.length a) a) c))<|.leaf (.inl ((bP (an b (aa 0 (List.length a) a) c)),(bQ (an b (aa 0 (List.length a) a) c)),(bR (an b (aa 0 (List.length a) a) c)),(bS (an b (aa 0 (List.length a) a) c)),(bT (an b (aa 0 (List.length a) a) c)),false))
def OT(a:Bool)(b:List Int)(c:Nat)(d:Nat)(e:Int)(f:Bool)(g:Bool) :aE:=⟨ah 11 [(1,.ptr 0 1 0 0),(2,.ptr 1 1 0 0),(8,.bool false g)],[(0,.vs [.bool false a,.imm .free (.ns .u64 b) 1 1 c d,.int .i64 e]),(1,.vs [.bool false f,.nsl,.int .i64 (0:Int)])],2⟩
def OU(a:List Int)(b:Nat)(c:Nat)(d:Int) :T ((Bool)⊕(dd)) :=
  .need (aL b c a)<|.need (fw (cR (aa b c a) d))<|.leaf (.inl (!(ed (cR (aa b c a) d))))
def OV(a:Bool)(b:List Int)(c:Nat)(d:Nat)(e:Int)(f:Bool) :T ((Empty)⊕(dd)) :=
  .ask f
    (.leaf (.inr (.r0 3 false ([]:List Int) 0 0 (0:Int))))
    (.leaf (.inr (.r0 0 a b c d e)))
def bE(e:Bool)(f:List Int)(g:Int) :Option dd:=kx (aN ((OS e f g).run) fun (h,a,b,c,d,j) =>
  aN ((OU a b c d).run) fun i =>
  (OV h a b c d i).run)
theorem OW(b:Bool)(d:Lv)(a:List Int)(c:Int){x:dd}(h:bE b a c=some x) :ag prog xA [] [.agg [.bool false b,.imm d (.ns .u64 a) 1 1 0 (List.length a),.int .i64 c]] (xT x) :=
  mf true xT ES h (Sg.cut 2 Ca (bi mo OR [⟨[],[0,16],[1,2]⟩]) (fun ⟨e,f,g,i,j,k⟩=>Sg.cut 1 Ca (bi mo (OT e f g i j k) [⟨[],[0,1],[1,2,8]⟩]) (fun r=>bi mo lc [⟨[(.cell 1 1,.fre 1 1 (.ns .u64 ([]:List Int)))],[1],[2,3]⟩,⟨[],[1],[2,3]⟩])))
    (fun x=>by cases x with | r0 l m n o p q=>exact kN [.agg [.bool false m,.imm .free (.ns .u64 n) 1 1 o p,.int .i64 q],.int .i64 ((l:Nat):Int)])
def kE:Option dd→Bool
  | some _=>true
  | none=>false
def jY:Option dd→Nat
  | some (.r0 x _ _ _ _ _)=>x
  | _=>0
def jZ:Option dd→Bool
  | some (.r0 _ x _ _ _ _)=>x
  | _=>false
def ka:Option dd→List Int
  | some (.r0 _ _ x _ _ _)=>x
  | _=>[]
def kb:Option dd→Nat
  | some (.r0 _ _ _ x _ _)=>x
  | _=>0
def ke:Option dd→Nat
  | some (.r0 _ _ _ _ x _)=>x
  | _=>0
def kf:Option dd→Int
  | some (.r0 _ _ _ _ _ x)=>x
  | _=>0
theorem OX{x:Option dd}(h:kE x=true) :x=some (.r0 (jY x) (jZ x) (ka x) (kb x) (ke x) (kf x)):=by
  unfold kE at h
  split at h<;>first | rfl | (cases h;done) | (rename_i y;cases y;rfl)
def ET:aw:=bL xA (.cons (.agg (.cons .bool (.cons (.ns .u64) (.cons (.int .i64) .nil)))) .nil) fun t=>(fun q=>[⟨xT (.r0 (jY q) (jZ q) (ka q) (kb q) (ke q) (kf q)),[kE q]⟩]) (bE t.1.1 t.1.2.1.2 t.1.2.2.1)
theorem Iv:aH prog ET:=aJ fun t=>(aK (fun h=>OW t.1.1 t.1.2.1.1 t.1.2.1.2 t.1.2.2.1 (OX h)) aT)
def EU:List aw:=ET::B9
theorem sk:aF prog (aD EU):=ap Iv mo
inductive cU where
  | r0 (a:Nat) (b:Bool) (c:List Int) (d:Nat) (e:Nat) (f:Int)
def Cb:cU→AE×aE
  | .r0 a b c d e f=>(.ret,⟨ah 21 [(7,.ptr 0 1 0 0),(8,.int .i64 ((a:Nat):Int))],[(0,.vs [.bool false b,.imm .free (.ns .u64 c) 1 1 d e,.int .i64 f])],1⟩)
theorem Kf:jK Cb:=by intro x;cases x<;>(intro h;cases h)
def vZ:cU→fJ
  | .r0 a b c d e f=>⟨.tup [.agg [.bool false b,.imm .free (.ns .u64 c) 1 1 d e,.int .i64 f],.int .i64 ((a:Nat):Int)],[]⟩
def Kg:Nat×Bool×(List Int)×Nat×Nat×Int→aE:=fun (a,b,c,d,e,f)=>⟨ah 21 [(7,.ptr 0 1 0 0),(8,.int .i64 ((a:Nat):Int))],[(0,.vs [.bool false b,.imm .free (.ns .u64 c) 1 1 d e,.int .i64 f])],1⟩
def Kh(b:Bool)(a:List Int)(d:Int)(c:Int) :T ((Nat×Bool×(List Int)×Nat×Nat×Int)⊕(cU)) :=
  .ask (d != (0:Int))
    (.leaf (.inr (.r0 3 false ([]:List Int) 0 0 (0:Int))))
    (.need (aL 0 (List.length a) a)<|.need (kE (bE b (aa 0 (List.length a) a) c))<|.leaf (.inl ((jY (bE b (aa 0 (List.length a) a) c)),(jZ (bE b (aa 0 (List.length a) a) c)),(ka (bE b (aa 0 (List.length a) a) c)),(kb (bE b (aa 0 (List.length a) a) c)),(ke (bE b (aa 0 (List.length a) a) c)),(kf (bE b (aa 0 (List.length a) a) c)))))
def Ki(a:Nat)(b:Bool)(c:List Int)(d:Nat)(e:Nat)(f:Int) :T ((Empty)⊕(cU)) :=
  .leaf (.inr (.r0 a b c d e f))
def bk(a:Bool)(b:List Int)(c:Int)(d:Int) :Option cU:=kx (aN ((Kh a b c d).run) fun (e,f,g,h,i,j) =>
  (Ki e f g h i j).run)
theorem Kj(b:Bool)(g:Lv)(a:List Int)(c:Int)(i:Lv)(d:Int)(j:Lv)(e:List Int)(k:Lv)(f:List Int){x:cU}(h:bk b a c d=some x) :ag prog kw [] [.bool false b,.imm g (.ns .u64 a) 1 1 0 (List.length a),.int .i64 c,.iptr i (.vs [.int .i64 d,.imm j (.ns .u64 e) 1 1 0 (List.length e),.imm k (.ns .u64 f) 1 1 0 (List.length f)]) 1 0 0] (vZ x) :=
  mf false vZ Cb h (Sg.cut 4 Kf (bi sk Kg [⟨[(.cell 0 1,.fre 1 1 (.ns .u64 ([]:List Int)))],[0],[7,8]⟩,⟨[],[0],[7,8]⟩]) (fun ⟨r,s,t,u,v,w⟩=>bi sk lc [⟨[],[0],[7,8]⟩]))
    (fun x=>by cases x with | r0 l m n o p q=>exact kN [.agg [.bool false m,.imm .free (.ns .u64 n) 1 1 o p,.int .i64 q],.int .i64 ((l:Nat):Int)])
def jF:Option cU→Bool
  | some _=>true
  | none=>false
def jj:Option cU→Nat
  | some (.r0 x _ _ _ _ _)=>x
  | _=>0
def jk:Option cU→Bool
  | some (.r0 _ x _ _ _ _)=>x
  | _=>false
def jl:Option cU→List Int
  | some (.r0 _ _ x _ _ _)=>x
  | _=>[]
def jm:Option cU→Nat
  | some (.r0 _ _ _ x _ _)=>x
  | _=>0
def jn:Option cU→Nat
  | some (.r0 _ _ _ _ x _)=>x
  | _=>0
def jo:Option cU→Int
  | some (.r0 _ _ _ _ _ x)=>x
  | _=>0
theorem Kk{x:Option cU}(h:jF x=true) :x=some (.r0 (jj x) (jk x) (jl x) (jm x) (jn x) (jo x)):=by
  unfold jF at h
  split at h<;>first | rfl | (cases h;done) | (rename_i y;cases y;rfl)
def Cc:aw:=bL kw (.cons .bool (.cons (.ns .u64) (.cons (.int .i64) (.cons (.ivs (.cons (.int .i64) (.cons (.ns .u64) (.cons (.ns .u64) .nil))) 1 0 0) .nil)))) fun t=>(fun q=>[⟨vZ (.r0 (jj q) (jk q) (jl q) (jm q) (jn q) (jo q)),[jF q]⟩]) (bk t.1 t.2.1.2 t.2.2.1 t.2.2.2.1.2.1)
theorem Fv:aH prog Cc:=aJ fun t=>(aK (fun h=>Kj t.1 t.2.1.1 t.2.1.2 t.2.2.1 t.2.2.2.1.1 t.2.2.2.1.2.1 t.2.2.2.1.2.2.1.1 t.2.2.2.1.2.2.1.2 t.2.2.2.1.2.2.2.1.1 t.2.2.2.1.2.2.2.1.2 (Kk h)) aT)
def Cd:List aw:=Cc::EU
theorem dN:aF prog (aD Cd):=ap Fv sk
inductive cq where
  | r0 (a:Nat) (b:Bool) (c:List Int) (d:Nat) (e:Nat) (f:Int)
def Iw:cq→AE×aE
  | .r0 a b c d e f=>(.ret,⟨ah 97 [(4,.ptr 0 1 0 0),(5,.int .i64 ((a:Nat):Int))],[(0,.vs [.bool false b,.imm .free (.ns .u64 c) 1 1 d e,.int .i64 f])],1⟩)
theorem kg:jK Iw:=by intro x;cases x<;>(intro h;cases h)
def AM:cq→fJ
  | .r0 a b c d e f=>⟨.tup [.agg [.bool false b,.imm .free (.ns .u64 c) 1 1 d e,.int .i64 f],.int .i64 ((a:Nat):Int)],[]⟩
def Tf(a:Lv)(b:Lv) :Nat×Bool×(List Int)×Nat×Nat×Int×Bool×(List Int)×Nat×Nat×Int×Bool→aE:=fun (c,d,e,f,g,h,i,j,k,l,m,n)=>⟨ah 97 [(2,.ptr 0 1 0 0),(3,.ptr 1 1 0 0),(4,.ptr 2 1 0 0),(6,.int .i64 ((c:Nat):Int))],[(0,.vs [.bool false d,.imm a (.ns .u64 e) 1 1 f g,.int .i64 h]),(1,.vs [.bool false i,.imm b (.ns .u64 j) 1 1 k l,.int .i64 m]),(2,.vs [.bool false n,.nsl,.int .i64 (0:Int)])],3⟩
def Tg(d : Bool)(a : List Int)(c : Int)(f : Bool)(b : List Int)(e : Int) : T ((Nat × Bool × (List Int) × Nat × Nat × Int × Bool × (List Int) × Nat × Nat × Int × Bool) ⊕ (cq)) :=
  .ask (decide ((0:Int)<(2:Int)))
    (.need (fI (0:Int) 2)<|.need (aL 0 (List.length a) a)<|.need (fw (cR (aa 0 (List.length a) a) c))<|.ask (!(ed (cR (aa 0 (List.length a) a) c)))
      (.leaf (.inl (2,d,a,0,(List.length a),c,f,b,0,(List.length b),e,false)))
      (.need (aL 0 (List.length a) a)<|.need (dm (an d (aa 0 (List.length a) a) c))<|.need (dZ .i64 (1:Int))<|.ask (decide ((1:Int)<(2:Int)))
        (.need (fI (1:Int) 2)<|.need (aL 0 (List.length b) b)<|.need (fw (cR (aa 0 (List.length b) b) e))<|.ask (!(ed (cR (aa 0 (List.length b) b) e)))
          (.leaf (.inl (2,(bP (an d (aa 0 (List.length a) a) c)),(bQ (an d (aa 0 (List.length a) a) c)),(bR (an d (aa 0 (List.length a) a) c)),(bS (an d (aa 0 (List.length a) a) c)),(bT (an d (aa 0 (List.length a) a) c)),f,b,0,(List.length b),e,false)))
          (.need (aL 0 (List.length b) b)<|.need (dm (an f (aa 0 (List.length b) b) e))<|.need (dZ .i64 (2:Int))<|.ask (decide ((2:Int)<(2:Int)))
            (.fail)
            (.leaf (.inl (0,(bP (an d (aa 0 (List.length a) a) c)),(bQ (an d (aa 0 (List.length a) a) c)),(bR (an d (aa 0 (List.length a) a) c)),(bS (an d (aa 0 (List.length a) a) c)),(bT (an d (aa 0 (List.length a) a) c)),(bP (an f (aa 0 (List.length b) b) e)),(bQ (an f (aa 0 (List.length b) b) e)),(bR (an f (aa 0 (List.length b) b) e)),(bS (an f (aa 0 (List.length b) b) e)),(bT (an f (aa 0 (List.length b) b) e)),false)))))
        (.fail)))
    (.fail)
def Th(a:Lv)(b:Lv)(c:Bool)(d:List Int)(e:Nat)(f:Nat)(g:Int)(h:Bool)(i:List Int)(j:Nat)(k:Nat)(l:Int)(m:Bool) :Nat×Int×(List Int)×Nat×(List Int)×Nat→aE:=fun (n,o,p,q,r,s)=>⟨ah 97 [(2,.ptr 0 1 0 0),(3,.ptr 1 1 0 0),(4,.ptr 2 1 0 0),(7,.ptr 3 1 0 0),(8,.int .i64 ((n:Nat):Int))],[(0,.vs [.bool false c,.imm a (.ns .u64 d) 1 1 e f,.int .i64 g]),(1,.vs [.bool false h,.imm b (.ns .u64 i) 1 1 j k,.int .i64 l]),(2,.vs [.bool false m,.nsl,.int .i64 (0:Int)]),(3,.vs [.int .i64 o,.imm .free (.ns .u64 p) 1 1 0 q,.imm .free (.ns .u64 r) 1 1 0 s])],4⟩
def OY(i:Nat)(a:List Int)(b:Nat)(c:Nat)(g:Int)(d:List Int)(e:Nat)(f:Nat)(h:Int) :T ((Nat×Int×(List Int)×Nat×(List Int)×Nat)⊕(cq)) :=
  .ask (((i:Nat):Int) != (0:Int))
    (.leaf (.inr (.r0 i false ([]:List Int) 0 0 (0:Int))))
    (.need (aL b c a)<|.need (aL e f d)<|.need (lq (cj (aa b c a) g (aa e f d) h))<|.leaf (.inl ((mg (cj (aa b c a) g (aa e f d) h)),(mh (cj (aa b c a) g (aa e f d) h)),(mi (cj (aa b c a) g (aa e f d) h)),(mj (cj (aa b c a) g (aa e f d) h)),(ml (cj (aa b c a) g (aa e f d) h)),(mn (cj (aa b c a) g (aa e f d) h)))))
def Ti(a:Lv)(b:Lv)(c:Bool)(d:List Int)(e:Nat)(f:Nat)(g:Int)(h:Bool)(i:List Int)(j:Nat)(k:Nat)(l:Int)(m:Bool)(n:Int)(o:List Int)(p:Nat)(q:List Int)(r:Nat)(_:Unit) :aE:=⟨ah 97 [(2,.ptr 0 1 0 0),(3,.ptr 1 1 0 0),(4,.ptr 2 1 0 0),(7,.ptr 3 1 0 0),(9,.fn (.func kw) [] [.ptr 3 1 0 0])],[(0,.vs [.bool false c,.imm a (.ns .u64 d) 1 1 e f,.int .i64 g]),(1,.vs [.bool false h,.imm b (.ns .u64 i) 1 1 j k,.int .i64 l]),(2,.vs [.bool false m,.nsl,.int .i64 (0:Int)]),(3,.vs [.int .i64 n,.imm .free (.ns .u64 o) 1 1 0 p,.imm .free (.ns .u64 q) 1 1 0 r])],4⟩
def OZ(e:Bool)(h:Bool)(g:Nat)(f:Int)(a:List Int)(b:Nat)(c:List Int)(d:Nat) :T ((Unit)⊕(cq)) :=
  .ask (((g:Nat):Int) != (0:Int))
    (.leaf (.inr (.r0 g false ([]:List Int) 0 0 (0:Int))))
    (.ask (e==h)
      (.need (aL 0 b a)<|.need (aL 0 d c)<|.need (vu (bj (aa 0 b a) (aa 0 d c)))<|.need (aL (fh (bj (aa 0 b a) (aa 0 d c))) (fi (bj (aa 0 b a) (aa 0 d c))) (fj (bj (aa 0 b a) (aa 0 d c))))<|.need (aL 0 b a)<|.need (aL 0 d c)<|.need (jF (bk e (aa (fh (bj (aa 0 b a) (aa 0 d c))) (fi (bj (aa 0 b a) (aa 0 d c))) (fj (bj (aa 0 b a) (aa 0 d c)))) (((fQ (bj (aa 0 b a) (aa 0 d c))):Nat):Int) f))<|.leaf (.inr (.r0 (jj (bk e (aa (fh (bj (aa 0 b a) (aa 0 d c))) (fi (bj (aa 0 b a) (aa 0 d c))) (fj (bj (aa 0 b a) (aa 0 d c)))) (((fQ (bj (aa 0 b a) (aa 0 d c))):Nat):Int) f)) (jk (bk e (aa (fh (bj (aa 0 b a) (aa 0 d c))) (fi (bj (aa 0 b a) (aa 0 d c))) (fj (bj (aa 0 b a) (aa 0 d c)))) (((fQ (bj (aa 0 b a) (aa 0 d c))):Nat):Int) f)) (jl (bk e (aa (fh (bj (aa 0 b a) (aa 0 d c))) (fi (bj (aa 0 b a) (aa 0 d c))) (fj (bj (aa 0 b a) (aa 0 d c)))) (((fQ (bj (aa 0 b a) (aa 0 d c))):Nat):Int) f)) (jm (bk e (aa (fh (bj (aa 0 b a) (aa 0 d c))) (fi (bj (aa 0 b a) (aa 0 d c))) (fj (bj (aa 0 b a) (aa 0 d c)))) (((fQ (bj (aa 0 b a) (aa 0 d c))):Nat):Int) f)) (jn (bk e (aa (fh (bj (aa 0 b a) (aa 0 d c))) (fi (bj (aa 0 b a) (aa 0 d c))) (fj (bj (aa 0 b a) (aa 0 d c)))) (((fQ (bj (aa 0 b a) (aa 0 d c))):Nat):Int) f)) (jo (bk e (aa (fh (bj (aa 0 b a) (aa 0 d c))) (fi (bj (aa 0 b a) (aa 0 d c))) (fj (bj (aa 0 b a) (aa 0 d c)))) (((fQ (bj (aa 0 b a) (aa 0 d c))):Nat):Int) f)))))
      (.leaf (.inl ())))
def Tj(a:Lv)(b:Lv)(c:Bool)(d:List Int)(e:Nat)(f:Nat)(g:Int)(h:Bool)(i:List Int)(j:Nat)(k:Nat)(l:Int)(m:Bool)(n:Int)(o:List Int)(p:Nat)(q:List Int)(r:Nat)(s:Int) :aE:=⟨ah 97 [(2,.ptr 0 1 0 0),(3,.ptr 1 1 0 0),(4,.ptr 2 1 0 0),(7,.ptr 3 1 0 0),(9,.fn (.func kw) [] [.ptr 3 1 0 0]),(12,.int .i64 s)],[(0,.vs [.bool false c,.imm a (.ns .u64 d) 1 1 e f,.int .i64 g]),(1,.vs [.bool false h,.imm b (.ns .u64 i) 1 1 j k,.int .i64 l]),(2,.vs [.bool false m,.nsl,.int .i64 (0:Int)]),(3,.vs [.int .i64 n,.imm .free (.ns .u64 o) 1 1 0 p,.imm .free (.ns .u64 q) 1 1 0 r])],4⟩
def O0(a:List Int)(b:Nat)(c:List Int)(d:Nat) :T ((Int)⊕(cq)) :=
  .need (aL 0 b a)<|.need (aL 0 d c)<|.need (se (rK (aa 0 b a) (aa 0 d c)))<|.leaf (.inl (rp (rK (aa 0 b a) (aa 0 d c))))
def Tk(a:Lv)(b:Bool)(c:List Int)(d:Nat)(e:Nat)(f:Int)(g:Bool)(h:Int)(i:List Int)(j:Nat)(k:List Int)(l:Nat)(_:Unit) :aE:=⟨ah 97 [(2,.ptr 0 1 0 0),(4,.ptr 1 1 0 0),(7,.ptr 2 1 0 0),(9,.fn (.func kw) [] [.ptr 2 1 0 0])],[(0,.vs [.bool false b,.imm a (.ns .u64 c) 1 1 d e,.int .i64 f]),(1,.vs [.bool false g,.nsl,.int .i64 (0:Int)]),(2,.vs [.int .i64 h,.imm .free (.ns .u64 i) 1 1 0 j,.imm .free (.ns .u64 k) 1 1 0 l])],3⟩
def O1(e:Bool)(f:Int)(a:List Int)(b:Nat)(c:List Int)(d:Nat)(g:Int) :T ((Unit)⊕(cq)) :=
  .ask (decide (g<(0:Int)))
    (.need (aL 0 d c)<|.need (aL 0 b a)<|.need (sh (bb (aa 0 d c) (aa 0 b a)))<|.need (aL (ep (bb (aa 0 d c) (aa 0 b a))) (er (bb (aa 0 d c) (aa 0 b a))) (en (bb (aa 0 d c) (aa 0 b a))))<|.need (aL 0 b a)<|.need (aL 0 d c)<|.need (jF (bk e (aa (ep (bb (aa 0 d c) (aa 0 b a))) (er (bb (aa 0 d c) (aa 0 b a))) (en (bb (aa 0 d c) (aa 0 b a)))) (((fk (bb (aa 0 d c) (aa 0 b a))):Nat):Int) f))<|.leaf (.inr (.r0 (jj (bk e (aa (ep (bb (aa 0 d c) (aa 0 b a))) (er (bb (aa 0 d c) (aa 0 b a))) (en (bb (aa 0 d c) (aa 0 b a)))) (((fk (bb (aa 0 d c) (aa 0 b a))):Nat):Int) f)) (jk (bk e (aa (ep (bb (aa 0 d c) (aa 0 b a))) (er (bb (aa 0 d c) (aa 0 b a))) (en (bb (aa 0 d c) (aa 0 b a)))) (((fk (bb (aa 0 d c) (aa 0 b a))):Nat):Int) f)) (jl (bk e (aa (ep (bb (aa 0 d c) (aa 0 b a))) (er (bb (aa 0 d c) (aa 0 b a))) (en (bb (aa 0 d c) (aa 0 b a)))) (((fk (bb (aa 0 d c) (aa 0 b a))):Nat):Int) f)) (jm (bk e (aa (ep (bb (aa 0 d c) (aa 0 b a))) (er (bb (aa 0 d c) (aa 0 b a))) (en (bb (aa 0 d c) (aa 0 b a)))) (((fk (bb (aa 0 d c) (aa 0 b a))):Nat):Int) f)) (jn (bk e (aa (ep (bb (aa 0 d c) (aa 0 b a))) (er (bb (aa 0 d c) (aa 0 b a))) (en (bb (aa 0 d c) (aa 0 b a)))) (((fk (bb (aa 0 d c) (aa 0 b a))):Nat):Int) f)) (jo (bk e (aa (ep (bb (aa 0 d c) (aa 0 b a))) (er (bb (aa 0 d c) (aa 0 b a))) (en (bb (aa 0 d c) (aa 0 b a)))) (((fk (bb (aa 0 d c) (aa 0 b a))):Nat):Int) f)))))
    (.leaf (.inl ()))
def Tl(a:Lv)(b:Bool)(c:List Int)(d:Nat)(e:Nat)(f:Int)(g:Bool)(h:Int)(i:List Int)(j:Nat)(k:List Int)(l:Nat) :Nat×(List Int)×Nat×Nat→aE:=fun (m,n,o,p)=>⟨ah 97 [(2,.ptr 0 1 0 0),(4,.ptr 1 1 0 0),(8,.int .i64 ((m:Nat):Int)),(9,.fn (.func kw) [] [.ptr 2 1 0 0]),(16,.imm .free (.ns .u64 n) 1 1 o p)],[(0,.vs [.bool false b,.imm a (.ns .u64 c) 1 1 d e,.int .i64 f]),(1,.vs [.bool false g,.nsl,.int .i64 (0:Int)]),(2,.vs [.int .i64 h,.imm .free (.ns .u64 i) 1 1 0 j,.imm .free (.ns .u64 k) 1 1 0 l])],3⟩
def O2(a:List Int)(b:Nat)(c:List Int)(d:Nat) :T ((Nat×(List Int)×Nat×Nat)⊕(cq)) :=
  .need (aL 0 b a)<|.need (aL 0 d c)<|.need (sh (bb (aa 0 b a) (aa 0 d c)))<|.leaf (.inl ((fk (bb (aa 0 b a) (aa 0 d c))),(en (bb (aa 0 b a) (aa 0 d c))),(ep (bb (aa 0 b a) (aa 0 d c))),(er (bb (aa 0 b a) (aa 0 d c)))))
def Tm:Nat×Bool×(List Int)×Nat×Nat×Int→aE:=fun (a,b,c,d,e,f)=>⟨ah 97 [(4,.ptr 0 1 0 0),(5,.int .i64 ((a:Nat):Int))],[(0,.vs [.bool false b,.imm .free (.ns .u64 c) 1 1 d e,.int .i64 f])],1⟩
def O3(d:Bool)(e:Int)(g:List Int)(h:Nat)(i:List Int)(j:Nat)(f:Nat)(a:List Int)(b:Nat)(c:Nat) :T ((Nat×Bool×(List Int)×Nat×Nat×Int)⊕(cq)) :=
  .need (aL b c a)<|.need (aL 0 h g)<|.need (aL 0 j i)<|.need (jF (bk d (aa b c a) ((f:Nat):Int) e))<|.leaf (.inl ((jj (bk d (aa b c a) ((f:Nat):Int) e)),(jk (bk d (aa b c a) ((f:Nat):Int) e)),(jl (bk d (aa b c a) ((f:Nat):Int) e)),(jm (bk d (aa b c a) ((f:Nat):Int) e)),(jn (bk d (aa b c a) ((f:Nat):Int) e)),(jo (bk d (aa b c a) ((f:Nat):Int) e))))
def O4(a:Nat)(b:Bool)(c:List Int)(d:Nat)(e:Nat)(f:Int) :T ((Empty)⊕(cq)) :=
  .leaf (.inr (.r0 a b c d e f))
def bU(h:Bool)(i:List Int)(j:Int)(k:Bool)(l:List Int)(m:Int) :Option cq:=kx (aN ((Tg h i j k l m).run) fun (n,f,o,p,q,r,g,s,t,u,v,I) =>
  aN ((OY n o p q r s t u v).run) fun (w,e,a,b,c,d) =>
  aN ((OZ f g w e a b c d).run) fun _ =>
  aN ((O0 a b c d).run) fun x =>
  aN ((O1 g e a b c d x).run) fun _ =>
  aN ((O2 a b c d).run) fun (y,z,A,B) =>
  aN ((O3 f e a b c d y z A B).run) fun (C,D,E,F,G,H) =>
  (O4 C D E F G H).run)
theorem Tn(v:Bool)(a:Lv)(o:List Int)(w:Int)(y:Bool)(b:Lv)(p:List Int)(z:Int){x:cq}(h:bU v o w y p z=some x) :ag prog Ar [] [.agg [.bool false v,.imm a (.ns .u64 o) 1 1 0 (List.length o),.int .i64 w],.agg [.bool false y,.imm b (.ns .u64 p) 1 1 0 (List.length p),.int .i64 z]] (AM x) :=
  mf true AM Iw h (Sg.cut 2 kg (bi dN (Tf a b) [⟨[],[0,16,32],[2,3,4,6]⟩,⟨[(.cell 0 1,.lev a)],[0,16,32],[2,3,4,6]⟩,⟨[(.cell 0 1,.lev a),(.cell 16 1,.lev b)],[0,16,32],[2,3,4,6]⟩]) (fun ⟨G,c,d,e,f,g,q,r,s,t,u,i⟩=>Sg.cut 3 kg (bi dN (Th a b c d e f g q r s t u i) [⟨[(.cell 2 1,.fre 1 1 (.ns .u64 ([]:List Int)))],[2],[4,5]⟩,⟨[],[0,1,2,131],[2,3,4,7,8]⟩]) (fun ⟨H,j,k,l,m,n⟩=>Sg.cut 5 kg (bi dN (Ti a b c d e f g q r s t u i j k l m n) [⟨[(.cell 2 1,.fre 1 1 (.ns .u64 ([]:List Int)))],[2],[4,5]⟩,⟨[],[2],[4,5]⟩,⟨[],[0,1,2,3],[2,3,4,7,9]⟩]) (fun _=>Sg.cut 1 kg (bi dN (Tj a b c d e f g q r s t u i j k l m n) [⟨[],[0,1,2,3],[2,3,4,7,9,12]⟩]) (fun I=>Sg.cut 2 kg (bi dN (Tk a c d e f g i j k l m n) [⟨[],[2],[4,5]⟩,⟨[],[0,2,3],[2,4,7,9]⟩]) (fun _=>Sg.cut 1 kg (bi dN (Tl a c d e f g i j k l m n) [⟨[],[0,1,2],[2,4,8,9,16]⟩]) (fun ⟨J,K,L,M⟩=>Sg.cut 1 kg (bi dN Tm [⟨[],[1],[4,5]⟩]) (fun ⟨N,O,P,Q,R,S⟩=>bi dN lc [⟨[],[0],[4,5]⟩]))))))))
    (fun x=>by cases x with | r0 A B C D E F=>exact kN [.agg [.bool false B,.imm .free (.ns .u64 C) 1 1 D E,.int .i64 F],.int .i64 ((A:Nat):Int)])
def qn:Option cq→Bool
  | some _=>true
  | none=>false
def jG:Option cq→Nat
  | some (.r0 x _ _ _ _ _)=>x
  | _=>0
def lr:Option cq→Bool
  | some (.r0 _ x _ _ _ _)=>x
  | _=>false
def lu:Option cq→List Int
  | some (.r0 _ _ x _ _ _)=>x
  | _=>[]
def lw:Option cq→Nat
  | some (.r0 _ _ _ x _ _)=>x
  | _=>0
def lx:Option cq→Nat
  | some (.r0 _ _ _ _ x _)=>x
  | _=>0
def ly:Option cq→Int
  | some (.r0 _ _ _ _ _ x)=>x
  | _=>0
theorem To{x:Option cq}(h:qn x=true) :x=some (.r0 (jG x) (lr x) (lu x) (lw x) (lx x) (ly x)):=by
  unfold qn at h
  split at h<;>first | rfl | (cases h;done) | (rename_i y;cases y;rfl)
def Ix:aw:=bL Ar (.cons (.agg (.cons .bool (.cons (.ns .u64) (.cons (.int .i64) .nil)))) (.cons (.agg (.cons .bool (.cons (.ns .u64) (.cons (.int .i64) .nil)))) .nil)) fun t=>(fun q=>[⟨AM (.r0 (jG q) (lr q) (lu q) (lw q) (lx q) (ly q)),[qn q]⟩]) (bU t.1.1 t.1.2.1.2 t.1.2.2.1 t.2.1.1 t.2.1.2.1.2 t.2.1.2.2.1)
theorem Kl:aH prog Ix:=aJ fun t=>(aK (fun h=>Tn t.1.1 t.1.2.1.1 t.1.2.1.2 t.1.2.2.1 t.2.1.1 t.2.1.2.1.1 t.2.1.2.1.2 t.2.1.2.2.1 (To h)) aT)
def Iy:List aw:=Ix::Cd
theorem tT:aF prog (aD Iy):=ap Kl dN
inductive eu where
  | r0 (a:Nat) (b:Bool) (c:List Int) (d:Nat) (e:Nat) (f:Int)
def Iz:eu→AE×aE
  | .r0 a b c d e f=>(.ret,⟨ah 15 [(4,.ptr 0 1 0 0),(5,.int .i64 ((a:Nat):Int))],[(0,.vs [.bool false b,.imm .free (.ns .u64 c) 1 1 d e,.int .i64 f])],1⟩)
theorem Tp:jK Iz:=by intro x;cases x<;>(intro h;cases h)
def AN:eu→fJ
  | .r0 a b c d e f=>⟨.tup [.agg [.bool false b,.imm .free (.ns .u64 c) 1 1 d e,.int .i64 f],.int .i64 ((a:Nat):Int)],[]⟩
def Tq:Nat×Bool×(List Int)×Nat×Nat×Int→aE:=fun (a,b,c,d,e,f)=>⟨ah 15 [(4,.ptr 0 1 0 0),(5,.int .i64 ((a:Nat):Int))],[(0,.vs [.bool false b,.imm .free (.ns .u64 c) 1 1 d e,.int .i64 f])],1⟩
def Tr(c:Bool)(a:List Int)(d:Int)(e:Bool)(b:List Int)(f:Int) :T ((Nat×Bool×(List Int)×Nat×Nat×Int)⊕(eu)) :=
  .need (aL 0 (List.length a) a)<|.need (aL 0 (List.length b) b)<|.need (qn (bU c (aa 0 (List.length a) a) d (!e) (aa 0 (List.length b) b) f))<|.leaf (.inl ((jG (bU c (aa 0 (List.length a) a) d (!e) (aa 0 (List.length b) b) f)),(lr (bU c (aa 0 (List.length a) a) d (!e) (aa 0 (List.length b) b) f)),(lu (bU c (aa 0 (List.length a) a) d (!e) (aa 0 (List.length b) b) f)),(lw (bU c (aa 0 (List.length a) a) d (!e) (aa 0 (List.length b) b) f)),(lx (bU c (aa 0 (List.length a) a) d (!e) (aa 0 (List.length b) b) f)),(ly (bU c (aa 0 (List.length a) a) d (!e) (aa 0 (List.length b) b) f))))
def Ts(a:Nat)(b:Bool)(c:List Int)(d:Nat)(e:Nat)(f:Int) :T ((Empty)⊕(eu)) :=
  .leaf (.inr (.r0 a b c d e f))
def dq(a:Bool)(b:List Int)(c:Int)(d:Bool)(e:List Int)(f:Int) :Option eu:=kx (aN ((Tr a b c d e f).run) fun (g,h,i,j,k,l) =>
  (Ts g h i j k l).run)
theorem Tt(c:Bool)(g:Lv)(a:List Int)(d:Int)(e:Bool)(i:Lv)(b:List Int)(f:Int){x:eu}(h:dq c a d e b f=some x) :ag prog Ao [] [.agg [.bool false c,.imm g (.ns .u64 a) 1 1 0 (List.length a),.int .i64 d],.agg [.bool false e,.imm i (.ns .u64 b) 1 1 0 (List.length b),.int .i64 f]] (AN x) :=
  mf true AN Iz h (Sg.cut 3 Tp (bi tT Tq [⟨[],[32],[4,5]⟩]) (fun ⟨p,q,r,s,t,u⟩=>bi tT lc [⟨[],[0],[4,5]⟩]))
    (fun x=>by cases x with | r0 j k l m n o=>exact kN [.agg [.bool false k,.imm .free (.ns .u64 l) 1 1 m n,.int .i64 o],.int .i64 ((j:Nat):Int)])
def qo:Option eu→Bool
  | some _=>true
  | none=>false
def pL:Option eu→Nat
  | some (.r0 x _ _ _ _ _)=>x
  | _=>0
def pM:Option eu→Bool
  | some (.r0 _ x _ _ _ _)=>x
  | _=>false
def pN:Option eu→List Int
  | some (.r0 _ _ x _ _ _)=>x
  | _=>[]
def pO:Option eu→Nat
  | some (.r0 _ _ _ x _ _)=>x
  | _=>0
def pP:Option eu→Nat
  | some (.r0 _ _ _ _ x _)=>x
  | _=>0
def pQ:Option eu→Int
  | some (.r0 _ _ _ _ _ x)=>x
  | _=>0
theorem Tu{x:Option eu}(h:qo x=true) :x=some (.r0 (pL x) (pM x) (pN x) (pO x) (pP x) (pQ x)):=by
  unfold qo at h
  split at h<;>first | rfl | (cases h;done) | (rename_i y;cases y;rfl)
def IA:aw:=bL Ao (.cons (.agg (.cons .bool (.cons (.ns .u64) (.cons (.int .i64) .nil)))) (.cons (.agg (.cons .bool (.cons (.ns .u64) (.cons (.int .i64) .nil)))) .nil)) fun t=>(fun q=>[⟨AN (.r0 (pL q) (pM q) (pN q) (pO q) (pP q) (pQ q)),[qo q]⟩]) (dq t.1.1 t.1.2.1.2 t.1.2.2.1 t.2.1.1 t.2.1.2.1.2 t.2.1.2.2.1)
theorem Km:aH prog IA:=aJ fun t=>(aK (fun h=>Tt t.1.1 t.1.2.1.1 t.1.2.1.2 t.1.2.2.1 t.2.1.1 t.2.1.2.1.1 t.2.1.2.1.2 t.2.1.2.2.1 (Tu h)) aT)
def IB:List aw:=IA::Iy
theorem lz:aF prog (aD IB):=ap Km tT
inductive dr where
  | r0 (a:Nat) (b:Bool) (c:List Int) (d:Nat) (e:Nat) (f:Int)
def IC:dr→AE×aE
  | .r0 a b c d e f=>(.ret,⟨ah 41 [(4,.ptr 0 1 0 0),(5,.int .i64 ((a:Nat):Int))],[(0,.vs [.bool false b,.imm .free (.ns .u64 c) 1 1 d e,.int .i64 f])],1⟩)
theorem xU:jK IC:=by intro x;cases x<;>(intro h;cases h)
def AO:dr→fJ
  | .r0 a b c d e f=>⟨.tup [.agg [.bool false b,.imm .free (.ns .u64 c) 1 1 d e,.int .i64 f],.int .i64 ((a:Nat):Int)],[]⟩
def Tv(a:Lv)(b:Lv) :Nat×Bool×(List Int)×Nat×Nat×Int×Bool×(List Int)×Nat×Nat×Int×Bool→aE:=fun (c,d,e,f,g,h,i,j,k,l,m,n)=>⟨ah 41 [(2,.ptr 0 1 0 0),(3,.ptr 1 1 0 0),(4,.ptr 2 1 0 0),(6,.int .i64 ((c:Nat):Int))],[(0,.vs [.bool false d,.imm a (.ns .u64 e) 1 1 f g,.int .i64 h]),(1,.vs [.bool false i,.imm b (.ns .u64 j) 1 1 k l,.int .i64 m]),(2,.vs [.bool false n,.nsl,.int .i64 (0:Int)])],3⟩
def Tw(d : Bool)(a : List Int)(c : Int)(f : Bool)(b : List Int)(e : Int) : T ((Nat × Bool × (List Int) × Nat × Nat × Int × Bool × (List Int) × Nat × Nat × Int × Bool) ⊕ (dr)) :=
  .ask (decide ((0:Int)<(2:Int)))
    (.need (fI (0:Int) 2)<|.need (aL 0 (List.length a) a)<|.need (fw (cR (aa 0 (List.length a) a) c))<|.ask (!(ed (cR (aa 0 (List.length a) a) c)))
      (.leaf (.inl (2,d,a,0,(List.length a),c,f,b,0,(List.length b),e,false)))
      (.need (aL 0 (List.length a) a)<|.need (dm (an d (aa 0 (List.length a) a) c))<|.need (dZ .i64 (1:Int))<|.ask (decide ((1:Int)<(2:Int)))
        (.need (fI (1:Int) 2)<|.need (aL 0 (List.length b) b)<|.need (fw (cR (aa 0 (List.length b) b) e))<|.ask (!(ed (cR (aa 0 (List.length b) b) e)))
          (.leaf (.inl (2,(bP (an d (aa 0 (List.length a) a) c)),(bQ (an d (aa 0 (List.length a) a) c)),(bR (an d (aa 0 (List.length a) a) c)),(bS (an d (aa 0 (List.length a) a) c)),(bT (an d (aa 0 (List.length a) a) c)),f,b,0,(List.length b),e,false)))
          (.need (aL 0 (List.length b) b)<|.need (dm (an f (aa 0 (List.length b) b) e))<|.need (dZ .i64 (2:Int))<|.ask (decide ((2:Int)<(2:Int)))
            (.fail)
            (.leaf (.inl (0,(bP (an d (aa 0 (List.length a) a) c)),(bQ (an d (aa 0 (List.length a) a) c)),(bR (an d (aa 0 (List.length a) a) c)),(bS (an d (aa 0 (List.length a) a) c)),(bT (an d (aa 0 (List.length a) a) c)),(bP (an f (aa 0 (List.length b) b) e)),(bQ (an f (aa 0 (List.length b) b) e)),(bR (an f (aa 0 (List.length b) b) e)),(bS (an f (aa 0 (List.length b) b) e)),(bT (an f (aa 0 (List.length b) b) e)),false)))))
        (.fail)))
    (.fail)
def Tx(a:Lv)(b:Lv)(c:Bool)(d:List Int)(e:Nat)(f:Nat)(g:Int)(h:Bool)(i:List Int)(j:Nat)(k:Nat)(l:Int)(m:Bool) :(List Int)×Nat×Nat×Nat→aE:=fun (n,o,p,q)=>⟨ah 41 [(2,.ptr 0 1 0 0),(3,.ptr 1 1 0 0),(4,.ptr 2 1 0 0),(7,.imm .free (.ns .u64 n) 1 1 o p),(8,.int .i64 ((q:Nat):Int))],[(0,.vs [.bool false c,.imm a (.ns .u64 d) 1 1 e f,.int .i64 g]),(1,.vs [.bool false h,.imm b (.ns .u64 i) 1 1 j k,.int .i64 l]),(2,.vs [.bool false m,.nsl,.int .i64 (0:Int)])],3⟩
def Tz(g:Nat)(a:List Int)(b:Nat)(c:Nat)(d:List Int)(e:Nat)(f:Nat) :T (((List Int)×Nat×Nat×Nat)⊕(dr)) :=
  .ask (((g:Nat):Int) != (0:Int))
    (.leaf (.inr (.r0 g false ([]:List Int) 0 0 (0:Int))))
    (.need (aL b c a)<|.need (aL e f d)<|.need (vF (oX (aa b c a) (aa e f d)))<|.leaf (.inl ((vJ (oX (aa b c a) (aa e f d))),(vG (oX (aa b c a) (aa e f d))),(vH (oX (aa b c a) (aa e f d))),(vI (oX (aa b c a) (aa e f d))))))
def TA:Nat×Bool×(List Int)×Nat×Nat×Int→aE:=fun (a,b,c,d,e,f)=>⟨ah 41 [(4,.ptr 0 1 0 0),(5,.int .i64 ((a:Nat):Int))],[(0,.vs [.bool false b,.imm .free (.ns .u64 c) 1 1 d e,.int .i64 f])],1⟩
def TB(f:Bool)(a:Int)(g:Bool)(b:Int)(c:List Int)(d:Nat)(e:Nat)(h:Nat) :T ((Nat×Bool×(List Int)×Nat×Nat×Int)⊕(dr)) :=
  .ask (((h:Nat):Int) != (0:Int))
    (.leaf (.inr (.r0 3 false ([]:List Int) 0 0 (0:Int))))
    (.need (dZ .i64 (a+b))<|.need (aL d e c)<|.need (kE (bE (!(f==g)) (aa d e c) (a+b)))<|.leaf (.inl ((jY (bE (!(f==g)) (aa d e c) (a+b))),(jZ (bE (!(f==g)) (aa d e c) (a+b))),(ka (bE (!(f==g)) (aa d e c) (a+b))),(kb (bE (!(f==g)) (aa d e c) (a+b))),(ke (bE (!(f==g)) (aa d e c) (a+b))),(kf (bE (!(f==g)) (aa d e c) (a+b))))))
def TC(a:Nat)(b:Bool)(c:List Int)(d:Nat)(e:Nat)(f:Int) :T ((Empty)⊕(dr)) :=
  .leaf (.inr (.r0 a b c d e f))
def ai(a:Bool)(b:List Int)(c:Int)(d:Bool)(e:List Int)(f:Int) :Option dr:=kx (aN ((Tw a b c d e f).run) fun (g,h,i,j,k,l,m,n,o,p,q,B) =>
  aN ((Tz g i j k n o p).run) fun (r,s,t,u) =>
  aN ((TB h l m q r s t u).run) fun (v,w,x,y,z,A) =>
  (TC v w x y z A).run)
theorem TD(e:Bool)(a:Lv)(c:List Int)(f:Int)(g:Bool)(b:Lv)(d:List Int)(i:Int){x:dr}(h:ai e c f g d i=some x) :ag prog Al [] [.agg [.bool false e,.imm a (.ns .u64 c) 1 1 0 (List.length c),.int .i64 f],.agg [.bool false g,.imm b (.ns .u64 d) 1 1 0 (List.length d),.int .i64 i]] (AO x) :=
  mf true AO IC h (Sg.cut 2 xU (bi lz (Tv a b) [⟨[],[0,16,32],[2,3,4,6]⟩,⟨[(.cell 0 1,.lev a)],[0,16,32],[2,3,4,6]⟩,⟨[(.cell 0 1,.lev a),(.cell 16 1,.lev b)],[0,16,32],[2,3,4,6]⟩]) (fun ⟨B,j,k,l,m,n,o,p,q,r,s,t⟩=>Sg.cut 3 xU (bi lz (Tx a b j k l m n o p q r s t) [⟨[(.cell 2 1,.fre 1 1 (.ns .u64 ([]:List Int)))],[2],[4,5]⟩,⟨[],[0,1,2],[2,3,4,7,8]⟩]) (fun ⟨C,D,E,F⟩=>Sg.cut 3 xU (bi lz TA [⟨[(.cell 2 1,.fre 1 1 (.ns .u64 ([]:List Int)))],[2],[4,5]⟩,⟨[],[2],[4,5]⟩]) (fun ⟨G,H,I,J,K,L⟩=>bi lz lc [⟨[],[0],[4,5]⟩]))))
    (fun x=>by cases x with | r0 u v w y z A=>exact kN [.agg [.bool false v,.imm .free (.ns .u64 w) 1 1 y z,.int .i64 A],.int .i64 ((u:Nat):Int)])
def kh:Option dr→Bool
  | some _=>true
  | none=>false
def hH:Option dr→Nat
  | some (.r0 x _ _ _ _ _)=>x
  | _=>0
def bC:Option dr→Bool
  | some (.r0 _ x _ _ _ _)=>x
  | _=>false
def bp:Option dr→List Int
  | some (.r0 _ _ x _ _ _)=>x
  | _=>[]
def br:Option dr→Nat
  | some (.r0 _ _ _ x _ _)=>x
  | _=>0
def bt:Option dr→Nat
  | some (.r0 _ _ _ _ x _)=>x
  | _=>0
def bD:Option dr→Int
  | some (.r0 _ _ _ _ _ x)=>x
  | _=>0
theorem TE{x:Option dr}(h:kh x=true) :x=some (.r0 (hH x) (bC x) (bp x) (br x) (bt x) (bD x)):=by
  unfold kh at h
  split at h<;>first | rfl | (cases h;done) | (rename_i y;cases y;rfl)
def ID:aw:=bL Al (.cons (.agg (.cons .bool (.cons (.ns .u64) (.cons (.int .i64) .nil)))) (.cons (.agg (.cons .bool (.cons (.ns .u64) (.cons (.int .i64) .nil)))) .nil)) fun t=>(fun q=>[⟨AO (.r0 (hH q) (bC q) (bp q) (br q) (bt q) (bD q)),[kh q]⟩]) (ai t.1.1 t.1.2.1.2 t.1.2.2.1 t.2.1.1 t.2.1.2.1.2 t.2.1.2.2.1)
theorem Kn:aH prog ID:=aJ fun t=>(aK (fun h=>TD t.1.1 t.1.2.1.1 t.1.2.1.2 t.1.2.2.1 t.2.1.1 t.2.1.2.1.1 t.2.1.2.1.2 t.2.1.2.2.1 (TE h)) aT)
def IE:List aw:=ID::IB
theorem zy:aF prog (aD IE):=ap Kn lz
inductive ir where
  | r0 (a:Int)
def TF:ir→AE×aE
  | .r0 a=>(.ret,⟨ah 11 [(2,.int .i64 a)],[],0⟩)
def xV:ir→fJ
  | .r0 a=>⟨.int .i64 a,[]⟩
def O5(a:Bool)(b:List Int) :T ((Empty)⊕(ir)) :=
  .ask ((((List.length b):Nat):Int)==(0:Int))
    (.leaf (.inr (.r0 (0:Int))))
    (.ask a
      (.leaf (.inr (.r0 (-1:Int))))
      (.leaf (.inr (.r0 (1:Int)))))
def eL(a:Bool)(b:List Int) :Option ir:=kx ((O5 a b).run)
theorem O6(b:Bool)(c:Lv)(a:List Int)(d:Int){x:ir}(h:eL b a=some x) :ag prog xB [] [.agg [.bool false b,.imm c (.ns .u64 a) 1 1 0 (List.length a),.int .i64 d]] (xV x) :=
  mf true xV TF h (bi zy lc [⟨[],[],[2]⟩,⟨[],[],[2]⟩,⟨[],[],[2]⟩])
    (fun x=>by cases x with | r0 e=>exact kN [.int .i64 e])
def iI:Option ir→Bool
  | some _=>true
  | none=>false
def fx:Option ir→Int
  | some (.r0 x)=>x
  | _=>0
theorem O7{x:Option ir}(h:iI x=true) :x=some (.r0 (fx x)):=by
  unfold iI at h
  split at h<;>first | rfl | (cases h;done) | (rename_i y;cases y;rfl)
def EW:aw:=bL xB (.cons (.agg (.cons .bool (.cons (.ns .u64) (.cons (.int .i64) .nil)))) .nil) fun t=>(fun q=>[⟨xV (.r0 (fx q)),[iI q]⟩]) (eL t.1.1 t.1.2.1.2)
theorem IF:aH prog EW:=aJ fun t=>(aK (fun h=>O6 t.1.1 t.1.2.1.1 t.1.2.1.2 t.1.2.2.1 (O7 h)) aT)
def EX:List aw:=EW::IE
theorem ig:aF prog (aD EX):=ap IF zy
inductive fc where
  | r0 (a:Int) (b:Nat)
def IG:fc→AE×aE
  | .r0 a b=>(.ret,⟨ah 52 [(4,.int .i64 a),(5,.int .i64 ((b:Nat):Int))],[],0⟩)
theorem tj:jK IG:=by intro x;cases x<;>(intro h;cases h)
def AP:fc→fJ
  | .r0 a b=>⟨.tup [.int .i64 a,.int .i64 ((b:Nat):Int)],[]⟩
def TG(a:Lv)(b:Lv) :Nat×Bool×(List Int)×Nat×Nat×Int×Bool×(List Int)×Nat×Nat×Int→aE:=fun (c,d,e,f,g,h,i,j,k,l,m)=>⟨ah 52 [(2,.ptr 0 1 0 0),(3,.ptr 1 1 0 0),(6,.int .i64 ((c:Nat):Int))],[(0,.vs [.bool false d,.imm a (.ns .u64 e) 1 1 f g,.int .i64 h]),(1,.vs [.bool false i,.imm b (.ns .u64 j) 1 1 k l,.int .i64 m])],2⟩
def TH(d : Bool)(a : List Int)(c : Int)(f : Bool)(b : List Int)(e : Int) : T ((Nat × Bool × (List Int) × Nat × Nat × Int × Bool × (List Int) × Nat × Nat × Int) ⊕ (fc)) :=
  .ask (decide ((0:Int)<(2:Int)))
    (.need (fI (0:Int) 2)<|.need (aL 0 (List.length a) a)<|.need (fw (cR (aa 0 (List.length a) a) c))<|.ask (!(ed (cR (aa 0 (List.length a) a) c)))
      (.leaf (.inl (2,d,a,0,(List.length a),c,f,b,0,(List.length b),e)))
      (.need (aL 0 (List.length a) a)<|.need (dm (an d (aa 0 (List.length a) a) c))<|.need (dZ .i64 (1:Int))<|.ask (decide ((1:Int)<(2:Int)))
        (.need (fI (1:Int) 2)<|.need (aL 0 (List.length b) b)<|.need (fw (cR (aa 0 (List.length b) b) e))<|.ask (!(ed (cR (aa 0 (List.length b) b) e)))
          (.leaf (.inl (2,(bP (an d (aa 0 (List.length a) a) c)),(bQ (an d (aa 0 (List.length a) a) c)),(bR (an d (aa 0 (List.length a) a) c)),(bS (an d (aa 0 (List.length a) a) c)),(bT (an d (aa 0 (List.length a) a) c)),f,b,0,(List.length b),e)))
          (.need (aL 0 (List.length b) b)<|.need (dm (an f (aa 0 (List.length b) b) e))<|.need (dZ .i64 (2:Int))<|.ask (decide ((2:Int)<(2:Int)))
            (.fail)
            (.leaf (.inl (0,(bP (an d (aa 0 (List.length a) a) c)),(bQ (an d (aa 0 (List.length a) a) c)),(bR (an d (aa 0 (List.length a) a) c)),(bS (an d (aa 0 (List.length a) a) c)),(bT (an d (aa 0 (List.length a) a) c)),(bP (an f (aa 0 (List.length b) b) e)),(bQ (an f (aa 0 (List.length b) b) e)),(bR (an f (aa 0 (List.length b) b) e)),(bS (an f (aa 0 (List.length b) b) e)),(bT (an f (aa 0 (List.length b) b) e)))))))
        (.fail)))
    (.fail)
def TI(a:Lv)(b:Lv)(c:Bool)(d:List Int)(e:Nat)(f:Nat)(g:Int)(h:Bool)(i:List Int)(j:Nat)(k:Nat)(l:Int) :Nat×Int×(List Int)×Nat×(List Int)×Nat→aE:=fun (m,n,o,p,q,r)=>⟨ah 52 [(2,.ptr 0 1 0 0),(3,.ptr 1 1 0 0),(7,.ptr 2 1 0 0),(8,.int .i64 ((m:Nat):Int))],[(0,.vs [.bool false c,.imm a (.ns .u64 d) 1 1 e f,.int .i64 g]),(1,.vs [.bool false h,.imm b (.ns .u64 i) 1 1 j k,.int .i64 l]),(2,.vs [.int .i64 n,.imm .free (.ns .u64 o) 1 1 0 p,.imm .free (.ns .u64 q) 1 1 0 r])],3⟩
def TJ(i:Nat)(a:List Int)(b:Nat)(c:Nat)(g:Int)(d:List Int)(e:Nat)(f:Nat)(h:Int) :T ((Nat×Int×(List Int)×Nat×(List Int)×Nat)⊕(fc)) :=
  .ask (((i:Nat):Int) != (0:Int))
    (.leaf (.inr (.r0 (0:Int) i)))
    (.need (aL b c a)<|.need (aL e f d)<|.need (lq (cj (aa b c a) g (aa e f d) h))<|.leaf (.inl ((mg (cj (aa b c a) g (aa e f d) h)),(mh (cj (aa b c a) g (aa e f d) h)),(mi (cj (aa b c a) g (aa e f d) h)),(mj (cj (aa b c a) g (aa e f d) h)),(ml (cj (aa b c a) g (aa e f d) h)),(mn (cj (aa b c a) g (aa e f d) h)))))
def TK(a:Lv)(b:Lv)(c:Bool)(d:List Int)(e:Nat)(f:Nat)(g:Int)(h:Bool)(i:List Int)(j:Nat)(k:Nat)(l:Int)(m:Int) :aE:=⟨ah 52 [(2,.ptr 0 1 0 0),(3,.ptr 1 1 0 0),(9,.int .i64 m)],[(0,.vs [.bool false c,.imm a (.ns .u64 d) 1 1 e f,.int .i64 g]),(1,.vs [.bool false h,.imm b (.ns .u64 i) 1 1 j k,.int .i64 l])],2⟩
def TL(e:Nat)(a:List Int)(b:Nat)(c:List Int)(d:Nat) :T ((Int)⊕(fc)) :=
  .ask (((e:Nat):Int) != (0:Int))
    (.leaf (.inr (.r0 (0:Int) e)))
    (.need (aL 0 b a)<|.need (aL 0 d c)<|.need (se (rK (aa 0 b a) (aa 0 d c)))<|.leaf (.inl (rp (rK (aa 0 b a) (aa 0 d c)))))
def TM(a:Int)(_:Unit) :aE:=⟨ah 52 [(9,.int .i64 a)],[],0⟩
def TN(g:Bool)(a:List Int)(b:Nat)(c:Nat)(h:Bool)(d:List Int)(e:Nat)(f:Nat)(i:Int) :T ((Unit)⊕(fc)) :=
  .need (aL b c a)<|.need (iI (eL g (aa b c a)))<|.need (aL e f d)<|.need (iI (eL h (aa e f d)))<|.ask ((fx (eL g (aa b c a))) != (fx (eL h (aa e f d))))
    (.need (aL b c a)<|.need (iI (eL g (aa b c a)))<|.need (aL e f d)<|.need (iI (eL h (aa e f d)))<|.need (dZ .i64 ((fx (eL g (aa b c a)))-(fx (eL h (aa e f d)))))<|.leaf (.inr (.r0 (nj (-1:Int) (xc (1:Int) ((fx (eL g (aa b c a)))-(fx (eL h (aa e f d)))))) 0)))
    (.ask g
      (.need (dZ .i64 ((0:Int)-i))<|.leaf (.inr (.r0 ((0:Int)-i) 0)))
      (.leaf (.inl ())))
def O8(a:Int) :T ((Empty)⊕(fc)) :=
  .leaf (.inr (.r0 a 0))
def sm(h:Bool)(i:List Int)(j:Int)(k:Bool)(l:List Int)(m:Int) :Option fc:=kx (aN ((TH h i j k l m).run) fun (n,o,a,b,c,p,q,d,e,f,r) =>
  aN ((TJ n a b c p d e f r).run) fun (s,x,t,u,v,w) =>
  aN ((TL s t u v w).run) fun g =>
  aN ((TN o a b c q d e f g).run) fun _ =>
  (O8 g).run)
theorem TO(e:Bool)(a:Lv)(c:List Int)(f:Int)(g:Bool)(b:Lv)(d:List Int)(i:Int){x:fc}(h:sm e c f g d i=some x) :ag prog Am [] [.agg [.bool false e,.imm a (.ns .u64 c) 1 1 0 (List.length c),.int .i64 f],.agg [.bool false g,.imm b (.ns .u64 d) 1 1 0 (List.length d),.int .i64 i]] (AP x) :=
  mf true AP IG h (Sg.cut 2 tj (bi ig (TG a b) [⟨[],[0,16],[2,3,6]⟩,⟨[(.cell 0 1,.lev a)],[0,16],[2,3,6]⟩,⟨[(.cell 0 1,.lev a),(.cell 16 1,.lev b)],[0,16],[2,3,6]⟩]) (fun ⟨w,j,k,l,m,n,o,p,q,r,s⟩=>Sg.cut 3 tj (bi ig (TI a b j k l m n o p q r s) [⟨[],[],[4,5]⟩,⟨[],[0,1,130],[2,3,7,8]⟩]) (fun ⟨y,z,A,B,C,D⟩=>Sg.cut 3 tj (bi ig (TK a b j k l m n o p q r s) [⟨[],[],[4,5]⟩,⟨[],[0,1],[2,3,9]⟩]) (fun t=>Sg.cut 1 tj (bi ig (TM t) [⟨[],[],[4,5]⟩,⟨[],[],[4,5]⟩,⟨[],[],[9]⟩]) (fun _=>bi ig lc [⟨[],[],[4,5]⟩])))))
    (fun x=>by cases x with | r0 u v=>exact kN [.int .i64 u,.int .i64 ((v:Nat):Int)])
def tk:Option fc→Bool
  | some _=>true
  | none=>false
def tU:Option fc→Int
  | some (.r0 x _)=>x
  | _=>0
def tV:Option fc→Nat
  | some (.r0 _ x)=>x
  | _=>0
theorem TP{x:Option fc}(h:tk x=true) :x=some (.r0 (tU x) (tV x)):=by
  unfold tk at h
  split at h<;>first | rfl | (cases h;done) | (rename_i y;cases y;rfl)
def IH:aw:=bL Am (.cons (.agg (.cons .bool (.cons (.ns .u64) (.cons (.int .i64) .nil)))) (.cons (.agg (.cons .bool (.cons (.ns .u64) (.cons (.int .i64) .nil)))) .nil)) fun t=>(fun q=>[⟨AP (.r0 (tU q) (tV q)),[tk q]⟩]) (sm t.1.1 t.1.2.1.2 t.1.2.2.1 t.2.1.1 t.2.1.2.1.2 t.2.1.2.2.1)
theorem Ko:aH prog IH:=aJ fun t=>(aK (fun h=>TO t.1.1 t.1.2.1.1 t.1.2.1.2 t.1.2.2.1 t.2.1.1 t.2.1.2.1.1 t.2.1.2.1.2 t.2.1.2.2.1 (TP h)) aT)
def II:List aw:=IH::EX
theorem lA:aF prog (aD II):=ap Ko ig
inductive ck where
  | r0 (a:Nat) (b:Bool) (c:List Int) (d:Nat) (e:Nat) (f:Int)
def Ce:ck→AE×aE
  | .r0 a b c d e f=>(.ret,⟨ah 30 [(4,.ptr 0 1 0 0),(5,.int .i64 ((a:Nat):Int))],[(0,.vs [.bool false b,.imm .free (.ns .u64 c) 1 1 d e,.int .i64 f])],1⟩)
theorem tW:jK Ce:=by intro x;cases x<;>(intro h;cases h)
def wa:ck→fJ
  | .r0 a b c d e f=>⟨.tup [.agg [.bool false b,.imm .free (.ns .u64 c) 1 1 d e,.int .i64 f],.int .i64 ((a:Nat):Int)],[]⟩
def Kp(a:Lv)(b:Int) :Nat×Bool×(List Int)×Nat×Nat×Int×Bool→aE:=fun (c,d,e,f,g,h,i)=>⟨ah 30 [(1,.int .i64 b),(2,.ptr 0 1 0 0),(4,.ptr 1 1 0 0),(6,.int .i64 ((c:Nat):Int))],[(0,.vs [.bool false d,.imm a (.ns .u64 e) 1 1 f g,.int .i64 h]),(1,.vs [.bool false i,.nsl,.int .i64 (0:Int)])],2⟩
def Kq(c:Bool)(a:List Int)(b:Int) :T ((Nat×Bool×(List Int)×Nat×Nat×Int×Bool)⊕(ck)) :=
  .ask (decide ((0:Int)<(1:Int)))
    (.need (fI (0:Int) 1)<|.need (aL 0 (List.length a) a)<|.need (fw (cR (aa 0 (List.length a) a) b))<|.ask (!(ed (cR (aa 0 (List.length a) a) b)))
      (.leaf (.inl (2,c,a,0,(List.length a),b,false)))
      (.need (aL 0 (List.length a) a)<|.need (dm (an c (aa 0 (List.length a) a) b))<|.need (dZ .i64 (1:Int))<|.ask (decide ((1:Int)<(1:Int)))
        (.fail)
        (.leaf (.inl (0,(bP (an c (aa 0 (List.length a) a) b)),(bQ (an c (aa 0 (List.length a) a) b)),(bR (an c (aa 0 (List.length a) a) b)),(bS (an c (aa 0 (List.length a) a) b)),(bT (an c (aa 0 (List.length a) a) b)),false)))))
    (.fail)
def Kr(a:Lv)(b:Int)(c:Nat)(d:Bool)(e:List Int)(f:Nat)(g:Nat)(h:Int)(i:Bool)(j:Bool) :aE:=⟨ah 30 [(1,.int .i64 b),(2,.ptr 0 1 0 0),(4,.ptr 1 1 0 0),(6,.int .i64 ((c:Nat):Int)),(16,.bool false j)],[(0,.vs [.bool false d,.imm a (.ns .u64 e) 1 1 f g,.int .i64 h]),(1,.vs [.bool false i,.nsl,.int .i64 (0:Int)])],2⟩
def Ks(a:Nat)(b:Nat) :T ((Bool)⊕(ck)) :=
  .ask (((a:Nat):Int) != (0:Int))
    (.leaf (.inl true))
    (.leaf (.inl (((b:Nat):Int)==(0:Int))))
def Kt:Nat×Bool×(List Int)×Nat×Nat×Int→aE:=fun (a,b,c,d,e,f)=>⟨ah 30 [(4,.ptr 0 1 0 0),(5,.int .i64 ((a:Nat):Int))],[(0,.vs [.bool false b,.imm .free (.ns .u64 c) 1 1 d e,.int .i64 f])],1⟩
def Ku(a:Int)(g:Nat)(f:Bool)(b:List Int)(c:Nat)(d:Nat)(e:Int)(h:Bool) :T ((Nat×Bool×(List Int)×Nat×Nat×Int)⊕(ck)) :=
  .ask h
    (.leaf (.inr (.r0 g false ([]:List Int) 0 0 (0:Int))))
    (.need (dZ .i64 (e+(nj (-1048576:Int) (xc (1048576:Int) a))))<|.need (aL c d b)<|.need (kE (bE f (aa c d b) (e+(nj (-1048576:Int) (xc (1048576:Int) a)))))<|.leaf (.inl ((jY (bE f (aa c d b) (e+(nj (-1048576:Int) (xc (1048576:Int) a))))),(jZ (bE f (aa c d b) (e+(nj (-1048576:Int) (xc (1048576:Int) a))))),(ka (bE f (aa c d b) (e+(nj (-1048576:Int) (xc (1048576:Int) a))))),(kb (bE f (aa c d b) (e+(nj (-1048576:Int) (xc (1048576:Int) a))))),(ke (bE f (aa c d b) (e+(nj (-1048576:Int) (xc (1048576:Int) a))))),(kf (bE f (aa c d b) (e+(nj (-1048576:Int) (xc (1048576:Int) a))))))))
def Kv(a:Nat)(b:Bool)(c:List Int)(d:Nat)(e:Nat)(f:Int) :T ((Empty)⊕(ck)) :=
  .leaf (.inr (.r0 a b c d e f))
def fS(c:Bool)(d:List Int)(e:Int)(f:Int) :Option ck:=kx (aN ((Kq c d e).run) fun (a,g,h,i,b,j,r) =>
  aN ((Ks a b).run) fun k =>
  aN ((Ku f a g h i b j k).run) fun (l,m,n,o,p,q) =>
  (Kv l m n o p q).run)
theorem Kw(d:Bool)(a:Lv)(c:List Int)(e:Int)(b:Int){x:ck}(h:fS d c e b=some x) :ag prog vj [] [.agg [.bool false d,.imm a (.ns .u64 c) 1 1 0 (List.length c),.int .i64 e],.int .i64 b] (wa x) :=
  mf true wa Ce h (Sg.cut 2 tW (bi lA (Kp a b) [⟨[],[0,16],[1,2,4,6]⟩,⟨[(.cell 0 1,.lev a)],[0,16],[1,2,4,6]⟩]) (fun ⟨f,g,i,j,k,l,m⟩=>Sg.cut 1 tW (bi lA (Kr a b f g i j k l m) [⟨[],[0,1],[1,2,4,6,16]⟩,⟨[],[0,1],[1,2,4,6,16]⟩]) (fun t=>Sg.cut 3 tW (bi lA Kt [⟨[(.cell 1 1,.fre 1 1 (.ns .u64 ([]:List Int)))],[1],[4,5]⟩,⟨[],[1],[4,5]⟩]) (fun ⟨u,v,w,y,z,A⟩=>bi lA lc [⟨[],[0],[4,5]⟩]))))
    (fun x=>by cases x with | r0 n o p q r s=>exact kN [.agg [.bool false o,.imm .free (.ns .u64 p) 1 1 q r,.int .i64 s],.int .i64 ((n:Nat):Int)])
def pR:Option ck→Bool
  | some _=>true
  | none=>false
def qy:Option ck→Nat
  | some (.r0 x _ _ _ _ _)=>x
  | _=>0
def qz:Option ck→Bool
  | some (.r0 _ x _ _ _ _)=>x
  | _=>false
def qA:Option ck→List Int
  | some (.r0 _ _ x _ _ _)=>x
  | _=>[]
def qB:Option ck→Nat
  | some (.r0 _ _ _ x _ _)=>x
  | _=>0
def qC:Option ck→Nat
  | some (.r0 _ _ _ _ x _)=>x
  | _=>0
def qD:Option ck→Int
  | some (.r0 _ _ _ _ _ x)=>x
  | _=>0
theorem Kx{x:Option ck}(h:pR x=true) :x=some (.r0 (qy x) (qz x) (qA x) (qB x) (qC x) (qD x)):=by
  unfold pR at h
  split at h<;>first | rfl | (cases h;done) | (rename_i y;cases y;rfl)
def Cf:aw:=bL vj (.cons (.agg (.cons .bool (.cons (.ns .u64) (.cons (.int .i64) .nil)))) (.cons (.int .i64) .nil)) fun t=>(fun q=>[⟨wa (.r0 (qy q) (qz q) (qA q) (qB q) (qC q) (qD q)),[pR q]⟩]) (fS t.1.1 t.1.2.1.2 t.1.2.2.1 t.2.1)
theorem Fw:aH prog Cf:=aJ fun t=>(aK (fun h=>Kw t.1.1 t.1.2.1.1 t.1.2.1.2 t.1.2.2.1 t.2.1 (Kx h)) aT)
def Cg:List aw:=Cf::II
theorem mp:aF prog (aD Cg):=ap Fw lA
inductive cV where
  | r0 (a:Bool) (b:List Int) (c:Nat) (d:Nat) (e:Int)
def Ch:cV→AE×aE
  | .r0 a b c d e=>(.ret,⟨ah 16 [(2,.ptr 0 1 0 0)],[(0,.vs [.bool false a,.imm .free (.ns .u64 b) 1 1 c d,.int .i64 e])],1⟩)
theorem zz:jK Ch:=by intro x;cases x<;>(intro h;cases h)
def wb:cV→fJ
  | .r0 a b c d e=>⟨.agg [.bool false a,.imm .free (.ns .u64 b) 1 1 c d,.int .i64 e],[]⟩
def Ky(a:Int) :Int×Bool→aE:=fun (b,c)=>⟨ah 16 [(0,.int .i64 a),(2,.ptr 0 1 0 0),(3,.int .u64 b)],[(0,.vs [.bool false c,.nsl,.int .i64 (0:Int)])],1⟩
def Kz(a:Int) :T ((Int×Bool)⊕(cV)) :=
  .ask (decide (a<(0:Int)))
    (.leaf (.inl ((IntKind.u64.wrap ((0:Int)-(IntKind.u64.wrap a))),false)))
    (.leaf (.inl ((IntKind.u64.wrap a),false)))
def KA:Bool×(List Int)×Nat×Nat×Int→aE:=fun (a,b,c,d,e)=>⟨ah 16 [(2,.ptr 0 1 0 0)],[(0,.vs [.bool false a,.imm .free (.ns .u64 b) 1 1 c d,.int .i64 e])],1⟩
def KB(b:Int)(a:Int) :T ((Bool×(List Int)×Nat×Nat×Int)⊕(cV)) :=
  .need (uo (ba a))<|.need (aL (cN (ba a)) (cO (ba a)) (cP (ba a)))<|.need (dm (an (decide (b<(0:Int))) (aa (cN (ba a)) (cO (ba a)) (cP (ba a))) (0:Int)))<|.leaf (.inl ((bP (an (decide (b<(0:Int))) (aa (cN (ba a)) (cO (ba a)) (cP (ba a))) (0:Int))),(bQ (an (decide (b<(0:Int))) (aa (cN (ba a)) (cO (ba a)) (cP (ba a))) (0:Int))),(bR (an (decide (b<(0:Int))) (aa (cN (ba a)) (cO (ba a)) (cP (ba a))) (0:Int))),(bS (an (decide (b<(0:Int))) (aa (cN (ba a)) (cO (ba a)) (cP (ba a))) (0:Int))),(bT (an (decide (b<(0:Int))) (aa (cN (ba a)) (cO (ba a)) (cP (ba a))) (0:Int)))))
def KC(a:Bool)(b:List Int)(c:Nat)(d:Nat)(e:Int) :T ((Empty)⊕(cV)) :=
  .leaf (.inr (.r0 a b c d e))
def bH(a:Int) :Option cV:=kx (aN ((Kz a).run) fun (b,h) =>
  aN ((KB a b).run) fun (c,d,e,f,g) =>
  (KC c d e f g).run)
theorem KD(a:Int){x:cV}(h:bH a=some x) :ag prog vg [] [.int .i64 a] (wb x) :=
  mf true wb Ch h (Sg.cut 4 zz (bi mp (Ky a) [⟨[],[0],[0,2,3]⟩,⟨[],[0],[0,2,3]⟩]) (fun ⟨g,i⟩=>Sg.cut 1 zz (bi mp KA [⟨[],[0],[2]⟩]) (fun ⟨j,k,l,m,n⟩=>bi mp lc [⟨[],[0],[2]⟩])))
    (fun x=>by cases x with | r0 b c d e f=>exact kN [.agg [.bool false b,.imm .free (.ns .u64 c) 1 1 d e,.int .i64 f]])
def jH:Option cV→Bool
  | some _=>true
  | none=>false
def jp:Option cV→Bool
  | some (.r0 x _ _ _ _)=>x
  | _=>false
def jq:Option cV→List Int
  | some (.r0 _ x _ _ _)=>x
  | _=>[]
def jr:Option cV→Nat
  | some (.r0 _ _ x _ _)=>x
  | _=>0
def js:Option cV→Nat
  | some (.r0 _ _ _ x _)=>x
  | _=>0
def jt:Option cV→Int
  | some (.r0 _ _ _ _ x)=>x
  | _=>0
theorem KE{x:Option cV}(h:jH x=true) :x=some (.r0 (jp x) (jq x) (jr x) (js x) (jt x)):=by
  unfold jH at h
  split at h<;>first | rfl | (cases h;done) | (rename_i y;cases y;rfl)
def Ci:aw:=bL vg (.cons (.int .i64) .nil) fun t=>(fun q=>[⟨wb (.r0 (jp q) (jq q) (jr q) (js q) (jt q)),[jH q]⟩]) (bH t.1)
theorem Fx:aH prog Ci:=aJ fun t=>(aK (fun h=>KD t.1 (KE h)) aT)
def Cj:List aw:=Ci::Cg
theorem qE:aF prog (aD Cj):=ap Fx mp
inductive fT where
  | r0 (a:Nat)
def Ck:fT→AE×aE
  | .r0 a=>(.ret,⟨ah 26 [(2,.int .i64 ((a:Nat):Int))],[],0⟩)
theorem KF:jK Ck:=by intro x;cases x<;>(intro h;cases h)
def wc:fT→fJ
  | .r0 a=>⟨.int .i64 ((a:Nat):Int),[]⟩
def KG(_:Unit) :aE:=⟨ah 26 [],[],0⟩
def KH(a : Int) : T ((Unit) ⊕ (fT)) :=
  .need (decide ((0:Int)≤(52:Int)))<|.ask ((cG .and .u64 (Int.fdiv a (2^(min (Int.toNat (52:Int)) (IntKind.u64.bits)))) (2047:Int))==(2047:Int))
    (.ask ((cG .and .u64 a (4503599627370495:Int)) != (0:Int))
      (.leaf (.inr (.r0 5)))
      (.ask ((cG .and .u64 (Int.fdiv a (2^(min (Int.toNat (52:Int)) (IntKind.u64.bits)))) (2047:Int))==(2047:Int))
        (.leaf (.inr (.r0 4)))
        (.ask ((cG .and .u64 (Int.fdiv a (2^(min (Int.toNat (52:Int)) (IntKind.u64.bits)))) (2047:Int)) != (0:Int))
          (.leaf (.inr (.r0 3)))
          (.ask ((cG .and .u64 a (4503599627370495:Int)) != (0:Int))
            (.leaf (.inr (.r0 2)))
            (.leaf (.inl ()))))))
    (.ask ((cG .and .u64 (Int.fdiv a (2^(min (Int.toNat (52:Int)) (IntKind.u64.bits)))) (2047:Int))==(2047:Int))
      (.leaf (.inr (.r0 4)))
      (.ask ((cG .and .u64 (Int.fdiv a (2^(min (Int.toNat (52:Int)) (IntKind.u64.bits)))) (2047:Int)) != (0:Int))
        (.leaf (.inr (.r0 3)))
        (.ask ((cG .and .u64 a (4503599627370495:Int)) != (0:Int))
          (.leaf (.inr (.r0 2)))
          (.leaf (.inl ())))))
def KI:T ((Empty)⊕(fT)) :=
  .leaf (.inr (.r0 1))
def ru(a:Int) :Option fT:=kx (aN ((KH a).run) fun _ =>
  (KI).run)
theorem KJ(a:Int){x:fT}(h:ru a=some x) :ag prog BS [] [.int .u64 a] (wc x) :=
  mf false wc Ck h (Sg.cut 3 KF (bi qE KG [⟨[],[],[2]⟩,⟨[],[],[2]⟩,⟨[],[],[2]⟩,⟨[],[],[2]⟩,⟨[],[],[]⟩,⟨[],[],[2]⟩,⟨[],[],[2]⟩,⟨[],[],[2]⟩,⟨[],[],[]⟩]) (fun _=>bi qE lc [⟨[],[],[2]⟩]))
    (fun x=>by cases x with | r0 b=>exact kN [.int .i64 ((b:Nat):Int)])
def pS:Option fT→Bool
  | some _=>true
  | none=>false
def qF:Option fT→Nat
  | some (.r0 x)=>x
  | _=>0
theorem KK{x:Option fT}(h:pS x=true) :x=some (.r0 (qF x)):=by
  unfold pS at h
  split at h<;>first | rfl | (cases h;done) | (rename_i y;cases y;rfl)
def Cl:aw:=bL BS (.cons (.int .u64) .nil) fun t=>(fun q=>[⟨wc (.r0 (qF q)),[pS q]⟩]) (ru t.1)
theorem Fy:aH prog Cl:=aJ fun t=>(aK (fun h=>KJ t.1 (KK h)) aT)
def Cm:List aw:=Cl::Cj
theorem qG:aF prog (aD Cm):=ap Fy qE
inductive dO where
  | r0 (a:Nat) (b:Bool) (c:Int) (d:Int)
def Cn:dO→AE×aE
  | .r0 a b c d=>(.ret,⟨ah 36 [(2,.ptr 0 1 0 0),(3,.int .i64 ((a:Nat):Int))],[(0,.vs [.bool false b,.int .u64 c,.int .i64 d])],1⟩)
theorem KL:jK Cn:=by intro x;cases x<;>(intro h;cases h)
def wd:dO→fJ
  | .r0 a b c d=>⟨.tup [.agg [.bool false b,.int .u64 c,.int .i64 d],.int .i64 ((a:Nat):Int)],[]⟩
def KM(a:Int) :Nat×Bool×Bool×Int→aE:=fun (b,c,d,e)=>⟨ah 36 [(0,.int .u64 a),(2,.ptr 0 1 0 0),(4,.ptr 1 1 0 0),(12,.int .i64 ((b:Nat):Int))],[(0,.vs [.bool false c,.int .u64 (0:Int),.int .i64 (0:Int)]),(1,.vs [.bool false d,.int .u64 e,.int .i64 (-1074:Int)])],2⟩
def KN(a:Int) :T ((Nat×Bool×Bool×Int)⊕(dO)) :=
  .need (decide ((0:Int)≤(63:Int)))<|.need (pS (ru a))<|.leaf (.inl ((qF (ru a)),false,((Int.fdiv a (2^(min (Int.toNat (63:Int)) (IntKind.u64.bits))))==(1:Int)),(cG .and .u64 a (4503599627370495:Int))))
def KO(a:Int)(b:Nat)(c:Bool)(d:Int) :T ((Empty)⊕(dO)) :=
  .ask (((b:Nat):Int)==(3:Int))
    (.need (decide ((0:Int)≤(52:Int)))<|.need (dZ .i64 ((IntKind.i64.wrap (cG .and .u64 (Int.fdiv a (2^(min (Int.toNat (52:Int)) (IntKind.u64.bits)))) (2047:Int)))-(1:Int)))<|.need (dZ .i64 ((-1074:Int)+((IntKind.i64.wrap (cG .and .u64 (Int.fdiv a (2^(min (Int.toNat (52:Int)) (IntKind.u64.bits)))) (2047:Int)))-(1:Int))))<|.leaf (.inr (.r0 0 c (cG .or .u64 d (4503599627370496:Int)) ((-1074:Int)+((IntKind.i64.wrap (cG .and .u64 (Int.fdiv a (2^(min (Int.toNat (52:Int)) (IntKind.u64.bits)))) (2047:Int)))-(1:Int))))))
    (.ask (((b:Nat):Int)==(2:Int))
      (.leaf (.inr (.r0 0 c d (-1074:Int))))
      (.ask (((b:Nat):Int)==(1:Int))
        (.leaf (.inr (.r0 0 c d (0:Int))))
        (.leaf (.inr (.r0 2 false (0:Int) (0:Int))))))
def dP(a:Int) :Option dO:=kx (aN ((KN a).run) fun (b,e,c,d) =>
  (KO a b c d).run)
theorem KP(a:Int){x:dO}(h:dP a=some x) :ag prog BM [] [.int .u64 a] (wd x) :=
  mf false wd Cn h (Sg.cut 3 KL (bi qG (KM a) [⟨[],[0,128],[0,2,4,12]⟩]) (fun ⟨f,g,i,j⟩=>bi qG lc [⟨[],[0],[2,3]⟩,⟨[],[0],[2,3]⟩,⟨[],[0],[2,3]⟩,⟨[],[0],[2,3]⟩]))
    (fun x=>by cases x with | r0 b c d e=>exact kN [.agg [.bool false c,.int .u64 d,.int .i64 e],.int .i64 ((b:Nat):Int)])
def lB:Option dO→Bool
  | some _=>true
  | none=>false
def mq:Option dO→Nat
  | some (.r0 x _ _ _)=>x
  | _=>0
def mr:Option dO→Bool
  | some (.r0 _ x _ _)=>x
  | _=>false
def mt:Option dO→Int
  | some (.r0 _ _ x _)=>x
  | _=>0
def mu:Option dO→Int
  | some (.r0 _ _ _ x)=>x
  | _=>0
theorem KQ{x:Option dO}(h:lB x=true) :x=some (.r0 (mq x) (mr x) (mt x) (mu x)):=by
  unfold lB at h
  split at h<;>first | rfl | (cases h;done) | (rename_i y;cases y;rfl)
def Co:aw:=bL BM (.cons (.int .u64) .nil) fun t=>(fun q=>[⟨wd (.r0 (mq q) (mr q) (mt q) (mu q)),[lB q]⟩]) (dP t.1)
theorem Fz:aH prog Co:=aJ fun t=>(aK (fun h=>KP t.1 (KQ h)) aT)
def Cp:List aw:=Co::Cm
theorem mv:aF prog (aD Cp):=ap Fz qG
inductive fe where
  | r0 (a:Nat) (b:Bool) (c:List Int) (d:Nat) (e:Nat) (f:Int)
def MY:fe→AE×aE
  | .r0 a b c d e f=>(.ret,⟨ah 25 [(2,.ptr 0 1 0 0),(3,.int .i64 ((a:Nat):Int))],[(0,.vs [.bool false b,.imm .free (.ns .u64 c) 1 1 d e,.int .i64 f])],1⟩)
theorem IJ:jK MY:=by intro x;cases x<;>(intro h;cases h)
def DX:fe→fJ
  | .r0 a b c d e f=>⟨.tup [.agg [.bool false b,.imm .free (.ns .u64 c) 1 1 d e,.int .i64 f],.int .i64 ((a:Nat):Int)],[]⟩
def Wr:Nat×Bool×Bool×Int×Int→aE:=fun (a,b,c,d,e)=>⟨ah 25 [(2,.ptr 0 1 0 0),(4,.ptr 1 1 0 0),(5,.int .i64 ((a:Nat):Int))],[(0,.vs [.bool false b,.nsl,.int .i64 (0:Int)]),(1,.vs [.bool false c,.int .u64 d,.int .i64 e])],2⟩
def Ws(a:Nat) :T ((Nat×Bool×Bool×Int×Int)⊕(fe)) :=
  .ask (fne a a)
    (.need (lB (dP (9221120237041090560:Int)))<|.leaf (.inl ((mq (dP (9221120237041090560:Int))),false,(mr (dP (9221120237041090560:Int))),(mt (dP (9221120237041090560:Int))),(mu (dP (9221120237041090560:Int))))))
    (.alt 0
      (.need (!isNaN a)<|.need (lB (dP ((a:Nat):Int)))<|.leaf (.inl ((mq (dP ((a:Nat):Int))),false,(mr (dP ((a:Nat):Int))),(mt (dP ((a:Nat):Int))),(mu (dP ((a:Nat):Int))))))
      (.fail))
def Wt:Bool×(List Int)×Nat×Nat×Int→aE:=fun (a,b,c,d,e)=>⟨ah 25 [(2,.ptr 0 1 0 0),(3,.int .i64 (0:Int))],[(0,.vs [.bool false a,.imm .free (.ns .u64 b) 1 1 c d,.int .i64 e])],1⟩
def Wu(d:Nat)(b:Bool)(a:Int)(c:Int) :T ((Bool×(List Int)×Nat×Nat×Int)⊕(fe)) :=
  .ask (((d:Nat):Int) != (0:Int))
    (.leaf (.inr (.r0 d false ([]:List Int) 0 0 (0:Int))))
    (.need (uo (ba a))<|.need (aL (cN (ba a)) (cO (ba a)) (cP (ba a)))<|.need (dm (an b (aa (cN (ba a)) (cO (ba a)) (cP (ba a))) c))<|.leaf (.inl ((bP (an b (aa (cN (ba a)) (cO (ba a)) (cP (ba a))) c)),(bQ (an b (aa (cN (ba a)) (cO (ba a)) (cP (ba a))) c)),(bR (an b (aa (cN (ba a)) (cO (ba a)) (cP (ba a))) c)),(bS (an b (aa (cN (ba a)) (cO (ba a)) (cP (ba a))) c)),(bT (an b (aa (cN (ba a)) (cO (ba a)) (cP (ba a))) c)))))
def Wv(a:Bool)(b:List Int)(c:Nat)(d:Nat)(e:Int) :T ((Empty)⊕(fe)) :=
  .leaf (.inr (.r0 0 a b c d e))
def ii(a:Nat) :Option fe:=kx (aN ((Ws a).run) fun (b,k,c,d,e) =>
  aN ((Wu b c d e).run) fun (f,g,h,i,j) =>
  (Wv f g h i j).run)
theorem Ww(a:Nat){x:fe}(h:ii a=some x) :ag prog DA [] [.flt false a] (DX x) :=
  mf true DX MY h (Sg.cut 2 IJ (bi mv Wr [⟨[],[0,128],[2,4,5]⟩,⟨[],[0,128],[2,4,5]⟩]) (fun ⟨i,j,k,l,m⟩=>Sg.cut 3 IJ (bi mv Wt [⟨[(.cell 0 1,.fre 1 1 (.ns .u64 ([]:List Int)))],[0],[2,3]⟩,⟨[],[0],[2,3]⟩]) (fun ⟨n,o,p,q,r⟩=>bi mv lc [⟨[],[0],[2,3]⟩])))
    (fun x=>by cases x with | r0 b c d e f g=>exact kN [.agg [.bool false c,.imm .free (.ns .u64 d) 1 1 e f,.int .i64 g],.int .i64 ((b:Nat):Int)])
def we:Option fe→Bool
  | some _=>true
  | none=>false
def Cq:Option fe→Nat
  | some (.r0 x _ _ _ _ _)=>x
  | _=>0
def wg:Option fe→Bool
  | some (.r0 _ x _ _ _ _)=>x
  | _=>false
def rv:Option fe→List Int
  | some (.r0 _ _ x _ _ _)=>x
  | _=>[]
def rx:Option fe→Nat
  | some (.r0 _ _ _ x _ _)=>x
  | _=>0
def ry:Option fe→Nat
  | some (.r0 _ _ _ _ x _)=>x
  | _=>0
def wh:Option fe→Int
  | some (.r0 _ _ _ _ _ x)=>x
  | _=>0
theorem Wx{x:Option fe}(h:we x=true) :x=some (.r0 (Cq x) (wg x) (rv x) (rx x) (ry x) (wh x)):=by
  unfold we at h
  split at h<;>first | rfl | (cases h;done) | (rename_i y;cases y;rfl)
def MZ:aw:=bL DA (.cons (.flt false) .nil) fun t=>(fun q=>[⟨DX (.r0 (Cq q) (wg q) (rv q) (rx q) (ry q) (wh q)),[we q]⟩]) (ii t.1)
theorem O9:aH prog MZ:=aJ fun t=>(aK (fun h=>Ww t.1 (Wx h)) aT)
def M0:List aw:=MZ::Cp
theorem wi:aF prog (aD M0):=ap O9 mv
inductive fU where
  | r0 (a:Bool)
def Cr:fU→AE×aE
  | .r0 a=>(.ret,⟨ah 32 [(2,.bool false a)],[],0⟩)
theorem KR:jK Cr:=by intro x;cases x<;>(intro h;cases h)
def wj:fU→fJ
  | .r0 a=>⟨.bool false a,[]⟩
def KS(a:Bool) :aE:=⟨ah 32 [(2,.bool false a)],[],0⟩
def KT(a:Int)(b:Int)(c:List Nat) :T ((Bool)⊕(fU)) :=
  .ask (decide (a<(0:Int)))
    (.leaf (.inl true))
    (.ask (decide (a>(512:Int)))
      (.leaf (.inl true))
      (.ask (decide (b<(0:Int)))
        (.leaf (.inl true))
        (.ask (decide (b>(512:Int)))
          (.leaf (.inl true))
          (.need (dZ .i64 (a*b))<|.leaf (.inl ((((List.length c):Nat):Int) != (a*b)))))))
def KU(a:Bool) :T ((Empty)⊕(fU)) :=
  .leaf (.inr (.r0 a))
def bI(a:Int)(b:Int)(c:List Nat) :Option fU:=kx (aN ((KT a b c).run) fun d =>
  (KU d).run)
theorem KV(b:Int)(c:Int)(d:Lv)(a:List Nat){x:fU}(h:bI b c a=some x) :ag prog BQ [] [.agg [.int .i64 b,.int .i64 c,.imm d (.fl a) 1 1 0 (List.length a)]] (wj x) :=
  mf false wj Cr h (Sg.cut 2 KR (bi wi KS [⟨[],[],[2]⟩,⟨[],[],[2]⟩,⟨[],[],[2]⟩,⟨[],[],[2]⟩,⟨[],[],[2]⟩]) (fun f=>bi wi lc [⟨[],[],[2]⟩]))
    (fun x=>by cases x with | r0 e=>exact kN [.bool false e])
def dh:Option fU→Bool
  | some _=>true
  | none=>false
def cH:Option fU→Bool
  | some (.r0 x)=>x
  | _=>false
theorem KW{x:Option fU}(h:dh x=true) :x=some (.r0 (cH x)):=by
  unfold dh at h
  split at h<;>first | rfl | (cases h;done) | (rename_i y;cases y;rfl)
def Cs:aw:=bL BQ (.cons (.agg (.cons (.int .i64) (.cons (.int .i64) (.cons .fl .nil)))) .nil) fun t=>(fun q=>[⟨wj (.r0 (cH q)),[dh q]⟩]) (bI t.1.1 t.1.2.1 t.1.2.2.1.2)
theorem FB:aH prog Cs:=aJ fun t=>(aK (fun h=>KV t.1.1 t.1.2.1 t.1.2.2.1.1 t.1.2.2.1.2 (KW h)) aT)
def Ct:List aw:=Cs::M0
theorem mw:aF prog (aD Ct):=ap FB wi
inductive aG where
  | r0 (a:Int)
def cw:aG→AE×aE
  | .r0 a=>(.ret,⟨ah 19 [(4,.int .i64 a)],[],0⟩)
theorem dt:jK cw:=by intro x;cases x<;>(intro h;cases h)
theorem kP(id:Nat) :oU id cw:=by intro x;cases x<;>(intro h;cases h)
def dF:aG→fJ
  | .r0 a=>⟨.int .i64 a,[]⟩
def kQ:List Code:=da (qj mI)
def kR(b:Lv)(a:List Nat)(_:Unit) :aE:=⟨ah 19 [(0,.imm b (.fl a) 1 1 0 (List.length a)),(1,.fn (.func me) [] []),(7,.int .i64 (((List.length a):Nat):Int)),(8,.int .i64 (0:Int))],[],0⟩
def kS:T ((Unit)⊕(aG)) :=
  .leaf (.inl ())
def cm(b:Lv)(a:List Nat)(c:Nat) :aE:=⟨ah 19 [(0,.imm b (.fl a) 1 1 0 (List.length a)),(1,.fn (.func me) [] []),(7,.int .i64 (((List.length a):Nat):Int)),(8,.int .i64 ((c:Nat):Int))],[],0⟩
def fK(_:Unit) :aE:=⟨ah 19 [],[],0⟩
def kT:List Code:=da (fH ((((kQ.drop 2).take 1)).headD .skip))
def kU(b:List Nat)(a:Nat) :T ((Nat)⊕((Unit)⊕(aG))) :=
  .ask (decide (((a:Nat):Int)<(((List.length b):Nat):Int)))
    (.need (fI ((a:Nat):Int) (List.length b))<|.need (gj a (List.length b))<|.ask (fne (List.getD b a 0) (List.getD b a 0))
      (.leaf (.inr (.inr (.r0 ((a:Nat):Int)))))
      (.ask ((0:Int)==(0:Int))
        (.ask (fgt (tJ (List.getD b a 0)) 9218868437227405311)
          (.leaf (.inr (.inr (.r0 ((a:Nat):Int)))))
          (.need (dZ .i64 (((a+1):Nat):Int))<|.leaf (.inl (a+1))))
        (.fail)))
    (.leaf (.inr (.inl ())))
def dn(a:List Nat) :Nat→Option ((Nat)⊕((Unit)⊕(aG))):=fun b =>
  (kU a b).run
theorem kF(b:Lv)(a:List Nat)(c:Nat) :Sg prog [] kT (cm b a c) (dn a c) (cm b a) (dR 0 fK cw):=by
  unfold dn;exact bi mw (cm b a) [⟨[],[],[4]⟩,⟨[],[],[4]⟩,⟨[],[],[0,1,7,8]⟩,⟨[],[],[]⟩]
def kG:T ((Empty)⊕(aG)) :=
  .leaf (.inr (.r0 (-1:Int)))
def am(a:List Nat) :Option aG:=kx (aN ((kS).run) fun _ =>
  aN (ej (dn a) 0) fun _ =>
  (kG).run)
theorem kV(b:Lv)(a:List Nat){x:aG}(h:am a=some x) :ag prog mI [] [.imm b (.fl a) 1 1 0 (List.length a),.fn (.func me) [] []] (dF x) :=
  mf false dF cw h (Sg.cut 2 dt (bi mw (kR b a) [⟨[],[],[0,1,7,8]⟩]) (fun _=>Sg.cut 1 dt (HQ ⟨[],[],[0,1,7,8]⟩ (cm b a) (fK) 0 dt (kP _) (fun c=>kF b a c)) (fun _=>bi mw lc [⟨[],[],[4]⟩])))
    (fun x=>by cases x with | r0 d=>exact kN [.int .i64 d])
def aA:Option aG→Bool
  | some _=>true
  | none=>false
def aB:Option aG→Int
  | some (.r0 x)=>x
  | _=>0
theorem kW{x:Option aG}(h:aA x=true) :x=some (.r0 (aB x)):=by
  unfold aA at h
  split at h<;>first | rfl | (cases h;done) | (rename_i y;cases y;rfl)
def fZ:aw:=bL mI (.cons .fl (.cons (.fn me .nil .nil) .nil)) fun t=>(fun q=>[⟨dF (.r0 (aB q)),[aA q]⟩]) (am t.1.2)
theorem ki:aH prog fZ:=aJ fun t=>(aK (fun h=>kV t.1.1 t.1.2 (kW h)) aT)
def gd:List aw:=fZ::Ct
theorem bh:aF prog (aD gd):=ap ki mw
inductive bY where
  | r0 (a:Nat) (b:Bool) (c:List Int) (d:Nat) (e:Nat) (f:Int)
def Cu:bY→AE×aE
  | .r0 a b c d e f=>(.ret,⟨ah 45 [(4,.ptr 0 1 0 0),(5,.int .i64 ((a:Nat):Int))],[(0,.vs [.bool false b,.imm .free (.ns .u64 c) 1 1 d e,.int .i64 f])],1⟩)
theorem pT:jK Cu:=by intro x;cases x<;>(intro h;cases h)
def wk:bY→fJ
  | .r0 a b c d e f=>⟨.tup [.agg [.bool false b,.imm .free (.ns .u64 c) 1 1 d e,.int .i64 f],.int .i64 ((a:Nat):Int)],[]⟩
def KX(a:Int)(b:Int) :Bool×Bool→aE:=fun (c,d)=>⟨ah 45 [(0,.int .i64 a),(1,.int .i64 b),(4,.ptr 0 1 0 0),(22,.bool false c)],[(0,.vs [.bool false d,.nsl,.int .i64 (0:Int)])],1⟩
def KY(a:Int)(b:Int) :T ((Bool×Bool)⊕(bY)) :=
  .ask (decide (a<(0:Int)))
    (.leaf (.inl (true,false)))
    (.ask (decide (a>(512:Int)))
      (.leaf (.inl (true,false)))
      (.ask (decide (b<(0:Int)))
        (.leaf (.inl (true,false)))
        (.leaf (.inl ((decide (b>(512:Int))),false)))))
def KZ(a:Bool) :Bool×(List Int)×Nat×Nat×Int→aE:=fun (b,c,d,e,f)=>⟨ah 45 [(4,.ptr 0 1 0 0),(6,.ptr 1 1 0 0)],[(0,.vs [.bool false a,.nsl,.int .i64 (0:Int)]),(1,.vs [.bool false b,.imm .free (.ns .u64 c) 1 1 d e,.int .i64 f])],2⟩
def K0(a:Int)(b:Int)(c:Bool) :T ((Bool×(List Int)×Nat×Nat×Int)⊕(bY)) :=
  .ask c
    (.leaf (.inr (.r0 2 false ([]:List Int) 0 0 (0:Int))))
    (.need (dZ .i64 ((64:Int)*(nj a (1:Int))))<|.need (dZ .i64 (((64:Int)*(nj a (1:Int)))*(nj b (1:Int))))<|.need (jH (bH (((64:Int)*(nj a (1:Int)))*(nj b (1:Int)))))<|.leaf (.inl ((jp (bH (((64:Int)*(nj a (1:Int)))*(nj b (1:Int))))),(jq (bH (((64:Int)*(nj a (1:Int)))*(nj b (1:Int))))),(jr (bH (((64:Int)*(nj a (1:Int)))*(nj b (1:Int))))),(js (bH (((64:Int)*(nj a (1:Int)))*(nj b (1:Int))))),(jt (bH (((64:Int)*(nj a (1:Int)))*(nj b (1:Int))))))))
def K1(a:Bool) :Nat×Bool×(List Int)×Nat×Nat×Int→aE:=fun (b,c,d,e,f,g)=>⟨ah 45 [(4,.ptr 0 1 0 0),(7,.ptr 1 1 0 0),(8,.int .i64 ((b:Nat):Int))],[(0,.vs [.bool false a,.nsl,.int .i64 (0:Int)]),(1,.vs [.bool false c,.imm .free (.ns .u64 d) 1 1 e f,.int .i64 g])],2⟩
def K2(d:Bool)(a:List Int)(b:Nat)(c:Nat)(e:Int) :T ((Nat×Bool×(List Int)×Nat×Nat×Int)⊕(bY)) :=
  .need (aL b c a)<|.need (aL b c a)<|.need (kh (ai d (aa b c a) e d (aa b c a) e))<|.leaf (.inl ((hH (ai d (aa b c a) e d (aa b c a) e)),(bC (ai d (aa b c a) e d (aa b c a) e)),(bp (ai d (aa b c a) e d (aa b c a) e)),(br (ai d (aa b c a) e d (aa b c a) e)),(bt (ai d (aa b c a) e d (aa b c a) e)),(bD (ai d (aa b c a) e d (aa b c a) e))))
def K3:Nat×Bool×(List Int)×Nat×Nat×Int→aE:=fun (a,b,c,d,e,f)=>⟨ah 45 [(4,.ptr 0 1 0 0),(5,.int .i64 ((a:Nat):Int))],[(0,.vs [.bool false b,.imm .free (.ns .u64 c) 1 1 d e,.int .i64 f])],1⟩
def K4(f:Nat)(d:Bool)(a:List Int)(b:Nat)(c:Nat)(e:Int) :T ((Nat×Bool×(List Int)×Nat×Nat×Int)⊕(bY)) :=
  .ask (((f:Nat):Int) != (0:Int))
    (.leaf (.inr (.r0 f false ([]:List Int) 0 0 (0:Int))))
    (.need (aL b c a)<|.need (pR (fS d (aa b c a) e (-106:Int)))<|.leaf (.inl ((qy (fS d (aa b c a) e (-106:Int))),(qz (fS d (aa b c a) e (-106:Int))),(qA (fS d (aa b c a) e (-106:Int))),(qB (fS d (aa b c a) e (-106:Int))),(qC (fS d (aa b c a) e (-106:Int))),(qD (fS d (aa b c a) e (-106:Int))))))
def IK(a:Nat)(b:Bool)(c:List Int)(d:Nat)(e:Nat)(f:Int) :T ((Empty)⊕(bY)) :=
  .leaf (.inr (.r0 a b c d e f))
def fV(a:Int)(b:Int) :Option bY:=kx (aN ((KY a b).run) fun (c,u) =>
  aN ((K0 a b c).run) fun (d,e,f,g,h) =>
  aN ((K2 d e f g h).run) fun (i,j,k,l,m,n) =>
  aN ((K4 i j k l m n).run) fun (o,p,q,r,s,t) =>
  (IK o p q r s t).run)
theorem K5(a:Int)(b:Int){x:bY}(h:fV a b=some x) :ag prog vf [] [.int .i64 a,.int .i64 b] (wk x) :=
  mf true wk Cu h (Sg.cut 2 pT (bi bh (KX a b) [⟨[],[0],[0,1,4,22]⟩,⟨[],[0],[0,1,4,22]⟩,⟨[],[0],[0,1,4,22]⟩,⟨[],[0],[0,1,4,22]⟩]) (fun ⟨k,c⟩=>Sg.cut 2 pT (bi bh (KZ c) [⟨[(.cell 0 1,.fre 1 1 (.ns .u64 ([]:List Int)))],[0],[4,5]⟩,⟨[],[0,113],[4,6]⟩]) (fun ⟨l,m,n,o,p⟩=>Sg.cut 1 pT (bi bh (K1 c) [⟨[],[0,98],[4,7,8]⟩]) (fun ⟨q,r,s,t,u,v⟩=>Sg.cut 3 pT (bi bh K3 [⟨[(.cell 0 1,.fre 1 1 (.ns .u64 ([]:List Int)))],[0],[4,5]⟩,⟨[],[0],[4,5]⟩]) (fun ⟨w,y,z,A,B,C⟩=>bi bh lc [⟨[],[0],[4,5]⟩])))))
    (fun x=>by cases x with | r0 d e f g i j=>exact kN [.agg [.bool false e,.imm .free (.ns .u64 f) 1 1 g i,.int .i64 j],.int .i64 ((d:Nat):Int)])
def pU:Option bY→Bool
  | some _=>true
  | none=>false
def qH:Option bY→Nat
  | some (.r0 x _ _ _ _ _)=>x
  | _=>0
def qI:Option bY→Bool
  | some (.r0 _ x _ _ _ _)=>x
  | _=>false
def qJ:Option bY→List Int
  | some (.r0 _ _ x _ _ _)=>x
  | _=>[]
def qK:Option bY→Nat
  | some (.r0 _ _ _ x _ _)=>x
  | _=>0
def qL:Option bY→Nat
  | some (.r0 _ _ _ _ x _)=>x
  | _=>0
def qM:Option bY→Int
  | some (.r0 _ _ _ _ _ x)=>x
  | _=>0
theorem K6{x:Option bY}(h:pU x=true) :x=some (.r0 (qH x) (qI x) (qJ x) (qK x) (qL x) (qM x)):=by
  unfold pU at h
  split at h<;>first | rfl | (cases h;done) | (rename_i y;cases y;rfl)
def Cv:aw:=bL vf (.cons (.int .i64) (.cons (.int .i64) .nil)) fun t=>(fun q=>[⟨wk (.r0 (qH q) (qI q) (qJ q) (qK q) (qL q) (qM q)),[pU q]⟩]) (fV t.1 t.2.1)
theorem FC:aH prog Cv:=aJ fun t=>(aK (fun h=>K5 t.1 t.2.1 (K6 h)) aT)
def Cw:List aw:=Cv::gd
theorem ju:aF prog (aD Cw):=ap FC bh
inductive cE where
  | r0 (a:Nat) (b:List Bool) (c:List (List Int)) (d:List Int)
def rz:cE→AE×aE
  | .r0 a b c d=>(.ret,⟨ah 26 [(2,.sl 0 3 3 0 a a)],[(0,.cols a [.cb b,.cns .u64 c,.ci .i64 d])],1⟩)
theorem pV:jK rz:=by intro x;cases x<;>(intro h;cases h)
theorem K7(id:Nat) :oU id rz:=by intro x;cases x<;>(intro h;cases h)
def wl:cE→fJ
  | .r0 a b c d=>⟨.imm .free (.cols a [.cb b,.cns .u64 c,.ci .i64 d]) 3 3 0 a,[]⟩
def K8:List Code:=da (qj ri)
def K9(b:Lv)(a:List Nat) :(List Bool)×(List (List Int))×(List Int)→aE:=fun (c,d,e)=>⟨ah 26 [(3,.sl 0 3 3 0 (List.length a) (List.length a)),(9,.imm b (.fl a) 1 1 0 (List.length a)),(10,.int .i64 (((List.length a):Nat):Int)),(11,.int .i64 (0:Int))],[(0,.cols (List.length a) [.cb c,.cns .u64 d,.ci .i64 e])],1⟩
def La(a:List Nat) :T (((List Bool)×(List (List Int))×(List Int))⊕(cE)) :=
  .need (decide ((0:Int)≤(((List.length a):Nat):Int)))<|.need (decide ((((List.length a):Nat):Int)≤(((List.length a):Nat):Int)))<|.need (decide ((40:Int)*(((List.length a):Nat):Int)≤140737488355328))<|.need (dZ .i64 (((List.length a):Nat):Int))<|.leaf (.inl ((List.replicate (List.length a) false),(List.replicate (List.length a) []),(List.replicate (List.length a) (0:Int))))
def pW(b:Lv)(a:List Nat) :Nat×(List Bool)×(List (List Int))×(List Int)→aE:=fun (c,d,e,f)=>⟨ah 26 [(3,.sl 0 3 3 0 (List.length a) (List.length a)),(9,.imm b (.fl a) 1 1 0 (List.length a)),(10,.int .i64 (((List.length a):Nat):Int)),(11,.int .i64 ((c:Nat):Int))],[(0,.cols (List.length a) [.cb d,.cns .u64 e,.ci .i64 f])],1⟩
def zA(a:List Nat) :(List Bool)×(List (List Int))×(List Int)→aE:=fun (b,c,d)=>⟨ah 26 [(3,.sl 0 3 3 0 (List.length a) (List.length a))],[(0,.cols (List.length a) [.cb b,.cns .u64 c,.ci .i64 d])],1⟩
def IL:List Code:=da (fH ((((K8.drop 3).take 1)).headD .skip))
def Lb(b:Lv)(a:List Nat)(c:Nat) :(List Bool)×(List (List Int))×(List Int)→aE:=fun (d,e,f)=>⟨ah 26 [(3,.sl 0 3 3 0 (List.length a) (List.length a)),(9,.imm b (.fl a) 1 1 0 (List.length a)),(10,.int .i64 (((List.length a):Nat):Int)),(11,.int .i64 ((c:Nat):Int))],[(0,.cols (List.length a) [.cb d,.cns .u64 e,.ci .i64 f])],1⟩
def IM(b:List Nat)(a:Nat)(c:List Bool)(d:List (List Int))(e:List Int) :T (((List Bool)×(List (List Int))×(List Int))⊕(((List Bool)×(List (List Int))×(List Int))⊕(cE))) :=
  .ask (decide (((a:Nat):Int)<(((List.length b):Nat):Int)))
    (.need (fI ((a:Nat):Int) (List.length b))<|.need (gj a (List.length b))<|.need (we (ii (List.getD b a 0)))<|.need (fI ((a:Nat):Int) (List.length b))<|.need (gj a (List.length c))<|.need (gj a (List.length d))<|.need (decide ((rx (ii (List.getD b a 0)))+(ry (ii (List.getD b a 0)))≤List.length (rv (ii (List.getD b a 0)))))<|.need (gj a (List.length e))<|.leaf (.inl ((List.set c a (wg (ii (List.getD b a 0)))),(List.set d a (List.take (ry (ii (List.getD b a 0))) (List.drop (rx (ii (List.getD b a 0))) (rv (ii (List.getD b a 0)))))),(List.set e a (wh (ii (List.getD b a 0)))))))
    (.leaf (.inr (.inl (c,d,e))))
def IN(a:Nat)(b:List Bool)(c:List (List Int))(d:List Int) :T ((Nat×(List Bool)×(List (List Int))×(List Int))⊕(((List Bool)×(List (List Int))×(List Int))⊕(cE))) :=
  .need (dZ .i64 (((a+1):Nat):Int))<|.leaf (.inl ((a+1),b,c,d))
def sn(b:List Nat) :Nat×(List Bool)×(List (List Int))×(List Int)→Option ((Nat×(List Bool)×(List (List Int))×(List Int))⊕(((List Bool)×(List (List Int))×(List Int))⊕(cE))):=fun (a,c,d,e) =>
  aN ((IM b a c d e).run) fun (f,g,h) =>
  (IN a f g h).run
theorem IP(b:Lv)(a:List Nat)(c:Nat)(d:List Bool)(e:List (List Int))(f:List Int) :Sg prog [] IL (pW b a (c,d,e,f)) (sn a (c,d,e,f)) (pW b a) (dR 0 (zA a) rz):=by
  unfold sn;exact Sg.cut 3 (bc pV) (bi ju (Lb b a c) [⟨[],[0],[3,9,10,11]⟩,⟨[],[0],[3]⟩]) (fun ⟨g,h,i⟩=>bi ju (pW b a) [⟨[],[0],[3,9,10,11]⟩])
def IQ(a:List Nat)(b:List Bool)(c:List (List Int))(d:List Int) :T ((Empty)⊕(cE)) :=
  .leaf (.inr (.r0 (List.length a) b c d))
def aj(a:List Nat) :Option cE:=kx (aN ((La a).run) fun (b,c,d) =>
  aN (ej (sn a) (0,b,c,d)) fun (e,f,g) =>
  (IQ a e f g).run)
theorem Lc(b:Lv)(a:List Nat){x:cE}(h:aj a=some x) :ag prog ri [] [.imm b (.fl a) 1 1 0 (List.length a)] (wl x) :=
  mf true wl rz h (Sg.cut 3 pV (bi ju (K9 b a) [⟨[],[48],[3,9,10,11]⟩]) (fun ⟨i,j,k⟩=>Sg.cut 1 pV (HQ ⟨[],[0],[3,9,10,11]⟩ (pW b a) (zA a) 0 pV (K7 _) (fun ⟨d,e,f,g⟩=>IP b a d e f g)) (fun ⟨l,m,n⟩=>bi ju lc [⟨[],[0],[2]⟩])))
    (fun x=>by cases x with | r0 c o p q=>exact kN [.sl 0 3 3 0 c c])
def fm:Option cE→Bool
  | some _=>true
  | none=>false
def ax:Option cE→Nat
  | some (.r0 x _ _ _)=>x
  | _=>0
def bM:Option cE→List Bool
  | some (.r0 _ x _ _)=>x
  | _=>[]
def bN:Option cE→List (List Int)
  | some (.r0 _ _ x _)=>x
  | _=>[]
def bO:Option cE→List Int
  | some (.r0 _ _ _ x)=>x
  | _=>[]
theorem Ld{x:Option cE}(h:fm x=true) :x=some (.r0 (ax x) (bM x) (bN x) (bO x)):=by
  unfold fm at h
  split at h<;>first | rfl | (cases h;done) | (rename_i y;cases y;rfl)
def Cx:aw:=bL ri (.cons .fl .nil) fun t=>(fun q=>[⟨wl (.r0 (ax q) (bM q) (bN q) (bO q)),[fm q]⟩]) (aj t.1.2)
theorem FD:aH prog Cx:=aJ fun t=>(aK (fun h=>Lc t.1.1 t.1.2 (Ld h)) aT)
def Cy:List aw:=Cx::Cw
theorem gH:aF prog (aD Cy):=ap FD ju
inductive cS where
  | r0 (a:Nat) (b:Bool) (c:List Int) (d:Nat) (e:Nat) (f:Int)
def wn:cS→AE×aE
  | .r0 a b c d e f=>(.ret,⟨ah 51 [(4,.ptr 0 1 0 0),(5,.int .i64 ((a:Nat):Int))],[(0,.vs [.bool false b,.imm .free (.ns .u64 c) 1 1 d e,.int .i64 f])],1⟩)
theorem mX:jK wn:=by intro x;cases x<;>(intro h;cases h)
theorem TQ(id:Nat) :oU id wn:=by intro x;cases x<;>(intro h;cases h)
def AQ:cS→fJ
  | .r0 a b c d e f=>⟨.tup [.agg [.bool false b,.imm .free (.ns .u64 c) 1 1 d e,.int .i64 f],.int .i64 ((a:Nat):Int)],[]⟩
def wo:List Code:=da (qj vk)
def TR(c:Lv)(a:Nat)(d:List Bool)(e:List (List Int))(f:List Int)(g:Lv)(b:Nat)(h:List Bool)(i:List (List Int))(j:List Int)(k:Bool) :aE:=⟨ah 51 [(0,.imm c (.cols a [.cb d,.cns .u64 e,.ci .i64 f]) 3 3 0 a),(1,.imm g (.cols b [.cb h,.cns .u64 i,.ci .i64 j]) 3 3 0 b),(4,.ptr 0 1 0 0)],[(0,.vs [.bool false k,.nsl,.int .i64 (0:Int)])],1⟩
def Pa:T ((Bool)⊕(cS)) :=
  .leaf (.inl false)
def Pb:List Code:=da (yP (((wo.drop 1)).headD .skip))
def TS(c:Lv)(a:Nat)(d:List Bool)(e:List (List Int))(f:List Int)(g:Lv)(b:Nat)(h:List Bool)(i:List (List Int))(j:List Int)(k:Bool)(l:Bool) :aE:=⟨ah 51 [(0,.imm c (.cols a [.cb d,.cns .u64 e,.ci .i64 f]) 3 3 0 a),(1,.imm g (.cols b [.cb h,.cns .u64 i,.ci .i64 j]) 3 3 0 b),(4,.ptr 0 1 0 0),(6,.ptr 1 1 0 0),(7,.int .i64 (0:Int)),(18,.int .i64 ((a:Nat):Int)),(19,.int .i64 (0:Int))],[(0,.vs [.bool false k,.nsl,.int .i64 (0:Int)]),(1,.vs [.bool false l,.nsl,.int .i64 (0:Int)])],2⟩
def Pc(a:Nat)(b:Nat) :T ((Bool)⊕(cS)) :=
  .ask (((a:Nat):Int) != ((b:Nat):Int))
    (.leaf (.inr (.r0 2 false ([]:List Int) 0 0 (0:Int))))
    (.leaf (.inl false))
def tl(c:Lv)(a:Nat)(d:List Bool)(e:List (List Int))(f:List Int)(g:Lv)(b:Nat)(h:List Bool)(i:List (List Int))(j:List Int)(k:Bool) :Nat×Nat×Bool×(List Int)×Nat×Nat×Int→aE:=fun (l,m,n,o,p,q,r)=>⟨ah 51 [(0,.imm c (.cols a [.cb d,.cns .u64 e,.ci .i64 f]) 3 3 0 a),(1,.imm g (.cols b [.cb h,.cns .u64 i,.ci .i64 j]) 3 3 0 b),(4,.ptr 0 1 0 0),(6,.ptr 1 1 0 0),(7,.int .i64 ((l:Nat):Int)),(18,.int .i64 ((a:Nat):Int)),(19,.int .i64 ((m:Nat):Int))],[(0,.vs [.bool false k,.nsl,.int .i64 (0:Int)]),(1,.vs [.bool false n,.imm .free (.ns .u64 o) 1 1 p q,.int .i64 r])],2⟩
def Cz(a:Bool) :Nat×Bool×(List Int)×Nat×Nat×Int→aE:=fun (b,c,d,e,f,g)=>⟨ah 51 [(4,.ptr 0 1 0 0),(6,.ptr 1 1 0 0),(7,.int .i64 ((b:Nat):Int))],[(0,.vs [.bool false a,.nsl,.int .i64 (0:Int)]),(1,.vs [.bool false c,.imm .free (.ns .u64 d) 1 1 e f,.int .i64 g])],2⟩
def Pd:List Code:=da (fH ((((Pb.drop 5).take 1)).headD .skip))
def Pe(c:Lv)(a:Nat)(d:List Bool)(e:List (List Int))(f:List Int)(g:Lv)(b:Nat)(h:List Bool)(i:List (List Int))(j:List Int)(k:Bool)(l:Nat) :Nat×Bool×(List Int)×Nat×Nat×Int→aE:=fun (m,n,o,p,q,r)=>⟨ah 51 [(0,.imm c (.cols a [.cb d,.cns .u64 e,.ci .i64 f]) 3 3 0 a),(1,.imm g (.cols b [.cb h,.cns .u64 i,.ci .i64 j]) 3 3 0 b),(4,.ptr 0 1 0 0),(6,.ptr 1 1 0 0),(7,.int .i64 ((m:Nat):Int)),(18,.int .i64 ((a:Nat):Int)),(19,.int .i64 ((l:Nat):Int))],[(0,.vs [.bool false k,.nsl,.int .i64 (0:Int)]),(1,.vs [.bool false n,.imm .free (.ns .u64 o) 1 1 p q,.int .i64 r])],2⟩
def Pf(m:Nat)(d:List Bool)(b:List (List Int))(e:List Int)(n:Nat)(f:List Bool)(c:List (List Int))(g:List Int)(o:Nat)(a:Nat)(k:Bool)(h:List Int)(i:Nat)(j:Nat)(l:Int) :T ((Nat×Bool×(List Int)×Nat×Nat×Int)⊕((Nat×Bool×(List Int)×Nat×Nat×Int)⊕(cS))) :=
  .ask (decide (((a:Nat):Int)<((m:Nat):Int)))
    (.need (fI ((a:Nat):Int) m)<|.need (gj a (List.length d))<|.need (gj a (List.length b))<|.need (gj a (List.length e))<|.need (fI ((a:Nat):Int) n)<|.need (gj a (List.length f))<|.need (gj a (List.length c))<|.need (gj a (List.length g))<|.need (aL 0 (List.length (List.getD b a [])) (List.getD b a []))<|.need (aL 0 (List.length (List.getD c a [])) (List.getD c a []))<|.need (kh (ai (List.getD d a false) (aa 0 (List.length (List.getD b a [])) (List.getD b a [])) (List.getD e a 0) (List.getD f a false) (aa 0 (List.length (List.getD c a [])) (List.getD c a [])) (List.getD g a 0)))<|.ask ((((hH (ai (List.getD d a false) (aa 0 (List.length (List.getD b a [])) (List.getD b a [])) (List.getD e a 0) (List.getD f a false) (aa 0 (List.length (List.getD c a [])) (List.getD c a [])) (List.getD g a 0))):Nat):Int) != (0:Int))
      (.leaf (.inr (.inl ((hH (ai (List.getD d a false) (aa 0 (List.length (List.getD b a [])) (List.getD b a [])) (List.getD e a 0) (List.getD f a false) (aa 0 (List.length (List.getD c a [])) (List.getD c a [])) (List.getD g a 0))),k,h,i,j,l))))
      (.need (aL i j h)<|.need (aL (br (ai (List.getD d a false) (aa 0 (List.length (List.getD b a [])) (List.getD b a [])) (List.getD e a 0) (List.getD f a false) (aa 0 (List.length (List.getD c a [])) (List.getD c a [])) (List.getD g a 0))) (bt (ai (List.getD d a false) (aa 0 (List.length (List.getD b a [])) (List.getD b a [])) (List.getD e a 0) (List.getD f a false) (aa 0 (List.length (List.getD c a [])) (List.getD c a [])) (List.getD g a 0))) (bp (ai (List.getD d a false) (aa 0 (List.length (List.getD b a [])) (List.getD b a [])) (List.getD e a 0) (List.getD f a false) (aa 0 (List.length (List.getD c a [])) (List.getD c a [])) (List.getD g a 0))))<|.need (qn (bU k (aa i j h) l (bC (ai (List.getD d a false) (aa 0 (List.length (List.getD b a [])) (List.getD b a [])) (List.getD e a 0) (List.getD f a false) (aa 0 (List.length (List.getD c a [])) (List.getD c a [])) (List.getD g a 0))) (aa (br (ai (List.getD d a false) (aa 0 (List.length (List.getD b a [])) (List.getD b a [])) (List.getD e a 0) (List.getD f a false) (aa 0 (List.length (List.getD c a [])) (List.getD c a [])) (List.getD g a 0))) (bt (ai (List.getD d a false) (aa 0 (List.length (List.getD b a [])) (List.getD b a [])) (List.getD e a 0) (List.getD f a false) (aa 0 (List.length (List.getD c a [])) (List.getD c a [])) (List.getD g a 0))) (bp (ai (List.getD d a false) (aa 0 (List.length (List.getD b a [])) (List.getD b a [])) (List.getD e a 0) (List.getD f a false) (aa 0 (List.length (List.getD c a [])) (List.getD c a [])) (List.getD g a 0)))) (bD (ai (List.getD d a false) (aa 0 (List.length (List.getD b a [])) (List.getD b a [])) (List.getD e a 0) (List.getD f a false) (aa 0 (List.length (List.getD c a [])) (List.getD c a [])) (List.getD g a 0)))))<|.ask ((((jG (bU k (aa i j h) l (bC (ai (List.getD d a false) (aa 0 (List.length (List.getD b a [])) (List.getD b a [])) (List.getD e a 0) (List.getD f a false) (aa 0 (List.length (List.getD c a [])) (List.getD c a [])) (List.getD g a 0))) (aa (br (ai (List.getD d a false) (aa 0 (List.length (List.getD b a [])) (List.getD b a [])) (List.getD e a 0) (List.getD f a false) (aa 0 (List.length (List.getD c a [])) (List.getD c a [])) (List.getD g a 0))) (bt (ai (List.getD d a false) (aa 0 (List.length (List.getD b a [])) (List.getD b a [])) (List.getD e a 0) (List.getD f a false) (aa 0 (List.length (List.getD c a [])) (List.getD c a [])) (List.getD g a 0))) (bp (ai (List.getD d a false) (aa 0 (List.length (List.getD b a [])) (List.getD b a [])) (List.getD e a 0) (List.getD f a false) (aa 0 (List.length (List.getD c a [])) (List.getD c a [])) (List.getD g a 0)))) (bD (ai (List.getD d a false) (aa 0 (List.length (List.getD b a [])) (List.getD b a [])) (List.getD e a 0) (List.getD f a false) (aa 0 (List.length (List.getD c a [])) (List.getD c a [])) (List.getD g a 0))))):Nat):Int) != (0:Int))
        (.leaf (.inr (.inl ((jG (bU k (aa i j h) l (bC (ai (List.getD d a false) (aa 0 (List.length (List.getD b a [])) (List.getD b a [])) (List.getD e a 0) (List.getD f a false) (aa 0 (List.length (List.getD c a [])) (List.getD c a [])) (List.getD g a 0))) (aa (br (ai (List.getD d a false) (aa 0 (List.length (List.getD b a [])) (List.getD b a [])) (List.getD e a 0) (List.getD f a false) (aa 0 (List.length (List.getD c a [])) (List.getD c a [])) (List.getD g a 0))) (bt (ai (List.getD d a false) (aa 0 (List.length (List.getD b a [])) (List.getD b a [])) (List.getD e a 0) (List.getD f a false) (aa 0 (List.length (List.getD c a [])) (List.getD c a [])) (List.getD g a 0))) (bp (ai (List.getD d a false) (aa 0 (List.length (List.getD b a [])) (List.getD b a [])) (List.getD e a 0) (List.getD f a false) (aa 0 (List.length (List.getD c a [])) (List.getD c a [])) (List.getD g a 0)))) (bD (ai (List.getD d a false) (aa 0 (List.length (List.getD b a [])) (List.getD b a [])) (List.getD e a 0) (List.getD f a false) (aa 0 (List.length (List.getD c a [])) (List.getD c a [])) (List.getD g a 0))))),(lr (bU k (aa i j h) l (bC (ai (List.getD d a false) (aa 0 (List.length (List.getD b a [])) (List.getD b a [])) (List.getD e a 0) (List.getD f a false) (aa 0 (List.length (List.getD c a [])) (List.getD c a [])) (List.getD g a 0))) (aa (br (ai (List.getD d a false) (aa 0 (List.length (List.getD b a [])) (List.getD b a [])) (List.getD e a 0) (List.getD f a false) (aa 0 (List.length (List.getD c a [])) (List.getD c a [])) (List.getD g a 0))) (bt (ai (List.getD d a false) (aa 0 (List.length (List.getD b a [])) (List.getD b a [])) (List.getD e a 0) (List.getD f a false) (aa 0 (List.length (List.getD c a [])) (List.getD c a [])) (List.getD g a 0))) (bp (ai (List.getD d a false) (aa 0 (List.length (List.getD b a [])) (List.getD b a [])) (List.getD e a 0) (List.getD f a false) (aa 0 (List.length (List.getD c a [])) (List.getD c a [])) (List.getD g a 0)))) (bD (ai (List.getD d a false) (aa 0 (List.length (List.getD b a [])) (List.getD b a [])) (List.getD e a 0) (List.getD f a false) (aa 0 (List.length (List.getD c a [])) (List.getD c a [])) (List.getD g a 0))))),(lu (bU k (aa i j h) l (bC (ai (List.getD d a false) (aa 0 (List.length (List.getD b a [])) (List.getD b a [])) (List.getD e a 0) (List.getD f a false) (aa 0 (List.length (List.getD c a [])) (List.getD c a [])) (List.getD g a 0))) (aa (br (ai (List.getD d a false) (aa 0 (List.length (List.getD b a [])) (List.getD b a [])) (List.getD e a 0) (List.getD f a false) (aa 0 (List.length (List.getD c a [])) (List.getD c a [])) (List.getD g a 0))) (bt (ai (List.getD d a false) (aa 0 (List.length (List.getD b a [])) (List.getD b a [])) (List.getD e a 0) (List.getD f a false) (aa 0 (List.length (List.getD c a [])) (List.getD c a [])) (List.getD g a 0))) (bp (ai (List.getD d a false) (aa 0 (List.length (List.getD b a [])) (List.getD b a [])) (List.getD e a 0) (List.getD f a false) (aa 0 (List.length (List.getD c a [])) (List.getD c a [])) (List.getD g a 0)))) (bD (ai (List.getD d a false) (aa 0 (List.length (List.getD b a [])) (List.getD b a [])) (List.getD e a 0) (List.getD f a false) (aa 0 (List.length (List.getD c a [])) (List.getD c a [])) (List.getD g a 0))))),(lw (bU k (aa i j h) l (bC (ai (List.getD d a false) (aa 0 (List.length (List.getD b a [])) (List.getD b a [])) (List.getD e a 0) (List.getD f a false) (aa 0 (List.length (List.getD c a [])) (List.getD c a [])) (List.getD g a 0))) (aa (br (ai (List.getD d a false) (aa 0 (List.length (List.getD b a [])) (List.getD b a [])) (List.getD e a 0) (List.getD f a false) (aa 0 (List.length (List.getD c a [])) (List.getD c a [])) (List.getD g a 0))) (bt (ai (List.getD d a false) (aa 0 (List.length (List.getD b a [])) (List.getD b a [])) (List.getD e a 0) (List.getD f a false) (aa 0 (List.length (List.getD c a [])) (List.getD c a [])) (List.getD g a 0))) (bp (ai (List.getD d a false) (aa 0 (List.length (List.getD b a [])) (List.getD b a [])) (List.getD e a 0) (List.getD f a false) (aa 0 (List.length (List.getD c a [])) (List.getD c a [])) (List.getD g a 0)))) (bD (ai (List.getD d a false) (aa 0 (List.length (List.getD b a [])) (List.getD b a [])) (List.getD e a 0) (List.getD f a false) (aa 0 (List.length (List.getD c a [])) (List.getD c a [])) (List.getD g a 0))))),(lx (bU k (aa i j h) l (bC (ai (List.getD d a false) (aa 0 (List.length (List.getD b a [])) (List.getD b a [])) (List.getD e a 0) (List.getD f a false) (aa 0 (List.length (List.getD c a [])) (List.getD c a [])) (List.getD g a 0))) (aa (br (ai (List.getD d a false) (aa 0 (List.length (List.getD b a [])) (List.getD b a [])) (List.getD e a 0) (List.getD f a false) (aa 0 (List.length (List.getD c a [])) (List.getD c a [])) (List.getD g a 0))) (bt (ai (List.getD d a false) (aa 0 (List.length (List.getD b a [])) (List.getD b a [])) (List.getD e a 0) (List.getD f a false) (aa 0 (List.length (List.getD c a [])) (List.getD c a [])) (List.getD g a 0))) (bp (ai (List.getD d a false) (aa 0 (List.length (List.getD b a [])) (List.getD b a [])) (List.getD e a 0) (List.getD f a false) (aa 0 (List.length (List.getD c a [])) (List.getD c a [])) (List.getD g a 0)))) (bD (ai (List.getD d a false) (aa 0 (List.length (List.getD b a [])) (List.getD b a [])) (List.getD e a 0) (List.getD f a false) (aa 0 (List.length (List.getD c a [])) (List.getD c a [])) (List.getD g a 0))))),(ly (bU k (aa i j h) l (bC (ai (List.getD d a false) (aa 0 (List.length (List.getD b a [])) (List.getD b a [])) (List.getD e a 0) (List.getD f a false) (aa 0 (List.length (List.getD c a [])) (List.getD c a [])) (List.getD g a 0))) (aa (br (ai (List.getD d a false) (aa 0 (List.length (List.getD b a [])) (List.getD b a [])) (List.getD e a 0) (List.getD f a false) (aa 0 (List.length (List.getD c a [])) (List.getD c a [])) (List.getD g a 0))) (bt (ai (List.getD d a false) (aa 0 (List.length (List.getD b a [])) (List.getD b a [])) (List.getD e a 0) (List.getD f a false) (aa 0 (List.length (List.getD c a [])) (List.getD c a [])) (List.getD g a 0))) (bp (ai (List.getD d a false) (aa 0 (List.length (List.getD b a [])) (List.getD b a [])) (List.getD e a 0) (List.getD f a false) (aa 0 (List.length (List.getD c a [])) (List.getD c a [])) (List.getD g a 0)))) (bD (ai (List.getD d a false) (aa 0 (List.length (List.getD b a [])) (List.getD b a [])) (List.getD e a 0) (List.getD f a false) (aa 0 (List.length (List.getD c a [])) (List.getD c a [])) (List.getD g a 0)))))))))
        (.leaf (.inl ((jG (bU k (aa i j h) l (bC (ai (List.getD d a false) (aa 0 (List.length (List.getD b a [])) (List.getD b a [])) (List.getD e a 0) (List.getD f a false) (aa 0 (List.length (List.getD c a [])) (List.getD c a [])) (List.getD g a 0))) (aa (br (ai (List.getD d a false) (aa 0 (List.length (List.getD b a [])) (List.getD b a [])) (List.getD e a 0) (List.getD f a false) (aa 0 (List.length (List.getD c a [])) (List.getD c a [])) (List.getD g a 0))) (bt (ai (List.getD d a false) (aa 0 (List.length (List.getD b a [])) (List.getD b a [])) (List.getD e a 0) (List.getD f a false) (aa 0 (List.length (List.getD c a [])) (List.getD c a [])) (List.getD g a 0))) (bp (ai (List.getD d a false) (aa 0 (List.length (List.getD b a [])) (List.getD b a [])) (List.getD e a 0) (List.getD f a false) (aa 0 (List.length (List.getD c a [])) (List.getD c a [])) (List.getD g a 0)))) (bD (ai (List.getD d a false) (aa 0 (List.length (List.getD b a [])) (List.getD b a [])) (List.getD e a 0) (List.getD f a false) (aa 0 (List.length (List.getD c a [])) (List.getD c a [])) (List.getD g a 0))))),(lr (bU k (aa i j h) l (bC (ai (List.getD d a false) (aa 0 (List.length (List.getD b a [])) (List.getD b a [])) (List.getD e a 0) (List.getD f a false) (aa 0 (List.length (List.getD c a [])) (List.getD c a [])) (List.getD g a 0))) (aa (br (ai (List.getD d a false) (aa 0 (List.length (List.getD b a [])) (List.getD b a [])) (List.getD e a 0) (List.getD f a false) (aa 0 (List.length (List.getD c a [])) (List.getD c a [])) (List.getD g a 0))) (bt (ai (List.getD d a false) (aa 0 (List.length (List.getD b a [])) (List.getD b a [])) (List.getD e a 0) (List.getD f a false) (aa 0 (List.length (List.getD c a [])) (List.getD c a [])) (List.getD g a 0))) (bp (ai (List.getD d a false) (aa 0 (List.length (List.getD b a [])) (List.getD b a [])) (List.getD e a 0) (List.getD f a false) (aa 0 (List.length (List.getD c a [])) (List.getD c a [])) (List.getD g a 0)))) (bD (ai (List.getD d a false) (aa 0 (List.length (List.getD b a [])) (List.getD b a [])) (List.getD e a 0) (List.getD f a false) (aa 0 (List.length (List.getD c a [])) (List.getD c a [])) (List.getD g a 0))))),(lu (bU k (aa i j h) l (bC (ai (List.getD d a false) (aa 0 (List.length (List.getD b a [])) (List.getD b a [])) (List.getD e a 0) (List.getD f a false) (aa 0 (List.length (List.getD c a [])) (List.getD c a [])) (List.getD g a 0))) (aa (br (ai (List.getD d a false) (aa 0 (List.length (List.getD b a [])) (List.getD b a [])) (List.getD e a 0) (List.getD f a false) (aa 0 (List.length (List.getD c a [])) (List.getD c a [])) (List.getD g a 0))) (bt (ai (List.getD d a false) (aa 0 (List.length (List.getD b a [])) (List.getD b a [])) (List.getD e a 0) (List.getD f a false) (aa 0 (List.length (List.getD c a [])) (List.getD c a [])) (List.getD g a 0))) (bp (ai (List.getD d a false) (aa 0 (List.length (List.getD b a [])) (List.getD b a [])) (List.getD e a 0) (List.getD f a false) (aa 0 (List.length (List.getD c a [])) (List.getD c a [])) (List.getD g a 0)))) (bD (ai (List.getD d a false) (aa 0 (List.length (List.getD b a [])) (List.getD b a [])) (List.getD e a 0) (List.getD f a false) (aa 0 (List.length (List.getD c a [])) (List.getD c a [])) (List.getD g a 0))))),(lw (bU k (aa i j h) l (bC (ai (List.getD d a false) (aa 0 (List.length (List.getD b a [])) (List.getD b a [])) (List.getD e a 0) (List.getD f a false) (aa 0 (List.length (List.getD c a [])) (List.getD c a [])) (List.getD g a 0))) (aa (br (ai (List.getD d a false) (aa 0 (List.length (List.getD b a [])) (List.getD b a [])) (List.getD e a 0) (List.getD f a false) (aa 0 (List.length (List.getD c a [])) (List.getD c a [])) (List.getD g a 0))) (bt (ai (List.getD d a false) (aa 0 (List.length (List.getD b a [])) (List.getD b a [])) (List.getD e a 0) (List.getD f a false) (aa 0 (List.length (List.getD c a [])) (List.getD c a [])) (List.getD g a 0))) (bp (ai (List.getD d a false) (aa 0 (List.length (List.getD b a [])) (List.getD b a [])) (List.getD e a 0) (List.getD f a false) (aa 0 (List.length (List.getD c a [])) (List.getD c a [])) (List.getD g a 0)))) (bD (ai (List.getD d a false) (aa 0 (List.length (List.getD b a [])) (List.getD b a [])) (List.getD e a 0) (List.getD f a false) (aa 0 (List.length (List.getD c a [])) (List.getD c a [])) (List.getD g a 0))))),(lx (bU k (aa i j h) l (bC (ai (List.getD d a false) (aa 0 (List.length (List.getD b a [])) (List.getD b a [])) (List.getD e a 0) (List.getD f a false) (aa 0 (List.length (List.getD c a [])) (List.getD c a [])) (List.getD g a 0))) (aa (br (ai (List.getD d a false) (aa 0 (List.length (List.getD b a [])) (List.getD b a [])) (List.getD e a 0) (List.getD f a false) (aa 0 (List.length (List.getD c a [])) (List.getD c a [])) (List.getD g a 0))) (bt (ai (List.getD d a false) (aa 0 (List.length (List.getD b a [])) (List.getD b a [])) (List.getD e a 0) (List.getD f a false) (aa 0 (List.length (List.getD c a [])) (List.getD c a [])) (List.getD g a 0))) (bp (ai (List.getD d a false) (aa 0 (List.length (List.getD b a [])) (List.getD b a [])) (List.getD e a 0) (List.getD f a false) (aa 0 (List.length (List.getD c a [])) (List.getD c a [])) (List.getD g a 0)))) (bD (ai (List.getD d a false) (aa 0 (List.length (List.getD b a [])) (List.getD b a [])) (List.getD e a 0) (List.getD f a false) (aa 0 (List.length (List.getD c a [])) (List.getD c a [])) (List.getD g a 0))))),(ly (bU k (aa i j h) l (bC (ai (List.getD d a false) (aa 0 (List.length (List.getD b a [])) (List.getD b a [])) (List.getD e a 0) (List.getD f a false) (aa 0 (List.length (List.getD c a [])) (List.getD c a [])) (List.getD g a 0))) (aa (br (ai (List.getD d a false) (aa 0 (List.length (List.getD b a [])) (List.getD b a [])) (List.getD e a 0) (List.getD f a false) (aa 0 (List.length (List.getD c a [])) (List.getD c a [])) (List.getD g a 0))) (bt (ai (List.getD d a false) (aa 0 (List.length (List.getD b a [])) (List.getD b a [])) (List.getD e a 0) (List.getD f a false) (aa 0 (List.length (List.getD c a [])) (List.getD c a [])) (List.getD g a 0))) (bp (ai (List.getD d a false) (aa 0 (List.length (List.getD b a [])) (List.getD b a [])) (List.getD e a 0) (List.getD f a false) (aa 0 (List.length (List.getD c a [])) (List.getD c a [])) (List.getD g a 0)))) (bD (ai (List.getD d a false) (aa 0 (List.length (List.getD b a [])) (List.getD b a [])) (List.getD e a 0) (List.getD f a false) (aa 0 (List.length (List.getD c a [])) (List.getD c a [])) (List.getD g a 0))))))))))
    (.leaf (.inr (.inl (o,k,h,i,j,l))))
def Pg(a:Nat)(b:Nat)(c:Bool)(d:List Int)(e:Nat)(f:Nat)(g:Int) :T ((Nat×Nat×Bool×(List Int)×Nat×Nat×Int)⊕((Nat×Bool×(List Int)×Nat×Nat×Int)⊕(cS))) :=
  .need (dZ .i64 (((a+1):Nat):Int))<|.leaf (.inl (b,(a+1),c,d,e,f,g))
def wq(b:Nat)(c:List Bool)(d:List (List Int))(e:List Int)(f:Nat)(g:List Bool)(h:List (List Int))(i:List Int) :Nat×Nat×Bool×(List Int)×Nat×Nat×Int→Option ((Nat×Nat×Bool×(List Int)×Nat×Nat×Int)⊕((Nat×Bool×(List Int)×Nat×Nat×Int)⊕(cS))):=fun (j,a,k,l,m,n,o) =>
  aN ((Pf b c d e f g h i j a k l m n o).run) fun (p,q,r,s,t,u) =>
  (Pg a p q r s t u).run
theorem Ph(j:Lv)(a:Nat)(b:List Bool)(c:List (List Int))(d:List Int)(k:Lv)(e:Nat)(f:List Bool)(g:List (List Int))(h:List Int)(i:Bool)(m:Nat)(l:Nat)(n:Bool)(o:List Int)(p:Nat)(q:Nat)(r:Int) :Sg prog [] Pd (tl j a b c d k e f g h i (m,l,n,o,p,q,r)) (wq a b c d e f g h (m,l,n,o,p,q,r)) (tl j a b c d k e f g h i) (dR 0 (Cz i) wn):=by
  unfold wq;exact Sg.cut 3 (bc mX) (bi gH (Pe j a b c d k e f g h i l) [⟨[],[0,1],[4,6,7]⟩,⟨[],[0,1],[4,6,7]⟩,⟨[],[0,1],[0,1,4,6,7,18,19]⟩,⟨[],[0,1],[4,6,7]⟩]) (fun ⟨s,t,u,v,w,x⟩=>bi gH (tl j a b c d k e f g h i) [⟨[],[0,1],[0,1,4,6,7,18,19]⟩])
def Pi(a:Nat)(b:Bool)(c:List Int)(d:Nat)(e:Nat)(f:Int) :T ((Empty)⊕(cS)) :=
  .ask (((a:Nat):Int) != (0:Int))
    (.leaf (.inr (.r0 a false ([]:List Int) 0 0 (0:Int))))
    (.leaf (.inr (.r0 0 b c d e f)))
def bV(a:Nat)(c:List Bool)(d:List (List Int))(e:List Int)(b:Nat)(f:List Bool)(g:List (List Int))(h:List Int) :Option cS:=kx (aN ((Pa).run) fun p =>
  aN ((Pc a b).run) fun i =>
  aN (ej (wq a c d e b f g h) (0,0,i,([]:List Int),0,0,(0:Int))) fun (j,k,l,m,n,o) =>
  (Pi j k l m n o).run)
theorem TT(j:Lv)(a:Nat)(c:List Bool)(d:List (List Int))(e:List Int)(k:Lv)(b:Nat)(f:List Bool)(g:List (List Int))(i:List Int){x:cS}(h:bV a c d e b f g i=some x) :ag prog vk [] [.imm j (.cols a [.cb c,.cns .u64 d,.ci .i64 e]) 3 3 0 a,.imm k (.cols b [.cb f,.cns .u64 g,.ci .i64 i]) 3 3 0 b] (AQ x) :=
  mf true AQ wn h (Sg.cut 1 mX (bi gH (TR j a c d e k b f g i) [⟨[],[0],[0,1,4]⟩]) (fun l=>Aw (by kernel_rfl:(wo.drop 1)=[.scope (yP (((wo.drop 1)).headD .skip))]) mX (Sg.cut 5 mX (bi gH (TS j a c d e k b f g i l) [⟨[(.cell 0 1,.fre 1 1 (.ns .u64 ([]:List Int)))],[0],[4,5]⟩,⟨[],[0,81],[0,1,4,6,7,18,19]⟩]) (fun A=>Sg.cut 1 mX (HQ ⟨[(.cell 1 1,.fre 1 1 (.ns .u64 ([]:List Int)))],[0,1],[0,1,4,6,7,18,19]⟩ (tl j a c d e k b f g i l) (Cz l) 0 mX (TQ _) (fun ⟨m,n,o,p,q,r,s⟩=>Ph j a c d e k b f g i l m n o p q r s)) (fun ⟨B,C,D,E,F,G⟩=>bi gH lc [⟨[(.cell 0 1,.fre 1 1 (.ns .u64 ([]:List Int)))],[0],[4,5]⟩,⟨[],[0],[4,5]⟩])))))
    (fun x=>by cases x with | r0 t u v w y z=>exact kN [.agg [.bool false u,.imm .free (.ns .u64 v) 1 1 w y,.int .i64 z],.int .i64 ((t:Nat):Int)])
def mY:Option cS→Bool
  | some _=>true
  | none=>false
def lC:Option cS→Nat
  | some (.r0 x _ _ _ _ _)=>x
  | _=>0
def lD:Option cS→Bool
  | some (.r0 _ x _ _ _ _)=>x
  | _=>false
def lE:Option cS→List Int
  | some (.r0 _ _ x _ _ _)=>x
  | _=>[]
def lF:Option cS→Nat
  | some (.r0 _ _ _ x _ _)=>x
  | _=>0
def lG:Option cS→Nat
  | some (.r0 _ _ _ _ x _)=>x
  | _=>0
def lH:Option cS→Int
  | some (.r0 _ _ _ _ _ x)=>x
  | _=>0
theorem TU{x:Option cS}(h:mY x=true) :x=some (.r0 (lC x) (lD x) (lE x) (lF x) (lG x) (lH x)):=by
  unfold mY at h
  split at h<;>first | rfl | (cases h;done) | (rename_i y;cases y;rfl)
def IR:aw:=bL vk (.cons (.cols [.cb,.cns .u64,.ci .i64]) (.cons (.cols [.cb,.cns .u64,.ci .i64]) .nil)) fun t=>(fun q=>[⟨AQ (.r0 (lC q) (lD q) (lE q) (lF q) (lG q) (lH q)),[mY q]⟩]) (bV t.1.2.1 t.1.2.2.1 t.1.2.2.2.1 t.1.2.2.2.2.1 t.2.1.2.1 t.2.1.2.2.1 t.2.1.2.2.2.1 t.2.1.2.2.2.2.1)
theorem Le:aH prog IR:=aJ fun t=>(aK (fun h=>TT t.1.1 t.1.2.1 t.1.2.2.1 t.1.2.2.2.1 t.1.2.2.2.2.1 t.2.1.1 t.2.1.2.1 t.2.1.2.2.1 t.2.1.2.2.2.1 t.2.1.2.2.2.2.1 (TU h)) aT)
def IS:List aw:=IR::Cy
theorem tX:aF prog (aD IS):=ap Le gH
inductive bZ where
  | r0 (a:Nat) (b:Bool) (c:List Int) (d:Nat) (e:Nat) (f:Int)
def xW:bZ→AE×aE
  | .r0 a b c d e f=>(.ret,⟨ah 9 [(2,.ptr 0 1 0 0),(3,.int .i64 ((a:Nat):Int))],[(0,.vs [.bool false b,.imm .free (.ns .u64 c) 1 1 d e,.int .i64 f])],1⟩)
theorem FE:jK xW:=by intro x;cases x<;>(intro h;cases h)
def so:bZ→fJ
  | .r0 a b c d e f=>⟨.tup [.agg [.bool false b,.imm .free (.ns .u64 c) 1 1 d e,.int .i64 f],.int .i64 ((a:Nat):Int)],[]⟩
def FF:Nat×Bool×(List Int)×Nat×Nat×Int→aE:=fun (a,b,c,d,e,f)=>⟨ah 9 [(2,.ptr 0 1 0 0),(3,.int .i64 ((a:Nat):Int))],[(0,.vs [.bool false b,.imm .free (.ns .u64 c) 1 1 d e,.int .i64 f])],1⟩
def FG(a:Nat)(b:List Bool)(c:List (List Int))(d:List Int) :T ((Nat×Bool×(List Int)×Nat×Nat×Int)⊕(bZ)) :=
  .need (Nat.ble (0+a) a)<|.need (Nat.ble (0+a) a)<|.need (mY (bV a (aa 0 a b) (aa 0 a c) (aa 0 a d) a (aa 0 a b) (aa 0 a c) (aa 0 a d)))<|.leaf (.inl ((lC (bV a (aa 0 a b) (aa 0 a c) (aa 0 a d) a (aa 0 a b) (aa 0 a c) (aa 0 a d))),(lD (bV a (aa 0 a b) (aa 0 a c) (aa 0 a d) a (aa 0 a b) (aa 0 a c) (aa 0 a d))),(lE (bV a (aa 0 a b) (aa 0 a c) (aa 0 a d) a (aa 0 a b) (aa 0 a c) (aa 0 a d))),(lF (bV a (aa 0 a b) (aa 0 a c) (aa 0 a d) a (aa 0 a b) (aa 0 a c) (aa 0 a d))),(lG (bV a (aa 0 a b) (aa 0 a c) (aa 0 a d) a (aa 0 a b) (aa 0 a c) (aa 0 a d))),(lH (bV a (aa 0 a b) (aa 0 a c) (aa 0 a d) a (aa 0 a b) (aa 0 a c) (aa 0 a d)))))
def FH(a:Nat)(b:Bool)(c:List Int)(d:Nat)(e:Nat)(f:Int) :T ((Empty)⊕(bZ)) :=
  .leaf (.inr (.r0 a b c d e f))
def aZ(a:Nat)(b:List Bool)(c:List (List Int))(d:List Int) :Option bZ:=kx (aN ((FG a b c d).run) fun (e,f,g,h,i,j) =>
  (FH e f g h i j).run)
theorem FI(e:Lv)(a:Nat)(b:List Bool)(c:List (List Int))(d:List Int){x:bZ}(h:aZ a b c d=some x) :ag prog rZ [] [.imm e (.cols a [.cb b,.cns .u64 c,.ci .i64 d]) 3 3 0 a] (so x) :=
  mf true so xW h (Sg.cut 2 FE (bi tX FF [⟨[],[0],[2,3]⟩]) (fun ⟨m,n,o,p,q,r⟩=>bi tX lc [⟨[],[0],[2,3]⟩]))
    (fun x=>by cases x with | r0 f g i j k l=>exact kN [.agg [.bool false g,.imm .free (.ns .u64 i) 1 1 j k,.int .i64 l],.int .i64 ((f:Nat):Int)])
def gI:Option bZ→Bool
  | some _=>true
  | none=>false
def gP:Option bZ→Nat
  | some (.r0 x _ _ _ _ _)=>x
  | _=>0
def gQ:Option bZ→Bool
  | some (.r0 _ x _ _ _ _)=>x
  | _=>false
def gR:Option bZ→List Int
  | some (.r0 _ _ x _ _ _)=>x
  | _=>[]
def gS:Option bZ→Nat
  | some (.r0 _ _ _ x _ _)=>x
  | _=>0
def gT:Option bZ→Nat
  | some (.r0 _ _ _ _ x _)=>x
  | _=>0
def gU:Option bZ→Int
  | some (.r0 _ _ _ _ _ x)=>x
  | _=>0
theorem FJ{x:Option bZ}(h:gI x=true) :x=some (.r0 (gP x) (gQ x) (gR x) (gS x) (gT x) (gU x)):=by
  unfold gI at h
  split at h<;>first | rfl | (cases h;done) | (rename_i y;cases y;rfl)
def xX:aw:=bL rZ (.cons (.cols [.cb,.cns .u64,.ci .i64]) .nil) fun t=>(fun q=>[⟨so (.r0 (gP q) (gQ q) (gR q) (gS q) (gT q) (gU q)),[gI q]⟩]) (aZ t.1.2.1 t.1.2.2.1 t.1.2.2.2.1 t.1.2.2.2.2.1)
theorem CA:aH prog xX:=aJ fun t=>(aK (fun h=>FI t.1.1 t.1.2.1 t.1.2.2.1 t.1.2.2.2.1 t.1.2.2.2.2.1 (FJ h)) aT)
def xY:List aw:=xX::IS
theorem jN:aF prog (aD xY):=ap CA tX
end
end Go.Plb.Seat
