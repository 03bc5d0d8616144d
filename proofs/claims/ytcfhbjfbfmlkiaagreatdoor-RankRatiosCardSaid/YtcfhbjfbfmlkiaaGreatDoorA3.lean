/-
  Part 3 of what the claim leans on: an evaluator of the model, proved sound; the contracts of the functions.
-/
import Derived.Test.YtcfhbjfbfmlkiaaGreatDoorA2
namespace Go.Plb
noncomputable section
set_option linter.unusedSimpArgs false
set_option linter.unusedVariables false
set_option linter.unusedSectionVars false
variable [Rom]
def aa{α:Type}(o n:Nat)(l:List α) :List α:=(nJ o l).take n
theorem O6{α:Type}(o n:Nat)(l:List α) :aa o n l=(l.drop o).take n:=by
  unfold aa nJ;cases o<;>rfl
theorem sK{α:Type}(l:List α) :aa 0 l.length l=l:=by simp [O6]
theorem lC{α:Type}{o n:Nat}{l:List α}(h:o+n≤l.length) :(aa o n l).length=n:=by rw [O6];simp;omega
theorem aaK{α:Type}{o n:Nat}{l:List α}{i:Nat}{v:α}(h:(aa o n l)[i]? = some v) :l[o+i]? = some v:=by
  rw [O6,List.getElem?_take] at h
  split at h
  · rw [List.getElem?_drop] at h;exact h
  · cases h
def aU{α:Type}(o n:Nat)(xs:List α) :Bool:=Nat.ble (o+n) xs.length
theorem ax{α:Type}{o n:Nat}{xs:List α} :aU o n xs=true↔o+n≤xs.length:=by unfold aU;rw [Nat.ble_eq]
theorem F9{l:Lv}{d d':aB}{w es o n:Nat}(h:∀ x v,d'.cell? x=some v→d.cell? (o*w+x)=some v)(hr:d.recKept→d'.recKept)(hk:d'.kept=true)(hg:d'.foreign=true) :
    bg (.imm l d w es o n) (.imm l d' w es 0 n):=by
  intro ρ w' u hv
  cases hv with
  | imm _ _ _ _ _ _ cap bl o' u' ha hb hc hv' hl' hr' _ _ =>
    have:=VR.imm (ρ:=ρ) (w:=w') l d' w es 0 n cap bl (o'+o*w) (fun x=>u' (o*w+x)) ha hb
      (fun x v hx=>by rw [Nat.add_assoc];exact hc _ v (h x v hx)) (fun x v hx=>hv' _ v (h x v hx)) hl' (hr hr') (fun _=>hk) hg
    simpa using this
  | immEnd _ _ _ _ _ _ _ hr'=>exact .immEnd _ _ _ _ _ _ _ (hr hr') (fun _=>hk) hg
theorem Ga{l:Lv}{d':aB}{w es:Nat}(hr:d'.recKept)(hk:d'.kept=true)(hg:d'.foreign=true) :bg .nsl (.imm l d' w es 0 0):=by
  intro ρ w' u hv;cases hv;exact .immEnd _ _ _ _ _ _ _ hr (fun _=>hk) hg
theorem Gb{l:Lv}{d':aB}{w es:Nat}(hr:d'.recKept)(hk:d'.kept=true)(hg:d'.foreign=true) :bg .esl (.imm l d' w es 0 0):=by
  intro ρ w' u hv;cases hv;exact .immEnd _ _ _ _ _ _ _ hr (fun _=>hk) hg
theorem gj.get:∀ {l1 l2:List AV},gj l1 l2→∀ {x:Nat} {v:AV},l2[x]? = some v→∃ v0,l1[x]? = some v0∧bg v0 v
  | _,_,.nil,x,v,h=>by simp at h
  | _,_,.cons a t,0,v,h=>by simp at h;subst h;exact ⟨_,rfl,a⟩
  | _,_,.cons a t,x+1,v,h=>by
    obtain ⟨v0,h1,h2⟩:=gj.get t (by simpa using h)
    exact ⟨v0,by simpa using h1,h2⟩
theorem Ix{lv:Lv}{l1 l2:List AV}{k i j:Nat}(h:gj l1 l2)(hk:di l1=true→di l2=true)(hg:bB l1=true→bB l2=true) :bg (.iptr lv (.vs l1) k i j) (.iptr lv (.vs l2) k i j):=by
  intro ρ w u hv
  cases hv with | iptr _ _ _ _ _ bl o u' ha hb hc hv' hr hk' hg' =>
  refine .iptr _ _ _ _ _ bl o u' ha hb (fun x v hx=>?_) (fun x v hx=>?_) trivial (fun q=>hk (hk' q)) (hg hg')
  · obtain ⟨v0,h1,h2⟩:=h.get hx
    exact hc x v0 h1
  · obtain ⟨v0,h1,h2⟩:=h.get hx
    exact h2 _ _ _ (hv' x v0 h1)
theorem bg.fn{f:Fn}{a b a' b':List AV}(h:gj a a')(k:gj b b') :bg (.fn f a b) (.fn f a' b'):=by
  intro ρ w u hv
  cases hv with | fn _ _ _ c1 c2 h1 h2=>exact .fn _ _ _ _ _ (h.vrs h1) (k.vrs h2)
theorem bg.iface{t:TypeId}{a b:AV}(h:bg a b) :bg (.iface t a) (.iface t b):=by
  intro ρ w u hv
  cases hv with | iface _ _ u h1=>exact .iface _ _ _ (h _ _ _ h1)
theorem bg.any(v:AV) :bg v .any:=fun _ _ u _=>.any u
inductive CK where
  | cf
  | ci (k:IntKind)
  | cb
  | cs
  | cfl
  | cns (k:IntKind)
def CK.Ty:CK→Type
  | .cf=>List Nat
  | .ci _=>List Int
  | .cb=>List Bool
  | .cs=>List ByteArray
  | .cfl=>List (List Nat)
  | .cns _=>List (List Int)
def CK.fit:(k:CK)→(o n:Nat)→fY→Option k.Ty
  | .cf,o,n,.cf xs=>some (aa o n xs)
  | .ci k,o,n,.ci k' xs=>bif cr k k' then some (aa o n xs) else none
  | .cb,o,n,.cb xs=>some (aa o n xs)
  | .cs,o,n,.cs xs=>some (aa o n xs)
  | .cfl,o,n,.cfl xs=>some (aa o n xs)
  | .cns k,o,n,.cns k' xs=>bif cr k k' then some (aa o n xs) else none
  | _,_,_,_=>none
def CK.emp:(k:CK)→k.Ty
  | .cf=>([]:List Nat)
  | .ci _=>([]:List Int)
  | .cb=>([]:List Bool)
  | .cs=>([]:List ByteArray)
  | .cfl=>([]:List (List Nat))
  | .cns _=>([]:List (List Int))
def CK.col:(k:CK)→k.Ty→fY
  | .cf,xs=>.cf xs
  | .ci k,xs=>.ci k xs
  | .cb,xs=>.cb xs
  | .cs,xs=>.cs xs
  | .cfl,xs=>.cfl xs
  | .cns k,xs=>.cns k xs
theorem sm{a b:IntKind} :cr a b=true↔a=b:=by simp [cr]
theorem pV{α:Type}{f:α→AV}{o n i:Nat}{xs:List α}{v:AV}(h:((aa o n xs)[i]?).map f=some v) :(xs[o+i]?).map f=some v:=by
  simp only [Option.map_eq_some_iff] at h ⊢
  obtain ⟨y,h1,h2⟩:=h
  exact ⟨y,aaK h1,h2⟩
theorem CK.fit_spec:∀ {k:CK} {o n:Nat} {c:fY} {t:k.Ty},k.fit o n c=some t→(o+n≤c.len→(k.col t).len=n)∧∀ i v,(k.col t).cell? i=some v→c.cell? (o+i)=some v:=by
  intro k o n c t h
  cases k<;>cases c<;>simp only [CK.fit] at h<;>try (cases h;done)
  case cf.cf xs=>cases h;exact ⟨fun q=>lC q,fun i v q=>pV q⟩
  case ci.ci k k' xs =>
    cases e:cr k k' with
    | false=>rw [e] at h;cases h
    | true=>rw [e] at h;cases h;cases (sm.1 e);exact ⟨fun q=>lC q,fun i v q=>pV q⟩
  case cb.cb xs=>cases h;exact ⟨fun q=>lC q,fun i v q=>pV q⟩
  case cs.cs xs=>cases h;exact ⟨fun q=>lC q,fun i v q=>pV q⟩
  case cfl.cfl xs=>cases h;exact ⟨fun q=>lC q,fun i v q=>pV q⟩
  case cns.cns k k' xs =>
    cases e:cr k k' with
    | false=>rw [e] at h;cases h
    | true=>rw [e] at h;cases h;cases (sm.1 e);exact ⟨fun q=>lC q,fun i v q=>pV q⟩
theorem CK.emp_len:∀ (k:CK),(k.col k.emp).len=0:=by intro k;cases k<;>rfl
def CKs.Ty:List CK→Type
  | []=>Unit
  | k::l=>k.Ty×CKs.Ty l
def CKs.fit:(l:List CK)→(o n:Nat)→List fY→Option (CKs.Ty l)
  | [],_,_,[]=>some ()
  | k::l,o,n,c::cs=>(k.fit o n c).bind fun t=>(CKs.fit l o n cs).map fun r=>(t,r)
  | _,_,_,_=>none
def CKs.emp:(l:List CK)→CKs.Ty l
  | []=>()
  | k::l=>(k.emp,CKs.emp l)
def CKs.cols:(l:List CK)→CKs.Ty l→List fY
  | [],_=>[]
  | k::l,t=>k.col t.1::CKs.cols l t.2
theorem CKs.len:∀ {l:List CK} {t:CKs.Ty l},(CKs.cols l t).length=l.length
  | [],t=>rfl
  | k::l,t=>by simp [CKs.cols,CKs.len]
theorem Fo:∀ {l:List CK} {o n:Nat} {cs:List fY} {t:CKs.Ty l},CKs.fit l o n cs=some t→cs.length=l.length
  | [],o,n,[],t,h=>rfl
  | [],o,n,c::cs,t,h=>by simp [CKs.fit] at h
  | k::l,o,n,[],t,h=>by simp [CKs.fit] at h
  | k::l,o,n,c::cs,t,h=>by
    simp only [CKs.fit] at h
    cases e1:k.fit o n c with
    | none=>rw [e1] at h;cases h
    | some a =>
      rw [e1] at h
      cases e2:CKs.fit l o n cs with
      | none=>simp only [Option.bind_some,e2] at h;cases h
      | some b=>simp [Fo e2]
theorem CKs.fit_spec:∀ {l:List CK} {o n:Nat} {cs:List fY} {t:CKs.Ty l},CKs.fit l o n cs=some t→∀ (j:Nat) (c':fY),(CKs.cols l t)[j]? = some c'→∃ c:fY,cs[j]? = some c∧(o+n≤c.len→c'.len=n)∧∀ i v,c'.cell? i=some v→c.cell? (o+i)=some v
  | [],o,n,cs,t,h,j,c',q=>by simp [CKs.cols] at q
  | k::l,o,n,[],t,h,j,c',q=>by simp [CKs.fit] at h
  | k::l,o,n,c::cs,t,h,j,c',q=>by
    simp only [CKs.fit] at h
    cases e1:k.fit o n c with
    | none=>rw [e1] at h;cases h
    | some a =>
      rw [e1] at h
      cases e2:CKs.fit l o n cs with
      | none=>simp only [Option.bind_some,e2] at h;cases h
      | some b =>
        simp only [Option.bind_some,e2] at h
        cases h
        cases j with
        | zero=>simp [CKs.cols] at q;subst q;exact ⟨c,rfl,CK.fit_spec e1⟩
        | succ j=>exact CKs.fit_spec e2 j c' (by simpa [CKs.cols] using q)
theorem CKs.emp_len:∀ (l:List CK),∀ c∈CKs.cols l (CKs.emp l),c.len=0
  | [],c,h=>by cases h
  | k::l,c,h=>by
    simp only [CKs.cols,CKs.emp,List.mem_cons] at h
    rcases h with rfl | h
    · exact CK.emp_len k
    · exact CKs.emp_len l c h
mutual
inductive BN where
  | int (k:IntKind)
  | flt (ex:Bool)
  | bool
  | kbool (b:Bool)
  | str
  | fl
  | ns (k:IntKind)
  | bs
  | ss
  | cols (l:List CK)
  | ivs (ps:oI) (w i j:Nat)
  | fn (f:FuncId) (a b:oI)
  | nfn
  | nptr
  | nsl
  | agg (ps:oI)
  | tup (ps:oI)
  | iface (t:TypeId) (p:BN)
  | niface
  | any
  | lsl (b:Nat)
  | lptr (b w i j:Nat)
inductive oI where
  | nil
  | cons (p:BN) (ps:oI)
end
mutual
def BN.Ty:BN→Type
  | .int _=>Int
  | .flt _=>Nat
  | .bool=>Bool
  | .str=>ByteArray
  | .fl=>Lv×List Nat
  | .ns _=>Lv×List Int
  | .bs=>Lv×List Bool
  | .ss=>Lv×List ByteArray
  | .cols l=>Lv×Nat×CKs.Ty l
  | .ivs ps _ _ _=>Lv×ps.Ty
  | .fn _ a b=>a.Ty×b.Ty
  | .agg ps=>ps.Ty
  | .tup ps=>ps.Ty
  | .iface _ p=>p.Ty
  | .kbool _=>Unit
  | .nfn=>Unit
  | .nptr=>Unit
  | .nsl=>Unit
  | .niface=>Unit
  | .any=>Unit
  | .lsl _=>Nat×Nat×Nat
  | .lptr _ _ _ _=>Unit
def oI.Ty:oI→Type
  | .nil=>Unit
  | .cons p ps=>p.Ty×ps.Ty
end
mutual
def BN.av:(p:BN)→p.Ty→AV
  | .int k,n=>.int k n
  | .flt ex,x=>.flt ex x
  | .bool,b=>.bool false b
  | .str,s=>.str s
  | .fl,t=>.imm t.1 (.fl t.2) 1 1 0 t.2.length
  | .ns k,t=>.imm t.1 (.ns k t.2) 1 1 0 t.2.length
  | .bs,t=>.imm t.1 (.bs t.2) 1 1 0 t.2.length
  | .ss,t=>.imm t.1 (.ss t.2) 1 1 0 t.2.length
  | .cols l,t=>.imm t.1 (.cols t.2.1 (CKs.cols l t.2.2)) l.length l.length 0 t.2.1
  | .ivs ps w i j,t=>.iptr t.1 (.vs (ps.avs t.2)) w i j
  | .fn f a b,t=>.fn (.func f) (a.avs t.1) (b.avs t.2)
  | .agg ps,t=>.agg (ps.avs t)
  | .tup ps,t=>.tup (ps.avs t)
  | .iface y p,t=>.iface y (p.av t)
  | .kbool b,_=>.bool true b
  | .nfn,_=>.nfn
  | .nptr,_=>.nptr
  | .nsl,_=>.nsl
  | .niface,_=>.niface
  | .any,_=>.any
  | .lsl b,t=>.sl b 1 1 t.1 t.2.1 t.2.2
  | .lptr b w i j,_=>.ptr b w i j
def oI.avs:(ps:oI)→ps.Ty→List AV
  | .nil,_=>[]
  | .cons p ps,t=>p.av t.1::ps.avs t.2
end
def V7(a b:Bool) :Bool:=bif a then b else !b
theorem V8{a b:Bool} :V7 a b=true↔a=b:=by cases a<;>cases b<;>simp [V7]
def CKs.ok(n:Nat)(m:Nat) :Bool:=Nat.ble n m
def aaL(k:IntKind) :AV→Option (Int×List Bool)
  | .int k' n=>bif cr k k' then some (n,[]) else none
  | _=>none
def aaM(ex:Bool) :AV→Option (Nat×List Bool)
  | .flt ex' x=>bif ex && !ex' then none else some (x,[])
  | _=>none
def Ym:AV→Option (Bool×List Bool)
  | .bool kn b=>bif kn then none else some (b,[])
  | _=>none
def Sv(b:Bool) :AV→Option (Unit×List Bool)
  | .bool kn b'=>bif kn&&V7 b b' then some ((),[]) else none
  | _=>none
def aaN:AV→Option (ByteArray×List Bool)
  | .str s=>some (s,[])
  | _=>none
def Np{α:Type}(f:aB→Option (List α)) :AV→Option ((Lv×List α)×List Bool)
  | .imm l d w es o n=>(f d).bind fun xs=>bif Nat.beq w 1&&Nat.beq es 1 then some ((l,aa o n xs),[aU o n xs]) else none
  | .nsl=>some ((.free,[]),[])
  | .esl=>some ((.free,[]),[])
  | _=>none
def aaO:aB→Option (List Nat)
  | .fl xs=>some xs
  | _=>none
def aaP(k:IntKind) :aB→Option (List Int)
  | .ns k' xs=>bif cr k k' then some xs else none
  | _=>none
def aaQ:aB→Option (List Bool)
  | .bs xs=>some xs
  | _=>none
def aco:aB→Option (List ByteArray)
  | .ss xs=>some xs
  | _=>none
def acp:aB→Option (List AV)
  | .vs xs=>some xs
  | _=>none
def Yn:aB→Option (Nat×List fY)
  | .cols m cs=>some (m,cs)
  | _=>none
def O7(ks:List CK) :AV→Option ((Lv×Nat×CKs.Ty ks)×List Bool)
  | .imm l d w es o n=>(Yn d).bind fun q=>bif Nat.beq w ks.length&&Nat.beq es ks.length then (CKs.fit ks o n q.2).map fun t=>((l,n,t),[Nat.ble (o+n) q.1]) else none
  | .nsl=>some ((.free,0,CKs.emp ks),[])
  | .esl=>some ((.free,0,CKs.emp ks),[])
  | _=>none
def acq(w i j:Nat) :AV→Option (Lv×List AV)
  | .iptr l d w' i' j'=>(acp d).bind fun xs=>bif Nat.beq w w'&&(Nat.beq i i'&&Nat.beq j j') then some (l,xs) else none
  | _=>none
def adj(f:FuncId) :AV→Option (List AV×List AV)
  | .fn (.func f') x y=>bif Nat.beq f f' then some (x,y) else none
  | _=>none
def acr:AV→Option (List AV)
  | .agg l=>some l
  | _=>none
def acs:AV→Option (List AV)
  | .tup l=>some l
  | _=>none
def Yo(t:TypeId) :AV→Option AV
  | .iface t' v=>bif Nat.beq t t' then some v else none
  | _=>none
def act:AV→Option (Unit×List Bool)
  | .nfn=>some ((),[])
  | _=>none
def aaR:AV→Option (Unit×List Bool)
  | .nptr=>some ((),[])
  | _=>none
def acu:AV→Option (Unit×List Bool)
  | .nsl=>some ((),[])
  | _=>none
def aaS(b:Nat) :AV→Option ((Nat×Nat×Nat)×List Bool)
  | .sl b' w es i len cap=>bif Nat.beq b b'&&(Nat.beq w 1&&Nat.beq es 1) then some ((i,len,cap),[]) else none
  | _=>none
def Yp(b w i j:Nat) :AV→Option (Unit×List Bool)
  | .ptr b' w' i' j'=>bif (Nat.beq b b'&&Nat.beq w w')&&(Nat.beq i i'&&Nat.beq j j') then some ((),[]) else none
  | _=>none
def Sw:AV→Option (Unit×List Bool)
  | .niface=>some ((),[])
  | _=>none
mutual
def BN.fit:(p:BN)→AV→Option (p.Ty×List Bool)
  | .int k=>aaL k
  | .flt ex=>aaM ex
  | .bool=>Ym
  | .kbool b=>Sv b
  | .str=>aaN
  | .fl=>Np aaO
  | .ns k=>Np (aaP k)
  | .bs=>Np aaQ
  | .ss=>Np aco
  | .cols ks=>O7 ks
  | .ivs ps w i j=>fun v=>match acq w i j v with
    | some q=>match ps.fit q.2 with
      | some r=>some ((q.1,r.1),r.2)
      | none=>none
    | none=>none
  | .fn f a b=>fun v=>match adj f v with
    | some q=>match a.fit q.1 with
      | some r=>match b.fit q.2 with
        | some s=>some ((r.1,s.1),r.2++s.2)
        | none=>none
      | none=>none
    | none=>none
  | .agg ps=>fun v=>match acr v with
    | some l=>ps.fit l
    | none=>none
  | .tup ps=>fun v=>match acs v with
    | some l=>ps.fit l
    | none=>none
  | .iface t p=>fun v=>match Yo t v with
    | some u=>p.fit u
    | none=>none
  | .nfn=>act
  | .nptr=>aaR
  | .nsl=>acu
  | .niface=>Sw
  | .any=>fun _=>some ((),[])
  | .lsl b=>aaS b
  | .lptr b w i j=>Yp b w i j
def oI.fit:(ps:oI)→List AV→Option (ps.Ty×List Bool)
  | .nil=>fun l=>match l with
    | []=>some ((),[])
    | _::_=>none
  | .cons p ps=>fun l=>match l with
    | []=>none
    | v::l=>match p.fit v with
      | some r=>match ps.fit l with
        | some s=>some ((r.1,s.1),r.2++s.2)
        | none=>none
      | none=>none
end
theorem Zj{ks:List CK}{o n m:Nat}{cs:List fY}{t:CKs.Ty ks}(h:CKs.fit ks o n cs=some t) :∀ x v,(aB.cols n (CKs.cols ks t)).cell? x=some v→(aB.cols m cs).cell? (o*ks.length+x)=some v:=by
  intro x v hx
  have hl:=Fo h
  obtain ⟨c',h1,_,h3⟩:=gw hx
  obtain ⟨c,q1,_,q3⟩:=CKs.fit_spec h _ _ h1
  rw [CKs.len] at h1 h3 q1
  have hpos:0<ks.length:=by
    have:=(List.getElem?_eq_some_iff.1 q1).1
    omega
  simp only [aB.cell?,hl,Option.bind_eq_some_iff]
  refine ⟨c,?_,?_⟩
  · rw [Nat.add_comm,Nat.add_mul_mod_self_right];exact q1
  · rw [Nat.add_comm,Nat.add_mul_div_right _ _ hpos,Nat.add_comm];exact q3 _ _ h3
structure Wk (v v':AV):Prop where
  weak:bg v v'
  kept:v.kept=true→v'.kept=true
  foreign:v.foreign=true→v'.foreign=true
structure WkL (v v':List AV):Prop where
  weak:gj v v'
  kept:di v=true→di v'=true
  foreign:bB v=true→bB v'=true
theorem Wk.refl(v:AV) :Wk v v:=⟨bg.refl v,id,id⟩
theorem Wk.fltL(x:Nat) :Wk (.flt true x) (.flt false x):=⟨fun ρ w u h=>(by
  cases h with | flt _ _ y hf =>
  rcases hf with rfl | ⟨q,_⟩
  · exact .flt _ _ _ (.inl rfl)
  · cases q),id,id⟩
theorem WkL.cons{v v':AV}{l l':List AV}(h:Wk v v')(k:WkL l l') :WkL (v::l) (v'::l') :=
  ⟨.cons h.weak k.weak,fun q=>by simp only [di,Bool.and_eq_true] at q ⊢;exact ⟨h.kept q.1,k.kept q.2⟩,fun q=>by simp only [bB,Bool.and_eq_true] at q ⊢;exact ⟨h.foreign q.1,k.foreign q.2⟩⟩
theorem Wk.part{l:Lv}{d d':aB}{w es o n:Nat}(h:∀ x v,d'.cell? x=some v→d.cell? (o*w+x)=some v)(hr:d.recKept→d'.recKept)(hk:d'.kept=true)(hg:d'.foreign=true) :Wk (.imm l d w es o n) (.imm l d' w es 0 n) :=
  ⟨F9 h hr hk hg,id,id⟩
theorem Wk.nsl{d':aB}{w es:Nat}(hr:d'.recKept)(hk:d'.kept=true)(hg:d'.foreign=true) :Wk .nsl (.imm .free d' w es 0 0):=⟨Ga hr hk hg,id,id⟩
theorem Wk.esl{d':aB}{w es:Nat}(hr:d'.recKept)(hk:d'.kept=true)(hg:d'.foreign=true) :Wk .esl (.imm .free d' w es 0 0):=⟨Gb hr hk hg,id,id⟩
theorem Wk.fl{l:Lv}{xs:List Nat}{o n:Nat}(h:aU o n xs=true) :Wk (.imm l (.fl xs) 1 1 o n) (.imm l (.fl (aa o n xs)) 1 1 0 (aa o n xs).length):=by
  rw [lC (ax.1 h)];exact .part (fun x v q=>by rw [Nat.mul_one];exact pV q) (fun _=>trivial) rfl rfl
theorem Wk.ns{k:IntKind}{l:Lv}{xs:List Int}{o n:Nat}(h:aU o n xs=true) :Wk (.imm l (.ns k xs) 1 1 o n) (.imm l (.ns k (aa o n xs)) 1 1 0 (aa o n xs).length):=by
  rw [lC (ax.1 h)];exact .part (fun x v q=>by rw [Nat.mul_one];exact pV q) (fun _=>trivial) rfl rfl
theorem Wk.bs{l:Lv}{xs:List Bool}{o n:Nat}(h:aU o n xs=true) :Wk (.imm l (.bs xs) 1 1 o n) (.imm l (.bs (aa o n xs)) 1 1 0 (aa o n xs).length):=by
  rw [lC (ax.1 h)];exact .part (fun x v q=>by rw [Nat.mul_one];exact pV q) (fun _=>trivial) rfl rfl
theorem Wk.ss{l:Lv}{xs:List ByteArray}{o n:Nat}(h:aU o n xs=true) :Wk (.imm l (.ss xs) 1 1 o n) (.imm l (.ss (aa o n xs)) 1 1 0 (aa o n xs).length):=by
  rw [lC (ax.1 h)];exact .part (fun x v q=>by rw [Nat.mul_one];exact pV q) (fun _=>trivial) rfl rfl
theorem aaT{ks:List CK}{o n m:Nat}{cs:List fY}{t:CKs.Ty ks}(h:CKs.fit ks o n cs=some t)(hm:o+n≤m) :(aB.cols m cs).recKept→(aB.cols n (CKs.cols ks t)).recKept:=by
  intro hr c hc
  obtain ⟨j,hj⟩:=List.getElem?_of_mem hc
  obtain ⟨c0,q1,q2,_⟩:=CKs.fit_spec h j c hj
  exact q2 (by rw [hr c0 (List.mem_of_getElem? q1)];exact hm)
theorem adk{w es n:Nat}(h:(Nat.beq w n&&Nat.beq es n)=true) :w=n∧es=n:=by
  rw [Bool.and_eq_true] at h;exact ⟨Nat.eq_of_beq_eq_true h.1,Nat.eq_of_beq_eq_true h.2⟩
theorem rM{α:Type}{c:Bool}{a:α}{x:α}(h:(bif c then some a else none)=some x) :c=true∧a=x:=by
  cases c with
  | true=>exact ⟨rfl,by simpa using h⟩
  | false=>cases h
theorem adl{α:Type}{c:Bool}{a:Option α}{x:α}(h:(bif c then a else none)=some x) :c=true∧a=some x:=by
  cases c with
  | true=>exact ⟨rfl,h⟩
  | false=>cases h
theorem vO{α:Type}{f:aB→Option (List α)}{g:List α→aB}(hg:∀ {d xs},f d=some xs→d=g xs) 
    (hw:∀ {l xs o n},aU o n xs=true→Wk (.imm l (g xs) 1 1 o n) (.imm l (g (aa o n xs)) 1 1 0 (aa o n xs).length)) (h0:(g []).recKept∧(g []).kept=true∧(g []).foreign=true)
    {v:AV} {t:Lv×List α} {o:List Bool} (h:Np f v=some (t,o)) (ho:ay o):Wk v (.imm t.1 (g t.2) 1 1 0 t.2.length):=by
  unfold Np at h
  split at h
  · rename_i l d w es i n
    cases e:f d with
    | none=>rw [e] at h;cases h
    | some xs =>
      rw [e] at h
      obtain ⟨e2,h⟩:=rM h
      obtain ⟨rfl,rfl⟩:=adk e2
      cases h;cases hg e;exact hw ho.1
  · cases h;exact .nsl h0.1 h0.2.1 h0.2.2
  · cases h;exact .esl h0.1 h0.2.1 h0.2.2
  · cases h
theorem O8{ks:List CK}{v:AV}{t:Lv×Nat×CKs.Ty ks}{o:List Bool}(h:O7 ks v=some (t,o))(ho:ay o) :Wk v (.imm t.1 (.cols t.2.1 (CKs.cols ks t.2.2)) ks.length ks.length 0 t.2.1):=by
  unfold O7 at h
  split at h
  · rename_i l d w es i n
    cases d<;>simp only [Yn,Option.bind_none,Option.bind_some,reduceCtorEq] at h
    rename_i m cs
    have e:=(adl h).1;replace h:=(adl h).2
    obtain ⟨rfl,rfl⟩:=adk e
    cases e2:CKs.fit ks i n cs with
    | none=>rw [e2] at h;cases h
    | some r =>
      rw [e2] at h;cases h
      have:i+n≤m:=Nat.le_of_ble_eq_true ho.1
      exact .part (Zj e2) (aaT e2 this) rfl rfl
  · cases h;exact .nsl (CKs.emp_len ks) rfl rfl
  · cases h;exact .esl (CKs.emp_len ks) rfl rfl
  · cases h
mutual
theorem BN.fit_spec:∀ (p:BN) (v:AV) {t:p.Ty} {o:List Bool},p.fit v=some (t,o)→ay o→Wk v (p.av t)
  | .int k,v,t,o,h,ho=>by
    simp only [BN.fit,aaL] at h
    split at h
    · obtain ⟨e,h⟩:=rM h
      cases h;cases sm.1 e;exact .refl _
    · cases h
  | .flt ex,v,t,o,h,ho=>by
    simp only [BN.fit,aaM] at h
    split at h
    · rename_i ex' x
      cases ex with
      | true =>
        cases ex' with
        | true=>cases h;exact .refl _
        | false=>cases h
      | false =>
        cases ex' with
        | true=>cases h;exact .fltL x
        | false=>cases h;exact .refl _
    · cases h
  | .bool,v,t,o,h,ho=>by
    simp only [BN.fit,Ym] at h
    split at h
    · rename_i kn b
      cases kn with
      | true=>cases h
      | false=>cases h;exact .refl _
    · cases h
  | .kbool b,v,t,o,h,ho=>by
    simp only [BN.fit,Sv] at h
    split at h
    · obtain ⟨e,h⟩:=rM h
      rw [Bool.and_eq_true] at e
      cases e.1;cases V8.1 e.2;exact .refl _
    · cases h
  | .str,v,t,o,h,ho=>by
    simp only [BN.fit,aaN] at h
    split at h
    · cases h;exact .refl _
    · cases h
  | .fl,v,t,o,h,ho=>vO (g:=.fl) (f:=aaO) (fun {d xs} e=>by cases d<;>cases e;rfl) (fun q=>.fl q) ⟨trivial,rfl,rfl⟩ h ho
  | .ns k,v,t,o,h,ho=>vO (g:=.ns k) (f:=aaP k) (fun {d xs} e=>by
      cases d<;>try (cases e;done)
      have e1:=(rM e).1;replace e:=(rM e).2
      cases sm.1 e1;cases e;rfl) (fun q=>.ns q) ⟨trivial,rfl,rfl⟩ h ho
  | .bs,v,t,o,h,ho=>vO (g:=.bs) (f:=aaQ) (fun {d xs} e=>by cases d<;>cases e;rfl) (fun q=>.bs q) ⟨trivial,rfl,rfl⟩ h ho
  | .ss,v,t,o,h,ho=>vO (g:=.ss) (f:=aco) (fun {d xs} e=>by cases d<;>cases e;rfl) (fun q=>.ss q) ⟨trivial,rfl,rfl⟩ h ho
  | .cols ks,v,t,o,h,ho=>O8 h ho
  | .ivs ps w i j,v,t,o,h,ho=>by
    simp only [BN.fit] at h
    split at h
    case h_2=>cases h
    rename_i q hq
    split at h
    case h_2=>cases h
    rename_i r hr
    cases h
    unfold acq at hq
    split at hq
    case h_2=>cases hq
    rename_i l d w' i' j'
    cases d<;>simp only [acp,Option.bind_none,Option.bind_some,reduceCtorEq] at hq
    rename_i xs
    have e:=(rM hq).1;replace hq:=(rM hq).2
    rw [Bool.and_eq_true,Bool.and_eq_true] at e
    cases Nat.eq_of_beq_eq_true e.1
    cases Nat.eq_of_beq_eq_true e.2.1
    cases Nat.eq_of_beq_eq_true e.2.2
    cases hq
    have:=oI.fit_spec ps xs hr ho
    exact ⟨Ix this.weak this.kept this.foreign,id,id⟩
  | .fn f a b,v,t,o,h,ho=>by
    simp only [BN.fit] at h
    split at h
    case h_2=>cases h
    rename_i q hq
    split at h
    case h_2=>cases h
    rename_i r hr
    split at h
    case h_2=>cases h
    rename_i s hs
    cases h
    unfold adj at hq
    split at hq
    case h_2=>cases hq
    have e:=(rM hq).1;replace hq:=(rM hq).2
    cases Nat.eq_of_beq_eq_true e
    cases hq
    rw [be] at ho
    have h1:=oI.fit_spec a _ hr ho.1
    have h2:=oI.fit_spec b _ hs ho.2
    refine ⟨bg.fn h1.weak h2.weak,fun q=>?_,fun q=>?_⟩
    · simp only [BN.av,AV.kept,Bool.and_eq_true] at q ⊢;exact ⟨h1.kept q.1,h2.kept q.2⟩
    · simp only [BN.av,AV.foreign,Bool.and_eq_true] at q ⊢;exact ⟨h1.foreign q.1,h2.foreign q.2⟩
  | .agg ps,v,t,o,h,ho=>by
    simp only [BN.fit] at h
    split at h
    case h_2=>cases h
    rename_i l hl
    cases v<;>simp only [acr,reduceCtorEq,Option.some.injEq] at hl
    subst hl
    have:=oI.fit_spec ps _ h ho
    exact ⟨bg.agg this.weak,this.kept,this.foreign⟩
  | .tup ps,v,t,o,h,ho=>by
    simp only [BN.fit] at h
    split at h
    case h_2=>cases h
    rename_i l hl
    cases v<;>simp only [acs,reduceCtorEq,Option.some.injEq] at hl
    subst hl
    have:=oI.fit_spec ps _ h ho
    exact ⟨bg.tup this.weak,this.kept,this.foreign⟩
  | .iface y p,v,t,o,h,ho=>by
    simp only [BN.fit] at h
    split at h
    case h_2=>cases h
    rename_i u hu
    unfold Yo at hu
    split at hu
    case h_2=>cases hu
    have e:=(rM hu).1;replace hu:=(rM hu).2
    cases Nat.eq_of_beq_eq_true e
    subst hu
    have:=BN.fit_spec p _ h ho
    exact ⟨bg.iface this.weak,this.kept,this.foreign⟩
  | .nfn,v,t,o,h,ho=>by
    cases v<;>simp only [BN.fit,act,reduceCtorEq] at h
    exact .refl _
  | .nptr,v,t,o,h,ho=>by
    cases v<;>simp only [BN.fit,aaR,reduceCtorEq] at h
    exact .refl _
  | .nsl,v,t,o,h,ho=>by
    cases v<;>simp only [BN.fit,acu,reduceCtorEq] at h
    exact .refl _
  | .niface,v,t,o,h,ho=>by
    cases v<;>simp only [BN.fit,Sw,reduceCtorEq] at h
    exact .refl _
  | .any,v,t,o,h,ho=>⟨bg.any v,fun _=>rfl,fun _=>rfl⟩
  | .lsl b,v,t,o,h,ho=>by
    simp only [BN.fit,aaS] at h
    split at h
    · have e:=(rM h).1;replace h:=(rM h).2
      rw [Bool.and_eq_true,Bool.and_eq_true] at e
      cases Nat.eq_of_beq_eq_true e.1
      cases Nat.eq_of_beq_eq_true e.2.1
      cases Nat.eq_of_beq_eq_true e.2.2
      cases h;exact .refl _
    · cases h
  | .lptr b w i j,v,t,o,h,ho=>by
    simp only [BN.fit,Yp] at h
    split at h
    · have e:=(rM h).1;replace h:=(rM h).2
      rw [Bool.and_eq_true,Bool.and_eq_true,Bool.and_eq_true] at e
      cases Nat.eq_of_beq_eq_true e.1.1
      cases Nat.eq_of_beq_eq_true e.1.2
      cases Nat.eq_of_beq_eq_true e.2.1
      cases Nat.eq_of_beq_eq_true e.2.2
      exact .refl _
    · cases h
theorem oI.fit_spec:∀ (ps:oI) (l:List AV) {t:ps.Ty} {o:List Bool},ps.fit l=some (t,o)→ay o→WkL l (ps.avs t)
  | .nil,[],t,o,h,ho=>⟨.nil,id,id⟩
  | .nil,v::l,t,o,h,ho=>by simp [oI.fit] at h
  | .cons p ps,[],t,o,h,ho=>by simp [oI.fit] at h
  | .cons p ps,v::l,t,o,h,ho=>by
    simp only [oI.fit] at h
    split at h
    case h_2=>cases h
    rename_i r hr
    split at h
    case h_2=>cases h
    rename_i s hs
    cases h
    rw [be] at ho
    exact .cons (BN.fit_spec p v hr ho.1) (oI.fit_spec ps l hs ho.2)
end
def bW(f:FuncId)(ps:oI)(alts:ps.Ty→List qz) :aw :=
  ⟨f, fun L args => match L with
    | []=>match ps.fit args with
      | some r=>some ((alts r.1).map fun a=>⟨a.out,r.2++a.obs⟩)
      | none=>none
    | _=>none⟩
theorem aS{P:Program}{f:FuncId}{ps:oI}{alts:ps.Ty→List qz}(h:∀ t,∀ a∈alts t,ay a.obs→ag P f [] (ps.avs t) a.out) :aO P (bW f ps alts):=by
  intro L args al a hal ha ho
  simp only [bW] at hal
  split at hal
  case h_2=>cases hal
  split at hal
  case h_2=>cases hal
  rename_i r hr
  obtain ⟨t,o⟩:=r
  simp only [Option.some.injEq] at hal
  subst hal
  simp only [List.mem_map] at ha
  obtain ⟨b,hb,rfl⟩:=ha
  simp only [be] at ho
  exact (h t b hb ho.2).args (oI.fit_spec ps args hr ho.1).weak
inductive CP where
  | int (k:IntKind)
  | flt
  | fltx
  | bool
  | str
  | lsl (b:Nat)
  | lsl0 (b:Nat)
  | lptr (b w i j:Nat)
  | nsl
  | nptr
def CP.Ty:CP→Type
  | .int _=>Int
  | .flt=>Nat
  | .fltx=>Nat
  | .bool=>Bool
  | .str=>ByteArray
  | .lsl _=>Nat×Nat×Nat
  | .lsl0 _=>Nat×Nat
  | .lptr _ _ _ _=>Unit
  | .nsl=>Unit
  | .nptr=>Unit
def CP.av:(p:CP)→p.Ty→AV
  | .int k,n=>.int k n
  | .flt,x=>.flt false x
  | .fltx,x=>.flt true x
  | .bool,b=>.bool false b
  | .str,s=>.str s
  | .lsl b,t=>.sl b 1 1 t.1 t.2.1 t.2.2
  | .lsl0 b,t=>.sl b 1 1 0 t.1 t.2
  | .lptr b w i j,_=>.ptr b w i j
  | .nsl,_=>.nsl
  | .nptr,_=>.nptr
def acv(k:IntKind) :AV→Option Int
  | .int k' n=>bif cr k k' then some n else none
  | _=>none
def acw:AV→Option Nat
  | .flt ex x=>bif ex then none else some x
  | _=>none
def aaU:AV→Option Nat
  | .flt ex x=>bif ex then some x else none
  | _=>none
def aaV:AV→Option Bool
  | .bool kn b=>bif kn then none else some b
  | _=>none
def acx:AV→Option ByteArray
  | .str s=>some s
  | _=>none
def acy(b:Nat) :AV→Option (Nat×Nat×Nat)
  | .sl b' w es i len cap=>bif Nat.beq b b'&&(Nat.beq w 1&&Nat.beq es 1) then some (i,len,cap) else none
  | _=>none
def aaW(b:Nat) :AV→Option (Nat×Nat)
  | .sl b' w es i len cap=>bif Nat.beq b b'&&(Nat.beq w 1&&Nat.beq es 1)&&Nat.beq i 0 then some (len,cap) else none
  | _=>none
def aaX(b w i j:Nat) :AV→Option Unit
  | .ptr b' w' i' j'=>bif (Nat.beq b b'&&Nat.beq w w')&&(Nat.beq i i'&&Nat.beq j j') then some () else none
  | _=>none
def acz:AV→Option Unit
  | .nsl=>some ()
  | _=>none
def aaY:AV→Option Unit
  | .nptr=>some ()
  | _=>none
def CP.fit:(p:CP)→AV→Option p.Ty
  | .int k=>acv k
  | .flt=>acw
  | .fltx=>aaU
  | .bool=>aaV
  | .str=>acx
  | .lsl b=>acy b
  | .lsl0 b=>aaW b
  | .lptr b w i j=>aaX b w i j
  | .nsl=>acz
  | .nptr=>aaY
theorem adm{c:Bool}{α:Type}{a x:α}(h:(bif c then none else some a)=some x) :c=false∧a=x:=by
  cases c with
  | true=>cases h
  | false=>exact ⟨rfl,by simpa using h⟩
theorem CP.fit_spec:∀ (p:CP) {v:AV} {t:p.Ty},p.fit v=some t→v=p.av t
  | .int k,v,t,h=>by
    simp only [CP.fit,acv] at h
    split at h
    · obtain ⟨e,h⟩:=rM h
      cases h;cases sm.1 e;rfl
    · cases h
  | .flt,v,t,h=>by
    simp only [CP.fit,acw] at h
    split at h
    · obtain ⟨e,h⟩:=adm h
      cases h;cases e;rfl
    · cases h
  | .fltx,v,t,h=>by
    simp only [CP.fit,aaU] at h
    split at h
    · obtain ⟨e,h⟩:=rM h
      cases h;cases e;rfl
    · cases h
  | .bool,v,t,h=>by
    simp only [CP.fit,aaV] at h
    split at h
    · obtain ⟨e,h⟩:=adm h
      cases h;cases e;rfl
    · cases h
  | .str,v,t,h=>by
    simp only [CP.fit,acx] at h
    split at h
    · cases h;rfl
    · cases h
  | .lsl b,v,t,h=>by
    simp only [CP.fit,acy] at h
    split at h
    · have e:=(rM h).1;replace h:=(rM h).2
      rw [Bool.and_eq_true,Bool.and_eq_true] at e
      cases Nat.eq_of_beq_eq_true e.1
      cases Nat.eq_of_beq_eq_true e.2.1
      cases Nat.eq_of_beq_eq_true e.2.2
      cases h;rfl
    · cases h
  | .lsl0 b,v,t,h=>by
    simp only [CP.fit,aaW] at h
    split at h
    · have e:=(rM h).1;replace h:=(rM h).2
      rw [Bool.and_eq_true,Bool.and_eq_true,Bool.and_eq_true] at e
      cases Nat.eq_of_beq_eq_true e.1.1
      cases Nat.eq_of_beq_eq_true e.1.2.1
      cases Nat.eq_of_beq_eq_true e.1.2.2
      cases Nat.eq_of_beq_eq_true e.2
      cases h;rfl
    · cases h
  | .lptr b w i j,v,t,h=>by
    simp only [CP.fit,aaX] at h
    split at h
    · have e:=(rM h).1;clear h
      rw [Bool.and_eq_true,Bool.and_eq_true,Bool.and_eq_true] at e
      cases Nat.eq_of_beq_eq_true e.1.1
      cases Nat.eq_of_beq_eq_true e.1.2
      cases Nat.eq_of_beq_eq_true e.2.1
      cases Nat.eq_of_beq_eq_true e.2.2
      rfl
    · cases h
  | .nsl,v,t,h=>by
    simp only [CP.fit,acz] at h
    split at h
    · rfl
    · cases h
  | .nptr,v,t,h=>by
    simp only [CP.fit,aaY] at h
    split at h
    · rfl
    · cases h
def CPs.Ty:List CP→Type
  | []=>Unit
  | p::l=>p.Ty×CPs.Ty l
def CPs.avs:(l:List CP)→CPs.Ty l→List AV
  | [],_=>[]
  | p::l,t=>p.av t.1::CPs.avs l t.2
def CPs.fit:(l:List CP)→List AV→Option (CPs.Ty l)
  | []=>fun vs=>match vs with
    | []=>some ()
    | _::_=>none
  | p::l=>fun vs=>match vs with
    | []=>none
    | v::vs=>match p.fit v with
      | some t=>match CPs.fit l vs with
        | some r=>some (t,r)
        | none=>none
      | none=>none
theorem CPs.fit_spec:∀ (l:List CP) {vs:List AV} {t:CPs.Ty l},CPs.fit l vs=some t→vs=CPs.avs l t
  | [],[],t,h=>rfl
  | [],_::_,t,h=>by cases h
  | _::_,[],t,h=>by cases h
  | p::l,v::vs,t,h=>by
    simp only [CPs.fit] at h
    split at h
    case h_2=>cases h
    rename_i x hx
    split at h
    case h_2=>cases h
    rename_i r hr
    cases h
    simp only [CPs.avs]
    rw [←CP.fit_spec p hx,←CPs.fit_spec l hr]
inductive BK where
  | fl
  | ns (k:IntKind)
  | bs
  | vs (l:List CP)
def BK.Ty:BK→Type
  | .fl=>List Nat
  | .ns _=>List Int
  | .bs=>List Bool
  | .vs l=>CPs.Ty l
def BK.blk:(k:BK)→k.Ty→aB
  | .fl,xs=>.fl xs
  | .ns k,xs=>.ns k xs
  | .bs,xs=>.bs xs
  | .vs l,t=>.vs (CPs.avs l t)
def adJ(l:List CP) :aB→Option (CPs.Ty l)
  | .vs xs=>CPs.fit l xs
  | _=>none
def BK.fit:(k:BK)→aB→Option k.Ty
  | .fl=>aaO
  | .ns k=>aaP k
  | .bs=>aaQ
  | .vs l=>adJ l
theorem BK.fit_spec:∀ (k:BK) {d:aB} {t:k.Ty},k.fit d=some t→d=k.blk t
  | .fl,d,t,h=>by cases d<;>cases h;rfl
  | .ns k,d,t,h=>by
    cases d<;>try (cases h;done)
    have e1:=(rM h).1;replace h:=(rM h).2
    cases sm.1 e1;cases h;rfl
  | .bs,d,t,h=>by cases d<;>cases h;rfl
  | .vs l,d,t,h=>by
    cases d<;>try (cases h;done)
    exact congrArg aB.vs (CPs.fit_spec l h)
def BKs.Ty:List BK→Type
  | []=>Unit
  | k::l=>k.Ty×BKs.Ty l
def CC:(l:List BK)→BKs.Ty l→List aB
  | [],_=>[]
  | k::l,t=>k.blk t.1::CC l t.2
def BKs.fit:(l:List BK)→List aB→Option (BKs.Ty l)
  | [],[]=>some ()
  | [],_::_=>none
  | _::_,[]=>none
  | k::l,d::ds=>match k.fit d with
    | some t=>match BKs.fit l ds with
      | some r=>some (t,r)
      | none=>none
    | none=>none
theorem BKs.fit_spec:∀ (l:List BK) {ds:List aB} {t:BKs.Ty l},BKs.fit l ds=some t→ds=CC l t
  | [],[],t,h=>rfl
  | [],_::_,t,h=>by cases h
  | _::_,[],t,h=>by cases h
  | k::l,d::ds,t,h=>by
    simp only [BKs.fit] at h
    split at h
    case h_2=>cases h
    rename_i x hx
    split at h
    case h_2=>cases h
    rename_i r hr
    cases h
    simp only [CC]
    rw [←BK.fit_spec k hx,←BKs.fit_spec l hr]
def Sx(f:FuncId)(bs:List BK)(ps:oI)(alts:BKs.Ty bs→ps.Ty→List qz) :aw :=
  ⟨f, fun L args => match BKs.fit bs L with
    | some x=>match ps.fit args with
      | some r=>some ((alts x r.1).map fun a=>⟨a.out,r.2++a.obs⟩)
      | none=>none
    | none=>none⟩
theorem Iy{P:Program}{f:FuncId}{bs:List BK}{ps:oI}{alts:BKs.Ty bs→ps.Ty→List qz}(h:∀ x t,∀ a∈alts x t,ay a.obs→ag P f (CC bs x) (ps.avs t) a.out) :aO P (Sx f bs ps alts):=by
  intro L args al a hal ha ho
  simp only [Sx] at hal
  split at hal
  case h_2=>cases hal
  rename_i x hx
  split at hal
  case h_2=>cases hal
  rename_i r hr
  obtain ⟨t,o⟩:=r
  simp only [Option.some.injEq] at hal
  subst hal
  simp only [List.mem_map] at ha
  obtain ⟨b,hb,rfl⟩:=ha
  simp only [be] at ho
  have:=(h x t b hb ho.2).args (oI.fit_spec ps args hr ho.1).weak
  rwa [←BKs.fit_spec bs hx] at this
theorem Iz{P:Program}{f:FuncId}{L:List aB}{l:List AV} :∀ a∈([]:List qz),ay a.obs→ag P f L l a.out:=fun a h=>by cases h
theorem zr{P:Program}{f:FuncId}{L:List aB}{l:List AV}{o:gd}{b:Bool}{al:List qz}(h:b=true→ag P f L l o)(t:∀ a∈al,ay a.obs→ag P f L l a.out) :∀ a∈(⟨o,[b]⟩:qz)::al,ay a.obs→ag P f L l a.out:=by
  intro a ha ho
  rcases List.mem_cons.1 ha with rfl | ha
  · exact h ho.1
  · exact t a ha ho
theorem bb{P:Program}{f:FuncId}{l:List AV} :∀ a∈([]:List qz),ay a.obs→ag P f [] l a.out:=fun a h=>by cases h
theorem aT{P:Program}{f:FuncId}{l:List AV}{o:gd}{b:Bool}{al:List qz}(h:b=true→ag P f [] l o)(t:∀ a∈al,ay a.obs→ag P f [] l a.out) :∀ a∈(⟨o,[b]⟩:qz)::al,ay a.obs→ag P f [] l a.out:=by
  intro a ha ho
  rcases List.mem_cons.1 ha with rfl | ha
  · exact h ho.1
  · exact t a ha ho
inductive T (α:Type) where
  | fail
  | leaf (a:α)
  | ask (b:Bool) (t f:T α)
  | need (b:Bool) (t:T α)
  | alt (k:Nat) (t e:T α)
def T.run{α:Type} :T α→Option α
  | .fail=>none
  | .leaf a=>some a
  | .ask b t f=>bif b then t.run else f.run
  | .need b t=>bif b then t.run else none
  | .alt _ t e=>match t.run with
    | some a=>some a
    | none=>e.run
structure zH (α:Type) where
  path:List Nat
  obs:List Bool
  val:α
def zH.ask{α:Type}(n:Nat)(b:Bool)(l:zH α) :zH α:=⟨n::l.path,b::l.obs,l.val⟩
def zH.need{α:Type}(b:Bool)(l:zH α) :zH α:=⟨l.path,b::l.obs,l.val⟩
def zH.alt{α:Type}(n:Nat)(l:zH α) :zH α:=⟨n::l.path,l.obs,l.val⟩
def T.leaves{α:Type} :T α→List (zH α)
  | .fail=>[]
  | .leaf a=>[⟨[],[],a⟩]
  | .ask b t f=>t.leaves.map (zH.ask 1 (b==true))++f.leaves.map (zH.ask 0 (b==false))
  | .need b t=>t.leaves.map (zH.need b)
  | .alt k t e=>t.leaves.map (zH.alt k)++e.leaves
theorem pq{α:Type} :∀ (t:T α) {a:α},t.run=some a→∃ l∈t.leaves,l.val=a∧ay l.obs
  | .fail,a,h=>by cases h
  | .leaf b,a,h=>by
    simp only [T.run,Option.some.injEq] at h;subst h
    exact ⟨⟨[],[],b⟩,by simp [T.leaves],rfl,trivial⟩
  | .ask b t f,a,h=>by
    simp only [T.run] at h
    cases b with
    | true =>
      simp only [cond_true] at h
      obtain ⟨l,h1,h2,h3⟩:=pq t h
      exact ⟨l.ask 1 (true==true),by simp only [T.leaves,List.mem_append];exact .inl (List.mem_map_of_mem h1),h2,⟨rfl,h3⟩⟩
    | false =>
      simp only [cond_false] at h
      obtain ⟨l,h1,h2,h3⟩:=pq f h
      exact ⟨l.ask 0 (false==false),by simp only [T.leaves,List.mem_append];exact .inr (List.mem_map_of_mem h1),h2,⟨rfl,h3⟩⟩
  | .need b t,a,h=>by
    simp only [T.run] at h
    cases b with
    | true =>
      simp only [cond_true] at h
      obtain ⟨l,h1,h2,h3⟩:=pq t h
      exact ⟨l.need true,by simp only [T.leaves];exact List.mem_map_of_mem h1,h2,⟨rfl,h3⟩⟩
    | false=>cases h
  | .alt k t e,a,h=>by
    simp only [T.run] at h
    split at h
    · rename_i a' ht
      cases h
      obtain ⟨l,h1,h2,h3⟩:=pq t ht
      exact ⟨l.alt k,by simp only [T.leaves,List.mem_append];exact .inl (List.mem_map_of_mem h1),h2,h3⟩
    · obtain ⟨l,h1,h2,h3⟩:=pq e h
      exact ⟨l,by simp only [T.leaves,List.mem_append];exact .inr h1,h2,h3⟩
def yj{α X:Type}(N:α→aG)(E:X→AE×aG) :α⊕X→AE×aG
  | .inl a=>(.normal,N a)
  | .inr x=>E x
def Sg{α X:Type}(P:Program)(lent:List aB)(cs:List Code)(st:aG)(m:Option (α⊕X))(N:α→aG)(E:X→AE×aG) :Prop :=
  ∀ r,m=some r→gQ P lent cs st fun e st'=>(e,st')=yj N E r
def aaZ{α X:Type}(C:uR)(S:xT)(n:Nat)(cs:List Code)(st:aG)(ls:List (zH (α⊕X)))(ks:List NS)(k:Nat) :List (Bool×Option (AE×aG×List Bool)) :=
  List.zipWith (fun l s=>(s.ok k,aaA s (Zf (hJ C S 12 n) cs st (some l.path)))) ls ks
def Yq{α X:Type}(N:α→aG)(E:X→AE×aG)(ls:List (zH (α⊕X))) :List (Bool×Option (AE×aG×List Bool)) :=
  ls.map fun l=>(true,some ((yj N E l.val).1,(yj N E l.val).2,l.obs))
theorem Yr{α β γ:Type}{f:α→β→γ}{g:α→γ} :∀ {l:List α} {k:List β},List.zipWith f l k=l.map g→∀ a∈l,∃ b,f a b=g a
  | [],_,_,a,ha=>by cases ha
  | x::l,[],h,a,ha=>by simp at h
  | x::l,y::k,h,a,ha=>by
    simp only [List.zipWith_cons_cons,List.map_cons,List.cons.injEq] at h
    rcases List.mem_cons.1 ha with rfl | ha
    · exact ⟨y,h.1⟩
    · exact Yr h.2 a ha
theorem Sg.seg{C:uR}(hC:C.Ok){S:xT}(hS:aN C.P S){lent:List aB}{α X:Type}(n:Nat)(cs:List Code)(st:aG)(t:T (α⊕X))(N:α→aG)(E:X→AE×aG)(ks:List NS) 
    (h:aaZ C S n cs st t.leaves ks lent.length=Yq N E t.leaves):Sg C.P lent cs st t.run N E:=by
  intro r hr
  obtain ⟨l,h1,h2,h3⟩:=pq t hr
  obtain ⟨k,hk⟩:=Yr h l h1
  simp only [Prod.mk.injEq] at hk
  obtain ⟨hn,he⟩:=hk
  have:=gQ.seg hC hS (lent:=lent) (Q:=fun e st'=>(e,st')=yj N E r) cs.length (some l.path) k (cs:=cs) (st:=st) (by rw [List.take_length];exact he) hn h3
  refine this ?_
  rw [h2,List.drop_length]
  generalize hg:yj N E r=x
  obtain ⟨e,s⟩:=x
  cases e with
  | normal=>exact gQ.nil rfl
  | ret=>rfl
  | exit id=>rfl
theorem gQ.append{P:Program}{lent:List aB}{cs1 cs2:List Code}{st:aG}{Q1 Q:AE→aG→Prop}(h:gQ P lent cs1 st Q1)(k:∀ e st',Q1 e st'→Kv P lent cs2 e st' Q) :gQ P lent (cs1++cs2) st Q:=by
  intro ρ0 w0 hN K hK a w hA
  apply AY
  refine h ρ0 w0 hN _ ?_ a w hA
  intro e st' a' w' q hA'
  have:=k e st' q
  cases e with
  | normal=>exact this ρ0 w0 hN K hK a' w' hA'
  | ret=>exact hK _ _ _ _ this hA'
  | exit id=>exact hK _ _ _ _ this hA'
def jT{X:Type}(E:X→AE×aG) :Prop:=∀ x,(E x).1 ≠ .normal
theorem Ys{P:Program}{lent:List aB}{cs:List Code}{e:AE}{st:aG}{Q:AE→aG→Prop}(hn:e ≠ .normal)(h:Q e st) :Kv P lent cs e st Q:=by
  cases e with
  | normal=>exact (hn rfl).elim
  | ret=>exact h
  | exit id=>exact h
def aQ{α β X:Type}(m:Option (α⊕X))(k:α→Option (β⊕X)) :Option (β⊕X) :=
  match m with
  | none=>none
  | some (.inl a)=>k a
  | some (.inr x)=>some (.inr x)
theorem Sg.seq{P:Program}{lent:List aB}{α β X:Type}{cs1 cs2:List Code}{st:aG}{m:Option (α⊕X)}{N1:α→aG}{E:X→AE×aG}{k:α→Option (β⊕X)}{N:β→aG}(hE:jT E) 
    (h:Sg P lent cs1 st m N1 E) (hk:∀ a,Sg P lent cs2 (N1 a) (k a) N E):Sg P lent (cs1++cs2) st (aQ m k) N E:=by
  intro r hr
  unfold aQ at hr
  split at hr
  · cases hr
  · rename_i a
    refine gQ.append (h _ rfl) ?_
    intro e st' q
    simp only [yj,Prod.mk.injEq] at q
    obtain ⟨rfl,rfl⟩:=q
    exact hk a r hr
  · rename_i x
    simp only [Option.some.injEq] at hr;subst hr
    refine gQ.append (h _ rfl) ?_
    intro e st' q
    simp only [yj] at q
    refine Ys ?_ q
    have:=hE x
    rw [←q] at this;exact this
def sL{σ Y:Type}(B:σ→Option (σ⊕Y)) :Nat→σ→Option Y
  | 0,_=>none
  | n+1,s=>match B s with
    | none=>none
    | some (.inl s')=>sL B n s'
    | some (.inr y)=>some y
theorem sM{σ Y:Type}{B:σ→Option (σ⊕Y)} :∀ (n:Nat) {s:σ} {y:Y},sL B n s=some y→∀ m,n≤m→sL B m s=some y
  | 0,s,y,h,_,_=>by cases h
  | n+1,s,y,h,m,hm=>by
    obtain ⟨m',rfl⟩:∃ m',m=m'+1:=⟨m-1,by omega⟩
    simp only [sL] at h ⊢
    split at h
    · cases h
    · exact sM n h m' (by omega)
    · exact h
open Classical in
noncomputable def aa0 {σ Y : Type} (B : σ → Option (σ ⊕ Y)) (s : σ) : Option Y :=
  if h : ∃ n y, sL B n s = some y then some h.choose_spec.choose else none
theorem Zk{σ Y:Type}{B:σ→Option (σ⊕Y)}{s:σ}{y:Y} :aa0 B s=some y↔∃ n,sL B n s=some y:=by
  unfold aa0
  constructor
  · intro h
    split at h
    · rename_i q
      simp only [Option.some.injEq] at h
      exact ⟨q.choose,by rw [←h];exact q.choose_spec.choose_spec⟩
    · cases h
  · rintro ⟨n,h⟩
    rw [dif_pos ⟨n,y,h⟩]
    generalize hq:(⟨n,y,h⟩:∃ n y,sL B n s=some y)=q
    have h1:=q.choose_spec.choose_spec
    have a1:=sM n h (max n q.choose) (by omega)
    have a2:=sM _ h1 (max n q.choose) (by omega)
    rw [a1] at a2
    exact a2.symm
noncomputable def ej{σ Y:Type}(B:σ→Option (σ⊕Y))(s:σ) :Option Y :=
  match sL B 1000000000000 s with
  | some y=>some y
  | none=>aa0 B s
theorem zt{σ Y:Type}{B:σ→Option (σ⊕Y)}{s:σ}{y:Y} :ej B s=some y↔∃ n,sL B n s=some y:=by
  unfold ej
  generalize 1000000000000=k
  cases h:sL B k s with
  | none=>exact Zk
  | some z =>
    constructor
    · intro e;cases e;exact ⟨k,h⟩
    · rintro ⟨n,hn⟩
      have a1:=sM n hn (max n k) (by omega)
      have a2:=sM _ h (max n k) (by omega)
      rw [a1] at a2
      exact a2.symm
theorem Sy{σ Y:Type}(B:σ→Option (σ⊕Y))(s:σ) :ej B s=match B s with
    | none=>none
    | some (.inl s')=>ej B s'
    | some (.inr y)=>some y:=by
  have key:∀ y,ej B s=some y↔(match B s with | none=>none | some (.inl s')=>ej B s' | some (.inr y)=>some y)=some y:=by
    intro y
    rw [zt]
    constructor
    · rintro ⟨n,h⟩
      cases n with
      | zero=>cases h
      | succ n =>
        simp only [sL] at h
        cases q:B s with
        | none=>rw [q] at h;cases h
        | some z=>cases z with
          | inl s'=>rw [q] at h;exact zt.2 ⟨n,h⟩
          | inr z=>rw [q] at h;exact h
    · intro h
      split at h<;>rename_i q
      · cases h
      · obtain ⟨n,hn⟩:=zt.1 h
        exact ⟨n+1,by simp only [sL,q];exact hn⟩
      · exact ⟨1,by simp only [sL,q];exact h⟩
  generalize (match B s with | none=>none | some (.inl s')=>ej B s' | some (.inr y)=>some y)=x at key
  cases hl:ej B s with
  | none=>cases x with
    | none=>rfl
    | some y=>rw [(key y).2 rfl] at hl;cases hl
  | some y=>rw [hl] at key;exact ((key y).1 rfl).symm
theorem aa1{σ Y:Type}{B:σ→Option (σ⊕Y)}{s s':σ}(h:B s=some (.inl s')) :ej B s=ej B s':=by rw [Sy,h]
theorem Zl{σ Y:Type}{B:σ→Option (σ⊕Y)}{s:σ}{y:Y}(h:B s=some (.inr y)) :ej B s=some y:=by rw [Sy,h]
def dD{ρ X:Type}(id:Nat)(J:ρ→aG)(E:X→AE×aG) :ρ⊕X→AE×aG
  | .inl r=>(.exit id,J r)
  | .inr x=>E x
def nD{X:Type}(id:Nat)(E:X→AE×aG) :Prop:=∀ x,(E x).1 ≠ .exit id
theorem Sg.loop{P:Program}{lent:List aB}{σ ρ X:Type}{I:σ→aG}{J:ρ→aG}{E:X→AE×aG}{B:σ→Option (σ⊕(ρ⊕X))}{id:Nat}{b:Code}(hE:jT E)(hI:nD id E) 
    (hb:∀ s,Sg P lent (cR b) (I s) (B s) I (dD id J E)) (s:σ):Sg P lent [.block id (.loop b)] (I s) (ej B s) J E:=by
  intro y hy
  obtain ⟨n,hn⟩:=zt.1 hy

  have:=gQ.loop (P:=P) (lent:=lent) (id:=id) (b:=b) (rest:=[]) (Q:=fun e st'=>(e,st')=yj J E y) (σ:=Nat×σ) (fun s=>I s.2) (fun s=>sL B s.1 s.2=some y) (fun s=>s.1) rfl (fun s hs=>?_) (n,s) hn
  · exact this
  · obtain ⟨n,s⟩:=s
    simp only at hs ⊢
    cases n with
    | zero=>cases hs
    | succ n =>
      simp only [sL] at hs
      split at hs
      · cases hs
      · rename_i s' hB
        refine (hb s _ hB).mono ?_
        intro e st' q
        simp only [yj,Prod.mk.injEq] at q
        obtain ⟨rfl,rfl⟩:=q
        exact ⟨(n,s'),hs,by simp,rfl⟩
      · rename_i y' hB
        simp only [Option.some.injEq] at hs;subst hs
        refine (hb s _ hB).mono ?_
        intro e st' q
        cases y' with
        | inl r =>
          simp only [yj,dD,Prod.mk.injEq] at q
          obtain ⟨rfl,rfl⟩:=q
          simp only [Cl,if_true]
          exact gQ.nil rfl
        | inr x =>
          simp only [yj,dD] at q
          have h1:=hE x
          have h2:=hI x
          rw [←q] at h1 h2
          simp only at h1 h2
          cases e with
          | normal=>exact (h1 rfl).elim
          | ret=>exact q
          | exit j =>
            have hj : ¬ j=id:=fun h=>h2 (by rw [h])
            simp only [Cl,hj,if_false]
            exact q
def IA{κ X:Type}(m:Option (κ⊕(κ⊕X))) :Option (κ⊕X) :=
  match m with
  | none=>none
  | some (.inl a)=>some (.inl a)
  | some (.inr (.inl a))=>some (.inl a)
  | some (.inr (.inr x))=>some (.inr x)
theorem Sg.block{P:Program}{lent:List aB}{κ X:Type}{K:κ→aG}{E:X→AE×aG}{m:Option (κ⊕(κ⊕X))}{id:Nat}{b:Code}{st:aG}(hE:jT E)(hI:nD id E) 
    (hb:Sg P lent (cR b) st m K (dD id K E)):Sg P lent [.block id b] st (IA m) K E:=by
  intro r hr
  unfold IA at hr
  refine gQ.block (rest:=[]) rfl ?_
  split at hr
  · cases hr
  · simp only [Option.some.injEq] at hr;subst hr
    refine (hb _ rfl).mono ?_
    intro e st' q
    simp only [yj,Prod.mk.injEq] at q
    obtain ⟨rfl,rfl⟩:=q
    exact gQ.nil rfl
  · simp only [Option.some.injEq] at hr;subst hr
    refine (hb _ rfl).mono ?_
    intro e st' q
    simp only [yj,dD,Prod.mk.injEq] at q
    obtain ⟨rfl,rfl⟩:=q
    simp only [if_true]
    exact gQ.nil rfl
  · rename_i x
    simp only [Option.some.injEq] at hr;subst hr
    refine (hb _ rfl).mono ?_
    intro e st' q
    simp only [yj,dD] at q
    have h1:=hE x
    have h2:=hI x
    rw [←q] at h1 h2
    simp only at h1 h2
    cases e with
    | normal=>exact (h1 rfl).elim
    | ret=>exact q
    | exit j =>
      have hj : ¬ j=id:=fun h=>h2 (by rw [h])
      simp only [hj,if_false]
      exact q
theorem Sg.scope{P:Program}{lent:List aB}{α X:Type}{N:α→aG}{E:X→AE×aG}{m:Option (α⊕X)}{b:Code}{st:aG}(hE:jT E)(hb:Sg P lent (cR b) st m N E) :Sg P lent [.scope b] st m N E:=by
  intro r hr
  refine gQ.scope (rest:=[]) rfl ((hb r hr).mono ?_)
  intro e st' q
  cases r with
  | inl a =>
    simp only [yj,Prod.mk.injEq] at q
    obtain ⟨rfl,rfl⟩:=q
    exact gQ.nil rfl
  | inr x =>
    refine Ys ?_ q
    have:=hE x
    simp only [yj] at q
    rw [←q] at this;exact this
theorem Sz{k:Nat}{ρ0:ae}{w0:World}{st:aG}{a:Act}{w:World}{c:Operand}{b kn:Bool}(h:At k ρ0 w0 st a w)(hc:ZX st.tmps c=.bool kn b) :At k ρ0 w0 { st with tmps:=sE st.tmps c b } a w∧a.eval c=.bool b:=by
  obtain ⟨ρ,E,W,hs,hbk,hle⟩:=h
  have hb:a.eval c=.bool b:=by
    have:=xD hs.heap.rom hs.tmps c
    rw [hc] at this
    generalize a.eval c=z at this
    cases this;rfl
  refine ⟨⟨ρ,E,W,⟨hs.defers,?_,hs.heap⟩,hbk,hle⟩,hb⟩
  cases c with
  | tmp t =>
    simp only [sE,yX]
    have:cv ρ w (st.tmps.set t (.bool true b)) (a.tmps.toList.set t (.bool b)):=hs.tmps.set (.bool _ _) t
    have e:a.tmps.toList.set t (.bool b)=a.tmps.toList:=by
      apply List.ext_getElem?
      intro j
      rw [List.getElem?_set]
      split
      · rename_i q;subst q
        split
        · rename_i hlt
          simp only [Act.eval] at hb
          rw [Array.getD_eq_getD_getElem?] at hb
          have hlt':t<a.tmps.size:=by simpa using hlt
          rw [Array.getElem?_eq_getElem hlt'] at hb
          simp only [Option.getD_some] at hb
          simp [hlt',hb]
        · rename_i hge
          rw [List.getElem?_eq_none (by omega)]
      · rfl
    rw [e] at this;exact this
  | const v=>exact hs.tmps
  | global g=>exact hs.tmps
  | func f=>exact hs.tmps
theorem Sg.cond{P:Program}{lent:List aB}{α X:Type}{N:α→aG}{E:X→AE×aG}{m1 m2:Option (α⊕X)}{c:Operand}{A B:Code}{st:aG}{kn b:Bool}(hE:jT E)(hc:ZX st.tmps c=.bool kn b) 
    (h1:Sg P lent (cR A) { st with tmps:=sE st.tmps c true } m1 N E) (h2:Sg P lent (cR B) { st with tmps:=sE st.tmps c false } m2 N E):Sg P lent [.cond c A B] st (bif b then m1 else m2) N E:=by
  intro r hr
  intro ρ0 w0 hN K hK a w hA
  simp only [Ke]
  obtain ⟨hA',hb⟩:=Sz hA hc
  refine wp_cond hb ?_
  have xz:∀ (D:Code) (m:Option (α⊕X)) (st1:aG),Sg P lent (cR D) st1 m N E→m=some r→At lent.length ρ0 w0 st1 a w→D.wp P (fun e a' w'=>match e with | .normal=>K .normal a' w' | e=>K e a' w') a w:=by
    intro D m st1 hS hm hA1
    refine vE D (hS r hm ρ0 w0 hN _ ?_ a w hA1)
    intro e st' a' w' q hA2
    cases e with
    | normal=>exact hK .normal st' a' w' q hA2
    | ret=>exact hK .ret st' a' w' q hA2
    | exit id=>exact hK (.exit id) st' a' w' q hA2
  cases b with
  | true=>exact xz A m1 _ h1 hr hA'
  | false=>exact xz B m2 _ h2 hr hA'
theorem Sg.pre{P:Program}{lent:List aB}{α X:Type}{N:α→aG}{E:X→AE×aG}{m:Option (α⊕X)}{cs:List Code}{st st1:aG}(s:NS)(hn:s.ok lent.length=true)(h1:s.on st=st1)(h:Sg P lent cs st1 m N E) :Sg P lent cs st m N E :=
  fun r hr=>gQ.weak (by rw [←h1];exact aaz hn st) (h r hr)
def kD{X:Type} :Option (Empty⊕X)→Option X
  | some (.inr x)=>some x
  | _=>none
theorem Sg.contract{P:Program}{f:FuncId}{fn:Func}{c:Code}{X:Type}{N:Empty→aG}{E:X→AE×aG}{m:Option (Empty⊕X)}{lent:List aB}{args:List AV}(keep:Bool)(o:X→gd)(hf:P.funcs[f]? = some fn)(hc:fn.body=some c) 
    (h:Sg P lent (cR c) (pT fn lent args) m N E) (hE:∀ x,Yj P fn lent.length keep (o x) (E x).1 (E x).2) {x:X} (hx:kD m=some x):ag P f lent args (o x):=by
  unfold kD at hx
  split at hx
  · rename_i x'
    simp only [Option.some.injEq] at hx;subst hx
    refine gQ.contract (keep:=keep) hf hc ((h _ rfl).mono ?_)
    intro e st' q
    simp only [yj] at q
    have:=hE x'
    rw [←q] at this;exact this
  · cases hx
end
end Go.Plb
namespace Go.Plb
set_option linter.unusedSectionVars false
variable [Rom]
theorem bh{ρ X:Type}{id:Nat}{J:ρ→aG}{E:X→AE×aG}(h:jT E) :jT (dD id J E):=by
  intro x
  cases x with
  | inl r=>intro q;cases q
  | inr x=>exact h x
theorem kH{ρ X:Type}{id j:Nat}{J:ρ→aG}{E:X→AE×aG}(hj:(j==id)=false)(h:nD id E) :nD id (dD j J E):=by
  intro x
  cases x with
  | inl r =>
    intro q
    simp only [dD,AE.exit.injEq] at q
    subst q
    simp at hj
  | inr x=>exact h x
def fe:Code→Code
  | .block _ (.loop b)=>b
  | _=>.skip
def inBlock:Code→Code
  | .block _ b=>b
  | _=>.skip
def zu:Code→Code
  | .scope b=>b
  | _=>.skip
theorem Sg.cut{P:Program}{lent:List aB}{α β X:Type}{cs:List Code}{st:aG}{m:Option (α⊕X)}{N1:α→aG}{E:X→AE×aG}{k:α→Option (β⊕X)}{N:β→aG}(n:Nat)(hE:jT E) 
    (h:Sg P lent (cs.take n) st m N1 E) (hk:∀ a,Sg P lent (cs.drop n) (N1 a) (k a) N E):Sg P lent cs st (aQ m k) N E:=by
  have:=Sg.seq hE h hk
  rwa [List.take_append_drop] at this
theorem Zm{P:Program}{lent:List aB}{σ ρ X:Type}{I:σ→aG}{J:ρ→aG}{E:X→AE×aG}{B:σ→Option (σ⊕(ρ⊕X))}{id:Nat}{b:Code}{cs:List Code}(hcs:cs=[.block id (.loop b)])(hE:jT E)(hI:nD id E) 
    (hb:∀ s,Sg P lent (cR b) (I s) (B s) I (dD id J E)) (s:σ):Sg P lent cs (I s) (ej B s) J E:=by rw [hcs];exact Sg.loop hE hI hb s
theorem V9{P:Program}{lent:List aB}{κ X:Type}{K:κ→aG}{E:X→AE×aG}{m:Option (κ⊕(κ⊕X))}{id:Nat}{b:Code}{st:aG}{cs:List Code}(hcs:cs=[.block id b])(hE:jT E)(hI:nD id E) 
    (hb:Sg P lent (cR b) st m K (dD id K E)):Sg P lent cs st (IA m) K E:=by rw [hcs];exact Sg.block hE hI hb
theorem Bd{P:Program}{lent:List aB}{α X:Type}{N:α→aG}{E:X→AE×aG}{m:Option (α⊕X)}{b:Code}{st:aG}{cs:List Code}(hcs:cs=[.scope b])(hE:jT E)(hb:Sg P lent (cR b) st m N E) :Sg P lent cs st m N E:=by
  rw [hcs];exact Sg.scope hE hb
end Go.Plb
namespace Go.Plb
set_option linter.unusedSimpArgs false
set_option linter.unusedVariables false
set_option linter.unusedSectionVars false
variable [Rom]
theorem er{α:Type}{b:Bool}{t:T α}{x:Option α}(h:b=true)(k:t.run=x) :(T.need b t).run=x:=by subst h;exact k
theorem qC{α:Type}{b:Bool}{t f:T α}{x:Option α}(h:b=true)(k:t.run=x) :(T.ask b t f).run=x:=by subst h;exact k
theorem vP{α:Type}{b:Bool}{t f:T α}{x:Option α}(h:b=false)(k:f.run=x) :(T.ask b t f).run=x:=by subst h;exact k
theorem Zn{α:Type}{k:Nat}{t f:T α}{a:α}(h:t.run=some a) :(T.alt k t f).run=some a:=by simp only [T.run,h]
theorem adK{α:Type}{k:Nat}{t f:T α}{x:Option α}(h:t.run=none)(q:f.run=x) :(T.alt k t f).run=x:=by simp only [T.run,h];exact q
theorem adL{α:Type}{b:Bool}{t:T α}(h:b=false) :(T.need b t).run=none:=by subst h;rfl
theorem pf{α:Type}{b:Bool}{t:T α}{x:Option α}(k:t.run=x)(h:b=true:=by exact rfl) :(T.need b t).run=x:=er h k
theorem tJ{α:Type}{b:Bool}{t f:T α}{x:Option α}(k:t.run=x)(h:b=true:=by exact rfl) :(T.ask b t f).run=x:=qC h k
theorem zZ{α:Type}{b:Bool}{t f:T α}{x:Option α}(k:f.run=x)(h:b=false:=by exact rfl) :(T.ask b t f).run=x:=vP h k
theorem dw{α β X:Type}{m:Option (α⊕X)}{k:α→Option (β⊕X)}{a:α}{x:Option (β⊕X)}(h:m=some (.inl a))(q:k a=x) :aQ m k=x:=by subst h;exact q
theorem lD{α β X:Type}{m:Option (α⊕X)}{k:α→Option (β⊕X)}{y:X}(h:m=some (.inr y)) :aQ m k=some (.inr y):=by subst h;rfl
theorem kZ{X:Type}{m:Option (Empty⊕X)}{x:X}(h:m=some (.inr x)) :kD m=some x:=by subst h;rfl
theorem Zo{σ Y:Type}{B:σ→Option (σ⊕Y)}(st:Nat→σ)(n:Nat){y:Y}(i:Nat)(hi:i≤n)(step:∀ j,i≤j→j<n→B (st j)=some (.inl (st (j+1))))(done:B (st n)=some (.inr y)) :ej B (st i)=some y:=by
  obtain ⟨d,rfl⟩:∃ d,n=i+d:=⟨n-i,by omega⟩
  clear hi
  induction d generalizing i with
  | zero=>exact Zl done
  | succ d ih =>
    rw [aa1 (step i (Nat.le_refl _) (by omega))]
    have e:i+(d+1)=i+1+d:=by omega
    rw [e] at step done
    exact ih (i+1) (fun j h1 h2=>step j (by omega) h2) done
theorem qD{σ Y:Type}{B:σ→Option (σ⊕Y)}(st:Nat→σ)(n:Nat){y:Y}{s0:σ}(h0:s0=st 0)(step:∀ j,j<n→B (st j)=some (.inl (st (j+1))))(done:B (st n)=some (.inr y)) :ej B s0=some y:=by
  rw [h0];exact Zo st n 0 (Nat.zero_le _) (fun j _=>step j) done
theorem aI{n:Int} :dZ .i64 n=true↔-9223372036854775808≤n∧n≤9223372036854775807:=by
  have e1:IntKind.i64.min = -9223372036854775808:=by decide
  have e2:IntKind.i64.max=9223372036854775807:=by decide
  simp only [dZ,e1,e2,Bool.and_eq_true,decide_eq_true_eq]
theorem br{k:Int}{n:Nat} :eY k n=true↔0≤k∧k<n:=by simp only [eY,Bool.and_eq_true,decide_eq_true_eq]
theorem bt{k:Int}{n:Nat} :vg k n=true↔0≤k∧k≤n:=by simp only [vg,Bool.and_eq_true,decide_eq_true_eq]
theorem aJ{k n:Nat} :fm k n=true↔k<n:=by simp [fm]
theorem aK{k n:Nat} :mW k n=true↔k≤n:=by simp [mW]
theorem aL{k n:Nat} :Nat.ble k n=true↔k≤n:=by rw [Nat.ble_eq]
theorem aM{k n:Nat} :Nat.blt k n=true↔k<n:=by rw [Nat.blt_eq]
def acV{α:Type}(pos:Nat→Nat)(val:Nat→α)(l:List α) :Nat→List α
  | 0=>l
  | n+1=>(acV pos val l n).set (pos n) (val n)
theorem az{α:Type}{pos:Nat→Nat}{val:Nat→α}{l:List α} :∀ {n:Nat},(acV pos val l n).length=l.length
  | 0=>rfl
  | n+1=>by simp only [acV,List.length_set];exact az
theorem aa2{α:Type}(l:List α) :aU 0 l.length l=true:=by rw [ax];omega
theorem IB{α:Type}{b:Bool}{t:T α}{x:Option α}(k:t.run=x)(h:b=true:=by exact aa2 _) :(T.need b t).run=x:=er h k
theorem uZ{p:Nat→Prop} [DecidablePred p]:∀ {n:Nat},(¬ ∀ i,i<n→p i)→∃ k,k<n∧¬ p k∧∀ j,j<k→p j
  | 0,h=>(h fun i hi=>absurd hi (Nat.not_lt_zero _)).elim
  | n+1,h=>by
    by_cases q:∀ i,i<n→p i
    · refine ⟨n,Nat.lt_succ_self _,fun r=>h fun i hi=>?_,q⟩
      rcases Nat.lt_succ_iff_lt_or_eq.1 hi with a | rfl
      · exact q i a
      · exact r
    · obtain ⟨k,h1,h2,h3⟩:=uZ q
      exact ⟨k,by omega,h2,h3⟩
theorem aq(n:Nat) :Int.toNat (n:Int)=n:=rfl
def vQ(x:Nat) :Nat:=if x<4503599627370496 then x else 4503599627370496+x%4503599627370496
def iQ(x:Nat) :Nat:=x/4503599627370496-1
theorem IC{x:Nat}(h:x<9218868437227405312) :FloatKind.f64.format.read x=.number false (vQ x) (-1074+(iQ x:Int)):=by
  have e1:Ieee.double.signWeight=9223372036854775808:=by decide
  have e2:Ieee.double.binade=4503599627370496:=by decide
  have e3:Ieee.double.infRung=9218868437227405312:=by decide
  have e4:Ieee.double.leastPlace = -1074:=by decide
  show Ieee.double.read x=_
  unfold Ieee.Format.read
  simp only [e1,e2,e3,e4]
  have h1:x/9223372036854775808%2=0:=by omega
  have h2:x%9223372036854775808=x:=by omega
  rw [h1,h2]
  by_cases h3:x<4503599627370496
  · rw [if_pos h3]
    have:iQ x=0:=by unfold iQ;omega
    simp only [vQ,if_pos h3,this];rfl
  · rw [if_neg h3,if_pos h]
    simp only [vQ,if_neg h3,iQ];rfl
theorem ab1(x:Nat) :vQ x<9007199254740992:=by unfold vQ;split<;>omega
theorem ab2{x:Nat}(h:0<iQ x) :4503599627370496≤vQ x:=by unfold iQ at h;unfold vQ;rw [if_neg (by omega)];omega
theorem CD{x y:Nat}(hx:x<9218868437227405312)(hy:y<9218868437227405312) :
    qL x y=some (compare ((vQ x*2^(iQ x-min (iQ x) (iQ y)):Nat):Int) ((vQ y*2^(iQ y-min (iQ x) (iQ y)):Nat):Int)):=by
  unfold qL Ieee.Format.order
  rw [IC hx,IC hy]
  simp only [Ieee.Datum.order,Ieee.signed,Bool.false_eq_true,if_false,Nat.shiftLeft_eq]
  have e1:((-1074+(iQ x:Int))-min (-1074+(iQ x:Int)) (-1074+(iQ y:Int))).toNat=iQ x-min (iQ x) (iQ y):=by omega
  have e2:((-1074+(iQ y:Int))-min (-1074+(iQ x:Int)) (-1074+(iQ y:Int))).toNat=iQ y-min (iQ x) (iQ y):=by omega
  rw [e1,e2]
theorem ab3{x y:Nat}(hx:x<9218868437227405312)(hy:y<9218868437227405312) :qL x y=some .gt↔qL y x=some .lt:=by
  rw [CD hx hy,CD hy hx,Nat.min_comm]
  simp only [Option.some.injEq]
  rw [Int.compare_eq_gt,Int.compare_eq_lt]
theorem Yt{x y:Nat}(hx:x<9218868437227405312)(hy:y<9218868437227405312)(h:x<y) :qL x y=some .lt:=by
  rw [CD hx hy]
  have hle:iQ x≤iQ y:=by unfold iQ;omega
  rw [Nat.min_eq_left hle,Nat.sub_self,Nat.pow_zero,Nat.mul_one]
  have key:vQ x<vQ y*2^(iQ y-iQ x):=by
    rcases Nat.eq_or_lt_of_le hle with h1 | h1
    · rw [h1,Nat.sub_self,Nat.pow_zero,Nat.mul_one]
      unfold iQ at h1;unfold vQ
      split<;>split<;>omega
    · have a:=ab2 (x:=y) (by omega)
      have b:=ab1 x
      have c:2^1≤2^(iQ y-iQ x):=Nat.pow_le_pow_right (by decide) (by omega)
      have d:4503599627370496*2≤vQ y*2^(iQ y-iQ x):=Nat.mul_le_mul a c
      omega
  rw [Int.compare_eq_lt.2 (by exact_mod_cast key)]
theorem aa3{x y:Nat}(hx:x<9218868437227405312)(hy:y<9218868437227405312) :qL x y=some (compare x y):=by
  rcases Nat.lt_trichotomy x y with h | rfl | h
  · rw [Yt hx hy h,Nat.compare_eq_lt.2 h]
  · rw [CD hx hx];simp
  · rw [(ab3 hx hy).2 (Yt hy hx h),Nat.compare_eq_gt.2 h]
theorem aa4:FloatKind.f64.format.read 9218868437227405312=.infinity false:=by decide
theorem Wa{y:Nat}(hy:y<9218868437227405312) :qL 9218868437227405312 y=some .gt:=by
  unfold qL Ieee.Format.order;rw [aa4,IC hy];rfl
abbrev W:Nat:=18446744073709551616
def nl(v:Nat) :Nat:=if h:v=0 then 0 else nl (v/W)+1
termination_by v
decreasing_by exact Nat.div_lt_self (Nat.pos_of_ne_zero h) (by decide)
theorem adn:∀ (v:Nat),v<W^nl v:=by
  intro v
  induction v using Nat.strongRecOn with
  | _ v ih =>
    rw [nl]
    split
    · rename_i h;subst h;decide
    · rename_i h
      have:=ih (v/W) (Nat.div_lt_self (Nat.pos_of_ne_zero h) (by decide))
      rw [Nat.pow_succ]
      exact (Nat.div_lt_iff_lt_mul (by decide)).1 this
def tz(v:Nat) :Nat:=if h:v%2=1∨v=0 then 0 else tz (v/2)+1
termination_by v
decreasing_by omega
theorem ab4:∀ (v:Nat),v≠0→v%2^tz v=0∧v/2^tz v%2=1:=by
  intro v
  induction v using Nat.strongRecOn with
  | _ v ih =>
    intro h
    rw [tz]
    split
    · rename_i q;rw [Nat.pow_zero,Nat.mod_one,Nat.div_one];omega
    · rename_i q
      obtain ⟨h1,h2⟩:=ih (v/2) (by omega) (by omega)
      rw [Nat.pow_succ,Nat.mul_comm (2^_),Nat.mod_mul,←Nat.div_div_eq_div_mul,h1,h2]
      omega
theorem ab5:tz 0=0:=by rw [tz,dif_pos (.inr rfl)]
theorem ado{v n:Nat}(h:v≠0)(hv:v<2^n) :tz v<n:=by
  obtain ⟨h1,h2⟩:=ab4 v h
  rcases Nat.lt_or_ge (tz v) n with q | q
  · exact q
  · rw [Nat.div_eq_of_lt (Nat.lt_of_lt_of_le hv (Nat.pow_le_pow_right (by decide) q))] at h2;omega
def sg(s:Bool)(v:Nat) :Int:=if s then -(v:Int) else (v:Int)
def nE(z e:Int) :Int:=if z=0 then 0 else e+(tz z.natAbs:Nat)
theorem adp{v:Nat} :tz v≤64*nl v:=by
  by_cases h:v=0
  · subst h;rw [ab5];exact Nat.zero_le _
  · have:=adn v
    have e:W^nl v=2^(64*nl v):=by rw [Nat.pow_mul]
    rw [e] at this
    exact Nat.le_of_lt (ado h this)
def Sm(z e:Int) :Prop:=nl z.natAbs≤300∧-30000≤e∧e≤30000
theorem adM{z e:Int}(h:Sm z e) :tz z.natAbs≤19200:=Nat.le_trans adp (by have:=h.1;omega)
theorem Sm.b{z e:Int}(h:Sm z e) : -30000≤nE z e∧nE z e≤49200:=by
  have ht:=adM h
  obtain ⟨_,h2,h3⟩:=h
  unfold nE
  split<;>omega
abbrev ZZ:Nat:=18446744073709551616
def xpo(x:Nat) :Nat:=x/4503599627370496%2048
def xz(x:Nat) :Bool:=xpo x != 2047
theorem ID{x:Nat}(hx:x<ZZ)(h:xz x=true) :FloatKind.f64.format.read x=.number (x/9223372036854775808%2==1) (vQ (x%9223372036854775808)) (-1074+(iQ (x%9223372036854775808):Int)):=by
  have e1:Ieee.double.signWeight=9223372036854775808:=by decide
  have e2:Ieee.double.binade=4503599627370496:=by decide
  have e3:Ieee.double.infRung=9218868437227405312:=by decide
  have e4:Ieee.double.leastPlace = -1074:=by decide
  have hx:x<18446744073709551616:=hx
  have h':x%9223372036854775808<9218868437227405312:=by
    unfold xz xpo at h;simp only [bne_iff_ne,ne_eq] at h;omega
  show Ieee.double.read x=_
  unfold Ieee.Format.read
  simp only [e1,e2,e3,e4]
  by_cases h3:x%9223372036854775808<4503599627370496
  · rw [if_pos h3]
    have:iQ (x%9223372036854775808)=0:=by unfold iQ;omega
    simp only [vQ,if_pos h3,this];rfl
  · rw [if_neg h3,if_pos h']
    simp only [vQ,if_neg h3,iQ]
theorem Zp{x:Nat}(hx:x<ZZ)(h:x%9223372036854775808=9218868437227405312) :FloatKind.f64.format.read x=.infinity (x/9223372036854775808%2==1):=by
  have e1:Ieee.double.signWeight=9223372036854775808:=by decide
  have e2:Ieee.double.binade=4503599627370496:=by decide
  have e3:Ieee.double.infRung=9218868437227405312:=by decide
  have e4:Ieee.double.leastPlace = -1074:=by decide
  show Ieee.double.read x=_
  unfold Ieee.Format.read
  simp only [e1,e2,e3,e4]
  rw [h,if_neg (by decide),if_neg (by decide),if_pos rfl]
theorem Zq{x:Nat}(hx:x<ZZ)(h:9218868437227405312<x%9223372036854775808) :isNaN x=true:=by
  have e1:Ieee.double.signWeight=9223372036854775808:=by decide
  have e2:Ieee.double.binade=4503599627370496:=by decide
  have e3:Ieee.double.infRung=9218868437227405312:=by decide
  have e4:Ieee.double.leastPlace = -1074:=by decide
  show (Ieee.double.read x).isNaN=true
  unfold Ieee.Format.read
  simp only [e1,e2,e3,e4]
  rw [if_neg (by omega),if_neg (by omega),if_neg (by omega)];rfl
theorem ab6{x:Nat}(hx:x<ZZ)(h:xz x=true) :Z3 x x=false:=by
  unfold Z3 qL Ieee.Format.order
  rw [ID hx h]
  simp [Ieee.Datum.order,Int.min_self]
theorem ab7{x y:Nat}(h:isNaN x=true) :Z3 x y=true:=by
  obtain ⟨s,t,e⟩:=uU h
  unfold Z3 qL Ieee.Format.order
  rw [e];rfl
theorem Zr{x:Nat}(hx:x<ZZ)(h:xz x=false) :isNaN x=true∨(isNaN x=false∧x%9223372036854775808=9218868437227405312∧Z3 x x=false):=by
  have hx':x<18446744073709551616:=hx
  have h':9218868437227405312≤x%9223372036854775808:=by
    unfold xz xpo at h;simp only [bne_eq_false_iff_eq] at h;omega
  rcases Nat.lt_or_ge 9218868437227405312 (x%9223372036854775808) with q | q
  · exact .inl (Zq hx q)
  · have e:x%9223372036854775808=9218868437227405312:=by omega
    have r:=Zp hx e
    refine .inr ⟨?_,e,?_⟩
    · show (Ieee.double.read x).isNaN=false
      have r':Ieee.double.read x=_:=r
      rw [r'];rfl
    · unfold Z3 qL Ieee.Format.order
      rw [r]
      simp [Ieee.Datum.order]
theorem SA{x:Nat}(hx:x<ZZ) :qB x=x%9223372036854775808:=by
  unfold qB;rfl
theorem ab8{x:Nat}(hx:x<ZZ)(h:xz x=true) :Z2 (qB x) 9218868437227405311=false:=by
  have hx':x<18446744073709551616:=hx
  have h':x%9223372036854775808<9218868437227405312:=by
    unfold xz xpo at h;simp only [bne_iff_ne,ne_eq] at h;omega
  unfold Z2
  rw [SA hx,aa3 h' (by decide)]
  rcases Nat.lt_trichotomy (x%9223372036854775808) 9218868437227405311 with q | q | q
  · rw [Nat.compare_eq_lt.2 q];rfl
  · rw [q];rfl
  · omega
theorem ab9{x:Nat}(hx:x<ZZ)(h:x%9223372036854775808=9218868437227405312) :Z2 (qB x) 9218868437227405311=true:=by
  unfold Z2
  rw [SA hx,h,Wa (by decide)];rfl
def fz(x:Nat) :Int:=sg (x/9223372036854775808==1) (vQ (x%9223372036854775808)*2^iQ (x%9223372036854775808))
theorem Sm.of{z e:Int}{k:Nat}(h:nl z.natAbs≤k)(hk:k≤300)(he : -30000≤e∧e≤30000) :Sm z e:=⟨Nat.le_trans h hk,he.1,he.2⟩
def Wd(l:List Nat) :Prop:=∀ i,l.getD i 0<ZZ
def Fn(l:List Nat) :Prop:=∀ i,i<l.length→xz (l.getD i 0)=true
end Go.Plb
namespace Go.Proofs.YtcfhbjfbfmlkiaaGreatDoor
open Go.ChangeShapes Go.WideShapes Go.ChangeAt Go.RowKit Go.Plb Go.Plb.Seat
theorem adq{xs:List Nat}(h:(FA.fl xs).has .fl) :Wd xs:=by
  intro i
  rw [List.getD_eq_getElem?_getD]
  cases e:xs[i]? with
  | none=>decide
  | some x =>
    have hx:=h.2 x (List.mem_of_getElem? e)
    have h2:=hx
    simp only [Lit.wf] at h2
    exact of_decide_eq_true h2
end Go.Proofs.YtcfhbjfbfmlkiaaGreatDoor
namespace Go.Plb.Seat
open Go Go.Plb
set_option linter.unusedSimpArgs false
set_option linter.unusedVariables false
noncomputable abbrev E0:xT:=aH []
theorem xo:aN prog E0:=In prog
theorem aa5(y:Nat) :ag prog vH [] [.flt true y] ⟨.flt true (qB y),[]⟩:=by
  have h:qA C0 E0 (hJ C0 E0 0 50) vH [] [.flt true y] (some [])=some (⟨.flt true (dd .andNot .u64 (y:Int) 9223372036854775808).toNat,[]⟩,[],some []):=by kernel_rfl
  have:=ag.run gM xo _ _ _ h trivial
  rw [aaC,Int.toNat_natCast] at this;exact this
theorem adr(ex:Bool)(x:Nat) :ag prog vH [] [.flt ex x] ⟨.flt ex (qB x),[]⟩:=by
  cases ex with
  | true=>exact aa5 x
  | false=>exact xm (r:=fun y=>.flt true (qB y)) aa5 (fun y hf ρ w u h=>h.flt_weak (aaD hf))
theorem Yu(y:Nat) :ag prog tF [] [.flt true y] ⟨.flt true (qB y),[]⟩:=by
  have h:qA C0 E0 (hJ C0 E0 0 50) tF [] [.flt true y] (some [])=some (⟨.flt true ((IntKind.u64.wrap ((y:Int)*2^min (Int.toNat 1) IntKind.u64.bits)).fdiv (2^min (Int.toNat 1) IntKind.u64.bits)).toNat,[]⟩,[true,true],some []):=by kernel_rfl
  have:=ag.run gM xo _ _ _ h ⟨rfl,rfl,trivial⟩
  rw [Yk,Int.toNat_natCast] at this;exact this
theorem acW(ex:Bool)(x:Nat) :ag prog tF [] [.flt ex x] ⟨.flt ex (qB x),[]⟩:=by
  cases ex with
  | true=>exact Yu x
  | false=>exact xm (r:=fun y=>.flt true (qB y)) Yu (fun y hf ρ w u h=>h.flt_weak (aaD hf))
theorem Fp(x y:Nat) :ag prog mv [] [.flt true x,.flt true y] ⟨.flt true (pd x y),[]⟩:=by
  have h:qA C0 E0 (hJ C0 E0 0 50) mv [] [.flt true x,.flt true y] (some [])=some (⟨.flt true (dd .or .u64 (dd .andNot .u64 (x:Int) 9223372036854775808) (dd .and .u64 (y:Int) 9223372036854775808)).toNat,[]⟩,[],some []):=by kernel_rfl
  have:=ag.run gM xo _ _ _ h trivial
  rw [aaC,acR,acn,Int.toNat_natCast] at this;exact this
theorem Wb(e1 e2:Bool)(x y:Nat)(hn:isNaN y=true→isNaN x=true) :ag prog mv [] [.flt e1 x,.flt e2 y] ⟨.flt false (pd x y),[]⟩ :=
  xn (r:=fun x y=>.flt true (pd x y)) Fp (fun x' y' h1 h2 ρ w u h=>h.flt_weak (FR.copy h1 h2 hn))
theorem SB(x y:Nat) :ag prog rK [] [.flt true x,.flt true y] ⟨.flt true (pd x y),[]⟩:=by
  have h:qA C0 E0 (hJ C0 E0 0 50) rK [] [.flt true x,.flt true y] (some [])=some (⟨.flt true (dd .or .u64
      ((IntKind.u64.wrap ((x:Int)*2^min (Int.toNat 1) IntKind.u64.bits)).fdiv (2^min (Int.toNat 1) IntKind.u64.bits))
      (IntKind.u64.wrap ((y:Int).fdiv (2^min (Int.toNat 63) IntKind.u64.bits)*2^min (Int.toNat 63) IntKind.u64.bits))).toNat,[]⟩,[true,true,true,true],some []):=by kernel_rfl
  have:=ag.run gM xo _ _ _ h ⟨rfl,rfl,rfl,rfl,trivial⟩
  rw [Yk,abV,acn,Int.toNat_natCast] at this;exact this
theorem aca(e1 e2:Bool)(x y:Nat)(hn:isNaN y=true→isNaN x=true) :ag prog rK [] [.flt e1 x,.flt e2 y] ⟨.flt false (pd x y),[]⟩ :=
  xn (r:=fun x y=>.flt true (pd x y)) SB (fun x' y' h1 h2 ρ w u h=>h.flt_weak (FR.copy h1 h2 hn))
def O9(L:List aB)(args:List AV) :Option (List qz) :=
  match L,args with
  | [],[.flt e1 x,.flt e2 y]=>bif e1&&e2 then one (.flt true (pd x y)) [] else one (.flt false (pd x y)) [!isNaN y||isNaN x]
  | _,_=>none
def aa6:aw:=⟨vH,fun L args=>match L,args with | [],[.flt e x]=>one (.flt e (qB x)) [] | _,_=>none⟩
def Wc:aw:=⟨tF,fun L args=>match L,args with | [],[.flt e x]=>one (.flt e (qB x)) [] | _,_=>none⟩
def IE:aw:=⟨mv,O9⟩
def Yv:aw:=⟨rK,O9⟩
theorem aa7:aO prog aa6:=by
  intro L args alts a h ha ho
  simp only [aa6] at h
  split at h
  · exact sk h ha ho fun _=>adr _ _
  · cases h
theorem Zs:aO prog Wc:=by
  intro L args alts a h ha ho
  simp only [Wc] at h
  split at h
  · exact sk h ha ho fun _=>acW _ _
  · cases h
theorem acX{x y:Nat}(h:ay [!isNaN y||isNaN x]) :isNaN y=true→isNaN x=true:=by
  intro hy;have:=h.1;rw [hy] at this;simpa using this
theorem Yw{f:FuncId}(hT:∀ x y,ag prog f [] [.flt true x,.flt true y] ⟨.flt true (pd x y),[]⟩) 
    (hF:∀ e1 e2 x y,(isNaN y=true→isNaN x=true)→ag prog f [] [.flt e1 x,.flt e2 y] ⟨.flt false (pd x y),[]⟩):aO prog ⟨f,O9⟩:=by
  intro L args alts a h ha ho
  simp only [O9] at h
  split at h
  · rename_i e1 x e2 y
    cases e1<;>cases e2<;>first | exact sk h ha ho fun q=>hF _ _ _ _ (acX q) | exact sk h ha ho fun q=>hT _ _
  · cases h
theorem KK:aO prog IE:=Yw Fp Wb
theorem We:aO prog Yv:=Yw SB aca
def L1:List aw:=[aa6,Wc,IE,Yv]
def S1:xT:=aH L1
theorem ads:aN prog S1:=ao aa7 (ao Zs (ao KK (ao We (In _))))
end Go.Plb.Seat
namespace Go.Plb.Seat
open Go Go.Plb
set_option linter.unusedSimpArgs false
set_option linter.unusedVariables false
set_option maxRecDepth 100000
def bn(n:Nat) :Bool:=Nat.ble n 1000000000
noncomputable def adt:Empty→aG:=fun a=>a.elim
noncomputable def adu:Unit→AE×aG:=fun _=>(.ret,⟨ah 8 [(2,.sl 0 1 1 0 0 0)],[(0,.fl [])],1⟩)
noncomputable def adN:Unit→gd:=fun _=>⟨.sl 0 1 1 0 0 0,[some (.fl [])]⟩
theorem acb:ag prog cB [] [.zsl true] ⟨.sl 0 1 1 0 0 0,[some (.fl [])]⟩ :=
  Sg.contract (x:=()) (X:=Unit) (N:=adt) (E:=adu) (m:=some (.inr ())) false adN (by kernel_rfl:prog.funcs[cB]? = some (FN cB)) (by kernel_rfl:(FN cB).body=some (nY cB))
    (Sg.seg (C:=C0) gM xo 60 (cR (nY cB)) (pT (FN cB) [] [.zsl true]) (.leaf (.inr ())) adt adu [⟨[(.slot 2,.own 1 1 (.fl []))],[64],[2]⟩] (by kernel_rfl))
    (fun _=>⟨.inr rfl,[.sl 0 1 1 0 0 0],[],by kernel_rfl,trivial,by kernel_rfl⟩) rfl
theorem aa8:ag prog cB [] [.zsl false] ⟨.sl 0 1 1 0 0 0,[some (.fl [])]⟩ :=
  ag.run gM xo (some []) 0 60 (p':=some []) (obs:=[]) (by kernel_rfl) nob
theorem acd(l:Lv) :ag prog cB [] [.imm l (.fl []) 1 1 0 0] ⟨.sl 0 1 1 0 0 0,[some (.fl [])]⟩:=by
  intro ρ w us hN hv
  cases hv with | cons _ u _ _ h1 h2 =>
  cases h2
  have key:∀ (a:Option Addr) cap,cv ρ w [.zsl a.isNone] [.slice a 0 cap]:=fun a cap=>.cons _ _ _ _ (.zsl a cap) .nil
  have all:∀ b,ag prog cB [] [.zsl b] ⟨.sl 0 1 1 0 0 0,[some (.fl [])]⟩:=fun b=>by
    cases b
    · exact aa8
    · exact acb
  cases h1 with
  | imm _ _ _ _ _ _ cap bl o u'=>exact all _ ρ w _ hN (key _ cap)
  | immEnd _ _ _ _ _ cap a=>exact all _ ρ w _ hN (key a cap)
theorem ace(l:Lv)(xs:List Nat)(hl:xs.length≤1000000000) :ag prog cB [] [.imm l (.fl xs) 1 1 0 xs.length] ⟨.sl 0 1 1 0 xs.length xs.length,[some (.fl xs)]⟩:=by
  rcases Nat.eq_zero_or_pos xs.length with h0 | h0
  · have:xs=[]:=List.length_eq_zero_iff.1 h0
    subst this
    exact acd l
  · have h:qA C0 E0 (hJ C0 E0 0 60) cB [] [.imm l (.fl xs) 1 1 0 xs.length] (some [])=some (⟨.sl 0 1 1 0 (0+xs.length) (0+xs.length),[some (.fl (List.take 0 []++List.take xs.length xs))]⟩,
        [Nat.blt 0 xs.length,mW ((0+xs.length)*8) 140737488355328,mW (0+xs.length) 9223372036854775807,mW xs.length xs.length,mW 0 ([]:List Nat).length],some []):=by kernel_rfl
    have:=ag.run gM xo _ _ _ h (ob (by rw [Nat.blt_eq];exact h0)<|ob (by simp [mW];omega)<|ob (by simp [mW];omega)<|ob (by simp [mW])<|ob rfl nob)
    simp only [Nat.zero_add,List.take_zero,List.nil_append,List.take_length] at this
    exact this
noncomputable def Yx:aw:=bW cB (.cons .fl .nil) fun t=>[⟨⟨.sl 0 1 1 0 t.1.2.length t.1.2.length,[some (.fl t.1.2)]⟩,[bn t.1.2.length]⟩]
theorem Wf:aO prog Yx:=aS fun t=>aT (fun h=>ace t.1.1 t.1.2 (Nat.le_of_ble_eq_true h)) bb
noncomputable def L2c:List aw:=Yx::L1
theorem acY:aN prog (aH L2c):=ao Wf ads
noncomputable def SC:Empty→aG:=fun a=>a.elim
noncomputable def SD:Unit→AE×aG:=fun _=>(.ret,⟨ah 8 [(2,.sl 0 1 1 0 0 0)],[(0,.ns .u64 [])],1⟩)
noncomputable def aa9:Unit→gd:=fun _=>⟨.sl 0 1 1 0 0 0,[some (.ns .u64 [])]⟩
theorem SE:ag prog bJ [] [.zsl true] ⟨.sl 0 1 1 0 0 0,[some (.ns .u64 [])]⟩ :=
  Sg.contract (x:=()) (X:=Unit) (N:=SC) (E:=SD) (m:=some (.inr ())) false aa9 (by kernel_rfl:prog.funcs[bJ]? = some (FN bJ)) (by kernel_rfl:(FN bJ).body=some (nY bJ))
    (Sg.seg (C:=C0) gM xo 60 (cR (nY bJ)) (pT (FN bJ) [] [.zsl true]) (.leaf (.inr ())) SC SD [⟨[(.slot 2,.own 1 1 (.ns .u64 []))],[64],[2]⟩] (by kernel_rfl))
    (fun _=>⟨.inr rfl,[.sl 0 1 1 0 0 0],[],by kernel_rfl,trivial,by kernel_rfl⟩) rfl
theorem Pa:ag prog bJ [] [.zsl false] ⟨.sl 0 1 1 0 0 0,[some (.ns .u64 [])]⟩ :=
  ag.run gM xo (some []) 0 60 (p':=some []) (obs:=[]) (by kernel_rfl) nob
theorem SF(l:Lv) :ag prog bJ [] [.imm l (.ns .u64 []) 1 1 0 0] ⟨.sl 0 1 1 0 0 0,[some (.ns .u64 [])]⟩:=by
  intro ρ w us hN hv
  cases hv with | cons _ u _ _ h1 h2 =>
  cases h2
  have key:∀ (a:Option Addr) cap,cv ρ w [.zsl a.isNone] [.slice a 0 cap]:=fun a cap=>.cons _ _ _ _ (.zsl a cap) .nil
  have all:∀ b,ag prog bJ [] [.zsl b] ⟨.sl 0 1 1 0 0 0,[some (.ns .u64 [])]⟩:=fun b=>by
    cases b
    · exact Pa
    · exact SE
  cases h1 with
  | imm _ _ _ _ _ _ cap bl o u'=>exact all _ ρ w _ hN (key _ cap)
  | immEnd _ _ _ _ _ cap a=>exact all _ ρ w _ hN (key a cap)
theorem SG(l:Lv)(xs:List Int)(hl:xs.length≤1000000000) :ag prog bJ [] [.imm l (.ns .u64 xs) 1 1 0 xs.length] ⟨.sl 0 1 1 0 xs.length xs.length,[some (.ns .u64 xs)]⟩:=by
  rcases Nat.eq_zero_or_pos xs.length with h0 | h0
  · have:xs=[]:=List.length_eq_zero_iff.1 h0
    subst this
    exact SF l
  · have h:qA C0 E0 (hJ C0 E0 0 60) bJ [] [.imm l (.ns .u64 xs) 1 1 0 xs.length] (some [])=some (⟨.sl 0 1 1 0 (0+xs.length) (0+xs.length),[some (.ns .u64 (List.take 0 ([]:List Int)++List.take xs.length xs))]⟩,
        [Nat.blt 0 xs.length,mW ((0+xs.length)*8) 140737488355328,mW (0+xs.length) 9223372036854775807,mW xs.length xs.length,mW 0 ([]:List Int).length],some []):=by kernel_rfl
    have:=ag.run gM xo _ _ _ h (ob (by rw [Nat.blt_eq];exact h0)<|ob (by simp [mW];omega)<|ob (by simp [mW];omega)<|ob (by simp [mW])<|ob rfl nob)
    simp only [Nat.zero_add,List.take_zero,List.nil_append,List.take_length] at this
    exact this
noncomputable def Fq:aw:=bW bJ (.cons (.ns .u64) .nil) fun t=>[⟨⟨.sl 0 1 1 0 t.1.2.length t.1.2.length,[some (.ns .u64 t.1.2)]⟩,[bn t.1.2.length]⟩]
theorem IF:aO prog Fq:=aS fun t=>aT (fun h=>SG t.1.1 t.1.2 (Nat.le_of_ble_eq_true h)) bb
noncomputable def Yy:List aw:=Fq::L2c
theorem Wg:aN prog (aH Yy):=ao IF acY
noncomputable def L2:List aw:=Yy
theorem adv:aN prog (aH L2):=Wg
end Go.Plb.Seat
namespace Go.Plb.Seat
open Go Go.Plb
set_option linter.unusedSimpArgs false
set_option linter.unusedVariables false
theorem aba{n:Nat}(h:isNaN n=true) :n/4503599627370496%2048=2047:=by
  rw [ka,decide_eq_true_eq] at h;omega
theorem abb(n:Nat) :Int.tmod (Int.fdiv (n:Int) (2^min (Int.toNat 52) IntKind.u64.bits)) 2048=((n/4503599627370496%2048:Nat):Int):=by
  have e:(2^min (Int.toNat 52) IntKind.u64.bits:Int)=((4503599627370496:Nat):Int):=by decide
  rw [e,Int.fdiv_eq_ediv_of_nonneg _ (by omega)];exact Int.tmod_eq_emod_of_nonneg (Int.natCast_nonneg _)
theorem ag.nan{f:FuncId}{g:Nat→gd}{r:gd}(h:∀ n:Nat,ag prog f [] [.int .u64 (n:Int)] (g n))(e:∀ n:Nat,isNaN n=true→g n=r) :ag prog f [] [.nan] r:=by
  intro ρ w us hN hv
  cases hv with | cons _ u _ _ h1 h2 =>
  cases h2
  cases h1 with | nan n hn =>
  rw [←e n hn]
  exact h n ρ w _ hN (.cons _ _ _ _ (.int _ _) .nil)
theorem Zt:ag prog nU [] [.nan] ⟨.bool false false,[]⟩:=by
  refine ag.nan (g:=fun n=>⟨.bool false ((Int.tmod (Int.fdiv (n:Int) (2^min (Int.toNat 52) IntKind.u64.bits)) 2048) != 2047),[]⟩) (fun n=>?_) (fun n hn=>?_)
  · have h:qA C0 E0 (hJ C0 E0 0 50) nU [] [.int .u64 n] (some [])=some (⟨.bool false ((Int.tmod (Int.fdiv (n:Int) (2^min (Int.toNat 52) IntKind.u64.bits)) 2048) != 2047),[]⟩,[(decide ((0:Int)≤52)),((2048:Int) != 0)],some []):=by kernel_rfl
    exact ag.run gM xo _ _ _ h ⟨rfl,rfl,trivial⟩
  · simp only [abb,aba hn];rfl
theorem Wh:ag prog nU [] [.nan] ⟨.bool true false,[]⟩:=Zt.weak (A0 _ _ _)
def Em:aw:=⟨nU,fun L args=>match L,args with | [],[.nan]=>one (.bool true false) [] | _,_=>none⟩
theorem Pb:aO prog Em:=by
  intro L args alts a h ha ho
  simp only [Em] at h
  split at h
  · exact sk h ha ho fun q=>Wh
  · cases h
noncomputable def L3:List aw:=Em::L2
theorem acA:aN prog (aH L3):=ao Pb adv
end Go.Plb.Seat
namespace Go.Plb.Seat
noncomputable section
open Go Go.Plb
set_option linter.unusedVariables false
set_option maxRecDepth 100000
theorem bp{S:xT}(hS:aN prog S){lent:List aB}{α X:Type}{cs:List Code}{st:aG}{t:T (α⊕X)}(N:α→aG){E:X→AE×aG}(ks:List NS) 
    (h:aaZ C0 S 60 cs st t.leaves ks lent.length=Yq N E t.leaves:=by kernel_rfl):Sg prog lent cs st t.run N E:=Sg.seg gM hS 60 cs st t N E ks h
theorem Fr{lent:List aB}{σ ρ X:Type}{cs:List Code}{st:aG}{E:X→AE×aG}{B:σ→Option (σ⊕(ρ⊕X))}{ent:σ}(s:NS)(I:σ→aG)(J:ρ→aG)(id:Nat)(hE:jT E)(hI:nD id E) 
    (hb:∀ a,Sg prog lent (cR (fe (cs.headD .skip))) (I a) (B a) I (dD id J E)) (hn:s.ok lent.length=true:=by exact rfl) (h1:s.on st=I ent:=by kernel_rfl) (hcs:cs=[.block id (.loop (fe (cs.headD .skip)))]:=by kernel_rfl) :
    Sg prog lent cs st (ej B ent) J E:=Sg.pre s hn h1 (Zm hcs hE hI hb ent)
theorem sgb{lent:List aB}{κ X:Type}{cs:List Code}{st:aG}{E:X→AE×aG}{m:Option (κ⊕(κ⊕X))}(K:κ→aG)(id:Nat)(hE:jT E)(hI:nD id E) 
    (hb:Sg prog lent (cR (inBlock (cs.headD .skip))) st m K (dD id K E)) (hcs:cs=[.block id (inBlock (cs.headD .skip))]:=by kernel_rfl):Sg prog lent cs st (IA m) K E:=V9 hcs hE hI hb
def lb:Empty→aG:=fun a=>a.elim
theorem kI{fn:Func}{k:Nat}{keep:Bool}{o:gd}{st:aG}(vs:List AV)(h1:jr prog fn st fn.results.toList=some (vs,[]):=by kernel_rfl)(h2:H9 k keep st.heap (D8 vs)=some o:=by kernel_rfl) :Yj prog fn k keep o .ret st :=
  ⟨.inr rfl,vs,[],h1,trivial,h2⟩
theorem lE{f:FuncId}{X:Type}{m:Option (Empty⊕X)}{lent:List aB}{args:List AV}{x:X}(keep:Bool)(o:X→gd)(E:X→AE×aG)(hx:kD m=some x) 
    (h:Sg prog lent (cR (nY f)) (pT (FN f) lent args) m lb E) (hE:∀ x,Yj prog (FN f) lent.length keep (o x) (E x).1 (E x).2)
    (hf:prog.funcs[f]? = some (FN f):=by kernel_rfl) (hc:(FN f).body=some (nY f):=by kernel_rfl):ag prog f lent args (o x) :=
  Sg.contract (P:=prog) (f:=f) (fn:=FN f) (c:=nY f) (N:=lb) (E:=E) (lent:=lent) (args:=args) keep o hf hc h hE hx
end
end Go.Plb.Seat
namespace Go.Plb.Seat
open Go Go.Plb
set_option linter.unusedVariables false
set_option maxRecDepth 100000
noncomputable section
inductive bH where
  | r0 (a:Int)
def rN:bH→AE×aG
  | .r0 a=>(.ret,⟨ah 14 [(2,.int .i64 a)],[],0⟩)
def gk:bH→gd
  | .r0 a=>⟨.int .i64 a,[]⟩
def qR(a:Int) :T ((Empty)⊕(bH)) :=
  .ask (a==(0:Int))
    (.leaf (.inr (.r0 (64:Int))))
    (.need (decide ((0:Int)≤(58:Int)))<|.need (eY (Int.fdiv (IntKind.u64.wrap ((dd .and .u64 a (IntKind.u64.wrap ((0:Int)-a)))*(285870213051353865:Int))) (2^(min (Int.toNat (58:Int)) (IntKind.u64.bits)))) 64)<|.need (fm (fb (fb 0 (Kh (Int.toNat (Int.fdiv (IntKind.u64.wrap ((dd .and .u64 a (IntKind.u64.wrap ((0:Int)-a)))*(285870213051353865:Int))) (2^(min (Int.toNat (58:Int)) (IntKind.u64.bits))))) 1)) 0) (List.length ba))<|.leaf (.inr (.r0 (IntKind.i64.wrap (List.getD ba (fb (fb 0 (Kh (Int.toNat (Int.fdiv (IntKind.u64.wrap ((dd .and .u64 a (IntKind.u64.wrap ((0:Int)-a)))*(285870213051353865:Int))) (2^(min (Int.toNat (58:Int)) (IntKind.u64.bits))))) 1)) 0) 0)))))
def de(a:Int) :Option bH:=kD ((qR a).run)
theorem qS(a:Int){x:bH}(h:de a=some x) :ag prog jV [] [.int .u64 a] (gk x) :=
  lE false gk rN h (bp acA lb [⟨[],[],[2]⟩,⟨[],[],[2]⟩])
    (fun x=>by cases x with | r0 b=>exact kI [.int .i64 b])
def ed:Option bH→Bool
  | some _=>true
  | none=>false
def dx:Option bH→Int
  | some (.r0 x)=>x
  | _=>0
theorem qT{x:Option bH}(h:ed x=true) :x=some (.r0 (dx x)):=by
  unfold ed at h
  split at h<;>first | rfl | (cases h;done) | (rename_i y;cases y;rfl)
def jW:aw:=bW jV (.cons (.int .u64) .nil) fun t=>(fun q=>[⟨gk (.r0 (dx q)),[ed q]⟩]) (de t.1)
theorem pr:aO prog jW:=aS fun t=>(aT (fun h=>qS t.1 (qT h)) bb)
def jX:List aw:=jW::L3
theorem fo:aN prog (aH jX):=ao pr acA
inductive cG where
  | r0 (a:Int) (b:Int)
def tK:cG→AE×aG
  | .r0 a b=>(.ret,⟨ah 51 [(4,.int .u64 a),(5,.int .u64 b)],[],0⟩)
theorem Be:jT tK:=by intro x;cases x<;>(intro h;cases h)
def nZ:cG→gd
  | .r0 a b=>⟨.tup [.int .u64 a,.int .u64 b],[]⟩
def Bf(a:Int)(b:Int) :Int×Int×Int×Int→aG:=fun (c,d,e,f)=>⟨ah 51 [(0,.int .u64 a),(1,.int .u64 b),(6,.int .u64 c),(7,.int .u64 d),(9,.int .u64 e),(11,.int .u64 f)],[],0⟩
def Bg(a:Int)(b:Int) :T ((Int×Int×Int×Int)⊕(cG)) :=
  .need (decide ((0:Int)≤(32:Int)))<|.need (decide ((0:Int)≤(32:Int)))<|.need (decide ((0:Int)≤(32:Int)))<|.leaf (.inl ((dd .and .u64 a (4294967295:Int)),(Int.fdiv a (2^(min (Int.toNat (32:Int)) (IntKind.u64.bits)))),(Int.fdiv b (2^(min (Int.toNat (32:Int)) (IntKind.u64.bits)))),(IntKind.u64.wrap ((IntKind.u64.wrap ((Int.fdiv a (2^(min (Int.toNat (32:Int)) (IntKind.u64.bits))))*(dd .and .u64 b (4294967295:Int))))+(Int.fdiv (IntKind.u64.wrap ((dd .and .u64 a (4294967295:Int))*(dd .and .u64 b (4294967295:Int)))) (2^(min (Int.toNat (32:Int)) (IntKind.u64.bits))))))))
def Bh(c:Int)(d:Int)(e:Int)(f:Int)(a:Int)(b:Int) :T ((Empty)⊕(cG)) :=
  .need (decide ((0:Int)≤(32:Int)))<|.need (decide ((0:Int)≤(32:Int)))<|.leaf (.inr (.r0 (IntKind.u64.wrap ((IntKind.u64.wrap ((IntKind.u64.wrap (f*a))+(Int.fdiv b (2^(min (Int.toNat (32:Int)) (IntKind.u64.bits))))))+(Int.fdiv (IntKind.u64.wrap ((dd .and .u64 b (4294967295:Int))+(IntKind.u64.wrap (e*a)))) (2^(min (Int.toNat (32:Int)) (IntKind.u64.bits)))))) (IntKind.u64.wrap (c*d))))
def eE(a:Int)(b:Int) :Option cG:=kD (aQ ((Bg a b).run) fun (c,d,e,f) =>
  (Bh a b c d e f).run)
theorem Bi(a:Int)(b:Int){x:cG}(h:eE a b=some x) :ag prog tH [] [.int .u64 a,.int .u64 b] (nZ x) :=
  lE false nZ tK h (Sg.cut 7 Be (bp fo (Bf a b) [⟨[],[],[0,1,6,7,9,11]⟩]) (fun ⟨e,f,g,i⟩=>bp fo lb [⟨[],[],[4,5]⟩]))
    (fun x=>by cases x with | r0 c d=>exact kI [.int .u64 c,.int .u64 d])
def iR:Option cG→Bool
  | some _=>true
  | none=>false
def kh:Option cG→Int
  | some (.r0 x _)=>x
  | _=>0
def fN:Option cG→Int
  | some (.r0 _ x)=>x
  | _=>0
theorem Bj{x:Option cG}(h:iR x=true) :x=some (.r0 (kh x) (fN x)):=by
  unfold iR at h
  split at h<;>first | rfl | (cases h;done) | (rename_i y;cases y;rfl)
def tL:aw:=bW tH (.cons (.int .u64) (.cons (.int .u64) .nil)) fun t=>(fun q=>[⟨nZ (.r0 (kh q) (fN q)),[iR q]⟩]) (eE t.1 t.2.1)
theorem yk:aO prog tL:=aS fun t=>(aT (fun h=>Bi t.1 t.2.1 (Bj h)) bb)
def tM:List aw:=tL::jX
theorem fO:aN prog (aH tM):=ao yk fo
inductive fp where
  | r0 (a:List Int) (b:Nat)
def vR(a:Lv) :fp→AE×aG
  | .r0 b c=>(.ret,⟨ah 21 [(2,.imm a (.ns .u64 b) 1 1 0 c)],[],0⟩)
theorem tN{a:Lv} :jT (vR a):=by intro x;cases x<;>(intro h;cases h)
theorem SH{a:Lv}(id:Nat) :nD id (vR a):=by intro x;cases x<;>(intro h;cases h)
def Bk(a:Lv) :fp→gd
  | .r0 b c=>⟨.imm a (.ns .u64 b) 1 1 0 c,[]⟩
def SI:List Code:=cR (nY na)
def SJ(b:Lv)(a:List Int)(_:Unit) :aG:=⟨ah 21 [(0,.imm b (.ns .u64 a) 1 1 0 (List.length a))],[],0⟩
def SK:T ((Unit)⊕(fp)) :=
  .leaf (.inl ())
def tO(a:Lv)(b:List Int)(c:Nat) :aG:=⟨ah 21 [(0,.imm a (.ns .u64 b) 1 1 0 c)],[],0⟩
def Fs(a:Lv)(b:List Int)(c:Nat) :aG:=⟨ah 21 [(0,.imm a (.ns .u64 b) 1 1 0 c)],[],0⟩
def Pc:List Code:=cR (fe ((((SI.drop 1).take 1)).headD .skip))
def SL(a:Lv)(b:List Int)(c:Nat)(d:Bool) :aG:=⟨ah 21 [(0,.imm a (.ns .u64 b) 1 1 0 c),(14,.bool false d)],[],0⟩
def Pd(b:List Int)(a:Nat) :T ((Bool)⊕((Nat)⊕(fp))) :=
  .ask (decide (((a:Nat):Int)>(0:Int)))
    (.need (dZ .i64 (((a:Nat):Int)-(1:Int)))<|.need (eY (((a:Nat):Int)-(1:Int)) a)<|.need (fm (Int.toNat (((a:Nat):Int)-(1:Int))) (List.length b))<|.leaf (.inl ((List.getD b (Int.toNat (((a:Nat):Int)-(1:Int))) 0)==(0:Int))))
    (.leaf (.inl false))
def Pe(a:Nat)(b:Bool) :T ((Nat)⊕((Nat)⊕(fp))) :=
  .ask b
    (.need (dZ .i64 (((a:Nat):Int)-(1:Int)))<|.need (vg (((a:Nat):Int)-(1:Int)) a)<|.need (vg (0:Int) (Int.toNat (((a:Nat):Int)-(1:Int))))<|.leaf (.inl (Int.toNat (((a:Nat):Int)-(1:Int)))))
    (.leaf (.inr (.inl a)))
def vS(b:List Int) :Nat→Option ((Nat)⊕((Nat)⊕(fp))):=fun a =>
  aQ ((Pd b a).run) fun c =>
  (Pe a c).run
theorem Pf(a:Lv)(b:List Int)(c:Nat) :Sg prog [] Pc (tO a b c) (vS b c) (tO a b) (dD 0 (Fs a b) (vR a)):=by
  unfold vS;exact Sg.cut 1 (bh tN) (bp fO (SL a b c) [⟨[],[],[0,14]⟩,⟨[],[],[0,14]⟩]) (fun d=>bp fO (tO a b) [⟨[],[],[0]⟩,⟨[],[],[0]⟩])
def Pg(a:List Int)(b:Nat) :T ((Empty)⊕(fp)) :=
  .leaf (.inr (.r0 a b))
def ap(a:List Int) :Option fp:=kD (aQ ((SK).run) fun _ =>
  aQ (ej (vS a) (List.length a)) fun b =>
  (Pg a b).run)
theorem SM(a:Lv)(b:List Int){x:fp}(h:ap b=some x) :ag prog na [] [.imm a (.ns .u64 b) 1 1 0 (List.length b)] (Bk a x) :=
  lE false (Bk a) (vR a) h (Sg.cut 1 tN (bp fO (SJ a b) [⟨[],[],[0]⟩]) (fun _=>Sg.cut 1 tN (Fr ⟨[],[],[0]⟩ (tO a b) (Fs a b) 0 tN (SH _) (fun c=>Pf a b c)) (fun f=>bp fO lb [⟨[],[],[2]⟩])))
    (fun x=>by cases x with | r0 d e=>exact kI [.imm a (.ns .u64 d) 1 1 0 e])
def cW:Option fp→Bool
  | some _=>true
  | none=>false
def aZ:Option fp→List Int
  | some (.r0 x _)=>x
  | _=>[]
def aC:Option fp→Nat
  | some (.r0 _ x)=>x
  | _=>0
theorem SN{x:Option fp}(h:cW x=true) :x=some (.r0 (aZ x) (aC x)):=by
  unfold cW at h
  split at h<;>first | rfl | (cases h;done) | (rename_i y;cases y;rfl)
def IG:aw:=bW na (.cons (.ns .u64) .nil) fun t=>(fun q=>[⟨Bk t.1.1 (.r0 (aZ q) (aC q)),[cW q]⟩]) (ap t.1.2)
theorem KL:aO prog IG:=aS fun t=>(aT (fun h=>SM t.1.1 t.1.2 (SN h)) bb)
def IH:List aw:=IG::tM
theorem uv:aN prog (aH IH):=ao KL fO
inductive gN where
  | r0 (a:Nat) (b:Nat) (c:List Int)
def II:gN→AE×aG
  | .r0 a b c=>(.ret,⟨ah 12 [(2,.sl 0 1 1 0 a a),(3,.int .i64 ((b:Nat):Int))],[(0,.ns .u64 c)],1⟩)
theorem SO:jT II:=by intro x;cases x<;>(intro h;cases h)
def Bl:gN→gd
  | .r0 a b c=>⟨.tup [.imm .free (.ns .u64 c) 1 1 0 a,.int .i64 ((b:Nat):Int)],[]⟩
def SP(a:Lv) :Nat×(List Int)×Nat→aG:=fun (b,c,d)=>⟨ah 12 [(1,.ptr 0 1 0 0),(4,.int .i64 ((b:Nat):Int))],[(0,.vs [.imm a (.ns .u64 c) 1 1 0 d])],1⟩
def SQ(a:List Int) :T ((Nat×(List Int)×Nat)⊕(gN)) :=
  .ask (decide ((0:Int)<(1:Int)))
    (.need (eY (0:Int) 1)<|.need (aU 0 (List.length a) a)<|.need (cW (ap (aa 0 (List.length a) a)))<|.ask (decide ((((aC (ap (aa 0 (List.length a) a))):Nat):Int)>(4096:Int)))
      (.leaf (.inl (2,(aZ (ap (aa 0 (List.length a) a))),(aC (ap (aa 0 (List.length a) a))))))
      (.need (dZ .i64 (1:Int))<|.ask (decide ((1:Int)<(1:Int)))
        (.fail)
        (.leaf (.inl (0,(aZ (ap (aa 0 (List.length a) a))),(aC (ap (aa 0 (List.length a) a))))))))
    (.fail)
def SS(c:Nat)(a:List Int)(b:Nat) :T ((Empty)⊕(gN)) :=
  .ask (((c:Nat):Int) != (0:Int))
    (.leaf (.inr (.r0 0 c ([]:List Int))))
    (.need (aU 0 b a)<|.need (bn (List.length (aa 0 b a)))<|.leaf (.inr (.r0 (List.length (aa 0 b a)) 0 (aa 0 b a))))
def nc(a:List Int) :Option gN:=kD (aQ ((SQ a).run) fun (b,c,d) =>
  (SS b c d).run)
theorem SU(b:Lv)(a:List Int){x:gN}(h:nc a=some x) :ag prog A7 [] [.imm b (.ns .u64 a) 1 1 0 (List.length a)] (Bl x) :=
  lE true Bl II h (Sg.cut 2 SO (bp uv (SP b) [⟨[],[0],[1,4]⟩,⟨[],[0],[1,4]⟩]) (fun ⟨e,f,g⟩=>bp uv lb [⟨[(.slot 2,.own 1 1 (.ns .u64 ([]:List Int)))],[81],[2,3]⟩,⟨[],[49],[2,3]⟩]))
    (fun x=>by cases x with | r0 c d i=>exact kI [.sl 0 1 1 0 c c,.int .i64 ((d:Nat):Int)])
def qE:Option gN→Bool
  | some _=>true
  | none=>false
def uw:Option gN→Nat
  | some (.r0 x _ _)=>x
  | _=>0
def ux:Option gN→Nat
  | some (.r0 _ x _)=>x
  | _=>0
def uy:Option gN→List Int
  | some (.r0 _ _ x)=>x
  | _=>[]
theorem SV{x:Option gN}(h:qE x=true) :x=some (.r0 (uw x) (ux x) (uy x)):=by
  unfold qE at h
  split at h<;>first | rfl | (cases h;done) | (rename_i y;cases y;rfl)
def IJ:aw:=bW A7 (.cons (.ns .u64) .nil) fun t=>(fun q=>[⟨Bl (.r0 (uw q) (ux q) (uy q)),[qE q]⟩]) (nc t.1.2)
theorem KM:aO prog IJ:=aS fun t=>(aT (fun h=>SU t.1.1 t.1.2 (SV h)) bb)
def IK:List aw:=IJ::IH
theorem lF:aN prog (aH IK):=ao KM uv
inductive ct where
  | r0 (a:Nat) (b:Nat) (c:Nat) (d:List Int)
def pW:ct→AE×aG
  | .r0 a b c d=>(.ret,⟨ah 21 [(2,.sl 0 1 1 a b c)],[(0,.ns .u64 d)],1⟩)
theorem oa:jT pW:=by intro x;cases x<;>(intro h;cases h)
theorem IL(id:Nat) :nD id pW:=by intro x;cases x<;>(intro h;cases h)
def uz:ct→gd
  | .r0 a b c d=>⟨.sl 0 1 1 a b c,[some (.ns .u64 d)]⟩
def IM:List Code:=cR (nY na)
def IN(a:List Int)(b:Nat)(c:Nat)(d:Nat)(_:Unit) :aG:=⟨ah 21 [(0,.sl 0 1 1 b c d)],[(0,.ns .u64 a)],1⟩
def IP:T ((Unit)⊕(ct)) :=
  .leaf (.inl ())
def oc(a:List Int)(b:Nat) :Nat×Nat→aG:=fun (c,d)=>⟨ah 21 [(0,.sl 0 1 1 c d b)],[(0,.ns .u64 a)],1⟩
def yl(a:List Int)(b:Nat) :Nat×Nat→aG:=fun (c,d)=>⟨ah 21 [(0,.sl 0 1 1 c d b)],[(0,.ns .u64 a)],1⟩
def Gc:List Code:=cR (fe ((((IM.drop 1).take 1)).headD .skip))
def IQ(a:List Int)(b:Nat)(c:Nat)(d:Nat)(e:Bool) :aG:=⟨ah 21 [(0,.sl 0 1 1 c d b),(14,.bool false e)],[(0,.ns .u64 a)],1⟩
def Gd(b:List Int)(c:Nat)(a:Nat) :T ((Bool)⊕((Nat×Nat)⊕(ct))) :=
  .ask (decide (((a:Nat):Int)>(0:Int)))
    (.need (dZ .i64 (((a:Nat):Int)-(1:Int)))<|.need (eY (((a:Nat):Int)-(1:Int)) a)<|.need (fm (fb c (Int.toNat (((a:Nat):Int)-(1:Int)))) (List.length b))<|.leaf (.inl ((List.getD b (fb c (Int.toNat (((a:Nat):Int)-(1:Int)))) 0)==(0:Int))))
    (.leaf (.inl false))
def Ge(c:Nat)(b:Nat)(a:Nat)(d:Bool) :T ((Nat×Nat)⊕((Nat×Nat)⊕(ct))) :=
  .ask d
    (.need (dZ .i64 (((a:Nat):Int)-(1:Int)))<|.need (vg (((a:Nat):Int)-(1:Int)) c)<|.need (vg (0:Int) (Int.toNat (((a:Nat):Int)-(1:Int))))<|.leaf (.inl ((fb b 0),(Int.toNat (((a:Nat):Int)-(1:Int))))))
    (.leaf (.inr (.inl (b,a))))
def qU(c:List Int)(d:Nat) :Nat×Nat→Option ((Nat×Nat)⊕((Nat×Nat)⊕(ct))):=fun (a,b) =>
  aQ ((Gd c a b).run) fun e =>
  (Ge d a b e).run
theorem Gf(a:List Int)(b:Nat)(c:Nat)(d:Nat) :Sg prog [.ns .u64 a] Gc (oc a b (c,d)) (qU a b (c,d)) (oc a b) (dD 0 (yl a b) pW):=by
  unfold qU;exact Sg.cut 1 (bh oa) (bp lF (IQ a b c d) [⟨[],[0],[0,14]⟩,⟨[],[0],[0,14]⟩]) (fun e=>bp lF (oc a b) [⟨[],[0],[0]⟩,⟨[],[0],[0]⟩])
def Gg(a:List Int)(b:Nat)(c:Nat)(d:Nat) :T ((Empty)⊕(ct)) :=
  .leaf (.inr (.r0 c d b a))
def bd(a:List Int)(c:Nat)(d:Nat)(b:Nat) :Option ct:=kD (aQ ((IP).run) fun _ =>
  aQ (ej (qU a b) (c,d)) fun (e,f) =>
  (Gg a b e f).run)
theorem IR(a:List Int)(c:Nat)(d:Nat)(b:Nat){x:ct}(h:bd a c d b=some x) :ag prog na [.ns .u64 a] [.sl 0 1 1 c d b] (uz x) :=
  lE false uz pW h (Sg.cut 1 oa (bp lF (IN a c d b) [⟨[],[0],[0]⟩]) (fun _=>Sg.cut 1 oa (Fr ⟨[],[0],[0]⟩ (oc a b) (yl a b) 0 oa (IL _) (fun ⟨e,f⟩=>Gf a b e f)) (fun ⟨k,l⟩=>bp lF lb [⟨[],[0],[2]⟩])))
    (fun x=>by cases x with | r0 g i j m=>exact kI [.sl 0 1 1 g i j])
def fP:Option ct→Bool
  | some _=>true
  | none=>false
def fq:Option ct→Nat
  | some (.r0 x _ _ _)=>x
  | _=>0
def fu:Option ct→Nat
  | some (.r0 _ x _ _)=>x
  | _=>0
def fv:Option ct→Nat
  | some (.r0 _ _ x _)=>x
  | _=>0
def fw:Option ct→List Int
  | some (.r0 _ _ _ x)=>x
  | _=>[]
theorem IS{x:Option ct}(h:fP x=true) :x=some (.r0 (fq x) (fu x) (fv x) (fw x)):=by
  unfold fP at h
  split at h<;>first | rfl | (cases h;done) | (rename_i y;cases y;rfl)
def Aa:aw:=Sx na [.ns .u64] (.cons (.lsl 0) .nil) fun x t=>(fun q=>[⟨uz (.r0 (fq q) (fu q) (fv q) (fw q)),[fP q]⟩]) (bd x.1 t.1.1 t.1.2.1 t.1.2.2)
theorem En:aO prog Aa:=Iy fun x t=>(zr (fun h=>IR x.1 t.1.1 t.1.2.1 t.1.2.2 (IS h)) Iz)
def Ab:List aw:=Aa::IK
theorem pt:aN prog (aH Ab):=ao En lF
inductive js where
  | r0 (a:Nat) (b:Nat) (c:Nat) (d:List Int)
def SW:js→AE×aG
  | .r0 a b c d=>(.ret,⟨ah 6 [(2,.sl 0 1 1 a b c)],[(0,.ns .u64 d)],1⟩)
theorem Zu:jT SW:=by intro x;cases x<;>(intro h;cases h)
def IT:js→gd
  | .r0 a b d c=>⟨.imm .free (.ns .u64 c) 1 1 a b,[]⟩
def Zv:Nat×Nat×Nat×(List Int)→aG:=fun (a,b,c,d)=>⟨ah 6 [(2,.sl 0 1 1 a b c)],[(0,.ns .u64 d)],1⟩
def Zw(a:Int) :T ((Nat×Nat×Nat×(List Int))⊕(js)) :=
  .need (fP (bd [a] 0 1 1))<|.leaf (.inl ((fq (bd [a] 0 1 1)),(fu (bd [a] 0 1 1)),(fv (bd [a] 0 1 1)),(fw (bd [a] 0 1 1))))
def Zx(a:Nat)(b:Nat)(c:Nat)(d:List Int) :T ((Empty)⊕(js)) :=
  .leaf (.inr (.r0 a b c d))
def bj(a:Int) :Option js:=kD (aQ ((Zw a).run) fun (b,c,d,e) =>
  (Zx b c d e).run)
theorem Zy(a:Int){x:js}(h:bj a=some x) :ag prog Ir [] [.int .u64 a] (IT x) :=
  lE true IT SW h (Sg.cut 2 Zu (bp pt Zv [⟨[],[32],[2]⟩]) (fun ⟨e,f,g,i⟩=>bp pt lb [⟨[],[0],[2]⟩]))
    (fun x=>by cases x with | r0 b c d j=>exact kI [.sl 0 1 1 b c d])
def va:Option js→Bool
  | some _=>true
  | none=>false
def cX:Option js→Nat
  | some (.r0 x _ _ _)=>x
  | _=>0
def cY:Option js→Nat
  | some (.r0 _ x _ _)=>x
  | _=>0
def Ft:Option js→Nat
  | some (.r0 _ _ x _)=>x
  | _=>0
def cZ:Option js→List Int
  | some (.r0 _ _ _ x)=>x
  | _=>[]
theorem Zz{x:Option js}(h:va x=true) :x=some (.r0 (cX x) (cY x) (Ft x) (cZ x)):=by
  unfold va at h
  split at h<;>first | rfl | (cases h;done) | (rename_i y;cases y;rfl)
def SX:aw:=bW Ir (.cons (.int .u64) .nil) fun t=>(fun q=>[⟨IT (.r0 (cX q) (cY q) (Ft q) (cZ q)),[va q]⟩]) (bj t.1)
theorem SY:aO prog SX:=aS fun t=>(aT (fun h=>Zy t.1 (Zz h)) bb)
def SZ:List aw:=SX::Ab
theorem tP:aN prog (aH SZ):=ao SY pt
inductive iA where
  | r0 (a:Int)
def zw:iA→AE×aG
  | .r0 a=>(.ret,⟨ah 45 [(4,.int .i64 a)],[],0⟩)
theorem Bm:jT zw:=by intro x;cases x<;>(intro h;cases h)
theorem Wi(id:Nat) :nD id zw:=by intro x;cases x<;>(intro h;cases h)
def Eo:iA→gd
  | .r0 a=>⟨.int .i64 a,[]⟩
def Wj:List Code:=cR (nY Eh)
def Wl(c:Lv)(a:List Int)(d:Lv)(b:List Int)(e:Int) :aG:=⟨ah 45 [(0,.imm c (.ns .u64 a) 1 1 0 (List.length a)),(1,.imm d (.ns .u64 b) 1 1 0 (List.length b)),(5,.int .i64 e)],[],0⟩
def Wm(a:List Int)(b:List Int) :T ((Int)⊕(iA)) :=
  .ask (decide ((((List.length a):Nat):Int)<(((List.length b):Nat):Int)))
    (.leaf (.inr (.r0 (-1:Int))))
    (.ask (decide ((((List.length a):Nat):Int)>(((List.length b):Nat):Int)))
      (.leaf (.inr (.r0 (1:Int))))
      (.need (dZ .i64 ((((List.length a):Nat):Int)-(1:Int)))<|.leaf (.inl ((((List.length a):Nat):Int)-(1:Int)))))
def vT(c:Lv)(a:List Int)(d:Lv)(b:List Int)(e:Int) :aG:=⟨ah 45 [(0,.imm c (.ns .u64 a) 1 1 0 (List.length a)),(1,.imm d (.ns .u64 b) 1 1 0 (List.length b)),(5,.int .i64 e)],[],0⟩
def IU(_:Unit) :aG:=⟨ah 45 [],[],0⟩
def Wn:List Code:=cR (fe ((((Wj.drop 3).take 1)).headD .skip))
def Wo(b:List Int)(c:List Int)(a:Int) :T ((Int)⊕((Unit)⊕(iA))) :=
  .ask (decide (a≥(0:Int)))
    (.need (eY a (List.length b))<|.need (fm (Int.toNat a) (List.length b))<|.need (eY a (List.length c))<|.need (fm (Int.toNat a) (List.length c))<|.ask (decide ((List.getD b (Int.toNat a) 0)<(List.getD c (Int.toNat a) 0)))
      (.leaf (.inr (.inr (.r0 (-1:Int)))))
      (.need (eY a (List.length b))<|.need (fm (Int.toNat a) (List.length b))<|.need (eY a (List.length c))<|.need (fm (Int.toNat a) (List.length c))<|.ask (decide ((List.getD b (Int.toNat a) 0)>(List.getD c (Int.toNat a) 0)))
        (.leaf (.inr (.inr (.r0 (1:Int)))))
        (.need (dZ .i64 (a-(1:Int)))<|.leaf (.inl (a-(1:Int))))))
    (.leaf (.inr (.inl ())))
def ym(a:List Int)(b:List Int) :Int→Option ((Int)⊕((Unit)⊕(iA))):=fun c =>
  (Wo a b c).run
theorem S5(c:Lv)(a:List Int)(d:Lv)(b:List Int)(e:Int) :Sg prog [] Wn (vT c a d b e) (ym a b e) (vT c a d b) (dD 1 IU zw):=by
  unfold ym;exact bp tP (vT c a d b) [⟨[],[],[4]⟩,⟨[],[],[4]⟩,⟨[],[],[0,1,5]⟩,⟨[],[],[]⟩]
def S6:T ((Empty)⊕(iA)) :=
  .leaf (.inr (.r0 (0:Int)))
def sn(a:List Int)(b:List Int) :Option iA:=kD (aQ ((Wm a b).run) fun c =>
  aQ (ej (ym a b) c) fun _ =>
  (S6).run)
theorem Wp(c:Lv)(a:List Int)(d:Lv)(b:List Int){x:iA}(h:sn a b=some x) :ag prog Eh [] [.imm c (.ns .u64 a) 1 1 0 (List.length a),.imm d (.ns .u64 b) 1 1 0 (List.length b)] (Eo x) :=
  lE false Eo zw h (Sg.cut 3 Bm (bp tP (Wl c a d b) [⟨[],[],[4]⟩,⟨[],[],[4]⟩,⟨[],[],[0,1,5]⟩]) (fun g=>Sg.cut 1 Bm (Fr ⟨[],[],[0,1,5]⟩ (vT c a d b) (IU) 1 Bm (Wi _) (fun e=>S5 c a d b e)) (fun _=>bp tP lb [⟨[],[],[4]⟩])))
    (fun x=>by cases x with | r0 f=>exact kI [.int .i64 f])
def sN:Option iA→Bool
  | some _=>true
  | none=>false
def rO:Option iA→Int
  | some (.r0 x)=>x
  | _=>0
theorem Wq{x:Option iA}(h:sN x=true) :x=some (.r0 (rO x)):=by
  unfold sN at h
  split at h<;>first | rfl | (cases h;done) | (rename_i y;cases y;rfl)
def Nq:aw:=bW Eh (.cons (.ns .u64) (.cons (.ns .u64) .nil)) fun t=>(fun q=>[⟨Eo (.r0 (rO q)),[sN q]⟩]) (sn t.1.2 t.2.1.2)
theorem Ph:aO prog Nq:=aS fun t=>(aT (fun h=>Wp t.1.1 t.1.2 t.2.1.1 t.2.1.2 (Wq h)) bb)
def Nr:List aw:=Nq::SZ
theorem rP:aN prog (aH Nr):=ao Ph tP
inductive iB where
  | r0 (a:Int) (b:Nat)
def Ns:iB→AE×aG
  | .r0 a b=>(.ret,⟨ah 15 [(4,.int .i64 a),(5,.int .i64 ((b:Nat):Int))],[],0⟩)
theorem IV:jT Ns:=by intro x;cases x<;>(intro h;cases h)
def Ep:iB→gd
  | .r0 a b=>⟨.tup [.int .i64 a,.int .i64 ((b:Nat):Int)],[]⟩
def Wr(a:Lv)(b:Lv) :Nat×(List Int)×Nat×(List Int)×Nat→aG:=fun (c,d,e,f,g)=>⟨ah 15 [(2,.ptr 0 1 0 0),(3,.ptr 1 1 0 0),(6,.int .i64 ((c:Nat):Int))],[(0,.vs [.imm a (.ns .u64 d) 1 1 0 e]),(1,.vs [.imm b (.ns .u64 f) 1 1 0 g])],2⟩
def Ws(a : List Int)(b : List Int) : T ((Nat × (List Int) × Nat × (List Int) × Nat) ⊕ (iB)) :=
  .ask (decide ((0:Int)<(2:Int)))
    (.need (eY (0:Int) 2)<|.need (aU 0 (List.length a) a)<|.need (cW (ap (aa 0 (List.length a) a)))<|.ask (decide ((((aC (ap (aa 0 (List.length a) a))):Nat):Int)>(4096:Int)))
      (.leaf (.inl (2,(aZ (ap (aa 0 (List.length a) a))),(aC (ap (aa 0 (List.length a) a))),b,(List.length b))))
      (.need (dZ .i64 (1:Int))<|.ask (decide ((1:Int)<(2:Int)))
        (.need (eY (1:Int) 2)<|.need (aU 0 (List.length b) b)<|.need (cW (ap (aa 0 (List.length b) b)))<|.ask (decide ((((aC (ap (aa 0 (List.length b) b))):Nat):Int)>(4096:Int)))
          (.leaf (.inl (2,(aZ (ap (aa 0 (List.length a) a))),(aC (ap (aa 0 (List.length a) a))),(aZ (ap (aa 0 (List.length b) b))),(aC (ap (aa 0 (List.length b) b))))))
          (.need (dZ .i64 (2:Int))<|.ask (decide ((2:Int)<(2:Int)))
            (.fail)
            (.leaf (.inl (0,(aZ (ap (aa 0 (List.length a) a))),(aC (ap (aa 0 (List.length a) a))),(aZ (ap (aa 0 (List.length b) b))),(aC (ap (aa 0 (List.length b) b))))))))
        (.fail)))
    (.fail)
def Wt(a:Int) :aG:=⟨ah 15 [(4,.int .i64 a),(5,.int .i64 (0:Int))],[],0⟩
def Wu(e:Nat)(a:List Int)(b:Nat)(c:List Int)(d:Nat) :T ((Int)⊕(iB)) :=
  .ask (((e:Nat):Int) != (0:Int))
    (.leaf (.inr (.r0 (0:Int) e)))
    (.need (aU 0 b a)<|.need (aU 0 d c)<|.need (sN (sn (aa 0 b a) (aa 0 d c)))<|.leaf (.inl (rO (sn (aa 0 b a) (aa 0 d c)))))
def Wv(a:Int) :T ((Empty)⊕(iB)) :=
  .leaf (.inr (.r0 a 0))
def so(a:List Int)(b:List Int) :Option iB:=kD (aQ ((Ws a b).run) fun (c,d,e,f,g) =>
  aQ ((Wu c d e f g).run) fun h =>
  (Wv h).run)
theorem Ww(c:Lv)(a:List Int)(d:Lv)(b:List Int){x:iB}(h:so a b=some x) :ag prog Ee [] [.imm c (.ns .u64 a) 1 1 0 (List.length a),.imm d (.ns .u64 b) 1 1 0 (List.length b)] (Ep x) :=
  lE true Ep Ns h (Sg.cut 2 IV (bp rP (Wr c d) [⟨[],[0,16],[2,3,6]⟩,⟨[],[0,16],[2,3,6]⟩,⟨[],[0,16],[2,3,6]⟩]) (fun ⟨g,i,j,k,l⟩=>Sg.cut 3 IV (bp rP Wt [⟨[],[],[4,5]⟩,⟨[],[],[4,5]⟩]) (fun m=>bp rP lb [⟨[],[],[4,5]⟩])))
    (fun x=>by cases x with | r0 e f=>exact kI [.int .i64 e,.int .i64 ((f:Nat):Int)])
def sO:Option iB→Bool
  | some _=>true
  | none=>false
def rQ:Option iB→Int
  | some (.r0 x _)=>x
  | _=>0
def CE:Option iB→Nat
  | some (.r0 _ x)=>x
  | _=>0
theorem Wx{x:Option iB}(h:sO x=true) :x=some (.r0 (rQ x) (CE x)):=by
  unfold sO at h
  split at h<;>first | rfl | (cases h;done) | (rename_i y;cases y;rfl)
def Nt:aw:=bW Ee (.cons (.ns .u64) (.cons (.ns .u64) .nil)) fun t=>(fun q=>[⟨Ep (.r0 (rQ q) (CE q)),[sO q]⟩]) (so t.1.2 t.2.1.2)
theorem Pi:aO prog Nt:=aS fun t=>(aT (fun h=>Ww t.1.1 t.1.2 t.2.1.1 t.2.1.2 (Wx h)) bb)
def Nu:List aw:=Nt::Nr
theorem vU:aN prog (aH Nu):=ao Pi rP
inductive ek where
  | r0 (a:List Int)
  | r1 (b:Nat) (c:Nat) (d:Nat) (e:List Int)
def IW:ek→AE×aG
  | .r0 a=>(.ret,⟨ah 10 [(2,.nsl),(3,.int .i64 (3:Int))],[(0,.ns .u64 a)],1⟩)
  | .r1 b c d e=>(.ret,⟨ah 10 [(2,.sl 0 1 1 b c d),(3,.int .i64 (0:Int))],[(0,.ns .u64 e)],1⟩)
theorem S7:jT IW:=by intro x;cases x<;>(intro h;cases h)
def vV:ek→gd
  | .r0 a=>⟨.tup [.nsl,.int .i64 (3:Int)],[some (.ns .u64 a)]⟩
  | .r1 b c d e=>⟨.tup [.sl 0 1 1 b c d,.int .i64 (0:Int)],[some (.ns .u64 e)]⟩
def S8:Nat×Nat×Nat×(List Int)→aG:=fun (a,b,c,d)=>⟨ah 10 [(0,.sl 0 1 1 a b c)],[(0,.ns .u64 d)],1⟩
def S9(a:List Int)(b:Nat)(c:Nat)(d:Nat) :T ((Nat×Nat×Nat×(List Int))⊕(ek)) :=
  .need (fP (bd a b c d))<|.leaf (.inl ((fq (bd a b c d)),(fu (bd a b c d)),(fv (bd a b c d)),(fw (bd a b c d))))
def Ta(c:Nat)(a:Nat)(d:Nat)(b:List Int) :T ((Empty)⊕(ek)) :=
  .ask (decide (((a:Nat):Int)>(4096:Int)))
    (.leaf (.inr (.r0 b)))
    (.leaf (.inr (.r1 c a d b)))
def eF(a:List Int)(b:Nat)(c:Nat)(d:Nat) :Option ek:=kD (aQ ((S9 a b c d).run) fun (e,f,g,h) =>
  (Ta e f g h).run)
theorem Fu(a:List Int)(b:Nat)(c:Nat)(d:Nat){x:ek}(h:eF a b c d=some x) :ag prog sJ [.ns .u64 a] [.sl 0 1 1 b c d] (vV x) :=
  lE false vV IW h (Sg.cut 2 S7 (bp vU S8 [⟨[],[0],[0]⟩]) (fun ⟨i,j,k,l⟩=>bp vU lb [⟨[],[0],[2,3]⟩,⟨[],[0],[2,3]⟩]))
    (fun x=>by cases x with | r0 m=>exact kI [.nsl,.int .i64 (3:Int)] | r1 e f g n=>exact kI [.sl 0 1 1 e f g,.int .i64 (0:Int)])
def qF:Option ek→Bool
  | some (.r0 _)=>true
  | _=>false
def Ac:Option ek→List Int
  | some (.r0 x)=>x
  | _=>[]
theorem Tb{x:Option ek}(h:qF x=true) :x=some (.r0 (Ac x)):=by
  unfold qF at h
  split at h<;>first | rfl | (cases h;done) | (rename_i y;cases y;rfl)
def qG:Option ek→Bool
  | some (.r1 _ _ _ _)=>true
  | _=>false
def pX:Option ek→Nat
  | some (.r1 x _ _ _)=>x
  | _=>0
def pY:Option ek→Nat
  | some (.r1 _ x _ _)=>x
  | _=>0
def pZ:Option ek→Nat
  | some (.r1 _ _ x _)=>x
  | _=>0
def qa:Option ek→List Int
  | some (.r1 _ _ _ x)=>x
  | _=>[]
theorem Tc{x:Option ek}(h:qG x=true) :x=some (.r1 (pX x) (pY x) (pZ x) (qa x)):=by
  unfold qG at h
  split at h<;>first | rfl | (cases h;done) | (rename_i y;cases y;rfl)
def IX:aw:=Sx sJ [.ns .u64] (.cons (.lsl 0) .nil) fun x t=>(fun q=>[⟨vV (.r0 (Ac q)),[qF q]⟩,⟨vV (.r1 (pX q) (pY q) (pZ q) (qa q)),[qG q]⟩]) (eF x.1 t.1.1 t.1.2.1 t.1.2.2)
theorem KN:aO prog IX:=Iy fun x t=>(zr (fun h=>Fu x.1 t.1.1 t.1.2.1 t.1.2.2 (Tb h)) (zr (fun h=>Fu x.1 t.1.1 t.1.2.1 t.1.2.2 (Tc h)) Iz))
def IY:List aw:=IX::Nu
theorem gz:aN prog (aH IY):=ao KN vU
inductive dy where
  | r0 (a:Nat) (b:Nat) (c:Nat) (d:Nat) (e:List Int)
def zx:dy→AE×aG
  | .r0 a b c d e=>(.ret,⟨ah 62 [(4,.sl 0 1 1 a b c),(5,.int .i64 ((d:Nat):Int))],[(0,.ns .u64 e)],1⟩)
theorem ng:jT zx:=by intro x;cases x<;>(intro h;cases h)
theorem Wy(id:Nat) :nD id zx:=by intro x;cases x<;>(intro h;cases h)
def Er:dy→gd
  | .r0 a b e c d=>⟨.tup [.imm .free (.ns .u64 d) 1 1 a b,.int .i64 ((c:Nat):Int)],[]⟩
def Td:List Code:=cR (nY zo)
def Wz(a:Lv)(b:Lv) :Nat×(List Int)×Nat×(List Int)×Nat→aG:=fun (c,d,e,f,g)=>⟨ah 62 [(2,.ptr 0 1 0 0),(3,.ptr 1 1 0 0),(6,.int .i64 ((c:Nat):Int))],[(0,.vs [.imm a (.ns .u64 d) 1 1 0 e]),(1,.vs [.imm b (.ns .u64 f) 1 1 0 g])],2⟩
def Te(a : List Int)(b : List Int) : T ((Nat × (List Int) × Nat × (List Int) × Nat) ⊕ (dy)) :=
  .ask (decide ((0:Int)<(2:Int)))
    (.need (eY (0:Int) 2)<|.need (aU 0 (List.length a) a)<|.need (cW (ap (aa 0 (List.length a) a)))<|.ask (decide ((((aC (ap (aa 0 (List.length a) a))):Nat):Int)>(4096:Int)))
      (.leaf (.inl (2,(aZ (ap (aa 0 (List.length a) a))),(aC (ap (aa 0 (List.length a) a))),b,(List.length b))))
      (.need (dZ .i64 (1:Int))<|.ask (decide ((1:Int)<(2:Int)))
        (.need (eY (1:Int) 2)<|.need (aU 0 (List.length b) b)<|.need (cW (ap (aa 0 (List.length b) b)))<|.ask (decide ((((aC (ap (aa 0 (List.length b) b))):Nat):Int)>(4096:Int)))
          (.leaf (.inl (2,(aZ (ap (aa 0 (List.length a) a))),(aC (ap (aa 0 (List.length a) a))),(aZ (ap (aa 0 (List.length b) b))),(aC (ap (aa 0 (List.length b) b))))))
          (.need (dZ .i64 (2:Int))<|.ask (decide ((2:Int)<(2:Int)))
            (.fail)
            (.leaf (.inl (0,(aZ (ap (aa 0 (List.length a) a))),(aC (ap (aa 0 (List.length a) a))),(aZ (ap (aa 0 (List.length b) b))),(aC (ap (aa 0 (List.length b) b))))))))
        (.fail)))
    (.fail)
def WA:(List Int)×Nat×(List Int)×Nat→aG:=fun (a,b,c,d)=>⟨ah 62 [(2,.ptr 0 1 0 0),(3,.ptr 1 1 0 0)],[(0,.vs [.imm .lent (.ns .u64 a) 1 1 0 b]),(1,.vs [.imm .lent (.ns .u64 c) 1 1 0 d])],2⟩
def Tf(c:Nat)(d:List Int)(a:Nat)(e:List Int)(b:Nat) :T (((List Int)×Nat×(List Int)×Nat)⊕(dy)) :=
  .ask (((c:Nat):Int) != (0:Int))
    (.leaf (.inr (.r0 0 0 0 c ([]:List Int))))
    (.ask (decide (((a:Nat):Int)<((b:Nat):Int)))
      (.leaf (.inl (e,b,d,a)))
      (.leaf (.inl (d,a,e,b))))
def WB(c:List Int)(a:Nat)(d:List Int)(e:Nat) :Nat×(List Int)→aG:=fun (b,f)=>⟨ah 62 [(2,.ptr 0 1 0 0),(3,.ptr 1 1 0 0),(7,.ptr 2 1 0 0),(8,.fn (.func tI) [] [.ptr 2 1 0 0]),(9,.sl 3 1 1 0 b b),(30,.int .i64 ((a:Nat):Int)),(31,.int .i64 (0:Int))],[(0,.vs [.imm .lent (.ns .u64 c) 1 1 0 a]),(1,.vs [.imm .lent (.ns .u64 d) 1 1 0 e]),(2,.vs [.int .u64 (0:Int)]),(3,.ns .u64 f)],4⟩
def Tg(a:Nat) :T ((Nat×(List Int))⊕(dy)) :=
  .need (dZ .i64 (((a+1):Nat):Int))<|.need (decide ((0:Int)≤(((a+1):Nat):Int)))<|.need (decide ((((a+1):Nat):Int)≤(((a+1):Nat):Int)))<|.need (decide ((8:Int)*(((a+1):Nat):Int)≤140737488355328))<|.need (dZ .i64 (((a+1):Nat):Int))<|.leaf (.inl ((a+1),(List.replicate (a+1) (0:Int))))
def vW(c:List Int)(a:Nat)(d:List Int)(e:Nat)(b:Nat) :Nat×Nat×(List Int)→aG:=fun (f,g,h)=>⟨ah 62 [(2,.ptr 0 1 0 0),(3,.ptr 1 1 0 0),(7,.ptr 2 1 0 0),(8,.fn (.func tI) [] [.ptr 2 1 0 0]),(9,.sl 3 1 1 0 b b),(30,.int .i64 ((a:Nat):Int)),(31,.int .i64 ((f:Nat):Int))],[(0,.vs [.imm .lent (.ns .u64 c) 1 1 0 a]),(1,.vs [.imm .lent (.ns .u64 d) 1 1 0 e]),(2,.vs [.int .u64 ((g:Nat):Int)]),(3,.ns .u64 h)],4⟩
def IZ(b:List Int)(c:Nat)(a:Nat) :Nat×(List Int)→aG:=fun (d,e)=>⟨ah 62 [(2,.ptr 0 1 0 0),(7,.ptr 1 1 0 0),(9,.sl 2 1 1 0 a a)],[(0,.vs [.imm .lent (.ns .u64 b) 1 1 0 c]),(1,.vs [.int .u64 ((d:Nat):Int)]),(2,.ns .u64 e)],3⟩
def Th:List Code:=cR (fe ((((((Td.drop 2).drop 4).drop 4).take 1)).headD .skip))
def WC(c:List Int)(a:Nat)(d:List Int)(e:Nat)(b:Nat)(f:Nat) :Nat×(List Int)→aG:=fun (g,h)=>⟨ah 62 [(2,.ptr 0 1 0 0),(3,.ptr 1 1 0 0),(7,.ptr 2 1 0 0),(8,.fn (.func tI) [] [.ptr 2 1 0 0]),(9,.sl 3 1 1 0 b b),(30,.int .i64 ((a:Nat):Int)),(31,.int .i64 ((f:Nat):Int))],[(0,.vs [.imm .lent (.ns .u64 c) 1 1 0 a]),(1,.vs [.imm .lent (.ns .u64 d) 1 1 0 e]),(2,.vs [.int .u64 ((g:Nat):Int)]),(3,.ns .u64 h)],4⟩
def Ti(c:List Int)(e:Nat)(f:List Int)(g:Nat)(h:Nat)(a:Nat)(b:Nat)(d:List Int) :T ((Nat×(List Int))⊕((Nat×(List Int))⊕(dy))) :=
  .ask (decide (((a:Nat):Int)<((e:Nat):Int)))
    (.ask (decide (((a:Nat):Int)<((g:Nat):Int)))
      (.need (eY ((a:Nat):Int) g)<|.need (fm a (List.length f))<|.need (eY ((a:Nat):Int) e)<|.need (fm a (List.length c))<|.need (mW b 1)<|.need (eY ((a:Nat):Int) h)<|.need (fm a (List.length d))<|.leaf (.inl ((((Int.toNat (List.getD c a 0))+(Int.toNat (List.getD f a 0))+b)/18446744073709551616),(List.set d a (((((Int.toNat (List.getD c a 0))+(Int.toNat (List.getD f a 0))+b)%18446744073709551616):Nat):Int)))))
      (.need (eY ((a:Nat):Int) e)<|.need (fm a (List.length c))<|.need (mW b 1)<|.need (eY ((a:Nat):Int) h)<|.need (fm a (List.length d))<|.leaf (.inl ((((Int.toNat (List.getD c a 0))+0+b)/18446744073709551616),(List.set d a (((((Int.toNat (List.getD c a 0))+0+b)%18446744073709551616):Nat):Int))))))
    (.leaf (.inr (.inl (b,d))))
def Tj(a:Nat)(b:Nat)(c:List Int) :T ((Nat×Nat×(List Int))⊕((Nat×(List Int))⊕(dy))) :=
  .need (dZ .i64 (((a+1):Nat):Int))<|.leaf (.inl ((a+1),b,c))
def yn(b:List Int)(c:Nat)(d:List Int)(e:Nat)(f:Nat) :Nat×Nat×(List Int)→Option ((Nat×Nat×(List Int))⊕((Nat×(List Int))⊕(dy))):=fun (a,g,h) =>
  aQ ((Ti b c d e f a g h).run) fun (i,j) =>
  (Tj a i j).run
theorem Tk(a:List Int)(b:Nat)(d:List Int)(e:Nat)(c:Nat)(f:Nat)(g:Nat)(h:List Int) :Sg prog [] Th (vW a b d e c (f,g,h)) (yn a b d e c (f,g,h)) (vW a b d e c) (dD 0 (IZ a b c) zx):=by
  unfold yn;exact Sg.cut 3 (bh ng) (bp gz (WC a b d e c f) [⟨[],[0,1,2,3],[2,3,7,8,9,30,31]⟩,⟨[],[0,1,2,3],[2,3,7,8,9,30,31]⟩,⟨[],[0,2,3],[2,7,9]⟩]) (fun ⟨i,j⟩=>bp gz (vW a b d e c) [⟨[],[0,1,2,3],[2,3,7,8,9,30,31]⟩])
def Tl:Nat×Nat×Nat×Nat×(List Int)→aG:=fun (a,b,c,d,e)=>⟨ah 62 [(4,.sl 0 1 1 a b c),(5,.int .i64 ((d:Nat):Int))],[(0,.ns .u64 e)],1⟩
def Tm(b:Nat)(a:Nat)(d:Nat)(c:List Int) :T ((Nat×Nat×Nat×Nat×(List Int))⊕(dy)) :=
  .need (eY ((b:Nat):Int) a)<|.need (fm b (List.length c))<|.alt 0
    (.need (qF (eF (List.set c b ((d:Nat):Int)) 0 a a))<|.leaf (.inl (0,0,0,3,([]:List Int))))
    (.alt 1
      (.need (qG (eF (List.set c b ((d:Nat):Int)) 0 a a))<|.leaf (.inl ((pX (eF (List.set c b ((d:Nat):Int)) 0 a a)),(pY (eF (List.set c b ((d:Nat):Int)) 0 a a)),(pZ (eF (List.set c b ((d:Nat):Int)) 0 a a)),0,(qa (eF (List.set c b ((d:Nat):Int)) 0 a a)))))
      (.fail))
def Tn(a:Nat)(b:Nat)(c:Nat)(d:Nat)(e:List Int) :T ((Empty)⊕(dy)) :=
  .leaf (.inr (.r0 a b c d e))
def bz(c:List Int)(d:List Int) :Option dy:=kD (aQ ((Te c d).run) fun (e,f,g,h,i) =>
  aQ ((Tf e f g h i).run) fun (j,a,k,l) =>
  aQ ((Tg a).run) fun (b,m) =>
  aQ (ej (yn j a k l b) (0,0,m)) fun (n,o) =>
  aQ ((Tm a b n o).run) fun (p,q,r,s,t) =>
  (Tn p q r s t).run)
theorem WD(i:Lv)(c:List Int)(j:Lv)(d:List Int){x:dy}(h:bz c d=some x) :ag prog zo [] [.imm i (.ns .u64 c) 1 1 0 (List.length c),.imm j (.ns .u64 d) 1 1 0 (List.length d)] (Er x) :=
  lE true Er zx h (Sg.cut 2 ng (bp gz (Wz i j) [⟨[],[0,16],[2,3,6]⟩,⟨[],[0,16],[2,3,6]⟩,⟨[],[0,16],[2,3,6]⟩]) (fun ⟨r,s,t,u,v⟩=>Sg.cut 4 ng (bp gz WA [⟨[(.slot 4,.own 1 1 (.ns .u64 ([]:List Int)))],[82],[4,5]⟩,⟨[(.cell 0 0,.low),(.cell 1 0,.low)],[0,1],[2,3]⟩,⟨[(.cell 0 0,.low),(.cell 1 0,.low)],[0,1],[2,3]⟩]) (fun ⟨a,b,e,f⟩=>Sg.cut 4 ng (bp gz (WB a b e f) [⟨[],[0,1,2,114],[2,3,7,8,9,30,31]⟩]) (fun ⟨g,w⟩=>Sg.cut 1 ng (Fr ⟨[],[0,1,2,3],[2,3,7,8,9,30,31]⟩ (vW a b e f g) (IZ a b g) 0 ng (Wy _) (fun ⟨k,l,m⟩=>Tk a b e f g k l m)) (fun ⟨y,z⟩=>Sg.cut 2 ng (bp gz Tl [⟨[(.slot 4,.own 1 1 (.ns .u64 ([]:List Int)))],[195],[4,5]⟩,⟨[],[2],[4,5]⟩]) (fun ⟨A,B,C,D,E⟩=>bp gz lb [⟨[],[0],[4,5]⟩]))))))
    (fun x=>by cases x with | r0 n o p q F=>exact kI [.sl 0 1 1 n o p,.int .i64 ((q:Nat):Int)])
def vX:Option dy→Bool
  | some _=>true
  | none=>false
def fF:Option dy→Nat
  | some (.r0 x _ _ _ _)=>x
  | _=>0
def fG:Option dy→Nat
  | some (.r0 _ x _ _ _)=>x
  | _=>0
def CF:Option dy→Nat
  | some (.r0 _ _ x _ _)=>x
  | _=>0
def gl:Option dy→Nat
  | some (.r0 _ _ _ x _)=>x
  | _=>0
def fH:Option dy→List Int
  | some (.r0 _ _ _ _ x)=>x
  | _=>[]
theorem WE{x:Option dy}(h:vX x=true) :x=some (.r0 (fF x) (fG x) (CF x) (gl x) (fH x)):=by
  unfold vX at h
  split at h<;>first | rfl | (cases h;done) | (rename_i y;cases y;rfl)
def Nv:aw:=bW zo (.cons (.ns .u64) (.cons (.ns .u64) .nil)) fun t=>(fun q=>[⟨Er (.r0 (fF q) (fG q) (CF q) (gl q) (fH q)),[vX q]⟩]) (bz t.1.2 t.2.1.2)
theorem Pj:aO prog Nv:=aS fun t=>(aT (fun h=>WD t.1.1 t.1.2 t.2.1.1 t.2.1.2 (WE h)) bb)
def Nw:List aw:=Nv::IY
theorem kJ:aN prog (aH Nw):=ao Pj gz
inductive eV where
  | r0 (a:Nat) (b:Nat) (c:Nat) (d:List Int)
def zy:eV→AE×aG
  | .r0 a b c d=>(.ret,⟨ah 40 [(4,.sl 0 1 1 a b c)],[(0,.ns .u64 d)],1⟩)
theorem sP:jT zy:=by intro x;cases x<;>(intro h;cases h)
theorem WF(id:Nat) :nD id zy:=by intro x;cases x<;>(intro h;cases h)
def Es:eV→gd
  | .r0 a b d c=>⟨.imm .free (.ns .u64 c) 1 1 a b,[]⟩
def To:List Code:=cR (nY zq)
def WG(d:Lv)(a:List Int)(e:Lv)(b:List Int) :Nat×(List Int)→aG:=fun (c,f)=>⟨ah 40 [(0,.imm d (.ns .u64 a) 1 1 0 (List.length a)),(1,.imm e (.ns .u64 b) 1 1 0 (List.length b)),(5,.sl 0 1 1 0 c c),(6,.int .u64 (0:Int)),(12,.int .i64 (((List.length a):Nat):Int)),(13,.int .i64 (0:Int))],[(0,.ns .u64 f)],1⟩
def Tp(a:List Int) :T ((Nat×(List Int))⊕(eV)) :=
  .need (aU 0 (List.length a) a)<|.need (bn (List.length (aa 0 (List.length a) a)))<|.leaf (.inl ((List.length (aa 0 (List.length a) a)),(aa 0 (List.length a) a)))
def vY(d:Lv)(a:List Int)(e:Lv)(b:List Int)(c:Nat) :Int×Nat×(List Int)→aG:=fun (f,g,h)=>⟨ah 40 [(0,.imm d (.ns .u64 a) 1 1 0 (List.length a)),(1,.imm e (.ns .u64 b) 1 1 0 (List.length b)),(5,.sl 0 1 1 0 c c),(6,.int .u64 f),(12,.int .i64 (((List.length a):Nat):Int)),(13,.int .i64 ((g:Nat):Int))],[(0,.ns .u64 h)],1⟩
def I0(a:Nat)(b:(List Int)) :aG:=⟨ah 40 [(5,.sl 0 1 1 0 a a)],[(0,.ns .u64 b)],1⟩
def Tq:List Code:=cR (fe ((((To.drop 4).take 1)).headD .skip))
def WH(d:Lv)(a:List Int)(e:Lv)(b:List Int)(c:Nat)(f:Nat) :Int×(List Int)→aG:=fun (g,h)=>⟨ah 40 [(0,.imm d (.ns .u64 a) 1 1 0 (List.length a)),(1,.imm e (.ns .u64 b) 1 1 0 (List.length b)),(5,.sl 0 1 1 0 c c),(6,.int .u64 g),(12,.int .i64 (((List.length a):Nat):Int)),(13,.int .i64 ((f:Nat):Int))],[(0,.ns .u64 h)],1⟩
def Tr(b:List Int)(d:List Int)(f:Nat)(c:Int)(a:Nat)(e:List Int) :T ((Int×(List Int))⊕(((List Int))⊕(eV))) :=
  .ask (decide (((a:Nat):Int)<(((List.length b):Nat):Int)))
    (.ask (decide (((a:Nat):Int)<(((List.length d):Nat):Int)))
      (.need (eY ((a:Nat):Int) (List.length d))<|.need (fm a (List.length d))<|.need (eY ((a:Nat):Int) (List.length b))<|.need (fm a (List.length b))<|.need (mW (Int.toNat c) 1)<|.need (eY ((a:Nat):Int) f)<|.need (fm a (List.length e))<|.leaf (.inl ((bif Nat.blt (Int.toNat (List.getD b a 0)) ((Int.toNat (List.getD d a 0))+(Int.toNat c)) then (1:Int) else (0:Int)),(List.set e a (((((Int.toNat (List.getD b a 0))+18446744073709551616-(Int.toNat (List.getD d a 0))-(Int.toNat c))%18446744073709551616):Nat):Int)))))
      (.need (eY ((a:Nat):Int) (List.length b))<|.need (fm a (List.length b))<|.need (mW (Int.toNat c) 1)<|.need (eY ((a:Nat):Int) f)<|.need (fm a (List.length e))<|.leaf (.inl ((bif Nat.blt (Int.toNat (List.getD b a 0)) (0+(Int.toNat c)) then (1:Int) else (0:Int)),(List.set e a (((((Int.toNat (List.getD b a 0))+18446744073709551616-0-(Int.toNat c))%18446744073709551616):Nat):Int))))))
    (.leaf (.inr (.inl e)))
def Ts(a:Nat)(b:Int)(c:List Int) :T ((Int×Nat×(List Int))⊕(((List Int))⊕(eV))) :=
  .need (dZ .i64 (((a+1):Nat):Int))<|.leaf (.inl (b,(a+1),c))
def yo(b:List Int)(c:List Int)(d:Nat) :Int×Nat×(List Int)→Option ((Int×Nat×(List Int))⊕(((List Int))⊕(eV))):=fun (e,a,f) =>
  aQ ((Tr b c d e a f).run) fun (g,h) =>
  (Ts a g h).run
theorem Tt(d:Lv)(b:List Int)(e:Lv)(c:List Int)(a:Nat)(g:Int)(f:Nat)(h:List Int) :Sg prog [] Tq (vY d b e c a (g,f,h)) (yo b c a (g,f,h)) (vY d b e c a) (dD 0 (I0 a) zy):=by
  unfold yo;exact Sg.cut 3 (bh sP) (bp kJ (WH d b e c a f) [⟨[],[0],[0,1,5,6,12,13]⟩,⟨[],[0],[0,1,5,6,12,13]⟩,⟨[],[0],[5]⟩]) (fun ⟨i,j⟩=>bp kJ (vY d b e c a) [⟨[],[0],[0,1,5,6,12,13]⟩])
def Tu:Nat×Nat×Nat×(List Int)→aG:=fun (a,b,c,d)=>⟨ah 40 [(4,.sl 0 1 1 a b c)],[(0,.ns .u64 d)],1⟩
def Tv(a:Nat)(b:List Int) :T ((Nat×Nat×Nat×(List Int))⊕(eV)) :=
  .need (fP (bd b 0 a a))<|.leaf (.inl ((fq (bd b 0 a a)),(fu (bd b 0 a a)),(fv (bd b 0 a a)),(fw (bd b 0 a a))))
def Tw(a:Nat)(b:Nat)(c:Nat)(d:List Int) :T ((Empty)⊕(eV)) :=
  .leaf (.inr (.r0 a b c d))
def sq(a:List Int)(c:List Int) :Option eV:=kD (aQ ((Tp a).run) fun (b,d) =>
  aQ (ej (yo a c b) ((0:Int),0,d)) fun e =>
  aQ ((Tv b e).run) fun (f,g,h,i) =>
  (Tw f g h i).run)
theorem WI(c:Lv)(a:List Int)(d:Lv)(b:List Int){x:eV}(h:sq a b=some x) :ag prog zq [] [.imm c (.ns .u64 a) 1 1 0 (List.length a),.imm d (.ns .u64 b) 1 1 0 (List.length b)] (Es x) :=
  lE true Es zy h (Sg.cut 4 sP (bp kJ (WG c a d b) [⟨[],[32],[0,1,5,6,12,13]⟩]) (fun ⟨e,m⟩=>Sg.cut 1 sP (Fr ⟨[],[0],[0,1,5,6,12,13]⟩ (vY c a d b e) (I0 e) 0 sP (WF _) (fun ⟨f,g,i⟩=>Tt c a d b e f g i)) (fun n=>Sg.cut 1 sP (bp kJ Tu [⟨[],[0],[4]⟩]) (fun ⟨o,p,q,r⟩=>bp kJ lb [⟨[],[0],[4]⟩]))))
    (fun x=>by cases x with | r0 j k l s=>exact kI [.sl 0 1 1 j k l])
def vZ:Option eV→Bool
  | some _=>true
  | none=>false
def wa:Option eV→Nat
  | some (.r0 x _ _ _)=>x
  | _=>0
def wb:Option eV→Nat
  | some (.r0 _ x _ _)=>x
  | _=>0
def CG:Option eV→Nat
  | some (.r0 _ _ x _)=>x
  | _=>0
def wc:Option eV→List Int
  | some (.r0 _ _ _ x)=>x
  | _=>[]
theorem WJ{x:Option eV}(h:vZ x=true) :x=some (.r0 (wa x) (wb x) (CG x) (wc x)):=by
  unfold vZ at h
  split at h<;>first | rfl | (cases h;done) | (rename_i y;cases y;rfl)
def Nx:aw:=bW zq (.cons (.ns .u64) (.cons (.ns .u64) .nil)) fun t=>(fun q=>[⟨Es (.r0 (wa q) (wb q) (CG q) (wc q)),[vZ q]⟩]) (sq t.1.2 t.2.1.2)
theorem Pk:aO prog Nx:=aS fun t=>(aT (fun h=>WI t.1.1 t.1.2 t.2.1.1 t.2.1.2 (WJ h)) bb)
def Ny:List aw:=Nx::Nw
theorem od:aN prog (aH Ny):=ao Pk kJ
inductive fW where
  | r0 (a:List Int) (b:Nat) (c:Nat) (d:Nat)
def Nz:fW→AE×aG
  | .r0 a b c d=>(.ret,⟨ah 20 [(4,.imm .free (.ns .u64 a) 1 1 b c),(5,.int .i64 ((d:Nat):Int))],[],0⟩)
theorem Bn:jT Nz:=by intro x;cases x<;>(intro h;cases h)
def Et:fW→gd
  | .r0 a b c d=>⟨.tup [.imm .free (.ns .u64 a) 1 1 b c,.int .i64 ((d:Nat):Int)],[]⟩
def WK(a:Lv)(b:Lv) :Nat×(List Int)×Nat×(List Int)×Nat→aG:=fun (c,d,e,f,g)=>⟨ah 20 [(2,.ptr 0 1 0 0),(3,.ptr 1 1 0 0),(6,.int .i64 ((c:Nat):Int))],[(0,.vs [.imm a (.ns .u64 d) 1 1 0 e]),(1,.vs [.imm b (.ns .u64 f) 1 1 0 g])],2⟩
def WL(a : List Int)(b : List Int) : T ((Nat × (List Int) × Nat × (List Int) × Nat) ⊕ (fW)) :=
  .ask (decide ((0:Int)<(2:Int)))
    (.need (eY (0:Int) 2)<|.need (aU 0 (List.length a) a)<|.need (cW (ap (aa 0 (List.length a) a)))<|.ask (decide ((((aC (ap (aa 0 (List.length a) a))):Nat):Int)>(4096:Int)))
      (.leaf (.inl (2,(aZ (ap (aa 0 (List.length a) a))),(aC (ap (aa 0 (List.length a) a))),b,(List.length b))))
      (.need (dZ .i64 (1:Int))<|.ask (decide ((1:Int)<(2:Int)))
        (.need (eY (1:Int) 2)<|.need (aU 0 (List.length b) b)<|.need (cW (ap (aa 0 (List.length b) b)))<|.ask (decide ((((aC (ap (aa 0 (List.length b) b))):Nat):Int)>(4096:Int)))
          (.leaf (.inl (2,(aZ (ap (aa 0 (List.length a) a))),(aC (ap (aa 0 (List.length a) a))),(aZ (ap (aa 0 (List.length b) b))),(aC (ap (aa 0 (List.length b) b))))))
          (.need (dZ .i64 (2:Int))<|.ask (decide ((2:Int)<(2:Int)))
            (.fail)
            (.leaf (.inl (0,(aZ (ap (aa 0 (List.length a) a))),(aC (ap (aa 0 (List.length a) a))),(aZ (ap (aa 0 (List.length b) b))),(aC (ap (aa 0 (List.length b) b))))))))
        (.fail)))
    (.fail)
def WM(a:Lv)(b:Lv)(c:List Int)(d:Nat)(e:List Int)(f:Nat)(g:Bool) :aG:=⟨ah 20 [(2,.ptr 0 1 0 0),(3,.ptr 1 1 0 0),(16,.bool false g)],[(0,.vs [.imm a (.ns .u64 c) 1 1 0 d]),(1,.vs [.imm b (.ns .u64 e) 1 1 0 f])],2⟩
def WN(e:Nat)(a:List Int)(b:Nat)(c:List Int)(d:Nat) :T ((Bool)⊕(fW)) :=
  .ask (((e:Nat):Int) != (0:Int))
    (.leaf (.inl true))
    (.need (aU 0 b a)<|.need (aU 0 d c)<|.need (sN (sn (aa 0 b a) (aa 0 d c)))<|.leaf (.inl (decide ((rO (sn (aa 0 b a) (aa 0 d c)))<(0:Int)))))
def WO:(List Int)×Nat×Nat→aG:=fun (a,b,c)=>⟨ah 20 [(4,.imm .free (.ns .u64 a) 1 1 b c),(5,.int .i64 (0:Int))],[],0⟩
def WP(a:List Int)(b:Nat)(c:List Int)(d:Nat)(e:Bool) :T (((List Int)×Nat×Nat)⊕(fW)) :=
  .ask e
    (.leaf (.inr (.r0 ([]:List Int) 0 0 2)))
    (.need (aU 0 b a)<|.need (aU 0 d c)<|.need (vZ (sq (aa 0 b a) (aa 0 d c)))<|.leaf (.inl ((wc (sq (aa 0 b a) (aa 0 d c))),(wa (sq (aa 0 b a) (aa 0 d c))),(wb (sq (aa 0 b a) (aa 0 d c))))))
def WQ(a:List Int)(b:Nat)(c:Nat) :T ((Empty)⊕(fW)) :=
  .leaf (.inr (.r0 a b c 0))
def bk(e:List Int)(f:List Int) :Option fW:=kD (aQ ((WL e f).run) fun (g,a,b,c,d) =>
  aQ ((WN g a b c d).run) fun h =>
  aQ ((WP a b c d h).run) fun (i,j,k) =>
  (WQ i j k).run)
theorem WR(a:Lv)(b:List Int)(c:Lv)(d:List Int){x:fW}(h:bk b d=some x) :ag prog Ej [] [.imm a (.ns .u64 b) 1 1 0 (List.length b),.imm c (.ns .u64 d) 1 1 0 (List.length d)] (Et x) :=
  lE true Et Nz h (Sg.cut 2 Bn (bp od (WK a c) [⟨[],[0,16],[2,3,6]⟩,⟨[],[0,16],[2,3,6]⟩,⟨[],[0,16],[2,3,6]⟩]) (fun ⟨n,e,f,g,i⟩=>Sg.cut 1 Bn (bp od (WM a c e f g i) [⟨[],[0,1],[2,3,16]⟩,⟨[],[0,1],[2,3,16]⟩]) (fun o=>Sg.cut 2 Bn (bp od WO [⟨[(.slot 4,.fre 1 1 (.ns .u64 ([]:List Int)))],[],[4,5]⟩,⟨[],[],[4,5]⟩]) (fun ⟨p,q,r⟩=>bp od lb [⟨[],[],[4,5]⟩]))))
    (fun x=>by cases x with | r0 j k l m=>exact kI [.imm .free (.ns .u64 j) 1 1 k l,.int .i64 ((m:Nat):Int)])
def sQ:Option fW→Bool
  | some _=>true
  | none=>false
def eG:Option fW→List Int
  | some (.r0 x _ _ _)=>x
  | _=>[]
def eH:Option fW→Nat
  | some (.r0 _ x _ _)=>x
  | _=>0
def eI:Option fW→Nat
  | some (.r0 _ _ x _)=>x
  | _=>0
def fI:Option fW→Nat
  | some (.r0 _ _ _ x)=>x
  | _=>0
theorem WS{x:Option fW}(h:sQ x=true) :x=some (.r0 (eG x) (eH x) (eI x) (fI x)):=by
  unfold sQ at h
  split at h<;>first | rfl | (cases h;done) | (rename_i y;cases y;rfl)
def NA:aw:=bW Ej (.cons (.ns .u64) (.cons (.ns .u64) .nil)) fun t=>(fun q=>[⟨Et (.r0 (eG q) (eH q) (eI q) (fI q)),[sQ q]⟩]) (bk t.1.2 t.2.1.2)
theorem Pm:aO prog NA:=aS fun t=>(aT (fun h=>WR t.1.1 t.1.2 t.2.1.1 t.2.1.2 (WS h)) bb)
def NB:List aw:=NA::Ny
theorem oe:aN prog (aH NB):=ao Pm od
inductive gF where
  | r0 (a:Int) (b:List Int)
def zz:gF→AE×aG
  | .r0 a b=>(.ret,⟨ah 52 [(6,.int .u64 a)],[(0,.ns .u64 b)],1⟩)
theorem wd:jT zz:=by intro x;cases x<;>(intro h;cases h)
theorem WT(id:Nat) :nD id zz:=by intro x;cases x<;>(intro h;cases h)
def Eu:gF→gd
  | .r0 a b=>⟨.int .u64 a,[some (.ns .u64 b)]⟩
def Tx:List Code:=cR (nY zm)
def WU(b:List Int)(c:Nat)(d:Nat)(e:Nat)(f:Lv)(a:List Int)(g:Int)(_:Unit) :aG:=⟨ah 52 [(0,.sl 0 1 1 c d e),(1,.imm f (.ns .u64 a) 1 1 0 (List.length a)),(2,.int .u64 g),(7,.int .u64 (0:Int)),(13,.int .i64 (((List.length a):Nat):Int)),(14,.int .i64 (0:Int))],[(0,.ns .u64 b)],1⟩
def Tz:T ((Unit)⊕(gF)) :=
  .leaf (.inl ())
def we(b:Nat)(c:Nat)(d:Nat)(e:Lv)(a:List Int)(f:Int) :Int×Nat×(List Int)→aG:=fun (g,h,i)=>⟨ah 52 [(0,.sl 0 1 1 b c d),(1,.imm e (.ns .u64 a) 1 1 0 (List.length a)),(2,.int .u64 f),(7,.int .u64 g),(13,.int .i64 (((List.length a):Nat):Int)),(14,.int .i64 ((h:Nat):Int))],[(0,.ns .u64 i)],1⟩
def I1:Int×(List Int)→aG:=fun (a,b)=>⟨ah 52 [(7,.int .u64 a)],[(0,.ns .u64 b)],1⟩
def TA:List Code:=cR (fe ((((Tx.drop 3).take 1)).headD .skip))
def WV(b:Nat)(c:Nat)(d:Nat)(e:Lv)(a:List Int)(f:Int)(g:Nat) :Int×(List Int)→aG:=fun (h,i)=>⟨ah 52 [(0,.sl 0 1 1 b c d),(1,.imm e (.ns .u64 a) 1 1 0 (List.length a)),(2,.int .u64 f),(7,.int .u64 h),(13,.int .i64 (((List.length a):Nat):Int)),(14,.int .i64 ((g:Nat):Int))],[(0,.ns .u64 i)],1⟩
def TB(d:Nat)(g:Nat)(b:List Int)(e:Int)(f:Int)(a:Nat)(c:List Int) :T ((Int×(List Int))⊕((Int×(List Int))⊕(gF))) :=
  .ask (decide (((a:Nat):Int)<(((List.length b):Nat):Int)))
    (.need (eY ((a:Nat):Int) (List.length b))<|.need (fm a (List.length b))<|.need (iR (eE (List.getD b a 0) e))<|.need (mW 0 1)<|.need (eY ((a:Nat):Int) g)<|.need (fm (fb d a) (List.length c))<|.need (mW 0 1)<|.need (eY ((a:Nat):Int) g)<|.need (fm (fb d a) (List.length c))<|.leaf (.inl ((IntKind.u64.wrap ((IntKind.u64.wrap ((kh (eE (List.getD b a 0) e))+(((((Int.toNat (fN (eE (List.getD b a 0) e)))+(Int.toNat f)+0)/18446744073709551616):Nat):Int)))+(((((Int.toNat (List.getD c (fb d a) 0))+(((Int.toNat (fN (eE (List.getD b a 0) e)))+(Int.toNat f)+0)%18446744073709551616)+0)/18446744073709551616):Nat):Int))),(List.set c (fb d a) (((((Int.toNat (List.getD c (fb d a) 0))+(((Int.toNat (fN (eE (List.getD b a 0) e)))+(Int.toNat f)+0)%18446744073709551616)+0)%18446744073709551616):Nat):Int)))))
    (.leaf (.inr (.inl (f,c))))
def TC(a:Nat)(b:Int)(c:List Int) :T ((Int×Nat×(List Int))⊕((Int×(List Int))⊕(gF))) :=
  .need (dZ .i64 (((a+1):Nat):Int))<|.leaf (.inl (b,(a+1),c))
def yp(b:Nat)(c:Nat)(d:List Int)(e:Int) :Int×Nat×(List Int)→Option ((Int×Nat×(List Int))⊕((Int×(List Int))⊕(gF))):=fun (f,a,g) =>
  aQ ((TB b c d e f a g).run) fun (h,i) =>
  (TC a h i).run
theorem TD(j:List Int)(a:Nat)(b:Nat)(e:Nat)(f:Lv)(c:List Int)(d:Int)(h:Int)(g:Nat)(i:List Int) :Sg prog [.ns .u64 j] TA (we a b e f c d (h,g,i)) (yp a b c d (h,g,i)) (we a b e f c d) (dD 0 I1 zz):=by
  unfold yp;exact Sg.cut 3 (bh wd) (bp oe (WV a b e f c d g) [⟨[],[0],[0,1,2,7,13,14]⟩,⟨[],[0],[7]⟩]) (fun ⟨k,l⟩=>bp oe (we a b e f c d) [⟨[],[0],[0,1,2,7,13,14]⟩])
def TE(a:Int)(b:List Int) :T ((Empty)⊕(gF)) :=
  .leaf (.inr (.r0 a b))
def su(a:List Int)(b:Nat)(c:Nat)(d:List Int)(e:Int) :Option gF:=kD (aQ ((Tz).run) fun _ =>
  aQ (ej (yp b c d e) ((0:Int),0,a)) fun (f,g) =>
  (TE f g).run)
theorem WW(e:List Int)(b:Nat)(c:Nat)(f:Nat)(g:Lv)(a:List Int)(d:Int){x:gF}(h:su e b c a d=some x) :ag prog zm [.ns .u64 e] [.sl 0 1 1 b c f,.imm g (.ns .u64 a) 1 1 0 (List.length a),.int .u64 d] (Eu x) :=
  lE false Eu zz h (Sg.cut 3 wd (bp oe (WU e b c f g a d) [⟨[],[0],[0,1,2,7,13,14]⟩]) (fun _=>Sg.cut 1 wd (Fr ⟨[],[0],[0,1,2,7,13,14]⟩ (we b c f g a d) (I1) 0 wd (WT _) (fun ⟨i,j,k⟩=>TD e b c f g a d i j k)) (fun ⟨m,n⟩=>bp oe lb [⟨[],[0],[6]⟩])))
    (fun x=>by cases x with | r0 l o=>exact kI [.int .u64 l])
def wg:Option gF→Bool
  | some _=>true
  | none=>false
def wh:Option gF→Int
  | some (.r0 x _)=>x
  | _=>0
def rR:Option gF→List Int
  | some (.r0 _ x)=>x
  | _=>[]
theorem WX{x:Option gF}(h:wg x=true) :x=some (.r0 (wh x) (rR x)):=by
  unfold wg at h
  split at h<;>first | rfl | (cases h;done) | (rename_i y;cases y;rfl)
def NC:aw:=Sx zm [.ns .u64] (.cons (.lsl 0) (.cons (.ns .u64) (.cons (.int .u64) .nil))) fun x t=>(fun q=>[⟨Eu (.r0 (wh q) (rR q)),[wg q]⟩]) (su x.1 t.1.1 t.1.2.1 t.2.1.2 t.2.2.1)
theorem Pn:aO prog NC:=Iy fun x t=>(zr (fun h=>WW x.1 t.1.1 t.1.2.1 t.1.2.2 t.2.1.1 t.2.1.2 t.2.2.1 (WX h)) Iz)
def ND:List aw:=NC::NB
theorem hP:aN prog (aH ND):=ao Pn oe
inductive dz where
  | r0 (a:Nat) (b:Nat) (c:Nat) (d:Nat) (e:List Int)
def zA:dz→AE×aG
  | .r0 a b c d e=>(.ret,⟨ah 61 [(4,.sl 0 1 1 a b c),(5,.int .i64 ((d:Nat):Int))],[(0,.ns .u64 e)],1⟩)
theorem nh:jT zA:=by intro x;cases x<;>(intro h;cases h)
theorem WY(id:Nat) :nD id zA:=by intro x;cases x<;>(intro h;cases h)
def Ev:dz→gd
  | .r0 a b e c d=>⟨.tup [.imm .free (.ns .u64 d) 1 1 a b,.int .i64 ((c:Nat):Int)],[]⟩
def TF:List Code:=cR (nY zl)
def WZ(a:Lv)(b:Lv) :Nat×(List Int)×Nat×(List Int)×Nat→aG:=fun (c,d,e,f,g)=>⟨ah 61 [(2,.ptr 0 1 0 0),(3,.ptr 1 1 0 0),(6,.int .i64 ((c:Nat):Int))],[(0,.vs [.imm a (.ns .u64 d) 1 1 0 e]),(1,.vs [.imm b (.ns .u64 f) 1 1 0 g])],2⟩
def TG(a : List Int)(b : List Int) : T ((Nat × (List Int) × Nat × (List Int) × Nat) ⊕ (dz)) :=
  .ask (decide ((0:Int)<(2:Int)))
    (.need (eY (0:Int) 2)<|.need (aU 0 (List.length a) a)<|.need (cW (ap (aa 0 (List.length a) a)))<|.ask (decide ((((aC (ap (aa 0 (List.length a) a))):Nat):Int)>(4096:Int)))
      (.leaf (.inl (2,(aZ (ap (aa 0 (List.length a) a))),(aC (ap (aa 0 (List.length a) a))),b,(List.length b))))
      (.need (dZ .i64 (1:Int))<|.ask (decide ((1:Int)<(2:Int)))
        (.need (eY (1:Int) 2)<|.need (aU 0 (List.length b) b)<|.need (cW (ap (aa 0 (List.length b) b)))<|.ask (decide ((((aC (ap (aa 0 (List.length b) b))):Nat):Int)>(4096:Int)))
          (.leaf (.inl (2,(aZ (ap (aa 0 (List.length a) a))),(aC (ap (aa 0 (List.length a) a))),(aZ (ap (aa 0 (List.length b) b))),(aC (ap (aa 0 (List.length b) b))))))
          (.need (dZ .i64 (2:Int))<|.ask (decide ((2:Int)<(2:Int)))
            (.fail)
            (.leaf (.inl (0,(aZ (ap (aa 0 (List.length a) a))),(aC (ap (aa 0 (List.length a) a))),(aZ (ap (aa 0 (List.length b) b))),(aC (ap (aa 0 (List.length b) b))))))))
        (.fail)))
    (.fail)
def W3(a:Lv)(b:Lv)(c:List Int)(d:Nat)(e:List Int)(f:Nat)(g:Bool) :aG:=⟨ah 61 [(2,.ptr 0 1 0 0),(3,.ptr 1 1 0 0),(29,.bool false g)],[(0,.vs [.imm a (.ns .u64 c) 1 1 0 d]),(1,.vs [.imm b (.ns .u64 e) 1 1 0 f])],2⟩
def TH(c:Nat)(a:Nat)(b:Nat) :T ((Bool)⊕(dz)) :=
  .ask (((c:Nat):Int) != (0:Int))
    (.leaf (.inr (.r0 0 0 0 c ([]:List Int))))
    (.need (dZ .i64 (((a+b):Nat):Int))<|.ask (decide ((((a+b):Nat):Int)>(4097:Int)))
      (.ask (decide (((a:Nat):Int)>(0:Int)))
        (.leaf (.inl (decide (((b:Nat):Int)>(0:Int)))))
        (.leaf (.inl false)))
      (.leaf (.inl false)))
def W5(c:Lv)(d:Lv)(e:List Int)(f:Nat)(g:List Int)(a:Nat) :Nat×(List Int)→aG:=fun (b,h)=>⟨ah 61 [(2,.ptr 0 1 0 0),(3,.ptr 1 1 0 0),(7,.sl 2 1 1 0 b b),(37,.int .i64 ((a:Nat):Int)),(38,.int .i64 (0:Int))],[(0,.vs [.imm c (.ns .u64 e) 1 1 0 f]),(1,.vs [.imm d (.ns .u64 g) 1 1 0 a]),(2,.ns .u64 h)],3⟩
def TI(a:Nat)(b:Nat)(c:Bool) :T ((Nat×(List Int))⊕(dz)) :=
  .ask c
    (.leaf (.inr (.r0 0 0 0 3 ([]:List Int))))
    (.need (dZ .i64 (((a+b):Nat):Int))<|.need (decide ((0:Int)≤(((a+b):Nat):Int)))<|.need (decide ((((a+b):Nat):Int)≤(((a+b):Nat):Int)))<|.need (decide ((8:Int)*(((a+b):Nat):Int)≤140737488355328))<|.need (dZ .i64 (((a+b):Nat):Int))<|.leaf (.inl ((a+b),(List.replicate (a+b) (0:Int)))))
def wi(c:Lv)(d:Lv)(e:List Int)(f:Nat)(g:List Int)(a:Nat)(b:Nat) :Nat×(List Int)→aG:=fun (h,i)=>⟨ah 61 [(2,.ptr 0 1 0 0),(3,.ptr 1 1 0 0),(7,.sl 2 1 1 0 b b),(37,.int .i64 ((a:Nat):Int)),(38,.int .i64 ((h:Nat):Int))],[(0,.vs [.imm c (.ns .u64 e) 1 1 0 f]),(1,.vs [.imm d (.ns .u64 g) 1 1 0 a]),(2,.ns .u64 i)],3⟩
def I2(a:Nat)(b:(List Int)) :aG:=⟨ah 61 [(7,.sl 0 1 1 0 a a)],[(0,.ns .u64 b)],1⟩
def TJ:List Code:=cR (fe ((((((TF.drop 2).drop 3).drop 3).take 1)).headD .skip))
def W6(c:Lv)(d:Lv)(e:List Int)(f:Nat)(g:List Int)(a:Nat)(b:Nat)(h:Nat)(i:(List Int)) :aG:=⟨ah 61 [(2,.ptr 0 1 0 0),(3,.ptr 1 1 0 0),(7,.sl 2 1 1 0 b b),(37,.int .i64 ((a:Nat):Int)),(38,.int .i64 ((h:Nat):Int))],[(0,.vs [.imm c (.ns .u64 e) 1 1 0 f]),(1,.vs [.imm d (.ns .u64 g) 1 1 0 a]),(2,.ns .u64 i)],3⟩
def TK(d:List Int)(b:Nat)(e:List Int)(g:Nat)(c:Nat)(a:Nat)(f:List Int) :T (((List Int))⊕(((List Int))⊕(dz))) :=
  .ask (decide (((a:Nat):Int)<((g:Nat):Int)))
    (.need (dZ .i64 (((a+b):Nat):Int))<|.need (vg ((c:Nat):Int) c)<|.need (vg ((a:Nat):Int) c)<|.need (eY ((a:Nat):Int) g)<|.need (fm a (List.length e))<|.need (aU 0 b d)<|.need (wg (su f a (c-a) (aa 0 b d) (List.getD e a 0)))<|.need (eY (((a+b):Nat):Int) c)<|.need (fm (a+b) (List.length (rR (su f a (c-a) (aa 0 b d) (List.getD e a 0)))))<|.leaf (.inl (List.set (rR (su f a (c-a) (aa 0 b d) (List.getD e a 0))) (a+b) (wh (su f a (c-a) (aa 0 b d) (List.getD e a 0))))))
    (.leaf (.inr (.inl f)))
def TL(a:Nat)(b:List Int) :T ((Nat×(List Int))⊕(((List Int))⊕(dz))) :=
  .need (dZ .i64 (((a+1):Nat):Int))<|.leaf (.inl ((a+1),b))
def yq(b:List Int)(c:Nat)(d:List Int)(e:Nat)(f:Nat) :Nat×(List Int)→Option ((Nat×(List Int))⊕(((List Int))⊕(dz))):=fun (a,g) =>
  aQ ((TK b c d e f a g).run) fun h =>
  (TL a h).run
theorem TM(f:Lv)(g:Lv)(b:List Int)(c:Nat)(d:List Int)(e:Nat)(a:Nat)(h:Nat)(i:List Int) :Sg prog [] TJ (wi f g b c d e a (h,i)) (yq b c d e a (h,i)) (wi f g b c d e a) (dD 0 (I2 a) zA):=by
  unfold yq;exact Sg.cut 3 (bh nh) (bp hP (W6 f g b c d e a h) [⟨[],[0,1,2],[2,3,7,37,38]⟩,⟨[],[2],[7]⟩]) (fun j=>bp hP (wi f g b c d e a) [⟨[],[0,1,2],[2,3,7,37,38]⟩])
def TN:Nat×Nat×Nat×Nat×(List Int)→aG:=fun (a,b,c,d,e)=>⟨ah 61 [(4,.sl 0 1 1 a b c),(5,.int .i64 ((d:Nat):Int))],[(0,.ns .u64 e)],1⟩
def TO(a:Nat)(b:List Int) :T ((Nat×Nat×Nat×Nat×(List Int))⊕(dz)) :=
  .alt 0
    (.need (qF (eF b 0 a a))<|.leaf (.inl (0,0,0,3,([]:List Int))))
    (.alt 1
      (.need (qG (eF b 0 a a))<|.leaf (.inl ((pX (eF b 0 a a)),(pY (eF b 0 a a)),(pZ (eF b 0 a a)),0,(qa (eF b 0 a a)))))
      (.fail))
def TP(a:Nat)(b:Nat)(c:Nat)(d:Nat)(e:List Int) :T ((Empty)⊕(dz)) :=
  .leaf (.inr (.r0 a b c d e))
def pu(d:List Int)(e:List Int) :Option dz:=kD (aQ ((TG d e).run) fun (f,g,a,h,b) =>
  aQ ((TH f a b).run) fun i =>
  aQ ((TI a b i).run) fun (c,j) =>
  aQ (ej (yq g a h b c) (0,j)) fun k =>
  aQ ((TO c k).run) fun (l,m,n,o,p) =>
  (TP l m n o p).run)
theorem W7(a:Lv)(g:List Int)(b:Lv)(i:List Int){x:dz}(h:pu g i=some x) :ag prog zl [] [.imm a (.ns .u64 g) 1 1 0 (List.length g),.imm b (.ns .u64 i) 1 1 0 (List.length i)] (Ev x) :=
  lE true Ev zA h (Sg.cut 2 nh (bp hP (WZ a b) [⟨[],[0,16],[2,3,6]⟩,⟨[],[0,16],[2,3,6]⟩,⟨[],[0,16],[2,3,6]⟩]) (fun ⟨q,c,d,e,f⟩=>Sg.cut 3 nh (bp hP (W3 a b c d e f) [⟨[(.slot 4,.own 1 1 (.ns .u64 ([]:List Int)))],[82],[4,5]⟩,⟨[],[0,1],[2,3,29]⟩,⟨[],[0,1],[2,3,29]⟩,⟨[],[0,1],[2,3,29]⟩]) (fun r=>Sg.cut 3 nh (bp hP (W5 a b c d e f) [⟨[(.slot 4,.own 1 1 (.ns .u64 ([]:List Int)))],[34],[4,5]⟩,⟨[],[0,1,82],[2,3,7,37,38]⟩]) (fun ⟨j,s⟩=>Sg.cut 1 nh (Fr ⟨[],[0,1,2],[2,3,7,37,38]⟩ (wi a b c d e f j) (I2 j) 0 nh (WY _) (fun ⟨k,l⟩=>TM a b c d e f j k l)) (fun t=>Sg.cut 1 nh (bp hP TN [⟨[(.slot 4,.own 1 1 (.ns .u64 ([]:List Int)))],[97],[4,5]⟩,⟨[],[0],[4,5]⟩]) (fun ⟨u,v,w,y,z⟩=>bp hP lb [⟨[],[0],[4,5]⟩]))))))
    (fun x=>by cases x with | r0 m n o p A=>exact kI [.sl 0 1 1 m n o,.int .i64 ((p:Nat):Int)])
def wj:Option dz→Bool
  | some _=>true
  | none=>false
def wk:Option dz→Nat
  | some (.r0 x _ _ _ _)=>x
  | _=>0
def wl:Option dz→Nat
  | some (.r0 _ x _ _ _)=>x
  | _=>0
def CH:Option dz→Nat
  | some (.r0 _ _ x _ _)=>x
  | _=>0
def wn:Option dz→Nat
  | some (.r0 _ _ _ x _)=>x
  | _=>0
def wo:Option dz→List Int
  | some (.r0 _ _ _ _ x)=>x
  | _=>[]
theorem W8{x:Option dz}(h:wj x=true) :x=some (.r0 (wk x) (wl x) (CH x) (wn x) (wo x)):=by
  unfold wj at h
  split at h<;>first | rfl | (cases h;done) | (rename_i y;cases y;rfl)
def NE:aw:=bW zl (.cons (.ns .u64) (.cons (.ns .u64) .nil)) fun t=>(fun q=>[⟨Ev (.r0 (wk q) (wl q) (CH q) (wn q) (wo q)),[wj q]⟩]) (pu t.1.2 t.2.1.2)
theorem Po:aO prog NE:=aS fun t=>(aT (fun h=>W7 t.1.1 t.1.2 t.2.1.1 t.2.1.2 (W8 h)) bb)
def NF:List aw:=NE::ND
theorem kK:aN prog (aH NF):=ao Po hP
inductive eW where
  | r0 (a:Nat) (b:Nat) (c:Nat) (d:List Int)
def zB:eW→AE×aG
  | .r0 a b c d=>(.ret,⟨ah 59 [(4,.sl 0 1 1 a b c)],[(0,.ns .u64 d)],1⟩)
theorem sR:jT zB:=by intro x;cases x<;>(intro h;cases h)
theorem W9(id:Nat) :nD id zB:=by intro x;cases x<;>(intro h;cases h)
def Ew:eW→gd
  | .r0 a b d c=>⟨.imm .free (.ns .u64 c) 1 1 a b,[]⟩
def Xa:List Code:=cR (nY zp)
def Xb(c:Lv)(a:List Int) :Int×Int×Nat×(List Int)→aG:=fun (d,r2,b,e)=>⟨ah 59 [(0,.imm c (.ns .u64 a) 1 1 0 (List.length a)),(5,.int .i64 d),(6,.int .u64 r2),(7,.sl 0 1 1 0 b b),(24,.int .i64 (((List.length a):Nat):Int)),(25,.int .i64 (0:Int))],[(0,.ns .u64 e)],1⟩
def TQ(b:List Int)(a:Int) :T ((Int×Int×Nat×(List Int))⊕(eW)) :=
  .ask ((((List.length b):Nat):Int)==(0:Int))
    (.leaf (.inr (.r0 0 0 0 ([]:List Int))))
    (.need ((64:Int) != (0:Int))<|.need (dZ .i64 (Int.tdiv a (64:Int)))<|.need ((64:Int) != (0:Int))<|.need (dZ .i64 ((((List.length b):Nat):Int)+(Int.tdiv a (64:Int))))<|.need (dZ .i64 (((((List.length b):Nat):Int)+(Int.tdiv a (64:Int)))+(1:Int)))<|.need (decide ((0:Int)≤(((((List.length b):Nat):Int)+(Int.tdiv a (64:Int)))+(1:Int))))<|.need (decide ((((((List.length b):Nat):Int)+(Int.tdiv a (64:Int)))+(1:Int))≤(((((List.length b):Nat):Int)+(Int.tdiv a (64:Int)))+(1:Int))))<|.need (decide ((8:Int)*(((((List.length b):Nat):Int)+(Int.tdiv a (64:Int)))+(1:Int))≤140737488355328))<|.need (dZ .i64 (((((List.length b):Nat):Int)+(Int.tdiv a (64:Int)))+(1:Int)))<|.leaf (.inl ((Int.tdiv a (64:Int)),(IntKind.u64.wrap (Int.tmod a (64:Int))),(Int.toNat (((((List.length b):Nat):Int)+(Int.tdiv a (64:Int)))+(1:Int))),(List.replicate (Int.toNat (((((List.length b):Nat):Int)+(Int.tdiv a (64:Int)))+(1:Int))) (0:Int)))))
def wq(c:Lv)(a:List Int)(d:Int)(r2:Int)(b:Nat) :Nat×(List Int)→aG:=fun (e,f)=>⟨ah 59 [(0,.imm c (.ns .u64 a) 1 1 0 (List.length a)),(5,.int .i64 d),(6,.int .u64 r2),(7,.sl 0 1 1 0 b b),(24,.int .i64 (((List.length a):Nat):Int)),(25,.int .i64 ((e:Nat):Int))],[(0,.ns .u64 f)],1⟩
def I3(a:Nat)(b:(List Int)) :aG:=⟨ah 59 [(7,.sl 0 1 1 0 a a)],[(0,.ns .u64 b)],1⟩
def TR:List Code:=cR (fe ((((Xa.drop 6).take 1)).headD .skip))
def Xc(c:Lv)(a:List Int)(d:Int)(r2:Int)(b:Nat)(e:Nat)(f:(List Int)) :aG:=⟨ah 59 [(0,.imm c (.ns .u64 a) 1 1 0 (List.length a)),(5,.int .i64 d),(6,.int .u64 r2),(7,.sl 0 1 1 0 b b),(24,.int .i64 (((List.length a):Nat):Int)),(25,.int .i64 ((e:Nat):Int))],[(0,.ns .u64 f)],1⟩
def TS(c:List Int)(b:Int)(r2:Int)(e:Nat)(a:Nat)(d:List Int) :T (((List Int))⊕(((List Int))⊕(eW))) :=
  .ask (decide (((a:Nat):Int)<(((List.length c):Nat):Int)))
    (.need (dZ .i64 (((a:Nat):Int)+b))<|.need (eY (((a:Nat):Int)+b) e)<|.need (fm (Int.toNat (((a:Nat):Int)+b)) (List.length d))<|.need (eY ((a:Nat):Int) (List.length c))<|.need (fm a (List.length c))<|.need (decide ((0:Int)≤r2))<|.need (eY (((a:Nat):Int)+b) e)<|.need (fm (Int.toNat (((a:Nat):Int)+b)) (List.length d))<|.need (dZ .i64 (((a:Nat):Int)+b))<|.need (dZ .i64 ((((a:Nat):Int)+b)+(1:Int)))<|.need (eY ((a:Nat):Int) (List.length c))<|.need (fm a (List.length c))<|.need (decide ((0:Int)≤(1:Int)))<|.need (decide ((0:Int)≤(IntKind.u64.wrap ((63:Int)-r2))))<|.need (eY ((((a:Nat):Int)+b)+(1:Int)) e)<|.need (fm (Int.toNat ((((a:Nat):Int)+b)+(1:Int))) (List.length (List.set d (Int.toNat (((a:Nat):Int)+b)) (dd .or .u64 (List.getD d (Int.toNat (((a:Nat):Int)+b)) 0) (IntKind.u64.wrap ((List.getD c a 0)*2^(min (Int.toNat r2) (IntKind.u64.bits))))))))<|.leaf (.inl (List.set (List.set d (Int.toNat (((a:Nat):Int)+b)) (dd .or .u64 (List.getD d (Int.toNat (((a:Nat):Int)+b)) 0) (IntKind.u64.wrap ((List.getD c a 0)*2^(min (Int.toNat r2) (IntKind.u64.bits)))))) (Int.toNat ((((a:Nat):Int)+b)+(1:Int))) (Int.fdiv (Int.fdiv (List.getD c a 0) (2^(min (Int.toNat (1:Int)) (IntKind.u64.bits)))) (2^(min (Int.toNat (IntKind.u64.wrap ((63:Int)-r2))) (IntKind.u64.bits)))))))
    (.leaf (.inr (.inl d)))
def TT(a:Nat)(b:List Int) :T ((Nat×(List Int))⊕(((List Int))⊕(eW))) :=
  .need (dZ .i64 (((a+1):Nat):Int))<|.leaf (.inl ((a+1),b))
def yu(b:List Int)(c:Int)(r2:Int)(d:Nat) :Nat×(List Int)→Option ((Nat×(List Int))⊕(((List Int))⊕(eW))):=fun (a,e) =>
  aQ ((TS b c r2 d a e).run) fun f =>
  (TT a f).run
theorem TU(d:Lv)(b:List Int)(c:Int)(r2:Int)(a:Nat)(e:Nat)(f:List Int) :Sg prog [] TR (wq d b c r2 a (e,f)) (yu b c r2 a (e,f)) (wq d b c r2 a) (dD 0 (I3 a) zB):=by
  unfold yu;exact Sg.cut 3 (bh sR) (bp kK (Xc d b c r2 a e) [⟨[],[0],[0,5,6,7,24,25]⟩,⟨[],[0],[7]⟩]) (fun g=>bp kK (wq d b c r2 a) [⟨[],[0],[0,5,6,7,24,25]⟩])
def Xd:Nat×Nat×Nat×(List Int)→aG:=fun (a,b,c,d)=>⟨ah 59 [(4,.sl 0 1 1 a b c)],[(0,.ns .u64 d)],1⟩
def TV(a:Nat)(b:List Int) :T ((Nat×Nat×Nat×(List Int))⊕(eW)) :=
  .need (fP (bd b 0 a a))<|.leaf (.inl ((fq (bd b 0 a a)),(fu (bd b 0 a a)),(fv (bd b 0 a a)),(fw (bd b 0 a a))))
def TW(a:Nat)(b:Nat)(c:Nat)(d:List Int) :T ((Empty)⊕(eW)) :=
  .leaf (.inr (.r0 a b c d))
def dO(a:List Int)(c:Int) :Option eW:=kD (aQ ((TQ a c).run) fun (d,r2,b,e) =>
  aQ (ej (yu a d r2 b) (0,e)) fun f =>
  aQ ((TV b f).run) fun (g,h,i,j) =>
  (TW g h i j).run)
theorem Xe(b:Lv)(a:List Int)(d:Int){x:eW}(h:dO a d=some x) :ag prog zp [] [.imm b (.ns .u64 a) 1 1 0 (List.length a),.int .i64 d] (Ew x) :=
  lE true Ew zB h (Sg.cut 6 sR (bp kK (Xb b a) [⟨[(.slot 4,.own 1 1 (.ns .u64 ([]:List Int)))],[80],[4]⟩,⟨[],[256],[0,5,6,7,24,25]⟩]) (fun ⟨e,r2,c,l⟩=>Sg.cut 1 sR (Fr ⟨[],[0],[0,5,6,7,24,25]⟩ (wq b a e r2 c) (I3 c) 0 sR (W9 _) (fun ⟨f,g⟩=>TU b a e r2 c f g)) (fun m=>Sg.cut 1 sR (bp kK Xd [⟨[],[0],[4]⟩]) (fun ⟨n,o,p,q⟩=>bp kK lb [⟨[],[0],[4]⟩]))))
    (fun x=>by cases x with | r0 i j k r=>exact kI [.sl 0 1 1 i j k])
def ws:Option eW→Bool
  | some _=>true
  | none=>false
def iS:Option eW→Nat
  | some (.r0 x _ _ _)=>x
  | _=>0
def iT:Option eW→Nat
  | some (.r0 _ x _ _)=>x
  | _=>0
def CI:Option eW→Nat
  | some (.r0 _ _ x _)=>x
  | _=>0
def iU:Option eW→List Int
  | some (.r0 _ _ _ x)=>x
  | _=>[]
theorem Xf{x:Option eW}(h:ws x=true) :x=some (.r0 (iS x) (iT x) (CI x) (iU x)):=by
  unfold ws at h
  split at h<;>first | rfl | (cases h;done) | (rename_i y;cases y;rfl)
def NG:aw:=bW zp (.cons (.ns .u64) (.cons (.int .i64) .nil)) fun t=>(fun q=>[⟨Ew (.r0 (iS q) (iT q) (CI q) (iU q)),[ws q]⟩]) (dO t.1.2 t.2.1)
theorem Pp:aO prog NG:=aS fun t=>(aT (fun h=>Xe t.1.1 t.1.2 t.2.1 (Xf h)) bb)
def NH:List aw:=NG::NF
theorem wt:aN prog (aH NH):=ao Pp kK
inductive dR where
  | r0 (a:List Int) (b:Nat) (c:Nat)
def Ad(a:Lv) :dR→AE×aG
  | .r0 b c d=>(.ret,⟨ah 10 [(2,.imm a (.ns .u64 b) 1 1 0 c),(3,.int .i64 ((d:Nat):Int))],[],0⟩)
theorem I4{a:Lv} :jT (Ad a):=by intro x;cases x<;>(intro h;cases h)
def uA(a:Lv) :dR→gd
  | .r0 b c d=>⟨.tup [.imm a (.ns .u64 b) 1 1 0 c,.int .i64 ((d:Nat):Int)],[]⟩
def I5(a:Lv) :(List Int)×Nat→aG:=fun (b,c)=>⟨ah 10 [(0,.imm a (.ns .u64 b) 1 1 0 c)],[],0⟩
def I6(a:List Int) :T (((List Int)×Nat)⊕(dR)) :=
  .need (aU 0 (List.length a) a)<|.need (cW (ap (aa 0 (List.length a) a)))<|.leaf (.inl ((aZ (ap (aa 0 (List.length a) a))),(aC (ap (aa 0 (List.length a) a)))))
def I7(b:List Int)(a:Nat) :T ((Empty)⊕(dR)) :=
  .ask (decide (((a:Nat):Int)>(4096:Int)))
    (.leaf (.inr (.r0 ([]:List Int) 0 3)))
    (.leaf (.inr (.r0 b a 0)))
def jP(a:List Int) :Option dR:=kD (aQ ((I6 a).run) fun (b,c) =>
  (I7 b c).run)
theorem I8(a:Lv)(b:List Int){x:dR}(h:jP b=some x) :ag prog sJ [] [.imm a (.ns .u64 b) 1 1 0 (List.length b)] (uA a x) :=
  lE false (uA a) (Ad a) h (Sg.cut 2 I4 (bp wt (I5 a) [⟨[],[],[0]⟩]) (fun ⟨f,g⟩=>bp wt lb [⟨[(.slot 2,.fre 1 1 (.ns .u64 ([]:List Int))),(.slot 2,.lev a)],[],[2,3]⟩,⟨[],[],[2,3]⟩]))
    (fun x=>by cases x with | r0 c d e=>exact kI [.imm a (.ns .u64 c) 1 1 0 d,.int .i64 ((e:Nat):Int)])
def og:Option dR→Bool
  | some _=>true
  | none=>false
def pv:Option dR→List Int
  | some (.r0 x _ _)=>x
  | _=>[]
def pw:Option dR→Nat
  | some (.r0 _ x _)=>x
  | _=>0
def px:Option dR→Nat
  | some (.r0 _ _ x)=>x
  | _=>0
theorem I9{x:Option dR}(h:og x=true) :x=some (.r0 (pv x) (pw x) (px x)):=by
  unfold og at h
  split at h<;>first | rfl | (cases h;done) | (rename_i y;cases y;rfl)
def Ae:aw:=bW sJ (.cons (.ns .u64) .nil) fun t=>(fun q=>[⟨uA t.1.1 (.r0 (pv q) (pw q) (px q)),[og q]⟩]) (jP t.1.2)
theorem Ex:aO prog Ae:=aS fun t=>(aT (fun h=>I8 t.1.1 t.1.2 (I9 h)) bb)
def Af:List aw:=Ae::NH
theorem iC:aN prog (aH Af):=ao Ex wt
inductive gG where
  | r0 (a:List Int) (b:Nat) (c:Nat)
def NI:gG→AE×aG
  | .r0 a b c=>(.ret,⟨ah 30 [(4,.imm .free (.ns .u64 a) 1 1 0 b),(5,.int .i64 ((c:Nat):Int))],[],0⟩)
theorem Bo:jT NI:=by intro x;cases x<;>(intro h;cases h)
def Ey:gG→gd
  | .r0 a b c=>⟨.tup [.imm .free (.ns .u64 a) 1 1 0 b,.int .i64 ((c:Nat):Int)],[]⟩
def Xg(a:Lv)(b:Int) :Nat×(List Int)×Nat→aG:=fun (c,d,e)=>⟨ah 30 [(1,.int .i64 b),(2,.ptr 0 1 0 0),(6,.int .i64 ((c:Nat):Int))],[(0,.vs [.imm a (.ns .u64 d) 1 1 0 e])],1⟩
def Xh(a:List Int) :T ((Nat×(List Int)×Nat)⊕(gG)) :=
  .ask (decide ((0:Int)<(1:Int)))
    (.need (eY (0:Int) 1)<|.need (aU 0 (List.length a) a)<|.need (cW (ap (aa 0 (List.length a) a)))<|.ask (decide ((((aC (ap (aa 0 (List.length a) a))):Nat):Int)>(4096:Int)))
      (.leaf (.inl (2,(aZ (ap (aa 0 (List.length a) a))),(aC (ap (aa 0 (List.length a) a))))))
      (.need (dZ .i64 (1:Int))<|.ask (decide ((1:Int)<(1:Int)))
        (.fail)
        (.leaf (.inl (0,(aZ (ap (aa 0 (List.length a) a))),(aC (ap (aa 0 (List.length a) a))))))))
    (.fail)
def Xi(a:Lv)(b:Int)(c:List Int)(d:Nat)(_:Unit) :aG:=⟨ah 30 [(1,.int .i64 b),(2,.ptr 0 1 0 0)],[(0,.vs [.imm a (.ns .u64 c) 1 1 0 d])],1⟩
def Xj(a:Int)(b:Nat)(c:Nat) :T ((Unit)⊕(gG)) :=
  .ask (((b:Nat):Int) != (0:Int))
    (.leaf (.inr (.r0 ([]:List Int) 0 2)))
    (.ask (decide (a<(0:Int)))
      (.leaf (.inr (.r0 ([]:List Int) 0 2)))
      (.ask (decide (((c:Nat):Int)>(0:Int)))
        (.ask (decide (a≥(262144:Int)))
          (.leaf (.inr (.r0 ([]:List Int) 0 3)))
          (.leaf (.inl ())))
        (.leaf (.inl ()))))
def Xk:(List Int)×Nat×Nat→aG:=fun (a,b,c)=>⟨ah 30 [(4,.imm .free (.ns .u64 a) 1 1 0 b),(5,.int .i64 ((c:Nat):Int))],[],0⟩
def Xl(c:Int)(a:List Int)(b:Nat) :T (((List Int)×Nat×Nat)⊕(gG)) :=
  .need (aU 0 b a)<|.need (ws (dO (aa 0 b a) c))<|.need (aU (iS (dO (aa 0 b a) c)) (iT (dO (aa 0 b a) c)) (iU (dO (aa 0 b a) c)))<|.need (og (jP (aa (iS (dO (aa 0 b a) c)) (iT (dO (aa 0 b a) c)) (iU (dO (aa 0 b a) c)))))<|.leaf (.inl ((pv (jP (aa (iS (dO (aa 0 b a) c)) (iT (dO (aa 0 b a) c)) (iU (dO (aa 0 b a) c))))),(pw (jP (aa (iS (dO (aa 0 b a) c)) (iT (dO (aa 0 b a) c)) (iU (dO (aa 0 b a) c))))),(px (jP (aa (iS (dO (aa 0 b a) c)) (iT (dO (aa 0 b a) c)) (iU (dO (aa 0 b a) c)))))))
def Xm(a:List Int)(b:Nat)(c:Nat) :T ((Empty)⊕(gG)) :=
  .leaf (.inr (.r0 a b c))
def gH(c:List Int)(a:Int) :Option gG:=kD (aQ ((Xh c).run) fun (d,e,b) =>
  aQ ((Xj a d b).run) fun _ =>
  aQ ((Xl a e b).run) fun (f,g,h) =>
  (Xm f g h).run)
theorem Xn(b:Lv)(c:List Int)(a:Int){x:gG}(h:gH c a=some x) :ag prog Ei [] [.imm b (.ns .u64 c) 1 1 0 (List.length c),.int .i64 a] (Ey x) :=
  lE true Ey NI h (Sg.cut 2 Bo (bp iC (Xg b a) [⟨[],[0],[1,2,6]⟩,⟨[],[0],[1,2,6]⟩]) (fun ⟨j,d,e⟩=>Sg.cut 1 Bo (bp iC (Xi b a d e) [⟨[(.slot 4,.fre 1 1 (.ns .u64 ([]:List Int)))],[],[4,5]⟩,⟨[(.slot 4,.fre 1 1 (.ns .u64 ([]:List Int)))],[],[4,5]⟩,⟨[(.slot 4,.fre 1 1 (.ns .u64 ([]:List Int)))],[],[4,5]⟩,⟨[],[0],[1,2]⟩,⟨[],[0],[1,2]⟩]) (fun _=>Sg.cut 1 Bo (bp iC Xk [⟨[],[],[4,5]⟩]) (fun ⟨k,l,m⟩=>bp iC lb [⟨[],[],[4,5]⟩]))))
    (fun x=>by cases x with | r0 f g i=>exact kI [.imm .free (.ns .u64 f) 1 1 0 g,.int .i64 ((i:Nat):Int)])
def py:Option gG→Bool
  | some _=>true
  | none=>false
def kL:Option gG→List Int
  | some (.r0 x _ _)=>x
  | _=>[]
def kM:Option gG→Nat
  | some (.r0 _ x _)=>x
  | _=>0
def CJ:Option gG→Nat
  | some (.r0 _ _ x)=>x
  | _=>0
theorem Xo{x:Option gG}(h:py x=true) :x=some (.r0 (kL x) (kM x) (CJ x)):=by
  unfold py at h
  split at h<;>first | rfl | (cases h;done) | (rename_i y;cases y;rfl)
def NJ:aw:=bW Ei (.cons (.ns .u64) (.cons (.int .i64) .nil)) fun t=>(fun q=>[⟨Ey (.r0 (kL q) (kM q) (CJ q)),[py q]⟩]) (gH t.1.2 t.2.1)
theorem Pq:aO prog NJ:=aS fun t=>(aT (fun h=>Xn t.1.1 t.1.2 t.2.1 (Xo h)) bb)
def NK:List aw:=NJ::Af
theorem gn:aN prog (aH NK):=ao Pq iC
inductive cV where
  | r0 (a:Nat) (b:Nat) (c:Nat) (d:Bool) (e:List Int)
def vb:cV→AE×aG
  | .r0 a b c d e=>(.ret,⟨ah 97 [(4,.sl 0 1 1 a b c),(5,.bool false d)],[(0,.ns .u64 e)],1⟩)
theorem iV:jT vb:=by intro x;cases x<;>(intro h;cases h)
theorem Ja(id:Nat) :nD id vb:=by intro x;cases x<;>(intro h;cases h)
def Ez:cV→gd
  | .r0 a b e c d=>⟨.tup [.imm .free (.ns .u64 d) 1 1 a b,.bool false c],[]⟩
def Fv:List Code:=cR (nY zn)
def Xp(b:Lv)(a:List Int) :Int×Int×Bool×Nat×Nat→aG:=fun (c,r2,d,e,f)=>⟨ah 97 [(0,.imm b (.ns .u64 a) 1 1 0 (List.length a)),(6,.int .i64 c),(7,.int .u64 r2),(8,.bool false d),(36,.imm b (.ns .u64 a) 1 1 0 e),(37,.int .i64 ((f:Nat):Int)),(38,.int .i64 (0:Int))],[],0⟩
def TX(b:List Int)(a:Int) :T ((Int×Int×Bool×Nat×Nat)⊕(cV)) :=
  .need ((64:Int) != (0:Int))<|.need (dZ .i64 (Int.tdiv a (64:Int)))<|.need ((64:Int) != (0:Int))<|.ask (decide ((Int.tdiv a (64:Int))≥(((List.length b):Nat):Int)))
    (.leaf (.inr (.r0 0 0 0 (decide ((((List.length b):Nat):Int)>(0:Int))) ([]:List Int))))
    (.need (eY (Int.tdiv a (64:Int)) (List.length b))<|.need (fm (Int.toNat (Int.tdiv a (64:Int))) (List.length b))<|.need (decide ((0:Int)≤(IntKind.u64.wrap (Int.tmod a (64:Int)))))<|.need (vg (Int.tdiv a (64:Int)) (List.length b))<|.need (vg (0:Int) (Int.toNat (Int.tdiv a (64:Int))))<|.leaf (.inl ((Int.tdiv a (64:Int)),(IntKind.u64.wrap (Int.tmod a (64:Int))),((dd .and .u64 (List.getD b (Int.toNat (Int.tdiv a (64:Int))) 0) (IntKind.u64.wrap ((IntKind.u64.wrap ((1:Int)*2^(min (Int.toNat (IntKind.u64.wrap (Int.tmod a (64:Int)))) (IntKind.u64.bits))))-(1:Int)))) != (0:Int)),(Int.toNat (Int.tdiv a (64:Int))),(Int.toNat (Int.tdiv a (64:Int))))))
def wu(b:Lv)(a:List Int)(c:Int)(r2:Int)(d:Nat)(e:Nat) :Bool×Nat→aG:=fun (f,g)=>⟨ah 97 [(0,.imm b (.ns .u64 a) 1 1 0 (List.length a)),(6,.int .i64 c),(7,.int .u64 r2),(8,.bool false f),(36,.imm b (.ns .u64 a) 1 1 0 d),(37,.int .i64 ((e:Nat):Int)),(38,.int .i64 ((g:Nat):Int))],[],0⟩
def Jb(b:Lv)(a:List Int)(c:Int)(r2:Int)(d:Bool) :aG:=⟨ah 97 [(0,.imm b (.ns .u64 a) 1 1 0 (List.length a)),(6,.int .i64 c),(7,.int .u64 r2),(8,.bool false d)],[],0⟩
def TY:List Code:=cR (fe ((((Fv.drop 6).take 1)).headD .skip))
def Xq(b:Lv)(a:List Int)(c:Int)(r2:Int)(d:Nat)(e:Nat)(f:Nat)(g:Bool) :aG:=⟨ah 97 [(0,.imm b (.ns .u64 a) 1 1 0 (List.length a)),(6,.int .i64 c),(7,.int .u64 r2),(8,.bool false g),(36,.imm b (.ns .u64 a) 1 1 0 d),(37,.int .i64 ((e:Nat):Int)),(38,.int .i64 ((f:Nat):Int))],[],0⟩
def TZ(b:List Int)(d:Nat)(e:Nat)(c:Bool)(a:Nat) :T ((Bool)⊕((Bool)⊕(cV))) :=
  .ask (decide (((a:Nat):Int)<((e:Nat):Int)))
    (.need (eY ((a:Nat):Int) d)<|.need (fm a (List.length b))<|.ask c
      (.leaf (.inl true))
      (.leaf (.inl ((List.getD b a 0) != (0:Int)))))
    (.leaf (.inr (.inl c)))
def T1(a:Nat)(b:Bool) :T ((Bool×Nat)⊕((Bool)⊕(cV))) :=
  .need (dZ .i64 (((a+1):Nat):Int))<|.leaf (.inl (b,(a+1)))
def yv(b:List Int)(c:Nat)(d:Nat) :Bool×Nat→Option ((Bool×Nat)⊕((Bool)⊕(cV))):=fun (e,a) =>
  aQ ((TZ b c d e a).run) fun f =>
  (T1 a f).run
theorem T3(b:Lv)(a:List Int)(c:Int)(r2:Int)(d:Nat)(e:Nat)(g:Bool)(f:Nat) :Sg prog [] TY (wu b a c r2 d e (g,f)) (yv a d e (g,f)) (wu b a c r2 d e) (dD 0 (Jb b a c r2) vb):=by
  unfold yv;exact Sg.cut 3 (bh iV) (bp gn (Xq b a c r2 d e f) [⟨[],[],[0,6,7,8,36,37,38]⟩,⟨[],[],[0,6,7,8,36,37,38]⟩,⟨[],[],[0,6,7,8]⟩]) (fun h=>bp gn (wu b a c r2 d e) [⟨[],[],[0,6,7,8,36,37,38]⟩])
def Xr(c:Lv)(a:List Int)(d:Int)(r2:Int)(e:Bool) :Nat×Nat×(List Int)→aG:=fun (b,f,g)=>⟨ah 97 [(0,.imm c (.ns .u64 a) 1 1 0 (List.length a)),(6,.int .i64 d),(7,.int .u64 r2),(8,.bool false e),(11,.sl 0 1 1 0 b b),(54,.int .i64 ((f:Nat):Int)),(55,.int .i64 (0:Int))],[(0,.ns .u64 g)],1⟩
def T4(a:List Int)(b:Int) :T ((Nat×Nat×(List Int))⊕(cV)) :=
  .need (dZ .i64 ((((List.length a):Nat):Int)-b))<|.need (decide ((0:Int)≤((((List.length a):Nat):Int)-b)))<|.need (decide (((((List.length a):Nat):Int)-b)≤((((List.length a):Nat):Int)-b)))<|.need (decide ((8:Int)*((((List.length a):Nat):Int)-b)≤140737488355328))<|.need (dZ .i64 ((((List.length a):Nat):Int)-b))<|.leaf (.inl ((Int.toNat ((((List.length a):Nat):Int)-b)),(Int.toNat ((((List.length a):Nat):Int)-b)),(List.replicate (Int.toNat ((((List.length a):Nat):Int)-b)) (0:Int))))
def tQ(c:Lv)(a:List Int)(d:Int)(r2:Int)(e:Bool)(b:Nat)(f:Nat) :Nat×(List Int)→aG:=fun (g,h)=>⟨ah 97 [(0,.imm c (.ns .u64 a) 1 1 0 (List.length a)),(6,.int .i64 d),(7,.int .u64 r2),(8,.bool false e),(11,.sl 0 1 1 0 b b),(54,.int .i64 ((f:Nat):Int)),(55,.int .i64 ((g:Nat):Int))],[(0,.ns .u64 h)],1⟩
def Fw(b:Bool)(a:Nat)(c:(List Int)) :aG:=⟨ah 97 [(8,.bool false b),(11,.sl 0 1 1 0 a a)],[(0,.ns .u64 c)],1⟩
def T5:List Code:=cR (fe ((((((Fv.drop 6).drop 1).drop 2).take 1)).headD .skip))
def T6(c:Lv)(a:List Int)(d:Int)(r2:Int)(e:Bool)(b:Nat)(f:Nat)(g:Nat)(h:(List Int)) :aG:=⟨ah 97 [(0,.imm c (.ns .u64 a) 1 1 0 (List.length a)),(6,.int .i64 d),(7,.int .u64 r2),(8,.bool false e),(11,.sl 0 1 1 0 b b),(54,.int .i64 ((f:Nat):Int)),(55,.int .i64 ((g:Nat):Int))],[(0,.ns .u64 h)],1⟩
def T7(c:List Int)(b:Int)(r2:Int)(e:Nat)(f:Nat)(a:Nat)(d:List Int) :T (((List Int))⊕(((List Int))⊕(cV))) :=
  .ask (decide (((a:Nat):Int)<((f:Nat):Int)))
    (.need (dZ .i64 (((a:Nat):Int)+b))<|.need (eY (((a:Nat):Int)+b) (List.length c))<|.need (fm (Int.toNat (((a:Nat):Int)+b)) (List.length c))<|.need (decide ((0:Int)≤r2))<|.need (eY ((a:Nat):Int) e)<|.need (fm a (List.length d))<|.need (dZ .i64 (((a:Nat):Int)+b))<|.need (dZ .i64 ((((a:Nat):Int)+b)+(1:Int)))<|.ask (decide (((((a:Nat):Int)+b)+(1:Int))<(((List.length c):Nat):Int)))
      (.need (eY ((a:Nat):Int) e)<|.need (fm a (List.length (List.set d a (Int.fdiv (List.getD c (Int.toNat (((a:Nat):Int)+b)) 0) (2^(min (Int.toNat r2) (IntKind.u64.bits)))))))<|.need (dZ .i64 (((a:Nat):Int)+b))<|.need (dZ .i64 ((((a:Nat):Int)+b)+(1:Int)))<|.need (eY ((((a:Nat):Int)+b)+(1:Int)) (List.length c))<|.need (fm (Int.toNat ((((a:Nat):Int)+b)+(1:Int))) (List.length c))<|.need (decide ((0:Int)≤(1:Int)))<|.need (decide ((0:Int)≤(IntKind.u64.wrap ((63:Int)-r2))))<|.need (eY ((a:Nat):Int) e)<|.need (fm a (List.length (List.set d a (Int.fdiv (List.getD c (Int.toNat (((a:Nat):Int)+b)) 0) (2^(min (Int.toNat r2) (IntKind.u64.bits)))))))<|.leaf (.inl (List.set (List.set d a (Int.fdiv (List.getD c (Int.toNat (((a:Nat):Int)+b)) 0) (2^(min (Int.toNat r2) (IntKind.u64.bits))))) a (dd .or .u64 (List.getD (List.set d a (Int.fdiv (List.getD c (Int.toNat (((a:Nat):Int)+b)) 0) (2^(min (Int.toNat r2) (IntKind.u64.bits))))) a 0) (IntKind.u64.wrap ((IntKind.u64.wrap ((List.getD c (Int.toNat ((((a:Nat):Int)+b)+(1:Int))) 0)*2^(min (Int.toNat (1:Int)) (IntKind.u64.bits))))*2^(min (Int.toNat (IntKind.u64.wrap ((63:Int)-r2))) (IntKind.u64.bits))))))))
      (.leaf (.inl (List.set d a (Int.fdiv (List.getD c (Int.toNat (((a:Nat):Int)+b)) 0) (2^(min (Int.toNat r2) (IntKind.u64.bits))))))))
    (.leaf (.inr (.inl d)))
def T8(a:Nat)(b:List Int) :T ((Nat×(List Int))⊕(((List Int))⊕(cV))) :=
  .need (dZ .i64 (((a+1):Nat):Int))<|.leaf (.inl ((a+1),b))
def yw(b:List Int)(c:Int)(r2:Int)(d:Nat)(e:Nat) :Nat×(List Int)→Option ((Nat×(List Int))⊕(((List Int))⊕(cV))):=fun (a,f) =>
  aQ ((T7 b c r2 d e a f).run) fun g =>
  (T8 a g).run
theorem T9(f:Lv)(b:List Int)(c:Int)(r2:Int)(d:Bool)(a:Nat)(e:Nat)(g:Nat)(h:List Int) :Sg prog [] T5 (tQ f b c r2 d a e (g,h)) (yw b c r2 a e (g,h)) (tQ f b c r2 d a e) (dD 2 (Fw d a) vb):=by
  unfold yw;exact Sg.cut 3 (bh iV) (bp gn (T6 f b c r2 d a e g) [⟨[],[0],[0,6,7,8,11,54,55]⟩,⟨[],[0],[0,6,7,8,11,54,55]⟩,⟨[],[0],[8,11]⟩]) (fun i=>bp gn (tQ f b c r2 d a e) [⟨[],[0],[0,6,7,8,11,54,55]⟩])
def Ua(a:Bool) :Nat×Nat×Nat×(List Int)→aG:=fun (b,c,d,e)=>⟨ah 97 [(4,.sl 0 1 1 b c d),(5,.bool false a)],[(0,.ns .u64 e)],1⟩
def Ub(a:Nat)(b:List Int) :T ((Nat×Nat×Nat×(List Int))⊕(cV)) :=
  .need (fP (bd b 0 a a))<|.leaf (.inl ((fq (bd b 0 a a)),(fu (bd b 0 a a)),(fv (bd b 0 a a)),(fw (bd b 0 a a))))
def Uc(a:Bool)(b:Nat)(c:Nat)(d:Nat)(e:List Int) :T ((Empty)⊕(cV)) :=
  .leaf (.inr (.r0 b c d a e))
def pz(a:List Int)(d:Int) :Option cV:=kD (aQ ((TX a d).run) fun (b,r2,e,f,g) =>
  aQ (ej (yv a f g) (e,0)) fun h =>
  aQ ((T4 a b).run) fun (c,i,j) =>
  aQ (ej (yw a b r2 c i) (0,j)) fun k =>
  aQ ((Ub c k).run) fun (l,m,n,o) =>
  (Uc h l m n o).run)
theorem Xs(b:Lv)(a:List Int)(f:Int){x:cV}(h:pz a f=some x) :ag prog zn [] [.imm b (.ns .u64 a) 1 1 0 (List.length a),.int .i64 f] (Ez x) :=
  lE true Ez vb h (Sg.cut 6 iV (bp gn (Xp b a) [⟨[(.slot 4,.own 1 1 (.ns .u64 ([]:List Int)))],[288],[4,5]⟩,⟨[],[],[0,6,7,8,36,37,38]⟩]) (fun ⟨c,r2,s,g,i⟩=>Sg.cut 1 iV (Fr ⟨[],[],[0,6,7,8,36,37,38]⟩ (wu b a c r2 g i) (Jb b a c r2) 0 iV (Ja _) (fun ⟨k,l⟩=>T3 b a c r2 g i k l)) (fun d=>Sg.cut 2 iV (bp gn (Xr b a c r2 d) [⟨[],[64],[0,6,7,8,11,54,55]⟩]) (fun ⟨e,j,t⟩=>Sg.cut 1 iV (Fr ⟨[],[0],[0,6,7,8,11,54,55]⟩ (tQ b a c r2 d e j) (Fw d e) 2 iV (Ja _) (fun ⟨m,n⟩=>T9 b a c r2 d e j m n)) (fun u=>Sg.cut 1 iV (bp gn (Ua d) [⟨[],[0],[4,5]⟩]) (fun ⟨v,w,y,z⟩=>bp gn lb [⟨[],[0],[4,5]⟩]))))))
    (fun x=>by cases x with | r0 o p q r A=>exact kI [.sl 0 1 1 o p q,.bool false r])
def wv:Option cV→Bool
  | some _=>true
  | none=>false
def ww:Option cV→Nat
  | some (.r0 x _ _ _ _)=>x
  | _=>0
def wx:Option cV→Nat
  | some (.r0 _ x _ _ _)=>x
  | _=>0
def CM:Option cV→Nat
  | some (.r0 _ _ x _ _)=>x
  | _=>0
def wy:Option cV→Bool
  | some (.r0 _ _ _ x _)=>x
  | _=>false
def wz:Option cV→List Int
  | some (.r0 _ _ _ _ x)=>x
  | _=>[]
theorem Xt{x:Option cV}(h:wv x=true) :x=some (.r0 (ww x) (wx x) (CM x) (wy x) (wz x)):=by
  unfold wv at h
  split at h<;>first | rfl | (cases h;done) | (rename_i y;cases y;rfl)
def NL:aw:=bW zn (.cons (.ns .u64) (.cons (.int .i64) .nil)) fun t=>(fun q=>[⟨Ez (.r0 (ww q) (wx q) (CM q) (wy q) (wz q)),[wv q]⟩]) (pz t.1.2 t.2.1)
theorem Pr:aO prog NL:=aS fun t=>(aT (fun h=>Xs t.1.1 t.1.2 t.2.1 (Xt h)) bb)
def NM:List aw:=NL::NK
theorem oh:aN prog (aH NM):=ao Pr gn
inductive fA where
  | r0 (a:List Int) (b:Nat) (c:Nat) (d:Bool) (e:Nat)
def NN:fA→AE×aG
  | .r0 a b c d e=>(.ret,⟨ah 23 [(4,.imm .free (.ns .u64 a) 1 1 b c),(5,.bool false d),(6,.int .i64 ((e:Nat):Int))],[],0⟩)
theorem Bp:jT NN:=by intro x;cases x<;>(intro h;cases h)
def EA:fA→gd
  | .r0 a b c d e=>⟨.tup [.imm .free (.ns .u64 a) 1 1 b c,.bool false d,.int .i64 ((e:Nat):Int)],[]⟩
def Xu(a:Lv)(b:Int) :Nat×(List Int)×Nat→aG:=fun (c,d,e)=>⟨ah 23 [(1,.int .i64 b),(2,.ptr 0 1 0 0),(6,.int .i64 ((c:Nat):Int))],[(0,.vs [.imm a (.ns .u64 d) 1 1 0 e])],1⟩
def Xv(a:List Int) :T ((Nat×(List Int)×Nat)⊕(fA)) :=
  .ask (decide ((0:Int)<(1:Int)))
    (.need (eY (0:Int) 1)<|.need (aU 0 (List.length a) a)<|.need (cW (ap (aa 0 (List.length a) a)))<|.ask (decide ((((aC (ap (aa 0 (List.length a) a))):Nat):Int)>(4096:Int)))
      (.leaf (.inl (2,(aZ (ap (aa 0 (List.length a) a))),(aC (ap (aa 0 (List.length a) a))))))
      (.need (dZ .i64 (1:Int))<|.ask (decide ((1:Int)<(1:Int)))
        (.fail)
        (.leaf (.inl (0,(aZ (ap (aa 0 (List.length a) a))),(aC (ap (aa 0 (List.length a) a))))))))
    (.fail)
def Xw(a:Lv)(b:Int)(c:List Int)(d:Nat)(e:Bool) :aG:=⟨ah 23 [(1,.int .i64 b),(2,.ptr 0 1 0 0),(14,.bool false e)],[(0,.vs [.imm a (.ns .u64 c) 1 1 0 d])],1⟩
def Xx(a:Int)(b:Nat) :T ((Bool)⊕(fA)) :=
  .ask (((b:Nat):Int) != (0:Int))
    (.leaf (.inl true))
    (.leaf (.inl (decide (a<(0:Int)))))
def Xy:(List Int)×Nat×Nat×Bool→aG:=fun (a,b,c,d)=>⟨ah 23 [(4,.imm .free (.ns .u64 a) 1 1 b c),(5,.bool false d)],[],0⟩
def Xz(c:Int)(a:List Int)(b:Nat)(d:Bool) :T (((List Int)×Nat×Nat×Bool)⊕(fA)) :=
  .ask d
    (.leaf (.inr (.r0 ([]:List Int) 0 0 false 2)))
    (.need (aU 0 b a)<|.need (wv (pz (aa 0 b a) c))<|.leaf (.inl ((wz (pz (aa 0 b a) c)),(ww (pz (aa 0 b a) c)),(wx (pz (aa 0 b a) c)),(wy (pz (aa 0 b a) c)))))
def XA(a:List Int)(b:Nat)(c:Nat)(d:Bool) :T ((Empty)⊕(fA)) :=
  .leaf (.inr (.r0 a b c d 0))
def sv(b:List Int)(a:Int) :Option fA:=kD (aQ ((Xv b).run) fun (c,d,e) =>
  aQ ((Xx a c).run) fun f =>
  aQ ((Xz a d e f).run) fun (g,h,i,j) =>
  (XA g h i j).run)
theorem XB(b:Lv)(c:List Int)(a:Int){x:fA}(h:sv c a=some x) :ag prog Eg [] [.imm b (.ns .u64 c) 1 1 0 (List.length c),.int .i64 a] (EA x) :=
  lE true EA NN h (Sg.cut 2 Bp (bp oh (Xu b a) [⟨[],[0],[1,2,6]⟩,⟨[],[0],[1,2,6]⟩]) (fun ⟨l,d,e⟩=>Sg.cut 1 Bp (bp oh (Xw b a d e) [⟨[],[0],[1,2,14]⟩,⟨[],[0],[1,2,14]⟩]) (fun m=>Sg.cut 2 Bp (bp oh Xy [⟨[(.slot 4,.fre 1 1 (.ns .u64 ([]:List Int)))],[],[4,5,6]⟩,⟨[],[],[4,5]⟩]) (fun ⟨n,o,p,q⟩=>bp oh lb [⟨[],[],[4,5,6]⟩]))))
    (fun x=>by cases x with | r0 f g i j k=>exact kI [.imm .free (.ns .u64 f) 1 1 g i,.bool false j,.int .i64 ((k:Nat):Int)])
def wA:Option fA→Bool
  | some _=>true
  | none=>false
def wB:Option fA→List Int
  | some (.r0 x _ _ _ _)=>x
  | _=>[]
def wC:Option fA→Nat
  | some (.r0 _ x _ _ _)=>x
  | _=>0
def wD:Option fA→Nat
  | some (.r0 _ _ x _ _)=>x
  | _=>0
def CN:Option fA→Bool
  | some (.r0 _ _ _ x _)=>x
  | _=>false
def CO:Option fA→Nat
  | some (.r0 _ _ _ _ x)=>x
  | _=>0
theorem XC{x:Option fA}(h:wA x=true) :x=some (.r0 (wB x) (wC x) (wD x) (CN x) (CO x)):=by
  unfold wA at h
  split at h<;>first | rfl | (cases h;done) | (rename_i y;cases y;rfl)
def NO:aw:=bW Eg (.cons (.ns .u64) (.cons (.int .i64) .nil)) fun t=>(fun q=>[⟨EA (.r0 (wB q) (wC q) (wD q) (CN q) (CO q)),[wA q]⟩]) (sv t.1.2 t.2.1)
theorem Ps:aO prog NO:=aS fun t=>(aT (fun h=>XB t.1.1 t.1.2 t.2.1 (XC h)) bb)
def NP:List aw:=NO::NM
theorem iW:aN prog (aH NP):=ao Ps oh
inductive dl where
  | r0 (a:Int) (b:Nat)
def tR:dl→AE×aG
  | .r0 a b=>(.ret,⟨ah 31 [(2,.int .i64 a),(3,.int .i64 ((b:Nat):Int))],[],0⟩)
theorem kN:jT tR:=by intro x;cases x<;>(intro h;cases h)
theorem Pt(id:Nat) :nD id tR:=by intro x;cases x<;>(intro h;cases h)
def yx:dl→gd
  | .r0 a b=>⟨.tup [.int .i64 a,.int .i64 ((b:Nat):Int)],[]⟩
def Pu:List Code:=cR (nY tG)
def Pv(a:Lv) :Nat×(List Int)×Nat→aG:=fun (b,c,d)=>⟨ah 31 [(1,.ptr 0 1 0 0),(4,.int .i64 ((b:Nat):Int))],[(0,.vs [.imm a (.ns .u64 c) 1 1 0 d])],1⟩
def KO(a:List Int) :T ((Nat×(List Int)×Nat)⊕(dl)) :=
  .ask (decide ((0:Int)<(1:Int)))
    (.need (eY (0:Int) 1)<|.need (aU 0 (List.length a) a)<|.need (cW (ap (aa 0 (List.length a) a)))<|.ask (decide ((((aC (ap (aa 0 (List.length a) a))):Nat):Int)>(4096:Int)))
      (.leaf (.inl (2,(aZ (ap (aa 0 (List.length a) a))),(aC (ap (aa 0 (List.length a) a))))))
      (.need (dZ .i64 (1:Int))<|.ask (decide ((1:Int)<(1:Int)))
        (.fail)
        (.leaf (.inl (0,(aZ (ap (aa 0 (List.length a) a))),(aC (ap (aa 0 (List.length a) a))))))))
    (.fail)
def Pw(a:Lv)(b:Nat)(c:List Int)(d:Nat)(e:Bool) :aG:=⟨ah 31 [(1,.ptr 0 1 0 0),(4,.int .i64 ((b:Nat):Int)),(14,.bool false e)],[(0,.vs [.imm a (.ns .u64 c) 1 1 0 d])],1⟩
def KP(a:Nat)(b:Nat) :T ((Bool)⊕(dl)) :=
  .ask (((a:Nat):Int) != (0:Int))
    (.leaf (.inl true))
    (.leaf (.inl (((b:Nat):Int)==(0:Int))))
def Px(a:Lv)(b:List Int)(c:Nat)(_:Unit) :aG:=⟨ah 31 [(1,.ptr 0 1 0 0),(5,.int .i64 (0:Int))],[(0,.vs [.imm a (.ns .u64 b) 1 1 0 c])],1⟩
def KQ(a:Nat)(b:Bool) :T ((Unit)⊕(dl)) :=
  .ask b
    (.leaf (.inr (.r0 (0:Int) a)))
    (.leaf (.inl ()))
def rS(a:Lv)(b:List Int)(c:Nat)(d:Nat) :aG:=⟨ah 31 [(1,.ptr 0 1 0 0),(5,.int .i64 ((d:Nat):Int))],[(0,.vs [.imm a (.ns .u64 b) 1 1 0 c])],1⟩
def CQ(a:Lv)(b:List Int)(c:Nat)(d:Nat) :aG:=⟨ah 31 [(1,.ptr 0 1 0 0),(5,.int .i64 ((d:Nat):Int))],[(0,.vs [.imm a (.ns .u64 b) 1 1 0 c])],1⟩
def KR:List Code:=cR (fe ((((((Pu.drop 2).drop 1).drop 2).take 1)).headD .skip))
def KS(b:List Int)(c:Nat)(a:Nat) :T ((Nat)⊕((Nat)⊕(dl))) :=
  .need (eY ((a:Nat):Int) c)<|.need (fm a (List.length b))<|.ask ((List.getD b a 0)==(0:Int))
    (.need (dZ .i64 (((a+1):Nat):Int))<|.leaf (.inl (a+1)))
    (.leaf (.inr (.inl a)))
def uB(a:List Int)(b:Nat) :Nat→Option ((Nat)⊕((Nat)⊕(dl))):=fun c =>
  (KS a b c).run
theorem KT(c:Lv)(a:List Int)(b:Nat)(d:Nat) :Sg prog [] KR (rS c a b d) (uB a b d) (rS c a b) (dD 0 (CQ c a b) tR):=by
  unfold uB;exact bp iW (rS c a b) [⟨[],[0],[1,5]⟩,⟨[],[0],[1,5]⟩]
def Py(a:Int) :aG:=⟨ah 31 [(2,.int .i64 a),(3,.int .i64 (0:Int))],[],0⟩
def KU(b:List Int)(c:Nat)(a:Nat) :T ((Int)⊕(dl)) :=
  .need (dZ .i64 (((64*a):Nat):Int))<|.need (eY ((a:Nat):Int) c)<|.need (fm a (List.length b))<|.need (ed (de (List.getD b a 0)))<|.need (dZ .i64 ((((64*a):Nat):Int)+(dx (de (List.getD b a 0)))))<|.leaf (.inl ((((64*a):Nat):Int)+(dx (de (List.getD b a 0)))))
def KV(a:Int) :T ((Empty)⊕(dl)) :=
  .leaf (.inr (.r0 a 0))
def tS(d:List Int) :Option dl:=kD (aQ ((KO d).run) fun (b,c,a) =>
  aQ ((KP b a).run) fun e =>
  aQ ((KQ b e).run) fun _ =>
  aQ (ej (uB c a) 0) fun f =>
  aQ ((KU c a f).run) fun g =>
  (KV g).run)
theorem Pz(a:Lv)(d:List Int){x:dl}(h:tS d=some x) :ag prog tG [] [.imm a (.ns .u64 d) 1 1 0 (List.length d)] (yx x) :=
  lE true yx tR h (Sg.cut 2 kN (bp iW (Pv a) [⟨[],[0],[1,4]⟩,⟨[],[0],[1,4]⟩]) (fun ⟨e,b,c⟩=>Sg.cut 1 kN (bp iW (Pw a e b c) [⟨[],[0],[1,4,14]⟩,⟨[],[0],[1,4,14]⟩]) (fun j=>Sg.cut 2 kN (bp iW (Px a b c) [⟨[],[],[2,3]⟩,⟨[],[0],[1,5]⟩]) (fun _=>Sg.cut 1 kN (Fr ⟨[],[0],[1,5]⟩ (rS a b c) (CQ a b c) 0 kN (Pt _) (fun f=>KT a b c f)) (fun k=>Sg.cut 1 kN (bp iW Py [⟨[],[],[2,3]⟩]) (fun l=>bp iW lb [⟨[],[],[2,3]⟩]))))))
    (fun x=>by cases x with | r0 g i=>exact kI [.int .i64 g,.int .i64 ((i:Nat):Int)])
def rT:Option dl→Bool
  | some _=>true
  | none=>false
def sS:Option dl→Int
  | some (.r0 x _)=>x
  | _=>0
def yy:Option dl→Nat
  | some (.r0 _ x)=>x
  | _=>0
theorem PA{x:Option dl}(h:rT x=true) :x=some (.r0 (sS x) (yy x)):=by
  unfold rT at h
  split at h<;>first | rfl | (cases h;done) | (rename_i y;cases y;rfl)
def Fx:aw:=bW tG (.cons (.ns .u64) .nil) fun t=>(fun q=>[⟨yx (.r0 (sS q) (yy q)),[rT q]⟩]) (tS t.1.2)
theorem Jc:aO prog Fx:=aS fun t=>(aT (fun h=>Pz t.1.1 t.1.2 (PA h)) bb)
def Fy:List aw:=Fx::NP
theorem ki:aN prog (aH Fy):=ao Jc iW
inductive dm where
  | r0 (a:Bool) (b:List Int) (c:Nat) (d:Nat) (e:Int)
def Fz:dm→AE×aG
  | .r0 a b c d e=>(.ret,⟨ah 37 [(2,.ptr 0 1 0 0)],[(0,.vs [.bool false a,.imm .free (.ns .u64 b) 1 1 c d,.int .i64 e])],1⟩)
theorem wE:jT Fz:=by intro x;cases x<;>(intro h;cases h)
def yz:dm→gd
  | .r0 a b c d e=>⟨.agg [.bool false a,.imm .free (.ns .u64 b) 1 1 c d,.int .i64 e],[]⟩
def PB(b:Bool)(c:Lv)(a:List Int)(d:Int) :(List Int)×Nat×Bool→aG:=fun (e,f,g)=>⟨ah 37 [(1,.ptr 0 1 0 0),(2,.ptr 1 1 0 0),(3,.imm .free (.ns .u64 e) 1 1 0 f)],[(0,.vs [.bool false b,.imm c (.ns .u64 a) 1 1 0 (List.length a),.int .i64 d]),(1,.vs [.bool false g,.nsl,.int .i64 (0:Int)])],2⟩
def PC(a:List Int) :T (((List Int)×Nat×Bool)⊕(dm)) :=
  .need (aU 0 (List.length a) a)<|.need (qE (nc (aa 0 (List.length a) a)))<|.leaf (.inl ((uy (nc (aa 0 (List.length a) a))),(uw (nc (aa 0 (List.length a) a))),false))
def PD(b:Bool)(c:Lv)(a:List Int)(d:Int)(e:List Int)(f:Nat)(g:Bool)(h:Int) :aG:=⟨ah 37 [(1,.ptr 0 1 0 0),(2,.ptr 1 1 0 0),(3,.imm .free (.ns .u64 e) 1 1 0 f),(5,.int .i64 h)],[(0,.vs [.bool false b,.imm c (.ns .u64 a) 1 1 0 (List.length a),.int .i64 d]),(1,.vs [.bool false g,.nsl,.int .i64 (0:Int)])],2⟩
def PE(b:List Int)(a:Nat) :T ((Int)⊕(dm)) :=
  .ask (((a:Nat):Int)==(0:Int))
    (.leaf (.inr (.r0 false ([]:List Int) 0 0 (0:Int))))
    (.need (aU 0 a b)<|.need (rT (tS (aa 0 a b)))<|.leaf (.inl (sS (tS (aa 0 a b)))))
def PF(b:Bool)(c:Lv)(a:List Int)(d:Int)(e:Bool)(f:Int) :(List Int)×Nat×Nat→aG:=fun (g,h,i)=>⟨ah 37 [(1,.ptr 0 1 0 0),(2,.ptr 1 1 0 0),(3,.imm .free (.ns .u64 g) 1 1 h i),(5,.int .i64 f)],[(0,.vs [.bool false b,.imm c (.ns .u64 a) 1 1 0 (List.length a),.int .i64 d]),(1,.vs [.bool false e,.nsl,.int .i64 (0:Int)])],2⟩
def PG(a:List Int)(b:Nat)(c:Int) :T (((List Int)×Nat×Nat)⊕(dm)) :=
  .need (aU 0 b a)<|.need (wA (sv (aa 0 b a) c))<|.leaf (.inl ((wB (sv (aa 0 b a) c)),(wC (sv (aa 0 b a) c)),(wD (sv (aa 0 b a) c))))
def PH(c:Bool)(a:Int)(b:Int)(d:List Int)(e:Nat)(f:Nat) :T ((Empty)⊕(dm)) :=
  .need (dZ .i64 (a+b))<|.leaf (.inr (.r0 c d e f (a+b)))
def an(d:Bool)(e:List Int)(f:Int) :Option dm:=kD (aQ ((PC e).run) fun (a,b,j) =>
  aQ ((PE a b).run) fun c =>
  aQ ((PG a b c).run) fun (g,h,i) =>
  (PH d f c g h i).run)
theorem PI(b:Bool)(d:Lv)(a:List Int)(c:Int){x:dm}(h:an b a c=some x) :ag prog yc [] [.agg [.bool false b,.imm d (.ns .u64 a) 1 1 0 (List.length a),.int .i64 c]] (yz x) :=
  lE true yz Fz h (Sg.cut 2 wE (bp ki (PB b d a c) [⟨[],[0,16],[1,2,3]⟩]) (fun ⟨f,g,e⟩=>Sg.cut 3 wE (bp ki (PD b d a c f g e) [⟨[(.cell 1 1,.fre 1 1 (.ns .u64 ([]:List Int)))],[1],[2]⟩,⟨[],[0,1],[1,2,3,5]⟩]) (fun i=>Sg.cut 1 wE (bp ki (PF b d a c e i) [⟨[],[0,1],[1,2,3,5]⟩]) (fun ⟨o,p,q⟩=>bp ki lb [⟨[],[1],[2]⟩]))))
    (fun x=>by cases x with | r0 j k l m n=>exact kI [.agg [.bool false j,.imm .free (.ns .u64 k) 1 1 l m,.int .i64 n]])
def dA:Option dm→Bool
  | some _=>true
  | none=>false
def ca:Option dm→Bool
  | some (.r0 x _ _ _ _)=>x
  | _=>false
def cd:Option dm→List Int
  | some (.r0 _ x _ _ _)=>x
  | _=>[]
def cg:Option dm→Nat
  | some (.r0 _ _ x _ _)=>x
  | _=>0
def ch:Option dm→Nat
  | some (.r0 _ _ _ x _)=>x
  | _=>0
def cj:Option dm→Int
  | some (.r0 _ _ _ _ x)=>x
  | _=>0
theorem PJ{x:Option dm}(h:dA x=true) :x=some (.r0 (ca x) (cd x) (cg x) (ch x) (cj x)):=by
  unfold dA at h
  split at h<;>first | rfl | (cases h;done) | (rename_i y;cases y;rfl)
def FB:aw:=bW yc (.cons (.agg (.cons .bool (.cons (.ns .u64) (.cons (.int .i64) .nil)))) .nil) fun t=>(fun q=>[⟨yz (.r0 (ca q) (cd q) (cg q) (ch q) (cj q)),[dA q]⟩]) (an t.1.1 t.1.2.1.2 t.1.2.2.1)
theorem Jd:aO prog FB:=aS fun t=>(aT (fun h=>PI t.1.1 t.1.2.1.1 t.1.2.1.2 t.1.2.2.1 (PJ h)) bb)
def FC:List aw:=FB::Fy
theorem oi:aN prog (aH FC):=ao Jd ki
inductive il where
  | r0 (a:Bool)
def Je:il→AE×aG
  | .r0 a=>(.ret,⟨ah 18 [(2,.bool false a)],[],0⟩)
theorem FD:jT Je:=by intro x;cases x<;>(intro h;cases h)
def Bq:il→gd
  | .r0 a=>⟨.bool false a,[]⟩
def Ud(b:Bool)(c:Lv)(a:List Int)(d:Int)(e:Nat) :aG:=⟨ah 18 [(1,.ptr 0 1 0 0),(4,.int .i64 ((e:Nat):Int))],[(0,.vs [.bool false b,.imm c (.ns .u64 a) 1 1 0 (List.length a),.int .i64 d])],1⟩
def Ue(a:List Int) :T ((Nat)⊕(il)) :=
  .need (aU 0 (List.length a) a)<|.need (qE (nc (aa 0 (List.length a) a)))<|.leaf (.inl (ux (nc (aa 0 (List.length a) a))))
def Uf(a:Bool) :aG:=⟨ah 18 [(2,.bool false a)],[],0⟩
def Ug(a:Int)(b:Nat) :T ((Bool)⊕(il)) :=
  .ask (((b:Nat):Int)==(0:Int))
    (.ask (decide (a≥(-262144:Int)))
      (.leaf (.inl (decide (a≤(262144:Int)))))
      (.leaf (.inl false)))
    (.leaf (.inl false))
def Uh(a:Bool) :T ((Empty)⊕(il)) :=
  .leaf (.inr (.r0 a))
def db(a:List Int)(b:Int) :Option il:=kD (aQ ((Ue a).run) fun c =>
  aQ ((Ug b c).run) fun d =>
  (Uh d).run)
theorem Ui(c:Bool)(d:Lv)(a:List Int)(b:Int){x:il}(h:db a b=some x) :ag prog A8 [] [.agg [.bool false c,.imm d (.ns .u64 a) 1 1 0 (List.length a),.int .i64 b]] (Bq x) :=
  lE true Bq Je h (Sg.cut 2 FD (bp oi (Ud c d a b) [⟨[],[0],[1,4]⟩]) (fun f=>Sg.cut 1 FD (bp oi Uf [⟨[],[],[2]⟩,⟨[],[],[2]⟩,⟨[],[],[2]⟩]) (fun g=>bp oi lb [⟨[],[],[2]⟩])))
    (fun x=>by cases x with | r0 e=>exact kI [.bool false e])
def fQ:Option il→Bool
  | some _=>true
  | none=>false
def ez:Option il→Bool
  | some (.r0 x)=>x
  | _=>false
theorem Uj{x:Option il}(h:fQ x=true) :x=some (.r0 (ez x)):=by
  unfold fQ at h
  split at h<;>first | rfl | (cases h;done) | (rename_i y;cases y;rfl)
def Jf:aw:=bW A8 (.cons (.agg (.cons .bool (.cons (.ns .u64) (.cons (.int .i64) .nil)))) .nil) fun t=>(fun q=>[⟨Bq (.r0 (ez q)),[fQ q]⟩]) (db t.1.2.1.2 t.1.2.2.1)
theorem KW:aO prog Jf:=aS fun t=>(aT (fun h=>Ui t.1.1 t.1.2.1.1 t.1.2.1.2 t.1.2.2.1 (Uj h)) bb)
def Jg:List aw:=Jf::FC
theorem qb:aN prog (aH Jg):=ao KW oi
inductive cO where
  | r0 (a:Nat) (b:Int) (c:List Int) (d:Nat) (e:List Int) (f:Nat)
def CR:cO→AE×aG
  | .r0 a b c d e f=>(.ret,⟨ah 57 [(4,.ptr 0 1 0 0),(5,.int .i64 ((a:Nat):Int))],[(0,.vs [.int .i64 b,.imm .free (.ns .u64 c) 1 1 0 d,.imm .free (.ns .u64 e) 1 1 0 f])],1⟩)
theorem Ag:jT CR:=by intro x;cases x<;>(intro h;cases h)
def wF:cO→gd
  | .r0 a b c d e f=>⟨.tup [.agg [.int .i64 b,.imm .free (.ns .u64 c) 1 1 0 d,.imm .free (.ns .u64 e) 1 1 0 f],.int .i64 ((a:Nat):Int)],[]⟩
def KX(c:Bool)(d:Lv)(a:List Int)(e:Int)(f:Bool)(g:Lv)(b:List Int)(h:Int)(i:Int) :aG:=⟨ah 57 [(2,.ptr 0 1 0 0),(3,.ptr 1 1 0 0),(4,.ptr 2 1 0 0),(6,.ptr 3 1 0 0)],[(0,.vs [.bool false c,.imm d (.ns .u64 a) 1 1 0 (List.length a),.int .i64 e]),(1,.vs [.bool false f,.imm g (.ns .u64 b) 1 1 0 (List.length b),.int .i64 h]),(2,.vs [.int .i64 (0:Int),.nsl,.nsl]),(3,.vs [.int .i64 i,.nsl,.nsl])],4⟩
def KY(c:List Int)(a:Int)(d:List Int)(b:Int) :T ((Int)⊕(cO)) :=
  .ask ((((List.length c):Nat):Int)==(0:Int))
    (.leaf (.inl b))
    (.ask ((((List.length d):Nat):Int)==(0:Int))
      (.leaf (.inl a))
      (.need (dZ .i64 ((nH a b)-(xG a b)))<|.ask (decide (((nH a b)-(xG a b))>(262144:Int)))
        (.leaf (.inr (.r0 3 (0:Int) ([]:List Int) 0 ([]:List Int) 0)))
        (.leaf (.inl (xG a b)))))
def KZ(a:Int) :(List Int)×Nat×(List Int)×Nat→aG:=fun (b,c,d,e)=>⟨ah 57 [(4,.ptr 0 1 0 0),(6,.ptr 1 1 0 0)],[(0,.vs [.int .i64 (0:Int),.nsl,.nsl]),(1,.vs [.int .i64 a,.imm .free (.ns .u64 b) 1 1 0 c,.imm .free (.ns .u64 d) 1 1 0 e])],2⟩
def K0(c:List Int)(e:Int)(a:List Int)(d:Int)(b:Int) :T (((List Int)×Nat×(List Int)×Nat)⊕(cO)) :=
  .ask ((((List.length c):Nat):Int)==(0:Int))
    (.ask ((((List.length a):Nat):Int)==(0:Int))
      (.leaf (.inl (([]:List Int),0,([]:List Int),0)))
      (.need (dZ .i64 (d-b))<|.need (aU 0 (List.length a) a)<|.need (py (gH (aa 0 (List.length a) a) (d-b)))<|.leaf (.inl (([]:List Int),0,(kL (gH (aa 0 (List.length a) a) (d-b))),(kM (gH (aa 0 (List.length a) a) (d-b)))))))
    (.need (dZ .i64 (e-b))<|.need (aU 0 (List.length c) c)<|.need (py (gH (aa 0 (List.length c) c) (e-b)))<|.ask ((((List.length a):Nat):Int)==(0:Int))
      (.leaf (.inl ((kL (gH (aa 0 (List.length c) c) (e-b))),(kM (gH (aa 0 (List.length c) c) (e-b))),([]:List Int),0)))
      (.need (dZ .i64 (d-b))<|.need (aU 0 (List.length a) a)<|.need (py (gH (aa 0 (List.length a) a) (d-b)))<|.leaf (.inl ((kL (gH (aa 0 (List.length c) c) (e-b))),(kM (gH (aa 0 (List.length c) c) (e-b))),(kL (gH (aa 0 (List.length a) a) (d-b))),(kM (gH (aa 0 (List.length a) a) (d-b)))))))
def K1(a:Int)(b:List Int)(c:Nat)(d:List Int)(e:Nat) :T ((Empty)⊕(cO)) :=
  .leaf (.inr (.r0 0 a b c d e))
def cw(a:List Int)(b:Int)(c:List Int)(d:Int) :Option cO:=kD (aQ ((KY a b c d).run) fun e =>
  aQ ((K0 a b c d e).run) fun (f,g,h,i) =>
  (K1 e f g h i).run)
theorem K2(e:Bool)(f:Lv)(a:List Int)(c:Int)(g:Bool)(i:Lv)(b:List Int)(d:Int){x:cO}(h:cw a c b d=some x) :ag prog vL [] [.agg [.bool false e,.imm f (.ns .u64 a) 1 1 0 (List.length a),.int .i64 c],.agg [.bool false g,.imm i (.ns .u64 b) 1 1 0 (List.length b),.int .i64 d]] (wF x) :=
  lE true wF CR h (Sg.cut 3 Ag (bp qb (KX e f a c g i b d) [⟨[],[0,16,32,176],[2,3,4,6]⟩,⟨[],[0,16,32,176],[2,3,4,6]⟩,⟨[(.cell 32 1,.fre 1 1 (.ns .u64 ([]:List Int))),(.cell 32 2,.fre 1 1 (.ns .u64 ([]:List Int)))],[32],[4,5]⟩,⟨[],[0,16,32,176],[2,3,4,6]⟩]) (fun j=>Sg.cut 2 Ag (bp qb (KZ j) [⟨[(.cell 3 1,.fre 1 1 (.ns .u64 ([]:List Int))),(.cell 3 2,.fre 1 1 (.ns .u64 ([]:List Int)))],[2,3],[4,6]⟩,⟨[(.cell 3 1,.fre 1 1 (.ns .u64 ([]:List Int)))],[2,3],[4,6]⟩,⟨[(.cell 3 2,.fre 1 1 (.ns .u64 ([]:List Int)))],[2,3],[4,6]⟩,⟨[],[2,3],[4,6]⟩]) (fun ⟨q,r,s,t⟩=>bp qb lb [⟨[],[0],[4,5]⟩])))
    (fun x=>by cases x with | r0 k l m n o p=>exact kI [.agg [.int .i64 l,.imm .free (.ns .u64 m) 1 1 0 n,.imm .free (.ns .u64 o) 1 1 0 p],.int .i64 ((k:Nat):Int)])
def lG:Option cO→Bool
  | some _=>true
  | none=>false
def my:Option cO→Nat
  | some (.r0 x _ _ _ _ _)=>x
  | _=>0
def mz:Option cO→Int
  | some (.r0 _ x _ _ _ _)=>x
  | _=>0
def mA:Option cO→List Int
  | some (.r0 _ _ x _ _ _)=>x
  | _=>[]
def mB:Option cO→Nat
  | some (.r0 _ _ _ x _ _)=>x
  | _=>0
def mC:Option cO→List Int
  | some (.r0 _ _ _ _ x _)=>x
  | _=>[]
def mD:Option cO→Nat
  | some (.r0 _ _ _ _ _ x)=>x
  | _=>0
theorem K3{x:Option cO}(h:lG x=true) :x=some (.r0 (my x) (mz x) (mA x) (mB x) (mC x) (mD x)):=by
  unfold lG at h
  split at h<;>first | rfl | (cases h;done) | (rename_i y;cases y;rfl)
def CS:aw:=bW vL (.cons (.agg (.cons .bool (.cons (.ns .u64) (.cons (.int .i64) .nil)))) (.cons (.agg (.cons .bool (.cons (.ns .u64) (.cons (.int .i64) .nil)))) .nil)) fun t=>(fun q=>[⟨wF (.r0 (my q) (mz q) (mA q) (mB q) (mC q) (mD q)),[lG q]⟩]) (cw t.1.2.1.2 t.1.2.2.1 t.2.1.2.1.2 t.2.1.2.2.1)
theorem Gh:aO prog CS:=aS fun t=>(aT (fun h=>K2 t.1.1 t.1.2.1.1 t.1.2.1.2 t.1.2.2.1 t.2.1.1 t.2.1.2.1.1 t.2.1.2.1.2 t.2.1.2.2.1 (K3 h)) bb)
def CT:List aw:=CS::Jg
theorem mE:aN prog (aH CT):=ao Gh qb
inductive dn where
  | r0 (a:Nat) (b:Bool) (c:List Int) (d:Nat) (e:Nat) (f:Int)
def FE:dn→AE×aG
  | .r0 a b c d e f=>(.ret,⟨ah 11 [(2,.ptr 0 1 0 0),(3,.int .i64 ((a:Nat):Int))],[(0,.vs [.bool false b,.imm .free (.ns .u64 c) 1 1 d e,.int .i64 f])],1⟩)
theorem CU:jT FE:=by intro x;cases x<;>(intro h;cases h)
def yA:dn→gd
  | .r0 a b c d e f=>⟨.tup [.agg [.bool false b,.imm .free (.ns .u64 c) 1 1 d e,.int .i64 f],.int .i64 ((a:Nat):Int)],[]⟩
def PK:Bool×(List Int)×Nat×Nat×Int×Bool→aG:=fun (a,b,c,d,e,f)=>⟨ah 11 [(1,.ptr 0 1 0 0),(2,.ptr 1 1 0 0)],[(0,.vs [.bool false a,.imm .free (.ns .u64 b) 1 1 c d,.int .i64 e]),(1,.vs [.bool false f,.nsl,.int .i64 (0:Int)])],2⟩
def PL(b:Bool)(a:List Int)(c:Int) :T ((Bool×(List Int)×Nat×Nat×Int×Bool)⊕(dn)) :=
  .need (aU 0 (List.length a) a)<|.need (dA (an b (aa 0 (List.length a) a) c))<|.leaf (.inl ((ca (an b (aa 0 (List.length a) a) c)),(cd (an b (aa 0 (List.length a) a) c)),(cg (an b (aa 0 (List.length a) a) c)),(ch (an b (aa 0 (List.length a) a) c)),(cj (an b (aa 0 (List.length a) a) c)),false))
def PM(a:Bool)(b:List Int)(c:Nat)(d:Nat)(e:Int)(f:Bool)(g:Bool) :aG:=⟨ah 11 [(1,.ptr 0 1 0 0),(2,.ptr 1 1 0 0),(8,.bool false g)],[(0,.vs [.bool false a,.imm .free (.ns .u64 b) 1 1 c d,.int .i64 e]),(1,.vs [.bool false f,.nsl,.int .i64 (0:Int)])],2⟩
def PN(a:List Int)(b:Nat)(c:Nat)(d:Int) :T ((Bool)⊕(dn)) :=
  .need (aU b c a)<|.need (fQ (db (aa b c a) d))<|.leaf (.inl (!(ez (db (aa b c a) d))))
def PO(a:Bool)(b:List Int)(c:Nat)(d:Nat)(e:Int)(f:Bool) :T ((Empty)⊕(dn)) :=
  .ask f
    (.leaf (.inr (.r0 3 false ([]:List Int) 0 0 (0:Int))))
    (.leaf (.inr (.r0 0 a b c d e)))
def bO(e:Bool)(f:List Int)(g:Int) :Option dn:=kD (aQ ((PL e f g).run) fun (h,a,b,c,d,j) =>
  aQ ((PN a b c d).run) fun i =>
  (PO h a b c d i).run)
theorem PP(b:Bool)(d:Lv)(a:List Int)(c:Int){x:dn}(h:bO b a c=some x) :ag prog yd [] [.agg [.bool false b,.imm d (.ns .u64 a) 1 1 0 (List.length a),.int .i64 c]] (yA x) :=
  lE true yA FE h (Sg.cut 2 CU (bp mE PK [⟨[],[0,16],[1,2]⟩]) (fun ⟨e,f,g,i,j,k⟩=>Sg.cut 1 CU (bp mE (PM e f g i j k) [⟨[],[0,1],[1,2,8]⟩]) (fun r=>bp mE lb [⟨[(.cell 1 1,.fre 1 1 (.ns .u64 ([]:List Int)))],[1],[2,3]⟩,⟨[],[1],[2,3]⟩])))
    (fun x=>by cases x with | r0 l m n o p q=>exact kI [.agg [.bool false m,.imm .free (.ns .u64 n) 1 1 o p,.int .i64 q],.int .i64 ((l:Nat):Int)])
def kO:Option dn→Bool
  | some _=>true
  | none=>false
def kj:Option dn→Nat
  | some (.r0 x _ _ _ _ _)=>x
  | _=>0
def km:Option dn→Bool
  | some (.r0 _ x _ _ _ _)=>x
  | _=>false
def ko:Option dn→List Int
  | some (.r0 _ _ x _ _ _)=>x
  | _=>[]
def kp:Option dn→Nat
  | some (.r0 _ _ _ x _ _)=>x
  | _=>0
def kq:Option dn→Nat
  | some (.r0 _ _ _ _ x _)=>x
  | _=>0
def kr:Option dn→Int
  | some (.r0 _ _ _ _ _ x)=>x
  | _=>0
theorem PQ{x:Option dn}(h:kO x=true) :x=some (.r0 (kj x) (km x) (ko x) (kp x) (kq x) (kr x)):=by
  unfold kO at h
  split at h<;>first | rfl | (cases h;done) | (rename_i y;cases y;rfl)
def FF:aw:=bW yd (.cons (.agg (.cons .bool (.cons (.ns .u64) (.cons (.int .i64) .nil)))) .nil) fun t=>(fun q=>[⟨yA (.r0 (kj q) (km q) (ko q) (kp q) (kq q) (kr q)),[kO q]⟩]) (bO t.1.1 t.1.2.1.2 t.1.2.2.1)
theorem Jh:aO prog FF:=aS fun t=>(aT (fun h=>PP t.1.1 t.1.2.1.1 t.1.2.1.2 t.1.2.2.1 (PQ h)) bb)
def FG:List aw:=FF::CT
theorem sT:aN prog (aH FG):=ao Jh mE
inductive df where
  | r0 (a:Nat) (b:Bool) (c:List Int) (d:Nat) (e:Nat) (f:Int)
def CV:df→AE×aG
  | .r0 a b c d e f=>(.ret,⟨ah 21 [(7,.ptr 0 1 0 0),(8,.int .i64 ((a:Nat):Int))],[(0,.vs [.bool false b,.imm .free (.ns .u64 c) 1 1 d e,.int .i64 f])],1⟩)
theorem K4:jT CV:=by intro x;cases x<;>(intro h;cases h)
def wG:df→gd
  | .r0 a b c d e f=>⟨.tup [.agg [.bool false b,.imm .free (.ns .u64 c) 1 1 d e,.int .i64 f],.int .i64 ((a:Nat):Int)],[]⟩
def K5:Nat×Bool×(List Int)×Nat×Nat×Int→aG:=fun (a,b,c,d,e,f)=>⟨ah 21 [(7,.ptr 0 1 0 0),(8,.int .i64 ((a:Nat):Int))],[(0,.vs [.bool false b,.imm .free (.ns .u64 c) 1 1 d e,.int .i64 f])],1⟩
def K6(b:Bool)(a:List Int)(d:Int)(c:Int) :T ((Nat×Bool×(List Int)×Nat×Nat×Int)⊕(df)) :=
  .ask (d != (0:Int))
    (.leaf (.inr (.r0 3 false ([]:List Int) 0 0 (0:Int))))
    (.need (aU 0 (List.length a) a)<|.need (kO (bO b (aa 0 (List.length a) a) c))<|.leaf (.inl ((kj (bO b (aa 0 (List.length a) a) c)),(km (bO b (aa 0 (List.length a) a) c)),(ko (bO b (aa 0 (List.length a) a) c)),(kp (bO b (aa 0 (List.length a) a) c)),(kq (bO b (aa 0 (List.length a) a) c)),(kr (bO b (aa 0 (List.length a) a) c)))))
def K7(a:Nat)(b:Bool)(c:List Int)(d:Nat)(e:Nat)(f:Int) :T ((Empty)⊕(df)) :=
  .leaf (.inr (.r0 a b c d e f))
def bA(a:Bool)(b:List Int)(c:Int)(d:Int) :Option df:=kD (aQ ((K6 a b c d).run) fun (e,f,g,h,i,j) =>
  (K7 e f g h i j).run)
theorem K8(b:Bool)(g:Lv)(a:List Int)(c:Int)(i:Lv)(d:Int)(j:Lv)(e:List Int)(k:Lv)(f:List Int){x:df}(h:bA b a c d=some x) :ag prog kG [] [.bool false b,.imm g (.ns .u64 a) 1 1 0 (List.length a),.int .i64 c,.iptr i (.vs [.int .i64 d,.imm j (.ns .u64 e) 1 1 0 (List.length e),.imm k (.ns .u64 f) 1 1 0 (List.length f)]) 1 0 0] (wG x) :=
  lE false wG CV h (Sg.cut 4 K4 (bp sT K5 [⟨[(.cell 0 1,.fre 1 1 (.ns .u64 ([]:List Int)))],[0],[7,8]⟩,⟨[],[0],[7,8]⟩]) (fun ⟨r,s,t,u,v,w⟩=>bp sT lb [⟨[],[0],[7,8]⟩]))
    (fun x=>by cases x with | r0 l m n o p q=>exact kI [.agg [.bool false m,.imm .free (.ns .u64 n) 1 1 o p,.int .i64 q],.int .i64 ((l:Nat):Int)])
def jQ:Option df→Bool
  | some _=>true
  | none=>false
def jt:Option df→Nat
  | some (.r0 x _ _ _ _ _)=>x
  | _=>0
def ju:Option df→Bool
  | some (.r0 _ x _ _ _ _)=>x
  | _=>false
def jv:Option df→List Int
  | some (.r0 _ _ x _ _ _)=>x
  | _=>[]
def jw:Option df→Nat
  | some (.r0 _ _ _ x _ _)=>x
  | _=>0
def jx:Option df→Nat
  | some (.r0 _ _ _ _ x _)=>x
  | _=>0
def jy:Option df→Int
  | some (.r0 _ _ _ _ _ x)=>x
  | _=>0
theorem K9{x:Option df}(h:jQ x=true) :x=some (.r0 (jt x) (ju x) (jv x) (jw x) (jx x) (jy x)):=by
  unfold jQ at h
  split at h<;>first | rfl | (cases h;done) | (rename_i y;cases y;rfl)
def CW:aw:=bW kG (.cons .bool (.cons (.ns .u64) (.cons (.int .i64) (.cons (.ivs (.cons (.int .i64) (.cons (.ns .u64) (.cons (.ns .u64) .nil))) 1 0 0) .nil)))) fun t=>(fun q=>[⟨wG (.r0 (jt q) (ju q) (jv q) (jw q) (jx q) (jy q)),[jQ q]⟩]) (bA t.1 t.2.1.2 t.2.2.1 t.2.2.2.1.2.1)
theorem Gi:aO prog CW:=aS fun t=>(aT (fun h=>K8 t.1 t.2.1.1 t.2.1.2 t.2.2.1 t.2.2.2.1.1 t.2.2.2.1.2.1 t.2.2.2.1.2.2.1.1 t.2.2.2.1.2.2.1.2 t.2.2.2.1.2.2.2.1.1 t.2.2.2.1.2.2.2.1.2 (K9 h)) bb)
def CX:List aw:=CW::FG
theorem ee:aN prog (aH CX):=ao Gi sT
inductive cC where
  | r0 (a:Nat) (b:Bool) (c:List Int) (d:Nat) (e:Nat) (f:Int)
def Ji:cC→AE×aG
  | .r0 a b c d e f=>(.ret,⟨ah 97 [(4,.ptr 0 1 0 0),(5,.int .i64 ((a:Nat):Int))],[(0,.vs [.bool false b,.imm .free (.ns .u64 c) 1 1 d e,.int .i64 f])],1⟩)
theorem ku:jT Ji:=by intro x;cases x<;>(intro h;cases h)
def Br:cC→gd
  | .r0 a b c d e f=>⟨.tup [.agg [.bool false b,.imm .free (.ns .u64 c) 1 1 d e,.int .i64 f],.int .i64 ((a:Nat):Int)],[]⟩
def Uk(a:Lv)(b:Lv) :Nat×Bool×(List Int)×Nat×Nat×Int×Bool×(List Int)×Nat×Nat×Int×Bool→aG:=fun (c,d,e,f,g,h,i,j,k,l,m,n)=>⟨ah 97 [(2,.ptr 0 1 0 0),(3,.ptr 1 1 0 0),(4,.ptr 2 1 0 0),(6,.int .i64 ((c:Nat):Int))],[(0,.vs [.bool false d,.imm a (.ns .u64 e) 1 1 f g,.int .i64 h]),(1,.vs [.bool false i,.imm b (.ns .u64 j) 1 1 k l,.int .i64 m]),(2,.vs [.bool false n,.nsl,.int .i64 (0:Int)])],3⟩
def Ul(d : Bool)(a : List Int)(c : Int)(f : Bool)(b : List Int)(e : Int) : T ((Nat × Bool × (List Int) × Nat × Nat × Int × Bool × (List Int) × Nat × Nat × Int × Bool) ⊕ (cC)) :=
  .ask (decide ((0:Int)<(2:Int)))
    (.need (eY (0:Int) 2)<|.need (aU 0 (List.length a) a)<|.need (fQ (db (aa 0 (List.length a) a) c))<|.ask (!(ez (db (aa 0 (List.length a) a) c)))
      (.leaf (.inl (2,d,a,0,(List.length a),c,f,b,0,(List.length b),e,false)))
      (.need (aU 0 (List.length a) a)<|.need (dA (an d (aa 0 (List.length a) a) c))<|.need (dZ .i64 (1:Int))<|.ask (decide ((1:Int)<(2:Int)))
        (.need (eY (1:Int) 2)<|.need (aU 0 (List.length b) b)<|.need (fQ (db (aa 0 (List.length b) b) e))<|.ask (!(ez (db (aa 0 (List.length b) b) e)))
          (.leaf (.inl (2,(ca (an d (aa 0 (List.length a) a) c)),(cd (an d (aa 0 (List.length a) a) c)),(cg (an d (aa 0 (List.length a) a) c)),(ch (an d (aa 0 (List.length a) a) c)),(cj (an d (aa 0 (List.length a) a) c)),f,b,0,(List.length b),e,false)))
          (.need (aU 0 (List.length b) b)<|.need (dA (an f (aa 0 (List.length b) b) e))<|.need (dZ .i64 (2:Int))<|.ask (decide ((2:Int)<(2:Int)))
            (.fail)
            (.leaf (.inl (0,(ca (an d (aa 0 (List.length a) a) c)),(cd (an d (aa 0 (List.length a) a) c)),(cg (an d (aa 0 (List.length a) a) c)),(ch (an d (aa 0 (List.length a) a) c)),(cj (an d (aa 0 (List.length a) a) c)),(ca (an f (aa 0 (List.length b) b) e)),(cd (an f (aa 0 (List.length b) b) e)),(cg (an f (aa 0 (List.length b) b) e)),(ch (an f (aa 0 (List.length b) b) e)),(cj (an f (aa 0 (List.length b) b) e)),false)))))
        (.fail)))
    (.fail)
def Um(a:Lv)(b:Lv)(c:Bool)(d:List Int)(e:Nat)(f:Nat)(g:Int)(h:Bool)(i:List Int)(j:Nat)(k:Nat)(l:Int)(m:Bool) :Nat×Int×(List Int)×Nat×(List Int)×Nat→aG:=fun (n,o,p,q,r,s)=>⟨ah 97 [(2,.ptr 0 1 0 0),(3,.ptr 1 1 0 0),(4,.ptr 2 1 0 0),(7,.ptr 3 1 0 0),(8,.int .i64 ((n:Nat):Int))],[(0,.vs [.bool false c,.imm a (.ns .u64 d) 1 1 e f,.int .i64 g]),(1,.vs [.bool false h,.imm b (.ns .u64 i) 1 1 j k,.int .i64 l]),(2,.vs [.bool false m,.nsl,.int .i64 (0:Int)]),(3,.vs [.int .i64 o,.imm .free (.ns .u64 p) 1 1 0 q,.imm .free (.ns .u64 r) 1 1 0 s])],4⟩
def PR(i:Nat)(a:List Int)(b:Nat)(c:Nat)(g:Int)(d:List Int)(e:Nat)(f:Nat)(h:Int) :T ((Nat×Int×(List Int)×Nat×(List Int)×Nat)⊕(cC)) :=
  .ask (((i:Nat):Int) != (0:Int))
    (.leaf (.inr (.r0 i false ([]:List Int) 0 0 (0:Int))))
    (.need (aU b c a)<|.need (aU e f d)<|.need (lG (cw (aa b c a) g (aa e f d) h))<|.leaf (.inl ((my (cw (aa b c a) g (aa e f d) h)),(mz (cw (aa b c a) g (aa e f d) h)),(mA (cw (aa b c a) g (aa e f d) h)),(mB (cw (aa b c a) g (aa e f d) h)),(mC (cw (aa b c a) g (aa e f d) h)),(mD (cw (aa b c a) g (aa e f d) h)))))
def Un(a:Lv)(b:Lv)(c:Bool)(d:List Int)(e:Nat)(f:Nat)(g:Int)(h:Bool)(i:List Int)(j:Nat)(k:Nat)(l:Int)(m:Bool)(n:Int)(o:List Int)(p:Nat)(q:List Int)(r:Nat)(_:Unit) :aG:=⟨ah 97 [(2,.ptr 0 1 0 0),(3,.ptr 1 1 0 0),(4,.ptr 2 1 0 0),(7,.ptr 3 1 0 0),(9,.fn (.func kG) [] [.ptr 3 1 0 0])],[(0,.vs [.bool false c,.imm a (.ns .u64 d) 1 1 e f,.int .i64 g]),(1,.vs [.bool false h,.imm b (.ns .u64 i) 1 1 j k,.int .i64 l]),(2,.vs [.bool false m,.nsl,.int .i64 (0:Int)]),(3,.vs [.int .i64 n,.imm .free (.ns .u64 o) 1 1 0 p,.imm .free (.ns .u64 q) 1 1 0 r])],4⟩
def PS(e:Bool)(h:Bool)(g:Nat)(f:Int)(a:List Int)(b:Nat)(c:List Int)(d:Nat) :T ((Unit)⊕(cC)) :=
  .ask (((g:Nat):Int) != (0:Int))
    (.leaf (.inr (.r0 g false ([]:List Int) 0 0 (0:Int))))
    (.ask (e==h)
      (.need (aU 0 b a)<|.need (aU 0 d c)<|.need (vX (bz (aa 0 b a) (aa 0 d c)))<|.need (aU (fF (bz (aa 0 b a) (aa 0 d c))) (fG (bz (aa 0 b a) (aa 0 d c))) (fH (bz (aa 0 b a) (aa 0 d c))))<|.need (aU 0 b a)<|.need (aU 0 d c)<|.need (jQ (bA e (aa (fF (bz (aa 0 b a) (aa 0 d c))) (fG (bz (aa 0 b a) (aa 0 d c))) (fH (bz (aa 0 b a) (aa 0 d c)))) (((gl (bz (aa 0 b a) (aa 0 d c))):Nat):Int) f))<|.leaf (.inr (.r0 (jt (bA e (aa (fF (bz (aa 0 b a) (aa 0 d c))) (fG (bz (aa 0 b a) (aa 0 d c))) (fH (bz (aa 0 b a) (aa 0 d c)))) (((gl (bz (aa 0 b a) (aa 0 d c))):Nat):Int) f)) (ju (bA e (aa (fF (bz (aa 0 b a) (aa 0 d c))) (fG (bz (aa 0 b a) (aa 0 d c))) (fH (bz (aa 0 b a) (aa 0 d c)))) (((gl (bz (aa 0 b a) (aa 0 d c))):Nat):Int) f)) (jv (bA e (aa (fF (bz (aa 0 b a) (aa 0 d c))) (fG (bz (aa 0 b a) (aa 0 d c))) (fH (bz (aa 0 b a) (aa 0 d c)))) (((gl (bz (aa 0 b a) (aa 0 d c))):Nat):Int) f)) (jw (bA e (aa (fF (bz (aa 0 b a) (aa 0 d c))) (fG (bz (aa 0 b a) (aa 0 d c))) (fH (bz (aa 0 b a) (aa 0 d c)))) (((gl (bz (aa 0 b a) (aa 0 d c))):Nat):Int) f)) (jx (bA e (aa (fF (bz (aa 0 b a) (aa 0 d c))) (fG (bz (aa 0 b a) (aa 0 d c))) (fH (bz (aa 0 b a) (aa 0 d c)))) (((gl (bz (aa 0 b a) (aa 0 d c))):Nat):Int) f)) (jy (bA e (aa (fF (bz (aa 0 b a) (aa 0 d c))) (fG (bz (aa 0 b a) (aa 0 d c))) (fH (bz (aa 0 b a) (aa 0 d c)))) (((gl (bz (aa 0 b a) (aa 0 d c))):Nat):Int) f)))))
      (.leaf (.inl ())))
def Uo(a:Lv)(b:Lv)(c:Bool)(d:List Int)(e:Nat)(f:Nat)(g:Int)(h:Bool)(i:List Int)(j:Nat)(k:Nat)(l:Int)(m:Bool)(n:Int)(o:List Int)(p:Nat)(q:List Int)(r:Nat)(s:Int) :aG:=⟨ah 97 [(2,.ptr 0 1 0 0),(3,.ptr 1 1 0 0),(4,.ptr 2 1 0 0),(7,.ptr 3 1 0 0),(9,.fn (.func kG) [] [.ptr 3 1 0 0]),(12,.int .i64 s)],[(0,.vs [.bool false c,.imm a (.ns .u64 d) 1 1 e f,.int .i64 g]),(1,.vs [.bool false h,.imm b (.ns .u64 i) 1 1 j k,.int .i64 l]),(2,.vs [.bool false m,.nsl,.int .i64 (0:Int)]),(3,.vs [.int .i64 n,.imm .free (.ns .u64 o) 1 1 0 p,.imm .free (.ns .u64 q) 1 1 0 r])],4⟩
def PT(a:List Int)(b:Nat)(c:List Int)(d:Nat) :T ((Int)⊕(cC)) :=
  .need (aU 0 b a)<|.need (aU 0 d c)<|.need (sO (so (aa 0 b a) (aa 0 d c)))<|.leaf (.inl (rQ (so (aa 0 b a) (aa 0 d c))))
def Up(a:Lv)(b:Bool)(c:List Int)(d:Nat)(e:Nat)(f:Int)(g:Bool)(h:Int)(i:List Int)(j:Nat)(k:List Int)(l:Nat)(_:Unit) :aG:=⟨ah 97 [(2,.ptr 0 1 0 0),(4,.ptr 1 1 0 0),(7,.ptr 2 1 0 0),(9,.fn (.func kG) [] [.ptr 2 1 0 0])],[(0,.vs [.bool false b,.imm a (.ns .u64 c) 1 1 d e,.int .i64 f]),(1,.vs [.bool false g,.nsl,.int .i64 (0:Int)]),(2,.vs [.int .i64 h,.imm .free (.ns .u64 i) 1 1 0 j,.imm .free (.ns .u64 k) 1 1 0 l])],3⟩
def PU(e:Bool)(f:Int)(a:List Int)(b:Nat)(c:List Int)(d:Nat)(g:Int) :T ((Unit)⊕(cC)) :=
  .ask (decide (g<(0:Int)))
    (.need (aU 0 d c)<|.need (aU 0 b a)<|.need (sQ (bk (aa 0 d c) (aa 0 b a)))<|.need (aU (eH (bk (aa 0 d c) (aa 0 b a))) (eI (bk (aa 0 d c) (aa 0 b a))) (eG (bk (aa 0 d c) (aa 0 b a))))<|.need (aU 0 b a)<|.need (aU 0 d c)<|.need (jQ (bA e (aa (eH (bk (aa 0 d c) (aa 0 b a))) (eI (bk (aa 0 d c) (aa 0 b a))) (eG (bk (aa 0 d c) (aa 0 b a)))) (((fI (bk (aa 0 d c) (aa 0 b a))):Nat):Int) f))<|.leaf (.inr (.r0 (jt (bA e (aa (eH (bk (aa 0 d c) (aa 0 b a))) (eI (bk (aa 0 d c) (aa 0 b a))) (eG (bk (aa 0 d c) (aa 0 b a)))) (((fI (bk (aa 0 d c) (aa 0 b a))):Nat):Int) f)) (ju (bA e (aa (eH (bk (aa 0 d c) (aa 0 b a))) (eI (bk (aa 0 d c) (aa 0 b a))) (eG (bk (aa 0 d c) (aa 0 b a)))) (((fI (bk (aa 0 d c) (aa 0 b a))):Nat):Int) f)) (jv (bA e (aa (eH (bk (aa 0 d c) (aa 0 b a))) (eI (bk (aa 0 d c) (aa 0 b a))) (eG (bk (aa 0 d c) (aa 0 b a)))) (((fI (bk (aa 0 d c) (aa 0 b a))):Nat):Int) f)) (jw (bA e (aa (eH (bk (aa 0 d c) (aa 0 b a))) (eI (bk (aa 0 d c) (aa 0 b a))) (eG (bk (aa 0 d c) (aa 0 b a)))) (((fI (bk (aa 0 d c) (aa 0 b a))):Nat):Int) f)) (jx (bA e (aa (eH (bk (aa 0 d c) (aa 0 b a))) (eI (bk (aa 0 d c) (aa 0 b a))) (eG (bk (aa 0 d c) (aa 0 b a)))) (((fI (bk (aa 0 d c) (aa 0 b a))):Nat):Int) f)) (jy (bA e (aa (eH (bk (aa 0 d c) (aa 0 b a))) (eI (bk (aa 0 d c) (aa 0 b a))) (eG (bk (aa 0 d c) (aa 0 b a)))) (((fI (bk (aa 0 d c) (aa 0 b a))):Nat):Int) f)))))
    (.leaf (.inl ()))
def Uq(a:Lv)(b:Bool)(c:List Int)(d:Nat)(e:Nat)(f:Int)(g:Bool)(h:Int)(i:List Int)(j:Nat)(k:List Int)(l:Nat) :Nat×(List Int)×Nat×Nat→aG:=fun (m,n,o,p)=>⟨ah 97 [(2,.ptr 0 1 0 0),(4,.ptr 1 1 0 0),(8,.int .i64 ((m:Nat):Int)),(9,.fn (.func kG) [] [.ptr 2 1 0 0]),(16,.imm .free (.ns .u64 n) 1 1 o p)],[(0,.vs [.bool false b,.imm a (.ns .u64 c) 1 1 d e,.int .i64 f]),(1,.vs [.bool false g,.nsl,.int .i64 (0:Int)]),(2,.vs [.int .i64 h,.imm .free (.ns .u64 i) 1 1 0 j,.imm .free (.ns .u64 k) 1 1 0 l])],3⟩
def PV(a:List Int)(b:Nat)(c:List Int)(d:Nat) :T ((Nat×(List Int)×Nat×Nat)⊕(cC)) :=
  .need (aU 0 b a)<|.need (aU 0 d c)<|.need (sQ (bk (aa 0 b a) (aa 0 d c)))<|.leaf (.inl ((fI (bk (aa 0 b a) (aa 0 d c))),(eG (bk (aa 0 b a) (aa 0 d c))),(eH (bk (aa 0 b a) (aa 0 d c))),(eI (bk (aa 0 b a) (aa 0 d c)))))
def Ur:Nat×Bool×(List Int)×Nat×Nat×Int→aG:=fun (a,b,c,d,e,f)=>⟨ah 97 [(4,.ptr 0 1 0 0),(5,.int .i64 ((a:Nat):Int))],[(0,.vs [.bool false b,.imm .free (.ns .u64 c) 1 1 d e,.int .i64 f])],1⟩
def PW(d:Bool)(e:Int)(g:List Int)(h:Nat)(i:List Int)(j:Nat)(f:Nat)(a:List Int)(b:Nat)(c:Nat) :T ((Nat×Bool×(List Int)×Nat×Nat×Int)⊕(cC)) :=
  .need (aU b c a)<|.need (aU 0 h g)<|.need (aU 0 j i)<|.need (jQ (bA d (aa b c a) ((f:Nat):Int) e))<|.leaf (.inl ((jt (bA d (aa b c a) ((f:Nat):Int) e)),(ju (bA d (aa b c a) ((f:Nat):Int) e)),(jv (bA d (aa b c a) ((f:Nat):Int) e)),(jw (bA d (aa b c a) ((f:Nat):Int) e)),(jx (bA d (aa b c a) ((f:Nat):Int) e)),(jy (bA d (aa b c a) ((f:Nat):Int) e))))
def PX(a:Nat)(b:Bool)(c:List Int)(d:Nat)(e:Nat)(f:Int) :T ((Empty)⊕(cC)) :=
  .leaf (.inr (.r0 a b c d e f))
def ck(h:Bool)(i:List Int)(j:Int)(k:Bool)(l:List Int)(m:Int) :Option cC:=kD (aQ ((Ul h i j k l m).run) fun (n,f,o,p,q,r,g,s,t,u,v,I) =>
  aQ ((PR n o p q r s t u v).run) fun (w,e,a,b,c,d) =>
  aQ ((PS f g w e a b c d).run) fun _ =>
  aQ ((PT a b c d).run) fun x =>
  aQ ((PU g e a b c d x).run) fun _ =>
  aQ ((PV a b c d).run) fun (y,z,A,B) =>
  aQ ((PW f e a b c d y z A B).run) fun (C,D,E,F,G,H) =>
  (PX C D E F G H).run)
theorem Us(v:Bool)(a:Lv)(o:List Int)(w:Int)(y:Bool)(b:Lv)(p:List Int)(z:Int){x:cC}(h:ck v o w y p z=some x) :ag prog A9 [] [.agg [.bool false v,.imm a (.ns .u64 o) 1 1 0 (List.length o),.int .i64 w],.agg [.bool false y,.imm b (.ns .u64 p) 1 1 0 (List.length p),.int .i64 z]] (Br x) :=
  lE true Br Ji h (Sg.cut 2 ku (bp ee (Uk a b) [⟨[],[0,16,32],[2,3,4,6]⟩,⟨[(.cell 0 1,.lev a)],[0,16,32],[2,3,4,6]⟩,⟨[(.cell 0 1,.lev a),(.cell 16 1,.lev b)],[0,16,32],[2,3,4,6]⟩]) (fun ⟨G,c,d,e,f,g,q,r,s,t,u,i⟩=>Sg.cut 3 ku (bp ee (Um a b c d e f g q r s t u i) [⟨[(.cell 2 1,.fre 1 1 (.ns .u64 ([]:List Int)))],[2],[4,5]⟩,⟨[],[0,1,2,131],[2,3,4,7,8]⟩]) (fun ⟨H,j,k,l,m,n⟩=>Sg.cut 5 ku (bp ee (Un a b c d e f g q r s t u i j k l m n) [⟨[(.cell 2 1,.fre 1 1 (.ns .u64 ([]:List Int)))],[2],[4,5]⟩,⟨[],[2],[4,5]⟩,⟨[],[0,1,2,3],[2,3,4,7,9]⟩]) (fun _=>Sg.cut 1 ku (bp ee (Uo a b c d e f g q r s t u i j k l m n) [⟨[],[0,1,2,3],[2,3,4,7,9,12]⟩]) (fun I=>Sg.cut 2 ku (bp ee (Up a c d e f g i j k l m n) [⟨[],[2],[4,5]⟩,⟨[],[0,2,3],[2,4,7,9]⟩]) (fun _=>Sg.cut 1 ku (bp ee (Uq a c d e f g i j k l m n) [⟨[],[0,1,2],[2,4,8,9,16]⟩]) (fun ⟨J,K,L,M⟩=>Sg.cut 1 ku (bp ee Ur [⟨[],[1],[4,5]⟩]) (fun ⟨N,O,P,Q,R,S⟩=>bp ee lb [⟨[],[0],[4,5]⟩]))))))))
    (fun x=>by cases x with | r0 A B C D E F=>exact kI [.agg [.bool false B,.imm .free (.ns .u64 C) 1 1 D E,.int .i64 F],.int .i64 ((A:Nat):Int)])
def qH:Option cC→Bool
  | some _=>true
  | none=>false
def jR:Option cC→Nat
  | some (.r0 x _ _ _ _ _)=>x
  | _=>0
def lH:Option cC→Bool
  | some (.r0 _ x _ _ _ _)=>x
  | _=>false
def lI:Option cC→List Int
  | some (.r0 _ _ x _ _ _)=>x
  | _=>[]
def lJ:Option cC→Nat
  | some (.r0 _ _ _ x _ _)=>x
  | _=>0
def lK:Option cC→Nat
  | some (.r0 _ _ _ _ x _)=>x
  | _=>0
def lL:Option cC→Int
  | some (.r0 _ _ _ _ _ x)=>x
  | _=>0
theorem Ut{x:Option cC}(h:qH x=true) :x=some (.r0 (jR x) (lH x) (lI x) (lJ x) (lK x) (lL x)):=by
  unfold qH at h
  split at h<;>first | rfl | (cases h;done) | (rename_i y;cases y;rfl)
def Jj:aw:=bW A9 (.cons (.agg (.cons .bool (.cons (.ns .u64) (.cons (.int .i64) .nil)))) (.cons (.agg (.cons .bool (.cons (.ns .u64) (.cons (.int .i64) .nil)))) .nil)) fun t=>(fun q=>[⟨Br (.r0 (jR q) (lH q) (lI q) (lJ q) (lK q) (lL q)),[qH q]⟩]) (ck t.1.1 t.1.2.1.2 t.1.2.2.1 t.2.1.1 t.2.1.2.1.2 t.2.1.2.2.1)
theorem La:aO prog Jj:=aS fun t=>(aT (fun h=>Us t.1.1 t.1.2.1.1 t.1.2.1.2 t.1.2.2.1 t.2.1.1 t.2.1.2.1.1 t.2.1.2.1.2 t.2.1.2.2.1 (Ut h)) bb)
def Jk:List aw:=Jj::CX
theorem uC:aN prog (aH Jk):=ao La ee
inductive eJ where
  | r0 (a:Nat) (b:Bool) (c:List Int) (d:Nat) (e:Nat) (f:Int)
def Jl:eJ→AE×aG
  | .r0 a b c d e f=>(.ret,⟨ah 15 [(4,.ptr 0 1 0 0),(5,.int .i64 ((a:Nat):Int))],[(0,.vs [.bool false b,.imm .free (.ns .u64 c) 1 1 d e,.int .i64 f])],1⟩)
theorem Uu:jT Jl:=by intro x;cases x<;>(intro h;cases h)
def Bs:eJ→gd
  | .r0 a b c d e f=>⟨.tup [.agg [.bool false b,.imm .free (.ns .u64 c) 1 1 d e,.int .i64 f],.int .i64 ((a:Nat):Int)],[]⟩
def Uv:Nat×Bool×(List Int)×Nat×Nat×Int→aG:=fun (a,b,c,d,e,f)=>⟨ah 15 [(4,.ptr 0 1 0 0),(5,.int .i64 ((a:Nat):Int))],[(0,.vs [.bool false b,.imm .free (.ns .u64 c) 1 1 d e,.int .i64 f])],1⟩
def Uw(c:Bool)(a:List Int)(d:Int)(e:Bool)(b:List Int)(f:Int) :T ((Nat×Bool×(List Int)×Nat×Nat×Int)⊕(eJ)) :=
  .need (aU 0 (List.length a) a)<|.need (aU 0 (List.length b) b)<|.need (qH (ck c (aa 0 (List.length a) a) d (!e) (aa 0 (List.length b) b) f))<|.leaf (.inl ((jR (ck c (aa 0 (List.length a) a) d (!e) (aa 0 (List.length b) b) f)),(lH (ck c (aa 0 (List.length a) a) d (!e) (aa 0 (List.length b) b) f)),(lI (ck c (aa 0 (List.length a) a) d (!e) (aa 0 (List.length b) b) f)),(lJ (ck c (aa 0 (List.length a) a) d (!e) (aa 0 (List.length b) b) f)),(lK (ck c (aa 0 (List.length a) a) d (!e) (aa 0 (List.length b) b) f)),(lL (ck c (aa 0 (List.length a) a) d (!e) (aa 0 (List.length b) b) f))))
def Ux(a:Nat)(b:Bool)(c:List Int)(d:Nat)(e:Nat)(f:Int) :T ((Empty)⊕(eJ)) :=
  .leaf (.inr (.r0 a b c d e f))
def dE(a:Bool)(b:List Int)(c:Int)(d:Bool)(e:List Int)(f:Int) :Option eJ:=kD (aQ ((Uw a b c d e f).run) fun (g,h,i,j,k,l) =>
  (Ux g h i j k l).run)
theorem Uy(c:Bool)(g:Lv)(a:List Int)(d:Int)(e:Bool)(i:Lv)(b:List Int)(f:Int){x:eJ}(h:dE c a d e b f=some x) :ag prog A6 [] [.agg [.bool false c,.imm g (.ns .u64 a) 1 1 0 (List.length a),.int .i64 d],.agg [.bool false e,.imm i (.ns .u64 b) 1 1 0 (List.length b),.int .i64 f]] (Bs x) :=
  lE true Bs Jl h (Sg.cut 3 Uu (bp uC Uv [⟨[],[32],[4,5]⟩]) (fun ⟨p,q,r,s,t,u⟩=>bp uC lb [⟨[],[0],[4,5]⟩]))
    (fun x=>by cases x with | r0 j k l m n o=>exact kI [.agg [.bool false k,.imm .free (.ns .u64 l) 1 1 m n,.int .i64 o],.int .i64 ((j:Nat):Int)])
def qI:Option eJ→Bool
  | some _=>true
  | none=>false
def qc:Option eJ→Nat
  | some (.r0 x _ _ _ _ _)=>x
  | _=>0
def qd:Option eJ→Bool
  | some (.r0 _ x _ _ _ _)=>x
  | _=>false
def qe:Option eJ→List Int
  | some (.r0 _ _ x _ _ _)=>x
  | _=>[]
def qf:Option eJ→Nat
  | some (.r0 _ _ _ x _ _)=>x
  | _=>0
def qg:Option eJ→Nat
  | some (.r0 _ _ _ _ x _)=>x
  | _=>0
def qh:Option eJ→Int
  | some (.r0 _ _ _ _ _ x)=>x
  | _=>0
theorem Uz{x:Option eJ}(h:qI x=true) :x=some (.r0 (qc x) (qd x) (qe x) (qf x) (qg x) (qh x)):=by
  unfold qI at h
  split at h<;>first | rfl | (cases h;done) | (rename_i y;cases y;rfl)
def Jm:aw:=bW A6 (.cons (.agg (.cons .bool (.cons (.ns .u64) (.cons (.int .i64) .nil)))) (.cons (.agg (.cons .bool (.cons (.ns .u64) (.cons (.int .i64) .nil)))) .nil)) fun t=>(fun q=>[⟨Bs (.r0 (qc q) (qd q) (qe q) (qf q) (qg q) (qh q)),[qI q]⟩]) (dE t.1.1 t.1.2.1.2 t.1.2.2.1 t.2.1.1 t.2.1.2.1.2 t.2.1.2.2.1)
theorem Lb:aO prog Jm:=aS fun t=>(aT (fun h=>Uy t.1.1 t.1.2.1.1 t.1.2.1.2 t.1.2.2.1 t.2.1.1 t.2.1.2.1.1 t.2.1.2.1.2 t.2.1.2.2.1 (Uz h)) bb)
def Jn:List aw:=Jm::Jk
theorem lM:aN prog (aH Jn):=ao Lb uC
inductive dF where
  | r0 (a:Nat) (b:Bool) (c:List Int) (d:Nat) (e:Nat) (f:Int)
def Jo:dF→AE×aG
  | .r0 a b c d e f=>(.ret,⟨ah 41 [(4,.ptr 0 1 0 0),(5,.int .i64 ((a:Nat):Int))],[(0,.vs [.bool false b,.imm .free (.ns .u64 c) 1 1 d e,.int .i64 f])],1⟩)
theorem yB:jT Jo:=by intro x;cases x<;>(intro h;cases h)
def Bt:dF→gd
  | .r0 a b c d e f=>⟨.tup [.agg [.bool false b,.imm .free (.ns .u64 c) 1 1 d e,.int .i64 f],.int .i64 ((a:Nat):Int)],[]⟩
def UA(a:Lv)(b:Lv) :Nat×Bool×(List Int)×Nat×Nat×Int×Bool×(List Int)×Nat×Nat×Int×Bool→aG:=fun (c,d,e,f,g,h,i,j,k,l,m,n)=>⟨ah 41 [(2,.ptr 0 1 0 0),(3,.ptr 1 1 0 0),(4,.ptr 2 1 0 0),(6,.int .i64 ((c:Nat):Int))],[(0,.vs [.bool false d,.imm a (.ns .u64 e) 1 1 f g,.int .i64 h]),(1,.vs [.bool false i,.imm b (.ns .u64 j) 1 1 k l,.int .i64 m]),(2,.vs [.bool false n,.nsl,.int .i64 (0:Int)])],3⟩
def UB(d : Bool)(a : List Int)(c : Int)(f : Bool)(b : List Int)(e : Int) : T ((Nat × Bool × (List Int) × Nat × Nat × Int × Bool × (List Int) × Nat × Nat × Int × Bool) ⊕ (dF)) :=
  .ask (decide ((0:Int)<(2:Int)))
    (.need (eY (0:Int) 2)<|.need (aU 0 (List.length a) a)<|.need (fQ (db (aa 0 (List.length a) a) c))<|.ask (!(ez (db (aa 0 (List.length a) a) c)))
      (.leaf (.inl (2,d,a,0,(List.length a),c,f,b,0,(List.length b),e,false)))
      (.need (aU 0 (List.length a) a)<|.need (dA (an d (aa 0 (List.length a) a) c))<|.need (dZ .i64 (1:Int))<|.ask (decide ((1:Int)<(2:Int)))
        (.need (eY (1:Int) 2)<|.need (aU 0 (List.length b) b)<|.need (fQ (db (aa 0 (List.length b) b) e))<|.ask (!(ez (db (aa 0 (List.length b) b) e)))
          (.leaf (.inl (2,(ca (an d (aa 0 (List.length a) a) c)),(cd (an d (aa 0 (List.length a) a) c)),(cg (an d (aa 0 (List.length a) a) c)),(ch (an d (aa 0 (List.length a) a) c)),(cj (an d (aa 0 (List.length a) a) c)),f,b,0,(List.length b),e,false)))
          (.need (aU 0 (List.length b) b)<|.need (dA (an f (aa 0 (List.length b) b) e))<|.need (dZ .i64 (2:Int))<|.ask (decide ((2:Int)<(2:Int)))
            (.fail)
            (.leaf (.inl (0,(ca (an d (aa 0 (List.length a) a) c)),(cd (an d (aa 0 (List.length a) a) c)),(cg (an d (aa 0 (List.length a) a) c)),(ch (an d (aa 0 (List.length a) a) c)),(cj (an d (aa 0 (List.length a) a) c)),(ca (an f (aa 0 (List.length b) b) e)),(cd (an f (aa 0 (List.length b) b) e)),(cg (an f (aa 0 (List.length b) b) e)),(ch (an f (aa 0 (List.length b) b) e)),(cj (an f (aa 0 (List.length b) b) e)),false)))))
        (.fail)))
    (.fail)
def UC(a:Lv)(b:Lv)(c:Bool)(d:List Int)(e:Nat)(f:Nat)(g:Int)(h:Bool)(i:List Int)(j:Nat)(k:Nat)(l:Int)(m:Bool) :(List Int)×Nat×Nat×Nat→aG:=fun (n,o,p,q)=>⟨ah 41 [(2,.ptr 0 1 0 0),(3,.ptr 1 1 0 0),(4,.ptr 2 1 0 0),(7,.imm .free (.ns .u64 n) 1 1 o p),(8,.int .i64 ((q:Nat):Int))],[(0,.vs [.bool false c,.imm a (.ns .u64 d) 1 1 e f,.int .i64 g]),(1,.vs [.bool false h,.imm b (.ns .u64 i) 1 1 j k,.int .i64 l]),(2,.vs [.bool false m,.nsl,.int .i64 (0:Int)])],3⟩
def UD(g:Nat)(a:List Int)(b:Nat)(c:Nat)(d:List Int)(e:Nat)(f:Nat) :T (((List Int)×Nat×Nat×Nat)⊕(dF)) :=
  .ask (((g:Nat):Int) != (0:Int))
    (.leaf (.inr (.r0 g false ([]:List Int) 0 0 (0:Int))))
    (.need (aU b c a)<|.need (aU e f d)<|.need (wj (pu (aa b c a) (aa e f d)))<|.leaf (.inl ((wo (pu (aa b c a) (aa e f d))),(wk (pu (aa b c a) (aa e f d))),(wl (pu (aa b c a) (aa e f d))),(wn (pu (aa b c a) (aa e f d))))))
def UE:Nat×Bool×(List Int)×Nat×Nat×Int→aG:=fun (a,b,c,d,e,f)=>⟨ah 41 [(4,.ptr 0 1 0 0),(5,.int .i64 ((a:Nat):Int))],[(0,.vs [.bool false b,.imm .free (.ns .u64 c) 1 1 d e,.int .i64 f])],1⟩
def UF(f:Bool)(a:Int)(g:Bool)(b:Int)(c:List Int)(d:Nat)(e:Nat)(h:Nat) :T ((Nat×Bool×(List Int)×Nat×Nat×Int)⊕(dF)) :=
  .ask (((h:Nat):Int) != (0:Int))
    (.leaf (.inr (.r0 3 false ([]:List Int) 0 0 (0:Int))))
    (.need (dZ .i64 (a+b))<|.need (aU d e c)<|.need (kO (bO (!(f==g)) (aa d e c) (a+b)))<|.leaf (.inl ((kj (bO (!(f==g)) (aa d e c) (a+b))),(km (bO (!(f==g)) (aa d e c) (a+b))),(ko (bO (!(f==g)) (aa d e c) (a+b))),(kp (bO (!(f==g)) (aa d e c) (a+b))),(kq (bO (!(f==g)) (aa d e c) (a+b))),(kr (bO (!(f==g)) (aa d e c) (a+b))))))
def UG(a:Nat)(b:Bool)(c:List Int)(d:Nat)(e:Nat)(f:Int) :T ((Empty)⊕(dF)) :=
  .leaf (.inr (.r0 a b c d e f))
def ai(a:Bool)(b:List Int)(c:Int)(d:Bool)(e:List Int)(f:Int) :Option dF:=kD (aQ ((UB a b c d e f).run) fun (g,h,i,j,k,l,m,n,o,p,q,B) =>
  aQ ((UD g i j k n o p).run) fun (r,s,t,u) =>
  aQ ((UF h l m q r s t u).run) fun (v,w,x,y,z,A) =>
  (UG v w x y z A).run)
theorem UH(e:Bool)(a:Lv)(c:List Int)(f:Int)(g:Bool)(b:Lv)(d:List Int)(i:Int){x:dF}(h:ai e c f g d i=some x) :ag prog A3 [] [.agg [.bool false e,.imm a (.ns .u64 c) 1 1 0 (List.length c),.int .i64 f],.agg [.bool false g,.imm b (.ns .u64 d) 1 1 0 (List.length d),.int .i64 i]] (Bt x) :=
  lE true Bt Jo h (Sg.cut 2 yB (bp lM (UA a b) [⟨[],[0,16,32],[2,3,4,6]⟩,⟨[(.cell 0 1,.lev a)],[0,16,32],[2,3,4,6]⟩,⟨[(.cell 0 1,.lev a),(.cell 16 1,.lev b)],[0,16,32],[2,3,4,6]⟩]) (fun ⟨B,j,k,l,m,n,o,p,q,r,s,t⟩=>Sg.cut 3 yB (bp lM (UC a b j k l m n o p q r s t) [⟨[(.cell 2 1,.fre 1 1 (.ns .u64 ([]:List Int)))],[2],[4,5]⟩,⟨[],[0,1,2],[2,3,4,7,8]⟩]) (fun ⟨C,D,E,F⟩=>Sg.cut 3 yB (bp lM UE [⟨[(.cell 2 1,.fre 1 1 (.ns .u64 ([]:List Int)))],[2],[4,5]⟩,⟨[],[2],[4,5]⟩]) (fun ⟨G,H,I,J,K,L⟩=>bp lM lb [⟨[],[0],[4,5]⟩]))))
    (fun x=>by cases x with | r0 u v w y z A=>exact kI [.agg [.bool false v,.imm .free (.ns .u64 w) 1 1 y z,.int .i64 A],.int .i64 ((u:Nat):Int)])
def kv:Option dF→Bool
  | some _=>true
  | none=>false
def im:Option dF→Nat
  | some (.r0 x _ _ _ _ _)=>x
  | _=>0
def bM:Option dF→Bool
  | some (.r0 _ x _ _ _ _)=>x
  | _=>false
def bD:Option dF→List Int
  | some (.r0 _ _ x _ _ _)=>x
  | _=>[]
def bE:Option dF→Nat
  | some (.r0 _ _ _ x _ _)=>x
  | _=>0
def bF:Option dF→Nat
  | some (.r0 _ _ _ _ x _)=>x
  | _=>0
def bN:Option dF→Int
  | some (.r0 _ _ _ _ _ x)=>x
  | _=>0
theorem UI{x:Option dF}(h:kv x=true) :x=some (.r0 (im x) (bM x) (bD x) (bE x) (bF x) (bN x)):=by
  unfold kv at h
  split at h<;>first | rfl | (cases h;done) | (rename_i y;cases y;rfl)
def Jp:aw:=bW A3 (.cons (.agg (.cons .bool (.cons (.ns .u64) (.cons (.int .i64) .nil)))) (.cons (.agg (.cons .bool (.cons (.ns .u64) (.cons (.int .i64) .nil)))) .nil)) fun t=>(fun q=>[⟨Bt (.r0 (im q) (bM q) (bD q) (bE q) (bF q) (bN q)),[kv q]⟩]) (ai t.1.1 t.1.2.1.2 t.1.2.2.1 t.2.1.1 t.2.1.2.1.2 t.2.1.2.2.1)
theorem Lc:aO prog Jp:=aS fun t=>(aT (fun h=>UH t.1.1 t.1.2.1.1 t.1.2.1.2 t.1.2.2.1 t.2.1.1 t.2.1.2.1.1 t.2.1.2.1.2 t.2.1.2.2.1 (UI h)) bb)
def Jq:List aw:=Jp::Jn
theorem Ah:aN prog (aH Jq):=ao Lc lM
inductive iK where
  | r0 (a:Int)
def UJ:iK→AE×aG
  | .r0 a=>(.ret,⟨ah 11 [(2,.int .i64 a)],[],0⟩)
def yC:iK→gd
  | .r0 a=>⟨.int .i64 a,[]⟩
def PY(a:Bool)(b:List Int) :T ((Empty)⊕(iK)) :=
  .ask ((((List.length b):Nat):Int)==(0:Int))
    (.leaf (.inr (.r0 (0:Int))))
    (.ask a
      (.leaf (.inr (.r0 (-1:Int))))
      (.leaf (.inr (.r0 (1:Int)))))
def eZ(a:Bool)(b:List Int) :Option iK:=kD ((PY a b).run)
theorem PZ(b:Bool)(c:Lv)(a:List Int)(d:Int){x:iK}(h:eZ b a=some x) :ag prog ye [] [.agg [.bool false b,.imm c (.ns .u64 a) 1 1 0 (List.length a),.int .i64 d]] (yC x) :=
  lE true yC UJ h (bp Ah lb [⟨[],[],[2]⟩,⟨[],[],[2]⟩,⟨[],[],[2]⟩])
    (fun x=>by cases x with | r0 e=>exact kI [.int .i64 e])
def iX:Option iK→Bool
  | some _=>true
  | none=>false
def fR:Option iK→Int
  | some (.r0 x)=>x
  | _=>0
theorem P3{x:Option iK}(h:iX x=true) :x=some (.r0 (fR x)):=by
  unfold iX at h
  split at h<;>first | rfl | (cases h;done) | (rename_i y;cases y;rfl)
def FH:aw:=bW ye (.cons (.agg (.cons .bool (.cons (.ns .u64) (.cons (.int .i64) .nil)))) .nil) fun t=>(fun q=>[⟨yC (.r0 (fR q)),[iX q]⟩]) (eZ t.1.1 t.1.2.1.2)
theorem Jr:aO prog FH:=aS fun t=>(aT (fun h=>PZ t.1.1 t.1.2.1.1 t.1.2.1.2 t.1.2.2.1 (P3 h)) bb)
def FI:List aw:=FH::Jq
theorem iD:aN prog (aH FI):=ao Jr Ah
inductive fB where
  | r0 (a:Int) (b:Nat)
def Js:fB→AE×aG
  | .r0 a b=>(.ret,⟨ah 52 [(4,.int .i64 a),(5,.int .i64 ((b:Nat):Int))],[],0⟩)
theorem tT:jT Js:=by intro x;cases x<;>(intro h;cases h)
def Bu:fB→gd
  | .r0 a b=>⟨.tup [.int .i64 a,.int .i64 ((b:Nat):Int)],[]⟩
def UK(a:Lv)(b:Lv) :Nat×Bool×(List Int)×Nat×Nat×Int×Bool×(List Int)×Nat×Nat×Int→aG:=fun (c,d,e,f,g,h,i,j,k,l,m)=>⟨ah 52 [(2,.ptr 0 1 0 0),(3,.ptr 1 1 0 0),(6,.int .i64 ((c:Nat):Int))],[(0,.vs [.bool false d,.imm a (.ns .u64 e) 1 1 f g,.int .i64 h]),(1,.vs [.bool false i,.imm b (.ns .u64 j) 1 1 k l,.int .i64 m])],2⟩
def UL(d : Bool)(a : List Int)(c : Int)(f : Bool)(b : List Int)(e : Int) : T ((Nat × Bool × (List Int) × Nat × Nat × Int × Bool × (List Int) × Nat × Nat × Int) ⊕ (fB)) :=
  .ask (decide ((0:Int)<(2:Int)))
    (.need (eY (0:Int) 2)<|.need (aU 0 (List.length a) a)<|.need (fQ (db (aa 0 (List.length a) a) c))<|.ask (!(ez (db (aa 0 (List.length a) a) c)))
      (.leaf (.inl (2,d,a,0,(List.length a),c,f,b,0,(List.length b),e)))
      (.need (aU 0 (List.length a) a)<|.need (dA (an d (aa 0 (List.length a) a) c))<|.need (dZ .i64 (1:Int))<|.ask (decide ((1:Int)<(2:Int)))
        (.need (eY (1:Int) 2)<|.need (aU 0 (List.length b) b)<|.need (fQ (db (aa 0 (List.length b) b) e))<|.ask (!(ez (db (aa 0 (List.length b) b) e)))
          (.leaf (.inl (2,(ca (an d (aa 0 (List.length a) a) c)),(cd (an d (aa 0 (List.length a) a) c)),(cg (an d (aa 0 (List.length a) a) c)),(ch (an d (aa 0 (List.length a) a) c)),(cj (an d (aa 0 (List.length a) a) c)),f,b,0,(List.length b),e)))
          (.need (aU 0 (List.length b) b)<|.need (dA (an f (aa 0 (List.length b) b) e))<|.need (dZ .i64 (2:Int))<|.ask (decide ((2:Int)<(2:Int)))
            (.fail)
            (.leaf (.inl (0,(ca (an d (aa 0 (List.length a) a) c)),(cd (an d (aa 0 (List.length a) a) c)),(cg (an d (aa 0 (List.length a) a) c)),(ch (an d (aa 0 (List.length a) a) c)),(cj (an d (aa 0 (List.length a) a) c)),(ca (an f (aa 0 (List.length b) b) e)),(cd (an f (aa 0 (List.length b) b) e)),(cg (an f (aa 0 (List.length b) b) e)),(ch (an f (aa 0 (List.length b) b) e)),(cj (an f (aa 0 (List.length b) b) e)))))))
        (.fail)))
    (.fail)
def UM(a:Lv)(b:Lv)(c:Bool)(d:List Int)(e:Nat)(f:Nat)(g:Int)(h:Bool)(i:List Int)(j:Nat)(k:Nat)(l:Int) :Nat×Int×(List Int)×Nat×(List Int)×Nat→aG:=fun (m,n,o,p,q,r)=>⟨ah 52 [(2,.ptr 0 1 0 0),(3,.ptr 1 1 0 0),(7,.ptr 2 1 0 0),(8,.int .i64 ((m:Nat):Int))],[(0,.vs [.bool false c,.imm a (.ns .u64 d) 1 1 e f,.int .i64 g]),(1,.vs [.bool false h,.imm b (.ns .u64 i) 1 1 j k,.int .i64 l]),(2,.vs [.int .i64 n,.imm .free (.ns .u64 o) 1 1 0 p,.imm .free (.ns .u64 q) 1 1 0 r])],3⟩
def UN(i:Nat)(a:List Int)(b:Nat)(c:Nat)(g:Int)(d:List Int)(e:Nat)(f:Nat)(h:Int) :T ((Nat×Int×(List Int)×Nat×(List Int)×Nat)⊕(fB)) :=
  .ask (((i:Nat):Int) != (0:Int))
    (.leaf (.inr (.r0 (0:Int) i)))
    (.need (aU b c a)<|.need (aU e f d)<|.need (lG (cw (aa b c a) g (aa e f d) h))<|.leaf (.inl ((my (cw (aa b c a) g (aa e f d) h)),(mz (cw (aa b c a) g (aa e f d) h)),(mA (cw (aa b c a) g (aa e f d) h)),(mB (cw (aa b c a) g (aa e f d) h)),(mC (cw (aa b c a) g (aa e f d) h)),(mD (cw (aa b c a) g (aa e f d) h)))))
def UO(a:Lv)(b:Lv)(c:Bool)(d:List Int)(e:Nat)(f:Nat)(g:Int)(h:Bool)(i:List Int)(j:Nat)(k:Nat)(l:Int)(m:Int) :aG:=⟨ah 52 [(2,.ptr 0 1 0 0),(3,.ptr 1 1 0 0),(9,.int .i64 m)],[(0,.vs [.bool false c,.imm a (.ns .u64 d) 1 1 e f,.int .i64 g]),(1,.vs [.bool false h,.imm b (.ns .u64 i) 1 1 j k,.int .i64 l])],2⟩
def UP(e:Nat)(a:List Int)(b:Nat)(c:List Int)(d:Nat) :T ((Int)⊕(fB)) :=
  .ask (((e:Nat):Int) != (0:Int))
    (.leaf (.inr (.r0 (0:Int) e)))
    (.need (aU 0 b a)<|.need (aU 0 d c)<|.need (sO (so (aa 0 b a) (aa 0 d c)))<|.leaf (.inl (rQ (so (aa 0 b a) (aa 0 d c)))))
def UQ(a:Int)(_:Unit) :aG:=⟨ah 52 [(9,.int .i64 a)],[],0⟩
def UR(g:Bool)(a:List Int)(b:Nat)(c:Nat)(h:Bool)(d:List Int)(e:Nat)(f:Nat)(i:Int) :T ((Unit)⊕(fB)) :=
  .need (aU b c a)<|.need (iX (eZ g (aa b c a)))<|.need (aU e f d)<|.need (iX (eZ h (aa e f d)))<|.ask ((fR (eZ g (aa b c a))) != (fR (eZ h (aa e f d))))
    (.need (aU b c a)<|.need (iX (eZ g (aa b c a)))<|.need (aU e f d)<|.need (iX (eZ h (aa e f d)))<|.need (dZ .i64 ((fR (eZ g (aa b c a)))-(fR (eZ h (aa e f d)))))<|.leaf (.inr (.r0 (nH (-1:Int) (xG (1:Int) ((fR (eZ g (aa b c a)))-(fR (eZ h (aa e f d)))))) 0)))
    (.ask g
      (.need (dZ .i64 ((0:Int)-i))<|.leaf (.inr (.r0 ((0:Int)-i) 0)))
      (.leaf (.inl ())))
def P5(a:Int) :T ((Empty)⊕(fB)) :=
  .leaf (.inr (.r0 a 0))
def sU(h:Bool)(i:List Int)(j:Int)(k:Bool)(l:List Int)(m:Int) :Option fB:=kD (aQ ((UL h i j k l m).run) fun (n,o,a,b,c,p,q,d,e,f,r) =>
  aQ ((UN n a b c p d e f r).run) fun (s,x,t,u,v,w) =>
  aQ ((UP s t u v w).run) fun g =>
  aQ ((UR o a b c q d e f g).run) fun _ =>
  (P5 g).run)
theorem US(e:Bool)(a:Lv)(c:List Int)(f:Int)(g:Bool)(b:Lv)(d:List Int)(i:Int){x:fB}(h:sU e c f g d i=some x) :ag prog A4 [] [.agg [.bool false e,.imm a (.ns .u64 c) 1 1 0 (List.length c),.int .i64 f],.agg [.bool false g,.imm b (.ns .u64 d) 1 1 0 (List.length d),.int .i64 i]] (Bu x) :=
  lE true Bu Js h (Sg.cut 2 tT (bp iD (UK a b) [⟨[],[0,16],[2,3,6]⟩,⟨[(.cell 0 1,.lev a)],[0,16],[2,3,6]⟩,⟨[(.cell 0 1,.lev a),(.cell 16 1,.lev b)],[0,16],[2,3,6]⟩]) (fun ⟨w,j,k,l,m,n,o,p,q,r,s⟩=>Sg.cut 3 tT (bp iD (UM a b j k l m n o p q r s) [⟨[],[],[4,5]⟩,⟨[],[0,1,130],[2,3,7,8]⟩]) (fun ⟨y,z,A,B,C,D⟩=>Sg.cut 3 tT (bp iD (UO a b j k l m n o p q r s) [⟨[],[],[4,5]⟩,⟨[],[0,1],[2,3,9]⟩]) (fun t=>Sg.cut 1 tT (bp iD (UQ t) [⟨[],[],[4,5]⟩,⟨[],[],[4,5]⟩,⟨[],[],[9]⟩]) (fun _=>bp iD lb [⟨[],[],[4,5]⟩])))))
    (fun x=>by cases x with | r0 u v=>exact kI [.int .i64 u,.int .i64 ((v:Nat):Int)])
def tU:Option fB→Bool
  | some _=>true
  | none=>false
def uD:Option fB→Int
  | some (.r0 x _)=>x
  | _=>0
def uE:Option fB→Nat
  | some (.r0 _ x)=>x
  | _=>0
theorem UT{x:Option fB}(h:tU x=true) :x=some (.r0 (uD x) (uE x)):=by
  unfold tU at h
  split at h<;>first | rfl | (cases h;done) | (rename_i y;cases y;rfl)
def Jt:aw:=bW A4 (.cons (.agg (.cons .bool (.cons (.ns .u64) (.cons (.int .i64) .nil)))) (.cons (.agg (.cons .bool (.cons (.ns .u64) (.cons (.int .i64) .nil)))) .nil)) fun t=>(fun q=>[⟨Bu (.r0 (uD q) (uE q)),[tU q]⟩]) (sU t.1.1 t.1.2.1.2 t.1.2.2.1 t.2.1.1 t.2.1.2.1.2 t.2.1.2.2.1)
theorem Ld:aO prog Jt:=aS fun t=>(aT (fun h=>US t.1.1 t.1.2.1.1 t.1.2.1.2 t.1.2.2.1 t.2.1.1 t.2.1.2.1.1 t.2.1.2.1.2 t.2.1.2.2.1 (UT h)) bb)
def Ju:List aw:=Jt::FI
theorem lN:aN prog (aH Ju):=ao Ld iD
inductive cx where
  | r0 (a:Nat) (b:Bool) (c:List Int) (d:Nat) (e:Nat) (f:Int)
def CY:cx→AE×aG
  | .r0 a b c d e f=>(.ret,⟨ah 30 [(4,.ptr 0 1 0 0),(5,.int .i64 ((a:Nat):Int))],[(0,.vs [.bool false b,.imm .free (.ns .u64 c) 1 1 d e,.int .i64 f])],1⟩)
theorem uF:jT CY:=by intro x;cases x<;>(intro h;cases h)
def wH:cx→gd
  | .r0 a b c d e f=>⟨.tup [.agg [.bool false b,.imm .free (.ns .u64 c) 1 1 d e,.int .i64 f],.int .i64 ((a:Nat):Int)],[]⟩
def Le(a:Lv)(b:Int) :Nat×Bool×(List Int)×Nat×Nat×Int×Bool→aG:=fun (c,d,e,f,g,h,i)=>⟨ah 30 [(1,.int .i64 b),(2,.ptr 0 1 0 0),(4,.ptr 1 1 0 0),(6,.int .i64 ((c:Nat):Int))],[(0,.vs [.bool false d,.imm a (.ns .u64 e) 1 1 f g,.int .i64 h]),(1,.vs [.bool false i,.nsl,.int .i64 (0:Int)])],2⟩
def Lf(c:Bool)(a:List Int)(b:Int) :T ((Nat×Bool×(List Int)×Nat×Nat×Int×Bool)⊕(cx)) :=
  .ask (decide ((0:Int)<(1:Int)))
    (.need (eY (0:Int) 1)<|.need (aU 0 (List.length a) a)<|.need (fQ (db (aa 0 (List.length a) a) b))<|.ask (!(ez (db (aa 0 (List.length a) a) b)))
      (.leaf (.inl (2,c,a,0,(List.length a),b,false)))
      (.need (aU 0 (List.length a) a)<|.need (dA (an c (aa 0 (List.length a) a) b))<|.need (dZ .i64 (1:Int))<|.ask (decide ((1:Int)<(1:Int)))
        (.fail)
        (.leaf (.inl (0,(ca (an c (aa 0 (List.length a) a) b)),(cd (an c (aa 0 (List.length a) a) b)),(cg (an c (aa 0 (List.length a) a) b)),(ch (an c (aa 0 (List.length a) a) b)),(cj (an c (aa 0 (List.length a) a) b)),false)))))
    (.fail)
def Lg(a:Lv)(b:Int)(c:Nat)(d:Bool)(e:List Int)(f:Nat)(g:Nat)(h:Int)(i:Bool)(j:Bool) :aG:=⟨ah 30 [(1,.int .i64 b),(2,.ptr 0 1 0 0),(4,.ptr 1 1 0 0),(6,.int .i64 ((c:Nat):Int)),(16,.bool false j)],[(0,.vs [.bool false d,.imm a (.ns .u64 e) 1 1 f g,.int .i64 h]),(1,.vs [.bool false i,.nsl,.int .i64 (0:Int)])],2⟩
def Lh(a:Nat)(b:Nat) :T ((Bool)⊕(cx)) :=
  .ask (((a:Nat):Int) != (0:Int))
    (.leaf (.inl true))
    (.leaf (.inl (((b:Nat):Int)==(0:Int))))
def Li:Nat×Bool×(List Int)×Nat×Nat×Int→aG:=fun (a,b,c,d,e,f)=>⟨ah 30 [(4,.ptr 0 1 0 0),(5,.int .i64 ((a:Nat):Int))],[(0,.vs [.bool false b,.imm .free (.ns .u64 c) 1 1 d e,.int .i64 f])],1⟩
def Lj(a:Int)(g:Nat)(f:Bool)(b:List Int)(c:Nat)(d:Nat)(e:Int)(h:Bool) :T ((Nat×Bool×(List Int)×Nat×Nat×Int)⊕(cx)) :=
  .ask h
    (.leaf (.inr (.r0 g false ([]:List Int) 0 0 (0:Int))))
    (.need (dZ .i64 (e+(nH (-1048576:Int) (xG (1048576:Int) a))))<|.need (aU c d b)<|.need (kO (bO f (aa c d b) (e+(nH (-1048576:Int) (xG (1048576:Int) a)))))<|.leaf (.inl ((kj (bO f (aa c d b) (e+(nH (-1048576:Int) (xG (1048576:Int) a))))),(km (bO f (aa c d b) (e+(nH (-1048576:Int) (xG (1048576:Int) a))))),(ko (bO f (aa c d b) (e+(nH (-1048576:Int) (xG (1048576:Int) a))))),(kp (bO f (aa c d b) (e+(nH (-1048576:Int) (xG (1048576:Int) a))))),(kq (bO f (aa c d b) (e+(nH (-1048576:Int) (xG (1048576:Int) a))))),(kr (bO f (aa c d b) (e+(nH (-1048576:Int) (xG (1048576:Int) a))))))))
def Lk(a:Nat)(b:Bool)(c:List Int)(d:Nat)(e:Nat)(f:Int) :T ((Empty)⊕(cx)) :=
  .leaf (.inr (.r0 a b c d e f))
def gp(c:Bool)(d:List Int)(e:Int)(f:Int) :Option cx:=kD (aQ ((Lf c d e).run) fun (a,g,h,i,b,j,r) =>
  aQ ((Lh a b).run) fun k =>
  aQ ((Lj f a g h i b j k).run) fun (l,m,n,o,p,q) =>
  (Lk l m n o p q).run)
theorem Ll(d:Bool)(a:Lv)(c:List Int)(e:Int)(b:Int){x:cx}(h:gp d c e b=some x) :ag prog vM [] [.agg [.bool false d,.imm a (.ns .u64 c) 1 1 0 (List.length c),.int .i64 e],.int .i64 b] (wH x) :=
  lE true wH CY h (Sg.cut 2 uF (bp lN (Le a b) [⟨[],[0,16],[1,2,4,6]⟩,⟨[(.cell 0 1,.lev a)],[0,16],[1,2,4,6]⟩]) (fun ⟨f,g,i,j,k,l,m⟩=>Sg.cut 1 uF (bp lN (Lg a b f g i j k l m) [⟨[],[0,1],[1,2,4,6,16]⟩,⟨[],[0,1],[1,2,4,6,16]⟩]) (fun t=>Sg.cut 3 uF (bp lN Li [⟨[(.cell 1 1,.fre 1 1 (.ns .u64 ([]:List Int)))],[1],[4,5]⟩,⟨[],[1],[4,5]⟩]) (fun ⟨u,v,w,y,z,A⟩=>bp lN lb [⟨[],[0],[4,5]⟩]))))
    (fun x=>by cases x with | r0 n o p q r s=>exact kI [.agg [.bool false o,.imm .free (.ns .u64 p) 1 1 q r,.int .i64 s],.int .i64 ((n:Nat):Int)])
def qi:Option cx→Bool
  | some _=>true
  | none=>false
def qV:Option cx→Nat
  | some (.r0 x _ _ _ _ _)=>x
  | _=>0
def qW:Option cx→Bool
  | some (.r0 _ x _ _ _ _)=>x
  | _=>false
def qX:Option cx→List Int
  | some (.r0 _ _ x _ _ _)=>x
  | _=>[]
def qY:Option cx→Nat
  | some (.r0 _ _ _ x _ _)=>x
  | _=>0
def qZ:Option cx→Nat
  | some (.r0 _ _ _ _ x _)=>x
  | _=>0
def ra:Option cx→Int
  | some (.r0 _ _ _ _ _ x)=>x
  | _=>0
theorem Lm{x:Option cx}(h:qi x=true) :x=some (.r0 (qV x) (qW x) (qX x) (qY x) (qZ x) (ra x)):=by
  unfold qi at h
  split at h<;>first | rfl | (cases h;done) | (rename_i y;cases y;rfl)
def CZ:aw:=bW vM (.cons (.agg (.cons .bool (.cons (.ns .u64) (.cons (.int .i64) .nil)))) (.cons (.int .i64) .nil)) fun t=>(fun q=>[⟨wH (.r0 (qV q) (qW q) (qX q) (qY q) (qZ q) (ra q)),[qi q]⟩]) (gp t.1.1 t.1.2.1.2 t.1.2.2.1 t.2.1)
theorem Gj:aO prog CZ:=aS fun t=>(aT (fun h=>Ll t.1.1 t.1.2.1.1 t.1.2.1.2 t.1.2.2.1 t.2.1 (Lm h)) bb)
def C1:List aw:=CZ::Ju
theorem mF:aN prog (aH C1):=ao Gj lN
inductive dg where
  | r0 (a:Bool) (b:List Int) (c:Nat) (d:Nat) (e:Int)
def C2:dg→AE×aG
  | .r0 a b c d e=>(.ret,⟨ah 16 [(2,.ptr 0 1 0 0)],[(0,.vs [.bool false a,.imm .free (.ns .u64 b) 1 1 c d,.int .i64 e])],1⟩)
theorem Ai:jT C2:=by intro x;cases x<;>(intro h;cases h)
def wI:dg→gd
  | .r0 a b c d e=>⟨.agg [.bool false a,.imm .free (.ns .u64 b) 1 1 c d,.int .i64 e],[]⟩
def Ln(a:Int) :Int×Bool→aG:=fun (b,c)=>⟨ah 16 [(0,.int .i64 a),(2,.ptr 0 1 0 0),(3,.int .u64 b)],[(0,.vs [.bool false c,.nsl,.int .i64 (0:Int)])],1⟩
def Lo(a:Int) :T ((Int×Bool)⊕(dg)) :=
  .ask (decide (a<(0:Int)))
    (.leaf (.inl ((IntKind.u64.wrap ((0:Int)-(IntKind.u64.wrap a))),false)))
    (.leaf (.inl ((IntKind.u64.wrap a),false)))
def Lp:Bool×(List Int)×Nat×Nat×Int→aG:=fun (a,b,c,d,e)=>⟨ah 16 [(2,.ptr 0 1 0 0)],[(0,.vs [.bool false a,.imm .free (.ns .u64 b) 1 1 c d,.int .i64 e])],1⟩
def Lq(b:Int)(a:Int) :T ((Bool×(List Int)×Nat×Nat×Int)⊕(dg)) :=
  .need (va (bj a))<|.need (aU (cX (bj a)) (cY (bj a)) (cZ (bj a)))<|.need (dA (an (decide (b<(0:Int))) (aa (cX (bj a)) (cY (bj a)) (cZ (bj a))) (0:Int)))<|.leaf (.inl ((ca (an (decide (b<(0:Int))) (aa (cX (bj a)) (cY (bj a)) (cZ (bj a))) (0:Int))),(cd (an (decide (b<(0:Int))) (aa (cX (bj a)) (cY (bj a)) (cZ (bj a))) (0:Int))),(cg (an (decide (b<(0:Int))) (aa (cX (bj a)) (cY (bj a)) (cZ (bj a))) (0:Int))),(ch (an (decide (b<(0:Int))) (aa (cX (bj a)) (cY (bj a)) (cZ (bj a))) (0:Int))),(cj (an (decide (b<(0:Int))) (aa (cX (bj a)) (cY (bj a)) (cZ (bj a))) (0:Int)))))
def Lr(a:Bool)(b:List Int)(c:Nat)(d:Nat)(e:Int) :T ((Empty)⊕(dg)) :=
  .leaf (.inr (.r0 a b c d e))
def bR(a:Int) :Option dg:=kD (aQ ((Lo a).run) fun (b,h) =>
  aQ ((Lq a b).run) fun (c,d,e,f,g) =>
  (Lr c d e f g).run)
theorem Ls(a:Int){x:dg}(h:bR a=some x) :ag prog vJ [] [.int .i64 a] (wI x) :=
  lE true wI C2 h (Sg.cut 4 Ai (bp mF (Ln a) [⟨[],[0],[0,2,3]⟩,⟨[],[0],[0,2,3]⟩]) (fun ⟨g,i⟩=>Sg.cut 1 Ai (bp mF Lp [⟨[],[0],[2]⟩]) (fun ⟨j,k,l,m,n⟩=>bp mF lb [⟨[],[0],[2]⟩])))
    (fun x=>by cases x with | r0 b c d e f=>exact kI [.agg [.bool false b,.imm .free (.ns .u64 c) 1 1 d e,.int .i64 f]])
def jS:Option dg→Bool
  | some _=>true
  | none=>false
def jz:Option dg→Bool
  | some (.r0 x _ _ _ _)=>x
  | _=>false
def jA:Option dg→List Int
  | some (.r0 _ x _ _ _)=>x
  | _=>[]
def jB:Option dg→Nat
  | some (.r0 _ _ x _ _)=>x
  | _=>0
def jC:Option dg→Nat
  | some (.r0 _ _ _ x _)=>x
  | _=>0
def jD:Option dg→Int
  | some (.r0 _ _ _ _ x)=>x
  | _=>0
theorem Lt{x:Option dg}(h:jS x=true) :x=some (.r0 (jz x) (jA x) (jB x) (jC x) (jD x)):=by
  unfold jS at h
  split at h<;>first | rfl | (cases h;done) | (rename_i y;cases y;rfl)
def C3:aw:=bW vJ (.cons (.int .i64) .nil) fun t=>(fun q=>[⟨wI (.r0 (jz q) (jA q) (jB q) (jC q) (jD q)),[jS q]⟩]) (bR t.1)
theorem Gk:aO prog C3:=aS fun t=>(aT (fun h=>Ls t.1 (Lt h)) bb)
def C4:List aw:=C3::C1
theorem rb:aN prog (aH C4):=ao Gk mF
inductive gq where
  | r0 (a:Nat)
def C5:gq→AE×aG
  | .r0 a=>(.ret,⟨ah 26 [(2,.int .i64 ((a:Nat):Int))],[],0⟩)
theorem Lu:jT C5:=by intro x;cases x<;>(intro h;cases h)
def wJ:gq→gd
  | .r0 a=>⟨.int .i64 ((a:Nat):Int),[]⟩
def Lw(_:Unit) :aG:=⟨ah 26 [],[],0⟩
def Lx(a : Int) : T ((Unit) ⊕ (gq)) :=
  .need (decide ((0:Int)≤(52:Int)))<|.ask ((dd .and .u64 (Int.fdiv a (2^(min (Int.toNat (52:Int)) (IntKind.u64.bits)))) (2047:Int))==(2047:Int))
    (.ask ((dd .and .u64 a (4503599627370495:Int)) != (0:Int))
      (.leaf (.inr (.r0 5)))
      (.ask ((dd .and .u64 (Int.fdiv a (2^(min (Int.toNat (52:Int)) (IntKind.u64.bits)))) (2047:Int))==(2047:Int))
        (.leaf (.inr (.r0 4)))
        (.ask ((dd .and .u64 (Int.fdiv a (2^(min (Int.toNat (52:Int)) (IntKind.u64.bits)))) (2047:Int)) != (0:Int))
          (.leaf (.inr (.r0 3)))
          (.ask ((dd .and .u64 a (4503599627370495:Int)) != (0:Int))
            (.leaf (.inr (.r0 2)))
            (.leaf (.inl ()))))))
    (.ask ((dd .and .u64 (Int.fdiv a (2^(min (Int.toNat (52:Int)) (IntKind.u64.bits)))) (2047:Int))==(2047:Int))
      (.leaf (.inr (.r0 4)))
      (.ask ((dd .and .u64 (Int.fdiv a (2^(min (Int.toNat (52:Int)) (IntKind.u64.bits)))) (2047:Int)) != (0:Int))
        (.leaf (.inr (.r0 3)))
        (.ask ((dd .and .u64 a (4503599627370495:Int)) != (0:Int))
          (.leaf (.inr (.r0 2)))
          (.leaf (.inl ())))))
def Ly:T ((Empty)⊕(gq)) :=
  .leaf (.inr (.r0 1))
def rU(a:Int) :Option gq:=kD (aQ ((Lx a).run) fun _ =>
  (Ly).run)
theorem Lz(a:Int){x:gq}(h:rU a=some x) :ag prog Cz [] [.int .u64 a] (wJ x) :=
  lE false wJ C5 h (Sg.cut 3 Lu (bp rb Lw [⟨[],[],[2]⟩,⟨[],[],[2]⟩,⟨[],[],[2]⟩,⟨[],[],[2]⟩,⟨[],[],[]⟩,⟨[],[],[2]⟩,⟨[],[],[2]⟩,⟨[],[],[2]⟩,⟨[],[],[]⟩]) (fun _=>bp rb lb [⟨[],[],[2]⟩]))
    (fun x=>by cases x with | r0 b=>exact kI [.int .i64 ((b:Nat):Int)])
def qj:Option gq→Bool
  | some _=>true
  | none=>false
def rc:Option gq→Nat
  | some (.r0 x)=>x
  | _=>0
theorem LA{x:Option gq}(h:qj x=true) :x=some (.r0 (rc x)):=by
  unfold qj at h
  split at h<;>first | rfl | (cases h;done) | (rename_i y;cases y;rfl)
def C6:aw:=bW Cz (.cons (.int .u64) .nil) fun t=>(fun q=>[⟨wJ (.r0 (rc q)),[qj q]⟩]) (rU t.1)
theorem Gl:aO prog C6:=aS fun t=>(aT (fun h=>Lz t.1 (LA h)) bb)
def C7:List aw:=C6::C4
theorem re:aN prog (aH C7):=ao Gl rb
inductive ef where
  | r0 (a:Nat) (b:Bool) (c:Int) (d:Int)
def C8:ef→AE×aG
  | .r0 a b c d=>(.ret,⟨ah 36 [(2,.ptr 0 1 0 0),(3,.int .i64 ((a:Nat):Int))],[(0,.vs [.bool false b,.int .u64 c,.int .i64 d])],1⟩)
theorem LB:jT C8:=by intro x;cases x<;>(intro h;cases h)
def wK:ef→gd
  | .r0 a b c d=>⟨.tup [.agg [.bool false b,.int .u64 c,.int .i64 d],.int .i64 ((a:Nat):Int)],[]⟩
def LC(a:Int) :Nat×Bool×Bool×Int→aG:=fun (b,c,d,e)=>⟨ah 36 [(0,.int .u64 a),(2,.ptr 0 1 0 0),(4,.ptr 1 1 0 0),(12,.int .i64 ((b:Nat):Int))],[(0,.vs [.bool false c,.int .u64 (0:Int),.int .i64 (0:Int)]),(1,.vs [.bool false d,.int .u64 e,.int .i64 (-1074:Int)])],2⟩
def LD(a:Int) :T ((Nat×Bool×Bool×Int)⊕(ef)) :=
  .need (decide ((0:Int)≤(63:Int)))<|.need (qj (rU a))<|.leaf (.inl ((rc (rU a)),false,((Int.fdiv a (2^(min (Int.toNat (63:Int)) (IntKind.u64.bits))))==(1:Int)),(dd .and .u64 a (4503599627370495:Int))))
def LF(a:Int)(b:Nat)(c:Bool)(d:Int) :T ((Empty)⊕(ef)) :=
  .ask (((b:Nat):Int)==(3:Int))
    (.need (decide ((0:Int)≤(52:Int)))<|.need (dZ .i64 ((IntKind.i64.wrap (dd .and .u64 (Int.fdiv a (2^(min (Int.toNat (52:Int)) (IntKind.u64.bits)))) (2047:Int)))-(1:Int)))<|.need (dZ .i64 ((-1074:Int)+((IntKind.i64.wrap (dd .and .u64 (Int.fdiv a (2^(min (Int.toNat (52:Int)) (IntKind.u64.bits)))) (2047:Int)))-(1:Int))))<|.leaf (.inr (.r0 0 c (dd .or .u64 d (4503599627370496:Int)) ((-1074:Int)+((IntKind.i64.wrap (dd .and .u64 (Int.fdiv a (2^(min (Int.toNat (52:Int)) (IntKind.u64.bits)))) (2047:Int)))-(1:Int))))))
    (.ask (((b:Nat):Int)==(2:Int))
      (.leaf (.inr (.r0 0 c d (-1074:Int))))
      (.ask (((b:Nat):Int)==(1:Int))
        (.leaf (.inr (.r0 0 c d (0:Int))))
        (.leaf (.inr (.r0 2 false (0:Int) (0:Int))))))
def eh(a:Int) :Option ef:=kD (aQ ((LD a).run) fun (b,e,c,d) =>
  (LF a b c d).run)
theorem LG(a:Int){x:ef}(h:eh a=some x) :ag prog Cu [] [.int .u64 a] (wK x) :=
  lE false wK C8 h (Sg.cut 3 LB (bp re (LC a) [⟨[],[0,128],[0,2,4,12]⟩]) (fun ⟨f,g,i,j⟩=>bp re lb [⟨[],[0],[2,3]⟩,⟨[],[0],[2,3]⟩,⟨[],[0],[2,3]⟩,⟨[],[0],[2,3]⟩]))
    (fun x=>by cases x with | r0 b c d e=>exact kI [.agg [.bool false c,.int .u64 d,.int .i64 e],.int .i64 ((b:Nat):Int)])
def lO:Option ef→Bool
  | some _=>true
  | none=>false
def mG:Option ef→Nat
  | some (.r0 x _ _ _)=>x
  | _=>0
def mH:Option ef→Bool
  | some (.r0 _ x _ _)=>x
  | _=>false
def mI:Option ef→Int
  | some (.r0 _ _ x _)=>x
  | _=>0
def mJ:Option ef→Int
  | some (.r0 _ _ _ x)=>x
  | _=>0
theorem LH{x:Option ef}(h:lO x=true) :x=some (.r0 (mG x) (mH x) (mI x) (mJ x)):=by
  unfold lO at h
  split at h<;>first | rfl | (cases h;done) | (rename_i y;cases y;rfl)
def C9:aw:=bW Cu (.cons (.int .u64) .nil) fun t=>(fun q=>[⟨wK (.r0 (mG q) (mH q) (mI q) (mJ q)),[lO q]⟩]) (eh t.1)
theorem Gm:aO prog C9:=aS fun t=>(aT (fun h=>LG t.1 (LH h)) bb)
def Da:List aw:=C9::C7
theorem mK:aN prog (aH Da):=ao Gm re
inductive fC where
  | r0 (a:Nat) (b:Bool) (c:List Int) (d:Nat) (e:Nat) (f:Int)
def NQ:fC→AE×aG
  | .r0 a b c d e f=>(.ret,⟨ah 25 [(2,.ptr 0 1 0 0),(3,.int .i64 ((a:Nat):Int))],[(0,.vs [.bool false b,.imm .free (.ns .u64 c) 1 1 d e,.int .i64 f])],1⟩)
theorem Jv:jT NQ:=by intro x;cases x<;>(intro h;cases h)
def EB:fC→gd
  | .r0 a b c d e f=>⟨.tup [.agg [.bool false b,.imm .free (.ns .u64 c) 1 1 d e,.int .i64 f],.int .i64 ((a:Nat):Int)],[]⟩
def XD:Nat×Bool×Bool×Int×Int→aG:=fun (a,b,c,d,e)=>⟨ah 25 [(2,.ptr 0 1 0 0),(4,.ptr 1 1 0 0),(5,.int .i64 ((a:Nat):Int))],[(0,.vs [.bool false b,.nsl,.int .i64 (0:Int)]),(1,.vs [.bool false c,.int .u64 d,.int .i64 e])],2⟩
def XE(a:Nat) :T ((Nat×Bool×Bool×Int×Int)⊕(fC)) :=
  .ask (Z3 a a)
    (.need (lO (eh (9221120237041090560:Int)))<|.leaf (.inl ((mG (eh (9221120237041090560:Int))),false,(mH (eh (9221120237041090560:Int))),(mI (eh (9221120237041090560:Int))),(mJ (eh (9221120237041090560:Int))))))
    (.alt 0
      (.need (!isNaN a)<|.need (lO (eh ((a:Nat):Int)))<|.leaf (.inl ((mG (eh ((a:Nat):Int))),false,(mH (eh ((a:Nat):Int))),(mI (eh ((a:Nat):Int))),(mJ (eh ((a:Nat):Int))))))
      (.fail))
def XF:Bool×(List Int)×Nat×Nat×Int→aG:=fun (a,b,c,d,e)=>⟨ah 25 [(2,.ptr 0 1 0 0),(3,.int .i64 (0:Int))],[(0,.vs [.bool false a,.imm .free (.ns .u64 b) 1 1 c d,.int .i64 e])],1⟩
def XG(d:Nat)(b:Bool)(a:Int)(c:Int) :T ((Bool×(List Int)×Nat×Nat×Int)⊕(fC)) :=
  .ask (((d:Nat):Int) != (0:Int))
    (.leaf (.inr (.r0 d false ([]:List Int) 0 0 (0:Int))))
    (.need (va (bj a))<|.need (aU (cX (bj a)) (cY (bj a)) (cZ (bj a)))<|.need (dA (an b (aa (cX (bj a)) (cY (bj a)) (cZ (bj a))) c))<|.leaf (.inl ((ca (an b (aa (cX (bj a)) (cY (bj a)) (cZ (bj a))) c)),(cd (an b (aa (cX (bj a)) (cY (bj a)) (cZ (bj a))) c)),(cg (an b (aa (cX (bj a)) (cY (bj a)) (cZ (bj a))) c)),(ch (an b (aa (cX (bj a)) (cY (bj a)) (cZ (bj a))) c)),(cj (an b (aa (cX (bj a)) (cY (bj a)) (cZ (bj a))) c)))))
def XH(a:Bool)(b:List Int)(c:Nat)(d:Nat)(e:Int) :T ((Empty)⊕(fC)) :=
  .leaf (.inr (.r0 0 a b c d e))
def iE(a:Nat) :Option fC:=kD (aQ ((XE a).run) fun (b,k,c,d,e) =>
  aQ ((XG b c d e).run) fun (f,g,h,i,j) =>
  (XH f g h i j).run)
theorem XI(a:Nat){x:fC}(h:iE a=some x) :ag prog Ed [] [.flt false a] (EB x) :=
  lE true EB NQ h (Sg.cut 2 Jv (bp mK XD [⟨[],[0,128],[2,4,5]⟩,⟨[],[0,128],[2,4,5]⟩]) (fun ⟨i,j,k,l,m⟩=>Sg.cut 3 Jv (bp mK XF [⟨[(.cell 0 1,.fre 1 1 (.ns .u64 ([]:List Int)))],[0],[2,3]⟩,⟨[],[0],[2,3]⟩]) (fun ⟨n,o,p,q,r⟩=>bp mK lb [⟨[],[0],[2,3]⟩])))
    (fun x=>by cases x with | r0 b c d e f g=>exact kI [.agg [.bool false c,.imm .free (.ns .u64 d) 1 1 e f,.int .i64 g],.int .i64 ((b:Nat):Int)])
def wL:Option fC→Bool
  | some _=>true
  | none=>false
def Db:Option fC→Nat
  | some (.r0 x _ _ _ _ _)=>x
  | _=>0
def wM:Option fC→Bool
  | some (.r0 _ x _ _ _ _)=>x
  | _=>false
def rV:Option fC→List Int
  | some (.r0 _ _ x _ _ _)=>x
  | _=>[]
def rW:Option fC→Nat
  | some (.r0 _ _ _ x _ _)=>x
  | _=>0
def rX:Option fC→Nat
  | some (.r0 _ _ _ _ x _)=>x
  | _=>0
def wN:Option fC→Int
  | some (.r0 _ _ _ _ _ x)=>x
  | _=>0
theorem XJ{x:Option fC}(h:wL x=true) :x=some (.r0 (Db x) (wM x) (rV x) (rW x) (rX x) (wN x)):=by
  unfold wL at h
  split at h<;>first | rfl | (cases h;done) | (rename_i y;cases y;rfl)
def NR:aw:=bW Ed (.cons (.flt false) .nil) fun t=>(fun q=>[⟨EB (.r0 (Db q) (wM q) (rV q) (rW q) (rX q) (wN q)),[wL q]⟩]) (iE t.1)
theorem P6:aO prog NR:=aS fun t=>(aT (fun h=>XI t.1 (XJ h)) bb)
def NT:List aw:=NR::Da
theorem wO:aN prog (aH NT):=ao P6 mK
inductive gr where
  | r0 (a:Bool)
def Dc:gr→AE×aG
  | .r0 a=>(.ret,⟨ah 32 [(2,.bool false a)],[],0⟩)
theorem LI:jT Dc:=by intro x;cases x<;>(intro h;cases h)
def wP:gr→gd
  | .r0 a=>⟨.bool false a,[]⟩
def LJ(a:Bool) :aG:=⟨ah 32 [(2,.bool false a)],[],0⟩
def LK(a:Int)(b:Int)(c:List Nat) :T ((Bool)⊕(gr)) :=
  .ask (decide (a<(0:Int)))
    (.leaf (.inl true))
    (.ask (decide (a>(512:Int)))
      (.leaf (.inl true))
      (.ask (decide (b<(0:Int)))
        (.leaf (.inl true))
        (.ask (decide (b>(512:Int)))
          (.leaf (.inl true))
          (.need (dZ .i64 (a*b))<|.leaf (.inl ((((List.length c):Nat):Int) != (a*b)))))))
def LL(a:Bool) :T ((Empty)⊕(gr)) :=
  .leaf (.inr (.r0 a))
def bS(a:Int)(b:Int)(c:List Nat) :Option gr:=kD (aQ ((LK a b c).run) fun d =>
  (LL d).run)
theorem LM(b:Int)(c:Int)(d:Lv)(a:List Nat){x:gr}(h:bS b c a=some x) :ag prog Cy [] [.agg [.int .i64 b,.int .i64 c,.imm d (.fl a) 1 1 0 (List.length a)]] (wP x) :=
  lE false wP Dc h (Sg.cut 2 LI (bp wO LJ [⟨[],[],[2]⟩,⟨[],[],[2]⟩,⟨[],[],[2]⟩,⟨[],[],[2]⟩,⟨[],[],[2]⟩]) (fun f=>bp wO lb [⟨[],[],[2]⟩]))
    (fun x=>by cases x with | r0 e=>exact kI [.bool false e])
def du:Option gr→Bool
  | some _=>true
  | none=>false
def cS:Option gr→Bool
  | some (.r0 x)=>x
  | _=>false
theorem LN{x:Option gr}(h:du x=true) :x=some (.r0 (cS x)):=by
  unfold du at h
  split at h<;>first | rfl | (cases h;done) | (rename_i y;cases y;rfl)
def Dd:aw:=bW Cy (.cons (.agg (.cons (.int .i64) (.cons (.int .i64) (.cons .fl .nil)))) .nil) fun t=>(fun q=>[⟨wP (.r0 (cS q)),[du q]⟩]) (bS t.1.1 t.1.2.1 t.1.2.2.1.2)
theorem Gn:aO prog Dd:=aS fun t=>(aT (fun h=>LM t.1.1 t.1.2.1 t.1.2.2.1.1 t.1.2.2.1.2 (LN h)) bb)
def De:List aw:=Dd::NT
theorem mL:aN prog (aH De):=ao Gn wO
inductive aP where
  | r0 (a:Int)
def cH:aP→AE×aG
  | .r0 a=>(.ret,⟨ah 19 [(4,.int .i64 a)],[],0⟩)
theorem dG:jT cH:=by intro x;cases x<;>(intro h;cases h)
theorem lc(id:Nat) :nD id cH:=by intro x;cases x<;>(intro h;cases h)
def dS:aP→gd
  | .r0 a=>⟨.int .i64 a,[]⟩
def ld:List Code:=cR (nY mZ)
def lf(b:Lv)(a:List Nat)(_:Unit) :aG:=⟨ah 19 [(0,.imm b (.fl a) 1 1 0 (List.length a)),(1,.fn (.func mw) [] []),(7,.int .i64 (((List.length a):Nat):Int)),(8,.int .i64 (0:Int))],[],0⟩
def lg:T ((Unit)⊕(aP)) :=
  .leaf (.inl ())
def cy(b:Lv)(a:List Nat)(c:Nat) :aG:=⟨ah 19 [(0,.imm b (.fl a) 1 1 0 (List.length a)),(1,.fn (.func mw) [] []),(7,.int .i64 (((List.length a):Nat):Int)),(8,.int .i64 ((c:Nat):Int))],[],0⟩
def gg(_:Unit) :aG:=⟨ah 19 [],[],0⟩
def lh:List Code:=cR (fe ((((ld.drop 2).take 1)).headD .skip))
def lm(b:List Nat)(a:Nat) :T ((Nat)⊕((Unit)⊕(aP))) :=
  .ask (decide (((a:Nat):Int)<(((List.length b):Nat):Int)))
    (.need (eY ((a:Nat):Int) (List.length b))<|.need (fm a (List.length b))<|.ask (Z3 (List.getD b a 0) (List.getD b a 0))
      (.leaf (.inr (.inr (.r0 ((a:Nat):Int)))))
      (.ask ((0:Int)==(0:Int))
        (.ask (Z2 (qB (List.getD b a 0)) 9218868437227405311)
          (.leaf (.inr (.inr (.r0 ((a:Nat):Int)))))
          (.need (dZ .i64 (((a+1):Nat):Int))<|.leaf (.inl (a+1))))
        (.fail)))
    (.leaf (.inr (.inl ())))
def dB(a:List Nat) :Nat→Option ((Nat)⊕((Unit)⊕(aP))):=fun b =>
  (lm a b).run
theorem kP(b:Lv)(a:List Nat)(c:Nat) :Sg prog [] lh (cy b a c) (dB a c) (cy b a) (dD 0 gg cH):=by
  unfold dB;exact bp mL (cy b a) [⟨[],[],[4]⟩,⟨[],[],[4]⟩,⟨[],[],[0,1,7,8]⟩,⟨[],[],[]⟩]
def kQ:T ((Empty)⊕(aP)) :=
  .leaf (.inr (.r0 (-1:Int)))
def am(a:List Nat) :Option aP:=kD (aQ ((lg).run) fun _ =>
  aQ (ej (dB a) 0) fun _ =>
  (kQ).run)
theorem ln(b:Lv)(a:List Nat){x:aP}(h:am a=some x) :ag prog mZ [] [.imm b (.fl a) 1 1 0 (List.length a),.fn (.func mw) [] []] (dS x) :=
  lE false dS cH h (Sg.cut 2 dG (bp mL (lf b a) [⟨[],[],[0,1,7,8]⟩]) (fun _=>Sg.cut 1 dG (Fr ⟨[],[],[0,1,7,8]⟩ (cy b a) (gg) 0 dG (lc _) (fun c=>kP b a c)) (fun _=>bp mL lb [⟨[],[],[4]⟩])))
    (fun x=>by cases x with | r0 d=>exact kI [.int .i64 d])
def aD:Option aP→Bool
  | some _=>true
  | none=>false
def aE:Option aP→Int
  | some (.r0 x)=>x
  | _=>0
theorem lp{x:Option aP}(h:aD x=true) :x=some (.r0 (aE x)):=by
  unfold aD at h
  split at h<;>first | rfl | (cases h;done) | (rename_i y;cases y;rfl)
def gA:aw:=bW mZ (.cons .fl (.cons (.fn mw .nil .nil) .nil)) fun t=>(fun q=>[⟨dS (.r0 (aE q)),[aD q]⟩]) (am t.1.2)
theorem kw:aO prog gA:=aS fun t=>(aT (fun h=>ln t.1.1 t.1.2 (lp h)) bb)
def gB:List aw:=gA::De
theorem bx:aN prog (aH gB):=ao kw mL
inductive cp where
  | r0 (a:Nat) (b:Bool) (c:List Int) (d:Nat) (e:Nat) (f:Int)
def Df:cp→AE×aG
  | .r0 a b c d e f=>(.ret,⟨ah 45 [(4,.ptr 0 1 0 0),(5,.int .i64 ((a:Nat):Int))],[(0,.vs [.bool false b,.imm .free (.ns .u64 c) 1 1 d e,.int .i64 f])],1⟩)
theorem qk:jT Df:=by intro x;cases x<;>(intro h;cases h)
def wQ:cp→gd
  | .r0 a b c d e f=>⟨.tup [.agg [.bool false b,.imm .free (.ns .u64 c) 1 1 d e,.int .i64 f],.int .i64 ((a:Nat):Int)],[]⟩
def LO(a:Int)(b:Int) :Bool×Bool→aG:=fun (c,d)=>⟨ah 45 [(0,.int .i64 a),(1,.int .i64 b),(4,.ptr 0 1 0 0),(22,.bool false c)],[(0,.vs [.bool false d,.nsl,.int .i64 (0:Int)])],1⟩
def LP(a:Int)(b:Int) :T ((Bool×Bool)⊕(cp)) :=
  .ask (decide (a<(0:Int)))
    (.leaf (.inl (true,false)))
    (.ask (decide (a>(512:Int)))
      (.leaf (.inl (true,false)))
      (.ask (decide (b<(0:Int)))
        (.leaf (.inl (true,false)))
        (.leaf (.inl ((decide (b>(512:Int))),false)))))
def LQ(a:Bool) :Bool×(List Int)×Nat×Nat×Int→aG:=fun (b,c,d,e,f)=>⟨ah 45 [(4,.ptr 0 1 0 0),(6,.ptr 1 1 0 0)],[(0,.vs [.bool false a,.nsl,.int .i64 (0:Int)]),(1,.vs [.bool false b,.imm .free (.ns .u64 c) 1 1 d e,.int .i64 f])],2⟩
def LR(a:Int)(b:Int)(c:Bool) :T ((Bool×(List Int)×Nat×Nat×Int)⊕(cp)) :=
  .ask c
    (.leaf (.inr (.r0 2 false ([]:List Int) 0 0 (0:Int))))
    (.need (dZ .i64 ((64:Int)*(nH a (1:Int))))<|.need (dZ .i64 (((64:Int)*(nH a (1:Int)))*(nH b (1:Int))))<|.need (jS (bR (((64:Int)*(nH a (1:Int)))*(nH b (1:Int)))))<|.leaf (.inl ((jz (bR (((64:Int)*(nH a (1:Int)))*(nH b (1:Int))))),(jA (bR (((64:Int)*(nH a (1:Int)))*(nH b (1:Int))))),(jB (bR (((64:Int)*(nH a (1:Int)))*(nH b (1:Int))))),(jC (bR (((64:Int)*(nH a (1:Int)))*(nH b (1:Int))))),(jD (bR (((64:Int)*(nH a (1:Int)))*(nH b (1:Int))))))))
def LS(a:Bool) :Nat×Bool×(List Int)×Nat×Nat×Int→aG:=fun (b,c,d,e,f,g)=>⟨ah 45 [(4,.ptr 0 1 0 0),(7,.ptr 1 1 0 0),(8,.int .i64 ((b:Nat):Int))],[(0,.vs [.bool false a,.nsl,.int .i64 (0:Int)]),(1,.vs [.bool false c,.imm .free (.ns .u64 d) 1 1 e f,.int .i64 g])],2⟩
def LU(d:Bool)(a:List Int)(b:Nat)(c:Nat)(e:Int) :T ((Nat×Bool×(List Int)×Nat×Nat×Int)⊕(cp)) :=
  .need (aU b c a)<|.need (aU b c a)<|.need (kv (ai d (aa b c a) e d (aa b c a) e))<|.leaf (.inl ((im (ai d (aa b c a) e d (aa b c a) e)),(bM (ai d (aa b c a) e d (aa b c a) e)),(bD (ai d (aa b c a) e d (aa b c a) e)),(bE (ai d (aa b c a) e d (aa b c a) e)),(bF (ai d (aa b c a) e d (aa b c a) e)),(bN (ai d (aa b c a) e d (aa b c a) e))))
def LV:Nat×Bool×(List Int)×Nat×Nat×Int→aG:=fun (a,b,c,d,e,f)=>⟨ah 45 [(4,.ptr 0 1 0 0),(5,.int .i64 ((a:Nat):Int))],[(0,.vs [.bool false b,.imm .free (.ns .u64 c) 1 1 d e,.int .i64 f])],1⟩
def LW(f:Nat)(d:Bool)(a:List Int)(b:Nat)(c:Nat)(e:Int) :T ((Nat×Bool×(List Int)×Nat×Nat×Int)⊕(cp)) :=
  .ask (((f:Nat):Int) != (0:Int))
    (.leaf (.inr (.r0 f false ([]:List Int) 0 0 (0:Int))))
    (.need (aU b c a)<|.need (qi (gp d (aa b c a) e (-106:Int)))<|.leaf (.inl ((qV (gp d (aa b c a) e (-106:Int))),(qW (gp d (aa b c a) e (-106:Int))),(qX (gp d (aa b c a) e (-106:Int))),(qY (gp d (aa b c a) e (-106:Int))),(qZ (gp d (aa b c a) e (-106:Int))),(ra (gp d (aa b c a) e (-106:Int))))))
def Jw(a:Nat)(b:Bool)(c:List Int)(d:Nat)(e:Nat)(f:Int) :T ((Empty)⊕(cp)) :=
  .leaf (.inr (.r0 a b c d e f))
def gu(a:Int)(b:Int) :Option cp:=kD (aQ ((LP a b).run) fun (c,u) =>
  aQ ((LR a b c).run) fun (d,e,f,g,h) =>
  aQ ((LU d e f g h).run) fun (i,j,k,l,m,n) =>
  aQ ((LW i j k l m n).run) fun (o,p,q,r,s,t) =>
  (Jw o p q r s t).run)
theorem LX(a:Int)(b:Int){x:cp}(h:gu a b=some x) :ag prog vI [] [.int .i64 a,.int .i64 b] (wQ x) :=
  lE true wQ Df h (Sg.cut 2 qk (bp bx (LO a b) [⟨[],[0],[0,1,4,22]⟩,⟨[],[0],[0,1,4,22]⟩,⟨[],[0],[0,1,4,22]⟩,⟨[],[0],[0,1,4,22]⟩]) (fun ⟨k,c⟩=>Sg.cut 2 qk (bp bx (LQ c) [⟨[(.cell 0 1,.fre 1 1 (.ns .u64 ([]:List Int)))],[0],[4,5]⟩,⟨[],[0,113],[4,6]⟩]) (fun ⟨l,m,n,o,p⟩=>Sg.cut 1 qk (bp bx (LS c) [⟨[],[0,98],[4,7,8]⟩]) (fun ⟨q,r,s,t,u,v⟩=>Sg.cut 3 qk (bp bx LV [⟨[(.cell 0 1,.fre 1 1 (.ns .u64 ([]:List Int)))],[0],[4,5]⟩,⟨[],[0],[4,5]⟩]) (fun ⟨w,y,z,A,B,C⟩=>bp bx lb [⟨[],[0],[4,5]⟩])))))
    (fun x=>by cases x with | r0 d e f g i j=>exact kI [.agg [.bool false e,.imm .free (.ns .u64 f) 1 1 g i,.int .i64 j],.int .i64 ((d:Nat):Int)])
def ql:Option cp→Bool
  | some _=>true
  | none=>false
def rf:Option cp→Nat
  | some (.r0 x _ _ _ _ _)=>x
  | _=>0
def rg:Option cp→Bool
  | some (.r0 _ x _ _ _ _)=>x
  | _=>false
def rh:Option cp→List Int
  | some (.r0 _ _ x _ _ _)=>x
  | _=>[]
def ri:Option cp→Nat
  | some (.r0 _ _ _ x _ _)=>x
  | _=>0
def rj:Option cp→Nat
  | some (.r0 _ _ _ _ x _)=>x
  | _=>0
def rl:Option cp→Int
  | some (.r0 _ _ _ _ _ x)=>x
  | _=>0
theorem LY{x:Option cp}(h:ql x=true) :x=some (.r0 (rf x) (rg x) (rh x) (ri x) (rj x) (rl x)):=by
  unfold ql at h
  split at h<;>first | rfl | (cases h;done) | (rename_i y;cases y;rfl)
def Dg:aw:=bW vI (.cons (.int .i64) (.cons (.int .i64) .nil)) fun t=>(fun q=>[⟨wQ (.r0 (rf q) (rg q) (rh q) (ri q) (rj q) (rl q)),[ql q]⟩]) (gu t.1 t.2.1)
theorem Gp:aO prog Dg:=aS fun t=>(aT (fun h=>LX t.1 t.2.1 (LY h)) bb)
def Dh:List aw:=Dg::gB
theorem jE:aN prog (aH Dh):=ao Gp bx
inductive cP where
  | r0 (a:Nat) (b:List Bool) (c:List (List Int)) (d:List Int)
def rY:cP→AE×aG
  | .r0 a b c d=>(.ret,⟨ah 26 [(2,.sl 0 3 3 0 a a)],[(0,.cols a [.cb b,.cns .u64 c,.ci .i64 d])],1⟩)
theorem qm:jT rY:=by intro x;cases x<;>(intro h;cases h)
theorem LZ(id:Nat) :nD id rY:=by intro x;cases x<;>(intro h;cases h)
def wR:cP→gd
  | .r0 a b c d=>⟨.imm .free (.cols a [.cb b,.cns .u64 c,.ci .i64 d]) 3 3 0 a,[]⟩
def L0:List Code:=cR (nY rL)
def L4(b:Lv)(a:List Nat) :(List Bool)×(List (List Int))×(List Int)→aG:=fun (c,d,e)=>⟨ah 26 [(3,.sl 0 3 3 0 (List.length a) (List.length a)),(9,.imm b (.fl a) 1 1 0 (List.length a)),(10,.int .i64 (((List.length a):Nat):Int)),(11,.int .i64 (0:Int))],[(0,.cols (List.length a) [.cb c,.cns .u64 d,.ci .i64 e])],1⟩
def L5(a:List Nat) :T (((List Bool)×(List (List Int))×(List Int))⊕(cP)) :=
  .need (decide ((0:Int)≤(((List.length a):Nat):Int)))<|.need (decide ((((List.length a):Nat):Int)≤(((List.length a):Nat):Int)))<|.need (decide ((40:Int)*(((List.length a):Nat):Int)≤140737488355328))<|.need (dZ .i64 (((List.length a):Nat):Int))<|.leaf (.inl ((List.replicate (List.length a) false),(List.replicate (List.length a) []),(List.replicate (List.length a) (0:Int))))
def qn(b:Lv)(a:List Nat) :Nat×(List Bool)×(List (List Int))×(List Int)→aG:=fun (c,d,e,f)=>⟨ah 26 [(3,.sl 0 3 3 0 (List.length a) (List.length a)),(9,.imm b (.fl a) 1 1 0 (List.length a)),(10,.int .i64 (((List.length a):Nat):Int)),(11,.int .i64 ((c:Nat):Int))],[(0,.cols (List.length a) [.cb d,.cns .u64 e,.ci .i64 f])],1⟩
def Aj(a:List Nat) :(List Bool)×(List (List Int))×(List Int)→aG:=fun (b,c,d)=>⟨ah 26 [(3,.sl 0 3 3 0 (List.length a) (List.length a))],[(0,.cols (List.length a) [.cb b,.cns .u64 c,.ci .i64 d])],1⟩
def Jx:List Code:=cR (fe ((((L0.drop 3).take 1)).headD .skip))
def L6(b:Lv)(a:List Nat)(c:Nat) :(List Bool)×(List (List Int))×(List Int)→aG:=fun (d,e,f)=>⟨ah 26 [(3,.sl 0 3 3 0 (List.length a) (List.length a)),(9,.imm b (.fl a) 1 1 0 (List.length a)),(10,.int .i64 (((List.length a):Nat):Int)),(11,.int .i64 ((c:Nat):Int))],[(0,.cols (List.length a) [.cb d,.cns .u64 e,.ci .i64 f])],1⟩
def Jy(b:List Nat)(a:Nat)(c:List Bool)(d:List (List Int))(e:List Int) :T (((List Bool)×(List (List Int))×(List Int))⊕(((List Bool)×(List (List Int))×(List Int))⊕(cP))) :=
  .ask (decide (((a:Nat):Int)<(((List.length b):Nat):Int)))
    (.need (eY ((a:Nat):Int) (List.length b))<|.need (fm a (List.length b))<|.need (wL (iE (List.getD b a 0)))<|.need (eY ((a:Nat):Int) (List.length b))<|.need (fm a (List.length c))<|.need (fm a (List.length d))<|.need (decide ((rW (iE (List.getD b a 0)))+(rX (iE (List.getD b a 0)))≤List.length (rV (iE (List.getD b a 0)))))<|.need (fm a (List.length e))<|.leaf (.inl ((List.set c a (wM (iE (List.getD b a 0)))),(List.set d a (List.take (rX (iE (List.getD b a 0))) (List.drop (rW (iE (List.getD b a 0))) (rV (iE (List.getD b a 0)))))),(List.set e a (wN (iE (List.getD b a 0)))))))
    (.leaf (.inr (.inl (c,d,e))))
def Jz(a:Nat)(b:List Bool)(c:List (List Int))(d:List Int) :T ((Nat×(List Bool)×(List (List Int))×(List Int))⊕(((List Bool)×(List (List Int))×(List Int))⊕(cP))) :=
  .need (dZ .i64 (((a+1):Nat):Int))<|.leaf (.inl ((a+1),b,c,d))
def sV(b:List Nat) :Nat×(List Bool)×(List (List Int))×(List Int)→Option ((Nat×(List Bool)×(List (List Int))×(List Int))⊕(((List Bool)×(List (List Int))×(List Int))⊕(cP))):=fun (a,c,d,e) =>
  aQ ((Jy b a c d e).run) fun (f,g,h) =>
  (Jz a f g h).run
theorem JA(b:Lv)(a:List Nat)(c:Nat)(d:List Bool)(e:List (List Int))(f:List Int) :Sg prog [] Jx (qn b a (c,d,e,f)) (sV a (c,d,e,f)) (qn b a) (dD 0 (Aj a) rY):=by
  unfold sV;exact Sg.cut 3 (bh qm) (bp jE (L6 b a c) [⟨[],[0],[3,9,10,11]⟩,⟨[],[0],[3]⟩]) (fun ⟨g,h,i⟩=>bp jE (qn b a) [⟨[],[0],[3,9,10,11]⟩])
def JB(a:List Nat)(b:List Bool)(c:List (List Int))(d:List Int) :T ((Empty)⊕(cP)) :=
  .leaf (.inr (.r0 (List.length a) b c d))
def aj(a:List Nat) :Option cP:=kD (aQ ((L5 a).run) fun (b,c,d) =>
  aQ (ej (sV a) (0,b,c,d)) fun (e,f,g) =>
  (JB a e f g).run)
theorem L7(b:Lv)(a:List Nat){x:cP}(h:aj a=some x) :ag prog rL [] [.imm b (.fl a) 1 1 0 (List.length a)] (wR x) :=
  lE true wR rY h (Sg.cut 3 qm (bp jE (L4 b a) [⟨[],[48],[3,9,10,11]⟩]) (fun ⟨i,j,k⟩=>Sg.cut 1 qm (Fr ⟨[],[0],[3,9,10,11]⟩ (qn b a) (Aj a) 0 qm (LZ _) (fun ⟨d,e,f,g⟩=>JA b a d e f g)) (fun ⟨l,m,n⟩=>bp jE lb [⟨[],[0],[2]⟩])))
    (fun x=>by cases x with | r0 c o p q=>exact kI [.sl 0 3 3 0 c c])
def fJ:Option cP→Bool
  | some _=>true
  | none=>false
def aA:Option cP→Nat
  | some (.r0 x _ _ _)=>x
  | _=>0
def bX:Option cP→List Bool
  | some (.r0 _ x _ _)=>x
  | _=>[]
def bY:Option cP→List (List Int)
  | some (.r0 _ _ x _)=>x
  | _=>[]
def bZ:Option cP→List Int
  | some (.r0 _ _ _ x)=>x
  | _=>[]
theorem L8{x:Option cP}(h:fJ x=true) :x=some (.r0 (aA x) (bX x) (bY x) (bZ x)):=by
  unfold fJ at h
  split at h<;>first | rfl | (cases h;done) | (rename_i y;cases y;rfl)
def Di:aw:=bW rL (.cons .fl .nil) fun t=>(fun q=>[⟨wR (.r0 (aA q) (bX q) (bY q) (bZ q)),[fJ q]⟩]) (aj t.1.2)
theorem Gq:aO prog Di:=aS fun t=>(aT (fun h=>L7 t.1.1 t.1.2 (L8 h)) bb)
def Dj:List aw:=Di::Dh
theorem gW:aN prog (aH Dj):=ao Gq jE
inductive dc where
  | r0 (a:Nat) (b:Bool) (c:List Int) (d:Nat) (e:Nat) (f:Int)
def wS:dc→AE×aG
  | .r0 a b c d e f=>(.ret,⟨ah 51 [(4,.ptr 0 1 0 0),(5,.int .i64 ((a:Nat):Int))],[(0,.vs [.bool false b,.imm .free (.ns .u64 c) 1 1 d e,.int .i64 f])],1⟩)
theorem nA:jT wS:=by intro x;cases x<;>(intro h;cases h)
theorem UU(id:Nat) :nD id wS:=by intro x;cases x<;>(intro h;cases h)
def Bv:dc→gd
  | .r0 a b c d e f=>⟨.tup [.agg [.bool false b,.imm .free (.ns .u64 c) 1 1 d e,.int .i64 f],.int .i64 ((a:Nat):Int)],[]⟩
def wT:List Code:=cR (nY vN)
def UV(c:Lv)(a:Nat)(d:List Bool)(e:List (List Int))(f:List Int)(g:Lv)(b:Nat)(h:List Bool)(i:List (List Int))(j:List Int)(k:Bool) :aG:=⟨ah 51 [(0,.imm c (.cols a [.cb d,.cns .u64 e,.ci .i64 f]) 3 3 0 a),(1,.imm g (.cols b [.cb h,.cns .u64 i,.ci .i64 j]) 3 3 0 b),(4,.ptr 0 1 0 0)],[(0,.vs [.bool false k,.nsl,.int .i64 (0:Int)])],1⟩
def P7:T ((Bool)⊕(dc)) :=
  .leaf (.inl false)
def P8:List Code:=cR (zu (((wT.drop 1)).headD .skip))
def UW(c:Lv)(a:Nat)(d:List Bool)(e:List (List Int))(f:List Int)(g:Lv)(b:Nat)(h:List Bool)(i:List (List Int))(j:List Int)(k:Bool)(l:Bool) :aG:=⟨ah 51 [(0,.imm c (.cols a [.cb d,.cns .u64 e,.ci .i64 f]) 3 3 0 a),(1,.imm g (.cols b [.cb h,.cns .u64 i,.ci .i64 j]) 3 3 0 b),(4,.ptr 0 1 0 0),(6,.ptr 1 1 0 0),(7,.int .i64 (0:Int)),(18,.int .i64 ((a:Nat):Int)),(19,.int .i64 (0:Int))],[(0,.vs [.bool false k,.nsl,.int .i64 (0:Int)]),(1,.vs [.bool false l,.nsl,.int .i64 (0:Int)])],2⟩
def P9(a:Nat)(b:Nat) :T ((Bool)⊕(dc)) :=
  .ask (((a:Nat):Int) != ((b:Nat):Int))
    (.leaf (.inr (.r0 2 false ([]:List Int) 0 0 (0:Int))))
    (.leaf (.inl false))
def tV(c:Lv)(a:Nat)(d:List Bool)(e:List (List Int))(f:List Int)(g:Lv)(b:Nat)(h:List Bool)(i:List (List Int))(j:List Int)(k:Bool) :Nat×Nat×Bool×(List Int)×Nat×Nat×Int→aG:=fun (l,m,n,o,p,q,r)=>⟨ah 51 [(0,.imm c (.cols a [.cb d,.cns .u64 e,.ci .i64 f]) 3 3 0 a),(1,.imm g (.cols b [.cb h,.cns .u64 i,.ci .i64 j]) 3 3 0 b),(4,.ptr 0 1 0 0),(6,.ptr 1 1 0 0),(7,.int .i64 ((l:Nat):Int)),(18,.int .i64 ((a:Nat):Int)),(19,.int .i64 ((m:Nat):Int))],[(0,.vs [.bool false k,.nsl,.int .i64 (0:Int)]),(1,.vs [.bool false n,.imm .free (.ns .u64 o) 1 1 p q,.int .i64 r])],2⟩
def Dk(a:Bool) :Nat×Bool×(List Int)×Nat×Nat×Int→aG:=fun (b,c,d,e,f,g)=>⟨ah 51 [(4,.ptr 0 1 0 0),(6,.ptr 1 1 0 0),(7,.int .i64 ((b:Nat):Int))],[(0,.vs [.bool false a,.nsl,.int .i64 (0:Int)]),(1,.vs [.bool false c,.imm .free (.ns .u64 d) 1 1 e f,.int .i64 g])],2⟩
def Qa:List Code:=cR (fe ((((P8.drop 5).take 1)).headD .skip))
def Qb(c:Lv)(a:Nat)(d:List Bool)(e:List (List Int))(f:List Int)(g:Lv)(b:Nat)(h:List Bool)(i:List (List Int))(j:List Int)(k:Bool)(l:Nat) :Nat×Bool×(List Int)×Nat×Nat×Int→aG:=fun (m,n,o,p,q,r)=>⟨ah 51 [(0,.imm c (.cols a [.cb d,.cns .u64 e,.ci .i64 f]) 3 3 0 a),(1,.imm g (.cols b [.cb h,.cns .u64 i,.ci .i64 j]) 3 3 0 b),(4,.ptr 0 1 0 0),(6,.ptr 1 1 0 0),(7,.int .i64 ((m:Nat):Int)),(18,.int .i64 ((a:Nat):Int)),(19,.int .i64 ((l:Nat):Int))],[(0,.vs [.bool false k,.nsl,.int .i64 (0:Int)]),(1,.vs [.bool false n,.imm .free (.ns .u64 o) 1 1 p q,.int .i64 r])],2⟩
def Qc(m:Nat)(d:List Bool)(b:List (List Int))(e:List Int)(n:Nat)(f:List Bool)(c:List (List Int))(g:List Int)(o:Nat)(a:Nat)(k:Bool)(h:List Int)(i:Nat)(j:Nat)(l:Int) :T ((Nat×Bool×(List Int)×Nat×Nat×Int)⊕((Nat×Bool×(List Int)×Nat×Nat×Int)⊕(dc))) :=
  .ask (decide (((a:Nat):Int)<((m:Nat):Int)))
    (.need (eY ((a:Nat):Int) m)<|.need (fm a (List.length d))<|.need (fm a (List.length b))<|.need (fm a (List.length e))<|.need (eY ((a:Nat):Int) n)<|.need (fm a (List.length f))<|.need (fm a (List.length c))<|.need (fm a (List.length g))<|.need (aU 0 (List.length (List.getD b a [])) (List.getD b a []))<|.need (aU 0 (List.length (List.getD c a [])) (List.getD c a []))<|.need (kv (ai (List.getD d a false) (aa 0 (List.length (List.getD b a [])) (List.getD b a [])) (List.getD e a 0) (List.getD f a false) (aa 0 (List.length (List.getD c a [])) (List.getD c a [])) (List.getD g a 0)))<|.ask ((((im (ai (List.getD d a false) (aa 0 (List.length (List.getD b a [])) (List.getD b a [])) (List.getD e a 0) (List.getD f a false) (aa 0 (List.length (List.getD c a [])) (List.getD c a [])) (List.getD g a 0))):Nat):Int) != (0:Int))
      (.leaf (.inr (.inl ((im (ai (List.getD d a false) (aa 0 (List.length (List.getD b a [])) (List.getD b a [])) (List.getD e a 0) (List.getD f a false) (aa 0 (List.length (List.getD c a [])) (List.getD c a [])) (List.getD g a 0))),k,h,i,j,l))))
      (.need (aU i j h)<|.need (aU (bE (ai (List.getD d a false) (aa 0 (List.length (List.getD b a [])) (List.getD b a [])) (List.getD e a 0) (List.getD f a false) (aa 0 (List.length (List.getD c a [])) (List.getD c a [])) (List.getD g a 0))) (bF (ai (List.getD d a false) (aa 0 (List.length (List.getD b a [])) (List.getD b a [])) (List.getD e a 0) (List.getD f a false) (aa 0 (List.length (List.getD c a [])) (List.getD c a [])) (List.getD g a 0))) (bD (ai (List.getD d a false) (aa 0 (List.length (List.getD b a [])) (List.getD b a [])) (List.getD e a 0) (List.getD f a false) (aa 0 (List.length (List.getD c a [])) (List.getD c a [])) (List.getD g a 0))))<|.need (qH (ck k (aa i j h) l (bM (ai (List.getD d a false) (aa 0 (List.length (List.getD b a [])) (List.getD b a [])) (List.getD e a 0) (List.getD f a false) (aa 0 (List.length (List.getD c a [])) (List.getD c a [])) (List.getD g a 0))) (aa (bE (ai (List.getD d a false) (aa 0 (List.length (List.getD b a [])) (List.getD b a [])) (List.getD e a 0) (List.getD f a false) (aa 0 (List.length (List.getD c a [])) (List.getD c a [])) (List.getD g a 0))) (bF (ai (List.getD d a false) (aa 0 (List.length (List.getD b a [])) (List.getD b a [])) (List.getD e a 0) (List.getD f a false) (aa 0 (List.length (List.getD c a [])) (List.getD c a [])) (List.getD g a 0))) (bD (ai (List.getD d a false) (aa 0 (List.length (List.getD b a [])) (List.getD b a [])) (List.getD e a 0) (List.getD f a false) (aa 0 (List.length (List.getD c a [])) (List.getD c a [])) (List.getD g a 0)))) (bN (ai (List.getD d a false) (aa 0 (List.length (List.getD b a [])) (List.getD b a [])) (List.getD e a 0) (List.getD f a false) (aa 0 (List.length (List.getD c a [])) (List.getD c a [])) (List.getD g a 0)))))<|.ask ((((jR (ck k (aa i j h) l (bM (ai (List.getD d a false) (aa 0 (List.length (List.getD b a [])) (List.getD b a [])) (List.getD e a 0) (List.getD f a false) (aa 0 (List.length (List.getD c a [])) (List.getD c a [])) (List.getD g a 0))) (aa (bE (ai (List.getD d a false) (aa 0 (List.length (List.getD b a [])) (List.getD b a [])) (List.getD e a 0) (List.getD f a false) (aa 0 (List.length (List.getD c a [])) (List.getD c a [])) (List.getD g a 0))) (bF (ai (List.getD d a false) (aa 0 (List.length (List.getD b a [])) (List.getD b a [])) (List.getD e a 0) (List.getD f a false) (aa 0 (List.length (List.getD c a [])) (List.getD c a [])) (List.getD g a 0))) (bD (ai (List.getD d a false) (aa 0 (List.length (List.getD b a [])) (List.getD b a [])) (List.getD e a 0) (List.getD f a false) (aa 0 (List.length (List.getD c a [])) (List.getD c a [])) (List.getD g a 0)))) (bN (ai (List.getD d a false) (aa 0 (List.length (List.getD b a [])) (List.getD b a [])) (List.getD e a 0) (List.getD f a false) (aa 0 (List.length (List.getD c a [])) (List.getD c a [])) (List.getD g a 0))))):Nat):Int) != (0:Int))
        (.leaf (.inr (.inl ((jR (ck k (aa i j h) l (bM (ai (List.getD d a false) (aa 0 (List.length (List.getD b a [])) (List.getD b a [])) (List.getD e a 0) (List.getD f a false) (aa 0 (List.length (List.getD c a [])) (List.getD c a [])) (List.getD g a 0))) (aa (bE (ai (List.getD d a false) (aa 0 (List.length (List.getD b a [])) (List.getD b a [])) (List.getD e a 0) (List.getD f a false) (aa 0 (List.length (List.getD c a [])) (List.getD c a [])) (List.getD g a 0))) (bF (ai (List.getD d a false) (aa 0 (List.length (List.getD b a [])) (List.getD b a [])) (List.getD e a 0) (List.getD f a false) (aa 0 (List.length (List.getD c a [])) (List.getD c a [])) (List.getD g a 0))) (bD (ai (List.getD d a false) (aa 0 (List.length (List.getD b a [])) (List.getD b a [])) (List.getD e a 0) (List.getD f a false) (aa 0 (List.length (List.getD c a [])) (List.getD c a [])) (List.getD g a 0)))) (bN (ai (List.getD d a false) (aa 0 (List.length (List.getD b a [])) (List.getD b a [])) (List.getD e a 0) (List.getD f a false) (aa 0 (List.length (List.getD c a [])) (List.getD c a [])) (List.getD g a 0))))),(lH (ck k (aa i j h) l (bM (ai (List.getD d a false) (aa 0 (List.length (List.getD b a [])) (List.getD b a [])) (List.getD e a 0) (List.getD f a false) (aa 0 (List.length (List.getD c a [])) (List.getD c a [])) (List.getD g a 0))) (aa (bE (ai (List.getD d a false) (aa 0 (List.length (List.getD b a [])) (List.getD b a [])) (List.getD e a 0) (List.getD f a false) (aa 0 (List.length (List.getD c a [])) (List.getD c a [])) (List.getD g a 0))) (bF (ai (List.getD d a false) (aa 0 (List.length (List.getD b a [])) (List.getD b a [])) (List.getD e a 0) (List.getD f a false) (aa 0 (List.length (List.getD c a [])) (List.getD c a [])) (List.getD g a 0))) (bD (ai (List.getD d a false) (aa 0 (List.length (List.getD b a [])) (List.getD b a [])) (List.getD e a 0) (List.getD f a false) (aa 0 (List.length (List.getD c a [])) (List.getD c a [])) (List.getD g a 0)))) (bN (ai (List.getD d a false) (aa 0 (List.length (List.getD b a [])) (List.getD b a [])) (List.getD e a 0) (List.getD f a false) (aa 0 (List.length (List.getD c a [])) (List.getD c a [])) (List.getD g a 0))))),(lI (ck k (aa i j h) l (bM (ai (List.getD d a false) (aa 0 (List.length (List.getD b a [])) (List.getD b a [])) (List.getD e a 0) (List.getD f a false) (aa 0 (List.length (List.getD c a [])) (List.getD c a [])) (List.getD g a 0))) (aa (bE (ai (List.getD d a false) (aa 0 (List.length (List.getD b a [])) (List.getD b a [])) (List.getD e a 0) (List.getD f a false) (aa 0 (List.length (List.getD c a [])) (List.getD c a [])) (List.getD g a 0))) (bF (ai (List.getD d a false) (aa 0 (List.length (List.getD b a [])) (List.getD b a [])) (List.getD e a 0) (List.getD f a false) (aa 0 (List.length (List.getD c a [])) (List.getD c a [])) (List.getD g a 0))) (bD (ai (List.getD d a false) (aa 0 (List.length (List.getD b a [])) (List.getD b a [])) (List.getD e a 0) (List.getD f a false) (aa 0 (List.length (List.getD c a [])) (List.getD c a [])) (List.getD g a 0)))) (bN (ai (List.getD d a false) (aa 0 (List.length (List.getD b a [])) (List.getD b a [])) (List.getD e a 0) (List.getD f a false) (aa 0 (List.length (List.getD c a [])) (List.getD c a [])) (List.getD g a 0))))),(lJ (ck k (aa i j h) l (bM (ai (List.getD d a false) (aa 0 (List.length (List.getD b a [])) (List.getD b a [])) (List.getD e a 0) (List.getD f a false) (aa 0 (List.length (List.getD c a [])) (List.getD c a [])) (List.getD g a 0))) (aa (bE (ai (List.getD d a false) (aa 0 (List.length (List.getD b a [])) (List.getD b a [])) (List.getD e a 0) (List.getD f a false) (aa 0 (List.length (List.getD c a [])) (List.getD c a [])) (List.getD g a 0))) (bF (ai (List.getD d a false) (aa 0 (List.length (List.getD b a [])) (List.getD b a [])) (List.getD e a 0) (List.getD f a false) (aa 0 (List.length (List.getD c a [])) (List.getD c a [])) (List.getD g a 0))) (bD (ai (List.getD d a false) (aa 0 (List.length (List.getD b a [])) (List.getD b a [])) (List.getD e a 0) (List.getD f a false) (aa 0 (List.length (List.getD c a [])) (List.getD c a [])) (List.getD g a 0)))) (bN (ai (List.getD d a false) (aa 0 (List.length (List.getD b a [])) (List.getD b a [])) (List.getD e a 0) (List.getD f a false) (aa 0 (List.length (List.getD c a [])) (List.getD c a [])) (List.getD g a 0))))),(lK (ck k (aa i j h) l (bM (ai (List.getD d a false) (aa 0 (List.length (List.getD b a [])) (List.getD b a [])) (List.getD e a 0) (List.getD f a false) (aa 0 (List.length (List.getD c a [])) (List.getD c a [])) (List.getD g a 0))) (aa (bE (ai (List.getD d a false) (aa 0 (List.length (List.getD b a [])) (List.getD b a [])) (List.getD e a 0) (List.getD f a false) (aa 0 (List.length (List.getD c a [])) (List.getD c a [])) (List.getD g a 0))) (bF (ai (List.getD d a false) (aa 0 (List.length (List.getD b a [])) (List.getD b a [])) (List.getD e a 0) (List.getD f a false) (aa 0 (List.length (List.getD c a [])) (List.getD c a [])) (List.getD g a 0))) (bD (ai (List.getD d a false) (aa 0 (List.length (List.getD b a [])) (List.getD b a [])) (List.getD e a 0) (List.getD f a false) (aa 0 (List.length (List.getD c a [])) (List.getD c a [])) (List.getD g a 0)))) (bN (ai (List.getD d a false) (aa 0 (List.length (List.getD b a [])) (List.getD b a [])) (List.getD e a 0) (List.getD f a false) (aa 0 (List.length (List.getD c a [])) (List.getD c a [])) (List.getD g a 0))))),(lL (ck k (aa i j h) l (bM (ai (List.getD d a false) (aa 0 (List.length (List.getD b a [])) (List.getD b a [])) (List.getD e a 0) (List.getD f a false) (aa 0 (List.length (List.getD c a [])) (List.getD c a [])) (List.getD g a 0))) (aa (bE (ai (List.getD d a false) (aa 0 (List.length (List.getD b a [])) (List.getD b a [])) (List.getD e a 0) (List.getD f a false) (aa 0 (List.length (List.getD c a [])) (List.getD c a [])) (List.getD g a 0))) (bF (ai (List.getD d a false) (aa 0 (List.length (List.getD b a [])) (List.getD b a [])) (List.getD e a 0) (List.getD f a false) (aa 0 (List.length (List.getD c a [])) (List.getD c a [])) (List.getD g a 0))) (bD (ai (List.getD d a false) (aa 0 (List.length (List.getD b a [])) (List.getD b a [])) (List.getD e a 0) (List.getD f a false) (aa 0 (List.length (List.getD c a [])) (List.getD c a [])) (List.getD g a 0)))) (bN (ai (List.getD d a false) (aa 0 (List.length (List.getD b a [])) (List.getD b a [])) (List.getD e a 0) (List.getD f a false) (aa 0 (List.length (List.getD c a [])) (List.getD c a [])) (List.getD g a 0)))))))))
        (.leaf (.inl ((jR (ck k (aa i j h) l (bM (ai (List.getD d a false) (aa 0 (List.length (List.getD b a [])) (List.getD b a [])) (List.getD e a 0) (List.getD f a false) (aa 0 (List.length (List.getD c a [])) (List.getD c a [])) (List.getD g a 0))) (aa (bE (ai (List.getD d a false) (aa 0 (List.length (List.getD b a [])) (List.getD b a [])) (List.getD e a 0) (List.getD f a false) (aa 0 (List.length (List.getD c a [])) (List.getD c a [])) (List.getD g a 0))) (bF (ai (List.getD d a false) (aa 0 (List.length (List.getD b a [])) (List.getD b a [])) (List.getD e a 0) (List.getD f a false) (aa 0 (List.length (List.getD c a [])) (List.getD c a [])) (List.getD g a 0))) (bD (ai (List.getD d a false) (aa 0 (List.length (List.getD b a [])) (List.getD b a [])) (List.getD e a 0) (List.getD f a false) (aa 0 (List.length (List.getD c a [])) (List.getD c a [])) (List.getD g a 0)))) (bN (ai (List.getD d a false) (aa 0 (List.length (List.getD b a [])) (List.getD b a [])) (List.getD e a 0) (List.getD f a false) (aa 0 (List.length (List.getD c a [])) (List.getD c a [])) (List.getD g a 0))))),(lH (ck k (aa i j h) l (bM (ai (List.getD d a false) (aa 0 (List.length (List.getD b a [])) (List.getD b a [])) (List.getD e a 0) (List.getD f a false) (aa 0 (List.length (List.getD c a [])) (List.getD c a [])) (List.getD g a 0))) (aa (bE (ai (List.getD d a false) (aa 0 (List.length (List.getD b a [])) (List.getD b a [])) (List.getD e a 0) (List.getD f a false) (aa 0 (List.length (List.getD c a [])) (List.getD c a [])) (List.getD g a 0))) (bF (ai (List.getD d a false) (aa 0 (List.length (List.getD b a [])) (List.getD b a [])) (List.getD e a 0) (List.getD f a false) (aa 0 (List.length (List.getD c a [])) (List.getD c a [])) (List.getD g a 0))) (bD (ai (List.getD d a false) (aa 0 (List.length (List.getD b a [])) (List.getD b a [])) (List.getD e a 0) (List.getD f a false) (aa 0 (List.length (List.getD c a [])) (List.getD c a [])) (List.getD g a 0)))) (bN (ai (List.getD d a false) (aa 0 (List.length (List.getD b a [])) (List.getD b a [])) (List.getD e a 0) (List.getD f a false) (aa 0 (List.length (List.getD c a [])) (List.getD c a [])) (List.getD g a 0))))),(lI (ck k (aa i j h) l (bM (ai (List.getD d a false) (aa 0 (List.length (List.getD b a [])) (List.getD b a [])) (List.getD e a 0) (List.getD f a false) (aa 0 (List.length (List.getD c a [])) (List.getD c a [])) (List.getD g a 0))) (aa (bE (ai (List.getD d a false) (aa 0 (List.length (List.getD b a [])) (List.getD b a [])) (List.getD e a 0) (List.getD f a false) (aa 0 (List.length (List.getD c a [])) (List.getD c a [])) (List.getD g a 0))) (bF (ai (List.getD d a false) (aa 0 (List.length (List.getD b a [])) (List.getD b a [])) (List.getD e a 0) (List.getD f a false) (aa 0 (List.length (List.getD c a [])) (List.getD c a [])) (List.getD g a 0))) (bD (ai (List.getD d a false) (aa 0 (List.length (List.getD b a [])) (List.getD b a [])) (List.getD e a 0) (List.getD f a false) (aa 0 (List.length (List.getD c a [])) (List.getD c a [])) (List.getD g a 0)))) (bN (ai (List.getD d a false) (aa 0 (List.length (List.getD b a [])) (List.getD b a [])) (List.getD e a 0) (List.getD f a false) (aa 0 (List.length (List.getD c a [])) (List.getD c a [])) (List.getD g a 0))))),(lJ (ck k (aa i j h) l (bM (ai (List.getD d a false) (aa 0 (List.length (List.getD b a [])) (List.getD b a [])) (List.getD e a 0) (List.getD f a false) (aa 0 (List.length (List.getD c a [])) (List.getD c a [])) (List.getD g a 0))) (aa (bE (ai (List.getD d a false) (aa 0 (List.length (List.getD b a [])) (List.getD b a [])) (List.getD e a 0) (List.getD f a false) (aa 0 (List.length (List.getD c a [])) (List.getD c a [])) (List.getD g a 0))) (bF (ai (List.getD d a false) (aa 0 (List.length (List.getD b a [])) (List.getD b a [])) (List.getD e a 0) (List.getD f a false) (aa 0 (List.length (List.getD c a [])) (List.getD c a [])) (List.getD g a 0))) (bD (ai (List.getD d a false) (aa 0 (List.length (List.getD b a [])) (List.getD b a [])) (List.getD e a 0) (List.getD f a false) (aa 0 (List.length (List.getD c a [])) (List.getD c a [])) (List.getD g a 0)))) (bN (ai (List.getD d a false) (aa 0 (List.length (List.getD b a [])) (List.getD b a [])) (List.getD e a 0) (List.getD f a false) (aa 0 (List.length (List.getD c a [])) (List.getD c a [])) (List.getD g a 0))))),(lK (ck k (aa i j h) l (bM (ai (List.getD d a false) (aa 0 (List.length (List.getD b a [])) (List.getD b a [])) (List.getD e a 0) (List.getD f a false) (aa 0 (List.length (List.getD c a [])) (List.getD c a [])) (List.getD g a 0))) (aa (bE (ai (List.getD d a false) (aa 0 (List.length (List.getD b a [])) (List.getD b a [])) (List.getD e a 0) (List.getD f a false) (aa 0 (List.length (List.getD c a [])) (List.getD c a [])) (List.getD g a 0))) (bF (ai (List.getD d a false) (aa 0 (List.length (List.getD b a [])) (List.getD b a [])) (List.getD e a 0) (List.getD f a false) (aa 0 (List.length (List.getD c a [])) (List.getD c a [])) (List.getD g a 0))) (bD (ai (List.getD d a false) (aa 0 (List.length (List.getD b a [])) (List.getD b a [])) (List.getD e a 0) (List.getD f a false) (aa 0 (List.length (List.getD c a [])) (List.getD c a [])) (List.getD g a 0)))) (bN (ai (List.getD d a false) (aa 0 (List.length (List.getD b a [])) (List.getD b a [])) (List.getD e a 0) (List.getD f a false) (aa 0 (List.length (List.getD c a [])) (List.getD c a [])) (List.getD g a 0))))),(lL (ck k (aa i j h) l (bM (ai (List.getD d a false) (aa 0 (List.length (List.getD b a [])) (List.getD b a [])) (List.getD e a 0) (List.getD f a false) (aa 0 (List.length (List.getD c a [])) (List.getD c a [])) (List.getD g a 0))) (aa (bE (ai (List.getD d a false) (aa 0 (List.length (List.getD b a [])) (List.getD b a [])) (List.getD e a 0) (List.getD f a false) (aa 0 (List.length (List.getD c a [])) (List.getD c a [])) (List.getD g a 0))) (bF (ai (List.getD d a false) (aa 0 (List.length (List.getD b a [])) (List.getD b a [])) (List.getD e a 0) (List.getD f a false) (aa 0 (List.length (List.getD c a [])) (List.getD c a [])) (List.getD g a 0))) (bD (ai (List.getD d a false) (aa 0 (List.length (List.getD b a [])) (List.getD b a [])) (List.getD e a 0) (List.getD f a false) (aa 0 (List.length (List.getD c a [])) (List.getD c a [])) (List.getD g a 0)))) (bN (ai (List.getD d a false) (aa 0 (List.length (List.getD b a [])) (List.getD b a [])) (List.getD e a 0) (List.getD f a false) (aa 0 (List.length (List.getD c a [])) (List.getD c a [])) (List.getD g a 0))))))))))
    (.leaf (.inr (.inl (o,k,h,i,j,l))))
def Qd(a:Nat)(b:Nat)(c:Bool)(d:List Int)(e:Nat)(f:Nat)(g:Int) :T ((Nat×Nat×Bool×(List Int)×Nat×Nat×Int)⊕((Nat×Bool×(List Int)×Nat×Nat×Int)⊕(dc))) :=
  .need (dZ .i64 (((a+1):Nat):Int))<|.leaf (.inl (b,(a+1),c,d,e,f,g))
def wU(b:Nat)(c:List Bool)(d:List (List Int))(e:List Int)(f:Nat)(g:List Bool)(h:List (List Int))(i:List Int) :Nat×Nat×Bool×(List Int)×Nat×Nat×Int→Option ((Nat×Nat×Bool×(List Int)×Nat×Nat×Int)⊕((Nat×Bool×(List Int)×Nat×Nat×Int)⊕(dc))):=fun (j,a,k,l,m,n,o) =>
  aQ ((Qc b c d e f g h i j a k l m n o).run) fun (p,q,r,s,t,u) =>
  (Qd a p q r s t u).run
theorem Qe(j:Lv)(a:Nat)(b:List Bool)(c:List (List Int))(d:List Int)(k:Lv)(e:Nat)(f:List Bool)(g:List (List Int))(h:List Int)(i:Bool)(m:Nat)(l:Nat)(n:Bool)(o:List Int)(p:Nat)(q:Nat)(r:Int) :Sg prog [] Qa (tV j a b c d k e f g h i (m,l,n,o,p,q,r)) (wU a b c d e f g h (m,l,n,o,p,q,r)) (tV j a b c d k e f g h i) (dD 0 (Dk i) wS):=by
  unfold wU;exact Sg.cut 3 (bh nA) (bp gW (Qb j a b c d k e f g h i l) [⟨[],[0,1],[4,6,7]⟩,⟨[],[0,1],[4,6,7]⟩,⟨[],[0,1],[0,1,4,6,7,18,19]⟩,⟨[],[0,1],[4,6,7]⟩]) (fun ⟨s,t,u,v,w,x⟩=>bp gW (tV j a b c d k e f g h i) [⟨[],[0,1],[0,1,4,6,7,18,19]⟩])
def Qf(a:Nat)(b:Bool)(c:List Int)(d:Nat)(e:Nat)(f:Int) :T ((Empty)⊕(dc)) :=
  .ask (((a:Nat):Int) != (0:Int))
    (.leaf (.inr (.r0 a false ([]:List Int) 0 0 (0:Int))))
    (.leaf (.inr (.r0 0 b c d e f)))
def cm(a:Nat)(c:List Bool)(d:List (List Int))(e:List Int)(b:Nat)(f:List Bool)(g:List (List Int))(h:List Int) :Option dc:=kD (aQ ((P7).run) fun p =>
  aQ ((P9 a b).run) fun i =>
  aQ (ej (wU a c d e b f g h) (0,0,i,([]:List Int),0,0,(0:Int))) fun (j,k,l,m,n,o) =>
  (Qf j k l m n o).run)
theorem UX(j:Lv)(a:Nat)(c:List Bool)(d:List (List Int))(e:List Int)(k:Lv)(b:Nat)(f:List Bool)(g:List (List Int))(i:List Int){x:dc}(h:cm a c d e b f g i=some x) :ag prog vN [] [.imm j (.cols a [.cb c,.cns .u64 d,.ci .i64 e]) 3 3 0 a,.imm k (.cols b [.cb f,.cns .u64 g,.ci .i64 i]) 3 3 0 b] (Bv x) :=
  lE true Bv wS h (Sg.cut 1 nA (bp gW (UV j a c d e k b f g i) [⟨[],[0],[0,1,4]⟩]) (fun l=>Bd (by kernel_rfl:(wT.drop 1)=[.scope (zu (((wT.drop 1)).headD .skip))]) nA (Sg.cut 5 nA (bp gW (UW j a c d e k b f g i l) [⟨[(.cell 0 1,.fre 1 1 (.ns .u64 ([]:List Int)))],[0],[4,5]⟩,⟨[],[0,81],[0,1,4,6,7,18,19]⟩]) (fun A=>Sg.cut 1 nA (Fr ⟨[(.cell 1 1,.fre 1 1 (.ns .u64 ([]:List Int)))],[0,1],[0,1,4,6,7,18,19]⟩ (tV j a c d e k b f g i l) (Dk l) 0 nA (UU _) (fun ⟨m,n,o,p,q,r,s⟩=>Qe j a c d e k b f g i l m n o p q r s)) (fun ⟨B,C,D,E,F,G⟩=>bp gW lb [⟨[(.cell 0 1,.fre 1 1 (.ns .u64 ([]:List Int)))],[0],[4,5]⟩,⟨[],[0],[4,5]⟩])))))
    (fun x=>by cases x with | r0 t u v w y z=>exact kI [.agg [.bool false u,.imm .free (.ns .u64 v) 1 1 w y,.int .i64 z],.int .i64 ((t:Nat):Int)])
def nB:Option dc→Bool
  | some _=>true
  | none=>false
def lP:Option dc→Nat
  | some (.r0 x _ _ _ _ _)=>x
  | _=>0
def lQ:Option dc→Bool
  | some (.r0 _ x _ _ _ _)=>x
  | _=>false
def lR:Option dc→List Int
  | some (.r0 _ _ x _ _ _)=>x
  | _=>[]
def lS:Option dc→Nat
  | some (.r0 _ _ _ x _ _)=>x
  | _=>0
def lT:Option dc→Nat
  | some (.r0 _ _ _ _ x _)=>x
  | _=>0
def lU:Option dc→Int
  | some (.r0 _ _ _ _ _ x)=>x
  | _=>0
theorem UY{x:Option dc}(h:nB x=true) :x=some (.r0 (lP x) (lQ x) (lR x) (lS x) (lT x) (lU x)):=by
  unfold nB at h
  split at h<;>first | rfl | (cases h;done) | (rename_i y;cases y;rfl)
def JC:aw:=bW vN (.cons (.cols [.cb,.cns .u64,.ci .i64]) (.cons (.cols [.cb,.cns .u64,.ci .i64]) .nil)) fun t=>(fun q=>[⟨Bv (.r0 (lP q) (lQ q) (lR q) (lS q) (lT q) (lU q)),[nB q]⟩]) (cm t.1.2.1 t.1.2.2.1 t.1.2.2.2.1 t.1.2.2.2.2.1 t.2.1.2.1 t.2.1.2.2.1 t.2.1.2.2.2.1 t.2.1.2.2.2.2.1)
theorem L9:aO prog JC:=aS fun t=>(aT (fun h=>UX t.1.1 t.1.2.1 t.1.2.2.1 t.1.2.2.2.1 t.1.2.2.2.2.1 t.2.1.1 t.2.1.2.1 t.2.1.2.2.1 t.2.1.2.2.2.1 t.2.1.2.2.2.2.1 (UY h)) bb)
def JD:List aw:=JC::Dj
theorem uG:aN prog (aH JD):=ao L9 gW
inductive cq where
  | r0 (a:Nat) (b:Bool) (c:List Int) (d:Nat) (e:Nat) (f:Int)
def yD:cq→AE×aG
  | .r0 a b c d e f=>(.ret,⟨ah 9 [(2,.ptr 0 1 0 0),(3,.int .i64 ((a:Nat):Int))],[(0,.vs [.bool false b,.imm .free (.ns .u64 c) 1 1 d e,.int .i64 f])],1⟩)
theorem Gr:jT yD:=by intro x;cases x<;>(intro h;cases h)
def sW:cq→gd
  | .r0 a b c d e f=>⟨.tup [.agg [.bool false b,.imm .free (.ns .u64 c) 1 1 d e,.int .i64 f],.int .i64 ((a:Nat):Int)],[]⟩
def Gs:Nat×Bool×(List Int)×Nat×Nat×Int→aG:=fun (a,b,c,d,e,f)=>⟨ah 9 [(2,.ptr 0 1 0 0),(3,.int .i64 ((a:Nat):Int))],[(0,.vs [.bool false b,.imm .free (.ns .u64 c) 1 1 d e,.int .i64 f])],1⟩
def Gt(a:Nat)(b:List Bool)(c:List (List Int))(d:List Int) :T ((Nat×Bool×(List Int)×Nat×Nat×Int)⊕(cq)) :=
  .need (Nat.ble (0+a) a)<|.need (Nat.ble (0+a) a)<|.need (nB (cm a (aa 0 a b) (aa 0 a c) (aa 0 a d) a (aa 0 a b) (aa 0 a c) (aa 0 a d)))<|.leaf (.inl ((lP (cm a (aa 0 a b) (aa 0 a c) (aa 0 a d) a (aa 0 a b) (aa 0 a c) (aa 0 a d))),(lQ (cm a (aa 0 a b) (aa 0 a c) (aa 0 a d) a (aa 0 a b) (aa 0 a c) (aa 0 a d))),(lR (cm a (aa 0 a b) (aa 0 a c) (aa 0 a d) a (aa 0 a b) (aa 0 a c) (aa 0 a d))),(lS (cm a (aa 0 a b) (aa 0 a c) (aa 0 a d) a (aa 0 a b) (aa 0 a c) (aa 0 a d))),(lT (cm a (aa 0 a b) (aa 0 a c) (aa 0 a d) a (aa 0 a b) (aa 0 a c) (aa 0 a d))),(lU (cm a (aa 0 a b) (aa 0 a c) (aa 0 a d) a (aa 0 a b) (aa 0 a c) (aa 0 a d)))))
def Gu(a:Nat)(b:Bool)(c:List Int)(d:Nat)(e:Nat)(f:Int) :T ((Empty)⊕(cq)) :=
  .leaf (.inr (.r0 a b c d e f))
def bi(a:Nat)(b:List Bool)(c:List (List Int))(d:List Int) :Option cq:=kD (aQ ((Gt a b c d).run) fun (e,f,g,h,i,j) =>
  (Gu e f g h i j).run)
theorem Gv(e:Lv)(a:Nat)(b:List Bool)(c:List (List Int))(d:List Int){x:cq}(h:bi a b c d=some x) :ag prog sI [] [.imm e (.cols a [.cb b,.cns .u64 c,.ci .i64 d]) 3 3 0 a] (sW x) :=
  lE true sW yD h (Sg.cut 2 Gr (bp uG Gs [⟨[],[0],[2,3]⟩]) (fun ⟨m,n,o,p,q,r⟩=>bp uG lb [⟨[],[0],[2,3]⟩]))
    (fun x=>by cases x with | r0 f g i j k l=>exact kI [.agg [.bool false g,.imm .free (.ns .u64 i) 1 1 j k,.int .i64 l],.int .i64 ((f:Nat):Int)])
def gX:Option cq→Bool
  | some _=>true
  | none=>false
def hU:Option cq→Nat
  | some (.r0 x _ _ _ _ _)=>x
  | _=>0
def hX:Option cq→Bool
  | some (.r0 _ x _ _ _ _)=>x
  | _=>false
def hY:Option cq→List Int
  | some (.r0 _ _ x _ _ _)=>x
  | _=>[]
def hZ:Option cq→Nat
  | some (.r0 _ _ _ x _ _)=>x
  | _=>0
def ia:Option cq→Nat
  | some (.r0 _ _ _ _ x _)=>x
  | _=>0
def ib:Option cq→Int
  | some (.r0 _ _ _ _ _ x)=>x
  | _=>0
theorem Gw{x:Option cq}(h:gX x=true) :x=some (.r0 (hU x) (hX x) (hY x) (hZ x) (ia x) (ib x)):=by
  unfold gX at h
  split at h<;>first | rfl | (cases h;done) | (rename_i y;cases y;rfl)
def yE:aw:=bW sI (.cons (.cols [.cb,.cns .u64,.ci .i64]) .nil) fun t=>(fun q=>[⟨sW (.r0 (hU q) (hX q) (hY q) (hZ q) (ia q) (ib q)),[gX q]⟩]) (bi t.1.2.1 t.1.2.2.1 t.1.2.2.2.1 t.1.2.2.2.2.1)
theorem Dl:aO prog yE:=aS fun t=>(aT (fun h=>Gv t.1.1 t.1.2.1 t.1.2.2.1 t.1.2.2.2.1 t.1.2.2.2.2.1 (Gw h)) bb)
def yF:List aw:=yE::JD
theorem jY:aN prog (aH yF):=ao Dl uG
end
end Go.Plb.Seat
