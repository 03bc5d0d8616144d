/-
  Part 3 of what the claim leans on: an evaluator of the model, proved sound; the contracts of the functions.
-/
import Derived.Test.YtcfhbjfbfmlkiaaGreatDoorA2
namespace Go.Plb
noncomputable section
set_option linter.unusedSimpArgs false
set_option linter.unusedVariables false
set_option linter.unusedSectionVars false
variable [Rom]
def aa{α:Type}(o n:Nat)(l:List α) :List α:=(sa o l).take n
theorem HN{α:Type}(o n:Nat)(l:List α) :aa o n l=(l.drop o).take n:=by
  unfold aa sa;cases o<;>rfl
theorem bj{α:Type}(l:List α) :aa 0 l.length l=l:=by simp [HN]
theorem oh{α:Type}{o n:Nat}{l:List α}(h:o+n≤l.length) :(aa o n l).length=n:=by rw [HN];simp;omega
theorem ao6{α:Type}{o n:Nat}{l:List α}{i:Nat}{v:α}(h:(aa o n l)[i]? = some v) :l[o+i]? = some v:=by
  rw [HN,List.getElem?_take] at h
  split at h
  · rw [List.getElem?_drop] at h;exact h
  · cases h
def aK{α:Type}(o n:Nat)(xs:List α) :Bool:=Nat.ble (o+n) xs.length
theorem gC{α:Type}{o n:Nat}{xs:List α} :aK o n xs=true↔o+n≤xs.length:=by unfold aK;rw [Nat.ble_eq]
theorem QG{l:Lv}{d d':aN}{w es o n:Nat}(h:∀ x v,d'.cell? x=some v→d.cell? (o*w+x)=some v)(hr:d.recKept→d'.recKept)(hk:d'.kept=true)(hg:d'.foreign=true) :
    br (.imm l d w es o n) (.imm l d' w es 0 n):=by
  intro ρ w' u hv
  cases hv with
  | imm _ _ _ _ _ _ cap bl o' u' ha hb hc hv' hl' hr' _ _ =>
    have:=VR.imm (ρ:=ρ) (w:=w') l d' w es 0 n cap bl (o'+o*w) (fun x=>u' (o*w+x)) ha hb
      (fun x v hx=>by rw [Nat.add_assoc];exact hc _ v (h x v hx)) (fun x v hx=>hv' _ v (h x v hx)) hl' (hr hr') (fun _=>hk) hg
    simpa using this
  | immEnd _ _ _ _ _ _ _ hr'=>exact .immEnd _ _ _ _ _ _ _ (hr hr') (fun _=>hk) hg
theorem QH{l:Lv}{d':aN}{w es:Nat}(hr:d'.recKept)(hk:d'.kept=true)(hg:d'.foreign=true) :br .nsl (.imm l d' w es 0 0):=by
  intro ρ w' u hv;cases hv;exact .immEnd _ _ _ _ _ _ _ hr (fun _=>hk) hg
theorem QI{l:Lv}{d':aN}{w es:Nat}(hr:d'.recKept)(hk:d'.kept=true)(hg:d'.foreign=true) :br .esl (.imm l d' w es 0 0):=by
  intro ρ w' u hv;cases hv;exact .immEnd _ _ _ _ _ _ _ hr (fun _=>hk) hg
theorem jl.get:∀ {l1 l2:List AV},jl l1 l2→∀ {x:Nat} {v:AV},l2[x]? = some v→∃ v0,l1[x]? = some v0∧br v0 v
  | _,_,.nil,x,v,h=>by simp at h
  | _,_,.cons a t,0,v,h=>by simp at h;subst h;exact ⟨_,rfl,a⟩
  | _,_,.cons a t,x+1,v,h=>by
    obtain ⟨v0,h1,h2⟩:=jl.get t (by simpa using h)
    exact ⟨v0,by simpa using h1,h2⟩
theorem Tx{lv:Lv}{l1 l2:List AV}{k i j:Nat}(h:jl l1 l2)(hk:ek l1=true→ek l2=true)(hg:bN l1=true→bN l2=true) :br (.iptr lv (.vs l1) k i j) (.iptr lv (.vs l2) k i j):=by
  intro ρ w u hv
  cases hv with | iptr _ _ _ _ _ bl o u' ha hb hc hv' hr hk' hg' =>
  refine .iptr _ _ _ _ _ bl o u' ha hb (fun x v hx=>?_) (fun x v hx=>?_) trivial (fun q=>hk (hk' q)) (hg hg')
  · obtain ⟨v0,h1,h2⟩:=h.get hx
    exact hc x v0 h1
  · obtain ⟨v0,h1,h2⟩:=h.get hx
    exact h2 _ _ _ (hv' x v0 h1)
theorem br.fn{f:Fn}{a b a' b':List AV}(h:jl a a')(k:jl b b') :br (.fn f a b) (.fn f a' b'):=by
  intro ρ w u hv
  cases hv with | fn _ _ _ c1 c2 h1 h2=>exact .fn _ _ _ _ _ (h.vrs h1) (k.vrs h2)
theorem br.iface{t:TypeId}{a b:AV}(h:br a b) :br (.iface t a) (.iface t b):=by
  intro ρ w u hv
  cases hv with | iface _ _ u h1=>exact .iface _ _ _ (h _ _ _ h1)
theorem br.any(v:AV) :br v .any:=fun _ _ u _=>.any u
inductive CK where
  | cf
  | ci (k:IntKind)
  | cb
  | cs
  | cfl
  | cns (k:IntKind)
def CK.Ty:CK→Type
  | .cf=>List Nat
  | .ci _=>List Int
  | .cb=>List Bool
  | .cs=>List ByteArray
  | .cfl=>List (List Nat)
  | .cns _=>List (List Int)
def CK.fit:(k:CK)→(o n:Nat)→jc→Option k.Ty
  | .cf,o,n,.cf xs=>some (aa o n xs)
  | .ci k,o,n,.ci k' xs=>bif cT k k' then some (aa o n xs) else none
  | .cb,o,n,.cb xs=>some (aa o n xs)
  | .cs,o,n,.cs xs=>some (aa o n xs)
  | .cfl,o,n,.cfl xs=>some (aa o n xs)
  | .cns k,o,n,.cns k' xs=>bif cT k k' then some (aa o n xs) else none
  | _,_,_,_=>none
def CK.emp:(k:CK)→k.Ty
  | .cf=>([]:List Nat)
  | .ci _=>([]:List Int)
  | .cb=>([]:List Bool)
  | .cs=>([]:List ByteArray)
  | .cfl=>([]:List (List Nat))
  | .cns _=>([]:List (List Int))
def CK.col:(k:CK)→k.Ty→jc
  | .cf,xs=>.cf xs
  | .ci k,xs=>.ci k xs
  | .cb,xs=>.cb xs
  | .cs,xs=>.cs xs
  | .cfl,xs=>.cfl xs
  | .cns k,xs=>.cns k xs
theorem zb{a b:IntKind} :cT a b=true↔a=b:=by simp [cT]
theorem vx{α:Type}{f:α→AV}{o n i:Nat}{xs:List α}{v:AV}(h:((aa o n xs)[i]?).map f=some v) :(xs[o+i]?).map f=some v:=by
  simp only [Option.map_eq_some_iff] at h ⊢
  obtain ⟨y,h1,h2⟩:=h
  exact ⟨y,ao6 h1,h2⟩
theorem CK.fit_spec:∀ {k:CK} {o n:Nat} {c:jc} {t:k.Ty},k.fit o n c=some t→(o+n≤c.len→(k.col t).len=n)∧∀ i v,(k.col t).cell? i=some v→c.cell? (o+i)=some v:=by
  intro k o n c t h
  cases k<;>cases c<;>simp only [CK.fit] at h<;>try (cases h;done)
  case cf.cf xs=>cases h;exact ⟨fun q=>oh q,fun i v q=>vx q⟩
  case ci.ci k k' xs =>
    cases e:cT k k' with
    | false=>rw [e] at h;cases h
    | true=>rw [e] at h;cases h;cases (zb.1 e);exact ⟨fun q=>oh q,fun i v q=>vx q⟩
  case cb.cb xs=>cases h;exact ⟨fun q=>oh q,fun i v q=>vx q⟩
  case cs.cs xs=>cases h;exact ⟨fun q=>oh q,fun i v q=>vx q⟩
  case cfl.cfl xs=>cases h;exact ⟨fun q=>oh q,fun i v q=>vx q⟩
  case cns.cns k k' xs =>
    cases e:cT k k' with
    | false=>rw [e] at h;cases h
    | true=>rw [e] at h;cases h;cases (zb.1 e);exact ⟨fun q=>oh q,fun i v q=>vx q⟩
theorem CK.emp_len:∀ (k:CK),(k.col k.emp).len=0:=by intro k;cases k<;>rfl
def CKs.Ty:List CK→Type
  | []=>Unit
  | k::l=>k.Ty×CKs.Ty l
def CKs.fit:(l:List CK)→(o n:Nat)→List jc→Option (CKs.Ty l)
  | [],_,_,[]=>some ()
  | k::l,o,n,c::cs=>(k.fit o n c).bind fun t=>(CKs.fit l o n cs).map fun r=>(t,r)
  | _,_,_,_=>none
def CKs.emp:(l:List CK)→CKs.Ty l
  | []=>()
  | k::l=>(k.emp,CKs.emp l)
def CKs.cols:(l:List CK)→CKs.Ty l→List jc
  | [],_=>[]
  | k::l,t=>k.col t.1::CKs.cols l t.2
theorem CKs.len:∀ {l:List CK} {t:CKs.Ty l},(CKs.cols l t).length=l.length
  | [],t=>rfl
  | k::l,t=>by simp [CKs.cols,CKs.len]
theorem Pk:∀ {l:List CK} {o n:Nat} {cs:List jc} {t:CKs.Ty l},CKs.fit l o n cs=some t→cs.length=l.length
  | [],o,n,[],t,h=>rfl
  | [],o,n,c::cs,t,h=>by simp [CKs.fit] at h
  | k::l,o,n,[],t,h=>by simp [CKs.fit] at h
  | k::l,o,n,c::cs,t,h=>by
    simp only [CKs.fit] at h
    cases e1:k.fit o n c with
    | none=>rw [e1] at h;cases h
    | some a =>
      rw [e1] at h
      cases e2:CKs.fit l o n cs with
      | none=>simp only [Option.bind_some,e2] at h;cases h
      | some b=>simp [Pk e2]
theorem CKs.fit_spec:∀ {l:List CK} {o n:Nat} {cs:List jc} {t:CKs.Ty l},CKs.fit l o n cs=some t→∀ (j:Nat) (c':jc),(CKs.cols l t)[j]? = some c'→∃ c:jc,cs[j]? = some c∧(o+n≤c.len→c'.len=n)∧∀ i v,c'.cell? i=some v→c.cell? (o+i)=some v
  | [],o,n,cs,t,h,j,c',q=>by simp [CKs.cols] at q
  | k::l,o,n,[],t,h,j,c',q=>by simp [CKs.fit] at h
  | k::l,o,n,c::cs,t,h,j,c',q=>by
    simp only [CKs.fit] at h
    cases e1:k.fit o n c with
    | none=>rw [e1] at h;cases h
    | some a =>
      rw [e1] at h
      cases e2:CKs.fit l o n cs with
      | none=>simp only [Option.bind_some,e2] at h;cases h
      | some b =>
        simp only [Option.bind_some,e2] at h
        cases h
        cases j with
        | zero=>simp [CKs.cols] at q;subst q;exact ⟨c,rfl,CK.fit_spec e1⟩
        | succ j=>exact CKs.fit_spec e2 j c' (by simpa [CKs.cols] using q)
theorem CKs.emp_len:∀ (l:List CK),∀ c∈CKs.cols l (CKs.emp l),c.len=0
  | [],c,h=>by cases h
  | k::l,c,h=>by
    simp only [CKs.cols,CKs.emp,List.mem_cons] at h
    rcases h with rfl | h
    · exact CK.emp_len k
    · exact CKs.emp_len l c h
mutual
inductive KI where
  | int (k:IntKind)
  | flt (ex:Bool)
  | bool
  | kbool (b:Bool)
  | str
  | fl
  | ns (k:IntKind)
  | bs
  | ss
  | cols (l:List CK)
  | ivs (ps:tK) (w i j:Nat)
  | fn (f:FuncId) (a b:tK)
  | nfn
  | nptr
  | nsl
  | agg (ps:tK)
  | tup (ps:tK)
  | iface (t:TypeId) (p:KI)
  | niface
  | any
  | lsl (b:Nat)
  | lptr (b w i j:Nat)
inductive tK where
  | nil
  | cons (p:KI) (ps:tK)
end
mutual
def KI.Ty:KI→Type
  | .int _=>Int
  | .flt _=>Nat
  | .bool=>Bool
  | .str=>ByteArray
  | .fl=>Lv×List Nat
  | .ns _=>Lv×List Int
  | .bs=>Lv×List Bool
  | .ss=>Lv×List ByteArray
  | .cols l=>Lv×Nat×CKs.Ty l
  | .ivs ps _ _ _=>Lv×ps.Ty
  | .fn _ a b=>a.Ty×b.Ty
  | .agg ps=>ps.Ty
  | .tup ps=>ps.Ty
  | .iface _ p=>p.Ty
  | .kbool _=>Unit
  | .nfn=>Unit
  | .nptr=>Unit
  | .nsl=>Unit
  | .niface=>Unit
  | .any=>Unit
  | .lsl _=>Nat×Nat×Nat
  | .lptr _ _ _ _=>Unit
def tK.Ty:tK→Type
  | .nil=>Unit
  | .cons p ps=>p.Ty×ps.Ty
end
mutual
def KI.av:(p:KI)→p.Ty→AV
  | .int k,n=>.int k n
  | .flt ex,x=>.flt ex x
  | .bool,b=>.bool false b
  | .str,s=>.str s
  | .fl,t=>.imm t.1 (.fl t.2) 1 1 0 t.2.length
  | .ns k,t=>.imm t.1 (.ns k t.2) 1 1 0 t.2.length
  | .bs,t=>.imm t.1 (.bs t.2) 1 1 0 t.2.length
  | .ss,t=>.imm t.1 (.ss t.2) 1 1 0 t.2.length
  | .cols l,t=>.imm t.1 (.cols t.2.1 (CKs.cols l t.2.2)) l.length l.length 0 t.2.1
  | .ivs ps w i j,t=>.iptr t.1 (.vs (ps.avs t.2)) w i j
  | .fn f a b,t=>.fn (.func f) (a.avs t.1) (b.avs t.2)
  | .agg ps,t=>.agg (ps.avs t)
  | .tup ps,t=>.tup (ps.avs t)
  | .iface y p,t=>.iface y (p.av t)
  | .kbool b,_=>.bool true b
  | .nfn,_=>.nfn
  | .nptr,_=>.nptr
  | .nsl,_=>.nsl
  | .niface,_=>.niface
  | .any,_=>.any
  | .lsl b,t=>.sl b 1 1 t.1 t.2.1 t.2.2
  | .lptr b w i j,_=>.ptr b w i j
def tK.avs:(ps:tK)→ps.Ty→List AV
  | .nil,_=>[]
  | .cons p ps,t=>p.av t.1::ps.avs t.2
end
def ajX(a b:Bool) :Bool:=bif a then b else !b
theorem ajY{a b:Bool} :ajX a b=true↔a=b:=by cases a<;>cases b<;>simp [ajX]
def CKs.ok(n:Nat)(m:Nat) :Bool:=Nat.ble n m
def ao7(k:IntKind) :AV→Option (Int×List Bool)
  | .int k' n=>bif cT k k' then some (n,[]) else none
  | _=>none
def ao8(ex:Bool) :AV→Option (Nat×List Bool)
  | .flt ex' x=>bif ex && !ex' then none else some (x,[])
  | _=>none
def amh:AV→Option (Bool×List Bool)
  | .bool kn b=>bif kn then none else some (b,[])
  | _=>none
def ags(b:Bool) :AV→Option (Unit×List Bool)
  | .bool kn b'=>bif kn&&ajX b b' then some ((),[]) else none
  | _=>none
def ao9:AV→Option (ByteArray×List Bool)
  | .str s=>some (s,[])
  | _=>none
def aaw{α:Type}(f:aN→Option (List α)) :AV→Option ((Lv×List α)×List Bool)
  | .imm l d w es o n=>(f d).bind fun xs=>bif Nat.beq w 1&&Nat.beq es 1 then some ((l,aa o n xs),[aK o n xs]) else none
  | .nsl=>some ((.free,[]),[])
  | .esl=>some ((.free,[]),[])
  | _=>none
def apa:aN→Option (List Nat)
  | .fl xs=>some xs
  | _=>none
def apb(k:IntKind) :aN→Option (List Int)
  | .ns k' xs=>bif cT k k' then some xs else none
  | _=>none
def apc:aN→Option (List Bool)
  | .bs xs=>some xs
  | _=>none
def ari:aN→Option (List ByteArray)
  | .ss xs=>some xs
  | _=>none
def arj:aN→Option (List AV)
  | .vs xs=>some xs
  | _=>none
def ami:aN→Option (Nat×List jc)
  | .cols m cs=>some (m,cs)
  | _=>none
def aci(ks:List CK) :AV→Option ((Lv×Nat×CKs.Ty ks)×List Bool)
  | .imm l d w es o n=>(ami d).bind fun q=>bif Nat.beq w ks.length&&Nat.beq es ks.length then (CKs.fit ks o n q.2).map fun t=>((l,n,t),[Nat.ble (o+n) q.1]) else none
  | .nsl=>some ((.free,0,CKs.emp ks),[])
  | .esl=>some ((.free,0,CKs.emp ks),[])
  | _=>none
def ark(w i j:Nat) :AV→Option (Lv×List AV)
  | .iptr l d w' i' j'=>(arj d).bind fun xs=>bif Nat.beq w w'&&(Nat.beq i i'&&Nat.beq j j') then some (l,xs) else none
  | _=>none
def asv(f:FuncId) :AV→Option (List AV×List AV)
  | .fn (.func f') x y=>bif Nat.beq f f' then some (x,y) else none
  | _=>none
def arl:AV→Option (List AV)
  | .agg l=>some l
  | _=>none
def arm:AV→Option (List AV)
  | .tup l=>some l
  | _=>none
def amj(t:TypeId) :AV→Option AV
  | .iface t' v=>bif Nat.beq t t' then some v else none
  | _=>none
def arn:AV→Option (Unit×List Bool)
  | .nfn=>some ((),[])
  | _=>none
def apd:AV→Option (Unit×List Bool)
  | .nptr=>some ((),[])
  | _=>none
def aro:AV→Option (Unit×List Bool)
  | .nsl=>some ((),[])
  | _=>none
def ape(b:Nat) :AV→Option ((Nat×Nat×Nat)×List Bool)
  | .sl b' w es i len cap=>bif Nat.beq b b'&&(Nat.beq w 1&&Nat.beq es 1) then some ((i,len,cap),[]) else none
  | _=>none
def amk(b w i j:Nat) :AV→Option (Unit×List Bool)
  | .ptr b' w' i' j'=>bif (Nat.beq b b'&&Nat.beq w w')&&(Nat.beq i i'&&Nat.beq j j') then some ((),[]) else none
  | _=>none
def agt:AV→Option (Unit×List Bool)
  | .niface=>some ((),[])
  | _=>none
mutual
def KI.fit:(p:KI)→AV→Option (p.Ty×List Bool)
  | .int k=>ao7 k
  | .flt ex=>ao8 ex
  | .bool=>amh
  | .kbool b=>ags b
  | .str=>ao9
  | .fl=>aaw apa
  | .ns k=>aaw (apb k)
  | .bs=>aaw apc
  | .ss=>aaw ari
  | .cols ks=>aci ks
  | .ivs ps w i j=>fun v=>match ark w i j v with
    | some q=>match ps.fit q.2 with
      | some r=>some ((q.1,r.1),r.2)
      | none=>none
    | none=>none
  | .fn f a b=>fun v=>match asv f v with
    | some q=>match a.fit q.1 with
      | some r=>match b.fit q.2 with
        | some s=>some ((r.1,s.1),r.2++s.2)
        | none=>none
      | none=>none
    | none=>none
  | .agg ps=>fun v=>match arl v with
    | some l=>ps.fit l
    | none=>none
  | .tup ps=>fun v=>match arm v with
    | some l=>ps.fit l
    | none=>none
  | .iface t p=>fun v=>match amj t v with
    | some u=>p.fit u
    | none=>none
  | .nfn=>arn
  | .nptr=>apd
  | .nsl=>aro
  | .niface=>agt
  | .any=>fun _=>some ((),[])
  | .lsl b=>ape b
  | .lptr b w i j=>amk b w i j
def tK.fit:(ps:tK)→List AV→Option (ps.Ty×List Bool)
  | .nil=>fun l=>match l with
    | []=>some ((),[])
    | _::_=>none
  | .cons p ps=>fun l=>match l with
    | []=>none
    | v::l=>match p.fit v with
      | some r=>match ps.fit l with
        | some s=>some ((r.1,s.1),r.2++s.2)
        | none=>none
      | none=>none
end
theorem ans{ks:List CK}{o n m:Nat}{cs:List jc}{t:CKs.Ty ks}(h:CKs.fit ks o n cs=some t) :∀ x v,(aN.cols n (CKs.cols ks t)).cell? x=some v→(aN.cols m cs).cell? (o*ks.length+x)=some v:=by
  intro x v hx
  have hl:=Pk h
  obtain ⟨c',h1,_,h3⟩:=jx hx
  obtain ⟨c,q1,_,q3⟩:=CKs.fit_spec h _ _ h1
  rw [CKs.len] at h1 h3 q1
  have hpos:0<ks.length:=by
    have:=(List.getElem?_eq_some_iff.1 q1).1
    omega
  simp only [aN.cell?,hl,Option.bind_eq_some_iff]
  refine ⟨c,?_,?_⟩
  · rw [Nat.add_comm,Nat.add_mul_mod_self_right];exact q1
  · rw [Nat.add_comm,Nat.add_mul_div_right _ _ hpos,Nat.add_comm];exact q3 _ _ h3
structure Wk (v v':AV):Prop where
  weak:br v v'
  kept:v.kept=true→v'.kept=true
  foreign:v.foreign=true→v'.foreign=true
structure WkL (v v':List AV):Prop where
  weak:jl v v'
  kept:ek v=true→ek v'=true
  foreign:bN v=true→bN v'=true
theorem Wk.refl(v:AV) :Wk v v:=⟨br.refl v,id,id⟩
theorem Wk.fltL(x:Nat) :Wk (.flt true x) (.flt false x):=⟨fun ρ w u h=>(by
  cases h with | flt _ _ y hf =>
  rcases hf with rfl | ⟨q,_⟩
  · exact .flt _ _ _ (.inl rfl)
  · cases q),id,id⟩
theorem WkL.cons{v v':AV}{l l':List AV}(h:Wk v v')(k:WkL l l') :WkL (v::l) (v'::l') :=
  ⟨.cons h.weak k.weak,fun q=>by simp only [ek,Bool.and_eq_true] at q ⊢;exact ⟨h.kept q.1,k.kept q.2⟩,fun q=>by simp only [bN,Bool.and_eq_true] at q ⊢;exact ⟨h.foreign q.1,k.foreign q.2⟩⟩
theorem Wk.part{l:Lv}{d d':aN}{w es o n:Nat}(h:∀ x v,d'.cell? x=some v→d.cell? (o*w+x)=some v)(hr:d.recKept→d'.recKept)(hk:d'.kept=true)(hg:d'.foreign=true) :Wk (.imm l d w es o n) (.imm l d' w es 0 n) :=
  ⟨QG h hr hk hg,id,id⟩
theorem Wk.nsl{d':aN}{w es:Nat}(hr:d'.recKept)(hk:d'.kept=true)(hg:d'.foreign=true) :Wk .nsl (.imm .free d' w es 0 0):=⟨QH hr hk hg,id,id⟩
theorem Wk.esl{d':aN}{w es:Nat}(hr:d'.recKept)(hk:d'.kept=true)(hg:d'.foreign=true) :Wk .esl (.imm .free d' w es 0 0):=⟨QI hr hk hg,id,id⟩
theorem Wk.fl{l:Lv}{xs:List Nat}{o n:Nat}(h:aK o n xs=true) :Wk (.imm l (.fl xs) 1 1 o n) (.imm l (.fl (aa o n xs)) 1 1 0 (aa o n xs).length):=by
  rw [oh (gC.1 h)];exact .part (fun x v q=>by rw [Nat.mul_one];exact vx q) (fun _=>trivial) rfl rfl
theorem Wk.ns{k:IntKind}{l:Lv}{xs:List Int}{o n:Nat}(h:aK o n xs=true) :Wk (.imm l (.ns k xs) 1 1 o n) (.imm l (.ns k (aa o n xs)) 1 1 0 (aa o n xs).length):=by
  rw [oh (gC.1 h)];exact .part (fun x v q=>by rw [Nat.mul_one];exact vx q) (fun _=>trivial) rfl rfl
theorem Wk.bs{l:Lv}{xs:List Bool}{o n:Nat}(h:aK o n xs=true) :Wk (.imm l (.bs xs) 1 1 o n) (.imm l (.bs (aa o n xs)) 1 1 0 (aa o n xs).length):=by
  rw [oh (gC.1 h)];exact .part (fun x v q=>by rw [Nat.mul_one];exact vx q) (fun _=>trivial) rfl rfl
theorem Wk.ss{l:Lv}{xs:List ByteArray}{o n:Nat}(h:aK o n xs=true) :Wk (.imm l (.ss xs) 1 1 o n) (.imm l (.ss (aa o n xs)) 1 1 0 (aa o n xs).length):=by
  rw [oh (gC.1 h)];exact .part (fun x v q=>by rw [Nat.mul_one];exact vx q) (fun _=>trivial) rfl rfl
theorem apf{ks:List CK}{o n m:Nat}{cs:List jc}{t:CKs.Ty ks}(h:CKs.fit ks o n cs=some t)(hm:o+n≤m) :(aN.cols m cs).recKept→(aN.cols n (CKs.cols ks t)).recKept:=by
  intro hr c hc
  obtain ⟨j,hj⟩:=List.getElem?_of_mem hc
  obtain ⟨c0,q1,q2,_⟩:=CKs.fit_spec h j c hj
  exact q2 (by rw [hr c0 (List.mem_of_getElem? q1)];exact hm)
theorem asw{w es n:Nat}(h:(Nat.beq w n&&Nat.beq es n)=true) :w=n∧es=n:=by
  rw [Bool.and_eq_true] at h;exact ⟨Nat.eq_of_beq_eq_true h.1,Nat.eq_of_beq_eq_true h.2⟩
theorem yu{α:Type}{c:Bool}{a:α}{x:α}(h:(bif c then some a else none)=some x) :c=true∧a=x:=by
  cases c with
  | true=>exact ⟨rfl,by simpa using h⟩
  | false=>cases h
theorem asx{α:Type}{c:Bool}{a:Option α}{x:α}(h:(bif c then a else none)=some x) :c=true∧a=some x:=by
  cases c with
  | true=>exact ⟨rfl,h⟩
  | false=>cases h
theorem DB{α:Type}{f:aN→Option (List α)}{g:List α→aN}(hg:∀ {d xs},f d=some xs→d=g xs) 
    (hw:∀ {l xs o n},aK o n xs=true→Wk (.imm l (g xs) 1 1 o n) (.imm l (g (aa o n xs)) 1 1 0 (aa o n xs).length)) (h0:(g []).recKept∧(g []).kept=true∧(g []).foreign=true)
    {v:AV} {t:Lv×List α} {o:List Bool} (h:aaw f v=some (t,o)) (ho:aH o):Wk v (.imm t.1 (g t.2) 1 1 0 t.2.length):=by
  unfold aaw at h
  split at h
  · rename_i l d w es i n
    cases e:f d with
    | none=>rw [e] at h;cases h
    | some xs =>
      rw [e] at h
      obtain ⟨e2,h⟩:=yu h
      obtain ⟨rfl,rfl⟩:=asw e2
      cases h;cases hg e;exact hw ho.1
  · cases h;exact .nsl h0.1 h0.2.1 h0.2.2
  · cases h;exact .esl h0.1 h0.2.1 h0.2.2
  · cases h
theorem acj{ks:List CK}{v:AV}{t:Lv×Nat×CKs.Ty ks}{o:List Bool}(h:aci ks v=some (t,o))(ho:aH o) :Wk v (.imm t.1 (.cols t.2.1 (CKs.cols ks t.2.2)) ks.length ks.length 0 t.2.1):=by
  unfold aci at h
  split at h
  · rename_i l d w es i n
    cases d<;>simp only [ami,Option.bind_none,Option.bind_some,reduceCtorEq] at h
    rename_i m cs
    have e:=(asx h).1;replace h:=(asx h).2
    obtain ⟨rfl,rfl⟩:=asw e
    cases e2:CKs.fit ks i n cs with
    | none=>rw [e2] at h;cases h
    | some r =>
      rw [e2] at h;cases h
      have:i+n≤m:=Nat.le_of_ble_eq_true ho.1
      exact .part (ans e2) (apf e2 this) rfl rfl
  · cases h;exact .nsl (CKs.emp_len ks) rfl rfl
  · cases h;exact .esl (CKs.emp_len ks) rfl rfl
  · cases h
mutual
theorem KI.fit_spec:∀ (p:KI) (v:AV) {t:p.Ty} {o:List Bool},p.fit v=some (t,o)→aH o→Wk v (p.av t)
  | .int k,v,t,o,h,ho=>by
    simp only [KI.fit,ao7] at h
    split at h
    · obtain ⟨e,h⟩:=yu h
      cases h;cases zb.1 e;exact .refl _
    · cases h
  | .flt ex,v,t,o,h,ho=>by
    simp only [KI.fit,ao8] at h
    split at h
    · rename_i ex' x
      cases ex with
      | true =>
        cases ex' with
        | true=>cases h;exact .refl _
        | false=>cases h
      | false =>
        cases ex' with
        | true=>cases h;exact .fltL x
        | false=>cases h;exact .refl _
    · cases h
  | .bool,v,t,o,h,ho=>by
    simp only [KI.fit,amh] at h
    split at h
    · rename_i kn b
      cases kn with
      | true=>cases h
      | false=>cases h;exact .refl _
    · cases h
  | .kbool b,v,t,o,h,ho=>by
    simp only [KI.fit,ags] at h
    split at h
    · obtain ⟨e,h⟩:=yu h
      rw [Bool.and_eq_true] at e
      cases e.1;cases ajY.1 e.2;exact .refl _
    · cases h
  | .str,v,t,o,h,ho=>by
    simp only [KI.fit,ao9] at h
    split at h
    · cases h;exact .refl _
    · cases h
  | .fl,v,t,o,h,ho=>DB (g:=.fl) (f:=apa) (fun {d xs} e=>by cases d<;>cases e;rfl) (fun q=>.fl q) ⟨trivial,rfl,rfl⟩ h ho
  | .ns k,v,t,o,h,ho=>DB (g:=.ns k) (f:=apb k) (fun {d xs} e=>by
      cases d<;>try (cases e;done)
      have e1:=(yu e).1;replace e:=(yu e).2
      cases zb.1 e1;cases e;rfl) (fun q=>.ns q) ⟨trivial,rfl,rfl⟩ h ho
  | .bs,v,t,o,h,ho=>DB (g:=.bs) (f:=apc) (fun {d xs} e=>by cases d<;>cases e;rfl) (fun q=>.bs q) ⟨trivial,rfl,rfl⟩ h ho
  | .ss,v,t,o,h,ho=>DB (g:=.ss) (f:=ari) (fun {d xs} e=>by cases d<;>cases e;rfl) (fun q=>.ss q) ⟨trivial,rfl,rfl⟩ h ho
  | .cols ks,v,t,o,h,ho=>acj h ho
  | .ivs ps w i j,v,t,o,h,ho=>by
    simp only [KI.fit] at h
    split at h
    case h_2=>cases h
    rename_i q hq
    split at h
    case h_2=>cases h
    rename_i r hr
    cases h
    unfold ark at hq
    split at hq
    case h_2=>cases hq
    rename_i l d w' i' j'
    cases d<;>simp only [arj,Option.bind_none,Option.bind_some,reduceCtorEq] at hq
    rename_i xs
    have e:=(yu hq).1;replace hq:=(yu hq).2
    rw [Bool.and_eq_true,Bool.and_eq_true] at e
    cases Nat.eq_of_beq_eq_true e.1
    cases Nat.eq_of_beq_eq_true e.2.1
    cases Nat.eq_of_beq_eq_true e.2.2
    cases hq
    have:=tK.fit_spec ps xs hr ho
    exact ⟨Tx this.weak this.kept this.foreign,id,id⟩
  | .fn f a b,v,t,o,h,ho=>by
    simp only [KI.fit] at h
    split at h
    case h_2=>cases h
    rename_i q hq
    split at h
    case h_2=>cases h
    rename_i r hr
    split at h
    case h_2=>cases h
    rename_i s hs
    cases h
    unfold asv at hq
    split at hq
    case h_2=>cases hq
    have e:=(yu hq).1;replace hq:=(yu hq).2
    cases Nat.eq_of_beq_eq_true e
    cases hq
    rw [bn] at ho
    have h1:=tK.fit_spec a _ hr ho.1
    have h2:=tK.fit_spec b _ hs ho.2
    refine ⟨br.fn h1.weak h2.weak,fun q=>?_,fun q=>?_⟩
    · simp only [KI.av,AV.kept,Bool.and_eq_true] at q ⊢;exact ⟨h1.kept q.1,h2.kept q.2⟩
    · simp only [KI.av,AV.foreign,Bool.and_eq_true] at q ⊢;exact ⟨h1.foreign q.1,h2.foreign q.2⟩
  | .agg ps,v,t,o,h,ho=>by
    simp only [KI.fit] at h
    split at h
    case h_2=>cases h
    rename_i l hl
    cases v<;>simp only [arl,reduceCtorEq,Option.some.injEq] at hl
    subst hl
    have:=tK.fit_spec ps _ h ho
    exact ⟨br.agg this.weak,this.kept,this.foreign⟩
  | .tup ps,v,t,o,h,ho=>by
    simp only [KI.fit] at h
    split at h
    case h_2=>cases h
    rename_i l hl
    cases v<;>simp only [arm,reduceCtorEq,Option.some.injEq] at hl
    subst hl
    have:=tK.fit_spec ps _ h ho
    exact ⟨br.tup this.weak,this.kept,this.foreign⟩
  | .iface y p,v,t,o,h,ho=>by
    simp only [KI.fit] at h
    split at h
    case h_2=>cases h
    rename_i u hu
    unfold amj at hu
    split at hu
    case h_2=>cases hu
    have e:=(yu hu).1;replace hu:=(yu hu).2
    cases Nat.eq_of_beq_eq_true e
    subst hu
    have:=KI.fit_spec p _ h ho
    exact ⟨br.iface this.weak,this.kept,this.foreign⟩
  | .nfn,v,t,o,h,ho=>by
    cases v<;>simp only [KI.fit,arn,reduceCtorEq] at h
    exact .refl _
  | .nptr,v,t,o,h,ho=>by
    cases v<;>simp only [KI.fit,apd,reduceCtorEq] at h
    exact .refl _
  | .nsl,v,t,o,h,ho=>by
    cases v<;>simp only [KI.fit,aro,reduceCtorEq] at h
    exact .refl _
  | .niface,v,t,o,h,ho=>by
    cases v<;>simp only [KI.fit,agt,reduceCtorEq] at h
    exact .refl _
  | .any,v,t,o,h,ho=>⟨br.any v,fun _=>rfl,fun _=>rfl⟩
  | .lsl b,v,t,o,h,ho=>by
    simp only [KI.fit,ape] at h
    split at h
    · have e:=(yu h).1;replace h:=(yu h).2
      rw [Bool.and_eq_true,Bool.and_eq_true] at e
      cases Nat.eq_of_beq_eq_true e.1
      cases Nat.eq_of_beq_eq_true e.2.1
      cases Nat.eq_of_beq_eq_true e.2.2
      cases h;exact .refl _
    · cases h
  | .lptr b w i j,v,t,o,h,ho=>by
    simp only [KI.fit,amk] at h
    split at h
    · have e:=(yu h).1;replace h:=(yu h).2
      rw [Bool.and_eq_true,Bool.and_eq_true,Bool.and_eq_true] at e
      cases Nat.eq_of_beq_eq_true e.1.1
      cases Nat.eq_of_beq_eq_true e.1.2
      cases Nat.eq_of_beq_eq_true e.2.1
      cases Nat.eq_of_beq_eq_true e.2.2
      exact .refl _
    · cases h
theorem tK.fit_spec:∀ (ps:tK) (l:List AV) {t:ps.Ty} {o:List Bool},ps.fit l=some (t,o)→aH o→WkL l (ps.avs t)
  | .nil,[],t,o,h,ho=>⟨.nil,id,id⟩
  | .nil,v::l,t,o,h,ho=>by simp [tK.fit] at h
  | .cons p ps,[],t,o,h,ho=>by simp [tK.fit] at h
  | .cons p ps,v::l,t,o,h,ho=>by
    simp only [tK.fit] at h
    split at h
    case h_2=>cases h
    rename_i r hr
    split at h
    case h_2=>cases h
    rename_i s hs
    cases h
    rw [bn] at ho
    exact .cons (KI.fit_spec p v hr ho.1) (tK.fit_spec ps l hs ho.2)
end
def bx(f:FuncId)(ps:tK)(alts:ps.Ty→List wA) :ax :=
  ⟨f, fun L args => match L with
    | []=>match ps.fit args with
      | some r=>some ((alts r.1).map fun a=>⟨a.out,r.2++a.obs⟩)
      | none=>none
    | _=>none⟩
theorem aE{P:Program}{f:FuncId}{ps:tK}{alts:ps.Ty→List wA}(h:∀ t,∀ a∈alts t,aH a.obs→ai P f [] (ps.avs t) a.out) :aI P (bx f ps alts):=by
  intro L args al a hal ha ho
  simp only [bx] at hal
  split at hal
  case h_2=>cases hal
  split at hal
  case h_2=>cases hal
  rename_i r hr
  obtain ⟨t,o⟩:=r
  simp only [Option.some.injEq] at hal
  subst hal
  simp only [List.mem_map] at ha
  obtain ⟨b,hb,rfl⟩:=ha
  simp only [bn] at ho
  exact (h t b hb ho.2).args (tK.fit_spec ps args hr ho.1).weak
inductive CP where
  | int (k:IntKind)
  | flt
  | fltx
  | bool
  | str
  | lsl (b:Nat)
  | lsl0 (b:Nat)
  | lptr (b w i j:Nat)
  | nsl
  | nptr
def CP.Ty:CP→Type
  | .int _=>Int
  | .flt=>Nat
  | .fltx=>Nat
  | .bool=>Bool
  | .str=>ByteArray
  | .lsl _=>Nat×Nat×Nat
  | .lsl0 _=>Nat×Nat
  | .lptr _ _ _ _=>Unit
  | .nsl=>Unit
  | .nptr=>Unit
def CP.av:(p:CP)→p.Ty→AV
  | .int k,n=>.int k n
  | .flt,x=>.flt false x
  | .fltx,x=>.flt true x
  | .bool,b=>.bool false b
  | .str,s=>.str s
  | .lsl b,t=>.sl b 1 1 t.1 t.2.1 t.2.2
  | .lsl0 b,t=>.sl b 1 1 0 t.1 t.2
  | .lptr b w i j,_=>.ptr b w i j
  | .nsl,_=>.nsl
  | .nptr,_=>.nptr
def arp(k:IntKind) :AV→Option Int
  | .int k' n=>bif cT k k' then some n else none
  | _=>none
def arq:AV→Option Nat
  | .flt ex x=>bif ex then none else some x
  | _=>none
def apg:AV→Option Nat
  | .flt ex x=>bif ex then some x else none
  | _=>none
def aph:AV→Option Bool
  | .bool kn b=>bif kn then none else some b
  | _=>none
def arr:AV→Option ByteArray
  | .str s=>some s
  | _=>none
def ars(b:Nat) :AV→Option (Nat×Nat×Nat)
  | .sl b' w es i len cap=>bif Nat.beq b b'&&(Nat.beq w 1&&Nat.beq es 1) then some (i,len,cap) else none
  | _=>none
def api(b:Nat) :AV→Option (Nat×Nat)
  | .sl b' w es i len cap=>bif Nat.beq b b'&&(Nat.beq w 1&&Nat.beq es 1)&&Nat.beq i 0 then some (len,cap) else none
  | _=>none
def apj(b w i j:Nat) :AV→Option Unit
  | .ptr b' w' i' j'=>bif (Nat.beq b b'&&Nat.beq w w')&&(Nat.beq i i'&&Nat.beq j j') then some () else none
  | _=>none
def art:AV→Option Unit
  | .nsl=>some ()
  | _=>none
def apk:AV→Option Unit
  | .nptr=>some ()
  | _=>none
def CP.fit:(p:CP)→AV→Option p.Ty
  | .int k=>arp k
  | .flt=>arq
  | .fltx=>apg
  | .bool=>aph
  | .str=>arr
  | .lsl b=>ars b
  | .lsl0 b=>api b
  | .lptr b w i j=>apj b w i j
  | .nsl=>art
  | .nptr=>apk
theorem asy{c:Bool}{α:Type}{a x:α}(h:(bif c then none else some a)=some x) :c=false∧a=x:=by
  cases c with
  | true=>cases h
  | false=>exact ⟨rfl,by simpa using h⟩
theorem CP.fit_spec:∀ (p:CP) {v:AV} {t:p.Ty},p.fit v=some t→v=p.av t
  | .int k,v,t,h=>by
    simp only [CP.fit,arp] at h
    split at h
    · obtain ⟨e,h⟩:=yu h
      cases h;cases zb.1 e;rfl
    · cases h
  | .flt,v,t,h=>by
    simp only [CP.fit,arq] at h
    split at h
    · obtain ⟨e,h⟩:=asy h
      cases h;cases e;rfl
    · cases h
  | .fltx,v,t,h=>by
    simp only [CP.fit,apg] at h
    split at h
    · obtain ⟨e,h⟩:=yu h
      cases h;cases e;rfl
    · cases h
  | .bool,v,t,h=>by
    simp only [CP.fit,aph] at h
    split at h
    · obtain ⟨e,h⟩:=asy h
      cases h;cases e;rfl
    · cases h
  | .str,v,t,h=>by
    simp only [CP.fit,arr] at h
    split at h
    · cases h;rfl
    · cases h
  | .lsl b,v,t,h=>by
    simp only [CP.fit,ars] at h
    split at h
    · have e:=(yu h).1;replace h:=(yu h).2
      rw [Bool.and_eq_true,Bool.and_eq_true] at e
      cases Nat.eq_of_beq_eq_true e.1
      cases Nat.eq_of_beq_eq_true e.2.1
      cases Nat.eq_of_beq_eq_true e.2.2
      cases h;rfl
    · cases h
  | .lsl0 b,v,t,h=>by
    simp only [CP.fit,api] at h
    split at h
    · have e:=(yu h).1;replace h:=(yu h).2
      rw [Bool.and_eq_true,Bool.and_eq_true,Bool.and_eq_true] at e
      cases Nat.eq_of_beq_eq_true e.1.1
      cases Nat.eq_of_beq_eq_true e.1.2.1
      cases Nat.eq_of_beq_eq_true e.1.2.2
      cases Nat.eq_of_beq_eq_true e.2
      cases h;rfl
    · cases h
  | .lptr b w i j,v,t,h=>by
    simp only [CP.fit,apj] at h
    split at h
    · have e:=(yu h).1;clear h
      rw [Bool.and_eq_true,Bool.and_eq_true,Bool.and_eq_true] at e
      cases Nat.eq_of_beq_eq_true e.1.1
      cases Nat.eq_of_beq_eq_true e.1.2
      cases Nat.eq_of_beq_eq_true e.2.1
      cases Nat.eq_of_beq_eq_true e.2.2
      rfl
    · cases h
  | .nsl,v,t,h=>by
    simp only [CP.fit,art] at h
    split at h
    · rfl
    · cases h
  | .nptr,v,t,h=>by
    simp only [CP.fit,apk] at h
    split at h
    · rfl
    · cases h
def CPs.Ty:List CP→Type
  | []=>Unit
  | p::l=>p.Ty×CPs.Ty l
def CPs.avs:(l:List CP)→CPs.Ty l→List AV
  | [],_=>[]
  | p::l,t=>p.av t.1::CPs.avs l t.2
def CPs.fit:(l:List CP)→List AV→Option (CPs.Ty l)
  | []=>fun vs=>match vs with
    | []=>some ()
    | _::_=>none
  | p::l=>fun vs=>match vs with
    | []=>none
    | v::vs=>match p.fit v with
      | some t=>match CPs.fit l vs with
        | some r=>some (t,r)
        | none=>none
      | none=>none
theorem CPs.fit_spec:∀ (l:List CP) {vs:List AV} {t:CPs.Ty l},CPs.fit l vs=some t→vs=CPs.avs l t
  | [],[],t,h=>rfl
  | [],_::_,t,h=>by cases h
  | _::_,[],t,h=>by cases h
  | p::l,v::vs,t,h=>by
    simp only [CPs.fit] at h
    split at h
    case h_2=>cases h
    rename_i x hx
    split at h
    case h_2=>cases h
    rename_i r hr
    cases h
    simp only [CPs.avs]
    rw [←CP.fit_spec p hx,←CPs.fit_spec l hr]
inductive BK where
  | fl
  | ns (k:IntKind)
  | bs
  | vs (l:List CP)
def BK.Ty:BK→Type
  | .fl=>List Nat
  | .ns _=>List Int
  | .bs=>List Bool
  | .vs l=>CPs.Ty l
def BK.blk:(k:BK)→k.Ty→aN
  | .fl,xs=>.fl xs
  | .ns k,xs=>.ns k xs
  | .bs,xs=>.bs xs
  | .vs l,t=>.vs (CPs.avs l t)
def asY(l:List CP) :aN→Option (CPs.Ty l)
  | .vs xs=>CPs.fit l xs
  | _=>none
def BK.fit:(k:BK)→aN→Option k.Ty
  | .fl=>apa
  | .ns k=>apb k
  | .bs=>apc
  | .vs l=>asY l
theorem BK.fit_spec:∀ (k:BK) {d:aN} {t:k.Ty},k.fit d=some t→d=k.blk t
  | .fl,d,t,h=>by cases d<;>cases h;rfl
  | .ns k,d,t,h=>by
    cases d<;>try (cases h;done)
    have e1:=(yu h).1;replace h:=(yu h).2
    cases zb.1 e1;cases h;rfl
  | .bs,d,t,h=>by cases d<;>cases h;rfl
  | .vs l,d,t,h=>by
    cases d<;>try (cases h;done)
    exact congrArg aN.vs (CPs.fit_spec l h)
def BKs.Ty:List BK→Type
  | []=>Unit
  | k::l=>k.Ty×BKs.Ty l
def Lw:(l:List BK)→BKs.Ty l→List aN
  | [],_=>[]
  | k::l,t=>k.blk t.1::Lw l t.2
def BKs.fit:(l:List BK)→List aN→Option (BKs.Ty l)
  | [],[]=>some ()
  | [],_::_=>none
  | _::_,[]=>none
  | k::l,d::ds=>match k.fit d with
    | some t=>match BKs.fit l ds with
      | some r=>some (t,r)
      | none=>none
    | none=>none
theorem BKs.fit_spec:∀ (l:List BK) {ds:List aN} {t:BKs.Ty l},BKs.fit l ds=some t→ds=Lw l t
  | [],[],t,h=>rfl
  | [],_::_,t,h=>by cases h
  | _::_,[],t,h=>by cases h
  | k::l,d::ds,t,h=>by
    simp only [BKs.fit] at h
    split at h
    case h_2=>cases h
    rename_i x hx
    split at h
    case h_2=>cases h
    rename_i r hr
    cases h
    simp only [Lw]
    rw [←BK.fit_spec k hx,←BKs.fit_spec l hr]
def agu(f:FuncId)(bs:List BK)(ps:tK)(alts:BKs.Ty bs→ps.Ty→List wA) :ax :=
  ⟨f, fun L args => match BKs.fit bs L with
    | some x=>match ps.fit args with
      | some r=>some ((alts x r.1).map fun a=>⟨a.out,r.2++a.obs⟩)
      | none=>none
    | none=>none⟩
theorem Tz{P:Program}{f:FuncId}{bs:List BK}{ps:tK}{alts:BKs.Ty bs→ps.Ty→List wA}(h:∀ x t,∀ a∈alts x t,aH a.obs→ai P f (Lw bs x) (ps.avs t) a.out) :aI P (agu f bs ps alts):=by
  intro L args al a hal ha ho
  simp only [agu] at hal
  split at hal
  case h_2=>cases hal
  rename_i x hx
  split at hal
  case h_2=>cases hal
  rename_i r hr
  obtain ⟨t,o⟩:=r
  simp only [Option.some.injEq] at hal
  subst hal
  simp only [List.mem_map] at ha
  obtain ⟨b,hb,rfl⟩:=ha
  simp only [bn] at ho
  have:=(h x t b hb ho.2).args (tK.fit_spec ps args hr ho.1).weak
  rwa [←BKs.fit_spec bs hx] at this
theorem TA{P:Program}{f:FuncId}{L:List aN}{l:List AV} :∀ a∈([]:List wA),aH a.obs→ai P f L l a.out:=fun a h=>by cases h
theorem HO{P:Program}{f:FuncId}{L:List aN}{l:List AV}{o:fU}{b:Bool}{al:List wA}(h:b=true→ai P f L l o)(t:∀ a∈al,aH a.obs→ai P f L l a.out) :∀ a∈(⟨o,[b]⟩:wA)::al,aH a.obs→ai P f L l a.out:=by
  intro a ha ho
  rcases List.mem_cons.1 ha with rfl | ha
  · exact h ho.1
  · exact t a ha ho
theorem aQ{P:Program}{f:FuncId}{l:List AV} :∀ a∈([]:List wA),aH a.obs→ai P f [] l a.out:=fun a h=>by cases h
theorem aF{P:Program}{f:FuncId}{l:List AV}{o:fU}{b:Bool}{al:List wA}(h:b=true→ai P f [] l o)(t:∀ a∈al,aH a.obs→ai P f [] l a.out) :∀ a∈(⟨o,[b]⟩:wA)::al,aH a.obs→ai P f [] l a.out:=by
  intro a ha ho
  rcases List.mem_cons.1 ha with rfl | ha
  · exact h ho.1
  · exact t a ha ho
inductive T (α:Type) where
  | fail
  | leaf (a:α)
  | ask (b:Bool) (t f:T α)
  | need (b:Bool) (t:T α)
  | alt (k:Nat) (t e:T α)
def T.run{α:Type} :T α→Option α
  | .fail=>none
  | .leaf a=>some a
  | .ask b t f=>bif b then t.run else f.run
  | .need b t=>bif b then t.run else none
  | .alt _ t e=>match t.run with
    | some a=>some a
    | none=>e.run
structure Ib (α:Type) where
  path:List Nat
  obs:List Bool
  val:α
def Ib.ask{α:Type}(n:Nat)(b:Bool)(l:Ib α) :Ib α:=⟨n::l.path,b::l.obs,l.val⟩
def Ib.need{α:Type}(b:Bool)(l:Ib α) :Ib α:=⟨l.path,b::l.obs,l.val⟩
def Ib.alt{α:Type}(n:Nat)(l:Ib α) :Ib α:=⟨n::l.path,l.obs,l.val⟩
def T.leaves{α:Type} :T α→List (Ib α)
  | .fail=>[]
  | .leaf a=>[⟨[],[],a⟩]
  | .ask b t f=>t.leaves.map (Ib.ask 1 (b==true))++f.leaves.map (Ib.ask 0 (b==false))
  | .need b t=>t.leaves.map (Ib.need b)
  | .alt k t e=>t.leaves.map (Ib.alt k)++e.leaves
theorem uz{α:Type} :∀ (t:T α) {a:α},t.run=some a→∃ l∈t.leaves,l.val=a∧aH l.obs
  | .fail,a,h=>by cases h
  | .leaf b,a,h=>by
    simp only [T.run,Option.some.injEq] at h;subst h
    exact ⟨⟨[],[],b⟩,by simp [T.leaves],rfl,trivial⟩
  | .ask b t f,a,h=>by
    simp only [T.run] at h
    cases b with
    | true =>
      simp only [cond_true] at h
      obtain ⟨l,h1,h2,h3⟩:=uz t h
      exact ⟨l.ask 1 (true==true),by simp only [T.leaves,List.mem_append];exact .inl (List.mem_map_of_mem h1),h2,⟨rfl,h3⟩⟩
    | false =>
      simp only [cond_false] at h
      obtain ⟨l,h1,h2,h3⟩:=uz f h
      exact ⟨l.ask 0 (false==false),by simp only [T.leaves,List.mem_append];exact .inr (List.mem_map_of_mem h1),h2,⟨rfl,h3⟩⟩
  | .need b t,a,h=>by
    simp only [T.run] at h
    cases b with
    | true =>
      simp only [cond_true] at h
      obtain ⟨l,h1,h2,h3⟩:=uz t h
      exact ⟨l.need true,by simp only [T.leaves];exact List.mem_map_of_mem h1,h2,⟨rfl,h3⟩⟩
    | false=>cases h
  | .alt k t e,a,h=>by
    simp only [T.run] at h
    split at h
    · rename_i a' ht
      cases h
      obtain ⟨l,h1,h2,h3⟩:=uz t ht
      exact ⟨l.alt k,by simp only [T.leaves,List.mem_append];exact .inl (List.mem_map_of_mem h1),h2,h3⟩
    · obtain ⟨l,h1,h2,h3⟩:=uz e h
      exact ⟨l,by simp only [T.leaves,List.mem_append];exact .inr h1,h2,h3⟩
def Gd{α X:Type}(N:α→aC)(E:X→AE×aC) :α⊕X→AE×aC
  | .inl a=>(.normal,N a)
  | .inr x=>E x
def Sg{α X:Type}(P:Program)(lent:List aN)(cs:List Code)(st:aC)(m:Option (α⊕X))(N:α→aC)(E:X→AE×aC) :Prop :=
  ∀ r,m=some r→ka P lent cs st fun e st'=>(e,st')=Gd N E r
def apl{α X:Type}(C:CB)(S:FP)(n:Nat)(cs:List Code)(st:aC)(ls:List (Ib (α⊕X)))(ks:List NS)(k:Nat) :List (Bool×Option (AE×aC×List Bool)) :=
  List.zipWith (fun l s=>(s.ok k,aoX s (ano (kB C S 12 n) cs st (some l.path)))) ls ks
def aml{α X:Type}(N:α→aC)(E:X→AE×aC)(ls:List (Ib (α⊕X))) :List (Bool×Option (AE×aC×List Bool)) :=
  ls.map fun l=>(true,some ((Gd N E l.val).1,(Gd N E l.val).2,l.obs))
theorem amm{α β γ:Type}{f:α→β→γ}{g:α→γ} :∀ {l:List α} {k:List β},List.zipWith f l k=l.map g→∀ a∈l,∃ b,f a b=g a
  | [],_,_,a,ha=>by cases ha
  | x::l,[],h,a,ha=>by simp at h
  | x::l,y::k,h,a,ha=>by
    simp only [List.zipWith_cons_cons,List.map_cons,List.cons.injEq] at h
    rcases List.mem_cons.1 ha with rfl | ha
    · exact ⟨y,h.1⟩
    · exact amm h.2 a ha
theorem Sg.seg{C:CB}(hC:C.Ok){S:FP}(hS:aJ C.P S){lent:List aN}{α X:Type}(n:Nat)(cs:List Code)(st:aC)(t:T (α⊕X))(N:α→aC)(E:X→AE×aC)(ks:List NS) 
    (h:apl C S n cs st t.leaves ks lent.length=aml N E t.leaves):Sg C.P lent cs st t.run N E:=by
  intro r hr
  obtain ⟨l,h1,h2,h3⟩:=uz t hr
  obtain ⟨k,hk⟩:=amm h l h1
  simp only [Prod.mk.injEq] at hk
  obtain ⟨hn,he⟩:=hk
  have:=ka.seg hC hS (lent:=lent) (Q:=fun e st'=>(e,st')=Gd N E r) cs.length (some l.path) k (cs:=cs) (st:=st) (by rw [List.take_length];exact he) hn h3
  refine this ?_
  rw [h2,List.drop_length]
  generalize hg:Gd N E r=x
  obtain ⟨e,s⟩:=x
  cases e with
  | normal=>exact ka.nil rfl
  | ret=>rfl
  | exit id=>rfl
theorem ka.append{P:Program}{lent:List aN}{cs1 cs2:List Code}{st:aC}{Q1 Q:AE→aC→Prop}(h:ka P lent cs1 st Q1)(k:∀ e st',Q1 e st'→WC P lent cs2 e st' Q) :ka P lent (cs1++cs2) st Q:=by
  intro ρ0 w0 hN K hK a w hA
  apply JQ
  refine h ρ0 w0 hN _ ?_ a w hA
  intro e st' a' w' q hA'
  have:=k e st' q
  cases e with
  | normal=>exact this ρ0 w0 hN K hK a' w' hA'
  | ret=>exact hK _ _ _ _ this hA'
  | exit id=>exact hK _ _ _ _ this hA'
def jm{X:Type}(E:X→AE×aC) :Prop:=∀ x,(E x).1 ≠ .normal
theorem amn{P:Program}{lent:List aN}{cs:List Code}{e:AE}{st:aC}{Q:AE→aC→Prop}(hn:e ≠ .normal)(h:Q e st) :WC P lent cs e st Q:=by
  cases e with
  | normal=>exact (hn rfl).elim
  | ret=>exact h
  | exit id=>exact h
def aB{α β X:Type}(m:Option (α⊕X))(k:α→Option (β⊕X)) :Option (β⊕X) :=
  match m with
  | none=>none
  | some (.inl a)=>k a
  | some (.inr x)=>some (.inr x)
theorem Sg.seq{P:Program}{lent:List aN}{α β X:Type}{cs1 cs2:List Code}{st:aC}{m:Option (α⊕X)}{N1:α→aC}{E:X→AE×aC}{k:α→Option (β⊕X)}{N:β→aC}(hE:jm E) 
    (h:Sg P lent cs1 st m N1 E) (hk:∀ a,Sg P lent cs2 (N1 a) (k a) N E):Sg P lent (cs1++cs2) st (aB m k) N E:=by
  intro r hr
  unfold aB at hr
  split at hr
  · cases hr
  · rename_i a
    refine ka.append (h _ rfl) ?_
    intro e st' q
    simp only [Gd,Prod.mk.injEq] at q
    obtain ⟨rfl,rfl⟩:=q
    exact hk a r hr
  · rename_i x
    simp only [Option.some.injEq] at hr;subst hr
    refine ka.append (h _ rfl) ?_
    intro e st' q
    simp only [Gd] at q
    refine amn ?_ q
    have:=hE x
    rw [←q] at this;exact this
def zB{σ Y:Type}(B:σ→Option (σ⊕Y)) :Nat→σ→Option Y
  | 0,_=>none
  | n+1,s=>match B s with
    | none=>none
    | some (.inl s')=>zB B n s'
    | some (.inr y)=>some y
theorem zC{σ Y:Type}{B:σ→Option (σ⊕Y)} :∀ (n:Nat) {s:σ} {y:Y},zB B n s=some y→∀ m,n≤m→zB B m s=some y
  | 0,s,y,h,_,_=>by cases h
  | n+1,s,y,h,m,hm=>by
    obtain ⟨m',rfl⟩:∃ m',m=m'+1:=⟨m-1,by omega⟩
    simp only [zB] at h ⊢
    split at h
    · cases h
    · exact zC n h m' (by omega)
    · exact h
open Classical in
noncomputable def apm {σ Y : Type} (B : σ → Option (σ ⊕ Y)) (s : σ) : Option Y :=
  if h : ∃ n y, zB B n s = some y then some h.choose_spec.choose else none
theorem ant{σ Y:Type}{B:σ→Option (σ⊕Y)}{s:σ}{y:Y} :apm B s=some y↔∃ n,zB B n s=some y:=by
  unfold apm
  constructor
  · intro h
    split at h
    · rename_i q
      simp only [Option.some.injEq] at h
      exact ⟨q.choose,by rw [←h];exact q.choose_spec.choose_spec⟩
    · cases h
  · rintro ⟨n,h⟩
    rw [dif_pos ⟨n,y,h⟩]
    generalize hq:(⟨n,y,h⟩:∃ n y,zB B n s=some y)=q
    have h1:=q.choose_spec.choose_spec
    have a1:=zC n h (max n q.choose) (by omega)
    have a2:=zC _ h1 (max n q.choose) (by omega)
    rw [a1] at a2
    exact a2.symm
noncomputable def cU{σ Y:Type}(B:σ→Option (σ⊕Y))(s:σ) :Option Y :=
  match zB B 1000000000000 s with
  | some y=>some y
  | none=>apm B s
theorem HP{σ Y:Type}{B:σ→Option (σ⊕Y)}{s:σ}{y:Y} :cU B s=some y↔∃ n,zB B n s=some y:=by
  unfold cU
  generalize 1000000000000=k
  cases h:zB B k s with
  | none=>exact ant
  | some z =>
    constructor
    · intro e;cases e;exact ⟨k,h⟩
    · rintro ⟨n,hn⟩
      have a1:=zC n hn (max n k) (by omega)
      have a2:=zC _ h (max n k) (by omega)
      rw [a1] at a2
      exact a2.symm
theorem agv{σ Y:Type}(B:σ→Option (σ⊕Y))(s:σ) :cU B s=match B s with
    | none=>none
    | some (.inl s')=>cU B s'
    | some (.inr y)=>some y:=by
  have key:∀ y,cU B s=some y↔(match B s with | none=>none | some (.inl s')=>cU B s' | some (.inr y)=>some y)=some y:=by
    intro y
    rw [HP]
    constructor
    · rintro ⟨n,h⟩
      cases n with
      | zero=>cases h
      | succ n =>
        simp only [zB] at h
        cases q:B s with
        | none=>rw [q] at h;cases h
        | some z=>cases z with
          | inl s'=>rw [q] at h;exact HP.2 ⟨n,h⟩
          | inr z=>rw [q] at h;exact h
    · intro h
      split at h<;>rename_i q
      · cases h
      · obtain ⟨n,hn⟩:=HP.1 h
        exact ⟨n+1,by simp only [zB,q];exact hn⟩
      · exact ⟨1,by simp only [zB,q];exact h⟩
  generalize (match B s with | none=>none | some (.inl s')=>cU B s' | some (.inr y)=>some y)=x at key
  cases hl:cU B s with
  | none=>cases x with
    | none=>rfl
    | some y=>rw [(key y).2 rfl] at hl;cases hl
  | some y=>rw [hl] at key;exact ((key y).1 rfl).symm
theorem agw{σ Y:Type}{B:σ→Option (σ⊕Y)}{s s':σ}(h:B s=some (.inl s')) :cU B s=cU B s':=by rw [agv,h]
theorem aax{σ Y:Type}{B:σ→Option (σ⊕Y)}{s:σ}{y:Y}(h:B s=some (.inr y)) :cU B s=some y:=by rw [agv,h]
theorem anu{σ Y:Type}{B:σ→Option (σ⊕Y)}(G:σ→Prop)(m:σ→Nat)(Q:Y→Prop)(h:∀ s,G s→(∃ s',B s=some (.inl s')∧G s'∧m s'<m s)∨∃ y,B s=some (.inr y)∧Q y) :
    ∀ s,G s→∃ y,cU B s=some y∧Q y:=by
  have key:∀ n s,m s<n→G s→∃ y,cU B s=some y∧Q y:=by
    intro n
    induction n with
    | zero=>intro s q;omega
    | succ n ih =>
      intro s q hs
      rcases h s hs with ⟨s',h1,h2,h3⟩ | ⟨y,h1,h2⟩
      · obtain ⟨y,k1,k2⟩:=ih s' (by omega) h2
        exact ⟨y,by rw [agw h1];exact k1,k2⟩
      · exact ⟨y,aax h1,h2⟩
  exact fun s hs=>key _ s (Nat.lt_succ_self _) hs
def cN{ρ X:Type}(id:Nat)(J:ρ→aC)(E:X→AE×aC) :ρ⊕X→AE×aC
  | .inl r=>(.exit id,J r)
  | .inr x=>E x
def lD{X:Type}(id:Nat)(E:X→AE×aC) :Prop:=∀ x,(E x).1 ≠ .exit id
theorem Sg.loop{P:Program}{lent:List aN}{σ ρ X:Type}{I:σ→aC}{J:ρ→aC}{E:X→AE×aC}{B:σ→Option (σ⊕(ρ⊕X))}{id:Nat}{b:Code}(hE:jm E)(hI:lD id E) 
    (hb:∀ s,Sg P lent (cp b) (I s) (B s) I (cN id J E)) (s:σ):Sg P lent [.block id (.loop b)] (I s) (cU B s) J E:=by
  intro y hy
  obtain ⟨n,hn⟩:=HP.1 hy

  have:=ka.loop (P:=P) (lent:=lent) (id:=id) (b:=b) (rest:=[]) (Q:=fun e st'=>(e,st')=Gd J E y) (σ:=Nat×σ) (fun s=>I s.2) (fun s=>zB B s.1 s.2=some y) (fun s=>s.1) rfl (fun s hs=>?_) (n,s) hn
  · exact this
  · obtain ⟨n,s⟩:=s
    simp only at hs ⊢
    cases n with
    | zero=>cases hs
    | succ n =>
      simp only [zB] at hs
      split at hs
      · cases hs
      · rename_i s' hB
        refine (hb s _ hB).mono ?_
        intro e st' q
        simp only [Gd,Prod.mk.injEq] at q
        obtain ⟨rfl,rfl⟩:=q
        exact ⟨(n,s'),hs,by simp,rfl⟩
      · rename_i y' hB
        simp only [Option.some.injEq] at hs;subst hs
        refine (hb s _ hB).mono ?_
        intro e st' q
        cases y' with
        | inl r =>
          simp only [Gd,cN,Prod.mk.injEq] at q
          obtain ⟨rfl,rfl⟩:=q
          simp only [Le,if_true]
          exact ka.nil rfl
        | inr x =>
          simp only [Gd,cN] at q
          have h1:=hE x
          have h2:=hI x
          rw [←q] at h1 h2
          simp only at h1 h2
          cases e with
          | normal=>exact (h1 rfl).elim
          | ret=>exact q
          | exit j =>
            have hj : ¬ j=id:=fun h=>h2 (by rw [h])
            simp only [Le,hj,if_false]
            exact q
def Lx{κ X:Type}(m:Option (κ⊕(κ⊕X))) :Option (κ⊕X) :=
  match m with
  | none=>none
  | some (.inl a)=>some (.inl a)
  | some (.inr (.inl a))=>some (.inl a)
  | some (.inr (.inr x))=>some (.inr x)
theorem Sg.block{P:Program}{lent:List aN}{κ X:Type}{K:κ→aC}{E:X→AE×aC}{m:Option (κ⊕(κ⊕X))}{id:Nat}{b:Code}{st:aC}(hE:jm E)(hI:lD id E) 
    (hb:Sg P lent (cp b) st m K (cN id K E)):Sg P lent [.block id b] st (Lx m) K E:=by
  intro r hr
  unfold Lx at hr
  refine ka.block (rest:=[]) rfl ?_
  split at hr
  · cases hr
  · simp only [Option.some.injEq] at hr;subst hr
    refine (hb _ rfl).mono ?_
    intro e st' q
    simp only [Gd,Prod.mk.injEq] at q
    obtain ⟨rfl,rfl⟩:=q
    exact ka.nil rfl
  · simp only [Option.some.injEq] at hr;subst hr
    refine (hb _ rfl).mono ?_
    intro e st' q
    simp only [Gd,cN,Prod.mk.injEq] at q
    obtain ⟨rfl,rfl⟩:=q
    simp only [if_true]
    exact ka.nil rfl
  · rename_i x
    simp only [Option.some.injEq] at hr;subst hr
    refine (hb _ rfl).mono ?_
    intro e st' q
    simp only [Gd,cN] at q
    have h1:=hE x
    have h2:=hI x
    rw [←q] at h1 h2
    simp only at h1 h2
    cases e with
    | normal=>exact (h1 rfl).elim
    | ret=>exact q
    | exit j =>
      have hj : ¬ j=id:=fun h=>h2 (by rw [h])
      simp only [hj,if_false]
      exact q
theorem Sg.scope{P:Program}{lent:List aN}{α X:Type}{N:α→aC}{E:X→AE×aC}{m:Option (α⊕X)}{b:Code}{st:aC}(hE:jm E)(hb:Sg P lent (cp b) st m N E) :Sg P lent [.scope b] st m N E:=by
  intro r hr
  refine ka.scope (rest:=[]) rfl ((hb r hr).mono ?_)
  intro e st' q
  cases r with
  | inl a =>
    simp only [Gd,Prod.mk.injEq] at q
    obtain ⟨rfl,rfl⟩:=q
    exact ka.nil rfl
  | inr x =>
    refine amn ?_ q
    have:=hE x
    simp only [Gd] at q
    rw [←q] at this;exact this
theorem agx{k:Nat}{ρ0:am}{w0:World}{st:aC}{a:Act}{w:World}{c:Operand}{b kn:Bool}(h:At k ρ0 w0 st a w)(hc:evA st.tmps c=.bool kn b) :At k ρ0 w0 { st with tmps:=zt st.tmps c b } a w∧a.eval c=.bool b:=by
  obtain ⟨ρ,E,W,hs,hbk,hle⟩:=h
  have hb:a.eval c=.bool b:=by
    have:=Fy hs.heap.rom hs.tmps c
    rw [hc] at this
    generalize a.eval c=z at this
    cases this;rfl
  refine ⟨⟨ρ,E,W,⟨hs.defers,?_,hs.heap⟩,hbk,hle⟩,hb⟩
  cases c with
  | tmp t =>
    simp only [zt,Hu]
    have:da ρ w (st.tmps.set t (.bool true b)) (a.tmps.toList.set t (.bool b)):=hs.tmps.set (.bool _ _) t
    have e:a.tmps.toList.set t (.bool b)=a.tmps.toList:=by
      apply List.ext_getElem?
      intro j
      rw [List.getElem?_set]
      split
      · rename_i q;subst q
        split
        · rename_i hlt
          simp only [Act.eval] at hb
          rw [Array.getD_eq_getD_getElem?] at hb
          have hlt':t<a.tmps.size:=by simpa using hlt
          rw [Array.getElem?_eq_getElem hlt'] at hb
          simp only [Option.getD_some] at hb
          simp [hlt',hb]
        · rename_i hge
          rw [List.getElem?_eq_none (by omega)]
      · rfl
    rw [e] at this;exact this
  | const v=>exact hs.tmps
  | global g=>exact hs.tmps
  | func f=>exact hs.tmps
theorem Sg.cond{P:Program}{lent:List aN}{α X:Type}{N:α→aC}{E:X→AE×aC}{m1 m2:Option (α⊕X)}{c:Operand}{A B:Code}{st:aC}{kn b:Bool}(hE:jm E)(hc:evA st.tmps c=.bool kn b) 
    (h1:Sg P lent (cp A) { st with tmps:=zt st.tmps c true } m1 N E) (h2:Sg P lent (cp B) { st with tmps:=zt st.tmps c false } m2 N E):Sg P lent [.cond c A B] st (bif b then m1 else m2) N E:=by
  intro r hr
  intro ρ0 w0 hN K hK a w hA
  simp only [Wm]
  obtain ⟨hA',hb⟩:=agx hA hc
  refine wp_cond hb ?_
  have pK:∀ (D:Code) (m:Option (α⊕X)) (st1:aC),Sg P lent (cp D) st1 m N E→m=some r→At lent.length ρ0 w0 st1 a w→D.wp P (fun e a' w'=>match e with | .normal=>K .normal a' w' | e=>K e a' w') a w:=by
    intro D m st1 hS hm hA1
    refine Dm D (hS r hm ρ0 w0 hN _ ?_ a w hA1)
    intro e st' a' w' q hA2
    cases e with
    | normal=>exact hK .normal st' a' w' q hA2
    | ret=>exact hK .ret st' a' w' q hA2
    | exit id=>exact hK (.exit id) st' a' w' q hA2
  cases b with
  | true=>exact pK A m1 _ h1 hr hA'
  | false=>exact pK B m2 _ h2 hr hA'
theorem Sg.pre{P:Program}{lent:List aN}{α X:Type}{N:α→aC}{E:X→AE×aC}{m:Option (α⊕X)}{cs:List Code}{st st1:aC}(s:NS)(hn:s.ok lent.length=true)(h1:s.on st=st1)(h:Sg P lent cs st1 m N E) :Sg P lent cs st m N E :=
  fun r hr=>ka.weak (by rw [←h1];exact aoW hn st) (h r hr)
def jP{X:Type} :Option (Empty⊕X)→Option X
  | some (.inr x)=>some x
  | _=>none
theorem Sg.contract{P:Program}{f:FuncId}{fn:Func}{c:Code}{X:Type}{N:Empty→aC}{E:X→AE×aC}{m:Option (Empty⊕X)}{lent:List aN}{args:List AV}(keep:Bool)(o:X→fU)(hf:P.funcs[f]? = some fn)(hc:fn.body=some c) 
    (h:Sg P lent (cp c) (vu fn lent args) m N E) (hE:∀ x,ame P fn lent.length keep (o x) (E x).1 (E x).2) {x:X} (hx:jP m=some x):ai P f lent args (o x):=by
  unfold jP at hx
  split at hx
  · rename_i x'
    simp only [Option.some.injEq] at hx;subst hx
    refine ka.contract (keep:=keep) hf hc ((h _ rfl).mono ?_)
    intro e st' q
    simp only [Gd] at q
    have:=hE x'
    rw [←q] at this;exact this
  · cases hx
end
end Go.Plb
namespace Go.Plb
set_option linter.unusedSectionVars false
variable [Rom]
theorem aW{ρ X:Type}{id:Nat}{J:ρ→aC}{E:X→AE×aC}(h:jm E) :jm (cN id J E):=by
  intro x
  cases x with
  | inl r=>intro q;cases q
  | inr x=>exact h x
theorem kp{ρ X:Type}{id j:Nat}{J:ρ→aC}{E:X→AE×aC}(hj:(j==id)=false)(h:lD id E) :lD id (cN j J E):=by
  intro x
  cases x with
  | inl r =>
    intro q
    simp only [cN,AE.exit.injEq] at q
    subst q
    simp at hj
  | inr x=>exact h x
def dg:Code→Code
  | .block _ (.loop b)=>b
  | _=>.skip
def inBlock:Code→Code
  | .block _ b=>b
  | _=>.skip
def HQ:Code→Code
  | .scope b=>b
  | _=>.skip
theorem Sg.cut{P:Program}{lent:List aN}{α β X:Type}{cs:List Code}{st:aC}{m:Option (α⊕X)}{N1:α→aC}{E:X→AE×aC}{k:α→Option (β⊕X)}{N:β→aC}(n:Nat)(hE:jm E) 
    (h:Sg P lent (cs.take n) st m N1 E) (hk:∀ a,Sg P lent (cs.drop n) (N1 a) (k a) N E):Sg P lent cs st (aB m k) N E:=by
  have:=Sg.seq hE h hk
  rwa [List.take_append_drop] at this
theorem anv{P:Program}{lent:List aN}{σ ρ X:Type}{I:σ→aC}{J:ρ→aC}{E:X→AE×aC}{B:σ→Option (σ⊕(ρ⊕X))}{id:Nat}{b:Code}{cs:List Code}(hcs:cs=[.block id (.loop b)])(hE:jm E)(hI:lD id E) 
    (hb:∀ s,Sg P lent (cp b) (I s) (B s) I (cN id J E)) (s:σ):Sg P lent cs (I s) (cU B s) J E:=by rw [hcs];exact Sg.loop hE hI hb s
theorem ajZ{P:Program}{lent:List aN}{κ X:Type}{K:κ→aC}{E:X→AE×aC}{m:Option (κ⊕(κ⊕X))}{id:Nat}{b:Code}{st:aC}{cs:List Code}(hcs:cs=[.block id b])(hE:jm E)(hI:lD id E) 
    (hb:Sg P lent (cp b) st m K (cN id K E)):Sg P lent cs st (Lx m) K E:=by rw [hcs];exact Sg.block hE hI hb
theorem J5{P:Program}{lent:List aN}{α X:Type}{N:α→aC}{E:X→AE×aC}{m:Option (α⊕X)}{b:Code}{st:aC}{cs:List Code}(hcs:cs=[.scope b])(hE:jm E)(hb:Sg P lent (cp b) st m N E) :Sg P lent cs st m N E:=by
  rw [hcs];exact Sg.scope hE hb
end Go.Plb
namespace Go.Plb
set_option linter.unusedSimpArgs false
set_option linter.unusedVariables false
set_option linter.unusedSectionVars false
variable [Rom]
theorem fE{α:Type}{b:Bool}{t:T α}{x:Option α}(h:b=true)(k:t.run=x) :(T.need b t).run=x:=by subst h;exact k
theorem tL{α:Type}{b:Bool}{t f:T α}{x:Option α}(h:b=true)(k:t.run=x) :(T.ask b t f).run=x:=by subst h;exact k
theorem kg{α:Type}{b:Bool}{t f:T α}{x:Option α}(h:b=false)(k:f.run=x) :(T.ask b t f).run=x:=by subst h;exact k
theorem anw{α:Type}{k:Nat}{t f:T α}{a:α}(h:t.run=some a) :(T.alt k t f).run=some a:=by simp only [T.run,h]
theorem asz{α:Type}{k:Nat}{t f:T α}{x:Option α}(h:t.run=none)(q:f.run=x) :(T.alt k t f).run=x:=by simp only [T.run,h];exact q
theorem asA{α:Type}{b:Bool}{t:T α}(h:b=false) :(T.need b t).run=none:=by subst h;rfl
theorem aA{α:Type}{b:Bool}{t:T α}{x:Option α}(k:t.run=x)(h:b=true:=by exact rfl) :(T.need b t).run=x:=fE h k
theorem co{α:Type}{b:Bool}{t f:T α}{x:Option α}(k:t.run=x)(h:b=true:=by exact rfl) :(T.ask b t f).run=x:=tL h k
theorem bz{α:Type}{b:Bool}{t f:T α}{x:Option α}(k:f.run=x)(h:b=false:=by exact rfl) :(T.ask b t f).run=x:=kg h k
theorem ah{α β X:Type}{m:Option (α⊕X)}{k:α→Option (β⊕X)}{a:α}{x:Option (β⊕X)}(h:m=some (.inl a))(q:k a=x) :aB m k=x:=by subst h;exact q
theorem bB{α β X:Type}{m:Option (α⊕X)}{k:α→Option (β⊕X)}{y:X}(h:m=some (.inr y)) :aB m k=some (.inr y):=by subst h;rfl
theorem apn{κ X:Type}{m:Option (κ⊕(κ⊕X))}{a:κ}(h:m=some (.inl a)) :Lx m=some (.inl a):=by subst h;rfl
theorem bi{X:Type}{m:Option (Empty⊕X)}{x:X}(h:m=some (.inr x)) :jP m=some x:=by subst h;rfl
theorem anx{σ Y:Type}{B:σ→Option (σ⊕Y)}(st:Nat→σ)(n:Nat){y:Y}(i:Nat)(hi:i≤n)(step:∀ j,i≤j→j<n→B (st j)=some (.inl (st (j+1))))(done:B (st n)=some (.inr y)) :cU B (st i)=some y:=by
  obtain ⟨d,rfl⟩:∃ d,n=i+d:=⟨n-i,by omega⟩
  clear hi
  induction d generalizing i with
  | zero=>exact aax done
  | succ d ih =>
    rw [agw (step i (Nat.le_refl _) (by omega))]
    have e:i+(d+1)=i+1+d:=by omega
    rw [e] at step done
    exact ih (i+1) (fun j h1 h2=>step j (by omega) h2) done
theorem cr{σ Y:Type}{B:σ→Option (σ⊕Y)}(st:Nat→σ)(n:Nat){y:Y}{s0:σ}(h0:s0=st 0)(step:∀ j,j<n→B (st j)=some (.inl (st (j+1))))(done:B (st n)=some (.inr y)) :cU B s0=some y:=by
  rw [h0];exact anx st n 0 (Nat.zero_le _) (fun j _=>step j) done
theorem cO{n:Int} :cV .i64 n=true↔-9223372036854775808≤n∧n≤9223372036854775807:=by
  have e1:IntKind.i64.min = -9223372036854775808:=by decide
  have e2:IntKind.i64.max=9223372036854775807:=by decide
  simp only [cV,e1,e2,Bool.and_eq_true,decide_eq_true_eq]
theorem AU{k:Int}{n:Nat} :fp k n=true↔0≤k∧k<n:=by simp only [fp,Bool.and_eq_true,decide_eq_true_eq]
theorem CJ{k:Int}{n:Nat} :CE k n=true↔0≤k∧k≤n:=by simp only [CE,Bool.and_eq_true,decide_eq_true_eq]
theorem nU{k n:Nat} :fO k n=true↔k<n:=by simp [fO]
theorem oR{k n:Nat} :mQ k n=true↔k≤n:=by simp [mQ]
theorem oS{k n:Nat} :Nat.ble k n=true↔k≤n:=by rw [Nat.ble_eq]
theorem oT{k n:Nat} :Nat.blt k n=true↔k<n:=by rw [Nat.blt_eq]
def arW{α:Type}(pos:Nat→Nat)(val:Nat→α)(l:List α) :Nat→List α
  | 0=>l
  | n+1=>(arW pos val l n).set (pos n) (val n)
theorem kC{α:Type}{pos:Nat→Nat}{val:Nat→α}{l:List α} :∀ {n:Nat},(arW pos val l n).length=l.length
  | 0=>rfl
  | n+1=>by simp only [arW,List.length_set];exact kC
theorem agy{α:Type}(l:List α) :aK 0 l.length l=true:=by rw [gC];omega
theorem cK{α:Type}{b:Bool}{t:T α}{x:Option α}(k:t.run=x)(h:b=true:=by exact agy _) :(T.need b t).run=x:=fE h k
theorem dr{α:Type}{n:Nat}{l:List α}(h:l.length=n) :aa 0 n l=l:=by rw [←h];exact bj l
theorem uA{p:Nat→Prop} [DecidablePred p]:∀ {n:Nat},(¬ ∀ i,i<n→p i)→∃ k,k<n∧¬ p k∧∀ j,j<k→p j
  | 0,h=>(h fun i hi=>absurd hi (Nat.not_lt_zero _)).elim
  | n+1,h=>by
    by_cases q:∀ i,i<n→p i
    · refine ⟨n,Nat.lt_succ_self _,fun r=>h fun i hi=>?_,q⟩
      rcases Nat.lt_succ_iff_lt_or_eq.1 hi with a | rfl
      · exact q i a
      · exact r
    · obtain ⟨k,h1,h2,h3⟩:=uA q
      exact ⟨k,by omega,h2,h3⟩
theorem cM(n:Nat) :Int.toNat (n:Int)=n:=rfl
def zD(x:Nat) :Nat:=if x<4503599627370496 then x else 4503599627370496+x%4503599627370496
def jQ(x:Nat) :Nat:=x/4503599627370496-1
theorem TB{x:Nat}(h:x<9218868437227405312) :FloatKind.f64.format.read x=.number false (zD x) (-1074+(jQ x:Int)):=by
  have e1:Ieee.double.signWeight=9223372036854775808:=by decide
  have e2:Ieee.double.binade=4503599627370496:=by decide
  have e3:Ieee.double.infRung=9218868437227405312:=by decide
  have e4:Ieee.double.leastPlace = -1074:=by decide
  show Ieee.double.read x=_
  unfold Ieee.Format.read
  simp only [e1,e2,e3,e4]
  have h1:x/9223372036854775808%2=0:=by omega
  have h2:x%9223372036854775808=x:=by omega
  rw [h1,h2]
  by_cases h3:x<4503599627370496
  · rw [if_pos h3]
    have:jQ x=0:=by unfold jQ;omega
    simp only [zD,if_pos h3,this];rfl
  · rw [if_neg h3,if_pos h]
    simp only [zD,if_neg h3,jQ];rfl
theorem amo(x:Nat) :zD x<9007199254740992:=by unfold zD;split<;>omega
theorem aqO{x:Nat}(h:0<jQ x) :4503599627370496≤zD x:=by unfold jQ at h;unfold zD;rw [if_neg (by omega)];omega
theorem Ly{x y:Nat}(hx:x<9218868437227405312)(hy:y<9218868437227405312) :
    rU x y=some (compare ((zD x*2^(jQ x-min (jQ x) (jQ y)):Nat):Int) ((zD y*2^(jQ y-min (jQ x) (jQ y)):Nat):Int)):=by
  unfold rU Ieee.Format.order
  rw [TB hx,TB hy]
  simp only [Ieee.Datum.order,Ieee.signed,Bool.false_eq_true,if_false,Nat.shiftLeft_eq]
  have e1:((-1074+(jQ x:Int))-min (-1074+(jQ x:Int)) (-1074+(jQ y:Int))).toNat=jQ x-min (jQ x) (jQ y):=by omega
  have e2:((-1074+(jQ y:Int))-min (-1074+(jQ x:Int)) (-1074+(jQ y:Int))).toNat=jQ y-min (jQ x) (jQ y):=by omega
  rw [e1,e2]
theorem aqP{x y:Nat}(hx:x<9218868437227405312)(hy:y<9218868437227405312) :rU x y=some .gt↔rU y x=some .lt:=by
  rw [Ly hx hy,Ly hy hx,Nat.min_comm]
  simp only [Option.some.injEq]
  rw [Int.compare_eq_gt,Int.compare_eq_lt]
theorem amp{x y:Nat}(hx:x<9218868437227405312)(hy:y<9218868437227405312)(h:x<y) :rU x y=some .lt:=by
  rw [Ly hx hy]
  have hle:jQ x≤jQ y:=by unfold jQ;omega
  rw [Nat.min_eq_left hle,Nat.sub_self,Nat.pow_zero,Nat.mul_one]
  have key:zD x<zD y*2^(jQ y-jQ x):=by
    rcases Nat.eq_or_lt_of_le hle with h1 | h1
    · rw [h1,Nat.sub_self,Nat.pow_zero,Nat.mul_one]
      unfold jQ at h1;unfold zD
      split<;>split<;>omega
    · have a:=aqO (x:=y) (by omega)
      have b:=amo x
      have c:2^1≤2^(jQ y-jQ x):=Nat.pow_le_pow_right (by decide) (by omega)
      have d:4503599627370496*2≤zD y*2^(jQ y-jQ x):=Nat.mul_le_mul a c
      omega
  rw [Int.compare_eq_lt.2 (by exact_mod_cast key)]
theorem apo{x y:Nat}(hx:x<9218868437227405312)(hy:y<9218868437227405312) :rU x y=some (compare x y):=by
  rcases Nat.lt_trichotomy x y with h | rfl | h
  · rw [amp hx hy h,Nat.compare_eq_lt.2 h]
  · rw [Ly hx hx];simp
  · rw [(aqP hx hy).2 (amp hy hx h),Nat.compare_eq_gt.2 h]
theorem apq:FloatKind.f64.format.read 9218868437227405312=.infinity false:=by decide
theorem aj0{y:Nat}(hy:y<9218868437227405312) :rU 9218868437227405312 y=some .gt:=by
  unfold rU Ieee.Format.order;rw [apq,TB hy];rfl
def mW{α:Type}(f:Nat→α) :Nat→List α
  | 0=>[]
  | n+1=>mW f n++[f n]
theorem iY{α:Type}{f:Nat→α} :∀ {n:Nat},(mW f n).length=n
  | 0=>rfl
  | n+1=>by simp only [mW,List.length_append,List.length_singleton,iY (n:=n)]
theorem CM{α:Type}{f:Nat→α} :∀ {n i:Nat},i<n→(mW f n)[i]? = some (f i)
  | 0,i,h=>absurd h (Nat.not_lt_zero _)
  | n+1,i,h=>by
    simp only [mW]
    by_cases e:i=n
    · subst e;rw [List.getElem?_append_right (by rw [iY];exact Nat.le_refl _),iY,Nat.sub_self];rfl
    · rw [List.getElem?_append_left (by rw [iY];omega)];exact CM (by omega)
theorem DC{α:Type}{f:Nat→α}{n i:Nat}{d:α}(h:i<n) :(mW f n).getD i d=f i:=by
  rw [List.getD_eq_getElem?_getD,CM h];rfl
theorem dU{α:Type}{f g:Nat→α} :∀ {n:Nat},(∀ i,i<n→f i=g i)→mW f n=mW g n
  | 0,_=>rfl
  | n+1,h=>by simp only [mW];rw [dU fun i hi=>h i (by omega),h n (by omega)]
theorem N5{α:Type}{f:Nat→α}{n:Nat}{l:List α}(hl:l.length=n)(h:∀ i,i<n→l[i]? = some (f i)) :l=mW f n:=by
  apply List.ext_getElem?
  intro i
  by_cases hi:i<n
  · rw [h i hi,CM hi]
  · rw [List.getElem?_eq_none (by omega),List.getElem?_eq_none (by rw [iY];omega)]
theorem zc{α:Type}{f:Nat→α}{n i:Nat}{x:α}(h:i<n) :(mW f n).set i x=mW (fun j=>if j=i then x else f j) n:=by
  refine N5 (by rw [List.length_set,iY]) fun j hj=>?_
  rw [List.getElem?_set,iY]
  by_cases e:i=j
  · subst e;rw [if_pos rfl,if_pos h,if_pos rfl]
  · rw [if_neg e,CM hj,if_neg fun q=>e q.symm]
theorem wZ{α:Type}{n:Nat}{x:α} :List.replicate n x=mW (fun _=>x) n :=
  N5 List.length_replicate fun i hi=>by rw [List.getElem?_replicate,if_pos hi]
theorem aay{α:Type}{f:Nat→α}{n m:Nat}(h:m≤n) :aa 0 m (mW f n)=mW f m:=by
  refine N5 (oh (by rw [iY];omega)) fun i hi=>?_
  rw [HN,List.drop_zero,List.getElem?_take,if_pos hi,CM (by omega)]
abbrev W:Nat:=18446744073709551616
def lm(v i:Nat) :Int:=((v/W^i%W:Nat):Int)
def aL(v n:Nat) :List Int:=mW (lm v) n
theorem iP(n:Nat) :0<W^n:=Nat.pow_pos (by decide)
theorem aw{v n:Nat} :(aL v n).length=n:=iY
theorem AW{v i:Nat}(h:v<W^i) :lm v i=0:=by unfold lm;rw [Nat.div_eq_of_lt h];rfl
theorem Sb{v n i:Nat}(h:i<n) :(aL v n).getD i 0=lm v i:=DC h
theorem cj{v n:Nat}(h:v<W^n)(i:Nat) :(aL v n).getD i 0=lm v i:=by
  by_cases hi:i<n
  · exact Sb hi
  · rw [List.getD_eq_getElem?_getD,List.getElem?_eq_none (by rw [aw];omega)]
    exact (AW (Nat.lt_of_lt_of_le h (Nat.pow_le_pow_right (by decide) (by omega)))).symm
theorem dN{v n m:Nat}(h:m≤n) :aa 0 m (aL v n)=aL v m:=aay h
theorem HS{n:Nat} :List.replicate n (0:Int)=aL 0 n:=by
  rw [wZ];exact dU fun i _=>(AW (iP i)).symm
theorem TC{u x j:Nat}(hu:u<W^j)(hx:x<W)(i:Nat) :lm (u+x*W^j) i=if i=j then (x:Int) else lm u i:=by
  unfold lm
  by_cases e:i=j
  · subst e
    rw [if_pos rfl,Nat.add_mul_div_right _ _ (iP i),Nat.div_eq_of_lt hu,Nat.zero_add,Nat.mod_eq_of_lt hx]
  · rw [if_neg e]
    congr 1
    rcases Nat.lt_or_ge i j with h | h
    · obtain ⟨d,rfl⟩:∃ d,j=i+1+d:=⟨j-i-1,by omega⟩
      have:x*W^(i+1+d)=(x*W^d*W)*W^i:=by
        rw [Nat.pow_add,Nat.pow_succ];simp only [Nat.mul_assoc,Nat.mul_comm,Nat.mul_left_comm]
      rw [this,Nat.add_mul_div_right _ _ (iP i),Nat.add_mul_mod_self_right]
    · have h1:W^(j+1)≤W^i:=Nat.pow_le_pow_right (by decide) (by omega)
      have h2:u+x*W^j<W^(j+1):=by
        rw [Nat.pow_succ,Nat.mul_comm (W^j)]
        have:(x+1)*W^j≤W*W^j:=Nat.mul_le_mul_right _ hx
        rw [Nat.add_mul,Nat.one_mul] at this
        omega
      have h3:W^j≤W^(j+1):=Nat.pow_le_pow_right (by decide) (by omega)
      rw [Nat.div_eq_of_lt (Nat.lt_of_lt_of_le h2 h1),Nat.div_eq_of_lt (by omega)]
theorem DD{u x j n:Nat}(hu:u<W^j)(hx:x<W)(hj:j<n) :(aL u n).set j (x:Int)=aL (u+x*W^j) n:=by
  unfold aL
  rw [zc hj]
  exact dU fun i _=>(TC hu hx i).symm
theorem Ge(v j:Nat) :v%W^(j+1)=v%W^j+(v/W^j%W)*W^j:=by
  rw [Nat.pow_succ,Nat.mod_mul,Nat.mul_comm (W^j)]
theorem apr{v n:Nat} :aL (v%W^n) n=aL v n:=by
  refine dU fun i hi=>?_
  unfold lm
  obtain ⟨d,rfl⟩:∃ d,n=i+1+d:=⟨n-i-1,by omega⟩
  congr 1
  have h:=Nat.mod_mul (a:=W^i) (b:=W^(d+1)) (x:=v)
  have e:W^(i+1+d)=W^i*W^(d+1):=by rw [←Nat.pow_add];congr 1;omega
  rw [e,h,Nat.add_mul_div_left _ _ (iP i),Nat.div_eq_of_lt (Nat.mod_lt _ (iP i)),Nat.zero_add,Nat.pow_succ,Nat.mod_mul_left_mod]
def nl(v:Nat) :Nat:=if h:v=0 then 0 else nl (v/W)+1
termination_by v
decreasing_by exact Nat.div_lt_self (Nat.pos_of_ne_zero h) (by decide)
theorem fq:nl 0=0:=by rw [nl];rfl
theorem ej:∀ (v:Nat),v<W^nl v:=by
  intro v
  induction v using Nat.strongRecOn with
  | _ v ih =>
    rw [nl]
    split
    · rename_i h;subst h;decide
    · rename_i h
      have:=ih (v/W) (Nat.div_lt_self (Nat.pos_of_ne_zero h) (by decide))
      rw [Nat.pow_succ]
      exact (Nat.div_lt_iff_lt_mul (by decide)).1 this
theorem aps:∀ {v:Nat},v≠0→W^(nl v-1)≤v:=by
  intro v
  induction v using Nat.strongRecOn with
  | _ v ih =>
    intro h
    rw [nl,dif_neg h,Nat.add_sub_cancel]
    by_cases h2:v/W=0
    · rw [h2,fq];simp;omega
    · have:=ih (v/W) (Nat.div_lt_self (Nat.pos_of_ne_zero h) (by decide)) h2
      have e:W^nl (v/W)=W^(nl (v/W)-1)*W:=by
        rw [←Nat.pow_succ];congr 1
        have:nl (v/W)≠0:=by rw [nl,dif_neg h2];exact Nat.succ_ne_zero _
        omega
      rw [e]
      exact Nat.le_trans (Nat.mul_le_mul_right _ this) (Nat.div_mul_le_self v W)
theorem zE{v:Nat}(h:v≠0) :0<nl v:=by rw [nl,dif_neg h];exact Nat.succ_pos _
theorem me{v n:Nat}(h:v<W^n) :nl v≤n:=by
  by_cases h0:v=0
  · rw [h0,fq];exact Nat.zero_le _
  · have:=aps h0
    have h1:W^(nl v-1)<W^n:=Nat.lt_of_le_of_lt this h
    have:=(Nat.pow_lt_pow_iff_right (show 1<W by decide)).1 h1
    omega
theorem je{v:Nat} :nl v=0↔v=0:=by
  constructor
  · intro h
    by_cases h0:v=0
    · exact h0
    · have:=zE h0;omega
  · intro h;rw [h,fq]
theorem ack{v:Nat}(h:v≠0) :lm v (nl v-1)≠0:=by
  have h1:=aps h
  have h2:=ej v
  have h3:=zE h
  unfold lm
  have e:W^nl v=W^(nl v-1)*W:=by rw [←Nat.pow_succ];congr 1;omega
  have q:v/W^(nl v-1)<W:=by
    rw [Nat.div_lt_iff_lt_mul (iP _),Nat.mul_comm,←e];exact h2
  have p:0<v/W^(nl v-1):=Nat.div_pos h1 (iP _)
  rw [Nat.mod_eq_of_lt q];omega
theorem TD{S t j:Nat}(hS:S<W^j) :(S+t*W^j)/W^(j+1)=t/W∧(S+t*W^j)%W^(j+1)=S+(t%W)*W^j:=by
  have e1:(S+t*W^j)/W^j=t:=by rw [Nat.add_mul_div_right _ _ (iP j),Nat.div_eq_of_lt hS,Nat.zero_add]
  have e2:(S+t*W^j)%W^j=S:=by rw [Nat.add_mul_mod_self_right,Nat.mod_eq_of_lt hS]
  constructor
  · rw [Nat.pow_succ,←Nat.div_div_eq_div_mul,e1]
  · rw [Ge,e1,e2]
theorem su(v i:Nat) :lm v i=((v/W^i%W:Nat):Int):=rfl
theorem Lz(v j:Nat) :v/W^j=v/W^(j+1)*W+v/W^j%W:=by
  rw [Nat.pow_succ,←Nat.div_div_eq_div_mul,Nat.mul_comm,Nat.div_add_mod]
theorem anz{a b i:Nat} :lm a i=lm b i↔a/W^i%W=b/W^i%W:=by unfold lm;omega
theorem Gf{a b n:Nat}(ha:a<W^n)(hb:b<W^n) :∀ {d:Nat},d≤n→(∀ k,n-d≤k→k<n→lm a k=lm b k)→a/W^(n-d)=b/W^(n-d)
  | 0,_,_=>by rw [Nat.sub_zero,Nat.div_eq_of_lt ha,Nat.div_eq_of_lt hb]
  | d+1,hd,h=>by
    have ih:=Gf ha hb (d:=d) (by omega) fun k h1 h2=>h k (by omega) h2
    have e:n-d=n-(d+1)+1:=by omega
    rw [Lz a,Lz b,←e,ih,anz.1 (h (n-(d+1)) (Nat.le_refl _) (by omega))]
theorem DE{a b i:Nat}(h:a/W^(i+1)=b/W^(i+1))(hl:lm a i<lm b i) :a<b:=by
  have hl':a/W^i%W<b/W^i%W:=by unfold lm at hl;omega
  have:a/W^i<b/W^i:=by rw [Lz a,Lz b,h];omega
  rcases Nat.lt_or_ge a b with q | q
  · exact q
  · have:=Nat.div_le_div_right (c:=W^i) q
    omega
theorem LA{a b:Nat}(h:nl a<nl b) :a<b:=by
  have hb:b≠0:=fun e=>by rw [e,fq] at h;omega
  exact Nat.lt_of_lt_of_le (Nat.lt_of_lt_of_le (ej a) (Nat.pow_le_pow_right (by decide) (by omega))) (aps hb)
def sv(a b:Nat) :Int:=if a<b then -1 else if b<a then 1 else 0
theorem LB(x y:Nat) :cq .and .u64 (x:Int) (y:Int)=((x%W &&& y%W:Nat):Int):=by
  have e:(BitVec.ofInt IntKind.u64.bits (x:Int) &&& BitVec.ofInt IntKind.u64.bits (y:Int)).toNat=(x%W &&& y%W):=by
    show (BitVec.ofInt 64 (x:Int) &&& BitVec.ofInt 64 (y:Int)).toNat=_
    rw [rN,rN,BitVec.toNat_and,BitVec.toNat_ofNat,BitVec.toNat_ofNat]
  unfold cq
  simp only
  rw [e,gB]
  congr 1
  exact Nat.mod_eq_of_lt (Nat.lt_of_le_of_lt Nat.and_le_left (Nat.mod_lt _ (by decide)))
theorem acl(x y:Nat) :cq .or .u64 (x:Int) (y:Int)=((x%W ||| y%W:Nat):Int):=by
  have e:(BitVec.ofInt IntKind.u64.bits (x:Int) ||| BitVec.ofInt IntKind.u64.bits (y:Int)).toNat=(x%W ||| y%W):=by
    show (BitVec.ofInt 64 (x:Int) ||| BitVec.ofInt 64 (y:Int)).toNat=_
    rw [rN,rN,BitVec.toNat_or,BitVec.toNat_ofNat,BitVec.toNat_ofNat]
  unfold cq
  simp only
  rw [e,gB]
  congr 1
  exact Nat.mod_eq_of_lt (Nat.or_lt_two_pow (n:=64) (Nat.mod_lt _ (by decide)) (Nat.mod_lt _ (by decide)))
theorem agz{k:Nat}(h:k≤64) :min (Int.toNat (k:Int)) IntKind.u64.bits=k:=by
  show min k 64=k;omega
theorem agA(k:Nat) :(2:Int)^k=((2^k:Nat):Int):=by rw [Int.natCast_pow];rfl
theorem apt(x y:Nat) :Int.fdiv (x:Int) (y:Int)=((x/y:Nat):Int):=by
  rw [Int.fdiv_eq_ediv_of_nonneg _ (Int.natCast_nonneg y),Int.natCast_ediv]
theorem AX(x:Nat){k:Nat}(h:k≤64) :Int.fdiv (x:Int) (2^(min (Int.toNat (k:Int)) IntKind.u64.bits))=((x/2^k:Nat):Int):=by
  rw [agz h,agA,apt]
theorem LC(x:Nat){k:Nat}(h:k≤64) :IntKind.u64.wrap ((x:Int)*2^(min (Int.toNat (k:Int)) IntKind.u64.bits))=((x*2^k%W:Nat):Int):=by
  rw [agz h,agA,←Int.natCast_mul,gB]
theorem zF{x:Nat}(h:x<W) :IntKind.u64.wrap (x:Int)=(x:Int):=by rw [gB,Nat.mod_eq_of_lt h]
theorem oi(x y:Nat) :IntKind.u64.wrap ((x:Int)+(y:Int))=(((x+y)%W:Nat):Int):=by rw [←Int.natCast_add,gB]
theorem wD(x y:Nat) :IntKind.u64.wrap ((x:Int)*(y:Int))=(((x*y)%W:Nat):Int):=by rw [←Int.natCast_mul,gB]
theorem acm{x:Nat}(h:x<W) :cq .and .u64 (x:Int) 4294967295=((x%4294967296:Nat):Int):=by
  show cq .and .u64 (x:Int) ((4294967295:Nat):Int)=_
  rw [LB,Nat.mod_eq_of_lt h,Nat.mod_eq_of_lt (by decide:4294967295<W)]
  congr 1
  exact Nat.and_two_pow_sub_one_eq_mod x 32
theorem aj1{x y:Nat}(hx:x<W)(hy:y<W) :
    (x/4294967296*(y%4294967296)+x%4294967296*(y%4294967296)/4294967296)<W ∧
    x%4294967296*(y%4294967296)<W∧x/4294967296*(y%4294967296)<W∧x/4294967296*(y/4294967296)<W∧x%4294967296*(y/4294967296)<W ∧
    (x/4294967296*(y%4294967296)+x%4294967296*(y%4294967296)/4294967296)%4294967296+x%4294967296*(y/4294967296)<W ∧
    x/4294967296*(y/4294967296)+(x/4294967296*(y%4294967296)+x%4294967296*(y%4294967296)/4294967296)/4294967296<W ∧
    x/4294967296*(y/4294967296)+(x/4294967296*(y%4294967296)+x%4294967296*(y%4294967296)/4294967296)/4294967296 +
      ((x/4294967296*(y%4294967296)+x%4294967296*(y%4294967296)/4294967296)%4294967296+x%4294967296*(y/4294967296))/4294967296=x*y/W∧x*y/W<W:=by
  have hx:x<18446744073709551616:=hx
  have hy:y<18446744073709551616:=hy
  have hx1:x/4294967296≤4294967295:=by omega
  have hy1:y/4294967296≤4294967295:=by omega
  have hx0:x%4294967296≤4294967295:=by omega
  have hy0:y%4294967296≤4294967295:=by omega
  have e:x*y=x/4294967296*(y/4294967296)*(4294967296*4294967296)+x/4294967296*(y%4294967296)*4294967296+(x%4294967296*(y/4294967296)*4294967296+x%4294967296*(y%4294967296)):=by
    have ex:x=x/4294967296*4294967296+x%4294967296:=by omega
    have ey:y=y/4294967296*4294967296+y%4294967296:=by omega
    generalize x/4294967296=a at *
    generalize x%4294967296=b at *
    generalize y/4294967296=c at *
    generalize y%4294967296=d at *
    rw [ex,ey,Nat.add_mul,Nat.mul_add,Nat.mul_add]
    generalize 4294967296=H
    ac_rfl
  have p1:=Nat.mul_le_mul hx1 hy1
  have p2:=Nat.mul_le_mul hx1 hy0
  have p3:=Nat.mul_le_mul hx0 hy1
  have p4:=Nat.mul_le_mul hx0 hy0
  rw [e]
  generalize x/4294967296*(y/4294967296)=s at *
  generalize x/4294967296*(y%4294967296)=p at *
  generalize x%4294967296*(y/4294967296)=q at *
  generalize x%4294967296*(y%4294967296)=r at *
  clear e hx hy hx1 hy1 hx0 hy0
  have eW:W=18446744073709551616:=rfl
  rw [eW]
  refine ⟨?_,?_,?_,?_,?_,?_,?_,?_,?_⟩<;>omega
def sw(O a m k i:Nat) :Nat:=O%W^(k+i)+a%W^i*m*W^k
theorem aaz(O a m k i:Nat) :sw O a m k (i+1)=sw O a m k i%W^(k+i)+(O/W^(k+i)%W+a/W^i%W*m+sw O a m k i/W^(k+i))*W^(k+i):=by
  have h:=Nat.div_add_mod (sw O a m k i) (W^(k+i))
  have e:W^i*W^k=W^(k+i):=by rw [Nat.pow_add,Nat.mul_comm]
  have e2:(a/W^i%W)*W^i*m*W^k=a/W^i%W*m*W^(k+i):=by
    rw [←e];generalize a/W^i%W=x;ac_rfl
  have e3:sw O a m k (i+1)=sw O a m k i+(O/W^(k+i)%W*W^(k+i)+a/W^i%W*m*W^(k+i)):=by
    unfold sw
    rw [←Nat.add_assoc k i 1,Ge O,Ge a,Nat.add_mul,Nat.add_mul,e2]
    omega
  rw [e3,Nat.add_mul,Nat.add_mul,Nat.mul_comm (sw O a m k i/W^(k+i))]
  omega
theorem aj2{O a m k i:Nat} :sw O a m k i/W^(k+i)≤m:=by
  have h1:=Nat.mod_lt O (iP (k+i))
  have h2:=Nat.mod_lt a (iP i)
  have e:W^i*W^k=W^(k+i):=by rw [Nat.pow_add,Nat.mul_comm]
  have h3:a%W^i*m*W^k≤W^(k+i)*m:=by
    have:a%W^i*(m*W^k)≤W^i*(m*W^k):=Nat.mul_le_mul_right _ (by omega)
    have e4:W^i*(m*W^k)=W^(k+i)*m:=by rw [←e];ac_rfl
    rw [Nat.mul_assoc];omega
  have:sw O a m k i<(m+1)*W^(k+i):=by
    rw [Nat.add_mul,Nat.one_mul,Nat.mul_comm m]
    unfold sw;omega
  have:=(Nat.div_lt_iff_lt_mul (iP (k+i))).2 this
  omega
def WP(O a m k n i:Nat) :List Int:=mW (fun q=>if q<k+i then lm (sw O a m k i%W^(k+i)) q else lm O q) n
theorem apu{O a m k n i:Nat} :(WP O a m k n i).length=n:=iY
theorem aqQ{O a m k n i:Nat}(h:k+i<n) :(WP O a m k n i).getD (k+i) 0=lm O (k+i):=by
  unfold WP;rw [DC h,if_neg (Nat.lt_irrefl _)]
theorem anA{O a m k n:Nat} :WP O a m k n 0=aL O n:=by
  refine dU fun q hq=>?_
  by_cases h:q<k+0
  · rw [if_pos h]
    have e:sw O a m k 0%W^(k+0)=O%W^k:=by unfold sw;rw [Nat.pow_zero,Nat.mod_one,Nat.zero_mul,Nat.zero_mul,Nat.add_zero,Nat.add_zero,Nat.mod_mod]
    rw [e]
    have:(aL (O%W^k) k).getD q 0=(aL O k).getD q 0:=by rw [apr]
    rwa [Sb (by omega),Sb (by omega)] at this
  · rw [if_neg h]
theorem anB{O a m k n i:Nat}(h:k+i<n) :(WP O a m k n i).set (k+i) (((O/W^(k+i)%W+a/W^i%W*m+sw O a m k i/W^(k+i))%W:Nat):Int)=WP O a m k n (i+1):=by
  unfold WP
  rw [zc h]
  refine dU fun q hq=>?_
  have hS:=Nat.mod_lt (sw O a m k i) (iP (k+i))
  obtain ⟨_,d2⟩:=TD (t:=O/W^(k+i)%W+a/W^i%W*m+sw O a m k i/W^(k+i)) hS
  rw [←aaz] at d2
  have hl:=TC hS (Nat.mod_lt (O/W^(k+i)%W+a/W^i%W*m+sw O a m k i/W^(k+i)) (show W>0 by decide)) q
  rw [←d2] at hl
  rw [←Nat.add_assoc k i 1]
  by_cases e:q=k+i
  · rw [if_pos e] at hl ⊢
    rw [if_pos (by omega),hl]
  · rw [if_neg e] at hl ⊢
    by_cases r:q<k+i
    · rw [if_pos r,if_pos (by omega),hl]
    · rw [if_neg r,if_neg (by omega)]
theorem agB{O a m k n:Nat}(hO:O<W^(k+n))(ha:a<W^n) :sw O a m k n=O+a*m*W^k:=by
  unfold sw;rw [Nat.mod_eq_of_lt hO,Nat.mod_eq_of_lt ha]
theorem apv{O a m k n N:Nat}(hO:O<W^(k+n)) :WP O a m k N n=aL (sw O a m k n%W^(k+n)) N:=by
  refine dU fun q hq=>?_
  by_cases h:q<k+n
  · rw [if_pos h]
  · rw [if_neg h,AW (Nat.lt_of_lt_of_le hO (Nat.pow_le_pow_right (by decide) (by omega))),AW (Nat.lt_of_lt_of_le (Nat.mod_lt _ (iP _)) (Nat.pow_le_pow_right (by decide) (by omega)))]
theorem apw{x y c o:Nat}(hx:x<W)(hy:y<W)(hc:c<W)(ho:o<W) :
    (o+(x*y%W+c)%W)%W=(o+x*y+c)%W∧(x*y/W+(x*y%W+c)/W)<W∧x*y/W+(x*y%W+c)/W+(o+(x*y%W+c)%W)/W=(o+x*y+c)/W∧(o+x*y+c)/W<W:=by
  have hp:x*y≤18446744073709551615*18446744073709551615:=Nat.mul_le_mul (by have:x<18446744073709551616:=hx;omega) (by have:y<18446744073709551616:=hy;omega)
  have hc:c<18446744073709551616:=hc
  have ho:o<18446744073709551616:=ho
  generalize x*y=p at *
  have eW:W=18446744073709551616:=rfl
  rw [eW]
  refine ⟨?_,?_,?_,?_⟩<;>omega
def tz(v:Nat) :Nat:=if h:v%2=1∨v=0 then 0 else tz (v/2)+1
termination_by v
decreasing_by omega
theorem iD(n:Nat) :0<2^n:=Nat.pow_pos (by decide)
theorem N6:∀ {z v:Nat},v%2^z=0→v/2^z%2=1→tz v=z
  | 0,v,h0,h1=>by rw [Nat.pow_zero,Nat.div_one] at h1;rw [tz,dif_pos (.inl h1)]
  | z+1,v,h0,h1=>by
    have p:=iD z
    rw [Nat.pow_succ] at h0 h1
    rw [Nat.mul_comm (2^z),Nat.mod_mul] at h0
    rw [Nat.mul_comm (2^z),←Nat.div_div_eq_div_mul] at h1
    have a0:v%2=0:=by omega
    have a1:v/2%2^z=0:=by omega
    have a2:v≠0:=by intro e;subst e;simp at h1
    rw [tz,dif_neg (by omega),N6 a1 h1]
theorem AY:∀ (v:Nat),v≠0→v%2^tz v=0∧v/2^tz v%2=1:=by
  intro v
  induction v using Nat.strongRecOn with
  | _ v ih =>
    intro h
    rw [tz]
    split
    · rename_i q;rw [Nat.pow_zero,Nat.mod_one,Nat.div_one];omega
    · rename_i q
      obtain ⟨h1,h2⟩:=ih (v/2) (by omega) (by omega)
      rw [Nat.pow_succ,Nat.mul_comm (2^_),Nat.mod_mul,←Nat.div_div_eq_div_mul,h1,h2]
      omega
theorem aqR:tz 0=0:=by rw [tz,dif_pos (.inr rfl)]
theorem aj3{v:Nat}(h:v≠0)(k:Nat) :tz (v*2^k)=tz v+k:=by
  obtain ⟨h1,h2⟩:=AY v h
  refine N6 ?_ ?_
  · rw [Nat.pow_add,Nat.mul_mod_mul_right,h1,Nat.zero_mul]
  · rw [Nat.pow_add,Nat.mul_div_mul_right _ _ (iD k),h2]
theorem aaA{v n:Nat}(h:v≠0)(hv:v<2^n) :tz v<n:=by
  obtain ⟨h1,h2⟩:=AY v h
  rcases Nat.lt_or_ge (tz v) n with q | q
  · exact q
  · rw [Nat.div_eq_of_lt (Nat.lt_of_lt_of_le hv (Nat.pow_le_pow_right (by decide) q))] at h2;omega
theorem amq{v:Nat}(h:v≠0) :v/2^tz v*2^tz v=v:=Nat.div_mul_cancel (Nat.dvd_of_mod_eq_zero (AY v h).1)
theorem apx{v:Nat}(h:v≠0) :v/2^tz v≠0:=by intro e;have:=(AY v h).2;rw [e] at this;omega
theorem aqS{x:Nat}(h0:x≠0)(h:x<W) :x &&& (W-x)=2^tz x:=by
  have hz:=aaA (n:=64) h0 h
  have ho:=(AY x h0).2
  have hb:=amq h0
  have hno:=apx h0
  revert ho hb hno
  generalize x/2^tz x=o
  revert hz
  generalize tz x=z
  intro hz ho hb hno
  have e64:W=2^(64-z)*2^z:=by rw [←Nat.pow_add];show 2^64=_;congr 1;omega
  have hlt:o<2^(64-z):=by
    rw [←hb,e64] at h
    exact Nat.lt_of_mul_lt_mul_right h
  have e1:x=o <<< z:=by rw [Nat.shiftLeft_eq,hb]
  have e2:W-x=(2^(64-z)-o) <<< z:=by rw [Nat.shiftLeft_eq,Nat.sub_mul,hb,←e64]
  rw [e2,e1,←Nat.shiftLeft_and_distrib,Nat.shiftLeft_eq]
  have:o &&& (2^(64-z)-o)=1:=by
    apply Nat.eq_of_testBit_eq
    intro i
    obtain ⟨p,rfl⟩:∃ p,o=p+1:=⟨o-1,by omega⟩
    rw [Nat.testBit_and,Nat.testBit_two_pow_sub_succ (by omega)]
    rcases i with _ | i
    · have:(p+1).testBit 0=true:=by rw [Nat.testBit_zero];exact decide_eq_true ho
      have q:p.testBit 0=false:=by rw [Nat.testBit_zero];exact decide_eq_false (by omega)
      rw [this,q];simp;omega
    · rw [Nat.testBit_succ,Nat.testBit_succ,show (p+1)/2=p/2 by omega,Nat.testBit_succ]
      simp
      intro a b;exact a
  rw [this,Nat.one_mul]
theorem zd{z:Nat}(h:z<64) :2^z<W:=Nat.pow_lt_pow_right (by decide) h
theorem aaB{a x m:Nat}(h:a%m+x<m) :(a+x)%m=a%m+x∧(a+x)/m=a/m:=by
  have e:a+x=(a%m+x)+m*(a/m):=by have:=Nat.mod_add_div a m;omega
  have hm:0<m:=by omega
  constructor
  · rw [e,Nat.add_mul_mod_self_left,Nat.mod_eq_of_lt h]
  · rw [e,Nat.add_mul_div_left _ _ hm,Nat.div_eq_of_lt h,Nat.zero_add]
theorem arX{u x j:Nat}(hx:u/W^j%W+x<W)(i:Nat) :lm (u+x*W^j) i=if i=j then lm u j+(x:Int) else lm u i:=by
  unfold lm
  by_cases e:i=j
  · subst e
    rw [if_pos rfl,Nat.add_mul_div_right _ _ (iP i)]
    rw [(aaB hx).1,Int.natCast_add]
  · rw [if_neg e]
    congr 1
    rcases Nat.lt_or_ge i j with h | h
    · obtain ⟨d,rfl⟩:∃ d,j=i+1+d:=⟨j-i-1,by omega⟩
      have:x*W^(i+1+d)=(x*W^d*W)*W^i:=by
        rw [Nat.pow_add,Nat.pow_succ];simp only [Nat.mul_assoc,Nat.mul_comm,Nat.mul_left_comm]
      rw [this,Nat.add_mul_div_right _ _ (iP i),Nat.add_mul_mod_self_right]
    · have e2:i=j+1+(i-j-1):=by omega
      have key:(u+x*W^j)/W^(j+1)=u/W^(j+1):=by
        rw [Nat.pow_succ,←Nat.div_div_eq_div_mul,←Nat.div_div_eq_div_mul,Nat.add_mul_div_right _ _ (iP j),(aaB hx).2]
      rw [e2,Nat.pow_add,←Nat.div_div_eq_div_mul,←Nat.div_div_eq_div_mul,key]
theorem agC{u x j n:Nat}(hx:u/W^j%W+x<W)(hj:j<n) :(aL u n).set j (((u/W^j%W+x:Nat)):Int)=aL (u+x*W^j) n:=by
  unfold aL
  rw [zc hj]
  refine dU fun i _=>?_
  rw [arX hx]
  by_cases e:i=j
  · subst e;rw [if_pos rfl,if_pos rfl,su,Int.natCast_add]
  · rw [if_neg e,if_neg e]
theorem apy{x r:Nat}(hx:x<W)(hr:r<64) :x*2^r=x*2^r%W+x/2/2^(63-r)*W∧x/2/2^(63-r)<2^r∧x/2/2^(63-r)=x*2^r/W:=by
  have e:W=2^r*2^(64-r):=by rw [←Nat.pow_add];show 2^64=_;congr 1;omega
  have h1:x/2/2^(63-r)=x*2^r/W:=by
    rw [Nat.div_div_eq_div_mul,show 2*2^(63-r)=2^(64-r) by rw [show 64-r=(63-r)+1 by omega,Nat.pow_succ,Nat.mul_comm],e,Nat.mul_comm x,Nat.mul_div_mul_left _ _ (iD r)]
  refine ⟨?_,?_,h1⟩
  · rw [h1];have:=Nat.div_add_mod (x*2^r) W;rw [Nat.mul_comm W] at this;omega
  · rw [h1]
    refine Nat.div_lt_of_lt_mul ?_
    exact Nat.mul_lt_mul_of_pos_right hx (iD r)
theorem aj4{h x r:Nat}(hh:h<2^r) :h ||| x*2^r=h+x*2^r:=by
  rw [Nat.or_comm,Nat.mul_comm,Nat.add_comm]
  exact (Nat.two_pow_add_eq_or_of_lt hh x).symm
theorem apz{V r:Nat}(hr:r<64) :V/2^r%W=V%W/2^r+(V/W%W)*2%W*2^(63-r)%W ∧
    (V%W/2^r ||| (V/W%W)*2%W*2^(63-r)%W)=V%W/2^r+(V/W%W)*2%W*2^(63-r)%W:=by
  have e:W=2^r*2^(64-r):=by rw [←Nat.pow_add];show 2^64=_;congr 1;omega
  have e':2^(64-r)=2^(63-r)*2:=by rw [←Nat.pow_succ];congr 1;omega
  have hlo:V%W/2^r<2^(64-r):=by
    refine Nat.div_lt_of_lt_mul ?_
    rw [←e];exact Nat.mod_lt _ (by decide)
  have f:(V/W%W)*2%W*2^(63-r)%W=(V/W%2^r)*2^(64-r):=by
    rw [Nat.mod_mul_mod,Nat.mul_assoc,Nat.mul_comm 2,←e']
    have:(V/W%W)%2^r=V/W%2^r:=by rw [e,Nat.mod_mul_right_mod]
    rw [←this]
    rw [e]
    rw [Nat.mul_mod_mul_right]
  have g:V/2^r=V%W/2^r+V/W*2^(64-r):=by
    have h:=Nat.mod_add_div V W
    have:V=V%W+(V/W*2^(64-r))*2^r:=by
      rw [Nat.mul_assoc,Nat.mul_comm (2^(64-r)),←e,Nat.mul_comm (V/W)];exact h.symm
    rw [this,Nat.add_mul_div_right _ _ (iD r)]
    rw [←this]
  refine ⟨?_,?_⟩
  · rw [f,g]
    have:V/W*2^(64-r)=(V/W%2^r)*2^(64-r)+(V/W/2^r)*W:=by
      have q:=Nat.mod_add_div (V/W) (2^r)
      rw [show (V/W/2^r)*W=2^r*(V/W/2^r)*2^(64-r) by rw [Nat.mul_comm (2^r),Nat.mul_assoc,←e],←Nat.add_mul,q]
    rw [this,←Nat.add_assoc,Nat.add_mul_mod_self_right]
    refine Nat.mod_eq_of_lt ?_
    have a:V/W%2^r<2^r:=Nat.mod_lt _ (iD r)
    have b:(V/W%2^r+1)*2^(64-r)≤2^r*2^(64-r):=Nat.mul_le_mul_right _ a
    rw [←e,Nat.add_mul,Nat.one_mul] at b
    omega
  · rw [f];exact aj4 hlo
theorem apA{x:Nat}(h0:x≠0)(h:x<W) :IntKind.u64.wrap ((0:Int)-(x:Int))=((W-x:Nat):Int):=by
  have h':x<18446744073709551616:=h
  simp only [IntKind.wrap,IntKind.signed,IntKind.bits]
  simp
  show -(x:Int)%18446744073709551616=((18446744073709551616-x:Nat):Int)
  omega
theorem TE{r:Nat}(hr:r<64) :IntKind.u64.wrap ((63:Int)-(r:Int))=((63-r:Nat):Int):=by
  have e:(63:Int)-(r:Int)=((63-r:Nat):Int):=by omega
  rw [e,zF (Nat.lt_of_le_of_lt (Nat.sub_le 63 r) (by decide))]
theorem apB{v q r i n:Nat}(hr:r<64)(hi:i+q+1<n) :
    ((aL (v%W^i*2^r*W^q) n).set (i+q) (cq .or .u64 ((aL (v%W^i*2^r*W^q) n).getD (i+q) 0) (((v/W^i%W)*2^r%W:Nat):Int))).set (i+q+1) (((v/W^i%W)/2/2^(63-r):Nat):Int)=aL (v%W^(i+1)*2^r*W^q) n:=by
  have hL:v/W^i%W<W:=Nat.mod_lt _ (by decide)
  have ev:v%W^(i+1)=v%W^i+(v/W^i%W)*W^i:=Ge v i
  rw [ev]
  generalize v/W^i%W=L at hL
  have hu:v%W^i<W^i:=Nat.mod_lt _ (iP i)
  generalize v%W^i=u at hu
  obtain ⟨s1,s2,s3⟩:=apy hL hr
  have pr:2^r<W:=zd hr
  have hh:u*2^r/W^i<2^r:=Nat.div_lt_of_lt_mul (Nat.mul_lt_mul_of_pos_right hu (iD r))
  have hd:u*2^r*W^q/W^(i+q)=u*2^r/W^i:=by rw [Nat.pow_add,Nat.mul_div_mul_right _ _ (iP q)]
  have e64:W=2^(64-r)*2^r:=by rw [←Nat.pow_add];show 2^64=_;congr 1;omega
  have hlow:L*2^r%W=(L%2^(64-r))*2^r:=by rw [e64,Nat.mul_mod_mul_right]
  have hsum:u*2^r/W^i+L*2^r%W<W:=by
    have a:L%2^(64-r)<2^(64-r):=Nat.mod_lt _ (iD _)
    have b:(L%2^(64-r)+1)*2^r≤2^(64-r)*2^r:=Nat.mul_le_mul_right _ a
    rw [←e64,Nat.add_mul,Nat.one_mul,←hlow] at b
    omega
  have hm:u*2^r/W^i%W=u*2^r/W^i:=Nat.mod_eq_of_lt (by omega)
  have hl:L*2^r%W<W:=Nat.mod_lt _ (by decide)
  rw [Sb (by omega),su,hd,acl,Nat.mod_mod,hm,Nat.mod_eq_of_lt hl]
  rw [hlow,aj4 hh,←hlow]
  have hx:u*2^r*W^q/W^(i+q)%W+L*2^r%W<W:=by rw [hd,hm];exact hsum
  have e:=agC (n:=n) hx (show i+q<n by omega)
  rw [hd,hm] at e
  rw [e]
  have hU:u*2^r*W^q+L*2^r%W*W^(i+q)<W^(i+q+1):=by
    have a:=Nat.mod_add_div (u*2^r*W^q) (W^(i+q))
    have b:=Nat.mod_lt (u*2^r*W^q) (iP (i+q))
    rw [hd] at a
    have c:(u*2^r/W^i+L*2^r%W+1)*W^(i+q)≤W*W^(i+q):=Nat.mul_le_mul_right _ hsum
    rw [Nat.add_mul,Nat.add_mul,Nat.one_mul,Nat.mul_comm _ (W^(i+q))] at c
    rw [Nat.pow_succ,Nat.mul_comm _ W]
    omega
  rw [DD hU (by omega) hi]
  congr 1
  rw [Nat.pow_succ,Nat.mul_comm (W^(i+q)),←Nat.mul_assoc,Nat.add_assoc,←Nat.add_mul,←s1,Nat.pow_add,Nat.add_mul,Nat.add_mul]
  congr 1
  simp only [Nat.mul_assoc,Nat.mul_comm,Nat.mul_left_comm]
theorem Gg(k:Nat) :2^k=2^(k%64)*W^(k/64):=by
  show 2^k=2^(k%64)*(2^64)^(k/64)
  rw [←Nat.pow_mul,←Nat.pow_add];congr 1;omega
theorem apC{v k i:Nat} :lm (v/2^k) i=((v/W^(i+k/64)/2^(k%64)%W:Nat):Int):=by
  unfold lm
  rw [Gg k,Nat.div_div_eq_div_mul,Nat.div_div_eq_div_mul,Nat.pow_add]
  congr 3
  simp only [Nat.mul_assoc,Nat.mul_comm,Nat.mul_left_comm]
theorem arY{v k n:Nat}(h:v<W^n)(hq:k/64≤n) :v/2^k<W^(n-k/64):=by
  refine Nat.div_lt_of_lt_mul (Nat.lt_of_lt_of_le h ?_)
  rw [Gg k,Nat.mul_assoc,←Nat.pow_add]
  have:k/64+(n-k/64)=n:=by omega
  rw [this]
  exact Nat.le_mul_of_pos_left _ (iD _)
theorem apD{v k n:Nat}(h:v<W^n) :v*2^k<W^(n+k/64+1):=by
  rw [Gg k,Nat.pow_succ,Nat.pow_add,←Nat.mul_assoc,Nat.mul_right_comm]
  have a:v*W^(k/64)<W^n*W^(k/64):=Nat.mul_lt_mul_of_pos_right h (iP _)
  have b:2^(k%64)<W:=zd (Nat.mod_lt _ (by decide))
  exact Nat.mul_lt_mul_of_lt_of_le a (Nat.le_of_lt b) (by decide)
theorem agD{v k n:Nat}(h:v<W^n)(hq:n≤k/64) :v/2^k=0:=by
  refine Nat.div_eq_of_lt (Nat.lt_of_lt_of_le h ?_)
  rw [Gg k]
  exact Nat.le_trans (Nat.pow_le_pow_right (by decide) hq) (Nat.le_mul_of_pos_left _ (iD _))
def sg(s:Bool)(v:Nat) :Int:=if s then -(v:Int) else (v:Int)
def nS(z:Int) :Bool:=decide (z<0)
def nM(z:Int) :Nat:=z.natAbs/2^tz z.natAbs
def nE(z e:Int) :Int:=if z=0 then 0 else e+(tz z.natAbs:Nat)
theorem Gh{s:Bool}{v:Nat} :(sg s v).natAbs=v:=by cases s<;>simp [sg]
theorem aqT(z:Int) :sg (nS z) z.natAbs=z:=by
  unfold sg nS
  by_cases h:z<0
  · rw [decide_eq_true h];simp;omega
  · rw [decide_eq_false h];simp;omega
theorem yv{s:Bool}{v:Nat} :sg s v=0↔v=0:=by cases s<;>simp [sg]
theorem apE{s:Bool}{v w:Nat} :sg s (v*w)=sg s v*(w:Int):=by
  cases s
  · simp [sg]
  · simp [sg,Int.neg_mul]
theorem aru{s:Bool}{v:Nat}(h:v≠0) :nS (sg s v)=s:=by
  unfold nS sg
  cases s
  · simp
  · simp;omega
theorem aaC{s t:Bool}{v w:Nat} :sg s v*sg t w=sg (s != t) (v*w):=by
  cases s<;>cases t<;>simp [sg,Int.neg_mul,Int.mul_neg]
theorem jZ:nM 0=0:=by unfold nM;rw [Int.natAbs_zero,Nat.zero_div]
theorem jn{e:Int} :nE 0 e=0:=by unfold nE;rw [if_pos rfl]
theorem amr:nS 0=false:=by decide
theorem lE{z e:Int}(h:z≠0) :nE z e=e+(tz z.natAbs:Nat):=if_neg h
theorem aj5{z:Int}(h:z≠0) :z.natAbs≠0:=by omega
theorem LD{z:Int}(h:z≠0) :nM z≠0:=apx (aj5 h)
theorem arv{z:Int} :nM z≤z.natAbs:=Nat.div_le_self _ _
theorem ams(z:Int) :nM z*2^tz z.natAbs=z.natAbs:=by
  by_cases h:z=0
  · subst h;rw [jZ];simp
  · exact amq (aj5 h)
theorem LF(z:Int) :sg (nS z) (nM z)*((2^tz z.natAbs:Nat):Int)=z:=by
  rw [←apE,ams,aqT]
theorem Gi{z z':Int}{m:Nat}(h:z=z'*((2^m:Nat):Int))(e:Int) :nS z=nS z'∧nM z=nM z'∧nE z e=nE z' (e+m):=by
  have p:=iD m
  have ha:z.natAbs=z'.natAbs*2^m:=by rw [h,Int.natAbs_mul,Int.natAbs_natCast]
  by_cases h0:z'=0
  · subst h0
    rw [Int.zero_mul] at h;subst h
    exact ⟨rfl,rfl,by rw [jn,jn]⟩
  · have hn:=aj5 h0
    have hz:z≠0:=by
      intro q
      rw [q,Int.natAbs_zero] at ha
      rcases Nat.mul_eq_zero.1 ha.symm with w | w
      · exact hn w
      · omega
    refine ⟨?_,?_,?_⟩
    · unfold nS
      congr 1
      rw [h]
      have pp:(0:Int)<((2^m:Nat):Int):=Int.natCast_pos.2 p
      refine propext ⟨fun q=>?_,fun q=>Int.mul_neg_of_neg_of_pos q pp⟩
      rcases Int.lt_trichotomy z' 0 with w | w | w
      · exact w
      · exact absurd w h0
      · exact absurd q (Int.not_lt.2 (Int.le_of_lt (Int.mul_pos w pp)))
    · unfold nM
      rw [ha,aj3 hn,Nat.pow_add,Nat.mul_div_mul_right _ _ p]
    · rw [lE hz,lE h0,ha,aj3 hn];omega
theorem agE{z e:Int}{s:Bool}(hs:z≠0→s=nS z) :nS (sg s (nM z))=nS z∧nM (sg s (nM z))=nM z∧nE (sg s (nM z)) (nE z e)=nE z e:=by
  by_cases h0:z=0
  · subst h0
    rw [jZ]
    have:sg s 0=0:=by cases s<;>rfl
    rw [this]
    exact ⟨rfl,jZ,by rw [jn,jn]⟩
  · rw [hs h0]
    obtain ⟨a,b,c⟩:=Gi (LF z).symm e
    refine ⟨a.symm,b.symm,?_⟩
    rw [lE h0,←c,lE h0]
theorem DF{a b:Nat}(h:a≤b) :nl a≤nl b:=me (Nat.lt_of_le_of_lt h (ej b))
theorem agF{v:Nat} :tz v≤64*nl v:=by
  by_cases h:v=0
  · subst h;rw [aqR];exact Nat.zero_le _
  · have:=ej v
    have e:W^nl v=2^(64*nl v):=by rw [Nat.pow_mul]
    rw [e] at this
    exact Nat.le_of_lt (aaA h this)
theorem acn{a b:Nat} :nl (a*b)≤nl a+nl b:=by
  refine me ?_
  rw [Nat.pow_add]
  rcases Nat.eq_zero_or_pos b with h | h
  · rw [h,Nat.mul_zero];exact Nat.mul_pos (iP _) (iP _)
  · exact Nat.mul_lt_mul_of_lt_of_le (ej a) (Nat.le_of_lt (ej b)) (iP _)
theorem asB{z:Int} :nl (nM z)≤nl z.natAbs:=DF arv
def Sm(z e:Int) :Prop:=nl z.natAbs≤300∧-30000≤e∧e≤30000
theorem Sm.l{z e:Int}(h:Sm z e) :nl z.natAbs≤300:=h.1
theorem Sm.m{z e:Int}(h:Sm z e) :nl (nM z)≤300:=Nat.le_trans asB h.1
theorem Sm.t{z e:Int}(h:Sm z e) :tz z.natAbs≤19200:=Nat.le_trans agF (by have:=h.1;omega)
theorem Sm.b{z e:Int}(h:Sm z e) : -30000≤nE z e∧nE z e≤49200:=by
  have ht:=Sm.t h
  obtain ⟨_,h2,h3⟩:=h
  unfold nE
  split<;>omega
def Ix(x y:Int) :Int:=if x<y then -1 else if y<x then 1 else 0
abbrev CN:Nat:=18446744073709551616
def Iy(x:Nat) :Nat:=x/4503599627370496%2048
def pK(x:Nat) :Bool:=Iy x != 2047
theorem LG{x:Nat}(hx:x<CN)(h:pK x=true) :FloatKind.f64.format.read x=.number (x/9223372036854775808%2==1) (zD (x%9223372036854775808)) (-1074+(jQ (x%9223372036854775808):Int)):=by
  have e1:Ieee.double.signWeight=9223372036854775808:=by decide
  have e2:Ieee.double.binade=4503599627370496:=by decide
  have e3:Ieee.double.infRung=9218868437227405312:=by decide
  have e4:Ieee.double.leastPlace = -1074:=by decide
  have hx:x<18446744073709551616:=hx
  have h':x%9223372036854775808<9218868437227405312:=by
    unfold pK Iy at h;simp only [bne_iff_ne,ne_eq] at h;omega
  show Ieee.double.read x=_
  unfold Ieee.Format.read
  simp only [e1,e2,e3,e4]
  by_cases h3:x%9223372036854775808<4503599627370496
  · rw [if_pos h3]
    have:jQ (x%9223372036854775808)=0:=by unfold jQ;omega
    simp only [zD,if_pos h3,this];rfl
  · rw [if_neg h3,if_pos h']
    simp only [zD,if_neg h3,jQ]
theorem anC{x:Nat}(hx:x<CN)(h:x%9223372036854775808=9218868437227405312) :FloatKind.f64.format.read x=.infinity (x/9223372036854775808%2==1):=by
  have e1:Ieee.double.signWeight=9223372036854775808:=by decide
  have e2:Ieee.double.binade=4503599627370496:=by decide
  have e3:Ieee.double.infRung=9218868437227405312:=by decide
  have e4:Ieee.double.leastPlace = -1074:=by decide
  show Ieee.double.read x=_
  unfold Ieee.Format.read
  simp only [e1,e2,e3,e4]
  rw [h,if_neg (by decide),if_neg (by decide),if_pos rfl]
theorem anD{x:Nat}(hx:x<CN)(h:9218868437227405312<x%9223372036854775808) :isNaN x=true:=by
  have e1:Ieee.double.signWeight=9223372036854775808:=by decide
  have e2:Ieee.double.binade=4503599627370496:=by decide
  have e3:Ieee.double.infRung=9218868437227405312:=by decide
  have e4:Ieee.double.leastPlace = -1074:=by decide
  show (Ieee.double.read x).isNaN=true
  unfold Ieee.Format.read
  simp only [e1,e2,e3,e4]
  rw [if_neg (by omega),if_neg (by omega),if_neg (by omega)];rfl
theorem aqU{x:Nat}(hx:x<CN)(h:pK x=true) :isNaN x=false:=by
  show (Ieee.double.read x).isNaN=false
  have e:=LG hx h
  have e':Ieee.double.read x=_:=e
  rw [e'];rfl
theorem amt{x:Nat}(hx:x<CN)(h:pK x=true) :fne x x=false:=by
  unfold fne rU Ieee.Format.order
  rw [LG hx h]
  simp [Ieee.Datum.order,Int.min_self]
theorem amu{x y:Nat}(h:isNaN x=true) :fne x y=true:=by
  obtain ⟨s,t,e⟩:=zj h
  unfold fne rU Ieee.Format.order
  rw [e];rfl
theorem aaD{x:Nat}(hx:x<CN)(h:pK x=false) :isNaN x=true∨(isNaN x=false∧x%9223372036854775808=9218868437227405312∧fne x x=false):=by
  have hx':x<18446744073709551616:=hx
  have h':9218868437227405312≤x%9223372036854775808:=by
    unfold pK Iy at h;simp only [bne_eq_false_iff_eq] at h;omega
  rcases Nat.lt_or_ge 9218868437227405312 (x%9223372036854775808) with q | q
  · exact .inl (anD hx q)
  · have e:x%9223372036854775808=9218868437227405312:=by omega
    have r:=anC hx e
    refine .inr ⟨?_,e,?_⟩
    · show (Ieee.double.read x).isNaN=false
      have r':Ieee.double.read x=_:=r
      rw [r'];rfl
    · unfold fne rU Ieee.Format.order
      rw [r]
      simp [Ieee.Datum.order]
theorem agG{x:Nat}(hx:x<CN) :wC x=x%9223372036854775808:=by
  unfold wC;rfl
theorem aqV{x:Nat}(hx:x<CN)(h:pK x=true) :fgt (wC x) 9218868437227405311=false:=by
  have hx':x<18446744073709551616:=hx
  have h':x%9223372036854775808<9218868437227405312:=by
    unfold pK Iy at h;simp only [bne_iff_ne,ne_eq] at h;omega
  unfold fgt
  rw [agG hx,apo h' (by decide)]
  rcases Nat.lt_trichotomy (x%9223372036854775808) 9218868437227405311 with q | q | q
  · rw [Nat.compare_eq_lt.2 q];rfl
  · rw [q];rfl
  · omega
theorem aqW{x:Nat}(hx:x<CN)(h:x%9223372036854775808=9218868437227405312) :fgt (wC x) 9218868437227405311=true:=by
  unfold fgt
  rw [agG hx,h,aj0 (by decide)];rfl
def fz(x:Nat) :Int:=sg (x/9223372036854775808==1) (zD (x%9223372036854775808)*2^jQ (x%9223372036854775808))
theorem arZ{a b:Nat}(h:a≤b) :2^a≤2^b:=Nat.pow_le_pow_right (by decide) h
theorem ar0{x a b c:Nat}(hc:c=53+b)(h1:x<9007199254740992)(h2:a≤b) :x*2^a<2^c:=by
  subst hc
  rw [Nat.pow_add]
  exact Nat.mul_lt_mul_of_lt_of_le h1 (arZ h2) (iD _)
theorem asC{x:Nat}(hx:x<CN)(h:pK x=true) :(fz x).natAbs<2^2098:=by
  have hx':x<18446744073709551616:=hx
  unfold fz
  rw [Gh]
  have h1:=amo (x%9223372036854775808)
  have h2:jQ (x%9223372036854775808)≤2045:=by
    unfold pK Iy at h;simp only [bne_iff_ne,ne_eq] at h;unfold jQ;omega
  exact ar0 (b:=2045) (c:=2098) rfl h1 h2
theorem TF{x:Nat}(hx:x<CN)(h:pK x=true) :nl (fz x).natAbs≤33:=by
  refine me (Nat.lt_of_lt_of_le (asC hx h) ?_)
  decide +kernel
theorem amv{x:Nat}(hx:x<CN)(h:pK x=true) :Sm (fz x) (-1074):=⟨Nat.le_trans (TF hx h) (by decide),by decide,by decide⟩
theorem Sm.of{z e:Int}{k:Nat}(h:nl z.natAbs≤k)(hk:k≤300)(he : -30000≤e∧e≤30000) :Sm z e:=⟨Nat.le_trans h hk,he.1,he.2⟩
def Wd(l:List Nat) :Prop:=∀ i,l.getD i 0<CN
def Fn(l:List Nat) :Prop:=∀ i,i<l.length→pK (l.getD i 0)=true
end Go.Plb
namespace Go.Proofs.YtcfhbjfbfmlkiaaGreatDoor
open Go.ChangeShapes Go.WideShapes Go.ChangeAt Go.RowKit Go.Plb Go.Plb.Seat
theorem asD{xs:List Nat}(h:(FA.fl xs).has .fl) :Wd xs:=by
  intro i
  rw [List.getD_eq_getElem?_getD]
  cases e:xs[i]? with
  | none=>decide
  | some x =>
    have hx:=h.2 x (List.mem_of_getElem? e)
    have h2:=hx
    simp only [Lit.wf] at h2
    exact of_decide_eq_true h2
theorem asZ{x:Nat}(h:(FA.f x).has .f) :x<CN:=by
  have h2:(Lit.float .f64 x).wf=true:=h
  simp only [Lit.wf] at h2
  exact of_decide_eq_true h2
end Go.Proofs.YtcfhbjfbfmlkiaaGreatDoor
namespace Go.Plb.Seat
open Go Go.Plb
set_option linter.unusedSimpArgs false
set_option linter.unusedVariables false
noncomputable abbrev E0:FP:=aG []
theorem Fb:aJ prog E0:=Tm prog
theorem apF(y:Nat) :ai prog Dp [] [.flt true y] ⟨.flt true (wC y),[]⟩:=by
  have h:wB C0 E0 (kB C0 E0 0 50) Dp [] [.flt true y] (some [])=some (⟨.flt true (cq .andNot .u64 (y:Int) 9223372036854775808).toNat,[]⟩,[],some []):=by kernel_rfl
  have:=ai.run jO Fb _ _ _ h trivial
  rw [aoZ,Int.toNat_natCast] at this;exact this
theorem asE(ex:Bool)(x:Nat) :ai prog Dp [] [.flt ex x] ⟨.flt ex (wC x),[]⟩:=by
  cases ex with
  | true=>exact apF x
  | false=>exact E9 (r:=fun y=>.flt true (wC y)) apF (fun y hf ρ w u h=>h.flt_weak (ao0 hf))
theorem amw(y:Nat) :ai prog AN [] [.flt true y] ⟨.flt true (wC y),[]⟩:=by
  have h:wB C0 E0 (kB C0 E0 0 50) AN [] [.flt true y] (some [])=some (⟨.flt true ((IntKind.u64.wrap ((y:Int)*2^min (Int.toNat 1) IntKind.u64.bits)).fdiv (2^min (Int.toNat 1) IntKind.u64.bits)).toNat,[]⟩,[true,true],some []):=by kernel_rfl
  have:=ai.run jO Fb _ _ _ h ⟨rfl,rfl,trivial⟩
  rw [amf,Int.toNat_natCast] at this;exact this
theorem ar1(ex:Bool)(x:Nat) :ai prog AN [] [.flt ex x] ⟨.flt ex (wC x),[]⟩:=by
  cases ex with
  | true=>exact amw x
  | false=>exact E9 (r:=fun y=>.flt true (wC y)) amw (fun y hf ρ w u h=>h.flt_weak (ao0 hf))
theorem Pm(x y:Nat) :ai prog qL [] [.flt true x,.flt true y] ⟨.flt true (un x y),[]⟩:=by
  have h:wB C0 E0 (kB C0 E0 0 50) qL [] [.flt true x,.flt true y] (some [])=some (⟨.flt true (cq .or .u64 (cq .andNot .u64 (x:Int) 9223372036854775808) (cq .and .u64 (y:Int) 9223372036854775808)).toNat,[]⟩,[],some []):=by kernel_rfl
  have:=ai.run jO Fb _ _ _ h trivial
  rw [aoZ,arS,arh,Int.toNat_natCast] at this;exact this
theorem aj6(e1 e2:Bool)(x y:Nat)(hn:isNaN y=true→isNaN x=true) :ai prog qL [] [.flt e1 x,.flt e2 y] ⟨.flt false (un x y),[]⟩ :=
  Fa (r:=fun x y=>.flt true (un x y)) Pm (fun x' y' h1 h2 ρ w u h=>h.flt_weak (FR.copy h1 h2 hn))
theorem agH(x y:Nat) :ai prog yk [] [.flt true x,.flt true y] ⟨.flt true (un x y),[]⟩:=by
  have h:wB C0 E0 (kB C0 E0 0 50) yk [] [.flt true x,.flt true y] (some [])=some (⟨.flt true (cq .or .u64
      ((IntKind.u64.wrap ((x:Int)*2^min (Int.toNat 1) IntKind.u64.bits)).fdiv (2^min (Int.toNat 1) IntKind.u64.bits))
      (IntKind.u64.wrap ((y:Int).fdiv (2^min (Int.toNat 63) IntKind.u64.bits)*2^min (Int.toNat 63) IntKind.u64.bits))).toNat,[]⟩,[true,true,true,true],some []):=by kernel_rfl
  have:=ai.run jO Fb _ _ _ h ⟨rfl,rfl,rfl,rfl,trivial⟩
  rw [amf,aqI,arh,Int.toNat_natCast] at this;exact this
theorem aqX(e1 e2:Bool)(x y:Nat)(hn:isNaN y=true→isNaN x=true) :ai prog yk [] [.flt e1 x,.flt e2 y] ⟨.flt false (un x y),[]⟩ :=
  Fa (r:=fun x y=>.flt true (un x y)) agH (fun x' y' h1 h2 ρ w u h=>h.flt_weak (FR.copy h1 h2 hn))
def aco(L:List aN)(args:List AV) :Option (List wA) :=
  match L,args with
  | [],[.flt e1 x,.flt e2 y]=>bif e1&&e2 then one (.flt true (un x y)) [] else one (.flt false (un x y)) [!isNaN y||isNaN x]
  | _,_=>none
def apG:ax:=⟨Dp,fun L args=>match L,args with | [],[.flt e x]=>one (.flt e (wC x)) [] | _,_=>none⟩
def aj7:ax:=⟨AN,fun L args=>match L,args with | [],[.flt e x]=>one (.flt e (wC x)) [] | _,_=>none⟩
def TG:ax:=⟨qL,aco⟩
def amx:ax:=⟨yk,aco⟩
theorem apH:aI prog apG:=by
  intro L args alts a h ha ho
  simp only [apG] at h
  split at h
  · exact za h ha ho fun _=>asE _ _
  · cases h
theorem anE:aI prog aj7:=by
  intro L args alts a h ha ho
  simp only [aj7] at h
  split at h
  · exact za h ha ho fun _=>ar1 _ _
  · cases h
theorem ar2{x y:Nat}(h:aH [!isNaN y||isNaN x]) :isNaN y=true→isNaN x=true:=by
  intro hy;have:=h.1;rw [hy] at this;simpa using this
theorem amy{f:FuncId}(hT:∀ x y,ai prog f [] [.flt true x,.flt true y] ⟨.flt true (un x y),[]⟩) 
    (hF:∀ e1 e2 x y,(isNaN y=true→isNaN x=true)→ai prog f [] [.flt e1 x,.flt e2 y] ⟨.flt false (un x y),[]⟩):aI prog ⟨f,aco⟩:=by
  intro L args alts a h ha ho
  simp only [aco] at h
  split at h
  · rename_i e1 x e2 y
    cases e1<;>cases e2<;>first | exact za h ha ho fun q=>hF _ _ _ _ (ar2 q) | exact za h ha ho fun q=>hT _ _
  · cases h
theorem WQ:aI prog TG:=amy Pm aj6
theorem aj8:aI prog amx:=amy agH aqX
def L1:List ax:=[apG,aj7,TG,amx]
def S1:FP:=aG L1
theorem asF:aJ prog S1:=aj apH (aj anE (aj WQ (aj aj8 (Tm _))))
end Go.Plb.Seat
namespace Go.Plb.Seat
open Go Go.Plb
set_option linter.unusedSimpArgs false
set_option linter.unusedVariables false
set_option maxRecDepth 100000
def wE(n:Nat) :Bool:=Nat.ble n 1000000000
noncomputable def asG:Empty→aC:=fun a=>a.elim
noncomputable def asH:Unit→AE×aC:=fun _=>(.ret,⟨ae 8 [(2,.sl 0 1 1 0 0 0)],[(0,.fl [])],1⟩)
noncomputable def as0:Unit→fU:=fun _=>⟨.sl 0 1 1 0 0 0,[some (.fl [])]⟩
theorem aqY:ai prog df [] [.zsl true] ⟨.sl 0 1 1 0 0 0,[some (.fl [])]⟩ :=
  Sg.contract (x:=()) (X:=Unit) (N:=asG) (E:=asH) (m:=some (.inr ())) false as0 (by kernel_rfl:prog.funcs[df]? = some (FN df)) (by kernel_rfl:(FN df).body=some (md df))
    (Sg.seg (C:=C0) jO Fb 60 (cp (md df)) (vu (FN df) [] [.zsl true]) (.leaf (.inr ())) asG asH [⟨[(.slot 2,.own 1 1 (.fl []))],[64],[2]⟩] (by kernel_rfl))
    (fun _=>⟨.inr rfl,[.sl 0 1 1 0 0 0],[],by kernel_rfl,trivial,by kernel_rfl⟩) rfl
theorem apI:ai prog df [] [.zsl false] ⟨.sl 0 1 1 0 0 0,[some (.fl [])]⟩ :=
  ai.run jO Fb (some []) 0 60 (p':=some []) (obs:=[]) (by kernel_rfl) nob
theorem aqZ(l:Lv) :ai prog df [] [.imm l (.fl []) 1 1 0 0] ⟨.sl 0 1 1 0 0 0,[some (.fl [])]⟩:=by
  intro ρ w us hN hv
  cases hv with | cons _ u _ _ h1 h2 =>
  cases h2
  have key:∀ (a:Option Addr) cap,da ρ w [.zsl a.isNone] [.slice a 0 cap]:=fun a cap=>.cons _ _ _ _ (.zsl a cap) .nil
  have all:∀ b,ai prog df [] [.zsl b] ⟨.sl 0 1 1 0 0 0,[some (.fl [])]⟩:=fun b=>by
    cases b
    · exact apI
    · exact aqY
  cases h1 with
  | imm _ _ _ _ _ _ cap bl o u'=>exact all _ ρ w _ hN (key _ cap)
  | immEnd _ _ _ _ _ cap a=>exact all _ ρ w _ hN (key a cap)
theorem aq0(l:Lv)(xs:List Nat)(hl:xs.length≤1000000000) :ai prog df [] [.imm l (.fl xs) 1 1 0 xs.length] ⟨.sl 0 1 1 0 xs.length xs.length,[some (.fl xs)]⟩:=by
  rcases Nat.eq_zero_or_pos xs.length with h0 | h0
  · have:xs=[]:=List.length_eq_zero_iff.1 h0
    subst this
    exact aqZ l
  · have h:wB C0 E0 (kB C0 E0 0 60) df [] [.imm l (.fl xs) 1 1 0 xs.length] (some [])=some (⟨.sl 0 1 1 0 (0+xs.length) (0+xs.length),[some (.fl (List.take 0 []++List.take xs.length xs))]⟩,
        [Nat.blt 0 xs.length,mQ ((0+xs.length)*8) 140737488355328,mQ (0+xs.length) 9223372036854775807,mQ xs.length xs.length,mQ 0 ([]:List Nat).length],some []):=by kernel_rfl
    have:=ai.run jO Fb _ _ _ h (ob (by rw [Nat.blt_eq];exact h0)<|ob (by simp [mQ];omega)<|ob (by simp [mQ];omega)<|ob (by simp [mQ])<|ob rfl nob)
    simp only [Nat.zero_add,List.take_zero,List.nil_append,List.take_length] at this
    exact this
noncomputable def amz:ax:=bx df (.cons .fl .nil) fun t=>[⟨⟨.sl 0 1 1 0 t.1.2.length t.1.2.length,[some (.fl t.1.2)]⟩,[wE t.1.2.length]⟩]
theorem aj9:aI prog amz:=aE fun t=>aF (fun h=>aq0 t.1.1 t.1.2 (Nat.le_of_ble_eq_true h)) aQ
noncomputable def L2c:List ax:=amz::L1
theorem ar3:aJ prog (aG L2c):=aj aj9 asF
noncomputable def agI:Empty→aC:=fun a=>a.elim
noncomputable def agJ:Unit→AE×aC:=fun _=>(.ret,⟨ae 8 [(2,.sl 0 1 1 0 0 0)],[(0,.ns .u64 [])],1⟩)
noncomputable def apJ:Unit→fU:=fun _=>⟨.sl 0 1 1 0 0 0,[some (.ns .u64 [])]⟩
theorem agK:ai prog bU [] [.zsl true] ⟨.sl 0 1 1 0 0 0,[some (.ns .u64 [])]⟩ :=
  Sg.contract (x:=()) (X:=Unit) (N:=agI) (E:=agJ) (m:=some (.inr ())) false apJ (by kernel_rfl:prog.funcs[bU]? = some (FN bU)) (by kernel_rfl:(FN bU).body=some (md bU))
    (Sg.seg (C:=C0) jO Fb 60 (cp (md bU)) (vu (FN bU) [] [.zsl true]) (.leaf (.inr ())) agI agJ [⟨[(.slot 2,.own 1 1 (.ns .u64 []))],[64],[2]⟩] (by kernel_rfl))
    (fun _=>⟨.inr rfl,[.sl 0 1 1 0 0 0],[],by kernel_rfl,trivial,by kernel_rfl⟩) rfl
theorem acp:ai prog bU [] [.zsl false] ⟨.sl 0 1 1 0 0 0,[some (.ns .u64 [])]⟩ :=
  ai.run jO Fb (some []) 0 60 (p':=some []) (obs:=[]) (by kernel_rfl) nob
theorem agL(l:Lv) :ai prog bU [] [.imm l (.ns .u64 []) 1 1 0 0] ⟨.sl 0 1 1 0 0 0,[some (.ns .u64 [])]⟩:=by
  intro ρ w us hN hv
  cases hv with | cons _ u _ _ h1 h2 =>
  cases h2
  have key:∀ (a:Option Addr) cap,da ρ w [.zsl a.isNone] [.slice a 0 cap]:=fun a cap=>.cons _ _ _ _ (.zsl a cap) .nil
  have all:∀ b,ai prog bU [] [.zsl b] ⟨.sl 0 1 1 0 0 0,[some (.ns .u64 [])]⟩:=fun b=>by
    cases b
    · exact acp
    · exact agK
  cases h1 with
  | imm _ _ _ _ _ _ cap bl o u'=>exact all _ ρ w _ hN (key _ cap)
  | immEnd _ _ _ _ _ cap a=>exact all _ ρ w _ hN (key a cap)
theorem agM(l:Lv)(xs:List Int)(hl:xs.length≤1000000000) :ai prog bU [] [.imm l (.ns .u64 xs) 1 1 0 xs.length] ⟨.sl 0 1 1 0 xs.length xs.length,[some (.ns .u64 xs)]⟩:=by
  rcases Nat.eq_zero_or_pos xs.length with h0 | h0
  · have:xs=[]:=List.length_eq_zero_iff.1 h0
    subst this
    exact agL l
  · have h:wB C0 E0 (kB C0 E0 0 60) bU [] [.imm l (.ns .u64 xs) 1 1 0 xs.length] (some [])=some (⟨.sl 0 1 1 0 (0+xs.length) (0+xs.length),[some (.ns .u64 (List.take 0 ([]:List Int)++List.take xs.length xs))]⟩,
        [Nat.blt 0 xs.length,mQ ((0+xs.length)*8) 140737488355328,mQ (0+xs.length) 9223372036854775807,mQ xs.length xs.length,mQ 0 ([]:List Int).length],some []):=by kernel_rfl
    have:=ai.run jO Fb _ _ _ h (ob (by rw [Nat.blt_eq];exact h0)<|ob (by simp [mQ];omega)<|ob (by simp [mQ];omega)<|ob (by simp [mQ])<|ob rfl nob)
    simp only [Nat.zero_add,List.take_zero,List.nil_append,List.take_length] at this
    exact this
noncomputable def Pn:ax:=bx bU (.cons (.ns .u64) .nil) fun t=>[⟨⟨.sl 0 1 1 0 t.1.2.length t.1.2.length,[some (.ns .u64 t.1.2)]⟩,[wE t.1.2.length]⟩]
theorem TH:aI prog Pn:=aE fun t=>aF (fun h=>agM t.1.1 t.1.2 (Nat.le_of_ble_eq_true h)) aQ
noncomputable def amA:List ax:=Pn::L2c
theorem aka:aJ prog (aG amA):=aj TH ar3
noncomputable def L2:List ax:=amA
theorem asI:aJ prog (aG L2):=aka
end Go.Plb.Seat
namespace Go.Plb.Seat
open Go Go.Plb
set_option linter.unusedSimpArgs false
set_option linter.unusedVariables false
theorem apK{n:Nat}(h:isNaN n=true) :n/4503599627370496%2048=2047:=by
  rw [pL,decide_eq_true_eq] at h;omega
theorem apL(n:Nat) :Int.tmod (Int.fdiv (n:Int) (2^min (Int.toNat 52) IntKind.u64.bits)) 2048=((n/4503599627370496%2048:Nat):Int):=by
  have e:(2^min (Int.toNat 52) IntKind.u64.bits:Int)=((4503599627370496:Nat):Int):=by decide
  rw [e,Int.fdiv_eq_ediv_of_nonneg _ (by omega)];exact Int.tmod_eq_emod_of_nonneg (Int.natCast_nonneg _)
theorem ai.nan{f:FuncId}{g:Nat→fU}{r:fU}(h:∀ n:Nat,ai prog f [] [.int .u64 (n:Int)] (g n))(e:∀ n:Nat,isNaN n=true→g n=r) :ai prog f [] [.nan] r:=by
  intro ρ w us hN hv
  cases hv with | cons _ u _ _ h1 h2 =>
  cases h2
  cases h1 with | nan n hn =>
  rw [←e n hn]
  exact h n ρ w _ hN (.cons _ _ _ _ (.int _ _) .nil)
theorem anF:ai prog sm [] [.nan] ⟨.bool false false,[]⟩:=by
  refine ai.nan (g:=fun n=>⟨.bool false ((Int.tmod (Int.fdiv (n:Int) (2^min (Int.toNat 52) IntKind.u64.bits)) 2048) != 2047),[]⟩) (fun n=>?_) (fun n hn=>?_)
  · have h:wB C0 E0 (kB C0 E0 0 50) sm [] [.int .u64 n] (some [])=some (⟨.bool false ((Int.tmod (Int.fdiv (n:Int) (2^min (Int.toNat 52) IntKind.u64.bits)) 2048) != 2047),[]⟩,[(decide ((0:Int)≤52)),((2048:Int) != 0)],some []):=by kernel_rfl
    exact ai.run jO Fb _ _ _ h ⟨rfl,rfl,trivial⟩
  · simp only [apL,apK hn];rfl
theorem akb:ai prog sm [] [.nan] ⟨.bool true false,[]⟩:=anF.weak (JS _ _ _)
def N7:ax:=⟨sm,fun L args=>match L,args with | [],[.nan]=>one (.bool true false) [] | _,_=>none⟩
theorem acq:aI prog N7:=by
  intro L args alts a h ha ho
  simp only [N7] at h
  split at h
  · exact za h ha ho fun q=>akb
  · cases h
noncomputable def L3:List ax:=N7::L2
theorem arw:aJ prog (aG L3):=aj acq asI
end Go.Plb.Seat
namespace Go.Plb.Seat
noncomputable section
open Go Go.Plb
set_option linter.unusedVariables false
set_option maxRecDepth 100000
theorem bf{S:FP}(hS:aJ prog S){lent:List aN}{α X:Type}{cs:List Code}{st:aC}{t:T (α⊕X)}(N:α→aC){E:X→AE×aC}(ks:List NS) 
    (h:apl C0 S 60 cs st t.leaves ks lent.length=aml N E t.leaves:=by kernel_rfl):Sg prog lent cs st t.run N E:=Sg.seg jO hS 60 cs st t N E ks h
theorem DG{lent:List aN}{σ ρ X:Type}{cs:List Code}{st:aC}{E:X→AE×aC}{B:σ→Option (σ⊕(ρ⊕X))}{ent:σ}(s:NS)(I:σ→aC)(J:ρ→aC)(id:Nat)(hE:jm E)(hI:lD id E) 
    (hb:∀ a,Sg prog lent (cp (dg (cs.headD .skip))) (I a) (B a) I (cN id J E)) (hn:s.ok lent.length=true:=by exact rfl) (h1:s.on st=I ent:=by kernel_rfl) (hcs:cs=[.block id (.loop (dg (cs.headD .skip)))]:=by kernel_rfl) :
    Sg prog lent cs st (cU B ent) J E:=Sg.pre s hn h1 (anv hcs hE hI hb ent)
theorem sgb{lent:List aN}{κ X:Type}{cs:List Code}{st:aC}{E:X→AE×aC}{m:Option (κ⊕(κ⊕X))}(K:κ→aC)(id:Nat)(hE:jm E)(hI:lD id E) 
    (hb:Sg prog lent (cp (inBlock (cs.headD .skip))) st m K (cN id K E)) (hcs:cs=[.block id (inBlock (cs.headD .skip))]:=by kernel_rfl):Sg prog lent cs st (Lx m) K E:=ajZ hcs hE hI hb
def kb:Empty→aC:=fun a=>a.elim
theorem jR{fn:Func}{k:Nat}{keep:Bool}{o:fU}{st:aC}(vs:List AV)(h1:mV prog fn st fn.results.toList=some (vs,[]):=by kernel_rfl)(h2:S9 k keep st.heap (NP vs)=some o:=by kernel_rfl) :ame prog fn k keep o .ret st :=
  ⟨.inr rfl,vs,[],h1,trivial,h2⟩
theorem kh{f:FuncId}{X:Type}{m:Option (Empty⊕X)}{lent:List aN}{args:List AV}{x:X}(keep:Bool)(o:X→fU)(E:X→AE×aC)(hx:jP m=some x) 
    (h:Sg prog lent (cp (md f)) (vu (FN f) lent args) m kb E) (hE:∀ x,ame prog (FN f) lent.length keep (o x) (E x).1 (E x).2)
    (hf:prog.funcs[f]? = some (FN f):=by kernel_rfl) (hc:(FN f).body=some (md f):=by kernel_rfl):ai prog f lent args (o x) :=
  Sg.contract (P:=prog) (f:=f) (fn:=FN f) (c:=md f) (N:=kb) (E:=E) (lent:=lent) (args:=args) keep o hf hc h hE hx
end
end Go.Plb.Seat
namespace Go.Plb.Seat
open Go Go.Plb
set_option linter.unusedVariables false
set_option maxRecDepth 100000
noncomputable section
inductive bS where
  | r0 (a:Int)
def yw:bS→AE×aC
  | .r0 a=>(.ret,⟨ae 14 [(2,.int .i64 a)],[],0⟩)
def jo:bS→fU
  | .r0 a=>⟨.int .i64 a,[]⟩
def mX(a:Int) :T ((Empty)⊕(bS)) :=
  .ask (a==(0:Int))
    (.leaf (.inr (.r0 (64:Int))))
    (.need (decide ((0:Int)≤(58:Int)))<|.need (fp (Int.fdiv (IntKind.u64.wrap ((cq .and .u64 a (IntKind.u64.wrap ((0:Int)-a)))*(285870213051353865:Int))) (2^(min (Int.toNat (58:Int)) (IntKind.u64.bits)))) 64)<|.need (fO (gw (gw 0 (Sj (Int.toNat (Int.fdiv (IntKind.u64.wrap ((cq .and .u64 a (IntKind.u64.wrap ((0:Int)-a)))*(285870213051353865:Int))) (2^(min (Int.toNat (58:Int)) (IntKind.u64.bits))))) 1)) 0) (List.length aV))<|.leaf (.inr (.r0 (IntKind.i64.wrap (List.getD aV (gw (gw 0 (Sj (Int.toNat (Int.fdiv (IntKind.u64.wrap ((cq .and .u64 a (IntKind.u64.wrap ((0:Int)-a)))*(285870213051353865:Int))) (2^(min (Int.toNat (58:Int)) (IntKind.u64.bits))))) 1)) 0) 0)))))
def cZ(a:Int) :Option bS:=jP ((mX a).run)
theorem xa(a:Int){x:bS}(h:cZ a=some x) :ai prog nT [] [.int .u64 a] (jo x) :=
  kh false jo yw h (bf arw kb [⟨[],[],[2]⟩,⟨[],[],[2]⟩])
    (fun x=>by cases x with | r0 b=>exact jR [.int .i64 b])
def dO:Option bS→Bool
  | some _=>true
  | none=>false
def dh:Option bS→Int
  | some (.r0 x)=>x
  | _=>0
theorem xc{x:Option bS}(h:dO x=true) :x=some (.r0 (dh x)):=by
  unfold dO at h
  split at h<;>first | rfl | (cases h;done) | (rename_i y;cases y;rfl)
def nV:ax:=bx nT (.cons (.int .u64) .nil) fun t=>(fun q=>[⟨jo (.r0 (dh q)),[dO q]⟩]) (cZ t.1)
theorem uB:aI prog nV:=aE fun t=>(aF (fun h=>xa t.1 (xc h)) aQ)
def nW:List ax:=nV::L3
theorem im:aJ prog (aG nW):=aj uB arw
inductive dt where
  | r0 (a:Int) (b:Int)
def AZ:dt→AE×aC
  | .r0 a b=>(.ret,⟨ae 51 [(4,.int .u64 a),(5,.int .u64 b)],[],0⟩)
theorem J6:jm AZ:=by intro x;cases x<;>(intro h;cases h)
def sx:dt→fU
  | .r0 a b=>⟨.tup [.int .u64 a,.int .u64 b],[]⟩
def J7(a:Int)(b:Int) :Int×Int×Int×Int→aC:=fun (c,d,e,f)=>⟨ae 51 [(0,.int .u64 a),(1,.int .u64 b),(6,.int .u64 c),(7,.int .u64 d),(9,.int .u64 e),(11,.int .u64 f)],[],0⟩
def zG(a:Int)(b:Int) :T ((Int×Int×Int×Int)⊕(dt)) :=
  .need (decide ((0:Int)≤(32:Int)))<|.need (decide ((0:Int)≤(32:Int)))<|.need (decide ((0:Int)≤(32:Int)))<|.leaf (.inl ((cq .and .u64 a (4294967295:Int)),(Int.fdiv a (2^(min (Int.toNat (32:Int)) (IntKind.u64.bits)))),(Int.fdiv b (2^(min (Int.toNat (32:Int)) (IntKind.u64.bits)))),(IntKind.u64.wrap ((IntKind.u64.wrap ((Int.fdiv a (2^(min (Int.toNat (32:Int)) (IntKind.u64.bits))))*(cq .and .u64 b (4294967295:Int))))+(Int.fdiv (IntKind.u64.wrap ((cq .and .u64 a (4294967295:Int))*(cq .and .u64 b (4294967295:Int)))) (2^(min (Int.toNat (32:Int)) (IntKind.u64.bits))))))))
def rx(c:Int)(d:Int)(e:Int)(f:Int)(a:Int)(b:Int) :T ((Empty)⊕(dt)) :=
  .need (decide ((0:Int)≤(32:Int)))<|.need (decide ((0:Int)≤(32:Int)))<|.leaf (.inr (.r0 (IntKind.u64.wrap ((IntKind.u64.wrap ((IntKind.u64.wrap (f*a))+(Int.fdiv b (2^(min (Int.toNat (32:Int)) (IntKind.u64.bits))))))+(Int.fdiv (IntKind.u64.wrap ((cq .and .u64 b (4294967295:Int))+(IntKind.u64.wrap (e*a)))) (2^(min (Int.toNat (32:Int)) (IntKind.u64.bits)))))) (IntKind.u64.wrap (c*d))))
def fu(a:Int)(b:Int) :Option dt:=jP (aB ((zG a b).run) fun (c,d,e,f) =>
  (rx a b c d e f).run)
theorem J8(a:Int)(b:Int){x:dt}(h:fu a b=some x) :ai prog AS [] [.int .u64 a,.int .u64 b] (sx x) :=
  kh false sx AZ h (Sg.cut 7 J6 (bf im (J7 a b) [⟨[],[],[0,1,6,7,9,11]⟩]) (fun ⟨e,f,g,i⟩=>bf im kb [⟨[],[],[4,5]⟩]))
    (fun x=>by cases x with | r0 c d=>exact jR [.int .u64 c,.int .u64 d])
def jS:Option dt→Bool
  | some _=>true
  | none=>false
def kD:Option dt→Int
  | some (.r0 x _)=>x
  | _=>0
def gd:Option dt→Int
  | some (.r0 _ x)=>x
  | _=>0
theorem J9{x:Option dt}(h:jS x=true) :x=some (.r0 (kD x) (gd x)):=by
  unfold jS at h
  split at h<;>first | rfl | (cases h;done) | (rename_i y;cases y;rfl)
def A0:ax:=bx AS (.cons (.int .u64) (.cons (.int .u64) .nil)) fun t=>(fun q=>[⟨sx (.r0 (kD q) (gd q)),[jS q]⟩]) (fu t.1 t.2.1)
theorem Gj:aI prog A0:=aE fun t=>(aF (fun h=>J8 t.1 t.2.1 (J9 h)) aQ)
def A1:List ax:=A0::nW
theorem iQ:aJ prog (aG A1):=aj Gj im
inductive io where
  | r0 (a:List Int) (b:Nat)
def DH(a:Lv) :io→AE×aC
  | .r0 b c=>(.ret,⟨ae 21 [(2,.imm a (.ns .u64 b) 1 1 0 c)],[],0⟩)
theorem A2{a:Lv} :jm (DH a):=by intro x;cases x<;>(intro h;cases h)
theorem agN{a:Lv}(id:Nat) :lD id (DH a):=by intro x;cases x<;>(intro h;cases h)
def Ka(a:Lv) :io→fU
  | .r0 b c=>⟨.imm a (.ns .u64 b) 1 1 0 c,[]⟩
def agO:List Code:=cp (md rv)
def agP(b:Lv)(a:List Int)(_:Unit) :aC:=⟨ae 21 [(0,.imm b (.ns .u64 a) 1 1 0 (List.length a))],[],0⟩
def agQ:T ((Unit)⊕(io)) :=
  .leaf (.inl ())
def A3(a:Lv)(b:List Int)(c:Nat) :aC:=⟨ae 21 [(0,.imm a (.ns .u64 b) 1 1 0 c)],[],0⟩
def Po(a:Lv)(b:List Int)(c:Nat) :aC:=⟨ae 21 [(0,.imm a (.ns .u64 b) 1 1 0 c)],[],0⟩
def acr:List Code:=cp (dg ((((agO.drop 1).take 1)).headD .skip))
def agR(a:Lv)(b:List Int)(c:Nat)(d:Bool) :aC:=⟨ae 21 [(0,.imm a (.ns .u64 b) 1 1 0 c),(14,.bool false d)],[],0⟩
def sy(b:List Int)(a:Nat) :T ((Bool)⊕((Nat)⊕(io))) :=
  .ask (decide (((a:Nat):Int)>(0:Int)))
    (.need (cV .i64 (((a:Nat):Int)-(1:Int)))<|.need (fp (((a:Nat):Int)-(1:Int)) a)<|.need (fO (Int.toNat (((a:Nat):Int)-(1:Int))) (List.length b))<|.leaf (.inl ((List.getD b (Int.toNat (((a:Nat):Int)-(1:Int))) 0)==(0:Int))))
    (.leaf (.inl false))
def LH(a:Nat)(b:Bool) :T ((Nat)⊕((Nat)⊕(io))) :=
  .ask b
    (.need (cV .i64 (((a:Nat):Int)-(1:Int)))<|.need (CE (((a:Nat):Int)-(1:Int)) a)<|.need (CE (0:Int) (Int.toNat (((a:Nat):Int)-(1:Int))))<|.leaf (.inl (Int.toNat (((a:Nat):Int)-(1:Int)))))
    (.leaf (.inr (.inl a)))
def DI(b:List Int) :Nat→Option ((Nat)⊕((Nat)⊕(io))):=fun a =>
  aB ((sy b a).run) fun c =>
  (LH a c).run
theorem acs(a:Lv)(b:List Int)(c:Nat) :Sg prog [] acr (A3 a b c) (DI b c) (A3 a b) (cN 0 (Po a b) (DH a)):=by
  unfold DI;exact Sg.cut 1 (aW A2) (bf iQ (agR a b c) [⟨[],[],[0,14]⟩,⟨[],[],[0,14]⟩]) (fun d=>bf iQ (A3 a b) [⟨[],[],[0]⟩,⟨[],[],[0]⟩])
def act(a:List Int)(b:Nat) :T ((Empty)⊕(io)) :=
  .leaf (.inr (.r0 a b))
def ay(a:List Int) :Option io:=jP (aB ((agQ).run) fun _ =>
  aB (cU (DI a) (List.length a)) fun b =>
  (act a b).run)
theorem agS(a:Lv)(b:List Int){x:io}(h:ay b=some x) :ai prog rv [] [.imm a (.ns .u64 b) 1 1 0 (List.length b)] (Ka a x) :=
  kh false (Ka a) (DH a) h (Sg.cut 1 A2 (bf iQ (agP a b) [⟨[],[],[0]⟩]) (fun _=>Sg.cut 1 A2 (DG ⟨[],[],[0]⟩ (A3 a b) (Po a b) 0 A2 (agN _) (fun c=>acs a b c)) (fun f=>bf iQ kb [⟨[],[],[2]⟩])))
    (fun x=>by cases x with | r0 d e=>exact jR [.imm a (.ns .u64 d) 1 1 0 e])
def ca:Option io→Bool
  | some _=>true
  | none=>false
def aU:Option io→List Int
  | some (.r0 x _)=>x
  | _=>[]
def aD:Option io→Nat
  | some (.r0 _ x)=>x
  | _=>0
theorem agT{x:Option io}(h:ca x=true) :x=some (.r0 (aU x) (aD x)):=by
  unfold ca at h
  split at h<;>first | rfl | (cases h;done) | (rename_i y;cases y;rfl)
def TI:ax:=bx rv (.cons (.ns .u64) .nil) fun t=>(fun q=>[⟨Ka t.1.1 (.r0 (aU q) (aD q)),[ca q]⟩]) (ay t.1.2)
theorem WR:aI prog TI:=aE fun t=>(aF (fun h=>agS t.1.1 t.1.2 (agT h)) aQ)
def TJ:List ax:=TI::A1
theorem BG:aJ prog (aG TJ):=aj WR iQ
inductive jT where
  | r0 (a:Nat) (b:Nat) (c:List Int)
def TK:jT→AE×aC
  | .r0 a b c=>(.ret,⟨ae 12 [(2,.sl 0 1 1 0 a a),(3,.int .i64 ((b:Nat):Int))],[(0,.ns .u64 c)],1⟩)
theorem agU:jm TK:=by intro x;cases x<;>(intro h;cases h)
def Kb:jT→fU
  | .r0 a b c=>⟨.tup [.imm .free (.ns .u64 c) 1 1 0 a,.int .i64 ((b:Nat):Int)],[]⟩
def agV(a:Lv) :Nat×(List Int)×Nat→aC:=fun (b,c,d)=>⟨ae 12 [(1,.ptr 0 1 0 0),(4,.int .i64 ((b:Nat):Int))],[(0,.vs [.imm a (.ns .u64 c) 1 1 0 d])],1⟩
def Gk(a:List Int) :T ((Nat×(List Int)×Nat)⊕(jT)) :=
  .ask (decide ((0:Int)<(1:Int)))
    (.need (fp (0:Int) 1)<|.need (aK 0 (List.length a) a)<|.need (ca (ay (aa 0 (List.length a) a)))<|.ask (decide ((((aD (ay (aa 0 (List.length a) a))):Nat):Int)>(4096:Int)))
      (.leaf (.inl (2,(aU (ay (aa 0 (List.length a) a))),(aD (ay (aa 0 (List.length a) a))))))
      (.need (cV .i64 (1:Int))<|.ask (decide ((1:Int)<(1:Int)))
        (.fail)
        (.leaf (.inl (0,(aU (ay (aa 0 (List.length a) a))),(aD (ay (aa 0 (List.length a) a))))))))
    (.fail)
def Gl(c:Nat)(a:List Int)(b:Nat) :T ((Empty)⊕(jT)) :=
  .ask (((c:Nat):Int) != (0:Int))
    (.leaf (.inr (.r0 0 c ([]:List Int))))
    (.need (aK 0 b a)<|.need (wE (List.length (aa 0 b a)))<|.leaf (.inr (.r0 (List.length (aa 0 b a)) 0 (aa 0 b a))))
def oj(a:List Int) :Option jT:=jP (aB ((Gk a).run) fun (b,c,d) =>
  (Gl b c d).run)
theorem agW(b:Lv)(a:List Int){x:jT}(h:oj a=some x) :ai prog JZ [] [.imm b (.ns .u64 a) 1 1 0 (List.length a)] (Kb x) :=
  kh true Kb TK h (Sg.cut 2 agU (bf BG (agV b) [⟨[],[0],[1,4]⟩,⟨[],[0],[1,4]⟩]) (fun ⟨e,f,g⟩=>bf BG kb [⟨[(.slot 2,.own 1 1 (.ns .u64 ([]:List Int)))],[81],[2,3]⟩,⟨[],[49],[2,3]⟩]))
    (fun x=>by cases x with | r0 c d i=>exact jR [.sl 0 1 1 0 c c,.int .i64 ((d:Nat):Int)])
def wF:Option jT→Bool
  | some _=>true
  | none=>false
def BH:Option jT→Nat
  | some (.r0 x _ _)=>x
  | _=>0
def BI:Option jT→Nat
  | some (.r0 _ x _)=>x
  | _=>0
def BJ:Option jT→List Int
  | some (.r0 _ _ x)=>x
  | _=>[]
theorem agX{x:Option jT}(h:wF x=true) :x=some (.r0 (BH x) (BI x) (BJ x)):=by
  unfold wF at h
  split at h<;>first | rfl | (cases h;done) | (rename_i y;cases y;rfl)
def TL:ax:=bx JZ (.cons (.ns .u64) .nil) fun t=>(fun q=>[⟨Kb (.r0 (BH q) (BI q) (BJ q)),[wF q]⟩]) (oj t.1.2)
theorem WS:aI prog TL:=aE fun t=>(aF (fun h=>agW t.1.1 t.1.2 (agX h)) aQ)
def TM:List ax:=TL::TJ
theorem pQ:aJ prog (aG TM):=aj WS BG
inductive cW where
  | r0 (a:Nat) (b:Nat) (c:Nat) (d:List Int)
def vy:cW→AE×aC
  | .r0 a b c d=>(.ret,⟨ae 21 [(2,.sl 0 1 1 a b c)],[(0,.ns .u64 d)],1⟩)
theorem sz:jm vy:=by intro x;cases x<;>(intro h;cases h)
theorem TN(id:Nat) :lD id vy:=by intro x;cases x<;>(intro h;cases h)
def BL:cW→fU
  | .r0 a b c d=>⟨.sl 0 1 1 a b c,[some (.ns .u64 d)]⟩
def TO:List Code:=cp (md rv)
def TP(a:List Int)(b:Nat)(c:Nat)(d:Nat)(_:Unit) :aC:=⟨ae 21 [(0,.sl 0 1 1 b c d)],[(0,.ns .u64 a)],1⟩
def TQ:T ((Unit)⊕(cW)) :=
  .leaf (.inl ())
def sA(a:List Int)(b:Nat) :Nat×Nat→aC:=fun (c,d)=>⟨ae 21 [(0,.sl 0 1 1 c d b)],[(0,.ns .u64 a)],1⟩
def Gm(a:List Int)(b:Nat) :Nat×Nat→aC:=fun (c,d)=>⟨ae 21 [(0,.sl 0 1 1 c d b)],[(0,.ns .u64 a)],1⟩
def QJ:List Code:=cp (dg ((((TO.drop 1).take 1)).headD .skip))
def TR(a:List Int)(b:Nat)(c:Nat)(d:Nat)(e:Bool) :aC:=⟨ae 21 [(0,.sl 0 1 1 c d b),(14,.bool false e)],[(0,.ns .u64 a)],1⟩
def mY(b:List Int)(c:Nat)(a:Nat) :T ((Bool)⊕((Nat×Nat)⊕(cW))) :=
  .ask (decide (((a:Nat):Int)>(0:Int)))
    (.need (cV .i64 (((a:Nat):Int)-(1:Int)))<|.need (fp (((a:Nat):Int)-(1:Int)) a)<|.need (fO (gw c (Int.toNat (((a:Nat):Int)-(1:Int)))) (List.length b))<|.leaf (.inl ((List.getD b (gw c (Int.toNat (((a:Nat):Int)-(1:Int)))) 0)==(0:Int))))
    (.leaf (.inl false))
def Fc(c:Nat)(b:Nat)(a:Nat)(d:Bool) :T ((Nat×Nat)⊕((Nat×Nat)⊕(cW))) :=
  .ask d
    (.need (cV .i64 (((a:Nat):Int)-(1:Int)))<|.need (CE (((a:Nat):Int)-(1:Int)) c)<|.need (CE (0:Int) (Int.toNat (((a:Nat):Int)-(1:Int))))<|.leaf (.inl ((gw b 0),(Int.toNat (((a:Nat):Int)-(1:Int))))))
    (.leaf (.inr (.inl (b,a))))
def xd(c:List Int)(d:Nat) :Nat×Nat→Option ((Nat×Nat)⊕((Nat×Nat)⊕(cW))):=fun (a,b) =>
  aB ((mY c a b).run) fun e =>
  (Fc d a b e).run
theorem QK(a:List Int)(b:Nat)(c:Nat)(d:Nat) :Sg prog [.ns .u64 a] QJ (sA a b (c,d)) (xd a b (c,d)) (sA a b) (cN 0 (Gm a b) vy):=by
  unfold xd;exact Sg.cut 1 (aW sz) (bf pQ (TR a b c d) [⟨[],[0],[0,14]⟩,⟨[],[0],[0,14]⟩]) (fun e=>bf pQ (sA a b) [⟨[],[0],[0]⟩,⟨[],[0],[0]⟩])
def QL(a:List Int)(b:Nat)(c:Nat)(d:Nat) :T ((Empty)⊕(cW)) :=
  .leaf (.inr (.r0 c d b a))
def bk(a:List Int)(c:Nat)(d:Nat)(b:Nat) :Option cW:=jP (aB ((TQ).run) fun _ =>
  aB (cU (xd a b) (c,d)) fun (e,f) =>
  (QL a b e f).run)
theorem TS(a:List Int)(c:Nat)(d:Nat)(b:Nat){x:cW}(h:bk a c d b=some x) :ai prog rv [.ns .u64 a] [.sl 0 1 1 c d b] (BL x) :=
  kh false BL vy h (Sg.cut 1 sz (bf pQ (TP a c d b) [⟨[],[0],[0]⟩]) (fun _=>Sg.cut 1 sz (DG ⟨[],[0],[0]⟩ (sA a b) (Gm a b) 0 sz (TN _) (fun ⟨e,f⟩=>QK a b e f)) (fun ⟨k,l⟩=>bf pQ kb [⟨[],[0],[2]⟩])))
    (fun x=>by cases x with | r0 g i j m=>exact jR [.sl 0 1 1 g i j])
def iR:Option cW→Bool
  | some _=>true
  | none=>false
def ip:Option cW→Nat
  | some (.r0 x _ _ _)=>x
  | _=>0
def iq:Option cW→Nat
  | some (.r0 _ x _ _)=>x
  | _=>0
def ir:Option cW→Nat
  | some (.r0 _ _ x _)=>x
  | _=>0
def iu:Option cW→List Int
  | some (.r0 _ _ _ x)=>x
  | _=>[]
theorem TT{x:Option cW}(h:iR x=true) :x=some (.r0 (ip x) (iq x) (ir x) (iu x)):=by
  unfold iR at h
  split at h<;>first | rfl | (cases h;done) | (rename_i y;cases y;rfl)
def Iz:ax:=agu rv [.ns .u64] (.cons (.lsl 0) .nil) fun x t=>(fun q=>[⟨BL (.r0 (ip q) (iq q) (ir q) (iu q)),[iR q]⟩]) (bk x.1 t.1.1 t.1.2.1 t.1.2.2)
theorem N8:aI prog Iz:=Tz fun x t=>(HO (fun h=>TS x.1 t.1.1 t.1.2.1 t.1.2.2 (TT h)) TA)
def IA:List ax:=Iz::TM
theorem uC:aJ prog (aG IA):=aj N8 pQ
inductive mZ where
  | r0 (a:Nat) (b:Nat) (c:Nat) (d:List Int)
def agY:mZ→AE×aC
  | .r0 a b c d=>(.ret,⟨ae 6 [(2,.sl 0 1 1 a b c)],[(0,.ns .u64 d)],1⟩)
theorem anG:jm agY:=by intro x;cases x<;>(intro h;cases h)
def TU:mZ→fU
  | .r0 a b d c=>⟨.imm .free (.ns .u64 c) 1 1 a b,[]⟩
def anH:Nat×Nat×Nat×(List Int)→aC:=fun (a,b,c,d)=>⟨ae 6 [(2,.sl 0 1 1 a b c)],[(0,.ns .u64 d)],1⟩
def aaE(a:Int) :T ((Nat×Nat×Nat×(List Int))⊕(mZ)) :=
  .need (iR (bk [a] 0 1 1))<|.leaf (.inl ((ip (bk [a] 0 1 1)),(iq (bk [a] 0 1 1)),(ir (bk [a] 0 1 1)),(iu (bk [a] 0 1 1))))
def anI(a:Nat)(b:Nat)(c:Nat)(d:List Int) :T ((Empty)⊕(mZ)) :=
  .leaf (.inr (.r0 a b c d))
def bt(a:Int) :Option mZ:=jP (aB ((aaE a).run) fun (b,c,d,e) =>
  (anI b c d e).run)
theorem anJ(a:Int){x:mZ}(h:bt a=some x) :ai prog Tr [] [.int .u64 a] (TU x) :=
  kh true TU agY h (Sg.cut 2 anG (bf uC anH [⟨[],[32],[2]⟩]) (fun ⟨e,f,g,i⟩=>bf uC kb [⟨[],[0],[2]⟩]))
    (fun x=>by cases x with | r0 b c d j=>exact jR [.sl 0 1 1 b c d])
def ze:Option mZ→Bool
  | some _=>true
  | none=>false
def dD:Option mZ→Nat
  | some (.r0 x _ _ _)=>x
  | _=>0
def dE:Option mZ→Nat
  | some (.r0 _ x _ _)=>x
  | _=>0
def Pp:Option mZ→Nat
  | some (.r0 _ _ x _)=>x
  | _=>0
def dF:Option mZ→List Int
  | some (.r0 _ _ _ x)=>x
  | _=>[]
theorem anK{x:Option mZ}(h:ze x=true) :x=some (.r0 (dD x) (dE x) (Pp x) (dF x)):=by
  unfold ze at h
  split at h<;>first | rfl | (cases h;done) | (rename_i y;cases y;rfl)
def agZ:ax:=bx Tr (.cons (.int .u64) .nil) fun t=>(fun q=>[⟨TU (.r0 (dD q) (dE q) (Pp q) (dF q)),[ze q]⟩]) (bt t.1)
theorem ag0:aI prog agZ:=aE fun t=>(aF (fun h=>anJ t.1 (anK h)) aQ)
def ag1:List ax:=agZ::IA
theorem A4:aJ prog (aG ag1):=aj ag0 uC
inductive lF where
  | r0 (a:Int)
def HT:lF→AE×aC
  | .r0 a=>(.ret,⟨ae 45 [(4,.int .i64 a)],[],0⟩)
theorem Kc:jm HT:=by intro x;cases x<;>(intro h;cases h)
theorem akc(id:Nat) :lD id HT:=by intro x;cases x<;>(intro h;cases h)
def N9:lF→fU
  | .r0 a=>⟨.int .i64 a,[]⟩
def akd:List Code:=cp (md NZ)
def ake(c:Lv)(a:List Int)(d:Lv)(b:List Int)(e:Int) :aC:=⟨ae 45 [(0,.imm c (.ns .u64 a) 1 1 0 (List.length a)),(1,.imm d (.ns .u64 b) 1 1 0 (List.length b)),(5,.int .i64 e)],[],0⟩
def DJ(a:List Int)(b:List Int) :T ((Int)⊕(lF)) :=
  .ask (decide ((((List.length a):Nat):Int)<(((List.length b):Nat):Int)))
    (.leaf (.inr (.r0 (-1:Int))))
    (.ask (decide ((((List.length a):Nat):Int)>(((List.length b):Nat):Int)))
      (.leaf (.inr (.r0 (1:Int))))
      (.need (cV .i64 ((((List.length a):Nat):Int)-(1:Int)))<|.leaf (.inl ((((List.length a):Nat):Int)-(1:Int)))))
def DK(c:Lv)(a:List Int)(d:Lv)(b:List Int)(e:Int) :aC:=⟨ae 45 [(0,.imm c (.ns .u64 a) 1 1 0 (List.length a)),(1,.imm d (.ns .u64 b) 1 1 0 (List.length b)),(5,.int .i64 e)],[],0⟩
def TV(_:Unit) :aC:=⟨ae 45 [],[],0⟩
def akf:List Code:=cp (dg ((((akd.drop 3).take 1)).headD .skip))
def zH(b:List Int)(c:List Int)(a:Int) :T ((Int)⊕((Unit)⊕(lF))) :=
  .ask (decide (a≥(0:Int)))
    (.need (fp a (List.length b))<|.need (fO (Int.toNat a) (List.length b))<|.need (fp a (List.length c))<|.need (fO (Int.toNat a) (List.length c))<|.ask (decide ((List.getD b (Int.toNat a) 0)<(List.getD c (Int.toNat a) 0)))
      (.leaf (.inr (.inr (.r0 (-1:Int)))))
      (.need (fp a (List.length b))<|.need (fO (Int.toNat a) (List.length b))<|.need (fp a (List.length c))<|.need (fO (Int.toNat a) (List.length c))<|.ask (decide ((List.getD b (Int.toNat a) 0)>(List.getD c (Int.toNat a) 0)))
        (.leaf (.inr (.inr (.r0 (1:Int)))))
        (.need (cV .i64 (a-(1:Int)))<|.leaf (.inl (a-(1:Int))))))
    (.leaf (.inr (.inl ())))
def A5(a:List Int)(b:List Int) :Int→Option ((Int)⊕((Unit)⊕(lF))):=fun c =>
  (zH a b c).run
theorem ag2(c:Lv)(a:List Int)(d:Lv)(b:List Int)(e:Int) :Sg prog [] akf (DK c a d b e) (A5 a b e) (DK c a d b) (cN 1 TV HT):=by
  unfold A5;exact bf A4 (DK c a d b) [⟨[],[],[4]⟩,⟨[],[],[4]⟩,⟨[],[],[0,1,5]⟩,⟨[],[],[]⟩]
def ag3:T ((Empty)⊕(lF)) :=
  .leaf (.inr (.r0 (0:Int)))
def uD(a:List Int)(b:List Int) :Option lF:=jP (aB ((DJ a b).run) fun c =>
  aB (cU (A5 a b) c) fun _ =>
  (ag3).run)
theorem akg(c:Lv)(a:List Int)(d:Lv)(b:List Int){x:lF}(h:uD a b=some x) :ai prog NZ [] [.imm c (.ns .u64 a) 1 1 0 (List.length a),.imm d (.ns .u64 b) 1 1 0 (List.length b)] (N9 x) :=
  kh false N9 HT h (Sg.cut 3 Kc (bf A4 (ake c a d b) [⟨[],[],[4]⟩,⟨[],[],[4]⟩,⟨[],[],[0,1,5]⟩]) (fun g=>Sg.cut 1 Kc (DG ⟨[],[],[0,1,5]⟩ (DK c a d b) (TV) 1 Kc (akc _) (fun e=>ag2 c a d b e)) (fun _=>bf A4 kb [⟨[],[],[4]⟩])))
    (fun x=>by cases x with | r0 f=>exact jR [.int .i64 f])
def zI:Option lF→Bool
  | some _=>true
  | none=>false
def yx:Option lF→Int
  | some (.r0 x)=>x
  | _=>0
theorem akh{x:Option lF}(h:zI x=true) :x=some (.r0 (yx x)):=by
  unfold zI at h
  split at h<;>first | rfl | (cases h;done) | (rename_i y;cases y;rfl)
def aaF:ax:=bx NZ (.cons (.ns .u64) (.cons (.ns .u64) .nil)) fun t=>(fun q=>[⟨N9 (.r0 (yx q)),[zI q]⟩]) (uD t.1.2 t.2.1.2)
theorem acu:aI prog aaF:=aE fun t=>(aF (fun h=>akg t.1.1 t.1.2 t.2.1.1 t.2.1.2 (akh h)) aQ)
def aaG:List ax:=aaF::ag1
theorem yy:aJ prog (aG aaG):=aj acu A4
inductive lG where
  | r0 (a:Int) (b:Nat)
def aaH:lG→AE×aC
  | .r0 a b=>(.ret,⟨ae 15 [(4,.int .i64 a),(5,.int .i64 ((b:Nat):Int))],[],0⟩)
theorem TW:jm aaH:=by intro x;cases x<;>(intro h;cases h)
def Oa:lG→fU
  | .r0 a b=>⟨.tup [.int .i64 a,.int .i64 ((b:Nat):Int)],[]⟩
def aki(a:Lv)(b:Lv) :Nat×(List Int)×Nat×(List Int)×Nat→aC:=fun (c,d,e,f,g)=>⟨ae 15 [(2,.ptr 0 1 0 0),(3,.ptr 1 1 0 0),(6,.int .i64 ((c:Nat):Int))],[(0,.vs [.imm a (.ns .u64 d) 1 1 0 e]),(1,.vs [.imm b (.ns .u64 f) 1 1 0 g])],2⟩
def TX(a : List Int)(b : List Int) : T ((Nat × (List Int) × Nat × (List Int) × Nat) ⊕ (lG)) :=
  .ask (decide ((0:Int)<(2:Int)))
    (.need (fp (0:Int) 2)<|.need (aK 0 (List.length a) a)<|.need (ca (ay (aa 0 (List.length a) a)))<|.ask (decide ((((aD (ay (aa 0 (List.length a) a))):Nat):Int)>(4096:Int)))
      (.leaf (.inl (2,(aU (ay (aa 0 (List.length a) a))),(aD (ay (aa 0 (List.length a) a))),b,(List.length b))))
      (.need (cV .i64 (1:Int))<|.ask (decide ((1:Int)<(2:Int)))
        (.need (fp (1:Int) 2)<|.need (aK 0 (List.length b) b)<|.need (ca (ay (aa 0 (List.length b) b)))<|.ask (decide ((((aD (ay (aa 0 (List.length b) b))):Nat):Int)>(4096:Int)))
          (.leaf (.inl (2,(aU (ay (aa 0 (List.length a) a))),(aD (ay (aa 0 (List.length a) a))),(aU (ay (aa 0 (List.length b) b))),(aD (ay (aa 0 (List.length b) b))))))
          (.need (cV .i64 (2:Int))<|.ask (decide ((2:Int)<(2:Int)))
            (.fail)
            (.leaf (.inl (0,(aU (ay (aa 0 (List.length a) a))),(aD (ay (aa 0 (List.length a) a))),(aU (ay (aa 0 (List.length b) b))),(aD (ay (aa 0 (List.length b) b))))))))
        (.fail)))
    (.fail)
def akj(a:Int) :aC:=⟨ae 15 [(4,.int .i64 a),(5,.int .i64 (0:Int))],[],0⟩
def TY(e:Nat)(a:List Int)(b:Nat)(c:List Int)(d:Nat) :T ((Int)⊕(lG)) :=
  .ask (((e:Nat):Int) != (0:Int))
    (.leaf (.inr (.r0 (0:Int) e)))
    (.need (aK 0 b a)<|.need (aK 0 d c)<|.need (zI (uD (aa 0 b a) (aa 0 d c)))<|.leaf (.inl (yx (uD (aa 0 b a) (aa 0 d c)))))
def akk(a:Int) :T ((Empty)⊕(lG)) :=
  .leaf (.inr (.r0 a 0))
def uE(a:List Int)(b:List Int) :Option lG:=jP (aB ((TX a b).run) fun (c,d,e,f,g) =>
  aB ((TY c d e f g).run) fun h =>
  (akk h).run)
theorem akl(c:Lv)(a:List Int)(d:Lv)(b:List Int){x:lG}(h:uE a b=some x) :ai prog NW [] [.imm c (.ns .u64 a) 1 1 0 (List.length a),.imm d (.ns .u64 b) 1 1 0 (List.length b)] (Oa x) :=
  kh true Oa aaH h (Sg.cut 2 TW (bf yy (aki c d) [⟨[],[0,16],[2,3,6]⟩,⟨[],[0,16],[2,3,6]⟩,⟨[],[0,16],[2,3,6]⟩]) (fun ⟨g,i,j,k,l⟩=>Sg.cut 3 TW (bf yy akj [⟨[],[],[4,5]⟩,⟨[],[],[4,5]⟩]) (fun m=>bf yy kb [⟨[],[],[4,5]⟩])))
    (fun x=>by cases x with | r0 e f=>exact jR [.int .i64 e,.int .i64 ((f:Nat):Int)])
def zJ:Option lG→Bool
  | some _=>true
  | none=>false
def yz:Option lG→Int
  | some (.r0 x _)=>x
  | _=>0
def LI:Option lG→Nat
  | some (.r0 _ x)=>x
  | _=>0
theorem akm{x:Option lG}(h:zJ x=true) :x=some (.r0 (yz x) (LI x)):=by
  unfold zJ at h
  split at h<;>first | rfl | (cases h;done) | (rename_i y;cases y;rfl)
def aaI:ax:=bx NW (.cons (.ns .u64) (.cons (.ns .u64) .nil)) fun t=>(fun q=>[⟨Oa (.r0 (yz q) (LI q)),[zJ q]⟩]) (uE t.1.2 t.2.1.2)
theorem acv:aI prog aaI:=aE fun t=>(aF (fun h=>akl t.1.1 t.1.2 t.2.1.1 t.2.1.2 (akm h)) aQ)
def aaJ:List ax:=aaI::aaG
theorem DL:aJ prog (aG aaJ):=aj acv yy
inductive fV where
  | r0 (a:List Int)
  | r1 (b:Nat) (c:Nat) (d:Nat) (e:List Int)
def TZ:fV→AE×aC
  | .r0 a=>(.ret,⟨ae 10 [(2,.nsl),(3,.int .i64 (3:Int))],[(0,.ns .u64 a)],1⟩)
  | .r1 b c d e=>(.ret,⟨ae 10 [(2,.sl 0 1 1 b c d),(3,.int .i64 (0:Int))],[(0,.ns .u64 e)],1⟩)
theorem ag4:jm TZ:=by intro x;cases x<;>(intro h;cases h)
def DM:fV→fU
  | .r0 a=>⟨.tup [.nsl,.int .i64 (3:Int)],[some (.ns .u64 a)]⟩
  | .r1 b c d e=>⟨.tup [.sl 0 1 1 b c d,.int .i64 (0:Int)],[some (.ns .u64 e)]⟩
def ag5:Nat×Nat×Nat×(List Int)→aC:=fun (a,b,c,d)=>⟨ae 10 [(0,.sl 0 1 1 a b c)],[(0,.ns .u64 d)],1⟩
def Pq(a:List Int)(b:Nat)(c:Nat)(d:Nat) :T ((Nat×Nat×Nat×(List Int))⊕(fV)) :=
  .need (iR (bk a b c d))<|.leaf (.inl ((ip (bk a b c d)),(iq (bk a b c d)),(ir (bk a b c d)),(iu (bk a b c d))))
def ag6(c:Nat)(a:Nat)(d:Nat)(b:List Int) :T ((Empty)⊕(fV)) :=
  .ask (decide (((a:Nat):Int)>(4096:Int)))
    (.leaf (.inr (.r0 b)))
    (.leaf (.inr (.r1 c a d b)))
def fW(a:List Int)(b:Nat)(c:Nat)(d:Nat) :Option fV:=jP (aB ((Pq a b c d).run) fun (e,f,g,h) =>
  (ag6 e f g h).run)
theorem Pr(a:List Int)(b:Nat)(c:Nat)(d:Nat){x:fV}(h:fW a b c d=some x) :ai prog zA [.ns .u64 a] [.sl 0 1 1 b c d] (DM x) :=
  kh false DM TZ h (Sg.cut 2 ag4 (bf DL ag5 [⟨[],[0],[0]⟩]) (fun ⟨i,j,k,l⟩=>bf DL kb [⟨[],[0],[2,3]⟩,⟨[],[0],[2,3]⟩]))
    (fun x=>by cases x with | r0 m=>exact jR [.nsl,.int .i64 (3:Int)] | r1 e f g n=>exact jR [.sl 0 1 1 e f g,.int .i64 (0:Int)])
def wG:Option fV→Bool
  | some (.r0 _)=>true
  | _=>false
def IB:Option fV→List Int
  | some (.r0 x)=>x
  | _=>[]
theorem ag7{x:Option fV}(h:wG x=true) :x=some (.r0 (IB x)):=by
  unfold wG at h
  split at h<;>first | rfl | (cases h;done) | (rename_i y;cases y;rfl)
def wH:Option fV→Bool
  | some (.r1 _ _ _ _)=>true
  | _=>false
def vz:Option fV→Nat
  | some (.r1 x _ _ _)=>x
  | _=>0
def vA:Option fV→Nat
  | some (.r1 _ x _ _)=>x
  | _=>0
def vB:Option fV→Nat
  | some (.r1 _ _ x _)=>x
  | _=>0
def vC:Option fV→List Int
  | some (.r1 _ _ _ x)=>x
  | _=>[]
theorem ag8{x:Option fV}(h:wH x=true) :x=some (.r1 (vz x) (vA x) (vB x) (vC x)):=by
  unfold wH at h
  split at h<;>first | rfl | (cases h;done) | (rename_i y;cases y;rfl)
def T1:ax:=agu zA [.ns .u64] (.cons (.lsl 0) .nil) fun x t=>(fun q=>[⟨DM (.r0 (IB q)),[wG q]⟩,⟨DM (.r1 (vz q) (vA q) (vB q) (vC q)),[wH q]⟩]) (fW x.1 t.1.1 t.1.2.1 t.1.2.2)
theorem WT:aI prog T1:=Tz fun x t=>(HO (fun h=>Pr x.1 t.1.1 t.1.2.1 t.1.2.2 (ag7 h)) (HO (fun h=>Pr x.1 t.1.1 t.1.2.1 t.1.2.2 (ag8 h)) TA))
def T3:List ax:=T1::aaJ
theorem jy:aJ prog (aG T3):=aj WT DL
inductive eQ where
  | r0 (a:Nat) (b:Nat) (c:Nat) (d:Nat) (e:List Int)
def HU:eQ→AE×aC
  | .r0 a b c d e=>(.ret,⟨ae 62 [(4,.sl 0 1 1 a b c),(5,.int .i64 ((d:Nat):Int))],[(0,.ns .u64 e)],1⟩)
theorem ry:jm HU:=by intro x;cases x<;>(intro h;cases h)
theorem akn(id:Nat) :lD id HU:=by intro x;cases x<;>(intro h;cases h)
def Ob:eQ→fU
  | .r0 a b e c d=>⟨.tup [.imm .free (.ns .u64 d) 1 1 a b,.int .i64 ((c:Nat):Int)],[]⟩
def ag9:List Code:=cp (md HK)
def ako(a:Lv)(b:Lv) :Nat×(List Int)×Nat×(List Int)×Nat→aC:=fun (c,d,e,f,g)=>⟨ae 62 [(2,.ptr 0 1 0 0),(3,.ptr 1 1 0 0),(6,.int .i64 ((c:Nat):Int))],[(0,.vs [.imm a (.ns .u64 d) 1 1 0 e]),(1,.vs [.imm b (.ns .u64 f) 1 1 0 g])],2⟩
def aha(a:List Int)(b:List Int) :T ((Nat×(List Int)×Nat×(List Int)×Nat)⊕(eQ)) :=
  .ask (decide ((0:Int)<(2:Int)))
    (.need (fp (0:Int) 2)<|.need (aK 0 (List.length a) a)<|.need (ca (ay (aa 0 (List.length a) a)))<|.ask (decide ((((aD (ay (aa 0 (List.length a) a))):Nat):Int)>(4096:Int)))
      (.leaf (.inl (2,(aU (ay (aa 0 (List.length a) a))),(aD (ay (aa 0 (List.length a) a))),b,(List.length b))))
      (.need (cV .i64 (1:Int))<|.ask (decide ((1:Int)<(2:Int)))
        (.need (fp (1:Int) 2)<|.need (aK 0 (List.length b) b)<|.need (ca (ay (aa 0 (List.length b) b)))<|.ask (decide ((((aD (ay (aa 0 (List.length b) b))):Nat):Int)>(4096:Int)))
          (.leaf (.inl (2,(aU (ay (aa 0 (List.length a) a))),(aD (ay (aa 0 (List.length a) a))),(aU (ay (aa 0 (List.length b) b))),(aD (ay (aa 0 (List.length b) b))))))
          (.need (cV .i64 (2:Int))<|.ask (decide ((2:Int)<(2:Int)))
            (.fail)
            (.leaf (.inl (0,(aU (ay (aa 0 (List.length a) a))),(aD (ay (aa 0 (List.length a) a))),(aU (ay (aa 0 (List.length b) b))),(aD (ay (aa 0 (List.length b) b))))))))
        (.fail)))
    (.fail)
def akp:(List Int)×Nat×(List Int)×Nat→aC:=fun (a,b,c,d)=>⟨ae 62 [(2,.ptr 0 1 0 0),(3,.ptr 1 1 0 0)],[(0,.vs [.imm .lent (.ns .u64 a) 1 1 0 b]),(1,.vs [.imm .lent (.ns .u64 c) 1 1 0 d])],2⟩
def ahb(c:Nat)(d:List Int)(a:Nat)(e:List Int)(b:Nat) :T (((List Int)×Nat×(List Int)×Nat)⊕(eQ)) :=
  .ask (((c:Nat):Int) != (0:Int))
    (.leaf (.inr (.r0 0 0 0 c ([]:List Int))))
    (.ask (decide (((a:Nat):Int)<((b:Nat):Int)))
      (.leaf (.inl (e,b,d,a)))
      (.leaf (.inl (d,a,e,b))))
def akq(c:List Int)(a:Nat)(d:List Int)(e:Nat) :Nat×(List Int)→aC:=fun (b,f)=>⟨ae 62 [(2,.ptr 0 1 0 0),(3,.ptr 1 1 0 0),(7,.ptr 2 1 0 0),(8,.fn (.func AT) [] [.ptr 2 1 0 0]),(9,.sl 3 1 1 0 b b),(30,.int .i64 ((a:Nat):Int)),(31,.int .i64 (0:Int))],[(0,.vs [.imm .lent (.ns .u64 c) 1 1 0 a]),(1,.vs [.imm .lent (.ns .u64 d) 1 1 0 e]),(2,.vs [.int .u64 (0:Int)]),(3,.ns .u64 f)],4⟩
def ahc(a:Nat) :T ((Nat×(List Int))⊕(eQ)) :=
  .need (cV .i64 (((a+1):Nat):Int))<|.need (decide ((0:Int)≤(((a+1):Nat):Int)))<|.need (decide ((((a+1):Nat):Int)≤(((a+1):Nat):Int)))<|.need (decide ((8:Int)*(((a+1):Nat):Int)≤140737488355328))<|.need (cV .i64 (((a+1):Nat):Int))<|.leaf (.inl ((a+1),(List.replicate (a+1) (0:Int))))
def DN(c:List Int)(a:Nat)(d:List Int)(e:Nat)(b:Nat) :Nat×Nat×(List Int)→aC:=fun (f,g,h)=>⟨ae 62 [(2,.ptr 0 1 0 0),(3,.ptr 1 1 0 0),(7,.ptr 2 1 0 0),(8,.fn (.func AT) [] [.ptr 2 1 0 0]),(9,.sl 3 1 1 0 b b),(30,.int .i64 ((a:Nat):Int)),(31,.int .i64 ((f:Nat):Int))],[(0,.vs [.imm .lent (.ns .u64 c) 1 1 0 a]),(1,.vs [.imm .lent (.ns .u64 d) 1 1 0 e]),(2,.vs [.int .u64 ((g:Nat):Int)]),(3,.ns .u64 h)],4⟩
def T4(b:List Int)(c:Nat)(a:Nat) :Nat×(List Int)→aC:=fun (d,e)=>⟨ae 62 [(2,.ptr 0 1 0 0),(7,.ptr 1 1 0 0),(9,.sl 2 1 1 0 a a)],[(0,.vs [.imm .lent (.ns .u64 b) 1 1 0 c]),(1,.vs [.int .u64 ((d:Nat):Int)]),(2,.ns .u64 e)],3⟩
def ahd:List Code:=cp (dg ((((((ag9.drop 2).drop 4).drop 4).take 1)).headD .skip))
def akr(c:List Int)(a:Nat)(d:List Int)(e:Nat)(b:Nat)(f:Nat) :Nat×(List Int)→aC:=fun (g,h)=>⟨ae 62 [(2,.ptr 0 1 0 0),(3,.ptr 1 1 0 0),(7,.ptr 2 1 0 0),(8,.fn (.func AT) [] [.ptr 2 1 0 0]),(9,.sl 3 1 1 0 b b),(30,.int .i64 ((a:Nat):Int)),(31,.int .i64 ((f:Nat):Int))],[(0,.vs [.imm .lent (.ns .u64 c) 1 1 0 a]),(1,.vs [.imm .lent (.ns .u64 d) 1 1 0 e]),(2,.vs [.int .u64 ((g:Nat):Int)]),(3,.ns .u64 h)],4⟩
def ahe(c:List Int)(e:Nat)(f:List Int)(g:Nat)(h:Nat)(a:Nat)(b:Nat)(d:List Int) :T ((Nat×(List Int))⊕((Nat×(List Int))⊕(eQ))) :=
  .ask (decide (((a:Nat):Int)<((e:Nat):Int)))
    (.ask (decide (((a:Nat):Int)<((g:Nat):Int)))
      (.need (fp ((a:Nat):Int) g)<|.need (fO a (List.length f))<|.need (fp ((a:Nat):Int) e)<|.need (fO a (List.length c))<|.need (mQ b 1)<|.need (fp ((a:Nat):Int) h)<|.need (fO a (List.length d))<|.leaf (.inl ((((Int.toNat (List.getD c a 0))+(Int.toNat (List.getD f a 0))+b)/18446744073709551616),(List.set d a (((((Int.toNat (List.getD c a 0))+(Int.toNat (List.getD f a 0))+b)%18446744073709551616):Nat):Int)))))
      (.need (fp ((a:Nat):Int) e)<|.need (fO a (List.length c))<|.need (mQ b 1)<|.need (fp ((a:Nat):Int) h)<|.need (fO a (List.length d))<|.leaf (.inl ((((Int.toNat (List.getD c a 0))+0+b)/18446744073709551616),(List.set d a (((((Int.toNat (List.getD c a 0))+0+b)%18446744073709551616):Nat):Int))))))
    (.leaf (.inr (.inl (b,d))))
def ahf(a:Nat)(b:Nat)(c:List Int) :T ((Nat×Nat×(List Int))⊕((Nat×(List Int))⊕(eQ))) :=
  .need (cV .i64 (((a+1):Nat):Int))<|.leaf (.inl ((a+1),b,c))
def Gn(b:List Int)(c:Nat)(d:List Int)(e:Nat)(f:Nat) :Nat×Nat×(List Int)→Option ((Nat×Nat×(List Int))⊕((Nat×(List Int))⊕(eQ))):=fun (a,g,h) =>
  aB ((ahe b c d e f a g h).run) fun (i,j) =>
  (ahf a i j).run
theorem ahg(a:List Int)(b:Nat)(d:List Int)(e:Nat)(c:Nat)(f:Nat)(g:Nat)(h:List Int) :Sg prog [] ahd (DN a b d e c (f,g,h)) (Gn a b d e c (f,g,h)) (DN a b d e c) (cN 0 (T4 a b c) HU):=by
  unfold Gn;exact Sg.cut 3 (aW ry) (bf jy (akr a b d e c f) [⟨[],[0,1,2,3],[2,3,7,8,9,30,31]⟩,⟨[],[0,1,2,3],[2,3,7,8,9,30,31]⟩,⟨[],[0,2,3],[2,7,9]⟩]) (fun ⟨i,j⟩=>bf jy (DN a b d e c) [⟨[],[0,1,2,3],[2,3,7,8,9,30,31]⟩])
def ahh:Nat×Nat×Nat×Nat×(List Int)→aC:=fun (a,b,c,d,e)=>⟨ae 62 [(4,.sl 0 1 1 a b c),(5,.int .i64 ((d:Nat):Int))],[(0,.ns .u64 e)],1⟩
def ahi(b:Nat)(a:Nat)(d:Nat)(c:List Int) :T ((Nat×Nat×Nat×Nat×(List Int))⊕(eQ)) :=
  .need (fp ((b:Nat):Int) a)<|.need (fO b (List.length c))<|.alt 0
    (.need (wG (fW (List.set c b ((d:Nat):Int)) 0 a a))<|.leaf (.inl (0,0,0,3,([]:List Int))))
    (.alt 1
      (.need (wH (fW (List.set c b ((d:Nat):Int)) 0 a a))<|.leaf (.inl ((vz (fW (List.set c b ((d:Nat):Int)) 0 a a)),(vA (fW (List.set c b ((d:Nat):Int)) 0 a a)),(vB (fW (List.set c b ((d:Nat):Int)) 0 a a)),0,(vC (fW (List.set c b ((d:Nat):Int)) 0 a a)))))
      (.fail))
def ahj(a:Nat)(b:Nat)(c:Nat)(d:Nat)(e:List Int) :T ((Empty)⊕(eQ)) :=
  .leaf (.inr (.r0 a b c d e))
def bG(c:List Int)(d:List Int) :Option eQ:=jP (aB ((aha c d).run) fun (e,f,g,h,i) =>
  aB ((ahb e f g h i).run) fun (j,a,k,l) =>
  aB ((ahc a).run) fun (b,m) =>
  aB (cU (Gn j a k l b) (0,0,m)) fun (n,o) =>
  aB ((ahi a b n o).run) fun (p,q,r,s,t) =>
  (ahj p q r s t).run)
theorem aks(i:Lv)(c:List Int)(j:Lv)(d:List Int){x:eQ}(h:bG c d=some x) :ai prog HK [] [.imm i (.ns .u64 c) 1 1 0 (List.length c),.imm j (.ns .u64 d) 1 1 0 (List.length d)] (Ob x) :=
  kh true Ob HU h (Sg.cut 2 ry (bf jy (ako i j) [⟨[],[0,16],[2,3,6]⟩,⟨[],[0,16],[2,3,6]⟩,⟨[],[0,16],[2,3,6]⟩]) (fun ⟨r,s,t,u,v⟩=>Sg.cut 4 ry (bf jy akp [⟨[(.slot 4,.own 1 1 (.ns .u64 ([]:List Int)))],[82],[4,5]⟩,⟨[(.cell 0 0,.low),(.cell 1 0,.low)],[0,1],[2,3]⟩,⟨[(.cell 0 0,.low),(.cell 1 0,.low)],[0,1],[2,3]⟩]) (fun ⟨a,b,e,f⟩=>Sg.cut 4 ry (bf jy (akq a b e f) [⟨[],[0,1,2,114],[2,3,7,8,9,30,31]⟩]) (fun ⟨g,w⟩=>Sg.cut 1 ry (DG ⟨[],[0,1,2,3],[2,3,7,8,9,30,31]⟩ (DN a b e f g) (T4 a b g) 0 ry (akn _) (fun ⟨k,l,m⟩=>ahg a b e f g k l m)) (fun ⟨y,z⟩=>Sg.cut 2 ry (bf jy ahh [⟨[(.slot 4,.own 1 1 (.ns .u64 ([]:List Int)))],[195],[4,5]⟩,⟨[],[2],[4,5]⟩]) (fun ⟨A,B,C,D,E⟩=>bf jy kb [⟨[],[0],[4,5]⟩]))))))
    (fun x=>by cases x with | r0 n o p q F=>exact jR [.sl 0 1 1 n o p,.int .i64 ((q:Nat):Int)])
def DO:Option eQ→Bool
  | some _=>true
  | none=>false
def iE:Option eQ→Nat
  | some (.r0 x _ _ _ _)=>x
  | _=>0
def iF:Option eQ→Nat
  | some (.r0 _ x _ _ _)=>x
  | _=>0
def LJ:Option eQ→Nat
  | some (.r0 _ _ x _ _)=>x
  | _=>0
def jp:Option eQ→Nat
  | some (.r0 _ _ _ x _)=>x
  | _=>0
def iG:Option eQ→List Int
  | some (.r0 _ _ _ _ x)=>x
  | _=>[]
theorem akt{x:Option eQ}(h:DO x=true) :x=some (.r0 (iE x) (iF x) (LJ x) (jp x) (iG x)):=by
  unfold DO at h
  split at h<;>first | rfl | (cases h;done) | (rename_i y;cases y;rfl)
def aaK:ax:=bx HK (.cons (.ns .u64) (.cons (.ns .u64) .nil)) fun t=>(fun q=>[⟨Ob (.r0 (iE q) (iF q) (LJ q) (jp q) (iG q)),[DO q]⟩]) (bG t.1.2 t.2.1.2)
theorem acw:aI prog aaK:=aE fun t=>(aF (fun h=>aks t.1.1 t.1.2 t.2.1.1 t.2.1.2 (akt h)) aQ)
def aaL:List ax:=aaK::T3
theorem oU:aJ prog (aG aaL):=aj acw jy
inductive gW where
  | r0 (a:Nat) (b:Nat) (c:Nat) (d:List Int)
def HV:gW→AE×aC
  | .r0 a b c d=>(.ret,⟨ae 40 [(4,.sl 0 1 1 a b c)],[(0,.ns .u64 d)],1⟩)
theorem zK:jm HV:=by intro x;cases x<;>(intro h;cases h)
theorem aku(id:Nat) :lD id HV:=by intro x;cases x<;>(intro h;cases h)
def Oc:gW→fU
  | .r0 a b d c=>⟨.imm .free (.ns .u64 c) 1 1 a b,[]⟩
def ahk:List Code:=cp (md HM)
def akv(d:Lv)(a:List Int)(e:Lv)(b:List Int) :Nat×(List Int)→aC:=fun (c,f)=>⟨ae 40 [(0,.imm d (.ns .u64 a) 1 1 0 (List.length a)),(1,.imm e (.ns .u64 b) 1 1 0 (List.length b)),(5,.sl 0 1 1 0 c c),(6,.int .u64 (0:Int)),(12,.int .i64 (((List.length a):Nat):Int)),(13,.int .i64 (0:Int))],[(0,.ns .u64 f)],1⟩
def ahl(a:List Int) :T ((Nat×(List Int))⊕(gW)) :=
  .need (aK 0 (List.length a) a)<|.need (wE (List.length (aa 0 (List.length a) a)))<|.leaf (.inl ((List.length (aa 0 (List.length a) a)),(aa 0 (List.length a) a)))
def DP(d:Lv)(a:List Int)(e:Lv)(b:List Int)(c:Nat) :Int×Nat×(List Int)→aC:=fun (f,g,h)=>⟨ae 40 [(0,.imm d (.ns .u64 a) 1 1 0 (List.length a)),(1,.imm e (.ns .u64 b) 1 1 0 (List.length b)),(5,.sl 0 1 1 0 c c),(6,.int .u64 f),(12,.int .i64 (((List.length a):Nat):Int)),(13,.int .i64 ((g:Nat):Int))],[(0,.ns .u64 h)],1⟩
def T5(a:Nat)(b:(List Int)) :aC:=⟨ae 40 [(5,.sl 0 1 1 0 a a)],[(0,.ns .u64 b)],1⟩
def ahm:List Code:=cp (dg ((((ahk.drop 4).take 1)).headD .skip))
def akw(d:Lv)(a:List Int)(e:Lv)(b:List Int)(c:Nat)(f:Nat) :Int×(List Int)→aC:=fun (g,h)=>⟨ae 40 [(0,.imm d (.ns .u64 a) 1 1 0 (List.length a)),(1,.imm e (.ns .u64 b) 1 1 0 (List.length b)),(5,.sl 0 1 1 0 c c),(6,.int .u64 g),(12,.int .i64 (((List.length a):Nat):Int)),(13,.int .i64 ((f:Nat):Int))],[(0,.ns .u64 h)],1⟩
def ahn(b:List Int)(d:List Int)(f:Nat)(c:Int)(a:Nat)(e:List Int) :T ((Int×(List Int))⊕(((List Int))⊕(gW))) :=
  .ask (decide (((a:Nat):Int)<(((List.length b):Nat):Int)))
    (.ask (decide (((a:Nat):Int)<(((List.length d):Nat):Int)))
      (.need (fp ((a:Nat):Int) (List.length d))<|.need (fO a (List.length d))<|.need (fp ((a:Nat):Int) (List.length b))<|.need (fO a (List.length b))<|.need (mQ (Int.toNat c) 1)<|.need (fp ((a:Nat):Int) f)<|.need (fO a (List.length e))<|.leaf (.inl ((bif Nat.blt (Int.toNat (List.getD b a 0)) ((Int.toNat (List.getD d a 0))+(Int.toNat c)) then (1:Int) else (0:Int)),(List.set e a (((((Int.toNat (List.getD b a 0))+18446744073709551616-(Int.toNat (List.getD d a 0))-(Int.toNat c))%18446744073709551616):Nat):Int)))))
      (.need (fp ((a:Nat):Int) (List.length b))<|.need (fO a (List.length b))<|.need (mQ (Int.toNat c) 1)<|.need (fp ((a:Nat):Int) f)<|.need (fO a (List.length e))<|.leaf (.inl ((bif Nat.blt (Int.toNat (List.getD b a 0)) (0+(Int.toNat c)) then (1:Int) else (0:Int)),(List.set e a (((((Int.toNat (List.getD b a 0))+18446744073709551616-0-(Int.toNat c))%18446744073709551616):Nat):Int))))))
    (.leaf (.inr (.inl e)))
def aho(a:Nat)(b:Int)(c:List Int) :T ((Int×Nat×(List Int))⊕(((List Int))⊕(gW))) :=
  .need (cV .i64 (((a+1):Nat):Int))<|.leaf (.inl (b,(a+1),c))
def Gp(b:List Int)(c:List Int)(d:Nat) :Int×Nat×(List Int)→Option ((Int×Nat×(List Int))⊕(((List Int))⊕(gW))):=fun (e,a,f) =>
  aB ((ahn b c d e a f).run) fun (g,h) =>
  (aho a g h).run
theorem ahp(d:Lv)(b:List Int)(e:Lv)(c:List Int)(a:Nat)(g:Int)(f:Nat)(h:List Int) :Sg prog [] ahm (DP d b e c a (g,f,h)) (Gp b c a (g,f,h)) (DP d b e c a) (cN 0 (T5 a) HV):=by
  unfold Gp;exact Sg.cut 3 (aW zK) (bf oU (akw d b e c a f) [⟨[],[0],[0,1,5,6,12,13]⟩,⟨[],[0],[0,1,5,6,12,13]⟩,⟨[],[0],[5]⟩]) (fun ⟨i,j⟩=>bf oU (DP d b e c a) [⟨[],[0],[0,1,5,6,12,13]⟩])
def ahq:Nat×Nat×Nat×(List Int)→aC:=fun (a,b,c,d)=>⟨ae 40 [(4,.sl 0 1 1 a b c)],[(0,.ns .u64 d)],1⟩
def ahr(a:Nat)(b:List Int) :T ((Nat×Nat×Nat×(List Int))⊕(gW)) :=
  .need (iR (bk b 0 a a))<|.leaf (.inl ((ip (bk b 0 a a)),(iq (bk b 0 a a)),(ir (bk b 0 a a)),(iu (bk b 0 a a))))
def ahs(a:Nat)(b:Nat)(c:Nat)(d:List Int) :T ((Empty)⊕(gW)) :=
  .leaf (.inr (.r0 a b c d))
def zf(a:List Int)(c:List Int) :Option gW:=jP (aB ((ahl a).run) fun (b,d) =>
  aB (cU (Gp a c b) ((0:Int),0,d)) fun e =>
  aB ((ahr b e).run) fun (f,g,h,i) =>
  (ahs f g h i).run)
theorem akx(c:Lv)(a:List Int)(d:Lv)(b:List Int){x:gW}(h:zf a b=some x) :ai prog HM [] [.imm c (.ns .u64 a) 1 1 0 (List.length a),.imm d (.ns .u64 b) 1 1 0 (List.length b)] (Oc x) :=
  kh true Oc HV h (Sg.cut 4 zK (bf oU (akv c a d b) [⟨[],[32],[0,1,5,6,12,13]⟩]) (fun ⟨e,m⟩=>Sg.cut 1 zK (DG ⟨[],[0],[0,1,5,6,12,13]⟩ (DP c a d b e) (T5 e) 0 zK (aku _) (fun ⟨f,g,i⟩=>ahp c a d b e f g i)) (fun n=>Sg.cut 1 zK (bf oU ahq [⟨[],[0],[4]⟩]) (fun ⟨o,p,q,r⟩=>bf oU kb [⟨[],[0],[4]⟩]))))
    (fun x=>by cases x with | r0 j k l s=>exact jR [.sl 0 1 1 j k l])
def DQ:Option gW→Bool
  | some _=>true
  | none=>false
def DR:Option gW→Nat
  | some (.r0 x _ _ _)=>x
  | _=>0
def DS:Option gW→Nat
  | some (.r0 _ x _ _)=>x
  | _=>0
def LK:Option gW→Nat
  | some (.r0 _ _ x _)=>x
  | _=>0
def DT:Option gW→List Int
  | some (.r0 _ _ _ x)=>x
  | _=>[]
theorem aky{x:Option gW}(h:DQ x=true) :x=some (.r0 (DR x) (DS x) (LK x) (DT x)):=by
  unfold DQ at h
  split at h<;>first | rfl | (cases h;done) | (rename_i y;cases y;rfl)
def aaM:ax:=bx HM (.cons (.ns .u64) (.cons (.ns .u64) .nil)) fun t=>(fun q=>[⟨Oc (.r0 (DR q) (DS q) (LK q) (DT q)),[DQ q]⟩]) (zf t.1.2 t.2.1.2)
theorem acx:aI prog aaM:=aE fun t=>(aF (fun h=>akx t.1.1 t.1.2 t.2.1.1 t.2.1.2 (aky h)) aQ)
def aaN:List ax:=aaM::aaL
theorem sB:aJ prog (aG aaN):=aj acx oU
inductive iZ where
  | r0 (a:List Int) (b:Nat) (c:Nat) (d:Nat)
def aaO:iZ→AE×aC
  | .r0 a b c d=>(.ret,⟨ae 20 [(4,.imm .free (.ns .u64 a) 1 1 b c),(5,.int .i64 ((d:Nat):Int))],[],0⟩)
theorem Kd:jm aaO:=by intro x;cases x<;>(intro h;cases h)
def Od:iZ→fU
  | .r0 a b c d=>⟨.tup [.imm .free (.ns .u64 a) 1 1 b c,.int .i64 ((d:Nat):Int)],[]⟩
def akz(a:Lv)(b:Lv) :Nat×(List Int)×Nat×(List Int)×Nat→aC:=fun (c,d,e,f,g)=>⟨ae 20 [(2,.ptr 0 1 0 0),(3,.ptr 1 1 0 0),(6,.int .i64 ((c:Nat):Int))],[(0,.vs [.imm a (.ns .u64 d) 1 1 0 e]),(1,.vs [.imm b (.ns .u64 f) 1 1 0 g])],2⟩
def akA(a:List Int)(b:List Int) :T ((Nat×(List Int)×Nat×(List Int)×Nat)⊕(iZ)) :=
  .ask (decide ((0:Int)<(2:Int)))
    (.need (fp (0:Int) 2)<|.need (aK 0 (List.length a) a)<|.need (ca (ay (aa 0 (List.length a) a)))<|.ask (decide ((((aD (ay (aa 0 (List.length a) a))):Nat):Int)>(4096:Int)))
      (.leaf (.inl (2,(aU (ay (aa 0 (List.length a) a))),(aD (ay (aa 0 (List.length a) a))),b,(List.length b))))
      (.need (cV .i64 (1:Int))<|.ask (decide ((1:Int)<(2:Int)))
        (.need (fp (1:Int) 2)<|.need (aK 0 (List.length b) b)<|.need (ca (ay (aa 0 (List.length b) b)))<|.ask (decide ((((aD (ay (aa 0 (List.length b) b))):Nat):Int)>(4096:Int)))
          (.leaf (.inl (2,(aU (ay (aa 0 (List.length a) a))),(aD (ay (aa 0 (List.length a) a))),(aU (ay (aa 0 (List.length b) b))),(aD (ay (aa 0 (List.length b) b))))))
          (.need (cV .i64 (2:Int))<|.ask (decide ((2:Int)<(2:Int)))
            (.fail)
            (.leaf (.inl (0,(aU (ay (aa 0 (List.length a) a))),(aD (ay (aa 0 (List.length a) a))),(aU (ay (aa 0 (List.length b) b))),(aD (ay (aa 0 (List.length b) b))))))))
        (.fail)))
    (.fail)
def akB(a:Lv)(b:Lv)(c:List Int)(d:Nat)(e:List Int)(f:Nat)(g:Bool) :aC:=⟨ae 20 [(2,.ptr 0 1 0 0),(3,.ptr 1 1 0 0),(16,.bool false g)],[(0,.vs [.imm a (.ns .u64 c) 1 1 0 d]),(1,.vs [.imm b (.ns .u64 e) 1 1 0 f])],2⟩
def akC(e:Nat)(a:List Int)(b:Nat)(c:List Int)(d:Nat) :T ((Bool)⊕(iZ)) :=
  .ask (((e:Nat):Int) != (0:Int))
    (.leaf (.inl true))
    (.need (aK 0 b a)<|.need (aK 0 d c)<|.need (zI (uD (aa 0 b a) (aa 0 d c)))<|.leaf (.inl (decide ((yx (uD (aa 0 b a) (aa 0 d c)))<(0:Int)))))
def akD:(List Int)×Nat×Nat→aC:=fun (a,b,c)=>⟨ae 20 [(4,.imm .free (.ns .u64 a) 1 1 b c),(5,.int .i64 (0:Int))],[],0⟩
def akE(a:List Int)(b:Nat)(c:List Int)(d:Nat)(e:Bool) :T (((List Int)×Nat×Nat)⊕(iZ)) :=
  .ask e
    (.leaf (.inr (.r0 ([]:List Int) 0 0 2)))
    (.need (aK 0 b a)<|.need (aK 0 d c)<|.need (DQ (zf (aa 0 b a) (aa 0 d c)))<|.leaf (.inl ((DT (zf (aa 0 b a) (aa 0 d c))),(DR (zf (aa 0 b a) (aa 0 d c))),(DS (zf (aa 0 b a) (aa 0 d c))))))
def akF(a:List Int)(b:Nat)(c:Nat) :T ((Empty)⊕(iZ)) :=
  .leaf (.inr (.r0 a b c 0))
def bv(e:List Int)(f:List Int) :Option iZ:=jP (aB ((akA e f).run) fun (g,a,b,c,d) =>
  aB ((akC g a b c d).run) fun h =>
  aB ((akE a b c d h).run) fun (i,j,k) =>
  (akF i j k).run)
theorem akG(a:Lv)(b:List Int)(c:Lv)(d:List Int){x:iZ}(h:bv b d=some x) :ai prog N2 [] [.imm a (.ns .u64 b) 1 1 0 (List.length b),.imm c (.ns .u64 d) 1 1 0 (List.length d)] (Od x) :=
  kh true Od aaO h (Sg.cut 2 Kd (bf sB (akz a c) [⟨[],[0,16],[2,3,6]⟩,⟨[],[0,16],[2,3,6]⟩,⟨[],[0,16],[2,3,6]⟩]) (fun ⟨n,e,f,g,i⟩=>Sg.cut 1 Kd (bf sB (akB a c e f g i) [⟨[],[0,1],[2,3,16]⟩,⟨[],[0,1],[2,3,16]⟩]) (fun o=>Sg.cut 2 Kd (bf sB akD [⟨[(.slot 4,.fre 1 1 (.ns .u64 ([]:List Int)))],[],[4,5]⟩,⟨[],[],[4,5]⟩]) (fun ⟨p,q,r⟩=>bf sB kb [⟨[],[],[4,5]⟩]))))
    (fun x=>by cases x with | r0 j k l m=>exact jR [.imm .free (.ns .u64 j) 1 1 k l,.int .i64 ((m:Nat):Int)])
def zL:Option iZ→Bool
  | some _=>true
  | none=>false
def gD:Option iZ→List Int
  | some (.r0 x _ _ _)=>x
  | _=>[]
def gE:Option iZ→Nat
  | some (.r0 _ x _ _)=>x
  | _=>0
def gF:Option iZ→Nat
  | some (.r0 _ _ x _)=>x
  | _=>0
def iH:Option iZ→Nat
  | some (.r0 _ _ _ x)=>x
  | _=>0
theorem akH{x:Option iZ}(h:zL x=true) :x=some (.r0 (gD x) (gE x) (gF x) (iH x)):=by
  unfold zL at h
  split at h<;>first | rfl | (cases h;done) | (rename_i y;cases y;rfl)
def aaP:ax:=bx N2 (.cons (.ns .u64) (.cons (.ns .u64) .nil)) fun t=>(fun q=>[⟨Od (.r0 (gD q) (gE q) (gF q) (iH q)),[zL q]⟩]) (bv t.1.2 t.2.1.2)
theorem acy:aI prog aaP:=aE fun t=>(aF (fun h=>akG t.1.1 t.1.2 t.2.1.1 t.2.1.2 (akH h)) aQ)
def aaQ:List ax:=aaP::aaN
theorem sC:aJ prog (aG aaQ):=aj acy sB
inductive jI where
  | r0 (a:Int) (b:List Int)
def HW:jI→AE×aC
  | .r0 a b=>(.ret,⟨ae 52 [(6,.int .u64 a)],[(0,.ns .u64 b)],1⟩)
theorem DU:jm HW:=by intro x;cases x<;>(intro h;cases h)
theorem akI(id:Nat) :lD id HW:=by intro x;cases x<;>(intro h;cases h)
def Oe:jI→fU
  | .r0 a b=>⟨.int .u64 a,[some (.ns .u64 b)]⟩
def aht:List Code:=cp (md HI)
def akJ(b:List Int)(c:Nat)(d:Nat)(e:Nat)(f:Lv)(a:List Int)(g:Int)(_:Unit) :aC:=⟨ae 52 [(0,.sl 0 1 1 c d e),(1,.imm f (.ns .u64 a) 1 1 0 (List.length a)),(2,.int .u64 g),(7,.int .u64 (0:Int)),(13,.int .i64 (((List.length a):Nat):Int)),(14,.int .i64 (0:Int))],[(0,.ns .u64 b)],1⟩
def ahu:T ((Unit)⊕(jI)) :=
  .leaf (.inl ())
def DV(b:Nat)(c:Nat)(d:Nat)(e:Lv)(a:List Int)(f:Int) :Int×Nat×(List Int)→aC:=fun (g,h,i)=>⟨ae 52 [(0,.sl 0 1 1 b c d),(1,.imm e (.ns .u64 a) 1 1 0 (List.length a)),(2,.int .u64 f),(7,.int .u64 g),(13,.int .i64 (((List.length a):Nat):Int)),(14,.int .i64 ((h:Nat):Int))],[(0,.ns .u64 i)],1⟩
def T6:Int×(List Int)→aC:=fun (a,b)=>⟨ae 52 [(7,.int .u64 a)],[(0,.ns .u64 b)],1⟩
def ahv:List Code:=cp (dg ((((aht.drop 3).take 1)).headD .skip))
def akK(b:Nat)(c:Nat)(d:Nat)(e:Lv)(a:List Int)(f:Int)(g:Nat) :Int×(List Int)→aC:=fun (h,i)=>⟨ae 52 [(0,.sl 0 1 1 b c d),(1,.imm e (.ns .u64 a) 1 1 0 (List.length a)),(2,.int .u64 f),(7,.int .u64 h),(13,.int .i64 (((List.length a):Nat):Int)),(14,.int .i64 ((g:Nat):Int))],[(0,.ns .u64 i)],1⟩
def wI(d:Nat)(g:Nat)(b:List Int)(e:Int)(f:Int)(a:Nat)(c:List Int) :T ((Int×(List Int))⊕((Int×(List Int))⊕(jI))) :=
  .ask (decide (((a:Nat):Int)<(((List.length b):Nat):Int)))
    (.need (fp ((a:Nat):Int) (List.length b))<|.need (fO a (List.length b))<|.need (jS (fu (List.getD b a 0) e))<|.need (mQ 0 1)<|.need (fp ((a:Nat):Int) g)<|.need (fO (gw d a) (List.length c))<|.need (mQ 0 1)<|.need (fp ((a:Nat):Int) g)<|.need (fO (gw d a) (List.length c))<|.leaf (.inl ((IntKind.u64.wrap ((IntKind.u64.wrap ((kD (fu (List.getD b a 0) e))+(((((Int.toNat (gd (fu (List.getD b a 0) e)))+(Int.toNat f)+0)/18446744073709551616):Nat):Int)))+(((((Int.toNat (List.getD c (gw d a) 0))+(((Int.toNat (gd (fu (List.getD b a 0) e)))+(Int.toNat f)+0)%18446744073709551616)+0)/18446744073709551616):Nat):Int))),(List.set c (gw d a) (((((Int.toNat (List.getD c (gw d a) 0))+(((Int.toNat (gd (fu (List.getD b a 0) e)))+(Int.toNat f)+0)%18446744073709551616)+0)%18446744073709551616):Nat):Int)))))
    (.leaf (.inr (.inl (f,c))))
def ahw(a:Nat)(b:Int)(c:List Int) :T ((Int×Nat×(List Int))⊕((Int×(List Int))⊕(jI))) :=
  .need (cV .i64 (((a+1):Nat):Int))<|.leaf (.inl (b,(a+1),c))
def Gq(b:Nat)(c:Nat)(d:List Int)(e:Int) :Int×Nat×(List Int)→Option ((Int×Nat×(List Int))⊕((Int×(List Int))⊕(jI))):=fun (f,a,g) =>
  aB ((wI b c d e f a g).run) fun (h,i) =>
  (ahw a h i).run
theorem ahx(j:List Int)(a:Nat)(b:Nat)(e:Nat)(f:Lv)(c:List Int)(d:Int)(h:Int)(g:Nat)(i:List Int) :Sg prog [.ns .u64 j] ahv (DV a b e f c d (h,g,i)) (Gq a b c d (h,g,i)) (DV a b e f c d) (cN 0 T6 HW):=by
  unfold Gq;exact Sg.cut 3 (aW DU) (bf sC (akK a b e f c d g) [⟨[],[0],[0,1,2,7,13,14]⟩,⟨[],[0],[7]⟩]) (fun ⟨k,l⟩=>bf sC (DV a b e f c d) [⟨[],[0],[0,1,2,7,13,14]⟩])
def ahy(a:Int)(b:List Int) :T ((Empty)⊕(jI)) :=
  .leaf (.inr (.r0 a b))
def uF(a:List Int)(b:Nat)(c:Nat)(d:List Int)(e:Int) :Option jI:=jP (aB ((ahu).run) fun _ =>
  aB (cU (Gq b c d e) ((0:Int),0,a)) fun (f,g) =>
  (ahy f g).run)
theorem akL(e:List Int)(b:Nat)(c:Nat)(f:Nat)(g:Lv)(a:List Int)(d:Int){x:jI}(h:uF e b c a d=some x) :ai prog HI [.ns .u64 e] [.sl 0 1 1 b c f,.imm g (.ns .u64 a) 1 1 0 (List.length a),.int .u64 d] (Oe x) :=
  kh false Oe HW h (Sg.cut 3 DU (bf sC (akJ e b c f g a d) [⟨[],[0],[0,1,2,7,13,14]⟩]) (fun _=>Sg.cut 1 DU (DG ⟨[],[0],[0,1,2,7,13,14]⟩ (DV b c f g a d) (T6) 0 DU (akI _) (fun ⟨i,j,k⟩=>ahx e b c f g a d i j k)) (fun ⟨m,n⟩=>bf sC kb [⟨[],[0],[6]⟩])))
    (fun x=>by cases x with | r0 l o=>exact jR [.int .u64 l])
def zM:Option jI→Bool
  | some _=>true
  | none=>false
def yA:Option jI→Int
  | some (.r0 x _)=>x
  | _=>0
def sD:Option jI→List Int
  | some (.r0 _ x)=>x
  | _=>[]
theorem akM{x:Option jI}(h:zM x=true) :x=some (.r0 (yA x) (sD x)):=by
  unfold zM at h
  split at h<;>first | rfl | (cases h;done) | (rename_i y;cases y;rfl)
def aaR:ax:=agu HI [.ns .u64] (.cons (.lsl 0) (.cons (.ns .u64) (.cons (.int .u64) .nil))) fun x t=>(fun q=>[⟨Oe (.r0 (yA q) (sD q)),[zM q]⟩]) (uF x.1 t.1.1 t.1.2.1 t.2.1.2 t.2.2.1)
theorem acz:aI prog aaR:=Tz fun x t=>(HO (fun h=>akL x.1 t.1.1 t.1.2.1 t.1.2.2 t.2.1.1 t.2.1.2 t.2.2.1 (akM h)) TA)
def aaS:List ax:=aaR::aaQ
theorem kE:aJ prog (aG aaS):=aj acz sC
inductive eR where
  | r0 (a:Nat) (b:Nat) (c:Nat) (d:Nat) (e:List Int)
def HX:eR→AE×aC
  | .r0 a b c d e=>(.ret,⟨ae 61 [(4,.sl 0 1 1 a b c),(5,.int .i64 ((d:Nat):Int))],[(0,.ns .u64 e)],1⟩)
theorem rz:jm HX:=by intro x;cases x<;>(intro h;cases h)
theorem akN(id:Nat) :lD id HX:=by intro x;cases x<;>(intro h;cases h)
def Of:eR→fU
  | .r0 a b e c d=>⟨.tup [.imm .free (.ns .u64 d) 1 1 a b,.int .i64 ((c:Nat):Int)],[]⟩
def ahz:List Code:=cp (md HH)
def akO(a:Lv)(b:Lv) :Nat×(List Int)×Nat×(List Int)×Nat→aC:=fun (c,d,e,f,g)=>⟨ae 61 [(2,.ptr 0 1 0 0),(3,.ptr 1 1 0 0),(6,.int .i64 ((c:Nat):Int))],[(0,.vs [.imm a (.ns .u64 d) 1 1 0 e]),(1,.vs [.imm b (.ns .u64 f) 1 1 0 g])],2⟩
def Ps(a : List Int)(b : List Int) : T ((Nat × (List Int) × Nat × (List Int) × Nat) ⊕ (eR)) :=
  .ask (decide ((0:Int)<(2:Int)))
    (.need (fp (0:Int) 2)<|.need (aK 0 (List.length a) a)<|.need (ca (ay (aa 0 (List.length a) a)))<|.ask (decide ((((aD (ay (aa 0 (List.length a) a))):Nat):Int)>(4096:Int)))
      (.leaf (.inl (2,(aU (ay (aa 0 (List.length a) a))),(aD (ay (aa 0 (List.length a) a))),b,(List.length b))))
      (.need (cV .i64 (1:Int))<|.ask (decide ((1:Int)<(2:Int)))
        (.need (fp (1:Int) 2)<|.need (aK 0 (List.length b) b)<|.need (ca (ay (aa 0 (List.length b) b)))<|.ask (decide ((((aD (ay (aa 0 (List.length b) b))):Nat):Int)>(4096:Int)))
          (.leaf (.inl (2,(aU (ay (aa 0 (List.length a) a))),(aD (ay (aa 0 (List.length a) a))),(aU (ay (aa 0 (List.length b) b))),(aD (ay (aa 0 (List.length b) b))))))
          (.need (cV .i64 (2:Int))<|.ask (decide ((2:Int)<(2:Int)))
            (.fail)
            (.leaf (.inl (0,(aU (ay (aa 0 (List.length a) a))),(aD (ay (aa 0 (List.length a) a))),(aU (ay (aa 0 (List.length b) b))),(aD (ay (aa 0 (List.length b) b))))))))
        (.fail)))
    (.fail)
def akP(a:Lv)(b:Lv)(c:List Int)(d:Nat)(e:List Int)(f:Nat)(g:Bool) :aC:=⟨ae 61 [(2,.ptr 0 1 0 0),(3,.ptr 1 1 0 0),(29,.bool false g)],[(0,.vs [.imm a (.ns .u64 c) 1 1 0 d]),(1,.vs [.imm b (.ns .u64 e) 1 1 0 f])],2⟩
def ahA(c:Nat)(a:Nat)(b:Nat) :T ((Bool)⊕(eR)) :=
  .ask (((c:Nat):Int) != (0:Int))
    (.leaf (.inr (.r0 0 0 0 c ([]:List Int))))
    (.need (cV .i64 (((a+b):Nat):Int))<|.ask (decide ((((a+b):Nat):Int)>(4097:Int)))
      (.ask (decide (((a:Nat):Int)>(0:Int)))
        (.leaf (.inl (decide (((b:Nat):Int)>(0:Int)))))
        (.leaf (.inl false)))
      (.leaf (.inl false)))
def akQ(c:Lv)(d:Lv)(e:List Int)(f:Nat)(g:List Int)(a:Nat) :Nat×(List Int)→aC:=fun (b,h)=>⟨ae 61 [(2,.ptr 0 1 0 0),(3,.ptr 1 1 0 0),(7,.sl 2 1 1 0 b b),(37,.int .i64 ((a:Nat):Int)),(38,.int .i64 (0:Int))],[(0,.vs [.imm c (.ns .u64 e) 1 1 0 f]),(1,.vs [.imm d (.ns .u64 g) 1 1 0 a]),(2,.ns .u64 h)],3⟩
def Pt(a:Nat)(b:Nat)(c:Bool) :T ((Nat×(List Int))⊕(eR)) :=
  .ask c
    (.leaf (.inr (.r0 0 0 0 3 ([]:List Int))))
    (.need (cV .i64 (((a+b):Nat):Int))<|.need (decide ((0:Int)≤(((a+b):Nat):Int)))<|.need (decide ((((a+b):Nat):Int)≤(((a+b):Nat):Int)))<|.need (decide ((8:Int)*(((a+b):Nat):Int)≤140737488355328))<|.need (cV .i64 (((a+b):Nat):Int))<|.leaf (.inl ((a+b),(List.replicate (a+b) (0:Int)))))
def DW(c:Lv)(d:Lv)(e:List Int)(f:Nat)(g:List Int)(a:Nat)(b:Nat) :Nat×(List Int)→aC:=fun (h,i)=>⟨ae 61 [(2,.ptr 0 1 0 0),(3,.ptr 1 1 0 0),(7,.sl 2 1 1 0 b b),(37,.int .i64 ((a:Nat):Int)),(38,.int .i64 ((h:Nat):Int))],[(0,.vs [.imm c (.ns .u64 e) 1 1 0 f]),(1,.vs [.imm d (.ns .u64 g) 1 1 0 a]),(2,.ns .u64 i)],3⟩
def T7(a:Nat)(b:(List Int)) :aC:=⟨ae 61 [(7,.sl 0 1 1 0 a a)],[(0,.ns .u64 b)],1⟩
def ahB:List Code:=cp (dg ((((((ahz.drop 2).drop 3).drop 3).take 1)).headD .skip))
def akR(c:Lv)(d:Lv)(e:List Int)(f:Nat)(g:List Int)(a:Nat)(b:Nat)(h:Nat)(i:(List Int)) :aC:=⟨ae 61 [(2,.ptr 0 1 0 0),(3,.ptr 1 1 0 0),(7,.sl 2 1 1 0 b b),(37,.int .i64 ((a:Nat):Int)),(38,.int .i64 ((h:Nat):Int))],[(0,.vs [.imm c (.ns .u64 e) 1 1 0 f]),(1,.vs [.imm d (.ns .u64 g) 1 1 0 a]),(2,.ns .u64 i)],3⟩
def Gr(d:List Int)(b:Nat)(e:List Int)(g:Nat)(c:Nat)(a:Nat)(f:List Int) :T (((List Int))⊕(((List Int))⊕(eR))) :=
  .ask (decide (((a:Nat):Int)<((g:Nat):Int)))
    (.need (cV .i64 (((a+b):Nat):Int))<|.need (CE ((c:Nat):Int) c)<|.need (CE ((a:Nat):Int) c)<|.need (fp ((a:Nat):Int) g)<|.need (fO a (List.length e))<|.need (aK 0 b d)<|.need (zM (uF f a (c-a) (aa 0 b d) (List.getD e a 0)))<|.need (fp (((a+b):Nat):Int) c)<|.need (fO (a+b) (List.length (sD (uF f a (c-a) (aa 0 b d) (List.getD e a 0)))))<|.leaf (.inl (List.set (sD (uF f a (c-a) (aa 0 b d) (List.getD e a 0))) (a+b) (yA (uF f a (c-a) (aa 0 b d) (List.getD e a 0))))))
    (.leaf (.inr (.inl f)))
def ahC(a:Nat)(b:List Int) :T ((Nat×(List Int))⊕(((List Int))⊕(eR))) :=
  .need (cV .i64 (((a+1):Nat):Int))<|.leaf (.inl ((a+1),b))
def Gs(b:List Int)(c:Nat)(d:List Int)(e:Nat)(f:Nat) :Nat×(List Int)→Option ((Nat×(List Int))⊕(((List Int))⊕(eR))):=fun (a,g) =>
  aB ((Gr b c d e f a g).run) fun h =>
  (ahC a h).run
theorem ahD(f:Lv)(g:Lv)(b:List Int)(c:Nat)(d:List Int)(e:Nat)(a:Nat)(h:Nat)(i:List Int) :Sg prog [] ahB (DW f g b c d e a (h,i)) (Gs b c d e a (h,i)) (DW f g b c d e a) (cN 0 (T7 a) HX):=by
  unfold Gs;exact Sg.cut 3 (aW rz) (bf kE (akR f g b c d e a h) [⟨[],[0,1,2],[2,3,7,37,38]⟩,⟨[],[2],[7]⟩]) (fun j=>bf kE (DW f g b c d e a) [⟨[],[0,1,2],[2,3,7,37,38]⟩])
def ahE:Nat×Nat×Nat×Nat×(List Int)→aC:=fun (a,b,c,d,e)=>⟨ae 61 [(4,.sl 0 1 1 a b c),(5,.int .i64 ((d:Nat):Int))],[(0,.ns .u64 e)],1⟩
def Pu(a:Nat)(b:List Int) :T ((Nat×Nat×Nat×Nat×(List Int))⊕(eR)) :=
  .alt 0
    (.need (wG (fW b 0 a a))<|.leaf (.inl (0,0,0,3,([]:List Int))))
    (.alt 1
      (.need (wH (fW b 0 a a))<|.leaf (.inl ((vz (fW b 0 a a)),(vA (fW b 0 a a)),(vB (fW b 0 a a)),0,(vC (fW b 0 a a)))))
      (.fail))
def ahF(a:Nat)(b:Nat)(c:Nat)(d:Nat)(e:List Int) :T ((Empty)⊕(eR)) :=
  .leaf (.inr (.r0 a b c d e))
def rO(d:List Int)(e:List Int) :Option eR:=jP (aB ((Ps d e).run) fun (f,g,a,h,b) =>
  aB ((ahA f a b).run) fun i =>
  aB ((Pt a b i).run) fun (c,j) =>
  aB (cU (Gs g a h b c) (0,j)) fun k =>
  aB ((Pu c k).run) fun (l,m,n,o,p) =>
  (ahF l m n o p).run)
theorem akS(a:Lv)(g:List Int)(b:Lv)(i:List Int){x:eR}(h:rO g i=some x) :ai prog HH [] [.imm a (.ns .u64 g) 1 1 0 (List.length g),.imm b (.ns .u64 i) 1 1 0 (List.length i)] (Of x) :=
  kh true Of HX h (Sg.cut 2 rz (bf kE (akO a b) [⟨[],[0,16],[2,3,6]⟩,⟨[],[0,16],[2,3,6]⟩,⟨[],[0,16],[2,3,6]⟩]) (fun ⟨q,c,d,e,f⟩=>Sg.cut 3 rz (bf kE (akP a b c d e f) [⟨[(.slot 4,.own 1 1 (.ns .u64 ([]:List Int)))],[82],[4,5]⟩,⟨[],[0,1],[2,3,29]⟩,⟨[],[0,1],[2,3,29]⟩,⟨[],[0,1],[2,3,29]⟩]) (fun r=>Sg.cut 3 rz (bf kE (akQ a b c d e f) [⟨[(.slot 4,.own 1 1 (.ns .u64 ([]:List Int)))],[34],[4,5]⟩,⟨[],[0,1,82],[2,3,7,37,38]⟩]) (fun ⟨j,s⟩=>Sg.cut 1 rz (DG ⟨[],[0,1,2],[2,3,7,37,38]⟩ (DW a b c d e f j) (T7 j) 0 rz (akN _) (fun ⟨k,l⟩=>ahD a b c d e f j k l)) (fun t=>Sg.cut 1 rz (bf kE ahE [⟨[(.slot 4,.own 1 1 (.ns .u64 ([]:List Int)))],[97],[4,5]⟩,⟨[],[0],[4,5]⟩]) (fun ⟨u,v,w,y,z⟩=>bf kE kb [⟨[],[0],[4,5]⟩]))))))
    (fun x=>by cases x with | r0 m n o p A=>exact jR [.sl 0 1 1 m n o,.int .i64 ((p:Nat):Int)])
def DX:Option eR→Bool
  | some _=>true
  | none=>false
def DY:Option eR→Nat
  | some (.r0 x _ _ _ _)=>x
  | _=>0
def DZ:Option eR→Nat
  | some (.r0 _ x _ _ _)=>x
  | _=>0
def LL:Option eR→Nat
  | some (.r0 _ _ x _ _)=>x
  | _=>0
def D0:Option eR→Nat
  | some (.r0 _ _ _ x _)=>x
  | _=>0
def D1:Option eR→List Int
  | some (.r0 _ _ _ _ x)=>x
  | _=>[]
theorem akT{x:Option eR}(h:DX x=true) :x=some (.r0 (DY x) (DZ x) (LL x) (D0 x) (D1 x)):=by
  unfold DX at h
  split at h<;>first | rfl | (cases h;done) | (rename_i y;cases y;rfl)
def aaT:ax:=bx HH (.cons (.ns .u64) (.cons (.ns .u64) .nil)) fun t=>(fun q=>[⟨Of (.r0 (DY q) (DZ q) (LL q) (D0 q) (D1 q)),[DX q]⟩]) (rO t.1.2 t.2.1.2)
theorem acA:aI prog aaT:=aE fun t=>(aF (fun h=>akS t.1.1 t.1.2 t.2.1.1 t.2.1.2 (akT h)) aQ)
def aaU:List ax:=aaT::aaS
theorem oV:aJ prog (aG aaU):=aj acA kE
inductive gX where
  | r0 (a:Nat) (b:Nat) (c:Nat) (d:List Int)
def HY:gX→AE×aC
  | .r0 a b c d=>(.ret,⟨ae 59 [(4,.sl 0 1 1 a b c)],[(0,.ns .u64 d)],1⟩)
theorem zN:jm HY:=by intro x;cases x<;>(intro h;cases h)
theorem akU(id:Nat) :lD id HY:=by intro x;cases x<;>(intro h;cases h)
def Og:gX→fU
  | .r0 a b d c=>⟨.imm .free (.ns .u64 c) 1 1 a b,[]⟩
def akV:List Code:=cp (md HL)
def akW(c:Lv)(a:List Int) :Int×Int×Nat×(List Int)→aC:=fun (d,r2,b,e)=>⟨ae 59 [(0,.imm c (.ns .u64 a) 1 1 0 (List.length a)),(5,.int .i64 d),(6,.int .u64 r2),(7,.sl 0 1 1 0 b b),(24,.int .i64 (((List.length a):Nat):Int)),(25,.int .i64 (0:Int))],[(0,.ns .u64 e)],1⟩
def Pv(b:List Int)(a:Int) :T ((Int×Int×Nat×(List Int))⊕(gX)) :=
  .ask ((((List.length b):Nat):Int)==(0:Int))
    (.leaf (.inr (.r0 0 0 0 ([]:List Int))))
    (.need ((64:Int) != (0:Int))<|.need (cV .i64 (Int.tdiv a (64:Int)))<|.need ((64:Int) != (0:Int))<|.need (cV .i64 ((((List.length b):Nat):Int)+(Int.tdiv a (64:Int))))<|.need (cV .i64 (((((List.length b):Nat):Int)+(Int.tdiv a (64:Int)))+(1:Int)))<|.need (decide ((0:Int)≤(((((List.length b):Nat):Int)+(Int.tdiv a (64:Int)))+(1:Int))))<|.need (decide ((((((List.length b):Nat):Int)+(Int.tdiv a (64:Int)))+(1:Int))≤(((((List.length b):Nat):Int)+(Int.tdiv a (64:Int)))+(1:Int))))<|.need (decide ((8:Int)*(((((List.length b):Nat):Int)+(Int.tdiv a (64:Int)))+(1:Int))≤140737488355328))<|.need (cV .i64 (((((List.length b):Nat):Int)+(Int.tdiv a (64:Int)))+(1:Int)))<|.leaf (.inl ((Int.tdiv a (64:Int)),(IntKind.u64.wrap (Int.tmod a (64:Int))),(Int.toNat (((((List.length b):Nat):Int)+(Int.tdiv a (64:Int)))+(1:Int))),(List.replicate (Int.toNat (((((List.length b):Nat):Int)+(Int.tdiv a (64:Int)))+(1:Int))) (0:Int)))))
def D2(c:Lv)(a:List Int)(d:Int)(r2:Int)(b:Nat) :Nat×(List Int)→aC:=fun (e,f)=>⟨ae 59 [(0,.imm c (.ns .u64 a) 1 1 0 (List.length a)),(5,.int .i64 d),(6,.int .u64 r2),(7,.sl 0 1 1 0 b b),(24,.int .i64 (((List.length a):Nat):Int)),(25,.int .i64 ((e:Nat):Int))],[(0,.ns .u64 f)],1⟩
def T8(a:Nat)(b:(List Int)) :aC:=⟨ae 59 [(7,.sl 0 1 1 0 a a)],[(0,.ns .u64 b)],1⟩
def ahG:List Code:=cp (dg ((((akV.drop 6).take 1)).headD .skip))
def akX(c:Lv)(a:List Int)(d:Int)(r2:Int)(b:Nat)(e:Nat)(f:(List Int)) :aC:=⟨ae 59 [(0,.imm c (.ns .u64 a) 1 1 0 (List.length a)),(5,.int .i64 d),(6,.int .u64 r2),(7,.sl 0 1 1 0 b b),(24,.int .i64 (((List.length a):Nat):Int)),(25,.int .i64 ((e:Nat):Int))],[(0,.ns .u64 f)],1⟩
def A6(c:List Int)(b:Int)(r2:Int)(e:Nat)(a:Nat)(d:List Int) :T (((List Int))⊕(((List Int))⊕(gX))) :=
  .ask (decide (((a:Nat):Int)<(((List.length c):Nat):Int)))
    (.need (cV .i64 (((a:Nat):Int)+b))<|.need (fp (((a:Nat):Int)+b) e)<|.need (fO (Int.toNat (((a:Nat):Int)+b)) (List.length d))<|.need (fp ((a:Nat):Int) (List.length c))<|.need (fO a (List.length c))<|.need (decide ((0:Int)≤r2))<|.need (fp (((a:Nat):Int)+b) e)<|.need (fO (Int.toNat (((a:Nat):Int)+b)) (List.length d))<|.need (cV .i64 (((a:Nat):Int)+b))<|.need (cV .i64 ((((a:Nat):Int)+b)+(1:Int)))<|.need (fp ((a:Nat):Int) (List.length c))<|.need (fO a (List.length c))<|.need (decide ((0:Int)≤(1:Int)))<|.need (decide ((0:Int)≤(IntKind.u64.wrap ((63:Int)-r2))))<|.need (fp ((((a:Nat):Int)+b)+(1:Int)) e)<|.need (fO (Int.toNat ((((a:Nat):Int)+b)+(1:Int))) (List.length (List.set d (Int.toNat (((a:Nat):Int)+b)) (cq .or .u64 (List.getD d (Int.toNat (((a:Nat):Int)+b)) 0) (IntKind.u64.wrap ((List.getD c a 0)*2^(min (Int.toNat r2) (IntKind.u64.bits))))))))<|.leaf (.inl (List.set (List.set d (Int.toNat (((a:Nat):Int)+b)) (cq .or .u64 (List.getD d (Int.toNat (((a:Nat):Int)+b)) 0) (IntKind.u64.wrap ((List.getD c a 0)*2^(min (Int.toNat r2) (IntKind.u64.bits)))))) (Int.toNat ((((a:Nat):Int)+b)+(1:Int))) (Int.fdiv (Int.fdiv (List.getD c a 0) (2^(min (Int.toNat (1:Int)) (IntKind.u64.bits)))) (2^(min (Int.toNat (IntKind.u64.wrap ((63:Int)-r2))) (IntKind.u64.bits)))))))
    (.leaf (.inr (.inl d)))
def ahH(a:Nat)(b:List Int) :T ((Nat×(List Int))⊕(((List Int))⊕(gX))) :=
  .need (cV .i64 (((a+1):Nat):Int))<|.leaf (.inl ((a+1),b))
def Gt(b:List Int)(c:Int)(r2:Int)(d:Nat) :Nat×(List Int)→Option ((Nat×(List Int))⊕(((List Int))⊕(gX))):=fun (a,e) =>
  aB ((A6 b c r2 d a e).run) fun f =>
  (ahH a f).run
theorem ahI(d:Lv)(b:List Int)(c:Int)(r2:Int)(a:Nat)(e:Nat)(f:List Int) :Sg prog [] ahG (D2 d b c r2 a (e,f)) (Gt b c r2 a (e,f)) (D2 d b c r2 a) (cN 0 (T8 a) HY):=by
  unfold Gt;exact Sg.cut 3 (aW zN) (bf oV (akX d b c r2 a e) [⟨[],[0],[0,5,6,7,24,25]⟩,⟨[],[0],[7]⟩]) (fun g=>bf oV (D2 d b c r2 a) [⟨[],[0],[0,5,6,7,24,25]⟩])
def akY:Nat×Nat×Nat×(List Int)→aC:=fun (a,b,c,d)=>⟨ae 59 [(4,.sl 0 1 1 a b c)],[(0,.ns .u64 d)],1⟩
def Pw(a:Nat)(b:List Int) :T ((Nat×Nat×Nat×(List Int))⊕(gX)) :=
  .need (iR (bk b 0 a a))<|.leaf (.inl ((ip (bk b 0 a a)),(iq (bk b 0 a a)),(ir (bk b 0 a a)),(iu (bk b 0 a a))))
def ahJ(a:Nat)(b:Nat)(c:Nat)(d:List Int) :T ((Empty)⊕(gX)) :=
  .leaf (.inr (.r0 a b c d))
def eS(a:List Int)(c:Int) :Option gX:=jP (aB ((Pv a c).run) fun (d,r2,b,e) =>
  aB (cU (Gt a d r2 b) (0,e)) fun f =>
  aB ((Pw b f).run) fun (g,h,i,j) =>
  (ahJ g h i j).run)
theorem akZ(b:Lv)(a:List Int)(d:Int){x:gX}(h:eS a d=some x) :ai prog HL [] [.imm b (.ns .u64 a) 1 1 0 (List.length a),.int .i64 d] (Og x) :=
  kh true Og HY h (Sg.cut 6 zN (bf oV (akW b a) [⟨[(.slot 4,.own 1 1 (.ns .u64 ([]:List Int)))],[80],[4]⟩,⟨[],[256],[0,5,6,7,24,25]⟩]) (fun ⟨e,r2,c,l⟩=>Sg.cut 1 zN (DG ⟨[],[0],[0,5,6,7,24,25]⟩ (D2 b a e r2 c) (T8 c) 0 zN (akU _) (fun ⟨f,g⟩=>ahI b a e r2 c f g)) (fun m=>Sg.cut 1 zN (bf oV akY [⟨[],[0],[4]⟩]) (fun ⟨n,o,p,q⟩=>bf oV kb [⟨[],[0],[4]⟩]))))
    (fun x=>by cases x with | r0 i j k r=>exact jR [.sl 0 1 1 i j k])
def zO:Option gX→Bool
  | some _=>true
  | none=>false
def kF:Option gX→Nat
  | some (.r0 x _ _ _)=>x
  | _=>0
def kG:Option gX→Nat
  | some (.r0 _ x _ _)=>x
  | _=>0
def LM:Option gX→Nat
  | some (.r0 _ _ x _)=>x
  | _=>0
def kH:Option gX→List Int
  | some (.r0 _ _ _ x)=>x
  | _=>[]
theorem ak0{x:Option gX}(h:zO x=true) :x=some (.r0 (kF x) (kG x) (LM x) (kH x)):=by
  unfold zO at h
  split at h<;>first | rfl | (cases h;done) | (rename_i y;cases y;rfl)
def aaV:ax:=bx HL (.cons (.ns .u64) (.cons (.int .i64) .nil)) fun t=>(fun q=>[⟨Og (.r0 (kF q) (kG q) (LM q) (kH q)),[zO q]⟩]) (eS t.1.2 t.2.1)
theorem acB:aI prog aaV:=aE fun t=>(aF (fun h=>akZ t.1.1 t.1.2 t.2.1 (ak0 h)) aQ)
def aaW:List ax:=aaV::aaU
theorem D3:aJ prog (aG aaW):=aj acB oV
inductive fF where
  | r0 (a:List Int) (b:Nat) (c:Nat)
def IC(a:Lv) :fF→AE×aC
  | .r0 b c d=>(.ret,⟨ae 10 [(2,.imm a (.ns .u64 b) 1 1 0 c),(3,.int .i64 ((d:Nat):Int))],[],0⟩)
theorem T9{a:Lv} :jm (IC a):=by intro x;cases x<;>(intro h;cases h)
def BM(a:Lv) :fF→fU
  | .r0 b c d=>⟨.tup [.imm a (.ns .u64 b) 1 1 0 c,.int .i64 ((d:Nat):Int)],[]⟩
def Ua(a:Lv) :(List Int)×Nat→aC:=fun (b,c)=>⟨ae 10 [(0,.imm a (.ns .u64 b) 1 1 0 c)],[],0⟩
def Gu(a:List Int) :T (((List Int)×Nat)⊕(fF)) :=
  .need (aK 0 (List.length a) a)<|.need (ca (ay (aa 0 (List.length a) a)))<|.leaf (.inl ((aU (ay (aa 0 (List.length a) a))),(aD (ay (aa 0 (List.length a) a)))))
def Ub(b:List Int)(a:Nat) :T ((Empty)⊕(fF)) :=
  .ask (decide (((a:Nat):Int)>(4096:Int)))
    (.leaf (.inr (.r0 ([]:List Int) 0 3)))
    (.leaf (.inr (.r0 b a 0)))
def ld(a:List Int) :Option fF:=jP (aB ((Gu a).run) fun (b,c) =>
  (Ub b c).run)
theorem Uc(a:Lv)(b:List Int){x:fF}(h:ld b=some x) :ai prog zA [] [.imm a (.ns .u64 b) 1 1 0 (List.length b)] (BM a x) :=
  kh false (BM a) (IC a) h (Sg.cut 2 T9 (bf D3 (Ua a) [⟨[],[],[0]⟩]) (fun ⟨f,g⟩=>bf D3 kb [⟨[(.slot 2,.fre 1 1 (.ns .u64 ([]:List Int))),(.slot 2,.lev a)],[],[2,3]⟩,⟨[],[],[2,3]⟩]))
    (fun x=>by cases x with | r0 c d e=>exact jR [.imm a (.ns .u64 c) 1 1 0 d,.int .i64 ((e:Nat):Int)])
def sE:Option fF→Bool
  | some _=>true
  | none=>false
def uG:Option fF→List Int
  | some (.r0 x _ _)=>x
  | _=>[]
def uH:Option fF→Nat
  | some (.r0 _ x _)=>x
  | _=>0
def uI:Option fF→Nat
  | some (.r0 _ _ x)=>x
  | _=>0
theorem Ud{x:Option fF}(h:sE x=true) :x=some (.r0 (uG x) (uH x) (uI x)):=by
  unfold sE at h
  split at h<;>first | rfl | (cases h;done) | (rename_i y;cases y;rfl)
def ID:ax:=bx zA (.cons (.ns .u64) .nil) fun t=>(fun q=>[⟨BM t.1.1 (.r0 (uG q) (uH q) (uI q)),[sE q]⟩]) (ld t.1.2)
theorem Oh:aI prog ID:=aE fun t=>(aF (fun h=>Uc t.1.1 t.1.2 (Ud h)) aQ)
def IE:List ax:=ID::aaW
theorem lH:aJ prog (aG IE):=aj Oh D3
inductive jJ where
  | r0 (a:List Int) (b:Nat) (c:Nat)
def aaX:jJ→AE×aC
  | .r0 a b c=>(.ret,⟨ae 30 [(4,.imm .free (.ns .u64 a) 1 1 0 b),(5,.int .i64 ((c:Nat):Int))],[],0⟩)
theorem Ke:jm aaX:=by intro x;cases x<;>(intro h;cases h)
def Oi:jJ→fU
  | .r0 a b c=>⟨.tup [.imm .free (.ns .u64 a) 1 1 0 b,.int .i64 ((c:Nat):Int)],[]⟩
def ak1(a:Lv)(b:Int) :Nat×(List Int)×Nat→aC:=fun (c,d,e)=>⟨ae 30 [(1,.int .i64 b),(2,.ptr 0 1 0 0),(6,.int .i64 ((c:Nat):Int))],[(0,.vs [.imm a (.ns .u64 d) 1 1 0 e])],1⟩
def Ue(a:List Int) :T ((Nat×(List Int)×Nat)⊕(jJ)) :=
  .ask (decide ((0:Int)<(1:Int)))
    (.need (fp (0:Int) 1)<|.need (aK 0 (List.length a) a)<|.need (ca (ay (aa 0 (List.length a) a)))<|.ask (decide ((((aD (ay (aa 0 (List.length a) a))):Nat):Int)>(4096:Int)))
      (.leaf (.inl (2,(aU (ay (aa 0 (List.length a) a))),(aD (ay (aa 0 (List.length a) a))))))
      (.need (cV .i64 (1:Int))<|.ask (decide ((1:Int)<(1:Int)))
        (.fail)
        (.leaf (.inl (0,(aU (ay (aa 0 (List.length a) a))),(aD (ay (aa 0 (List.length a) a))))))))
    (.fail)
def ak2(a:Lv)(b:Int)(c:List Int)(d:Nat)(_:Unit) :aC:=⟨ae 30 [(1,.int .i64 b),(2,.ptr 0 1 0 0)],[(0,.vs [.imm a (.ns .u64 c) 1 1 0 d])],1⟩
def ak3(a:Int)(b:Nat)(c:Nat) :T ((Unit)⊕(jJ)) :=
  .ask (((b:Nat):Int) != (0:Int))
    (.leaf (.inr (.r0 ([]:List Int) 0 2)))
    (.ask (decide (a<(0:Int)))
      (.leaf (.inr (.r0 ([]:List Int) 0 2)))
      (.ask (decide (((c:Nat):Int)>(0:Int)))
        (.ask (decide (a≥(262144:Int)))
          (.leaf (.inr (.r0 ([]:List Int) 0 3)))
          (.leaf (.inl ())))
        (.leaf (.inl ()))))
def ak4:(List Int)×Nat×Nat→aC:=fun (a,b,c)=>⟨ae 30 [(4,.imm .free (.ns .u64 a) 1 1 0 b),(5,.int .i64 ((c:Nat):Int))],[],0⟩
def Kf(c:Int)(a:List Int)(b:Nat) :T (((List Int)×Nat×Nat)⊕(jJ)) :=
  .need (aK 0 b a)<|.need (zO (eS (aa 0 b a) c))<|.need (aK (kF (eS (aa 0 b a) c)) (kG (eS (aa 0 b a) c)) (kH (eS (aa 0 b a) c)))<|.need (sE (ld (aa (kF (eS (aa 0 b a) c)) (kG (eS (aa 0 b a) c)) (kH (eS (aa 0 b a) c)))))<|.leaf (.inl ((uG (ld (aa (kF (eS (aa 0 b a) c)) (kG (eS (aa 0 b a) c)) (kH (eS (aa 0 b a) c))))),(uH (ld (aa (kF (eS (aa 0 b a) c)) (kG (eS (aa 0 b a) c)) (kH (eS (aa 0 b a) c))))),(uI (ld (aa (kF (eS (aa 0 b a) c)) (kG (eS (aa 0 b a) c)) (kH (eS (aa 0 b a) c)))))))
def ak5(a:List Int)(b:Nat)(c:Nat) :T ((Empty)⊕(jJ)) :=
  .leaf (.inr (.r0 a b c))
def iv(c:List Int)(a:Int) :Option jJ:=jP (aB ((Ue c).run) fun (d,e,b) =>
  aB ((ak3 a d b).run) fun _ =>
  aB ((Kf a e b).run) fun (f,g,h) =>
  (ak5 f g h).run)
theorem ak6(b:Lv)(c:List Int)(a:Int){x:jJ}(h:iv c a=some x) :ai prog N0 [] [.imm b (.ns .u64 c) 1 1 0 (List.length c),.int .i64 a] (Oi x) :=
  kh true Oi aaX h (Sg.cut 2 Ke (bf lH (ak1 b a) [⟨[],[0],[1,2,6]⟩,⟨[],[0],[1,2,6]⟩]) (fun ⟨j,d,e⟩=>Sg.cut 1 Ke (bf lH (ak2 b a d e) [⟨[(.slot 4,.fre 1 1 (.ns .u64 ([]:List Int)))],[],[4,5]⟩,⟨[(.slot 4,.fre 1 1 (.ns .u64 ([]:List Int)))],[],[4,5]⟩,⟨[(.slot 4,.fre 1 1 (.ns .u64 ([]:List Int)))],[],[4,5]⟩,⟨[],[0],[1,2]⟩,⟨[],[0],[1,2]⟩]) (fun _=>Sg.cut 1 Ke (bf lH ak4 [⟨[],[],[4,5]⟩]) (fun ⟨k,l,m⟩=>bf lH kb [⟨[],[],[4,5]⟩]))))
    (fun x=>by cases x with | r0 f g i=>exact jR [.imm .free (.ns .u64 f) 1 1 0 g,.int .i64 ((i:Nat):Int)])
def uJ:Option jJ→Bool
  | some _=>true
  | none=>false
def oW:Option jJ→List Int
  | some (.r0 x _ _)=>x
  | _=>[]
def oX:Option jJ→Nat
  | some (.r0 _ x _)=>x
  | _=>0
def LN:Option jJ→Nat
  | some (.r0 _ _ x)=>x
  | _=>0
theorem ak7{x:Option jJ}(h:uJ x=true) :x=some (.r0 (oW x) (oX x) (LN x)):=by
  unfold uJ at h
  split at h<;>first | rfl | (cases h;done) | (rename_i y;cases y;rfl)
def aaY:ax:=bx N0 (.cons (.ns .u64) (.cons (.int .i64) .nil)) fun t=>(fun q=>[⟨Oi (.r0 (oW q) (oX q) (LN q)),[uJ q]⟩]) (iv t.1.2 t.2.1)
theorem acC:aI prog aaY:=aE fun t=>(aF (fun h=>ak6 t.1.1 t.1.2 t.2.1 (ak7 h)) aQ)
def aaZ:List ax:=aaY::IE
theorem jq:aJ prog (aG aaZ):=aj acC lH
inductive dS where
  | r0 (a:Nat) (b:Nat) (c:Nat) (d:Bool) (e:List Int)
def CO:dS→AE×aC
  | .r0 a b c d e=>(.ret,⟨ae 97 [(4,.sl 0 1 1 a b c),(5,.bool false d)],[(0,.ns .u64 e)],1⟩)
theorem mp:jm CO:=by intro x;cases x<;>(intro h;cases h)
theorem Uf(id:Nat) :lD id CO:=by intro x;cases x<;>(intro h;cases h)
def Oj:dS→fU
  | .r0 a b e c d=>⟨.tup [.imm .free (.ns .u64 d) 1 1 a b,.bool false c],[]⟩
def Px:List Code:=cp (md HJ)
def ak8(b:Lv)(a:List Int) :Int×Int×Bool×Nat×Nat→aC:=fun (c,r2,d,e,f)=>⟨ae 97 [(0,.imm b (.ns .u64 a) 1 1 0 (List.length a)),(6,.int .i64 c),(7,.int .u64 r2),(8,.bool false d),(36,.imm b (.ns .u64 a) 1 1 0 e),(37,.int .i64 ((f:Nat):Int)),(38,.int .i64 (0:Int))],[],0⟩
def Gv(b:List Int)(a:Int) :T ((Int×Int×Bool×Nat×Nat)⊕(dS)) :=
  .need ((64:Int) != (0:Int))<|.need (cV .i64 (Int.tdiv a (64:Int)))<|.need ((64:Int) != (0:Int))<|.ask (decide ((Int.tdiv a (64:Int))≥(((List.length b):Nat):Int)))
    (.leaf (.inr (.r0 0 0 0 (decide ((((List.length b):Nat):Int)>(0:Int))) ([]:List Int))))
    (.need (fp (Int.tdiv a (64:Int)) (List.length b))<|.need (fO (Int.toNat (Int.tdiv a (64:Int))) (List.length b))<|.need (decide ((0:Int)≤(IntKind.u64.wrap (Int.tmod a (64:Int)))))<|.need (CE (Int.tdiv a (64:Int)) (List.length b))<|.need (CE (0:Int) (Int.toNat (Int.tdiv a (64:Int))))<|.leaf (.inl ((Int.tdiv a (64:Int)),(IntKind.u64.wrap (Int.tmod a (64:Int))),((cq .and .u64 (List.getD b (Int.toNat (Int.tdiv a (64:Int))) 0) (IntKind.u64.wrap ((IntKind.u64.wrap ((1:Int)*2^(min (Int.toNat (IntKind.u64.wrap (Int.tmod a (64:Int)))) (IntKind.u64.bits))))-(1:Int)))) != (0:Int)),(Int.toNat (Int.tdiv a (64:Int))),(Int.toNat (Int.tdiv a (64:Int))))))
def D4(b:Lv)(a:List Int)(c:Int)(r2:Int)(d:Nat)(e:Nat) :Bool×Nat→aC:=fun (f,g)=>⟨ae 97 [(0,.imm b (.ns .u64 a) 1 1 0 (List.length a)),(6,.int .i64 c),(7,.int .u64 r2),(8,.bool false f),(36,.imm b (.ns .u64 a) 1 1 0 d),(37,.int .i64 ((e:Nat):Int)),(38,.int .i64 ((g:Nat):Int))],[],0⟩
def Ug(b:Lv)(a:List Int)(c:Int)(r2:Int)(d:Bool) :aC:=⟨ae 97 [(0,.imm b (.ns .u64 a) 1 1 0 (List.length a)),(6,.int .i64 c),(7,.int .u64 r2),(8,.bool false d)],[],0⟩
def ahK:List Code:=cp (dg ((((Px.drop 6).take 1)).headD .skip))
def ak9(b:Lv)(a:List Int)(c:Int)(r2:Int)(d:Nat)(e:Nat)(f:Nat)(g:Bool) :aC:=⟨ae 97 [(0,.imm b (.ns .u64 a) 1 1 0 (List.length a)),(6,.int .i64 c),(7,.int .u64 r2),(8,.bool false g),(36,.imm b (.ns .u64 a) 1 1 0 d),(37,.int .i64 ((e:Nat):Int)),(38,.int .i64 ((f:Nat):Int))],[],0⟩
def A7(b:List Int)(d:Nat)(e:Nat)(c:Bool)(a:Nat) :T ((Bool)⊕((Bool)⊕(dS))) :=
  .ask (decide (((a:Nat):Int)<((e:Nat):Int)))
    (.need (fp ((a:Nat):Int) d)<|.need (fO a (List.length b))<|.ask c
      (.leaf (.inl true))
      (.leaf (.inl ((List.getD b a 0) != (0:Int)))))
    (.leaf (.inr (.inl c)))
def ahL(a:Nat)(b:Bool) :T ((Bool×Nat)⊕((Bool)⊕(dS))) :=
  .need (cV .i64 (((a+1):Nat):Int))<|.leaf (.inl (b,(a+1)))
def Gw(b:List Int)(c:Nat)(d:Nat) :Bool×Nat→Option ((Bool×Nat)⊕((Bool)⊕(dS))):=fun (e,a) =>
  aB ((A7 b c d e a).run) fun f =>
  (ahL a f).run
theorem ahM(b:Lv)(a:List Int)(c:Int)(r2:Int)(d:Nat)(e:Nat)(g:Bool)(f:Nat) :Sg prog [] ahK (D4 b a c r2 d e (g,f)) (Gw a d e (g,f)) (D4 b a c r2 d e) (cN 0 (Ug b a c r2) CO):=by
  unfold Gw;exact Sg.cut 3 (aW mp) (bf jq (ak9 b a c r2 d e f) [⟨[],[],[0,6,7,8,36,37,38]⟩,⟨[],[],[0,6,7,8,36,37,38]⟩,⟨[],[],[0,6,7,8]⟩]) (fun h=>bf jq (D4 b a c r2 d e) [⟨[],[],[0,6,7,8,36,37,38]⟩])
def ala(c:Lv)(a:List Int)(d:Int)(r2:Int)(e:Bool) :Nat×Nat×(List Int)→aC:=fun (b,f,g)=>⟨ae 97 [(0,.imm c (.ns .u64 a) 1 1 0 (List.length a)),(6,.int .i64 d),(7,.int .u64 r2),(8,.bool false e),(11,.sl 0 1 1 0 b b),(54,.int .i64 ((f:Nat):Int)),(55,.int .i64 (0:Int))],[(0,.ns .u64 g)],1⟩
def Gx(a:List Int)(b:Int) :T ((Nat×Nat×(List Int))⊕(dS)) :=
  .need (cV .i64 ((((List.length a):Nat):Int)-b))<|.need (decide ((0:Int)≤((((List.length a):Nat):Int)-b)))<|.need (decide (((((List.length a):Nat):Int)-b)≤((((List.length a):Nat):Int)-b)))<|.need (decide ((8:Int)*((((List.length a):Nat):Int)-b)≤140737488355328))<|.need (cV .i64 ((((List.length a):Nat):Int)-b))<|.leaf (.inl ((Int.toNat ((((List.length a):Nat):Int)-b)),(Int.toNat ((((List.length a):Nat):Int)-b)),(List.replicate (Int.toNat ((((List.length a):Nat):Int)-b)) (0:Int))))
def A8(c:Lv)(a:List Int)(d:Int)(r2:Int)(e:Bool)(b:Nat)(f:Nat) :Nat×(List Int)→aC:=fun (g,h)=>⟨ae 97 [(0,.imm c (.ns .u64 a) 1 1 0 (List.length a)),(6,.int .i64 d),(7,.int .u64 r2),(8,.bool false e),(11,.sl 0 1 1 0 b b),(54,.int .i64 ((f:Nat):Int)),(55,.int .i64 ((g:Nat):Int))],[(0,.ns .u64 h)],1⟩
def Py(b:Bool)(a:Nat)(c:(List Int)) :aC:=⟨ae 97 [(8,.bool false b),(11,.sl 0 1 1 0 a a)],[(0,.ns .u64 c)],1⟩
def ahN:List Code:=cp (dg ((((((Px.drop 6).drop 1).drop 2).take 1)).headD .skip))
def ahO(c:Lv)(a:List Int)(d:Int)(r2:Int)(e:Bool)(b:Nat)(f:Nat)(g:Nat)(h:(List Int)) :aC:=⟨ae 97 [(0,.imm c (.ns .u64 a) 1 1 0 (List.length a)),(6,.int .i64 d),(7,.int .u64 r2),(8,.bool false e),(11,.sl 0 1 1 0 b b),(54,.int .i64 ((f:Nat):Int)),(55,.int .i64 ((g:Nat):Int))],[(0,.ns .u64 h)],1⟩
def A9(c:List Int)(b:Int)(r2:Int)(e:Nat)(f:Nat)(a:Nat)(d:List Int) :T (((List Int))⊕(((List Int))⊕(dS))) :=
  .ask (decide (((a:Nat):Int)<((f:Nat):Int)))
    (.need (cV .i64 (((a:Nat):Int)+b))<|.need (fp (((a:Nat):Int)+b) (List.length c))<|.need (fO (Int.toNat (((a:Nat):Int)+b)) (List.length c))<|.need (decide ((0:Int)≤r2))<|.need (fp ((a:Nat):Int) e)<|.need (fO a (List.length d))<|.need (cV .i64 (((a:Nat):Int)+b))<|.need (cV .i64 ((((a:Nat):Int)+b)+(1:Int)))<|.ask (decide (((((a:Nat):Int)+b)+(1:Int))<(((List.length c):Nat):Int)))
      (.need (fp ((a:Nat):Int) e)<|.need (fO a (List.length (List.set d a (Int.fdiv (List.getD c (Int.toNat (((a:Nat):Int)+b)) 0) (2^(min (Int.toNat r2) (IntKind.u64.bits)))))))<|.need (cV .i64 (((a:Nat):Int)+b))<|.need (cV .i64 ((((a:Nat):Int)+b)+(1:Int)))<|.need (fp ((((a:Nat):Int)+b)+(1:Int)) (List.length c))<|.need (fO (Int.toNat ((((a:Nat):Int)+b)+(1:Int))) (List.length c))<|.need (decide ((0:Int)≤(1:Int)))<|.need (decide ((0:Int)≤(IntKind.u64.wrap ((63:Int)-r2))))<|.need (fp ((a:Nat):Int) e)<|.need (fO a (List.length (List.set d a (Int.fdiv (List.getD c (Int.toNat (((a:Nat):Int)+b)) 0) (2^(min (Int.toNat r2) (IntKind.u64.bits)))))))<|.leaf (.inl (List.set (List.set d a (Int.fdiv (List.getD c (Int.toNat (((a:Nat):Int)+b)) 0) (2^(min (Int.toNat r2) (IntKind.u64.bits))))) a (cq .or .u64 (List.getD (List.set d a (Int.fdiv (List.getD c (Int.toNat (((a:Nat):Int)+b)) 0) (2^(min (Int.toNat r2) (IntKind.u64.bits))))) a 0) (IntKind.u64.wrap ((IntKind.u64.wrap ((List.getD c (Int.toNat ((((a:Nat):Int)+b)+(1:Int))) 0)*2^(min (Int.toNat (1:Int)) (IntKind.u64.bits))))*2^(min (Int.toNat (IntKind.u64.wrap ((63:Int)-r2))) (IntKind.u64.bits))))))))
      (.leaf (.inl (List.set d a (Int.fdiv (List.getD c (Int.toNat (((a:Nat):Int)+b)) 0) (2^(min (Int.toNat r2) (IntKind.u64.bits))))))))
    (.leaf (.inr (.inl d)))
def ahP(a:Nat)(b:List Int) :T ((Nat×(List Int))⊕(((List Int))⊕(dS))) :=
  .need (cV .i64 (((a+1):Nat):Int))<|.leaf (.inl ((a+1),b))
def Gy(b:List Int)(c:Int)(r2:Int)(d:Nat)(e:Nat) :Nat×(List Int)→Option ((Nat×(List Int))⊕(((List Int))⊕(dS))):=fun (a,f) =>
  aB ((A9 b c r2 d e a f).run) fun g =>
  (ahP a g).run
theorem ahQ(f:Lv)(b:List Int)(c:Int)(r2:Int)(d:Bool)(a:Nat)(e:Nat)(g:Nat)(h:List Int) :Sg prog [] ahN (A8 f b c r2 d a e (g,h)) (Gy b c r2 a e (g,h)) (A8 f b c r2 d a e) (cN 2 (Py d a) CO):=by
  unfold Gy;exact Sg.cut 3 (aW mp) (bf jq (ahO f b c r2 d a e g) [⟨[],[0],[0,6,7,8,11,54,55]⟩,⟨[],[0],[0,6,7,8,11,54,55]⟩,⟨[],[0],[8,11]⟩]) (fun i=>bf jq (A8 f b c r2 d a e) [⟨[],[0],[0,6,7,8,11,54,55]⟩])
def ahR(a:Bool) :Nat×Nat×Nat×(List Int)→aC:=fun (b,c,d,e)=>⟨ae 97 [(4,.sl 0 1 1 b c d),(5,.bool false a)],[(0,.ns .u64 e)],1⟩
def Pz(a:Nat)(b:List Int) :T ((Nat×Nat×Nat×(List Int))⊕(dS)) :=
  .need (iR (bk b 0 a a))<|.leaf (.inl ((ip (bk b 0 a a)),(iq (bk b 0 a a)),(ir (bk b 0 a a)),(iu (bk b 0 a a))))
def ahS(a:Bool)(b:Nat)(c:Nat)(d:Nat)(e:List Int) :T ((Empty)⊕(dS)) :=
  .leaf (.inr (.r0 b c d a e))
def rP(a:List Int)(d:Int) :Option dS:=jP (aB ((Gv a d).run) fun (b,r2,e,f,g) =>
  aB (cU (Gw a f g) (e,0)) fun h =>
  aB ((Gx a b).run) fun (c,i,j) =>
  aB (cU (Gy a b r2 c i) (0,j)) fun k =>
  aB ((Pz c k).run) fun (l,m,n,o) =>
  (ahS h l m n o).run)
theorem alb(b:Lv)(a:List Int)(f:Int){x:dS}(h:rP a f=some x) :ai prog HJ [] [.imm b (.ns .u64 a) 1 1 0 (List.length a),.int .i64 f] (Oj x) :=
  kh true Oj CO h (Sg.cut 6 mp (bf jq (ak8 b a) [⟨[(.slot 4,.own 1 1 (.ns .u64 ([]:List Int)))],[288],[4,5]⟩,⟨[],[],[0,6,7,8,36,37,38]⟩]) (fun ⟨c,r2,s,g,i⟩=>Sg.cut 1 mp (DG ⟨[],[],[0,6,7,8,36,37,38]⟩ (D4 b a c r2 g i) (Ug b a c r2) 0 mp (Uf _) (fun ⟨k,l⟩=>ahM b a c r2 g i k l)) (fun d=>Sg.cut 2 mp (bf jq (ala b a c r2 d) [⟨[],[64],[0,6,7,8,11,54,55]⟩]) (fun ⟨e,j,t⟩=>Sg.cut 1 mp (DG ⟨[],[0],[0,6,7,8,11,54,55]⟩ (A8 b a c r2 d e j) (Py d e) 2 mp (Uf _) (fun ⟨m,n⟩=>ahQ b a c r2 d e j m n)) (fun u=>Sg.cut 1 mp (bf jq (ahR d) [⟨[],[0],[4,5]⟩]) (fun ⟨v,w,y,z⟩=>bf jq kb [⟨[],[0],[4,5]⟩]))))))
    (fun x=>by cases x with | r0 o p q r A=>exact jR [.sl 0 1 1 o p q,.bool false r])
def D5:Option dS→Bool
  | some _=>true
  | none=>false
def D6:Option dS→Nat
  | some (.r0 x _ _ _ _)=>x
  | _=>0
def D7:Option dS→Nat
  | some (.r0 _ x _ _ _)=>x
  | _=>0
def LO:Option dS→Nat
  | some (.r0 _ _ x _ _)=>x
  | _=>0
def D8:Option dS→Bool
  | some (.r0 _ _ _ x _)=>x
  | _=>false
def D9:Option dS→List Int
  | some (.r0 _ _ _ _ x)=>x
  | _=>[]
theorem alc{x:Option dS}(h:D5 x=true) :x=some (.r0 (D6 x) (D7 x) (LO x) (D8 x) (D9 x)):=by
  unfold D5 at h
  split at h<;>first | rfl | (cases h;done) | (rename_i y;cases y;rfl)
def aa0:ax:=bx HJ (.cons (.ns .u64) (.cons (.int .i64) .nil)) fun t=>(fun q=>[⟨Oj (.r0 (D6 q) (D7 q) (LO q) (D8 q) (D9 q)),[D5 q]⟩]) (rP t.1.2 t.2.1)
theorem acD:aI prog aa0:=aE fun t=>(aF (fun h=>alb t.1.1 t.1.2 t.2.1 (alc h)) aQ)
def aa1:List ax:=aa0::aaZ
theorem sF:aJ prog (aG aa1):=aj acD jq
inductive iw where
  | r0 (a:List Int) (b:Nat) (c:Nat) (d:Bool) (e:Nat)
def aa2:iw→AE×aC
  | .r0 a b c d e=>(.ret,⟨ae 23 [(4,.imm .free (.ns .u64 a) 1 1 b c),(5,.bool false d),(6,.int .i64 ((e:Nat):Int))],[],0⟩)
theorem Kg:jm aa2:=by intro x;cases x<;>(intro h;cases h)
def Ol:iw→fU
  | .r0 a b c d e=>⟨.tup [.imm .free (.ns .u64 a) 1 1 b c,.bool false d,.int .i64 ((e:Nat):Int)],[]⟩
def ald(a:Lv)(b:Int) :Nat×(List Int)×Nat→aC:=fun (c,d,e)=>⟨ae 23 [(1,.int .i64 b),(2,.ptr 0 1 0 0),(6,.int .i64 ((c:Nat):Int))],[(0,.vs [.imm a (.ns .u64 d) 1 1 0 e])],1⟩
def Uh(a:List Int) :T ((Nat×(List Int)×Nat)⊕(iw)) :=
  .ask (decide ((0:Int)<(1:Int)))
    (.need (fp (0:Int) 1)<|.need (aK 0 (List.length a) a)<|.need (ca (ay (aa 0 (List.length a) a)))<|.ask (decide ((((aD (ay (aa 0 (List.length a) a))):Nat):Int)>(4096:Int)))
      (.leaf (.inl (2,(aU (ay (aa 0 (List.length a) a))),(aD (ay (aa 0 (List.length a) a))))))
      (.need (cV .i64 (1:Int))<|.ask (decide ((1:Int)<(1:Int)))
        (.fail)
        (.leaf (.inl (0,(aU (ay (aa 0 (List.length a) a))),(aD (ay (aa 0 (List.length a) a))))))))
    (.fail)
def ale(a:Lv)(b:Int)(c:List Int)(d:Nat)(e:Bool) :aC:=⟨ae 23 [(1,.int .i64 b),(2,.ptr 0 1 0 0),(14,.bool false e)],[(0,.vs [.imm a (.ns .u64 c) 1 1 0 d])],1⟩
def alf(a:Int)(b:Nat) :T ((Bool)⊕(iw)) :=
  .ask (((b:Nat):Int) != (0:Int))
    (.leaf (.inl true))
    (.leaf (.inl (decide (a<(0:Int)))))
def alg:(List Int)×Nat×Nat×Bool→aC:=fun (a,b,c,d)=>⟨ae 23 [(4,.imm .free (.ns .u64 a) 1 1 b c),(5,.bool false d)],[],0⟩
def Kh(c:Int)(a:List Int)(b:Nat)(d:Bool) :T (((List Int)×Nat×Nat×Bool)⊕(iw)) :=
  .ask d
    (.leaf (.inr (.r0 ([]:List Int) 0 0 false 2)))
    (.need (aK 0 b a)<|.need (D5 (rP (aa 0 b a) c))<|.leaf (.inl ((D9 (rP (aa 0 b a) c)),(D6 (rP (aa 0 b a) c)),(D7 (rP (aa 0 b a) c)),(D8 (rP (aa 0 b a) c)))))
def alh(a:List Int)(b:Nat)(c:Nat)(d:Bool) :T ((Empty)⊕(iw)) :=
  .leaf (.inr (.r0 a b c d 0))
def uK(b:List Int)(a:Int) :Option iw:=jP (aB ((Uh b).run) fun (c,d,e) =>
  aB ((alf a c).run) fun f =>
  aB ((Kh a d e f).run) fun (g,h,i,j) =>
  (alh g h i j).run)
theorem ali(b:Lv)(c:List Int)(a:Int){x:iw}(h:uK c a=some x) :ai prog NY [] [.imm b (.ns .u64 c) 1 1 0 (List.length c),.int .i64 a] (Ol x) :=
  kh true Ol aa2 h (Sg.cut 2 Kg (bf sF (ald b a) [⟨[],[0],[1,2,6]⟩,⟨[],[0],[1,2,6]⟩]) (fun ⟨l,d,e⟩=>Sg.cut 1 Kg (bf sF (ale b a d e) [⟨[],[0],[1,2,14]⟩,⟨[],[0],[1,2,14]⟩]) (fun m=>Sg.cut 2 Kg (bf sF alg [⟨[(.slot 4,.fre 1 1 (.ns .u64 ([]:List Int)))],[],[4,5,6]⟩,⟨[],[],[4,5]⟩]) (fun ⟨n,o,p,q⟩=>bf sF kb [⟨[],[],[4,5,6]⟩]))))
    (fun x=>by cases x with | r0 f g i j k=>exact jR [.imm .free (.ns .u64 f) 1 1 g i,.bool false j,.int .i64 ((k:Nat):Int)])
def Ea:Option iw→Bool
  | some _=>true
  | none=>false
def Eb:Option iw→List Int
  | some (.r0 x _ _ _ _)=>x
  | _=>[]
def Ec:Option iw→Nat
  | some (.r0 _ x _ _ _)=>x
  | _=>0
def Ed:Option iw→Nat
  | some (.r0 _ _ x _ _)=>x
  | _=>0
def LP:Option iw→Bool
  | some (.r0 _ _ _ x _)=>x
  | _=>false
def LQ:Option iw→Nat
  | some (.r0 _ _ _ _ x)=>x
  | _=>0
theorem alj{x:Option iw}(h:Ea x=true) :x=some (.r0 (Eb x) (Ec x) (Ed x) (LP x) (LQ x)):=by
  unfold Ea at h
  split at h<;>first | rfl | (cases h;done) | (rename_i y;cases y;rfl)
def aa3:ax:=bx NY (.cons (.ns .u64) (.cons (.int .i64) .nil)) fun t=>(fun q=>[⟨Ol (.r0 (Eb q) (Ec q) (Ed q) (LP q) (LQ q)),[Ea q]⟩]) (uK t.1.2 t.2.1)
theorem acE:aI prog aa3:=aE fun t=>(aF (fun h=>ali t.1.1 t.1.2 t.2.1 (alj h)) aQ)
def aa4:List ax:=aa3::aa1
theorem mq:aJ prog (aG aa4):=aj acE sF
inductive ew where
  | r0 (a:Int) (b:Nat)
def Ba:ew→AE×aC
  | .r0 a b=>(.ret,⟨ae 31 [(2,.int .i64 a),(3,.int .i64 ((b:Nat):Int))],[],0⟩)
theorem oY:jm Ba:=by intro x;cases x<;>(intro h;cases h)
theorem acF(id:Nat) :lD id Ba:=by intro x;cases x<;>(intro h;cases h)
def Gz:ew→fU
  | .r0 a b=>⟨.tup [.int .i64 a,.int .i64 ((b:Nat):Int)],[]⟩
def acG:List Code:=cp (md AO)
def acH(a:Lv) :Nat×(List Int)×Nat→aC:=fun (b,c,d)=>⟨ae 31 [(1,.ptr 0 1 0 0),(4,.int .i64 ((b:Nat):Int))],[(0,.vs [.imm a (.ns .u64 c) 1 1 0 d])],1⟩
def IF(a:List Int) :T ((Nat×(List Int)×Nat)⊕(ew)) :=
  .ask (decide ((0:Int)<(1:Int)))
    (.need (fp (0:Int) 1)<|.need (aK 0 (List.length a) a)<|.need (ca (ay (aa 0 (List.length a) a)))<|.ask (decide ((((aD (ay (aa 0 (List.length a) a))):Nat):Int)>(4096:Int)))
      (.leaf (.inl (2,(aU (ay (aa 0 (List.length a) a))),(aD (ay (aa 0 (List.length a) a))))))
      (.need (cV .i64 (1:Int))<|.ask (decide ((1:Int)<(1:Int)))
        (.fail)
        (.leaf (.inl (0,(aU (ay (aa 0 (List.length a) a))),(aD (ay (aa 0 (List.length a) a))))))))
    (.fail)
def acI(a:Lv)(b:Nat)(c:List Int)(d:Nat)(e:Bool) :aC:=⟨ae 31 [(1,.ptr 0 1 0 0),(4,.int .i64 ((b:Nat):Int)),(14,.bool false e)],[(0,.vs [.imm a (.ns .u64 c) 1 1 0 d])],1⟩
def WU(a:Nat)(b:Nat) :T ((Bool)⊕(ew)) :=
  .ask (((a:Nat):Int) != (0:Int))
    (.leaf (.inl true))
    (.leaf (.inl (((b:Nat):Int)==(0:Int))))
def acJ(a:Lv)(b:List Int)(c:Nat)(_:Unit) :aC:=⟨ae 31 [(1,.ptr 0 1 0 0),(5,.int .i64 (0:Int))],[(0,.vs [.imm a (.ns .u64 b) 1 1 0 c])],1⟩
def WV(a:Nat)(b:Bool) :T ((Unit)⊕(ew)) :=
  .ask b
    (.leaf (.inr (.r0 (0:Int) a)))
    (.leaf (.inl ()))
def yB(a:Lv)(b:List Int)(c:Nat)(d:Nat) :aC:=⟨ae 31 [(1,.ptr 0 1 0 0),(5,.int .i64 ((d:Nat):Int))],[(0,.vs [.imm a (.ns .u64 b) 1 1 0 c])],1⟩
def LR(a:Lv)(b:List Int)(c:Nat)(d:Nat) :aC:=⟨ae 31 [(1,.ptr 0 1 0 0),(5,.int .i64 ((d:Nat):Int))],[(0,.vs [.imm a (.ns .u64 b) 1 1 0 c])],1⟩
def WW:List Code:=cp (dg ((((((acG.drop 2).drop 1).drop 2).take 1)).headD .skip))
def pR(b:List Int)(c:Nat)(a:Nat) :T ((Nat)⊕((Nat)⊕(ew))) :=
  .need (fp ((a:Nat):Int) c)<|.need (fO a (List.length b))<|.ask ((List.getD b a 0)==(0:Int))
    (.need (cV .i64 (((a+1):Nat):Int))<|.leaf (.inl (a+1)))
    (.leaf (.inr (.inl a)))
def BN(a:List Int)(b:Nat) :Nat→Option ((Nat)⊕((Nat)⊕(ew))):=fun c =>
  (pR a b c).run
theorem WX(c:Lv)(a:List Int)(b:Nat)(d:Nat) :Sg prog [] WW (yB c a b d) (BN a b d) (yB c a b) (cN 0 (LR c a b) Ba):=by
  unfold BN;exact bf mq (yB c a b) [⟨[],[0],[1,5]⟩,⟨[],[0],[1,5]⟩]
def acK(a:Int) :aC:=⟨ae 31 [(2,.int .i64 a),(3,.int .i64 (0:Int))],[],0⟩
def IG(b:List Int)(c:Nat)(a:Nat) :T ((Int)⊕(ew)) :=
  .need (cV .i64 (((64*a):Nat):Int))<|.need (fp ((a:Nat):Int) c)<|.need (fO a (List.length b))<|.need (dO (cZ (List.getD b a 0)))<|.need (cV .i64 ((((64*a):Nat):Int)+(dh (cZ (List.getD b a 0)))))<|.leaf (.inl ((((64*a):Nat):Int)+(dh (cZ (List.getD b a 0)))))
def WY(a:Int) :T ((Empty)⊕(ew)) :=
  .leaf (.inr (.r0 a 0))
def wJ(d:List Int) :Option ew:=jP (aB ((IF d).run) fun (b,c,a) =>
  aB ((WU b a).run) fun e =>
  aB ((WV b e).run) fun _ =>
  aB (cU (BN c a) 0) fun f =>
  aB ((IG c a f).run) fun g =>
  (WY g).run)
theorem acL(a:Lv)(d:List Int){x:ew}(h:wJ d=some x) :ai prog AO [] [.imm a (.ns .u64 d) 1 1 0 (List.length d)] (Gz x) :=
  kh true Gz Ba h (Sg.cut 2 oY (bf mq (acH a) [⟨[],[0],[1,4]⟩,⟨[],[0],[1,4]⟩]) (fun ⟨e,b,c⟩=>Sg.cut 1 oY (bf mq (acI a e b c) [⟨[],[0],[1,4,14]⟩,⟨[],[0],[1,4,14]⟩]) (fun j=>Sg.cut 2 oY (bf mq (acJ a b c) [⟨[],[],[2,3]⟩,⟨[],[0],[1,5]⟩]) (fun _=>Sg.cut 1 oY (DG ⟨[],[0],[1,5]⟩ (yB a b c) (LR a b c) 0 oY (acF _) (fun f=>WX a b c f)) (fun k=>Sg.cut 1 oY (bf mq acK [⟨[],[],[2,3]⟩]) (fun l=>bf mq kb [⟨[],[],[2,3]⟩]))))))
    (fun x=>by cases x with | r0 g i=>exact jR [.int .i64 g,.int .i64 ((i:Nat):Int)])
def yC:Option ew→Bool
  | some _=>true
  | none=>false
def zP:Option ew→Int
  | some (.r0 x _)=>x
  | _=>0
def GA:Option ew→Nat
  | some (.r0 _ x)=>x
  | _=>0
theorem acM{x:Option ew}(h:yC x=true) :x=some (.r0 (zP x) (GA x)):=by
  unfold yC at h
  split at h<;>first | rfl | (cases h;done) | (rename_i y;cases y;rfl)
def PA:ax:=bx AO (.cons (.ns .u64) .nil) fun t=>(fun q=>[⟨Gz (.r0 (zP q) (GA q)),[yC q]⟩]) (wJ t.1.2)
theorem Ui:aI prog PA:=aE fun t=>(aF (fun h=>acL t.1.1 t.1.2 (acM h)) aQ)
def PB:List ax:=PA::aa4
theorem ol:aJ prog (aG PB):=aj Ui mq
inductive ez where
  | r0 (a:Bool) (b:List Int) (c:Nat) (d:Nat) (e:Int)
def PC:ez→AE×aC
  | .r0 a b c d e=>(.ret,⟨ae 37 [(2,.ptr 0 1 0 0)],[(0,.vs [.bool false a,.imm .free (.ns .u64 b) 1 1 c d,.int .i64 e])],1⟩)
theorem Ee:jm PC:=by intro x;cases x<;>(intro h;cases h)
def GB:ez→fU
  | .r0 a b c d e=>⟨.agg [.bool false a,.imm .free (.ns .u64 b) 1 1 c d,.int .i64 e],[]⟩
def acN(b:Bool)(c:Lv)(a:List Int)(d:Int) :(List Int)×Nat×Bool→aC:=fun (e,f,g)=>⟨ae 37 [(1,.ptr 0 1 0 0),(2,.ptr 1 1 0 0),(3,.imm .free (.ns .u64 e) 1 1 0 f)],[(0,.vs [.bool false b,.imm c (.ns .u64 a) 1 1 0 (List.length a),.int .i64 d]),(1,.vs [.bool false g,.nsl,.int .i64 (0:Int)])],2⟩
def Ef(a:List Int) :T (((List Int)×Nat×Bool)⊕(ez)) :=
  .need (aK 0 (List.length a) a)<|.need (wF (oj (aa 0 (List.length a) a)))<|.leaf (.inl ((BJ (oj (aa 0 (List.length a) a))),(BH (oj (aa 0 (List.length a) a))),false))
def acO(b:Bool)(c:Lv)(a:List Int)(d:Int)(e:List Int)(f:Nat)(g:Bool)(h:Int) :aC:=⟨ae 37 [(1,.ptr 0 1 0 0),(2,.ptr 1 1 0 0),(3,.imm .free (.ns .u64 e) 1 1 0 f),(5,.int .i64 h)],[(0,.vs [.bool false b,.imm c (.ns .u64 a) 1 1 0 (List.length a),.int .i64 d]),(1,.vs [.bool false g,.nsl,.int .i64 (0:Int)])],2⟩
def Eg(b:List Int)(a:Nat) :T ((Int)⊕(ez)) :=
  .ask (((a:Nat):Int)==(0:Int))
    (.leaf (.inr (.r0 false ([]:List Int) 0 0 (0:Int))))
    (.need (aK 0 a b)<|.need (yC (wJ (aa 0 a b)))<|.leaf (.inl (zP (wJ (aa 0 a b)))))
def acP(b:Bool)(c:Lv)(a:List Int)(d:Int)(e:Bool)(f:Int) :(List Int)×Nat×Nat→aC:=fun (g,h,i)=>⟨ae 37 [(1,.ptr 0 1 0 0),(2,.ptr 1 1 0 0),(3,.imm .free (.ns .u64 g) 1 1 h i),(5,.int .i64 f)],[(0,.vs [.bool false b,.imm c (.ns .u64 a) 1 1 0 (List.length a),.int .i64 d]),(1,.vs [.bool false e,.nsl,.int .i64 (0:Int)])],2⟩
def Eh(a:List Int)(b:Nat)(c:Int) :T (((List Int)×Nat×Nat)⊕(ez)) :=
  .need (aK 0 b a)<|.need (Ea (uK (aa 0 b a) c))<|.leaf (.inl ((Eb (uK (aa 0 b a) c)),(Ec (uK (aa 0 b a) c)),(Ed (uK (aa 0 b a) c))))
def acQ(c:Bool)(a:Int)(b:Int)(d:List Int)(e:Nat)(f:Nat) :T ((Empty)⊕(ez)) :=
  .need (cV .i64 (a+b))<|.leaf (.inr (.r0 c d e f (a+b)))
def au(d:Bool)(e:List Int)(f:Int) :Option ez:=jP (aB ((Ef e).run) fun (a,b,j) =>
  aB ((Eg a b).run) fun c =>
  aB ((Eh a b c).run) fun (g,h,i) =>
  (acQ d f c g h i).run)
theorem acR(b:Bool)(d:Lv)(a:List Int)(c:Int){x:ez}(h:au b a c=some x) :ai prog F3 [] [.agg [.bool false b,.imm d (.ns .u64 a) 1 1 0 (List.length a),.int .i64 c]] (GB x) :=
  kh true GB PC h (Sg.cut 2 Ee (bf ol (acN b d a c) [⟨[],[0,16],[1,2,3]⟩]) (fun ⟨f,g,e⟩=>Sg.cut 3 Ee (bf ol (acO b d a c f g e) [⟨[(.cell 1 1,.fre 1 1 (.ns .u64 ([]:List Int)))],[1],[2]⟩,⟨[],[0,1],[1,2,3,5]⟩]) (fun i=>Sg.cut 1 Ee (bf ol (acP b d a c e i) [⟨[],[0,1],[1,2,3,5]⟩]) (fun ⟨o,p,q⟩=>bf ol kb [⟨[],[1],[2]⟩]))))
    (fun x=>by cases x with | r0 j k l m n=>exact jR [.agg [.bool false j,.imm .free (.ns .u64 k) 1 1 l m,.int .i64 n]])
def eT:Option ez→Bool
  | some _=>true
  | none=>false
def cz:Option ez→Bool
  | some (.r0 x _ _ _ _)=>x
  | _=>false
def cA:Option ez→List Int
  | some (.r0 _ x _ _ _)=>x
  | _=>[]
def cB:Option ez→Nat
  | some (.r0 _ _ x _ _)=>x
  | _=>0
def cC:Option ez→Nat
  | some (.r0 _ _ _ x _)=>x
  | _=>0
def cD:Option ez→Int
  | some (.r0 _ _ _ _ x)=>x
  | _=>0
theorem acS{x:Option ez}(h:eT x=true) :x=some (.r0 (cz x) (cA x) (cB x) (cC x) (cD x)):=by
  unfold eT at h
  split at h<;>first | rfl | (cases h;done) | (rename_i y;cases y;rfl)
def PD:ax:=bx F3 (.cons (.agg (.cons .bool (.cons (.ns .u64) (.cons (.int .i64) .nil)))) .nil) fun t=>(fun q=>[⟨GB (.r0 (cz q) (cA q) (cB q) (cC q) (cD q)),[eT q]⟩]) (au t.1.1 t.1.2.1.2 t.1.2.2.1)
theorem Uj:aI prog PD:=aE fun t=>(aF (fun h=>acR t.1.1 t.1.2.1.1 t.1.2.1.2 t.1.2.2.1 (acS h)) aQ)
def PE:List ax:=PD::PB
theorem sG:aJ prog (aG PE):=aj Uj ol
inductive lf where
  | r0 (a:Bool)
def Uk:lf→AE×aC
  | .r0 a=>(.ret,⟨ae 18 [(2,.bool false a)],[],0⟩)
theorem PF:jm Uk:=by intro x;cases x<;>(intro h;cases h)
def Ki:lf→fU
  | .r0 a=>⟨.bool false a,[]⟩
def ahT(b:Bool)(c:Lv)(a:List Int)(d:Int)(e:Nat) :aC:=⟨ae 18 [(1,.ptr 0 1 0 0),(4,.int .i64 ((e:Nat):Int))],[(0,.vs [.bool false b,.imm c (.ns .u64 a) 1 1 0 (List.length a),.int .i64 d])],1⟩
def PG(a:List Int) :T ((Nat)⊕(lf)) :=
  .need (aK 0 (List.length a) a)<|.need (wF (oj (aa 0 (List.length a) a)))<|.leaf (.inl (BI (oj (aa 0 (List.length a) a))))
def ahU(a:Bool) :aC:=⟨ae 18 [(2,.bool false a)],[],0⟩
def ahV(a:Int)(b:Nat) :T ((Bool)⊕(lf)) :=
  .ask (((b:Nat):Int)==(0:Int))
    (.ask (decide (a≥(-262144:Int)))
      (.leaf (.inl (decide (a≤(262144:Int)))))
      (.leaf (.inl false)))
    (.leaf (.inl false))
def ahW(a:Bool) :T ((Empty)⊕(lf)) :=
  .leaf (.inr (.r0 a))
def di(a:List Int)(b:Int) :Option lf:=jP (aB ((PG a).run) fun c =>
  aB ((ahV b c).run) fun d =>
  (ahW d).run)
theorem ahX(c:Bool)(d:Lv)(a:List Int)(b:Int){x:lf}(h:di a b=some x) :ai prog J0 [] [.agg [.bool false c,.imm d (.ns .u64 a) 1 1 0 (List.length a),.int .i64 b]] (Ki x) :=
  kh true Ki Uk h (Sg.cut 2 PF (bf sG (ahT c d a b) [⟨[],[0],[1,4]⟩]) (fun f=>Sg.cut 1 PF (bf sG ahU [⟨[],[],[2]⟩,⟨[],[],[2]⟩,⟨[],[],[2]⟩]) (fun g=>bf sG kb [⟨[],[],[2]⟩])))
    (fun x=>by cases x with | r0 e=>exact jR [.bool false e])
def iS:Option lf→Bool
  | some _=>true
  | none=>false
def gr:Option lf→Bool
  | some (.r0 x)=>x
  | _=>false
theorem ahY{x:Option lf}(h:iS x=true) :x=some (.r0 (gr x)):=by
  unfold iS at h
  split at h<;>first | rfl | (cases h;done) | (rename_i y;cases y;rfl)
def Ul:ax:=bx J0 (.cons (.agg (.cons .bool (.cons (.ns .u64) (.cons (.int .i64) .nil)))) .nil) fun t=>(fun q=>[⟨Ki (.r0 (gr q)),[iS q]⟩]) (di t.1.2.1.2 t.1.2.2.1)
theorem WZ:aI prog Ul:=aE fun t=>(aF (fun h=>ahX t.1.1 t.1.2.1.1 t.1.2.1.2 t.1.2.2.1 (ahY h)) aQ)
def Um:List ax:=Ul::PE
theorem vD:aJ prog (aG Um):=aj WZ sG
inductive dK where
  | r0 (a:Nat) (b:Int) (c:List Int) (d:Nat) (e:List Int) (f:Nat)
def LS:dK→AE×aC
  | .r0 a b c d e f=>(.ret,⟨ae 57 [(4,.ptr 0 1 0 0),(5,.int .i64 ((a:Nat):Int))],[(0,.vs [.int .i64 b,.imm .free (.ns .u64 c) 1 1 0 d,.imm .free (.ns .u64 e) 1 1 0 f])],1⟩)
theorem IH:jm LS:=by intro x;cases x<;>(intro h;cases h)
def Ei:dK→fU
  | .r0 a b c d e f=>⟨.tup [.agg [.int .i64 b,.imm .free (.ns .u64 c) 1 1 0 d,.imm .free (.ns .u64 e) 1 1 0 f],.int .i64 ((a:Nat):Int)],[]⟩
def W3(c:Bool)(d:Lv)(a:List Int)(e:Int)(f:Bool)(g:Lv)(b:List Int)(h:Int)(i:Int) :aC:=⟨ae 57 [(2,.ptr 0 1 0 0),(3,.ptr 1 1 0 0),(4,.ptr 2 1 0 0),(6,.ptr 3 1 0 0)],[(0,.vs [.bool false c,.imm d (.ns .u64 a) 1 1 0 (List.length a),.int .i64 e]),(1,.vs [.bool false f,.imm g (.ns .u64 b) 1 1 0 (List.length b),.int .i64 h]),(2,.vs [.int .i64 (0:Int),.nsl,.nsl]),(3,.vs [.int .i64 i,.nsl,.nsl])],4⟩
def pS(c:List Int)(a:Int)(d:List Int)(b:Int) :T ((Int)⊕(dK)) :=
  .ask ((((List.length c):Nat):Int)==(0:Int))
    (.leaf (.inl b))
    (.ask ((((List.length d):Nat):Int)==(0:Int))
      (.leaf (.inl a))
      (.need (cV .i64 ((nZ a b)-(uu a b)))<|.ask (decide (((nZ a b)-(uu a b))>(262144:Int)))
        (.leaf (.inr (.r0 3 (0:Int) ([]:List Int) 0 ([]:List Int) 0)))
        (.leaf (.inl (uu a b)))))
def W5(a:Int) :(List Int)×Nat×(List Int)×Nat→aC:=fun (b,c,d,e)=>⟨ae 57 [(4,.ptr 0 1 0 0),(6,.ptr 1 1 0 0)],[(0,.vs [.int .i64 (0:Int),.nsl,.nsl]),(1,.vs [.int .i64 a,.imm .free (.ns .u64 b) 1 1 0 c,.imm .free (.ns .u64 d) 1 1 0 e])],2⟩
def jz(c:List Int)(e:Int)(a:List Int)(d:Int)(b:Int) :T (((List Int)×Nat×(List Int)×Nat)⊕(dK)) :=
  .ask ((((List.length c):Nat):Int)==(0:Int))
    (.ask ((((List.length a):Nat):Int)==(0:Int))
      (.leaf (.inl (([]:List Int),0,([]:List Int),0)))
      (.need (cV .i64 (d-b))<|.need (aK 0 (List.length a) a)<|.need (uJ (iv (aa 0 (List.length a) a) (d-b)))<|.leaf (.inl (([]:List Int),0,(oW (iv (aa 0 (List.length a) a) (d-b))),(oX (iv (aa 0 (List.length a) a) (d-b)))))))
    (.need (cV .i64 (e-b))<|.need (aK 0 (List.length c) c)<|.need (uJ (iv (aa 0 (List.length c) c) (e-b)))<|.ask ((((List.length a):Nat):Int)==(0:Int))
      (.leaf (.inl ((oW (iv (aa 0 (List.length c) c) (e-b))),(oX (iv (aa 0 (List.length c) c) (e-b))),([]:List Int),0)))
      (.need (cV .i64 (d-b))<|.need (aK 0 (List.length a) a)<|.need (uJ (iv (aa 0 (List.length a) a) (d-b)))<|.leaf (.inl ((oW (iv (aa 0 (List.length c) c) (e-b))),(oX (iv (aa 0 (List.length c) c) (e-b))),(oW (iv (aa 0 (List.length a) a) (d-b))),(oX (iv (aa 0 (List.length a) a) (d-b)))))))
def W6(a:Int)(b:List Int)(c:Nat)(d:List Int)(e:Nat) :T ((Empty)⊕(dK)) :=
  .leaf (.inr (.r0 0 a b c d e))
def cP(a:List Int)(b:Int)(c:List Int)(d:Int) :Option dK:=jP (aB ((pS a b c d).run) fun e =>
  aB ((jz a b c d e).run) fun (f,g,h,i) =>
  (W6 e f g h i).run)
theorem W7(e:Bool)(f:Lv)(a:List Int)(c:Int)(g:Bool)(i:Lv)(b:List Int)(d:Int){x:dK}(h:cP a c b d=some x) :ai prog Dt [] [.agg [.bool false e,.imm f (.ns .u64 a) 1 1 0 (List.length a),.int .i64 c],.agg [.bool false g,.imm i (.ns .u64 b) 1 1 0 (List.length b),.int .i64 d]] (Ei x) :=
  kh true Ei LS h (Sg.cut 3 IH (bf vD (W3 e f a c g i b d) [⟨[],[0,16,32,176],[2,3,4,6]⟩,⟨[],[0,16,32,176],[2,3,4,6]⟩,⟨[(.cell 32 1,.fre 1 1 (.ns .u64 ([]:List Int))),(.cell 32 2,.fre 1 1 (.ns .u64 ([]:List Int)))],[32],[4,5]⟩,⟨[],[0,16,32,176],[2,3,4,6]⟩]) (fun j=>Sg.cut 2 IH (bf vD (W5 j) [⟨[(.cell 3 1,.fre 1 1 (.ns .u64 ([]:List Int))),(.cell 3 2,.fre 1 1 (.ns .u64 ([]:List Int)))],[2,3],[4,6]⟩,⟨[(.cell 3 1,.fre 1 1 (.ns .u64 ([]:List Int)))],[2,3],[4,6]⟩,⟨[(.cell 3 2,.fre 1 1 (.ns .u64 ([]:List Int)))],[2,3],[4,6]⟩,⟨[],[2,3],[4,6]⟩]) (fun ⟨q,r,s,t⟩=>bf vD kb [⟨[],[0],[4,5]⟩])))
    (fun x=>by cases x with | r0 k l m n o p=>exact jR [.agg [.int .i64 l,.imm .free (.ns .u64 m) 1 1 0 n,.imm .free (.ns .u64 o) 1 1 0 p],.int .i64 ((k:Nat):Int)])
def pT:Option dK→Bool
  | some _=>true
  | none=>false
def qN:Option dK→Nat
  | some (.r0 x _ _ _ _ _)=>x
  | _=>0
def qO:Option dK→Int
  | some (.r0 _ x _ _ _ _)=>x
  | _=>0
def qP:Option dK→List Int
  | some (.r0 _ _ x _ _ _)=>x
  | _=>[]
def qQ:Option dK→Nat
  | some (.r0 _ _ _ x _ _)=>x
  | _=>0
def qR:Option dK→List Int
  | some (.r0 _ _ _ _ x _)=>x
  | _=>[]
def qS:Option dK→Nat
  | some (.r0 _ _ _ _ _ x)=>x
  | _=>0
theorem W8{x:Option dK}(h:pT x=true) :x=some (.r0 (qN x) (qO x) (qP x) (qQ x) (qR x) (qS x)):=by
  unfold pT at h
  split at h<;>first | rfl | (cases h;done) | (rename_i y;cases y;rfl)
def LU:ax:=bx Dt (.cons (.agg (.cons .bool (.cons (.ns .u64) (.cons (.int .i64) .nil)))) (.cons (.agg (.cons .bool (.cons (.ns .u64) (.cons (.int .i64) .nil)))) .nil)) fun t=>(fun q=>[⟨Ei (.r0 (qN q) (qO q) (qP q) (qQ q) (qR q) (qS q)),[pT q]⟩]) (cP t.1.2.1.2 t.1.2.2.1 t.2.1.2.1.2 t.2.1.2.2.1)
theorem QM:aI prog LU:=aE fun t=>(aF (fun h=>W7 t.1.1 t.1.2.1.1 t.1.2.1.2 t.1.2.2.1 t.2.1.1 t.2.1.2.1.1 t.2.1.2.1.2 t.2.1.2.2.1 (W8 h)) aQ)
def LV:List ax:=LU::Um
theorem qT:aJ prog (aG LV):=aj QM vD
inductive eA where
  | r0 (a:Nat) (b:Bool) (c:List Int) (d:Nat) (e:Nat) (f:Int)
def PH:eA→AE×aC
  | .r0 a b c d e f=>(.ret,⟨ae 11 [(2,.ptr 0 1 0 0),(3,.int .i64 ((a:Nat):Int))],[(0,.vs [.bool false b,.imm .free (.ns .u64 c) 1 1 d e,.int .i64 f])],1⟩)
theorem LW:jm PH:=by intro x;cases x<;>(intro h;cases h)
def GC:eA→fU
  | .r0 a b c d e f=>⟨.tup [.agg [.bool false b,.imm .free (.ns .u64 c) 1 1 d e,.int .i64 f],.int .i64 ((a:Nat):Int)],[]⟩
def acT:Bool×(List Int)×Nat×Nat×Int×Bool→aC:=fun (a,b,c,d,e,f)=>⟨ae 11 [(1,.ptr 0 1 0 0),(2,.ptr 1 1 0 0)],[(0,.vs [.bool false a,.imm .free (.ns .u64 b) 1 1 c d,.int .i64 e]),(1,.vs [.bool false f,.nsl,.int .i64 (0:Int)])],2⟩
def LX(b:Bool)(a:List Int)(c:Int) :T ((Bool×(List Int)×Nat×Nat×Int×Bool)⊕(eA)) :=
  .need (aK 0 (List.length a) a)<|.need (eT (au b (aa 0 (List.length a) a) c))<|.leaf (.inl ((cz (au b (aa 0 (List.length a) a) c)),(cA (au b (aa 0 (List.length a) a) c)),(cB (au b (aa 0 (List.length a) a) c)),(cC (au b (aa 0 (List.length a) a) c)),(cD (au b (aa 0 (List.length a) a) c)),false))
def acU(a:Bool)(b:List Int)(c:Nat)(d:Nat)(e:Int)(f:Bool)(g:Bool) :aC:=⟨ae 11 [(1,.ptr 0 1 0 0),(2,.ptr 1 1 0 0),(8,.bool false g)],[(0,.vs [.bool false a,.imm .free (.ns .u64 b) 1 1 c d,.int .i64 e]),(1,.vs [.bool false f,.nsl,.int .i64 (0:Int)])],2⟩
def Ej(a:List Int)(b:Nat)(c:Nat)(d:Int) :T ((Bool)⊕(eA)) :=
  .need (aK b c a)<|.need (iS (di (aa b c a) d))<|.leaf (.inl (!(gr (di (aa b c a) d))))
def acV(a:Bool)(b:List Int)(c:Nat)(d:Nat)(e:Int)(f:Bool) :T ((Empty)⊕(eA)) :=
  .ask f
    (.leaf (.inr (.r0 3 false ([]:List Int) 0 0 (0:Int))))
    (.leaf (.inr (.r0 0 a b c d e)))
def bM(e:Bool)(f:List Int)(g:Int) :Option eA:=jP (aB ((LX e f g).run) fun (h,a,b,c,d,j) =>
  aB ((Ej a b c d).run) fun i =>
  (acV h a b c d i).run)
theorem acW(b:Bool)(d:Lv)(a:List Int)(c:Int){x:eA}(h:bM b a c=some x) :ai prog F4 [] [.agg [.bool false b,.imm d (.ns .u64 a) 1 1 0 (List.length a),.int .i64 c]] (GC x) :=
  kh true GC PH h (Sg.cut 2 LW (bf qT acT [⟨[],[0,16],[1,2]⟩]) (fun ⟨e,f,g,i,j,k⟩=>Sg.cut 1 LW (bf qT (acU e f g i j k) [⟨[],[0,1],[1,2,8]⟩]) (fun r=>bf qT kb [⟨[(.cell 1 1,.fre 1 1 (.ns .u64 ([]:List Int)))],[1],[2,3]⟩,⟨[],[1],[2,3]⟩])))
    (fun x=>by cases x with | r0 l m n o p q=>exact jR [.agg [.bool false m,.imm .free (.ns .u64 n) 1 1 o p,.int .i64 q],.int .i64 ((l:Nat):Int)])
def oZ:Option eA→Bool
  | some _=>true
  | none=>false
def om:Option eA→Nat
  | some (.r0 x _ _ _ _ _)=>x
  | _=>0
def oo:Option eA→Bool
  | some (.r0 _ x _ _ _ _)=>x
  | _=>false
def oq:Option eA→List Int
  | some (.r0 _ _ x _ _ _)=>x
  | _=>[]
def ot:Option eA→Nat
  | some (.r0 _ _ _ x _ _)=>x
  | _=>0
def ou:Option eA→Nat
  | some (.r0 _ _ _ _ x _)=>x
  | _=>0
def ov:Option eA→Int
  | some (.r0 _ _ _ _ _ x)=>x
  | _=>0
theorem acX{x:Option eA}(h:oZ x=true) :x=some (.r0 (om x) (oo x) (oq x) (ot x) (ou x) (ov x)):=by
  unfold oZ at h
  split at h<;>first | rfl | (cases h;done) | (rename_i y;cases y;rfl)
def PI:ax:=bx F4 (.cons (.agg (.cons .bool (.cons (.ns .u64) (.cons (.int .i64) .nil)))) .nil) fun t=>(fun q=>[⟨GC (.r0 (om q) (oo q) (oq q) (ot q) (ou q) (ov q)),[oZ q]⟩]) (bM t.1.1 t.1.2.1.2 t.1.2.2.1)
theorem Un:aI prog PI:=aE fun t=>(aF (fun h=>acW t.1.1 t.1.2.1.1 t.1.2.1.2 t.1.2.2.1 (acX h)) aQ)
def PJ:List ax:=PI::LV
theorem zQ:aJ prog (aG PJ):=aj Un qT
inductive dY where
  | r0 (a:Nat) (b:Bool) (c:List Int) (d:Nat) (e:Nat) (f:Int)
def LY:dY→AE×aC
  | .r0 a b c d e f=>(.ret,⟨ae 21 [(7,.ptr 0 1 0 0),(8,.int .i64 ((a:Nat):Int))],[(0,.vs [.bool false b,.imm .free (.ns .u64 c) 1 1 d e,.int .i64 f])],1⟩)
theorem W9:jm LY:=by intro x;cases x<;>(intro h;cases h)
def Ek:dY→fU
  | .r0 a b c d e f=>⟨.tup [.agg [.bool false b,.imm .free (.ns .u64 c) 1 1 d e,.int .i64 f],.int .i64 ((a:Nat):Int)],[]⟩
def Xa:Nat×Bool×(List Int)×Nat×Nat×Int→aC:=fun (a,b,c,d,e,f)=>⟨ae 21 [(7,.ptr 0 1 0 0),(8,.int .i64 ((a:Nat):Int))],[(0,.vs [.bool false b,.imm .free (.ns .u64 c) 1 1 d e,.int .i64 f])],1⟩
def Xb(b:Bool)(a:List Int)(d:Int)(c:Int) :T ((Nat×Bool×(List Int)×Nat×Nat×Int)⊕(dY)) :=
  .ask (d != (0:Int))
    (.leaf (.inr (.r0 3 false ([]:List Int) 0 0 (0:Int))))
    (.need (aK 0 (List.length a) a)<|.need (oZ (bM b (aa 0 (List.length a) a) c))<|.leaf (.inl ((om (bM b (aa 0 (List.length a) a) c)),(oo (bM b (aa 0 (List.length a) a) c)),(oq (bM b (aa 0 (List.length a) a) c)),(ot (bM b (aa 0 (List.length a) a) c)),(ou (bM b (aa 0 (List.length a) a) c)),(ov (bM b (aa 0 (List.length a) a) c)))))
def Xc(a:Nat)(b:Bool)(c:List Int)(d:Nat)(e:Nat)(f:Int) :T ((Empty)⊕(dY)) :=
  .leaf (.inr (.r0 a b c d e f))
def bK(a:Bool)(b:List Int)(c:Int)(d:Int) :Option dY:=jP (aB ((Xb a b c d).run) fun (e,f,g,h,i,j) =>
  (Xc e f g h i j).run)
theorem Xd(b:Bool)(g:Lv)(a:List Int)(c:Int)(i:Lv)(d:Int)(j:Lv)(e:List Int)(k:Lv)(f:List Int){x:dY}(h:bK b a c d=some x) :ai prog oQ [] [.bool false b,.imm g (.ns .u64 a) 1 1 0 (List.length a),.int .i64 c,.iptr i (.vs [.int .i64 d,.imm j (.ns .u64 e) 1 1 0 (List.length e),.imm k (.ns .u64 f) 1 1 0 (List.length f)]) 1 0 0] (Ek x) :=
  kh false Ek LY h (Sg.cut 4 W9 (bf zQ Xa [⟨[(.cell 0 1,.fre 1 1 (.ns .u64 ([]:List Int)))],[0],[7,8]⟩,⟨[],[0],[7,8]⟩]) (fun ⟨r,s,t,u,v,w⟩=>bf zQ kb [⟨[],[0],[7,8]⟩]))
    (fun x=>by cases x with | r0 l m n o p q=>exact jR [.agg [.bool false m,.imm .free (.ns .u64 n) 1 1 o p,.int .i64 q],.int .i64 ((l:Nat):Int)])
def nN:Option dY→Bool
  | some _=>true
  | none=>false
def na:Option dY→Nat
  | some (.r0 x _ _ _ _ _)=>x
  | _=>0
def nc:Option dY→Bool
  | some (.r0 _ x _ _ _ _)=>x
  | _=>false
def ng:Option dY→List Int
  | some (.r0 _ _ x _ _ _)=>x
  | _=>[]
def nh:Option dY→Nat
  | some (.r0 _ _ _ x _ _)=>x
  | _=>0
def ni:Option dY→Nat
  | some (.r0 _ _ _ _ x _)=>x
  | _=>0
def nj:Option dY→Int
  | some (.r0 _ _ _ _ _ x)=>x
  | _=>0
theorem Xe{x:Option dY}(h:nN x=true) :x=some (.r0 (na x) (nc x) (ng x) (nh x) (ni x) (nj x)):=by
  unfold nN at h
  split at h<;>first | rfl | (cases h;done) | (rename_i y;cases y;rfl)
def LZ:ax:=bx oQ (.cons .bool (.cons (.ns .u64) (.cons (.int .i64) (.cons (.ivs (.cons (.int .i64) (.cons (.ns .u64) (.cons (.ns .u64) .nil))) 1 0 0) .nil)))) fun t=>(fun q=>[⟨Ek (.r0 (na q) (nc q) (ng q) (nh q) (ni q) (nj q)),[nN q]⟩]) (bK t.1 t.2.1.2 t.2.2.1 t.2.2.2.1.2.1)
theorem QN:aI prog LZ:=aE fun t=>(aF (fun h=>Xd t.1 t.2.1.1 t.2.1.2 t.2.2.1 t.2.2.2.1.1 t.2.2.2.1.2.1 t.2.2.2.1.2.2.1.1 t.2.2.2.1.2.2.1.2 t.2.2.2.1.2.2.2.1.1 t.2.2.2.1.2.2.2.1.2 (Xe h)) aQ)
def L0:List ax:=LZ::PJ
theorem fP:aJ prog (aG L0):=aj QN zQ
inductive dj where
  | r0 (a:Nat) (b:Bool) (c:List Int) (d:Nat) (e:Nat) (f:Int)
def Uo:dj→AE×aC
  | .r0 a b c d e f=>(.ret,⟨ae 97 [(4,.ptr 0 1 0 0),(5,.int .i64 ((a:Nat):Int))],[(0,.vs [.bool false b,.imm .free (.ns .u64 c) 1 1 d e,.int .i64 f])],1⟩)
theorem ow:jm Uo:=by intro x;cases x<;>(intro h;cases h)
def Kj:dj→fU
  | .r0 a b c d e f=>⟨.tup [.agg [.bool false b,.imm .free (.ns .u64 c) 1 1 d e,.int .i64 f],.int .i64 ((a:Nat):Int)],[]⟩
def ahZ(a:Lv)(b:Lv) :Nat×Bool×(List Int)×Nat×Nat×Int×Bool×(List Int)×Nat×Nat×Int×Bool→aC:=fun (c,d,e,f,g,h,i,j,k,l,m,n)=>⟨ae 97 [(2,.ptr 0 1 0 0),(3,.ptr 1 1 0 0),(4,.ptr 2 1 0 0),(6,.int .i64 ((c:Nat):Int))],[(0,.vs [.bool false d,.imm a (.ns .u64 e) 1 1 f g,.int .i64 h]),(1,.vs [.bool false i,.imm b (.ns .u64 j) 1 1 k l,.int .i64 m]),(2,.vs [.bool false n,.nsl,.int .i64 (0:Int)])],3⟩
def ah0(d:Bool)(a:List Int)(c:Int)(f:Bool)(b:List Int)(e:Int) :T ((Nat×Bool×(List Int)×Nat×Nat×Int×Bool×(List Int)×Nat×Nat×Int×Bool)⊕(dj)) :=
  .ask (decide ((0:Int)<(2:Int)))
    (.need (fp (0:Int) 2)<|.need (aK 0 (List.length a) a)<|.need (iS (di (aa 0 (List.length a) a) c))<|.ask (!(gr (di (aa 0 (List.length a) a) c)))
      (.leaf (.inl (2,d,a,0,(List.length a),c,f,b,0,(List.length b),e,false)))
      (.need (aK 0 (List.length a) a)<|.need (eT (au d (aa 0 (List.length a) a) c))<|.need (cV .i64 (1:Int))<|.ask (decide ((1:Int)<(2:Int)))
        (.need (fp (1:Int) 2)<|.need (aK 0 (List.length b) b)<|.need (iS (di (aa 0 (List.length b) b) e))<|.ask (!(gr (di (aa 0 (List.length b) b) e)))
          (.leaf (.inl (2,(cz (au d (aa 0 (List.length a) a) c)),(cA (au d (aa 0 (List.length a) a) c)),(cB (au d (aa 0 (List.length a) a) c)),(cC (au d (aa 0 (List.length a) a) c)),(cD (au d (aa 0 (List.length a) a) c)),f,b,0,(List.length b),e,false)))
          (.need (aK 0 (List.length b) b)<|.need (eT (au f (aa 0 (List.length b) b) e))<|.need (cV .i64 (2:Int))<|.ask (decide ((2:Int)<(2:Int)))
            (.fail)
            (.leaf (.inl (0,(cz (au d (aa 0 (List.length a) a) c)),(cA (au d (aa 0 (List.length a) a) c)),(cB (au d (aa 0 (List.length a) a) c)),(cC (au d (aa 0 (List.length a) a) c)),(cD (au d (aa 0 (List.length a) a) c)),(cz (au f (aa 0 (List.length b) b) e)),(cA (au f (aa 0 (List.length b) b) e)),(cB (au f (aa 0 (List.length b) b) e)),(cC (au f (aa 0 (List.length b) b) e)),(cD (au f (aa 0 (List.length b) b) e)),false)))))
        (.fail)))
    (.fail)
def ah1(a:Lv)(b:Lv)(c:Bool)(d:List Int)(e:Nat)(f:Nat)(g:Int)(h:Bool)(i:List Int)(j:Nat)(k:Nat)(l:Int)(m:Bool) :Nat×Int×(List Int)×Nat×(List Int)×Nat→aC:=fun (n,o,p,q,r,s)=>⟨ae 97 [(2,.ptr 0 1 0 0),(3,.ptr 1 1 0 0),(4,.ptr 2 1 0 0),(7,.ptr 3 1 0 0),(8,.int .i64 ((n:Nat):Int))],[(0,.vs [.bool false c,.imm a (.ns .u64 d) 1 1 e f,.int .i64 g]),(1,.vs [.bool false h,.imm b (.ns .u64 i) 1 1 j k,.int .i64 l]),(2,.vs [.bool false m,.nsl,.int .i64 (0:Int)]),(3,.vs [.int .i64 o,.imm .free (.ns .u64 p) 1 1 0 q,.imm .free (.ns .u64 r) 1 1 0 s])],4⟩
def acY(i:Nat)(a:List Int)(b:Nat)(c:Nat)(g:Int)(d:List Int)(e:Nat)(f:Nat)(h:Int) :T ((Nat×Int×(List Int)×Nat×(List Int)×Nat)⊕(dj)) :=
  .ask (((i:Nat):Int) != (0:Int))
    (.leaf (.inr (.r0 i false ([]:List Int) 0 0 (0:Int))))
    (.need (aK b c a)<|.need (aK e f d)<|.need (pT (cP (aa b c a) g (aa e f d) h))<|.leaf (.inl ((qN (cP (aa b c a) g (aa e f d) h)),(qO (cP (aa b c a) g (aa e f d) h)),(qP (cP (aa b c a) g (aa e f d) h)),(qQ (cP (aa b c a) g (aa e f d) h)),(qR (cP (aa b c a) g (aa e f d) h)),(qS (cP (aa b c a) g (aa e f d) h)))))
def ah2(a:Lv)(b:Lv)(c:Bool)(d:List Int)(e:Nat)(f:Nat)(g:Int)(h:Bool)(i:List Int)(j:Nat)(k:Nat)(l:Int)(m:Bool)(n:Int)(o:List Int)(p:Nat)(q:List Int)(r:Nat)(_:Unit) :aC:=⟨ae 97 [(2,.ptr 0 1 0 0),(3,.ptr 1 1 0 0),(4,.ptr 2 1 0 0),(7,.ptr 3 1 0 0),(9,.fn (.func oQ) [] [.ptr 3 1 0 0])],[(0,.vs [.bool false c,.imm a (.ns .u64 d) 1 1 e f,.int .i64 g]),(1,.vs [.bool false h,.imm b (.ns .u64 i) 1 1 j k,.int .i64 l]),(2,.vs [.bool false m,.nsl,.int .i64 (0:Int)]),(3,.vs [.int .i64 n,.imm .free (.ns .u64 o) 1 1 0 p,.imm .free (.ns .u64 q) 1 1 0 r])],4⟩
def acZ(e:Bool)(h:Bool)(g:Nat)(f:Int)(a:List Int)(b:Nat)(c:List Int)(d:Nat) :T ((Unit)⊕(dj)) :=
  .ask (((g:Nat):Int) != (0:Int))
    (.leaf (.inr (.r0 g false ([]:List Int) 0 0 (0:Int))))
    (.ask (e==h)
      (.need (aK 0 b a)<|.need (aK 0 d c)<|.need (DO (bG (aa 0 b a) (aa 0 d c)))<|.need (aK (iE (bG (aa 0 b a) (aa 0 d c))) (iF (bG (aa 0 b a) (aa 0 d c))) (iG (bG (aa 0 b a) (aa 0 d c))))<|.need (aK 0 b a)<|.need (aK 0 d c)<|.need (nN (bK e (aa (iE (bG (aa 0 b a) (aa 0 d c))) (iF (bG (aa 0 b a) (aa 0 d c))) (iG (bG (aa 0 b a) (aa 0 d c)))) (((jp (bG (aa 0 b a) (aa 0 d c))):Nat):Int) f))<|.leaf (.inr (.r0 (na (bK e (aa (iE (bG (aa 0 b a) (aa 0 d c))) (iF (bG (aa 0 b a) (aa 0 d c))) (iG (bG (aa 0 b a) (aa 0 d c)))) (((jp (bG (aa 0 b a) (aa 0 d c))):Nat):Int) f)) (nc (bK e (aa (iE (bG (aa 0 b a) (aa 0 d c))) (iF (bG (aa 0 b a) (aa 0 d c))) (iG (bG (aa 0 b a) (aa 0 d c)))) (((jp (bG (aa 0 b a) (aa 0 d c))):Nat):Int) f)) (ng (bK e (aa (iE (bG (aa 0 b a) (aa 0 d c))) (iF (bG (aa 0 b a) (aa 0 d c))) (iG (bG (aa 0 b a) (aa 0 d c)))) (((jp (bG (aa 0 b a) (aa 0 d c))):Nat):Int) f)) (nh (bK e (aa (iE (bG (aa 0 b a) (aa 0 d c))) (iF (bG (aa 0 b a) (aa 0 d c))) (iG (bG (aa 0 b a) (aa 0 d c)))) (((jp (bG (aa 0 b a) (aa 0 d c))):Nat):Int) f)) (ni (bK e (aa (iE (bG (aa 0 b a) (aa 0 d c))) (iF (bG (aa 0 b a) (aa 0 d c))) (iG (bG (aa 0 b a) (aa 0 d c)))) (((jp (bG (aa 0 b a) (aa 0 d c))):Nat):Int) f)) (nj (bK e (aa (iE (bG (aa 0 b a) (aa 0 d c))) (iF (bG (aa 0 b a) (aa 0 d c))) (iG (bG (aa 0 b a) (aa 0 d c)))) (((jp (bG (aa 0 b a) (aa 0 d c))):Nat):Int) f)))))
      (.leaf (.inl ())))
def ah3(a:Lv)(b:Lv)(c:Bool)(d:List Int)(e:Nat)(f:Nat)(g:Int)(h:Bool)(i:List Int)(j:Nat)(k:Nat)(l:Int)(m:Bool)(n:Int)(o:List Int)(p:Nat)(q:List Int)(r:Nat)(s:Int) :aC:=⟨ae 97 [(2,.ptr 0 1 0 0),(3,.ptr 1 1 0 0),(4,.ptr 2 1 0 0),(7,.ptr 3 1 0 0),(9,.fn (.func oQ) [] [.ptr 3 1 0 0]),(12,.int .i64 s)],[(0,.vs [.bool false c,.imm a (.ns .u64 d) 1 1 e f,.int .i64 g]),(1,.vs [.bool false h,.imm b (.ns .u64 i) 1 1 j k,.int .i64 l]),(2,.vs [.bool false m,.nsl,.int .i64 (0:Int)]),(3,.vs [.int .i64 n,.imm .free (.ns .u64 o) 1 1 0 p,.imm .free (.ns .u64 q) 1 1 0 r])],4⟩
def ac0(a:List Int)(b:Nat)(c:List Int)(d:Nat) :T ((Int)⊕(dj)) :=
  .need (aK 0 b a)<|.need (aK 0 d c)<|.need (zJ (uE (aa 0 b a) (aa 0 d c)))<|.leaf (.inl (yz (uE (aa 0 b a) (aa 0 d c))))
def ah4(a:Lv)(b:Bool)(c:List Int)(d:Nat)(e:Nat)(f:Int)(g:Bool)(h:Int)(i:List Int)(j:Nat)(k:List Int)(l:Nat)(_:Unit) :aC:=⟨ae 97 [(2,.ptr 0 1 0 0),(4,.ptr 1 1 0 0),(7,.ptr 2 1 0 0),(9,.fn (.func oQ) [] [.ptr 2 1 0 0])],[(0,.vs [.bool false b,.imm a (.ns .u64 c) 1 1 d e,.int .i64 f]),(1,.vs [.bool false g,.nsl,.int .i64 (0:Int)]),(2,.vs [.int .i64 h,.imm .free (.ns .u64 i) 1 1 0 j,.imm .free (.ns .u64 k) 1 1 0 l])],3⟩
def ac1(e:Bool)(f:Int)(a:List Int)(b:Nat)(c:List Int)(d:Nat)(g:Int) :T ((Unit)⊕(dj)) :=
  .ask (decide (g<(0:Int)))
    (.need (aK 0 d c)<|.need (aK 0 b a)<|.need (zL (bv (aa 0 d c) (aa 0 b a)))<|.need (aK (gE (bv (aa 0 d c) (aa 0 b a))) (gF (bv (aa 0 d c) (aa 0 b a))) (gD (bv (aa 0 d c) (aa 0 b a))))<|.need (aK 0 b a)<|.need (aK 0 d c)<|.need (nN (bK e (aa (gE (bv (aa 0 d c) (aa 0 b a))) (gF (bv (aa 0 d c) (aa 0 b a))) (gD (bv (aa 0 d c) (aa 0 b a)))) (((iH (bv (aa 0 d c) (aa 0 b a))):Nat):Int) f))<|.leaf (.inr (.r0 (na (bK e (aa (gE (bv (aa 0 d c) (aa 0 b a))) (gF (bv (aa 0 d c) (aa 0 b a))) (gD (bv (aa 0 d c) (aa 0 b a)))) (((iH (bv (aa 0 d c) (aa 0 b a))):Nat):Int) f)) (nc (bK e (aa (gE (bv (aa 0 d c) (aa 0 b a))) (gF (bv (aa 0 d c) (aa 0 b a))) (gD (bv (aa 0 d c) (aa 0 b a)))) (((iH (bv (aa 0 d c) (aa 0 b a))):Nat):Int) f)) (ng (bK e (aa (gE (bv (aa 0 d c) (aa 0 b a))) (gF (bv (aa 0 d c) (aa 0 b a))) (gD (bv (aa 0 d c) (aa 0 b a)))) (((iH (bv (aa 0 d c) (aa 0 b a))):Nat):Int) f)) (nh (bK e (aa (gE (bv (aa 0 d c) (aa 0 b a))) (gF (bv (aa 0 d c) (aa 0 b a))) (gD (bv (aa 0 d c) (aa 0 b a)))) (((iH (bv (aa 0 d c) (aa 0 b a))):Nat):Int) f)) (ni (bK e (aa (gE (bv (aa 0 d c) (aa 0 b a))) (gF (bv (aa 0 d c) (aa 0 b a))) (gD (bv (aa 0 d c) (aa 0 b a)))) (((iH (bv (aa 0 d c) (aa 0 b a))):Nat):Int) f)) (nj (bK e (aa (gE (bv (aa 0 d c) (aa 0 b a))) (gF (bv (aa 0 d c) (aa 0 b a))) (gD (bv (aa 0 d c) (aa 0 b a)))) (((iH (bv (aa 0 d c) (aa 0 b a))):Nat):Int) f)))))
    (.leaf (.inl ()))
def ah5(a:Lv)(b:Bool)(c:List Int)(d:Nat)(e:Nat)(f:Int)(g:Bool)(h:Int)(i:List Int)(j:Nat)(k:List Int)(l:Nat) :Nat×(List Int)×Nat×Nat→aC:=fun (m,n,o,p)=>⟨ae 97 [(2,.ptr 0 1 0 0),(4,.ptr 1 1 0 0),(8,.int .i64 ((m:Nat):Int)),(9,.fn (.func oQ) [] [.ptr 2 1 0 0]),(16,.imm .free (.ns .u64 n) 1 1 o p)],[(0,.vs [.bool false b,.imm a (.ns .u64 c) 1 1 d e,.int .i64 f]),(1,.vs [.bool false g,.nsl,.int .i64 (0:Int)]),(2,.vs [.int .i64 h,.imm .free (.ns .u64 i) 1 1 0 j,.imm .free (.ns .u64 k) 1 1 0 l])],3⟩
def ac2(a:List Int)(b:Nat)(c:List Int)(d:Nat) :T ((Nat×(List Int)×Nat×Nat)⊕(dj)) :=
  .need (aK 0 b a)<|.need (aK 0 d c)<|.need (zL (bv (aa 0 b a) (aa 0 d c)))<|.leaf (.inl ((iH (bv (aa 0 b a) (aa 0 d c))),(gD (bv (aa 0 b a) (aa 0 d c))),(gE (bv (aa 0 b a) (aa 0 d c))),(gF (bv (aa 0 b a) (aa 0 d c)))))
def ah6:Nat×Bool×(List Int)×Nat×Nat×Int→aC:=fun (a,b,c,d,e,f)=>⟨ae 97 [(4,.ptr 0 1 0 0),(5,.int .i64 ((a:Nat):Int))],[(0,.vs [.bool false b,.imm .free (.ns .u64 c) 1 1 d e,.int .i64 f])],1⟩
def ac3(d:Bool)(e:Int)(g:List Int)(h:Nat)(i:List Int)(j:Nat)(f:Nat)(a:List Int)(b:Nat)(c:Nat) :T ((Nat×Bool×(List Int)×Nat×Nat×Int)⊕(dj)) :=
  .need (aK b c a)<|.need (aK 0 h g)<|.need (aK 0 j i)<|.need (nN (bK d (aa b c a) ((f:Nat):Int) e))<|.leaf (.inl ((na (bK d (aa b c a) ((f:Nat):Int) e)),(nc (bK d (aa b c a) ((f:Nat):Int) e)),(ng (bK d (aa b c a) ((f:Nat):Int) e)),(nh (bK d (aa b c a) ((f:Nat):Int) e)),(ni (bK d (aa b c a) ((f:Nat):Int) e)),(nj (bK d (aa b c a) ((f:Nat):Int) e))))
def ac4(a:Nat)(b:Bool)(c:List Int)(d:Nat)(e:Nat)(f:Int) :T ((Empty)⊕(dj)) :=
  .leaf (.inr (.r0 a b c d e f))
def cE(h:Bool)(i:List Int)(j:Int)(k:Bool)(l:List Int)(m:Int) :Option dj:=jP (aB ((ah0 h i j k l m).run) fun (n,f,o,p,q,r,g,s,t,u,v,I) =>
  aB ((acY n o p q r s t u v).run) fun (w,e,a,b,c,d) =>
  aB ((acZ f g w e a b c d).run) fun _ =>
  aB ((ac0 a b c d).run) fun x =>
  aB ((ac1 g e a b c d x).run) fun _ =>
  aB ((ac2 a b c d).run) fun (y,z,A,B) =>
  aB ((ac3 f e a b c d y z A B).run) fun (C,D,E,F,G,H) =>
  (ac4 C D E F G H).run)
theorem ah7(v:Bool)(a:Lv)(o:List Int)(w:Int)(y:Bool)(b:Lv)(p:List Int)(z:Int){x:dj}(h:cE v o w y p z=some x) :ai prog J1 [] [.agg [.bool false v,.imm a (.ns .u64 o) 1 1 0 (List.length o),.int .i64 w],.agg [.bool false y,.imm b (.ns .u64 p) 1 1 0 (List.length p),.int .i64 z]] (Kj x) :=
  kh true Kj Uo h (Sg.cut 2 ow (bf fP (ahZ a b) [⟨[],[0,16,32],[2,3,4,6]⟩,⟨[(.cell 0 1,.lev a)],[0,16,32],[2,3,4,6]⟩,⟨[(.cell 0 1,.lev a),(.cell 16 1,.lev b)],[0,16,32],[2,3,4,6]⟩]) (fun ⟨G,c,d,e,f,g,q,r,s,t,u,i⟩=>Sg.cut 3 ow (bf fP (ah1 a b c d e f g q r s t u i) [⟨[(.cell 2 1,.fre 1 1 (.ns .u64 ([]:List Int)))],[2],[4,5]⟩,⟨[],[0,1,2,131],[2,3,4,7,8]⟩]) (fun ⟨H,j,k,l,m,n⟩=>Sg.cut 5 ow (bf fP (ah2 a b c d e f g q r s t u i j k l m n) [⟨[(.cell 2 1,.fre 1 1 (.ns .u64 ([]:List Int)))],[2],[4,5]⟩,⟨[],[2],[4,5]⟩,⟨[],[0,1,2,3],[2,3,4,7,9]⟩]) (fun _=>Sg.cut 1 ow (bf fP (ah3 a b c d e f g q r s t u i j k l m n) [⟨[],[0,1,2,3],[2,3,4,7,9,12]⟩]) (fun I=>Sg.cut 2 ow (bf fP (ah4 a c d e f g i j k l m n) [⟨[],[2],[4,5]⟩,⟨[],[0,2,3],[2,4,7,9]⟩]) (fun _=>Sg.cut 1 ow (bf fP (ah5 a c d e f g i j k l m n) [⟨[],[0,1,2],[2,4,8,9,16]⟩]) (fun ⟨J,K,L,M⟩=>Sg.cut 1 ow (bf fP ah6 [⟨[],[1],[4,5]⟩]) (fun ⟨N,O,P,Q,R,S⟩=>bf fP kb [⟨[],[0],[4,5]⟩]))))))))
    (fun x=>by cases x with | r0 A B C D E F=>exact jR [.agg [.bool false B,.imm .free (.ns .u64 C) 1 1 D E,.int .i64 F],.int .i64 ((A:Nat):Int)])
def wK:Option dj→Bool
  | some _=>true
  | none=>false
def nO:Option dj→Nat
  | some (.r0 x _ _ _ _ _)=>x
  | _=>0
def pU:Option dj→Bool
  | some (.r0 _ x _ _ _ _)=>x
  | _=>false
def pV:Option dj→List Int
  | some (.r0 _ _ x _ _ _)=>x
  | _=>[]
def pW:Option dj→Nat
  | some (.r0 _ _ _ x _ _)=>x
  | _=>0
def pX:Option dj→Nat
  | some (.r0 _ _ _ _ x _)=>x
  | _=>0
def pY:Option dj→Int
  | some (.r0 _ _ _ _ _ x)=>x
  | _=>0
theorem ah8{x:Option dj}(h:wK x=true) :x=some (.r0 (nO x) (pU x) (pV x) (pW x) (pX x) (pY x)):=by
  unfold wK at h
  split at h<;>first | rfl | (cases h;done) | (rename_i y;cases y;rfl)
def Up:ax:=bx J1 (.cons (.agg (.cons .bool (.cons (.ns .u64) (.cons (.int .i64) .nil)))) (.cons (.agg (.cons .bool (.cons (.ns .u64) (.cons (.int .i64) .nil)))) .nil)) fun t=>(fun q=>[⟨Kj (.r0 (nO q) (pU q) (pV q) (pW q) (pX q) (pY q)),[wK q]⟩]) (cE t.1.1 t.1.2.1.2 t.1.2.2.1 t.2.1.1 t.2.1.2.1.2 t.2.1.2.2.1)
theorem Xf:aI prog Up:=aE fun t=>(aF (fun h=>ah7 t.1.1 t.1.2.1.1 t.1.2.1.2 t.1.2.2.1 t.2.1.1 t.2.1.2.1.1 t.2.1.2.1.2 t.2.1.2.2.1 (ah8 h)) aQ)
def Uq:List ax:=Up::L0
theorem BO:aJ prog (aG Uq):=aj Xf fP
inductive gG where
  | r0 (a:Nat) (b:Bool) (c:List Int) (d:Nat) (e:Nat) (f:Int)
def Ur:gG→AE×aC
  | .r0 a b c d e f=>(.ret,⟨ae 15 [(4,.ptr 0 1 0 0),(5,.int .i64 ((a:Nat):Int))],[(0,.vs [.bool false b,.imm .free (.ns .u64 c) 1 1 d e,.int .i64 f])],1⟩)
theorem ah9:jm Ur:=by intro x;cases x<;>(intro h;cases h)
def Kk:gG→fU
  | .r0 a b c d e f=>⟨.tup [.agg [.bool false b,.imm .free (.ns .u64 c) 1 1 d e,.int .i64 f],.int .i64 ((a:Nat):Int)],[]⟩
def aia:Nat×Bool×(List Int)×Nat×Nat×Int→aC:=fun (a,b,c,d,e,f)=>⟨ae 15 [(4,.ptr 0 1 0 0),(5,.int .i64 ((a:Nat):Int))],[(0,.vs [.bool false b,.imm .free (.ns .u64 c) 1 1 d e,.int .i64 f])],1⟩
def aib(c:Bool)(a:List Int)(d:Int)(e:Bool)(b:List Int)(f:Int) :T ((Nat×Bool×(List Int)×Nat×Nat×Int)⊕(gG)) :=
  .need (aK 0 (List.length a) a)<|.need (aK 0 (List.length b) b)<|.need (wK (cE c (aa 0 (List.length a) a) d (!e) (aa 0 (List.length b) b) f))<|.leaf (.inl ((nO (cE c (aa 0 (List.length a) a) d (!e) (aa 0 (List.length b) b) f)),(pU (cE c (aa 0 (List.length a) a) d (!e) (aa 0 (List.length b) b) f)),(pV (cE c (aa 0 (List.length a) a) d (!e) (aa 0 (List.length b) b) f)),(pW (cE c (aa 0 (List.length a) a) d (!e) (aa 0 (List.length b) b) f)),(pX (cE c (aa 0 (List.length a) a) d (!e) (aa 0 (List.length b) b) f)),(pY (cE c (aa 0 (List.length a) a) d (!e) (aa 0 (List.length b) b) f))))
def aic(a:Nat)(b:Bool)(c:List Int)(d:Nat)(e:Nat)(f:Int) :T ((Empty)⊕(gG)) :=
  .leaf (.inr (.r0 a b c d e f))
def fb(a:Bool)(b:List Int)(c:Int)(d:Bool)(e:List Int)(f:Int) :Option gG:=jP (aB ((aib a b c d e f).run) fun (g,h,i,j,k,l) =>
  (aic g h i j k l).run)
theorem aid(c:Bool)(g:Lv)(a:List Int)(d:Int)(e:Bool)(i:Lv)(b:List Int)(f:Int){x:gG}(h:fb c a d e b f=some x) :ai prog JY [] [.agg [.bool false c,.imm g (.ns .u64 a) 1 1 0 (List.length a),.int .i64 d],.agg [.bool false e,.imm i (.ns .u64 b) 1 1 0 (List.length b),.int .i64 f]] (Kk x) :=
  kh true Kk Ur h (Sg.cut 3 ah9 (bf BO aia [⟨[],[32],[4,5]⟩]) (fun ⟨p,q,r,s,t,u⟩=>bf BO kb [⟨[],[0],[4,5]⟩]))
    (fun x=>by cases x with | r0 j k l m n o=>exact jR [.agg [.bool false k,.imm .free (.ns .u64 l) 1 1 m n,.int .i64 o],.int .i64 ((j:Nat):Int)])
def wL:Option gG→Bool
  | some _=>true
  | none=>false
def vE:Option gG→Nat
  | some (.r0 x _ _ _ _ _)=>x
  | _=>0
def vF:Option gG→Bool
  | some (.r0 _ x _ _ _ _)=>x
  | _=>false
def vG:Option gG→List Int
  | some (.r0 _ _ x _ _ _)=>x
  | _=>[]
def vH:Option gG→Nat
  | some (.r0 _ _ _ x _ _)=>x
  | _=>0
def vI:Option gG→Nat
  | some (.r0 _ _ _ _ x _)=>x
  | _=>0
def vJ:Option gG→Int
  | some (.r0 _ _ _ _ _ x)=>x
  | _=>0
theorem aie{x:Option gG}(h:wL x=true) :x=some (.r0 (vE x) (vF x) (vG x) (vH x) (vI x) (vJ x)):=by
  unfold wL at h
  split at h<;>first | rfl | (cases h;done) | (rename_i y;cases y;rfl)
def Us:ax:=bx JY (.cons (.agg (.cons .bool (.cons (.ns .u64) (.cons (.int .i64) .nil)))) (.cons (.agg (.cons .bool (.cons (.ns .u64) (.cons (.int .i64) .nil)))) .nil)) fun t=>(fun q=>[⟨Kk (.r0 (vE q) (vF q) (vG q) (vH q) (vI q) (vJ q)),[wL q]⟩]) (fb t.1.1 t.1.2.1.2 t.1.2.2.1 t.2.1.1 t.2.1.2.1.2 t.2.1.2.2.1)
theorem Xg:aI prog Us:=aE fun t=>(aF (fun h=>aid t.1.1 t.1.2.1.1 t.1.2.1.2 t.1.2.2.1 t.2.1.1 t.2.1.2.1.1 t.2.1.2.1.2 t.2.1.2.2.1 (aie h)) aQ)
def Ut:List ax:=Us::Uq
theorem pZ:aJ prog (aG Ut):=aj Xg BO
inductive fc where
  | r0 (a:Nat) (b:Bool) (c:List Int) (d:Nat) (e:Nat) (f:Int)
def Uu:fc→AE×aC
  | .r0 a b c d e f=>(.ret,⟨ae 41 [(4,.ptr 0 1 0 0),(5,.int .i64 ((a:Nat):Int))],[(0,.vs [.bool false b,.imm .free (.ns .u64 c) 1 1 d e,.int .i64 f])],1⟩)
theorem GD:jm Uu:=by intro x;cases x<;>(intro h;cases h)
def Kl:fc→fU
  | .r0 a b c d e f=>⟨.tup [.agg [.bool false b,.imm .free (.ns .u64 c) 1 1 d e,.int .i64 f],.int .i64 ((a:Nat):Int)],[]⟩
def aif(a:Lv)(b:Lv) :Nat×Bool×(List Int)×Nat×Nat×Int×Bool×(List Int)×Nat×Nat×Int×Bool→aC:=fun (c,d,e,f,g,h,i,j,k,l,m,n)=>⟨ae 41 [(2,.ptr 0 1 0 0),(3,.ptr 1 1 0 0),(4,.ptr 2 1 0 0),(6,.int .i64 ((c:Nat):Int))],[(0,.vs [.bool false d,.imm a (.ns .u64 e) 1 1 f g,.int .i64 h]),(1,.vs [.bool false i,.imm b (.ns .u64 j) 1 1 k l,.int .i64 m]),(2,.vs [.bool false n,.nsl,.int .i64 (0:Int)])],3⟩
def PK(d : Bool)(a : List Int)(c : Int)(f : Bool)(b : List Int)(e : Int) : T ((Nat × Bool × (List Int) × Nat × Nat × Int × Bool × (List Int) × Nat × Nat × Int × Bool) ⊕ (fc)) :=
  .ask (decide ((0:Int)<(2:Int)))
    (.need (fp (0:Int) 2)<|.need (aK 0 (List.length a) a)<|.need (iS (di (aa 0 (List.length a) a) c))<|.ask (!(gr (di (aa 0 (List.length a) a) c)))
      (.leaf (.inl (2,d,a,0,(List.length a),c,f,b,0,(List.length b),e,false)))
      (.need (aK 0 (List.length a) a)<|.need (eT (au d (aa 0 (List.length a) a) c))<|.need (cV .i64 (1:Int))<|.ask (decide ((1:Int)<(2:Int)))
        (.need (fp (1:Int) 2)<|.need (aK 0 (List.length b) b)<|.need (iS (di (aa 0 (List.length b) b) e))<|.ask (!(gr (di (aa 0 (List.length b) b) e)))
          (.leaf (.inl (2,(cz (au d (aa 0 (List.length a) a) c)),(cA (au d (aa 0 (List.length a) a) c)),(cB (au d (aa 0 (List.length a) a) c)),(cC (au d (aa 0 (List.length a) a) c)),(cD (au d (aa 0 (List.length a) a) c)),f,b,0,(List.length b),e,false)))
          (.need (aK 0 (List.length b) b)<|.need (eT (au f (aa 0 (List.length b) b) e))<|.need (cV .i64 (2:Int))<|.ask (decide ((2:Int)<(2:Int)))
            (.fail)
            (.leaf (.inl (0,(cz (au d (aa 0 (List.length a) a) c)),(cA (au d (aa 0 (List.length a) a) c)),(cB (au d (aa 0 (List.length a) a) c)),(cC (au d (aa 0 (List.length a) a) c)),(cD (au d (aa 0 (List.length a) a) c)),(cz (au f (aa 0 (List.length b) b) e)),(cA (au f (aa 0 (List.length b) b) e)),(cB (au f (aa 0 (List.length b) b) e)),(cC (au f (aa 0 (List.length b) b) e)),(cD (au f (aa 0 (List.length b) b) e)),false)))))
        (.fail)))
    (.fail)
def aig(a:Lv)(b:Lv)(c:Bool)(d:List Int)(e:Nat)(f:Nat)(g:Int)(h:Bool)(i:List Int)(j:Nat)(k:Nat)(l:Int)(m:Bool) :(List Int)×Nat×Nat×Nat→aC:=fun (n,o,p,q)=>⟨ae 41 [(2,.ptr 0 1 0 0),(3,.ptr 1 1 0 0),(4,.ptr 2 1 0 0),(7,.imm .free (.ns .u64 n) 1 1 o p),(8,.int .i64 ((q:Nat):Int))],[(0,.vs [.bool false c,.imm a (.ns .u64 d) 1 1 e f,.int .i64 g]),(1,.vs [.bool false h,.imm b (.ns .u64 i) 1 1 j k,.int .i64 l]),(2,.vs [.bool false m,.nsl,.int .i64 (0:Int)])],3⟩
def GE(g:Nat)(a:List Int)(b:Nat)(c:Nat)(d:List Int)(e:Nat)(f:Nat) :T (((List Int)×Nat×Nat×Nat)⊕(fc)) :=
  .ask (((g:Nat):Int) != (0:Int))
    (.leaf (.inr (.r0 g false ([]:List Int) 0 0 (0:Int))))
    (.need (aK b c a)<|.need (aK e f d)<|.need (DX (rO (aa b c a) (aa e f d)))<|.leaf (.inl ((D1 (rO (aa b c a) (aa e f d))),(DY (rO (aa b c a) (aa e f d))),(DZ (rO (aa b c a) (aa e f d))),(D0 (rO (aa b c a) (aa e f d))))))
def aih:Nat×Bool×(List Int)×Nat×Nat×Int→aC:=fun (a,b,c,d,e,f)=>⟨ae 41 [(4,.ptr 0 1 0 0),(5,.int .i64 ((a:Nat):Int))],[(0,.vs [.bool false b,.imm .free (.ns .u64 c) 1 1 d e,.int .i64 f])],1⟩
def GF(f:Bool)(a:Int)(g:Bool)(b:Int)(c:List Int)(d:Nat)(e:Nat)(h:Nat) :T ((Nat×Bool×(List Int)×Nat×Nat×Int)⊕(fc)) :=
  .ask (((h:Nat):Int) != (0:Int))
    (.leaf (.inr (.r0 3 false ([]:List Int) 0 0 (0:Int))))
    (.need (cV .i64 (a+b))<|.need (aK d e c)<|.need (oZ (bM (!(f==g)) (aa d e c) (a+b)))<|.leaf (.inl ((om (bM (!(f==g)) (aa d e c) (a+b))),(oo (bM (!(f==g)) (aa d e c) (a+b))),(oq (bM (!(f==g)) (aa d e c) (a+b))),(ot (bM (!(f==g)) (aa d e c) (a+b))),(ou (bM (!(f==g)) (aa d e c) (a+b))),(ov (bM (!(f==g)) (aa d e c) (a+b))))))
def aii(a:Nat)(b:Bool)(c:List Int)(d:Nat)(e:Nat)(f:Int) :T ((Empty)⊕(fc)) :=
  .leaf (.inr (.r0 a b c d e f))
def an(a:Bool)(b:List Int)(c:Int)(d:Bool)(e:List Int)(f:Int) :Option fc:=jP (aB ((PK a b c d e f).run) fun (g,h,i,j,k,l,m,n,o,p,q,B) =>
  aB ((GE g i j k n o p).run) fun (r,s,t,u) =>
  aB ((GF h l m q r s t u).run) fun (v,w,x,y,z,A) =>
  (aii v w x y z A).run)
theorem aij(e:Bool)(a:Lv)(c:List Int)(f:Int)(g:Bool)(b:Lv)(d:List Int)(i:Int){x:fc}(h:an e c f g d i=some x) :ai prog JV [] [.agg [.bool false e,.imm a (.ns .u64 c) 1 1 0 (List.length c),.int .i64 f],.agg [.bool false g,.imm b (.ns .u64 d) 1 1 0 (List.length d),.int .i64 i]] (Kl x) :=
  kh true Kl Uu h (Sg.cut 2 GD (bf pZ (aif a b) [⟨[],[0,16,32],[2,3,4,6]⟩,⟨[(.cell 0 1,.lev a)],[0,16,32],[2,3,4,6]⟩,⟨[(.cell 0 1,.lev a),(.cell 16 1,.lev b)],[0,16,32],[2,3,4,6]⟩]) (fun ⟨B,j,k,l,m,n,o,p,q,r,s,t⟩=>Sg.cut 3 GD (bf pZ (aig a b j k l m n o p q r s t) [⟨[(.cell 2 1,.fre 1 1 (.ns .u64 ([]:List Int)))],[2],[4,5]⟩,⟨[],[0,1,2],[2,3,4,7,8]⟩]) (fun ⟨C,D,E,F⟩=>Sg.cut 3 GD (bf pZ aih [⟨[(.cell 2 1,.fre 1 1 (.ns .u64 ([]:List Int)))],[2],[4,5]⟩,⟨[],[2],[4,5]⟩]) (fun ⟨G,H,I,J,K,L⟩=>bf pZ kb [⟨[],[0],[4,5]⟩]))))
    (fun x=>by cases x with | r0 u v w y z A=>exact jR [.agg [.bool false v,.imm .free (.ns .u64 w) 1 1 y z,.int .i64 A],.int .i64 ((u:Nat):Int)])
def mf:Option fc→Bool
  | some _=>true
  | none=>false
def lg:Option fc→Nat
  | some (.r0 x _ _ _ _ _)=>x
  | _=>0
def bP:Option fc→Bool
  | some (.r0 _ x _ _ _ _)=>x
  | _=>false
def bH:Option fc→List Int
  | some (.r0 _ _ x _ _ _)=>x
  | _=>[]
def bI:Option fc→Nat
  | some (.r0 _ _ _ x _ _)=>x
  | _=>0
def bJ:Option fc→Nat
  | some (.r0 _ _ _ _ x _)=>x
  | _=>0
def bQ:Option fc→Int
  | some (.r0 _ _ _ _ _ x)=>x
  | _=>0
theorem aik{x:Option fc}(h:mf x=true) :x=some (.r0 (lg x) (bP x) (bH x) (bI x) (bJ x) (bQ x)):=by
  unfold mf at h
  split at h<;>first | rfl | (cases h;done) | (rename_i y;cases y;rfl)
def Uv:ax:=bx JV (.cons (.agg (.cons .bool (.cons (.ns .u64) (.cons (.int .i64) .nil)))) (.cons (.agg (.cons .bool (.cons (.ns .u64) (.cons (.int .i64) .nil)))) .nil)) fun t=>(fun q=>[⟨Kl (.r0 (lg q) (bP q) (bH q) (bI q) (bJ q) (bQ q)),[mf q]⟩]) (an t.1.1 t.1.2.1.2 t.1.2.2.1 t.2.1.1 t.2.1.2.1.2 t.2.1.2.2.1)
theorem Xh:aI prog Uv:=aE fun t=>(aF (fun h=>aij t.1.1 t.1.2.1.1 t.1.2.1.2 t.1.2.2.1 t.2.1.1 t.2.1.2.1.1 t.2.1.2.1.2 t.2.1.2.2.1 (aik h)) aQ)
def Uw:List ax:=Uv::Ut
theorem II:aJ prog (aG Uw):=aj Xh pZ
inductive mg where
  | r0 (a:Int)
def ail:mg→AE×aC
  | .r0 a=>(.ret,⟨ae 11 [(2,.int .i64 a)],[],0⟩)
def GG:mg→fU
  | .r0 a=>⟨.int .i64 a,[]⟩
def L4(a:Bool)(b:List Int) :T ((Empty)⊕(mg)) :=
  .ask ((((List.length b):Nat):Int)==(0:Int))
    (.leaf (.inr (.r0 (0:Int))))
    (.ask a
      (.leaf (.inr (.r0 (-1:Int))))
      (.leaf (.inr (.r0 (1:Int)))))
def gg(a:Bool)(b:List Int) :Option mg:=jP ((L4 a b).run)
theorem ac5(b:Bool)(c:Lv)(a:List Int)(d:Int){x:mg}(h:gg b a=some x) :ai prog F5 [] [.agg [.bool false b,.imm c (.ns .u64 a) 1 1 0 (List.length a),.int .i64 d]] (GG x) :=
  kh true GG ail h (bf II kb [⟨[],[],[2]⟩,⟨[],[],[2]⟩,⟨[],[],[2]⟩])
    (fun x=>by cases x with | r0 e=>exact jR [.int .i64 e])
def iI:Option mg→Bool
  | some _=>true
  | none=>false
def eB:Option mg→Int
  | some (.r0 x)=>x
  | _=>0
theorem ac6{x:Option mg}(h:iI x=true) :x=some (.r0 (eB x)):=by
  unfold iI at h
  split at h<;>first | rfl | (cases h;done) | (rename_i y;cases y;rfl)
def PL:ax:=bx F5 (.cons (.agg (.cons .bool (.cons (.ns .u64) (.cons (.int .i64) .nil)))) .nil) fun t=>(fun q=>[⟨GG (.r0 (eB q)),[iI q]⟩]) (gg t.1.1 t.1.2.1.2)
theorem Ux:aI prog PL:=aE fun t=>(aF (fun h=>ac5 t.1.1 t.1.2.1.1 t.1.2.1.2 t.1.2.2.1 (ac6 h)) aQ)
def PM:List ax:=PL::Uw
theorem lI:aJ prog (aG PM):=aj Ux II
inductive iy where
  | r0 (a:Int) (b:Nat)
def Uy:iy→AE×aC
  | .r0 a b=>(.ret,⟨ae 52 [(4,.int .i64 a),(5,.int .i64 ((b:Nat):Int))],[],0⟩)
theorem Bb:jm Uy:=by intro x;cases x<;>(intro h;cases h)
def Km:iy→fU
  | .r0 a b=>⟨.tup [.int .i64 a,.int .i64 ((b:Nat):Int)],[]⟩
def aim(a:Lv)(b:Lv) :Nat×Bool×(List Int)×Nat×Nat×Int×Bool×(List Int)×Nat×Nat×Int→aC:=fun (c,d,e,f,g,h,i,j,k,l,m)=>⟨ae 52 [(2,.ptr 0 1 0 0),(3,.ptr 1 1 0 0),(6,.int .i64 ((c:Nat):Int))],[(0,.vs [.bool false d,.imm a (.ns .u64 e) 1 1 f g,.int .i64 h]),(1,.vs [.bool false i,.imm b (.ns .u64 j) 1 1 k l,.int .i64 m])],2⟩
def PN(d : Bool)(a : List Int)(c : Int)(f : Bool)(b : List Int)(e : Int) : T ((Nat × Bool × (List Int) × Nat × Nat × Int × Bool × (List Int) × Nat × Nat × Int) ⊕ (iy)) :=
  .ask (decide ((0:Int)<(2:Int)))
    (.need (fp (0:Int) 2)<|.need (aK 0 (List.length a) a)<|.need (iS (di (aa 0 (List.length a) a) c))<|.ask (!(gr (di (aa 0 (List.length a) a) c)))
      (.leaf (.inl (2,d,a,0,(List.length a),c,f,b,0,(List.length b),e)))
      (.need (aK 0 (List.length a) a)<|.need (eT (au d (aa 0 (List.length a) a) c))<|.need (cV .i64 (1:Int))<|.ask (decide ((1:Int)<(2:Int)))
        (.need (fp (1:Int) 2)<|.need (aK 0 (List.length b) b)<|.need (iS (di (aa 0 (List.length b) b) e))<|.ask (!(gr (di (aa 0 (List.length b) b) e)))
          (.leaf (.inl (2,(cz (au d (aa 0 (List.length a) a) c)),(cA (au d (aa 0 (List.length a) a) c)),(cB (au d (aa 0 (List.length a) a) c)),(cC (au d (aa 0 (List.length a) a) c)),(cD (au d (aa 0 (List.length a) a) c)),f,b,0,(List.length b),e)))
          (.need (aK 0 (List.length b) b)<|.need (eT (au f (aa 0 (List.length b) b) e))<|.need (cV .i64 (2:Int))<|.ask (decide ((2:Int)<(2:Int)))
            (.fail)
            (.leaf (.inl (0,(cz (au d (aa 0 (List.length a) a) c)),(cA (au d (aa 0 (List.length a) a) c)),(cB (au d (aa 0 (List.length a) a) c)),(cC (au d (aa 0 (List.length a) a) c)),(cD (au d (aa 0 (List.length a) a) c)),(cz (au f (aa 0 (List.length b) b) e)),(cA (au f (aa 0 (List.length b) b) e)),(cB (au f (aa 0 (List.length b) b) e)),(cC (au f (aa 0 (List.length b) b) e)),(cD (au f (aa 0 (List.length b) b) e)))))))
        (.fail)))
    (.fail)
def ain(a:Lv)(b:Lv)(c:Bool)(d:List Int)(e:Nat)(f:Nat)(g:Int)(h:Bool)(i:List Int)(j:Nat)(k:Nat)(l:Int) :Nat×Int×(List Int)×Nat×(List Int)×Nat→aC:=fun (m,n,o,p,q,r)=>⟨ae 52 [(2,.ptr 0 1 0 0),(3,.ptr 1 1 0 0),(7,.ptr 2 1 0 0),(8,.int .i64 ((m:Nat):Int))],[(0,.vs [.bool false c,.imm a (.ns .u64 d) 1 1 e f,.int .i64 g]),(1,.vs [.bool false h,.imm b (.ns .u64 i) 1 1 j k,.int .i64 l]),(2,.vs [.int .i64 n,.imm .free (.ns .u64 o) 1 1 0 p,.imm .free (.ns .u64 q) 1 1 0 r])],3⟩
def GH(i:Nat)(a:List Int)(b:Nat)(c:Nat)(g:Int)(d:List Int)(e:Nat)(f:Nat)(h:Int) :T ((Nat×Int×(List Int)×Nat×(List Int)×Nat)⊕(iy)) :=
  .ask (((i:Nat):Int) != (0:Int))
    (.leaf (.inr (.r0 (0:Int) i)))
    (.need (aK b c a)<|.need (aK e f d)<|.need (pT (cP (aa b c a) g (aa e f d) h))<|.leaf (.inl ((qN (cP (aa b c a) g (aa e f d) h)),(qO (cP (aa b c a) g (aa e f d) h)),(qP (cP (aa b c a) g (aa e f d) h)),(qQ (cP (aa b c a) g (aa e f d) h)),(qR (cP (aa b c a) g (aa e f d) h)),(qS (cP (aa b c a) g (aa e f d) h)))))
def aio(a:Lv)(b:Lv)(c:Bool)(d:List Int)(e:Nat)(f:Nat)(g:Int)(h:Bool)(i:List Int)(j:Nat)(k:Nat)(l:Int)(m:Int) :aC:=⟨ae 52 [(2,.ptr 0 1 0 0),(3,.ptr 1 1 0 0),(9,.int .i64 m)],[(0,.vs [.bool false c,.imm a (.ns .u64 d) 1 1 e f,.int .i64 g]),(1,.vs [.bool false h,.imm b (.ns .u64 i) 1 1 j k,.int .i64 l])],2⟩
def GI(e:Nat)(a:List Int)(b:Nat)(c:List Int)(d:Nat) :T ((Int)⊕(iy)) :=
  .ask (((e:Nat):Int) != (0:Int))
    (.leaf (.inr (.r0 (0:Int) e)))
    (.need (aK 0 b a)<|.need (aK 0 d c)<|.need (zJ (uE (aa 0 b a) (aa 0 d c)))<|.leaf (.inl (yz (uE (aa 0 b a) (aa 0 d c)))))
def aip(a:Int)(_:Unit) :aC:=⟨ae 52 [(9,.int .i64 a)],[],0⟩
def rQ(g:Bool)(a:List Int)(b:Nat)(c:Nat)(h:Bool)(d:List Int)(e:Nat)(f:Nat)(i:Int) :T ((Unit)⊕(iy)) :=
  .need (aK b c a)<|.need (iI (gg g (aa b c a)))<|.need (aK e f d)<|.need (iI (gg h (aa e f d)))<|.ask ((eB (gg g (aa b c a))) != (eB (gg h (aa e f d))))
    (.need (aK b c a)<|.need (iI (gg g (aa b c a)))<|.need (aK e f d)<|.need (iI (gg h (aa e f d)))<|.need (cV .i64 ((eB (gg g (aa b c a)))-(eB (gg h (aa e f d)))))<|.leaf (.inr (.r0 (nZ (-1:Int) (uu (1:Int) ((eB (gg g (aa b c a)))-(eB (gg h (aa e f d)))))) 0)))
    (.ask g
      (.need (cV .i64 ((0:Int)-i))<|.leaf (.inr (.r0 ((0:Int)-i) 0)))
      (.leaf (.inl ())))
def ac7(a:Int) :T ((Empty)⊕(iy)) :=
  .leaf (.inr (.r0 a 0))
def ox(h:Bool)(i:List Int)(j:Int)(k:Bool)(l:List Int)(m:Int) :Option iy:=jP (aB ((PN h i j k l m).run) fun (n,o,a,b,c,p,q,d,e,f,r) =>
  aB ((GH n a b c p d e f r).run) fun (s,x,t,u,v,w) =>
  aB ((GI s t u v w).run) fun g =>
  aB ((rQ o a b c q d e f g).run) fun _ =>
  (ac7 g).run)
theorem aiq(e:Bool)(a:Lv)(c:List Int)(f:Int)(g:Bool)(b:Lv)(d:List Int)(i:Int){x:iy}(h:ox e c f g d i=some x) :ai prog JW [] [.agg [.bool false e,.imm a (.ns .u64 c) 1 1 0 (List.length c),.int .i64 f],.agg [.bool false g,.imm b (.ns .u64 d) 1 1 0 (List.length d),.int .i64 i]] (Km x) :=
  kh true Km Uy h (Sg.cut 2 Bb (bf lI (aim a b) [⟨[],[0,16],[2,3,6]⟩,⟨[(.cell 0 1,.lev a)],[0,16],[2,3,6]⟩,⟨[(.cell 0 1,.lev a),(.cell 16 1,.lev b)],[0,16],[2,3,6]⟩]) (fun ⟨w,j,k,l,m,n,o,p,q,r,s⟩=>Sg.cut 3 Bb (bf lI (ain a b j k l m n o p q r s) [⟨[],[],[4,5]⟩,⟨[],[0,1,130],[2,3,7,8]⟩]) (fun ⟨y,z,A,B,C,D⟩=>Sg.cut 3 Bb (bf lI (aio a b j k l m n o p q r s) [⟨[],[],[4,5]⟩,⟨[],[0,1],[2,3,9]⟩]) (fun t=>Sg.cut 1 Bb (bf lI (aip t) [⟨[],[],[4,5]⟩,⟨[],[],[4,5]⟩,⟨[],[],[9]⟩]) (fun _=>bf lI kb [⟨[],[],[4,5]⟩])))))
    (fun x=>by cases x with | r0 u v=>exact jR [.int .i64 u,.int .i64 ((v:Nat):Int)])
def wM:Option iy→Bool
  | some _=>true
  | none=>false
def vK:Option iy→Int
  | some (.r0 x _)=>x
  | _=>0
def BP:Option iy→Nat
  | some (.r0 _ x)=>x
  | _=>0
theorem air{x:Option iy}(h:wM x=true) :x=some (.r0 (vK x) (BP x)):=by
  unfold wM at h
  split at h<;>first | rfl | (cases h;done) | (rename_i y;cases y;rfl)
def Uz:ax:=bx JW (.cons (.agg (.cons .bool (.cons (.ns .u64) (.cons (.int .i64) .nil)))) (.cons (.agg (.cons .bool (.cons (.ns .u64) (.cons (.int .i64) .nil)))) .nil)) fun t=>(fun q=>[⟨Km (.r0 (vK q) (BP q)),[wM q]⟩]) (ox t.1.1 t.1.2.1.2 t.1.2.2.1 t.2.1.1 t.2.1.2.1.2 t.2.1.2.2.1)
theorem Xi:aI prog Uz:=aE fun t=>(aF (fun h=>aiq t.1.1 t.1.2.1.1 t.1.2.1.2 t.1.2.2.1 t.2.1.1 t.2.1.2.1.1 t.2.1.2.1.2 t.2.1.2.2.1 (air h)) aQ)
def UA:List ax:=Uz::PM
theorem qa:aJ prog (aG UA):=aj Xi lI
inductive db where
  | r0 (a:Nat) (b:Bool) (c:List Int) (d:Nat) (e:Nat) (f:Int)
def L5:db→AE×aC
  | .r0 a b c d e f=>(.ret,⟨ae 30 [(4,.ptr 0 1 0 0),(5,.int .i64 ((a:Nat):Int))],[(0,.vs [.bool false b,.imm .free (.ns .u64 c) 1 1 d e,.int .i64 f])],1⟩)
theorem BQ:jm L5:=by intro x;cases x<;>(intro h;cases h)
def El:db→fU
  | .r0 a b c d e f=>⟨.tup [.agg [.bool false b,.imm .free (.ns .u64 c) 1 1 d e,.int .i64 f],.int .i64 ((a:Nat):Int)],[]⟩
def Xj(a:Lv)(b:Int) :Nat×Bool×(List Int)×Nat×Nat×Int×Bool→aC:=fun (c,d,e,f,g,h,i)=>⟨ae 30 [(1,.int .i64 b),(2,.ptr 0 1 0 0),(4,.ptr 1 1 0 0),(6,.int .i64 ((c:Nat):Int))],[(0,.vs [.bool false d,.imm a (.ns .u64 e) 1 1 f g,.int .i64 h]),(1,.vs [.bool false i,.nsl,.int .i64 (0:Int)])],2⟩
def Xk(c:Bool)(a:List Int)(b:Int) :T ((Nat×Bool×(List Int)×Nat×Nat×Int×Bool)⊕(db)) :=
  .ask (decide ((0:Int)<(1:Int)))
    (.need (fp (0:Int) 1)<|.need (aK 0 (List.length a) a)<|.need (iS (di (aa 0 (List.length a) a) b))<|.ask (!(gr (di (aa 0 (List.length a) a) b)))
      (.leaf (.inl (2,c,a,0,(List.length a),b,false)))
      (.need (aK 0 (List.length a) a)<|.need (eT (au c (aa 0 (List.length a) a) b))<|.need (cV .i64 (1:Int))<|.ask (decide ((1:Int)<(1:Int)))
        (.fail)
        (.leaf (.inl (0,(cz (au c (aa 0 (List.length a) a) b)),(cA (au c (aa 0 (List.length a) a) b)),(cB (au c (aa 0 (List.length a) a) b)),(cC (au c (aa 0 (List.length a) a) b)),(cD (au c (aa 0 (List.length a) a) b)),false)))))
    (.fail)
def Xl(a:Lv)(b:Int)(c:Nat)(d:Bool)(e:List Int)(f:Nat)(g:Nat)(h:Int)(i:Bool)(j:Bool) :aC:=⟨ae 30 [(1,.int .i64 b),(2,.ptr 0 1 0 0),(4,.ptr 1 1 0 0),(6,.int .i64 ((c:Nat):Int)),(16,.bool false j)],[(0,.vs [.bool false d,.imm a (.ns .u64 e) 1 1 f g,.int .i64 h]),(1,.vs [.bool false i,.nsl,.int .i64 (0:Int)])],2⟩
def Xm(a:Nat)(b:Nat) :T ((Bool)⊕(db)) :=
  .ask (((a:Nat):Int) != (0:Int))
    (.leaf (.inl true))
    (.leaf (.inl (((b:Nat):Int)==(0:Int))))
def Xn:Nat×Bool×(List Int)×Nat×Nat×Int→aC:=fun (a,b,c,d,e,f)=>⟨ae 30 [(4,.ptr 0 1 0 0),(5,.int .i64 ((a:Nat):Int))],[(0,.vs [.bool false b,.imm .free (.ns .u64 c) 1 1 d e,.int .i64 f])],1⟩
def Xo(a:Int)(g:Nat)(f:Bool)(b:List Int)(c:Nat)(d:Nat)(e:Int)(h:Bool) :T ((Nat×Bool×(List Int)×Nat×Nat×Int)⊕(db)) :=
  .ask h
    (.leaf (.inr (.r0 g false ([]:List Int) 0 0 (0:Int))))
    (.need (cV .i64 (e+(nZ (-1048576:Int) (uu (1048576:Int) a))))<|.need (aK c d b)<|.need (oZ (bM f (aa c d b) (e+(nZ (-1048576:Int) (uu (1048576:Int) a)))))<|.leaf (.inl ((om (bM f (aa c d b) (e+(nZ (-1048576:Int) (uu (1048576:Int) a))))),(oo (bM f (aa c d b) (e+(nZ (-1048576:Int) (uu (1048576:Int) a))))),(oq (bM f (aa c d b) (e+(nZ (-1048576:Int) (uu (1048576:Int) a))))),(ot (bM f (aa c d b) (e+(nZ (-1048576:Int) (uu (1048576:Int) a))))),(ou (bM f (aa c d b) (e+(nZ (-1048576:Int) (uu (1048576:Int) a))))),(ov (bM f (aa c d b) (e+(nZ (-1048576:Int) (uu (1048576:Int) a))))))))
def Xp(a:Nat)(b:Bool)(c:List Int)(d:Nat)(e:Nat)(f:Int) :T ((Empty)⊕(db)) :=
  .leaf (.inr (.r0 a b c d e f))
def jr(c:Bool)(d:List Int)(e:Int)(f:Int) :Option db:=jP (aB ((Xk c d e).run) fun (a,g,h,i,b,j,r) =>
  aB ((Xm a b).run) fun k =>
  aB ((Xo f a g h i b j k).run) fun (l,m,n,o,p,q) =>
  (Xp l m n o p q).run)
theorem Xq(d:Bool)(a:Lv)(c:List Int)(e:Int)(b:Int){x:db}(h:jr d c e b=some x) :ai prog Dy [] [.agg [.bool false d,.imm a (.ns .u64 c) 1 1 0 (List.length c),.int .i64 e],.int .i64 b] (El x) :=
  kh true El L5 h (Sg.cut 2 BQ (bf qa (Xj a b) [⟨[],[0,16],[1,2,4,6]⟩,⟨[(.cell 0 1,.lev a)],[0,16],[1,2,4,6]⟩]) (fun ⟨f,g,i,j,k,l,m⟩=>Sg.cut 1 BQ (bf qa (Xl a b f g i j k l m) [⟨[],[0,1],[1,2,4,6,16]⟩,⟨[],[0,1],[1,2,4,6,16]⟩]) (fun t=>Sg.cut 3 BQ (bf qa Xn [⟨[(.cell 1 1,.fre 1 1 (.ns .u64 ([]:List Int)))],[1],[4,5]⟩,⟨[],[1],[4,5]⟩]) (fun ⟨u,v,w,y,z,A⟩=>bf qa kb [⟨[],[0],[4,5]⟩]))))
    (fun x=>by cases x with | r0 n o p q r s=>exact jR [.agg [.bool false o,.imm .free (.ns .u64 p) 1 1 q r,.int .i64 s],.int .i64 ((n:Nat):Int)])
def vL:Option db→Bool
  | some _=>true
  | none=>false
def xe:Option db→Nat
  | some (.r0 x _ _ _ _ _)=>x
  | _=>0
def xf:Option db→Bool
  | some (.r0 _ x _ _ _ _)=>x
  | _=>false
def xg:Option db→List Int
  | some (.r0 _ _ x _ _ _)=>x
  | _=>[]
def xh:Option db→Nat
  | some (.r0 _ _ _ x _ _)=>x
  | _=>0
def xi:Option db→Nat
  | some (.r0 _ _ _ _ x _)=>x
  | _=>0
def xj:Option db→Int
  | some (.r0 _ _ _ _ _ x)=>x
  | _=>0
theorem Xr{x:Option db}(h:vL x=true) :x=some (.r0 (xe x) (xf x) (xg x) (xh x) (xi x) (xj x)):=by
  unfold vL at h
  split at h<;>first | rfl | (cases h;done) | (rename_i y;cases y;rfl)
def L6:ax:=bx Dy (.cons (.agg (.cons .bool (.cons (.ns .u64) (.cons (.int .i64) .nil)))) (.cons (.int .i64) .nil)) fun t=>(fun q=>[⟨El (.r0 (xe q) (xf q) (xg q) (xh q) (xi q) (xj q)),[vL q]⟩]) (jr t.1.1 t.1.2.1.2 t.1.2.2.1 t.2.1)
theorem QO:aI prog L6:=aE fun t=>(aF (fun h=>Xq t.1.1 t.1.2.1.1 t.1.2.1.2 t.1.2.2.1 t.2.1 (Xr h)) aQ)
def L7:List ax:=L6::UA
theorem qU:aJ prog (aG L7):=aj QO qa
inductive dZ where
  | r0 (a:Bool) (b:List Int) (c:Nat) (d:Nat) (e:Int)
def L8:dZ→AE×aC
  | .r0 a b c d e=>(.ret,⟨ae 16 [(2,.ptr 0 1 0 0)],[(0,.vs [.bool false a,.imm .free (.ns .u64 b) 1 1 c d,.int .i64 e])],1⟩)
theorem IJ:jm L8:=by intro x;cases x<;>(intro h;cases h)
def Em:dZ→fU
  | .r0 a b c d e=>⟨.agg [.bool false a,.imm .free (.ns .u64 b) 1 1 c d,.int .i64 e],[]⟩
def Xs(a:Int) :Int×Bool→aC:=fun (b,c)=>⟨ae 16 [(0,.int .i64 a),(2,.ptr 0 1 0 0),(3,.int .u64 b)],[(0,.vs [.bool false c,.nsl,.int .i64 (0:Int)])],1⟩
def Xt(a:Int) :T ((Int×Bool)⊕(dZ)) :=
  .ask (decide (a<(0:Int)))
    (.leaf (.inl ((IntKind.u64.wrap ((0:Int)-(IntKind.u64.wrap a))),false)))
    (.leaf (.inl ((IntKind.u64.wrap a),false)))
def Xu:Bool×(List Int)×Nat×Nat×Int→aC:=fun (a,b,c,d,e)=>⟨ae 16 [(2,.ptr 0 1 0 0)],[(0,.vs [.bool false a,.imm .free (.ns .u64 b) 1 1 c d,.int .i64 e])],1⟩
def Xv(b:Int)(a:Int) :T ((Bool×(List Int)×Nat×Nat×Int)⊕(dZ)) :=
  .need (ze (bt a))<|.need (aK (dD (bt a)) (dE (bt a)) (dF (bt a)))<|.need (eT (au (decide (b<(0:Int))) (aa (dD (bt a)) (dE (bt a)) (dF (bt a))) (0:Int)))<|.leaf (.inl ((cz (au (decide (b<(0:Int))) (aa (dD (bt a)) (dE (bt a)) (dF (bt a))) (0:Int))),(cA (au (decide (b<(0:Int))) (aa (dD (bt a)) (dE (bt a)) (dF (bt a))) (0:Int))),(cB (au (decide (b<(0:Int))) (aa (dD (bt a)) (dE (bt a)) (dF (bt a))) (0:Int))),(cC (au (decide (b<(0:Int))) (aa (dD (bt a)) (dE (bt a)) (dF (bt a))) (0:Int))),(cD (au (decide (b<(0:Int))) (aa (dD (bt a)) (dE (bt a)) (dF (bt a))) (0:Int)))))
def Xw(a:Bool)(b:List Int)(c:Nat)(d:Nat)(e:Int) :T ((Empty)⊕(dZ)) :=
  .leaf (.inr (.r0 a b c d e))
def ck(a:Int) :Option dZ:=jP (aB ((Xt a).run) fun (b,h) =>
  aB ((Xv a b).run) fun (c,d,e,f,g) =>
  (Xw c d e f g).run)
theorem Xx(a:Int){x:dZ}(h:ck a=some x) :ai prog Dr [] [.int .i64 a] (Em x) :=
  kh true Em L8 h (Sg.cut 4 IJ (bf qU (Xs a) [⟨[],[0],[0,2,3]⟩,⟨[],[0],[0,2,3]⟩]) (fun ⟨g,i⟩=>Sg.cut 1 IJ (bf qU Xu [⟨[],[0],[2]⟩]) (fun ⟨j,k,l,m,n⟩=>bf qU kb [⟨[],[0],[2]⟩])))
    (fun x=>by cases x with | r0 b c d e f=>exact jR [.agg [.bool false b,.imm .free (.ns .u64 c) 1 1 d e,.int .i64 f]])
def nP:Option dZ→Bool
  | some _=>true
  | none=>false
def nk:Option dZ→Bool
  | some (.r0 x _ _ _ _)=>x
  | _=>false
def nm:Option dZ→List Int
  | some (.r0 _ x _ _ _)=>x
  | _=>[]
def np:Option dZ→Nat
  | some (.r0 _ _ x _ _)=>x
  | _=>0
def nq:Option dZ→Nat
  | some (.r0 _ _ _ x _)=>x
  | _=>0
def nr:Option dZ→Int
  | some (.r0 _ _ _ _ x)=>x
  | _=>0
theorem Xy{x:Option dZ}(h:nP x=true) :x=some (.r0 (nk x) (nm x) (np x) (nq x) (nr x)):=by
  unfold nP at h
  split at h<;>first | rfl | (cases h;done) | (rename_i y;cases y;rfl)
def L9:ax:=bx Dr (.cons (.int .i64) .nil) fun t=>(fun q=>[⟨Em (.r0 (nk q) (nm q) (np q) (nq q) (nr q)),[nP q]⟩]) (ck t.1)
theorem QP:aI prog L9:=aE fun t=>(aF (fun h=>Xx t.1 (Xy h)) aQ)
def Ma:List ax:=L9::L7
theorem xk:aJ prog (aG Ma):=aj QP qU
inductive js where
  | r0 (a:Nat)
def Mb:js→AE×aC
  | .r0 a=>(.ret,⟨ae 26 [(2,.int .i64 ((a:Nat):Int))],[],0⟩)
theorem Xz:jm Mb:=by intro x;cases x<;>(intro h;cases h)
def En:js→fU
  | .r0 a=>⟨.int .i64 ((a:Nat):Int),[]⟩
def XA(_:Unit) :aC:=⟨ae 26 [],[],0⟩
def vM(a : Int) : T ((Unit) ⊕ (js)) :=
  .need (decide ((0:Int)≤(52:Int)))<|.ask ((cq .and .u64 (Int.fdiv a (2^(min (Int.toNat (52:Int)) (IntKind.u64.bits)))) (2047:Int))==(2047:Int))
    (.ask ((cq .and .u64 a (4503599627370495:Int)) != (0:Int))
      (.leaf (.inr (.r0 5)))
      (.ask ((cq .and .u64 (Int.fdiv a (2^(min (Int.toNat (52:Int)) (IntKind.u64.bits)))) (2047:Int))==(2047:Int))
        (.leaf (.inr (.r0 4)))
        (.ask ((cq .and .u64 (Int.fdiv a (2^(min (Int.toNat (52:Int)) (IntKind.u64.bits)))) (2047:Int)) != (0:Int))
          (.leaf (.inr (.r0 3)))
          (.ask ((cq .and .u64 a (4503599627370495:Int)) != (0:Int))
            (.leaf (.inr (.r0 2)))
            (.leaf (.inl ()))))))
    (.ask ((cq .and .u64 (Int.fdiv a (2^(min (Int.toNat (52:Int)) (IntKind.u64.bits)))) (2047:Int))==(2047:Int))
      (.leaf (.inr (.r0 4)))
      (.ask ((cq .and .u64 (Int.fdiv a (2^(min (Int.toNat (52:Int)) (IntKind.u64.bits)))) (2047:Int)) != (0:Int))
        (.leaf (.inr (.r0 3)))
        (.ask ((cq .and .u64 a (4503599627370495:Int)) != (0:Int))
          (.leaf (.inr (.r0 2)))
          (.leaf (.inl ())))))
def XB:T ((Empty)⊕(js)) :=
  .leaf (.inr (.r0 1))
def sH(a:Int) :Option js:=jP (aB ((vM a).run) fun _ =>
  (XB).run)
theorem XC(a:Int){x:js}(h:sH a=some x) :ai prog Ls [] [.int .u64 a] (En x) :=
  kh false En Mb h (Sg.cut 3 Xz (bf xk XA [⟨[],[],[2]⟩,⟨[],[],[2]⟩,⟨[],[],[2]⟩,⟨[],[],[2]⟩,⟨[],[],[]⟩,⟨[],[],[2]⟩,⟨[],[],[2]⟩,⟨[],[],[2]⟩,⟨[],[],[]⟩]) (fun _=>bf xk kb [⟨[],[],[2]⟩]))
    (fun x=>by cases x with | r0 b=>exact jR [.int .i64 ((b:Nat):Int)])
def vN:Option js→Bool
  | some _=>true
  | none=>false
def xn:Option js→Nat
  | some (.r0 x)=>x
  | _=>0
theorem XD{x:Option js}(h:vN x=true) :x=some (.r0 (xn x)):=by
  unfold vN at h
  split at h<;>first | rfl | (cases h;done) | (rename_i y;cases y;rfl)
def Mc:ax:=bx Ls (.cons (.int .u64) .nil) fun t=>(fun q=>[⟨En (.r0 (xn q)),[vN q]⟩]) (sH t.1)
theorem QQ:aI prog Mc:=aE fun t=>(aF (fun h=>XC t.1 (XD h)) aQ)
def Md:List ax:=Mc::Ma
theorem xo:aJ prog (aG Md):=aj QQ xk
inductive fQ where
  | r0 (a:Nat) (b:Bool) (c:Int) (d:Int)
def Me:fQ→AE×aC
  | .r0 a b c d=>(.ret,⟨ae 36 [(2,.ptr 0 1 0 0),(3,.int .i64 ((a:Nat):Int))],[(0,.vs [.bool false b,.int .u64 c,.int .i64 d])],1⟩)
theorem XE:jm Me:=by intro x;cases x<;>(intro h;cases h)
def Eo:fQ→fU
  | .r0 a b c d=>⟨.tup [.agg [.bool false b,.int .u64 c,.int .i64 d],.int .i64 ((a:Nat):Int)],[]⟩
def XF(a:Int) :Nat×Bool×Bool×Int→aC:=fun (b,c,d,e)=>⟨ae 36 [(0,.int .u64 a),(2,.ptr 0 1 0 0),(4,.ptr 1 1 0 0),(12,.int .i64 ((b:Nat):Int))],[(0,.vs [.bool false c,.int .u64 (0:Int),.int .i64 (0:Int)]),(1,.vs [.bool false d,.int .u64 e,.int .i64 (-1074:Int)])],2⟩
def IK(a:Int) :T ((Nat×Bool×Bool×Int)⊕(fQ)) :=
  .need (decide ((0:Int)≤(63:Int)))<|.need (vN (sH a))<|.leaf (.inl ((xn (sH a)),false,((Int.fdiv a (2^(min (Int.toNat (63:Int)) (IntKind.u64.bits))))==(1:Int)),(cq .and .u64 a (4503599627370495:Int))))
def BS(a:Int)(b:Nat)(c:Bool)(d:Int) :T ((Empty)⊕(fQ)) :=
  .ask (((b:Nat):Int)==(3:Int))
    (.need (decide ((0:Int)≤(52:Int)))<|.need (cV .i64 ((IntKind.i64.wrap (cq .and .u64 (Int.fdiv a (2^(min (Int.toNat (52:Int)) (IntKind.u64.bits)))) (2047:Int)))-(1:Int)))<|.need (cV .i64 ((-1074:Int)+((IntKind.i64.wrap (cq .and .u64 (Int.fdiv a (2^(min (Int.toNat (52:Int)) (IntKind.u64.bits)))) (2047:Int)))-(1:Int))))<|.leaf (.inr (.r0 0 c (cq .or .u64 d (4503599627370496:Int)) ((-1074:Int)+((IntKind.i64.wrap (cq .and .u64 (Int.fdiv a (2^(min (Int.toNat (52:Int)) (IntKind.u64.bits)))) (2047:Int)))-(1:Int))))))
    (.ask (((b:Nat):Int)==(2:Int))
      (.leaf (.inr (.r0 0 c d (-1074:Int))))
      (.ask (((b:Nat):Int)==(1:Int))
        (.leaf (.inr (.r0 0 c d (0:Int))))
        (.leaf (.inr (.r0 2 false (0:Int) (0:Int))))))
def eU(a:Int) :Option fQ:=jP (aB ((IK a).run) fun (b,e,c,d) =>
  (BS a b c d).run)
theorem XG(a:Int){x:fQ}(h:eU a=some x) :ai prog Ln [] [.int .u64 a] (Eo x) :=
  kh false Eo Me h (Sg.cut 3 XE (bf xo (XF a) [⟨[],[0,128],[0,2,4,12]⟩]) (fun ⟨f,g,i,j⟩=>bf xo kb [⟨[],[0],[2,3]⟩,⟨[],[0],[2,3]⟩,⟨[],[0],[2,3]⟩,⟨[],[0],[2,3]⟩]))
    (fun x=>by cases x with | r0 b c d e=>exact jR [.agg [.bool false c,.int .u64 d,.int .i64 e],.int .i64 ((b:Nat):Int)])
def qb:Option fQ→Bool
  | some _=>true
  | none=>false
def qV:Option fQ→Nat
  | some (.r0 x _ _ _)=>x
  | _=>0
def qW:Option fQ→Bool
  | some (.r0 _ x _ _)=>x
  | _=>false
def qX:Option fQ→Int
  | some (.r0 _ _ x _)=>x
  | _=>0
def qY:Option fQ→Int
  | some (.r0 _ _ _ x)=>x
  | _=>0
theorem XH{x:Option fQ}(h:qb x=true) :x=some (.r0 (qV x) (qW x) (qX x) (qY x)):=by
  unfold qb at h
  split at h<;>first | rfl | (cases h;done) | (rename_i y;cases y;rfl)
def Mf:ax:=bx Ln (.cons (.int .u64) .nil) fun t=>(fun q=>[⟨Eo (.r0 (qV q) (qW q) (qX q) (qY q)),[qb q]⟩]) (eU t.1)
theorem QR:aI prog Mf:=aE fun t=>(aF (fun h=>XG t.1 (XH h)) aQ)
def Mg:List ax:=Mf::Md
theorem qZ:aJ prog (aG Mg):=aj QR xo
inductive iz where
  | r0 (a:Nat) (b:Bool) (c:List Int) (d:Nat) (e:Nat) (f:Int)
def aa5:iz→AE×aC
  | .r0 a b c d e f=>(.ret,⟨ae 25 [(2,.ptr 0 1 0 0),(3,.int .i64 ((a:Nat):Int))],[(0,.vs [.bool false b,.imm .free (.ns .u64 c) 1 1 d e,.int .i64 f])],1⟩)
theorem UB:jm aa5:=by intro x;cases x<;>(intro h;cases h)
def Om:iz→fU
  | .r0 a b c d e f=>⟨.tup [.agg [.bool false b,.imm .free (.ns .u64 c) 1 1 d e,.int .i64 f],.int .i64 ((a:Nat):Int)],[]⟩
def alk:Nat×Bool×Bool×Int×Int→aC:=fun (a,b,c,d,e)=>⟨ae 25 [(2,.ptr 0 1 0 0),(4,.ptr 1 1 0 0),(5,.int .i64 ((a:Nat):Int))],[(0,.vs [.bool false b,.nsl,.int .i64 (0:Int)]),(1,.vs [.bool false c,.int .u64 d,.int .i64 e])],2⟩
def UC(a:Nat) :T ((Nat×Bool×Bool×Int×Int)⊕(iz)) :=
  .ask (fne a a)
    (.need (qb (eU (9221120237041090560:Int)))<|.leaf (.inl ((qV (eU (9221120237041090560:Int))),false,(qW (eU (9221120237041090560:Int))),(qX (eU (9221120237041090560:Int))),(qY (eU (9221120237041090560:Int))))))
    (.alt 0
      (.need (!isNaN a)<|.need (qb (eU ((a:Nat):Int)))<|.leaf (.inl ((qV (eU ((a:Nat):Int))),false,(qW (eU ((a:Nat):Int))),(qX (eU ((a:Nat):Int))),(qY (eU ((a:Nat):Int))))))
      (.fail))
def alm:Bool×(List Int)×Nat×Nat×Int→aC:=fun (a,b,c,d,e)=>⟨ae 25 [(2,.ptr 0 1 0 0),(3,.int .i64 (0:Int))],[(0,.vs [.bool false a,.imm .free (.ns .u64 b) 1 1 c d,.int .i64 e])],1⟩
def Kn(d:Nat)(b:Bool)(a:Int)(c:Int) :T ((Bool×(List Int)×Nat×Nat×Int)⊕(iz)) :=
  .ask (((d:Nat):Int) != (0:Int))
    (.leaf (.inr (.r0 d false ([]:List Int) 0 0 (0:Int))))
    (.need (ze (bt a))<|.need (aK (dD (bt a)) (dE (bt a)) (dF (bt a)))<|.need (eT (au b (aa (dD (bt a)) (dE (bt a)) (dF (bt a))) c))<|.leaf (.inl ((cz (au b (aa (dD (bt a)) (dE (bt a)) (dF (bt a))) c)),(cA (au b (aa (dD (bt a)) (dE (bt a)) (dF (bt a))) c)),(cB (au b (aa (dD (bt a)) (dE (bt a)) (dF (bt a))) c)),(cC (au b (aa (dD (bt a)) (dE (bt a)) (dF (bt a))) c)),(cD (au b (aa (dD (bt a)) (dE (bt a)) (dF (bt a))) c)))))
def aln(a:Bool)(b:List Int)(c:Nat)(d:Nat)(e:Int) :T ((Empty)⊕(iz)) :=
  .leaf (.inr (.r0 0 a b c d e))
def bZ(a:Nat) :Option iz:=jP (aB ((UC a).run) fun (b,k,c,d,e) =>
  aB ((Kn b c d e).run) fun (f,g,h,i,j) =>
  (aln f g h i j).run)
theorem alo(a:Nat){x:iz}(h:bZ a=some x) :ai prog NV [] [.flt false a] (Om x) :=
  kh true Om aa5 h (Sg.cut 2 UB (bf qZ alk [⟨[],[0,128],[2,4,5]⟩,⟨[],[0,128],[2,4,5]⟩]) (fun ⟨i,j,k,l,m⟩=>Sg.cut 3 UB (bf qZ alm [⟨[(.cell 0 1,.fre 1 1 (.ns .u64 ([]:List Int)))],[0],[2,3]⟩,⟨[],[0],[2,3]⟩]) (fun ⟨n,o,p,q,r⟩=>bf qZ kb [⟨[],[0],[2,3]⟩])))
    (fun x=>by cases x with | r0 b c d e f g=>exact jR [.agg [.bool false c,.imm .free (.ns .u64 d) 1 1 e f,.int .i64 g],.int .i64 ((b:Nat):Int)])
def rA:Option iz→Bool
  | some _=>true
  | none=>false
def Mh:Option iz→Nat
  | some (.r0 x _ _ _ _ _)=>x
  | _=>0
def pa:Option iz→Bool
  | some (.r0 _ x _ _ _ _)=>x
  | _=>false
def mr:Option iz→List Int
  | some (.r0 _ _ x _ _ _)=>x
  | _=>[]
def mt:Option iz→Nat
  | some (.r0 _ _ _ x _ _)=>x
  | _=>0
def mu:Option iz→Nat
  | some (.r0 _ _ _ _ x _)=>x
  | _=>0
def pb:Option iz→Int
  | some (.r0 _ _ _ _ _ x)=>x
  | _=>0
theorem alp{x:Option iz}(h:rA x=true) :x=some (.r0 (Mh x) (pa x) (mr x) (mt x) (mu x) (pb x)):=by
  unfold rA at h
  split at h<;>first | rfl | (cases h;done) | (rename_i y;cases y;rfl)
def aa6:ax:=bx NV (.cons (.flt false) .nil) fun t=>(fun q=>[⟨Om (.r0 (Mh q) (pa q) (mr q) (mt q) (mu q) (pb q)),[rA q]⟩]) (bZ t.1)
theorem ac8:aI prog aa6:=aE fun t=>(aF (fun h=>alo t.1 (alp h)) aQ)
def aa7:List ax:=aa6::Mg
theorem Ep:aJ prog (aG aa7):=aj ac8 qZ
inductive jt where
  | r0 (a:Bool)
def Mi:jt→AE×aC
  | .r0 a=>(.ret,⟨ae 32 [(2,.bool false a)],[],0⟩)
theorem XI:jm Mi:=by intro x;cases x<;>(intro h;cases h)
def Er:jt→fU
  | .r0 a=>⟨.bool false a,[]⟩
def XJ(a:Bool) :aC:=⟨ae 32 [(2,.bool false a)],[],0⟩
def XK(a:Int)(b:Int)(c:List Nat) :T ((Bool)⊕(jt)) :=
  .ask (decide (a<(0:Int)))
    (.leaf (.inl true))
    (.ask (decide (a>(512:Int)))
      (.leaf (.inl true))
      (.ask (decide (b<(0:Int)))
        (.leaf (.inl true))
        (.ask (decide (b>(512:Int)))
          (.leaf (.inl true))
          (.need (cV .i64 (a*b))<|.leaf (.inl ((((List.length c):Nat):Int) != (a*b)))))))
def XL(a:Bool) :T ((Empty)⊕(jt)) :=
  .leaf (.inr (.r0 a))
def cm(a:Int)(b:Int)(c:List Nat) :Option jt:=jP (aB ((XK a b c).run) fun d =>
  (XL d).run)
theorem XM(b:Int)(c:Int)(d:Lv)(a:List Nat){x:jt}(h:cm b c a=some x) :ai prog Lr [] [.agg [.int .i64 b,.int .i64 c,.imm d (.fl a) 1 1 0 (List.length a)]] (Er x) :=
  kh false Er Mi h (Sg.cut 2 XI (bf Ep XJ [⟨[],[],[2]⟩,⟨[],[],[2]⟩,⟨[],[],[2]⟩,⟨[],[],[2]⟩,⟨[],[],[2]⟩]) (fun f=>bf Ep kb [⟨[],[],[2]⟩]))
    (fun x=>by cases x with | r0 e=>exact jR [.bool false e])
def eK:Option jt→Bool
  | some _=>true
  | none=>false
def dP:Option jt→Bool
  | some (.r0 x)=>x
  | _=>false
theorem XN{x:Option jt}(h:eK x=true) :x=some (.r0 (dP x)):=by
  unfold eK at h
  split at h<;>first | rfl | (cases h;done) | (rename_i y;cases y;rfl)
def Mj:ax:=bx Lr (.cons (.agg (.cons (.int .i64) (.cons (.int .i64) (.cons .fl .nil)))) .nil) fun t=>(fun q=>[⟨Er (.r0 (dP q)),[eK q]⟩]) (cm t.1.1 t.1.2.1 t.1.2.2.1.2)
theorem QS:aI prog Mj:=aE fun t=>(aF (fun h=>XM t.1.1 t.1.2.1 t.1.2.2.1.1 t.1.2.2.1.2 (XN h)) aQ)
def Mk:List ax:=Mj::aa7
theorem ra:aJ prog (aG Mk):=aj QS Ep
end
end Go.Plb.Seat
