/-
  Part 2 of what the claim leans on: an evaluator of the model, proved sound; the contracts of the functions.
-/
import Derived.Laws.BytesString
import GoSem.Instr.Lookup
import GoSem.Extern.MathSqrt
import GoSem.Extern.MathFloatBits
import GoSem.Extern.MathBitsCarry
import GoSem.Extern.BytealgIndexByte
import GoSem.Extern.BytealgCount
import Derived.OrdersIn
import Derived.LoopNIn
import Derived.RangeFuncRecord
import Derived.RangeFuncLeaves
import Derived.Test.YtcfhbjfbfmlkiaaGreatDoorA1
namespace Go.Plb
noncomputable section
set_option linter.unusedSimpArgs false
set_option linter.unusedVariables false
set_option linter.unusedSectionVars false
variable [Rom]
def FP(g:Nat→Option aq)(x:AV) :Option (Nat×Nat×aq×List Bool×List Nat) :=
  match x with
  | .sl b w es i len _=>match g b with
    | some d=>(d.sub w es i len).map fun r=>(len,es,r.1,r.2,[b])
    | none=>none
  | .imm _ d w es i len=>(d.sub w es i len).map fun r=>(len,es,r.1,r.2,[])
  | _=>none
structure Qm (ρ:af) (w:World) (u:Value) (m es:Nat) (nb:aq):Prop where
  rk:nb.recKept
  count:nb.count=m*es
  val:∃ a c,u=.slice a m c∧(m=0∨∃ bl o,a=some ⟨bl,o,none⟩∧∃ news:List Value,news.length=m*es∧(∀ j v,news[j]? = some v→w.cell? ((⟨bl,o,none⟩:Addr).add j)=some v) ∧
    (∀ v∈news,v.oneCell'=true)∧∀ x v,nb.cell? x=some v→∃ u,news[x]? = some u∧VR ρ w v u)
  none_:m=0→∀ x,nb.cell? x=none
theorem FQ{ρ:af}{w:World}{v:AV}{u:Value}(h:VR ρ w v u)(ho:v.one=true) :u.oneCell'=true:=by
  cases h<;>simp [AV.one] at ho<;>rfl
theorem Mu{ρ:af}{w:World}{bl o n:Nat}{cell:Nat→Option AV}{nb:aq}(hc:∀ x v,cell x=some v→∃ u,w.cell? ⟨bl,o+x,none⟩=some u∧VR ρ w v u)(hs:Mt nb n cell) :
    ∃ news:List Value,news.length=n∧(∀ j v,news[j]? = some v→w.cell? ((⟨bl,o,none⟩:Addr).add j)=some v)∧(∀ v∈news,v.oneCell'=true)∧∀ x v,nb.cell? x=some v→∃ u,news[x]? = some u∧VR ρ w v u:=by
  refine ⟨(List.range n).map fun x=>(w.cell? ⟨bl,o+x,none⟩).getD undef,by simp,fun j v hj=>?_,fun v hv=>?_,fun x v hx=>?_⟩
  · rw [List.getElem?_map] at hj
    have hlt:j<n:=by
      rcases Nat.lt_or_ge j n with q | q
      · exact q
      · rw [List.getElem?_eq_none (by simpa using q)] at hj;cases hj
    rw [List.getElem?_range hlt] at hj
    obtain ⟨a,q1,_⟩:=hs.all j hlt
    obtain ⟨u,q2,_⟩:=hc j a q1
    rw [eR,q2]
    simp [q2] at hj;rw [hj]
  · simp only [List.mem_map,List.mem_range] at hv
    obtain ⟨j,hlt,rfl⟩:=hv
    obtain ⟨a,q1,q3⟩:=hs.all j hlt
    obtain ⟨u,q2,q4⟩:=hc j a q1
    simp only [q2,Option.getD_some]
    exact FQ q4 q3
  · obtain ⟨hlt,q1⟩:=hs.cells x v hx
    obtain ⟨u,q2,q3⟩:=hc x v q1
    refine ⟨u,?_,q3⟩
    rw [List.getElem?_map,List.getElem?_range hlt];simp [q2]
theorem ww{ρ:af}{w:World}{h:aM}{n:Nat}(hh:HR ρ w h n){x:AV}{u:Value}{m es:Nat}{nb:aq}{obs:List Bool}{rs:List Nat}(hx:VR ρ w x u)(hs:FP (aB h) x=some (m,es,nb,obs,rs))(ho:ap obs) :
    Qm ρ w u m es nb:=by
  have none_:∀ {cell:Nat→Option AV},Mt nb (m*es) cell→m=0→∀ x,nb.cell? x=none:=by
    intro cell hs h0 x
    cases hc:nb.cell? x with
    | none=>rfl
    | some v=>have:=(hs.cells x v hc).1;rw [h0] at this;omega
  unfold FP at hs
  split at hs
  · rename_i b k es' i len cap
    split at hs
    case h_2=>cases hs
    rename_i d hd
    simp only [Option.map_eq_some_iff,Prod.mk.injEq] at hs
    obtain ⟨⟨nb',o'⟩,hsub,rfl,rfl,rfl,rfl,rfl⟩:=hs
    have hrk:=hh.rk hd
    have hS:=sc hrk hsub ho
    refine ⟨hS.rk,hS.count,?_,none_ hS⟩
    cases hx with
    | sl _ _ _ _ _ _ cap' hb hcap hl c' t hh' hsz =>
      obtain ⟨_,_,c,ty,hc,hcv⟩:=hh.real hd hb
      refine ⟨_,_,rfl,.inr ⟨_,_,rfl,Mu (fun x v hx=>?_) hS⟩⟩
      obtain ⟨u,q1,q2⟩:=hcv _ v hx
      exact ⟨u,by simp [World.cell?,hc,q1],q2⟩
    | slEnd=>exact ⟨_,_,rfl,.inl rfl⟩
  · rename_i bw d k es' i len
    simp only [Option.map_eq_some_iff,Prod.mk.injEq] at hs
    obtain ⟨⟨nb',o'⟩,hsub,rfl,rfl,rfl,rfl,rfl⟩:=hs
    cases hx with
    | imm _ _ _ _ _ _ cap bl o u ha hb hc hv hl hr hk hg =>
      have hS:=sc hr hsub ho
      refine ⟨hS.rk,hS.count,?_,none_ hS⟩
      refine ⟨_,_,rfl,.inr ⟨_,_,rfl,Mu (fun x v hx=>⟨u (i*k+x),?_,hv _ v hx⟩) hS⟩⟩
      rw [Nat.add_assoc];exact hc _ v hx
    | immEnd _ _ _ _ _ cap a hr hk hg =>
      have hS:=sc hr hsub ho
      exact ⟨hS.rk,hS.count,⟨_,_,rfl,.inl rfl⟩,none_ hS⟩
  · cases hs
structure jm where
  v:AV
  sets:List (Nat×Option aq)
  obs:List Bool
def bf:List (Nat×Option aq)→aM→aM
  | [],h=>h
  | (b,some d)::l,h=>bf l (cH h b d)
  | (b,none)::l,h=>bf l (lU h b)
def mb(P : Program)(g : Nat → Option aq)(nid : Nat)(e : TypeId)(inf : TypeInfo)(s : AV)(m es' : Nat)(nb : aq)(obs : List Bool)(rs : List Nat) : Option (List jm × List Nat) :=
  match s with
  | .nsl =>
    bif Nat.beq es' inf.size then
      let nb':=nb.norm P e es'
      some ([{ v:=.sl nid nb'.1.wid es' 0 m m,sets:=[(nid,some nb'.1)],obs:=jl (m*inf.bytes) 140737488355328::jl m 9223372036854775807::(obs++nb'.2) }],rs)
    else none
  | .esl =>
    bif Nat.beq es' inf.size then
      let nb':=nb.norm P e es'
      some ([{ v:=.sl nid nb'.1.wid es' 0 m m,sets:=[(nid,some nb'.1)],obs:=jl (m*inf.bytes) 140737488355328::jl m 9223372036854775807::(obs++nb'.2) }],rs)
    else none
  | .sl b w es 0 len cap =>
    match g b with
    | some d =>
      bif Nat.beq es inf.size&&Nat.beq es' es then
        match d.sub w es 0 len with
        | some (old,obs') =>
          let nb':=nb.norm P e es
          let old':=old.norm P e es
          (JU old'.1 nb'.1).map fun d' =>
            ([{ v:=.sl nid d'.wid es 0 (len+m) (len+m),sets:=[(b,none),(nid,some d')],obs:=jl ((len+m)*inf.bytes) 140737488355328::jl (len+m) 9223372036854775807::(obs++(obs'++(nb'.2++old'.2))) }],b::rs)
        | none=>none
      else none
    | none=>none
  | _=>none
def pv(P:Program)(g:Nat→Option aq)(nid:Nat)(t:TypeId)(s x:AV) :Option (List jm×List Nat) :=
  match P.underlying t with
  | some (.slice e) =>
    match P.info? e with
    | some inf =>
      match inf.zero with
      | some z =>
        bif Nat.beq z.cells.size inf.size then
        match s,x with
        | .nsl,.nsl=>some ([{ v:=.nsl,sets:=[],obs:=[] }],[])
        | .sl b w es i len cap,.nsl=>some ([{ v:=.sl b w es i len cap,sets:=[],obs:=[] }],[])
        | .sl b w es i len cap,.zsl _=>some ([{ v:=.sl b w es i len cap,sets:=[],obs:=[] }],[])
        | .esl,.nsl=>some ([{ v:=.esl,sets:=[],obs:=[] }],[])
        | s,x =>
          match FP g x with
          | some (m,es,nb,obs,rs)=>mb P g nid e inf s m es nb obs rs
          | none=>none
        else none
      | none=>none
    | none=>none
  | _=>none
def kS(s:ByteArray) :List Int:=s.data.toList.map fun b=>(b.toNat:Int)
def pw(P:Program)(g:Nat→Option aq)(nid:Nat)(t t':TypeId)(s x:AV) :Option (List jm×List Nat) :=
  match P.underlying t,P.underlying t',x with
  | some (.slice e),some .string,.str y =>
    match P.underlying e,P.info? e with
    | some (.int .u8),some inf =>
      match inf.zero with
      | some z=>bif Nat.beq z.cells.size inf.size&&Nat.beq inf.size 1 then mb P g nid e inf s y.size 1 (.ns .u8 (kS y)) [] [] else none
      | none=>none
    | _,_=>none
  | _,_,_=>none
structure VH (P:Program) (w:World) (t':TypeId) (x:Value) (size m:Nat) (news:List Value):Prop where
  ty:(∃ e',P.underlying t'=some (.slice e'))∨P.underlying t'=some .string
  len:∀ w',(Builtin.lenOf x).run P w'=.ok m w'
  cells:∀ k,(Builtin.firstCells size m x).run P { w with drawn:=k }=.ok news.toArray { w with drawn:=k }
  hl:news.length=m*size
structure Qn (P:Program) (ρ:af) (w:World) (t':TypeId) (x:Value) (m es:Nat) (nb:aq):Prop where
  rk:nb.recKept
  count:nb.count=m*es
  none_:m=0→∀ x,nb.cell? x=none
  news:∃ news:List Value,VH P w t' x es m news∧(∀ v∈news,v.oneCell'=true)∧∀ x v,nb.cell? x=some v→∃ u,news[x]? = some u∧VR ρ w v u
theorem Qm.add{P:Program}{ρ:af}{w:World}{t e:TypeId}{u:Value}{m es:Nat}{nb:aq}(h:Qm ρ w u m es nb)(ht:P.underlying t=some (.slice e)) :Qn P ρ w t u m es nb:=by
  refine ⟨h.rk,h.count,h.none_,?_⟩
  have hty:(∃ e',P.underlying t=some (.slice e'))∨P.underlying t=some .string:=.inl ⟨_,ht⟩
  obtain ⟨a,c,rfl,hv⟩:=h.val
  rcases hv with h0 | ⟨bl,o,rfl,news,hl,hnews,hone,hrel⟩
  · subst h0
    refine ⟨[],⟨hty,fun w'=>rfl,fun k=>?_,by simp⟩,(fun v hv=>by cases hv),fun x v hx=>by rw [h.none_ rfl] at hx;cases hx⟩
    cases a with
    | none=>rfl
    | some a=>simp [Builtin.firstCells,loadCells,loadCellsFrom]
  · exact ⟨news,⟨hty,fun w'=>rfl,fun k=>run_firstCells_some (P:=P) _ es m ⟨bl,o,none⟩ m c news hl hnews,hl⟩,hone,hrel⟩
section add
variable {P : Program} {w : World} {t t' T e : TypeId} {inf : TypeInfo} {x : Value} {m : Nat} {news : List Value}
theorem add_zero(ht:P.underlying t=some (.slice e))(hi:P.info? e=some inf)(hA:VH P w t' x inf.size 0 news)(s:Option Addr)(n cap:Nat)(hle:n≤cap) :
    (Builtin.append_ #[t,t'] T #[.slice s n cap,x]).run P w=.ok (.slice s n cap) w:=by
  have hc:=hA.cells w.drawn
  have hl:=hA.hl
  have hn:news=[]:=List.length_eq_zero_iff.1 (by omega)
  subst hn
  have hc':(Builtin.firstCells inf.size 0 x).run P w=.ok #[] w:=hc
  rcases hA.ty with ⟨e',hd⟩ | hd<;>cases s<;>simp [Builtin.append_,run_underlying ht,sizeOf,typeInfo,hi,run_underlying hd,hA.len,hle,hc',storeCells]
theorem Qo(ht:P.underlying t=some (.slice e))(hi:P.info? e=some inf)(hA:VH P w t' x inf.size m news) 
    (g sLen sCap:Nat) (cur:Array Value) {T':TypeId} (hg:w.heap[g]? = some (.cells cur T' (0,0))) (h1:∀ u∈news,u.oneCell'=true) (hroom:sLen+m≤sCap) (hfit:sLen*inf.size+news.length≤cur.size) :
    (Builtin.append_ #[t,t'] T #[.slice (some ⟨g,0,none⟩) sLen sCap,x]).run P w =
      .ok (.slice (some ⟨g,0,none⟩) (sLen+m) sCap) (w.setRow g (cur.toList.take (sLen*inf.size)++news++cur.toList.drop (sLen*inf.size+news.length)).toArray):=by
  have hc:(Builtin.firstCells inf.size m x).run P w=.ok news.toArray w:=hA.cells w.drawn
  have hst:=run_storeCells_at P g (sLen*inf.size) T' news 0 cur w hg (by simpa using hfit) h1
  simp only [Nat.add_zero] at hst
  rcases hA.ty with ⟨e',hd⟩ | hd<;>simp [Builtin.append_,run_underlying ht,sizeOf,typeInfo,hi,run_underlying hd,hA.len,hroom,hc,Addr.add_lit,hst]
theorem Mv{z:Value}(ht:P.underlying t=some (.slice e))(hi:P.info? e=some inf)(hz:inf.zero=some z)(hA:VH P w t' x inf.size m news) 
    (h0:0<m) (h63:(m:Int)≤9223372036854775807) (h48:m*inf.bytes≤281474976710656) :
    (Builtin.append_ #[t,t'] T #[.slice none 0 0,x]).run P w =
      .ok (.slice (some ⟨w.heap.size,0,none⟩) m (grownCap w m 0 e)) (w.drew.alloc (.cells (news.toArray++Builtin.zeroCells z.cells (grownCap w m 0 e-m)) e)):=by
  have hn:m≠0:=by omega
  have h63' : ¬ (9223372036854775807<(m:Int)):=by omega
  have h48' : ¬ (281474976710656<Builtin.nextslicecap m 0*inf.bytes):=by rw [nextslicecap_zero h0];omega
  have hc:(Builtin.firstCells inf.size m x).run P w.drew=.ok news.toArray w.drew:=hA.cells (w.drawn+1)
  rcases hA.ty with ⟨e',hd⟩ | hd<;>simp [Builtin.append_,run_underlying ht,sizeOf,typeInfo,zeroValue,hi,hz,run_underlying hd,hA.len,hn,h63',h48',Question.forced,run_firstCells_none,hc,newRow,grownCap]
theorem wx{z:Value}(ht:P.underlying t=some (.slice e))(hi:P.info? e=some inf)(hz:inf.zero=some z)(hA:VH P w t' x inf.size m news) 
    (b:Addr) (sLen sCap:Nat) (olds:List Value) (hlo:olds.length=sLen*inf.size) (holds:∀ j v,olds[j]? = some v→w.cell? (b.add j)=some v)
    (hg:sCap<sLen+m) (h63:((sLen+m:Nat):Int)≤9223372036854775807) (hfit:Builtin.nextslicecap (sLen+m) sCap*inf.bytes≤281474976710656) :
    (Builtin.append_ #[t,t'] T #[.slice (some b) sLen sCap,x]).run P w =
      .ok (.slice (some ⟨w.heap.size,0,none⟩) (sLen+m) (grownCap w (sLen+m) sCap e))
        (w.drew.alloc (.cells (olds.toArray++news.toArray++Builtin.zeroCells z.cells (grownCap w (sLen+m) sCap e-(sLen+m))) e)):=by
  have hn : ¬ (sLen+m≤sCap):=by omega
  have h63' : ¬ (9223372036854775807<((sLen:Int)+(m:Int))):=by omega
  have h48' : ¬ (281474976710656<Builtin.nextslicecap (sLen+m) sCap*inf.bytes):=by omega
  have hc:(Builtin.firstCells inf.size m x).run P w.drew=.ok news.toArray w.drew:=hA.cells (w.drawn+1)
  have hfo:=run_firstCells_some (P:=P) w.drew inf.size sLen b sLen sCap olds hlo (by simpa using holds)
  rcases hA.ty with ⟨e',hd⟩ | hd<;>simp [Builtin.append_,run_underlying ht,sizeOf,typeInfo,zeroValue,hi,hz,run_underlying hd,hA.len,hn,h63',h48',Question.forced,hc,hfo,newRow,grownCap]
  all_goals (congr 2;apply Array.ext';simp)
end add
theorem dE{P:Program}{w:World}{t T e:TypeId}{inf:TypeInfo}(ht:P.underlying t=some (.slice e))(hi:P.info? e=some inf)(s a:Option Addr)(n cap c:Nat)(hle:n≤cap) :
    (Builtin.append_ #[t,t] T #[.slice s n cap,.slice a 0 c]).run P w=.ok (.slice s n cap) w:=by
  cases a<;>cases s<;>simp [Builtin.append_,run_underlying ht,sizeOf,typeInfo,hi,Builtin.lenOf,Builtin.firstCells,hle,storeCells,loadCells,loadCellsFrom]
theorem dx.setRow{M:Nat→Prop}(w:World)(g:Nat)(cs old:Array Value)(t:TypeId)(fr:Nat×Nat)(hg:w.heap[g]? = some (.cells old t fr))(hs:cs.size=old.size)(hM:M g) :dx M w (w.setRow g cs):=by
  refine ⟨rfl,rfl,rfl,by simp,fun b _ hb=>setRow_other w g b cs (fun e=>hb (by rw [e];exact hM)),fun b c t' fz hc=>?_⟩
  by_cases e:b=g
  · subst e
    rw [hg] at hc;cases hc
    exact ⟨cs,setRow_heap w b old cs t fr hg,hs⟩
  · exact ⟨c,by rw [setRow_other w g b cs e];exact hc,rfl⟩
theorem HR.again{ρ:af}{w w':World}{h:aM}{n b nid:Nat}{d d':aq}(hh:HR ρ w h n)(hg:aB h b=some d)(hok:ρ.ok b)(hb : ¬ ρ.ok nid)(hn:nid<n)(W:dx ρ.live w w') 
    (ho:∀ bl,bl≠ρ.at_ b→w'.heap[bl]? = w.heap[bl]?) (hB:BR ρ w' (ρ.at_ b) d') :
    HR (ρ.give nid (ρ.at_ b)) w' (cH (lU h b) nid d') n∧eI ρ (ρ.give nid (ρ.at_ b)) w:=by
  obtain ⟨hl,_⟩:=hh.real hg hok
  have hne:nid≠b:=fun e=>hb (by rw [e];exact hok)
  have E:eI ρ (ρ.give nid (ρ.at_ b)) w :=
    ⟨fun x hx=>by simp only [af.give];rw [if_neg (fun e:x=nid=>hb (by rw [←e];exact hx))],fun _ q=>.inr q,fun _ q=>.inr q,fun x _ q=>q.elim (fun e=>by rw [e];exact hl) id,rfl,rfl⟩
  have E':eI ρ (ρ.give nid (ρ.at_ b)) w':=⟨E.at_,E.ok,E.live,fun x _ q=>q.elim (fun e=>by rw [e];exact hl) id,E.out,E.pin⟩
  have look:∀ x e,aB (cH (lU h b) nid d') x=some e→(x=nid∧e=d')∨(x≠nid∧x≠b∧aB h x=some e):=by
    intro x e hx
    rw [be,gk] at hx
    by_cases q:nid=x
    · rw [if_pos q] at hx;cases hx;exact .inl ⟨q.symm,rfl⟩
    · rw [if_neg q] at hx
      by_cases r:b=x
      · rw [if_pos r] at hx;cases hx
      · rw [if_neg r] at hx;exact .inr ⟨fun e=>q e.symm,fun e=>r e.symm,hx⟩
  have atn:(ρ.give nid (ρ.at_ b)).at_ nid=ρ.at_ b:=by simp [af.give]
  have back:∀ {x:Nat},x≠nid→(ρ.give nid (ρ.at_ b)).ok x→ρ.ok x:=fun hx q=>q.resolve_left hx
  refine ⟨⟨fun x e hx=>?_,fun x y e f h1 h2 ok1 ok2 he=>?_,fun bl q=>?_,fun bl q=>?_,fun j bl q=>?_,fun x hx=>?_,fun x hx=>(hh.rom x hx).mono E W⟩,E⟩
  · rcases look x e hx with ⟨rfl,rfl⟩ | ⟨q1,q2,q3⟩
    · rw [atn]
      refine .inl ⟨.inl rfl,.inr hl,?_⟩
      obtain ⟨r1,c,t,r2,r3⟩:=hB
      exact ⟨r1,c,t,r2,fun y v hy=>by obtain ⟨u,k1,k2⟩:=r3 y v hy;exact ⟨u,k1,k2.mono E' (dx.refl _ _)⟩⟩
    · rcases hh.cell x e q3 with ⟨k1,k2,k3⟩ | ⟨k1,k2⟩
      · rw [E.at_ x k1]
        exact .inl ⟨.inr k1,.inr k2,k3.mono E W (ho _ (fun z=>q2 (hh.inj x b e d q3 hg k1 hok z)))⟩
      · exact .inr ⟨fun q=>k1 (back q1 q),k2⟩
  · rcases look x e h1 with ⟨rfl,rfl⟩ | ⟨q1,q2,q3⟩<;>rcases look y f h2 with ⟨rfl,rfl⟩ | ⟨r1,r2,r3⟩
    · rfl
    · have k:=back r1 ok2;rw [atn,E.at_ y k] at he;exact absurd (hh.inj y b f d r3 hg k hok he.symm) r2
    · have k:=back q1 ok1;rw [atn,E.at_ x k] at he;exact absurd (hh.inj x b e d q3 hg k hok he) q2
    · have k:=back q1 ok1;have k':=back r1 ok2;rw [E.at_ x k,E.at_ y k'] at he;exact hh.inj x y e f q3 r3 k k' he
  · rcases q with rfl | q
    · exact hh.fresh _ hl
    · exact hh.fresh bl q
  · rcases q with rfl | q
    · exact Nat.lt_of_lt_of_le (hh.liveLt _ hl) W.size
    · exact Nat.lt_of_lt_of_le (hh.liveLt bl q) W.size
  · exact Nat.lt_of_lt_of_le (hh.outLt j bl q) W.size
  · rcases hx with rfl | hx
    · exact hn
    · exact hh.lt x hx
theorem HR.ghost{ρ:af}{w:World}{h:aM}{n nid:Nat}{d:aq}(hh:HR ρ w h n)(hb : ¬ ρ.ok nid)(hn:nid<n)(hr:d.recKept)(hv:d.void) :HR ρ w (cH h nid d) n:=by
  have look:∀ x e,aB (cH h nid d) x=some e→(x=nid∧e=d)∨(x≠nid∧aB h x=some e):=by
    intro x e hx
    rw [be] at hx
    by_cases q:nid=x
    · rw [if_pos q] at hx;cases hx;exact .inl ⟨q.symm,rfl⟩
    · rw [if_neg q] at hx;exact .inr ⟨fun e=>q e.symm,hx⟩
  refine ⟨fun x e hx=>?_,fun x y e f h1 h2 ok1 ok2 he=>?_,hh.fresh,hh.liveLt,hh.outLt,hh.lt,hh.rom⟩
  · rcases look x e hx with ⟨rfl,rfl⟩ | ⟨_,q⟩
    · exact .inr ⟨hb,hn,hr,hv⟩
    · exact hh.cell x e q
  · rcases look x e h1 with ⟨rfl,rfl⟩ | ⟨_,q⟩
    · exact (hb ok1).elim
    · rcases look y f h2 with ⟨rfl,rfl⟩ | ⟨_,r⟩
      · exact (hb ok2).elim
      · exact hh.inj x y e f q r ok1 ok2 he
theorem qf{P:Program}{ρ:af}{w:World}{h:aM}{n nid:Nat}(hh:HR ρ w h n)(hb : ¬ ρ.ok nid)(hn:nid<n){t t' e:TypeId}{inf:TypeInfo}{z:Value}(ht:P.underlying t=some (.slice e))(hi:P.info? e=some inf)(hz:inf.zero=some z)(hzs:z.cells.size=inf.size) 
    {s:AV} {s' x':Value} (hs:VR ρ w s s') {m es:Nat} {nb:aq} {obs:List Bool} {rs0:List Nat} (hadd:ap obs→Qn P ρ w t' x' m es nb)
    {alts:List jm} {rs:List Nat} (ha:mb P (aB h) nid e inf s m es nb obs rs0=some (alts,rs)) {alt:jm} (hm:alt∈alts) (ho:ap alt.obs) (T:TypeId) :
    nD P ρ w h n nid (Builtin.append_ #[t,t'] T #[s',x']) alt.v (bf alt.sets h):=by
  have bq:∀ {a b:Nat},Nat.beq a b=true→a=b:=Nat.eq_of_beq_eq_true
  have empty:∀ (s0:Option Addr) (alts:List jm) (rs:List Nat),(bif Nat.beq es inf.size then
              let nb':=nb.norm P e es
              some (([{ v:=.sl nid nb'.1.wid es 0 m m,sets:=[(nid,some nb'.1)],obs:=jl (m*inf.bytes) 140737488355328::jl m 9223372036854775807::(obs++nb'.2) }]:List jm),rs0)
            else none)=some (alts,rs)→alt∈alts→nD P ρ w h n nid (Builtin.append_ #[t,t'] T #[.slice s0 0 0,x']) alt.v (bf alt.sets h):=by
    intro s0 alts rs ha hm
    cases hes:Nat.beq es inf.size with
    | false=>rw [hes] at ha;cases ha
    | true =>
    rw [hes] at ha
    have hes:=bq hes
    subst hes
    simp only [cond_true,Option.some.injEq,Prod.mk.injEq] at ha;obtain ⟨rfl,rfl⟩:=ha
    simp only [List.mem_singleton] at hm;subst hm
    obtain ⟨o2,o3,o4⟩:=ho
    rw [aE] at o4
    have hS:=hadd o4.1
    obtain ⟨n1,n2,n3⟩:=tQ P e nb inf.size hS.rk o4.2
    obtain ⟨news,hA,hone,hrel⟩:=hS.news
    have hl:=hA.hl
    have b1:m*inf.bytes≤140737488355328:=of_decide_eq_true o2
    have b2:m≤9223372036854775807:=of_decide_eq_true o3
    by_cases hm0:m=0
    · subst hm0
      have hvoid:(nb.norm P e inf.size).1.void:=by
        intro y
        cases q:(nb.norm P e inf.size).1.cell? y with
        | none=>rfl
        | some v=>obtain ⟨v0,q1,_⟩:=n2 y v q;rw [hS.none_ rfl] at q1;cases q1
      exact ⟨_,w,ρ,add_zero ht hi hA s0 0 0 (Nat.le_refl _),eI.refl _ _,dx.refl _ _,hh.ghost hb hn n1 hvoid,.slEnd _ _ _ _ _,fun b q=>.inl q⟩
    · have hrun:(Builtin.append_ #[t,t'] T #[.slice s0 0 0,x']).run P w=.ok (.slice (some ⟨w.heap.size,0,none⟩) m (grownCap w m 0 e)) (w.drew.alloc (.cells (news.toArray++Builtin.zeroCells z.cells (grownCap w m 0 e-m)) e)):=by
        cases s0 with
        | none=>exact Mv ht hi hz hA (by omega) (by omega) (by omega)
        | some s1 =>
          have hfit:=growslice_fits (old:=0) (need:=0+m) (bytes:=inf.bytes) (by omega) (by rw [Nat.zero_add];exact b1)
          have:=wx (T:=T) ht hi hz hA s1 0 0 [] (by simp) (fun j v hj=>by simp at hj) (by omega) (by omega) hfit
          simpa using this
      refine pu hh hb hn (d:=(nb.norm P e inf.size).1) (l:=(List.range (m*inf.size)).map fun x=>(nb.cell? x).getD .any) ⟨n1,fun y v hy=>?_⟩ (.inr ⟨w.drawn+1,rfl⟩) hrun (fun y v hy=>?_) ?_
      · obtain ⟨v0,this,hw⟩:=n2 y v hy
        obtain ⟨u,q1,q2⟩:=hrel y v0 this
        have hlt:y<m*inf.size:=by rw [←hl];exact (List.getElem?_eq_some_iff.1 q1).1
        exact ⟨v0,by rw [List.getElem?_map,List.getElem?_range hlt];simp [this],hw⟩
      · rw [List.getElem?_map] at hy
        have hlt:y<m*inf.size:=by
          rcases Nat.lt_or_ge y (m*inf.size) with q | q
          · exact q
          · rw [List.getElem?_eq_none (by simpa using q)] at hy;cases hy
        rw [List.getElem?_range hlt] at hy
        simp only [Option.map_some,Option.some.injEq] at hy
        have hlt':y<news.length:=by omega
        refine ⟨news[y],?_,?_⟩
        · rw [Array.getElem?_append_left (by simpa using hlt')];simp [hlt']
        · subst hy
          cases q:nb.cell? y with
          | none=>exact .any _
          | some v=>obtain ⟨u,q1,q2⟩:=hrel y v q;rw [List.getElem?_eq_getElem hlt'] at q1;cases q1;exact q2
      · rintro _ _ rfl rfl
        have hcap:m≤grownCap w m 0 e:=grownCap_ge w m 0 e
        have:VR (ρ.give nid w.heap.size) (w.drew.alloc (.cells (news.toArray++Builtin.zeroCells z.cells (grownCap w m 0 e-m)) e)) (.sl nid (nb.norm P e inf.size).1.wid inf.size 0 m m) (.slice (some ⟨(ρ.give nid w.heap.size).at_ nid,0*(nb.norm P e inf.size).1.wid,none⟩) m (grownCap w m 0 e)):=by
          refine .sl _ _ _ _ _ _ _ (.inl rfl) hcap (Nat.le_refl _) _ e (by simp only [af.give,if_true];exact aR w.drew _) ?_
          simp only [Array.size_append,List.size_toArray,size_zeroCells,hl,hzs]
          have:m*inf.size+(grownCap w m 0 e-m)*inf.size=grownCap w m 0 e*inf.size:=by rw [←Nat.add_mul];congr 1;omega
          omega
        simpa [af.give] using this
  unfold mb at ha
  split at ha
  · cases hs
    exact empty none _ _ ha hm
  · cases hs
    exact empty _ _ _ ha hm
  · rename_i b k es' len cap
    split at ha
    case h_2=>cases ha
    rename_i d hd
    cases hes:(Nat.beq es' inf.size&&Nat.beq es es') with
    | false=>rw [hes] at ha;cases ha
    | true =>
    rw [hes] at ha
    rw [Bool.and_eq_true] at hes
    have e1:=bq hes.1;have e2:=bq hes.2
    subst e1;subst e2
    simp only [cond_true] at ha
    split at ha
    case h_2=>cases ha
    rename_i old obs' hsub
    simp only [Option.map_eq_some_iff,Prod.mk.injEq] at ha
    obtain ⟨d',happ,rfl,rfl⟩:=ha
    simp only [List.mem_singleton] at hm;subst hm
    obtain ⟨o1,o2,o3⟩:=ho
    rw [aE,aE,aE] at o3
    obtain ⟨o31,o32,o33,o34⟩:=o3
    have hS:=hadd o31
    have hrk:=hh.rk hd
    have hO:=sc hrk hsub o32
    obtain ⟨m1,m2,m3⟩:=tQ P e nb inf.size hS.rk o33
    obtain ⟨p1,p2,p3⟩:=tQ P e old inf.size hO.rk o34
    obtain ⟨a1,a2'⟩:=app_spec p1 m1 happ
    have a2:∀ x v,d'.cell? x=some v→(x<old.count∧∃ v0,old.cell? x=some v0∧aH v0 v)∨(old.count≤x∧∃ v0,nb.cell? (x-old.count)=some v0∧aH v0 v):=by
      intro x v hx
      rw [p3] at a2'
      rcases a2' x v hx with ⟨q,r⟩ | ⟨q,r⟩
      · exact .inl ⟨q,p2 x v r⟩
      · exact .inr ⟨q,m2 _ v r⟩

    have hblk:∃ (cur:Array Value) (ty:TypeId),(ρ.ok b→ρ.live (ρ.at_ b)∧w.heap[ρ.at_ b]? = some (.cells cur ty (0,0)))∧∀ x v,d.cell? x=some v→∃ u,cur[x]? = some u∧VR ρ w v u:=by
      rcases hh.cell b d hd with ⟨_,q1,_,c,t,q2,q3⟩ | ⟨q1,_,_,q2⟩
      · exact ⟨c,t,fun _=>⟨q1,q2⟩,q3⟩
      · exact ⟨#[],0,fun q=>(q1 q).elim,fun x v hx=>by rw [q2 x] at hx;cases hx⟩
    obtain ⟨cur,ty,hreal,hcv⟩:=hblk
    have b1:(len+m)*inf.bytes≤140737488355328:=of_decide_eq_true o1
    have b2:len+m≤9223372036854775807:=of_decide_eq_true o2
    obtain ⟨news,hA,hone,hrel⟩:=hS.news
    have hl:=hA.hl
    have hsets:bf [(b,none),(nid,some d')] h=cH (lU h b) nid d':=rfl
    simp only [hsets]

    have hold:∀ x,x<len*inf.size→∃ v u,d.cell? x=some v∧v.one=true∧cur[x]? = some u∧VR ρ w v u:=by
      intro x hx
      obtain ⟨v,q1,q2⟩:=hO.all x hx
      simp only [Nat.zero_mul,Nat.zero_add] at q1
      obtain ⟨u,q3,q4⟩:=hcv x v q1
      exact ⟨v,u,q1,q2,q3,q4⟩
    have hcurlen:len*inf.size≤cur.size:=by
      rcases Nat.eq_zero_or_pos (len*inf.size) with q | q
      · omega
      · obtain ⟨_,u,_,_,q3,_⟩:=hold (len*inf.size-1) (by omega)
        have:=(Array.getElem?_eq_some_iff.1 q3).1;omega

    have zero:m=0→∀ cap' (s0:Option Addr),len≤cap'→VR ρ w (.sl b k inf.size 0 len cap) (.slice s0 len cap') →
        nD P ρ w h n nid (Builtin.append_ #[t,t'] T #[.slice s0 len cap',x']) (.sl nid d'.wid inf.size 0 (len+m) (len+m)) (cH (lU h b) nid d'):=by
      intro h0 cap' s0 hle hvs
      subst h0
      have hcell:∀ x v,d'.cell? x=some v→∃ u,cur[x]? = some u∧VR ρ w v u:=by
        intro x v hx
        rcases a2 x v hx with ⟨_,v0,q,hw⟩ | ⟨_,v0,q,_⟩
        · obtain ⟨_,q1⟩:=hO.cells x v0 q
          simp only [Nat.zero_mul,Nat.zero_add] at q1
          obtain ⟨u,r1,r2⟩:=hcv x v0 q1
          exact ⟨u,r1,hw _ _ _ r2⟩
        · rw [hS.none_ rfl] at q;cases q
      rw [Nat.add_zero]
      by_cases hok:ρ.ok b
      · obtain ⟨hlive,hcur⟩:=hreal hok
        obtain ⟨r1,r2⟩:=hh.again hd hok hb hn (dx.refl _ w) (fun _ _=>rfl) ⟨a1,cur,ty,hcur,hcell⟩
        refine ⟨_,w,_,add_zero ht hi hA s0 len cap' hle,r2,dx.refl _ _,r1,?_,fun b q=>q.elim .inr .inl⟩
        have atn:(ρ.give nid (ρ.at_ b)).at_ nid=ρ.at_ b:=by simp [af.give]
        cases hvs with
        | sl _ _ _ _ _ _ _ q1 q2 q3 c' ty' q4 q5 =>
          have:VR (ρ.give nid (ρ.at_ b)) w (.sl nid d'.wid inf.size 0 len len) (.slice (some ⟨(ρ.give nid (ρ.at_ b)).at_ nid,0*d'.wid,none⟩) len cap') :=
            .sl _ _ _ _ _ _ _ (.inl rfl) hle (Nat.le_refl _) c' ty' (by rw [atn];exact q4) (by omega)
          rw [atn,Nat.zero_mul] at this;rw [Nat.zero_mul];exact this
        | slEnd=>exact .slEnd _ _ _ _ _
      · have hgh:cap'=0∧len=0:=by
          cases hvs with
          | sl _ _ _ _ _ _ _ q1=>exact (hok q1).elim
          | slEnd=>exact ⟨rfl,rfl⟩
        obtain ⟨rfl,rfl⟩:=hgh
        have hvoid:d'.void:=by
          intro y
          cases q:d'.cell? y with
          | none=>rfl
          | some v =>
            rcases a2 y v q with ⟨q1,_⟩ | ⟨_,v0,q1,_⟩
            · rw [hO.count,Nat.zero_mul] at q1;omega
            · rw [hS.none_ rfl] at q1;cases q1
        exact ⟨_,w,ρ,add_zero ht hi hA s0 0 0 (Nat.le_refl _),eI.refl _ _,dx.refl _ _,(hh.del b).ghost hb hn a1 hvoid,.slEnd _ _ _ _ _,fun b q=>.inl q⟩
    by_cases h0:m=0
    · have hs0:=hs
      cases hs with
      | sl _ _ _ _ _ _ cap' q1 q2 q3 c' ty' q4 q5=>exact zero h0 cap' _ (by omega) hs0
      | slEnd=>exact zero h0 0 _ (Nat.le_refl _) hs0
    ·
      have grow:∀ cap' (s0:Option Addr) (g:World→Prop),cap'<len+m→(s0=some ⟨ρ.at_ b,0,none⟩∧ρ.ok b∨len=0∧cap'=0) →
          nD P ρ w h n nid (Builtin.append_ #[t,t'] T #[.slice s0 len cap',x']) (.sl nid d'.wid inf.size 0 (len+m) (len+m)) (cH (lU h b) nid d'):=by
        intro cap' s0 _ hlt hs0
        have hcells:∀ y v,d'.cell? y=some v→∃ u,((cur.toList.take (len*inf.size))++news)[y]? = some u∧VR ρ w v u:=by
          intro y v hy
          have htl:(cur.toList.take (len*inf.size)).length=len*inf.size:=by simp;omega
          rcases a2 y v hy with ⟨q0,v0,q,hw⟩ | ⟨q0,v0,q,hw⟩
          · obtain ⟨q2,q1⟩:=hO.cells y v0 q
            simp only [Nat.zero_mul,Nat.zero_add] at q1
            obtain ⟨u,q3,q4⟩:=hcv y v0 q1
            refine ⟨u,?_,hw _ _ _ q4⟩
            rw [List.getElem?_append_left (by omega),List.getElem?_take,if_pos q2];simpa using q3
          · rw [hO.count] at q0 q
            obtain ⟨u,q3,q4⟩:=hrel _ v0 q
            refine ⟨u,?_,hw _ _ _ q4⟩
            rw [List.getElem?_append_right (by omega),htl];exact q3
        have hfit:=growslice_fits (old:=cap') (need:=len+m) (bytes:=inf.bytes) hlt b1
        have hrun:∃ cells:Array Value,cells.size=grownCap w (len+m) cap' e*inf.size∧(∀ (y:Nat) (u:Value),((cur.toList.take (len*inf.size))++news)[y]? = some u→cells[y]? = some u) ∧
            (Builtin.append_ #[t,t'] T #[.slice s0 len cap',x']).run P w=.ok (.slice (some ⟨w.heap.size,0,none⟩) (len+m) (grownCap w (len+m) cap' e)) (w.drew.alloc (.cells cells e)):=by
          have hcap:len+m≤grownCap w (len+m) cap' e:=grownCap_ge w (len+m) cap' e
          have hsize:(len+m)*inf.size+(grownCap w (len+m) cap' e-(len+m))*inf.size=grownCap w (len+m) cap' e*inf.size:=by rw [←Nat.add_mul];congr 1;omega
          rcases hs0 with ⟨rfl,hok⟩ | ⟨rfl,rfl⟩
          · obtain ⟨hlive,hcur⟩:=hreal hok
            have hlo:(cur.toList.take (len*inf.size)).length=len*inf.size:=by simp;omega
            have:=wx (T:=T) ht hi hz hA ⟨ρ.at_ b,0,none⟩ len cap' (cur.toList.take (len*inf.size)) hlo (fun j v hj=>by
              rw [eR];simp only [Nat.zero_add,World.cell?,hcur]
              rw [List.getElem?_take] at hj;split at hj
              · simpa using hj
              · cases hj) hlt (by omega) hfit
            refine ⟨_,?_,fun y u hy=>?_,this⟩
            · simp only [Array.size_append,List.size_toArray,size_zeroCells,hl,hzs,hlo];rw [←Nat.add_mul];exact hsize
            · have hlt2:y<(cur.toList.take (len*inf.size)++news).length:=(List.getElem?_eq_some_iff.1 hy).1
              rw [Array.getElem?_append_left (by simpa using hlt2)];simpa using hy
          · cases s0 with
            | none =>
              have hm0:0<m:=by omega
              have:=Mv (T:=T) ht hi hz hA hm0 (by omega) (by rw [Nat.zero_add] at b1;omega)
              rw [Nat.zero_add] at hsize ⊢
              refine ⟨_,?_,fun y u hy=>?_,this⟩
              · simp only [Array.size_append,List.size_toArray,size_zeroCells,hl,hzs];exact hsize
              · simp only [Nat.zero_mul,List.take_zero,List.nil_append] at hy
                have hlt2:y<news.length:=(List.getElem?_eq_some_iff.1 hy).1
                rw [Array.getElem?_append_left (by simpa using hlt2)];simpa using hy
            | some s1 =>
              have:=wx (T:=T) ht hi hz hA s1 0 0 [] (by simp) (fun j v hj=>by simp at hj) hlt (by omega) hfit
              refine ⟨_,?_,fun y u hy=>?_,this⟩
              · simp only [Array.size_append,List.size_toArray,List.length_nil,size_zeroCells,hl,hzs,Nat.zero_add];rw [Nat.zero_add] at hsize;exact hsize
              · simp only [Nat.zero_mul,List.take_zero,List.nil_append] at hy
                have hlt2:y<news.length:=(List.getElem?_eq_some_iff.1 hy).1
                rw [Array.getElem?_append_left (by simpa using hlt2)];simpa using hy
        obtain ⟨cells,k1,k2,k3⟩:=hrun
        have hcap:len+m≤grownCap w (len+m) cap' e:=grownCap_ge w (len+m) cap' e
        have H1:HR ρ w.drew (lU h b) n:=(hh.del b).drawn _
        obtain ⟨r1,r2,r3⟩:=H1.alloc hb hn d' cells e a1 (fun y v hy=>by
          obtain ⟨u,q1,q2⟩:=hcells y v hy
          exact ⟨u,k2 y u q1,q2.mono (eI.refl _ _) (dx.drawn _ _ _)⟩)
        refine ⟨_,_,_,k3,⟨r2.at_,r2.ok,r2.live,r2.new,r2.out,r2.pin⟩,(dx.drawn _ w _).trans r3 (fun _ _ q=>q),r1,?_,fun b q=>q.elim .inr .inl⟩
        have:VR (ρ.give nid w.heap.size) (w.drew.alloc (.cells cells e)) (.sl nid d'.wid inf.size 0 (len+m) (len+m)) (.slice (some ⟨(ρ.give nid w.heap.size).at_ nid,0*d'.wid,none⟩) (len+m) (grownCap w (len+m) cap' e)) :=
          .sl _ _ _ _ _ _ _ (.inl rfl) hcap (Nat.le_refl _) cells e (by simp only [af.give,if_true];exact aR w.drew _) (by rw [k1];omega)
        simpa [af.give] using this
      cases hs with
      | sl _ _ _ _ _ _ cap' q1 q2 q3 c' ty' q4 q5 =>
        rw [Nat.zero_mul]
        obtain ⟨hlive,hcur⟩:=hreal q1
        rw [hcur] at q4;cases q4
        by_cases hroom:len+m≤cap'
        · have hfit:len*inf.size+news.length≤cur.size:=by
            have:(len+m)*inf.size≤cap'*inf.size:=Nat.mul_le_mul_right _ hroom
            rw [Nat.add_mul] at this;omega
          have hrun:=Qo (T:=T) ht hi hA (ρ.at_ b) len cap' cur hcur hone hroom hfit
          have hsz:(cur.toList.take (len*inf.size)++news++cur.toList.drop (len*inf.size+news.length)).toArray.size=cur.size:=by
            simp;omega
          have W:dx ρ.live w (w.setRow (ρ.at_ b) (cur.toList.take (len*inf.size)++news++cur.toList.drop (len*inf.size+news.length)).toArray):=dx.setRow w _ _ cur ty (0,0) hcur hsz hlive
          have hB:BR ρ (w.setRow (ρ.at_ b) (cur.toList.take (len*inf.size)++news++cur.toList.drop (len*inf.size+news.length)).toArray) (ρ.at_ b) d':=by
            refine ⟨a1,_,ty,setRow_heap w _ cur _ ty (0,0) hcur,fun y v hy=>?_⟩
            have htl:(cur.toList.take (len*inf.size)).length=len*inf.size:=by simp;omega
            rcases a2 y v hy with ⟨q0,v0,q,hw⟩ | ⟨q0,v0,q,hw⟩
            · obtain ⟨k2,k1⟩:=hO.cells y v0 q
              simp only [Nat.zero_mul,Nat.zero_add] at k1
              obtain ⟨u,k3,k4⟩:=hcv y v0 k1
              refine ⟨u,?_,(hw _ _ _ k4).mono (eI.refl _ _) W⟩
              rw [List.getElem?_toArray,List.append_assoc,List.getElem?_append_left (by omega),List.getElem?_take,if_pos k2];simpa using k3
            · rw [hO.count] at q0 q
              obtain ⟨u,k3,k4⟩:=hrel _ v0 q
              have hlt:=(List.getElem?_eq_some_iff.1 k3).1
              refine ⟨u,?_,(hw _ _ _ k4).mono (eI.refl _ _) W⟩
              rw [List.getElem?_toArray,List.append_assoc,List.getElem?_append_right (by omega),htl,List.getElem?_append_left hlt];exact k3
          obtain ⟨r1,r2⟩:=hh.again hd q1 hb hn W (fun x hx=>setRow_other w _ x _ hx) hB
          refine ⟨_,_,_,hrun,r2,W,r1,?_,fun b q=>q.elim .inr .inl⟩
          have atn:(ρ.give nid (ρ.at_ b)).at_ nid=ρ.at_ b:=by simp [af.give]
          have:VR (ρ.give nid (ρ.at_ b)) (w.setRow (ρ.at_ b) (cur.toList.take (len*inf.size)++news++cur.toList.drop (len*inf.size+news.length)).toArray) (.sl nid d'.wid inf.size 0 (len+m) (len+m)) (.slice (some ⟨(ρ.give nid (ρ.at_ b)).at_ nid,0*d'.wid,none⟩) (len+m) cap') :=
            .sl _ _ _ _ _ _ _ (.inl rfl) hroom (Nat.le_refl _) _ ty (by rw [atn];exact setRow_heap w _ cur _ ty (0,0) hcur) (by rw [hsz];rw [Nat.zero_mul] at q5 ⊢;exact q5)
          rw [atn,Nat.zero_mul] at this;exact this
        · exact grow cap' _ (fun _=>True) (by omega) (.inl ⟨rfl,q1⟩)
      | slEnd =>
        by_cases hm0:m=0
        · exact zero hm0 0 _ (Nat.le_refl _) (.slEnd _ _ _ _ _)
        · exact grow 0 _ (fun _=>True) (by omega) (.inr ⟨rfl,rfl⟩)
  · cases ha
theorem zA{P:Program}{ρ:af}{w:World}{h:aM}{n nid:Nat}(hh:HR ρ w h n)(hb : ¬ ρ.ok nid)(hn:nid<n){t:TypeId}{s x:AV}{s' x':Value}(hs:VR ρ w s s')(hx:VR ρ w x x') 
    {alts:List jm} {rs:List Nat} (ha:pv P (aB h) nid t s x=some (alts,rs)) {alt:jm} (hm:alt∈alts) (ho:ap alt.obs) (T:TypeId) :
    nD P ρ w h n nid (Builtin.append_ #[t,t] T #[s',x']) alt.v (bf alt.sets h):=by
  have bq:∀ {a b:Nat},Nat.beq a b=true→a=b:=Nat.eq_of_beq_eq_true
  unfold pv at ha
  split at ha
  case h_2=>cases ha
  rename_i e ht
  split at ha
  case h_2=>cases ha
  rename_i inf hi
  split at ha
  case h_2=>cases ha
  rename_i z hz
  cases hzs:Nat.beq z.cells.size inf.size with
  | false=>rw [hzs] at ha;cases ha
  | true =>
  rw [hzs] at ha
  have hzs:=bq hzs
  simp only [cond_true] at ha
  split at ha
  · simp only [Option.some.injEq,Prod.mk.injEq] at ha;obtain ⟨rfl,rfl⟩:=ha
    simp only [List.mem_singleton] at hm;subst hm
    cases hs;cases hx
    exact ⟨_,w,ρ,dE ht hi none none 0 0 0 (Nat.le_refl _),eI.refl _ _,dx.refl _ _,hh,.nsl,fun b q=>.inl q⟩
  · rename_i b k es i len cap
    simp only [Option.some.injEq,Prod.mk.injEq] at ha;obtain ⟨rfl,rfl⟩:=ha
    simp only [List.mem_singleton] at hm;subst hm
    cases hx
    have hs0:=hs
    cases hs with
    | sl _ _ _ _ _ _ cap' q1 q2 q3 c ty q4 q5=>exact ⟨_,w,ρ,dE ht hi _ none len cap' 0 (by omega),eI.refl _ _,dx.refl _ _,hh,hs0,fun b q=>.inl q⟩
    | slEnd=>exact ⟨_,w,ρ,dE ht hi _ none 0 0 0 (Nat.le_refl _),eI.refl _ _,dx.refl _ _,hh,hs0,fun b q=>.inl q⟩
  · rename_i b k es i len cap _
    simp only [Option.some.injEq,Prod.mk.injEq] at ha;obtain ⟨rfl,rfl⟩:=ha
    simp only [List.mem_singleton] at hm;subst hm
    cases hx
    have hs0:=hs
    cases hs with
    | sl _ _ _ _ _ _ cap' q1 q2 q3 c ty q4 q5=>exact ⟨_,w,ρ,dE ht hi _ _ len cap' _ (by omega),eI.refl _ _,dx.refl _ _,hh,hs0,fun b q=>.inl q⟩
    | slEnd=>exact ⟨_,w,ρ,dE ht hi _ _ 0 0 _ (Nat.le_refl _),eI.refl _ _,dx.refl _ _,hh,hs0,fun b q=>.inl q⟩
  · simp only [Option.some.injEq,Prod.mk.injEq] at ha;obtain ⟨rfl,rfl⟩:=ha
    simp only [List.mem_singleton] at hm;subst hm
    cases hs;cases hx
    exact ⟨_,w,ρ,dE ht hi _ none 0 0 0 (Nat.le_refl _),eI.refl _ _,dx.refl _ _,hh,.esl _,fun b q=>.inl q⟩
  · split at ha
    case h_2=>cases ha
    rename_i m es nb obs rs' hsrc
    exact qf hh hb hn ht hi hz hzs hs (fun o=>(ww hh hx hsrc o).add ht) ha hm ho T
theorem qg(y:ByteArray) :(kS y).length=y.size:=by
  unfold kS
  rw [List.length_map]
  exact Array.length_toList
theorem JW{y:ByteArray}{j:Nat}{n:Int}(h:(kS y)[j]? = some n) :(y.data.toList.map fun b=>Value.int .u8 b.toNat)[j]? = some (.int .u8 n):=by
  unfold kS at h
  rw [List.getElem?_map,Option.map_eq_some_iff] at h ⊢
  obtain ⟨b,h1,h2⟩:=h
  exact ⟨b,h1,by rw [h2]⟩
theorem Ua{P:Program}{ρ:af}{w:World}{t':TypeId}(ht':P.underlying t'=some .string)(y:ByteArray) :Qn P ρ w t' (.string y) y.size 1 (.ns .u8 (kS y)):=by
  have hl:(y.data.toList.map fun b=>Value.int .u8 b.toNat).length=y.size*1:=by
    rw [List.length_map,Nat.mul_one];exact Array.length_toList
  have cell:∀ j v,(aq.ns .u8 (kS y)).cell? j=some v→∃ n,(kS y)[j]? = some n∧v=.int .u8 n:=fun j v h=>by
    have h':((kS y)[j]?).map (AV.int .u8)=some v:=h
    rw [Option.map_eq_some_iff] at h'
    obtain ⟨n,h1,rfl⟩:=h'
    exact ⟨n,h1,rfl⟩
  refine ⟨show True from trivial,?_,fun h0 j=>?_,_,⟨.inr ht',fun w'=>rfl,fun k=>?_,hl⟩,fun v hv=>?_,fun j v hj=>?_⟩
  · rw [Nat.mul_one];exact qg y
  · cases q:(aq.ns .u8 (kS y)).cell? j with
    | none=>rfl
    | some v =>
      obtain ⟨n,h1,_⟩:=cell j v q
      have:=(List.getElem?_eq_some_iff.1 h1).1
      rw [qg] at this;omega
  · have e1:y.extract 0 y.size=y:=ByteArray.extract_zero_size
    have e2:(y.data.map fun b=>Value.int .u8 b.toNat)=(y.data.toList.map fun b=>Value.int .u8 b.toNat).toArray:=by
      apply Array.ext'
      rw [Array.toList_map]
    show (pure ((y.extract 0 y.size).data.map fun b=>Value.int .u8 b.toNat):Sem (Array Value)).run P { w with drawn:=k }=_
    rw [e1,e2]
    rfl
  · rw [List.mem_map] at hv
    obtain ⟨b,_,rfl⟩:=hv
    rfl
  · obtain ⟨n,h1,rfl⟩:=cell j v hj
    exact ⟨_,JW h1,.int _ _⟩
theorem zB{P:Program}{ρ:af}{w:World}{h:aM}{n nid:Nat}(hh:HR ρ w h n)(hb : ¬ ρ.ok nid)(hn:nid<n){t t':TypeId}{s x:AV}{s' x':Value}(hs:VR ρ w s s')(hx:VR ρ w x x') 
    {alts:List jm} {rs:List Nat} (ha:pw P (aB h) nid t t' s x=some (alts,rs)) {alt:jm} (hm:alt∈alts) (ho:ap alt.obs) (T:TypeId) :
    nD P ρ w h n nid (Builtin.append_ #[t,t'] T #[s',x']) alt.v (bf alt.sets h):=by
  have bq:∀ {a b:Nat},Nat.beq a b=true→a=b:=Nat.eq_of_beq_eq_true
  unfold pw at ha
  split at ha
  case h_2=>cases ha
  rename_i e y ht ht'
  split at ha
  case h_2=>cases ha
  rename_i inf he hi
  split at ha
  case h_2=>cases ha
  rename_i z hz
  cases hzs:(Nat.beq z.cells.size inf.size&&Nat.beq inf.size 1) with
  | false=>rw [hzs] at ha;cases ha
  | true =>
  rw [hzs] at ha
  rw [Bool.and_eq_true] at hzs
  have h1:=bq hzs.1
  simp only [cond_true] at ha
  cases hx
  exact qf hh hb hn ht hi hz h1 hs (fun _=>Ua ht' y) ha hm ho T
mutual
theorem dh:∀ {v:AV},v.kept=true→v.foreign=true
  | .fn _ l1 l2,h=>by simp only [AV.kept,AV.foreign,Bool.and_eq_true] at h ⊢;exact ⟨de h.1,de h.2⟩
  | .agg l,h=>by simp only [AV.kept,AV.foreign] at h ⊢;exact de h
  | .tup l,h=>by simp only [AV.kept,AV.foreign] at h ⊢;exact de h
  | .iface _ v,h=>by simp only [AV.kept,AV.foreign] at h ⊢;exact dh h
  | .ptr ..,h=>by simp [AV.kept] at h
  | .sl ..,h=>by simp [AV.kept] at h
  | .yld _,h=>by simp [AV.kept] at h
  | .int ..,_ | .bool ..,_ | .flt ..,_ | .str _,_ | .nptr,_ | .iptr ..,_ | .nsl,_ | .esl,_ | .zsl _,_ | .nan,_ | .imm ..,_ | .nfn,_ | .gmap ..,_ | .gvar _,_ | .niface,_ | .any,_=>rfl
theorem de:∀ {l:List AV},bK l=true→aN l=true
  | [],_=>rfl
  | v::l,h=>by simp only [bK,aN,Bool.and_eq_true] at h ⊢;exact ⟨dh h.1,de h.2⟩
end
theorem oj:∀ {l:List AV},aN l=true→∀ (x:Nat) (v:AV),l[x]? = some v→v.foreign=true
  | [],_,x,v,h=>by simp at h
  | a::l,ha,0,v,h=>by simp at h;subst h;simp only [aN,Bool.and_eq_true] at ha;exact ha.1
  | a::l,ha,x+1,v,h=>by simp only [aN,Bool.and_eq_true] at ha;exact oj ha.2 x v (by simpa using h)
theorem ay{d:aq}(hr:d.recKept)(hk:d.foreign=true)(x:Nat)(v:AV)(hx:d.cell? x=some v) :v.foreign=true:=by
  cases d with
  | fl xs=>simp only [aq.cell?,Option.map_eq_some_iff] at hx;obtain ⟨_,_,rfl⟩:=hx;rfl
  | ns k xs=>simp only [aq.cell?,Option.map_eq_some_iff] at hx;obtain ⟨_,_,rfl⟩:=hx;rfl
  | bs xs=>simp only [aq.cell?,Option.map_eq_some_iff] at hx;obtain ⟨_,_,rfl⟩:=hx;rfl
  | ss xs=>simp only [aq.cell?,Option.map_eq_some_iff] at hx;obtain ⟨_,_,rfl⟩:=hx;rfl
  | vs xs=>exact oj hk x v hx
  | rows k n get =>
    simp only [aq.cell?] at hx
    split at hx
    · cases hx;exact dh (hr _ _).1
    · cases hx
  | cols n cs=>obtain ⟨c,_,_,h⟩:=dq hx;exact (kP h).2.1
theorem aO{d:aq}(hr:d.recKept)(hk:d.kept=true)(x:Nat)(v:AV)(hx:d.cell? x=some v) :v.kept=true:=by
  cases d with
  | fl xs=>simp only [aq.cell?,Option.map_eq_some_iff] at hx;obtain ⟨_,_,rfl⟩:=hx;rfl
  | ns k xs=>simp only [aq.cell?,Option.map_eq_some_iff] at hx;obtain ⟨_,_,rfl⟩:=hx;rfl
  | bs xs=>simp only [aq.cell?,Option.map_eq_some_iff] at hx;obtain ⟨_,_,rfl⟩:=hx;rfl
  | ss xs=>simp only [aq.cell?,Option.map_eq_some_iff] at hx;obtain ⟨_,_,rfl⟩:=hx;rfl
  | vs xs=>exact gp hk x v hx
  | rows k n get =>
    simp only [aq.cell?] at hx
    split at hx
    · cases hx;exact (hr _ _).1
    · cases hx
  | cols n cs=>obtain ⟨c,_,_,h⟩:=dq hx;exact (kP h).1
def JX(ρ τ:af)(w:World) :Prop:=∀ bl,bl<w.heap.size→(∀ j,¬ ρ.own j bl)→∀ j,¬ τ.own j bl
theorem eC{O:Nat→Nat→Prop}{bl:Nat}(h:∀ j,¬ O j bl) :∀ (l:Lv) (i:Nat),l.av O i bl
  | .free,i=>fun j _=>h j
  | .lent,i=>h i
  | .up l,i=>⟨h i,eC h l (i+1)⟩
theorem di{ρ τ:af}{w:World}(hN:JX ρ τ w){v:AV}{u:Value}(h:VR ρ w v u) :v.kept=true→VR τ w v u:=by
  have av:∀ {l:Lv} {bl:Nat},bl<w.heap.size→l.isFree=true→ρ.avoid l bl→τ.avoid l bl:=fun hb hl h =>
    eC (hN _ hb fun j=>ib (O:=ρ.own) hl h j (Nat.zero_le _)) _ _
  induction h using VR.rec (motive_2:=fun l c _=>bK l=true→bh τ w l c) with
  | int k n=>exact fun _=>.int k n
  | bool kn b=>exact fun _=>.bool kn b
  | flt ex x y h=>exact fun _=>.flt ex x y h
  | str s=>exact fun _=>.str s
  | nptr=>exact fun _=>.nptr
  | ptr b k i j hb=>intro hk;simp [AV.kept] at hk
  | iptr bw d k i j bl o u ha hb hc hv hr hk hg ih =>
    intro hkept
    have hf:bw.isFree=true:=by simpa [AV.kept] using hkept
    exact .iptr bw d k i j bl o u (av hb hf ha) hb hc (fun x v hx=>ih x v hx (aO hr (hk hf) x v hx)) hr hk hg
  | nsl=>exact fun _=>.nsl
  | esl a=>exact fun _=>.esl a
  | zsl a c=>exact fun _=>.zsl a c
  | nan n h=>exact fun _=>.nan n h
  | sl b k es i len cap cap' hb hcap hl c t hh hs=>intro hk;simp [AV.kept] at hk
  | slEnd b k es i a=>intro hk;simp [AV.kept] at hk
  | imm bw d k es i len cap bl o u ha hb hc hv hl hr hk hg ih =>
    intro hkept
    have hf:bw.isFree=true:=by simpa [AV.kept] using hkept
    exact .imm bw d k es i len cap bl o u (av hb hf ha) hb hc (fun x v hx=>ih x v hx (aO hr (hk hf) x v hx)) hl hr hk hg
  | immEnd bw d k es i cap a hr hk hg=>exact fun _=>.immEnd bw d k es i cap a hr hk hg
  | fn f l1 l2 c1 c2 h1 h2 i1 i2=>intro hk;simp only [AV.kept,Bool.and_eq_true] at hk;exact .fn f l1 l2 c1 c2 (i1 hk.1) (i2 hk.2)
  | nfn=>exact fun _=>.nfn
  | gmap ks vs bl es cl u ha hb hh hin hex hv hl hk ih=>exact fun _=>.gmap ks vs bl es cl u (av hb rfl ha) hb hh hin hex (fun x v hx=>ih x v hx (gp hk x v hx)) hl hk
  | gvar c bl t fr ha hb hh=>exact fun _=>.gvar c bl t fr (av hb rfl ha) hb hh
  | agg l c h ih=>intro hk;exact .agg l c (ih hk)
  | tup l c h ih=>intro hk;exact .tup l c (ih hk)
  | iface t v u h ih=>intro hk;exact .iface t v u (ih hk)
  | niface=>exact fun _=>.niface
  | yld b L h=>intro hk;simp [AV.kept] at hk
  | any u=>exact fun _=>.any u
  | nil=>exact bh.nil
  | cons v u l c h t i1 i2=>rename_i hk;simp only [bK,Bool.and_eq_true] at hk;exact bh.cons v u l c (i1 hk.1) (i2 hk.2)
mutual
def vX (σ:Nat→Option Nat):AV→AV
  | .ptr b w i j=>match σ b with | some c=>.ptr c w i j | none=>.any
  | .sl b w es i len cap=>match σ b with | some c=>.sl c w es i len cap | none=>.any
  | .iptr l d w i j=>.iptr (.up l) (zC σ d) w i j
  | .imm l d w es i len=>.imm (.up l) (zC σ d) w es i len
  | .fn f l1 l2=>.fn f (qP σ l1) (qP σ l2)
  | .agg l=>.agg (qP σ l)
  | .tup l=>.tup (qP σ l)
  | .iface t v=>.iface t (vX σ v)
  | .yld _=>.any
  | v=>v
def qP (σ:Nat→Option Nat):List AV→List AV
  | []=>[]
  | v::l=>vX σ v::qP σ l
def zC (σ:Nat→Option Nat):aq→aq
  | .vs l=>.vs (qP σ l)
  | d=>d
end
mutual
theorem FS (σ:Nat→Option Nat):∀ (v:AV),v.kept=true→(vX σ v).kept=true
  | .fn _ l1 l2,h=>by simp only [AV.kept,vX,Bool.and_eq_true] at h ⊢;exact ⟨jB σ l1 h.1,jB σ l2 h.2⟩
  | .agg l,h=>by simp only [AV.kept,vX] at h ⊢;exact jB σ l h
  | .tup l,h=>by simp only [AV.kept,vX] at h ⊢;exact jB σ l h
  | .iface _ v,h=>by simp only [AV.kept,vX] at h ⊢;exact FS σ v h
  | .ptr ..,h=>by simp [AV.kept] at h
  | .sl ..,h=>by simp [AV.kept] at h
  | .iptr ..,h=>by simpa [AV.kept,vX,Lv.isFree] using h
  | .imm ..,h=>by simpa [AV.kept,vX,Lv.isFree] using h
  | .yld _,h=>by simp [AV.kept] at h
  | .int ..,_ | .bool ..,_ | .flt ..,_ | .str _,_ | .nptr,_ | .nsl,_ | .esl,_ | .zsl _,_ | .nan,_ | .nfn,_ | .gmap ..,_ | .gvar _,_ | .niface,_ | .any,_=>rfl
theorem jB (σ:Nat→Option Nat):∀ (l:List AV),bK l=true→bK (qP σ l)=true
  | [],_=>rfl
  | v::l,h=>by simp only [bK,qP,Bool.and_eq_true] at h ⊢;exact ⟨FS σ v h.1,jB σ l h.2⟩
end
mutual
theorem ol (σ:Nat→Option Nat):∀ (v:AV),v.foreign=true→(vX σ v).foreign=true
  | .fn _ l1 l2,h=>by simp only [AV.foreign,vX,Bool.and_eq_true] at h ⊢;exact ⟨fk σ l1 h.1,fk σ l2 h.2⟩
  | .agg l,h=>by simp only [AV.foreign,vX] at h ⊢;exact fk σ l h
  | .tup l,h=>by simp only [AV.foreign,vX] at h ⊢;exact fk σ l h
  | .iface _ v,h=>by simp only [AV.foreign,vX] at h ⊢;exact ol σ v h
  | .ptr ..,h=>by simp [AV.foreign] at h
  | .sl ..,h=>by simp [AV.foreign] at h
  | .iptr ..,h=>rfl
  | .imm ..,h=>rfl
  | .yld _,h=>by simp [AV.foreign] at h
  | .int ..,_ | .bool ..,_ | .flt ..,_ | .str _,_ | .nptr,_ | .nsl,_ | .esl,_ | .zsl _,_ | .nan,_ | .nfn,_ | .gmap ..,_ | .gvar _,_ | .niface,_ | .any,_=>rfl
theorem fk (σ:Nat→Option Nat):∀ (l:List AV),aN l=true→aN (qP σ l)=true
  | [],_=>rfl
  | v::l,h=>by simp only [aN,qP,Bool.and_eq_true] at h ⊢;exact ⟨ol σ v h.1,fk σ l h.2⟩
end
theorem tR{σ:Nat→Option Nat}{d:aq}(h:d.kept=true) :(zC σ d).kept=true:=by
  cases d<;>first | exact h | exact jB σ _ h
theorem mc{σ:Nat→Option Nat}{d:aq}(h:d.foreign=true) :(zC σ d).foreign=true:=by
  cases d<;>first | exact h | exact fk σ _ h
theorem se{σ:Nat→Option Nat}{d:aq}(h:d.recKept) :(zC σ d).recKept:=by
  cases d<;>first | exact h | trivial
theorem FT(σ:Nat→Option Nat) :∀ (l:List AV) (x:Nat),(qP σ l)[x]? = (l[x]?).map (vX σ)
  | [],x=>by simp [qP]
  | v::l,0=>by simp [qP]
  | v::l,x+1=>by simp [qP,FT σ l x]
theorem jC{σ:Nat→Option Nat}{d:aq}(hr:d.recKept){x:Nat}{v:AV}(h:(zC σ d).cell? x=some v) :∃ v0,d.cell? x=some v0∧(v=vX σ v0∨(v=v0∧v0.kept=true)):=by
  cases d with
  | vs l =>
    simp only [zC,aq.cell?,FT,Option.map_eq_some_iff] at h
    obtain ⟨v0,h1,rfl⟩:=h
    exact ⟨v0,h1,.inl rfl⟩
  | fl xs=>exact ⟨v,h,.inr ⟨rfl,aO hr rfl x v h⟩⟩
  | ns k xs=>exact ⟨v,h,.inr ⟨rfl,aO hr rfl x v h⟩⟩
  | bs xs=>exact ⟨v,h,.inr ⟨rfl,aO hr rfl x v h⟩⟩
  | ss xs=>exact ⟨v,h,.inr ⟨rfl,aO hr rfl x v h⟩⟩
  | rows k n g=>exact ⟨v,h,.inr ⟨rfl,aO hr rfl x v h⟩⟩
  | cols n cs=>exact ⟨v,h,.inr ⟨rfl,aO hr rfl x v h⟩⟩
structure FU (ρ τ:af) (w:World) (h:aM) (σ:Nat→Option Nat):Prop where
  id:∀ b c,σ b=some c→ρ.ok b→τ.ok c∧τ.at_ c=ρ.at_ b
  up:∀ l bl,bl<w.heap.size→ρ.avoid l bl→τ.avoid (.up l) bl
  nobody:JX ρ τ w
  ro:∀ b d,aB h b=some d→ρ.ok b→σ b=none→¬ τ.live (ρ.at_ b)
theorem dT{ρ τ:af}{w:World}{h:aM}{σ:Nat→Option Nat}(L:FU ρ τ w h σ){v:AV}{u:Value}(hv:VR ρ w v u) :VR τ w (vX σ v) u:=by
  induction hv using VR.rec (motive_2:=fun l c _=>bh τ w (qP σ l) c) with
  | int k n=>exact .int k n
  | bool kn b=>exact .bool kn b
  | flt ex x y h=>exact .flt ex x y h
  | str s=>exact .str s
  | nptr=>exact .nptr
  | ptr b k i j hb =>
    simp only [vX]
    split
    · rename_i c hc
      obtain ⟨h1,h2⟩:=L.id b c hc hb
      rw [←h2];exact .ptr _ _ _ _ h1
    · exact .any _
  | iptr bw d k i j bl o u ha hb hc hv hr hk hg ih =>
    simp only [vX]
    refine .iptr _ _ k i j bl o u (L.up bw bl hb ha) hb (fun x v hx=>?_) (fun x v hx=>?_) (se hr) (fun e=>tR (hk e)) (mc hg)
    · obtain ⟨v0,h1,_⟩:=jC hr hx;exact hc x v0 h1
    · obtain ⟨v0,h1,h2⟩:=jC hr hx
      rcases h2 with rfl | ⟨rfl,h3⟩
      · exact ih x v0 h1
      · exact di L.nobody (hv x v h1) h3
  | nsl=>exact .nsl
  | esl a=>exact .esl a
  | zsl a c=>exact .zsl a c
  | nan n h=>exact .nan n h
  | sl b k es i len cap cap' hb hcap hl c t hh hs =>
    simp only [vX]
    split
    · rename_i c' hc
      obtain ⟨h1,h2⟩:=L.id b c' hc hb
      rw [←h2] at hh ⊢;exact .sl _ _ _ _ _ _ _ h1 hcap hl c t hh hs
    · exact .any _
  | slEnd b k es i a =>
    simp only [vX]
    split
    · exact .slEnd _ _ _ _ _
    · exact .any _
  | imm bw d k es i len cap bl o u ha hb hc hv hl hr hk hg ih =>
    simp only [vX]
    refine .imm _ _ k es i len cap bl o u (L.up bw bl hb ha) hb (fun x v hx=>?_) (fun x v hx=>?_) hl (se hr) (fun e=>tR (hk e)) (mc hg)
    · obtain ⟨v0,h1,_⟩:=jC hr hx;exact hc x v0 h1
    · obtain ⟨v0,h1,h2⟩:=jC hr hx
      rcases h2 with rfl | ⟨rfl,h3⟩
      · exact ih x v0 h1
      · exact di L.nobody (hv x v h1) h3
  | immEnd bw d k es i cap a hr hk hg=>exact .immEnd _ _ k es i cap a (se hr) (fun e=>tR (hk e)) (mc hg)
  | fn f l1 l2 c1 c2 h1 h2 i1 i2=>exact .fn f _ _ c1 c2 i1 i2
  | nfn=>exact .nfn
  | gmap ks vs bl es cl u ha hb hh hin hex hv hl hk ih=>exact di L.nobody (.gmap ks vs bl es cl u ha hb hh hin hex hv hl hk) rfl
  | gvar c bl t fr ha hb hh=>exact di L.nobody (.gvar c bl t fr ha hb hh) rfl
  | agg l c h ih=>exact .agg _ c ih
  | tup l c h ih=>exact .tup _ c ih
  | iface t v u h ih=>exact .iface t _ u ih
  | niface=>exact .niface
  | yld b L h=>exact .any _
  | any u=>exact .any u
  | nil=>exact bh.nil
  | cons v u l c h t i1 i2=>exact bh.cons _ u _ c i1 i2
def UL:Nat→Option Nat:=fun _=>none
mutual
def tS (σ:Nat→Option Nat) (g:Nat→Option aq):Nat→AV→AV×List Nat
  | 0,_=>(.any,[])
  | n + 1, v =>
    match v with
    | .ptr b w i j=>match σ b with
      | some _=>(.any,[])
      | none=>match g b with
        | some d=>let r:=qQ σ g n d;(.iptr .lent r.1 w i j,b::r.2)
        | none=>(.any,[b])
    | .sl b w es i len _=>match σ b with
      | some _=>(.any,[])
      | none=>match g b with
        | some d=>let r:=qQ σ g n d;(.imm .lent r.1 w es i len,b::r.2)
        | none=>(.any,[b])
    | .fn f l1 l2=>let r1:=sf σ g n l1;let r2:=sf σ g n l2;(.fn f r1.1 r2.1,r1.2++r2.2)
    | .agg l=>let r:=sf σ g n l;(.agg r.1,r.2)
    | .tup l=>let r:=sf σ g n l;(.tup r.1,r.2)
    | .iface t v=>let r:=tS σ g n v;(.iface t r.1,r.2)
    | v=>(vX UL v,[])
def sf (σ:Nat→Option Nat) (g:Nat→Option aq):Nat→List AV→List AV×List Nat
  | 0,l=>(l.map fun _=>.any,[])
  | n+1,l =>
    match l with
    | []=>([],[])
    | v::l=>let r:=tS σ g n v;let s:=sf σ g n l;(r.1::s.1,r.2++s.2)
def qQ (σ:Nat→Option Nat) (g:Nat→Option aq):Nat→aq→aq×List Nat
  | 0,d=>(.vs [],[])
  | n+1,d =>
    match d with
    | .vs l=>let r:=sf σ g n l;(.vs r.1,r.2)
    | d=>(d,[])
end
mutual
theorem uS (σ:Nat→Option Nat) (g:Nat→Option aq):∀ (n:Nat) (v:AV),(tS σ g n v).1.foreign=true
  | 0,v=>rfl
  | n+1,v=>by
    cases v<;>simp only [tS]<;>first
      | (split;rfl;split<;>rfl)
      | (simp only [AV.foreign,Bool.and_eq_true];exact ⟨gF σ g n _,gF σ g n _⟩)
      | (simp only [AV.foreign];exact gF σ g n _)
      | (simp only [AV.foreign];exact uS σ g n _)
      | exact ol _ _ rfl
      | rfl
theorem gF (σ:Nat→Option Nat) (g:Nat→Option aq):∀ (n:Nat) (l:List AV),aN (sf σ g n l).1=true
  | 0,l=>by
    simp only [sf]
    induction l with
    | nil=>rfl
    | cons a l ih=>simp only [List.map_cons,aN,AV.foreign,Bool.true_and];exact ih
  | n+1,[]=>rfl
  | n+1,v::l=>by simp only [sf,aN,Bool.and_eq_true];exact ⟨uS σ g n v,gF σ g n l⟩
end
theorem md(σ:Nat→Option Nat)(g:Nat→Option aq)(n:Nat)(d:aq) :(qQ σ g n d).1.foreign=true:=by
  cases n with
  | zero=>rfl
  | succ n=>cases d<;>simp only [qQ,aq.foreign];exact gF σ g n _
theorem DG(σ:Nat→Option Nat)(g:Nat→Option aq)(n:Nat)(d:aq)(h:d.recKept) :(qQ σ g n d).1.recKept:=by
  cases n with
  | zero=>trivial
  | succ n=>cases d<;>first | exact h | trivial
theorem cn{ρ τ:af}{w:World}{h:aM}{σ:Nat→Option Nat}(L:FU ρ τ w h σ) :FU ρ τ w [] UL :=
  ⟨fun b c q=>(by cases q),L.up,L.nobody,fun b d q=>(by cases q)⟩
mutual
theorem DH {ρ τ:af} {w:World} {h:aM} {m:Nat} {σ:Nat→Option Nat} (hh:HR ρ w h m) (L:FU ρ τ w h σ):∀ (n:Nat) {v:AV} {u:Value},VR ρ w v u→VR τ w (tS σ (aB h) n v).1 u
  | 0,v,u,hv=>.any u
  | n + 1, v, u, hv => by
    have content:∀ (b:Nat) (d:aq),aB h b=some d→ρ.ok b→∀ x v,(qQ σ (aB h) n d).1.cell? x=some v→w.cell? ⟨ρ.at_ b,0+x,none⟩=some ((w.cell? ⟨ρ.at_ b,x,none⟩).getD undef)∧VR τ w v ((w.cell? ⟨ρ.at_ b,x,none⟩).getD undef):=by
      intro b d hd hok x v hx
      obtain ⟨_,hrk,c,t,hc,hcv⟩:=hh.real hd hok
      obtain ⟨u,q1,q2⟩:=JY hh L n (ρ.at_ b) (fun x v hx=>by
        obtain ⟨u,k1,k2⟩:=hcv x v hx
        exact ⟨u,by simp [World.cell?,hc,k1],k2⟩) hrk x v hx
      rw [Nat.zero_add,q1];exact ⟨rfl,q2⟩
    cases v with
    | ptr b k i j =>
      simp only [tS]
      split
      · exact .any _
      · rename_i hσ
        split
        · rename_i d hd
          cases hv with | ptr _ _ _ _ hb =>
          have:=VR.iptr (ρ:=τ) (w:=w) .lent (qQ σ (aB h) n d).1 k i j (ρ.at_ b) 0 (fun x=>(w.cell? ⟨ρ.at_ b,x,none⟩).getD undef) (L.ro b d hd hb hσ) (hh.liveLt _ (hh.real hd hb).1)
            (fun x v hx=>(content b d hd hb x v hx).1) (fun x v hx=>(content b d hd hb x v hx).2) (DG _ _ _ _ (hh.rk hd)) (fun e=>by cases e) (md _ _ _ _)
          simpa using this
        · exact .any _
    | sl b k es i len cap =>
      simp only [tS]
      split
      · exact .any _
      · rename_i hσ
        split
        · rename_i d hd
          cases hv with
          | sl _ _ _ _ _ _ cap' hb hcap hl' c t hh' hs =>
            have:=VR.imm (ρ:=τ) (w:=w) .lent (qQ σ (aB h) n d).1 k es i len cap' (ρ.at_ b) 0 (fun x=>(w.cell? ⟨ρ.at_ b,x,none⟩).getD undef) (L.ro b d hd hb hσ) (hh.liveLt _ (hh.real hd hb).1)
              (fun x v hx=>(content b d hd hb x v hx).1) (fun x v hx=>(content b d hd hb x v hx).2) (by omega) (DG _ _ _ _ (hh.rk hd)) (fun e=>by cases e) (md _ _ _ _)
            simpa using this
          | slEnd=>exact .immEnd _ _ _ _ _ _ _ (DG _ _ _ _ (hh.rk hd)) (fun e=>by cases e) (md _ _ _ _)
        · exact .any _
    | fn f l1 l2=>cases hv with | fn _ _ _ _ _ h1 h2=>exact .fn _ _ _ _ _ (me hh L n h1) (me hh L n h2)
    | agg l=>cases hv with | agg _ _ h1=>exact .agg _ _ (me hh L n h1)
    | tup l=>cases hv with | tup _ _ h1=>exact .tup _ _ (me hh L n h1)
    | iface t v=>cases hv with | iface _ _ _ h1=>exact .iface _ _ _ (DH hh L n h1)
    | int=>exact dT (cn L) hv
    | bool=>exact dT (cn L) hv
    | flt=>exact dT (cn L) hv
    | str=>exact dT (cn L) hv
    | nptr=>exact dT (cn L) hv
    | iptr=>exact dT (cn L) hv
    | nsl=>exact dT (cn L) hv
    | esl=>exact dT (cn L) hv
    | zsl=>exact dT (cn L) hv
    | nan=>exact dT (cn L) hv
    | imm=>exact dT (cn L) hv
    | nfn=>exact dT (cn L) hv
    | gmap=>exact dT (cn L) hv
    | gvar=>exact dT (cn L) hv
    | niface=>exact dT (cn L) hv
    | yld=>exact dT (cn L) hv
    | any=>exact dT (cn L) hv
theorem me {ρ τ:af} {w:World} {h:aM} {m:Nat} {σ:Nat→Option Nat} (hh:HR ρ w h m) (L:FU ρ τ w h σ):∀ (n:Nat) {l:List AV} {c:List Value},bh ρ w l c→bh τ w (sf σ (aB h) n l).1 c
  | 0,[],c,hv=>by cases hv;exact .nil
  | 0,v::l,c,hv=>by
    cases hv with | cons _ u _ c' h1 h2 =>
    have:=me hh L 0 h2
    exact .cons _ _ _ _ (.any u) this
  | n+1,[],c,hv=>by cases hv;exact .nil
  | n+1,v::l,c,hv=>by
    cases hv with | cons _ u _ c' h1 h2=>exact .cons _ _ _ _ (DH hh L n h1) (me hh L n h2)
theorem JY {ρ τ:af} {w:World} {h:aM} {m:Nat} {σ:Nat→Option Nat} (hh:HR ρ w h m) (L:FU ρ τ w h σ):∀ (n:Nat) (bl:Nat) {d:aq},(∀ x v,d.cell? x=some v→∃ u,w.cell? ⟨bl,x,none⟩=some u∧VR ρ w v u)→d.recKept →
    ∀ x v,(qQ σ (aB h) n d).1.cell? x=some v→∃ u,w.cell? ⟨bl,x,none⟩=some u∧VR τ w v u
  | 0,bl,d,hc,hr,x,v,hx=>by simp [qQ,aq.cell?] at hx
  | n + 1, bl, d, hc, hr, x, v, hx => by
    cases d with
    | vs l =>
      simp only [qQ,aq.cell?] at hx
      have hus:bh ρ w l ((List.range l.length).map fun x=>(w.cell? ⟨bl,x,none⟩).getD undef):=by
        refine jN (by simp) fun y v u q1 q2=>?_
        obtain ⟨u',k1,k2⟩:=hc y v q1
        have hlt:y<l.length:=(List.getElem?_eq_some_iff.1 q1).1
        rw [List.getElem?_map,List.getElem?_range hlt] at q2
        simp [k1] at q2;subst q2;exact k2
      have hr2:=me hh L n hus
      obtain ⟨u,q1,q2⟩:=hr2.get x v hx
      rw [List.getElem?_map] at q1
      have hlt:x<l.length:=by
        rcases Nat.lt_or_ge x l.length with q | q
        · exact q
        · rw [List.getElem?_eq_none (by simpa using q)] at q1;cases q1
      rw [List.getElem?_range hlt] at q1
      obtain ⟨u',k1,_⟩:=hc x (l[x]) (List.getElem?_eq_getElem hlt)
      simp [k1] at q1;subst q1
      exact ⟨u',k1,q2⟩
    | fl xs=>obtain ⟨u,q1,q2⟩:=hc x v hx;exact ⟨u,q1,di L.nobody q2 (aO (d:=.fl xs) hr rfl x v hx)⟩
    | ns k xs=>obtain ⟨u,q1,q2⟩:=hc x v hx;exact ⟨u,q1,di L.nobody q2 (aO (d:=.ns k xs) hr rfl x v hx)⟩
    | bs xs=>obtain ⟨u,q1,q2⟩:=hc x v hx;exact ⟨u,q1,di L.nobody q2 (aO (d:=.bs xs) hr rfl x v hx)⟩
    | ss xs=>obtain ⟨u,q1,q2⟩:=hc x v hx;exact ⟨u,q1,di L.nobody q2 (aO (d:=.ss xs) hr rfl x v hx)⟩
    | rows k m get=>obtain ⟨u,q1,q2⟩:=hc x v hx;exact ⟨u,q1,di L.nobody q2 (aO (d:=.rows k m get) hr rfl x v hx)⟩
    | cols k cs=>obtain ⟨u,q1,q2⟩:=hc x v hx;exact ⟨u,q1,di L.nobody q2 (aO (d:=.cols k cs) hr rfl x v hx)⟩
end
def bX:Nat→List (Option aq)→aM
  | _,[]=>[]
  | i,some d::l=>(i,d)::bX (i+1) l
  | i,none::l=>bX (i+1) l
theorem mf:∀ (l:List (Option aq)) (i x:Nat),aB (bX i l) x=if i≤x then (l[x-i]?).join else none
  | [],i,x=>by simp [bX,cq,bP]
  | some d::l,i,x=>by
    simp only [bX,cq,bP]
    by_cases h:i=x
    · subst h;simp [gB]
    · rw [jL h,cond_false,mf l (i+1) x]
      by_cases hx:i≤x
      · have e:x-i=(x-(i+1))+1:=by omega
        rw [if_pos (by omega),if_pos hx,e];simp
      · rw [if_neg (by omega),if_neg hx]
  | none::l,i,x=>by
    simp only [bX]
    rw [mf l (i+1) x]
    by_cases hx:i≤x
    · rw [if_pos hx]
      by_cases h:i=x
      · subst h;rw [if_neg (by omega)];simp
      · have e:x-i=(x-(i+1))+1:=by omega
        rw [if_pos (by omega),e];simp
    · rw [if_neg (by omega),if_neg hx]
theorem qh(l:List (Option aq))(x:Nat) :aB (bX 0 l) x=(l[x]?).join:=by
  rw [mf];simp
theorem eE{l:List (Option aq)}{x:Nat}{d:aq}(h:aB (bX 0 l) x=some d) :l[x]? = some (some d):=by
  rw [qh] at h
  cases q:l[x]? with
  | none=>rw [q] at h;cases h
  | some o=>rw [q] at h;simp at h;rw [h]
structure dF (ρ:af) (w:World) (lent:List aq):Prop where
  heap:HR ρ w (bX 0 (lent.map some)) lent.length
  only:∀ bl,ρ.live bl→∃ i,ρ.ok i∧ρ.at_ i=bl
  pin:ρ.pin.2=none
structure eJ where
  v:AV
  own:List (Option aq)
def eJ.Holds(ρ:af)(w w':World)(k:Nat)(r:eJ)(u:Value) :Prop :=
  ∃ ρ',eI ρ ρ' w∧(∀ i,i<k→ρ'.ok i→ρ.ok i)∧HR ρ' w' (bX 0 r.own) r.own.length∧VR ρ' w' r.v u
def tT(ρ:af)(bs:List Nat)(bl:Nat) :Prop:=∃ b,b∈bs∧ρ.ok b∧bl=ρ.at_ b
def af.lend(ρ:af)(bs:List Nat) :af :=
  { at_:=fun i=>ρ.at_ ((bs[i]?).getD 0),ok:=fun i=>∃ b,bs[i]? = some b∧ρ.ok b,live:=tT ρ bs,
    out:=fun j bl=>match j with
      | 0=>ρ.live bl∧¬ tT ρ bs bl
      | j+1=>ρ.out j bl
    pin:=(0,none) }
def eU:List Nat→Nat→Nat→Option Nat
  | [],_,_=>none
  | k::l,i,b=>bif Nat.beq k b then some i else eU l (i+1) b
theorem px:∀ {l:List Nat} {i b c:Nat},eU l i b=some c→i≤c∧l[c-i]? = some b
  | [],i,b,c,h=>by cases h
  | k::l,i,b,c,h=>by
    simp only [eU] at h
    cases e:Nat.beq k b with
    | true=>rw [e] at h;simp only [cond_true,Option.some.injEq] at h;subst h;have:=Nat.eq_of_beq_eq_true e;subst this;simp
    | false =>
      rw [e] at h;simp only [cond_false] at h
      obtain ⟨h1,h2⟩:=px h
      refine ⟨by omega,?_⟩
      have:c-i=(c-(i+1))+1:=by omega
      rw [this];simpa using h2
theorem wy:∀ {l:List Nat} {i b:Nat},eU l i b=none→b ∉ l
  | [],i,b,_,h=>by cases h
  | k::l,i,b,h,hm=>by
    simp only [eU] at h
    cases e:Nat.beq k b with
    | true=>rw [e] at h;cases h
    | false =>
      rw [e] at h
      rcases List.mem_cons.1 hm with rfl | q
      · rw [gB] at e;cases e
      · exact wy h q
structure FV (h:aM) (bs:List Nat):Prop where
  nodup:∀ {i j b:Nat},bs[i]? = some b→bs[j]? = some b→i=j
  there:∀ b,b∈bs→∃ d,aB h b=some d
theorem jD{ρ:af}{w:World}{h:aM}{n:Nat}{bs:List Nat}(hh:HR ρ w h n)(hb:FV h bs){bl:Nat}(q:tT ρ bs bl) :ρ.live bl:=by
  obtain ⟨b,h1,h2,rfl⟩:=q
  obtain ⟨d,hd⟩:=hb.there b h1
  exact (hh.real hd h2).1
theorem Mw{ρ:af}{w:World}{h:aM}{n:Nat}{bs:List Nat}(hh:HR ρ w h n)(hb:FV h bs) :FU ρ (ρ.lend bs) w h (eU bs 0):=by
  refine ⟨fun b c hc hok=>?_,fun l bl _ ha=>?_,fun bl _ hN j=>?_,fun b d hd hok hσ=>?_⟩
  · obtain ⟨_,h2⟩:=px hc
    rw [Nat.sub_zero] at h2
    exact ⟨⟨b,h2,hok⟩,by simp [af.lend,h2]⟩
  · refine ⟨fun q=>dt ha (jD hh hb q),?_⟩
    refine lT (d:=1) (i:=0) (fun j _ q=>?_) ha
    cases j with
    | zero=>exact q.1
    | succ j=>exact q
  · cases j with
    | zero=>exact fun q=>hN 0 (jD hh hb q)
    | succ j =>
      cases j with
      | zero=>exact fun q=>hN 0 q.1
      | succ j=>exact fun q=>hN (j+1) q
  · rintro ⟨b',h1,h2,h3⟩
    obtain ⟨d',hd'⟩:=hb.there b' h1
    have:=hh.inj b b' d d' hd hd' hok h2 h3
    subst this
    exact wy hσ h1
def iY(σ:Nat→Option Nat)(g:Nat→Option aq) :List Nat→List aq
  | []=>[]
  | b::l=>(match g b with | some d=>zC σ d | none=>.vs [])::iY σ g l
theorem iA(σ:Nat→Option Nat)(g:Nat→Option aq) :∀ l,(iY σ g l).length=l.length
  | []=>rfl
  | b::l=>by simp [iY,iA σ g l]
theorem wz(σ:Nat→Option Nat)(g:Nat→Option aq) :∀ (l:List Nat) (i:Nat) (d:aq),(iY σ g l)[i]? = some d→∃ b,l[i]? = some b∧d=(match g b with | some d=>zC σ d | none=>.vs [])
  | [],i,d,h=>by simp [iY] at h
  | b::l,0,d,h=>by simp [iY] at h;exact ⟨b,rfl,h.symm⟩
  | b::l,i+1,d,h=>wz σ g l i d (by simpa [iY] using h)
theorem JZ{ρ:af}{w:World}{h:aM}{n:Nat}{bs:List Nat}(hh:HR ρ w h n)(hb:FV h bs) :dF (ρ.lend bs) w (iY (eU bs 0) (aB h) bs):=by
  have L:=Mw hh hb
  have atE:∀ {i b:Nat},bs[i]? = some b→(ρ.lend bs).at_ i=ρ.at_ b:=fun q=>by simp [af.lend,q]
  refine ⟨⟨fun i d hi=>?_,fun i j d e h1 h2 ok1 ok2 he=>?_,fun bl q j=>?_,fun bl q=>hh.liveLt bl (jD hh hb q),fun j bl q=>?_,fun i q=>?_,fun x hx=>di L.nobody (hh.rom x hx) (Rom.kept x hx)⟩,fun bl q=>?_,rfl⟩
  · have hi:=eE hi
    rw [List.getElem?_map,Option.map_eq_some_iff] at hi
    obtain ⟨d',q1,q2⟩:=hi
    simp only [Option.some.injEq] at q2;subst q2
    obtain ⟨b,q3,q4⟩:=wz _ _ _ _ _ q1
    obtain ⟨d0,hd0⟩:=hb.there b (List.mem_of_getElem? q3)
    rw [hd0] at q4
    simp only at q4;subst q4
    have hlt:i<bs.length:=(List.getElem?_eq_some_iff.1 q3).1
    rcases hh.cell b d0 hd0 with ⟨k1,k2,k3⟩ | ⟨k1,k2,k3,k4⟩
    · refine .inl ⟨⟨b,q3,k1⟩,⟨b,List.mem_of_getElem? q3,k1,atE q3⟩,?_⟩
      rw [atE q3]
      obtain ⟨hr,c,t,r1,r2⟩:=k3
      refine ⟨se hr,c,t,r1,fun x v hx=>?_⟩
      obtain ⟨v0,s1,s2⟩:=jC hr hx
      obtain ⟨u,t1,t2⟩:=r2 x v0 s1
      refine ⟨u,t1,?_⟩
      rcases s2 with rfl | ⟨rfl,s3⟩
      · exact dT L t2
      · exact di L.nobody t2 s3
    · refine .inr ⟨?_,by rw [iA];exact hlt,se k3,fun x=>?_⟩
      · rintro ⟨b',q5,q6⟩
        rw [q3] at q5;cases q5
        exact k1 q6
      · cases hc:(zC (eU bs 0) d0).cell? x with
        | none=>rfl
        | some v=>obtain ⟨v0,s1,_⟩:=jC k3 hc;rw [k4 x] at s1;cases s1
  · obtain ⟨b,r1,r2⟩:=ok1
    obtain ⟨b',r3,r4⟩:=ok2
    rw [atE r1,atE r3] at he
    obtain ⟨d1,k1⟩:=hb.there b (List.mem_of_getElem? r1)
    obtain ⟨d2,k2⟩:=hb.there b' (List.mem_of_getElem? r3)
    have:=hh.inj b b' d1 d2 k1 k2 r2 r4 he
    subst this
    exact hb.nodup r1 r3
  · cases j with
    | zero=>exact fun r=>r.2 q
    | succ j=>exact hh.fresh bl (jD hh hb q) j
  · cases j with
    | zero=>exact hh.liveLt bl q.1
    | succ j=>exact hh.outLt j bl q
  · obtain ⟨b,q1,_⟩:=q
    rw [iA];exact (List.getElem?_eq_some_iff.1 q1).1
  · obtain ⟨b,q1,q2,rfl⟩:=q
    obtain ⟨i,hi⟩:=List.getElem?_of_mem q1
    exact ⟨i,⟨b,hi,q2⟩,atE hi⟩
mutual
def fC (τ:Nat→Nat):AV→AV
  | .ptr b w i j=>.ptr (τ b) w i j
  | .sl b w es i len cap=>.sl (τ b) w es i len cap
  | .iptr (.up l) d w i j=>.iptr l (nF τ d) w i j
  | .iptr .free d w i j=>.iptr .free d w i j
  | .iptr .lent _ _ _ _=>.any
  | .imm (.up l) d w es i len=>.imm l (nF τ d) w es i len
  | .imm .free d w es i len=>.imm .free d w es i len
  | .imm .lent _ _ _ _ _=>.any
  | .fn f l1 l2=>.fn f (jP τ l1) (jP τ l2)
  | .agg l=>.agg (jP τ l)
  | .tup l=>.tup (jP τ l)
  | .iface t v=>.iface t (fC τ v)
  | .yld _=>.any
  | v=>v
def jP (τ:Nat→Nat):List AV→List AV
  | []=>[]
  | v::l=>fC τ v::jP τ l
def nF (τ:Nat→Nat):aq→aq
  | .vs l=>.vs (jP τ l)
  | d=>d
end
mutual
theorem wA (τ:Nat→Nat):∀ (v:AV),v.kept=true→(fC τ v).kept=true
  | .fn _ l1 l2,h=>by simp only [AV.kept,fC,Bool.and_eq_true] at h ⊢;exact ⟨ig τ l1 h.1,ig τ l2 h.2⟩
  | .agg l,h=>by simp only [AV.kept,fC] at h ⊢;exact ig τ l h
  | .tup l,h=>by simp only [AV.kept,fC] at h ⊢;exact ig τ l h
  | .iface _ v,h=>by simp only [AV.kept,fC] at h ⊢;exact wA τ v h
  | .ptr ..,h=>by simp [AV.kept] at h
  | .sl ..,h=>by simp [AV.kept] at h
  | .iptr .free ..,h=>rfl
  | .iptr .lent ..,h=>rfl
  | .iptr (.up l) ..,h=>by simpa [AV.kept,fC,Lv.isFree] using h
  | .imm .free ..,h=>rfl
  | .imm .lent ..,h=>rfl
  | .imm (.up l) ..,h=>by simpa [AV.kept,fC,Lv.isFree] using h
  | .yld _,h=>by simp [AV.kept] at h
  | .int ..,_ | .bool ..,_ | .flt ..,_ | .str _,_ | .nptr,_ | .nsl,_ | .esl,_ | .zsl _,_ | .nan,_ | .nfn,_ | .gmap ..,_ | .gvar _,_ | .niface,_ | .any,_=>rfl
theorem ig (τ:Nat→Nat):∀ (l:List AV),bK l=true→bK (jP τ l)=true
  | [],_=>rfl
  | v::l,h=>by simp only [bK,jP,Bool.and_eq_true] at h ⊢;exact ⟨wA τ v h.1,ig τ l h.2⟩
end
mutual
theorem qi (τ:Nat→Nat):∀ (v:AV),v.foreign=true→(fC τ v).foreign=true
  | .fn _ l1 l2,h=>by simp only [AV.foreign,fC,Bool.and_eq_true] at h ⊢;exact ⟨eF τ l1 h.1,eF τ l2 h.2⟩
  | .agg l,h=>by simp only [AV.foreign,fC] at h ⊢;exact eF τ l h
  | .tup l,h=>by simp only [AV.foreign,fC] at h ⊢;exact eF τ l h
  | .iface _ v,h=>by simp only [AV.foreign,fC] at h ⊢;exact qi τ v h
  | .ptr ..,h=>by simp [AV.foreign] at h
  | .sl ..,h=>by simp [AV.foreign] at h
  | .iptr .free ..,h=>rfl
  | .iptr .lent ..,h=>rfl
  | .iptr (.up l) ..,h=>rfl
  | .imm .free ..,h=>rfl
  | .imm .lent ..,h=>rfl
  | .imm (.up l) ..,h=>rfl
  | .yld _,h=>by simp [AV.foreign] at h
  | .int ..,_ | .bool ..,_ | .flt ..,_ | .str _,_ | .nptr,_ | .nsl,_ | .esl,_ | .zsl _,_ | .nan,_ | .nfn,_ | .gmap ..,_ | .gvar _,_ | .niface,_ | .any,_=>rfl
theorem eF (τ:Nat→Nat):∀ (l:List AV),aN l=true→aN (jP τ l)=true
  | [],_=>rfl
  | v::l,h=>by simp only [aN,jP,Bool.and_eq_true] at h ⊢;exact ⟨qi τ v h.1,eF τ l h.2⟩
end
theorem qR{τ:Nat→Nat}{d:aq}(h:d.kept=true) :(nF τ d).kept=true:=by
  cases d<;>first | exact h | exact ig τ _ h
theorem kT{τ:Nat→Nat}{d:aq}(h:d.foreign=true) :(nF τ d).foreign=true:=by
  cases d<;>first | exact h | exact eF τ _ h
theorem om{τ:Nat→Nat}{d:aq}(h:d.recKept) :(nF τ d).recKept:=by
  cases d<;>first | exact h | trivial
theorem Be(τ:Nat→Nat) :∀ (l:List AV) (x:Nat),(jP τ l)[x]? = (l[x]?).map (fC τ)
  | [],x=>by simp [jP]
  | v::l,0=>by simp [jP]
  | v::l,x+1=>by simp [jP,Be τ l x]
theorem ii{τ:Nat→Nat}{d:aq}(hr:d.recKept){x:Nat}{v:AV}(h:(nF τ d).cell? x=some v) :∃ v0,d.cell? x=some v0∧(v=fC τ v0∨(v=v0∧v0.kept=true)):=by
  cases d with
  | vs l =>
    simp only [nF,aq.cell?,Be,Option.map_eq_some_iff] at h
    obtain ⟨v0,h1,rfl⟩:=h
    exact ⟨v0,h1,.inl rfl⟩
  | fl xs=>exact ⟨v,h,.inr ⟨rfl,aO hr rfl x v h⟩⟩
  | ns k xs=>exact ⟨v,h,.inr ⟨rfl,aO hr rfl x v h⟩⟩
  | bs xs=>exact ⟨v,h,.inr ⟨rfl,aO hr rfl x v h⟩⟩
  | ss xs=>exact ⟨v,h,.inr ⟨rfl,aO hr rfl x v h⟩⟩
  | rows k n g=>exact ⟨v,h,.inr ⟨rfl,aO hr rfl x v h⟩⟩
  | cols n cs=>exact ⟨v,h,.inr ⟨rfl,aO hr rfl x v h⟩⟩
structure VI (ρ' τp:af) (w:World) (τ:Nat→Nat):Prop where
  id:∀ b,ρ'.ok b→τp.ok (τ b)∧τp.at_ (τ b)=ρ'.at_ b
  down:∀ l bl,bl<w.heap.size→ρ'.avoid (.up l) bl→τp.avoid l bl
  nobody:JX ρ' τp w
theorem Mx{ρ' τp:af}{w:World}{τ:Nat→Nat}(L:VI ρ' τp w τ){v:AV}{u:Value}(hv:VR ρ' w v u) :VR τp w (fC τ v) u:=by
  induction hv using VR.rec (motive_2:=fun l c _=>bh τp w (jP τ l) c) with
  | int k n=>exact .int k n
  | bool kn b=>exact .bool kn b
  | flt ex x y h=>exact .flt ex x y h
  | str s=>exact .str s
  | nptr=>exact .nptr
  | ptr b k i j hb =>
    obtain ⟨h1,h2⟩:=L.id b hb
    simp only [fC];rw [←h2];exact .ptr _ _ _ _ h1
  | iptr bw d k i j bl o u ha hb hc hv hr hk hg ih =>
    cases bw with
    | lent=>exact .any _
    | free =>
      exact .iptr _ _ k i j bl o u (eC (L.nobody bl hb fun j=>ib (O:=ρ'.own) (l:=.free) rfl ha j (Nat.zero_le _)) .free 0) hb hc
        (fun x v hx=>di L.nobody (hv x v hx) (aO hr (hk rfl) x v hx)) hr hk hg
    | up l =>
      refine .iptr l _ k i j bl o u (L.down l bl hb ha) hb (fun x v hx=>?_) (fun x v hx=>?_) (om hr) (fun e=>qR (hk e)) (kT hg)
      · obtain ⟨v0,h1,_⟩:=ii hr hx;exact hc x v0 h1
      · obtain ⟨v0,h1,h2⟩:=ii hr hx
        rcases h2 with rfl | ⟨rfl,h3⟩
        · exact ih x v0 h1
        · exact di L.nobody (hv x v h1) h3
  | nsl=>exact .nsl
  | esl a=>exact .esl a
  | zsl a c=>exact .zsl a c
  | nan n h=>exact .nan n h
  | sl b k es i len cap cap' hb hcap hl c t hh hs =>
    obtain ⟨h1,h2⟩:=L.id b hb
    simp only [fC];rw [←h2] at hh ⊢;exact .sl _ _ _ _ _ _ _ h1 hcap hl c t hh hs
  | slEnd b k es i a=>exact .slEnd _ _ _ _ _
  | imm bw d k es i len cap bl o u ha hb hc hv hl hr hk hg ih =>
    cases bw with
    | lent=>exact .any _
    | free =>
      exact .imm _ _ k es i len cap bl o u (eC (L.nobody bl hb fun j=>ib (O:=ρ'.own) (l:=.free) rfl ha j (Nat.zero_le _)) .free 0) hb hc
        (fun x v hx=>di L.nobody (hv x v hx) (aO hr (hk rfl) x v hx)) hl hr hk hg
    | up l =>
      refine .imm l _ k es i len cap bl o u (L.down l bl hb ha) hb (fun x v hx=>?_) (fun x v hx=>?_) hl (om hr) (fun e=>qR (hk e)) (kT hg)
      · obtain ⟨v0,h1,_⟩:=ii hr hx;exact hc x v0 h1
      · obtain ⟨v0,h1,h2⟩:=ii hr hx
        rcases h2 with rfl | ⟨rfl,h3⟩
        · exact ih x v0 h1
        · exact di L.nobody (hv x v h1) h3
  | immEnd bw d k es i cap a hr hk hg =>
    cases bw with
    | lent=>exact .any _
    | free=>exact .immEnd _ _ k es i cap a hr hk hg
    | up l=>exact .immEnd _ _ k es i cap a (om hr) (fun e=>qR (hk e)) (kT hg)
  | fn f l1 l2 c1 c2 h1 h2 i1 i2=>exact .fn f _ _ c1 c2 i1 i2
  | nfn=>exact .nfn
  | gmap ks vs bl es cl u ha hb hh hin hex hv hl hk ih=>exact di L.nobody (.gmap ks vs bl es cl u ha hb hh hin hex hv hl hk) rfl
  | gvar c bl t fr ha hb hh=>exact di L.nobody (.gvar c bl t fr ha hb hh) rfl
  | agg l c h ih=>exact .agg _ c ih
  | tup l c h ih=>exact .tup _ c ih
  | iface t v u h ih=>exact .iface t _ u ih
  | niface=>exact .niface
  | yld b L h=>exact .any _
  | any u=>exact .any u
  | nil=>exact bh.nil
  | cons v u l c h t i1 i2=>exact bh.cons _ u _ c i1 i2
def iP:Nat:=16
def cE(bs:List Nat)(nid i:Nat) :Nat :=
  match bs[i]? with
  | some b=>b
  | none=>nid+(i-bs.length)
def ek(τ:Nat→Nat) :Nat→List (Option aq)→List (Nat×Option aq)
  | _,[]=>[]
  | i,o::l=>(τ i,o.map (nF τ))::ek τ (i+1) l
theorem uT:∀ (s:List (Nat×Option aq)) (h:aM) (x:Nat),(∀ (i j:Nat) (p q:Nat×Option aq),s[i]? = some p→s[j]? = some q→p.1=q.1→i=j) →
    aB (bf s h) x=match s.find? (fun p=>Nat.beq p.1 x) with | some p=>p.2 | none=>aB h x
  | [],h,x,_=>rfl
  | (b, o) :: s, h, x, hn => by
    have hn':∀ (i j:Nat) (p q:Nat×Option aq),s[i]? = some p→s[j]? = some q→p.1=q.1→i=j:=fun i j p q h1 h2 h3=>by
      have:=hn (i+1) (j+1) p q (by simpa using h1) (by simpa using h2) h3;omega
    have key:aB (bf ((b,o)::s) h) x=aB (bf s (match o with | some d=>cH h b d | none=>lU h b)) x:=by
      cases o<;>rfl
    rw [key,uT s _ x hn']
    by_cases hb:b=x
    · subst hb
      rw [List.find?_cons_of_pos (by simp [gB])]
      have hno:s.find? (fun p=>Nat.beq p.1 b)=none:=by
        rw [List.find?_eq_none]
        intro p hp hq
        obtain ⟨j,hj⟩:=List.getElem?_of_mem hp
        have:=hn 0 (j+1) (b,o) p rfl (by simpa using hj) (Nat.eq_of_beq_eq_true hq).symm
        omega
      rw [hno]
      cases o with
      | some d=>simp only [be,if_true]
      | none=>simp only [gk,if_true]
    · rw [List.find?_cons_of_neg (by simp [jL hb])]
      split
      · rfl
      · cases o with
        | some d=>simp only [be,if_neg hb]
        | none=>simp only [gk,if_neg hb]
theorem jn(τ:Nat→Nat) :∀ (l:List (Option aq)) (i j:Nat),(ek τ i l)[j]? = (l[j]?).map fun o=>(τ (i+j),o.map (nF τ))
  | [],i,j=>by simp [ek]
  | o::l,i,0=>by simp [ek]
  | o::l,i,j+1=>by
    simp only [ek,List.getElem?_cons_succ]
    rw [jn τ l (i+1) j]
    have:i+1+j=i+(j+1):=by omega
    rw [this]
def af.adopt(ρ ρ':af)(k nid m:Nat) :af :=
  { at_:=fun x=>if nid≤x∧x-nid+k<m then ρ'.at_ (x-nid+k) else ρ.at_ x,
    ok:=fun x=>ρ.ok x∨(nid≤x∧x-nid+k<m∧ρ'.ok (x-nid+k)),
    live:=fun bl=>ρ.live bl∨ρ'.live bl,out:=ρ.out,pin:=ρ.pin }
theorem Qp{ρ ρ':af}{w w':World}{h:aM}{n nid:Nat}{bs:List Nat}{own:List (Option aq)}(hh:HR ρ w h n)(hbs:FV h bs)(hid:∀ x,nid≤x→x<nid+iP→¬ ρ.ok x)(hfr:∀ b,b∈bs→b<nid∨nid+iP≤b) 
    (hn:nid+iP≤n) (hm:own.length≤bs.length+iP) (W:dx (ρ.lend bs).live w w') (E:eI (ρ.lend bs) ρ' w) (hbk:∀ i,i<bs.length→ρ'.ok i→(ρ.lend bs).ok i)
    (H:HR ρ' w' (bX 0 own) own.length) {v:AV} {u:Value} (hv:VR ρ' w' v u) :
    eI ρ (ρ.adopt ρ' bs.length nid own.length) w∧dx ρ.live w w'∧HR (ρ.adopt ρ' bs.length nid own.length) w' (bf (ek (cE bs nid) 0 own) h) n ∧
    VR (ρ.adopt ρ' bs.length nid own.length) w' (fC (cE bs nid) v) u∧∀ b,(ρ.adopt ρ' bs.length nid own.length).ok b→ρ.ok b∨(nid≤b∧b<nid+iP):=by
  have W':dx ρ.live w w':=W.mono (fun b _ q=>jD hh hbs q)
  have old:∀ {bl:Nat},bl<w.heap.size→ρ'.live bl→tT ρ bs bl:=fun hb q=>E.new _ hb q
  have newOk:∀ {x:Nat},nid≤x→x-nid+bs.length<own.length→¬ ρ.ok x:=fun h1 h2=>hid _ h1 (by omega)
  have E2:eI ρ (ρ.adopt ρ' bs.length nid own.length) w:=by
    refine ⟨fun x hx=>?_,fun _ q=>.inl q,fun _ q=>.inl q,fun x hx q=>q.elim id (fun q=>jD hh hbs (old hx q)),rfl,rfl⟩
    simp only [af.adopt]
    rw [if_neg (fun q=>newOk q.1 q.2 hx)]

  have name_old:∀ {i b:Nat},bs[i]? = some b→cE bs nid i=b:=fun q=>by simp [cE,q]
  have name_new:∀ {i:Nat},bs.length≤i→cE bs nid i=nid+(i-bs.length):=fun q=>by simp [cE,List.getElem?_eq_none q]
  have name_inj:∀ {i j:Nat},i<own.length→j<own.length→cE bs nid i=cE bs nid j→i=j:=by
    intro i j li lj e
    rcases Nat.lt_or_ge i bs.length with hi | hi<;>rcases Nat.lt_or_ge j bs.length with hj | hj
    · have a:=List.getElem?_eq_getElem hi
      have b:=List.getElem?_eq_getElem hj
      rw [name_old a,name_old b] at e
      rw [e] at a
      exact hbs.nodup a b
    · have a:=List.getElem?_eq_getElem hi
      rw [name_old a,name_new hj] at e
      have:=hfr _ (List.getElem_mem hi);omega
    · have b:=List.getElem?_eq_getElem hj
      rw [name_new hi,name_old b] at e
      have:=hfr _ (List.getElem_mem hj);omega
    · rw [name_new hi,name_new hj] at e;omega
  have lendOk:∀ {i b:Nat},bs[i]? = some b→ρ'.ok i→ρ.ok b:=by
    intro i b q hok
    obtain ⟨b',r1,r2⟩:=hbk i (List.getElem?_eq_some_iff.1 q).1 hok
    rw [q] at r1;cases r1;exact r2
  have atOld:∀ {i b:Nat},bs[i]? = some b→ρ'.ok i→ρ'.at_ i=ρ.at_ b:=by
    intro i b q hok
    have:=E.at_ i ⟨b,q,lendOk q hok⟩
    rw [this];simp [af.lend,q]
  have idOk:∀ i,ρ'.ok i→(ρ.adopt ρ' bs.length nid own.length).ok (cE bs nid i)∧(ρ.adopt ρ' bs.length nid own.length).at_ (cE bs nid i)=ρ'.at_ i:=by
    intro i hok
    have hlt:=H.lt i hok
    rcases Nat.lt_or_ge i bs.length with hi | hi
    · have a:=List.getElem?_eq_getElem hi
      have k:=lendOk a hok
      rw [name_old a]
      exact ⟨.inl k,by rw [E2.at_ _ k,atOld a hok]⟩
    · rw [name_new hi]
      have e:nid+(i-bs.length)-nid+bs.length=i:=by omega
      refine ⟨.inr ⟨by omega,by omega,by rw [e];exact hok⟩,?_⟩
      simp only [af.adopt]
      rw [if_pos ⟨by omega,by omega⟩,e]
  have L:VI ρ' (ρ.adopt ρ' bs.length nid own.length) w' (cE bs nid):=by
    have own0:∀ {bl:Nat},(ρ.adopt ρ' bs.length nid own.length).own 0 bl→ρ'.own 0 bl∨ρ'.own 1 bl:=by
      intro bl q
      rcases q with q | q
      · by_cases hl:tT ρ bs bl
        · exact .inl (E.live bl hl)
        · right;simp only [af.own];rw [E.out];exact ⟨q,hl⟩
      · exact .inl q
    have ownS:∀ {j bl:Nat},(ρ.adopt ρ' bs.length nid own.length).own (j+1) bl→ρ'.own (j+2) bl:=by
      intro j bl q
      simp only [af.own,af.adopt] at q ⊢
      rw [E.out];exact q
    refine ⟨idOk,fun l bl _ ha=>?_,fun bl _ hN j q=>?_⟩
    · obtain ⟨a1,a2⟩:=ha
      have:∀ {l:Lv} {i:Nat},l.av ρ'.own (i+1) bl→l.av (ρ.adopt ρ' bs.length nid own.length).own i bl:=by
        intro l
        have sub:∀ {i:Nat},(ρ.adopt ρ' bs.length nid own.length).own i bl→ρ'.own (i+1) bl:=by
          intro i q
          cases i with
          | zero=>exact (own0 q).resolve_left a1
          | succ i=>exact ownS q
        induction l with
        | free=>intro i h j hj q;exact h (j+1) (by omega) (sub q)
        | lent=>intro i h q;exact h (sub q)
        | up l ih=>intro i h;exact ⟨fun q=>h.1 (sub q),ih h.2⟩
      exact this a2
    · cases j with
      | zero=>rcases own0 q with q | q;exact hN 0 q;exact hN 1 q
      | succ j=>exact hN (j+2) (ownS q)
  refine ⟨E2,W',?_,Mx L hv,fun b q=>q.elim .inl (fun q=>.inr ⟨q.1,by omega⟩)⟩

  have mC:∀ (i j:Nat) (p q:Nat×Option aq),(ek (cE bs nid) 0 own)[i]? = some p→(ek (cE bs nid) 0 own)[j]? = some q→p.1=q.1→i=j:=by
    intro i j p q h1 h2 h3
    rw [jn,Option.map_eq_some_iff] at h1 h2
    obtain ⟨_,l1,rfl⟩:=h1
    obtain ⟨_,l2,rfl⟩:=h2
    simp only [Nat.zero_add] at h3
    exact name_inj (List.getElem?_eq_some_iff.1 l1).1 (List.getElem?_eq_some_iff.1 l2).1 h3

  have look:∀ x d,aB (bf (ek (cE bs nid) 0 own) h) x=some d→(∃ i d0,aB (bX 0 own) i=some d0∧x=cE bs nid i∧d=nF (cE bs nid) d0) ∨
      (aB h x=some d∧∀ i,i<own.length→x≠cE bs nid i):=by
    intro x d hx
    rw [uT _ _ _ mC] at hx
    split at hx
    · rename_i p hp
      have hmem:=List.mem_of_find?_eq_some hp
      have hpx:p.1=x:=Nat.eq_of_beq_eq_true (List.find?_some (p:=fun p:Nat×Option aq=>Nat.beq p.1 x) hp)
      obtain ⟨i,hi⟩:=List.getElem?_of_mem hmem
      rw [jn,Option.map_eq_some_iff] at hi
      obtain ⟨o,h1,rfl⟩:=hi
      simp only [Nat.zero_add] at hpx hx
      rw [Option.map_eq_some_iff] at hx
      obtain ⟨d0,rfl,rfl⟩:=hx
      exact .inl ⟨i,d0,by rw [qh,h1];rfl,hpx.symm,rfl⟩
    · rename_i hp
      rw [List.find?_eq_none] at hp
      refine .inr ⟨hx,fun i hi e=>?_⟩
      have hi':=List.getElem?_eq_getElem hi
      have:(ek (cE bs nid) 0 own)[i]? = some (cE bs nid i,own[i].map (nF (cE bs nid))):=by
        rw [jn,hi'];simp
      exact hp _ (List.mem_of_getElem? this) (by simp only;rw [e];exact gB _)
  have ownLive:∀ {i d0},aB (bX 0 own) i=some d0→ρ'.ok i→ρ'.live (ρ'.at_ i):=fun h1 h2=>(H.real h1 h2).1

  have gL:∀ {x d},aB h x=some d→ρ.ok x→(∀ i,i<own.length→x≠cE bs nid i)→x∈bs→own.length≤bs.length→False∨True:=fun _ _ _ _ _=>.inr trivial
  refine ⟨fun x d hx=>?_,fun x y d e h1 h2 ok1 ok2 he=>?_,fun bl q j=>?_,fun bl q=>?_,fun j bl q=>?_,fun x q=>?_,fun x hx=>(hh.rom x hx).mono E2 W'⟩
  · rcases look x d hx with ⟨i,d0,h1,rfl,rfl⟩ | ⟨h1,h2⟩
    · have hlt:i<own.length:=(List.getElem?_eq_some_iff.1 (eE h1)).1
      rcases H.cell i d0 h1 with ⟨k1,k2,k3⟩ | ⟨k1,k2,k3,k4⟩
      · obtain ⟨q1,q2⟩:=idOk i k1
        refine .inl ⟨q1,by rw [q2];exact .inr k2,?_⟩
        rw [q2]
        obtain ⟨hr,c,t,r1,r2⟩:=k3
        refine ⟨om hr,c,t,r1,fun y v hy=>?_⟩
        obtain ⟨v0,s1,s2⟩:=ii hr hy
        obtain ⟨u,t1,t2⟩:=r2 y v0 s1
        refine ⟨u,t1,?_⟩
        rcases s2 with rfl | ⟨rfl,s3⟩
        · exact Mx L t2
        · exact di L.nobody t2 s3
      ·
        refine .inr ⟨?_,?_,om k3,fun y=>?_⟩
        · rintro (q | ⟨q1,q2,q3⟩)
          · rcases Nat.lt_or_ge i bs.length with hi | hi
            · have a:=List.getElem?_eq_getElem hi
              rw [name_old a] at q
              exact k1 (E.ok i ⟨_,a,q⟩)
            · rw [name_new hi] at q
              exact hid _ (by omega) (by omega) q
          · rcases Nat.lt_or_ge i bs.length with hi | hi
            · have a:=List.getElem?_eq_getElem hi
              rw [name_old a] at q1 q2
              have:=hfr _ (List.getElem_mem hi);omega
            · rw [name_new hi] at q3
              have e:nid+(i-bs.length)-nid+bs.length=i:=by omega
              rw [e] at q3;exact k1 q3
        · rcases Nat.lt_or_ge i bs.length with hi | hi
          · have a:=List.getElem?_eq_getElem hi
            rw [name_old a]
            obtain ⟨d',hd'⟩:=hbs.there _ (List.getElem_mem hi)
            rcases hh.cell _ d' hd' with q | q
            · exact hh.lt _ q.1
            · exact q.2.1
          · rw [name_new hi];omega
        · cases hc:(nF (cE bs nid) d0).cell? y with
          | none=>rfl
          | some v=>obtain ⟨v0,s1,_⟩:=ii k3 hc;rw [k4 y] at s1;cases s1
    · rcases hh.cell x d h1 with ⟨k1,k2,k3⟩ | ⟨k1,k2,k3⟩
      · rw [E2.at_ x k1]
        refine .inl ⟨.inl k1,.inl k2,?_⟩
        by_cases hl:tT ρ bs (ρ.at_ x)
        ·
          obtain ⟨b,r1,r2,r3⟩:=hl
          obtain ⟨d',hd'⟩:=hbs.there b r1
          have:=hh.inj x b d d' h1 hd' k1 r2 r3
          subst this
          obtain ⟨i,hi⟩:=List.getElem?_of_mem r1
          have hlen : ¬ i<own.length:=fun q=>h2 i q (name_old hi).symm
          have hio:ρ'.ok i:=E.ok i ⟨x,hi,k1⟩
          exact absurd (H.lt i hio) hlen
        · exact k3.mono E2 W' (W.same _ (hh.liveLt _ k2) hl)
      · refine .inr ⟨?_,k2,k3⟩
        rintro (q | ⟨q1,q2,q3⟩)
        · exact k1 q
        · have:=h2 (x-nid+bs.length) q2
          rw [name_new (by omega)] at this
          exact this (by omega)
  ·
    have real:∀ {x d},aB (bf (ek (cE bs nid) 0 own) h) x=some d→(ρ.adopt ρ' bs.length nid own.length).ok x →
        (∃ i d0,aB (bX 0 own) i=some d0∧x=cE bs nid i∧ρ'.ok i)∨(aB h x=some d∧ρ.ok x∧∀ i,i<own.length→x≠cE bs nid i):=by
      intro x d hx hok
      rcases look x d hx with ⟨i,d0,h1,rfl,rfl⟩ | ⟨h1,h2⟩
      · refine .inl ⟨i,d0,h1,rfl,?_⟩
        rcases hok with q | ⟨q1,q2,q3⟩
        · rcases Nat.lt_or_ge i bs.length with hi | hi
          · have a:=List.getElem?_eq_getElem hi
            rw [name_old a] at q
            exact E.ok i ⟨_,a,q⟩
          · have hlt:i<own.length:=(List.getElem?_eq_some_iff.1 (eE h1)).1
            rw [name_new hi] at q
            exact (hid _ (by omega) (by omega) q).elim
        · rcases Nat.lt_or_ge i bs.length with hi | hi
          · have a:=List.getElem?_eq_getElem hi
            rw [name_old a] at q1 q2
            have:=hfr _ (List.getElem_mem hi);omega
          · rw [name_new hi] at q3
            have e:nid+(i-bs.length)-nid+bs.length=i:=by omega
            rw [e] at q3;exact q3
      · refine .inr ⟨h1,?_,h2⟩
        rcases hok with q | ⟨q1,q2,q3⟩
        · exact q
        · have:=h2 (x-nid+bs.length) q2
          rw [name_new (by omega)] at this
          exact (this (by omega)).elim
    have cross:∀ {i d0 y e},aB (bX 0 own) i=some d0→ρ'.ok i→aB h y=some e→ρ.ok y→(∀ i,i<own.length→y≠cE bs nid i)→ρ'.at_ i=ρ.at_ y→False:=by
      intro i d0 y e h1 k1 h2 k2 h3 he
      have hl:=ownLive h1 k1
      rw [he] at hl
      obtain ⟨b,r1,r2,r3⟩:=old (hh.liveLt _ (hh.real h2 k2).1) hl
      obtain ⟨d',hd'⟩:=hbs.there b r1
      have:=hh.inj y b e d' h2 hd' k2 r2 r3
      subst this
      obtain ⟨j,hj⟩:=List.getElem?_of_mem r1
      exact h3 j (H.lt j (E.ok j ⟨y,hj,k2⟩)) (name_old hj).symm
    rcases real h1 ok1 with ⟨i,d0,a1,rfl,a2⟩ | ⟨a1,a2,a3⟩<;>rcases real h2 ok2 with ⟨j,e0,b1,rfl,b2⟩ | ⟨b1,b2,b3⟩
    · rw [(idOk i a2).2,(idOk j b2).2] at he
      rw [H.inj i j d0 e0 a1 b1 a2 b2 he]
    · rw [(idOk i a2).2,E2.at_ y b2] at he
      exact (cross a1 a2 b1 b2 b3 he).elim
    · rw [E2.at_ x a2,(idOk j b2).2] at he
      exact (cross b1 b2 a1 a2 a3 he.symm).elim
    · rw [E2.at_ x a2,E2.at_ y b2] at he
      exact hh.inj x y d e a1 b1 a2 b2 he
  · rcases q with q | q
    · exact hh.fresh bl q j
    · intro r
      have:=H.fresh bl q (j+1)
      rw [E.out] at this
      exact this r
  · rcases q with q | q
    · exact Nat.lt_of_lt_of_le (hh.liveLt bl q) W'.size
    · exact H.liveLt bl q
  · exact Nat.lt_of_lt_of_le (hh.outLt j bl q) W'.size
  · rcases q with q | ⟨q1,q2,q3⟩
    · exact hh.lt x q
    · omega
def kU(d:aq) :Nat→Nat→Option (List AV)
  | 0,_=>some []
  | n+1,x=>match d.cell? x,kU d n (x+1) with
    | some v,some l=>some (v::l)
    | _,_=>none
theorem uU{d:aq} :∀ {n x:Nat} {l:List AV},kU d n x=some l→l.length=n∧∀ j,j<n→d.cell? (x+j)=l[j]?
  | 0,x,l,h=>by simp only [kU,Option.some.injEq] at h;subst h;exact ⟨rfl,fun j hj=>absurd hj (Nat.not_lt_zero _)⟩
  | n+1,x,l,h=>by
    unfold kU at h
    split at h
    case h_2=>cases h
    rename_i v l' h1 h2
    simp only [Option.some.injEq] at h;subst h
    obtain ⟨a,b⟩:=uU h2
    refine ⟨by simp [a],fun j hj=>?_⟩
    cases j with
    | zero=>simpa using h1
    | succ j =>
      have:=b j (by omega)
      rw [show x+(j+1)=x+1+j by omega,this];simp
def V6{α:Type}(xs:List α)(i k:Nat)(ys:List α) :List α:=xs.take i++(ys.take k++xs.drop (i+k))
def U6(blk nb:aq)(w i k:Nat) :Option (aq×List Bool) :=
  match blk,nb with
  | .fl xs,.fl ys=>bif Nat.beq w 1 then some (.fl (V6 xs i k ys),[jl (i+k) xs.length,jl k ys.length]) else none
  | .ns kd xs,.ns kd' ys=>bif Nat.beq w 1&&bc kd kd' then some (.ns kd (V6 xs i k ys),[jl (i+k) xs.length,jl k ys.length]) else none
  | .bs xs,.bs ys=>bif Nat.beq w 1 then some (.bs (V6 xs i k ys),[jl (i+k) xs.length,jl k ys.length]) else none
  | blk,nb=>match kU nb k 0 with
    | some l=>bif dy l then blk.wrN w i l 0 else none
    | none=>none
theorem wB{α:Type}{d:aq}{f:α→AV}{ys:List α}(hd:∀ x,d.cell? x=(ys[x]?).map f) :∀ {k x:Nat},x+k≤ys.length→kU d k x=some (((ys.drop x).take k).map f)
  | 0,x,h=>by simp [kU]
  | k+1,x,h=>by
    have e1:ys[x]? = some (ys[x]'(by omega)):=List.getElem?_eq_getElem (by omega)
    have e2:=wB hd (k:=k) (x:=x+1) (by omega)
    unfold kU
    rw [hd,e1,e2]
    simp only [Option.map_some]
    rw [List.drop_eq_getElem_cons (show x<ys.length by omega),List.take_succ_cons,List.map_cons]
theorem My{α:Type}{g:List α→aq}{f:α→AV}{i:Nat}(hg:∀ xs j z,(g xs).wr 1 i j (f z)=some (g (xs.set (cD j i) z),[fw (cD j i) xs.length])) :
    ∀ {zs xs:List α} {j:Nat},i+j+zs.length≤xs.length→∃ o,(g xs).wrN 1 i (zs.map f) j=some (g (xs.take (i+j)++(zs++xs.drop (i+j+zs.length))),o)∧ap o
  | [],xs,j,h=>⟨[],by simp [aq.wrN],trivial⟩
  | z::zs,xs,j,h=>by
    rw [List.length_cons] at h
    have ad:cD j i=i+j:=by rw [fj];omega
    obtain ⟨o,h1,h2⟩:=My hg (zs:=zs) (xs:=xs.set (cD j i) z) (j:=j+1) (by rw [List.length_set];omega)
    refine ⟨fw (cD j i) xs.length::o,?_,by rw [ad];unfold fw;exact decide_eq_true (by omega),h2⟩
    simp only [List.map_cons,aq.wrN,hg,h1,List.singleton_append,Option.some.injEq,Prod.mk.injEq,and_true]
    congr 1
    rw [ad]
    have hp:i+j<xs.length:=by omega
    rw [show i+(j+1)=i+j+1 by omega,show i+j+(z::zs).length=i+j+1+zs.length by rw [List.length_cons];omega]
    generalize i+j=p at hp
    rw [List.drop_set_of_lt (by omega),List.take_succ_eq_append_getElem (by rw [List.length_set];exact hp),List.take_set_of_le (Nat.le_refl p),List.getElem_set_self]
    simp
theorem wC{α:Type}{f:α→AV}(hf:∀ z,(f z).one=true) :∀ (zs:List α),dy (zs.map f)=true
  | []=>rfl
  | z::zs=>by simp only [List.map_cons,dy,hf,wC hf zs,Bool.and_self]
theorem DI{α:Type}{g:List α→aq}{f:α→AV}{i k:Nat}{xs ys:List α}(hg:∀ xs j z,(g xs).wr 1 i j (f z)=some (g (xs.set (cD j i) z),[fw (cD j i) xs.length]))(hd:∀ x,(g ys).cell? x=(ys[x]?).map f)(hf:∀ z,(f z).one=true) 
    (h1:jl (i+k) xs.length=true) (h2:jl k ys.length=true):∃ l o',kU (g ys) k 0=some l∧dy l=true∧(g xs).wrN 1 i l 0=some (g (V6 xs i k ys),o')∧ap o':=by
  unfold jl at h1 h2
  rw [decide_eq_true_eq] at h1 h2
  have hlen:(ys.take k).length=k:=by rw [List.length_take];omega
  obtain ⟨o,w1,w2⟩:=My hg (zs:=ys.take k) (xs:=xs) (j:=0) (by rw [hlen];omega)
  refine ⟨_,o,wB hd (by omega),wC hf _,?_,w2⟩
  rw [List.drop_zero,w1,hlen];rfl
theorem OR{blk nb blk':aq}{w i k:Nat}{o:List Bool}(h:U6 blk nb w i k=some (blk',o))(ho:ap o) :∃ l o',kU nb k 0=some l∧dy l=true∧blk.wrN w i l 0=some (blk',o')∧ap o':=by
  unfold U6 at h
  split at h
  · cases e:Nat.beq w 1 with
    | false=>rw [e] at h;cases h
    | true =>
      rw [e] at h;cases h
      cases Nat.eq_of_beq_eq_true e
      exact DI (g:=.fl) (f:=.flt false) (fun _ _ _=>rfl) (fun _=>rfl) (fun _=>rfl) ho.1 ho.2.1
  · rename_i kd xs kd' ys
    cases e:Nat.beq w 1&&bc kd kd' with
    | false=>rw [e] at h;cases h
    | true =>
      rw [e] at h;cases h
      rw [Bool.and_eq_true] at e
      cases Nat.eq_of_beq_eq_true e.1
      have e2:kd=kd':=by have:=e.2;simpa [bc] using this
      cases e2
      exact DI (g:=.ns kd) (f:=.int kd) (fun xs j z=>by simp [aq.wr,bc]) (fun _=>rfl) (fun _=>rfl) ho.1 ho.2.1
  · cases e:Nat.beq w 1 with
    | false=>rw [e] at h;cases h
    | true =>
      rw [e] at h;cases h
      cases Nat.eq_of_beq_eq_true e
      exact DI (g:=.bs) (f:=.bool false) (fun _ _ _=>rfl) (fun _=>rfl) (fun _=>rfl) ho.1 ho.2.1
  · split at h
    case h_2=>cases h
    rename_i l hl
    cases e:dy l with
    | false=>rw [e] at h;cases h
    | true=>rw [e] at h;exact ⟨l,o,hl,e,h,ho⟩
def Bf(P:Program)(g:Nat→Option aq)(t:TypeId)(d x:AV) :Option (Nat×Nat×aq×List Bool×List Nat) :=
  match P.underlying t,d with
  | some (.slice e),.sl b w es i len _ =>
    match P.info? e,g b,FP g x with
    | some inf,some blk,some (m,es',nb,obs,rs) =>
      bif Nat.beq inf.size 1&&Nat.beq es' 1 then (U6 blk nb w i (Nat.min m len)).map fun r=>(Nat.min m len,b,r.1,obs++r.2,b::rs) else none
    | _,_,_=>none
  | _,_=>none
theorem HR.same{ρ:af}{w:World}{h:aM}{n b:Nat}{d:aq}(hh:HR ρ w h n)(hg:aB h b=some d) :HR ρ w (cH h b d) n:=by
  have e:∀ c,aB (cH h b d) c=aB h c:=by
    intro c;rw [be];split
    · rename_i q;subst q;exact hg.symm
    · rfl
  exact ⟨fun c e' he=>hh.cell c e' (by rw [←e];exact he),fun a c d e' h1 h2=>hh.inj a c d e' (by rw [←e];exact h1) (by rw [←e];exact h2),hh.fresh,hh.liveLt,hh.outLt,hh.lt,hh.rom⟩
theorem FX{P:Program}{ρ:af}{w:World}{h:aM}{n:Nat}(hh:HR ρ w h n){t t' T:TypeId}{d x:AV}{d' x':Value}(hd:VR ρ w d d')(hx:VR ρ w x x'){k b:Nat}{blk:aq}{obs:List Bool}{rs:List Nat} 
    (hc:Bf P (aB h) t d x=some (k,b,blk,obs,rs)) (ho:ap obs):∃ w',(Builtin.copy_ #[t,t'] T #[d',x']).run P w=.ok (.int .i64 (k:Int)) w'∧HR ρ w' (cH h b blk) n∧dx ρ.live w w':=by
  unfold Bf at hc
  split at hc
  case h_2=>cases hc
  rename_i e b' kk es i len cap ht
  split at hc
  case h_2=>cases hc
  rename_i inf blk0 m es' nb obs' rs' hi hg hsrc
  cases h1:Nat.beq inf.size 1&&Nat.beq es' 1 with
  | false=>rw [h1] at hc;cases hc
  | true =>
  rw [h1] at hc
  simp only [Bool.and_eq_true] at h1
  have hsz:=Nat.eq_of_beq_eq_true h1.1
  have hes:=Nat.eq_of_beq_eq_true h1.2
  subst hes
  simp only [cond_true,Option.map_eq_some_iff,Prod.mk.injEq] at hc
  obtain ⟨⟨blk',o'0⟩,hc2,rfl,rfl,rfl,rfl,rfl⟩:=hc
  rw [aE] at ho
  obtain ⟨l,o',hl,h2,hw,ho2⟩:=OR hc2 ho.2
  replace ho:ap obs'∧ap o':=⟨ho.1,ho2⟩
  have hS:=ww hh hx hsrc ho.1
  obtain ⟨l1,l2⟩:=uU hl
  obtain ⟨a,c,rfl,hv⟩:=hS.val
  have hsize:P.cellsOf e=1:=by simp [Program.cellsOf,hi,hsz]
  by_cases hn0:Nat.min m len=0
  · have el:l=[]:=List.length_eq_zero_iff.1 (by rw [l1,hn0])
    subst el
    simp only [aq.wrN,Option.some.injEq,Prod.mk.injEq] at hw
    obtain ⟨rfl,rfl⟩:=hw
    refine ⟨w,?_,hh.same hg,dx.refl _ _⟩
    rw [hn0]
    cases hd with
    | sl _ _ _ _ _ _ cap' hb hcap hle c' t' hhh hss =>
      have hn0':min m len=0:=hn0
      cases a<;>simp [Builtin.copy_,run_underlying ht,sizeOf,typeInfo,hi,Builtin.lenOf,Builtin.firstCells,storeCells,loadCells,loadCellsFrom,hn0',goInt]<;>rfl
    | slEnd _ _ _ _ a' =>
      cases a<;>cases a'<;>simp [Builtin.copy_,run_underlying ht,sizeOf,typeInfo,hi,Builtin.lenOf,Builtin.firstCells,storeCells,loadCells,loadCellsFrom,goInt]<;>rfl
  · have hmn : ¬ m=0:=fun q=>hn0 (by subst q;exact Nat.zero_min _)
    rcases hv with q | ⟨bl,o,rfl,news,hnl,hnews,hone,hrel⟩
    · exact absurd q hmn
    have hle:Nat.min m len≤news.length:=by rw [hnl,Nat.mul_one];exact Nat.min_le_left _ _
    have hvs:bh ρ w l (news.take (Nat.min m len)):=by
      have key:∀ (l:List AV) (us:List Value),l.length=us.length→(∀ (j:Nat) (v:AV) (u:Value),l[j]? = some v→us[j]? = some u→VR ρ w v u)→bh ρ w l us:=by
        intro l
        induction l with
        | nil=>intro us h1 _;have:us=[]:=List.length_eq_zero_iff.1 h1.symm;subst this;exact .nil
        | cons v l ih =>
          intro us h1 h2
          cases us with
          | nil=>simp at h1
          | cons u us=>exact .cons _ _ _ _ (h2 0 v u rfl rfl) (ih us (by simpa using h1) fun j v' u' q1 q2=>h2 (j+1) v' u' (by simpa using q1) (by simpa using q2))
      refine key _ _ (by rw [l1,List.length_take];omega) fun j v u q1 q2=>?_
      have hj:j<Nat.min m len:=by
        rcases Nat.lt_or_ge j (Nat.min m len) with z | z
        · exact z
        · rw [List.getElem?_eq_none (by omega)] at q1;cases q1
      have:=l2 j hj
      rw [Nat.zero_add,q1] at this
      obtain ⟨u',r1,r2⟩:=hrel j v this
      rw [List.getElem?_take,if_pos hj,r1] at q2
      cases q2
      exact r2
    cases hd with
    | slEnd=>exact absurd (Nat.min_zero m) hn0
    | sl _ _ _ _ _ _ cap' hb hcap hle' c' t'' hhh hss =>
      obtain ⟨w',r1,r2,r3⟩:=jO (P:=P) (x0:=0) (j:=0) hh hg hvs h2 hw ho.2
      refine ⟨w',?_,r2,r3⟩
      have hf:=run_firstCells_some (P:=P) w 1 (Nat.min m len) ⟨bl,o,none⟩ m c (news.take (Nat.min m len)) (by rw [List.length_take];omega) (fun j v hj=>by
        rw [List.getElem?_take] at hj
        split at hj
        · exact hnews j v hj
        · cases hj)
      simp only [Nat.add_zero] at r1
      have hf':(Builtin.firstCells 1 (min m len) (.slice (some ⟨bl,o,none⟩) m c)).run P w=.ok (news.take (min m len)).toArray w:=hf
      have r1':(storeCells ⟨ρ.at_ b',i*kk,none⟩ (news.take (min m len)) 0).run P w=.ok () w':=r1
      have hm:((Nat.min m len:Nat):Int)=((min m len:Nat):Int):=rfl
      simp [Builtin.copy_,run_underlying ht,sizeOf,typeInfo,hi,hsz,Builtin.lenOf,hf',r1',goInt,hm]
def Qq:AV→Bool
  | .nsl | .esl | .zsl _=>true
  | _=>false
theorem Qr{ρ:af}{w:World}{x:AV}{u:Value}(h:VR ρ w x u)(hv:Qq x=true) :∃ a c,u=.slice a 0 c:=by
  cases h<;>first | exact ⟨_,_,rfl⟩ | cases hv
def Bg(P:Program)(g:Nat→Option aq)(t:TypeId)(d x:AV) :Option (Nat×Nat×aq×List Bool×List Nat) :=
  match Qq x with
  | false=>Bf P g t d x
  | true=>match P.underlying t,d with
    | some (.slice e),.sl b _ _ _ _ _=>match P.info? e,g b with
      | some _,some blk=>some (0,b,blk,[],[b])
      | _,_=>none
    | _,_=>none
theorem FY{P:Program}{ρ:af}{w:World}{h:aM}{n:Nat}(hh:HR ρ w h n){t t' T:TypeId}{d x:AV}{d' x':Value}(hd:VR ρ w d d')(hx:VR ρ w x x'){k b:Nat}{blk:aq}{obs:List Bool}{rs:List Nat} 
    (hc:Bg P (aB h) t d x=some (k,b,blk,obs,rs)) (ho:ap obs):∃ w',(Builtin.copy_ #[t,t'] T #[d',x']).run P w=.ok (.int .i64 (k:Int)) w'∧HR ρ w' (cH h b blk) n∧dx ρ.live w w':=by
  unfold Bg at hc
  split at hc
  · exact FX hh hd hx hc ho
  · rename_i hvx
    obtain ⟨a,c,rfl⟩:=Qr hx hvx
    split at hc
    case h_2=>cases hc
    rename_i e b' kk es i len cap ht
    split at hc
    case h_2=>cases hc
    rename_i inf blk0 hi hg
    simp only [Option.some.injEq,Prod.mk.injEq] at hc
    obtain ⟨rfl,rfl,rfl,rfl,rfl⟩:=hc
    refine ⟨w,?_,hh.same hg,dx.refl _ _⟩
    cases hd with
    | sl _ _ _ _ _ _ cap' hb hcap hle c' t' hhh hss =>
      cases a<;>simp [Builtin.copy_,run_underlying ht,sizeOf,typeInfo,hi,Builtin.lenOf,Builtin.firstCells,storeCells,loadCells,loadCellsFrom,goInt]<;>rfl
    | slEnd _ _ _ _ a' =>
      cases a<;>cases a'<;>simp [Builtin.copy_,run_underlying ht,sizeOf,typeInfo,hi,Builtin.lenOf,Builtin.firstCells,storeCells,loadCells,loadCellsFrom,goInt]<;>rfl
def VJ(l:List Int) :ByteArray:=l.foldl (fun r n=>r.push (UInt8.ofNat n.toNat)) ByteArray.empty
def OS(P:Program)(g:Nat→Option aq)(s d:TypeId)(x:AV) :Option (ByteArray×List Bool×List Nat) :=
  match P.underlying s,P.underlying d with
  | some (.slice e),some .string =>
    match P.underlying e,FP g x with
    | some (.int .u8),some (m,es,.ns k ys,obs,rs)=>bif Nat.beq es 1&&bc k .u8 then some (VJ ys,obs,rs) else none
    | _,_=>none
  | _,_=>none
theorem J0{P:Program}{ρ:af}{w:World}{h:aM}{n:Nat}(hh:HR ρ w h n){s d:TypeId}{x:AV}{x':Value}(hx:VR ρ w x x'){t:ByteArray}{obs:List Bool}{rs:List Nat} 
    (hc:OS P (aB h) s d x=some (t,obs,rs)) (ho:ap obs):(convert s d x').run P w=.ok (.string t) w:=by
  unfold OS at hc
  split at hc
  case h_2=>cases hc
  rename_i e hs hd
  split at hc
  case h_2=>cases hc
  rename_i m es k ys obs' rs' he hsrc
  cases h1:Nat.beq es 1&&bc k .u8 with
  | false=>rw [h1] at hc;cases hc
  | true =>
  rw [h1] at hc
  simp only [Bool.and_eq_true] at h1
  have hes:=Nat.eq_of_beq_eq_true h1.1
  have hk:k=.u8:=by simpa [bc] using h1.2
  subst hes hk
  simp only [cond_true,Option.some.injEq,Prod.mk.injEq] at hc
  obtain ⟨rfl,rfl,rfl⟩:=hc
  have hS:=ww hh hx hsrc ho
  obtain ⟨a,c,rfl,hv⟩:=hS.val
  have hlen:ys.length=m:=by
    have:=hS.count
    rw [Nat.mul_one] at this
    exact this
  rw [run_convert_bytes_string w s d e a m c hs he hd]
  rcases hv with h0 | ⟨bl,o,rfl,news,hnl,hnews,hone,hrel⟩
  · subst h0
    have hy:ys=[]:=List.length_eq_zero_iff.1 hlen
    subst hy
    cases a with
    | none=>rfl
    | some a=>exact run_bytesToString w a 0 c [] (by simp [loadCells,loadCellsFrom])
  · have hnews':news=ys.map (Value.int .u8):=by
      refine List.ext_getElem? fun j=>?_
      rw [List.getElem?_map]
      cases hj:ys[j]? with
      | none =>
        rw [List.getElem?_eq_none_iff] at hj
        rw [List.getElem?_eq_none (by omega)];rfl
      | some z =>
        obtain ⟨u,q1,q2⟩:=hrel j (.int .u8 z) (by show (ys[j]?).map _=_;rw [hj];rfl)
        rw [q1]
        cases q2
        rfl
    subst hnews'
    refine run_bytesToString w ⟨bl,o,none⟩ m c ys ?_
    have hf:=run_firstCells_some (P:=P) w 1 m ⟨bl,o,none⟩ m c (ys.map (Value.int .u8)) (by rw [hnl]) hnews
    simpa [Builtin.firstCells] using hf
def tU(P:Program)(g:Nat→Option aq)(t:TypeId)(x:AV)(lo hi:Option AV) :Option (AV×List Bool×List Nat) :=
  match P.underlying t,x with
  | some (.array n e),.ptr b 1 0 0 =>
    match g b,P.info? e,tK hi n,tK lo 0 with
    | some (.ns k xs),some ie,some h,some l =>
      bif Nat.beq ie.size 1 then some (.sl b 1 1 l.toNat (h.toNat-l.toNat) (n-l.toNat),[nW h n,nW l h.toNat,jl n xs.length],[b]) else none
    | _,_,_,_=>none
  | _,_=>none
theorem DJ{P:Program}{ρ:af}{w:World}{hp:aM}{m:Nat}(hh:HR ρ w hp m){e:Operand→AV}{g:Operand→Value}(hops:∀ x,VR ρ w (e x) (g x)){t:TypeId}{x:AV}{x':Value}{lo hi:Option Operand}{v:AV}{obs:List Bool}{rs:List Nat} 
    (hx:VR ρ w x x') (h:tU P (aB hp) t x (lo.map e) (hi.map e)=some (v,obs,rs)) (ho:ap obs):dM P ρ w (Instr.sliceAt t x' (lo.map g) (hi.map g) none) v:=by
  unfold tU at h
  split at h
  case h_2=>cases h
  rename_i n el b hu
  split at h
  case h_2=>cases h
  rename_i k xs ie hh' ll hg hi' e1 e2
  cases hb1:Nat.beq ie.size 1 with
  | false=>rw [hb1] at h;cases h
  | true =>
  rw [hb1] at h
  simp only [cond_true,Option.some.injEq,Prod.mk.injEq] at h
  obtain ⟨rfl,rfl,rfl⟩:=h
  have hsz:ie.size=1:=Nat.eq_of_beq_eq_true hb1
  have b1:=dG ho.1
  have b2:=dG ho.2.1
  have b3:n≤xs.length:=by have:=ho.2.2.1;unfold jl at this;exact of_decide_eq_true this
  have hce:P.cellsOf el=1:=by simp [Program.cellsOf,hi',hsz]
  cases hx with
  | ptr _ _ _ _ hbo =>
  obtain ⟨hl,hr,c,ty,hc,hcv⟩:=hh.real hg hbo
  have hn:n≤c.size:=by
    rcases Nat.eq_zero_or_pos n with z | z
    · omega
    · have hlt:n-1<xs.length:=by omega
      obtain ⟨u,q,_⟩:=hcv (n-1) (.int k (xs[n-1]'hlt)) (by show (xs[n-1]?).map _=_;rw [List.getElem?_eq_getElem hlt];rfl)
      have:=(Array.getElem?_eq_some_iff.1 q).1
      omega
  have run:=ej (P:=P) (w:=w) false n n (lo.map g) (hi.map g) ll hh' (fB hops e2) (fB hops e1) b1 ⟨b2.1,by omega⟩
  have run2:(Instr.sliceAt t (.pointer (some ⟨ρ.at_ b,0*1+0,none⟩)) (lo.map g) (hi.map g) none).run P w=.ok (.slice (some (if n=ll.toNat then ⟨ρ.at_ b,0*1+0,none⟩ else (Addr.add ⟨ρ.at_ b,0*1+0,none⟩ (ll.toNat*P.cellsOf el)))) (hh'.toNat-ll.toNat) (n-ll.toNat)) w:=by
    simp only [Instr.sliceAt,Sem.run_bind,run_underlying hu,Result.andThen]
    simp [Instr.sureAddr,run,run_sizeOf w hi',hce,hsz,Sem.run_bind,Result.andThen,Sem.run_pure,Go.asAddr]
  refine .plain run2 ?_
  by_cases q:n=ll.toNat
  · rw [if_pos q]
    have z1:hh'.toNat-ll.toNat=0:=by omega
    have z2:n-ll.toNat=0:=by omega
    rw [z1,z2]
    exact .slEnd _ _ _ _ _
  · rw [if_neg q,eR,hce]
    have:0*1+0+ll.toNat*1=ll.toNat*1:=by omega
    rw [this]
    exact .sl _ _ _ _ _ _ _ hbo (Nat.le_refl _) (by omega) c ty hc (by omega)
theorem DK{P:Program}{g g':Nat→Option aq}{t:TypeId}{x:AV}{lo hi:Option AV}{r:AV×List Bool×List Nat}(h:tU P g t x lo hi=some r)(hg:∀ b∈r.2.2,g' b=g b) :tU P g' t x lo hi=some r:=by
  unfold tU at h ⊢
  split at h
  case h_2=>cases h
  rename_i n el b hu
  split at h
  case h_2=>cases h
  rename_i k xs ie hh' ll hgb hi' e1 e2
  cases hb1:Nat.beq ie.size 1 with
  | false=>rw [hb1] at h;cases h
  | true =>
  rw [hb1] at h
  simp only [cond_true,Option.some.injEq] at h
  subst h
  have:g' b=some (.ns k xs):=by rw [hg b (by simp)];exact hgb
  simp only [this,hi',e1,e2,hb1,cond_true]
def bA.like:bA→bA→Bool
  | .i k _,.i k' _=>bc k k'
  | .s _,.s _=>true
  | .p k _ _,.p k' _ _=>bc k k'
  | _,_=>false
def bA.same:bA→bA→Bool
  | .i _ n,.i _ m=>n==m
  | .s a,.s b=>decide (a=b)
  | .p _ x y,.p _ x' y'=>x==x'&&y==y'
  | _,_=>false
def bA.fits:TypeDesc→bA→Bool
  | .int _,.i ..=>true
  | .string,.s _=>true
  | _,_=>false
def sg(k:bA) :List bA→Bool
  | []=>true
  | q::l=>k.like q&&sg k l
def wD:List bA→Bool
  | []=>true
  | q::l=>(l.all fun r=>!q.same r)&&wD l
def U7:AV→Option bA
  | .int k n=>some (.i k n)
  | .str s=>some (.s s)
  | .agg [.int k x,.int k' y]=>bif bc k k' then some (.p k x y) else none
  | _=>none
def wE(P:Program)(kt:TypeId) :bA→Bool
  | .p k _ _=>match P.underlying kt with
    | some (.array 2 et)=>match P.underlying et,(P.info? et).map (·.size) with
      | some (.int _),some 1=>true
      | _,_=>false
    | _=>false
  | _=>false
def Qs:Value→AV
  | .agg c=>.agg (c.toList.map cF)
  | v=>cF v
def Wh(cok:Bool)(v:AV)(b:Bool) :AV:=bif cok then .tup [v,.bool true b] else v
def sh(cok:Bool)(k:bA) :List bA→List AV→List jm
  | q::ks,v::vs=>⟨Wh cok v true,[],[k.same q]⟩::sh cok k ks vs
  | _,_=>[]
def DL(P:Program)(t:TypeId)(x k:AV)(cok:Bool) :List jm :=
  match P.underlying t,x,U7 k with
  | some (.map kt et),.gmap ks vs,some key =>
    match P.underlying kt,(P.info? et).bind (·.zero) with
    | some d,some z=>bif (key.fits d||wE P kt key)&&sg key ks&&wD ks then sh cok key ks vs++[⟨Wh cok (Qs z) false,[],ks.map fun q=>!key.same q⟩] else []
    | _,_=>[]
  | _,_,_=>[]
theorem jQ{P:Program}{w:World}{t:TypeId}{n:Nat}(h:(P.info? t).map (·.size)=some n) :(sizeOf t).run P w=.ok n w:=by
  obtain ⟨i,h1,h2⟩:=Option.map_eq_some_iff.1 h
  subst h2
  simp [sizeOf,typeInfo,Sem.run_bind,h1]
theorem lN{P:Program}{w:World}{et:TypeId}{k:IntKind}(he:P.underlying et=some (.int k)){cs:Array Value}{off:Nat}{v:Value}(hc:cs[off]? = some v) :(part et cs off).run P w=.ok v w:=by
  unfold part
  simp [isAgg,Sem.run_bind,run_underlying he,hc]
theorem Ub{P:Program}{w:World}{kt et:TypeId}{k:IntKind}(hu:P.underlying kt=some (.array 2 et))(he:P.underlying et=some (.int k))(hs:(P.info? et).map (·.size)=some 1)(j:IntKind)(x y x' y':Int)(n:Nat) :
    (Op.equalIn (n+2) kt (.agg #[.int j x,.int j y]) (.agg #[.int j x',.int j y'])).run P w=.ok (x==x'&&y==y') w:=by
  unfold Op.equalIn
  rw [Sem.run_bind,run_underlying hu]
  simp only [Result.andThen_ok,Sem.run_bind,jQ hs]
  have e1:∀ a b,(Op.equalIn (n+1) et (.int j a) (.int j b)).run P w=.ok (a==b) w:=fun a b=>by
    unfold Op.equalIn
    rw [Sem.run_bind,run_underlying he]
    simp
  have p0:∀ a b:Int,(part et #[.int j a,.int j b] 0).run P w=.ok (.int j a) w:=fun a b=>lN he rfl
  have p1:∀ a b:Int,(part et #[.int j a,.int j b] 1).run P w=.ok (.int j b) w:=fun a b=>lN he rfl
  simp [Std.Legacy.Range.forIn_eq_forIn_range',Std.Legacy.Range.size,List.range',Sem.run_bind,p0,p1,e1]
  cases h1:(x==x')<;>cases h2:(y==y')<;>simp_all [Sem.run_bind,p0,p1,e1]
theorem wF{P:Program}{w:World}{kt et:TypeId}{k:IntKind}(hu:P.underlying kt=some (.array 2 et))(he:P.underlying et=some (.int k))(hs:(P.info? et).map (·.size)=some 1)(j:IntKind)(x y:Int)(b:Bool)(n:Nat) :
    (Instr.checkKey b (n+2) kt (.agg #[.int j x,.int j y])).run P w=.ok () w:=by
  unfold Instr.checkKey
  rw [Sem.run_bind,run_underlying hu]
  have p0:∀ a b:Int,(part et #[.int j a,.int j b] 0).run P w=.ok (.int j a) w:=fun a b=>lN he rfl
  have p1:∀ a b:Int,(part et #[.int j a,.int j b] 1).run P w=.ok (.int j b) w:=fun a b=>lN he rfl
  have c1:∀ a,(Instr.checkKey b (n+1) et (.int j a)).run P w=.ok () w:=fun a=>by
    unfold Instr.checkKey
    rw [Sem.run_bind,run_underlying he]
    rfl
  simp [Std.Legacy.Range.forIn_eq_forIn_range',Std.Legacy.Range.size,List.range',Sem.run_bind,jQ hs,p0,p1,c1]
theorem Bh{P:Program}{kt:TypeId}{key:bA}(h:wE P kt key=true) :∃ k x y et k',key=.p k x y∧P.underlying kt=some (.array 2 et)∧P.underlying et=some (.int k')∧(P.info? et).map (·.size)=some 1:=by
  unfold wE at h
  split at h
  case h_2=>cases h
  rename_i k x y
  split at h
  case h_2=>cases h
  rename_i et hu
  split at h
  case h_2=>cases h
  rename_i k' he hs
  exact ⟨k,x,y,et,k',rfl,hu,he,hs⟩
theorem gq{k:bA} :∀ {l:List bA},sg k l=true→∀ q∈l,k.like q=true
  | [],_,q,h=>by cases h
  | r::l,h,q,hq=>by
    simp only [sg,Bool.and_eq_true] at h
    rcases List.mem_cons.1 hq with rfl | hq
    · exact h.1
    · exact gq h.2 q hq
theorem FZ(ρ:af)(w:World)(v:Value) :VR ρ w (Qs v) v:=by
  unfold Qs
  split
  · exact .agg _ _ (lY ρ w _)
  · exact ic ρ w v
theorem Qt{ρ:af}{w:World}{k:AV}{k':Value}{key:bA}(h:VR ρ w k k')(hk:U7 k=some key) :k'=key.val:=by
  unfold U7 at hk
  split at hk
  · cases hk;cases h;rfl
  · cases hk;cases h;rfl
  · rename_i k x k' y
    cases hs:bc k k' with
    | false=>rw [hs] at hk;cases hk
    | true =>
      rw [hs] at hk
      have hkk:k=k':=by simpa [bc] using hs
      subst hkk
      cases hk
      cases h with | agg _ c h =>
      obtain ⟨c⟩:=c
      cases h with | cons _ _ _ _ h1 h2 =>
      cases h2 with | cons _ _ _ _ h2 h3 =>
      cases h3;cases h1;cases h2;rfl
  · cases hk
theorem lO{k q:bA}(h:k.like q=true) :k.same q=true↔q.val=k.val:=by
  cases k with
  | i k n =>
    cases q with
    | i k' m =>
      have:k=k':=by simpa [bA.like,bc] using h
      subst this
      simp only [bA.same,bA.val,beq_iff_eq,Value.int.injEq,true_and]
      exact ⟨fun e=>e.symm,fun e=>e.symm⟩
    | s b=>cases h
    | p=>cases h
  | p k x y =>
    cases q with
    | p k' x' y' =>
      have:k=k':=by simpa [bA.like,bc] using h
      subst this
      simp only [bA.same,bA.val,Bool.and_eq_true,beq_iff_eq]
      exact ⟨fun ⟨h1,h2⟩=>by rw [h1,h2],fun h=>by simp at h;exact ⟨h.1.symm,h.2.symm⟩⟩
    | i=>cases h
    | s=>cases h
  | s a =>
    cases q with
    | i k' m=>cases h
    | p=>cases h
    | s b =>
      simp only [bA.same,bA.val,decide_eq_true_eq,Value.string.injEq]
      exact ⟨fun e=>e.symm,fun e=>e.symm⟩
theorem U8(a b:ByteArray) :(a==b)=decide (a=b):=by
  have e:(a==b)=(a.data==b.data):=rfl
  rw [e]
  by_cases h:a=b
  · subst h;simp
  · rw [decide_eq_false h]
    have:a.data≠b.data:=fun c=>h (by cases a;cases b;simp at c;subst c;rfl)
    simpa using this
theorem Uc{d:TypeDesc}{k q:bA}(hf:k.fits d=true)(h:k.like q=true) :Instr.sameNow d k.val q.val=some (k.same q):=by
  cases k with
  | i k n =>
    cases q with
    | i k' m =>
      have:k=k':=by simpa [bA.like,bc] using h
      subst this
      cases d<;>first | (cases hf;done) | simp [bA.val,Instr.sameNow,bA.same]
    | s b=>cases h
    | p=>cases h
  | p k x y=>cases d<;>cases hf
  | s a =>
    cases q with
    | i k' m=>cases h
    | p=>cases h
    | s b =>
      cases d<;>first | (cases hf;done) | (simp only [bA.val,Instr.sameNow,bA.same,U8])
theorem si{d:TypeDesc}{key:bA}(hf:key.fits d=true) :∀ (es:List MapEntry) (i:Nat),(∀ e∈es,∃ q:bA,key.like q=true∧e.key=q.val) →
    (Instr.findNow d key.val es i=some none∧∀ e∈es,e.key≠key.val)∨∃ j e,e∈es∧e.key=key.val∧Instr.findNow d key.val es i=some (some (j,e.val))
  | [],i,_=>.inl ⟨rfl,fun e h=>by cases h⟩
  | e::es,i,h=>by
    obtain ⟨q,hq,he⟩:=h e (by simp)
    have hn:Instr.sameNow d key.val e.key=some (key.same q):=by rw [he];exact Uc hf hq
    cases hs:key.same q with
    | true =>
      refine .inr ⟨i,e,by simp,by rw [he];exact (lO hq).1 hs,?_⟩
      simp only [Instr.findNow,hn,hs]
    | false =>
      have hne:e.key≠key.val:=by rw [he];intro c;rw [(lO hq).2 c] at hs;cases hs
      rcases si hf es (i+1) (fun e he=>h e (by simp [he])) with ⟨q1,q2⟩ | ⟨j,e',q1,q2,q3⟩
      · refine .inl ⟨by simp only [Instr.findNow,hn,hs];exact q1,fun e' he'=>?_⟩
        rcases List.mem_cons.1 he' with rfl | he'
        · exact hne
        · exact q2 e' he'
      · exact .inr ⟨j,e',by simp [q1],q2,by simp only [Instr.findNow,hn,hs];exact q3⟩
theorem sj{P:Program}{w:World}{kt et:TypeId}{k':IntKind}(hu:P.underlying kt=some (.array 2 et))(he:P.underlying et=some (.int k'))(hs:(P.info? et).map (·.size)=some 1){k:IntKind}{x y:Int} :∀ (es:List MapEntry) (i:Nat),(∀ e∈es,∃ q:bA,(bA.p k x y).like q=true∧e.key=q.val) →
    ((Instr.findAsking kt (bA.p k x y).val es i).run P w=.ok none w∧∀ e∈es,e.key≠(bA.p k x y).val)∨∃ j e,e∈es∧e.key=(bA.p k x y).val∧(Instr.findAsking kt (bA.p k x y).val es i).run P w=.ok (some (j,e.val)) w
  | [],i,_=>.inl ⟨by simp [Instr.findAsking],fun e h=>by cases h⟩
  | e::es,i,h=>by
    obtain ⟨q,hq,hk⟩:=h e (by simp)
    obtain ⟨k2,x',y',rfl⟩:∃ k2 x' y',q=.p k2 x' y':=by cases q<;>first | exact ⟨_,_,_,rfl⟩ | cases hq
    have hkk:k=k2:=by simpa [bA.like,bc] using hq
    subst hkk
    have heq:(Op.equal kt (bA.p k x y).val e.key).run P w=.ok (x==x'&&y==y') w:=by
      rw [hk];exact Ub hu he hs k x y x' y' _
    have hfa:(Instr.findAsking kt (bA.p k x y).val (e::es) i).run P w=if (x==x'&&y==y')=true then .ok (some (i,e.val)) w else (Instr.findAsking kt (bA.p k x y).val es (i+1)).run P w:=by
      rw [Instr.findAsking]
      simp only [Sem.run_bind,heq,Result.andThen_ok]
      split<;>simp
    cases hb:(x==x'&&y==y') with
    | true =>
      refine .inr ⟨i,e,by simp,?_,by rw [hfa,hb];rfl⟩
      simp only [Bool.and_eq_true,beq_iff_eq] at hb
      rw [hk,hb.1,hb.2]
    | false =>
      have hne:e.key≠(bA.p k x y).val:=by
        rw [hk]
        intro c
        simp [bA.val] at c
        rw [c.1,c.2] at hb
        simp at hb
      rw [hb] at hfa
      simp only [Bool.false_eq_true,if_false] at hfa
      rcases sj hu he hs es (i+1) (fun e he=>h e (by simp [he])) with ⟨q1,q2⟩ | ⟨j,e',q1,q2,q3⟩
      · refine .inl ⟨by rw [hfa];exact q1,fun e' he'=>?_⟩
        rcases List.mem_cons.1 he' with rfl | he'
        · exact hne
        · exact q2 e' he'
      · exact .inr ⟨j,e',by simp [q1],q2,by rw [hfa];exact q3⟩
theorem OT{P:Program}{w:World}{kt:TypeId}{d:TypeDesc}(hu:P.underlying kt=some d){key:bA}(hf:key.fits d=true)(b:Bool)(n:Nat) :(Instr.checkKey b (n+1) kt key.val).run P w=.ok () w:=by
  unfold Instr.checkKey
  rw [Sem.run_bind,run_underlying hu]
  cases key<;>cases d<;>first | (cases hf;done) | rfl
theorem Bi{P:Program}{w:World}{kt:TypeId}{d:TypeDesc}(hu:P.underlying kt=some d){key:bA}(hf:(key.fits d||wE P kt key)=true)(b:Bool)(n:Nat) :(Instr.checkKey b (n+2) kt key.val).run P w=.ok () w:=by
  rcases Bool.or_eq_true _ _ ▸ hf with h | h
  · exact OT hu h b (n+1)
  · obtain ⟨k,x,y,et,k',rfl,h1,h2,h3⟩:=Bh h
    exact wF h1 h2 h3 k x y b n
theorem sk{P:Program}{w:World}{kt:TypeId}{d:TypeDesc}(hu:P.underlying kt=some d){key:bA}(hf:(key.fits d||wE P kt key)=true)(es:List MapEntry)(h:∀ e∈es,∃ q:bA,key.like q=true∧e.key=q.val) :
    ((Instr.findKey kt key.val es).run P w=.ok none w∧∀ e∈es,e.key≠key.val)∨∃ j e,e∈es∧e.key=key.val∧(Instr.findKey kt key.val es).run P w=.ok (some (j,e.val)) w:=by
  unfold Instr.findKey
  rcases Bool.or_eq_true _ _ ▸ hf with hk | hk
  · rcases si hk es 0 h with ⟨q1,q2⟩ | ⟨j,e,q1,q2,q3⟩
    · exact .inl ⟨by simp only [Sem.run_bind,run_underlying hu,Result.andThen_ok,q1];rfl,q2⟩
    · exact .inr ⟨j,e,q1,q2,by simp only [Sem.run_bind,run_underlying hu,Result.andThen_ok,q3];rfl⟩
  · obtain ⟨k,x,y,et,k',rfl,h1,h2,h3⟩:=Bh hk
    have hd:d=.array 2 et:=by rw [hu] at h1;exact Option.some.inj h1
    subst hd
    cases es with
    | nil=>exact .inl ⟨by simp only [Sem.run_bind,run_underlying hu,Result.andThen_ok,Instr.findNow];rfl,fun e h=>by cases h⟩
    | cons e es =>
      have hn:Instr.findNow (.array 2 et) (bA.p k x y).val (e::es) 0=none:=rfl
      simp only [Sem.run_bind,run_underlying hu,Result.andThen_ok,hn]
      exact sj h1 h2 h3 (e::es) 0 h
theorem mg{cok:Bool}{k:bA} :∀ {ks:List bA} {vs:List AV} {r:jm},r∈sh cok k ks vs→∃ (i:Nat) (q:bA) (v:AV),ks[i]? = some q∧vs[i]? = some v∧r=⟨Wh cok v true,[],[k.same q]⟩
  | q::ks,v::vs,r,h=>by
    simp only [sh,List.mem_cons] at h
    rcases h with rfl | h
    · exact ⟨0,q,v,rfl,rfl,rfl⟩
    · obtain ⟨i,q',v',h1,h2,h3⟩:=mg h
      exact ⟨i+1,q',v',by simpa using h1,by simpa using h2,h3⟩
  | [],_,r,h=>by cases h
  | _::_,[],r,h=>by cases h
theorem qS:∀ {l:List bA},wD l=true→∀ {i j:Nat} {q r:bA},l[i]? = some q→l[j]? = some r→i<j→q.same r=false
  | [],_,i,j,q,r,h1,_,_=>by simp at h1
  | x::l,hn,i,j,q,r,h1,h2,hlt=>by
    simp only [wD,Bool.and_eq_true,List.all_eq_true,Bool.not_eq_true'] at hn
    cases j with
    | zero=>omega
    | succ j =>
      cases i with
      | zero =>
        simp at h1 h2;subst h1
        exact hn.1 r (List.mem_of_getElem? h2)
      | succ i=>exact qS hn.2 (i:=i) (j:=j) (by simpa using h1) (by simpa using h2) (by omega)
theorem wG{P:Program}{w:World}{t kt et:TypeId}(ht:P.underlying t=some (.map kt et)){bl cl:Nat}{es:Array MapEntry}(hh:w.heap[bl]? = some (.map es cl)){key:bA}(hck:∀ b,(Instr.checkKey b 10000 kt key.val).run P w=.ok () w) 
    {r:Option (Nat×Value)} (hfk:(Instr.findKey kt key.val es.toList).run P w=.ok r w) {z:Value} (hz:(zeroValue et).run P w=.ok z w) (cok:Bool) :
    (Instr.lookup t (.map (some bl)) key.val cok).run P w=.ok (if cok then .tuple #[(r.map Prod.snd).getD z,.bool r.isSome] else (r.map Prod.snd).getD z) w:=by
  unfold Instr.lookup
  simp only [Sem.run_bind,run_underlying ht,Result.andThen_ok]
  have hg:(getObj bl).run P w=.ok (.map es cl) w:=by simp [getObj,Sem.run,hh]
  simp only [Sem.run_bind,hg,Result.andThen_ok,Sem.run_pure,hck]
  simp only [hfk,Result.andThen_ok]
  cases r with
  | none=>simp only [Sem.run_bind,hz,Result.andThen_ok,Sem.run_pure];cases cok<;>rfl
  | some p=>obtain ⟨j,v⟩:=p;simp only [Sem.run_bind,Result.andThen_ok,Sem.run_pure];cases cok<;>rfl
theorem zD{P:Program}{ρ:af}{w:World}{t:TypeId}{x k:AV}{x' k':Value}{cok:Bool}{r:jm}(hx:VR ρ w x x')(hk:VR ρ w k k')(h:r∈DL P t x k cok)(ho:ap r.obs) :
    dM P ρ w (Instr.lookup t x' k' cok) r.v:=by
  unfold DL at h
  split at h
  case h_2=>cases h
  rename_i kt et ks vs key ht hkey
  split at h
  case h_2=>cases h
  rename_i d z hd hz
  cases hb:(key.fits d||wE P kt key)&&sg key ks&&wD ks with
  | false=>rw [hb] at h;cases h
  | true =>
  rw [hb] at h
  simp only [cond_true,List.mem_append,List.mem_singleton] at h
  simp only [Bool.and_eq_true] at hb
  obtain ⟨⟨hf,hl⟩,hn⟩:=hb
  have hkv:=Qt hk hkey
  subst hkv
  cases hx with | gmap _ _ bl es cl u ha hb' hh hin hex hv hlen hkept =>
  simp only [Option.bind_eq_some_iff] at hz
  obtain ⟨inf,hi,hz⟩:=hz
  have hzv:(zeroValue et).run P w=.ok z w:=by simp [zeroValue,typeInfo,hi,hz]
  have hes:∀ e∈es.toList,∃ q:bA,key.like q=true∧e.key=q.val:=fun e he=>by
    obtain ⟨i,q,h1,h2,_⟩:=hin e he
    exact ⟨q,gq hl q (List.mem_of_getElem? h1),h2⟩
  rcases sk hd hf es.toList hes with ⟨q1,q2⟩ | ⟨j,e,q1,q2,q3⟩
  · have run:=wG ht hh (fun b=>Bi hd hf b 9998) q1 hzv cok
    rcases h with h | rfl
    · obtain ⟨i,q,v,h1,h2,rfl⟩:=mg h
      obtain ⟨e,he,h3,_⟩:=hex i q h1
      exact absurd (h3.trans ((lO (gq hl q (List.mem_of_getElem? h1))).1 ho.1)) (q2 e he)
    · refine .plain run ?_
      cases cok
      · exact FZ ρ w z
      · exact .tup _ #[_,_] (.cons _ _ _ _ (FZ ρ w z) (.cons _ _ _ _ (.bool _ _) .nil))
  · have run:=wG ht hh (fun b=>Bi hd hf b 9998) q3 hzv cok
    obtain ⟨i,q,h1,h2,h3⟩:=hin e q1
    have hsame:key.same q=true:=(lO (gq hl q (List.mem_of_getElem? h1))).2 (h2.symm.trans q2)
    rcases h with h | rfl
    · obtain ⟨i',q',v,k1,k2,rfl⟩:=mg h
      have hij:i=i':=by
        have l1:=gq hl q (List.mem_of_getElem? h1)
        have l2:=gq hl q' (List.mem_of_getElem? k1)
        have e1:=(lO l1).1 hsame
        have e2:=(lO l2).1 ho.1
        have lk:∀ {a b:bA},key.like a=true→key.like b=true→a.val=b.val→a.same b=true:=by
          intro a b ha hb e
          cases key<;>cases a<;>cases b<;>simp_all [bA.like,bA.same,bA.val]
        rcases Nat.lt_trichotomy i i' with c | c | c
        · have:=qS hn h1 k1 c
          rw [lk l1 l2 (e1.trans e2.symm)] at this;cases this
        · exact c
        · have:=qS hn k1 h1 c
          rw [lk l2 l1 (e2.trans e1.symm)] at this;cases this
      subst hij
      refine .plain run ?_
      have hvr:VR ρ w v e.val:=by rw [h3];exact hv i v k2
      cases cok
      · exact hvr
      · exact .tup _ #[_,_] (.cons _ _ _ _ hvr (.cons _ _ _ _ (.bool _ _) .nil))
    · exfalso
      have:∀ (l:List bA),ap (l.map fun q=>!key.same q)→∀ q∈l,key.same q=false:=by
        intro l
        induction l with
        | nil=>intro _ q hq;cases hq
        | cons a l ih =>
          intro h q hq
          simp only [List.map_cons,ap,Bool.not_eq_true'] at h
          rcases List.mem_cons.1 hq with rfl | hq
          · exact h.1
          · exact ih h.2 q hq
      have:=this ks ho q (List.mem_of_getElem? h1)
      rw [hsame] at this;cases this
inductive vz where
  | sqrt | bits | frombits | add64 | sub64 | idxb | cntb
def U9(s:ByteArray)(c:Int) :Int:=match (List.range s.size).find? fun i=>s[i]! == c.toNat.toUInt8 with
  | some i=>(i:Int)
  | none=>-1
def Va(s:ByteArray)(c:Int) :Int:=s.foldl (fun n x=>if x==c.toNat.toUInt8 then n+1 else n) (0:Int)
def oo:vz→Array Value→Sem Value
  | .sqrt=>Extern.MathSqrt.sqrt
  | .bits=>Extern.MathFloatBits.float64bits
  | .frombits=>Extern.MathFloatBits.float64frombits
  | .add64=>fun args=>do
    let (x, y, c) ← Extern.MathBitsCarry.three "Add64" args
    pure (Extern.MathBitsCarry.pair ((x+y+c)%Extern.MathBitsCarry.m64) ((x+y+c)/Extern.MathBitsCarry.m64))
  | .sub64=>fun args=>do
    let (x, y, b) ← Extern.MathBitsCarry.three "Sub64" args
    pure (Extern.MathBitsCarry.pair ((x+Extern.MathBitsCarry.m64-y-b)%Extern.MathBitsCarry.m64) (if x<y+b then 1 else 0))
  | .idxb=>Extern.BytealgIndexByte.indexByte
  | .cntb=>Extern.BytealgCount.count
def Ud(k:vz)(args:List AV) :List jm :=
  match k,args with
  | .sqrt,[.flt _ x]=>[⟨.flt false (P8 x),[],[]⟩]
  | .bits,[.flt true x]=>[⟨.int .u64 x,[],[]⟩]
  | .bits,[.flt false x]=>[⟨.int .u64 x,[],[!isNaN x]⟩,⟨.nan,[],[isNaN x]⟩]
  | .frombits,[.int .u64 n]=>[⟨.flt true n.toNat,[],[]⟩]
  | .add64,[.int _ x,.int _ y,.int _ c]=>[⟨.tup [.int .u64 (((x.toNat+y.toNat+c.toNat)%18446744073709551616:Nat):Int),.int .u64 (((x.toNat+y.toNat+c.toNat)/18446744073709551616:Nat):Int)],[],[jl c.toNat 1]⟩]
  | .sub64,[.int _ x,.int _ y,.int _ c]=>[⟨.tup [.int .u64 (((x.toNat+18446744073709551616-y.toNat-c.toNat)%18446744073709551616:Nat):Int),.int .u64 (bif Nat.blt x.toNat (y.toNat+c.toNat) then 1 else 0)],[],[jl c.toNat 1]⟩]
  | .idxb,[.str s,.int .u8 c]=>[⟨.int .i64 (U9 s c),[],[]⟩]
  | .cntb,[.str s,.int .u8 c]=>[⟨.int .i64 (Va s c),[],[]⟩]
  | _,_=>[]
abbrev bY:=Option (List Nat)
structure Qu where
  mask:List Bool
  keep:Bool
abbrev co:=FuncId→List aq→List AV→bY→Option (eJ×List Bool×bY)
structure ki where
  P:Program
  ext:FuncId→Option vz
  mode:FuncId→Qu
  wrap:Bool
structure ki.Ok (C:ki):Prop where
  mixed:C.P.follows .mixedOrders=true
  enter:∀ (f:FuncId) (fn:Func) (args:Array Value) (w:World),C.P.funcs[f]? = some fn→fn.body.isSome=true→(callFunc f args).run C.P w=.ok (.enter f args) w
  ext:∀ (f:FuncId) (k:vz) (args:Array Value) (w:World),C.ext f=some k→(callFunc f args).run C.P w=(do pure (Next.value (←oo k args)):Sem Next).run C.P w
def wH(P:Program)(run:co) :Prop :=
  ∀ f lent args p r obs p',run f lent args p=some (r,obs,p')→ap obs→∀ (ρ:af) (w:World) (us:List Value),dF ρ w lent→bh ρ w args us →
    (∃ fn,P.funcs[f]? = some fn∧fn.body.isSome=true)∧Calls P f us.toArray w fun e w'=>∃ u,e=.returned u∧dx ρ.live w w'∧r.Holds ρ w w' lent.length u
structure OU where
  v:AV
  sets:List (Nat×Option aq)
  reads:List Nat
  obs:List Bool
  path:bY
def wI:List Bool→Bool
  | []=>true
  | b::l=>b&&wI l
theorem lP:∀ {l:List Bool},wI l=true→ap l
  | [],_=>trivial
  | b::l,h=>by simp only [wI,Bool.and_eq_true] at h;exact ⟨h.1,lP h.2⟩
def mh(alts:List jm)(p:bY) :Option (jm×bY) :=
  match alts,p with
  | [a],p=>some (a,p)
  | alts,none=>(alts.find? fun a=>wI a.obs).map fun a=>(a,none)
  | alts,some (k::r)=>(alts[k]?).map fun a=>(a,some r)
  | _,_=>none
theorem kq{alts:List jm}{p p':bY}{a:jm}(h:mh alts p=some (a,p')) :a∈alts:=by
  unfold mh at h
  split at h
  · simp only [Option.some.injEq,Prod.mk.injEq] at h;rw [←h.1];simp
  · simp only [Option.map_eq_some_iff,Prod.mk.injEq] at h;obtain ⟨b,h1,rfl,_⟩:=h;exact List.mem_of_find?_eq_some h1
  · simp only [Option.map_eq_some_iff,Prod.mk.injEq] at h;obtain ⟨b,h1,rfl,_⟩:=h;exact List.mem_of_getElem? h1
  · cases h
def dA:Nat:=100000
mutual
def DM:AV→List Nat
  | .ptr b ..=>[b]
  | .sl b ..=>[b]
  | .fn _ l1 l2=>dH l1++dH l2
  | .agg l | .tup l=>dH l
  | .iface _ v=>DM v
  | _=>[]
def dH:List AV→List Nat
  | []=>[]
  | v::l=>DM v++dH l
end
def Ue:aq→List Nat
  | .vs l=>dH l
  | _=>[]
def iZ:List Nat→Nat→Bool
  | [],_=>false
  | k::l,b=>bif Nat.beq k b then true else iZ l b
def fD(g:Nat→Option aq) :Nat→List Nat→List Nat→List Nat
  | 0,_,acc=>acc
  | _+1,[],acc=>acc
  | n+1,b::t,acc=>match iZ acc b with
    | true=>fD g n t acc
    | false=>fD g n ((match g b with | some d=>Ue d | none=>[])++t) (acc++[b])
def gG:List Bool→List AV→List AV
  | true::m,v::l=>v::gG m l
  | false::m,_::l=>gG m l
  | _,_=>[]
def en(σ:Nat→Option Nat)(g:Nat→Option aq) :List Bool→List AV→List AV×List Nat
  | _,[]=>([],[])
  | true::m,v::l=>let s:=en σ g m l;(vX σ v::s.1,s.2)
  | false::m,v::l=>let r:=tS σ g dA v;let s:=en σ g m l;(r.1::s.1,r.2++s.2)
  | [],v::l=>let r:=tS σ g dA v;let s:=en σ g [] l;(r.1::s.1,r.2++s.2)
theorem kr{ρ τ:af}{w:World}{h:aM}{m:Nat}{σ:Nat→Option Nat}(hh:HR ρ w h m)(L:FU ρ τ w h σ) :∀ (k:List Bool) {l:List AV} {c:List Value},bh ρ w l c→bh τ w (en σ (aB h) k l).1 c
  | k,[],c,hv=>by cases hv;cases k<;>exact .nil
  | true::k,v::l,c,hv=>by cases hv with | cons _ u _ c' h1 h2=>exact .cons _ _ _ _ (dT L h1) (kr hh L k h2)
  | false::k,v::l,c,hv=>by cases hv with | cons _ u _ c' h1 h2=>exact .cons _ _ _ _ (DH hh L _ h1) (kr hh L k h2)
  | [],v::l,c,hv=>by cases hv with | cons _ u _ c' h1 h2=>exact .cons _ _ _ _ (DH hh L _ h1) (kr hh L [] h2)
def kV:List Nat→Bool
  | []=>true
  | k::l=>bif iZ l k then false else kV l
def gH(g:Nat→Option aq)(nid:Nat) :List Nat→Bool
  | []=>true
  | b::l=>(match g b with | some _=>Nat.blt b nid||Nat.ble (nid+iP) b | none=>false)&&gH g nid l
theorem qT:∀ {l:List Nat} {i b:Nat},l[i]? = some b→iZ l b=true
  | [],i,b,h=>by simp at h
  | k::l,0,b,h=>by simp at h;subst h;simp [iZ,gB]
  | k::l,i+1,b,h=>by
    simp only [iZ]
    cases Nat.beq k b with
    | true=>rfl
    | false=>simp only [cond_false];exact qT (i:=i) (by simpa using h)
theorem mi:∀ {l:List Nat},kV l=true→∀ {i j b:Nat},l[i]? = some b→l[j]? = some b→i=j
  | [],_,i,j,b,h1,_=>by simp at h1
  | k::l,hn,i,j,b,h1,h2=>by
    simp only [kV] at hn
    cases e:iZ l k with
    | true=>rw [e] at hn;cases hn
    | false =>
      rw [e] at hn;simp only [cond_false] at hn
      cases i with
      | zero =>
        cases j with
        | zero=>rfl
        | succ j=>simp at h1 h2;subst h1;rw [qT h2] at e;cases e
      | succ i =>
        cases j with
        | zero=>simp at h1 h2;subst h2;rw [qT h1] at e;cases e
        | succ j=>have:=mi hn (i:=i) (j:=j) (b:=b) (by simpa using h1) (by simpa using h2);omega
theorem kW{g:Nat→Option aq}{nid:Nat} :∀ {l:List Nat},gH g nid l=true→∀ b,b∈l→(∃ d,g b=some d)∧(b<nid∨nid+iP≤b)
  | [],_,b,hb=>by cases hb
  | k::l,h,b,hb=>by
    simp only [gH,Bool.and_eq_true] at h
    rcases List.mem_cons.1 hb with rfl | q
    · have:=h.1
      cases e:g b with
      | none=>rw [e] at this;cases this
      | some d =>
        rw [e] at this
        simp only [Bool.or_eq_true] at this
        refine ⟨⟨d,rfl⟩,this.imp (fun q=>by simpa [Nat.blt_eq] using q) (fun q=>Nat.le_of_ble_eq_true q)⟩
    · exact kW h.2 b q
def oq(e:Operand→AV)(f:Operand)(args:Array Operand) :Option (FuncId×List AV) :=
  match e f with
  | .fn (.func fid) first caps=>some (fid,first++args.toList.map e++caps)
  | _=>none
def wJ(C:ki)(run:co)(g:Nat→Option aq)(nid:Nat)(p:bY)(fid:FuncId)(vals:List AV) :Option OU :=
  let bs:=fD g dA (dH (gG (C.mode fid).mask vals)) []
  let la:=en (eU bs 0) g (C.mode fid).mask vals
  bif kV bs&&gH g nid bs then
    match run fid (iY (eU bs 0) g bs) la.1 p with
    | some (r,obs,p') =>
      bif Nat.ble r.own.length (bs.length+iP) then
        some { v:=fC (cE bs nid) r.v,sets:=ek (cE bs nid) 0 r.own,reads:=bs++la.2,obs,path:=p' }
      else none
    | none=>none
  else none
def J1(C:ki)(run:co)(e:Operand→AV)(g:Nat→Option aq)(nid:Nat)(p:bY)(op:Op) :Option OU :=
  match jM C.wrap C.P e op with
  | some (v,obs)=>some { v,sets:=[],reads:=[],obs,path:=p }
  | none =>
    match op with
    | .load t x=>(qc C.P g t (e x)).map fun r=>{ v:=r.1,sets:=[],reads:=r.2.2,obs:=r.2.1,path:=p }
    | .convert t d x=>(OS C.P g t d (e x)).map fun r=>{ v:=.str r.1,sets:=[],reads:=r.2.2,obs:=r.2.1,path:=p }
    | .slice t x lo hi none=>(tU C.P g t (e x) (lo.map e) (hi.map e)).map fun r=>{ v:=r.1,sets:=[],reads:=r.2.2,obs:=r.2.1,path:=p }
    | .store t x v=>(qM C.P g t (e x) (e v)).map fun r=>{ v:=.any,sets:=[(r.1,some r.2.1)],reads:=[r.1],obs:=r.2.2,path:=p }
    | .lookup t x k cok=>(mh (DL C.P t (e x) (e k) cok) p).map fun r=>{ v:=r.1.v,sets:=[],reads:=[],obs:=r.1.obs,path:=r.2 }
    | .alloc t=>(Dw C.P nid t).map fun r=>{ v:=r.1,sets:=[(nid,some r.2)],reads:=[],obs:=[],path:=p }
    | .box t x=>(T9 C.P nid t (e x)).map fun r=>{ v:=r.1,sets:=[(nid,some r.2)],reads:=[],obs:=[],path:=p }
    | .makeSlice t l c=>(Qj C.P nid t (e l) (e c)).map fun r=>{ v:=r.1,sets:=[(nid,some r.2.1)],reads:=[],obs:=r.2.2,path:=p }
    | .build t parts=>(JT C.P t (parts.toList.map fun x=>(x.1,e x.2))).map fun v=>{ v,sets:=[],reads:=[],obs:=[],path:=p }
    | .buildSlice t len parts=>(oi C.P nid t len (parts.toList.map fun x=>(x.1,e x.2))).map fun r=>{ v:=r.1,sets:=[(nid,some r.2)],reads:=[],obs:=[],path:=p }
    | .call { callee:=.builtin .append,args,argTypes } =>
      match args.toList,argTypes.toList with
      | [s,x],[t,t']=>bif Nat.beq t t' then
          match pv C.P g nid t (e s) (e x) with
          | some (alts,rs)=>(mh alts p).map fun r=>{ v:=r.1.v,sets:=r.1.sets,reads:=rs,obs:=r.1.obs,path:=r.2 }
          | none=>none
        else match pw C.P g nid t t' (e s) (e x) with
          | some (alts,rs)=>(mh alts p).map fun r=>{ v:=r.1.v,sets:=r.1.sets,reads:=rs,obs:=r.1.obs,path:=r.2 }
          | none=>none
      | _,_=>none
    | .call { callee:=.builtin .copy,args,argTypes } =>
      match args.toList,argTypes.toList with
      | [s,x],[t,_]=>(Bg C.P g t (e s) (e x)).map fun r=>{ v:=.int .i64 (r.1:Int),sets:=[(r.2.1,some r.2.2.1)],reads:=r.2.2.2.2,obs:=r.2.2.2.1,path:=p }
      | _,_=>none
    | .call { callee:=.value f,args,.. } =>
      match oq e f args with
      | some (fid,l) =>
        match C.ext fid with
        | some k=>(mh (Ud k l) p).map fun r=>{ v:=r.1.v,sets:=[],reads:=[],obs:=r.1.obs,path:=r.2 }
        | none=>wJ C run g nid p fid l
      | none=>none
    | _=>none
def kX(p:bY)(r:Option (AV×List Bool)) :Option OU:=match r with | some (v,obs)=>some { v,sets:=[],reads:=[],obs,path:=p } | none=>none
def Vb(P:Program)(g:Nat→Option aq)(p:bY)(t:TypeId)(v:AV) :Option OU:=(qc P g t v).map fun r=>{ v:=r.1,sets:=[],reads:=r.2.2,obs:=r.2.1,path:=p }
def Uf(P:Program)(g:Nat→Option aq)(p:bY)(t:TypeId)(x v:AV) :Option OU:=(qM P g t x v).map fun r=>{ v:=.any,sets:=[(r.1,some r.2.1)],reads:=[r.1],obs:=r.2.2,path:=p }
def Ug(P:Program)(nid:Nat)(p:bY)(t:TypeId) :Option OU:=(Dw P nid t).map fun r=>{ v:=r.1,sets:=[(nid,some r.2)],reads:=[],obs:=[],path:=p }
def VK(P:Program)(nid:Nat)(p:bY)(t:TypeId)(x:AV) :Option OU:=(T9 P nid t x).map fun r=>{ v:=r.1,sets:=[(nid,some r.2)],reads:=[],obs:=[],path:=p }
def VL(C:ki)(run:co)(e:Operand→AV)(g:Nat→Option aq)(nid:Nat)(p:bY)(f:Operand)(args:Array Operand) :Option OU :=
  match oq e f args with
  | some (fid,l) =>
    match C.ext fid with
    | some k=>(mh (Ud k l) p).map fun r=>{ v:=r.1.v,sets:=[],reads:=[],obs:=r.1.obs,path:=r.2 }
    | none=>wJ C run g nid p fid l
  | none=>none
def Vc(C:ki)(run:co)(e:Operand→AV)(g:Nat→Option aq)(nid:Nat)(p:bY)(c:Call) :Option OU :=
  match c.callee with
  | .value f=>VL C run e g nid p f c.args
  | _=>J1 C run e g nid p (.call c)
def Vd(C:ki)(run:co)(e:Operand→AV)(g:Nat→Option aq)(nid:Nat)(p:bY)(op:Op) :Option OU :=
  match op with
  | .move x=>some { v:=e x,sets:=[],reads:=[],obs:=[],path:=p }
  | .assign x=>some { v:=e x,sets:=[],reads:=[],obs:=[],path:=p }
  | .binOp op t x y _=>kX p (Qa C.wrap C.P op t (e x) (e y))
  | .unOp op _ x=>kX p (V5 op (e x))
  | .load t x=>Vb C.P g p t (e x)
  | .store t x v=>Uf C.P g p t (e x) (e v)
  | .fieldAddr s x f=>kX p (nC (lW C.P s (e x) f))
  | .field t x f=>kX p (nC (Do C.P t (e x) f))
  | .indexAddr t x ix=>kX p (lX C.P t (e x) (e ix))
  | .alloc t=>Ug C.P nid p t
  | .box t x=>VK C.P nid p t (e x)
  | .call c=>Vc C run e g nid p c
  | op=>J1 C run e g nid p op
theorem Qv(C:ki)(run:co)(e:Operand→AV)(g:Nat→Option aq)(nid:Nat)(p:bY)(op:Op) :Vd C run e g nid p op=J1 C run e g nid p op:=by
  cases op with
  | binOp op t x y _=>simp only [Vd,J1,jM,kX]
  | unOp op t x=>simp only [Vd,J1,jM,kX]
  | fieldAddr s x f=>simp only [Vd,J1,jM,kX]
  | field s x f=>simp only [Vd,J1,jM,kX]
  | indexAddr s x f=>simp only [Vd,J1,jM,kX]
  | call c =>
    obtain ⟨callee,args,ats⟩:=c
    cases callee<;>rfl
  | _=>rfl
theorem F0{x:Nat}(h:isNaN x=true) :FloatKind.f64.format.sqrt x=none:=by
  obtain ⟨s,t,e⟩:=od h
  simp [Ieee.Format.sqrt,e,Ieee.Datum.root]
theorem wK{ρ:af}{w:World}{k1 k2 k3:IntKind}{x y z:Int}{c:Array Value}(hl:bh ρ w [.int k1 x,.int k2 y,.int k3 z] c.toList) :c = #[.int k1 x,.int k2 y,.int k3 z]:=by
  have h:c.toList=[.int k1 x,.int k2 y,.int k3 z]:=by
    generalize c.toList=l at hl
    cases hl with | cons _ u1 _ _ h1 t1 =>
    cases t1 with | cons _ u2 _ _ h2 t2 =>
    cases t2 with | cons _ u3 _ _ h3 t3 =>
    cases t3;cases h1;cases h2;cases h3;rfl
  rw [←c.toArray_toList,h]
theorem Bj{P:Program}{w:World}(name:String){k1 k2 k3:IntKind}{x y z:Int}(hz:z.toNat≤1) :(Extern.MathBitsCarry.three name #[.int k1 x,.int k2 y,.int k3 z]).run P w=.ok (x.toNat,y.toNat,z.toNat) w:=by
  have e:Extern.MathBitsCarry.three name #[.int k1 x,.int k2 y,.int k3 z]=(do
      if z.toNat > 1 then unsupported (.noEntry ("extern/math/bits." ++ name ++ ": a carry that is neither 0 nor 1"))
      pure (x.toNat,y.toNat,z.toNat):Sem (Nat×Nat×Nat)):=rfl
  rw [e,if_neg (by omega)]
  rfl
theorem J2{P:Program}{ρ:af}{w:World}{k:vz}{l:List AV}{c:Array Value}{r:jm}(hl:bh ρ w l c.toList)(h:r∈Ud k l)(ho:ap r.obs) :dM P ρ w (oo k c) r.v:=by
  have one:∀ {a:AV},bh ρ w [a] c.toList→∃ u,c = #[u]∧VR ρ w a u:=by
    intro a h
    generalize hc:c.toList=l at h
    cases h with | cons _ u _ _ h1 h2=>cases h2;exact ⟨u,by rw [←hc],h1⟩
  unfold Ud at h
  split at h
  · simp only [List.mem_singleton] at h;subst h
    obtain ⟨u,rfl,hu⟩:=one hl
    cases hu with | flt _ _ y hf =>
    rename_i ex x
    have es:oo .sqrt #[.float .f64 y]=(match FloatKind.f64.format.sqrt y with
      | some r=>pure (.float .f64 r)
      | none=>do pure (.float .f64 (←choose (.nanBits .f64 y y)))):=rfl
    rw [es]
    have e:FloatKind.f64.format.sqrt y=FloatKind.f64.format.sqrt x:=by
      rcases hf with rfl | ⟨_,h2,h3⟩
      · rfl
      · rw [F0 h2,F0 h3]
    cases hr:FloatKind.f64.format.sqrt y with
    | some r=>exact ⟨.float .f64 r,w.drawn,rfl,.flt _ _ _ (.inl (by rw [e] at hr;simp [P8,hr]))⟩
    | none=>exact ⟨_,w.drawn+1,rfl,.flt _ _ _ (.inr ⟨rfl,by rw [e] at hr;simp [P8,hr,lV],Mk y y _⟩)⟩
  · simp only [List.mem_singleton] at h;subst h
    obtain ⟨u,rfl,hu⟩:=one hl
    cases hu with | flt _ _ y hf =>
    rcases hf with rfl | ⟨h1,_⟩
    · exact ⟨_,w.drawn,rfl,.int _ _⟩
    · cases h1
  · simp only [List.mem_cons,List.not_mem_nil,or_false] at h
    obtain ⟨u,rfl,hu⟩:=one hl
    cases hu with | flt _ _ y hf =>
    rcases h with rfl | rfl
    · rcases hf with rfl | ⟨_,h2,_⟩
      · exact ⟨_,w.drawn,rfl,.int _ _⟩
      · have:=ho.1;rw [h2] at this;cases this
    · have hy:isNaN y=true:=by
        rcases hf with rfl | ⟨_,_,h3⟩
        · exact ho.1
        · exact h3
      exact ⟨_,w.drawn,rfl,.nan _ hy⟩
  · simp only [List.mem_singleton] at h;subst h
    obtain ⟨u,rfl,hu⟩:=one hl
    cases hu
    exact ⟨_,w.drawn,rfl,.flt _ _ _ (.inl rfl)⟩
  · simp only [List.mem_singleton] at h;subst h
    have hz:=ho.1
    replace hz:=of_decide_eq_true hz
    cases wK hl
    refine ⟨_,w.drawn,?_,.tup _ #[_,_] (.cons _ _ _ _ (.int _ _) (.cons _ _ _ _ (.int _ _) .nil))⟩
    simp only [oo, Sem.run_bind, Bj "Add64" hz, Result.andThen_ok]
    rfl
  · simp only [List.mem_singleton] at h;subst h
    have hz:=ho.1
    replace hz:=of_decide_eq_true hz
    cases wK hl
    refine ⟨_,w.drawn,?_,.tup _ #[_,_] (.cons _ _ _ _ (.int _ _) (.cons _ _ _ _ (.int _ _) .nil))⟩
    simp only [oo, Sem.run_bind, Bj "Sub64" hz, Result.andThen_ok]
    rename_i x _ y _ z
    have e:(bif Nat.blt x.toNat (y.toNat+z.toNat) then (1:Int) else 0)=Int.ofNat (if x.toNat<y.toNat+z.toNat then 1 else 0):=by
      by_cases q:x.toNat<y.toNat+z.toNat
      · rw [if_pos q,show Nat.blt x.toNat (y.toNat+z.toNat)=true by rw [Nat.blt_eq];exact q];rfl
      · rw [if_neg q]
        have:Nat.blt x.toNat (y.toNat+z.toNat)=false:=by
          cases h:Nat.blt x.toNat (y.toNat+z.toNat) with
          | false=>rfl
          | true=>rw [Nat.blt_eq] at h;exact absurd h q
        rw [this];rfl
    rw [e]
    rfl
  · simp only [List.mem_singleton] at h;subst h
    rename_i s b
    obtain ⟨u,rfl⟩:∃ u,c=u:=⟨c,rfl⟩
    have hc:c = #[.string s,.int .u8 b]:=by
      have h:c.toList=[.string s,.int .u8 b]:=by
        generalize c.toList=l at hl
        cases hl with | cons _ u1 _ _ h1 t1 =>
        cases t1 with | cons _ u2 _ _ h2 t2 =>
        cases t2;cases h1;cases h2;rfl
      rw [←c.toArray_toList,h]
    subst hc
    refine ⟨.int .i64 (U9 s b),w.drawn,?_,.int _ _⟩
    have e:oo .idxb #[.string s,.int .u8 b]=(match (List.range s.size).find? fun i=>s[i]! == b.toNat.toUInt8 with
      | some i=>pure (goInt i)
      | none=>pure (goInt (-1))):=rfl
    rw [e]
    unfold U9
    cases (List.range s.size).find? fun i=>s[i]! == b.toNat.toUInt8<;>rfl
  · simp only [List.mem_singleton] at h;subst h
    rename_i s b
    have hc:c = #[.string s,.int .u8 b]:=by
      have h:c.toList=[.string s,.int .u8 b]:=by
        generalize c.toList=l at hl
        cases hl with | cons _ u1 _ _ h1 t1 =>
        cases t1 with | cons _ u2 _ _ h2 t2 =>
        cases t2;cases h1;cases h2;rfl
      rw [←c.toArray_toList,h]
    subst hc
    refine ⟨.int .i64 (Va s b),w.drawn,?_,.int _ _⟩
    have e:oo .cntb #[.string s,.int .u8 b]=(do
      let b' ← Extern.Bytes.bytesOf (.string s)
      let c ← Extern.Bytes.asByte (.int .u8 b)
      pure (goInt (b'.foldl (fun n x=>if x==c then n+1 else n) (0:Nat)))):=rfl
    rw [e]
    simp [Extern.Bytes.bytesOf,Extern.Bytes.asByte,Sem.run_bind,Sem.run_pure,goInt,Va]
  · simp at h
theorem OV{C:ki}(hC:C.Ok){run:co}(hrun:wH C.P run){e:Operand→AV}{h:aM}{nid:Nat}{p:bY}{o:Oper}{r:OU}(hr:J1 C run e (aB h) nid p o.op=some r)(ho:ap r.obs) 
    {ρ:af} {w:World} {n:Nat} (hh:HR ρ w h n) (hid:∀ x,nid≤x→x<nid+iP→¬ ρ.ok x) (hn0:nid+iP≤n) {a:Act} (hops:∀ x,VR ρ w (e x) (a.eval x)) {next:Act→World→Prop} {Q:Exit→Act→World→Prop}
    (hK:∀ ρ' w' u,eI ρ ρ' w→dx ρ.live w w'→HR ρ' w' (bf r.sets h) n→VR ρ' w' r.v u→(∀ b,ρ'.ok b→ρ.ok b∨(nid≤b∧b<nid+iP))→next (a.put o.dst u) w'):o.wp C.P a w next Q:=by
  have hS:0<iP:=by decide
  have hb : ¬ ρ.ok nid:=hid nid (Nat.le_refl _) (by omega)
  have hn:nid<n:=by omega
  have one:∀ {b:Nat},b=nid→nid≤b∧b<nid+iP:=fun e=>by omega
  have plain:∀ {v:AV},(∃ u k,(execOp a.eval o).run C.P w=.ok (.value u) { w with drawn:=k }∧VR ρ w v u)→r.v=v→r.sets=[]→o.wp C.P a w next Q:=by
    intro v ⟨u,k,h1,h2⟩ hv hs
    unfold Oper.wp
    rw [h1]
    have E:=eI.refl ρ w
    have W:=dx.drawn ρ.live w k
    exact hK ρ _ u E W (by rw [hs];exact hh.drawn k) (by rw [hv];exact h2.mono E W) (fun b q=>.inl q)
  have made:∀ {s:Sem Value} {v:AV} {h':aM},(execOp a.eval o).run C.P w=(do pure (Next.value (←s)):Sem Next).run C.P w→nD C.P ρ w h n nid s v h'→r.v=v→bf r.sets h=h'→o.wp C.P a w next Q:=by
    intro s v h' he ⟨u,w',ρ',h1,h2,h3,h4,h5,h6⟩ hv hs
    unfold Oper.wp
    rw [he,bn h1]
    exact hK ρ' w' u h2 h3 (by rw [hs];exact h4) (by rw [hv];exact h5) (fun b q=>(h6 b q).imp id one)
  unfold J1 at hr
  split at hr
  · rename_i v obs hp
    simp only [Option.some.injEq] at hr;subst hr
    exact plain (Ds hops hp ho) rfl rfl
  · rename_i hpo
    clear hpo
    generalize hop:o.op=op at hr
    split at hr
    · rename_i t x
      simp only [Option.map_eq_some_iff] at hr
      obtain ⟨⟨v,obs,rs⟩,hl,rfl⟩:=hr
      obtain ⟨u,k,h1,h2⟩:=FF (P:=C.P) hh (hops x) hl ho
      exact plain ⟨u,k,by simp only [execOp,hop];exact bn h1,h2⟩ rfl rfl
    · rename_i t d x
      simp only [Option.map_eq_some_iff] at hr
      obtain ⟨⟨z,obs,rs⟩,hc,rfl⟩:=hr
      exact plain ⟨.string z,w.drawn,by simp only [execOp,hop];exact bn (J0 hh (hops x) hc ho),.str _⟩ rfl rfl
    · rename_i t x lo hi
      simp only [Option.map_eq_some_iff] at hr
      obtain ⟨⟨v,obs,rs⟩,hc,rfl⟩:=hr
      obtain ⟨u,k,q1,q2⟩:=DJ (P:=C.P) hh hops (hops x) hc ho
      exact plain ⟨u,k,by simp only [execOp,hop];exact bn q1,q2⟩ rfl rfl
    · rename_i t x v
      simp only [Option.map_eq_some_iff] at hr
      obtain ⟨⟨b,d,obs⟩,hl,rfl⟩:=hr
      obtain ⟨w',h1,h2,h3⟩:=Dt (P:=C.P) hh (hops x) (hops v) hl ho
      unfold Oper.wp
      have:(execOp a.eval o).run C.P w=.ok .skip w':=by
        simp only [execOp,hop];rw [Sem.run_bind,h1];rfl
      rw [this]
      exact hK ρ w' undef (eI.refl _ _) h3 h2 (.any _) (fun b q=>.inl q)
    · rename_i t x k cok
      simp only [Option.map_eq_some_iff] at hr
      obtain ⟨⟨a,_⟩,hl,rfl⟩:=hr
      obtain ⟨u,kk,q1,q2⟩:=zD (P:=C.P) (hops x) (hops k) (kq hl) ho
      exact plain ⟨u,kk,by simp only [execOp,hop];exact bn q1,q2⟩ rfl rfl
    · rename_i t
      simp only [Option.map_eq_some_iff] at hr
      obtain ⟨⟨v,d⟩,hl,rfl⟩:=hr
      exact made (by simp only [execOp,hop]) (Dx hh hb hn hl true) rfl rfl
    · rename_i t x
      simp only [Option.map_eq_some_iff] at hr
      obtain ⟨⟨v,d⟩,hl,rfl⟩:=hr
      exact made (by simp only [execOp,hop]) (JR hh hb hn (hops x) hl) rfl rfl
    · rename_i t l c
      simp only [Option.map_eq_some_iff] at hr
      obtain ⟨⟨v,d,obs⟩,hl,rfl⟩:=hr
      exact made (by simp only [execOp,hop]) (FH hh hb hn (hops l) (hops c) hl ho) rfl rfl
    · rename_i t parts
      simp only [Option.map_eq_some_iff] at hr
      obtain ⟨v,hl,rfl⟩:=hr
      have h1:(parts.toList.map fun x=>(x.1,e x.2)).map Prod.fst=(parts.map fun (x:Nat×Operand)=>(x.1,a.eval x.2)).toList.map Prod.fst:=by simp
      have h2:bh ρ w ((parts.toList.map fun x=>(x.1,e x.2)).map Prod.snd) ((parts.map fun (x:Nat×Operand)=>(x.1,a.eval x.2)).toList.map Prod.snd):=by
        have:=bh.map hops (parts.toList.map Prod.snd)
        simpa [Function.comp_def] using this
      obtain ⟨u,k,q1,q2⟩:=DC (P:=C.P) h1 h2 hl
      exact plain ⟨u,k,by simp only [execOp,hop];exact bn q1,q2⟩ rfl rfl
    · rename_i t len parts
      simp only [Option.map_eq_some_iff] at hr
      obtain ⟨⟨v,d⟩,hl,rfl⟩:=hr
      have h1:(parts.toList.map fun x=>(x.1,e x.2)).map Prod.fst=(parts.map fun (x:Nat×Operand)=>(x.1,a.eval x.2)).toList.map Prod.fst:=by simp
      have h2:bh ρ w ((parts.toList.map fun x=>(x.1,e x.2)).map Prod.snd) ((parts.map fun (x:Nat×Operand)=>(x.1,a.eval x.2)).toList.map Prod.snd):=by
        have:=bh.map hops (parts.toList.map Prod.snd)
        simpa [Function.comp_def] using this
      exact made (by simp only [execOp,hop]) (rZ hh hb hn h1 h2 hl) rfl rfl
    · rename_i args argTypes
      split at hr
      case h_2=>cases hr
      rename_i s x t t' e1 e2
      cases ht:Nat.beq t t' with
      | false =>
        rw [ht] at hr
        simp only [cond_false] at hr
        split at hr
        case h_2=>cases hr
        rename_i alts rs ha
        simp only [Option.map_eq_some_iff] at hr
        obtain ⟨⟨alt,p'⟩,hp,rfl⟩:=hr
        have ea:args = #[s,x]:=by rw [←e1]
        have et:argTypes = #[t,t']:=by rw [←e2]
        subst ea;subst et
        have hm:=zB hh hb hn (hops s) (hops x) ha (kq hp) ho o.type
        refine made (s:=Builtin.append_ #[t,t'] o.type #[a.eval s,a.eval x]) ?_ hm rfl rfl
        simp only [execOp,hop]
        rw [dD a.eval .append #[s,x] #[t,t'] o.type _ rfl]
        simp [invoke,builtin]
      | true =>
      rw [ht] at hr
      have:=Nat.eq_of_beq_eq_true ht
      subst this
      simp only [cond_true] at hr
      split at hr
      case h_2=>cases hr
      rename_i alts rs ha
      simp only [Option.map_eq_some_iff] at hr
      obtain ⟨⟨alt,p'⟩,hp,rfl⟩:=hr
      have ea:args = #[s,x]:=by rw [←e1]
      have et:argTypes = #[t,t]:=by rw [←e2]
      subst ea;subst et
      have hm:=zA hh hb hn (hops s) (hops x) ha (kq hp) ho o.type
      refine made (s:=Builtin.append_ #[t,t] o.type #[a.eval s,a.eval x]) ?_ hm rfl rfl
      simp only [execOp,hop]
      rw [dD a.eval .append #[s,x] #[t,t] o.type _ rfl]
      simp [invoke,builtin]
    · rename_i args argTypes
      split at hr
      case h_2=>cases hr
      rename_i s x t t' e1 e2
      simp only [Option.map_eq_some_iff] at hr
      obtain ⟨⟨k,b,d,obs,rs⟩,hc,rfl⟩:=hr
      have ea:args = #[s,x]:=by rw [←e1]
      have et:argTypes = #[t,t']:=by rw [←e2]
      subst ea;subst et
      obtain ⟨w',h1,h2,h3⟩:=FY (P:=C.P) (T:=o.type) (t':=t') hh (hops s) (hops x) hc ho
      refine made (s:=Builtin.copy_ #[t,t'] o.type #[a.eval s,a.eval x]) ?_ ⟨_,w',ρ,h1,eI.refl _ _,h3,h2,.int _ _,fun b q=>.inl q⟩ rfl rfl
      simp only [execOp,hop]
      rw [dD a.eval .copy #[s,x] #[t,t'] o.type _ rfl]
      simp [invoke,builtin]
    · rename_i f args ats
      split at hr
      case h_2=>cases hr
      rename_i fid l hca
      unfold oq at hca
      split at hca
      case h_2=>cases hca
      rename_i fid' first caps hef
      simp only [Option.some.injEq,Prod.mk.injEq] at hca
      obtain ⟨rfl,rfl⟩:=hca
      have hf:=hops f
      rw [hef] at hf
      generalize hgf:a.eval f=gf at hf
      cases hf with | fn _ _ _ c1 c2 v1 v2 =>
      have hargs:bh ρ w (first++args.toList.map e++caps) (c1++args.map a.eval++c2).toList:=by
        simp only [Array.toList_append,Array.toList_map]
        exact bh.append v2 (bh.append (bh.map hops args.toList) v1)
      have hex:∀ w0,(execOp a.eval o).run C.P w0=(callFunc fid' (c1++args.map a.eval++c2)).run C.P w0:=by
        intro w0
        simp only [execOp,hop,resolve,hgf,Deferred.ofValue]
        rfl
      split at hr
      · rename_i k hk
        simp only [Option.map_eq_some_iff] at hr
        obtain ⟨⟨a,_⟩,hl,rfl⟩:=hr
        obtain ⟨u,kk,q1,q2⟩:=J2 (P:=C.P) hargs (kq hl) ho
        refine plain ⟨u,kk,?_,q2⟩ rfl rfl
        rw [hex,hC.ext fid' k _ w hk]
        exact bn q1
      · unfold wJ at hr
        simp only at hr
        generalize hbs:fD (aB h) dA (dH (gG (C.mode fid').mask (first++args.toList.map e++caps))) []=bs at hr
        cases hlen:(kV bs&&gH (aB h) nid bs) with
        | false=>rw [hlen] at hr;cases hr
        | true =>
        rw [hlen] at hr
        simp only [cond_true] at hr
        rw [Bool.and_eq_true] at hlen
        split at hr
        case h_2=>cases hr
        rename_i r' obs p' hl
        cases hle:Nat.ble r'.own.length (bs.length+iP) with
        | false=>rw [hle] at hr;cases hr
        | true =>
        rw [hle] at hr
        simp only [cond_true,Option.some.injEq] at hr;subst hr
        have hLs:FV h bs:=⟨fun q1 q2=>mi hlen.1 q1 q2,fun b q=>(kW hlen.2 b q).1⟩
        have L:=Mw hh hLs
        have hcall:=hrun fid' _ _ p r' obs p' hl ho
        obtain ⟨⟨fn,hfn,hbody⟩,hcalls⟩:=hcall (ρ.lend bs) w _ (JZ hh hLs) (kr hh L _ hargs)
        unfold Oper.wp
        rw [hex,hC.enter fid' fn _ w hfn hbody]
        simp only [Oper.upon]
        have hl2:(c1++args.map a.eval++c2).toList.toArray=c1++args.map a.eval++c2:=by simp
        rw [hl2] at hcalls
        refine hcalls.mono ?_
        rintro e' w' ⟨u,rfl,W,ρ',E,hbk,H,hv⟩
        rw [iA] at hbk
        obtain ⟨q1,q2,q3,q4,q5⟩:=Qp hh hLs hid (fun b q=>(kW hlen.2 b q).2) hn0 (Nat.le_of_ble_eq_true hle) W E hbk H hv
        exact hK _ w' u q1 q2 q3 q4 q5
    · cases hr
def FW(ro:Option Nat) :Fence:={ Fence.wide with round:=ro }
theorem VM(ro:Option Nat)(f:FuncId) :(FW ro).fn f:=trivial
theorem vY{ro:Option Nat}{n:Nat} :(FW ro).depth.isSome=true→1≤n:=fun h=>by simp [FW,Fence.wide] at h
theorem J3{ro:Option Nat}{n:Nat}{P:Program}{f:FuncId}{args:Array Value}{w:World}{R:Ending→World→Prop}(h:Calls P f args w R) :CallsIn (FW ro) n P f args w R :=
  callsIn_wide.2 h
theorem DN{P:Program}{o:Oper}{a:Act}{w:World}{next:Act→World→Prop}{Q:Exit→Act→World→Prop}{ro:Option Nat}{n:Nat}(hd:∀ c,o.op ≠ .defer c)(h:o.wp P a w next Q) :o.wpIn (FW ro) n P a w next Q:=by
  refine ⟨fun _ _=>trivial,?_⟩
  have e:(FW ro).round=ro:=rfl
  rw [e,Oper.semAt_eq ro a.eval o hd]
  unfold Oper.wp at h
  generalize (execOp a.eval o).run P w=r at h ⊢
  cases r with
  | ok x w' =>
    cases x with
    | value v=>exact h
    | skip=>exact h
    | defer d=>exact h
    | enter f args=>exact ⟨vY,J3 h⟩
    | row row args =>
      refine ⟨vY,fun c cs _=>?_⟩
      obtain ⟨v,w2,h1,h2⟩:=h c cs
      exact ⟨v,w2,h1,stepsIn_wide.2 h2⟩
    | _=>exact h.elim
  | halt x w'=>cases x<;>exact h
structure jR (w w':World):Prop where
  os:w'.os=w.os
  tape:w'.tape=w.tape
  output:w'.output=w.output
  size:w'.heap.size=w.heap.size
  same:∀ b:Nat,w'.heap[b]? = w.heap[b]?∨((∃ o,w.heap[b]? = some o∧((∃ r,o=Obj.loop r)∨∃ r,o=Obj.deferred r))∧∃ o,w'.heap[b]? = some o∧((∃ r,o=Obj.loop r)∨∃ r,o=Obj.deferred r))
theorem jR.cells{w w':World}(h:jR w w'){b:Nat}{c:Array Value}{t:TypeId}{z:Nat×Nat}(hb:w.heap[b]? = some (.cells c t z)) :w'.heap[b]? = some (.cells c t z):=by
  rcases h.same b with q | ⟨⟨o,h1,h2⟩,_⟩
  · rw [q];exact hb
  · rw [hb] at h1;cases h1
    rcases h2 with ⟨r,h2⟩ | ⟨r,h2⟩<;>cases h2
theorem jR.map{w w':World}(h:jR w w'){b:Nat}{es:Array MapEntry}{cl:Nat}(hb:w.heap[b]? = some (.map es cl)) :w'.heap[b]? = some (.map es cl):=by
  rcases h.same b with q | ⟨⟨o,h1,h2⟩,_⟩
  · rw [q];exact hb
  · rw [hb] at h1;cases h1
    rcases h2 with ⟨r,h2⟩ | ⟨r,h2⟩<;>cases h2
theorem jR.cell{w w':World}(h:jR w w'){a:Addr}{u:Value}(hu:w.cell? a=some u) :w'.cell? a=some u:=by
  have key:w'.heap[a.block]? = w.heap[a.block]?:=by
    rcases h.same a.block with q | ⟨⟨o,h1,h2⟩,_⟩
    · exact q
    · exfalso
      unfold World.cell? at hu
      rw [h1] at hu
      rcases h2 with ⟨r,rfl⟩ | ⟨r,rfl⟩<;>simp at hu
  rw [kQ key];exact hu
theorem jR.put{w:World}{b:Nat}{o o':Obj}(h:w.heap[b]? = some o)(ho:(∃ r,o=Obj.loop r)∨∃ r,o=Obj.deferred r)(ho':(∃ r,o'=Obj.loop r)∨∃ r,o'=Obj.deferred r) :jR w (w.putObj b o'):=by
  refine ⟨rfl,rfl,rfl,by simp,fun c=>?_⟩
  by_cases e:c=b
  · subst e
    exact .inr ⟨⟨o,h,ho⟩,o',World.putObj_heap_same (Array.getElem?_eq_some_iff.1 h).1,ho'⟩
  · exact .inl (World.putObj_heap_other e)
theorem jR.wle{M:Nat→Prop}{w w':World}(h:jR w w')(hM:∀ b,b<w.heap.size→¬ M b→w'.heap[b]? = w.heap[b]?) :dx M w w' :=
  ⟨h.os,h.tape,h.output,Nat.le_of_eq h.size.symm,hM,fun b c t z hc=>⟨c,h.cells hc,rfl⟩⟩
theorem VR.soft{ρ:af}{w w':World}(W:jR w w'){v:AV}{u:Value}(h:VR ρ w v u) :VR ρ w' v u:=by
  induction h using VR.rec (motive_2:=fun l c _=>bh ρ w' l c) with
  | int k n=>exact .int k n
  | bool kn b=>exact .bool kn b
  | flt ex x y h=>exact .flt ex x y h
  | str s=>exact .str s
  | nptr=>exact .nptr
  | ptr b k i j hb=>exact .ptr b k i j hb
  | iptr bw d k i j bl o u ha hb hc hv hr hk hg ih=>exact .iptr bw d k i j bl o u ha (by rw [W.size];exact hb) (fun x v hx=>W.cell (hc x v hx)) ih hr hk hg
  | nsl=>exact .nsl
  | esl a=>exact .esl a
  | zsl a c=>exact .zsl a c
  | nan n h=>exact .nan n h
  | sl b k es i len cap cap' hb hcap hl c t hh hs=>exact .sl b k es i len cap cap' hb hcap hl c t (W.cells hh) hs
  | slEnd b k es i a=>exact .slEnd b k es i a
  | imm bw d k es i len cap bl o u ha hb hc hv hl hr hk hg ih=>exact .imm bw d k es i len cap bl o u ha (by rw [W.size];exact hb) (fun x v hx=>W.cell (hc x v hx)) ih hl hr hk hg
  | immEnd bw d k es i cap a hr hk hg=>exact .immEnd bw d k es i cap a hr hk hg
  | fn f l1 l2 c1 c2 h1 h2 i1 i2=>exact .fn f l1 l2 c1 c2 i1 i2
  | nfn=>exact .nfn
  | gmap ks vs bl es cl u ha hb hh hin hex hv hl hk ih=>exact .gmap ks vs bl es cl u ha (by rw [W.size];exact hb) (W.map hh) hin hex ih hl hk
  | gvar c bl t fr ha hb hh=>exact .gvar c bl t fr ha (by rw [W.size];exact hb) (W.cells hh)
  | agg l c h ih=>exact .agg l c ih
  | tup l c h ih=>exact .tup l c ih
  | iface t v u h ih=>exact .iface t v u ih
  | niface=>exact .niface
  | yld b L h=>exact .yld b L h
  | any u=>exact .any u
  | nil=>exact bh.nil
  | cons v u l c h t i1 i2=>exact bh.cons v u l c i1 i2
theorem bh.soft{ρ:af}{w w':World}(W:jR w w') :∀ {l:List AV} {c:List Value},bh ρ w l c→bh ρ w' l c
  | _,_,.nil=>.nil
  | _,_,.cons v u l c h t=>.cons v u l c (h.soft W) (bh.soft W t)
theorem HR.soft{ρ:af}{w w':World}{h:aM}{n:Nat}(W:jR w w')(hh:HR ρ w h n) :HR ρ w' h n :=
  ⟨fun b d e=>(hh.cell b d e).imp (fun ⟨q1,q2,q3,c,t,q4,q5⟩=>⟨q1,q2,q3,c,t,W.cells q4,fun x v hx=>by obtain ⟨u,k1,k2⟩:=q5 x v hx;exact ⟨u,k1,k2.soft W⟩⟩) id,hh.inj,hh.fresh,
   fun bl hl=>by rw [W.size];exact hh.liveLt bl hl,fun j bl hl=>by rw [W.size];exact hh.outLt j bl hl,hh.lt,fun x hx=>(hh.rom x hx).soft W⟩
mutual
def AV.noYld:AV→Bool
  | .yld _=>false
  | .fn _ l1 l2=>gI l1&&gI l2
  | .agg l | .tup l=>gI l
  | .iface _ v=>v.noYld
  | _=>true
def gI:List AV→Bool
  | []=>true
  | v::l=>v.noYld&&gI l
end
mutual
theorem bO:∀ (v:AV),v.foreign=true→v.noYld=true
  | .fn _ l1 l2,h=>by simp only [AV.foreign,AV.noYld,Bool.and_eq_true] at h ⊢;exact ⟨eV l1 h.1,eV l2 h.2⟩
  | .agg l,h=>by simp only [AV.foreign,AV.noYld] at h ⊢;exact eV l h
  | .tup l,h=>by simp only [AV.foreign,AV.noYld] at h ⊢;exact eV l h
  | .iface _ v,h=>by simp only [AV.foreign,AV.noYld] at h ⊢;exact bO v h
  | .yld _,h=>by simp [AV.foreign] at h
  | .int ..,_ | .bool ..,_ | .flt ..,_ | .str _,_ | .nptr,_ | .ptr ..,_ | .iptr ..,_ | .nsl,_ | .esl,_ | .zsl _,_ | .nan,_ | .sl ..,_ | .imm ..,_ | .nfn,_ | .gmap ..,_ | .gvar _,_ | .niface,_ | .any,_=>rfl
theorem eV:∀ (l:List AV),aN l=true→gI l=true
  | [],_=>rfl
  | v::l,h=>by simp only [aN,gI,Bool.and_eq_true] at h ⊢;exact ⟨bO v h.1,eV l h.2⟩
end
theorem wL:∀ {l:List AV},gI l=true→∀ (x:Nat) (v:AV),l[x]? = some v→v.noYld=true
  | [],_,x,v,h=>by simp at h
  | a::l,ha,0,v,h=>by simp at h;subst h;simp only [gI,Bool.and_eq_true] at ha;exact ha.1
  | a::l,ha,x+1,v,h=>by simp only [gI,Bool.and_eq_true] at ha;exact wL ha.2 x v (by simpa using h)
def af.pinned(ρ:af)(x:Nat×Option (Nat×Nat)) :af:={ ρ with pin:=x }
theorem VR.pinned{ρ:af}{w:World}(x:Nat×Option (Nat×Nat)){v:AV}{u:Value}(h:VR ρ w v u) :v.noYld=true→VR (ρ.pinned x) w v u:=by
  induction h using VR.rec (motive_2:=fun l c _=>gI l=true→bh (ρ.pinned x) w l c) with
  | int k n=>exact fun _=>.int k n
  | bool kn b=>exact fun _=>.bool kn b
  | flt ex x y h=>exact fun _=>.flt ex x y h
  | str s=>exact fun _=>.str s
  | nptr=>exact fun _=>.nptr
  | ptr b k i j hb=>exact fun _=>VR.ptr (ρ:=ρ.pinned x) b k i j hb
  | iptr bw d k i j bl o u ha hb hc hv hr hk hg ih=>exact fun _=>.iptr bw d k i j bl o u ha hb hc (fun x v hx=>ih x v hx (bO v (ay hr hg x v hx))) hr hk hg
  | nsl=>exact fun _=>.nsl
  | esl a=>exact fun _=>.esl a
  | zsl a c=>exact fun _=>.zsl a c
  | nan n h=>exact fun _=>.nan n h
  | sl b k es i len cap cap' hb hcap hl c t hh hs=>exact fun _=>VR.sl (ρ:=ρ.pinned x) b k es i len cap cap' hb hcap hl c t hh hs
  | slEnd b k es i a=>exact fun _=>.slEnd b k es i a
  | imm bw d k es i len cap bl o u ha hb hc hv hl hr hk hg ih=>exact fun _=>.imm bw d k es i len cap bl o u ha hb hc (fun x v hx=>ih x v hx (bO v (ay hr hg x v hx))) hl hr hk hg
  | immEnd bw d k es i cap a hr hk hg=>exact fun _=>.immEnd bw d k es i cap a hr hk hg
  | fn f l1 l2 c1 c2 h1 h2 i1 i2=>intro hk;simp only [AV.noYld,Bool.and_eq_true] at hk;exact .fn f l1 l2 c1 c2 (i1 hk.1) (i2 hk.2)
  | nfn=>exact fun _=>.nfn
  | gmap ks vs bl es cl u ha hb hh hin hex hv hl hk ih=>exact fun _=>.gmap ks vs bl es cl u ha hb hh hin hex (fun x v hx=>ih x v hx (bO v (dh (gp hk x v hx)))) hl hk
  | gvar c bl t fr ha hb hh=>exact fun _=>.gvar c bl t fr ha hb hh
  | agg l c h ih=>intro hk;exact .agg l c (ih hk)
  | tup l c h ih=>intro hk;exact .tup l c (ih hk)
  | iface t v u h ih=>intro hk;exact .iface t v u (ih hk)
  | niface=>exact fun _=>.niface
  | yld b L h=>intro hk;simp [AV.noYld] at hk
  | any u=>exact fun _=>.any u
  | nil=>exact bh.nil
  | cons v u l c h t i1 i2=>rename_i hk;simp only [gI,Bool.and_eq_true] at hk;exact bh.cons v u l c (i1 hk.1) (i2 hk.2)
theorem bh.pinned{ρ:af}{w:World}(x:Nat×Option (Nat×Nat)) :∀ {l:List AV} {c:List Value},bh ρ w l c→gI l=true→bh (ρ.pinned x) w l c
  | _,_,.nil,_=>.nil
  | _,_,.cons v u l c h t,hk=>by simp only [gI,Bool.and_eq_true] at hk;exact .cons v u l c (h.pinned x hk.1) (bh.pinned x t hk.2)
def J4:aq→Bool
  | .vs l=>gI l
  | _=>true
def qU:aM→Bool
  | []=>true
  | x::l=>J4 x.2&&qU l
theorem wM:∀ {h:aM} {b:Nat} {d:aq},qU h=true→aB h b=some d→J4 d=true
  | [],b,d,_,h=>by simp [cq,bP] at h
  | (a1,a2)::l,b,d,hc,h=>by
    simp only [qU,Bool.and_eq_true] at hc
    simp only [cq,bP] at h
    cases e:Nat.beq a1 b with
    | true=>rw [e] at h;simp only [cond_true,Option.some.injEq] at h;rw [←h];exact hc.1
    | false=>rw [e] at h;exact wM hc.2 h
theorem zE{d:aq}(hr:d.recKept)(hk:J4 d=true)(x:Nat)(v:AV)(hx:d.cell? x=some v) :v.noYld=true:=by
  cases d with
  | vs l=>exact wL hk x v hx
  | fl xs=>exact bO v (ay (d:=.fl xs) hr rfl x v hx)
  | ns k xs=>exact bO v (ay (d:=.ns k xs) hr rfl x v hx)
  | bs xs=>exact bO v (ay (d:=.bs xs) hr rfl x v hx)
  | ss xs=>exact bO v (ay (d:=.ss xs) hr rfl x v hx)
  | rows k m get=>exact bO v (ay (d:=.rows k m get) hr rfl x v hx)
  | cols m cs=>exact bO v (ay (d:=.cols m cs) hr rfl x v hx)
theorem HR.pinned{ρ:af}{w:World}{h:aM}{n:Nat}(x:Nat×Option (Nat×Nat))(hh:HR ρ w h n)(hc:qU h=true) :HR (ρ.pinned x) w h n :=
  ⟨fun b d e=>(hh.cell b d e).imp (fun ⟨q1,q2,q3,c,t,q4,q5⟩=>⟨q1,q2,q3,c,t,q4,fun y v hx=>by
      obtain ⟨u,k1,k2⟩:=q5 y v hx
      exact ⟨u,k1,k2.pinned x (zE q3 (wM hc e) y v hx)⟩⟩) id,hh.inj,hh.fresh,hh.liveLt,hh.outLt,hh.lt,
   fun y hy=>(hh.rom y hy).pinned x (bO _ (dh (Rom.kept y hy)))⟩
theorem VR.noPin{ρ:af}{w:World}(hp:ρ.pin.2=none)(x:Nat×Option (Nat×Nat)){v:AV}{u:Value}(h:VR ρ w v u) :VR (ρ.pinned x) w v u:=by
  induction h using VR.rec (motive_2:=fun l c _=>bh (ρ.pinned x) w l c) with
  | int k n=>exact .int k n
  | bool kn b=>exact .bool kn b
  | flt ex x y h=>exact .flt ex x y h
  | str s=>exact .str s
  | nptr=>exact .nptr
  | ptr b k i j hb=>exact VR.ptr (ρ:=ρ.pinned x) b k i j hb
  | iptr bw d k i j bl o u ha hb hc hv hr hk hg ih=>exact .iptr bw d k i j bl o u ha hb hc ih hr hk hg
  | nsl=>exact .nsl
  | esl a=>exact .esl a
  | zsl a c=>exact .zsl a c
  | nan n h=>exact .nan n h
  | sl b k es i len cap cap' hb hcap hl c t hh hs=>exact VR.sl (ρ:=ρ.pinned x) b k es i len cap cap' hb hcap hl c t hh hs
  | slEnd b k es i a=>exact .slEnd b k es i a
  | imm bw d k es i len cap bl o u ha hb hc hv hl hr hk hg ih=>exact .imm bw d k es i len cap bl o u ha hb hc ih hl hr hk hg
  | immEnd bw d k es i cap a hr hk hg=>exact .immEnd bw d k es i cap a hr hk hg
  | fn f l1 l2 c1 c2 h1 h2 i1 i2=>exact .fn f l1 l2 c1 c2 i1 i2
  | nfn=>exact .nfn
  | gmap ks vs bl es cl u ha hb hh hin hex hv hl hk ih=>exact .gmap ks vs bl es cl u ha hb hh hin hex ih hl hk
  | gvar c bl t fr ha hb hh=>exact .gvar c bl t fr ha hb hh
  | agg l c h ih=>exact .agg l c ih
  | tup l c h ih=>exact .tup l c ih
  | iface t v u h ih=>exact .iface t v u ih
  | niface=>exact .niface
  | yld b L h=>rw [hp] at h;cases h
  | any u=>exact .any u
  | nil=>exact bh.nil
  | cons v u l c h t i1 i2=>exact bh.cons v u l c i1 i2
theorem bh.noPin{ρ:af}{w:World}(hp:ρ.pin.2=none)(x:Nat×Option (Nat×Nat)) :∀ {l:List AV} {c:List Value},bh ρ w l c→bh (ρ.pinned x) w l c
  | _,_,.nil=>.nil
  | _,_,.cons v u l c h t=>.cons v u l c (h.noPin hp x) (bh.noPin hp x t)
theorem HR.noPin{ρ:af}{w:World}{h:aM}{n:Nat}(hp:ρ.pin.2=none)(x:Nat×Option (Nat×Nat))(hh:HR ρ w h n) :HR (ρ.pinned x) w h n :=
  ⟨fun b d e=>(hh.cell b d e).imp (fun ⟨q1,q2,q3,c,t,q4,q5⟩=>⟨q1,q2,q3,c,t,q4,fun y v hx=>by obtain ⟨u,k1,k2⟩:=q5 y v hx;exact ⟨u,k1,k2.noPin hp x⟩⟩) id,hh.inj,hh.fresh,hh.liveLt,hh.outLt,hh.lt,
   fun y hy=>(hh.rom y hy).noPin hp x⟩
theorem ei.shut{ρ:af}{w:World} :∀ {ds:List Deferred},ei ρ w ds→∀ {D:Nat},(∀ e∈ds,e ≠ { target:=.collected D,args:=#[] })→∀ {o:Obj},ei ρ (w.putObj D o) ds
  | [],h,D,_,o=>by simpa [ei] using h
  | d::ds,⟨⟨E,h1,hb,h2,h3,h4,h5⟩,h⟩,D,hn,o=>by
    have hne:E≠D:=fun e=>hn d (by simp) (by rw [h1,e])
    exact ⟨⟨E,h1,hb,by simpa using h2,h3,(World.putObj_heap_other hne).trans h4,h5⟩,ei.shut h fun e he=>hn e (by simp [he])⟩
theorem ot{P:Program}{fn:Func}{tmps:Array Value}{R:Ending→World→Prop}{ro:Option Nat}{n:Nat}{ρ:af} :∀ (ds:List Deferred) {w:World},ei ρ w ds →
    (∀ w',jR w w'→(∀ b,b<ρ.pin.1→w'.heap[b]? = w.heap[b]?)→(∀ b,ρ.live b→w'.heap[b]? = w.heap[b]?)→∃ v,(results fn tmps).run P w'=.ok v w'∧R (.returned v) w')→LeavesInM (FW ro) n P fn tmps R ds .returning w
  | [],w,hm,h=>by
    obtain ⟨v,h1,h2⟩:=h w ⟨rfl,rfl,rfl,rfl,fun _=>.inl rfl⟩ (fun _ _=>rfl) (fun _ _=>rfl)
    exact ⟨v,h1,h2⟩
  | d::ds,w,⟨⟨D,h1,hb,h2,h3,h4,h5⟩,hm⟩,h=>by
    have S:=jR.put h4 (.inr ⟨_,rfl⟩) (o':=.deferred none) (.inr ⟨_,rfl⟩)
    refine ⟨by simp,.inl ⟨D,w.putObj D (.deferred none),by rw [h1],run_takeDeferred h4,ot ds (hm.shut h5) fun w' S' hb' hl'=>h w' ?_ (fun b q=>?_) (fun b q=>?_)⟩⟩
    · refine ⟨S'.os,S'.tape,S'.output,S'.size.trans S.size,fun b=>?_⟩
      rcases S'.same b with q | ⟨⟨o,q1,q2⟩,q3⟩
      · rcases S.same b with r | ⟨r1,r2⟩
        · exact .inl (q.trans r)
        · rw [←q] at r2;exact .inr ⟨r1,r2⟩
      · rcases S.same b with r | ⟨r1,r2⟩
        · rw [r] at q1;exact .inr ⟨⟨o,q1,q2⟩,q3⟩
        · exact .inr ⟨r1,q3⟩
    · rw [hb' b q];exact World.putObj_heap_other (by omega)
    · rw [hl' b q];exact World.putObj_heap_other (fun e=>h3 (e ▸ q))
structure iB where
  v:AV
  sets:List (Nat×Option aq)
  reads:List Nat
def py(ops:Array Oper)(j:Nat) :Option Nat:=(ops[j]?).bind (·.dst)
def mj(ops:Array Oper)(o:Oper)(T:List AV) :Option Bool :=
  match o.guard with
  | none=>some true
  | some (j,want) =>
    match py ops j with
    | none=>some false
    | some d =>
      match T8 T d with
      | some (.bool true b)=>some (b==want)
      | some (.tup _) | none=>some false
      | _=>none
def DO(ops:Array Oper)(i:Nat) :Bool:=ops.toList.any fun o=>match o.guard with | some (j,_)=>Nat.beq j i | none=>false
def vZ(v:AV)(p:bY) :Option (Bool×List Bool×bY) :=
  match v,p with
  | .bool true b,p=>some (b,[],p)
  | .bool false b,none=>some (b,[],none)
  | .bool false b,some (k::r)=>some (Nat.beq k 1,[b==Nat.beq k 1],some r)
  | _,_=>none
theorem qV{ρ:af}{w:World}{v:AV}{u:Value}{p p':bY}{b:Bool}{obs:List Bool}(hv:VR ρ w v u)(h:vZ v p=some (b,obs,p'))(ho:ap obs) :u=.bool b:=by
  unfold vZ at h
  split at h
  · simp only [Option.some.injEq,Prod.mk.injEq] at h;obtain ⟨rfl,rfl,rfl⟩:=h;cases hv;rfl
  · simp only [Option.some.injEq,Prod.mk.injEq] at h;obtain ⟨rfl,rfl,rfl⟩:=h;cases hv;rfl
  · simp only [Option.some.injEq,Prod.mk.injEq] at h;obtain ⟨rfl,rfl,rfl⟩:=h;cases hv
    have:=ho.1
    simp only [beq_iff_eq] at this
    rw [this]
  · cases h
def iQ(ops:Array Oper)(i:Nat)(v:AV)(p:bY) :Option (AV×List Bool×bY) :=
  bif DO ops i then (vZ v p).map fun r=>(.bool true r.1,r.2.1,r.2.2) else some (v,[],p)
def sm(C:ki)(run:co)(ops:Array Oper)(n0 i:Nat)(o:Oper)(T:List AV)(h:aM)(p:bY) :Option (iB×List Bool×bY) :=
  match mj ops o T with
  | none=>none
  | some false=>some ({ v:=.tup [],sets:=[],reads:=[] },[],p)
  | some true =>
    match Vd C run (OI T) (aB h) (n0+i*iP) p o.op with
    | none=>none
    | some r =>
      match iQ ops i r.v r.path with
      | none=>none
      | some (v,obs,p')=>some ({ v,sets:=r.sets,reads:=r.reads },r.obs++obs,p')
def qW(T:List AV)(d:Option Nat)(v:AV) :List AV :=
  match d with
  | some d=>OH T d v
  | none=>T
theorem DP{ρ:af}{w:World}{T:List AV}{a:Act}{v:AV}{u:Value}(h:bh ρ w T a.tmps.toList)(hv:VR ρ w v u)(d:Option Nat) :bh ρ w (qW T d v) (a.put d u).tmps.toList:=by
  cases d with
  | none=>exact h
  | some d=>simp only [qW,pq,Act.put,Array.toList_setIfInBounds];exact h.set hv d
theorem ml{ρ:af}{w:World}{ops:Array Oper}{o:Oper}{T:List AV}{a:Act}(h:bh ρ w T a.tmps.toList){b:Bool}(hw:mj ops o T=some b) :Region.wanted o (yielded ops a.tmps)=b:=by
  unfold mj at hw
  simp only [Di] at hw
  unfold Region.wanted
  split at hw
  · rename_i hg;cases hw;simp [hg]
  · rename_i j want hg
    simp only [hg]
    unfold py at hw
    split at hw
    · rename_i hs;cases hw;simp [yielded,hs]
    · rename_i d hs
      split at hw
      · rename_i b' hT
        cases hw
        obtain ⟨u,h1,h2⟩:=h.get d _ hT
        rw [Array.getElem?_toList] at h1
        cases h2
        simp only [yielded,hs,Option.bind_some,h1]
        cases b'<;>cases want<;>rfl
      · rename_i l hT
        cases hw
        obtain ⟨u,h1,h2⟩:=h.get d _ hT
        rw [Array.getElem?_toList] at h1
        cases h2
        simp [yielded,hs,h1]
      · rename_i hT
        cases hw
        have : a.tmps[d]? = none := by
          have hl:=h.length
          rw [Array.getElem?_eq_none]
          have : T.length ≤ d := by rcases Nat.lt_or_ge d T.length with q | q; · rw [List.getElem?_eq_getElem q] at hT; cases hT
                                    · exact q
          simp at hl;omega
        simp [yielded,hs,this]
      · cases hw
theorem HR.congr{ρ:af}{w:World}{h h':aM}{n:Nat}(hh:HR ρ w h n)(e:∀ b,aB h' b=aB h b) :HR ρ w h' n :=
  ⟨fun b d q=>hh.cell b d (by rw [←e];exact q),fun b c d f q r=>hh.inj b c d f (by rw [←e];exact q) (by rw [←e];exact r),hh.fresh,hh.liveLt,hh.outLt,hh.lt,hh.rom⟩
theorem OW{C:ki}{run:co}{e:Operand→AV}{g:Nat→Option aq}{nid:Nat}{p:bY}{c:Call} :J1 C run e g nid p (.defer c)=none:=rfl
theorem uV{C:ki}(hC:C.Ok){run:co}(hrun:wH C.P run){ops:Array Oper}{n0 i:Nat}{o:Oper}(hi:ops[i]? = some o){T:List AV}{h:aM}{p p':bY}{r:iB}{obs:List Bool} 
    (hr:sm C run ops n0 i o T h p=some (r,obs,p')) (ho:ap obs) {ρ:af} {w:World} {n:Nat} (hh:HR ρ w h n) (hid:∀ x,n0+i*iP≤x→x<n0+i*iP+iP→¬ ρ.ok x) (hn:n0+i*iP+iP≤n) {a:Act} (hT:bh ρ w T a.tmps.toList)
    {ro:Option Nat} {nn:Nat} {K:Act→World→Prop} {Q:Exit→Act→World→Prop}
    (hK:∀ ρ' w' a',eI ρ ρ' w→dx ρ.live w w'→HR ρ' w' (bf r.sets h) n→a'.defers=a.defers→bh ρ' w' (qW T o.dst r.v) a'.tmps.toList→(∀ b,ρ'.ok b→ρ.ok b∨(n0+i*iP≤b∧b<n0+i*iP+iP))→K a' w'):wpOpIn (FW ro) nn C.P ops Q i K a w:=by
  have dput:∀ u,(a.put o.dst u).defers=a.defers:=by intro u;cases hdst:o.dst<;>simp [Act.put]
  unfold sm at hr
  simp only [Qv] at hr
  unfold wpOpIn
  simp only [hi]
  split at hr
  · cases hr
  · rename_i hw
    simp only [Option.some.injEq,Prod.mk.injEq] at hr;obtain ⟨rfl,rfl,rfl⟩:=hr
    rw [ml hT hw]
    simp only [Bool.false_eq_true,if_false]
    exact ⟨fun _ _=>trivial,hK ρ w _ (eI.refl _ _) (dx.refl _ _) hh (dput _) (DP hT (.tup _ _ .nil) o.dst) (fun b q=>.inl q)⟩
  · rename_i hw
    rw [ml hT hw]
    simp only [if_true]
    split at hr
    · cases hr
    · rename_i r' hop
      split at hr
      · cases hr
      · rename_i v obs' p'' hg
        simp only [Option.some.injEq,Prod.mk.injEq] at hr;obtain ⟨rfl,rfl,rfl⟩:=hr
        rw [aE] at ho
        refine DN (fun c e=>by rw [e,OW] at hop;cases hop) (OV hC hrun hop ho.1 hh hid hn (fun x=>oe hh.rom hT x) ?_)
        intro ρ' w' u E W hh' hv hok
        refine hK ρ' w' _ E W hh' (dput _) (DP (hT.mono E W) ?_ o.dst) hok
        unfold iQ at hg
        cases hgd:DO ops i with
        | false=>rw [hgd] at hg;simp only [cond_false,Option.some.injEq,Prod.mk.injEq] at hg;rw [←hg.1];exact hv
        | true =>
          rw [hgd] at hg
          simp only [cond_true,Option.map_eq_some_iff,Prod.mk.injEq] at hg
          obtain ⟨⟨b,ob,pp⟩,hd',rfl,rfl,rfl⟩:=hg
          rw [qV hv hd' ho.2]
          exact .bool _ _
structure YI where
  b:Nat
  saved:List AV
  ps:Array Tmp
  assign:Code
  body:Code
def af.wm(ρ:af)(y:Option YI)(b:Nat) :Prop:=ρ.live b∨(y.isSome=true∧∃ k,ρ.pin.2=some (b,k))
theorem Uh{ρ:af}{b:Nat} :ρ.wm none b↔ρ.live b:=by simp [af.wm]
theorem Ui{ρ ρ':af}{w:World}{y:Option YI}(E:eI ρ ρ' w){b:Nat}(hb:b<w.heap.size)(h:ρ'.wm y b) :ρ.wm y b :=
  h.imp (E.new b hb) fun ⟨q,k,r⟩=>⟨q,k,by rw [←E.pin];exact r⟩
structure wa (y:Option YI) (ρ:af) (w:World) (ρ':af) (w':World):Prop where
  ext:eI ρ ρ' w
  wle:dx (ρ.wm y) w w'
  vr:∀ v u,VR ρ w v u→VR ρ' w' v u
  marks:∀ ds,ei ρ w ds→ei ρ' w' ds
theorem wa.of{y:Option YI}{ρ ρ':af}{w w':World}(E:eI ρ ρ' w)(W:dx ρ.live w w') :wa y ρ w ρ' w' :=
  ⟨E,W.mono fun _ _ q=>.inl q,fun v u h=>h.mono E W,fun ds h=>h.mono E W⟩
theorem wa.refl(y:Option YI)(ρ:af)(w:World) :wa y ρ w ρ w:=.of (eI.refl _ _) (dx.refl _ _)
theorem wa.trans{y:Option YI}{ρ ρ1 ρ2:af}{w w1 w2:World}(h:wa y ρ w ρ1 w1)(k:wa y ρ1 w1 ρ2 w2) :wa y ρ w ρ2 w2 :=
  ⟨h.ext.trans k.ext h.wle.size,h.wle.trans k.wle (fun _ hx q=>Ui h.ext hx q),fun v u q=>k.vr v u (h.vr v u q),fun ds q=>k.marks ds (h.marks ds q)⟩
theorem wa.live{ρ ρ':af}{w w':World}(h:wa none ρ w ρ' w') :dx ρ.live w w':=h.wle.mono fun _ _ q=>Uh.1 q
theorem bh.stp{ρ ρ':af}{w w':World}(h:∀ v u,VR ρ w v u→VR ρ' w' v u) :∀ {l:List AV} {c:List Value},bh ρ w l c→bh ρ' w' l c
  | _,_,.nil=>.nil
  | _,_,.cons v u l c a t=>.cons v u l c (h v u a) (bh.stp h t)
theorem ei.soft{ρ:af}{w:World}{L:Nat}{r:Loop}(hL:w.heap[L]? = some (.loop r)){o:Obj} :∀ {ds:List Deferred},ei ρ w ds→ei ρ (w.putObj L o) ds
  | [],h=>by simpa [ei] using h
  | d::ds,⟨⟨D,h1,hb,h2,h3,h4,h5⟩,h⟩=>⟨⟨D,h1,hb,by simpa using h2,h3,(World.putObj_heap_other (fun e=>by rw [e,hL] at h4;cases h4)).trans h4,h5⟩,ei.soft hL h⟩
def F1(ρ:af)(w:World)(L:Nat)(y:YI)(s:LoopState)(pe:Option Code) :Prop :=
  ∃ rec:Loop,w.heap[L]? = some (.loop rec)∧rec.state=s∧rec.pending=pe∧rec.params=y.ps∧rec.assign=y.assign∧rec.body=y.body∧bh ρ w y.saved rec.tmps.toList
def jo:Option aq→Option (LoopState×Option Code)
  | some (.vs [])=>some (.ready,none)
  | some (.fl [])=>some (.done,some .ret)
  | some (.rows id 0 _)=>some (.done,some (.exit id))
  | _=>none
def gJ(y:Option YI)(ρ:af)(w:World)(h:aM)(m:Nat) :Prop :=
  match y with
  | none=>True
  | some y=>¬ ρ.ok y.b∧y.b<m∧∃ L,ρ.pin.2=some (L,y.b)∧¬ ρ.live L∧∃ s pe,jo (aB h y.b)=some (s,pe)∧F1 ρ w L y s pe
theorem F1.mono{ρ ρ':af}{w w':World}{L:Nat}{y:YI}{s:LoopState}{pe:Option Code}(h:F1 ρ w L y s pe)(E:eI ρ ρ' w)(W:dx ρ.live w w')(hL : ¬ ρ.live L) :F1 ρ' w' L y s pe:=by
  obtain ⟨rec,h1,h2,h3,h4,h5,h6,h7⟩:=h
  exact ⟨rec,(W.same L (Array.getElem?_eq_some_iff.1 h1).1 hL).trans h1,h2,h3,h4,h5,h6,h7.mono E W⟩
theorem gJ.mono{y:Option YI}{ρ ρ':af}{w w':World}{h h':aM}{m:Nat}(hp:gJ y ρ w h m)(E:eI ρ ρ' w)(W:dx ρ.live w w')(hb:∀ yi,y=some yi→ρ'.ok yi.b→ρ.ok yi.b∨m≤yi.b)(hg:∀ yi,y=some yi→aB h' yi.b=aB h yi.b) :gJ y ρ' w' h' m:=by
  cases y with
  | none=>trivial
  | some y =>
    obtain ⟨h1,h2,L,h3,h4,s,pe,h5,h6⟩:=hp
    have hlt:L<w.heap.size:=by obtain ⟨rec,q,_⟩:=h6;exact (Array.getElem?_eq_some_iff.1 q).1
    refine ⟨fun q=>(hb y rfl q).elim h1 (by omega),h2,L,by rw [E.pin];exact h3,fun q=>h4 (E.new L hlt q),s,pe,by rw [hg y rfl];exact h5,h6.mono E W h4⟩
theorem gJ.le{y:Option YI}{ρ:af}{w:World}{h:aM}{m m':Nat}(hp:gJ y ρ w h m)(hm:m≤m') :gJ y ρ w h m':=by
  cases y with
  | none=>trivial
  | some y=>obtain ⟨h1,h2,h3⟩:=hp;exact ⟨h1,Nat.lt_of_lt_of_le h2 hm,h3⟩
abbrev OX:=List AV→aM→Nat→bY→Option (AV×aM×Nat×List Bool×bY)
def J5(P:Program)(y:Option YI)(yr:OX) :Prop :=
  ∀ args h nx p v h' nx' obs p',yr args h nx p=some (v,h',nx',obs,p')→ap obs→∃ yi,y=some yi∧∀ (ρ:af) (w:World) (us:Array Value) (m:Nat),HR ρ w h nx→ρ.pin.1≤w.heap.size→gJ y ρ w h m→m≤nx→bh ρ w args us.toList →
    ∀ (L:Nat),ρ.pin.2=some (L,yi.b)→∃ rec:Loop,w.heap[L]? = some (.loop rec)∧us.size=rec.params.size∧∀ (ro:Option Nat) (nn:Nat) (R:Ending→World→Prop),
      (∀ ρ' w' u,wa y ρ w ρ' w'→HR ρ' w' h' nx'→gJ y ρ' w' h' m→VR ρ' w' v u→(∀ b,ρ'.ok b→ρ.ok b∨nx≤b)→nx≤nx'→R (.returned u) w') →
      RoundIn (FW ro) nn P L rec.fn ((rec.params.zip us).foldl (fun tmps (t,a)=>tmps.setIfInBounds t a) rec.tmps) rec.assign rec.body w R
def Mz(ops:Array Oper)(o:Oper)(T:List AV) :Option (List AV) :=
  match o.op with
  | .call { callee:=.value f,args,.. } =>
    match OI T f with
    | .yld _=>match mj ops o T with
      | some true=>some (args.toList.map (OI T))
      | _=>none
    | _=>none
  | _=>none
def jS(y:Option YI)(s:List (Nat×Option aq)) :Bool :=
  match y with
  | none=>true
  | some y=>!(iZ (s.map Prod.fst) y.b)
theorem sn{y:Option YI}{s:List (Nat×Option aq)}(h:jS y s=true)(hp:aM) :∀ yi,y=some yi→aB (bf s hp) yi.b=aB hp yi.b:=by
  intro yi e
  subst e
  simp only [jS,Bool.not_eq_true'] at h
  have key:∀ (s:List (Nat×Option aq)) (hp:aM),iZ (s.map Prod.fst) yi.b=false→aB (bf s hp) yi.b=aB hp yi.b:=by
    intro s
    induction s with
    | nil=>intro hp _;rfl
    | cons x s ih =>
      intro hp h
      obtain ⟨c,d⟩:=x
      simp only [List.map_cons,iZ] at h
      cases e:Nat.beq c yi.b with
      | true=>rw [e] at h;cases h
      | false =>
        rw [e] at h
        simp only [cond_false] at h
        have hne : ¬ c=yi.b:=fun q=>by rw [q,gB] at e;cases e
        cases d with
        | some d=>simp only [bf];rw [ih _ h,be,if_neg hne]
        | none=>simp only [bf];rw [ih _ h,gk,if_neg hne]
  exact key s hp h
def tV(C:ki)(run:co)(y:Option YI)(yr:OX)(ops:Array Oper)(n0:Nat) :Nat→List Oper→List AV→aM→Nat→bY→Option (List AV×aM×Nat×List Bool×bY)
  | _,[],T,h,nx,p=>some (T,h,nx,[],p)
  | i,o::l,T,h,nx,p =>
    match Mz ops o T with
    | some args =>
      match yr args h nx p with
      | none=>none
      | some (v,h1,nx1,obs1,p1) =>
        match iQ ops i v p1 with
        | none=>none
        | some (v,obs2,p2) =>
          match tV C run y yr ops n0 (i+1) l (qW T o.dst v) h1 nx1 p2 with
          | none=>none
          | some (T',h',nx',obs',p'')=>some (T',h',nx',obs1++obs2++obs',p'')
    | none =>
      match sm C run ops n0 i o T h p with
      | none=>none
      | some (r,obs,p') =>
        bif jS y r.sets then
          match tV C run y yr ops n0 (i+1) l (qW T o.dst r.v) (bf r.sets h) nx p' with
          | none=>none
          | some (T',h',nx',obs',p'')=>some (T',h',nx',obs++obs',p'')
        else none
structure wN (ρ:af) (w:World) (n:Nat) (st:aF) (ρ':af) (a':Act) (w':World):Prop where
  ext:eI ρ ρ' w
  wle:dx ρ.live w w'
  sr:SR ρ' st a' w'
  le:n≤st.next
  back:∀ b,ρ'.ok b→ρ.ok b∨n≤b
theorem wO{ρ:af}{w:World}{ops:Array Oper}{i:Nat}{v v':AV}{u:Value}{p p':bY}{obs:List Bool}(hv:VR ρ w v u)(hg:iQ ops i v p=some (v',obs,p'))(ho:ap obs) :VR ρ w v' u:=by
  unfold iQ at hg
  cases hgd:DO ops i with
  | false=>rw [hgd] at hg;simp only [cond_false,Option.some.injEq,Prod.mk.injEq] at hg;rw [←hg.1];exact hv
  | true =>
    rw [hgd] at hg
    simp only [cond_true,Option.map_eq_some_iff,Prod.mk.injEq] at hg
    obtain ⟨⟨b,ob,pp⟩,hd',rfl,rfl,rfl⟩:=hg
    rw [qV hv hd' ho]
    exact .bool _ _
theorem mn{C:ki}(hC:C.Ok){run:co}(hrun:wH C.P run){y:Option YI}{yr:OX}(hyr:J5 C.P y yr){ops:Array Oper}{n0:Nat}{ro:Option Nat}{nn:Nat}{Q:Exit→Act→World→Prop} :∀ (l:List Oper) (i:Nat) {T T':List AV} {h h':aM} {nx nx':Nat} {p p':bY} {obs:List Bool},
    (∀ j,l[j]? = ops[i+j]?)→tV C run y yr ops n0 i l T h nx p=some (T',h',nx',obs,p')→ap obs→∀ {ρ:af} {w:World},HR ρ w h nx→n0+ops.size*iP≤nx→gJ y ρ w h n0→ρ.pin.1≤w.heap.size→(∀ b,ρ.ok b→b<n0+i*iP∨n0+ops.size*iP≤b)→∀ {a:Act},bh ρ w T a.tmps.toList →
    (∀ ρ' w' a',wa y ρ w ρ' w'→HR ρ' w' h' nx'→nx≤nx'→gJ y ρ' w' h' n0→a'.defers=a.defers→bh ρ' w' T' a'.tmps.toList→(∀ b,ρ'.ok b→ρ.ok b∨n0≤b)→Q .normal a' w')→wpOpsIn (FW ro) nn C.P ops Q (List.range' i l.length) a w
  | [],i,T,T',h,h',nx,nx',p,p',obs,hl,hr,ho,ρ,w,hh,hnx,hpin,hpn,hok,a,hT,hQ=>by
    simp only [tV,Option.some.injEq,Prod.mk.injEq] at hr;obtain ⟨rfl,rfl,rfl,rfl,rfl⟩:=hr
    simp only [List.length_nil,List.range'_zero,wpOpsIn]
    exact hQ ρ w a (wa.refl _ _ _) hh (Nat.le_refl _) hpin rfl hT (fun b q=>.inl q)
  | o::l,i,T,T',h,h',nx,nx',p,p',obs,hl,hr,ho,ρ,w,hh,hnx,hpin,hpn,hok,a,hT,hQ=>by
    have hi:ops[i]? = some o:=by have:=hl 0;simpa using this.symm
    have hlt:i<ops.size:=(Array.getElem?_eq_some_iff.1 hi).1
    simp only [List.length_cons,List.range'_succ]
    rw [wpOpsIn_cons]
    have hS:i*iP+iP≤ops.size*iP:=by rw [←Nat.succ_mul];exact Nat.mul_le_mul_right _ hlt
    have hi1:(i+1)*iP=i*iP+iP:=Nat.succ_mul _ _
    have hl':∀ j,l[j]? = ops[i+1+j]?:=fun j=>by have:=hl (j+1);rw [show i+1+j=i+(j+1) from by omega];simpa using this
    simp only [tV] at hr
    split at hr
    · rename_i args hya
      split at hr
      case h_1=>cases hr
      rename_i v h1 nx1 obs1 p1 hy1
      split at hr
      case h_1=>cases hr
      rename_i v2 obs2 p2 hg
      split at hr
      case h_1=>cases hr
      rename_i T2 h2 nx2 obs3 p3 h3
      simp only [Option.some.injEq,Prod.mk.injEq] at hr;obtain ⟨rfl,rfl,rfl,rfl,rfl⟩:=hr
      rw [aE,aE] at ho
      unfold Mz at hya
      split at hya
      case h_2=>cases hya
      rename_i f avs ats hop
      split at hya
      case h_2=>cases hya
      rename_i b hef
      split at hya
      case h_2=>cases hya
      rename_i hw
      simp only [Option.some.injEq] at hya;subst hya
      have hf:=oe hh.rom hT f
      rw [hef] at hf
      generalize hgf:a.eval f=gf at hf
      cases hf with | yld _ L hL =>
      obtain ⟨yi,rfl,hyr1⟩:=hyr _ _ _ _ _ _ _ _ _ hy1 ho.1.1
      have hb:b=yi.b:=by
        obtain ⟨_,_,L',q,_⟩:=hpin
        rw [hL] at q;cases q;rfl
      subst hb
      obtain ⟨rec,hrec,hsz,hround⟩:=hyr1 ρ w (avs.map a.eval) n0 hh hpn hpin (by omega) (by rw [Array.toList_map];exact bh.map (fun x=>oe hh.rom hT x) avs.toList) L hL
      unfold wpOpIn
      simp only [hi]
      rw [ml hT hw]
      simp only [if_true]
      refine ⟨fun _ _=>trivial,?_⟩
      have hex:(o.semAt (FW ro).round a.eval).run C.P w=.ok (.round L rec.fn ((rec.params.zip (avs.map a.eval)).foldl (fun tmps (t,a)=>tmps.setIfInBounds t a) rec.tmps) rec.assign rec.body) w:=by
        rw [Oper.semAt_eq _ _ _ (fun c e=>by rw [hop] at e;cases e)]
        have:=run_yield (P:=C.P) (args:=avs.map a.eval) hrec hsz
        simp only [execOp,hop,resolve,hgf,Deferred.ofValue]
        simpa [invoke,Sem.run_bind,Result.andThen] using this
      rw [hex]
      refine ⟨vY,hround ro _ _ fun ρ' w' u S hh' hpin' hv hok' hle=>?_⟩
      refine mn hC hrun hyr l (i+1) hl' h3 ho.2 hh' (by omega) hpin' (by rw [S.ext.pin];exact Nat.le_trans hpn S.wle.size) (fun b q=>?_) (DP (bh.stp S.vr hT) (wO hv hg ho.1.2) o.dst) ?_
      · rcases hok' b q with q | q
        · rcases hok b q with q | q
          · exact .inl (by omega)
          · exact .inr q
        · exact .inr (by omega)
      · intro ρ'' w'' a'' S' hh'' hle' hpin'' hd'' hT'' hb''
        refine hQ ρ'' w'' a'' (S.trans S') hh'' (by omega) hpin'' (hd''.trans (by cases hdst:o.dst<;>simp [Act.put])) hT'' (fun b q=>?_)
        rcases hb'' b q with q | q
        · rcases hok' b q with q | q
          · exact .inl q
          · exact .inr (by omega)
        · exact .inr q
    · split at hr
      case h_1=>cases hr
      rename_i r obs1 p1 h1
      cases hkp:jS y r.sets with
      | false=>rw [hkp] at hr;cases hr
      | true =>
      rw [hkp] at hr
      simp only [cond_true] at hr
      split at hr
      case h_1=>cases hr
      rename_i T2 h2 nx2 obs2 p2 h3
      simp only [Option.some.injEq,Prod.mk.injEq] at hr;obtain ⟨rfl,rfl,rfl,rfl,rfl⟩:=hr
      rw [aE] at ho
      refine uV hC hrun hi h1 ho.1 hh (fun x h1 h2 q=>by have:=hok _ q;omega) (by omega) hT ?_
      intro ρ' w' a' E W hh' hd' hT' hok'
      have S:=wa.of (y:=y) E W
      refine mn hC hrun hyr l (i+1) hl' h3 ho.2 hh' hnx (hpin.mono E W (fun yi e q=>?_) (sn hkp h)) (by rw [E.pin];exact Nat.le_trans hpn W.size) (fun b q=>?_) hT' ?_
      · rcases hok' _ q with q | q
        · exact .inl q
        · exact .inr (by omega)
      · rcases hok' b q with q | q
        · rcases hok b q with q | q
          · exact .inl (by omega)
          · exact .inr q
        · exact .inl (by omega)
      intro ρ'' w'' a'' S' hh'' hle' hpin'' hd'' hT'' hb''
      exact hQ ρ'' w'' a'' (S.trans S') hh'' hle' hpin'' (hd''.trans hd') hT'' (fun b q=>by
        rcases hb'' b q with q | q
        · rcases hok' b q with q | q
          · exact .inl q
          · exact .inr (by omega)
        · exact .inr q)
theorem pz{e e':Operand→AV}{l:List Operand}(h:∀ x∈l,e x=e' x) :l.map e=l.map e':=List.map_congr_left h
theorem DQ{wr:Bool}{P:Program}{e e':Operand→AV}{op:Op}(h:∀ x∈op.operands,e x=e' x) :jM wr P e op=jM wr P e' op:=by
  unfold jM
  split
  all_goals simp only [Op.operands,Call.operands] at h
  case h_1=>rw [h _ (by simp)]
  case h_2=>rw [h _ (by simp)]
  case h_3=>rw [h _ (by simp),h _ (by simp),h _ (by simp)]
  case h_4=>rw [h _ (by simp)]
  case h_5=>rw [h _ (by simp),h _ (by simp)]
  case h_6=>rw [h _ (by simp)]
  case h_7=>rw [h _ (by simp)]
  case h_8=>rw [h _ (by simp)]
  case h_9 =>
    rename_i fn first caps
    rw [pz (l:=first.toList) (fun x hx=>h x (by simp at hx;simp [hx])),pz (l:=caps.toList) (fun x hx=>h x (by simp at hx;simp [hx]))]
  case h_10 =>
    rename_i t x lo hi
    rw [h x (by simp)]
    cases lo<;>cases hi<;>simp only [Option.map_none,Option.map_some]<;>first | rfl | (rw [h _ (by simp),h _ (by simp)]) | (rw [h _ (by simp)])
  case h_11 =>
    rename_i t x lo hi mx
    rw [h x (by simp),h mx (by simp)]
    cases lo<;>cases hi<;>simp only [Option.map_none,Option.map_some]<;>first | rfl | (rw [h _ (by simp),h _ (by simp)]) | (rw [h _ (by simp)])
  case h_12=>rw [h _ (by simp)]
  case h_13=>rw [h _ (by simp)]
  case h_14=>rw [h _ (by simp),h _ (by simp)]
  case h_15=>rw [h _ (by simp),h _ (by simp)]
  case h_16=>rw [h _ (by simp)]
  case h_17 =>
    rename_i xs ts
    split
    · rename_i x t hx ht
      have:xs = #[x]:=by rw [←hx]
      subst this
      rw [h x (by simp)]
    · rfl
  case h_18 =>
    rename_i xs ts
    split
    · rename_i x l hx
      have:xs=(x::l).toArray:=by rw [←hx]
      subst this
      rw [h x (by simp),pz (l:=l) (fun y hy=>h y (by simp [hy]))]
    · rfl
  case h_19 =>
    rename_i xs ts
    split
    · rename_i x l hx
      have:xs=(x::l).toArray:=by rw [←hx]
      subst this
      rw [h x (by simp),pz (l:=l) (fun y hy=>h y (by simp [hy]))]
    · rfl
  case h_20=>rfl
theorem F2{P:Program}{g g':Nat→Option aq}{t:TypeId}{x:AV}{r:AV×List Bool×List Nat}(h:qc P g t x=some r)(hg:∀ b∈r.2.2,g' b=g b) :qc P g' t x=some r:=by
  unfold qc at h ⊢
  simp only at h ⊢
  split at h
  · rename_i b w i j
    split at h
    · rename_i d hd
      simp only [Option.map_eq_some_iff] at h
      obtain ⟨r',h1,rfl⟩:=h
      have:g' b=some d:=by rw [hg b (by simp)];exact hd
      simp only [this,h1];rfl
    · cases h
  · exact h
  · cases h
theorem DR{P:Program}{g g':Nat→Option aq}{t:TypeId}{x v:AV}{r:Nat×aq×List Bool}(h:qM P g t x v=some r)(hg:g' r.1=g r.1) :qM P g' t x v=some r:=by
  unfold qM at h ⊢
  split at h
  · rename_i b w i j l inf h1 h2
    split at h
    · rename_i d hd
      cases e:Nat.beq l.length inf.size with
      | false=>rw [e] at h;cases h
      | true =>
        rw [e] at h
        simp only [cond_true,Option.map_eq_some_iff] at h
        obtain ⟨r',h3,rfl⟩:=h
        have:g' b=some d:=by rw [hg];exact hd
        simp only [h1,this,e,cond_true,h3];rfl
    · cases h
  · cases h
theorem qX{g g':Nat→Option aq}{x:AV}{r:Nat×Nat×aq×List Bool×List Nat}(h:FP g x=some r)(hg:∀ b∈r.2.2.2.2,g' b=g b) :FP g' x=some r:=by
  unfold FP at h ⊢
  split at h
  · rename_i b w es i len cap
    split at h
    · rename_i d hd
      simp only [Option.map_eq_some_iff] at h
      obtain ⟨r',h1,rfl⟩:=h
      have:g' b=some d:=by rw [hg b (by simp)];exact hd
      simp only [this,h1];rfl
    · cases h
  · exact h
  · cases h
theorem kY{P:Program}{g g':Nat→Option aq}{nid:Nat}{e:TypeId}{inf:TypeInfo}{s:AV}{m es':Nat}{nb:aq}{obs:List Bool}{rs:List Nat}{r:List jm×List Nat}(h:mb P g nid e inf s m es' nb obs rs=some r)(hg:∀ b∈r.2,g' b=g b) :
    mb P g' nid e inf s m es' nb obs rs=some r∧∀ b∈rs,b∈r.2:=by
  unfold mb at h ⊢
  split at h
  · refine ⟨h,?_⟩
    cases hes:Nat.beq es' inf.size with
    | false=>rw [hes] at h;cases h
    | true =>
      rw [hes] at h
      simp only [cond_true,Option.some.injEq] at h;subst h
      exact fun b hb=>hb
  · refine ⟨h,?_⟩
    cases hes:Nat.beq es' inf.size with
    | false=>rw [hes] at h;cases h
    | true =>
      rw [hes] at h
      simp only [cond_true,Option.some.injEq] at h;subst h
      exact fun b hb=>hb
  · rename_i b w es len cap
    split at h
    case h_2=>cases h
    rename_i d hd
    cases hes:(Nat.beq es inf.size&&Nat.beq es' es) with
    | false=>rw [hes] at h;cases h
    | true =>
    rw [hes] at h
    simp only [cond_true] at h
    split at h
    case h_2=>cases h
    rename_i old obs' hsub
    simp only [Option.map_eq_some_iff] at h
    obtain ⟨d',happ,rfl⟩:=h
    have h2:g' b=some d:=by rw [hg b (by simp)];exact hd
    refine ⟨?_,fun b hb=>by simp [hb]⟩
    simp only [h2,cond_true,hsub,happ,hes];rfl
  · cases h
theorem zF{P:Program}{g g':Nat→Option aq}{nid:Nat}{t t':TypeId}{s x:AV}{r:List jm×List Nat}(h:pw P g nid t t' s x=some r)(hg:∀ b∈r.2,g' b=g b) :pw P g' nid t t' s x=some r:=by
  unfold pw at h ⊢
  split at h
  case h_2=>cases h
  rename_i e y ht ht'
  split at h
  case h_2=>cases h
  rename_i inf he hi
  split at h
  case h_2=>cases h
  rename_i z hz
  cases hzs:(Nat.beq z.cells.size inf.size&&Nat.beq inf.size 1) with
  | false=>rw [hzs] at h;cases h
  | true =>
  rw [hzs] at h
  simp only [cond_true] at h ⊢
  exact (kY h hg).1
theorem zG{P:Program}{g g':Nat→Option aq}{nid:Nat}{t:TypeId}{s x:AV}{r:List jm×List Nat}(h:pv P g nid t s x=some r)(hg:∀ b∈r.2,g' b=g b) :pv P g' nid t s x=some r:=by
  unfold pv at h ⊢
  split at h
  case h_2=>cases h
  rename_i e ht
  split at h
  case h_2=>cases h
  rename_i inf hi
  split at h
  case h_2=>cases h
  rename_i z hz
  cases hzs:Nat.beq z.cells.size inf.size with
  | false=>rw [hzs] at h;cases h
  | true =>
  rw [hzs] at h
  simp only [cond_true] at h ⊢
  split at h
  · exact h
  · exact h
  · exact h
  · exact h
  · split at h
    case h_2=>cases h
    rename_i m es nb obs rs hs
    have q:∀ b∈rs,b∈r.2:=(kY (g':=g) h (fun _ _=>rfl)).2
    have:=qX (g':=g') hs (fun b hb=>hg b (q b hb))
    simp only [this]
    exact (kY h hg).1
mutual
theorem mo {σ:Nat→Option Nat} {g g':Nat→Option aq}:∀ (n:Nat) (v:AV),(∀ b∈(tS σ g n v).2,g' b=g b)→tS σ g' n v=tS σ g n v
  | 0,_,_=>rfl
  | n + 1, v, h => by
    cases v<;>simp only [tS] at h ⊢
    · rename_i b w i j
      cases hs:σ b with
      | some c=>rfl
      | none =>
      rw [hs] at h
      simp only at h ⊢
      have hb:g' b=g b:=by
        cases q:g b with
        | none=>rw [q] at h;have:=h b (by simp);rw [this,q]
        | some d=>rw [q] at h;have:=h b (by simp);rw [this,q]
      rw [hb]
      cases q:g b with
      | none=>rfl
      | some d =>
        rw [q] at h
        have:=wP (σ:=σ) (g:=g) (g':=g') n d (fun b' hb'=>h b' (by simp only [List.mem_cons];exact .inr hb'))
        simp only [this]
    · rename_i b w es i len cap
      cases hs:σ b with
      | some c=>rfl
      | none =>
      rw [hs] at h
      simp only at h ⊢
      have hb:g' b=g b:=by
        cases q:g b with
        | none=>rw [q] at h;have:=h b (by simp);rw [this,q]
        | some d=>rw [q] at h;have:=h b (by simp);rw [this,q]
      rw [hb]
      cases q:g b with
      | none=>rfl
      | some d =>
        rw [q] at h
        have:=wP (σ:=σ) (g:=g) (g':=g') n d (fun b' hb'=>h b' (by simp only [List.mem_cons];exact .inr hb'))
        simp only [this]
    · rename_i f l1 l2
      rw [ij n l1 (fun b hb=>h b (by simp [hb])),ij n l2 (fun b hb=>h b (by simp [hb]))]
    · rename_i l;rw [ij n l h]
    · rename_i l;rw [ij n l h]
    · rename_i t v;rw [mo n v h]
theorem ij {σ:Nat→Option Nat} {g g':Nat→Option aq}:∀ (n:Nat) (l:List AV),(∀ b∈(sf σ g n l).2,g' b=g b)→sf σ g' n l=sf σ g n l
  | 0,_,_=>rfl
  | n+1,[],_=>rfl
  | n+1,v::l,h=>by
    simp only [sf] at h ⊢
    rw [mo n v (fun b hb=>h b (by simp [hb])),ij n l (fun b hb=>h b (by simp [hb]))]
theorem wP {σ:Nat→Option Nat} {g g':Nat→Option aq}:∀ (n:Nat) (d:aq),(∀ b∈(qQ σ g n d).2,g' b=g b)→qQ σ g' n d=qQ σ g n d
  | 0,_,_=>rfl
  | n+1,d,h=>by
    cases d<;>simp only [qQ] at h ⊢
    rename_i l;rw [ij n l h]
end
theorem gK{σ:Nat→Option Nat}{g g':Nat→Option aq} :∀ (m:List Bool) (l:List AV),(∀ b∈(en σ g m l).2,g' b=g b)→en σ g' m l=en σ g m l
  | m,[],_=>by cases m<;>rfl
  | true::m,v::l,h=>by
    simp only [en] at h ⊢
    rw [gK m l h]
  | false::m,v::l,h=>by
    simp only [en] at h ⊢
    rw [mo _ v (fun b hb=>h b (by simp [hb])),gK m l (fun b hb=>h b (by simp [hb]))]
  | [],v::l,h=>by
    simp only [en] at h ⊢
    rw [mo _ v (fun b hb=>h b (by simp [hb])),gK [] l (fun b hb=>h b (by simp [hb]))]
theorem tW{g:Nat→Option aq} :∀ (n:Nat) (t acc:List Nat),∀ b∈acc,b∈fD g n t acc
  | 0,t,acc,b,h=>h
  | n+1,[],acc,b,h=>h
  | n+1,x::t,acc,b,h=>by
    simp only [fD]
    split
    · exact tW n _ _ b h
    · exact tW n _ _ b (by simp [h])
theorem ou{g g':Nat→Option aq} :∀ (n:Nat) (t acc:List Nat),(∀ b∈fD g n t acc,g' b=g b)→fD g' n t acc=fD g n t acc
  | 0,t,acc,_=>rfl
  | n+1,[],acc,_=>rfl
  | n+1,x::t,acc,h=>by
    simp only [fD] at h ⊢
    split
    · rename_i e;rw [e] at h;exact ou n _ _ h
    · rename_i e
      rw [e] at h
      simp only at h
      have hx:g' x=g x:=h x (tW n _ _ x (by simp))
      rw [hx]
      exact ou n _ _ h
theorem so{σ:Nat→Option Nat}{g g':Nat→Option aq} :∀ (l:List Nat),(∀ b∈l,g' b=g b)→iY σ g' l=iY σ g l
  | [],_=>rfl
  | b::l,h=>by simp only [iY];rw [h b (by simp),so l (fun x hx=>h x (by simp [hx]))]
theorem ov{g g':Nat→Option aq}{nid:Nat} :∀ (l:List Nat),(∀ b∈l,g' b=g b)→gH g' nid l=gH g nid l
  | [],_=>rfl
  | b::l,h=>by simp only [gH];rw [h b (by simp),ov l (fun x hx=>h x (by simp [hx]))]
theorem F3{C:ki}{run:co}{g g':Nat→Option aq}{nid:Nat}{p:bY}{fid:FuncId}{vals:List AV}{r:OU}(h:wJ C run g nid p fid vals=some r)(hg:∀ b∈r.reads,g' b=g b) :wJ C run g' nid p fid vals=some r:=by
  have hreads:r.reads=fD g dA (dH (gG (C.mode fid).mask vals)) []++(en (eU (fD g dA (dH (gG (C.mode fid).mask vals)) []) 0) g (C.mode fid).mask vals).2:=by
    unfold wJ at h
    simp only at h
    generalize (kV (fD g dA (dH (gG (C.mode fid).mask vals)) [])&&gH g nid (fD g dA (dH (gG (C.mode fid).mask vals)) []))=c at h
    cases c with
    | false=>cases h
    | true =>
      simp only [cond_true] at h
      split at h
      case h_2=>cases h
      rename_i r' obs p' hl
      cases hle:Nat.ble r'.own.length ((fD g dA (dH (gG (C.mode fid).mask vals)) []).length+iP) with
      | false=>rw [hle] at h;cases h
      | true=>rw [hle] at h;simp only [cond_true,Option.some.injEq] at h;rw [←h]
  rw [hreads] at hg
  have e1:=ou (g:=g) (g':=g') dA (dH (gG (C.mode fid).mask vals)) [] (fun b hb=>hg b (by simp [hb]))
  have e2:=gK (σ:=eU (fD g dA (dH (gG (C.mode fid).mask vals)) []) 0) (g:=g) (g':=g') (C.mode fid).mask vals (fun b hb=>hg b (by simp [hb]))
  have e3:=so (σ:=eU (fD g dA (dH (gG (C.mode fid).mask vals)) []) 0) (g:=g) (g':=g') (fD g dA (dH (gG (C.mode fid).mask vals)) []) (fun b hb=>hg b (by simp [hb]))
  have e4:=ov (nid:=nid) (g:=g) (g':=g') (fD g dA (dH (gG (C.mode fid).mask vals)) []) (fun b hb=>hg b (by simp [hb]))
  unfold wJ at h ⊢
  simp only at h ⊢
  rw [e1,e2,e3,e4]
  exact h
theorem F4{P:Program}{g g':Nat→Option aq}{t:TypeId}{s x:AV}{r:Nat×Nat×aq×List Bool×List Nat}(h:Bf P g t s x=some r)(hg:∀ b∈r.2.2.2.2,g' b=g b) :Bf P g' t s x=some r:=by
  unfold Bf at h ⊢
  split at h
  case h_2=>cases h
  rename_i e b w es i len cap ht
  split at h
  case h_2=>cases h
  rename_i inf blk m es' nb obs rs hi hb hsrc
  have hr:r.2.2.2.2=b::rs:=by
    cases h1:Nat.beq inf.size 1&&Nat.beq es' 1 with
    | false=>rw [h1] at h;cases h
    | true =>
      rw [h1] at h
      simp only [cond_true,Option.map_eq_some_iff] at h
      obtain ⟨_,_,rfl⟩:=h
      rfl
  have q1:g' b=some blk:=by rw [hg b (by rw [hr];simp)];exact hb
  have q2:=qX hsrc (g':=g') (fun c hc=>hg c (by rw [hr];exact List.mem_cons_of_mem _ hc))
  rw [hi,q1,q2]
  exact h
theorem F5{P:Program}{g g':Nat→Option aq}{t:TypeId}{s x:AV}{r:Nat×Nat×aq×List Bool×List Nat}(h:Bg P g t s x=some r)(hg:∀ b∈r.2.2.2.2,g' b=g b) :Bg P g' t s x=some r:=by
  unfold Bg at h ⊢
  cases hv:Qq x with
  | false=>rw [hv] at h;exact F4 h hg
  | true =>
    rw [hv] at h
    simp only at h ⊢
    split at h
    case h_2=>cases h
    rename_i e b w es i len cap ht
    split at h
    case h_2=>cases h
    rename_i inf blk hi hb
    cases h
    have:=hg b (by simp)
    simp only [hi,this,hb]
theorem J6{P:Program}{g g':Nat→Option aq}{s d:TypeId}{x:AV}{r:ByteArray×List Bool×List Nat}(h:OS P g s d x=some r)(hg:∀ b∈r.2.2,g' b=g b) :OS P g' s d x=some r:=by
  unfold OS at h ⊢
  split at h
  case h_2=>cases h
  rename_i e hs hd
  split at h
  case h_2=>cases h
  rename_i m es k ys obs rs he hsrc
  have hr:r.2.2=rs:=by
    cases h1:Nat.beq es 1&&bc k .u8 with
    | false=>rw [h1] at h;cases h
    | true =>
      rw [h1] at h
      simp only [cond_true,Option.some.injEq] at h
      rw [←h]
  have q2:=qX hsrc (g':=g') (fun c hc=>hg c (by rw [hr];exact hc))
  rw [he,q2]
  exact h
theorem OY{C:ki}{run:co}{e e':Operand→AV}{g g':Nat→Option aq}{nid:Nat}{p:bY}{op:Op}{r:OU}(h:J1 C run e g nid p op=some r)(he:∀ x∈op.operands,e' x=e x)(hg:∀ b∈r.reads,g' b=g b) :
    J1 C run e' g' nid p op=some r:=by
  unfold J1 at h ⊢
  rw [DQ he]
  split at h
  · exact h
  · rename_i hp
    clear hp
    split at h
    all_goals simp only [Op.operands,Call.operands] at he
    · rename_i t x
      simp only [Option.map_eq_some_iff] at h ⊢
      obtain ⟨r',h1,rfl⟩:=h
      exact ⟨r',by rw [he x (by simp)];exact F2 h1 hg,rfl⟩
    · rename_i t d x
      simp only [Option.map_eq_some_iff] at h ⊢
      obtain ⟨r',h1,rfl⟩:=h
      exact ⟨r',by rw [he x (by simp)];exact J6 h1 hg,rfl⟩
    · rename_i t x lo hi
      have h1:lo.map e'=lo.map e:=by
        cases lo with
        | none=>rfl
        | some y=>simp only [Option.map_some];rw [he y (by simp)]
      have h2:hi.map e'=hi.map e:=by
        cases hi with
        | none=>rfl
        | some y=>simp only [Option.map_some];rw [he y (by simp)]
      simp only [Option.map_eq_some_iff] at h ⊢
      obtain ⟨r',q,rfl⟩:=h
      exact ⟨r',by rw [he x (by simp),h1,h2];exact DK q hg,rfl⟩
    · rename_i t x v
      simp only [Option.map_eq_some_iff] at h ⊢
      obtain ⟨r',h1,rfl⟩:=h
      exact ⟨r',by rw [he x (by simp),he v (by simp)];exact DR h1 (hg _ (by simp)),rfl⟩
    · rename_i t x k cok;rw [he x (by simp),he k (by simp)];exact h
    · exact h
    · rename_i t x;rw [he x (by simp)];exact h
    · rename_i t l c;rw [he l (by simp),he c (by simp)];exact h
    · rename_i t parts
      have:(parts.toList.map fun x=>(x.1,e' x.2))=(parts.toList.map fun x=>(x.1,e x.2)):=List.map_congr_left fun x hx=>by rw [he x.2 (by simp;exact ⟨x.1,by simpa using hx⟩)]
      rw [this];exact h
    · rename_i t len parts
      have:(parts.toList.map fun x=>(x.1,e' x.2))=(parts.toList.map fun x=>(x.1,e x.2)):=List.map_congr_left fun x hx=>by rw [he x.2 (by simp;exact ⟨x.1,by simpa using hx⟩)]
      rw [this];exact h
    · rename_i args ats
      split at h
      case h_2=>cases h
      rename_i s x t t' e1 e2
      have ea:args = #[s,x]:=by rw [←e1]
      subst ea
      cases ht:Nat.beq t t' with
      | false =>
        rw [ht] at h
        simp only [cond_false] at h ⊢
        rw [he s (by simp),he x (by simp)]
        split at h
        case h_2=>cases h
        rename_i alts rs ha
        simp only [Option.map_eq_some_iff] at h ⊢
        obtain ⟨r',h1,rfl⟩:=h
        have:=zF (g':=g') ha hg
        simp only [this,Option.map_eq_some_iff]
        exact ⟨r',h1,rfl⟩
      | true =>
      rw [ht] at h
      simp only [cond_true] at h ⊢
      rw [he s (by simp),he x (by simp)]
      split at h
      case h_2=>cases h
      rename_i alts rs ha
      simp only [Option.map_eq_some_iff] at h ⊢
      obtain ⟨r',h1,rfl⟩:=h
      have:=zG (g':=g') ha hg
      simp only [this,Option.map_eq_some_iff]
      exact ⟨r',h1,rfl⟩
    · rename_i args ats
      split at h
      case h_2=>cases h
      rename_i s x t t' e1 e2
      have ea:args = #[s,x]:=by rw [←e1]
      subst ea
      rw [he s (by simp),he x (by simp)]
      simp only [Option.map_eq_some_iff] at h ⊢
      obtain ⟨r',h1,rfl⟩:=h
      exact ⟨r',F5 h1 hg,rfl⟩
    · rename_i f args ats
      have hf:e' f=e f:=he f (by simp)
      have hargs:args.toList.map e'=args.toList.map e:=List.map_congr_left fun x hx=>he x (by simp at hx;simp [hx])
      split at h
      case h_2=>cases h
      rename_i fid l hca
      have:oq e' f args=some (fid,l):=by
        unfold oq at hca ⊢
        rw [hf,hargs];exact hca
      simp only [this]
      split at h
      · exact h
      · exact F3 h hg
    · cases h
def J7(l:List Operand) :List Nat:=l.filterMap fun | .tmp t=>some t | _=>none
def fL(ops:Array Oper)(o:Oper) :List Nat :=
  (match o.dst with | some d=>[d] | none=>[])++(J7 o.op.operands.toList++(match o.guard with | some (j,_)=>(match py ops j with | some d=>[d] | none=>[]) | none=>[]))
def dU(s:List (Nat×Option aq)) :List Nat:=s.map Prod.fst
def iC(ms:List Nat)(o:Oper) :Nat:=o.after.toList.foldl (fun m e=>bif Region.binds .any e then m ||| (2^e.on ||| ms.getD e.on 0) else m) 0
def J8(x:Nat) :List Nat→Bool
  | []=>false
  | y::l=>Nat.beq x y||J8 x l
def qY:List Nat→List Nat→Bool
  | [],_=>true
  | x::l,m=>!J8 x m&&qY l m
theorem wQ{x:Nat} :∀ {l:List Nat},J8 x l=true↔x∈l
  | []=>by simp [J8]
  | y::l=>by simp [J8,wQ (l:=l)]
theorem pA{l m:List Nat}(h:qY l m=true) :∀ x,x∈l→x∈m→False:=by
  induction l with
  | nil=>intro x hx;cases hx
  | cons y l ih =>
    simp only [qY,Bool.and_eq_true,Bool.not_eq_true'] at h
    intro x hx hm
    rcases List.mem_cons.1 hx with rfl | hx
    · have:=wQ.2 hm;rw [this] at h;cases h.1
    · exact ih h.2 x hx hm
def gL(ops:Array Oper)(o:Oper)(r:iB)(o':Oper)(r':iB) :Bool :=
  qY o.dst.toList (fL ops o')&&(qY o'.dst.toList (fL ops o)&&(qY (dU r.sets) (r'.reads++dU r'.sets)&&qY (dU r'.sets) (r.reads++dU r.sets)))
def gM(ops:Array Oper)(mask:Nat)(o':Oper)(r':iB) :Nat→List (Oper×iB)→Bool
  | _,[]=>true
  | i,x::l=>(mask.testBit i||gL ops x.1 x.2 o' r')&&gM ops mask o' r' (i+1) l
def qZ(ops:Array Oper) :List (Oper×iB)→List Nat→List (Oper×iB)→Bool
  | _,_,[]=>true
  | pre,ms,x::l =>
    x.1.after.toList.all (fun e=>!Region.binds .any e||Nat.blt e.on pre.length) &&
    (gM ops (iC ms x.1) x.1 x.2 0 pre&&qZ ops (pre++[x]) (ms++[iC ms x.1]) l)
def gA(L:Nat→Bool) :Nat→List (Oper×iB)→List AV×aM→List AV×aM
  | _,[],s=>s
  | i,x::l,s=>gA L (i+1) l (bif L i then (qW s.1 x.1.dst x.2.v,bf x.2.sets s.2) else s)
theorem sq(T:List AV)(d:Option Nat)(v:AV)(t:Nat) :(qW T d v)[t]? = if d=some t then (T[t]?).map (fun _=>v) else T[t]?:=by
  cases d with
  | none=>simp [qW]
  | some d =>
    simp only [qW,pq,Option.some.injEq]
    rw [List.getElem?_set]
    by_cases h:d=t
    · subst h
      simp only [if_true]
      by_cases hl:d<T.length
      · simp [hl]
      · simp [hl]
    · simp [h]
theorem iD{h h':aM}{b:Nat} :∀ (s:List (Nat×Option aq)) {h h':aM},aB h b=aB h' b→aB (bf s h) b=aB (bf s h') b
  | [],_,_,e=>e
  | (c,some d)::s,h,h',e=>by
    simp only [bf]
    exact iD (h:=h) (h':=h') s (by rw [be,be,e])
  | (c,none)::s,h,h',e=>by
    simp only [bf]
    exact iD (h:=h) (h':=h') s (by rw [gk,gk,e])
theorem iE{b:Nat} :∀ (s:List (Nat×Option aq)) {h:aM},b ∉ dU s→aB (bf s h) b=aB h b
  | [],_,_=>rfl
  | (c,some d)::s,h,hb=>by
    simp only [dU,List.map_cons,List.mem_cons,not_or] at hb
    simp only [bf]
    rw [iE s hb.2,be,if_neg (fun e=>hb.1 e.symm)]
  | (c,none)::s,h,hb=>by
    simp only [dU,List.map_cons,List.mem_cons,not_or] at hb
    simp only [bf]
    rw [iE s hb.2,gk,if_neg (fun e=>hb.1 e.symm)]
theorem DS{L L':Nat→Bool}{t:Nat} :∀ (l:List (Oper×iB)) (i:Nat) {s s':List AV×aM},(∀ k x,l[k]? = some x→x.1.dst=some t→L (i+k)=L' (i+k))→s.1[t]? = s'.1[t]?→(gA L i l s).1[t]? = (gA L' i l s').1[t]?
  | [],_,_,_,_,e=>e
  | x::l,i,s,s',h,e=>by
    simp only [gA]
    refine DS l (i+1) (fun k y hy hd=>by have:=h (k+1) y (by simpa using hy) hd;rw [show i+1+k=i+(k+1) from by omega];exact this) ?_
    by_cases hd:x.1.dst=some t
    · have:=h 0 x (by simp) hd
      simp only [Nat.add_zero] at this
      rw [this]
      cases L' i with
      | true=>simp only [cond_true,sq,hd,if_true,e]
      | false=>exact e
    · cases L i<;>cases L' i<;>simp only [cond_true,cond_false,sq,if_neg hd,e]
theorem DT{L L':Nat→Bool}{b:Nat} :∀ (l:List (Oper×iB)) (i:Nat) {s s':List AV×aM},(∀ k x,l[k]? = some x→b∈dU x.2.sets→L (i+k)=L' (i+k))→aB s.2 b=aB s'.2 b→aB (gA L i l s).2 b=aB (gA L' i l s').2 b
  | [],_,_,_,_,e=>e
  | x::l,i,s,s',h,e=>by
    simp only [gA]
    refine DT l (i+1) (fun k y hy hd=>by have:=h (k+1) y (by simpa using hy) hd;rw [show i+1+k=i+(k+1) from by omega];exact this) ?_
    by_cases hd:b∈dU x.2.sets
    · have:=h 0 x (by simp) hd
      simp only [Nat.add_zero] at this
      rw [this]
      cases L' i with
      | true=>simp only [cond_true];exact iD (h:=s.2) (h':=s'.2) _ e
      | false=>exact e
    · cases L i<;>cases L' i<;>simp only [cond_true,cond_false,iE _ hd,e]
def bt:List (Oper×iB)→List AV×aM→List AV×aM
  | [],s=>s
  | x::l,s=>bt l (qW s.1 x.1.dst x.2.v,bf x.2.sets s.2)
theorem wR(l m:List (Oper×iB))(s:List AV×aM) :bt (l++m) s=bt m (bt l s):=by
  induction l generalizing s with
  | nil=>rfl
  | cons x l ih=>simp only [List.cons_append,bt,ih]
theorem wb:∀ (l:List (Oper×iB)) (i j:Nat) (s:List AV×aM),gA (fun k=>decide (k<i+j)) i l s=bt (l.take j) s
  | [],i,j,s=>by simp [gA,bt]
  | x::l,i,0,s=>by
    have:∀ (l:List (Oper×iB)) (i':Nat),i≤i'→∀ s,gA (fun k=>decide (k<i+0)) i' l s=s:=by
      intro l
      induction l with
      | nil=>intro _ _ s;rfl
      | cons y l ih =>
        intro i' hi s
        simp only [gA]
        have:decide (i'<i+0)=false:=by simp;omega
        rw [this];exact ih (i'+1) (by omega) s
    simp only [List.take_zero,bt]
    exact this _ i (Nat.le_refl _) s
  | x::l,i,j+1,s=>by
    simp only [gA,List.take_succ_cons,bt]
    have h1:decide (i<i+(j+1))=true:=by simp
    rw [h1]
    simp only [cond_true]
    have:=wb l (i+1) j (qW s.1 x.1.dst x.2.v,bf x.2.sets s.2)
    rw [show i+1+j=i+(j+1) from by omega] at this
    exact this
structure Qw (ops:Array Oper) (l:List (Oper×iB)) (ms:List Nat):Prop where
  edge:∀ (j:Nat) (x:Oper×iB),l[j]? = some x→∀ e∈x.1.after,Region.binds .any e=true→e.on<j
  mask:∀ (j:Nat) (x:Oper×iB),l[j]? = some x→∃ m:Nat,ms[j]? = some m∧∀ i:Nat,m.testBit i=true→∃ e∈x.1.after,Region.binds .any e=true∧(e.on=i∨∃ m':Nat,ms[e.on]? = some m'∧m'.testBit i=true)
  pair:∀ (i j:Nat) (x y:Oper×iB),l[i]? = some x→l[j]? = some y→i<j→(∃ m:Nat,ms[j]? = some m∧m.testBit i=true)∨gL ops x.1 x.2 y.1 y.2=true
theorem wS(ms:List Nat) :∀ (es:List Edge) (m0 i:Nat),(es.foldl (fun m e=>bif Region.binds .any e then m ||| (2^e.on ||| ms.getD e.on 0) else m) m0).testBit i=true →
    m0.testBit i=true∨∃ e∈es,Region.binds .any e=true∧(e.on=i∨(ms.getD e.on 0).testBit i=true)
  | [],m0,i,h=>.inl h
  | e::es,m0,i,h=>by
    simp only [List.foldl_cons] at h
    rcases wS ms es _ i h with h | ⟨e',h1,h2,h3⟩
    · cases hb:Region.binds .any e with
      | false=>rw [hb] at h;exact .inl h
      | true =>
        rw [hb] at h
        simp only [cond_true,Nat.testBit_or,Bool.or_eq_true,Nat.testBit_two_pow,decide_eq_true_eq] at h
        rcases h with h | h | h
        · exact .inl h
        · exact .inr ⟨e,by simp,hb,.inl h⟩
        · exact .inr ⟨e,by simp,hb,.inr h⟩
    · exact .inr ⟨e',by simp [h1],h2,h3⟩
theorem qj{ops:Array Oper}{mask:Nat}{o':Oper}{r':iB} :∀ {l:List (Oper×iB)} {i:Nat},gM ops mask o' r' i l=true→∀ k x,l[k]? = some x→mask.testBit (i+k)=true∨gL ops x.1 x.2 o' r'=true
  | [],_,_,k,x,h=>by simp at h
  | y::l,i,h,0,x,hx=>by
    simp only [gM,Bool.and_eq_true,Bool.or_eq_true] at h
    simp at hx;subst hx;simpa using h.1
  | y::l,i,h,k+1,x,hx=>by
    simp only [gM,Bool.and_eq_true,Bool.or_eq_true] at h
    have:=qj h.2 k x (by simpa using hx)
    rw [show i+1+k=i+(k+1) from by omega] at this;exact this
theorem uW{ops:Array Oper} :∀ (l pre:List (Oper×iB)) (ms:List Nat),ms.length=pre.length→qZ ops pre ms l=true→Qw ops pre ms→∃ ms',Qw ops (pre++l) ms'
  | [],pre,ms,_,_,D=>⟨ms,by simpa using D⟩
  | x::l,pre,ms,hl,h,D=>by
    simp only [qZ,Bool.and_eq_true] at h
    obtain ⟨h1,h2,h3⟩:=h
    have:=uW l (pre++[x]) (ms++[iC ms x.1]) (by simp [hl]) h3 ?_
    · simpa using this
    have old:∀ (j:Nat) (y:Oper×iB),(pre++[x])[j]? = some y→(j<pre.length∧pre[j]? = some y)∨(j=pre.length∧y=x):=by
      intro j y hy
      rw [List.getElem?_append] at hy
      split at hy
      · rename_i q;exact .inl ⟨q,hy⟩
      · rename_i q
        have:j-pre.length=0:=by
          rcases Nat.eq_zero_or_pos (j-pre.length) with r | r
          · exact r
          · rw [List.getElem?_eq_none (by simp;omega)] at hy;cases hy
        rw [this] at hy;simp at hy;exact .inr ⟨by omega,hy.symm⟩
    have msl:∀ (j m:Nat),ms[j]? = some m→(ms++[iC ms x.1])[j]? = some m:=by
      intro j m hm
      rw [List.getElem?_append_left (List.getElem?_eq_some_iff.1 hm).1];exact hm
    have msn:(ms++[iC ms x.1])[pre.length]? = some (iC ms x.1):=by
      rw [←hl,List.getElem?_append_right (Nat.le_refl _)];simp
    have hedge:∀ e∈x.1.after,Region.binds .any e=true→e.on<pre.length:=by
      intro e he hb
      have:=List.all_eq_true.1 h1 e (by simpa using he)
      rw [hb] at this
      simpa [Nat.blt_eq] using this
    refine ⟨fun j y hy=>?_,fun j y hy=>?_,fun i j a b ha hb hij=>?_⟩
    · rcases old j y hy with ⟨q,hy⟩ | ⟨rfl,rfl⟩
      · exact D.edge j y hy
      · exact hedge
    · rcases old j y hy with ⟨q,hy⟩ | ⟨rfl,rfl⟩
      · obtain ⟨m,k1,k2⟩:=D.mask j y hy
        refine ⟨m,msl j m k1,fun i hi=>?_⟩
        obtain ⟨e,e1,e2,e3⟩:=k2 i hi
        exact ⟨e,e1,e2,e3.imp id fun ⟨m',q1,q2⟩=>⟨m',msl _ m' q1,q2⟩⟩
      · refine ⟨_,msn,fun i hi=>?_⟩
        rcases wS ms y.1.after.toList 0 i hi with q | ⟨e,e1,e2,e3⟩
        · simp at q
        · refine ⟨e,by simpa using e1,e2,e3.imp id fun q=>?_⟩
          rw [List.getD_eq_getElem?_getD] at q
          cases hm:ms[e.on]? with
          | none=>rw [hm] at q;simp at q
          | some m'=>rw [hm] at q;exact ⟨m',msl _ m' hm,q⟩
    · rcases old j b hb with ⟨q,hb⟩ | ⟨rfl,rfl⟩
      · rcases old i a ha with ⟨q',ha⟩ | ⟨rfl,rfl⟩
        · exact (D.pair i j a b ha hb hij).imp (fun ⟨m,k1,k2⟩=>⟨m,msl j m k1,k2⟩) id
        · omega
      · rcases old i a ha with ⟨q',ha⟩ | ⟨rfl,rfl⟩
        · have:=qj h2 i a ha
          rw [Nat.zero_add] at this
          exact this.imp (fun k=>⟨_,msn,k⟩) id
        · omega
def wT(m i:Nat) :Bool:=Nat.beq (Nat.land (Nat.shiftRight m i) 1) 1
theorem pB(m i:Nat) :wT m i=m.testBit i:=by
  have h:Nat.land (Nat.shiftRight m i) 1=(m >>> i)%2:=Nat.and_one_is_mod _
  unfold wT
  rw [h,Nat.testBit_eq_decide_div_mod_eq,Nat.shiftRight_eq_div_pow]
  cases hq:Nat.beq (m/2^i%2) 1 with
  | true=>have:=Nat.eq_of_beq_eq_true hq;simp [this]
  | false => have : ¬ m / 2 ^ i % 2 = 1 := fun e => by rw [e] at hq; cases hq
             simp [this]
def ra:List Nat→Nat
  | []=>0
  | t::l=>Nat.lor (Nat.shiftLeft 1 t) (ra l)
theorem wU:∀ {l:List Nat} {t:Nat},t∈l→wT (ra l) t=true
  | s::l,t,h=>by
    rw [pB]
    show ((1 <<< s) ||| ra l).testBit t=true
    rw [Nat.testBit_or,Bool.or_eq_true]
    rcases List.mem_cons.1 h with rfl | h
    · left;rw [Nat.one_shiftLeft,Nat.testBit_two_pow];simp
    · right;rw [←pB];exact wU h
def MA(d:Option Nat)(m:Nat) :Bool:=match d with | none=>true | some d=>!wT m d
theorem wV{d:Option Nat}{l:List Nat}(h:MA d (ra l)=true) :qY d.toList l=true:=by
  cases d with
  | none=>rfl
  | some d =>
    simp only [MA,Bool.not_eq_true'] at h
    simp only [Option.toList,qY,Bool.and_true,Bool.not_eq_true']
    cases hm:J8 d l with
    | false=>rfl
    | true=>rw [wU (wQ.1 hm)] at h;cases h
def ow(r r':iB) :Bool:=qY (dU r.sets) (r'.reads++dU r'.sets)&&qY (dU r'.sets) (r.reads++dU r.sets)
def wc(mask:Nat)(d':Option Nat)(m':Nat) :Nat→List (Option Nat×Nat)→Bool
  | _,[]=>true
  | i,x::l=>(wT mask i||(MA x.1 m'&&MA d' x.2))&&wc mask d' m' (i+1) l
def DU(ops:Array Oper)(o:Oper) :Option Nat×Nat:=(o.dst,ra (fL ops o))
def DV(ops:Array Oper) :List Oper→List Nat→List Oper→Bool
  | _,_,[]=>true
  | pre,ms,o::l=>o.after.toList.all (fun e=>!Region.binds .any e||Nat.blt e.on pre.length)&&(wc (iC ms o) o.dst (ra (fL ops o)) 0 (pre.map (DU ops))&&DV ops (pre++[o]) (ms++[iC ms o]) l)
def wW:List Oper→List Nat→List Nat
  | [],_=>[]
  | o::l,ms=>iC ms o::wW l (ms++[iC ms o])
def wX(mask:Nat)(r':iB) :Nat→List iB→Bool
  | _,[]=>true
  | i,r::l=>(wT mask i||ow r r')&&wX mask r' (i+1) l
def tX(r:iB) :Bool:=match r.sets,r.reads with | [],[]=>true | _,_=>false
def wd:List iB→Bool
  | []=>true
  | r::l=>match r.sets with | []=>wd l | _=>false
def F6:List iB→List Nat→List iB→Bool
  | _,_,[]=>true
  | pre,m::ms,r::l=>(tX r||wX m r 0 pre)&&F6 (pre++[r]) ms l
  | _,[],_=>false
def su(ops:Array Oper)(rs:List iB) :Bool :=
  DV ops [] [] ops.toList&&(wd rs||F6 [] (wW ops.toList []) rs)
theorem F7:∀ (l:List Nat),qY l []=true
  | []=>rfl
  | x::l=>by simp [qY,J8,F7 l]
theorem tY{r r':iB}(h:tX r'=true) :ow r r'=true:=by
  unfold tX at h
  split at h
  · rename_i h1 h2;simp [ow,h1,h2,dU,qY,F7]
  · cases h
theorem uX:∀ {l:List iB},wd l=true→∀ r∈l,r.sets=[]
  | x::l,h,r,hr=>by
    simp only [wd] at h
    split at h
    · rename_i hx
      rcases List.mem_cons.1 hr with rfl | hr
      · exact hx
      · exact uX h r hr
    · cases h
theorem wY{r r':iB}(h:r.sets=[])(h':r'.sets=[]) :ow r r'=true:=by simp [ow,h,h',dU,qY]
theorem uY{ops:Array Oper}{mask:Nat}{o':Oper}{r':iB} :∀ {l:List Oper} {rs:List iB} {i:Nat},wc mask o'.dst (ra (fL ops o')) i (l.map (DU ops))=true→(∀ k r,rs[k]? = some r→wT mask (i+k)=true∨ow r r'=true)→gM ops mask o' r' i (l.zip rs)=true
  | [],_,_,_,_=>by simp [gM]
  | _::_,[],_,_,_=>by simp [gM]
  | o::l,r::rs,i,h,hd=>by
    simp only [List.map_cons,wc,Bool.and_eq_true,Bool.or_eq_true,DU] at h
    simp only [List.zip_cons_cons,gM,Bool.and_eq_true,Bool.or_eq_true]
    refine ⟨?_,uY h.2 fun k r hk=>?_⟩
    · have:=hd 0 r rfl
      rw [Nat.add_zero] at this
      rcases this with q | q
      · left;rw [←pB];exact q
      · rcases h.1 with q' | q'
        · left;rw [←pB];exact q'
        · right
          simp only [ow,Bool.and_eq_true] at q
          simp only [gL,Bool.and_eq_true]
          exact ⟨wV q'.1,wV q'.2,q.1,q.2⟩
    · have:=hd (k+1) r (by simpa using hk)
      rwa [show i+(k+1)=i+1+k from by omega] at this
theorem wZ{mask:Nat}{r':iB} :∀ {l:List iB} {i:Nat},wX mask r' i l=true→∀ k r,l[k]? = some r→wT mask (i+k)=true∨ow r r'=true
  | [],_,_,k,r,h=>by simp at h
  | x::l,i,h,0,r,hr=>by
    simp only [wX,Bool.and_eq_true,Bool.or_eq_true] at h
    simp at hr;subst hr;simpa using h.1
  | x::l,i,h,k+1,r,hr=>by
    simp only [wX,Bool.and_eq_true,Bool.or_eq_true] at h
    have:=wZ h.2 k r (by simpa using hr)
    rwa [show i+1+k=i+(k+1) from by omega] at this
theorem Bk{ops:Array Oper} :∀ (l pre:List Oper) (rs prs:List iB) (ms:List Nat),pre.length=prs.length→l.length=rs.length→DV ops pre ms l=true →
    ((∀ r∈prs++rs,r.sets=[])∨F6 prs (wW l ms) rs=true)→qZ ops (pre.zip prs) ms (l.zip rs)=true
  | [],_,_,_,_,_,_,_,_=>by simp [qZ]
  | _::_,_,[],_,_,_,h,_,_=>by simp at h
  | o::l,pre,r::rs,prs,ms,hp,hl,hs,hd=>by
    simp only [DV,Bool.and_eq_true] at hs
    obtain ⟨h1,h2,h3⟩:=hs
    simp only [List.zip_cons_cons,qZ,Bool.and_eq_true]
    have hz:(pre.zip prs).length=pre.length:=by simp [hp]
    have hap:(pre.zip prs)++[(o,r)]=(pre++[o]).zip (prs++[r]):=by rw [List.zip_append hp];rfl
    refine ⟨by rw [hz];exact h1,uY h2 fun k x hk=>?_,?_⟩
    · rcases hd with hd | hd
      · exact .inr (wY (hd x (by simp [List.mem_of_getElem? hk])) (hd r (by simp)))
      · simp only [wW,F6,Bool.and_eq_true,Bool.or_eq_true] at hd
        rcases hd.1 with q | q
        · exact .inr (tY q)
        · exact wZ q k x hk
    · rw [hap]
      refine Bk l (pre++[o]) rs (prs++[r]) _ (by simp [hp]) (by simpa using hl) h3 ?_
      rcases hd with hd | hd
      · left;simpa using hd
      · right
        simp only [wW,F6,Bool.and_eq_true] at hd
        exact hd.2
theorem F8{ops:Array Oper}{rs:List iB}(hl:rs.length=ops.toList.length)(h:su ops rs=true) :qZ ops [] [] (ops.toList.zip rs)=true:=by
  simp only [su,Bool.and_eq_true,Bool.or_eq_true] at h
  exact Bk ops.toList [] rs [] [] rfl hl.symm h.1 (h.2.imp (fun q=>by simpa using uX q) id)
end
end Go.Plb
