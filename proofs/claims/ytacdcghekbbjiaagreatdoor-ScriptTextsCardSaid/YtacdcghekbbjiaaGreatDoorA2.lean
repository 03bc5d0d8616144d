/-
  Part 2 of what the claim leans on: an evaluator of the model, proved sound; the contracts of the functions.
-/
import Derived.Laws.BytesString
import GoSem.Instr.Lookup
import GoSem.Extern.MathSqrt
import GoSem.Extern.MathFloatBits
import GoSem.Extern.MathBitsCarry
import GoSem.Extern.BytealgIndexByte
import GoSem.Extern.BytealgCount
import Derived.LoopN
import Derived.Scope
import Derived.Laws.Externs
import Derived.WalkKit
import Derived.ProofKit
import Derived.OpenShut
import Derived.Deep.Slices
import Derived.Test.YtacdcghekbbjiaaGreatDoorChecked
import Derived.KernelRfl
import Derived.Test.YtacdcghekbbjiaaGreatDoorRows
import Derived.LaidLaws
import Derived.LaidHandle
import Derived.Lib.LaidTab
import Derived.Stop.LaidErr
import Derived.JoinedOf
import Derived.Below
import Derived.WalkSpells
import Derived.Maps.RangeRun
import Derived.Maps.RangeWalk
import Derived.Maps.OwnIn
import Derived.Shelf.Strings.OnBuilder
import Derived.Shelf.Strings.BuilderF
import Derived.Shelf.Strings.BuilderK
import Derived.Shelf.Strconv.Itoa3
import Derived.Shelf.Strconv.AtoiAll
import Derived.Shelf.Strings.Search2
import Derived.Shelf.Strings.Search3
import Derived.Test.YtacdcghekbbjiaaGreatDoorProg
import Derived.Test.YtacdcghekbbjiaaGreatDoorA1
namespace Go.Plb
set_option linter.unusedSimpArgs false
set_option linter.unusedVariables false
set_option linter.unusedSectionVars false
variable [Rom]
def qi(l:List Int) :ByteArray:=l.foldl (fun r n=>r.push (UInt8.ofNat n.toNat)) ByteArray.empty
def Ic(P:Program)(g:Nat→Option aj)(s d:TypeId)(x:AV) :Option (ByteArray×List Bool×List Nat) :=
  match P.underlying s,P.underlying d with
  | some (.slice e),some .string =>
    match P.underlying e,EY g x with
    | some (.int .u8),some (m,es,.ns k ys,obs,rs)=>bif Nat.beq es 1&&bB k .u8 then some (qi ys,obs,rs) else none
    | _,_=>none
  | _,_=>none
theorem Gm{P:Program}{ρ:ae}{w:World}{h:aN}{n:Nat}(hh:HR ρ w h n){s d:TypeId}{x:AV}{x':Value}(hx:VR ρ w x x'){t:ByteArray}{obs:List Bool}{rs:List Nat} 
    (hc:Ic P (ax h) s d x=some (t,obs,rs)) (ho:ak obs):(convert s d x').run P w=.ok (.string t) w:=by
  unfold Ic at hc
  split at hc
  case h_2=>cases hc
  rename_i e hs hd
  split at hc
  case h_2=>cases hc
  rename_i m es k ys obs' rs' he hsrc
  cases h1:Nat.beq es 1&&bB k .u8 with
  | false=>rw [h1] at hc;cases hc
  | true =>
  rw [h1] at hc
  simp only [Bool.and_eq_true] at h1
  have hes:=Nat.eq_of_beq_eq_true h1.1
  have hk:k=.u8:=by simpa [bB] using h1.2
  subst hes hk
  simp only [cond_true,Option.some.injEq,Prod.mk.injEq] at hc
  obtain ⟨rfl,rfl,rfl⟩:=hc
  have hS:=zO hh hx hsrc ho
  obtain ⟨a,c,rfl,hv⟩:=hS.val
  have hlen:ys.length=m:=by
    have:=hS.count
    rw [Nat.mul_one] at this
    exact this
  rw [run_convert_bytes_string w s d e a m c hs he hd]
  rcases hv with h0 | ⟨bl,o,rfl,news,hnl,hnews,hone,hrel⟩
  · subst h0
    have hy:ys=[]:=List.length_eq_zero_iff.1 hlen
    subst hy
    cases a with
    | none=>rfl
    | some a=>exact run_bytesToString w a 0 c [] (by simp [loadCells,loadCellsFrom])
  · have hnews':news=ys.map (Value.int .u8):=by
      refine List.ext_getElem? fun j=>?_
      rw [List.getElem?_map]
      cases hj:ys[j]? with
      | none =>
        rw [List.getElem?_eq_none_iff] at hj
        rw [List.getElem?_eq_none (by omega)];rfl
      | some z =>
        obtain ⟨u,q1,q2⟩:=hrel j (.int .u8 z) (by show (ys[j]?).map _=_;rw [hj];rfl)
        rw [q1]
        cases q2
        rfl
    subst hnews'
    refine run_bytesToString w ⟨bl,o,none⟩ m c ys ?_
    have hf:=run_firstCells_some (P:=P) w 1 m ⟨bl,o,none⟩ m c (ys.map (Value.int .u8)) (by rw [hnl]) hnews
    simpa [Builtin.firstCells] using hf
def xd(P:Program)(g:Nat→Option aj)(t:TypeId)(x:AV)(lo hi:Option AV) :Option (AV×List Bool×List Nat) :=
  match P.underlying t,x with
  | some (.array n e),.ptr b 1 0 0 =>
    match g b,P.info? e,wS hi n,wS lo 0 with
    | some (.ns k xs),some ie,some h,some l =>
      bif Nat.beq ie.size 1 then some (.sl b 1 1 l.toNat (h.toNat-l.toNat) (n-l.toNat),[mw h n,mw l h.toNat,eH n xs.length],[b]) else none
    | _,_,_,_=>none
  | _,_=>none
theorem DM{P:Program}{ρ:ae}{w:World}{hp:aN}{m:Nat}(hh:HR ρ w hp m){e:Operand→AV}{g:Operand→Value}(hops:∀ x,VR ρ w (e x) (g x)){t:TypeId}{x:AV}{x':Value}{lo hi:Option Operand}{v:AV}{obs:List Bool}{rs:List Nat} 
    (hx:VR ρ w x x') (h:xd P (ax hp) t x (lo.map e) (hi.map e)=some (v,obs,rs)) (ho:ak obs):dT P ρ w (Instr.sliceAt t x' (lo.map g) (hi.map g) none) v:=by
  unfold xd at h
  split at h
  case h_2=>cases h
  rename_i n el b hu
  split at h
  case h_2=>cases h
  rename_i k xs ie hh' ll hg hi' e1 e2
  cases hb1:Nat.beq ie.size 1 with
  | false=>rw [hb1] at h;cases h
  | true =>
  rw [hb1] at h
  simp only [cond_true,Option.some.injEq,Prod.mk.injEq] at h
  obtain ⟨rfl,rfl,rfl⟩:=h
  have hsz:ie.size=1:=Nat.eq_of_beq_eq_true hb1
  have b1:=dE ho.1
  have b2:=dE ho.2.1
  have b3:n≤xs.length:=by have:=ho.2.2.1;unfold eH at this;exact of_decide_eq_true this
  have hce:P.cellsOf el=1:=by simp [Program.cellsOf,hi',hsz]
  cases hx with
  | ptr _ _ _ _ hbo =>
  obtain ⟨hl,hr,c,ty,hc,hcv⟩:=hh.real hg hbo
  have hn:n≤c.size:=by
    rcases Nat.eq_zero_or_pos n with z | z
    · omega
    · have hlt:n-1<xs.length:=by omega
      obtain ⟨u,q,_⟩:=hcv (n-1) (.int k (xs[n-1]'hlt)) (by show (xs[n-1]?).map _=_;rw [List.getElem?_eq_getElem hlt];rfl)
      have:=(Array.getElem?_eq_some_iff.1 q).1
      omega
  have run:=eG (P:=P) (w:=w) false n n (lo.map g) (hi.map g) ll hh' (jp hops e2) (jp hops e1) b1 ⟨b2.1,by omega⟩
  have run2:(Instr.sliceAt t (.pointer (some ⟨ρ.at_ b,0*1+0,none⟩)) (lo.map g) (hi.map g) none).run P w=.ok (.slice (some (if n=ll.toNat then ⟨ρ.at_ b,0*1+0,none⟩ else (Addr.add ⟨ρ.at_ b,0*1+0,none⟩ (ll.toNat*P.cellsOf el)))) (hh'.toNat-ll.toNat) (n-ll.toNat)) w:=by
    simp only [Instr.sliceAt,Sem.run_bind,run_underlying hu,Result.andThen]
    simp [Instr.sureAddr,run,run_sizeOf w hi',hce,hsz,Sem.run_bind,Result.andThen,Sem.run_pure,Go.asAddr]
  refine .plain run2 ?_
  by_cases q:n=ll.toNat
  · rw [if_pos q]
    have z1:hh'.toNat-ll.toNat=0:=by omega
    have z2:n-ll.toNat=0:=by omega
    rw [z1,z2]
    exact .slEnd _ _ _ _ _
  · rw [if_neg q,dU,hce]
    have:0*1+0+ll.toNat*1=ll.toNat*1:=by omega
    rw [this]
    exact .sl _ _ _ _ _ _ _ hbo (Nat.le_refl _) (by omega) c ty hc (by omega)
theorem DN{P:Program}{g g':Nat→Option aj}{t:TypeId}{x:AV}{lo hi:Option AV}{r:AV×List Bool×List Nat}(h:xd P g t x lo hi=some r)(hg:∀ b∈r.2.2,g' b=g b) :xd P g' t x lo hi=some r:=by
  unfold xd at h ⊢
  split at h
  case h_2=>cases h
  rename_i n el b hu
  split at h
  case h_2=>cases h
  rename_i k xs ie hh' ll hgb hi' e1 e2
  cases hb1:Nat.beq ie.size 1 with
  | false=>rw [hb1] at h;cases h
  | true =>
  rw [hb1] at h
  simp only [cond_true,Option.some.injEq] at h
  subst h
  have:g' b=some (.ns k xs):=by rw [hg b (by simp)];exact hgb
  simp only [this,hi',e1,e2,hb1,cond_true]
def cx.like:cx→cx→Bool
  | .i k _,.i k' _=>bB k k'
  | .s _,.s _=>true
  | _,_=>false
def cx.same:cx→cx→Bool
  | .i _ n,.i _ m=>n==m
  | .s a,.s b=>decide (a=b)
  | _,_=>false
def cx.fits:TypeDesc→cx→Bool
  | .int _,.i ..=>true
  | .string,.s _=>true
  | _,_=>false
def vC(k:cx) :List cx→Bool
  | []=>true
  | q::l=>k.like q&&vC k l
def zV:List cx→Bool
  | []=>true
  | q::l=>(l.all fun r=>!q.same r)&&zV l
def Lm:AV→Option cx
  | .int k n=>some (.i k n)
  | .str s=>some (.s s)
  | _=>none
def Jb:Value→AV
  | .agg c=>.agg (c.toList.map ct)
  | v=>ct v
def My(cok:Bool)(v:AV)(b:Bool) :AV:=bif cok then .tup [v,.bool true b] else v
def vD(cok:Bool)(k:cx) :List cx→List AV→List mB
  | q::ks,v::vs=>⟨My cok v true,[],[k.same q]⟩::vD cok k ks vs
  | _,_=>[]
def DO(P:Program)(t:TypeId)(x k:AV)(cok:Bool) :List mB :=
  match P.underlying t,x,Lm k with
  | some (.map kt et),.gmap ks vs,some key =>
    match P.underlying kt,(P.info? et).bind (·.zero) with
    | some d,some z=>bif key.fits d&&vC key ks&&zV ks then vD cok key ks vs++[⟨My cok (Jb z) false,[],ks.map fun q=>!key.same q⟩] else []
    | _,_=>[]
  | _,_,_=>[]
theorem jN{k:cx} :∀ {l:List cx},vC k l=true→∀ q∈l,k.like q=true
  | [],_,q,h=>by cases h
  | r::l,h,q,hq=>by
    simp only [vC,Bool.and_eq_true] at h
    rcases List.mem_cons.1 hq with rfl | hq
    · exact h.1
    · exact jN h.2 q hq
theorem E7(ρ:ae)(w:World)(v:Value) :VR ρ w (Jb v) v:=by
  unfold Jb
  split
  · exact .agg _ _ (ph ρ w _)
  · exact kM ρ w v
theorem Jc{ρ:ae}{w:World}{k:AV}{k':Value}{key:cx}(h:VR ρ w k k')(hk:Lm k=some key) :k'=key.val:=by
  unfold Lm at hk
  split at hk
  · cases hk;cases h;rfl
  · cases hk;cases h;rfl
  · cases hk
theorem oR{k q:cx}(h:k.like q=true) :k.same q=true↔q.val=k.val:=by
  cases k with
  | i k n =>
    cases q with
    | i k' m =>
      have:k=k':=by simpa [cx.like,bB] using h
      subst this
      simp only [cx.same,cx.val,beq_iff_eq,Value.int.injEq,true_and]
      exact ⟨fun e=>e.symm,fun e=>e.symm⟩
    | s b=>cases h
  | s a =>
    cases q with
    | i k' m=>cases h
    | s b =>
      simp only [cx.same,cx.val,decide_eq_true_eq,Value.string.injEq]
      exact ⟨fun e=>e.symm,fun e=>e.symm⟩
theorem Ln(a b:ByteArray) :(a==b)=decide (a=b):=by
  have e:(a==b)=(a.data==b.data):=rfl
  rw [e]
  by_cases h:a=b
  · subst h;simp
  · rw [decide_eq_false h]
    have:a.data≠b.data:=fun c=>h (by cases a;cases b;simp at c;subst c;rfl)
    simpa using this
theorem Kq{d:TypeDesc}{k q:cx}(hf:k.fits d=true)(h:k.like q=true) :Instr.sameNow d k.val q.val=some (k.same q):=by
  cases k with
  | i k n =>
    cases q with
    | i k' m =>
      have:k=k':=by simpa [cx.like,bB] using h
      subst this
      cases d<;>first | (cases hf;done) | simp [cx.val,Instr.sameNow,cx.same]
    | s b=>cases h
  | s a =>
    cases q with
    | i k' m=>cases h
    | s b =>
      cases d<;>first | (cases hf;done) | (simp only [cx.val,Instr.sameNow,cx.same,Ln])
theorem pt{d:TypeDesc}{key:cx}(hf:key.fits d=true) :∀ (es:List MapEntry) (i:Nat),(∀ e∈es,∃ q:cx,key.like q=true∧e.key=q.val) →
    (Instr.findNow d key.val es i=some none∧∀ e∈es,e.key≠key.val)∨∃ j e,e∈es∧e.key=key.val∧Instr.findNow d key.val es i=some (some (j,e.val))
  | [],i,_=>.inl ⟨rfl,fun e h=>by cases h⟩
  | e::es,i,h=>by
    obtain ⟨q,hq,he⟩:=h e (by simp)
    have hn:Instr.sameNow d key.val e.key=some (key.same q):=by rw [he];exact Kq hf hq
    cases hs:key.same q with
    | true =>
      refine .inr ⟨i,e,by simp,by rw [he];exact (oR hq).1 hs,?_⟩
      simp only [Instr.findNow,hn,hs]
    | false =>
      have hne:e.key≠key.val:=by rw [he];intro c;rw [(oR hq).2 c] at hs;cases hs
      rcases pt hf es (i+1) (fun e he=>h e (by simp [he])) with ⟨q1,q2⟩ | ⟨j,e',q1,q2,q3⟩
      · refine .inl ⟨by simp only [Instr.findNow,hn,hs];exact q1,fun e' he'=>?_⟩
        rcases List.mem_cons.1 he' with rfl | he'
        · exact hne
        · exact q2 e' he'
      · exact .inr ⟨j,e',by simp [q1],q2,by simp only [Instr.findNow,hn,hs];exact q3⟩
theorem xe{P:Program}{w:World}{kt:TypeId}{d:TypeDesc}(hu:P.underlying kt=some d){key:cx}(hf:key.fits d=true)(b:Bool)(n:Nat) :(Instr.checkKey b (n+1) kt key.val).run P w=.ok () w:=by
  unfold Instr.checkKey
  rw [Sem.run_bind,run_underlying hu]
  cases key<;>cases d<;>first | (cases hf;done) | rfl
theorem pu{cok:Bool}{k:cx} :∀ {ks:List cx} {vs:List AV} {r:mB},r∈vD cok k ks vs→∃ (i:Nat) (q:cx) (v:AV),ks[i]? = some q∧vs[i]? = some v∧r=⟨My cok v true,[],[k.same q]⟩
  | q::ks,v::vs,r,h=>by
    simp only [vD,List.mem_cons] at h
    rcases h with rfl | h
    · exact ⟨0,q,v,rfl,rfl,rfl⟩
    · obtain ⟨i,q',v',h1,h2,h3⟩:=pu h
      exact ⟨i+1,q',v',by simpa using h1,by simpa using h2,h3⟩
  | [],_,r,h=>by cases h
  | _::_,[],r,h=>by cases h
theorem uh:∀ {l:List cx},zV l=true→∀ {i j:Nat} {q r:cx},l[i]? = some q→l[j]? = some r→i<j→q.same r=false
  | [],_,i,j,q,r,h1,_,_=>by simp at h1
  | x::l,hn,i,j,q,r,h1,h2,hlt=>by
    simp only [zV,Bool.and_eq_true,List.all_eq_true,Bool.not_eq_true'] at hn
    cases j with
    | zero=>omega
    | succ j =>
      cases i with
      | zero =>
        simp at h1 h2;subst h1
        exact hn.1 r (List.mem_of_getElem? h2)
      | succ i=>exact uh hn.2 (i:=i) (j:=j) (by simpa using h1) (by simpa using h2) (by omega)
theorem zW{P:Program}{w:World}{t kt et:TypeId}{d:TypeDesc}(ht:P.underlying t=some (.map kt et))(hd:P.underlying kt=some d){bl cl:Nat}{es:Array MapEntry}(hh:w.heap[bl]? = some (.map es cl)){key:cx}(hf:key.fits d=true) 
    {r:Option (Nat×Value)} (hr:Instr.findNow d key.val es.toList 0=some r) {z:Value} (hz:(zeroValue et).run P w=.ok z w) (cok:Bool) :
    (Instr.lookup t (.map (some bl)) key.val cok).run P w=.ok (if cok then .tuple #[(r.map Prod.snd).getD z,.bool r.isSome] else (r.map Prod.snd).getD z) w:=by
  unfold Instr.lookup
  simp only [Sem.run_bind,run_underlying ht,Result.andThen_ok]
  have hg:(getObj bl).run P w=.ok (.map es cl) w:=by simp [getObj,Sem.run,hh]
  simp only [Sem.run_bind,hg,Result.andThen_ok,Sem.run_pure,xe hd hf]
  have hfk:(Instr.findKey kt key.val es.toList).run P w=.ok r w:=by
    unfold Instr.findKey
    simp only [Sem.run_bind,run_underlying hd,Result.andThen_ok,hr]
    rfl
  simp only [hfk,Result.andThen_ok]
  cases r with
  | none=>simp only [Sem.run_bind,hz,Result.andThen_ok,Sem.run_pure];cases cok<;>rfl
  | some p=>obtain ⟨j,v⟩:=p;simp only [Sem.run_bind,Result.andThen_ok,Sem.run_pure];cases cok<;>rfl
theorem BY{P:Program}{ρ:ae}{w:World}{t:TypeId}{x k:AV}{x' k':Value}{cok:Bool}{r:mB}(hx:VR ρ w x x')(hk:VR ρ w k k')(h:r∈DO P t x k cok)(ho:ak r.obs) :
    dT P ρ w (Instr.lookup t x' k' cok) r.v:=by
  unfold DO at h
  split at h
  case h_2=>cases h
  rename_i kt et ks vs key ht hkey
  split at h
  case h_2=>cases h
  rename_i d z hd hz
  cases hb:key.fits d&&vC key ks&&zV ks with
  | false=>rw [hb] at h;cases h
  | true =>
  rw [hb] at h
  simp only [cond_true,List.mem_append,List.mem_singleton] at h
  simp only [Bool.and_eq_true] at hb
  obtain ⟨⟨hf,hl⟩,hn⟩:=hb
  have hkv:=Jc hk hkey
  subst hkv
  cases hx with | gmap _ _ bl es cl u ha hb' hh hin hex hv hlen hkept =>
  simp only [Option.bind_eq_some_iff] at hz
  obtain ⟨inf,hi,hz⟩:=hz
  have hzv:(zeroValue et).run P w=.ok z w:=by simp [zeroValue,typeInfo,hi,hz]
  have hes:∀ e∈es.toList,∃ q:cx,key.like q=true∧e.key=q.val:=fun e he=>by
    obtain ⟨i,q,h1,h2,_⟩:=hin e he
    exact ⟨q,jN hl q (List.mem_of_getElem? h1),h2⟩
  rcases pt hf es.toList 0 hes with ⟨q1,q2⟩ | ⟨j,e,q1,q2,q3⟩
  · have run:=zW ht hd hh hf q1 hzv cok
    rcases h with h | rfl
    · obtain ⟨i,q,v,h1,h2,rfl⟩:=pu h
      obtain ⟨e,he,h3,_⟩:=hex i q h1
      exact absurd (h3.trans ((oR (jN hl q (List.mem_of_getElem? h1))).1 ho.1)) (q2 e he)
    · refine .plain run ?_
      cases cok
      · exact E7 ρ w z
      · exact .tup _ #[_,_] (.cons _ _ _ _ (E7 ρ w z) (.cons _ _ _ _ (.bool _ _) .nil))
  · have run:=zW ht hd hh hf q3 hzv cok
    obtain ⟨i,q,h1,h2,h3⟩:=hin e q1
    have hsame:key.same q=true:=(oR (jN hl q (List.mem_of_getElem? h1))).2 (h2.symm.trans q2)
    rcases h with h | rfl
    · obtain ⟨i',q',v,k1,k2,rfl⟩:=pu h
      have hij:i=i':=by
        have l1:=jN hl q (List.mem_of_getElem? h1)
        have l2:=jN hl q' (List.mem_of_getElem? k1)
        have e1:=(oR l1).1 hsame
        have e2:=(oR l2).1 ho.1
        have lk:∀ {a b:cx},key.like a=true→key.like b=true→a.val=b.val→a.same b=true:=by
          intro a b ha hb e
          cases key<;>cases a<;>cases b<;>simp_all [cx.like,cx.same,cx.val]
        rcases Nat.lt_trichotomy i i' with c | c | c
        · have:=uh hn h1 k1 c
          rw [lk l1 l2 (e1.trans e2.symm)] at this;cases this
        · exact c
        · have:=uh hn k1 h1 c
          rw [lk l2 l1 (e2.trans e1.symm)] at this;cases this
      subst hij
      refine .plain run ?_
      have hvr:VR ρ w v e.val:=by rw [h3];exact hv i v k2
      cases cok
      · exact hvr
      · exact .tup _ #[_,_] (.cons _ _ _ _ hvr (.cons _ _ _ _ (.bool _ _) .nil))
    · exfalso
      have:∀ (l:List cx),ak (l.map fun q=>!key.same q)→∀ q∈l,key.same q=false:=by
        intro l
        induction l with
        | nil=>intro _ q hq;cases hq
        | cons a l ih =>
          intro h q hq
          simp only [List.map_cons,ak,Bool.not_eq_true'] at h
          rcases List.mem_cons.1 hq with rfl | hq
          · exact h.1
          · exact ih h.2 q hq
      have:=this ks ho q (List.mem_of_getElem? h1)
      rw [hsame] at this;cases this
inductive yP where
  | sqrt | bits | frombits | add64 | sub64 | idxb | cntb
def Kr(s:ByteArray)(c:Int) :Int:=match (List.range s.size).find? fun i=>s[i]! == c.toNat.toUInt8 with
  | some i=>(i:Int)
  | none=>-1
def Ks(s:ByteArray)(c:Int) :Int:=s.foldl (fun n x=>if x==c.toNat.toUInt8 then n+1 else n) (0:Int)
def rh:yP→Array Value→Sem Value
  | .sqrt=>Extern.MathSqrt.sqrt
  | .bits=>Extern.MathFloatBits.float64bits
  | .frombits=>Extern.MathFloatBits.float64frombits
  | .add64=>fun args=>do
    let (x, y, c) ← Extern.MathBitsCarry.three "Add64" args
    pure (Extern.MathBitsCarry.pair ((x+y+c)%Extern.MathBitsCarry.m64) ((x+y+c)/Extern.MathBitsCarry.m64))
  | .sub64=>fun args=>do
    let (x, y, b) ← Extern.MathBitsCarry.three "Sub64" args
    pure (Extern.MathBitsCarry.pair ((x+Extern.MathBitsCarry.m64-y-b)%Extern.MathBitsCarry.m64) (if x<y+b then 1 else 0))
  | .idxb=>Extern.BytealgIndexByte.indexByte
  | .cntb=>Extern.BytealgCount.count
def Lo(k:yP)(args:List AV) :List mB :=
  match k,args with
  | .sqrt,[.flt _ x]=>[⟨.flt false (IV x),[],[]⟩]
  | .bits,[.flt true x]=>[⟨.int .u64 x,[],[]⟩]
  | .bits,[.flt false x]=>[⟨.int .u64 x,[],[!isNaN x]⟩,⟨.nan,[],[isNaN x]⟩]
  | .frombits,[.int .u64 n]=>[⟨.flt true n.toNat,[],[]⟩]
  | .add64,[.int _ x,.int _ y,.int _ c]=>[⟨.tup [.int .u64 (((x.toNat+y.toNat+c.toNat)%18446744073709551616:Nat):Int),.int .u64 (((x.toNat+y.toNat+c.toNat)/18446744073709551616:Nat):Int)],[],[eH c.toNat 1]⟩]
  | .sub64,[.int _ x,.int _ y,.int _ c]=>[⟨.tup [.int .u64 (((x.toNat+18446744073709551616-y.toNat-c.toNat)%18446744073709551616:Nat):Int),.int .u64 (bif Nat.blt x.toNat (y.toNat+c.toNat) then 1 else 0)],[],[eH c.toNat 1]⟩]
  | .idxb,[.str s,.int .u8 c]=>[⟨.int .i64 (Kr s c),[],[]⟩]
  | .cntb,[.str s,.int .u8 c]=>[⟨.int .i64 (Ks s c),[],[]⟩]
  | _,_=>[]
abbrev dl:=Option (List Nat)
structure Jd where
  mask:List Bool
  keep:Bool
abbrev dd:=FuncId→List aj→List AV→dl→Option (lX×List Bool×dl)
structure ui where
  P:Program
  ext:FuncId→Option yP
  mode:FuncId→Jd
  wrap:Bool
structure ui.Ok (C:ui):Prop where
  mixed:C.P.follows .mixedOrders=true
  enter:∀ (f:FuncId) (fn:Func) (args:Array Value) (w:World),C.P.funcs[f]? = some fn→fn.body.isSome=true→(callFunc f args).run C.P w=.ok (.enter f args) w
  ext:∀ (f:FuncId) (k:yP) (args:Array Value) (w:World),C.ext f=some k→(callFunc f args).run C.P w=(do pure (Next.value (←rh k args)):Sem Next).run C.P w
def zX(P:Program)(run:dd) :Prop :=
  ∀ f lent args p r obs p',run f lent args p=some (r,obs,p')→ak obs→∀ (ρ:ae) (w:World) (us:List Value),cP ρ w lent→bL ρ w args us →
    (∃ fn,P.funcs[f]? = some fn∧fn.body.isSome=true)∧Calls P f us.toArray w fun e w'=>∃ u,e=.returned u∧ef ρ.live w w'∧r.Holds ρ w w' lent.length u
structure LU where
  v:AV
  sets:List (Nat×Option aj)
  reads:List Nat
  obs:List Bool
  path:dl
def Id:List Bool→Bool
  | []=>true
  | b::l=>b&&Id l
theorem CY:∀ {l:List Bool},Id l=true→ak l
  | [],_=>trivial
  | b::l,h=>by simp only [Id,Bool.and_eq_true] at h;exact ⟨h.1,CY h.2⟩
def sw(alts:List mB)(p:dl) :Option (mB×dl) :=
  match alts,p with
  | [a],p=>some (a,p)
  | alts,none=>(alts.find? fun a=>Id a.obs).map fun a=>(a,none)
  | alts,some (k::r)=>(alts[k]?).map fun a=>(a,some r)
  | _,_=>none
theorem nM{alts:List mB}{p p':dl}{a:mB}(h:sw alts p=some (a,p')) :a∈alts:=by
  unfold sw at h
  split at h
  · simp only [Option.some.injEq,Prod.mk.injEq] at h;rw [←h.1];simp
  · simp only [Option.map_eq_some_iff,Prod.mk.injEq] at h;obtain ⟨b,h1,rfl,_⟩:=h;exact List.mem_of_find?_eq_some h1
  · simp only [Option.map_eq_some_iff,Prod.mk.injEq] at h;obtain ⟨b,h1,rfl,_⟩:=h;exact List.mem_of_getElem? h1
  · cases h
def du:Nat:=100000
mutual
def DP:AV→List Nat
  | .ptr b ..=>[b]
  | .sl b ..=>[b]
  | .fn _ l1 l2=>dF l1++dF l2
  | .agg l | .tup l=>dF l
  | .iface _ v=>DP v
  | _=>[]
def dF:List AV→List Nat
  | []=>[]
  | v::l=>DP v++dF l
end
def Kt:aj→List Nat
  | .vs l=>dF l
  | _=>[]
def pv:List Nat→Nat→Bool
  | [],_=>false
  | k::l,b=>bif Nat.beq k b then true else pv l b
def jr(g:Nat→Option aj) :Nat→List Nat→List Nat→List Nat
  | 0,_,acc=>acc
  | _+1,[],acc=>acc
  | n+1,b::t,acc=>match pv acc b with
    | true=>jr g n t acc
    | false=>jr g n ((match g b with | some d=>Kt d | none=>[])++t) (acc++[b])
def jW:List Bool→List AV→List AV
  | true::m,v::l=>v::jW m l
  | false::m,_::l=>jW m l
  | _,_=>[]
def eJ(σ:Nat→Option Nat)(g:Nat→Option aj) :List Bool→List AV→List AV×List Nat
  | _,[]=>([],[])
  | true::m,v::l=>let s:=eJ σ g m l;(zr σ v::s.1,s.2)
  | false::m,v::l=>let r:=xb σ g du v;let s:=eJ σ g m l;(r.1::s.1,r.2++s.2)
  | [],v::l=>let r:=xb σ g du v;let s:=eJ σ g [] l;(r.1::s.1,r.2++s.2)
theorem nN{ρ τ:ae}{w:World}{h:aN}{m:Nat}{σ:Nat→Option Nat}(hh:HR ρ w h m)(L:E4 ρ τ w h σ) :∀ (k:List Bool) {l:List AV} {c:List Value},bL ρ w l c→bL τ w (eJ σ (ax h) k l).1 c
  | k,[],c,hv=>by cases hv;cases k<;>exact .nil
  | true::k,v::l,c,hv=>by cases hv with | cons _ u _ c' h1 h2=>exact .cons _ _ _ _ (fc L h1) (nN hh L k h2)
  | false::k,v::l,c,hv=>by cases hv with | cons _ u _ c' h1 h2=>exact .cons _ _ _ _ (DK hh L _ h1) (nN hh L k h2)
  | [],v::l,c,hv=>by cases hv with | cons _ u _ c' h1 h2=>exact .cons _ _ _ _ (DK hh L _ h1) (nN hh L [] h2)
def px:List Nat→Bool
  | []=>true
  | k::l=>bif pv l k then false else px l
def jX(g:Nat→Option aj)(nid:Nat) :List Nat→Bool
  | []=>true
  | b::l=>(match g b with | some _=>Nat.blt b nid||Nat.ble (nid+lJ) b | none=>false)&&jX g nid l
theorem uj:∀ {l:List Nat} {i b:Nat},l[i]? = some b→pv l b=true
  | [],i,b,h=>by simp at h
  | k::l,0,b,h=>by simp at h;subst h;simp [pv,jS]
  | k::l,i+1,b,h=>by
    simp only [pv]
    cases Nat.beq k b with
    | true=>rfl
    | false=>simp only [cond_false];exact uj (i:=i) (by simpa using h)
theorem py:∀ {l:List Nat},px l=true→∀ {i j b:Nat},l[i]? = some b→l[j]? = some b→i=j
  | [],_,i,j,b,h1,_=>by simp at h1
  | k::l,hn,i,j,b,h1,h2=>by
    simp only [px] at hn
    cases e:pv l k with
    | true=>rw [e] at hn;cases hn
    | false =>
      rw [e] at hn;simp only [cond_false] at hn
      cases i with
      | zero =>
        cases j with
        | zero=>rfl
        | succ j=>simp at h1 h2;subst h1;rw [uj h2] at e;cases e
      | succ i =>
        cases j with
        | zero=>simp at h1 h2;subst h2;rw [uj h1] at e;cases e
        | succ j=>have:=py hn (i:=i) (j:=j) (b:=b) (by simpa using h1) (by simpa using h2);omega
theorem oj{g:Nat→Option aj}{nid:Nat} :∀ {l:List Nat},jX g nid l=true→∀ b,b∈l→(∃ d,g b=some d)∧(b<nid∨nid+lJ≤b)
  | [],_,b,hb=>by cases hb
  | k::l,h,b,hb=>by
    simp only [jX,Bool.and_eq_true] at h
    rcases List.mem_cons.1 hb with rfl | q
    · have:=h.1
      cases e:g b with
      | none=>rw [e] at this;cases this
      | some d =>
        rw [e] at this
        simp only [Bool.or_eq_true] at this
        refine ⟨⟨d,rfl⟩,this.imp (fun q=>by simpa [Nat.blt_eq] using q) (fun q=>Nat.le_of_ble_eq_true q)⟩
    · exact oj h.2 b q
def vE(e:Operand→AV)(f:Operand)(args:Array Operand) :Option (FuncId×List AV) :=
  match e f with
  | .fn (.func fid) first caps=>some (fid,first++args.toList.map e++caps)
  | _=>none
def CZ(C:ui)(run:dd)(g:Nat→Option aj)(nid:Nat)(p:dl)(fid:FuncId)(vals:List AV) :Option LU :=
  let bs:=jr g du (dF (jW (C.mode fid).mask vals)) []
  let la:=eJ (hU bs 0) g (C.mode fid).mask vals
  bif px bs&&jX g nid bs then
    match run fid (lY (hU bs 0) g bs) la.1 p with
    | some (r,obs,p') =>
      bif Nat.ble r.own.length (bs.length+lJ) then
        some { v:=jq (co bs nid) r.v,sets:=eI (co bs nid) 0 r.own,reads:=bs++la.2,obs,path:=p' }
      else none
    | none=>none
  else none
def Lp(C:ui)(run:dd)(e:Operand→AV)(g:Nat→Option aj)(nid:Nat)(p:dl)(op:Op) :Option LU :=
  match wT C.wrap C.P e op with
  | some (v,obs)=>some { v,sets:=[],reads:=[],obs,path:=p }
  | none =>
    match op with
    | .load t x=>(vp C.P g t (e x)).map fun r=>{ v:=r.1,sets:=[],reads:=r.2.2,obs:=r.2.1,path:=p }
    | .convert t d x=>(Ic C.P g t d (e x)).map fun r=>{ v:=.str r.1,sets:=[],reads:=r.2.2,obs:=r.2.1,path:=p }
    | .slice t x lo hi none=>(xd C.P g t (e x) (lo.map e) (hi.map e)).map fun r=>{ v:=r.1,sets:=[],reads:=r.2.2,obs:=r.2.1,path:=p }
    | .store t x v=>(wW C.P g t (e x) (e v)).map fun r=>{ v:=.any,sets:=[(r.1,some r.2.1)],reads:=[r.1],obs:=r.2.2,path:=p }
    | .lookup t x k cok=>(sw (DO C.P t (e x) (e k) cok) p).map fun r=>{ v:=r.1.v,sets:=[],reads:=[],obs:=r.1.obs,path:=r.2 }
    | .alloc t=>(Gd C.P nid t).map fun r=>{ v:=r.1,sets:=[(nid,some r.2)],reads:=[],obs:=[],path:=p }
    | .box t x=>(Lk C.P nid t (e x)).map fun r=>{ v:=r.1,sets:=[(nid,some r.2)],reads:=[],obs:=[],path:=p }
    | .makeSlice t l c=>(I4 C.P nid t (e l) (e c)).map fun r=>{ v:=r.1,sets:=[(nid,some r.2.1)],reads:=[],obs:=r.2.2,path:=p }
    | .build t parts=>(Gg C.P t (parts.toList.map fun x=>(x.1,e x.2))).map fun v=>{ v,sets:=[],reads:=[],obs:=[],path:=p }
    | .buildSlice t len parts=>(rc C.P nid t len (parts.toList.map fun x=>(x.1,e x.2))).map fun r=>{ v:=r.1,sets:=[(nid,some r.2)],reads:=[],obs:=[],path:=p }
    | .call { callee:=.builtin .append,args,argTypes } =>
      match args.toList,argTypes.toList with
      | [s,x],[t,t']=>bif Nat.beq t t' then
          match so C.P g nid t (e s) (e x) with
          | some (alts,rs)=>(sw alts p).map fun r=>{ v:=r.1.v,sets:=r.1.sets,reads:=rs,obs:=r.1.obs,path:=r.2 }
          | none=>none
        else match su C.P g nid t t' (e s) (e x) with
          | some (alts,rs)=>(sw alts p).map fun r=>{ v:=r.1.v,sets:=r.1.sets,reads:=rs,obs:=r.1.obs,path:=r.2 }
          | none=>none
      | _,_=>none
    | .call { callee:=.builtin .copy,args,argTypes } =>
      match args.toList,argTypes.toList with
      | [s,x],[t,_]=>(CX C.P g t (e s) (e x)).map fun r=>{ v:=.int .i64 (r.1:Int),sets:=[(r.2.1,some r.2.2.1)],reads:=r.2.2.2.2,obs:=r.2.2.2.1,path:=p }
      | _,_=>none
    | .call { callee:=.value f,args,.. } =>
      match vE e f args with
      | some (fid,l) =>
        match C.ext fid with
        | some k=>(sw (Lo k l) p).map fun r=>{ v:=r.1.v,sets:=[],reads:=[],obs:=r.1.obs,path:=r.2 }
        | none=>CZ C run g nid p fid l
      | none=>none
    | _=>none
theorem E8{x:Nat}(h:isNaN x=true) :FloatKind.f64.format.sqrt x=none:=by
  obtain ⟨s,t,e⟩:=qZ h
  simp [Ieee.Format.sqrt,e,Ieee.Datum.root]
theorem zY{ρ:ae}{w:World}{k1 k2 k3:IntKind}{x y z:Int}{c:Array Value}(hl:bL ρ w [.int k1 x,.int k2 y,.int k3 z] c.toList) :c = #[.int k1 x,.int k2 y,.int k3 z]:=by
  have h:c.toList=[.int k1 x,.int k2 y,.int k3 z]:=by
    generalize c.toList=l at hl
    cases hl with | cons _ u1 _ _ h1 t1 =>
    cases t1 with | cons _ u2 _ _ h2 t2 =>
    cases t2 with | cons _ u3 _ _ h3 t3 =>
    cases t3;cases h1;cases h2;cases h3;rfl
  rw [←c.toArray_toList,h]
theorem C1{P:Program}{w:World}(name:String){k1 k2 k3:IntKind}{x y z:Int}(hz:z.toNat≤1) :(Extern.MathBitsCarry.three name #[.int k1 x,.int k2 y,.int k3 z]).run P w=.ok (x.toNat,y.toNat,z.toNat) w:=by
  have e:Extern.MathBitsCarry.three name #[.int k1 x,.int k2 y,.int k3 z]=(do
      if z.toNat > 1 then unsupported (.noEntry ("extern/math/bits." ++ name ++ ": a carry that is neither 0 nor 1"))
      pure (x.toNat,y.toNat,z.toNat):Sem (Nat×Nat×Nat)):=rfl
  rw [e,if_neg (by omega)]
  rfl
theorem Gn{P:Program}{ρ:ae}{w:World}{k:yP}{l:List AV}{c:Array Value}{r:mB}(hl:bL ρ w l c.toList)(h:r∈Lo k l)(ho:ak r.obs) :dT P ρ w (rh k c) r.v:=by
  have one:∀ {a:AV},bL ρ w [a] c.toList→∃ u,c = #[u]∧VR ρ w a u:=by
    intro a h
    generalize hc:c.toList=l at h
    cases h with | cons _ u _ _ h1 h2=>cases h2;exact ⟨u,by rw [←hc],h1⟩
  unfold Lo at h
  split at h
  · simp only [List.mem_singleton] at h;subst h
    obtain ⟨u,rfl,hu⟩:=one hl
    cases hu with | flt _ _ y hf =>
    rename_i ex x
    have es:rh .sqrt #[.float .f64 y]=(match FloatKind.f64.format.sqrt y with
      | some r=>pure (.float .f64 r)
      | none=>do pure (.float .f64 (←choose (.nanBits .f64 y y)))):=rfl
    rw [es]
    have e:FloatKind.f64.format.sqrt y=FloatKind.f64.format.sqrt x:=by
      rcases hf with rfl | ⟨_,h2,h3⟩
      · rfl
      · rw [E8 h2,E8 h3]
    cases hr:FloatKind.f64.format.sqrt y with
    | some r=>exact ⟨.float .f64 r,w.drawn,rfl,.flt _ _ _ (.inl (by rw [e] at hr;simp [IV,hr]))⟩
    | none=>exact ⟨_,w.drawn+1,rfl,.flt _ _ _ (.inr ⟨rfl,by rw [e] at hr;simp [IV,hr,zB],Hb y y _⟩)⟩
  · simp only [List.mem_singleton] at h;subst h
    obtain ⟨u,rfl,hu⟩:=one hl
    cases hu with | flt _ _ y hf =>
    rcases hf with rfl | ⟨h1,_⟩
    · exact ⟨_,w.drawn,rfl,.int _ _⟩
    · cases h1
  · simp only [List.mem_cons,List.not_mem_nil,or_false] at h
    obtain ⟨u,rfl,hu⟩:=one hl
    cases hu with | flt _ _ y hf =>
    rcases h with rfl | rfl
    · rcases hf with rfl | ⟨_,h2,_⟩
      · exact ⟨_,w.drawn,rfl,.int _ _⟩
      · have:=ho.1;rw [h2] at this;cases this
    · have hy:isNaN y=true:=by
        rcases hf with rfl | ⟨_,_,h3⟩
        · exact ho.1
        · exact h3
      exact ⟨_,w.drawn,rfl,.nan _ hy⟩
  · simp only [List.mem_singleton] at h;subst h
    obtain ⟨u,rfl,hu⟩:=one hl
    cases hu
    exact ⟨_,w.drawn,rfl,.flt _ _ _ (.inl rfl)⟩
  · simp only [List.mem_singleton] at h;subst h
    have hz:=ho.1
    replace hz:=of_decide_eq_true hz
    cases zY hl
    refine ⟨_,w.drawn,?_,.tup _ #[_,_] (.cons _ _ _ _ (.int _ _) (.cons _ _ _ _ (.int _ _) .nil))⟩
    simp only [rh, Sem.run_bind, C1 "Add64" hz, Result.andThen_ok]
    rfl
  · simp only [List.mem_singleton] at h;subst h
    have hz:=ho.1
    replace hz:=of_decide_eq_true hz
    cases zY hl
    refine ⟨_,w.drawn,?_,.tup _ #[_,_] (.cons _ _ _ _ (.int _ _) (.cons _ _ _ _ (.int _ _) .nil))⟩
    simp only [rh, Sem.run_bind, C1 "Sub64" hz, Result.andThen_ok]
    rename_i x _ y _ z
    have e:(bif Nat.blt x.toNat (y.toNat+z.toNat) then (1:Int) else 0)=Int.ofNat (if x.toNat<y.toNat+z.toNat then 1 else 0):=by
      by_cases q:x.toNat<y.toNat+z.toNat
      · rw [if_pos q,show Nat.blt x.toNat (y.toNat+z.toNat)=true by rw [Nat.blt_eq];exact q];rfl
      · rw [if_neg q]
        have:Nat.blt x.toNat (y.toNat+z.toNat)=false:=by
          cases h:Nat.blt x.toNat (y.toNat+z.toNat) with
          | false=>rfl
          | true=>rw [Nat.blt_eq] at h;exact absurd h q
        rw [this];rfl
    rw [e]
    rfl
  · simp only [List.mem_singleton] at h;subst h
    rename_i s b
    obtain ⟨u,rfl⟩:∃ u,c=u:=⟨c,rfl⟩
    have hc:c = #[.string s,.int .u8 b]:=by
      have h:c.toList=[.string s,.int .u8 b]:=by
        generalize c.toList=l at hl
        cases hl with | cons _ u1 _ _ h1 t1 =>
        cases t1 with | cons _ u2 _ _ h2 t2 =>
        cases t2;cases h1;cases h2;rfl
      rw [←c.toArray_toList,h]
    subst hc
    refine ⟨.int .i64 (Kr s b),w.drawn,?_,.int _ _⟩
    have e:rh .idxb #[.string s,.int .u8 b]=(match (List.range s.size).find? fun i=>s[i]! == b.toNat.toUInt8 with
      | some i=>pure (goInt i)
      | none=>pure (goInt (-1))):=rfl
    rw [e]
    unfold Kr
    cases (List.range s.size).find? fun i=>s[i]! == b.toNat.toUInt8<;>rfl
  · simp only [List.mem_singleton] at h;subst h
    rename_i s b
    have hc:c = #[.string s,.int .u8 b]:=by
      have h:c.toList=[.string s,.int .u8 b]:=by
        generalize c.toList=l at hl
        cases hl with | cons _ u1 _ _ h1 t1 =>
        cases t1 with | cons _ u2 _ _ h2 t2 =>
        cases t2;cases h1;cases h2;rfl
      rw [←c.toArray_toList,h]
    subst hc
    refine ⟨.int .i64 (Ks s b),w.drawn,?_,.int _ _⟩
    have e:rh .cntb #[.string s,.int .u8 b]=(do
      let b' ← Extern.Bytes.bytesOf (.string s)
      let c ← Extern.Bytes.asByte (.int .u8 b)
      pure (goInt (b'.foldl (fun n x=>if x==c then n+1 else n) (0:Nat)))):=rfl
    rw [e]
    simp [Extern.Bytes.bytesOf,Extern.Bytes.asByte,Sem.run_bind,Sem.run_pure,goInt,Ks]
  · simp at h
theorem Ie{C:ui}(hC:C.Ok){run:dd}(hrun:zX C.P run){e:Operand→AV}{h:aN}{nid:Nat}{p:dl}{o:Oper}{r:LU}(hr:Lp C run e (ax h) nid p o.op=some r)(ho:ak r.obs) 
    {ρ:ae} {w:World} {n:Nat} (hh:HR ρ w h n) (hid:∀ x,nid≤x→x<nid+lJ→¬ ρ.ok x) (hn0:nid+lJ≤n) {a:Act} (hops:∀ x,VR ρ w (e x) (a.eval x)) {next:Act→World→Prop} {Q:Exit→Act→World→Prop}
    (hK:∀ ρ' w' u,jn ρ ρ' w→ef ρ.live w w'→HR ρ' w' (bu r.sets h) n→VR ρ' w' r.v u→(∀ b,ρ'.ok b→ρ.ok b∨(nid≤b∧b<nid+lJ))→next (a.put o.dst u) w'):o.wp C.P a w next Q:=by
  have hS:0<lJ:=by decide
  have hb : ¬ ρ.ok nid:=hid nid (Nat.le_refl _) (by omega)
  have hn:nid<n:=by omega
  have one:∀ {b:Nat},b=nid→nid≤b∧b<nid+lJ:=fun e=>by omega
  have plain:∀ {v:AV},(∃ u k,(execOp a.eval o).run C.P w=.ok (.value u) { w with drawn:=k }∧VR ρ w v u)→r.v=v→r.sets=[]→o.wp C.P a w next Q:=by
    intro v ⟨u,k,h1,h2⟩ hv hs
    unfold Oper.wp
    rw [h1]
    have E:=jn.refl ρ w
    have W:=ef.drawn ρ.live w k
    exact hK ρ _ u E W (by rw [hs];exact hh.drawn k) (by rw [hv];exact h2.mono E W) (fun b q=>.inl q)
  have made:∀ {s:Sem Value} {v:AV} {h':aN},(execOp a.eval o).run C.P w=(do pure (Next.value (←s)):Sem Next).run C.P w→qf C.P ρ w h n nid s v h'→r.v=v→bu r.sets h=h'→o.wp C.P a w next Q:=by
    intro s v h' he ⟨u,w',ρ',h1,h2,h3,h4,h5,h6⟩ hv hs
    unfold Oper.wp
    rw [he,bg h1]
    exact hK ρ' w' u h2 h3 (by rw [hs];exact h4) (by rw [hv];exact h5) (fun b q=>(h6 b q).imp id one)
  unfold Lp at hr
  split at hr
  · rename_i v obs hp
    simp only [Option.some.injEq] at hr;subst hr
    exact plain (Dv hops hp ho) rfl rfl
  · rename_i hpo
    clear hpo
    generalize hop:o.op=op at hr
    split at hr
    · rename_i t x
      simp only [Option.map_eq_some_iff] at hr
      obtain ⟨⟨v,obs,rs⟩,hl,rfl⟩:=hr
      obtain ⟨u,k,h1,h2⟩:=EP (P:=C.P) hh (hops x) hl ho
      exact plain ⟨u,k,by simp only [execOp,hop];exact bg h1,h2⟩ rfl rfl
    · rename_i t d x
      simp only [Option.map_eq_some_iff] at hr
      obtain ⟨⟨z,obs,rs⟩,hc,rfl⟩:=hr
      exact plain ⟨.string z,w.drawn,by simp only [execOp,hop];exact bg (Gm hh (hops x) hc ho),.str _⟩ rfl rfl
    · rename_i t x lo hi
      simp only [Option.map_eq_some_iff] at hr
      obtain ⟨⟨v,obs,rs⟩,hc,rfl⟩:=hr
      obtain ⟨u,k,q1,q2⟩:=DM (P:=C.P) hh hops (hops x) hc ho
      exact plain ⟨u,k,by simp only [execOp,hop];exact bg q1,q2⟩ rfl rfl
    · rename_i t x v
      simp only [Option.map_eq_some_iff] at hr
      obtain ⟨⟨b,d,obs⟩,hl,rfl⟩:=hr
      obtain ⟨w',h1,h2,h3⟩:=Dw (P:=C.P) hh (hops x) (hops v) hl ho
      unfold Oper.wp
      have:(execOp a.eval o).run C.P w=.ok .skip w':=by
        simp only [execOp,hop];rw [Sem.run_bind,h1];rfl
      rw [this]
      exact hK ρ w' undef (jn.refl _ _) h3 h2 (.any _) (fun b q=>.inl q)
    · rename_i t x k cok
      simp only [Option.map_eq_some_iff] at hr
      obtain ⟨⟨a,_⟩,hl,rfl⟩:=hr
      obtain ⟨u,kk,q1,q2⟩:=BY (P:=C.P) (hops x) (hops k) (nM hl) ho
      exact plain ⟨u,kk,by simp only [execOp,hop];exact bg q1,q2⟩ rfl rfl
    · rename_i t
      simp only [Option.map_eq_some_iff] at hr
      obtain ⟨⟨v,d⟩,hl,rfl⟩:=hr
      exact made (by simp only [execOp,hop]) (Dz hh hb hn hl true) rfl rfl
    · rename_i t x
      simp only [Option.map_eq_some_iff] at hr
      obtain ⟨⟨v,d⟩,hl,rfl⟩:=hr
      exact made (by simp only [execOp,hop]) (Ge hh hb hn (hops x) hl) rfl rfl
    · rename_i t l c
      simp only [Option.map_eq_some_iff] at hr
      obtain ⟨⟨v,d,obs⟩,hl,rfl⟩:=hr
      exact made (by simp only [execOp,hop]) (ER hh hb hn (hops l) (hops c) hl ho) rfl rfl
    · rename_i t parts
      simp only [Option.map_eq_some_iff] at hr
      obtain ⟨v,hl,rfl⟩:=hr
      have h1:(parts.toList.map fun x=>(x.1,e x.2)).map Prod.fst=(parts.map fun (x:Nat×Operand)=>(x.1,a.eval x.2)).toList.map Prod.fst:=by simp
      have h2:bL ρ w ((parts.toList.map fun x=>(x.1,e x.2)).map Prod.snd) ((parts.map fun (x:Nat×Operand)=>(x.1,a.eval x.2)).toList.map Prod.snd):=by
        have:=bL.map hops (parts.toList.map Prod.snd)
        simpa [Function.comp_def] using this
      obtain ⟨u,k,q1,q2⟩:=DE (P:=C.P) h1 h2 hl
      exact plain ⟨u,k,by simp only [execOp,hop];exact bg q1,q2⟩ rfl rfl
    · rename_i t len parts
      simp only [Option.map_eq_some_iff] at hr
      obtain ⟨⟨v,d⟩,hl,rfl⟩:=hr
      have h1:(parts.toList.map fun x=>(x.1,e x.2)).map Prod.fst=(parts.map fun (x:Nat×Operand)=>(x.1,a.eval x.2)).toList.map Prod.fst:=by simp
      have h2:bL ρ w ((parts.toList.map fun x=>(x.1,e x.2)).map Prod.snd) ((parts.map fun (x:Nat×Operand)=>(x.1,a.eval x.2)).toList.map Prod.snd):=by
        have:=bL.map hops (parts.toList.map Prod.snd)
        simpa [Function.comp_def] using this
      exact made (by simp only [execOp,hop]) (vv hh hb hn h1 h2 hl) rfl rfl
    · rename_i args argTypes
      split at hr
      case h_2=>cases hr
      rename_i s x t t' e1 e2
      cases ht:Nat.beq t t' with
      | false =>
        rw [ht] at hr
        simp only [cond_false] at hr
        split at hr
        case h_2=>cases hr
        rename_i alts rs ha
        simp only [Option.map_eq_some_iff] at hr
        obtain ⟨⟨alt,p'⟩,hp,rfl⟩:=hr
        have ea:args = #[s,x]:=by rw [←e1]
        have et:argTypes = #[t,t']:=by rw [←e2]
        subst ea;subst et
        have hm:=BW hh hb hn (hops s) (hops x) ha (nM hp) ho o.type
        refine made (s:=Builtin.append_ #[t,t'] o.type #[a.eval s,a.eval x]) ?_ hm rfl rfl
        simp only [execOp,hop]
        rw [dA a.eval .append #[s,x] #[t,t'] o.type _ rfl]
        simp [invoke,builtin]
      | true =>
      rw [ht] at hr
      have:=Nat.eq_of_beq_eq_true ht
      subst this
      simp only [cond_true] at hr
      split at hr
      case h_2=>cases hr
      rename_i alts rs ha
      simp only [Option.map_eq_some_iff] at hr
      obtain ⟨⟨alt,p'⟩,hp,rfl⟩:=hr
      have ea:args = #[s,x]:=by rw [←e1]
      have et:argTypes = #[t,t]:=by rw [←e2]
      subst ea;subst et
      have hm:=BV hh hb hn (hops s) (hops x) ha (nM hp) ho o.type
      refine made (s:=Builtin.append_ #[t,t] o.type #[a.eval s,a.eval x]) ?_ hm rfl rfl
      simp only [execOp,hop]
      rw [dA a.eval .append #[s,x] #[t,t] o.type _ rfl]
      simp [invoke,builtin]
    · rename_i args argTypes
      split at hr
      case h_2=>cases hr
      rename_i s x t t' e1 e2
      simp only [Option.map_eq_some_iff] at hr
      obtain ⟨⟨k,b,d,obs,rs⟩,hc,rfl⟩:=hr
      have ea:args = #[s,x]:=by rw [←e1]
      have et:argTypes = #[t,t']:=by rw [←e2]
      subst ea;subst et
      obtain ⟨w',h1,h2,h3⟩:=E6 (P:=C.P) (T:=o.type) (t':=t') hh (hops s) (hops x) hc ho
      refine made (s:=Builtin.copy_ #[t,t'] o.type #[a.eval s,a.eval x]) ?_ ⟨_,w',ρ,h1,jn.refl _ _,h3,h2,.int _ _,fun b q=>.inl q⟩ rfl rfl
      simp only [execOp,hop]
      rw [dA a.eval .copy #[s,x] #[t,t'] o.type _ rfl]
      simp [invoke,builtin]
    · rename_i f args ats
      split at hr
      case h_2=>cases hr
      rename_i fid l hca
      unfold vE at hca
      split at hca
      case h_2=>cases hca
      rename_i fid' first caps hef
      simp only [Option.some.injEq,Prod.mk.injEq] at hca
      obtain ⟨rfl,rfl⟩:=hca
      have hf:=hops f
      rw [hef] at hf
      generalize hgf:a.eval f=gf at hf
      cases hf with | fn _ _ _ c1 c2 v1 v2 =>
      have hargs:bL ρ w (first++args.toList.map e++caps) (c1++args.map a.eval++c2).toList:=by
        simp only [Array.toList_append,Array.toList_map]
        exact bL.append v2 (bL.append (bL.map hops args.toList) v1)
      have hex:∀ w0,(execOp a.eval o).run C.P w0=(callFunc fid' (c1++args.map a.eval++c2)).run C.P w0:=by
        intro w0
        simp only [execOp,hop,resolve,hgf,Deferred.ofValue]
        rfl
      split at hr
      · rename_i k hk
        simp only [Option.map_eq_some_iff] at hr
        obtain ⟨⟨a,_⟩,hl,rfl⟩:=hr
        obtain ⟨u,kk,q1,q2⟩:=Gn (P:=C.P) hargs (nM hl) ho
        refine plain ⟨u,kk,?_,q2⟩ rfl rfl
        rw [hex,hC.ext fid' k _ w hk]
        exact bg q1
      · unfold CZ at hr
        simp only at hr
        generalize hbs:jr (ax h) du (dF (jW (C.mode fid').mask (first++args.toList.map e++caps))) []=bs at hr
        cases hlen:(px bs&&jX (ax h) nid bs) with
        | false=>rw [hlen] at hr;cases hr
        | true =>
        rw [hlen] at hr
        simp only [cond_true] at hr
        rw [Bool.and_eq_true] at hlen
        split at hr
        case h_2=>cases hr
        rename_i r' obs p' hl
        cases hle:Nat.ble r'.own.length (bs.length+lJ) with
        | false=>rw [hle] at hr;cases hr
        | true =>
        rw [hle] at hr
        simp only [cond_true,Option.some.injEq] at hr;subst hr
        have hLs:E5 h bs:=⟨fun q1 q2=>py hlen.1 q1 q2,fun b q=>(oj hlen.2 b q).1⟩
        have L:=Hm hh hLs
        have hcall:=hrun fid' _ _ p r' obs p' hl ho
        obtain ⟨⟨fn,hfn,hbody⟩,hcalls⟩:=hcall (ρ.lend bs) w _ (Gl hh hLs) (nN hh L _ hargs)
        unfold Oper.wp
        rw [hex,hC.enter fid' fn _ w hfn hbody]
        simp only [Oper.upon]
        have hl2:(c1++args.map a.eval++c2).toList.toArray=c1++args.map a.eval++c2:=by simp
        rw [hl2] at hcalls
        refine hcalls.mono ?_
        rintro e' w' ⟨u,rfl,W,ρ',E,hbk,H,hv⟩
        rw [lm] at hbk
        obtain ⟨q1,q2,q3,q4,q5⟩:=Ja hh hLs hid (fun b q=>(oj hlen.2 b q).2) hn0 (Nat.le_of_ble_eq_true hle) W E hbk H hv
        exact hK _ w' u q1 q2 q3 q4 q5
    · cases hr
structure sx where
  v:AV
  sets:List (Nat×Option aj)
  reads:List Nat
def sy(ops:Array Oper)(j:Nat) :Option Nat:=(ops[j]?).bind (·.dst)
def sA(ops:Array Oper)(o:Oper)(T:List AV) :Option Bool :=
  match o.guard with
  | none=>some true
  | some (j,want) =>
    match sy ops j with
    | none=>some false
    | some d =>
      match T[d]? with
      | some (.bool true b)=>some (b==want)
      | some (.tup _) | none=>some false
      | _=>none
def Hp(ops:Array Oper)(i:Nat) :Bool:=ops.toList.any fun o=>match o.guard with | some (j,_)=>Nat.beq j i | none=>false
def zt(v:AV)(p:dl) :Option (Bool×List Bool×dl) :=
  match v,p with
  | .bool true b,p=>some (b,[],p)
  | .bool false b,none=>some (b,[],none)
  | .bool false b,some (k::r)=>some (Nat.beq k 1,[b==Nat.beq k 1],some r)
  | _,_=>none
theorem zZ{ρ:ae}{w:World}{v:AV}{u:Value}{p p':dl}{b:Bool}{obs:List Bool}(hv:VR ρ w v u)(h:zt v p=some (b,obs,p'))(ho:ak obs) :u=.bool b:=by
  unfold zt at h
  split at h
  · simp only [Option.some.injEq,Prod.mk.injEq] at h;obtain ⟨rfl,rfl,rfl⟩:=h;cases hv;rfl
  · simp only [Option.some.injEq,Prod.mk.injEq] at h;obtain ⟨rfl,rfl,rfl⟩:=h;cases hv;rfl
  · simp only [Option.some.injEq,Prod.mk.injEq] at h;obtain ⟨rfl,rfl,rfl⟩:=h;cases hv
    have:=ho.1
    simp only [beq_iff_eq] at this
    rw [this]
  · cases h
def yr(ops:Array Oper)(i:Nat)(v:AV)(p:dl) :Option (AV×List Bool×dl) :=
  bif Hp ops i then (zt v p).map fun r=>(.bool true r.1,r.2.1,r.2.2) else some (v,[],p)
def vF(C:ui)(run:dd)(ops:Array Oper)(n0 i:Nat)(o:Oper)(T:List AV)(h:aN)(p:dl) :Option (sx×List Bool×dl) :=
  match sA ops o T with
  | none=>none
  | some false=>some ({ v:=.tup [],sets:=[],reads:=[] },[],p)
  | some true =>
    match Lp C run (Kl T) (ax h) (n0+i*lJ) p o.op with
    | none=>none
    | some r =>
      match yr ops i r.v r.path with
      | none=>none
      | some (v,obs,p')=>some ({ v,sets:=r.sets,reads:=r.reads },r.obs++obs,p')
def vG(T:List AV)(d:Option Nat)(v:AV) :List AV :=
  match d with
  | some d=>T.set d v
  | none=>T
theorem Hq{ρ:ae}{w:World}{T:List AV}{a:Act}{v:AV}{u:Value}(h:bL ρ w T a.tmps.toList)(hv:VR ρ w v u)(d:Option Nat) :bL ρ w (vG T d v) (a.put d u).tmps.toList:=by
  cases d with
  | none=>exact h
  | some d=>simp only [vG,Act.put,Array.toList_setIfInBounds];exact h.set hv d
theorem vH{ρ:ae}{w:World}{ops:Array Oper}{o:Oper}{T:List AV}{a:Act}(h:bL ρ w T a.tmps.toList){b:Bool}(hw:sA ops o T=some b) :Region.wanted o (yielded ops a.tmps)=b:=by
  unfold sA at hw
  unfold Region.wanted
  split at hw
  · rename_i hg;cases hw;simp [hg]
  · rename_i j want hg
    simp only [hg]
    unfold sy at hw
    split at hw
    · rename_i hs;cases hw;simp [yielded,hs]
    · rename_i d hs
      split at hw
      · rename_i b' hT
        cases hw
        obtain ⟨u,h1,h2⟩:=h.get d _ hT
        rw [Array.getElem?_toList] at h1
        cases h2
        simp only [yielded,hs,Option.bind_some,h1]
        cases b'<;>cases want<;>rfl
      · rename_i l hT
        cases hw
        obtain ⟨u,h1,h2⟩:=h.get d _ hT
        rw [Array.getElem?_toList] at h1
        cases h2
        simp [yielded,hs,h1]
      · rename_i hT
        cases hw
        have : a.tmps[d]? = none := by
          have hl:=h.length
          rw [Array.getElem?_eq_none]
          have : T.length ≤ d := by rcases Nat.lt_or_ge d T.length with q | q; · rw [List.getElem?_eq_getElem q] at hT; cases hT
                                    · exact q
          simp at hl;omega
        simp [yielded,hs,this]
      · cases hw
theorem HR.congr{ρ:ae}{w:World}{h h':aN}{n:Nat}(hh:HR ρ w h n)(e:∀ b,ax h' b=ax h b) :HR ρ w h' n :=
  ⟨fun b d q=>hh.cell b d (by rw [←e];exact q),fun b c d f q r=>hh.inj b c d f (by rw [←e];exact q) (by rw [←e];exact r),hh.fresh,hh.liveLt,hh.outLt,hh.lt,hh.rom⟩
theorem yu{C:ui}(hC:C.Ok){run:dd}(hrun:zX C.P run){ops:Array Oper}{n0 i:Nat}{o:Oper}(hi:ops[i]? = some o){T:List AV}{h:aN}{p p':dl}{r:sx}{obs:List Bool} 
    (hr:vF C run ops n0 i o T h p=some (r,obs,p')) (ho:ak obs) {ρ:ae} {w:World} {n:Nat} (hh:HR ρ w h n) (hid:∀ x,n0+i*lJ≤x→x<n0+i*lJ+lJ→¬ ρ.ok x) (hn:n0+i*lJ+lJ≤n) {a:Act} (hd:a.defers=[]) (hT:bL ρ w T a.tmps.toList)
    {K:Act→World→Prop} {Q:Exit→Act→World→Prop}
    (hK:∀ ρ' w' a',jn ρ ρ' w→ef ρ.live w w'→HR ρ' w' (bu r.sets h) n→a'.defers=[]→bL ρ' w' (vG T o.dst r.v) a'.tmps.toList→(∀ b,ρ'.ok b→ρ.ok b∨(n0+i*lJ≤b∧b<n0+i*lJ+lJ))→K a' w'):wpOp C.P ops Q i K a w:=by
  have dput:∀ u,(a.put o.dst u).defers=[]:=by intro u;cases hdst:o.dst<;>simp [Act.put,hd]
  unfold vF at hr
  unfold wpOp
  simp only [hi]
  split at hr
  · cases hr
  · rename_i hw
    simp only [Option.some.injEq,Prod.mk.injEq] at hr;obtain ⟨rfl,rfl,rfl⟩:=hr
    rw [vH hT hw]
    simp only [Bool.false_eq_true,if_false]
    exact hK ρ w _ (jn.refl _ _) (ef.refl _ _) hh (dput _) (Hq hT (.tup _ _ .nil) o.dst) (fun b q=>.inl q)
  · rename_i hw
    rw [vH hT hw]
    simp only [if_true]
    split at hr
    · cases hr
    · rename_i r' hop
      split at hr
      · cases hr
      · rename_i v obs' p'' hg
        simp only [Option.some.injEq,Prod.mk.injEq] at hr;obtain ⟨rfl,rfl,rfl⟩:=hr
        rw [aC] at ho
        refine .inl (Ie hC hrun hop ho.1 hh hid hn (fun x=>zE hh.rom hT x) ?_)
        intro ρ' w' u E W hh' hv hok
        refine hK ρ' w' _ E W hh' (dput _) (Hq (hT.mono E W) ?_ o.dst) hok
        unfold yr at hg
        cases hgd:Hp ops i with
        | false=>rw [hgd] at hg;simp only [cond_false,Option.some.injEq,Prod.mk.injEq] at hg;rw [←hg.1];exact hv
        | true =>
          rw [hgd] at hg
          simp only [cond_true,Option.map_eq_some_iff,Prod.mk.injEq] at hg
          obtain ⟨⟨b,ob,pp⟩,hd',rfl,rfl,rfl⟩:=hg
          rw [zZ hv hd' ho.2]
          exact .bool _ _
def Aa(C:ui)(run:dd)(ops:Array Oper)(n0:Nat) :Nat→List Oper→List AV→aN→dl→Option (List AV×aN×List Bool×dl)
  | _,[],T,h,p=>some (T,h,[],p)
  | i,o::l,T,h,p =>
    match vF C run ops n0 i o T h p with
    | none=>none
    | some (r,obs,p') =>
      match Aa C run ops n0 (i+1) l (vG T o.dst r.v) (bu r.sets h) p' with
      | none=>none
      | some (T',h',obs',p'')=>some (T',h',obs++obs',p'')
structure ri (ρ:ae) (w:World) (n:Nat) (st:az) (ρ':ae) (a':Act) (w':World):Prop where
  ext:jn ρ ρ' w
  wle:ef ρ.live w w'
  sr:SR ρ' st a' w'
  le:n≤st.next
  back:∀ b,ρ'.ok b→ρ.ok b∨n≤b
theorem vI{C:ui}(hC:C.Ok){run:dd}(hrun:zX C.P run){ops:Array Oper}{n0:Nat}{Q:Exit→Act→World→Prop} :∀ (l:List Oper) (i:Nat) {T T':List AV} {h h':aN} {p p':dl} {obs:List Bool},
    (∀ j,l[j]? = ops[i+j]?)→Aa C run ops n0 i l T h p=some (T',h',obs,p')→ak obs→∀ {ρ:ae} {w:World},HR ρ w h (n0+ops.size*lJ)→(∀ b,ρ.ok b→b<n0+i*lJ)→∀ {a:Act},a.defers=[]→bL ρ w T a.tmps.toList →
    (∀ ρ' w' a',jn ρ ρ' w→ef ρ.live w w'→HR ρ' w' h' (n0+ops.size*lJ)→a'.defers=[]→bL ρ' w' T' a'.tmps.toList→(∀ b,ρ'.ok b→ρ.ok b∨n0≤b)→Q .normal a' w')→wpOps C.P ops Q (List.range' i l.length) a w
  | [],i,T,T',h,h',p,p',obs,hl,hr,ho,ρ,w,hh,hok,a,hd,hT,hQ=>by
    simp only [Aa,Option.some.injEq,Prod.mk.injEq] at hr;obtain ⟨rfl,rfl,rfl,rfl⟩:=hr
    simp only [List.length_nil,List.range'_zero,wpOps]
    exact hQ ρ w a (jn.refl _ _) (ef.refl _ _) hh hd hT (fun b q=>.inl q)
  | o::l,i,T,T',h,h',p,p',obs,hl,hr,ho,ρ,w,hh,hok,a,hd,hT,hQ=>by
    simp only [Aa] at hr
    split at hr
    case h_1=>cases hr
    rename_i r obs1 p1 h1
    split at hr
    case h_1=>cases hr
    rename_i T2 h2 obs2 p2 h3
    simp only [Option.some.injEq,Prod.mk.injEq] at hr;obtain ⟨rfl,rfl,rfl,rfl⟩:=hr
    rw [aC] at ho
    have hi:ops[i]? = some o:=by have:=hl 0;simpa using this.symm
    have hlt:i<ops.size:=(Array.getElem?_eq_some_iff.1 hi).1
    simp only [List.length_cons,List.range'_succ]
    rw [wpOps_cons]
    have hS:i*lJ+lJ≤ops.size*lJ:=by rw [←Nat.succ_mul];exact Nat.mul_le_mul_right _ hlt
    have hi1:(i+1)*lJ=i*lJ+lJ:=Nat.succ_mul _ _
    refine yu hC hrun hi h1 ho.1 hh (fun x h1 h2 q=>by have:=hok _ q;omega) (by omega) hd hT ?_
    intro ρ' w' a' E W hh' hd' hT' hok'
    refine vI hC hrun l (i+1) (fun j=>by have:=hl (j+1);rw [show i+1+j=i+(j+1) from by omega];simpa using this) h3 ho.2 hh' (fun b q=>by
      rcases hok' b q with q | q
      · have:=hok b q;omega
      · omega) hd' hT' ?_
    intro ρ'' w'' a'' E' W' hh'' hd'' hT'' hb''
    exact hQ ρ'' w'' a'' (E.trans E' W.size) (W.trans W' (fun x hx q=>E.new x hx q)) hh'' hd'' hT'' (fun b q=>by
      rcases hb'' b q with q | q
      · rcases hok' b q with q | q
        · exact .inl q
        · exact .inr (by omega)
      · exact .inr q)
theorem sB{e e':Operand→AV}{l:List Operand}(h:∀ x∈l,e x=e' x) :l.map e=l.map e':=List.map_congr_left h
theorem DQ{wr:Bool}{P:Program}{e e':Operand→AV}{op:Op}(h:∀ x∈op.operands,e x=e' x) :wT wr P e op=wT wr P e' op:=by
  unfold wT
  split
  all_goals simp only [Op.operands,Call.operands] at h
  case h_1=>rw [h _ (by simp)]
  case h_2=>rw [h _ (by simp)]
  case h_3=>rw [h _ (by simp),h _ (by simp),h _ (by simp)]
  case h_4=>rw [h _ (by simp)]
  case h_5=>rw [h _ (by simp),h _ (by simp)]
  case h_6=>rw [h _ (by simp)]
  case h_7=>rw [h _ (by simp)]
  case h_8=>rw [h _ (by simp)]
  case h_9 =>
    rename_i fn first caps
    rw [sB (l:=first.toList) (fun x hx=>h x (by simp at hx;simp [hx])),sB (l:=caps.toList) (fun x hx=>h x (by simp at hx;simp [hx]))]
  case h_10 =>
    rename_i t x lo hi
    rw [h x (by simp)]
    cases lo<;>cases hi<;>simp only [Option.map_none,Option.map_some]<;>first | rfl | (rw [h _ (by simp),h _ (by simp)]) | (rw [h _ (by simp)])
  case h_11 =>
    rename_i t x lo hi mx
    rw [h x (by simp),h mx (by simp)]
    cases lo<;>cases hi<;>simp only [Option.map_none,Option.map_some]<;>first | rfl | (rw [h _ (by simp),h _ (by simp)]) | (rw [h _ (by simp)])
  case h_12=>rw [h _ (by simp)]
  case h_13=>rw [h _ (by simp)]
  case h_14=>rw [h _ (by simp),h _ (by simp)]
  case h_15=>rw [h _ (by simp),h _ (by simp)]
  case h_16=>rw [h _ (by simp)]
  case h_17 =>
    rename_i xs ts
    split
    · rename_i x t hx ht
      have:xs = #[x]:=by rw [←hx]
      subst this
      rw [h x (by simp)]
    · rfl
  case h_18 =>
    rename_i xs ts
    split
    · rename_i x l hx
      have:xs=(x::l).toArray:=by rw [←hx]
      subst this
      rw [h x (by simp),sB (l:=l) (fun y hy=>h y (by simp [hy]))]
    · rfl
  case h_19 =>
    rename_i xs ts
    split
    · rename_i x l hx
      have:xs=(x::l).toArray:=by rw [←hx]
      subst this
      rw [h x (by simp),sB (l:=l) (fun y hy=>h y (by simp [hy]))]
    · rfl
  case h_20=>rfl
theorem E9{P:Program}{g g':Nat→Option aj}{t:TypeId}{x:AV}{r:AV×List Bool×List Nat}(h:vp P g t x=some r)(hg:∀ b∈r.2.2,g' b=g b) :vp P g' t x=some r:=by
  unfold vp at h ⊢
  simp only at h ⊢
  split at h
  · rename_i b w i j
    split at h
    · rename_i d hd
      simp only [Option.map_eq_some_iff] at h
      obtain ⟨r',h1,rfl⟩:=h
      have:g' b=some d:=by rw [hg b (by simp)];exact hd
      simp only [this,h1];rfl
    · cases h
  · exact h
  · cases h
theorem DR{P:Program}{g g':Nat→Option aj}{t:TypeId}{x v:AV}{r:Nat×aj×List Bool}(h:wW P g t x v=some r)(hg:g' r.1=g r.1) :wW P g' t x v=some r:=by
  unfold wW at h ⊢
  split at h
  · rename_i b w i j l inf h1 h2
    split at h
    · rename_i d hd
      cases e:Nat.beq l.length inf.size with
      | false=>rw [e] at h;cases h
      | true =>
        rw [e] at h
        simp only [cond_true,Option.map_eq_some_iff] at h
        obtain ⟨r',h3,rfl⟩:=h
        have:g' b=some d:=by rw [hg];exact hd
        simp only [h1,this,e,cond_true,h3];rfl
    · cases h
  · cases h
theorem uk{g g':Nat→Option aj}{x:AV}{r:Nat×Nat×aj×List Bool×List Nat}(h:EY g x=some r)(hg:∀ b∈r.2.2.2.2,g' b=g b) :EY g' x=some r:=by
  unfold EY at h ⊢
  split at h
  · rename_i b w es i len cap
    split at h
    · rename_i d hd
      simp only [Option.map_eq_some_iff] at h
      obtain ⟨r',h1,rfl⟩:=h
      have:g' b=some d:=by rw [hg b (by simp)];exact hd
      simp only [this,h1];rfl
    · cases h
  · exact h
  · cases h
theorem ol{P:Program}{g g':Nat→Option aj}{nid:Nat}{e:TypeId}{inf:TypeInfo}{s:AV}{m es':Nat}{nb:aj}{obs:List Bool}{rs:List Nat}{r:List mB×List Nat}(h:pm P g nid e inf s m es' nb obs rs=some r)(hg:∀ b∈r.2,g' b=g b) :
    pm P g' nid e inf s m es' nb obs rs=some r∧∀ b∈rs,b∈r.2:=by
  unfold pm at h ⊢
  split at h
  · refine ⟨h,?_⟩
    cases hes:Nat.beq es' inf.size with
    | false=>rw [hes] at h;cases h
    | true =>
      rw [hes] at h
      simp only [cond_true,Option.some.injEq] at h;subst h
      exact fun b hb=>hb
  · refine ⟨h,?_⟩
    cases hes:Nat.beq es' inf.size with
    | false=>rw [hes] at h;cases h
    | true =>
      rw [hes] at h
      simp only [cond_true,Option.some.injEq] at h;subst h
      exact fun b hb=>hb
  · rename_i b w es len cap
    split at h
    case h_2=>cases h
    rename_i d hd
    cases hes:(Nat.beq es inf.size&&Nat.beq es' es) with
    | false=>rw [hes] at h;cases h
    | true =>
    rw [hes] at h
    simp only [cond_true] at h
    split at h
    case h_2=>cases h
    rename_i old obs' hsub
    simp only [Option.map_eq_some_iff] at h
    obtain ⟨d',happ,rfl⟩:=h
    have h2:g' b=some d:=by rw [hg b (by simp)];exact hd
    refine ⟨?_,fun b hb=>by simp [hb]⟩
    simp only [h2,cond_true,hsub,happ,hes];rfl
  · cases h
theorem BZ{P:Program}{g g':Nat→Option aj}{nid:Nat}{t t':TypeId}{s x:AV}{r:List mB×List Nat}(h:su P g nid t t' s x=some r)(hg:∀ b∈r.2,g' b=g b) :su P g' nid t t' s x=some r:=by
  unfold su at h ⊢
  split at h
  case h_2=>cases h
  rename_i e y ht ht'
  split at h
  case h_2=>cases h
  rename_i inf he hi
  split at h
  case h_2=>cases h
  rename_i z hz
  cases hzs:(Nat.beq z.cells.size inf.size&&Nat.beq inf.size 1) with
  | false=>rw [hzs] at h;cases h
  | true =>
  rw [hzs] at h
  simp only [cond_true] at h ⊢
  exact (ol h hg).1
theorem B0{P:Program}{g g':Nat→Option aj}{nid:Nat}{t:TypeId}{s x:AV}{r:List mB×List Nat}(h:so P g nid t s x=some r)(hg:∀ b∈r.2,g' b=g b) :so P g' nid t s x=some r:=by
  unfold so at h ⊢
  split at h
  case h_2=>cases h
  rename_i e ht
  split at h
  case h_2=>cases h
  rename_i inf hi
  split at h
  case h_2=>cases h
  rename_i z hz
  cases hzs:Nat.beq z.cells.size inf.size with
  | false=>rw [hzs] at h;cases h
  | true =>
  rw [hzs] at h
  simp only [cond_true] at h ⊢
  split at h
  · exact h
  · exact h
  · exact h
  · exact h
  · split at h
    case h_2=>cases h
    rename_i m es nb obs rs hs
    have q:∀ b∈rs,b∈r.2:=(ol (g':=g) h (fun _ _=>rfl)).2
    have:=uk (g':=g') hs (fun b hb=>hg b (q b hb))
    simp only [this]
    exact (ol h hg).1
mutual
theorem pz {σ:Nat→Option Nat} {g g':Nat→Option aj}:∀ (n:Nat) (v:AV),(∀ b∈(xb σ g n v).2,g' b=g b)→xb σ g' n v=xb σ g n v
  | 0,_,_=>rfl
  | n + 1, v, h => by
    cases v<;>simp only [xb] at h ⊢
    · rename_i b w i j
      cases hs:σ b with
      | some c=>rfl
      | none =>
      rw [hs] at h
      simp only at h ⊢
      have hb:g' b=g b:=by
        cases q:g b with
        | none=>rw [q] at h;have:=h b (by simp);rw [this,q]
        | some d=>rw [q] at h;have:=h b (by simp);rw [this,q]
      rw [hb]
      cases q:g b with
      | none=>rfl
      | some d =>
        rw [q] at h
        have:=Ab (σ:=σ) (g:=g) (g':=g') n d (fun b' hb'=>h b' (by simp only [List.mem_cons];exact .inr hb'))
        simp only [this]
    · rename_i b w es i len cap
      cases hs:σ b with
      | some c=>rfl
      | none =>
      rw [hs] at h
      simp only at h ⊢
      have hb:g' b=g b:=by
        cases q:g b with
        | none=>rw [q] at h;have:=h b (by simp);rw [this,q]
        | some d=>rw [q] at h;have:=h b (by simp);rw [this,q]
      rw [hb]
      cases q:g b with
      | none=>rfl
      | some d =>
        rw [q] at h
        have:=Ab (σ:=σ) (g:=g) (g':=g') n d (fun b' hb'=>h b' (by simp only [List.mem_cons];exact .inr hb'))
        simp only [this]
    · rename_i f l1 l2
      rw [kP n l1 (fun b hb=>h b (by simp [hb])),kP n l2 (fun b hb=>h b (by simp [hb]))]
    · rename_i l;rw [kP n l h]
    · rename_i l;rw [kP n l h]
    · rename_i t v;rw [pz n v h]
theorem kP {σ:Nat→Option Nat} {g g':Nat→Option aj}:∀ (n:Nat) (l:List AV),(∀ b∈(vB σ g n l).2,g' b=g b)→vB σ g' n l=vB σ g n l
  | 0,_,_=>rfl
  | n+1,[],_=>rfl
  | n+1,v::l,h=>by
    simp only [vB] at h ⊢
    rw [pz n v (fun b hb=>h b (by simp [hb])),kP n l (fun b hb=>h b (by simp [hb]))]
theorem Ab {σ:Nat→Option Nat} {g g':Nat→Option aj}:∀ (n:Nat) (d:aj),(∀ b∈(uf σ g n d).2,g' b=g b)→uf σ g' n d=uf σ g n d
  | 0,_,_=>rfl
  | n+1,d,h=>by
    cases d<;>simp only [uf] at h ⊢
    rename_i l;rw [kP n l h]
end
theorem jY{σ:Nat→Option Nat}{g g':Nat→Option aj} :∀ (m:List Bool) (l:List AV),(∀ b∈(eJ σ g m l).2,g' b=g b)→eJ σ g' m l=eJ σ g m l
  | m,[],_=>by cases m<;>rfl
  | true::m,v::l,h=>by
    simp only [eJ] at h ⊢
    rw [jY m l h]
  | false::m,v::l,h=>by
    simp only [eJ] at h ⊢
    rw [pz _ v (fun b hb=>h b (by simp [hb])),jY m l (fun b hb=>h b (by simp [hb]))]
  | [],v::l,h=>by
    simp only [eJ] at h ⊢
    rw [pz _ v (fun b hb=>h b (by simp [hb])),jY [] l (fun b hb=>h b (by simp [hb]))]
theorem xf{g:Nat→Option aj} :∀ (n:Nat) (t acc:List Nat),∀ b∈acc,b∈jr g n t acc
  | 0,t,acc,b,h=>h
  | n+1,[],acc,b,h=>h
  | n+1,x::t,acc,b,h=>by
    simp only [jr]
    split
    · exact xf n _ _ b h
    · exact xf n _ _ b (by simp [h])
theorem rj{g g':Nat→Option aj} :∀ (n:Nat) (t acc:List Nat),(∀ b∈jr g n t acc,g' b=g b)→jr g' n t acc=jr g n t acc
  | 0,t,acc,_=>rfl
  | n+1,[],acc,_=>rfl
  | n+1,x::t,acc,h=>by
    simp only [jr] at h ⊢
    split
    · rename_i e;rw [e] at h;exact rj n _ _ h
    · rename_i e
      rw [e] at h
      simp only at h
      have hx:g' x=g x:=h x (xf n _ _ x (by simp))
      rw [hx]
      exact rj n _ _ h
theorem vJ{σ:Nat→Option Nat}{g g':Nat→Option aj} :∀ (l:List Nat),(∀ b∈l,g' b=g b)→lY σ g' l=lY σ g l
  | [],_=>rfl
  | b::l,h=>by simp only [lY];rw [h b (by simp),vJ l (fun x hx=>h x (by simp [hx]))]
theorem rl{g g':Nat→Option aj}{nid:Nat} :∀ (l:List Nat),(∀ b∈l,g' b=g b)→jX g' nid l=jX g nid l
  | [],_=>rfl
  | b::l,h=>by simp only [jX];rw [h b (by simp),rl l (fun x hx=>h x (by simp [hx]))]
theorem Fa{C:ui}{run:dd}{g g':Nat→Option aj}{nid:Nat}{p:dl}{fid:FuncId}{vals:List AV}{r:LU}(h:CZ C run g nid p fid vals=some r)(hg:∀ b∈r.reads,g' b=g b) :CZ C run g' nid p fid vals=some r:=by
  have hreads:r.reads=jr g du (dF (jW (C.mode fid).mask vals)) []++(eJ (hU (jr g du (dF (jW (C.mode fid).mask vals)) []) 0) g (C.mode fid).mask vals).2:=by
    unfold CZ at h
    simp only at h
    generalize (px (jr g du (dF (jW (C.mode fid).mask vals)) [])&&jX g nid (jr g du (dF (jW (C.mode fid).mask vals)) []))=c at h
    cases c with
    | false=>cases h
    | true =>
      simp only [cond_true] at h
      split at h
      case h_2=>cases h
      rename_i r' obs p' hl
      cases hle:Nat.ble r'.own.length ((jr g du (dF (jW (C.mode fid).mask vals)) []).length+lJ) with
      | false=>rw [hle] at h;cases h
      | true=>rw [hle] at h;simp only [cond_true,Option.some.injEq] at h;rw [←h]
  rw [hreads] at hg
  have e1:=rj (g:=g) (g':=g') du (dF (jW (C.mode fid).mask vals)) [] (fun b hb=>hg b (by simp [hb]))
  have e2:=jY (σ:=hU (jr g du (dF (jW (C.mode fid).mask vals)) []) 0) (g:=g) (g':=g') (C.mode fid).mask vals (fun b hb=>hg b (by simp [hb]))
  have e3:=vJ (σ:=hU (jr g du (dF (jW (C.mode fid).mask vals)) []) 0) (g:=g) (g':=g') (jr g du (dF (jW (C.mode fid).mask vals)) []) (fun b hb=>hg b (by simp [hb]))
  have e4:=rl (nid:=nid) (g:=g) (g':=g') (jr g du (dF (jW (C.mode fid).mask vals)) []) (fun b hb=>hg b (by simp [hb]))
  unfold CZ at h ⊢
  simp only at h ⊢
  rw [e1,e2,e3,e4]
  exact h
theorem Fb{P:Program}{g g':Nat→Option aj}{t:TypeId}{s x:AV}{r:Nat×Nat×aj×List Bool×List Nat}(h:CX P g t s x=some r)(hg:∀ b∈r.2.2.2.2,g' b=g b) :CX P g' t s x=some r:=by
  unfold CX at h ⊢
  split at h
  case h_2=>cases h
  rename_i e b w es i len cap ht
  split at h
  case h_2=>cases h
  rename_i inf blk m es' nb obs rs hi hb hsrc
  have hr:r.2.2.2.2=b::rs:=by
    cases h1:Nat.beq inf.size 1&&Nat.beq es' 1 with
    | false=>rw [h1] at h;cases h
    | true =>
      rw [h1] at h
      simp only [cond_true,Option.map_eq_some_iff] at h
      obtain ⟨_,_,rfl⟩:=h
      rfl
  have q1:g' b=some blk:=by rw [hg b (by rw [hr];simp)];exact hb
  have q2:=uk hsrc (g':=g') (fun c hc=>hg c (by rw [hr];exact List.mem_cons_of_mem _ hc))
  rw [hi,q1,q2]
  exact h
theorem Gp{P:Program}{g g':Nat→Option aj}{s d:TypeId}{x:AV}{r:ByteArray×List Bool×List Nat}(h:Ic P g s d x=some r)(hg:∀ b∈r.2.2,g' b=g b) :Ic P g' s d x=some r:=by
  unfold Ic at h ⊢
  split at h
  case h_2=>cases h
  rename_i e hs hd
  split at h
  case h_2=>cases h
  rename_i m es k ys obs rs he hsrc
  have hr:r.2.2=rs:=by
    cases h1:Nat.beq es 1&&bB k .u8 with
    | false=>rw [h1] at h;cases h
    | true =>
      rw [h1] at h
      simp only [cond_true,Option.some.injEq] at h
      rw [←h]
  have q2:=uk hsrc (g':=g') (fun c hc=>hg c (by rw [hr];exact hc))
  rw [he,q2]
  exact h
theorem If{C:ui}{run:dd}{e e':Operand→AV}{g g':Nat→Option aj}{nid:Nat}{p:dl}{op:Op}{r:LU}(h:Lp C run e g nid p op=some r)(he:∀ x∈op.operands,e' x=e x)(hg:∀ b∈r.reads,g' b=g b) :
    Lp C run e' g' nid p op=some r:=by
  unfold Lp at h ⊢
  rw [DQ he]
  split at h
  · exact h
  · rename_i hp
    clear hp
    split at h
    all_goals simp only [Op.operands,Call.operands] at he
    · rename_i t x
      simp only [Option.map_eq_some_iff] at h ⊢
      obtain ⟨r',h1,rfl⟩:=h
      exact ⟨r',by rw [he x (by simp)];exact E9 h1 hg,rfl⟩
    · rename_i t d x
      simp only [Option.map_eq_some_iff] at h ⊢
      obtain ⟨r',h1,rfl⟩:=h
      exact ⟨r',by rw [he x (by simp)];exact Gp h1 hg,rfl⟩
    · rename_i t x lo hi
      have h1:lo.map e'=lo.map e:=by
        cases lo with
        | none=>rfl
        | some y=>simp only [Option.map_some];rw [he y (by simp)]
      have h2:hi.map e'=hi.map e:=by
        cases hi with
        | none=>rfl
        | some y=>simp only [Option.map_some];rw [he y (by simp)]
      simp only [Option.map_eq_some_iff] at h ⊢
      obtain ⟨r',q,rfl⟩:=h
      exact ⟨r',by rw [he x (by simp),h1,h2];exact DN q hg,rfl⟩
    · rename_i t x v
      simp only [Option.map_eq_some_iff] at h ⊢
      obtain ⟨r',h1,rfl⟩:=h
      exact ⟨r',by rw [he x (by simp),he v (by simp)];exact DR h1 (hg _ (by simp)),rfl⟩
    · rename_i t x k cok;rw [he x (by simp),he k (by simp)];exact h
    · exact h
    · rename_i t x;rw [he x (by simp)];exact h
    · rename_i t l c;rw [he l (by simp),he c (by simp)];exact h
    · rename_i t parts
      have:(parts.toList.map fun x=>(x.1,e' x.2))=(parts.toList.map fun x=>(x.1,e x.2)):=List.map_congr_left fun x hx=>by rw [he x.2 (by simp;exact ⟨x.1,by simpa using hx⟩)]
      rw [this];exact h
    · rename_i t len parts
      have:(parts.toList.map fun x=>(x.1,e' x.2))=(parts.toList.map fun x=>(x.1,e x.2)):=List.map_congr_left fun x hx=>by rw [he x.2 (by simp;exact ⟨x.1,by simpa using hx⟩)]
      rw [this];exact h
    · rename_i args ats
      split at h
      case h_2=>cases h
      rename_i s x t t' e1 e2
      have ea:args = #[s,x]:=by rw [←e1]
      subst ea
      cases ht:Nat.beq t t' with
      | false =>
        rw [ht] at h
        simp only [cond_false] at h ⊢
        rw [he s (by simp),he x (by simp)]
        split at h
        case h_2=>cases h
        rename_i alts rs ha
        simp only [Option.map_eq_some_iff] at h ⊢
        obtain ⟨r',h1,rfl⟩:=h
        have:=BZ (g':=g') ha hg
        simp only [this,Option.map_eq_some_iff]
        exact ⟨r',h1,rfl⟩
      | true =>
      rw [ht] at h
      simp only [cond_true] at h ⊢
      rw [he s (by simp),he x (by simp)]
      split at h
      case h_2=>cases h
      rename_i alts rs ha
      simp only [Option.map_eq_some_iff] at h ⊢
      obtain ⟨r',h1,rfl⟩:=h
      have:=B0 (g':=g') ha hg
      simp only [this,Option.map_eq_some_iff]
      exact ⟨r',h1,rfl⟩
    · rename_i args ats
      split at h
      case h_2=>cases h
      rename_i s x t t' e1 e2
      have ea:args = #[s,x]:=by rw [←e1]
      subst ea
      rw [he s (by simp),he x (by simp)]
      simp only [Option.map_eq_some_iff] at h ⊢
      obtain ⟨r',h1,rfl⟩:=h
      exact ⟨r',Fb h1 hg,rfl⟩
    · rename_i f args ats
      have hf:e' f=e f:=he f (by simp)
      have hargs:args.toList.map e'=args.toList.map e:=List.map_congr_left fun x hx=>he x (by simp at hx;simp [hx])
      split at h
      case h_2=>cases h
      rename_i fid l hca
      have:vE e' f args=some (fid,l):=by
        unfold vE at hca ⊢
        rw [hf,hargs];exact hca
      simp only [this]
      split at h
      · exact h
      · exact Fa h hg
    · cases h
def Gq(l:List Operand) :List Nat:=l.filterMap fun | .tmp t=>some t | _=>none
def mD(ops:Array Oper)(o:Oper) :List Nat :=
  (match o.dst with | some d=>[d] | none=>[])++(Gq o.op.operands.toList++(match o.guard with | some (j,_)=>(match sy ops j with | some d=>[d] | none=>[]) | none=>[]))
def kQ(s:List (Nat×Option aj)) :List Nat:=s.map Prod.fst
def sC(ms:List Nat)(o:Oper) :Nat:=o.after.toList.foldl (fun m e=>bif Region.binds .any e then m ||| (2^e.on ||| ms.getD e.on 0) else m) 0
def Je(x:Nat) :List Nat→Bool
  | []=>false
  | y::l=>Nat.beq x y||Je x l
def Gr:List Nat→List Nat→Bool
  | [],_=>true
  | x::l,m=>!Je x m&&Gr l m
theorem Fc{x:Nat} :∀ {l:List Nat},Je x l=true↔x∈l
  | []=>by simp [Je]
  | y::l=>by simp [Je,Fc (l:=l)]
theorem sD{l m:List Nat}(h:Gr l m=true) :∀ x,x∈l→x∈m→False:=by
  induction l with
  | nil=>intro x hx;cases hx
  | cons y l ih =>
    simp only [Gr,Bool.and_eq_true,Bool.not_eq_true'] at h
    intro x hx hm
    rcases List.mem_cons.1 hx with rfl | hx
    · have:=Fc.2 hm;rw [this] at h;cases h.1
    · exact ih h.2 x hx hm
def kG(ops:Array Oper)(o:Oper)(r:sx)(o':Oper)(r':sx) :Bool :=
  Gr o.dst.toList (mD ops o')&&(Gr o'.dst.toList (mD ops o)&&(Gr (kQ r.sets) (r'.reads++kQ r'.sets)&&Gr (kQ r'.sets) (r.reads++kQ r.sets)))
def rm(ops:Array Oper)(mask:Nat)(o':Oper)(r':sx) :Nat→List (Oper×sx)→Bool
  | _,[]=>true
  | i,x::l=>(mask.testBit i||kG ops x.1 x.2 o' r')&&rm ops mask o' r' (i+1) l
def Ac(ops:Array Oper) :List (Oper×sx)→List Nat→List (Oper×sx)→Bool
  | _,_,[]=>true
  | pre,ms,x::l =>
    x.1.after.toList.all (fun e=>!Region.binds .any e||Nat.blt e.on pre.length) &&
    (rm ops (sC ms x.1) x.1 x.2 0 pre&&Ac ops (pre++[x]) (ms++[sC ms x.1]) l)
def jR(L:Nat→Bool) :Nat→List (Oper×sx)→List AV×aN→List AV×aN
  | _,[],s=>s
  | i,x::l,s=>jR L (i+1) l (bif L i then (vG s.1 x.1.dst x.2.v,bu x.2.sets s.2) else s)
theorem vK(T:List AV)(d:Option Nat)(v:AV)(t:Nat) :(vG T d v)[t]? = if d=some t then (T[t]?).map (fun _=>v) else T[t]?:=by
  cases d with
  | none=>simp [vG]
  | some d =>
    simp only [vG,Option.some.injEq]
    rw [List.getElem?_set]
    by_cases h:d=t
    · subst h
      simp only [if_true]
      by_cases hl:d<T.length
      · simp [hl]
      · simp [hl]
    · simp [h]
theorem ln{h h':aN}{b:Nat} :∀ (s:List (Nat×Option aj)) {h h':aN},ax h b=ax h' b→ax (bu s h) b=ax (bu s h') b
  | [],_,_,e=>e
  | (c,some d)::s,h,h',e=>by
    simp only [bu]
    exact ln (h:=h) (h':=h') s (by rw [bD,bD,e])
  | (c,none)::s,h,h',e=>by
    simp only [bu]
    exact ln (h:=h) (h':=h') s (by rw [eW,eW,e])
theorem lp{b:Nat} :∀ (s:List (Nat×Option aj)) {h:aN},b ∉ kQ s→ax (bu s h) b=ax h b
  | [],_,_=>rfl
  | (c,some d)::s,h,hb=>by
    simp only [kQ,List.map_cons,List.mem_cons,not_or] at hb
    simp only [bu]
    rw [lp s hb.2,bD,if_neg (fun e=>hb.1 e.symm)]
  | (c,none)::s,h,hb=>by
    simp only [kQ,List.map_cons,List.mem_cons,not_or] at hb
    simp only [bu]
    rw [lp s hb.2,eW,if_neg (fun e=>hb.1 e.symm)]
theorem DS{L L':Nat→Bool}{t:Nat} :∀ (l:List (Oper×sx)) (i:Nat) {s s':List AV×aN},(∀ k x,l[k]? = some x→x.1.dst=some t→L (i+k)=L' (i+k))→s.1[t]? = s'.1[t]?→(jR L i l s).1[t]? = (jR L' i l s').1[t]?
  | [],_,_,_,_,e=>e
  | x::l,i,s,s',h,e=>by
    simp only [jR]
    refine DS l (i+1) (fun k y hy hd=>by have:=h (k+1) y (by simpa using hy) hd;rw [show i+1+k=i+(k+1) from by omega];exact this) ?_
    by_cases hd:x.1.dst=some t
    · have:=h 0 x (by simp) hd
      simp only [Nat.add_zero] at this
      rw [this]
      cases L' i with
      | true=>simp only [cond_true,vK,hd,if_true,e]
      | false=>exact e
    · cases L i<;>cases L' i<;>simp only [cond_true,cond_false,vK,if_neg hd,e]
theorem DT{L L':Nat→Bool}{b:Nat} :∀ (l:List (Oper×sx)) (i:Nat) {s s':List AV×aN},(∀ k x,l[k]? = some x→b∈kQ x.2.sets→L (i+k)=L' (i+k))→ax s.2 b=ax s'.2 b→ax (jR L i l s).2 b=ax (jR L' i l s').2 b
  | [],_,_,_,_,e=>e
  | x::l,i,s,s',h,e=>by
    simp only [jR]
    refine DT l (i+1) (fun k y hy hd=>by have:=h (k+1) y (by simpa using hy) hd;rw [show i+1+k=i+(k+1) from by omega];exact this) ?_
    by_cases hd:b∈kQ x.2.sets
    · have:=h 0 x (by simp) hd
      simp only [Nat.add_zero] at this
      rw [this]
      cases L' i with
      | true=>simp only [cond_true];exact ln (h:=s.2) (h':=s'.2) _ e
      | false=>exact e
    · cases L i<;>cases L' i<;>simp only [cond_true,cond_false,lp _ hd,e]
def bv:List (Oper×sx)→List AV×aN→List AV×aN
  | [],s=>s
  | x::l,s=>bv l (vG s.1 x.1.dst x.2.v,bu x.2.sets s.2)
theorem Ad(l m:List (Oper×sx))(s:List AV×aN) :bv (l++m) s=bv m (bv l s):=by
  induction l generalizing s with
  | nil=>rfl
  | cons x l ih=>simp only [List.cons_append,bv,ih]
theorem zu:∀ (l:List (Oper×sx)) (i j:Nat) (s:List AV×aN),jR (fun k=>decide (k<i+j)) i l s=bv (l.take j) s
  | [],i,j,s=>by simp [jR,bv]
  | x::l,i,0,s=>by
    have:∀ (l:List (Oper×sx)) (i':Nat),i≤i'→∀ s,jR (fun k=>decide (k<i+0)) i' l s=s:=by
      intro l
      induction l with
      | nil=>intro _ _ s;rfl
      | cons y l ih =>
        intro i' hi s
        simp only [jR]
        have:decide (i'<i+0)=false:=by simp;omega
        rw [this];exact ih (i'+1) (by omega) s
    simp only [List.take_zero,bv]
    exact this _ i (Nat.le_refl _) s
  | x::l,i,j+1,s=>by
    simp only [jR,List.take_succ_cons,bv]
    have h1:decide (i<i+(j+1))=true:=by simp
    rw [h1]
    simp only [cond_true]
    have:=zu l (i+1) j (vG s.1 x.1.dst x.2.v,bu x.2.sets s.2)
    rw [show i+1+j=i+(j+1) from by omega] at this
    exact this
structure Jf (ops:Array Oper) (l:List (Oper×sx)) (ms:List Nat):Prop where
  edge:∀ (j:Nat) (x:Oper×sx),l[j]? = some x→∀ e∈x.1.after,Region.binds .any e=true→e.on<j
  mask:∀ (j:Nat) (x:Oper×sx),l[j]? = some x→∃ m:Nat,ms[j]? = some m∧∀ i:Nat,m.testBit i=true→∃ e∈x.1.after,Region.binds .any e=true∧(e.on=i∨∃ m':Nat,ms[e.on]? = some m'∧m'.testBit i=true)
  pair:∀ (i j:Nat) (x y:Oper×sx),l[i]? = some x→l[j]? = some y→i<j→(∃ m:Nat,ms[j]? = some m∧m.testBit i=true)∨kG ops x.1 x.2 y.1 y.2=true
theorem Ae(ms:List Nat) :∀ (es:List Edge) (m0 i:Nat),(es.foldl (fun m e=>bif Region.binds .any e then m ||| (2^e.on ||| ms.getD e.on 0) else m) m0).testBit i=true →
    m0.testBit i=true∨∃ e∈es,Region.binds .any e=true∧(e.on=i∨(ms.getD e.on 0).testBit i=true)
  | [],m0,i,h=>.inl h
  | e::es,m0,i,h=>by
    simp only [List.foldl_cons] at h
    rcases Ae ms es _ i h with h | ⟨e',h1,h2,h3⟩
    · cases hb:Region.binds .any e with
      | false=>rw [hb] at h;exact .inl h
      | true =>
        rw [hb] at h
        simp only [cond_true,Nat.testBit_or,Bool.or_eq_true,Nat.testBit_two_pow,decide_eq_true_eq] at h
        rcases h with h | h | h
        · exact .inl h
        · exact .inr ⟨e,by simp,hb,.inl h⟩
        · exact .inr ⟨e,by simp,hb,.inr h⟩
    · exact .inr ⟨e',by simp [h1],h2,h3⟩
theorem tx{ops:Array Oper}{mask:Nat}{o':Oper}{r':sx} :∀ {l:List (Oper×sx)} {i:Nat},rm ops mask o' r' i l=true→∀ k x,l[k]? = some x→mask.testBit (i+k)=true∨kG ops x.1 x.2 o' r'=true
  | [],_,_,k,x,h=>by simp at h
  | y::l,i,h,0,x,hx=>by
    simp only [rm,Bool.and_eq_true,Bool.or_eq_true] at h
    simp at hx;subst hx;simpa using h.1
  | y::l,i,h,k+1,x,hx=>by
    simp only [rm,Bool.and_eq_true,Bool.or_eq_true] at h
    have:=tx h.2 k x (by simpa using hx)
    rw [show i+1+k=i+(k+1) from by omega] at this;exact this
theorem yv{ops:Array Oper} :∀ (l pre:List (Oper×sx)) (ms:List Nat),ms.length=pre.length→Ac ops pre ms l=true→Jf ops pre ms→∃ ms',Jf ops (pre++l) ms'
  | [],pre,ms,_,_,D=>⟨ms,by simpa using D⟩
  | x::l,pre,ms,hl,h,D=>by
    simp only [Ac,Bool.and_eq_true] at h
    obtain ⟨h1,h2,h3⟩:=h
    have:=yv l (pre++[x]) (ms++[sC ms x.1]) (by simp [hl]) h3 ?_
    · simpa using this
    have old:∀ (j:Nat) (y:Oper×sx),(pre++[x])[j]? = some y→(j<pre.length∧pre[j]? = some y)∨(j=pre.length∧y=x):=by
      intro j y hy
      rw [List.getElem?_append] at hy
      split at hy
      · rename_i q;exact .inl ⟨q,hy⟩
      · rename_i q
        have:j-pre.length=0:=by
          rcases Nat.eq_zero_or_pos (j-pre.length) with r | r
          · exact r
          · rw [List.getElem?_eq_none (by simp;omega)] at hy;cases hy
        rw [this] at hy;simp at hy;exact .inr ⟨by omega,hy.symm⟩
    have msl:∀ (j m:Nat),ms[j]? = some m→(ms++[sC ms x.1])[j]? = some m:=by
      intro j m hm
      rw [List.getElem?_append_left (List.getElem?_eq_some_iff.1 hm).1];exact hm
    have msn:(ms++[sC ms x.1])[pre.length]? = some (sC ms x.1):=by
      rw [←hl,List.getElem?_append_right (Nat.le_refl _)];simp
    have hedge:∀ e∈x.1.after,Region.binds .any e=true→e.on<pre.length:=by
      intro e he hb
      have:=List.all_eq_true.1 h1 e (by simpa using he)
      rw [hb] at this
      simpa [Nat.blt_eq] using this
    refine ⟨fun j y hy=>?_,fun j y hy=>?_,fun i j a b ha hb hij=>?_⟩
    · rcases old j y hy with ⟨q,hy⟩ | ⟨rfl,rfl⟩
      · exact D.edge j y hy
      · exact hedge
    · rcases old j y hy with ⟨q,hy⟩ | ⟨rfl,rfl⟩
      · obtain ⟨m,k1,k2⟩:=D.mask j y hy
        refine ⟨m,msl j m k1,fun i hi=>?_⟩
        obtain ⟨e,e1,e2,e3⟩:=k2 i hi
        exact ⟨e,e1,e2,e3.imp id fun ⟨m',q1,q2⟩=>⟨m',msl _ m' q1,q2⟩⟩
      · refine ⟨_,msn,fun i hi=>?_⟩
        rcases Ae ms y.1.after.toList 0 i hi with q | ⟨e,e1,e2,e3⟩
        · simp at q
        · refine ⟨e,by simpa using e1,e2,e3.imp id fun q=>?_⟩
          rw [List.getD_eq_getElem?_getD] at q
          cases hm:ms[e.on]? with
          | none=>rw [hm] at q;simp at q
          | some m'=>rw [hm] at q;exact ⟨m',msl _ m' hm,q⟩
    · rcases old j b hb with ⟨q,hb⟩ | ⟨rfl,rfl⟩
      · rcases old i a ha with ⟨q',ha⟩ | ⟨rfl,rfl⟩
        · exact (D.pair i j a b ha hb hij).imp (fun ⟨m,k1,k2⟩=>⟨m,msl j m k1,k2⟩) id
        · omega
      · rcases old i a ha with ⟨q',ha⟩ | ⟨rfl,rfl⟩
        · have:=tx h2 i a ha
          rw [Nat.zero_add] at this
          exact this.imp (fun k=>⟨_,msn,k⟩) id
        · omega
theorem Gs{l:List Operand}{t:Nat}(h:Operand.tmp t∈l) :t∈Gq l:=by
  simp only [Gq,List.mem_filterMap];exact ⟨_,h,rfl⟩
theorem Fd{C:ui}{run:dd}{ops:Array Oper}{n0 i:Nat}{o:Oper}{T T':List AV}{h h':aN}{p p':dl}{r:sx}{obs:List Bool}(hr:vF C run ops n0 i o T h p=some (r,obs,p')) 
    (hT:∀ t∈mD ops o,T'[t]? = T[t]?) (hh:∀ b∈r.reads,ax h' b=ax h b):vF C run ops n0 i o T' h' p=some (r,obs,p'):=by
  have hw:sA ops o T'=sA ops o T:=by
    unfold sA
    cases hg:o.guard with
    | none=>rfl
    | some x =>
      obtain ⟨j,want⟩:=x
      simp only
      cases hs:sy ops j with
      | none=>rfl
      | some d=>simp only;rw [hT d (by simp [mD,hg,hs])]
  unfold vF at hr ⊢
  rw [hw]
  split at hr
  · cases hr
  · exact hr
  · split at hr
    · cases hr
    · rename_i r' hop
      have:Lp C run (Kl T') (ax h') (n0+i*lJ) p o.op=some r':=by
        refine If hop (fun x hx=>?_) (fun b hb=>?_)
        · cases x with
          | tmp t=>simp only [Kl];rw [hT t (by simp only [mD,List.mem_append];exact .inr (.inl (Gs (by simpa using hx))))]
          | _=>rfl
        · apply hh
          split at hr
          · cases hr
          · simp only [Option.some.injEq,Prod.mk.injEq] at hr;rw [←hr.1];exact hb
      simp only [this]
      exact hr
def Af(C:ui)(run:dd)(ops:Array Oper)(n0:Nat) :Nat→List Oper→List AV→aN→dl→Option (List sx×List AV×aN×List Bool×dl)
  | _,[],T,h,p=>some ([],T,h,[],p)
  | i,o::l,T,h,p =>
    match vF C run ops n0 i o T h p with
    | none=>none
    | some (r,obs,p') =>
      match Af C run ops n0 (i+1) l (vG T o.dst r.v) (bu r.sets h) p' with
      | none=>none
      | some (rs,T',h',obs',p'')=>some (r::rs,T',h',obs++obs',p'')
theorem yw{C:ui}{run:dd}{ops:Array Oper}{n0:Nat} :∀ (l:List Oper) (i:Nat) {T T':List AV} {h h':aN} {p p':dl} {obs:List Bool} {rs:List sx},Af C run ops n0 i l T h p=some (rs,T',h',obs,p')→ak obs →
    rs.length=l.length∧bv (l.zip rs) (T,h)=(T',h')∧∀ (j:Nat) (o:Oper),l[j]? = some o→∃ r obs' q q',rs[j]? = some r∧ak obs' ∧
      vF C run ops n0 (i+j) o (bv ((l.zip rs).take j) (T,h)).1 (bv ((l.zip rs).take j) (T,h)).2 q=some (r,obs',q')
  | [],i,T,T',h,h',p,p',obs,rs,hr,_=>by
    simp only [Af,Option.some.injEq,Prod.mk.injEq] at hr;obtain ⟨rfl,rfl,rfl,rfl,rfl⟩:=hr
    exact ⟨rfl,rfl,fun j o h=>by simp at h⟩
  | o::l,i,T,T',h,h',p,p',obs,rs,hr,ho=>by
    simp only [Af] at hr
    split at hr
    case h_1=>cases hr
    rename_i r obs1 p1 h1
    split at hr
    case h_1=>cases hr
    rename_i rs2 T2 h2 obs2 p2 h3
    simp only [Option.some.injEq,Prod.mk.injEq] at hr;obtain ⟨rfl,rfl,rfl,rfl,rfl⟩:=hr
    rw [aC] at ho
    obtain ⟨a1,a2,a3⟩:=yw l (i+1) h3 ho.2
    refine ⟨by simp [a1],by simpa [bv] using a2,fun j o' hj=>?_⟩
    cases j with
    | zero=>simp at hj;subst hj;exact ⟨r,obs1,p,p1,by simp,ho.1,by simpa [bv] using h1⟩
    | succ j =>
      obtain ⟨r',ob,q,q',b1,b2,b3⟩:=a3 j o' (by simpa using hj)
      refine ⟨r',ob,q,q',by simpa using b1,b2,?_⟩
      rw [show i+(j+1)=i+1+j from by omega]
      simpa [bv] using b3
theorem C2{p q:Nat→Bool} :∀ {l:List Nat} {j:Nat},j∈l→p j=true→q j=false→(∀ i,q i=true→p i=true)→l.countP q<l.countP p
  | [],_,h,_,_,_=>by cases h
  | x::l,j,h,hp,hq,hi=>by
    have mono:∀ l:List Nat,l.countP q≤l.countP p:=fun l=>List.countP_mono_left fun x _=>hi x
    simp only [List.countP_cons]
    rcases List.mem_cons.1 h with rfl | h
    · rw [hp,hq];have:=mono l;simp;omega
    · have:=C2 h hp hq hi
      by_cases hx:q x=true
      · rw [hx,hi x hx];omega
      · have hq':q x=false:=by simpa using hx
        rw [hq'];simp only [Bool.false_eq_true,if_false];split<;>omega
theorem Ku{i j y:Nat}(h1:i*lJ≤y)(h2:y<i*lJ+lJ)(h3:j*lJ≤y)(h4:y<j*lJ+lJ) :i=j:=by
  have hS:0<lJ:=by decide
  have a:y/lJ=i:=by rw [Nat.div_eq_iff hS];omega
  have b:y/lJ=j:=by rw [Nat.div_eq_iff hS];omega
  omega
theorem Jg{C:ui}(hC:C.Ok){run:dd}(hrun:zX C.P run){ops:Array Oper}{n0:Nat}{T0:List AV}{h0:aN}{rs:List sx}{ms:List Nat}(D:Jf ops (ops.toList.zip rs) ms)(hlen:rs.length=ops.size) 
    (each:∀ (j:Nat) (o:Oper),ops.toList[j]? = some o→∃ r obs' q q',rs[j]? = some r∧ak obs' ∧
      vF C run ops n0 j o (bv ((ops.toList.zip rs).take j) (T0,h0)).1 (bv ((ops.toList.zip rs).take j) (T0,h0)).2 q=some (r,obs',q'))
    {Q:Exit→Act→World→Prop}:∀ (fuel:Nat) (listed:Array Bool),listed.size=ops.size→(∀ (j:Nat) (o:Oper),ops[j]? = some o→listed.getD j false=true→∀ e∈o.after,Region.binds .any e=true→listed.getD e.on false=true) →
      (List.range ops.size).countP (fun i=>!listed.getD i false)≤fuel→∀ {ρ:ae} {w:World} {a:Act},HR ρ w (jR (fun i=>listed.getD i false) 0 (ops.toList.zip rs) (T0,h0)).2 (n0+ops.size*lJ) →
      (∀ b,ρ.ok b→b<n0∨∃ i,listed.getD i false=true∧n0+i*lJ≤b∧b<n0+i*lJ+lJ)→a.defers=[]→bL ρ w (jR (fun i=>listed.getD i false) 0 (ops.toList.zip rs) (T0,h0)).1 a.tmps.toList →
      (∀ ρ' w' a',jn ρ ρ' w→ef ρ.live w w'→HR ρ' w' (bv (ops.toList.zip rs) (T0,h0)).2 (n0+ops.size*lJ)→a'.defers=[]→bL ρ' w' (bv (ops.toList.zip rs) (T0,h0)).1 a'.tmps.toList→(∀ b,ρ'.ok b→ρ.ok b∨n0≤b)→Q .normal a' w') →
      wpAny C.P .any ops Q fuel listed a w:=by
  have hzl:(ops.toList.zip rs).length=ops.size:=by simp [hlen]
  have zget:∀ (j:Nat) (o:Oper) (r:sx),ops[j]? = some o→rs[j]? = some r→(ops.toList.zip rs)[j]? = some (o,r):=by
    intro j o r h1 h2
    rw [List.getElem?_zip_eq_some];exact ⟨by simpa using h1,h2⟩
  have zinv:∀ (j:Nat) (x:Oper×sx),(ops.toList.zip rs)[j]? = some x→ops[j]? = some x.1∧rs[j]? = some x.2:=by
    intro j x hx
    have:=List.getElem?_zip_eq_some.1 (show (ops.toList.zip rs)[j]? = some (x.1,x.2) from hx)
    exact ⟨by simpa using this.1,this.2⟩

  have allL:∀ (listed:Array Bool),listed.size=ops.size→(∀ i,i<ops.size→listed.getD i false=true)→jR (fun i=>listed.getD i false) 0 (ops.toList.zip rs) (T0,h0)=bv (ops.toList.zip rs) (T0,h0):=by
    intro listed hs hall
    have:∀ (l:List (Oper×sx)) (i:Nat) (s:List AV×aN),i+l.length≤ops.size→jR (fun i=>listed.getD i false) i l s=bv l s:=by
      intro l
      induction l with
      | nil=>intro _ _ _;rfl
      | cons x l ih =>
        intro i s hi
        simp only [List.length_cons] at hi
        simp only [jR,bv]
        rw [hall i (by omega)]
        exact ih (i+1) _ (by omega)
    exact this _ 0 _ (by rw [hzl];omega)

  have down:∀ (listed:Array Bool),(∀ (j:Nat) (o:Oper),ops[j]? = some o→listed.getD j false=true→∀ e∈o.after,Region.binds .any e=true→listed.getD e.on false=true) →
      ∀ (j:Nat) (o:Oper),ops[j]? = some o→(∀ e∈o.after,Region.binds .any e=true→listed.getD e.on false=true)→∀ (i m:Nat),ms[j]? = some m→m.testBit i=true→listed.getD i false=true:=by
    intro listed hcl j
    induction j using Nat.strongRecOn with
    | _ j ih =>
      intro o ho hpre i m hm hbit
      have hlt:j<ops.size:=(Array.getElem?_eq_some_iff.1 ho).1
      obtain ⟨r,hr⟩:∃ r,rs[j]? = some r:=⟨rs[j]'(by omega),List.getElem?_eq_getElem (by omega)⟩
      have hz:=zget j o r ho hr
      obtain ⟨m',k1,k2⟩:=D.mask j _ hz
      rw [hm] at k1;cases k1
      obtain ⟨e,e1,e2,e3⟩:=k2 i hbit
      have hL:=hpre e e1 e2
      rcases e3 with rfl | ⟨m'',q1,q2⟩
      · exact hL
      · have hej:=D.edge j _ hz e e1 e2
        have hon:e.on<ops.size:=by omega
        exact ih e.on hej _ (Array.getElem?_eq_getElem hon) (hcl e.on _ (Array.getElem?_eq_getElem hon) hL) i m'' q1 q2
  intro fuel
  induction fuel with
  | zero =>
    intro listed hs hcl hcnt ρ w a hh hok hd hT hQ
    have hall:∀ i,i<ops.size→listed.getD i false=true:=by
      intro i hi
      have h0:=List.countP_eq_zero.1 (Nat.le_zero.1 hcnt) i (List.mem_range.2 hi)
      simpa using h0
    simp only [wpAny]
    refine ⟨?_,?_⟩
    · cases hr:Region.ready .any ops listed with
      | nil=>rfl
      | cons x xs =>
        have hx:x∈Region.ready .any ops listed:=by rw [hr];simp
        obtain ⟨k1,o,k2,_⟩:=mem_ready.1 hx
        have hlt:x<ops.size:=(Array.getElem?_eq_some_iff.1 k2).1
        have:=hall x hlt
        rw [Array.getD_eq_getD_getElem?,Array.getElem?_eq_getElem (by omega)] at this k1
        simp only [Option.getD_some] at this k1
        rw [this] at k1;cases k1
    · rw [allL listed hs hall] at hh hT
      exact hQ ρ w a (jn.refl _ _) (ef.refl _ _) hh hd hT (fun b q=>.inl q)
  | succ fuel ih =>
    intro listed hs hcl hcnt ρ w a hh hok hd hT hQ
    simp only [wpAny]
    have sameD:∀ j,j<ops.size→listed.getD j true=listed.getD j false:=by
      intro j hj
      rw [Array.getD_eq_getD_getElem?,Array.getD_eq_getD_getElem?,Array.getElem?_eq_getElem (by omega)];rfl
    refine ⟨fun hr=>?_,fun j hj=>?_⟩
    · have hall:∀ i,i<ops.size→listed.getD i false=true:=by
        intro i
        induction i using Nat.strongRecOn with
        | _ i ihi =>
          intro hi
          cases hl:listed.getD i false with
          | true=>rfl
          | false =>
            have ho:=Array.getElem?_eq_getElem hi
            obtain ⟨r,hrr⟩:∃ r,rs[i]? = some r:=⟨rs[i]'(by omega),List.getElem?_eq_getElem (by omega)⟩
            have hz:=zget i _ r ho hrr
            have:i∈Region.ready .any ops listed:=mem_ready.2 ⟨by rw [sameD i hi];exact hl,_,ho,fun e he hb=>ihi e.on (D.edge i _ hz e he hb) (by have:=D.edge i _ hz e he hb;omega)⟩
            rw [hr] at this;cases this
      rw [allL listed hs hall] at hh hT
      exact hQ ρ w a (jn.refl _ _) (ef.refl _ _) hh hd hT (fun b q=>.inl q)
    · obtain ⟨k1,o,ho,hpre⟩:=mem_ready.1 hj
      have hlt:j<ops.size:=(Array.getElem?_eq_some_iff.1 ho).1
      rw [sameD j hlt] at k1
      obtain ⟨r,obs',q,q',hr,hob,hone⟩:=each j o (by simpa using ho)
      have hz:=zget j o r ho hr

      have agree:∀ (i:Nat) (x:Oper×sx),(ops.toList.zip rs)[i]? = some x→i≠j→kG ops x.1 x.2 o r=false→kG ops o r x.1 x.2=false→listed.getD i false=decide (i<j):=by
        intro i x hx hne n1 n2
        have hxi:=zinv i x hx
        rcases Nat.lt_or_gt_of_ne hne with hij | hij
        · rcases D.pair i j x (o,r) hx hz hij with ⟨m,hm,hb⟩ | hap
          · rw [down listed hcl j o ho hpre i m hm hb];simp [hij]
          · simp only at hap;rw [n1] at hap;cases hap
        · rcases D.pair j i (o,r) x hz hx hij with ⟨m,hm,hb⟩ | hap
          · have : ¬ i<j:=by omega
            simp only [this,decide_false]
            cases hl:listed.getD i false with
            | false=>rfl
            | true =>
              have:=down listed hcl i x.1 hxi.1 (hcl i x.1 hxi.1 hl) j m hm hb
              rw [k1] at this;cases this
          · simp only at hap;rw [n2] at hap;cases hap
      have napT:∀ (x:Oper×sx) (t:Nat),x.1.dst=some t→t∈mD ops o→kG ops x.1 x.2 o r=false∧kG ops o r x.1 x.2=false:=by
        intro x t hdst ht
        constructor
        · cases hap:kG ops x.1 x.2 o r with
          | false=>rfl
          | true=>simp only [kG,Bool.and_eq_true] at hap;exact (sD hap.1 t (by simp [hdst]) ht).elim
        · cases hap:kG ops o r x.1 x.2 with
          | false=>rfl
          | true=>simp only [kG,Bool.and_eq_true] at hap;exact (sD hap.2.1 t (by simp [hdst]) ht).elim
      have napH:∀ (x:Oper×sx) (b:Nat),b∈kQ x.2.sets→b∈r.reads++kQ r.sets→kG ops x.1 x.2 o r=false∧kG ops o r x.1 x.2=false:=by
        intro x b hx hb
        constructor
        · cases hap:kG ops x.1 x.2 o r with
          | false=>rfl
          | true=>simp only [kG,Bool.and_eq_true] at hap;exact (sD hap.2.2.1 b hx hb).elim
        · cases hap:kG ops o r x.1 x.2 with
          | false=>rfl
          | true=>simp only [kG,Bool.and_eq_true] at hap;exact (sD hap.2.2.2 b hx hb).elim
      have eqT:∀ t∈mD ops o,(jR (fun i=>listed.getD i false) 0 (ops.toList.zip rs) (T0,h0)).1[t]? = (bv ((ops.toList.zip rs).take j) (T0,h0)).1[t]?:=by
        intro t ht
        have:=zu (ops.toList.zip rs) 0 j (T0,h0)
        rw [←this]
        refine DS _ 0 (fun k x hx hdst=>?_) rfl
        rw [Nat.zero_add,Nat.zero_add]
        by_cases hkj:k=j
        · subst hkj;rw [k1];simp
        · obtain ⟨n1,n2⟩:=napT x t hdst ht;exact agree k x hx hkj n1 n2
      have eqH:∀ b∈r.reads++kQ r.sets,ax (jR (fun i=>listed.getD i false) 0 (ops.toList.zip rs) (T0,h0)).2 b=ax (bv ((ops.toList.zip rs).take j) (T0,h0)).2 b:=by
        intro b hb
        have:=zu (ops.toList.zip rs) 0 j (T0,h0)
        rw [←this]
        refine DT _ 0 (fun k x hx cM=>?_) rfl
        rw [Nat.zero_add,Nat.zero_add]
        by_cases hkj:k=j
        · subst hkj;rw [k1];simp
        · obtain ⟨n1,n2⟩:=napH x b cM hb;exact agree k x hx hkj n1 n2
      have hloc:=Fd hone eqT (fun b hb=>eqH b (by simp [hb]))

      have L'eq:∀ i,(listed.setIfInBounds j true).getD i false=if i=j then true else listed.getD i false:=by
        intro i
        by_cases hij:i=j
        · subst hij;rw [if_pos rfl,Array.getD_eq_getD_getElem?];simp [hs,hlt]
        · rw [if_neg hij];exact getD_set_ne false (fun e=>hij e.symm)
      have step1:=zu (ops.toList.zip rs) 0 (j+1) (T0,h0)
      have hsplit:bv ((ops.toList.zip rs).take (j+1)) (T0,h0)=(vG (bv ((ops.toList.zip rs).take j) (T0,h0)).1 o.dst r.v,bu r.sets (bv ((ops.toList.zip rs).take j) (T0,h0)).2):=by
        have hjl:j<(ops.toList.zip rs).length:=by rw [hzl];exact hlt
        have:(ops.toList.zip rs).take (j+1)=(ops.toList.zip rs).take j++[(o,r)]:=by
          rw [List.take_succ_eq_append_getElem hjl]
          have:=List.getElem?_eq_getElem hjl
          rw [hz] at this
          rw [←Option.some.inj this]
        rw [this,Ad];rfl
      have newT:∀ t:Nat,(vG (jR (fun i=>listed.getD i false) 0 (ops.toList.zip rs) (T0,h0)).1 o.dst r.v)[t]? = (jR (fun i=>(listed.setIfInBounds j true).getD i false) 0 (ops.toList.zip rs) (T0,h0)).1[t]?:=by
        intro t
        rw [vK]
        by_cases hdst:o.dst=some t
        · rw [if_pos hdst]
          have e1:=eqT t (by simp [mD,hdst])
          rw [e1]
          have e2:(jR (fun i=>(listed.setIfInBounds j true).getD i false) 0 (ops.toList.zip rs) (T0,h0)).1[t]? = (bv ((ops.toList.zip rs).take (j+1)) (T0,h0)).1[t]?:=by
            rw [←step1]
            refine DS _ 0 (fun k x hx hd2=>?_) rfl
            rw [Nat.zero_add,Nat.zero_add,L'eq]
            by_cases hkj:k=j
            · subst hkj;simp
            · rw [if_neg hkj]
              obtain ⟨n1,n2⟩:=napT x t hd2 (by simp [mD,hdst])
              rw [agree k x hx hkj n1 n2]
              by_cases q:k<j<;>simp [q]<;>omega
          rw [e2,hsplit,vK,if_pos hdst]
        · rw [if_neg hdst]
          refine DS _ 0 (fun k x hx hd2=>?_) rfl
          rw [Nat.zero_add,L'eq]
          by_cases hkj:k=j
          · subst hkj;rw [hz] at hx;cases hx;exact absurd hd2 hdst
          · rw [if_neg hkj]
      have newH:∀ b:Nat,ax (jR (fun i=>(listed.setIfInBounds j true).getD i false) 0 (ops.toList.zip rs) (T0,h0)).2 b=ax (bu r.sets (jR (fun i=>listed.getD i false) 0 (ops.toList.zip rs) (T0,h0)).2) b:=by
        intro b
        by_cases hb:b∈kQ r.sets
        · rw [ln (h:=(jR (fun i=>listed.getD i false) 0 (ops.toList.zip rs) (T0,h0)).2) (h':=(bv ((ops.toList.zip rs).take j) (T0,h0)).2) r.sets (eqH b (by simp [hb]))]
          have e2:ax (jR (fun i=>(listed.setIfInBounds j true).getD i false) 0 (ops.toList.zip rs) (T0,h0)).2 b=ax (bv ((ops.toList.zip rs).take (j+1)) (T0,h0)).2 b:=by
            rw [←step1]
            refine DT _ 0 (fun k x hx hd2=>?_) rfl
            rw [Nat.zero_add,Nat.zero_add,L'eq]
            by_cases hkj:k=j
            · subst hkj;simp
            · rw [if_neg hkj]
              obtain ⟨n1,n2⟩:=napH x b hd2 (by simp [hb])
              rw [agree k x hx hkj n1 n2]
              by_cases q:k<j<;>simp [q]<;>omega
          rw [e2,hsplit]
        · rw [lp _ hb]
          refine DT _ 0 (fun k x hx hd2=>?_) rfl
          rw [Nat.zero_add,L'eq]
          by_cases hkj:k=j
          · subst hkj;rw [hz] at hx;cases hx;exact absurd hd2 hb
          · rw [if_neg hkj]
      have hS:j*lJ+lJ≤ops.size*lJ:=by rw [←Nat.succ_mul];exact Nat.mul_le_mul_right _ hlt
      refine yu hC hrun ho hloc hob hh (fun x h1 h2 hbad=>?_) (by omega) hd hT ?_
      · rcases hok _ hbad with q | ⟨i,q1,q2,q3⟩
        · omega
        · have:i=j:=Ku (y:=x-n0) (by omega) (by omega) (by omega) (by omega)
          subst this;rw [k1] at q1;cases q1
      intro ρ' w' a' E W hh' hd' hT' hok'
      have hlist:vG (jR (fun i=>listed.getD i false) 0 (ops.toList.zip rs) (T0,h0)).1 o.dst r.v=(jR (fun i=>(listed.setIfInBounds j true).getD i false) 0 (ops.toList.zip rs) (T0,h0)).1:=List.ext_getElem? newT
      rw [hlist] at hT'
      refine ih (listed.setIfInBounds j true) (by simpa using hs) (fun i x hx hl e he hb=>?_) ?_ (hh'.congr newH) (fun b hb=>?_) hd' hT' ?_
      · rw [L'eq] at hl ⊢
        by_cases hij:i=j
        · subst hij
          rw [ho] at hx;cases hx
          split
          · rfl
          · exact hpre e he hb
        · rw [if_neg hij] at hl
          split
          · rfl
          · exact hcl i x hx hl e he hb
      · have:=C2 (l:=List.range ops.size) (j:=j) (p:=fun i=>!listed.getD i false) (q:=fun i=>!(listed.setIfInBounds j true).getD i false) (List.mem_range.2 hlt) (by simp only [k1];rfl) (by simp only [L'eq,if_true];rfl)
          (fun i hi=>by
            simp only [L'eq] at hi ⊢
            split at hi
            · cases hi
            · exact hi)
        omega
      · rcases hok' b hb with q | q
        · rcases hok b q with q | ⟨i,q1,q2⟩
          · exact .inl q
          · refine .inr ⟨i,?_,q2⟩
            rw [L'eq];split
            · rfl
            · exact q1
        · exact .inr ⟨j,by rw [L'eq,if_pos rfl],q⟩
      · intro ρ'' w'' a'' E' W' hh'' hd'' hT'' hb''
        exact hQ ρ'' w'' a'' (E.trans E' W.size) (W.trans W' (fun x hx q=>E.new x hx q)) hh'' hd'' hT'' (fun b q=>by
          rcases hb'' b q with q | q
          · rcases hok' b q with q | q
            · exact .inl q
            · exact .inr (by omega)
          · exact .inr q)
theorem js{d:aj}(h:d.kept=true) :d.foreign=true:=by
  cases d<;>first | rfl | exact cQ h
mutual
def C3 (g:Nat→Option aj):Nat→AV→AV
  | 0,_=>.any
  | n+1,v =>
    match v with
    | .ptr b w i j=>match g b with
      | some d=>let d':=rn g n d;bif d'.kept then .iptr .free d' w i j else .any
      | none=>.any
    | .sl b w es i len _=>match g b with
      | some d=>let d':=rn g n d;bif d'.kept then .imm .free d' w es i len else .any
      | none=>.any
    | .fn f l1 l2=>.fn f (Ag g n l1) (Ag g n l2)
    | .agg l=>.agg (Ag g n l)
    | .tup l=>.tup (Ag g n l)
    | .iface t v=>.iface t (C3 g n v)
    | v=>v
def Ag (g:Nat→Option aj):Nat→List AV→List AV
  | 0,l=>l.map fun _=>.any
  | n+1,l =>
    match l with
    | []=>[]
    | v::l=>C3 g n v::Ag g n l
def rn (g:Nat→Option aj):Nat→aj→aj
  | 0,_=>.vs []
  | n+1,d =>
    match d with
    | .vs l=>.vs (Ag g n l)
    | d=>d
end
theorem Ah(g:Nat→Option aj)(n:Nat)(d:aj)(h:d.recKept) :(rn g n d).recKept:=by
  cases n with
  | zero=>trivial
  | succ n=>cases d<;>first | exact h | trivial
structure Gt (ρ τ:ae):Prop where
  out:τ.out=ρ.out
  live:∀ bl,τ.live bl→ρ.live bl
theorem Gt.avoid{ρ τ:ae}(L:Gt ρ τ){l:Lv}{bl:Nat}(h:ρ.avoid l bl) :τ.avoid l bl:=by
  refine pg (d:=0) (fun j _ q=>?_) h
  cases j with
  | zero=>exact L.live bl q
  | succ j=>simp only [Nat.add_zero,ae.own] at q ⊢;rw [L.out] at q;exact q
theorem bY{ρ τ:ae}(L:Gt ρ τ){w:World}{v:AV}{u:Value}(h:VR ρ w v u) :v.foreign=true→VR τ w v u:=by
  induction h using VR.rec (motive_2:=fun l c _=>aI l=true→bL τ w l c) with
  | int k n=>exact fun _=>.int k n
  | bool kn b=>exact fun _=>.bool kn b
  | flt ex x y h=>exact fun _=>.flt ex x y h
  | str s=>exact fun _=>.str s
  | nptr=>exact fun _=>.nptr
  | ptr b k i j hb=>intro hk;simp [AV.foreign] at hk
  | iptr bw d k i j bl o u ha hb hc hv hr hk hg ih=>exact fun _=>.iptr bw d k i j bl o u (L.avoid ha) hb hc (fun x v hx=>ih x v hx (aA hr hg x v hx)) hr hk hg
  | nsl=>exact fun _=>.nsl
  | esl a=>exact fun _=>.esl a
  | zsl a c=>exact fun _=>.zsl a c
  | nan n h=>exact fun _=>.nan n h
  | sl b k es i len cap cap' hb hcap hl c t hh hs=>intro hk;simp [AV.foreign] at hk
  | slEnd b k es i a=>intro hk;simp [AV.foreign] at hk
  | imm bw d k es i len cap bl o u ha hb hc hv hl hr hk hg ih=>exact fun _=>.imm bw d k es i len cap bl o u (L.avoid ha) hb hc (fun x v hx=>ih x v hx (aA hr hg x v hx)) hl hr hk hg
  | immEnd bw d k es i cap a hr hk hg=>exact fun _=>.immEnd bw d k es i cap a hr hk hg
  | fn f l1 l2 c1 c2 h1 h2 i1 i2=>intro hk;simp only [AV.foreign,Bool.and_eq_true] at hk;exact .fn f l1 l2 c1 c2 (i1 hk.1) (i2 hk.2)
  | nfn=>exact fun _=>.nfn
  | gmap ks vs bl es cl u ha hb hh hin hex hv hl hk ih=>exact fun _=>.gmap ks vs bl es cl u (L.avoid ha) hb hh hin hex (fun x v hx=>ih x v hx (ei (lI hk x v hx))) hl hk
  | gvar c bl t fr ha hb hh=>exact fun _=>.gvar c bl t fr (L.avoid ha) hb hh
  | agg l c h ih=>intro hk;exact .agg l c (ih hk)
  | tup l c h ih=>intro hk;exact .tup l c (ih hk)
  | iface t v u h ih=>intro hk;exact .iface t v u (ih hk)
  | niface=>exact fun _=>.niface
  | any u=>exact fun _=>.any u
  | nil=>exact bL.nil
  | cons v u l c h t i1 i2=>rename_i hk;simp only [aI,Bool.and_eq_true] at hk;exact bL.cons v u l c (i1 hk.1) (i2 hk.2)
mutual
theorem DU {ρ τ:ae} (L:Gt ρ τ) {w:World} {h:aN} {m:Nat} (hh:HR ρ w h m) (off:∀ b d,ax h b=some d→ρ.ok b→¬ τ.live (ρ.at_ b)):∀ (n:Nat) {v:AV} {u:Value},VR ρ w v u→VR τ w (C3 (ax h) n v) u
  | 0,v,u,hv=>.any u
  | n + 1, v, u, hv => by
    have free:∀ (b:Nat) (d:aj),ax h b=some d→ρ.ok b→τ.avoid .free (ρ.at_ b):=by
      intro b d hd hok j _
      cases j with
      | zero=>exact off b d hd hok
      | succ j=>simp only [ae.own];rw [L.out];exact hh.fresh _ (hh.real hd hok).1 j
    have content:∀ (b:Nat) (d:aj),ax h b=some d→ρ.ok b→∀ x v,(rn (ax h) n d).cell? x=some v→w.cell? ⟨ρ.at_ b,0+x,none⟩=some ((w.cell? ⟨ρ.at_ b,x,none⟩).getD undef)∧VR τ w v ((w.cell? ⟨ρ.at_ b,x,none⟩).getD undef):=by
      intro b d hd hok x v hx
      obtain ⟨_,hrk,c,t,hc,hcv⟩:=hh.real hd hok
      obtain ⟨u,q1,q2⟩:=Fe L hh off n (ρ.at_ b) (fun x v hx=>by
        obtain ⟨u,k1,k2⟩:=hcv x v hx
        exact ⟨u,by simp [World.cell?,hc,k1],k2⟩) hrk x v hx
      rw [Nat.zero_add,q1];exact ⟨rfl,q2⟩
    cases v with
    | ptr b k i j =>
      simp only [C3]
      split
      · rename_i d hd
        have hrk:=hh.rk hd
        cases hk:(rn (ax h) n d).kept with
        | false=>exact .any _
        | true =>
          simp only [cond_true]
          cases hv with | ptr _ _ _ _ hb =>
          have:=VR.iptr (ρ:=τ) (w:=w) .free (rn (ax h) n d) k i j (ρ.at_ b) 0 (fun x=>(w.cell? ⟨ρ.at_ b,x,none⟩).getD undef) (free b d hd hb) (hh.liveLt _ (hh.real hd hb).1)
            (fun x v hx=>(content b d hd hb x v hx).1) (fun x v hx=>(content b d hd hb x v hx).2) (Ah _ _ _ hrk) (fun _=>hk) (js hk)
          simpa using this
      · exact .any _
    | sl b k es i len cap =>
      simp only [C3]
      split
      · rename_i d hd
        have hrk:=hh.rk hd
        cases hk:(rn (ax h) n d).kept with
        | false=>exact .any _
        | true =>
          simp only [cond_true]
          cases hv with
          | sl _ _ _ _ _ _ cap' hb hcap hl' c t hh' hs =>
            have:=VR.imm (ρ:=τ) (w:=w) .free (rn (ax h) n d) k es i len cap' (ρ.at_ b) 0 (fun x=>(w.cell? ⟨ρ.at_ b,x,none⟩).getD undef) (free b d hd hb) (hh.liveLt _ (hh.real hd hb).1)
              (fun x v hx=>(content b d hd hb x v hx).1) (fun x v hx=>(content b d hd hb x v hx).2) (by omega) (Ah _ _ _ hrk) (fun _=>hk) (js hk)
            simpa using this
          | slEnd=>exact .immEnd _ _ _ _ _ _ _ (Ah _ _ _ hrk) (fun _=>hk) (js hk)
      · exact .any _
    | fn f l1 l2=>cases hv with | fn _ _ _ _ _ h1 h2=>exact .fn _ _ _ _ _ (mZ L hh off n h1) (mZ L hh off n h2)
    | agg l=>cases hv with | agg _ _ h1=>exact .agg _ _ (mZ L hh off n h1)
    | tup l=>cases hv with | tup _ _ h1=>exact .tup _ _ (mZ L hh off n h1)
    | iface t v=>cases hv with | iface _ _ _ h1=>exact .iface _ _ _ (DU L hh off n h1)
    | int=>exact bY L hv rfl
    | bool=>exact bY L hv rfl
    | flt=>exact bY L hv rfl
    | str=>exact bY L hv rfl
    | nptr=>exact bY L hv rfl
    | iptr=>exact bY L hv rfl
    | nsl=>exact bY L hv rfl
    | esl=>exact bY L hv rfl
    | zsl=>exact bY L hv rfl
    | nan=>exact bY L hv rfl
    | imm=>exact bY L hv rfl
    | nfn=>exact bY L hv rfl
    | gmap=>exact bY L hv rfl
    | gvar=>exact bY L hv rfl
    | niface=>exact bY L hv rfl
    | any=>exact .any _
theorem mZ {ρ τ:ae} (L:Gt ρ τ) {w:World} {h:aN} {m:Nat} (hh:HR ρ w h m) (off:∀ b d,ax h b=some d→ρ.ok b→¬ τ.live (ρ.at_ b)):∀ (n:Nat) {l:List AV} {c:List Value},bL ρ w l c→bL τ w (Ag (ax h) n l) c
  | 0,[],c,hv=>by cases hv;exact .nil
  | 0,v::l,c,hv=>by
    cases hv with | cons _ u _ c' h1 h2 =>
    have:=mZ L hh off 0 h2
    exact .cons _ _ _ _ (.any u) this
  | n+1,[],c,hv=>by cases hv;exact .nil
  | n+1,v::l,c,hv=>by
    cases hv with | cons _ u _ c' h1 h2=>exact .cons _ _ _ _ (DU L hh off n h1) (mZ L hh off n h2)
theorem Fe {ρ τ:ae} (L:Gt ρ τ) {w:World} {h:aN} {m:Nat} (hh:HR ρ w h m) (off:∀ b d,ax h b=some d→ρ.ok b→¬ τ.live (ρ.at_ b)):∀ (n:Nat) (bl:Nat) {d:aj},(∀ x v,d.cell? x=some v→∃ u,w.cell? ⟨bl,x,none⟩=some u∧VR ρ w v u)→d.recKept →
    ∀ x v,(rn (ax h) n d).cell? x=some v→∃ u,w.cell? ⟨bl,x,none⟩=some u∧VR τ w v u
  | 0,bl,d,hc,hr,x,v,hx=>by simp [rn,aj.cell?] at hx
  | n + 1, bl, d, hc, hr, x, v, hx => by
    cases d with
    | vs l =>
      simp only [rn,aj.cell?] at hx
      have hus:bL ρ w l ((List.range l.length).map fun x=>(w.cell? ⟨bl,x,none⟩).getD undef):=by
        refine mW (by simp) fun y v u q1 q2=>?_
        obtain ⟨u',k1,k2⟩:=hc y v q1
        have hlt:y<l.length:=(List.getElem?_eq_some_iff.1 q1).1
        rw [List.getElem?_map,List.getElem?_range hlt] at q2
        simp [k1] at q2;subst q2;exact k2
      have hr2:=mZ L hh off n hus
      obtain ⟨u,q1,q2⟩:=hr2.get x v hx
      rw [List.getElem?_map] at q1
      have hlt:x<l.length:=by
        rcases Nat.lt_or_ge x l.length with q | q
        · exact q
        · rw [List.getElem?_eq_none (by simpa using q)] at q1;cases q1
      rw [List.getElem?_range hlt] at q1
      obtain ⟨u',k1,_⟩:=hc x (l[x]) (List.getElem?_eq_getElem hlt)
      simp [k1] at q1;subst q1
      exact ⟨u',k1,q2⟩
    | fl xs=>obtain ⟨u,q1,q2⟩:=hc x v hx;exact ⟨u,q1,bY L q2 (aA (d:=.fl xs) hr rfl x v hx)⟩
    | ns k xs=>obtain ⟨u,q1,q2⟩:=hc x v hx;exact ⟨u,q1,bY L q2 (aA (d:=.ns k xs) hr rfl x v hx)⟩
    | bs xs=>obtain ⟨u,q1,q2⟩:=hc x v hx;exact ⟨u,q1,bY L q2 (aA (d:=.bs xs) hr rfl x v hx)⟩
    | ss xs=>obtain ⟨u,q1,q2⟩:=hc x v hx;exact ⟨u,q1,bY L q2 (aA (d:=.ss xs) hr rfl x v hx)⟩
    | rows k m get=>obtain ⟨u,q1,q2⟩:=hc x v hx;exact ⟨u,q1,bY L q2 (aA (d:=.rows k m get) hr rfl x v hx)⟩
    | cols k cs=>obtain ⟨u,q1,q2⟩:=hc x v hx;exact ⟨u,q1,bY L q2 (aA (d:=.cols k cs) hr rfl x v hx)⟩
end
mutual
def Km (σ:Nat→Option Nat):AV→AV
  | .ptr b w i j=>match σ b with | some c=>.ptr c w i j | none=>.any
  | .sl b w es i len cap=>match σ b with | some c=>.sl c w es i len cap | none=>.any
  | .fn f l1 l2=>.fn f (Ig σ l1) (Ig σ l2)
  | .agg l=>.agg (Ig σ l)
  | .tup l=>.tup (Ig σ l)
  | .iface t v=>.iface t (Km σ v)
  | v=>v
def Ig (σ:Nat→Option Nat):List AV→List AV
  | []=>[]
  | v::l=>Km σ v::Ig σ l
end
def ae.renamed(ρ:ae)(keep:List Nat) :ae :=
  { at_:=fun i=>ρ.at_ ((keep[i]?).getD 0),live:=ρ.live,out:=ρ.out,ok:=fun i=>∃ b,keep[i]? = some b∧ρ.ok b }
mutual
theorem C4 {ρ:ae} {keep:List Nat} {w:World}:∀ (v:AV) {u:Value},VR ρ w v u→VR (ρ.renamed keep) w (Km (hU keep 0) v) u
  | .ptr b k i j,u,h=>by
    simp only [Km]
    split
    · rename_i c hc
      cases h with | ptr _ _ _ _ hb =>
      obtain ⟨_,hg⟩:=sv hc
      rw [Nat.sub_zero] at hg
      have:(ρ.renamed keep).at_ c=ρ.at_ b:=by simp [ae.renamed,hg]
      rw [←this];exact .ptr _ _ _ _ ⟨b,hg,hb⟩
    · exact .any u
  | .sl b k es i len cap,u,h=>by
    simp only [Km]
    split
    · rename_i c hc
      obtain ⟨_,hg⟩:=sv hc
      rw [Nat.sub_zero] at hg
      have e:(ρ.renamed keep).at_ c=ρ.at_ b:=by simp [ae.renamed,hg]
      cases h with
      | sl _ _ _ _ _ _ cap' hb hcap hl ce t hh hs=>rw [←e] at hh ⊢;exact .sl _ _ _ _ _ _ _ ⟨b,hg,hb⟩ hcap hl ce t hh hs
      | slEnd=>exact .slEnd _ _ _ _ _
    · exact .any u
  | .fn f l1 l2,u,h=>by cases h with | fn _ _ _ _ _ h1 h2=>exact .fn _ _ _ _ _ (Ai l1 h1) (Ai l2 h2)
  | .agg l,u,h=>by cases h with | agg _ _ h1=>exact .agg _ _ (Ai l h1)
  | .tup l,u,h=>by cases h with | tup _ _ h1=>exact .tup _ _ (Ai l h1)
  | .iface t v,u,h=>by cases h with | iface _ _ _ h1=>exact .iface _ _ _ (C4 v h1)
  | .int ..,u,h=>bZ h rfl
  | .bool ..,u,h=>bZ h rfl
  | .flt ..,u,h=>bZ h rfl
  | .str ..,u,h=>bZ h rfl
  | .nptr,u,h=>bZ h rfl
  | .iptr ..,u,h=>bZ h rfl
  | .nsl,u,h=>bZ h rfl
  | .esl,u,h=>bZ h rfl
  | .zsl _,u,h=>bZ h rfl
  | .nan,u,h=>bZ h rfl
  | .imm ..,u,h=>bZ h rfl
  | .nfn,u,h=>bZ h rfl
  | .gmap ..,u,h=>bZ h rfl
  | .gvar _,u,h=>bZ h rfl
  | .niface,u,h=>bZ h rfl
  | .any,u,h=>.any u
theorem Ai {ρ:ae} {keep:List Nat} {w:World}:∀ (l:List AV) {c:List Value},bL ρ w l c→bL (ρ.renamed keep) w (Ig (hU keep 0) l) c
  | [],c,h=>by cases h;exact .nil
  | v::l,c,h=>by cases h with | cons _ u _ c' h1 h2=>exact .cons _ _ _ _ (C4 v h1) (Ai l h2)
theorem bZ {ρ:ae} {keep:List Nat} {w:World} {v:AV} {u:Value} (h:VR ρ w v u) (hf:v.foreign=true):VR (ρ.renamed keep) w v u :=
  bY (ρ:=ρ) (τ:=ρ.renamed keep) ⟨rfl,fun _ q=>q⟩ h hf
end
def LO(σ:Nat→Option Nat) :aj→aj
  | .vs l=>.vs (Ig σ l)
  | d=>d
theorem DV(σ:Nat→Option Nat) :∀ (l:List AV) (x:Nat),(Ig σ l)[x]? = (l[x]?).map (Km σ)
  | [],x=>by simp [Ig]
  | v::l,0=>by simp [Ig]
  | v::l,x+1=>by simp [Ig,DV σ l x]
theorem Jh{σ:Nat→Option Nat}{d:aj}(h:d.recKept) :(LO σ d).recKept:=by
  cases d<;>first | exact h | trivial
theorem Ff{σ:Nat→Option Nat}{d:aj}{x:Nat}{v:AV}(h:(LO σ d).cell? x=some v)(hr:d.recKept) :∃ v',d.cell? x=some v'∧(v=Km σ v'∨(v=v'∧v.foreign=true)):=by
  cases d with
  | vs l =>
    simp only [LO,aj.cell?,DV,Option.map_eq_some_iff] at h
    obtain ⟨v',h1,rfl⟩:=h
    exact ⟨v',h1,.inl rfl⟩
  | fl xs=>exact ⟨v,h,.inr ⟨rfl,aA (d:=.fl xs) hr rfl x v h⟩⟩
  | ns k xs=>exact ⟨v,h,.inr ⟨rfl,aA (d:=.ns k xs) hr rfl x v h⟩⟩
  | bs xs=>exact ⟨v,h,.inr ⟨rfl,aA (d:=.bs xs) hr rfl x v h⟩⟩
  | ss xs=>exact ⟨v,h,.inr ⟨rfl,aA (d:=.ss xs) hr rfl x v h⟩⟩
  | rows k m get=>exact ⟨v,h,.inr ⟨rfl,aA (d:=.rows k m get) hr rfl x v h⟩⟩
  | cols m cs=>exact ⟨v,h,.inr ⟨rfl,aA (d:=.cols m cs) hr rfl x v h⟩⟩
def Hr(k:Nat)(R:List Nat) :List Nat:=List.range k++R.filter fun b=>Nat.ble k b
theorem Ih{k i:Nat}{R:List Nat}(h:i<k) :(Hr k R)[i]? = some i:=by
  unfold Hr
  rw [List.getElem?_append_left (by simpa using h),List.getElem?_range h]
def lK(σ:Nat→Option Nat)(h:aN) :List Nat→List (Option aj)
  | []=>[]
  | b::l=>(ax h b).map (LO σ)::lK σ h l
theorem mE(σ:Nat→Option Nat)(h:aN) :∀ (l:List Nat) (i:Nat),(lK σ h l)[i]? = (l[i]?).map fun b=>(ax h b).map (LO σ)
  | [],i=>by simp [lK]
  | b::l,0=>by simp [lK]
  | b::l,i+1=>by simp [lK,mE σ h l i]
theorem lZ(σ:Nat→Option Nat)(h:aN) :∀ (l:List Nat),(lK σ h l).length=l.length
  | []=>rfl
  | b::l=>by simp [lK,lZ σ h l]
def Aj(k:Nat)(keep:Bool)(h:aN)(v:AV) :Option lX :=
  match keep,k with
  | true,0=>some ⟨C3 (ax h) du v,[]⟩
  | _,_ =>
    let L:=Hr k (jr (ax h) du (List.range k++DP v) [])
    bif px L then some ⟨Km (hU L 0) v,lK (hU L 0) h L⟩ else none
theorem Fg{ρ ρ0:ae}{w0 w:World}{h:aN}{m:Nat}{lent:List aj}{keep:Bool}(hh:HR ρ w h m)(hN:cP ρ0 w0 lent)(E:jn ρ0 ρ w0)(hbk:∀ i,i<lent.length→ρ.ok i→ρ0.ok i)(W:w0.heap.size≤w.heap.size){v:AV}{u:Value}(hv:VR ρ w v u){r:lX} 
    (hr:Aj lent.length keep h v=some r):r.Holds ρ0 w0 w lent.length u:=by
  unfold Aj at hr
  split at hr
  · rename_i k hk
    cases hr
    have none_ok:∀ b,¬ ρ0.ok b:=fun b q=>by have:=hN.heap.lt b q;omega
    have none_live:∀ bl,¬ ρ0.live bl:=fun bl q=>by obtain ⟨i,h1,_⟩:=hN.only bl q;exact none_ok i h1
    refine ⟨ρ0,jn.refl _ _,fun i h=>by omega,⟨fun b d q=>?_,fun b c d e q=>?_,fun bl q=>(none_live bl q).elim,fun bl q=>(none_live bl q).elim,fun j bl q=>?_,fun b q=>(none_ok b q).elim,fun x hx=>bY (τ:=ρ0) ⟨E.out.symm,fun bl q=>(none_live bl q).elim⟩ (hh.rom x hx) (ei (Rom.kept x hx))⟩,?_⟩
    · simp [bR,ax] at q
    · simp [bR,ax] at q
    · exact Nat.lt_of_lt_of_le (hN.heap.outLt j bl q) W
    · exact DU (τ:=ρ0) ⟨E.out.symm,fun bl q=>(none_live bl q).elim⟩ hh (fun _ _ _ _ q=>none_live _ q) du hv
  · simp only at hr
    generalize hL:Hr lent.length (jr (ax h) du (List.range lent.length++DP v) [])=L at hr
    cases hn:px L with
    | false=>rw [hn] at hr;cases hr
    | true =>
    rw [hn] at hr
    simp only [cond_true,Option.some.injEq] at hr;subst hr
    have idL:∀ {i:Nat},i<lent.length→L[i]? = some i:=fun q=>by rw [←hL];exact Ih q
    have atL:∀ {i b:Nat},L[i]? = some b→(ρ.renamed L).at_ i=ρ.at_ b:=fun q=>by simp [ae.renamed,q]
    refine ⟨ρ.renamed L,⟨fun b q=>?_,fun b q=>?_,E.live,E.new,E.out⟩,fun i hi q=>?_,⟨fun i d q=>?_,fun i j d e q1 q2 ok1 ok2 he=>?_,hh.fresh,hh.liveLt,hh.outLt,fun i q=>?_,fun x hx=>bZ (hh.rom x hx) (ei (Rom.kept x hx))⟩,C4 v hv⟩
    · rw [atL (idL (hN.heap.lt b q))];exact E.at_ b q
    · exact ⟨b,idL (hN.heap.lt b q),E.ok b q⟩
    · obtain ⟨b,h1,h2⟩:=q
      rw [idL hi] at h1;cases h1
      exact hbk i hi h2
    · have q:=eY q
      simp only at q
      rw [mE,Option.map_eq_some_iff] at q
      obtain ⟨b,h1,h2⟩:=q
      rw [Option.map_eq_some_iff] at h2
      obtain ⟨d0,h3,rfl⟩:=h2
      rcases hh.cell b d0 h3 with ⟨k1,k2,hr,c,t,r1,r2⟩ | ⟨k1,k2,k3,k4⟩
      · refine .inl ⟨⟨b,h1,k1⟩,by rw [atL h1];exact k2,Jh hr,c,t,by rw [atL h1];exact r1,fun x v hx=>?_⟩
        obtain ⟨v',s1,s2⟩:=Ff hx hr
        obtain ⟨u,t1,t2⟩:=r2 x v' s1
        refine ⟨u,t1,?_⟩
        rcases s2 with rfl | ⟨rfl,hf⟩
        · exact C4 v' t2
        · exact bZ t2 hf
      · refine .inr ⟨?_,?_,Jh k3,fun x=>?_⟩
        · rintro ⟨b',q1,q2⟩
          rw [h1] at q1;cases q1
          exact k1 q2
        · rw [lZ];exact (List.getElem?_eq_some_iff.1 h1).1
        · cases hc:(LO (hU L 0) d0).cell? x with
          | none=>rfl
          | some v=>obtain ⟨v',s1,_⟩:=Ff hc k3;rw [k4 x] at s1;cases s1
    · obtain ⟨b,r1,r2⟩:=ok1
      obtain ⟨c,r3,r4⟩:=ok2
      have q1:=eY q1
      have q2:=eY q2
      simp only at q1 q2
      rw [mE,r1] at q1
      rw [mE,r3] at q2
      simp only [Option.map_some,Option.some.injEq,Option.map_eq_some_iff] at q1 q2
      obtain ⟨d1,s1,_⟩:=q1
      obtain ⟨d2,s2,_⟩:=q2
      rw [atL r1,atL r3] at he
      have:=hh.inj b c d1 d2 s1 s2 r2 r4 he
      subst this
      exact py hn r1 r3
    · obtain ⟨b,r1,_⟩:=q
      simp only [lZ]
      exact (List.getElem?_eq_some_iff.1 r1).1
inductive AE where
  | normal
  | ret
  | exit (id:Nat)
def AE.real:AE→Exit
  | .normal=>.normal
  | .ret=>.ret
  | .exit id=>.exit id
abbrev KT:=Option (AE×az×List Bool×dl)
abbrev nO:=Code→az→dl→KT
def xg(C:ui)(run:dd)(ops:Array Oper)(draw:Bool)(st:az)(p:dl) :KT :=
  match draw with
  | false =>
    match Aa C run ops st.next 0 ops.toList st.tmps st.heap p with
    | some (T,h,obs,p')=>some (.normal,⟨T,h,st.next+ops.size*lJ⟩,obs,p')
    | none=>none
  | true =>
    match Af C run ops st.next 0 ops.toList st.tmps st.heap p with
    | some (rs,T,h,obs,p')=>bif Ac ops [] [] (ops.toList.zip rs) then some (.normal,⟨T,h,st.next+ops.size*lJ⟩,obs,p') else none
    | none=>none
def jZ(T:List AV)(c:Operand)(b:Bool) :List AV :=
  match c with
  | .tmp t=>T.set t (.bool true b)
  | _=>T
def zw(body:az→dl→KT) :Nat→az→dl→KT
  | 0,_,_=>none
  | n+1,st,p =>
    match body st p with
    | some (.normal,st1,o1,p1) =>
      match zw body n st1 p1 with
      | some (e,st2,o2,p2)=>some (e,st2,o1++o2,p2)
      | none=>none
    | r=>r
def Ak(C:ui)(run:dd)(N:Nat)(self:nO)(c:Code)(st:az)(p:dl) :KT :=
  match c with
  | .skip | .label _=>some (.normal,st,[],p)
  | .region _ ops draw=>xg C run ops draw st p
  | .seq a b =>
    match self a st p with
    | some (.normal,st1,o1,p1) =>
      match self b st1 p1 with
      | some (e,st2,o2,p2)=>some (e,st2,o1++o2,p2)
      | none=>none
    | r=>r
  | .cond c a b =>
    match zt (Kl st.tmps c) p with
    | some (x,o1,p1) =>
      match self (match x with | true=>a | false=>b) { st with tmps:=jZ st.tmps c x } p1 with
      | some (e,st2,o2,p2)=>some (e,st2,o1++o2,p2)
      | none=>none
    | none=>none
  | .block id b =>
    match self b st p with
    | some (.exit id',st1,o1,p1)=>bif Nat.beq id' id then some (.normal,st1,o1,p1) else some (.exit id',st1,o1,p1)
    | r=>r
  | .loop b=>zw (self b) N st p
  | .exit id=>some (.exit id,st,[],p)
  | .ret=>some (.ret,st,[],p)
  | .scope b=>self b st p
  | _=>none
structure pA where
  out:lX
  obs:List Bool
def Ji(alts:List pA)(p:dl) :Option (pA×dl) :=
  match alts,p with
  | [a],p=>some (a,p)
  | alts,none=>(alts.find? fun a=>Id a.obs).map fun a=>(a,none)
  | alts,some (k::r)=>(alts[k]?).map fun a=>(a,some r)
  | _,_=>none
theorem Ii{alts:List pA}{p p':dl}{a:pA}(h:Ji alts p=some (a,p')) :a∈alts:=by
  unfold Ji at h
  split at h
  · simp only [Option.some.injEq,Prod.mk.injEq] at h;rw [←h.1];simp
  · simp only [Option.map_eq_some_iff,Prod.mk.injEq] at h;obtain ⟨b,h1,rfl,_⟩:=h;exact List.mem_of_find?_eq_some h1
  · simp only [Option.map_eq_some_iff,Prod.mk.injEq] at h;obtain ⟨b,h1,rfl,_⟩:=h;exact List.mem_of_getElem? h1
  · cases h
abbrev vL:=FuncId→List aj→List AV→Option (List pA)
def eK(P:Program)(fn:Func)(st:az) :List ResultVar→Option (List AV×List Bool)
  | []=>some ([],[])
  | .tmp t::l =>
    match eK P fn st l with
    | some (vs,o)=>some ((st.tmps[t]?).getD .any::vs,o)
    | none=>none
  | .cell a t::l =>
    match vp P (ax st.heap) t ((st.tmps[a]?).getD .any),eK P fn st l with
    | some (v,o,_),some (vs,o')=>some (v::vs,o++o')
    | _,_=>none
def xh:List AV→AV
  | [v]=>v
  | vs=>.tup vs
def nP(fn:Func)(lent:List aj)(args:List AV) :az:=⟨args++List.replicate (fn.ntmps-args.length) (.tup []),bR 0 (lent.map some),lent.length⟩
def C5(C : ui)(S : vL)(self : nO) : dd := fun f lent args p =>
  match S f lent args with
  | some alts=>(Ji alts p).map fun r=>(r.1.out,r.1.obs,r.2)
  | none =>
    match C.P.funcs[f]? with
    | some fn =>
      match fn.body with
      | some c =>
        match self c (nP fn lent args) p with
        | some (e,st,o1,p1) =>
          match e,eK C.P fn st fn.results.toList with
          | .exit _,_=>none
          | _,some (vs,o2) =>
            match Aj lent.length (C.mode f).keep st.heap (xh vs) with
            | some r=>some (r,o1++o2,p1)
            | none=>none
          | _,none=>none
        | none=>none
      | none=>none
    | none=>none
def nQ(C:ui)(S:vL)(N:Nat) :Nat→nO
  | 0=>fun _ _ _=>none
  | n+1=>Ak C (C5 C S (nQ C S N n)) N (nQ C S N n)
def am(P:Program)(f:FuncId)(lent:List aj)(args:List AV)(r:lX) :Prop :=
  ∀ (ρ:ae) (w:World) (us:List Value),cP ρ w lent→bL ρ w args us →
    (∃ fn,P.funcs[f]? = some fn∧fn.body.isSome=true)∧Calls P f us.toArray w fun e w'=>∃ u,e=.returned u∧ef ρ.live w w'∧r.Holds ρ w w' lent.length u
def ba(P:Program)(S:vL) :Prop:=∀ f lent args alts a,S f lent args=some alts→a∈alts→ak a.obs→am P f lent args a.out
def Al(P:Program)(self:nO) :Prop :=
  ∀ c st p e st' obs p',self c st p=some (e,st',obs,p')→ak obs→∀ (ρ:ae) (a:Act) (w:World) (Q:Exit→Act→World→Prop),SR ρ st a w →
    (∀ ρ' a' w',ri ρ w st.next st' ρ' a' w'→Q e.real a' w')→c.wp P Q a w
theorem ri.trans{ρ ρ1 ρ2:ae}{w w1 w2:World}{n:Nat}{st1 st2:az}{a1 a2:Act}(h:ri ρ w n st1 ρ1 a1 w1)(k:ri ρ1 w1 st1.next st2 ρ2 a2 w2) :ri ρ w n st2 ρ2 a2 w2 :=
  ⟨h.ext.trans k.ext h.wle.size,h.wle.trans k.wle (fun x hx q=>h.ext.new x hx q),k.sr,Nat.le_trans h.le k.le,fun b q=>by
    rcases k.back b q with q | q
    · exact h.back b q
    · exact .inr (Nat.le_trans h.le q)⟩
theorem ri.refl{ρ:ae}{w:World}{st:az}{a:Act}(h:SR ρ st a w) :ri ρ w st.next st ρ a w:=⟨jn.refl _ _,ef.refl _ _,h,Nat.le_refl _,fun b q=>.inl q⟩
theorem Ij(n:Nat) :List.range n=List.range' 0 n:=List.range_eq_range'
theorem DW{C:ui}(hC:C.Ok){run:dd}(hrun:zX C.P run){id:Nat}{ops:Array Oper}{draw:Bool}{st st':az}{p p':dl}{e:AE}{obs:List Bool}(h:xg C run ops draw st p=some (e,st',obs,p')) 
    (ho:ak obs) {ρ:ae} {a:Act} {w:World} {Q:Exit→Act→World→Prop} (hs:SR ρ st a w) (hQ:∀ ρ' a' w',ri ρ w st.next st' ρ' a' w'→Q e.real a' w'):(Code.region id ops draw).wp C.P Q a w:=by
  unfold xg at h
  cases draw with
  | false =>
    simp only at h
    split at h
    case h_2=>cases h
    rename_i T hp obs' p1 hr
    simp only [Option.some.injEq,Prod.mk.injEq] at h;obtain ⟨rfl,rfl,rfl,rfl⟩:=h
    refine wp_region ?_
    rw [Ij,←Array.length_toList]
    refine vI hC hrun ops.toList 0 (fun j=>by simp) hr ho (hs.heap.le (by omega)) (fun b hb=>by have:=hs.heap.lt b hb;omega) hs.defers hs.tmps ?_
    intro ρ' w' a' E W hh hd hT hb
    exact hQ ρ' a' w' ⟨E,W,⟨hd,hT,hh⟩,Nat.le_add_right _ _,hb⟩
  | true =>
    simp only at h
    split at h
    case h_2=>cases h
    rename_i rs T hp obs' p1 hr
    cases hd:Ac ops [] [] (ops.toList.zip rs) with
    | false=>rw [hd] at h;cases h
    | true =>
      rw [hd] at h
      simp only [cond_true,Option.some.injEq,Prod.mk.injEq] at h;obtain ⟨rfl,rfl,rfl,rfl⟩:=h
      obtain ⟨s1,s2,s3⟩:=yw _ _ hr ho
      obtain ⟨ms,D⟩:=yv (ops.toList.zip rs) [] [] rfl hd ⟨fun j x hx=>by simp at hx,fun j x hx=>by simp at hx,fun i j x y hx=>by simp at hx⟩
      rw [List.nil_append] at D
      refine wp_region_any hC.mixed ?_
      have W0:=ef.drawn ρ.live w (w.drawn+1)
      have E0:=jn.refl ρ w
      have notL:∀ i,(Array.replicate ops.size false).getD i false=false:=by
        intro i;rw [Array.getD_eq_getD_getElem?]
        cases hq:(Array.replicate ops.size false)[i]? with
        | none=>rfl
        | some b=>rw [Array.getElem?_replicate] at hq;split at hq<;>simp_all
      have a0:∀ (l:List (Oper×sx)) (i:Nat) (s:List AV×aN),jR (fun i=>(Array.replicate ops.size false).getD i false) i l s=s:=by
        intro l
        induction l with
        | nil=>intro _ _;rfl
        | cons x l ih=>intro i s;simp only [jR];rw [notL i];exact ih _ _
      refine Jg hC hrun D (by rw [s1];simp) (fun j o hj=>by have:=s3 j o hj;rw [Nat.zero_add] at this;exact this) ops.size (Array.replicate ops.size false) (by simp) (fun j o _ hl=>by rw [notL] at hl;cases hl)
        (by have:=List.countP_le_length (p:=fun i=>!(Array.replicate ops.size false).getD i false) (l:=List.range ops.size);simpa using this) (ρ:=ρ) (a:=a) ?_ ?_ hs.defers ?_ ?_
      · rw [a0];exact (hs.heap.le (by omega)).drawn _
      · intro b hb;have:=hs.heap.lt b hb;exact .inl this
      · rw [a0];exact hs.tmps.mono E0 W0
      · intro ρ' w' a' E W hh hd' hT hb
        rw [s2] at hh hT
        exact hQ ρ' a' w' ⟨⟨E.at_,E.ok,E.live,fun b hb=>E.new b hb,E.out⟩,W0.trans W (fun _ _ q=>q),⟨hd',hT,hh⟩,Nat.le_add_right _ _,hb⟩
theorem Am{C:ui}{body:az→dl→KT}{b:Code}(hb:∀ st p e st' obs p',body st p=some (e,st',obs,p')→ak obs→∀ (ρ:ae) (a:Act) (w:World) (Q:Exit→Act→World→Prop),SR ρ st a w →
    (∀ ρ' a' w',ri ρ w st.next st' ρ' a' w'→Q e.real a' w')→b.wp C.P Q a w) :∀ (n:Nat) (st:az) (p:dl) (e:AE) (st':az) (obs:List Bool) (p':dl),zw body n st p=some (e,st',obs,p')→ak obs →
    ∀ (ρ:ae) (a:Act) (w:World) (Q:Exit→Act→World→Prop),SR ρ st a w→(∀ ρ' a' w',ri ρ w st.next st' ρ' a' w'→Q e.real a' w')→Code.rounds C.P b Q n a w
  | 0,st,p,e,st',obs,p',h,_,_,_,_,_,_,_=>by cases h
  | n+1,st,p,e,st',obs,p',h,ho,ρ,a,w,Q,hs,hQ=>by
    simp only [zw] at h
    rw [rounds_succ]
    split at h
    · rename_i st1 o1 p1 h1
      split at h
      case h_2=>cases h
      rename_i e2 st2 o2 p2 h2
      simp only [Option.some.injEq,Prod.mk.injEq] at h;obtain ⟨rfl,rfl,rfl,rfl⟩:=h
      rw [aC] at ho
      refine hb st p _ _ _ _ h1 ho.1 ρ a w _ hs fun ρ1 a1 w1 P1=>?_
      exact Am hb n st1 p1 _ _ _ _ h2 ho.2 ρ1 a1 w1 Q P1.sr fun ρ2 a2 w2 P2=>hQ ρ2 a2 w2 (P1.trans P2)
    · rename_i hne
      refine hb st p _ _ _ _ h ho ρ a w _ hs fun ρ1 a1 w1 P1=>?_
      have:=hQ ρ1 a1 w1 P1
      cases e with
      | normal=>exact (hne _ _ _ h).elim
      | ret=>exact this
      | exit id=>exact this
theorem Fh{C:ui}(hC:C.Ok){run:dd}(hrun:zX C.P run){N:Nat}{self:nO}(hself:Al C.P self) :Al C.P (Ak C run N self):=by
  intro c st p e st' obs p' h ho ρ a w Q hs hQ
  unfold Ak at h
  split at h
  · simp only [Option.some.injEq,Prod.mk.injEq] at h;obtain ⟨rfl,rfl,rfl,rfl⟩:=h
    exact wp_skip (hQ ρ a w (ri.refl hs))
  · simp only [Option.some.injEq,Prod.mk.injEq] at h;obtain ⟨rfl,rfl,rfl,rfl⟩:=h
    exact wp_label (hQ ρ a w (ri.refl hs))
  · exact DW hC hrun h ho hs hQ
  · rename_i x y
    refine wp_seq ?_
    split at h
    · rename_i st1 o1 p1 h1
      split at h
      case h_2=>cases h
      rename_i e2 st2 o2 p2 h2
      simp only [Option.some.injEq,Prod.mk.injEq] at h;obtain ⟨rfl,rfl,rfl,rfl⟩:=h
      rw [aC] at ho
      refine hself x st p _ _ _ _ h1 ho.1 ρ a w _ hs fun ρ1 a1 w1 P1=>?_
      exact hself y st1 p1 _ _ _ _ h2 ho.2 ρ1 a1 w1 Q P1.sr fun ρ2 a2 w2 P2=>hQ ρ2 a2 w2 (P1.trans P2)
    · rename_i hne
      refine hself x st p _ _ _ _ h ho ρ a w _ hs fun ρ1 a1 w1 P1=>?_
      have:=hQ ρ1 a1 w1 P1
      cases e with
      | normal=>exact (hne _ _ _ h).elim
      | ret=>exact this
      | exit id=>exact this
  · rename_i cc x y
    split at h
    case h_2=>cases h
    rename_i b o1 p1 h1
    split at h
    case h_2=>cases h
    rename_i e2 st2 o2 p2 h2
    simp only [Option.some.injEq,Prod.mk.injEq] at h;obtain ⟨rfl,rfl,rfl,rfl⟩:=h
    rw [aC] at ho
    have hb:=zZ (zE hs.heap.rom hs.tmps cc) h1 ho.1
    refine wp_cond hb ?_
    have hs':SR ρ { st with tmps:=jZ st.tmps cc b } a w:=by
      refine ⟨hs.defers,?_,hs.heap⟩
      cases cc with
      | tmp t =>
        simp only [jZ]
        have:bL ρ w (st.tmps.set t (.bool true b)) (a.tmps.toList.set t (.bool b)):=hs.tmps.set (.bool _ _) t
        have e:a.tmps.toList.set t (.bool b)=a.tmps.toList:=by
          apply List.ext_getElem?
          intro j
          rw [List.getElem?_set]
          split
          · rename_i q;subst q
            split
            · rename_i hlt
              simp only [Act.eval] at hb
              rw [Array.getD_eq_getD_getElem?] at hb
              have hlt':t<a.tmps.size:=by simpa using hlt
              rw [Array.getElem?_eq_getElem hlt'] at hb
              simp only [Option.getD_some] at hb
              simp [hlt',hb]
            · rename_i hge
              rw [List.getElem?_eq_none (by omega)]
          · rfl
        rw [e] at this;exact this
      | const v=>exact hs.tmps
      | global g=>exact hs.tmps
      | func f=>exact hs.tmps
    have:=hself _ _ p1 _ _ _ _ h2 ho.2 ρ a w Q hs' hQ
    cases b<;>exact this
  · rename_i id b
    refine wp_block ?_
    split at h
    · rename_i id' st1 o1 p1 h1
      cases hid:Nat.beq id' id with
      | true =>
        rw [hid] at h
        simp only [cond_true,Option.some.injEq,Prod.mk.injEq] at h;obtain ⟨rfl,rfl,rfl,rfl⟩:=h
        refine hself b st p _ _ _ _ h1 ho ρ a w _ hs fun ρ1 a1 w1 P1=>?_
        simp only [AE.real,Exit.inBlock,Nat.eq_of_beq_eq_true hid,if_true]
        exact hQ ρ1 a1 w1 P1
      | false =>
        rw [hid] at h
        simp only [cond_false,Option.some.injEq,Prod.mk.injEq] at h;obtain ⟨rfl,rfl,rfl,rfl⟩:=h
        refine hself b st p _ _ _ _ h1 ho ρ a w _ hs fun ρ1 a1 w1 P1=>?_
        have hne : ¬ id'=id:=fun e=>by subst e;simp [jS] at hid
        simp only [AE.real,Exit.inBlock,hne,if_false]
        exact hQ ρ1 a1 w1 P1
    · rename_i hne
      refine hself b st p _ _ _ _ h ho ρ a w _ hs fun ρ1 a1 w1 P1=>?_
      have:=hQ ρ1 a1 w1 P1
      cases e with
      | normal=>exact this
      | ret=>exact this
      | exit id=>exact (hne _ _ _ _ h).elim
  · rename_i b
    exact wp_loop_rounds N (Am (C:=C) (b:=b) (fun st p e st' obs p' h1 h2=>hself b st p e st' obs p' h1 h2) N st p e st' obs p' h ho ρ a w Q hs hQ)
  · simp only [Option.some.injEq,Prod.mk.injEq] at h;obtain ⟨rfl,rfl,rfl,rfl⟩:=h
    exact wp_exit (hQ ρ a w (ri.refl hs))
  · simp only [Option.some.injEq,Prod.mk.injEq] at h;obtain ⟨rfl,rfl,rfl,rfl⟩:=h
    exact wp_ret (hQ ρ a w (ri.refl hs))
  · rename_i b
    refine wp_scope_straight (hself b st p _ _ _ _ h ho ρ a w _ hs fun ρ1 a1 w1 P1=>?_)
    have:=hQ ρ1 a1 w1 P1
    cases e<;>exact this
  · cases h
theorem An{P:Program}{w:World}{t:TypeId}{x:Value}{u:Value}(hx:∃ a,x=.pointer (some a))(h:(Instr.loadAt t x).run P w=.ok u w) :(do loadVar t (←asAddr x):Sem Value).run P w=.ok u w:=by
  obtain ⟨a,rfl⟩:=hx
  simpa [Instr.loadAt,Instr.sureAddr,asAddr] using h
def xi(tmps:Array Value) :ResultVar→Sem Value
  | .tmp t=>pure (tmps.getD t undef)
  | .cell x t=>do loadVar t (←asAddr (tmps.getD x undef))
theorem Ao(fn:Func)(tmps:Array Value) :results fn tmps=(do let vs ← fn.results.mapM (xi tmps);pure (if h:vs.size=1 then vs[0] else .tuple vs)):=by
  unfold results
  congr 1
theorem rp{P:Program}{fn:Func}{st:az}{ρ:ae}{a:Act}{w:World}(hs:SR ρ st a w) :∀ (l:List ResultVar) {vs:List AV} {obs:List Bool},eK P fn st l=some (vs,obs)→ak obs →
    ∃ us:List Value,(l.mapM (xi a.tmps)).run P w=.ok us w∧bL ρ w vs us
  | [],vs,obs,h,ho=>by
    simp only [eK,Option.some.injEq,Prod.mk.injEq] at h;obtain ⟨rfl,rfl⟩:=h
    exact ⟨[],by simp,.nil⟩
  | .tmp t::l,vs,obs,h,ho=>by
    simp only [eK] at h
    split at h
    case h_2=>cases h
    rename_i vs' o' h1
    simp only [Option.some.injEq,Prod.mk.injEq] at h;obtain ⟨rfl,rfl⟩:=h
    obtain ⟨us,q1,q2⟩:=rp hs l h1 ho
    refine ⟨a.tmps.getD t undef::us,?_,.cons _ _ _ _ (zE hs.heap.rom hs.tmps (.tmp t)) q2⟩
    simp only [List.mapM_cons,xi,Sem.run_bind,Sem.run_pure,Result.andThen_ok,q1]
  | .cell x t::l,vs,obs,h,ho=>by
    simp only [eK] at h
    split at h
    case h_2=>cases h
    rename_i v o rs vs' o' h1 h2
    simp only [Option.some.injEq,Prod.mk.injEq] at h;obtain ⟨rfl,rfl⟩:=h
    rw [aC] at ho
    obtain ⟨us,q1,q2⟩:=rp hs l h2 ho.2
    have hv:=zE hs.heap.rom hs.tmps (.tmp x)
    simp only [Kl,Act.eval] at hv
    obtain ⟨u,r1,r2⟩:=yk (P:=P) hs.heap hv h1 ho.1
    have hp:∃ ad,a.tmps.getD x undef=.pointer (some ad):=by
      generalize a.tmps.getD x undef=z at hv
      unfold vp at h1
      simp only at h1
      split at h1
      · rename_i e;rw [e] at hv;cases hv;exact ⟨_,rfl⟩
      · rename_i e;rw [e] at hv;cases hv;exact ⟨_,rfl⟩
      · cases h1
    have:=An hp r1
    refine ⟨u::us,?_,.cons _ _ _ _ r2 q2⟩
    simp only [List.mapM_cons,xi,Sem.run_bind] at this ⊢
    rw [this]
    simp only [Result.andThen_ok,Sem.run_bind,q1,Sem.run_pure]
theorem Fi{P:Program}{fn:Func}{st:az}{ρ:ae}{a:Act}{w:World}(hs:SR ρ st a w){vs:List AV}{obs:List Bool}(h:eK P fn st fn.results.toList=some (vs,obs))(ho:ak obs) :
    ∃ v,(results fn a.tmps).run P w=.ok v w∧VR ρ w (xh vs) v:=by
  obtain ⟨us,q1,q2⟩:=rp hs fn.results.toList h ho
  have hl:=q2.length
  have hm:(fn.results.mapM (xi a.tmps)).run P w=.ok us.toArray w:=by
    rw [Array.mapM_eq_mapM_toList,map_eq_pure_bind,Sem.run_bind,q1,Result.andThen_ok,Sem.run_pure]
  rw [Ao,Sem.run_bind,hm,Result.andThen_ok]
  match vs,us,q2,hl with
  | [],[],q2,_=>exact ⟨.tuple #[],rfl,.tup _ _ .nil⟩
  | [v],[u],q2,_=>cases q2 with | cons _ _ _ _ h1 _=>exact ⟨u,rfl,h1⟩
  | v::v'::vs,u::u'::us,q2,_ =>
    refine ⟨.tuple (u::u'::us).toArray,?_,.tup _ _ q2⟩
    simp
theorem rq{P:Program}{f:FuncId}{fn:Func}{c:Code}(hf:P.funcs[f]? = some fn)(hc:fn.body=some c){lent:List aj}{args:List AV}{r:lX}{keep:Bool} 
    (h:∀ (ρ:ae) (w:World) (a:Act),cP ρ w lent→SR ρ (nP fn lent args) a w →
      c.wp P (fun e a' w'=>(e=.normal∨e=.ret)∧∃ ρ' st' vs obs,jn ρ ρ' w∧ef ρ.live w w'∧(∀ i,i<lent.length→ρ'.ok i→ρ.ok i)∧SR ρ' st' a' w'∧eK P fn st' fn.results.toList=some (vs,obs)∧ak obs∧Aj lent.length keep st'.heap (xh vs)=some r) a w):am P f lent args r:=by
  intro ρ w us hN hv
  refine ⟨⟨fn,hf,by rw [hc];rfl⟩,?_⟩
  refine calls_of_wp hf hc ?_
  have hlen:=hv.length
  have hs:SR ρ (nP fn lent args) { tmps:=us.toArray++Array.replicate (fn.ntmps-us.toArray.size) undef,defers:=[] } w:=by
    refine ⟨rfl,?_,hN.heap⟩
    simp only [nP,Array.toList_append,Array.toList_replicate,List.size_toArray,hlen]
    refine bL.append ?_ hv
    have:∀ n,bL ρ w (List.replicate n (.tup [])) (List.replicate n undef):=by
      intro n
      induction n with
      | zero=>exact .nil
      | succ n ih=>exact .cons _ _ _ _ (.tup [] #[] .nil) ih
    exact this _
  refine wp_mono (h ρ w _ hN hs) ?_
  rintro e a' w' ⟨he,ρ',st',vs,obs,E,W,hbk,S,hr,hob,hkeep⟩
  have fin:a'.defers=[]∧∃ v,(results fn a'.tmps).run P w'=.ok v w'∧∃ u,Ending.returned v=.returned u∧ef ρ.live w w'∧r.Holds ρ w w' lent.length u:=by
    refine ⟨S.defers,?_⟩
    obtain ⟨v,q1,q2⟩:=Fi S hr hob
    exact ⟨v,q1,v,rfl,W,Fg S.heap hN E hbk W.size q2 hkeep⟩
  rcases he with rfl | rfl
  · exact fin
  · exact fin
theorem Fj{C:ui}{S:vL}(hS:ba C.P S){self:nO}(hself:Al C.P self) :zX C.P (C5 C S self):=by
  intro f lent args p r obs p' h ho
  unfold C5 at h
  split at h
  · rename_i alts hs
    simp only [Option.map_eq_some_iff,Prod.mk.injEq] at h
    obtain ⟨⟨alt,q⟩,h1,rfl,rfl,rfl⟩:=h
    exact hS f lent args alts alt hs (Ii h1) ho
  · split at h
    case h_2=>cases h
    rename_i fn hf
    split at h
    case h_2=>cases h
    rename_i c hc
    split at h
    case h_2=>cases h
    rename_i e st o1 p1 hr
    cases hres:eK C.P fn st fn.results.toList with
    | none=>rw [hres] at h;cases e<;>cases h
    | some x =>
      obtain ⟨vs,o2⟩:=x
      rw [hres] at h
      have key:∀ (he:e=.normal∨e=.ret),(match Aj lent.length (C.mode f).keep st.heap (xh vs) with | some r=>some (r,o1++o2,p1) | none=>none)=some (r,obs,p')→am C.P f lent args r:=by
        intro he h
        split at h
        case h_2=>cases h
        rename_i r' hk
        simp only [Option.some.injEq,Prod.mk.injEq] at h;obtain ⟨rfl,rfl,rfl⟩:=h
        rw [aC] at ho
        refine rq (keep:=(C.mode f).keep) hf hc fun ρ w a hN hs=>?_
        refine hself c _ p e st o1 p1 hr ho.1 ρ a w _ hs fun ρ' a' w' P1=>⟨?_,ρ',st,vs,o2,P1.ext,P1.wle,fun i hi q=>?_,P1.sr,hres,ho.2,hk⟩
        · rcases he with rfl | rfl
          · exact .inl rfl
          · exact .inr rfl
        · rcases P1.back i q with q | q
          · exact q
          · simp only [nP] at q;omega
      cases e with
      | normal=>exact key (.inl rfl) h
      | ret=>exact key (.inr rfl) h
      | exit id=>cases h
theorem pC{C:ui}(hC:C.Ok){S:vL}(hS:ba C.P S)(N:Nat) :∀ n,Al C.P (nQ C S N n)
  | 0=>fun c st p e st' obs p' h=>by cases h
  | n+1=>Fh hC (Fj hS (pC hC hS N n)) (pC hC hS N n)
theorem yQ{C:ui}(hC:C.Ok){S:vL}(hS:ba C.P S)(N n:Nat){f:FuncId}{lent:List aj}{args:List AV}{p p':dl}{r:lX}{obs:List Bool}(h:C5 C S (nQ C S N n) f lent args p=some (r,obs,p'))(ho:ak obs) :
    am C.P f lent args r:=Fj hS (pC hC hS N n) f lent args p r obs p' h ho
def zx:List (Nat×yP)→Nat→Option yP
  | [],_=>none
  | (k,e)::l,f=>bif Nat.beq k f then some e else zx l f
def Fk:List (Nat×Jd)→Nat→Jd
  | [],_=>⟨[],false⟩
  | (k,m)::l,f=>bif Nat.beq k f then m else Fk l f
def Hs(P:Program)(l:List (Nat×yP))(ms:List (Nat×Jd)) :ui:={ P,ext:=zx l,mode:=Fk ms,wrap:=false }
theorem yx:∀ {l:List (Nat×yP)} {f:Nat} {k:yP},zx l f=some k→(f,k)∈l
  | [],f,k,h=>by cases h
  | (a,e)::l,f,k,h=>by
    simp only [zx] at h
    cases hb:Nat.beq a f with
    | true=>rw [hb] at h;simp only [cond_true,Option.some.injEq] at h;have:=Nat.eq_of_beq_eq_true hb;subst this;subst h;simp
    | false=>rw [hb] at h;simp only [cond_false] at h;exact List.mem_cons_of_mem _ (yx h)
structure Jj (P:Program) (f:Nat) (k:yP):Prop where
  fn : ∃ fn, P.funcs[f]? = some fn ∧ (fn.name == "runtime.NumGoroutine") = false ∧ fn.body.isNone = true ∧ Extern.findNext fn = none ∧ Extern.find fn = some (rh k)
def Ht(P : Program) : Bool := P.funcs.toList.all fun fn => !(fn.name == "runtime.NumGoroutine")
theorem Jk{P:Program}{l:List (Nat×yP)}{ms:List (Nat×Jd)}(hm:P.follows .mixedOrders=true)(hn:Ht P=true)(he:∀ x∈l,Jj P x.1 x.2) :(Hs P l ms).Ok:=by
  refine ⟨hm,fun f fn args w hf hb=>?_,fun f k args w hk=>?_⟩
  · have h1 : fn.name ≠ "runtime.NumGoroutine" := by
      have hmem:fn∈P.funcs.toList:=by
        have:fn∈P.funcs:=Array.mem_of_getElem? hf
        simpa using this
      have:=List.all_eq_true.1 hn fn hmem
      simpa using this
    have h2:fn.body≠none:=by intro q;rw [q] at hb;cases hb
    have hf':P.funcs[f]? = some fn:=hf
    have h3:fn.body.isNone=false:=by cases hq:fn.body<;>simp_all
    simp only [Hs,callFunc,Sem.run_bind,run_program,Result.andThen_ok,hf',beq_eq_false_iff_ne.2 h1,Bool.false_eq_true,if_false,h3,Sem.run_pure]
  · obtain ⟨fn,h1,h2,h3,h4,h5⟩:=(he _ (yx hk)).fn
    have:=run_callFunc_extern (P:=P) h1 h2 h3 h4 h5 args w
    simp only [Hs]
    rw [this,Sem.run_bind]
    rfl
def At(k:Nat)(ρ0:ae)(w0:World)(st:az)(a:Act)(w:World) :Prop:=∃ ρ,jn ρ0 ρ w0∧ef ρ0.live w0 w∧SR ρ st a w∧(∀ i,i<k→ρ.ok i→ρ0.ok i)∧k≤st.next
def Gu(lent:List aj)(st st':az) :Prop:=∀ ρ0 w0 a w,cP ρ0 w0 lent→At lent.length ρ0 w0 st a w→At lent.length ρ0 w0 st' a w
theorem Gu.refl(lent:List aj)(st:az) :Gu lent st st:=fun _ _ _ _ _ h=>h
theorem Gu.trans{lent:List aj}{a b c:az}(h:Gu lent a b)(k:Gu lent b c) :Gu lent a c:=fun _ _ _ _ hN q=>k _ _ _ _ hN (h _ _ _ _ hN q)
def Fl:AV→AV
  | .flt _ x=>.flt false x
  | .bool _ b=>.bool false b
  | v=>v
def Lq(σ:Nat→Option Nat) :aj→aj
  | .vs l=>.vs ((Ig σ l).map Fl)
  | d=>d
def xj(σ:Nat→Option Nat)(h:aN) :Nat→List Nat→aN
  | _,[]=>[]
  | i,b::l=>match ax h b with
    | some d=>(i,Lq σ d)::xj σ h (i+1) l
    | none=>xj σ h (i+1) l
def LV(b:Bool)(v u:AV) :AV :=
  match b with
  | true=>v
  | false=>u
def KU:List (Nat×AV)→Nat→AV
  | [],_=>.any
  | (k,v)::l,t=>LV (Nat.beq k t) v (KU l t)
def C6(L:List (Nat×AV)) :Nat→Nat→List AV
  | _,0=>[]
  | t,n+1=>KU L t::C6 L (t+1) n
def ao(n:Nat)(L:List (Nat×AV)) :List AV:=C6 L 0 n
def Mr(σ:Nat→Option Nat)(ks:List Nat) :Nat→List AV→List AV
  | _,[]=>[]
  | t,v::l=>(bif pv ks t then Fl (Km σ v) else .any)::Mr σ ks (t+1) l
def norm(keep ks:List Nat)(st:az) :az :=
  ⟨Mr (hU keep 0) ks 0 st.tmps,xj (hU keep 0) st.heap 0 keep,keep.length⟩
theorem Fm{ρ:ae}{w:World}{v:AV}{u:Value}(h:VR ρ w v u) :VR ρ w (Fl v) u:=by
  cases h<;>simp only [Fl]<;>first | exact .bool _ _ | (rename_i hf;refine .flt _ _ _ ?_;rcases hf with rfl | ⟨_,h2,h3⟩;exact .inl rfl;exact .inr ⟨rfl,h2,h3⟩) | skip
  case int=>exact .int _ _
  case str=>exact .str _
  case nptr=>exact .nptr
  case ptr hb=>exact .ptr _ _ _ _ hb
  case iptr=>rename_i bw d k i j bl o u' ha hb hr hg hc hv hk;exact .iptr bw d k i j bl o _ (by assumption) (by assumption) (by assumption) (by assumption) (by assumption) (by assumption) (by assumption)
  case nsl=>exact .nsl
  case esl=>exact .esl _
  case zsl=>exact .zsl _ _
  case nan=>exact .nan _ (by assumption)
  case sl=>exact .sl _ _ _ _ _ _ _ (by assumption) (by assumption) (by assumption) _ _ (by assumption) (by assumption)
  case slEnd=>exact .slEnd _ _ _ _ _
  case imm=>exact .imm _ _ _ _ _ _ _ _ _ _ (by assumption) (by assumption) (by assumption) (by assumption) (by assumption) (by assumption) (by assumption) (by assumption)
  case immEnd=>exact .immEnd _ _ _ _ _ _ _ (by assumption) (by assumption) (by assumption)
  case fn=>exact .fn _ _ _ _ _ (by assumption) (by assumption)
  case nfn=>exact .nfn
  case gmap=>exact .gmap _ _ _ _ _ _ (by assumption) (by assumption) (by assumption) (by assumption) (by assumption) (by assumption) (by assumption) (by assumption)
  case gvar=>exact .gvar _ _ _ _ (by assumption) (by assumption) (by assumption)
  case agg=>exact .agg _ _ (by assumption)
  case tup=>exact .tup _ _ (by assumption)
  case iface=>exact .iface _ _ _ (by assumption)
  case niface=>exact .niface
  case any=>exact .any _
theorem Jl{ρ:ae}{keep ks:List Nat}{w:World} :∀ (l:List AV) (t:Nat) {c:List Value},bL ρ w l c→bL (ρ.renamed keep) w (Mr (hU keep 0) ks t l) c
  | [],t,c,h=>by cases h;exact .nil
  | v::l,t,c,h=>by
    cases h with | cons _ u _ c' h1 h2 =>
    simp only [Mr]
    refine .cons _ _ _ _ ?_ (Jl l (t+1) h2)
    cases pv ks t with
    | true=>exact Fm (C4 v h1)
    | false=>exact .any u
theorem pD{σ:Nat→Option Nat}{h:aN} :∀ {l:List Nat} {i c:Nat} {d:aj},ax (xj σ h i l) c=some d→i≤c∧∃ b e,l[c-i]? = some b∧ax h b=some e∧d=Lq σ e
  | [],i,c,d,q=>by cases q
  | b::l,i,c,d,q=>by
    simp only [xj] at q
    have next:ax (xj σ h (i+1) l) c=some d→i≤c∧∃ b' e,(b::l)[c-i]? = some b'∧ax h b'=some e∧d=Lq σ e:=by
      intro q
      obtain ⟨h1,b',e,h2,h3,h4⟩:=pD q
      refine ⟨by omega,b',e,?_,h3,h4⟩
      have:c-i=(c-(i+1))+1:=by omega
      rw [this];simpa using h2
    split at q
    · rename_i e he
      simp only [ax] at q
      cases hc:Nat.beq i c with
      | true =>
        rw [hc] at q;simp only [cond_true,Option.some.injEq] at q
        have:=Nat.eq_of_beq_eq_true hc;subst this
        exact ⟨Nat.le_refl _,b,e,by simp,he,q.symm⟩
      | false=>rw [hc] at q;exact next q
    · exact next q
theorem Jm{σ:Nat→Option Nat}{d:aj}(h:d.recKept) :(Lq σ d).recKept:=by
  cases d<;>first | exact h | trivial
theorem Fo{σ:Nat→Option Nat}{d:aj}{x:Nat}{v:AV}(h:(Lq σ d).cell? x=some v)(hr:d.recKept) :∃ v',d.cell? x=some v'∧(v=Fl (Km σ v')∨(v=v'∧v.foreign=true)):=by
  cases d with
  | vs l =>
    simp only [Lq,aj.cell?,List.getElem?_map,DV,Option.map_map,Option.map_eq_some_iff,Function.comp] at h
    obtain ⟨v',h1,rfl⟩:=h
    exact ⟨v',h1,.inl rfl⟩
  | fl xs=>exact ⟨v,h,.inr ⟨rfl,aA (d:=.fl xs) hr rfl x v h⟩⟩
  | ns k xs=>exact ⟨v,h,.inr ⟨rfl,aA (d:=.ns k xs) hr rfl x v h⟩⟩
  | bs xs=>exact ⟨v,h,.inr ⟨rfl,aA (d:=.bs xs) hr rfl x v h⟩⟩
  | ss xs=>exact ⟨v,h,.inr ⟨rfl,aA (d:=.ss xs) hr rfl x v h⟩⟩
  | rows k m get=>exact ⟨v,h,.inr ⟨rfl,aA (d:=.rows k m get) hr rfl x v h⟩⟩
  | cols m cs=>exact ⟨v,h,.inr ⟨rfl,aA (d:=.cols m cs) hr rfl x v h⟩⟩
def DX:Nat→Nat→List Nat→Bool
  | 0,_,_=>true
  | _+1,_,[]=>false
  | k+1,i,b::l=>Nat.beq b i&&DX k (i+1) l
theorem Ap:∀ {k i:Nat} {l:List Nat},DX k i l=true→∀ j,j<k→l[j]? = some (i+j)
  | 0,i,l,_,j,hj=>by omega
  | k+1,i,[],h,j,hj=>by cases h
  | k+1,i,b::l,h,j,hj=>by
    simp only [DX,Bool.and_eq_true] at h
    cases j with
    | zero=>simp;exact Nat.eq_of_beq_eq_true h.1
    | succ j=>simp only [List.getElem?_cons_succ];rw [Ap h.2 j (by omega)];congr 1;omega
def Gv(k:Nat)(keep:List Nat) :Bool:=px keep&&DX k 0 keep
theorem Jn{lent:List aj}{keep ks:List Nat}(hk:Gv lent.length keep=true)(st:az) :Gu lent st (norm keep ks st):=by
  unfold Gv at hk
  rw [Bool.and_eq_true] at hk
  obtain ⟨hn,hid⟩:=hk
  have idL:∀ {i:Nat},i<lent.length→keep[i]? = some i:=fun q=>by have:=Ap hid _ q;simpa using this
  have atL:∀ {ρ:ae} {i b:Nat},keep[i]? = some b→(ρ.renamed keep).at_ i=ρ.at_ b:=fun q=>by simp [ae.renamed,q]
  rintro ρ0 w0 a w hN ⟨ρ,E,W,S,hbk,hle⟩
  refine ⟨ρ.renamed keep,⟨fun b q=>?_,fun b q=>⟨b,idL (hN.heap.lt b q),E.ok b q⟩,E.live,E.new,E.out⟩,W,⟨S.defers,Jl _ _ S.tmps,?_⟩,fun i hi q=>?_,?_⟩
  · rw [atL (idL (hN.heap.lt b q))];exact E.at_ b q
  · have hh:=S.heap
    refine ⟨fun c d q=>?_,fun c c' d d' q q' ok1 ok2 he=>?_,hh.fresh,hh.liveLt,hh.outLt,fun c q=>?_,fun x hx=>bZ (hh.rom x hx) (ei (Rom.kept x hx))⟩
    · obtain ⟨_,b,e,h1,h2,rfl⟩:=pD q
      rw [Nat.sub_zero] at h1
      rcases hh.cell b e h2 with ⟨k1,k2,hr,ce,t,r1,r2⟩ | ⟨k1,k2,k3,k4⟩
      · refine .inl ⟨⟨b,h1,k1⟩,by rw [atL h1];exact k2,Jm hr,ce,t,by rw [atL h1];exact r1,fun x v hx=>?_⟩
        obtain ⟨v',s1,s2⟩:=Fo hx hr
        obtain ⟨u,t1,t2⟩:=r2 x v' s1
        refine ⟨u,t1,?_⟩
        rcases s2 with rfl | ⟨rfl,hf⟩
        · exact Fm (C4 v' t2)
        · exact bZ t2 hf
      · refine .inr ⟨?_,(List.getElem?_eq_some_iff.1 h1).1,Jm k3,fun x=>?_⟩
        · rintro ⟨b',q1,q2⟩
          rw [h1] at q1;cases q1
          exact k1 q2
        · cases hc:(Lq (hU keep 0) e).cell? x with
          | none=>rfl
          | some v=>obtain ⟨v',s1,_⟩:=Fo hc k3;rw [k4 x] at s1;cases s1
    · obtain ⟨_,b,e,h1,h2,rfl⟩:=pD q
      obtain ⟨_,b',e',h1',h2',rfl⟩:=pD q'
      rw [Nat.sub_zero] at h1 h1'
      obtain ⟨x,x1,x2⟩:=ok1
      obtain ⟨y,y1,y2⟩:=ok2
      rw [h1] at x1;cases x1
      rw [h1'] at y1;cases y1
      rw [atL h1,atL h1'] at he
      have:=hh.inj b b' e e' h2 h2' x2 y2 he
      subst this
      exact py hn h1 h1'
    · obtain ⟨b,h1,_⟩:=q
      exact (List.getElem?_eq_some_iff.1 h1).1
  · obtain ⟨b,q1,q2⟩:=q
    rw [idL hi] at q1;cases q1
    exact hbk i hi q2
  · simp only [norm]
    rcases Nat.lt_or_ge keep.length lent.length with q | q
    · have:=idL q
      rw [List.getElem?_eq_none (Nat.le_refl _)] at this;cases this
    · exact q
inductive GP where
  | slot (t:Nat)
  | part (t i:Nat)
  | cell (b i:Nat)
def cr.empty:cr→Bool
  | .cf [] | .ci _ [] | .cb [] | .cs [] | .cfl [] | .cns _ []=>true
  | _=>false
def vM:List cr→Bool
  | []=>true
  | c::l=>c.empty&&vM l
def aj.isVoid:aj→Bool
  | .fl [] | .ns _ [] | .bs [] | .ss [] | .vs []=>true
  | .cols 0 cs=>vM cs
  | _=>false
theorem Aq{c:cr}(h:c.empty=true) :c.len=0:=by
  unfold cr.empty at h
  split at h<;>first | rfl | cases h
theorem om:∀ {l:List cr},vM l=true→∀ c∈l,c.len=0
  | [],_,c,hc=>by cases hc
  | c::l,h,x,hx=>by
    simp only [vM,Bool.and_eq_true] at h
    rcases List.mem_cons.1 hx with rfl | q
    · exact Aq h.1
    · exact om h.2 x q
theorem rr{d:aj}(h:d.isVoid=true) :d.recKept∧d.void:=by
  unfold aj.isVoid at h
  split at h
  case h_6 =>
    rename_i cs
    have:=om h
    refine ⟨this,fun x=>?_⟩
    cases hc:(aj.cols 0 cs).cell? x with
    | none=>rfl
    | some v =>
      obtain ⟨c,_,h2,h3⟩:=cE hc
      have:=qY h3
      rw [om h c h2] at this;exact absurd this (Nat.not_lt_zero _)
  case h_7=>cases h
  all_goals exact ⟨trivial,fun x=>by simp [aj.cell?]⟩
theorem Ar(b w es:Nat) :ay .nsl (.sl b w es 0 0 0):=by
  intro ρ w' u h;cases h;exact .slEnd _ _ _ _ _
theorem HR.weaken{ρ:ae}{w:World}{h:aN}{n b:Nat}{d d':aj}(hh:HR ρ w h n)(hg:ax h b=some d)(hr:d'.recKept)(hw:∀ x v',d'.cell? x=some v'→∃ v,d.cell? x=some v∧ay v v') :HR ρ w (cM h b d') n:=by
  have look:∀ x e,ax (cM h b d') x=some e→(x=b∧e=d')∨(x≠b∧ax h x=some e):=by
    intro x e hx
    rw [bD] at hx
    by_cases q:b=x
    · rw [if_pos q] at hx;cases hx;exact .inl ⟨q.symm,rfl⟩
    · rw [if_neg q] at hx;exact .inr ⟨fun e=>q e.symm,hx⟩
  have had:∀ x e,ax (cM h b d') x=some e→∃ e',ax h x=some e':=by
    intro x e hx
    rcases look x e hx with ⟨rfl,_⟩ | ⟨_,q⟩
    · exact ⟨d,hg⟩
    · exact ⟨e,q⟩
  refine ⟨fun x e hx=>?_,fun x y e f h1 h2 ok1 ok2 he=>?_,hh.fresh,hh.liveLt,hh.outLt,hh.lt,hh.rom⟩
  · rcases look x e hx with ⟨rfl,rfl⟩ | ⟨_,q⟩
    · rcases hh.cell x d hg with ⟨k1,k2,_,c,t,r1,r2⟩ | ⟨k1,k2,_,k4⟩
      · refine .inl ⟨k1,k2,hr,c,t,r1,fun y v' hy=>?_⟩
        obtain ⟨v,q1,q2⟩:=hw y v' hy
        obtain ⟨u,t1,t2⟩:=r2 y v q1
        exact ⟨u,t1,q2 _ _ _ t2⟩
      · refine .inr ⟨k1,k2,hr,fun y=>?_⟩
        cases hc:e.cell? y with
        | none=>rfl
        | some v'=>obtain ⟨v,q1,_⟩:=hw y v' hc;rw [k4 y] at q1;cases q1
    · exact hh.cell x e q
  · obtain ⟨e',q1⟩:=had x e h1
    obtain ⟨f',q2⟩:=had y f h2
    exact hh.inj x y e' f' q1 q2 ok1 ok2 he
def Gw(st:az)(pos:GP)(w es:Nat)(d:aj) :az :=
  match pos with
  | .slot t =>
    match st.tmps[t]? with
    | some .nsl=>⟨st.tmps.set t (.sl st.next w es 0 0 0),cM st.heap st.next d,st.next+1⟩
    | some .esl=>⟨st.tmps.set t (.sl st.next w es 0 0 0),cM st.heap st.next d,st.next+1⟩
    | _=>st
  | .part t i =>
    match st.tmps[t]? with
    | some (.agg l) =>
      match l[i]? with
      | some .nsl=>⟨st.tmps.set t (.agg (l.set i (.sl st.next w es 0 0 0))),cM st.heap st.next d,st.next+1⟩
      | _=>st
    | _=>st
  | .cell b i =>
    match ax st.heap b with
    | some (.vs l) =>
      match l[i]? with
      | some .nsl=>⟨st.tmps,cM (cM st.heap b (.vs (l.set i (.sl st.next w es 0 0 0)))) st.next d,st.next+1⟩
      | _=>st
    | _=>st
theorem Jo(b w es:Nat) :ay .esl (.sl b w es 0 0 0):=by
  intro ρ w' u h;cases h;exact .slEnd _ _ _ _ _
theorem nR{ρ:ae}{w:World} :∀ {l:List AV} {c:List Value} {i:Nat} {v v':AV},bL ρ w l c→l[i]? = some v→ay v v'→bL ρ w (l.set i v') c
  | _,_,i,v,v',.nil,h,_=>by simp at h
  | _,_,0,v,v',.cons a u l c h t,hi,hw=>by simp at hi;subst hi;exact .cons _ _ _ _ (hw _ _ _ h) t
  | _,_,i+1,v,v',.cons a u l c h t,hi,hw=>.cons _ _ _ _ h (nR t (by simpa using hi) hw)
theorem Gx{lent:List aj}{st:az}{pos:GP}{w es:Nat}{d:aj}(hd:d.isVoid=true) :Gu lent st (Gw st pos w es d):=by
  obtain ⟨d1,d2⟩:=rr hd
  rintro ρ0 w0 a w' hN ⟨ρ,E,W,S,hbk,hle⟩
  have hh:=S.heap
  have hno : ¬ ρ.ok st.next:=fun q=>Nat.lt_irrefl _ (hh.lt _ q)
  have h1:HR ρ w' (cM st.heap st.next d) (st.next+1):=(hh.le (Nat.le_succ _)).ghost hno (Nat.lt_succ_self _) d1 d2
  have id_:At lent.length ρ0 w0 st a w':=⟨ρ,E,W,S,hbk,hle⟩
  unfold Gw
  split
  · split
    · rename_i t h
      exact ⟨ρ,E,W,⟨S.defers,nR S.tmps h (Ar _ _ _),h1⟩,hbk,Nat.le_succ_of_le hle⟩
    · rename_i t h
      exact ⟨ρ,E,W,⟨S.defers,nR S.tmps h (Jo _ _ _),h1⟩,hbk,Nat.le_succ_of_le hle⟩
    · exact id_
  · split
    · rename_i t i l h
      split
      · rename_i h2
        refine ⟨ρ,E,W,⟨S.defers,nR S.tmps h ?_,h1⟩,hbk,Nat.le_succ_of_le hle⟩
        intro ρ w u hu
        cases hu with | agg _ c hc=>exact .agg _ _ (nR hc h2 (Ar _ _ _))
      · exact id_
    · exact id_
  · split
    · rename_i b i _ l h
      split
      · rename_i h2
        have hw:HR ρ w' (cM st.heap b (.vs (l.set i (.sl st.next w es 0 0 0)))) st.next:=by
          refine hh.weaken h trivial fun x v' hx=>?_
          simp only [aj.cell?,List.getElem?_set] at hx ⊢
          by_cases hi:i=x
          · subst hi
            rw [if_pos rfl] at hx
            split at hx
            · cases hx;exact ⟨_,h2,Ar _ _ _⟩
            · cases hx
          · rw [if_neg hi] at hx;exact ⟨v',hx,ay.refl _⟩
        exact ⟨ρ,E,W,⟨S.defers,S.tmps,(hw.le (Nat.le_succ _)).ghost hno (Nat.lt_succ_self _) d1 d2⟩,hbk,Nat.le_succ_of_le hle⟩
      · exact id_
    · exact id_
def As(f:AV→Option AV)(st:az)(pos:GP) :az :=
  match pos with
  | .slot t =>
    match st.tmps[t]? with
    | some v=>match f v with
      | some v'=>⟨st.tmps.set t v',st.heap,st.next⟩
      | none=>st
    | none=>st
  | .part t i =>
    match st.tmps[t]? with
    | some (.agg l) =>
      match l[i]? with
      | some v=>match f v with
        | some v'=>⟨st.tmps.set t (.agg (l.set i v')),st.heap,st.next⟩
        | none=>st
      | none=>st
    | _=>st
  | .cell b i =>
    match ax st.heap b with
    | some (.vs l) =>
      match l[i]? with
      | some v=>match f v with
        | some v'=>⟨st.tmps,cM st.heap b (.vs (l.set i v')),st.next⟩
        | none=>st
      | none=>st
    | _=>st
theorem ul{lent:List aj}{st:az}{pos:GP}{f:AV→Option AV}(hf:∀ v v',f v=some v'→ay v v') :Gu lent st (As f st pos):=by
  rintro ρ0 w0 a w' hN ⟨ρ,E,W,S,hbk,hle⟩
  have hh:=S.heap
  have id_:At lent.length ρ0 w0 st a w':=⟨ρ,E,W,S,hbk,hle⟩
  unfold As
  split
  · split
    · rename_i t v h
      split
      · rename_i v' hv
        exact ⟨ρ,E,W,⟨S.defers,nR S.tmps h (hf _ _ hv),hh⟩,hbk,hle⟩
      · exact id_
    · exact id_
  · split
    · rename_i t i l h
      split
      · rename_i v h2
        split
        · rename_i v' hv
          refine ⟨ρ,E,W,⟨S.defers,nR S.tmps h ?_,hh⟩,hbk,hle⟩
          intro ρ w u hu
          cases hu with | agg _ c hc=>exact .agg _ _ (nR hc h2 (hf _ _ hv))
        · exact id_
      · exact id_
    · exact id_
  · split
    · rename_i b i _ l h
      split
      · rename_i v h2
        split
        · rename_i v' hv
          have hw:HR ρ w' (cM st.heap b (.vs (l.set i v'))) st.next:=by
            refine hh.weaken h trivial fun x u hx=>?_
            simp only [aj.cell?,List.getElem?_set] at hx ⊢
            by_cases hi:i=x
            · subst hi
              rw [if_pos rfl] at hx
              split at hx
              · cases hx;exact ⟨_,h2,hf _ _ hv⟩
              · cases hx
            · rw [if_neg hi] at hx;exact ⟨u,hx,ay.refl _⟩
          exact ⟨ρ,E,W,⟨S.defers,S.tmps,hw⟩,hbk,hle⟩
        · exact id_
      · exact id_
    · exact id_
theorem nS{d:aj}(h:d.isVoid=true) :d.kept=true∧d.foreign=true:=by
  unfold aj.isVoid at h
  split at h<;>first | exact ⟨rfl,rfl⟩ | cases h
theorem Ik{d:aj}(w es:Nat)(hd:d.isVoid=true) :ay .nsl (.imm .free d w es 0 0):=by
  intro ρ w' u h;cases h;exact .immEnd _ _ _ _ _ _ _ (rr hd).1 (fun _=>(nS hd).1) (nS hd).2
theorem Il{d:aj}(w es:Nat)(hd:d.isVoid=true) :ay .esl (.imm .free d w es 0 0):=by
  intro ρ w' u h;cases h;exact .immEnd _ _ _ _ _ _ _ (rr hd).1 (fun _=>(nS hd).1) (nS hd).2
def Gy(w es:Nat)(d:aj) :AV→Option AV
  | .nsl | .esl=>some (.imm .free d w es 0 0)
  | _=>none
theorem Fp{w es:Nat}{d:aj}(hd:d.isVoid=true) :∀ v v',Gy w es d v=some v'→ay v v':=by
  intro v v' h
  unfold Gy at h
  split at h
  · cases h;exact Ik _ _ hd
  · cases h;exact Il _ _ hd
  · cases h
theorem Hu{l:Lv}{ρ:ae}{bl:Nat}(ha:ρ.avoid .free bl) :ρ.avoid l bl:=eX (fun j=>ha j (Nat.zero_le _)) _ _
def Lr(l:Lv) :AV→Option AV
  | .imm .free d w es i n=>some (.imm l d w es i n)
  | .iptr .free d w i j=>some (.iptr l d w i j)
  | _=>none
theorem Im{l:Lv} :∀ v v',Lr l v=some v'→ay v v':=by
  intro v v' h
  unfold Lr at h
  split at h
  · cases h
    intro ρ w' u hu
    cases hu with
    | imm _ _ _ _ _ _ cap bl o u ha hb hc hv hn hr hk hg=>exact .imm _ _ _ _ _ _ cap bl o u (Hu ha) hb hc hv hn hr (fun _=>hk rfl) hg
    | immEnd _ _ _ _ _ cap a hr hk hg=>exact .immEnd _ _ _ _ _ cap a hr (fun _=>hk rfl) hg
  · cases h
    intro ρ w' u hu
    cases hu with
    | iptr _ _ _ _ _ bl o u ha hb hc hv hr hk hg=>exact .iptr _ _ _ _ _ bl o u (Hu ha) hb hc hv hr (fun _=>hk rfl) hg
  · cases h
def Jp:AV→Option AV
  | .imm _ d w es i n=>some (.imm .lent d w es i n)
  | .iptr _ d w i j=>some (.iptr .lent d w i j)
  | _=>none
theorem Gz:∀ v v',Jp v=some v'→ay v v':=by
  intro v v' h
  unfold Jp at h
  split at h
  · cases h
    intro ρ w' u hu
    cases hu with
    | imm _ _ _ _ _ _ cap bl o u ha hb hc hv hn hr hk hg=>exact .imm _ _ _ _ _ _ cap bl o u (tY (O:=ρ.own) ha) hb hc hv hn hr (fun q=>by cases q) hg
    | immEnd _ _ _ _ _ cap a hr hk hg=>exact .immEnd _ _ _ _ _ cap a hr (fun q=>by cases q) hg
  · cases h
    intro ρ w' u hu
    cases hu with
    | iptr _ _ _ _ _ bl o u ha hb hc hv hr hk hg=>exact .iptr _ _ _ _ _ bl o u (tY (O:=ρ.own) ha) hb hc hv hr (fun q=>by cases q) hg
  · cases h
inductive GK where
  | own (w es:Nat) (d:aj)
  | fre (w es:Nat) (d:aj)
  | lev (l:Lv)
  | low
abbrev GL:=List (GP×GK)
def xk:GL→az→az
  | [],st=>st
  | (p,.fre w es d)::l,st=>xk l (As (Gy w es d) st p)
  | (p,.own w es d)::l,st=>xk l (Gw st p w es d)
  | (p,.lev v)::l,st=>xk l (As (Lr v) st p)
  | (p,.low)::l,st=>xk l (As Jp st p)
def jt:GL→Bool
  | []=>true
  | (_,.own _ _ d)::l=>d.isVoid&&jt l
  | (_,.fre _ _ d)::l=>d.isVoid&&jt l
  | (_,.lev _)::l=>jt l
  | (_,.low)::l=>jt l
theorem na{lent:List aj} :∀ {l:GL} {st:az},jt l=true→Gu lent st (xk l st)
  | [],st,_=>Gu.refl _ _
  | (p,.fre w es d)::l,st,h=>by
    simp only [jt,Bool.and_eq_true] at h
    exact (ul (Fp h.1)).trans (na h.2)
  | (p,.own w es d)::l,st,h=>by
    simp only [jt,Bool.and_eq_true] at h
    exact (Gx h.1).trans (na h.2)
  | (p,.lev v)::l,st,h=>(ul Im).trans (na (l:=l) (by simpa [jt] using h))
  | (p,.low)::l,st,h=>(ul Gz).trans (na (l:=l) (by simpa [jt] using h))
structure NS where
  gs:GL
  keep:List Nat
  ks:List Nat
def NS.ok(k:Nat)(s:NS) :Bool:=jt s.gs&&Gv k s.keep
def NS.on(s:NS)(st:az) :az:=norm s.keep s.ks (xk s.gs st)
theorem Jq{lent:List aj}{s:NS}(h:s.ok lent.length=true)(st:az) :Gu lent st (s.on st):=by
  unfold NS.ok at h
  rw [Bool.and_eq_true] at h
  exact (na h.1).trans (Jn h.2 _)
def cJ:Code→List Code
  | .seq a b=>cJ a++cJ b
  | .skip=>[]
  | .label _=>[]
  | c=>[c]
def BM(P:Program) :List Code→(Exit→Act→World→Prop)→Act→World→Prop
  | [],K,a,w=>K .normal a w
  | c::l,K,a,w=>c.wp P (fun e a' w'=>match e with | .normal=>BM P l K a' w' | e=>K e a' w') a w
theorem um{P:Program}{K:Exit→Act→World→Prop} :∀ (l l':List Code) (a:Act) (w:World),BM P l (fun e a' w'=>match e with | .normal=>BM P l' K a' w' | e=>K e a' w') a w→BM P (l++l') K a w
  | [],l',a,w,h=>h
  | c::l,l',a,w,h=>by
    simp only [List.cons_append,BM] at h ⊢
    refine wp_mono h ?_
    intro e a' w' q
    cases e<;>first | exact um l l' a' w' q | exact q
theorem oo{P:Program}{c:Code}{K:Exit→Act→World→Prop}{a:Act}{w:World}(h:BM P [c] K a w) :c.wp P K a w:=by
  simp only [BM] at h
  refine wp_mono h ?_
  intro e a' w' q
  cases e<;>exact q
theorem pE{P:Program} :∀ (c:Code) {K:Exit→Act→World→Prop} {a:Act} {w:World},BM P (cJ c) K a w→c.wp P K a w
  | .seq x y,K,a,w,h=>by
    simp only [cJ] at h
    refine wp_seq (pE x ?_)
    have app:∀ (l l':List Code) (a:Act) (w:World),BM P (l++l') K a w→BM P l (fun e a' w'=>match e with | .normal=>BM P l' K a' w' | e=>K e a' w') a w:=by
      intro l
      induction l with
      | nil=>intro l' a w h;exact h
      | cons c l ih =>
        intro l' a w h
        simp only [List.cons_append,BM] at h ⊢
        refine wp_mono h ?_
        intro e a' w' q
        cases e<;>first | exact ih l' a' w' q | exact q
    have:=app _ _ _ _ h
    have mono:∀ (l:List Code) (K K':Exit→Act→World→Prop) (a:Act) (w:World),(∀ e a w,K e a w→K' e a w)→BM P l K a w→BM P l K' a w:=by
      intro l
      induction l with
      | nil=>intro K K' a w hK h;exact hK _ _ _ h
      | cons c l ih =>
        intro K K' a w hK h
        simp only [BM] at h ⊢
        refine wp_mono h ?_
        intro e a' w' q
        cases e<;>first | exact ih K K' a' w' hK q | exact hK _ _ _ q
    refine mono _ _ _ _ _ ?_ this
    intro e a' w' q
    cases e<;>first | exact pE y q | exact q
  | .skip,K,a,w,h=>wp_skip h
  | .label _,K,a,w,h=>wp_label h
  | .region ..,K,a,w,h=>oo h
  | .cond ..,K,a,w,h=>oo h
  | .block ..,K,a,w,h=>oo h
  | .loop ..,K,a,w,h=>oo h
  | .exit ..,K,a,w,h=>oo h
  | .ret,K,a,w,h=>oo h
  | .scope ..,K,a,w,h=>oo h
  | .goto ..,K,a,w,h=>oo h
  | .rangeFunc ..,K,a,w,h=>oo h
  | .refuse ..,K,a,w,h=>oo h
def dm(P:Program)(lent:List aj)(cs:List Code)(st:az)(Q:AE→az→Prop) :Prop :=
  ∀ (ρ0:ae) (w0:World),cP ρ0 w0 lent→∀ (K:Exit→Act→World→Prop),(∀ e st' a' w',Q e st'→At lent.length ρ0 w0 st' a' w'→K e.real a' w')→∀ a w,At lent.length ρ0 w0 st a w→BM P cs K a w
def In(self:nO) :List Code→az→dl→KT
  | [],st,p=>some (.normal,st,[],p)
  | c::l,st,p =>
    match self c st p with
    | some (.normal,st1,o1,p1) =>
      match In self l st1 p1 with
      | some (e,st2,o2,p2)=>some (e,st2,o1++o2,p2)
      | none=>none
    | r=>r
theorem Hv{P:Program}{self:nO}(hself:Al P self) :∀ (cs:List Code) {st st':az} {p p':dl} {e:AE} {obs:List Bool},In self cs st p=some (e,st',obs,p')→ak obs→∀ {ρ:ae} {a:Act} {w:World} {Q:Exit→Act→World→Prop},SR ρ st a w →
    (∀ ρ' a' w',ri ρ w st.next st' ρ' a' w'→Q e.real a' w')→BM P cs Q a w
  | [],st,st',p,p',e,obs,h,ho,ρ,a,w,Q,hs,hQ=>by
    simp only [In,Option.some.injEq,Prod.mk.injEq] at h;obtain ⟨rfl,rfl,rfl,rfl⟩:=h
    exact hQ ρ a w (ri.refl hs)
  | c::l,st,st',p,p',e,obs,h,ho,ρ,a,w,Q,hs,hQ=>by
    simp only [In] at h
    split at h
    · rename_i st1 o1 p1 h1
      split at h
      case h_2=>cases h
      rename_i e2 st2 o2 p2 h2
      simp only [Option.some.injEq,Prod.mk.injEq] at h;obtain ⟨rfl,rfl,rfl,rfl⟩:=h
      rw [aC] at ho
      refine hself c st p _ _ _ _ h1 ho.1 ρ a w _ hs fun ρ1 a1 w1 P1=>?_
      exact Hv hself l h2 ho.2 P1.sr fun ρ2 a2 w2 P2=>hQ ρ2 a2 w2 (P1.trans P2)
    · rename_i hne
      refine hself c st p _ _ _ _ h ho ρ a w _ hs fun ρ1 a1 w1 P1=>?_
      have:=hQ ρ1 a1 w1 P1
      cases e with
      | normal=>exact (hne _ _ _ h).elim
      | ret=>exact this
      | exit id=>exact this
theorem At.post{lent:List aj}{ρ0 ρ ρ':ae}{w0 w w':World}{st st':az}{a a':Act}(E:jn ρ0 ρ w0)(W:ef ρ0.live w0 w)(hbk:∀ i,i<lent.length→ρ.ok i→ρ0.ok i)(hle:lent.length≤st.next)(h:ri ρ w st.next st' ρ' a' w') :At lent.length ρ0 w0 st' a' w' :=
  ⟨ρ',E.trans h.ext W.size,W.trans h.wle (fun x hx q=>E.new x hx q),h.sr,fun i hi q=>(h.back i q).elim (hbk i hi) (fun r=>by omega),Nat.le_trans hle h.le⟩
theorem dm.weak{P:Program}{lent:List aj}{cs:List Code}{st st1:az}{Q:AE→az→Prop}(hs:Gu lent st st1)(h:dm P lent cs st1 Q) :dm P lent cs st Q :=
  fun ρ0 w0 hN K hK a w hA=>h ρ0 w0 hN K hK a w (hs _ _ _ _ hN hA)
theorem dm.nil{P:Program}{lent:List aj}{st:az}{Q:AE→az→Prop}(h:Q .normal st) :dm P lent [] st Q :=
  fun ρ0 w0 hN K hK a w hA=>hK .normal st a w h hA
def B1(P:Program)(lent:List aj)(rest:List Code)(e:AE)(st:az)(Q:AE→az→Prop) :Prop :=
  match e with
  | .normal=>dm P lent rest st Q
  | e=>Q e st
theorem B1.exit{P:Program}{lent:List aj}{rest:List Code}{id:Nat}{st:az}{Q:AE→az→Prop}(h:Q (.exit id) st) :B1 P lent rest (.exit id) st Q:=h
theorem B1.ret{P:Program}{lent:List aj}{rest:List Code}{st:az}{Q:AE→az→Prop}(h:Q .ret st) :B1 P lent rest .ret st Q:=h
theorem B1.normal{P:Program}{lent:List aj}{rest:List Code}{st:az}{Q:AE→az→Prop}(h:dm P lent rest st Q) :B1 P lent rest .normal st Q:=h
def Jr(s:NS)(r:KT) :Option (AE×az×List Bool) :=
  match r with
  | some (e,st,obs,_)=>some (e,s.on st,obs)
  | none=>none
theorem dm.seg{C:ui}(hC:C.Ok){S:vL}(hS:ba C.P S){lent:List aj}{N n:Nat}(k:Nat)(p:dl)(s:NS){cs:List Code}{st st1:az}{e:AE}{obs:List Bool}{Q:AE→az→Prop} 
    (h:Jr s (In (nQ C S N n) (cs.take k) st p)=some (e,st1,obs)) (hn:s.ok lent.length=true) (ho:ak obs) (hr:B1 C.P lent (cs.drop k) e st1 Q):dm C.P lent cs st Q:=by
  intro ρ0 w0 hN K hK a w ⟨ρ,E,W,S1,hbk,hle⟩
  rw [←List.take_append_drop k cs]
  apply um
  unfold Jr at h
  split at h
  case h_2=>cases h
  rename_i e' st2 obs' p' hrun
  simp only [Option.some.injEq,Prod.mk.injEq] at h;obtain ⟨rfl,rfl,rfl⟩:=h
  refine Hv (pC hC hS N n) _ hrun ho S1 fun ρ' a' w' P1=>?_
  have hA:=Jq hn st2 ρ0 w0 a' w' hN (At.post (st:=st) (a:=a) E W hbk hle P1)
  cases e' with
  | normal=>exact hr ρ0 w0 hN K hK a' w' hA
  | ret=>exact hK _ _ _ _ hr hA
  | exit id=>exact hK _ _ _ _ hr hA
def vN(P:Program)(lent:List aj){σ:Type}(I:σ→az)(G:σ→Prop)(m:σ→Nat)(s:σ)(id:Nat)(rest:List Code)(Q:AE→az→Prop)(e:AE)(st:az) :Prop :=
  match e with
  | .normal=>∃ s',G s'∧m s'<m s∧st=I s'
  | .exit j=>if j=id then dm P lent rest st Q else Q (.exit j) st
  | .ret=>Q .ret st
theorem vN.out{P:Program}{lent:List aj}{σ:Type}{I:σ→az}{G:σ→Prop}{m:σ→Nat}{s:σ}{id:Nat}{rest:List Code}{Q:AE→az→Prop}{st:az}(h:dm P lent rest st Q) :vN P lent I G m s id rest Q (.exit id) st:=by
  simp only [vN,if_true];exact h
theorem vN.on{P:Program}{lent:List aj}{σ:Type}{I:σ→az}{G:σ→Prop}{m:σ→Nat}{s:σ}{id:Nat}{rest:List Code}{Q:AE→az→Prop}{st:az}(s':σ)(hs:st=I s')(hm:m s'<m s)(hG:G s') :dm P lent [] st (vN P lent I G m s id rest Q) :=
  dm.nil ⟨s',hG,hm,hs⟩
theorem dm.loop{P:Program}{lent:List aj}{σ:Type}(I:σ→az)(G:σ→Prop)(m:σ→Nat){id:Nat}{b:Code}{cs rest:List Code}{Q:AE→az→Prop}(hcs:cs=.block id (.loop b)::rest) 
    (body:∀ s,G s→dm P lent (cJ b) (I s) (vN P lent I G m s id rest Q)) (s:σ) (hs:G s):dm P lent cs (I s) Q:=by
  subst hcs
  intro ρ0 w0 hN K hK a w hA
  simp only [BM]
  refine wp_block ?_
  refine wp_loop_rounds (m s+1) ?_
  have key:∀ n s,m s<n→G s→∀ a w,At lent.length ρ0 w0 (I s) a w→Code.rounds P b (Exit.inBlock id fun (e:Exit) a' w'=>match e with | .normal=>BM P rest K a' w' | e=>K e a' w') n a w:=by
    intro n
    induction n with
    | zero=>intro s h;omega
    | succ n ih =>
      intro s hm hs a w hA
      rw [rounds_succ]
      refine pE b ?_
      refine body s hs ρ0 w0 hN _ ?_ a w hA
      intro e st' a' w' hR hA'
      cases e with
      | normal =>
        obtain ⟨s',h1,h2,rfl⟩:=hR
        exact ih s' (by omega) h1 a' w' hA'
      | ret=>exact hK _ _ _ _ hR hA'
      | exit j =>
        simp only [vN] at hR
        by_cases hj:j=id
        · subst hj
          rw [if_pos rfl] at hR
          simp only [AE.real,Exit.then,Exit.inBlock,if_true]
          exact hR ρ0 w0 hN K hK a' w' hA'
        · rw [if_neg hj] at hR
          simp only [AE.real,Exit.then,Exit.inBlock,hj,if_false]
          exact hK _ _ _ _ hR hA'
  exact key _ s (Nat.lt_succ_self _) hs a w hA
theorem dm.mono{P:Program}{lent:List aj}{cs:List Code}{st:az}{Q Q':AE→az→Prop}(hQ:∀ e st,Q e st→Q' e st)(h:dm P lent cs st Q) :dm P lent cs st Q' :=
  fun ρ0 w0 hN K hK a w hA=>h ρ0 w0 hN K (fun e st' a' w' q hA'=>hK e st' a' w' (hQ e st' q) hA') a w hA
theorem dm.block{P:Program}{lent:List aj}{id:Nat}{b:Code}{cs rest:List Code}{st:az}{Q:AE→az→Prop}(hcs:cs=.block id b::rest) 
    (h:dm P lent (cJ b) st fun e st'=>match e with | .normal=>dm P lent rest st' Q | .exit j=>if j=id then dm P lent rest st' Q else Q (.exit j) st' | .ret=>Q .ret st'):dm P lent cs st Q:=by
  subst hcs
  intro ρ0 w0 hN K hK a w hA
  simp only [BM]
  refine wp_block (pE b ?_)
  refine h ρ0 w0 hN _ ?_ a w hA
  intro e st' a' w' hR hA'
  cases e with
  | normal=>exact hR ρ0 w0 hN K hK a' w' hA'
  | ret=>exact hK _ _ _ _ hR hA'
  | exit j =>
    simp only at hR
    by_cases hj:j=id
    · subst hj
      rw [if_pos rfl] at hR
      simp only [AE.real,Exit.inBlock,if_true]
      exact hR ρ0 w0 hN K hK a' w' hA'
    · rw [if_neg hj] at hR
      simp only [AE.real,Exit.inBlock,hj,if_false]
      exact hK _ _ _ _ hR hA'
theorem dm.scope{P:Program}{lent:List aj}{b:Code}{cs rest:List Code}{st:az}{Q:AE→az→Prop}(hcs:cs=.scope b::rest) 
    (h:dm P lent (cJ b) st fun e st'=>B1 P lent rest e st' Q):dm P lent cs st Q:=by
  subst hcs
  intro ρ0 w0 hN K hK a w hA
  simp only [BM]
  refine wp_scope_straight (pE b ?_)
  refine h ρ0 w0 hN _ ?_ a w hA
  intro e st' a' w' hR hA'
  cases e with
  | normal=>exact hR ρ0 w0 hN K hK a' w' hA'
  | ret=>exact hK _ _ _ _ hR hA'
  | exit j=>exact hK _ _ _ _ hR hA'
def Hw(P:Program)(fn:Func)(k:Nat)(keep:Bool)(r:lX)(e:AE)(st:az) :Prop :=
  (e=.normal∨e=.ret)∧∃ vs obs,eK P fn st fn.results.toList=some (vs,obs)∧ak obs∧Aj k keep st.heap (xh vs)=some r
theorem dm.contract{P:Program}{f:FuncId}{fn:Func}{c:Code}(hf:P.funcs[f]? = some fn)(hc:fn.body=some c){lent:List aj}{args:List AV}{r:lX}{keep:Bool} 
    (h:dm P lent (cJ c) (nP fn lent args) (Hw P fn lent.length keep r)):am P f lent args r:=by
  refine rq (keep:=keep) hf hc ?_
  intro ρ w a hN hs
  refine pE c ?_
  refine h ρ w hN _ ?_ a w ⟨ρ,jn.refl _ _,ef.refl _ _,hs,fun _ _ q=>q,Nat.le_refl _⟩
  rintro e st' a' w' ⟨he,vs,obs,h1,h2,h3⟩ ⟨ρ',E,W,S,hbk,_⟩
  refine ⟨?_,ρ',st',vs,obs,E,W,hbk,S,h1,h2,h3⟩
  rcases he with rfl | rfl
  · exact .inl rfl
  · exact .inr rfl
def Hx(x y:Nat) :Nat:=x%9223372036854775808+y/9223372036854775808%2*9223372036854775808
def Js(x y:Nat) :Bool:=(isNaN x&&isNaN y)||x==y
theorem nT(x y:Nat) :isNaN (Hx x y)=isNaN x:=by
  rw [ra,ra];unfold Hx
  rw [Nat.add_mul_mod_self_right,Nat.mod_mod]
theorem FR.copy{e1 e2:Bool}{x y x' y':Nat}(h:FR e1 x x')(k:FR e2 y y')(hn:isNaN y=true→isNaN x=true) :FR false (Hx x y) (Hx x' y'):=by
  rcases h with rfl | ⟨h1,h2,h3⟩
  · rcases k with rfl | ⟨k1,k2,k3⟩
    · exact .inl rfl
    · exact .inr ⟨rfl,by rw [nT];exact hn k2,by rw [nT];exact hn k2⟩
  · exact .inr ⟨rfl,by rw [nT];exact h2,by rw [nT];exact h3⟩
theorem FR.same{e1 e2:Bool}{x y x' y':Nat}(h:FR e1 x x')(k:FR e2 y y') :Js x' y'=Js x y:=by
  unfold Js
  rcases h with rfl | ⟨h1,h2,h3⟩
  · rcases k with rfl | ⟨k1,k2,k3⟩
    · rfl
    · rw [k2,k3]
      cases hx:isNaN x' with
      | true=>rfl
      | false =>
        have a:(x'==y')=false:=by
          rw [beq_eq_false_iff_ne];intro e;rw [e] at hx;rw [hx] at k3;cases k3
        have b:(x'==y)=false:=by
          rw [beq_eq_false_iff_ne];intro e;rw [e] at hx;rw [hx] at k2;cases k2
        rw [a,b]
  · rcases k with rfl | ⟨k1,k2,k3⟩
    · rw [h2,h3]
      cases hx:isNaN y' with
      | true=>rfl
      | false =>
        have a:(x'==y')=false:=by
          rw [beq_eq_false_iff_ne];intro e;rw [e] at h3;rw [hx] at h3;cases h3
        have b:(x==y')=false:=by
          rw [beq_eq_false_iff_ne];intro e;rw [e] at h2;rw [hx] at h2;cases h2
        rw [a,b]
    · rw [h2,h3,k2,k3];rfl
theorem lX.Holds.weak{ρ:ae}{w w':World}{k:Nat}{v v':AV}{own:List (Option aj)}{u:Value}(h:(⟨v,own⟩:lX).Holds ρ w w' k u)(hw:∀ ρ w,VR ρ w v u→VR ρ w v' u) :(⟨v',own⟩:lX).Holds ρ w w' k u:=by
  obtain ⟨ρ',h1,h2,h3,h4⟩:=h
  exact ⟨ρ',h1,h2,h3,hw _ _ h4⟩
structure aH where
  f:FuncId
  on:List aj→List AV→Option (List pA)
def bh:List aH→vL
  | [],_,_,_=>none
  | e::l,f,lent,args=>bif Nat.beq e.f f then (match e.on lent args with | some r=>some r | none=>bh l f lent args) else bh l f lent args
def aM(P:Program)(e:aH) :Prop:=∀ lent args alts a,e.on lent args=some alts→a∈alts→ak a.obs→am P e.f lent args a.out
theorem un(P:Program) :ba P (bh []):=fun f lent args alts a h=>by cases h
theorem aw{P:Program}{e:aH}{l:List aH}(he:aM P e)(hl:ba P (bh l)) :ba P (bh (e::l)):=by
  intro f lent args alts a h ha ho
  simp only [bh] at h
  cases hb:Nat.beq e.f f with
  | false=>rw [hb] at h;exact hl f lent args alts a h ha ho
  | true =>
    rw [hb] at h
    have:=Nat.eq_of_beq_eq_true hb
    subst this
    simp only [cond_true] at h
    split at h
    · rename_i r hr
      cases h
      exact he lent args alts a hr ha ho
    · exact hl _ lent args alts a h ha ho
def one(v:AV)(obs:List Bool) :Option (List pA):=some [⟨⟨v,[]⟩,obs⟩]
def Jt(v:AV)(own:List (Option aj))(obs:List Bool) :Option (List pA):=some [⟨⟨v,own⟩,obs⟩]
theorem Io{P:Program}{f:FuncId}{lent:List aj}{args:List AV}{alts:List pA}{a:pA}{v:AV}{own:List (Option aj)}{obs:List Bool}(h:Jt v own obs=some alts)(ha:a∈alts)(ho:ak a.obs) 
    (hc:ak obs→am P f lent args ⟨v,own⟩):am P f lent args a.out:=by
  simp only [Jt,Option.some.injEq] at h;subst h
  simp only [List.mem_singleton] at ha;subst ha
  exact hc ho
theorem Ip{P:Program}{f:FuncId}{lent:List aj}{args:List AV}{alts:List pA}{a:pA}{v:AV}{obs:List Bool}(h:one v obs=some alts)(ha:a∈alts)(ho:ak a.obs) 
    (hc:ak obs→am P f lent args ⟨v,[]⟩):am P f lent args a.out:=Io (own:=[]) h ha ho hc
theorem am.run{C:ui}(hC:C.Ok){S:vL}(hS:ba C.P S)(p:dl){f:FuncId}{lent:List aj}{args:List AV}{p':dl}{r:lX}{obs:List Bool}(N n:Nat)(h:C5 C S (nQ C S N n) f lent args p=some (r,obs,p'))(ho:ak obs) :
    am C.P f lent args r:=yQ hC hS N n h ho
theorem ob{b:Bool}{l:List Bool}(h:b=true)(t:ak l) :ak (b::l):=⟨h,t⟩
theorem B2{p:Prop} [Decidable p] (h : ¬ p):(decide p==false)=true:=by simp [h]
inductive de:List AV→List AV→Prop
  | nil:de [] []
  | cons {v v':AV} {l l':List AV} (h:ay v v') (t:de l l'):de (v::l) (v'::l')
theorem de.vrs{ρ:ae}{w:World} :∀ {l l':List AV} {c:List Value},de l l'→bL ρ w l c→bL ρ w l' c
  | _,_,_,.nil,.nil=>.nil
  | _,_,_,.cons h t,.cons _ _ _ _ hv tv=>.cons _ _ _ _ (h _ _ _ hv) (de.vrs t tv)
theorem de.refl:∀ l:List AV,de l l
  | []=>.nil
  | v::l=>.cons (ay.refl v) (de.refl l)
theorem ay.agg{l l':List AV}(h:de l l') :ay (.agg l) (.agg l'):=by
  intro ρ w u hv;cases hv with | agg _ _ hl=>exact .agg _ _ (h.vrs hl)
theorem ay.tup{l l':List AV}(h:de l l') :ay (.tup l) (.tup l'):=by
  intro ρ w u hv;cases hv with | tup _ _ hl=>exact .tup _ _ (h.vrs hl)
theorem am.args{P:Program}{f:FuncId}{lent:List aj}{a a':List AV}{r:lX}(h:am P f lent a' r)(ha:de a a') :am P f lent a r :=
  fun ρ w us hN hv=>h ρ w us hN (ha.vrs hv)
theorem am.weak{P:Program}{f:FuncId}{lent:List aj}{a:List AV}{v v':AV}{own:List (Option aj)}(h:am P f lent a ⟨v,own⟩)(hw:ay v v') :am P f lent a ⟨v',own⟩:=by
  intro ρ w us hN hv
  obtain ⟨q1,q2⟩:=h ρ w us hN hv
  refine ⟨q1,q2.mono ?_⟩
  rintro e w' ⟨u,rfl,W,hu⟩
  exact ⟨u,rfl,W,hu.weak fun ρ w=>hw ρ w u⟩
theorem GA(k k' b:Bool) :ay (.bool k b) (.bool k' b):=by
  intro ρ w u h;cases h;exact .bool _ _
end Go.Plb
namespace Go.Plb
open Go.ChangeShapes Go.WideShapes Go.ChangeAt Go.RowKit Go.Deep
set_option linter.unusedSimpArgs false
set_option linter.unusedVariables false
set_option linter.unusedSectionVars false
variable [Rom]
def ae.none_:ae:={ at_:=fun _=>0,live:=fun _=>False,out:=fun _ _=>False,ok:=fun _=>False }
theorem Hy(w:World)(hr:∀ x∈Rom.tab,VR ae.none_ w x.2 (.pointer (some ⟨x.1,0,none⟩))) :cP ae.none_ w [] :=
  ⟨⟨fun b d q=>by simp [bR,ax] at q,fun b c d e q=>by simp [bR,ax] at q,fun bl q=>q.elim,fun bl q=>q.elim,fun j bl q=>q.elim,fun b q=>q.elim,hr⟩,fun bl q=>q.elim⟩
theorem nf(l:Lv)(bl:Nat) :ae.none_.avoid l bl:=eX (fun j=>by cases j<;>exact id) l 0
inductive FA where
  | i (k:IntKind) (n:Int)
  | f (x:Nat)
  | s (b:ByteArray)
  | b (b:Bool)
  | fl (xs:List Nat)
  | ns (k:IntKind) (xs:List Int)
def FA.av:FA→AV
  | .i k n=>.int k n
  | .f x=>.flt true x
  | .s z=>.str z
  | .b z=>.bool false z
  | .fl xs=>.imm .free (.fl xs) 1 1 0 xs.length
  | .ns k xs=>.imm .free (.ns k xs) 1 1 0 xs.length
theorem FA.kept(a:FA) :a.av.kept=true:=by cases a<;>rfl
inductive FT where
  | i (k:IntKind)
  | f
  | s
  | b
  | fl
  | ns (k:IntKind)
def FA.has:FT→FA→Prop
  | .i k,.i k' n=>k'=k∧(Lit.int k n).wf=true
  | .f,.f x=>(Lit.float .f64 x).wf=true
  | .s,.s z=>z.size≤maxLen
  | .b,.b _=>True
  | .fl,.fl xs=>xs.length≤maxLen∧∀ x∈xs,(Lit.float .f64 x).wf=true
  | .ns k,.ns k' xs=>k'=k∧xs.length≤maxLen∧∀ n∈xs,(Lit.int k n).wf=true
  | _,_=>False
def Kv(P:Program)(t:TypeId) :Option FT :=
  match P.underlying t with
  | some (.int k)=>some (.i k)
  | some (.float .f64)=>some .f
  | some .string=>some .s
  | some .bool=>some .b
  | some (.slice e) =>
    match P.underlying e,P.cellsOf e with
    | some (.float .f64),1=>some .fl
    | some (.int k),1=>some (.ns k)
    | _,_=>none
  | _=>none
def DY:Value→Nat
  | .float _ b=>b
  | _=>0
def DZ:Value→Int
  | .int _ n=>n
  | _=>0
theorem yy{W:World}{a:Addr}{i:Nat}{v:Value}(c:W.cell? (a.add i)=some v)(h0:a.spot=none) :a.add i=⟨a.block,a.off+i,none⟩:=by
  cases a;simp only at h0;subst h0
  unfold Addr.add;split
  · rename_i q;subst q;rfl
  · rfl
theorem pF{W:World}{a:Addr}{v:Value}(c:W.cell? a=some v) :a.spot=none:=by
  unfold World.cell? at c
  split at c
  · cases q:a.spot with
    | none=>rfl
    | some s=>rw [q] at c;simp at c
  · cases c
theorem uo{W:World}{a:Addr}{v:Value}(c:W.cell? a=some v) :a.block<W.heap.size:=by
  unfold World.cell? at c
  split at c
  · rename_i q;exact (Array.getElem?_eq_some_iff.1 q).1
  · cases c
theorem fC{α:Type}(f:Nat→α)(n x:Nat)(y:α)(h:((List.range n).map f)[x]? = some y) :x<n∧y=f x:=by
  rw [List.getElem?_map] at h
  rcases Nat.lt_or_ge x n with q | q
  · rw [List.getElem?_range q] at h;simp only [Option.map_some,Option.some.injEq] at h;exact ⟨q,h.symm⟩
  · rw [List.getElem?_eq_none (by simpa using q)] at h;cases h
variable {H : Type} {enc : TypeId × Value → H} {P : Program} {W : World}
theorem Iq{t : TypeId}{ft : FT}{fuel : Nat}{v : Value}{x : DataW H × List MemPlace}(ht : Kv P t = some ft)(h : DataW.trod enc P W 0 (fun _ => true) true fuel t [v] = some x) :
    ∃ a:FA,a.has ft∧VR ae.none_ W a.av v:=by
  cases fuel with
  | zero=>simp [DataW.trod] at h
  | succ fuel =>
  have h0:=h
  unfold Kv at ht
  split at ht
  · rename_i k hk
    cases ht
    simp only [DataW.trod,hk] at h
    cases v<;>simp at h
    rename_i k' n
    obtain ⟨⟨rfl,hw⟩,_⟩:=h
    exact ⟨.i k' n,⟨rfl,hw⟩,.int _ _⟩
  · rename_i hk
    cases ht
    simp only [DataW.trod,hk] at h
    cases v<;>simp at h
    rename_i k b
    obtain ⟨⟨rfl,hw⟩,_⟩:=h
    exact ⟨.f b,hw,.flt _ _ _ (.inl rfl)⟩
  · rename_i hk
    cases ht
    simp only [DataW.trod,hk] at h
    cases v<;>simp at h
    exact ⟨.s _,h.1,.str _⟩
  · rename_i hk
    cases ht
    simp only [DataW.trod,hk] at h
    cases v<;>simp at h
    exact ⟨.b _,trivial,.bool _ _⟩
  · rename_i e hk
    have key:∀ (he:P.cellsOf e=1),(v=.slice none 0 0)∨∃ (a:Addr) (len cap n:Nat) (V:Nat→Value),v=.slice (some a) len cap∧len≤cap∧cap≤maxLen ∧
        ∀ i,i<len→∃ y,W.cell? (a.add i)=some (V i)∧DataW.trod enc P W 0 (fun _=>true) true n e [V i]=some y:=by
      intro he
      rcases open_slice1 hk he h0 with ⟨h1,_⟩ | ⟨a,len,cap,m,n,V,D,Pl,h1,hb,hl,hm,hmm,_,hx⟩
      · simp only [List.cons.injEq,and_true] at h1
        exact .inl h1
      · simp only [List.cons.injEq,and_true] at h1
        refine .inr ⟨a,len,cap,n,V,h1,hl,hm,fun i hi=>⟨_,hx i (by rw [hmm,if_pos rfl];omega)⟩⟩
    split at ht
    · rename_i he hc
      cases ht
      rcases key hc with rfl | ⟨a,len,cap,n,V,rfl,hl,hm,hx⟩
      · exact ⟨.fl [],⟨Nat.zero_le _,fun x hx=>by cases hx⟩,.immEnd _ _ _ _ _ _ _ trivial (fun _=>rfl) rfl⟩
      · have hV:∀ i,i<len→V i=.float .f64 (DY (V i))∧(Lit.float .f64 (DY (V i))).wf=true:=by
          intro i hi
          obtain ⟨y,c1,c2⟩:=hx i hi
          cases n with
          | zero=>simp [DataW.trod] at c2
          | succ n =>
            simp only [DataW.trod,he] at c2
            cases hV:V i<;>rw [hV] at c2<;>simp at c2
            obtain ⟨⟨rfl,hw⟩,_⟩:=c2
            exact ⟨rfl,hw⟩
        refine ⟨.fl ((List.range len).map fun i=>DY (V i)),⟨by simp;omega,fun x hx=>?_⟩,?_⟩
        · simp only [List.mem_map,List.mem_range] at hx
          obtain ⟨i,hi,rfl⟩:=hx
          exact (hV i hi).2
        · simp only [FA.av,List.length_map,List.length_range]
          rcases Nat.eq_zero_or_pos len with rfl | hz
          · exact .immEnd _ _ _ _ _ _ _ trivial (fun _=>rfl) rfl
          · have h0:=pF (hx 0 hz).choose_spec.1
            have hs:a.spot=none:=by
              have e:a.add 0=a:=by simp [Addr.add]
              rw [e] at h0;exact h0
            have hcell:∀ i,i<len→W.cell? ⟨a.block,a.off+i,none⟩=some (V i):=fun i hi=>by
              obtain ⟨y,c1,_⟩:=hx i hi
              rw [yy c1 hs] at c1;exact c1
            have ha:a=⟨a.block,a.off+0*1,none⟩:=by cases a;simp only at hs;subst hs;rfl
            have:=VR.imm (ρ:=ae.none_) (w:=W) .free (.fl ((List.range len).map fun i=>DY (V i))) 1 1 0 len cap a.block a.off V (nf _ _) (uo (a:=⟨a.block,a.off+0,none⟩) (hcell 0 hz))
              (fun x v hx'=>by
                simp only [aj.cell?,Option.map_eq_some_iff] at hx'
                obtain ⟨y,h1,h2⟩:=hx'
                exact hcell x (fC _ _ _ _ h1).1)
              (fun x v hx'=>by
                simp only [aj.cell?,Option.map_eq_some_iff] at hx'
                obtain ⟨y,h1,rfl⟩:=hx'
                obtain ⟨q1,rfl⟩:=fC _ _ _ _ h1
                rw [(hV x q1).1]
                exact .flt _ _ _ (.inl rfl)) hl trivial (fun _=>rfl) rfl
            rw [ha];exact this
    · rename_i k he hc
      cases ht
      rcases key hc with rfl | ⟨a,len,cap,n,V,rfl,hl,hm,hx⟩
      · exact ⟨.ns k [],⟨rfl,Nat.zero_le _,fun x hx=>by cases hx⟩,.immEnd _ _ _ _ _ _ _ trivial (fun _=>rfl) rfl⟩
      · have hV:∀ i,i<len→V i=.int k (DZ (V i))∧(Lit.int k (DZ (V i))).wf=true:=by
          intro i hi
          obtain ⟨y,c1,c2⟩:=hx i hi
          cases n with
          | zero=>simp [DataW.trod] at c2
          | succ n =>
            simp only [DataW.trod,he] at c2
            cases hV:V i<;>rw [hV] at c2<;>simp at c2
            obtain ⟨⟨rfl,hw⟩,_⟩:=c2
            exact ⟨rfl,hw⟩
        refine ⟨.ns k ((List.range len).map fun i=>DZ (V i)),⟨rfl,by simp;omega,fun x hx=>?_⟩,?_⟩
        · simp only [List.mem_map,List.mem_range] at hx
          obtain ⟨i,hi,rfl⟩:=hx
          exact (hV i hi).2
        · simp only [FA.av,List.length_map,List.length_range]
          rcases Nat.eq_zero_or_pos len with rfl | hz
          · exact .immEnd _ _ _ _ _ _ _ trivial (fun _=>rfl) rfl
          · have h0:=pF (hx 0 hz).choose_spec.1
            have hs:a.spot=none:=by
              have e:a.add 0=a:=by simp [Addr.add]
              rw [e] at h0;exact h0
            have hcell:∀ i,i<len→W.cell? ⟨a.block,a.off+i,none⟩=some (V i):=fun i hi=>by
              obtain ⟨y,c1,_⟩:=hx i hi
              rw [yy c1 hs] at c1;exact c1
            have ha:a=⟨a.block,a.off+0*1,none⟩:=by cases a;simp only at hs;subst hs;rfl
            have:=VR.imm (ρ:=ae.none_) (w:=W) .free (.ns k ((List.range len).map fun i=>DZ (V i))) 1 1 0 len cap a.block a.off V (nf _ _) (uo (a:=⟨a.block,a.off+0,none⟩) (hcell 0 hz))
              (fun x v hx'=>by
                simp only [aj.cell?,Option.map_eq_some_iff] at hx'
                obtain ⟨y,h1,h2⟩:=hx'
                exact hcell x (fC _ _ _ _ h1).1)
              (fun x v hx'=>by
                simp only [aj.cell?,Option.map_eq_some_iff] at hx'
                obtain ⟨y,h1,rfl⟩:=hx'
                obtain ⟨q1,rfl⟩:=fC _ _ _ _ h1
                rw [(hV x q1).1]
                exact .int _ _) hl trivial (fun _=>rfl) rfl
            rw [ha];exact this
    · cases ht
  · cases ht
def FA.avs:List FA→List AV
  | []=>[]
  | a::l=>a.av::FA.avs l
def oS:List FT→List FA→Prop
  | [],[]=>True
  | t::ts,a::fas=>a.has t∧oS ts fas
  | _,_=>False
def Ls(P:Program)(t:TypeId) :Option (List FT) :=
  match P.underlying t with
  | some (.struct fs)=>bif P.cellsOf t==fs.size&&fs.toList.zipIdx.all (fun x=>x.1.offset==x.2&&P.cellsOf x.1.type==1) then fs.toList.mapM fun f=>Kv P f.type else none
  | _=>none
theorem yz{n:Nat} :∀ (fs:List Field) (o:Nat) {fts:List FT} {cs:List Value} {xs:List (DataW H×List MemPlace)},cs.length=o+fs.length→(∀ (j:Nat) (f:Field),fs[j]? = some f→f.offset=o+j∧P.cellsOf f.type=1)→fs.mapM (fun f=>Kv P f.type)=some fts →
    fs.mapM (fun f=>DataW.trod enc P W 0 (fun _=>true) true n f.type ((cs.drop f.offset).take (P.cellsOf f.type)))=some xs→∃ fas:List FA,oS fts fas∧bL ae.none_ W (FA.avs fas) (cs.drop o)
  | [],o,fts,cs,xs,hl,_,h1,h2=>by
    simp at h1;subst h1
    exact ⟨[],trivial,by rw [List.drop_eq_nil_of_le (by simp at hl;omega)];exact .nil⟩
  | f::fs,o,fts,cs,xs,hl,hf,h1,h2=>by
    simp only [List.mapM_cons,Option.pure_def,Option.bind_eq_bind,Option.bind_eq_some_iff,Option.some.injEq] at h1 h2
    obtain ⟨ft,a1,fts',a2,rfl⟩:=h1
    obtain ⟨x,b1,xs',b2,rfl⟩:=h2
    obtain ⟨e1,e2⟩:=hf 0 f rfl
    simp only [List.length_cons] at hl
    have hlt:o<cs.length:=by omega
    have hd:(cs.drop f.offset).take (P.cellsOf f.type)=[cs[o]]:=by
      rw [e1,e2,Nat.add_zero,List.drop_eq_getElem_cons hlt];rfl
    rw [hd] at b1
    obtain ⟨a,k1,k2⟩:=Iq a1 b1
    obtain ⟨fas,k3,k4⟩:=yz fs (o+1) (cs:=cs) (by omega) (fun j f' hj=>by have:=hf (j+1) f' (by simpa using hj);exact ⟨by omega,this.2⟩) a2 b2
    refine ⟨a::fas,⟨k1,k3⟩,?_⟩
    rw [List.drop_eq_getElem_cons hlt]
    exact .cons _ _ _ _ k2 k4
theorem D0{t:TypeId}{fts:List FT}{fuel:Nat}{cs:List Value}{x:DataW H×List MemPlace}(ht:Ls P t=some fts)(h:DataW.trod enc P W 0 (fun _=>true) true fuel t cs=some x) :
    ∃ fas:List FA,oS fts fas∧bL ae.none_ W (FA.avs fas) cs:=by
  unfold Ls at ht
  split at ht
  case h_2=>cases ht
  rename_i fs hk
  cases hb:(P.cellsOf t==fs.size&&fs.toList.zipIdx.all (fun x=>x.1.offset==x.2&&P.cellsOf x.1.type==1)) with
  | false=>rw [hb] at ht;cases ht
  | true =>
  rw [hb] at ht
  simp only [cond_true] at ht
  simp only [Bool.and_eq_true,beq_iff_eq,List.all_eq_true] at hb
  cases fuel with
  | zero=>simp [DataW.trod] at h
  | succ fuel =>
  simp only [DataW.trod,hk] at h
  split at h
  case isFalse=>cases h
  rename_i hlen
  simp only [Option.map_eq_some_iff] at h
  obtain ⟨xs,h1,_⟩:=h
  have:=yz fs.toList 0 (cs:=cs) (by rw [hlen,hb.1];simp) (fun j f hj=>by
    have:=hb.2 (f,j) (by rw [List.mem_zipIdx_iff_getElem?];exact hj)
    simp only at this
    exact ⟨by omega,this.2⟩) ht h1
  simpa using this
theorem Ju{W W':World}(h:ef (fun _=>False) W W') :Below W.heap.size W W' :=
  ⟨h.os,h.tape,h.output,h.size,fun k hk=>h.same k hk (fun q=>q)⟩
def nU(P:Program)(ts:List TypeId) :Bool:=ts.all fun t=>P.readableRec t&&decide (t<P.types.size)
theorem C7{W W':World}(hl:laidOutB P=true)(hb:Below W.heap.size W W') :∀ {ts:List TypeId} {vs:List Value} {ds:List (DataW H)} {ps:List MemPlace},nU P ts=true →
    DataW.TrodAll enc P W 0 (fun _=>true) true ts vs ds ps→(∀ x∈ps,x.block<W.heap.size)→∀ sp:Nat→Bool,(∀ p∈ps,sp p.block=true)→DataW.TrodAll enc P W' 0 sp true ts vs ds ps
  | [],vs,ds,ps,_,h,_,_,_=>by obtain ⟨rfl,rfl,rfl⟩:=trodAll_nil h;rfl
  | t::ts,vs,ds,ps,hp,h,hlt,sp,hsp=>by
    obtain ⟨v,vs',d,ds',p,q,rfl,rfl,rfl,h1,h2⟩:=trodAll_cons h
    simp only [nU,List.all_cons,Bool.and_eq_true,decide_eq_true_eq] at hp
    exact ⟨p,q,WideElems.Trod_stays hl hp.1.1 hp.1.2 h1 (fun x hx=>hb.same (hlt x (by simp [hx]))) (fun x hx=>hsp x (by simp [hx])),
      C7 hl hb (by simpa [nU] using hp.2) h2 (fun x hx=>hlt x (by simp [hx])) sp (fun x hx=>hsp x (by simp [hx])),rfl⟩
theorem Jv{f:Func}{s:ChangeSpec}{W W':World}{args:Array Value}{ds gs:List (DataW H)}{before:List MemPlace}{tb:TypeId}(hl:laidOutB P=true) 
    (hW:DataW.Whole enc P f.params.toList s.vars false W args.toList ds gs before) (hv:s.vars=[]) (hp:nU P f.params.toList=true)
    (hs:s.fn H (ds++gs) = { results:=[.lit (.bool true)],args:=ds }) (hr:f.resultTypes = #[tb]) (ht:P.underlying tb=some .bool) (hw:ef (fun _=>False) W W') :
    s.post enc P f false true false false W args (.bool true) W':=by
  have hb:=Ju hw
  have hlt:∀ p∈before,p.block<W.heap.size:=fun p hp=>hW.lt p hp
  have hW':=hW
  obtain ⟨p,q,hA,hV,rfl,hfz,qo⟩:=hW'
  rw [hv] at hV
  obtain ⟨rfl,rfl⟩:=trodVars_none hV
  simp only [List.append_nil] at hlt hs hW
  have harg:=C7 hl hb hp hA hlt (fun b=>decide (b<W.heap.size)) (fun x hx=>by simpa using hlt x hx)
  refine ⟨ds,[],p,[],p,[],hW,?_,?_,?_,World.keptBut_mono (fun x hx=>⟨hx,.inr (.inl hx)⟩) (hb.frame (· ∈ p)),fun e=>(by cases e)⟩
  · rw [List.append_nil,hs,hr]
    exact trodAll_mk1 (shut_bool ht true)
  · rw [List.append_nil,hs];exact harg
  · rw [hv];simp only [List.append_nil,hs];exact rfl
theorem Jw{ρ:ae}{w w':World}{k b:Bool}{u:Value}(h:(⟨.bool k b,[]⟩:lX).Holds ρ w w' 0 u) :u=.bool b:=by
  obtain ⟨ρ',_,_,_,h4⟩:=h
  cases h4;rfl
end Go.Plb
namespace Go.Plb
set_option linter.unusedSimpArgs false
set_option linter.unusedVariables false
set_option linter.unusedSectionVars false
variable [Rom]
def bo{α:Type}(o n:Nat)(l:List α) :List α:=(jU o l).take n
theorem zy{α:Type}(o n:Nat)(l:List α) :bo o n l=(l.drop o).take n:=by
  unfold bo jU;cases o<;>rfl
theorem rt{α:Type}(l:List α) :bo 0 l.length l=l:=by simp [zy]
theorem ju{α:Type}{o n:Nat}{l:List α}(h:o+n≤l.length) :(bo o n l).length=n:=by rw [zy];simp;omega
theorem Jx{α:Type}{o n:Nat}{l:List α}{i:Nat}{v:α}(h:(bo o n l)[i]? = some v) :l[o+i]? = some v:=by
  rw [zy,List.getElem?_take] at h
  split at h
  · rw [List.getElem?_drop] at h;exact h
  · cases h
def oT{α:Type}(o n:Nat)(xs:List α) :Bool:=Nat.ble (o+n) xs.length
theorem oU{α:Type}{o n:Nat}{xs:List α} :oT o n xs=true↔o+n≤xs.length:=by unfold oT;rw [Nat.ble_eq]
theorem yR{l:Lv}{d d':aj}{w es o n:Nat}(h:∀ x v,d'.cell? x=some v→d.cell? (o*w+x)=some v)(hr:d.recKept→d'.recKept)(hk:d'.kept=true)(hg:d'.foreign=true) :
    ay (.imm l d w es o n) (.imm l d' w es 0 n):=by
  intro ρ w' u hv
  cases hv with
  | imm _ _ _ _ _ _ cap bl o' u' ha hb hc hv' hl' hr' _ _ =>
    have:=VR.imm (ρ:=ρ) (w:=w') l d' w es 0 n cap bl (o'+o*w) (fun x=>u' (o*w+x)) ha hb
      (fun x v hx=>by rw [Nat.add_assoc];exact hc _ v (h x v hx)) (fun x v hx=>hv' _ v (h x v hx)) hl' (hr hr') (fun _=>hk) hg
    simpa using this
  | immEnd _ _ _ _ _ _ _ hr'=>exact .immEnd _ _ _ _ _ _ _ (hr hr') (fun _=>hk) hg
theorem yS{l:Lv}{d':aj}{w es:Nat}(hr:d'.recKept)(hk:d'.kept=true)(hg:d'.foreign=true) :ay .nsl (.imm l d' w es 0 0):=by
  intro ρ w' u hv;cases hv;exact .immEnd _ _ _ _ _ _ _ hr (fun _=>hk) hg
theorem yT{l:Lv}{d':aj}{w es:Nat}(hr:d'.recKept)(hk:d'.kept=true)(hg:d'.foreign=true) :ay .esl (.imm l d' w es 0 0):=by
  intro ρ w' u hv;cases hv;exact .immEnd _ _ _ _ _ _ _ hr (fun _=>hk) hg
theorem de.get:∀ {l1 l2:List AV},de l1 l2→∀ {x:Nat} {v:AV},l2[x]? = some v→∃ v0,l1[x]? = some v0∧ay v0 v
  | _,_,.nil,x,v,h=>by simp at h
  | _,_,.cons a t,0,v,h=>by simp at h;subst h;exact ⟨_,rfl,a⟩
  | _,_,.cons a t,x+1,v,h=>by
    obtain ⟨v0,h1,h2⟩:=de.get t (by simpa using h)
    exact ⟨v0,by simpa using h1,h2⟩
theorem Au{lv:Lv}{l1 l2:List AV}{k i j:Nat}(h:de l1 l2)(hk:bF l1=true→bF l2=true)(hg:aI l1=true→aI l2=true) :ay (.iptr lv (.vs l1) k i j) (.iptr lv (.vs l2) k i j):=by
  intro ρ w u hv
  cases hv with | iptr _ _ _ _ _ bl o u' ha hb hc hv' hr hk' hg' =>
  refine .iptr _ _ _ _ _ bl o u' ha hb (fun x v hx=>?_) (fun x v hx=>?_) trivial (fun q=>hk (hk' q)) (hg hg')
  · obtain ⟨v0,h1,h2⟩:=h.get hx
    exact hc x v0 h1
  · obtain ⟨v0,h1,h2⟩:=h.get hx
    exact h2 _ _ _ (hv' x v0 h1)
theorem ay.fn{f:Fn}{a b a' b':List AV}(h:de a a')(k:de b b') :ay (.fn f a b) (.fn f a' b'):=by
  intro ρ w u hv
  cases hv with | fn _ _ _ c1 c2 h1 h2=>exact .fn _ _ _ _ _ (h.vrs h1) (k.vrs h2)
theorem ay.iface{t:TypeId}{a b:AV}(h:ay a b) :ay (.iface t a) (.iface t b):=by
  intro ρ w u hv
  cases hv with | iface _ _ u h1=>exact .iface _ _ _ (h _ _ _ h1)
theorem ay.any(v:AV) :ay v .any:=fun _ _ u _=>.any u
inductive CK where
  | cf
  | ci (k:IntKind)
  | cb
  | cs
  | cfl
  | cns (k:IntKind)
def CK.Ty:CK→Type
  | .cf=>List Nat
  | .ci _=>List Int
  | .cb=>List Bool
  | .cs=>List ByteArray
  | .cfl=>List (List Nat)
  | .cns _=>List (List Int)
def CK.fit:(k:CK)→(o n:Nat)→cr→Option k.Ty
  | .cf,o,n,.cf xs=>some (bo o n xs)
  | .ci k,o,n,.ci k' xs=>bif bB k k' then some (bo o n xs) else none
  | .cb,o,n,.cb xs=>some (bo o n xs)
  | .cs,o,n,.cs xs=>some (bo o n xs)
  | .cfl,o,n,.cfl xs=>some (bo o n xs)
  | .cns k,o,n,.cns k' xs=>bif bB k k' then some (bo o n xs) else none
  | _,_,_,_=>none
def CK.emp:(k:CK)→k.Ty
  | .cf=>([]:List Nat)
  | .ci _=>([]:List Int)
  | .cb=>([]:List Bool)
  | .cs=>([]:List ByteArray)
  | .cfl=>([]:List (List Nat))
  | .cns _=>([]:List (List Int))
def CK.col:(k:CK)→k.Ty→cr
  | .cf,xs=>.cf xs
  | .ci k,xs=>.ci k xs
  | .cb,xs=>.cb xs
  | .cs,xs=>.cs xs
  | .cfl,xs=>.cfl xs
  | .cns k,xs=>.cns k xs
theorem mU{a b:IntKind} :bB a b=true↔a=b:=by simp [bB]
theorem lq{α:Type}{f:α→AV}{o n i:Nat}{xs:List α}{v:AV}(h:((bo o n xs)[i]?).map f=some v) :(xs[o+i]?).map f=some v:=by
  simp only [Option.map_eq_some_iff] at h ⊢
  obtain ⟨y,h1,h2⟩:=h
  exact ⟨y,Jx h1,h2⟩
theorem CK.fit_spec:∀ {k:CK} {o n:Nat} {c:cr} {t:k.Ty},k.fit o n c=some t→(o+n≤c.len→(k.col t).len=n)∧∀ i v,(k.col t).cell? i=some v→c.cell? (o+i)=some v:=by
  intro k o n c t h
  cases k<;>cases c<;>simp only [CK.fit] at h<;>try (cases h;done)
  case cf.cf xs=>cases h;exact ⟨fun q=>ju q,fun i v q=>lq q⟩
  case ci.ci k k' xs =>
    cases e:bB k k' with
    | false=>rw [e] at h;cases h
    | true=>rw [e] at h;cases h;cases (mU.1 e);exact ⟨fun q=>ju q,fun i v q=>lq q⟩
  case cb.cb xs=>cases h;exact ⟨fun q=>ju q,fun i v q=>lq q⟩
  case cs.cs xs=>cases h;exact ⟨fun q=>ju q,fun i v q=>lq q⟩
  case cfl.cfl xs=>cases h;exact ⟨fun q=>ju q,fun i v q=>lq q⟩
  case cns.cns k k' xs =>
    cases e:bB k k' with
    | false=>rw [e] at h;cases h
    | true=>rw [e] at h;cases h;cases (mU.1 e);exact ⟨fun q=>ju q,fun i v q=>lq q⟩
theorem CK.emp_len:∀ (k:CK),(k.col k.emp).len=0:=by intro k;cases k<;>rfl
def CKs.Ty:List CK→Type
  | []=>Unit
  | k::l=>k.Ty×CKs.Ty l
def CKs.fit:(l:List CK)→(o n:Nat)→List cr→Option (CKs.Ty l)
  | [],_,_,[]=>some ()
  | k::l,o,n,c::cs=>(k.fit o n c).bind fun t=>(CKs.fit l o n cs).map fun r=>(t,r)
  | _,_,_,_=>none
def CKs.emp:(l:List CK)→CKs.Ty l
  | []=>()
  | k::l=>(k.emp,CKs.emp l)
def CKs.cols:(l:List CK)→CKs.Ty l→List cr
  | [],_=>[]
  | k::l,t=>k.col t.1::CKs.cols l t.2
theorem CKs.len:∀ {l:List CK} {t:CKs.Ty l},(CKs.cols l t).length=l.length
  | [],t=>rfl
  | k::l,t=>by simp [CKs.cols,CKs.len]
theorem yA:∀ {l:List CK} {o n:Nat} {cs:List cr} {t:CKs.Ty l},CKs.fit l o n cs=some t→cs.length=l.length
  | [],o,n,[],t,h=>rfl
  | [],o,n,c::cs,t,h=>by simp [CKs.fit] at h
  | k::l,o,n,[],t,h=>by simp [CKs.fit] at h
  | k::l,o,n,c::cs,t,h=>by
    simp only [CKs.fit] at h
    cases e1:k.fit o n c with
    | none=>rw [e1] at h;cases h
    | some a =>
      rw [e1] at h
      cases e2:CKs.fit l o n cs with
      | none=>simp only [Option.bind_some,e2] at h;cases h
      | some b=>simp [yA e2]
theorem CKs.fit_spec:∀ {l:List CK} {o n:Nat} {cs:List cr} {t:CKs.Ty l},CKs.fit l o n cs=some t→∀ (j:Nat) (c':cr),(CKs.cols l t)[j]? = some c'→∃ c:cr,cs[j]? = some c∧(o+n≤c.len→c'.len=n)∧∀ i v,c'.cell? i=some v→c.cell? (o+i)=some v
  | [],o,n,cs,t,h,j,c',q=>by simp [CKs.cols] at q
  | k::l,o,n,[],t,h,j,c',q=>by simp [CKs.fit] at h
  | k::l,o,n,c::cs,t,h,j,c',q=>by
    simp only [CKs.fit] at h
    cases e1:k.fit o n c with
    | none=>rw [e1] at h;cases h
    | some a =>
      rw [e1] at h
      cases e2:CKs.fit l o n cs with
      | none=>simp only [Option.bind_some,e2] at h;cases h
      | some b =>
        simp only [Option.bind_some,e2] at h
        cases h
        cases j with
        | zero=>simp [CKs.cols] at q;subst q;exact ⟨c,rfl,CK.fit_spec e1⟩
        | succ j=>exact CKs.fit_spec e2 j c' (by simpa [CKs.cols] using q)
theorem CKs.emp_len:∀ (l:List CK),∀ c∈CKs.cols l (CKs.emp l),c.len=0
  | [],c,h=>by cases h
  | k::l,c,h=>by
    simp only [CKs.cols,CKs.emp,List.mem_cons] at h
    rcases h with rfl | h
    · exact CK.emp_len k
    · exact CKs.emp_len l c h
mutual
inductive vh where
  | int (k:IntKind)
  | flt (ex:Bool)
  | bool
  | kbool (b:Bool)
  | str
  | fl
  | ns (k:IntKind)
  | bs
  | ss
  | cols (l:List CK)
  | ivs (ps:ma) (w i j:Nat)
  | fn (f:FuncId) (a b:ma)
  | nfn
  | nptr
  | nsl
  | agg (ps:ma)
  | tup (ps:ma)
  | iface (t:TypeId) (p:vh)
  | niface
  | any
  | lsl (b:Nat)
  | lptr (b w i j:Nat)
inductive ma where
  | nil
  | cons (p:vh) (ps:ma)
end
mutual
def vh.Ty:vh→Type
  | .int _=>Int
  | .flt _=>Nat
  | .bool=>Bool
  | .str=>ByteArray
  | .fl=>Lv×List Nat
  | .ns _=>Lv×List Int
  | .bs=>Lv×List Bool
  | .ss=>Lv×List ByteArray
  | .cols l=>Lv×Nat×CKs.Ty l
  | .ivs ps _ _ _=>Lv×ps.Ty
  | .fn _ a b=>a.Ty×b.Ty
  | .agg ps=>ps.Ty
  | .tup ps=>ps.Ty
  | .iface _ p=>p.Ty
  | .kbool _=>Unit
  | .nfn=>Unit
  | .nptr=>Unit
  | .nsl=>Unit
  | .niface=>Unit
  | .any=>Unit
  | .lsl _=>Nat×Nat×Nat
  | .lptr _ _ _ _=>Unit
def ma.Ty:ma→Type
  | .nil=>Unit
  | .cons p ps=>p.Ty×ps.Ty
end
mutual
def vh.av:(p:vh)→p.Ty→AV
  | .int k,n=>.int k n
  | .flt ex,x=>.flt ex x
  | .bool,b=>.bool false b
  | .str,s=>.str s
  | .fl,t=>.imm t.1 (.fl t.2) 1 1 0 t.2.length
  | .ns k,t=>.imm t.1 (.ns k t.2) 1 1 0 t.2.length
  | .bs,t=>.imm t.1 (.bs t.2) 1 1 0 t.2.length
  | .ss,t=>.imm t.1 (.ss t.2) 1 1 0 t.2.length
  | .cols l,t=>.imm t.1 (.cols t.2.1 (CKs.cols l t.2.2)) l.length l.length 0 t.2.1
  | .ivs ps w i j,t=>.iptr t.1 (.vs (ps.avs t.2)) w i j
  | .fn f a b,t=>.fn (.func f) (a.avs t.1) (b.avs t.2)
  | .agg ps,t=>.agg (ps.avs t)
  | .tup ps,t=>.tup (ps.avs t)
  | .iface y p,t=>.iface y (p.av t)
  | .kbool b,_=>.bool true b
  | .nfn,_=>.nfn
  | .nptr,_=>.nptr
  | .nsl,_=>.nsl
  | .niface,_=>.niface
  | .any,_=>.any
  | .lsl b,t=>.sl b 1 1 t.1 t.2.1 t.2.2
  | .lptr b w i j,_=>.ptr b w i j
def ma.avs:(ps:ma)→ps.Ty→List AV
  | .nil,_=>[]
  | .cons p ps,t=>p.av t.1::ps.avs t.2
end
def GB(a b:Bool) :Bool:=bif a then b else !b
theorem GC{a b:Bool} :GB a b=true↔a=b:=by cases a<;>cases b<;>simp [GB]
def CKs.ok(n:Nat)(m:Nat) :Bool:=Nat.ble n m
def Jy(k:IntKind) :AV→Option (Int×List Bool)
  | .int k' n=>bif bB k k' then some (n,[]) else none
  | _=>none
def Jz(ex:Bool) :AV→Option (Nat×List Bool)
  | .flt ex' x=>bif ex && !ex' then none else some (x,[])
  | _=>none
def Hz:AV→Option (Bool×List Bool)
  | .bool kn b=>bif kn then none else some (b,[])
  | _=>none
def Fq(b:Bool) :AV→Option (Unit×List Bool)
  | .bool kn b'=>bif kn&&GB b b' then some ((),[]) else none
  | _=>none
def JA:AV→Option (ByteArray×List Bool)
  | .str s=>some (s,[])
  | _=>none
def C8{α:Type}(f:aj→Option (List α)) :AV→Option ((Lv×List α)×List Bool)
  | .imm l d w es o n=>(f d).bind fun xs=>bif Nat.beq w 1&&Nat.beq es 1 then some ((l,bo o n xs),[oT o n xs]) else none
  | .nsl=>some ((.free,[]),[])
  | .esl=>some ((.free,[]),[])
  | _=>none
def JB:aj→Option (List Nat)
  | .fl xs=>some xs
  | _=>none
def JC(k:IntKind) :aj→Option (List Int)
  | .ns k' xs=>bif bB k k' then some xs else none
  | _=>none
def JD:aj→Option (List Bool)
  | .bs xs=>some xs
  | _=>none
def KV:aj→Option (List ByteArray)
  | .ss xs=>some xs
  | _=>none
def KW:aj→Option (List AV)
  | .vs xs=>some xs
  | _=>none
def HA:aj→Option (Nat×List cr)
  | .cols m cs=>some (m,cs)
  | _=>none
def D1(ks:List CK) :AV→Option ((Lv×Nat×CKs.Ty ks)×List Bool)
  | .imm l d w es o n=>(HA d).bind fun q=>bif Nat.beq w ks.length&&Nat.beq es ks.length then (CKs.fit ks o n q.2).map fun t=>((l,n,t),[Nat.ble (o+n) q.1]) else none
  | .nsl=>some ((.free,0,CKs.emp ks),[])
  | .esl=>some ((.free,0,CKs.emp ks),[])
  | _=>none
def KX(w i j:Nat) :AV→Option (Lv×List AV)
  | .iptr l d w' i' j'=>(KW d).bind fun xs=>bif Nat.beq w w'&&(Nat.beq i i'&&Nat.beq j j') then some (l,xs) else none
  | _=>none
def LW(f:FuncId) :AV→Option (List AV×List AV)
  | .fn (.func f') x y=>bif Nat.beq f f' then some (x,y) else none
  | _=>none
def KY:AV→Option (List AV)
  | .agg l=>some l
  | _=>none
def KZ:AV→Option (List AV)
  | .tup l=>some l
  | _=>none
def HB(t:TypeId) :AV→Option AV
  | .iface t' v=>bif Nat.beq t t' then some v else none
  | _=>none
def K0:AV→Option (Unit×List Bool)
  | .nfn=>some ((),[])
  | _=>none
def JE:AV→Option (Unit×List Bool)
  | .nptr=>some ((),[])
  | _=>none
def K1:AV→Option (Unit×List Bool)
  | .nsl=>some ((),[])
  | _=>none
def JF(b:Nat) :AV→Option ((Nat×Nat×Nat)×List Bool)
  | .sl b' w es i len cap=>bif Nat.beq b b'&&(Nat.beq w 1&&Nat.beq es 1) then some ((i,len,cap),[]) else none
  | _=>none
def HC(b w i j:Nat) :AV→Option (Unit×List Bool)
  | .ptr b' w' i' j'=>bif (Nat.beq b b'&&Nat.beq w w')&&(Nat.beq i i'&&Nat.beq j j') then some ((),[]) else none
  | _=>none
def Fr:AV→Option (Unit×List Bool)
  | .niface=>some ((),[])
  | _=>none
mutual
def vh.fit:(p:vh)→AV→Option (p.Ty×List Bool)
  | .int k=>Jy k
  | .flt ex=>Jz ex
  | .bool=>Hz
  | .kbool b=>Fq b
  | .str=>JA
  | .fl=>C8 JB
  | .ns k=>C8 (JC k)
  | .bs=>C8 JD
  | .ss=>C8 KV
  | .cols ks=>D1 ks
  | .ivs ps w i j=>fun v=>match KX w i j v with
    | some q=>match ps.fit q.2 with
      | some r=>some ((q.1,r.1),r.2)
      | none=>none
    | none=>none
  | .fn f a b=>fun v=>match LW f v with
    | some q=>match a.fit q.1 with
      | some r=>match b.fit q.2 with
        | some s=>some ((r.1,s.1),r.2++s.2)
        | none=>none
      | none=>none
    | none=>none
  | .agg ps=>fun v=>match KY v with
    | some l=>ps.fit l
    | none=>none
  | .tup ps=>fun v=>match KZ v with
    | some l=>ps.fit l
    | none=>none
  | .iface t p=>fun v=>match HB t v with
    | some u=>p.fit u
    | none=>none
  | .nfn=>K0
  | .nptr=>JE
  | .nsl=>K1
  | .niface=>Fr
  | .any=>fun _=>some ((),[])
  | .lsl b=>JF b
  | .lptr b w i j=>HC b w i j
def ma.fit:(ps:ma)→List AV→Option (ps.Ty×List Bool)
  | .nil=>fun l=>match l with
    | []=>some ((),[])
    | _::_=>none
  | .cons p ps=>fun l=>match l with
    | []=>none
    | v::l=>match p.fit v with
      | some r=>match ps.fit l with
        | some s=>some ((r.1,s.1),r.2++s.2)
        | none=>none
      | none=>none
end
theorem Ir{ks:List CK}{o n m:Nat}{cs:List cr}{t:CKs.Ty ks}(h:CKs.fit ks o n cs=some t) :∀ x v,(aj.cols n (CKs.cols ks t)).cell? x=some v→(aj.cols m cs).cell? (o*ks.length+x)=some v:=by
  intro x v hx
  have hl:=yA h
  obtain ⟨c',h1,_,h3⟩:=cE hx
  obtain ⟨c,q1,_,q3⟩:=CKs.fit_spec h _ _ h1
  rw [CKs.len] at h1 h3 q1
  have hpos:0<ks.length:=by
    have:=(List.getElem?_eq_some_iff.1 q1).1
    omega
  simp only [aj.cell?,hl,Option.bind_eq_some_iff]
  refine ⟨c,?_,?_⟩
  · rw [Nat.add_comm,Nat.add_mul_mod_self_right];exact q1
  · rw [Nat.add_comm,Nat.add_mul_div_right _ _ hpos,Nat.add_comm];exact q3 _ _ h3
structure Wk (v v':AV):Prop where
  weak:ay v v'
  kept:v.kept=true→v'.kept=true
  foreign:v.foreign=true→v'.foreign=true
structure Ms (v v':List AV):Prop where
  weak:de v v'
  kept:bF v=true→bF v'=true
  foreign:aI v=true→aI v'=true
theorem Wk.refl(v:AV) :Wk v v:=⟨ay.refl v,id,id⟩
theorem Wk.fltL(x:Nat) :Wk (.flt true x) (.flt false x):=⟨fun ρ w u h=>(by
  cases h with | flt _ _ y hf =>
  rcases hf with rfl | ⟨q,_⟩
  · exact .flt _ _ _ (.inl rfl)
  · cases q),id,id⟩
theorem Ms.cons{v v':AV}{l l':List AV}(h:Wk v v')(k:Ms l l') :Ms (v::l) (v'::l') :=
  ⟨.cons h.weak k.weak,fun q=>by simp only [bF,Bool.and_eq_true] at q ⊢;exact ⟨h.kept q.1,k.kept q.2⟩,fun q=>by simp only [aI,Bool.and_eq_true] at q ⊢;exact ⟨h.foreign q.1,k.foreign q.2⟩⟩
theorem Wk.part{l:Lv}{d d':aj}{w es o n:Nat}(h:∀ x v,d'.cell? x=some v→d.cell? (o*w+x)=some v)(hr:d.recKept→d'.recKept)(hk:d'.kept=true)(hg:d'.foreign=true) :Wk (.imm l d w es o n) (.imm l d' w es 0 n) :=
  ⟨yR h hr hk hg,id,id⟩
theorem Wk.nsl{d':aj}{w es:Nat}(hr:d'.recKept)(hk:d'.kept=true)(hg:d'.foreign=true) :Wk .nsl (.imm .free d' w es 0 0):=⟨yS hr hk hg,id,id⟩
theorem Wk.esl{d':aj}{w es:Nat}(hr:d'.recKept)(hk:d'.kept=true)(hg:d'.foreign=true) :Wk .esl (.imm .free d' w es 0 0):=⟨yT hr hk hg,id,id⟩
theorem Wk.fl{l:Lv}{xs:List Nat}{o n:Nat}(h:oT o n xs=true) :Wk (.imm l (.fl xs) 1 1 o n) (.imm l (.fl (bo o n xs)) 1 1 0 (bo o n xs).length):=by
  rw [ju (oU.1 h)];exact .part (fun x v q=>by rw [Nat.mul_one];exact lq q) (fun _=>trivial) rfl rfl
theorem Wk.ns{k:IntKind}{l:Lv}{xs:List Int}{o n:Nat}(h:oT o n xs=true) :Wk (.imm l (.ns k xs) 1 1 o n) (.imm l (.ns k (bo o n xs)) 1 1 0 (bo o n xs).length):=by
  rw [ju (oU.1 h)];exact .part (fun x v q=>by rw [Nat.mul_one];exact lq q) (fun _=>trivial) rfl rfl
theorem Wk.bs{l:Lv}{xs:List Bool}{o n:Nat}(h:oT o n xs=true) :Wk (.imm l (.bs xs) 1 1 o n) (.imm l (.bs (bo o n xs)) 1 1 0 (bo o n xs).length):=by
  rw [ju (oU.1 h)];exact .part (fun x v q=>by rw [Nat.mul_one];exact lq q) (fun _=>trivial) rfl rfl
theorem Wk.ss{l:Lv}{xs:List ByteArray}{o n:Nat}(h:oT o n xs=true) :Wk (.imm l (.ss xs) 1 1 o n) (.imm l (.ss (bo o n xs)) 1 1 0 (bo o n xs).length):=by
  rw [ju (oU.1 h)];exact .part (fun x v q=>by rw [Nat.mul_one];exact lq q) (fun _=>trivial) rfl rfl
theorem JG{ks:List CK}{o n m:Nat}{cs:List cr}{t:CKs.Ty ks}(h:CKs.fit ks o n cs=some t)(hm:o+n≤m) :(aj.cols m cs).recKept→(aj.cols n (CKs.cols ks t)).recKept:=by
  intro hr c hc
  obtain ⟨j,hj⟩:=List.getElem?_of_mem hc
  obtain ⟨c0,q1,q2,_⟩:=CKs.fit_spec h j c hj
  exact q2 (by rw [hr c0 (List.mem_of_getElem? q1)];exact hm)
theorem LX{w es n:Nat}(h:(Nat.beq w n&&Nat.beq es n)=true) :w=n∧es=n:=by
  rw [Bool.and_eq_true] at h;exact ⟨Nat.eq_of_beq_eq_true h.1,Nat.eq_of_beq_eq_true h.2⟩
theorem mF{α:Type}{c:Bool}{a:α}{x:α}(h:(bif c then some a else none)=some x) :c=true∧a=x:=by
  cases c with
  | true=>exact ⟨rfl,by simpa using h⟩
  | false=>cases h
theorem LY{α:Type}{c:Bool}{a:Option α}{x:α}(h:(bif c then a else none)=some x) :c=true∧a=some x:=by
  cases c with
  | true=>exact ⟨rfl,h⟩
  | false=>cases h
theorem pG{α:Type}{f:aj→Option (List α)}{g:List α→aj}(hg:∀ {d xs},f d=some xs→d=g xs) 
    (hw:∀ {l xs o n},oT o n xs=true→Wk (.imm l (g xs) 1 1 o n) (.imm l (g (bo o n xs)) 1 1 0 (bo o n xs).length)) (h0:(g []).recKept∧(g []).kept=true∧(g []).foreign=true)
    {v:AV} {t:Lv×List α} {o:List Bool} (h:C8 f v=some (t,o)) (ho:ak o):Wk v (.imm t.1 (g t.2) 1 1 0 t.2.length):=by
  unfold C8 at h
  split at h
  · rename_i l d w es i n
    cases e:f d with
    | none=>rw [e] at h;cases h
    | some xs =>
      rw [e] at h
      obtain ⟨e2,h⟩:=mF h
      obtain ⟨rfl,rfl⟩:=LX e2
      cases h;cases hg e;exact hw ho.1
  · cases h;exact .nsl h0.1 h0.2.1 h0.2.2
  · cases h;exact .esl h0.1 h0.2.1 h0.2.2
  · cases h
theorem D2{ks:List CK}{v:AV}{t:Lv×Nat×CKs.Ty ks}{o:List Bool}(h:D1 ks v=some (t,o))(ho:ak o) :Wk v (.imm t.1 (.cols t.2.1 (CKs.cols ks t.2.2)) ks.length ks.length 0 t.2.1):=by
  unfold D1 at h
  split at h
  · rename_i l d w es i n
    cases d<;>simp only [HA,Option.bind_none,Option.bind_some,reduceCtorEq] at h
    rename_i m cs
    have e:=(LY h).1;replace h:=(LY h).2
    obtain ⟨rfl,rfl⟩:=LX e
    cases e2:CKs.fit ks i n cs with
    | none=>rw [e2] at h;cases h
    | some r =>
      rw [e2] at h;cases h
      have:i+n≤m:=Nat.le_of_ble_eq_true ho.1
      exact .part (Ir e2) (JG e2 this) rfl rfl
  · cases h;exact .nsl (CKs.emp_len ks) rfl rfl
  · cases h;exact .esl (CKs.emp_len ks) rfl rfl
  · cases h
mutual
theorem vh.fit_spec:∀ (p:vh) (v:AV) {t:p.Ty} {o:List Bool},p.fit v=some (t,o)→ak o→Wk v (p.av t)
  | .int k,v,t,o,h,ho=>by
    simp only [vh.fit,Jy] at h
    split at h
    · obtain ⟨e,h⟩:=mF h
      cases h;cases mU.1 e;exact .refl _
    · cases h
  | .flt ex,v,t,o,h,ho=>by
    simp only [vh.fit,Jz] at h
    split at h
    · rename_i ex' x
      cases ex with
      | true =>
        cases ex' with
        | true=>cases h;exact .refl _
        | false=>cases h
      | false =>
        cases ex' with
        | true=>cases h;exact .fltL x
        | false=>cases h;exact .refl _
    · cases h
  | .bool,v,t,o,h,ho=>by
    simp only [vh.fit,Hz] at h
    split at h
    · rename_i kn b
      cases kn with
      | true=>cases h
      | false=>cases h;exact .refl _
    · cases h
  | .kbool b,v,t,o,h,ho=>by
    simp only [vh.fit,Fq] at h
    split at h
    · obtain ⟨e,h⟩:=mF h
      rw [Bool.and_eq_true] at e
      cases e.1;cases GC.1 e.2;exact .refl _
    · cases h
  | .str,v,t,o,h,ho=>by
    simp only [vh.fit,JA] at h
    split at h
    · cases h;exact .refl _
    · cases h
  | .fl,v,t,o,h,ho=>pG (g:=.fl) (f:=JB) (fun {d xs} e=>by cases d<;>cases e;rfl) (fun q=>.fl q) ⟨trivial,rfl,rfl⟩ h ho
  | .ns k,v,t,o,h,ho=>pG (g:=.ns k) (f:=JC k) (fun {d xs} e=>by
      cases d<;>try (cases e;done)
      have e1:=(mF e).1;replace e:=(mF e).2
      cases mU.1 e1;cases e;rfl) (fun q=>.ns q) ⟨trivial,rfl,rfl⟩ h ho
  | .bs,v,t,o,h,ho=>pG (g:=.bs) (f:=JD) (fun {d xs} e=>by cases d<;>cases e;rfl) (fun q=>.bs q) ⟨trivial,rfl,rfl⟩ h ho
  | .ss,v,t,o,h,ho=>pG (g:=.ss) (f:=KV) (fun {d xs} e=>by cases d<;>cases e;rfl) (fun q=>.ss q) ⟨trivial,rfl,rfl⟩ h ho
  | .cols ks,v,t,o,h,ho=>D2 h ho
  | .ivs ps w i j,v,t,o,h,ho=>by
    simp only [vh.fit] at h
    split at h
    case h_2=>cases h
    rename_i q hq
    split at h
    case h_2=>cases h
    rename_i r hr
    cases h
    unfold KX at hq
    split at hq
    case h_2=>cases hq
    rename_i l d w' i' j'
    cases d<;>simp only [KW,Option.bind_none,Option.bind_some,reduceCtorEq] at hq
    rename_i xs
    have e:=(mF hq).1;replace hq:=(mF hq).2
    rw [Bool.and_eq_true,Bool.and_eq_true] at e
    cases Nat.eq_of_beq_eq_true e.1
    cases Nat.eq_of_beq_eq_true e.2.1
    cases Nat.eq_of_beq_eq_true e.2.2
    cases hq
    have:=ma.fit_spec ps xs hr ho
    exact ⟨Au this.weak this.kept this.foreign,id,id⟩
  | .fn f a b,v,t,o,h,ho=>by
    simp only [vh.fit] at h
    split at h
    case h_2=>cases h
    rename_i q hq
    split at h
    case h_2=>cases h
    rename_i r hr
    split at h
    case h_2=>cases h
    rename_i s hs
    cases h
    unfold LW at hq
    split at hq
    case h_2=>cases hq
    have e:=(mF hq).1;replace hq:=(mF hq).2
    cases Nat.eq_of_beq_eq_true e
    cases hq
    rw [aC] at ho
    have h1:=ma.fit_spec a _ hr ho.1
    have h2:=ma.fit_spec b _ hs ho.2
    refine ⟨ay.fn h1.weak h2.weak,fun q=>?_,fun q=>?_⟩
    · simp only [vh.av,AV.kept,Bool.and_eq_true] at q ⊢;exact ⟨h1.kept q.1,h2.kept q.2⟩
    · simp only [vh.av,AV.foreign,Bool.and_eq_true] at q ⊢;exact ⟨h1.foreign q.1,h2.foreign q.2⟩
  | .agg ps,v,t,o,h,ho=>by
    simp only [vh.fit] at h
    split at h
    case h_2=>cases h
    rename_i l hl
    cases v<;>simp only [KY,reduceCtorEq,Option.some.injEq] at hl
    subst hl
    have:=ma.fit_spec ps _ h ho
    exact ⟨ay.agg this.weak,this.kept,this.foreign⟩
  | .tup ps,v,t,o,h,ho=>by
    simp only [vh.fit] at h
    split at h
    case h_2=>cases h
    rename_i l hl
    cases v<;>simp only [KZ,reduceCtorEq,Option.some.injEq] at hl
    subst hl
    have:=ma.fit_spec ps _ h ho
    exact ⟨ay.tup this.weak,this.kept,this.foreign⟩
  | .iface y p,v,t,o,h,ho=>by
    simp only [vh.fit] at h
    split at h
    case h_2=>cases h
    rename_i u hu
    unfold HB at hu
    split at hu
    case h_2=>cases hu
    have e:=(mF hu).1;replace hu:=(mF hu).2
    cases Nat.eq_of_beq_eq_true e
    subst hu
    have:=vh.fit_spec p _ h ho
    exact ⟨ay.iface this.weak,this.kept,this.foreign⟩
  | .nfn,v,t,o,h,ho=>by
    cases v<;>simp only [vh.fit,K0,reduceCtorEq] at h
    exact .refl _
  | .nptr,v,t,o,h,ho=>by
    cases v<;>simp only [vh.fit,JE,reduceCtorEq] at h
    exact .refl _
  | .nsl,v,t,o,h,ho=>by
    cases v<;>simp only [vh.fit,K1,reduceCtorEq] at h
    exact .refl _
  | .niface,v,t,o,h,ho=>by
    cases v<;>simp only [vh.fit,Fr,reduceCtorEq] at h
    exact .refl _
  | .any,v,t,o,h,ho=>⟨ay.any v,fun _=>rfl,fun _=>rfl⟩
  | .lsl b,v,t,o,h,ho=>by
    simp only [vh.fit,JF] at h
    split at h
    · have e:=(mF h).1;replace h:=(mF h).2
      rw [Bool.and_eq_true,Bool.and_eq_true] at e
      cases Nat.eq_of_beq_eq_true e.1
      cases Nat.eq_of_beq_eq_true e.2.1
      cases Nat.eq_of_beq_eq_true e.2.2
      cases h;exact .refl _
    · cases h
  | .lptr b w i j,v,t,o,h,ho=>by
    simp only [vh.fit,HC] at h
    split at h
    · have e:=(mF h).1;replace h:=(mF h).2
      rw [Bool.and_eq_true,Bool.and_eq_true,Bool.and_eq_true] at e
      cases Nat.eq_of_beq_eq_true e.1.1
      cases Nat.eq_of_beq_eq_true e.1.2
      cases Nat.eq_of_beq_eq_true e.2.1
      cases Nat.eq_of_beq_eq_true e.2.2
      exact .refl _
    · cases h
theorem ma.fit_spec:∀ (ps:ma) (l:List AV) {t:ps.Ty} {o:List Bool},ps.fit l=some (t,o)→ak o→Ms l (ps.avs t)
  | .nil,[],t,o,h,ho=>⟨.nil,id,id⟩
  | .nil,v::l,t,o,h,ho=>by simp [ma.fit] at h
  | .cons p ps,[],t,o,h,ho=>by simp [ma.fit] at h
  | .cons p ps,v::l,t,o,h,ho=>by
    simp only [ma.fit] at h
    split at h
    case h_2=>cases h
    rename_i r hr
    split at h
    case h_2=>cases h
    rename_i s hs
    cases h
    rw [aC] at ho
    exact .cons (vh.fit_spec p v hr ho.1) (ma.fit_spec ps l hs ho.2)
end
def cT(f:FuncId)(ps:ma)(alts:ps.Ty→List pA) :aH :=
  ⟨f, fun L args => match L with
    | []=>match ps.fit args with
      | some r=>some ((alts r.1).map fun a=>⟨a.out,r.2++a.obs⟩)
      | none=>none
    | _=>none⟩
theorem aO{P:Program}{f:FuncId}{ps:ma}{alts:ps.Ty→List pA}(h:∀ t,∀ a∈alts t,ak a.obs→am P f [] (ps.avs t) a.out) :aM P (cT f ps alts):=by
  intro L args al a hal ha ho
  simp only [cT] at hal
  split at hal
  case h_2=>cases hal
  split at hal
  case h_2=>cases hal
  rename_i r hr
  obtain ⟨t,o⟩:=r
  simp only [Option.some.injEq] at hal
  subst hal
  simp only [List.mem_map] at ha
  obtain ⟨b,hb,rfl⟩:=ha
  simp only [aC] at ho
  exact (h t b hb ho.2).args (ma.fit_spec ps args hr ho.1).weak
inductive CP where
  | int (k:IntKind)
  | flt
  | fltx
  | bool
  | str
  | lsl (b:Nat)
  | lsl0 (b:Nat)
  | lptr (b w i j:Nat)
  | nsl
  | nptr
def CP.Ty:CP→Type
  | .int _=>Int
  | .flt=>Nat
  | .fltx=>Nat
  | .bool=>Bool
  | .str=>ByteArray
  | .lsl _=>Nat×Nat×Nat
  | .lsl0 _=>Nat×Nat
  | .lptr _ _ _ _=>Unit
  | .nsl=>Unit
  | .nptr=>Unit
def CP.av:(p:CP)→p.Ty→AV
  | .int k,n=>.int k n
  | .flt,x=>.flt false x
  | .fltx,x=>.flt true x
  | .bool,b=>.bool false b
  | .str,s=>.str s
  | .lsl b,t=>.sl b 1 1 t.1 t.2.1 t.2.2
  | .lsl0 b,t=>.sl b 1 1 0 t.1 t.2
  | .lptr b w i j,_=>.ptr b w i j
  | .nsl,_=>.nsl
  | .nptr,_=>.nptr
def K2(k:IntKind) :AV→Option Int
  | .int k' n=>bif bB k k' then some n else none
  | _=>none
def K3:AV→Option Nat
  | .flt ex x=>bif ex then none else some x
  | _=>none
def JH:AV→Option Nat
  | .flt ex x=>bif ex then some x else none
  | _=>none
def JI:AV→Option Bool
  | .bool kn b=>bif kn then none else some b
  | _=>none
def K4:AV→Option ByteArray
  | .str s=>some s
  | _=>none
def K5(b:Nat) :AV→Option (Nat×Nat×Nat)
  | .sl b' w es i len cap=>bif Nat.beq b b'&&(Nat.beq w 1&&Nat.beq es 1) then some (i,len,cap) else none
  | _=>none
def JJ(b:Nat) :AV→Option (Nat×Nat)
  | .sl b' w es i len cap=>bif Nat.beq b b'&&(Nat.beq w 1&&Nat.beq es 1)&&Nat.beq i 0 then some (len,cap) else none
  | _=>none
def JK(b w i j:Nat) :AV→Option Unit
  | .ptr b' w' i' j'=>bif (Nat.beq b b'&&Nat.beq w w')&&(Nat.beq i i'&&Nat.beq j j') then some () else none
  | _=>none
def K6:AV→Option Unit
  | .nsl=>some ()
  | _=>none
def JL:AV→Option Unit
  | .nptr=>some ()
  | _=>none
def CP.fit:(p:CP)→AV→Option p.Ty
  | .int k=>K2 k
  | .flt=>K3
  | .fltx=>JH
  | .bool=>JI
  | .str=>K4
  | .lsl b=>K5 b
  | .lsl0 b=>JJ b
  | .lptr b w i j=>JK b w i j
  | .nsl=>K6
  | .nptr=>JL
theorem LZ{c:Bool}{α:Type}{a x:α}(h:(bif c then none else some a)=some x) :c=false∧a=x:=by
  cases c with
  | true=>cases h
  | false=>exact ⟨rfl,by simpa using h⟩
theorem CP.fit_spec:∀ (p:CP) {v:AV} {t:p.Ty},p.fit v=some t→v=p.av t
  | .int k,v,t,h=>by
    simp only [CP.fit,K2] at h
    split at h
    · obtain ⟨e,h⟩:=mF h
      cases h;cases mU.1 e;rfl
    · cases h
  | .flt,v,t,h=>by
    simp only [CP.fit,K3] at h
    split at h
    · obtain ⟨e,h⟩:=LZ h
      cases h;cases e;rfl
    · cases h
  | .fltx,v,t,h=>by
    simp only [CP.fit,JH] at h
    split at h
    · obtain ⟨e,h⟩:=mF h
      cases h;cases e;rfl
    · cases h
  | .bool,v,t,h=>by
    simp only [CP.fit,JI] at h
    split at h
    · obtain ⟨e,h⟩:=LZ h
      cases h;cases e;rfl
    · cases h
  | .str,v,t,h=>by
    simp only [CP.fit,K4] at h
    split at h
    · cases h;rfl
    · cases h
  | .lsl b,v,t,h=>by
    simp only [CP.fit,K5] at h
    split at h
    · have e:=(mF h).1;replace h:=(mF h).2
      rw [Bool.and_eq_true,Bool.and_eq_true] at e
      cases Nat.eq_of_beq_eq_true e.1
      cases Nat.eq_of_beq_eq_true e.2.1
      cases Nat.eq_of_beq_eq_true e.2.2
      cases h;rfl
    · cases h
  | .lsl0 b,v,t,h=>by
    simp only [CP.fit,JJ] at h
    split at h
    · have e:=(mF h).1;replace h:=(mF h).2
      rw [Bool.and_eq_true,Bool.and_eq_true,Bool.and_eq_true] at e
      cases Nat.eq_of_beq_eq_true e.1.1
      cases Nat.eq_of_beq_eq_true e.1.2.1
      cases Nat.eq_of_beq_eq_true e.1.2.2
      cases Nat.eq_of_beq_eq_true e.2
      cases h;rfl
    · cases h
  | .lptr b w i j,v,t,h=>by
    simp only [CP.fit,JK] at h
    split at h
    · have e:=(mF h).1;clear h
      rw [Bool.and_eq_true,Bool.and_eq_true,Bool.and_eq_true] at e
      cases Nat.eq_of_beq_eq_true e.1.1
      cases Nat.eq_of_beq_eq_true e.1.2
      cases Nat.eq_of_beq_eq_true e.2.1
      cases Nat.eq_of_beq_eq_true e.2.2
      rfl
    · cases h
  | .nsl,v,t,h=>by
    simp only [CP.fit,K6] at h
    split at h
    · rfl
    · cases h
  | .nptr,v,t,h=>by
    simp only [CP.fit,JL] at h
    split at h
    · rfl
    · cases h
def CPs.Ty:List CP→Type
  | []=>Unit
  | p::l=>p.Ty×CPs.Ty l
def CPs.avs:(l:List CP)→CPs.Ty l→List AV
  | [],_=>[]
  | p::l,t=>p.av t.1::CPs.avs l t.2
def CPs.fit:(l:List CP)→List AV→Option (CPs.Ty l)
  | []=>fun vs=>match vs with
    | []=>some ()
    | _::_=>none
  | p::l=>fun vs=>match vs with
    | []=>none
    | v::vs=>match p.fit v with
      | some t=>match CPs.fit l vs with
        | some r=>some (t,r)
        | none=>none
      | none=>none
theorem CPs.fit_spec:∀ (l:List CP) {vs:List AV} {t:CPs.Ty l},CPs.fit l vs=some t→vs=CPs.avs l t
  | [],[],t,h=>rfl
  | [],_::_,t,h=>by cases h
  | _::_,[],t,h=>by cases h
  | p::l,v::vs,t,h=>by
    simp only [CPs.fit] at h
    split at h
    case h_2=>cases h
    rename_i x hx
    split at h
    case h_2=>cases h
    rename_i r hr
    cases h
    simp only [CPs.avs]
    rw [←CP.fit_spec p hx,←CPs.fit_spec l hr]
inductive BK where
  | fl
  | ns (k:IntKind)
  | bs
  | vs (l:List CP)
def BK.Ty:BK→Type
  | .fl=>List Nat
  | .ns _=>List Int
  | .bs=>List Bool
  | .vs l=>CPs.Ty l
def BK.blk:(k:BK)→k.Ty→aj
  | .fl,xs=>.fl xs
  | .ns k,xs=>.ns k xs
  | .bs,xs=>.bs xs
  | .vs l,t=>.vs (CPs.avs l t)
def Mz(l:List CP) :aj→Option (CPs.Ty l)
  | .vs xs=>CPs.fit l xs
  | _=>none
def BK.fit:(k:BK)→aj→Option k.Ty
  | .fl=>JB
  | .ns k=>JC k
  | .bs=>JD
  | .vs l=>Mz l
theorem BK.fit_spec:∀ (k:BK) {d:aj} {t:k.Ty},k.fit d=some t→d=k.blk t
  | .fl,d,t,h=>by cases d<;>cases h;rfl
  | .ns k,d,t,h=>by
    cases d<;>try (cases h;done)
    have e1:=(mF h).1;replace h:=(mF h).2
    cases mU.1 e1;cases h;rfl
  | .bs,d,t,h=>by cases d<;>cases h;rfl
  | .vs l,d,t,h=>by
    cases d<;>try (cases h;done)
    exact congrArg aj.vs (CPs.fit_spec l h)
def BKs.Ty:List BK→Type
  | []=>Unit
  | k::l=>k.Ty×BKs.Ty l
def Av:(l:List BK)→BKs.Ty l→List aj
  | [],_=>[]
  | k::l,t=>k.blk t.1::Av l t.2
def BKs.fit:(l:List BK)→List aj→Option (BKs.Ty l)
  | [],[]=>some ()
  | [],_::_=>none
  | _::_,[]=>none
  | k::l,d::ds=>match k.fit d with
    | some t=>match BKs.fit l ds with
      | some r=>some (t,r)
      | none=>none
    | none=>none
theorem BKs.fit_spec:∀ (l:List BK) {ds:List aj} {t:BKs.Ty l},BKs.fit l ds=some t→ds=Av l t
  | [],[],t,h=>rfl
  | [],_::_,t,h=>by cases h
  | _::_,[],t,h=>by cases h
  | k::l,d::ds,t,h=>by
    simp only [BKs.fit] at h
    split at h
    case h_2=>cases h
    rename_i x hx
    split at h
    case h_2=>cases h
    rename_i r hr
    cases h
    simp only [Av]
    rw [←BK.fit_spec k hx,←BKs.fit_spec l hr]
theorem bG{P:Program}{f:FuncId}{l:List AV} :∀ a∈([]:List pA),ak a.obs→am P f [] l a.out:=fun a h=>by cases h
theorem aS{P:Program}{f:FuncId}{l:List AV}{o:lX}{b:Bool}{al:List pA}(h:b=true→am P f [] l o)(t:∀ a∈al,ak a.obs→am P f [] l a.out) :∀ a∈(⟨o,[b]⟩:pA)::al,ak a.obs→am P f [] l a.out:=by
  intro a ha ho
  rcases List.mem_cons.1 ha with rfl | ha
  · exact h ho.1
  · exact t a ha ho
end Go.Plb
namespace Go.Plb
open Go.ChangeShapes Go.WideShapes Go.ChangeAt Go.RowKit Go.Deep
set_option linter.unusedSimpArgs false
set_option linter.unusedVariables false
set_option linter.unusedSectionVars false
variable [Rom]
def FA.n:FA→Nat
  | .f x=>x
  | _=>0
def FA.z:FA→Int
  | .i _ n=>n
  | _=>0
def FA.bb:FA→Bool
  | .b x=>x
  | _=>false
def FA.ss:FA→ByteArray
  | .s x=>x
  | _=>ByteArray.empty
def FA.lf:FA→List Nat
  | .fl x=>x
  | _=>[]
def FA.lz:FA→List Int
  | .ns _ x=>x
  | _=>[]
def C9(ft:FT)(g:Nat→FA)(n:Nat) :cr :=
  match ft with
  | .i k=>.ci k ((List.range n).map fun i=>(g i).z)
  | .f=>.cf ((List.range n).map fun i=>(g i).n)
  | .s=>.cs ((List.range n).map fun i=>(g i).ss)
  | .b=>.cb ((List.range n).map fun i=>(g i).bb)
  | .fl=>.cfl ((List.range n).map fun i=>(g i).lf)
  | .ns k=>.cns k ((List.range n).map fun i=>(g i).lz)
theorem B3{α:Type}{f:Nat→α}{h:α→AV}{n i:Nat}{v:AV}(q:(((List.range n).map f)[i]?).map h=some v) :i<n∧v=h (f i):=by
  simp only [Option.map_eq_some_iff] at q
  obtain ⟨y,h1,h2⟩:=q
  obtain ⟨a,rfl⟩:=fC _ _ _ _ h1
  exact ⟨a,h2.symm⟩
theorem Is(ft:FT)(g:Nat→FA)(n:Nat) :(C9 ft g n).len=n:=by cases ft<;>simp [C9,cr.len]
theorem GD{ft:FT}{g:Nat→FA}{n i:Nat}{v:AV}(h:(C9 ft g n).cell? i=some v)(hg:i<n→(g i).has ft) :i<n∧ay (g i).av v:=by
  cases ft<;>simp only [C9,cr.cell?] at h<;>obtain ⟨h1,h2⟩:=B3 h<;>have:=hg h1<;>refine ⟨h1,?_⟩<;>rw [h2]<;>clear h2 h hg<;>generalize g i=a at this ⊢ <;> cases a<;>simp only [FA.has] at this<;>first | exact ay.refl _ | (obtain ⟨rfl,_⟩:=this;exact ay.refl _) | exact (Wk.fltL _).weak
def mb(G:Nat→Nat→FA)(n:Nat) :List FT→Nat→List cr
  | [],_=>[]
  | ft::l,j=>C9 ft (fun i=>G i j) n::mb G n l (j+1)
theorem Aw(G:Nat→Nat→FA)(n:Nat) :∀ (l:List FT) (j:Nat),(mb G n l j).length=l.length
  | [],_=>rfl
  | ft::l,j=>by simp [mb,Aw G n l]
theorem uq{G:Nat→Nat→FA}{n:Nat} :∀ {l:List FT} {j k:Nat} {c:cr},(mb G n l j)[k]? = some c→∃ ft,l[k]? = some ft∧c=C9 ft (fun i=>G i (j+k)) n
  | [],j,k,c,h=>by simp [mb] at h
  | ft::l,j,0,c,h=>by simp [mb] at h;exact ⟨ft,rfl,h.symm⟩
  | ft::l,j,k+1,c,h=>by
    obtain ⟨ft',h1,h2⟩:=uq (l:=l) (j:=j+1) (k:=k) (by simpa [mb] using h)
    exact ⟨ft',by simpa using h1,by rw [h2];congr 1;funext i;congr 1;omega⟩
theorem pH:∀ {fts:List FT} {fas:List FA},oS fts fas→∀ {j:Nat} {ft:FT},fts[j]? = some ft→∃ a,fas[j]? = some a∧a.has ft
  | [],[],_,j,ft,q=>by simp at q
  | [],_::_,h,_,_,_=>h.elim
  | _::_,[],h,_,_,_=>h.elim
  | t::ts,a::fas,h,0,ft,q=>by simp at q;subst q;exact ⟨a,rfl,h.1⟩
  | t::ts,a::fas,h,j+1,ft,q=>by
    obtain ⟨b,h1,h2⟩:=pH h.2 (by simpa using q)
    exact ⟨b,by simpa using h1,h2⟩
theorem HD:∀ {fas:List FA} {j:Nat} {a:FA},fas[j]? = some a→(FA.avs fas)[j]? = some a.av
  | [],j,a,h=>by simp at h
  | b::l,0,a,h=>by simp at h;subst h;rfl
  | b::l,j+1,a,h=>by simpa [FA.avs] using HD (by simpa using h)
theorem HE{ρ:ae}{w:World} :∀ {l:List AV} {c:List Value},bL ρ w l c→∀ {j:Nat} {v:AV},l[j]? = some v→∃ u,c[j]? = some u∧VR ρ w v u
  | _,_,.nil,j,v,h=>by simp at h
  | _,_,.cons v u l c a t,0,v',h=>by simp at h;subst h;exact ⟨u,rfl,a⟩
  | _,_,.cons v u l c a t,j+1,v',h=>by
    obtain ⟨u',h1,h2⟩:=HE t (by simpa using h)
    exact ⟨u',by simpa using h1,h2⟩
variable {H : Type} {enc : TypeId × Value → H} {P : Program} {W : World}
instance:Inhabited FA:=⟨.b false⟩
theorem It{t e:TypeId}{fts:List FT}{v:Value}{d:DataW H}{p:List MemPlace}{base:Nat}(ht:P.underlying t=some (.slice e))(he:Ls P e=some fts)(hw:fts.length=P.cellsOf e)(hpos:0<fts.length)(ho:Value.okWide P W .any base t v)(h:DataW.Trod enc P W 0 (fun _=>true) true t v d p) :
    ∃ (n:Nat) (G:Nat→Nat→FA),n≤maxLen∧(∀ i j ft,i<n→fts[j]? = some ft→(G i j).has ft)∧VR ae.none_ W (.imm .free (.cols n (mb G n fts 0)) fts.length fts.length 0 n) v:=by
  obtain ⟨fuel,hf⟩:=h
  have hc:v.cells.toList=[v]:=by
    have hne:∀ c,v ≠ .agg c:=by
      rintro c rfl
      unfold Value.okWide at ho
      rw [ht] at ho;simp [Cell.okWide,Cell.ok,ht] at ho
    cases v<;>first | rfl | exact (hne _ rfl).elim
  rw [hc] at hf
  have rk:∀ (n:Nat) (G:Nat→Nat→FA),(aj.cols n (mb G n fts 0)).recKept:=by
    intro n G c hc
    obtain ⟨k,hk⟩:=List.getElem?_of_mem hc
    obtain ⟨ft,_,rfl⟩:=uq hk
    exact Is _ _ _
  rcases open_slice ht hf with ⟨h1,_⟩ | ⟨a,len,cap,m,n,D,Pl,h1,hb,hl,hm,hmm,_,hx⟩
  · simp only [List.cons.injEq,and_true] at h1;subst h1
    exact ⟨0,fun _ _=>default,Nat.zero_le _,fun i j ft hi=>absurd hi (Nat.not_lt_zero _),.immEnd _ _ _ _ _ _ _ (rk _ _) (fun _=>rfl) rfl⟩
  · simp only [List.cons.injEq,and_true] at h1;subst h1
    obtain ⟨F,hF⟩:=choose_lt (α:=List FA) (n:=len) (p:=fun i fas=>oS fts fas∧∃ cs,W.cells? 0 (a.add (i*P.cellsOf e)) (P.cellsOf e)=some cs∧bL ae.none_ W (FA.avs fas) cs) (fun i hi=>by
      obtain ⟨cs',q1,q2⟩:=hx i (by rw [hmm,if_pos rfl];omega)
      obtain ⟨fas,q3,q4⟩:=D0 he q2
      exact ⟨fas,q3,cs',q1,q4⟩)
    refine ⟨len,fun i j=>(F i).getD j default,by omega,fun i j ft hi hj=>?_,?_⟩
    · obtain ⟨b,q1,q2⟩:=pH (hF i hi).1 hj
      simp only [List.getD_eq_getElem?_getD,q1,Option.getD_some];exact q2
    · rcases Nat.eq_zero_or_pos len with rfl | hz
      · exact .immEnd _ _ _ _ _ _ _ (rk _ _) (fun _=>rfl) rfl
      ·
        have hcell0:∀ i j ft,i<len→fts[j]? = some ft→∃ u,W.cell? ((a.add (i*P.cellsOf e)).add j)=some u∧VR ae.none_ W ((F i).getD j default).av u:=by
          intro i j ft hi hj
          obtain ⟨k1,cs,k2,k3⟩:=hF i hi
          obtain ⟨b,q1,q2⟩:=pH k1 hj
          obtain ⟨u,q3,q4⟩:=HE k3 (HD q1)
          obtain ⟨_,r1,r2⟩:=World.cells?_some k2
          refine ⟨u,?_,?_⟩
          · rw [r2 j (by have:=(List.getElem?_eq_some_iff.1 hj).1;omega)];exact q3
          · simp only [List.getD_eq_getElem?_getD,q1,Option.getD_some];exact q4
        have hs:a.spot=none:=by
          obtain ⟨ft,hft⟩:∃ ft,fts[0]? = some ft:=⟨_,List.getElem?_eq_getElem hpos⟩
          obtain ⟨u,q,_⟩:=hcell0 0 0 ft hz hft
          have e0:(a.add (0*P.cellsOf e)).add 0=a:=by simp [Addr.add]
          rw [e0] at q
          exact pF q
        obtain ⟨bl,o,sp⟩:=a
        simp only at hs;subst hs
        have hcell:∀ i j ft,i<len→fts[j]? = some ft→∃ u,W.cell? ⟨bl,o+(i*fts.length+j),none⟩=some u∧VR ae.none_ W ((F i).getD j default).av u:=by
          intro i j ft hi hj
          obtain ⟨u,q1,q2⟩:=hcell0 i j ft hi hj
          rw [dU,dU,←hw,Nat.add_assoc] at q1
          exact ⟨u,q1,q2⟩
        have hblk:∀ x v,(aj.cols len (mb (fun i j=>(F i).getD j default) len fts 0)).cell? x=some v→∃ u,W.cell? ⟨bl,o+x,none⟩=some u∧VR ae.none_ W v u:=by
          intro x v hv
          obtain ⟨c,q1,_,q3⟩:=cE hv
          rw [Aw] at q1 q3
          obtain ⟨ft,q4,rfl⟩:=uq q1
          rw [Nat.zero_add] at q3
          obtain ⟨q5,q6⟩:=GD q3 (fun hi=>by
            obtain ⟨b,r1,r2⟩:=pH (hF _ hi).1 q4
            simp only [List.getD_eq_getElem?_getD,r1,Option.getD_some];exact r2)
          obtain ⟨u,r1,r2⟩:=hcell _ _ _ q5 q4
          have ex:x/fts.length*fts.length+x%fts.length=x:=by rw [Nat.mul_comm];exact Nat.div_add_mod x _
          rw [ex] at r1
          exact ⟨u,r1,q6 _ _ _ r2⟩
        have hlt:bl<W.heap.size:=by
          obtain ⟨ft,hft⟩:∃ ft,fts[0]? = some ft:=⟨_,List.getElem?_eq_getElem hpos⟩
          obtain ⟨u,q,_⟩:=hcell 0 0 ft hz hft
          exact uo q
        have:=VR.imm (ρ:=ae.none_) (w:=W) .free (.cols len (mb (fun i j=>(F i).getD j default) len fts 0)) fts.length fts.length 0 len cap bl o (fun x=>(W.cell? ⟨bl,o+x,none⟩).getD undef) (nf _ _) hlt
          (fun x v hx'=>by obtain ⟨u,q,_⟩:=hblk x v hx';rw [q];rfl) (fun x v hx'=>by obtain ⟨u,q,r⟩:=hblk x v hx';rw [q];exact r) hl (rk _ _) (fun _=>rfl) rfl
        simpa using this
end Go.Plb
namespace Go.Plb.Seat
open Go Go.Plb Go.Proofs
noncomputable abbrev prog:Program:=Tryz.prog
def aK:List Int:=[1,10,100,1000,10000,100000,1000000,10000000,100000000,1000000000,10000000000,100000000000,1000000000000,10000000000000,100000000000000,1000000000000000,10000000000000000,100000000000000000,1000000000000000000,10000000000000000000]
instance:Rom:=⟨[(1,.gvar (aK.map fun z=>Value.int .u64 z).toArray),(4,.iptr .free (.vs [.iface 158 .any]) 1 0 0),(5,.iptr .free (.vs [.iface 158 .any]) 1 0 0)],by intro x hx;simp only [List.mem_cons,List.not_mem_nil,or_false] at hx;rcases hx with rfl | rfl | rfl<;>rfl⟩
abbrev ia:FuncId:=3
abbrev pK:FuncId:=6
abbrev oq:FuncId:=7
abbrev fa:FuncId:=8
abbrev yB:FuncId:=9
abbrev pL:FuncId:=11
abbrev ka:FuncId:=12
abbrev vO:FuncId:=17
abbrev ot:FuncId:=19
abbrev vP:FuncId:=20
abbrev dV:FuncId:=21
abbrev qj:FuncId:=22
abbrev pM:FuncId:=23
abbrev qk:FuncId:=31
abbrev tz:FuncId:=32
abbrev bE:FuncId:=33
abbrev Fs:FuncId:=35
abbrev tA:FuncId:=36
abbrev tB:FuncId:=37
abbrev ru:FuncId:=38
abbrev kb:FuncId:=39
abbrev rv:FuncId:=41
abbrev ke:FuncId:=43
abbrev pN:FuncId:=44
abbrev nV:FuncId:=46
abbrev ql:FuncId:=47
abbrev gO:FuncId:=48
abbrev lL:FuncId:=49
abbrev ng:FuncId:=50
abbrev tC:FuncId:=53
abbrev jx:FuncId:=57
abbrev jB:FuncId:=63
abbrev cz:FuncId:=64
abbrev eL:FuncId:=68
abbrev mc:FuncId:=78
abbrev cB:FuncId:=92
abbrev bQ:FuncId:=94
noncomputable def FN(f:FuncId) :Func:=(prog.funcs[f]?).getD default
noncomputable def rx(f:FuncId) :Code:=((FN f).body).getD .skip
noncomputable def C0:ui:=Hs prog [(cB,.cntb),(bQ,.idxb)] [(bE,⟨[true,false],false⟩),(Fs,⟨[],true⟩)]
theorem kf:Jj prog cB .cntb:=⟨FN cB,by kernel_rfl,by kernel_rfl,by kernel_rfl,by kernel_rfl,by kernel_rfl⟩
theorem ib:Jj prog bQ .idxb:=⟨FN bQ,by kernel_rfl,by kernel_rfl,by kernel_rfl,by kernel_rfl,by kernel_rfl⟩
theorem mixed:prog.follows .mixedOrders=true:=by kernel_rfl
theorem L4:Ht prog=true:=by kernel_rfl
theorem K7:C0.Ok:=Jk mixed L4 (by
  intro x hx
  simp only [List.mem_cons,List.not_mem_nil,or_false] at hx
  rcases hx with rfl | rfl
  · exact kf
  · exact ib
  )
end Go.Plb.Seat
namespace Go.Proofs.YtacdcghekbbjiaaGreatDoor
open Go.ChangeShapes Go.WideShapes Go.ChangeAt Go.RowKit Go.Plb Go.Plb.Seat
set_option maxRecDepth 100000
theorem Lt:ownKnob Tryz.prog.godebug=none:=by kernel_rfl
theorem Kw:laidOutB Tryz.prog=true:=by kernel_rfl
def Ax : List (String × DataW Unit) := [("math/bits.deBruijn32tab", Rows.laid_math_bits_deBruijn32tab), ("math/bits.deBruijn64tab", Rows.laid_math_bits_deBruijn64tab), ("internal/strconv.uint64pow10", Rows.laid_internal_strconv_uint64pow10), ("unicode/utf8.acceptRanges", Rows.laid_unicode_utf8_acceptRanges), ("strconv.ErrRange", Rows.laid_strconv_ErrRange), ("strconv.ErrSyntax", Rows.laid_strconv_ErrSyntax), ("unicode/utf8.first", Rows.laid_unicode_utf8_first)]
theorem HF : Tryz.prog.globalNamed "internal/strconv.uint64pow10" = some 1 := by kernel_rfl
theorem HG : Tryz.prog.globalNamed "strconv.ErrRange" = some 5 := by kernel_rfl
theorem HH : Tryz.prog.globalNamed "strconv.ErrSyntax" = some 4 := by kernel_rfl
theorem Kx:(Rows.laid_internal_strconv_uint64pow10:DataW Unit)=Lib.tabData .u64 aK:=by rfl
theorem L5 : "*" ++ "errors.errorString" = "*errors.errorString" := by decide
noncomputable def MQ:Field:=match Tryz.prog.underlying 160 with
  | some (.struct l)=>l[0]?.getD default
  | _=>default
noncomputable def L6:Array (String×TypeId):=match Tryz.prog.underlying 63 with
  | some (.interface l)=>l
  | _=>#[]
theorem JM(u : TypeId)(h : Tryz.prog.typeName? 3 u = some "*errors.errorString") : u = 158 :=
  typeName_ptr_named (nm := "errors.errorString") (by rw [L5]; kernel_rfl) (by kernel_rfl) (by decide) u (by rw [L5]; exact h)
theorem Ay{W:World}{n:String}{g:Nat}{cs:Array Value}(hg:Tryz.prog.globalNamed n=some g)(h:W.var? Tryz.prog n=some cs) :∃ t fr,W.heap[g]? = some (.cells cs t fr):=by
  unfold World.var? at h
  rw [hg] at h
  simp only [Option.bind_some] at h
  split at h
  · rename_i cs' t fr e
    cases h
    exact ⟨t,fr,e⟩
  · cases h
theorem Ft{W:World}{g:Nat}{v:Value}(h:∃ t fr,W.heap[g]? = some (.cells #[.iface 158 v] t fr)) :VR ae.none_ W (.iptr .free (.vs [.iface 158 .any]) 1 0 0) (.pointer (some ⟨g,0,none⟩)):=by
  obtain ⟨t,fr,h⟩:=h
  refine .iptr .free _ 1 0 0 g 0 (fun _=>.iface 158 v) (nf _ _) (Array.getElem?_eq_some_iff.1 h).1 (fun x u hx=>?_) (fun x u hx=>?_) trivial (fun _=>rfl) rfl
  · cases x with
    | zero=>simp [World.cell?,h]
    | succ x=>cases hx
  · cases x with
    | zero=>cases hx;exact .iface _ _ _ (.any _)
    | succ x=>cases hx
theorem Ky{W:World}(h:laidMetH Tryz.prog Ax W) :∀ x∈Rom.tab,VR ae.none_ W x.2 (.pointer (some ⟨x.1,0,none⟩)):=by
  have h':laidMet Tryz.prog Ax W:=h
  have h3:=h'.tail.tail
  have ht : Lib.TabIs Tryz.prog W "internal/strconv.uint64pow10" .u64 aK := by
    rw [Kx] at h3
    exact Lib.tabIs_of_head HF (t:=143) (e:=31) (n:=aK.length) (by kernel_rfl) (by kernel_rfl) (by kernel_rfl) (by kernel_rfl) (by kernel_rfl) h3
  have h5:=h3.tail.tail
  obtain ⟨a0,s0,hv0,-,-,-⟩:=laid_sentinel (te:=160) (ts:=9) (f:=MQ) (ms:=L6) h5 HG (ti:=63) (by kernel_rfl) (by kernel_rfl) JM (by kernel_rfl) (by kernel_rfl) (by kernel_rfl) (by kernel_rfl) (by kernel_rfl) (by kernel_rfl) (by kernel_rfl)
  have h6:=h5.tail
  obtain ⟨a1,s1,hv1,-,-,-⟩:=laid_sentinel (te:=160) (ts:=9) (f:=MQ) (ms:=L6) h6 HH (ti:=63) (by kernel_rfl) (by kernel_rfl) JM (by kernel_rfl) (by kernel_rfl) (by kernel_rfl) (by kernel_rfl) (by kernel_rfl) (by kernel_rfl) (by kernel_rfl)
  intro x hx
  simp only [Rom.tab,List.mem_cons,List.not_mem_nil,or_false] at hx
  rcases hx with rfl | rfl | rfl
  · obtain ⟨t,fr,hh⟩:=Ay HF ht
    exact .gvar _ 1 t fr (nf _ _) (Array.getElem?_eq_some_iff.1 hh).1 hh
  · exact Ft (Ay HH hv1)
  · exact Ft (Ay HG hv0)
def MA:DataW Unit→List Value
  | .lit (.int k z)=>[.int k z]
  | .agg l=>l.flatMap fun
    | .lit (.int k z)=>[.int k z]
    | _=>[]
  | _=>[]
def JN:DataW Unit→Array Value
  | .agg l=>(l.flatMap MA).toArray
  | _=>#[]
def Az(g:Nat)(c:Array Value)(h:Array Obj) :Array Obj:=h.modify g fun
  | .cells _ t frozen=>.cells c t frozen
  | o=>o
def MR:DataW Unit→Value
  | .iface _ (.ptr (.agg [.lit (.string s)]))=>.string ⟨s.toArray⟩
  | _=>undef
noncomputable def Da(os:Os) :World :=
  let w0:=World.holding Tryz.prog os ⟨#[],#[],[]⟩
  let n:=w0.heap.size
  { w0 with heap:=(((Az 2 (JN Rows.laid_unicode_utf8_first) (Az 3 (JN Rows.laid_unicode_utf8_acceptRanges) (Az 1 (JN Rows.laid_internal_strconv_uint64pow10) (Az 6 (JN Rows.laid_math_bits_deBruijn32tab) (Az 7 (JN Rows.laid_math_bits_deBruijn64tab)
      (Az 5 #[.iface 158 (.pointer (some ⟨n,0,none⟩))] (Az 4 #[.iface 158 (.pointer (some ⟨n+1,0,none⟩))] w0.heap))))))).push (.cells #[MR Rows.laid_strconv_ErrRange] 160 (0,0))).push (.cells #[MR Rows.laid_strconv_ErrSyntax] 160 (0,0))) }
theorem JO(os:Os)(args:Array Value) :laidMetH Tryz.prog Ax ((Da os).forCall (fun _ _=>0) ⟨#[],args,[]⟩).memory :=
  (laidMet_of_run' 8 (by kernel_rfl) (by kernel_rfl):laidMet Tryz.prog Ax _)
end Go.Proofs.YtacdcghekbbjiaaGreatDoor
namespace Go.Plb
open Go.RowKit
set_option linter.unusedSimpArgs false
set_option linter.unusedVariables false
set_option linter.unusedSectionVars false
variable [Rom]
theorem oV{M:Nat→Prop}{w w':World}(h:Below w.heap.size w w') :ef M w w' :=
  ⟨h.os,h.tape,h.output,h.size,fun b hb _=>h.block b hb,fun b c t fz hc=>⟨c,(h.block b (by
    rcases Nat.lt_or_ge b w.heap.size with q | q
    · exact q
    · rw [Array.getElem?_eq_none q] at hc;cases hc)).trans hc,rfl⟩⟩
theorem cP.new{ρ:ae}{w:World}{l:List aj}(hN:cP ρ w l)(bl:Nat)(h:w.heap.size≤bl) :ρ.avoid .free bl:=by
  intro j _
  cases j with
  | zero=>exact fun q=>by have:=hN.heap.liveLt bl q;omega
  | succ j=>exact fun q=>by have:=hN.heap.outLt j bl q;omega
def eM(w:World) :Prop:=∀ x∈Rom.tab,VR ae.none_ w x.2 (.pointer (some ⟨x.1,0,none⟩))
theorem Fu(ρ:ae)(w:World) :DI ρ ae.none_ w:=fun _ _ _ j=>by cases j<;>exact fun h=>h
theorem cP.romOk{ρ:ae}{w:World}{l:List aj}(hN:cP ρ w l) :eM w:=fun x hx=>cO (Fu ρ w) (hN.heap.rom x hx) (Rom.kept x hx)
theorem eM.below{w w':World}(h:eM w){B:Nat}(hb:Below B w w')(hB:w.heap.size≤B) :eM w':=fun x hx =>
  (h x hx).mono (jn.refl _ _) (oV (hb.mono hB))
theorem Iu{w w':World}(W:ef ae.none_.live w w') :Below w.heap.size w w':=⟨W.os,W.tape,W.output,W.size,fun k hk=>W.same k hk (fun h=>h)⟩
theorem am.calls{P:Program}{f:FuncId}{args:List AV}{v:AV}{us:List Value}(h:am P f [] args ⟨v,[]⟩)(w:World)(hr:eM w)(hv:bL ae.none_ w args us) :
    Calls P f us.toArray w fun e w'=>∃ u ρ',e=.returned u∧Below w.heap.size w w'∧VR ρ' w' v u:=by
  refine (h ae.none_ w us (Hy w hr) hv).2.mono ?_
  rintro e w' ⟨u,rfl,W,ρ',_,_,_,hu⟩
  exact ⟨u,ρ',rfl,Iu W,hu⟩
theorem ca{P:Program}{f:FuncId}{args:List AV}{v:AV}(hf:∃ fn,P.funcs[f]? = some fn∧fn.body.isSome=true) 
    (h:∀ (ρ:ae) (w:World) (us:List Value),cP ρ w []→bL ρ w args us→Calls P f us.toArray w fun e w'=>∃ u,e=.returned u∧Below w.heap.size w w'∧VR ρ w' v u):am P f [] args ⟨v,[]⟩:=by
  intro ρ w us hN hv
  refine ⟨hf,(h ρ w us hN hv).mono ?_⟩
  rintro e w' ⟨u,rfl,hb,hu⟩
  have W:ef ρ.live w w':=oV hb
  exact ⟨u,rfl,W,ρ,jn.refl _ _,fun _ _ q=>q,hN.heap.step W (fun bl q=>hb.block bl (hN.heap.liveLt bl q)),hu⟩
end Go.Plb
namespace Go.Plb.Seat
open Go Go.Plb Go.Proofs Go.RowKit
set_option maxRecDepth 100000
set_option linter.unusedSimpArgs false
set_option linter.unusedVariables false
def nW(s:List UInt8)(n:Int)(a b:Bool) :Value:=.agg #[.string ⟨s.toArray⟩,.int .i64 n,.bool a,.bool b]
def dJ:List MapEntry:=[⟨.int .i64 1,nW [101,105,103,101,110] 3 false true,0⟩,⟨.int .i64 2,nW [118,97,108,117,101,115] 0 false true,1⟩,⟨.int .i64 3,nW [115,118,100] 2 false false,2⟩,
  ⟨.int .i64 4,nW [114,97,110,107] 2 true false,3⟩,⟨.int .i64 5,nW [105,110,118,101,114,115,101] 2 true false,4⟩,⟨.int .i64 6,nW [99,111,110,100] 2 false false,5⟩]
theorem JP{α:Type}(a:Array α)(x y:α) :(a.push x).setIfInBounds a.size y=a.push y:=by
  apply Array.ext
  · simp
  · intro i h1 h2
    rw [Array.getElem_setIfInBounds]
    · rw [Array.getElem_push,Array.getElem_push]
      by_cases q:a.size=i
      · subst q;simp
      · have:i<a.size:=by simp at h2;omega
        simp [q,this]
    · simp at h2 ⊢;omega
theorem Fv(w:World)(o:Obj)(h:∀ c t f,o ≠ .cells c t f) :(getObj w.heap.size).run prog (w.alloc o)=.ok o (w.alloc o):=by
  have hn:(w.alloc o).heap[w.heap.size]? = some o:=aR w o
  simp only [getObj,Sem.run]
  rw [hn]
  cases o<;>first | rfl | exact absurd rfl (h _ _ _)
theorem Fw(w:World)(o o':Obj)(h:∀ c t f,o ≠ .cells c t f) :(setObj w.heap.size o').run prog (w.alloc o)=.ok () (w.alloc o'):=by
  have hn:(w.alloc o).heap[w.heap.size]? = some o:=aR w o
  simp only [setObj,Sem.run]
  rw [hn]
  have he:({ (w.alloc o) with heap:=(w.alloc o).heap.setIfInBounds w.heap.size o' }:World)=w.alloc o':=by
    simp only [World.alloc]
    congr 1
    exact JP _ _ _
  cases o<;>first | exact congrArg _ he | exact absurd rfl (h _ _ _)
theorem MS:prog.underlying 79=some (.map 29 78):=by kernel_rfl
theorem LP:prog.underlying 29=some (.int .i64):=by kernel_rfl
theorem sE(w:World)(es:Array MapEntry)(cl:Nat)(k:Int)(v:Value)(h:Instr.findNow (.int .i64) (.int .i64 k) es.toList 0=some none) :
    (Instr.mapUpdate 79 (.map (some w.heap.size)) (.int .i64 k) v).run prog (w.alloc (.map es cl))=.ok () (w.alloc (.map (es.push ⟨.int .i64 k,v,cl⟩) (cl+1))):=by
  have hg:=Fv w (.map es cl) (fun _ _ _ e=>by cases e)
  have hc:(Instr.checkKey false 10000 29 (.int .i64 k)).run prog (w.alloc (.map es cl))=.ok () (w.alloc (.map es cl)):=xe LP (key:=.i .i64 k) rfl false 9999
  have hf:(Instr.findKey 29 (.int .i64 k) es.toList).run prog (w.alloc (.map es cl))=.ok none (w.alloc (.map es cl)):=by
    unfold Instr.findKey
    simp only [Sem.run_bind,run_underlying LP,Result.andThen_ok,h]
    rfl
  unfold Instr.mapUpdate
  simp only [Sem.run_bind,run_underlying MS,Result.andThen_ok,hg,hc,hf]
  exact Fw w (.map es cl) _ (fun _ _ _ e=>by cases e)
set_option maxHeartbeats 1000000 in
theorem yC (w : World) : Calls prog kb #[] w fun e w' => e = .returned (.map (some w.heap.size)) ∧ w' = w.alloc (.map dJ.toArray 6) := by
  have hmm := @run_makeMap prog
  have h1 := sE w #[] 0 1 (nW [101, 105, 103, 101, 110] 3 false true) rfl
  have h2 := sE w (dJ.take 1).toArray 1 2 (nW [118, 97, 108, 117, 101, 115] 0 false true) rfl
  have h3 := sE w (dJ.take 2).toArray 2 3 (nW [115, 118, 100] 2 false false) rfl
  have h4 := sE w (dJ.take 3).toArray 3 4 (nW [114, 97, 110, 107] 2 true false) rfl
  have h5 := sE w (dJ.take 4).toArray 4 5 (nW [105, 110, 118, 101, 114, 115, 101] 2 true false) rfl
  have h6 := sE w (dJ.take 5).toArray 5 6 (nW [99, 111, 110, 100] 2 false false) rfl
  simp only [dJ, nW, List.take, List.push_toArray, List.cons_append, List.nil_append, Nat.reduceAdd] at h1 h2 h3 h4 h5 h6
  go_enter Tryz.func39, Tryz.ntmps39
  go_wp2
  go_ret
  exact ⟨rfl, rfl⟩
def AA(s:List UInt8)(n:Int)(a b:Bool) :AV:=.agg [.str ⟨s.toArray⟩,.int .i64 n,.bool true a,.bool true b]
def D3:List cx:=[.i .i64 1,.i .i64 2,.i .i64 3,.i .i64 4,.i .i64 5,.i .i64 6]
def GE:List AV:=[AA [101,105,103,101,110] 3 false true,AA [118,97,108,117,101,115] 0 false true,AA [115,118,100] 2 false false,AA [114,97,110,107] 2 true false,AA [105,110,118,101,114,115,101] 2 true false,AA [99,111,110,100] 2 false false]
theorem oW(ρ:ae)(w:World)(s:List UInt8)(n:Int)(a b:Bool) :VR ρ w (AA s n a b) (nW s n a b) :=
  .agg _ _ (.cons _ _ _ _ (.str _) (.cons _ _ _ _ (.int _ _) (.cons _ _ _ _ (.bool _ _) (.cons _ _ _ _ (.bool _ _) .nil))))
theorem MZ{i:Nat}{k:cx}(h:D3[i]? = some k) :i<6:=by
  have:=(List.getElem?_eq_some_iff.1 h).1
  exact this
theorem JQ{ρ:ae}{w:World}{bl:Nat}(ha:ρ.avoid .free bl)(hb:bl<w.heap.size)(hh:w.heap[bl]? = some (.map dJ.toArray 6)) :VR ρ w (.gmap D3 GE) (.map (some bl)):=by
  refine .gmap _ _ bl _ 6 (fun i=>((dJ.map (·.val))[i]?).getD undef) ha hb hh (fun e he=>?_) (fun i k hk=>?_) (fun x v hx=>?_) rfl rfl
  · have he:e∈dJ:=he
    simp only [dJ,List.mem_cons,List.not_mem_nil,or_false] at he
    rcases he with rfl | rfl | rfl | rfl | rfl | rfl
    · exact ⟨0,_,rfl,rfl,rfl⟩
    · exact ⟨1,_,rfl,rfl,rfl⟩
    · exact ⟨2,_,rfl,rfl,rfl⟩
    · exact ⟨3,_,rfl,rfl,rfl⟩
    · exact ⟨4,_,rfl,rfl,rfl⟩
    · exact ⟨5,_,rfl,rfl,rfl⟩
  · have hi:=MZ hk
    refine ⟨(dJ[i]?).getD default,?_,?_⟩
    · have h6:dJ.length=6:=rfl
      show (dJ[i]?).getD default∈dJ
      rw [List.getElem?_eq_getElem (by omega)]
      exact List.getElem_mem _
    · rcases i with _ | _ | _ | _ | _ | _ | i
      · cases hk;exact ⟨rfl,rfl⟩
      · cases hk;exact ⟨rfl,rfl⟩
      · cases hk;exact ⟨rfl,rfl⟩
      · cases hk;exact ⟨rfl,rfl⟩
      · cases hk;exact ⟨rfl,rfl⟩
      · cases hk;exact ⟨rfl,rfl⟩
      · omega
  · rcases x with _ | _ | _ | _ | _ | _ | x
    · cases hx;exact oW ..
    · cases hx;exact oW ..
    · cases hx;exact oW ..
    · cases hx;exact oW ..
    · cases hx;exact oW ..
    · cases hx;exact oW ..
    · cases hx
theorem Fx(w:World)(o:Obj) :Below w.heap.size w (w.alloc o):=(Below.refl _ w).alloc (Nat.le_refl _) o
theorem Kz:am prog kb [] [] ⟨.gmap D3 GE,[]⟩:=by
  refine ca ⟨FN kb,by kernel_rfl,by kernel_rfl⟩ fun ρ w us hN hv=>?_
  cases hv
  refine (yC w).mono ?_
  rintro e w' ⟨rfl,rfl⟩
  refine ⟨_,rfl,Fx _ _,JQ (hN.new _ (Nat.le_refl _)) (by simp) (aR w _)⟩
def D4:aH:=⟨kb,fun lent args=>match lent,args with | [],[]=>some [⟨⟨.gmap D3 GE,[]⟩,[]⟩] | _,_=>none⟩
theorem GF:aM prog D4:=by
  intro lent args alts a h ha ho
  simp only [D4] at h
  split at h
  · simp only [Option.some.injEq] at h;subst h
    simp only [List.mem_singleton] at ha;subst ha
    exact Kz
  · cases h
end Go.Plb.Seat
namespace Go.Plb.Seat
open Go Go.Plb Go.Proofs Go.RowKit
open Go.ChangeMaps (setBlock)
set_option maxRecDepth 100000
set_option linter.unusedSimpArgs false
set_option linter.unusedVariables false
def kg(i:Nat) :ByteArray:=⟨(([[101,105,103,101,110],[118,97,108,117,101,115],[115,118,100],[114,97,110,107],[105,110,118,101,114,115,101],[99,111,110,100]]:List (List UInt8))[i]?.getD []).toArray⟩
def kn(i:Nat) :Int:=([3,0,2,2,2,2]:List Int)[i]?.getD 0
def kt(i:Nat) :Bool:=([false,false,false,true,true,false]:List Bool)[i]?.getD false
def ks(i:Nat) :Bool:=([true,true,false,false,false,false]:List Bool)[i]?.getD false
def GG(i:Nat) :Array Value:=#[.string (kg i),.int .i64 (kn i),.bool (kt i),.bool (ks i)]
def kE(i:Nat) :MapEntry:=⟨.int .i64 (i+1),.agg (GG i),i⟩
theorem ry:dJ=[kE 0,kE 1,kE 2,kE 3,kE 4,kE 5]:=rfl
theorem JR{seen:List Nat}{e:MapEntry}(h:e∈(leftOf dJ.toArray seen.toArray).toList) :∃ i,i<6∧i ∉ seen∧e=kE i:=by
  simp only [leftOf,ry,List.filter_toArray,List.mem_filter,List.mem_cons,List.not_mem_nil,or_false,Bool.not_eq_true',List.contains_toArray] at h
  obtain ⟨h1,h2⟩:=h
  have hb:∀ i,(kE i).born=i:=fun i=>rfl
  rcases h1 with rfl | rfl | rfl | rfl | rfl | rfl
  · exact ⟨0,by decide,by simpa [hb] using h2,rfl⟩
  · exact ⟨1,by decide,by simpa [hb] using h2,rfl⟩
  · exact ⟨2,by decide,by simpa [hb] using h2,rfl⟩
  · exact ⟨3,by decide,by simpa [hb] using h2,rfl⟩
  · exact ⟨4,by decide,by simpa [hb] using h2,rfl⟩
  · exact ⟨5,by decide,by simpa [hb] using h2,rfl⟩
theorem Iv{seen:List Nat}(h:(leftOf dJ.toArray seen.toArray).size=0) :∀ i,i<6→i∈seen:=by
  intro i hi
  have h0:(leftOf dJ.toArray seen.toArray).toList=[]:=List.length_eq_zero_iff.1 (by simpa using h)
  simp only [leftOf,ry,List.filter_toArray,List.filter_eq_nil_iff,Bool.not_eq_true',List.contains_toArray,Bool.not_eq_false] at h0
  have:seen.contains (kE i).born=true:=h0 (kE i) (by
    rcases i with _ | _ | _ | _ | _ | _ | i
    · simp
    · simp
    · simp
    · simp
    · simp
    · simp
    · omega)
  simpa [kE] using this
def RE(B:Nat)(W:World)(i:Nat)(e:MapEntry) :Prop :=
  e.key=.string (kg i)∧∃ bn bk,B≤bn∧B≤bk∧e.val=.func (.func cz) #[] #[.pointer (some ⟨bn,0,none⟩),.pointer (some ⟨bk,0,none⟩)] ∧
    W.heap[bn]? = some (.cells #[.int .i64 (i+1)] 29 (0,0))∧W.heap[bk]? = some (.cells (GG i) 78 (0,0))
structure RI (w:World) (W:World) (seen:List Nat):Prop where
  it:W.heap[w.heap.size+2]? = some (.mapIter (some (w.heap.size+1)) 6 seen.toArray 6)
  src:W.heap[w.heap.size+1]? = some (.map dJ.toArray 6)
  nodup:seen.Nodup
  lt:∀ i∈seen,i<6
  low:Below w.heap.size w W
  all:∃ es cl,W.heap[w.heap.size]? = some (.map es cl)∧(∀ e∈es.toList,∃ i∈seen,RE w.heap.size W i e)∧(∀ i∈seen,∃ e∈es.toList,RE w.heap.size W i e)∧∀ e∈es.toList,∀ e'∈es.toList,e.key=e'.key→e=e'
theorem B4(W:World)(m cl:Nat)(es:Array MapEntry)(h:W.heap[m]? = some (.map es cl)) :(Instr.range 79 (.map (some m))).run prog W=.ok (.pointer (some ⟨W.heap.size,0,none⟩)) (W.alloc (.mapIter (some m) cl #[] cl)):=by
  have hg:(getObj m).run prog W=.ok (.map es cl) W:=by simp only [getObj,Sem.run];rw [h]
  unfold Instr.range
  simp only [Sem.run_bind,run_underlying MS,Result.andThen_ok,hg]
  rfl
theorem K8(w:World)(a b:Obj) :((w.alloc a).alloc b).heap.size=w.heap.size+2:=by simp
theorem M0:prog.underlying 91=some (.map 9 90):=by kernel_rfl
theorem u9:prog.underlying 9=some .string:=by kernel_rfl
theorem jC{w:World}{b:Nat}{o:Obj}(h:b<w.heap.size) :(setBlock w b o).heap[b]? = some o:=by simp [setBlock,h]
theorem dK{w:World}{b c:Nat}{o:Obj}(h:c≠b) :(setBlock w b o).heap[c]? = w.heap[c]?:=by
  simp only [setBlock,Array.getElem?_setIfInBounds]
  rw [if_neg (fun e:b=c=>h e.symm)]
theorem ou{w:World}{b:Nat}{o:Obj} :(setBlock w b o).heap.size=w.heap.size:=by simp [setBlock]
theorem Db{i j:Nat}(hi:i<6)(hj:j<6)(h:kg i=kg j) :i=j:=by
  have h':(kg i).data.toList=(kg j).data.toList:=by rw [h]
  rcases i with _ | _ | _ | _ | _ | _ | i<;>rcases j with _ | _ | _ | _ | _ | _ | j<;>first | rfl | omega | (exfalso;revert h';decide)
theorem D5(W:World)(m cl:Nat)(es:Array MapEntry)(h:W.heap[m]? = some (.map es cl))(k:ByteArray)(v:Value)(hk:∀ e∈es.toList,∃ s,e.key=.string s∧s≠k) :
    (Instr.mapUpdate 91 (.map (some m)) (.string k) v).run prog W=.ok () (setBlock W m (.map (es.push ⟨.string k,v,cl⟩) (cl+1))):=by
  have hg:(getObj m).run prog W=.ok (.map es cl) W:=by simp only [getObj,Sem.run];rw [h]
  have hc:(Instr.checkKey false 10000 9 (.string k)).run prog W=.ok () W:=xe u9 (key:=.s k) rfl false 9999
  have hn:Instr.findNow .string (.string k) es.toList 0=some none:=by
    rcases pt (d:=.string) (key:=.s k) rfl es.toList 0 (fun e he=>by obtain ⟨s,h1,_⟩:=hk e he;exact ⟨.s s,rfl,h1⟩) with q | ⟨j,e,h1,h2,_⟩
    · exact q.1
    · obtain ⟨s,k1,k2⟩:=hk e h1
      rw [k1] at h2
      exact absurd (by simpa [cx.val] using h2) k2
  have hf:(Instr.findKey 9 (.string k) es.toList).run prog W=.ok none W:=by
    unfold Instr.findKey
    simp only [Sem.run_bind,run_underlying u9,Result.andThen_ok,hn]
    rfl
  unfold Instr.mapUpdate
  simp only [Sem.run_bind,run_underlying M0,Result.andThen_ok,hg,hc,hf]
  simp only [setObj,Sem.run]
  rw [h]
  rfl
theorem Fy:∀ (n:Nat) (l:List Nat),l.Nodup→(∀ i∈l,i<n)→l.length≤n
  | 0,l,_,h=>by
    cases l with
    | nil=>simp
    | cons a l=>have:=h a (by simp);omega
  | n+1,l,hn,h=>by
    have:=Fy n (l.erase n) (hn.erase n) (fun i hi=>by
      have h1:=h i (List.mem_of_mem_erase hi)
      have h2:i≠n:=fun e=>by subst e;exact (List.Nodup.not_mem_erase hn) hi
      omega)
    rw [List.length_erase] at this
    split at this<;>omega
theorem RE.mono{B:Nat}{W W':World}{i:Nat}{e:MapEntry}(h:RE B W i e)(hs:∀ b c t,B≤b→W.heap[b]? = some (.cells c t (0,0))→W'.heap[b]? = some (.cells c t (0,0))) :RE B W' i e:=by
  obtain ⟨h1,bn,bk,h2,h3,h4,h5,h6⟩:=h
  exact ⟨h1,bn,bk,h2,h3,h4,hs _ _ _ h2 h5,hs _ _ _ h3 h6⟩
set_option maxHeartbeats 1000000 in
theorem RI.step {w W2 : World} {wr : World} {seen : List Nat} (hI : RI w wr seen) {i : Nat} (hi : i < 6) (his : i ∉ seen) {w1 : World} (hw1 : w1 = wr ∨ w1 = wr.drew)
    (hW2 : setBlock w1 (w.heap.size + 2) (.mapIter (some (w.heap.size + 1)) 6 (seen.toArray.push (kE i).born) 6) = W2) {es : Array MapEntry} {cl : Nat} (hes : wr.heap[w.heap.size]? = some (.map es cl))
    (h1 : ∀ e ∈ es.toList, ∃ i ∈ seen, RE w.heap.size wr i e) (h2 : ∀ i ∈ seen, ∃ e ∈ es.toList, RE w.heap.size wr i e) (h3 : ∀ e ∈ es.toList, ∀ e' ∈ es.toList, e.key = e'.key → e = e') :
    RI w (setBlock ((W2.alloc (.cells #[.int .i64 (i + 1)] 29)).alloc (.cells (GG i) 78)) w.heap.size (.map (es.push ⟨.string (kg i), .func (.func 64) #[] #[.pointer (some ⟨W2.heap.size, 0, none⟩), .pointer (some ⟨W2.heap.size + 1, 0, none⟩)], cl⟩) (cl + 1))) (seen ++ [i]) := by
  have hh1 : w1.heap = wr.heap := by rcases hw1 with rfl | rfl <;> rfl
  have hlt : ∀ {b : Nat} {o : Obj}, wr.heap[b]? = some o → b < wr.heap.size := fun h => (Array.getElem?_eq_some_iff.1 h).1
  have hsz : W2.heap.size = wr.heap.size := by rw [← hW2, ou, hh1]
  have L2 := hlt hI.it
  have L1 := hlt hI.src
  have L0 := hlt hes
  have e2 : ∀ c, c ≠ w.heap.size + 2 → W2.heap[c]? = wr.heap[c]? := fun c hc => by rw [← hW2, dK hc, hh1]
  obtain ⟨W3, hW3⟩ : ∃ W3, (W2.alloc (.cells #[.int .i64 (i + 1)] 29)).alloc (.cells (GG i) 78) = W3 := ⟨_, rfl⟩
  have e3 : ∀ c, c < wr.heap.size → W3.heap[c]? = W2.heap[c]? := fun c hc => by
    rw [← hW3, bX (by simp; omega), bX (by omega)]
  have n1 : W3.heap[wr.heap.size]? = some (.cells #[.int .i64 (i + 1)] 29 (0, 0)) := by
    rw [← hW3, bX (by simp; omega), ← hsz]; exact aR _ _
  have n2 : W3.heap[wr.heap.size + 1]? = some (.cells (GG i) 78 (0, 0)) := by
    have := aR (W2.alloc (.cells #[.int .i64 (i + 1)] 29)) (.cells (GG i) 78)
    rw [hW3] at this
    simpa [hsz] using this
  rw [hW3]
  obtain ⟨W4, hW4⟩ : ∃ W4, setBlock W3 w.heap.size (.map (es.push ⟨.string (kg i), .func (.func 64) #[] #[.pointer (some ⟨W2.heap.size, 0, none⟩), .pointer (some ⟨W2.heap.size + 1, 0, none⟩)], cl⟩) (cl + 1)) = W4 := ⟨_, rfl⟩
  rw [hW4]
  have e4 : ∀ c, c ≠ w.heap.size → W4.heap[c]? = W3.heap[c]? := fun c hc => by rw [← hW4, dK hc]
  have s3 : W3.heap.size = wr.heap.size + 2 := by rw [← hW3]; simp [hsz]
  have old : ∀ b c t, w.heap.size ≤ b → wr.heap[b]? = some (.cells c t (0, 0)) → W4.heap[b]? = some (.cells c t (0, 0)) := fun b c t hb h => by
    have hne : b ≠ w.heap.size := fun e => by rw [e, hes] at h; cases h
    have hne2 : b ≠ w.heap.size + 2 := fun e => by rw [e, hI.it] at h; cases h
    rw [e4 b hne, e3 b (hlt h), e2 b hne2]; exact h
  refine ⟨?_, ?_, ?_, ?_, ?_, ⟨_, _, by rw [← hW4]; exact jC (by omega), ?_, ?_, ?_⟩⟩
  · rw [e4 _ (by omega), e3 _ L2, ← hW2, jC (by rw [hh1]; exact L2)]
    simp [kE]
  · rw [e4 _ (by omega), e3 _ L1, e2 _ (by omega)]; exact hI.src
  · exact List.nodup_append.2 ⟨hI.nodup, by simp, fun a ha b hb e => by simp at hb; subst hb; subst e; exact his ha⟩
  · intro j hj
    simp at hj
    rcases hj with hj | rfl
    · exact hI.lt j hj
    · exact hi
  · have a1 : W4.os = wr.os ∧ W4.tape = wr.tape ∧ W4.output = wr.output := by
      rw [← hW4, ← hW3, ← hW2]; rcases hw1 with rfl | rfl <;> exact ⟨rfl, rfl, rfl⟩
    have s4 : W4.heap.size = wr.heap.size + 2 := by rw [← hW4, ou, s3]
    refine hI.low.trans ⟨a1.1, a1.2.1, a1.2.2, by omega, fun k hk => ?_⟩
    rw [e4 k (by omega), e3 k (by omega), e2 k (by omega)]
  · intro e he
    simp at he
    rcases he with he | rfl
    · obtain ⟨j, hj, hr⟩ := h1 e (by simpa using he)
      exact ⟨j, by simp [hj], hr.mono old⟩
    · exact ⟨i, by simp, rfl, W2.heap.size, W2.heap.size + 1, by omega, by omega, rfl, by rw [hsz, e4 _ (by omega)]; exact n1, by rw [hsz, e4 _ (by omega)]; exact n2⟩
  · intro j hj
    simp at hj
    rcases hj with hj | rfl
    · obtain ⟨e, he, hr⟩ := h2 j hj
      exact ⟨e, by simp; exact .inl (by simpa using he), hr.mono old⟩
    · exact ⟨_, by simp; exact .inr rfl, rfl, W2.heap.size, W2.heap.size + 1, by omega, by omega, rfl, by rw [hsz, e4 _ (by omega)]; exact n1, by rw [hsz, e4 _ (by omega)]; exact n2⟩
  · have fresh : ∀ e ∈ es.toList, e.key ≠ .string (kg i) := fun e he c => by
      obtain ⟨j, hj, hk, _⟩ := h1 e he
      rw [hk] at c
      exact his (Db (hI.lt j hj) hi (by simpa using c) ▸ hj)
    intro e he e' he' hk
    simp at he he'
    rcases he with he | rfl <;> rcases he' with he' | rfl
    · exact h3 e (by simpa using he) e' (by simpa using he') hk
    · exact absurd hk (fresh e (by simpa using he))
    · exact absurd hk.symm (fresh e' (by simpa using he'))
    · rfl
set_option maxHeartbeats 2000000 in
theorem B5 (w : World) : Calls prog gO #[] w fun e w' => e = .returned (.map (some w.heap.size)) ∧ ∃ seen, RI w w' seen ∧ ∀ i, i < 6 → i ∈ seen := by
  have hmm := @run_makeMap prog
  have hmf : ∀ (fn : Fn) (first cap : Array Value) (w : World), (Instr.makeFunc fn first cap).run prog w = .ok (.func fn first cap) w := fun _ _ _ _ => rfl
  have hrg := B4 ((w.alloc (.map #[] 0)).alloc (.map dJ.toArray 6)) (w.heap.size + 1) 6 dJ.toArray (by have := aR (w.alloc (.map #[] 0)) (.map dJ.toArray 6); simpa using this)
  rw [K8] at hrg
  go_enter Tryz.func48, Tryz.ntmps48
  go_wp2_with (go_at_call 39; refine (yC _).mono ?_; rintro e w' ⟨rfl, rfl⟩)
  go_loopw [7] (fun _ wr => ∃ seen, RI w wr seen) (fun _ wr => match wr.heap[w.heap.size + 2]? with | some (.mapIter _ _ s _) => 6 - s.size | _ => 0)
  case atStart =>
    have hb : ∀ o, Below w.heap.size w (((w.alloc (.map #[] 0)).alloc (.map dJ.toArray 6)).alloc o) := fun o => (((Below.refl _ w).alloc (Nat.le_refl _) _).alloc (by simp) _).alloc (by simp; omega) _
    refine ⟨[], ?_, ?_, by simp, by simp, hb _, ⟨#[], 0, ?_, by simp, by simp, by simp⟩⟩
    · have := aR ((w.alloc (.map #[] 0)).alloc (.map dJ.toArray 6)) (.mapIter (some (w.heap.size + 1)) 6 #[] 6)
      rw [K8] at this
      exact this
    · rw [bX (by simp)]
      have := aR (w.alloc (.map #[] 0)) (.map dJ.toArray 6)
      simpa using this
    · rw [bX (by simp; omega), bX (by simp)]
      exact aR _ _
  case round =>
    obtain ⟨seen, hI⟩ := hrel
    rcases run_next_at (P := prog) wr 0 (w.heap.size + 2) (w.heap.size + 1) 6 6 seen.toArray dJ.toArray 6 hI.it hI.src (by intro x hx; rw [ry] at hx; simp at hx; rcases hx with rfl | rfl | rfl | rfl | rfl | rfl <;> decide) (Nat.le_refl _) with ⟨h0, hn⟩ | ⟨e, he, w1, hw1, hn⟩
    · have hnx : ∀ ty, (Instr.next (.pointer (some ⟨w.heap.size + 2, 0, none⟩)) false ty).run prog wr = .ok (.tuple #[.bool false]) wr := fun ty => hn
      go_wp2
      go_ret
      exact ⟨rfl, seen, hI, Iv h0⟩
    · obtain ⟨i, hi, his, rfl⟩ := JR he
      obtain ⟨W2, hW2⟩ : ∃ W2, setBlock w1 (w.heap.size + 2) (.mapIter (some (w.heap.size + 1)) 6 (seen.toArray.push (kE i).born) 6) = W2 := ⟨_, rfl⟩
      rw [hW2] at hn
      have hnx : ∀ ty, (Instr.next (.pointer (some ⟨w.heap.size + 2, 0, none⟩)) false ty).run prog wr = .ok (.tuple #[.bool true, .int .i64 (i + 1), .agg #[.string (kg i), .int .i64 (kn i), .bool (kt i), .bool (ks i)]]) W2 := fun ty => hn
      have hh1 : w1.heap = wr.heap := by rcases hw1 with rfl | rfl <;> rfl
      have hen : (Instr.entry (.pointer (some ⟨w.heap.size + 2, 0, none⟩))).run prog W2 = .ok (.tuple #[.int .i64 (i + 1), .agg #[.string (kg i), .int .i64 (kn i), .bool (kt i), .bool (ks i)]]) W2 := by
        refine run_entry_at (P := prog) W2 (w.heap.size + 2) (w.heap.size + 1) 6 seen.toArray dJ.toArray 6 (kE i) ?_ ?_ ?_ ?_
        · rw [← hW2]; exact jC (by rw [hh1]; exact (Array.getElem?_eq_some_iff.1 hI.it).1)
        · rw [← hW2, dK (by omega), hh1]; exact hI.src
        · rw [ry]
          rcases i with _ | _ | _ | _ | _ | _ | i
          · simp
          · simp
          · simp
          · simp
          · simp
          · simp
          · omega
        · rw [ry]; decide
      obtain ⟨es, cl, hes, h1, h2, h3⟩ := hI.all
      have hstep := hI.step hi his hw1 hW2 hes h1 h2 h3
      have hA : ((W2.alloc (.cells #[.int .i64 (i + 1)] 29)).alloc (.cells #[.string (kg i), .int .i64 (kn i), .bool (kt i), .bool (ks i)] 78)).heap[w.heap.size]? = some (.map es cl) := by
        have L0 := (Array.getElem?_eq_some_iff.1 hes).1
        have hsz : W2.heap.size = wr.heap.size := by rw [← hW2, ou, hh1]
        rw [bX (by simp; omega), bX (by omega), ← hW2, dK (by omega), hh1]; exact hes
      have hmu := fun v => D5 _ _ _ _ hA (kg i) v (fun e he => by
        obtain ⟨j, hj, hk, _⟩ := h1 e he
        exact ⟨_, hk, fun c => his (Db (hI.lt j hj) hi c ▸ hj)⟩)
      have hit := hstep.it
      have hir := hI.it
      clear hn
      go_wp2
      go_roundw
      case rel => exact ⟨seen ++ [i], hstep⟩
      case measure =>
        have hlen : seen.length < 6 := by
          have hx : (seen ++ [i]).length ≤ 6 := by
            exact Fy 6 _ hstep.nodup hstep.lt
          simp at hx; omega
        have hit' := hit
        simp only [GG] at hit'
        rw [hir]
        first | rw [hit'] | skip
        simp
        omega
def ur:List cx:=(List.range 6).map fun i=>.s (kg i)
def AB:List AV:=(List.range 6).map fun (i:Nat)=>.fn (.func cz) [] [.iptr .free (.vs [.int .i64 ((i:Int)+1)]) 1 0 0,.iptr .free (.vs [.str (kg i),.int .i64 (kn i),.bool false (kt i),.bool false (ks i)]) 1 0 0]
theorem GH{i:Nat}{k:cx}(h:ur[i]? = some k) :i<6∧k=.s (kg i):=by
  simp only [ur,List.getElem?_map,Option.map_eq_some_iff] at h
  obtain ⟨j,h1,rfl⟩:=h
  have hl:=(List.getElem?_eq_some_iff.1 h1).1
  have hi:i<6:=by simpa using hl
  rw [List.getElem?_range hi] at h1
  cases h1
  exact ⟨hi,rfl⟩
theorem Iw{i:Nat}(h:i<6) :ur[i]? = some (.s (kg i)):=by
  simp only [ur,List.getElem?_map,List.getElem?_range h,Option.map_some]
theorem GI{i:Nat}{v:AV}(h:AB[i]? = some v) :i<6∧v=.fn (.func cz) [] [.iptr .free (.vs [.int .i64 ((i:Int)+1)]) 1 0 0,.iptr .free (.vs [.str (kg i),.int .i64 (kn i),.bool false (kt i),.bool false (ks i)]) 1 0 0]:=by
  simp only [AB,List.getElem?_map,Option.map_eq_some_iff] at h
  obtain ⟨j,h1,rfl⟩:=h
  have hl:=(List.getElem?_eq_some_iff.1 h1).1
  have hi:i<6:=by simpa using hl
  rw [List.getElem?_range hi] at h1
  cases h1
  exact ⟨hi,rfl⟩
theorem cell_of{w:World}{b:Nat}{c:Array Value}{t:TypeId}(h:w.heap[b]? = some (.cells c t (0,0)))(x:Nat) :w.cell? ⟨b,x,none⟩=c[x]?:=by
  simp [World.cell?,h]
theorem JS{ρ:ae}{w:World}{bl:Nat}{c:Array Value}{t:TypeId}{l:List AV}(ha:ρ.avoid .free bl)(hh:w.heap[bl]? = some (.cells c t (0,0)))(hv:bL ρ w l c.toList)(hk:bF l=true) :
    VR ρ w (.iptr .free (.vs l) 1 0 0) (.pointer (some ⟨bl,0,none⟩)):=by
  have hb:bl<w.heap.size:=(Array.getElem?_eq_some_iff.1 hh).1
  have:=VR.iptr (ρ:=ρ) (w:=w) .free (.vs l) 1 0 0 bl 0 (fun x=>(c[x]?).getD undef) ha hb (fun x v hx=>?_) (fun x v hx=>?_) trivial (fun _=>hk) (cQ hk)
  · simpa using this
  · obtain ⟨u,q1,_⟩:=hv.get x v hx
    rw [Nat.zero_add,cell_of hh]
    simp at q1
    rw [q1];rfl
  · obtain ⟨u,q1,q2⟩:=hv.get x v hx
    simp at q1
    rw [q1];exact q2
theorem GJ{ρ:ae}{w w':World}{seen:List Nat}(hI:RI w w' seen)(hall:∀ i,i<6→i∈seen)(ha:∀ bl,w.heap.size≤bl→ρ.avoid .free bl) :VR ρ w' (.gmap ur AB) (.map (some w.heap.size)):=by
  obtain ⟨es,cl,hes,h1,h2,h3⟩:=hI.all
  have pick:∀ i,∃ v,i<6→∃ e∈es.toList,RE w.heap.size w' i e∧e.val=v:=fun i=>by
    by_cases h:i<6
    · obtain ⟨e,he,hr⟩:=h2 i (hall i h)
      exact ⟨e.val,fun _=>⟨e,he,hr,rfl⟩⟩
    · exact ⟨undef,fun q=>absurd q h⟩
  obtain ⟨u,hu⟩:=Classical.axiomOfChoice pick
  refine .gmap _ _ w.heap.size es cl u (ha _ (Nat.le_refl _)) (Array.getElem?_eq_some_iff.1 hes).1 hes (fun e he=>?_) (fun i k hk=>?_) (fun x v hx=>?_) rfl (by decide)
  · obtain ⟨i,hi,hr⟩:=h1 e he
    have h6:=hI.lt i hi
    obtain ⟨e',he',hr',hv⟩:=hu i h6
    refine ⟨i,.s (kg i),Iw h6,hr.1,?_⟩
    rw [←hv,h3 e he e' he' (hr.1.trans hr'.1.symm)]
  · obtain ⟨h6,rfl⟩:=GH hk
    obtain ⟨e',he',hr',hv⟩:=hu i h6
    exact ⟨e',he',hr'.1,hv⟩
  · obtain ⟨h6,rfl⟩:=GI hx
    obtain ⟨e',he',⟨_,bn,bk,g1,g2,g3,g4,g5⟩,hv⟩:=hu x h6
    rw [←hv,g3]
    refine .fn _ _ _ _ _ .nil (.cons _ _ _ _ (JS (ha _ g1) g4 (.cons _ _ _ _ (.int _ _) .nil) rfl) (.cons _ _ _ _ (JS (ha _ g2) g5 ?_ rfl) .nil))
    exact .cons _ _ _ _ (.str _) (.cons _ _ _ _ (.int _ _) (.cons _ _ _ _ (.bool _ _) (.cons _ _ _ _ (.bool _ _) .nil)))
theorem Ix:am prog gO [] [] ⟨.gmap ur AB,[]⟩:=by
  refine ca ⟨FN gO,by kernel_rfl,by kernel_rfl⟩ fun ρ w us hN hv=>?_
  cases hv
  refine (B5 w).mono ?_
  rintro e w' ⟨rfl,seen,hI,hall⟩
  exact ⟨_,rfl,hI.low,GJ hI hall hN.new⟩
def xl:aH:=⟨gO,fun lent args=>match lent,args with | [],[]=>some [⟨⟨.gmap ur AB,[]⟩,[]⟩] | _,_=>none⟩
theorem D6:aM prog xl:=by
  intro lent args alts a h ha ho
  simp only [xl] at h
  split at h
  · simp only [Option.some.injEq] at h;subst h
    simp only [List.mem_singleton] at ha;subst ha
    exact Ix
  · cases h
end Go.Plb.Seat
namespace Go.Proofs
open Go.Shelf
def xm:Go.Shelf.Ren:=⟨fun | 170=>29 | n=>n,fun | 70=>55 | 3=>3 | 0=>0 | 72=>58 | 37=>56 | 5=>5 | n=>n,fun | n=>n⟩
theorem D7:Go.Proofs.Lays.n170 Tryz.prog xm:={
  mixed:=by kernel_rfl
  f170:=Tryz.func29.trans (congrArg some (by kernel_rfl))
  t0:=Tryz.underlying0
  a0:=Tryz.isAgg0
  z0:=Tryz.sizeOf0
  v0:=Tryz.zeroValue0
  t3:=Tryz.underlying3
  a3:=Tryz.isAgg3
  z3:=Tryz.sizeOf3
  v3:=Tryz.zeroValue3
  t37:=Tryz.underlying56
  a37:=Tryz.isAgg56
  z37:=Tryz.sizeOf56
  v37:=Tryz.zeroValue56
  t70:=Tryz.underlying55
  a70:=Tryz.isAgg55
  z70:=Tryz.sizeOf55
  v70:=Tryz.zeroValue55
  t72:=Tryz.underlying58
  a72:=Tryz.isAgg58
  z72:=Tryz.sizeOf58
  v72:=Tryz.zeroValue58 }
def oX:Go.Shelf.Ren:=⟨fun | 169=>30 | n=>n,fun | 70=>55 | 9=>9 | 0=>0 | 72=>58 | 37=>56 | 127=>98 | 3=>3 | 5=>5 | n=>n,fun | n=>n⟩
theorem D8:Go.Proofs.Lays.n169 Tryz.prog oX:={
  mixed:=by kernel_rfl
  f169:=Tryz.func30.trans (congrArg some (by kernel_rfl))
  t0:=Tryz.underlying0
  a0:=Tryz.isAgg0
  z0:=Tryz.sizeOf0
  v0:=Tryz.zeroValue0
  t3:=Tryz.underlying3
  a3:=Tryz.isAgg3
  z3:=Tryz.sizeOf3
  v3:=Tryz.zeroValue3
  t9:=Tryz.underlying9
  a9:=Tryz.isAgg9
  z9:=Tryz.sizeOf9
  v9:=Tryz.zeroValue9
  t37:=Tryz.underlying56
  a37:=Tryz.isAgg56
  z37:=Tryz.sizeOf56
  v37:=Tryz.zeroValue56
  t70:=Tryz.underlying55
  a70:=Tryz.isAgg55
  z70:=Tryz.sizeOf55
  v70:=Tryz.zeroValue55
  t72:=Tryz.underlying58
  a72:=Tryz.isAgg58
  z72:=Tryz.sizeOf58
  v72:=Tryz.zeroValue58
  t127:=Tryz.underlying98
  a127:=Tryz.isAgg98
  z127:=Tryz.sizeOf98
  v127:=Tryz.zeroValue98 }
theorem pO:Builder.Extra Tryz.prog oX:={
  sizeBuilder:=by kernel_rfl
  liesBuilder:=by kernel_rfl
  t5:=Tryz.underlying5
  a5:=Tryz.isAgg5
  z5:=Tryz.sizeOf5
  v5:=Tryz.zeroValue5
  infoByte:=by kernel_rfl
  cellsByte:=by kernel_rfl
  sizeByte:=by kernel_rfl
  neB5:=by decide }
def oY:Go.Shelf.Ren:=⟨fun | 156=>50 | 165=>65 | 166=>28 | 169=>30 | 240=>55 | 241=>79 | 276=>67 | 277=>93 | n=>n,fun | 31=>44 | 9=>9 | 3=>3 | 4=>4 | 0=>0 | 20=>20 | 72=>58 | 76=>64 | 70=>55 | 37=>56 | 75=>63 | 127=>98 | 164=>114 | 5=>5 | 80=>67 | n=>n,fun | n=>n⟩
theorem pP:Go.Proofs.Lays.n156 Tryz.prog oY:={
  mixed:=by kernel_rfl
  f156:=Tryz.func50.trans (congrArg some (by kernel_rfl))
  f165:=Tryz.func65.trans (congrArg some (by kernel_rfl))
  f166:=Tryz.func28.trans (congrArg some (by kernel_rfl))
  f169:=Tryz.func30.trans (congrArg some (by kernel_rfl))
  f240:=Tryz.func55.trans (congrArg some (by kernel_rfl))
  f241:=Tryz.func79.trans (congrArg some (by kernel_rfl))
  f276:=Tryz.func67.trans (congrArg some (by kernel_rfl))
  f277:=Tryz.func93.trans (congrArg some (by kernel_rfl))
  t0:=Tryz.underlying0
  a0:=Tryz.isAgg0
  z0:=Tryz.sizeOf0
  v0:=Tryz.zeroValue0
  t3:=Tryz.underlying3
  a3:=Tryz.isAgg3
  z3:=Tryz.sizeOf3
  v3:=Tryz.zeroValue3
  t4:=Tryz.underlying4
  a4:=Tryz.isAgg4
  z4:=Tryz.sizeOf4
  v4:=Tryz.zeroValue4
  t9:=Tryz.underlying9
  a9:=Tryz.isAgg9
  z9:=Tryz.sizeOf9
  v9:=Tryz.zeroValue9
  t20:=Tryz.underlying20
  a20:=Tryz.isAgg20
  z20:=Tryz.sizeOf20
  v20:=Tryz.zeroValue20
  t31:=Tryz.underlying44
  a31:=Tryz.isAgg44
  z31:=Tryz.sizeOf44
  v31:=Tryz.zeroValue44
  t37:=Tryz.underlying56
  a37:=Tryz.isAgg56
  z37:=Tryz.sizeOf56
  v37:=Tryz.zeroValue56
  t70:=Tryz.underlying55
  a70:=Tryz.isAgg55
  z70:=Tryz.sizeOf55
  v70:=Tryz.zeroValue55
  t72:=Tryz.underlying58
  a72:=Tryz.isAgg58
  z72:=Tryz.sizeOf58
  v72:=Tryz.zeroValue58
  t75:=Tryz.underlying63
  a75:=Tryz.isAgg63
  z75:=Tryz.sizeOf63
  v75:=Tryz.zeroValue63
  t76:=Tryz.underlying64
  a76:=Tryz.isAgg64
  z76:=Tryz.sizeOf64
  v76:=Tryz.zeroValue64
  t127:=Tryz.underlying98
  a127:=Tryz.isAgg98
  z127:=Tryz.sizeOf98
  v127:=Tryz.zeroValue98
  t164:=Tryz.underlying114
  a164:=Tryz.isAgg114
  z164:=Tryz.sizeOf114
  v164:=Tryz.zeroValue114 }
theorem ek:Builder.Extra Tryz.prog oY:={
  sizeBuilder:=by kernel_rfl
  liesBuilder:=by kernel_rfl
  t5:=Tryz.underlying5
  a5:=Tryz.isAgg5
  z5:=Tryz.sizeOf5
  v5:=Tryz.zeroValue5
  infoByte:=by kernel_rfl
  cellsByte:=by kernel_rfl
  sizeByte:=by kernel_rfl
  neB5:=by decide }
open Go.RowKit in
theorem Tryz.strings_Join_none (a : Option Addr) (c : Nat) (sep : ByteArray) (w : World) :
    Calls Tryz.prog 50 #[.slice a 0 c, .string sep] w fun e w' => e = .returned (.string ⟨#[]⟩) ∧ w' = w := Any.strings_Join_none pP ek a c sep w
open Go.RowKit in
theorem Tryz.strings_Join (bk o c : Nat) (xs : List ByteArray) (sep : ByteArray) (w : World) (hcells : ∀ (j : Nat) x, xs[j]? = some x → w.cell? ⟨bk, o + j, none⟩ = some (.string x)) (hbk : bk < w.heap.size) (hN : xs.length ≤ 140737488355328) (hcap : xs.length ≤ c) (hlen : (Lib.join (xs.map (·.data.toList)) sep.data.toList).length ≤ 140737488355328) :
    Calls Tryz.prog 50 #[.slice (some ⟨bk, o, none⟩) xs.length c, .string sep] w fun e w' => e = .returned (.string ⟨(Lib.join (xs.map (·.data.toList)) sep.data.toList).toArray⟩) ∧ Below w.heap.size w w' := Any.strings_Join pP ek bk o c xs sep w hcells hbk hN hcap hlen
open Go.RowKit in
theorem Tryz.Builder_Len_f (B b : Nat) (bs : List Value) (w : World) (h : Lib.IsBuilderF 58 5 B b bs w) :
    Calls Tryz.prog 29 #[.pointer (some ⟨b, 0, none⟩)] w fun e w' => e = .returned (.int .i64 bs.length) ∧ w' = w := Any.Builder_Len_f D7 B b bs w h
def vQ:Go.Shelf.Ren:=⟨fun | 171=>43 | 243=>61 | 246=>73 | 283=>86 | 284=>87 | 285=>88 | 286=>89 | 129=>102 | 317=>101 | 318=>103 | 319=>104 | 320=>105 | 337=>109 | 338=>110 | n=>n,fun | 3=>3 | 9=>9 | 2=>2 | 4=>4 | 171=>127 | 0=>0 | 53=>31 | 37=>56 | 5=>5 | 173=>130 | 212=>143 | 51=>133 | 20=>20 | 213=>144 | 46=>108 | 232=>161 | 233=>162 | n=>n,fun | 17=>1 | 18=>6 | 19=>7 | n=>n⟩
theorem B6:Go.Proofs.LaysM.n171 Tryz.prog vQ:={
  mixed:=by kernel_rfl
  f129:=Tryz.func102.trans (congrArg some (by kernel_rfl))
  f171:=Tryz.func43.trans (congrArg some (by kernel_rfl))
  f243:=Tryz.func61.trans (congrArg some (by kernel_rfl))
  f246:=Tryz.func73.trans (congrArg some (by kernel_rfl))
  f283:=Tryz.func86.trans (congrArg some (by kernel_rfl))
  f284:=Tryz.func87.trans (congrArg some (by kernel_rfl))
  f285:=Tryz.func88.trans (congrArg some (by kernel_rfl))
  f286:=Tryz.func89.trans (congrArg some (by kernel_rfl))
  f317:=Tryz.func101.trans (congrArg some (by kernel_rfl))
  f318:=Tryz.func103.trans (congrArg some (by kernel_rfl))
  f319:=Tryz.func104.trans (congrArg some (by kernel_rfl))
  f320:=Tryz.func105.trans (congrArg some (by kernel_rfl))
  f337:=Tryz.func109.trans (congrArg some (by kernel_rfl))
  f338:=Tryz.func110.trans (congrArg some (by kernel_rfl))
  t0:=Tryz.underlying0
  a0:=Tryz.isAgg0
  z0:=Tryz.sizeOf0
  v0:=Tryz.zeroValue0
  t2:=Tryz.underlying2
  a2:=Tryz.isAgg2
  z2:=Tryz.sizeOf2
  v2:=Tryz.zeroValue2
  t3:=Tryz.underlying3
  a3:=Tryz.isAgg3
  z3:=Tryz.sizeOf3
  v3:=Tryz.zeroValue3
  t4:=Tryz.underlying4
  a4:=Tryz.isAgg4
  z4:=Tryz.sizeOf4
  v4:=Tryz.zeroValue4
  t5:=Tryz.underlying5
  a5:=Tryz.isAgg5
  z5:=Tryz.sizeOf5
  v5:=Tryz.zeroValue5
  t9:=Tryz.underlying9
  a9:=Tryz.isAgg9
  z9:=Tryz.sizeOf9
  v9:=Tryz.zeroValue9
  t20:=Tryz.underlying20
  a20:=Tryz.isAgg20
  z20:=Tryz.sizeOf20
  v20:=Tryz.zeroValue20
  t37:=Tryz.underlying56
  a37:=Tryz.isAgg56
  z37:=Tryz.sizeOf56
  v37:=Tryz.zeroValue56
  t46:=Tryz.underlying108
  a46:=Tryz.isAgg108
  z46:=Tryz.sizeOf108
  v46:=Tryz.zeroValue108
  t51:=Tryz.underlying133
  a51:=Tryz.isAgg133
  z51:=Tryz.sizeOf133
  v51:=Tryz.zeroValue133
  t53:=Tryz.underlying31
  a53:=Tryz.isAgg31
  z53:=Tryz.sizeOf31
  v53:=Tryz.zeroValue31
  t171:=Tryz.underlying127
  a171:=Tryz.isAgg127
  z171:=Tryz.sizeOf127
  v171:=Tryz.zeroValue127
  t173:=Tryz.underlying130
  a173:=Tryz.isAgg130
  z173:=Tryz.sizeOf130
  v173:=Tryz.zeroValue130
  t212:=Tryz.underlying143
  a212:=Tryz.isAgg143
  z212:=Tryz.sizeOf143
  v212:=Tryz.zeroValue143
  t213:=Tryz.underlying144
  a213:=Tryz.isAgg144
  z213:=Tryz.sizeOf144
  t232:=Tryz.underlying161
  a232:=Tryz.isAgg161
  z232:=Tryz.sizeOf161
  v232:=Tryz.zeroValue161
  t233:=Tryz.underlying162
  a233:=Tryz.isAgg162
  z233:=Tryz.sizeOf162
  v233:=Tryz.zeroValue162
  g17:=by kernel_rfl
  g18:=by kernel_rfl
  g19:=by kernel_rfl
  i0:=by kernel_rfl
  i2:=by kernel_rfl
  i3:=by kernel_rfl
  i4:=by kernel_rfl
  i5:=by kernel_rfl
  i9:=by kernel_rfl
  i20:=by kernel_rfl
  i37:=by kernel_rfl
  i46:=by kernel_rfl
  i51:=by kernel_rfl
  i53:=by kernel_rfl
  i171:=by kernel_rfl
  i173:=by kernel_rfl
  i212:=by kernel_rfl
  i232:=by kernel_rfl
  i233:=by kernel_rfl
  m17:=by kernel_rfl
  m18:=by kernel_rfl
  m19:=by kernel_rfl }
open Go.RowKit Go.Sort Go.Lib in
theorem Tryz.strconv_Itoa (n : Int) (h0 : -9223372036854775808 ≤ n) (h1 : n ≤ 9223372036854775807) (w : World) (htab : Lib.TabIs Tryz.prog w "internal/strconv.uint64pow10" .u64 Lib.pow10Tab) :
    Calls Tryz.prog 43 #[.int .i64 n] w fun e w' => e = .returned (.string ⟨(Lib.itoa n).toArray⟩) ∧ ∃ k os, w' = grow (w.drewN k) os := Any.strconv_Itoa B6 n h0 h1 w htab
def vR:Go.Shelf.Ren:=⟨fun | 172=>69 | 244=>84 | 245=>85 | 247=>96 | 279=>97 | 280=>98 | 281=>99 | 282=>100 | 287=>106 | 316=>107 | 171=>43 | 205=>108 | 321=>111 | 322=>112 | 243=>61 | 246=>73 | 283=>86 | 284=>87 | 285=>88 | 286=>89 | 129=>102 | 317=>101 | 318=>103 | 319=>104 | 320=>105 | 337=>109 | 338=>110 | n=>n,fun | 9=>9 | 3=>3 | 75=>63 | 76=>64 | 4=>4 | 5=>5 | 167=>136 | 37=>56 | 0=>0 | 85=>137 | 2=>2 | 168=>139 | 53=>31 | 175=>150 | 46=>108 | 210=>154 | 127=>98 | 145=>160 | 143=>158 | 21=>21 | 171=>127 | 173=>130 | 212=>143 | 51=>133 | 20=>20 | 213=>144 | 232=>161 | 233=>162 | 80=>67 | n=>n,fun | 15=>4 | 16=>5 | 17=>1 | 18=>6 | 19=>7 | n=>n⟩
theorem ov:Go.Proofs.LaysC.n172 Tryz.prog vR:={
  mixed:=by kernel_rfl
  f129:=Tryz.func102.trans (congrArg some (by kernel_rfl))
  f171:=Tryz.func43.trans (congrArg some (by kernel_rfl))
  f172:=Tryz.func69.trans (congrArg some (by kernel_rfl))
  f205:=Tryz.func108.trans (congrArg some (by kernel_rfl))
  f243:=Tryz.func61.trans (congrArg some (by kernel_rfl))
  f244:=Tryz.func84.trans (congrArg some (by kernel_rfl))
  f245:=Tryz.func85.trans (congrArg some (by kernel_rfl))
  f246:=Tryz.func73.trans (congrArg some (by kernel_rfl))
  f247:=Tryz.func96.trans (congrArg some (by kernel_rfl))
  f279:=Tryz.func97.trans (congrArg some (by kernel_rfl))
  f280:=Tryz.func98.trans (congrArg some (by kernel_rfl))
  f281:=Tryz.func99.trans (congrArg some (by kernel_rfl))
  f282:=Tryz.func100.trans (congrArg some (by kernel_rfl))
  f283:=Tryz.func86.trans (congrArg some (by kernel_rfl))
  f284:=Tryz.func87.trans (congrArg some (by kernel_rfl))
  f285:=Tryz.func88.trans (congrArg some (by kernel_rfl))
  f286:=Tryz.func89.trans (congrArg some (by kernel_rfl))
  f287:=Tryz.func106.trans (congrArg some (by kernel_rfl))
  f316:=Tryz.func107.trans (congrArg some (by kernel_rfl))
  f317:=Tryz.func101.trans (congrArg some (by kernel_rfl))
  f318:=Tryz.func103.trans (congrArg some (by kernel_rfl))
  f319:=Tryz.func104.trans (congrArg some (by kernel_rfl))
  f320:=Tryz.func105.trans (congrArg some (by kernel_rfl))
  f321:=Tryz.func111.trans (congrArg some (by kernel_rfl))
  f322:=Tryz.func112.trans (congrArg some (by kernel_rfl))
  f337:=Tryz.func109.trans (congrArg some (by kernel_rfl))
  f338:=Tryz.func110.trans (congrArg some (by kernel_rfl))
  t0:=Tryz.underlying0
  a0:=Tryz.isAgg0
  z0:=Tryz.sizeOf0
  v0:=Tryz.zeroValue0
  t2:=Tryz.underlying2
  a2:=Tryz.isAgg2
  z2:=Tryz.sizeOf2
  v2:=Tryz.zeroValue2
  t3:=Tryz.underlying3
  a3:=Tryz.isAgg3
  z3:=Tryz.sizeOf3
  v3:=Tryz.zeroValue3
  t4:=Tryz.underlying4
  a4:=Tryz.isAgg4
  z4:=Tryz.sizeOf4
  v4:=Tryz.zeroValue4
  t5:=Tryz.underlying5
  a5:=Tryz.isAgg5
  z5:=Tryz.sizeOf5
  v5:=Tryz.zeroValue5
  t9:=Tryz.underlying9
  a9:=Tryz.isAgg9
  z9:=Tryz.sizeOf9
  v9:=Tryz.zeroValue9
  t20:=Tryz.underlying20
  a20:=Tryz.isAgg20
  z20:=Tryz.sizeOf20
  v20:=Tryz.zeroValue20
  t21:=Tryz.underlying21
  a21:=Tryz.isAgg21
  z21:=Tryz.sizeOf21
  v21:=Tryz.zeroValue21
  t37:=Tryz.underlying56
  a37:=Tryz.isAgg56
  z37:=Tryz.sizeOf56
  v37:=Tryz.zeroValue56
  t46:=Tryz.underlying108
  a46:=Tryz.isAgg108
  z46:=Tryz.sizeOf108
  v46:=Tryz.zeroValue108
  t51:=Tryz.underlying133
  a51:=Tryz.isAgg133
  z51:=Tryz.sizeOf133
  v51:=Tryz.zeroValue133
  t53:=Tryz.underlying31
  a53:=Tryz.isAgg31
  z53:=Tryz.sizeOf31
  v53:=Tryz.zeroValue31
  t75:=Tryz.underlying63
  a75:=Tryz.isAgg63
  z75:=Tryz.sizeOf63
  v75:=Tryz.zeroValue63
  t76:=Tryz.underlying64
  a76:=Tryz.isAgg64
  z76:=Tryz.sizeOf64
  v76:=Tryz.zeroValue64
  t85:=Tryz.underlying137
  a85:=Tryz.isAgg137
  z85:=Tryz.sizeOf137
  v85:=Tryz.zeroValue137
  t127:=Tryz.underlying98
  a127:=Tryz.isAgg98
  z127:=Tryz.sizeOf98
  v127:=Tryz.zeroValue98
  t143:=Tryz.underlying158
  a143:=Tryz.isAgg158
  z143:=Tryz.sizeOf158
  v143:=Tryz.zeroValue158
  t145:=Tryz.underlying160
  a145:=Tryz.isAgg160
  z145:=Tryz.sizeOf160
  v145:=Tryz.zeroValue160
  t167:=Tryz.underlying136
  a167:=Tryz.isAgg136
  z167:=Tryz.sizeOf136
  v167:=Tryz.zeroValue136
  t168:=Tryz.underlying139
  a168:=Tryz.isAgg139
  z168:=Tryz.sizeOf139
  v168:=Tryz.zeroValue139
  t171:=Tryz.underlying127
  a171:=Tryz.isAgg127
  z171:=Tryz.sizeOf127
  v171:=Tryz.zeroValue127
  t173:=Tryz.underlying130
  a173:=Tryz.isAgg130
  z173:=Tryz.sizeOf130
  v173:=Tryz.zeroValue130
  t175:=Tryz.underlying150
  a175:=Tryz.isAgg150
  z175:=Tryz.sizeOf150
  v175:=Tryz.zeroValue150
  t210:=Tryz.underlying154
  a210:=Tryz.isAgg154
  z210:=Tryz.sizeOf154
  v210:=Tryz.zeroValue154
  t212:=Tryz.underlying143
  a212:=Tryz.isAgg143
  z212:=Tryz.sizeOf143
  v212:=Tryz.zeroValue143
  t213:=Tryz.underlying144
  a213:=Tryz.isAgg144
  z213:=Tryz.sizeOf144
  t232:=Tryz.underlying161
  a232:=Tryz.isAgg161
  z232:=Tryz.sizeOf161
  v232:=Tryz.zeroValue161
  t233:=Tryz.underlying162
  a233:=Tryz.isAgg162
  z233:=Tryz.sizeOf162
  v233:=Tryz.zeroValue162
  g15:=by kernel_rfl
  g16:=by kernel_rfl
  g17:=by kernel_rfl
  g18:=by kernel_rfl
  g19:=by kernel_rfl
  t80:=Tryz.underlying67
  a80:=Tryz.isAgg67
  z80:=Tryz.sizeOf67
  v80:=Tryz.zeroValue67
  i0:=by kernel_rfl
  i2:=by kernel_rfl
  i3:=by kernel_rfl
  i4:=by kernel_rfl
  i5:=by kernel_rfl
  i9:=by kernel_rfl
  i20:=by kernel_rfl
  i21:=by kernel_rfl
  i37:=by kernel_rfl
  i46:=by kernel_rfl
  i51:=by kernel_rfl
  i53:=by kernel_rfl
  i75:=by kernel_rfl
  i76:=by kernel_rfl
  i80:=by kernel_rfl
  i85:=by kernel_rfl
  i127:=by kernel_rfl
  i143:=by kernel_rfl
  i145:=by kernel_rfl
  i167:=by kernel_rfl
  i168:=by kernel_rfl
  i171:=by kernel_rfl
  i173:=by kernel_rfl
  i175:=by kernel_rfl
  i210:=by kernel_rfl
  i212:=by kernel_rfl
  i232:=by kernel_rfl
  i233:=by kernel_rfl
  m15:=by kernel_rfl
  m16:=by kernel_rfl
  m17:=by kernel_rfl
  m18:=by kernel_rfl
  m19:=by kernel_rfl
  c0:=by kernel_rfl
  c2:=by kernel_rfl
  c3:=by kernel_rfl
  c4:=by kernel_rfl
  c5:=by kernel_rfl
  c9:=by kernel_rfl
  c20:=by kernel_rfl
  c21:=by kernel_rfl
  c37:=by kernel_rfl
  c46:=by kernel_rfl
  c51:=by kernel_rfl
  c53:=by kernel_rfl
  c75:=by kernel_rfl
  c76:=by kernel_rfl
  c80:=by kernel_rfl
  c85:=by kernel_rfl
  c127:=by kernel_rfl
  c143:=by kernel_rfl
  c145:=by kernel_rfl
  c167:=by kernel_rfl
  c168:=by kernel_rfl
  c171:=by kernel_rfl
  c173:=by kernel_rfl
  c175:=by kernel_rfl
  c210:=by kernel_rfl
  c212:=by kernel_rfl
  c213:=by kernel_rfl
  c232:=by kernel_rfl
  c233:=by kernel_rfl }
open Go.RowKit in
theorem Tryz.strconv_Atoi_ok (s : ByteArray) (hmax : s.size ≤ 9223372036854775806) (v : Int) (h : Lib.atoiAll s.data.toList = .ok v) (w : World) :
    Calls Tryz.prog 69 #[.string s] w fun e w' => e = .returned (.tuple #[.int .i64 v, .nilIface]) ∧ (w' = w ∨ ∃ t, w' = Lib.bytesWorld w 5 t) := Any.strconv_Atoi_ok ov s hmax v h w
open Go.RowKit in
theorem Tryz.strconv_Atoi_syntax (s : ByteArray) (hlim : s.size ≤ 281474976710656) (h : Lib.atoiAll s.data.toList = Lib.atoiAll []) (ev : Value) (w : World) (hv : w.cell? ⟨4, 0, none⟩ = some ev) (hev : ev = .nilIface ∨ ∃ te pe, ev = .iface te pe) :
    Calls Tryz.prog 69 #[.string s] w fun e w' => ∃ N, e = .returned (.tuple #[.int .i64 (0), .iface 139 (.pointer (some ⟨N, 0, none⟩))]) ∧ w.heap.size ≤ N ∧ w'.heap[N]? = some (.cells #[.string ⟨#[65, 116, 111, 105]⟩, .string s, ev] 154 (0, 0)) ∧ Below w.heap.size w w' := Any.strconv_Atoi_syntax ov s hlim h ev w hv hev
open Go.RowKit in
theorem Tryz.strconv_Atoi_range (s : ByteArray) (hlim : s.size ≤ 281474976710656) (h : Lib.atoiAll s.data.toList = .range) (ev : Value) (w : World) (hv : w.cell? ⟨5, 0, none⟩ = some ev) (hev : ev = .nilIface ∨ ∃ te pe, ev = .iface te pe) :
    Calls Tryz.prog 69 #[.string s] w fun e w' => ∃ N, e = .returned (.tuple #[.int .i64 (Lib.atoiSat s.data.toList), .iface 139 (.pointer (some ⟨N, 0, none⟩))]) ∧ w.heap.size ≤ N ∧ w'.heap[N]? = some (.cells #[.string ⟨#[65, 116, 111, 105]⟩, .string s, ev] 154 (0, 0)) ∧ Below w.heap.size w w' := Any.strconv_Atoi_range ov s hlim h ev w hv hev
def xn:Go.Shelf.Ren:=⟨fun | 143=>76 | 219=>68 | 217=>80 | 225=>81 | 224=>82 | 267=>83 | 266=>94 | 314=>95 | n=>n,fun | 9=>9 | 3=>3 | 4=>4 | 5=>5 | 46=>108 | 146=>134 | 51=>133 | n=>n,fun | 1=>0 | n=>n⟩
theorem D9:Go.Proofs.Lays.n143 Tryz.prog xn:={
  mixed:=by kernel_rfl
  f143:=Tryz.func76.trans (congrArg some (by kernel_rfl))
  f217:=Tryz.func80.trans (congrArg some (by kernel_rfl))
  f219:=Tryz.func68.trans (congrArg some (by kernel_rfl))
  f224:=Tryz.func82.trans (congrArg some (by kernel_rfl))
  f225:=Tryz.func81.trans (congrArg some (by kernel_rfl))
  f266:=Tryz.func94.trans (congrArg some (by kernel_rfl))
  f267:=Tryz.func83.trans (congrArg some (by kernel_rfl))
  f314:=Tryz.func95.trans (congrArg some (by kernel_rfl))
  t3:=Tryz.underlying3
  a3:=Tryz.isAgg3
  z3:=Tryz.sizeOf3
  v3:=Tryz.zeroValue3
  t4:=Tryz.underlying4
  a4:=Tryz.isAgg4
  z4:=Tryz.sizeOf4
  v4:=Tryz.zeroValue4
  t5:=Tryz.underlying5
  a5:=Tryz.isAgg5
  z5:=Tryz.sizeOf5
  v5:=Tryz.zeroValue5
  t9:=Tryz.underlying9
  a9:=Tryz.isAgg9
  z9:=Tryz.sizeOf9
  v9:=Tryz.zeroValue9
  t46:=Tryz.underlying108
  a46:=Tryz.isAgg108
  z46:=Tryz.sizeOf108
  v46:=Tryz.zeroValue108
  t51:=Tryz.underlying133
  a51:=Tryz.isAgg133
  z51:=Tryz.sizeOf133
  v51:=Tryz.zeroValue133
  t146:=Tryz.underlying134
  a146:=Tryz.isAgg134
  z146:=Tryz.sizeOf134
  v146:=Tryz.zeroValue134
  g1:=by kernel_rfl }
open Go.RowKit Go.Lib in
theorem Tryz.strings_Index_one (s : ByteArray) (c : UInt8) (w : World) :
    Calls Tryz.prog 76 #[.string s, .string ⟨#[c]⟩] w fun e w' => e = .returned (.int .i64 (Lib.indexByte s.data.toList c)) ∧ w' = w := Any.strings_Index_one D9 s c w
end Go.Proofs
